/- A part of the proof: several texts, one behind the other. -/
import Derived.Test.YtgdfkjjgdkejfaaLRideEmptiedC
set_option linter.unusedVariables false
set_option linter.unusedSimpArgs false
set_option maxRecDepth 100000
namespace Go.Proofs.Ytgdfkjjgdkejfaa
open Go Ax
open Go.Proofs
def cOI1 (x:Option (List Int)):AV:=match x with
 | none=>.nilSl
 | some l=>.rsl (rowI l) 0 l.length
def cOI (x:Option (List Int)):List AV:=[cOI1 x]
def Yy (l:List (Option (List Int))):List AV:=l.flatMap cOI
theorem Ya {α:Type} {v:Option (List α)} (h:v.isSome=true):v=some (v.getD []):=by cases v with
 | none=>simp at h
 | some x=>rfl
theorem VC {α:Type} {v:Option α} (h:v.isSome=false):v=none:=by cases v with
 | none=>rfl
 | some x=>simp at h
/-- The first number below 'n' with a property. -/
def YP (p:Nat→Bool):Nat→Option Nat
 | 0=>none
 | n+1=>match YP p n with
  | some i=>some i
  | none=>if p n=true then some n else none
theorem Wf {p:Nat→Bool}:∀ {n:Nat},(∀ j,j<n→p j=false)→YP p n=none
 | 0,_=>rfl
 | n+1,h=>by simp only [YP,Wf (n:=n) (fun j hj=>h j (by omega)),h n (by omega)]; rfl
theorem ql {p:Nat→Bool} {i:Nat}:∀ {n:Nat},i<n→p i=true→(∀ j,j<i→p j=false)→YP p n=some i
 | 0,h,_,_=>by omega
 | n+1,h,hp,hj=>by
  rcases Nat.lt_or_ge i n with h1 | h1
  · simp only [YP,ql h1 hp hj]
  · have e:i=n:=by omega
    subst e
    simp only [YP,Wf hj,hp,if_true]
theorem We {p:Nat→Bool} {i:Nat}:∀ {n:Nat},YP p n=some i→i<n∧p i=true∧∀ j,j<i→p j=false
 | 0,h=>by cases h
 | n+1,h=>by
  simp only [YP] at h
  split at h
  · rename_i k hk
    cases h
    obtain ⟨a,b,c⟩:=We hk
    exact ⟨by omega,b,c⟩
  · rename_i hk
    split at h
    · rename_i hp
      cases h
      refine ⟨by omega,hp,fun j hj=>?_⟩
      cases hpj:p j with
      | false=>rfl
      | true =>
       exfalso
       have:∀ {m:Nat},j<m→YP p m ≠ none:=by
        intro m
        induction m with
        | zero=>intro h; omega
        | succ m ih =>
         intro h hn
         simp only [YP] at hn
         split at hn
         · cases hn
         · rename_i hk2
           rcases Nat.lt_or_ge j m with h1 | h1
           · exact ih h1 hk2
           · rw [show m=j by omega,if_pos hpj] at hn; cases hn
       exact this hj hk
    · cases h
theorem firstN_no {p:Nat→Bool} {n:Nat} (h:YP p n=none):∀ j,j<n→p j=false:=fun j hj=>by
 induction n with
 | zero=>omega
 | succ n ih =>
  simp only [YP] at h
  split at h
  · cases h
  · rename_i hk
    split at h
    · cases h
    · rename_i hp
      rcases Nat.lt_or_ge j n with h1 | h1
      · exact ih hk h1
      · rw [show j=n by omega]; simpa using hp
theorem range_any {p:Nat→Bool} {k:Nat}:(List.range (k+1)).any p=((List.range k).any p || p k):=by rw [List.range_succ]; simp [List.any_append]
def dS:Spt:=⟨0,0,false⟩
def dC:Car:=⟨⟨0,0,false⟩,0⟩
def dD:Said:=⟨0,0⟩
def Wu (row:List Spt) (i:Nat) (x:Spt) (k:Nat):Bool:=!decide (k=i) && x.block == (row.getD k dS).block
def badB (c:Cir) (row:List Spt) (i:Nat):Bool:=(List.range row.length).any (Wu row i (row.getD i dS)) || ((row.getD i dS).opn && decide ((row.getD i dS).ran<(bkAt c (row.getD i dS).block).time))
def crashO (c:Cir) (row:List Spt):Option Nat:=YP (badB c row) row.length
def QH (c:Cir) (row:List Spt):Spt × Int:=match crashO c row with
 | some i=>(row.getD i dS,(i:Int))
 | none=>(dS,-1)
theorem crash_some {c:Cir} {row:List Spt} {i:Nat} (h:i<row.length) (hb:badB c row i=true) (hp:∀ j,j<i→badB c row j=false):QH c row=(row.getD i dS,(i:Int)):=by
 rw [QH,crashO,ql h hb hp]
theorem crash_none {c:Cir} {row:List Spt} (hp:∀ j,j<row.length→badB c row j=false):QH c row=(dS,-1):=by
 rw [QH,crashO,Wf hp]
/-- A list,mapped up to a place. -/
def Wr {α:Type} (f:α→α) (l:List α) (i:Nat):List α:=(l.take i).map f++l.drop i
theorem Kq {α:Type} {f:α→α} {l:List α} {i:Nat} (h:i<l.length):(Wr f l i)[i]?=some l[i]:=by
 rw [Wr,List.getElem?_append_right (by simp; omega)]
 simp [Nat.min_eq_left (Nat.le_of_lt h)]
theorem Ko {α:Type} {f:α→α} {l:List α} {i:Nat} (h:i<l.length):(Wr f l i).set i (f l[i])=Wr f l (i+1):=by
 apply List.ext_getElem?
 intro j
 simp only [Wr]
 rw [List.getElem?_set]
 split
 · rename_i e
   subst e
   rw [if_pos (by simp; omega),List.getElem?_append_left (by simp; omega),List.getElem?_map,List.getElem?_take,if_pos (by omega),List.getElem?_eq_getElem h]; rfl
 · rename_i e
   rcases Nat.lt_or_ge j i with hj | hj
   · rw [List.getElem?_append_left (by simp; omega),List.getElem?_append_left (by simp; omega)]
     simp [List.getElem?_take,hj,show j<i+1 by omega]
   · rw [List.getElem?_append_right (by simp; omega),List.getElem?_append_right (by simp; omega)]
     simp only [List.length_map,List.length_take,List.getElem?_drop]
     congr 1; omega
theorem mapTo_set_id {α:Type} {f:α→α} {l:List α} {i:Nat} (h:i<l.length) (hf:f l[i]=l[i]):Wr f l i=Wr f l (i+1):=by
 rw [← Ko h,hf]
 apply List.ext_getElem?
 intro j
 rw [List.getElem?_set]
 split
 · rename_i e; subst e
   have:=Kq (f:=f) h
   rw [this,if_pos (List.getElem?_eq_some_iff.1 this).1]
 · rfl
theorem mapTo_all {α:Type} {f:α→α} {l:List α}:Wr f l l.length=l.map f:=by simp [Wr]
theorem Qai {α:Type} {f:α→α} {l:List α}:Wr f l 0=l:=by simp [Wr]
theorem mapTo_len {α:Type} {f:α→α} {l:List α} {i:Nat}:(Wr f l i).length=l.length:=by simp [Wr]; omega
def Qr (c:Cir) (x:Car):Car:=if XV c x=true then ⟨x.spot,x.stood+1⟩ else ⟨⟨x.spot.block,x.spot.ran+1,x.spot.opn⟩,x.stood⟩
structure CarOk (c:Cir) (x:Car):Prop where
 inC:InC c x.spot.block
 ran:-1000000≤x.spot.ran∧x.spot.ran≤1000000
 stood:-1000000≤x.stood∧x.stood≤1000000
/-- What a button does: the cars,for which blocks Go is remembered,where a restraint has been opened. -/
def qU (c:Cir) (rd:Rd4) (p:Prs):Bool:=(bkAt c p.block).station && Qu (rd.k2.getD (Int.toNat p.block) dD) 1 && Qu (rd.k1.getD (Int.toNat p.block) dD) 1
def hitP (op:Bool) (p:Prs) (x:Car):Bool:=x.spot.block == p.block && (p.kind == 2 || op)
def Vp (op:Bool) (p:Prs) (x:Car):Car:=if hitP op p x=true then ⟨⟨x.spot.block,x.spot.ran,p.kind == 1⟩,x.stood⟩ else x
def opsP (op:Bool) (p:Prs) (cars:List Car) (ops:List Bool):List Bool:=ops.set (Int.toNat p.block) (ops.getD (Int.toNat p.block) false || (p.kind == 1 && cars.any (hitP op p)))
def Xm (c:Cir) (rd:Rd4) (p:Prs) (s:List Car × List Bool × List Bool):List Car × List Bool × List Bool :=
 if p.kind=3 then (s.1,s.2.1.set (Int.toNat p.block) true,s.2.2)
 else (s.1.map (Vp (qU c rd p) p),s.2.1,opsP (qU c rd p) p s.1 s.2.2)
/-- The cars that may go. -/
def QaV (cars:List Car) (b:Nat) (n:Nat):Option Nat:=YP (fun i=>(cars.getD i dC).spot.block == (b:Int)) n
structure Brk where
 cars:List Car
 gos:List Bool
 rounds:Int
 gone:Int
def YN (c:Cir) (b:Nat):Nat:=(b+1) % c.blocks.length
def qj (c:Cir) (rd:Rd4) (ops:List Bool) (b:Nat):Bool:=Qu (rd.k2.getD b dD) 1 && Qu (rd.k3.getD b dD) 1 && !(ops.getD b false) && Qu (rd.k1.getD (YN c b) dD) 0
def qt (c:Cir) (s:Brk) (b i:Nat):Bool:=(c.blocks.getD b ⟨0,false,0,false⟩).station && (!(s.gos.getD b false) || decide ((s.cars.getD i dC).stood<(c.blocks.getD b ⟨0,false,0,false⟩).hold))
def goB (c:Cir) (s:Brk) (b i:Nat):Brk:=⟨s.cars.set i ⟨⟨(YN c b:Nat),0,(s.cars.getD i dC).spot.opn⟩,0⟩,s.gos.set b false,if YN c b=0 then s.rounds+1 else s.rounds,s.gone+1⟩
def YT (c:Cir) (rd:Rd4) (ops:List Bool) (cars0:List Car) (b:Nat) (s:Brk):Brk :=
 if qj c rd ops b=true then (match QaV cars0 b cars0.length with
  | none=>s
  | some i=>if qt c s b i=true then s else goB c s b i) else s
def QP (c:Cir) (rd:Rd4) (ops:List Bool) (cars0:List Car):Nat→Brk→Brk
 | 0,s=>s
 | b+1,s=>YT c rd ops cars0 b (QP c rd ops cars0 b s)
def Xx (cars:List Car):Prop:=∀ i j,i<j→j<cars.length→(cars.getD i dC).spot.block ≠ (cars.getD j dC).spot.block
def qX (cars:List Car) (nb n:Nat):List (Option (List Int)):=(List.range nb).map fun b=>(QaV cars b n).map fun i=>[(i:Int)]
theorem WK {cars:List Car} {nb n:Nat}:(qX cars nb n).length=nb:=by simp [qX]
theorem qC {cars:List Car} {nb n b:Nat} (h:b<nb):(qX cars nb n)[b]?=some ((QaV cars b n).map fun i=>[(i:Int)]):=by
 rw [qX,List.getElem?_map,List.getElem?_range h]; rfl
theorem here_zero {cars:List Car} {nb:Nat}:qX cars nb 0=List.replicate nb none:=by
 apply List.ext_getElem?
 intro j
 rcases Nat.lt_or_ge j nb with h | h
 · rw [qC h,List.getElem?_replicate,if_pos h]; rfl
 · rw [List.getElem?_eq_none (by rw [WK]; exact h),List.getElem?_eq_none (by simpa using h)]
theorem KL {cars:List Car} (hs:Xx cars) {i b:Nat} (hi:i<cars.length) (hb:(cars.getD i dC).spot.block=(b:Int)):QaV cars b i=none:=Wf fun j hj=>by
 have:=hs j i hj hi
 rw [hb] at this
 exact beq_eq_false_iff_ne.2 this
theorem here_set {cars:List Car} (hs:Xx cars) {nb i b:Nat} (hi:i<cars.length) (hb:(cars.getD i dC).spot.block=(b:Int)) (hbn:b<nb) :
 (qX cars nb i).set b (some [(i:Int)])=qX cars nb (i+1):=by
 apply List.ext_getElem?
 intro j
 rcases Nat.lt_or_ge j nb with h | h
 · rw [qC h,List.getElem?_set]
   split
   · rename_i e
     subst e
     rw [if_pos (by rw [WK]; exact h)]
     have:=KL hs hi hb
     simp only [QaV] at this ⊢
     simp only [YP,this,hb,beq_self_eq_true,if_true]; rfl
   · rename_i e
     rw [qC h]
     have hne:((cars.getD i dC).spot.block == (j:Int))=false:=by rw [hb]; simp; omega
     simp only [QaV,YP,hne]
     cases YP (fun i=>(cars.getD i dC).spot.block == (j:Int)) i <;> rfl
 · rw [List.getElem?_eq_none (by rw [List.length_set,WK]; exact h),List.getElem?_eq_none (by rw [WK]; exact h)]
theorem f60b:Try.f60.body=some (Qh Try.prog 60):=by kernel_rfl
theorem u60 {a c k:List AV} {r:AV} (h:Pure Try.prog 60 (a++c++k) r):Qd Try.prog (.clos 60 a k) c r:=QQ Try.func60 (by kernel_rfl) f60b h
def f60K0 (P:Program):List Item:=kAt 400 [.code (Qh P 60)] [.stop]
def f60S0 (c:Cir) (row:(List Spt)) (i:Nat):St:=⟨([J,.rsl (Qb row) 0 row.length,.ptr 0 0 0,J,.ptr 1 0 0]++jj 6 ([.rsl (Qb row) 0 row.length,.int .i64 (row.length:Int),.int .i64 (i:Int)]++Js 46)),[⟨true,0,1,true,[.rsl (Qk c.blocks) 0 c.blocks.length,.rsl (rowI c.cars) 0 c.cars.length],false⟩,⟨true,0,1,true,[.int .i64 0,.int .i64 0,.bool false],false⟩]⟩
def f60G0 (E:Env) (c:Cir) (row:(List Spt)) (i:Nat):Prop:=G Try.prog E (f60K0 Try.prog) (f60S0 c row i )
def yI (P:Program):List Item:=kAt 400 [.code (Qh P 60)] [.b true,.stop]
def f60S1 (c:Cir) (row:(List Spt)) (v2_0:Int) (v2_1:Int) (v2_2:Bool) (k:Nat) (shares:Bool) (i:Nat) (k1:Nat):St:=⟨([J,.rsl (Qb row) 0 row.length,.ptr 0 0 0,J,.ptr 1 0 0,J,.int .i64 (i:Int),.ptr 2 0 0,.bool shares,J,J,.rsl (Qb row) 0 row.length,.int .i64 (row.length:Int),.int .i64 (k1:Int),J,J,J,J,.rsl (Qb row) 0 row.length,.int .i64 (row.length:Int),.int .i64 (k:Int)]++Js 39),[⟨true,0,1,true,[.rsl (Qk c.blocks) 0 c.blocks.length,.rsl (rowI c.cars) 0 c.cars.length],false⟩,⟨true,0,1,true,[.int .i64 0,.int .i64 0,.bool false],false⟩,⟨true,0,1,true,[.int .i64 v2_0,.int .i64 v2_1,.bool v2_2],false⟩]⟩
def f60G1 (E:Env) (c:Cir) (row:(List Spt)) (v2_0:Int) (v2_1:Int) (v2_2:Bool) (k:Nat) (shares:Bool) (i:Nat) (k1:Nat):Prop:=G Try.prog E (yI Try.prog) (f60S1 c row v2_0 v2_1 v2_2 k shares i k1 )
abbrev z60_1 (c:Cir):List AV:=[.rsl (Qk c.blocks) 0 c.blocks.length,.rsl (rowI c.cars) 0 c.cars.length]
abbrev Qaw (se:Spt):List AV:=[.int .i64 se.block,.int .i64 se.ran,.bool se.opn]
abbrev z60_3 (c:Cir) (v2_0:Int) (v2_1:Int) (v2_2:Bool):List Blk:=[⟨true,0,1,true,(z60_1 c),false⟩,⟨true,0,1,true,[.int .i64 0,.int .i64 0,.bool false],false⟩,⟨true,0,1,true,[.int .i64 v2_0,.int .i64 v2_1,.bool v2_2],false⟩]
abbrev z60_4 (c:Cir):List Blk:=[⟨true,0,1,true,(z60_1 c),false⟩,⟨true,0,1,true,[.int .i64 0,.int .i64 0,.bool false],false⟩]
abbrev z60_5 (row:(List Spt)) (k1:Nat):List AV:=[J,.rsl (Qb row) 0 row.length,.ptr 0 0 0,J,.ptr 1 0 0]++jj 6 ([.rsl (Qb row) 0 row.length,.int .i64 (row.length:Int),.int .i64 ((k1:Int)+1)]++Js 46)
theorem p60_start_0 (c:Cir) (row:(List Spt)) {E:Env} {rv:AV} (hE:Qn Try.prog 60 rv E) (ho:AllP [])
 (hg:G Try.prog E (f60K0 Try.prog) ⟨([J,.rsl (Qb row) 0 row.length,.ptr 0 0 0,J,.ptr 1 0 0]++jj 6 ([.rsl (Qb row) 0 row.length,.int .i64 (row.length:Int),.int .i64 0]++Js 46)),(z60_4 c)⟩):G Try.prog E [.code (Qh Try.prog 60)] ⟨[.agg (z60_1 c),.rsl (Qb row) 0 row.length]++unds (Try.f60.ntmps - 2),[]⟩ :=
 Qg (n:=400) (ds:=[]) (cs:=[]) (live:=[1,2,4,11,12,13]) (m:=2) (evs:=[.stop]) (obs:=_) hE.2.1 (hE.nogh _) Ql (by kernel_rfl) ho hg
theorem f60W (c:Cir) (row:(List Spt)) {E:Env} {rv:(Spt × Int)} (hE:Qn Try.prog 60 (.tup [.agg [.int .i64 rv.1.block,.int .i64 rv.1.ran,.bool rv.1.opn],.int .i64 rv.2]) E)
 (h:f60G0 E c row 0):G Try.prog E [.code (Qh Try.prog 60)] ⟨[.agg [.rsl (Qk c.blocks) 0 c.blocks.length,.rsl (rowI c.cars) 0 c.cars.length],.rsl (Qb row) 0 row.length]++unds (Try.f60.ntmps - 2),[]⟩:=by
 exact p60_start_0 c row hE trivial h
theorem p60_0_0 (c:Cir) (row:(List Spt)) (i:Nat) (se:Spt) {E:Env} {rv:AV} (hE:Qn Try.prog 60 rv E) (ho:AllP [(decide ((i:Int)<(row.length:Int)))=true,0≤(i:Int)∧(i:Int)<(row.length:Int),((Qb row).drop (0+(Int.toNat (i:Int))*3)).take 3=(Qaw se),3≤3])
 (hg:G Try.prog E (yI Try.prog) ⟨([J,.rsl (Qb row) 0 row.length,.ptr 0 0 0,J,.ptr 1 0 0,J,.int .i64 (i:Int),.ptr 2 0 0,.bool false,J,J,.rsl (Qb row) 0 row.length,.int .i64 (row.length:Int),.int .i64 (i:Int),J,J,J,J,.rsl (Qb row) 0 row.length,.int .i64 (row.length:Int),.int .i64 0]++Js 39),[⟨true,0,1,true,(z60_1 c),false⟩,⟨true,0,1,true,[.int .i64 0,.int .i64 0,.bool false],false⟩,⟨true,0,1,true,(Qaw se),false⟩]⟩):G Try.prog E (f60K0 Try.prog) (f60S0 c row i ) :=
 Qg (n:=400) (ds:=[]) (cs:=[]) (live:=[1,2,4,6,7,8,11,12,13,18,19,20]) (m:=3) (evs:=[.b true,.ld (.agg (Qaw se)),.stop]) (obs:=_) hE.2.1 (hE.nogh _) Ql (by kernel_rfl) ho hg
theorem p60_0_1 (c:Cir) (row:(List Spt)) (i:Nat) {E:Env} {res:AV} (hE:Qn Try.prog 60 res E) (ho:AllP [(decide ((i:Int)<(row.length:Int)))=false,3≤3])
 (hr:AvLe (.tup [.agg [.int .i64 0,.int .i64 0,.bool false],.int .i64 (-1)]) res):G Try.prog E (f60K0 Try.prog) (f60S0 c row i ) :=
 Qf (n:=400) (evs:=[.b false]) (obs:=_) hE Try.func60 Ql (by kernel_rfl) ho hr
theorem f60W0 (c:Cir) (row:(List Spt)) (i:Nat) {E:Env} {rv:(Spt × Int)} (hE:Qn Try.prog 60 (.tup [.agg [.int .i64 rv.1.block,.int .i64 rv.1.ran,.bool rv.1.opn],.int .i64 rv.2]) E)
 (h:(((i:Int)<(row.length:Int)→(∃ se:Spt,row[i]?=some se∧f60G1 E c row se.block se.ran se.opn 0 false i i))∧(¬ ((i:Int)<(row.length:Int))→rv=((⟨0,0,false⟩:Spt),(-1))))):f60G0 E c row i:=by
 rcases bft (decide ((i:Int)<(row.length:Int))) with hc0 | hc0
 · have h:=h.1 (odt hc0)
   obtain ⟨se,h1,h⟩:=h
   exact p60_0_0 c row i se hE ⟨hc0,(Qp h1),(rp cSpt 3 0 3 h1),(by decide),trivial⟩ h
 · have h:=h.2 (odf hc0)
   exact p60_0_1 c row i hE ⟨hc0,(by decide),trivial⟩ (AvLe.of_eq (by rw [h]; try rfl))
theorem p60_1_0 (c:Cir) (row:(List Spt)) (v2_0:Int) (v2_1:Int) (v2_2:Bool) (k:Nat) (shares:Bool) (i:Nat) (k1:Nat) (se:Spt) {E:Env} {rv:AV} (hE:Qn Try.prog 60 rv E) (ho:AllP [(decide ((k:Int)<(row.length:Int)))=true,0≤(k:Int)∧(k:Int)<(row.length:Int),((Qb row).drop (0+(Int.toNat (k:Int))*3)).take 3=(Qaw se),3≤3,shares=true,InR .i64 ((k:Int)+1)])
 (hg:G Try.prog E (yI Try.prog) ⟨([J,.rsl (Qb row) 0 row.length,.ptr 0 0 0,J,.ptr 1 0 0,J,.int .i64 (i:Int),.ptr 2 0 0,.bool true,J,J,.rsl (Qb row) 0 row.length,.int .i64 (row.length:Int),.int .i64 (k1:Int),J,J,J,J,.rsl (Qb row) 0 row.length,.int .i64 (row.length:Int),.int .i64 ((k:Int)+1)]++Js 39),(z60_3 c v2_0 v2_1 v2_2)⟩):G Try.prog E (yI Try.prog) (f60S1 c row v2_0 v2_1 v2_2 k shares i k1 ) :=
 Qg (n:=400) (ds:=[]) (cs:=[]) (live:=[1,2,4,6,7,8,11,12,13,18,19,20]) (m:=3) (evs:=[.b true,.ld (.agg (Qaw se)),.b true,.stop]) (obs:=_) hE.2.1 (hE.nogh _) Ql (by kernel_rfl) ho hg
theorem p60_1_1 (c:Cir) (row:(List Spt)) (v2_0:Int) (v2_1:Int) (v2_2:Bool) (k:Nat) (shares:Bool) (i:Nat) (k1:Nat) (se:Spt) {E:Env} {rv:AV} (hE:Qn Try.prog 60 rv E) (ho:AllP [(decide ((k:Int)<(row.length:Int)))=true,0≤(k:Int)∧(k:Int)<(row.length:Int),((Qb row).drop (0+(Int.toNat (k:Int))*3)).take 3=(Qaw se),3≤3,shares=false,((k:Int) != (i:Int))=true,InR .i64 ((k:Int)+1)])
 (hg:G Try.prog E (yI Try.prog) ⟨([J,.rsl (Qb row) 0 row.length,.ptr 0 0 0,J,.ptr 1 0 0,J,.int .i64 (i:Int),.ptr 2 0 0,.bool (v2_0 == se.block),J,J,.rsl (Qb row) 0 row.length,.int .i64 (row.length:Int),.int .i64 (k1:Int),J,J,J,J,.rsl (Qb row) 0 row.length,.int .i64 (row.length:Int),.int .i64 ((k:Int)+1)]++Js 39),(z60_3 c v2_0 v2_1 v2_2)⟩):G Try.prog E (yI Try.prog) (f60S1 c row v2_0 v2_1 v2_2 k shares i k1 ) :=
 Qg (n:=400) (ds:=[]) (cs:=[]) (live:=[1,2,4,6,7,8,11,12,13,18,19,20]) (m:=3) (evs:=[.b true,.ld (.agg (Qaw se)),.b false,.b true,.stop]) (obs:=_) hE.2.1 (hE.nogh _) Ql (by kernel_rfl) ho hg
theorem p60_1_2 (c:Cir) (row:(List Spt)) (v2_0:Int) (v2_1:Int) (v2_2:Bool) (k:Nat) (shares:Bool) (i:Nat) (k1:Nat) (se:Spt) {E:Env} {rv:AV} (hE:Qn Try.prog 60 rv E) (ho:AllP [(decide ((k:Int)<(row.length:Int)))=true,0≤(k:Int)∧(k:Int)<(row.length:Int),((Qb row).drop (0+(Int.toNat (k:Int))*3)).take 3=(Qaw se),3≤3,shares=false,((k:Int) != (i:Int))=false,InR .i64 ((k:Int)+1)])
 (hg:G Try.prog E (yI Try.prog) ⟨([J,.rsl (Qb row) 0 row.length,.ptr 0 0 0,J,.ptr 1 0 0,J,.int .i64 (i:Int),.ptr 2 0 0,.bool false,J,J,.rsl (Qb row) 0 row.length,.int .i64 (row.length:Int),.int .i64 (k1:Int),J,J,J,J,.rsl (Qb row) 0 row.length,.int .i64 (row.length:Int),.int .i64 ((k:Int)+1)]++Js 39),(z60_3 c v2_0 v2_1 v2_2)⟩):G Try.prog E (yI Try.prog) (f60S1 c row v2_0 v2_1 v2_2 k shares i k1 ) :=
 Qg (n:=400) (ds:=[]) (cs:=[]) (live:=[1,2,4,6,7,8,11,12,13,18,19,20]) (m:=3) (evs:=[.b true,.ld (.agg (Qaw se)),.b false,.b false,.stop]) (obs:=_) hE.2.1 (hE.nogh _) Ql (by kernel_rfl) ho hg
theorem p60_1_3 (c:Cir) (row:(List Spt)) (v2_0:Int) (v2_1:Int) (v2_2:Bool) (k:Nat) (shares:Bool) (i:Nat) (k1:Nat) {E:Env} {res:AV} (hE:Qn Try.prog 60 res E) (ho:AllP [(decide ((k:Int)<(row.length:Int)))=false,shares=true,true=true,3≤3])
 (hr:AvLe (.tup [.agg [.int .i64 v2_0,.int .i64 v2_1,.bool v2_2],.int .i64 (i:Int)]) res):G Try.prog E (yI Try.prog) (f60S1 c row v2_0 v2_1 v2_2 k shares i k1 ) :=
 Qf (n:=400) (evs:=[.b false,.b true,.b true]) (obs:=_) hE Try.func60 Ql (by kernel_rfl) ho hr
theorem p60_1_4 (c:Cir) (row:(List Spt)) (v2_0:Int) (v2_1:Int) (v2_2:Bool) (k:Nat) (shares:Bool) (i:Nat) (k1:Nat) (be:Bk) {E:Env} {res:AV} (hE:Qn Try.prog 60 res E) (ho:AllP [(decide ((k:Int)<(row.length:Int)))=false,shares=false,v2_2=true,0≤v2_0∧v2_0<(c.blocks.length:Int),((Qk c.blocks).drop ((0+(Int.toNat v2_0)*4)+0)).take 1=[.int .i64 be.time],(decide (v2_1<be.time))=true,3≤3])
 (hr:AvLe (.tup [.agg [.int .i64 v2_0,.int .i64 v2_1,.bool v2_2],.int .i64 (i:Int)]) res):G Try.prog E (yI Try.prog) (f60S1 c row v2_0 v2_1 v2_2 k shares i k1 ) :=
 Qf (n:=400) (evs:=[.b false,.b false,.b true,.auto,.auto,.auto,.ld (.int .i64 be.time),.b true]) (obs:=_) hE Try.func60 Ql (by kernel_rfl) ho hr
theorem p60_1_5 (c:Cir) (row:(List Spt)) (v2_0:Int) (v2_1:Int) (v2_2:Bool) (k:Nat) (shares:Bool) (i:Nat) (k1:Nat) (be:Bk) {E:Env} {rv:AV} (hE:Qn Try.prog 60 rv E) (ho:AllP [(decide ((k:Int)<(row.length:Int)))=false,shares=false,v2_2=true,0≤v2_0∧v2_0<(c.blocks.length:Int),((Qk c.blocks).drop ((0+(Int.toNat v2_0)*4)+0)).take 1=[.int .i64 be.time],(decide (v2_1<be.time))=false,InR .i64 ((k1:Int)+1)])
 (hg:G Try.prog E (f60K0 Try.prog) ⟨(z60_5 row k1),(z60_4 c)⟩):G Try.prog E (yI Try.prog) (f60S1 c row v2_0 v2_1 v2_2 k shares i k1 ) :=
 Qg (n:=400) (ds:=[]) (cs:=[]) (live:=[1,2,4,11,12,13]) (m:=2) (evs:=[.b false,.b false,.b true,.auto,.auto,.auto,.ld (.int .i64 be.time),.b false,.stop]) (obs:=_) hE.2.1 (hE.nogh _) Ql (by kernel_rfl) ho hg
theorem p60_1_6 (c:Cir) (row:(List Spt)) (v2_0:Int) (v2_1:Int) (v2_2:Bool) (k:Nat) (shares:Bool) (i:Nat) (k1:Nat) {E:Env} {rv:AV} (hE:Qn Try.prog 60 rv E) (ho:AllP [(decide ((k:Int)<(row.length:Int)))=false,shares=false,v2_2=false,false=false,InR .i64 ((k1:Int)+1)])
 (hg:G Try.prog E (f60K0 Try.prog) ⟨(z60_5 row k1),(z60_4 c)⟩):G Try.prog E (yI Try.prog) (f60S1 c row v2_0 v2_1 v2_2 k shares i k1 ) :=
 Qg (n:=400) (ds:=[]) (cs:=[]) (live:=[1,2,4,11,12,13]) (m:=2) (evs:=[.b false,.b false,.b false,.b false,.stop]) (obs:=_) hE.2.1 (hE.nogh _) Ql (by kernel_rfl) ho hg
theorem f60W1 (c:Cir) (row:(List Spt)) (v2_0:Int) (v2_1:Int) (v2_2:Bool) (k:Nat) (shares:Bool) (i:Nat) (k1:Nat) {E:Env} {rv:(Spt × Int)} (hE:Qn Try.prog 60 (.tup [.agg [.int .i64 rv.1.block,.int .i64 rv.1.ran,.bool rv.1.opn],.int .i64 rv.2]) E)
 (h:(((k:Int)<(row.length:Int)→(∃ se:Spt,row[k]?=some se∧((shares=true→((I6 ((k:Int)+1))∧f60G1 E c row v2_0 v2_1 v2_2 (k+1) true i k1))∧(shares=false→((¬ ((k:Int)=(i:Int))→((I6 ((k:Int)+1))∧f60G1 E c row v2_0 v2_1 v2_2 (k+1) (v2_0 == se.block) i k1))∧((k:Int)=(i:Int)→((I6 ((k:Int)+1))∧f60G1 E c row v2_0 v2_1 v2_2 (k+1) false i k1)))))))∧(¬ ((k:Int)<(row.length:Int))→((shares=true→rv=((⟨v2_0,v2_1,v2_2⟩:Spt),(i:Int)))∧(shares=false→((v2_2=true→(0≤v2_0∧(∃ be:Bk,c.blocks[Int.toNat v2_0]?=some be∧((v2_1<be.time→rv=((⟨v2_0,v2_1,v2_2⟩:Spt),(i:Int)))∧(¬ (v2_1<be.time)→((I6 ((k1:Int)+1))∧f60G0 E c row (k1+1)))))))∧(v2_2=false→((I6 ((k1:Int)+1))∧f60G0 E c row (k1+1))))))))):f60G1 E c row v2_0 v2_1 v2_2 k shares i k1:=by
 rcases bft (decide ((k:Int)<(row.length:Int))) with hc0 | hc0
 · have h:=h.1 (odt hc0)
   obtain ⟨se,h1,h⟩:=h
   rcases bft shares with hc1 | hc1
   · have h:=h.1 hc1
     obtain ⟨q6_2,h⟩:=h
     exact p60_1_0 c row v2_0 v2_1 v2_2 k shares i k1 se hE ⟨hc0,(Qp h1),(rp cSpt 3 0 3 h1),(by decide),hc1,q6_2,trivial⟩ h
   · have h:=h.2 hc1
     rcases bft ((k:Int) != (i:Int)) with hc2 | hc2
     · have h:=h.1 (bneT hc2)
       obtain ⟨q7_3,h⟩:=h
       exact p60_1_1 c row v2_0 v2_1 v2_2 k shares i k1 se hE ⟨hc0,(Qp h1),(rp cSpt 3 0 3 h1),(by decide),hc1,hc2,q7_3,trivial⟩ h
     · have h:=h.2 (bneF hc2)
       obtain ⟨q7_3,h⟩:=h
       exact p60_1_2 c row v2_0 v2_1 v2_2 k shares i k1 se hE ⟨hc0,(Qp h1),(rp cSpt 3 0 3 h1),(by decide),hc1,hc2,q7_3,trivial⟩ h
 · have h:=h.2 (odf hc0)
   rcases bft shares with hc1 | hc1
   · have h:=h.1 hc1
     exact p60_1_3 c row v2_0 v2_1 v2_2 k shares i k1 hE ⟨hc0,hc1,rfl,(by decide),trivial⟩ (AvLe.of_eq (by rw [h]; try rfl))
   · have h:=h.2 hc1
     rcases bft v2_2 with hc2 | hc2
     · have h:=h.1 hc2
       obtain ⟨h2,h⟩:=h
       obtain ⟨be,h1,h⟩:=h
       rcases bft (decide (v2_1<be.time)) with hc3 | hc3
       · have h:=h.1 (odt hc3)
         exact p60_1_4 c row v2_0 v2_1 v2_2 k shares i k1 be hE ⟨hc0,hc1,hc2,(QG h2 h1),(rp cBk 4 0 1 h1),hc3,(by decide),trivial⟩ (AvLe.of_eq (by rw [h]; try rfl))
       · have h:=h.2 (odf hc3)
         obtain ⟨q7_4,h⟩:=h
         exact p60_1_5 c row v2_0 v2_1 v2_2 k shares i k1 be hE ⟨hc0,hc1,hc2,(QG h2 h1),(rp cBk 4 0 1 h1),hc3,q7_4,trivial⟩ h
     · have h:=h.2 hc2
       obtain ⟨q4_3,h⟩:=h
       exact p60_1_6 c row v2_0 v2_1 v2_2 k shares i k1 hE ⟨hc0,hc1,hc2,rfl,q4_3,trivial⟩ h
theorem Wl (c:Cir) (row:List Spt) (h:(∀ x ∈ row,InC c x.block)∧row.length≤2147483648):Pure Try.prog 60 [.agg [.rsl (Qk c.blocks) 0 c.blocks.length,.rsl (rowI c.cars) 0 c.cars.length],.rsl (Qb row) 0 row.length] (.tup [.agg [.int .i64 (QH c row).1.block,.int .i64 (QH c row).1.ran,.bool (QH c row).1.opn],.int .i64 (QH c row).2]):=QT Try.func60 f60b fun E hE=>by
 obtain ⟨hin,hl⟩:=h
 have outer:∀ (d i:Nat),i+d=row.length→(∀ j,j<i→badB c row j=false)→f60G0 E c row i:=by
  intro d
  induction d with
  | zero=>intro i hi hp; exact f60W0 c row i (rv:=QH c row) hE ⟨fun h=>by omega,fun _=>crash_none (by rw [show row.length=i by omega]; exact hp)⟩
  | succ d ih =>
   intro i hi hp
   have hx:row[i]?=some (row.getD i dS):=getD_some (by omega)
   have hxi:=hin _ (List.mem_of_getElem? hx)
   have yes:badB c row i=true→QH c row=(⟨(row.getD i dS).block,(row.getD i dS).ran,(row.getD i dS).opn⟩,(i:Int)):=fun h=>crash_some (by omega) h hp
   have no:badB c row i=false→f60G0 E c row (i+1):=fun h=>ih (i+1) (by omega) fun j hj=>by
    rcases Nat.lt_or_ge j i with h1 | h1
    · exact hp j h1
    · rw [show j=i by omega]; exact h
   have inner:∀ (e k:Nat) (sh:Bool),k+e=row.length→sh=(List.range k).any (Wu row i (row.getD i dS))→f60G1 E c row (row.getD i dS).block (row.getD i dS).ran (row.getD i dS).opn k sh i i:=by
    intro e
    induction e with
    | zero =>
     intro k sh hk hsh
     rw [show k=row.length by omega] at hsh
     have hbad:badB c row i=(sh || ((row.getD i dS).opn && decide ((row.getD i dS).ran<(bkAt c (row.getD i dS).block).time))):=by rw [badB,← hsh]
     refine f60W1 c row _ _ _ k sh i i (rv:=QH c row) hE ⟨fun h=>by omega,fun _=>⟨fun h1=>yes (by rw [hbad,h1]; rfl),fun h1=>⟨fun h2=>⟨hxi.1,_,QaW hxi,fun h3=>yes (by rw [hbad,h1,h2,decide_eq_true h3]; rfl),fun h3=>⟨by omega,no (by rw [hbad,h1,h2,decide_eq_false h3]; rfl)⟩⟩,fun h2=>⟨by omega,no (by rw [hbad,h1,h2]; rfl)⟩⟩⟩⟩
    | succ e ihe =>
     intro k sh hk hsh
     have hy:row[k]?=some (row.getD k dS):=getD_some (by omega)
     have nx:=fun sh' (h:sh'=(sh || Wu row i (row.getD i dS) k))=>ihe (k+1) sh' (by omega) (by rw [range_any,← hsh]; exact h)
     refine f60W1 c row _ _ _ k sh i i (rv:=QH c row) hE ⟨fun _=>⟨_,hy,fun h1=>⟨by omega,nx true (by rw [h1]; rfl)⟩,fun h1=>⟨fun h2=>⟨by omega,nx _ (by rw [h1,Wu,decide_eq_false (by omega)]; rfl)⟩,fun h2=>⟨by omega,nx false (by rw [h1,Wu,decide_eq_true (by omega)]; rfl)⟩⟩⟩,fun h=>by omega⟩
   exact f60W0 c row i (rv:=QH c row) hE ⟨fun _=>⟨_,hx,inner row.length 0 false (by omega) rfl⟩,fun h=>by omega⟩
 exact f60W c row (rv:=QH c row) hE (outer row.length 0 (by omega) (fun j hj=>by omega))
theorem f71b:Try.f71.body=some (Qh Try.prog 71):=by kernel_rfl
def f71K0 (P:Program):List Item:=kAt 400 [.code (Qh P 71)] [.stop]
def f71S0 (c:Cir) (faults:List Flt) (cars:List Car) (gos:List Bool) (tick stopped:Int) (wrecked:Bool) (rounds gone:Int) (g1 g2:Nat) (i:Nat) (v1:List Car):St:=⟨([.ptr 0 0 0]++jj 6 ([.sl 1 g1 0 v1.length 4,.int .i64 (cars.length:Int),.int .i64 (i:Int)]++Js 32)),[⟨true,0,1,false,[.rsl (Qk c.blocks) 0 c.blocks.length,.rsl (rowI c.cars) 0 c.cars.length,.rsl (Qo faults) 0 faults.length,.sl 1 g1 0 v1.length 4,.sl 2 g2 0 gos.length 1,.int .i64 tick,.int .i64 stopped,.bool wrecked,.int .i64 rounds,.int .i64 gone],false⟩,⟨true,g1,4,true,(Qi v1),true⟩,⟨true,g2,1,true,(rowB gos),true⟩]⟩
def f71G0 (E:Env) (c:Cir) (faults:List Flt) (cars:List Car) (gos:List Bool) (tick stopped:Int) (wrecked:Bool) (rounds gone:Int) (g1 g2:Nat) (i:Nat) (v1:List Car):Prop:=G Try.prog E (f71K0 Try.prog) (f71S0 c faults cars gos tick stopped wrecked rounds gone g1 g2 i v1 )
abbrev z71_1 (ce:Car):List AV:=[.int .i64 ce.spot.block,.int .i64 ce.spot.ran,.bool ce.spot.opn,.int .i64 ce.stood]
abbrev z71_2 (c:Cir) (faults:List Flt) (g1:Nat) (v1:List Car) (g2:Nat) (gos:List Bool) (tick:Int) (stopped:Int) (wrecked:Bool) (rounds:Int) (gone:Int):List AV:=[.rsl (Qk c.blocks) 0 c.blocks.length,.rsl (rowI c.cars) 0 c.cars.length,.rsl (Qo faults) 0 faults.length,.sl 1 g1 0 v1.length 4,.sl 2 g2 0 gos.length 1,.int .i64 tick,.int .i64 stopped,.bool wrecked,.int .i64 rounds,.int .i64 gone]
theorem p71_start_0 (c:Cir) (faults:List Flt) (cars:List Car) (gos:List Bool) (tick stopped:Int) (wrecked:Bool) (rounds gone:Int) (g1 g2:Nat) {E:Env} {rv:AV} {bs2:List Blk} (hE:LentE Try.prog 71 [.sl 2 g2 0 0 1] rv bs2 E) (ho:AllP [g1=g1])
 (hg:G Try.prog E (f71K0 Try.prog) ⟨([.ptr 0 0 0]++jj 6 ([.sl 1 g1 0 cars.length 4,.int .i64 (cars.length:Int),.int .i64 0]++Js 32)),[⟨true,0,1,false,[.rsl (Qk c.blocks) 0 c.blocks.length,.rsl (rowI c.cars) 0 c.cars.length,.rsl (Qo faults) 0 faults.length,.sl 1 g1 0 cars.length 4,.sl 2 g2 0 gos.length 1,.int .i64 tick,.int .i64 stopped,.bool wrecked,.int .i64 rounds,.int .i64 gone],false⟩,⟨true,g1,4,true,(Qi cars),true⟩,⟨true,g2,1,true,(rowB gos),true⟩]⟩):G Try.prog E [.code (Qh Try.prog 71)] ⟨[.ptr 0 0 0]++unds (Try.f71.ntmps - 1),[⟨true,0,1,false,[.rsl (Qk c.blocks) 0 c.blocks.length,.rsl (rowI c.cars) 0 c.cars.length,.rsl (Qo faults) 0 faults.length,.sl 1 g1 0 cars.length 4,.sl 2 g2 0 gos.length 1,.int .i64 tick,.int .i64 stopped,.bool wrecked,.int .i64 rounds,.int .i64 gone],false⟩,⟨true,g1,4,true,(Qi cars),true⟩,⟨true,g2,1,true,(rowB gos),true⟩]⟩ :=
 Qg (n:=400) (ds:=[]) (cs:=[]) (live:=[0,7,8,9]) (m:=3) (evs:=[.stop]) (obs:=_) hE.kind (hE.nogh (by kernel_rfl)) Ql (by kernel_rfl) ho hg
theorem f71W (c:Cir) (faults:List Flt) (cars:List Car) (gos:List Bool) (tick stopped:Int) (wrecked:Bool) (rounds gone:Int) (g1 g2:Nat) {E:Env} {rv:Unit} {cars2:List Car} (hE:LentE Try.prog 71 [.sl 2 g2 0 0 1] (.tup []) [⟨true,0,1,false,[.rsl (Qk c.blocks) 0 c.blocks.length,.rsl (rowI c.cars) 0 c.cars.length,.rsl (Qo faults) 0 faults.length,.sl 1 g1 0 cars2.length 4,.sl 2 g2 0 gos.length 1,.int .i64 tick,.int .i64 stopped,.bool wrecked,.int .i64 rounds,.int .i64 gone],false⟩,⟨true,g1,4,true,(Qi cars2),true⟩,⟨true,g2,1,true,(rowB gos),true⟩] E)
 (h:f71G0 E c faults cars gos tick stopped wrecked rounds gone g1 g2 0 cars):G Try.prog E [.code (Qh Try.prog 71)] ⟨[.ptr 0 0 0]++unds (Try.f71.ntmps - 1),[⟨true,0,1,false,[.rsl (Qk c.blocks) 0 c.blocks.length,.rsl (rowI c.cars) 0 c.cars.length,.rsl (Qo faults) 0 faults.length,.sl 1 g1 0 cars.length 4,.sl 2 g2 0 gos.length 1,.int .i64 tick,.int .i64 stopped,.bool wrecked,.int .i64 rounds,.int .i64 gone],false⟩,⟨true,g1,4,true,(Qi cars),true⟩,⟨true,g2,1,true,(rowB gos),true⟩]⟩:=by
 exact p71_start_0 c faults cars gos tick stopped wrecked rounds gone g1 g2 hE ⟨rfl,trivial⟩ h
theorem p71_0_0 (c:Cir) (faults:List Flt) (cars:List Car) (gos:List Bool) (tick stopped:Int) (wrecked:Bool) (rounds gone:Int) (g1 g2:Nat) (i:Nat) (v1:List Car) (ce:Car) {E:Env} {rv:AV} {bs2:List Blk} (hE:LentE Try.prog 71 [.sl 2 g2 0 0 1] rv bs2 E) (ho:AllP [(decide ((i:Int)<(cars.length:Int)))=true,0≤(i:Int)∧(i:Int)<(v1.length:Int),g1=g1,g1=g1,((Qi v1).drop (0+(Int.toNat (i:Int))*4)).take 4=(z71_1 ce),4≤4,Qd Try.prog (.clos 89 [] []) [.rptr [.rsl (Qk c.blocks) 0 c.blocks.length,.rsl (rowI c.cars) 0 c.cars.length,.rsl (Qo faults) 0 faults.length,.rsl (Qi v1) 0 v1.length,.rsl (rowB gos) 0 gos.length,.int .i64 tick,.int .i64 stopped,.bool wrecked,.int .i64 rounds,.int .i64 gone] 0,.agg (z71_1 ce)] (.bool (XV (⟨c,faults,v1,gos,tick,stopped,wrecked,rounds,gone⟩:Trk).c ce)),g1=g1,g2=g2,(XV (⟨c,faults,v1,gos,tick,stopped,wrecked,rounds,gone⟩:Trk).c ce)=true,0≤(i:Int)∧(i:Int)<(v1.length:Int),g1=g1,g1=g1,g1=g1,((Qi v1).drop ((0+(Int.toNat (i:Int))*4)+3)).take 1=[.int .i64 ce.stood],InR .i64 (ce.stood+1),0≤(i:Int)∧(i:Int)<(v1.length:Int),g1=g1,g1=g1,(((0+(Int.toNat (i:Int))*4)+3)+1)≤(Qi v1).length,g1=g1,InR .i64 ((i:Int)+1)])
 (hg:G Try.prog E (f71K0 Try.prog) ⟨([.ptr 0 0 0]++jj 6 ([.sl 1 g1 0 v1.length 4,.int .i64 (cars.length:Int),.int .i64 ((i:Int)+1)]++Js 32)),[⟨true,0,1,false,(z71_2 c faults g1 v1 g2 gos tick stopped wrecked rounds gone),false⟩,⟨true,g1,4,true,(Qx (Qi v1) ((0+(Int.toNat (i:Int))*4)+3) [.int .i64 (ce.stood+1)]),true⟩,⟨true,g2,1,true,(rowB gos),true⟩]⟩):G Try.prog E (f71K0 Try.prog) (f71S0 c faults cars gos tick stopped wrecked rounds gone g1 g2 i v1 ) :=
 Qg (n:=400) (ds:=[]) (cs:=[]) (live:=[0,7,8,9]) (m:=3) (evs:=[.b true,.ld (.agg (z71_1 ce)),.v (.bool (XV (⟨c,faults,v1,gos,tick,stopped,wrecked,rounds,gone⟩:Trk).c ce)),.b true,.auto,.ld (.int .i64 ce.stood),.stop]) (obs:=_) hE.kind (hE.nogh (by kernel_rfl)) Ql (by kernel_rfl) ho hg
theorem p71_0_1 (c:Cir) (faults:List Flt) (cars:List Car) (gos:List Bool) (tick stopped:Int) (wrecked:Bool) (rounds gone:Int) (g1 g2:Nat) (i:Nat) (v1:List Car) (ce:Car) {E:Env} {rv:AV} {bs2:List Blk} (hE:LentE Try.prog 71 [.sl 2 g2 0 0 1] rv bs2 E) (ho:AllP [(decide ((i:Int)<(cars.length:Int)))=true,0≤(i:Int)∧(i:Int)<(v1.length:Int),g1=g1,g1=g1,((Qi v1).drop (0+(Int.toNat (i:Int))*4)).take 4=(z71_1 ce),4≤4,Qd Try.prog (.clos 89 [] []) [.rptr [.rsl (Qk c.blocks) 0 c.blocks.length,.rsl (rowI c.cars) 0 c.cars.length,.rsl (Qo faults) 0 faults.length,.rsl (Qi v1) 0 v1.length,.rsl (rowB gos) 0 gos.length,.int .i64 tick,.int .i64 stopped,.bool wrecked,.int .i64 rounds,.int .i64 gone] 0,.agg (z71_1 ce)] (.bool (XV (⟨c,faults,v1,gos,tick,stopped,wrecked,rounds,gone⟩:Trk).c ce)),g1=g1,g2=g2,(XV (⟨c,faults,v1,gos,tick,stopped,wrecked,rounds,gone⟩:Trk).c ce)=false,0≤(i:Int)∧(i:Int)<(v1.length:Int),g1=g1,g1=g1,g1=g1,g1=g1,((Qi v1).drop (((0+(Int.toNat (i:Int))*4)+0)+1)).take 1=[.int .i64 ce.spot.ran],InR .i64 (ce.spot.ran+1),0≤(i:Int)∧(i:Int)<(v1.length:Int),g1=g1,g1=g1,g1=g1,((((0+(Int.toNat (i:Int))*4)+0)+1)+1)≤(Qi v1).length,g1=g1,InR .i64 ((i:Int)+1)])
 (hg:G Try.prog E (f71K0 Try.prog) ⟨([.ptr 0 0 0]++jj 6 ([.sl 1 g1 0 v1.length 4,.int .i64 (cars.length:Int),.int .i64 ((i:Int)+1)]++Js 32)),[⟨true,0,1,false,(z71_2 c faults g1 v1 g2 gos tick stopped wrecked rounds gone),false⟩,⟨true,g1,4,true,(Qx (Qi v1) (((0+(Int.toNat (i:Int))*4)+0)+1) [.int .i64 (ce.spot.ran+1)]),true⟩,⟨true,g2,1,true,(rowB gos),true⟩]⟩):G Try.prog E (f71K0 Try.prog) (f71S0 c faults cars gos tick stopped wrecked rounds gone g1 g2 i v1 ) :=
 Qg (n:=400) (ds:=[]) (cs:=[]) (live:=[0,7,8,9]) (m:=3) (evs:=[.b true,.ld (.agg (z71_1 ce)),.v (.bool (XV (⟨c,faults,v1,gos,tick,stopped,wrecked,rounds,gone⟩:Trk).c ce)),.b false,.auto,.ld (.int .i64 ce.spot.ran),.stop]) (obs:=_) hE.kind (hE.nogh (by kernel_rfl)) Ql (by kernel_rfl) ho hg
theorem p71_0_2 (c:Cir) (faults:List Flt) (cars:List Car) (gos:List Bool) (tick stopped:Int) (wrecked:Bool) (rounds gone:Int) (g1 g2:Nat) (i:Nat) (v1:List Car) {E:Env} {res:AV} {bs2:List Blk} (hE:LentE Try.prog 71 [.sl 2 g2 0 0 1] res bs2 E) (ho:AllP [(decide ((i:Int)<(cars.length:Int)))=false])
 (hr:(.tup [])=res) (hb:[⟨true,0,1,false,(z71_2 c faults g1 v1 g2 gos tick stopped wrecked rounds gone),false⟩,⟨true,g1,4,true,(Qi v1),true⟩,⟨true,g2,1,true,(rowB gos),true⟩]=bs2):G Try.prog E (f71K0 Try.prog) (f71S0 c faults cars gos tick stopped wrecked rounds gone g1 g2 i v1 ) :=
 XK (n:=400) (live:=[]) (m:=3) (evs:=[.b false]) (obs:=_) hE (hE.nogh (by kernel_rfl)) Try.func71 Ql (by kernel_rfl) ho hr hb
theorem f71W0 (c:Cir) (faults:List Flt) (cars:List Car) (gos:List Bool) (tick stopped:Int) (wrecked:Bool) (rounds gone:Int) (g1 g2:Nat) (i:Nat) (v1:List Car) {E:Env} {rv:Unit} {cars2:List Car} (hE:LentE Try.prog 71 [.sl 2 g2 0 0 1] (.tup []) [⟨true,0,1,false,[.rsl (Qk c.blocks) 0 c.blocks.length,.rsl (rowI c.cars) 0 c.cars.length,.rsl (Qo faults) 0 faults.length,.sl 1 g1 0 cars2.length 4,.sl 2 g2 0 gos.length 1,.int .i64 tick,.int .i64 stopped,.bool wrecked,.int .i64 rounds,.int .i64 gone],false⟩,⟨true,g1,4,true,(Qi cars2),true⟩,⟨true,g2,1,true,(rowB gos),true⟩] E)
 (h:(((i:Int)<(cars.length:Int)→(∃ ce:Car,v1[i]?=some ce∧((InC (⟨c,faults,v1,gos,tick,stopped,wrecked,rounds,gone⟩:Trk).c ce.spot.block)∧(((XV (⟨c,faults,v1,gos,tick,stopped,wrecked,rounds,gone⟩:Trk).c ce)=true→((I6 (ce.stood+1))∧((I6 ((i:Int)+1))∧f71G0 E c faults cars gos tick stopped wrecked rounds gone g1 g2 (i+1) (v1.set i (⟨ce.spot,(ce.stood+1)⟩:Car)))))∧((XV (⟨c,faults,v1,gos,tick,stopped,wrecked,rounds,gone⟩:Trk).c ce)=false→((I6 (ce.spot.ran+1))∧((I6 ((i:Int)+1))∧f71G0 E c faults cars gos tick stopped wrecked rounds gone g1 g2 (i+1) (v1.set i (⟨(⟨ce.spot.block,(ce.spot.ran+1),ce.spot.opn⟩:Spt),ce.stood⟩:Car)))))))))∧(¬ ((i:Int)<(cars.length:Int))→cars2=v1))):f71G0 E c faults cars gos tick stopped wrecked rounds gone g1 g2 i v1:=by
 rcases bft (decide ((i:Int)<(cars.length:Int))) with hc0 | hc0
 · have h:=h.1 (odt hc0)
   obtain ⟨ce,h1,h⟩:=h
   obtain ⟨h2,h⟩:=h
   rcases bft (XV (⟨c,faults,v1,gos,tick,stopped,wrecked,rounds,gone⟩:Trk).c ce) with hc1 | hc1
   · have h:=h.1 hc1
     obtain ⟨q16_2,h⟩:=h
     obtain ⟨q22_2,h⟩:=h
     refine p71_0_0 c faults cars gos tick stopped wrecked rounds gone g1 g2 i v1 ce hE ⟨hc0,(Qp h1),rfl,rfl,(rp cCar 4 0 4 h1),(by decide),(u89 (yM (⟨c,faults,v1,gos,tick,stopped,wrecked,rounds,gone⟩:Trk) ce h2)),rfl,rfl,hc1,(Qp h1),rfl,rfl,rfl,(rp cCar 4 3 1 h1),q16_2,(Qp h1),rfl,rfl,(rf cCar 4 3 1 h1),rfl,q22_2,trivial⟩ ?_
     have h:=h
     simp only [f71G0,f71S0,List.length_set] at h
     rw [(show Qx (Qi v1) ((0+(Int.toNat (i:Int))*4)+3) [.int .i64 (ce.stood+1)]=Qi (v1.set i (⟨ce.spot,(ce.stood+1)⟩:Car)) from QD cCar (s:=4) (k:=3) (fun _=>rfl) h1 rfl (by first | decide | simp))]
     exact h
   · have h:=h.2 hc1
     obtain ⟨q17_2,h⟩:=h
     obtain ⟨q24_2,h⟩:=h
     refine p71_0_1 c faults cars gos tick stopped wrecked rounds gone g1 g2 i v1 ce hE ⟨hc0,(Qp h1),rfl,rfl,(rp cCar 4 0 4 h1),(by decide),(u89 (yM (⟨c,faults,v1,gos,tick,stopped,wrecked,rounds,gone⟩:Trk) ce h2)),rfl,rfl,hc1,(Qp h1),rfl,rfl,rfl,rfl,(rp cCar 4 1 1 h1),q17_2,(Qp h1),rfl,rfl,rfl,(rf cCar 4 1 1 h1),rfl,q24_2,trivial⟩ ?_
     have h:=h
     simp only [f71G0,f71S0,List.length_set] at h
     rw [(show Qx (Qi v1) (((0+(Int.toNat (i:Int))*4)+0)+1) [.int .i64 (ce.spot.ran+1)]=Qi (v1.set i (⟨(⟨ce.spot.block,(ce.spot.ran+1),ce.spot.opn⟩:Spt),ce.stood⟩:Car)) from QD cCar (s:=4) (k:=1) (fun _=>rfl) h1 rfl (by first | decide | simp))]
     exact h
 · have h:=h.2 (odf hc0)
   have qe0:=h
   exact p71_0_2 c faults cars gos tick stopped wrecked rounds gone g1 g2 i v1 hE ⟨hc0,trivial⟩ (by try rfl) (by rw [qe0]; all_goals (first | rfl | (simp only [List.length_set]; done) | (simp only [List.length_set]; rfl)))
theorem qR (c:Cir) (faults:List Flt) (cars:List Car) (gos:List Bool) (tick stopped:Int) (wrecked:Bool) (rounds gone:Int) (g1 g2:Nat) (h:(∀ x ∈ cars,CarOk c x)∧cars.length≤2147483648):Lent Try.prog 71 [.ptr 0 0 0] [⟨true,0,1,false,[.rsl (Qk c.blocks) 0 c.blocks.length,.rsl (rowI c.cars) 0 c.cars.length,.rsl (Qo faults) 0 faults.length,.sl 1 g1 0 cars.length 4,.sl 2 g2 0 gos.length 1,.int .i64 tick,.int .i64 stopped,.bool wrecked,.int .i64 rounds,.int .i64 gone],false⟩,⟨true,g1,4,true,(Qi cars),true⟩,⟨true,g2,1,true,(rowB gos),true⟩] (.tup []) [⟨true,0,1,false,[.rsl (Qk c.blocks) 0 c.blocks.length,.rsl (rowI c.cars) 0 c.cars.length,.rsl (Qo faults) 0 faults.length,.sl 1 g1 0 (cars.map (Qr c)).length 4,.sl 2 g2 0 gos.length 1,.int .i64 tick,.int .i64 stopped,.bool wrecked,.int .i64 rounds,.int .i64 gone],false⟩,⟨true,g1,4,true,(Qi (cars.map (Qr c))),true⟩,⟨true,g2,1,true,(rowB gos),true⟩]:=QaL _ Try.func71 f71b rfl rfl fun E hE=>by
 obtain ⟨hc,hl⟩:=h
 have key:∀ (d i:Nat),i+d=cars.length→f71G0 E c faults cars gos tick stopped wrecked rounds gone g1 g2 i (Wr (Qr c) cars i):=by
  intro d
  induction d with
  | zero=>intro i hi; exact f71W0 c faults cars gos tick stopped wrecked rounds gone g1 g2 i _ (rv:=()) hE ⟨fun h=>by omega,fun _=>by rw [show i=cars.length by omega,mapTo_all]⟩
  | succ d ih =>
   intro i hi
   have hlt:i<cars.length:=by omega
   have hx:=Kq (f:=Qr c) hlt
   have hcx:=hc _ (List.getElem_mem hlt)
   have nx:=ih (i+1) (by omega)
   rw [← Ko hlt] at nx
   generalize cars[i]=x at hx hcx nx
   have h1:=hcx.ran
   have h2:=hcx.stood
   refine f71W0 c faults cars gos tick stopped wrecked rounds gone g1 g2 i _ (rv:=()) hE ⟨fun _=>⟨x,hx,hcx.inC,fun hr=>⟨by omega,by omega,?_⟩,fun hr=>⟨by omega,by omega,?_⟩⟩,fun h=>by omega⟩
   · simpa only [Qr,if_pos hr] using nx
   · have hr':¬ XV c x=true:=by rw [hr]; simp
     simpa only [Qr,if_neg hr'] using nx
 have:=key cars.length 0 (by omega)
 rw [Qai] at this
 exact f71W c faults cars gos tick stopped wrecked rounds gone g1 g2 (rv:=()) hE this
theorem f77b:Try.f77.body=some (Qh Try.prog 77):=by kernel_rfl
def VX (P:Program):List Item:=kAt 400 [.code (Qh P 77)] [.b false,.b true,.b true,.stop]
def yH (p:Prs) (c:Cir) (faults:List Flt) (cars:List Car) (gos:List Bool) (tick stopped:Int) (wrecked:Bool) (rounds gone:Int) (g1 g2:Nat) (rd:Rd4) (ops:List Bool) (g3:Nat) (open_:Bool) (i:Nat) (v1:List Car) (v3:List Bool):St:=⟨([.ptr 0 0 0,J,J,.sl 3 g3 0 v3.length 1,J,.ptr 4 0 0,J,J,.int .i64 p.block,.bool open_]++jj 46 ([.int .i64 (cars.length:Int),.int .i64 (i:Int)]++Js 45)),[⟨true,0,1,false,[.rsl (Qk c.blocks) 0 c.blocks.length,.rsl (rowI c.cars) 0 c.cars.length,.rsl (Qo faults) 0 faults.length,.sl 1 g1 0 v1.length 4,.sl 2 g2 0 gos.length 1,.int .i64 tick,.int .i64 stopped,.bool wrecked,.int .i64 rounds,.int .i64 gone],false⟩,⟨true,g1,4,true,(Qi v1),true⟩,⟨true,g2,1,true,(rowB gos),true⟩,⟨true,g3,1,true,(rowB v3),true⟩,⟨true,0,1,true,[.int .i64 p.at_,.int .i64 p.kind,.int .i64 p.block],false⟩,⟨true,0,1,true,[.nilSl,.rsl (Qe rd.k1) 0 rd.k1.length,.rsl (Qe rd.k2) 0 rd.k2.length,.rsl (Qe rd.k3) 0 rd.k3.length],false⟩]⟩
def Vr (E:Env) (p:Prs) (c:Cir) (faults:List Flt) (cars:List Car) (gos:List Bool) (tick stopped:Int) (wrecked:Bool) (rounds gone:Int) (g1 g2:Nat) (rd:Rd4) (ops:List Bool) (g3:Nat) (open_:Bool) (i:Nat) (v1:List Car) (v3:List Bool):Prop:=G Try.prog E (VX Try.prog) (yH p c faults cars gos tick stopped wrecked rounds gone g1 g2 rd ops g3 open_ i v1 v3 )
abbrev z77_7 (c:Cir) (faults:List Flt) (g1:Nat) (cars:List Car) (g2:Nat) (gos:List Bool) (tick:Int) (stopped:Int) (wrecked:Bool) (rounds:Int) (gone:Int):List AV:=[.rsl (Qk c.blocks) 0 c.blocks.length,.rsl (rowI c.cars) 0 c.cars.length,.rsl (Qo faults) 0 faults.length,.sl 1 g1 0 cars.length 4,.sl 2 g2 0 gos.length 1,.int .i64 tick,.int .i64 stopped,.bool wrecked,.int .i64 rounds,.int .i64 gone]
abbrev VM (c:Cir) (faults:List Flt) (g1:Nat) (cars:List Car) (g2:Nat) (gos:List Bool) (tick:Int) (stopped:Int) (wrecked:Bool) (rounds:Int) (gone:Int) (g3:Nat) (ops:List Bool):List Blk:=[⟨true,0,1,false,(z77_7 c faults g1 cars g2 gos tick stopped wrecked rounds gone),false⟩,⟨true,g1,4,true,(Qi cars),true⟩,⟨true,g2,1,true,(rowB gos),true⟩,⟨true,g3,1,true,(rowB ops),true⟩]
abbrev z77_5 (rd:Rd4):List AV:=[.nilSl,.rsl (Qe rd.k1) 0 rd.k1.length,.rsl (Qe rd.k2) 0 rd.k2.length,.rsl (Qe rd.k3) 0 rd.k3.length]
abbrev yj (p:Prs):List AV:=[.int .i64 p.at_,.int .i64 p.kind,.int .i64 p.block]
abbrev WY (p:Prs) (rd:Rd4) (g3:Nat) (ops:List Bool):List AV:=[.ptr 0 0 0,.agg (yj p),.agg (z77_5 rd),.sl 3 g3 0 ops.length 1]
abbrev z77_3 (c:Cir) (faults:List Flt) (g1:Nat) (cars:List Car) (g2:Nat) (gos:List Bool) (tick:Int) (stopped:Int) (wrecked:Bool) (rounds:Int) (gone:Int) (g3:Nat) (ops:List Bool) (p:Prs) (rd:Rd4):List Blk:=[⟨true,0,1,false,(z77_7 c faults g1 cars g2 gos tick stopped wrecked rounds gone),false⟩,⟨true,g1,4,true,(Qi cars),true⟩,⟨true,g2,1,true,(rowB gos),true⟩,⟨true,g3,1,true,(rowB ops),true⟩,⟨true,0,1,true,(yj p),false⟩,⟨true,0,1,true,(z77_5 rd),false⟩]
abbrev z77_4 (c:Cir) (faults:List Flt) (g1:Nat) (v1:List Car) (g2:Nat) (gos:List Bool) (tick:Int) (stopped:Int) (wrecked:Bool) (rounds:Int) (gone:Int):List AV:=[.rsl (Qk c.blocks) 0 c.blocks.length,.rsl (rowI c.cars) 0 c.cars.length,.rsl (Qo faults) 0 faults.length,.sl 1 g1 0 v1.length 4,.sl 2 g2 0 gos.length 1,.int .i64 tick,.int .i64 stopped,.bool wrecked,.int .i64 rounds,.int .i64 gone]
abbrev z77_6 (g3:Nat) (v3:List Bool) (p:Prs) (open_:Bool) (cars:List Car) (i:Nat):List AV:=[.ptr 0 0 0,J,J,.sl 3 g3 0 v3.length 1,J,.ptr 4 0 0,J,J,.int .i64 p.block,.bool open_]++jj 46 ([.int .i64 (cars.length:Int),.int .i64 ((i:Int)+1)]++Js 45)
abbrev z77_8 (g3:Nat) (ops:List Bool) (p:Prs) (cars:List Car):List AV:=[.ptr 0 0 0,J,J,.sl 3 g3 0 ops.length 1,J,.ptr 4 0 0,J,J,.int .i64 p.block,.bool false]++jj 46 ([.int .i64 (cars.length:Int),.int .i64 0]++Js 45)
abbrev KQ (se:Said):List AV:=[.agg [.int .i64 se.a,.int .i64 se.b],.int .i64 1]
abbrev z77_11 (se1:Said):List AV:=[.agg [.int .i64 se1.a,.int .i64 se1.b],.int .i64 1]
theorem p77_start_0 (p:Prs) (c:Cir) (faults:List Flt) (cars:List Car) (gos:List Bool) (tick stopped:Int) (wrecked:Bool) (rounds gone:Int) (g1 g2:Nat) (rd:Rd4) (ops:List Bool) (g3:Nat) (be:Bk) (se:Said) (se1:Said) (eb:Bool) {E:Env} {res:AV} {bs2:List Blk} (hE:LentE Try.prog 77 [.sl 3 g3 0 0 1] res bs2 E) (ho:AllP [0≤p.block∧p.block<(c.blocks.length:Int),((Qk c.blocks).drop ((0+(Int.toNat p.block)*4)+1)).take 1=[.bool be.station],be.station=true,(0:Int)≤2∧(2:Int)<((4:Nat):Int),0≤p.block∧p.block<(rd.k2.length:Int),((Qe rd.k2).drop (0+(Int.toNat p.block)*2)).take 2=[.int .i64 se.a,.int .i64 se.b],Qd Try.prog (.clos 93 [] []) (KQ se) (.bool (Qu se 1)),(Qu se 1)=true,(0:Int)≤1∧(1:Int)<((4:Nat):Int),0≤p.block∧p.block<(rd.k1.length:Int),((Qe rd.k1).drop (0+(Int.toNat p.block)*2)).take 2=[.int .i64 se1.a,.int .i64 se1.b],Qd Try.prog (.clos 93 [] []) (z77_11 se1) (.bool (Qu se1 1)),(p.kind == 3)=true,0≤p.block∧p.block<(gos.length:Int),g2=g2,((0+(Int.toNat p.block)*1)+1)≤(rowB gos).length,g2=g2])
 (hr:(.tup [])=res) (hb:[⟨true,0,1,false,(z77_7 c faults g1 cars g2 gos tick stopped wrecked rounds gone),false⟩,⟨true,g1,4,true,(Qi cars),true⟩,⟨true,g2,1,true,(Qx (rowB gos) (0+(Int.toNat p.block)*1) [.bool true]),true⟩,⟨true,g3,1,true,(rowB ops),true⟩]=bs2):G Try.prog E [.code (Qh Try.prog 77)] ⟨(WY p rd g3 ops)++unds (Try.f77.ntmps - 4),(VM c faults g1 cars g2 gos tick stopped wrecked rounds gone g3 ops)⟩ :=
 XK (n:=400) (live:=[]) (m:=4) (evs:=[.auto,.auto,.ld (.bool be.station),.b true,.auto,.ld (.agg [.int .i64 se.a,.int .i64 se.b]),.v (.bool (Qu se 1)),.b true,.auto,.ld (.agg [.int .i64 se1.a,.int .i64 se1.b]),.v (.bool (Qu se1 1)),.b true]) (obs:=_) hE (hE.nogh (by kernel_rfl)) Try.func77 Ql (by kernel_rfl) ho hr hb
theorem p77_start_1 (p:Prs) (c:Cir) (faults:List Flt) (cars:List Car) (gos:List Bool) (tick stopped:Int) (wrecked:Bool) (rounds gone:Int) (g1 g2:Nat) (rd:Rd4) (ops:List Bool) (g3:Nat) (be:Bk) (se:Said) (se1:Said) {E:Env} {rv:AV} {bs2:List Blk} (hE:LentE Try.prog 77 [.sl 3 g3 0 0 1] rv bs2 E) (ho:AllP [0≤p.block∧p.block<(c.blocks.length:Int),((Qk c.blocks).drop ((0+(Int.toNat p.block)*4)+1)).take 1=[.bool be.station],be.station=true,(0:Int)≤2∧(2:Int)<((4:Nat):Int),0≤p.block∧p.block<(rd.k2.length:Int),((Qe rd.k2).drop (0+(Int.toNat p.block)*2)).take 2=[.int .i64 se.a,.int .i64 se.b],Qd Try.prog (.clos 93 [] []) (KQ se) (.bool (Qu se 1)),(Qu se 1)=true,(0:Int)≤1∧(1:Int)<((4:Nat):Int),0≤p.block∧p.block<(rd.k1.length:Int),((Qe rd.k1).drop (0+(Int.toNat p.block)*2)).take 2=[.int .i64 se1.a,.int .i64 se1.b],Qd Try.prog (.clos 93 [] []) (z77_11 se1) (.bool (Qu se1 1)),(p.kind == 3)=false,(p.kind == 1)=true,(p.kind == 1)=true,g1=g1])
 (hg:G Try.prog E (VX Try.prog) ⟨([.ptr 0 0 0,J,J,.sl 3 g3 0 ops.length 1,J,.ptr 4 0 0,J,J,.int .i64 p.block,.bool (Qu se1 1)]++jj 46 ([.int .i64 (cars.length:Int),.int .i64 0]++Js 45)),(z77_3 c faults g1 cars g2 gos tick stopped wrecked rounds gone g3 ops p rd)⟩):G Try.prog E [.code (Qh Try.prog 77)] ⟨(WY p rd g3 ops)++unds (Try.f77.ntmps - 4),(VM c faults g1 cars g2 gos tick stopped wrecked rounds gone g3 ops)⟩ :=
 Qg (n:=400) (ds:=[]) (cs:=[]) (live:=[0,3,5,8,9,56,57]) (m:=6) (evs:=[.auto,.auto,.ld (.bool be.station),.b true,.auto,.ld (.agg [.int .i64 se.a,.int .i64 se.b]),.v (.bool (Qu se 1)),.b true,.auto,.ld (.agg [.int .i64 se1.a,.int .i64 se1.b]),.v (.bool (Qu se1 1)),.b false,.b true,.b true,.stop]) (obs:=_) hE.kind (hE.nogh (by kernel_rfl)) Ql (by kernel_rfl) ho hg
theorem p77_start_2 (p:Prs) (c:Cir) (faults:List Flt) (cars:List Car) (gos:List Bool) (tick stopped:Int) (wrecked:Bool) (rounds gone:Int) (g1 g2:Nat) (rd:Rd4) (ops:List Bool) (g3:Nat) (be:Bk) (se:Said) (se1:Said) {E:Env} {res:AV} {bs2:List Blk} (hE:LentE Try.prog 77 [.sl 3 g3 0 0 1] res bs2 E) (ho:AllP [0≤p.block∧p.block<(c.blocks.length:Int),((Qk c.blocks).drop ((0+(Int.toNat p.block)*4)+1)).take 1=[.bool be.station],be.station=true,(0:Int)≤2∧(2:Int)<((4:Nat):Int),0≤p.block∧p.block<(rd.k2.length:Int),((Qe rd.k2).drop (0+(Int.toNat p.block)*2)).take 2=[.int .i64 se.a,.int .i64 se.b],Qd Try.prog (.clos 93 [] []) (KQ se) (.bool (Qu se 1)),(Qu se 1)=true,(0:Int)≤1∧(1:Int)<((4:Nat):Int),0≤p.block∧p.block<(rd.k1.length:Int),((Qe rd.k1).drop (0+(Int.toNat p.block)*2)).take 2=[.int .i64 se1.a,.int .i64 se1.b],Qd Try.prog (.clos 93 [] []) (z77_11 se1) (.bool (Qu se1 1)),(p.kind == 3)=false,(p.kind == 1)=true,(p.kind == 1)=false])
 (hr:(.tup [])=res) (hb:(VM c faults g1 cars g2 gos tick stopped wrecked rounds gone g3 ops)=bs2):G Try.prog E [.code (Qh Try.prog 77)] ⟨(WY p rd g3 ops)++unds (Try.f77.ntmps - 4),(VM c faults g1 cars g2 gos tick stopped wrecked rounds gone g3 ops)⟩ :=
 XK (n:=400) (live:=[]) (m:=4) (evs:=[.auto,.auto,.ld (.bool be.station),.b true,.auto,.ld (.agg [.int .i64 se.a,.int .i64 se.b]),.v (.bool (Qu se 1)),.b true,.auto,.ld (.agg [.int .i64 se1.a,.int .i64 se1.b]),.v (.bool (Qu se1 1)),.b false,.b true,.b false]) (obs:=_) hE (hE.nogh (by kernel_rfl)) Try.func77 Ql (by kernel_rfl) ho hr hb
theorem p77_start_3 (p:Prs) (c:Cir) (faults:List Flt) (cars:List Car) (gos:List Bool) (tick stopped:Int) (wrecked:Bool) (rounds gone:Int) (g1 g2:Nat) (rd:Rd4) (ops:List Bool) (g3:Nat) (be:Bk) (se:Said) (se1:Said) {E:Env} {rv:AV} {bs2:List Blk} (hE:LentE Try.prog 77 [.sl 3 g3 0 0 1] rv bs2 E) (ho:AllP [0≤p.block∧p.block<(c.blocks.length:Int),((Qk c.blocks).drop ((0+(Int.toNat p.block)*4)+1)).take 1=[.bool be.station],be.station=true,(0:Int)≤2∧(2:Int)<((4:Nat):Int),0≤p.block∧p.block<(rd.k2.length:Int),((Qe rd.k2).drop (0+(Int.toNat p.block)*2)).take 2=[.int .i64 se.a,.int .i64 se.b],Qd Try.prog (.clos 93 [] []) (KQ se) (.bool (Qu se 1)),(Qu se 1)=true,(0:Int)≤1∧(1:Int)<((4:Nat):Int),0≤p.block∧p.block<(rd.k1.length:Int),((Qe rd.k1).drop (0+(Int.toNat p.block)*2)).take 2=[.int .i64 se1.a,.int .i64 se1.b],Qd Try.prog (.clos 93 [] []) (z77_11 se1) (.bool (Qu se1 1)),(p.kind == 3)=false,(p.kind == 1)=false,(p.kind == 2)=true,g1=g1])
 (hg:G Try.prog E (VX Try.prog) ⟨([.ptr 0 0 0,J,J,.sl 3 g3 0 ops.length 1,J,.ptr 4 0 0,J,J,.int .i64 p.block,.bool (Qu se1 1)]++jj 46 ([.int .i64 (cars.length:Int),.int .i64 0]++Js 45)),(z77_3 c faults g1 cars g2 gos tick stopped wrecked rounds gone g3 ops p rd)⟩):G Try.prog E [.code (Qh Try.prog 77)] ⟨(WY p rd g3 ops)++unds (Try.f77.ntmps - 4),(VM c faults g1 cars g2 gos tick stopped wrecked rounds gone g3 ops)⟩ :=
 Qg (n:=400) (ds:=[]) (cs:=[]) (live:=[0,3,5,8,9,56,57]) (m:=6) (evs:=[.auto,.auto,.ld (.bool be.station),.b true,.auto,.ld (.agg [.int .i64 se.a,.int .i64 se.b]),.v (.bool (Qu se 1)),.b true,.auto,.ld (.agg [.int .i64 se1.a,.int .i64 se1.b]),.v (.bool (Qu se1 1)),.b false,.b false,.b true,.stop]) (obs:=_) hE.kind (hE.nogh (by kernel_rfl)) Ql (by kernel_rfl) ho hg
theorem p77_start_4 (p:Prs) (c:Cir) (faults:List Flt) (cars:List Car) (gos:List Bool) (tick stopped:Int) (wrecked:Bool) (rounds gone:Int) (g1 g2:Nat) (rd:Rd4) (ops:List Bool) (g3:Nat) (be:Bk) (se:Said) (se1:Said) {E:Env} {res:AV} {bs2:List Blk} (hE:LentE Try.prog 77 [.sl 3 g3 0 0 1] res bs2 E) (ho:AllP [0≤p.block∧p.block<(c.blocks.length:Int),((Qk c.blocks).drop ((0+(Int.toNat p.block)*4)+1)).take 1=[.bool be.station],be.station=true,(0:Int)≤2∧(2:Int)<((4:Nat):Int),0≤p.block∧p.block<(rd.k2.length:Int),((Qe rd.k2).drop (0+(Int.toNat p.block)*2)).take 2=[.int .i64 se.a,.int .i64 se.b],Qd Try.prog (.clos 93 [] []) (KQ se) (.bool (Qu se 1)),(Qu se 1)=true,(0:Int)≤1∧(1:Int)<((4:Nat):Int),0≤p.block∧p.block<(rd.k1.length:Int),((Qe rd.k1).drop (0+(Int.toNat p.block)*2)).take 2=[.int .i64 se1.a,.int .i64 se1.b],Qd Try.prog (.clos 93 [] []) (z77_11 se1) (.bool (Qu se1 1)),(p.kind == 3)=false,(p.kind == 1)=false,(p.kind == 2)=false])
 (hr:(.tup [])=res) (hb:(VM c faults g1 cars g2 gos tick stopped wrecked rounds gone g3 ops)=bs2):G Try.prog E [.code (Qh Try.prog 77)] ⟨(WY p rd g3 ops)++unds (Try.f77.ntmps - 4),(VM c faults g1 cars g2 gos tick stopped wrecked rounds gone g3 ops)⟩ :=
 XK (n:=400) (live:=[]) (m:=4) (evs:=[.auto,.auto,.ld (.bool be.station),.b true,.auto,.ld (.agg [.int .i64 se.a,.int .i64 se.b]),.v (.bool (Qu se 1)),.b true,.auto,.ld (.agg [.int .i64 se1.a,.int .i64 se1.b]),.v (.bool (Qu se1 1)),.b false,.b false,.b false]) (obs:=_) hE (hE.nogh (by kernel_rfl)) Try.func77 Ql (by kernel_rfl) ho hr hb
theorem p77_start_5 (p:Prs) (c:Cir) (faults:List Flt) (cars:List Car) (gos:List Bool) (tick stopped:Int) (wrecked:Bool) (rounds gone:Int) (g1 g2:Nat) (rd:Rd4) (ops:List Bool) (g3:Nat) (be:Bk) (se:Said) (eb:Bool) {E:Env} {res:AV} {bs2:List Blk} (hE:LentE Try.prog 77 [.sl 3 g3 0 0 1] res bs2 E) (ho:AllP [0≤p.block∧p.block<(c.blocks.length:Int),((Qk c.blocks).drop ((0+(Int.toNat p.block)*4)+1)).take 1=[.bool be.station],be.station=true,(0:Int)≤2∧(2:Int)<((4:Nat):Int),0≤p.block∧p.block<(rd.k2.length:Int),((Qe rd.k2).drop (0+(Int.toNat p.block)*2)).take 2=[.int .i64 se.a,.int .i64 se.b],Qd Try.prog (.clos 93 [] []) (KQ se) (.bool (Qu se 1)),(Qu se 1)=false,(p.kind == 3)=true,0≤p.block∧p.block<(gos.length:Int),g2=g2,((0+(Int.toNat p.block)*1)+1)≤(rowB gos).length,g2=g2])
 (hr:(.tup [])=res) (hb:[⟨true,0,1,false,(z77_7 c faults g1 cars g2 gos tick stopped wrecked rounds gone),false⟩,⟨true,g1,4,true,(Qi cars),true⟩,⟨true,g2,1,true,(Qx (rowB gos) (0+(Int.toNat p.block)*1) [.bool true]),true⟩,⟨true,g3,1,true,(rowB ops),true⟩]=bs2):G Try.prog E [.code (Qh Try.prog 77)] ⟨(WY p rd g3 ops)++unds (Try.f77.ntmps - 4),(VM c faults g1 cars g2 gos tick stopped wrecked rounds gone g3 ops)⟩ :=
 XK (n:=400) (live:=[]) (m:=4) (evs:=[.auto,.auto,.ld (.bool be.station),.b true,.auto,.ld (.agg [.int .i64 se.a,.int .i64 se.b]),.v (.bool (Qu se 1)),.b false,.b true]) (obs:=_) hE (hE.nogh (by kernel_rfl)) Try.func77 Ql (by kernel_rfl) ho hr hb
theorem p77_start_6 (p:Prs) (c:Cir) (faults:List Flt) (cars:List Car) (gos:List Bool) (tick stopped:Int) (wrecked:Bool) (rounds gone:Int) (g1 g2:Nat) (rd:Rd4) (ops:List Bool) (g3:Nat) (be:Bk) (se:Said) {E:Env} {rv:AV} {bs2:List Blk} (hE:LentE Try.prog 77 [.sl 3 g3 0 0 1] rv bs2 E) (ho:AllP [0≤p.block∧p.block<(c.blocks.length:Int),((Qk c.blocks).drop ((0+(Int.toNat p.block)*4)+1)).take 1=[.bool be.station],be.station=true,(0:Int)≤2∧(2:Int)<((4:Nat):Int),0≤p.block∧p.block<(rd.k2.length:Int),((Qe rd.k2).drop (0+(Int.toNat p.block)*2)).take 2=[.int .i64 se.a,.int .i64 se.b],Qd Try.prog (.clos 93 [] []) (KQ se) (.bool (Qu se 1)),(Qu se 1)=false,(p.kind == 3)=false,(p.kind == 1)=true,(p.kind == 1)=true,g1=g1])
 (hg:G Try.prog E (VX Try.prog) ⟨(z77_8 g3 ops p cars),(z77_3 c faults g1 cars g2 gos tick stopped wrecked rounds gone g3 ops p rd)⟩):G Try.prog E [.code (Qh Try.prog 77)] ⟨(WY p rd g3 ops)++unds (Try.f77.ntmps - 4),(VM c faults g1 cars g2 gos tick stopped wrecked rounds gone g3 ops)⟩ :=
 Qg (n:=400) (ds:=[]) (cs:=[]) (live:=[0,3,5,8,9,56,57]) (m:=6) (evs:=[.auto,.auto,.ld (.bool be.station),.b true,.auto,.ld (.agg [.int .i64 se.a,.int .i64 se.b]),.v (.bool (Qu se 1)),.b false,.b false,.b true,.b true,.stop]) (obs:=_) hE.kind (hE.nogh (by kernel_rfl)) Ql (by kernel_rfl) ho hg
theorem p77_start_7 (p:Prs) (c:Cir) (faults:List Flt) (cars:List Car) (gos:List Bool) (tick stopped:Int) (wrecked:Bool) (rounds gone:Int) (g1 g2:Nat) (rd:Rd4) (ops:List Bool) (g3:Nat) (be:Bk) (se:Said) {E:Env} {res:AV} {bs2:List Blk} (hE:LentE Try.prog 77 [.sl 3 g3 0 0 1] res bs2 E) (ho:AllP [0≤p.block∧p.block<(c.blocks.length:Int),((Qk c.blocks).drop ((0+(Int.toNat p.block)*4)+1)).take 1=[.bool be.station],be.station=true,(0:Int)≤2∧(2:Int)<((4:Nat):Int),0≤p.block∧p.block<(rd.k2.length:Int),((Qe rd.k2).drop (0+(Int.toNat p.block)*2)).take 2=[.int .i64 se.a,.int .i64 se.b],Qd Try.prog (.clos 93 [] []) (KQ se) (.bool (Qu se 1)),(Qu se 1)=false,(p.kind == 3)=false,(p.kind == 1)=true,(p.kind == 1)=false])
 (hr:(.tup [])=res) (hb:(VM c faults g1 cars g2 gos tick stopped wrecked rounds gone g3 ops)=bs2):G Try.prog E [.code (Qh Try.prog 77)] ⟨(WY p rd g3 ops)++unds (Try.f77.ntmps - 4),(VM c faults g1 cars g2 gos tick stopped wrecked rounds gone g3 ops)⟩ :=
 XK (n:=400) (live:=[]) (m:=4) (evs:=[.auto,.auto,.ld (.bool be.station),.b true,.auto,.ld (.agg [.int .i64 se.a,.int .i64 se.b]),.v (.bool (Qu se 1)),.b false,.b false,.b true,.b false]) (obs:=_) hE (hE.nogh (by kernel_rfl)) Try.func77 Ql (by kernel_rfl) ho hr hb
theorem p77_start_8 (p:Prs) (c:Cir) (faults:List Flt) (cars:List Car) (gos:List Bool) (tick stopped:Int) (wrecked:Bool) (rounds gone:Int) (g1 g2:Nat) (rd:Rd4) (ops:List Bool) (g3:Nat) (be:Bk) (se:Said) {E:Env} {rv:AV} {bs2:List Blk} (hE:LentE Try.prog 77 [.sl 3 g3 0 0 1] rv bs2 E) (ho:AllP [0≤p.block∧p.block<(c.blocks.length:Int),((Qk c.blocks).drop ((0+(Int.toNat p.block)*4)+1)).take 1=[.bool be.station],be.station=true,(0:Int)≤2∧(2:Int)<((4:Nat):Int),0≤p.block∧p.block<(rd.k2.length:Int),((Qe rd.k2).drop (0+(Int.toNat p.block)*2)).take 2=[.int .i64 se.a,.int .i64 se.b],Qd Try.prog (.clos 93 [] []) (KQ se) (.bool (Qu se 1)),(Qu se 1)=false,(p.kind == 3)=false,(p.kind == 1)=false,(p.kind == 2)=true,g1=g1])
 (hg:G Try.prog E (VX Try.prog) ⟨(z77_8 g3 ops p cars),(z77_3 c faults g1 cars g2 gos tick stopped wrecked rounds gone g3 ops p rd)⟩):G Try.prog E [.code (Qh Try.prog 77)] ⟨(WY p rd g3 ops)++unds (Try.f77.ntmps - 4),(VM c faults g1 cars g2 gos tick stopped wrecked rounds gone g3 ops)⟩ :=
 Qg (n:=400) (ds:=[]) (cs:=[]) (live:=[0,3,5,8,9,56,57]) (m:=6) (evs:=[.auto,.auto,.ld (.bool be.station),.b true,.auto,.ld (.agg [.int .i64 se.a,.int .i64 se.b]),.v (.bool (Qu se 1)),.b false,.b false,.b false,.b true,.stop]) (obs:=_) hE.kind (hE.nogh (by kernel_rfl)) Ql (by kernel_rfl) ho hg
theorem p77_start_9 (p:Prs) (c:Cir) (faults:List Flt) (cars:List Car) (gos:List Bool) (tick stopped:Int) (wrecked:Bool) (rounds gone:Int) (g1 g2:Nat) (rd:Rd4) (ops:List Bool) (g3:Nat) (be:Bk) (se:Said) {E:Env} {res:AV} {bs2:List Blk} (hE:LentE Try.prog 77 [.sl 3 g3 0 0 1] res bs2 E) (ho:AllP [0≤p.block∧p.block<(c.blocks.length:Int),((Qk c.blocks).drop ((0+(Int.toNat p.block)*4)+1)).take 1=[.bool be.station],be.station=true,(0:Int)≤2∧(2:Int)<((4:Nat):Int),0≤p.block∧p.block<(rd.k2.length:Int),((Qe rd.k2).drop (0+(Int.toNat p.block)*2)).take 2=[.int .i64 se.a,.int .i64 se.b],Qd Try.prog (.clos 93 [] []) (KQ se) (.bool (Qu se 1)),(Qu se 1)=false,(p.kind == 3)=false,(p.kind == 1)=false,(p.kind == 2)=false])
 (hr:(.tup [])=res) (hb:(VM c faults g1 cars g2 gos tick stopped wrecked rounds gone g3 ops)=bs2):G Try.prog E [.code (Qh Try.prog 77)] ⟨(WY p rd g3 ops)++unds (Try.f77.ntmps - 4),(VM c faults g1 cars g2 gos tick stopped wrecked rounds gone g3 ops)⟩ :=
 XK (n:=400) (live:=[]) (m:=4) (evs:=[.auto,.auto,.ld (.bool be.station),.b true,.auto,.ld (.agg [.int .i64 se.a,.int .i64 se.b]),.v (.bool (Qu se 1)),.b false,.b false,.b false,.b false]) (obs:=_) hE (hE.nogh (by kernel_rfl)) Try.func77 Ql (by kernel_rfl) ho hr hb
theorem p77_start_10 (p:Prs) (c:Cir) (faults:List Flt) (cars:List Car) (gos:List Bool) (tick stopped:Int) (wrecked:Bool) (rounds gone:Int) (g1 g2:Nat) (rd:Rd4) (ops:List Bool) (g3:Nat) (be:Bk) (eb:Bool) {E:Env} {res:AV} {bs2:List Blk} (hE:LentE Try.prog 77 [.sl 3 g3 0 0 1] res bs2 E) (ho:AllP [0≤p.block∧p.block<(c.blocks.length:Int),((Qk c.blocks).drop ((0+(Int.toNat p.block)*4)+1)).take 1=[.bool be.station],be.station=false,false=false,(p.kind == 3)=true,0≤p.block∧p.block<(gos.length:Int),g2=g2,((0+(Int.toNat p.block)*1)+1)≤(rowB gos).length,g2=g2])
 (hr:(.tup [])=res) (hb:[⟨true,0,1,false,(z77_7 c faults g1 cars g2 gos tick stopped wrecked rounds gone),false⟩,⟨true,g1,4,true,(Qi cars),true⟩,⟨true,g2,1,true,(Qx (rowB gos) (0+(Int.toNat p.block)*1) [.bool true]),true⟩,⟨true,g3,1,true,(rowB ops),true⟩]=bs2):G Try.prog E [.code (Qh Try.prog 77)] ⟨(WY p rd g3 ops)++unds (Try.f77.ntmps - 4),(VM c faults g1 cars g2 gos tick stopped wrecked rounds gone g3 ops)⟩ :=
 XK (n:=400) (live:=[]) (m:=4) (evs:=[.auto,.auto,.ld (.bool be.station),.b false,.b false,.b true]) (obs:=_) hE (hE.nogh (by kernel_rfl)) Try.func77 Ql (by kernel_rfl) ho hr hb
theorem p77_start_11 (p:Prs) (c:Cir) (faults:List Flt) (cars:List Car) (gos:List Bool) (tick stopped:Int) (wrecked:Bool) (rounds gone:Int) (g1 g2:Nat) (rd:Rd4) (ops:List Bool) (g3:Nat) (be:Bk) {E:Env} {rv:AV} {bs2:List Blk} (hE:LentE Try.prog 77 [.sl 3 g3 0 0 1] rv bs2 E) (ho:AllP [0≤p.block∧p.block<(c.blocks.length:Int),((Qk c.blocks).drop ((0+(Int.toNat p.block)*4)+1)).take 1=[.bool be.station],be.station=false,false=false,(p.kind == 3)=false,(p.kind == 1)=true,(p.kind == 1)=true,g1=g1])
 (hg:G Try.prog E (VX Try.prog) ⟨(z77_8 g3 ops p cars),(z77_3 c faults g1 cars g2 gos tick stopped wrecked rounds gone g3 ops p rd)⟩):G Try.prog E [.code (Qh Try.prog 77)] ⟨(WY p rd g3 ops)++unds (Try.f77.ntmps - 4),(VM c faults g1 cars g2 gos tick stopped wrecked rounds gone g3 ops)⟩ :=
 Qg (n:=400) (ds:=[]) (cs:=[]) (live:=[0,3,5,8,9,56,57]) (m:=6) (evs:=[.auto,.auto,.ld (.bool be.station),.b false,.b false,.b false,.b true,.b true,.stop]) (obs:=_) hE.kind (hE.nogh (by kernel_rfl)) Ql (by kernel_rfl) ho hg
theorem p77_start_12 (p:Prs) (c:Cir) (faults:List Flt) (cars:List Car) (gos:List Bool) (tick stopped:Int) (wrecked:Bool) (rounds gone:Int) (g1 g2:Nat) (rd:Rd4) (ops:List Bool) (g3:Nat) (be:Bk) {E:Env} {res:AV} {bs2:List Blk} (hE:LentE Try.prog 77 [.sl 3 g3 0 0 1] res bs2 E) (ho:AllP [0≤p.block∧p.block<(c.blocks.length:Int),((Qk c.blocks).drop ((0+(Int.toNat p.block)*4)+1)).take 1=[.bool be.station],be.station=false,false=false,(p.kind == 3)=false,(p.kind == 1)=true,(p.kind == 1)=false])
 (hr:(.tup [])=res) (hb:(VM c faults g1 cars g2 gos tick stopped wrecked rounds gone g3 ops)=bs2):G Try.prog E [.code (Qh Try.prog 77)] ⟨(WY p rd g3 ops)++unds (Try.f77.ntmps - 4),(VM c faults g1 cars g2 gos tick stopped wrecked rounds gone g3 ops)⟩ :=
 XK (n:=400) (live:=[]) (m:=4) (evs:=[.auto,.auto,.ld (.bool be.station),.b false,.b false,.b false,.b true,.b false]) (obs:=_) hE (hE.nogh (by kernel_rfl)) Try.func77 Ql (by kernel_rfl) ho hr hb
theorem p77_start_13 (p:Prs) (c:Cir) (faults:List Flt) (cars:List Car) (gos:List Bool) (tick stopped:Int) (wrecked:Bool) (rounds gone:Int) (g1 g2:Nat) (rd:Rd4) (ops:List Bool) (g3:Nat) (be:Bk) {E:Env} {rv:AV} {bs2:List Blk} (hE:LentE Try.prog 77 [.sl 3 g3 0 0 1] rv bs2 E) (ho:AllP [0≤p.block∧p.block<(c.blocks.length:Int),((Qk c.blocks).drop ((0+(Int.toNat p.block)*4)+1)).take 1=[.bool be.station],be.station=false,false=false,(p.kind == 3)=false,(p.kind == 1)=false,(p.kind == 2)=true,g1=g1])
 (hg:G Try.prog E (VX Try.prog) ⟨(z77_8 g3 ops p cars),(z77_3 c faults g1 cars g2 gos tick stopped wrecked rounds gone g3 ops p rd)⟩):G Try.prog E [.code (Qh Try.prog 77)] ⟨(WY p rd g3 ops)++unds (Try.f77.ntmps - 4),(VM c faults g1 cars g2 gos tick stopped wrecked rounds gone g3 ops)⟩ :=
 Qg (n:=400) (ds:=[]) (cs:=[]) (live:=[0,3,5,8,9,56,57]) (m:=6) (evs:=[.auto,.auto,.ld (.bool be.station),.b false,.b false,.b false,.b false,.b true,.stop]) (obs:=_) hE.kind (hE.nogh (by kernel_rfl)) Ql (by kernel_rfl) ho hg
theorem p77_start_14 (p:Prs) (c:Cir) (faults:List Flt) (cars:List Car) (gos:List Bool) (tick stopped:Int) (wrecked:Bool) (rounds gone:Int) (g1 g2:Nat) (rd:Rd4) (ops:List Bool) (g3:Nat) (be:Bk) {E:Env} {res:AV} {bs2:List Blk} (hE:LentE Try.prog 77 [.sl 3 g3 0 0 1] res bs2 E) (ho:AllP [0≤p.block∧p.block<(c.blocks.length:Int),((Qk c.blocks).drop ((0+(Int.toNat p.block)*4)+1)).take 1=[.bool be.station],be.station=false,false=false,(p.kind == 3)=false,(p.kind == 1)=false,(p.kind == 2)=false])
 (hr:(.tup [])=res) (hb:(VM c faults g1 cars g2 gos tick stopped wrecked rounds gone g3 ops)=bs2):G Try.prog E [.code (Qh Try.prog 77)] ⟨(WY p rd g3 ops)++unds (Try.f77.ntmps - 4),(VM c faults g1 cars g2 gos tick stopped wrecked rounds gone g3 ops)⟩ :=
 XK (n:=400) (live:=[]) (m:=4) (evs:=[.auto,.auto,.ld (.bool be.station),.b false,.b false,.b false,.b false,.b false]) (obs:=_) hE (hE.nogh (by kernel_rfl)) Try.func77 Ql (by kernel_rfl) ho hr hb
theorem f77W (p:Prs) (c:Cir) (faults:List Flt) (cars:List Car) (gos:List Bool) (tick stopped:Int) (wrecked:Bool) (rounds gone:Int) (g1 g2:Nat) (rd:Rd4) (ops:List Bool) (g3:Nat) {E:Env} {rv:Unit} {cars2:List Car} {gos2:List Bool} {ops2:List Bool} (hE:LentE Try.prog 77 [.sl 3 g3 0 0 1] (.tup []) [⟨true,0,1,false,[.rsl (Qk c.blocks) 0 c.blocks.length,.rsl (rowI c.cars) 0 c.cars.length,.rsl (Qo faults) 0 faults.length,.sl 1 g1 0 cars2.length 4,.sl 2 g2 0 gos2.length 1,.int .i64 tick,.int .i64 stopped,.bool wrecked,.int .i64 rounds,.int .i64 gone],false⟩,⟨true,g1,4,true,(Qi cars2),true⟩,⟨true,g2,1,true,(rowB gos2),true⟩,⟨true,g3,1,true,(rowB ops2),true⟩] E)
 (h:(0≤p.block∧(∃ be:Bk,c.blocks[Int.toNat p.block]?=some be∧((be.station=true→(0≤p.block∧(∃ se:Said,rd.k2[Int.toNat p.block]?=some se∧(((Qu se 1)=true→(0≤p.block∧(∃ se1:Said,rd.k1[Int.toNat p.block]?=some se1∧((p.kind=3→(0≤p.block∧(∃ eb:Bool,gos[Int.toNat p.block]?=some eb∧cars2=cars∧gos2=(gos.set (Int.toNat p.block) true)∧ops2=ops)))∧(¬ (p.kind=3)→((p.kind=1→((p.kind=1→Vr E p c faults cars gos tick stopped wrecked rounds gone g1 g2 rd ops g3 (Qu se1 1) 0 cars ops)∧(¬ (p.kind=1)→cars2=cars∧gos2=gos∧ops2=ops)))∧(¬ (p.kind=1)→((p.kind=2→Vr E p c faults cars gos tick stopped wrecked rounds gone g1 g2 rd ops g3 (Qu se1 1) 0 cars ops)∧(¬ (p.kind=2)→cars2=cars∧gos2=gos∧ops2=ops)))))))))∧((Qu se 1)=false→((p.kind=3→(0≤p.block∧(∃ eb:Bool,gos[Int.toNat p.block]?=some eb∧cars2=cars∧gos2=(gos.set (Int.toNat p.block) true)∧ops2=ops)))∧(¬ (p.kind=3)→((p.kind=1→((p.kind=1→Vr E p c faults cars gos tick stopped wrecked rounds gone g1 g2 rd ops g3 false 0 cars ops)∧(¬ (p.kind=1)→cars2=cars∧gos2=gos∧ops2=ops)))∧(¬ (p.kind=1)→((p.kind=2→Vr E p c faults cars gos tick stopped wrecked rounds gone g1 g2 rd ops g3 false 0 cars ops)∧(¬ (p.kind=2)→cars2=cars∧gos2=gos∧ops2=ops)))))))))))∧(be.station=false→((p.kind=3→(0≤p.block∧(∃ eb:Bool,gos[Int.toNat p.block]?=some eb∧cars2=cars∧gos2=(gos.set (Int.toNat p.block) true)∧ops2=ops)))∧(¬ (p.kind=3)→((p.kind=1→((p.kind=1→Vr E p c faults cars gos tick stopped wrecked rounds gone g1 g2 rd ops g3 false 0 cars ops)∧(¬ (p.kind=1)→cars2=cars∧gos2=gos∧ops2=ops)))∧(¬ (p.kind=1)→((p.kind=2→Vr E p c faults cars gos tick stopped wrecked rounds gone g1 g2 rd ops g3 false 0 cars ops)∧(¬ (p.kind=2)→cars2=cars∧gos2=gos∧ops2=ops))))))))))):G Try.prog E [.code (Qh Try.prog 77)] ⟨[.ptr 0 0 0,.agg [.int .i64 p.at_,.int .i64 p.kind,.int .i64 p.block],.agg [.nilSl,.rsl (Qe rd.k1) 0 rd.k1.length,.rsl (Qe rd.k2) 0 rd.k2.length,.rsl (Qe rd.k3) 0 rd.k3.length],.sl 3 g3 0 ops.length 1]++unds (Try.f77.ntmps - 4),[⟨true,0,1,false,[.rsl (Qk c.blocks) 0 c.blocks.length,.rsl (rowI c.cars) 0 c.cars.length,.rsl (Qo faults) 0 faults.length,.sl 1 g1 0 cars.length 4,.sl 2 g2 0 gos.length 1,.int .i64 tick,.int .i64 stopped,.bool wrecked,.int .i64 rounds,.int .i64 gone],false⟩,⟨true,g1,4,true,(Qi cars),true⟩,⟨true,g2,1,true,(rowB gos),true⟩,⟨true,g3,1,true,(rowB ops),true⟩]⟩:=by
 obtain ⟨h2,h⟩:=h
 obtain ⟨be,h1,h⟩:=h
 rcases bft be.station with hc0 | hc0
 · have h:=h.1 hc0
   obtain ⟨h4,h⟩:=h
   obtain ⟨se,h3,h⟩:=h
   rcases bft (Qu se 1) with hc1 | hc1
   · have h:=h.1 hc1
     obtain ⟨h6,h⟩:=h
     obtain ⟨se1,h5,h⟩:=h
     rcases bft (p.kind == 3) with hc2 | hc2
     · have h:=h.1 (eq_of_beq hc2)
       obtain ⟨h8,h⟩:=h
       obtain ⟨eb,h7,h⟩:=h
       obtain ⟨qe0,qe1,qe2⟩:=h
       exact p77_start_0 p c faults cars gos tick stopped wrecked rounds gone g1 g2 rd ops g3 be se se1 eb hE ⟨(QG h2 h1),(rp cBk 4 1 1 h1),hc0,(⟨by decide,by decide⟩),(QG h4 h3),(rp Xf 2 0 2 h3),(u93 (QO se 1)),hc1,(⟨by decide,by decide⟩),(QG h6 h5),(rp Xf 2 0 2 h5),(u93 (QO se1 1)),hc2,(QG h8 h7),rfl,(rf cB 1 0 1 h7),rfl,trivial⟩ (by try rfl) (by rw [qe0,qe1,qe2]; rw [(show Qx (rowB gos) (0+(Int.toNat p.block)*1) [.bool true]=rowB (gos.set (Int.toNat p.block) true) from QD cB (s:=1) (k:=0) (fun _=>rfl) h7 rfl (by first | decide | simp))]; all_goals (first | rfl | (simp only [List.length_set]; done) | (simp only [List.length_set]; rfl)))
     · have h:=h.2 (ne_of_beq_false hc2)
       rcases bft (p.kind == 1) with hc3 | hc3
       · have h:=h.1 (eq_of_beq hc3)
         rcases bft (p.kind == 1) with hc4 | hc4
         · have h:=h.1 (eq_of_beq hc4)
           exact p77_start_1 p c faults cars gos tick stopped wrecked rounds gone g1 g2 rd ops g3 be se se1 hE ⟨(QG h2 h1),(rp cBk 4 1 1 h1),hc0,(⟨by decide,by decide⟩),(QG h4 h3),(rp Xf 2 0 2 h3),(u93 (QO se 1)),hc1,(⟨by decide,by decide⟩),(QG h6 h5),(rp Xf 2 0 2 h5),(u93 (QO se1 1)),hc2,hc3,hc4,rfl,trivial⟩ h
         · have h:=h.2 (ne_of_beq_false hc4)
           obtain ⟨qe0,qe1,qe2⟩:=h
           exact p77_start_2 p c faults cars gos tick stopped wrecked rounds gone g1 g2 rd ops g3 be se se1 hE ⟨(QG h2 h1),(rp cBk 4 1 1 h1),hc0,(⟨by decide,by decide⟩),(QG h4 h3),(rp Xf 2 0 2 h3),(u93 (QO se 1)),hc1,(⟨by decide,by decide⟩),(QG h6 h5),(rp Xf 2 0 2 h5),(u93 (QO se1 1)),hc2,hc3,hc4,trivial⟩ (by try rfl) (by rw [qe0,qe1,qe2]; all_goals (first | rfl | (simp only [List.length_set]; done) | (simp only [List.length_set]; rfl)))
       · have h:=h.2 (ne_of_beq_false hc3)
         rcases bft (p.kind == 2) with hc4 | hc4
         · have h:=h.1 (eq_of_beq hc4)
           exact p77_start_3 p c faults cars gos tick stopped wrecked rounds gone g1 g2 rd ops g3 be se se1 hE ⟨(QG h2 h1),(rp cBk 4 1 1 h1),hc0,(⟨by decide,by decide⟩),(QG h4 h3),(rp Xf 2 0 2 h3),(u93 (QO se 1)),hc1,(⟨by decide,by decide⟩),(QG h6 h5),(rp Xf 2 0 2 h5),(u93 (QO se1 1)),hc2,hc3,hc4,rfl,trivial⟩ h
         · have h:=h.2 (ne_of_beq_false hc4)
           obtain ⟨qe0,qe1,qe2⟩:=h
           exact p77_start_4 p c faults cars gos tick stopped wrecked rounds gone g1 g2 rd ops g3 be se se1 hE ⟨(QG h2 h1),(rp cBk 4 1 1 h1),hc0,(⟨by decide,by decide⟩),(QG h4 h3),(rp Xf 2 0 2 h3),(u93 (QO se 1)),hc1,(⟨by decide,by decide⟩),(QG h6 h5),(rp Xf 2 0 2 h5),(u93 (QO se1 1)),hc2,hc3,hc4,trivial⟩ (by try rfl) (by rw [qe0,qe1,qe2]; all_goals (first | rfl | (simp only [List.length_set]; done) | (simp only [List.length_set]; rfl)))
   · have h:=h.2 hc1
     rcases bft (p.kind == 3) with hc2 | hc2
     · have h:=h.1 (eq_of_beq hc2)
       obtain ⟨h6,h⟩:=h
       obtain ⟨eb,h5,h⟩:=h
       obtain ⟨qe0,qe1,qe2⟩:=h
       exact p77_start_5 p c faults cars gos tick stopped wrecked rounds gone g1 g2 rd ops g3 be se eb hE ⟨(QG h2 h1),(rp cBk 4 1 1 h1),hc0,(⟨by decide,by decide⟩),(QG h4 h3),(rp Xf 2 0 2 h3),(u93 (QO se 1)),hc1,hc2,(QG h6 h5),rfl,(rf cB 1 0 1 h5),rfl,trivial⟩ (by try rfl) (by rw [qe0,qe1,qe2]; rw [(show Qx (rowB gos) (0+(Int.toNat p.block)*1) [.bool true]=rowB (gos.set (Int.toNat p.block) true) from QD cB (s:=1) (k:=0) (fun _=>rfl) h5 rfl (by first | decide | simp))]; all_goals (first | rfl | (simp only [List.length_set]; done) | (simp only [List.length_set]; rfl)))
     · have h:=h.2 (ne_of_beq_false hc2)
       rcases bft (p.kind == 1) with hc3 | hc3
       · have h:=h.1 (eq_of_beq hc3)
         rcases bft (p.kind == 1) with hc4 | hc4
         · have h:=h.1 (eq_of_beq hc4)
           exact p77_start_6 p c faults cars gos tick stopped wrecked rounds gone g1 g2 rd ops g3 be se hE ⟨(QG h2 h1),(rp cBk 4 1 1 h1),hc0,(⟨by decide,by decide⟩),(QG h4 h3),(rp Xf 2 0 2 h3),(u93 (QO se 1)),hc1,hc2,hc3,hc4,rfl,trivial⟩ h
         · have h:=h.2 (ne_of_beq_false hc4)
           obtain ⟨qe0,qe1,qe2⟩:=h
           exact p77_start_7 p c faults cars gos tick stopped wrecked rounds gone g1 g2 rd ops g3 be se hE ⟨(QG h2 h1),(rp cBk 4 1 1 h1),hc0,(⟨by decide,by decide⟩),(QG h4 h3),(rp Xf 2 0 2 h3),(u93 (QO se 1)),hc1,hc2,hc3,hc4,trivial⟩ (by try rfl) (by rw [qe0,qe1,qe2]; all_goals (first | rfl | (simp only [List.length_set]; done) | (simp only [List.length_set]; rfl)))
       · have h:=h.2 (ne_of_beq_false hc3)
         rcases bft (p.kind == 2) with hc4 | hc4
         · have h:=h.1 (eq_of_beq hc4)
           exact p77_start_8 p c faults cars gos tick stopped wrecked rounds gone g1 g2 rd ops g3 be se hE ⟨(QG h2 h1),(rp cBk 4 1 1 h1),hc0,(⟨by decide,by decide⟩),(QG h4 h3),(rp Xf 2 0 2 h3),(u93 (QO se 1)),hc1,hc2,hc3,hc4,rfl,trivial⟩ h
         · have h:=h.2 (ne_of_beq_false hc4)
           obtain ⟨qe0,qe1,qe2⟩:=h
           exact p77_start_9 p c faults cars gos tick stopped wrecked rounds gone g1 g2 rd ops g3 be se hE ⟨(QG h2 h1),(rp cBk 4 1 1 h1),hc0,(⟨by decide,by decide⟩),(QG h4 h3),(rp Xf 2 0 2 h3),(u93 (QO se 1)),hc1,hc2,hc3,hc4,trivial⟩ (by try rfl) (by rw [qe0,qe1,qe2]; all_goals (first | rfl | (simp only [List.length_set]; done) | (simp only [List.length_set]; rfl)))
 · have h:=h.2 hc0
   rcases bft (p.kind == 3) with hc1 | hc1
   · have h:=h.1 (eq_of_beq hc1)
     obtain ⟨h4,h⟩:=h
     obtain ⟨eb,h3,h⟩:=h
     obtain ⟨qe0,qe1,qe2⟩:=h
     exact p77_start_10 p c faults cars gos tick stopped wrecked rounds gone g1 g2 rd ops g3 be eb hE ⟨(QG h2 h1),(rp cBk 4 1 1 h1),hc0,rfl,hc1,(QG h4 h3),rfl,(rf cB 1 0 1 h3),rfl,trivial⟩ (by try rfl) (by rw [qe0,qe1,qe2]; rw [(show Qx (rowB gos) (0+(Int.toNat p.block)*1) [.bool true]=rowB (gos.set (Int.toNat p.block) true) from QD cB (s:=1) (k:=0) (fun _=>rfl) h3 rfl (by first | decide | simp))]; all_goals (first | rfl | (simp only [List.length_set]; done) | (simp only [List.length_set]; rfl)))
   · have h:=h.2 (ne_of_beq_false hc1)
     rcases bft (p.kind == 1) with hc2 | hc2
     · have h:=h.1 (eq_of_beq hc2)
       rcases bft (p.kind == 1) with hc3 | hc3
       · have h:=h.1 (eq_of_beq hc3)
         exact p77_start_11 p c faults cars gos tick stopped wrecked rounds gone g1 g2 rd ops g3 be hE ⟨(QG h2 h1),(rp cBk 4 1 1 h1),hc0,rfl,hc1,hc2,hc3,rfl,trivial⟩ h
       · have h:=h.2 (ne_of_beq_false hc3)
         obtain ⟨qe0,qe1,qe2⟩:=h
         exact p77_start_12 p c faults cars gos tick stopped wrecked rounds gone g1 g2 rd ops g3 be hE ⟨(QG h2 h1),(rp cBk 4 1 1 h1),hc0,rfl,hc1,hc2,hc3,trivial⟩ (by try rfl) (by rw [qe0,qe1,qe2]; all_goals (first | rfl | (simp only [List.length_set]; done) | (simp only [List.length_set]; rfl)))
     · have h:=h.2 (ne_of_beq_false hc2)
       rcases bft (p.kind == 2) with hc3 | hc3
       · have h:=h.1 (eq_of_beq hc3)
         exact p77_start_13 p c faults cars gos tick stopped wrecked rounds gone g1 g2 rd ops g3 be hE ⟨(QG h2 h1),(rp cBk 4 1 1 h1),hc0,rfl,hc1,hc2,hc3,rfl,trivial⟩ h
       · have h:=h.2 (ne_of_beq_false hc3)
         obtain ⟨qe0,qe1,qe2⟩:=h
         exact p77_start_14 p c faults cars gos tick stopped wrecked rounds gone g1 g2 rd ops g3 be hE ⟨(QG h2 h1),(rp cBk 4 1 1 h1),hc0,rfl,hc1,hc2,hc3,trivial⟩ (by try rfl) (by rw [qe0,qe1,qe2]; all_goals (first | rfl | (simp only [List.length_set]; done) | (simp only [List.length_set]; rfl)))
theorem p77_0_0 (p:Prs) (c:Cir) (faults:List Flt) (cars:List Car) (gos:List Bool) (tick stopped:Int) (wrecked:Bool) (rounds gone:Int) (g1 g2:Nat) (rd:Rd4) (ops:List Bool) (g3:Nat) (open_:Bool) (i:Nat) (v1:List Car) (v3:List Bool) (ce:Car) (eb:Bool) {E:Env} {rv:AV} {bs2:List Blk} (hE:LentE Try.prog 77 [.sl 3 g3 0 0 1] rv bs2 E) (ho:AllP [(decide ((i:Int)<(cars.length:Int)))=true,0≤(i:Int)∧(i:Int)<(v1.length:Int),g1=g1,g1=g1,g1=g1,g1=g1,g1=g1,((Qi v1).drop (((0+(Int.toNat (i:Int))*4)+0)+0)).take 1=[.int .i64 ce.spot.block],(ce.spot.block == p.block)=true,(p.kind == 2)=true,true=true,g1=g1,g1=g1,g1=g1,((((0+(Int.toNat (i:Int))*4)+0)+2)+1)≤(Qi v1).length,g1=g1,0≤p.block∧p.block<(v3.length:Int),g3=g3,g3=g3,((rowB v3).drop (0+(Int.toNat p.block)*1)).take 1=[.bool eb],eb=true,0≤p.block∧p.block<(v3.length:Int),g3=g3,((0+(Int.toNat p.block)*1)+1)≤(rowB v3).length,g3=g3,InR .i64 ((i:Int)+1)])
 (hg:G Try.prog E (VX Try.prog) ⟨(z77_6 g3 v3 p open_ cars i),[⟨true,0,1,false,(z77_4 c faults g1 v1 g2 gos tick stopped wrecked rounds gone),false⟩,⟨true,g1,4,true,(Qx (Qi v1) (((0+(Int.toNat (i:Int))*4)+0)+2) [.bool (p.kind == 1)]),true⟩,⟨true,g2,1,true,(rowB gos),true⟩,⟨true,g3,1,true,(Qx (rowB v3) (0+(Int.toNat p.block)*1) [.bool true]),true⟩,⟨true,0,1,true,(yj p),false⟩,⟨true,0,1,true,(z77_5 rd),false⟩]⟩):G Try.prog E (VX Try.prog) (yH p c faults cars gos tick stopped wrecked rounds gone g1 g2 rd ops g3 open_ i v1 v3 ) :=
 Qg (n:=400) (ds:=[]) (cs:=[]) (live:=[0,3,5,8,9,56,57]) (m:=6) (evs:=[.b true,.auto,.ld (.int .i64 ce.spot.block),.b true,.b true,.b true,.auto,.ld (.bool eb),.b true,.stop]) (obs:=_) hE.kind (hE.nogh (by kernel_rfl)) Ql (by kernel_rfl) ho hg
theorem p77_0_1 (p:Prs) (c:Cir) (faults:List Flt) (cars:List Car) (gos:List Bool) (tick stopped:Int) (wrecked:Bool) (rounds gone:Int) (g1 g2:Nat) (rd:Rd4) (ops:List Bool) (g3:Nat) (open_:Bool) (i:Nat) (v1:List Car) (v3:List Bool) (ce:Car) (eb:Bool) (ce1:Car) {E:Env} {rv:AV} {bs2:List Blk} (hE:LentE Try.prog 77 [.sl 3 g3 0 0 1] rv bs2 E) (ho:AllP [(decide ((i:Int)<(cars.length:Int)))=true,0≤(i:Int)∧(i:Int)<(v1.length:Int),g1=g1,g1=g1,g1=g1,g1=g1,g1=g1,((Qi v1).drop (((0+(Int.toNat (i:Int))*4)+0)+0)).take 1=[.int .i64 ce.spot.block],(ce.spot.block == p.block)=true,(p.kind == 2)=true,true=true,g1=g1,g1=g1,g1=g1,((((0+(Int.toNat (i:Int))*4)+0)+2)+1)≤(Qi v1).length,g1=g1,0≤p.block∧p.block<(v3.length:Int),g3=g3,g3=g3,((rowB v3).drop (0+(Int.toNat p.block)*1)).take 1=[.bool eb],eb=false,g1=g1,g1=g1,g1=g1,g1=g1,((Qx (Qi v1) (((0+(Int.toNat (i:Int))*4)+0)+2) [.bool (p.kind == 1)]).drop (((0+(Int.toNat (i:Int))*4)+0)+2)).take 1=[.bool ce1.spot.opn],0≤p.block∧p.block<(v3.length:Int),g3=g3,((0+(Int.toNat p.block)*1)+1)≤(rowB v3).length,g3=g3,InR .i64 ((i:Int)+1)])
 (hg:G Try.prog E (VX Try.prog) ⟨(z77_6 g3 v3 p open_ cars i),[⟨true,0,1,false,(z77_4 c faults g1 v1 g2 gos tick stopped wrecked rounds gone),false⟩,⟨true,g1,4,true,(Qx (Qi v1) (((0+(Int.toNat (i:Int))*4)+0)+2) [.bool (p.kind == 1)]),true⟩,⟨true,g2,1,true,(rowB gos),true⟩,⟨true,g3,1,true,(Qx (rowB v3) (0+(Int.toNat p.block)*1) [.bool ce1.spot.opn]),true⟩,⟨true,0,1,true,(yj p),false⟩,⟨true,0,1,true,(z77_5 rd),false⟩]⟩):G Try.prog E (VX Try.prog) (yH p c faults cars gos tick stopped wrecked rounds gone g1 g2 rd ops g3 open_ i v1 v3 ) :=
 Qg (n:=400) (ds:=[]) (cs:=[]) (live:=[0,3,5,8,9,56,57]) (m:=6) (evs:=[.b true,.auto,.ld (.int .i64 ce.spot.block),.b true,.b true,.b true,.auto,.ld (.bool eb),.b false,.ld (.bool ce1.spot.opn),.stop]) (obs:=_) hE.kind (hE.nogh (by kernel_rfl)) Ql (by kernel_rfl) ho hg
theorem p77_0_2 (p:Prs) (c:Cir) (faults:List Flt) (cars:List Car) (gos:List Bool) (tick stopped:Int) (wrecked:Bool) (rounds gone:Int) (g1 g2:Nat) (rd:Rd4) (ops:List Bool) (g3:Nat) (open_:Bool) (i:Nat) (v1:List Car) (v3:List Bool) (ce:Car) (eb:Bool) {E:Env} {rv:AV} {bs2:List Blk} (hE:LentE Try.prog 77 [.sl 3 g3 0 0 1] rv bs2 E) (ho:AllP [(decide ((i:Int)<(cars.length:Int)))=true,0≤(i:Int)∧(i:Int)<(v1.length:Int),g1=g1,g1=g1,g1=g1,g1=g1,g1=g1,((Qi v1).drop (((0+(Int.toNat (i:Int))*4)+0)+0)).take 1=[.int .i64 ce.spot.block],(ce.spot.block == p.block)=true,(p.kind == 2)=false,open_=true,g1=g1,g1=g1,g1=g1,((((0+(Int.toNat (i:Int))*4)+0)+2)+1)≤(Qi v1).length,g1=g1,0≤p.block∧p.block<(v3.length:Int),g3=g3,g3=g3,((rowB v3).drop (0+(Int.toNat p.block)*1)).take 1=[.bool eb],eb=true,0≤p.block∧p.block<(v3.length:Int),g3=g3,((0+(Int.toNat p.block)*1)+1)≤(rowB v3).length,g3=g3,InR .i64 ((i:Int)+1)])
 (hg:G Try.prog E (VX Try.prog) ⟨(z77_6 g3 v3 p open_ cars i),[⟨true,0,1,false,(z77_4 c faults g1 v1 g2 gos tick stopped wrecked rounds gone),false⟩,⟨true,g1,4,true,(Qx (Qi v1) (((0+(Int.toNat (i:Int))*4)+0)+2) [.bool (p.kind == 1)]),true⟩,⟨true,g2,1,true,(rowB gos),true⟩,⟨true,g3,1,true,(Qx (rowB v3) (0+(Int.toNat p.block)*1) [.bool true]),true⟩,⟨true,0,1,true,(yj p),false⟩,⟨true,0,1,true,(z77_5 rd),false⟩]⟩):G Try.prog E (VX Try.prog) (yH p c faults cars gos tick stopped wrecked rounds gone g1 g2 rd ops g3 open_ i v1 v3 ) :=
 Qg (n:=400) (ds:=[]) (cs:=[]) (live:=[0,3,5,8,9,56,57]) (m:=6) (evs:=[.b true,.auto,.ld (.int .i64 ce.spot.block),.b true,.b false,.b true,.auto,.ld (.bool eb),.b true,.stop]) (obs:=_) hE.kind (hE.nogh (by kernel_rfl)) Ql (by kernel_rfl) ho hg
theorem p77_0_3 (p:Prs) (c:Cir) (faults:List Flt) (cars:List Car) (gos:List Bool) (tick stopped:Int) (wrecked:Bool) (rounds gone:Int) (g1 g2:Nat) (rd:Rd4) (ops:List Bool) (g3:Nat) (open_:Bool) (i:Nat) (v1:List Car) (v3:List Bool) (ce:Car) (eb:Bool) (ce1:Car) {E:Env} {rv:AV} {bs2:List Blk} (hE:LentE Try.prog 77 [.sl 3 g3 0 0 1] rv bs2 E) (ho:AllP [(decide ((i:Int)<(cars.length:Int)))=true,0≤(i:Int)∧(i:Int)<(v1.length:Int),g1=g1,g1=g1,g1=g1,g1=g1,g1=g1,((Qi v1).drop (((0+(Int.toNat (i:Int))*4)+0)+0)).take 1=[.int .i64 ce.spot.block],(ce.spot.block == p.block)=true,(p.kind == 2)=false,open_=true,g1=g1,g1=g1,g1=g1,((((0+(Int.toNat (i:Int))*4)+0)+2)+1)≤(Qi v1).length,g1=g1,0≤p.block∧p.block<(v3.length:Int),g3=g3,g3=g3,((rowB v3).drop (0+(Int.toNat p.block)*1)).take 1=[.bool eb],eb=false,g1=g1,g1=g1,g1=g1,g1=g1,((Qx (Qi v1) (((0+(Int.toNat (i:Int))*4)+0)+2) [.bool (p.kind == 1)]).drop (((0+(Int.toNat (i:Int))*4)+0)+2)).take 1=[.bool ce1.spot.opn],0≤p.block∧p.block<(v3.length:Int),g3=g3,((0+(Int.toNat p.block)*1)+1)≤(rowB v3).length,g3=g3,InR .i64 ((i:Int)+1)])
 (hg:G Try.prog E (VX Try.prog) ⟨(z77_6 g3 v3 p open_ cars i),[⟨true,0,1,false,(z77_4 c faults g1 v1 g2 gos tick stopped wrecked rounds gone),false⟩,⟨true,g1,4,true,(Qx (Qi v1) (((0+(Int.toNat (i:Int))*4)+0)+2) [.bool (p.kind == 1)]),true⟩,⟨true,g2,1,true,(rowB gos),true⟩,⟨true,g3,1,true,(Qx (rowB v3) (0+(Int.toNat p.block)*1) [.bool ce1.spot.opn]),true⟩,⟨true,0,1,true,(yj p),false⟩,⟨true,0,1,true,(z77_5 rd),false⟩]⟩):G Try.prog E (VX Try.prog) (yH p c faults cars gos tick stopped wrecked rounds gone g1 g2 rd ops g3 open_ i v1 v3 ) :=
 Qg (n:=400) (ds:=[]) (cs:=[]) (live:=[0,3,5,8,9,56,57]) (m:=6) (evs:=[.b true,.auto,.ld (.int .i64 ce.spot.block),.b true,.b false,.b true,.auto,.ld (.bool eb),.b false,.ld (.bool ce1.spot.opn),.stop]) (obs:=_) hE.kind (hE.nogh (by kernel_rfl)) Ql (by kernel_rfl) ho hg
theorem p77_0_4 (p:Prs) (c:Cir) (faults:List Flt) (cars:List Car) (gos:List Bool) (tick stopped:Int) (wrecked:Bool) (rounds gone:Int) (g1 g2:Nat) (rd:Rd4) (ops:List Bool) (g3:Nat) (open_:Bool) (i:Nat) (v1:List Car) (v3:List Bool) (ce:Car) {E:Env} {rv:AV} {bs2:List Blk} (hE:LentE Try.prog 77 [.sl 3 g3 0 0 1] rv bs2 E) (ho:AllP [(decide ((i:Int)<(cars.length:Int)))=true,0≤(i:Int)∧(i:Int)<(v1.length:Int),g1=g1,g1=g1,g1=g1,g1=g1,g1=g1,((Qi v1).drop (((0+(Int.toNat (i:Int))*4)+0)+0)).take 1=[.int .i64 ce.spot.block],(ce.spot.block == p.block)=true,(p.kind == 2)=false,open_=false,InR .i64 ((i:Int)+1)])
 (hg:G Try.prog E (VX Try.prog) ⟨(z77_6 g3 v3 p open_ cars i),[⟨true,0,1,false,(z77_4 c faults g1 v1 g2 gos tick stopped wrecked rounds gone),false⟩,⟨true,g1,4,true,(Qi v1),true⟩,⟨true,g2,1,true,(rowB gos),true⟩,⟨true,g3,1,true,(rowB v3),true⟩,⟨true,0,1,true,(yj p),false⟩,⟨true,0,1,true,(z77_5 rd),false⟩]⟩):G Try.prog E (VX Try.prog) (yH p c faults cars gos tick stopped wrecked rounds gone g1 g2 rd ops g3 open_ i v1 v3 ) :=
 Qg (n:=400) (ds:=[]) (cs:=[]) (live:=[0,3,5,8,9,56,57]) (m:=6) (evs:=[.b true,.auto,.ld (.int .i64 ce.spot.block),.b true,.b false,.b false,.stop]) (obs:=_) hE.kind (hE.nogh (by kernel_rfl)) Ql (by kernel_rfl) ho hg
theorem p77_0_5 (p:Prs) (c:Cir) (faults:List Flt) (cars:List Car) (gos:List Bool) (tick stopped:Int) (wrecked:Bool) (rounds gone:Int) (g1 g2:Nat) (rd:Rd4) (ops:List Bool) (g3:Nat) (open_:Bool) (i:Nat) (v1:List Car) (v3:List Bool) (ce:Car) {E:Env} {rv:AV} {bs2:List Blk} (hE:LentE Try.prog 77 [.sl 3 g3 0 0 1] rv bs2 E) (ho:AllP [(decide ((i:Int)<(cars.length:Int)))=true,0≤(i:Int)∧(i:Int)<(v1.length:Int),g1=g1,g1=g1,g1=g1,g1=g1,g1=g1,((Qi v1).drop (((0+(Int.toNat (i:Int))*4)+0)+0)).take 1=[.int .i64 ce.spot.block],(ce.spot.block == p.block)=false,false=false,InR .i64 ((i:Int)+1)])
 (hg:G Try.prog E (VX Try.prog) ⟨(z77_6 g3 v3 p open_ cars i),[⟨true,0,1,false,(z77_4 c faults g1 v1 g2 gos tick stopped wrecked rounds gone),false⟩,⟨true,g1,4,true,(Qi v1),true⟩,⟨true,g2,1,true,(rowB gos),true⟩,⟨true,g3,1,true,(rowB v3),true⟩,⟨true,0,1,true,(yj p),false⟩,⟨true,0,1,true,(z77_5 rd),false⟩]⟩):G Try.prog E (VX Try.prog) (yH p c faults cars gos tick stopped wrecked rounds gone g1 g2 rd ops g3 open_ i v1 v3 ) :=
 Qg (n:=400) (ds:=[]) (cs:=[]) (live:=[0,3,5,8,9,56,57]) (m:=6) (evs:=[.b true,.auto,.ld (.int .i64 ce.spot.block),.b false,.b false,.stop]) (obs:=_) hE.kind (hE.nogh (by kernel_rfl)) Ql (by kernel_rfl) ho hg
theorem p77_0_6 (p:Prs) (c:Cir) (faults:List Flt) (cars:List Car) (gos:List Bool) (tick stopped:Int) (wrecked:Bool) (rounds gone:Int) (g1 g2:Nat) (rd:Rd4) (ops:List Bool) (g3:Nat) (open_:Bool) (i:Nat) (v1:List Car) (v3:List Bool) {E:Env} {res:AV} {bs2:List Blk} (hE:LentE Try.prog 77 [.sl 3 g3 0 0 1] res bs2 E) (ho:AllP [(decide ((i:Int)<(cars.length:Int)))=false])
 (hr:(.tup [])=res) (hb:[⟨true,0,1,false,(z77_4 c faults g1 v1 g2 gos tick stopped wrecked rounds gone),false⟩,⟨true,g1,4,true,(Qi v1),true⟩,⟨true,g2,1,true,(rowB gos),true⟩,⟨true,g3,1,true,(rowB v3),true⟩]=bs2):G Try.prog E (VX Try.prog) (yH p c faults cars gos tick stopped wrecked rounds gone g1 g2 rd ops g3 open_ i v1 v3 ) :=
 XK (n:=400) (live:=[]) (m:=4) (evs:=[.b false]) (obs:=_) hE (hE.nogh (by kernel_rfl)) Try.func77 Ql (by kernel_rfl) ho hr hb
theorem f77W0 (p:Prs) (c:Cir) (faults:List Flt) (cars:List Car) (gos:List Bool) (tick stopped:Int) (wrecked:Bool) (rounds gone:Int) (g1 g2:Nat) (rd:Rd4) (ops:List Bool) (g3:Nat) (open_:Bool) (i:Nat) (v1:List Car) (v3:List Bool) {E:Env} {rv:Unit} {cars2:List Car} {gos2:List Bool} {ops2:List Bool} (hE:LentE Try.prog 77 [.sl 3 g3 0 0 1] (.tup []) [⟨true,0,1,false,[.rsl (Qk c.blocks) 0 c.blocks.length,.rsl (rowI c.cars) 0 c.cars.length,.rsl (Qo faults) 0 faults.length,.sl 1 g1 0 cars2.length 4,.sl 2 g2 0 gos2.length 1,.int .i64 tick,.int .i64 stopped,.bool wrecked,.int .i64 rounds,.int .i64 gone],false⟩,⟨true,g1,4,true,(Qi cars2),true⟩,⟨true,g2,1,true,(rowB gos2),true⟩,⟨true,g3,1,true,(rowB ops2),true⟩] E)
 (h:(((i:Int)<(cars.length:Int)→(∃ ce:Car,v1[i]?=some ce∧((ce.spot.block=p.block→((p.kind=2→(0≤p.block∧(∃ eb:Bool,v3[Int.toNat p.block]?=some eb∧((eb=true→((I6 ((i:Int)+1))∧Vr E p c faults cars gos tick stopped wrecked rounds gone g1 g2 rd ops g3 open_ (i+1) (v1.set i (⟨(⟨ce.spot.block,ce.spot.ran,(p.kind == 1)⟩:Spt),ce.stood⟩:Car)) (v3.set (Int.toNat p.block) true)))∧(eb=false→(∃ ce1:Car,(v1.set i (⟨(⟨ce.spot.block,ce.spot.ran,(p.kind == 1)⟩:Spt),ce.stood⟩:Car))[i]?=some ce1∧((I6 ((i:Int)+1))∧Vr E p c faults cars gos tick stopped wrecked rounds gone g1 g2 rd ops g3 open_ (i+1) (v1.set i (⟨(⟨ce.spot.block,ce.spot.ran,(p.kind == 1)⟩:Spt),ce.stood⟩:Car)) (v3.set (Int.toNat p.block) ce1.spot.opn))))))))∧(¬ (p.kind=2)→((open_=true→(0≤p.block∧(∃ eb:Bool,v3[Int.toNat p.block]?=some eb∧((eb=true→((I6 ((i:Int)+1))∧Vr E p c faults cars gos tick stopped wrecked rounds gone g1 g2 rd ops g3 open_ (i+1) (v1.set i (⟨(⟨ce.spot.block,ce.spot.ran,(p.kind == 1)⟩:Spt),ce.stood⟩:Car)) (v3.set (Int.toNat p.block) true)))∧(eb=false→(∃ ce1:Car,(v1.set i (⟨(⟨ce.spot.block,ce.spot.ran,(p.kind == 1)⟩:Spt),ce.stood⟩:Car))[i]?=some ce1∧((I6 ((i:Int)+1))∧Vr E p c faults cars gos tick stopped wrecked rounds gone g1 g2 rd ops g3 open_ (i+1) (v1.set i (⟨(⟨ce.spot.block,ce.spot.ran,(p.kind == 1)⟩:Spt),ce.stood⟩:Car)) (v3.set (Int.toNat p.block) ce1.spot.opn))))))))∧(open_=false→((I6 ((i:Int)+1))∧Vr E p c faults cars gos tick stopped wrecked rounds gone g1 g2 rd ops g3 open_ (i+1) v1 v3))))))∧(¬ (ce.spot.block=p.block)→((I6 ((i:Int)+1))∧Vr E p c faults cars gos tick stopped wrecked rounds gone g1 g2 rd ops g3 open_ (i+1) v1 v3)))))∧(¬ ((i:Int)<(cars.length:Int))→cars2=v1∧gos2=gos∧ops2=v3))):Vr E p c faults cars gos tick stopped wrecked rounds gone g1 g2 rd ops g3 open_ i v1 v3:=by
 rcases bft (decide ((i:Int)<(cars.length:Int))) with hc0 | hc0
 · have h:=h.1 (odt hc0)
   obtain ⟨ce,h1,h⟩:=h
   rcases bft (ce.spot.block == p.block) with hc1 | hc1
   · have h:=h.1 (eq_of_beq hc1)
     rcases bft (p.kind == 2) with hc2 | hc2
     · have h:=h.1 (eq_of_beq hc2)
       obtain ⟨h3,h⟩:=h
       obtain ⟨eb,h2,h⟩:=h
       rcases bft eb with hc3 | hc3
       · have h:=h.1 hc3
         obtain ⟨q27_4,h⟩:=h
         refine p77_0_0 p c faults cars gos tick stopped wrecked rounds gone g1 g2 rd ops g3 open_ i v1 v3 ce eb hE ⟨hc0,(Qp h1),rfl,rfl,rfl,rfl,rfl,(rp cCar 4 0 1 h1),hc1,hc2,rfl,rfl,rfl,rfl,(rf cCar 4 2 1 h1),rfl,(QG h3 h2),rfl,rfl,(rp cB 1 0 1 h2),hc3,(QG h3 h2),rfl,(rf cB 1 0 1 h2),rfl,q27_4,trivial⟩ ?_
         have h:=h
         simp only [Vr,yH,List.length_set] at h
         rw [(show Qx (Qi v1) (((0+(Int.toNat (i:Int))*4)+0)+2) [.bool (p.kind == 1)]=Qi (v1.set i (⟨(⟨ce.spot.block,ce.spot.ran,(p.kind == 1)⟩:Spt),ce.stood⟩:Car)) from QD cCar (s:=4) (k:=2) (fun _=>rfl) h1 rfl (by first | decide | simp))]; rw [(show Qx (rowB v3) (0+(Int.toNat p.block)*1) [.bool true]=rowB (v3.set (Int.toNat p.block) true) from QD cB (s:=1) (k:=0) (fun _=>rfl) h2 rfl (by first | decide | simp))]
         exact h
       · have h:=h.2 hc3
         obtain ⟨ce1,h4,h⟩:=h
         obtain ⟨q33_4,h⟩:=h
         refine p77_0_1 p c faults cars gos tick stopped wrecked rounds gone g1 g2 rd ops g3 open_ i v1 v3 ce eb ce1 hE ⟨hc0,(Qp h1),rfl,rfl,rfl,rfl,rfl,(rp cCar 4 0 1 h1),hc1,hc2,rfl,rfl,rfl,rfl,(rf cCar 4 2 1 h1),rfl,(QG h3 h2),rfl,rfl,(rp cB 1 0 1 h2),hc3,rfl,rfl,rfl,rfl,(by rw [(show Qx (Qi v1) (((0+(Int.toNat (i:Int))*4)+0)+2) [.bool (p.kind == 1)]=Qi (v1.set i (⟨(⟨ce.spot.block,ce.spot.ran,(p.kind == 1)⟩:Spt),ce.stood⟩:Car)) from QD cCar (s:=4) (k:=2) (fun _=>rfl) h1 rfl (by first | decide | simp))]; exact rp cCar 4 2 1 h4),(QG h3 h2),rfl,(rf cB 1 0 1 h2),rfl,q33_4,trivial⟩ ?_
         have h:=h
         simp only [Vr,yH,List.length_set] at h
         rw [(show Qx (Qi v1) (((0+(Int.toNat (i:Int))*4)+0)+2) [.bool (p.kind == 1)]=Qi (v1.set i (⟨(⟨ce.spot.block,ce.spot.ran,(p.kind == 1)⟩:Spt),ce.stood⟩:Car)) from QD cCar (s:=4) (k:=2) (fun _=>rfl) h1 rfl (by first | decide | simp))]; rw [(show Qx (rowB v3) (0+(Int.toNat p.block)*1) [.bool ce1.spot.opn]=rowB (v3.set (Int.toNat p.block) ce1.spot.opn) from QD cB (s:=1) (k:=0) (fun _=>rfl) h2 rfl (by first | decide | simp))]
         exact h
     · have h:=h.2 (ne_of_beq_false hc2)
       rcases bft open_ with hc3 | hc3
       · have h:=h.1 hc3
         obtain ⟨h3,h⟩:=h
         obtain ⟨eb,h2,h⟩:=h
         rcases bft eb with hc4 | hc4
         · have h:=h.1 hc4
           obtain ⟨q27_5,h⟩:=h
           refine p77_0_2 p c faults cars gos tick stopped wrecked rounds gone g1 g2 rd ops g3 open_ i v1 v3 ce eb hE ⟨hc0,(Qp h1),rfl,rfl,rfl,rfl,rfl,(rp cCar 4 0 1 h1),hc1,hc2,hc3,rfl,rfl,rfl,(rf cCar 4 2 1 h1),rfl,(QG h3 h2),rfl,rfl,(rp cB 1 0 1 h2),hc4,(QG h3 h2),rfl,(rf cB 1 0 1 h2),rfl,q27_5,trivial⟩ ?_
           have h:=h
           simp only [Vr,yH,List.length_set] at h
           rw [(show Qx (Qi v1) (((0+(Int.toNat (i:Int))*4)+0)+2) [.bool (p.kind == 1)]=Qi (v1.set i (⟨(⟨ce.spot.block,ce.spot.ran,(p.kind == 1)⟩:Spt),ce.stood⟩:Car)) from QD cCar (s:=4) (k:=2) (fun _=>rfl) h1 rfl (by first | decide | simp))]; rw [(show Qx (rowB v3) (0+(Int.toNat p.block)*1) [.bool true]=rowB (v3.set (Int.toNat p.block) true) from QD cB (s:=1) (k:=0) (fun _=>rfl) h2 rfl (by first | decide | simp))]
           exact h
         · have h:=h.2 hc4
           obtain ⟨ce1,h4,h⟩:=h
           obtain ⟨q33_5,h⟩:=h
           refine p77_0_3 p c faults cars gos tick stopped wrecked rounds gone g1 g2 rd ops g3 open_ i v1 v3 ce eb ce1 hE ⟨hc0,(Qp h1),rfl,rfl,rfl,rfl,rfl,(rp cCar 4 0 1 h1),hc1,hc2,hc3,rfl,rfl,rfl,(rf cCar 4 2 1 h1),rfl,(QG h3 h2),rfl,rfl,(rp cB 1 0 1 h2),hc4,rfl,rfl,rfl,rfl,(by rw [(show Qx (Qi v1) (((0+(Int.toNat (i:Int))*4)+0)+2) [.bool (p.kind == 1)]=Qi (v1.set i (⟨(⟨ce.spot.block,ce.spot.ran,(p.kind == 1)⟩:Spt),ce.stood⟩:Car)) from QD cCar (s:=4) (k:=2) (fun _=>rfl) h1 rfl (by first | decide | simp))]; exact rp cCar 4 2 1 h4),(QG h3 h2),rfl,(rf cB 1 0 1 h2),rfl,q33_5,trivial⟩ ?_
           have h:=h
           simp only [Vr,yH,List.length_set] at h
           rw [(show Qx (Qi v1) (((0+(Int.toNat (i:Int))*4)+0)+2) [.bool (p.kind == 1)]=Qi (v1.set i (⟨(⟨ce.spot.block,ce.spot.ran,(p.kind == 1)⟩:Spt),ce.stood⟩:Car)) from QD cCar (s:=4) (k:=2) (fun _=>rfl) h1 rfl (by first | decide | simp))]; rw [(show Qx (rowB v3) (0+(Int.toNat p.block)*1) [.bool ce1.spot.opn]=rowB (v3.set (Int.toNat p.block) ce1.spot.opn) from QD cB (s:=1) (k:=0) (fun _=>rfl) h2 rfl (by first | decide | simp))]
           exact h
       · have h:=h.2 hc3
         obtain ⟨q12_4,h⟩:=h
         exact p77_0_4 p c faults cars gos tick stopped wrecked rounds gone g1 g2 rd ops g3 open_ i v1 v3 ce hE ⟨hc0,(Qp h1),rfl,rfl,rfl,rfl,rfl,(rp cCar 4 0 1 h1),hc1,hc2,hc3,q12_4,trivial⟩ h
   · have h:=h.2 (ne_of_beq_false hc1)
     obtain ⟨q11_2,h⟩:=h
     exact p77_0_5 p c faults cars gos tick stopped wrecked rounds gone g1 g2 rd ops g3 open_ i v1 v3 ce hE ⟨hc0,(Qp h1),rfl,rfl,rfl,rfl,rfl,(rp cCar 4 0 1 h1),hc1,rfl,q11_2,trivial⟩ h
 · have h:=h.2 (odf hc0)
   obtain ⟨qe0,qe1,qe2⟩:=h
   exact p77_0_6 p c faults cars gos tick stopped wrecked rounds gone g1 g2 rd ops g3 open_ i v1 v3 hE ⟨hc0,trivial⟩ (by try rfl) (by rw [qe0,qe1,qe2]; all_goals (first | rfl | (simp only [List.length_set]; done) | (simp only [List.length_set]; rfl)))
structure RdOk (c:Cir) (rd:Rd4):Prop where
 l1:rd.k1.length=c.blocks.length
 l2:rd.k2.length=c.blocks.length
 l3:rd.k3.length=c.blocks.length
theorem set_set {α:Type} {l:List α} {i:Nat} {a b:α}:(l.set i a).set i b=l.set i b:=by simp
theorem press_ok (p:Prs) (c:Cir) (faults:List Flt) (cars:List Car) (gos:List Bool) (tick stopped:Int) (wrecked:Bool) (rounds gone:Int) (g1 g2:Nat) (rd:Rd4) (ops:List Bool) (g3:Nat)
 (h:(InC c p.block∧(p.kind=1 ∨ p.kind=2 ∨ p.kind=3))∧RdOk c rd∧(cars.length≤2147483648∧gos.length=c.blocks.length∧ops.length=c.blocks.length)) :
 Lent Try.prog 77 [.ptr 0 0 0,.agg [.int .i64 p.at_,.int .i64 p.kind,.int .i64 p.block],.agg [.nilSl,.rsl (Qe rd.k1) 0 rd.k1.length,.rsl (Qe rd.k2) 0 rd.k2.length,.rsl (Qe rd.k3) 0 rd.k3.length],.sl 3 g3 0 ops.length 1] [⟨true,0,1,false,[.rsl (Qk c.blocks) 0 c.blocks.length,.rsl (rowI c.cars) 0 c.cars.length,.rsl (Qo faults) 0 faults.length,.sl 1 g1 0 cars.length 4,.sl 2 g2 0 gos.length 1,.int .i64 tick,.int .i64 stopped,.bool wrecked,.int .i64 rounds,.int .i64 gone],false⟩,⟨true,g1,4,true,(Qi cars),true⟩,⟨true,g2,1,true,(rowB gos),true⟩,⟨true,g3,1,true,(rowB ops),true⟩] (.tup []) [⟨true,0,1,false,[.rsl (Qk c.blocks) 0 c.blocks.length,.rsl (rowI c.cars) 0 c.cars.length,.rsl (Qo faults) 0 faults.length,.sl 1 g1 0 (Xm c rd p (cars,gos,ops)).1.length 4,.sl 2 g2 0 (Xm c rd p (cars,gos,ops)).2.1.length 1,.int .i64 tick,.int .i64 stopped,.bool wrecked,.int .i64 rounds,.int .i64 gone],false⟩,⟨true,g1,4,true,(Qi (Xm c rd p (cars,gos,ops)).1),true⟩,⟨true,g2,1,true,(rowB (Xm c rd p (cars,gos,ops)).2.1),true⟩,⟨true,g3,1,true,(rowB (Xm c rd p (cars,gos,ops)).2.2),true⟩]:=QaL _ Try.func77 f77b rfl rfl fun E hE=>by
 obtain ⟨⟨hb,hk⟩,hrd,hl,hg,ho⟩:=h
 have s1:rd.k2[Int.toNat p.block]?=some (rd.k2.getD (Int.toNat p.block) dD):=getD_some (by rw [hrd.l2]; exact hb.2)
 have s2:rd.k1[Int.toNat p.block]?=some (rd.k1.getD (Int.toNat p.block) dD):=getD_some (by rw [hrd.l1]; exact hb.2)
 have s3:gos[Int.toNat p.block]?=some (gos.getD (Int.toNat p.block) false):=getD_some (by rw [hg]; exact hb.2)
 have s4:ops[Int.toNat p.block]?=some (ops.getD (Int.toNat p.block) false):=getD_some (by rw [ho]; exact hb.2)
 have hlo:Int.toNat p.block<ops.length:=by rw [ho]; exact hb.2
 -- the loop over the cars
 have loop:p.kind=1 ∨ p.kind=2→∀ op,op=qU c rd p→Vr E p c faults cars gos tick stopped wrecked rounds gone g1 g2 rd ops g3 op 0 cars ops:=by
  intro hk2 op hop
  have hk3:¬ p.kind=3:=by omega
  have key:∀ (d i:Nat),i+d=cars.length→Vr E p c faults cars gos tick stopped wrecked rounds gone g1 g2 rd ops g3 op i (Wr (Vp op p) cars i) (opsP op p (cars.take i) ops):=by
   intro d
   induction d with
   | zero =>
    intro i hi
    refine f77W0 p c faults cars gos tick stopped wrecked rounds gone g1 g2 rd ops g3 op i _ _ (rv:=()) hE ⟨fun h=>by omega,fun _=>?_⟩
    rw [show i=cars.length by omega,mapTo_all,List.take_length,Xm,if_neg hk3,hop]
    exact ⟨rfl,rfl,rfl⟩
   | succ d ih =>
    intro i hi
    have hlt:i<cars.length:=by omega
    have hx:=Kq (f:=Vp op p) hlt
    have hci:cars[i]?=some cars[i]:=List.getElem?_eq_getElem hlt
    have nx:=ih (i+1) (by omega)
    have hv3:(opsP op p (cars.take i) ops)[Int.toNat p.block]?=some (ops.getD (Int.toNat p.block) false || (p.kind == 1 && (cars.take i).any (hitP op p))):=by
     rw [opsP,List.getElem?_set_self hlo]
    have hops:opsP op p (cars.take (i+1)) ops=ops.set (Int.toNat p.block) ((ops.getD (Int.toNat p.block) false || (p.kind == 1 && (cars.take i).any (hitP op p))) || (p.kind == 1 && hitP op p cars[i])):=by
     rw [opsP,qI hci,Bool.and_or_distrib_left,Bool.or_assoc]
    have hset:∀ v:Bool,(opsP op p (cars.take i) ops).set (Int.toNat p.block) v=ops.set (Int.toNat p.block) v:=fun v=>by rw [opsP,set_set]
    generalize hold:(ops.getD (Int.toNat p.block) false || (p.kind == 1 && (cars.take i).any (hitP op p)))=o at hv3 hops
    have miss:hitP op p cars[i]=false→Vr E p c faults cars gos tick stopped wrecked rounds gone g1 g2 rd ops g3 op (i+1) (Wr (Vp op p) cars i) (opsP op p (cars.take i) ops):=fun hh=>by
     rw [mapTo_set_id hlt (by rw [Vp,hh]; simp)]
     have e:opsP op p (cars.take (i+1)) ops=opsP op p (cars.take i) ops:=by
      rw [hops,hh,Bool.and_false,Bool.or_false,opsP,hold]
     rw [← e]; exact nx
    have hit:hitP op p cars[i]=true→∀ v,v=(o || (p.kind == 1))→Vr E p c faults cars gos tick stopped wrecked rounds gone g1 g2 rd ops g3 op (i+1) ((Wr (Vp op p) cars i).set i (⟨(⟨cars[i].spot.block,cars[i].spot.ran,(p.kind == 1)⟩:Spt),cars[i].stood⟩:Car)) ((opsP op p (cars.take i) ops).set (Int.toNat p.block) v):=fun hh v hv=>by
     have e1:(⟨(⟨cars[i].spot.block,cars[i].spot.ran,(p.kind == 1)⟩:Spt),cars[i].stood⟩:Car)=Vp op p cars[i]:=by rw [Vp,if_pos hh]
     rw [e1,Ko hlt,hset,hv]
     rw [hops,hh,Bool.and_true] at nx
     exact nx
    have hgs:∀ y:Car,((Wr (Vp op p) cars i).set i y)[i]?=some y:=fun y=>by
     rw [List.getElem?_set_self (by rw [mapTo_len]; exact hlt)]
    generalize cars[i]=x at hx miss hit
    refine f77W0 p c faults cars gos tick stopped wrecked rounds gone g1 g2 rd ops g3 op i _ _ (rv:=()) hE ⟨fun _=>⟨x,hx,fun e1=>⟨fun e2=>⟨hb.1,o,hv3,fun e3=>⟨by omega,hit (by simp [hitP,e1,e2]) _ (by rw [e3]; rfl)⟩,fun e3=>⟨_,hgs _,by omega,hit (by simp [hitP,e1,e2]) _ (by rw [e3]; rfl)⟩⟩,fun e2=>⟨fun e4=>⟨hb.1,o,hv3,fun e3=>⟨by omega,hit (by simp [hitP,e1,e4]) _ (by rw [e3]; rfl)⟩,fun e3=>⟨_,hgs _,by omega,hit (by simp [hitP,e1,e4]) _ (by rw [e3]; rfl)⟩⟩,fun e4=>⟨by omega,miss (by simp [hitP,e2,e4])⟩⟩⟩,fun e1=>⟨by omega,miss (by simp [hitP,e1])⟩⟩,fun h=>by omega⟩
  have:=key cars.length 0 (by omega)
  rw [Qai] at this
  have e:opsP op p (cars.take 0) ops=ops:=by
   rw [opsP]; simp only [List.take_zero,List.any_nil,Bool.and_false,Bool.or_false]
   apply List.ext_getElem?
   intro j
   rw [List.getElem?_set]
   split
   · rename_i e; subst e; first | exact s4.symm | rw [if_pos hlo,s4]
   · rfl
  rw [e] at this
  exact this
 have rest:∀ op,op=qU c rd p→((p.kind=3→(0≤p.block∧(∃ eb:Bool,gos[Int.toNat p.block]?=some eb∧(Xm c rd p (cars,gos,ops)).1=cars∧(Xm c rd p (cars,gos,ops)).2.1=(gos.set (Int.toNat p.block) true)∧(Xm c rd p (cars,gos,ops)).2.2=ops))) ∧
  (¬ (p.kind=3)→((p.kind=1→((p.kind=1→Vr E p c faults cars gos tick stopped wrecked rounds gone g1 g2 rd ops g3 op 0 cars ops)∧(¬ (p.kind=1)→(Xm c rd p (cars,gos,ops)).1=cars∧(Xm c rd p (cars,gos,ops)).2.1=gos∧(Xm c rd p (cars,gos,ops)).2.2=ops))) ∧
    (¬ (p.kind=1)→((p.kind=2→Vr E p c faults cars gos tick stopped wrecked rounds gone g1 g2 rd ops g3 op 0 cars ops)∧(¬ (p.kind=2)→(Xm c rd p (cars,gos,ops)).1=cars∧(Xm c rd p (cars,gos,ops)).2.1=gos∧(Xm c rd p (cars,gos,ops)).2.2=ops)))))):=fun op hop =>
  ⟨fun h3=>⟨hb.1,_,s3,by rw [Xm,if_pos h3],by rw [Xm,if_pos h3],by rw [Xm,if_pos h3]⟩,fun h3=>⟨fun h1=>⟨fun _=>loop (.inl h1) op hop,fun h=>absurd h1 h⟩,fun h1=>⟨fun h2=>loop (.inr h2) op hop,fun h2=>by omega⟩⟩⟩
 refine f77W p c faults cars gos tick stopped wrecked rounds gone g1 g2 rd ops g3 (rv:=()) hE ⟨hb.1,_,QaW hb,fun h1=>⟨hb.1,_,s1,fun h2=>⟨hb.1,_,s2,rest _ (by rw [qU,h1,h2]; rfl)⟩,fun h2=>rest _ (by rw [qU,h1,h2]; rfl)⟩,fun h1=>rest _ (by rw [qU,h1]; rfl)⟩
theorem f78b:Try.f78.body=some (Qh Try.prog 78):=by kernel_rfl
def f78K0 (P:Program):List Item:=kAt 400 [.code (Qh P 78)] [.stop]
def f78S0 (c:Cir) (faults:List Flt) (cars:List Car) (gos:List Bool) (tick stopped:Int) (wrecked:Bool) (rounds gone:Int) (g1 g2:Nat) (rd:Rd4) (ops:List Bool) (g3:Nat) (v5:List (Option (List Int))) (i:Nat) (g5:Nat):St:=⟨([.ptr 0 0 0,J,.sl 3 g3 0 ops.length 1,J,.ptr 4 0 0,J,.sl 5 g5 0 v5.length 1]++jj 17 ([.sl 1 g1 0 cars.length 4,.int .i64 (cars.length:Int),.int .i64 (i:Int)]++Js 145)),[⟨true,0,1,false,[.rsl (Qk c.blocks) 0 c.blocks.length,.rsl (rowI c.cars) 0 c.cars.length,.rsl (Qo faults) 0 faults.length,.sl 1 g1 0 cars.length 4,.sl 2 g2 0 gos.length 1,.int .i64 tick,.int .i64 stopped,.bool wrecked,.int .i64 rounds,.int .i64 gone],false⟩,⟨true,g1,4,true,(Qi cars),true⟩,⟨true,g2,1,true,(rowB gos),true⟩,⟨true,g3,1,true,(rowB ops),true⟩,⟨true,0,1,true,[.nilSl,.rsl (Qe rd.k1) 0 rd.k1.length,.rsl (Qe rd.k2) 0 rd.k2.length,.rsl (Qe rd.k3) 0 rd.k3.length],false⟩,⟨true,g5,1,true,(Yy v5),true⟩]⟩
def f78G0 (E:Env) (c:Cir) (faults:List Flt) (cars:List Car) (gos:List Bool) (tick stopped:Int) (wrecked:Bool) (rounds gone:Int) (g1 g2:Nat) (rd:Rd4) (ops:List Bool) (g3:Nat) (v5:List (Option (List Int))) (i:Nat):Prop:=∀ g5:Nat,G Try.prog E (f78K0 Try.prog) (f78S0 c faults cars gos tick stopped wrecked rounds gone g1 g2 rd ops g3 v5 i g5)
def Yf (P:Program):List Item:=kAt 400 [.code (Qh P 78)] [.b false,.stop]
def Vw (c:Cir) (faults:List Flt) (cars:List Car) (gos:List Bool) (tick stopped:Int) (wrecked:Bool) (rounds gone:Int) (g1 g2:Nat) (rd:Rd4) (ops:List Bool) (g3:Nat) (k:Nat) (v5:List (Option (List Int))) (k1:Nat) (v0_8:Int) (v0_9:Int) (v1:List Car) (v2:List Bool) (g5:Nat):St:=⟨([.ptr 0 0 0,J,.sl 3 g3 0 ops.length 1,J,.ptr 4 0 0,J,.sl 5 g5 0 v5.length 1]++jj 39 ([.sl 5 g5 0 v5.length 1,.int .i64 (k:Int),.int .i64 (k1:Int)]++Js 123)),[⟨true,0,1,false,[.rsl (Qk c.blocks) 0 c.blocks.length,.rsl (rowI c.cars) 0 c.cars.length,.rsl (Qo faults) 0 faults.length,.sl 1 g1 0 v1.length 4,.sl 2 g2 0 v2.length 1,.int .i64 tick,.int .i64 stopped,.bool wrecked,.int .i64 v0_8,.int .i64 v0_9],false⟩,⟨true,g1,4,true,(Qi v1),true⟩,⟨true,g2,1,true,(rowB v2),true⟩,⟨true,g3,1,true,(rowB ops),true⟩,⟨true,0,1,true,[.nilSl,.rsl (Qe rd.k1) 0 rd.k1.length,.rsl (Qe rd.k2) 0 rd.k2.length,.rsl (Qe rd.k3) 0 rd.k3.length],false⟩,⟨true,g5,1,true,(Yy v5),true⟩]⟩
def YF (E:Env) (c:Cir) (faults:List Flt) (cars:List Car) (gos:List Bool) (tick stopped:Int) (wrecked:Bool) (rounds gone:Int) (g1 g2:Nat) (rd:Rd4) (ops:List Bool) (g3:Nat) (k:Nat) (v5:List (Option (List Int))) (k1:Nat) (v0_8:Int) (v0_9:Int) (v1:List Car) (v2:List Bool):Prop:=∀ g5:Nat,G Try.prog E (Yf Try.prog) (Vw c faults cars gos tick stopped wrecked rounds gone g1 g2 rd ops g3 k v5 k1 v0_8 v0_9 v1 v2 g5)
abbrev Qav (rd:Rd4):List AV:=[.nilSl,.rsl (Qe rd.k1) 0 rd.k1.length,.rsl (Qe rd.k2) 0 rd.k2.length,.rsl (Qe rd.k3) 0 rd.k3.length]
abbrev yA (c:Cir) (faults:List Flt) (g1:Nat) (v1:List Car) (g2:Nat) (v2:List Bool) (tick:Int) (stopped:Int) (wrecked:Bool) (v0_8:Int) (v0_9:Int) (g3:Nat) (ops:List Bool) (rd:Rd4) (g5:Nat) (v5:List (Option (List Int))):List Blk:=[⟨true,0,1,false,[.rsl (Qk c.blocks) 0 c.blocks.length,.rsl (rowI c.cars) 0 c.cars.length,.rsl (Qo faults) 0 faults.length,.sl 1 g1 0 v1.length 4,.sl 2 g2 0 v2.length 1,.int .i64 tick,.int .i64 stopped,.bool wrecked,.int .i64 v0_8,.int .i64 v0_9],false⟩,⟨true,g1,4,true,(Qi v1),true⟩,⟨true,g2,1,true,(rowB v2),true⟩,⟨true,g3,1,true,(rowB ops),true⟩,⟨true,0,1,true,(Qav rd),false⟩,⟨true,g5,1,true,(Yy v5),true⟩]
abbrev WU (g3:Nat) (ops:List Bool) (g5:Nat) (v5:List (Option (List Int))) (k:Nat) (k1:Nat):List AV:=[.ptr 0 0 0,J,.sl 3 g3 0 ops.length 1,J,.ptr 4 0 0,J,.sl 5 g5 0 v5.length 1]++jj 39 ([.sl 5 g5 0 v5.length 1,.int .i64 (k:Int),.int .i64 ((k1:Int)+1)]++Js 123)
abbrev WT (se:Said):List AV:=[.agg [.int .i64 se.a,.int .i64 se.b],.int .i64 1]
abbrev qr (se1:Said):List AV:=[.agg [.int .i64 se1.a,.int .i64 se1.b],.int .i64 1]
abbrev yz (k1:Nat) (v5:List (Option (List Int))):List AV:=[.int .i64 (Int.tmod ((k1:Int)+1) (v5.length:Int))]
abbrev KP (se2:Said):List AV:=[.agg [.int .i64 se2.a,.int .i64 se2.b],.int .i64 0]
abbrev yU (oe:(Option (List Int))):List AV:=[.rsl (rowI (oe.getD [])) 0 ((oe.getD []).length)]
abbrev yT (oe:(Option (List Int))):AV:=.rsl (rowI (oe.getD [])) 0 ((oe.getD []).length)
abbrev z78_10 (c:Cir) (faults:List Flt) (g1:Nat) (cars:List Car) (g2:Nat) (gos:List Bool) (tick:Int) (stopped:Int) (wrecked:Bool) (rounds:Int) (gone:Int):List AV:=[.rsl (Qk c.blocks) 0 c.blocks.length,.rsl (rowI c.cars) 0 c.cars.length,.rsl (Qo faults) 0 faults.length,.sl 1 g1 0 cars.length 4,.sl 2 g2 0 gos.length 1,.int .i64 tick,.int .i64 stopped,.bool wrecked,.int .i64 rounds,.int .i64 gone]
theorem p78_start_0 (c:Cir) (faults:List Flt) (cars:List Car) (gos:List Bool) (tick stopped:Int) (wrecked:Bool) (rounds gone:Int) (g1 g2:Nat) (rd:Rd4) (ops:List Bool) (g3:Nat) {E:Env} {rv:AV} {bs2:List Blk} (hE:LentE Try.prog 78 [.sl 3 g3 0 0 1] rv bs2 E) (ho:AllP [0≤(c.blocks.length:Int)∧(c.blocks.length:Int)≤(c.blocks.length:Int)∧(c.blocks.length:Int)≤2147483648,g1=g1])
 (hg:G Try.prog E (f78K0 Try.prog) ⟨([.ptr 0 0 0,J,.sl 3 g3 0 ops.length 1,J,.ptr 4 0 0,J,.sl 5 0 0 (Int.toNat (c.blocks.length:Int)) 1]++jj 17 ([.sl 1 g1 0 cars.length 4,.int .i64 (cars.length:Int),.int .i64 0]++Js 145)),[⟨true,0,1,false,(z78_10 c faults g1 cars g2 gos tick stopped wrecked rounds gone),false⟩,⟨true,g1,4,true,(Qi cars),true⟩,⟨true,g2,1,true,(rowB gos),true⟩,⟨true,g3,1,true,(rowB ops),true⟩,⟨true,0,1,true,(Qav rd),false⟩,⟨true,0,1,true,((List.replicate (Int.toNat (c.blocks.length:Int)) ([.nilSl]:List AV)).flatten),true⟩]⟩):G Try.prog E [.code (Qh Try.prog 78)] ⟨[.ptr 0 0 0,.agg (Qav rd),.sl 3 g3 0 ops.length 1]++unds (Try.f78.ntmps - 3),[⟨true,0,1,false,(z78_10 c faults g1 cars g2 gos tick stopped wrecked rounds gone),false⟩,⟨true,g1,4,true,(Qi cars),true⟩,⟨true,g2,1,true,(rowB gos),true⟩,⟨true,g3,1,true,(rowB ops),true⟩]⟩ :=
 Qg (n:=400) (ds:=[]) (cs:=[]) (live:=[0,2,4,6,24,25,26]) (m:=6) (evs:=[.stop]) (obs:=_) hE.kind (hE.nogh (by kernel_rfl)) Ql (by kernel_rfl) ho hg
theorem f78W (c:Cir) (faults:List Flt) (cars:List Car) (gos:List Bool) (tick stopped:Int) (wrecked:Bool) (rounds gone:Int) (g1 g2:Nat) (rd:Rd4) (ops:List Bool) (g3:Nat) {E:Env} {rv:Unit} {rounds2:Int} {gone2:Int} {cars2:List Car} {gos2:List Bool} (hE:LentE Try.prog 78 [.sl 3 g3 0 0 1] (.tup []) [⟨true,0,1,false,[.rsl (Qk c.blocks) 0 c.blocks.length,.rsl (rowI c.cars) 0 c.cars.length,.rsl (Qo faults) 0 faults.length,.sl 1 g1 0 cars2.length 4,.sl 2 g2 0 gos2.length 1,.int .i64 tick,.int .i64 stopped,.bool wrecked,.int .i64 rounds2,.int .i64 gone2],false⟩,⟨true,g1,4,true,(Qi cars2),true⟩,⟨true,g2,1,true,(rowB gos2),true⟩,⟨true,g3,1,true,(rowB ops),true⟩] E)
 (h:(c.blocks.length≤2147483648∧f78G0 E c faults cars gos tick stopped wrecked rounds gone g1 g2 rd ops g3 (List.replicate c.blocks.length ((none:(Option (List Int))):(Option (List Int)))) 0)):G Try.prog E [.code (Qh Try.prog 78)] ⟨[.ptr 0 0 0,.agg [.nilSl,.rsl (Qe rd.k1) 0 rd.k1.length,.rsl (Qe rd.k2) 0 rd.k2.length,.rsl (Qe rd.k3) 0 rd.k3.length],.sl 3 g3 0 ops.length 1]++unds (Try.f78.ntmps - 3),[⟨true,0,1,false,[.rsl (Qk c.blocks) 0 c.blocks.length,.rsl (rowI c.cars) 0 c.cars.length,.rsl (Qo faults) 0 faults.length,.sl 1 g1 0 cars.length 4,.sl 2 g2 0 gos.length 1,.int .i64 tick,.int .i64 stopped,.bool wrecked,.int .i64 rounds,.int .i64 gone],false⟩,⟨true,g1,4,true,(Qi cars),true⟩,⟨true,g2,1,true,(rowB gos),true⟩,⟨true,g3,1,true,(rowB ops),true⟩]⟩:=by
 obtain ⟨h1,h⟩:=h
 refine p78_start_0 c faults cars gos tick stopped wrecked rounds gone g1 g2 rd ops g3 hE ⟨⟨by omega,by omega,by have:=h1; omega⟩,rfl,trivial⟩ ?_
 have h:=(h 0)
 simp only [f78G0,f78S0,List.length_set,List.length_replicate] at h
 rw [(show (List.replicate (Int.toNat (c.blocks.length:Int)) ([.nilSl]:List AV)).flatten=Yy (List.replicate c.blocks.length ((none:(Option (List Int))):(Option (List Int)))) from Wy cOI _ ((none:(Option (List Int))):(Option (List Int))))]
 exact h
theorem p78_0_0 (c:Cir) (faults:List Flt) (cars:List Car) (gos:List Bool) (tick stopped:Int) (wrecked:Bool) (rounds gone:Int) (g1 g2:Nat) (rd:Rd4) (ops:List Bool) (g3:Nat) (v5:List (Option (List Int))) (i:Nat) (g5:Nat) (ce:Car) (oe:(Option (List Int))) {E:Env} {rv:AV} {bs2:List Blk} (hE:LentE Try.prog 78 [.sl 3 g3 0 0 1] rv bs2 E) (ho:AllP [(decide ((i:Int)<(cars.length:Int)))=true,0≤(i:Int)∧(i:Int)<(cars.length:Int),g1=g1,g1=g1,((Qi cars).drop (0+(Int.toNat (i:Int))*4)).take 4=[.int .i64 ce.spot.block,.int .i64 ce.spot.ran,.bool ce.spot.opn,.int .i64 ce.stood],4≤4,0≤ce.spot.block∧ce.spot.block<(v5.length:Int),g5=g5,g5=g5,((Yy v5).drop (0+(Int.toNat ce.spot.block)*1)).take 1=[.nilSl],(∀ k,slOf 0 k (.sl k 0 0 1 1)=true),1≤2147483648,0=0,0≤ce.spot.block∧ce.spot.block<(v5.length:Int),g5=g5,((0+(Int.toNat ce.spot.block)*1)+1)≤(Yy v5).length,g5=g5,InR .i64 ((i:Int)+1)])
 (hg:G Try.prog E (f78K0 Try.prog) ⟨([.ptr 0 0 0,J,.sl 3 g3 0 ops.length 1,J,.ptr 4 0 0,J,.sl 5 g5 0 v5.length 1]++jj 17 ([.sl 1 g1 0 cars.length 4,.int .i64 (cars.length:Int),.int .i64 ((i:Int)+1)]++Js 145)),[⟨true,0,1,false,(z78_10 c faults g1 cars g2 gos tick stopped wrecked rounds gone),false⟩,⟨true,g1,4,true,(Qi cars),true⟩,⟨true,g2,1,true,(rowB gos),true⟩,⟨true,g3,1,true,(rowB ops),true⟩,⟨true,0,1,true,(Qav rd),false⟩,⟨true,g5,1,true,(Qx (Yy v5) (0+(Int.toNat ce.spot.block)*1) [.rsl [.int .i64 (i:Int)] 0 1]),true⟩]⟩):G Try.prog E (f78K0 Try.prog) (f78S0 c faults cars gos tick stopped wrecked rounds gone g1 g2 rd ops g3 v5 i g5) :=
 Qg (n:=400) (ds:=[]) (cs:=[]) (live:=[0,2,4,6,24,25,26]) (m:=6) (evs:=[.b true,.ld (.agg [.int .i64 ce.spot.block,.int .i64 ce.spot.ran,.bool ce.spot.opn,.int .i64 ce.stood]),.auto,.auto,.ld .nilSl,.fz,.stop]) (obs:=_) hE.kind (hE.nogh (by kernel_rfl)) Ql (by kernel_rfl) ho hg
theorem p78_0_1 (c:Cir) (faults:List Flt) (cars:List Car) (gos:List Bool) (tick stopped:Int) (wrecked:Bool) (rounds gone:Int) (g1 g2:Nat) (rd:Rd4) (ops:List Bool) (g3:Nat) (v5:List (Option (List Int))) (i:Nat) (g5:Nat) {E:Env} {rv:AV} {bs2:List Blk} (hE:LentE Try.prog 78 [.sl 3 g3 0 0 1] rv bs2 E) (ho:AllP [(decide ((i:Int)<(cars.length:Int)))=false,g5=g5])
 (hg:G Try.prog E (Yf Try.prog) ⟨([.ptr 0 0 0,J,.sl 3 g3 0 ops.length 1,J,.ptr 4 0 0,J,.sl 5 g5 0 v5.length 1]++jj 39 ([.sl 5 g5 0 v5.length 1,.int .i64 (v5.length:Int),.int .i64 0]++Js 123)),[⟨true,0,1,false,(z78_10 c faults g1 cars g2 gos tick stopped wrecked rounds gone),false⟩,⟨true,g1,4,true,(Qi cars),true⟩,⟨true,g2,1,true,(rowB gos),true⟩,⟨true,g3,1,true,(rowB ops),true⟩,⟨true,0,1,true,(Qav rd),false⟩,⟨true,g5,1,true,(Yy v5),true⟩]⟩):G Try.prog E (f78K0 Try.prog) (f78S0 c faults cars gos tick stopped wrecked rounds gone g1 g2 rd ops g3 v5 i g5) :=
 Qg (n:=400) (ds:=[]) (cs:=[]) (live:=[0,2,4,6,46,47,48]) (m:=6) (evs:=[.b false,.stop]) (obs:=_) hE.kind (hE.nogh (by kernel_rfl)) Ql (by kernel_rfl) ho hg
theorem f78W0 (c:Cir) (faults:List Flt) (cars:List Car) (gos:List Bool) (tick stopped:Int) (wrecked:Bool) (rounds gone:Int) (g1 g2:Nat) (rd:Rd4) (ops:List Bool) (g3:Nat) (v5:List (Option (List Int))) (i:Nat) {E:Env} {rv:Unit} {rounds2:Int} {gone2:Int} {cars2:List Car} {gos2:List Bool} (hE:LentE Try.prog 78 [.sl 3 g3 0 0 1] (.tup []) [⟨true,0,1,false,[.rsl (Qk c.blocks) 0 c.blocks.length,.rsl (rowI c.cars) 0 c.cars.length,.rsl (Qo faults) 0 faults.length,.sl 1 g1 0 cars2.length 4,.sl 2 g2 0 gos2.length 1,.int .i64 tick,.int .i64 stopped,.bool wrecked,.int .i64 rounds2,.int .i64 gone2],false⟩,⟨true,g1,4,true,(Qi cars2),true⟩,⟨true,g2,1,true,(rowB gos2),true⟩,⟨true,g3,1,true,(rowB ops),true⟩] E)
 (h:(((i:Int)<(cars.length:Int)→(∃ ce:Car,cars[i]?=some ce∧(0≤ce.spot.block∧(∃ oe:(Option (List Int)),v5[Int.toNat ce.spot.block]?=some oe∧(oe=none∧((I6 ((i:Int)+1))∧f78G0 E c faults cars gos tick stopped wrecked rounds gone g1 g2 rd ops g3 (v5.set (Int.toNat ce.spot.block) (some ([(i:Int)]))) (i+1)))))))∧(¬ ((i:Int)<(cars.length:Int))→YF E c faults cars gos tick stopped wrecked rounds gone g1 g2 rd ops g3 v5.length v5 0 rounds gone cars gos))):f78G0 E c faults cars gos tick stopped wrecked rounds gone g1 g2 rd ops g3 v5 i:=by
 intro g5
 rcases bft (decide ((i:Int)<(cars.length:Int))) with hc0 | hc0
 · have h:=h.1 (odt hc0)
   obtain ⟨ce,h1,h⟩:=h
   obtain ⟨h3,h⟩:=h
   obtain ⟨oe,h2,h⟩:=h
   obtain ⟨h4,h⟩:=h
   obtain ⟨q20_1,h⟩:=h
   refine p78_0_0 c faults cars gos tick stopped wrecked rounds gone g1 g2 rd ops g3 v5 i g5 ce oe hE ⟨hc0,(Qp h1),rfl,rfl,(rp cCar 4 0 4 h1),(by decide),(QG h3 h2),rfl,rfl,(by exact rp cOI 1 0 1 (h4 ▸ h2)),(fun k=>by simp [slOf]),(by decide),rfl,(QG h3 h2),rfl,(rf cOI 1 0 1 h2),rfl,q20_1,trivial⟩ ?_
   have h:=(h g5)
   simp only [f78G0,f78S0,List.length_set] at h
   rw [(show Qx (Yy v5) (0+(Int.toNat ce.spot.block)*1) [.rsl [.int .i64 (i:Int)] 0 1]=Yy (v5.set (Int.toNat ce.spot.block) (some ([(i:Int)]))) from QD cOI (s:=1) (k:=0) (fun _=>rfl) h2 rfl (by first | decide | simp))]
   exact h
 · have h:=h.2 (odf hc0)
   exact p78_0_1 c faults cars gos tick stopped wrecked rounds gone g1 g2 rd ops g3 v5 i g5 hE ⟨hc0,rfl,trivial⟩ (h g5)
theorem p78_1_0 (c:Cir) (faults:List Flt) (cars:List Car) (gos:List Bool) (tick stopped:Int) (wrecked:Bool) (rounds gone:Int) (g1 g2:Nat) (rd:Rd4) (ops:List Bool) (g3:Nat) (k:Nat) (v5:List (Option (List Int))) (k1:Nat) (v0_8:Int) (v0_9:Int) (v1:List Car) (v2:List Bool) (g5:Nat) (oe:(Option (List Int))) (se:Said) (se1:Said) (eb:Bool) (se2:Said) {E:Env} {rv:AV} {bs2:List Blk} (hE:LentE Try.prog 78 [.sl 3 g3 0 0 1] rv bs2 E) (ho:AllP [(decide ((k1:Int)<(k:Int)))=true,0≤(k1:Int)∧(k1:Int)<(v5.length:Int),g5=g5,g5=g5,((Yy v5).drop (0+(Int.toNat (k1:Int))*1)).take 1=(yU oe),InR .i64 ((k1:Int)+1),g5=g5,(v5.length:Int) ≠ 0,(0:Int)≤2∧(2:Int)<((4:Nat):Int),0≤(k1:Int)∧(k1:Int)<(rd.k2.length:Int),((Qe rd.k2).drop (0+(Int.toNat (k1:Int))*2)).take 2=[.int .i64 se.a,.int .i64 se.b],Qd Try.prog (.clos 93 [] []) (WT se) (.bool (Qu se 1)),(Qu se 1)=true,(0:Int)≤3∧(3:Int)<((4:Nat):Int),0≤(k1:Int)∧(k1:Int)<(rd.k3.length:Int),((Qe rd.k3).drop (0+(Int.toNat (k1:Int))*2)).take 2=[.int .i64 se1.a,.int .i64 se1.b],Qd Try.prog (.clos 93 [] []) (qr se1) (.bool (Qu se1 1)),(Qu se1 1)=true,0≤(k1:Int)∧(k1:Int)<(ops.length:Int),g3=g3,g3=g3,((rowB ops).drop (0+(Int.toNat (k1:Int))*1)).take 1=[.bool eb],(!eb)=true,(0:Int)≤1∧(1:Int)<((4:Nat):Int),0≤(Int.tmod ((k1:Int)+1) (v5.length:Int))∧(Int.tmod ((k1:Int)+1) (v5.length:Int))<(rd.k1.length:Int),((Qe rd.k1).drop (0+(Int.toNat (Int.tmod ((k1:Int)+1) (v5.length:Int)))*2)).take 2=[.int .i64 se2.a,.int .i64 se2.b],Qd Try.prog (.clos 93 [] []) (KP se2) (.bool (Qu se2 0)),(!(Qu se2 0))=true,true=true,InR .i64 ((k1:Int)+1)])
 (hg:G Try.prog E (Yf Try.prog) ⟨(WU g3 ops g5 v5 k k1),(yA c faults g1 v1 g2 v2 tick stopped wrecked v0_8 v0_9 g3 ops rd g5 v5)⟩):G Try.prog E (Yf Try.prog) (Vw c faults cars gos tick stopped wrecked rounds gone g1 g2 rd ops g3 k v5 k1 v0_8 v0_9 v1 v2 g5) :=
 Qg (n:=400) (ds:=[]) (cs:=[]) (live:=[0,2,4,6,46,47,48]) (m:=6) (evs:=[.b true,.ld (yT oe),.auto,.ld (.agg [.int .i64 se.a,.int .i64 se.b]),.v (.bool (Qu se 1)),.b true,.auto,.ld (.agg [.int .i64 se1.a,.int .i64 se1.b]),.v (.bool (Qu se1 1)),.b true,.ld (.bool eb),.b true,.auto,.ld (.agg [.int .i64 se2.a,.int .i64 se2.b]),.v (.bool (Qu se2 0)),.b true,.b true,.stop]) (obs:=_) hE.kind (hE.nogh (by kernel_rfl)) Ql (by kernel_rfl) ho hg
theorem p78_1_1 (c:Cir) (faults:List Flt) (cars:List Car) (gos:List Bool) (tick stopped:Int) (wrecked:Bool) (rounds gone:Int) (g1 g2:Nat) (rd:Rd4) (ops:List Bool) (g3:Nat) (k:Nat) (v5:List (Option (List Int))) (k1:Nat) (v0_8:Int) (v0_9:Int) (v1:List Car) (v2:List Bool) (g5:Nat) (oe:(Option (List Int))) (se:Said) (se1:Said) (eb:Bool) (se2:Said) {E:Env} {rv:AV} {bs2:List Blk} (hE:LentE Try.prog 78 [.sl 3 g3 0 0 1] rv bs2 E) (ho:AllP [(decide ((k1:Int)<(k:Int)))=true,0≤(k1:Int)∧(k1:Int)<(v5.length:Int),g5=g5,g5=g5,((Yy v5).drop (0+(Int.toNat (k1:Int))*1)).take 1=(yU oe),InR .i64 ((k1:Int)+1),g5=g5,(v5.length:Int) ≠ 0,(0:Int)≤2∧(2:Int)<((4:Nat):Int),0≤(k1:Int)∧(k1:Int)<(rd.k2.length:Int),((Qe rd.k2).drop (0+(Int.toNat (k1:Int))*2)).take 2=[.int .i64 se.a,.int .i64 se.b],Qd Try.prog (.clos 93 [] []) (WT se) (.bool (Qu se 1)),(Qu se 1)=true,(0:Int)≤3∧(3:Int)<((4:Nat):Int),0≤(k1:Int)∧(k1:Int)<(rd.k3.length:Int),((Qe rd.k3).drop (0+(Int.toNat (k1:Int))*2)).take 2=[.int .i64 se1.a,.int .i64 se1.b],Qd Try.prog (.clos 93 [] []) (qr se1) (.bool (Qu se1 1)),(Qu se1 1)=true,0≤(k1:Int)∧(k1:Int)<(ops.length:Int),g3=g3,g3=g3,((rowB ops).drop (0+(Int.toNat (k1:Int))*1)).take 1=[.bool eb],(!eb)=true,(0:Int)≤1∧(1:Int)<((4:Nat):Int),0≤(Int.tmod ((k1:Int)+1) (v5.length:Int))∧(Int.tmod ((k1:Int)+1) (v5.length:Int))<(rd.k1.length:Int),((Qe rd.k1).drop (0+(Int.toNat (Int.tmod ((k1:Int)+1) (v5.length:Int)))*2)).take 2=[.int .i64 se2.a,.int .i64 se2.b],Qd Try.prog (.clos 93 [] []) (KP se2) (.bool (Qu se2 0)),(!(Qu se2 0))=false,((((oe.getD []).length:Nat):Int) == 0)=true,InR .i64 ((k1:Int)+1)])
 (hg:G Try.prog E (Yf Try.prog) ⟨(WU g3 ops g5 v5 k k1),(yA c faults g1 v1 g2 v2 tick stopped wrecked v0_8 v0_9 g3 ops rd g5 v5)⟩):G Try.prog E (Yf Try.prog) (Vw c faults cars gos tick stopped wrecked rounds gone g1 g2 rd ops g3 k v5 k1 v0_8 v0_9 v1 v2 g5) :=
 Qg (n:=400) (ds:=[]) (cs:=[]) (live:=[0,2,4,6,46,47,48]) (m:=6) (evs:=[.b true,.ld (yT oe),.auto,.ld (.agg [.int .i64 se.a,.int .i64 se.b]),.v (.bool (Qu se 1)),.b true,.auto,.ld (.agg [.int .i64 se1.a,.int .i64 se1.b]),.v (.bool (Qu se1 1)),.b true,.ld (.bool eb),.b true,.auto,.ld (.agg [.int .i64 se2.a,.int .i64 se2.b]),.v (.bool (Qu se2 0)),.b false,.b true,.stop]) (obs:=_) hE.kind (hE.nogh (by kernel_rfl)) Ql (by kernel_rfl) ho hg
theorem p78_1_2 (c:Cir) (faults:List Flt) (cars:List Car) (gos:List Bool) (tick stopped:Int) (wrecked:Bool) (rounds gone:Int) (g1 g2:Nat) (rd:Rd4) (ops:List Bool) (g3:Nat) (k:Nat) (v5:List (Option (List Int))) (k1:Nat) (v0_8:Int) (v0_9:Int) (v1:List Car) (v2:List Bool) (g5:Nat) (oe:(Option (List Int))) (se:Said) (se1:Said) (eb:Bool) (se2:Said) (e:Int) (ce:Car) (be:Bk) (eb1:Bool) {E:Env} {rv:AV} {bs2:List Blk} (hE:LentE Try.prog 78 [.sl 3 g3 0 0 1] rv bs2 E) (ho:AllP [(decide ((k1:Int)<(k:Int)))=true,0≤(k1:Int)∧(k1:Int)<(v5.length:Int),g5=g5,g5=g5,((Yy v5).drop (0+(Int.toNat (k1:Int))*1)).take 1=(yU oe),InR .i64 ((k1:Int)+1),g5=g5,(v5.length:Int) ≠ 0,(0:Int)≤2∧(2:Int)<((4:Nat):Int),0≤(k1:Int)∧(k1:Int)<(rd.k2.length:Int),((Qe rd.k2).drop (0+(Int.toNat (k1:Int))*2)).take 2=[.int .i64 se.a,.int .i64 se.b],Qd Try.prog (.clos 93 [] []) (WT se) (.bool (Qu se 1)),(Qu se 1)=true,(0:Int)≤3∧(3:Int)<((4:Nat):Int),0≤(k1:Int)∧(k1:Int)<(rd.k3.length:Int),((Qe rd.k3).drop (0+(Int.toNat (k1:Int))*2)).take 2=[.int .i64 se1.a,.int .i64 se1.b],Qd Try.prog (.clos 93 [] []) (qr se1) (.bool (Qu se1 1)),(Qu se1 1)=true,0≤(k1:Int)∧(k1:Int)<(ops.length:Int),g3=g3,g3=g3,((rowB ops).drop (0+(Int.toNat (k1:Int))*1)).take 1=[.bool eb],(!eb)=true,(0:Int)≤1∧(1:Int)<((4:Nat):Int),0≤(Int.tmod ((k1:Int)+1) (v5.length:Int))∧(Int.tmod ((k1:Int)+1) (v5.length:Int))<(rd.k1.length:Int),((Qe rd.k1).drop (0+(Int.toNat (Int.tmod ((k1:Int)+1) (v5.length:Int)))*2)).take 2=[.int .i64 se2.a,.int .i64 se2.b],Qd Try.prog (.clos 93 [] []) (KP se2) (.bool (Qu se2 0)),(!(Qu se2 0))=false,((((oe.getD []).length:Nat):Int) == 0)=false,(0:Int)≤0∧(0:Int)<(((oe.getD []).length:Nat):Int),((rowI (oe.getD [])).drop (0+0*1)).take 1=[.int .i64 e],0≤e∧e<(v1.length:Int),g1=g1,0≤(k1:Int)∧(k1:Int)<(c.blocks.length:Int),((Qk c.blocks).drop ((0+(Int.toNat (k1:Int))*4)+1)).take 1=[.bool be.station],be.station=true,0≤(k1:Int)∧(k1:Int)<(v2.length:Int),g2=g2,g2=g2,((rowB v2).drop (0+(Int.toNat (k1:Int))*1)).take 1=[.bool eb1],(!eb1)=true,true=true,InR .i64 ((k1:Int)+1)])
 (hg:G Try.prog E (Yf Try.prog) ⟨(WU g3 ops g5 v5 k k1),(yA c faults g1 v1 g2 v2 tick stopped wrecked v0_8 v0_9 g3 ops rd g5 v5)⟩):G Try.prog E (Yf Try.prog) (Vw c faults cars gos tick stopped wrecked rounds gone g1 g2 rd ops g3 k v5 k1 v0_8 v0_9 v1 v2 g5) :=
 Qg (n:=400) (ds:=[]) (cs:=[]) (live:=[0,2,4,6,46,47,48]) (m:=6) (evs:=[.b true,.ld (yT oe),.auto,.ld (.agg [.int .i64 se.a,.int .i64 se.b]),.v (.bool (Qu se 1)),.b true,.auto,.ld (.agg [.int .i64 se1.a,.int .i64 se1.b]),.v (.bool (Qu se1 1)),.b true,.ld (.bool eb),.b true,.auto,.ld (.agg [.int .i64 se2.a,.int .i64 se2.b]),.v (.bool (Qu se2 0)),.b false,.b false,.auto,.ld (.int .i64 e),.auto,.ld (.bool be.station),.b true,.auto,.ld (.bool eb1),.b true,.b true,.stop]) (obs:=_) hE.kind (hE.nogh (by kernel_rfl)) Ql (by kernel_rfl) ho hg
theorem p78_1_3 (c:Cir) (faults:List Flt) (cars:List Car) (gos:List Bool) (tick stopped:Int) (wrecked:Bool) (rounds gone:Int) (g1 g2:Nat) (rd:Rd4) (ops:List Bool) (g3:Nat) (k:Nat) (v5:List (Option (List Int))) (k1:Nat) (v0_8:Int) (v0_9:Int) (v1:List Car) (v2:List Bool) (g5:Nat) (oe:(Option (List Int))) (se:Said) (se1:Said) (eb:Bool) (se2:Said) (e:Int) (ce:Car) (be:Bk) (eb1:Bool) {E:Env} {rv:AV} {bs2:List Blk} (hE:LentE Try.prog 78 [.sl 3 g3 0 0 1] rv bs2 E) (ho:AllP [(decide ((k1:Int)<(k:Int)))=true,0≤(k1:Int)∧(k1:Int)<(v5.length:Int),g5=g5,g5=g5,((Yy v5).drop (0+(Int.toNat (k1:Int))*1)).take 1=(yU oe),InR .i64 ((k1:Int)+1),g5=g5,(v5.length:Int) ≠ 0,(0:Int)≤2∧(2:Int)<((4:Nat):Int),0≤(k1:Int)∧(k1:Int)<(rd.k2.length:Int),((Qe rd.k2).drop (0+(Int.toNat (k1:Int))*2)).take 2=[.int .i64 se.a,.int .i64 se.b],Qd Try.prog (.clos 93 [] []) (WT se) (.bool (Qu se 1)),(Qu se 1)=true,(0:Int)≤3∧(3:Int)<((4:Nat):Int),0≤(k1:Int)∧(k1:Int)<(rd.k3.length:Int),((Qe rd.k3).drop (0+(Int.toNat (k1:Int))*2)).take 2=[.int .i64 se1.a,.int .i64 se1.b],Qd Try.prog (.clos 93 [] []) (qr se1) (.bool (Qu se1 1)),(Qu se1 1)=true,0≤(k1:Int)∧(k1:Int)<(ops.length:Int),g3=g3,g3=g3,((rowB ops).drop (0+(Int.toNat (k1:Int))*1)).take 1=[.bool eb],(!eb)=true,(0:Int)≤1∧(1:Int)<((4:Nat):Int),0≤(Int.tmod ((k1:Int)+1) (v5.length:Int))∧(Int.tmod ((k1:Int)+1) (v5.length:Int))<(rd.k1.length:Int),((Qe rd.k1).drop (0+(Int.toNat (Int.tmod ((k1:Int)+1) (v5.length:Int)))*2)).take 2=[.int .i64 se2.a,.int .i64 se2.b],Qd Try.prog (.clos 93 [] []) (KP se2) (.bool (Qu se2 0)),(!(Qu se2 0))=false,((((oe.getD []).length:Nat):Int) == 0)=false,(0:Int)≤0∧(0:Int)<(((oe.getD []).length:Nat):Int),((rowI (oe.getD [])).drop (0+0*1)).take 1=[.int .i64 e],0≤e∧e<(v1.length:Int),g1=g1,0≤(k1:Int)∧(k1:Int)<(c.blocks.length:Int),((Qk c.blocks).drop ((0+(Int.toNat (k1:Int))*4)+1)).take 1=[.bool be.station],be.station=true,0≤(k1:Int)∧(k1:Int)<(v2.length:Int),g2=g2,g2=g2,((rowB v2).drop (0+(Int.toNat (k1:Int))*1)).take 1=[.bool eb1],(!eb1)=false,g1=g1,g1=g1,g1=g1,((Qi v1).drop ((0+(Int.toNat e)*4)+3)).take 1=[.int .i64 ce.stood],0≤(k1:Int)∧(k1:Int)<(c.blocks.length:Int),((Qk c.blocks).drop ((0+(Int.toNat (k1:Int))*4)+2)).take 1=[.int .i64 be.hold],(decide (ce.stood<be.hold))=true,InR .i64 ((k1:Int)+1)])
 (hg:G Try.prog E (Yf Try.prog) ⟨(WU g3 ops g5 v5 k k1),(yA c faults g1 v1 g2 v2 tick stopped wrecked v0_8 v0_9 g3 ops rd g5 v5)⟩):G Try.prog E (Yf Try.prog) (Vw c faults cars gos tick stopped wrecked rounds gone g1 g2 rd ops g3 k v5 k1 v0_8 v0_9 v1 v2 g5) :=
 Qg (n:=400) (ds:=[]) (cs:=[]) (live:=[0,2,4,6,46,47,48]) (m:=6) (evs:=[.b true,.ld (yT oe),.auto,.ld (.agg [.int .i64 se.a,.int .i64 se.b]),.v (.bool (Qu se 1)),.b true,.auto,.ld (.agg [.int .i64 se1.a,.int .i64 se1.b]),.v (.bool (Qu se1 1)),.b true,.ld (.bool eb),.b true,.auto,.ld (.agg [.int .i64 se2.a,.int .i64 se2.b]),.v (.bool (Qu se2 0)),.b false,.b false,.auto,.ld (.int .i64 e),.auto,.ld (.bool be.station),.b true,.auto,.ld (.bool eb1),.b false,.ld (.int .i64 ce.stood),.auto,.ld (.int .i64 be.hold),.b true,.stop]) (obs:=_) hE.kind (hE.nogh (by kernel_rfl)) Ql (by kernel_rfl) ho hg
theorem p78_1_4 (c:Cir) (faults:List Flt) (cars:List Car) (gos:List Bool) (tick stopped:Int) (wrecked:Bool) (rounds gone:Int) (g1 g2:Nat) (rd:Rd4) (ops:List Bool) (g3:Nat) (k:Nat) (v5:List (Option (List Int))) (k1:Nat) (v0_8:Int) (v0_9:Int) (v1:List Car) (v2:List Bool) (g5:Nat) (oe:(Option (List Int))) (se:Said) (se1:Said) (eb:Bool) (se2:Said) (e:Int) (ce:Car) (be:Bk) (eb1:Bool) (ce1:Car) (ce2:Car) {E:Env} {rv:AV} {bs2:List Blk} (hE:LentE Try.prog 78 [.sl 3 g3 0 0 1] rv bs2 E) (ho:AllP [(decide ((k1:Int)<(k:Int)))=true,0≤(k1:Int)∧(k1:Int)<(v5.length:Int),g5=g5,g5=g5,((Yy v5).drop (0+(Int.toNat (k1:Int))*1)).take 1=(yU oe),InR .i64 ((k1:Int)+1),g5=g5,(v5.length:Int) ≠ 0,(0:Int)≤2∧(2:Int)<((4:Nat):Int),0≤(k1:Int)∧(k1:Int)<(rd.k2.length:Int),((Qe rd.k2).drop (0+(Int.toNat (k1:Int))*2)).take 2=[.int .i64 se.a,.int .i64 se.b],Qd Try.prog (.clos 93 [] []) (WT se) (.bool (Qu se 1)),(Qu se 1)=true,(0:Int)≤3∧(3:Int)<((4:Nat):Int),0≤(k1:Int)∧(k1:Int)<(rd.k3.length:Int),((Qe rd.k3).drop (0+(Int.toNat (k1:Int))*2)).take 2=[.int .i64 se1.a,.int .i64 se1.b],Qd Try.prog (.clos 93 [] []) (qr se1) (.bool (Qu se1 1)),(Qu se1 1)=true,0≤(k1:Int)∧(k1:Int)<(ops.length:Int),g3=g3,g3=g3,((rowB ops).drop (0+(Int.toNat (k1:Int))*1)).take 1=[.bool eb],(!eb)=true,(0:Int)≤1∧(1:Int)<((4:Nat):Int),0≤(Int.tmod ((k1:Int)+1) (v5.length:Int))∧(Int.tmod ((k1:Int)+1) (v5.length:Int))<(rd.k1.length:Int),((Qe rd.k1).drop (0+(Int.toNat (Int.tmod ((k1:Int)+1) (v5.length:Int)))*2)).take 2=[.int .i64 se2.a,.int .i64 se2.b],Qd Try.prog (.clos 93 [] []) (KP se2) (.bool (Qu se2 0)),(!(Qu se2 0))=false,((((oe.getD []).length:Nat):Int) == 0)=false,(0:Int)≤0∧(0:Int)<(((oe.getD []).length:Nat):Int),((rowI (oe.getD [])).drop (0+0*1)).take 1=[.int .i64 e],0≤e∧e<(v1.length:Int),g1=g1,0≤(k1:Int)∧(k1:Int)<(c.blocks.length:Int),((Qk c.blocks).drop ((0+(Int.toNat (k1:Int))*4)+1)).take 1=[.bool be.station],be.station=true,0≤(k1:Int)∧(k1:Int)<(v2.length:Int),g2=g2,g2=g2,((rowB v2).drop (0+(Int.toNat (k1:Int))*1)).take 1=[.bool eb1],(!eb1)=false,g1=g1,g1=g1,g1=g1,((Qi v1).drop ((0+(Int.toNat e)*4)+3)).take 1=[.int .i64 ce.stood],0≤(k1:Int)∧(k1:Int)<(c.blocks.length:Int),((Qk c.blocks).drop ((0+(Int.toNat (k1:Int))*4)+2)).take 1=[.int .i64 be.hold],(decide (ce.stood<be.hold))=false,g1=g1,g1=g1,g1=g1,((((0+(Int.toNat e)*4)+0)+0)+1)≤(Qi v1).length,g1=g1,g1=g1,g1=g1,g1=g1,((((0+(Int.toNat e)*4)+0)+1)+1)≤(Qx (Qi v1) (((0+(Int.toNat e)*4)+0)+0) (yz k1 v5)).length,g1=g1,g1=g1,g1=g1,(((0+(Int.toNat e)*4)+3)+1)≤(Qx (Qx (Qi v1) (((0+(Int.toNat e)*4)+0)+0) (yz k1 v5)) (((0+(Int.toNat e)*4)+0)+1) [.int .i64 0]).length,g1=g1,0≤(k1:Int)∧(k1:Int)<(v2.length:Int),g2=g2,((0+(Int.toNat (k1:Int))*1)+1)≤(rowB v2).length,g2=g2,InR .i64 (v0_9+1),10≤10,((Int.tmod ((k1:Int)+1) (v5.length:Int)) == 0)=true,InR .i64 (v0_8+1),9≤10,InR .i64 ((k1:Int)+1)])
 (hg:G Try.prog E (Yf Try.prog) ⟨(WU g3 ops g5 v5 k k1),[⟨true,0,1,false,[.rsl (Qk c.blocks) 0 c.blocks.length,.rsl (rowI c.cars) 0 c.cars.length,.rsl (Qo faults) 0 faults.length,.sl 1 g1 0 v1.length 4,.sl 2 g2 0 v2.length 1,.int .i64 tick,.int .i64 stopped,.bool wrecked,.int .i64 (v0_8+1),.int .i64 (v0_9+1)],false⟩,⟨true,g1,4,true,(Qx (Qx (Qx (Qi v1) (((0+(Int.toNat e)*4)+0)+0) (yz k1 v5)) (((0+(Int.toNat e)*4)+0)+1) [.int .i64 0]) ((0+(Int.toNat e)*4)+3) [.int .i64 0]),true⟩,⟨true,g2,1,true,(Qx (rowB v2) (0+(Int.toNat (k1:Int))*1) [.bool false]),true⟩,⟨true,g3,1,true,(rowB ops),true⟩,⟨true,0,1,true,(Qav rd),false⟩,⟨true,g5,1,true,(Yy v5),true⟩]⟩):G Try.prog E (Yf Try.prog) (Vw c faults cars gos tick stopped wrecked rounds gone g1 g2 rd ops g3 k v5 k1 v0_8 v0_9 v1 v2 g5) :=
 Qg (n:=400) (ds:=[]) (cs:=[]) (live:=[0,2,4,6,46,47,48]) (m:=6) (evs:=[.b true,.ld (yT oe),.auto,.ld (.agg [.int .i64 se.a,.int .i64 se.b]),.v (.bool (Qu se 1)),.b true,.auto,.ld (.agg [.int .i64 se1.a,.int .i64 se1.b]),.v (.bool (Qu se1 1)),.b true,.ld (.bool eb),.b true,.auto,.ld (.agg [.int .i64 se2.a,.int .i64 se2.b]),.v (.bool (Qu se2 0)),.b false,.b false,.auto,.ld (.int .i64 e),.auto,.ld (.bool be.station),.b true,.auto,.ld (.bool eb1),.b false,.ld (.int .i64 ce.stood),.auto,.ld (.int .i64 be.hold),.b false,.b true,.stop]) (obs:=_) hE.kind (hE.nogh (by kernel_rfl)) Ql (by kernel_rfl) ho hg
theorem p78_1_5 (c:Cir) (faults:List Flt) (cars:List Car) (gos:List Bool) (tick stopped:Int) (wrecked:Bool) (rounds gone:Int) (g1 g2:Nat) (rd:Rd4) (ops:List Bool) (g3:Nat) (k:Nat) (v5:List (Option (List Int))) (k1:Nat) (v0_8:Int) (v0_9:Int) (v1:List Car) (v2:List Bool) (g5:Nat) (oe:(Option (List Int))) (se:Said) (se1:Said) (eb:Bool) (se2:Said) (e:Int) (ce:Car) (be:Bk) (eb1:Bool) (ce1:Car) (ce2:Car) {E:Env} {rv:AV} {bs2:List Blk} (hE:LentE Try.prog 78 [.sl 3 g3 0 0 1] rv bs2 E) (ho:AllP [(decide ((k1:Int)<(k:Int)))=true,0≤(k1:Int)∧(k1:Int)<(v5.length:Int),g5=g5,g5=g5,((Yy v5).drop (0+(Int.toNat (k1:Int))*1)).take 1=(yU oe),InR .i64 ((k1:Int)+1),g5=g5,(v5.length:Int) ≠ 0,(0:Int)≤2∧(2:Int)<((4:Nat):Int),0≤(k1:Int)∧(k1:Int)<(rd.k2.length:Int),((Qe rd.k2).drop (0+(Int.toNat (k1:Int))*2)).take 2=[.int .i64 se.a,.int .i64 se.b],Qd Try.prog (.clos 93 [] []) (WT se) (.bool (Qu se 1)),(Qu se 1)=true,(0:Int)≤3∧(3:Int)<((4:Nat):Int),0≤(k1:Int)∧(k1:Int)<(rd.k3.length:Int),((Qe rd.k3).drop (0+(Int.toNat (k1:Int))*2)).take 2=[.int .i64 se1.a,.int .i64 se1.b],Qd Try.prog (.clos 93 [] []) (qr se1) (.bool (Qu se1 1)),(Qu se1 1)=true,0≤(k1:Int)∧(k1:Int)<(ops.length:Int),g3=g3,g3=g3,((rowB ops).drop (0+(Int.toNat (k1:Int))*1)).take 1=[.bool eb],(!eb)=true,(0:Int)≤1∧(1:Int)<((4:Nat):Int),0≤(Int.tmod ((k1:Int)+1) (v5.length:Int))∧(Int.tmod ((k1:Int)+1) (v5.length:Int))<(rd.k1.length:Int),((Qe rd.k1).drop (0+(Int.toNat (Int.tmod ((k1:Int)+1) (v5.length:Int)))*2)).take 2=[.int .i64 se2.a,.int .i64 se2.b],Qd Try.prog (.clos 93 [] []) (KP se2) (.bool (Qu se2 0)),(!(Qu se2 0))=false,((((oe.getD []).length:Nat):Int) == 0)=false,(0:Int)≤0∧(0:Int)<(((oe.getD []).length:Nat):Int),((rowI (oe.getD [])).drop (0+0*1)).take 1=[.int .i64 e],0≤e∧e<(v1.length:Int),g1=g1,0≤(k1:Int)∧(k1:Int)<(c.blocks.length:Int),((Qk c.blocks).drop ((0+(Int.toNat (k1:Int))*4)+1)).take 1=[.bool be.station],be.station=true,0≤(k1:Int)∧(k1:Int)<(v2.length:Int),g2=g2,g2=g2,((rowB v2).drop (0+(Int.toNat (k1:Int))*1)).take 1=[.bool eb1],(!eb1)=false,g1=g1,g1=g1,g1=g1,((Qi v1).drop ((0+(Int.toNat e)*4)+3)).take 1=[.int .i64 ce.stood],0≤(k1:Int)∧(k1:Int)<(c.blocks.length:Int),((Qk c.blocks).drop ((0+(Int.toNat (k1:Int))*4)+2)).take 1=[.int .i64 be.hold],(decide (ce.stood<be.hold))=false,g1=g1,g1=g1,g1=g1,((((0+(Int.toNat e)*4)+0)+0)+1)≤(Qi v1).length,g1=g1,g1=g1,g1=g1,g1=g1,((((0+(Int.toNat e)*4)+0)+1)+1)≤(Qx (Qi v1) (((0+(Int.toNat e)*4)+0)+0) (yz k1 v5)).length,g1=g1,g1=g1,g1=g1,(((0+(Int.toNat e)*4)+3)+1)≤(Qx (Qx (Qi v1) (((0+(Int.toNat e)*4)+0)+0) (yz k1 v5)) (((0+(Int.toNat e)*4)+0)+1) [.int .i64 0]).length,g1=g1,0≤(k1:Int)∧(k1:Int)<(v2.length:Int),g2=g2,((0+(Int.toNat (k1:Int))*1)+1)≤(rowB v2).length,g2=g2,InR .i64 (v0_9+1),10≤10,((Int.tmod ((k1:Int)+1) (v5.length:Int)) == 0)=false,InR .i64 ((k1:Int)+1)])
 (hg:G Try.prog E (Yf Try.prog) ⟨(WU g3 ops g5 v5 k k1),[⟨true,0,1,false,[.rsl (Qk c.blocks) 0 c.blocks.length,.rsl (rowI c.cars) 0 c.cars.length,.rsl (Qo faults) 0 faults.length,.sl 1 g1 0 v1.length 4,.sl 2 g2 0 v2.length 1,.int .i64 tick,.int .i64 stopped,.bool wrecked,.int .i64 v0_8,.int .i64 (v0_9+1)],false⟩,⟨true,g1,4,true,(Qx (Qx (Qx (Qi v1) (((0+(Int.toNat e)*4)+0)+0) (yz k1 v5)) (((0+(Int.toNat e)*4)+0)+1) [.int .i64 0]) ((0+(Int.toNat e)*4)+3) [.int .i64 0]),true⟩,⟨true,g2,1,true,(Qx (rowB v2) (0+(Int.toNat (k1:Int))*1) [.bool false]),true⟩,⟨true,g3,1,true,(rowB ops),true⟩,⟨true,0,1,true,(Qav rd),false⟩,⟨true,g5,1,true,(Yy v5),true⟩]⟩):G Try.prog E (Yf Try.prog) (Vw c faults cars gos tick stopped wrecked rounds gone g1 g2 rd ops g3 k v5 k1 v0_8 v0_9 v1 v2 g5) :=
 Qg (n:=400) (ds:=[]) (cs:=[]) (live:=[0,2,4,6,46,47,48]) (m:=6) (evs:=[.b true,.ld (yT oe),.auto,.ld (.agg [.int .i64 se.a,.int .i64 se.b]),.v (.bool (Qu se 1)),.b true,.auto,.ld (.agg [.int .i64 se1.a,.int .i64 se1.b]),.v (.bool (Qu se1 1)),.b true,.ld (.bool eb),.b true,.auto,.ld (.agg [.int .i64 se2.a,.int .i64 se2.b]),.v (.bool (Qu se2 0)),.b false,.b false,.auto,.ld (.int .i64 e),.auto,.ld (.bool be.station),.b true,.auto,.ld (.bool eb1),.b false,.ld (.int .i64 ce.stood),.auto,.ld (.int .i64 be.hold),.b false,.b false,.stop]) (obs:=_) hE.kind (hE.nogh (by kernel_rfl)) Ql (by kernel_rfl) ho hg
theorem p78_1_6 (c:Cir) (faults:List Flt) (cars:List Car) (gos:List Bool) (tick stopped:Int) (wrecked:Bool) (rounds gone:Int) (g1 g2:Nat) (rd:Rd4) (ops:List Bool) (g3:Nat) (k:Nat) (v5:List (Option (List Int))) (k1:Nat) (v0_8:Int) (v0_9:Int) (v1:List Car) (v2:List Bool) (g5:Nat) (oe:(Option (List Int))) (se:Said) (se1:Said) (eb:Bool) (se2:Said) (e:Int) (ce:Car) (be:Bk) (ce1:Car) (ce2:Car) (eb1:Bool) {E:Env} {rv:AV} {bs2:List Blk} (hE:LentE Try.prog 78 [.sl 3 g3 0 0 1] rv bs2 E) (ho:AllP [(decide ((k1:Int)<(k:Int)))=true,0≤(k1:Int)∧(k1:Int)<(v5.length:Int),g5=g5,g5=g5,((Yy v5).drop (0+(Int.toNat (k1:Int))*1)).take 1=(yU oe),InR .i64 ((k1:Int)+1),g5=g5,(v5.length:Int) ≠ 0,(0:Int)≤2∧(2:Int)<((4:Nat):Int),0≤(k1:Int)∧(k1:Int)<(rd.k2.length:Int),((Qe rd.k2).drop (0+(Int.toNat (k1:Int))*2)).take 2=[.int .i64 se.a,.int .i64 se.b],Qd Try.prog (.clos 93 [] []) (WT se) (.bool (Qu se 1)),(Qu se 1)=true,(0:Int)≤3∧(3:Int)<((4:Nat):Int),0≤(k1:Int)∧(k1:Int)<(rd.k3.length:Int),((Qe rd.k3).drop (0+(Int.toNat (k1:Int))*2)).take 2=[.int .i64 se1.a,.int .i64 se1.b],Qd Try.prog (.clos 93 [] []) (qr se1) (.bool (Qu se1 1)),(Qu se1 1)=true,0≤(k1:Int)∧(k1:Int)<(ops.length:Int),g3=g3,g3=g3,((rowB ops).drop (0+(Int.toNat (k1:Int))*1)).take 1=[.bool eb],(!eb)=true,(0:Int)≤1∧(1:Int)<((4:Nat):Int),0≤(Int.tmod ((k1:Int)+1) (v5.length:Int))∧(Int.tmod ((k1:Int)+1) (v5.length:Int))<(rd.k1.length:Int),((Qe rd.k1).drop (0+(Int.toNat (Int.tmod ((k1:Int)+1) (v5.length:Int)))*2)).take 2=[.int .i64 se2.a,.int .i64 se2.b],Qd Try.prog (.clos 93 [] []) (KP se2) (.bool (Qu se2 0)),(!(Qu se2 0))=false,((((oe.getD []).length:Nat):Int) == 0)=false,(0:Int)≤0∧(0:Int)<(((oe.getD []).length:Nat):Int),((rowI (oe.getD [])).drop (0+0*1)).take 1=[.int .i64 e],0≤e∧e<(v1.length:Int),g1=g1,0≤(k1:Int)∧(k1:Int)<(c.blocks.length:Int),((Qk c.blocks).drop ((0+(Int.toNat (k1:Int))*4)+1)).take 1=[.bool be.station],be.station=false,false=false,g1=g1,g1=g1,g1=g1,((((0+(Int.toNat e)*4)+0)+0)+1)≤(Qi v1).length,g1=g1,g1=g1,g1=g1,g1=g1,((((0+(Int.toNat e)*4)+0)+1)+1)≤(Qx (Qi v1) (((0+(Int.toNat e)*4)+0)+0) (yz k1 v5)).length,g1=g1,g1=g1,g1=g1,(((0+(Int.toNat e)*4)+3)+1)≤(Qx (Qx (Qi v1) (((0+(Int.toNat e)*4)+0)+0) (yz k1 v5)) (((0+(Int.toNat e)*4)+0)+1) [.int .i64 0]).length,g1=g1,0≤(k1:Int)∧(k1:Int)<(v2.length:Int),g2=g2,((0+(Int.toNat (k1:Int))*1)+1)≤(rowB v2).length,g2=g2,InR .i64 (v0_9+1),10≤10,((Int.tmod ((k1:Int)+1) (v5.length:Int)) == 0)=true,InR .i64 (v0_8+1),9≤10,InR .i64 ((k1:Int)+1)])
 (hg:G Try.prog E (Yf Try.prog) ⟨(WU g3 ops g5 v5 k k1),[⟨true,0,1,false,[.rsl (Qk c.blocks) 0 c.blocks.length,.rsl (rowI c.cars) 0 c.cars.length,.rsl (Qo faults) 0 faults.length,.sl 1 g1 0 v1.length 4,.sl 2 g2 0 v2.length 1,.int .i64 tick,.int .i64 stopped,.bool wrecked,.int .i64 (v0_8+1),.int .i64 (v0_9+1)],false⟩,⟨true,g1,4,true,(Qx (Qx (Qx (Qi v1) (((0+(Int.toNat e)*4)+0)+0) (yz k1 v5)) (((0+(Int.toNat e)*4)+0)+1) [.int .i64 0]) ((0+(Int.toNat e)*4)+3) [.int .i64 0]),true⟩,⟨true,g2,1,true,(Qx (rowB v2) (0+(Int.toNat (k1:Int))*1) [.bool false]),true⟩,⟨true,g3,1,true,(rowB ops),true⟩,⟨true,0,1,true,(Qav rd),false⟩,⟨true,g5,1,true,(Yy v5),true⟩]⟩):G Try.prog E (Yf Try.prog) (Vw c faults cars gos tick stopped wrecked rounds gone g1 g2 rd ops g3 k v5 k1 v0_8 v0_9 v1 v2 g5) :=
 Qg (n:=400) (ds:=[]) (cs:=[]) (live:=[0,2,4,6,46,47,48]) (m:=6) (evs:=[.b true,.ld (yT oe),.auto,.ld (.agg [.int .i64 se.a,.int .i64 se.b]),.v (.bool (Qu se 1)),.b true,.auto,.ld (.agg [.int .i64 se1.a,.int .i64 se1.b]),.v (.bool (Qu se1 1)),.b true,.ld (.bool eb),.b true,.auto,.ld (.agg [.int .i64 se2.a,.int .i64 se2.b]),.v (.bool (Qu se2 0)),.b false,.b false,.auto,.ld (.int .i64 e),.auto,.ld (.bool be.station),.b false,.b false,.b true,.stop]) (obs:=_) hE.kind (hE.nogh (by kernel_rfl)) Ql (by kernel_rfl) ho hg
theorem p78_1_7 (c:Cir) (faults:List Flt) (cars:List Car) (gos:List Bool) (tick stopped:Int) (wrecked:Bool) (rounds gone:Int) (g1 g2:Nat) (rd:Rd4) (ops:List Bool) (g3:Nat) (k:Nat) (v5:List (Option (List Int))) (k1:Nat) (v0_8:Int) (v0_9:Int) (v1:List Car) (v2:List Bool) (g5:Nat) (oe:(Option (List Int))) (se:Said) (se1:Said) (eb:Bool) (se2:Said) (e:Int) (ce:Car) (be:Bk) (ce1:Car) (ce2:Car) (eb1:Bool) {E:Env} {rv:AV} {bs2:List Blk} (hE:LentE Try.prog 78 [.sl 3 g3 0 0 1] rv bs2 E) (ho:AllP [(decide ((k1:Int)<(k:Int)))=true,0≤(k1:Int)∧(k1:Int)<(v5.length:Int),g5=g5,g5=g5,((Yy v5).drop (0+(Int.toNat (k1:Int))*1)).take 1=(yU oe),InR .i64 ((k1:Int)+1),g5=g5,(v5.length:Int) ≠ 0,(0:Int)≤2∧(2:Int)<((4:Nat):Int),0≤(k1:Int)∧(k1:Int)<(rd.k2.length:Int),((Qe rd.k2).drop (0+(Int.toNat (k1:Int))*2)).take 2=[.int .i64 se.a,.int .i64 se.b],Qd Try.prog (.clos 93 [] []) (WT se) (.bool (Qu se 1)),(Qu se 1)=true,(0:Int)≤3∧(3:Int)<((4:Nat):Int),0≤(k1:Int)∧(k1:Int)<(rd.k3.length:Int),((Qe rd.k3).drop (0+(Int.toNat (k1:Int))*2)).take 2=[.int .i64 se1.a,.int .i64 se1.b],Qd Try.prog (.clos 93 [] []) (qr se1) (.bool (Qu se1 1)),(Qu se1 1)=true,0≤(k1:Int)∧(k1:Int)<(ops.length:Int),g3=g3,g3=g3,((rowB ops).drop (0+(Int.toNat (k1:Int))*1)).take 1=[.bool eb],(!eb)=true,(0:Int)≤1∧(1:Int)<((4:Nat):Int),0≤(Int.tmod ((k1:Int)+1) (v5.length:Int))∧(Int.tmod ((k1:Int)+1) (v5.length:Int))<(rd.k1.length:Int),((Qe rd.k1).drop (0+(Int.toNat (Int.tmod ((k1:Int)+1) (v5.length:Int)))*2)).take 2=[.int .i64 se2.a,.int .i64 se2.b],Qd Try.prog (.clos 93 [] []) (KP se2) (.bool (Qu se2 0)),(!(Qu se2 0))=false,((((oe.getD []).length:Nat):Int) == 0)=false,(0:Int)≤0∧(0:Int)<(((oe.getD []).length:Nat):Int),((rowI (oe.getD [])).drop (0+0*1)).take 1=[.int .i64 e],0≤e∧e<(v1.length:Int),g1=g1,0≤(k1:Int)∧(k1:Int)<(c.blocks.length:Int),((Qk c.blocks).drop ((0+(Int.toNat (k1:Int))*4)+1)).take 1=[.bool be.station],be.station=false,false=false,g1=g1,g1=g1,g1=g1,((((0+(Int.toNat e)*4)+0)+0)+1)≤(Qi v1).length,g1=g1,g1=g1,g1=g1,g1=g1,((((0+(Int.toNat e)*4)+0)+1)+1)≤(Qx (Qi v1) (((0+(Int.toNat e)*4)+0)+0) (yz k1 v5)).length,g1=g1,g1=g1,g1=g1,(((0+(Int.toNat e)*4)+3)+1)≤(Qx (Qx (Qi v1) (((0+(Int.toNat e)*4)+0)+0) (yz k1 v5)) (((0+(Int.toNat e)*4)+0)+1) [.int .i64 0]).length,g1=g1,0≤(k1:Int)∧(k1:Int)<(v2.length:Int),g2=g2,((0+(Int.toNat (k1:Int))*1)+1)≤(rowB v2).length,g2=g2,InR .i64 (v0_9+1),10≤10,((Int.tmod ((k1:Int)+1) (v5.length:Int)) == 0)=false,InR .i64 ((k1:Int)+1)])
 (hg:G Try.prog E (Yf Try.prog) ⟨(WU g3 ops g5 v5 k k1),[⟨true,0,1,false,[.rsl (Qk c.blocks) 0 c.blocks.length,.rsl (rowI c.cars) 0 c.cars.length,.rsl (Qo faults) 0 faults.length,.sl 1 g1 0 v1.length 4,.sl 2 g2 0 v2.length 1,.int .i64 tick,.int .i64 stopped,.bool wrecked,.int .i64 v0_8,.int .i64 (v0_9+1)],false⟩,⟨true,g1,4,true,(Qx (Qx (Qx (Qi v1) (((0+(Int.toNat e)*4)+0)+0) (yz k1 v5)) (((0+(Int.toNat e)*4)+0)+1) [.int .i64 0]) ((0+(Int.toNat e)*4)+3) [.int .i64 0]),true⟩,⟨true,g2,1,true,(Qx (rowB v2) (0+(Int.toNat (k1:Int))*1) [.bool false]),true⟩,⟨true,g3,1,true,(rowB ops),true⟩,⟨true,0,1,true,(Qav rd),false⟩,⟨true,g5,1,true,(Yy v5),true⟩]⟩):G Try.prog E (Yf Try.prog) (Vw c faults cars gos tick stopped wrecked rounds gone g1 g2 rd ops g3 k v5 k1 v0_8 v0_9 v1 v2 g5) :=
 Qg (n:=400) (ds:=[]) (cs:=[]) (live:=[0,2,4,6,46,47,48]) (m:=6) (evs:=[.b true,.ld (yT oe),.auto,.ld (.agg [.int .i64 se.a,.int .i64 se.b]),.v (.bool (Qu se 1)),.b true,.auto,.ld (.agg [.int .i64 se1.a,.int .i64 se1.b]),.v (.bool (Qu se1 1)),.b true,.ld (.bool eb),.b true,.auto,.ld (.agg [.int .i64 se2.a,.int .i64 se2.b]),.v (.bool (Qu se2 0)),.b false,.b false,.auto,.ld (.int .i64 e),.auto,.ld (.bool be.station),.b false,.b false,.b false,.stop]) (obs:=_) hE.kind (hE.nogh (by kernel_rfl)) Ql (by kernel_rfl) ho hg
theorem p78_1_8 (c:Cir) (faults:List Flt) (cars:List Car) (gos:List Bool) (tick stopped:Int) (wrecked:Bool) (rounds gone:Int) (g1 g2:Nat) (rd:Rd4) (ops:List Bool) (g3:Nat) (k:Nat) (v5:List (Option (List Int))) (k1:Nat) (v0_8:Int) (v0_9:Int) (v1:List Car) (v2:List Bool) (g5:Nat) (oe:(Option (List Int))) (se:Said) (se1:Said) (eb:Bool) {E:Env} {rv:AV} {bs2:List Blk} (hE:LentE Try.prog 78 [.sl 3 g3 0 0 1] rv bs2 E) (ho:AllP [(decide ((k1:Int)<(k:Int)))=true,0≤(k1:Int)∧(k1:Int)<(v5.length:Int),g5=g5,g5=g5,((Yy v5).drop (0+(Int.toNat (k1:Int))*1)).take 1=(yU oe),InR .i64 ((k1:Int)+1),g5=g5,(v5.length:Int) ≠ 0,(0:Int)≤2∧(2:Int)<((4:Nat):Int),0≤(k1:Int)∧(k1:Int)<(rd.k2.length:Int),((Qe rd.k2).drop (0+(Int.toNat (k1:Int))*2)).take 2=[.int .i64 se.a,.int .i64 se.b],Qd Try.prog (.clos 93 [] []) (WT se) (.bool (Qu se 1)),(Qu se 1)=true,(0:Int)≤3∧(3:Int)<((4:Nat):Int),0≤(k1:Int)∧(k1:Int)<(rd.k3.length:Int),((Qe rd.k3).drop (0+(Int.toNat (k1:Int))*2)).take 2=[.int .i64 se1.a,.int .i64 se1.b],Qd Try.prog (.clos 93 [] []) (qr se1) (.bool (Qu se1 1)),(Qu se1 1)=true,0≤(k1:Int)∧(k1:Int)<(ops.length:Int),g3=g3,g3=g3,((rowB ops).drop (0+(Int.toNat (k1:Int))*1)).take 1=[.bool eb],(!eb)=false,true=true,true=true,InR .i64 ((k1:Int)+1)])
 (hg:G Try.prog E (Yf Try.prog) ⟨(WU g3 ops g5 v5 k k1),(yA c faults g1 v1 g2 v2 tick stopped wrecked v0_8 v0_9 g3 ops rd g5 v5)⟩):G Try.prog E (Yf Try.prog) (Vw c faults cars gos tick stopped wrecked rounds gone g1 g2 rd ops g3 k v5 k1 v0_8 v0_9 v1 v2 g5) :=
 Qg (n:=400) (ds:=[]) (cs:=[]) (live:=[0,2,4,6,46,47,48]) (m:=6) (evs:=[.b true,.ld (yT oe),.auto,.ld (.agg [.int .i64 se.a,.int .i64 se.b]),.v (.bool (Qu se 1)),.b true,.auto,.ld (.agg [.int .i64 se1.a,.int .i64 se1.b]),.v (.bool (Qu se1 1)),.b true,.ld (.bool eb),.b false,.b true,.b true,.stop]) (obs:=_) hE.kind (hE.nogh (by kernel_rfl)) Ql (by kernel_rfl) ho hg
theorem p78_1_9 (c:Cir) (faults:List Flt) (cars:List Car) (gos:List Bool) (tick stopped:Int) (wrecked:Bool) (rounds gone:Int) (g1 g2:Nat) (rd:Rd4) (ops:List Bool) (g3:Nat) (k:Nat) (v5:List (Option (List Int))) (k1:Nat) (v0_8:Int) (v0_9:Int) (v1:List Car) (v2:List Bool) (g5:Nat) (oe:(Option (List Int))) (se:Said) (se1:Said) {E:Env} {rv:AV} {bs2:List Blk} (hE:LentE Try.prog 78 [.sl 3 g3 0 0 1] rv bs2 E) (ho:AllP [(decide ((k1:Int)<(k:Int)))=true,0≤(k1:Int)∧(k1:Int)<(v5.length:Int),g5=g5,g5=g5,((Yy v5).drop (0+(Int.toNat (k1:Int))*1)).take 1=(yU oe),InR .i64 ((k1:Int)+1),g5=g5,(v5.length:Int) ≠ 0,(0:Int)≤2∧(2:Int)<((4:Nat):Int),0≤(k1:Int)∧(k1:Int)<(rd.k2.length:Int),((Qe rd.k2).drop (0+(Int.toNat (k1:Int))*2)).take 2=[.int .i64 se.a,.int .i64 se.b],Qd Try.prog (.clos 93 [] []) (WT se) (.bool (Qu se 1)),(Qu se 1)=true,(0:Int)≤3∧(3:Int)<((4:Nat):Int),0≤(k1:Int)∧(k1:Int)<(rd.k3.length:Int),((Qe rd.k3).drop (0+(Int.toNat (k1:Int))*2)).take 2=[.int .i64 se1.a,.int .i64 se1.b],Qd Try.prog (.clos 93 [] []) (qr se1) (.bool (Qu se1 1)),(Qu se1 1)=false,false=false,true=true,true=true,InR .i64 ((k1:Int)+1)])
 (hg:G Try.prog E (Yf Try.prog) ⟨(WU g3 ops g5 v5 k k1),(yA c faults g1 v1 g2 v2 tick stopped wrecked v0_8 v0_9 g3 ops rd g5 v5)⟩):G Try.prog E (Yf Try.prog) (Vw c faults cars gos tick stopped wrecked rounds gone g1 g2 rd ops g3 k v5 k1 v0_8 v0_9 v1 v2 g5) :=
 Qg (n:=400) (ds:=[]) (cs:=[]) (live:=[0,2,4,6,46,47,48]) (m:=6) (evs:=[.b true,.ld (yT oe),.auto,.ld (.agg [.int .i64 se.a,.int .i64 se.b]),.v (.bool (Qu se 1)),.b true,.auto,.ld (.agg [.int .i64 se1.a,.int .i64 se1.b]),.v (.bool (Qu se1 1)),.b false,.b false,.b true,.b true,.stop]) (obs:=_) hE.kind (hE.nogh (by kernel_rfl)) Ql (by kernel_rfl) ho hg
theorem p78_1_10 (c:Cir) (faults:List Flt) (cars:List Car) (gos:List Bool) (tick stopped:Int) (wrecked:Bool) (rounds gone:Int) (g1 g2:Nat) (rd:Rd4) (ops:List Bool) (g3:Nat) (k:Nat) (v5:List (Option (List Int))) (k1:Nat) (v0_8:Int) (v0_9:Int) (v1:List Car) (v2:List Bool) (g5:Nat) (oe:(Option (List Int))) (se:Said) {E:Env} {rv:AV} {bs2:List Blk} (hE:LentE Try.prog 78 [.sl 3 g3 0 0 1] rv bs2 E) (ho:AllP [(decide ((k1:Int)<(k:Int)))=true,0≤(k1:Int)∧(k1:Int)<(v5.length:Int),g5=g5,g5=g5,((Yy v5).drop (0+(Int.toNat (k1:Int))*1)).take 1=(yU oe),InR .i64 ((k1:Int)+1),g5=g5,(v5.length:Int) ≠ 0,(0:Int)≤2∧(2:Int)<((4:Nat):Int),0≤(k1:Int)∧(k1:Int)<(rd.k2.length:Int),((Qe rd.k2).drop (0+(Int.toNat (k1:Int))*2)).take 2=[.int .i64 se.a,.int .i64 se.b],Qd Try.prog (.clos 93 [] []) (WT se) (.bool (Qu se 1)),(Qu se 1)=false,false=false,false=false,true=true,true=true,InR .i64 ((k1:Int)+1)])
 (hg:G Try.prog E (Yf Try.prog) ⟨(WU g3 ops g5 v5 k k1),(yA c faults g1 v1 g2 v2 tick stopped wrecked v0_8 v0_9 g3 ops rd g5 v5)⟩):G Try.prog E (Yf Try.prog) (Vw c faults cars gos tick stopped wrecked rounds gone g1 g2 rd ops g3 k v5 k1 v0_8 v0_9 v1 v2 g5) :=
 Qg (n:=400) (ds:=[]) (cs:=[]) (live:=[0,2,4,6,46,47,48]) (m:=6) (evs:=[.b true,.ld (yT oe),.auto,.ld (.agg [.int .i64 se.a,.int .i64 se.b]),.v (.bool (Qu se 1)),.b false,.b false,.b false,.b true,.b true,.stop]) (obs:=_) hE.kind (hE.nogh (by kernel_rfl)) Ql (by kernel_rfl) ho hg
theorem p78_1_11 (c:Cir) (faults:List Flt) (cars:List Car) (gos:List Bool) (tick stopped:Int) (wrecked:Bool) (rounds gone:Int) (g1 g2:Nat) (rd:Rd4) (ops:List Bool) (g3:Nat) (k:Nat) (v5:List (Option (List Int))) (k1:Nat) (v0_8:Int) (v0_9:Int) (v1:List Car) (v2:List Bool) (g5:Nat) (oe:(Option (List Int))) (se:Said) (se1:Said) (eb:Bool) (se2:Said) {E:Env} {rv:AV} {bs2:List Blk} (hE:LentE Try.prog 78 [.sl 3 g3 0 0 1] rv bs2 E) (ho:AllP [(decide ((k1:Int)<(k:Int)))=true,0≤(k1:Int)∧(k1:Int)<(v5.length:Int),g5=g5,g5=g5,((Yy v5).drop (0+(Int.toNat (k1:Int))*1)).take 1=[.nilSl],InR .i64 ((k1:Int)+1),g5=g5,(v5.length:Int) ≠ 0,(0:Int)≤2∧(2:Int)<((4:Nat):Int),0≤(k1:Int)∧(k1:Int)<(rd.k2.length:Int),((Qe rd.k2).drop (0+(Int.toNat (k1:Int))*2)).take 2=[.int .i64 se.a,.int .i64 se.b],Qd Try.prog (.clos 93 [] []) (WT se) (.bool (Qu se 1)),(Qu se 1)=true,(0:Int)≤3∧(3:Int)<((4:Nat):Int),0≤(k1:Int)∧(k1:Int)<(rd.k3.length:Int),((Qe rd.k3).drop (0+(Int.toNat (k1:Int))*2)).take 2=[.int .i64 se1.a,.int .i64 se1.b],Qd Try.prog (.clos 93 [] []) (qr se1) (.bool (Qu se1 1)),(Qu se1 1)=true,0≤(k1:Int)∧(k1:Int)<(ops.length:Int),g3=g3,g3=g3,((rowB ops).drop (0+(Int.toNat (k1:Int))*1)).take 1=[.bool eb],(!eb)=true,(0:Int)≤1∧(1:Int)<((4:Nat):Int),0≤(Int.tmod ((k1:Int)+1) (v5.length:Int))∧(Int.tmod ((k1:Int)+1) (v5.length:Int))<(rd.k1.length:Int),((Qe rd.k1).drop (0+(Int.toNat (Int.tmod ((k1:Int)+1) (v5.length:Int)))*2)).take 2=[.int .i64 se2.a,.int .i64 se2.b],Qd Try.prog (.clos 93 [] []) (KP se2) (.bool (Qu se2 0)),(!(Qu se2 0))=true,true=true,InR .i64 ((k1:Int)+1)])
 (hg:G Try.prog E (Yf Try.prog) ⟨(WU g3 ops g5 v5 k k1),(yA c faults g1 v1 g2 v2 tick stopped wrecked v0_8 v0_9 g3 ops rd g5 v5)⟩):G Try.prog E (Yf Try.prog) (Vw c faults cars gos tick stopped wrecked rounds gone g1 g2 rd ops g3 k v5 k1 v0_8 v0_9 v1 v2 g5) :=
 Qg (n:=400) (ds:=[]) (cs:=[]) (live:=[0,2,4,6,46,47,48]) (m:=6) (evs:=[.b true,.ld .nilSl,.auto,.ld (.agg [.int .i64 se.a,.int .i64 se.b]),.v (.bool (Qu se 1)),.b true,.auto,.ld (.agg [.int .i64 se1.a,.int .i64 se1.b]),.v (.bool (Qu se1 1)),.b true,.ld (.bool eb),.b true,.auto,.ld (.agg [.int .i64 se2.a,.int .i64 se2.b]),.v (.bool (Qu se2 0)),.b true,.b true,.stop]) (obs:=_) hE.kind (hE.nogh (by kernel_rfl)) Ql (by kernel_rfl) ho hg
theorem p78_1_12 (c:Cir) (faults:List Flt) (cars:List Car) (gos:List Bool) (tick stopped:Int) (wrecked:Bool) (rounds gone:Int) (g1 g2:Nat) (rd:Rd4) (ops:List Bool) (g3:Nat) (k:Nat) (v5:List (Option (List Int))) (k1:Nat) (v0_8:Int) (v0_9:Int) (v1:List Car) (v2:List Bool) (g5:Nat) (oe:(Option (List Int))) (se:Said) (se1:Said) (eb:Bool) (se2:Said) {E:Env} {rv:AV} {bs2:List Blk} (hE:LentE Try.prog 78 [.sl 3 g3 0 0 1] rv bs2 E) (ho:AllP [(decide ((k1:Int)<(k:Int)))=true,0≤(k1:Int)∧(k1:Int)<(v5.length:Int),g5=g5,g5=g5,((Yy v5).drop (0+(Int.toNat (k1:Int))*1)).take 1=[.nilSl],InR .i64 ((k1:Int)+1),g5=g5,(v5.length:Int) ≠ 0,(0:Int)≤2∧(2:Int)<((4:Nat):Int),0≤(k1:Int)∧(k1:Int)<(rd.k2.length:Int),((Qe rd.k2).drop (0+(Int.toNat (k1:Int))*2)).take 2=[.int .i64 se.a,.int .i64 se.b],Qd Try.prog (.clos 93 [] []) (WT se) (.bool (Qu se 1)),(Qu se 1)=true,(0:Int)≤3∧(3:Int)<((4:Nat):Int),0≤(k1:Int)∧(k1:Int)<(rd.k3.length:Int),((Qe rd.k3).drop (0+(Int.toNat (k1:Int))*2)).take 2=[.int .i64 se1.a,.int .i64 se1.b],Qd Try.prog (.clos 93 [] []) (qr se1) (.bool (Qu se1 1)),(Qu se1 1)=true,0≤(k1:Int)∧(k1:Int)<(ops.length:Int),g3=g3,g3=g3,((rowB ops).drop (0+(Int.toNat (k1:Int))*1)).take 1=[.bool eb],(!eb)=true,(0:Int)≤1∧(1:Int)<((4:Nat):Int),0≤(Int.tmod ((k1:Int)+1) (v5.length:Int))∧(Int.tmod ((k1:Int)+1) (v5.length:Int))<(rd.k1.length:Int),((Qe rd.k1).drop (0+(Int.toNat (Int.tmod ((k1:Int)+1) (v5.length:Int)))*2)).take 2=[.int .i64 se2.a,.int .i64 se2.b],Qd Try.prog (.clos 93 [] []) (KP se2) (.bool (Qu se2 0)),(!(Qu se2 0))=false,true=true,InR .i64 ((k1:Int)+1)])
 (hg:G Try.prog E (Yf Try.prog) ⟨(WU g3 ops g5 v5 k k1),(yA c faults g1 v1 g2 v2 tick stopped wrecked v0_8 v0_9 g3 ops rd g5 v5)⟩):G Try.prog E (Yf Try.prog) (Vw c faults cars gos tick stopped wrecked rounds gone g1 g2 rd ops g3 k v5 k1 v0_8 v0_9 v1 v2 g5) :=
 Qg (n:=400) (ds:=[]) (cs:=[]) (live:=[0,2,4,6,46,47,48]) (m:=6) (evs:=[.b true,.ld .nilSl,.auto,.ld (.agg [.int .i64 se.a,.int .i64 se.b]),.v (.bool (Qu se 1)),.b true,.auto,.ld (.agg [.int .i64 se1.a,.int .i64 se1.b]),.v (.bool (Qu se1 1)),.b true,.ld (.bool eb),.b true,.auto,.ld (.agg [.int .i64 se2.a,.int .i64 se2.b]),.v (.bool (Qu se2 0)),.b false,.b true,.stop]) (obs:=_) hE.kind (hE.nogh (by kernel_rfl)) Ql (by kernel_rfl) ho hg
theorem p78_1_13 (c:Cir) (faults:List Flt) (cars:List Car) (gos:List Bool) (tick stopped:Int) (wrecked:Bool) (rounds gone:Int) (g1 g2:Nat) (rd:Rd4) (ops:List Bool) (g3:Nat) (k:Nat) (v5:List (Option (List Int))) (k1:Nat) (v0_8:Int) (v0_9:Int) (v1:List Car) (v2:List Bool) (g5:Nat) (oe:(Option (List Int))) (se:Said) (se1:Said) (eb:Bool) {E:Env} {rv:AV} {bs2:List Blk} (hE:LentE Try.prog 78 [.sl 3 g3 0 0 1] rv bs2 E) (ho:AllP [(decide ((k1:Int)<(k:Int)))=true,0≤(k1:Int)∧(k1:Int)<(v5.length:Int),g5=g5,g5=g5,((Yy v5).drop (0+(Int.toNat (k1:Int))*1)).take 1=[.nilSl],InR .i64 ((k1:Int)+1),g5=g5,(v5.length:Int) ≠ 0,(0:Int)≤2∧(2:Int)<((4:Nat):Int),0≤(k1:Int)∧(k1:Int)<(rd.k2.length:Int),((Qe rd.k2).drop (0+(Int.toNat (k1:Int))*2)).take 2=[.int .i64 se.a,.int .i64 se.b],Qd Try.prog (.clos 93 [] []) (WT se) (.bool (Qu se 1)),(Qu se 1)=true,(0:Int)≤3∧(3:Int)<((4:Nat):Int),0≤(k1:Int)∧(k1:Int)<(rd.k3.length:Int),((Qe rd.k3).drop (0+(Int.toNat (k1:Int))*2)).take 2=[.int .i64 se1.a,.int .i64 se1.b],Qd Try.prog (.clos 93 [] []) (qr se1) (.bool (Qu se1 1)),(Qu se1 1)=true,0≤(k1:Int)∧(k1:Int)<(ops.length:Int),g3=g3,g3=g3,((rowB ops).drop (0+(Int.toNat (k1:Int))*1)).take 1=[.bool eb],(!eb)=false,true=true,true=true,InR .i64 ((k1:Int)+1)])
 (hg:G Try.prog E (Yf Try.prog) ⟨(WU g3 ops g5 v5 k k1),(yA c faults g1 v1 g2 v2 tick stopped wrecked v0_8 v0_9 g3 ops rd g5 v5)⟩):G Try.prog E (Yf Try.prog) (Vw c faults cars gos tick stopped wrecked rounds gone g1 g2 rd ops g3 k v5 k1 v0_8 v0_9 v1 v2 g5) :=
 Qg (n:=400) (ds:=[]) (cs:=[]) (live:=[0,2,4,6,46,47,48]) (m:=6) (evs:=[.b true,.ld .nilSl,.auto,.ld (.agg [.int .i64 se.a,.int .i64 se.b]),.v (.bool (Qu se 1)),.b true,.auto,.ld (.agg [.int .i64 se1.a,.int .i64 se1.b]),.v (.bool (Qu se1 1)),.b true,.ld (.bool eb),.b false,.b true,.b true,.stop]) (obs:=_) hE.kind (hE.nogh (by kernel_rfl)) Ql (by kernel_rfl) ho hg
theorem p78_1_14 (c:Cir) (faults:List Flt) (cars:List Car) (gos:List Bool) (tick stopped:Int) (wrecked:Bool) (rounds gone:Int) (g1 g2:Nat) (rd:Rd4) (ops:List Bool) (g3:Nat) (k:Nat) (v5:List (Option (List Int))) (k1:Nat) (v0_8:Int) (v0_9:Int) (v1:List Car) (v2:List Bool) (g5:Nat) (oe:(Option (List Int))) (se:Said) (se1:Said) {E:Env} {rv:AV} {bs2:List Blk} (hE:LentE Try.prog 78 [.sl 3 g3 0 0 1] rv bs2 E) (ho:AllP [(decide ((k1:Int)<(k:Int)))=true,0≤(k1:Int)∧(k1:Int)<(v5.length:Int),g5=g5,g5=g5,((Yy v5).drop (0+(Int.toNat (k1:Int))*1)).take 1=[.nilSl],InR .i64 ((k1:Int)+1),g5=g5,(v5.length:Int) ≠ 0,(0:Int)≤2∧(2:Int)<((4:Nat):Int),0≤(k1:Int)∧(k1:Int)<(rd.k2.length:Int),((Qe rd.k2).drop (0+(Int.toNat (k1:Int))*2)).take 2=[.int .i64 se.a,.int .i64 se.b],Qd Try.prog (.clos 93 [] []) (WT se) (.bool (Qu se 1)),(Qu se 1)=true,(0:Int)≤3∧(3:Int)<((4:Nat):Int),0≤(k1:Int)∧(k1:Int)<(rd.k3.length:Int),((Qe rd.k3).drop (0+(Int.toNat (k1:Int))*2)).take 2=[.int .i64 se1.a,.int .i64 se1.b],Qd Try.prog (.clos 93 [] []) (qr se1) (.bool (Qu se1 1)),(Qu se1 1)=false,false=false,true=true,true=true,InR .i64 ((k1:Int)+1)])
 (hg:G Try.prog E (Yf Try.prog) ⟨(WU g3 ops g5 v5 k k1),(yA c faults g1 v1 g2 v2 tick stopped wrecked v0_8 v0_9 g3 ops rd g5 v5)⟩):G Try.prog E (Yf Try.prog) (Vw c faults cars gos tick stopped wrecked rounds gone g1 g2 rd ops g3 k v5 k1 v0_8 v0_9 v1 v2 g5) :=
 Qg (n:=400) (ds:=[]) (cs:=[]) (live:=[0,2,4,6,46,47,48]) (m:=6) (evs:=[.b true,.ld .nilSl,.auto,.ld (.agg [.int .i64 se.a,.int .i64 se.b]),.v (.bool (Qu se 1)),.b true,.auto,.ld (.agg [.int .i64 se1.a,.int .i64 se1.b]),.v (.bool (Qu se1 1)),.b false,.b false,.b true,.b true,.stop]) (obs:=_) hE.kind (hE.nogh (by kernel_rfl)) Ql (by kernel_rfl) ho hg
theorem p78_1_15 (c:Cir) (faults:List Flt) (cars:List Car) (gos:List Bool) (tick stopped:Int) (wrecked:Bool) (rounds gone:Int) (g1 g2:Nat) (rd:Rd4) (ops:List Bool) (g3:Nat) (k:Nat) (v5:List (Option (List Int))) (k1:Nat) (v0_8:Int) (v0_9:Int) (v1:List Car) (v2:List Bool) (g5:Nat) (oe:(Option (List Int))) (se:Said) {E:Env} {rv:AV} {bs2:List Blk} (hE:LentE Try.prog 78 [.sl 3 g3 0 0 1] rv bs2 E) (ho:AllP [(decide ((k1:Int)<(k:Int)))=true,0≤(k1:Int)∧(k1:Int)<(v5.length:Int),g5=g5,g5=g5,((Yy v5).drop (0+(Int.toNat (k1:Int))*1)).take 1=[.nilSl],InR .i64 ((k1:Int)+1),g5=g5,(v5.length:Int) ≠ 0,(0:Int)≤2∧(2:Int)<((4:Nat):Int),0≤(k1:Int)∧(k1:Int)<(rd.k2.length:Int),((Qe rd.k2).drop (0+(Int.toNat (k1:Int))*2)).take 2=[.int .i64 se.a,.int .i64 se.b],Qd Try.prog (.clos 93 [] []) (WT se) (.bool (Qu se 1)),(Qu se 1)=false,false=false,false=false,true=true,true=true,InR .i64 ((k1:Int)+1)])
 (hg:G Try.prog E (Yf Try.prog) ⟨(WU g3 ops g5 v5 k k1),(yA c faults g1 v1 g2 v2 tick stopped wrecked v0_8 v0_9 g3 ops rd g5 v5)⟩):G Try.prog E (Yf Try.prog) (Vw c faults cars gos tick stopped wrecked rounds gone g1 g2 rd ops g3 k v5 k1 v0_8 v0_9 v1 v2 g5) :=
 Qg (n:=400) (ds:=[]) (cs:=[]) (live:=[0,2,4,6,46,47,48]) (m:=6) (evs:=[.b true,.ld .nilSl,.auto,.ld (.agg [.int .i64 se.a,.int .i64 se.b]),.v (.bool (Qu se 1)),.b false,.b false,.b false,.b true,.b true,.stop]) (obs:=_) hE.kind (hE.nogh (by kernel_rfl)) Ql (by kernel_rfl) ho hg
theorem p78_1_16 (c:Cir) (faults:List Flt) (cars:List Car) (gos:List Bool) (tick stopped:Int) (wrecked:Bool) (rounds gone:Int) (g1 g2:Nat) (rd:Rd4) (ops:List Bool) (g3:Nat) (k:Nat) (v5:List (Option (List Int))) (k1:Nat) (v0_8:Int) (v0_9:Int) (v1:List Car) (v2:List Bool) (g5:Nat) {E:Env} {res:AV} {bs2:List Blk} (hE:LentE Try.prog 78 [.sl 3 g3 0 0 1] res bs2 E) (ho:AllP [(decide ((k1:Int)<(k:Int)))=false])
 (hr:(.tup [])=res) (hb:[⟨true,0,1,false,[.rsl (Qk c.blocks) 0 c.blocks.length,.rsl (rowI c.cars) 0 c.cars.length,.rsl (Qo faults) 0 faults.length,.sl 1 g1 0 v1.length 4,.sl 2 g2 0 v2.length 1,.int .i64 tick,.int .i64 stopped,.bool wrecked,.int .i64 v0_8,.int .i64 v0_9],false⟩,⟨true,g1,4,true,(Qi v1),true⟩,⟨true,g2,1,true,(rowB v2),true⟩,⟨true,g3,1,true,(rowB ops),true⟩]=bs2):G Try.prog E (Yf Try.prog) (Vw c faults cars gos tick stopped wrecked rounds gone g1 g2 rd ops g3 k v5 k1 v0_8 v0_9 v1 v2 g5) :=
 XK (n:=400) (live:=[]) (m:=4) (evs:=[.b false]) (obs:=_) hE (hE.nogh (by kernel_rfl)) Try.func78 Ql (by kernel_rfl) ho hr hb
theorem f78W1 (c:Cir) (faults:List Flt) (cars:List Car) (gos:List Bool) (tick stopped:Int) (wrecked:Bool) (rounds gone:Int) (g1 g2:Nat) (rd:Rd4) (ops:List Bool) (g3:Nat) (k:Nat) (v5:List (Option (List Int))) (k1:Nat) (v0_8:Int) (v0_9:Int) (v1:List Car) (v2:List Bool) {E:Env} {rv:Unit} {rounds2:Int} {gone2:Int} {cars2:List Car} {gos2:List Bool} (hE:LentE Try.prog 78 [.sl 3 g3 0 0 1] (.tup []) [⟨true,0,1,false,[.rsl (Qk c.blocks) 0 c.blocks.length,.rsl (rowI c.cars) 0 c.cars.length,.rsl (Qo faults) 0 faults.length,.sl 1 g1 0 cars2.length 4,.sl 2 g2 0 gos2.length 1,.int .i64 tick,.int .i64 stopped,.bool wrecked,.int .i64 rounds2,.int .i64 gone2],false⟩,⟨true,g1,4,true,(Qi cars2),true⟩,⟨true,g2,1,true,(rowB gos2),true⟩,⟨true,g3,1,true,(rowB ops),true⟩] E)
 (h:(((k1:Int)<(k:Int)→(∃ oe:(Option (List Int)),v5[k1]?=some oe∧((oe.isSome=true→((I6 ((k1:Int)+1))∧((v5.length:Int) ≠ 0∧(∃ se:Said,rd.k2[k1]?=some se∧(((Qu se 1)=true→(∃ se1:Said,rd.k3[k1]?=some se1∧(((Qu se1 1)=true→(∃ eb:Bool,ops[k1]?=some eb∧((eb=false→(0≤(Int.tmod ((k1:Int)+1) (v5.length:Int))∧(∃ se2:Said,rd.k1[Int.toNat (Int.tmod ((k1:Int)+1) (v5.length:Int))]?=some se2∧(((Qu se2 0)=false→((I6 ((k1:Int)+1))∧YF E c faults cars gos tick stopped wrecked rounds gone g1 g2 rd ops g3 k v5 (k1+1) v0_8 v0_9 v1 v2))∧((Qu se2 0)=true→(((((oe.getD []).length:Nat):Int)=0→((I6 ((k1:Int)+1))∧YF E c faults cars gos tick stopped wrecked rounds gone g1 g2 rd ops g3 k v5 (k1+1) v0_8 v0_9 v1 v2))∧(¬ ((((oe.getD []).length:Nat):Int)=0)→(∃ e:Int,(oe.getD [])[0]?=some e∧(0≤e∧(∃ ce:Car,v1[Int.toNat e]?=some ce∧(∃ be:Bk,c.blocks[k1]?=some be∧((be.station=true→(∃ eb1:Bool,v2[k1]?=some eb1∧((eb1=false→((I6 ((k1:Int)+1))∧YF E c faults cars gos tick stopped wrecked rounds gone g1 g2 rd ops g3 k v5 (k1+1) v0_8 v0_9 v1 v2))∧(eb1=true→((ce.stood<be.hold→((I6 ((k1:Int)+1))∧YF E c faults cars gos tick stopped wrecked rounds gone g1 g2 rd ops g3 k v5 (k1+1) v0_8 v0_9 v1 v2))∧(¬ (ce.stood<be.hold)→(0≤e∧(∃ ce1:Car,(v1.set (Int.toNat e) (⟨(⟨(Int.tmod ((k1:Int)+1) (v5.length:Int)),ce.spot.ran,ce.spot.opn⟩:Spt),ce.stood⟩:Car))[Int.toNat e]?=some ce1∧(0≤e∧(∃ ce2:Car,((v1.set (Int.toNat e) (⟨(⟨(Int.tmod ((k1:Int)+1) (v5.length:Int)),ce.spot.ran,ce.spot.opn⟩:Spt),ce.stood⟩:Car)).set (Int.toNat e) (⟨(⟨ce1.spot.block,0,ce1.spot.opn⟩:Spt),ce1.stood⟩:Car))[Int.toNat e]?=some ce2∧((I6 (v0_9+1))∧(((Int.tmod ((k1:Int)+1) (v5.length:Int))=0→((I6 (v0_8+1))∧((I6 ((k1:Int)+1))∧YF E c faults cars gos tick stopped wrecked rounds gone g1 g2 rd ops g3 k v5 (k1+1) (v0_8+1) (v0_9+1) (((v1.set (Int.toNat e) (⟨(⟨(Int.tmod ((k1:Int)+1) (v5.length:Int)),ce.spot.ran,ce.spot.opn⟩:Spt),ce.stood⟩:Car)).set (Int.toNat e) (⟨(⟨ce1.spot.block,0,ce1.spot.opn⟩:Spt),ce1.stood⟩:Car)).set (Int.toNat e) (⟨ce2.spot,0⟩:Car)) (v2.set k1 false))))∧(¬ ((Int.tmod ((k1:Int)+1) (v5.length:Int))=0)→((I6 ((k1:Int)+1))∧YF E c faults cars gos tick stopped wrecked rounds gone g1 g2 rd ops g3 k v5 (k1+1) v0_8 (v0_9+1) (((v1.set (Int.toNat e) (⟨(⟨(Int.tmod ((k1:Int)+1) (v5.length:Int)),ce.spot.ran,ce.spot.opn⟩:Spt),ce.stood⟩:Car)).set (Int.toNat e) (⟨(⟨ce1.spot.block,0,ce1.spot.opn⟩:Spt),ce1.stood⟩:Car)).set (Int.toNat e) (⟨ce2.spot,0⟩:Car)) (v2.set k1 false)))))))))))))))∧(be.station=false→(0≤e∧(∃ ce1:Car,(v1.set (Int.toNat e) (⟨(⟨(Int.tmod ((k1:Int)+1) (v5.length:Int)),ce.spot.ran,ce.spot.opn⟩:Spt),ce.stood⟩:Car))[Int.toNat e]?=some ce1∧(0≤e∧(∃ ce2:Car,((v1.set (Int.toNat e) (⟨(⟨(Int.tmod ((k1:Int)+1) (v5.length:Int)),ce.spot.ran,ce.spot.opn⟩:Spt),ce.stood⟩:Car)).set (Int.toNat e) (⟨(⟨ce1.spot.block,0,ce1.spot.opn⟩:Spt),ce1.stood⟩:Car))[Int.toNat e]?=some ce2∧(∃ eb1:Bool,v2[k1]?=some eb1∧((I6 (v0_9+1))∧(((Int.tmod ((k1:Int)+1) (v5.length:Int))=0→((I6 (v0_8+1))∧((I6 ((k1:Int)+1))∧YF E c faults cars gos tick stopped wrecked rounds gone g1 g2 rd ops g3 k v5 (k1+1) (v0_8+1) (v0_9+1) (((v1.set (Int.toNat e) (⟨(⟨(Int.tmod ((k1:Int)+1) (v5.length:Int)),ce.spot.ran,ce.spot.opn⟩:Spt),ce.stood⟩:Car)).set (Int.toNat e) (⟨(⟨ce1.spot.block,0,ce1.spot.opn⟩:Spt),ce1.stood⟩:Car)).set (Int.toNat e) (⟨ce2.spot,0⟩:Car)) (v2.set k1 false))))∧(¬ ((Int.tmod ((k1:Int)+1) (v5.length:Int))=0)→((I6 ((k1:Int)+1))∧YF E c faults cars gos tick stopped wrecked rounds gone g1 g2 rd ops g3 k v5 (k1+1) v0_8 (v0_9+1) (((v1.set (Int.toNat e) (⟨(⟨(Int.tmod ((k1:Int)+1) (v5.length:Int)),ce.spot.ran,ce.spot.opn⟩:Spt),ce.stood⟩:Car)).set (Int.toNat e) (⟨(⟨ce1.spot.block,0,ce1.spot.opn⟩:Spt),ce1.stood⟩:Car)).set (Int.toNat e) (⟨ce2.spot,0⟩:Car)) (v2.set k1 false)))))))))))))))))))))))∧(eb=true→((I6 ((k1:Int)+1))∧YF E c faults cars gos tick stopped wrecked rounds gone g1 g2 rd ops g3 k v5 (k1+1) v0_8 v0_9 v1 v2)))))∧((Qu se1 1)=false→((I6 ((k1:Int)+1))∧YF E c faults cars gos tick stopped wrecked rounds gone g1 g2 rd ops g3 k v5 (k1+1) v0_8 v0_9 v1 v2)))))∧((Qu se 1)=false→((I6 ((k1:Int)+1))∧YF E c faults cars gos tick stopped wrecked rounds gone g1 g2 rd ops g3 k v5 (k1+1) v0_8 v0_9 v1 v2)))))))∧(oe.isSome=false→((I6 ((k1:Int)+1))∧((v5.length:Int) ≠ 0∧(∃ se:Said,rd.k2[k1]?=some se∧(((Qu se 1)=true→(∃ se1:Said,rd.k3[k1]?=some se1∧(((Qu se1 1)=true→(∃ eb:Bool,ops[k1]?=some eb∧((eb=false→(0≤(Int.tmod ((k1:Int)+1) (v5.length:Int))∧(∃ se2:Said,rd.k1[Int.toNat (Int.tmod ((k1:Int)+1) (v5.length:Int))]?=some se2∧(((Qu se2 0)=false→((I6 ((k1:Int)+1))∧YF E c faults cars gos tick stopped wrecked rounds gone g1 g2 rd ops g3 k v5 (k1+1) v0_8 v0_9 v1 v2))∧((Qu se2 0)=true→((I6 ((k1:Int)+1))∧YF E c faults cars gos tick stopped wrecked rounds gone g1 g2 rd ops g3 k v5 (k1+1) v0_8 v0_9 v1 v2))))))∧(eb=true→((I6 ((k1:Int)+1))∧YF E c faults cars gos tick stopped wrecked rounds gone g1 g2 rd ops g3 k v5 (k1+1) v0_8 v0_9 v1 v2)))))∧((Qu se1 1)=false→((I6 ((k1:Int)+1))∧YF E c faults cars gos tick stopped wrecked rounds gone g1 g2 rd ops g3 k v5 (k1+1) v0_8 v0_9 v1 v2)))))∧((Qu se 1)=false→((I6 ((k1:Int)+1))∧YF E c faults cars gos tick stopped wrecked rounds gone g1 g2 rd ops g3 k v5 (k1+1) v0_8 v0_9 v1 v2))))))))))∧(¬ ((k1:Int)<(k:Int))→rounds2=v0_8∧gone2=v0_9∧cars2=v1∧gos2=v2))):YF E c faults cars gos tick stopped wrecked rounds gone g1 g2 rd ops g3 k v5 k1 v0_8 v0_9 v1 v2:=by
 intro g5
 rcases bft (decide ((k1:Int)<(k:Int))) with hc0 | hc0
 · have h:=h.1 (odt hc0)
   obtain ⟨oe,h1,h⟩:=h
   rcases bft oe.isSome with hc1 | hc1
   · have h:=h.1 hc1
     obtain ⟨q7_2,h⟩:=h
     obtain ⟨q9_2,h⟩:=h
     obtain ⟨se,h2,h⟩:=h
     rcases bft (Qu se 1) with hc2 | hc2
     · have h:=h.1 hc2
       obtain ⟨se1,h3,h⟩:=h
       rcases bft (Qu se1 1) with hc3 | hc3
       · have h:=h.1 hc3
         obtain ⟨eb,h4,h⟩:=h
         rcases bft (!eb) with hc4 | hc4
         · have h:=h.1 (bnT hc4)
           obtain ⟨h6,h⟩:=h
           obtain ⟨se2,h5,h⟩:=h
           rcases bft (!(Qu se2 0)) with hc5 | hc5
           · have h:=h.1 (bnT hc5)
             obtain ⟨q35_6,h⟩:=h
             exact p78_1_0 c faults cars gos tick stopped wrecked rounds gone g1 g2 rd ops g3 k v5 k1 v0_8 v0_9 v1 v2 g5 oe se se1 eb se2 hE ⟨hc0,(Qp h1),rfl,rfl,(by exact rp cOI 1 0 1 ((Ya hc1) ▸ h1)),q7_2,rfl,q9_2,(⟨by decide,by decide⟩),(Qp h2),(rp Xf 2 0 2 h2),(u93 (QO se 1)),hc2,(⟨by decide,by decide⟩),(Qp h3),(rp Xf 2 0 2 h3),(u93 (QO se1 1)),hc3,(Qp h4),rfl,rfl,(rp cB 1 0 1 h4),hc4,(⟨by decide,by decide⟩),(QG h6 h5),(rp Xf 2 0 2 h5),(u93 (QO se2 0)),hc5,rfl,q35_6,trivial⟩ (h g5)
           · have h:=h.2 (bnF hc5)
             rcases bft ((((oe.getD []).length:Nat):Int) == 0) with hc6 | hc6
             · have h:=h.1 (eq_of_beq hc6)
               obtain ⟨q35_7,h⟩:=h
               exact p78_1_1 c faults cars gos tick stopped wrecked rounds gone g1 g2 rd ops g3 k v5 k1 v0_8 v0_9 v1 v2 g5 oe se se1 eb se2 hE ⟨hc0,(Qp h1),rfl,rfl,(by exact rp cOI 1 0 1 ((Ya hc1) ▸ h1)),q7_2,rfl,q9_2,(⟨by decide,by decide⟩),(Qp h2),(rp Xf 2 0 2 h2),(u93 (QO se 1)),hc2,(⟨by decide,by decide⟩),(Qp h3),(rp Xf 2 0 2 h3),(u93 (QO se1 1)),hc3,(Qp h4),rfl,rfl,(rp cB 1 0 1 h4),hc4,(⟨by decide,by decide⟩),(QG h6 h5),(rp Xf 2 0 2 h5),(u93 (QO se2 0)),hc5,hc6,q35_7,trivial⟩ (h g5)
             · have h:=h.2 (ne_of_beq_false hc6)
               obtain ⟨e,h7,h⟩:=h
               obtain ⟨h9,h⟩:=h
               obtain ⟨ce,h8,h⟩:=h
               obtain ⟨be,h10,h⟩:=h
               rcases bft be.station with hc7 | hc7
               · have h:=h.1 hc7
                 obtain ⟨eb1,h11,h⟩:=h
                 rcases bft (!eb1) with hc8 | hc8
                 · have h:=h.1 (bnT hc8)
                   obtain ⟨q52_9,h⟩:=h
                   exact p78_1_2 c faults cars gos tick stopped wrecked rounds gone g1 g2 rd ops g3 k v5 k1 v0_8 v0_9 v1 v2 g5 oe se se1 eb se2 e ce be eb1 hE ⟨hc0,(Qp h1),rfl,rfl,(by exact rp cOI 1 0 1 ((Ya hc1) ▸ h1)),q7_2,rfl,q9_2,(⟨by decide,by decide⟩),(Qp h2),(rp Xf 2 0 2 h2),(u93 (QO se 1)),hc2,(⟨by decide,by decide⟩),(Qp h3),(rp Xf 2 0 2 h3),(u93 (QO se1 1)),hc3,(Qp h4),rfl,rfl,(rp cB 1 0 1 h4),hc4,(⟨by decide,by decide⟩),(QG h6 h5),(rp Xf 2 0 2 h5),(u93 (QO se2 0)),hc5,hc6,(Qp h7),(rp cI 1 0 1 h7),(QG h9 h8),rfl,(Qp h10),(rp cBk 4 1 1 h10),hc7,(Qp h11),rfl,rfl,(rp cB 1 0 1 h11),hc8,rfl,q52_9,trivial⟩ (h g5)
                 · have h:=h.2 (bnF hc8)
                   rcases bft (decide (ce.stood<be.hold)) with hc9 | hc9
                   · have h:=h.1 (odt hc9)
                     obtain ⟨q58_10,h⟩:=h
                     exact p78_1_3 c faults cars gos tick stopped wrecked rounds gone g1 g2 rd ops g3 k v5 k1 v0_8 v0_9 v1 v2 g5 oe se se1 eb se2 e ce be eb1 hE ⟨hc0,(Qp h1),rfl,rfl,(by exact rp cOI 1 0 1 ((Ya hc1) ▸ h1)),q7_2,rfl,q9_2,(⟨by decide,by decide⟩),(Qp h2),(rp Xf 2 0 2 h2),(u93 (QO se 1)),hc2,(⟨by decide,by decide⟩),(Qp h3),(rp Xf 2 0 2 h3),(u93 (QO se1 1)),hc3,(Qp h4),rfl,rfl,(rp cB 1 0 1 h4),hc4,(⟨by decide,by decide⟩),(QG h6 h5),(rp Xf 2 0 2 h5),(u93 (QO se2 0)),hc5,hc6,(Qp h7),(rp cI 1 0 1 h7),(QG h9 h8),rfl,(Qp h10),(rp cBk 4 1 1 h10),hc7,(Qp h11),rfl,rfl,(rp cB 1 0 1 h11),hc8,rfl,rfl,rfl,(rp cCar 4 3 1 h8),(Qp h10),(rp cBk 4 2 1 h10),hc9,q58_10,trivial⟩ (h g5)
                   · have h:=h.2 (odf hc9)
                     obtain ⟨h13,h⟩:=h
                     obtain ⟨ce1,h12,h⟩:=h
                     obtain ⟨h15,h⟩:=h
                     obtain ⟨ce2,h14,h⟩:=h
                     obtain ⟨q78_10,h⟩:=h
                     rcases bft ((Int.tmod ((k1:Int)+1) (v5.length:Int)) == 0) with hc10 | hc10
                     · have h:=h.1 (eq_of_beq hc10)
                       obtain ⟨q81_11,h⟩:=h
                       obtain ⟨q83_11,h⟩:=h
                       refine p78_1_4 c faults cars gos tick stopped wrecked rounds gone g1 g2 rd ops g3 k v5 k1 v0_8 v0_9 v1 v2 g5 oe se se1 eb se2 e ce be eb1 ce1 ce2 hE ⟨hc0,(Qp h1),rfl,rfl,(by exact rp cOI 1 0 1 ((Ya hc1) ▸ h1)),q7_2,rfl,q9_2,(⟨by decide,by decide⟩),(Qp h2),(rp Xf 2 0 2 h2),(u93 (QO se 1)),hc2,(⟨by decide,by decide⟩),(Qp h3),(rp Xf 2 0 2 h3),(u93 (QO se1 1)),hc3,(Qp h4),rfl,rfl,(rp cB 1 0 1 h4),hc4,(⟨by decide,by decide⟩),(QG h6 h5),(rp Xf 2 0 2 h5),(u93 (QO se2 0)),hc5,hc6,(Qp h7),(rp cI 1 0 1 h7),(QG h9 h8),rfl,(Qp h10),(rp cBk 4 1 1 h10),hc7,(Qp h11),rfl,rfl,(rp cB 1 0 1 h11),hc8,rfl,rfl,rfl,(rp cCar 4 3 1 h8),(Qp h10),(rp cBk 4 2 1 h10),hc9,rfl,rfl,rfl,(rf cCar 4 0 1 h8),rfl,rfl,rfl,rfl,(by rw [(show Qx (Qi v1) (((0+(Int.toNat e)*4)+0)+0) [.int .i64 (Int.tmod ((k1:Int)+1) (v5.length:Int))]=Qi (v1.set (Int.toNat e) (⟨(⟨(Int.tmod ((k1:Int)+1) (v5.length:Int)),ce.spot.ran,ce.spot.opn⟩:Spt),ce.stood⟩:Car)) from QD cCar (s:=4) (k:=0) (fun _=>rfl) h8 rfl (by first | decide | simp))]; exact rf cCar 4 1 1 h12),rfl,rfl,rfl,(by rw [(show Qx (Qi v1) (((0+(Int.toNat e)*4)+0)+0) [.int .i64 (Int.tmod ((k1:Int)+1) (v5.length:Int))]=Qi (v1.set (Int.toNat e) (⟨(⟨(Int.tmod ((k1:Int)+1) (v5.length:Int)),ce.spot.ran,ce.spot.opn⟩:Spt),ce.stood⟩:Car)) from QD cCar (s:=4) (k:=0) (fun _=>rfl) h8 rfl (by first | decide | simp))]; rw [(show Qx (Qi (v1.set (Int.toNat e) (⟨(⟨(Int.tmod ((k1:Int)+1) (v5.length:Int)),ce.spot.ran,ce.spot.opn⟩:Spt),ce.stood⟩:Car))) (((0+(Int.toNat e)*4)+0)+1) [.int .i64 0]=Qi ((v1.set (Int.toNat e) (⟨(⟨(Int.tmod ((k1:Int)+1) (v5.length:Int)),ce.spot.ran,ce.spot.opn⟩:Spt),ce.stood⟩:Car)).set (Int.toNat e) (⟨(⟨ce1.spot.block,0,ce1.spot.opn⟩:Spt),ce1.stood⟩:Car)) from QD cCar (s:=4) (k:=1) (fun _=>rfl) h12 rfl (by first | decide | simp))]; exact rf cCar 4 3 1 h14),rfl,(Qp h11),rfl,(rf cB 1 0 1 h11),rfl,q78_10,(by decide),hc10,q81_11,(by decide),q83_11,trivial⟩ ?_
                       have h:=(h g5)
                       simp only [YF,Vw,List.length_set] at h
                       rw [(show Qx (Qi v1) (((0+(Int.toNat e)*4)+0)+0) [.int .i64 (Int.tmod ((k1:Int)+1) (v5.length:Int))]=Qi (v1.set (Int.toNat e) (⟨(⟨(Int.tmod ((k1:Int)+1) (v5.length:Int)),ce.spot.ran,ce.spot.opn⟩:Spt),ce.stood⟩:Car)) from QD cCar (s:=4) (k:=0) (fun _=>rfl) h8 rfl (by first | decide | simp))]; rw [(show Qx (Qi (v1.set (Int.toNat e) (⟨(⟨(Int.tmod ((k1:Int)+1) (v5.length:Int)),ce.spot.ran,ce.spot.opn⟩:Spt),ce.stood⟩:Car))) (((0+(Int.toNat e)*4)+0)+1) [.int .i64 0]=Qi ((v1.set (Int.toNat e) (⟨(⟨(Int.tmod ((k1:Int)+1) (v5.length:Int)),ce.spot.ran,ce.spot.opn⟩:Spt),ce.stood⟩:Car)).set (Int.toNat e) (⟨(⟨ce1.spot.block,0,ce1.spot.opn⟩:Spt),ce1.stood⟩:Car)) from QD cCar (s:=4) (k:=1) (fun _=>rfl) h12 rfl (by first | decide | simp))]; rw [(show Qx (Qi ((v1.set (Int.toNat e) (⟨(⟨(Int.tmod ((k1:Int)+1) (v5.length:Int)),ce.spot.ran,ce.spot.opn⟩:Spt),ce.stood⟩:Car)).set (Int.toNat e) (⟨(⟨ce1.spot.block,0,ce1.spot.opn⟩:Spt),ce1.stood⟩:Car))) ((0+(Int.toNat e)*4)+3) [.int .i64 0]=Qi (((v1.set (Int.toNat e) (⟨(⟨(Int.tmod ((k1:Int)+1) (v5.length:Int)),ce.spot.ran,ce.spot.opn⟩:Spt),ce.stood⟩:Car)).set (Int.toNat e) (⟨(⟨ce1.spot.block,0,ce1.spot.opn⟩:Spt),ce1.stood⟩:Car)).set (Int.toNat e) (⟨ce2.spot,0⟩:Car)) from QD cCar (s:=4) (k:=3) (fun _=>rfl) h14 rfl (by first | decide | simp))]; rw [(show Qx (rowB v2) (0+(Int.toNat (k1:Int))*1) [.bool false]=rowB (v2.set k1 false) from QD cB (s:=1) (k:=0) (fun _=>rfl) h11 rfl (by first | decide | simp))]
                       exact h
                     · have h:=h.2 (ne_of_beq_false hc10)
                       obtain ⟨q81_11,h⟩:=h
                       refine p78_1_5 c faults cars gos tick stopped wrecked rounds gone g1 g2 rd ops g3 k v5 k1 v0_8 v0_9 v1 v2 g5 oe se se1 eb se2 e ce be eb1 ce1 ce2 hE ⟨hc0,(Qp h1),rfl,rfl,(by exact rp cOI 1 0 1 ((Ya hc1) ▸ h1)),q7_2,rfl,q9_2,(⟨by decide,by decide⟩),(Qp h2),(rp Xf 2 0 2 h2),(u93 (QO se 1)),hc2,(⟨by decide,by decide⟩),(Qp h3),(rp Xf 2 0 2 h3),(u93 (QO se1 1)),hc3,(Qp h4),rfl,rfl,(rp cB 1 0 1 h4),hc4,(⟨by decide,by decide⟩),(QG h6 h5),(rp Xf 2 0 2 h5),(u93 (QO se2 0)),hc5,hc6,(Qp h7),(rp cI 1 0 1 h7),(QG h9 h8),rfl,(Qp h10),(rp cBk 4 1 1 h10),hc7,(Qp h11),rfl,rfl,(rp cB 1 0 1 h11),hc8,rfl,rfl,rfl,(rp cCar 4 3 1 h8),(Qp h10),(rp cBk 4 2 1 h10),hc9,rfl,rfl,rfl,(rf cCar 4 0 1 h8),rfl,rfl,rfl,rfl,(by rw [(show Qx (Qi v1) (((0+(Int.toNat e)*4)+0)+0) [.int .i64 (Int.tmod ((k1:Int)+1) (v5.length:Int))]=Qi (v1.set (Int.toNat e) (⟨(⟨(Int.tmod ((k1:Int)+1) (v5.length:Int)),ce.spot.ran,ce.spot.opn⟩:Spt),ce.stood⟩:Car)) from QD cCar (s:=4) (k:=0) (fun _=>rfl) h8 rfl (by first | decide | simp))]; exact rf cCar 4 1 1 h12),rfl,rfl,rfl,(by rw [(show Qx (Qi v1) (((0+(Int.toNat e)*4)+0)+0) [.int .i64 (Int.tmod ((k1:Int)+1) (v5.length:Int))]=Qi (v1.set (Int.toNat e) (⟨(⟨(Int.tmod ((k1:Int)+1) (v5.length:Int)),ce.spot.ran,ce.spot.opn⟩:Spt),ce.stood⟩:Car)) from QD cCar (s:=4) (k:=0) (fun _=>rfl) h8 rfl (by first | decide | simp))]; rw [(show Qx (Qi (v1.set (Int.toNat e) (⟨(⟨(Int.tmod ((k1:Int)+1) (v5.length:Int)),ce.spot.ran,ce.spot.opn⟩:Spt),ce.stood⟩:Car))) (((0+(Int.toNat e)*4)+0)+1) [.int .i64 0]=Qi ((v1.set (Int.toNat e) (⟨(⟨(Int.tmod ((k1:Int)+1) (v5.length:Int)),ce.spot.ran,ce.spot.opn⟩:Spt),ce.stood⟩:Car)).set (Int.toNat e) (⟨(⟨ce1.spot.block,0,ce1.spot.opn⟩:Spt),ce1.stood⟩:Car)) from QD cCar (s:=4) (k:=1) (fun _=>rfl) h12 rfl (by first | decide | simp))]; exact rf cCar 4 3 1 h14),rfl,(Qp h11),rfl,(rf cB 1 0 1 h11),rfl,q78_10,(by decide),hc10,q81_11,trivial⟩ ?_
                       have h:=(h g5)
                       simp only [YF,Vw,List.length_set] at h
                       rw [(show Qx (Qi v1) (((0+(Int.toNat e)*4)+0)+0) [.int .i64 (Int.tmod ((k1:Int)+1) (v5.length:Int))]=Qi (v1.set (Int.toNat e) (⟨(⟨(Int.tmod ((k1:Int)+1) (v5.length:Int)),ce.spot.ran,ce.spot.opn⟩:Spt),ce.stood⟩:Car)) from QD cCar (s:=4) (k:=0) (fun _=>rfl) h8 rfl (by first | decide | simp))]; rw [(show Qx (Qi (v1.set (Int.toNat e) (⟨(⟨(Int.tmod ((k1:Int)+1) (v5.length:Int)),ce.spot.ran,ce.spot.opn⟩:Spt),ce.stood⟩:Car))) (((0+(Int.toNat e)*4)+0)+1) [.int .i64 0]=Qi ((v1.set (Int.toNat e) (⟨(⟨(Int.tmod ((k1:Int)+1) (v5.length:Int)),ce.spot.ran,ce.spot.opn⟩:Spt),ce.stood⟩:Car)).set (Int.toNat e) (⟨(⟨ce1.spot.block,0,ce1.spot.opn⟩:Spt),ce1.stood⟩:Car)) from QD cCar (s:=4) (k:=1) (fun _=>rfl) h12 rfl (by first | decide | simp))]; rw [(show Qx (Qi ((v1.set (Int.toNat e) (⟨(⟨(Int.tmod ((k1:Int)+1) (v5.length:Int)),ce.spot.ran,ce.spot.opn⟩:Spt),ce.stood⟩:Car)).set (Int.toNat e) (⟨(⟨ce1.spot.block,0,ce1.spot.opn⟩:Spt),ce1.stood⟩:Car))) ((0+(Int.toNat e)*4)+3) [.int .i64 0]=Qi (((v1.set (Int.toNat e) (⟨(⟨(Int.tmod ((k1:Int)+1) (v5.length:Int)),ce.spot.ran,ce.spot.opn⟩:Spt),ce.stood⟩:Car)).set (Int.toNat e) (⟨(⟨ce1.spot.block,0,ce1.spot.opn⟩:Spt),ce1.stood⟩:Car)).set (Int.toNat e) (⟨ce2.spot,0⟩:Car)) from QD cCar (s:=4) (k:=3) (fun _=>rfl) h14 rfl (by first | decide | simp))]; rw [(show Qx (rowB v2) (0+(Int.toNat (k1:Int))*1) [.bool false]=rowB (v2.set k1 false) from QD cB (s:=1) (k:=0) (fun _=>rfl) h11 rfl (by first | decide | simp))]
                       exact h
               · have h:=h.2 hc7
                 obtain ⟨h12,h⟩:=h
                 obtain ⟨ce1,h11,h⟩:=h
                 obtain ⟨h14,h⟩:=h
                 obtain ⟨ce2,h13,h⟩:=h
                 obtain ⟨eb1,h15,h⟩:=h
                 obtain ⟨q67_8,h⟩:=h
                 rcases bft ((Int.tmod ((k1:Int)+1) (v5.length:Int)) == 0) with hc8 | hc8
                 · have h:=h.1 (eq_of_beq hc8)
                   obtain ⟨q70_9,h⟩:=h
                   obtain ⟨q72_9,h⟩:=h
                   refine p78_1_6 c faults cars gos tick stopped wrecked rounds gone g1 g2 rd ops g3 k v5 k1 v0_8 v0_9 v1 v2 g5 oe se se1 eb se2 e ce be ce1 ce2 eb1 hE ⟨hc0,(Qp h1),rfl,rfl,(by exact rp cOI 1 0 1 ((Ya hc1) ▸ h1)),q7_2,rfl,q9_2,(⟨by decide,by decide⟩),(Qp h2),(rp Xf 2 0 2 h2),(u93 (QO se 1)),hc2,(⟨by decide,by decide⟩),(Qp h3),(rp Xf 2 0 2 h3),(u93 (QO se1 1)),hc3,(Qp h4),rfl,rfl,(rp cB 1 0 1 h4),hc4,(⟨by decide,by decide⟩),(QG h6 h5),(rp Xf 2 0 2 h5),(u93 (QO se2 0)),hc5,hc6,(Qp h7),(rp cI 1 0 1 h7),(QG h9 h8),rfl,(Qp h10),(rp cBk 4 1 1 h10),hc7,rfl,rfl,rfl,rfl,(rf cCar 4 0 1 h8),rfl,rfl,rfl,rfl,(by rw [(show Qx (Qi v1) (((0+(Int.toNat e)*4)+0)+0) [.int .i64 (Int.tmod ((k1:Int)+1) (v5.length:Int))]=Qi (v1.set (Int.toNat e) (⟨(⟨(Int.tmod ((k1:Int)+1) (v5.length:Int)),ce.spot.ran,ce.spot.opn⟩:Spt),ce.stood⟩:Car)) from QD cCar (s:=4) (k:=0) (fun _=>rfl) h8 rfl (by first | decide | simp))]; exact rf cCar 4 1 1 h11),rfl,rfl,rfl,(by rw [(show Qx (Qi v1) (((0+(Int.toNat e)*4)+0)+0) [.int .i64 (Int.tmod ((k1:Int)+1) (v5.length:Int))]=Qi (v1.set (Int.toNat e) (⟨(⟨(Int.tmod ((k1:Int)+1) (v5.length:Int)),ce.spot.ran,ce.spot.opn⟩:Spt),ce.stood⟩:Car)) from QD cCar (s:=4) (k:=0) (fun _=>rfl) h8 rfl (by first | decide | simp))]; rw [(show Qx (Qi (v1.set (Int.toNat e) (⟨(⟨(Int.tmod ((k1:Int)+1) (v5.length:Int)),ce.spot.ran,ce.spot.opn⟩:Spt),ce.stood⟩:Car))) (((0+(Int.toNat e)*4)+0)+1) [.int .i64 0]=Qi ((v1.set (Int.toNat e) (⟨(⟨(Int.tmod ((k1:Int)+1) (v5.length:Int)),ce.spot.ran,ce.spot.opn⟩:Spt),ce.stood⟩:Car)).set (Int.toNat e) (⟨(⟨ce1.spot.block,0,ce1.spot.opn⟩:Spt),ce1.stood⟩:Car)) from QD cCar (s:=4) (k:=1) (fun _=>rfl) h11 rfl (by first | decide | simp))]; exact rf cCar 4 3 1 h13),rfl,(Qp h15),rfl,(rf cB 1 0 1 h15),rfl,q67_8,(by decide),hc8,q70_9,(by decide),q72_9,trivial⟩ ?_
                   have h:=(h g5)
                   simp only [YF,Vw,List.length_set] at h
                   rw [(show Qx (Qi v1) (((0+(Int.toNat e)*4)+0)+0) [.int .i64 (Int.tmod ((k1:Int)+1) (v5.length:Int))]=Qi (v1.set (Int.toNat e) (⟨(⟨(Int.tmod ((k1:Int)+1) (v5.length:Int)),ce.spot.ran,ce.spot.opn⟩:Spt),ce.stood⟩:Car)) from QD cCar (s:=4) (k:=0) (fun _=>rfl) h8 rfl (by first | decide | simp))]; rw [(show Qx (Qi (v1.set (Int.toNat e) (⟨(⟨(Int.tmod ((k1:Int)+1) (v5.length:Int)),ce.spot.ran,ce.spot.opn⟩:Spt),ce.stood⟩:Car))) (((0+(Int.toNat e)*4)+0)+1) [.int .i64 0]=Qi ((v1.set (Int.toNat e) (⟨(⟨(Int.tmod ((k1:Int)+1) (v5.length:Int)),ce.spot.ran,ce.spot.opn⟩:Spt),ce.stood⟩:Car)).set (Int.toNat e) (⟨(⟨ce1.spot.block,0,ce1.spot.opn⟩:Spt),ce1.stood⟩:Car)) from QD cCar (s:=4) (k:=1) (fun _=>rfl) h11 rfl (by first | decide | simp))]; rw [(show Qx (Qi ((v1.set (Int.toNat e) (⟨(⟨(Int.tmod ((k1:Int)+1) (v5.length:Int)),ce.spot.ran,ce.spot.opn⟩:Spt),ce.stood⟩:Car)).set (Int.toNat e) (⟨(⟨ce1.spot.block,0,ce1.spot.opn⟩:Spt),ce1.stood⟩:Car))) ((0+(Int.toNat e)*4)+3) [.int .i64 0]=Qi (((v1.set (Int.toNat e) (⟨(⟨(Int.tmod ((k1:Int)+1) (v5.length:Int)),ce.spot.ran,ce.spot.opn⟩:Spt),ce.stood⟩:Car)).set (Int.toNat e) (⟨(⟨ce1.spot.block,0,ce1.spot.opn⟩:Spt),ce1.stood⟩:Car)).set (Int.toNat e) (⟨ce2.spot,0⟩:Car)) from QD cCar (s:=4) (k:=3) (fun _=>rfl) h13 rfl (by first | decide | simp))]; rw [(show Qx (rowB v2) (0+(Int.toNat (k1:Int))*1) [.bool false]=rowB (v2.set k1 false) from QD cB (s:=1) (k:=0) (fun _=>rfl) h15 rfl (by first | decide | simp))]
                   exact h
                 · have h:=h.2 (ne_of_beq_false hc8)
                   obtain ⟨q70_9,h⟩:=h
                   refine p78_1_7 c faults cars gos tick stopped wrecked rounds gone g1 g2 rd ops g3 k v5 k1 v0_8 v0_9 v1 v2 g5 oe se se1 eb se2 e ce be ce1 ce2 eb1 hE ⟨hc0,(Qp h1),rfl,rfl,(by exact rp cOI 1 0 1 ((Ya hc1) ▸ h1)),q7_2,rfl,q9_2,(⟨by decide,by decide⟩),(Qp h2),(rp Xf 2 0 2 h2),(u93 (QO se 1)),hc2,(⟨by decide,by decide⟩),(Qp h3),(rp Xf 2 0 2 h3),(u93 (QO se1 1)),hc3,(Qp h4),rfl,rfl,(rp cB 1 0 1 h4),hc4,(⟨by decide,by decide⟩),(QG h6 h5),(rp Xf 2 0 2 h5),(u93 (QO se2 0)),hc5,hc6,(Qp h7),(rp cI 1 0 1 h7),(QG h9 h8),rfl,(Qp h10),(rp cBk 4 1 1 h10),hc7,rfl,rfl,rfl,rfl,(rf cCar 4 0 1 h8),rfl,rfl,rfl,rfl,(by rw [(show Qx (Qi v1) (((0+(Int.toNat e)*4)+0)+0) [.int .i64 (Int.tmod ((k1:Int)+1) (v5.length:Int))]=Qi (v1.set (Int.toNat e) (⟨(⟨(Int.tmod ((k1:Int)+1) (v5.length:Int)),ce.spot.ran,ce.spot.opn⟩:Spt),ce.stood⟩:Car)) from QD cCar (s:=4) (k:=0) (fun _=>rfl) h8 rfl (by first | decide | simp))]; exact rf cCar 4 1 1 h11),rfl,rfl,rfl,(by rw [(show Qx (Qi v1) (((0+(Int.toNat e)*4)+0)+0) [.int .i64 (Int.tmod ((k1:Int)+1) (v5.length:Int))]=Qi (v1.set (Int.toNat e) (⟨(⟨(Int.tmod ((k1:Int)+1) (v5.length:Int)),ce.spot.ran,ce.spot.opn⟩:Spt),ce.stood⟩:Car)) from QD cCar (s:=4) (k:=0) (fun _=>rfl) h8 rfl (by first | decide | simp))]; rw [(show Qx (Qi (v1.set (Int.toNat e) (⟨(⟨(Int.tmod ((k1:Int)+1) (v5.length:Int)),ce.spot.ran,ce.spot.opn⟩:Spt),ce.stood⟩:Car))) (((0+(Int.toNat e)*4)+0)+1) [.int .i64 0]=Qi ((v1.set (Int.toNat e) (⟨(⟨(Int.tmod ((k1:Int)+1) (v5.length:Int)),ce.spot.ran,ce.spot.opn⟩:Spt),ce.stood⟩:Car)).set (Int.toNat e) (⟨(⟨ce1.spot.block,0,ce1.spot.opn⟩:Spt),ce1.stood⟩:Car)) from QD cCar (s:=4) (k:=1) (fun _=>rfl) h11 rfl (by first | decide | simp))]; exact rf cCar 4 3 1 h13),rfl,(Qp h15),rfl,(rf cB 1 0 1 h15),rfl,q67_8,(by decide),hc8,q70_9,trivial⟩ ?_
                   have h:=(h g5)
                   simp only [YF,Vw,List.length_set] at h
                   rw [(show Qx (Qi v1) (((0+(Int.toNat e)*4)+0)+0) [.int .i64 (Int.tmod ((k1:Int)+1) (v5.length:Int))]=Qi (v1.set (Int.toNat e) (⟨(⟨(Int.tmod ((k1:Int)+1) (v5.length:Int)),ce.spot.ran,ce.spot.opn⟩:Spt),ce.stood⟩:Car)) from QD cCar (s:=4) (k:=0) (fun _=>rfl) h8 rfl (by first | decide | simp))]; rw [(show Qx (Qi (v1.set (Int.toNat e) (⟨(⟨(Int.tmod ((k1:Int)+1) (v5.length:Int)),ce.spot.ran,ce.spot.opn⟩:Spt),ce.stood⟩:Car))) (((0+(Int.toNat e)*4)+0)+1) [.int .i64 0]=Qi ((v1.set (Int.toNat e) (⟨(⟨(Int.tmod ((k1:Int)+1) (v5.length:Int)),ce.spot.ran,ce.spot.opn⟩:Spt),ce.stood⟩:Car)).set (Int.toNat e) (⟨(⟨ce1.spot.block,0,ce1.spot.opn⟩:Spt),ce1.stood⟩:Car)) from QD cCar (s:=4) (k:=1) (fun _=>rfl) h11 rfl (by first | decide | simp))]; rw [(show Qx (Qi ((v1.set (Int.toNat e) (⟨(⟨(Int.tmod ((k1:Int)+1) (v5.length:Int)),ce.spot.ran,ce.spot.opn⟩:Spt),ce.stood⟩:Car)).set (Int.toNat e) (⟨(⟨ce1.spot.block,0,ce1.spot.opn⟩:Spt),ce1.stood⟩:Car))) ((0+(Int.toNat e)*4)+3) [.int .i64 0]=Qi (((v1.set (Int.toNat e) (⟨(⟨(Int.tmod ((k1:Int)+1) (v5.length:Int)),ce.spot.ran,ce.spot.opn⟩:Spt),ce.stood⟩:Car)).set (Int.toNat e) (⟨(⟨ce1.spot.block,0,ce1.spot.opn⟩:Spt),ce1.stood⟩:Car)).set (Int.toNat e) (⟨ce2.spot,0⟩:Car)) from QD cCar (s:=4) (k:=3) (fun _=>rfl) h13 rfl (by first | decide | simp))]; rw [(show Qx (rowB v2) (0+(Int.toNat (k1:Int))*1) [.bool false]=rowB (v2.set k1 false) from QD cB (s:=1) (k:=0) (fun _=>rfl) h15 rfl (by first | decide | simp))]
                   exact h
         · have h:=h.2 (bnF hc4)
           obtain ⟨q30_5,h⟩:=h
           exact p78_1_8 c faults cars gos tick stopped wrecked rounds gone g1 g2 rd ops g3 k v5 k1 v0_8 v0_9 v1 v2 g5 oe se se1 eb hE ⟨hc0,(Qp h1),rfl,rfl,(by exact rp cOI 1 0 1 ((Ya hc1) ▸ h1)),q7_2,rfl,q9_2,(⟨by decide,by decide⟩),(Qp h2),(rp Xf 2 0 2 h2),(u93 (QO se 1)),hc2,(⟨by decide,by decide⟩),(Qp h3),(rp Xf 2 0 2 h3),(u93 (QO se1 1)),hc3,(Qp h4),rfl,rfl,(rp cB 1 0 1 h4),hc4,rfl,rfl,q30_5,trivial⟩ (h g5)
       · have h:=h.2 hc3
         obtain ⟨q25_4,h⟩:=h
         exact p78_1_9 c faults cars gos tick stopped wrecked rounds gone g1 g2 rd ops g3 k v5 k1 v0_8 v0_9 v1 v2 g5 oe se se1 hE ⟨hc0,(Qp h1),rfl,rfl,(by exact rp cOI 1 0 1 ((Ya hc1) ▸ h1)),q7_2,rfl,q9_2,(⟨by decide,by decide⟩),(Qp h2),(rp Xf 2 0 2 h2),(u93 (QO se 1)),hc2,(⟨by decide,by decide⟩),(Qp h3),(rp Xf 2 0 2 h3),(u93 (QO se1 1)),hc3,rfl,rfl,rfl,q25_4,trivial⟩ (h g5)
     · have h:=h.2 hc2
       obtain ⟨q20_3,h⟩:=h
       exact p78_1_10 c faults cars gos tick stopped wrecked rounds gone g1 g2 rd ops g3 k v5 k1 v0_8 v0_9 v1 v2 g5 oe se hE ⟨hc0,(Qp h1),rfl,rfl,(by exact rp cOI 1 0 1 ((Ya hc1) ▸ h1)),q7_2,rfl,q9_2,(⟨by decide,by decide⟩),(Qp h2),(rp Xf 2 0 2 h2),(u93 (QO se 1)),hc2,rfl,rfl,rfl,rfl,q20_3,trivial⟩ (h g5)
   · have h:=h.2 hc1
     obtain ⟨q7_2,h⟩:=h
     obtain ⟨q9_2,h⟩:=h
     obtain ⟨se,h2,h⟩:=h
     rcases bft (Qu se 1) with hc2 | hc2
     · have h:=h.1 hc2
       obtain ⟨se1,h3,h⟩:=h
       rcases bft (Qu se1 1) with hc3 | hc3
       · have h:=h.1 hc3
         obtain ⟨eb,h4,h⟩:=h
         rcases bft (!eb) with hc4 | hc4
         · have h:=h.1 (bnT hc4)
           obtain ⟨h6,h⟩:=h
           obtain ⟨se2,h5,h⟩:=h
           rcases bft (!(Qu se2 0)) with hc5 | hc5
           · have h:=h.1 (bnT hc5)
             obtain ⟨q35_6,h⟩:=h
             exact p78_1_11 c faults cars gos tick stopped wrecked rounds gone g1 g2 rd ops g3 k v5 k1 v0_8 v0_9 v1 v2 g5 oe se se1 eb se2 hE ⟨hc0,(Qp h1),rfl,rfl,(by exact rp cOI 1 0 1 ((VC hc1) ▸ h1)),q7_2,rfl,q9_2,(⟨by decide,by decide⟩),(Qp h2),(rp Xf 2 0 2 h2),(u93 (QO se 1)),hc2,(⟨by decide,by decide⟩),(Qp h3),(rp Xf 2 0 2 h3),(u93 (QO se1 1)),hc3,(Qp h4),rfl,rfl,(rp cB 1 0 1 h4),hc4,(⟨by decide,by decide⟩),(QG h6 h5),(rp Xf 2 0 2 h5),(u93 (QO se2 0)),hc5,rfl,q35_6,trivial⟩ (h g5)
           · have h:=h.2 (bnF hc5)
             obtain ⟨q35_6,h⟩:=h
             exact p78_1_12 c faults cars gos tick stopped wrecked rounds gone g1 g2 rd ops g3 k v5 k1 v0_8 v0_9 v1 v2 g5 oe se se1 eb se2 hE ⟨hc0,(Qp h1),rfl,rfl,(by exact rp cOI 1 0 1 ((VC hc1) ▸ h1)),q7_2,rfl,q9_2,(⟨by decide,by decide⟩),(Qp h2),(rp Xf 2 0 2 h2),(u93 (QO se 1)),hc2,(⟨by decide,by decide⟩),(Qp h3),(rp Xf 2 0 2 h3),(u93 (QO se1 1)),hc3,(Qp h4),rfl,rfl,(rp cB 1 0 1 h4),hc4,(⟨by decide,by decide⟩),(QG h6 h5),(rp Xf 2 0 2 h5),(u93 (QO se2 0)),hc5,rfl,q35_6,trivial⟩ (h g5)
         · have h:=h.2 (bnF hc4)
           obtain ⟨q30_5,h⟩:=h
           exact p78_1_13 c faults cars gos tick stopped wrecked rounds gone g1 g2 rd ops g3 k v5 k1 v0_8 v0_9 v1 v2 g5 oe se se1 eb hE ⟨hc0,(Qp h1),rfl,rfl,(by exact rp cOI 1 0 1 ((VC hc1) ▸ h1)),q7_2,rfl,q9_2,(⟨by decide,by decide⟩),(Qp h2),(rp Xf 2 0 2 h2),(u93 (QO se 1)),hc2,(⟨by decide,by decide⟩),(Qp h3),(rp Xf 2 0 2 h3),(u93 (QO se1 1)),hc3,(Qp h4),rfl,rfl,(rp cB 1 0 1 h4),hc4,rfl,rfl,q30_5,trivial⟩ (h g5)
       · have h:=h.2 hc3
         obtain ⟨q25_4,h⟩:=h
         exact p78_1_14 c faults cars gos tick stopped wrecked rounds gone g1 g2 rd ops g3 k v5 k1 v0_8 v0_9 v1 v2 g5 oe se se1 hE ⟨hc0,(Qp h1),rfl,rfl,(by exact rp cOI 1 0 1 ((VC hc1) ▸ h1)),q7_2,rfl,q9_2,(⟨by decide,by decide⟩),(Qp h2),(rp Xf 2 0 2 h2),(u93 (QO se 1)),hc2,(⟨by decide,by decide⟩),(Qp h3),(rp Xf 2 0 2 h3),(u93 (QO se1 1)),hc3,rfl,rfl,rfl,q25_4,trivial⟩ (h g5)
     · have h:=h.2 hc2
       obtain ⟨q20_3,h⟩:=h
       exact p78_1_15 c faults cars gos tick stopped wrecked rounds gone g1 g2 rd ops g3 k v5 k1 v0_8 v0_9 v1 v2 g5 oe se hE ⟨hc0,(Qp h1),rfl,rfl,(by exact rp cOI 1 0 1 ((VC hc1) ▸ h1)),q7_2,rfl,q9_2,(⟨by decide,by decide⟩),(Qp h2),(rp Xf 2 0 2 h2),(u93 (QO se 1)),hc2,rfl,rfl,rfl,rfl,q20_3,trivial⟩ (h g5)
 · have h:=h.2 (odf hc0)
   obtain ⟨qe0,qe1,qe2,qe3⟩:=h
   exact p78_1_16 c faults cars gos tick stopped wrecked rounds gone g1 g2 rd ops g3 k v5 k1 v0_8 v0_9 v1 v2 g5 hE ⟨hc0,trivial⟩ (by try rfl) (by rw [qe0,qe1,qe2,qe3]; all_goals (first | rfl | (simp only [List.length_set]; done) | (simp only [List.length_set]; rfl)))
end Go.Proofs.Ytgdfkjjgdkejfaa
namespace Go.Proofs.Ytgdfkjjgdkejfaa
open Go Ax
open Go.Proofs
structure BrkIn (c:Cir) (cars0:List Car) (B:Int) (s:Brk):Prop where
 lc:s.cars.length=cars0.length
 lg:s.gos.length=c.blocks.length
 r:-B≤s.rounds∧s.rounds≤B
 g:-B≤s.gone∧s.gone≤B
theorem BrkIn.step {c:Cir} {cars0:List Car} {B:Int} {s:Brk} {rd:Rd4} {ops:List Bool} {b:Nat} (h:BrkIn c cars0 B s):BrkIn c cars0 (B+1) (YT c rd ops cars0 b s):=by
 obtain ⟨h1,h2,h3,h4⟩:=h
 have same:BrkIn c cars0 (B+1) s:=⟨h1,h2,by omega,by omega⟩
 unfold YT
 split
 · split
   · exact same
   · split
     · exact same
     · refine ⟨by simp [goB,h1],by simp [goB,h2],?_,?_⟩
       · simp only [goB]; split <;> omega
       · simp only [goB]; omega
 · exact same
theorem BrkIn.all {c:Cir} {cars0:List Car} {rd:Rd4} {ops:List Bool} {B:Int} {s:Brk} (h:BrkIn c cars0 B s):∀ {b:Nat},BrkIn c cars0 (B+b) (QP c rd ops cars0 b s)
 | 0=>by rw [show B+((0:Nat):Int)=B by omega]; exact h
 | b+1=>by
  have:=(BrkIn.all h (rd:=rd) (ops:=ops) (b:=b)).step (rd:=rd) (ops:=ops) (b:=b)
  rw [show B+((b+1:Nat):Int)=B+(b:Int)+1 by omega]; exact this
theorem tmod_next {c:Cir} {b:Nat} (h:0<c.blocks.length):Int.tmod ((b:Int)+1) (c.blocks.length:Int)=((YN c b:Nat):Int):=by
 rw [Int.tmod_eq_emod_of_nonneg (by omega),YN]; simp
theorem brake_ok (c:Cir) (faults:List Flt) (cars:List Car) (gos:List Bool) (tick stopped:Int) (wrecked:Bool) (rounds gone:Int) (g1 g2:Nat) (rd:Rd4) (ops:List Bool) (g3:Nat)
 (h:(Xx cars∧(∀ x ∈ cars,CarOk c x))∧RdOk c rd∧(cars.length≤1000000∧gos.length=c.blocks.length∧ops.length=c.blocks.length)∧(0<c.blocks.length∧c.blocks.length≤1000000)∧(-1000000000000≤rounds∧rounds≤1000000000000)∧(-1000000000000≤gone∧gone≤1000000000000)) :
 Lent Try.prog 78 [.ptr 0 0 0,.agg [.nilSl,.rsl (Qe rd.k1) 0 rd.k1.length,.rsl (Qe rd.k2) 0 rd.k2.length,.rsl (Qe rd.k3) 0 rd.k3.length],.sl 3 g3 0 ops.length 1] [⟨true,0,1,false,[.rsl (Qk c.blocks) 0 c.blocks.length,.rsl (rowI c.cars) 0 c.cars.length,.rsl (Qo faults) 0 faults.length,.sl 1 g1 0 cars.length 4,.sl 2 g2 0 gos.length 1,.int .i64 tick,.int .i64 stopped,.bool wrecked,.int .i64 rounds,.int .i64 gone],false⟩,⟨true,g1,4,true,(Qi cars),true⟩,⟨true,g2,1,true,(rowB gos),true⟩,⟨true,g3,1,true,(rowB ops),true⟩] (.tup []) [⟨true,0,1,false,[.rsl (Qk c.blocks) 0 c.blocks.length,.rsl (rowI c.cars) 0 c.cars.length,.rsl (Qo faults) 0 faults.length,.sl 1 g1 0 (QP c rd ops cars c.blocks.length ⟨cars,gos,rounds,gone⟩).cars.length 4,.sl 2 g2 0 (QP c rd ops cars c.blocks.length ⟨cars,gos,rounds,gone⟩).gos.length 1,.int .i64 tick,.int .i64 stopped,.bool wrecked,.int .i64 (QP c rd ops cars c.blocks.length ⟨cars,gos,rounds,gone⟩).rounds,.int .i64 (QP c rd ops cars c.blocks.length ⟨cars,gos,rounds,gone⟩).gone],false⟩,⟨true,g1,4,true,(Qi (QP c rd ops cars c.blocks.length ⟨cars,gos,rounds,gone⟩).cars),true⟩,⟨true,g2,1,true,(rowB (QP c rd ops cars c.blocks.length ⟨cars,gos,rounds,gone⟩).gos),true⟩,⟨true,g3,1,true,(rowB ops),true⟩]:=QaL _ Try.func78 f78b rfl rfl fun E hE=>by
 obtain ⟨⟨hns,hco⟩,hrd,⟨hl,hg,ho⟩,⟨hn0,hn1⟩,hr,hgn⟩:=h
 generalize hR:(QP c rd ops cars c.blocks.length ⟨cars,gos,rounds,gone⟩)=R at hE
 -- the cars that may go
 have go:∀ (b:Nat) (s:Brk),b<c.blocks.length→BrkIn c cars 1000001000000 s→(∀ s',s'=YT c rd ops cars b s→YF E c faults cars gos tick stopped wrecked rounds gone g1 g2 rd ops g3 c.blocks.length (qX cars c.blocks.length cars.length) (b+1) s'.rounds s'.gone s'.cars s'.gos) →
  YF E c faults cars gos tick stopped wrecked rounds gone g1 g2 rd ops g3 c.blocks.length (qX cars c.blocks.length cars.length) b s.rounds s.gone s.cars s.gos:=by
  intro b s hb hs nx
  have s1:rd.k2[b]?=some (rd.k2.getD b dD):=getD_some (by rw [hrd.l2]; exact hb)
  have s2:rd.k3[b]?=some (rd.k3.getD b dD):=getD_some (by rw [hrd.l3]; exact hb)
  have s3:ops[b]?=some (ops.getD b false):=getD_some (by rw [ho]; exact hb)
  have hnx:YN c b<c.blocks.length:=Nat.mod_lt _ hn0
  have s4:rd.k1[Int.toNat ((YN c b:Nat):Int)]?=some (rd.k1.getD (YN c b) dD):=getD_some (by rw [hrd.l1]; exact hnx)
  have s5:s.gos[b]?=some (s.gos.getD b false):=getD_some (by rw [hs.lg]; exact hb)
  have s6:c.blocks[b]?=some (c.blocks.getD b ⟨0,false,0,false⟩):=getD_some hb
  have r1:=hs.r
  have r2:=hs.g
  have stay:YT c rd ops cars b s=s→YF E c faults cars gos tick stopped wrecked rounds gone g1 g2 rd ops g3 c.blocks.length (qX cars c.blocks.length cars.length) (b+1) s.rounds s.gone s.cars s.gos:=fun h=>nx s h.symm
  have nofree:qj c rd ops b=false→YT c rd ops cars b s=s:=fun h=>by rw [YT,h]; rfl
  refine f78W1 c faults cars gos tick stopped wrecked rounds gone g1 g2 rd ops g3 _ _ b _ _ _ _ (rv:=()) hE ⟨fun _=>⟨_,qC hb,?_⟩,fun h=>by omega⟩
  rw [WK,tmod_next hn0]
  cases hc:QaV cars b cars.length with
  | none =>
   have st:YT c rd ops cars b s=s:=by unfold YT; rw [hc]; split <;> rfl
   have nx0:=stay st
   exact ⟨fun h=>by simp at h,fun _=>⟨by omega,by omega,_,s1,fun _=>⟨_,s2,fun _=>⟨_,s3,fun _=>⟨by omega,_,s4,fun _=>⟨by omega,nx0⟩,fun _=>⟨by omega,nx0⟩⟩,fun _=>⟨by omega,nx0⟩⟩,fun _=>⟨by omega,nx0⟩⟩,fun _=>⟨by omega,nx0⟩⟩⟩
  | some i =>
   obtain ⟨hi,-,-⟩:=We hc
   have hcar:s.cars[Int.toNat (i:Int)]?=some (s.cars.getD i dC):=getD_some (by rw [hs.lc]; exact hi)
   have hil:i<s.cars.length:=by rw [hs.lc]; exact hi
   have hset:∀ (l:List Car) (y:Car),l.length=s.cars.length→(l.set (Int.toNat (i:Int)) y)[Int.toNat (i:Int)]?=some y:=fun l y h=>List.getElem?_set_self (by rw [h]; exact hil)
   have mv:qj c rd ops b=true→qt c s b i=false→YF E c faults cars gos tick stopped wrecked rounds gone g1 g2 rd ops g3 c.blocks.length (qX cars c.blocks.length cars.length) (b+1) (if YN c b=0 then s.rounds+1 else s.rounds) (s.gone+1) (s.cars.set i ⟨⟨(YN c b:Nat),0,(s.cars.getD i dC).spot.opn⟩,0⟩) (s.gos.set b false):=fun h1 h2=>by
    have e:YT c rd ops cars b s=goB c s b i:=by unfold YT; rw [if_pos h1,hc]; simp only [h2]; simp
    have:=nx _ rfl
    rw [e] at this
    exact this
   have fr:∀ x1 x2 x3 x4,Qu (rd.k2.getD b dD) 1=x1→Qu (rd.k3.getD b dD) 1=x2→ops.getD b false=x3→Qu (rd.k1.getD (YN c b) dD) 0=x4→qj c rd ops b=(x1 && x2 && !x3 && x4):=fun x1 x2 x3 x4 e1 e2 e3 e4=>by rw [qj,e1,e2,e3,e4]
   refine ⟨fun _=>⟨by omega,by omega,_,s1,fun e1=>⟨_,s2,fun e2=>⟨_,s3,fun e3=>⟨by omega,_,s4,fun e4=>⟨by omega,stay (nofree (by rw [fr _ _ _ _ e1 e2 e3 e4]; rfl))⟩,fun e4=>?_⟩,fun e3=>⟨by omega,stay (nofree (by rw [qj,e3]; simp))⟩⟩,fun e2=>⟨by omega,stay (nofree (by rw [qj,e2]; simp))⟩⟩,fun e1=>⟨by omega,stay (nofree (by rw [qj,e1]; simp))⟩⟩,fun h=>by simp at h⟩
   have hfree:qj c rd ops b=true:=by rw [fr _ _ _ _ e1 e2 e3 e4]; rfl
   have wait:qt c s b i=true→YT c rd ops cars b s=s:=fun h=>by unfold YT; rw [if_pos hfree,hc]; simp only [h,if_true]
   refine ⟨fun h=>by simp at h,fun _=>⟨(i:Int),rfl,by omega,_,hcar,_,s6,fun st=>⟨_,s5,fun q=>⟨by omega,stay (wait (by rw [qt,st,q]; rfl))⟩,fun q=>⟨fun hw=>⟨by omega,stay (wait (by rw [qt,decide_eq_true hw]; simp [-List.getD_eq_getElem?_getD,st]))⟩,fun hw=>?_⟩⟩,fun st=>?_⟩⟩
   · have hm:=mv hfree (by rw [qt,q,decide_eq_false hw]; simp)
     refine ⟨by omega,_,hset _ _ rfl,by omega,_,hset _ _ (by simp),by omega,fun h0=>⟨by omega,by omega,?_⟩,fun h0=>⟨by omega,?_⟩⟩
     · rw [if_pos (by omega)] at hm
       simp only [List.set_set,Int.toNat_natCast]
       exact hm
     · rw [if_neg (by omega)] at hm
       simp only [List.set_set,Int.toNat_natCast]
       exact hm
   · have hm:=mv hfree (by rw [qt,st]; rfl)
     refine ⟨by omega,_,hset _ _ rfl,by omega,_,hset _ _ (by simp),_,s5,by omega,fun h0=>⟨by omega,by omega,?_⟩,fun h0=>⟨by omega,?_⟩⟩
     · rw [if_pos (by omega)] at hm
       simp only [List.set_set,Int.toNat_natCast]
       exact hm
     · rw [if_neg (by omega)] at hm
       simp only [List.set_set,Int.toNat_natCast]
       exact hm
 have hs0:BrkIn c cars 1000000000000 ⟨cars,gos,rounds,gone⟩:=⟨rfl,hg,hr,hgn⟩
 have loop:∀ (d b:Nat),b+d=c.blocks.length→YF E c faults cars gos tick stopped wrecked rounds gone g1 g2 rd ops g3 c.blocks.length (qX cars c.blocks.length cars.length) b (QP c rd ops cars b ⟨cars,gos,rounds,gone⟩).rounds (QP c rd ops cars b ⟨cars,gos,rounds,gone⟩).gone (QP c rd ops cars b ⟨cars,gos,rounds,gone⟩).cars (QP c rd ops cars b ⟨cars,gos,rounds,gone⟩).gos:=by
  intro d
  induction d with
  | zero =>
   intro b hb
   refine f78W1 c faults cars gos tick stopped wrecked rounds gone g1 g2 rd ops g3 _ _ b _ _ _ _ (rv:=()) hE ⟨fun h=>by omega,fun _=>?_⟩
   rw [show b=c.blocks.length by omega,hR]
   exact ⟨rfl,rfl,rfl,rfl⟩
  | succ d ih =>
   intro b hb
   have hin:=hs0.all (rd:=rd) (ops:=ops) (b:=b)
   refine go b _ (by omega) ⟨hin.lc,hin.lg,by have:=hin.r; omega,by have:=hin.g; omega⟩ fun s' hs'=>?_
   rw [hs']; exact ih (b+1) (by omega)
 -- where the cars are
 have here:∀ (d i:Nat),i+d=cars.length→f78G0 E c faults cars gos tick stopped wrecked rounds gone g1 g2 rd ops g3 (qX cars c.blocks.length i) i:=by
  intro d
  induction d with
  | zero =>
   intro i hi
   refine f78W0 c faults cars gos tick stopped wrecked rounds gone g1 g2 rd ops g3 _ i (rv:=()) hE ⟨fun h=>by omega,fun _=>?_⟩
   rw [WK,show i=cars.length by omega]
   exact loop c.blocks.length 0 (by omega)
  | succ d ih =>
   intro i hi
   have hx:cars[i]?=some (cars.getD i dC):=getD_some (by omega)
   have hin:=(hco _ (List.mem_of_getElem? hx)).inC
   have hbn:((Int.toNat (cars.getD i dC).spot.block:Nat):Int)=(cars.getD i dC).spot.block:=by have:=hin.1; omega
   have nx:=ih (i+1) (by omega)
   rw [← here_set hns (by omega) hbn.symm hin.2] at nx
   refine f78W0 c faults cars gos tick stopped wrecked rounds gone g1 g2 rd ops g3 _ i (rv:=()) hE ⟨fun _=>⟨_,hx,hin.1,_,qC hin.2,by rw [KL hns (by omega) hbn.symm]; rfl,by omega,nx⟩,fun h=>by omega⟩
 have h0:=here cars.length 0 (by omega)
 rw [here_zero] at h0
 exact f78W c faults cars gos tick stopped wrecked rounds gone g1 g2 rd ops g3 (rv:=()) hE ⟨by omega,h0⟩
end Go.Proofs.Ytgdfkjjgdkejfaa