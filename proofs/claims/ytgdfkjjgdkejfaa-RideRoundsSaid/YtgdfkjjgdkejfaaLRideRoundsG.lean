/- A part of the proof: several texts, one behind the other. -/
import Derived.Test.YtgdfkjjgdkejfaaLRideRoundsF
set_option linter.unusedVariables false
set_option linter.unusedSimpArgs false
set_option maxRecDepth 100000
namespace Go.Proofs.Ytgdfkjjgdkejfaa
open Go Ax
open Go.Proofs
/-! ### A nil slice,handed on with blocks of the caller's own -/
def LeC (a b:AV):Prop:=∀ (Z:Nat→Prop) (w:World) (C:Ctx) (c:Value),VR Z w C a c→VR Z w C b c
def LesC:List AV→List AV→Prop
 | [],[]=>True
 | a :: as',b :: bs=>LeC a b∧LesC as' bs
 | _,_=>False
theorem leC_rfl {a:AV}:LeC a a:=fun _ _ _ _ h=>h
theorem nil_leC {row:List AV} {off:Nat}:LeC .nilSl (.rsl row off 0):=fun _ _ _ _ h=>by cases h; exact .rsl0
theorem LesC.vrs {Z:Nat→Prop} {w:World} {C:Ctx}:∀ {as' bs:List AV} {vs:List Value},LesC as' bs→VRs Z w C as' vs→VRs Z w C bs vs
 | [],[],vs,_,h=>h
 | a :: as',b :: bs,[],_,h=>by have:=h.1; simp at this
 | a :: as',b :: bs,v :: vs,hl,h=>by
  have h1:VR Z w C a v:=h.2 0 a v rfl rfl
  have h2:VRs Z w C as' vs:=⟨by have:=h.1; simpa using this,fun i c v p q=>h.2 (i+1) c v (by simpa using p) (by simpa using q)⟩
  have h3:=LesC.vrs hl.2 h2
  refine ⟨by simp [h3.1],fun i c x p q=>?_⟩
  cases i with
  | zero=>simp at p q; subst p; subst q; exact hl.1 _ _ _ _ h1
  | succ i=>exact h3.2 i c x (by simpa using p) (by simpa using q)
 | [],b :: bs,_,hl,_=>hl.elim
 | a :: as',[],_,hl,_=>hl.elim
theorem LentF.leC {P:Program} {fv:AV} {args args':List AV} {bs bs2:List Blk} {res:AV} (h:LentF P fv args bs res bs2) (hl:LesC args' args):LentF P fv args' bs res bs2 :=
 fun Z w C cf cargs hm hf ha=>h Z w C cf cargs hm hf (hl.vrs ha)
def prsN (c:Cir) (tick:Int):Nat→List Prs
 | 0=>[]
 | b+1=>prsN c tick b++(if (bkAt c (b:Int)).station=true then [⟨tick,3,(b:Int)⟩] else [])
def prsI (c:Cir) (tick:Int):List Prs:=prsN c tick c.blocks.length
theorem prsN_len {c:Cir} {tick:Int}:∀ {b:Nat},(prsN c tick b).length≤b
 | 0=>Nat.le_refl 0
 | b+1=>by
  have:=prsN_len (c:=c) (tick:=tick) (b:=b)
  simp only [prsN,List.length_append]
  split <;> simp <;> omega
theorem prsN_in {c:Cir} {tick:Int}:∀ {b:Nat},b≤c.blocks.length→PrsIn c (prsN c tick b)
 | 0,_=>fun p hp=>by cases hp
 | b+1,h=>fun p hp=>by
  simp only [prsN] at hp
  rcases List.mem_append.1 hp with hp | hp
  · exact prsN_in (by omega) p hp
  · split at hp
    · simp only [List.mem_singleton] at hp
      subst hp
      exact ⟨⟨by show (0:Int)≤(b:Int); omega,by show Int.toNat (b:Int)<_; omega⟩,.inr (.inr rfl)⟩
    · cases hp
theorem bk_nat {c:Cir} {b:Nat} (h:b<c.blocks.length):c.blocks[b]?=some (bkAt c (b:Int)):=by
 have:=bk_at (c:=c) (b:=(b:Int)) ⟨by omega,by simpa using h⟩
 rw [Int.toNat_natCast] at this
 exact this
def FullIn (R:Rn) (tick:Int):Prop:=RnIn R∧(1≤R.c.blocks.length∧R.c.blocks.length≤1000000)∧RunIn R tick (prsI R.c tick) []
def fullR (R:Rn) (tick:Int):Rn:=tickR R tick (prsI R.c tick) []
def fullB (R:Rn) (tick:Int):Bool:=match carO R.spots ((R.c.blocks.length:Int) - 1) with
 | some i=>((fullR R tick).spots.getD i dS).block == 0
 | none=>false
/-- The ride,with Go pressed in each tick. -/
def fullT (c:Cir) (n:Nat):Trk:=runT (newT c []) (fun t=>prsI c (t:Int)) n
def roundsK (c:Cir) (ticks:Int):Int × Int:=if checkT c ticks=0 then ((fullT c (Int.toNat ticks)).rounds,0) else (0,checkT c ticks)
theorem checkP_nil {c:Cir} {ticks:Int}:checkP c ticks [] []=checkT c ticks:=by
 unfold checkP checkT; simp
theorem tick_len {T:Trk} {l:List Prs} (h:StepIn T l) (ht:TT T):(stepT T l).cars.length=T.cars.length:=by
 obtain ⟨B,h1,h2,h3,h4⟩:=h
 unfold stepT
 split
 · rfl
 · rename_i hw
   show (actT T l).cars.length=_
   unfold actT
   split
   · have hp:=pres_ok (l:=l) h1 (Bool.eq_false_iff.2 hw)
     have hin:BrkIn T.c (pressT T l).1 (1000000*B) ⟨(pressT T l).1,(pressT T l).2.1,T.rounds,T.gone⟩:=⟨rfl,hp.lg,by have:=h1.rd; simp only; omega,by have:=h1.gn; simp only; omega⟩
     have hall:=hin.all (rd:=readI (midT T)) (ops:=(pressT T l).2.2) (b:=T.c.blocks.length)
     show (brakeN _ _ _ _ _ _).cars.length=_
     rw [hall.lc,hp.lc]
   · exact rollT_len
/-! ### Rounds are counted where a car comes into the block 0 -/
def rndO (c:Cir) (cars:List Car) (q:Nat→Bool):Int:=match carAt cars (c.blocks.length - 1) cars.length with
 | some i=>if q i=true then 1 else 0
 | none=>0
theorem brake_rounds {c:Cir} {rd:Rd4} {ops:List Bool} {s0:Brk} (h2:2≤c.blocks.length) (hn:NoShare s0.cars) (hin:∀ x ∈ s0.cars,InC c x.spot.block) (hg:s0.gos.length=c.blocks.length):∀ {b:Nat},b≤c.blocks.length →
 (brakeN c rd ops s0.cars b s0).rounds=s0.rounds+(if b=c.blocks.length then rndO c s0.cars (goS c rd ops s0) else 0)
 | 0,_=>by rw [if_neg (by omega)]; simp [brakeN]
 | b+1,hb=>by
  have ih:=brake_rounds h2 hn hin hg (rd:=rd) (ops:=ops) (b:=b) (by omega)
  obtain ⟨h1,he,h3⟩:=brake_each hn hin hg (rd:=rd) (ops:=ops) (b:=b) (by omega)
  rw [if_neg (by omega)] at ih
  simp only [brakeN]
  generalize brakeN c rd ops s0.cars b s0=s at ih h1 he h3
  by_cases hlast:b+1=c.blocks.length
  · rw [if_pos hlast]
    have hb1:c.blocks.length - 1=b:=by omega
    have hnx:nextB c b=0:=by rw [nextB,hlast,Nat.mod_self]
    unfold brakeB rndO
    rw [hb1]
    cases hc:carAt s0.cars b s0.cars.length with
    | none =>
     simp only
     split
     · omega
     · omega
    | some i =>
     simp only
     obtain ⟨hi,hib,-⟩:=firstN_spec hc
     have hib:(s0.cars.getD i dC).spot.block=(b:Int):=by simpa using hib
     have hibn:Int.toNat (s0.cars.getD i dC).spot.block=b:=by omega
     have hsi:s.cars.getD i dC=s0.cars.getD i dC:=by rw [he i hi,if_neg (by omega)]
     have hw:waitB c s b i=waitB c s0 b i:=by simp only [waitB,hsi,h3 b (Nat.le_refl b)]
     have hgo:goS c rd ops s0 i=(freeB c rd ops b && !(waitB c s b i)):=by rw [goS,hibn,hw]
     rw [hgo]
     split
     · rename_i hf
       split
       · rename_i hwt; rw [if_neg (by rw [hwt]; simp)]; omega
       · rename_i hwt
         rw [if_pos (by rw [hf,Bool.eq_false_iff.2 hwt]; rfl)]
         simp only [goB]
         rw [if_pos hnx]; omega
     · rename_i hf; rw [if_neg (by rw [Bool.eq_false_iff.2 hf]; simp)]; omega
  · rw [if_neg hlast]
    have hnx:nextB c b ≠ 0:=by rw [nextB,Nat.mod_eq_of_lt (by omega)]; omega
    unfold brakeB
    split
    · split
      · omega
      · split
        · omega
        · simp only [goB]; rw [if_neg hnx]; omega
    · omega
theorem carAt_congr {a b:List Car} {k:Nat} (hl:a.length=b.length) (h:∀ i,i<a.length→(a.getD i dC).spot.block=(b.getD i dC).spot.block):carAt a k a.length=carAt b k b.length:=by
 rw [carAt,carAt,← hl]
 exact firstN_congr fun i hi=>by rw [h i hi]
theorem rounds_step {T:Trk} {B:Int} {l:List Prs} (h:Inv T B) (hpr:PrsIn T.c l) (h2:2≤T.c.blocks.length) :
 (stepT T l).rounds=T.rounds+rndO T.c T.cars (fun i=>((stepT T l).cars.getD i dC).spot.block == 0):=by
 have hrb:∀ i,i<T.cars.length→((rollT T).getD i dC).spot.block=(T.cars.getD i dC).spot.block:=fun i hi=>by
  unfold rollT
  split
  · rw [getD_map (d:=dC) hi,roll_block]
  · rfl
 rw [h.eq]
 dsimp only
 by_cases hs:stopT T<0
 · have hsp:=h.nosplit hs
   have hprd:Prd T.c (rollT T) (pressT T l):=Prd.fold (T:=midT T) h.f1 hsp (rollT_ns h.ns) hpr ⟨rfl,fun i hi=>⟨rfl,rfl,rfl⟩,fun i hi ho=>.inl ho⟩ (by simp [midT])
   have hp:=pres_ok (l:=l) h.tok h.w
   have e:actT T l=brakeT T l:=by unfold actT; rw [if_pos hs]
   have hns:NoShare (⟨(pressT T l).1,(pressT T l).2.1,T.rounds,T.gone⟩:Brk).cars:=hp.ns
   have hin:∀ x ∈ (⟨(pressT T l).1,(pressT T l).2.1,T.rounds,T.gone⟩:Brk).cars,InC T.c x.spot.block:=fun x hx=>(hp.car x hx).inC
   have hbr:=(brake_each (c:=T.c) (rd:=readI (midT T)) (ops:=(pressT T l).2.2) hns hin hp.lg (b:=T.c.blocks.length) (Nat.le_refl _)).2.1
   have hrn:=brake_rounds (c:=T.c) (rd:=readI (midT T)) (ops:=(pressT T l).2.2) h2 hns hin hp.lg (b:=T.c.blocks.length) (Nat.le_refl _)
   rw [if_pos rfl] at hrn
   rw [e]
   show (brakeN _ _ _ _ _ _).rounds=_
   rw [hrn]
   dsimp only
   congr 1
   have hlen:(pressT T l).1.length=T.cars.length:=by rw [hprd.len,rollT_len]
   have hbk:∀ i,i<(pressT T l).1.length→((pressT T l).1.getD i dC).spot.block=(T.cars.getD i dC).spot.block:=fun i hi=>by
    have hi':i<(rollT T).length:=by rw [← hprd.len]; exact hi
    rw [(hprd.same i hi').1,hrb i (by rw [← hlen]; exact hi)]
   unfold rndO
   rw [carAt_congr hlen hbk]
   cases hc:carAt T.cars (T.c.blocks.length - 1) T.cars.length with
   | none=>rfl
   | some i =>
    simp only
    obtain ⟨hi,hib,-⟩:=firstN_spec hc
    have hib:(T.cars.getD i dC).spot.block=((T.c.blocks.length - 1:Nat):Int):=by simpa using hib
    have hbi:=hbk i (by rw [hlen]; exact hi)
    have hci:=hbr i (by rw [hlen]; exact hi)
    dsimp only at hci
    have hcars:((brakeT T l).cars.getD i dC)=if Int.toNat ((pressT T l).1.getD i dC).spot.block<T.c.blocks.length∧goS T.c (readI (midT T)) (pressT T l).2.2 ⟨(pressT T l).1,(pressT T l).2.1,T.rounds,T.gone⟩ i=true then mvC T.c ((pressT T l).1.getD i dC) else (pressT T l).1.getD i dC:=hci
    by_cases hg:goS T.c (readI (midT T)) (pressT T l).2.2 ⟨(pressT T l).1,(pressT T l).2.1,T.rounds,T.gone⟩ i=true
    · rw [if_pos hg,if_pos]
      rw [hcars,if_pos ⟨by rw [hbi,hib]; omega,hg⟩]
      simp only [mvC,hbi,hib,nextB]
      rw [show Int.toNat ((T.c.blocks.length - 1:Nat):Int)+1=T.c.blocks.length by omega,Nat.mod_self]; rfl
    · rw [if_neg hg,if_neg]
      rw [hcars,if_neg (fun h=>hg h.2),hbi,hib]
      simp only [beq_iff_eq]; omega
 · have e:actT T l=⟨rollT T,T.gos,T.rounds,T.gone⟩:=by unfold actT; rw [if_neg hs]
   rw [e]
   dsimp only
   unfold rndO
   cases hc:carAt T.cars (T.c.blocks.length - 1) T.cars.length with
   | none=>simp
   | some i =>
    simp only
    obtain ⟨hi,hib,-⟩:=firstN_spec hc
    have hib:(T.cars.getD i dC).spot.block=((T.c.blocks.length - 1:Nat):Int):=by simpa using hib
    rw [if_neg (show ¬ (((rollT T).getD i dC).spot.block == 0)=true by rw [hrb i hi,hib]; simp only [beq_iff_eq]; omega)]; simp
theorem full_inv {c:Cir} (h:ChkIn c) {n:Nat}:Inv (fullT c n) (30+n):=(new_inv h (by simp) (by simp)).run fun t=>prsN_in (Nat.le_refl _)
theorem full_c {c:Cir} {n:Nat}:(fullT c n).c=c:=run_c
theorem full_f {c:Cir} {n:Nat}:(fullT c n).faults=[]:=run_f
theorem full_tick {c:Cir} {n:Nat}:(fullT c n).tick=(n:Int):=by rw [fullT,run_t]; simp [newT]
theorem full_stepIn {c:Cir} (h:ChkIn c) {n:Nat} (hn:n≤90000):StepIn (fullT c n) (prsI c (n:Int)):=⟨30+n,(full_inv h).tok,by omega,by rw [full_c]; exact prsN_in (Nat.le_refl _),by have:=prsN_len (c:=c) (tick:=(n:Int)) (b:=c.blocks.length); have:=h.nb; unfold prsI; omega⟩
theorem full_next {c:Cir} (h:ChkIn c) {n:Nat} (hn:n≤90000):FullIn (runOf (fullT c n)) (n:Int)∧fullR (runOf (fullT c n)) (n:Int)=runOf (fullT c (n+1))∧(fullT c (n+1)).rounds=(fullT c n).rounds+(if fullB (runOf (fullT c n)) (n:Int)=true then 1 else 0):=by
 have hinv:=full_inv h (n:=n)
 have hc:(runOf (fullT c n)).c=c:=full_c
 have h1:=runIn_of (full_stepIn h hn) hinv.tt
 have h2:=tickR_run (l:=prsI c (n:Int)) hinv.tt (by rw [full_tick]; omega)
 rw [full_tick,full_f] at h1 h2
 have hnb:=h.nb
 have e2:fullR (runOf (fullT c n)) (n:Int)=runOf (fullT c (n+1)):=by rw [fullR,hc]; exact h2
 refine ⟨⟨⟨by simp only [runOf,List.length_map]; exact hinv.tok.lc,fun x hx=>?_⟩,by rw [hc]; omega,by rw [hc]; exact h1⟩,e2,?_⟩
 · obtain ⟨y,hy,rfl⟩:=List.mem_map.1 hx
   exact (hinv.tok.car y hy).inC
 · have:=rounds_step (l:=prsI c (n:Int)) hinv (by rw [full_c]; exact prsN_in (Nat.le_refl _)) (by rw [full_c]; omega)
   rw [show fullT c (n+1)=stepT (fullT c n) (prsI c (n:Int)) from rfl,this]
   congr 1
   unfold fullB rndO
   rw [e2,hc,full_c]
   rw [show ((c.blocks.length:Int) - 1)=((c.blocks.length - 1:Nat):Int) by omega]
   rw [show (runOf (fullT c n)).spots=(fullT c n).cars.map Car.spot from rfl,carO_map]
   cases hcr:carAt (fullT c n).cars (c.blocks.length - 1) (fullT c n).cars.length with
   | none=>rfl
   | some i =>
    simp only
    have hi:=(firstN_spec hcr).1
    have hl:(fullT c (n+1)).cars.length=(fullT c n).cars.length:=by
     show (stepT (fullT c n) (prsI c (n:Int))).cars.length=_
     rw [hinv.eq]
     exact (hinv.act (l:=prsI c (n:Int)) (by rw [full_c]; exact prsN_in (Nat.le_refl _))).2.2
    have hs:(runOf (fullT c (n+1))).spots.getD i dS=((fullT c (n+1)).cars.getD i dC).spot:=spot_getD (by rw [hl]; exact hi)
    simp only [hs]
    rfl
theorem f55b:Try.f55.body=some (bodyAt Try.prog 55):=by kernel_rfl
def f55K0 (P:Program):List Item:=kAt 400 [.code (bodyAt P 55)] [.stop]
def f55S0 (c:Cir) (tick:Int) (v1:List Prs) (i:Nat) (g1:Nat):St:=⟨([J,.int .i64 tick,J,J,.sl 1 g1 0 v1.length 3,J,J,J,.rsl (rowBk c.blocks) 0 c.blocks.length,.int .i64 (c.blocks.length:Int),.int .i64 (i:Int)]++Js 14),[⟨true,0,1,true,[.rsl (rowBk c.blocks) 0 c.blocks.length,.rsl (rowI c.cars) 0 c.cars.length],false⟩,⟨true,g1,3,true,(rowPrs v1),true⟩]⟩
def f55G0 (E:Env) (c:Cir) (tick:Int) (v1:List Prs) (i:Nat):Prop:=∀ g1:Nat,G Try.prog E (f55K0 Try.prog) (f55S0 c tick v1 i g1)
abbrev z55_1 (c:Cir):List AV:=[.rsl (rowBk c.blocks) 0 c.blocks.length,.rsl (rowI c.cars) 0 c.cars.length]
theorem p55_start_0 (c:Cir) (tick:Int) {E:Env} {rv:AV} (hE:PureE Try.prog 55 rv E) (ho:AllP [])
 (hg:G Try.prog E (f55K0 Try.prog) ⟨([J,.int .i64 tick,J,J,.sl 1 0 0 0 3,J,J,J,.rsl (rowBk c.blocks) 0 c.blocks.length,.int .i64 (c.blocks.length:Int),.int .i64 0]++Js 14),[⟨true,0,1,true,(z55_1 c),false⟩,⟨true,0,3,true,[],true⟩]⟩):G Try.prog E [.code (bodyAt Try.prog 55)] ⟨[.agg (z55_1 c),.int .i64 tick]++unds (Try.f55.ntmps - 2),[]⟩ :=
 segC_step (n:=400) (ds:=[(4,3)]) (cs:=[]) (live:=[1,4,8,9,10]) (m:=2) (evs:=[.stop]) (obs:=_) hE.2.1 (hE.nogh _) mixed (by kernel_rfl) ho hg
theorem f55W (c:Cir) (tick:Int) {E:Env} {rv:(List Prs)} (hE:PureE Try.prog 55 (.rsl (rowPrs rv) 0 rv.length) E)
 (h:f55G0 E c tick ([]) 0):G Try.prog E [.code (bodyAt Try.prog 55)] ⟨[.agg [.rsl (rowBk c.blocks) 0 c.blocks.length,.rsl (rowI c.cars) 0 c.cars.length],.int .i64 tick]++unds (Try.f55.ntmps - 2),[]⟩:=by
 exact p55_start_0 c tick hE trivial (h 0)
theorem p55_0_0 (c:Cir) (tick:Int) (v1:List Prs) (i:Nat) (g1:Nat) (be:Bk) {E:Env} {rv:AV} (hE:PureE Try.prog 55 rv E) (ho:AllP [(decide ((i:Int)<(c.blocks.length:Int)))=true,0≤(i:Int)∧(i:Int)<(c.blocks.length:Int),((rowBk c.blocks).drop (0+(Int.toNat (i:Int))*4)).take 4=[.int .i64 be.time,.bool be.station,.int .i64 be.hold,.bool be.walk],4≤4,be.station=true,g1=g1,(0+(v1.length*3))=(rowPrs v1).length,(v1.length+1)≤2147483648,0=0,InR .i64 ((i:Int)+1)])
 (hg:G Try.prog E (f55K0 Try.prog) ⟨([J,.int .i64 tick,J,J,.sl 1 (g1+1) 0 (v1.length+1) 3,J,J,J,.rsl (rowBk c.blocks) 0 c.blocks.length,.int .i64 (c.blocks.length:Int),.int .i64 ((i:Int)+1)]++Js 14),[⟨true,0,1,true,(z55_1 c),false⟩,⟨true,(g1+1),3,true,((rowPrs v1)++[.int .i64 tick,.int .i64 3,.int .i64 (i:Int)]),true⟩]⟩):G Try.prog E (f55K0 Try.prog) (f55S0 c tick v1 i g1) :=
 segC_step (n:=400) (ds:=[]) (cs:=[]) (live:=[1,4,8,9,10]) (m:=2) (evs:=[.b true,.ld (.agg [.int .i64 be.time,.bool be.station,.int .i64 be.hold,.bool be.walk]),.b true,.stop]) (obs:=_) hE.2.1 (hE.nogh _) mixed (by kernel_rfl) ho hg
theorem p55_0_1 (c:Cir) (tick:Int) (v1:List Prs) (i:Nat) (g1:Nat) (be:Bk) {E:Env} {rv:AV} (hE:PureE Try.prog 55 rv E) (ho:AllP [(decide ((i:Int)<(c.blocks.length:Int)))=true,0≤(i:Int)∧(i:Int)<(c.blocks.length:Int),((rowBk c.blocks).drop (0+(Int.toNat (i:Int))*4)).take 4=[.int .i64 be.time,.bool be.station,.int .i64 be.hold,.bool be.walk],4≤4,be.station=false,InR .i64 ((i:Int)+1)])
 (hg:G Try.prog E (f55K0 Try.prog) ⟨([J,.int .i64 tick,J,J,.sl 1 g1 0 v1.length 3,J,J,J,.rsl (rowBk c.blocks) 0 c.blocks.length,.int .i64 (c.blocks.length:Int),.int .i64 ((i:Int)+1)]++Js 14),[⟨true,0,1,true,(z55_1 c),false⟩,⟨true,g1,3,true,(rowPrs v1),true⟩]⟩):G Try.prog E (f55K0 Try.prog) (f55S0 c tick v1 i g1) :=
 segC_step (n:=400) (ds:=[]) (cs:=[]) (live:=[1,4,8,9,10]) (m:=2) (evs:=[.b true,.ld (.agg [.int .i64 be.time,.bool be.station,.int .i64 be.hold,.bool be.walk]),.b false,.stop]) (obs:=_) hE.2.1 (hE.nogh _) mixed (by kernel_rfl) ho hg
theorem p55_0_2 (c:Cir) (tick:Int) (v1:List Prs) (i:Nat) (g1:Nat) {E:Env} {res:AV} (hE:PureE Try.prog 55 res E) (ho:AllP [(decide ((i:Int)<(c.blocks.length:Int)))=false,g1=g1])
 (hr:AvLe (.rsl (rowPrs v1) 0 v1.length) res):G Try.prog E (f55K0 Try.prog) (f55S0 c tick v1 i g1) :=
 end_stepL (n:=400) (evs:=[.b false]) (obs:=_) hE Try.func55 mixed (by kernel_rfl) ho hr
theorem f55W0 (c:Cir) (tick:Int) (v1:List Prs) (i:Nat) {E:Env} {rv:(List Prs)} (hE:PureE Try.prog 55 (.rsl (rowPrs rv) 0 rv.length) E)
 (h:(((i:Int)<(c.blocks.length:Int)→(∃ be:Bk,c.blocks[i]?=some be∧((be.station=true→((v1.length+1)≤2147483648∧((-9223372036854775808≤(i:Int)+1∧(i:Int)+1≤9223372036854775807)∧f55G0 E c tick (v1++[(⟨tick,3,(i:Int)⟩:Prs)]) (i+1))))∧(be.station=false→((-9223372036854775808≤(i:Int)+1∧(i:Int)+1≤9223372036854775807)∧f55G0 E c tick v1 (i+1))))))∧(¬ ((i:Int)<(c.blocks.length:Int))→rv=v1))):f55G0 E c tick v1 i:=by
 intro g1
 rcases Bool.eq_false_or_eq_true (decide ((i:Int)<(c.blocks.length:Int))) with hc0 | hc0
 · have h:=h.1 (of_decide_eq_true hc0)
   obtain ⟨be,h1,h⟩:=h
   rcases Bool.eq_false_or_eq_true be.station with hc1 | hc1
   · have h:=h.1 hc1
     obtain ⟨h2,h⟩:=h
     obtain ⟨q10_2,h⟩:=h
     refine p55_0_0 c tick v1 i g1 be hE ⟨hc0,(idx_ok h1),(row_part cBk (s:=4) (k:=0) (m:=4) (fun _=>rfl) (by decide) h1),(by decide),hc1,rfl,(by have hx:=row_len cPrs (s:=3) (fun _=>rfl) v1; simp only [rowPrs] at hx ⊢; rw [hx]; simp),h2,rfl,q10_2,trivial⟩ ?_
     rw [(show rowPrs v1++[.int .i64 tick,.int .i64 3,.int .i64 (i:Int)]=rowPrs (v1++[(⟨tick,3,(i:Int)⟩:Prs)]) from (row_app cPrs v1 [(⟨tick,3,(i:Int)⟩:Prs)]).symm)]; rw [(show (v1.length+1)=(v1++[(⟨tick,3,(i:Int)⟩:Prs)]).length from by simp)]; exact (h (g1+1))
   · have h:=h.2 hc1
     obtain ⟨q6_2,h⟩:=h
     exact p55_0_1 c tick v1 i g1 be hE ⟨hc0,(idx_ok h1),(row_part cBk (s:=4) (k:=0) (m:=4) (fun _=>rfl) (by decide) h1),(by decide),hc1,q6_2,trivial⟩ (h g1)
 · have h:=h.2 (of_decide_eq_false hc0)
   exact p55_0_2 c tick v1 i g1 hE ⟨hc0,rfl,trivial⟩ (AvLe.of_eq (by rw [h]; try rfl))
theorem f84b:Try.f84.body=some (bodyAt Try.prog 84):=by kernel_rfl
def f84K0 (P:Program):List Item:=kAt 400 [.code (bodyAt P 84)] [.stop]
def f84S0 (c:Cir) (tick:Int) (v1:List Prs) (b:Nat) (g1:Nat):St:=⟨([J,.int .i64 tick,.ptr 0 0 0,J,J,.sl 1 g1 0 v1.length 3,.int .i64 (b:Int)]++Js 20),[⟨true,0,1,true,[.rsl (rowBk c.blocks) 0 c.blocks.length,.rsl (rowI c.cars) 0 c.cars.length],false⟩,⟨true,g1,3,true,(rowPrs v1),true⟩]⟩
def f84G0 (E:Env) (c:Cir) (tick:Int) (v1:List Prs) (b:Nat):Prop:=∀ g1:Nat,G Try.prog E (f84K0 Try.prog) (f84S0 c tick v1 b g1)
abbrev z84_1 (c:Cir):List AV:=[.rsl (rowBk c.blocks) 0 c.blocks.length,.rsl (rowI c.cars) 0 c.cars.length]
theorem p84_start_0 (c:Cir) (tick:Int) {E:Env} {rv:AV} (hE:PureE Try.prog 84 rv E) (ho:AllP [])
 (hg:G Try.prog E (f84K0 Try.prog) ⟨([J,.int .i64 tick,.ptr 0 0 0,J,J,.sl 1 0 0 0 3,.int .i64 0]++Js 20),[⟨true,0,1,true,(z84_1 c),false⟩,⟨true,0,3,true,[],true⟩]⟩):G Try.prog E [.code (bodyAt Try.prog 84)] ⟨[.agg (z84_1 c),.int .i64 tick]++unds (Try.f84.ntmps - 2),[]⟩ :=
 segC_step (n:=400) (ds:=[(5,3)]) (cs:=[]) (live:=[1,2,5,6]) (m:=2) (evs:=[.stop]) (obs:=_) hE.2.1 (hE.nogh _) mixed (by kernel_rfl) ho hg
theorem f84W (c:Cir) (tick:Int) {E:Env} {rv:(List Prs)} (hE:PureE Try.prog 84 (.rsl (rowPrs rv) 0 rv.length) E)
 (h:f84G0 E c tick ([]) 0):G Try.prog E [.code (bodyAt Try.prog 84)] ⟨[.agg [.rsl (rowBk c.blocks) 0 c.blocks.length,.rsl (rowI c.cars) 0 c.cars.length],.int .i64 tick]++unds (Try.f84.ntmps - 2),[]⟩:=by
 exact p84_start_0 c tick hE trivial (h 0)
theorem p84_0_0 (c:Cir) (tick:Int) (v1:List Prs) (b:Nat) (g1:Nat) (be:Bk) {E:Env} {rv:AV} (hE:PureE Try.prog 84 rv E) (ho:AllP [(decide ((b:Int)<(c.blocks.length:Int)))=true,0≤(b:Int)∧(b:Int)<(c.blocks.length:Int),((rowBk c.blocks).drop ((0+(Int.toNat (b:Int))*4)+1)).take 1=[.bool be.station],be.station=true,g1=g1,(0+(v1.length*3))=(rowPrs v1).length,(v1.length+1)≤2147483648,0=0,InR .i64 ((b:Int)+1)])
 (hg:G Try.prog E (f84K0 Try.prog) ⟨([J,.int .i64 tick,.ptr 0 0 0,J,J,.sl 1 (g1+1) 0 (v1.length+1) 3,.int .i64 ((b:Int)+1)]++Js 20),[⟨true,0,1,true,(z84_1 c),false⟩,⟨true,(g1+1),3,true,((rowPrs v1)++[.int .i64 tick,.int .i64 3,.int .i64 (b:Int)]),true⟩]⟩):G Try.prog E (f84K0 Try.prog) (f84S0 c tick v1 b g1) :=
 segC_step (n:=400) (ds:=[]) (cs:=[]) (live:=[1,2,5,6]) (m:=2) (evs:=[.b true,.auto,.ld (.bool be.station),.b true,.stop]) (obs:=_) hE.2.1 (hE.nogh _) mixed (by kernel_rfl) ho hg
theorem p84_0_1 (c:Cir) (tick:Int) (v1:List Prs) (b:Nat) (g1:Nat) (be:Bk) {E:Env} {rv:AV} (hE:PureE Try.prog 84 rv E) (ho:AllP [(decide ((b:Int)<(c.blocks.length:Int)))=true,0≤(b:Int)∧(b:Int)<(c.blocks.length:Int),((rowBk c.blocks).drop ((0+(Int.toNat (b:Int))*4)+1)).take 1=[.bool be.station],be.station=false,InR .i64 ((b:Int)+1)])
 (hg:G Try.prog E (f84K0 Try.prog) ⟨([J,.int .i64 tick,.ptr 0 0 0,J,J,.sl 1 g1 0 v1.length 3,.int .i64 ((b:Int)+1)]++Js 20),[⟨true,0,1,true,(z84_1 c),false⟩,⟨true,g1,3,true,(rowPrs v1),true⟩]⟩):G Try.prog E (f84K0 Try.prog) (f84S0 c tick v1 b g1) :=
 segC_step (n:=400) (ds:=[]) (cs:=[]) (live:=[1,2,5,6]) (m:=2) (evs:=[.b true,.auto,.ld (.bool be.station),.b false,.stop]) (obs:=_) hE.2.1 (hE.nogh _) mixed (by kernel_rfl) ho hg
theorem p84_0_2 (c:Cir) (tick:Int) (v1:List Prs) (b:Nat) (g1:Nat) {E:Env} {res:AV} (hE:PureE Try.prog 84 res E) (ho:AllP [(decide ((b:Int)<(c.blocks.length:Int)))=false,g1=g1])
 (hr:AvLe (.rsl (rowPrs v1) 0 v1.length) res):G Try.prog E (f84K0 Try.prog) (f84S0 c tick v1 b g1) :=
 end_stepL (n:=400) (evs:=[.b false]) (obs:=_) hE Try.func84 mixed (by kernel_rfl) ho hr
theorem f84W0 (c:Cir) (tick:Int) (v1:List Prs) (b:Nat) {E:Env} {rv:(List Prs)} (hE:PureE Try.prog 84 (.rsl (rowPrs rv) 0 rv.length) E)
 (h:(((b:Int)<(c.blocks.length:Int)→(∃ be:Bk,c.blocks[b]?=some be∧((be.station=true→((v1.length+1)≤2147483648∧((-9223372036854775808≤(b:Int)+1∧(b:Int)+1≤9223372036854775807)∧f84G0 E c tick (v1++[(⟨tick,3,(b:Int)⟩:Prs)]) (b+1))))∧(be.station=false→((-9223372036854775808≤(b:Int)+1∧(b:Int)+1≤9223372036854775807)∧f84G0 E c tick v1 (b+1))))))∧(¬ ((b:Int)<(c.blocks.length:Int))→rv=v1))):f84G0 E c tick v1 b:=by
 intro g1
 rcases Bool.eq_false_or_eq_true (decide ((b:Int)<(c.blocks.length:Int))) with hc0 | hc0
 · have h:=h.1 (of_decide_eq_true hc0)
   obtain ⟨be,h1,h⟩:=h
   rcases Bool.eq_false_or_eq_true be.station with hc1 | hc1
   · have h:=h.1 hc1
     obtain ⟨h2,h⟩:=h
     obtain ⟨q9_2,h⟩:=h
     refine p84_0_0 c tick v1 b g1 be hE ⟨hc0,(idx_ok h1),(row_part cBk (s:=4) (k:=1) (m:=1) (fun _=>rfl) (by decide) h1),hc1,rfl,(by have hx:=row_len cPrs (s:=3) (fun _=>rfl) v1; simp only [rowPrs] at hx ⊢; rw [hx]; simp),h2,rfl,q9_2,trivial⟩ ?_
     rw [(show rowPrs v1++[.int .i64 tick,.int .i64 3,.int .i64 (b:Int)]=rowPrs (v1++[(⟨tick,3,(b:Int)⟩:Prs)]) from (row_app cPrs v1 [(⟨tick,3,(b:Int)⟩:Prs)]).symm)]; rw [(show (v1.length+1)=(v1++[(⟨tick,3,(b:Int)⟩:Prs)]).length from by simp)]; exact (h (g1+1))
   · have h:=h.2 hc1
     obtain ⟨q5_2,h⟩:=h
     exact p84_0_1 c tick v1 b g1 be hE ⟨hc0,(idx_ok h1),(row_part cBk (s:=4) (k:=1) (m:=1) (fun _=>rfl) (by decide) h1),hc1,q5_2,trivial⟩ (h g1)
 · have h:=h.2 (of_decide_eq_false hc0)
   exact p84_0_2 c tick v1 b g1 hE ⟨hc0,rfl,trivial⟩ (AvLe.of_eq (by rw [h]; try rfl))
theorem pressed_ok (c:Cir) (tick:Int) (h:c.blocks.length≤1000000):Pure Try.prog 55 [.agg [.rsl (rowBk c.blocks) 0 c.blocks.length,.rsl (rowI c.cars) 0 c.cars.length],.int .i64 tick] (.rsl (rowPrs (prsI c tick)) 0 (prsI c tick).length):=pure_of Try.func55 f55b fun E hE=>by
 have key:∀ (d b:Nat),b+d=c.blocks.length→f55G0 E c tick (prsN c tick b) b:=by
  intro d
  induction d with
  | zero =>
   intro b hb
   refine f55W0 c tick _ b (rv:=prsI c tick) hE ⟨fun h=>by omega,fun _=>?_⟩
   rw [prsI,show c.blocks.length=b by omega]
  | succ d ih =>
   intro b hb
   have hx:=bk_nat (c:=c) (b:=b) (by omega)
   have nx:=ih (b+1) (by omega)
   have hl:=prsN_len (c:=c) (tick:=tick) (b:=b)
   refine f55W0 c tick _ b (rv:=prsI c tick) hE ⟨fun _=>⟨_,hx,fun hs=>⟨by omega,by omega,?_⟩,fun hs=>⟨by omega,?_⟩⟩,fun h=>by omega⟩
   · rw [prsN,if_pos hs] at nx; exact nx
   · rw [prsN,if_neg (by rw [hs]; simp),List.append_nil] at nx; exact nx
 exact f55W c tick (rv:=prsI c tick) hE (key c.blocks.length 0 (by omega))
theorem pressedR_ok (c:Cir) (tick:Int) (h:c.blocks.length≤1000000):Pure Try.prog 84 [.agg [.rsl (rowBk c.blocks) 0 c.blocks.length,.rsl (rowI c.cars) 0 c.cars.length],.int .i64 tick] (.rsl (rowPrs (prsI c tick)) 0 (prsI c tick).length):=pure_of Try.func84 f84b fun E hE=>by
 have key:∀ (d b:Nat),b+d=c.blocks.length→f84G0 E c tick (prsN c tick b) b:=by
  intro d
  induction d with
  | zero =>
   intro b hb
   refine f84W0 c tick _ b (rv:=prsI c tick) hE ⟨fun h=>by omega,fun _=>?_⟩
   rw [prsI,show c.blocks.length=b by omega]
  | succ d ih =>
   intro b hb
   have hx:=bk_nat (c:=c) (b:=b) (by omega)
   have nx:=ih (b+1) (by omega)
   have hl:=prsN_len (c:=c) (tick:=tick) (b:=b)
   refine f84W0 c tick _ b (rv:=prsI c tick) hE ⟨fun _=>⟨_,hx,fun hs=>⟨by omega,by omega,?_⟩,fun hs=>⟨by omega,?_⟩⟩,fun h=>by omega⟩
   · rw [prsN,if_pos hs] at nx; exact nx
   · rw [prsN,if_neg (by rw [hs]; simp),List.append_nil] at nx; exact nx
 exact f84W c tick (rv:=prsI c tick) hE (key c.blocks.length 0 (by omega))
theorem f57b:Try.f57.body=some (bodyAt Try.prog 57):=by kernel_rfl
abbrev z57_3 (c:Cir) (spots:List Spt) (stood:List Int) (go:List Bool) (stp:Bool) (tick:Int):=tickR (⟨c,spots,stood,go,stp⟩:Rn) tick (prsI c tick) ([]:List Flt)
abbrev z57_1 (c:Cir) (g1:Nat) (spots:List Spt) (stood:List Int) (go:List Bool) (stp:Bool) (tick:Int) (g2:Nat) (g3:Nat):List Blk:=[⟨true,0,1,false,[.rsl (rowBk c.blocks) 0 c.blocks.length,.rsl (rowI c.cars) 0 c.cars.length,.sl 1 g1 0 ((z57_3 c spots stood go stp tick).spots.length) 3,.sl 2 g2 0 ((z57_3 c spots stood go stp tick).stood.length) 1,.sl 3 g3 0 ((z57_3 c spots stood go stp tick).go.length) 1,.bool ((z57_3 c spots stood go stp tick).stp)],false⟩,⟨true,g1,3,true,(rowSpt (z57_3 c spots stood go stp tick).spots),true⟩,⟨true,g2,1,true,(rowI (z57_3 c spots stood go stp tick).stood),true⟩,⟨true,g3,1,true,(rowB (z57_3 c spots stood go stp tick).go),true⟩]
abbrev z57_2 (c:Cir) (g1:Nat) (spots:List Spt) (g2:Nat) (stood:List Int) (g3:Nat) (go:List Bool) (stp:Bool):List Blk:=[⟨true,0,1,false,[.rsl (rowBk c.blocks) 0 c.blocks.length,.rsl (rowI c.cars) 0 c.cars.length,.sl 1 g1 0 spots.length 3,.sl 2 g2 0 stood.length 1,.sl 3 g3 0 go.length 1,.bool stp],false⟩,⟨true,g1,3,true,(rowSpt spots),true⟩,⟨true,g2,1,true,(rowI stood),true⟩,⟨true,g3,1,true,(rowB go),true⟩]
abbrev z57_4 (c:Cir) (spots:List Spt) (stood:List Int) (go:List Bool) (stp:Bool):List AV:=[.rptr [.rsl (rowBk c.blocks) 0 c.blocks.length,.rsl (rowI c.cars) 0 c.cars.length,.rsl (rowSpt spots) 0 spots.length,.rsl (rowI stood) 0 stood.length,.rsl (rowB go) 0 go.length,.bool stp] 0,.int .i64 ((c.blocks.length:Int) - 1)]
theorem p57_start_0 (tick:Int) (c:Cir) (spots:List Spt) (stood:List Int) (go:List Bool) (stp:Bool) (g1 g2 g3:Nat) (se:Spt) {E:Env} {res:AV} {bs2:List Blk} (hE:LentE Try.prog 57 [.sl 3 g3 0 0 1] res bs2 E) (ho:AllP [InR .i64 ((c.blocks.length:Int) - 1),PureF Try.prog (.clos 82 [] []) (z57_4 c spots stood go stp) (.int .i64 (carS (⟨c,spots,stood,go,stp⟩:Rn).spots ((c.blocks.length:Int) - 1))),g1=g1,g2=g2,g3=g3,PureF Try.prog (.clos 84 [] []) [.agg [.rsl (rowBk c.blocks) 0 c.blocks.length,.rsl (rowI c.cars) 0 c.cars.length],.int .i64 tick] (.rsl (rowPrs (prsI c tick)) 0 ((prsI c tick).length)),LentF Try.prog (.clos 49 [] []) [.ptr 0 0 0,.int .i64 tick,.rsl (rowPrs (prsI c tick)) 0 ((prsI c tick).length),.nilSl] (z57_2 c g1 spots g2 stood g3 go stp) (.tup []) (z57_1 c g1 spots stood go stp tick g2 g3),(decide ((carS (⟨c,spots,stood,go,stp⟩:Rn).spots ((c.blocks.length:Int) - 1))≥0))=true,0≤(carS (⟨c,spots,stood,go,stp⟩:Rn).spots ((c.blocks.length:Int) - 1))∧(carS (⟨c,spots,stood,go,stp⟩:Rn).spots ((c.blocks.length:Int) - 1))<(((z57_3 c spots stood go stp tick).spots.length:Nat):Int),g1=g1,g1=g1,g1=g1,((rowSpt (z57_3 c spots stood go stp tick).spots).drop ((0+(Int.toNat (carS (⟨c,spots,stood,go,stp⟩:Rn).spots ((c.blocks.length:Int) - 1)))*3)+0)).take 1=[.int .i64 se.block]])
 (hr:(.bool (se.block == 0))=res) (hb:(z57_1 c g1 spots stood go stp tick g2 g3)=bs2):G Try.prog E [.code (bodyAt Try.prog 57)] ⟨[.ptr 0 0 0,.int .i64 tick]++unds (Try.f57.ntmps - 2),(z57_2 c g1 spots g2 stood g3 go stp)⟩ :=
 endB_step (n:=400) (live:=[4]) (m:=4) (evs:=[.v (.int .i64 (carS (⟨c,spots,stood,go,stp⟩:Rn).spots ((c.blocks.length:Int) - 1))),.v (.rsl (rowPrs (prsI c tick)) 0 ((prsI c tick).length)),.lent [0,1,2,3] (.tup []) [⟨true,0,1,false,[.rsl (rowBk c.blocks) 0 c.blocks.length,.rsl (rowI c.cars) 0 c.cars.length,.sl 1 g1 0 ((tickR (⟨c,spots,stood,go,stp⟩:Rn) tick (prsI c tick) ([]:List Flt)).spots.length) 3,.sl 2 g2 0 ((tickR (⟨c,spots,stood,go,stp⟩:Rn) tick (prsI c tick) ([]:List Flt)).stood.length) 1,.sl 3 g3 0 ((tickR (⟨c,spots,stood,go,stp⟩:Rn) tick (prsI c tick) ([]:List Flt)).go.length) 1,.bool ((tickR (⟨c,spots,stood,go,stp⟩:Rn) tick (prsI c tick) ([]:List Flt)).stp)],false⟩,⟨true,g1,3,true,(rowSpt (tickR (⟨c,spots,stood,go,stp⟩:Rn) tick (prsI c tick) ([]:List Flt)).spots),true⟩,⟨true,g2,1,true,(rowI (tickR (⟨c,spots,stood,go,stp⟩:Rn) tick (prsI c tick) ([]:List Flt)).stood),true⟩,⟨true,g3,1,true,(rowB (tickR (⟨c,spots,stood,go,stp⟩:Rn) tick (prsI c tick) ([]:List Flt)).go),true⟩],.b true,.auto,.ld (.int .i64 se.block)]) (obs:=_) hE (hE.nogh (by kernel_rfl)) Try.func57 mixed (by kernel_rfl) ho hr hb
theorem p57_start_1 (tick:Int) (c:Cir) (spots:List Spt) (stood:List Int) (go:List Bool) (stp:Bool) (g1 g2 g3:Nat) {E:Env} {res:AV} {bs2:List Blk} (hE:LentE Try.prog 57 [.sl 3 g3 0 0 1] res bs2 E) (ho:AllP [InR .i64 ((c.blocks.length:Int) - 1),PureF Try.prog (.clos 82 [] []) (z57_4 c spots stood go stp) (.int .i64 (carS (⟨c,spots,stood,go,stp⟩:Rn).spots ((c.blocks.length:Int) - 1))),g1=g1,g2=g2,g3=g3,PureF Try.prog (.clos 84 [] []) [.agg [.rsl (rowBk c.blocks) 0 c.blocks.length,.rsl (rowI c.cars) 0 c.cars.length],.int .i64 tick] (.rsl (rowPrs (prsI c tick)) 0 ((prsI c tick).length)),LentF Try.prog (.clos 49 [] []) [.ptr 0 0 0,.int .i64 tick,.rsl (rowPrs (prsI c tick)) 0 ((prsI c tick).length),.nilSl] (z57_2 c g1 spots g2 stood g3 go stp) (.tup []) (z57_1 c g1 spots stood go stp tick g2 g3),(decide ((carS (⟨c,spots,stood,go,stp⟩:Rn).spots ((c.blocks.length:Int) - 1))≥0))=false])
 (hr:(.bool false)=res) (hb:(z57_1 c g1 spots stood go stp tick g2 g3)=bs2):G Try.prog E [.code (bodyAt Try.prog 57)] ⟨[.ptr 0 0 0,.int .i64 tick]++unds (Try.f57.ntmps - 2),(z57_2 c g1 spots g2 stood g3 go stp)⟩ :=
 endB_step (n:=400) (live:=[4]) (m:=4) (evs:=[.v (.int .i64 (carS (⟨c,spots,stood,go,stp⟩:Rn).spots ((c.blocks.length:Int) - 1))),.v (.rsl (rowPrs (prsI c tick)) 0 ((prsI c tick).length)),.lent [0,1,2,3] (.tup []) [⟨true,0,1,false,[.rsl (rowBk c.blocks) 0 c.blocks.length,.rsl (rowI c.cars) 0 c.cars.length,.sl 1 g1 0 ((tickR (⟨c,spots,stood,go,stp⟩:Rn) tick (prsI c tick) ([]:List Flt)).spots.length) 3,.sl 2 g2 0 ((tickR (⟨c,spots,stood,go,stp⟩:Rn) tick (prsI c tick) ([]:List Flt)).stood.length) 1,.sl 3 g3 0 ((tickR (⟨c,spots,stood,go,stp⟩:Rn) tick (prsI c tick) ([]:List Flt)).go.length) 1,.bool ((tickR (⟨c,spots,stood,go,stp⟩:Rn) tick (prsI c tick) ([]:List Flt)).stp)],false⟩,⟨true,g1,3,true,(rowSpt (tickR (⟨c,spots,stood,go,stp⟩:Rn) tick (prsI c tick) ([]:List Flt)).spots),true⟩,⟨true,g2,1,true,(rowI (tickR (⟨c,spots,stood,go,stp⟩:Rn) tick (prsI c tick) ([]:List Flt)).stood),true⟩,⟨true,g3,1,true,(rowB (tickR (⟨c,spots,stood,go,stp⟩:Rn) tick (prsI c tick) ([]:List Flt)).go),true⟩],.b false]) (obs:=_) hE (hE.nogh (by kernel_rfl)) Try.func57 mixed (by kernel_rfl) ho hr hb
theorem f57W (tick:Int) (c:Cir) (spots:List Spt) (stood:List Int) (go:List Bool) (stp:Bool) (g1 g2 g3:Nat) {E:Env} {rv:Bool} {stp2:Bool} {spots2:List Spt} {stood2:List Int} {go2:List Bool} (hE:LentE Try.prog 57 [.sl 3 g3 0 0 1] (.bool rv) [⟨true,0,1,false,[.rsl (rowBk c.blocks) 0 c.blocks.length,.rsl (rowI c.cars) 0 c.cars.length,.sl 1 g1 0 spots2.length 3,.sl 2 g2 0 stood2.length 1,.sl 3 g3 0 go2.length 1,.bool stp2],false⟩,⟨true,g1,3,true,(rowSpt spots2),true⟩,⟨true,g2,1,true,(rowI stood2),true⟩,⟨true,g3,1,true,(rowB go2),true⟩] E)
 (h:((-9223372036854775808≤(c.blocks.length:Int) - 1∧(c.blocks.length:Int) - 1≤9223372036854775807)∧((RnIn (⟨c,spots,stood,go,stp⟩:Rn))∧((c.blocks.length≤1000000)∧((RunIn (⟨c,spots,stood,go,stp⟩:Rn) tick (prsI c tick) ([]:List Flt))∧(((carS (⟨c,spots,stood,go,stp⟩:Rn).spots ((c.blocks.length:Int) - 1))≥0→(0≤(carS (⟨c,spots,stood,go,stp⟩:Rn).spots ((c.blocks.length:Int) - 1))∧(∃ se:Spt,((tickR (⟨c,spots,stood,go,stp⟩:Rn) tick (prsI c tick) ([]:List Flt)).spots)[Int.toNat (carS (⟨c,spots,stood,go,stp⟩:Rn).spots ((c.blocks.length:Int) - 1))]?=some se∧rv=(se.block == 0)∧stp2=(tickR (⟨c,spots,stood,go,stp⟩:Rn) tick (prsI c tick) ([]:List Flt)).stp∧spots2=(tickR (⟨c,spots,stood,go,stp⟩:Rn) tick (prsI c tick) ([]:List Flt)).spots∧stood2=(tickR (⟨c,spots,stood,go,stp⟩:Rn) tick (prsI c tick) ([]:List Flt)).stood∧go2=(tickR (⟨c,spots,stood,go,stp⟩:Rn) tick (prsI c tick) ([]:List Flt)).go)))∧(¬ ((carS (⟨c,spots,stood,go,stp⟩:Rn).spots ((c.blocks.length:Int) - 1))≥0)→rv=false∧stp2=(tickR (⟨c,spots,stood,go,stp⟩:Rn) tick (prsI c tick) ([]:List Flt)).stp∧spots2=(tickR (⟨c,spots,stood,go,stp⟩:Rn) tick (prsI c tick) ([]:List Flt)).spots∧stood2=(tickR (⟨c,spots,stood,go,stp⟩:Rn) tick (prsI c tick) ([]:List Flt)).stood∧go2=(tickR (⟨c,spots,stood,go,stp⟩:Rn) tick (prsI c tick) ([]:List Flt)).go))))))):G Try.prog E [.code (bodyAt Try.prog 57)] ⟨[.ptr 0 0 0,.int .i64 tick]++unds (Try.f57.ntmps - 2),[⟨true,0,1,false,[.rsl (rowBk c.blocks) 0 c.blocks.length,.rsl (rowI c.cars) 0 c.cars.length,.sl 1 g1 0 spots.length 3,.sl 2 g2 0 stood.length 1,.sl 3 g3 0 go.length 1,.bool stp],false⟩,⟨true,g1,3,true,(rowSpt spots),true⟩,⟨true,g2,1,true,(rowI stood),true⟩,⟨true,g3,1,true,(rowB go),true⟩]⟩:=by
 obtain ⟨q0_0,h⟩:=h
 obtain ⟨h1,h⟩:=h
 obtain ⟨h2,h⟩:=h
 obtain ⟨h3,h⟩:=h
 rcases Bool.eq_false_or_eq_true (decide ((carS (⟨c,spots,stood,go,stp⟩:Rn).spots ((c.blocks.length:Int) - 1))≥0)) with hc0 | hc0
 · have h:=h.1 (of_decide_eq_true hc0)
   obtain ⟨h5,h⟩:=h
   obtain ⟨se,h4,h⟩:=h
   obtain ⟨qe0,qe1,qe2,qe3,qe4⟩:=h
   exact p57_start_0 tick c spots stood go stp g1 g2 g3 se hE ⟨q0_0,(pureF_of Try.func82 (by kernel_rfl) f82b (carS_ok (⟨c,spots,stood,go,stp⟩:Rn) ((c.blocks.length:Int) - 1) h1)),rfl,rfl,rfl,(pureF_of Try.func84 (by kernel_rfl) f84b (pressedR_ok c tick h2)),(LentF.leC (args:=[.ptr 0 0 0,.int .i64 tick,.rsl (rowPrs (prsI c tick)) 0 ((prsI c tick).length),.rsl (rowFlt ([]:List Flt)) 0 (([]:List Flt).length)]) (lentF_of Try.func49 (by kernel_rfl) f49b (tickR_ok tick (prsI c tick) ([]:List Flt) c spots stood go stp g1 g2 g3 h3)) ⟨leC_rfl,⟨leC_rfl,⟨leC_rfl,⟨nil_leC,trivial⟩⟩⟩⟩),hc0,(idx_ok' h5 h4),rfl,rfl,rfl,(row_part cSpt (s:=3) (k:=0) (m:=1) (fun _=>rfl) (by decide) h4),trivial⟩ (by rw [qe0]; try rfl) (by rw [qe1,qe2,qe3,qe4]; all_goals (first | rfl | (simp only [List.length_set]; done) | (simp only [List.length_set]; rfl)))
 · have h:=h.2 (of_decide_eq_false hc0)
   obtain ⟨qe0,qe1,qe2,qe3,qe4⟩:=h
   exact p57_start_1 tick c spots stood go stp g1 g2 g3 hE ⟨q0_0,(pureF_of Try.func82 (by kernel_rfl) f82b (carS_ok (⟨c,spots,stood,go,stp⟩:Rn) ((c.blocks.length:Int) - 1) h1)),rfl,rfl,rfl,(pureF_of Try.func84 (by kernel_rfl) f84b (pressedR_ok c tick h2)),(LentF.leC (args:=[.ptr 0 0 0,.int .i64 tick,.rsl (rowPrs (prsI c tick)) 0 ((prsI c tick).length),.rsl (rowFlt ([]:List Flt)) 0 (([]:List Flt).length)]) (lentF_of Try.func49 (by kernel_rfl) f49b (tickR_ok tick (prsI c tick) ([]:List Flt) c spots stood go stp g1 g2 g3 h3)) ⟨leC_rfl,⟨leC_rfl,⟨leC_rfl,⟨nil_leC,trivial⟩⟩⟩⟩),hc0,trivial⟩ (by rw [qe0]; try rfl) (by rw [qe1,qe2,qe3,qe4]; all_goals (first | rfl | (simp only [List.length_set]; done) | (simp only [List.length_set]; rfl)))
theorem full_ok (tick:Int) (c:Cir) (spots:List Spt) (stood:List Int) (go:List Bool) (stp:Bool) (g1 g2 g3:Nat) (h:FullIn (⟨c,spots,stood,go,stp⟩:Rn) tick) :
 Lent Try.prog 57 [.ptr 0 0 0,.int .i64 tick] [⟨true,0,1,false,[.rsl (rowBk c.blocks) 0 c.blocks.length,.rsl (rowI c.cars) 0 c.cars.length,.sl 1 g1 0 spots.length 3,.sl 2 g2 0 stood.length 1,.sl 3 g3 0 go.length 1,.bool stp],false⟩,⟨true,g1,3,true,(rowSpt spots),true⟩,⟨true,g2,1,true,(rowI stood),true⟩,⟨true,g3,1,true,(rowB go),true⟩] (.bool (fullB (⟨c,spots,stood,go,stp⟩:Rn) tick)) [⟨true,0,1,false,[.rsl (rowBk c.blocks) 0 c.blocks.length,.rsl (rowI c.cars) 0 c.cars.length,.sl 1 g1 0 (fullR (⟨c,spots,stood,go,stp⟩:Rn) tick).spots.length 3,.sl 2 g2 0 (fullR (⟨c,spots,stood,go,stp⟩:Rn) tick).stood.length 1,.sl 3 g3 0 (fullR (⟨c,spots,stood,go,stp⟩:Rn) tick).go.length 1,.bool (fullR (⟨c,spots,stood,go,stp⟩:Rn) tick).stp],false⟩,⟨true,g1,3,true,(rowSpt (fullR (⟨c,spots,stood,go,stp⟩:Rn) tick).spots),true⟩,⟨true,g2,1,true,(rowI (fullR (⟨c,spots,stood,go,stp⟩:Rn) tick).stood),true⟩,⟨true,g3,1,true,(rowB (fullR (⟨c,spots,stood,go,stp⟩:Rn) tick).go),true⟩]:=lent_of _ Try.func57 f57b rfl rfl fun E hE=>by
 obtain ⟨h1,h2,h3⟩:=h
 have hc1:1≤c.blocks.length:=h2.1
 have hc2:c.blocks.length≤1000000:=h2.2
 refine f57W tick c spots stood go stp g1 g2 g3 (rv:=fullB (⟨c,spots,stood,go,stp⟩:Rn) tick) hE ⟨by omega,h1,hc2,h3,fun hp=>?_,fun hp=>?_⟩
 · cases hc:carO spots ((c.blocks.length:Int) - 1) with
   | none =>
    have e:carS spots ((c.blocks.length:Int) - 1)=-1:=by rw [carS,hc]
    have hp:carS spots ((c.blocks.length:Int) - 1)≥0:=hp
    omega
   | some i =>
    have e:carS spots ((c.blocks.length:Int) - 1)=(i:Int):=by rw [carS,hc]
    have hi:=(carO_spec hc).1
    have hl:i<(tickR (⟨c,spots,stood,go,stp⟩:Rn) tick (prsI c tick) []).spots.length:=by
     have hrt:=run_trk (R:=(⟨c,spots,stood,go,stp⟩:Rn)) (tick:=tick) (f:=[]) h3.1
     have hcl:=tick_len h3.2.1 h3.2.2 (l:=prsI c tick)
     have e5:(trkOf (⟨c,spots,stood,go,stp⟩:Rn) tick []).cars.length=spots.length:=by
      have:=congrArg (fun R=>R.spots.length) hrt
      simp only [runOf,List.length_map] at this
      exact this
     show i<((stepT _ _).cars.map Car.spot).length
     rw [List.length_map,hcl,e5]; exact hi
    refine ⟨hp,(tickR (⟨c,spots,stood,go,stp⟩:Rn) tick (prsI c tick) []).spots.getD i dS,?_,?_,rfl,rfl,rfl,rfl⟩
    · have e2:Int.toNat (carS spots ((c.blocks.length:Int) - 1))=i:=by omega
      rw [show Int.toNat (carS (⟨c,spots,stood,go,stp⟩:Rn).spots ((c.blocks.length:Int) - 1))=i from e2]; exact getD_some hl
    · unfold fullB; simp only [hc]; rfl
 · refine ⟨?_,rfl,rfl,rfl,rfl⟩
   cases hc:carO spots ((c.blocks.length:Int) - 1) with
   | none=>unfold fullB; simp only [hc]
   | some i =>
    have e:carS spots ((c.blocks.length:Int) - 1)=(i:Int):=by rw [carS,hc]
    have hp:¬ carS spots ((c.blocks.length:Int) - 1)≥0:=hp
    omega
theorem f31b:Try.f31.body=some (bodyAt Try.prog 31):=by kernel_rfl
def f31K0 (P:Program):List Item:=kAt 400 [.code (bodyAt P 31)] [.b false,.stop]
def f31S0 (c:Cir) (ticks:Int) (v4:List Car) (v2:List Bool) (i:Nat) (v3_5:Int) (v3_6:Int) (v3_7:Bool) (v3_8:Int) (v3_9:Int):St:=⟨([J,J,.ptr 0 0 0,J,J,J,J,.ptr 3 0 0]++jj 9 ([.int .i64 ticks,.int .i64 (i:Int)]++Js 12)),[⟨true,0,1,true,[.rsl (rowBk c.blocks) 0 c.blocks.length,.rsl (rowI c.cars) 0 c.cars.length],false⟩,⟨true,0,1,true,[.rsl (rowBk c.blocks) 0 c.blocks.length,.rsl (rowI c.cars) 0 c.cars.length],false⟩,⟨true,0,1,true,(rowB v2),true⟩,⟨true,0,1,false,[.rsl (rowBk c.blocks) 0 c.blocks.length,.rsl (rowI c.cars) 0 c.cars.length,.rsl (rowFlt ([]:List Flt)) 0 (([]:List Flt).length),.sl 4 c.cars.length 0 v4.length 4,.sl 2 0 0 v2.length 1,.int .i64 v3_5,.int .i64 v3_6,.bool v3_7,.int .i64 v3_8,.int .i64 v3_9],false⟩,⟨true,c.cars.length,4,true,(rowCar v4),true⟩]⟩
def f31G0 (E:Env) (c:Cir) (ticks:Int) (v4:List Car) (v2:List Bool) (i:Nat) (v3_5:Int) (v3_6:Int) (v3_7:Bool) (v3_8:Int) (v3_9:Int):Prop:=G Try.prog E (f31K0 Try.prog) (f31S0 c ticks v4 v2 i v3_5 v3_6 v3_7 v3_8 v3_9 )
abbrev z31_1 (c:Cir) (v4:List Car) (v2:List Bool) (v3_5:Int) (v3_6:Int) (v3_7:Bool) (v3_8:Int) (v3_9:Int) (i:Nat):=stepT (⟨c,([]:List Flt),v4,v2,v3_5,v3_6,v3_7,v3_8,v3_9⟩:Trk) (prsI c (i:Int))
abbrev z31_2 (c:Cir):List AV:=[.rsl (rowBk c.blocks) 0 c.blocks.length,.rsl (rowI c.cars) 0 c.cars.length]
theorem p31_start_0 (c:Cir) (ticks:Int) {E:Env} {res:AV} (hE:PureE Try.prog 31 res E) (ho:AllP [PureF Try.prog (.clos 43 [] []) [.agg (z31_2 c),.int .i64 ticks,.nilSl,.nilSl] (.int .i64 (checkP c ticks ([]:List Prs) ([]:List Flt))),((checkP c ticks ([]:List Prs) ([]:List Flt)) != 0)=true])
 (hr:AvLe (.tup [.int .i64 0,.int .i64 (checkP c ticks ([]:List Prs) ([]:List Flt))]) res):G Try.prog E [.code (bodyAt Try.prog 31)] ⟨[.agg (z31_2 c),.int .i64 ticks]++unds (Try.f31.ntmps - 2),[]⟩ :=
 end_stepL (n:=400) (evs:=[.v (.int .i64 (checkP c ticks ([]:List Prs) ([]:List Flt))),.b true]) (obs:=_) hE Try.func31 mixed (by kernel_rfl) ho hr
theorem p31_start_1 (c:Cir) (ticks:Int) {E:Env} {rv:AV} (hE:PureE Try.prog 31 rv E) (ho:AllP [PureF Try.prog (.clos 43 [] []) [.agg (z31_2 c),.int .i64 ticks,.nilSl,.nilSl] (.int .i64 (checkP c ticks ([]:List Prs) ([]:List Flt))),((checkP c ticks ([]:List Prs) ([]:List Flt)) != 0)=false,LentF Try.prog (.clos 44 [] []) [.agg (z31_2 c),.nilSl] [] (.ptr 2 0 0) [⟨true,0,1,true,(z31_2 c),false⟩,⟨true,0,1,true,(rowB (newT c ([]:List Flt)).gos),true⟩,⟨true,0,1,false,[.rsl (rowBk c.blocks) 0 c.blocks.length,.rsl (rowI c.cars) 0 c.cars.length,.rsl (rowFlt ([]:List Flt)) 0 (([]:List Flt).length),.sl 3 c.cars.length 0 ((newT c ([]:List Flt)).cars.length) 4,.sl 1 0 0 ((newT c ([]:List Flt)).gos.length) 1,.int .i64 0,.int .i64 (-1),.bool false,.int .i64 0,.int .i64 0],false⟩,⟨true,c.cars.length,4,true,(rowCar (newT c ([]:List Flt)).cars),true⟩]])
 (hg:G Try.prog E (f31K0 Try.prog) ⟨([J,J,.ptr 0 0 0,J,J,J,J,.ptr 3 0 0]++jj 9 ([.int .i64 ticks,.int .i64 0]++Js 12)),[⟨true,0,1,true,(z31_2 c),false⟩,⟨true,0,1,true,(z31_2 c),false⟩,⟨true,0,1,true,(rowB (newT c ([]:List Flt)).gos),true⟩,⟨true,0,1,false,[.rsl (rowBk c.blocks) 0 c.blocks.length,.rsl (rowI c.cars) 0 c.cars.length,.rsl (rowFlt ([]:List Flt)) 0 (([]:List Flt).length),.sl 4 c.cars.length 0 ((newT c ([]:List Flt)).cars.length) 4,.sl 2 0 0 ((newT c ([]:List Flt)).gos.length) 1,.int .i64 0,.int .i64 (-1),.bool false,.int .i64 0,.int .i64 0],false⟩,⟨true,c.cars.length,4,true,(rowCar (newT c ([]:List Flt)).cars),true⟩]⟩):G Try.prog E [.code (bodyAt Try.prog 31)] ⟨[.agg (z31_2 c),.int .i64 ticks]++unds (Try.f31.ntmps - 2),[]⟩ :=
 segC_step (n:=400) (ds:=[]) (cs:=[]) (live:=[2,7,17,18]) (m:=5) (evs:=[.v (.int .i64 (checkP c ticks ([]:List Prs) ([]:List Flt))),.b false,.lent [] (.ptr 2 0 0) [⟨true,0,1,true,[.rsl (rowBk c.blocks) 0 c.blocks.length,.rsl (rowI c.cars) 0 c.cars.length],false⟩,⟨true,0,1,true,(rowB (newT c ([]:List Flt)).gos),true⟩,⟨true,0,1,false,[.rsl (rowBk c.blocks) 0 c.blocks.length,.rsl (rowI c.cars) 0 c.cars.length,.rsl (rowFlt ([]:List Flt)) 0 (([]:List Flt).length),.sl 3 c.cars.length 0 ((newT c ([]:List Flt)).cars.length) 4,.sl 1 0 0 ((newT c ([]:List Flt)).gos.length) 1,.int .i64 0,.int .i64 (-1),.bool false,.int .i64 0,.int .i64 0],false⟩,⟨true,c.cars.length,4,true,(rowCar (newT c ([]:List Flt)).cars),true⟩],.stop]) (obs:=_) hE.2.1 (hE.nogh _) mixed (by kernel_rfl) ho hg
theorem f31W (c:Cir) (ticks:Int) {E:Env} {rv:(Int × Int)} (hE:PureE Try.prog 31 (.tup [.int .i64 rv.1,.int .i64 rv.2]) E)
 (h:(((c.blocks.length≤9223372036854775807∧c.cars.length≤9223372036854775807)∧([]:List Prs).length≤9223372036854775807∧([]:List Flt).length≤9223372036854775807)∧((¬ ((checkP c ticks ([]:List Prs) ([]:List Flt))=0)→rv=(0,(checkP c ticks ([]:List Prs) ([]:List Flt))))∧((checkP c ticks ([]:List Prs) ([]:List Flt))=0→((NewIn c)∧f31G0 E c ticks ((newT c ([]:List Flt)).cars) ((newT c ([]:List Flt)).gos) 0 0 (-1) false 0 0))))):G Try.prog E [.code (bodyAt Try.prog 31)] ⟨[.agg [.rsl (rowBk c.blocks) 0 c.blocks.length,.rsl (rowI c.cars) 0 c.cars.length],.int .i64 ticks]++unds (Try.f31.ntmps - 2),[]⟩:=by
 obtain ⟨h1,h⟩:=h
 rcases Bool.eq_false_or_eq_true ((checkP c ticks ([]:List Prs) ([]:List Flt)) != 0) with hc0 | hc0
 · have h:=h.1 (bneT hc0)
   exact p31_start_0 c ticks hE ⟨(PureF.le (args:=[.agg [.rsl (rowBk c.blocks) 0 c.blocks.length,.rsl (rowI c.cars) 0 c.cars.length],.int .i64 ticks,.rsl (rowPrs ([]:List Prs)) 0 (([]:List Prs).length),.rsl (rowFlt ([]:List Flt)) 0 (([]:List Flt).length)]) (pureF_of Try.func43 (by kernel_rfl) f43b (checkP_ok c ticks ([]:List Prs) ([]:List Flt) h1)) ⟨AvLe.of_eq rfl,⟨AvLe.of_eq rfl,⟨nil_le,⟨nil_le,trivial⟩⟩⟩⟩),hc0,trivial⟩ (AvLe.of_eq (by rw [h]; try rfl))
 · have h:=h.2 (bneF hc0)
   obtain ⟨h2,h⟩:=h
   exact p31_start_1 c ticks hE ⟨(PureF.le (args:=[.agg [.rsl (rowBk c.blocks) 0 c.blocks.length,.rsl (rowI c.cars) 0 c.cars.length],.int .i64 ticks,.rsl (rowPrs ([]:List Prs)) 0 (([]:List Prs).length),.rsl (rowFlt ([]:List Flt)) 0 (([]:List Flt).length)]) (pureF_of Try.func43 (by kernel_rfl) f43b (checkP_ok c ticks ([]:List Prs) ([]:List Flt) h1)) ⟨AvLe.of_eq rfl,⟨AvLe.of_eq rfl,⟨nil_le,⟨nil_le,trivial⟩⟩⟩⟩),hc0,(LentF.leC (args:=[.agg [.rsl (rowBk c.blocks) 0 c.blocks.length,.rsl (rowI c.cars) 0 c.cars.length],.rsl (rowFlt ([]:List Flt)) 0 (([]:List Flt).length)]) (lentF_of Try.func44 (by kernel_rfl) f44b (newTrack_ok c ([]:List Flt) h2)) ⟨leC_rfl,⟨nil_leC,trivial⟩⟩),trivial⟩ h
theorem p31_0_0 (c:Cir) (ticks:Int) (v4:List Car) (v2:List Bool) (i:Nat) (v3_5:Int) (v3_6:Int) (v3_7:Bool) (v3_8:Int) (v3_9:Int) {E:Env} {rv:AV} (hE:PureE Try.prog 31 rv E) (ho:AllP [(decide ((i:Int)<ticks))=true,PureF Try.prog (.clos 55 [] []) [.agg (z31_2 c),.int .i64 (i:Int)] (.rsl (rowPrs (prsI c (i:Int))) 0 ((prsI c (i:Int)).length)),LentF Try.prog (.clos 45 [] []) [.ptr 0 0 0,.rsl (rowPrs (prsI c (i:Int))) 0 ((prsI c (i:Int)).length)] [⟨true,0,1,false,[.rsl (rowBk c.blocks) 0 c.blocks.length,.rsl (rowI c.cars) 0 c.cars.length,.rsl (rowFlt ([]:List Flt)) 0 (([]:List Flt).length),.sl 1 c.cars.length 0 v4.length 4,.sl 2 0 0 v2.length 1,.int .i64 v3_5,.int .i64 v3_6,.bool v3_7,.int .i64 v3_8,.int .i64 v3_9],false⟩,⟨true,c.cars.length,4,true,(rowCar v4),true⟩,⟨true,0,1,true,(rowB v2),true⟩] (.tup []) [⟨true,0,1,false,[.rsl (rowBk c.blocks) 0 c.blocks.length,.rsl (rowI c.cars) 0 c.cars.length,.rsl (rowFlt ([]:List Flt)) 0 (([]:List Flt).length),.sl 1 c.cars.length 0 ((z31_1 c v4 v2 v3_5 v3_6 v3_7 v3_8 v3_9 i).cars.length) 4,.sl 2 0 0 ((z31_1 c v4 v2 v3_5 v3_6 v3_7 v3_8 v3_9 i).gos.length) 1,.int .i64 ((z31_1 c v4 v2 v3_5 v3_6 v3_7 v3_8 v3_9 i).tick),.int .i64 ((z31_1 c v4 v2 v3_5 v3_6 v3_7 v3_8 v3_9 i).stopped),.bool ((z31_1 c v4 v2 v3_5 v3_6 v3_7 v3_8 v3_9 i).wrecked),.int .i64 ((z31_1 c v4 v2 v3_5 v3_6 v3_7 v3_8 v3_9 i).rounds),.int .i64 ((z31_1 c v4 v2 v3_5 v3_6 v3_7 v3_8 v3_9 i).gone)],false⟩,⟨true,c.cars.length,4,true,(rowCar (z31_1 c v4 v2 v3_5 v3_6 v3_7 v3_8 v3_9 i).cars),true⟩,⟨true,0,1,true,(rowB (z31_1 c v4 v2 v3_5 v3_6 v3_7 v3_8 v3_9 i).gos),true⟩],InR .i64 ((i:Int)+1)])
 (hg:G Try.prog E (f31K0 Try.prog) ⟨([J,J,.ptr 0 0 0,J,J,J,J,.ptr 3 0 0]++jj 9 ([.int .i64 ticks,.int .i64 ((i:Int)+1)]++Js 12)),[⟨true,0,1,true,(z31_2 c),false⟩,⟨true,0,1,true,(z31_2 c),false⟩,⟨true,0,1,true,(rowB (z31_1 c v4 v2 v3_5 v3_6 v3_7 v3_8 v3_9 i).gos),true⟩,⟨true,0,1,false,[.rsl (rowBk c.blocks) 0 c.blocks.length,.rsl (rowI c.cars) 0 c.cars.length,.rsl (rowFlt ([]:List Flt)) 0 (([]:List Flt).length),.sl 4 c.cars.length 0 ((z31_1 c v4 v2 v3_5 v3_6 v3_7 v3_8 v3_9 i).cars.length) 4,.sl 2 0 0 ((z31_1 c v4 v2 v3_5 v3_6 v3_7 v3_8 v3_9 i).gos.length) 1,.int .i64 ((z31_1 c v4 v2 v3_5 v3_6 v3_7 v3_8 v3_9 i).tick),.int .i64 ((z31_1 c v4 v2 v3_5 v3_6 v3_7 v3_8 v3_9 i).stopped),.bool ((z31_1 c v4 v2 v3_5 v3_6 v3_7 v3_8 v3_9 i).wrecked),.int .i64 ((z31_1 c v4 v2 v3_5 v3_6 v3_7 v3_8 v3_9 i).rounds),.int .i64 ((z31_1 c v4 v2 v3_5 v3_6 v3_7 v3_8 v3_9 i).gone)],false⟩,⟨true,c.cars.length,4,true,(rowCar (z31_1 c v4 v2 v3_5 v3_6 v3_7 v3_8 v3_9 i).cars),true⟩]⟩):G Try.prog E (f31K0 Try.prog) (f31S0 c ticks v4 v2 i v3_5 v3_6 v3_7 v3_8 v3_9 ) :=
 segC_step (n:=400) (ds:=[]) (cs:=[]) (live:=[2,7,17,18]) (m:=5) (evs:=[.b true,.v (.rsl (rowPrs (prsI c (i:Int))) 0 ((prsI c (i:Int)).length)),.lent [3,4,2] (.tup []) [⟨true,0,1,false,[.rsl (rowBk c.blocks) 0 c.blocks.length,.rsl (rowI c.cars) 0 c.cars.length,.rsl (rowFlt ([]:List Flt)) 0 (([]:List Flt).length),.sl 1 c.cars.length 0 ((stepT (⟨c,([]:List Flt),v4,v2,v3_5,v3_6,v3_7,v3_8,v3_9⟩:Trk) (prsI c (i:Int))).cars.length) 4,.sl 2 0 0 ((stepT (⟨c,([]:List Flt),v4,v2,v3_5,v3_6,v3_7,v3_8,v3_9⟩:Trk) (prsI c (i:Int))).gos.length) 1,.int .i64 ((stepT (⟨c,([]:List Flt),v4,v2,v3_5,v3_6,v3_7,v3_8,v3_9⟩:Trk) (prsI c (i:Int))).tick),.int .i64 ((stepT (⟨c,([]:List Flt),v4,v2,v3_5,v3_6,v3_7,v3_8,v3_9⟩:Trk) (prsI c (i:Int))).stopped),.bool ((stepT (⟨c,([]:List Flt),v4,v2,v3_5,v3_6,v3_7,v3_8,v3_9⟩:Trk) (prsI c (i:Int))).wrecked),.int .i64 ((stepT (⟨c,([]:List Flt),v4,v2,v3_5,v3_6,v3_7,v3_8,v3_9⟩:Trk) (prsI c (i:Int))).rounds),.int .i64 ((stepT (⟨c,([]:List Flt),v4,v2,v3_5,v3_6,v3_7,v3_8,v3_9⟩:Trk) (prsI c (i:Int))).gone)],false⟩,⟨true,c.cars.length,4,true,(rowCar (stepT (⟨c,([]:List Flt),v4,v2,v3_5,v3_6,v3_7,v3_8,v3_9⟩:Trk) (prsI c (i:Int))).cars),true⟩,⟨true,0,1,true,(rowB (stepT (⟨c,([]:List Flt),v4,v2,v3_5,v3_6,v3_7,v3_8,v3_9⟩:Trk) (prsI c (i:Int))).gos),true⟩],.stop]) (obs:=_) hE.2.1 (hE.nogh _) mixed (by kernel_rfl) ho hg
theorem p31_0_1 (c:Cir) (ticks:Int) (v4:List Car) (v2:List Bool) (i:Nat) (v3_5:Int) (v3_6:Int) (v3_7:Bool) (v3_8:Int) (v3_9:Int) {E:Env} {res:AV} (hE:PureE Try.prog 31 res E) (ho:AllP [(decide ((i:Int)<ticks))=false])
 (hr:AvLe (.tup [.int .i64 v3_8,.int .i64 0]) res):G Try.prog E (f31K0 Try.prog) (f31S0 c ticks v4 v2 i v3_5 v3_6 v3_7 v3_8 v3_9 ) :=
 end_stepL (n:=400) (evs:=[.b false]) (obs:=_) hE Try.func31 mixed (by kernel_rfl) ho hr
theorem f31W0 (c:Cir) (ticks:Int) (v4:List Car) (v2:List Bool) (i:Nat) (v3_5:Int) (v3_6:Int) (v3_7:Bool) (v3_8:Int) (v3_9:Int) {E:Env} {rv:(Int × Int)} (hE:PureE Try.prog 31 (.tup [.int .i64 rv.1,.int .i64 rv.2]) E)
 (h:(((i:Int)<ticks→((c.blocks.length≤1000000)∧((StepIn (⟨c,([]:List Flt),v4,v2,v3_5,v3_6,v3_7,v3_8,v3_9⟩:Trk) (prsI c (i:Int)))∧((-9223372036854775808≤(i:Int)+1∧(i:Int)+1≤9223372036854775807)∧f31G0 E c ticks ((stepT (⟨c,([]:List Flt),v4,v2,v3_5,v3_6,v3_7,v3_8,v3_9⟩:Trk) (prsI c (i:Int))).cars) ((stepT (⟨c,([]:List Flt),v4,v2,v3_5,v3_6,v3_7,v3_8,v3_9⟩:Trk) (prsI c (i:Int))).gos) (i+1) ((stepT (⟨c,([]:List Flt),v4,v2,v3_5,v3_6,v3_7,v3_8,v3_9⟩:Trk) (prsI c (i:Int))).tick) ((stepT (⟨c,([]:List Flt),v4,v2,v3_5,v3_6,v3_7,v3_8,v3_9⟩:Trk) (prsI c (i:Int))).stopped) ((stepT (⟨c,([]:List Flt),v4,v2,v3_5,v3_6,v3_7,v3_8,v3_9⟩:Trk) (prsI c (i:Int))).wrecked) ((stepT (⟨c,([]:List Flt),v4,v2,v3_5,v3_6,v3_7,v3_8,v3_9⟩:Trk) (prsI c (i:Int))).rounds) ((stepT (⟨c,([]:List Flt),v4,v2,v3_5,v3_6,v3_7,v3_8,v3_9⟩:Trk) (prsI c (i:Int))).gone)))))∧(¬ ((i:Int)<ticks)→rv=(v3_8,0)))):f31G0 E c ticks v4 v2 i v3_5 v3_6 v3_7 v3_8 v3_9:=by
 rcases Bool.eq_false_or_eq_true (decide ((i:Int)<ticks)) with hc0 | hc0
 · have h:=h.1 (of_decide_eq_true hc0)
   obtain ⟨h1,h⟩:=h
   obtain ⟨h2,h⟩:=h
   obtain ⟨q3_1,h⟩:=h
   exact p31_0_0 c ticks v4 v2 i v3_5 v3_6 v3_7 v3_8 v3_9 hE ⟨hc0,(pureF_of Try.func55 (by kernel_rfl) f55b (pressed_ok c (i:Int) h1)),(lentF_of Try.func45 (by kernel_rfl) f45b (step2_ok (prsI c (i:Int)) c ([]:List Flt) v4 v2 v3_5 v3_6 v3_7 v3_8 v3_9 c.cars.length 0 h2)),q3_1,trivial⟩ h
 · have h:=h.2 (of_decide_eq_false hc0)
   exact p31_0_1 c ticks v4 v2 i v3_5 v3_6 v3_7 v3_8 v3_9 hE ⟨hc0,trivial⟩ (AvLe.of_eq (by rw [h]; try rfl))
theorem f32b:Try.f32.body=some (bodyAt Try.prog 32):=by kernel_rfl
def f32K0 (P:Program):List Item:=kAt 400 [.code (bodyAt P 32)] [.b false,.stop]
def f32S0 (c:Cir) (ticks:Int) (v5:List Spt) (v3:List Int) (v2:List Bool) (n:Nat) (t:Nat) (v4_5:Bool):St:=⟨([J,.int .i64 ticks]++jj 5 ([.int .i64 (n:Int),.ptr 4 0 0,.int .i64 (t:Int)]++Js 19)),[⟨true,0,1,true,[.rsl (rowBk c.blocks) 0 c.blocks.length,.rsl (rowI c.cars) 0 c.cars.length],false⟩,⟨true,0,1,true,[.rsl (rowBk c.blocks) 0 c.blocks.length,.rsl (rowI c.cars) 0 c.cars.length],false⟩,⟨true,0,1,true,(rowB v2),true⟩,⟨true,0,1,true,(rowI v3),true⟩,⟨true,0,1,false,[.rsl (rowBk c.blocks) 0 c.blocks.length,.rsl (rowI c.cars) 0 c.cars.length,.sl 5 c.cars.length 0 v5.length 3,.sl 3 0 0 v3.length 1,.sl 2 0 0 v2.length 1,.bool v4_5],false⟩,⟨true,c.cars.length,3,true,(rowSpt v5),true⟩]⟩
def f32G0 (E:Env) (c:Cir) (ticks:Int) (v5:List Spt) (v3:List Int) (v2:List Bool) (n:Nat) (t:Nat) (v4_5:Bool):Prop:=G Try.prog E (f32K0 Try.prog) (f32S0 c ticks v5 v3 v2 n t v4_5 )
abbrev z32_2 (c:Cir):List AV:=[.rsl (rowBk c.blocks) 0 c.blocks.length,.rsl (rowI c.cars) 0 c.cars.length]
abbrev z32_1 (c:Cir) (v5:List Spt) (v3:List Int) (v2:List Bool) (v4_5:Bool) (t:Nat):List Blk:=[⟨true,0,1,true,(z32_2 c),false⟩,⟨true,0,1,true,(z32_2 c),false⟩,⟨true,0,1,true,(rowB (fullR (⟨c,v5,v3,v2,v4_5⟩:Rn) (t:Int)).go),true⟩,⟨true,0,1,true,(rowI (fullR (⟨c,v5,v3,v2,v4_5⟩:Rn) (t:Int)).stood),true⟩,⟨true,0,1,false,[.rsl (rowBk c.blocks) 0 c.blocks.length,.rsl (rowI c.cars) 0 c.cars.length,.sl 5 c.cars.length 0 ((fullR (⟨c,v5,v3,v2,v4_5⟩:Rn) (t:Int)).spots.length) 3,.sl 3 0 0 ((fullR (⟨c,v5,v3,v2,v4_5⟩:Rn) (t:Int)).stood.length) 1,.sl 2 0 0 ((fullR (⟨c,v5,v3,v2,v4_5⟩:Rn) (t:Int)).go.length) 1,.bool ((fullR (⟨c,v5,v3,v2,v4_5⟩:Rn) (t:Int)).stp)],false⟩,⟨true,c.cars.length,3,true,(rowSpt (fullR (⟨c,v5,v3,v2,v4_5⟩:Rn) (t:Int)).spots),true⟩]
abbrev z32_3 (c:Cir) (v5:List Spt) (v3:List Int) (v2:List Bool) (v4_5:Bool) (t:Nat):List Blk:=[⟨true,0,1,false,[.rsl (rowBk c.blocks) 0 c.blocks.length,.rsl (rowI c.cars) 0 c.cars.length,.sl 1 c.cars.length 0 ((fullR (⟨c,v5,v3,v2,v4_5⟩:Rn) (t:Int)).spots.length) 3,.sl 2 0 0 ((fullR (⟨c,v5,v3,v2,v4_5⟩:Rn) (t:Int)).stood.length) 1,.sl 3 0 0 ((fullR (⟨c,v5,v3,v2,v4_5⟩:Rn) (t:Int)).go.length) 1,.bool ((fullR (⟨c,v5,v3,v2,v4_5⟩:Rn) (t:Int)).stp)],false⟩,⟨true,c.cars.length,3,true,(rowSpt (fullR (⟨c,v5,v3,v2,v4_5⟩:Rn) (t:Int)).spots),true⟩,⟨true,0,1,true,(rowI (fullR (⟨c,v5,v3,v2,v4_5⟩:Rn) (t:Int)).stood),true⟩,⟨true,0,1,true,(rowB (fullR (⟨c,v5,v3,v2,v4_5⟩:Rn) (t:Int)).go),true⟩]
abbrev z32_4 (c:Cir) (v5:List Spt) (v3:List Int) (v2:List Bool) (v4_5:Bool):List Blk:=[⟨true,0,1,false,[.rsl (rowBk c.blocks) 0 c.blocks.length,.rsl (rowI c.cars) 0 c.cars.length,.sl 1 c.cars.length 0 v5.length 3,.sl 2 0 0 v3.length 1,.sl 3 0 0 v2.length 1,.bool v4_5],false⟩,⟨true,c.cars.length,3,true,(rowSpt v5),true⟩,⟨true,0,1,true,(rowI v3),true⟩,⟨true,0,1,true,(rowB v2),true⟩]
theorem p32_start_0 (c:Cir) (ticks:Int) {E:Env} {res:AV} (hE:PureE Try.prog 32 res E) (ho:AllP [PureF Try.prog (.clos 56 [] []) [.agg (z32_2 c),.int .i64 ticks] (.int .i64 (checkT c ticks)),((checkT c ticks) != 0)=true])
 (hr:AvLe (.tup [.int .i64 0,.int .i64 (checkT c ticks)]) res):G Try.prog E [.code (bodyAt Try.prog 32)] ⟨[.agg (z32_2 c),.int .i64 ticks]++unds (Try.f32.ntmps - 2),[]⟩ :=
 end_stepL (n:=400) (evs:=[.v (.int .i64 (checkT c ticks)),.b true]) (obs:=_) hE Try.func32 mixed (by kernel_rfl) ho hr
theorem p32_start_1 (c:Cir) (ticks:Int) {E:Env} {rv:AV} (hE:PureE Try.prog 32 rv E) (ho:AllP [PureF Try.prog (.clos 56 [] []) [.agg (z32_2 c),.int .i64 ticks] (.int .i64 (checkT c ticks)),((checkT c ticks) != 0)=false,LentF Try.prog (.clos 48 [] []) [.agg (z32_2 c)] [] (.ptr 3 0 0) [⟨true,0,1,true,(z32_2 c),false⟩,⟨true,0,1,true,(rowB (beginR c).go),true⟩,⟨true,0,1,true,(rowI (beginR c).stood),true⟩,⟨true,0,1,false,[.rsl (rowBk c.blocks) 0 c.blocks.length,.rsl (rowI c.cars) 0 c.cars.length,.sl 4 c.cars.length 0 ((beginR c).spots.length) 3,.sl 2 0 0 ((beginR c).stood.length) 1,.sl 1 0 0 ((beginR c).go.length) 1,.bool false],false⟩,⟨true,c.cars.length,3,true,(rowSpt (beginR c).spots),true⟩]])
 (hg:G Try.prog E (f32K0 Try.prog) ⟨([J,.int .i64 ticks]++jj 5 ([.int .i64 0,.ptr 4 0 0,.int .i64 0]++Js 19)),[⟨true,0,1,true,(z32_2 c),false⟩,⟨true,0,1,true,(z32_2 c),false⟩,⟨true,0,1,true,(rowB (beginR c).go),true⟩,⟨true,0,1,true,(rowI (beginR c).stood),true⟩,⟨true,0,1,false,[.rsl (rowBk c.blocks) 0 c.blocks.length,.rsl (rowI c.cars) 0 c.cars.length,.sl 5 c.cars.length 0 ((beginR c).spots.length) 3,.sl 3 0 0 ((beginR c).stood.length) 1,.sl 2 0 0 ((beginR c).go.length) 1,.bool false],false⟩,⟨true,c.cars.length,3,true,(rowSpt (beginR c).spots),true⟩]⟩):G Try.prog E [.code (bodyAt Try.prog 32)] ⟨[.agg (z32_2 c),.int .i64 ticks]++unds (Try.f32.ntmps - 2),[]⟩ :=
 segC_step (n:=400) (ds:=[]) (cs:=[]) (live:=[1,7,8,9]) (m:=6) (evs:=[.v (.int .i64 (checkT c ticks)),.b false,.lent [] (.ptr 3 0 0) [⟨true,0,1,true,[.rsl (rowBk c.blocks) 0 c.blocks.length,.rsl (rowI c.cars) 0 c.cars.length],false⟩,⟨true,0,1,true,(rowB (beginR c).go),true⟩,⟨true,0,1,true,(rowI (beginR c).stood),true⟩,⟨true,0,1,false,[.rsl (rowBk c.blocks) 0 c.blocks.length,.rsl (rowI c.cars) 0 c.cars.length,.sl 4 c.cars.length 0 ((beginR c).spots.length) 3,.sl 2 0 0 ((beginR c).stood.length) 1,.sl 1 0 0 ((beginR c).go.length) 1,.bool false],false⟩,⟨true,c.cars.length,3,true,(rowSpt (beginR c).spots),true⟩],.stop]) (obs:=_) hE.2.1 (hE.nogh _) mixed (by kernel_rfl) ho hg
theorem f32W (c:Cir) (ticks:Int) {E:Env} {rv:(Int × Int)} (hE:PureE Try.prog 32 (.tup [.int .i64 rv.1,.int .i64 rv.2]) E)
 (h:((c.blocks.length≤9223372036854775807∧c.cars.length≤9223372036854775807)∧((¬ ((checkT c ticks)=0)→rv=(0,(checkT c ticks)))∧((checkT c ticks)=0→((NewIn c)∧f32G0 E c ticks ((beginR c).spots) ((beginR c).stood) ((beginR c).go) 0 0 false))))):G Try.prog E [.code (bodyAt Try.prog 32)] ⟨[.agg [.rsl (rowBk c.blocks) 0 c.blocks.length,.rsl (rowI c.cars) 0 c.cars.length],.int .i64 ticks]++unds (Try.f32.ntmps - 2),[]⟩:=by
 obtain ⟨h1,h⟩:=h
 rcases Bool.eq_false_or_eq_true ((checkT c ticks) != 0) with hc0 | hc0
 · have h:=h.1 (bneT hc0)
   exact p32_start_0 c ticks hE ⟨(pureF_of Try.func56 (by kernel_rfl) f56b (checkT_ok c ticks h1)),hc0,trivial⟩ (AvLe.of_eq (by rw [h]; try rfl))
 · have h:=h.2 (bneF hc0)
   obtain ⟨h2,h⟩:=h
   exact p32_start_1 c ticks hE ⟨(pureF_of Try.func56 (by kernel_rfl) f56b (checkT_ok c ticks h1)),hc0,(lentF_of Try.func48 (by kernel_rfl) f48b (begin_ok c h2)),trivial⟩ h
theorem p32_0_0 (c:Cir) (ticks:Int) (v5:List Spt) (v3:List Int) (v2:List Bool) (n:Nat) (t:Nat) (v4_5:Bool) {E:Env} {rv:AV} (hE:PureE Try.prog 32 rv E) (ho:AllP [(decide ((t:Int)<ticks))=true,LentF Try.prog (.clos 57 [] []) [.ptr 0 0 0,.int .i64 (t:Int)] (z32_4 c v5 v3 v2 v4_5) (.bool (fullB (⟨c,v5,v3,v2,v4_5⟩:Rn) (t:Int))) (z32_3 c v5 v3 v2 v4_5 t),(fullB (⟨c,v5,v3,v2,v4_5⟩:Rn) (t:Int))=true,InR .i64 ((n:Int)+1),InR .i64 ((t:Int)+1)])
 (hg:G Try.prog E (f32K0 Try.prog) ⟨([J,.int .i64 ticks]++jj 5 ([.int .i64 ((n:Int)+1),.ptr 4 0 0,.int .i64 ((t:Int)+1)]++Js 19)),(z32_1 c v5 v3 v2 v4_5 t)⟩):G Try.prog E (f32K0 Try.prog) (f32S0 c ticks v5 v3 v2 n t v4_5 ) :=
 segC_step (n:=400) (ds:=[]) (cs:=[]) (live:=[1,7,8,9]) (m:=6) (evs:=[.b true,.lent [4,5,3,2] (.bool (fullB (⟨c,v5,v3,v2,v4_5⟩:Rn) (t:Int))) [⟨true,0,1,false,[.rsl (rowBk c.blocks) 0 c.blocks.length,.rsl (rowI c.cars) 0 c.cars.length,.sl 1 c.cars.length 0 ((fullR (⟨c,v5,v3,v2,v4_5⟩:Rn) (t:Int)).spots.length) 3,.sl 2 0 0 ((fullR (⟨c,v5,v3,v2,v4_5⟩:Rn) (t:Int)).stood.length) 1,.sl 3 0 0 ((fullR (⟨c,v5,v3,v2,v4_5⟩:Rn) (t:Int)).go.length) 1,.bool ((fullR (⟨c,v5,v3,v2,v4_5⟩:Rn) (t:Int)).stp)],false⟩,⟨true,c.cars.length,3,true,(rowSpt (fullR (⟨c,v5,v3,v2,v4_5⟩:Rn) (t:Int)).spots),true⟩,⟨true,0,1,true,(rowI (fullR (⟨c,v5,v3,v2,v4_5⟩:Rn) (t:Int)).stood),true⟩,⟨true,0,1,true,(rowB (fullR (⟨c,v5,v3,v2,v4_5⟩:Rn) (t:Int)).go),true⟩],.b true,.stop]) (obs:=_) hE.2.1 (hE.nogh _) mixed (by kernel_rfl) ho hg
theorem p32_0_1 (c:Cir) (ticks:Int) (v5:List Spt) (v3:List Int) (v2:List Bool) (n:Nat) (t:Nat) (v4_5:Bool) {E:Env} {rv:AV} (hE:PureE Try.prog 32 rv E) (ho:AllP [(decide ((t:Int)<ticks))=true,LentF Try.prog (.clos 57 [] []) [.ptr 0 0 0,.int .i64 (t:Int)] (z32_4 c v5 v3 v2 v4_5) (.bool (fullB (⟨c,v5,v3,v2,v4_5⟩:Rn) (t:Int))) (z32_3 c v5 v3 v2 v4_5 t),(fullB (⟨c,v5,v3,v2,v4_5⟩:Rn) (t:Int))=false,InR .i64 ((t:Int)+1)])
 (hg:G Try.prog E (f32K0 Try.prog) ⟨([J,.int .i64 ticks]++jj 5 ([.int .i64 (n:Int),.ptr 4 0 0,.int .i64 ((t:Int)+1)]++Js 19)),(z32_1 c v5 v3 v2 v4_5 t)⟩):G Try.prog E (f32K0 Try.prog) (f32S0 c ticks v5 v3 v2 n t v4_5 ) :=
 segC_step (n:=400) (ds:=[]) (cs:=[]) (live:=[1,7,8,9]) (m:=6) (evs:=[.b true,.lent [4,5,3,2] (.bool (fullB (⟨c,v5,v3,v2,v4_5⟩:Rn) (t:Int))) [⟨true,0,1,false,[.rsl (rowBk c.blocks) 0 c.blocks.length,.rsl (rowI c.cars) 0 c.cars.length,.sl 1 c.cars.length 0 ((fullR (⟨c,v5,v3,v2,v4_5⟩:Rn) (t:Int)).spots.length) 3,.sl 2 0 0 ((fullR (⟨c,v5,v3,v2,v4_5⟩:Rn) (t:Int)).stood.length) 1,.sl 3 0 0 ((fullR (⟨c,v5,v3,v2,v4_5⟩:Rn) (t:Int)).go.length) 1,.bool ((fullR (⟨c,v5,v3,v2,v4_5⟩:Rn) (t:Int)).stp)],false⟩,⟨true,c.cars.length,3,true,(rowSpt (fullR (⟨c,v5,v3,v2,v4_5⟩:Rn) (t:Int)).spots),true⟩,⟨true,0,1,true,(rowI (fullR (⟨c,v5,v3,v2,v4_5⟩:Rn) (t:Int)).stood),true⟩,⟨true,0,1,true,(rowB (fullR (⟨c,v5,v3,v2,v4_5⟩:Rn) (t:Int)).go),true⟩],.b false,.stop]) (obs:=_) hE.2.1 (hE.nogh _) mixed (by kernel_rfl) ho hg
theorem p32_0_2 (c:Cir) (ticks:Int) (v5:List Spt) (v3:List Int) (v2:List Bool) (n:Nat) (t:Nat) (v4_5:Bool) {E:Env} {res:AV} (hE:PureE Try.prog 32 res E) (ho:AllP [(decide ((t:Int)<ticks))=false])
 (hr:AvLe (.tup [.int .i64 (n:Int),.int .i64 0]) res):G Try.prog E (f32K0 Try.prog) (f32S0 c ticks v5 v3 v2 n t v4_5 ) :=
 end_stepL (n:=400) (evs:=[.b false]) (obs:=_) hE Try.func32 mixed (by kernel_rfl) ho hr
theorem f32W0 (c:Cir) (ticks:Int) (v5:List Spt) (v3:List Int) (v2:List Bool) (n:Nat) (t:Nat) (v4_5:Bool) {E:Env} {rv:(Int × Int)} (hE:PureE Try.prog 32 (.tup [.int .i64 rv.1,.int .i64 rv.2]) E)
 (h:(((t:Int)<ticks→((FullIn (⟨c,v5,v3,v2,v4_5⟩:Rn) (t:Int))∧(((fullB (⟨c,v5,v3,v2,v4_5⟩:Rn) (t:Int))=true→((-9223372036854775808≤(n:Int)+1∧(n:Int)+1≤9223372036854775807)∧((-9223372036854775808≤(t:Int)+1∧(t:Int)+1≤9223372036854775807)∧f32G0 E c ticks ((fullR (⟨c,v5,v3,v2,v4_5⟩:Rn) (t:Int)).spots) ((fullR (⟨c,v5,v3,v2,v4_5⟩:Rn) (t:Int)).stood) ((fullR (⟨c,v5,v3,v2,v4_5⟩:Rn) (t:Int)).go) (n+1) (t+1) ((fullR (⟨c,v5,v3,v2,v4_5⟩:Rn) (t:Int)).stp))))∧((fullB (⟨c,v5,v3,v2,v4_5⟩:Rn) (t:Int))=false→((-9223372036854775808≤(t:Int)+1∧(t:Int)+1≤9223372036854775807)∧f32G0 E c ticks ((fullR (⟨c,v5,v3,v2,v4_5⟩:Rn) (t:Int)).spots) ((fullR (⟨c,v5,v3,v2,v4_5⟩:Rn) (t:Int)).stood) ((fullR (⟨c,v5,v3,v2,v4_5⟩:Rn) (t:Int)).go) n (t+1) ((fullR (⟨c,v5,v3,v2,v4_5⟩:Rn) (t:Int)).stp))))))∧(¬ ((t:Int)<ticks)→rv=((n:Int),0)))):f32G0 E c ticks v5 v3 v2 n t v4_5:=by
 rcases Bool.eq_false_or_eq_true (decide ((t:Int)<ticks)) with hc0 | hc0
 · have h:=h.1 (of_decide_eq_true hc0)
   obtain ⟨h1,h⟩:=h
   rcases Bool.eq_false_or_eq_true (fullB (⟨c,v5,v3,v2,v4_5⟩:Rn) (t:Int)) with hc1 | hc1
   · have h:=h.1 hc1
     obtain ⟨q3_2,h⟩:=h
     obtain ⟨q4_2,h⟩:=h
     exact p32_0_0 c ticks v5 v3 v2 n t v4_5 hE ⟨hc0,(lentF_of Try.func57 (by kernel_rfl) f57b (full_ok (t:Int) c v5 v3 v2 v4_5 c.cars.length 0 0 h1)),hc1,q3_2,q4_2,trivial⟩ h
   · have h:=h.2 hc1
     obtain ⟨q3_2,h⟩:=h
     exact p32_0_1 c ticks v5 v3 v2 n t v4_5 hE ⟨hc0,(lentF_of Try.func57 (by kernel_rfl) f57b (full_ok (t:Int) c v5 v3 v2 v4_5 c.cars.length 0 0 h1)),hc1,q3_2,trivial⟩ h
 · have h:=h.2 (of_decide_eq_false hc0)
   exact p32_0_2 c ticks v5 v3 v2 n t v4_5 hE ⟨hc0,trivial⟩ (AvLe.of_eq (by rw [h]; try rfl))
theorem rounds_ok (c:Cir) (ticks:Int) (h:c.blocks.length≤9223372036854775807∧c.cars.length≤9223372036854775807):Pure Try.prog 31 [.agg [.rsl (rowBk c.blocks) 0 c.blocks.length,.rsl (rowI c.cars) 0 c.cars.length],.int .i64 ticks] (.tup [.int .i64 (roundsK c ticks).1,.int .i64 (roundsK c ticks).2]):=pure_of Try.func31 f31b fun E hE=>by
 refine f31W c ticks (rv:=roundsK c ticks) hE ⟨⟨h,by simp,by simp⟩,fun h0=>by rw [checkP_nil] at h0 ⊢; rw [roundsK,if_neg h0],fun h0=>?_⟩
 obtain ⟨hc,hp⟩:=play_in h0
 have ht:=hp.tk
 have hk:=hp.chk
 have hnb:=hk.nb
 rw [checkP_nil] at h0
 refine ⟨hk.new,?_⟩
 have key:∀ (d i:Nat),i+d=Int.toNat ticks→f31G0 E c ticks (fullT c i).cars (fullT c i).gos i (fullT c i).tick (fullT c i).stopped (fullT c i).wrecked (fullT c i).rounds (fullT c i).gone:=by
  intro d
  induction d with
  | zero =>
   intro i hi
   refine f31W0 c ticks _ _ i _ _ _ _ _ (rv:=roundsK c ticks) hE ⟨fun h=>by omega,fun _=>?_⟩
   rw [roundsK,if_pos h0,show Int.toNat ticks=i by omega]
  | succ d ih =>
   intro i hi
   have nx:=ih (i+1) (by omega)
   have e1:(⟨c,[],(fullT c i).cars,(fullT c i).gos,(fullT c i).tick,(fullT c i).stopped,(fullT c i).wrecked,(fullT c i).rounds,(fullT c i).gone⟩:Trk)=fullT c i:=trk_eta full_c full_f
   refine f31W0 c ticks _ _ i _ _ _ _ _ (rv:=roundsK c ticks) hE ⟨fun _=>⟨by omega,?_⟩,fun h=>by omega⟩
   rw [e1]
   exact ⟨full_stepIn hk (by omega),by omega,nx⟩
 exact key (Int.toNat ticks) 0 (by omega)
theorem roundsR_ok (c:Cir) (ticks:Int) (h:c.blocks.length≤9223372036854775807∧c.cars.length≤9223372036854775807):Pure Try.prog 32 [.agg [.rsl (rowBk c.blocks) 0 c.blocks.length,.rsl (rowI c.cars) 0 c.cars.length],.int .i64 ticks] (.tup [.int .i64 (roundsK c ticks).1,.int .i64 (roundsK c ticks).2]):=pure_of Try.func32 f32b fun E hE=>by
 refine f32W c ticks (rv:=roundsK c ticks) hE ⟨h,fun h0=>by rw [roundsK,if_neg h0],fun h0=>?_⟩
 have h1:checkP c ticks [] []=0:=by rw [checkP_nil]; exact h0
 obtain ⟨hc,hp⟩:=play_in h1
 have ht:=hp.tk
 have hk:=hp.chk
 have hnb:=hk.nb
 refine ⟨hk.new,?_⟩
 have key:∀ (d i n:Nat),i+d=Int.toNat ticks→(fullT c i).rounds=(n:Int)→n≤i→f32G0 E c ticks (runOf (fullT c i)).spots (runOf (fullT c i)).stood (runOf (fullT c i)).go n i (runOf (fullT c i)).stp:=by
  intro d
  induction d with
  | zero =>
   intro i n hi hr hn
   refine f32W0 c ticks _ _ _ n i _ (rv:=roundsK c ticks) hE ⟨fun h=>by omega,fun _=>?_⟩
   rw [roundsK,if_pos h0,show Int.toNat ticks=i by omega,hr]
  | succ d ih =>
   intro i n hi hr hn
   obtain ⟨n1,n2,n3⟩:=full_next hk (n:=i) (by omega)
   refine f32W0 c ticks _ _ _ n i _ (rv:=roundsK c ticks) hE ⟨fun _=>?_,fun h=>by omega⟩
   rw [rn_eta (show (runOf (fullT c i)).c=c from full_c),n2]
   refine ⟨n1,fun hb=>⟨by omega,by omega,?_⟩,fun hb=>⟨by omega,?_⟩⟩
   · rw [hb,if_pos rfl] at n3; exact ih (i+1) (n+1) (by omega) (by omega) (by omega)
   · rw [hb,if_neg (by simp)] at n3; exact ih (i+1) n (by omega) (by omega) (by omega)
 exact key (Int.toNat ticks) 0 0 (by omega) rfl (by omega)
theorem f9b:Try.f9.body=some (bodyAt Try.prog 9):=by kernel_rfl
abbrev z9_1 (c:Cir):List AV:=[.rsl (rowBk c.blocks) 0 c.blocks.length,.rsl (rowI c.cars) 0 c.cars.length]
abbrev z9_2 (c:Cir) (ticks:Int):AV:=.tup [.int .i64 ((roundsK c ticks).1),.int .i64 ((roundsK c ticks).2)]
theorem p9_start_0 (c:Cir) (ticks:Int) {E:Env} {res:AV} (hE:PureE Try.prog 9 res E) (ho:AllP [PureF Try.prog (.clos 15 [] []) [.agg (z9_1 c)] (.bool (farB c)),(farB c)=true,true=true,PureF Try.prog (.clos 17 [] []) [] (.bool true)])
 (hr:AvLe (.bool true) res):G Try.prog E [.code (bodyAt Try.prog 9)] ⟨[.agg (z9_1 c),.int .i64 ticks]++unds (Try.f9.ntmps - 2),[]⟩ :=
 end_stepL (n:=400) (evs:=[.v (.bool (farB c)),.b true,.b true,.v (.bool true)]) (obs:=_) hE Try.func9 mixed (by kernel_rfl) ho hr
theorem p9_start_1 (c:Cir) (ticks:Int) {E:Env} {res:AV} (hE:PureE Try.prog 9 res E) (ho:AllP [PureF Try.prog (.clos 15 [] []) [.agg (z9_1 c)] (.bool (farB c)),(farB c)=false,(decide (ticks > 300))=true,(decide (ticks≤500))=true,PureF Try.prog (.clos 17 [] []) [] (.bool true)])
 (hr:AvLe (.bool true) res):G Try.prog E [.code (bodyAt Try.prog 9)] ⟨[.agg (z9_1 c),.int .i64 ticks]++unds (Try.f9.ntmps - 2),[]⟩ :=
 end_stepL (n:=400) (evs:=[.v (.bool (farB c)),.b false,.b true,.b true,.v (.bool true)]) (obs:=_) hE Try.func9 mixed (by kernel_rfl) ho hr
theorem p9_start_2 (c:Cir) (ticks:Int) {E:Env} {res:AV} (hE:PureE Try.prog 9 res E) (ho:AllP [PureF Try.prog (.clos 15 [] []) [.agg (z9_1 c)] (.bool (farB c)),(farB c)=false,(decide (ticks > 300))=true,(decide (ticks≤500))=false,PureF Try.prog (.clos 18 [] []) [.agg (z9_1 c)] (.agg (z9_1 c)),PureF Try.prog (.clos 31 [] []) [.agg (z9_1 c),.int .i64 ticks] (z9_2 c ticks),PureF Try.prog (.clos 32 [] []) [.agg (z9_1 c),.int .i64 ticks] (z9_2 c ticks),((roundsK c ticks).1 == (roundsK c ticks).1)=true,((roundsK c ticks).2 == (roundsK c ticks).2)=true,PureF Try.prog (.clos 17 [] []) [] (.bool true)])
 (hr:AvLe (.bool true) res):G Try.prog E [.code (bodyAt Try.prog 9)] ⟨[.agg (z9_1 c),.int .i64 ticks]++unds (Try.f9.ntmps - 2),[]⟩ :=
 end_stepL (n:=400) (evs:=[.v (.bool (farB c)),.b false,.b true,.b false,.v (.agg [.rsl (rowBk c.blocks) 0 c.blocks.length,.rsl (rowI c.cars) 0 c.cars.length]),.v (.tup [.int .i64 ((roundsK c ticks).1),.int .i64 ((roundsK c ticks).2)]),.v (.tup [.int .i64 ((roundsK c ticks).1),.int .i64 ((roundsK c ticks).2)]),.b true,.b true,.v (.bool true)]) (obs:=_) hE Try.func9 mixed (by kernel_rfl) ho hr
theorem p9_start_3 (c:Cir) (ticks:Int) {E:Env} {res:AV} (hE:PureE Try.prog 9 res E) (ho:AllP [PureF Try.prog (.clos 15 [] []) [.agg (z9_1 c)] (.bool (farB c)),(farB c)=false,(decide (ticks > 300))=true,(decide (ticks≤500))=false,PureF Try.prog (.clos 18 [] []) [.agg (z9_1 c)] (.agg (z9_1 c)),PureF Try.prog (.clos 31 [] []) [.agg (z9_1 c),.int .i64 ticks] (z9_2 c ticks),PureF Try.prog (.clos 32 [] []) [.agg (z9_1 c),.int .i64 ticks] (z9_2 c ticks),((roundsK c ticks).1 == (roundsK c ticks).1)=true,((roundsK c ticks).2 == (roundsK c ticks).2)=false])
 (hr:AvLe (.bool false) res):G Try.prog E [.code (bodyAt Try.prog 9)] ⟨[.agg (z9_1 c),.int .i64 ticks]++unds (Try.f9.ntmps - 2),[]⟩ :=
 end_stepL (n:=400) (evs:=[.v (.bool (farB c)),.b false,.b true,.b false,.v (.agg [.rsl (rowBk c.blocks) 0 c.blocks.length,.rsl (rowI c.cars) 0 c.cars.length]),.v (.tup [.int .i64 ((roundsK c ticks).1),.int .i64 ((roundsK c ticks).2)]),.v (.tup [.int .i64 ((roundsK c ticks).1),.int .i64 ((roundsK c ticks).2)]),.b true,.b false]) (obs:=_) hE Try.func9 mixed (by kernel_rfl) ho hr
theorem p9_start_4 (c:Cir) (ticks:Int) {E:Env} {res:AV} (hE:PureE Try.prog 9 res E) (ho:AllP [PureF Try.prog (.clos 15 [] []) [.agg (z9_1 c)] (.bool (farB c)),(farB c)=false,(decide (ticks > 300))=true,(decide (ticks≤500))=false,PureF Try.prog (.clos 18 [] []) [.agg (z9_1 c)] (.agg (z9_1 c)),PureF Try.prog (.clos 31 [] []) [.agg (z9_1 c),.int .i64 ticks] (z9_2 c ticks),PureF Try.prog (.clos 32 [] []) [.agg (z9_1 c),.int .i64 ticks] (z9_2 c ticks),((roundsK c ticks).1 == (roundsK c ticks).1)=false,false=false])
 (hr:AvLe (.bool false) res):G Try.prog E [.code (bodyAt Try.prog 9)] ⟨[.agg (z9_1 c),.int .i64 ticks]++unds (Try.f9.ntmps - 2),[]⟩ :=
 end_stepL (n:=400) (evs:=[.v (.bool (farB c)),.b false,.b true,.b false,.v (.agg [.rsl (rowBk c.blocks) 0 c.blocks.length,.rsl (rowI c.cars) 0 c.cars.length]),.v (.tup [.int .i64 ((roundsK c ticks).1),.int .i64 ((roundsK c ticks).2)]),.v (.tup [.int .i64 ((roundsK c ticks).1),.int .i64 ((roundsK c ticks).2)]),.b false,.b false]) (obs:=_) hE Try.func9 mixed (by kernel_rfl) ho hr
theorem p9_start_5 (c:Cir) (ticks:Int) {E:Env} {res:AV} (hE:PureE Try.prog 9 res E) (ho:AllP [PureF Try.prog (.clos 15 [] []) [.agg (z9_1 c)] (.bool (farB c)),(farB c)=false,(decide (ticks > 300))=false,false=false,PureF Try.prog (.clos 18 [] []) [.agg (z9_1 c)] (.agg (z9_1 c)),PureF Try.prog (.clos 31 [] []) [.agg (z9_1 c),.int .i64 ticks] (z9_2 c ticks),PureF Try.prog (.clos 32 [] []) [.agg (z9_1 c),.int .i64 ticks] (z9_2 c ticks),((roundsK c ticks).1 == (roundsK c ticks).1)=true,((roundsK c ticks).2 == (roundsK c ticks).2)=true,PureF Try.prog (.clos 17 [] []) [] (.bool true)])
 (hr:AvLe (.bool true) res):G Try.prog E [.code (bodyAt Try.prog 9)] ⟨[.agg (z9_1 c),.int .i64 ticks]++unds (Try.f9.ntmps - 2),[]⟩ :=
 end_stepL (n:=400) (evs:=[.v (.bool (farB c)),.b false,.b false,.b false,.v (.agg [.rsl (rowBk c.blocks) 0 c.blocks.length,.rsl (rowI c.cars) 0 c.cars.length]),.v (.tup [.int .i64 ((roundsK c ticks).1),.int .i64 ((roundsK c ticks).2)]),.v (.tup [.int .i64 ((roundsK c ticks).1),.int .i64 ((roundsK c ticks).2)]),.b true,.b true,.v (.bool true)]) (obs:=_) hE Try.func9 mixed (by kernel_rfl) ho hr
theorem p9_start_6 (c:Cir) (ticks:Int) {E:Env} {res:AV} (hE:PureE Try.prog 9 res E) (ho:AllP [PureF Try.prog (.clos 15 [] []) [.agg (z9_1 c)] (.bool (farB c)),(farB c)=false,(decide (ticks > 300))=false,false=false,PureF Try.prog (.clos 18 [] []) [.agg (z9_1 c)] (.agg (z9_1 c)),PureF Try.prog (.clos 31 [] []) [.agg (z9_1 c),.int .i64 ticks] (z9_2 c ticks),PureF Try.prog (.clos 32 [] []) [.agg (z9_1 c),.int .i64 ticks] (z9_2 c ticks),((roundsK c ticks).1 == (roundsK c ticks).1)=true,((roundsK c ticks).2 == (roundsK c ticks).2)=false])
 (hr:AvLe (.bool false) res):G Try.prog E [.code (bodyAt Try.prog 9)] ⟨[.agg (z9_1 c),.int .i64 ticks]++unds (Try.f9.ntmps - 2),[]⟩ :=
 end_stepL (n:=400) (evs:=[.v (.bool (farB c)),.b false,.b false,.b false,.v (.agg [.rsl (rowBk c.blocks) 0 c.blocks.length,.rsl (rowI c.cars) 0 c.cars.length]),.v (.tup [.int .i64 ((roundsK c ticks).1),.int .i64 ((roundsK c ticks).2)]),.v (.tup [.int .i64 ((roundsK c ticks).1),.int .i64 ((roundsK c ticks).2)]),.b true,.b false]) (obs:=_) hE Try.func9 mixed (by kernel_rfl) ho hr
theorem p9_start_7 (c:Cir) (ticks:Int) {E:Env} {res:AV} (hE:PureE Try.prog 9 res E) (ho:AllP [PureF Try.prog (.clos 15 [] []) [.agg (z9_1 c)] (.bool (farB c)),(farB c)=false,(decide (ticks > 300))=false,false=false,PureF Try.prog (.clos 18 [] []) [.agg (z9_1 c)] (.agg (z9_1 c)),PureF Try.prog (.clos 31 [] []) [.agg (z9_1 c),.int .i64 ticks] (z9_2 c ticks),PureF Try.prog (.clos 32 [] []) [.agg (z9_1 c),.int .i64 ticks] (z9_2 c ticks),((roundsK c ticks).1 == (roundsK c ticks).1)=false,false=false])
 (hr:AvLe (.bool false) res):G Try.prog E [.code (bodyAt Try.prog 9)] ⟨[.agg (z9_1 c),.int .i64 ticks]++unds (Try.f9.ntmps - 2),[]⟩ :=
 end_stepL (n:=400) (evs:=[.v (.bool (farB c)),.b false,.b false,.b false,.v (.agg [.rsl (rowBk c.blocks) 0 c.blocks.length,.rsl (rowI c.cars) 0 c.cars.length]),.v (.tup [.int .i64 ((roundsK c ticks).1),.int .i64 ((roundsK c ticks).2)]),.v (.tup [.int .i64 ((roundsK c ticks).1),.int .i64 ((roundsK c ticks).2)]),.b false,.b false]) (obs:=_) hE Try.func9 mixed (by kernel_rfl) ho hr
theorem f9W (c:Cir) (ticks:Int) {E:Env} {rv:Bool} (hE:PureE Try.prog 9 (.bool rv) E)
 (h:(((farB c)=true→rv=true)∧((farB c)=false→((ticks > 300→((ticks≤500→rv=true)∧(¬ (ticks≤500)→((c.blocks.length≤2147483648∧c.cars.length≤2147483648)∧((c.blocks.length≤9223372036854775807∧c.cars.length≤9223372036854775807)∧((c.blocks.length≤9223372036854775807∧c.cars.length≤9223372036854775807)∧(((roundsK c ticks).1=(roundsK c ticks).1→(((roundsK c ticks).2=(roundsK c ticks).2→rv=true)∧(¬ ((roundsK c ticks).2=(roundsK c ticks).2)→rv=false)))∧(¬ ((roundsK c ticks).1=(roundsK c ticks).1)→rv=false))))))))∧(¬ (ticks > 300)→((c.blocks.length≤2147483648∧c.cars.length≤2147483648)∧((c.blocks.length≤9223372036854775807∧c.cars.length≤9223372036854775807)∧((c.blocks.length≤9223372036854775807∧c.cars.length≤9223372036854775807)∧(((roundsK c ticks).1=(roundsK c ticks).1→(((roundsK c ticks).2=(roundsK c ticks).2→rv=true)∧(¬ ((roundsK c ticks).2=(roundsK c ticks).2)→rv=false)))∧(¬ ((roundsK c ticks).1=(roundsK c ticks).1)→rv=false)))))))))):G Try.prog E [.code (bodyAt Try.prog 9)] ⟨[.agg [.rsl (rowBk c.blocks) 0 c.blocks.length,.rsl (rowI c.cars) 0 c.cars.length],.int .i64 ticks]++unds (Try.f9.ntmps - 2),[]⟩:=by
 rcases Bool.eq_false_or_eq_true (farB c) with hc0 | hc0
 · have h:=h.1 hc0
   exact p9_start_0 c ticks hE ⟨(pureF_of Try.func15 (by kernel_rfl) f15b (far_ok c)),hc0,rfl,(pureF_of Try.func17 (by kernel_rfl) f17b works_ok),trivial⟩ (AvLe.of_eq (by rw [h]; try rfl))
 · have h:=h.2 hc0
   rcases Bool.eq_false_or_eq_true (decide (ticks > 300)) with hc1 | hc1
   · have h:=h.1 (of_decide_eq_true hc1)
     rcases Bool.eq_false_or_eq_true (decide (ticks≤500)) with hc2 | hc2
     · have h:=h.1 (of_decide_eq_true hc2)
       exact p9_start_1 c ticks hE ⟨(pureF_of Try.func15 (by kernel_rfl) f15b (far_ok c)),hc0,hc1,hc2,(pureF_of Try.func17 (by kernel_rfl) f17b works_ok),trivial⟩ (AvLe.of_eq (by rw [h]; try rfl))
     · have h:=h.2 (of_decide_eq_false hc2)
       obtain ⟨h1,h⟩:=h
       obtain ⟨h2,h⟩:=h
       obtain ⟨h3,h⟩:=h
       rcases Bool.eq_false_or_eq_true ((roundsK c ticks).1 == (roundsK c ticks).1) with hc3 | hc3
       · have h:=h.1 (eq_of_beq hc3)
         rcases Bool.eq_false_or_eq_true ((roundsK c ticks).2 == (roundsK c ticks).2) with hc4 | hc4
         · have h:=h.1 (eq_of_beq hc4)
           exact p9_start_2 c ticks hE ⟨(pureF_of Try.func15 (by kernel_rfl) f15b (far_ok c)),hc0,hc1,hc2,(pureF_of Try.func18 (by kernel_rfl) f18b (copied_ok c h1)),(pureF_of Try.func31 (by kernel_rfl) f31b (rounds_ok c ticks h2)),(pureF_of Try.func32 (by kernel_rfl) f32b (roundsR_ok c ticks h3)),hc3,hc4,(pureF_of Try.func17 (by kernel_rfl) f17b works_ok),trivial⟩ (AvLe.of_eq (by rw [h]; try rfl))
         · have h:=h.2 (ne_of_beq_false hc4)
           exact p9_start_3 c ticks hE ⟨(pureF_of Try.func15 (by kernel_rfl) f15b (far_ok c)),hc0,hc1,hc2,(pureF_of Try.func18 (by kernel_rfl) f18b (copied_ok c h1)),(pureF_of Try.func31 (by kernel_rfl) f31b (rounds_ok c ticks h2)),(pureF_of Try.func32 (by kernel_rfl) f32b (roundsR_ok c ticks h3)),hc3,hc4,trivial⟩ (AvLe.of_eq (by rw [h]; try rfl))
       · have h:=h.2 (ne_of_beq_false hc3)
         exact p9_start_4 c ticks hE ⟨(pureF_of Try.func15 (by kernel_rfl) f15b (far_ok c)),hc0,hc1,hc2,(pureF_of Try.func18 (by kernel_rfl) f18b (copied_ok c h1)),(pureF_of Try.func31 (by kernel_rfl) f31b (rounds_ok c ticks h2)),(pureF_of Try.func32 (by kernel_rfl) f32b (roundsR_ok c ticks h3)),hc3,rfl,trivial⟩ (AvLe.of_eq (by rw [h]; try rfl))
   · have h:=h.2 (of_decide_eq_false hc1)
     obtain ⟨h1,h⟩:=h
     obtain ⟨h2,h⟩:=h
     obtain ⟨h3,h⟩:=h
     rcases Bool.eq_false_or_eq_true ((roundsK c ticks).1 == (roundsK c ticks).1) with hc2 | hc2
     · have h:=h.1 (eq_of_beq hc2)
       rcases Bool.eq_false_or_eq_true ((roundsK c ticks).2 == (roundsK c ticks).2) with hc3 | hc3
       · have h:=h.1 (eq_of_beq hc3)
         exact p9_start_5 c ticks hE ⟨(pureF_of Try.func15 (by kernel_rfl) f15b (far_ok c)),hc0,hc1,rfl,(pureF_of Try.func18 (by kernel_rfl) f18b (copied_ok c h1)),(pureF_of Try.func31 (by kernel_rfl) f31b (rounds_ok c ticks h2)),(pureF_of Try.func32 (by kernel_rfl) f32b (roundsR_ok c ticks h3)),hc2,hc3,(pureF_of Try.func17 (by kernel_rfl) f17b works_ok),trivial⟩ (AvLe.of_eq (by rw [h]; try rfl))
       · have h:=h.2 (ne_of_beq_false hc3)
         exact p9_start_6 c ticks hE ⟨(pureF_of Try.func15 (by kernel_rfl) f15b (far_ok c)),hc0,hc1,rfl,(pureF_of Try.func18 (by kernel_rfl) f18b (copied_ok c h1)),(pureF_of Try.func31 (by kernel_rfl) f31b (rounds_ok c ticks h2)),(pureF_of Try.func32 (by kernel_rfl) f32b (roundsR_ok c ticks h3)),hc2,hc3,trivial⟩ (AvLe.of_eq (by rw [h]; try rfl))
     · have h:=h.2 (ne_of_beq_false hc2)
       exact p9_start_7 c ticks hE ⟨(pureF_of Try.func15 (by kernel_rfl) f15b (far_ok c)),hc0,hc1,rfl,(pureF_of Try.func18 (by kernel_rfl) f18b (copied_ok c h1)),(pureF_of Try.func31 (by kernel_rfl) f31b (rounds_ok c ticks h2)),(pureF_of Try.func32 (by kernel_rfl) f32b (roundsR_ok c ticks h3)),hc2,rfl,trivial⟩ (AvLe.of_eq (by rw [h]; try rfl))
theorem law9_ok (c:Cir) (ticks:Int) (h:CirQ c):Pure Try.prog 9 [.agg [.rsl (rowBk c.blocks) 0 c.blocks.length,.rsl (rowI c.cars) 0 c.cars.length],.int .i64 ticks] (.bool true):=pure_of Try.func9 f9b fun E hE=>by
 have fin:farB c=false→(c.blocks.length≤2147483648∧c.cars.length≤2147483648)∧(c.blocks.length≤9223372036854775807∧c.cars.length≤9223372036854775807):=fun hf=>by
  have hb:=far_in hf
  exact ⟨⟨by omega,by omega⟩,h⟩
 exact f9W c ticks (rv:=true) hE ⟨fun _=>rfl,fun hf=>⟨fun _=>⟨fun _=>rfl,fun _=>⟨(fin hf).1,h,h,fun _=>⟨fun _=>rfl,fun h=>absurd rfl h⟩,fun h=>absurd rfl h⟩⟩,fun _=>⟨(fin hf).1,h,h,fun _=>⟨fun _=>rfl,fun h=>absurd rfl h⟩,fun h=>absurd rfl h⟩⟩⟩
end Go.Proofs.Ytgdfkjjgdkejfaa