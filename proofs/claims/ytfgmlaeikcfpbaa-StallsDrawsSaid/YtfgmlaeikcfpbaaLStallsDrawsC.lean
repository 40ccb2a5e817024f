/- A part of the proof: several texts, one behind the other. -/
import Derived.Test.YtfgmlaeikcfpbaaLStallsDrawsB
set_option linter.unusedVariables false
set_option linter.unusedSimpArgs false
set_option maxRecDepth 100000
namespace Go.Proofs.Ytfgmlaeikcfpbaa
open Go Ax
open Go.Proofs
theorem f123b:Try.f123.body=some (Qe Try.prog 123):=by kernel_rfl
theorem u123 {a c k:List AV} {r:AV} (h:Pure Try.prog 123 (a++c++k) r):Qg Try.prog (.clos 123 a k) c r:=Ql Try.func123 (by kernel_rfl) f123b h
def yH (P:Program):List Item:=kAt 400 [.code (Qe P 123)] [.stop]
def f123S0 (l:(List Trn)) (lo hi p:Int) (s:Stl) (i:Nat):St:=⟨([.rsl (Qk l) 0 l.length,.clos 122 [] [.rptr [.int .i64 lo] 0,.rptr [.int .i64 hi] 0,.rptr [.int .i64 p] 0,.rptr [.rsl (Qd s.stages) 0 s.stages.length,.rsl (rowI s.worth) 0 s.worth.length,.int .i64 s.price] 0]]++jj 5 ([.int .i64 (l.length:Int),.int .i64 (i:Int)]++Js 10)),[]⟩
def f123G0 (E:Env) (l:(List Trn)) (lo hi p:Int) (s:Stl) (i:Nat):Prop:=G Try.prog E (yH Try.prog) (f123S0 l lo hi p s i )
abbrev z123_1 (lo:Int) (hi:Int) (p:Int) (s:Stl):List AV:=[.rptr [.int .i64 lo] 0,.rptr [.int .i64 hi] 0,.rptr [.int .i64 p] 0,.rptr [.rsl (Qd s.stages) 0 s.stages.length,.rsl (rowI s.worth) 0 s.worth.length,.int .i64 s.price] 0]
theorem p123_start_0 (l:(List Trn)) (lo hi p:Int) (s:Stl) {E:Env} {rv:AV} (hE:Qf Try.prog 123 rv E) (ho:AllP [])
 (hg:G Try.prog E (yH Try.prog) ⟨([.rsl (Qk l) 0 l.length,.clos 122 [] (z123_1 lo hi p s)]++jj 5 ([.int .i64 (l.length:Int),.int .i64 0]++Js 10)),[]⟩):G Try.prog E [.code (Qe Try.prog 123)] ⟨[.rsl (Qk l) 0 l.length,.clos 122 [] (z123_1 lo hi p s)]++unds (Try.f123.ntmps - 2),[]⟩ :=
 Qh (n:=400) (ds:=[]) (cs:=[]) (live:=[0,1,7,8]) (m:=0) (evs:=[.stop]) (obs:=_) hE.2.1 (hE.nogh _) Qi (by kernel_rfl) ho hg
theorem f123W (l:(List Trn)) (lo hi p:Int) (s:Stl) {E:Env} {rv:Int} (hE:Qf Try.prog 123 (.int .i64 rv) E)
 (h:f123G0 E l lo hi p s 0):G Try.prog E [.code (Qe Try.prog 123)] ⟨[.rsl (Qk l) 0 l.length,.clos 122 [] [.rptr [.int .i64 lo] 0,.rptr [.int .i64 hi] 0,.rptr [.int .i64 p] 0,.rptr [.rsl (Qd s.stages) 0 s.stages.length,.rsl (rowI s.worth) 0 s.worth.length,.int .i64 s.price] 0]]++unds (Try.f123.ntmps - 2),[]⟩:=by
 exact p123_start_0 l lo hi p s hE trivial h
theorem p123_0_0 (l:(List Trn)) (lo hi p:Int) (s:Stl) (i:Nat) (te:Trn) {E:Env} {res:AV} (hE:Qf Try.prog 123 res E) (ho:AllP [(decide ((i:Int)<(l.length:Int)))=true,0≤(i:Int)∧(i:Int)<(l.length:Int),((Qk l).drop (0+(Int.toNat (i:Int))*2)).take 2=[.int .i64 te.w,.int .i64 te.to],Qg Try.prog (.clos 122 [] (z123_1 lo hi p s)) [.agg [.int .i64 te.w,.int .i64 te.to]] (.bool (!Xd lo hi p s.stages.length te)),(!Xd lo hi p s.stages.length te)=true])
 (hr:AvLe (.int .i64 (i:Int)) res):G Try.prog E (yH Try.prog) (f123S0 l lo hi p s i ) :=
 Qc (n:=400) (evs:=[.b true,.ld (.agg [.int .i64 te.w,.int .i64 te.to]),.v (.bool (!Xd lo hi p s.stages.length te)),.b true]) (obs:=_) hE Try.func123 Qi (by kernel_rfl) ho hr
theorem p123_0_1 (l:(List Trn)) (lo hi p:Int) (s:Stl) (i:Nat) (te:Trn) {E:Env} {rv:AV} (hE:Qf Try.prog 123 rv E) (ho:AllP [(decide ((i:Int)<(l.length:Int)))=true,0≤(i:Int)∧(i:Int)<(l.length:Int),((Qk l).drop (0+(Int.toNat (i:Int))*2)).take 2=[.int .i64 te.w,.int .i64 te.to],Qg Try.prog (.clos 122 [] (z123_1 lo hi p s)) [.agg [.int .i64 te.w,.int .i64 te.to]] (.bool (!Xd lo hi p s.stages.length te)),(!Xd lo hi p s.stages.length te)=false,InR .i64 ((i:Int)+1)])
 (hg:G Try.prog E (yH Try.prog) ⟨([.rsl (Qk l) 0 l.length,.clos 122 [] (z123_1 lo hi p s)]++jj 5 ([.int .i64 (l.length:Int),.int .i64 ((i:Int)+1)]++Js 10)),[]⟩):G Try.prog E (yH Try.prog) (f123S0 l lo hi p s i ) :=
 Qh (n:=400) (ds:=[]) (cs:=[]) (live:=[0,1,7,8]) (m:=0) (evs:=[.b true,.ld (.agg [.int .i64 te.w,.int .i64 te.to]),.v (.bool (!Xd lo hi p s.stages.length te)),.b false,.stop]) (obs:=_) hE.2.1 (hE.nogh _) Qi (by kernel_rfl) ho hg
theorem p123_0_2 (l:(List Trn)) (lo hi p:Int) (s:Stl) (i:Nat) {E:Env} {res:AV} (hE:Qf Try.prog 123 res E) (ho:AllP [(decide ((i:Int)<(l.length:Int)))=false])
 (hr:AvLe (.int .i64 (-1)) res):G Try.prog E (yH Try.prog) (f123S0 l lo hi p s i ) :=
 Qc (n:=400) (evs:=[.b false]) (obs:=_) hE Try.func123 Qi (by kernel_rfl) ho hr
theorem f123W0 (l:(List Trn)) (lo hi p:Int) (s:Stl) (i:Nat) {E:Env} {rv:Int} (hE:Qf Try.prog 123 (.int .i64 rv) E)
 (h:(((i:Int)<(l.length:Int)→(∃ te:Trn,l[i]?=some te∧(((0≤p∧p≤1000000)∧s.stages.length≤1000000)∧(((!Xd lo hi p s.stages.length te)=true→rv=(i:Int))∧((!Xd lo hi p s.stages.length te)=false→((I6 ((i:Int)+1))∧f123G0 E l lo hi p s (i+1)))))))∧(¬ ((i:Int)<(l.length:Int))→rv=(-1)))):f123G0 E l lo hi p s i:=by
 rcases bft (decide ((i:Int)<(l.length:Int))) with hc0 | hc0
 · have h:=h.1 (odt hc0)
   obtain ⟨te,h1,h⟩:=h
   obtain ⟨h2,h⟩:=h
   rcases bft (!Xd lo hi p s.stages.length te) with hc1 | hc1
   · have h:=h.1 hc1
     exact p123_0_0 l lo hi p s i te hE ⟨hc0,(Qn h1),(rp cTrn 2 0 2 h1),(u122 (yC te lo hi p s h2)),hc1,trivial⟩ (AvLe.of_eq (by rw [h]; try rfl))
   · have h:=h.2 hc1
     obtain ⟨q6_2,h⟩:=h
     exact p123_0_1 l lo hi p s i te hE ⟨hc0,(Qn h1),(rp cTrn 2 0 2 h1),(u122 (yC te lo hi p s h2)),hc1,q6_2,trivial⟩ h
 · have h:=h.2 (odf hc0)
   exact p123_0_2 l lo hi p s i hE ⟨hc0,trivial⟩ (AvLe.of_eq (by rw [h]; try rfl))
def idxG {α:Type} (p:α→Bool) (l:List α):Int:=match l.findIdx? p with
 | some i=>(i:Int)
 | none=>-1
theorem Vy {α:Type} (p:α→Bool) (l:List α):∀ (d i:Nat),i+d=l.length→(∀ j x,j<i→l[j]?=some x→p x=false)→∀ (Q:Nat→Prop),(∀ i,i<l.length→(∀ x,l[i]?=some x→(p x=true→idxG p l=i))→(∀ x,l[i]?=some x→p x=false→Q (i+1))→Q i) →
 ((∀ x ∈ l,p x=false)→idxG p l=-1→Q l.length)→Q i:=by
 intro d
 induction d with
 | zero =>
  intro i hi hp Q h1 h2
  have:i=l.length:=by omega
  subst this
  have hall:∀ x ∈ l,p x=false:=fun x hx=>by
   obtain ⟨j,hj⟩:=List.getElem?_of_mem hx
   exact hp j x (List.getElem?_eq_some_iff.1 hj).1 hj
  exact h2 hall (by simp only [idxG]; rw [List.findIdx?_eq_none_iff.2 hall])
 | succ d ih =>
  intro i hi hp Q h1 h2
  refine h1 i (by omega) (fun x hx hpx=>?_) (fun x hx hpx=>ih (i+1) (by omega) (fun j y hj hy=>?_) Q h1 h2)
  · have:l.findIdx? p=some i:=by
     rw [List.findIdx?_eq_some_iff_getElem]
     have hlt:=(List.getElem?_eq_some_iff.1 hx).1
     have he:=(List.getElem?_eq_some_iff.1 hx).2
     refine ⟨hlt,by rw [he]; exact hpx,fun j hj=>?_⟩
     have:=hp j _ hj (List.getElem?_eq_getElem (by omega))
     simp [this]
    simp only [idxG,this]
  · rcases Nat.lt_or_ge j i with h | h
    · exact hp j y h hy
    · have:j=i:=by omega
      subst this
      rw [hx] at hy; cases hy; exact hpx
theorem Kk {α:Type} (p:α→Bool) (l:List α):decide (idxG p l≥0)=l.any p:=by
 cases h:l.findIdx? p with
 | none =>
  have e:idxG p l=-1:=by simp only [idxG,h]
  rw [e]
  rw [List.findIdx?_eq_none_iff] at h
  rw [show l.any p=false from by simpa using fun x hx=>by simpa using h x hx]; rfl
 | some i =>
  have e:idxG p l=(i:Int):=by simp only [idxG,h]
  rw [e]
  have:=List.findIdx?_eq_some_iff_getElem.1 h
  obtain ⟨h1,h2,-⟩:=this
  have:l.any p=true:=by rw [List.any_eq_true]; exact ⟨l[i],List.getElem_mem _,h2⟩
  rw [this]; simp
theorem idxT_ok (l:List Trn) (lo hi p:Int) (s:Stl) (h:((0≤p∧p≤1000000)∧s.stages.length≤1000000)∧l.length≤9223372036854775807) :
 Pure Try.prog 123 [.rsl (Qk l) 0 l.length,.clos 122 [] [.rptr [.int .i64 lo] 0,.rptr [.int .i64 hi] 0,.rptr [.int .i64 p] 0,.rptr [.rsl (Qd s.stages) 0 s.stages.length,.rsl (rowI s.worth) 0 s.worth.length,.int .i64 s.price] 0]] (.int .i64 (idxG (fun t=>!Xd lo hi p s.stages.length t) l)):=Qq Try.func123 f123b fun E hE=>by
 refine f123W l lo hi p s hE (Vy (fun t=>!Xd lo hi p s.stages.length t) l l.length 0 (by omega) (fun j x hj=>by omega) (fun i=>f123G0 E l lo hi p s i) (fun i hi' h1 h2=>?_) (fun _ h2=>?_))
 · have hx:l[i]?=some l[i]:=List.getElem?_eq_getElem hi'
   exact f123W0 l lo hi p s i hE ⟨fun _=>⟨_,hx,h.1,fun hp=>h1 _ hx hp,fun hp=>⟨by omega,h2 _ hx hp⟩⟩,fun h=>by omega⟩
 · exact f123W0 l lo hi p s _ hE ⟨fun h=>by omega,fun _=>h2⟩
theorem f121b:Try.f121.body=some (Qe Try.prog 121):=by kernel_rfl
theorem u121 {a c k:List AV} {r:AV} (h:Pure Try.prog 121 (a++c++k) r):Qg Try.prog (.clos 121 a k) c r:=Ql Try.func121 (by kernel_rfl) f121b h
abbrev z121_1 (l:(List Trn)) (lo:Int) (hi:Int) (p:Int) (s:Stl):List AV:=[.rsl (Qk l) 0 l.length,.clos 122 [] [.rptr [.int .i64 lo] 0,.rptr [.int .i64 hi] 0,.rptr [.int .i64 p] 0,.rptr [.rsl (Qd s.stages) 0 s.stages.length,.rsl (rowI s.worth) 0 s.worth.length,.int .i64 s.price] 0]]
theorem p121_start_0 (l:(List Trn)) (lo hi p:Int) (s:Stl) {E:Env} {res:AV} (hE:Qf Try.prog 121 res E) (ho:AllP [Qg Try.prog (.clos 123 [] []) (z121_1 l lo hi p s) (.int .i64 (idxG (fun t=>!Xd lo hi p s.stages.length t) l))])
 (hr:AvLe (.bool (decide ((idxG (fun t=>!Xd lo hi p s.stages.length t) l)≥0))) res):G Try.prog E [.code (Qe Try.prog 121)] ⟨(z121_1 l lo hi p s)++unds (Try.f121.ntmps - 2),[]⟩ :=
 Qc (n:=400) (evs:=[.v (.int .i64 (idxG (fun t=>!Xd lo hi p s.stages.length t) l))]) (obs:=_) hE Try.func121 Qi (by kernel_rfl) ho hr
theorem f121W (l:(List Trn)) (lo hi p:Int) (s:Stl) {E:Env} {rv:Bool} (hE:Qf Try.prog 121 (.bool rv) E)
 (h:((((0≤p∧p≤1000000)∧s.stages.length≤1000000)∧l.length≤9223372036854775807)∧rv=(decide ((idxG (fun t=>!Xd lo hi p s.stages.length t) l)≥0)))):G Try.prog E [.code (Qe Try.prog 121)] ⟨[.rsl (Qk l) 0 l.length,.clos 122 [] [.rptr [.int .i64 lo] 0,.rptr [.int .i64 hi] 0,.rptr [.int .i64 p] 0,.rptr [.rsl (Qd s.stages) 0 s.stages.length,.rsl (rowI s.worth) 0 s.worth.length,.int .i64 s.price] 0]]++unds (Try.f121.ntmps - 2),[]⟩:=by
 obtain ⟨h1,h⟩:=h
 exact p121_start_0 l lo hi p s hE ⟨(u123 (idxT_ok l lo hi p s h1)),trivial⟩ (AvLe.of_eq (by rw [h]; try rfl))
theorem anyT_ok (l:List Trn) (lo hi p:Int) (s:Stl) (h:((0≤p∧p≤1000000)∧s.stages.length≤1000000)∧l.length≤9223372036854775807) :
 Pure Try.prog 121 [.rsl (Qk l) 0 l.length,.clos 122 [] [.rptr [.int .i64 lo] 0,.rptr [.int .i64 hi] 0,.rptr [.int .i64 p] 0,.rptr [.rsl (Qd s.stages) 0 s.stages.length,.rsl (rowI s.worth) 0 s.worth.length,.int .i64 s.price] 0]] (.bool (l.any fun t=>!Xd lo hi p s.stages.length t)):=Qq Try.func121 f121b fun E hE =>
 f121W l lo hi p s hE ⟨h,(Kk _ _).symm⟩
theorem f109b:Try.f109.body=some (Qe Try.prog 109):=by kernel_rfl
theorem u109 {a c k:List AV} {r:AV} (h:Pure Try.prog 109 (a++c++k) r):Qg Try.prog (.clos 109 a k) c r:=Ql Try.func109 (by kernel_rfl) f109b h
abbrev Xl (se:Stg):List AV:=[.int .i64 se.kind,.int .i64 se.prize,.rsl (Qk se.turns) 0 se.turns.length]
abbrev XZ (s:Stl):List AV:=[.rsl (Qd s.stages) 0 s.stages.length,.rsl (rowI s.worth) 0 s.worth.length,.int .i64 s.price]
abbrev yg (se:Stg):List AV:=[.int .i64 (se.turns.length:Int),.int .i64 1,.int .i64 8]
theorem p109_start_0 (s:Stl) (i:Int) (se:Stg) {E:Env} {res:AV} (hE:Qf Try.prog 109 res E) (ho:AllP [0≤i∧i<(s.stages.length:Int),((Qd s.stages).drop (0+(Int.toNat i)*3)).take 3=(Xl se),3≤3,1≤1,1≤1,(se.kind == 4)=true,((se.turns.length:Int) == 0)=true,InR .i64 ((s.worth.length:Int) - 1),Qg Try.prog (.clos 65 [] []) [.int .i64 se.prize,.int .i64 (-1),.int .i64 ((s.worth.length:Int) - 1)] (.bool (Qa se.prize (-1) ((s.worth.length:Int) - 1)))])
 (hr:AvLe (.bool (Qa se.prize (-1) ((s.worth.length:Int) - 1))) res):G Try.prog E [.code (Qe Try.prog 109)] ⟨[.agg (XZ s),.int .i64 i]++unds (Try.f109.ntmps - 2),[]⟩ :=
 Qc (n:=400) (evs:=[.auto,.auto,.ld (.agg (Xl se)),.b true,.b true,.v (.bool (Qa se.prize (-1) ((s.worth.length:Int) - 1)))]) (obs:=_) hE Try.func109 Qi (by kernel_rfl) ho hr
theorem p109_start_1 (s:Stl) (i:Int) (se:Stg) {E:Env} {res:AV} (hE:Qf Try.prog 109 res E) (ho:AllP [0≤i∧i<(s.stages.length:Int),((Qd s.stages).drop (0+(Int.toNat i)*3)).take 3=(Xl se),3≤3,1≤1,1≤1,(se.kind == 4)=true,((se.turns.length:Int) == 0)=false])
 (hr:AvLe (.bool false) res):G Try.prog E [.code (Qe Try.prog 109)] ⟨[.agg (XZ s),.int .i64 i]++unds (Try.f109.ntmps - 2),[]⟩ :=
 Qc (n:=400) (evs:=[.auto,.auto,.ld (.agg (Xl se)),.b true,.b false]) (obs:=_) hE Try.func109 Qi (by kernel_rfl) ho hr
theorem p109_start_2 (s:Stl) (i:Int) (se:Stg) {E:Env} {res:AV} (hE:Qf Try.prog 109 res E) (ho:AllP [0≤i∧i<(s.stages.length:Int),((Qd s.stages).drop (0+(Int.toNat i)*3)).take 3=(Xl se),3≤3,1≤1,1≤1,(se.kind == 4)=false,(se.kind == 1)=true,1≤1,1≤1,(se.prize == 0)=true,Qg Try.prog (.clos 65 [] []) (yg se) (.bool (Qa (se.turns.length:Int) 1 8)),(Qa (se.turns.length:Int) 1 8)=true,Qg Try.prog (.clos 121 [] []) [.rsl (Qk se.turns) 0 se.turns.length,.clos 122 [] [.rptr [.int .i64 1] 0,.rptr [.int .i64 100] 0,.rptr [.int .i64 i] 0,.rptr (XZ s) 0]] (.bool (se.turns.any (fun t=>!Xd 1 100 i s.stages.length t)))])
 (hr:AvLe (.bool (!(se.turns.any (fun t=>!Xd 1 100 i s.stages.length t)))) res):G Try.prog E [.code (Qe Try.prog 109)] ⟨[.agg (XZ s),.int .i64 i]++unds (Try.f109.ntmps - 2),[]⟩ :=
 Qc (n:=400) (evs:=[.auto,.auto,.ld (.agg (Xl se)),.b false,.b true,.b true,.v (.bool (Qa (se.turns.length:Int) 1 8)),.b true,.v (.bool (se.turns.any (fun t=>!Xd 1 100 i s.stages.length t)))]) (obs:=_) hE Try.func109 Qi (by kernel_rfl) ho hr
theorem p109_start_3 (s:Stl) (i:Int) (se:Stg) {E:Env} {res:AV} (hE:Qf Try.prog 109 res E) (ho:AllP [0≤i∧i<(s.stages.length:Int),((Qd s.stages).drop (0+(Int.toNat i)*3)).take 3=(Xl se),3≤3,1≤1,1≤1,(se.kind == 4)=false,(se.kind == 1)=true,1≤1,1≤1,(se.prize == 0)=true,Qg Try.prog (.clos 65 [] []) (yg se) (.bool (Qa (se.turns.length:Int) 1 8)),(Qa (se.turns.length:Int) 1 8)=false])
 (hr:AvLe (.bool false) res):G Try.prog E [.code (Qe Try.prog 109)] ⟨[.agg (XZ s),.int .i64 i]++unds (Try.f109.ntmps - 2),[]⟩ :=
 Qc (n:=400) (evs:=[.auto,.auto,.ld (.agg (Xl se)),.b false,.b true,.b true,.v (.bool (Qa (se.turns.length:Int) 1 8)),.b false]) (obs:=_) hE Try.func109 Qi (by kernel_rfl) ho hr
theorem p109_start_4 (s:Stl) (i:Int) (se:Stg) {E:Env} {res:AV} (hE:Qf Try.prog 109 res E) (ho:AllP [0≤i∧i<(s.stages.length:Int),((Qd s.stages).drop (0+(Int.toNat i)*3)).take 3=(Xl se),3≤3,1≤1,1≤1,(se.kind == 4)=false,(se.kind == 1)=true,1≤1,1≤1,(se.prize == 0)=false,false=false])
 (hr:AvLe (.bool false) res):G Try.prog E [.code (Qe Try.prog 109)] ⟨[.agg (XZ s),.int .i64 i]++unds (Try.f109.ntmps - 2),[]⟩ :=
 Qc (n:=400) (evs:=[.auto,.auto,.ld (.agg (Xl se)),.b false,.b true,.b false,.b false]) (obs:=_) hE Try.func109 Qi (by kernel_rfl) ho hr
theorem p109_start_5 (s:Stl) (i:Int) (se:Stg) {E:Env} {res:AV} (hE:Qf Try.prog 109 res E) (ho:AllP [0≤i∧i<(s.stages.length:Int),((Qd s.stages).drop (0+(Int.toNat i)*3)).take 3=(Xl se),3≤3,1≤1,1≤1,(se.kind == 4)=false,(se.kind == 1)=false,(se.kind == 2)=true,(se.kind == 2)=true,(se.prize == 0)=true,Qg Try.prog (.clos 65 [] []) (yg se) (.bool (Qa (se.turns.length:Int) 1 8)),(Qa (se.turns.length:Int) 1 8)=true,Qg Try.prog (.clos 121 [] []) [.rsl (Qk se.turns) 0 se.turns.length,.clos 122 [] [.rptr [.int .i64 0] 0,.rptr [.int .i64 0] 0,.rptr [.int .i64 i] 0,.rptr (XZ s) 0]] (.bool (se.turns.any (fun t=>!Xd 0 0 i s.stages.length t)))])
 (hr:AvLe (.bool (!(se.turns.any (fun t=>!Xd 0 0 i s.stages.length t)))) res):G Try.prog E [.code (Qe Try.prog 109)] ⟨[.agg (XZ s),.int .i64 i]++unds (Try.f109.ntmps - 2),[]⟩ :=
 Qc (n:=400) (evs:=[.auto,.auto,.ld (.agg (Xl se)),.b false,.b false,.b true,.b true,.b true,.v (.bool (Qa (se.turns.length:Int) 1 8)),.b true,.v (.bool (se.turns.any (fun t=>!Xd 0 0 i s.stages.length t)))]) (obs:=_) hE Try.func109 Qi (by kernel_rfl) ho hr
theorem p109_start_6 (s:Stl) (i:Int) (se:Stg) {E:Env} {res:AV} (hE:Qf Try.prog 109 res E) (ho:AllP [0≤i∧i<(s.stages.length:Int),((Qd s.stages).drop (0+(Int.toNat i)*3)).take 3=(Xl se),3≤3,1≤1,1≤1,(se.kind == 4)=false,(se.kind == 1)=false,(se.kind == 2)=true,(se.kind == 2)=true,(se.prize == 0)=true,Qg Try.prog (.clos 65 [] []) (yg se) (.bool (Qa (se.turns.length:Int) 1 8)),(Qa (se.turns.length:Int) 1 8)=false])
 (hr:AvLe (.bool false) res):G Try.prog E [.code (Qe Try.prog 109)] ⟨[.agg (XZ s),.int .i64 i]++unds (Try.f109.ntmps - 2),[]⟩ :=
 Qc (n:=400) (evs:=[.auto,.auto,.ld (.agg (Xl se)),.b false,.b false,.b true,.b true,.b true,.v (.bool (Qa (se.turns.length:Int) 1 8)),.b false]) (obs:=_) hE Try.func109 Qi (by kernel_rfl) ho hr
theorem p109_start_7 (s:Stl) (i:Int) (se:Stg) {E:Env} {res:AV} (hE:Qf Try.prog 109 res E) (ho:AllP [0≤i∧i<(s.stages.length:Int),((Qd s.stages).drop (0+(Int.toNat i)*3)).take 3=(Xl se),3≤3,1≤1,1≤1,(se.kind == 4)=false,(se.kind == 1)=false,(se.kind == 2)=true,(se.kind == 2)=true,(se.prize == 0)=false,false=false])
 (hr:AvLe (.bool false) res):G Try.prog E [.code (Qe Try.prog 109)] ⟨[.agg (XZ s),.int .i64 i]++unds (Try.f109.ntmps - 2),[]⟩ :=
 Qc (n:=400) (evs:=[.auto,.auto,.ld (.agg (Xl se)),.b false,.b false,.b true,.b true,.b false,.b false]) (obs:=_) hE Try.func109 Qi (by kernel_rfl) ho hr
theorem p109_start_8 (s:Stl) (i:Int) (se:Stg) {E:Env} {res:AV} (hE:Qf Try.prog 109 res E) (ho:AllP [0≤i∧i<(s.stages.length:Int),((Qd s.stages).drop (0+(Int.toNat i)*3)).take 3=(Xl se),3≤3,1≤1,1≤1,(se.kind == 4)=false,(se.kind == 1)=false,(se.kind == 2)=true,(se.kind == 2)=false])
 (hr:AvLe (.bool false) res):G Try.prog E [.code (Qe Try.prog 109)] ⟨[.agg (XZ s),.int .i64 i]++unds (Try.f109.ntmps - 2),[]⟩ :=
 Qc (n:=400) (evs:=[.auto,.auto,.ld (.agg (Xl se)),.b false,.b false,.b true,.b false]) (obs:=_) hE Try.func109 Qi (by kernel_rfl) ho hr
theorem p109_start_9 (s:Stl) (i:Int) (se:Stg) {E:Env} {res:AV} (hE:Qf Try.prog 109 res E) (ho:AllP [0≤i∧i<(s.stages.length:Int),((Qd s.stages).drop (0+(Int.toNat i)*3)).take 3=(Xl se),3≤3,1≤1,1≤1,(se.kind == 4)=false,(se.kind == 1)=false,(se.kind == 2)=false,(se.kind == 3)=true,(se.prize == 0)=true,Qg Try.prog (.clos 65 [] []) (yg se) (.bool (Qa (se.turns.length:Int) 1 8)),(Qa (se.turns.length:Int) 1 8)=true,Qg Try.prog (.clos 121 [] []) [.rsl (Qk se.turns) 0 se.turns.length,.clos 122 [] [.rptr [.int .i64 0] 0,.rptr [.int .i64 0] 0,.rptr [.int .i64 i] 0,.rptr (XZ s) 0]] (.bool (se.turns.any (fun t=>!Xd 0 0 i s.stages.length t)))])
 (hr:AvLe (.bool (!(se.turns.any (fun t=>!Xd 0 0 i s.stages.length t)))) res):G Try.prog E [.code (Qe Try.prog 109)] ⟨[.agg (XZ s),.int .i64 i]++unds (Try.f109.ntmps - 2),[]⟩ :=
 Qc (n:=400) (evs:=[.auto,.auto,.ld (.agg (Xl se)),.b false,.b false,.b false,.b true,.b true,.v (.bool (Qa (se.turns.length:Int) 1 8)),.b true,.v (.bool (se.turns.any (fun t=>!Xd 0 0 i s.stages.length t)))]) (obs:=_) hE Try.func109 Qi (by kernel_rfl) ho hr
theorem Kd (s:Stl) (i:Int) (se:Stg) {E:Env} {res:AV} (hE:Qf Try.prog 109 res E) (ho:AllP [0≤i∧i<(s.stages.length:Int),((Qd s.stages).drop (0+(Int.toNat i)*3)).take 3=(Xl se),3≤3,1≤1,1≤1,(se.kind == 4)=false,(se.kind == 1)=false,(se.kind == 2)=false,(se.kind == 3)=true,(se.prize == 0)=true,Qg Try.prog (.clos 65 [] []) (yg se) (.bool (Qa (se.turns.length:Int) 1 8)),(Qa (se.turns.length:Int) 1 8)=false])
 (hr:AvLe (.bool false) res):G Try.prog E [.code (Qe Try.prog 109)] ⟨[.agg (XZ s),.int .i64 i]++unds (Try.f109.ntmps - 2),[]⟩ :=
 Qc (n:=400) (evs:=[.auto,.auto,.ld (.agg (Xl se)),.b false,.b false,.b false,.b true,.b true,.v (.bool (Qa (se.turns.length:Int) 1 8)),.b false]) (obs:=_) hE Try.func109 Qi (by kernel_rfl) ho hr
theorem Kc (s:Stl) (i:Int) (se:Stg) {E:Env} {res:AV} (hE:Qf Try.prog 109 res E) (ho:AllP [0≤i∧i<(s.stages.length:Int),((Qd s.stages).drop (0+(Int.toNat i)*3)).take 3=(Xl se),3≤3,1≤1,1≤1,(se.kind == 4)=false,(se.kind == 1)=false,(se.kind == 2)=false,(se.kind == 3)=true,(se.prize == 0)=false,false=false])
 (hr:AvLe (.bool false) res):G Try.prog E [.code (Qe Try.prog 109)] ⟨[.agg (XZ s),.int .i64 i]++unds (Try.f109.ntmps - 2),[]⟩ :=
 Qc (n:=400) (evs:=[.auto,.auto,.ld (.agg (Xl se)),.b false,.b false,.b false,.b true,.b false,.b false]) (obs:=_) hE Try.func109 Qi (by kernel_rfl) ho hr
theorem Kb (s:Stl) (i:Int) (se:Stg) {E:Env} {res:AV} (hE:Qf Try.prog 109 res E) (ho:AllP [0≤i∧i<(s.stages.length:Int),((Qd s.stages).drop (0+(Int.toNat i)*3)).take 3=(Xl se),3≤3,1≤1,1≤1,(se.kind == 4)=false,(se.kind == 1)=false,(se.kind == 2)=false,(se.kind == 3)=false])
 (hr:AvLe (.bool false) res):G Try.prog E [.code (Qe Try.prog 109)] ⟨[.agg (XZ s),.int .i64 i]++unds (Try.f109.ntmps - 2),[]⟩ :=
 Qc (n:=400) (evs:=[.auto,.auto,.ld (.agg (Xl se)),.b false,.b false,.b false,.b false]) (obs:=_) hE Try.func109 Qi (by kernel_rfl) ho hr
theorem f109W (s:Stl) (i:Int) {E:Env} {rv:Bool} (hE:Qf Try.prog 109 (.bool rv) E)
 (h:(0≤i∧(∃ se:Stg,s.stages[Int.toNat i]?=some se∧((se.kind=4→(((se.turns.length:Int)=0→((I6 ((s.worth.length:Int) - 1))∧rv=(Qa se.prize (-1) ((s.worth.length:Int) - 1))))∧(¬ ((se.turns.length:Int)=0)→rv=false)))∧(¬ (se.kind=4)→((se.kind=1→((se.prize=0→(((Qa (se.turns.length:Int) 1 8)=true→((((0≤i∧i≤1000000)∧s.stages.length≤1000000)∧se.turns.length≤9223372036854775807)∧rv=(!(se.turns.any (fun t=>!Xd 1 100 i s.stages.length t)))))∧((Qa (se.turns.length:Int) 1 8)=false→rv=false)))∧(¬ (se.prize=0)→rv=false)))∧(¬ (se.kind=1)→((se.kind=2→((se.kind=2→((se.prize=0→(((Qa (se.turns.length:Int) 1 8)=true→((((0≤i∧i≤1000000)∧s.stages.length≤1000000)∧se.turns.length≤9223372036854775807)∧rv=(!(se.turns.any (fun t=>!Xd 0 0 i s.stages.length t)))))∧((Qa (se.turns.length:Int) 1 8)=false→rv=false)))∧(¬ (se.prize=0)→rv=false)))∧(¬ (se.kind=2)→rv=false)))∧(¬ (se.kind=2)→((se.kind=3→((se.prize=0→(((Qa (se.turns.length:Int) 1 8)=true→((((0≤i∧i≤1000000)∧s.stages.length≤1000000)∧se.turns.length≤9223372036854775807)∧rv=(!(se.turns.any (fun t=>!Xd 0 0 i s.stages.length t)))))∧((Qa (se.turns.length:Int) 1 8)=false→rv=false)))∧(¬ (se.prize=0)→rv=false)))∧(¬ (se.kind=3)→rv=false))))))))))):G Try.prog E [.code (Qe Try.prog 109)] ⟨[.agg [.rsl (Qd s.stages) 0 s.stages.length,.rsl (rowI s.worth) 0 s.worth.length,.int .i64 s.price],.int .i64 i]++unds (Try.f109.ntmps - 2),[]⟩:=by
 obtain ⟨h2,h⟩:=h
 obtain ⟨se,h1,h⟩:=h
 rcases bft (se.kind == 4) with hc0 | hc0
 · have h:=h.1 (eq_of_beq hc0)
   rcases bft ((se.turns.length:Int) == 0) with hc1 | hc1
   · have h:=h.1 (eq_of_beq hc1)
     obtain ⟨q8_2,h⟩:=h
     exact p109_start_0 s i se hE ⟨(Qj h2 h1),(rp cStg 3 0 3 h1),(by decide),(by decide),(by decide),hc0,hc1,q8_2,(u65 (Qr se.prize (-1) ((s.worth.length:Int) - 1))),trivial⟩ (AvLe.of_eq (by rw [h]; try rfl))
   · have h:=h.2 (ne_of_beq_false hc1)
     exact p109_start_1 s i se hE ⟨(Qj h2 h1),(rp cStg 3 0 3 h1),(by decide),(by decide),(by decide),hc0,hc1,trivial⟩ (AvLe.of_eq (by rw [h]; try rfl))
 · have h:=h.2 (ne_of_beq_false hc0)
   rcases bft (se.kind == 1) with hc1 | hc1
   · have h:=h.1 (eq_of_beq hc1)
     rcases bft (se.prize == 0) with hc2 | hc2
     · have h:=h.1 (eq_of_beq hc2)
       rcases bft (Qa (se.turns.length:Int) 1 8) with hc3 | hc3
       · have h:=h.1 hc3
         obtain ⟨h3,h⟩:=h
         exact p109_start_2 s i se hE ⟨(Qj h2 h1),(rp cStg 3 0 3 h1),(by decide),(by decide),(by decide),hc0,hc1,(by decide),(by decide),hc2,(u65 (Qr (se.turns.length:Int) 1 8)),hc3,(u121 (anyT_ok se.turns 1 100 i s h3)),trivial⟩ (AvLe.of_eq (by rw [h]; try rfl))
       · have h:=h.2 hc3
         exact p109_start_3 s i se hE ⟨(Qj h2 h1),(rp cStg 3 0 3 h1),(by decide),(by decide),(by decide),hc0,hc1,(by decide),(by decide),hc2,(u65 (Qr (se.turns.length:Int) 1 8)),hc3,trivial⟩ (AvLe.of_eq (by rw [h]; try rfl))
     · have h:=h.2 (ne_of_beq_false hc2)
       exact p109_start_4 s i se hE ⟨(Qj h2 h1),(rp cStg 3 0 3 h1),(by decide),(by decide),(by decide),hc0,hc1,(by decide),(by decide),hc2,rfl,trivial⟩ (AvLe.of_eq (by rw [h]; try rfl))
   · have h:=h.2 (ne_of_beq_false hc1)
     rcases bft (se.kind == 2) with hc2 | hc2
     · have h:=h.1 (eq_of_beq hc2)
       rcases bft (se.kind == 2) with hc3 | hc3
       · have h:=h.1 (eq_of_beq hc3)
         rcases bft (se.prize == 0) with hc4 | hc4
         · have h:=h.1 (eq_of_beq hc4)
           rcases bft (Qa (se.turns.length:Int) 1 8) with hc5 | hc5
           · have h:=h.1 hc5
             obtain ⟨h3,h⟩:=h
             exact p109_start_5 s i se hE ⟨(Qj h2 h1),(rp cStg 3 0 3 h1),(by decide),(by decide),(by decide),hc0,hc1,hc2,hc3,hc4,(u65 (Qr (se.turns.length:Int) 1 8)),hc5,(u121 (anyT_ok se.turns 0 0 i s h3)),trivial⟩ (AvLe.of_eq (by rw [h]; try rfl))
           · have h:=h.2 hc5
             exact p109_start_6 s i se hE ⟨(Qj h2 h1),(rp cStg 3 0 3 h1),(by decide),(by decide),(by decide),hc0,hc1,hc2,hc3,hc4,(u65 (Qr (se.turns.length:Int) 1 8)),hc5,trivial⟩ (AvLe.of_eq (by rw [h]; try rfl))
         · have h:=h.2 (ne_of_beq_false hc4)
           exact p109_start_7 s i se hE ⟨(Qj h2 h1),(rp cStg 3 0 3 h1),(by decide),(by decide),(by decide),hc0,hc1,hc2,hc3,hc4,rfl,trivial⟩ (AvLe.of_eq (by rw [h]; try rfl))
       · have h:=h.2 (ne_of_beq_false hc3)
         exact p109_start_8 s i se hE ⟨(Qj h2 h1),(rp cStg 3 0 3 h1),(by decide),(by decide),(by decide),hc0,hc1,hc2,hc3,trivial⟩ (AvLe.of_eq (by rw [h]; try rfl))
     · have h:=h.2 (ne_of_beq_false hc2)
       rcases bft (se.kind == 3) with hc3 | hc3
       · have h:=h.1 (eq_of_beq hc3)
         rcases bft (se.prize == 0) with hc4 | hc4
         · have h:=h.1 (eq_of_beq hc4)
           rcases bft (Qa (se.turns.length:Int) 1 8) with hc5 | hc5
           · have h:=h.1 hc5
             obtain ⟨h3,h⟩:=h
             exact p109_start_9 s i se hE ⟨(Qj h2 h1),(rp cStg 3 0 3 h1),(by decide),(by decide),(by decide),hc0,hc1,hc2,hc3,hc4,(u65 (Qr (se.turns.length:Int) 1 8)),hc5,(u121 (anyT_ok se.turns 0 0 i s h3)),trivial⟩ (AvLe.of_eq (by rw [h]; try rfl))
           · have h:=h.2 hc5
             exact Kd s i se hE ⟨(Qj h2 h1),(rp cStg 3 0 3 h1),(by decide),(by decide),(by decide),hc0,hc1,hc2,hc3,hc4,(u65 (Qr (se.turns.length:Int) 1 8)),hc5,trivial⟩ (AvLe.of_eq (by rw [h]; try rfl))
         · have h:=h.2 (ne_of_beq_false hc4)
           exact Kc s i se hE ⟨(Qj h2 h1),(rp cStg 3 0 3 h1),(by decide),(by decide),(by decide),hc0,hc1,hc2,hc3,hc4,rfl,trivial⟩ (AvLe.of_eq (by rw [h]; try rfl))
       · have h:=h.2 (ne_of_beq_false hc3)
         exact Kb s i se hE ⟨(Qj h2 h1),(rp cStg 3 0 3 h1),(by decide),(by decide),(by decide),hc0,hc1,hc2,hc3,trivial⟩ (AvLe.of_eq (by rw [h]; try rfl))
theorem all_not {α:Type} {p:α→Bool}:∀ {l:List α},(!(l.any fun t=>!p t))=l.all p
 | []=>rfl
 | x :: l=>by rw [List.any_cons,List.all_cons,← all_not (l:=l)]; cases p x <;> simp
theorem formed_ok (s:Stl) (i:Nat) (h:i<s.stages.length∧s.stages.length≤1000000∧s.worth.length≤1000000):Pure Try.prog 109 [.agg [.rsl (Qd s.stages) 0 s.stages.length,.rsl (rowI s.worth) 0 s.worth.length,.int .i64 s.price],.int .i64 (i:Int)] (.bool (QP s i)):=Qq Try.func109 f109b fun E hE=>by
 have hi:s.stages[i]?=some s.stages[i]:=List.getElem?_eq_getElem h.1
 have hr:QP s i=Va s i s.stages[i]:=by rw [QP,hi]
 generalize s.stages[i]=x at hi hr
 have fin:∀ {lo hi:Int},¬ x.kind=4→Qa x.kind 1 3=true→(if x.kind=1 then (1:Int) else 0)=lo→(if x.kind=1 then (100:Int) else 0)=hi→x.prize=0→Qa x.turns.length 1 8=true→QP s i=!(x.turns.any fun t=>!Xd lo hi i s.stages.length t):=fun {lo hi} h1 h2 e1 e2 h3 h4=>by
  rw [hr,Va,if_neg h1,h2,decide_eq_true h3,h4,e1,e2,all_not]; simp
 have b1:∀ (h1:¬ x.kind=4),¬ x.prize=0→QP s i=false:=fun h1 h3=>by rw [hr,Va,if_neg h1,decide_eq_false h3]; simp
 have b2:∀ (h1:¬ x.kind=4),Qa x.turns.length 1 8=false→QP s i=false:=fun h1 h3=>by rw [hr,Va,if_neg h1,h3]; simp
 have b3:∀ (h1:¬ x.kind=4),Qa x.kind 1 3=false→QP s i=false:=fun h1 h3=>by rw [hr,Va,if_neg h1,h3]; simp
 have pre:Qa x.turns.length 1 8=true→((0≤(i:Int)∧(i:Int)≤1000000)∧s.stages.length≤1000000)∧x.turns.length≤9223372036854775807:=fun h4=>by have:=Qz.1 h4; omega
 refine f109W s i (rv:=QP s i) hE ⟨by omega,x,by rw [show Int.toNat (i:Int)=i by omega]; exact hi,fun h1=>⟨fun h2=>⟨by omega,?_⟩,fun h2=>?_⟩,fun h1 =>
  ⟨fun k1=>⟨fun h3=>⟨fun h4=>⟨pre h4,fin h1 (Qz.2 (by omega)) (if_pos k1) (if_pos k1) h3 h4⟩,b2 h1⟩,b1 h1⟩,fun k1 =>
  ⟨fun k2=>⟨fun _=>⟨fun h3=>⟨fun h4=>⟨pre h4,fin h1 (Qz.2 (by omega)) (if_neg k1) (if_neg k1) h3 h4⟩,b2 h1⟩,b1 h1⟩,fun h=>absurd k2 h⟩,fun k2 =>
  ⟨fun k3=>⟨fun h3=>⟨fun h4=>⟨pre h4,fin h1 (Qz.2 (by omega)) (if_neg k1) (if_neg k1) h3 h4⟩,b2 h1⟩,b1 h1⟩,fun k3=>b3 h1 (yi.2 (by omega))⟩⟩⟩⟩
 · rw [hr,Va,if_pos h1,decide_eq_true (by omega)]; rfl
 · rw [hr,Va,if_pos h1,decide_eq_false (by omega)]; rfl
theorem f120b:Try.f120.body=some (Qe Try.prog 120):=by kernel_rfl
theorem u120 {a c k:List AV} {r:AV} (h:Pure Try.prog 120 (a++c++k) r):Qg Try.prog (.clos 120 a k) c r:=Ql Try.func120 (by kernel_rfl) f120b h
def yI (P:Program):List Item:=kAt 400 [.code (Qe P 120)] [.stop]
def f120S0 (l:(List Int)) (i:Nat):St:=⟨([.rsl (rowI l) 0 l.length,.clos 108 [] []]++jj 5 ([.int .i64 (l.length:Int),.int .i64 (i:Int)]++Js 10)),[]⟩
def f120G0 (E:Env) (l:(List Int)) (i:Nat):Prop:=G Try.prog E (yI Try.prog) (f120S0 l i )
theorem p120_start_0 (l:(List Int)) {E:Env} {rv:AV} (hE:Qf Try.prog 120 rv E) (ho:AllP [])
 (hg:G Try.prog E (yI Try.prog) ⟨([.rsl (rowI l) 0 l.length,.clos 108 [] []]++jj 5 ([.int .i64 (l.length:Int),.int .i64 0]++Js 10)),[]⟩):G Try.prog E [.code (Qe Try.prog 120)] ⟨[.rsl (rowI l) 0 l.length,.clos 108 [] []]++unds (Try.f120.ntmps - 2),[]⟩ :=
 Qh (n:=400) (ds:=[]) (cs:=[]) (live:=[0,1,7,8]) (m:=0) (evs:=[.stop]) (obs:=_) hE.2.1 (hE.nogh _) Qi (by kernel_rfl) ho hg
theorem f120W (l:(List Int)) {E:Env} {rv:Int} (hE:Qf Try.prog 120 (.int .i64 rv) E)
 (h:f120G0 E l 0):G Try.prog E [.code (Qe Try.prog 120)] ⟨[.rsl (rowI l) 0 l.length,.clos 108 [] []]++unds (Try.f120.ntmps - 2),[]⟩:=by
 exact p120_start_0 l hE trivial h
theorem p120_0_0 (l:(List Int)) (i:Nat) (e:Int) {E:Env} {res:AV} (hE:Qf Try.prog 120 res E) (ho:AllP [(decide ((i:Int)<(l.length:Int)))=true,0≤(i:Int)∧(i:Int)<(l.length:Int),((rowI l).drop (0+(Int.toNat (i:Int))*1)).take 1=[.int .i64 e],Qg Try.prog (.clos 108 [] []) [.int .i64 e] (.bool (!Qa e 0 10000)),(!Qa e 0 10000)=true])
 (hr:AvLe (.int .i64 (i:Int)) res):G Try.prog E (yI Try.prog) (f120S0 l i ) :=
 Qc (n:=400) (evs:=[.b true,.ld (.int .i64 e),.v (.bool (!Qa e 0 10000)),.b true]) (obs:=_) hE Try.func120 Qi (by kernel_rfl) ho hr
theorem p120_0_1 (l:(List Int)) (i:Nat) (e:Int) {E:Env} {rv:AV} (hE:Qf Try.prog 120 rv E) (ho:AllP [(decide ((i:Int)<(l.length:Int)))=true,0≤(i:Int)∧(i:Int)<(l.length:Int),((rowI l).drop (0+(Int.toNat (i:Int))*1)).take 1=[.int .i64 e],Qg Try.prog (.clos 108 [] []) [.int .i64 e] (.bool (!Qa e 0 10000)),(!Qa e 0 10000)=false,InR .i64 ((i:Int)+1)])
 (hg:G Try.prog E (yI Try.prog) ⟨([.rsl (rowI l) 0 l.length,.clos 108 [] []]++jj 5 ([.int .i64 (l.length:Int),.int .i64 ((i:Int)+1)]++Js 10)),[]⟩):G Try.prog E (yI Try.prog) (f120S0 l i ) :=
 Qh (n:=400) (ds:=[]) (cs:=[]) (live:=[0,1,7,8]) (m:=0) (evs:=[.b true,.ld (.int .i64 e),.v (.bool (!Qa e 0 10000)),.b false,.stop]) (obs:=_) hE.2.1 (hE.nogh _) Qi (by kernel_rfl) ho hg
theorem p120_0_2 (l:(List Int)) (i:Nat) {E:Env} {res:AV} (hE:Qf Try.prog 120 res E) (ho:AllP [(decide ((i:Int)<(l.length:Int)))=false])
 (hr:AvLe (.int .i64 (-1)) res):G Try.prog E (yI Try.prog) (f120S0 l i ) :=
 Qc (n:=400) (evs:=[.b false]) (obs:=_) hE Try.func120 Qi (by kernel_rfl) ho hr
theorem f120W0 (l:(List Int)) (i:Nat) {E:Env} {rv:Int} (hE:Qf Try.prog 120 (.int .i64 rv) E)
 (h:(((i:Int)<(l.length:Int)→(∃ e:Int,l[i]?=some e∧(((!Qa e 0 10000)=true→rv=(i:Int))∧((!Qa e 0 10000)=false→((I6 ((i:Int)+1))∧f120G0 E l (i+1))))))∧(¬ ((i:Int)<(l.length:Int))→rv=(-1)))):f120G0 E l i:=by
 rcases bft (decide ((i:Int)<(l.length:Int))) with hc0 | hc0
 · have h:=h.1 (odt hc0)
   obtain ⟨e,h1,h⟩:=h
   rcases bft (!Qa e 0 10000) with hc1 | hc1
   · have h:=h.1 hc1
     exact p120_0_0 l i e hE ⟨hc0,(Qn h1),(rp cI 1 0 1 h1),(u108 (bad_ok e)),hc1,trivial⟩ (AvLe.of_eq (by rw [h]; try rfl))
   · have h:=h.2 hc1
     obtain ⟨q6_2,h⟩:=h
     exact p120_0_1 l i e hE ⟨hc0,(Qn h1),(rp cI 1 0 1 h1),(u108 (bad_ok e)),hc1,q6_2,trivial⟩ h
 · have h:=h.2 (odf hc0)
   exact p120_0_2 l i hE ⟨hc0,trivial⟩ (AvLe.of_eq (by rw [h]; try rfl))
theorem idxB_ok (l:List Int) (h:l.length≤9223372036854775807):Pure Try.prog 120 [.rsl (rowI l) 0 l.length,.clos 108 [] []] (.int .i64 (idxG (fun n=>!Qa n 0 10000) l)):=Qq Try.func120 f120b fun E hE=>by
 refine f120W l hE (Vy (fun n=>!Qa n 0 10000) l l.length 0 (by omega) (fun j x hj=>by omega) (fun i=>f120G0 E l i) (fun i hi' h1 h2=>?_) (fun _ h2=>?_))
 · have hx:l[i]?=some l[i]:=List.getElem?_eq_getElem hi'
   exact f120W0 l i hE ⟨fun _=>⟨_,hx,fun hp=>h1 _ hx hp,fun hp=>⟨by omega,h2 _ hx hp⟩⟩,fun h=>by omega⟩
 · exact f120W0 l _ hE ⟨fun h=>by omega,fun _=>h2⟩
theorem f96b:Try.f96.body=some (Qe Try.prog 96):=by kernel_rfl
theorem u96 {a c k:List AV} {r:AV} (h:Pure Try.prog 96 (a++c++k) r):Qg Try.prog (.clos 96 a k) c r:=Ql Try.func96 (by kernel_rfl) f96b h
theorem p96_start_0 (l:(List Int)) {E:Env} {res:AV} (hE:Qf Try.prog 96 res E) (ho:AllP [Qg Try.prog (.clos 120 [] []) [.rsl (rowI l) 0 l.length,.clos 108 [] []] (.int .i64 (idxG (fun n=>!Qa n 0 10000) l))])
 (hr:AvLe (.bool (decide ((idxG (fun n=>!Qa n 0 10000) l)≥0))) res):G Try.prog E [.code (Qe Try.prog 96)] ⟨[.rsl (rowI l) 0 l.length,.clos 108 [] []]++unds (Try.f96.ntmps - 2),[]⟩ :=
 Qc (n:=400) (evs:=[.v (.int .i64 (idxG (fun n=>!Qa n 0 10000) l))]) (obs:=_) hE Try.func96 Qi (by kernel_rfl) ho hr
theorem f96W (l:(List Int)) {E:Env} {rv:Bool} (hE:Qf Try.prog 96 (.bool rv) E)
 (h:((l.length≤9223372036854775807)∧rv=(decide ((idxG (fun n=>!Qa n 0 10000) l)≥0)))):G Try.prog E [.code (Qe Try.prog 96)] ⟨[.rsl (rowI l) 0 l.length,.clos 108 [] []]++unds (Try.f96.ntmps - 2),[]⟩:=by
 obtain ⟨h1,h⟩:=h
 exact p96_start_0 l hE ⟨(u120 (idxB_ok l h1)),trivial⟩ (AvLe.of_eq (by rw [h]; try rfl))
theorem anyB_ok (l:List Int) (h:l.length≤9223372036854775807):Pure Try.prog 96 [.rsl (rowI l) 0 l.length,.clos 108 [] []] (.bool (l.any fun n=>!Qa n 0 10000)):=Qq Try.func96 f96b fun E hE =>
 f96W l hE ⟨h,(Kk _ _).symm⟩
theorem f110b:Try.f110.body=some (Qe Try.prog 110):=by kernel_rfl
def qx (P:Program):List Item:=kAt 400 [.code (Qe P 110)] [.stop]
def f110S0 (i:Int) (s:Stl) (me mu:List Int) (ga gb:Nat) (i1:(List Trn)) (i11:Nat) (v3_0:Int) (v3_1:Int) (v3_2:(List Trn)) (multiple:Int) (ok:Bool) (i111:Nat):St:=⟨([.ptr 0 0 0,.int .i64 i,J,J,J,.ptr 3 0 0,.int .i64 multiple,.bool ok]++jj 12 ([.rsl (Qk i1) 0 i1.length,.int .i64 (i11:Int),.int .i64 (i111:Int)]++Js 55)),[⟨true,0,1,false,[.rsl (Qd s.stages) 0 s.stages.length,.rsl (rowI s.worth) 0 s.worth.length,.int .i64 s.price,.sl 1 ga 0 me.length 1,.sl 2 gb 0 mu.length 1],false⟩,⟨true,ga,1,true,(rowI me),true⟩,⟨true,gb,1,true,(rowI mu),true⟩,⟨true,0,1,true,[.int .i64 v3_0,.int .i64 v3_1,.rsl (Qk v3_2) 0 v3_2.length],false⟩]⟩
def f110G0 (E:Env) (i:Int) (s:Stl) (me mu:List Int) (ga gb:Nat) (i1:(List Trn)) (i11:Nat) (v3_0:Int) (v3_1:Int) (v3_2:(List Trn)) (multiple:Int) (ok:Bool) (i111:Nat):Prop:=G Try.prog E (qx Try.prog) (f110S0 i s me mu ga gb i1 i11 v3_0 v3_1 v3_2 multiple ok i111 )
abbrev yf (multiple:Int) (e:Int):=Xw (Int.tdiv multiple (iMax (gcdI multiple e) 1)) e
abbrev z110_2 (s:Stl) (ga:Nat) (me:List Int) (gb:Nat) (mu:List Int):List AV:=[.rsl (Qd s.stages) 0 s.stages.length,.rsl (rowI s.worth) 0 s.worth.length,.int .i64 s.price,.sl 1 ga 0 me.length 1,.sl 2 gb 0 mu.length 1]
abbrev z110_3 (se:Stg):List AV:=[.int .i64 se.kind,.int .i64 se.prize,.rsl (Qk se.turns) 0 se.turns.length]
abbrev z110_4 (multiple:Int) (e:Int):AV:=.tup [.int .i64 ((yf multiple e).1),.bool ((yf multiple e).2)]
theorem p110_start_0 (i:Int) (s:Stl) (me mu:List Int) (ga gb:Nat) (se:Stg) {E:Env} {rv:AV} {bs2:List Blk} (hE:LentE Try.prog 110 [.sl 2 gb 0 0 1] rv bs2 E) (ho:AllP [0≤i∧i<(s.stages.length:Int),((Qd s.stages).drop (0+(Int.toNat i)*3)).take 3=(z110_3 se),3≤3])
 (hg:G Try.prog E (qx Try.prog) ⟨([.ptr 0 0 0,.int .i64 i,J,J,J,.ptr 3 0 0,.int .i64 1,.bool true]++jj 12 ([.rsl (Qk se.turns) 0 se.turns.length,.int .i64 (se.turns.length:Int),.int .i64 0]++Js 55)),[⟨true,0,1,false,(z110_2 s ga me gb mu),false⟩,⟨true,ga,1,true,(rowI me),true⟩,⟨true,gb,1,true,(rowI mu),true⟩,⟨true,0,1,true,(z110_3 se),false⟩]⟩):G Try.prog E [.code (Qe Try.prog 110)] ⟨[.ptr 0 0 0,.int .i64 i]++unds (Try.f110.ntmps - 2),[⟨true,0,1,false,(z110_2 s ga me gb mu),false⟩,⟨true,ga,1,true,(rowI me),true⟩,⟨true,gb,1,true,(rowI mu),true⟩]⟩ :=
 Qh (n:=400) (ds:=[]) (cs:=[]) (live:=[0,1,5,6,7,20,21,22]) (m:=4) (evs:=[.auto,.ld (.agg (z110_3 se)),.stop]) (obs:=_) hE.kind (hE.nogh (by kernel_rfl)) Qi (by kernel_rfl) ho hg
theorem f110W (i:Int) (s:Stl) (me mu:List Int) (ga gb:Nat) {E:Env} {rv:Bool} {me2:List Int} {mu2:List Int} (hE:LentE Try.prog 110 [.sl 2 gb 0 0 1] (.bool rv) [⟨true,0,1,false,[.rsl (Qd s.stages) 0 s.stages.length,.rsl (rowI s.worth) 0 s.worth.length,.int .i64 s.price,.sl 1 ga 0 me.length 1,.sl 2 gb 0 mu.length 1],false⟩,⟨true,ga,1,true,(rowI me2),true⟩,⟨true,gb,1,true,(rowI mu2),true⟩] E)
 (h:(0≤i∧(∃ se:Stg,s.stages[Int.toNat i]?=some se∧f110G0 E i s me mu ga gb se.turns se.turns.length se.kind se.prize se.turns 1 true 0))):G Try.prog E [.code (Qe Try.prog 110)] ⟨[.ptr 0 0 0,.int .i64 i]++unds (Try.f110.ntmps - 2),[⟨true,0,1,false,[.rsl (Qd s.stages) 0 s.stages.length,.rsl (rowI s.worth) 0 s.worth.length,.int .i64 s.price,.sl 1 ga 0 me.length 1,.sl 2 gb 0 mu.length 1],false⟩,⟨true,ga,1,true,(rowI me),true⟩,⟨true,gb,1,true,(rowI mu),true⟩]⟩:=by
 obtain ⟨h2,h⟩:=h
 obtain ⟨se,h1,h⟩:=h
 exact p110_start_0 i s me mu ga gb se hE ⟨(Qj h2 h1),(rp cStg 3 0 3 h1),(by decide),trivial⟩ h
theorem p110_0_0 (i:Int) (s:Stl) (me mu:List Int) (ga gb:Nat) (i1:(List Trn)) (i11:Nat) (v3_0:Int) (v3_1:Int) (v3_2:(List Trn)) (multiple:Int) (ok:Bool) (i111:Nat) (te:Trn) (e:Int) {E:Env} {res:AV} {bs2:List Blk} (hE:LentE Try.prog 110 [.sl 2 gb 0 0 1] res bs2 E) (ho:AllP [(decide ((i111:Int)<(i11:Int)))=true,0≤(i111:Int)∧(i111:Int)<(i1.length:Int),((Qk i1).drop (0+(Int.toNat (i111:Int))*2)).take 2=[.int .i64 te.w,.int .i64 te.to],2≤2,0≤te.to∧te.to<(me.length:Int),ga=ga,ga=ga,((rowI me).drop (0+(Int.toNat te.to)*1)).take 1=[.int .i64 e],Qg Try.prog (.clos 117 [] []) [.int .i64 multiple,.int .i64 e] (.int .i64 (iMax (gcdI multiple e) 1)),InR .i64 (Int.tdiv multiple (iMax (gcdI multiple e) 1)),(iMax (gcdI multiple e) 1) ≠ 0,Qg Try.prog (.clos 102 [] []) [.int .i64 (Int.tdiv multiple (iMax (gcdI multiple e) 1)),.int .i64 e] (z110_4 multiple e),(!(yf multiple e).2)=true])
 (hr:(.bool false)=res) (hb:[⟨true,0,1,false,(z110_2 s ga me gb mu),false⟩,⟨true,ga,1,true,(rowI me),true⟩,⟨true,gb,1,true,(rowI mu),true⟩]=bs2):G Try.prog E (qx Try.prog) (f110S0 i s me mu ga gb i1 i11 v3_0 v3_1 v3_2 multiple ok i111 ) :=
 Xz (n:=400) (live:=[4]) (m:=3) (evs:=[.b true,.ld (.agg [.int .i64 te.w,.int .i64 te.to]),.auto,.auto,.ld (.int .i64 e),.v (.int .i64 (iMax (gcdI multiple e) 1)),.v (z110_4 multiple e),.b true]) (obs:=_) hE (hE.nogh (by kernel_rfl)) Try.func110 Qi (by kernel_rfl) ho hr hb
theorem p110_0_1 (i:Int) (s:Stl) (me mu:List Int) (ga gb:Nat) (i1:(List Trn)) (i11:Nat) (v3_0:Int) (v3_1:Int) (v3_2:(List Trn)) (multiple:Int) (ok:Bool) (i111:Nat) (te:Trn) (e:Int) {E:Env} {rv:AV} {bs2:List Blk} (hE:LentE Try.prog 110 [.sl 2 gb 0 0 1] rv bs2 E) (ho:AllP [(decide ((i111:Int)<(i11:Int)))=true,0≤(i111:Int)∧(i111:Int)<(i1.length:Int),((Qk i1).drop (0+(Int.toNat (i111:Int))*2)).take 2=[.int .i64 te.w,.int .i64 te.to],2≤2,0≤te.to∧te.to<(me.length:Int),ga=ga,ga=ga,((rowI me).drop (0+(Int.toNat te.to)*1)).take 1=[.int .i64 e],Qg Try.prog (.clos 117 [] []) [.int .i64 multiple,.int .i64 e] (.int .i64 (iMax (gcdI multiple e) 1)),InR .i64 (Int.tdiv multiple (iMax (gcdI multiple e) 1)),(iMax (gcdI multiple e) 1) ≠ 0,Qg Try.prog (.clos 102 [] []) [.int .i64 (Int.tdiv multiple (iMax (gcdI multiple e) 1)),.int .i64 e] (z110_4 multiple e),(!(yf multiple e).2)=false,InR .i64 ((i111:Int)+1)])
 (hg:G Try.prog E (qx Try.prog) ⟨([.ptr 0 0 0,.int .i64 i,J,J,J,.ptr 3 0 0,.int .i64 ((yf multiple e).1),.bool ((yf multiple e).2)]++jj 12 ([.rsl (Qk i1) 0 i1.length,.int .i64 (i11:Int),.int .i64 ((i111:Int)+1)]++Js 55)),[⟨true,0,1,false,(z110_2 s ga me gb mu),false⟩,⟨true,ga,1,true,(rowI me),true⟩,⟨true,gb,1,true,(rowI mu),true⟩,⟨true,0,1,true,[.int .i64 v3_0,.int .i64 v3_1,.rsl (Qk v3_2) 0 v3_2.length],false⟩]⟩):G Try.prog E (qx Try.prog) (f110S0 i s me mu ga gb i1 i11 v3_0 v3_1 v3_2 multiple ok i111 ) :=
 Qh (n:=400) (ds:=[]) (cs:=[]) (live:=[0,1,5,6,7,20,21,22]) (m:=4) (evs:=[.b true,.ld (.agg [.int .i64 te.w,.int .i64 te.to]),.auto,.auto,.ld (.int .i64 e),.v (.int .i64 (iMax (gcdI multiple e) 1)),.v (z110_4 multiple e),.b false,.stop]) (obs:=_) hE.kind (hE.nogh (by kernel_rfl)) Qi (by kernel_rfl) ho hg
theorem p110_0_2 (i:Int) (s:Stl) (me mu:List Int) (ga gb:Nat) (i1:(List Trn)) (i11:Nat) (v3_0:Int) (v3_1:Int) (v3_2:(List Trn)) (multiple:Int) (ok:Bool) (i111:Nat) (e:Int) (e1:Int) (e2:Int) {E:Env} {res:AV} {bs2:List Blk} (hE:LentE Try.prog 110 [.sl 2 gb 0 0 1] res bs2 E) (ho:AllP [(decide ((i111:Int)<(i11:Int)))=false,0≤i∧i<(mu.length:Int),gb=gb,((0+(Int.toNat i)*1)+1)≤(rowI mu).length,gb=gb,0≤i∧i<(me.length:Int),ga=ga,((0+(Int.toNat i)*1)+1)≤(rowI me).length,ga=ga,(v3_0 == 1)=true,Qg Try.prog (.clos 99 [] []) [.agg [.int .i64 v3_0,.int .i64 v3_1,.rsl (Qk v3_2) 0 v3_2.length]] (.int .i64 (totI (⟨v3_0,v3_1,v3_2⟩:Stg))),Qg Try.prog (.clos 102 [] []) [.int .i64 multiple,.int .i64 (totI (⟨v3_0,v3_1,v3_2⟩:Stg))] (.tup [.int .i64 ((Xw multiple (totI (⟨v3_0,v3_1,v3_2⟩:Stg))).1),.bool ((Xw multiple (totI (⟨v3_0,v3_1,v3_2⟩:Stg))).2)]),0≤i∧i<(me.length:Int),ga=ga,((0+(Int.toNat i)*1)+1)≤(QD (rowI me) (0+(Int.toNat i)*1) [.int .i64 multiple]).length,ga=ga])
 (hr:(.bool ((Xw multiple (totI (⟨v3_0,v3_1,v3_2⟩:Stg))).2))=res) (hb:[⟨true,0,1,false,[.rsl (Qd s.stages) 0 s.stages.length,.rsl (rowI s.worth) 0 s.worth.length,.int .i64 s.price,.sl 1 ga 0 me.length 1,.sl 2 gb 0 mu.length 1],false⟩,⟨true,ga,1,true,(QD (QD (rowI me) (0+(Int.toNat i)*1) [.int .i64 multiple]) (0+(Int.toNat i)*1) [.int .i64 ((Xw multiple (totI (⟨v3_0,v3_1,v3_2⟩:Stg))).1)]),true⟩,⟨true,gb,1,true,(QD (rowI mu) (0+(Int.toNat i)*1) [.int .i64 multiple]),true⟩]=bs2):G Try.prog E (qx Try.prog) (f110S0 i s me mu ga gb i1 i11 v3_0 v3_1 v3_2 multiple ok i111 ) :=
 Xz (n:=400) (live:=[4]) (m:=3) (evs:=[.b false,.b true,.v (.int .i64 (totI (⟨v3_0,v3_1,v3_2⟩:Stg))),.v (.tup [.int .i64 ((Xw multiple (totI (⟨v3_0,v3_1,v3_2⟩:Stg))).1),.bool ((Xw multiple (totI (⟨v3_0,v3_1,v3_2⟩:Stg))).2)])]) (obs:=_) hE (hE.nogh (by kernel_rfl)) Try.func110 Qi (by kernel_rfl) ho hr hb
theorem p110_0_3 (i:Int) (s:Stl) (me mu:List Int) (ga gb:Nat) (i1:(List Trn)) (i11:Nat) (v3_0:Int) (v3_1:Int) (v3_2:(List Trn)) (multiple:Int) (ok:Bool) (i111:Nat) (e:Int) (e1:Int) {E:Env} {res:AV} {bs2:List Blk} (hE:LentE Try.prog 110 [.sl 2 gb 0 0 1] res bs2 E) (ho:AllP [(decide ((i111:Int)<(i11:Int)))=false,0≤i∧i<(mu.length:Int),gb=gb,((0+(Int.toNat i)*1)+1)≤(rowI mu).length,gb=gb,0≤i∧i<(me.length:Int),ga=ga,((0+(Int.toNat i)*1)+1)≤(rowI me).length,ga=ga,(v3_0 == 1)=false])
 (hr:(.bool ok)=res) (hb:[⟨true,0,1,false,[.rsl (Qd s.stages) 0 s.stages.length,.rsl (rowI s.worth) 0 s.worth.length,.int .i64 s.price,.sl 1 ga 0 me.length 1,.sl 2 gb 0 mu.length 1],false⟩,⟨true,ga,1,true,(QD (rowI me) (0+(Int.toNat i)*1) [.int .i64 multiple]),true⟩,⟨true,gb,1,true,(QD (rowI mu) (0+(Int.toNat i)*1) [.int .i64 multiple]),true⟩]=bs2):G Try.prog E (qx Try.prog) (f110S0 i s me mu ga gb i1 i11 v3_0 v3_1 v3_2 multiple ok i111 ) :=
 Xz (n:=400) (live:=[4]) (m:=3) (evs:=[.b false,.b false]) (obs:=_) hE (hE.nogh (by kernel_rfl)) Try.func110 Qi (by kernel_rfl) ho hr hb
theorem f110W0 (i:Int) (s:Stl) (me mu:List Int) (ga gb:Nat) (i1:(List Trn)) (i11:Nat) (v3_0:Int) (v3_1:Int) (v3_2:(List Trn)) (multiple:Int) (ok:Bool) (i111:Nat) {E:Env} {rv:Bool} {me2:List Int} {mu2:List Int} (hE:LentE Try.prog 110 [.sl 2 gb 0 0 1] (.bool rv) [⟨true,0,1,false,[.rsl (Qd s.stages) 0 s.stages.length,.rsl (rowI s.worth) 0 s.worth.length,.int .i64 s.price,.sl 1 ga 0 me.length 1,.sl 2 gb 0 mu.length 1],false⟩,⟨true,ga,1,true,(rowI me2),true⟩,⟨true,gb,1,true,(rowI mu2),true⟩] E)
 (h:(((i111:Int)<(i11:Int)→(∃ te:Trn,i1[i111]?=some te∧(0≤te.to∧(∃ e:Int,me[Int.toNat te.to]?=some e∧((0≤multiple∧0≤e)∧((I6 (Int.tdiv multiple (iMax (gcdI multiple e) 1)))∧((iMax (gcdI multiple e) 1) ≠ 0∧((0≤(Int.tdiv multiple (iMax (gcdI multiple e) 1))∧0<e)∧(((!(Xw (Int.tdiv multiple (iMax (gcdI multiple e) 1)) e).2)=true→rv=false∧me2=me∧mu2=mu)∧((!(Xw (Int.tdiv multiple (iMax (gcdI multiple e) 1)) e).2)=false→((I6 ((i111:Int)+1))∧f110G0 E i s me mu ga gb i1 i11 v3_0 v3_1 v3_2 ((Xw (Int.tdiv multiple (iMax (gcdI multiple e) 1)) e).1) ((Xw (Int.tdiv multiple (iMax (gcdI multiple e) 1)) e).2) (i111+1))))))))))))∧(¬ ((i111:Int)<(i11:Int))→(0≤i∧(∃ e:Int,mu[Int.toNat i]?=some e∧(0≤i∧(∃ e1:Int,me[Int.toNat i]?=some e1∧((v3_0=1→((TotOk (⟨v3_0,v3_1,v3_2⟩:Stg))∧((0≤multiple∧0<(totI (⟨v3_0,v3_1,v3_2⟩:Stg)))∧(0≤i∧(∃ e2:Int,(me.set (Int.toNat i) multiple)[Int.toNat i]?=some e2∧rv=(Xw multiple (totI (⟨v3_0,v3_1,v3_2⟩:Stg))).2∧me2=((me.set (Int.toNat i) multiple).set (Int.toNat i) ((Xw multiple (totI (⟨v3_0,v3_1,v3_2⟩:Stg))).1))∧mu2=(mu.set (Int.toNat i) multiple))))))∧(¬ (v3_0=1)→rv=ok∧me2=(me.set (Int.toNat i) multiple)∧mu2=(mu.set (Int.toNat i) multiple)))))))))):f110G0 E i s me mu ga gb i1 i11 v3_0 v3_1 v3_2 multiple ok i111:=by
 rcases bft (decide ((i111:Int)<(i11:Int))) with hc0 | hc0
 · have h:=h.1 (odt hc0)
   obtain ⟨te,h1,h⟩:=h
   obtain ⟨h3,h⟩:=h
   obtain ⟨e,h2,h⟩:=h
   obtain ⟨h4,h⟩:=h
   obtain ⟨q11_1,h⟩:=h
   obtain ⟨q12_1,h⟩:=h
   obtain ⟨h5,h⟩:=h
   rcases bft (!(Xw (Int.tdiv multiple (iMax (gcdI multiple e) 1)) e).2) with hc1 | hc1
   · have h:=h.1 hc1
     obtain ⟨qe0,qe1,qe2⟩:=h
     exact p110_0_0 i s me mu ga gb i1 i11 v3_0 v3_1 v3_2 multiple ok i111 te e hE ⟨hc0,(Qn h1),(rp cTrn 2 0 2 h1),(by decide),(Qj h3 h2),rfl,rfl,(rp cI 1 0 1 h2),(u117 (VY multiple e h4)),q11_1,q12_1,(u102 (VP (Int.tdiv multiple (iMax (gcdI multiple e) 1)) e h5)),hc1,trivial⟩ (by rw [qe0]; try rfl) (by rw [qe1,qe2]; all_goals (first | rfl | (simp only [List.length_set]; done) | (simp only [List.length_set]; rfl)))
   · have h:=h.2 hc1
     obtain ⟨q15_2,h⟩:=h
     exact p110_0_1 i s me mu ga gb i1 i11 v3_0 v3_1 v3_2 multiple ok i111 te e hE ⟨hc0,(Qn h1),(rp cTrn 2 0 2 h1),(by decide),(Qj h3 h2),rfl,rfl,(rp cI 1 0 1 h2),(u117 (VY multiple e h4)),q11_1,q12_1,(u102 (VP (Int.tdiv multiple (iMax (gcdI multiple e) 1)) e h5)),hc1,q15_2,trivial⟩ h
 · have h:=h.2 (odf hc0)
   obtain ⟨h2,h⟩:=h
   obtain ⟨e,h1,h⟩:=h
   obtain ⟨h4,h⟩:=h
   obtain ⟨e1,h3,h⟩:=h
   rcases bft (v3_0 == 1) with hc1 | hc1
   · have h:=h.1 (eq_of_beq hc1)
     obtain ⟨h5,h⟩:=h
     obtain ⟨h6,h⟩:=h
     obtain ⟨h8,h⟩:=h
     obtain ⟨e2,h7,h⟩:=h
     obtain ⟨qe0,qe1,qe2⟩:=h
     exact p110_0_2 i s me mu ga gb i1 i11 v3_0 v3_1 v3_2 multiple ok i111 e e1 e2 hE ⟨hc0,(Qj h2 h1),rfl,(rf cI 1 0 1 h1),rfl,(Qj h4 h3),rfl,(rf cI 1 0 1 h3),rfl,hc1,(u99 (yT (⟨v3_0,v3_1,v3_2⟩:Stg) h5)),(u102 (VP multiple (totI (⟨v3_0,v3_1,v3_2⟩:Stg)) h6)),(by have hx:=Qj h8 h7; simpa using hx),rfl,(by rw [(show QD (rowI me) (0+(Int.toNat i)*1) [.int .i64 multiple]=rowI (me.set (Int.toNat i) multiple) from QT cI (s:=1) (k:=0) (fun _=>rfl) h3 rfl (by first | decide | simp))]; exact rf cI 1 0 1 h7),rfl,trivial⟩ (by rw [qe0]; try rfl) (by rw [qe1,qe2]; rw [(show QD (rowI me) (0+(Int.toNat i)*1) [.int .i64 multiple]=rowI (me.set (Int.toNat i) multiple) from QT cI (s:=1) (k:=0) (fun _=>rfl) h3 rfl (by first | decide | simp))]; rw [(show QD (rowI (me.set (Int.toNat i) multiple)) (0+(Int.toNat i)*1) [.int .i64 ((Xw multiple (totI (⟨v3_0,v3_1,v3_2⟩:Stg))).1)]=rowI ((me.set (Int.toNat i) multiple).set (Int.toNat i) ((Xw multiple (totI (⟨v3_0,v3_1,v3_2⟩:Stg))).1)) from QT cI (s:=1) (k:=0) (fun _=>rfl) h7 rfl (by first | decide | simp))]; rw [(show QD (rowI mu) (0+(Int.toNat i)*1) [.int .i64 multiple]=rowI (mu.set (Int.toNat i) multiple) from QT cI (s:=1) (k:=0) (fun _=>rfl) h1 rfl (by first | decide | simp))]; all_goals (first | rfl | (simp only [List.length_set]; done) | (simp only [List.length_set]; rfl)))
   · have h:=h.2 (ne_of_beq_false hc1)
     obtain ⟨qe0,qe1,qe2⟩:=h
     exact p110_0_3 i s me mu ga gb i1 i11 v3_0 v3_1 v3_2 multiple ok i111 e e1 hE ⟨hc0,(Qj h2 h1),rfl,(rf cI 1 0 1 h1),rfl,(Qj h4 h3),rfl,(rf cI 1 0 1 h3),rfl,hc1,trivial⟩ (by rw [qe0]; try rfl) (by rw [qe1,qe2]; rw [(show QD (rowI me) (0+(Int.toNat i)*1) [.int .i64 multiple]=rowI (me.set (Int.toNat i) multiple) from QT cI (s:=1) (k:=0) (fun _=>rfl) h3 rfl (by first | decide | simp))]; rw [(show QD (rowI mu) (0+(Int.toNat i)*1) [.int .i64 multiple]=rowI (mu.set (Int.toNat i) multiple) from QT cI (s:=1) (k:=0) (fun _=>rfl) h1 rfl (by first | decide | simp))]; all_goals (first | rfl | (simp only [List.length_set]; done) | (simp only [List.length_set]; rfl)))
theorem gcdF_dvd:∀ {n:Nat} {a b:Int},0≤a→0≤b→b<n→gcdF n a b∣a∧gcdF n a b∣b
 | 0,a,b,_,hb,h=>by omega
 | n+1,a,b,ha,hb,h=>by
  simp only [gcdF]
  split
  · rename_i h0
    have t0:=Int.tmod_nonneg b ha
    have t1:=Int.tmod_lt_of_pos a h0
    obtain ⟨d1,d2⟩:=gcdF_dvd (n:=n) hb t0 (by omega)
    generalize gcdF n b (Int.tmod a b)=g at d1 d2
    obtain ⟨x,hx⟩:=d1
    obtain ⟨y,hy⟩:=d2
    refine ⟨⟨x*Int.tdiv a b+y,?_⟩,⟨x,hx⟩⟩
    rw [Int.mul_add,← Int.mul_assoc,← hx,← hy]
    exact (Int.mul_tdiv_add_tmod a b).symm
  · have:b=0:=by omega
    subst this
    exact ⟨⟨1,by omega⟩,⟨0,by omega⟩⟩
theorem gcd_dvd {a b:Int} (ha:0≤a) (hb:0≤b):gcdI a b∣a∧gcdI a b∣b:=gcdF_dvd ha hb (by omega)
theorem qt {a b:Int} (ha:0<a) (hb:0≤b):0<gcdI a b:=by
 have h1:=gcd_nonneg (a:=a) (b:=b) (by omega) hb
 obtain ⟨x,hx⟩:=(gcd_dvd (a:=a) (b:=b) (by omega) hb).1
 rcases Int.lt_or_eq_of_le h1 with h | h
 · exact h
 · rw [← h] at hx; omega
/-- The least common multiple,by and by. -/
theorem lcm_eq {m n:Int} (hm:0<m) (hn:0<n):Int.tdiv m (gcdI m n)*n=m*Int.tdiv n (gcdI m n)∧0<Int.tdiv n (gcdI m n)∧Int.tdiv n (gcdI m n)≤n∧0<Int.tdiv m (gcdI m n)∧Int.tdiv m (gcdI m n)≤m:=by
 have hg:=qt (b:=n) hm (by omega)
 obtain ⟨d1,d2⟩:=gcd_dvd (a:=m) (b:=n) (by omega) (by omega)
 generalize gcdI m n=g at hg d1 d2
 obtain ⟨x,rfl⟩:=d1
 obtain ⟨y,rfl⟩:=d2
 have hx:0<x:=by
  rcases Int.lt_or_le 0 x with h | h
  · exact h
  · have:=Int.mul_nonpos_of_nonneg_of_nonpos (show 0≤g by omega) h; omega
 have hy:0<y:=by
  rcases Int.lt_or_le 0 y with h | h
  · exact h
  · have:=Int.mul_nonpos_of_nonneg_of_nonpos (show 0≤g by omega) h; omega
 have ex:Int.tdiv (g*x) g=x:=Int.mul_tdiv_cancel_left x (by omega)
 have ey:Int.tdiv (g*y) g=y:=Int.mul_tdiv_cancel_left y (by omega)
 rw [ex,ey]
 have bx:1*x≤g*x:=Int.mul_le_mul_of_nonneg_right (by omega) (by omega)
 have by':1*y≤g*y:=Int.mul_le_mul_of_nonneg_right (by omega) (by omega)
 refine ⟨by rw [Int.mul_comm g x,Int.mul_assoc],hy,by omega,hx,by omega⟩
def lcmI (m n:Int):Int:=m*Int.tdiv n (gcdI m n)
def YB (me:List Int):Int→List Trn→Option Int
 | m,[]=>some m
 | m,t :: r=>if lcmI m (me.getD (Int.toNat t.to) 0) > 1000000000000 then none else YB me (lcmI m (me.getD (Int.toNat t.to) 0)) r
def QE (x:Stg) (i:Nat) (me mu:List Int):Bool × List Int × List Int:=match YB me 1 x.turns with
 | none=>(false,me,mu)
 | some m=>if x.kind=1 then ((Xw m (totI x)).2,me.set i (Xw m (totI x)).1,mu.set i m) else (true,me.set i m,mu.set i m)
/-- The stages behind 'i' have their measures. -/
structure MeOk (s:Stl) (i:Nat) (me:List Int):Prop where
 len:me.length=s.stages.length
 pos:∀ (j:Nat) (v:Int),i<j→me[j]?=some v→0<v∧v≤1000000000000
theorem Kg {m n:Int} (hm:0<m) (hn:0<n):0<lcmI m n:=Int.mul_pos hm (lcm_eq hm hn).2.1
theorem prod_lcm {m n:Int} (hm:0<m) (hn:0<n):Xw (Int.tdiv m (iMax (gcdI m n) 1)) n=if lcmI m n > 1000000000000 then (0,false) else (lcmI m n,true):=by
 have hg:=qt (b:=n) hm (by omega)
 have e:iMax (gcdI m n) 1=gcdI m n:=by simp only [iMax]; split <;> omega
 obtain ⟨l1,l2,l3,l4,l5⟩:=lcm_eq hm hn
 rw [e]
 rcases prod_of (a:=Int.tdiv m (gcdI m n)) (b:=n) (by omega) hn with ⟨h1,h2⟩ | ⟨h1,h2⟩
 · rw [h1,if_pos (by rw [lcmI,← l1]; exact h2)]
 · rw [h1,if_neg (by rw [lcmI,← l1]; omega),lcmI,l1]
theorem trn_of {lo hi i:Int} {n:Nat} {t:Trn} (h:Xd lo hi i n t=true):(lo≤t.w∧t.w≤hi)∧i+1≤t.to∧t.to≤(n:Int) - 1:=by
 simp only [Xd,Bool.and_eq_true] at h
 exact ⟨Qz.1 h.1,Qz.1 h.2⟩
theorem XC {s:Stl} {i:Nat} {x:Stg} (hi:s.stages[i]?=some x) (h:QP s i=true):(x.kind=4∧x.turns=[]∧(-1≤x.prize∧x.prize≤(s.worth.length:Int) - 1)) ∨
 ((1≤x.kind∧x.kind≤3)∧x.prize=0∧(1≤x.turns.length∧x.turns.length≤8)∧(∀ t ∈ x.turns,(i:Int)+1≤t.to∧t.to≤(s.stages.length:Int) - 1)∧(x.kind=1→∀ t ∈ x.turns,1≤t.w∧t.w≤100)∧(x.kind ≠ 1→∀ t ∈ x.turns,t.w=0)):=by
 rw [QP,hi] at h
 simp only [Va] at h
 split at h
 · rename_i h1
   simp only [Bool.and_eq_true,decide_eq_true_eq] at h
   exact .inl ⟨h1,List.length_eq_zero_iff.1 h.1,Qz.1 h.2⟩
 · simp only [Bool.and_eq_true,decide_eq_true_eq] at h
   obtain ⟨h1,h2,h3,h4⟩:=h
   rw [List.all_eq_true] at h4
   have w:=Qz.1 h3
   refine .inr ⟨Qz.1 h1,h2,by omega,fun t ht=>(trn_of (h4 t ht)).2,fun hk t ht=>?_,fun hk t ht=>?_⟩
   · have:=(trn_of (h4 t ht)).1
     rw [if_pos hk,if_pos hk] at this; exact this
   · have:=(trn_of (h4 t ht)).1
     rw [if_neg hk,if_neg hk] at this; omega
theorem YI {s:Stl} {i:Nat} {x:Stg} (hi:s.stages[i]?=some x) (h:QP s i=true):TotOk x∧(x.kind=1→0<totI x∧totI x≤800):=by
 rcases XC hi h with ⟨h1,h2,-⟩ | ⟨h1,h2,h3,h4,h5,h6⟩
 · refine ⟨⟨by rw [h2]; simp,by rw [h2]; simp⟩,fun h=>by omega⟩
 · refine ⟨⟨by omega,fun t ht=>?_⟩,fun hk=>?_⟩
   · by_cases hk:x.kind=1
     · have:=h5 hk t ht; omega
     · have:=h6 hk t ht; omega
   · have b:=WX (l:=x.turns) (B:=100) fun t ht=>by have:=h5 hk t ht; omega
     obtain ⟨t,r,ht⟩:∃ t r,x.turns=t :: r:=by
      cases e:x.turns with
      | nil=>rw [e] at h3; simp at h3
      | cons t r=>exact ⟨t,r,rfl⟩
     have b1:=h5 hk t (by rw [ht]; simp)
     have b2:=WX (l:=r) (B:=100) fun t' ht'=>by have:=h5 hk t' (by rw [ht]; simp [ht']); omega
     rw [totI]
     have:(x.turns.map (·.w)).sum=t.w+(r.map (·.w)).sum:=by rw [ht]; simp
     omega
theorem measure_ok (s:Stl) (i:Nat) (me mu:List Int) (ga gb:Nat) (h:i<s.stages.length∧QP s i=true∧MeOk s i me∧mu.length=s.stages.length) :
 Lent Try.prog 110 [.ptr 0 0 0,.int .i64 (i:Int)] [⟨true,0,1,false,[.rsl (Qd s.stages) 0 s.stages.length,.rsl (rowI s.worth) 0 s.worth.length,.int .i64 s.price,.sl 1 ga 0 me.length 1,.sl 2 gb 0 mu.length 1],false⟩,⟨true,ga,1,true,rowI me,true⟩,⟨true,gb,1,true,rowI mu,true⟩]
  (.bool (QE (s.stages.getD i ⟨0,0,[]⟩) i me mu).1) [⟨true,0,1,false,[.rsl (Qd s.stages) 0 s.stages.length,.rsl (rowI s.worth) 0 s.worth.length,.int .i64 s.price,.sl 1 ga 0 me.length 1,.sl 2 gb 0 mu.length 1],false⟩,⟨true,ga,1,true,rowI (QE (s.stages.getD i ⟨0,0,[]⟩) i me mu).2.1,true⟩,⟨true,gb,1,true,rowI (QE (s.stages.getD i ⟨0,0,[]⟩) i me mu).2.2,true⟩]:=by
 refine lent_of _ Try.func110 f110b rfl rfl fun E hE=>?_
 obtain ⟨hi',hf,hme,hmu⟩:=h
 have hi:s.stages[i]?=some s.stages[i]:=List.getElem?_eq_getElem hi'
 have hx:s.stages.getD i ⟨0,0,[]⟩=s.stages[i]:=by simp [List.getD,hi]
 rw [hx] at hE
 have hto:=YI hi hf
 have hfo:=XC hi hf
 generalize s.stages[i]=x at hi hx hE hto hfo
 have en:Int.toNat (i:Int)=i:=by omega
 have hmi:mu[i]?=some mu[i]:=List.getElem?_eq_getElem (by omega)
 have hei:me[i]?=some (me[i]'(by rw [hme.len]; exact hi')):=List.getElem?_eq_getElem (by rw [hme.len]; exact hi')
 have key:∀ (d k:Nat) (m:Int) (ok:Bool),k+d=x.turns.length→(0<m∧m≤1000000000000)→ok=true→YB me 1 x.turns=YB me m (x.turns.drop k)→f110G0 E i s me mu ga gb x.turns x.turns.length x.kind x.prize x.turns m ok k:=by
  intro d
  induction d with
  | zero =>
   intro k m ok hd hm ho hk
   rw [List.drop_eq_nil_of_le (by omega),YB] at hk
   refine f110W0 i s me mu ga gb x.turns x.turns.length x.kind x.prize x.turns m ok k (rv:=(QE x i me mu).1) (me2:=(QE x i me mu).2.1) (mu2:=(QE x i me mu).2.2) hE ⟨fun h=>by omega,fun _=>⟨by omega,_,by rw [en]; exact hmi,by omega,_,by rw [en]; exact hei,fun hk1=>⟨hto.1,by have:=hto.2 hk1; exact ⟨by omega,this.1⟩,by omega,m,?_,?_,?_,?_⟩,fun hk1=>⟨?_,?_,?_⟩⟩⟩
   · rw [en,List.getElem?_set_self (by rw [hme.len]; exact hi')]
   · simp only [QE,hk,if_pos hk1]
   · simp only [QE,hk,if_pos hk1,en,List.set_set]
   · simp only [QE,hk,if_pos hk1,en]
   · simp only [QE,hk,if_neg hk1,ho]
   · simp only [QE,hk,if_neg hk1,en]
   · simp only [QE,hk,if_neg hk1,en]
  | succ d ih =>
   intro k m ok hd hm ho hk
   have hkk:x.turns[k]?=some x.turns[k]:=List.getElem?_eq_getElem (by omega)
   rw [List.drop_eq_getElem_cons (by omega)] at hk
   have htm:=List.mem_of_getElem? hkk
   generalize x.turns[k]=t at hk hkk htm
   have ht:(i:Int)+1≤t.to∧t.to≤(s.stages.length:Int) - 1:=by
    rcases hfo with ⟨-,h2,-⟩ | ⟨-,-,-,h4,-,-⟩
    · rw [h2] at htm; simp at htm
    · exact h4 t htm
   have htl:x.turns.length≤8:=by
    rcases hfo with ⟨-,h2,-⟩ | ⟨-,-,h3,-,-,-⟩
    · rw [h2]; simp
    · exact h3.2
   have hg:me[Int.toNat t.to]?=some (me.getD (Int.toNat t.to) 0):=by simp [List.getD,show Int.toNat t.to<me.length by rw [hme.len]; omega]
   have hv:=hme.pos _ _ (by omega) hg
   simp only [YB] at hk
   generalize me.getD (Int.toNat t.to) 0=n at hg hv hk
   have pl:=prod_lcm hm.1 hv.1
   have lp:=Kg hm.1 hv.1
   obtain ⟨l1,l2,l3,l4,l5⟩:=lcm_eq hm.1 hv.1
   have hgp:=qt (b:=n) hm.1 (by omega)
   have e:iMax (gcdI m n) 1=gcdI m n:=by simp only [iMax]; split <;> omega
   refine f110W0 i s me mu ga gb x.turns x.turns.length x.kind x.prize x.turns m ok k (rv:=(QE x i me mu).1) (me2:=(QE x i me mu).2.1) (mu2:=(QE x i me mu).2.2) hE ⟨fun _=>⟨t,hkk,by omega,n,hg,⟨by omega,by omega⟩,by rw [e]; omega,by rw [e]; omega,⟨by rw [e]; omega,hv.1⟩,fun h1=>?_,fun h1=>⟨by omega,?_⟩⟩,fun h=>by omega⟩
   · rw [pl] at h1
     split at h1
     · rename_i h2
       rw [if_pos h2] at hk
       simp [QE,hk]
     · simp at h1
   · rw [pl] at h1 ⊢
     split at h1
     · simp at h1
     · rename_i h2
       rw [if_neg h2] at hk
       simp only [if_neg h2]
       exact ih (k+1) (lcmI m n) true (by omega) (by omega) rfl hk
 refine f110W i s me mu ga gb (rv:=(QE x i me mu).1) (me2:=(QE x i me mu).2.1) (mu2:=(QE x i me mu).2.2) hE ⟨by omega,x,by rw [en]; exact hi,key x.turns.length 0 1 true (by omega) (by omega) rfl (by simp)⟩
theorem ql {s:Stl} {i:Nat} {x:Stg} {me mu:List Int} (hi:s.stages[i]?=some x) (hf:QP s i=true) (hme:MeOk s i me) (h:(QE x i me mu).1=true) :
 (QE x i me mu).2.1.length=s.stages.length∧(QE x i me mu).2.2.length=mu.length∧∀ (j:Nat) (v:Int),i≤j→(QE x i me mu).2.1[j]?=some v→0<v∧v≤1000000000000:=by
 have hlt:=(List.getElem?_eq_some_iff.1 hi).1
 have hto:=YI hi hf
 have hfo:=XC hi hf
 have mb:∀ (l:List Trn) (m m':Int),(∀ t ∈ l,t ∈ x.turns)→(0<m∧m≤1000000000000)→YB me m l=some m'→0<m'∧m'≤1000000000000:=by
  intro l
  induction l with
  | nil=>intro m m' _ hm h; simp only [YB,Option.some.injEq] at h; subst h; exact hm
  | cons t l ih =>
   intro m m' hl hm h
   have htm:=hl t (by simp)
   have ht:(i:Int)+1≤t.to∧t.to≤(s.stages.length:Int) - 1:=by
    rcases hfo with ⟨-,h2,-⟩ | ⟨-,-,-,h4,-,-⟩
    · rw [h2] at htm; simp at htm
    · exact h4 t htm
   have hg:me[Int.toNat t.to]?=some (me.getD (Int.toNat t.to) 0):=by simp [List.getD,show Int.toNat t.to<me.length by rw [hme.len]; omega]
   have hv:=hme.pos _ _ (by omega) hg
   simp only [YB] at h
   split at h
   · cases h
   · exact ih _ _ (fun t ht=>hl t (by simp [ht])) ⟨Kg hm.1 hv.1,by omega⟩ h
 have fin:∀ (w:Int),0<w∧w≤1000000000000→∀ (j:Nat) (v:Int),i≤j→(me.set i w)[j]?=some v→0<v∧v≤1000000000000:=fun w hw j v hj hv=>by
  by_cases e:i=j
  · subst e
    rw [List.getElem?_set_self (by rw [hme.len]; exact hlt)] at hv
    cases hv; exact hw
  · rw [List.getElem?_set_ne e] at hv
    exact hme.pos j v (by omega) hv
 cases hm:YB me 1 x.turns with
 | none=>simp [QE,hm] at h
 | some m =>
  have hb:=mb x.turns 1 m (fun _ h=>h) (by omega) hm
  simp only [QE,hm] at h ⊢
  by_cases hk:x.kind=1
  · simp only [if_pos hk] at h ⊢
    have ht:=hto.2 hk
    refine ⟨by simp [hme.len],by simp,fin _ ?_⟩
    rcases prod_of (a:=m) (b:=totI x) (by omega) ht.1 with ⟨h1,h2⟩ | ⟨h1,h2⟩
    · rw [h1] at h; cases h
    · rw [h1]; exact ⟨Int.mul_pos hb.1 ht.1,h2⟩
  · simp only [if_neg hk] at h ⊢
    exact ⟨by simp [hme.len],by simp,fin _ hb⟩
theorem f51b:Try.f51.body=some (Qe Try.prog 51):=by kernel_rfl
theorem u51 {a c k:List AV} {r:AV} (h:Pure Try.prog 51 (a++c++k) r):Qg Try.prog (.clos 51 a k) c r:=Ql Try.func51 (by kernel_rfl) f51b h
def f51K0 (P:Program):List Item:=kAt 400 [.code (Qe P 51)] [.stop]
def f51S0 (s:Stl) (v1:List Int) (i:Int) (g1:Nat):St:=⟨([J,.ptr 0 0 0,J,J,.sl 1 g1 0 v1.length 1,.int .i64 i]++Js 66),[⟨true,0,1,true,[.rsl (Qd s.stages) 0 s.stages.length,.rsl (rowI s.worth) 0 s.worth.length,.int .i64 s.price],false⟩,⟨true,g1,1,true,(rowI v1),true⟩]⟩
def f51G0 (E:Env) (s:Stl) (v1:List Int) (i:Int):Prop:=∀ g1:Nat,G Try.prog E (f51K0 Try.prog) (f51S0 s v1 i g1)
def f51K1 (P:Program):List Item:=kAt 400 [.code (Qe P 51)] [.b true,.stop]
def f51S1 (s:Stl) (v1:List Int) (v2_0:Int) (v2_1:Int) (v2_2:(List Trn)) (m:Int) (k:Nat) (i:Int) (g1:Nat):St:=⟨([J,.ptr 0 0 0,J,J,.sl 1 g1 0 v1.length 1,.int .i64 i,.int .i64 m,.ptr 2 0 0,.int .i64 (k:Int)]++Js 63),[⟨true,0,1,true,[.rsl (Qd s.stages) 0 s.stages.length,.rsl (rowI s.worth) 0 s.worth.length,.int .i64 s.price],false⟩,⟨true,g1,1,true,(rowI v1),true⟩,⟨true,0,1,true,[.int .i64 v2_0,.int .i64 v2_1,.rsl (Qk v2_2) 0 v2_2.length],false⟩]⟩
def f51G1 (E:Env) (s:Stl) (v1:List Int) (v2_0:Int) (v2_1:Int) (v2_2:(List Trn)) (m:Int) (k:Nat) (i:Int):Prop:=∀ g1:Nat,G Try.prog E (f51K1 Try.prog) (f51S1 s v1 v2_0 v2_1 v2_2 m k i g1)
abbrev z51_1 (s:Stl):List AV:=[.rsl (Qd s.stages) 0 s.stages.length,.rsl (rowI s.worth) 0 s.worth.length,.int .i64 s.price]
abbrev z51_2 (se:Stg):List AV:=[.int .i64 se.kind,.int .i64 se.prize,.rsl (Qk se.turns) 0 se.turns.length]
theorem p51_start_0 (s:Stl) {E:Env} {rv:AV} (hE:Qf Try.prog 51 rv E) (ho:AllP [0≤(s.stages.length:Int)∧(s.stages.length:Int)≤(s.stages.length:Int)∧(s.stages.length:Int)≤2147483648,0=0,InR .i64 ((((Int.toNat (s.stages.length:Int)):Nat):Int) - 1)])
 (hg:G Try.prog E (f51K0 Try.prog) ⟨([J,.ptr 0 0 0,J,J,.sl 1 0 0 (Int.toNat (s.stages.length:Int)) 1,.int .i64 ((((Int.toNat (s.stages.length:Int)):Nat):Int) - 1)]++Js 66),[⟨true,0,1,true,(z51_1 s),false⟩,⟨true,0,1,true,((List.replicate (Int.toNat (s.stages.length:Int)) ([.int .i64 0]:List AV)).flatten),true⟩]⟩):G Try.prog E [.code (Qe Try.prog 51)] ⟨[.agg (z51_1 s)]++unds (Try.f51.ntmps - 1),[]⟩ :=
 Qh (n:=400) (ds:=[]) (cs:=[]) (live:=[1,4,5]) (m:=2) (evs:=[.stop]) (obs:=_) hE.2.1 (hE.nogh _) Qi (by kernel_rfl) ho hg
theorem f51W (s:Stl) {E:Env} {rv:((List Int) × Bool)} (hE:Qf Try.prog 51 (.tup [.rsl (rowI rv.1) 0 rv.1.length,.bool rv.2]) E)
 (h:(s.stages.length≤2147483648∧((I6 ((((Int.toNat (s.stages.length:Int)):Nat):Int) - 1))∧f51G0 E s (List.replicate s.stages.length (0:Int)) ((((Int.toNat (s.stages.length:Int)):Nat):Int) - 1)))):G Try.prog E [.code (Qe Try.prog 51)] ⟨[.agg [.rsl (Qd s.stages) 0 s.stages.length,.rsl (rowI s.worth) 0 s.worth.length,.int .i64 s.price]]++unds (Try.f51.ntmps - 1),[]⟩:=by
 obtain ⟨h1,h⟩:=h
 obtain ⟨q2_0,h⟩:=h
 refine p51_start_0 s hE ⟨⟨by omega,by omega,by have:=h1; omega⟩,rfl,q2_0,trivial⟩ ?_
 have h:=(h 0)
 simp only [f51G0,f51S0,List.length_set,List.length_replicate] at h
 rw [(show (List.replicate (Int.toNat (s.stages.length:Int)) ([.int .i64 0]:List AV)).flatten=rowI (List.replicate s.stages.length (0:Int)) from WY cI _ _)]
 exact h
theorem p51_0_0 (s:Stl) (v1:List Int) (i:Int) (g1:Nat) (se:Stg) {E:Env} {rv:AV} (hE:Qf Try.prog 51 rv E) (ho:AllP [(decide (i≥0))=true,0≤i∧i<(s.stages.length:Int),((Qd s.stages).drop (0+(Int.toNat i)*3)).take 3=(z51_2 se),3≤3])
 (hg:G Try.prog E (f51K1 Try.prog) ⟨([J,.ptr 0 0 0,J,J,.sl 1 g1 0 v1.length 1,.int .i64 i,.int .i64 1,.ptr 2 0 0,.int .i64 0]++Js 63),[⟨true,0,1,true,(z51_1 s),false⟩,⟨true,g1,1,true,(rowI v1),true⟩,⟨true,0,1,true,(z51_2 se),false⟩]⟩):G Try.prog E (f51K0 Try.prog) (f51S0 s v1 i g1) :=
 Qh (n:=400) (ds:=[]) (cs:=[]) (live:=[1,4,5,6,7,8]) (m:=3) (evs:=[.b true,.auto,.ld (.agg (z51_2 se)),.stop]) (obs:=_) hE.2.1 (hE.nogh _) Qi (by kernel_rfl) ho hg
theorem p51_0_1 (s:Stl) (v1:List Int) (i:Int) (g1:Nat) {E:Env} {res:AV} (hE:Qf Try.prog 51 res E) (ho:AllP [(decide (i≥0))=false,g1=g1])
 (hr:AvLe (.tup [.rsl (rowI v1) 0 v1.length,.bool true]) res):G Try.prog E (f51K0 Try.prog) (f51S0 s v1 i g1) :=
 Qc (n:=400) (evs:=[.b false]) (obs:=_) hE Try.func51 Qi (by kernel_rfl) ho hr
theorem f51W0 (s:Stl) (v1:List Int) (i:Int) {E:Env} {rv:((List Int) × Bool)} (hE:Qf Try.prog 51 (.tup [.rsl (rowI rv.1) 0 rv.1.length,.bool rv.2]) E)
 (h:((i≥0→(0≤i∧(∃ se:Stg,s.stages[Int.toNat i]?=some se∧f51G1 E s v1 se.kind se.prize se.turns 1 0 i)))∧(¬ (i≥0)→rv=(v1,true)))):f51G0 E s v1 i:=by
 intro g1
 rcases bft (decide (i≥0)) with hc0 | hc0
 · have h:=h.1 (odt hc0)
   obtain ⟨h2,h⟩:=h
   obtain ⟨se,h1,h⟩:=h
   exact p51_0_0 s v1 i g1 se hE ⟨hc0,(Qj h2 h1),(rp cStg 3 0 3 h1),(by decide),trivial⟩ (h g1)
 · have h:=h.2 (odf hc0)
   exact p51_0_1 s v1 i g1 hE ⟨hc0,rfl,trivial⟩ (AvLe.of_eq (by rw [h]; try rfl))
theorem p51_1_0 (s:Stl) (v1:List Int) (v2_0:Int) (v2_1:Int) (v2_2:(List Trn)) (m:Int) (k:Nat) (i:Int) (g1:Nat) (te:Trn) (e:Int) {E:Env} {res:AV} (hE:Qf Try.prog 51 res E) (ho:AllP [(decide ((k:Int)<(v2_2.length:Int)))=true,0≤(k:Int)∧(k:Int)<(v2_2.length:Int),((Qk v2_2).drop ((0+(Int.toNat (k:Int))*2)+1)).take 1=[.int .i64 te.to],0≤te.to∧te.to<(v1.length:Int),g1=g1,g1=g1,((rowI v1).drop (0+(Int.toNat te.to)*1)).take 1=[.int .i64 e],Qg Try.prog (.clos 49 [] []) [.int .i64 m,.int .i64 e] (.int .i64 (gcdI m e)),InR .i64 (Int.tdiv e (gcdI m e)),(gcdI m e) ≠ 0,InR .i64 (Int.tdiv 1000000000000 (Int.tdiv e (gcdI m e))),(Int.tdiv e (gcdI m e)) ≠ 0,(decide (m > (Int.tdiv 1000000000000 (Int.tdiv e (gcdI m e)))))=true])
 (hr:AvLe (.tup [.nilSl,.bool false]) res):G Try.prog E (f51K1 Try.prog) (f51S1 s v1 v2_0 v2_1 v2_2 m k i g1) :=
 Qc (n:=400) (evs:=[.b true,.auto,.ld (.int .i64 te.to),.ld (.int .i64 e),.v (.int .i64 (gcdI m e)),.b true]) (obs:=_) hE Try.func51 Qi (by kernel_rfl) ho hr
theorem p51_1_1 (s:Stl) (v1:List Int) (v2_0:Int) (v2_1:Int) (v2_2:(List Trn)) (m:Int) (k:Nat) (i:Int) (g1:Nat) (te:Trn) (e:Int) {E:Env} {rv:AV} (hE:Qf Try.prog 51 rv E) (ho:AllP [(decide ((k:Int)<(v2_2.length:Int)))=true,0≤(k:Int)∧(k:Int)<(v2_2.length:Int),((Qk v2_2).drop ((0+(Int.toNat (k:Int))*2)+1)).take 1=[.int .i64 te.to],0≤te.to∧te.to<(v1.length:Int),g1=g1,g1=g1,((rowI v1).drop (0+(Int.toNat te.to)*1)).take 1=[.int .i64 e],Qg Try.prog (.clos 49 [] []) [.int .i64 m,.int .i64 e] (.int .i64 (gcdI m e)),InR .i64 (Int.tdiv e (gcdI m e)),(gcdI m e) ≠ 0,InR .i64 (Int.tdiv 1000000000000 (Int.tdiv e (gcdI m e))),(Int.tdiv e (gcdI m e)) ≠ 0,(decide (m > (Int.tdiv 1000000000000 (Int.tdiv e (gcdI m e)))))=false,InR .i64 (m*(Int.tdiv e (gcdI m e))),InR .i64 ((k:Int)+1)])
 (hg:G Try.prog E (f51K1 Try.prog) ⟨([J,.ptr 0 0 0,J,J,.sl 1 g1 0 v1.length 1,.int .i64 i,.int .i64 (m*(Int.tdiv e (gcdI m e))),.ptr 2 0 0,.int .i64 ((k:Int)+1)]++Js 63),[⟨true,0,1,true,(z51_1 s),false⟩,⟨true,g1,1,true,(rowI v1),true⟩,⟨true,0,1,true,[.int .i64 v2_0,.int .i64 v2_1,.rsl (Qk v2_2) 0 v2_2.length],false⟩]⟩):G Try.prog E (f51K1 Try.prog) (f51S1 s v1 v2_0 v2_1 v2_2 m k i g1) :=
 Qh (n:=400) (ds:=[]) (cs:=[]) (live:=[1,4,5,6,7,8]) (m:=3) (evs:=[.b true,.auto,.ld (.int .i64 te.to),.ld (.int .i64 e),.v (.int .i64 (gcdI m e)),.b false,.stop]) (obs:=_) hE.2.1 (hE.nogh _) Qi (by kernel_rfl) ho hg
theorem p51_1_2 (s:Stl) (v1:List Int) (v2_0:Int) (v2_1:Int) (v2_2:(List Trn)) (m:Int) (k:Nat) (i:Int) (g1:Nat) {E:Env} {res:AV} (hE:Qf Try.prog 51 res E) (ho:AllP [(decide ((k:Int)<(v2_2.length:Int)))=false,(v2_0 == 1)=true,Qg Try.prog (.clos 100 [] []) [.agg [.int .i64 v2_0,.int .i64 v2_1,.rsl (Qk v2_2) 0 v2_2.length]] (.int .i64 (totI (⟨v2_0,v2_1,v2_2⟩:Stg))),InR .i64 (Int.tdiv 1000000000000 (totI (⟨v2_0,v2_1,v2_2⟩:Stg))),(totI (⟨v2_0,v2_1,v2_2⟩:Stg)) ≠ 0,(decide (m > (Int.tdiv 1000000000000 (totI (⟨v2_0,v2_1,v2_2⟩:Stg)))))=true])
 (hr:AvLe (.tup [.nilSl,.bool false]) res):G Try.prog E (f51K1 Try.prog) (f51S1 s v1 v2_0 v2_1 v2_2 m k i g1) :=
 Qc (n:=400) (evs:=[.b false,.b true,.v (.int .i64 (totI (⟨v2_0,v2_1,v2_2⟩:Stg))),.b true]) (obs:=_) hE Try.func51 Qi (by kernel_rfl) ho hr
theorem p51_1_3 (s:Stl) (v1:List Int) (v2_0:Int) (v2_1:Int) (v2_2:(List Trn)) (m:Int) (k:Nat) (i:Int) (g1:Nat) (e:Int) {E:Env} {rv:AV} (hE:Qf Try.prog 51 rv E) (ho:AllP [(decide ((k:Int)<(v2_2.length:Int)))=false,(v2_0 == 1)=true,Qg Try.prog (.clos 100 [] []) [.agg [.int .i64 v2_0,.int .i64 v2_1,.rsl (Qk v2_2) 0 v2_2.length]] (.int .i64 (totI (⟨v2_0,v2_1,v2_2⟩:Stg))),InR .i64 (Int.tdiv 1000000000000 (totI (⟨v2_0,v2_1,v2_2⟩:Stg))),(totI (⟨v2_0,v2_1,v2_2⟩:Stg)) ≠ 0,(decide (m > (Int.tdiv 1000000000000 (totI (⟨v2_0,v2_1,v2_2⟩:Stg)))))=false,Qg Try.prog (.clos 100 [] []) [.agg [.int .i64 v2_0,.int .i64 v2_1,.rsl (Qk v2_2) 0 v2_2.length]] (.int .i64 (totI (⟨v2_0,v2_1,v2_2⟩:Stg))),InR .i64 (m*(totI (⟨v2_0,v2_1,v2_2⟩:Stg))),0≤i∧i<(v1.length:Int),g1=g1,((0+(Int.toNat i)*1)+1)≤(rowI v1).length,g1=g1,InR .i64 (i - 1)])
 (hg:G Try.prog E (f51K0 Try.prog) ⟨([J,.ptr 0 0 0,J,J,.sl 1 g1 0 v1.length 1,.int .i64 (i - 1)]++Js 66),[⟨true,0,1,true,(z51_1 s),false⟩,⟨true,g1,1,true,(QD (rowI v1) (0+(Int.toNat i)*1) [.int .i64 (m*(totI (⟨v2_0,v2_1,v2_2⟩:Stg)))]),true⟩]⟩):G Try.prog E (f51K1 Try.prog) (f51S1 s v1 v2_0 v2_1 v2_2 m k i g1) :=
 Qh (n:=400) (ds:=[]) (cs:=[]) (live:=[1,4,5]) (m:=2) (evs:=[.b false,.b true,.v (.int .i64 (totI (⟨v2_0,v2_1,v2_2⟩:Stg))),.b false,.v (.int .i64 (totI (⟨v2_0,v2_1,v2_2⟩:Stg))),.stop]) (obs:=_) hE.2.1 (hE.nogh _) Qi (by kernel_rfl) ho hg
theorem p51_1_4 (s:Stl) (v1:List Int) (v2_0:Int) (v2_1:Int) (v2_2:(List Trn)) (m:Int) (k:Nat) (i:Int) (g1:Nat) (e:Int) {E:Env} {rv:AV} (hE:Qf Try.prog 51 rv E) (ho:AllP [(decide ((k:Int)<(v2_2.length:Int)))=false,(v2_0 == 1)=false,0≤i∧i<(v1.length:Int),g1=g1,((0+(Int.toNat i)*1)+1)≤(rowI v1).length,g1=g1,InR .i64 (i - 1)])
 (hg:G Try.prog E (f51K0 Try.prog) ⟨([J,.ptr 0 0 0,J,J,.sl 1 g1 0 v1.length 1,.int .i64 (i - 1)]++Js 66),[⟨true,0,1,true,(z51_1 s),false⟩,⟨true,g1,1,true,(QD (rowI v1) (0+(Int.toNat i)*1) [.int .i64 m]),true⟩]⟩):G Try.prog E (f51K1 Try.prog) (f51S1 s v1 v2_0 v2_1 v2_2 m k i g1) :=
 Qh (n:=400) (ds:=[]) (cs:=[]) (live:=[1,4,5]) (m:=2) (evs:=[.b false,.b false,.stop]) (obs:=_) hE.2.1 (hE.nogh _) Qi (by kernel_rfl) ho hg
theorem f51W1 (s:Stl) (v1:List Int) (v2_0:Int) (v2_1:Int) (v2_2:(List Trn)) (m:Int) (k:Nat) (i:Int) {E:Env} {rv:((List Int) × Bool)} (hE:Qf Try.prog 51 (.tup [.rsl (rowI rv.1) 0 rv.1.length,.bool rv.2]) E)
 (h:(((k:Int)<(v2_2.length:Int)→(∃ te:Trn,v2_2[k]?=some te∧(0≤te.to∧(∃ e:Int,v1[Int.toNat te.to]?=some e∧((0≤m∧0≤e)∧((I6 (Int.tdiv e (gcdI m e)))∧((gcdI m e) ≠ 0∧((I6 (Int.tdiv 1000000000000 (Int.tdiv e (gcdI m e))))∧((Int.tdiv e (gcdI m e)) ≠ 0∧((m > (Int.tdiv 1000000000000 (Int.tdiv e (gcdI m e)))→rv=(([]:List Int),false))∧(¬ (m > (Int.tdiv 1000000000000 (Int.tdiv e (gcdI m e))))→((I6 (m*(Int.tdiv e (gcdI m e))))∧((I6 ((k:Int)+1))∧f51G1 E s v1 v2_0 v2_1 v2_2 (m*(Int.tdiv e (gcdI m e))) (k+1) i)))))))))))))∧(¬ ((k:Int)<(v2_2.length:Int))→((v2_0=1→((TotOk (⟨v2_0,v2_1,v2_2⟩:Stg))∧((I6 (Int.tdiv 1000000000000 (totI (⟨v2_0,v2_1,v2_2⟩:Stg))))∧((totI (⟨v2_0,v2_1,v2_2⟩:Stg)) ≠ 0∧((m > (Int.tdiv 1000000000000 (totI (⟨v2_0,v2_1,v2_2⟩:Stg)))→rv=(([]:List Int),false))∧(¬ (m > (Int.tdiv 1000000000000 (totI (⟨v2_0,v2_1,v2_2⟩:Stg))))→((TotOk (⟨v2_0,v2_1,v2_2⟩:Stg))∧((I6 (m*(totI (⟨v2_0,v2_1,v2_2⟩:Stg))))∧(0≤i∧(∃ e:Int,v1[Int.toNat i]?=some e∧((I6 (i - 1))∧f51G0 E s (v1.set (Int.toNat i) (m*(totI (⟨v2_0,v2_1,v2_2⟩:Stg)))) (i - 1))))))))))))∧(¬ (v2_0=1)→(0≤i∧(∃ e:Int,v1[Int.toNat i]?=some e∧((I6 (i - 1))∧f51G0 E s (v1.set (Int.toNat i) m) (i - 1))))))))):f51G1 E s v1 v2_0 v2_1 v2_2 m k i:=by
 intro g1
 rcases bft (decide ((k:Int)<(v2_2.length:Int))) with hc0 | hc0
 · have h:=h.1 (odt hc0)
   obtain ⟨te,h1,h⟩:=h
   obtain ⟨h3,h⟩:=h
   obtain ⟨e,h2,h⟩:=h
   obtain ⟨h4,h⟩:=h
   obtain ⟨q10_1,h⟩:=h
   obtain ⟨q11_1,h⟩:=h
   obtain ⟨q12_1,h⟩:=h
   obtain ⟨q13_1,h⟩:=h
   rcases bft (decide (m > (Int.tdiv 1000000000000 (Int.tdiv e (gcdI m e))))) with hc1 | hc1
   · have h:=h.1 (odt hc1)
     exact p51_1_0 s v1 v2_0 v2_1 v2_2 m k i g1 te e hE ⟨hc0,(Qn h1),(rp cTrn 2 1 1 h1),(Qj h3 h2),rfl,rfl,(rp cI 1 0 1 h2),(u49 (gcd_ok m e h4)),q10_1,q11_1,q12_1,q13_1,hc1,trivial⟩ (by rw [h]; exact (Yt ⟨XN,⟨AvLe.of_eq rfl,trivial⟩⟩))
   · have h:=h.2 (odf hc1)
     obtain ⟨q15_2,h⟩:=h
     obtain ⟨q16_2,h⟩:=h
     exact p51_1_1 s v1 v2_0 v2_1 v2_2 m k i g1 te e hE ⟨hc0,(Qn h1),(rp cTrn 2 1 1 h1),(Qj h3 h2),rfl,rfl,(rp cI 1 0 1 h2),(u49 (gcd_ok m e h4)),q10_1,q11_1,q12_1,q13_1,hc1,q15_2,q16_2,trivial⟩ (h g1)
 · have h:=h.2 (odf hc0)
   rcases bft (v2_0 == 1) with hc1 | hc1
   · have h:=h.1 (eq_of_beq hc1)
     obtain ⟨h1,h⟩:=h
     obtain ⟨q3_2,h⟩:=h
     obtain ⟨q4_2,h⟩:=h
     rcases bft (decide (m > (Int.tdiv 1000000000000 (totI (⟨v2_0,v2_1,v2_2⟩:Stg))))) with hc2 | hc2
     · have h:=h.1 (odt hc2)
       exact p51_1_2 s v1 v2_0 v2_1 v2_2 m k i g1 hE ⟨hc0,hc1,(u100 (WW (⟨v2_0,v2_1,v2_2⟩:Stg) h1)),q3_2,q4_2,hc2,trivial⟩ (by rw [h]; exact (Yt ⟨XN,⟨AvLe.of_eq rfl,trivial⟩⟩))
     · have h:=h.2 (odf hc2)
       obtain ⟨h2,h⟩:=h
       obtain ⟨q7_3,h⟩:=h
       obtain ⟨h4,h⟩:=h
       obtain ⟨e,h3,h⟩:=h
       obtain ⟨q13_3,h⟩:=h
       refine p51_1_3 s v1 v2_0 v2_1 v2_2 m k i g1 e hE ⟨hc0,hc1,(u100 (WW (⟨v2_0,v2_1,v2_2⟩:Stg) h1)),q3_2,q4_2,hc2,(u100 (WW (⟨v2_0,v2_1,v2_2⟩:Stg) h2)),q7_3,(Qj h4 h3),rfl,(rf cI 1 0 1 h3),rfl,q13_3,trivial⟩ ?_
       have h:=(h g1)
       simp only [f51S0,List.length_set] at h
       rw [(show QD (rowI v1) (0+(Int.toNat i)*1) [.int .i64 (m*(totI (⟨v2_0,v2_1,v2_2⟩:Stg)))]=rowI (v1.set (Int.toNat i) (m*(totI (⟨v2_0,v2_1,v2_2⟩:Stg)))) from QT cI (s:=1) (k:=0) (fun _=>rfl) h3 rfl (by first | decide | simp))]
       exact h
   · have h:=h.2 (ne_of_beq_false hc1)
     obtain ⟨h2,h⟩:=h
     obtain ⟨e,h1,h⟩:=h
     obtain ⟨q7_2,h⟩:=h
     refine p51_1_4 s v1 v2_0 v2_1 v2_2 m k i g1 e hE ⟨hc0,hc1,(Qj h2 h1),rfl,(rf cI 1 0 1 h1),rfl,q7_2,trivial⟩ ?_
     have h:=(h g1)
     simp only [f51S0,List.length_set] at h
     rw [(show QD (rowI v1) (0+(Int.toNat i)*1) [.int .i64 m]=rowI (v1.set (Int.toNat i) m) from QT cI (s:=1) (k:=0) (fun _=>rfl) h1 rfl (by first | decide | simp))]
     exact h
/-- All measures,from the stage before 'i' on. -/
def Vf (s:Stl):Nat→List Int→List Int→Option (List Int × List Int)
 | 0,me,mu=>some (me,mu)
 | i+1,me,mu=>if (QE (s.stages.getD i ⟨0,0,[]⟩) i me mu).1=true then Vf s i (QE (s.stages.getD i ⟨0,0,[]⟩) i me mu).2.1 (QE (s.stages.getD i ⟨0,0,[]⟩) i me mu).2.2 else none
def Xu (n:Nat):List Int:=List.replicate n 0
def QL (s:Stl):Option (List Int × List Int):=Vf s s.stages.length (Xu s.stages.length) (Xu s.stages.length)
def QO (o:Option (List Int × List Int)):List Int × Bool:=match o with
 | some p=>(p.1,true)
 | none=>([],false)
theorem Xa (s:Stl) (h:s.stages.length≤1000000∧∀ i,i<s.stages.length→QP s i=true):Pure Try.prog 51 [.agg [.rsl (Qd s.stages) 0 s.stages.length,.rsl (rowI s.worth) 0 s.worth.length,.int .i64 s.price]] (.tup [.rsl (rowI (QO (QL s)).1) 0 (QO (QL s)).1.length,.bool (QO (QL s)).2]):=Qq Try.func51 f51b fun E hE=>by
 have key:∀ (n:Nat) (me mu:List Int),n≤s.stages.length→me.length=s.stages.length→mu.length=s.stages.length→(∀ (j:Nat) (v:Int),n≤j→me[j]?=some v→0<v∧v≤1000000000000)→QL s=Vf s n me mu→f51G0 E s me ((n:Int) - 1):=by
  intro n
  induction n with
  | zero =>
   intro me mu hn hl hl2 hp hk
   exact f51W0 s me _ (rv:=QO (QL s)) hE ⟨fun h=>by omega,fun _=>by rw [hk]; rfl⟩
  | succ i ih =>
   intro me mu hn hl hl2 hp hk
   have hi:s.stages[i]?=some s.stages[i]:=List.getElem?_eq_getElem (by omega)
   have hx:s.stages.getD i ⟨0,0,[]⟩=s.stages[i]:=by simp [List.getD,hi]
   have hf:=h.2 i (by omega)
   have hto:=YI hi hf
   have hfo:=XC hi hf
   have hmeok:MeOk s i me:=⟨hl,fun j v hj hv=>hp j v hj hv⟩
   have hnx:=fun hh=>ql (mu:=mu) hi hf hmeok hh
   simp only [Vf,hx] at hk
   generalize s.stages[i]=x at hi hk hto hfo hnx
   have en:Int.toNat (((i+1:Nat):Int) - 1)=i:=by omega
   have ei:((i+1:Nat):Int) - 1 - 1=(i:Int) - 1:=by omega
   have hei:me[i]?=some (me[i]'(by omega)):=List.getElem?_eq_getElem (by omega)
   refine f51W0 s me _ (rv:=QO (QL s)) hE ⟨fun _=>⟨by omega,x,by rw [en]; exact hi,?_⟩,fun h=>by omega⟩
   have inner:∀ (d k:Nat) (m:Int),k+d=x.turns.length→(0<m∧m≤1000000000000)→YB me 1 x.turns=YB me m (x.turns.drop k)→f51G1 E s me x.kind x.prize x.turns m k (((i+1:Nat):Int) - 1):=by
    intro d
    induction d with
    | zero =>
     intro k m hd hm hmu
     rw [List.drop_eq_nil_of_le (by omega),YB] at hmu
     refine f51W1 s me x.kind x.prize x.turns m k _ (rv:=QO (QL s)) hE ⟨fun h=>by omega,fun _=>⟨fun hk1=>?_,fun hk1=>⟨by omega,_,by rw [en]; exact hei,by omega,?_⟩⟩⟩
     · have ht:=hto.2 hk1
       have tt:TotOk (⟨x.kind,x.prize,x.turns⟩:Stg):=hto.1
       have et:totI (⟨x.kind,x.prize,x.turns⟩:Stg)=totI x:=rfl
       have e1:Int.tdiv 1000000000000 (totI x)=1000000000000 / (totI x):=Int.tdiv_eq_ediv_of_nonneg (by omega)
       have e2:=Int.ediv_le_self (totI x) (show (0:Int)≤1000000000000 by omega)
       have e3:=Int.ediv_nonneg (show (0:Int)≤1000000000000 by omega) (show 0≤totI x by omega)
       have n0:=Int.mul_nonneg (show 0≤m by omega) (show 0≤totI x by omega)
       have iff:m*totI x≤1000000000000 ↔ m≤1000000000000 / totI x:=(Int.le_ediv_iff_mul_le ht.1).symm
       rw [et]
       have mk1:QE x i me mu=((Xw m (totI x)).2,me.set i (Xw m (totI x)).1,mu.set i m):=by simp only [QE,hmu,if_pos hk1]
       refine ⟨tt,by omega,by omega,fun h1=>?_,fun h1=>⟨tt,by omega,by omega,_,by rw [en]; exact hei,by omega,?_⟩⟩
       · rw [hk,if_neg]
         · rfl
         · rw [mk1,Xw,if_pos h1]; simp
       · have pr:Xw m (totI x)=(m*totI x,true):=by rw [Xw,if_neg h1]
         rw [pr] at mk1
         have t1:(QE x i me mu).1=true:=by rw [mk1]
         have hnx:=hnx t1
         rw [if_pos t1,mk1] at hk
         rw [mk1] at hnx
         rw [en,ei]
         exact ih _ _ (by omega) hnx.1 (by rw [hnx.2.1]; exact hl2) hnx.2.2 hk
     · have mk1:QE x i me mu=(true,me.set i m,mu.set i m):=by simp only [QE,hmu,if_neg hk1]
       have t1:(QE x i me mu).1=true:=by rw [mk1]
       have hnx:=hnx t1
       rw [if_pos t1,mk1] at hk
       rw [mk1] at hnx
       rw [en,ei]
       exact ih _ _ (by omega) hnx.1 (by rw [hnx.2.1]; exact hl2) hnx.2.2 hk
    | succ d ih2 =>
     intro k m hd hm hmu
     have hkk:x.turns[k]?=some x.turns[k]:=List.getElem?_eq_getElem (by omega)
     rw [show x.turns.drop k=x.turns[k] :: x.turns.drop (k+1) from List.drop_eq_getElem_cons (by omega)] at hmu
     have htm:=List.mem_of_getElem? hkk
     generalize x.turns[k]=t at hmu hkk htm
     have ht:(i:Int)+1≤t.to∧t.to≤(s.stages.length:Int) - 1:=by
      rcases hfo with ⟨-,h2,-⟩ | ⟨-,-,-,h4,-,-⟩
      · rw [h2] at htm; simp at htm
      · exact h4 t htm
     have htl:x.turns.length≤8:=by
      rcases hfo with ⟨-,h2,-⟩ | ⟨-,-,h3,-,-,-⟩
      · rw [h2]; simp
      · exact h3.2
     have hg:me[Int.toNat t.to]?=some (me.getD (Int.toNat t.to) 0):=by simp [List.getD,show Int.toNat t.to<me.length by omega]
     have hv:=hp _ _ (by omega) hg
     simp only [YB] at hmu
     generalize me.getD (Int.toNat t.to) 0=n at hg hv hmu
     have lp:=Kg hm.1 hv.1
     obtain ⟨l1,l2,l3,l4,l5⟩:=lcm_eq hm.1 hv.1
     have hgp:=qt (b:=n) hm.1 (by omega)
     have iff:m*Int.tdiv n (gcdI m n)≤1000000000000 ↔ m≤1000000000000 / Int.tdiv n (gcdI m n):=(Int.le_ediv_iff_mul_le l2).symm
     have e1:Int.tdiv 1000000000000 (Int.tdiv n (gcdI m n))=1000000000000 / (Int.tdiv n (gcdI m n)):=Int.tdiv_eq_ediv_of_nonneg (by omega)
     have e2:=Int.ediv_le_self (Int.tdiv n (gcdI m n)) (show (0:Int)≤1000000000000 by omega)
     have e3:=Int.ediv_nonneg (show (0:Int)≤1000000000000 by omega) (show 0≤Int.tdiv n (gcdI m n) by omega)
     have el:lcmI m n=m*Int.tdiv n (gcdI m n):=rfl
     refine f51W1 s me x.kind x.prize x.turns m k _ (rv:=QO (QL s)) hE ⟨fun _=>⟨t,hkk,by omega,n,hg,⟨by omega,by omega⟩,by omega,by omega,by omega,by omega,fun h1=>?_,fun h1=>⟨by omega,by omega,ih2 (k+1) _ (by omega) (by omega) ?_⟩⟩,fun h=>by omega⟩
     · rw [if_pos (by omega)] at hmu
       rw [hk,if_neg (by simp [QE,hmu])]; rfl
     · rw [hmu,if_neg (by omega)]; rfl
   exact inner x.turns.length 0 1 (by omega) (by omega) (by simp)
 have ez:((Int.toNat ((s.stages.length:Int)):Nat):Int)=(s.stages.length:Int):=by omega
 refine f51W s (rv:=QO (QL s)) hE ⟨by omega,by omega,?_⟩
 have:=key s.stages.length (Xu s.stages.length) (Xu s.stages.length) (Nat.le_refl _) (by simp [Xu]) (by simp [Xu]) (fun j v hj hv=>by
  have:=(List.getElem?_eq_some_iff.1 hv).1
  simp [Xu] at this; omega) rfl
 simpa [Xu] using this
end Go.Proofs.Ytfgmlaeikcfpbaa
namespace Go.Proofs.Ytfgmlaeikcfpbaa
open Go Ax
open Go.Proofs
theorem qk (s:Stl) (i:Int) (me mu:List Int) (ga gb:Nat) (h:0≤i∧Int.toNat i<s.stages.length∧QP s (Int.toNat i)=true∧MeOk s (Int.toNat i) me∧mu.length=s.stages.length) :
 Lent Try.prog 110 [.ptr 0 0 0,.int .i64 i] [⟨true,0,1,false,[.rsl (Qd s.stages) 0 s.stages.length,.rsl (rowI s.worth) 0 s.worth.length,.int .i64 s.price,.sl 1 ga 0 me.length 1,.sl 2 gb 0 mu.length 1],false⟩,⟨true,ga,1,true,rowI me,true⟩,⟨true,gb,1,true,rowI mu,true⟩]
  (.bool (QE (s.stages.getD (Int.toNat i) ⟨0,0,[]⟩) (Int.toNat i) me mu).1) [⟨true,0,1,false,[.rsl (Qd s.stages) 0 s.stages.length,.rsl (rowI s.worth) 0 s.worth.length,.int .i64 s.price,.sl 1 ga 0 me.length 1,.sl 2 gb 0 mu.length 1],false⟩,⟨true,ga,1,true,rowI (QE (s.stages.getD (Int.toNat i) ⟨0,0,[]⟩) (Int.toNat i) me mu).2.1,true⟩,⟨true,gb,1,true,rowI (QE (s.stages.getD (Int.toNat i) ⟨0,0,[]⟩) (Int.toNat i) me mu).2.2,true⟩]:=by
 have:=measure_ok s (Int.toNat i) me mu ga gb h.2
 rwa [show ((Int.toNat i:Nat):Int)=i by have:=h.1; omega] at this
theorem measK_len1 {x:Stg} {i:Nat} {me mu:List Int}:(QE x i me mu).2.1.length=me.length:=by
 simp only [QE]; split
 · rfl
 · split <;> simp
theorem measK_len2 {x:Stg} {i:Nat} {me mu:List Int}:(QE x i me mu).2.2.length=mu.length:=by
 simp only [QE]; split
 · rfl
 · split <;> simp
theorem f61b:Try.f61.body=some (Qe Try.prog 61):=by kernel_rfl
theorem u61 {a c k:List AV} {r:AV} (h:Pure Try.prog 61 (a++c++k) r):Qg Try.prog (.clos 61 a k) c r:=Ql Try.func61 (by kernel_rfl) f61b h
def f61K0 (P:Program):List Item:=kAt 400 [.code (Qe P 61)] [.b false,.stop]
def f61S0 (s:Stl) (i:Nat):St:=⟨([J,.ptr 0 0 0,J,J,.int .i64 (s.stages.length:Int)]++jj 30 ([.int .i64 (s.stages.length:Int),.int .i64 (i:Int)]++Js 25)),[⟨true,0,1,true,[.rsl (Qd s.stages) 0 s.stages.length,.rsl (rowI s.worth) 0 s.worth.length,.int .i64 s.price],false⟩]⟩
def f61G0 (E:Env) (s:Stl) (i:Nat):Prop:=G Try.prog E (f61K0 Try.prog) (f61S0 s i )
def f61K1 (P:Program):List Item:=kAt 400 [.code (Qe P 61)] [.b false,.b false,.stop]
def f61S1 (s:Stl) (v1:List Int) (v2:List Int) (i:Int) (g1:Nat) (g2:Nat):St:=⟨(jj 7 ([.ptr 3 0 0,.int .i64 i]++Js 53)),[⟨true,0,1,true,[.rsl (Qd s.stages) 0 s.stages.length,.rsl (rowI s.worth) 0 s.worth.length,.int .i64 s.price],false⟩,⟨true,g1,1,true,(rowI v1),true⟩,⟨true,g2,1,true,(rowI v2),true⟩,⟨true,0,1,false,[.rsl (Qd s.stages) 0 s.stages.length,.rsl (rowI s.worth) 0 s.worth.length,.int .i64 s.price,.sl 1 g1 0 v1.length 1,.sl 2 g2 0 v2.length 1],false⟩]⟩
def f61G1 (E:Env) (s:Stl) (v1:List Int) (v2:List Int) (i:Int):Prop:=∀ g1 g2:Nat,G Try.prog E (f61K1 Try.prog) (f61S1 s v1 v2 i g1 g2)
abbrev WR (s:Stl):List AV:=[.rsl (Qd s.stages) 0 s.stages.length,.rsl (rowI s.worth) 0 s.worth.length,.int .i64 s.price]
abbrev z61_2 (s:Stl) (g1:Nat) (v1:List Int) (g2:Nat) (v2:List Int):List AV:=[.rsl (Qd s.stages) 0 s.stages.length,.rsl (rowI s.worth) 0 s.worth.length,.int .i64 s.price,.sl 1 g1 0 v1.length 1,.sl 2 g2 0 v2.length 1]
abbrev z61_3 (s:Stl):List AV:=[.int .i64 (s.stages.length:Int),.int .i64 1,.int .i64 60]
theorem p61_start_0 (s:Stl) {E:Env} {res:AV} (hE:Qf Try.prog 61 res E) (ho:AllP [Qg Try.prog (.clos 65 [] []) (z61_3 s) (.bool (Qa (s.stages.length:Int) 1 60)),(!(Qa (s.stages.length:Int) 1 60))=true,true=true,true=true,true=true])
 (hr:AvLe (.tup [.nilPtr,.bool false]) res):G Try.prog E [.code (Qe Try.prog 61)] ⟨[.agg (WR s)]++unds (Try.f61.ntmps - 1),[]⟩ :=
 Qc (n:=400) (evs:=[.v (.bool (Qa (s.stages.length:Int) 1 60)),.b true,.b true,.b true,.b true]) (obs:=_) hE Try.func61 Qi (by kernel_rfl) ho hr
theorem p61_start_1 (s:Stl) {E:Env} {res:AV} (hE:Qf Try.prog 61 res E) (ho:AllP [Qg Try.prog (.clos 65 [] []) (z61_3 s) (.bool (Qa (s.stages.length:Int) 1 60)),(!(Qa (s.stages.length:Int) 1 60))=false,(decide ((s.worth.length:Int) > 8))=true,true=true,true=true])
 (hr:AvLe (.tup [.nilPtr,.bool false]) res):G Try.prog E [.code (Qe Try.prog 61)] ⟨[.agg (WR s)]++unds (Try.f61.ntmps - 1),[]⟩ :=
 Qc (n:=400) (evs:=[.v (.bool (Qa (s.stages.length:Int) 1 60)),.b false,.b true,.b true,.b true]) (obs:=_) hE Try.func61 Qi (by kernel_rfl) ho hr
theorem p61_start_2 (s:Stl) {E:Env} {res:AV} (hE:Qf Try.prog 61 res E) (ho:AllP [Qg Try.prog (.clos 65 [] []) (z61_3 s) (.bool (Qa (s.stages.length:Int) 1 60)),(!(Qa (s.stages.length:Int) 1 60))=false,(decide ((s.worth.length:Int) > 8))=false,Qg Try.prog (.clos 96 [] []) [.rsl (rowI s.worth) 0 s.worth.length,.clos 108 [] []] (.bool (s.worth.any (fun n=>!Qa n 0 10000))),(s.worth.any (fun n=>!Qa n 0 10000))=true,true=true])
 (hr:AvLe (.tup [.nilPtr,.bool false]) res):G Try.prog E [.code (Qe Try.prog 61)] ⟨[.agg (WR s)]++unds (Try.f61.ntmps - 1),[]⟩ :=
 Qc (n:=400) (evs:=[.v (.bool (Qa (s.stages.length:Int) 1 60)),.b false,.b false,.v (.bool (s.worth.any (fun n=>!Qa n 0 10000))),.b true,.b true]) (obs:=_) hE Try.func61 Qi (by kernel_rfl) ho hr
theorem p61_start_3 (s:Stl) {E:Env} {res:AV} (hE:Qf Try.prog 61 res E) (ho:AllP [Qg Try.prog (.clos 65 [] []) (z61_3 s) (.bool (Qa (s.stages.length:Int) 1 60)),(!(Qa (s.stages.length:Int) 1 60))=false,(decide ((s.worth.length:Int) > 8))=false,Qg Try.prog (.clos 96 [] []) [.rsl (rowI s.worth) 0 s.worth.length,.clos 108 [] []] (.bool (s.worth.any (fun n=>!Qa n 0 10000))),(s.worth.any (fun n=>!Qa n 0 10000))=false,Qg Try.prog (.clos 108 [] []) [.int .i64 s.price] (.bool (!Qa s.price 0 10000)),(!Qa s.price 0 10000)=true])
 (hr:AvLe (.tup [.nilPtr,.bool false]) res):G Try.prog E [.code (Qe Try.prog 61)] ⟨[.agg (WR s)]++unds (Try.f61.ntmps - 1),[]⟩ :=
 Qc (n:=400) (evs:=[.v (.bool (Qa (s.stages.length:Int) 1 60)),.b false,.b false,.v (.bool (s.worth.any (fun n=>!Qa n 0 10000))),.b false,.v (.bool (!Qa s.price 0 10000)),.b true]) (obs:=_) hE Try.func61 Qi (by kernel_rfl) ho hr
theorem p61_start_4 (s:Stl) {E:Env} {rv:AV} (hE:Qf Try.prog 61 rv E) (ho:AllP [Qg Try.prog (.clos 65 [] []) (z61_3 s) (.bool (Qa (s.stages.length:Int) 1 60)),(!(Qa (s.stages.length:Int) 1 60))=false,(decide ((s.worth.length:Int) > 8))=false,Qg Try.prog (.clos 96 [] []) [.rsl (rowI s.worth) 0 s.worth.length,.clos 108 [] []] (.bool (s.worth.any (fun n=>!Qa n 0 10000))),(s.worth.any (fun n=>!Qa n 0 10000))=false,Qg Try.prog (.clos 108 [] []) [.int .i64 s.price] (.bool (!Qa s.price 0 10000)),(!Qa s.price 0 10000)=false])
 (hg:G Try.prog E (f61K0 Try.prog) ⟨([J,.ptr 0 0 0,J,J,.int .i64 (s.stages.length:Int)]++jj 30 ([.int .i64 (s.stages.length:Int),.int .i64 0]++Js 25)),[⟨true,0,1,true,(WR s),false⟩]⟩):G Try.prog E [.code (Qe Try.prog 61)] ⟨[.agg (WR s)]++unds (Try.f61.ntmps - 1),[]⟩ :=
 Qh (n:=400) (ds:=[]) (cs:=[]) (live:=[1,4,35,36]) (m:=1) (evs:=[.v (.bool (Qa (s.stages.length:Int) 1 60)),.b false,.b false,.v (.bool (s.worth.any (fun n=>!Qa n 0 10000))),.b false,.v (.bool (!Qa s.price 0 10000)),.b false,.stop]) (obs:=_) hE.2.1 (hE.nogh _) Qi (by kernel_rfl) ho hg
theorem f61W (s:Stl) {E:Env} {rv:AV} (hE:Qf Try.prog 61 rv E)
 (h:(((Qa (s.stages.length:Int) 1 60)=false→rv=(.tup [.nilPtr,.bool false]))∧((Qa (s.stages.length:Int) 1 60)=true→(((s.worth.length:Int) > 8→rv=(.tup [.nilPtr,.bool false]))∧(¬ ((s.worth.length:Int) > 8)→((s.worth.length≤9223372036854775807)∧(((s.worth.any (fun n=>!Qa n 0 10000))=true→rv=(.tup [.nilPtr,.bool false]))∧((s.worth.any (fun n=>!Qa n 0 10000))=false→(((!Qa s.price 0 10000)=true→rv=(.tup [.nilPtr,.bool false]))∧((!Qa s.price 0 10000)=false→f61G0 E s 0)))))))))):G Try.prog E [.code (Qe Try.prog 61)] ⟨[.agg [.rsl (Qd s.stages) 0 s.stages.length,.rsl (rowI s.worth) 0 s.worth.length,.int .i64 s.price]]++unds (Try.f61.ntmps - 1),[]⟩:=by
 rcases bft (!(Qa (s.stages.length:Int) 1 60)) with hc0 | hc0
 · have h:=h.1 (bnT hc0)
   exact p61_start_0 s hE ⟨(u65 (Qr (s.stages.length:Int) 1 60)),hc0,rfl,rfl,rfl,trivial⟩ (AvLe.of_eq (by rw [h]; try rfl))
 · have h:=h.2 (bnF hc0)
   rcases bft (decide ((s.worth.length:Int) > 8)) with hc1 | hc1
   · have h:=h.1 (odt hc1)
     exact p61_start_1 s hE ⟨(u65 (Qr (s.stages.length:Int) 1 60)),hc0,hc1,rfl,rfl,trivial⟩ (AvLe.of_eq (by rw [h]; try rfl))
   · have h:=h.2 (odf hc1)
     obtain ⟨h1,h⟩:=h
     rcases bft (s.worth.any (fun n=>!Qa n 0 10000)) with hc2 | hc2
     · have h:=h.1 hc2
       exact p61_start_2 s hE ⟨(u65 (Qr (s.stages.length:Int) 1 60)),hc0,hc1,(u96 (anyB_ok s.worth h1)),hc2,rfl,trivial⟩ (AvLe.of_eq (by rw [h]; try rfl))
     · have h:=h.2 hc2
       rcases bft (!Qa s.price 0 10000) with hc3 | hc3
       · have h:=h.1 hc3
         exact p61_start_3 s hE ⟨(u65 (Qr (s.stages.length:Int) 1 60)),hc0,hc1,(u96 (anyB_ok s.worth h1)),hc2,(u108 (bad_ok s.price)),hc3,trivial⟩ (AvLe.of_eq (by rw [h]; try rfl))
       · have h:=h.2 hc3
         exact p61_start_4 s hE ⟨(u65 (Qr (s.stages.length:Int) 1 60)),hc0,hc1,(u96 (anyB_ok s.worth h1)),hc2,(u108 (bad_ok s.price)),hc3,trivial⟩ h
theorem p61_0_0 (s:Stl) (i:Nat) {E:Env} {res:AV} (hE:Qf Try.prog 61 res E) (ho:AllP [(decide ((i:Int)<(s.stages.length:Int)))=true,Qg Try.prog (.clos 109 [] []) [.agg (WR s),.int .i64 (i:Int)] (.bool (QP s i)),(!(QP s i))=true])
 (hr:AvLe (.tup [.nilPtr,.bool false]) res):G Try.prog E (f61K0 Try.prog) (f61S0 s i ) :=
 Qc (n:=400) (evs:=[.b true,.v (.bool (QP s i)),.b true]) (obs:=_) hE Try.func61 Qi (by kernel_rfl) ho hr
theorem p61_0_1 (s:Stl) (i:Nat) {E:Env} {rv:AV} (hE:Qf Try.prog 61 rv E) (ho:AllP [(decide ((i:Int)<(s.stages.length:Int)))=true,Qg Try.prog (.clos 109 [] []) [.agg (WR s),.int .i64 (i:Int)] (.bool (QP s i)),(!(QP s i))=false,InR .i64 ((i:Int)+1)])
 (hg:G Try.prog E (f61K0 Try.prog) ⟨([J,.ptr 0 0 0,J,J,.int .i64 (s.stages.length:Int)]++jj 30 ([.int .i64 (s.stages.length:Int),.int .i64 ((i:Int)+1)]++Js 25)),[⟨true,0,1,true,(WR s),false⟩]⟩):G Try.prog E (f61K0 Try.prog) (f61S0 s i ) :=
 Qh (n:=400) (ds:=[]) (cs:=[]) (live:=[1,4,35,36]) (m:=1) (evs:=[.b true,.v (.bool (QP s i)),.b false,.stop]) (obs:=_) hE.2.1 (hE.nogh _) Qi (by kernel_rfl) ho hg
theorem p61_0_2 (s:Stl) (i:Nat) {E:Env} {rv:AV} (hE:Qf Try.prog 61 rv E) (ho:AllP [(decide ((i:Int)<(s.stages.length:Int)))=false,0≤(s.stages.length:Int)∧(s.stages.length:Int)≤(s.stages.length:Int)∧(s.stages.length:Int)≤2147483648,0≤(s.stages.length:Int)∧(s.stages.length:Int)≤(s.stages.length:Int)∧(s.stages.length:Int)≤2147483648,InR .i64 ((s.stages.length:Int) - 1)])
 (hg:G Try.prog E (f61K1 Try.prog) ⟨(jj 7 ([.ptr 3 0 0,.int .i64 ((s.stages.length:Int) - 1)]++Js 53)),[⟨true,0,1,true,(WR s),false⟩,⟨true,0,1,true,((List.replicate (Int.toNat (s.stages.length:Int)) ([.int .i64 0]:List AV)).flatten),true⟩,⟨true,0,1,true,((List.replicate (Int.toNat (s.stages.length:Int)) ([.int .i64 0]:List AV)).flatten),true⟩,⟨true,0,1,false,[.rsl (Qd s.stages) 0 s.stages.length,.rsl (rowI s.worth) 0 s.worth.length,.int .i64 s.price,.sl 1 0 0 (Int.toNat (s.stages.length:Int)) 1,.sl 2 0 0 (Int.toNat (s.stages.length:Int)) 1],false⟩]⟩):G Try.prog E (f61K0 Try.prog) (f61S0 s i ) :=
 Qh (n:=400) (ds:=[]) (cs:=[]) (live:=[7,8]) (m:=4) (evs:=[.b false,.stop]) (obs:=_) hE.2.1 (hE.nogh _) Qi (by kernel_rfl) ho hg
theorem f61W0 (s:Stl) (i:Nat) {E:Env} {rv:AV} (hE:Qf Try.prog 61 rv E)
 (h:(((i:Int)<(s.stages.length:Int)→((i<s.stages.length∧s.stages.length≤1000000∧s.worth.length≤1000000)∧(((QP s i)=false→rv=(.tup [.nilPtr,.bool false]))∧((QP s i)=true→((I6 ((i:Int)+1))∧f61G0 E s (i+1))))))∧(¬ ((i:Int)<(s.stages.length:Int))→(s.stages.length≤2147483648∧(s.stages.length≤2147483648∧((I6 ((s.stages.length:Int) - 1))∧f61G1 E s (List.replicate s.stages.length (0:Int)) (List.replicate s.stages.length (0:Int)) ((s.stages.length:Int) - 1))))))):f61G0 E s i:=by
 rcases bft (decide ((i:Int)<(s.stages.length:Int))) with hc0 | hc0
 · have h:=h.1 (odt hc0)
   obtain ⟨h1,h⟩:=h
   rcases bft (!(QP s i)) with hc1 | hc1
   · have h:=h.1 (bnT hc1)
     exact p61_0_0 s i hE ⟨hc0,(u109 (formed_ok s i h1)),hc1,trivial⟩ (AvLe.of_eq (by rw [h]; try rfl))
   · have h:=h.2 (bnF hc1)
     obtain ⟨q3_2,h⟩:=h
     exact p61_0_1 s i hE ⟨hc0,(u109 (formed_ok s i h1)),hc1,q3_2,trivial⟩ h
 · have h:=h.2 (odf hc0)
   obtain ⟨h1,h⟩:=h
   obtain ⟨h2,h⟩:=h
   obtain ⟨q3_1,h⟩:=h
   refine p61_0_2 s i hE ⟨hc0,⟨by omega,by omega,by have:=h1; omega⟩,⟨by omega,by omega,by have:=h2; omega⟩,q3_1,trivial⟩ ?_
   have h:=(h 0 0)
   simp only [f61G1,f61S1,List.length_set,List.length_replicate] at h
   rw [(show (List.replicate (Int.toNat (s.stages.length:Int)) ([.int .i64 0]:List AV)).flatten=rowI (List.replicate s.stages.length (0:Int)) from WY cI _ _)]
   exact h
theorem p61_1_0 (s:Stl) (v1:List Int) (v2:List Int) (i:Int) (g1:Nat) (g2:Nat) {E:Env} {res:AV} (hE:Qf Try.prog 61 res E) (ho:AllP [(decide (i≥0))=true,LentF Try.prog (.clos 110 [] []) [.ptr 0 0 0,.int .i64 i] [⟨true,0,1,false,(z61_2 s g1 v1 g2 v2),false⟩,⟨true,g1,1,true,(rowI v1),true⟩,⟨true,g2,1,true,(rowI v2),true⟩] (.bool ((QE (s.stages.getD (Int.toNat i) ⟨0,0,[]⟩) (Int.toNat i) v1 v2).1)) [⟨true,0,1,false,(z61_2 s g1 v1 g2 v2),false⟩,⟨true,g1,1,true,(rowI (QE (s.stages.getD (Int.toNat i) ⟨0,0,[]⟩) (Int.toNat i) v1 v2).2.1),true⟩,⟨true,g2,1,true,(rowI (QE (s.stages.getD (Int.toNat i) ⟨0,0,[]⟩) (Int.toNat i) v1 v2).2.2),true⟩],(!(QE (s.stages.getD (Int.toNat i) ⟨0,0,[]⟩) (Int.toNat i) v1 v2).1)=true])
 (hr:AvLe (.tup [.nilPtr,.bool false]) res):G Try.prog E (f61K1 Try.prog) (f61S1 s v1 v2 i g1 g2) :=
 Qc (n:=400) (evs:=[.b true,.lent [3,1,2] (.bool ((QE (s.stages.getD (Int.toNat i) ⟨0,0,[]⟩) (Int.toNat i) v1 v2).1)) [⟨true,0,1,false,(z61_2 s g1 v1 g2 v2),false⟩,⟨true,g1,1,true,(rowI (QE (s.stages.getD (Int.toNat i) ⟨0,0,[]⟩) (Int.toNat i) v1 v2).2.1),true⟩,⟨true,g2,1,true,(rowI (QE (s.stages.getD (Int.toNat i) ⟨0,0,[]⟩) (Int.toNat i) v1 v2).2.2),true⟩],.b true]) (obs:=_) hE Try.func61 Qi (by kernel_rfl) ho hr
theorem p61_1_1 (s:Stl) (v1:List Int) (v2:List Int) (i:Int) (g1:Nat) (g2:Nat) {E:Env} {rv:AV} (hE:Qf Try.prog 61 rv E) (ho:AllP [(decide (i≥0))=true,LentF Try.prog (.clos 110 [] []) [.ptr 0 0 0,.int .i64 i] [⟨true,0,1,false,(z61_2 s g1 v1 g2 v2),false⟩,⟨true,g1,1,true,(rowI v1),true⟩,⟨true,g2,1,true,(rowI v2),true⟩] (.bool ((QE (s.stages.getD (Int.toNat i) ⟨0,0,[]⟩) (Int.toNat i) v1 v2).1)) [⟨true,0,1,false,(z61_2 s g1 v1 g2 v2),false⟩,⟨true,g1,1,true,(rowI (QE (s.stages.getD (Int.toNat i) ⟨0,0,[]⟩) (Int.toNat i) v1 v2).2.1),true⟩,⟨true,g2,1,true,(rowI (QE (s.stages.getD (Int.toNat i) ⟨0,0,[]⟩) (Int.toNat i) v1 v2).2.2),true⟩],(!(QE (s.stages.getD (Int.toNat i) ⟨0,0,[]⟩) (Int.toNat i) v1 v2).1)=false,InR .i64 (i - 1)])
 (hg:G Try.prog E (f61K1 Try.prog) ⟨(jj 7 ([.ptr 3 0 0,.int .i64 (i - 1)]++Js 53)),[⟨true,0,1,true,(WR s),false⟩,⟨true,g1,1,true,(rowI (QE (s.stages.getD (Int.toNat i) ⟨0,0,[]⟩) (Int.toNat i) v1 v2).2.1),true⟩,⟨true,g2,1,true,(rowI (QE (s.stages.getD (Int.toNat i) ⟨0,0,[]⟩) (Int.toNat i) v1 v2).2.2),true⟩,⟨true,0,1,false,(z61_2 s g1 v1 g2 v2),false⟩]⟩):G Try.prog E (f61K1 Try.prog) (f61S1 s v1 v2 i g1 g2) :=
 Qh (n:=400) (ds:=[]) (cs:=[]) (live:=[7,8]) (m:=4) (evs:=[.b true,.lent [3,1,2] (.bool ((QE (s.stages.getD (Int.toNat i) ⟨0,0,[]⟩) (Int.toNat i) v1 v2).1)) [⟨true,0,1,false,(z61_2 s g1 v1 g2 v2),false⟩,⟨true,g1,1,true,(rowI (QE (s.stages.getD (Int.toNat i) ⟨0,0,[]⟩) (Int.toNat i) v1 v2).2.1),true⟩,⟨true,g2,1,true,(rowI (QE (s.stages.getD (Int.toNat i) ⟨0,0,[]⟩) (Int.toNat i) v1 v2).2.2),true⟩],.b false,.stop]) (obs:=_) hE.2.1 (hE.nogh _) Qi (by kernel_rfl) ho hg
theorem p61_1_2 (s:Stl) (v1:List Int) (v2:List Int) (i:Int) (g1:Nat) (g2:Nat) {E:Env} {res:AV} (hE:Qf Try.prog 61 res E) (ho:AllP [(decide (i≥0))=false,g1=g1,g2=g2])
 (hr:AvLe (.tup [.rptr [.rsl (Qd s.stages) 0 s.stages.length,.rsl (rowI s.worth) 0 s.worth.length,.int .i64 s.price,.rsl (rowI v1) 0 v1.length,.rsl (rowI v2) 0 v2.length] 0,.bool true]) res):G Try.prog E (f61K1 Try.prog) (f61S1 s v1 v2 i g1 g2) :=
 Qc (n:=400) (evs:=[.b false]) (obs:=_) hE Try.func61 Qi (by kernel_rfl) ho hr
theorem f61W1 (s:Stl) (v1:List Int) (v2:List Int) (i:Int) {E:Env} {rv:AV} (hE:Qf Try.prog 61 rv E)
 (h:((i≥0→((0≤i∧(Int.toNat i)<s.stages.length∧QP s (Int.toNat i)=true∧MeOk s (Int.toNat i) v1∧v2.length=s.stages.length)∧(((!(QE (s.stages.getD (Int.toNat i) ⟨0,0,[]⟩) (Int.toNat i) v1 v2).1)=true→rv=(.tup [.nilPtr,.bool false]))∧((!(QE (s.stages.getD (Int.toNat i) ⟨0,0,[]⟩) (Int.toNat i) v1 v2).1)=false→((I6 (i - 1))∧f61G1 E s ((QE (s.stages.getD (Int.toNat i) ⟨0,0,[]⟩) (Int.toNat i) v1 v2).2.1) ((QE (s.stages.getD (Int.toNat i) ⟨0,0,[]⟩) (Int.toNat i) v1 v2).2.2) (i - 1))))))∧(¬ (i≥0)→rv=(.tup [.rptr [.rsl (Qd s.stages) 0 s.stages.length,.rsl (rowI s.worth) 0 s.worth.length,.int .i64 s.price,.rsl (rowI v1) 0 v1.length,.rsl (rowI v2) 0 v2.length] 0,.bool true])))):f61G1 E s v1 v2 i:=by
 intro g1 g2
 rcases bft (decide (i≥0)) with hc0 | hc0
 · have h:=h.1 (odt hc0)
   obtain ⟨h1,h⟩:=h
   rcases bft (!(QE (s.stages.getD (Int.toNat i) ⟨0,0,[]⟩) (Int.toNat i) v1 v2).1) with hc1 | hc1
   · have h:=h.1 hc1
     exact p61_1_0 s v1 v2 i g1 g2 hE ⟨hc0,(YW Try.func110 (by kernel_rfl) f110b (qk s i v1 v2 g1 g2 h1)),hc1,trivial⟩ (AvLe.of_eq (by rw [h]; try rfl))
   · have h:=h.2 hc1
     obtain ⟨q3_2,h⟩:=h
     refine p61_1_1 s v1 v2 i g1 g2 hE ⟨hc0,(YW Try.func110 (by kernel_rfl) f110b (qk s i v1 v2 g1 g2 h1)),hc1,q3_2,trivial⟩ ?_
     have h:=(h g1 g2)
     simp only [f61G1,f61S1,List.length_set,measK_len1,measK_len2] at h
     skip
     exact h
 · have h:=h.2 (odf hc0)
   exact p61_1_2 s v1 v2 i g1 g2 hE ⟨hc0,rfl,rfl,trivial⟩ (AvLe.of_eq (by rw [h]; try rfl))
/-- What a stall has to be before it is measured. -/
def Yr (s:Stl):Bool:=Qa s.stages.length 1 60 && (decide ((s.worth.length:Int)≤8) && (!(s.worth.any fun n=>!Qa n 0 10000) && (Qa s.price 0 10000 && (List.range s.stages.length).all (QP s))))
def QX (s:Stl):Option Mch:=if Yr s=true then (QL s).map fun p=>⟨s,p.1,p.2⟩ else none
def Qb (s:Stl):Mch:=(QX s).getD ⟨s,[],[]⟩
def Vw (s:Stl):AV:=match QX s with
 | some m=>.tup [.rptr (cMch m) 0,.bool true]
 | none=>.tup [.nilPtr,.bool false]
theorem QC {s:Stl} (h:Yr s=true):(1≤s.stages.length∧s.stages.length≤60)∧s.worth.length≤8∧(∀ n ∈ s.worth,0≤n∧n≤10000)∧(0≤s.price∧s.price≤10000)∧∀ i,i<s.stages.length→QP s i=true:=by
 simp only [Yr,Bool.and_eq_true,decide_eq_true_eq,Bool.not_eq_true'] at h
 obtain ⟨h1,h2,h3,h4,h5⟩:=h
 have w1:=Qz.1 h1
 refine ⟨by omega,by omega,fun n hn=>?_,Qz.1 h4,fun i hi=>?_⟩
 · have:=(List.any_eq_false.1 h3) n hn
   exact Qz.1 (by simpa using this)
 · exact List.all_eq_true.1 h5 i (List.mem_range.2 hi)
theorem Vr {p:Nat→Bool} {n i:Nat} (hi:i<n) (h:p i=false):(List.range n).all p=false:=by
 rw [List.all_eq_false]; exact ⟨i,List.mem_range.2 hi,by simp [h]⟩
theorem Vv (s:Stl) (h:s.stages.length≤9223372036854775807∧s.worth.length≤9223372036854775807):Pure Try.prog 61 [.agg [.rsl (Qd s.stages) 0 s.stages.length,.rsl (rowI s.worth) 0 s.worth.length,.int .i64 s.price]] (Vw s):=Qq Try.func61 f61b fun E hE=>by
 have no:Yr s=false→Vw s=.tup [.nilPtr,.bool false]:=fun h=>by simp [Vw,QX,h]
 refine f61W s (rv:=Vw s) hE ⟨fun h1=>no (by simp [Yr,h1]),fun h1=>⟨fun h2=>no (by simp [Yr,show ¬ ((s.worth.length:Int)≤8) by omega]),fun h2=>⟨h.2,fun h3=>no (by simp only [Yr,h3]; simp),fun h3=>⟨fun h4=>no (by simp at h4; simp [Yr,h4]),fun h4=>?_⟩⟩⟩⟩
 have hn:=Qz.1 h1
 have loop2:Yr s=true→∀ (n:Nat) (me mu:List Int),n≤s.stages.length→me.length=s.stages.length→mu.length=s.stages.length→(∀ (j:Nat) (v:Int),n≤j→me[j]?=some v→0<v∧v≤1000000000000)→QL s=Vf s n me mu→f61G1 E s me mu ((n:Int) - 1):=by
  intro hp n
  obtain ⟨-,-,-,-,hform⟩:=QC hp
  induction n with
  | zero =>
   intro me mu hn hl hl2 hpos hk
   exact f61W1 s me mu _ (rv:=Vw s) hE ⟨fun h=>by omega,fun _=>by simp [Vw,QX,hp,hk,Vf,cMch]⟩
  | succ i ih =>
   intro me mu hn hl hl2 hpos hk
   have hi:s.stages[i]?=some s.stages[i]:=List.getElem?_eq_getElem (by omega)
   have hx:s.stages.getD i ⟨0,0,[]⟩=s.stages[i]:=by simp [List.getD,hi]
   have hf:=hform i (by omega)
   have hme:MeOk s i me:=⟨hl,fun j v hj hv=>hpos j v hj hv⟩
   have hnx:=fun hh=>ql (mu:=mu) hi hf hme hh
   have en:Int.toNat (((i+1:Nat):Int) - 1)=i:=by omega
   have ei:((i+1:Nat):Int) - 1 - 1=(i:Int) - 1:=by omega
   simp only [Vf] at hk
   refine f61W1 s me mu _ (rv:=Vw s) hE ⟨fun _=>⟨⟨by omega,by rw [en]; omega,by rw [en]; exact hf,by rw [en]; exact hme,hl2⟩,fun h5=>?_,fun h5=>⟨by omega,?_⟩⟩,fun h=>by omega⟩
   · rw [en] at h5
     rw [if_neg (by simp at h5; simp [h5])] at hk
     simp [Vw,QX,hp,hk]
   · rw [en] at h5 ⊢
     rw [ei]
     rw [hx] at h5 hk ⊢
     have t1:(QE s.stages[i] i me mu).1=true:=by simpa using h5
     rw [if_pos t1] at hk
     have q:=hnx t1
     exact ih _ _ (by omega) q.1 (by rw [q.2.1]; exact hl2) q.2.2 hk
 have loop1:∀ (d i:Nat),i+d=s.stages.length→(∀ j,j<i→QP s j=true)→f61G0 E s i:=by
  intro d
  induction d with
  | zero =>
   intro i hd hall
   have hp:Yr s=true:=by
    simp only [Yr,Bool.and_eq_true,decide_eq_true_eq,Bool.not_eq_true']
    exact ⟨h1,by omega,h3,by simpa using h4,List.all_eq_true.2 fun j hj=>hall j (by have:=List.mem_range.1 hj; omega)⟩
   exact f61W0 s i (rv:=Vw s) hE ⟨fun h=>by omega,fun _=>⟨by omega,by omega,by omega,loop2 hp s.stages.length (Xu s.stages.length) (Xu s.stages.length) (Nat.le_refl _) (by simp [Xu]) (by simp [Xu]) (fun j v hj hv=>by
    have:=(List.getElem?_eq_some_iff.1 hv).1
    simp [Xu] at this; omega) rfl⟩⟩
  | succ d ih =>
   intro i hd hall
   refine f61W0 s i (rv:=Vw s) hE ⟨fun _=>⟨⟨by omega,by omega,by omega⟩,fun h5=>no ?_,fun h5=>⟨by omega,ih (i+1) (by omega) (fun j hj=>?_)⟩⟩,fun h=>by omega⟩
   · rw [Yr,Vr (n:=s.stages.length) (by omega) h5]; simp
   · rcases Nat.lt_or_ge j i with h | h
     · exact hall j h
     · rw [show j=i by omega]; exact h5
 exact loop1 s.stages.length 0 (by omega) (fun j hj=>by omega)
theorem XB (s:Stl) (h:s.stages.length≤9223372036854775807∧s.worth.length≤9223372036854775807) (hc:(QX s).isSome=true):Pure Try.prog 61 [.agg [.rsl (Qd s.stages) 0 s.stages.length,.rsl (rowI s.worth) 0 s.worth.length,.int .i64 s.price]] (.tup [.rptr (cMch (Qb s)) 0,.bool true]):=by
 have:=Vv s h
 obtain ⟨m,hm⟩:=Option.isSome_iff_exists.1 hc
 rw [show Vw s=.tup [.rptr (cMch (Qb s)) 0,.bool true] by simp [Vw,Qb,hm]] at this
 exact this
theorem YA (s:Stl) (h:s.stages.length≤9223372036854775807∧s.worth.length≤9223372036854775807) (hc:(QX s).isSome=false):Pure Try.prog 61 [.agg [.rsl (Qd s.stages) 0 s.stages.length,.rsl (rowI s.worth) 0 s.worth.length,.int .i64 s.price]] (.tup [.nilPtr,.bool false]):=by
 have:=Vv s h
 rw [show Vw s=.tup [.nilPtr,.bool false] by
  cases hm:QX s with
  | none=>simp [Vw,hm]
  | some m=>rw [hm] at hc; simp at hc] at this
 exact this
theorem f18b:Try.f18.body=some (Qe Try.prog 18):=by kernel_rfl
theorem u18 {a c k:List AV} {r:AV} (h:Pure Try.prog 18 (a++c++k) r):Qg Try.prog (.clos 18 a k) c r:=Ql Try.func18 (by kernel_rfl) f18b h
abbrev z18_1 (s:Stl):AV:=.tup [.rptr [.rsl (Qd (((Qb s).s).stages)) 0 ((((Qb s).s).stages).length),.rsl (rowI (((Qb s).s).worth)) 0 ((((Qb s).s).worth).length),.int .i64 (((Qb s).s).price),.rsl (rowI ((Qb s).meas)) 0 (((Qb s).meas).length),.rsl (rowI ((Qb s).mult)) 0 (((Qb s).mult).length)] 0,.bool true]
abbrev z18_2 (s:Stl):List AV:=[.agg [.rsl (Qd s.stages) 0 s.stages.length,.rsl (rowI s.worth) 0 s.worth.length,.int .i64 s.price]]
theorem p18_start_0 (s:Stl) {E:Env} {res:AV} (hE:Qf Try.prog 18 res E) (ho:AllP [Qg Try.prog (.clos 61 [] []) (z18_2 s) (z18_1 s),false=false])
 (hr:AvLe (.int .i64 0) res):G Try.prog E [.code (Qe Try.prog 18)] ⟨(z18_2 s)++unds (Try.f18.ntmps - 1),[]⟩ :=
 Qc (n:=400) (evs:=[.v (z18_1 s),.b false]) (obs:=_) hE Try.func18 Qi (by kernel_rfl) ho hr
theorem p18_start_1 (s:Stl) {E:Env} {res:AV} (hE:Qf Try.prog 18 res E) (ho:AllP [Qg Try.prog (.clos 61 [] []) (z18_2 s) (.tup [.nilPtr,.bool false]),true=true])
 (hr:AvLe (.int .i64 60) res):G Try.prog E [.code (Qe Try.prog 18)] ⟨(z18_2 s)++unds (Try.f18.ntmps - 1),[]⟩ :=
 Qc (n:=400) (evs:=[.v (.tup [.nilPtr,.bool false]),.b true]) (obs:=_) hE Try.func18 Qi (by kernel_rfl) ho hr
theorem f18W (s:Stl) {E:Env} {rv:Int} (hE:Qf Try.prog 18 (.int .i64 rv) E)
 (h:((((QX s).isSome)=true→((s.stages.length≤9223372036854775807∧s.worth.length≤9223372036854775807)∧rv=0))∧(((QX s).isSome)=false→((s.stages.length≤9223372036854775807∧s.worth.length≤9223372036854775807)∧rv=60)))):G Try.prog E [.code (Qe Try.prog 18)] ⟨[.agg [.rsl (Qd s.stages) 0 s.stages.length,.rsl (rowI s.worth) 0 s.worth.length,.int .i64 s.price]]++unds (Try.f18.ntmps - 1),[]⟩:=by
 rcases bft ((QX s).isSome) with hc0 | hc0
 · have h:=h.1 hc0
   obtain ⟨h1,h⟩:=h
   exact p18_start_0 s hE ⟨(u61 (XB s h1 hc0)),rfl,trivial⟩ (AvLe.of_eq (by rw [h]; try rfl))
 · have h:=h.2 hc0
   obtain ⟨h1,h⟩:=h
   exact p18_start_1 s hE ⟨(u61 (YA s h1 hc0)),rfl,trivial⟩ (AvLe.of_eq (by rw [h]; try rfl))
theorem f19b:Try.f19.body=some (Qe Try.prog 19):=by kernel_rfl
theorem u19 {a c k:List AV} {r:AV} (h:Pure Try.prog 19 (a++c++k) r):Qg Try.prog (.clos 19 a k) c r:=Ql Try.func19 (by kernel_rfl) f19b h
def f19K0 (P:Program):List Item:=kAt 400 [.code (Qe P 19)] [.b false,.stop]
def f19S0 (s:Stl) (i:Nat):St:=⟨([J,.ptr 0 0 0,J,.int .i64 (i:Int)]++Js 52),[⟨true,0,1,true,[.rsl (Qd s.stages) 0 s.stages.length,.rsl (rowI s.worth) 0 s.worth.length,.int .i64 s.price],false⟩]⟩
def f19G0 (E:Env) (s:Stl) (i:Nat):Prop:=G Try.prog E (f19K0 Try.prog) (f19S0 s i )
def f19K1 (P:Program):List Item:=kAt 400 [.code (Qe P 19)] [.b false,.b false,.stop]
def f19S1 (s:Stl) (i:Nat):St:=⟨([J,.ptr 0 0 0,J,J,.int .i64 (i:Int)]++Js 51),[⟨true,0,1,true,[.rsl (Qd s.stages) 0 s.stages.length,.rsl (rowI s.worth) 0 s.worth.length,.int .i64 s.price],false⟩]⟩
def f19G1 (E:Env) (s:Stl) (i:Nat):Prop:=G Try.prog E (f19K1 Try.prog) (f19S1 s i )
abbrev Wv (s:Stl):List AV:=[.rsl (Qd s.stages) 0 s.stages.length,.rsl (rowI s.worth) 0 s.worth.length,.int .i64 s.price]
abbrev z19_2 (s:Stl):AV:=.tup [.rsl (rowI ((QO (QL s)).1)) 0 (((QO (QL s)).1).length),.bool ((QO (QL s)).2)]
abbrev z19_3 (s:Stl):List AV:=[.int .i64 (s.stages.length:Int),.int .i64 1,.int .i64 60]
theorem p19_start_0 (s:Stl) {E:Env} {res:AV} (hE:Qf Try.prog 19 res E) (ho:AllP [Qg Try.prog (.clos 62 [] []) (z19_3 s) (.bool (Qa (s.stages.length:Int) 1 60)),(!(Qa (s.stages.length:Int) 1 60))=true,true=true,true=true])
 (hr:AvLe (.int .i64 60) res):G Try.prog E [.code (Qe Try.prog 19)] ⟨[.agg (Wv s)]++unds (Try.f19.ntmps - 1),[]⟩ :=
 Qc (n:=400) (evs:=[.v (.bool (Qa (s.stages.length:Int) 1 60)),.b true,.b true,.b true]) (obs:=_) hE Try.func19 Qi (by kernel_rfl) ho hr
theorem p19_start_1 (s:Stl) {E:Env} {res:AV} (hE:Qf Try.prog 19 res E) (ho:AllP [Qg Try.prog (.clos 62 [] []) (z19_3 s) (.bool (Qa (s.stages.length:Int) 1 60)),(!(Qa (s.stages.length:Int) 1 60))=false,(decide ((s.worth.length:Int) > 8))=true,true=true])
 (hr:AvLe (.int .i64 60) res):G Try.prog E [.code (Qe Try.prog 19)] ⟨[.agg (Wv s)]++unds (Try.f19.ntmps - 1),[]⟩ :=
 Qc (n:=400) (evs:=[.v (.bool (Qa (s.stages.length:Int) 1 60)),.b false,.b true,.b true]) (obs:=_) hE Try.func19 Qi (by kernel_rfl) ho hr
theorem p19_start_2 (s:Stl) {E:Env} {res:AV} (hE:Qf Try.prog 19 res E) (ho:AllP [Qg Try.prog (.clos 62 [] []) (z19_3 s) (.bool (Qa (s.stages.length:Int) 1 60)),(!(Qa (s.stages.length:Int) 1 60))=false,(decide ((s.worth.length:Int) > 8))=false,Qg Try.prog (.clos 62 [] []) [.int .i64 s.price,.int .i64 0,.int .i64 10000] (.bool (Qa s.price 0 10000)),(!(Qa s.price 0 10000))=true])
 (hr:AvLe (.int .i64 60) res):G Try.prog E [.code (Qe Try.prog 19)] ⟨[.agg (Wv s)]++unds (Try.f19.ntmps - 1),[]⟩ :=
 Qc (n:=400) (evs:=[.v (.bool (Qa (s.stages.length:Int) 1 60)),.b false,.b false,.v (.bool (Qa s.price 0 10000)),.b true]) (obs:=_) hE Try.func19 Qi (by kernel_rfl) ho hr
theorem p19_start_3 (s:Stl) {E:Env} {rv:AV} (hE:Qf Try.prog 19 rv E) (ho:AllP [Qg Try.prog (.clos 62 [] []) (z19_3 s) (.bool (Qa (s.stages.length:Int) 1 60)),(!(Qa (s.stages.length:Int) 1 60))=false,(decide ((s.worth.length:Int) > 8))=false,Qg Try.prog (.clos 62 [] []) [.int .i64 s.price,.int .i64 0,.int .i64 10000] (.bool (Qa s.price 0 10000)),(!(Qa s.price 0 10000))=false])
 (hg:G Try.prog E (f19K0 Try.prog) ⟨([J,.ptr 0 0 0,J,.int .i64 0]++Js 52),[⟨true,0,1,true,(Wv s),false⟩]⟩):G Try.prog E [.code (Qe Try.prog 19)] ⟨[.agg (Wv s)]++unds (Try.f19.ntmps - 1),[]⟩ :=
 Qh (n:=400) (ds:=[]) (cs:=[]) (live:=[1,3]) (m:=1) (evs:=[.v (.bool (Qa (s.stages.length:Int) 1 60)),.b false,.b false,.v (.bool (Qa s.price 0 10000)),.b false,.stop]) (obs:=_) hE.2.1 (hE.nogh _) Qi (by kernel_rfl) ho hg
theorem f19W (s:Stl) {E:Env} {rv:Int} (hE:Qf Try.prog 19 (.int .i64 rv) E)
 (h:(((Qa (s.stages.length:Int) 1 60)=false→rv=60)∧((Qa (s.stages.length:Int) 1 60)=true→(((s.worth.length:Int) > 8→rv=60)∧(¬ ((s.worth.length:Int) > 8)→(((Qa s.price 0 10000)=false→rv=60)∧((Qa s.price 0 10000)=true→f19G0 E s 0))))))):G Try.prog E [.code (Qe Try.prog 19)] ⟨[.agg [.rsl (Qd s.stages) 0 s.stages.length,.rsl (rowI s.worth) 0 s.worth.length,.int .i64 s.price]]++unds (Try.f19.ntmps - 1),[]⟩:=by
 rcases bft (!(Qa (s.stages.length:Int) 1 60)) with hc0 | hc0
 · have h:=h.1 (bnT hc0)
   exact p19_start_0 s hE ⟨(u62 (Qt (s.stages.length:Int) 1 60)),hc0,rfl,rfl,trivial⟩ (AvLe.of_eq (by rw [h]; try rfl))
 · have h:=h.2 (bnF hc0)
   rcases bft (decide ((s.worth.length:Int) > 8)) with hc1 | hc1
   · have h:=h.1 (odt hc1)
     exact p19_start_1 s hE ⟨(u62 (Qt (s.stages.length:Int) 1 60)),hc0,hc1,rfl,trivial⟩ (AvLe.of_eq (by rw [h]; try rfl))
   · have h:=h.2 (odf hc1)
     rcases bft (!(Qa s.price 0 10000)) with hc2 | hc2
     · have h:=h.1 (bnT hc2)
       exact p19_start_2 s hE ⟨(u62 (Qt (s.stages.length:Int) 1 60)),hc0,hc1,(u62 (Qt s.price 0 10000)),hc2,trivial⟩ (AvLe.of_eq (by rw [h]; try rfl))
     · have h:=h.2 (bnF hc2)
       exact p19_start_3 s hE ⟨(u62 (Qt (s.stages.length:Int) 1 60)),hc0,hc1,(u62 (Qt s.price 0 10000)),hc2,trivial⟩ h
theorem p19_0_0 (s:Stl) (i:Nat) (e:Int) {E:Env} {res:AV} (hE:Qf Try.prog 19 res E) (ho:AllP [(decide ((i:Int)<(s.worth.length:Int)))=true,0≤(i:Int)∧(i:Int)<(s.worth.length:Int),((rowI s.worth).drop (0+(Int.toNat (i:Int))*1)).take 1=[.int .i64 e],Qg Try.prog (.clos 62 [] []) [.int .i64 e,.int .i64 0,.int .i64 10000] (.bool (Qa e 0 10000)),(!(Qa e 0 10000))=true])
 (hr:AvLe (.int .i64 60) res):G Try.prog E (f19K0 Try.prog) (f19S0 s i ) :=
 Qc (n:=400) (evs:=[.b true,.auto,.ld (.int .i64 e),.v (.bool (Qa e 0 10000)),.b true]) (obs:=_) hE Try.func19 Qi (by kernel_rfl) ho hr
theorem p19_0_1 (s:Stl) (i:Nat) (e:Int) {E:Env} {rv:AV} (hE:Qf Try.prog 19 rv E) (ho:AllP [(decide ((i:Int)<(s.worth.length:Int)))=true,0≤(i:Int)∧(i:Int)<(s.worth.length:Int),((rowI s.worth).drop (0+(Int.toNat (i:Int))*1)).take 1=[.int .i64 e],Qg Try.prog (.clos 62 [] []) [.int .i64 e,.int .i64 0,.int .i64 10000] (.bool (Qa e 0 10000)),(!(Qa e 0 10000))=false,InR .i64 ((i:Int)+1)])
 (hg:G Try.prog E (f19K0 Try.prog) ⟨([J,.ptr 0 0 0,J,.int .i64 ((i:Int)+1)]++Js 52),[⟨true,0,1,true,(Wv s),false⟩]⟩):G Try.prog E (f19K0 Try.prog) (f19S0 s i ) :=
 Qh (n:=400) (ds:=[]) (cs:=[]) (live:=[1,3]) (m:=1) (evs:=[.b true,.auto,.ld (.int .i64 e),.v (.bool (Qa e 0 10000)),.b false,.stop]) (obs:=_) hE.2.1 (hE.nogh _) Qi (by kernel_rfl) ho hg
theorem p19_0_2 (s:Stl) (i:Nat) {E:Env} {rv:AV} (hE:Qf Try.prog 19 rv E) (ho:AllP [(decide ((i:Int)<(s.worth.length:Int)))=false])
 (hg:G Try.prog E (f19K1 Try.prog) ⟨([J,.ptr 0 0 0,J,J,.int .i64 0]++Js 51),[⟨true,0,1,true,(Wv s),false⟩]⟩):G Try.prog E (f19K0 Try.prog) (f19S0 s i ) :=
 Qh (n:=400) (ds:=[]) (cs:=[]) (live:=[1,4]) (m:=1) (evs:=[.b false,.stop]) (obs:=_) hE.2.1 (hE.nogh _) Qi (by kernel_rfl) ho hg
theorem f19W0 (s:Stl) (i:Nat) {E:Env} {rv:Int} (hE:Qf Try.prog 19 (.int .i64 rv) E)
 (h:(((i:Int)<(s.worth.length:Int)→(∃ e:Int,s.worth[i]?=some e∧(((Qa e 0 10000)=false→rv=60)∧((Qa e 0 10000)=true→((I6 ((i:Int)+1))∧f19G0 E s (i+1))))))∧(¬ ((i:Int)<(s.worth.length:Int))→f19G1 E s 0))):f19G0 E s i:=by
 rcases bft (decide ((i:Int)<(s.worth.length:Int))) with hc0 | hc0
 · have h:=h.1 (odt hc0)
   obtain ⟨e,h1,h⟩:=h
   rcases bft (!(Qa e 0 10000)) with hc1 | hc1
   · have h:=h.1 (bnT hc1)
     exact p19_0_0 s i e hE ⟨hc0,(Qn h1),(rp cI 1 0 1 h1),(u62 (Qt e 0 10000)),hc1,trivial⟩ (AvLe.of_eq (by rw [h]; try rfl))
   · have h:=h.2 (bnF hc1)
     obtain ⟨q6_2,h⟩:=h
     exact p19_0_1 s i e hE ⟨hc0,(Qn h1),(rp cI 1 0 1 h1),(u62 (Qt e 0 10000)),hc1,q6_2,trivial⟩ h
 · have h:=h.2 (odf hc0)
   exact p19_0_2 s i hE ⟨hc0,trivial⟩ h
theorem p19_1_0 (s:Stl) (i:Nat) {E:Env} {res:AV} (hE:Qf Try.prog 19 res E) (ho:AllP [(decide ((i:Int)<(s.stages.length:Int)))=true,Qg Try.prog (.clos 63 [] []) [.agg (Wv s),.int .i64 (i:Int)] (.bool (QP s i)),(!(QP s i))=true])
 (hr:AvLe (.int .i64 60) res):G Try.prog E (f19K1 Try.prog) (f19S1 s i ) :=
 Qc (n:=400) (evs:=[.b true,.v (.bool (QP s i)),.b true]) (obs:=_) hE Try.func19 Qi (by kernel_rfl) ho hr
theorem p19_1_1 (s:Stl) (i:Nat) {E:Env} {rv:AV} (hE:Qf Try.prog 19 rv E) (ho:AllP [(decide ((i:Int)<(s.stages.length:Int)))=true,Qg Try.prog (.clos 63 [] []) [.agg (Wv s),.int .i64 (i:Int)] (.bool (QP s i)),(!(QP s i))=false,InR .i64 ((i:Int)+1)])
 (hg:G Try.prog E (f19K1 Try.prog) ⟨([J,.ptr 0 0 0,J,J,.int .i64 ((i:Int)+1)]++Js 51),[⟨true,0,1,true,(Wv s),false⟩]⟩):G Try.prog E (f19K1 Try.prog) (f19S1 s i ) :=
 Qh (n:=400) (ds:=[]) (cs:=[]) (live:=[1,4]) (m:=1) (evs:=[.b true,.v (.bool (QP s i)),.b false,.stop]) (obs:=_) hE.2.1 (hE.nogh _) Qi (by kernel_rfl) ho hg
theorem p19_1_2 (s:Stl) (i:Nat) {E:Env} {res:AV} (hE:Qf Try.prog 19 res E) (ho:AllP [(decide ((i:Int)<(s.stages.length:Int)))=false,Qg Try.prog (.clos 51 [] []) [.agg (Wv s)] (z19_2 s),(!(QO (QL s)).2)=true])
 (hr:AvLe (.int .i64 60) res):G Try.prog E (f19K1 Try.prog) (f19S1 s i ) :=
 Qc (n:=400) (evs:=[.b false,.v (z19_2 s),.b true]) (obs:=_) hE Try.func19 Qi (by kernel_rfl) ho hr
theorem p19_1_3 (s:Stl) (i:Nat) {E:Env} {res:AV} (hE:Qf Try.prog 19 res E) (ho:AllP [(decide ((i:Int)<(s.stages.length:Int)))=false,Qg Try.prog (.clos 51 [] []) [.agg (Wv s)] (z19_2 s),(!(QO (QL s)).2)=false])
 (hr:AvLe (.int .i64 0) res):G Try.prog E (f19K1 Try.prog) (f19S1 s i ) :=
 Qc (n:=400) (evs:=[.b false,.v (z19_2 s),.b false]) (obs:=_) hE Try.func19 Qi (by kernel_rfl) ho hr
theorem f19W1 (s:Stl) (i:Nat) {E:Env} {rv:Int} (hE:Qf Try.prog 19 (.int .i64 rv) E)
 (h:(((i:Int)<(s.stages.length:Int)→((i<s.stages.length∧s.stages.length≤1000000∧s.worth.length≤1000000)∧(((QP s i)=false→rv=60)∧((QP s i)=true→((I6 ((i:Int)+1))∧f19G1 E s (i+1))))))∧(¬ ((i:Int)<(s.stages.length:Int))→((s.stages.length≤1000000∧∀ i,i<s.stages.length→QP s i=true)∧(((!(QO (QL s)).2)=true→rv=60)∧((!(QO (QL s)).2)=false→rv=0)))))):f19G1 E s i:=by
 rcases bft (decide ((i:Int)<(s.stages.length:Int))) with hc0 | hc0
 · have h:=h.1 (odt hc0)
   obtain ⟨h1,h⟩:=h
   rcases bft (!(QP s i)) with hc1 | hc1
   · have h:=h.1 (bnT hc1)
     exact p19_1_0 s i hE ⟨hc0,(u63 (yB s i h1)),hc1,trivial⟩ (AvLe.of_eq (by rw [h]; try rfl))
   · have h:=h.2 (bnF hc1)
     obtain ⟨q3_2,h⟩:=h
     exact p19_1_1 s i hE ⟨hc0,(u63 (yB s i h1)),hc1,q3_2,trivial⟩ h
 · have h:=h.2 (odf hc0)
   obtain ⟨h1,h⟩:=h
   rcases bft (!(QO (QL s)).2) with hc1 | hc1
   · have h:=h.1 hc1
     exact p19_1_2 s i hE ⟨hc0,(u51 (Xa s h1)),hc1,trivial⟩ (AvLe.of_eq (by rw [h]; try rfl))
   · have h:=h.2 hc1
     exact p19_1_3 s i hE ⟨hc0,(u51 (Xa s h1)),hc1,trivial⟩ (AvLe.of_eq (by rw [h]; try rfl))
def Qy (s:Stl):Int:=if (QX s).isSome=true then 0 else 60
theorem check_ok (s:Stl) (h:s.stages.length≤9223372036854775807∧s.worth.length≤9223372036854775807):Pure Try.prog 18 [.agg [.rsl (Qd s.stages) 0 s.stages.length,.rsl (rowI s.worth) 0 s.worth.length,.int .i64 s.price]] (.int .i64 (Qy s)):=Qq Try.func18 f18b fun E hE=>by
 refine f18W s (rv:=Qy s) hE ?_
 refine ⟨fun h1=>⟨h,by simp [Qy,h1]⟩,fun h1=>⟨h,by simp [Qy,h1]⟩⟩
theorem qG (s:Stl) (h:s.stages.length≤9223372036854775807∧s.worth.length≤9223372036854775807):Pure Try.prog 19 [.agg [.rsl (Qd s.stages) 0 s.stages.length,.rsl (rowI s.worth) 0 s.worth.length,.int .i64 s.price]] (.int .i64 (Qy s)):=Qq Try.func19 f19b fun E hE=>by
 have no:Yr s=false→Qy s=60:=fun h=>by simp [Qy,QX,h]
 refine f19W s (rv:=Qy s) hE ⟨fun h1=>no (by simp [Yr,h1]),fun h1=>⟨fun h2=>no (by simp [Yr,show ¬ ((s.worth.length:Int)≤8) by omega]),fun h2=>⟨fun h4=>no (by simp [Yr,h4]),fun h4=>?_⟩⟩⟩
 have hn:=Qz.1 h1
 have loop1:(s.worth.any fun n=>!Qa n 0 10000)=false→∀ (d i:Nat),i+d=s.stages.length→(∀ j,j<i→QP s j=true)→f19G1 E s i:=by
  intro h3 d
  induction d with
  | zero =>
   intro i hd hall
   have hf:∀ j,j<s.stages.length→QP s j=true:=fun j hj=>hall j (by omega)
   have hp:Yr s=true:=by
    simp only [Yr,Bool.and_eq_true,decide_eq_true_eq,Bool.not_eq_true']
    exact ⟨h1,by omega,h3,h4,List.all_eq_true.2 fun j hj=>hall j (by have:=List.mem_range.1 hj; omega)⟩
   refine f19W1 s i (rv:=Qy s) hE ⟨fun h=>by omega,fun _=>⟨⟨by omega,hf⟩,fun h5=>?_,fun h5=>?_⟩⟩
   · cases hm:QL s with
     | none=>simp [Qy,QX,hp,hm]
     | some p=>rw [hm] at h5; simp [QO] at h5
   · cases hm:QL s with
     | none=>rw [hm] at h5; simp [QO] at h5
     | some p=>simp [Qy,QX,hp,hm]
  | succ d ih =>
   intro i hd hall
   refine f19W1 s i (rv:=Qy s) hE ⟨fun _=>⟨⟨by omega,by omega,by omega⟩,fun h5=>no ?_,fun h5=>⟨by omega,ih (i+1) (by omega) (fun j hj=>?_)⟩⟩,fun h=>by omega⟩
   · rw [Yr,Vr (n:=s.stages.length) (by omega) h5]; simp
   · rcases Nat.lt_or_ge j i with h | h
     · exact hall j h
     · rw [show j=i by omega]; exact h5
 have loop0:∀ (d i:Nat),i+d=s.worth.length→(s.worth.any fun n=>!Qa n 0 10000)=((s.worth.drop i).any fun n=>!Qa n 0 10000)→f19G0 E s i:=by
  intro d
  induction d with
  | zero =>
   intro i hd hany
   rw [List.drop_eq_nil_of_le (by omega)] at hany
   exact f19W0 s i (rv:=Qy s) hE ⟨fun h=>by omega,fun _=>loop1 hany s.stages.length 0 (by omega) (fun j hj=>by omega)⟩
  | succ d ih =>
   intro i hd hany
   have hi:s.worth[i]?=some s.worth[i]:=List.getElem?_eq_getElem (by omega)
   rw [List.drop_eq_getElem_cons (by omega),List.any_cons] at hany
   refine f19W0 s i (rv:=Qy s) hE ⟨fun _=>⟨_,hi,fun h5=>no ?_,fun h5=>⟨by omega,ih (i+1) (by omega) (by rw [hany,h5]; rfl)⟩⟩,fun h=>by omega⟩
   simp only [Yr,hany,h5]; simp
 exact loop0 s.worth.length 0 (by omega) (by simp)
end Go.Proofs.Ytfgmlaeikcfpbaa
namespace Ax
open Go
def YH:List AV→List AV→Prop
 | [],[]=>True
 | x :: xs,y :: ys=>AvLe x y∧Xc y=true∧Xr y=true∧YH xs ys
 | _,_=>False
theorem YH.app:∀ {a b c d:List AV},YH a b→YH c d→YH (a++c) (b++d)
 | [],[],c,d,_,h=>h
 | x :: a,y :: b,c,d,h1,h2=>⟨h1.1,h1.2.1,h1.2.2.1,YH.app h1.2.2.2 h2⟩
theorem YH.rep {a b:List AV} (h:YH a b):∀ {n:Nat},YH (List.replicate n a).flatten (List.replicate n b).flatten
 | 0=>trivial
 | n+1=>by rw [List.replicate_succ,List.replicate_succ,List.flatten_cons,List.flatten_cons]; exact h.app (YH.rep h)
theorem YH.length:∀ {a b:List AV},YH a b→b.length=a.length
 | [],[],_=>rfl
 | x :: a,y :: b,h=>by simp [YH.length h.2.2.2]
theorem YH.get:∀ {a b:List AV} {i:Nat} {y:AV},YH a b→b[i]?=some y→∃ x,a[i]?=some x∧AvLe x y∧Xc y=true∧Xr y=true
 | [],[],i,y,_,h=>by simp at h
 | x :: a,z :: b,0,y,h,hi=>by simp at hi; subst hi; exact ⟨x,rfl,h.1,h.2.1,h.2.2.1⟩
 | x :: a,z :: b,i+1,y,h,hi=>by
  obtain ⟨x',h1,h2⟩:=YH.get h.2.2.2 (by simpa using hi)
  exact ⟨x',by simpa using h1,h2⟩
section
variable {P:Program} {E:Env} {K:List Item} {st:St}
theorem weakB_step {k:Nat} {b:Blk} {cells':List AV} (hb:st.blks[k]?=some b) (hl:b.live=true) (hz:b.sz ≠ 0) (hf:b.flat=true) (hle:YH b.cells cells')
 (hg:G P E K ⟨st.tmps,st.blks.set k { b with cells:=cells' }⟩):G P E K st:=by
 intro C Z a w hr
 have hm:=hr.mem
 obtain ⟨q1,q2⟩:=hm.blk k b hb hl
 have hgen:=hm.gen k b hb
 have:=hm.change (b':={ b with cells:=cells' }) (w':=w) (s:=C.β k) (g:=C.γ k) hb rfl rfl rfl (Nat.le_refl _) (fun _ _ _=>rfl)
  (fun blk o arr e _ h=>⟨arr,h,rfl⟩) (Nat.le_refl _) (fun _ _=>rfl) hl hgen.symm (fun blk o h=>.inl ⟨o,h⟩) (fun hle' hevo _=>by
    refine ⟨fun i x hi=>(hle.get hi).choose_spec.2.2.1,?_⟩
    rw [Ctx.put_id]
    cases hs:C.β k with
    | absent=>simp [hs] at q2
    | unborn =>
     simp only [hs] at q2 ⊢
     have:=hle.length
     rw [q2] at this
     exact List.length_eq_zero_iff.1 this
    | loc blk o =>
     simp only [hs] at q2 ⊢
     obtain ⟨arr,te,r1,r2,r3⟩:=q2.cells hz
     refine .inl ⟨hz,arr,te,r1,by rw [hle.length]; exact r2,fun i x hi=>?_⟩
     obtain ⟨x0,h1,h2,-,-⟩:=hle.get hi
     obtain ⟨v,s1,s2⟩:=r3 i x0 h1
     refine ⟨v,s1,?_⟩
     simp only [hf,if_true] at s2 ⊢
     exact h2 _ _ _ s2)
 rw [Ctx.put_id] at this
 exact hg C Z a w ⟨hr.tmp,this.1,hr.marks,hr.gh,hr.base⟩
end
end Ax
namespace Go.Proofs.Ytfgmlaeikcfpbaa
open Go Ax
open Go.Proofs
structure Num where
 t:Int
 h:Int
 v:Int
def cNum1 (e:Num):AV:=.clos 0 [.agg [.int .i64 e.t,.int .i64 e.h]] [.int .i64 e.v]
def cNum (e:Num):List AV:=[cNum1 e]
def Qv (l:List Num):List AV:=l.flatMap cNum
theorem VN {α:Type} (c:α→AV):∀ {l:List α} {i:Nat} {e:α},l[i]?=some e→(l.flatMap fun x=>[c x])[i]?=some (c e)
 | [],i,e,h=>by simp at h
 | x :: l,0,e,h=>by simp at h; subst h; rfl
 | x :: l,i+1,e,h=>by
  have:=VN c (l:=l) (i:=i) (e:=e) (by simpa using h)
  simpa using this
theorem Yd:∀ {l:List Num},(Qv l).length=l.length
 | []=>rfl
 | x :: l=>by
  have:=Yd (l:=l)
  simp only [Qv,List.flatMap_cons,List.length_append,List.length_cons,cNum,List.length_nil] at *
  omega
theorem key_num {t h a b:Int}:ya Try.prog 34 (.agg [.int .i64 t,.int .i64 h]) (.agg [.int .i64 a,.int .i64 b])=some ((t == a) && ((h == b) && true)):=by
 have h2:Xh Try.prog 20 34=some [some .i64,some .i64]:=by kernel_rfl
 simp only [ya,Try.underlying34,h2,Option.bind_some,Xp]
 rfl
theorem yz {l:List Num} {t h:Int} (hh:∀ e ∈ l,¬ (e.t=t∧e.h=h)):Wt Try.prog 34 (.agg [.int .i64 t,.int .i64 h]) (Qv l):=by
 intro c hc
 obtain ⟨e,he,hc⟩:=List.mem_flatMap.1 hc
 simp only [cNum,List.mem_singleton] at hc
 subst hc
 refine ⟨_,_,rfl,?_⟩
 rw [key_num]
 have:=hh e he
 have:((t == e.t) && ((h == e.h) && true))=false:=by
  by_cases h1:t=e.t
  · have h2:¬ h=e.h:=fun h2=>this ⟨h1.symm,h2.symm⟩
    simp [h2]
  · simp [h1]
 rw [this]
def NumAt (l:List Num) (t h:Int) (i:Nat) (e:Num):Prop:=l[i]?=some e∧e.t=t∧e.h=h∧∀ x ∈ l.take i,¬ (x.t=t∧x.h=h)
theorem rowNum_take {l:List Num} {i:Nat}:(Qv l).take i=Qv (l.take i):=by
 induction l generalizing i with
 | nil=>simp [Qv]
 | cons x l ih =>
  cases i with
  | zero=>simp [Qv]
  | succ i =>
   have:=ih (i:=i)
   simp only [Qv,List.flatMap_cons,cNum,List.cons_append,List.nil_append,List.take_succ_cons] at *
   rw [this]
theorem keyAt_num {l:List Num} {t h:Int} {i:Nat} {e:Num} (hh:NumAt l t h i e):KeyAt Try.prog 34 (.agg [.int .i64 t,.int .i64 h]) (Qv l) i (.int .i64 e.v):=by
 obtain ⟨h1,h2,h3,h4⟩:=hh
 refine ⟨_,VN cNum1 h1,?_,?_⟩
 · rw [key_num,h2,h3]; simp
 · rw [rowNum_take]; exact yz h4
theorem f91b:Try.f91.body=some (Qe Try.prog 91):=by kernel_rfl
theorem u91 {a c k:List AV} {r:AV} (h:Pure Try.prog 91 (a++c++k) r):Qg Try.prog (.clos 91 a k) c r:=Ql Try.func91 (by kernel_rfl) f91b h
abbrev z91_1 (s:Stl):List AV:=[.rsl (Qd s.stages) 0 s.stages.length,.rsl (rowI s.worth) 0 s.worth.length,.int .i64 s.price]
theorem p91_start_0 (s:Stl) {E:Env} {res:AV} (hE:Qf Try.prog 91 res E) (ho:AllP [Qg Try.prog (.clos 18 [] []) [.agg (z91_1 s)] (.int .i64 (Qy s)),((Qy s) != 0)=true,3≤3])
 (hr:AvLe (.tup [.agg [.nilSl,.nilSl,.int .i64 0],.int .i64 2]) res):G Try.prog E [.code (Qe Try.prog 91)] ⟨[.agg (z91_1 s)]++unds (Try.f91.ntmps - 1),[]⟩ :=
 Qc (n:=400) (evs:=[.v (.int .i64 (Qy s)),.b true]) (obs:=_) hE Try.func91 Qi (by kernel_rfl) ho hr
theorem p91_start_1 (s:Stl) {E:Env} {res:AV} (hE:Qf Try.prog 91 res E) (ho:AllP [Qg Try.prog (.clos 18 [] []) [.agg (z91_1 s)] (.int .i64 (Qy s)),((Qy s) != 0)=false,3≤3])
 (hr:AvLe (.tup [.agg (z91_1 s),.int .i64 0]) res):G Try.prog E [.code (Qe Try.prog 91)] ⟨[.agg (z91_1 s)]++unds (Try.f91.ntmps - 1),[]⟩ :=
 Qc (n:=400) (evs:=[.v (.int .i64 (Qy s)),.b false]) (obs:=_) hE Try.func91 Qi (by kernel_rfl) ho hr
theorem f91W (s:Stl) {E:Env} {rv:(Stl × Int)} (hE:Qf Try.prog 91 (.tup [.agg [.rsl (Qd rv.1.stages) 0 rv.1.stages.length,.rsl (rowI rv.1.worth) 0 rv.1.worth.length,.int .i64 rv.1.price],.int .i64 rv.2]) E)
 (h:((s.stages.length≤9223372036854775807∧s.worth.length≤9223372036854775807)∧((¬ ((Qy s)=0)→rv=((⟨([]:List Stg),([]:List Int),0⟩:Stl),2))∧((Qy s)=0→rv=(s,0))))):G Try.prog E [.code (Qe Try.prog 91)] ⟨[.agg [.rsl (Qd s.stages) 0 s.stages.length,.rsl (rowI s.worth) 0 s.worth.length,.int .i64 s.price]]++unds (Try.f91.ntmps - 1),[]⟩:=by
 obtain ⟨h1,h⟩:=h
 rcases bft ((Qy s) != 0) with hc0 | hc0
 · have h:=h.1 (bneT hc0)
   exact p91_start_0 s hE ⟨(u18 (check_ok s h1)),hc0,(by decide),trivial⟩ (by rw [h]; exact (Yt ⟨(agg_le ⟨XN,⟨XN,⟨AvLe.of_eq rfl,trivial⟩⟩⟩),⟨AvLe.of_eq rfl,trivial⟩⟩))
 · have h:=h.2 (bneF hc0)
   exact p91_start_1 s hE ⟨(u18 (check_ok s h1)),hc0,(by decide),trivial⟩ (AvLe.of_eq (by rw [h]; try rfl))
def XI (s:Stl):Stl × Int:=if Qy s=0 then (s,0) else (⟨[],[],0⟩,2)
theorem made_ok (s:Stl) (h:s.stages.length≤9223372036854775807∧s.worth.length≤9223372036854775807):Pure Try.prog 91 [.agg [.rsl (Qd s.stages) 0 s.stages.length,.rsl (rowI s.worth) 0 s.worth.length,.int .i64 s.price]] (.tup [.agg [.rsl (Qd (XI s).1.stages) 0 (XI s).1.stages.length,.rsl (rowI (XI s).1.worth) 0 (XI s).1.worth.length,.int .i64 (XI s).1.price],.int .i64 (XI s).2]):=Qq Try.func91 f91b fun E hE =>
 f91W s (rv:=XI s) hE ⟨h,fun h1=>by rw [XI,if_neg h1],fun h1=>by rw [XI,if_pos h1]⟩
theorem f111b:Try.f111.body=some (Qe Try.prog 111):=by kernel_rfl
theorem u111 {a c k:List AV} {r:AV} (h:Pure Try.prog 111 (a++c++k) r):Qg Try.prog (.clos 111 a k) c r:=Ql Try.func111 (by kernel_rfl) f111b h
abbrev z111_1 (a:Int) (b:Int) (n:Int) (l:List Num) (need:Int) (lost:Int):List AV:=[.int .i64 a,.int .i64 b,.rptr [.int .i64 n] 0,.rptr [.rmap (Qv l)] 0,.rptr [.int .i64 need] 0,.rptr [.int .i64 lost] 0]
theorem p111_start_0 (a:Int) (b:Int) (l:List Num) (n need lost:Int) (mi:Nat) (me:Num) {E:Env} {res:AV} (hE:Qf Try.prog 111 res E) (ho:AllP [(decide (a<n))=true,KeyAt Try.prog 34 (.agg [.int .i64 a,.int .i64 b]) (Qv l) mi (.int .i64 me.v)])
 (hr:AvLe (.int .i64 me.v) res):G Try.prog E [.code (Qe Try.prog 111)] ⟨(z111_1 a b n l need lost)++unds (Try.f111.ntmps - 6),[]⟩ :=
 Qc (n:=400) (evs:=[.b true,.mfound mi (.int .i64 me.v)]) (obs:=_) hE Try.func111 Qi (by kernel_rfl) ho hr
theorem p111_start_1 (a:Int) (b:Int) (l:List Num) (n need lost:Int) {E:Env} {res:AV} (hE:Qf Try.prog 111 res E) (ho:AllP [(decide (a<n))=false,(decide (b≥need))=true,InR .i64 (lost+1)])
 (hr:AvLe (.int .i64 (lost+1)) res):G Try.prog E [.code (Qe Try.prog 111)] ⟨(z111_1 a b n l need lost)++unds (Try.f111.ntmps - 6),[]⟩ :=
 Qc (n:=400) (evs:=[.b false,.b true]) (obs:=_) hE Try.func111 Qi (by kernel_rfl) ho hr
theorem p111_start_2 (a:Int) (b:Int) (l:List Num) (n need lost:Int) {E:Env} {res:AV} (hE:Qf Try.prog 111 res E) (ho:AllP [(decide (a<n))=false,(decide (b≥need))=false])
 (hr:AvLe (.int .i64 lost) res):G Try.prog E [.code (Qe Try.prog 111)] ⟨(z111_1 a b n l need lost)++unds (Try.f111.ntmps - 6),[]⟩ :=
 Qc (n:=400) (evs:=[.b false,.b false]) (obs:=_) hE Try.func111 Qi (by kernel_rfl) ho hr
theorem f111W (a:Int) (b:Int) (l:List Num) (n need lost:Int) {E:Env} {rv:Int} (hE:Qf Try.prog 111 (.int .i64 rv) E)
 (h:((a<n→(∃ mi:Nat,True∧(∃ me:Num,NumAt l a b mi me∧rv=me.v)))∧(¬ (a<n)→((b≥need→((I6 (lost+1))∧rv=(lost+1)))∧(¬ (b≥need)→rv=lost))))):G Try.prog E [.code (Qe Try.prog 111)] ⟨[.int .i64 a,.int .i64 b,.rptr [.int .i64 n] 0,.rptr [.rmap (Qv l)] 0,.rptr [.int .i64 need] 0,.rptr [.int .i64 lost] 0]++unds (Try.f111.ntmps - 6),[]⟩:=by
 rcases bft (decide (a<n)) with hc0 | hc0
 · have h:=h.1 (odt hc0)
   obtain ⟨mi,h1,h⟩:=h
   obtain ⟨me,h2,h⟩:=h
   exact p111_start_0 a b l n need lost mi me hE ⟨hc0,(keyAt_num h2),trivial⟩ (AvLe.of_eq (by rw [h]; try rfl))
 · have h:=h.2 (odf hc0)
   rcases bft (decide (b≥need)) with hc1 | hc1
   · have h:=h.1 (odt hc1)
     obtain ⟨q2_2,h⟩:=h
     exact p111_start_1 a b l n need lost hE ⟨hc0,hc1,q2_2,trivial⟩ (AvLe.of_eq (by rw [h]; try rfl))
   · have h:=h.2 (odf hc1)
     exact p111_start_2 a b l n need lost hE ⟨hc0,hc1,trivial⟩ (AvLe.of_eq (by rw [h]; try rfl))
theorem f67b:Try.f67.body=some (Qe Try.prog 67):=by kernel_rfl
theorem u67 {a c k:List AV} {r:AV} (h:Pure Try.prog 67 (a++c++k) r):Qg Try.prog (.clos 67 a k) c r:=Ql Try.func67 (by kernel_rfl) f67b h
theorem p67_start_0 (a:Int) (b:Int) {E:Env} {res:AV} (hE:Qf Try.prog 67 res E) (ho:AllP [])
 (hr:AvLe (.bool true) res):G Try.prog E [.code (Qe Try.prog 67)] ⟨[.int .i64 a,.int .i64 b]++unds (Try.f67.ntmps - 2),[]⟩ :=
 Qc (n:=400) (evs:=[]) (obs:=_) hE Try.func67 Qi (by kernel_rfl) ho hr
theorem f67W (a:Int) (b:Int) {E:Env} {rv:Bool} (hE:Qf Try.prog 67 (.bool rv) E)
 (h:rv=true):G Try.prog E [.code (Qe Try.prog 67)] ⟨[.int .i64 a,.int .i64 b]++unds (Try.f67.ntmps - 2),[]⟩:=by
 exact p67_start_0 a b hE trivial (AvLe.of_eq (by rw [h]; try rfl))
theorem f68b:Try.f68.body=some (Qe Try.prog 68):=by kernel_rfl
theorem u68 {a c k:List AV} {r:AV} (h:Pure Try.prog 68 (a++c++k) r):Qg Try.prog (.clos 68 a k) c r:=Ql Try.func68 (by kernel_rfl) f68b h
theorem p68_start_0 (a:Int) (b:Int) (p q:Int) {E:Env} {res:AV} (hE:Qf Try.prog 68 res E) (ho:AllP [])
 (hr:AvLe (.tup [.int .i64 p,.int .i64 q]) res):G Try.prog E [.code (Qe Try.prog 68)] ⟨[.int .i64 a,.int .i64 b,.rptr [.int .i64 p] 0,.rptr [.int .i64 q] 0]++unds (Try.f68.ntmps - 4),[]⟩ :=
 Qc (n:=400) (evs:=[]) (obs:=_) hE Try.func68 Qi (by kernel_rfl) ho hr
theorem f68W (a:Int) (b:Int) (p q:Int) {E:Env} {rv:(Int × Int)} (hE:Qf Try.prog 68 (.tup [.int .i64 rv.1,.int .i64 rv.2]) E)
 (h:rv=(p,q)):G Try.prog E [.code (Qe Try.prog 68)] ⟨[.int .i64 a,.int .i64 b,.rptr [.int .i64 p] 0,.rptr [.int .i64 q] 0]++unds (Try.f68.ntmps - 4),[]⟩:=by
 exact p68_start_0 a b p q hE trivial (AvLe.of_eq (by rw [h]; try rfl))
def numV (l:List Num) (t h:Int):Int:=match l.find? (fun e=>e.t == t && e.h == h) with
 | some e=>e.v
 | none=>0
def toI (l:List Num) (n need lost t h:Int):Int:=if t<n then numV l t h else if h≥need then lost+1 else lost
theorem numAt_find {l:List Num} {t h:Int} (hx:∃ e ∈ l,e.t=t∧e.h=h):∃ i e,NumAt l t h i e∧numV l t h=e.v:=by
 induction l with
 | nil=>obtain ⟨e,he,-⟩:=hx; simp at he
 | cons x l ih =>
  by_cases hh:x.t=t∧x.h=h
  · exact ⟨0,x,⟨rfl,hh.1,hh.2,by simp⟩,by simp [numV,List.find?,hh.1,hh.2]⟩
  · obtain ⟨e,he,h1⟩:=hx
    have he':e ∈ l:=by
     rcases List.mem_cons.1 he with rfl | he
     · exact absurd h1 hh
     · exact he
    obtain ⟨i,e',h2,h3⟩:=ih ⟨e,he',h1⟩
    refine ⟨i+1,e',⟨by simpa using h2.1,h2.2.1,h2.2.2.1,fun y hy=>?_⟩,?_⟩
    · rcases List.mem_cons.1 (by simpa using hy) with rfl | hy
      · exact hh
      · exact h2.2.2.2 y hy
    · have:(x.t == t && x.h == h)=false:=by
       rw [Bool.eq_false_iff]; intro hb; simp at hb; exact hh hb
      simp only [numV,List.find?,this]
      exact h3
theorem to_ok (l:List Num) (n need lost t h:Int) (hh:(t<n→∃ e ∈ l,e.t=t∧e.h=h)∧(-1000000≤lost∧lost≤1000000)) :
 Pure Try.prog 111 [.int .i64 t,.int .i64 h,.rptr [.int .i64 n] 0,.rptr [.rmap (Qv l)] 0,.rptr [.int .i64 need] 0,.rptr [.int .i64 lost] 0] (.int .i64 (toI l n need lost t h)):=Qq Try.func111 f111b fun E hE=>by
 refine f111W t h l n need lost (rv:=toI l n need lost t h) hE ⟨fun h1=>?_,fun h1=>⟨fun h2=>⟨by omega,by rw [toI,if_neg h1,if_pos h2]⟩,fun h2=>by rw [toI,if_neg h1,if_neg h2]⟩⟩
 obtain ⟨i,e,h2,h3⟩:=numAt_find (hh.1 h1)
 exact ⟨i,trivial,e,h2,by rw [toI,if_pos h1,h3]⟩
def opT (t h:Int):Bool:=true
theorem opT_ok (t h:Int):Pure Try.prog 67 [.int .i64 t,.int .i64 h] (.bool (opT t h)):=Qq Try.func67 f67b fun E hE=>f67W t h (rv:=opT t h) hE rfl
def wgT (p q t h:Int):Int × Int:=(p,q)
theorem wgT_ok (p q t h:Int):Pure Try.prog 68 [.int .i64 t,.int .i64 h,.rptr [.int .i64 p] 0,.rptr [.int .i64 q] 0] (.tup [.int .i64 (wgT p q t h).1,.int .i64 (wgT p q t h).2]):=Qq Try.func68 f68b fun E hE=>f68W t h p q (rv:=wgT p q t h) hE rfl
/-- The numbers of the tries of one row,and of all rows. -/
def rowN (op:Int→Int→Bool) (t:Nat):Nat→List Num→List Num
 | 0,l=>l
 | k+1,l=>if op t k=true then rowN op t k l++[⟨t,k,((rowN op t k l).length:Nat)⟩] else rowN op t k l
def QG (op:Int→Int→Bool):Nat→List Num
 | 0=>[]
 | t+1=>rowN op t (t+1) (QG op t)
theorem rowN_len {op:Int→Int→Bool} {t:Nat} {l:List Num}:∀ {k:Nat},(rowN op t k l).length≤l.length+k
 | 0=>by simp [rowN]
 | k+1=>by
  have:=rowN_len (op:=op) (t:=t) (l:=l) (k:=k)
  simp only [rowN]; split
  · simp; omega
  · omega
theorem nums_len {op:Int→Int→Bool}:∀ {t:Nat},t≤9→(QG op t).length≤10*t
 | 0,_=>by simp [QG]
 | t+1,h=>by
  have h1:=nums_len (op:=op) (t:=t) (by omega)
  have h2:=rowN_len (op:=op) (t:=t) (l:=QG op t) (k:=t+1)
  simp only [QG]; omega
/-- What is so of the numbers: 't' rows,and 'k' of the next one. -/
structure NumsOk (op:Int→Int→Bool) (t k:Nat) (l:List Num):Prop where
 at_:∀ (i:Nat) (e:Num),l[i]?=some e→e.v=(i:Int)
 mem:∀ e ∈ l,∃ a b:Nat,e.t=(a:Int)∧e.h=(b:Int)∧b≤a∧op a b=true∧(a<t ∨ (a=t∧b<k))
 all:∀ a b:Nat,b≤a→op a b=true→(a<t ∨ (a=t∧b<k))→∃ e ∈ l,e.t=(a:Int)∧e.h=(b:Int)
theorem yY {op:Int→Int→Bool} {t:Nat} {l:List Num} (h:NumsOk op t 0 l):∀ {k:Nat},k≤t+1→NumsOk op t k (rowN op t k l)
 | 0,_=>h
 | k+1,hk=>by
  have ih:=yY h (k:=k) (by omega)
  simp only [rowN]
  generalize rowN op t k l=l' at ih
  split
  · rename_i ho
    refine ⟨fun i e hi=>?_,fun e he=>?_,fun a b hab hop hlt=>?_⟩
    · rw [List.getElem?_append] at hi
      split at hi
      · exact ih.at_ i e hi
      · rename_i hge
        have hl:=(List.getElem?_eq_some_iff.1 hi).1
        simp at hl
        have:i=l'.length:=by omega
        subst this
        simp at hi; rw [← hi]
    · rcases List.mem_append.1 he with he | he
      · obtain ⟨a,b,h1,h2,h3,h4,h5⟩:=ih.mem e he
        exact ⟨a,b,h1,h2,h3,h4,by omega⟩
      · simp only [List.mem_singleton] at he; subst he
        exact ⟨t,k,rfl,rfl,by omega,ho,by omega⟩
    · by_cases e:a=t∧b=k
      · exact ⟨⟨t,k,(l'.length:Nat)⟩,by simp,by rw [e.1],by rw [e.2]⟩
      · obtain ⟨x,hx,h1⟩:=ih.all a b hab hop (by omega)
        exact ⟨x,by simp [hx],h1⟩
  · rename_i ho
    refine ⟨ih.at_,fun e he=>?_,fun a b hab hop hlt=>?_⟩
    · obtain ⟨a,b,h1,h2,h3,h4,h5⟩:=ih.mem e he
      exact ⟨a,b,h1,h2,h3,h4,by omega⟩
    · by_cases e:a=t∧b=k
      · rw [e.1,e.2] at hop; exact absurd hop ho
      · exact ih.all a b hab hop (by omega)
theorem nums_ok {op:Int→Int→Bool}:∀ {t:Nat},NumsOk op t 0 (QG op t)
 | 0=>⟨fun i e h=>by simp [QG] at h,fun e he=>by simp [QG] at he,fun a b _ _ h=>by omega⟩
 | t+1=>by
  have:=yY (nums_ok (op:=op) (t:=t)) (k:=t+1) (Nat.le_refl _)
  refine ⟨this.at_,fun e he=>?_,fun a b hab hop hlt=>?_⟩
  · obtain ⟨a,b,h1,h2,h3,h4,h5⟩:=this.mem e he
    exact ⟨a,b,h1,h2,h3,h4,by omega⟩
  · exact this.all a b hab hop (by omega)
def Vq (l:List Num) (wg:Int→Int→Int × Int) (n need:Int) (e:Num):Stg :=
 ⟨1,0,(if (wg e.t e.h).1 > 0 then [⟨(wg e.t e.h).1,toI l n need l.length (e.t+1) (e.h+1)⟩] else [])++(if (wg e.t e.h).2 > 0 then [⟨(wg e.t e.h).2,toI l n need l.length (e.t+1) e.h⟩] else [])⟩
def triesL (op:Int→Int→Bool) (wg:Int→Int→Int × Int) (n:Nat) (need:Int):List Stg:=(QG op n).map (Vq (QG op n) wg n need)++[⟨4,-1,[]⟩,⟨4,0,[]⟩]
def triesS (op:Int→Int→Bool) (wg:Int→Int→Int × Int) (n:Nat) (need:Int):Stl:=⟨triesL op wg n need,[0],0⟩
def Xb (op:Int→Int→Bool) (wg:Int→Int→Int × Int) (n:Nat) (need:Int):Stl × Int:=XI (triesS op wg n need)
theorem tries_end {op:Int→Int→Bool} {wg:Int→Int→Int × Int} {n:Nat} {need:Int} {v:List Stg} (hl:v.length=(QG op n).length+2) (h:∀ (s:Nat) (e:Num),(QG op n)[s]?=some e→v[s]?=some (Vq (QG op n) wg n need e)) :
 (v.set (QG op n).length ⟨4,-1,[]⟩).set ((QG op n).length+1) ⟨4,0,[]⟩=triesL op wg n need:=by
 apply List.ext_getElem?
 intro i
 rw [triesL]
 rcases Nat.lt_trichotomy i (QG op n).length with hi | hi | hi
 · rw [List.getElem?_set_ne (by omega),List.getElem?_set_ne (by omega),List.getElem?_append_left (by simpa using hi),List.getElem?_map]
   have he:(QG op n)[i]?=some (QG op n)[i]:=List.getElem?_eq_getElem hi
   rw [h i _ he,he]; rfl
 · subst hi
   rw [List.getElem?_set_ne (by omega),List.getElem?_set_self (by omega),List.getElem?_append_right (by simp)]
   simp
 · by_cases h1:i=(QG op n).length+1
   · subst h1
     rw [List.getElem?_set_self (by simp; omega),List.getElem?_append_right (by simp)]
     simp
   · rw [List.getElem?_eq_none (by simp; omega),List.getElem?_eq_none (by simp; omega)]
/-- Where a turn leads there is a stage. -/
def Leads (op:Int→Int→Bool) (wg:Int→Int→Int × Int) (n:Nat):Prop:=∀ a b:Nat,b≤a→op a b=true→(a:Int)+1<n→((wg a b).1 > 0→op (a+1:Nat) (b+1:Nat)=true)∧((wg a b).2 > 0→op (a+1:Nat) b=true)
theorem f66tb:Try.f66.body=some (Qe Try.prog 66):=by kernel_rfl
def f66tK0 (P:Program):List Item:=kAt 400 [.code (Qe P 66)] [.stop]
def f66tS0 (n:Int) (need:Int) (p q:Int) (i:Nat) (v3:List Num):St:=⟨([J,J,.clos 67 [] [],.clos 68 [] [.rptr [.int .i64 p] 0,.rptr [.int .i64 q] 0],.ptr 0 0 0,.ptr 1 0 0,J,J,.ptr 2 0 0,J,.ptr 4 0 0]++jj 13 ([.int .i64 n,.int .i64 (i:Int)]++Js 95)),[⟨true,0,1,true,[.int .i64 n],false⟩,⟨true,0,1,true,[.int .i64 need],false⟩,⟨true,0,1,true,[.nilSl,.nilSl,.int .i64 0],false⟩,⟨true,0,0,true,(Qv v3),false⟩,⟨true,0,1,false,[.mp 3 0 false],false⟩]⟩
def f66tG0 (E:Env) (n:Int) (need:Int) (p q:Int) (i:Nat) (v3:List Num):Prop:=G Try.prog E (f66tK0 Try.prog) (f66tS0 n need p q i v3 )
def qw (P:Program):List Item:=kAt 400 [.code (Qe P 66)] [.b true,.stop]
def f66tS1 (n:Int) (need:Int) (p q:Int) (k:Nat) (v3:List Num) (t:Nat) (k1:Nat) (k11:Nat):St:=⟨([J,J,.clos 67 [] [],.clos 68 [] [.rptr [.int .i64 p] 0,.rptr [.int .i64 q] 0],.ptr 0 0 0,.ptr 1 0 0,J,J,.ptr 2 0 0,J,.ptr 4 0 0,.int .i64 (t:Int)]++jj 12 ([.int .i64 n,.int .i64 (k1:Int),J,J,J,.int .i64 (k11:Int),.int .i64 (k:Int)]++Js 90)),[⟨true,0,1,true,[.int .i64 n],false⟩,⟨true,0,1,true,[.int .i64 need],false⟩,⟨true,0,1,true,[.nilSl,.nilSl,.int .i64 0],false⟩,⟨true,0,0,true,(Qv v3),false⟩,⟨true,0,1,false,[.mp 3 0 false],false⟩]⟩
def f66tG1 (E:Env) (n:Int) (need:Int) (p q:Int) (k:Nat) (v3:List Num) (t:Nat) (k1:Nat) (k11:Nat):Prop:=G Try.prog E (qw Try.prog) (f66tS1 n need p q k v3 t k1 k11 )
def Yv (P:Program):List Item:=kAt 400 [.code (Qe P 66)] [.b false,.stop]
def yG (n:Int) (need:Int) (p q:Int) (v9:List Nat) (v3:List Num) (v5_0:Nat) (v6:List Stg) (g6:Nat):St:=⟨([J,J,J,.clos 68 [] [.rptr [.int .i64 p] 0,.rptr [.int .i64 q] 0],J,J,J,J,.ptr 2 0 0,J,J,J,J,.ptr 5 0 0,.clos 111 [] [.ptr 0 0 0,.ptr 4 0 0,.ptr 1 0 0,.ptr 5 0 0],.ptr 8 0 0]++jj 38 ([.mp 9 0 true]++Js 66)),[⟨true,0,1,true,[.int .i64 n],false⟩,⟨true,0,1,true,[.int .i64 need],false⟩,⟨true,0,1,true,[.nilSl,.nilSl,.int .i64 0],false⟩,⟨true,0,0,true,(Qv v3),false⟩,⟨true,0,1,false,[.mp 3 0 false],false⟩,⟨true,0,1,true,[.int .i64 (v5_0:Int)],false⟩,⟨true,g6,3,true,(Qd v6),true⟩,⟨true,0,1,true,[.int .i64 0],true⟩,⟨true,0,1,false,[.sl 6 g6 0 v6.length 3,.sl 7 0 0 1 1,.int .i64 0],false⟩,⟨true,0,0,false,(itA (.mp 3 0 false) (Qv v3).length v9),false⟩]⟩
def VC (E:Env) (n:Int) (need:Int) (p q:Int) (v9:List Nat) (v3:List Num) (v5_0:Nat) (v6:List Stg):Prop:=∀ g6:Nat,G Try.prog E (Yv Try.prog) (yG n need p q v9 v3 v5_0 v6 g6)
def f66tG2n (E:Env) (n:Int) (need:Int) (p q:Int) (v9:List Nat) (v3:List Num) (v5_0:Nat) (v6:List Stg) (s:Nat):Prop:=∀ g6:Nat,G Try.prog E (qj (Yv Try.prog)) ⟨([J,J,J,.clos 68 [] [.rptr [.int .i64 p] 0,.rptr [.int .i64 q] 0],J,J,J,J,.ptr 2 0 0,J,J,J,J,.ptr 5 0 0,.clos 111 [] [.ptr 0 0 0,.ptr 4 0 0,.ptr 1 0 0,.ptr 5 0 0],.ptr 8 0 0]++jj 38 ([.mp 9 0 true,.tup [.bool true,J,J]]++Js 65)),[⟨true,0,1,true,[.int .i64 n],false⟩,⟨true,0,1,true,[.int .i64 need],false⟩,⟨true,0,1,true,[.nilSl,.nilSl,.int .i64 0],false⟩,⟨true,0,0,true,(Qv v3),false⟩,⟨true,0,1,false,[.mp 3 0 false],false⟩,⟨true,0,1,true,[.int .i64 (v5_0:Int)],false⟩,⟨true,g6,3,true,(Qd v6),true⟩,⟨true,0,1,true,[.int .i64 0],true⟩,⟨true,0,1,false,[.sl 6 g6 0 v6.length 3,.sl 7 0 0 1 1,.int .i64 0],false⟩,⟨true,0,0,false,(itA (.mp 3 0 false) (Qv v3).length (v9++[s])),false⟩]⟩
def f66tG2x (E:Env) (n:Int) (need:Int) (p q:Int) (v9:List Nat) (v3:List Num) (v5_0:Nat) (v6:List Stg):Prop:=∀ g6:Nat,G Try.prog E (qj (Yv Try.prog)) ⟨([J,J,J,.clos 68 [] [.rptr [.int .i64 p] 0,.rptr [.int .i64 q] 0],J,J,J,J,.ptr 2 0 0,J,J,J,J,.ptr 5 0 0,.clos 111 [] [.ptr 0 0 0,.ptr 4 0 0,.ptr 1 0 0,.ptr 5 0 0],.ptr 8 0 0]++jj 38 ([.mp 9 0 true,.tup [.bool false]]++Js 65)),[⟨true,0,1,true,[.int .i64 n],false⟩,⟨true,0,1,true,[.int .i64 need],false⟩,⟨true,0,1,true,[.nilSl,.nilSl,.int .i64 0],false⟩,⟨true,0,0,true,(Qv v3),false⟩,⟨true,0,1,false,[.mp 3 0 false],false⟩,⟨true,0,1,true,[.int .i64 (v5_0:Int)],false⟩,⟨true,g6,3,true,(Qd v6),true⟩,⟨true,0,1,true,[.int .i64 0],true⟩,⟨true,0,1,false,[.sl 6 g6 0 v6.length 3,.sl 7 0 0 1 1,.int .i64 0],false⟩,⟨true,0,0,false,(itA (.mp 3 0 false) (Qv v3).length v9),false⟩]⟩
abbrev Vl (p:Int) (q:Int):List AV:=[J,J,J,.clos 68 [] [.rptr [.int .i64 p] 0,.rptr [.int .i64 q] 0],J,J,J,J,.ptr 2 0 0,J,J,J,J,.ptr 5 0 0,.clos 111 [] [.ptr 0 0 0,.ptr 4 0 0,.ptr 1 0 0,.ptr 5 0 0],.ptr 8 0 0]
abbrev XS (v3:List Num) (v9:List Nat) (s:Nat):=itA (.mp 3 0 false) (Qv v3).length (v9++[s])
abbrev WQ (g6:Nat) (v6:List Stg):List AV:=[.sl 6 g6 0 v6.length 3,.sl 7 0 0 1 1,.int .i64 0]
abbrev z66t_2 (n:Int) (need:Int) (v3:List Num) (v5_0:Nat) (g6:Nat) (v6:List Stg) (v9:List Nat) (s:Nat):List Blk:=[⟨true,0,1,true,[.int .i64 n],false⟩,⟨true,0,1,true,[.int .i64 need],false⟩,⟨true,0,1,true,[.nilSl,.nilSl,.int .i64 0],false⟩,⟨true,0,0,true,(Qv v3),false⟩,⟨true,0,1,false,[.mp 3 0 false],false⟩,⟨true,0,1,true,[.int .i64 (v5_0:Int)],false⟩,⟨true,g6,3,true,(Qd v6),true⟩,⟨true,0,1,true,[.int .i64 0],true⟩,⟨true,0,1,false,(WQ g6 v6),false⟩,⟨true,0,0,false,(XS v3 v9 s),false⟩]
abbrev Wj (p:Int) (q:Int) (ne:Num):AV:=.tup [.int .i64 ((wgT p q ne.t ne.h).1),.int .i64 ((wgT p q ne.t ne.h).2)]
abbrev z66t_5 (n:Int) (need:Int) (v3:List Num):List Blk:=[⟨true,0,1,true,[.int .i64 n],false⟩,⟨true,0,1,true,[.int .i64 need],false⟩,⟨true,0,1,true,[.nilSl,.nilSl,.int .i64 0],false⟩,⟨true,0,0,true,(Qv v3),false⟩,⟨true,0,1,false,[.mp 3 0 false],false⟩]
abbrev z66t_6 (n:Int) (v3:List Num) (need:Int) (v5_0:Nat):AV:=.clos 111 [] [.rptr [.int .i64 n] 0,.rptr [.rmap (Qv v3)] 0,.rptr [.int .i64 need] 0,.rptr [.int .i64 (v5_0:Int)] 0]
abbrev z66t_7 (ne:Num):AV:=.clos 0 [.agg [.int .i64 ne.t,.int .i64 ne.h]] [.int .i64 ne.v]
abbrev z66t_8:List AV:=[.mp 9 0 true,.tup [.bool true,J,J]]++Js 65
abbrev z66t_9 (p:Int) (q:Int):AV:=.clos 68 [] [.rptr [.int .i64 p] 0,.rptr [.int .i64 q] 0]
abbrev z66t_11 (p:Int) (q:Int):List AV:=[J,J,.clos 67 [] [],.clos 68 [] [.rptr [.int .i64 p] 0,.rptr [.int .i64 q] 0],.ptr 0 0 0,.ptr 1 0 0,J,J,.ptr 2 0 0,J,.ptr 4 0 0]
theorem p66t_start_0 (n:Int) (need:Int) (p q:Int) {E:Env} {rv:AV} (hE:Qf Try.prog 66 rv E) (ho:AllP [1≤1])
 (hg:G Try.prog E (f66tK0 Try.prog) ⟨((z66t_11 p q)++jj 13 ([.int .i64 n,.int .i64 0]++Js 95)),[⟨true,0,1,true,[.int .i64 n],false⟩,⟨true,0,1,true,[.int .i64 need],false⟩,⟨true,0,1,true,[.nilSl,.nilSl,.int .i64 0],false⟩,⟨true,0,0,true,[],false⟩,⟨true,0,1,false,[.mp 3 0 false],false⟩]⟩):G Try.prog E [.code (Qe Try.prog 66)] ⟨[.int .i64 n,.int .i64 need,.clos 67 [] [],.clos 68 [] [.rptr [.int .i64 p] 0,.rptr [.int .i64 q] 0]]++unds (Try.f66.ntmps - 4),[]⟩ :=
 Qh (n:=400) (ds:=[]) (cs:=[]) (live:=[2,3,4,5,8,10,24,25]) (m:=5) (evs:=[.stop]) (obs:=_) hE.2.1 (hE.nogh _) Qi (by kernel_rfl) ho hg
theorem f66tW (n:Int) (need:Int) (p q:Int) {E:Env} {rv:(Stl × Int)} (hE:Qf Try.prog 66 (.tup [.agg [.rsl (Qd rv.1.stages) 0 rv.1.stages.length,.rsl (rowI rv.1.worth) 0 rv.1.worth.length,.int .i64 rv.1.price],.int .i64 rv.2]) E)
 (h:f66tG0 E n need p q 0 ([])):G Try.prog E [.code (Qe Try.prog 66)] ⟨[.int .i64 n,.int .i64 need,.clos 67 [] [],.clos 68 [] [.rptr [.int .i64 p] 0,.rptr [.int .i64 q] 0]]++unds (Try.f66.ntmps - 4),[]⟩:=by
 exact p66t_start_0 n need p q hE ⟨(by decide),trivial⟩ h
theorem p66t_0_0 (n:Int) (need:Int) (p q:Int) (i:Nat) (v3:List Num) {E:Env} {rv:AV} (hE:Qf Try.prog 66 rv E) (ho:AllP [(decide ((i:Int)<n))=true,InR .i64 ((i:Int)+1)])
 (hg:G Try.prog E (qw Try.prog) ⟨([J,J,.clos 67 [] [],.clos 68 [] [.rptr [.int .i64 p] 0,.rptr [.int .i64 q] 0],.ptr 0 0 0,.ptr 1 0 0,J,J,.ptr 2 0 0,J,.ptr 4 0 0,.int .i64 (i:Int)]++jj 12 ([.int .i64 n,.int .i64 (i:Int),J,J,J,.int .i64 ((i:Int)+1),.int .i64 0]++Js 90)),(z66t_5 n need v3)⟩):G Try.prog E (f66tK0 Try.prog) (f66tS0 n need p q i v3 ) :=
 Qh (n:=400) (ds:=[]) (cs:=[]) (live:=[2,3,4,5,8,10,11,24,25,29,30]) (m:=5) (evs:=[.b true,.stop]) (obs:=_) hE.2.1 (hE.nogh _) Qi (by kernel_rfl) ho hg
theorem p66t_0_1 (n:Int) (need:Int) (p q:Int) (i:Nat) (v3:List Num) {E:Env} {rv:AV} (hE:Qf Try.prog 66 rv E) (ho:AllP [(decide ((i:Int)<n))=false,1≤1,InR .i64 (((((Qv v3)).length:Nat):Int)+2),0≤(((((Qv v3)).length:Nat):Int)+2)∧(((((Qv v3)).length:Nat):Int)+2)≤(((((Qv v3)).length:Nat):Int)+2)∧(((((Qv v3)).length:Nat):Int)+2)≤2147483648,3≤3])
 (hg:G Try.prog E (Yv Try.prog) ⟨((Vl p q)++jj 38 ([.mp 9 0 true]++Js 66)),[⟨true,0,1,true,[.int .i64 n],false⟩,⟨true,0,1,true,[.int .i64 need],false⟩,⟨true,0,1,true,[.nilSl,.nilSl,.int .i64 0],false⟩,⟨true,0,0,true,(Qv v3),false⟩,⟨true,0,1,false,[.mp 3 0 false],false⟩,⟨true,0,1,true,[.int .i64 ((((Qv v3)).length:Nat):Int)],false⟩,⟨true,0,3,true,((List.replicate (Int.toNat (((((Qv v3)).length:Nat):Int)+2)) ([.int .i64 0,.int .i64 0,.nilSl]:List AV)).flatten),true⟩,⟨true,0,1,true,[.int .i64 0],true⟩,⟨true,0,1,false,[.sl 6 0 0 (Int.toNat (((((Qv v3)).length:Nat):Int)+2)) 3,.sl 7 0 0 1 1,.int .i64 0],false⟩,⟨true,0,0,false,(itA (.mp 3 0 false) (Qv v3).length ([]:List Nat)),false⟩]⟩):G Try.prog E (f66tK0 Try.prog) (f66tS0 n need p q i v3 ) :=
 Qh (n:=400) (ds:=[]) (cs:=[]) (live:=[3,8,13,14,15,54]) (m:=10) (evs:=[.b false,.stop]) (obs:=_) hE.2.1 (hE.nogh _) Qi (by kernel_rfl) ho hg
theorem f66tW0 (n:Int) (need:Int) (p q:Int) (i:Nat) (v3:List Num) {E:Env} {rv:(Stl × Int)} (hE:Qf Try.prog 66 (.tup [.agg [.rsl (Qd rv.1.stages) 0 rv.1.stages.length,.rsl (rowI rv.1.worth) 0 rv.1.worth.length,.int .i64 rv.1.price],.int .i64 rv.2]) E)
 (h:(((i:Int)<n→((I6 ((i:Int)+1))∧f66tG1 E n need p q 0 v3 i i (i+1)))∧(¬ ((i:Int)<n)→((I6 (((((Qv v3)).length:Nat):Int)+2))∧(((((Qv v3)).length)+2)≤2147483648∧VC E n need p q ([]:List Nat) v3 (((Qv v3)).length) (List.replicate ((((Qv v3)).length)+2) ((⟨0,0,([]:List Trn)⟩:Stg):Stg))))))):f66tG0 E n need p q i v3:=by
 rcases bft (decide ((i:Int)<n)) with hc0 | hc0
 · have h:=h.1 (odt hc0)
   obtain ⟨q1_1,h⟩:=h
   exact p66t_0_0 n need p q i v3 hE ⟨hc0,q1_1,trivial⟩ h
 · have h:=h.2 (odf hc0)
   obtain ⟨q2_1,h⟩:=h
   obtain ⟨h1,h⟩:=h
   refine p66t_0_1 n need p q i v3 hE ⟨hc0,(by decide),q2_1,⟨by omega,by omega,by have:=h1; omega⟩,(by decide),trivial⟩ ?_
   refine weakB_step (k:=6) (cells':=(Qd (List.replicate ((((Qv v3)).length)+2) ((⟨0,0,([]:List Trn)⟩:Stg):Stg)))) rfl rfl (by simp) rfl (by have hx:=YH.rep (n:=((((Qv v3)).length)+2)) (show YH [.int .i64 0,.int .i64 0,.nilSl] (cStg ((⟨0,0,([]:List Trn)⟩:Stg):Stg)) from ⟨AvLe.of_eq rfl,rfl,rfl,⟨AvLe.of_eq rfl,rfl,rfl,⟨XN,rfl,rfl,trivial⟩⟩⟩); rw [show (List.replicate ((((Qv v3)).length)+2) (cStg ((⟨0,0,([]:List Trn)⟩:Stg):Stg))).flatten=Qd (List.replicate ((((Qv v3)).length)+2) ((⟨0,0,([]:List Trn)⟩:Stg):Stg)) from WY cStg _ _] at hx; exact hx) ?_
   simp only [List.set_cons_succ,List.set_cons_zero]
   have h:=(h 0)
   simp only [VC,yG,List.length_set,List.length_replicate] at h
   skip
   exact h
theorem p66t_1_0 (n:Int) (need:Int) (p q:Int) (k:Nat) (v3:List Num) (t:Nat) (k1:Nat) (k11:Nat) {E:Env} {rv:AV} (hE:Qf Try.prog 66 rv E) (ho:AllP [(decide ((k:Int)<(k11:Int)))=true,Qg Try.prog (.clos 67 [] []) [.int .i64 (t:Int),.int .i64 (k:Int)] (.bool (opT (t:Int) (k:Int))),(opT (t:Int) (k:Int))=true,Wt Try.prog 34 (.agg [.int .i64 (t:Int),.int .i64 (k:Int)]) (Qv v3),InR .i64 ((k:Int)+1)])
 (hg:G Try.prog E (qw Try.prog) ⟨([J,J,.clos 67 [] [],.clos 68 [] [.rptr [.int .i64 p] 0,.rptr [.int .i64 q] 0],.ptr 0 0 0,.ptr 1 0 0,J,J,.ptr 2 0 0,J,.ptr 4 0 0,.int .i64 (t:Int)]++jj 12 ([.int .i64 n,.int .i64 (k1:Int),J,J,J,.int .i64 (k11:Int),.int .i64 ((k:Int)+1)]++Js 90)),[⟨true,0,1,true,[.int .i64 n],false⟩,⟨true,0,1,true,[.int .i64 need],false⟩,⟨true,0,1,true,[.nilSl,.nilSl,.int .i64 0],false⟩,⟨true,0,0,true,((Qv v3)++[.clos 0 [.agg [.int .i64 (t:Int),.int .i64 (k:Int)]] [.int .i64 ((((Qv v3)).length:Nat):Int)]]),false⟩,⟨true,0,1,false,[.mp 3 0 false],false⟩]⟩):G Try.prog E (qw Try.prog) (f66tS1 n need p q k v3 t k1 k11 ) :=
 Qh (n:=400) (ds:=[]) (cs:=[]) (live:=[2,3,4,5,8,10,11,24,25,29,30]) (m:=5) (evs:=[.b true,.v (.bool (opT (t:Int) (k:Int))),.b true,.stop]) (obs:=_) hE.2.1 (hE.nogh _) Qi (by kernel_rfl) ho hg
theorem p66t_1_1 (n:Int) (need:Int) (p q:Int) (k:Nat) (v3:List Num) (t:Nat) (k1:Nat) (k11:Nat) {E:Env} {rv:AV} (hE:Qf Try.prog 66 rv E) (ho:AllP [(decide ((k:Int)<(k11:Int)))=true,Qg Try.prog (.clos 67 [] []) [.int .i64 (t:Int),.int .i64 (k:Int)] (.bool (opT (t:Int) (k:Int))),(opT (t:Int) (k:Int))=false,InR .i64 ((k:Int)+1)])
 (hg:G Try.prog E (qw Try.prog) ⟨([J,J,.clos 67 [] [],.clos 68 [] [.rptr [.int .i64 p] 0,.rptr [.int .i64 q] 0],.ptr 0 0 0,.ptr 1 0 0,J,J,.ptr 2 0 0,J,.ptr 4 0 0,.int .i64 (t:Int)]++jj 12 ([.int .i64 n,.int .i64 (k1:Int),J,J,J,.int .i64 (k11:Int),.int .i64 ((k:Int)+1)]++Js 90)),(z66t_5 n need v3)⟩):G Try.prog E (qw Try.prog) (f66tS1 n need p q k v3 t k1 k11 ) :=
 Qh (n:=400) (ds:=[]) (cs:=[]) (live:=[2,3,4,5,8,10,11,24,25,29,30]) (m:=5) (evs:=[.b true,.v (.bool (opT (t:Int) (k:Int))),.b false,.stop]) (obs:=_) hE.2.1 (hE.nogh _) Qi (by kernel_rfl) ho hg
theorem p66t_1_2 (n:Int) (need:Int) (p q:Int) (k:Nat) (v3:List Num) (t:Nat) (k1:Nat) (k11:Nat) {E:Env} {rv:AV} (hE:Qf Try.prog 66 rv E) (ho:AllP [(decide ((k:Int)<(k11:Int)))=false,InR .i64 ((k1:Int)+1)])
 (hg:G Try.prog E (f66tK0 Try.prog) ⟨((z66t_11 p q)++jj 13 ([.int .i64 n,.int .i64 ((k1:Int)+1)]++Js 95)),(z66t_5 n need v3)⟩):G Try.prog E (qw Try.prog) (f66tS1 n need p q k v3 t k1 k11 ) :=
 Qh (n:=400) (ds:=[]) (cs:=[]) (live:=[2,3,4,5,8,10,24,25]) (m:=5) (evs:=[.b false,.stop]) (obs:=_) hE.2.1 (hE.nogh _) Qi (by kernel_rfl) ho hg
theorem f66tW1 (n:Int) (need:Int) (p q:Int) (k:Nat) (v3:List Num) (t:Nat) (k1:Nat) (k11:Nat) {E:Env} {rv:(Stl × Int)} (hE:Qf Try.prog 66 (.tup [.agg [.rsl (Qd rv.1.stages) 0 rv.1.stages.length,.rsl (rowI rv.1.worth) 0 rv.1.worth.length,.int .i64 rv.1.price],.int .i64 rv.2]) E)
 (h:(((k:Int)<(k11:Int)→(((opT (t:Int) (k:Int))=true→((∀ e ∈ v3,¬ (e.t=(t:Int)∧e.h=(k:Int)))∧((I6 ((k:Int)+1))∧f66tG1 E n need p q (k+1) (v3++[(⟨(t:Int),(k:Int),((((Qv v3)).length:Nat):Int)⟩:Num)]) t k1 k11)))∧((opT (t:Int) (k:Int))=false→((I6 ((k:Int)+1))∧f66tG1 E n need p q (k+1) v3 t k1 k11))))∧(¬ ((k:Int)<(k11:Int))→((I6 ((k1:Int)+1))∧f66tG0 E n need p q (k1+1) v3)))):f66tG1 E n need p q k v3 t k1 k11:=by
 rcases bft (decide ((k:Int)<(k11:Int))) with hc0 | hc0
 · have h:=h.1 (odt hc0)
   rcases bft (opT (t:Int) (k:Int)) with hc1 | hc1
   · have h:=h.1 hc1
     obtain ⟨h1,h⟩:=h
     obtain ⟨q4_2,h⟩:=h
     refine p66t_1_0 n need p q k v3 t k1 k11 hE ⟨hc0,(u67 (opT_ok (t:Int) (k:Int))),hc1,(yz h1),q4_2,trivial⟩ ?_
     rw [(show Qv v3++[.clos 0 [.agg [.int .i64 (t:Int),.int .i64 (k:Int)]] [.int .i64 ((((Qv v3)).length:Nat):Int)]]=Qv (v3++[(⟨(t:Int),(k:Int),((((Qv v3)).length:Nat):Int)⟩:Num)]) from (YO cNum v3 [(⟨(t:Int),(k:Int),((((Qv v3)).length:Nat):Int)⟩:Num)]).symm)]; exact h
   · have h:=h.2 hc1
     obtain ⟨q3_2,h⟩:=h
     exact p66t_1_1 n need p q k v3 t k1 k11 hE ⟨hc0,(u67 (opT_ok (t:Int) (k:Int))),hc1,q3_2,trivial⟩ h
 · have h:=h.2 (odf hc0)
   obtain ⟨q1_1,h⟩:=h
   exact p66t_1_2 n need p q k v3 t k1 k11 hE ⟨hc0,q1_1,trivial⟩ h
theorem p66t_2n_0 (n:Int) (need:Int) (p q:Int) (v9:List Nat) (v3:List Num) (v5_0:Nat) (v6:List Stg) (s:Nat) (g6:Nat) (ne:Num) (se:Stg) {E:Env} {rv:AV} (hE:Qf Try.prog 66 rv E) (ho:AllP [true=true,(XS v3 v9 s).getLast?=some (.int .i64 s),(XS v3 v9 s)[1]?=some (.int .i64 (Qv v3).length),2<(XS v3 v9 s).length,(Qv v3)[s]?=some (z66t_7 ne),2≤2,(0:Int)≤0∧(0:Int)<((2:Nat):Int),(0:Int)≤1∧(1:Int)<((2:Nat):Int),3≤3,Qg Try.prog (z66t_9 p q) [.int .i64 ne.t,.int .i64 ne.h] (Wj p q ne),(decide ((wgT p q ne.t ne.h).1 > 0))=true,InR .i64 (ne.t+1),InR .i64 (ne.h+1),Qg Try.prog (z66t_6 n v3 need v5_0) [.int .i64 (ne.t+1),.int .i64 (ne.h+1)] (.int .i64 (toI v3 n need (v5_0:Int) (ne.t+1) (ne.h+1))),1≤2147483648,0=0,3≤3,(decide ((wgT p q ne.t ne.h).2 > 0))=true,InR .i64 (ne.t+1),Qg Try.prog (z66t_6 n v3 need v5_0) [.int .i64 (ne.t+1),.int .i64 ne.h] (.int .i64 (toI v3 n need (v5_0:Int) (ne.t+1) ne.h)),0=0,2=2,2≤2147483648,0=0,3≤3,1=1,0≤ne.v∧ne.v<(v6.length:Int),g6=g6,((0+(Int.toNat ne.v)*3)+3)≤(Qd v6).length,g6=g6])
 (hg:G Try.prog E (Yv Try.prog) ⟨((Vl p q)++jj 38 ([.mp 9 0 true]++Js 66)),[⟨true,0,1,true,[.int .i64 n],false⟩,⟨true,0,1,true,[.int .i64 need],false⟩,⟨true,0,1,true,[.nilSl,.nilSl,.int .i64 0],false⟩,⟨true,0,0,true,(Qv v3),false⟩,⟨true,0,1,false,[.mp 3 0 false],false⟩,⟨true,0,1,true,[.int .i64 (v5_0:Int)],false⟩,⟨true,g6,3,true,(QD (Qd v6) (0+(Int.toNat ne.v)*3) [.int .i64 1,.int .i64 0,.rsl [.int .i64 ((wgT p q ne.t ne.h).1),.int .i64 (toI v3 n need (v5_0:Int) (ne.t+1) (ne.h+1)),.int .i64 ((wgT p q ne.t ne.h).2),.int .i64 (toI v3 n need (v5_0:Int) (ne.t+1) ne.h)] 0 2]),true⟩,⟨true,0,1,true,[.int .i64 0],true⟩,⟨true,0,1,false,(WQ g6 v6),false⟩,⟨true,0,0,false,(XS v3 v9 s),false⟩]⟩):G Try.prog E (qj (Yv Try.prog)) ⟨((Vl p q)++jj 38 z66t_8),(z66t_2 n need v3 v5_0 g6 v6 v9 s)⟩ :=
 Qh (n:=400) (ds:=[]) (cs:=[]) (live:=[3,8,13,14,15,54]) (m:=10) (evs:=[.b true,.ment s (.agg [.int .i64 ne.t,.int .i64 ne.h]) (.int .i64 ne.v),.v (Wj p q ne),.b true,.v (.int .i64 (toI v3 n need (v5_0:Int) (ne.t+1) (ne.h+1))),.b true,.v (.int .i64 (toI v3 n need (v5_0:Int) (ne.t+1) ne.h)),.frz 11 2,.stop]) (obs:=_) hE.2.1 (hE.nogh _) Qi (by kernel_rfl) ho hg
theorem p66t_2n_1 (n:Int) (need:Int) (p q:Int) (v9:List Nat) (v3:List Num) (v5_0:Nat) (v6:List Stg) (s:Nat) (g6:Nat) (ne:Num) (se:Stg) {E:Env} {rv:AV} (hE:Qf Try.prog 66 rv E) (ho:AllP [true=true,(XS v3 v9 s).getLast?=some (.int .i64 s),(XS v3 v9 s)[1]?=some (.int .i64 (Qv v3).length),2<(XS v3 v9 s).length,(Qv v3)[s]?=some (z66t_7 ne),2≤2,(0:Int)≤0∧(0:Int)<((2:Nat):Int),(0:Int)≤1∧(1:Int)<((2:Nat):Int),3≤3,Qg Try.prog (z66t_9 p q) [.int .i64 ne.t,.int .i64 ne.h] (Wj p q ne),(decide ((wgT p q ne.t ne.h).1 > 0))=true,InR .i64 (ne.t+1),InR .i64 (ne.h+1),Qg Try.prog (z66t_6 n v3 need v5_0) [.int .i64 (ne.t+1),.int .i64 (ne.h+1)] (.int .i64 (toI v3 n need (v5_0:Int) (ne.t+1) (ne.h+1))),1≤2147483648,0=0,3≤3,(decide ((wgT p q ne.t ne.h).2 > 0))=false,0=0,0≤ne.v∧ne.v<(v6.length:Int),g6=g6,((0+(Int.toNat ne.v)*3)+3)≤(Qd v6).length,g6=g6])
 (hg:G Try.prog E (Yv Try.prog) ⟨((Vl p q)++jj 38 ([.mp 9 0 true]++Js 66)),[⟨true,0,1,true,[.int .i64 n],false⟩,⟨true,0,1,true,[.int .i64 need],false⟩,⟨true,0,1,true,[.nilSl,.nilSl,.int .i64 0],false⟩,⟨true,0,0,true,(Qv v3),false⟩,⟨true,0,1,false,[.mp 3 0 false],false⟩,⟨true,0,1,true,[.int .i64 (v5_0:Int)],false⟩,⟨true,g6,3,true,(QD (Qd v6) (0+(Int.toNat ne.v)*3) [.int .i64 1,.int .i64 0,.rsl [.int .i64 ((wgT p q ne.t ne.h).1),.int .i64 (toI v3 n need (v5_0:Int) (ne.t+1) (ne.h+1))] 0 1]),true⟩,⟨true,0,1,true,[.int .i64 0],true⟩,⟨true,0,1,false,(WQ g6 v6),false⟩,⟨true,0,0,false,(XS v3 v9 s),false⟩]⟩):G Try.prog E (qj (Yv Try.prog)) ⟨((Vl p q)++jj 38 z66t_8),(z66t_2 n need v3 v5_0 g6 v6 v9 s)⟩ :=
 Qh (n:=400) (ds:=[]) (cs:=[]) (live:=[3,8,13,14,15,54]) (m:=10) (evs:=[.b true,.ment s (.agg [.int .i64 ne.t,.int .i64 ne.h]) (.int .i64 ne.v),.v (Wj p q ne),.b true,.v (.int .i64 (toI v3 n need (v5_0:Int) (ne.t+1) (ne.h+1))),.b false,.frz 11 2,.stop]) (obs:=_) hE.2.1 (hE.nogh _) Qi (by kernel_rfl) ho hg
theorem p66t_2n_2 (n:Int) (need:Int) (p q:Int) (v9:List Nat) (v3:List Num) (v5_0:Nat) (v6:List Stg) (s:Nat) (g6:Nat) (ne:Num) (se:Stg) {E:Env} {rv:AV} (hE:Qf Try.prog 66 rv E) (ho:AllP [true=true,(XS v3 v9 s).getLast?=some (.int .i64 s),(XS v3 v9 s)[1]?=some (.int .i64 (Qv v3).length),2<(XS v3 v9 s).length,(Qv v3)[s]?=some (z66t_7 ne),2≤2,(0:Int)≤0∧(0:Int)<((2:Nat):Int),(0:Int)≤1∧(1:Int)<((2:Nat):Int),3≤3,Qg Try.prog (z66t_9 p q) [.int .i64 ne.t,.int .i64 ne.h] (Wj p q ne),(decide ((wgT p q ne.t ne.h).1 > 0))=false,(decide ((wgT p q ne.t ne.h).2 > 0))=true,InR .i64 (ne.t+1),Qg Try.prog (z66t_6 n v3 need v5_0) [.int .i64 (ne.t+1),.int .i64 ne.h] (.int .i64 (toI v3 n need (v5_0:Int) (ne.t+1) ne.h)),1≤2147483648,0=0,3≤3,0=0,0≤ne.v∧ne.v<(v6.length:Int),g6=g6,((0+(Int.toNat ne.v)*3)+3)≤(Qd v6).length,g6=g6])
 (hg:G Try.prog E (Yv Try.prog) ⟨((Vl p q)++jj 38 ([.mp 9 0 true]++Js 66)),[⟨true,0,1,true,[.int .i64 n],false⟩,⟨true,0,1,true,[.int .i64 need],false⟩,⟨true,0,1,true,[.nilSl,.nilSl,.int .i64 0],false⟩,⟨true,0,0,true,(Qv v3),false⟩,⟨true,0,1,false,[.mp 3 0 false],false⟩,⟨true,0,1,true,[.int .i64 (v5_0:Int)],false⟩,⟨true,g6,3,true,(QD (Qd v6) (0+(Int.toNat ne.v)*3) [.int .i64 1,.int .i64 0,.rsl [.int .i64 ((wgT p q ne.t ne.h).2),.int .i64 (toI v3 n need (v5_0:Int) (ne.t+1) ne.h)] 0 1]),true⟩,⟨true,0,1,true,[.int .i64 0],true⟩,⟨true,0,1,false,(WQ g6 v6),false⟩,⟨true,0,0,false,(XS v3 v9 s),false⟩]⟩):G Try.prog E (qj (Yv Try.prog)) ⟨((Vl p q)++jj 38 z66t_8),(z66t_2 n need v3 v5_0 g6 v6 v9 s)⟩ :=
 Qh (n:=400) (ds:=[]) (cs:=[]) (live:=[3,8,13,14,15,54]) (m:=10) (evs:=[.b true,.ment s (.agg [.int .i64 ne.t,.int .i64 ne.h]) (.int .i64 ne.v),.v (Wj p q ne),.b false,.b true,.v (.int .i64 (toI v3 n need (v5_0:Int) (ne.t+1) ne.h)),.frz 11 2,.stop]) (obs:=_) hE.2.1 (hE.nogh _) Qi (by kernel_rfl) ho hg
theorem p66t_2n_3 (n:Int) (need:Int) (p q:Int) (v9:List Nat) (v3:List Num) (v5_0:Nat) (v6:List Stg) (s:Nat) (g6:Nat) (ne:Num) (se:Stg) {E:Env} {rv:AV} (hE:Qf Try.prog 66 rv E) (ho:AllP [true=true,(XS v3 v9 s).getLast?=some (.int .i64 s),(XS v3 v9 s)[1]?=some (.int .i64 (Qv v3).length),2<(XS v3 v9 s).length,(Qv v3)[s]?=some (z66t_7 ne),2≤2,(0:Int)≤0∧(0:Int)<((2:Nat):Int),(0:Int)≤1∧(1:Int)<((2:Nat):Int),3≤3,Qg Try.prog (z66t_9 p q) [.int .i64 ne.t,.int .i64 ne.h] (Wj p q ne),(decide ((wgT p q ne.t ne.h).1 > 0))=false,(decide ((wgT p q ne.t ne.h).2 > 0))=false,0≤ne.v∧ne.v<(v6.length:Int),g6=g6,((0+(Int.toNat ne.v)*3)+3)≤(Qd v6).length,g6=g6])
 (hg:G Try.prog E (Yv Try.prog) ⟨((Vl p q)++jj 38 ([.mp 9 0 true]++Js 66)),[⟨true,0,1,true,[.int .i64 n],false⟩,⟨true,0,1,true,[.int .i64 need],false⟩,⟨true,0,1,true,[.nilSl,.nilSl,.int .i64 0],false⟩,⟨true,0,0,true,(Qv v3),false⟩,⟨true,0,1,false,[.mp 3 0 false],false⟩,⟨true,0,1,true,[.int .i64 (v5_0:Int)],false⟩,⟨true,g6,3,true,(QD (Qd v6) (0+(Int.toNat ne.v)*3) [.int .i64 1,.int .i64 0,.rsl [] 0 0]),true⟩,⟨true,0,1,true,[.int .i64 0],true⟩,⟨true,0,1,false,(WQ g6 v6),false⟩,⟨true,0,0,false,(XS v3 v9 s),false⟩]⟩):G Try.prog E (qj (Yv Try.prog)) ⟨((Vl p q)++jj 38 z66t_8),(z66t_2 n need v3 v5_0 g6 v6 v9 s)⟩ :=
 Qh (n:=400) (ds:=[]) (cs:=[]) (live:=[3,8,13,14,15,54]) (m:=10) (evs:=[.b true,.ment s (.agg [.int .i64 ne.t,.int .i64 ne.h]) (.int .i64 ne.v),.v (Wj p q ne),.b false,.b false,.frz 11 2,.stop]) (obs:=_) hE.2.1 (hE.nogh _) Qi (by kernel_rfl) ho hg
theorem f66tW2n (n:Int) (need:Int) (p q:Int) (v9:List Nat) (v3:List Num) (v5_0:Nat) (v6:List Stg) (s:Nat) {E:Env} {rv:(Stl × Int)} (hE:Qf Try.prog 66 (.tup [.agg [.rsl (Qd rv.1.stages) 0 rv.1.stages.length,.rsl (rowI rv.1.worth) 0 rv.1.worth.length,.int .i64 rv.1.price],.int .i64 rv.2]) E)
 (h:(∃ ne:Num,v3[s]?=some ne∧(((wgT p q ne.t ne.h).1 > 0→((I6 (ne.t+1))∧((I6 (ne.h+1))∧((((ne.t+1)<n→∃ e ∈ v3,e.t=(ne.t+1)∧e.h=(ne.h+1))∧(-1000000≤(v5_0:Int)∧(v5_0:Int)≤1000000))∧(((wgT p q ne.t ne.h).2 > 0→((I6 (ne.t+1))∧((((ne.t+1)<n→∃ e ∈ v3,e.t=(ne.t+1)∧e.h=ne.h)∧(-1000000≤(v5_0:Int)∧(v5_0:Int)≤1000000))∧(0≤ne.v∧(∃ se:Stg,v6[Int.toNat ne.v]?=some se∧VC E n need p q (v9++[s]) v3 v5_0 (v6.set (Int.toNat ne.v) (⟨1,0,[(⟨(wgT p q ne.t ne.h).1,(toI v3 n need (v5_0:Int) (ne.t+1) (ne.h+1))⟩:Trn),(⟨(wgT p q ne.t ne.h).2,(toI v3 n need (v5_0:Int) (ne.t+1) ne.h)⟩:Trn)]⟩:Stg)))))))∧(¬ ((wgT p q ne.t ne.h).2 > 0)→(0≤ne.v∧(∃ se:Stg,v6[Int.toNat ne.v]?=some se∧VC E n need p q (v9++[s]) v3 v5_0 (v6.set (Int.toNat ne.v) (⟨1,0,[(⟨(wgT p q ne.t ne.h).1,(toI v3 n need (v5_0:Int) (ne.t+1) (ne.h+1))⟩:Trn)]⟩:Stg))))))))))∧(¬ ((wgT p q ne.t ne.h).1 > 0)→(((wgT p q ne.t ne.h).2 > 0→((I6 (ne.t+1))∧((((ne.t+1)<n→∃ e ∈ v3,e.t=(ne.t+1)∧e.h=ne.h)∧(-1000000≤(v5_0:Int)∧(v5_0:Int)≤1000000))∧(0≤ne.v∧(∃ se:Stg,v6[Int.toNat ne.v]?=some se∧VC E n need p q (v9++[s]) v3 v5_0 (v6.set (Int.toNat ne.v) (⟨1,0,[(⟨(wgT p q ne.t ne.h).2,(toI v3 n need (v5_0:Int) (ne.t+1) ne.h)⟩:Trn)]⟩:Stg)))))))∧(¬ ((wgT p q ne.t ne.h).2 > 0)→(0≤ne.v∧(∃ se:Stg,v6[Int.toNat ne.v]?=some se∧VC E n need p q (v9++[s]) v3 v5_0 (v6.set (Int.toNat ne.v) (⟨1,0,([]:List Trn)⟩:Stg)))))))))):f66tG2n E n need p q v9 v3 v5_0 v6 s:=by
 intro g6
 obtain ⟨ne,h1,h⟩:=h
 rcases bft (decide ((wgT p q ne.t ne.h).1 > 0)) with hc0 | hc0
 · have h:=h.1 (odt hc0)
   obtain ⟨q12_1,h⟩:=h
   obtain ⟨q13_1,h⟩:=h
   obtain ⟨h2,h⟩:=h
   rcases bft (decide ((wgT p q ne.t ne.h).2 > 0)) with hc1 | hc1
   · have h:=h.1 (odt hc1)
     obtain ⟨q19_2,h⟩:=h
     obtain ⟨h3,h⟩:=h
     obtain ⟨h5,h⟩:=h
     obtain ⟨se,h4,h⟩:=h
     refine p66t_2n_0 n need p q v9 v3 v5_0 v6 s g6 ne se hE ⟨rfl,(Kh),rfl,(it_two),(VN cNum1 h1),(by decide),(⟨by decide,by decide⟩),(⟨by decide,by decide⟩),(by decide),(u68 (wgT_ok p q ne.t ne.h)),hc0,q12_1,q13_1,(u111 (to_ok v3 n need (v5_0:Int) (ne.t+1) (ne.h+1) h2)),(by decide),rfl,(by decide),hc1,q19_2,(u111 (to_ok v3 n need (v5_0:Int) (ne.t+1) ne.h h3)),rfl,rfl,(by decide),rfl,(by decide),rfl,(Qj h5 h4),rfl,(rf cStg 3 0 3 h4),rfl,trivial⟩ ?_
     have h:=(h g6)
     simp only [yG,List.length_set] at h
     rw [(show QD (Qd v6) (0+(Int.toNat ne.v)*3) [.int .i64 1,.int .i64 0,.rsl [.int .i64 ((wgT p q ne.t ne.h).1),.int .i64 (toI v3 n need (v5_0:Int) (ne.t+1) (ne.h+1)),.int .i64 ((wgT p q ne.t ne.h).2),.int .i64 (toI v3 n need (v5_0:Int) (ne.t+1) ne.h)] 0 2]=Qd (v6.set (Int.toNat ne.v) (⟨1,0,[(⟨(wgT p q ne.t ne.h).1,(toI v3 n need (v5_0:Int) (ne.t+1) (ne.h+1))⟩:Trn),(⟨(wgT p q ne.t ne.h).2,(toI v3 n need (v5_0:Int) (ne.t+1) ne.h)⟩:Trn)]⟩:Stg)) from QT cStg (s:=3) (k:=0) (fun _=>rfl) h4 rfl (by first | decide | simp))]
     exact h
   · have h:=h.2 (odf hc1)
     obtain ⟨h4,h⟩:=h
     obtain ⟨se,h3,h⟩:=h
     refine p66t_2n_1 n need p q v9 v3 v5_0 v6 s g6 ne se hE ⟨rfl,(Kh),rfl,(it_two),(VN cNum1 h1),(by decide),(⟨by decide,by decide⟩),(⟨by decide,by decide⟩),(by decide),(u68 (wgT_ok p q ne.t ne.h)),hc0,q12_1,q13_1,(u111 (to_ok v3 n need (v5_0:Int) (ne.t+1) (ne.h+1) h2)),(by decide),rfl,(by decide),hc1,rfl,(Qj h4 h3),rfl,(rf cStg 3 0 3 h3),rfl,trivial⟩ ?_
     have h:=(h g6)
     simp only [yG,List.length_set] at h
     rw [(show QD (Qd v6) (0+(Int.toNat ne.v)*3) [.int .i64 1,.int .i64 0,.rsl [.int .i64 ((wgT p q ne.t ne.h).1),.int .i64 (toI v3 n need (v5_0:Int) (ne.t+1) (ne.h+1))] 0 1]=Qd (v6.set (Int.toNat ne.v) (⟨1,0,[(⟨(wgT p q ne.t ne.h).1,(toI v3 n need (v5_0:Int) (ne.t+1) (ne.h+1))⟩:Trn)]⟩:Stg)) from QT cStg (s:=3) (k:=0) (fun _=>rfl) h3 rfl (by first | decide | simp))]
     exact h
 · have h:=h.2 (odf hc0)
   rcases bft (decide ((wgT p q ne.t ne.h).2 > 0)) with hc1 | hc1
   · have h:=h.1 (odt hc1)
     obtain ⟨q13_2,h⟩:=h
     obtain ⟨h2,h⟩:=h
     obtain ⟨h4,h⟩:=h
     obtain ⟨se,h3,h⟩:=h
     refine p66t_2n_2 n need p q v9 v3 v5_0 v6 s g6 ne se hE ⟨rfl,(Kh),rfl,(it_two),(VN cNum1 h1),(by decide),(⟨by decide,by decide⟩),(⟨by decide,by decide⟩),(by decide),(u68 (wgT_ok p q ne.t ne.h)),hc0,hc1,q13_2,(u111 (to_ok v3 n need (v5_0:Int) (ne.t+1) ne.h h2)),(by decide),rfl,(by decide),rfl,(Qj h4 h3),rfl,(rf cStg 3 0 3 h3),rfl,trivial⟩ ?_
     have h:=(h g6)
     simp only [yG,List.length_set] at h
     rw [(show QD (Qd v6) (0+(Int.toNat ne.v)*3) [.int .i64 1,.int .i64 0,.rsl [.int .i64 ((wgT p q ne.t ne.h).2),.int .i64 (toI v3 n need (v5_0:Int) (ne.t+1) ne.h)] 0 1]=Qd (v6.set (Int.toNat ne.v) (⟨1,0,[(⟨(wgT p q ne.t ne.h).2,(toI v3 n need (v5_0:Int) (ne.t+1) ne.h)⟩:Trn)]⟩:Stg)) from QT cStg (s:=3) (k:=0) (fun _=>rfl) h3 rfl (by first | decide | simp))]
     exact h
   · have h:=h.2 (odf hc1)
     obtain ⟨h3,h⟩:=h
     obtain ⟨se,h2,h⟩:=h
     refine p66t_2n_3 n need p q v9 v3 v5_0 v6 s g6 ne se hE ⟨rfl,(Kh),rfl,(it_two),(VN cNum1 h1),(by decide),(⟨by decide,by decide⟩),(⟨by decide,by decide⟩),(by decide),(u68 (wgT_ok p q ne.t ne.h)),hc0,hc1,(Qj h3 h2),rfl,(rf cStg 3 0 3 h2),rfl,trivial⟩ ?_
     have h:=(h g6)
     simp only [yG,List.length_set] at h
     rw [(show QD (Qd v6) (0+(Int.toNat ne.v)*3) [.int .i64 1,.int .i64 0,.rsl [] 0 0]=Qd (v6.set (Int.toNat ne.v) (⟨1,0,([]:List Trn)⟩:Stg)) from QT cStg (s:=3) (k:=0) (fun _=>rfl) h2 rfl (by first | decide | simp))]
     exact h
theorem p66t_2x_0 (n:Int) (need:Int) (p q:Int) (v9:List Nat) (v3:List Num) (v5_0:Nat) (v6:List Stg) (g6:Nat) (se:Stg) (se1:Stg) {E:Env} {res:AV} (hE:Qf Try.prog 66 res E) (ho:AllP [false=false,0≤(v5_0:Int)∧(v5_0:Int)<(v6.length:Int),g6=g6,((0+(Int.toNat (v5_0:Int))*3)+3)≤(Qd v6).length,g6=g6,InR .i64 ((v5_0:Int)+1),0≤((v5_0:Int)+1)∧((v5_0:Int)+1)<(v6.length:Int),g6=g6,((0+(Int.toNat ((v5_0:Int)+1))*3)+3)≤(QD (Qd v6) (0+(Int.toNat (v5_0:Int))*3) [.int .i64 4,.int .i64 (-1),.rsl [] 0 0]).length,g6=g6,LentF Try.prog (.clos 91 [] []) [.agg [.sl 0 g6 0 v6.length 3,.sl 1 0 0 1 1,.int .i64 0]] [⟨true,g6,3,true,(QD (QD (Qd v6) (0+(Int.toNat (v5_0:Int))*3) [.int .i64 4,.int .i64 (-1),.rsl [] 0 0]) (0+(Int.toNat ((v5_0:Int)+1))*3) [.int .i64 4,.int .i64 0,.rsl [] 0 0]),true⟩,⟨true,0,1,true,[.int .i64 0],true⟩] (.tup [.agg [.rsl (Qd (((XI (⟨((v6.set v5_0 (⟨4,(-1),([]:List Trn)⟩:Stg)).set (v5_0+1) (⟨4,0,([]:List Trn)⟩:Stg)),[0],0⟩:Stl)).1).stages)) 0 ((((XI (⟨((v6.set v5_0 (⟨4,(-1),([]:List Trn)⟩:Stg)).set (v5_0+1) (⟨4,0,([]:List Trn)⟩:Stg)),[0],0⟩:Stl)).1).stages).length),.rsl (rowI (((XI (⟨((v6.set v5_0 (⟨4,(-1),([]:List Trn)⟩:Stg)).set (v5_0+1) (⟨4,0,([]:List Trn)⟩:Stg)),[0],0⟩:Stl)).1).worth)) 0 ((((XI (⟨((v6.set v5_0 (⟨4,(-1),([]:List Trn)⟩:Stg)).set (v5_0+1) (⟨4,0,([]:List Trn)⟩:Stg)),[0],0⟩:Stl)).1).worth).length),.int .i64 (((XI (⟨((v6.set v5_0 (⟨4,(-1),([]:List Trn)⟩:Stg)).set (v5_0+1) (⟨4,0,([]:List Trn)⟩:Stg)),[0],0⟩:Stl)).1).price)],.int .i64 ((XI (⟨((v6.set v5_0 (⟨4,(-1),([]:List Trn)⟩:Stg)).set (v5_0+1) (⟨4,0,([]:List Trn)⟩:Stg)),[0],0⟩:Stl)).2)]) [⟨false,(g6+1),3,true,[],false⟩,⟨false,1,1,true,[],false⟩],3≤3])
 (hr:AvLe (.tup [.agg [.rsl (Qd (((XI (⟨((v6.set v5_0 (⟨4,(-1),([]:List Trn)⟩:Stg)).set (v5_0+1) (⟨4,0,([]:List Trn)⟩:Stg)),[0],0⟩:Stl)).1).stages)) 0 ((((XI (⟨((v6.set v5_0 (⟨4,(-1),([]:List Trn)⟩:Stg)).set (v5_0+1) (⟨4,0,([]:List Trn)⟩:Stg)),[0],0⟩:Stl)).1).stages).length),.rsl (rowI (((XI (⟨((v6.set v5_0 (⟨4,(-1),([]:List Trn)⟩:Stg)).set (v5_0+1) (⟨4,0,([]:List Trn)⟩:Stg)),[0],0⟩:Stl)).1).worth)) 0 ((((XI (⟨((v6.set v5_0 (⟨4,(-1),([]:List Trn)⟩:Stg)).set (v5_0+1) (⟨4,0,([]:List Trn)⟩:Stg)),[0],0⟩:Stl)).1).worth).length),.int .i64 (((XI (⟨((v6.set v5_0 (⟨4,(-1),([]:List Trn)⟩:Stg)).set (v5_0+1) (⟨4,0,([]:List Trn)⟩:Stg)),[0],0⟩:Stl)).1).price)],.int .i64 ((XI (⟨((v6.set v5_0 (⟨4,(-1),([]:List Trn)⟩:Stg)).set (v5_0+1) (⟨4,0,([]:List Trn)⟩:Stg)),[0],0⟩:Stl)).2)]) res):G Try.prog E (qj (Yv Try.prog)) ⟨([J,J,J,.clos 68 [] [.rptr [.int .i64 p] 0,.rptr [.int .i64 q] 0],J,J,J,J,.ptr 2 0 0,J,J,J,J,.ptr 5 0 0,.clos 111 [] [.ptr 0 0 0,.ptr 4 0 0,.ptr 1 0 0,.ptr 5 0 0],.ptr 8 0 0]++jj 38 ([.mp 9 0 true,.tup [.bool false]]++Js 65)),[⟨true,0,1,true,[.int .i64 n],false⟩,⟨true,0,1,true,[.int .i64 need],false⟩,⟨true,0,1,true,[.nilSl,.nilSl,.int .i64 0],false⟩,⟨true,0,0,true,(Qv v3),false⟩,⟨true,0,1,false,[.mp 3 0 false],false⟩,⟨true,0,1,true,[.int .i64 (v5_0:Int)],false⟩,⟨true,g6,3,true,(Qd v6),true⟩,⟨true,0,1,true,[.int .i64 0],true⟩,⟨true,0,1,false,[.sl 6 g6 0 v6.length 3,.sl 7 0 0 1 1,.int .i64 0],false⟩,⟨true,0,0,false,(itA (.mp 3 0 false) (Qv v3).length v9),false⟩]⟩ :=
 Qc (n:=400) (evs:=[.b false,.wt 109,.wt 115,.lent [6,7] (.tup [.agg [.rsl (Qd (((XI (⟨((v6.set v5_0 (⟨4,(-1),([]:List Trn)⟩:Stg)).set (v5_0+1) (⟨4,0,([]:List Trn)⟩:Stg)),[0],0⟩:Stl)).1).stages)) 0 ((((XI (⟨((v6.set v5_0 (⟨4,(-1),([]:List Trn)⟩:Stg)).set (v5_0+1) (⟨4,0,([]:List Trn)⟩:Stg)),[0],0⟩:Stl)).1).stages).length),.rsl (rowI (((XI (⟨((v6.set v5_0 (⟨4,(-1),([]:List Trn)⟩:Stg)).set (v5_0+1) (⟨4,0,([]:List Trn)⟩:Stg)),[0],0⟩:Stl)).1).worth)) 0 ((((XI (⟨((v6.set v5_0 (⟨4,(-1),([]:List Trn)⟩:Stg)).set (v5_0+1) (⟨4,0,([]:List Trn)⟩:Stg)),[0],0⟩:Stl)).1).worth).length),.int .i64 (((XI (⟨((v6.set v5_0 (⟨4,(-1),([]:List Trn)⟩:Stg)).set (v5_0+1) (⟨4,0,([]:List Trn)⟩:Stg)),[0],0⟩:Stl)).1).price)],.int .i64 ((XI (⟨((v6.set v5_0 (⟨4,(-1),([]:List Trn)⟩:Stg)).set (v5_0+1) (⟨4,0,([]:List Trn)⟩:Stg)),[0],0⟩:Stl)).2)]) [⟨false,(g6+1),3,true,[],false⟩,⟨false,1,1,true,[],false⟩]]) (obs:=_) hE Try.func66 Qi (by kernel_rfl) ho hr
theorem f66tW2x (n:Int) (need:Int) (p q:Int) (v9:List Nat) (v3:List Num) (v5_0:Nat) (v6:List Stg) {E:Env} {rv:(Stl × Int)} (hE:Qf Try.prog 66 (.tup [.agg [.rsl (Qd rv.1.stages) 0 rv.1.stages.length,.rsl (rowI rv.1.worth) 0 rv.1.worth.length,.int .i64 rv.1.price],.int .i64 rv.2]) E)
 (h:(∃ se:Stg,v6[v5_0]?=some se∧((I6 ((v5_0:Int)+1))∧(∃ se1:Stg,(v6.set v5_0 (⟨4,(-1),([]:List Trn)⟩:Stg))[v5_0+1]?=some se1∧(((⟨((v6.set v5_0 (⟨4,(-1),([]:List Trn)⟩:Stg)).set (v5_0+1) (⟨4,0,([]:List Trn)⟩:Stg)),[0],0⟩:Stl).stages.length≤9223372036854775807∧(⟨((v6.set v5_0 (⟨4,(-1),([]:List Trn)⟩:Stg)).set (v5_0+1) (⟨4,0,([]:List Trn)⟩:Stg)),[0],0⟩:Stl).worth.length≤9223372036854775807)∧rv=(((XI (⟨((v6.set v5_0 (⟨4,(-1),([]:List Trn)⟩:Stg)).set (v5_0+1) (⟨4,0,([]:List Trn)⟩:Stg)),[0],0⟩:Stl)).1),(XI (⟨((v6.set v5_0 (⟨4,(-1),([]:List Trn)⟩:Stg)).set (v5_0+1) (⟨4,0,([]:List Trn)⟩:Stg)),[0],0⟩:Stl)).2)))))):f66tG2x E n need p q v9 v3 v5_0 v6:=by
 intro g6
 obtain ⟨se,h1,h⟩:=h
 obtain ⟨q6_0,h⟩:=h
 obtain ⟨se1,h2,h⟩:=h
 obtain ⟨h3,h⟩:=h
 exact p66t_2x_0 n need p q v9 v3 v5_0 v6 g6 se se1 hE ⟨rfl,(Qn h1),rfl,(rf cStg 3 0 3 h1),rfl,q6_0,(by have hx:=Qn h2; simpa using hx),rfl,(by rw [(show QD (Qd v6) (0+(Int.toNat (v5_0:Int))*3) [.int .i64 4,.int .i64 (-1),.rsl [] 0 0]=Qd (v6.set v5_0 (⟨4,(-1),([]:List Trn)⟩:Stg)) from QT cStg (s:=3) (k:=0) (fun _=>rfl) h1 rfl (by first | decide | simp))]; exact rf cStg 3 0 3 h2),rfl,(Vx (fv':=.clos 91 [] []) (args':=[.agg [.rsl (QD (QD (Qd v6) (0+(Int.toNat (v5_0:Int))*3) [.int .i64 4,.int .i64 (-1),.rsl [] 0 0]) (0+(Int.toNat ((v5_0:Int)+1))*3) [.int .i64 4,.int .i64 0,.rsl [] 0 0]) 0 v6.length,.rsl [.int .i64 0] 0 1,.int .i64 0]]) (o1:=[]) (o2:=[g6=g6,0=0]) (by kernel_rfl) trivial (by kernel_rfl) ⟨rfl,rfl,trivial⟩ (by rw [(show AV.rsl (QD (QD (Qd v6) (0+(Int.toNat (v5_0:Int))*3) [.int .i64 4,.int .i64 (-1),.rsl [] 0 0]) (0+(Int.toNat ((v5_0:Int)+1))*3) [.int .i64 4,.int .i64 0,.rsl [] 0 0]) 0 v6.length=AV.rsl (Qd ((v6.set v5_0 (⟨4,(-1),([]:List Trn)⟩:Stg)).set (v5_0+1) (⟨4,0,([]:List Trn)⟩:Stg))) 0 ((v6.set v5_0 (⟨4,(-1),([]:List Trn)⟩:Stg)).set (v5_0+1) (⟨4,0,([]:List Trn)⟩:Stg)).length from by rw [(show QD (Qd v6) (0+(Int.toNat (v5_0:Int))*3) [.int .i64 4,.int .i64 (-1),.rsl [] 0 0]=Qd (v6.set v5_0 (⟨4,(-1),([]:List Trn)⟩:Stg)) from QT cStg (s:=3) (k:=0) (fun _=>rfl) h1 rfl (by first | decide | simp))]; rw [(show QD (Qd (v6.set v5_0 (⟨4,(-1),([]:List Trn)⟩:Stg))) (0+(Int.toNat ((v5_0:Int)+1))*3) [.int .i64 4,.int .i64 0,.rsl [] 0 0]=Qd ((v6.set v5_0 (⟨4,(-1),([]:List Trn)⟩:Stg)).set (v5_0+1) (⟨4,0,([]:List Trn)⟩:Stg)) from QT cStg (s:=3) (k:=0) (fun _=>rfl) h2 rfl (by first | decide | simp))]; rw [show v6.length=((v6.set v5_0 (⟨4,(-1),([]:List Trn)⟩:Stg)).set (v5_0+1) (⟨4,0,([]:List Trn)⟩:Stg)).length from by simp])]; exact (u91 (made_ok (⟨((v6.set v5_0 (⟨4,(-1),([]:List Trn)⟩:Stg)).set (v5_0+1) (⟨4,0,([]:List Trn)⟩:Stg)),[0],0⟩:Stl) h3)))),(by decide),trivial⟩ (AvLe.of_eq (by rw [h]; try rfl))
theorem f66tW2 (n:Int) (need:Int) (p q:Int) (v9:List Nat) (v3:List Num) (v5_0:Nat) (v6:List Stg) {E:Env} {rv:(Stl × Int)} (hE:Qf Try.prog 66 (.tup [.agg [.rsl (Qd rv.1.stages) 0 rv.1.stages.length,.rsl (rowI rv.1.worth) 0 rv.1.worth.length,.int .i64 rv.1.price],.int .i64 rv.2]) E)
 (h:(∀ s:Nat,s<v3.length→s ∉ v9→f66tG2n E n need p q v9 v3 v5_0 v6 s)∧((∀ s:Nat,s<v3.length→s ∈ v9)→f66tG2x E n need p q v9 v3 v5_0 v6)):VC E n need p q v9 v3 v5_0 v6:=by
 intro g6
 have hl:(Qv v3).length=v3.length:=by exact Yd
 refine next_head (ki:=9) (n:=(Qv v3).length) (cells:=(Qv v3)) (seen:=v9) hE.2.1 (it:=.tmp 54) (d:=55) (mref:=.mp 3 0 false) (by kernel_rfl) (by rfl) (by rfl) (.inl ⟨3,_,rfl,by rfl,rfl,rfl,rfl,rfl,rfl⟩) rfl (fun s h1 h2=>?_) (fun h1=>?_)
 · exact h.1 s (by rw [← hl]; exact h1) h2 g6
 · exact h.2 (fun s h2=>h1 s (by rw [hl]; exact h2)) g6
theorem nodup_le:∀ (n:Nat) {l:List Nat},l.Nodup→(∀ s ∈ l,s<n)→l.length≤n
 | 0,[],_,_=>by simp
 | 0,x :: l,_,h=>by have:=h x (by simp); omega
 | n+1,l,hn,h=>by
  have h1:=nodup_le n (l:=l.erase n) (hn.erase n) (fun s hs=>by
   have h2:=(List.Nodup.mem_erase_iff hn).1 hs
   have h3:=h s h2.2
   omega)
  have:=List.length_erase (a:=n) (l:=l)
  split at this <;> omega
theorem nodup_full {n:Nat} {l:List Nat} (hn:l.Nodup) (hl:∀ s ∈ l,s<n) (h:l.length=n):∀ s,s<n→s ∈ l:=by
 intro s hs
 apply Classical.byContradiction
 intro hc
 have h1:(s :: l).Nodup:=List.nodup_cons.2 ⟨hc,hn⟩
 have:=nodup_le n h1 (fun x hx=>by
  rcases List.mem_cons.1 hx with rfl | hx
  · exact hs
  · exact hl x hx)
 simp at this; omega
theorem triesT_ok (n:Nat) (need p q:Int) (h:n≤9∧Leads opT (wgT p q) n) :
 Pure Try.prog 66 [.int .i64 (n:Int),.int .i64 need,.clos 67 [] [],.clos 68 [] [.rptr [.int .i64 p] 0,.rptr [.int .i64 q] 0]] (.tup [.agg [.rsl (Qd (Xb opT (wgT p q) n need).1.stages) 0 (Xb opT (wgT p q) n need).1.stages.length,.rsl (rowI (Xb opT (wgT p q) n need).1.worth) 0 (Xb opT (wgT p q) n need).1.worth.length,.int .i64 (Xb opT (wgT p q) n need).1.price],.int .i64 (Xb opT (wgT p q) n need).2]):=Qq Try.func66 f66tb fun E hE=>by
 have hn:=h.1
 have hlead:=h.2
 have nok:=nums_ok (op:=opT) (t:=n)
 have nlen:=nums_len (op:=opT) hn
 -- the range
 have fin:∀ (v:List Stg) (seen:List Nat),v.length=(QG opT n).length+2→(∀ (s:Nat) (e:Num),s ∈ seen→(QG opT n)[s]?=some e→v[s]?=some (Vq (QG opT n) (wgT p q) n need e))→(∀ s:Nat,s<(QG opT n).length→s ∈ seen)→f66tG2x E (n:Int) need p q seen (QG opT n) (QG opT n).length v:=by
  intro v seen hl hv hall
  have hv':=fun (s:Nat) (e:Num) (he:(QG opT n)[s]?=some e)=>hv s e (hall s (List.getElem?_eq_some_iff.1 he).1) he
  have e1:v[(QG opT n).length]?=some (v[(QG opT n).length]'(by omega)):=List.getElem?_eq_getElem (by omega)
  have e2:(v.set (QG opT n).length (⟨4,-1,[]⟩:Stg))[(QG opT n).length+1]?=some ((v.set (QG opT n).length (⟨4,-1,[]⟩:Stg))[(QG opT n).length+1]'(by simp; omega)):=List.getElem?_eq_getElem (by simp; omega)
  refine f66tW2x (n:Int) need p q seen (QG opT n) (QG opT n).length v (rv:=Xb opT (wgT p q) n need) hE ⟨_,e1,by omega,_,e2,⟨by simp [hl]; omega,by simp⟩,?_⟩
  rw [tries_end hl hv']
  rfl
 have rng:∀ (d:Nat) (v:List Stg) (seen:List Nat),v.length=(QG opT n).length+2→seen.Nodup→(∀ s ∈ seen,s<(QG opT n).length)→seen.length+d=(QG opT n).length→(∀ (s:Nat) (e:Num),s ∈ seen→(QG opT n)[s]?=some e→v[s]?=some (Vq (QG opT n) (wgT p q) n need e))→VC E (n:Int) need p q seen (QG opT n) (QG opT n).length v:=by
  intro d
  induction d with
  | zero =>
   intro v seen hl hnd hlt hd hv
   refine f66tW2 (n:Int) need p q seen (QG opT n) (QG opT n).length v (rv:=Xb opT (wgT p q) n need) hE ⟨fun s hs hns=>absurd ?_ hns,fun hall=>fin v seen hl hv hall⟩
   exact nodup_full hnd hlt (by omega) s hs
  | succ d ih =>
   intro v seen hl hnd hlt hd hv
   refine f66tW2 (n:Int) need p q seen (QG opT n) (QG opT n).length v (rv:=Xb opT (wgT p q) n need) hE ⟨fun s hs hns=>?_,fun hall=>fin v seen hl hv hall⟩
   have he:(QG opT n)[s]?=some (QG opT n)[s]:=List.getElem?_eq_getElem hs
   have hev:=nok.at_ s _ he
   obtain ⟨a,b,ha,hb,hba,hop,hlt'⟩:=nok.mem _ (List.mem_of_getElem? he)
   generalize (QG opT n)[s]=e at he hev ha hb
   have hvs:v[s]?=some (v[s]'(by omega)):=List.getElem?_eq_getElem (by omega)
   have bt:(-9223372036854775808≤e.t+1∧e.t+1≤9223372036854775807):=by omega
   have bh:(-9223372036854775808≤e.h+1∧e.h+1≤9223372036854775807):=by omega
   have e0:0≤e.v:=by omega
   have b0:(-1000000≤(((QG opT n).length:Nat):Int)∧(((QG opT n).length:Nat):Int)≤1000000):=by omega
   have en:Int.toNat e.v=s:=by omega
   have bb:(-1000000≤e.t∧e.t≤1000000)∧(-1000000≤e.h∧e.h≤1000000):=by omega
   have lead1:(wgT p q e.t e.h).1 > 0→(e.t+1<(n:Int)→∃ x ∈ QG opT n,x.t=e.t+1∧x.h=e.h+1):=fun hw ht=>by
    rw [ha,hb] at hw
    obtain ⟨x,hx,h1,h2⟩:=nok.all (a+1) (b+1) (by omega) ((hlead a b hba hop (by omega)).1 hw) (by omega)
    exact ⟨x,hx,by omega,by omega⟩
   have lead2:(wgT p q e.t e.h).2 > 0→(e.t+1<(n:Int)→∃ x ∈ QG opT n,x.t=e.t+1∧x.h=e.h):=fun hw ht=>by
    rw [ha,hb] at hw
    obtain ⟨x,hx,h1,h2⟩:=nok.all (a+1) b (by omega) ((hlead a b hba hop (by omega)).2 hw) (by omega)
    exact ⟨x,hx,by omega,by omega⟩
   have next:∀ (y:Stg),y=Vq (QG opT n) (wgT p q) n need e→VC E (n:Int) need p q (seen++[s]) (QG opT n) (QG opT n).length (v.set (Int.toNat e.v) y):=fun y hy=>by
    rw [en]
    refine ih _ (seen++[s]) (by simp [hl]) ?_ (fun x hx=>?_) (by simp; omega) (fun x e' hx he'=>?_)
    · rw [List.nodup_append]
      exact ⟨hnd,by simp,fun x hx y hy=>by simp at hy; subst hy; exact fun h=>hns (h ▸ hx)⟩
    · rcases List.mem_append.1 hx with hx | hx
      · exact hlt x hx
      · simp at hx; omega
    · by_cases hxs:x=s
      · subst hxs
        rw [he] at he'; cases he'
        rw [List.getElem?_set_self (by omega),hy]
      · rw [List.getElem?_set_ne (fun h=>hxs h.symm)]
        rcases List.mem_append.1 hx with hx | hx
        · exact hv x e' hx he'
        · simp at hx; exact absurd hx hxs
   have get:∃ se:Stg,v[Int.toNat e.v]?=some se:=⟨_,by rw [en]; exact hvs⟩
   obtain ⟨se,hse⟩:=get
   refine f66tW2n (n:Int) need p q seen (QG opT n) (QG opT n).length v s (rv:=Xb opT (wgT p q) n need) hE ⟨e,he,fun h1=>⟨bt,bh,⟨lead1 h1,b0⟩,fun h2=>⟨bt,⟨lead2 h2,b0⟩,e0,se,hse,next _ ?_⟩,fun h2=>⟨e0,se,hse,next _ ?_⟩⟩,fun h1=>⟨fun h2=>⟨bt,⟨lead2 h2,b0⟩,e0,se,hse,next _ ?_⟩,fun h2=>⟨e0,se,hse,next _ ?_⟩⟩⟩
   · simp only [Vq,if_pos h1,if_pos h2]; rfl
   · simp only [Vq,if_pos h1,if_neg h2]; rfl
   · simp only [Vq,if_neg h1,if_pos h2]; rfl
   · simp only [Vq,if_neg h1,if_neg h2]; rfl
 -- the numbers
 have outer:∀ (d t:Nat),t+d=n→f66tG0 E (n:Int) need p q t (QG opT t):=by
  intro d
  induction d with
  | zero =>
   intro t hd
   have:t=n:=by omega
   subst this
   refine f66tW0 (t:Int) need p q t (QG opT t) (rv:=Xb opT (wgT p q) t need) hE ⟨fun h=>by omega,fun _=>⟨by rw [Yd]; omega,by rw [Yd]; omega,?_⟩⟩
   rw [Yd]
   exact rng (QG opT t).length _ [] (by simp) (by simp) (by simp) (by simp) (by simp)
  | succ d ih =>
   intro t hd
   have ok0:=nums_ok (op:=opT) (t:=t)
   refine f66tW0 (n:Int) need p q t (QG opT t) (rv:=Xb opT (wgT p q) n need) hE ⟨fun _=>⟨by omega,?_⟩,fun h=>by omega⟩
   have row:∀ (d k:Nat),k+d=t+1→f66tG1 E (n:Int) need p q k (rowN opT t k (QG opT t)) t t (t+1):=by
    intro d
    induction d with
    | zero =>
     intro k hd
     have:k=t+1:=by omega
     subst this
     exact f66tW1 (n:Int) need p q _ _ t t (t+1) (rv:=Xb opT (wgT p q) n need) hE ⟨fun h=>by omega,fun _=>⟨by omega,ih (t+1) (by omega)⟩⟩
    | succ d ih2 =>
     intro k hd
     have okk:=yY ok0 (k:=k) (by omega)
     have hnew:∀ e ∈ rowN opT t k (QG opT t),¬ (e.t=(t:Int)∧e.h=(k:Int)):=fun e he hh=>by
      obtain ⟨a,b,h1,h2,h3,h4,h5⟩:=okk.mem e he
      omega
     have nx:=ih2 (k+1) (by omega)
     simp only [rowN] at nx
     refine f66tW1 (n:Int) need p q k _ t t (t+1) (rv:=Xb opT (wgT p q) n need) hE ⟨fun _=>⟨fun h1=>⟨hnew,by omega,?_⟩,fun h1=>⟨by omega,?_⟩⟩,fun h=>by omega⟩
     · rw [if_pos h1] at nx
       rw [Yd]; exact nx
     · rw [if_neg (by rw [h1]; simp)] at nx
       exact nx
   exact row (t+1) 0 (by omega)
 exact f66tW (n:Int) need p q (rv:=Xb opT (wgT p q) n need) hE (outer n 0 (by omega))
end Go.Proofs.Ytfgmlaeikcfpbaa
namespace Go.Proofs.Ytfgmlaeikcfpbaa
open Go Ax
open Go.Proofs
theorem leads_T {p q:Int} {n:Nat}:Leads opT (wgT p q) n:=fun a b _ _ _=>⟨fun _=>rfl,fun _=>rfl⟩
theorem triesTI_ok (n need p q:Int) (h:0≤n∧n≤9):Pure Try.prog 66 [.int .i64 n,.int .i64 need,.clos 67 [] [],.clos 68 [] [.rptr [.int .i64 p] 0,.rptr [.int .i64 q] 0]] (.tup [.agg [.rsl (Qd (Xb opT (wgT p q) (Int.toNat n) need).1.stages) 0 (Xb opT (wgT p q) (Int.toNat n) need).1.stages.length,.rsl (rowI (Xb opT (wgT p q) (Int.toNat n) need).1.worth) 0 (Xb opT (wgT p q) (Int.toNat n) need).1.worth.length,.int .i64 (Xb opT (wgT p q) (Int.toNat n) need).1.price],.int .i64 (Xb opT (wgT p q) (Int.toNat n) need).2]):=by
 have:=triesT_ok (Int.toNat n) need p q ⟨by omega,leads_T⟩
 rw [Int.toNat_of_nonneg h.1] at this; exact this
theorem f21b:Try.f21.body=some (Qe Try.prog 21):=by kernel_rfl
theorem u21 {a c k:List AV} {r:AV} (h:Pure Try.prog 21 (a++c++k) r):Qg Try.prog (.clos 21 a k) c r:=Ql Try.func21 (by kernel_rfl) f21b h
abbrev z21_1 (p:Int) (q:Int) (n:Int) (need:Int):AV:=.tup [.agg [.rsl (Qd (((Xb opT (wgT p q) (Int.toNat n) need).1).stages)) 0 ((((Xb opT (wgT p q) (Int.toNat n) need).1).stages).length),.rsl (rowI (((Xb opT (wgT p q) (Int.toNat n) need).1).worth)) 0 ((((Xb opT (wgT p q) (Int.toNat n) need).1).worth).length),.int .i64 (((Xb opT (wgT p q) (Int.toNat n) need).1).price)],.int .i64 ((Xb opT (wgT p q) (Int.toNat n) need).2)]
abbrev z21_2:AV:=.tup [.agg [.nilSl,.nilSl,.int .i64 0],.int .i64 1]
theorem p21_start_0 (n:Int) (need:Int) (p:Int) (q:Int) {E:Env} {res:AV} (hE:Qf Try.prog 21 res E) (ho:AllP [Qg Try.prog (.clos 65 [] []) [.int .i64 n,.int .i64 1,.int .i64 9] (.bool (Qa n 1 9)),(!(Qa n 1 9))=true,true=true,true=true,true=true,3≤3])
 (hr:AvLe z21_2 res):G Try.prog E [.code (Qe Try.prog 21)] ⟨[.int .i64 n,.int .i64 need,.int .i64 p,.int .i64 q]++unds (Try.f21.ntmps - 4),[]⟩ :=
 Qc (n:=400) (evs:=[.v (.bool (Qa n 1 9)),.b true,.b true,.b true,.b true]) (obs:=_) hE Try.func21 Qi (by kernel_rfl) ho hr
theorem p21_start_1 (n:Int) (need:Int) (p:Int) (q:Int) {E:Env} {res:AV} (hE:Qf Try.prog 21 res E) (ho:AllP [Qg Try.prog (.clos 65 [] []) [.int .i64 n,.int .i64 1,.int .i64 9] (.bool (Qa n 1 9)),(!(Qa n 1 9))=false,Qg Try.prog (.clos 65 [] []) [.int .i64 need,.int .i64 0,.int .i64 n] (.bool (Qa need 0 n)),(!(Qa need 0 n))=true,true=true,true=true,3≤3])
 (hr:AvLe z21_2 res):G Try.prog E [.code (Qe Try.prog 21)] ⟨[.int .i64 n,.int .i64 need,.int .i64 p,.int .i64 q]++unds (Try.f21.ntmps - 4),[]⟩ :=
 Qc (n:=400) (evs:=[.v (.bool (Qa n 1 9)),.b false,.v (.bool (Qa need 0 n)),.b true,.b true,.b true]) (obs:=_) hE Try.func21 Qi (by kernel_rfl) ho hr
theorem p21_start_2 (n:Int) (need:Int) (p:Int) (q:Int) {E:Env} {res:AV} (hE:Qf Try.prog 21 res E) (ho:AllP [Qg Try.prog (.clos 65 [] []) [.int .i64 n,.int .i64 1,.int .i64 9] (.bool (Qa n 1 9)),(!(Qa n 1 9))=false,Qg Try.prog (.clos 65 [] []) [.int .i64 need,.int .i64 0,.int .i64 n] (.bool (Qa need 0 n)),(!(Qa need 0 n))=false,Qg Try.prog (.clos 65 [] []) [.int .i64 p,.int .i64 1,.int .i64 100] (.bool (Qa p 1 100)),(!(Qa p 1 100))=true,true=true,3≤3])
 (hr:AvLe z21_2 res):G Try.prog E [.code (Qe Try.prog 21)] ⟨[.int .i64 n,.int .i64 need,.int .i64 p,.int .i64 q]++unds (Try.f21.ntmps - 4),[]⟩ :=
 Qc (n:=400) (evs:=[.v (.bool (Qa n 1 9)),.b false,.v (.bool (Qa need 0 n)),.b false,.v (.bool (Qa p 1 100)),.b true,.b true]) (obs:=_) hE Try.func21 Qi (by kernel_rfl) ho hr
theorem p21_start_3 (n:Int) (need:Int) (p:Int) (q:Int) {E:Env} {res:AV} (hE:Qf Try.prog 21 res E) (ho:AllP [Qg Try.prog (.clos 65 [] []) [.int .i64 n,.int .i64 1,.int .i64 9] (.bool (Qa n 1 9)),(!(Qa n 1 9))=false,Qg Try.prog (.clos 65 [] []) [.int .i64 need,.int .i64 0,.int .i64 n] (.bool (Qa need 0 n)),(!(Qa need 0 n))=false,Qg Try.prog (.clos 65 [] []) [.int .i64 p,.int .i64 1,.int .i64 100] (.bool (Qa p 1 100)),(!(Qa p 1 100))=false,Qg Try.prog (.clos 65 [] []) [.int .i64 q,.int .i64 1,.int .i64 100] (.bool (Qa q 1 100)),(!(Qa q 1 100))=true,3≤3])
 (hr:AvLe z21_2 res):G Try.prog E [.code (Qe Try.prog 21)] ⟨[.int .i64 n,.int .i64 need,.int .i64 p,.int .i64 q]++unds (Try.f21.ntmps - 4),[]⟩ :=
 Qc (n:=400) (evs:=[.v (.bool (Qa n 1 9)),.b false,.v (.bool (Qa need 0 n)),.b false,.v (.bool (Qa p 1 100)),.b false,.v (.bool (Qa q 1 100)),.b true]) (obs:=_) hE Try.func21 Qi (by kernel_rfl) ho hr
theorem p21_start_4 (n:Int) (need:Int) (p:Int) (q:Int) {E:Env} {res:AV} (hE:Qf Try.prog 21 res E) (ho:AllP [Qg Try.prog (.clos 65 [] []) [.int .i64 n,.int .i64 1,.int .i64 9] (.bool (Qa n 1 9)),(!(Qa n 1 9))=false,Qg Try.prog (.clos 65 [] []) [.int .i64 need,.int .i64 0,.int .i64 n] (.bool (Qa need 0 n)),(!(Qa need 0 n))=false,Qg Try.prog (.clos 65 [] []) [.int .i64 p,.int .i64 1,.int .i64 100] (.bool (Qa p 1 100)),(!(Qa p 1 100))=false,Qg Try.prog (.clos 65 [] []) [.int .i64 q,.int .i64 1,.int .i64 100] (.bool (Qa q 1 100)),(!(Qa q 1 100))=false,LentF Try.prog (.clos 66 [] []) [.int .i64 n,.int .i64 need,.clos 67 [] [],.clos 68 [] [.ptr 0 0 0,.ptr 1 0 0]] [⟨true,0,1,true,[.int .i64 p],false⟩,⟨true,0,1,true,[.int .i64 q],false⟩] (z21_1 p q n need) [⟨false,1,1,true,[],false⟩,⟨false,1,1,true,[],false⟩],3≤3])
 (hr:AvLe (z21_1 p q n need) res):G Try.prog E [.code (Qe Try.prog 21)] ⟨[.int .i64 n,.int .i64 need,.int .i64 p,.int .i64 q]++unds (Try.f21.ntmps - 4),[]⟩ :=
 Qc (n:=400) (evs:=[.v (.bool (Qa n 1 9)),.b false,.v (.bool (Qa need 0 n)),.b false,.v (.bool (Qa p 1 100)),.b false,.v (.bool (Qa q 1 100)),.b false,.lent [0,1] (z21_1 p q n need) [⟨false,1,1,true,[],false⟩,⟨false,1,1,true,[],false⟩]]) (obs:=_) hE Try.func21 Qi (by kernel_rfl) ho hr
theorem f21W (n:Int) (need:Int) (p:Int) (q:Int) {E:Env} {rv:(Stl × Int)} (hE:Qf Try.prog 21 (.tup [.agg [.rsl (Qd rv.1.stages) 0 rv.1.stages.length,.rsl (rowI rv.1.worth) 0 rv.1.worth.length,.int .i64 rv.1.price],.int .i64 rv.2]) E)
 (h:(((Qa n 1 9)=false→rv=((⟨([]:List Stg),([]:List Int),0⟩:Stl),1))∧((Qa n 1 9)=true→(((Qa need 0 n)=false→rv=((⟨([]:List Stg),([]:List Int),0⟩:Stl),1))∧((Qa need 0 n)=true→(((Qa p 1 100)=false→rv=((⟨([]:List Stg),([]:List Int),0⟩:Stl),1))∧((Qa p 1 100)=true→(((Qa q 1 100)=false→rv=((⟨([]:List Stg),([]:List Int),0⟩:Stl),1))∧((Qa q 1 100)=true→((0≤n∧n≤9)∧rv=(((Xb opT (wgT p q) (Int.toNat n) need).1),(Xb opT (wgT p q) (Int.toNat n) need).2))))))))))):G Try.prog E [.code (Qe Try.prog 21)] ⟨[.int .i64 n,.int .i64 need,.int .i64 p,.int .i64 q]++unds (Try.f21.ntmps - 4),[]⟩:=by
 rcases bft (!(Qa n 1 9)) with hc0 | hc0
 · have h:=h.1 (bnT hc0)
   exact p21_start_0 n need p q hE ⟨(u65 (Qr n 1 9)),hc0,rfl,rfl,rfl,(by decide),trivial⟩ (by rw [h]; exact (Yt ⟨(agg_le ⟨XN,⟨XN,⟨AvLe.of_eq rfl,trivial⟩⟩⟩),⟨AvLe.of_eq rfl,trivial⟩⟩))
 · have h:=h.2 (bnF hc0)
   rcases bft (!(Qa need 0 n)) with hc1 | hc1
   · have h:=h.1 (bnT hc1)
     exact p21_start_1 n need p q hE ⟨(u65 (Qr n 1 9)),hc0,(u65 (Qr need 0 n)),hc1,rfl,rfl,(by decide),trivial⟩ (by rw [h]; exact (Yt ⟨(agg_le ⟨XN,⟨XN,⟨AvLe.of_eq rfl,trivial⟩⟩⟩),⟨AvLe.of_eq rfl,trivial⟩⟩))
   · have h:=h.2 (bnF hc1)
     rcases bft (!(Qa p 1 100)) with hc2 | hc2
     · have h:=h.1 (bnT hc2)
       exact p21_start_2 n need p q hE ⟨(u65 (Qr n 1 9)),hc0,(u65 (Qr need 0 n)),hc1,(u65 (Qr p 1 100)),hc2,rfl,(by decide),trivial⟩ (by rw [h]; exact (Yt ⟨(agg_le ⟨XN,⟨XN,⟨AvLe.of_eq rfl,trivial⟩⟩⟩),⟨AvLe.of_eq rfl,trivial⟩⟩))
     · have h:=h.2 (bnF hc2)
       rcases bft (!(Qa q 1 100)) with hc3 | hc3
       · have h:=h.1 (bnT hc3)
         exact p21_start_3 n need p q hE ⟨(u65 (Qr n 1 9)),hc0,(u65 (Qr need 0 n)),hc1,(u65 (Qr p 1 100)),hc2,(u65 (Qr q 1 100)),hc3,(by decide),trivial⟩ (by rw [h]; exact (Yt ⟨(agg_le ⟨XN,⟨XN,⟨AvLe.of_eq rfl,trivial⟩⟩⟩),⟨AvLe.of_eq rfl,trivial⟩⟩))
       · have h:=h.2 (bnF hc3)
         obtain ⟨h1,h⟩:=h
         exact p21_start_4 n need p q hE ⟨(u65 (Qr n 1 9)),hc0,(u65 (Qr need 0 n)),hc1,(u65 (Qr p 1 100)),hc2,(u65 (Qr q 1 100)),hc3,(Vx (fv':=.clos 66 [] []) (args':=[.int .i64 n,.int .i64 need,.clos 67 [] [],.clos 68 [] [.rptr [.int .i64 p] 0,.rptr [.int .i64 q] 0]]) (o1:=[]) (o2:=[]) (by kernel_rfl) trivial (by kernel_rfl) trivial (Ql Try.func66 (by kernel_rfl) f66tb (triesTI_ok n need p q h1))),(by decide),trivial⟩ (AvLe.of_eq (by rw [h]; try rfl))
def errS:Stl × Int:=(⟨[],[],0⟩,1)
def QN (n need p q:Int):Stl × Int:=if Qa n 1 9=true∧Qa need 0 n=true∧Qa p 1 100=true∧Qa q 1 100=true then Xb opT (wgT p q) (Int.toNat n) need else errS
theorem YL (n need p q:Int):Pure Try.prog 21 [.int .i64 n,.int .i64 need,.int .i64 p,.int .i64 q] (.tup [.agg [.rsl (Qd (QN n need p q).1.stages) 0 (QN n need p q).1.stages.length,.rsl (rowI (QN n need p q).1.worth) 0 (QN n need p q).1.worth.length,.int .i64 (QN n need p q).1.price],.int .i64 (QN n need p q).2]):=Qq Try.func21 f21b fun E hE=>by
 have no:¬ (Qa n 1 9=true∧Qa need 0 n=true∧Qa p 1 100=true∧Qa q 1 100=true)→QN n need p q=errS:=fun h=>by rw [QN,if_neg h]
 refine f21W n need p q (rv:=QN n need p q) hE ⟨fun h=>no (by simp [h]),fun h1=>⟨fun h=>no (by simp [h]),fun h2=>⟨fun h=>no (by simp [h]),fun h3=>⟨fun h=>no (by simp [h]),fun h4=>⟨?_,?_⟩⟩⟩⟩⟩
 · have:=Qz.1 h1; omega
 · rw [QN,if_pos ⟨h1,h2,h3,h4⟩]
end Go.Proofs.Ytfgmlaeikcfpbaa
namespace Go.Proofs.Ytfgmlaeikcfpbaa
open Go Ax
open Go.Proofs
theorem f112b:Try.f112.body=some (Qe Try.prog 112):=by kernel_rfl
theorem u112 {a c k:List AV} {r:AV} (h:Pure Try.prog 112 (a++c++k) r):Qg Try.prog (.clos 112 a k) c r:=Ql Try.func112 (by kernel_rfl) f112b h
theorem p112_start_0 (n:Int) {E:Env} {res:AV} (hE:Qf Try.prog 112 res E) (ho:AllP [(n != 1)=true])
 (hr:AvLe (.bool (n != 2)) res):G Try.prog E [.code (Qe Try.prog 112)] ⟨[.int .i64 n]++unds (Try.f112.ntmps - 1),[]⟩ :=
 Qc (n:=400) (evs:=[.b true]) (obs:=_) hE Try.func112 Qi (by kernel_rfl) ho hr
theorem p112_start_1 (n:Int) {E:Env} {res:AV} (hE:Qf Try.prog 112 res E) (ho:AllP [(n != 1)=false])
 (hr:AvLe (.bool false) res):G Try.prog E [.code (Qe Try.prog 112)] ⟨[.int .i64 n]++unds (Try.f112.ntmps - 1),[]⟩ :=
 Qc (n:=400) (evs:=[.b false]) (obs:=_) hE Try.func112 Qi (by kernel_rfl) ho hr
theorem f112W (n:Int) {E:Env} {rv:Bool} (hE:Qf Try.prog 112 (.bool rv) E)
 (h:((¬ (n=1)→rv=(n != 2))∧(n=1→rv=false))):G Try.prog E [.code (Qe Try.prog 112)] ⟨[.int .i64 n]++unds (Try.f112.ntmps - 1),[]⟩:=by
 rcases bft (n != 1) with hc0 | hc0
 · have h:=h.1 (bneT hc0)
   exact p112_start_0 n hE ⟨hc0,trivial⟩ (AvLe.of_eq (by rw [h]; try rfl))
 · have h:=h.2 (bneF hc0)
   exact p112_start_1 n hE ⟨hc0,trivial⟩ (AvLe.of_eq (by rw [h]; try rfl))
def XW (n:Int):Bool:=decide (n=1) || decide (n=2)
theorem noaim_ok (n:Int):Pure Try.prog 112 [.int .i64 n] (.bool (!XW n)):=Qq Try.func112 f112b fun E hE=>by
 refine f112W n (rv:=!XW n) hE ⟨fun h=>?_,fun h=>by simp [XW,h]⟩
 by_cases h2:n=2
 · simp [XW,h,h2]
 · simp [XW,h,h2]
def VV (P:Program):List Item:=kAt 400 [.code (Qe P 120)] [.stop]
def Kt (l:(List Int)) (i:Nat):St:=⟨([.rsl (rowI l) 0 l.length,.clos 112 [] []]++jj 5 ([.int .i64 (l.length:Int),.int .i64 (i:Int)]++Js 10)),[]⟩
def Ku (E:Env) (l:(List Int)) (i:Nat):Prop:=G Try.prog E (VV Try.prog) (Kt l i )
theorem Ka (l:(List Int)) {E:Env} {rv:AV} (hE:Qf Try.prog 120 rv E) (ho:AllP [])
 (hg:G Try.prog E (VV Try.prog) ⟨([.rsl (rowI l) 0 l.length,.clos 112 [] []]++jj 5 ([.int .i64 (l.length:Int),.int .i64 0]++Js 10)),[]⟩):G Try.prog E [.code (Qe Try.prog 120)] ⟨[.rsl (rowI l) 0 l.length,.clos 112 [] []]++unds (Try.f120.ntmps - 2),[]⟩ :=
 Qh (n:=400) (ds:=[]) (cs:=[]) (live:=[0,1,7,8]) (m:=0) (evs:=[.stop]) (obs:=_) hE.2.1 (hE.nogh _) Qi (by kernel_rfl) ho hg
theorem f120aW (l:(List Int)) {E:Env} {rv:Int} (hE:Qf Try.prog 120 (.int .i64 rv) E)
 (h:Ku E l 0):G Try.prog E [.code (Qe Try.prog 120)] ⟨[.rsl (rowI l) 0 l.length,.clos 112 [] []]++unds (Try.f120.ntmps - 2),[]⟩:=by
 exact Ka l hE trivial h
theorem p120a_0_0 (l:(List Int)) (i:Nat) (e:Int) {E:Env} {res:AV} (hE:Qf Try.prog 120 res E) (ho:AllP [(decide ((i:Int)<(l.length:Int)))=true,0≤(i:Int)∧(i:Int)<(l.length:Int),((rowI l).drop (0+(Int.toNat (i:Int))*1)).take 1=[.int .i64 e],Qg Try.prog (.clos 112 [] []) [.int .i64 e] (.bool (!XW e)),(!XW e)=true])
 (hr:AvLe (.int .i64 (i:Int)) res):G Try.prog E (VV Try.prog) (Kt l i ) :=
 Qc (n:=400) (evs:=[.b true,.ld (.int .i64 e),.v (.bool (!XW e)),.b true]) (obs:=_) hE Try.func120 Qi (by kernel_rfl) ho hr
theorem p120a_0_1 (l:(List Int)) (i:Nat) (e:Int) {E:Env} {rv:AV} (hE:Qf Try.prog 120 rv E) (ho:AllP [(decide ((i:Int)<(l.length:Int)))=true,0≤(i:Int)∧(i:Int)<(l.length:Int),((rowI l).drop (0+(Int.toNat (i:Int))*1)).take 1=[.int .i64 e],Qg Try.prog (.clos 112 [] []) [.int .i64 e] (.bool (!XW e)),(!XW e)=false,InR .i64 ((i:Int)+1)])
 (hg:G Try.prog E (VV Try.prog) ⟨([.rsl (rowI l) 0 l.length,.clos 112 [] []]++jj 5 ([.int .i64 (l.length:Int),.int .i64 ((i:Int)+1)]++Js 10)),[]⟩):G Try.prog E (VV Try.prog) (Kt l i ) :=
 Qh (n:=400) (ds:=[]) (cs:=[]) (live:=[0,1,7,8]) (m:=0) (evs:=[.b true,.ld (.int .i64 e),.v (.bool (!XW e)),.b false,.stop]) (obs:=_) hE.2.1 (hE.nogh _) Qi (by kernel_rfl) ho hg
theorem p120a_0_2 (l:(List Int)) (i:Nat) {E:Env} {res:AV} (hE:Qf Try.prog 120 res E) (ho:AllP [(decide ((i:Int)<(l.length:Int)))=false])
 (hr:AvLe (.int .i64 (-1)) res):G Try.prog E (VV Try.prog) (Kt l i ) :=
 Qc (n:=400) (evs:=[.b false]) (obs:=_) hE Try.func120 Qi (by kernel_rfl) ho hr
theorem f120aW0 (l:(List Int)) (i:Nat) {E:Env} {rv:Int} (hE:Qf Try.prog 120 (.int .i64 rv) E)
 (h:(((i:Int)<(l.length:Int)→(∃ e:Int,l[i]?=some e∧(((!XW e)=true→rv=(i:Int))∧((!XW e)=false→((I6 ((i:Int)+1))∧Ku E l (i+1))))))∧(¬ ((i:Int)<(l.length:Int))→rv=(-1)))):Ku E l i:=by
 rcases bft (decide ((i:Int)<(l.length:Int))) with hc0 | hc0
 · have h:=h.1 (odt hc0)
   obtain ⟨e,h1,h⟩:=h
   rcases bft (!XW e) with hc1 | hc1
   · have h:=h.1 hc1
     exact p120a_0_0 l i e hE ⟨hc0,(Qn h1),(rp cI 1 0 1 h1),(u112 (noaim_ok e)),hc1,trivial⟩ (AvLe.of_eq (by rw [h]; try rfl))
   · have h:=h.2 hc1
     obtain ⟨q6_2,h⟩:=h
     exact p120a_0_1 l i e hE ⟨hc0,(Qn h1),(rp cI 1 0 1 h1),(u112 (noaim_ok e)),hc1,q6_2,trivial⟩ h
 · have h:=h.2 (odf hc0)
   exact p120a_0_2 l i hE ⟨hc0,trivial⟩ (AvLe.of_eq (by rw [h]; try rfl))
theorem idxA_ok (l:List Int) (h:l.length≤9223372036854775807):Pure Try.prog 120 [.rsl (rowI l) 0 l.length,.clos 112 [] []] (.int .i64 (idxG (fun n=>!XW n) l)):=Qq Try.func120 f120b fun E hE=>by
 refine f120aW l hE (Vy (fun n=>!XW n) l l.length 0 (by omega) (fun j x hj=>by omega) (fun i=>Ku E l i) (fun i hi' h1 h2=>?_) (fun _ h2=>?_))
 · have hx:l[i]?=some l[i]:=List.getElem?_eq_getElem hi'
   exact f120aW0 l i hE ⟨fun _=>⟨_,hx,fun hp=>h1 _ hx hp,fun hp=>⟨by omega,h2 _ hx hp⟩⟩,fun h=>by omega⟩
 · exact f120aW0 l _ hE ⟨fun h=>by omega,fun _=>h2⟩
theorem p96a_start_0 (l:(List Int)) {E:Env} {res:AV} (hE:Qf Try.prog 96 res E) (ho:AllP [Qg Try.prog (.clos 120 [] []) [.rsl (rowI l) 0 l.length,.clos 112 [] []] (.int .i64 (idxG (fun n=>!XW n) l))])
 (hr:AvLe (.bool (decide ((idxG (fun n=>!XW n) l)≥0))) res):G Try.prog E [.code (Qe Try.prog 96)] ⟨[.rsl (rowI l) 0 l.length,.clos 112 [] []]++unds (Try.f96.ntmps - 2),[]⟩ :=
 Qc (n:=400) (evs:=[.v (.int .i64 (idxG (fun n=>!XW n) l))]) (obs:=_) hE Try.func96 Qi (by kernel_rfl) ho hr
theorem f96aW (l:(List Int)) {E:Env} {rv:Bool} (hE:Qf Try.prog 96 (.bool rv) E)
 (h:((l.length≤9223372036854775807)∧rv=(decide ((idxG (fun n=>!XW n) l)≥0)))):G Try.prog E [.code (Qe Try.prog 96)] ⟨[.rsl (rowI l) 0 l.length,.clos 112 [] []]++unds (Try.f96.ntmps - 2),[]⟩:=by
 obtain ⟨h1,h⟩:=h
 exact p96a_start_0 l hE ⟨(u120 (idxA_ok l h1)),trivial⟩ (AvLe.of_eq (by rw [h]; try rfl))
theorem anyA_ok (l:List Int) (h:l.length≤9223372036854775807):Pure Try.prog 96 [.rsl (rowI l) 0 l.length,.clos 112 [] []] (.bool (l.any fun n=>!XW n)):=Qq Try.func96 f96b fun E hE =>
 f96aW l hE ⟨h,(Kk _ l).symm⟩
theorem f74b:Try.f74.body=some (Qe Try.prog 74):=by kernel_rfl
theorem u74 {a c k:List AV} {r:AV} (h:Pure Try.prog 74 (a++c++k) r):Qg Try.prog (.clos 74 a k) c r:=Ql Try.func74 (by kernel_rfl) f74b h
theorem p74_start_0 (l:(List Int)) {E:Env} {res:AV} (hE:Qf Try.prog 74 res E) (ho:AllP [Qg Try.prog (.clos 96 [] []) [.rsl (rowI l) 0 l.length,.clos 112 [] []] (.bool (l.any (fun n=>!XW n)))])
 (hr:AvLe (.bool (!(l.any (fun n=>!XW n)))) res):G Try.prog E [.code (Qe Try.prog 74)] ⟨[.rsl (rowI l) 0 l.length]++unds (Try.f74.ntmps - 1),[]⟩ :=
 Qc (n:=400) (evs:=[.v (.bool (l.any (fun n=>!XW n)))]) (obs:=_) hE Try.func74 Qi (by kernel_rfl) ho hr
theorem f74W (l:(List Int)) {E:Env} {rv:Bool} (hE:Qf Try.prog 74 (.bool rv) E)
 (h:((l.length≤9223372036854775807)∧rv=(!(l.any (fun n=>!XW n))))):G Try.prog E [.code (Qe Try.prog 74)] ⟨[.rsl (rowI l) 0 l.length]++unds (Try.f74.ntmps - 1),[]⟩:=by
 obtain ⟨h1,h⟩:=h
 exact p74_start_0 l hE ⟨(u96 (anyA_ok l h1)),trivial⟩ (AvLe.of_eq (by rw [h]; try rfl))
theorem f73b:Try.f73.body=some (Qe Try.prog 73):=by kernel_rfl
theorem u73 {a c k:List AV} {r:AV} (h:Pure Try.prog 73 (a++c++k) r):Qg Try.prog (.clos 73 a k) c r:=Ql Try.func73 (by kernel_rfl) f73b h
theorem p73_start_0 (n:Int) (m:Mch) {E:Env} {res:AV} (hE:Qf Try.prog 73 res E) (ho:AllP [InR .i64 ((m.s.worth.length:Int) - 1),Qg Try.prog (.clos 65 [] []) [.int .i64 n,.int .i64 0,.int .i64 ((m.s.worth.length:Int) - 1)] (.bool (Qa n 0 ((m.s.worth.length:Int) - 1)))])
 (hr:AvLe (.bool (Qa n 0 ((m.s.worth.length:Int) - 1))) res):G Try.prog E [.code (Qe Try.prog 73)] ⟨[.rptr [.rsl (Qd m.s.stages) 0 m.s.stages.length,.rsl (rowI m.s.worth) 0 m.s.worth.length,.int .i64 m.s.price,.rsl (rowI m.meas) 0 m.meas.length,.rsl (rowI m.mult) 0 m.mult.length] 0,.int .i64 n]++unds (Try.f73.ntmps - 2),[]⟩ :=
 Qc (n:=400) (evs:=[.v (.bool (Qa n 0 ((m.s.worth.length:Int) - 1)))]) (obs:=_) hE Try.func73 Qi (by kernel_rfl) ho hr
theorem f73W (n:Int) (m:Mch) {E:Env} {rv:Bool} (hE:Qf Try.prog 73 (.bool rv) E)
 (h:((I6 ((m.s.worth.length:Int) - 1))∧rv=(Qa n 0 ((m.s.worth.length:Int) - 1)))):G Try.prog E [.code (Qe Try.prog 73)] ⟨[.rptr [.rsl (Qd m.s.stages) 0 m.s.stages.length,.rsl (rowI m.s.worth) 0 m.s.worth.length,.int .i64 m.s.price,.rsl (rowI m.meas) 0 m.meas.length,.rsl (rowI m.mult) 0 m.mult.length] 0,.int .i64 n]++unds (Try.f73.ntmps - 2),[]⟩:=by
 obtain ⟨q0_0,h⟩:=h
 exact p73_start_0 n m hE ⟨q0_0,(u65 (Qr n 0 ((m.s.worth.length:Int) - 1))),trivial⟩ (AvLe.of_eq (by rw [h]; try rfl))
def aimsI (l:List Int):Bool:=!(l.any fun n=>!XW n)
theorem aims_ok (l:List Int) (h:l.length≤9223372036854775807):Pure Try.prog 74 [.rsl (rowI l) 0 l.length] (.bool (aimsI l)):=Qq Try.func74 f74b fun E hE=>f74W l (rv:=aimsI l) hE ⟨h,rfl⟩
def Wy (m:Mch) (n:Int):Bool:=Qa n 0 ((m.s.worth.length:Int) - 1)
theorem kind_ok (m:Mch) (n:Int) (h:m.s.worth.length≤1000000):Pure Try.prog 73 [.rptr (cMch m) 0,.int .i64 n] (.bool (Wy m n)):=Qq Try.func73 f73b fun E hE=>f73W n m (rv:=Wy m n) hE ⟨by omega,rfl⟩
theorem f113b:Try.f113.body=some (Qe Try.prog 113):=by kernel_rfl
theorem u113 {a c k:List AV} {r:AV} (h:Pure Try.prog 113 (a++c++k) r):Qg Try.prog (.clos 113 a k) c r:=Ql Try.func113 (by kernel_rfl) f113b h
theorem p113_start_0 (n:Int) (kd:Int) {E:Env} {res:AV} (hE:Qf Try.prog 113 res E) (ho:AllP [(n == kd)=true])
 (hr:AvLe (.int .i64 1) res):G Try.prog E [.code (Qe Try.prog 113)] ⟨[.int .i64 n,.rptr [.int .i64 kd] 0]++unds (Try.f113.ntmps - 2),[]⟩ :=
 Qc (n:=400) (evs:=[.b true]) (obs:=_) hE Try.func113 Qi (by kernel_rfl) ho hr
theorem p113_start_1 (n:Int) (kd:Int) {E:Env} {res:AV} (hE:Qf Try.prog 113 res E) (ho:AllP [(n == kd)=false])
 (hr:AvLe (.int .i64 0) res):G Try.prog E [.code (Qe Try.prog 113)] ⟨[.int .i64 n,.rptr [.int .i64 kd] 0]++unds (Try.f113.ntmps - 2),[]⟩ :=
 Qc (n:=400) (evs:=[.b false]) (obs:=_) hE Try.func113 Qi (by kernel_rfl) ho hr
theorem f113W (n:Int) (kd:Int) {E:Env} {rv:Int} (hE:Qf Try.prog 113 (.int .i64 rv) E)
 (h:((n=kd→rv=1)∧(¬ (n=kd)→rv=0))):G Try.prog E [.code (Qe Try.prog 113)] ⟨[.int .i64 n,.rptr [.int .i64 kd] 0]++unds (Try.f113.ntmps - 2),[]⟩:=by
 rcases bft (n == kd) with hc0 | hc0
 · have h:=h.1 (eq_of_beq hc0)
   exact p113_start_0 n kd hE ⟨hc0,trivial⟩ (AvLe.of_eq (by rw [h]; try rfl))
 · have h:=h.2 (ne_of_beq_false hc0)
   exact p113_start_1 n kd hE ⟨hc0,trivial⟩ (AvLe.of_eq (by rw [h]; try rfl))
theorem f119b:Try.f119.body=some (Qe Try.prog 119):=by kernel_rfl
theorem u119 {a c k:List AV} {r:AV} (h:Pure Try.prog 119 (a++c++k) r):Qg Try.prog (.clos 119 a k) c r:=Ql Try.func119 (by kernel_rfl) f119b h
theorem p119_start_0 (i:Int) (x:(List Int)) (plan:List Int) (e:Int) {E:Env} {res:AV} (hE:Qf Try.prog 119 res E) (ho:AllP [0≤i∧i<(plan.length:Int),((rowI plan).drop (0+(Int.toNat i)*1)).take 1=[.int .i64 e]])
 (hr:AvLe (.int .i64 e) res):G Try.prog E [.code (Qe Try.prog 119)] ⟨[.int .i64 i,.rsl (rowI x) 0 x.length,.rptr [.rsl (rowI plan) 0 plan.length] 0]++unds (Try.f119.ntmps - 3),[]⟩ :=
 Qc (n:=400) (evs:=[.auto,.ld (.int .i64 e)]) (obs:=_) hE Try.func119 Qi (by kernel_rfl) ho hr
theorem f119W (i:Int) (x:(List Int)) (plan:List Int) {E:Env} {rv:Int} (hE:Qf Try.prog 119 (.int .i64 rv) E)
 (h:(0≤i∧(∃ e:Int,plan[Int.toNat i]?=some e∧rv=e))):G Try.prog E [.code (Qe Try.prog 119)] ⟨[.int .i64 i,.rsl (rowI x) 0 x.length,.rptr [.rsl (rowI plan) 0 plan.length] 0]++unds (Try.f119.ntmps - 3),[]⟩:=by
 obtain ⟨h2,h⟩:=h
 obtain ⟨e,h1,h⟩:=h
 exact p119_start_0 i x plan e hE ⟨(Qj h2 h1),(rp cI 1 0 1 h1),trivial⟩ (AvLe.of_eq (by rw [h]; try rfl))
theorem f115b:Try.f115.body=some (Qe Try.prog 115):=by kernel_rfl
theorem u115 {a c k:List AV} {r:AV} (h:Pure Try.prog 115 (a++c++k) r):Qg Try.prog (.clos 115 a k) c r:=Ql Try.func115 (by kernel_rfl) f115b h
def yJ (P:Program):List Item:=kAt 400 [.code (Qe P 115)] [.stop]
def f115S0 (l:(List Int)) (v:Int) (i:Nat):St:=⟨([.rsl (rowI l) 0 l.length,.int .i64 v]++jj 5 ([.int .i64 (l.length:Int),.int .i64 (i:Int)]++Js 10)),[]⟩
def f115G0 (E:Env) (l:(List Int)) (v:Int) (i:Nat):Prop:=G Try.prog E (yJ Try.prog) (f115S0 l v i )
theorem p115_start_0 (l:(List Int)) (v:Int) {E:Env} {rv:AV} (hE:Qf Try.prog 115 rv E) (ho:AllP [])
 (hg:G Try.prog E (yJ Try.prog) ⟨([.rsl (rowI l) 0 l.length,.int .i64 v]++jj 5 ([.int .i64 (l.length:Int),.int .i64 0]++Js 10)),[]⟩):G Try.prog E [.code (Qe Try.prog 115)] ⟨[.rsl (rowI l) 0 l.length,.int .i64 v]++unds (Try.f115.ntmps - 2),[]⟩ :=
 Qh (n:=400) (ds:=[]) (cs:=[]) (live:=[0,1,7,8]) (m:=0) (evs:=[.stop]) (obs:=_) hE.2.1 (hE.nogh _) Qi (by kernel_rfl) ho hg
theorem f115W (l:(List Int)) (v:Int) {E:Env} {rv:Int} (hE:Qf Try.prog 115 (.int .i64 rv) E)
 (h:f115G0 E l v 0):G Try.prog E [.code (Qe Try.prog 115)] ⟨[.rsl (rowI l) 0 l.length,.int .i64 v]++unds (Try.f115.ntmps - 2),[]⟩:=by
 exact p115_start_0 l v hE trivial h
theorem p115_0_0 (l:(List Int)) (v:Int) (i:Nat) (e:Int) {E:Env} {res:AV} (hE:Qf Try.prog 115 res E) (ho:AllP [(decide ((i:Int)<(l.length:Int)))=true,0≤(i:Int)∧(i:Int)<(l.length:Int),((rowI l).drop (0+(Int.toNat (i:Int))*1)).take 1=[.int .i64 e],(v == e)=true])
 (hr:AvLe (.int .i64 (i:Int)) res):G Try.prog E (yJ Try.prog) (f115S0 l v i ) :=
 Qc (n:=400) (evs:=[.b true,.ld (.int .i64 e),.b true]) (obs:=_) hE Try.func115 Qi (by kernel_rfl) ho hr
theorem p115_0_1 (l:(List Int)) (v:Int) (i:Nat) (e:Int) {E:Env} {rv:AV} (hE:Qf Try.prog 115 rv E) (ho:AllP [(decide ((i:Int)<(l.length:Int)))=true,0≤(i:Int)∧(i:Int)<(l.length:Int),((rowI l).drop (0+(Int.toNat (i:Int))*1)).take 1=[.int .i64 e],(v == e)=false,InR .i64 ((i:Int)+1)])
 (hg:G Try.prog E (yJ Try.prog) ⟨([.rsl (rowI l) 0 l.length,.int .i64 v]++jj 5 ([.int .i64 (l.length:Int),.int .i64 ((i:Int)+1)]++Js 10)),[]⟩):G Try.prog E (yJ Try.prog) (f115S0 l v i ) :=
 Qh (n:=400) (ds:=[]) (cs:=[]) (live:=[0,1,7,8]) (m:=0) (evs:=[.b true,.ld (.int .i64 e),.b false,.stop]) (obs:=_) hE.2.1 (hE.nogh _) Qi (by kernel_rfl) ho hg
theorem p115_0_2 (l:(List Int)) (v:Int) (i:Nat) {E:Env} {res:AV} (hE:Qf Try.prog 115 res E) (ho:AllP [(decide ((i:Int)<(l.length:Int)))=false])
 (hr:AvLe (.int .i64 (-1)) res):G Try.prog E (yJ Try.prog) (f115S0 l v i ) :=
 Qc (n:=400) (evs:=[.b false]) (obs:=_) hE Try.func115 Qi (by kernel_rfl) ho hr
theorem f115W0 (l:(List Int)) (v:Int) (i:Nat) {E:Env} {rv:Int} (hE:Qf Try.prog 115 (.int .i64 rv) E)
 (h:(((i:Int)<(l.length:Int)→(∃ e:Int,l[i]?=some e∧((v=e→rv=(i:Int))∧(¬ (v=e)→((I6 ((i:Int)+1))∧f115G0 E l v (i+1))))))∧(¬ ((i:Int)<(l.length:Int))→rv=(-1)))):f115G0 E l v i:=by
 rcases bft (decide ((i:Int)<(l.length:Int))) with hc0 | hc0
 · have h:=h.1 (odt hc0)
   obtain ⟨e,h1,h⟩:=h
   rcases bft (v == e) with hc1 | hc1
   · have h:=h.1 (eq_of_beq hc1)
     exact p115_0_0 l v i e hE ⟨hc0,(Qn h1),(rp cI 1 0 1 h1),hc1,trivial⟩ (AvLe.of_eq (by rw [h]; try rfl))
   · have h:=h.2 (ne_of_beq_false hc1)
     obtain ⟨q5_2,h⟩:=h
     exact p115_0_1 l v i e hE ⟨hc0,(Qn h1),(rp cI 1 0 1 h1),hc1,q5_2,trivial⟩ h
 · have h:=h.2 (odf hc0)
   exact p115_0_2 l v i hE ⟨hc0,trivial⟩ (AvLe.of_eq (by rw [h]; try rfl))
theorem f90b:Try.f90.body=some (Qe Try.prog 90):=by kernel_rfl
theorem u90 {a c k:List AV} {r:AV} (h:Pure Try.prog 90 (a++c++k) r):Qg Try.prog (.clos 90 a k) c r:=Ql Try.func90 (by kernel_rfl) f90b h
def f90K0 (P:Program):List Item:=kAt 400 [.code (Qe P 90)] [.b false,.stop]
def f90S0 (l:(List Int)) (m:Int) (i:Nat):St:=⟨([.rsl (rowI l) 0 l.length,J,J,.int .i64 m,.int .i64 (i:Int)]++Js 20),[]⟩
def f90G0 (E:Env) (l:(List Int)) (m:Int) (i:Nat):Prop:=G Try.prog E (f90K0 Try.prog) (f90S0 l m i )
theorem p90_start_1 (l:(List Int)) (e:Int) {E:Env} {rv:AV} (hE:Qf Try.prog 90 rv E) (ho:AllP [(decide ((l.length:Int)<1))=false,(0:Int)≤0∧(0:Int)<(l.length:Int),((rowI l).drop (0+0*1)).take 1=[.int .i64 e]])
 (hg:G Try.prog E (f90K0 Try.prog) ⟨([.rsl (rowI l) 0 l.length,J,J,.int .i64 e,.int .i64 1]++Js 20),[]⟩):G Try.prog E [.code (Qe Try.prog 90)] ⟨[.rsl (rowI l) 0 l.length]++unds (Try.f90.ntmps - 1),[]⟩ :=
 Qh (n:=400) (ds:=[]) (cs:=[]) (live:=[0,3,4]) (m:=0) (evs:=[.b false,.ld (.int .i64 e),.stop]) (obs:=_) hE.2.1 (hE.nogh _) Qi (by kernel_rfl) ho hg
theorem f90W (l:(List Int)) {E:Env} {rv:Int} (hE:Qf Try.prog 90 (.int .i64 rv) E)
 (h:(((l.length:Int)<1→False)∧(¬ ((l.length:Int)<1)→(∃ e:Int,l[0]?=some e∧f90G0 E l e 1)))):G Try.prog E [.code (Qe Try.prog 90)] ⟨[.rsl (rowI l) 0 l.length]++unds (Try.f90.ntmps - 1),[]⟩:=by
 rcases bft (decide ((l.length:Int)<1)) with hc0 | hc0
 · have h:=h.1 (odt hc0)
   exact h.elim
 · have h:=h.2 (odf hc0)
   obtain ⟨e,h1,h⟩:=h
   exact p90_start_1 l e hE ⟨hc0,(Qn h1),(rp cI 1 0 1 h1),trivial⟩ h
theorem p90_0_0 (l:(List Int)) (m:Int) (i:Nat) (e:Int) {E:Env} {rv:AV} (hE:Qf Try.prog 90 rv E) (ho:AllP [(decide ((i:Int)<(l.length:Int)))=true,0≤(i:Int)∧(i:Int)<(l.length:Int),((rowI l).drop (0+(Int.toNat (i:Int))*1)).take 1=[.int .i64 e],InR .i64 ((i:Int)+1)])
 (hg:G Try.prog E (f90K0 Try.prog) ⟨([.rsl (rowI l) 0 l.length,J,J,.int .i64 (iMax m e),.int .i64 ((i:Int)+1)]++Js 20),[]⟩):G Try.prog E (f90K0 Try.prog) (f90S0 l m i ) :=
 Qh (n:=400) (ds:=[]) (cs:=[]) (live:=[0,3,4]) (m:=0) (evs:=[.b true,.ld (.int .i64 e),.stop]) (obs:=_) hE.2.1 (hE.nogh _) Qi (by kernel_rfl) ho hg
theorem p90_0_1 (l:(List Int)) (m:Int) (i:Nat) {E:Env} {res:AV} (hE:Qf Try.prog 90 res E) (ho:AllP [(decide ((i:Int)<(l.length:Int)))=false])
 (hr:AvLe (.int .i64 m) res):G Try.prog E (f90K0 Try.prog) (f90S0 l m i ) :=
 Qc (n:=400) (evs:=[.b false]) (obs:=_) hE Try.func90 Qi (by kernel_rfl) ho hr
theorem f90W0 (l:(List Int)) (m:Int) (i:Nat) {E:Env} {rv:Int} (hE:Qf Try.prog 90 (.int .i64 rv) E)
 (h:(((i:Int)<(l.length:Int)→(∃ e:Int,l[i]?=some e∧((I6 ((i:Int)+1))∧f90G0 E l (iMax m e) (i+1))))∧(¬ ((i:Int)<(l.length:Int))→rv=m))):f90G0 E l m i:=by
 rcases bft (decide ((i:Int)<(l.length:Int))) with hc0 | hc0
 · have h:=h.1 (odt hc0)
   obtain ⟨e,h1,h⟩:=h
   obtain ⟨q4_1,h⟩:=h
   exact p90_0_0 l m i e hE ⟨hc0,(Qn h1),(rp cI 1 0 1 h1),q4_1,trivial⟩ h
 · have h:=h.2 (odf hc0)
   exact p90_0_1 l m i hE ⟨hc0,trivial⟩ (AvLe.of_eq (by rw [h]; try rfl))
theorem f116b:Try.f116.body=some (Qe Try.prog 116):=by kernel_rfl
theorem u116 {a c k:List AV} {r:AV} (h:Pure Try.prog 116 (a++c++k) r):Qg Try.prog (.clos 116 a k) c r:=Ql Try.func116 (by kernel_rfl) f116b h
def f116K0 (P:Program):List Item:=kAt 400 [.code (Qe P 116)] [.b false,.stop]
def f116S0 (l:(List Int)) (m:Int) (i:Nat):St:=⟨([.rsl (rowI l) 0 l.length,J,J,.int .i64 m,.int .i64 (i:Int)]++Js 20),[]⟩
def f116G0 (E:Env) (l:(List Int)) (m:Int) (i:Nat):Prop:=G Try.prog E (f116K0 Try.prog) (f116S0 l m i )
theorem p116_start_1 (l:(List Int)) (e:Int) {E:Env} {rv:AV} (hE:Qf Try.prog 116 rv E) (ho:AllP [(decide ((l.length:Int)<1))=false,(0:Int)≤0∧(0:Int)<(l.length:Int),((rowI l).drop (0+0*1)).take 1=[.int .i64 e]])
 (hg:G Try.prog E (f116K0 Try.prog) ⟨([.rsl (rowI l) 0 l.length,J,J,.int .i64 e,.int .i64 1]++Js 20),[]⟩):G Try.prog E [.code (Qe Try.prog 116)] ⟨[.rsl (rowI l) 0 l.length]++unds (Try.f116.ntmps - 1),[]⟩ :=
 Qh (n:=400) (ds:=[]) (cs:=[]) (live:=[0,3,4]) (m:=0) (evs:=[.b false,.ld (.int .i64 e),.stop]) (obs:=_) hE.2.1 (hE.nogh _) Qi (by kernel_rfl) ho hg
theorem f116W (l:(List Int)) {E:Env} {rv:Int} (hE:Qf Try.prog 116 (.int .i64 rv) E)
 (h:(((l.length:Int)<1→False)∧(¬ ((l.length:Int)<1)→(∃ e:Int,l[0]?=some e∧f116G0 E l e 1)))):G Try.prog E [.code (Qe Try.prog 116)] ⟨[.rsl (rowI l) 0 l.length]++unds (Try.f116.ntmps - 1),[]⟩:=by
 rcases bft (decide ((l.length:Int)<1)) with hc0 | hc0
 · have h:=h.1 (odt hc0)
   exact h.elim
 · have h:=h.2 (odf hc0)
   obtain ⟨e,h1,h⟩:=h
   exact p116_start_1 l e hE ⟨hc0,(Qn h1),(rp cI 1 0 1 h1),trivial⟩ h
theorem p116_0_0 (l:(List Int)) (m:Int) (i:Nat) (e:Int) {E:Env} {rv:AV} (hE:Qf Try.prog 116 rv E) (ho:AllP [(decide ((i:Int)<(l.length:Int)))=true,0≤(i:Int)∧(i:Int)<(l.length:Int),((rowI l).drop (0+(Int.toNat (i:Int))*1)).take 1=[.int .i64 e],InR .i64 ((i:Int)+1)])
 (hg:G Try.prog E (f116K0 Try.prog) ⟨([.rsl (rowI l) 0 l.length,J,J,.int .i64 (iMin m e),.int .i64 ((i:Int)+1)]++Js 20),[]⟩):G Try.prog E (f116K0 Try.prog) (f116S0 l m i ) :=
 Qh (n:=400) (ds:=[]) (cs:=[]) (live:=[0,3,4]) (m:=0) (evs:=[.b true,.ld (.int .i64 e),.stop]) (obs:=_) hE.2.1 (hE.nogh _) Qi (by kernel_rfl) ho hg
theorem p116_0_1 (l:(List Int)) (m:Int) (i:Nat) {E:Env} {res:AV} (hE:Qf Try.prog 116 res E) (ho:AllP [(decide ((i:Int)<(l.length:Int)))=false])
 (hr:AvLe (.int .i64 m) res):G Try.prog E (f116K0 Try.prog) (f116S0 l m i ) :=
 Qc (n:=400) (evs:=[.b false]) (obs:=_) hE Try.func116 Qi (by kernel_rfl) ho hr
theorem f116W0 (l:(List Int)) (m:Int) (i:Nat) {E:Env} {rv:Int} (hE:Qf Try.prog 116 (.int .i64 rv) E)
 (h:(((i:Int)<(l.length:Int)→(∃ e:Int,l[i]?=some e∧((I6 ((i:Int)+1))∧f116G0 E l (iMin m e) (i+1))))∧(¬ ((i:Int)<(l.length:Int))→rv=m))):f116G0 E l m i:=by
 rcases bft (decide ((i:Int)<(l.length:Int))) with hc0 | hc0
 · have h:=h.1 (odt hc0)
   obtain ⟨e,h1,h⟩:=h
   obtain ⟨q4_1,h⟩:=h
   exact p116_0_0 l m i e hE ⟨hc0,(Qn h1),(rp cI 1 0 1 h1),q4_1,trivial⟩ h
 · have h:=h.2 (odf hc0)
   exact p116_0_1 l m i hE ⟨hc0,trivial⟩ (AvLe.of_eq (by rw [h]; try rfl))
def Qu (k n:Int):Int:=if n=k then 1 else 0
theorem only_ok (n k:Int):Pure Try.prog 113 [.int .i64 n,.rptr [.int .i64 k] 0] (.int .i64 (Qu k n)):=Qq Try.func113 f113b fun E hE=>f113W n k (rv:=Qu k n) hE ⟨fun h=>by rw [Qu,if_pos h],fun h=>by rw [Qu,if_neg h]⟩
def WT (m:Mch) (n:Int):Int:=m.s.worth.getD (Int.toNat n) 0
def Qx (l:List Int) (i:Int):Int:=l.getD (Int.toNat i) 0
theorem planned1_ok (i:Int) (plan x:List Int) (h:0≤i∧Int.toNat i<plan.length):Pure Try.prog 119 [.int .i64 i,.rsl (rowI x) 0 x.length,.rptr [.rsl (rowI plan) 0 plan.length] 0] (.int .i64 (Qx plan i)):=Qq Try.func119 f119b fun E hE=>by
 have hg:plan[Int.toNat i]?=some plan[Int.toNat i]:=List.getElem?_eq_getElem h.2
 exact f119W i x plan (rv:=Qx plan i) hE ⟨h.1,_,hg,by simp [Qx,List.getD,hg]⟩
def idxV (l:List Int) (v:Int):Int:=idxG (fun e=>decide (v=e)) l
theorem WJ (l:List Int) (v:Int) (h:l.length≤1000000):Pure Try.prog 115 [.rsl (rowI l) 0 l.length,.int .i64 v] (.int .i64 (idxV l v)):=Qq Try.func115 f115b fun E hE=>by
 refine f115W l v (rv:=idxV l v) hE (Vy (fun e=>decide (v=e)) l l.length 0 (by omega) (fun j x hj=>by omega) (fun i=>f115G0 E l v i) (fun i hi' h1 h2=>?_) (fun _ h2=>?_))
 · have hx:l[i]?=some l[i]:=List.getElem?_eq_getElem hi'
   exact f115W0 l v i (rv:=idxV l v) hE ⟨fun _=>⟨_,hx,fun hp=>h1 _ hx (decide_eq_true hp),fun hp=>⟨by omega,h2 _ hx (decide_eq_false hp)⟩⟩,fun h=>by omega⟩
 · exact f115W0 l v _ (rv:=idxV l v) hE ⟨fun h=>by omega,fun _=>h2⟩
def maxF:Int→List Int→Int
 | m,[]=>m
 | m,x :: l=>maxF (iMax m x) l
def maxI (l:List Int):Int:=maxF (l.getD 0 0) (l.drop 1)
def minF:Int→List Int→Int
 | m,[]=>m
 | m,x :: l=>minF (iMin m x) l
def minI (l:List Int):Int:=minF (l.getD 0 0) (l.drop 1)
theorem max_ok (l:List Int) (h:0<l.length∧l.length≤1000000):Pure Try.prog 90 [.rsl (rowI l) 0 l.length] (.int .i64 (maxI l)):=Qq Try.func90 f90b fun E hE=>by
 have key:∀ (d i:Nat) (m:Int),i+d=l.length→maxI l=maxF m (l.drop i)→f90G0 E l m i:=by
  intro d
  induction d with
  | zero =>
   intro i m hd hm
   rw [List.drop_eq_nil_of_le (by omega),maxF] at hm
   exact f90W0 l m i (rv:=maxI l) hE ⟨fun h=>by omega,fun _=>hm⟩
  | succ d ih =>
   intro i m hd hm
   have hi:l[i]?=some l[i]:=List.getElem?_eq_getElem (by omega)
   rw [List.drop_eq_getElem_cons (by omega),maxF] at hm
   exact f90W0 l m i (rv:=maxI l) hE ⟨fun _=>⟨_,hi,by omega,ih (i+1) _ (by omega) hm⟩,fun h=>by omega⟩
 have h0:l[0]?=some l[0]:=List.getElem?_eq_getElem h.1
 exact f90W l (rv:=maxI l) hE ⟨fun h'=>by omega,fun _=>⟨_,h0,key (l.length - 1) 1 _ (by omega) (by simp [maxI,List.getD,h0])⟩⟩
theorem min_ok (l:List Int) (h:0<l.length∧l.length≤1000000):Pure Try.prog 116 [.rsl (rowI l) 0 l.length] (.int .i64 (minI l)):=Qq Try.func116 f116b fun E hE=>by
 have key:∀ (d i:Nat) (m:Int),i+d=l.length→minI l=minF m (l.drop i)→f116G0 E l m i:=by
  intro d
  induction d with
  | zero =>
   intro i m hd hm
   rw [List.drop_eq_nil_of_le (by omega),minF] at hm
   exact f116W0 l m i (rv:=minI l) hE ⟨fun h=>by omega,fun _=>hm⟩
  | succ d ih =>
   intro i m hd hm
   have hi:l[i]?=some l[i]:=List.getElem?_eq_getElem (by omega)
   rw [List.drop_eq_getElem_cons (by omega),minF] at hm
   exact f116W0 l m i (rv:=minI l) hE ⟨fun _=>⟨_,hi,by omega,ih (i+1) _ (by omega) hm⟩,fun h=>by omega⟩
 have h0:l[0]?=some l[0]:=List.getElem?_eq_getElem h.1
 exact f116W l (rv:=minI l) hE ⟨fun h'=>by omega,fun _=>⟨_,h0,key (l.length - 1) 1 _ (by omega) (by simp [minI,List.getD,h0])⟩⟩
theorem f114b:Try.f114.body=some (Qe Try.prog 114):=by kernel_rfl
theorem u114 {a c k:List AV} {r:AV} (h:Pure Try.prog 114 (a++c++k) r):Qg Try.prog (.clos 114 a k) c r:=Ql Try.func114 (by kernel_rfl) f114b h
abbrev z114_1 (i:Int) (l:(List Int)) (pa:Int) (m:Mch) (oa:Int):List AV:=[.int .i64 i,.rsl (rowI l) 0 l.length,.rptr [.int .i64 pa] 0,.rptr [.rptr [.rsl (Qd m.s.stages) 0 m.s.stages.length,.rsl (rowI m.s.worth) 0 m.s.worth.length,.int .i64 m.s.price,.rsl (rowI m.meas) 0 m.meas.length,.rsl (rowI m.mult) 0 m.mult.length] 0] 0,.rptr [.int .i64 oa] 0]
theorem p114_start_0 (i:Int) (l:(List Int)) (m:Mch) (pa oa:Int) (se:Stg) {E:Env} {res:AV} (hE:Qf Try.prog 114 res E) (ho:AllP [0≤i∧i<(m.s.stages.length:Int),((Qd m.s.stages).drop ((0+(Int.toNat i)*3)+0)).take 1=[.int .i64 se.kind],(se.kind == 3)=true,(oa == 2)=true,Qg Try.prog (.clos 90 [] []) [.rsl (rowI l) 0 l.length] (.int .i64 (maxI l)),Qg Try.prog (.clos 115 [] []) [.rsl (rowI l) 0 l.length,.int .i64 (maxI l)] (.int .i64 (idxV l (maxI l)))])
 (hr:AvLe (.int .i64 (idxV l (maxI l))) res):G Try.prog E [.code (Qe Try.prog 114)] ⟨(z114_1 i l pa m oa)++unds (Try.f114.ntmps - 5),[]⟩ :=
 Qc (n:=400) (evs:=[.auto,.auto,.auto,.ld (.int .i64 se.kind),.b true,.b true,.v (.int .i64 (maxI l)),.v (.int .i64 (idxV l (maxI l)))]) (obs:=_) hE Try.func114 Qi (by kernel_rfl) ho hr
theorem p114_start_1 (i:Int) (l:(List Int)) (m:Mch) (pa oa:Int) (se:Stg) {E:Env} {res:AV} (hE:Qf Try.prog 114 res E) (ho:AllP [0≤i∧i<(m.s.stages.length:Int),((Qd m.s.stages).drop ((0+(Int.toNat i)*3)+0)).take 1=[.int .i64 se.kind],(se.kind == 3)=true,(oa == 2)=false,Qg Try.prog (.clos 116 [] []) [.rsl (rowI l) 0 l.length] (.int .i64 (minI l)),Qg Try.prog (.clos 115 [] []) [.rsl (rowI l) 0 l.length,.int .i64 (minI l)] (.int .i64 (idxV l (minI l)))])
 (hr:AvLe (.int .i64 (idxV l (minI l))) res):G Try.prog E [.code (Qe Try.prog 114)] ⟨(z114_1 i l pa m oa)++unds (Try.f114.ntmps - 5),[]⟩ :=
 Qc (n:=400) (evs:=[.auto,.auto,.auto,.ld (.int .i64 se.kind),.b true,.b false,.v (.int .i64 (minI l)),.v (.int .i64 (idxV l (minI l)))]) (obs:=_) hE Try.func114 Qi (by kernel_rfl) ho hr
theorem p114_start_2 (i:Int) (l:(List Int)) (m:Mch) (pa oa:Int) (se:Stg) {E:Env} {res:AV} (hE:Qf Try.prog 114 res E) (ho:AllP [0≤i∧i<(m.s.stages.length:Int),((Qd m.s.stages).drop ((0+(Int.toNat i)*3)+0)).take 1=[.int .i64 se.kind],(se.kind == 3)=false,(pa == 2)=true,Qg Try.prog (.clos 90 [] []) [.rsl (rowI l) 0 l.length] (.int .i64 (maxI l)),Qg Try.prog (.clos 115 [] []) [.rsl (rowI l) 0 l.length,.int .i64 (maxI l)] (.int .i64 (idxV l (maxI l)))])
 (hr:AvLe (.int .i64 (idxV l (maxI l))) res):G Try.prog E [.code (Qe Try.prog 114)] ⟨(z114_1 i l pa m oa)++unds (Try.f114.ntmps - 5),[]⟩ :=
 Qc (n:=400) (evs:=[.auto,.auto,.auto,.ld (.int .i64 se.kind),.b false,.b true,.v (.int .i64 (maxI l)),.v (.int .i64 (idxV l (maxI l)))]) (obs:=_) hE Try.func114 Qi (by kernel_rfl) ho hr
theorem p114_start_3 (i:Int) (l:(List Int)) (m:Mch) (pa oa:Int) (se:Stg) {E:Env} {res:AV} (hE:Qf Try.prog 114 res E) (ho:AllP [0≤i∧i<(m.s.stages.length:Int),((Qd m.s.stages).drop ((0+(Int.toNat i)*3)+0)).take 1=[.int .i64 se.kind],(se.kind == 3)=false,(pa == 2)=false,Qg Try.prog (.clos 116 [] []) [.rsl (rowI l) 0 l.length] (.int .i64 (minI l)),Qg Try.prog (.clos 115 [] []) [.rsl (rowI l) 0 l.length,.int .i64 (minI l)] (.int .i64 (idxV l (minI l)))])
 (hr:AvLe (.int .i64 (idxV l (minI l))) res):G Try.prog E [.code (Qe Try.prog 114)] ⟨(z114_1 i l pa m oa)++unds (Try.f114.ntmps - 5),[]⟩ :=
 Qc (n:=400) (evs:=[.auto,.auto,.auto,.ld (.int .i64 se.kind),.b false,.b false,.v (.int .i64 (minI l)),.v (.int .i64 (idxV l (minI l)))]) (obs:=_) hE Try.func114 Qi (by kernel_rfl) ho hr
theorem f114W (i:Int) (l:(List Int)) (m:Mch) (pa oa:Int) {E:Env} {rv:Int} (hE:Qf Try.prog 114 (.int .i64 rv) E)
 (h:(0≤i∧(∃ se:Stg,m.s.stages[Int.toNat i]?=some se∧((se.kind=3→((oa=2→((0<l.length∧l.length≤1000000)∧((l.length≤1000000)∧rv=(idxV l (maxI l)))))∧(¬ (oa=2)→((0<l.length∧l.length≤1000000)∧((l.length≤1000000)∧rv=(idxV l (minI l)))))))∧(¬ (se.kind=3)→((pa=2→((0<l.length∧l.length≤1000000)∧((l.length≤1000000)∧rv=(idxV l (maxI l)))))∧(¬ (pa=2)→((0<l.length∧l.length≤1000000)∧((l.length≤1000000)∧rv=(idxV l (minI l))))))))))):G Try.prog E [.code (Qe Try.prog 114)] ⟨[.int .i64 i,.rsl (rowI l) 0 l.length,.rptr [.int .i64 pa] 0,.rptr [.rptr [.rsl (Qd m.s.stages) 0 m.s.stages.length,.rsl (rowI m.s.worth) 0 m.s.worth.length,.int .i64 m.s.price,.rsl (rowI m.meas) 0 m.meas.length,.rsl (rowI m.mult) 0 m.mult.length] 0] 0,.rptr [.int .i64 oa] 0]++unds (Try.f114.ntmps - 5),[]⟩:=by
 obtain ⟨h2,h⟩:=h
 obtain ⟨se,h1,h⟩:=h
 rcases bft (se.kind == 3) with hc0 | hc0
 · have h:=h.1 (eq_of_beq hc0)
   rcases bft (oa == 2) with hc1 | hc1
   · have h:=h.1 (eq_of_beq hc1)
     obtain ⟨h3,h⟩:=h
     obtain ⟨h4,h⟩:=h
     exact p114_start_0 i l m pa oa se hE ⟨(Qj h2 h1),(rp cStg 3 0 1 h1),hc0,hc1,(u90 (max_ok l h3)),(u115 (WJ l (maxI l) h4)),trivial⟩ (AvLe.of_eq (by rw [h]; try rfl))
   · have h:=h.2 (ne_of_beq_false hc1)
     obtain ⟨h3,h⟩:=h
     obtain ⟨h4,h⟩:=h
     exact p114_start_1 i l m pa oa se hE ⟨(Qj h2 h1),(rp cStg 3 0 1 h1),hc0,hc1,(u116 (min_ok l h3)),(u115 (WJ l (minI l) h4)),trivial⟩ (AvLe.of_eq (by rw [h]; try rfl))
 · have h:=h.2 (ne_of_beq_false hc0)
   rcases bft (pa == 2) with hc1 | hc1
   · have h:=h.1 (eq_of_beq hc1)
     obtain ⟨h3,h⟩:=h
     obtain ⟨h4,h⟩:=h
     exact p114_start_2 i l m pa oa se hE ⟨(Qj h2 h1),(rp cStg 3 0 1 h1),hc0,hc1,(u90 (max_ok l h3)),(u115 (WJ l (maxI l) h4)),trivial⟩ (AvLe.of_eq (by rw [h]; try rfl))
   · have h:=h.2 (ne_of_beq_false hc1)
     obtain ⟨h3,h⟩:=h
     obtain ⟨h4,h⟩:=h
     exact p114_start_3 i l m pa oa se hE ⟨(Qj h2 h1),(rp cStg 3 0 1 h1),hc0,hc1,(u116 (min_ok l h3)),(u115 (WJ l (minI l) h4)),trivial⟩ (AvLe.of_eq (by rw [h]; try rfl))
def Qo (m:Mch) (pa oa i:Int) (l:List Int):Int:=if (if (m.s.stages.getD (Int.toNat i) ⟨0,0,[]⟩).kind=3 then oa else pa)=2 then idxV l (maxI l) else idxV l (minI l)
theorem choose_ok (i:Int) (l:List Int) (m:Mch) (pa oa:Int) (h:(0≤i∧Int.toNat i<m.s.stages.length)∧0<l.length∧l.length≤1000000):Pure Try.prog 114 [.int .i64 i,.rsl (rowI l) 0 l.length,.rptr [.int .i64 pa] 0,.rptr [.rptr (cMch m) 0] 0,.rptr [.int .i64 oa] 0] (.int .i64 (Qo m pa oa i l)):=Qq Try.func114 f114b fun E hE=>by
 have hg:m.s.stages[Int.toNat i]?=some m.s.stages[Int.toNat i]:=List.getElem?_eq_getElem h.1.2
 have hx:m.s.stages.getD (Int.toNat i) ⟨0,0,[]⟩=m.s.stages[Int.toNat i]:=by simp [List.getD,hg]
 refine f114W i l m pa oa (rv:=Qo m pa oa i l) hE ⟨h.1.1,_,hg,fun h1=>⟨fun h2=>⟨h.2,h.2.2,?_⟩,fun h2=>⟨h.2,h.2.2,?_⟩⟩,fun h1=>⟨fun h2=>⟨h.2,h.2.2,?_⟩,fun h2=>⟨h.2,h.2.2,?_⟩⟩⟩
 · rw [Qo,hx,if_pos h1,if_pos h2]
 · rw [Qo,hx,if_pos h1,if_neg h2]
 · rw [Qo,hx,if_neg h1,if_pos h2]
 · rw [Qo,hx,if_neg h1,if_neg h2]
theorem f76b:Try.f76.body=some (Qe Try.prog 76):=by kernel_rfl
theorem u76 {a c k:List AV} {r:AV} (h:Pure Try.prog 76 (a++c++k) r):Qg Try.prog (.clos 76 a k) c r:=Ql Try.func76 (by kernel_rfl) f76b h
theorem p76_start_0 (k:Int) {E:Env} {res:AV} (hE:Qf Try.prog 76 res E) (ho:AllP [])
 (hr:AvLe (.clos 113 [] [.rptr [.int .i64 k] 0]) res):G Try.prog E [.code (Qe Try.prog 76)] ⟨[.int .i64 k]++unds (Try.f76.ntmps - 1),[]⟩ :=
 Qc (n:=400) (evs:=[]) (obs:=_) hE Try.func76 Qi (by kernel_rfl) ho hr
theorem f76W (k:Int) {E:Env} {rv:AV} (hE:Qf Try.prog 76 rv E)
 (h:rv=(.clos 113 [] [.rptr [.int .i64 k] 0])):G Try.prog E [.code (Qe Try.prog 76)] ⟨[.int .i64 k]++unds (Try.f76.ntmps - 1),[]⟩:=by
 exact p76_start_0 k hE trivial (AvLe.of_eq (by rw [h]; try rfl))
theorem f77b:Try.f77.body=some (Qe Try.prog 77):=by kernel_rfl
theorem u77 {a c k:List AV} {r:AV} (h:Pure Try.prog 77 (a++c++k) r):Qg Try.prog (.clos 77 a k) c r:=Ql Try.func77 (by kernel_rfl) f77b h
abbrev z77_1 (m:Mch):List AV:=[.rsl (Qd m.s.stages) 0 m.s.stages.length,.rsl (rowI m.s.worth) 0 m.s.worth.length,.int .i64 m.s.price,.rsl (rowI m.meas) 0 m.meas.length,.rsl (rowI m.mult) 0 m.mult.length]
theorem p77_start_0 (pa:Int) (oa:Int) (m:Mch) {E:Env} {res:AV} (hE:Qf Try.prog 77 res E) (ho:AllP [])
 (hr:AvLe (.clos 114 [] [.rptr [.int .i64 pa] 0,.rptr [.rptr (z77_1 m) 0] 0,.rptr [.int .i64 oa] 0]) res):G Try.prog E [.code (Qe Try.prog 77)] ⟨[.rptr (z77_1 m) 0,.int .i64 pa,.int .i64 oa]++unds (Try.f77.ntmps - 3),[]⟩ :=
 Qc (n:=400) (evs:=[]) (obs:=_) hE Try.func77 Qi (by kernel_rfl) ho hr
theorem f77W (pa:Int) (oa:Int) (m:Mch) {E:Env} {rv:AV} (hE:Qf Try.prog 77 rv E)
 (h:rv=(.clos 114 [] [.rptr [.int .i64 pa] 0,.rptr [.rptr [.rsl (Qd m.s.stages) 0 m.s.stages.length,.rsl (rowI m.s.worth) 0 m.s.worth.length,.int .i64 m.s.price,.rsl (rowI m.meas) 0 m.meas.length,.rsl (rowI m.mult) 0 m.mult.length] 0] 0,.rptr [.int .i64 oa] 0])):G Try.prog E [.code (Qe Try.prog 77)] ⟨[.rptr [.rsl (Qd m.s.stages) 0 m.s.stages.length,.rsl (rowI m.s.worth) 0 m.s.worth.length,.int .i64 m.s.price,.rsl (rowI m.meas) 0 m.meas.length,.rsl (rowI m.mult) 0 m.mult.length] 0,.int .i64 pa,.int .i64 oa]++unds (Try.f77.ntmps - 3),[]⟩:=by
 exact p77_start_0 pa oa m hE trivial (AvLe.of_eq (by rw [h]; try rfl))
theorem f94b:Try.f94.body=some (Qe Try.prog 94):=by kernel_rfl
theorem u94 {a c k:List AV} {r:AV} (h:Pure Try.prog 94 (a++c++k) r):Qg Try.prog (.clos 94 a k) c r:=Ql Try.func94 (by kernel_rfl) f94b h
theorem p94_start_0 (plan:(List Int)) {E:Env} {res:AV} (hE:Qf Try.prog 94 res E) (ho:AllP [])
 (hr:AvLe (.clos 119 [] [.rptr [.rsl (rowI plan) 0 plan.length] 0]) res):G Try.prog E [.code (Qe Try.prog 94)] ⟨[.rsl (rowI plan) 0 plan.length]++unds (Try.f94.ntmps - 1),[]⟩ :=
 Qc (n:=400) (evs:=[]) (obs:=_) hE Try.func94 Qi (by kernel_rfl) ho hr
theorem f94W (plan:(List Int)) {E:Env} {rv:AV} (hE:Qf Try.prog 94 rv E)
 (h:rv=(.clos 119 [] [.rptr [.rsl (rowI plan) 0 plan.length] 0])):G Try.prog E [.code (Qe Try.prog 94)] ⟨[.rsl (rowI plan) 0 plan.length]++unds (Try.f94.ntmps - 1),[]⟩:=by
 exact p94_start_0 plan hE trivial (AvLe.of_eq (by rw [h]; try rfl))
theorem mkonly_ok (k:Int):Pure Try.prog 76 [.int .i64 k] (.clos 113 [] [.rptr [.int .i64 k] 0]):=Qq Try.func76 f76b fun E hE=>f76W k hE rfl
theorem mkaims_ok (m:Mch) (pa oa:Int):Pure Try.prog 77 [.rptr (cMch m) 0,.int .i64 pa,.int .i64 oa] (.clos 114 [] [.rptr [.int .i64 pa] 0,.rptr [.rptr (cMch m) 0] 0,.rptr [.int .i64 oa] 0]):=Qq Try.func77 f77b fun E hE=>f77W pa oa m hE rfl
theorem mkplanned_ok (plan:List Int):Pure Try.prog 94 [.rsl (rowI plan) 0 plan.length] (.clos 119 [] [.rptr [.rsl (rowI plan) 0 plan.length] 0]):=Qq Try.func94 f94b fun E hE=>f94W plan hE rfl
end Go.Proofs.Ytfgmlaeikcfpbaa