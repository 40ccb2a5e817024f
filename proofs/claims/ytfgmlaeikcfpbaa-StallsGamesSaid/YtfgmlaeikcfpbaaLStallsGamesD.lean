/- A part of the proof: several texts, one behind the other. -/
import Derived.Test.YtfgmlaeikcfpbaaLStallsGamesC
set_option linter.unusedVariables false
set_option linter.unusedSimpArgs false
set_option maxRecDepth 100000
namespace Go.Proofs.Ytfgmlaeikcfpbaa
open Go Ax
open Go.Proofs
theorem f112b:Try.f112.body=some (Qg Try.prog 112):=by kernel_rfl
theorem u112 {a c k:List AV} {r:AV} (h:Pure Try.prog 112 (a++c++k) r):Qb Try.prog (.clos 112 a k) c r:=Qv Try.func112 (by kernel_rfl) f112b h
theorem p112_start_0 (n:Int) {E:Env} {res:AV} (hE:Qh Try.prog 112 res E) (ho:AllP [(n != 1)=true])
 (hr:AvLe (.bool (n != 2)) res):G Try.prog E [.code (Qg Try.prog 112)] ⟨[.int .i64 n]++unds (Try.f112.ntmps - 1),[]⟩ :=
 Qc (n:=400) (evs:=[.b true]) (obs:=_) hE Try.func112 Qj (by kernel_rfl) ho hr
theorem p112_start_1 (n:Int) {E:Env} {res:AV} (hE:Qh Try.prog 112 res E) (ho:AllP [(n != 1)=false])
 (hr:AvLe (.bool false) res):G Try.prog E [.code (Qg Try.prog 112)] ⟨[.int .i64 n]++unds (Try.f112.ntmps - 1),[]⟩ :=
 Qc (n:=400) (evs:=[.b false]) (obs:=_) hE Try.func112 Qj (by kernel_rfl) ho hr
theorem f112W (n:Int) {E:Env} {rv:Bool} (hE:Qh Try.prog 112 (.bool rv) E)
 (h:((¬ (n=1)→rv=(n != 2))∧(n=1→rv=false))):G Try.prog E [.code (Qg Try.prog 112)] ⟨[.int .i64 n]++unds (Try.f112.ntmps - 1),[]⟩:=by
 rcases bft (n != 1) with hc0 | hc0
 · have h:=h.1 (bneT hc0)
   exact p112_start_0 n hE ⟨hc0,trivial⟩ (AvLe.of_eq (by rw [h]; try rfl))
 · have h:=h.2 (bneF hc0)
   exact p112_start_1 n hE ⟨hc0,trivial⟩ (AvLe.of_eq (by rw [h]; try rfl))
def XZ (n:Int):Bool:=decide (n=1) || decide (n=2)
theorem noaim_ok (n:Int):Pure Try.prog 112 [.int .i64 n] (.bool (!XZ n)):=QG Try.func112 f112b fun E hE=>by
 refine f112W n (rv:=!XZ n) hE ⟨fun h=>?_,fun h=>by simp [XZ,h]⟩
 by_cases h2:n=2
 · simp [XZ,h,h2]
 · simp [XZ,h,h2]
def Wg (P:Program):List Item:=kAt 400 [.code (Qg P 120)] [.stop]
def Kn (l:(List Int)) (i:Nat):St:=⟨([.rsl (rowI l) 0 l.length,.clos 112 [] []]++jj 5 ([.int .i64 (l.length:Int),.int .i64 (i:Int)]++Js 10)),[]⟩
def Ko (E:Env) (l:(List Int)) (i:Nat):Prop:=G Try.prog E (Wg Try.prog) (Kn l i )
theorem yV (l:(List Int)) {E:Env} {rv:AV} (hE:Qh Try.prog 120 rv E) (ho:AllP [])
 (hg:G Try.prog E (Wg Try.prog) ⟨([.rsl (rowI l) 0 l.length,.clos 112 [] []]++jj 5 ([.int .i64 (l.length:Int),.int .i64 0]++Js 10)),[]⟩):G Try.prog E [.code (Qg Try.prog 120)] ⟨[.rsl (rowI l) 0 l.length,.clos 112 [] []]++unds (Try.f120.ntmps - 2),[]⟩ :=
 Qm (n:=400) (ds:=[]) (cs:=[]) (live:=[0,1,7,8]) (m:=0) (evs:=[.stop]) (obs:=_) hE.2.1 (hE.nogh _) Qj (by kernel_rfl) ho hg
theorem f120aW (l:(List Int)) {E:Env} {rv:Int} (hE:Qh Try.prog 120 (.int .i64 rv) E)
 (h:Ko E l 0):G Try.prog E [.code (Qg Try.prog 120)] ⟨[.rsl (rowI l) 0 l.length,.clos 112 [] []]++unds (Try.f120.ntmps - 2),[]⟩:=by
 exact yV l hE trivial h
theorem p120a_0_0 (l:(List Int)) (i:Nat) (e:Int) {E:Env} {res:AV} (hE:Qh Try.prog 120 res E) (ho:AllP [(decide ((i:Int)<(l.length:Int)))=true,0≤(i:Int)∧(i:Int)<(l.length:Int),((rowI l).drop (0+(Int.toNat (i:Int))*1)).take 1=[.int .i64 e],Qb Try.prog (.clos 112 [] []) [.int .i64 e] (.bool (!XZ e)),(!XZ e)=true])
 (hr:AvLe (.int .i64 (i:Int)) res):G Try.prog E (Wg Try.prog) (Kn l i ) :=
 Qc (n:=400) (evs:=[.b true,.ld (.int .i64 e),.v (.bool (!XZ e)),.b true]) (obs:=_) hE Try.func120 Qj (by kernel_rfl) ho hr
theorem p120a_0_1 (l:(List Int)) (i:Nat) (e:Int) {E:Env} {rv:AV} (hE:Qh Try.prog 120 rv E) (ho:AllP [(decide ((i:Int)<(l.length:Int)))=true,0≤(i:Int)∧(i:Int)<(l.length:Int),((rowI l).drop (0+(Int.toNat (i:Int))*1)).take 1=[.int .i64 e],Qb Try.prog (.clos 112 [] []) [.int .i64 e] (.bool (!XZ e)),(!XZ e)=false,InR .i64 ((i:Int)+1)])
 (hg:G Try.prog E (Wg Try.prog) ⟨([.rsl (rowI l) 0 l.length,.clos 112 [] []]++jj 5 ([.int .i64 (l.length:Int),.int .i64 ((i:Int)+1)]++Js 10)),[]⟩):G Try.prog E (Wg Try.prog) (Kn l i ) :=
 Qm (n:=400) (ds:=[]) (cs:=[]) (live:=[0,1,7,8]) (m:=0) (evs:=[.b true,.ld (.int .i64 e),.v (.bool (!XZ e)),.b false,.stop]) (obs:=_) hE.2.1 (hE.nogh _) Qj (by kernel_rfl) ho hg
theorem p120a_0_2 (l:(List Int)) (i:Nat) {E:Env} {res:AV} (hE:Qh Try.prog 120 res E) (ho:AllP [(decide ((i:Int)<(l.length:Int)))=false])
 (hr:AvLe (.int .i64 (-1)) res):G Try.prog E (Wg Try.prog) (Kn l i ) :=
 Qc (n:=400) (evs:=[.b false]) (obs:=_) hE Try.func120 Qj (by kernel_rfl) ho hr
theorem f120aW0 (l:(List Int)) (i:Nat) {E:Env} {rv:Int} (hE:Qh Try.prog 120 (.int .i64 rv) E)
 (h:(((i:Int)<(l.length:Int)→(∃ e:Int,l[i]?=some e∧(((!XZ e)=true→rv=(i:Int))∧((!XZ e)=false→((I6 ((i:Int)+1))∧Ko E l (i+1))))))∧(¬ ((i:Int)<(l.length:Int))→rv=(-1)))):Ko E l i:=by
 rcases bft (decide ((i:Int)<(l.length:Int))) with hc0 | hc0
 · have h:=h.1 (odt hc0)
   obtain ⟨e,h1,h⟩:=h
   rcases bft (!XZ e) with hc1 | hc1
   · have h:=h.1 hc1
     exact p120a_0_0 l i e hE ⟨hc0,(Xd h1),(rp cI 1 0 1 h1),(u112 (noaim_ok e)),hc1,trivial⟩ (AvLe.of_eq (by rw [h]; try rfl))
   · have h:=h.2 hc1
     obtain ⟨q6_2,h⟩:=h
     exact p120a_0_1 l i e hE ⟨hc0,(Xd h1),(rp cI 1 0 1 h1),(u112 (noaim_ok e)),hc1,q6_2,trivial⟩ h
 · have h:=h.2 (odf hc0)
   exact p120a_0_2 l i hE ⟨hc0,trivial⟩ (AvLe.of_eq (by rw [h]; try rfl))
theorem idxA_ok (l:List Int) (h:l.length≤9223372036854775807):Pure Try.prog 120 [.rsl (rowI l) 0 l.length,.clos 112 [] []] (.int .i64 (idxG (fun n=>!XZ n) l)):=QG Try.func120 f120b fun E hE=>by
 refine f120aW l hE (VG (fun n=>!XZ n) l l.length 0 (by omega) (fun j x hj=>by omega) (fun i=>Ko E l i) (fun i hi' h1 h2=>?_) (fun _ h2=>?_))
 · have hx:l[i]?=some l[i]:=List.getElem?_eq_getElem hi'
   exact f120aW0 l i hE ⟨fun _=>⟨_,hx,fun hp=>h1 _ hx hp,fun hp=>⟨by omega,h2 _ hx hp⟩⟩,fun h=>by omega⟩
 · exact f120aW0 l _ hE ⟨fun h=>by omega,fun _=>h2⟩
theorem p96a_start_0 (l:(List Int)) {E:Env} {res:AV} (hE:Qh Try.prog 96 res E) (ho:AllP [Qb Try.prog (.clos 120 [] []) [.rsl (rowI l) 0 l.length,.clos 112 [] []] (.int .i64 (idxG (fun n=>!XZ n) l))])
 (hr:AvLe (.bool (decide ((idxG (fun n=>!XZ n) l)≥0))) res):G Try.prog E [.code (Qg Try.prog 96)] ⟨[.rsl (rowI l) 0 l.length,.clos 112 [] []]++unds (Try.f96.ntmps - 2),[]⟩ :=
 Qc (n:=400) (evs:=[.v (.int .i64 (idxG (fun n=>!XZ n) l))]) (obs:=_) hE Try.func96 Qj (by kernel_rfl) ho hr
theorem f96aW (l:(List Int)) {E:Env} {rv:Bool} (hE:Qh Try.prog 96 (.bool rv) E)
 (h:((l.length≤9223372036854775807)∧rv=(decide ((idxG (fun n=>!XZ n) l)≥0)))):G Try.prog E [.code (Qg Try.prog 96)] ⟨[.rsl (rowI l) 0 l.length,.clos 112 [] []]++unds (Try.f96.ntmps - 2),[]⟩:=by
 obtain ⟨h1,h⟩:=h
 exact p96a_start_0 l hE ⟨(u120 (idxA_ok l h1)),trivial⟩ (AvLe.of_eq (by rw [h]; try rfl))
theorem anyA_ok (l:List Int) (h:l.length≤9223372036854775807):Pure Try.prog 96 [.rsl (rowI l) 0 l.length,.clos 112 [] []] (.bool (l.any fun n=>!XZ n)):=QG Try.func96 f96b fun E hE =>
 f96aW l hE ⟨h,(Kh _ l).symm⟩
theorem f74b:Try.f74.body=some (Qg Try.prog 74):=by kernel_rfl
theorem u74 {a c k:List AV} {r:AV} (h:Pure Try.prog 74 (a++c++k) r):Qb Try.prog (.clos 74 a k) c r:=Qv Try.func74 (by kernel_rfl) f74b h
theorem p74_start_0 (l:(List Int)) {E:Env} {res:AV} (hE:Qh Try.prog 74 res E) (ho:AllP [Qb Try.prog (.clos 96 [] []) [.rsl (rowI l) 0 l.length,.clos 112 [] []] (.bool (l.any (fun n=>!XZ n)))])
 (hr:AvLe (.bool (!(l.any (fun n=>!XZ n)))) res):G Try.prog E [.code (Qg Try.prog 74)] ⟨[.rsl (rowI l) 0 l.length]++unds (Try.f74.ntmps - 1),[]⟩ :=
 Qc (n:=400) (evs:=[.v (.bool (l.any (fun n=>!XZ n)))]) (obs:=_) hE Try.func74 Qj (by kernel_rfl) ho hr
theorem f74W (l:(List Int)) {E:Env} {rv:Bool} (hE:Qh Try.prog 74 (.bool rv) E)
 (h:((l.length≤9223372036854775807)∧rv=(!(l.any (fun n=>!XZ n))))):G Try.prog E [.code (Qg Try.prog 74)] ⟨[.rsl (rowI l) 0 l.length]++unds (Try.f74.ntmps - 1),[]⟩:=by
 obtain ⟨h1,h⟩:=h
 exact p74_start_0 l hE ⟨(u96 (anyA_ok l h1)),trivial⟩ (AvLe.of_eq (by rw [h]; try rfl))
theorem f73b:Try.f73.body=some (Qg Try.prog 73):=by kernel_rfl
theorem u73 {a c k:List AV} {r:AV} (h:Pure Try.prog 73 (a++c++k) r):Qb Try.prog (.clos 73 a k) c r:=Qv Try.func73 (by kernel_rfl) f73b h
theorem p73_start_0 (n:Int) (m:Mch) {E:Env} {res:AV} (hE:Qh Try.prog 73 res E) (ho:AllP [InR .i64 ((m.s.worth.length:Int) - 1),Qb Try.prog (.clos 65 [] []) [.int .i64 n,.int .i64 0,.int .i64 ((m.s.worth.length:Int) - 1)] (.bool (Qf n 0 ((m.s.worth.length:Int) - 1)))])
 (hr:AvLe (.bool (Qf n 0 ((m.s.worth.length:Int) - 1))) res):G Try.prog E [.code (Qg Try.prog 73)] ⟨[.rptr [.rsl (Qi m.s.stages) 0 m.s.stages.length,.rsl (rowI m.s.worth) 0 m.s.worth.length,.int .i64 m.s.price,.rsl (rowI m.meas) 0 m.meas.length,.rsl (rowI m.mult) 0 m.mult.length] 0,.int .i64 n]++unds (Try.f73.ntmps - 2),[]⟩ :=
 Qc (n:=400) (evs:=[.v (.bool (Qf n 0 ((m.s.worth.length:Int) - 1)))]) (obs:=_) hE Try.func73 Qj (by kernel_rfl) ho hr
theorem f73W (n:Int) (m:Mch) {E:Env} {rv:Bool} (hE:Qh Try.prog 73 (.bool rv) E)
 (h:((I6 ((m.s.worth.length:Int) - 1))∧rv=(Qf n 0 ((m.s.worth.length:Int) - 1)))):G Try.prog E [.code (Qg Try.prog 73)] ⟨[.rptr [.rsl (Qi m.s.stages) 0 m.s.stages.length,.rsl (rowI m.s.worth) 0 m.s.worth.length,.int .i64 m.s.price,.rsl (rowI m.meas) 0 m.meas.length,.rsl (rowI m.mult) 0 m.mult.length] 0,.int .i64 n]++unds (Try.f73.ntmps - 2),[]⟩:=by
 obtain ⟨q0_0,h⟩:=h
 exact p73_start_0 n m hE ⟨q0_0,(u65 (Qu n 0 ((m.s.worth.length:Int) - 1))),trivial⟩ (AvLe.of_eq (by rw [h]; try rfl))
def qS (l:List Int):Bool:=!(l.any fun n=>!XZ n)
theorem aims_ok (l:List Int) (h:l.length≤9223372036854775807):Pure Try.prog 74 [.rsl (rowI l) 0 l.length] (.bool (qS l)):=QG Try.func74 f74b fun E hE=>f74W l (rv:=qS l) hE ⟨h,rfl⟩
def VF (m:Mch) (n:Int):Bool:=Qf n 0 ((m.s.worth.length:Int) - 1)
theorem kind_ok (m:Mch) (n:Int) (h:m.s.worth.length≤1000000):Pure Try.prog 73 [.rptr (cMch m) 0,.int .i64 n] (.bool (VF m n)):=QG Try.func73 f73b fun E hE=>f73W n m (rv:=VF m n) hE ⟨by omega,rfl⟩
theorem f113b:Try.f113.body=some (Qg Try.prog 113):=by kernel_rfl
theorem u113 {a c k:List AV} {r:AV} (h:Pure Try.prog 113 (a++c++k) r):Qb Try.prog (.clos 113 a k) c r:=Qv Try.func113 (by kernel_rfl) f113b h
theorem p113_start_0 (n:Int) (kd:Int) {E:Env} {res:AV} (hE:Qh Try.prog 113 res E) (ho:AllP [(n == kd)=true])
 (hr:AvLe (.int .i64 1) res):G Try.prog E [.code (Qg Try.prog 113)] ⟨[.int .i64 n,.rptr [.int .i64 kd] 0]++unds (Try.f113.ntmps - 2),[]⟩ :=
 Qc (n:=400) (evs:=[.b true]) (obs:=_) hE Try.func113 Qj (by kernel_rfl) ho hr
theorem p113_start_1 (n:Int) (kd:Int) {E:Env} {res:AV} (hE:Qh Try.prog 113 res E) (ho:AllP [(n == kd)=false])
 (hr:AvLe (.int .i64 0) res):G Try.prog E [.code (Qg Try.prog 113)] ⟨[.int .i64 n,.rptr [.int .i64 kd] 0]++unds (Try.f113.ntmps - 2),[]⟩ :=
 Qc (n:=400) (evs:=[.b false]) (obs:=_) hE Try.func113 Qj (by kernel_rfl) ho hr
theorem f113W (n:Int) (kd:Int) {E:Env} {rv:Int} (hE:Qh Try.prog 113 (.int .i64 rv) E)
 (h:((n=kd→rv=1)∧(¬ (n=kd)→rv=0))):G Try.prog E [.code (Qg Try.prog 113)] ⟨[.int .i64 n,.rptr [.int .i64 kd] 0]++unds (Try.f113.ntmps - 2),[]⟩:=by
 rcases bft (n == kd) with hc0 | hc0
 · have h:=h.1 (eq_of_beq hc0)
   exact p113_start_0 n kd hE ⟨hc0,trivial⟩ (AvLe.of_eq (by rw [h]; try rfl))
 · have h:=h.2 (ne_of_beq_false hc0)
   exact p113_start_1 n kd hE ⟨hc0,trivial⟩ (AvLe.of_eq (by rw [h]; try rfl))
theorem f115b:Try.f115.body=some (Qg Try.prog 115):=by kernel_rfl
theorem u115 {a c k:List AV} {r:AV} (h:Pure Try.prog 115 (a++c++k) r):Qb Try.prog (.clos 115 a k) c r:=Qv Try.func115 (by kernel_rfl) f115b h
def yC (P:Program):List Item:=kAt 400 [.code (Qg P 115)] [.stop]
def f115S0 (l:(List Int)) (v:Int) (i:Nat):St:=⟨([.rsl (rowI l) 0 l.length,.int .i64 v]++jj 5 ([.int .i64 (l.length:Int),.int .i64 (i:Int)]++Js 10)),[]⟩
def f115G0 (E:Env) (l:(List Int)) (v:Int) (i:Nat):Prop:=G Try.prog E (yC Try.prog) (f115S0 l v i )
theorem p115_start_0 (l:(List Int)) (v:Int) {E:Env} {rv:AV} (hE:Qh Try.prog 115 rv E) (ho:AllP [])
 (hg:G Try.prog E (yC Try.prog) ⟨([.rsl (rowI l) 0 l.length,.int .i64 v]++jj 5 ([.int .i64 (l.length:Int),.int .i64 0]++Js 10)),[]⟩):G Try.prog E [.code (Qg Try.prog 115)] ⟨[.rsl (rowI l) 0 l.length,.int .i64 v]++unds (Try.f115.ntmps - 2),[]⟩ :=
 Qm (n:=400) (ds:=[]) (cs:=[]) (live:=[0,1,7,8]) (m:=0) (evs:=[.stop]) (obs:=_) hE.2.1 (hE.nogh _) Qj (by kernel_rfl) ho hg
theorem f115W (l:(List Int)) (v:Int) {E:Env} {rv:Int} (hE:Qh Try.prog 115 (.int .i64 rv) E)
 (h:f115G0 E l v 0):G Try.prog E [.code (Qg Try.prog 115)] ⟨[.rsl (rowI l) 0 l.length,.int .i64 v]++unds (Try.f115.ntmps - 2),[]⟩:=by
 exact p115_start_0 l v hE trivial h
theorem p115_0_0 (l:(List Int)) (v:Int) (i:Nat) (e:Int) {E:Env} {res:AV} (hE:Qh Try.prog 115 res E) (ho:AllP [(decide ((i:Int)<(l.length:Int)))=true,0≤(i:Int)∧(i:Int)<(l.length:Int),((rowI l).drop (0+(Int.toNat (i:Int))*1)).take 1=[.int .i64 e],(v == e)=true])
 (hr:AvLe (.int .i64 (i:Int)) res):G Try.prog E (yC Try.prog) (f115S0 l v i ) :=
 Qc (n:=400) (evs:=[.b true,.ld (.int .i64 e),.b true]) (obs:=_) hE Try.func115 Qj (by kernel_rfl) ho hr
theorem p115_0_1 (l:(List Int)) (v:Int) (i:Nat) (e:Int) {E:Env} {rv:AV} (hE:Qh Try.prog 115 rv E) (ho:AllP [(decide ((i:Int)<(l.length:Int)))=true,0≤(i:Int)∧(i:Int)<(l.length:Int),((rowI l).drop (0+(Int.toNat (i:Int))*1)).take 1=[.int .i64 e],(v == e)=false,InR .i64 ((i:Int)+1)])
 (hg:G Try.prog E (yC Try.prog) ⟨([.rsl (rowI l) 0 l.length,.int .i64 v]++jj 5 ([.int .i64 (l.length:Int),.int .i64 ((i:Int)+1)]++Js 10)),[]⟩):G Try.prog E (yC Try.prog) (f115S0 l v i ) :=
 Qm (n:=400) (ds:=[]) (cs:=[]) (live:=[0,1,7,8]) (m:=0) (evs:=[.b true,.ld (.int .i64 e),.b false,.stop]) (obs:=_) hE.2.1 (hE.nogh _) Qj (by kernel_rfl) ho hg
theorem p115_0_2 (l:(List Int)) (v:Int) (i:Nat) {E:Env} {res:AV} (hE:Qh Try.prog 115 res E) (ho:AllP [(decide ((i:Int)<(l.length:Int)))=false])
 (hr:AvLe (.int .i64 (-1)) res):G Try.prog E (yC Try.prog) (f115S0 l v i ) :=
 Qc (n:=400) (evs:=[.b false]) (obs:=_) hE Try.func115 Qj (by kernel_rfl) ho hr
theorem f115W0 (l:(List Int)) (v:Int) (i:Nat) {E:Env} {rv:Int} (hE:Qh Try.prog 115 (.int .i64 rv) E)
 (h:(((i:Int)<(l.length:Int)→(∃ e:Int,l[i]?=some e∧((v=e→rv=(i:Int))∧(¬ (v=e)→((I6 ((i:Int)+1))∧f115G0 E l v (i+1))))))∧(¬ ((i:Int)<(l.length:Int))→rv=(-1)))):f115G0 E l v i:=by
 rcases bft (decide ((i:Int)<(l.length:Int))) with hc0 | hc0
 · have h:=h.1 (odt hc0)
   obtain ⟨e,h1,h⟩:=h
   rcases bft (v == e) with hc1 | hc1
   · have h:=h.1 (eq_of_beq hc1)
     exact p115_0_0 l v i e hE ⟨hc0,(Xd h1),(rp cI 1 0 1 h1),hc1,trivial⟩ (AvLe.of_eq (by rw [h]; try rfl))
   · have h:=h.2 (ne_of_beq_false hc1)
     obtain ⟨q5_2,h⟩:=h
     exact p115_0_1 l v i e hE ⟨hc0,(Xd h1),(rp cI 1 0 1 h1),hc1,q5_2,trivial⟩ h
 · have h:=h.2 (odf hc0)
   exact p115_0_2 l v i hE ⟨hc0,trivial⟩ (AvLe.of_eq (by rw [h]; try rfl))
theorem f90b:Try.f90.body=some (Qg Try.prog 90):=by kernel_rfl
theorem u90 {a c k:List AV} {r:AV} (h:Pure Try.prog 90 (a++c++k) r):Qb Try.prog (.clos 90 a k) c r:=Qv Try.func90 (by kernel_rfl) f90b h
def f90K0 (P:Program):List Item:=kAt 400 [.code (Qg P 90)] [.b false,.stop]
def f90S0 (l:(List Int)) (m:Int) (i:Nat):St:=⟨([.rsl (rowI l) 0 l.length,J,J,.int .i64 m,.int .i64 (i:Int)]++Js 20),[]⟩
def f90G0 (E:Env) (l:(List Int)) (m:Int) (i:Nat):Prop:=G Try.prog E (f90K0 Try.prog) (f90S0 l m i )
theorem p90_start_1 (l:(List Int)) (e:Int) {E:Env} {rv:AV} (hE:Qh Try.prog 90 rv E) (ho:AllP [(decide ((l.length:Int)<1))=false,(0:Int)≤0∧(0:Int)<(l.length:Int),((rowI l).drop (0+0*1)).take 1=[.int .i64 e]])
 (hg:G Try.prog E (f90K0 Try.prog) ⟨([.rsl (rowI l) 0 l.length,J,J,.int .i64 e,.int .i64 1]++Js 20),[]⟩):G Try.prog E [.code (Qg Try.prog 90)] ⟨[.rsl (rowI l) 0 l.length]++unds (Try.f90.ntmps - 1),[]⟩ :=
 Qm (n:=400) (ds:=[]) (cs:=[]) (live:=[0,3,4]) (m:=0) (evs:=[.b false,.ld (.int .i64 e),.stop]) (obs:=_) hE.2.1 (hE.nogh _) Qj (by kernel_rfl) ho hg
theorem f90W (l:(List Int)) {E:Env} {rv:Int} (hE:Qh Try.prog 90 (.int .i64 rv) E)
 (h:(((l.length:Int)<1→False)∧(¬ ((l.length:Int)<1)→(∃ e:Int,l[0]?=some e∧f90G0 E l e 1)))):G Try.prog E [.code (Qg Try.prog 90)] ⟨[.rsl (rowI l) 0 l.length]++unds (Try.f90.ntmps - 1),[]⟩:=by
 rcases bft (decide ((l.length:Int)<1)) with hc0 | hc0
 · have h:=h.1 (odt hc0)
   exact h.elim
 · have h:=h.2 (odf hc0)
   obtain ⟨e,h1,h⟩:=h
   exact p90_start_1 l e hE ⟨hc0,(Xd h1),(rp cI 1 0 1 h1),trivial⟩ h
theorem p90_0_0 (l:(List Int)) (m:Int) (i:Nat) (e:Int) {E:Env} {rv:AV} (hE:Qh Try.prog 90 rv E) (ho:AllP [(decide ((i:Int)<(l.length:Int)))=true,0≤(i:Int)∧(i:Int)<(l.length:Int),((rowI l).drop (0+(Int.toNat (i:Int))*1)).take 1=[.int .i64 e],InR .i64 ((i:Int)+1)])
 (hg:G Try.prog E (f90K0 Try.prog) ⟨([.rsl (rowI l) 0 l.length,J,J,.int .i64 (iMax m e),.int .i64 ((i:Int)+1)]++Js 20),[]⟩):G Try.prog E (f90K0 Try.prog) (f90S0 l m i ) :=
 Qm (n:=400) (ds:=[]) (cs:=[]) (live:=[0,3,4]) (m:=0) (evs:=[.b true,.ld (.int .i64 e),.stop]) (obs:=_) hE.2.1 (hE.nogh _) Qj (by kernel_rfl) ho hg
theorem p90_0_1 (l:(List Int)) (m:Int) (i:Nat) {E:Env} {res:AV} (hE:Qh Try.prog 90 res E) (ho:AllP [(decide ((i:Int)<(l.length:Int)))=false])
 (hr:AvLe (.int .i64 m) res):G Try.prog E (f90K0 Try.prog) (f90S0 l m i ) :=
 Qc (n:=400) (evs:=[.b false]) (obs:=_) hE Try.func90 Qj (by kernel_rfl) ho hr
theorem f90W0 (l:(List Int)) (m:Int) (i:Nat) {E:Env} {rv:Int} (hE:Qh Try.prog 90 (.int .i64 rv) E)
 (h:(((i:Int)<(l.length:Int)→(∃ e:Int,l[i]?=some e∧((I6 ((i:Int)+1))∧f90G0 E l (iMax m e) (i+1))))∧(¬ ((i:Int)<(l.length:Int))→rv=m))):f90G0 E l m i:=by
 rcases bft (decide ((i:Int)<(l.length:Int))) with hc0 | hc0
 · have h:=h.1 (odt hc0)
   obtain ⟨e,h1,h⟩:=h
   obtain ⟨q4_1,h⟩:=h
   exact p90_0_0 l m i e hE ⟨hc0,(Xd h1),(rp cI 1 0 1 h1),q4_1,trivial⟩ h
 · have h:=h.2 (odf hc0)
   exact p90_0_1 l m i hE ⟨hc0,trivial⟩ (AvLe.of_eq (by rw [h]; try rfl))
theorem f116b:Try.f116.body=some (Qg Try.prog 116):=by kernel_rfl
theorem u116 {a c k:List AV} {r:AV} (h:Pure Try.prog 116 (a++c++k) r):Qb Try.prog (.clos 116 a k) c r:=Qv Try.func116 (by kernel_rfl) f116b h
def f116K0 (P:Program):List Item:=kAt 400 [.code (Qg P 116)] [.b false,.stop]
def f116S0 (l:(List Int)) (m:Int) (i:Nat):St:=⟨([.rsl (rowI l) 0 l.length,J,J,.int .i64 m,.int .i64 (i:Int)]++Js 20),[]⟩
def f116G0 (E:Env) (l:(List Int)) (m:Int) (i:Nat):Prop:=G Try.prog E (f116K0 Try.prog) (f116S0 l m i )
theorem p116_start_1 (l:(List Int)) (e:Int) {E:Env} {rv:AV} (hE:Qh Try.prog 116 rv E) (ho:AllP [(decide ((l.length:Int)<1))=false,(0:Int)≤0∧(0:Int)<(l.length:Int),((rowI l).drop (0+0*1)).take 1=[.int .i64 e]])
 (hg:G Try.prog E (f116K0 Try.prog) ⟨([.rsl (rowI l) 0 l.length,J,J,.int .i64 e,.int .i64 1]++Js 20),[]⟩):G Try.prog E [.code (Qg Try.prog 116)] ⟨[.rsl (rowI l) 0 l.length]++unds (Try.f116.ntmps - 1),[]⟩ :=
 Qm (n:=400) (ds:=[]) (cs:=[]) (live:=[0,3,4]) (m:=0) (evs:=[.b false,.ld (.int .i64 e),.stop]) (obs:=_) hE.2.1 (hE.nogh _) Qj (by kernel_rfl) ho hg
theorem f116W (l:(List Int)) {E:Env} {rv:Int} (hE:Qh Try.prog 116 (.int .i64 rv) E)
 (h:(((l.length:Int)<1→False)∧(¬ ((l.length:Int)<1)→(∃ e:Int,l[0]?=some e∧f116G0 E l e 1)))):G Try.prog E [.code (Qg Try.prog 116)] ⟨[.rsl (rowI l) 0 l.length]++unds (Try.f116.ntmps - 1),[]⟩:=by
 rcases bft (decide ((l.length:Int)<1)) with hc0 | hc0
 · have h:=h.1 (odt hc0)
   exact h.elim
 · have h:=h.2 (odf hc0)
   obtain ⟨e,h1,h⟩:=h
   exact p116_start_1 l e hE ⟨hc0,(Xd h1),(rp cI 1 0 1 h1),trivial⟩ h
theorem p116_0_0 (l:(List Int)) (m:Int) (i:Nat) (e:Int) {E:Env} {rv:AV} (hE:Qh Try.prog 116 rv E) (ho:AllP [(decide ((i:Int)<(l.length:Int)))=true,0≤(i:Int)∧(i:Int)<(l.length:Int),((rowI l).drop (0+(Int.toNat (i:Int))*1)).take 1=[.int .i64 e],InR .i64 ((i:Int)+1)])
 (hg:G Try.prog E (f116K0 Try.prog) ⟨([.rsl (rowI l) 0 l.length,J,J,.int .i64 (iMin m e),.int .i64 ((i:Int)+1)]++Js 20),[]⟩):G Try.prog E (f116K0 Try.prog) (f116S0 l m i ) :=
 Qm (n:=400) (ds:=[]) (cs:=[]) (live:=[0,3,4]) (m:=0) (evs:=[.b true,.ld (.int .i64 e),.stop]) (obs:=_) hE.2.1 (hE.nogh _) Qj (by kernel_rfl) ho hg
theorem p116_0_1 (l:(List Int)) (m:Int) (i:Nat) {E:Env} {res:AV} (hE:Qh Try.prog 116 res E) (ho:AllP [(decide ((i:Int)<(l.length:Int)))=false])
 (hr:AvLe (.int .i64 m) res):G Try.prog E (f116K0 Try.prog) (f116S0 l m i ) :=
 Qc (n:=400) (evs:=[.b false]) (obs:=_) hE Try.func116 Qj (by kernel_rfl) ho hr
theorem f116W0 (l:(List Int)) (m:Int) (i:Nat) {E:Env} {rv:Int} (hE:Qh Try.prog 116 (.int .i64 rv) E)
 (h:(((i:Int)<(l.length:Int)→(∃ e:Int,l[i]?=some e∧((I6 ((i:Int)+1))∧f116G0 E l (iMin m e) (i+1))))∧(¬ ((i:Int)<(l.length:Int))→rv=m))):f116G0 E l m i:=by
 rcases bft (decide ((i:Int)<(l.length:Int))) with hc0 | hc0
 · have h:=h.1 (odt hc0)
   obtain ⟨e,h1,h⟩:=h
   obtain ⟨q4_1,h⟩:=h
   exact p116_0_0 l m i e hE ⟨hc0,(Xd h1),(rp cI 1 0 1 h1),q4_1,trivial⟩ h
 · have h:=h.2 (odf hc0)
   exact p116_0_1 l m i hE ⟨hc0,trivial⟩ (AvLe.of_eq (by rw [h]; try rfl))
def QV (k n:Int):Int:=if n=k then 1 else 0
theorem only_ok (n k:Int):Pure Try.prog 113 [.int .i64 n,.rptr [.int .i64 k] 0] (.int .i64 (QV k n)):=QG Try.func113 f113b fun E hE=>f113W n k (rv:=QV k n) hE ⟨fun h=>by rw [QV,if_pos h],fun h=>by rw [QV,if_neg h]⟩
def WT (m:Mch) (n:Int):Int:=m.s.worth.getD (Int.toNat n) 0
def planI (l:List Int) (i:Int):Int:=l.getD (Int.toNat i) 0
def idxV (l:List Int) (v:Int):Int:=idxG (fun e=>decide (v=e)) l
theorem WL (l:List Int) (v:Int) (h:l.length≤1000000):Pure Try.prog 115 [.rsl (rowI l) 0 l.length,.int .i64 v] (.int .i64 (idxV l v)):=QG Try.func115 f115b fun E hE=>by
 refine f115W l v (rv:=idxV l v) hE (VG (fun e=>decide (v=e)) l l.length 0 (by omega) (fun j x hj=>by omega) (fun i=>f115G0 E l v i) (fun i hi' h1 h2=>?_) (fun _ h2=>?_))
 · have hx:l[i]?=some l[i]:=List.getElem?_eq_getElem hi'
   exact f115W0 l v i (rv:=idxV l v) hE ⟨fun _=>⟨_,hx,fun hp=>h1 _ hx (decide_eq_true hp),fun hp=>⟨by omega,h2 _ hx (decide_eq_false hp)⟩⟩,fun h=>by omega⟩
 · exact f115W0 l v _ (rv:=idxV l v) hE ⟨fun h=>by omega,fun _=>h2⟩
def maxF:Int→List Int→Int
 | m,[]=>m
 | m,x :: l=>maxF (iMax m x) l
def maxI (l:List Int):Int:=maxF (l.getD 0 0) (l.drop 1)
def minF:Int→List Int→Int
 | m,[]=>m
 | m,x :: l=>minF (iMin m x) l
def minI (l:List Int):Int:=minF (l.getD 0 0) (l.drop 1)
theorem max_ok (l:List Int) (h:0<l.length∧l.length≤1000000):Pure Try.prog 90 [.rsl (rowI l) 0 l.length] (.int .i64 (maxI l)):=QG Try.func90 f90b fun E hE=>by
 have key:∀ (d i:Nat) (m:Int),i+d=l.length→maxI l=maxF m (l.drop i)→f90G0 E l m i:=by
  intro d
  induction d with
  | zero =>
   intro i m hd hm
   rw [List.drop_eq_nil_of_le (by omega),maxF] at hm
   exact f90W0 l m i (rv:=maxI l) hE ⟨fun h=>by omega,fun _=>hm⟩
  | succ d ih =>
   intro i m hd hm
   have hi:l[i]?=some l[i]:=List.getElem?_eq_getElem (by omega)
   rw [List.drop_eq_getElem_cons (by omega),maxF] at hm
   exact f90W0 l m i (rv:=maxI l) hE ⟨fun _=>⟨_,hi,by omega,ih (i+1) _ (by omega) hm⟩,fun h=>by omega⟩
 have h0:l[0]?=some l[0]:=List.getElem?_eq_getElem h.1
 exact f90W l (rv:=maxI l) hE ⟨fun h'=>by omega,fun _=>⟨_,h0,key (l.length - 1) 1 _ (by omega) (by simp [maxI,List.getD,h0])⟩⟩
theorem min_ok (l:List Int) (h:0<l.length∧l.length≤1000000):Pure Try.prog 116 [.rsl (rowI l) 0 l.length] (.int .i64 (minI l)):=QG Try.func116 f116b fun E hE=>by
 have key:∀ (d i:Nat) (m:Int),i+d=l.length→minI l=minF m (l.drop i)→f116G0 E l m i:=by
  intro d
  induction d with
  | zero =>
   intro i m hd hm
   rw [List.drop_eq_nil_of_le (by omega),minF] at hm
   exact f116W0 l m i (rv:=minI l) hE ⟨fun h=>by omega,fun _=>hm⟩
  | succ d ih =>
   intro i m hd hm
   have hi:l[i]?=some l[i]:=List.getElem?_eq_getElem (by omega)
   rw [List.drop_eq_getElem_cons (by omega),minF] at hm
   exact f116W0 l m i (rv:=minI l) hE ⟨fun _=>⟨_,hi,by omega,ih (i+1) _ (by omega) hm⟩,fun h=>by omega⟩
 have h0:l[0]?=some l[0]:=List.getElem?_eq_getElem h.1
 exact f116W l (rv:=minI l) hE ⟨fun h'=>by omega,fun _=>⟨_,h0,key (l.length - 1) 1 _ (by omega) (by simp [minI,List.getD,h0])⟩⟩
theorem f114b:Try.f114.body=some (Qg Try.prog 114):=by kernel_rfl
theorem u114 {a c k:List AV} {r:AV} (h:Pure Try.prog 114 (a++c++k) r):Qb Try.prog (.clos 114 a k) c r:=Qv Try.func114 (by kernel_rfl) f114b h
abbrev z114_1 (i:Int) (l:(List Int)) (pa:Int) (m:Mch) (oa:Int):List AV:=[.int .i64 i,.rsl (rowI l) 0 l.length,.rptr [.int .i64 pa] 0,.rptr [.rptr [.rsl (Qi m.s.stages) 0 m.s.stages.length,.rsl (rowI m.s.worth) 0 m.s.worth.length,.int .i64 m.s.price,.rsl (rowI m.meas) 0 m.meas.length,.rsl (rowI m.mult) 0 m.mult.length] 0] 0,.rptr [.int .i64 oa] 0]
theorem p114_start_0 (i:Int) (l:(List Int)) (m:Mch) (pa oa:Int) (se:Stg) {E:Env} {res:AV} (hE:Qh Try.prog 114 res E) (ho:AllP [0≤i∧i<(m.s.stages.length:Int),((Qi m.s.stages).drop ((0+(Int.toNat i)*3)+0)).take 1=[.int .i64 se.kind],(se.kind == 3)=true,(oa == 2)=true,Qb Try.prog (.clos 90 [] []) [.rsl (rowI l) 0 l.length] (.int .i64 (maxI l)),Qb Try.prog (.clos 115 [] []) [.rsl (rowI l) 0 l.length,.int .i64 (maxI l)] (.int .i64 (idxV l (maxI l)))])
 (hr:AvLe (.int .i64 (idxV l (maxI l))) res):G Try.prog E [.code (Qg Try.prog 114)] ⟨(z114_1 i l pa m oa)++unds (Try.f114.ntmps - 5),[]⟩ :=
 Qc (n:=400) (evs:=[.auto,.auto,.auto,.ld (.int .i64 se.kind),.b true,.b true,.v (.int .i64 (maxI l)),.v (.int .i64 (idxV l (maxI l)))]) (obs:=_) hE Try.func114 Qj (by kernel_rfl) ho hr
theorem p114_start_1 (i:Int) (l:(List Int)) (m:Mch) (pa oa:Int) (se:Stg) {E:Env} {res:AV} (hE:Qh Try.prog 114 res E) (ho:AllP [0≤i∧i<(m.s.stages.length:Int),((Qi m.s.stages).drop ((0+(Int.toNat i)*3)+0)).take 1=[.int .i64 se.kind],(se.kind == 3)=true,(oa == 2)=false,Qb Try.prog (.clos 116 [] []) [.rsl (rowI l) 0 l.length] (.int .i64 (minI l)),Qb Try.prog (.clos 115 [] []) [.rsl (rowI l) 0 l.length,.int .i64 (minI l)] (.int .i64 (idxV l (minI l)))])
 (hr:AvLe (.int .i64 (idxV l (minI l))) res):G Try.prog E [.code (Qg Try.prog 114)] ⟨(z114_1 i l pa m oa)++unds (Try.f114.ntmps - 5),[]⟩ :=
 Qc (n:=400) (evs:=[.auto,.auto,.auto,.ld (.int .i64 se.kind),.b true,.b false,.v (.int .i64 (minI l)),.v (.int .i64 (idxV l (minI l)))]) (obs:=_) hE Try.func114 Qj (by kernel_rfl) ho hr
theorem p114_start_2 (i:Int) (l:(List Int)) (m:Mch) (pa oa:Int) (se:Stg) {E:Env} {res:AV} (hE:Qh Try.prog 114 res E) (ho:AllP [0≤i∧i<(m.s.stages.length:Int),((Qi m.s.stages).drop ((0+(Int.toNat i)*3)+0)).take 1=[.int .i64 se.kind],(se.kind == 3)=false,(pa == 2)=true,Qb Try.prog (.clos 90 [] []) [.rsl (rowI l) 0 l.length] (.int .i64 (maxI l)),Qb Try.prog (.clos 115 [] []) [.rsl (rowI l) 0 l.length,.int .i64 (maxI l)] (.int .i64 (idxV l (maxI l)))])
 (hr:AvLe (.int .i64 (idxV l (maxI l))) res):G Try.prog E [.code (Qg Try.prog 114)] ⟨(z114_1 i l pa m oa)++unds (Try.f114.ntmps - 5),[]⟩ :=
 Qc (n:=400) (evs:=[.auto,.auto,.auto,.ld (.int .i64 se.kind),.b false,.b true,.v (.int .i64 (maxI l)),.v (.int .i64 (idxV l (maxI l)))]) (obs:=_) hE Try.func114 Qj (by kernel_rfl) ho hr
theorem p114_start_3 (i:Int) (l:(List Int)) (m:Mch) (pa oa:Int) (se:Stg) {E:Env} {res:AV} (hE:Qh Try.prog 114 res E) (ho:AllP [0≤i∧i<(m.s.stages.length:Int),((Qi m.s.stages).drop ((0+(Int.toNat i)*3)+0)).take 1=[.int .i64 se.kind],(se.kind == 3)=false,(pa == 2)=false,Qb Try.prog (.clos 116 [] []) [.rsl (rowI l) 0 l.length] (.int .i64 (minI l)),Qb Try.prog (.clos 115 [] []) [.rsl (rowI l) 0 l.length,.int .i64 (minI l)] (.int .i64 (idxV l (minI l)))])
 (hr:AvLe (.int .i64 (idxV l (minI l))) res):G Try.prog E [.code (Qg Try.prog 114)] ⟨(z114_1 i l pa m oa)++unds (Try.f114.ntmps - 5),[]⟩ :=
 Qc (n:=400) (evs:=[.auto,.auto,.auto,.ld (.int .i64 se.kind),.b false,.b false,.v (.int .i64 (minI l)),.v (.int .i64 (idxV l (minI l)))]) (obs:=_) hE Try.func114 Qj (by kernel_rfl) ho hr
theorem f114W (i:Int) (l:(List Int)) (m:Mch) (pa oa:Int) {E:Env} {rv:Int} (hE:Qh Try.prog 114 (.int .i64 rv) E)
 (h:(0≤i∧(∃ se:Stg,m.s.stages[Int.toNat i]?=some se∧((se.kind=3→((oa=2→((0<l.length∧l.length≤1000000)∧((l.length≤1000000)∧rv=(idxV l (maxI l)))))∧(¬ (oa=2)→((0<l.length∧l.length≤1000000)∧((l.length≤1000000)∧rv=(idxV l (minI l)))))))∧(¬ (se.kind=3)→((pa=2→((0<l.length∧l.length≤1000000)∧((l.length≤1000000)∧rv=(idxV l (maxI l)))))∧(¬ (pa=2)→((0<l.length∧l.length≤1000000)∧((l.length≤1000000)∧rv=(idxV l (minI l))))))))))):G Try.prog E [.code (Qg Try.prog 114)] ⟨[.int .i64 i,.rsl (rowI l) 0 l.length,.rptr [.int .i64 pa] 0,.rptr [.rptr [.rsl (Qi m.s.stages) 0 m.s.stages.length,.rsl (rowI m.s.worth) 0 m.s.worth.length,.int .i64 m.s.price,.rsl (rowI m.meas) 0 m.meas.length,.rsl (rowI m.mult) 0 m.mult.length] 0] 0,.rptr [.int .i64 oa] 0]++unds (Try.f114.ntmps - 5),[]⟩:=by
 obtain ⟨h2,h⟩:=h
 obtain ⟨se,h1,h⟩:=h
 rcases bft (se.kind == 3) with hc0 | hc0
 · have h:=h.1 (eq_of_beq hc0)
   rcases bft (oa == 2) with hc1 | hc1
   · have h:=h.1 (eq_of_beq hc1)
     obtain ⟨h3,h⟩:=h
     obtain ⟨h4,h⟩:=h
     exact p114_start_0 i l m pa oa se hE ⟨(QD h2 h1),(rp cStg 3 0 1 h1),hc0,hc1,(u90 (max_ok l h3)),(u115 (WL l (maxI l) h4)),trivial⟩ (AvLe.of_eq (by rw [h]; try rfl))
   · have h:=h.2 (ne_of_beq_false hc1)
     obtain ⟨h3,h⟩:=h
     obtain ⟨h4,h⟩:=h
     exact p114_start_1 i l m pa oa se hE ⟨(QD h2 h1),(rp cStg 3 0 1 h1),hc0,hc1,(u116 (min_ok l h3)),(u115 (WL l (minI l) h4)),trivial⟩ (AvLe.of_eq (by rw [h]; try rfl))
 · have h:=h.2 (ne_of_beq_false hc0)
   rcases bft (pa == 2) with hc1 | hc1
   · have h:=h.1 (eq_of_beq hc1)
     obtain ⟨h3,h⟩:=h
     obtain ⟨h4,h⟩:=h
     exact p114_start_2 i l m pa oa se hE ⟨(QD h2 h1),(rp cStg 3 0 1 h1),hc0,hc1,(u90 (max_ok l h3)),(u115 (WL l (maxI l) h4)),trivial⟩ (AvLe.of_eq (by rw [h]; try rfl))
   · have h:=h.2 (ne_of_beq_false hc1)
     obtain ⟨h3,h⟩:=h
     obtain ⟨h4,h⟩:=h
     exact p114_start_3 i l m pa oa se hE ⟨(QD h2 h1),(rp cStg 3 0 1 h1),hc0,hc1,(u116 (min_ok l h3)),(u115 (WL l (minI l) h4)),trivial⟩ (AvLe.of_eq (by rw [h]; try rfl))
def Qt (m:Mch) (pa oa i:Int) (l:List Int):Int:=if (if (m.s.stages.getD (Int.toNat i) ⟨0,0,[]⟩).kind=3 then oa else pa)=2 then idxV l (maxI l) else idxV l (minI l)
theorem choose_ok (i:Int) (l:List Int) (m:Mch) (pa oa:Int) (h:(0≤i∧Int.toNat i<m.s.stages.length)∧0<l.length∧l.length≤1000000):Pure Try.prog 114 [.int .i64 i,.rsl (rowI l) 0 l.length,.rptr [.int .i64 pa] 0,.rptr [.rptr (cMch m) 0] 0,.rptr [.int .i64 oa] 0] (.int .i64 (Qt m pa oa i l)):=QG Try.func114 f114b fun E hE=>by
 have hg:m.s.stages[Int.toNat i]?=some m.s.stages[Int.toNat i]:=List.getElem?_eq_getElem h.1.2
 have hx:m.s.stages.getD (Int.toNat i) ⟨0,0,[]⟩=m.s.stages[Int.toNat i]:=by simp [List.getD,hg]
 refine f114W i l m pa oa (rv:=Qt m pa oa i l) hE ⟨h.1.1,_,hg,fun h1=>⟨fun h2=>⟨h.2,h.2.2,?_⟩,fun h2=>⟨h.2,h.2.2,?_⟩⟩,fun h1=>⟨fun h2=>⟨h.2,h.2.2,?_⟩,fun h2=>⟨h.2,h.2.2,?_⟩⟩⟩
 · rw [Qt,hx,if_pos h1,if_pos h2]
 · rw [Qt,hx,if_pos h1,if_neg h2]
 · rw [Qt,hx,if_neg h1,if_pos h2]
 · rw [Qt,hx,if_neg h1,if_neg h2]
theorem f76b:Try.f76.body=some (Qg Try.prog 76):=by kernel_rfl
theorem u76 {a c k:List AV} {r:AV} (h:Pure Try.prog 76 (a++c++k) r):Qb Try.prog (.clos 76 a k) c r:=Qv Try.func76 (by kernel_rfl) f76b h
theorem p76_start_0 (k:Int) {E:Env} {res:AV} (hE:Qh Try.prog 76 res E) (ho:AllP [])
 (hr:AvLe (.clos 113 [] [.rptr [.int .i64 k] 0]) res):G Try.prog E [.code (Qg Try.prog 76)] ⟨[.int .i64 k]++unds (Try.f76.ntmps - 1),[]⟩ :=
 Qc (n:=400) (evs:=[]) (obs:=_) hE Try.func76 Qj (by kernel_rfl) ho hr
theorem f76W (k:Int) {E:Env} {rv:AV} (hE:Qh Try.prog 76 rv E)
 (h:rv=(.clos 113 [] [.rptr [.int .i64 k] 0])):G Try.prog E [.code (Qg Try.prog 76)] ⟨[.int .i64 k]++unds (Try.f76.ntmps - 1),[]⟩:=by
 exact p76_start_0 k hE trivial (AvLe.of_eq (by rw [h]; try rfl))
theorem f77b:Try.f77.body=some (Qg Try.prog 77):=by kernel_rfl
theorem u77 {a c k:List AV} {r:AV} (h:Pure Try.prog 77 (a++c++k) r):Qb Try.prog (.clos 77 a k) c r:=Qv Try.func77 (by kernel_rfl) f77b h
abbrev z77_1 (m:Mch):List AV:=[.rsl (Qi m.s.stages) 0 m.s.stages.length,.rsl (rowI m.s.worth) 0 m.s.worth.length,.int .i64 m.s.price,.rsl (rowI m.meas) 0 m.meas.length,.rsl (rowI m.mult) 0 m.mult.length]
theorem p77_start_0 (pa:Int) (oa:Int) (m:Mch) {E:Env} {res:AV} (hE:Qh Try.prog 77 res E) (ho:AllP [])
 (hr:AvLe (.clos 114 [] [.rptr [.int .i64 pa] 0,.rptr [.rptr (z77_1 m) 0] 0,.rptr [.int .i64 oa] 0]) res):G Try.prog E [.code (Qg Try.prog 77)] ⟨[.rptr (z77_1 m) 0,.int .i64 pa,.int .i64 oa]++unds (Try.f77.ntmps - 3),[]⟩ :=
 Qc (n:=400) (evs:=[]) (obs:=_) hE Try.func77 Qj (by kernel_rfl) ho hr
theorem f77W (pa:Int) (oa:Int) (m:Mch) {E:Env} {rv:AV} (hE:Qh Try.prog 77 rv E)
 (h:rv=(.clos 114 [] [.rptr [.int .i64 pa] 0,.rptr [.rptr [.rsl (Qi m.s.stages) 0 m.s.stages.length,.rsl (rowI m.s.worth) 0 m.s.worth.length,.int .i64 m.s.price,.rsl (rowI m.meas) 0 m.meas.length,.rsl (rowI m.mult) 0 m.mult.length] 0] 0,.rptr [.int .i64 oa] 0])):G Try.prog E [.code (Qg Try.prog 77)] ⟨[.rptr [.rsl (Qi m.s.stages) 0 m.s.stages.length,.rsl (rowI m.s.worth) 0 m.s.worth.length,.int .i64 m.s.price,.rsl (rowI m.meas) 0 m.meas.length,.rsl (rowI m.mult) 0 m.mult.length] 0,.int .i64 pa,.int .i64 oa]++unds (Try.f77.ntmps - 3),[]⟩:=by
 exact p77_start_0 pa oa m hE trivial (AvLe.of_eq (by rw [h]; try rfl))
theorem mkonly_ok (k:Int):Pure Try.prog 76 [.int .i64 k] (.clos 113 [] [.rptr [.int .i64 k] 0]):=QG Try.func76 f76b fun E hE=>f76W k hE rfl
theorem mkaims_ok (m:Mch) (pa oa:Int):Pure Try.prog 77 [.rptr (cMch m) 0,.int .i64 pa,.int .i64 oa] (.clos 114 [] [.rptr [.int .i64 pa] 0,.rptr [.rptr (cMch m) 0] 0,.rptr [.int .i64 oa] 0]):=QG Try.func77 f77b fun E hE=>f77W pa oa m hE rfl
end Go.Proofs.Ytfgmlaeikcfpbaa
namespace Go.Proofs.Ytfgmlaeikcfpbaa
open Go Ax
open Go.Proofs
/-! ### What is so of a machine -/
structure MInv (s:Stl) (i:Nat) (me mu:List Int):Prop where
 l1:me.length=s.stages.length
 l2:mu.length=s.stages.length
 pos:∀ (j:Nat) (v:Int),i≤j→me[j]?=some v→0<v∧v≤1000000000000
 rel:∀ (j:Nat) (x:Stg),i≤j→s.stages[j]?=some x→∃ q,mu[j]?=some q∧me[j]?=some (if x.kind=1 then q*totI x else q)∧(0<q∧q≤1000000000000)∧∀ t ∈ x.turns,me.getD (Int.toNat t.to) 0∣q
theorem getD_set_ne {l:List Int} {i k:Nat} {v:Int} (h:i ≠ k):(l.set i v).getD k 0=l.getD k 0:=by
 simp [List.getD,List.getElem?_set_ne h]
theorem multI_dvd {me:List Int}:∀ {l:List Trn} {m q:Int},(∀ t ∈ l,0<me.getD (Int.toNat t.to) 0)→(0<m∧m≤1000000000000)→YA me m l=some q→(0<q∧q≤1000000000000)∧m∣q∧∀ t ∈ l,me.getD (Int.toNat t.to) 0∣q
 | [],m,q,_,hm,h=>by
  simp only [YA,Option.some.injEq] at h; subst h
  exact ⟨hm,Int.dvd_refl _,by simp⟩
 | t :: l,m,q,hp,hm,h=>by
  simp only [YA] at h
  split at h
  · cases h
  · rename_i h1
    have hv:=hp t (by simp)
    have lp:=Ke hm.1 hv
    obtain ⟨a,b,c⟩:=multI_dvd (fun t ht=>hp t (by simp [ht])) ⟨lp,by omega⟩ h
    have e1:m∣lcmI m (me.getD (Int.toNat t.to) 0):=⟨_,rfl⟩
    have e2:me.getD (Int.toNat t.to) 0∣lcmI m (me.getD (Int.toNat t.to) 0):=⟨Int.tdiv m (gcdI m (me.getD (Int.toNat t.to) 0)),by rw [lcmI,← (lcm_eq hm.1 hv).1,Int.mul_comm]⟩
    refine ⟨a,Int.dvd_trans e1 b,fun t' ht'=>?_⟩
    rcases List.mem_cons.1 ht' with rfl | ht'
    · exact Int.dvd_trans e2 b
    · exact c t' ht'
theorem Yt {s:Stl} {i:Nat} {x:Stg} (hi:s.stages[i]?=some x) (hf:Xi s i=true):∀ t ∈ x.turns,i<Int.toNat t.to∧Int.toNat t.to<s.stages.length∧0≤t.to:=fun t htm=>by
 rcases Vd hi hf with ⟨-,h2,-⟩ | ⟨-,-,-,h4,-,-⟩
 · rw [h2] at htm; simp at htm
 · have:=h4 t htm; omega
theorem minv_step {s:Stl} {i:Nat} {x:Stg} {me mu:List Int} (hform:∀ j,j<s.stages.length→Xi s j=true) (hi:s.stages[i]?=some x) (h:MInv s (i+1) me mu) (hk:(QR x i me mu).1=true) :
 MInv s i (QR x i me mu).2.1 (QR x i me mu).2.2:=by
 have hlt:=(List.getElem?_eq_some_iff.1 hi).1
 have hf:=hform i hlt
 obtain ⟨a,b,c⟩:=ql (mu:=mu) hi hf ⟨h.l1,fun j v hj=>h.pos j v hj⟩ hk
 have hto:=Yt hi hf
 have hpos:∀ t ∈ x.turns,0<me.getD (Int.toNat t.to) 0:=fun t ht=>by
  have h1:=hto t ht
  have hg:me[Int.toNat t.to]?=some (me[Int.toNat t.to]'(by rw [h.l1]; exact h1.2.1)):=List.getElem?_eq_getElem _
  have:=(h.pos _ _ (by omega) hg).1
  simpa [List.getD,hg] using this
 refine ⟨a,by rw [b,h.l2],fun j v hj=>c j v hj,?_⟩
 cases hm:YA me 1 x.turns with
 | none=>simp [QR,hm] at hk
 | some m =>
  obtain ⟨m1,-,m3⟩:=multI_dvd hpos (by omega) hm
  have hto2:=WY hi hf
  have fin:∀ w:Int,w=(if x.kind=1 then m*totI x else m)→∀ (j:Nat) (y:Stg),i≤j→s.stages[j]?=some y→∃ q,(mu.set i m)[j]?=some q∧(me.set i w)[j]?=some (if y.kind=1 then q*totI y else q)∧(0<q∧q≤1000000000000)∧∀ t ∈ y.turns,(me.set i w).getD (Int.toNat t.to) 0∣q:=fun w hw j y hj hy=>by
   by_cases e:i=j
   · subst e
     rw [hi] at hy; cases hy
     refine ⟨m,by rw [List.getElem?_set_self (by rw [h.l2]; exact hlt)],by rw [List.getElem?_set_self (by rw [h.l1]; exact hlt),hw],m1,fun t ht=>?_⟩
     rw [getD_set_ne (by have:=hto t ht; omega)]
     exact m3 t ht
   · obtain ⟨q,q1,q2,q3,q4⟩:=h.rel j y (by omega) hy
     refine ⟨q,by rw [List.getElem?_set_ne e]; exact q1,by rw [List.getElem?_set_ne e]; exact q2,q3,fun t ht=>?_⟩
     have:=Yt hy (hform j (List.getElem?_eq_some_iff.1 hy).1) t ht
     rw [getD_set_ne (by omega)]
     exact q4 t ht
  simp only [QR,hm] at hk ⊢
  by_cases hk1:x.kind=1
  · simp only [if_pos hk1] at hk ⊢
    refine fin _ ?_
    rcases prod_of (a:=m) (b:=totI x) (by omega) (hto2.2 hk1).1 with ⟨h1,-⟩ | ⟨h1,-⟩
    · rw [h1] at hk; cases hk
    · rw [h1,if_pos hk1]
  · simp only [if_neg hk1] at hk ⊢
    exact fin _ (by rw [if_neg hk1])
theorem minv_all {s:Stl} (hform:∀ j,j<s.stages.length→Xi s j=true):∀ {n:Nat} {me mu:List Int} {r:List Int × List Int},n≤s.stages.length→MInv s n me mu→YT s n me mu=some r→MInv s 0 r.1 r.2
 | 0,me,mu,r,_,h,hr=>by simp only [YT,Option.some.injEq] at hr; subst hr; exact h
 | i+1,me,mu,r,hn,h,hr=>by
  have hi:s.stages[i]?=some s.stages[i]:=List.getElem?_eq_getElem (by omega)
  have hx:s.stages.getD i ⟨0,0,[]⟩=s.stages[i]:=by simp [List.getD,hi]
  simp only [YT,hx] at hr
  split at hr
  · rename_i hk
    exact minv_all hform (by omega) (minv_step hform hi h hk) hr
  · cases hr
structure MOk (m:Mch):Prop where
 st:Yy m.s=true
 inv:MInv m.s 0 m.meas m.mult
theorem mok_of {s:Stl} {m:Mch} (h:XG s=some m):MOk m∧m.s=s:=by
 unfold XG at h
 split at h
 · rename_i hp
   obtain ⟨r,hr,e⟩:=Option.map_eq_some_iff.1 h
   subst e
   refine ⟨⟨hp,?_⟩,rfl⟩
   refine minv_all (Xf hp).2.2.2.2 (Nat.le_refl _) ⟨by simp [XQ],by simp [XQ],fun j v hj hv=>?_,fun j x hj hx=>?_⟩ hr
   · have:=(List.getElem?_eq_some_iff.1 hv).1
     simp [XQ] at this; omega
   · have:=(List.getElem?_eq_some_iff.1 hx).1; omega
 · cases h
/-! ### Worths,stage by stage -/
def Xr (m:Mch) (i:Nat) (vals:List Int) (ts:List Trn):List Int:=ts.map fun t=>vals.getD (Int.toNat t.to) 0*Int.tdiv (m.mult.getD i 0) (m.meas.getD (Int.toNat t.to) 0)
def sumW:List Trn→List Int→Int
 | t :: ts,e :: es=>t.w*e+sumW ts es
 | _,_=>0
def YJ (m:Mch) (w:Int→Int) (ch:Int→List Int→Int) (i:Nat) (p:List Int × List Int):List Int × List Int :=
 if (m.s.stages.getD i ⟨0,0,[]⟩).kind=4 then (if (m.s.stages.getD i ⟨0,0,[]⟩).prize≥0 then (p.1.set i (w (m.s.stages.getD i ⟨0,0,[]⟩).prize),p.2) else p)
 else if (m.s.stages.getD i ⟨0,0,[]⟩).kind=1 then (p.1.set i (p.1.getD i 0+sumW (m.s.stages.getD i ⟨0,0,[]⟩).turns (Xr m i p.1 (m.s.stages.getD i ⟨0,0,[]⟩).turns)),p.2)
 else (p.1.set i ((Xr m i p.1 (m.s.stages.getD i ⟨0,0,[]⟩).turns).getD (Int.toNat (ch i (Xr m i p.1 (m.s.stages.getD i ⟨0,0,[]⟩).turns))) 0),p.2.set i (ch i (Xr m i p.1 (m.s.stages.getD i ⟨0,0,[]⟩).turns)))
def valN (m:Mch) (w:Int→Int) (ch:Int→List Int→Int):Nat→List Int × List Int→List Int × List Int
 | 0,p=>p
 | i+1,p=>valN m w ch i (YJ m w ch i p)
def valA (m:Mch) (w:Int→Int) (ch:Int→List Int→Int):List Int × List Int:=valN m w ch m.s.stages.length (XQ m.s.stages.length,XQ m.s.stages.length)
structure VOk (m:Mch) (i:Nat) (p:List Int × List Int):Prop where
 l1:p.1.length=m.s.stages.length
 l2:p.2.length=m.s.stages.length
 lo:∀ j,j<i→p.1.getD j 0=0
 hi:∀ j u,i≤j→m.meas[j]?=some u→0≤p.1.getD j 0∧p.1.getD j 0≤10000*u
 c0:∀ j,j<i→p.2.getD j 0=0
/-- What is won has a worth that is not too great,and who chooses names a turn. -/
structure WOk (m:Mch) (w:Int→Int) (ch:Int→List Int→Int):Prop where
 w1:∀ n:Int,0≤n→n≤(m.s.worth.length:Int) - 1→0≤w n∧w n≤10000
 c1:∀ (i:Nat) (x:Stg) (l:List Int),m.s.stages[i]?=some x→x.kind ≠ 4→x.kind ≠ 1→l.length=x.turns.length→0<l.length→0≤ch i l∧Int.toNat (ch i l)<l.length
theorem yT:∀ {ts:List Trn} {es:List Int} {B:Int},(∀ e ∈ es,0≤e∧e≤B)→(∀ t ∈ ts,0≤t.w)→ts.length=es.length→0≤sumW ts es∧sumW ts es≤B*(ts.map (·.w)).sum
 | [],es,B,_,_,_=>by simp [sumW]
 | t :: ts,[],B,_,_,h=>by simp at h
 | t :: ts,e :: es,B,he,ht,hl=>by
  have h1:=he e (by simp)
  have h2:=ht t (by simp)
  have ih:=yT (ts:=ts) (es:=es) (B:=B) (fun x hx=>he x (by simp [hx])) (fun x hx=>ht x (by simp [hx])) (by simpa using hl)
  have h3:=Int.mul_nonneg h2 h1.1
  have h4:=Int.mul_le_mul_of_nonneg_left h1.2 h2
  have h5:B*(t.w+(ts.map (·.w)).sum)=t.w*B+B*(ts.map (·.w)).sum:=by rw [Int.mul_add,Int.mul_comm B]
  simp only [sumW,List.map_cons,List.sum_cons,h5]
  omega
theorem next_bd {m:Mch} (hm:MOk m) {i:Nat} {x:Stg} {p:List Int × List Int} (hi:m.s.stages[i]?=some x) (hp:VOk m (i+1) p) {t:Trn} (ht:t ∈ x.turns) :
 ∃ q u,m.mult[i]?=some q∧m.meas[Int.toNat t.to]?=some u∧(0<q∧q≤1000000000000)∧(0<u∧u≤1000000000000)∧Int.tdiv q u*u=q∧0≤Int.tdiv q u∧Int.tdiv q u≤q ∧
  0≤p.1.getD (Int.toNat t.to) 0*Int.tdiv q u∧p.1.getD (Int.toNat t.to) 0*Int.tdiv q u≤10000*q:=by
 have hform:=(Xf hm.st).2.2.2.2
 have hto:=Yt hi (hform i (List.getElem?_eq_some_iff.1 hi).1) t ht
 obtain ⟨q,q1,q2,q3,q4⟩:=hm.inv.rel i x (by omega) hi
 have hg:m.meas[Int.toNat t.to]?=some (m.meas[Int.toNat t.to]'(by rw [hm.inv.l1]; exact hto.2.1)):=List.getElem?_eq_getElem _
 have hd:=q4 t ht
 have hb:=hm.inv.pos _ _ (by omega) hg
 have hv:=hp.hi _ _ (by omega) hg
 rw [show m.meas.getD (Int.toNat t.to) 0=m.meas[Int.toNat t.to]'(by rw [hm.inv.l1]; exact hto.2.1) by simp [List.getD,hg]] at hd
 generalize m.meas[Int.toNat t.to]'(by rw [hm.inv.l1]; exact hto.2.1)=u at hg hd hb hv
 generalize p.1.getD (Int.toNat t.to) 0=v at hv ⊢
 have e1:Int.tdiv q u=q / u:=Int.tdiv_eq_ediv_of_nonneg (by omega)
 have e2:=Int.ediv_le_self u (show (0:Int)≤q by omega)
 have e3:=Int.ediv_nonneg (show (0:Int)≤q by omega) (show 0≤u by omega)
 have e4:Int.tdiv q u*u=q:=by rw [e1]; exact Int.ediv_mul_cancel hd
 refine ⟨q,u,q1,hg,q3,hb,e4,by omega,by omega,Int.mul_nonneg hv.1 (by omega),?_⟩
 have h1:=Int.mul_le_mul_of_nonneg_right hv.2 (show 0≤Int.tdiv q u by omega)
 have h2:10000*u*Int.tdiv q u=10000*q:=by rw [Int.mul_assoc,Int.mul_comm u,e4]
 omega
theorem Kc {m:Mch} (hm:MOk m) {i:Nat} {x:Stg} {p:List Int × List Int} (hi:m.s.stages[i]?=some x) (hp:VOk m (i+1) p) {q:Int} (hq:m.mult[i]?=some q):∀ e ∈ Xr m i p.1 x.turns,0≤e∧e≤10000*q:=fun e he=>by
 obtain ⟨t,ht,rfl⟩:=List.mem_map.1 he
 obtain ⟨q',u,h1,h2,h3,h4,h5,h6,h7,h8,h9⟩:=next_bd hm hi hp ht
 rw [hq] at h1; cases h1
 rw [show m.mult.getD i 0=q by simp [List.getD,hq],show m.meas.getD (Int.toNat t.to) 0=u by simp [List.getD,h2]]
 exact ⟨h8,h9⟩
theorem sum_bd {m:Mch} (hm:MOk m) {i:Nat} {x:Stg} {p:List Int × List Int} (hi:m.s.stages[i]?=some x) (hp:VOk m (i+1) p) (hk:x.kind=1) {u:Int} (hu:m.meas[i]?=some u) :
 0≤sumW x.turns (Xr m i p.1 x.turns)∧sumW x.turns (Xr m i p.1 x.turns)≤10000*u:=by
 have hform:=(Xf hm.st).2.2.2.2
 have hto:=(WY hi (hform i (List.getElem?_eq_some_iff.1 hi).1)).1.2
 obtain ⟨q,q1,q2,q3,q4⟩:=hm.inv.rel i x (by omega) hi
 rw [hu,if_pos hk] at q2; cases q2
 have:=yT (Kc hm hi hp q1) (fun t ht=>(hto t ht).1) (by simp [Xr])
 rw [Int.mul_assoc] at this
 exact this
theorem XX {l:List Int} {i:Nat} {v:Int} (h:i<l.length):(l.set i v).getD i 0=v:=by simp [List.getD,List.getElem?_set_self h]
theorem vok_set {m:Mch} {i:Nat} {p:List Int × List Int} {v c:Int} (hlt:i<m.s.stages.length) (hp:VOk m (i+1) p) (h:∀ u,m.meas[i]?=some u→0≤v∧v≤10000*u):VOk m i (p.1.set i v,p.2.set i c)∧VOk m i (p.1.set i v,p.2):=by
 have hi:∀ j u,i≤j→m.meas[j]?=some u→0≤(p.1.set i v).getD j 0∧(p.1.set i v).getD j 0≤10000*u:=fun j u hj hu=>by
  by_cases e:i=j
  · subst e; rw [XX (by rw [hp.l1]; exact hlt)]; exact h u hu
  · rw [getD_set_ne e]; exact hp.hi j u (by omega) hu
 have lo:∀ j,j<i→(p.1.set i v).getD j 0=0:=fun j hj=>by rw [getD_set_ne (by omega)]; exact hp.lo j (by omega)
 exact ⟨⟨by simp [hp.l1],by simp [hp.l2],lo,hi,fun j hj=>by rw [getD_set_ne (by omega)]; exact hp.c0 j (by omega)⟩,⟨by simp [hp.l1],hp.l2,lo,hi,fun j hj=>hp.c0 j (by omega)⟩⟩
theorem vok_same {m:Mch} (hm:MOk m) {i:Nat} {p:List Int × List Int} (hp:VOk m (i+1) p):VOk m i p:=by
 refine ⟨hp.l1,hp.l2,fun j hj=>hp.lo j (by omega),fun j u hj hu=>?_,fun j hj=>hp.c0 j (by omega)⟩
 by_cases e:i=j
 · subst e
   rw [hp.lo i (by omega)]
   have:=(hm.inv.pos i u (by omega) hu).1
   omega
 · exact hp.hi j u (by omega) hu
theorem yP {m:Mch} (hm:MOk m) {w:Int→Int} {ch:Int→List Int→Int} (hw:WOk m w ch) {i:Nat} {p:List Int × List Int} (hlt:i<m.s.stages.length) (hp:VOk m (i+1) p):VOk m i (YJ m w ch i p):=by
 have hform:=(Xf hm.st).2.2.2.2
 have hi:m.s.stages[i]?=some m.s.stages[i]:=List.getElem?_eq_getElem hlt
 have hx:m.s.stages.getD i ⟨0,0,[]⟩=m.s.stages[i]:=by simp [List.getD,hi]
 unfold YJ
 rw [hx]
 have hfo:=Vd hi (hform i hlt)
 generalize m.s.stages[i]=x at hi hx hfo
 split
 · rename_i h4
   split
   · rename_i hpr
     rcases hfo with ⟨-,-,h3⟩ | ⟨h1,-⟩
     · refine (vok_set (c:=0) hlt hp fun u hu=>?_).2
       have h1:=hw.w1 x.prize hpr h3.2
       have h2:=(hm.inv.pos i u (by omega) hu).1
       omega
     · omega
   · exact vok_same hm hp
 · rename_i h4
   split
   · rename_i h1
     refine (vok_set (c:=0) hlt hp fun u hu=>?_).2
     have:=sum_bd hm hi hp h1 hu
     rw [hp.lo i (by omega)]
     omega
   · rename_i h1
     refine (vok_set hlt hp fun u hu=>?_).1
     obtain ⟨q,q1,q2,q3,q4⟩:=hm.inv.rel i x (by omega) hi
     rw [hu,if_neg h1] at q2; cases q2
     have hl:(Xr m i p.1 x.turns).length=x.turns.length:=by simp [Xr]
     have hpos:0<(Xr m i p.1 x.turns).length:=by
      rcases hfo with ⟨h,-⟩ | ⟨-,-,h,-⟩
      · exact absurd h h4
      · omega
     have hc:=hw.c1 i x _ hi h4 h1 hl hpos
     generalize ch i (Xr m i p.1 x.turns)=c at hc
     have hg:(Xr m i p.1 x.turns)[Int.toNat c]?=some (Xr m i p.1 x.turns)[Int.toNat c]:=List.getElem?_eq_getElem hc.2
     have:=Kc hm hi hp q1 _ (List.mem_of_getElem? hg)
     simpa [List.getD,hg] using this
theorem val_ok0 {m:Mch} (hm:MOk m):VOk m m.s.stages.length (XQ m.s.stages.length,XQ m.s.stages.length):=by
 have hz:∀ j,(XQ m.s.stages.length).getD j 0=0:=fun j=>by
  simp only [XQ,List.getD,List.getElem?_replicate]
  split <;> rfl
 refine ⟨by simp [XQ],by simp [XQ],fun j _=>hz j,fun j u hj hu=>?_,fun j _=>hz j⟩
 have:=(List.getElem?_eq_some_iff.1 hu).1
 rw [hm.inv.l1] at this; omega
theorem val_okN {m:Mch} (hm:MOk m) {w:Int→Int} {ch:Int→List Int→Int} (hw:WOk m w ch):∀ {n:Nat} {p:List Int × List Int},n≤m.s.stages.length→VOk m n p→VOk m 0 (valN m w ch n p)
 | 0,p,_,h=>h
 | i+1,p,hn,h=>(val_okN hm hw (n:=i) (by omega) (yP hm hw (by omega) h):VOk m 0 (valN m w ch i (YJ m w ch i p)))
theorem yQ {m:Mch} (hm:MOk m) {w:Int→Int} {ch:Int→List Int→Int} (hw:WOk m w ch):VOk m 0 (valA m w ch):=val_okN hm hw (Nat.le_refl _) (val_ok0 hm)
/-! ### Choosers -/
theorem idxV_mem {l:List Int} {v:Int} (h:v ∈ l):0≤idxV l v∧Int.toNat (idxV l v)<l.length∧l[Int.toNat (idxV l v)]?=some v∧∀ j e,j<Int.toNat (idxV l v)→l[j]?=some e→e ≠ v:=by
 unfold idxV idxG
 cases hf:l.findIdx? (fun e=>decide (v=e)) with
 | none =>
  have:=List.findIdx?_eq_none_iff.1 hf v h
  simp at this
 | some k =>
  obtain ⟨h1,h2,h3⟩:=List.findIdx?_eq_some_iff_getElem.1 hf
  simp only [Int.toNat_natCast]
  refine ⟨by omega,h1,?_,fun j e hj he=>?_⟩
  · rw [List.getElem?_eq_getElem h1]
    have:=of_decide_eq_true h2
    rw [this]
  · obtain ⟨h4,h5⟩:=List.getElem?_eq_some_iff.1 he
    have:=h3 j hj
    rw [h5] at this
    intro h6
    simp [h6] at this
theorem maxF_mem:∀ {l:List Int} {m:Int},(maxF m l=m ∨ maxF m l ∈ l)∧m≤maxF m l∧∀ e ∈ l,e≤maxF m l
 | [],m=>by simp [maxF]
 | x :: l,m=>by
  obtain ⟨h1,h2,h3⟩:=maxF_mem (l:=l) (m:=iMax m x)
  have hm:iMax m x=if x > m then x else m:=rfl
  simp only [maxF]
  refine ⟨?_,by split at hm <;> omega,fun e he=>?_⟩
  · rcases h1 with h1 | h1
    · split at hm
      · right; rw [h1,hm]; simp
      · left; rw [h1,hm]
    · right; exact List.mem_cons_of_mem _ h1
  · rcases List.mem_cons.1 he with rfl | he
    · split at hm <;> omega
    · exact h3 e he
theorem minF_mem:∀ {l:List Int} {m:Int},(minF m l=m ∨ minF m l ∈ l)∧minF m l≤m∧∀ e ∈ l,minF m l≤e
 | [],m=>by simp [minF]
 | x :: l,m=>by
  obtain ⟨h1,h2,h3⟩:=minF_mem (l:=l) (m:=iMin m x)
  have hm:iMin m x=if x<m then x else m:=rfl
  simp only [minF]
  refine ⟨?_,by split at hm <;> omega,fun e he=>?_⟩
  · rcases h1 with h1 | h1
    · split at hm
      · right; rw [h1,hm]; simp
      · left; rw [h1,hm]
    · right; exact List.mem_cons_of_mem _ h1
  · rcases List.mem_cons.1 he with rfl | he
    · split at hm <;> omega
    · exact h3 e he
theorem maxI_mem {l:List Int} (h:0<l.length):maxI l ∈ l∧∀ e ∈ l,e≤maxI l:=by
 cases l with
 | nil=>simp at h
 | cons x l =>
  obtain ⟨h1,h2,h3⟩:=maxF_mem (l:=l) (m:=x)
  simp only [maxI,List.getD,List.getElem?_cons_zero,Option.getD_some,List.drop_succ_cons,List.drop_zero]
  refine ⟨?_,fun e he=>?_⟩
  · rcases h1 with h1 | h1
    · rw [h1]; simp
    · exact List.mem_cons_of_mem _ h1
  · rcases List.mem_cons.1 he with rfl | he
    · exact h2
    · exact h3 e he
theorem minI_mem {l:List Int} (h:0<l.length):minI l ∈ l∧∀ e ∈ l,minI l≤e:=by
 cases l with
 | nil=>simp at h
 | cons x l =>
  obtain ⟨h1,h2,h3⟩:=minF_mem (l:=l) (m:=x)
  simp only [minI,List.getD,List.getElem?_cons_zero,Option.getD_some,List.drop_succ_cons,List.drop_zero]
  refine ⟨?_,fun e he=>?_⟩
  · rcases h1 with h1 | h1
    · rw [h1]; simp
    · exact List.mem_cons_of_mem _ h1
  · rcases List.mem_cons.1 he with rfl | he
    · exact h2
    · exact h3 e he
theorem choose_in {m:Mch} {pa oa i:Int} {l:List Int} (h:0<l.length):0≤Qt m pa oa i l∧Int.toNat (Qt m pa oa i l)<l.length:=by
 unfold Qt
 generalize (if (m.s.stages.getD (Int.toNat i) ⟨0,0,[]⟩).kind=3 then oa else pa)=a
 split
 · have:=idxV_mem (maxI_mem h).1; exact ⟨this.1,this.2.1⟩
 · have:=idxV_mem (minI_mem h).1; exact ⟨this.1,this.2.1⟩
/-! ### Plans -/
def planMost (x:Stg):Int:=if x.kind=2 ∨ x.kind=3 then (x.turns.length:Int) - 1 else 0
def planOk (s:Stl) (l:List Int):Bool:=decide (l.length=s.stages.length) && (List.range l.length).all fun i=>Qf (l.getD i 0) 0 (planMost (s.stages.getD i ⟨0,0,[]⟩))
theorem Yj {m:Mch} {kd pa oa:Int}:WOk m (QV kd) (Qt m pa oa) :=
 ⟨fun n _ _=>by unfold QV; split <;> omega,fun i x l _ _ _ _ h=>choose_in h⟩
theorem worth_ok {m:Mch} (hm:MOk m):∀ n:Int,0≤n→n≤(m.s.worth.length:Int) - 1→0≤WT m n∧WT m n≤10000:=fun n h1 h2=>by
 have hg:m.s.worth[Int.toNat n]?=some (m.s.worth[Int.toNat n]'(by omega)):=List.getElem?_eq_getElem (by omega)
 rw [show WT m n=m.s.worth[Int.toNat n]'(by omega) by simp [WT,List.getD,hg]]
 exact (Xf hm.st).2.2.1 _ (List.mem_of_getElem? hg)
theorem wok_worth {m:Mch} (hm:MOk m) {pa oa:Int}:WOk m (WT m) (Qt m pa oa) :=
 ⟨worth_ok hm,fun i x l _ _ _ _ h=>choose_in h⟩
theorem getD_some {l:List Int} {i:Nat} (h:i<l.length):l[i]?=some (l.getD i 0):=by
 have hg:l[i]?=some l[i]:=List.getElem?_eq_getElem h
 simp [List.getD,hg]
theorem XR {l:List Int} {i:Nat} {v:Int} (h:l[i]?=some v):l.getD i 0=v:=by simp [List.getD,h]
theorem next_snoc {m:Mch} {i:Nat} {v:List Int} {l:List Trn} {k:Nat} {t:Trn} (h:l[k]?=some t) :
 Xr m i v (l.take (k+1))=Xr m i v (l.take k)++[v.getD (Int.toNat t.to) 0*Int.tdiv (m.mult.getD i 0) (m.meas.getD (Int.toNat t.to) 0)]:=by
 rw [List.take_add_one,h]
 simp [Xr]
theorem set_same {l:List Int} {i:Nat} {v:Int} (h:l[i]?=some v):l.set i v=l:=by
 apply List.ext_getElem?
 intro j
 by_cases e:i=j
 · subst e; rw [List.getElem?_set_self (List.getElem?_eq_some_iff.1 h).1,h]
 · rw [List.getElem?_set_ne e]
theorem f83ob:Try.f83.body=some (Qg Try.prog 83):=by kernel_rfl
def Vp (P:Program):List Item:=kAt 400 [.code (Qg P 83)] [.stop]
def Wy (m:Mch) (kd pa oa:Int) (v0:List Int) (v1:List Int) (i:Int) (g0:Nat) (g1:Nat):St:=⟨([.rptr [.rsl (Qi m.s.stages) 0 m.s.stages.length,.rsl (rowI m.s.worth) 0 m.s.worth.length,.int .i64 m.s.price,.rsl (rowI m.meas) 0 m.meas.length,.rsl (rowI m.mult) 0 m.mult.length] 0,.clos 113 [] [.rptr [.int .i64 kd] 0],.clos 114 [] [.rptr [.int .i64 pa] 0,.rptr [.rptr [.rsl (Qi m.s.stages) 0 m.s.stages.length,.rsl (rowI m.s.worth) 0 m.s.worth.length,.int .i64 m.s.price,.rsl (rowI m.meas) 0 m.meas.length,.rsl (rowI m.mult) 0 m.mult.length] 0] 0,.rptr [.int .i64 oa] 0],J,J,J,.sl 0 g0 0 v0.length 1,.sl 1 g1 0 v1.length 1,.int .i64 i]++Js 129),[⟨true,g0,1,true,(rowI v0),true⟩,⟨true,g1,1,true,(rowI v1),true⟩]⟩
def VI (E:Env) (m:Mch) (kd pa oa:Int) (v0:List Int) (v1:List Int) (i:Int):Prop:=∀ g0 g1:Nat,G Try.prog E (Vp Try.prog) (Wy m kd pa oa v0 v1 i g0 g1)
def yx (P:Program):List Item:=kAt 400 [.code (Qg P 83)] [.b true,.b false,.stop]
def f83oS1 (m:Mch) (kd pa oa:Int) (i:Int) (k:(List Trn)) (k1:Nat) (v0:List Int) (v1:List Int) (v2_0:Int) (v2_1:Int) (v2_2:(List Trn)) (v3:List Int) (k11:Nat) (g0:Nat) (g1:Nat) (g3:Nat):St:=⟨([.rptr [.rsl (Qi m.s.stages) 0 m.s.stages.length,.rsl (rowI m.s.worth) 0 m.s.worth.length,.int .i64 m.s.price,.rsl (rowI m.meas) 0 m.meas.length,.rsl (rowI m.mult) 0 m.mult.length] 0,.clos 113 [] [.rptr [.int .i64 kd] 0],.clos 114 [] [.rptr [.int .i64 pa] 0,.rptr [.rptr [.rsl (Qi m.s.stages) 0 m.s.stages.length,.rsl (rowI m.s.worth) 0 m.s.worth.length,.int .i64 m.s.price,.rsl (rowI m.meas) 0 m.meas.length,.rsl (rowI m.mult) 0 m.mult.length] 0] 0,.rptr [.int .i64 oa] 0],J,J,J,.sl 0 g0 0 v0.length 1,.sl 1 g1 0 v1.length 1,.int .i64 i,.ptr 2 0 0,.sl 3 g3 0 v3.length 1]++jj 51 ([.rsl (QF k) 0 k.length,.int .i64 (k1:Int),.int .i64 (k11:Int)]++Js 73)),[⟨true,g0,1,true,(rowI v0),true⟩,⟨true,g1,1,true,(rowI v1),true⟩,⟨true,0,1,true,[.int .i64 v2_0,.int .i64 v2_1,.rsl (QF v2_2) 0 v2_2.length],false⟩,⟨true,g3,1,true,(rowI v3),true⟩]⟩
def f83oG1 (E:Env) (m:Mch) (kd pa oa:Int) (i:Int) (k:(List Trn)) (k1:Nat) (v0:List Int) (v1:List Int) (v2_0:Int) (v2_1:Int) (v2_2:(List Trn)) (v3:List Int) (k11:Nat):Prop:=∀ g0 g1 g3:Nat,G Try.prog E (yx Try.prog) (f83oS1 m kd pa oa i k k1 v0 v1 v2_0 v2_1 v2_2 v3 k11 g0 g1 g3)
def f83oK2 (P:Program):List Item:=kAt 400 [.code (Qg P 83)] [.b true,.b false,.b false,.b true,.stop]
def f83oS2 (m:Mch) (kd pa oa:Int) (i:Int) (j:(List Trn)) (j1:Nat) (v0:List Int) (v1:List Int) (v2_0:Int) (v2_1:Int) (v2_2:(List Trn)) (v3:List Int) (j11:Nat) (g0:Nat) (g1:Nat) (g3:Nat):St:=⟨([.rptr [.rsl (Qi m.s.stages) 0 m.s.stages.length,.rsl (rowI m.s.worth) 0 m.s.worth.length,.int .i64 m.s.price,.rsl (rowI m.meas) 0 m.meas.length,.rsl (rowI m.mult) 0 m.mult.length] 0,.clos 113 [] [.rptr [.int .i64 kd] 0],.clos 114 [] [.rptr [.int .i64 pa] 0,.rptr [.rptr [.rsl (Qi m.s.stages) 0 m.s.stages.length,.rsl (rowI m.s.worth) 0 m.s.worth.length,.int .i64 m.s.price,.rsl (rowI m.meas) 0 m.meas.length,.rsl (rowI m.mult) 0 m.mult.length] 0] 0,.rptr [.int .i64 oa] 0],J,J,J,.sl 0 g0 0 v0.length 1,.sl 1 g1 0 v1.length 1,.int .i64 i,J,.sl 3 g3 0 v3.length 1]++jj 87 ([.rsl (QF j) 0 j.length,.int .i64 (j1:Int),.int .i64 (j11:Int)]++Js 37)),[⟨true,g0,1,true,(rowI v0),true⟩,⟨true,g1,1,true,(rowI v1),true⟩,⟨true,0,1,true,[.int .i64 v2_0,.int .i64 v2_1,.rsl (QF v2_2) 0 v2_2.length],false⟩,⟨true,g3,1,true,(rowI v3),true⟩]⟩
def f83oG2 (E:Env) (m:Mch) (kd pa oa:Int) (i:Int) (j:(List Trn)) (j1:Nat) (v0:List Int) (v1:List Int) (v2_0:Int) (v2_1:Int) (v2_2:(List Trn)) (v3:List Int) (j11:Nat):Prop:=∀ g0 g1 g3:Nat,G Try.prog E (f83oK2 Try.prog) (f83oS2 m kd pa oa i j j1 v0 v1 v2_0 v2_1 v2_2 v3 j11 g0 g1 g3)
abbrev Wq (m:Mch):List AV:=[.rsl (Qi m.s.stages) 0 m.s.stages.length,.rsl (rowI m.s.worth) 0 m.s.worth.length,.int .i64 m.s.price,.rsl (rowI m.meas) 0 m.meas.length,.rsl (rowI m.mult) 0 m.mult.length]
abbrev Wp (pa:Int) (m:Mch) (oa:Int):List AV:=[.rptr [.int .i64 pa] 0,.rptr [.rptr (Wq m) 0] 0,.rptr [.int .i64 oa] 0]
abbrev WQ (se:Stg):List AV:=[.int .i64 se.kind,.int .i64 se.prize,.rsl (QF se.turns) 0 se.turns.length]
abbrev z83o_4 (m:Mch) (kd:Int) (pa:Int) (oa:Int) (g0:Nat) (v0:List Int) (g1:Nat) (v1:List Int) (i:Int):List AV:=[.rptr (Wq m) 0,.clos 113 [] [.rptr [.int .i64 kd] 0],.clos 114 [] (Wp pa m oa),J,J,J,.sl 0 g0 0 v0.length 1,.sl 1 g1 0 v1.length 1,.int .i64 (i - 1)]++Js 129
theorem p83o_start_0 (m:Mch) (kd pa oa:Int) {E:Env} {rv:AV} (hE:Qh Try.prog 83 rv E) (ho:AllP [0≤(m.s.stages.length:Int)∧(m.s.stages.length:Int)≤(m.s.stages.length:Int)∧(m.s.stages.length:Int)≤2147483648,0≤(m.s.stages.length:Int)∧(m.s.stages.length:Int)≤(m.s.stages.length:Int)∧(m.s.stages.length:Int)≤2147483648,InR .i64 ((m.s.stages.length:Int) - 1)])
 (hg:G Try.prog E (Vp Try.prog) ⟨([.rptr (Wq m) 0,.clos 113 [] [.rptr [.int .i64 kd] 0],.clos 114 [] (Wp pa m oa),J,J,J,.sl 0 0 0 (Int.toNat (m.s.stages.length:Int)) 1,.sl 1 0 0 (Int.toNat (m.s.stages.length:Int)) 1,.int .i64 ((m.s.stages.length:Int) - 1)]++Js 129),[⟨true,0,1,true,((List.replicate (Int.toNat (m.s.stages.length:Int)) ([.int .i64 0]:List AV)).flatten),true⟩,⟨true,0,1,true,((List.replicate (Int.toNat (m.s.stages.length:Int)) ([.int .i64 0]:List AV)).flatten),true⟩]⟩):G Try.prog E [.code (Qg Try.prog 83)] ⟨[.rptr (Wq m) 0,.clos 113 [] [.rptr [.int .i64 kd] 0],.clos 114 [] (Wp pa m oa)]++unds (Try.f83.ntmps - 3),[]⟩ :=
 Qm (n:=400) (ds:=[]) (cs:=[]) (live:=[0,1,2,6,7,8]) (m:=2) (evs:=[.stop]) (obs:=_) hE.2.1 (hE.nogh _) Qj (by kernel_rfl) ho hg
theorem f83oW (m:Mch) (kd pa oa:Int) {E:Env} {rv:((List Int) × (List Int))} (hE:Qh Try.prog 83 (.tup [.rsl (rowI rv.1) 0 rv.1.length,.rsl (rowI rv.2) 0 rv.2.length]) E)
 (h:(m.s.stages.length≤2147483648∧(m.s.stages.length≤2147483648∧((I6 ((m.s.stages.length:Int) - 1))∧VI E m kd pa oa (List.replicate m.s.stages.length (0:Int)) (List.replicate m.s.stages.length (0:Int)) ((m.s.stages.length:Int) - 1))))):G Try.prog E [.code (Qg Try.prog 83)] ⟨[.rptr [.rsl (Qi m.s.stages) 0 m.s.stages.length,.rsl (rowI m.s.worth) 0 m.s.worth.length,.int .i64 m.s.price,.rsl (rowI m.meas) 0 m.meas.length,.rsl (rowI m.mult) 0 m.mult.length] 0,.clos 113 [] [.rptr [.int .i64 kd] 0],.clos 114 [] [.rptr [.int .i64 pa] 0,.rptr [.rptr [.rsl (Qi m.s.stages) 0 m.s.stages.length,.rsl (rowI m.s.worth) 0 m.s.worth.length,.int .i64 m.s.price,.rsl (rowI m.meas) 0 m.meas.length,.rsl (rowI m.mult) 0 m.mult.length] 0] 0,.rptr [.int .i64 oa] 0]]++unds (Try.f83.ntmps - 3),[]⟩:=by
 obtain ⟨h1,h⟩:=h
 obtain ⟨h2,h⟩:=h
 obtain ⟨q2_0,h⟩:=h
 refine p83o_start_0 m kd pa oa hE ⟨⟨by omega,by omega,by have:=h1; omega⟩,⟨by omega,by omega,by have:=h2; omega⟩,q2_0,trivial⟩ ?_
 have h:=(h 0 0)
 simp only [VI,Wy,List.length_set,List.length_replicate] at h
 rw [(show (List.replicate (Int.toNat (m.s.stages.length:Int)) ([.int .i64 0]:List AV)).flatten=rowI (List.replicate m.s.stages.length (0:Int)) from qd cI _ _)]
 exact h
theorem p83o_0_0 (m:Mch) (kd pa oa:Int) (v0:List Int) (v1:List Int) (i:Int) (g0:Nat) (g1:Nat) (se:Stg) (e:Int) {E:Env} {rv:AV} (hE:Qh Try.prog 83 rv E) (ho:AllP [(decide (i≥0))=true,0≤i∧i<(m.s.stages.length:Int),((Qi m.s.stages).drop (0+(Int.toNat i)*3)).take 3=(WQ se),3≤3,(se.kind == 4)=true,(decide (se.prize≥0))=true,Qb Try.prog (.clos 113 [] [.rptr [.int .i64 kd] 0]) [.int .i64 se.prize] (.int .i64 (QV kd se.prize)),0≤i∧i<(v0.length:Int),g0=g0,((0+(Int.toNat i)*1)+1)≤(rowI v0).length,g0=g0,InR .i64 (i - 1)])
 (hg:G Try.prog E (Vp Try.prog) ⟨(z83o_4 m kd pa oa g0 v0 g1 v1 i),[⟨true,g0,1,true,(QO (rowI v0) (0+(Int.toNat i)*1) [.int .i64 (QV kd se.prize)]),true⟩,⟨true,g1,1,true,(rowI v1),true⟩]⟩):G Try.prog E (Vp Try.prog) (Wy m kd pa oa v0 v1 i g0 g1) :=
 Qm (n:=400) (ds:=[]) (cs:=[]) (live:=[0,1,2,6,7,8]) (m:=2) (evs:=[.b true,.auto,.ld (.agg (WQ se)),.b true,.b true,.v (.int .i64 (QV kd se.prize)),.stop]) (obs:=_) hE.2.1 (hE.nogh _) Qj (by kernel_rfl) ho hg
theorem p83o_0_1 (m:Mch) (kd pa oa:Int) (v0:List Int) (v1:List Int) (i:Int) (g0:Nat) (g1:Nat) (se:Stg) {E:Env} {rv:AV} (hE:Qh Try.prog 83 rv E) (ho:AllP [(decide (i≥0))=true,0≤i∧i<(m.s.stages.length:Int),((Qi m.s.stages).drop (0+(Int.toNat i)*3)).take 3=(WQ se),3≤3,(se.kind == 4)=true,(decide (se.prize≥0))=false,InR .i64 (i - 1)])
 (hg:G Try.prog E (Vp Try.prog) ⟨(z83o_4 m kd pa oa g0 v0 g1 v1 i),[⟨true,g0,1,true,(rowI v0),true⟩,⟨true,g1,1,true,(rowI v1),true⟩]⟩):G Try.prog E (Vp Try.prog) (Wy m kd pa oa v0 v1 i g0 g1) :=
 Qm (n:=400) (ds:=[]) (cs:=[]) (live:=[0,1,2,6,7,8]) (m:=2) (evs:=[.b true,.auto,.ld (.agg (WQ se)),.b true,.b false,.stop]) (obs:=_) hE.2.1 (hE.nogh _) Qj (by kernel_rfl) ho hg
theorem p83o_0_2 (m:Mch) (kd pa oa:Int) (v0:List Int) (v1:List Int) (i:Int) (g0:Nat) (g1:Nat) (se:Stg) {E:Env} {rv:AV} (hE:Qh Try.prog 83 rv E) (ho:AllP [(decide (i≥0))=true,0≤i∧i<(m.s.stages.length:Int),((Qi m.s.stages).drop (0+(Int.toNat i)*3)).take 3=(WQ se),3≤3,(se.kind == 4)=false])
 (hg:G Try.prog E (yx Try.prog) ⟨([.rptr (Wq m) 0,.clos 113 [] [.rptr [.int .i64 kd] 0],.clos 114 [] (Wp pa m oa),J,J,J,.sl 0 g0 0 v0.length 1,.sl 1 g1 0 v1.length 1,.int .i64 i,.ptr 2 0 0,.sl 3 0 0 0 1]++jj 51 ([.rsl (QF se.turns) 0 se.turns.length,.int .i64 (se.turns.length:Int),.int .i64 0]++Js 73)),[⟨true,g0,1,true,(rowI v0),true⟩,⟨true,g1,1,true,(rowI v1),true⟩,⟨true,0,1,true,(WQ se),false⟩,⟨true,0,1,true,[],true⟩]⟩):G Try.prog E (Vp Try.prog) (Wy m kd pa oa v0 v1 i g0 g1) :=
 Qm (n:=400) (ds:=[(10,1)]) (cs:=[]) (live:=[0,1,2,6,7,8,9,10,62,63,64]) (m:=4) (evs:=[.b true,.auto,.ld (.agg (WQ se)),.b false,.stop]) (obs:=_) hE.2.1 (hE.nogh _) Qj (by kernel_rfl) ho hg
theorem p83o_0_3 (m:Mch) (kd pa oa:Int) (v0:List Int) (v1:List Int) (i:Int) (g0:Nat) (g1:Nat) {E:Env} {res:AV} (hE:Qh Try.prog 83 res E) (ho:AllP [(decide (i≥0))=false,g0=g0,g1=g1])
 (hr:AvLe (.tup [.rsl (rowI v0) 0 v0.length,.rsl (rowI v1) 0 v1.length]) res):G Try.prog E (Vp Try.prog) (Wy m kd pa oa v0 v1 i g0 g1) :=
 Qc (n:=400) (evs:=[.b false]) (obs:=_) hE Try.func83 Qj (by kernel_rfl) ho hr
theorem f83oW0 (m:Mch) (kd pa oa:Int) (v0:List Int) (v1:List Int) (i:Int) {E:Env} {rv:((List Int) × (List Int))} (hE:Qh Try.prog 83 (.tup [.rsl (rowI rv.1) 0 rv.1.length,.rsl (rowI rv.2) 0 rv.2.length]) E)
 (h:((i≥0→(0≤i∧(∃ se:Stg,m.s.stages[Int.toNat i]?=some se∧((se.kind=4→((se.prize≥0→(0≤i∧(∃ e:Int,v0[Int.toNat i]?=some e∧((I6 (i - 1))∧VI E m kd pa oa (v0.set (Int.toNat i) (QV kd se.prize)) v1 (i - 1)))))∧(¬ (se.prize≥0)→((I6 (i - 1))∧VI E m kd pa oa v0 v1 (i - 1)))))∧(¬ (se.kind=4)→f83oG1 E m kd pa oa i se.turns se.turns.length v0 v1 se.kind se.prize se.turns ([]) 0)))))∧(¬ (i≥0)→rv=(v0,v1)))):VI E m kd pa oa v0 v1 i:=by
 intro g0 g1
 rcases bft (decide (i≥0)) with hc0 | hc0
 · have h:=h.1 (odt hc0)
   obtain ⟨h2,h⟩:=h
   obtain ⟨se,h1,h⟩:=h
   rcases bft (se.kind == 4) with hc1 | hc1
   · have h:=h.1 (eq_of_beq hc1)
     rcases bft (decide (se.prize≥0)) with hc2 | hc2
     · have h:=h.1 (odt hc2)
       obtain ⟨h4,h⟩:=h
       obtain ⟨e,h3,h⟩:=h
       obtain ⟨q13_3,h⟩:=h
       refine p83o_0_0 m kd pa oa v0 v1 i g0 g1 se e hE ⟨hc0,(QD h2 h1),(rp cStg 3 0 3 h1),(by decide),hc1,hc2,(u113 (only_ok se.prize kd)),(QD h4 h3),rfl,(rf cI 1 0 1 h3),rfl,q13_3,trivial⟩ ?_
       have h:=(h g0 g1)
       simp only [Wy,List.length_set] at h
       rw [(show QO (rowI v0) (0+(Int.toNat i)*1) [.int .i64 (QV kd se.prize)]=rowI (v0.set (Int.toNat i) (QV kd se.prize)) from Xe cI (s:=1) (k:=0) (fun _=>rfl) h3 rfl (by first | decide | simp))]
       exact h
     · have h:=h.2 (odf hc2)
       obtain ⟨q7_3,h⟩:=h
       exact p83o_0_1 m kd pa oa v0 v1 i g0 g1 se hE ⟨hc0,(QD h2 h1),(rp cStg 3 0 3 h1),(by decide),hc1,hc2,q7_3,trivial⟩ (h g0 g1)
   · have h:=h.2 (ne_of_beq_false hc1)
     exact p83o_0_2 m kd pa oa v0 v1 i g0 g1 se hE ⟨hc0,(QD h2 h1),(rp cStg 3 0 3 h1),(by decide),hc1,trivial⟩ (h g0 g1 0)
 · have h:=h.2 (odf hc0)
   exact p83o_0_3 m kd pa oa v0 v1 i g0 g1 hE ⟨hc0,rfl,rfl,trivial⟩ (AvLe.of_eq (by rw [h]; try rfl))
theorem p83o_1_0 (m:Mch) (kd pa oa:Int) (i:Int) (k:(List Trn)) (k1:Nat) (v0:List Int) (v1:List Int) (v2_0:Int) (v2_1:Int) (v2_2:(List Trn)) (v3:List Int) (k11:Nat) (g0:Nat) (g1:Nat) (g3:Nat) (te:Trn) (e:Int) (e1:Int) (e2:Int) {E:Env} {rv:AV} (hE:Qh Try.prog 83 rv E) (ho:AllP [(decide ((k11:Int)<(k1:Int)))=true,0≤(k11:Int)∧(k11:Int)<(k.length:Int),((QF k).drop (0+(Int.toNat (k11:Int))*2)).take 2=[.int .i64 te.w,.int .i64 te.to],2≤2,0≤te.to∧te.to<(v0.length:Int),g0=g0,g0=g0,((rowI v0).drop (0+(Int.toNat te.to)*1)).take 1=[.int .i64 e],0≤i∧i<(m.mult.length:Int),((rowI m.mult).drop (0+(Int.toNat i)*1)).take 1=[.int .i64 e1],0≤te.to∧te.to<(m.meas.length:Int),((rowI m.meas).drop (0+(Int.toNat te.to)*1)).take 1=[.int .i64 e2],InR .i64 (Int.tdiv e1 e2),e2 ≠ 0,InR .i64 (e*(Int.tdiv e1 e2)),g3=g3,(0+(v3.length*1))=(rowI v3).length,(v3.length+1)≤2147483648,0=0,InR .i64 ((k11:Int)+1)])
 (hg:G Try.prog E (yx Try.prog) ⟨([.rptr (Wq m) 0,.clos 113 [] [.rptr [.int .i64 kd] 0],.clos 114 [] (Wp pa m oa),J,J,J,.sl 0 g0 0 v0.length 1,.sl 1 g1 0 v1.length 1,.int .i64 i,.ptr 2 0 0,.sl 3 (g3+1) 0 (v3.length+1) 1]++jj 51 ([.rsl (QF k) 0 k.length,.int .i64 (k1:Int),.int .i64 ((k11:Int)+1)]++Js 73)),[⟨true,g0,1,true,(rowI v0),true⟩,⟨true,g1,1,true,(rowI v1),true⟩,⟨true,0,1,true,[.int .i64 v2_0,.int .i64 v2_1,.rsl (QF v2_2) 0 v2_2.length],false⟩,⟨true,(g3+1),1,true,((rowI v3)++[.int .i64 (e*(Int.tdiv e1 e2))]),true⟩]⟩):G Try.prog E (yx Try.prog) (f83oS1 m kd pa oa i k k1 v0 v1 v2_0 v2_1 v2_2 v3 k11 g0 g1 g3) :=
 Qm (n:=400) (ds:=[]) (cs:=[]) (live:=[0,1,2,6,7,8,9,10,62,63,64]) (m:=4) (evs:=[.b true,.ld (.agg [.int .i64 te.w,.int .i64 te.to]),.auto,.ld (.int .i64 e),.auto,.ld (.int .i64 e1),.auto,.auto,.ld (.int .i64 e2),.stop]) (obs:=_) hE.2.1 (hE.nogh _) Qj (by kernel_rfl) ho hg
theorem p83o_1_1 (m:Mch) (kd pa oa:Int) (i:Int) (k:(List Trn)) (k1:Nat) (v0:List Int) (v1:List Int) (v2_0:Int) (v2_1:Int) (v2_2:(List Trn)) (v3:List Int) (k11:Nat) (g0:Nat) (g1:Nat) (g3:Nat) {E:Env} {rv:AV} (hE:Qh Try.prog 83 rv E) (ho:AllP [(decide ((k11:Int)<(k1:Int)))=false,(v2_0 == 1)=true])
 (hg:G Try.prog E (f83oK2 Try.prog) ⟨([.rptr (Wq m) 0,.clos 113 [] [.rptr [.int .i64 kd] 0],.clos 114 [] (Wp pa m oa),J,J,J,.sl 0 g0 0 v0.length 1,.sl 1 g1 0 v1.length 1,.int .i64 i,J,.sl 3 g3 0 v3.length 1]++jj 87 ([.rsl (QF v2_2) 0 v2_2.length,.int .i64 (v2_2.length:Int),.int .i64 0]++Js 37)),[⟨true,g0,1,true,(rowI v0),true⟩,⟨true,g1,1,true,(rowI v1),true⟩,⟨true,0,1,true,[.int .i64 v2_0,.int .i64 v2_1,.rsl (QF v2_2) 0 v2_2.length],false⟩,⟨true,g3,1,true,(rowI v3),true⟩]⟩):G Try.prog E (yx Try.prog) (f83oS1 m kd pa oa i k k1 v0 v1 v2_0 v2_1 v2_2 v3 k11 g0 g1 g3) :=
 Qm (n:=400) (ds:=[]) (cs:=[]) (live:=[0,1,2,6,7,8,10,98,99,100]) (m:=4) (evs:=[.b false,.b true,.stop]) (obs:=_) hE.2.1 (hE.nogh _) Qj (by kernel_rfl) ho hg
theorem p83o_1_2 (m:Mch) (kd pa oa:Int) (i:Int) (k:(List Trn)) (k1:Nat) (v0:List Int) (v1:List Int) (v2_0:Int) (v2_1:Int) (v2_2:(List Trn)) (v3:List Int) (k11:Nat) (g0:Nat) (g1:Nat) (g3:Nat) (e:Int) (e1:Int) (e2:Int) (e3:Int) {E:Env} {rv:AV} (hE:Qh Try.prog 83 rv E) (ho:AllP [(decide ((k11:Int)<(k1:Int)))=false,(v2_0 == 1)=false,Qb Try.prog (.clos 114 [] (Wp pa m oa)) [.int .i64 i,.rsl (rowI v3) 0 v3.length] (.int .i64 (Qt m pa oa i v3)),g3=g3,0≤i∧i<(v1.length:Int),g1=g1,((0+(Int.toNat i)*1)+1)≤(rowI v1).length,g1=g1,0≤i∧i<(v1.length:Int),g1=g1,g1=g1,((QO (rowI v1) (0+(Int.toNat i)*1) [.int .i64 (Qt m pa oa i v3)]).drop (0+(Int.toNat i)*1)).take 1=[.int .i64 e1],0≤e1∧e1<(v3.length:Int),g3=g3,g3=g3,((rowI v3).drop (0+(Int.toNat e1)*1)).take 1=[.int .i64 e2],0≤i∧i<(v0.length:Int),g0=g0,((0+(Int.toNat i)*1)+1)≤(rowI v0).length,g0=g0,InR .i64 (i - 1)])
 (hg:G Try.prog E (Vp Try.prog) ⟨(z83o_4 m kd pa oa g0 v0 g1 v1 i),[⟨true,g0,1,true,(QO (rowI v0) (0+(Int.toNat i)*1) [.int .i64 e2]),true⟩,⟨true,g1,1,true,(QO (rowI v1) (0+(Int.toNat i)*1) [.int .i64 (Qt m pa oa i v3)]),true⟩]⟩):G Try.prog E (yx Try.prog) (f83oS1 m kd pa oa i k k1 v0 v1 v2_0 v2_1 v2_2 v3 k11 g0 g1 g3) :=
 Qm (n:=400) (ds:=[]) (cs:=[]) (live:=[0,1,2,6,7,8]) (m:=2) (evs:=[.b false,.b false,.v (.int .i64 (Qt m pa oa i v3)),.ld (.int .i64 e1),.ld (.int .i64 e2),.stop]) (obs:=_) hE.2.1 (hE.nogh _) Qj (by kernel_rfl) ho hg
theorem f83oW1 (m:Mch) (kd pa oa:Int) (i:Int) (k:(List Trn)) (k1:Nat) (v0:List Int) (v1:List Int) (v2_0:Int) (v2_1:Int) (v2_2:(List Trn)) (v3:List Int) (k11:Nat) {E:Env} {rv:((List Int) × (List Int))} (hE:Qh Try.prog 83 (.tup [.rsl (rowI rv.1) 0 rv.1.length,.rsl (rowI rv.2) 0 rv.2.length]) E)
 (h:(((k11:Int)<(k1:Int)→(∃ te:Trn,k[k11]?=some te∧(0≤te.to∧(∃ e:Int,v0[Int.toNat te.to]?=some e∧(0≤i∧(∃ e1:Int,m.mult[Int.toNat i]?=some e1∧(0≤te.to∧(∃ e2:Int,m.meas[Int.toNat te.to]?=some e2∧((I6 (Int.tdiv e1 e2))∧(e2 ≠ 0∧((I6 (e*(Int.tdiv e1 e2)))∧((v3.length+1)≤2147483648∧((I6 ((k11:Int)+1))∧f83oG1 E m kd pa oa i k k1 v0 v1 v2_0 v2_1 v2_2 (v3++[(e*(Int.tdiv e1 e2))]) (k11+1))))))))))))))∧(¬ ((k11:Int)<(k1:Int))→((v2_0=1→f83oG2 E m kd pa oa i v2_2 v2_2.length v0 v1 v2_0 v2_1 v2_2 v3 0)∧(¬ (v2_0=1)→(((0≤i∧Int.toNat i<m.s.stages.length)∧0<v3.length∧v3.length≤1000000)∧(0≤i∧(∃ e:Int,v1[Int.toNat i]?=some e∧(0≤i∧(∃ e1:Int,(v1.set (Int.toNat i) (Qt m pa oa i v3))[Int.toNat i]?=some e1∧(0≤e1∧(∃ e2:Int,v3[Int.toNat e1]?=some e2∧(0≤i∧(∃ e3:Int,v0[Int.toNat i]?=some e3∧((I6 (i - 1))∧VI E m kd pa oa (v0.set (Int.toNat i) e2) (v1.set (Int.toNat i) (Qt m pa oa i v3)) (i - 1)))))))))))))))):f83oG1 E m kd pa oa i k k1 v0 v1 v2_0 v2_1 v2_2 v3 k11:=by
 intro g0 g1 g3
 rcases bft (decide ((k11:Int)<(k1:Int))) with hc0 | hc0
 · have h:=h.1 (odt hc0)
   obtain ⟨te,h1,h⟩:=h
   obtain ⟨h3,h⟩:=h
   obtain ⟨e,h2,h⟩:=h
   obtain ⟨h5,h⟩:=h
   obtain ⟨e1,h4,h⟩:=h
   obtain ⟨h7,h⟩:=h
   obtain ⟨e2,h6,h⟩:=h
   obtain ⟨q16_1,h⟩:=h
   obtain ⟨q17_1,h⟩:=h
   obtain ⟨q18_1,h⟩:=h
   obtain ⟨h8,h⟩:=h
   obtain ⟨q23_1,h⟩:=h
   refine p83o_1_0 m kd pa oa i k k1 v0 v1 v2_0 v2_1 v2_2 v3 k11 g0 g1 g3 te e e1 e2 hE ⟨hc0,(Xd h1),(rp cTrn 2 0 2 h1),(by decide),(QD h3 h2),rfl,rfl,(rp cI 1 0 1 h2),(QD h5 h4),(rp cI 1 0 1 h4),(QD h7 h6),(rp cI 1 0 1 h6),q16_1,q17_1,q18_1,rfl,(by have hx:=row_len cI (s:=1) (fun _=>rfl) v3; simp only [rowI] at hx ⊢; rw [hx]; simp),h8,rfl,q23_1,trivial⟩ ?_
   rw [(show rowI v3++[.int .i64 (e*(Int.tdiv e1 e2))]=rowI (v3++[(e*(Int.tdiv e1 e2))]) from (row_app cI v3 [(e*(Int.tdiv e1 e2))]).symm)]; rw [(show (v3.length+1)=(v3++[(e*(Int.tdiv e1 e2))]).length from by simp)]; exact (h g0 g1 (g3+1))
 · have h:=h.2 (odf hc0)
   rcases bft (v2_0 == 1) with hc1 | hc1
   · have h:=h.1 (eq_of_beq hc1)
     exact p83o_1_1 m kd pa oa i k k1 v0 v1 v2_0 v2_1 v2_2 v3 k11 g0 g1 g3 hE ⟨hc0,hc1,trivial⟩ (h g0 g1 g3)
   · have h:=h.2 (ne_of_beq_false hc1)
     obtain ⟨h1,h⟩:=h
     obtain ⟨h3,h⟩:=h
     obtain ⟨e,h2,h⟩:=h
     obtain ⟨h5,h⟩:=h
     obtain ⟨e1,h4,h⟩:=h
     obtain ⟨h7,h⟩:=h
     obtain ⟨e2,h6,h⟩:=h
     obtain ⟨h9,h⟩:=h
     obtain ⟨e3,h8,h⟩:=h
     obtain ⟨q24_2,h⟩:=h
     refine p83o_1_2 m kd pa oa i k k1 v0 v1 v2_0 v2_1 v2_2 v3 k11 g0 g1 g3 e e1 e2 e3 hE ⟨hc0,hc1,(u114 (choose_ok i v3 m pa oa h1)),rfl,(QD h3 h2),rfl,(rf cI 1 0 1 h2),rfl,(by have hx:=QD h5 h4; simpa using hx),rfl,rfl,(by rw [(show QO (rowI v1) (0+(Int.toNat i)*1) [.int .i64 (Qt m pa oa i v3)]=rowI (v1.set (Int.toNat i) (Qt m pa oa i v3)) from Xe cI (s:=1) (k:=0) (fun _=>rfl) h2 rfl (by first | decide | simp))]; exact rp cI 1 0 1 h4),(QD h7 h6),rfl,rfl,(rp cI 1 0 1 h6),(QD h9 h8),rfl,(rf cI 1 0 1 h8),rfl,q24_2,trivial⟩ ?_
     have h:=(h g0 g1)
     simp only [Wy,List.length_set] at h
     rw [(show QO (rowI v0) (0+(Int.toNat i)*1) [.int .i64 e2]=rowI (v0.set (Int.toNat i) e2) from Xe cI (s:=1) (k:=0) (fun _=>rfl) h8 rfl (by first | decide | simp))]; rw [(show QO (rowI v1) (0+(Int.toNat i)*1) [.int .i64 (Qt m pa oa i v3)]=rowI (v1.set (Int.toNat i) (Qt m pa oa i v3)) from Xe cI (s:=1) (k:=0) (fun _=>rfl) h2 rfl (by first | decide | simp))]
     exact h
theorem p83o_2_0 (m:Mch) (kd pa oa:Int) (i:Int) (j:(List Trn)) (j1:Nat) (v0:List Int) (v1:List Int) (v2_0:Int) (v2_1:Int) (v2_2:(List Trn)) (v3:List Int) (j11:Nat) (g0:Nat) (g1:Nat) (g3:Nat) (te:Trn) (e:Int) (e1:Int) {E:Env} {rv:AV} (hE:Qh Try.prog 83 rv E) (ho:AllP [(decide ((j11:Int)<(j1:Int)))=true,0≤(j11:Int)∧(j11:Int)<(j.length:Int),((QF j).drop (0+(Int.toNat (j11:Int))*2)).take 2=[.int .i64 te.w,.int .i64 te.to],2≤2,0≤i∧i<(v0.length:Int),g0=g0,g0=g0,((rowI v0).drop (0+(Int.toNat i)*1)).take 1=[.int .i64 e],0≤(j11:Int)∧(j11:Int)<(v3.length:Int),g3=g3,g3=g3,((rowI v3).drop (0+(Int.toNat (j11:Int))*1)).take 1=[.int .i64 e1],InR .i64 (te.w*e1),InR .i64 (e+(te.w*e1)),0≤i∧i<(v0.length:Int),g0=g0,((0+(Int.toNat i)*1)+1)≤(rowI v0).length,g0=g0,InR .i64 ((j11:Int)+1)])
 (hg:G Try.prog E (f83oK2 Try.prog) ⟨([.rptr (Wq m) 0,.clos 113 [] [.rptr [.int .i64 kd] 0],.clos 114 [] (Wp pa m oa),J,J,J,.sl 0 g0 0 v0.length 1,.sl 1 g1 0 v1.length 1,.int .i64 i,J,.sl 3 g3 0 v3.length 1]++jj 87 ([.rsl (QF j) 0 j.length,.int .i64 (j1:Int),.int .i64 ((j11:Int)+1)]++Js 37)),[⟨true,g0,1,true,(QO (rowI v0) (0+(Int.toNat i)*1) [.int .i64 (e+(te.w*e1))]),true⟩,⟨true,g1,1,true,(rowI v1),true⟩,⟨true,0,1,true,[.int .i64 v2_0,.int .i64 v2_1,.rsl (QF v2_2) 0 v2_2.length],false⟩,⟨true,g3,1,true,(rowI v3),true⟩]⟩):G Try.prog E (f83oK2 Try.prog) (f83oS2 m kd pa oa i j j1 v0 v1 v2_0 v2_1 v2_2 v3 j11 g0 g1 g3) :=
 Qm (n:=400) (ds:=[]) (cs:=[]) (live:=[0,1,2,6,7,8,10,98,99,100]) (m:=4) (evs:=[.b true,.ld (.agg [.int .i64 te.w,.int .i64 te.to]),.ld (.int .i64 e),.auto,.ld (.int .i64 e1),.stop]) (obs:=_) hE.2.1 (hE.nogh _) Qj (by kernel_rfl) ho hg
theorem p83o_2_1 (m:Mch) (kd pa oa:Int) (i:Int) (j:(List Trn)) (j1:Nat) (v0:List Int) (v1:List Int) (v2_0:Int) (v2_1:Int) (v2_2:(List Trn)) (v3:List Int) (j11:Nat) (g0:Nat) (g1:Nat) (g3:Nat) {E:Env} {rv:AV} (hE:Qh Try.prog 83 rv E) (ho:AllP [(decide ((j11:Int)<(j1:Int)))=false,InR .i64 (i - 1)])
 (hg:G Try.prog E (Vp Try.prog) ⟨(z83o_4 m kd pa oa g0 v0 g1 v1 i),[⟨true,g0,1,true,(rowI v0),true⟩,⟨true,g1,1,true,(rowI v1),true⟩]⟩):G Try.prog E (f83oK2 Try.prog) (f83oS2 m kd pa oa i j j1 v0 v1 v2_0 v2_1 v2_2 v3 j11 g0 g1 g3) :=
 Qm (n:=400) (ds:=[]) (cs:=[]) (live:=[0,1,2,6,7,8]) (m:=2) (evs:=[.b false,.stop]) (obs:=_) hE.2.1 (hE.nogh _) Qj (by kernel_rfl) ho hg
theorem f83oW2 (m:Mch) (kd pa oa:Int) (i:Int) (j:(List Trn)) (j1:Nat) (v0:List Int) (v1:List Int) (v2_0:Int) (v2_1:Int) (v2_2:(List Trn)) (v3:List Int) (j11:Nat) {E:Env} {rv:((List Int) × (List Int))} (hE:Qh Try.prog 83 (.tup [.rsl (rowI rv.1) 0 rv.1.length,.rsl (rowI rv.2) 0 rv.2.length]) E)
 (h:(((j11:Int)<(j1:Int)→(∃ te:Trn,j[j11]?=some te∧(0≤i∧(∃ e:Int,v0[Int.toNat i]?=some e∧(∃ e1:Int,v3[j11]?=some e1∧((I6 (te.w*e1))∧((I6 (e+(te.w*e1)))∧((I6 ((j11:Int)+1))∧f83oG2 E m kd pa oa i j j1 (v0.set (Int.toNat i) (e+(te.w*e1))) v1 v2_0 v2_1 v2_2 v3 (j11+1)))))))))∧(¬ ((j11:Int)<(j1:Int))→((I6 (i - 1))∧VI E m kd pa oa v0 v1 (i - 1))))):f83oG2 E m kd pa oa i j j1 v0 v1 v2_0 v2_1 v2_2 v3 j11:=by
 intro g0 g1 g3
 rcases bft (decide ((j11:Int)<(j1:Int))) with hc0 | hc0
 · have h:=h.1 (odt hc0)
   obtain ⟨te,h1,h⟩:=h
   obtain ⟨h3,h⟩:=h
   obtain ⟨e,h2,h⟩:=h
   obtain ⟨e1,h4,h⟩:=h
   obtain ⟨q15_1,h⟩:=h
   obtain ⟨q16_1,h⟩:=h
   obtain ⟨q21_1,h⟩:=h
   refine p83o_2_0 m kd pa oa i j j1 v0 v1 v2_0 v2_1 v2_2 v3 j11 g0 g1 g3 te e e1 hE ⟨hc0,(Xd h1),(rp cTrn 2 0 2 h1),(by decide),(QD h3 h2),rfl,rfl,(rp cI 1 0 1 h2),(Xd h4),rfl,rfl,(rp cI 1 0 1 h4),q15_1,q16_1,(QD h3 h2),rfl,(rf cI 1 0 1 h2),rfl,q21_1,trivial⟩ ?_
   have h:=(h g0 g1 g3)
   simp only [f83oS2,List.length_set] at h
   rw [(show QO (rowI v0) (0+(Int.toNat i)*1) [.int .i64 (e+(te.w*e1))]=rowI (v0.set (Int.toNat i) (e+(te.w*e1))) from Xe cI (s:=1) (k:=0) (fun _=>rfl) h2 rfl (by first | decide | simp))]
   exact h
 · have h:=h.2 (odf hc0)
   obtain ⟨q1_1,h⟩:=h
   exact p83o_2_1 m kd pa oa i j j1 v0 v1 v2_0 v2_1 v2_2 v3 j11 g0 g1 g3 hE ⟨hc0,q1_1,trivial⟩ (h g0 g1)
theorem valueo_ok (m:Mch) (kd pa oa:Int) (hm:MOk m):Pure Try.prog 83 [.rptr (cMch m) 0,.clos 113 [] [.rptr [.int .i64 kd] 0],.clos 114 [] [.rptr [.int .i64 pa] 0,.rptr [.rptr (cMch m) 0] 0,.rptr [.int .i64 oa] 0]] (.tup [.rsl (rowI (valA m (QV kd) (Qt m pa oa)).1) 0 (valA m (QV kd) (Qt m pa oa)).1.length,.rsl (rowI (valA m (QV kd) (Qt m pa oa)).2) 0 (valA m (QV kd) (Qt m pa oa)).2.length]):=QG Try.func83 f83ob fun E hE=>by
 have hw:WOk m (QV kd) (Qt m pa oa):=Yj
 have hform:=(Xf hm.st).2.2.2.2
 have hn:=(Xf hm.st).1
 have key:∀ (n:Nat) (p:List Int × List Int),n≤m.s.stages.length→VOk m n p→valA m (QV kd) (Qt m pa oa)=valN m (QV kd) (Qt m pa oa) n p→VI E m kd pa oa p.1 p.2 ((n:Int) - 1):=by
  intro n
  induction n with
  | zero =>
   intro p hn hp ha
   exact f83oW0 m kd pa oa p.1 p.2 _ (rv:=valA m (QV kd) (Qt m pa oa)) hE ⟨fun h=>by omega,fun _=>by rw [ha,valN]⟩
  | succ i ih =>
   intro p hn' hp ha
   have hi:m.s.stages[i]?=some m.s.stages[i]:=List.getElem?_eq_getElem (by omega)
   have hx:m.s.stages.getD i ⟨0,0,[]⟩=m.s.stages[i]:=by simp [List.getD,hi]
   have en:Int.toNat (i:Int)=i:=Int.toNat_natCast i
   have e0:((i+1:Nat):Int) - 1=(i:Int):=by omega
   have hp2:=yP hm hw (by omega) hp
   have nx:=ih (YJ m (QV kd) (Qt m pa oa) i p) (by omega) hp2 (by rw [ha,valN])
   have hfo:=Vd hi (hform i (by omega))
   have hto:=Yt hi (hform i (by omega))
   have htt:=WY hi (hform i (by omega))
   have hv0:p.1[i]?=some (p.1.getD i 0):=getD_some (by rw [hp.l1]; omega)
   have hv1:p.2[i]?=some (p.2.getD i 0):=getD_some (by rw [hp.l2]; omega)
   obtain ⟨q,q1,q2,q3,q4⟩:=hm.inv.rel i _ (by omega) hi
   unfold YJ at nx
   rw [hx] at nx
   generalize m.s.stages[i]=x at hi hx nx hfo hto htt q2 q4
   rw [e0]
   refine f83oW0 m kd pa oa p.1 p.2 (i:Int) (rv:=valA m (QV kd) (Qt m pa oa)) hE ⟨fun _=>⟨by omega,x,by rw [en]; exact hi,fun h4=>⟨fun hpr=>⟨by omega,_,by rw [en]; exact hv0,by omega,?_⟩,fun hpr=>⟨by omega,?_⟩⟩,fun h4=>?_⟩,fun h=>by omega⟩
   · rw [if_pos h4,if_pos hpr] at nx
     rw [en]; exact nx
   · rw [if_pos h4,if_neg hpr] at nx
     exact nx
   rw [if_neg h4] at nx
   have hlen:1≤x.turns.length∧x.turns.length≤8:=by
    rcases hfo with ⟨h,-⟩ | ⟨-,-,h,-⟩
    · exact absurd h h4
    · exact h
   have inner:∀ (d k:Nat),k+d=x.turns.length→f83oG1 E m kd pa oa (i:Int) x.turns x.turns.length p.1 p.2 x.kind x.prize x.turns (Xr m i p.1 (x.turns.take k)) k:=by
    intro d
    induction d with
    | zero =>
     intro k hd
     rw [List.take_of_length_le (by omega)]
     have hall:=Kc hm hi hp q1
     have hl:(Xr m i p.1 x.turns).length=x.turns.length:=by simp [Xr]
     have htot:=fun (h1:x.kind=1) (u:Int) (hu:m.meas[i]?=some u)=>sum_bd hm hi hp h1 hu
     have hch:=fun (h1:x.kind ≠ 1)=>hw.c1 i x _ hi h4 h1 hl (by omega)
     generalize Xr m i p.1 x.turns=N at nx hall hl htot hch
     refine f83oW1 m kd pa oa (i:Int) x.turns x.turns.length p.1 p.2 x.kind x.prize x.turns N k (rv:=valA m (QV kd) (Qt m pa oa)) hE ⟨fun h=>by omega,fun _=>⟨fun h1=>?_,fun h1=>?_⟩⟩
     · rw [if_pos h1] at nx
       rw [if_pos h1] at q2
       have tb:=htot h1 _ q2
       have mb:=hm.inv.pos i _ (by omega) q2
       generalize q*totI x=u at q2 tb mb
       rw [hp.lo i (by omega),Int.zero_add] at nx
       have loop:∀ (d k:Nat) (vs:List Int) (a:Int),k+d=x.turns.length→vs.length=m.s.stages.length→vs[i]?=some a→0≤a→a+sumW (x.turns.drop k) (N.drop k)=sumW x.turns N→p.1.set i (sumW x.turns N)=vs.set i (sumW x.turns N)→f83oG2 E m kd pa oa (i:Int) x.turns x.turns.length vs p.2 x.kind x.prize x.turns N k:=by
        intro d
        induction d with
        | zero =>
         intro k vs a hd hvl hva ha0 hsum hset
         rw [List.drop_eq_nil_of_le (by omega),sumW,Int.add_zero] at hsum
         rw [← hsum] at hset
         rw [set_same hva] at hset
         refine f83oW2 m kd pa oa (i:Int) x.turns x.turns.length vs p.2 x.kind x.prize x.turns N k (rv:=valA m (QV kd) (Qt m pa oa)) hE ⟨fun h=>by omega,fun _=>⟨by omega,?_⟩⟩
         rw [← hset,hsum]; exact nx
         all_goals simp
        | succ d ih2 =>
         intro k vs a hd hvl hva ha0 hsum hset
         have hk:x.turns[k]?=some x.turns[k]:=List.getElem?_eq_getElem (by omega)
         have hN:N[k]?=some N[k]:=List.getElem?_eq_getElem (by omega)
         have e1:x.turns.drop k=x.turns[k] :: x.turns.drop (k+1):=List.drop_eq_getElem_cons (by omega)
         have e2:N.drop k=N[k] :: N.drop (k+1):=List.drop_eq_getElem_cons (by omega)
         rw [e1,e2,sumW] at hsum
         have rest:=yT (ts:=x.turns.drop (k+1)) (es:=N.drop (k+1)) (B:=10000*q) (fun e he=>hall e (List.mem_of_mem_drop he)) (fun t ht=>(htt.1.2 t (List.mem_of_mem_drop ht)).1) (by simp [hl])
         have b1:=(htt.1.2 _ (List.mem_of_getElem? hk)).1
         have b2:=(hall _ (List.mem_of_getElem? hN)).1
         generalize x.turns[k]=te at hk hsum b1
         generalize N[k]=e at hN hsum b2
         have b3:=Int.mul_nonneg b1 b2
         refine f83oW2 m kd pa oa (i:Int) x.turns x.turns.length vs p.2 x.kind x.prize x.turns N k (rv:=valA m (QV kd) (Qt m pa oa)) hE ⟨fun _=>⟨te,hk,by omega,a,by rw [en]; exact hva,e,hN,by omega,by omega,by omega,?_⟩,fun h=>by omega⟩
         rw [en]
         exact ih2 (k+1) _ (a+te.w*e) (by omega) (by simp [hvl]) (by rw [List.getElem?_set_self (by omega)]) (by omega) (by omega) (by rw [List.set_set]; exact hset)
       exact loop x.turns.length 0 p.1 0 (by omega) hp.l1 (by rw [hv0,hp.lo i (by omega)]) (by omega) (by simp) rfl
     · rw [if_neg h1] at nx
       have hc:=hch h1
       have hcN:N[Int.toNat ((Qt m pa oa) (i:Int) N)]?=some (N.getD (Int.toNat ((Qt m pa oa) (i:Int) N)) 0):=getD_some hc.2
       refine ⟨⟨⟨by omega,by rw [en]; omega⟩,by omega,by omega⟩,by omega,_,by rw [en]; exact hv1,by omega,(Qt m pa oa) (i:Int) N,by rw [en,List.getElem?_set_self (by rw [hp.l2]; omega)],hc.1,_,hcN,by omega,_,by rw [en]; exact hv0,by omega,?_⟩
       rw [en]
       exact nx
    | succ d ih2 =>
     intro k hd
     have hk:x.turns[k]?=some x.turns[k]:=List.getElem?_eq_getElem (by omega)
     have nxt:=next_snoc (m:=m) (i:=i) (v:=p.1) hk
     have htm:=List.mem_of_getElem? hk
     generalize x.turns[k]=te at hk nxt htm
     obtain ⟨q',u,n1,n2,n3,n4,n5,n6,n7,n8,n9⟩:=next_bd hm hi hp htm
     have ht:=hto te htm
     have hvt:p.1[Int.toNat te.to]?=some (p.1.getD (Int.toNat te.to) 0):=getD_some (by rw [hp.l1]; omega)
     rw [XR n1,XR n2] at nxt
     refine f83oW1 m kd pa oa (i:Int) x.turns x.turns.length p.1 p.2 x.kind x.prize x.turns _ k (rv:=valA m (QV kd) (Qt m pa oa)) hE ⟨fun _=>⟨te,hk,ht.2.2,_,hvt,by omega,q',by rw [en]; exact n1,ht.2.2,u,n2,by omega,by omega,by omega,?_,by omega,?_⟩,fun h=>by omega⟩
     · simp [Xr]; omega
     · rw [← nxt]; exact ih2 (k+1) (by omega)
   exact inner x.turns.length 0 (by omega)
 have e:VI E m kd pa oa (XQ m.s.stages.length) (XQ m.s.stages.length) ((m.s.stages.length:Int) - 1):=key m.s.stages.length (XQ m.s.stages.length,XQ m.s.stages.length) (Nat.le_refl _) (val_ok0 hm) rfl
 exact f83oW m kd pa oa (rv:=valA m (QV kd) (Qt m pa oa)) hE ⟨by omega,by omega,by omega,e⟩
end Go.Proofs.Ytfgmlaeikcfpbaa
namespace Go.Proofs.Ytfgmlaeikcfpbaa
open Go Ax
open Go.Proofs
structure Fr where
 num:Int
 den:Int
def XC (n d:Int):Fr:=⟨Int.tdiv n (iMax (gcdI (iMax n (0 - n)) d) 1),Int.tdiv d (iMax (gcdI (iMax n (0 - n)) d) 1)⟩
def Xy (m:Mch) (w:Int→Int) (ch:Int→List Int→Int):Fr:=XC ((valA m w ch).1.getD 0 0) (m.meas.getD 0 0)
theorem f87b:Try.f87.body=some (Qg Try.prog 87):=by kernel_rfl
theorem u87 {a c k:List AV} {r:AV} (h:Pure Try.prog 87 (a++c++k) r):Qb Try.prog (.clos 87 a k) c r:=Qv Try.func87 (by kernel_rfl) f87b h
theorem p87_start_0 (n:Int) (d:Int) {E:Env} {res:AV} (hE:Qh Try.prog 87 res E) (ho:AllP [InR .i64 (0 - n),Qb Try.prog (.clos 117 [] []) [.int .i64 (iMax n (0 - n)),.int .i64 d] (.int .i64 (iMax (gcdI (iMax n (0 - n)) d) 1)),InR .i64 (Int.tdiv n (iMax (gcdI (iMax n (0 - n)) d) 1)),(iMax (gcdI (iMax n (0 - n)) d) 1) ≠ 0,InR .i64 (Int.tdiv d (iMax (gcdI (iMax n (0 - n)) d) 1)),(iMax (gcdI (iMax n (0 - n)) d) 1) ≠ 0,2≤2])
 (hr:AvLe (.agg [.int .i64 (Int.tdiv n (iMax (gcdI (iMax n (0 - n)) d) 1)),.int .i64 (Int.tdiv d (iMax (gcdI (iMax n (0 - n)) d) 1))]) res):G Try.prog E [.code (Qg Try.prog 87)] ⟨[.int .i64 n,.int .i64 d]++unds (Try.f87.ntmps - 2),[]⟩ :=
 Qc (n:=400) (evs:=[.v (.int .i64 (iMax (gcdI (iMax n (0 - n)) d) 1))]) (obs:=_) hE Try.func87 Qj (by kernel_rfl) ho hr
theorem f87W (n:Int) (d:Int) {E:Env} {rv:Fr} (hE:Qh Try.prog 87 (.agg [.int .i64 rv.num,.int .i64 rv.den]) E)
 (h:((I6 (0 - n))∧((0≤(iMax n (0 - n))∧0≤d)∧((I6 (Int.tdiv n (iMax (gcdI (iMax n (0 - n)) d) 1)))∧((iMax (gcdI (iMax n (0 - n)) d) 1) ≠ 0∧((I6 (Int.tdiv d (iMax (gcdI (iMax n (0 - n)) d) 1)))∧((iMax (gcdI (iMax n (0 - n)) d) 1) ≠ 0∧rv=(⟨(Int.tdiv n (iMax (gcdI (iMax n (0 - n)) d) 1)),(Int.tdiv d (iMax (gcdI (iMax n (0 - n)) d) 1))⟩:Fr)))))))):G Try.prog E [.code (Qg Try.prog 87)] ⟨[.int .i64 n,.int .i64 d]++unds (Try.f87.ntmps - 2),[]⟩:=by
 obtain ⟨q0_0,h⟩:=h
 obtain ⟨h1,h⟩:=h
 obtain ⟨q2_0,h⟩:=h
 obtain ⟨q3_0,h⟩:=h
 obtain ⟨q4_0,h⟩:=h
 obtain ⟨q5_0,h⟩:=h
 exact p87_start_0 n d hE ⟨q0_0,(u117 (Wj (iMax n (0 - n)) d h1)),q2_0,q3_0,q4_0,q5_0,(by decide),trivial⟩ (AvLe.of_eq (by rw [h]; try rfl))
theorem WM {a:Int}:1≤iMax a 1:=by unfold iMax; split <;> omega
theorem VT {n g B:Int} (hg:1≤g) (h1:-B≤n) (h2:n≤B):-B≤Int.tdiv n g∧Int.tdiv n g≤B:=by
 have key:∀ a:Int,0≤a→0≤Int.tdiv a g∧Int.tdiv a g≤a:=fun a ha=>by
  rw [Int.tdiv_eq_ediv_of_nonneg ha]
  exact ⟨Int.ediv_nonneg ha (by omega),Int.ediv_le_self g ha⟩
 by_cases h:0≤n
 · have:=key n h; omega
 · have h3:=key (-n) (by omega)
   rw [Int.neg_tdiv] at h3
   omega
theorem frac_ok (n d:Int) (h:(-100000000000000000≤n∧n≤100000000000000000)∧0<d∧d≤1000000000000):Pure Try.prog 87 [.int .i64 n,.int .i64 d] (.agg [.int .i64 (XC n d).num,.int .i64 (XC n d).den]):=QG Try.func87 f87b fun E hE=>by
 have h0:0≤iMax n (0 - n):=by unfold iMax; split <;> omega
 have hg:1≤iMax (gcdI (iMax n (0 - n)) d) 1:=WM
 have b1:=VT hg h.1.1 h.1.2
 have b2:=VT (n:=d) (B:=1000000000000) hg (by omega) (by omega)
 exact f87W n d (rv:=XC n d) hE ⟨by omega,⟨h0,by omega⟩,by omega,by omega,by omega,by omega,rfl⟩
theorem meas0 {m:Mch} (hm:MOk m):∃ u,m.meas[0]?=some u∧0<u∧u≤1000000000000:=by
 have hn:=(Xf hm.st).1
 have hg:m.meas[0]?=some (m.meas[0]'(by rw [hm.inv.l1]; omega)):=List.getElem?_eq_getElem _
 exact ⟨_,hg,hm.inv.pos 0 _ (by omega) hg⟩
theorem val0 {m:Mch} (hm:MOk m) {w:Int→Int} {ch:Int→List Int→Int} (hw:WOk m w ch):∃ v,(valA m w ch).1[0]?=some v∧(-100000000000000000≤v∧v≤100000000000000000):=by
 have hn:=(Xf hm.st).1
 have hv:=yQ hm hw
 obtain ⟨u,h1,h2⟩:=meas0 hm
 have:=hv.hi 0 u (by omega) h1
 exact ⟨_,getD_some (by rw [hv.l1]; omega),by omega,by omega⟩
theorem f75ob:Try.f75.body=some (Qg Try.prog 75):=by kernel_rfl
abbrev z75o_1 (m:Mch):List AV:=[.rsl (Qi m.s.stages) 0 m.s.stages.length,.rsl (rowI m.s.worth) 0 m.s.worth.length,.int .i64 m.s.price,.rsl (rowI m.meas) 0 m.meas.length,.rsl (rowI m.mult) 0 m.mult.length]
abbrev z75o_2 (m:Mch) (kd:Int) (pa:Int) (oa:Int):AV:=.tup [.rsl (rowI ((valA m (QV kd) (Qt m pa oa)).1)) 0 (((valA m (QV kd) (Qt m pa oa)).1).length),.rsl (rowI ((valA m (QV kd) (Qt m pa oa)).2)) 0 (((valA m (QV kd) (Qt m pa oa)).2).length)]
theorem p75o_start_0 (m:Mch) (kd pa oa:Int) (e:Int) (e1:Int) {E:Env} {res:AV} (hE:Qh Try.prog 75 res E) (ho:AllP [Qb Try.prog (.clos 83 [] []) [.rptr (z75o_1 m) 0,.clos 113 [] [.rptr [.int .i64 kd] 0],.clos 114 [] [.rptr [.int .i64 pa] 0,.rptr [.rptr (z75o_1 m) 0] 0,.rptr [.int .i64 oa] 0]] (z75o_2 m kd pa oa),(0:Int)≤0∧(0:Int)<((((valA m (QV kd) (Qt m pa oa)).1).length:Nat):Int),((rowI ((valA m (QV kd) (Qt m pa oa)).1)).drop (0+0*1)).take 1=[.int .i64 e],(0:Int)≤0∧(0:Int)<(m.meas.length:Int),((rowI m.meas).drop (0+0*1)).take 1=[.int .i64 e1],Qb Try.prog (.clos 87 [] []) [.int .i64 e,.int .i64 e1] (.agg [.int .i64 ((XC e e1).num),.int .i64 ((XC e e1).den)]),2≤2])
 (hr:AvLe (.agg [.int .i64 ((XC e e1).num),.int .i64 ((XC e e1).den)]) res):G Try.prog E [.code (Qg Try.prog 75)] ⟨[.rptr (z75o_1 m) 0,.clos 113 [] [.rptr [.int .i64 kd] 0],.clos 114 [] [.rptr [.int .i64 pa] 0,.rptr [.rptr (z75o_1 m) 0] 0,.rptr [.int .i64 oa] 0]]++unds (Try.f75.ntmps - 3),[]⟩ :=
 Qc (n:=400) (evs:=[.v (z75o_2 m kd pa oa),.ld (.int .i64 e),.auto,.ld (.int .i64 e1),.v (.agg [.int .i64 ((XC e e1).num),.int .i64 ((XC e e1).den)])]) (obs:=_) hE Try.func75 Qj (by kernel_rfl) ho hr
theorem f75oW (m:Mch) (kd pa oa:Int) {E:Env} {rv:Fr} (hE:Qh Try.prog 75 (.agg [.int .i64 rv.num,.int .i64 rv.den]) E)
 (h:((MOk m)∧(∃ e:Int,((valA m (QV kd) (Qt m pa oa)).1)[0]?=some e∧(∃ e1:Int,m.meas[0]?=some e1∧(((-100000000000000000≤e∧e≤100000000000000000)∧0<e1∧e1≤1000000000000)∧rv=(XC e e1)))))):G Try.prog E [.code (Qg Try.prog 75)] ⟨[.rptr [.rsl (Qi m.s.stages) 0 m.s.stages.length,.rsl (rowI m.s.worth) 0 m.s.worth.length,.int .i64 m.s.price,.rsl (rowI m.meas) 0 m.meas.length,.rsl (rowI m.mult) 0 m.mult.length] 0,.clos 113 [] [.rptr [.int .i64 kd] 0],.clos 114 [] [.rptr [.int .i64 pa] 0,.rptr [.rptr [.rsl (Qi m.s.stages) 0 m.s.stages.length,.rsl (rowI m.s.worth) 0 m.s.worth.length,.int .i64 m.s.price,.rsl (rowI m.meas) 0 m.meas.length,.rsl (rowI m.mult) 0 m.mult.length] 0] 0,.rptr [.int .i64 oa] 0]]++unds (Try.f75.ntmps - 3),[]⟩:=by
 obtain ⟨h1,h⟩:=h
 obtain ⟨e,h2,h⟩:=h
 obtain ⟨e1,h3,h⟩:=h
 obtain ⟨h4,h⟩:=h
 exact p75o_start_0 m kd pa oa e e1 hE ⟨(Qv Try.func83 (by kernel_rfl) f83ob (valueo_ok m kd pa oa h1)),(Xd h2),(rp cI 1 0 1 h2),(Xd h3),(rp cI 1 0 1 h3),(u87 (frac_ok e e1 h4)),(by decide),trivial⟩ (AvLe.of_eq (by rw [h]; try rfl))
theorem firsto_ok (m:Mch) (kd pa oa:Int) (hm:MOk m):Pure Try.prog 75 [.rptr (cMch m) 0,.clos 113 [] [.rptr [.int .i64 kd] 0],.clos 114 [] [.rptr [.int .i64 pa] 0,.rptr [.rptr (cMch m) 0] 0,.rptr [.int .i64 oa] 0]] (.agg [.int .i64 (Xy m (QV kd) (Qt m pa oa)).num,.int .i64 (Xy m (QV kd) (Qt m pa oa)).den]):=QG Try.func75 f75ob fun E hE=>by
 obtain ⟨v,hv,hb⟩:=val0 hm (w:=(QV kd)) (ch:=(Qt m pa oa)) (Yj)
 obtain ⟨u,hu,hb2⟩:=meas0 hm
 exact f75oW m kd pa oa (rv:=Xy m (QV kd) (Qt m pa oa)) hE ⟨hm,v,hv,u,hu,⟨hb,hb2⟩,by rw [Xy,XR hv,XR hu]⟩
theorem f72b:Try.f72.body=some (Qg Try.prog 72):=by kernel_rfl
theorem u72 {a c k:List AV} {r:AV} (h:Pure Try.prog 72 (a++c++k) r):Qb Try.prog (.clos 72 a k) c r:=Qv Try.func72 (by kernel_rfl) f72b h
abbrev z72_1 (m:Mch):List AV:=[.rsl (Qi m.s.stages) 0 m.s.stages.length,.rsl (rowI m.s.worth) 0 m.s.worth.length,.int .i64 m.s.price,.rsl (rowI m.meas) 0 m.meas.length,.rsl (rowI m.mult) 0 m.mult.length]
theorem p72_start_0 (m:Mch) (kd pa oa:Int) {E:Env} {res:AV} (hE:Qh Try.prog 72 res E) (ho:AllP [Qb Try.prog (.clos 73 [] []) [.rptr (z72_1 m) 0,.int .i64 kd] (.bool (VF m kd)),(VF m kd)=true,Qb Try.prog (.clos 74 [] []) [.rsl [.int .i64 pa,.int .i64 oa] 0 2] (.bool (qS ([pa,oa]))),0=0])
 (hr:AvLe (.bool (qS ([pa,oa]))) res):G Try.prog E [.code (Qg Try.prog 72)] ⟨[.rptr (z72_1 m) 0,.rptr [.int .i64 kd] 0,.rptr [.int .i64 pa] 0,.rptr [.int .i64 oa] 0]++unds (Try.f72.ntmps - 4),[]⟩ :=
 Qc (n:=400) (evs:=[.v (.bool (VF m kd)),.b true,.v (.bool (qS ([pa,oa])))]) (obs:=_) hE Try.func72 Qj (by kernel_rfl) ho hr
theorem p72_start_1 (m:Mch) (kd pa oa:Int) {E:Env} {res:AV} (hE:Qh Try.prog 72 res E) (ho:AllP [Qb Try.prog (.clos 73 [] []) [.rptr (z72_1 m) 0,.int .i64 kd] (.bool (VF m kd)),(VF m kd)=false])
 (hr:AvLe (.bool false) res):G Try.prog E [.code (Qg Try.prog 72)] ⟨[.rptr (z72_1 m) 0,.rptr [.int .i64 kd] 0,.rptr [.int .i64 pa] 0,.rptr [.int .i64 oa] 0]++unds (Try.f72.ntmps - 4),[]⟩ :=
 Qc (n:=400) (evs:=[.v (.bool (VF m kd)),.b false]) (obs:=_) hE Try.func72 Qj (by kernel_rfl) ho hr
theorem f72W (m:Mch) (kd pa oa:Int) {E:Env} {rv:Bool} (hE:Qh Try.prog 72 (.bool rv) E)
 (h:((m.s.worth.length≤1000000)∧(((VF m kd)=true→((([pa,oa]).length≤9223372036854775807)∧rv=(qS ([pa,oa]))))∧((VF m kd)=false→rv=false)))):G Try.prog E [.code (Qg Try.prog 72)] ⟨[.rptr [.rsl (Qi m.s.stages) 0 m.s.stages.length,.rsl (rowI m.s.worth) 0 m.s.worth.length,.int .i64 m.s.price,.rsl (rowI m.meas) 0 m.meas.length,.rsl (rowI m.mult) 0 m.mult.length] 0,.rptr [.int .i64 kd] 0,.rptr [.int .i64 pa] 0,.rptr [.int .i64 oa] 0]++unds (Try.f72.ntmps - 4),[]⟩:=by
 obtain ⟨h1,h⟩:=h
 rcases bft (VF m kd) with hc0 | hc0
 · have h:=h.1 hc0
   obtain ⟨h2,h⟩:=h
   exact p72_start_0 m kd pa oa hE ⟨(u73 (kind_ok m kd h1)),hc0,(u74 (aims_ok ([pa,oa]) h2)),rfl,trivial⟩ (AvLe.of_eq (by rw [h]; try rfl))
 · have h:=h.2 hc0
   exact p72_start_1 m kd pa oa hE ⟨(u73 (kind_ok m kd h1)),hc0,trivial⟩ (AvLe.of_eq (by rw [h]; try rfl))
def XE (m:Mch) (kd pa oa:Int):Bool:=VF m kd && qS [pa,oa]
theorem yg (m:Mch) (kd pa oa:Int) (h:m.s.worth.length≤1000000):Pure Try.prog 72 [.rptr (cMch m) 0,.rptr [.int .i64 kd] 0,.rptr [.int .i64 pa] 0,.rptr [.int .i64 oa] 0] (.bool (XE m kd pa oa)):=QG Try.func72 f72b fun E hE =>
 f72W m kd pa oa (rv:=XE m kd pa oa) hE ⟨h,fun h1=>⟨by simp,by simp [XE,h1]⟩,fun h1=>by simp [XE,h1]⟩
def begR (s:Stl) (rt:Bool):AV:=if (XG s).isSome=true then (if rt=true then .tup [.rptr (cMch (Qn s)) 0,.int .i64 0] else .tup [.nilPtr,.int .i64 1]) else .tup [.nilPtr,.int .i64 60]
theorem begR_T {s:Stl} {rt:Bool} (h0:(XG s).isSome=true) (h1:rt=true):begR s rt=.tup [.rptr (cMch (Qn s)) 0,.int .i64 0]:=by rw [begR,if_pos h0,if_pos h1]
theorem begR_F1 {s:Stl} {rt:Bool} (h0:(XG s).isSome=true) (h1:rt=false):begR s rt=.tup [.nilPtr,.int .i64 1]:=by rw [begR,if_pos h0,if_neg (by rw [h1]; simp)]
theorem begR_F0 {s:Stl} {rt:Bool} (h0:(XG s).isSome=false):begR s rt=.tup [.nilPtr,.int .i64 60]:=by rw [begR,if_neg (by rw [h0]; simp)]
theorem VD {s:Stl} (h:(XG s).isSome=true):MOk (Qn s)∧(Qn s).s=s:=by
 obtain ⟨m,hm⟩:=Option.isSome_iff_exists.1 h
 rw [show Qn s=m by simp [Qn,hm]]
 exact mok_of hm
theorem Km:Try.f71.body=some (Qg Try.prog 71):=by kernel_rfl
theorem qO (s:Stl) (kd pa oa:Int) {E:Env} {res:AV} (hE:Qh Try.prog 71 res E) (ho:AllP [Qb Try.prog (.clos 61 [] []) [.agg [.rsl (Qi s.stages) 0 s.stages.length,.rsl (rowI s.worth) 0 s.worth.length,.int .i64 s.price]] (.tup [.rptr [.rsl (Qi (((Qn s).s).stages)) 0 ((((Qn s).s).stages).length),.rsl (rowI (((Qn s).s).worth)) 0 ((((Qn s).s).worth).length),.int .i64 (((Qn s).s).price),.rsl (rowI ((Qn s).meas)) 0 (((Qn s).meas).length),.rsl (rowI ((Qn s).mult)) 0 (((Qn s).mult).length)] 0,.bool true]),false=false,Qb Try.prog (.clos 72 [] [.rptr [.int .i64 kd] 0,.rptr [.int .i64 pa] 0,.rptr [.int .i64 oa] 0]) [.rptr [.rsl (Qi (((Qn s).s).stages)) 0 ((((Qn s).s).stages).length),.rsl (rowI (((Qn s).s).worth)) 0 ((((Qn s).s).worth).length),.int .i64 (((Qn s).s).price),.rsl (rowI ((Qn s).meas)) 0 (((Qn s).meas).length),.rsl (rowI ((Qn s).mult)) 0 (((Qn s).mult).length)] 0] (.bool (XE (Qn s) kd pa oa)),(!(XE (Qn s) kd pa oa))=true])
 (hr:AvLe (.tup [.nilPtr,.int .i64 1]) res):G Try.prog E [.code (Qg Try.prog 71)] ⟨[.agg [.rsl (Qi s.stages) 0 s.stages.length,.rsl (rowI s.worth) 0 s.worth.length,.int .i64 s.price],.clos 72 [] [.rptr [.int .i64 kd] 0,.rptr [.int .i64 pa] 0,.rptr [.int .i64 oa] 0]]++unds (Try.f71.ntmps - 2),[]⟩ :=
 Qc (n:=400) (evs:=[.v (.tup [.rptr [.rsl (Qi (((Qn s).s).stages)) 0 ((((Qn s).s).stages).length),.rsl (rowI (((Qn s).s).worth)) 0 ((((Qn s).s).worth).length),.int .i64 (((Qn s).s).price),.rsl (rowI ((Qn s).meas)) 0 (((Qn s).meas).length),.rsl (rowI ((Qn s).mult)) 0 (((Qn s).mult).length)] 0,.bool true]),.b false,.v (.bool (XE (Qn s) kd pa oa)),.b true]) (obs:=_) hE Try.func71 Qj (by kernel_rfl) ho hr
theorem qN (s:Stl) (kd pa oa:Int) {E:Env} {res:AV} (hE:Qh Try.prog 71 res E) (ho:AllP [Qb Try.prog (.clos 61 [] []) [.agg [.rsl (Qi s.stages) 0 s.stages.length,.rsl (rowI s.worth) 0 s.worth.length,.int .i64 s.price]] (.tup [.rptr [.rsl (Qi (((Qn s).s).stages)) 0 ((((Qn s).s).stages).length),.rsl (rowI (((Qn s).s).worth)) 0 ((((Qn s).s).worth).length),.int .i64 (((Qn s).s).price),.rsl (rowI ((Qn s).meas)) 0 (((Qn s).meas).length),.rsl (rowI ((Qn s).mult)) 0 (((Qn s).mult).length)] 0,.bool true]),false=false,Qb Try.prog (.clos 72 [] [.rptr [.int .i64 kd] 0,.rptr [.int .i64 pa] 0,.rptr [.int .i64 oa] 0]) [.rptr [.rsl (Qi (((Qn s).s).stages)) 0 ((((Qn s).s).stages).length),.rsl (rowI (((Qn s).s).worth)) 0 ((((Qn s).s).worth).length),.int .i64 (((Qn s).s).price),.rsl (rowI ((Qn s).meas)) 0 (((Qn s).meas).length),.rsl (rowI ((Qn s).mult)) 0 (((Qn s).mult).length)] 0] (.bool (XE (Qn s) kd pa oa)),(!(XE (Qn s) kd pa oa))=false])
 (hr:AvLe (.tup [.rptr [.rsl (Qi (((Qn s).s).stages)) 0 ((((Qn s).s).stages).length),.rsl (rowI (((Qn s).s).worth)) 0 ((((Qn s).s).worth).length),.int .i64 (((Qn s).s).price),.rsl (rowI ((Qn s).meas)) 0 (((Qn s).meas).length),.rsl (rowI ((Qn s).mult)) 0 (((Qn s).mult).length)] 0,.int .i64 0]) res):G Try.prog E [.code (Qg Try.prog 71)] ⟨[.agg [.rsl (Qi s.stages) 0 s.stages.length,.rsl (rowI s.worth) 0 s.worth.length,.int .i64 s.price],.clos 72 [] [.rptr [.int .i64 kd] 0,.rptr [.int .i64 pa] 0,.rptr [.int .i64 oa] 0]]++unds (Try.f71.ntmps - 2),[]⟩ :=
 Qc (n:=400) (evs:=[.v (.tup [.rptr [.rsl (Qi (((Qn s).s).stages)) 0 ((((Qn s).s).stages).length),.rsl (rowI (((Qn s).s).worth)) 0 ((((Qn s).s).worth).length),.int .i64 (((Qn s).s).price),.rsl (rowI ((Qn s).meas)) 0 (((Qn s).meas).length),.rsl (rowI ((Qn s).mult)) 0 (((Qn s).mult).length)] 0,.bool true]),.b false,.v (.bool (XE (Qn s) kd pa oa)),.b false]) (obs:=_) hE Try.func71 Qj (by kernel_rfl) ho hr
theorem qM (s:Stl) (kd pa oa:Int) {E:Env} {res:AV} (hE:Qh Try.prog 71 res E) (ho:AllP [Qb Try.prog (.clos 61 [] []) [.agg [.rsl (Qi s.stages) 0 s.stages.length,.rsl (rowI s.worth) 0 s.worth.length,.int .i64 s.price]] (.tup [.nilPtr,.bool false]),true=true])
 (hr:AvLe (.tup [.nilPtr,.int .i64 60]) res):G Try.prog E [.code (Qg Try.prog 71)] ⟨[.agg [.rsl (Qi s.stages) 0 s.stages.length,.rsl (rowI s.worth) 0 s.worth.length,.int .i64 s.price],.clos 72 [] [.rptr [.int .i64 kd] 0,.rptr [.int .i64 pa] 0,.rptr [.int .i64 oa] 0]]++unds (Try.f71.ntmps - 2),[]⟩ :=
 Qc (n:=400) (evs:=[.v (.tup [.nilPtr,.bool false]),.b true]) (obs:=_) hE Try.func71 Qj (by kernel_rfl) ho hr
theorem f71x72W (s:Stl) (kd pa oa:Int) {E:Env} {rv:AV} (hE:Qh Try.prog 71 rv E)
 (h:((((XG s).isSome)=true→((s.stages.length≤9223372036854775807∧s.worth.length≤9223372036854775807)∧(((Qn s).s.worth.length≤1000000)∧(((XE (Qn s) kd pa oa)=false→rv=(.tup [.nilPtr,.int .i64 1]))∧((XE (Qn s) kd pa oa)=true→rv=(.tup [.rptr [.rsl (Qi (((Qn s).s).stages)) 0 ((((Qn s).s).stages).length),.rsl (rowI (((Qn s).s).worth)) 0 ((((Qn s).s).worth).length),.int .i64 (((Qn s).s).price),.rsl (rowI ((Qn s).meas)) 0 (((Qn s).meas).length),.rsl (rowI ((Qn s).mult)) 0 (((Qn s).mult).length)] 0,.int .i64 0]))))))∧(((XG s).isSome)=false→((s.stages.length≤9223372036854775807∧s.worth.length≤9223372036854775807)∧rv=(.tup [.nilPtr,.int .i64 60]))))):G Try.prog E [.code (Qg Try.prog 71)] ⟨[.agg [.rsl (Qi s.stages) 0 s.stages.length,.rsl (rowI s.worth) 0 s.worth.length,.int .i64 s.price],.clos 72 [] [.rptr [.int .i64 kd] 0,.rptr [.int .i64 pa] 0,.rptr [.int .i64 oa] 0]]++unds (Try.f71.ntmps - 2),[]⟩:=by
 rcases bft ((XG s).isSome) with hc0 | hc0
 · have h:=h.1 hc0
   obtain ⟨h1,h⟩:=h
   obtain ⟨h2,h⟩:=h
   rcases bft (!(XE (Qn s) kd pa oa)) with hc1 | hc1
   · have h:=h.1 (bnT hc1)
     exact qO s kd pa oa hE ⟨(u61 (Vr s h1 hc0)),rfl,(u72 (yg (Qn s) kd pa oa h2)),hc1,trivial⟩ (AvLe.of_eq (by rw [h]; try rfl))
   · have h:=h.2 (bnF hc1)
     exact qN s kd pa oa hE ⟨(u61 (Vr s h1 hc0)),rfl,(u72 (yg (Qn s) kd pa oa h2)),hc1,trivial⟩ (AvLe.of_eq (by rw [h]; try rfl))
 · have h:=h.2 hc0
   obtain ⟨h1,h⟩:=h
   exact qM s kd pa oa hE ⟨(u61 (qj s h1 hc0)),rfl,trivial⟩ (AvLe.of_eq (by rw [h]; try rfl))
theorem Kq (s:Stl) (kd pa oa:Int) (h:s.stages.length≤9223372036854775807∧s.worth.length≤9223372036854775807):Pure Try.prog 71 [.agg [.rsl (Qi s.stages) 0 s.stages.length,.rsl (rowI s.worth) 0 s.worth.length,.int .i64 s.price],.clos 72 [] [.rptr [.int .i64 kd] 0,.rptr [.int .i64 pa] 0,.rptr [.int .i64 oa] 0]] (begR s (XE (Qn s) kd pa oa)):=QG Try.func71 Km fun E hE=>by
 refine f71x72W s kd pa oa (rv:=begR s (XE (Qn s) kd pa oa)) hE ⟨fun h0=>⟨h,?_⟩,fun h0=>⟨h,begR_F0 h0⟩⟩
 have hm:=(VD h0).1
 have hw:=(Xf hm.st).2.1
 have hs:=(Xf hm.st).1
 exact ⟨by omega,⟨fun h1=>begR_F1 h0 h1,fun h1=>begR_T h0 h1⟩⟩
theorem f25b:Try.f25.body=some (Qg Try.prog 25):=by kernel_rfl
theorem u25 {a c k:List AV} {r:AV} (h:Pure Try.prog 25 (a++c++k) r):Qb Try.prog (.clos 25 a k) c r:=Qv Try.func25 (by kernel_rfl) f25b h
abbrev z25_1 (s:Stl):List AV:=[.rsl (Qi (((Qn s).s).stages)) 0 ((((Qn s).s).stages).length),.rsl (rowI (((Qn s).s).worth)) 0 ((((Qn s).s).worth).length),.int .i64 (((Qn s).s).price),.rsl (rowI ((Qn s).meas)) 0 (((Qn s).meas).length),.rsl (rowI ((Qn s).mult)) 0 (((Qn s).mult).length)]
abbrev z25_2 (s:Stl):List AV:=[.rsl (Qi s.stages) 0 s.stages.length,.rsl (rowI s.worth) 0 s.worth.length,.int .i64 s.price]
abbrev z25_3 (s:Stl) (kd:Int) (pa:Int) (oa:Int):List AV:=[.agg (z25_2 s),.clos 72 [] [.rptr [.int .i64 kd] 0,.rptr [.int .i64 pa] 0,.rptr [.int .i64 oa] 0]]
theorem p25_start_0 (s:Stl) (kd:Int) (pa:Int) (oa:Int) {E:Env} {res:AV} (hE:Qh Try.prog 25 res E) (ho:AllP [Qb Try.prog (.clos 71 [] []) (z25_3 s kd pa oa) (.tup [.rptr (z25_1 s) 0,.int .i64 0]),false=false,Qb Try.prog (.clos 76 [] []) [.int .i64 kd] (.clos 113 [] [.rptr [.int .i64 kd] 0]),Qb Try.prog (.clos 77 [] []) [.rptr (z25_1 s) 0,.int .i64 pa,.int .i64 oa] (.clos 114 [] [.rptr [.int .i64 pa] 0,.rptr [.rptr (z25_1 s) 0] 0,.rptr [.int .i64 oa] 0]),Qb Try.prog (.clos 75 [] []) [.rptr (z25_1 s) 0,.clos 113 [] [.rptr [.int .i64 kd] 0],.clos 114 [] [.rptr [.int .i64 pa] 0,.rptr [.rptr (z25_1 s) 0] 0,.rptr [.int .i64 oa] 0]] (.agg [.int .i64 ((Xy (Qn s) (QV kd) (Qt (Qn s) pa oa)).num),.int .i64 ((Xy (Qn s) (QV kd) (Qt (Qn s) pa oa)).den)]),2≤2,(0:Int)≤0∧(0:Int)<((2:Nat):Int),(0:Int)≤1∧(1:Int)<((2:Nat):Int)])
 (hr:AvLe (.tup [.int .i64 ((Xy (Qn s) (QV kd) (Qt (Qn s) pa oa)).num),.int .i64 ((Xy (Qn s) (QV kd) (Qt (Qn s) pa oa)).den),.int .i64 0]) res):G Try.prog E [.code (Qg Try.prog 25)] ⟨[.agg (z25_2 s),.int .i64 kd,.int .i64 pa,.int .i64 oa]++unds (Try.f25.ntmps - 4),[]⟩ :=
 Qc (n:=400) (evs:=[.wt 5,.wt 6,.wt 7,.v (.tup [.rptr (z25_1 s) 0,.int .i64 0]),.b false,.v (.clos 113 [] [.rptr [.int .i64 kd] 0]),.v (.clos 114 [] [.rptr [.int .i64 pa] 0,.rptr [.rptr (z25_1 s) 0] 0,.rptr [.int .i64 oa] 0]),.v (.agg [.int .i64 ((Xy (Qn s) (QV kd) (Qt (Qn s) pa oa)).num),.int .i64 ((Xy (Qn s) (QV kd) (Qt (Qn s) pa oa)).den)])]) (obs:=_) hE Try.func25 Qj (by kernel_rfl) ho hr
theorem p25_start_1 (s:Stl) (kd:Int) (pa:Int) (oa:Int) {E:Env} {res:AV} (hE:Qh Try.prog 25 res E) (ho:AllP [Qb Try.prog (.clos 71 [] []) (z25_3 s kd pa oa) (.tup [.nilPtr,.int .i64 1]),true=true])
 (hr:AvLe (.tup [.int .i64 0,.int .i64 0,.int .i64 1]) res):G Try.prog E [.code (Qg Try.prog 25)] ⟨[.agg (z25_2 s),.int .i64 kd,.int .i64 pa,.int .i64 oa]++unds (Try.f25.ntmps - 4),[]⟩ :=
 Qc (n:=400) (evs:=[.wt 5,.wt 6,.wt 7,.v (.tup [.nilPtr,.int .i64 1]),.b true]) (obs:=_) hE Try.func25 Qj (by kernel_rfl) ho hr
theorem p25_start_2 (s:Stl) (kd:Int) (pa:Int) (oa:Int) {E:Env} {res:AV} (hE:Qh Try.prog 25 res E) (ho:AllP [Qb Try.prog (.clos 71 [] []) (z25_3 s kd pa oa) (.tup [.nilPtr,.int .i64 60]),true=true])
 (hr:AvLe (.tup [.int .i64 0,.int .i64 0,.int .i64 60]) res):G Try.prog E [.code (Qg Try.prog 25)] ⟨[.agg (z25_2 s),.int .i64 kd,.int .i64 pa,.int .i64 oa]++unds (Try.f25.ntmps - 4),[]⟩ :=
 Qc (n:=400) (evs:=[.wt 5,.wt 6,.wt 7,.v (.tup [.nilPtr,.int .i64 60]),.b true]) (obs:=_) hE Try.func25 Qj (by kernel_rfl) ho hr
theorem f25W (s:Stl) (kd:Int) (pa:Int) (oa:Int) {E:Env} {rv:(Int × Int × Int)} (hE:Qh Try.prog 25 (.tup [.int .i64 rv.1,.int .i64 rv.2.1,.int .i64 rv.2.2]) E)
 (h:((((XG s).isSome)=true→(((XE (Qn s) kd pa oa)=true→((s.stages.length≤9223372036854775807∧s.worth.length≤9223372036854775807)∧((MOk (Qn s))∧rv=((Xy (Qn s) (QV kd) (Qt (Qn s) pa oa)).num,(Xy (Qn s) (QV kd) (Qt (Qn s) pa oa)).den,0))))∧((XE (Qn s) kd pa oa)=false→((s.stages.length≤9223372036854775807∧s.worth.length≤9223372036854775807)∧rv=(0,0,1)))))∧(((XG s).isSome)=false→((s.stages.length≤9223372036854775807∧s.worth.length≤9223372036854775807)∧rv=(0,0,60))))):G Try.prog E [.code (Qg Try.prog 25)] ⟨[.agg [.rsl (Qi s.stages) 0 s.stages.length,.rsl (rowI s.worth) 0 s.worth.length,.int .i64 s.price],.int .i64 kd,.int .i64 pa,.int .i64 oa]++unds (Try.f25.ntmps - 4),[]⟩:=by
 rcases bft ((XG s).isSome) with hc0 | hc0
 · have h:=h.1 hc0
   rcases bft (XE (Qn s) kd pa oa) with hc1 | hc1
   · have h:=h.1 hc1
     obtain ⟨h1,h⟩:=h
     obtain ⟨h2,h⟩:=h
     exact p25_start_0 s kd pa oa hE ⟨(Qv Try.func71 (by kernel_rfl) Km (begR_T hc0 hc1 ▸ Kq s kd pa oa h1)),rfl,(u76 (mkonly_ok kd)),(u77 (mkaims_ok (Qn s) pa oa)),(Qv Try.func75 (by kernel_rfl) f75ob (firsto_ok (Qn s) kd pa oa h2)),(by decide),(⟨by decide,by decide⟩),(⟨by decide,by decide⟩),trivial⟩ (AvLe.of_eq (by rw [h]; try rfl))
   · have h:=h.2 hc1
     obtain ⟨h1,h⟩:=h
     exact p25_start_1 s kd pa oa hE ⟨(Qv Try.func71 (by kernel_rfl) Km (begR_F1 hc0 hc1 ▸ Kq s kd pa oa h1)),rfl,trivial⟩ (AvLe.of_eq (by rw [h]; try rfl))
 · have h:=h.2 hc0
   obtain ⟨h1,h⟩:=h
   exact p25_start_2 s kd pa oa hE ⟨(Qv Try.func71 (by kernel_rfl) Km (begR_F0 hc0 ▸ Kq s kd pa oa h1)),rfl,trivial⟩ (AvLe.of_eq (by rw [h]; try rfl))
theorem f64b:Try.f64.body=some (Qg Try.prog 64):=by kernel_rfl
theorem u64 {a c k:List AV} {r:AV} (h:Pure Try.prog 64 (a++c++k) r):Qb Try.prog (.clos 64 a k) c r:=Qv Try.func64 (by kernel_rfl) f64b h
theorem p64_start_0 {E:Env} {res:AV} (hE:Qh Try.prog 64 res E) (ho:AllP [3≤3,0=0,0=0,0=0,0=0,0=0])
 (hr:AvLe (.agg [.rsl [.int .i64 3,.int .i64 0,.rsl [.int .i64 0,.int .i64 1,.int .i64 0,.int .i64 2] 0 2,.int .i64 1,.int .i64 0,.rsl [.int .i64 1,.int .i64 3,.int .i64 1,.int .i64 4] 0 2,.int .i64 1,.int .i64 0,.rsl [.int .i64 1,.int .i64 3,.int .i64 3,.int .i64 4] 0 2,.int .i64 4,.int .i64 0,.rsl [] 0 0,.int .i64 4,.int .i64 (-1),.rsl [] 0 0] 0 5,.rsl [.int .i64 100] 0 1,.int .i64 40]) res):G Try.prog E [.code (Qg Try.prog 64)] ⟨[]++unds (Try.f64.ntmps - 0),[]⟩ :=
 Qc (n:=400) (evs:=[.wt 13,.wt 14]) (obs:=_) hE Try.func64 Qj (by kernel_rfl) ho hr
theorem f64W {E:Env} {rv:Stl} (hE:Qh Try.prog 64 (.agg [.rsl (Qi rv.stages) 0 rv.stages.length,.rsl (rowI rv.worth) 0 rv.worth.length,.int .i64 rv.price]) E)
 (h:rv=(⟨[(⟨3,0,[(⟨0,1⟩:Trn),(⟨0,2⟩:Trn)]⟩:Stg),(⟨1,0,[(⟨1,3⟩:Trn),(⟨1,4⟩:Trn)]⟩:Stg),(⟨1,0,[(⟨1,3⟩:Trn),(⟨3,4⟩:Trn)]⟩:Stg),(⟨4,0,([]:List Trn)⟩:Stg),(⟨4,(-1),([]:List Trn)⟩:Stg)],[100],40⟩:Stl)):G Try.prog E [.code (Qg Try.prog 64)] ⟨[]++unds (Try.f64.ntmps - 0),[]⟩:=by
 exact p64_start_0 hE ⟨(by decide),rfl,rfl,rfl,rfl,rfl,trivial⟩ (AvLe.of_eq (by rw [h]; try rfl))
def Xb (s:Stl) (kd pa oa:Int):Int × Int × Int:=if (XG s).isSome=true then (if XE (Qn s) kd pa oa=true then ((Xy (Qn s) (QV kd) (Qt (Qn s) pa oa)).num,(Xy (Qn s) (QV kd) (Qt (Qn s) pa oa)).den,0) else (0,0,1)) else (0,0,60)
theorem YZ (s:Stl) (kd pa oa:Int) (h:s.stages.length≤9223372036854775807∧s.worth.length≤9223372036854775807):Pure Try.prog 25 [.agg [.rsl (Qi s.stages) 0 s.stages.length,.rsl (rowI s.worth) 0 s.worth.length,.int .i64 s.price],.int .i64 kd,.int .i64 pa,.int .i64 oa] (.tup [.int .i64 (Xb s kd pa oa).1,.int .i64 (Xb s kd pa oa).2.1,.int .i64 (Xb s kd pa oa).2.2]):=QG Try.func25 f25b fun E hE=>by
 refine f25W s kd pa oa (rv:=Xb s kd pa oa) hE ⟨fun h0=>⟨fun h1=>⟨h,(VD h0).1,?_⟩,fun h1=>⟨h,?_⟩⟩,fun h0=>⟨h,?_⟩⟩
 · rw [Xb,if_pos h0,if_pos h1]
 · rw [Xb,if_pos h0,if_neg (by rw [h1]; simp)]
 · rw [Xb,if_neg (by rw [h0]; simp)]
def exS:Stl:=⟨[⟨3,0,[⟨0,1⟩,⟨0,2⟩]⟩,⟨1,0,[⟨1,3⟩,⟨1,4⟩]⟩,⟨1,0,[⟨1,3⟩,⟨3,4⟩]⟩,⟨4,0,[]⟩,⟨4,-1,[]⟩],[100],40⟩
theorem YG:Pure Try.prog 64 [] (.agg [.rsl (Qi exS.stages) 0 exS.stages.length,.rsl (rowI exS.worth) 0 exS.worth.length,.int .i64 exS.price]):=QG Try.func64 f64b fun E hE=>f64W (rv:=exS) hE rfl
theorem f20b:Try.f20.body=some (Qg Try.prog 20):=by kernel_rfl
theorem u20 {a c k:List AV} {r:AV} (h:Pure Try.prog 20 (a++c++k) r):Qb Try.prog (.clos 20 a k) c r:=Qv Try.func20 (by kernel_rfl) f20b h
abbrev qL:AV:=.tup [.agg [.rsl (Qi (((Qa 3 2 1 3).1).stages)) 0 ((((Qa 3 2 1 3).1).stages).length),.rsl (rowI (((Qa 3 2 1 3).1).worth)) 0 ((((Qa 3 2 1 3).1).worth).length),.int .i64 (((Qa 3 2 1 3).1).price)],.int .i64 ((Qa 3 2 1 3).2)]
abbrev WS:List AV:=[.rsl (Qi exS.stages) 0 exS.stages.length,.rsl (rowI exS.worth) 0 exS.worth.length,.int .i64 exS.price]
abbrev qK:AV:=.tup [.int .i64 ((Xb exS 0 2 1).1),.int .i64 ((Xb exS 0 2 1).2.1),.int .i64 ((Xb exS 0 2 1).2.2)]
abbrev z20_4:List AV:=[.int .i64 3,.int .i64 2,.int .i64 1,.int .i64 3]
abbrev z20_5:List AV:=[.agg WS,.int .i64 0,.int .i64 2,.int .i64 1]
theorem p20_start_0 {E:Env} {res:AV} (hE:Qh Try.prog 20 res E) (ho:AllP [Qb Try.prog (.clos 64 [] []) [] (.agg WS),Qb Try.prog (.clos 25 [] []) z20_5 qK,Qb Try.prog (.clos 21 [] []) z20_4 qL,3≤3,((Xb exS 0 2 1).2.2 == 0)=true,((Qa 3 2 1 3).2 == 0)=true,((Xb exS 0 2 1).1 == 1)=true,((Xb exS 0 2 1).2.1 == 4)=true])
 (hr:AvLe (.bool ((((((Qa 3 2 1 3).1).stages).length:Nat):Int) == 8)) res):G Try.prog E [.code (Qg Try.prog 20)] ⟨[]++unds (Try.f20.ntmps - 0),[]⟩ :=
 Qc (n:=400) (evs:=[.v (.agg WS),.v qK,.v qL,.b true,.b true,.b true,.b true]) (obs:=_) hE Try.func20 Qj (by kernel_rfl) ho hr
theorem p20_start_1 {E:Env} {res:AV} (hE:Qh Try.prog 20 res E) (ho:AllP [Qb Try.prog (.clos 64 [] []) [] (.agg WS),Qb Try.prog (.clos 25 [] []) z20_5 qK,Qb Try.prog (.clos 21 [] []) z20_4 qL,3≤3,((Xb exS 0 2 1).2.2 == 0)=true,((Qa 3 2 1 3).2 == 0)=true,((Xb exS 0 2 1).1 == 1)=true,((Xb exS 0 2 1).2.1 == 4)=false])
 (hr:AvLe (.bool false) res):G Try.prog E [.code (Qg Try.prog 20)] ⟨[]++unds (Try.f20.ntmps - 0),[]⟩ :=
 Qc (n:=400) (evs:=[.v (.agg WS),.v qK,.v qL,.b true,.b true,.b true,.b false]) (obs:=_) hE Try.func20 Qj (by kernel_rfl) ho hr
theorem p20_start_2 {E:Env} {res:AV} (hE:Qh Try.prog 20 res E) (ho:AllP [Qb Try.prog (.clos 64 [] []) [] (.agg WS),Qb Try.prog (.clos 25 [] []) z20_5 qK,Qb Try.prog (.clos 21 [] []) z20_4 qL,3≤3,((Xb exS 0 2 1).2.2 == 0)=true,((Qa 3 2 1 3).2 == 0)=true,((Xb exS 0 2 1).1 == 1)=false,false=false])
 (hr:AvLe (.bool false) res):G Try.prog E [.code (Qg Try.prog 20)] ⟨[]++unds (Try.f20.ntmps - 0),[]⟩ :=
 Qc (n:=400) (evs:=[.v (.agg WS),.v qK,.v qL,.b true,.b true,.b false,.b false]) (obs:=_) hE Try.func20 Qj (by kernel_rfl) ho hr
theorem p20_start_3 {E:Env} {res:AV} (hE:Qh Try.prog 20 res E) (ho:AllP [Qb Try.prog (.clos 64 [] []) [] (.agg WS),Qb Try.prog (.clos 25 [] []) z20_5 qK,Qb Try.prog (.clos 21 [] []) z20_4 qL,3≤3,((Xb exS 0 2 1).2.2 == 0)=true,((Qa 3 2 1 3).2 == 0)=false,false=false,false=false])
 (hr:AvLe (.bool false) res):G Try.prog E [.code (Qg Try.prog 20)] ⟨[]++unds (Try.f20.ntmps - 0),[]⟩ :=
 Qc (n:=400) (evs:=[.v (.agg WS),.v qK,.v qL,.b true,.b false,.b false,.b false]) (obs:=_) hE Try.func20 Qj (by kernel_rfl) ho hr
theorem p20_start_4 {E:Env} {res:AV} (hE:Qh Try.prog 20 res E) (ho:AllP [Qb Try.prog (.clos 64 [] []) [] (.agg WS),Qb Try.prog (.clos 25 [] []) z20_5 qK,Qb Try.prog (.clos 21 [] []) z20_4 qL,3≤3,((Xb exS 0 2 1).2.2 == 0)=false,false=false,false=false,false=false])
 (hr:AvLe (.bool false) res):G Try.prog E [.code (Qg Try.prog 20)] ⟨[]++unds (Try.f20.ntmps - 0),[]⟩ :=
 Qc (n:=400) (evs:=[.v (.agg WS),.v qK,.v qL,.b false,.b false,.b false,.b false]) (obs:=_) hE Try.func20 Qj (by kernel_rfl) ho hr
theorem f20W {E:Env} {rv:Bool} (hE:Qh Try.prog 20 (.bool rv) E)
 (h:((exS.stages.length≤9223372036854775807∧exS.worth.length≤9223372036854775807)∧(((Xb exS 0 2 1).2.2=0→(((Qa 3 2 1 3).2=0→(((Xb exS 0 2 1).1=1→(((Xb exS 0 2 1).2.1=4→rv=((((((Qa 3 2 1 3).1).stages).length:Nat):Int) == 8))∧(¬ ((Xb exS 0 2 1).2.1=4)→rv=false)))∧(¬ ((Xb exS 0 2 1).1=1)→rv=false)))∧(¬ ((Qa 3 2 1 3).2=0)→rv=false)))∧(¬ ((Xb exS 0 2 1).2.2=0)→rv=false)))):G Try.prog E [.code (Qg Try.prog 20)] ⟨[]++unds (Try.f20.ntmps - 0),[]⟩:=by
 obtain ⟨h1,h⟩:=h
 rcases bft ((Xb exS 0 2 1).2.2 == 0) with hc0 | hc0
 · have h:=h.1 (eq_of_beq hc0)
   rcases bft ((Qa 3 2 1 3).2 == 0) with hc1 | hc1
   · have h:=h.1 (eq_of_beq hc1)
     rcases bft ((Xb exS 0 2 1).1 == 1) with hc2 | hc2
     · have h:=h.1 (eq_of_beq hc2)
       rcases bft ((Xb exS 0 2 1).2.1 == 4) with hc3 | hc3
       · have h:=h.1 (eq_of_beq hc3)
         exact p20_start_0 hE ⟨(u64 (YG )),(u25 (YZ exS 0 2 1 h1)),(u21 (Qe 3 2 1 3)),(by decide),hc0,hc1,hc2,hc3,trivial⟩ (AvLe.of_eq (by rw [h]; try rfl))
       · have h:=h.2 (ne_of_beq_false hc3)
         exact p20_start_1 hE ⟨(u64 (YG )),(u25 (YZ exS 0 2 1 h1)),(u21 (Qe 3 2 1 3)),(by decide),hc0,hc1,hc2,hc3,trivial⟩ (AvLe.of_eq (by rw [h]; try rfl))
     · have h:=h.2 (ne_of_beq_false hc2)
       exact p20_start_2 hE ⟨(u64 (YG )),(u25 (YZ exS 0 2 1 h1)),(u21 (Qe 3 2 1 3)),(by decide),hc0,hc1,hc2,rfl,trivial⟩ (AvLe.of_eq (by rw [h]; try rfl))
   · have h:=h.2 (ne_of_beq_false hc1)
     exact p20_start_3 hE ⟨(u64 (YG )),(u25 (YZ exS 0 2 1 h1)),(u21 (Qe 3 2 1 3)),(by decide),hc0,hc1,rfl,rfl,trivial⟩ (AvLe.of_eq (by rw [h]; try rfl))
 · have h:=h.2 (ne_of_beq_false hc0)
   exact p20_start_4 hE ⟨(u64 (YG )),(u25 (YZ exS 0 2 1 h1)),(u21 (Qe 3 2 1 3)),(by decide),hc0,rfl,rfl,rfl,trivial⟩ (AvLe.of_eq (by rw [h]; try rfl))
theorem odds_ex:Xb exS 0 2 1=(1,4,0):=by decide +kernel
theorem throws_ex:(Qa 3 2 1 3).2=0∧(Qa 3 2 1 3).1.stages.length=8:=by decide +kernel
theorem Qx:Pure Try.prog 20 [] (.bool true):=QG Try.func20 f20b fun E hE=>by
 have h1:=odds_ex
 have h2:=throws_ex
 refine f20W (rv:=true) hE ⟨⟨by decide,by decide⟩,fun _=>⟨fun _=>⟨fun _=>⟨fun _=>?_,fun h=>?_⟩,fun h=>?_⟩,fun h=>?_⟩,fun h=>?_⟩
 · rw [h2.2]; rfl
 · rw [h1] at h; exact absurd rfl h
 · rw [h1] at h; exact absurd rfl h
 · exact absurd h2.1 h
 · rw [h1] at h; exact absurd rfl h
end Go.Proofs.Ytfgmlaeikcfpbaa
namespace Go.Proofs.Ytfgmlaeikcfpbaa
open Go Ax
open Go.Proofs
theorem ownT:ownKnob Try.prog.godebug=none:=by kernel_rfl
theorem laidT:laidOutB Try.prog=true:=by kernel_rfl
end Go.Proofs.Ytfgmlaeikcfpbaa
namespace Go.Proofs.Ytfgmlaeikcfpbaa
open Go Ax
open Go.Proofs
/-! ### What the values are,in the end -/
structure VFix (m:Mch) (w:Int→Int) (ch:Int→List Int→Int) (i:Nat) (p:List Int × List Int):Prop where
 fx:∀ (j:Nat) (x:Stg),i≤j→m.s.stages[j]?=some x →
  (x.kind=4→p.1.getD j 0=(if x.prize≥0 then w x.prize else 0)∧p.2.getD j 0=0) ∧
  (x.kind=1→p.1.getD j 0=sumW x.turns (Xr m j p.1 x.turns)∧p.2.getD j 0=0) ∧
  (x.kind ≠ 4→x.kind ≠ 1→p.1.getD j 0=(Xr m j p.1 x.turns).getD (Int.toNat (p.2.getD j 0)) 0∧p.2.getD j 0=ch j (Xr m j p.1 x.turns))
theorem next_set {m:Mch} {i j:Nat} {a:Int} {V:List Int} {ts:List Trn} (h:∀ t ∈ ts,i<Int.toNat t.to):Xr m j (V.set i a) ts=Xr m j V ts:=by
 unfold Xr
 apply List.map_congr_left
 intro t ht
 rw [getD_set_ne (by have:=h t ht; omega)]
theorem vfix_step {m:Mch} (hm:MOk m) {w:Int→Int} {ch:Int→List Int→Int} {i:Nat} {p:List Int × List Int} (hlt:i<m.s.stages.length) (hp:VOk m (i+1) p) (hf:VFix m w ch (i+1) p):VFix m w ch i (YJ m w ch i p):=by
 have hform:=(Xf hm.st).2.2.2.2
 have hi:m.s.stages[i]?=some m.s.stages[i]:=List.getElem?_eq_getElem hlt
 have hx:m.s.stages.getD i ⟨0,0,[]⟩=m.s.stages[i]:=by simp [List.getD,hi]
 have hto:=Yt hi (hform i hlt)
 have up:∀ (a:Int) (p':List Int × List Int),p'.1=p.1.set i a→(∀ j,i<j→p'.2.getD j 0=p.2.getD j 0) →
  ((m.s.stages[i].kind=4→a=(if m.s.stages[i].prize≥0 then w m.s.stages[i].prize else 0)∧p'.2.getD i 0=0) ∧
   (m.s.stages[i].kind=1→a=sumW m.s.stages[i].turns (Xr m i p.1 m.s.stages[i].turns)∧p'.2.getD i 0=0) ∧
   (m.s.stages[i].kind ≠ 4→m.s.stages[i].kind ≠ 1→a=(Xr m i p.1 m.s.stages[i].turns).getD (Int.toNat (p'.2.getD i 0)) 0∧p'.2.getD i 0=ch i (Xr m i p.1 m.s.stages[i].turns)))→VFix m w ch i p':=by
  intro a p' e1 e2 e3
  refine ⟨fun j x hj hjx=>?_⟩
  by_cases e:i=j
  · subst e
    rw [hi] at hjx; cases hjx
    rw [e1,next_set (fun t ht=>(hto t ht).1),XX (by rw [hp.l1]; exact hlt)]
    exact e3
  · have h1:=hf.fx j x (by omega) hjx
    have hto2:=Yt hjx (hform j (List.getElem?_eq_some_iff.1 hjx).1)
    rw [e1,next_set (fun t ht=>by have:=(hto2 t ht).1; omega),getD_set_ne e,e2 j (by omega)]
    exact h1
 unfold YJ
 rw [hx]
 generalize hxx:m.s.stages[i]=x at *
 split
 · rename_i h4
   split
   · rename_i hpr
     refine up (w x.prize) _ rfl (fun j hj=>rfl) ⟨fun _=>⟨by rw [if_pos hpr],hp.c0 i (by omega)⟩,fun h=>by omega,fun h=>absurd h4 h⟩
   · rename_i hpr
     refine up 0 _ ?_ (fun j hj=>rfl) ⟨fun _=>⟨by rw [if_neg hpr],hp.c0 i (by omega)⟩,fun h=>by omega,fun h=>absurd h4 h⟩
     rw [set_same]
     have:=getD_some (l:=p.1) (i:=i) (by rw [hp.l1]; exact hlt)
     rw [hp.lo i (by omega)] at this; exact this
 · rename_i h4
   split
   · rename_i h1
     refine up _ _ rfl (fun j hj=>rfl) ⟨fun h=>absurd h h4,fun _=>⟨by rw [hp.lo i (by omega),Int.zero_add],hp.c0 i (by omega)⟩,fun _ h=>absurd h1 h⟩
   · rename_i h1
     refine up _ _ rfl (fun j hj=>by show (p.2.set i _).getD j 0=_; rw [getD_set_ne (by omega)]) ⟨fun h=>absurd h h4,fun h=>absurd h h1,fun _ _=>?_⟩
     show _=(Xr m i p.1 x.turns).getD (Int.toNat ((p.2.set i _).getD i 0)) 0∧(p.2.set i _).getD i 0=_
     rw [XX (by rw [hp.l2]; exact hlt)]
     exact ⟨rfl,rfl⟩
theorem vfix_all {m:Mch} (hm:MOk m) {w:Int→Int} {ch:Int→List Int→Int} (hw:WOk m w ch):∀ {n:Nat} {p:List Int × List Int},n≤m.s.stages.length→VOk m n p→VFix m w ch n p→VFix m w ch 0 (valN m w ch n p)
 | 0,p,_,_,h=>h
 | i+1,p,hn,hp,h=>(vfix_all hm hw (n:=i) (by omega) (yP hm hw (by omega) hp) (vfix_step hm (by omega) hp h):VFix m w ch 0 (valN m w ch i (YJ m w ch i p)))
theorem vfixA {m:Mch} (hm:MOk m) {w:Int→Int} {ch:Int→List Int→Int} (hw:WOk m w ch):VFix m w ch 0 (valA m w ch) :=
 vfix_all hm hw (Nat.le_refl _) (val_ok0 hm) ⟨fun j x hj hx=>by have:=(List.getElem?_eq_some_iff.1 hx).1; omega⟩
/-! ### Who chooses -/
/-! ### The reference's greatest common divisor is the program's -/
theorem gcdF_int:∀ {n:Nat} {a b:Int},0≤a→0≤b→b<n→gcdF n a b=(Int.gcd a b:Int)
 | 0,a,b,_,hb,h=>by omega
 | n+1,a,b,ha,hb,h=>by
  simp only [gcdF]
  split
  · rename_i h0
    have t0:=Int.tmod_nonneg b ha
    have t1:=Int.tmod_lt_of_pos a h0
    rw [gcdF_int hb t0 (by omega),Int.tmod_eq_emod_of_nonneg ha,Int.gcd_comm a b]
    congr 1
    rw [Int.gcd_comm b (a % b),Int.gcd_comm b a]
    simp only [Int.gcd,Int.natAbs_emod_of_nonneg ha]
    rw [Nat.gcd_comm a.natAbs,Nat.gcd_rec b.natAbs a.natAbs]
  · have:b=0:=by omega
    subst this
    simp [Int.gcd]; omega
theorem Ki {a b:Int} (ha:0≤a) (hb:0≤b):gcdI a b=(Int.gcd a b:Int):=gcdF_int ha hb (by omega)
theorem gcdI_comm {a b:Int} (ha:0≤a) (hb:0≤b):gcdI a b=gcdI b a:=by rw [Ki ha hb,Ki hb ha,Int.gcd_comm]
/-! ### What an end is worth -/
theorem Xp {s:Stl} (h:Qo s=0):(XG s).isSome=true:=by
 unfold Qo at h
 split at h
 · assumption
 · omega
theorem measR_of {s:Stl} (h:(XG s).isSome=true):Xc (QY s)=((Qn s).meas,true):=by
 obtain ⟨m,hm⟩:=Option.isSome_iff_exists.1 h
 have:Qn s=m:=by simp [Qn,hm]
 rw [this]
 unfold XG at hm
 split at hm
 · obtain ⟨r,hr,e⟩:=Option.map_eq_some_iff.1 hm
   rw [hr,← e]; rfl
 · cases hm
def aims2 (a b:Int):Bool:=Qf a 1 2 && Qf b 1 2
theorem aims_iff {a b:Int}:qS [a,b]=true ↔ (a=1 ∨ a=2)∧(b=1 ∨ b=2):=by
 simp only [qS,List.any_cons,List.any_nil,Bool.or_false,Bool.not_eq_true',Bool.or_eq_false_iff,Bool.not_eq_false',XZ,Bool.or_eq_true,decide_eq_true_eq]
theorem aims2_iff {a b:Int}:aims2 a b=true ↔ (a=1 ∨ a=2)∧(b=1 ∨ b=2):=by
 simp only [aims2,Bool.and_eq_true,QH]; omega
theorem aims_eq {a b:Int}:aims2 a b=qS [a,b]:=by rw [Bool.eq_iff_iff,aims2_iff,aims_iff]
end Go.Proofs.Ytfgmlaeikcfpbaa
namespace Go.Proofs.Ytfgmlaeikcfpbaa
open Go Ax
open Go.Proofs
abbrev avStl (s:Stl):AV:=.agg [.rsl (Qi s.stages) 0 s.stages.length,.rsl (rowI s.worth) 0 s.worth.length,.int .i64 s.price]
def Xa (s:Stl) (kd pa oa:Int):Int:=if Qo s=0 then (if XE (Qn s) kd pa oa=true then 0 else 1) else 60
theorem rightO_eq {s:Stl} {kd pa oa:Int} (h:Qo s=0):XE (Qn s) kd pa oa=(Qf kd 0 ((s.worth.length:Int) - 1) && aims2 pa oa):=by
 rw [XE,VF,(VD (Xp h)).2,aims_eq]
theorem checkO_of {s:Stl} {kd pa oa:Int} (h:Xa s kd pa oa=0):Qo s=0∧XE (Qn s) kd pa oa=true∧(0≤kd∧kd≤(s.worth.length:Int) - 1)∧(pa=1 ∨ pa=2)∧(oa=1 ∨ oa=2):=by
 unfold Xa at h
 split at h
 · rename_i h0
   split at h
   · rename_i h1
     refine ⟨h0,h1,?_⟩
     rw [rightO_eq h0,Bool.and_eq_true] at h1
     exact ⟨QH.1 h1.1,aims2_iff.1 h1.2⟩
   · omega
 · omega
def choiceK (s:Stl) (kd pa oa:Int):List Int × Int:=if (XG s).isSome=true then (if XE (Qn s) kd pa oa=true then ((valA (Qn s) (QV kd) (Qt (Qn s) pa oa)).2,0) else ([],1)) else ([],60)
theorem isSome_iff {s:Stl}:(XG s).isSome=true ↔ Qo s=0:=by
 unfold Qo; split <;> simp_all
theorem odds_yes {s:Stl} {kd pa oa:Int} (h:Xa s kd pa oa=0):Xb s kd pa oa=((Xy (Qn s) (QV kd) (Qt (Qn s) pa oa)).num,(Xy (Qn s) (QV kd) (Qt (Qn s) pa oa)).den,0)∧choiceK s kd pa oa=((valA (Qn s) (QV kd) (Qt (Qn s) pa oa)).2,0):=by
 obtain ⟨h0,h1,-⟩:=checkO_of h
 unfold Xb choiceK
 simp only [isSome_iff,if_pos h0,if_pos h1]
 exact ⟨trivial,trivial⟩
def planE (s:Stl) (plan:List Int):Int:=if Qo s=0 then (if planOk s plan=true then 0 else 1) else 60
/-! ### The end values of a machine,turn by turn -/
theorem fin_turn {m:Mch} (hm:MOk m) {w:Int→Int} {ch:Int→List Int→Int} (hw:WOk m w ch) {i:Nat} {x:Stg} (hi:m.s.stages[i]?=some x) {k:Nat} {t:Trn} (hk:x.turns[k]?=some t) :
 ∃ q u v,m.mult[i]?=some q∧m.meas[Int.toNat t.to]?=some u∧(valA m w ch).1[Int.toNat t.to]?=some v∧(Xr m i (valA m w ch).1 x.turns)[k]?=some (v*Int.tdiv q u)∧0≤t.to∧i<Int.toNat t.to∧Int.toNat t.to<m.s.stages.length ∧
  (0<q∧q≤1000000000000)∧(0<u∧u≤1000000000000)∧Int.tdiv q u*u=q∧0≤Int.tdiv q u∧Int.tdiv q u≤q∧(0≤v∧v≤10000*u)∧0≤v*Int.tdiv q u∧v*Int.tdiv q u≤10000*q:=by
 have hform:=(Xf hm.st).2.2.2.2
 have hp:=yQ hm hw
 have ht:=List.mem_of_getElem? hk
 have hto:=Yt hi (hform i (List.getElem?_eq_some_iff.1 hi).1) t ht
 obtain ⟨q,q1,q2,q3,q4⟩:=hm.inv.rel i x (by omega) hi
 have hg:m.meas[Int.toNat t.to]?=some (m.meas[Int.toNat t.to]'(by rw [hm.inv.l1]; exact hto.2.1)):=List.getElem?_eq_getElem _
 have hd:=q4 t ht
 have hb:=hm.inv.pos _ _ (by omega) hg
 have hv:=hp.hi _ _ (by omega) hg
 have hN:(Xr m i (valA m w ch).1 x.turns)[k]?=some ((valA m w ch).1.getD (Int.toNat t.to) 0*Int.tdiv (m.mult.getD i 0) (m.meas.getD (Int.toNat t.to) 0)):=by rw [Xr,List.getElem?_map,hk]; rfl
 rw [XR q1,XR hg] at hN
 rw [XR hg] at hd
 generalize m.meas[Int.toNat t.to]'(by rw [hm.inv.l1]; exact hto.2.1)=u at hg hd hb hv hN
 have hgv:=getD_some (l:=(valA m w ch).1) (i:=Int.toNat t.to) (by rw [hp.l1]; exact hto.2.1)
 generalize (valA m w ch).1.getD (Int.toNat t.to) 0=v at hv hN hgv
 have e1:Int.tdiv q u=q / u:=Int.tdiv_eq_ediv_of_nonneg (by omega)
 have e2:=Int.ediv_le_self u (show (0:Int)≤q by omega)
 have e3:=Int.ediv_nonneg (show (0:Int)≤q by omega) (show 0≤u by omega)
 have e4:Int.tdiv q u*u=q:=by rw [e1]; exact Int.ediv_mul_cancel hd
 refine ⟨q,u,v,q1,hg,hgv,hN,hto.2.2,hto.1,hto.2.1,q3,hb,e4,by omega,by omega,hv,Int.mul_nonneg hv.1 (by omega),?_⟩
 have h1:=Int.mul_le_mul_of_nonneg_right hv.2 (show 0≤Int.tdiv q u by omega)
 have h2:10000*u*Int.tdiv q u=10000*q:=by rw [Int.mul_assoc,Int.mul_comm u,e4]
 omega
structure Aims where
 kind:Int
 player:Int
 operator:Int
end Go.Proofs.Ytfgmlaeikcfpbaa
namespace Go.Proofs.Ytfgmlaeikcfpbaa
open Go Ax
open Go.Proofs
structure Rul where
 tickets:Int
 wins:Int
 n:Int
 need:Int
 hit:Int
 miss:Int
def cRul (a:Rul):List AV:=[.int .i64 a.tickets,.int .i64 a.wins,.int .i64 a.n,.int .i64 a.need,.int .i64 a.hit,.int .i64 a.miss]
structure Sup where
 kind:Int
 stock:Int
 plays:Int
structure Hnd where
 plan:List Int
 draws:List Int
/-! ### Fractions -/
theorem Vi {v u:Int} (hu:0<u):∃ g,0<g∧v=g*(XC v u).num∧u=g*(XC v u).den∧0<(XC v u).den:=by
 have hM:0≤iMax v (0 - v):=by unfold iMax; split <;> omega
 have hM2:iMax v (0 - v)=v ∨ iMax v (0 - v)=-v:=by unfold iMax; split <;> omega
 have hg1:1≤iMax (gcdI (iMax v (0 - v)) u) 1:=WM
 have hgp:0<gcdI (iMax v (0 - v)) u:=by rw [gcdI_comm hM (by omega)]; exact We hu hM
 have hge:iMax (gcdI (iMax v (0 - v)) u) 1=gcdI (iMax v (0 - v)) u:=by
  generalize gcdI (iMax v (0 - v)) u=c at hgp
  unfold iMax; split <;> omega
 obtain ⟨d1,d2⟩:=gcd_dvd hM (show 0≤u by omega)
 have d3:gcdI (iMax v (0 - v)) u∣v:=by
  generalize gcdI (iMax v (0 - v)) u=c at d1
  rcases hM2 with h | h
  · rw [h] at d1; exact d1
  · rw [h] at d1; exact Int.dvd_neg.1 d1
 unfold XC
 rw [hge]
 generalize gcdI (iMax v (0 - v)) u=c at hgp d2 d3
 have e2:c*Int.tdiv u c=u:=Int.mul_tdiv_cancel' d2
 have e3:c*Int.tdiv v c=v:=Int.mul_tdiv_cancel' d3
 refine ⟨c,hgp,e3.symm,e2.symm,?_⟩
 show 0<Int.tdiv u c
 rcases Int.lt_or_le 0 (Int.tdiv u c) with h | h
 · exact h
 · have:=Int.mul_le_mul_of_nonneg_left h (show 0≤c by omega)
   rw [e2] at this; omega
theorem frac_bd {v u B:Int} (hv:-B≤v∧v≤B) (hu:0<u):(-B≤(XC v u).num∧(XC v u).num≤B)∧0<(XC v u).den∧(XC v u).den≤u:=by
 obtain ⟨g,hg,-,-,e3⟩:=Vi (v:=v) hu
 exact ⟨VT WM hv.1 hv.2,e3,(VT (n:=u) (B:=u) WM (by omega) (by omega)).2⟩
theorem frac_nonneg {v u:Int} (hv:0≤v) (hu:0<u):0≤(XC v u).num:=by
 obtain ⟨g,hg,e1,-,-⟩:=Vi (v:=v) hu
 rcases Int.lt_or_le (XC v u).num 0 with h | h
 · have:=Int.mul_neg_of_pos_of_neg hg h; omega
 · exact h
/-! ### Planned -/
def gainV (s:Stl) (pa oa:Int):Int:=(valA (Qn s) (WT (Qn s)) (Qt (Qn s) pa oa)).1.getD 0 0
def XO (s:Stl):Int:=(Qn s).meas.getD 0 0
theorem dRul (W:World):Dec Try.prog W 31 Rul cRul (fun a=>True):=by
 refine Dec.map (dec_struct Try.underlying31 rfl (tot:=6) (by kernel_rfl) (Yl (n:=1) (tot:=6) (by kernel_rfl) rfl (Wk Try.underlying3) (Yl (n:=1) (tot:=6) (by kernel_rfl) rfl (Wk Try.underlying3) (Yl (n:=1) (tot:=6) (by kernel_rfl) rfl (Wk Try.underlying3) (Yl (n:=1) (tot:=6) (by kernel_rfl) rfl (Wk Try.underlying3) (Yl (n:=1) (tot:=6) (by kernel_rfl) rfl (Wk Try.underlying3) (Yl (n:=1) (tot:=6) (by kernel_rfl) rfl (Wk Try.underlying3) decFs_nil (by decide)) (by decide)) (by decide)) (by decide)) (by decide)) (by decide))) (fun x=>(⟨x.1,x.2.1,x.2.2.1,x.2.2.2.1,x.2.2.2.2.1,x.2.2.2.2.2.1⟩:Rul)) ?_ ?_
 · exact fun _=>rfl
 · exact fun _ _=>trivial
theorem gainV_bd {s:Stl} {pa oa:Int} (h:Qo s=0):(0≤gainV s pa oa∧gainV s pa oa≤10000*XO s)∧0<XO s∧XO s≤1000000000000:=by
 have hm:=(VD (Xp h)).1
 obtain ⟨u,hu,h1,h2⟩:=meas0 hm
 have:=(yQ hm (w:=WT (Qn s)) (ch:=Qt (Qn s) pa oa) (wok_worth hm)).hi 0 u (by omega) hu
 unfold gainV XO
 rw [XR hu]
 exact ⟨this,h1,h2⟩
end Go.Proofs.Ytfgmlaeikcfpbaa
namespace Go.Proofs.Ytfgmlaeikcfpbaa
open Go Ax
open Go.Proofs
structure Fr2 where
 lo:Fr
 hi:Fr
theorem worth_len {s:Stl} (h:Qo s=0):s.worth.length≤8:=by
 obtain ⟨hm,es⟩:=VD (Xp h)
 have:=(Xf hm.st).2.1
 rw [es] at this; exact this
end Go.Proofs.Ytfgmlaeikcfpbaa
namespace Ax
open Go
section
variable {P:Program} {E:Env} {K:List Item} {st:St}
end
end Ax
namespace Go.Proofs.Ytfgmlaeikcfpbaa
open Go Ax
open Go.Proofs
/-! ### What a stage is worth at most -/
theorem val_le {m:Mch} (hm:MOk m) {w:Int→Int} {ch:Int→List Int→Int} (hw:WOk m w ch) {B:Int} (hB0:0≤B) (hB:∀ n:Int,0≤n→n≤(m.s.worth.length:Int) - 1→w n≤B) :
 ∀ (d j:Nat) (u:Int),m.s.stages.length≤j+d→m.meas[j]?=some u→(valA m w ch).1.getD j 0≤B*u:=by
 intro d
 have hfx:=(vfixA hm hw).fx
 have hform:=(Xf hm.st).2.2.2.2
 induction d with
 | zero =>
  intro j u hd hu
  have:=(List.getElem?_eq_some_iff.1 hu).1
  rw [hm.inv.l1] at this; omega
 | succ d ih =>
  intro j u hd hu
  have hlt:=(List.getElem?_eq_some_iff.1 hu).1
  rw [hm.inv.l1] at hlt
  have hi:m.s.stages[j]?=some m.s.stages[j]:=List.getElem?_eq_getElem hlt
  have hfo:=Vd hi (hform j hlt)
  have htt:=WY hi (hform j hlt)
  have hf:=hfx j _ (by omega) hi
  have hft:=fun (k:Nat) (t:Trn) hk=>fin_turn hm hw hi (k:=k) (t:=t) hk
  have hup:=hm.inv.pos j u (by omega) hu
  obtain ⟨q,q1,q2,q3,q4⟩:=hm.inv.rel j _ (by omega) hi
  have hl2:(Xr m j (valA m w ch).1 m.s.stages[j].turns).length=m.s.stages[j].turns.length:=by simp [Xr]
  generalize m.s.stages[j]=x at hi hfo htt hf hft q2 q4 hl2
  have hall:∀ e ∈ Xr m j (valA m w ch).1 x.turns,0≤e∧e≤B*q:=by
   intro e he
   obtain ⟨k,hk⟩:=List.getElem?_of_mem he
   have hkl:=(List.getElem?_eq_some_iff.1 hk).1
   have hkt:x.turns[k]?=some (x.turns[k]'(by omega)):=List.getElem?_eq_getElem (by omega)
   obtain ⟨q',u',v,t1,t2,t3,t4,t5,t6,t7,t8,t9,t10,t11,t12,t13,t14,t15⟩:=hft k _ hkt
   rw [q1] at t1; cases t1
   rw [hk] at t4; cases t4
   refine ⟨t14,?_⟩
   have h1:=ih _ u' (by omega) t2
   rw [XR t3] at h1
   have h2:=Int.mul_le_mul_of_nonneg_right h1 t11
   rw [Int.mul_assoc,Int.mul_comm u',t10] at h2
   exact h2
  by_cases h4:x.kind=4
  · rw [(hf.1 h4).1]
    have hBu:B≤B*u:=by
     have:=Int.mul_le_mul_of_nonneg_left (show (1:Int)≤u by omega) hB0
     omega
    split
    · rename_i hp
      have:=hB x.prize hp (by rcases hfo with ⟨-,-,h⟩ | ⟨h,-⟩ <;> omega)
      omega
    · omega
  · by_cases h1:x.kind=1
    · rw [(hf.2.1 h1).1]
      rw [hu,if_pos h1] at q2; cases q2
      have:=(yT hall (fun t ht=>(htt.1.2 t ht).1) (by rw [hl2])).2
      rw [Int.mul_assoc] at this
      exact this
    · obtain ⟨f1,f2⟩:=hf.2.2 h4 h1
      rw [hu,if_neg h1] at q2; cases q2
      rw [f1]
      have hlen:0<(Xr m j (valA m w ch).1 x.turns).length:=by
       rcases hfo with ⟨h,-⟩ | ⟨-,-,h,-⟩
       · exact absurd h h4
       · omega
      have hc:=hw.c1 j x _ hi h4 h1 hl2 hlen
      rw [← f2] at hc
      exact (hall _ (List.mem_of_getElem? (getD_some hc.2))).2
/-- The odds of a kind are at most 1. -/
theorem odds_one {m:Mch} (hm:MOk m) {kd:Int} {ch:Int→List Int→Int} (hw:WOk m (QV kd) ch) {u:Int} (hu:m.meas[0]?=some u):0≤(valA m (QV kd) ch).1.getD 0 0∧(valA m (QV kd) ch).1.getD 0 0≤u:=by
 have h1:=val_le hm hw (B:=1) (by omega) (fun n _ _=>by unfold QV; split <;> omega) m.s.stages.length 0 u (by omega) hu
 have h2:=(yQ hm hw).hi 0 u (by omega) hu
 omega
theorem first_one {m:Mch} (hm:MOk m) {kd:Int} {ch:Int→List Int→Int} (hw:WOk m (QV kd) ch):0≤(Xy m (QV kd) ch).num∧(Xy m (QV kd) ch).num≤(Xy m (QV kd) ch).den∧0<(Xy m (QV kd) ch).den∧(Xy m (QV kd) ch).den≤1000000000000:=by
 obtain ⟨u,hu,hu1,hu2⟩:=meas0 hm
 have h:=odds_one hm hw hu
 have hb:=frac_bd (v:=(valA m (QV kd) ch).1.getD 0 0) (u:=u) (B:=u) (by omega) hu1
 have hn:=frac_nonneg h.1 hu1
 obtain ⟨g,hg,e1,e2,e3⟩:=Vi (v:=(valA m (QV kd) ch).1.getD 0 0) hu1
 unfold Xy
 rw [XR hu]
 refine ⟨hn,?_,hb.2.1,by omega⟩
 rcases Int.lt_or_le (XC ((valA m (QV kd) ch).1.getD 0 0) u).den (XC ((valA m (QV kd) ch).1.getD 0 0) u).num with hh | hh
 · have:=Int.mul_lt_mul_of_pos_left hh hg
   omega
 · exact hh
/-! ### Ways -/
def wGo (a b:Int):Int→List Int→List Int
 | c,[]=>[c]
 | c,x :: xs=>(c+x*b) :: wGo a b (x*a) xs
def waysN (a b:Int):Nat→List Int
 | 0=>[1]
 | n+1=>wGo a b 0 (waysN a b n)
def powN (d:Int):Nat→Int
 | 0=>1
 | n+1=>powN d n*d
/-! ### Enough -/
def enF (s:Stl) (plan:List Int) (kd:Int):Fr:=Xy (Qn s) (QV kd) (fun i _=>planI plan i)
def enN (f:Fr) (st:Int) (n:Nat):Int:=((waysN f.num (f.den - f.num) n).take (Int.toNat (st+1))).sum
def enoughF (f:Fr) (st:Int) (n:Nat):Int × Int × Int:=if powN f.den n≤1000000000000 then ((XC (enN f st n) (powN f.den n)).num,(XC (enN f st n) (powN f.den n)).den,0) else (0,0,2)
def enoughK (s:Stl) (plan:List Int) (kd st ps:Int):Int × Int × Int :=
 if planE s plan=0 then (if (Qf kd 0 ((s.worth.length:Int) - 1) && (Qf st 0 1000 && Qf ps 0 1000))=true then enoughF (enF s plan kd) st (Int.toNat ps) else (0,0,1)) else (0,0,planE s plan)
/-- What lies in the new list after 'k' rounds. -/
structure WInv (a b:Int) (w:List Int) (k:Nat) (v:List Int):Prop where
 len:v.length=w.length+1
 eq:∃ c,v[k]?=some c∧0≤c∧wGo a b 0 w=v.take k++wGo a b c (w.drop k)
 z:∀ j,k<j→j<v.length→v[j]?=some 0
end Go.Proofs.Ytfgmlaeikcfpbaa
namespace Go.Proofs.Ytfgmlaeikcfpbaa
open Go Ax
open Go.Proofs
/-! ### Fractions in parts of the measure -/
def FrV (s:Stl) (a:Fr):Int:=a.num*Int.tdiv (XO s) a.den
structure FrOk (s:Stl) (a:Fr):Prop where
 pos:0<a.den
 dvd:a.den∣XO s
 bd:-100000000000000000≤FrV s a∧FrV s a≤100000000000000000
theorem fr_of {s:Stl} (hc:Qo s=0) {v:Int} (hv:-100000000000000000≤v∧v≤100000000000000000):FrOk s (XC v (XO s))∧FrV s (XC v (XO s))=v:=by
 have hu:=(gainV_bd (pa:=1) (oa:=1) hc).2
 obtain ⟨g,hg,e1,e2,e3⟩:=Vi (v:=v) hu.1
 have e4:Int.tdiv (XO s) (XC v (XO s)).den=g:=by
  have:Int.tdiv (g*(XC v (XO s)).den) (XC v (XO s)).den=g:=Int.mul_tdiv_cancel _ (by omega)
  rwa [← e2] at this
 have e5:FrV s (XC v (XO s))=v:=by rw [FrV,e4,Int.mul_comm,← e1]
 exact ⟨⟨e3,⟨g,by rw [Int.mul_comm]; exact e2⟩,by rw [e5]; exact hv⟩,e5⟩
def oddF (s:Stl) (kd pa oa:Int):Fr:=Xy (Qn s) (QV kd) (Qt (Qn s) pa oa)
theorem WO {s:Stl} (hc:Qo s=0) {w:Int→Int} {ch:Int→List Int→Int} (hw:WOk (Qn s) w ch):FrOk s (Xy (Qn s) w ch)∧FrV s (Xy (Qn s) w ch)=(valA (Qn s) w ch).1.getD 0 0:=by
 obtain ⟨v,hv,hb⟩:=val0 (VD (Xp hc)).1 hw
 have:=fr_of hc (v:=v) (by omega)
 rw [Xy,XR hv]
 exact this
theorem f23b:Try.f23.body=some (Qg Try.prog 23):=by kernel_rfl
theorem u23 {a c k:List AV} {r:AV} (h:Pure Try.prog 23 (a++c++k) r):Qb Try.prog (.clos 23 a k) c r:=Qv Try.func23 (by kernel_rfl) f23b h
abbrev qJ (s:Stl):AV:=.tup [.rsl (rowI ((Xc (QY s)).1)) 0 (((Xc (QY s)).1).length),.bool ((Xc (QY s)).2)]
abbrev z23_2 (s:Stl):List AV:=[.rsl (Qi s.stages) 0 s.stages.length,.rsl (rowI s.worth) 0 s.worth.length,.int .i64 s.price]
abbrev z23_3 (s:Stl) (a:Fr) (b:Fr):List AV:=[.agg (z23_2 s),.agg [.int .i64 a.num,.int .i64 a.den],.agg [.int .i64 b.num,.int .i64 b.den]]
theorem p23_start_0 (s:Stl) (a:Fr) (b:Fr) {E:Env} {res:AV} (hE:Qh Try.prog 23 res E) (ho:AllP [Qb Try.prog (.clos 51 [] []) [.agg (z23_2 s)] (qJ s),(!(Xc (QY s)).2)=true,true=true,true=true,true=true])
 (hr:AvLe (.bool false) res):G Try.prog E [.code (Qg Try.prog 23)] ⟨(z23_3 s a b)++unds (Try.f23.ntmps - 3),[]⟩ :=
 Qc (n:=400) (evs:=[.v (qJ s),.b true,.b true,.b true,.b true]) (obs:=_) hE Try.func23 Qj (by kernel_rfl) ho hr
theorem p23_start_1 (s:Stl) (a:Fr) (b:Fr) {E:Env} {res:AV} (hE:Qh Try.prog 23 res E) (ho:AllP [Qb Try.prog (.clos 51 [] []) [.agg (z23_2 s)] (qJ s),(!(Xc (QY s)).2)=false,(((((Xc (QY s)).1).length:Nat):Int) == 0)=true,true=true,true=true])
 (hr:AvLe (.bool false) res):G Try.prog E [.code (Qg Try.prog 23)] ⟨(z23_3 s a b)++unds (Try.f23.ntmps - 3),[]⟩ :=
 Qc (n:=400) (evs:=[.v (qJ s),.b false,.b true,.b true,.b true]) (obs:=_) hE Try.func23 Qj (by kernel_rfl) ho hr
theorem p23_start_2 (s:Stl) (a:Fr) (b:Fr) {E:Env} {res:AV} (hE:Qh Try.prog 23 res E) (ho:AllP [Qb Try.prog (.clos 51 [] []) [.agg (z23_2 s)] (qJ s),(!(Xc (QY s)).2)=false,(((((Xc (QY s)).1).length:Nat):Int) == 0)=false,(0:Int)≤1∧(1:Int)<((2:Nat):Int),(decide (a.den<1))=true,true=true])
 (hr:AvLe (.bool false) res):G Try.prog E [.code (Qg Try.prog 23)] ⟨(z23_3 s a b)++unds (Try.f23.ntmps - 3),[]⟩ :=
 Qc (n:=400) (evs:=[.v (qJ s),.b false,.b false,.b true,.b true]) (obs:=_) hE Try.func23 Qj (by kernel_rfl) ho hr
theorem p23_start_3 (s:Stl) (a:Fr) (b:Fr) {E:Env} {res:AV} (hE:Qh Try.prog 23 res E) (ho:AllP [Qb Try.prog (.clos 51 [] []) [.agg (z23_2 s)] (qJ s),(!(Xc (QY s)).2)=false,(((((Xc (QY s)).1).length:Nat):Int) == 0)=false,(0:Int)≤1∧(1:Int)<((2:Nat):Int),(decide (a.den<1))=false,(0:Int)≤1∧(1:Int)<((2:Nat):Int),(decide (b.den<1))=true])
 (hr:AvLe (.bool false) res):G Try.prog E [.code (Qg Try.prog 23)] ⟨(z23_3 s a b)++unds (Try.f23.ntmps - 3),[]⟩ :=
 Qc (n:=400) (evs:=[.v (qJ s),.b false,.b false,.b false,.b true]) (obs:=_) hE Try.func23 Qj (by kernel_rfl) ho hr
theorem p23_start_4 (s:Stl) (a:Fr) (b:Fr) (e:Int) {E:Env} {res:AV} (hE:Qh Try.prog 23 res E) (ho:AllP [Qb Try.prog (.clos 51 [] []) [.agg (z23_2 s)] (qJ s),(!(Xc (QY s)).2)=false,(((((Xc (QY s)).1).length:Nat):Int) == 0)=false,(0:Int)≤1∧(1:Int)<((2:Nat):Int),(decide (a.den<1))=false,(0:Int)≤1∧(1:Int)<((2:Nat):Int),(decide (b.den<1))=false,(0:Int)≤0∧(0:Int)<((2:Nat):Int),(0:Int)≤0∧(0:Int)<((((Xc (QY s)).1).length:Nat):Int),((rowI ((Xc (QY s)).1)).drop (0+0*1)).take 1=[.int .i64 e],(0:Int)≤1∧(1:Int)<((2:Nat):Int),InR .i64 (Int.tdiv e a.den),a.den ≠ 0,InR .i64 (a.num*(Int.tdiv e a.den)),(0:Int)≤0∧(0:Int)<((2:Nat):Int),(0:Int)≤0∧(0:Int)<((((Xc (QY s)).1).length:Nat):Int),((rowI ((Xc (QY s)).1)).drop (0+0*1)).take 1=[.int .i64 e],(0:Int)≤1∧(1:Int)<((2:Nat):Int),InR .i64 (Int.tdiv e b.den),b.den ≠ 0,InR .i64 (b.num*(Int.tdiv e b.den))])
 (hr:AvLe (.bool (decide ((a.num*(Int.tdiv e a.den))<(b.num*(Int.tdiv e b.den))))) res):G Try.prog E [.code (Qg Try.prog 23)] ⟨(z23_3 s a b)++unds (Try.f23.ntmps - 3),[]⟩ :=
 Qc (n:=400) (evs:=[.v (qJ s),.b false,.b false,.b false,.b false,.auto,.ld (.int .i64 e),.auto,.auto,.ld (.int .i64 e)]) (obs:=_) hE Try.func23 Qj (by kernel_rfl) ho hr
theorem f23W (s:Stl) (a:Fr) (b:Fr) {E:Env} {rv:Bool} (hE:Qh Try.prog 23 (.bool rv) E)
 (h:((s.stages.length≤1000000∧∀ i,i<s.stages.length→Xi s i=true)∧(((!(Xc (QY s)).2)=true→rv=false)∧((!(Xc (QY s)).2)=false→((((((Xc (QY s)).1).length:Nat):Int)=0→rv=false)∧(¬ (((((Xc (QY s)).1).length:Nat):Int)=0)→((a.den<1→rv=false)∧(¬ (a.den<1)→((b.den<1→rv=false)∧(¬ (b.den<1)→(∃ e:Int,((Xc (QY s)).1)[0]?=some e∧((I6 (Int.tdiv e a.den))∧(a.den ≠ 0∧((I6 (a.num*(Int.tdiv e a.den)))∧((I6 (Int.tdiv e b.den))∧(b.den ≠ 0∧((I6 (b.num*(Int.tdiv e b.den)))∧rv=(decide ((a.num*(Int.tdiv e a.den))<(b.num*(Int.tdiv e b.den))))))))))))))))))))):G Try.prog E [.code (Qg Try.prog 23)] ⟨[.agg [.rsl (Qi s.stages) 0 s.stages.length,.rsl (rowI s.worth) 0 s.worth.length,.int .i64 s.price],.agg [.int .i64 a.num,.int .i64 a.den],.agg [.int .i64 b.num,.int .i64 b.den]]++unds (Try.f23.ntmps - 3),[]⟩:=by
 obtain ⟨h1,h⟩:=h
 rcases bft (!(Xc (QY s)).2) with hc0 | hc0
 · have h:=h.1 hc0
   exact p23_start_0 s a b hE ⟨(u51 (Xo s h1)),hc0,rfl,rfl,rfl,trivial⟩ (AvLe.of_eq (by rw [h]; try rfl))
 · have h:=h.2 hc0
   rcases bft (((((Xc (QY s)).1).length:Nat):Int) == 0) with hc1 | hc1
   · have h:=h.1 (eq_of_beq hc1)
     exact p23_start_1 s a b hE ⟨(u51 (Xo s h1)),hc0,hc1,rfl,rfl,trivial⟩ (AvLe.of_eq (by rw [h]; try rfl))
   · have h:=h.2 (ne_of_beq_false hc1)
     rcases bft (decide (a.den<1)) with hc2 | hc2
     · have h:=h.1 (odt hc2)
       exact p23_start_2 s a b hE ⟨(u51 (Xo s h1)),hc0,hc1,(⟨by decide,by decide⟩),hc2,rfl,trivial⟩ (AvLe.of_eq (by rw [h]; try rfl))
     · have h:=h.2 (odf hc2)
       rcases bft (decide (b.den<1)) with hc3 | hc3
       · have h:=h.1 (odt hc3)
         exact p23_start_3 s a b hE ⟨(u51 (Xo s h1)),hc0,hc1,(⟨by decide,by decide⟩),hc2,(⟨by decide,by decide⟩),hc3,trivial⟩ (AvLe.of_eq (by rw [h]; try rfl))
       · have h:=h.2 (odf hc3)
         obtain ⟨e,h2,h⟩:=h
         obtain ⟨q12_4,h⟩:=h
         obtain ⟨q13_4,h⟩:=h
         obtain ⟨q14_4,h⟩:=h
         obtain ⟨q19_4,h⟩:=h
         obtain ⟨q20_4,h⟩:=h
         obtain ⟨q21_4,h⟩:=h
         exact p23_start_4 s a b e hE ⟨(u51 (Xo s h1)),hc0,hc1,(⟨by decide,by decide⟩),hc2,(⟨by decide,by decide⟩),hc3,(⟨by decide,by decide⟩),(Xd h2),(rp cI 1 0 1 h2),(⟨by decide,by decide⟩),q12_4,q13_4,q14_4,(⟨by decide,by decide⟩),(Xd h2),(rp cI 1 0 1 h2),(⟨by decide,by decide⟩),q19_4,q20_4,q21_4,trivial⟩ (AvLe.of_eq (by rw [h]; try rfl))
theorem f32b:Try.f32.body=some (Qg Try.prog 32):=by kernel_rfl
theorem u32 {a c k:List AV} {r:AV} (h:Pure Try.prog 32 (a++c++k) r):Qb Try.prog (.clos 32 a k) c r:=Qv Try.func32 (by kernel_rfl) f32b h
abbrev z32_1 (s:Stl):AV:=.tup [.rsl (rowI ((Xc (QY s)).1)) 0 (((Xc (QY s)).1).length),.bool ((Xc (QY s)).2)]
abbrev z32_2 (s:Stl):List AV:=[.rsl (Qi s.stages) 0 s.stages.length,.rsl (rowI s.worth) 0 s.worth.length,.int .i64 s.price]
abbrev z32_3 (s:Stl) (a:Fr):List AV:=[.agg (z32_2 s),.agg [.int .i64 a.num,.int .i64 a.den]]
theorem p32_start_0 (s:Stl) (a:Fr) (e:Int) {E:Env} {res:AV} (hE:Qh Try.prog 32 res E) (ho:AllP [Qb Try.prog (.clos 51 [] []) [.agg (z32_2 s)] (z32_1 s),((Xc (QY s)).2)=true,(decide (((((Xc (QY s)).1).length:Nat):Int) > 0))=true,(0:Int)≤1∧(1:Int)<((2:Nat):Int),(decide (a.den > 0))=true,(0:Int)≤0∧(0:Int)<((((Xc (QY s)).1).length:Nat):Int),((rowI ((Xc (QY s)).1)).drop (0+0*1)).take 1=[.int .i64 e],(0:Int)≤1∧(1:Int)<((2:Nat):Int),a.den ≠ 0])
 (hr:AvLe (.bool ((Int.tmod e a.den) == 0)) res):G Try.prog E [.code (Qg Try.prog 32)] ⟨(z32_3 s a)++unds (Try.f32.ntmps - 2),[]⟩ :=
 Qc (n:=400) (evs:=[.v (z32_1 s),.b true,.b true,.b true,.ld (.int .i64 e)]) (obs:=_) hE Try.func32 Qj (by kernel_rfl) ho hr
theorem p32_start_1 (s:Stl) (a:Fr) {E:Env} {res:AV} (hE:Qh Try.prog 32 res E) (ho:AllP [Qb Try.prog (.clos 51 [] []) [.agg (z32_2 s)] (z32_1 s),((Xc (QY s)).2)=true,(decide (((((Xc (QY s)).1).length:Nat):Int) > 0))=true,(0:Int)≤1∧(1:Int)<((2:Nat):Int),(decide (a.den > 0))=false])
 (hr:AvLe (.bool false) res):G Try.prog E [.code (Qg Try.prog 32)] ⟨(z32_3 s a)++unds (Try.f32.ntmps - 2),[]⟩ :=
 Qc (n:=400) (evs:=[.v (z32_1 s),.b true,.b true,.b false]) (obs:=_) hE Try.func32 Qj (by kernel_rfl) ho hr
theorem p32_start_2 (s:Stl) (a:Fr) {E:Env} {res:AV} (hE:Qh Try.prog 32 res E) (ho:AllP [Qb Try.prog (.clos 51 [] []) [.agg (z32_2 s)] (z32_1 s),((Xc (QY s)).2)=true,(decide (((((Xc (QY s)).1).length:Nat):Int) > 0))=false,false=false])
 (hr:AvLe (.bool false) res):G Try.prog E [.code (Qg Try.prog 32)] ⟨(z32_3 s a)++unds (Try.f32.ntmps - 2),[]⟩ :=
 Qc (n:=400) (evs:=[.v (z32_1 s),.b true,.b false,.b false]) (obs:=_) hE Try.func32 Qj (by kernel_rfl) ho hr
theorem p32_start_3 (s:Stl) (a:Fr) {E:Env} {res:AV} (hE:Qh Try.prog 32 res E) (ho:AllP [Qb Try.prog (.clos 51 [] []) [.agg (z32_2 s)] (z32_1 s),((Xc (QY s)).2)=false,false=false,false=false])
 (hr:AvLe (.bool false) res):G Try.prog E [.code (Qg Try.prog 32)] ⟨(z32_3 s a)++unds (Try.f32.ntmps - 2),[]⟩ :=
 Qc (n:=400) (evs:=[.v (z32_1 s),.b false,.b false,.b false]) (obs:=_) hE Try.func32 Qj (by kernel_rfl) ho hr
theorem f32W (s:Stl) (a:Fr) {E:Env} {rv:Bool} (hE:Qh Try.prog 32 (.bool rv) E)
 (h:((s.stages.length≤1000000∧∀ i,i<s.stages.length→Xi s i=true)∧((((Xc (QY s)).2)=true→((((((Xc (QY s)).1).length:Nat):Int) > 0→((a.den > 0→(∃ e:Int,((Xc (QY s)).1)[0]?=some e∧(a.den ≠ 0∧rv=((Int.tmod e a.den) == 0))))∧(¬ (a.den > 0)→rv=false)))∧(¬ (((((Xc (QY s)).1).length:Nat):Int) > 0)→rv=false)))∧(((Xc (QY s)).2)=false→rv=false)))):G Try.prog E [.code (Qg Try.prog 32)] ⟨[.agg [.rsl (Qi s.stages) 0 s.stages.length,.rsl (rowI s.worth) 0 s.worth.length,.int .i64 s.price],.agg [.int .i64 a.num,.int .i64 a.den]]++unds (Try.f32.ntmps - 2),[]⟩:=by
 obtain ⟨h1,h⟩:=h
 rcases bft ((Xc (QY s)).2) with hc0 | hc0
 · have h:=h.1 hc0
   rcases bft (decide (((((Xc (QY s)).1).length:Nat):Int) > 0)) with hc1 | hc1
   · have h:=h.1 (odt hc1)
     rcases bft (decide (a.den > 0)) with hc2 | hc2
     · have h:=h.1 (odt hc2)
       obtain ⟨e,h2,h⟩:=h
       obtain ⟨q9_3,h⟩:=h
       exact p32_start_0 s a e hE ⟨(u51 (Xo s h1)),hc0,hc1,(⟨by decide,by decide⟩),hc2,(Xd h2),(rp cI 1 0 1 h2),(⟨by decide,by decide⟩),q9_3,trivial⟩ (AvLe.of_eq (by rw [h]; try rfl))
     · have h:=h.2 (odf hc2)
       exact p32_start_1 s a hE ⟨(u51 (Xo s h1)),hc0,hc1,(⟨by decide,by decide⟩),hc2,trivial⟩ (AvLe.of_eq (by rw [h]; try rfl))
   · have h:=h.2 (odf hc1)
     exact p32_start_2 s a hE ⟨(u51 (Xo s h1)),hc0,hc1,rfl,trivial⟩ (AvLe.of_eq (by rw [h]; try rfl))
 · have h:=h.2 hc0
   exact p32_start_3 s a hE ⟨(u51 (Xo s h1)),hc0,rfl,rfl,trivial⟩ (AvLe.of_eq (by rw [h]; try rfl))
theorem QW (s:Stl) (a b:Fr) (h:Qo s=0∧FrOk s a∧FrOk s b∧FrV s b≤FrV s a):Pure Try.prog 23 [avStl s,.agg [.int .i64 a.num,.int .i64 a.den],.agg [.int .i64 b.num,.int .i64 b.den]] (.bool false):=QG Try.func23 f23b fun E hE=>by
 obtain ⟨hc,ha,hb,hle⟩:=h
 obtain ⟨hm,es⟩:=VD (Xp hc)
 have hform:=(Xf hm.st).2.2.2.2
 have hn:=(Xf hm.st).1
 rw [es] at hform hn
 have hme:=measR_of (Xp hc)
 obtain ⟨u,hu,hu1,hu2⟩:=meas0 hm
 have eu:XO s=u:=XR hu
 have p1:=ha.pos
 have p2:=hb.pos
 have b1:=ha.bd
 have b2:=hb.bd
 unfold FrV at b1 b2 hle
 rw [eu] at b1 b2 hle
 have t1:=VT (n:=u) (g:=a.den) (B:=1000000000000) (by omega) (by omega) (by omega)
 have t2:=VT (n:=u) (g:=b.den) (B:=1000000000000) (by omega) (by omega) (by omega)
 have hl:¬ (((Xc (QY s)).1.length:Int)=0):=by
  rw [hme]
  have:=(List.getElem?_eq_some_iff.1 hu).1
  show ¬ (((Qn s).meas.length:Int)=0)
  omega
 refine f23W s a b (rv:=false) hE ⟨⟨by omega,hform⟩,fun h=>?_,fun h=>⟨fun h=>absurd h hl,fun _=>⟨fun h=>by omega,fun _=>⟨fun h=>by omega,fun _=>⟨u,by rw [hme]; exact hu,by omega,by omega,by omega,by omega,by omega,by omega,?_⟩⟩⟩⟩⟩
 · rfl
 · exact (decide_eq_false (by omega)).symm
theorem yE (s:Stl) (a:Fr) (h:Qo s=0∧FrOk s a):Pure Try.prog 32 [avStl s,.agg [.int .i64 a.num,.int .i64 a.den]] (.bool true):=QG Try.func32 f32b fun E hE=>by
 obtain ⟨hc,ha⟩:=h
 obtain ⟨hm,es⟩:=VD (Xp hc)
 have hform:=(Xf hm.st).2.2.2.2
 have hn:=(Xf hm.st).1
 rw [es] at hform hn
 have hme:=measR_of (Xp hc)
 obtain ⟨u,hu,hu1,hu2⟩:=meas0 hm
 have eu:XO s=u:=XR hu
 have p1:=ha.pos
 have hd:=ha.dvd
 rw [eu] at hd
 have hl:((Xc (QY s)).1.length:Int) > 0:=by
  rw [hme]
  have:=(List.getElem?_eq_some_iff.1 hu).1
  show ((Qn s).meas.length:Int) > 0
  omega
 refine f32W s a (rv:=true) hE ⟨⟨by omega,hform⟩,fun _=>⟨fun _=>⟨fun _=>⟨u,by rw [hme]; exact hu,by omega,?_⟩,fun h=>absurd p1 h⟩,fun h=>absurd hl h⟩,fun h=>by rw [hme] at h; cases h⟩
 rw [Int.tmod_eq_zero_of_dvd hd]; rfl
theorem f22b:Try.f22.body=some (Qg Try.prog 22):=by kernel_rfl
theorem u22 {a c k:List AV} {r:AV} (h:Pure Try.prog 22 (a++c++k) r):Qb Try.prog (.clos 22 a k) c r:=Qv Try.func22 (by kernel_rfl) f22b h
abbrev z22_1 (s:Stl):List AV:=[.rsl (Qi s.stages) 0 s.stages.length,.rsl (rowI s.worth) 0 s.worth.length,.int .i64 s.price]
abbrev z22_2 (s:Stl) (kd:Int) (pa:Int) (oa:Int):AV:=.tup [.int .i64 ((Xb s kd pa oa).1),.int .i64 ((Xb s kd pa oa).2.1),.int .i64 ((Xb s kd pa oa).2.2)]
abbrev z22_3 (s:Stl) (kd:Int) (pa:Int) (oa:Int):List AV:=[.agg (z22_1 s),.int .i64 kd,.int .i64 pa,.int .i64 oa]
abbrev z22_4 (s:Stl) (kd:Int) (pa:Int) (oa:Int):List AV:=[.int .i64 ((Xb s kd pa oa).1),.int .i64 ((Xb s kd pa oa).2.1)]
theorem p22_start_0 (s:Stl) (kd:Int) (pa:Int) (oa:Int) {E:Env} {res:AV} (hE:Qh Try.prog 22 res E) (ho:AllP [Qb Try.prog (.clos 19 [] []) [.agg (z22_1 s)] (.int .i64 (Qo s)),((Qo s) != 0)=true,2≤2])
 (hr:AvLe (.tup [.agg [.int .i64 0,.int .i64 0],.bool false]) res):G Try.prog E [.code (Qg Try.prog 22)] ⟨(z22_3 s kd pa oa)++unds (Try.f22.ntmps - 4),[]⟩ :=
 Qc (n:=400) (evs:=[.v (.int .i64 (Qo s)),.b true]) (obs:=_) hE Try.func22 Qj (by kernel_rfl) ho hr
theorem p22_start_1 (s:Stl) (kd:Int) (pa:Int) (oa:Int) {E:Env} {res:AV} (hE:Qh Try.prog 22 res E) (ho:AllP [Qb Try.prog (.clos 19 [] []) [.agg (z22_1 s)] (.int .i64 (Qo s)),((Qo s) != 0)=false,Qb Try.prog (.clos 25 [] []) (z22_3 s kd pa oa) (z22_2 s kd pa oa),((Xb s kd pa oa).2.2 == 0)=true,Qb Try.prog (.clos 32 [] []) [.agg (z22_1 s),.agg (z22_4 s kd pa oa)] (.bool true),true=true,(decide ((Xb s kd pa oa).1≥0))=true,2≤2])
 (hr:AvLe (.tup [.agg (z22_4 s kd pa oa),.bool (decide ((Xb s kd pa oa).1≤(Xb s kd pa oa).2.1))]) res):G Try.prog E [.code (Qg Try.prog 22)] ⟨(z22_3 s kd pa oa)++unds (Try.f22.ntmps - 4),[]⟩ :=
 Qc (n:=400) (evs:=[.v (.int .i64 (Qo s)),.b false,.v (z22_2 s kd pa oa),.b true,.v (.bool true),.b true,.b true]) (obs:=_) hE Try.func22 Qj (by kernel_rfl) ho hr
theorem p22_start_2 (s:Stl) (kd:Int) (pa:Int) (oa:Int) {E:Env} {res:AV} (hE:Qh Try.prog 22 res E) (ho:AllP [Qb Try.prog (.clos 19 [] []) [.agg (z22_1 s)] (.int .i64 (Qo s)),((Qo s) != 0)=false,Qb Try.prog (.clos 25 [] []) (z22_3 s kd pa oa) (z22_2 s kd pa oa),((Xb s kd pa oa).2.2 == 0)=true,Qb Try.prog (.clos 32 [] []) [.agg (z22_1 s),.agg (z22_4 s kd pa oa)] (.bool true),true=true,(decide ((Xb s kd pa oa).1≥0))=false,2≤2])
 (hr:AvLe (.tup [.agg (z22_4 s kd pa oa),.bool false]) res):G Try.prog E [.code (Qg Try.prog 22)] ⟨(z22_3 s kd pa oa)++unds (Try.f22.ntmps - 4),[]⟩ :=
 Qc (n:=400) (evs:=[.v (.int .i64 (Qo s)),.b false,.v (z22_2 s kd pa oa),.b true,.v (.bool true),.b true,.b false]) (obs:=_) hE Try.func22 Qj (by kernel_rfl) ho hr
theorem p22_start_3 (s:Stl) (kd:Int) (pa:Int) (oa:Int) {E:Env} {res:AV} (hE:Qh Try.prog 22 res E) (ho:AllP [Qb Try.prog (.clos 19 [] []) [.agg (z22_1 s)] (.int .i64 (Qo s)),((Qo s) != 0)=false,Qb Try.prog (.clos 25 [] []) (z22_3 s kd pa oa) (z22_2 s kd pa oa),((Xb s kd pa oa).2.2 == 0)=false,false=false,false=false,2≤2])
 (hr:AvLe (.tup [.agg (z22_4 s kd pa oa),.bool false]) res):G Try.prog E [.code (Qg Try.prog 22)] ⟨(z22_3 s kd pa oa)++unds (Try.f22.ntmps - 4),[]⟩ :=
 Qc (n:=400) (evs:=[.v (.int .i64 (Qo s)),.b false,.v (z22_2 s kd pa oa),.b false,.b false,.b false]) (obs:=_) hE Try.func22 Qj (by kernel_rfl) ho hr
theorem f22W (s:Stl) (kd:Int) (pa:Int) (oa:Int) {E:Env} {rv:(Fr × Bool)} (hE:Qh Try.prog 22 (.tup [.agg [.int .i64 rv.1.num,.int .i64 rv.1.den],.bool rv.2]) E)
 (h:((s.stages.length≤9223372036854775807∧s.worth.length≤9223372036854775807)∧((¬ ((Qo s)=0)→rv=((⟨0,0⟩:Fr),false))∧((Qo s)=0→((s.stages.length≤9223372036854775807∧s.worth.length≤9223372036854775807)∧(((Xb s kd pa oa).2.2=0→((Qo s=0∧FrOk s (⟨(Xb s kd pa oa).1,(Xb s kd pa oa).2.1⟩:Fr))∧(((Xb s kd pa oa).1≥0→rv=((⟨(Xb s kd pa oa).1,(Xb s kd pa oa).2.1⟩:Fr),(decide ((Xb s kd pa oa).1≤(Xb s kd pa oa).2.1))))∧(¬ ((Xb s kd pa oa).1≥0)→rv=((⟨(Xb s kd pa oa).1,(Xb s kd pa oa).2.1⟩:Fr),false)))))∧(¬ ((Xb s kd pa oa).2.2=0)→rv=((⟨(Xb s kd pa oa).1,(Xb s kd pa oa).2.1⟩:Fr),false)))))))):G Try.prog E [.code (Qg Try.prog 22)] ⟨[.agg [.rsl (Qi s.stages) 0 s.stages.length,.rsl (rowI s.worth) 0 s.worth.length,.int .i64 s.price],.int .i64 kd,.int .i64 pa,.int .i64 oa]++unds (Try.f22.ntmps - 4),[]⟩:=by
 obtain ⟨h1,h⟩:=h
 rcases bft ((Qo s) != 0) with hc0 | hc0
 · have h:=h.1 (bneT hc0)
   exact p22_start_0 s kd pa oa hE ⟨(u19 (Qw s h1)),hc0,(by decide),trivial⟩ (AvLe.of_eq (by rw [h]; try rfl))
 · have h:=h.2 (bneF hc0)
   obtain ⟨h2,h⟩:=h
   rcases bft ((Xb s kd pa oa).2.2 == 0) with hc1 | hc1
   · have h:=h.1 (eq_of_beq hc1)
     obtain ⟨h3,h⟩:=h
     rcases bft (decide ((Xb s kd pa oa).1≥0)) with hc2 | hc2
     · have h:=h.1 (odt hc2)
       exact p22_start_1 s kd pa oa hE ⟨(u19 (Qw s h1)),hc0,(u25 (YZ s kd pa oa h2)),hc1,(u32 (yE s (⟨(Xb s kd pa oa).1,(Xb s kd pa oa).2.1⟩:Fr) h3)),rfl,hc2,(by decide),trivial⟩ (AvLe.of_eq (by rw [h]; try rfl))
     · have h:=h.2 (odf hc2)
       exact p22_start_2 s kd pa oa hE ⟨(u19 (Qw s h1)),hc0,(u25 (YZ s kd pa oa h2)),hc1,(u32 (yE s (⟨(Xb s kd pa oa).1,(Xb s kd pa oa).2.1⟩:Fr) h3)),rfl,hc2,(by decide),trivial⟩ (AvLe.of_eq (by rw [h]; try rfl))
   · have h:=h.2 (ne_of_beq_false hc1)
     exact p22_start_3 s kd pa oa hE ⟨(u19 (Qw s h1)),hc0,(u25 (YZ s kd pa oa h2)),hc1,rfl,rfl,(by decide),trivial⟩ (AvLe.of_eq (by rw [h]; try rfl))
theorem Qd (s:Stl) (kd pa oa:Int) (h:Xa s kd pa oa=0):Pure Try.prog 22 [avStl s,.int .i64 kd,.int .i64 pa,.int .i64 oa] (.tup [.agg [.int .i64 (oddF s kd pa oa).num,.int .i64 (oddF s kd pa oa).den],.bool true]):=QG Try.func22 f22b fun E hE=>by
 obtain ⟨hc,h1,h2,h3,h4⟩:=checkO_of h
 obtain ⟨hm,es⟩:=VD (Xp hc)
 have hn:=(Xf hm.st).1
 rw [es] at hn
 have hw:=worth_len hc
 have ho:=(odds_yes h).1
 have h1':=first_one hm (kd:=kd) (ch:=Qt (Qn s) pa oa) Yj
 have hf:=(WO hc (w:=QV kd) (ch:=Qt (Qn s) pa oa) Yj).1
 refine f22W s kd pa oa (rv:=(oddF s kd pa oa,true)) hE ⟨⟨by omega,by omega⟩,fun h=>absurd hc h,fun _=>⟨⟨by omega,by omega⟩,?_⟩⟩
 rw [ho]
 exact ⟨fun _=>⟨⟨hc,hf⟩,fun _=>by rw [decide_eq_true h1'.2.1]; rfl,fun h=>absurd h1'.1 h⟩,fun h=>absurd rfl h⟩
end Go.Proofs.Ytfgmlaeikcfpbaa
namespace Go.Proofs.Ytfgmlaeikcfpbaa
open Go Ax
open Go.Proofs
structure WideOk (a b m n q:Int):Prop where
 q0:0<q
 qb:q∣b
 qn:q∣n
 a0:0≤a∧a≤b
 m0:0≤m∧m≤n
 b0:b≤1000000000000
 n0:n≤1000000000000
 le:a*n≤m*b
structure EnOk (s:Stl) (plan:List Int) (kd st ps D N:Int):Prop where
 d0:0<D∧D≤1000000000000
 n0:0≤N∧N≤D
 k:enoughK s plan kd st ps=((XC N D).num,(XC N D).den,0)
/-! ### All kinds together -/
end Go.Proofs.Ytfgmlaeikcfpbaa
namespace Go.Proofs.Ytfgmlaeikcfpbaa
open Go Ax
open Go.Proofs
/-! ### The stages of throws and bags -/
theorem Vy {op:Int→Int→Bool} {wg:Int→Int→Int × Int} {n:Nat} {need:Int}:(Qr op wg n need).stages.length=(Ql op n).length+2:=by simp [Qr,WW]
theorem YK {op:Int→Int→Bool} {wg:Int→Int→Int × Int} {n:Nat} {need:Int} {j:Nat} {e:Num} (h:(Ql op n)[j]?=some e):(Qr op wg n need).stages[j]?=some (QZ (Ql op n) wg n need e):=by
 have hl:=(List.getElem?_eq_some_iff.1 h).1
 simp only [Qr,WW]
 rw [List.getElem?_append_left (by simpa using hl),List.getElem?_map,h]; rfl
theorem tries_e1 {op:Int→Int→Bool} {wg:Int→Int→Int × Int} {n:Nat} {need:Int}:(Qr op wg n need).stages[(Ql op n).length]?=some ⟨4,-1,[]⟩:=by
 simp only [Qr,WW]
 rw [List.getElem?_append_right (by simp)]; simp
theorem tries_e2 {op:Int→Int→Bool} {wg:Int→Int→Int × Int} {n:Nat} {need:Int}:(Qr op wg n need).stages[(Ql op n).length+1]?=some ⟨4,0,[]⟩:=by
 simp only [Qr,WW]
 rw [List.getElem?_append_right (by simp)]; simp
theorem WF {s:Stl} {j:Nat} {x d:Stg} (h:s.stages[j]?=some x):s.stages.getD j d=x:=by simp [List.getD,h]
/-! ### Their measures -/
theorem measN_hi {s:Stl}:∀ {n:Nat} {me mu:List Int} {r:List Int × List Int},YT s n me mu=some r→∀ j,n≤j→r.1.getD j 0=me.getD j 0
 | 0,me,mu,r,h,j,_=>by simp only [YT,Option.some.injEq] at h; rw [← h]
 | n+1,me,mu,r,h,j,hj=>by
  simp only [YT] at h
  split at h
  · rw [measN_hi h j (by omega)]
    unfold QR
    split
    · rfl
    · split
      · exact getD_set_ne (by omega)
      · exact getD_set_ne (by omega)
  · cases h
theorem measK_hi {x:Stg} {i j:Nat} {me mu:List Int} (h:i<j):(QR x i me mu).2.1.getD j 0=me.getD j 0:=by
 unfold QR
 split
 · rfl
 · split
   · exact getD_set_ne (by omega)
   · exact getD_set_ne (by omega)
theorem to_end {l:List Num} {n need need' a b:Int} {me:List Int} (h1:me.getD l.length 0=1) (h2:me.getD (l.length+1) 0=1) :
 me.getD (Int.toNat (toI l n need l.length a b)) 0=me.getD (Int.toNat (toI l n need' l.length a b)) 0:=by
 unfold toI
 split
 · rfl
 · have e1:Int.toNat (l.length:Int)=l.length:=by omega
   have e2:Int.toNat ((l.length:Int)+1)=l.length+1:=by omega
   split <;> split <;> simp only [e1,e2,h1,h2]
theorem stage_meas {l:List Num} {wg:Int→Int→Int × Int} {n need need':Int} {e:Num} {i:Nat} {me mu:List Int} (h1:me.getD l.length 0=1) (h2:me.getD (l.length+1) 0=1) :
 QR (QZ l wg n need e) i me mu=QR (QZ l wg n need' e) i me mu:=by
 have hm:∀ m,YA me m (QZ l wg n need e).turns=YA me m (QZ l wg n need' e).turns:=fun m=>by
  simp only [QZ]
  split <;> split <;> simp only [List.append_nil,List.nil_append,List.cons_append,YA,to_end (need:=need) (need':=need') h1 h2]
 have ht:totI (QZ l wg n need e)=totI (QZ l wg n need' e):=by
  simp only [totI,QZ]
  split <;> split <;> simp
 unfold QR
 rw [hm,ht]
 simp only [QZ]
theorem yo {op:Int→Int→Bool} {wg:Int→Int→Int × Int} {n:Nat} {need need':Int}:∀ {k:Nat} {me mu:List Int},k≤(Ql op n).length→me.getD (Ql op n).length 0=1→me.getD ((Ql op n).length+1) 0=1 →
 YT (Qr op wg n need) k me mu=YT (Qr op wg n need') k me mu
 | 0,me,mu,_,_,_=>rfl
 | k+1,me,mu,hk,h1,h2=>by
  have he:(Ql op n)[k]?=some (Ql op n)[k]:=List.getElem?_eq_getElem (by omega)
  generalize (Ql op n)[k]=e at he
  simp only [YT]
  rw [WF (YK (need:=need) he),WF (YK (need:=need') he),stage_meas (need:=need) (need':=need') h1 h2]
  split
  · exact yo (by omega) (by rw [measK_hi (by omega)]; exact h1) (by rw [measK_hi (by omega)]; exact h2)
  · rfl
def endMe (L:Nat):List Int:=((XQ (L+2)).set (L+1) 1).set L 1
theorem WP {L:Nat}:(endMe L).getD L 0=1∧(endMe L).getD (L+1) 0=1:=by
 constructor
 · rw [endMe,XX (by simp [XQ])]
 · rw [endMe,getD_set_ne (by omega),XX (by simp [XQ])]
theorem Vs {op:Int→Int→Bool} {wg:Int→Int→Int × Int} {n:Nat} {need:Int}:QY (Qr op wg n need)=YT (Qr op wg n need) (Ql op n).length (endMe (Ql op n).length) (endMe (Ql op n).length):=by
 have k1:∀ (z:Int) (i:Nat) (me mu:List Int),QR ⟨4,z,[]⟩ i me mu=(true,me.set i 1,mu.set i 1):=fun z i me mu=>rfl
 rw [QY,Vy]
 simp only [YT]
 rw [WF tries_e2,k1,if_pos rfl,WF tries_e1,k1,if_pos rfl]
 rfl
theorem qm {s:Stl} (hc:Qo s=0):QY s=some ((Qn s).meas,(Qn s).mult):=by
 have h:=Xp hc
 have hg:XG s=some (Qn s):=by
  rw [Qn]
  cases hm:XG s with
  | none=>rw [hm] at h; cases h
  | some m=>rfl
 unfold XG at hg
 split at hg
 · obtain ⟨r,hr,e⟩:=Option.map_eq_some_iff.1 hg
   rw [hr,← e]
 · cases hg
theorem yb {op:Int→Int→Bool} {wg:Int→Int→Int × Int} {n:Nat} {need need':Int} (hc:Qo (Qr op wg n need)=0) (hc':Qo (Qr op wg n need')=0) :
 (Qn (Qr op wg n need)).meas=(Qn (Qr op wg n need')).meas∧(Qn (Qr op wg n need)).mult=(Qn (Qr op wg n need')).mult:=by
 have h1:=qm hc
 have h2:=qm hc'
 rw [Vs,yo (need:=need) (need':=need') (Nat.le_refl _) WP.1 WP.2,← Vs,h2] at h1
 simp only [Option.some.injEq,Prod.mk.injEq] at h1
 exact ⟨h1.1.symm,h1.2.symm⟩
theorem Vg {op:Int→Int→Bool} {wg:Int→Int→Int × Int} {n:Nat} {need:Int} (hc:Qo (Qr op wg n need)=0) :
 (Qn (Qr op wg n need)).meas.getD (Ql op n).length 0=1∧(Qn (Qr op wg n need)).meas.getD ((Ql op n).length+1) 0=1:=by
 have h1:=qm hc
 rw [Vs] at h1
 have:=measN_hi h1
 exact ⟨(this _ (Nat.le_refl _)).trans WP.1,(this _ (by omega)).trans WP.2⟩
/-! ### Their values -/
section Vals
variable {op:Int→Int→Bool} {wg:Int→Int→Int × Int} {n:Nat} {need:Int} {pa oa:Int}
def vals (s:Stl) (pa oa:Int):List Int:=(valA (Qn s) (QV 0) (Qt (Qn s) pa oa)).1
theorem Vw {s:Stl} (hc:Qo s=0) {j:Nat} {x:Stg} (hx:s.stages[j]?=some x):(x.kind=4→(vals s pa oa).getD j 0=(if x.prize≥0 then QV 0 x.prize else 0))∧(x.kind=1→(vals s pa oa).getD j 0=sumW x.turns (Xr (Qn s) j (vals s pa oa) x.turns)):=by
 obtain ⟨hm,hs⟩:=VD (Xp hc)
 have:=(vfixA hm (Yj (kd:=0) (pa:=pa) (oa:=oa))).fx j x (by omega) (by rw [hs]; exact hx)
 exact ⟨fun h=>(this.1 h).1,fun h=>(this.2.1 h).1⟩
theorem VS (hc:Qo (Qr op wg n need)=0):(vals (Qr op wg n need) pa oa).getD (Ql op n).length 0=0:=(Vw hc tries_e1).1 rfl
theorem Vq (hc:Qo (Qr op wg n need)=0):(vals (Qr op wg n need) pa oa).getD ((Ql op n).length+1) 0=1:=(Vw hc tries_e2).1 rfl
theorem WG (hc:Qo (Qr op wg n need)=0) {j:Nat} {e:Num} (he:(Ql op n)[j]?=some e):∀ t ∈ (QZ (Ql op n) wg n need e).turns,j<Int.toNat t.to∧Int.toNat t.to<(Ql op n).length+2:=fun t ht=>by
 obtain ⟨hm,hs⟩:=VD (Xp hc)
 have hst:=Xf hm.st
 rw [hs] at hst
 have hx:=YK (wg:=wg) (need:=need) he
 have:=Yt hx (hst.2.2.2.2 j (List.getElem?_eq_some_iff.1 hx).1) t ht
 rw [Vy] at this
 exact ⟨this.1,this.2.1⟩
def tvI (s:Stl) (V:List Int) (j:Nat) (to:Int):Int:=V.getD (Int.toNat to) 0*Int.tdiv ((Qn s).mult.getD j 0) ((Qn s).meas.getD (Int.toNat to) 0)
theorem sum_stage {s:Stl} {V:List Int} {l:List Num} {j:Nat} {e:Num}:sumW (QZ l wg n need e).turns (Xr (Qn s) j V (QZ l wg n need e).turns) =
 (if (wg e.t e.h).1 > 0 then (wg e.t e.h).1*tvI s V j (toI l n need l.length (e.t+1) (e.h+1)) else 0)+(if (wg e.t e.h).2 > 0 then (wg e.t e.h).2*tvI s V j (toI l n need l.length (e.t+1) e.h) else 0):=by
 simp only [QZ]
 split <;> split <;> simp [sumW,Xr,tvI]
theorem WZ (hc:Qo (Qr op wg n need)=0) {j:Nat} {e:Num} (he:(Ql op n)[j]?=some e):(vals (Qr op wg n need) pa oa).getD j 0 =
 (if (wg e.t e.h).1 > 0 then (wg e.t e.h).1*tvI (Qr op wg n need) (vals (Qr op wg n need) pa oa) j (toI (Ql op n) n need (Ql op n).length (e.t+1) (e.h+1)) else 0)+(if (wg e.t e.h).2 > 0 then (wg e.t e.h).2*tvI (Qr op wg n need) (vals (Qr op wg n need) pa oa) j (toI (Ql op n) n need (Ql op n).length (e.t+1) e.h) else 0):=by
 rw [(Vw hc (YK he)).2 rfl,sum_stage]
theorem qc (hc:Qo (Qr op wg n need)=0) {j:Nat} {e:Num} (he:(Ql op n)[j]?=some e):∃ q,(Qn (Qr op wg n need)).mult.getD j 0=q∧(Qn (Qr op wg n need)).meas.getD j 0=q*totI (QZ (Ql op n) wg n need e)∧0<q∧∀ t ∈ (QZ (Ql op n) wg n need e).turns,0<(Qn (Qr op wg n need)).meas.getD (Int.toNat t.to) 0∧(Qn (Qr op wg n need)).meas.getD (Int.toNat t.to) 0*Int.tdiv q ((Qn (Qr op wg n need)).meas.getD (Int.toNat t.to) 0)=q:=by
 obtain ⟨hm,hs⟩:=VD (Xp hc)
 have hx:=YK (wg:=wg) (need:=need) he
 obtain ⟨q,q1,q2,q3,q4⟩:=hm.inv.rel j _ (by omega) (by rw [hs]; exact hx)
 rw [if_pos (show (QZ (Ql op n) wg n need e).kind=1 from rfl)] at q2
 refine ⟨q,XR q1,XR q2,q3.1,fun t ht=>?_⟩
 have hto:=WG hc he t ht
 have hlt:Int.toNat t.to<(Qn (Qr op wg n need)).meas.length:=by rw [hm.inv.l1,hs,Vy]; exact hto.2
 have hp:=(hm.inv.pos _ _ (by omega) (getD_some hlt)).1
 have hd:=q4 t ht
 refine ⟨hp,?_⟩
 generalize (Qn (Qr op wg n need)).meas.getD (Int.toNat t.to) 0=u at hp hd
 rw [Int.tdiv_eq_ediv_of_nonneg (by omega)]
 exact Int.mul_ediv_cancel' hd
theorem VU {q:Int}:∀ {ts:List Trn} {es:List Int},ts.length=es.length→(∀ e ∈ es,e=q)→sumW ts es=q*(ts.map (·.w)).sum
 | [],[],_,_=>by simp [sumW]
 | t :: ts,e :: es,hl,h=>by
  have ih:=VU (ts:=ts) (es:=es) (by simpa using hl) fun x hx=>h x (by simp [hx])
  simp only [sumW,List.map_cons,List.sum_cons,ih,h e (by simp),Int.mul_add,Int.mul_comm t.w]
/-- All ends that can be come to are won: the value is the measure. -/
theorem vals_all (hc:Qo (Qr op wg n need)=0) (H:∀ (j:Nat) (e:Num),(Ql op n)[j]?=some e→∀ t ∈ (QZ (Ql op n) wg n need e).turns,Int.toNat t.to<(Ql op n).length ∨ Int.toNat t.to=(Ql op n).length+1) :
 ∀ (d j:Nat),(Ql op n).length≤j+d→j<(Ql op n).length→(vals (Qr op wg n need) pa oa).getD j 0=(Qn (Qr op wg n need)).meas.getD j 0
 | 0,j,h,hj=>by omega
 | d+1,j,h,hj=>by
  have he:(Ql op n)[j]?=some (Ql op n)[j]:=List.getElem?_eq_getElem hj
  generalize (Ql op n)[j]=e at he
  obtain ⟨q,q1,q2,q3,q4⟩:=qc hc he
  rw [(Vw hc (YK he)).2 rfl,q2]
  refine VU (by simp [Xr]) fun x hx=>?_
  obtain ⟨t,ht,rfl⟩:=List.mem_map.1 hx
  have hto:=WG hc he t ht
  have hv:(vals (Qr op wg n need) pa oa).getD (Int.toNat t.to) 0=(Qn (Qr op wg n need)).meas.getD (Int.toNat t.to) 0:=by
   rcases H j e he t ht with h1 | h1
   · exact vals_all hc H d _ (by omega) h1
   · rw [h1,Vq hc,(Vg hc).2]
  rw [hv,q1]
  exact (q4 t ht).2
theorem vals_none (hc:Qo (Qr op wg n need)=0) (H:∀ (j:Nat) (e:Num),(Ql op n)[j]?=some e→∀ t ∈ (QZ (Ql op n) wg n need e).turns,Int.toNat t.to<(Ql op n).length ∨ Int.toNat t.to=(Ql op n).length) :
 ∀ (d j:Nat),(Ql op n).length≤j+d→j<(Ql op n).length→(vals (Qr op wg n need) pa oa).getD j 0=0
 | 0,j,h,hj=>by omega
 | d+1,j,h,hj=>by
  have he:(Ql op n)[j]?=some (Ql op n)[j]:=List.getElem?_eq_getElem hj
  generalize (Ql op n)[j]=e at he
  rw [(Vw hc (YK he)).2 rfl,VU (q:=0) (by simp [Xr]) fun x hx=>?_,Int.zero_mul]
  obtain ⟨t,ht,rfl⟩:=List.mem_map.1 hx
  have hto:=WG hc he t ht
  have hv:(vals (Qr op wg n need) pa oa).getD (Int.toNat t.to) 0=0:=by
   rcases H j e he t ht with h1 | h1
   · exact vals_none hc H d _ (by omega) h1
   · rw [h1,VS hc]
  rw [hv,Int.zero_mul]
end Vals
/-- More must be won: the odds are not greater. -/
theorem vals_less {op:Int→Int→Bool} {wg:Int→Int→Int × Int} {n:Nat} {need need' pa oa:Int} (hn:need≤need') (hc:Qo (Qr op wg n need)=0) (hc':Qo (Qr op wg n need')=0) :
 ∀ (d j:Nat),(Ql op n).length+2≤j+d→j<(Ql op n).length+2→(vals (Qr op wg n need') pa oa).getD j 0≤(vals (Qr op wg n need) pa oa).getD j 0
 | 0,j,h,hj=>by omega
 | d+1,j,h,hj=>by
  obtain ⟨em,eu⟩:=yb hc hc'
  rcases Nat.lt_trichotomy j (Ql op n).length with h1 | h1 | h1
  · have he:(Ql op n)[j]?=some (Ql op n)[j]:=List.getElem?_eq_getElem h1
    generalize (Ql op n)[j]=e at he
    obtain ⟨q,q1,q2,q3,q4⟩:=qc hc he
    rw [WZ hc he,WZ hc' he]
    have one:∀ (w a b:Int),w > 0→(⟨w,toI (Ql op n) n need (Ql op n).length a b⟩:Trn) ∈ (QZ (Ql op n) wg n need e).turns →
     w*tvI (Qr op wg n need') (vals (Qr op wg n need') pa oa) j (toI (Ql op n) n need' (Ql op n).length a b)≤w*tvI (Qr op wg n need) (vals (Qr op wg n need) pa oa) j (toI (Ql op n) n need (Ql op n).length a b):=fun w a b hw ht=>by
     refine Int.mul_le_mul_of_nonneg_left ?_ (by omega)
     have hto:=WG hc he _ ht
     have hq:=q4 _ ht
     simp only at hto hq
     have hnn:0≤Int.tdiv q ((Qn (Qr op wg n need)).meas.getD (Int.toNat (toI (Ql op n) n need (Ql op n).length a b)) 0):=Int.tdiv_nonneg (by omega) (by omega)
     simp only [tvI,← em,← eu,q1]
     have ms:=to_end (need:=need) (need':=need') (n:=n) (a:=a) (b:=b) (Vg hc).1 (Vg hc).2
     rw [← ms]
     refine Int.mul_le_mul_of_nonneg_right ?_ hnn
     unfold toI at hto ⊢
     by_cases ha:a<(n:Int)
     · rw [if_pos ha,if_pos ha]
       rw [if_pos ha] at hto
       exact vals_less hn hc hc' d _ (by omega) (by omega)
     · rw [if_neg ha,if_neg ha]
       have e1:Int.toNat (((Ql op n).length:Nat):Int)=(Ql op n).length:=by omega
       have e2:Int.toNat ((((Ql op n).length:Nat):Int)+1)=(Ql op n).length+1:=by omega
       by_cases hb:b≥need'
       · rw [if_pos hb,if_pos (by omega),e2,Vq hc,Vq hc']; exact Int.le_refl _
       · rw [if_neg hb,e1,VS hc']
         split
         · rw [e2,Vq hc]; decide
         · rw [e1,VS hc]; exact Int.le_refl _
    refine Int.add_le_add ?_ ?_
    · split
      · rename_i hw; exact one _ _ _ hw (by simp only [QZ]; rw [if_pos hw]; simp)
      · exact Int.le_refl _
    · split
      · rename_i hw; exact one _ _ _ hw (by simp only [QZ]; rw [if_pos hw]; simp)
      · exact Int.le_refl _
  · subst h1; rw [VS hc,VS hc']; exact Int.le_refl _
  · rw [show j=(Ql op n).length+1 by omega,Vq hc,Vq hc']; exact Int.le_refl _
end Go.Proofs.Ytfgmlaeikcfpbaa