/- A part of the proof: several texts, one behind the other. -/
import Derived.Test.YtfgmlaeikcfpbaaLStallsBuildsC
import Derived.Defers
set_option linter.unusedVariables false
set_option linter.unusedSimpArgs false
set_option maxRecDepth 100000
namespace Go.Proofs.Ytfgmlaeikcfpbaa
open Go Ax
open Go.Proofs
theorem f112b:Try.f112.body=some (Qd Try.prog 112):=by kernel_rfl
theorem u112 {a c k:List AV} {r:AV} (h:Pure Try.prog 112 (a++c++k) r):Qf Try.prog (.clos 112 a k) c r:=Qo Try.func112 (by kernel_rfl) f112b h
theorem p112_start_0 (n:Int) {E:Env} {res:AV} (hE:Qe Try.prog 112 res E) (ho:AllP [(n != 1)=true])
 (hr:AvLe (.bool (n != 2)) res):G Try.prog E [.code (Qd Try.prog 112)] ⟨[.int .i64 n]++unds (Try.f112.ntmps - 1),[]⟩ :=
 Qc (n:=400) (evs:=[.b true]) (obs:=_) hE Try.func112 Qh (by kernel_rfl) ho hr
theorem p112_start_1 (n:Int) {E:Env} {res:AV} (hE:Qe Try.prog 112 res E) (ho:AllP [(n != 1)=false])
 (hr:AvLe (.bool false) res):G Try.prog E [.code (Qd Try.prog 112)] ⟨[.int .i64 n]++unds (Try.f112.ntmps - 1),[]⟩ :=
 Qc (n:=400) (evs:=[.b false]) (obs:=_) hE Try.func112 Qh (by kernel_rfl) ho hr
theorem f112W (n:Int) {E:Env} {rv:Bool} (hE:Qe Try.prog 112 (.bool rv) E)
 (h:((¬ (n=1)→rv=(n != 2))∧(n=1→rv=false))):G Try.prog E [.code (Qd Try.prog 112)] ⟨[.int .i64 n]++unds (Try.f112.ntmps - 1),[]⟩:=by
 rcases bft (n != 1) with hc0 | hc0
 · have h:=h.1 (bneT hc0)
   exact p112_start_0 n hE ⟨hc0,trivial⟩ (AvLe.of_eq (by rw [h]; try rfl))
 · have h:=h.2 (bneF hc0)
   exact p112_start_1 n hE ⟨hc0,trivial⟩ (AvLe.of_eq (by rw [h]; try rfl))
def XK (n:Int):Bool:=decide (n=1) || decide (n=2)
theorem noaim_ok (n:Int):Pure Try.prog 112 [.int .i64 n] (.bool (!XK n)):=Qv Try.func112 f112b fun E hE=>by
 refine f112W n (rv:=!XK n) hE ⟨fun h=>?_,fun h=>by simp [XK,h]⟩
 by_cases h2:n=2
 · simp [XK,h,h2]
 · simp [XK,h,h2]
def VF (P:Program):List Item:=kAt 400 [.code (Qd P 120)] [.stop]
def yI (l:(List Int)) (i:Nat):St:=⟨([.rsl (rowI l) 0 l.length,.clos 112 [] []]++jj 5 ([.int .i64 (l.length:Int),.int .i64 (i:Int)]++Js 10)),[]⟩
def yJ (E:Env) (l:(List Int)) (i:Nat):Prop:=G Try.prog E (VF Try.prog) (yI l i )
theorem yl (l:(List Int)) {E:Env} {rv:AV} (hE:Qe Try.prog 120 rv E) (ho:AllP [])
 (hg:G Try.prog E (VF Try.prog) ⟨([.rsl (rowI l) 0 l.length,.clos 112 [] []]++jj 5 ([.int .i64 (l.length:Int),.int .i64 0]++Js 10)),[]⟩):G Try.prog E [.code (Qd Try.prog 120)] ⟨[.rsl (rowI l) 0 l.length,.clos 112 [] []]++unds (Try.f120.ntmps - 2),[]⟩ :=
 Qg (n:=400) (ds:=[]) (cs:=[]) (live:=[0,1,7,8]) (m:=0) (evs:=[.stop]) (obs:=_) hE.2.1 (hE.nogh _) Qh (by kernel_rfl) ho hg
theorem f120aW (l:(List Int)) {E:Env} {rv:Int} (hE:Qe Try.prog 120 (.int .i64 rv) E)
 (h:yJ E l 0):G Try.prog E [.code (Qd Try.prog 120)] ⟨[.rsl (rowI l) 0 l.length,.clos 112 [] []]++unds (Try.f120.ntmps - 2),[]⟩:=by
 exact yl l hE trivial h
theorem p120a_0_0 (l:(List Int)) (i:Nat) (e:Int) {E:Env} {res:AV} (hE:Qe Try.prog 120 res E) (ho:AllP [(decide ((i:Int)<(l.length:Int)))=true,0≤(i:Int)∧(i:Int)<(l.length:Int),((rowI l).drop (0+(Int.toNat (i:Int))*1)).take 1=[.int .i64 e],Qf Try.prog (.clos 112 [] []) [.int .i64 e] (.bool (!XK e)),(!XK e)=true])
 (hr:AvLe (.int .i64 (i:Int)) res):G Try.prog E (VF Try.prog) (yI l i ) :=
 Qc (n:=400) (evs:=[.b true,.ld (.int .i64 e),.v (.bool (!XK e)),.b true]) (obs:=_) hE Try.func120 Qh (by kernel_rfl) ho hr
theorem p120a_0_1 (l:(List Int)) (i:Nat) (e:Int) {E:Env} {rv:AV} (hE:Qe Try.prog 120 rv E) (ho:AllP [(decide ((i:Int)<(l.length:Int)))=true,0≤(i:Int)∧(i:Int)<(l.length:Int),((rowI l).drop (0+(Int.toNat (i:Int))*1)).take 1=[.int .i64 e],Qf Try.prog (.clos 112 [] []) [.int .i64 e] (.bool (!XK e)),(!XK e)=false,InR .i64 ((i:Int)+1)])
 (hg:G Try.prog E (VF Try.prog) ⟨([.rsl (rowI l) 0 l.length,.clos 112 [] []]++jj 5 ([.int .i64 (l.length:Int),.int .i64 ((i:Int)+1)]++Js 10)),[]⟩):G Try.prog E (VF Try.prog) (yI l i ) :=
 Qg (n:=400) (ds:=[]) (cs:=[]) (live:=[0,1,7,8]) (m:=0) (evs:=[.b true,.ld (.int .i64 e),.v (.bool (!XK e)),.b false,.stop]) (obs:=_) hE.2.1 (hE.nogh _) Qh (by kernel_rfl) ho hg
theorem p120a_0_2 (l:(List Int)) (i:Nat) {E:Env} {res:AV} (hE:Qe Try.prog 120 res E) (ho:AllP [(decide ((i:Int)<(l.length:Int)))=false])
 (hr:AvLe (.int .i64 (-1)) res):G Try.prog E (VF Try.prog) (yI l i ) :=
 Qc (n:=400) (evs:=[.b false]) (obs:=_) hE Try.func120 Qh (by kernel_rfl) ho hr
theorem f120aW0 (l:(List Int)) (i:Nat) {E:Env} {rv:Int} (hE:Qe Try.prog 120 (.int .i64 rv) E)
 (h:(((i:Int)<(l.length:Int)→(∃ e:Int,l[i]?=some e∧(((!XK e)=true→rv=(i:Int))∧((!XK e)=false→((I6 ((i:Int)+1))∧yJ E l (i+1))))))∧(¬ ((i:Int)<(l.length:Int))→rv=(-1)))):yJ E l i:=by
 rcases bft (decide ((i:Int)<(l.length:Int))) with hc0 | hc0
 · have h:=h.1 (odt hc0)
   obtain ⟨e,h1,h⟩:=h
   rcases bft (!XK e) with hc1 | hc1
   · have h:=h.1 hc1
     exact p120a_0_0 l i e hE ⟨hc0,(Qs h1),(rp cI 1 0 1 h1),(u112 (noaim_ok e)),hc1,trivial⟩ (AvLe.of_eq (by rw [h]; try rfl))
   · have h:=h.2 hc1
     obtain ⟨q6_2,h⟩:=h
     exact p120a_0_1 l i e hE ⟨hc0,(Qs h1),(rp cI 1 0 1 h1),(u112 (noaim_ok e)),hc1,q6_2,trivial⟩ h
 · have h:=h.2 (odf hc0)
   exact p120a_0_2 l i hE ⟨hc0,trivial⟩ (AvLe.of_eq (by rw [h]; try rfl))
theorem idxA_ok (l:List Int) (h:l.length≤9223372036854775807):Pure Try.prog 120 [.rsl (rowI l) 0 l.length,.clos 112 [] []] (.int .i64 (idxG (fun n=>!XK n) l)):=Qv Try.func120 f120b fun E hE=>by
 refine f120aW l hE (Vh (fun n=>!XK n) l l.length 0 (by omega) (fun j x hj=>by omega) (fun i=>yJ E l i) (fun i hi' h1 h2=>?_) (fun _ h2=>?_))
 · have hx:l[i]?=some l[i]:=List.getElem?_eq_getElem hi'
   exact f120aW0 l i hE ⟨fun _=>⟨_,hx,fun hp=>h1 _ hx hp,fun hp=>⟨by omega,h2 _ hx hp⟩⟩,fun h=>by omega⟩
 · exact f120aW0 l _ hE ⟨fun h=>by omega,fun _=>h2⟩
theorem p96a_start_0 (l:(List Int)) {E:Env} {res:AV} (hE:Qe Try.prog 96 res E) (ho:AllP [Qf Try.prog (.clos 120 [] []) [.rsl (rowI l) 0 l.length,.clos 112 [] []] (.int .i64 (idxG (fun n=>!XK n) l))])
 (hr:AvLe (.bool (decide ((idxG (fun n=>!XK n) l)≥0))) res):G Try.prog E [.code (Qd Try.prog 96)] ⟨[.rsl (rowI l) 0 l.length,.clos 112 [] []]++unds (Try.f96.ntmps - 2),[]⟩ :=
 Qc (n:=400) (evs:=[.v (.int .i64 (idxG (fun n=>!XK n) l))]) (obs:=_) hE Try.func96 Qh (by kernel_rfl) ho hr
theorem f96aW (l:(List Int)) {E:Env} {rv:Bool} (hE:Qe Try.prog 96 (.bool rv) E)
 (h:((l.length≤9223372036854775807)∧rv=(decide ((idxG (fun n=>!XK n) l)≥0)))):G Try.prog E [.code (Qd Try.prog 96)] ⟨[.rsl (rowI l) 0 l.length,.clos 112 [] []]++unds (Try.f96.ntmps - 2),[]⟩:=by
 obtain ⟨h1,h⟩:=h
 exact p96a_start_0 l hE ⟨(u120 (idxA_ok l h1)),trivial⟩ (AvLe.of_eq (by rw [h]; try rfl))
theorem anyA_ok (l:List Int) (h:l.length≤9223372036854775807):Pure Try.prog 96 [.rsl (rowI l) 0 l.length,.clos 112 [] []] (.bool (l.any fun n=>!XK n)):=Qv Try.func96 f96b fun E hE =>
 f96aW l hE ⟨h,(yz _ l).symm⟩
theorem f74b:Try.f74.body=some (Qd Try.prog 74):=by kernel_rfl
theorem u74 {a c k:List AV} {r:AV} (h:Pure Try.prog 74 (a++c++k) r):Qf Try.prog (.clos 74 a k) c r:=Qo Try.func74 (by kernel_rfl) f74b h
theorem p74_start_0 (l:(List Int)) {E:Env} {res:AV} (hE:Qe Try.prog 74 res E) (ho:AllP [Qf Try.prog (.clos 96 [] []) [.rsl (rowI l) 0 l.length,.clos 112 [] []] (.bool (l.any (fun n=>!XK n)))])
 (hr:AvLe (.bool (!(l.any (fun n=>!XK n)))) res):G Try.prog E [.code (Qd Try.prog 74)] ⟨[.rsl (rowI l) 0 l.length]++unds (Try.f74.ntmps - 1),[]⟩ :=
 Qc (n:=400) (evs:=[.v (.bool (l.any (fun n=>!XK n)))]) (obs:=_) hE Try.func74 Qh (by kernel_rfl) ho hr
theorem f74W (l:(List Int)) {E:Env} {rv:Bool} (hE:Qe Try.prog 74 (.bool rv) E)
 (h:((l.length≤9223372036854775807)∧rv=(!(l.any (fun n=>!XK n))))):G Try.prog E [.code (Qd Try.prog 74)] ⟨[.rsl (rowI l) 0 l.length]++unds (Try.f74.ntmps - 1),[]⟩:=by
 obtain ⟨h1,h⟩:=h
 exact p74_start_0 l hE ⟨(u96 (anyA_ok l h1)),trivial⟩ (AvLe.of_eq (by rw [h]; try rfl))
theorem f73b:Try.f73.body=some (Qd Try.prog 73):=by kernel_rfl
theorem u73 {a c k:List AV} {r:AV} (h:Pure Try.prog 73 (a++c++k) r):Qf Try.prog (.clos 73 a k) c r:=Qo Try.func73 (by kernel_rfl) f73b h
theorem p73_start_0 (n:Int) (m:Mch) {E:Env} {res:AV} (hE:Qe Try.prog 73 res E) (ho:AllP [InR .i64 ((m.s.worth.length:Int) - 1),Qf Try.prog (.clos 65 [] []) [.int .i64 n,.int .i64 0,.int .i64 ((m.s.worth.length:Int) - 1)] (.bool (Qa n 0 ((m.s.worth.length:Int) - 1)))])
 (hr:AvLe (.bool (Qa n 0 ((m.s.worth.length:Int) - 1))) res):G Try.prog E [.code (Qd Try.prog 73)] ⟨[.rptr [.rsl (Qb m.s.stages) 0 m.s.stages.length,.rsl (rowI m.s.worth) 0 m.s.worth.length,.int .i64 m.s.price,.rsl (rowI m.meas) 0 m.meas.length,.rsl (rowI m.mult) 0 m.mult.length] 0,.int .i64 n]++unds (Try.f73.ntmps - 2),[]⟩ :=
 Qc (n:=400) (evs:=[.v (.bool (Qa n 0 ((m.s.worth.length:Int) - 1)))]) (obs:=_) hE Try.func73 Qh (by kernel_rfl) ho hr
theorem f73W (n:Int) (m:Mch) {E:Env} {rv:Bool} (hE:Qe Try.prog 73 (.bool rv) E)
 (h:((I6 ((m.s.worth.length:Int) - 1))∧rv=(Qa n 0 ((m.s.worth.length:Int) - 1)))):G Try.prog E [.code (Qd Try.prog 73)] ⟨[.rptr [.rsl (Qb m.s.stages) 0 m.s.stages.length,.rsl (rowI m.s.worth) 0 m.s.worth.length,.int .i64 m.s.price,.rsl (rowI m.meas) 0 m.meas.length,.rsl (rowI m.mult) 0 m.mult.length] 0,.int .i64 n]++unds (Try.f73.ntmps - 2),[]⟩:=by
 obtain ⟨q0_0,h⟩:=h
 exact p73_start_0 n m hE ⟨q0_0,(u65 (Qm n 0 ((m.s.worth.length:Int) - 1))),trivial⟩ (AvLe.of_eq (by rw [h]; try rfl))
def aimsI (l:List Int):Bool:=!(l.any fun n=>!XK n)
theorem aims_ok (l:List Int) (h:l.length≤9223372036854775807):Pure Try.prog 74 [.rsl (rowI l) 0 l.length] (.bool (aimsI l)):=Qv Try.func74 f74b fun E hE=>f74W l (rv:=aimsI l) hE ⟨h,rfl⟩
def Wf (m:Mch) (n:Int):Bool:=Qa n 0 ((m.s.worth.length:Int) - 1)
theorem kind_ok (m:Mch) (n:Int) (h:m.s.worth.length≤1000000):Pure Try.prog 73 [.rptr (cMch m) 0,.int .i64 n] (.bool (Wf m n)):=Qv Try.func73 f73b fun E hE=>f73W n m (rv:=Wf m n) hE ⟨by omega,rfl⟩
theorem f113b:Try.f113.body=some (Qd Try.prog 113):=by kernel_rfl
theorem u113 {a c k:List AV} {r:AV} (h:Pure Try.prog 113 (a++c++k) r):Qf Try.prog (.clos 113 a k) c r:=Qo Try.func113 (by kernel_rfl) f113b h
theorem p113_start_0 (n:Int) (kd:Int) {E:Env} {res:AV} (hE:Qe Try.prog 113 res E) (ho:AllP [(n == kd)=true])
 (hr:AvLe (.int .i64 1) res):G Try.prog E [.code (Qd Try.prog 113)] ⟨[.int .i64 n,.rptr [.int .i64 kd] 0]++unds (Try.f113.ntmps - 2),[]⟩ :=
 Qc (n:=400) (evs:=[.b true]) (obs:=_) hE Try.func113 Qh (by kernel_rfl) ho hr
theorem p113_start_1 (n:Int) (kd:Int) {E:Env} {res:AV} (hE:Qe Try.prog 113 res E) (ho:AllP [(n == kd)=false])
 (hr:AvLe (.int .i64 0) res):G Try.prog E [.code (Qd Try.prog 113)] ⟨[.int .i64 n,.rptr [.int .i64 kd] 0]++unds (Try.f113.ntmps - 2),[]⟩ :=
 Qc (n:=400) (evs:=[.b false]) (obs:=_) hE Try.func113 Qh (by kernel_rfl) ho hr
theorem f113W (n:Int) (kd:Int) {E:Env} {rv:Int} (hE:Qe Try.prog 113 (.int .i64 rv) E)
 (h:((n=kd→rv=1)∧(¬ (n=kd)→rv=0))):G Try.prog E [.code (Qd Try.prog 113)] ⟨[.int .i64 n,.rptr [.int .i64 kd] 0]++unds (Try.f113.ntmps - 2),[]⟩:=by
 rcases bft (n == kd) with hc0 | hc0
 · have h:=h.1 (eq_of_beq hc0)
   exact p113_start_0 n kd hE ⟨hc0,trivial⟩ (AvLe.of_eq (by rw [h]; try rfl))
 · have h:=h.2 (ne_of_beq_false hc0)
   exact p113_start_1 n kd hE ⟨hc0,trivial⟩ (AvLe.of_eq (by rw [h]; try rfl))
theorem f115b:Try.f115.body=some (Qd Try.prog 115):=by kernel_rfl
theorem u115 {a c k:List AV} {r:AV} (h:Pure Try.prog 115 (a++c++k) r):Qf Try.prog (.clos 115 a k) c r:=Qo Try.func115 (by kernel_rfl) f115b h
def qW (P:Program):List Item:=kAt 400 [.code (Qd P 115)] [.stop]
def f115S0 (l:(List Int)) (v:Int) (i:Nat):St:=⟨([.rsl (rowI l) 0 l.length,.int .i64 v]++jj 5 ([.int .i64 (l.length:Int),.int .i64 (i:Int)]++Js 10)),[]⟩
def f115G0 (E:Env) (l:(List Int)) (v:Int) (i:Nat):Prop:=G Try.prog E (qW Try.prog) (f115S0 l v i )
theorem p115_start_0 (l:(List Int)) (v:Int) {E:Env} {rv:AV} (hE:Qe Try.prog 115 rv E) (ho:AllP [])
 (hg:G Try.prog E (qW Try.prog) ⟨([.rsl (rowI l) 0 l.length,.int .i64 v]++jj 5 ([.int .i64 (l.length:Int),.int .i64 0]++Js 10)),[]⟩):G Try.prog E [.code (Qd Try.prog 115)] ⟨[.rsl (rowI l) 0 l.length,.int .i64 v]++unds (Try.f115.ntmps - 2),[]⟩ :=
 Qg (n:=400) (ds:=[]) (cs:=[]) (live:=[0,1,7,8]) (m:=0) (evs:=[.stop]) (obs:=_) hE.2.1 (hE.nogh _) Qh (by kernel_rfl) ho hg
theorem f115W (l:(List Int)) (v:Int) {E:Env} {rv:Int} (hE:Qe Try.prog 115 (.int .i64 rv) E)
 (h:f115G0 E l v 0):G Try.prog E [.code (Qd Try.prog 115)] ⟨[.rsl (rowI l) 0 l.length,.int .i64 v]++unds (Try.f115.ntmps - 2),[]⟩:=by
 exact p115_start_0 l v hE trivial h
theorem p115_0_0 (l:(List Int)) (v:Int) (i:Nat) (e:Int) {E:Env} {res:AV} (hE:Qe Try.prog 115 res E) (ho:AllP [(decide ((i:Int)<(l.length:Int)))=true,0≤(i:Int)∧(i:Int)<(l.length:Int),((rowI l).drop (0+(Int.toNat (i:Int))*1)).take 1=[.int .i64 e],(v == e)=true])
 (hr:AvLe (.int .i64 (i:Int)) res):G Try.prog E (qW Try.prog) (f115S0 l v i ) :=
 Qc (n:=400) (evs:=[.b true,.ld (.int .i64 e),.b true]) (obs:=_) hE Try.func115 Qh (by kernel_rfl) ho hr
theorem p115_0_1 (l:(List Int)) (v:Int) (i:Nat) (e:Int) {E:Env} {rv:AV} (hE:Qe Try.prog 115 rv E) (ho:AllP [(decide ((i:Int)<(l.length:Int)))=true,0≤(i:Int)∧(i:Int)<(l.length:Int),((rowI l).drop (0+(Int.toNat (i:Int))*1)).take 1=[.int .i64 e],(v == e)=false,InR .i64 ((i:Int)+1)])
 (hg:G Try.prog E (qW Try.prog) ⟨([.rsl (rowI l) 0 l.length,.int .i64 v]++jj 5 ([.int .i64 (l.length:Int),.int .i64 ((i:Int)+1)]++Js 10)),[]⟩):G Try.prog E (qW Try.prog) (f115S0 l v i ) :=
 Qg (n:=400) (ds:=[]) (cs:=[]) (live:=[0,1,7,8]) (m:=0) (evs:=[.b true,.ld (.int .i64 e),.b false,.stop]) (obs:=_) hE.2.1 (hE.nogh _) Qh (by kernel_rfl) ho hg
theorem p115_0_2 (l:(List Int)) (v:Int) (i:Nat) {E:Env} {res:AV} (hE:Qe Try.prog 115 res E) (ho:AllP [(decide ((i:Int)<(l.length:Int)))=false])
 (hr:AvLe (.int .i64 (-1)) res):G Try.prog E (qW Try.prog) (f115S0 l v i ) :=
 Qc (n:=400) (evs:=[.b false]) (obs:=_) hE Try.func115 Qh (by kernel_rfl) ho hr
theorem f115W0 (l:(List Int)) (v:Int) (i:Nat) {E:Env} {rv:Int} (hE:Qe Try.prog 115 (.int .i64 rv) E)
 (h:(((i:Int)<(l.length:Int)→(∃ e:Int,l[i]?=some e∧((v=e→rv=(i:Int))∧(¬ (v=e)→((I6 ((i:Int)+1))∧f115G0 E l v (i+1))))))∧(¬ ((i:Int)<(l.length:Int))→rv=(-1)))):f115G0 E l v i:=by
 rcases bft (decide ((i:Int)<(l.length:Int))) with hc0 | hc0
 · have h:=h.1 (odt hc0)
   obtain ⟨e,h1,h⟩:=h
   rcases bft (v == e) with hc1 | hc1
   · have h:=h.1 (eq_of_beq hc1)
     exact p115_0_0 l v i e hE ⟨hc0,(Qs h1),(rp cI 1 0 1 h1),hc1,trivial⟩ (AvLe.of_eq (by rw [h]; try rfl))
   · have h:=h.2 (ne_of_beq_false hc1)
     obtain ⟨q5_2,h⟩:=h
     exact p115_0_1 l v i e hE ⟨hc0,(Qs h1),(rp cI 1 0 1 h1),hc1,q5_2,trivial⟩ h
 · have h:=h.2 (odf hc0)
   exact p115_0_2 l v i hE ⟨hc0,trivial⟩ (AvLe.of_eq (by rw [h]; try rfl))
theorem f90b:Try.f90.body=some (Qd Try.prog 90):=by kernel_rfl
theorem u90 {a c k:List AV} {r:AV} (h:Pure Try.prog 90 (a++c++k) r):Qf Try.prog (.clos 90 a k) c r:=Qo Try.func90 (by kernel_rfl) f90b h
def f90K0 (P:Program):List Item:=kAt 400 [.code (Qd P 90)] [.b false,.stop]
def f90S0 (l:(List Int)) (m:Int) (i:Nat):St:=⟨([.rsl (rowI l) 0 l.length,J,J,.int .i64 m,.int .i64 (i:Int)]++Js 20),[]⟩
def f90G0 (E:Env) (l:(List Int)) (m:Int) (i:Nat):Prop:=G Try.prog E (f90K0 Try.prog) (f90S0 l m i )
theorem p90_start_1 (l:(List Int)) (e:Int) {E:Env} {rv:AV} (hE:Qe Try.prog 90 rv E) (ho:AllP [(decide ((l.length:Int)<1))=false,(0:Int)≤0∧(0:Int)<(l.length:Int),((rowI l).drop (0+0*1)).take 1=[.int .i64 e]])
 (hg:G Try.prog E (f90K0 Try.prog) ⟨([.rsl (rowI l) 0 l.length,J,J,.int .i64 e,.int .i64 1]++Js 20),[]⟩):G Try.prog E [.code (Qd Try.prog 90)] ⟨[.rsl (rowI l) 0 l.length]++unds (Try.f90.ntmps - 1),[]⟩ :=
 Qg (n:=400) (ds:=[]) (cs:=[]) (live:=[0,3,4]) (m:=0) (evs:=[.b false,.ld (.int .i64 e),.stop]) (obs:=_) hE.2.1 (hE.nogh _) Qh (by kernel_rfl) ho hg
theorem f90W (l:(List Int)) {E:Env} {rv:Int} (hE:Qe Try.prog 90 (.int .i64 rv) E)
 (h:(((l.length:Int)<1→False)∧(¬ ((l.length:Int)<1)→(∃ e:Int,l[0]?=some e∧f90G0 E l e 1)))):G Try.prog E [.code (Qd Try.prog 90)] ⟨[.rsl (rowI l) 0 l.length]++unds (Try.f90.ntmps - 1),[]⟩:=by
 rcases bft (decide ((l.length:Int)<1)) with hc0 | hc0
 · have h:=h.1 (odt hc0)
   exact h.elim
 · have h:=h.2 (odf hc0)
   obtain ⟨e,h1,h⟩:=h
   exact p90_start_1 l e hE ⟨hc0,(Qs h1),(rp cI 1 0 1 h1),trivial⟩ h
theorem p90_0_0 (l:(List Int)) (m:Int) (i:Nat) (e:Int) {E:Env} {rv:AV} (hE:Qe Try.prog 90 rv E) (ho:AllP [(decide ((i:Int)<(l.length:Int)))=true,0≤(i:Int)∧(i:Int)<(l.length:Int),((rowI l).drop (0+(Int.toNat (i:Int))*1)).take 1=[.int .i64 e],InR .i64 ((i:Int)+1)])
 (hg:G Try.prog E (f90K0 Try.prog) ⟨([.rsl (rowI l) 0 l.length,J,J,.int .i64 (iMax m e),.int .i64 ((i:Int)+1)]++Js 20),[]⟩):G Try.prog E (f90K0 Try.prog) (f90S0 l m i ) :=
 Qg (n:=400) (ds:=[]) (cs:=[]) (live:=[0,3,4]) (m:=0) (evs:=[.b true,.ld (.int .i64 e),.stop]) (obs:=_) hE.2.1 (hE.nogh _) Qh (by kernel_rfl) ho hg
theorem p90_0_1 (l:(List Int)) (m:Int) (i:Nat) {E:Env} {res:AV} (hE:Qe Try.prog 90 res E) (ho:AllP [(decide ((i:Int)<(l.length:Int)))=false])
 (hr:AvLe (.int .i64 m) res):G Try.prog E (f90K0 Try.prog) (f90S0 l m i ) :=
 Qc (n:=400) (evs:=[.b false]) (obs:=_) hE Try.func90 Qh (by kernel_rfl) ho hr
theorem f90W0 (l:(List Int)) (m:Int) (i:Nat) {E:Env} {rv:Int} (hE:Qe Try.prog 90 (.int .i64 rv) E)
 (h:(((i:Int)<(l.length:Int)→(∃ e:Int,l[i]?=some e∧((I6 ((i:Int)+1))∧f90G0 E l (iMax m e) (i+1))))∧(¬ ((i:Int)<(l.length:Int))→rv=m))):f90G0 E l m i:=by
 rcases bft (decide ((i:Int)<(l.length:Int))) with hc0 | hc0
 · have h:=h.1 (odt hc0)
   obtain ⟨e,h1,h⟩:=h
   obtain ⟨q4_1,h⟩:=h
   exact p90_0_0 l m i e hE ⟨hc0,(Qs h1),(rp cI 1 0 1 h1),q4_1,trivial⟩ h
 · have h:=h.2 (odf hc0)
   exact p90_0_1 l m i hE ⟨hc0,trivial⟩ (AvLe.of_eq (by rw [h]; try rfl))
theorem f116b:Try.f116.body=some (Qd Try.prog 116):=by kernel_rfl
theorem u116 {a c k:List AV} {r:AV} (h:Pure Try.prog 116 (a++c++k) r):Qf Try.prog (.clos 116 a k) c r:=Qo Try.func116 (by kernel_rfl) f116b h
def f116K0 (P:Program):List Item:=kAt 400 [.code (Qd P 116)] [.b false,.stop]
def f116S0 (l:(List Int)) (m:Int) (i:Nat):St:=⟨([.rsl (rowI l) 0 l.length,J,J,.int .i64 m,.int .i64 (i:Int)]++Js 20),[]⟩
def f116G0 (E:Env) (l:(List Int)) (m:Int) (i:Nat):Prop:=G Try.prog E (f116K0 Try.prog) (f116S0 l m i )
theorem p116_start_1 (l:(List Int)) (e:Int) {E:Env} {rv:AV} (hE:Qe Try.prog 116 rv E) (ho:AllP [(decide ((l.length:Int)<1))=false,(0:Int)≤0∧(0:Int)<(l.length:Int),((rowI l).drop (0+0*1)).take 1=[.int .i64 e]])
 (hg:G Try.prog E (f116K0 Try.prog) ⟨([.rsl (rowI l) 0 l.length,J,J,.int .i64 e,.int .i64 1]++Js 20),[]⟩):G Try.prog E [.code (Qd Try.prog 116)] ⟨[.rsl (rowI l) 0 l.length]++unds (Try.f116.ntmps - 1),[]⟩ :=
 Qg (n:=400) (ds:=[]) (cs:=[]) (live:=[0,3,4]) (m:=0) (evs:=[.b false,.ld (.int .i64 e),.stop]) (obs:=_) hE.2.1 (hE.nogh _) Qh (by kernel_rfl) ho hg
theorem f116W (l:(List Int)) {E:Env} {rv:Int} (hE:Qe Try.prog 116 (.int .i64 rv) E)
 (h:(((l.length:Int)<1→False)∧(¬ ((l.length:Int)<1)→(∃ e:Int,l[0]?=some e∧f116G0 E l e 1)))):G Try.prog E [.code (Qd Try.prog 116)] ⟨[.rsl (rowI l) 0 l.length]++unds (Try.f116.ntmps - 1),[]⟩:=by
 rcases bft (decide ((l.length:Int)<1)) with hc0 | hc0
 · have h:=h.1 (odt hc0)
   exact h.elim
 · have h:=h.2 (odf hc0)
   obtain ⟨e,h1,h⟩:=h
   exact p116_start_1 l e hE ⟨hc0,(Qs h1),(rp cI 1 0 1 h1),trivial⟩ h
theorem p116_0_0 (l:(List Int)) (m:Int) (i:Nat) (e:Int) {E:Env} {rv:AV} (hE:Qe Try.prog 116 rv E) (ho:AllP [(decide ((i:Int)<(l.length:Int)))=true,0≤(i:Int)∧(i:Int)<(l.length:Int),((rowI l).drop (0+(Int.toNat (i:Int))*1)).take 1=[.int .i64 e],InR .i64 ((i:Int)+1)])
 (hg:G Try.prog E (f116K0 Try.prog) ⟨([.rsl (rowI l) 0 l.length,J,J,.int .i64 (iMin m e),.int .i64 ((i:Int)+1)]++Js 20),[]⟩):G Try.prog E (f116K0 Try.prog) (f116S0 l m i ) :=
 Qg (n:=400) (ds:=[]) (cs:=[]) (live:=[0,3,4]) (m:=0) (evs:=[.b true,.ld (.int .i64 e),.stop]) (obs:=_) hE.2.1 (hE.nogh _) Qh (by kernel_rfl) ho hg
theorem p116_0_1 (l:(List Int)) (m:Int) (i:Nat) {E:Env} {res:AV} (hE:Qe Try.prog 116 res E) (ho:AllP [(decide ((i:Int)<(l.length:Int)))=false])
 (hr:AvLe (.int .i64 m) res):G Try.prog E (f116K0 Try.prog) (f116S0 l m i ) :=
 Qc (n:=400) (evs:=[.b false]) (obs:=_) hE Try.func116 Qh (by kernel_rfl) ho hr
theorem f116W0 (l:(List Int)) (m:Int) (i:Nat) {E:Env} {rv:Int} (hE:Qe Try.prog 116 (.int .i64 rv) E)
 (h:(((i:Int)<(l.length:Int)→(∃ e:Int,l[i]?=some e∧((I6 ((i:Int)+1))∧f116G0 E l (iMin m e) (i+1))))∧(¬ ((i:Int)<(l.length:Int))→rv=m))):f116G0 E l m i:=by
 rcases bft (decide ((i:Int)<(l.length:Int))) with hc0 | hc0
 · have h:=h.1 (odt hc0)
   obtain ⟨e,h1,h⟩:=h
   obtain ⟨q4_1,h⟩:=h
   exact p116_0_0 l m i e hE ⟨hc0,(Qs h1),(rp cI 1 0 1 h1),q4_1,trivial⟩ h
 · have h:=h.2 (odf hc0)
   exact p116_0_1 l m i hE ⟨hc0,trivial⟩ (AvLe.of_eq (by rw [h]; try rfl))
def QP (k n:Int):Int:=if n=k then 1 else 0
theorem only_ok (n k:Int):Pure Try.prog 113 [.int .i64 n,.rptr [.int .i64 k] 0] (.int .i64 (QP k n)):=Qv Try.func113 f113b fun E hE=>f113W n k (rv:=QP k n) hE ⟨fun h=>by rw [QP,if_pos h],fun h=>by rw [QP,if_neg h]⟩
def planI (l:List Int) (i:Int):Int:=l.getD (Int.toNat i) 0
def idxV (l:List Int) (v:Int):Int:=idxG (fun e=>decide (v=e)) l
theorem Wp (l:List Int) (v:Int) (h:l.length≤1000000):Pure Try.prog 115 [.rsl (rowI l) 0 l.length,.int .i64 v] (.int .i64 (idxV l v)):=Qv Try.func115 f115b fun E hE=>by
 refine f115W l v (rv:=idxV l v) hE (Vh (fun e=>decide (v=e)) l l.length 0 (by omega) (fun j x hj=>by omega) (fun i=>f115G0 E l v i) (fun i hi' h1 h2=>?_) (fun _ h2=>?_))
 · have hx:l[i]?=some l[i]:=List.getElem?_eq_getElem hi'
   exact f115W0 l v i (rv:=idxV l v) hE ⟨fun _=>⟨_,hx,fun hp=>h1 _ hx (decide_eq_true hp),fun hp=>⟨by omega,h2 _ hx (decide_eq_false hp)⟩⟩,fun h=>by omega⟩
 · exact f115W0 l v _ (rv:=idxV l v) hE ⟨fun h=>by omega,fun _=>h2⟩
def maxF:Int→List Int→Int
 | m,[]=>m
 | m,x :: l=>maxF (iMax m x) l
def maxI (l:List Int):Int:=maxF (l.getD 0 0) (l.drop 1)
def minF:Int→List Int→Int
 | m,[]=>m
 | m,x :: l=>minF (iMin m x) l
def minI (l:List Int):Int:=minF (l.getD 0 0) (l.drop 1)
theorem max_ok (l:List Int) (h:0<l.length∧l.length≤1000000):Pure Try.prog 90 [.rsl (rowI l) 0 l.length] (.int .i64 (maxI l)):=Qv Try.func90 f90b fun E hE=>by
 have key:∀ (d i:Nat) (m:Int),i+d=l.length→maxI l=maxF m (l.drop i)→f90G0 E l m i:=by
  intro d
  induction d with
  | zero =>
   intro i m hd hm
   rw [List.drop_eq_nil_of_le (by omega),maxF] at hm
   exact f90W0 l m i (rv:=maxI l) hE ⟨fun h=>by omega,fun _=>hm⟩
  | succ d ih =>
   intro i m hd hm
   have hi:l[i]?=some l[i]:=List.getElem?_eq_getElem (by omega)
   rw [List.drop_eq_getElem_cons (by omega),maxF] at hm
   exact f90W0 l m i (rv:=maxI l) hE ⟨fun _=>⟨_,hi,by omega,ih (i+1) _ (by omega) hm⟩,fun h=>by omega⟩
 have h0:l[0]?=some l[0]:=List.getElem?_eq_getElem h.1
 exact f90W l (rv:=maxI l) hE ⟨fun h'=>by omega,fun _=>⟨_,h0,key (l.length - 1) 1 _ (by omega) (by simp [maxI,List.getD,h0])⟩⟩
theorem min_ok (l:List Int) (h:0<l.length∧l.length≤1000000):Pure Try.prog 116 [.rsl (rowI l) 0 l.length] (.int .i64 (minI l)):=Qv Try.func116 f116b fun E hE=>by
 have key:∀ (d i:Nat) (m:Int),i+d=l.length→minI l=minF m (l.drop i)→f116G0 E l m i:=by
  intro d
  induction d with
  | zero =>
   intro i m hd hm
   rw [List.drop_eq_nil_of_le (by omega),minF] at hm
   exact f116W0 l m i (rv:=minI l) hE ⟨fun h=>by omega,fun _=>hm⟩
  | succ d ih =>
   intro i m hd hm
   have hi:l[i]?=some l[i]:=List.getElem?_eq_getElem (by omega)
   rw [List.drop_eq_getElem_cons (by omega),minF] at hm
   exact f116W0 l m i (rv:=minI l) hE ⟨fun _=>⟨_,hi,by omega,ih (i+1) _ (by omega) hm⟩,fun h=>by omega⟩
 have h0:l[0]?=some l[0]:=List.getElem?_eq_getElem h.1
 exact f116W l (rv:=minI l) hE ⟨fun h'=>by omega,fun _=>⟨_,h0,key (l.length - 1) 1 _ (by omega) (by simp [minI,List.getD,h0])⟩⟩
theorem f114b:Try.f114.body=some (Qd Try.prog 114):=by kernel_rfl
theorem u114 {a c k:List AV} {r:AV} (h:Pure Try.prog 114 (a++c++k) r):Qf Try.prog (.clos 114 a k) c r:=Qo Try.func114 (by kernel_rfl) f114b h
abbrev z114_1 (i:Int) (l:(List Int)) (pa:Int) (m:Mch) (oa:Int):List AV:=[.int .i64 i,.rsl (rowI l) 0 l.length,.rptr [.int .i64 pa] 0,.rptr [.rptr [.rsl (Qb m.s.stages) 0 m.s.stages.length,.rsl (rowI m.s.worth) 0 m.s.worth.length,.int .i64 m.s.price,.rsl (rowI m.meas) 0 m.meas.length,.rsl (rowI m.mult) 0 m.mult.length] 0] 0,.rptr [.int .i64 oa] 0]
theorem p114_start_0 (i:Int) (l:(List Int)) (m:Mch) (pa oa:Int) (se:Stg) {E:Env} {res:AV} (hE:Qe Try.prog 114 res E) (ho:AllP [0≤i∧i<(m.s.stages.length:Int),((Qb m.s.stages).drop ((0+(Int.toNat i)*3)+0)).take 1=[.int .i64 se.kind],(se.kind == 3)=true,(oa == 2)=true,Qf Try.prog (.clos 90 [] []) [.rsl (rowI l) 0 l.length] (.int .i64 (maxI l)),Qf Try.prog (.clos 115 [] []) [.rsl (rowI l) 0 l.length,.int .i64 (maxI l)] (.int .i64 (idxV l (maxI l)))])
 (hr:AvLe (.int .i64 (idxV l (maxI l))) res):G Try.prog E [.code (Qd Try.prog 114)] ⟨(z114_1 i l pa m oa)++unds (Try.f114.ntmps - 5),[]⟩ :=
 Qc (n:=400) (evs:=[.auto,.auto,.auto,.ld (.int .i64 se.kind),.b true,.b true,.v (.int .i64 (maxI l)),.v (.int .i64 (idxV l (maxI l)))]) (obs:=_) hE Try.func114 Qh (by kernel_rfl) ho hr
theorem p114_start_1 (i:Int) (l:(List Int)) (m:Mch) (pa oa:Int) (se:Stg) {E:Env} {res:AV} (hE:Qe Try.prog 114 res E) (ho:AllP [0≤i∧i<(m.s.stages.length:Int),((Qb m.s.stages).drop ((0+(Int.toNat i)*3)+0)).take 1=[.int .i64 se.kind],(se.kind == 3)=true,(oa == 2)=false,Qf Try.prog (.clos 116 [] []) [.rsl (rowI l) 0 l.length] (.int .i64 (minI l)),Qf Try.prog (.clos 115 [] []) [.rsl (rowI l) 0 l.length,.int .i64 (minI l)] (.int .i64 (idxV l (minI l)))])
 (hr:AvLe (.int .i64 (idxV l (minI l))) res):G Try.prog E [.code (Qd Try.prog 114)] ⟨(z114_1 i l pa m oa)++unds (Try.f114.ntmps - 5),[]⟩ :=
 Qc (n:=400) (evs:=[.auto,.auto,.auto,.ld (.int .i64 se.kind),.b true,.b false,.v (.int .i64 (minI l)),.v (.int .i64 (idxV l (minI l)))]) (obs:=_) hE Try.func114 Qh (by kernel_rfl) ho hr
theorem p114_start_2 (i:Int) (l:(List Int)) (m:Mch) (pa oa:Int) (se:Stg) {E:Env} {res:AV} (hE:Qe Try.prog 114 res E) (ho:AllP [0≤i∧i<(m.s.stages.length:Int),((Qb m.s.stages).drop ((0+(Int.toNat i)*3)+0)).take 1=[.int .i64 se.kind],(se.kind == 3)=false,(pa == 2)=true,Qf Try.prog (.clos 90 [] []) [.rsl (rowI l) 0 l.length] (.int .i64 (maxI l)),Qf Try.prog (.clos 115 [] []) [.rsl (rowI l) 0 l.length,.int .i64 (maxI l)] (.int .i64 (idxV l (maxI l)))])
 (hr:AvLe (.int .i64 (idxV l (maxI l))) res):G Try.prog E [.code (Qd Try.prog 114)] ⟨(z114_1 i l pa m oa)++unds (Try.f114.ntmps - 5),[]⟩ :=
 Qc (n:=400) (evs:=[.auto,.auto,.auto,.ld (.int .i64 se.kind),.b false,.b true,.v (.int .i64 (maxI l)),.v (.int .i64 (idxV l (maxI l)))]) (obs:=_) hE Try.func114 Qh (by kernel_rfl) ho hr
theorem p114_start_3 (i:Int) (l:(List Int)) (m:Mch) (pa oa:Int) (se:Stg) {E:Env} {res:AV} (hE:Qe Try.prog 114 res E) (ho:AllP [0≤i∧i<(m.s.stages.length:Int),((Qb m.s.stages).drop ((0+(Int.toNat i)*3)+0)).take 1=[.int .i64 se.kind],(se.kind == 3)=false,(pa == 2)=false,Qf Try.prog (.clos 116 [] []) [.rsl (rowI l) 0 l.length] (.int .i64 (minI l)),Qf Try.prog (.clos 115 [] []) [.rsl (rowI l) 0 l.length,.int .i64 (minI l)] (.int .i64 (idxV l (minI l)))])
 (hr:AvLe (.int .i64 (idxV l (minI l))) res):G Try.prog E [.code (Qd Try.prog 114)] ⟨(z114_1 i l pa m oa)++unds (Try.f114.ntmps - 5),[]⟩ :=
 Qc (n:=400) (evs:=[.auto,.auto,.auto,.ld (.int .i64 se.kind),.b false,.b false,.v (.int .i64 (minI l)),.v (.int .i64 (idxV l (minI l)))]) (obs:=_) hE Try.func114 Qh (by kernel_rfl) ho hr
theorem f114W (i:Int) (l:(List Int)) (m:Mch) (pa oa:Int) {E:Env} {rv:Int} (hE:Qe Try.prog 114 (.int .i64 rv) E)
 (h:(0≤i∧(∃ se:Stg,m.s.stages[Int.toNat i]?=some se∧((se.kind=3→((oa=2→((0<l.length∧l.length≤1000000)∧((l.length≤1000000)∧rv=(idxV l (maxI l)))))∧(¬ (oa=2)→((0<l.length∧l.length≤1000000)∧((l.length≤1000000)∧rv=(idxV l (minI l)))))))∧(¬ (se.kind=3)→((pa=2→((0<l.length∧l.length≤1000000)∧((l.length≤1000000)∧rv=(idxV l (maxI l)))))∧(¬ (pa=2)→((0<l.length∧l.length≤1000000)∧((l.length≤1000000)∧rv=(idxV l (minI l))))))))))):G Try.prog E [.code (Qd Try.prog 114)] ⟨[.int .i64 i,.rsl (rowI l) 0 l.length,.rptr [.int .i64 pa] 0,.rptr [.rptr [.rsl (Qb m.s.stages) 0 m.s.stages.length,.rsl (rowI m.s.worth) 0 m.s.worth.length,.int .i64 m.s.price,.rsl (rowI m.meas) 0 m.meas.length,.rsl (rowI m.mult) 0 m.mult.length] 0] 0,.rptr [.int .i64 oa] 0]++unds (Try.f114.ntmps - 5),[]⟩:=by
 obtain ⟨h2,h⟩:=h
 obtain ⟨se,h1,h⟩:=h
 rcases bft (se.kind == 3) with hc0 | hc0
 · have h:=h.1 (eq_of_beq hc0)
   rcases bft (oa == 2) with hc1 | hc1
   · have h:=h.1 (eq_of_beq hc1)
     obtain ⟨h3,h⟩:=h
     obtain ⟨h4,h⟩:=h
     exact p114_start_0 i l m pa oa se hE ⟨(Qw h2 h1),(rp cStg 3 0 1 h1),hc0,hc1,(u90 (max_ok l h3)),(u115 (Wp l (maxI l) h4)),trivial⟩ (AvLe.of_eq (by rw [h]; try rfl))
   · have h:=h.2 (ne_of_beq_false hc1)
     obtain ⟨h3,h⟩:=h
     obtain ⟨h4,h⟩:=h
     exact p114_start_1 i l m pa oa se hE ⟨(Qw h2 h1),(rp cStg 3 0 1 h1),hc0,hc1,(u116 (min_ok l h3)),(u115 (Wp l (minI l) h4)),trivial⟩ (AvLe.of_eq (by rw [h]; try rfl))
 · have h:=h.2 (ne_of_beq_false hc0)
   rcases bft (pa == 2) with hc1 | hc1
   · have h:=h.1 (eq_of_beq hc1)
     obtain ⟨h3,h⟩:=h
     obtain ⟨h4,h⟩:=h
     exact p114_start_2 i l m pa oa se hE ⟨(Qw h2 h1),(rp cStg 3 0 1 h1),hc0,hc1,(u90 (max_ok l h3)),(u115 (Wp l (maxI l) h4)),trivial⟩ (AvLe.of_eq (by rw [h]; try rfl))
   · have h:=h.2 (ne_of_beq_false hc1)
     obtain ⟨h3,h⟩:=h
     obtain ⟨h4,h⟩:=h
     exact p114_start_3 i l m pa oa se hE ⟨(Qw h2 h1),(rp cStg 3 0 1 h1),hc0,hc1,(u116 (min_ok l h3)),(u115 (Wp l (minI l) h4)),trivial⟩ (AvLe.of_eq (by rw [h]; try rfl))
def Qt (m:Mch) (pa oa i:Int) (l:List Int):Int:=if (if (m.s.stages.getD (Int.toNat i) ⟨0,0,[]⟩).kind=3 then oa else pa)=2 then idxV l (maxI l) else idxV l (minI l)
theorem choose_ok (i:Int) (l:List Int) (m:Mch) (pa oa:Int) (h:(0≤i∧Int.toNat i<m.s.stages.length)∧0<l.length∧l.length≤1000000):Pure Try.prog 114 [.int .i64 i,.rsl (rowI l) 0 l.length,.rptr [.int .i64 pa] 0,.rptr [.rptr (cMch m) 0] 0,.rptr [.int .i64 oa] 0] (.int .i64 (Qt m pa oa i l)):=Qv Try.func114 f114b fun E hE=>by
 have hg:m.s.stages[Int.toNat i]?=some m.s.stages[Int.toNat i]:=List.getElem?_eq_getElem h.1.2
 have hx:m.s.stages.getD (Int.toNat i) ⟨0,0,[]⟩=m.s.stages[Int.toNat i]:=by simp [List.getD,hg]
 refine f114W i l m pa oa (rv:=Qt m pa oa i l) hE ⟨h.1.1,_,hg,fun h1=>⟨fun h2=>⟨h.2,h.2.2,?_⟩,fun h2=>⟨h.2,h.2.2,?_⟩⟩,fun h1=>⟨fun h2=>⟨h.2,h.2.2,?_⟩,fun h2=>⟨h.2,h.2.2,?_⟩⟩⟩
 · rw [Qt,hx,if_pos h1,if_pos h2]
 · rw [Qt,hx,if_pos h1,if_neg h2]
 · rw [Qt,hx,if_neg h1,if_pos h2]
 · rw [Qt,hx,if_neg h1,if_neg h2]
theorem f76b:Try.f76.body=some (Qd Try.prog 76):=by kernel_rfl
theorem u76 {a c k:List AV} {r:AV} (h:Pure Try.prog 76 (a++c++k) r):Qf Try.prog (.clos 76 a k) c r:=Qo Try.func76 (by kernel_rfl) f76b h
theorem p76_start_0 (k:Int) {E:Env} {res:AV} (hE:Qe Try.prog 76 res E) (ho:AllP [])
 (hr:AvLe (.clos 113 [] [.rptr [.int .i64 k] 0]) res):G Try.prog E [.code (Qd Try.prog 76)] ⟨[.int .i64 k]++unds (Try.f76.ntmps - 1),[]⟩ :=
 Qc (n:=400) (evs:=[]) (obs:=_) hE Try.func76 Qh (by kernel_rfl) ho hr
theorem f76W (k:Int) {E:Env} {rv:AV} (hE:Qe Try.prog 76 rv E)
 (h:rv=(.clos 113 [] [.rptr [.int .i64 k] 0])):G Try.prog E [.code (Qd Try.prog 76)] ⟨[.int .i64 k]++unds (Try.f76.ntmps - 1),[]⟩:=by
 exact p76_start_0 k hE trivial (AvLe.of_eq (by rw [h]; try rfl))
theorem f77b:Try.f77.body=some (Qd Try.prog 77):=by kernel_rfl
theorem u77 {a c k:List AV} {r:AV} (h:Pure Try.prog 77 (a++c++k) r):Qf Try.prog (.clos 77 a k) c r:=Qo Try.func77 (by kernel_rfl) f77b h
abbrev z77_1 (m:Mch):List AV:=[.rsl (Qb m.s.stages) 0 m.s.stages.length,.rsl (rowI m.s.worth) 0 m.s.worth.length,.int .i64 m.s.price,.rsl (rowI m.meas) 0 m.meas.length,.rsl (rowI m.mult) 0 m.mult.length]
theorem p77_start_0 (pa:Int) (oa:Int) (m:Mch) {E:Env} {res:AV} (hE:Qe Try.prog 77 res E) (ho:AllP [])
 (hr:AvLe (.clos 114 [] [.rptr [.int .i64 pa] 0,.rptr [.rptr (z77_1 m) 0] 0,.rptr [.int .i64 oa] 0]) res):G Try.prog E [.code (Qd Try.prog 77)] ⟨[.rptr (z77_1 m) 0,.int .i64 pa,.int .i64 oa]++unds (Try.f77.ntmps - 3),[]⟩ :=
 Qc (n:=400) (evs:=[]) (obs:=_) hE Try.func77 Qh (by kernel_rfl) ho hr
theorem f77W (pa:Int) (oa:Int) (m:Mch) {E:Env} {rv:AV} (hE:Qe Try.prog 77 rv E)
 (h:rv=(.clos 114 [] [.rptr [.int .i64 pa] 0,.rptr [.rptr [.rsl (Qb m.s.stages) 0 m.s.stages.length,.rsl (rowI m.s.worth) 0 m.s.worth.length,.int .i64 m.s.price,.rsl (rowI m.meas) 0 m.meas.length,.rsl (rowI m.mult) 0 m.mult.length] 0] 0,.rptr [.int .i64 oa] 0])):G Try.prog E [.code (Qd Try.prog 77)] ⟨[.rptr [.rsl (Qb m.s.stages) 0 m.s.stages.length,.rsl (rowI m.s.worth) 0 m.s.worth.length,.int .i64 m.s.price,.rsl (rowI m.meas) 0 m.meas.length,.rsl (rowI m.mult) 0 m.mult.length] 0,.int .i64 pa,.int .i64 oa]++unds (Try.f77.ntmps - 3),[]⟩:=by
 exact p77_start_0 pa oa m hE trivial (AvLe.of_eq (by rw [h]; try rfl))
theorem mkonly_ok (k:Int):Pure Try.prog 76 [.int .i64 k] (.clos 113 [] [.rptr [.int .i64 k] 0]):=Qv Try.func76 f76b fun E hE=>f76W k hE rfl
theorem mkaims_ok (m:Mch) (pa oa:Int):Pure Try.prog 77 [.rptr (cMch m) 0,.int .i64 pa,.int .i64 oa] (.clos 114 [] [.rptr [.int .i64 pa] 0,.rptr [.rptr (cMch m) 0] 0,.rptr [.int .i64 oa] 0]):=Qv Try.func77 f77b fun E hE=>f77W pa oa m hE rfl
end Go.Proofs.Ytfgmlaeikcfpbaa
namespace Go.Proofs.Ytfgmlaeikcfpbaa
open Go Ax
open Go.Proofs
/-! ### What is so of a machine -/
structure MInv (s:Stl) (i:Nat) (me mu:List Int):Prop where
 l1:me.length=s.stages.length
 l2:mu.length=s.stages.length
 pos:∀ (j:Nat) (v:Int),i≤j→me[j]?=some v→0<v∧v≤1000000000000
 rel:∀ (j:Nat) (x:Stg),i≤j→s.stages[j]?=some x→∃ q,mu[j]?=some q∧me[j]?=some (if x.kind=1 then q*totI x else q)∧(0<q∧q≤1000000000000)∧∀ t ∈ x.turns,me.getD (Int.toNat t.to) 0∣q
theorem getD_set_ne {l:List Int} {i k:Nat} {v:Int} (h:i ≠ k):(l.set i v).getD k 0=l.getD k 0:=by
 simp [List.getD,List.getElem?_set_ne h]
theorem multI_dvd {me:List Int}:∀ {l:List Trn} {m q:Int},(∀ t ∈ l,0<me.getD (Int.toNat t.to) 0)→(0<m∧m≤1000000000000)→Yu me m l=some q→(0<q∧q≤1000000000000)∧m∣q∧∀ t ∈ l,me.getD (Int.toNat t.to) 0∣q
 | [],m,q,_,hm,h=>by
  simp only [Yu,Option.some.injEq] at h; subst h
  exact ⟨hm,Int.dvd_refl _,by simp⟩
 | t :: l,m,q,hp,hm,h=>by
  simp only [Yu] at h
  split at h
  · cases h
  · rename_i h1
    have hv:=hp t (by simp)
    have lp:=yw hm.1 hv
    obtain ⟨a,b,c⟩:=multI_dvd (fun t ht=>hp t (by simp [ht])) ⟨lp,by omega⟩ h
    have e1:m∣lcmI m (me.getD (Int.toNat t.to) 0):=⟨_,rfl⟩
    have e2:me.getD (Int.toNat t.to) 0∣lcmI m (me.getD (Int.toNat t.to) 0):=⟨Int.tdiv m (gcdI m (me.getD (Int.toNat t.to) 0)),by rw [lcmI,← (lcm_eq hm.1 hv).1,Int.mul_comm]⟩
    refine ⟨a,Int.dvd_trans e1 b,fun t' ht'=>?_⟩
    rcases List.mem_cons.1 ht' with rfl | ht'
    · exact Int.dvd_trans e2 b
    · exact c t' ht'
theorem Wh {s:Stl} {i:Nat} {x:Stg} (hi:s.stages[i]?=some x) (hf:QN s i=true):∀ t ∈ x.turns,i<Int.toNat t.to∧Int.toNat t.to<s.stages.length∧0≤t.to:=fun t htm=>by
 rcases YU hi hf with ⟨-,h2,-⟩ | ⟨-,-,-,h4,-,-⟩
 · rw [h2] at htm; simp at htm
 · have:=h4 t htm; omega
theorem minv_step {s:Stl} {i:Nat} {x:Stg} {me mu:List Int} (hform:∀ j,j<s.stages.length→QN s j=true) (hi:s.stages[i]?=some x) (h:MInv s (i+1) me mu) (hk:(QF x i me mu).1=true) :
 MInv s i (QF x i me mu).2.1 (QF x i me mu).2.2:=by
 have hlt:=(List.getElem?_eq_some_iff.1 hi).1
 have hf:=hform i hlt
 obtain ⟨a,b,c⟩:=WK (mu:=mu) hi hf ⟨h.l1,fun j v hj=>h.pos j v hj⟩ hk
 have hto:=Wh hi hf
 have hpos:∀ t ∈ x.turns,0<me.getD (Int.toNat t.to) 0:=fun t ht=>by
  have h1:=hto t ht
  have hg:me[Int.toNat t.to]?=some (me[Int.toNat t.to]'(by rw [h.l1]; exact h1.2.1)):=List.getElem?_eq_getElem _
  have:=(h.pos _ _ (by omega) hg).1
  simpa [List.getD,hg] using this
 refine ⟨a,by rw [b,h.l2],fun j v hj=>c j v hj,?_⟩
 cases hm:Yu me 1 x.turns with
 | none=>simp [QF,hm] at hk
 | some m =>
  obtain ⟨m1,-,m3⟩:=multI_dvd hpos (by omega) hm
  have hto2:=qC hi hf
  have fin:∀ w:Int,w=(if x.kind=1 then m*totI x else m)→∀ (j:Nat) (y:Stg),i≤j→s.stages[j]?=some y→∃ q,(mu.set i m)[j]?=some q∧(me.set i w)[j]?=some (if y.kind=1 then q*totI y else q)∧(0<q∧q≤1000000000000)∧∀ t ∈ y.turns,(me.set i w).getD (Int.toNat t.to) 0∣q:=fun w hw j y hj hy=>by
   by_cases e:i=j
   · subst e
     rw [hi] at hy; cases hy
     refine ⟨m,by rw [List.getElem?_set_self (by rw [h.l2]; exact hlt)],by rw [List.getElem?_set_self (by rw [h.l1]; exact hlt),hw],m1,fun t ht=>?_⟩
     rw [getD_set_ne (by have:=hto t ht; omega)]
     exact m3 t ht
   · obtain ⟨q,q1,q2,q3,q4⟩:=h.rel j y (by omega) hy
     refine ⟨q,by rw [List.getElem?_set_ne e]; exact q1,by rw [List.getElem?_set_ne e]; exact q2,q3,fun t ht=>?_⟩
     have:=Wh hy (hform j (List.getElem?_eq_some_iff.1 hy).1) t ht
     rw [getD_set_ne (by omega)]
     exact q4 t ht
  simp only [QF,hm] at hk ⊢
  by_cases hk1:x.kind=1
  · simp only [if_pos hk1] at hk ⊢
    refine fin _ ?_
    rcases prod_of (a:=m) (b:=totI x) (by omega) (hto2.2 hk1).1 with ⟨h1,-⟩ | ⟨h1,-⟩
    · rw [h1] at hk; cases hk
    · rw [h1,if_pos hk1]
  · simp only [if_neg hk1] at hk ⊢
    exact fin _ (by rw [if_neg hk1])
theorem minv_all {s:Stl} (hform:∀ j,j<s.stages.length→QN s j=true):∀ {n:Nat} {me mu:List Int} {r:List Int × List Int},n≤s.stages.length→MInv s n me mu→qr s n me mu=some r→MInv s 0 r.1 r.2
 | 0,me,mu,r,_,h,hr=>by simp only [qr,Option.some.injEq] at hr; subst hr; exact h
 | i+1,me,mu,r,hn,h,hr=>by
  have hi:s.stages[i]?=some s.stages[i]:=List.getElem?_eq_getElem (by omega)
  have hx:s.stages.getD i ⟨0,0,[]⟩=s.stages[i]:=by simp [List.getD,hi]
  simp only [qr,hx] at hr
  split at hr
  · rename_i hk
    exact minv_all hform (by omega) (minv_step hform hi h hk) hr
  · cases hr
structure MOk (m:Mch):Prop where
 st:Ye m.s=true
 inv:MInv m.s 0 m.meas m.mult
theorem mok_of {s:Stl} {m:Mch} (h:Xz s=some m):MOk m∧m.s=s:=by
 unfold Xz at h
 split at h
 · rename_i hp
   obtain ⟨r,hr,e⟩:=Option.map_eq_some_iff.1 h
   subst e
   refine ⟨⟨hp,?_⟩,rfl⟩
   refine minv_all (Xx hp).2.2.2.2 (Nat.le_refl _) ⟨by simp [XB],by simp [XB],fun j v hj hv=>?_,fun j x hj hx=>?_⟩ hr
   · have:=(List.getElem?_eq_some_iff.1 hv).1
     simp [XB] at this; omega
   · have:=(List.getElem?_eq_some_iff.1 hx).1; omega
 · cases h
/-! ### Worths,stage by stage -/
def XL (m:Mch) (i:Nat) (vals:List Int) (ts:List Trn):List Int:=ts.map fun t=>vals.getD (Int.toNat t.to) 0*Int.tdiv (m.mult.getD i 0) (m.meas.getD (Int.toNat t.to) 0)
def sumW:List Trn→List Int→Int
 | t :: ts,e :: es=>t.w*e+sumW ts es
 | _,_=>0
def Vq (m:Mch) (w:Int→Int) (ch:Int→List Int→Int) (i:Nat) (p:List Int × List Int):List Int × List Int :=
 if (m.s.stages.getD i ⟨0,0,[]⟩).kind=4 then (if (m.s.stages.getD i ⟨0,0,[]⟩).prize≥0 then (p.1.set i (w (m.s.stages.getD i ⟨0,0,[]⟩).prize),p.2) else p)
 else if (m.s.stages.getD i ⟨0,0,[]⟩).kind=1 then (p.1.set i (p.1.getD i 0+sumW (m.s.stages.getD i ⟨0,0,[]⟩).turns (XL m i p.1 (m.s.stages.getD i ⟨0,0,[]⟩).turns)),p.2)
 else (p.1.set i ((XL m i p.1 (m.s.stages.getD i ⟨0,0,[]⟩).turns).getD (Int.toNat (ch i (XL m i p.1 (m.s.stages.getD i ⟨0,0,[]⟩).turns))) 0),p.2.set i (ch i (XL m i p.1 (m.s.stages.getD i ⟨0,0,[]⟩).turns)))
def valN (m:Mch) (w:Int→Int) (ch:Int→List Int→Int):Nat→List Int × List Int→List Int × List Int
 | 0,p=>p
 | i+1,p=>valN m w ch i (Vq m w ch i p)
def valA (m:Mch) (w:Int→Int) (ch:Int→List Int→Int):List Int × List Int:=valN m w ch m.s.stages.length (XB m.s.stages.length,XB m.s.stages.length)
structure VOk (m:Mch) (i:Nat) (p:List Int × List Int):Prop where
 l1:p.1.length=m.s.stages.length
 l2:p.2.length=m.s.stages.length
 lo:∀ j,j<i→p.1.getD j 0=0
 hi:∀ j u,i≤j→m.meas[j]?=some u→0≤p.1.getD j 0∧p.1.getD j 0≤10000*u
 c0:∀ j,j<i→p.2.getD j 0=0
/-- What is won has a worth that is not too great,and who chooses names a turn. -/
structure WOk (m:Mch) (w:Int→Int) (ch:Int→List Int→Int):Prop where
 w1:∀ n:Int,0≤n→n≤(m.s.worth.length:Int) - 1→0≤w n∧w n≤10000
 c1:∀ (i:Nat) (x:Stg) (l:List Int),m.s.stages[i]?=some x→x.kind ≠ 4→x.kind ≠ 1→l.length=x.turns.length→0<l.length→0≤ch i l∧Int.toNat (ch i l)<l.length
theorem sumW_bd:∀ {ts:List Trn} {es:List Int} {B:Int},(∀ e ∈ es,0≤e∧e≤B)→(∀ t ∈ ts,0≤t.w)→ts.length=es.length→0≤sumW ts es∧sumW ts es≤B*(ts.map (·.w)).sum
 | [],es,B,_,_,_=>by simp [sumW]
 | t :: ts,[],B,_,_,h=>by simp at h
 | t :: ts,e :: es,B,he,ht,hl=>by
  have h1:=he e (by simp)
  have h2:=ht t (by simp)
  have ih:=sumW_bd (ts:=ts) (es:=es) (B:=B) (fun x hx=>he x (by simp [hx])) (fun x hx=>ht x (by simp [hx])) (by simpa using hl)
  have h3:=Int.mul_nonneg h2 h1.1
  have h4:=Int.mul_le_mul_of_nonneg_left h1.2 h2
  have h5:B*(t.w+(ts.map (·.w)).sum)=t.w*B+B*(ts.map (·.w)).sum:=by rw [Int.mul_add,Int.mul_comm B]
  simp only [sumW,List.map_cons,List.sum_cons,h5]
  omega
theorem next_bd {m:Mch} (hm:MOk m) {i:Nat} {x:Stg} {p:List Int × List Int} (hi:m.s.stages[i]?=some x) (hp:VOk m (i+1) p) {t:Trn} (ht:t ∈ x.turns) :
 ∃ q u,m.mult[i]?=some q∧m.meas[Int.toNat t.to]?=some u∧(0<q∧q≤1000000000000)∧(0<u∧u≤1000000000000)∧Int.tdiv q u*u=q∧0≤Int.tdiv q u∧Int.tdiv q u≤q ∧
  0≤p.1.getD (Int.toNat t.to) 0*Int.tdiv q u∧p.1.getD (Int.toNat t.to) 0*Int.tdiv q u≤10000*q:=by
 have hform:=(Xx hm.st).2.2.2.2
 have hto:=Wh hi (hform i (List.getElem?_eq_some_iff.1 hi).1) t ht
 obtain ⟨q,q1,q2,q3,q4⟩:=hm.inv.rel i x (by omega) hi
 have hg:m.meas[Int.toNat t.to]?=some (m.meas[Int.toNat t.to]'(by rw [hm.inv.l1]; exact hto.2.1)):=List.getElem?_eq_getElem _
 have hd:=q4 t ht
 have hb:=hm.inv.pos _ _ (by omega) hg
 have hv:=hp.hi _ _ (by omega) hg
 rw [show m.meas.getD (Int.toNat t.to) 0=m.meas[Int.toNat t.to]'(by rw [hm.inv.l1]; exact hto.2.1) by simp [List.getD,hg]] at hd
 generalize m.meas[Int.toNat t.to]'(by rw [hm.inv.l1]; exact hto.2.1)=u at hg hd hb hv
 generalize p.1.getD (Int.toNat t.to) 0=v at hv ⊢
 have e1:Int.tdiv q u=q / u:=Int.tdiv_eq_ediv_of_nonneg (by omega)
 have e2:=Int.ediv_le_self u (show (0:Int)≤q by omega)
 have e3:=Int.ediv_nonneg (show (0:Int)≤q by omega) (show 0≤u by omega)
 have e4:Int.tdiv q u*u=q:=by rw [e1]; exact Int.ediv_mul_cancel hd
 refine ⟨q,u,q1,hg,q3,hb,e4,by omega,by omega,Int.mul_nonneg hv.1 (by omega),?_⟩
 have h1:=Int.mul_le_mul_of_nonneg_right hv.2 (show 0≤Int.tdiv q u by omega)
 have h2:10000*u*Int.tdiv q u=10000*q:=by rw [Int.mul_assoc,Int.mul_comm u,e4]
 omega
theorem yr {m:Mch} (hm:MOk m) {i:Nat} {x:Stg} {p:List Int × List Int} (hi:m.s.stages[i]?=some x) (hp:VOk m (i+1) p) {q:Int} (hq:m.mult[i]?=some q):∀ e ∈ XL m i p.1 x.turns,0≤e∧e≤10000*q:=fun e he=>by
 obtain ⟨t,ht,rfl⟩:=List.mem_map.1 he
 obtain ⟨q',u,h1,h2,h3,h4,h5,h6,h7,h8,h9⟩:=next_bd hm hi hp ht
 rw [hq] at h1; cases h1
 rw [show m.mult.getD i 0=q by simp [List.getD,hq],show m.meas.getD (Int.toNat t.to) 0=u by simp [List.getD,h2]]
 exact ⟨h8,h9⟩
theorem sum_bd {m:Mch} (hm:MOk m) {i:Nat} {x:Stg} {p:List Int × List Int} (hi:m.s.stages[i]?=some x) (hp:VOk m (i+1) p) (hk:x.kind=1) {u:Int} (hu:m.meas[i]?=some u) :
 0≤sumW x.turns (XL m i p.1 x.turns)∧sumW x.turns (XL m i p.1 x.turns)≤10000*u:=by
 have hform:=(Xx hm.st).2.2.2.2
 have hto:=(qC hi (hform i (List.getElem?_eq_some_iff.1 hi).1)).1.2
 obtain ⟨q,q1,q2,q3,q4⟩:=hm.inv.rel i x (by omega) hi
 rw [hu,if_pos hk] at q2; cases q2
 have:=sumW_bd (yr hm hi hp q1) (fun t ht=>(hto t ht).1) (by simp [XL])
 rw [Int.mul_assoc] at this
 exact this
theorem yA {l:List Int} {i:Nat} {v:Int} (h:i<l.length):(l.set i v).getD i 0=v:=by simp [List.getD,List.getElem?_set_self h]
theorem vok_set {m:Mch} {i:Nat} {p:List Int × List Int} {v c:Int} (hlt:i<m.s.stages.length) (hp:VOk m (i+1) p) (h:∀ u,m.meas[i]?=some u→0≤v∧v≤10000*u):VOk m i (p.1.set i v,p.2.set i c)∧VOk m i (p.1.set i v,p.2):=by
 have hi:∀ j u,i≤j→m.meas[j]?=some u→0≤(p.1.set i v).getD j 0∧(p.1.set i v).getD j 0≤10000*u:=fun j u hj hu=>by
  by_cases e:i=j
  · subst e; rw [yA (by rw [hp.l1]; exact hlt)]; exact h u hu
  · rw [getD_set_ne e]; exact hp.hi j u (by omega) hu
 have lo:∀ j,j<i→(p.1.set i v).getD j 0=0:=fun j hj=>by rw [getD_set_ne (by omega)]; exact hp.lo j (by omega)
 exact ⟨⟨by simp [hp.l1],by simp [hp.l2],lo,hi,fun j hj=>by rw [getD_set_ne (by omega)]; exact hp.c0 j (by omega)⟩,⟨by simp [hp.l1],hp.l2,lo,hi,fun j hj=>hp.c0 j (by omega)⟩⟩
theorem vok_same {m:Mch} (hm:MOk m) {i:Nat} {p:List Int × List Int} (hp:VOk m (i+1) p):VOk m i p:=by
 refine ⟨hp.l1,hp.l2,fun j hj=>hp.lo j (by omega),fun j u hj hu=>?_,fun j hj=>hp.c0 j (by omega)⟩
 by_cases e:i=j
 · subst e
   rw [hp.lo i (by omega)]
   have:=(hm.inv.pos i u (by omega) hu).1
   omega
 · exact hp.hi j u (by omega) hu
theorem val_step {m:Mch} (hm:MOk m) {w:Int→Int} {ch:Int→List Int→Int} (hw:WOk m w ch) {i:Nat} {p:List Int × List Int} (hlt:i<m.s.stages.length) (hp:VOk m (i+1) p):VOk m i (Vq m w ch i p):=by
 have hform:=(Xx hm.st).2.2.2.2
 have hi:m.s.stages[i]?=some m.s.stages[i]:=List.getElem?_eq_getElem hlt
 have hx:m.s.stages.getD i ⟨0,0,[]⟩=m.s.stages[i]:=by simp [List.getD,hi]
 unfold Vq
 rw [hx]
 have hfo:=YU hi (hform i hlt)
 generalize m.s.stages[i]=x at hi hx hfo
 split
 · rename_i h4
   split
   · rename_i hpr
     rcases hfo with ⟨-,-,h3⟩ | ⟨h1,-⟩
     · refine (vok_set (c:=0) hlt hp fun u hu=>?_).2
       have h1:=hw.w1 x.prize hpr h3.2
       have h2:=(hm.inv.pos i u (by omega) hu).1
       omega
     · omega
   · exact vok_same hm hp
 · rename_i h4
   split
   · rename_i h1
     refine (vok_set (c:=0) hlt hp fun u hu=>?_).2
     have:=sum_bd hm hi hp h1 hu
     rw [hp.lo i (by omega)]
     omega
   · rename_i h1
     refine (vok_set hlt hp fun u hu=>?_).1
     obtain ⟨q,q1,q2,q3,q4⟩:=hm.inv.rel i x (by omega) hi
     rw [hu,if_neg h1] at q2; cases q2
     have hl:(XL m i p.1 x.turns).length=x.turns.length:=by simp [XL]
     have hpos:0<(XL m i p.1 x.turns).length:=by
      rcases hfo with ⟨h,-⟩ | ⟨-,-,h,-⟩
      · exact absurd h h4
      · omega
     have hc:=hw.c1 i x _ hi h4 h1 hl hpos
     generalize ch i (XL m i p.1 x.turns)=c at hc
     have hg:(XL m i p.1 x.turns)[Int.toNat c]?=some (XL m i p.1 x.turns)[Int.toNat c]:=List.getElem?_eq_getElem hc.2
     have:=yr hm hi hp q1 _ (List.mem_of_getElem? hg)
     simpa [List.getD,hg] using this
theorem val_ok0 {m:Mch} (hm:MOk m):VOk m m.s.stages.length (XB m.s.stages.length,XB m.s.stages.length):=by
 have hz:∀ j,(XB m.s.stages.length).getD j 0=0:=fun j=>by
  simp only [XB,List.getD,List.getElem?_replicate]
  split <;> rfl
 refine ⟨by simp [XB],by simp [XB],fun j _=>hz j,fun j u hj hu=>?_,fun j _=>hz j⟩
 have:=(List.getElem?_eq_some_iff.1 hu).1
 rw [hm.inv.l1] at this; omega
theorem val_okN {m:Mch} (hm:MOk m) {w:Int→Int} {ch:Int→List Int→Int} (hw:WOk m w ch):∀ {n:Nat} {p:List Int × List Int},n≤m.s.stages.length→VOk m n p→VOk m 0 (valN m w ch n p)
 | 0,p,_,h=>h
 | i+1,p,hn,h=>(val_okN hm hw (n:=i) (by omega) (val_step hm hw (by omega) h):VOk m 0 (valN m w ch i (Vq m w ch i p)))
theorem val_okA {m:Mch} (hm:MOk m) {w:Int→Int} {ch:Int→List Int→Int} (hw:WOk m w ch):VOk m 0 (valA m w ch):=val_okN hm hw (Nat.le_refl _) (val_ok0 hm)
/-! ### Choosers -/
theorem idxV_mem {l:List Int} {v:Int} (h:v ∈ l):0≤idxV l v∧Int.toNat (idxV l v)<l.length∧l[Int.toNat (idxV l v)]?=some v∧∀ j e,j<Int.toNat (idxV l v)→l[j]?=some e→e ≠ v:=by
 unfold idxV idxG
 cases hf:l.findIdx? (fun e=>decide (v=e)) with
 | none =>
  have:=List.findIdx?_eq_none_iff.1 hf v h
  simp at this
 | some k =>
  obtain ⟨h1,h2,h3⟩:=List.findIdx?_eq_some_iff_getElem.1 hf
  simp only [Int.toNat_natCast]
  refine ⟨by omega,h1,?_,fun j e hj he=>?_⟩
  · rw [List.getElem?_eq_getElem h1]
    have:=of_decide_eq_true h2
    rw [this]
  · obtain ⟨h4,h5⟩:=List.getElem?_eq_some_iff.1 he
    have:=h3 j hj
    rw [h5] at this
    intro h6
    simp [h6] at this
theorem maxF_mem:∀ {l:List Int} {m:Int},(maxF m l=m ∨ maxF m l ∈ l)∧m≤maxF m l∧∀ e ∈ l,e≤maxF m l
 | [],m=>by simp [maxF]
 | x :: l,m=>by
  obtain ⟨h1,h2,h3⟩:=maxF_mem (l:=l) (m:=iMax m x)
  have hm:iMax m x=if x > m then x else m:=rfl
  simp only [maxF]
  refine ⟨?_,by split at hm <;> omega,fun e he=>?_⟩
  · rcases h1 with h1 | h1
    · split at hm
      · right; rw [h1,hm]; simp
      · left; rw [h1,hm]
    · right; exact List.mem_cons_of_mem _ h1
  · rcases List.mem_cons.1 he with rfl | he
    · split at hm <;> omega
    · exact h3 e he
theorem minF_mem:∀ {l:List Int} {m:Int},(minF m l=m ∨ minF m l ∈ l)∧minF m l≤m∧∀ e ∈ l,minF m l≤e
 | [],m=>by simp [minF]
 | x :: l,m=>by
  obtain ⟨h1,h2,h3⟩:=minF_mem (l:=l) (m:=iMin m x)
  have hm:iMin m x=if x<m then x else m:=rfl
  simp only [minF]
  refine ⟨?_,by split at hm <;> omega,fun e he=>?_⟩
  · rcases h1 with h1 | h1
    · split at hm
      · right; rw [h1,hm]; simp
      · left; rw [h1,hm]
    · right; exact List.mem_cons_of_mem _ h1
  · rcases List.mem_cons.1 he with rfl | he
    · split at hm <;> omega
    · exact h3 e he
theorem Wn {l:List Int} (h:0<l.length):maxI l ∈ l∧∀ e ∈ l,e≤maxI l:=by
 cases l with
 | nil=>simp at h
 | cons x l =>
  obtain ⟨h1,h2,h3⟩:=maxF_mem (l:=l) (m:=x)
  simp only [maxI,List.getD,List.getElem?_cons_zero,Option.getD_some,List.drop_succ_cons,List.drop_zero]
  refine ⟨?_,fun e he=>?_⟩
  · rcases h1 with h1 | h1
    · rw [h1]; simp
    · exact List.mem_cons_of_mem _ h1
  · rcases List.mem_cons.1 he with rfl | he
    · exact h2
    · exact h3 e he
theorem minI_mem {l:List Int} (h:0<l.length):minI l ∈ l∧∀ e ∈ l,minI l≤e:=by
 cases l with
 | nil=>simp at h
 | cons x l =>
  obtain ⟨h1,h2,h3⟩:=minF_mem (l:=l) (m:=x)
  simp only [minI,List.getD,List.getElem?_cons_zero,Option.getD_some,List.drop_succ_cons,List.drop_zero]
  refine ⟨?_,fun e he=>?_⟩
  · rcases h1 with h1 | h1
    · rw [h1]; simp
    · exact List.mem_cons_of_mem _ h1
  · rcases List.mem_cons.1 he with rfl | he
    · exact h2
    · exact h3 e he
theorem choose_in {m:Mch} {pa oa i:Int} {l:List Int} (h:0<l.length):0≤Qt m pa oa i l∧Int.toNat (Qt m pa oa i l)<l.length:=by
 unfold Qt
 generalize (if (m.s.stages.getD (Int.toNat i) ⟨0,0,[]⟩).kind=3 then oa else pa)=a
 split
 · have:=idxV_mem (Wn h).1; exact ⟨this.1,this.2.1⟩
 · have:=idxV_mem (minI_mem h).1; exact ⟨this.1,this.2.1⟩
/-! ### Plans -/
def planMost (x:Stg):Int:=if x.kind=2 ∨ x.kind=3 then (x.turns.length:Int) - 1 else 0
def planOk (s:Stl) (l:List Int):Bool:=decide (l.length=s.stages.length) && (List.range l.length).all fun i=>Qa (l.getD i 0) 0 (planMost (s.stages.getD i ⟨0,0,[]⟩))
theorem wok_only {m:Mch} {kd pa oa:Int}:WOk m (QP kd) (Qt m pa oa) :=
 ⟨fun n _ _=>by unfold QP; split <;> omega,fun i x l _ _ _ _ h=>choose_in h⟩
theorem getD_some {l:List Int} {i:Nat} (h:i<l.length):l[i]?=some (l.getD i 0):=by
 have hg:l[i]?=some l[i]:=List.getElem?_eq_getElem h
 simp [List.getD,hg]
theorem yB {l:List Int} {i:Nat} {v:Int} (h:l[i]?=some v):l.getD i 0=v:=by simp [List.getD,h]
theorem next_snoc {m:Mch} {i:Nat} {v:List Int} {l:List Trn} {k:Nat} {t:Trn} (h:l[k]?=some t) :
 XL m i v (l.take (k+1))=XL m i v (l.take k)++[v.getD (Int.toNat t.to) 0*Int.tdiv (m.mult.getD i 0) (m.meas.getD (Int.toNat t.to) 0)]:=by
 rw [List.take_add_one,h]
 simp [XL]
theorem set_same {l:List Int} {i:Nat} {v:Int} (h:l[i]?=some v):l.set i v=l:=by
 apply List.ext_getElem?
 intro j
 by_cases e:i=j
 · subst e; rw [List.getElem?_set_self (List.getElem?_eq_some_iff.1 h).1,h]
 · rw [List.getElem?_set_ne e]
theorem f83ob:Try.f83.body=some (Qd Try.prog 83):=by kernel_rfl
def YN (P:Program):List Item:=kAt 400 [.code (Qd P 83)] [.stop]
def VY (m:Mch) (kd pa oa:Int) (v0:List Int) (v1:List Int) (i:Int) (g0:Nat) (g1:Nat):St:=⟨([.rptr [.rsl (Qb m.s.stages) 0 m.s.stages.length,.rsl (rowI m.s.worth) 0 m.s.worth.length,.int .i64 m.s.price,.rsl (rowI m.meas) 0 m.meas.length,.rsl (rowI m.mult) 0 m.mult.length] 0,.clos 113 [] [.rptr [.int .i64 kd] 0],.clos 114 [] [.rptr [.int .i64 pa] 0,.rptr [.rptr [.rsl (Qb m.s.stages) 0 m.s.stages.length,.rsl (rowI m.s.worth) 0 m.s.worth.length,.int .i64 m.s.price,.rsl (rowI m.meas) 0 m.meas.length,.rsl (rowI m.mult) 0 m.mult.length] 0] 0,.rptr [.int .i64 oa] 0],J,J,J,.sl 0 g0 0 v0.length 1,.sl 1 g1 0 v1.length 1,.int .i64 i]++Js 129),[⟨true,g0,1,true,(rowI v0),true⟩,⟨true,g1,1,true,(rowI v1),true⟩]⟩
def Vj (E:Env) (m:Mch) (kd pa oa:Int) (v0:List Int) (v1:List Int) (i:Int):Prop:=∀ g0 g1:Nat,G Try.prog E (YN Try.prog) (VY m kd pa oa v0 v1 i g0 g1)
def qQ (P:Program):List Item:=kAt 400 [.code (Qd P 83)] [.b true,.b false,.stop]
def f83oS1 (m:Mch) (kd pa oa:Int) (i:Int) (k:(List Trn)) (k1:Nat) (v0:List Int) (v1:List Int) (v2_0:Int) (v2_1:Int) (v2_2:(List Trn)) (v3:List Int) (k11:Nat) (g0:Nat) (g1:Nat) (g3:Nat):St:=⟨([.rptr [.rsl (Qb m.s.stages) 0 m.s.stages.length,.rsl (rowI m.s.worth) 0 m.s.worth.length,.int .i64 m.s.price,.rsl (rowI m.meas) 0 m.meas.length,.rsl (rowI m.mult) 0 m.mult.length] 0,.clos 113 [] [.rptr [.int .i64 kd] 0],.clos 114 [] [.rptr [.int .i64 pa] 0,.rptr [.rptr [.rsl (Qb m.s.stages) 0 m.s.stages.length,.rsl (rowI m.s.worth) 0 m.s.worth.length,.int .i64 m.s.price,.rsl (rowI m.meas) 0 m.meas.length,.rsl (rowI m.mult) 0 m.mult.length] 0] 0,.rptr [.int .i64 oa] 0],J,J,J,.sl 0 g0 0 v0.length 1,.sl 1 g1 0 v1.length 1,.int .i64 i,.ptr 2 0 0,.sl 3 g3 0 v3.length 1]++jj 51 ([.rsl (Ql k) 0 k.length,.int .i64 (k1:Int),.int .i64 (k11:Int)]++Js 73)),[⟨true,g0,1,true,(rowI v0),true⟩,⟨true,g1,1,true,(rowI v1),true⟩,⟨true,0,1,true,[.int .i64 v2_0,.int .i64 v2_1,.rsl (Ql v2_2) 0 v2_2.length],false⟩,⟨true,g3,1,true,(rowI v3),true⟩]⟩
def f83oG1 (E:Env) (m:Mch) (kd pa oa:Int) (i:Int) (k:(List Trn)) (k1:Nat) (v0:List Int) (v1:List Int) (v2_0:Int) (v2_1:Int) (v2_2:(List Trn)) (v3:List Int) (k11:Nat):Prop:=∀ g0 g1 g3:Nat,G Try.prog E (qQ Try.prog) (f83oS1 m kd pa oa i k k1 v0 v1 v2_0 v2_1 v2_2 v3 k11 g0 g1 g3)
def f83oK2 (P:Program):List Item:=kAt 400 [.code (Qd P 83)] [.b true,.b false,.b false,.b true,.stop]
def f83oS2 (m:Mch) (kd pa oa:Int) (i:Int) (j:(List Trn)) (j1:Nat) (v0:List Int) (v1:List Int) (v2_0:Int) (v2_1:Int) (v2_2:(List Trn)) (v3:List Int) (j11:Nat) (g0:Nat) (g1:Nat) (g3:Nat):St:=⟨([.rptr [.rsl (Qb m.s.stages) 0 m.s.stages.length,.rsl (rowI m.s.worth) 0 m.s.worth.length,.int .i64 m.s.price,.rsl (rowI m.meas) 0 m.meas.length,.rsl (rowI m.mult) 0 m.mult.length] 0,.clos 113 [] [.rptr [.int .i64 kd] 0],.clos 114 [] [.rptr [.int .i64 pa] 0,.rptr [.rptr [.rsl (Qb m.s.stages) 0 m.s.stages.length,.rsl (rowI m.s.worth) 0 m.s.worth.length,.int .i64 m.s.price,.rsl (rowI m.meas) 0 m.meas.length,.rsl (rowI m.mult) 0 m.mult.length] 0] 0,.rptr [.int .i64 oa] 0],J,J,J,.sl 0 g0 0 v0.length 1,.sl 1 g1 0 v1.length 1,.int .i64 i,J,.sl 3 g3 0 v3.length 1]++jj 87 ([.rsl (Ql j) 0 j.length,.int .i64 (j1:Int),.int .i64 (j11:Int)]++Js 37)),[⟨true,g0,1,true,(rowI v0),true⟩,⟨true,g1,1,true,(rowI v1),true⟩,⟨true,0,1,true,[.int .i64 v2_0,.int .i64 v2_1,.rsl (Ql v2_2) 0 v2_2.length],false⟩,⟨true,g3,1,true,(rowI v3),true⟩]⟩
def f83oG2 (E:Env) (m:Mch) (kd pa oa:Int) (i:Int) (j:(List Trn)) (j1:Nat) (v0:List Int) (v1:List Int) (v2_0:Int) (v2_1:Int) (v2_2:(List Trn)) (v3:List Int) (j11:Nat):Prop:=∀ g0 g1 g3:Nat,G Try.prog E (f83oK2 Try.prog) (f83oS2 m kd pa oa i j j1 v0 v1 v2_0 v2_1 v2_2 v3 j11 g0 g1 g3)
abbrev Ws (m:Mch):List AV:=[.rsl (Qb m.s.stages) 0 m.s.stages.length,.rsl (rowI m.s.worth) 0 m.s.worth.length,.int .i64 m.s.price,.rsl (rowI m.meas) 0 m.meas.length,.rsl (rowI m.mult) 0 m.mult.length]
abbrev Wr (se:Stg):List AV:=[.int .i64 se.kind,.int .i64 se.prize,.rsl (Ql se.turns) 0 se.turns.length]
abbrev qw (pa:Int) (m:Mch) (oa:Int):List AV:=[.rptr [.int .i64 pa] 0,.rptr [.rptr (Ws m) 0] 0,.rptr [.int .i64 oa] 0]
abbrev z83o_4 (m:Mch) (kd:Int) (pa:Int) (oa:Int) (g0:Nat) (v0:List Int) (g1:Nat) (v1:List Int) (i:Int):List AV:=[.rptr (Ws m) 0,.clos 113 [] [.rptr [.int .i64 kd] 0],.clos 114 [] (qw pa m oa),J,J,J,.sl 0 g0 0 v0.length 1,.sl 1 g1 0 v1.length 1,.int .i64 (i - 1)]++Js 129
theorem p83o_start_0 (m:Mch) (kd pa oa:Int) {E:Env} {rv:AV} (hE:Qe Try.prog 83 rv E) (ho:AllP [0≤(m.s.stages.length:Int)∧(m.s.stages.length:Int)≤(m.s.stages.length:Int)∧(m.s.stages.length:Int)≤2147483648,0≤(m.s.stages.length:Int)∧(m.s.stages.length:Int)≤(m.s.stages.length:Int)∧(m.s.stages.length:Int)≤2147483648,InR .i64 ((m.s.stages.length:Int) - 1)])
 (hg:G Try.prog E (YN Try.prog) ⟨([.rptr (Ws m) 0,.clos 113 [] [.rptr [.int .i64 kd] 0],.clos 114 [] (qw pa m oa),J,J,J,.sl 0 0 0 (Int.toNat (m.s.stages.length:Int)) 1,.sl 1 0 0 (Int.toNat (m.s.stages.length:Int)) 1,.int .i64 ((m.s.stages.length:Int) - 1)]++Js 129),[⟨true,0,1,true,((List.replicate (Int.toNat (m.s.stages.length:Int)) ([.int .i64 0]:List AV)).flatten),true⟩,⟨true,0,1,true,((List.replicate (Int.toNat (m.s.stages.length:Int)) ([.int .i64 0]:List AV)).flatten),true⟩]⟩):G Try.prog E [.code (Qd Try.prog 83)] ⟨[.rptr (Ws m) 0,.clos 113 [] [.rptr [.int .i64 kd] 0],.clos 114 [] (qw pa m oa)]++unds (Try.f83.ntmps - 3),[]⟩ :=
 Qg (n:=400) (ds:=[]) (cs:=[]) (live:=[0,1,2,6,7,8]) (m:=2) (evs:=[.stop]) (obs:=_) hE.2.1 (hE.nogh _) Qh (by kernel_rfl) ho hg
theorem f83oW (m:Mch) (kd pa oa:Int) {E:Env} {rv:((List Int) × (List Int))} (hE:Qe Try.prog 83 (.tup [.rsl (rowI rv.1) 0 rv.1.length,.rsl (rowI rv.2) 0 rv.2.length]) E)
 (h:(m.s.stages.length≤2147483648∧(m.s.stages.length≤2147483648∧((I6 ((m.s.stages.length:Int) - 1))∧Vj E m kd pa oa (List.replicate m.s.stages.length (0:Int)) (List.replicate m.s.stages.length (0:Int)) ((m.s.stages.length:Int) - 1))))):G Try.prog E [.code (Qd Try.prog 83)] ⟨[.rptr [.rsl (Qb m.s.stages) 0 m.s.stages.length,.rsl (rowI m.s.worth) 0 m.s.worth.length,.int .i64 m.s.price,.rsl (rowI m.meas) 0 m.meas.length,.rsl (rowI m.mult) 0 m.mult.length] 0,.clos 113 [] [.rptr [.int .i64 kd] 0],.clos 114 [] [.rptr [.int .i64 pa] 0,.rptr [.rptr [.rsl (Qb m.s.stages) 0 m.s.stages.length,.rsl (rowI m.s.worth) 0 m.s.worth.length,.int .i64 m.s.price,.rsl (rowI m.meas) 0 m.meas.length,.rsl (rowI m.mult) 0 m.mult.length] 0] 0,.rptr [.int .i64 oa] 0]]++unds (Try.f83.ntmps - 3),[]⟩:=by
 obtain ⟨h1,h⟩:=h
 obtain ⟨h2,h⟩:=h
 obtain ⟨q2_0,h⟩:=h
 refine p83o_start_0 m kd pa oa hE ⟨⟨by omega,by omega,by have:=h1; omega⟩,⟨by omega,by omega,by have:=h2; omega⟩,q2_0,trivial⟩ ?_
 have h:=(h 0 0)
 simp only [Vj,VY,List.length_set,List.length_replicate] at h
 rw [(show (List.replicate (Int.toNat (m.s.stages.length:Int)) ([.int .i64 0]:List AV)).flatten=rowI (List.replicate m.s.stages.length (0:Int)) from Yo cI _ _)]
 exact h
theorem p83o_0_0 (m:Mch) (kd pa oa:Int) (v0:List Int) (v1:List Int) (i:Int) (g0:Nat) (g1:Nat) (se:Stg) (e:Int) {E:Env} {rv:AV} (hE:Qe Try.prog 83 rv E) (ho:AllP [(decide (i≥0))=true,0≤i∧i<(m.s.stages.length:Int),((Qb m.s.stages).drop (0+(Int.toNat i)*3)).take 3=(Wr se),3≤3,(se.kind == 4)=true,(decide (se.prize≥0))=true,Qf Try.prog (.clos 113 [] [.rptr [.int .i64 kd] 0]) [.int .i64 se.prize] (.int .i64 (QP kd se.prize)),0≤i∧i<(v0.length:Int),g0=g0,((0+(Int.toNat i)*1)+1)≤(rowI v0).length,g0=g0,InR .i64 (i - 1)])
 (hg:G Try.prog E (YN Try.prog) ⟨(z83o_4 m kd pa oa g0 v0 g1 v1 i),[⟨true,g0,1,true,(Qz (rowI v0) (0+(Int.toNat i)*1) [.int .i64 (QP kd se.prize)]),true⟩,⟨true,g1,1,true,(rowI v1),true⟩]⟩):G Try.prog E (YN Try.prog) (VY m kd pa oa v0 v1 i g0 g1) :=
 Qg (n:=400) (ds:=[]) (cs:=[]) (live:=[0,1,2,6,7,8]) (m:=2) (evs:=[.b true,.auto,.ld (.agg (Wr se)),.b true,.b true,.v (.int .i64 (QP kd se.prize)),.stop]) (obs:=_) hE.2.1 (hE.nogh _) Qh (by kernel_rfl) ho hg
theorem p83o_0_1 (m:Mch) (kd pa oa:Int) (v0:List Int) (v1:List Int) (i:Int) (g0:Nat) (g1:Nat) (se:Stg) {E:Env} {rv:AV} (hE:Qe Try.prog 83 rv E) (ho:AllP [(decide (i≥0))=true,0≤i∧i<(m.s.stages.length:Int),((Qb m.s.stages).drop (0+(Int.toNat i)*3)).take 3=(Wr se),3≤3,(se.kind == 4)=true,(decide (se.prize≥0))=false,InR .i64 (i - 1)])
 (hg:G Try.prog E (YN Try.prog) ⟨(z83o_4 m kd pa oa g0 v0 g1 v1 i),[⟨true,g0,1,true,(rowI v0),true⟩,⟨true,g1,1,true,(rowI v1),true⟩]⟩):G Try.prog E (YN Try.prog) (VY m kd pa oa v0 v1 i g0 g1) :=
 Qg (n:=400) (ds:=[]) (cs:=[]) (live:=[0,1,2,6,7,8]) (m:=2) (evs:=[.b true,.auto,.ld (.agg (Wr se)),.b true,.b false,.stop]) (obs:=_) hE.2.1 (hE.nogh _) Qh (by kernel_rfl) ho hg
theorem p83o_0_2 (m:Mch) (kd pa oa:Int) (v0:List Int) (v1:List Int) (i:Int) (g0:Nat) (g1:Nat) (se:Stg) {E:Env} {rv:AV} (hE:Qe Try.prog 83 rv E) (ho:AllP [(decide (i≥0))=true,0≤i∧i<(m.s.stages.length:Int),((Qb m.s.stages).drop (0+(Int.toNat i)*3)).take 3=(Wr se),3≤3,(se.kind == 4)=false])
 (hg:G Try.prog E (qQ Try.prog) ⟨([.rptr (Ws m) 0,.clos 113 [] [.rptr [.int .i64 kd] 0],.clos 114 [] (qw pa m oa),J,J,J,.sl 0 g0 0 v0.length 1,.sl 1 g1 0 v1.length 1,.int .i64 i,.ptr 2 0 0,.sl 3 0 0 0 1]++jj 51 ([.rsl (Ql se.turns) 0 se.turns.length,.int .i64 (se.turns.length:Int),.int .i64 0]++Js 73)),[⟨true,g0,1,true,(rowI v0),true⟩,⟨true,g1,1,true,(rowI v1),true⟩,⟨true,0,1,true,(Wr se),false⟩,⟨true,0,1,true,[],true⟩]⟩):G Try.prog E (YN Try.prog) (VY m kd pa oa v0 v1 i g0 g1) :=
 Qg (n:=400) (ds:=[(10,1)]) (cs:=[]) (live:=[0,1,2,6,7,8,9,10,62,63,64]) (m:=4) (evs:=[.b true,.auto,.ld (.agg (Wr se)),.b false,.stop]) (obs:=_) hE.2.1 (hE.nogh _) Qh (by kernel_rfl) ho hg
theorem p83o_0_3 (m:Mch) (kd pa oa:Int) (v0:List Int) (v1:List Int) (i:Int) (g0:Nat) (g1:Nat) {E:Env} {res:AV} (hE:Qe Try.prog 83 res E) (ho:AllP [(decide (i≥0))=false,g0=g0,g1=g1])
 (hr:AvLe (.tup [.rsl (rowI v0) 0 v0.length,.rsl (rowI v1) 0 v1.length]) res):G Try.prog E (YN Try.prog) (VY m kd pa oa v0 v1 i g0 g1) :=
 Qc (n:=400) (evs:=[.b false]) (obs:=_) hE Try.func83 Qh (by kernel_rfl) ho hr
theorem f83oW0 (m:Mch) (kd pa oa:Int) (v0:List Int) (v1:List Int) (i:Int) {E:Env} {rv:((List Int) × (List Int))} (hE:Qe Try.prog 83 (.tup [.rsl (rowI rv.1) 0 rv.1.length,.rsl (rowI rv.2) 0 rv.2.length]) E)
 (h:((i≥0→(0≤i∧(∃ se:Stg,m.s.stages[Int.toNat i]?=some se∧((se.kind=4→((se.prize≥0→(0≤i∧(∃ e:Int,v0[Int.toNat i]?=some e∧((I6 (i - 1))∧Vj E m kd pa oa (v0.set (Int.toNat i) (QP kd se.prize)) v1 (i - 1)))))∧(¬ (se.prize≥0)→((I6 (i - 1))∧Vj E m kd pa oa v0 v1 (i - 1)))))∧(¬ (se.kind=4)→f83oG1 E m kd pa oa i se.turns se.turns.length v0 v1 se.kind se.prize se.turns ([]) 0)))))∧(¬ (i≥0)→rv=(v0,v1)))):Vj E m kd pa oa v0 v1 i:=by
 intro g0 g1
 rcases bft (decide (i≥0)) with hc0 | hc0
 · have h:=h.1 (odt hc0)
   obtain ⟨h2,h⟩:=h
   obtain ⟨se,h1,h⟩:=h
   rcases bft (se.kind == 4) with hc1 | hc1
   · have h:=h.1 (eq_of_beq hc1)
     rcases bft (decide (se.prize≥0)) with hc2 | hc2
     · have h:=h.1 (odt hc2)
       obtain ⟨h4,h⟩:=h
       obtain ⟨e,h3,h⟩:=h
       obtain ⟨q13_3,h⟩:=h
       refine p83o_0_0 m kd pa oa v0 v1 i g0 g1 se e hE ⟨hc0,(Qw h2 h1),(rp cStg 3 0 3 h1),(by decide),hc1,hc2,(u113 (only_ok se.prize kd)),(Qw h4 h3),rfl,(rf cI 1 0 1 h3),rfl,q13_3,trivial⟩ ?_
       have h:=(h g0 g1)
       simp only [VY,List.length_set] at h
       rw [(show Qz (rowI v0) (0+(Int.toNat i)*1) [.int .i64 (QP kd se.prize)]=rowI (v0.set (Int.toNat i) (QP kd se.prize)) from QI cI (s:=1) (k:=0) (fun _=>rfl) h3 rfl (by first | decide | simp))]
       exact h
     · have h:=h.2 (odf hc2)
       obtain ⟨q7_3,h⟩:=h
       exact p83o_0_1 m kd pa oa v0 v1 i g0 g1 se hE ⟨hc0,(Qw h2 h1),(rp cStg 3 0 3 h1),(by decide),hc1,hc2,q7_3,trivial⟩ (h g0 g1)
   · have h:=h.2 (ne_of_beq_false hc1)
     exact p83o_0_2 m kd pa oa v0 v1 i g0 g1 se hE ⟨hc0,(Qw h2 h1),(rp cStg 3 0 3 h1),(by decide),hc1,trivial⟩ (h g0 g1 0)
 · have h:=h.2 (odf hc0)
   exact p83o_0_3 m kd pa oa v0 v1 i g0 g1 hE ⟨hc0,rfl,rfl,trivial⟩ (AvLe.of_eq (by rw [h]; try rfl))
theorem p83o_1_0 (m:Mch) (kd pa oa:Int) (i:Int) (k:(List Trn)) (k1:Nat) (v0:List Int) (v1:List Int) (v2_0:Int) (v2_1:Int) (v2_2:(List Trn)) (v3:List Int) (k11:Nat) (g0:Nat) (g1:Nat) (g3:Nat) (te:Trn) (e:Int) (e1:Int) (e2:Int) {E:Env} {rv:AV} (hE:Qe Try.prog 83 rv E) (ho:AllP [(decide ((k11:Int)<(k1:Int)))=true,0≤(k11:Int)∧(k11:Int)<(k.length:Int),((Ql k).drop (0+(Int.toNat (k11:Int))*2)).take 2=[.int .i64 te.w,.int .i64 te.to],2≤2,0≤te.to∧te.to<(v0.length:Int),g0=g0,g0=g0,((rowI v0).drop (0+(Int.toNat te.to)*1)).take 1=[.int .i64 e],0≤i∧i<(m.mult.length:Int),((rowI m.mult).drop (0+(Int.toNat i)*1)).take 1=[.int .i64 e1],0≤te.to∧te.to<(m.meas.length:Int),((rowI m.meas).drop (0+(Int.toNat te.to)*1)).take 1=[.int .i64 e2],InR .i64 (Int.tdiv e1 e2),e2 ≠ 0,InR .i64 (e*(Int.tdiv e1 e2)),g3=g3,(0+(v3.length*1))=(rowI v3).length,(v3.length+1)≤2147483648,0=0,InR .i64 ((k11:Int)+1)])
 (hg:G Try.prog E (qQ Try.prog) ⟨([.rptr [.rsl (Qb m.s.stages) 0 m.s.stages.length,.rsl (rowI m.s.worth) 0 m.s.worth.length,.int .i64 m.s.price,.rsl (rowI m.meas) 0 m.meas.length,.rsl (rowI m.mult) 0 m.mult.length] 0,.clos 113 [] [.rptr [.int .i64 kd] 0],.clos 114 [] [.rptr [.int .i64 pa] 0,.rptr [.rptr [.rsl (Qb m.s.stages) 0 m.s.stages.length,.rsl (rowI m.s.worth) 0 m.s.worth.length,.int .i64 m.s.price,.rsl (rowI m.meas) 0 m.meas.length,.rsl (rowI m.mult) 0 m.mult.length] 0] 0,.rptr [.int .i64 oa] 0],J,J,J,.sl 0 g0 0 v0.length 1,.sl 1 g1 0 v1.length 1,.int .i64 i,.ptr 2 0 0,.sl 3 (g3+1) 0 (v3.length+1) 1]++jj 51 ([.rsl (Ql k) 0 k.length,.int .i64 (k1:Int),.int .i64 ((k11:Int)+1)]++Js 73)),[⟨true,g0,1,true,(rowI v0),true⟩,⟨true,g1,1,true,(rowI v1),true⟩,⟨true,0,1,true,[.int .i64 v2_0,.int .i64 v2_1,.rsl (Ql v2_2) 0 v2_2.length],false⟩,⟨true,(g3+1),1,true,((rowI v3)++[.int .i64 (e*(Int.tdiv e1 e2))]),true⟩]⟩):G Try.prog E (qQ Try.prog) (f83oS1 m kd pa oa i k k1 v0 v1 v2_0 v2_1 v2_2 v3 k11 g0 g1 g3) :=
 Qg (n:=400) (ds:=[]) (cs:=[]) (live:=[0,1,2,6,7,8,9,10,62,63,64]) (m:=4) (evs:=[.b true,.ld (.agg [.int .i64 te.w,.int .i64 te.to]),.auto,.ld (.int .i64 e),.auto,.ld (.int .i64 e1),.auto,.auto,.ld (.int .i64 e2),.stop]) (obs:=_) hE.2.1 (hE.nogh _) Qh (by kernel_rfl) ho hg
theorem p83o_1_1 (m:Mch) (kd pa oa:Int) (i:Int) (k:(List Trn)) (k1:Nat) (v0:List Int) (v1:List Int) (v2_0:Int) (v2_1:Int) (v2_2:(List Trn)) (v3:List Int) (k11:Nat) (g0:Nat) (g1:Nat) (g3:Nat) {E:Env} {rv:AV} (hE:Qe Try.prog 83 rv E) (ho:AllP [(decide ((k11:Int)<(k1:Int)))=false,(v2_0 == 1)=true])
 (hg:G Try.prog E (f83oK2 Try.prog) ⟨([.rptr (Ws m) 0,.clos 113 [] [.rptr [.int .i64 kd] 0],.clos 114 [] (qw pa m oa),J,J,J,.sl 0 g0 0 v0.length 1,.sl 1 g1 0 v1.length 1,.int .i64 i,J,.sl 3 g3 0 v3.length 1]++jj 87 ([.rsl (Ql v2_2) 0 v2_2.length,.int .i64 (v2_2.length:Int),.int .i64 0]++Js 37)),[⟨true,g0,1,true,(rowI v0),true⟩,⟨true,g1,1,true,(rowI v1),true⟩,⟨true,0,1,true,[.int .i64 v2_0,.int .i64 v2_1,.rsl (Ql v2_2) 0 v2_2.length],false⟩,⟨true,g3,1,true,(rowI v3),true⟩]⟩):G Try.prog E (qQ Try.prog) (f83oS1 m kd pa oa i k k1 v0 v1 v2_0 v2_1 v2_2 v3 k11 g0 g1 g3) :=
 Qg (n:=400) (ds:=[]) (cs:=[]) (live:=[0,1,2,6,7,8,10,98,99,100]) (m:=4) (evs:=[.b false,.b true,.stop]) (obs:=_) hE.2.1 (hE.nogh _) Qh (by kernel_rfl) ho hg
theorem p83o_1_2 (m:Mch) (kd pa oa:Int) (i:Int) (k:(List Trn)) (k1:Nat) (v0:List Int) (v1:List Int) (v2_0:Int) (v2_1:Int) (v2_2:(List Trn)) (v3:List Int) (k11:Nat) (g0:Nat) (g1:Nat) (g3:Nat) (e:Int) (e1:Int) (e2:Int) (e3:Int) {E:Env} {rv:AV} (hE:Qe Try.prog 83 rv E) (ho:AllP [(decide ((k11:Int)<(k1:Int)))=false,(v2_0 == 1)=false,Qf Try.prog (.clos 114 [] [.rptr [.int .i64 pa] 0,.rptr [.rptr [.rsl (Qb m.s.stages) 0 m.s.stages.length,.rsl (rowI m.s.worth) 0 m.s.worth.length,.int .i64 m.s.price,.rsl (rowI m.meas) 0 m.meas.length,.rsl (rowI m.mult) 0 m.mult.length] 0] 0,.rptr [.int .i64 oa] 0]) [.int .i64 i,.rsl (rowI v3) 0 v3.length] (.int .i64 (Qt m pa oa i v3)),g3=g3,0≤i∧i<(v1.length:Int),g1=g1,((0+(Int.toNat i)*1)+1)≤(rowI v1).length,g1=g1,0≤i∧i<(v1.length:Int),g1=g1,g1=g1,((Qz (rowI v1) (0+(Int.toNat i)*1) [.int .i64 (Qt m pa oa i v3)]).drop (0+(Int.toNat i)*1)).take 1=[.int .i64 e1],0≤e1∧e1<(v3.length:Int),g3=g3,g3=g3,((rowI v3).drop (0+(Int.toNat e1)*1)).take 1=[.int .i64 e2],0≤i∧i<(v0.length:Int),g0=g0,((0+(Int.toNat i)*1)+1)≤(rowI v0).length,g0=g0,InR .i64 (i - 1)])
 (hg:G Try.prog E (YN Try.prog) ⟨([.rptr [.rsl (Qb m.s.stages) 0 m.s.stages.length,.rsl (rowI m.s.worth) 0 m.s.worth.length,.int .i64 m.s.price,.rsl (rowI m.meas) 0 m.meas.length,.rsl (rowI m.mult) 0 m.mult.length] 0,.clos 113 [] [.rptr [.int .i64 kd] 0],.clos 114 [] [.rptr [.int .i64 pa] 0,.rptr [.rptr [.rsl (Qb m.s.stages) 0 m.s.stages.length,.rsl (rowI m.s.worth) 0 m.s.worth.length,.int .i64 m.s.price,.rsl (rowI m.meas) 0 m.meas.length,.rsl (rowI m.mult) 0 m.mult.length] 0] 0,.rptr [.int .i64 oa] 0],J,J,J,.sl 0 g0 0 v0.length 1,.sl 1 g1 0 v1.length 1,.int .i64 (i - 1)]++Js 129),[⟨true,g0,1,true,(Qz (rowI v0) (0+(Int.toNat i)*1) [.int .i64 e2]),true⟩,⟨true,g1,1,true,(Qz (rowI v1) (0+(Int.toNat i)*1) [.int .i64 (Qt m pa oa i v3)]),true⟩]⟩):G Try.prog E (qQ Try.prog) (f83oS1 m kd pa oa i k k1 v0 v1 v2_0 v2_1 v2_2 v3 k11 g0 g1 g3) :=
 Qg (n:=400) (ds:=[]) (cs:=[]) (live:=[0,1,2,6,7,8]) (m:=2) (evs:=[.b false,.b false,.v (.int .i64 (Qt m pa oa i v3)),.ld (.int .i64 e1),.ld (.int .i64 e2),.stop]) (obs:=_) hE.2.1 (hE.nogh _) Qh (by kernel_rfl) ho hg
theorem f83oW1 (m:Mch) (kd pa oa:Int) (i:Int) (k:(List Trn)) (k1:Nat) (v0:List Int) (v1:List Int) (v2_0:Int) (v2_1:Int) (v2_2:(List Trn)) (v3:List Int) (k11:Nat) {E:Env} {rv:((List Int) × (List Int))} (hE:Qe Try.prog 83 (.tup [.rsl (rowI rv.1) 0 rv.1.length,.rsl (rowI rv.2) 0 rv.2.length]) E)
 (h:(((k11:Int)<(k1:Int)→(∃ te:Trn,k[k11]?=some te∧(0≤te.to∧(∃ e:Int,v0[Int.toNat te.to]?=some e∧(0≤i∧(∃ e1:Int,m.mult[Int.toNat i]?=some e1∧(0≤te.to∧(∃ e2:Int,m.meas[Int.toNat te.to]?=some e2∧((I6 (Int.tdiv e1 e2))∧(e2 ≠ 0∧((I6 (e*(Int.tdiv e1 e2)))∧((v3.length+1)≤2147483648∧((I6 ((k11:Int)+1))∧f83oG1 E m kd pa oa i k k1 v0 v1 v2_0 v2_1 v2_2 (v3++[(e*(Int.tdiv e1 e2))]) (k11+1))))))))))))))∧(¬ ((k11:Int)<(k1:Int))→((v2_0=1→f83oG2 E m kd pa oa i v2_2 v2_2.length v0 v1 v2_0 v2_1 v2_2 v3 0)∧(¬ (v2_0=1)→(((0≤i∧Int.toNat i<m.s.stages.length)∧0<v3.length∧v3.length≤1000000)∧(0≤i∧(∃ e:Int,v1[Int.toNat i]?=some e∧(0≤i∧(∃ e1:Int,(v1.set (Int.toNat i) (Qt m pa oa i v3))[Int.toNat i]?=some e1∧(0≤e1∧(∃ e2:Int,v3[Int.toNat e1]?=some e2∧(0≤i∧(∃ e3:Int,v0[Int.toNat i]?=some e3∧((I6 (i - 1))∧Vj E m kd pa oa (v0.set (Int.toNat i) e2) (v1.set (Int.toNat i) (Qt m pa oa i v3)) (i - 1)))))))))))))))):f83oG1 E m kd pa oa i k k1 v0 v1 v2_0 v2_1 v2_2 v3 k11:=by
 intro g0 g1 g3
 rcases bft (decide ((k11:Int)<(k1:Int))) with hc0 | hc0
 · have h:=h.1 (odt hc0)
   obtain ⟨te,h1,h⟩:=h
   obtain ⟨h3,h⟩:=h
   obtain ⟨e,h2,h⟩:=h
   obtain ⟨h5,h⟩:=h
   obtain ⟨e1,h4,h⟩:=h
   obtain ⟨h7,h⟩:=h
   obtain ⟨e2,h6,h⟩:=h
   obtain ⟨q16_1,h⟩:=h
   obtain ⟨q17_1,h⟩:=h
   obtain ⟨q18_1,h⟩:=h
   obtain ⟨h8,h⟩:=h
   obtain ⟨q23_1,h⟩:=h
   refine p83o_1_0 m kd pa oa i k k1 v0 v1 v2_0 v2_1 v2_2 v3 k11 g0 g1 g3 te e e1 e2 hE ⟨hc0,(Qs h1),(rp cTrn 2 0 2 h1),(by decide),(Qw h3 h2),rfl,rfl,(rp cI 1 0 1 h2),(Qw h5 h4),(rp cI 1 0 1 h4),(Qw h7 h6),(rp cI 1 0 1 h6),q16_1,q17_1,q18_1,rfl,(by have hx:=Xd cI (s:=1) (fun _=>rfl) v3; simp only [rowI] at hx ⊢; rw [hx]; simp),h8,rfl,q23_1,trivial⟩ ?_
   rw [(show rowI v3++[.int .i64 (e*(Int.tdiv e1 e2))]=rowI (v3++[(e*(Int.tdiv e1 e2))]) from (Xe cI v3 [(e*(Int.tdiv e1 e2))]).symm)]; rw [(show (v3.length+1)=(v3++[(e*(Int.tdiv e1 e2))]).length from by simp)]; exact (h g0 g1 (g3+1))
 · have h:=h.2 (odf hc0)
   rcases bft (v2_0 == 1) with hc1 | hc1
   · have h:=h.1 (eq_of_beq hc1)
     exact p83o_1_1 m kd pa oa i k k1 v0 v1 v2_0 v2_1 v2_2 v3 k11 g0 g1 g3 hE ⟨hc0,hc1,trivial⟩ (h g0 g1 g3)
   · have h:=h.2 (ne_of_beq_false hc1)
     obtain ⟨h1,h⟩:=h
     obtain ⟨h3,h⟩:=h
     obtain ⟨e,h2,h⟩:=h
     obtain ⟨h5,h⟩:=h
     obtain ⟨e1,h4,h⟩:=h
     obtain ⟨h7,h⟩:=h
     obtain ⟨e2,h6,h⟩:=h
     obtain ⟨h9,h⟩:=h
     obtain ⟨e3,h8,h⟩:=h
     obtain ⟨q24_2,h⟩:=h
     refine p83o_1_2 m kd pa oa i k k1 v0 v1 v2_0 v2_1 v2_2 v3 k11 g0 g1 g3 e e1 e2 e3 hE ⟨hc0,hc1,(u114 (choose_ok i v3 m pa oa h1)),rfl,(Qw h3 h2),rfl,(rf cI 1 0 1 h2),rfl,(by have hx:=Qw h5 h4; simpa using hx),rfl,rfl,(by rw [(show Qz (rowI v1) (0+(Int.toNat i)*1) [.int .i64 (Qt m pa oa i v3)]=rowI (v1.set (Int.toNat i) (Qt m pa oa i v3)) from QI cI (s:=1) (k:=0) (fun _=>rfl) h2 rfl (by first | decide | simp))]; exact rp cI 1 0 1 h4),(Qw h7 h6),rfl,rfl,(rp cI 1 0 1 h6),(Qw h9 h8),rfl,(rf cI 1 0 1 h8),rfl,q24_2,trivial⟩ ?_
     have h:=(h g0 g1)
     simp only [VY,List.length_set] at h
     rw [(show Qz (rowI v0) (0+(Int.toNat i)*1) [.int .i64 e2]=rowI (v0.set (Int.toNat i) e2) from QI cI (s:=1) (k:=0) (fun _=>rfl) h8 rfl (by first | decide | simp))]; rw [(show Qz (rowI v1) (0+(Int.toNat i)*1) [.int .i64 (Qt m pa oa i v3)]=rowI (v1.set (Int.toNat i) (Qt m pa oa i v3)) from QI cI (s:=1) (k:=0) (fun _=>rfl) h2 rfl (by first | decide | simp))]
     exact h
theorem p83o_2_0 (m:Mch) (kd pa oa:Int) (i:Int) (j:(List Trn)) (j1:Nat) (v0:List Int) (v1:List Int) (v2_0:Int) (v2_1:Int) (v2_2:(List Trn)) (v3:List Int) (j11:Nat) (g0:Nat) (g1:Nat) (g3:Nat) (te:Trn) (e:Int) (e1:Int) {E:Env} {rv:AV} (hE:Qe Try.prog 83 rv E) (ho:AllP [(decide ((j11:Int)<(j1:Int)))=true,0≤(j11:Int)∧(j11:Int)<(j.length:Int),((Ql j).drop (0+(Int.toNat (j11:Int))*2)).take 2=[.int .i64 te.w,.int .i64 te.to],2≤2,0≤i∧i<(v0.length:Int),g0=g0,g0=g0,((rowI v0).drop (0+(Int.toNat i)*1)).take 1=[.int .i64 e],0≤(j11:Int)∧(j11:Int)<(v3.length:Int),g3=g3,g3=g3,((rowI v3).drop (0+(Int.toNat (j11:Int))*1)).take 1=[.int .i64 e1],InR .i64 (te.w*e1),InR .i64 (e+(te.w*e1)),0≤i∧i<(v0.length:Int),g0=g0,((0+(Int.toNat i)*1)+1)≤(rowI v0).length,g0=g0,InR .i64 ((j11:Int)+1)])
 (hg:G Try.prog E (f83oK2 Try.prog) ⟨([.rptr (Ws m) 0,.clos 113 [] [.rptr [.int .i64 kd] 0],.clos 114 [] (qw pa m oa),J,J,J,.sl 0 g0 0 v0.length 1,.sl 1 g1 0 v1.length 1,.int .i64 i,J,.sl 3 g3 0 v3.length 1]++jj 87 ([.rsl (Ql j) 0 j.length,.int .i64 (j1:Int),.int .i64 ((j11:Int)+1)]++Js 37)),[⟨true,g0,1,true,(Qz (rowI v0) (0+(Int.toNat i)*1) [.int .i64 (e+(te.w*e1))]),true⟩,⟨true,g1,1,true,(rowI v1),true⟩,⟨true,0,1,true,[.int .i64 v2_0,.int .i64 v2_1,.rsl (Ql v2_2) 0 v2_2.length],false⟩,⟨true,g3,1,true,(rowI v3),true⟩]⟩):G Try.prog E (f83oK2 Try.prog) (f83oS2 m kd pa oa i j j1 v0 v1 v2_0 v2_1 v2_2 v3 j11 g0 g1 g3) :=
 Qg (n:=400) (ds:=[]) (cs:=[]) (live:=[0,1,2,6,7,8,10,98,99,100]) (m:=4) (evs:=[.b true,.ld (.agg [.int .i64 te.w,.int .i64 te.to]),.ld (.int .i64 e),.auto,.ld (.int .i64 e1),.stop]) (obs:=_) hE.2.1 (hE.nogh _) Qh (by kernel_rfl) ho hg
theorem p83o_2_1 (m:Mch) (kd pa oa:Int) (i:Int) (j:(List Trn)) (j1:Nat) (v0:List Int) (v1:List Int) (v2_0:Int) (v2_1:Int) (v2_2:(List Trn)) (v3:List Int) (j11:Nat) (g0:Nat) (g1:Nat) (g3:Nat) {E:Env} {rv:AV} (hE:Qe Try.prog 83 rv E) (ho:AllP [(decide ((j11:Int)<(j1:Int)))=false,InR .i64 (i - 1)])
 (hg:G Try.prog E (YN Try.prog) ⟨(z83o_4 m kd pa oa g0 v0 g1 v1 i),[⟨true,g0,1,true,(rowI v0),true⟩,⟨true,g1,1,true,(rowI v1),true⟩]⟩):G Try.prog E (f83oK2 Try.prog) (f83oS2 m kd pa oa i j j1 v0 v1 v2_0 v2_1 v2_2 v3 j11 g0 g1 g3) :=
 Qg (n:=400) (ds:=[]) (cs:=[]) (live:=[0,1,2,6,7,8]) (m:=2) (evs:=[.b false,.stop]) (obs:=_) hE.2.1 (hE.nogh _) Qh (by kernel_rfl) ho hg
theorem f83oW2 (m:Mch) (kd pa oa:Int) (i:Int) (j:(List Trn)) (j1:Nat) (v0:List Int) (v1:List Int) (v2_0:Int) (v2_1:Int) (v2_2:(List Trn)) (v3:List Int) (j11:Nat) {E:Env} {rv:((List Int) × (List Int))} (hE:Qe Try.prog 83 (.tup [.rsl (rowI rv.1) 0 rv.1.length,.rsl (rowI rv.2) 0 rv.2.length]) E)
 (h:(((j11:Int)<(j1:Int)→(∃ te:Trn,j[j11]?=some te∧(0≤i∧(∃ e:Int,v0[Int.toNat i]?=some e∧(∃ e1:Int,v3[j11]?=some e1∧((I6 (te.w*e1))∧((I6 (e+(te.w*e1)))∧((I6 ((j11:Int)+1))∧f83oG2 E m kd pa oa i j j1 (v0.set (Int.toNat i) (e+(te.w*e1))) v1 v2_0 v2_1 v2_2 v3 (j11+1)))))))))∧(¬ ((j11:Int)<(j1:Int))→((I6 (i - 1))∧Vj E m kd pa oa v0 v1 (i - 1))))):f83oG2 E m kd pa oa i j j1 v0 v1 v2_0 v2_1 v2_2 v3 j11:=by
 intro g0 g1 g3
 rcases bft (decide ((j11:Int)<(j1:Int))) with hc0 | hc0
 · have h:=h.1 (odt hc0)
   obtain ⟨te,h1,h⟩:=h
   obtain ⟨h3,h⟩:=h
   obtain ⟨e,h2,h⟩:=h
   obtain ⟨e1,h4,h⟩:=h
   obtain ⟨q15_1,h⟩:=h
   obtain ⟨q16_1,h⟩:=h
   obtain ⟨q21_1,h⟩:=h
   refine p83o_2_0 m kd pa oa i j j1 v0 v1 v2_0 v2_1 v2_2 v3 j11 g0 g1 g3 te e e1 hE ⟨hc0,(Qs h1),(rp cTrn 2 0 2 h1),(by decide),(Qw h3 h2),rfl,rfl,(rp cI 1 0 1 h2),(Qs h4),rfl,rfl,(rp cI 1 0 1 h4),q15_1,q16_1,(Qw h3 h2),rfl,(rf cI 1 0 1 h2),rfl,q21_1,trivial⟩ ?_
   have h:=(h g0 g1 g3)
   simp only [f83oS2,List.length_set] at h
   rw [(show Qz (rowI v0) (0+(Int.toNat i)*1) [.int .i64 (e+(te.w*e1))]=rowI (v0.set (Int.toNat i) (e+(te.w*e1))) from QI cI (s:=1) (k:=0) (fun _=>rfl) h2 rfl (by first | decide | simp))]
   exact h
 · have h:=h.2 (odf hc0)
   obtain ⟨q1_1,h⟩:=h
   exact p83o_2_1 m kd pa oa i j j1 v0 v1 v2_0 v2_1 v2_2 v3 j11 g0 g1 g3 hE ⟨hc0,q1_1,trivial⟩ (h g0 g1)
theorem valueo_ok (m:Mch) (kd pa oa:Int) (hm:MOk m):Pure Try.prog 83 [.rptr (cMch m) 0,.clos 113 [] [.rptr [.int .i64 kd] 0],.clos 114 [] [.rptr [.int .i64 pa] 0,.rptr [.rptr (cMch m) 0] 0,.rptr [.int .i64 oa] 0]] (.tup [.rsl (rowI (valA m (QP kd) (Qt m pa oa)).1) 0 (valA m (QP kd) (Qt m pa oa)).1.length,.rsl (rowI (valA m (QP kd) (Qt m pa oa)).2) 0 (valA m (QP kd) (Qt m pa oa)).2.length]):=Qv Try.func83 f83ob fun E hE=>by
 have hw:WOk m (QP kd) (Qt m pa oa):=wok_only
 have hform:=(Xx hm.st).2.2.2.2
 have hn:=(Xx hm.st).1
 have key:∀ (n:Nat) (p:List Int × List Int),n≤m.s.stages.length→VOk m n p→valA m (QP kd) (Qt m pa oa)=valN m (QP kd) (Qt m pa oa) n p→Vj E m kd pa oa p.1 p.2 ((n:Int) - 1):=by
  intro n
  induction n with
  | zero =>
   intro p hn hp ha
   exact f83oW0 m kd pa oa p.1 p.2 _ (rv:=valA m (QP kd) (Qt m pa oa)) hE ⟨fun h=>by omega,fun _=>by rw [ha,valN]⟩
  | succ i ih =>
   intro p hn' hp ha
   have hi:m.s.stages[i]?=some m.s.stages[i]:=List.getElem?_eq_getElem (by omega)
   have hx:m.s.stages.getD i ⟨0,0,[]⟩=m.s.stages[i]:=by simp [List.getD,hi]
   have en:Int.toNat (i:Int)=i:=Int.toNat_natCast i
   have e0:((i+1:Nat):Int) - 1=(i:Int):=by omega
   have hp2:=val_step hm hw (by omega) hp
   have nx:=ih (Vq m (QP kd) (Qt m pa oa) i p) (by omega) hp2 (by rw [ha,valN])
   have hfo:=YU hi (hform i (by omega))
   have hto:=Wh hi (hform i (by omega))
   have htt:=qC hi (hform i (by omega))
   have hv0:p.1[i]?=some (p.1.getD i 0):=getD_some (by rw [hp.l1]; omega)
   have hv1:p.2[i]?=some (p.2.getD i 0):=getD_some (by rw [hp.l2]; omega)
   obtain ⟨q,q1,q2,q3,q4⟩:=hm.inv.rel i _ (by omega) hi
   unfold Vq at nx
   rw [hx] at nx
   generalize m.s.stages[i]=x at hi hx nx hfo hto htt q2 q4
   rw [e0]
   refine f83oW0 m kd pa oa p.1 p.2 (i:Int) (rv:=valA m (QP kd) (Qt m pa oa)) hE ⟨fun _=>⟨by omega,x,by rw [en]; exact hi,fun h4=>⟨fun hpr=>⟨by omega,_,by rw [en]; exact hv0,by omega,?_⟩,fun hpr=>⟨by omega,?_⟩⟩,fun h4=>?_⟩,fun h=>by omega⟩
   · rw [if_pos h4,if_pos hpr] at nx
     rw [en]; exact nx
   · rw [if_pos h4,if_neg hpr] at nx
     exact nx
   rw [if_neg h4] at nx
   have hlen:1≤x.turns.length∧x.turns.length≤8:=by
    rcases hfo with ⟨h,-⟩ | ⟨-,-,h,-⟩
    · exact absurd h h4
    · exact h
   have inner:∀ (d k:Nat),k+d=x.turns.length→f83oG1 E m kd pa oa (i:Int) x.turns x.turns.length p.1 p.2 x.kind x.prize x.turns (XL m i p.1 (x.turns.take k)) k:=by
    intro d
    induction d with
    | zero =>
     intro k hd
     rw [List.take_of_length_le (by omega)]
     have hall:=yr hm hi hp q1
     have hl:(XL m i p.1 x.turns).length=x.turns.length:=by simp [XL]
     have htot:=fun (h1:x.kind=1) (u:Int) (hu:m.meas[i]?=some u)=>sum_bd hm hi hp h1 hu
     have hch:=fun (h1:x.kind ≠ 1)=>hw.c1 i x _ hi h4 h1 hl (by omega)
     generalize XL m i p.1 x.turns=N at nx hall hl htot hch
     refine f83oW1 m kd pa oa (i:Int) x.turns x.turns.length p.1 p.2 x.kind x.prize x.turns N k (rv:=valA m (QP kd) (Qt m pa oa)) hE ⟨fun h=>by omega,fun _=>⟨fun h1=>?_,fun h1=>?_⟩⟩
     · rw [if_pos h1] at nx
       rw [if_pos h1] at q2
       have tb:=htot h1 _ q2
       have mb:=hm.inv.pos i _ (by omega) q2
       generalize q*totI x=u at q2 tb mb
       rw [hp.lo i (by omega),Int.zero_add] at nx
       have loop:∀ (d k:Nat) (vs:List Int) (a:Int),k+d=x.turns.length→vs.length=m.s.stages.length→vs[i]?=some a→0≤a→a+sumW (x.turns.drop k) (N.drop k)=sumW x.turns N→p.1.set i (sumW x.turns N)=vs.set i (sumW x.turns N)→f83oG2 E m kd pa oa (i:Int) x.turns x.turns.length vs p.2 x.kind x.prize x.turns N k:=by
        intro d
        induction d with
        | zero =>
         intro k vs a hd hvl hva ha0 hsum hset
         rw [List.drop_eq_nil_of_le (by omega),sumW,Int.add_zero] at hsum
         rw [← hsum] at hset
         rw [set_same hva] at hset
         refine f83oW2 m kd pa oa (i:Int) x.turns x.turns.length vs p.2 x.kind x.prize x.turns N k (rv:=valA m (QP kd) (Qt m pa oa)) hE ⟨fun h=>by omega,fun _=>⟨by omega,?_⟩⟩
         rw [← hset,hsum]; exact nx
         all_goals simp
        | succ d ih2 =>
         intro k vs a hd hvl hva ha0 hsum hset
         have hk:x.turns[k]?=some x.turns[k]:=List.getElem?_eq_getElem (by omega)
         have hN:N[k]?=some N[k]:=List.getElem?_eq_getElem (by omega)
         have e1:x.turns.drop k=x.turns[k] :: x.turns.drop (k+1):=List.drop_eq_getElem_cons (by omega)
         have e2:N.drop k=N[k] :: N.drop (k+1):=List.drop_eq_getElem_cons (by omega)
         rw [e1,e2,sumW] at hsum
         have rest:=sumW_bd (ts:=x.turns.drop (k+1)) (es:=N.drop (k+1)) (B:=10000*q) (fun e he=>hall e (List.mem_of_mem_drop he)) (fun t ht=>(htt.1.2 t (List.mem_of_mem_drop ht)).1) (by simp [hl])
         have b1:=(htt.1.2 _ (List.mem_of_getElem? hk)).1
         have b2:=(hall _ (List.mem_of_getElem? hN)).1
         generalize x.turns[k]=te at hk hsum b1
         generalize N[k]=e at hN hsum b2
         have b3:=Int.mul_nonneg b1 b2
         refine f83oW2 m kd pa oa (i:Int) x.turns x.turns.length vs p.2 x.kind x.prize x.turns N k (rv:=valA m (QP kd) (Qt m pa oa)) hE ⟨fun _=>⟨te,hk,by omega,a,by rw [en]; exact hva,e,hN,by omega,by omega,by omega,?_⟩,fun h=>by omega⟩
         rw [en]
         exact ih2 (k+1) _ (a+te.w*e) (by omega) (by simp [hvl]) (by rw [List.getElem?_set_self (by omega)]) (by omega) (by omega) (by rw [List.set_set]; exact hset)
       exact loop x.turns.length 0 p.1 0 (by omega) hp.l1 (by rw [hv0,hp.lo i (by omega)]) (by omega) (by simp) rfl
     · rw [if_neg h1] at nx
       have hc:=hch h1
       have hcN:N[Int.toNat ((Qt m pa oa) (i:Int) N)]?=some (N.getD (Int.toNat ((Qt m pa oa) (i:Int) N)) 0):=getD_some hc.2
       refine ⟨⟨⟨by omega,by rw [en]; omega⟩,by omega,by omega⟩,by omega,_,by rw [en]; exact hv1,by omega,(Qt m pa oa) (i:Int) N,by rw [en,List.getElem?_set_self (by rw [hp.l2]; omega)],hc.1,_,hcN,by omega,_,by rw [en]; exact hv0,by omega,?_⟩
       rw [en]
       exact nx
    | succ d ih2 =>
     intro k hd
     have hk:x.turns[k]?=some x.turns[k]:=List.getElem?_eq_getElem (by omega)
     have nxt:=next_snoc (m:=m) (i:=i) (v:=p.1) hk
     have htm:=List.mem_of_getElem? hk
     generalize x.turns[k]=te at hk nxt htm
     obtain ⟨q',u,n1,n2,n3,n4,n5,n6,n7,n8,n9⟩:=next_bd hm hi hp htm
     have ht:=hto te htm
     have hvt:p.1[Int.toNat te.to]?=some (p.1.getD (Int.toNat te.to) 0):=getD_some (by rw [hp.l1]; omega)
     rw [yB n1,yB n2] at nxt
     refine f83oW1 m kd pa oa (i:Int) x.turns x.turns.length p.1 p.2 x.kind x.prize x.turns _ k (rv:=valA m (QP kd) (Qt m pa oa)) hE ⟨fun _=>⟨te,hk,ht.2.2,_,hvt,by omega,q',by rw [en]; exact n1,ht.2.2,u,n2,by omega,by omega,by omega,?_,by omega,?_⟩,fun h=>by omega⟩
     · simp [XL]; omega
     · rw [← nxt]; exact ih2 (k+1) (by omega)
   exact inner x.turns.length 0 (by omega)
 have e:Vj E m kd pa oa (XB m.s.stages.length) (XB m.s.stages.length) ((m.s.stages.length:Int) - 1):=key m.s.stages.length (XB m.s.stages.length,XB m.s.stages.length) (Nat.le_refl _) (val_ok0 hm) rfl
 exact f83oW m kd pa oa (rv:=valA m (QP kd) (Qt m pa oa)) hE ⟨by omega,by omega,by omega,e⟩
end Go.Proofs.Ytfgmlaeikcfpbaa
namespace Go.Proofs.Ytfgmlaeikcfpbaa
open Go Ax
open Go.Proofs
structure Fr where
 num:Int
 den:Int
def YT (n d:Int):Fr:=⟨Int.tdiv n (iMax (gcdI (iMax n (0 - n)) d) 1),Int.tdiv d (iMax (gcdI (iMax n (0 - n)) d) 1)⟩
def XT (m:Mch) (w:Int→Int) (ch:Int→List Int→Int):Fr:=YT ((valA m w ch).1.getD 0 0) (m.meas.getD 0 0)
theorem f87b:Try.f87.body=some (Qd Try.prog 87):=by kernel_rfl
theorem u87 {a c k:List AV} {r:AV} (h:Pure Try.prog 87 (a++c++k) r):Qf Try.prog (.clos 87 a k) c r:=Qo Try.func87 (by kernel_rfl) f87b h
theorem p87_start_0 (n:Int) (d:Int) {E:Env} {res:AV} (hE:Qe Try.prog 87 res E) (ho:AllP [InR .i64 (0 - n),Qf Try.prog (.clos 117 [] []) [.int .i64 (iMax n (0 - n)),.int .i64 d] (.int .i64 (iMax (gcdI (iMax n (0 - n)) d) 1)),InR .i64 (Int.tdiv n (iMax (gcdI (iMax n (0 - n)) d) 1)),(iMax (gcdI (iMax n (0 - n)) d) 1) ≠ 0,InR .i64 (Int.tdiv d (iMax (gcdI (iMax n (0 - n)) d) 1)),(iMax (gcdI (iMax n (0 - n)) d) 1) ≠ 0,2≤2])
 (hr:AvLe (.agg [.int .i64 (Int.tdiv n (iMax (gcdI (iMax n (0 - n)) d) 1)),.int .i64 (Int.tdiv d (iMax (gcdI (iMax n (0 - n)) d) 1))]) res):G Try.prog E [.code (Qd Try.prog 87)] ⟨[.int .i64 n,.int .i64 d]++unds (Try.f87.ntmps - 2),[]⟩ :=
 Qc (n:=400) (evs:=[.v (.int .i64 (iMax (gcdI (iMax n (0 - n)) d) 1))]) (obs:=_) hE Try.func87 Qh (by kernel_rfl) ho hr
theorem f87W (n:Int) (d:Int) {E:Env} {rv:Fr} (hE:Qe Try.prog 87 (.agg [.int .i64 rv.num,.int .i64 rv.den]) E)
 (h:((I6 (0 - n))∧((0≤(iMax n (0 - n))∧0≤d)∧((I6 (Int.tdiv n (iMax (gcdI (iMax n (0 - n)) d) 1)))∧((iMax (gcdI (iMax n (0 - n)) d) 1) ≠ 0∧((I6 (Int.tdiv d (iMax (gcdI (iMax n (0 - n)) d) 1)))∧((iMax (gcdI (iMax n (0 - n)) d) 1) ≠ 0∧rv=(⟨(Int.tdiv n (iMax (gcdI (iMax n (0 - n)) d) 1)),(Int.tdiv d (iMax (gcdI (iMax n (0 - n)) d) 1))⟩:Fr)))))))):G Try.prog E [.code (Qd Try.prog 87)] ⟨[.int .i64 n,.int .i64 d]++unds (Try.f87.ntmps - 2),[]⟩:=by
 obtain ⟨q0_0,h⟩:=h
 obtain ⟨h1,h⟩:=h
 obtain ⟨q2_0,h⟩:=h
 obtain ⟨q3_0,h⟩:=h
 obtain ⟨q4_0,h⟩:=h
 obtain ⟨q5_0,h⟩:=h
 exact p87_start_0 n d hE ⟨q0_0,(u117 (VI (iMax n (0 - n)) d h1)),q2_0,q3_0,q4_0,q5_0,(by decide),trivial⟩ (AvLe.of_eq (by rw [h]; try rfl))
theorem iMax_pos {a:Int}:1≤iMax a 1:=by unfold iMax; split <;> omega
theorem tdiv_bd {n g B:Int} (hg:1≤g) (h1:-B≤n) (h2:n≤B):-B≤Int.tdiv n g∧Int.tdiv n g≤B:=by
 have key:∀ a:Int,0≤a→0≤Int.tdiv a g∧Int.tdiv a g≤a:=fun a ha=>by
  rw [Int.tdiv_eq_ediv_of_nonneg ha]
  exact ⟨Int.ediv_nonneg ha (by omega),Int.ediv_le_self g ha⟩
 by_cases h:0≤n
 · have:=key n h; omega
 · have h3:=key (-n) (by omega)
   rw [Int.neg_tdiv] at h3
   omega
theorem frac_ok (n d:Int) (h:(-100000000000000000≤n∧n≤100000000000000000)∧0<d∧d≤1000000000000):Pure Try.prog 87 [.int .i64 n,.int .i64 d] (.agg [.int .i64 (YT n d).num,.int .i64 (YT n d).den]):=Qv Try.func87 f87b fun E hE=>by
 have h0:0≤iMax n (0 - n):=by unfold iMax; split <;> omega
 have hg:1≤iMax (gcdI (iMax n (0 - n)) d) 1:=iMax_pos
 have b1:=tdiv_bd hg h.1.1 h.1.2
 have b2:=tdiv_bd (n:=d) (B:=1000000000000) hg (by omega) (by omega)
 exact f87W n d (rv:=YT n d) hE ⟨by omega,⟨h0,by omega⟩,by omega,by omega,by omega,by omega,rfl⟩
theorem meas0 {m:Mch} (hm:MOk m):∃ u,m.meas[0]?=some u∧0<u∧u≤1000000000000:=by
 have hn:=(Xx hm.st).1
 have hg:m.meas[0]?=some (m.meas[0]'(by rw [hm.inv.l1]; omega)):=List.getElem?_eq_getElem _
 exact ⟨_,hg,hm.inv.pos 0 _ (by omega) hg⟩
theorem val0 {m:Mch} (hm:MOk m) {w:Int→Int} {ch:Int→List Int→Int} (hw:WOk m w ch):∃ v,(valA m w ch).1[0]?=some v∧(-100000000000000000≤v∧v≤100000000000000000):=by
 have hn:=(Xx hm.st).1
 have hv:=val_okA hm hw
 obtain ⟨u,h1,h2⟩:=meas0 hm
 have:=hv.hi 0 u (by omega) h1
 exact ⟨_,getD_some (by rw [hv.l1]; omega),by omega,by omega⟩
theorem f75ob:Try.f75.body=some (Qd Try.prog 75):=by kernel_rfl
abbrev z75o_1 (m:Mch):List AV:=[.rsl (Qb m.s.stages) 0 m.s.stages.length,.rsl (rowI m.s.worth) 0 m.s.worth.length,.int .i64 m.s.price,.rsl (rowI m.meas) 0 m.meas.length,.rsl (rowI m.mult) 0 m.mult.length]
abbrev z75o_2 (m:Mch) (kd:Int) (pa:Int) (oa:Int):AV:=.tup [.rsl (rowI ((valA m (QP kd) (Qt m pa oa)).1)) 0 (((valA m (QP kd) (Qt m pa oa)).1).length),.rsl (rowI ((valA m (QP kd) (Qt m pa oa)).2)) 0 (((valA m (QP kd) (Qt m pa oa)).2).length)]
theorem p75o_start_0 (m:Mch) (kd pa oa:Int) (e:Int) (e1:Int) {E:Env} {res:AV} (hE:Qe Try.prog 75 res E) (ho:AllP [Qf Try.prog (.clos 83 [] []) [.rptr (z75o_1 m) 0,.clos 113 [] [.rptr [.int .i64 kd] 0],.clos 114 [] [.rptr [.int .i64 pa] 0,.rptr [.rptr (z75o_1 m) 0] 0,.rptr [.int .i64 oa] 0]] (z75o_2 m kd pa oa),(0:Int)≤0∧(0:Int)<((((valA m (QP kd) (Qt m pa oa)).1).length:Nat):Int),((rowI ((valA m (QP kd) (Qt m pa oa)).1)).drop (0+0*1)).take 1=[.int .i64 e],(0:Int)≤0∧(0:Int)<(m.meas.length:Int),((rowI m.meas).drop (0+0*1)).take 1=[.int .i64 e1],Qf Try.prog (.clos 87 [] []) [.int .i64 e,.int .i64 e1] (.agg [.int .i64 ((YT e e1).num),.int .i64 ((YT e e1).den)]),2≤2])
 (hr:AvLe (.agg [.int .i64 ((YT e e1).num),.int .i64 ((YT e e1).den)]) res):G Try.prog E [.code (Qd Try.prog 75)] ⟨[.rptr (z75o_1 m) 0,.clos 113 [] [.rptr [.int .i64 kd] 0],.clos 114 [] [.rptr [.int .i64 pa] 0,.rptr [.rptr (z75o_1 m) 0] 0,.rptr [.int .i64 oa] 0]]++unds (Try.f75.ntmps - 3),[]⟩ :=
 Qc (n:=400) (evs:=[.v (z75o_2 m kd pa oa),.ld (.int .i64 e),.auto,.ld (.int .i64 e1),.v (.agg [.int .i64 ((YT e e1).num),.int .i64 ((YT e e1).den)])]) (obs:=_) hE Try.func75 Qh (by kernel_rfl) ho hr
theorem f75oW (m:Mch) (kd pa oa:Int) {E:Env} {rv:Fr} (hE:Qe Try.prog 75 (.agg [.int .i64 rv.num,.int .i64 rv.den]) E)
 (h:((MOk m)∧(∃ e:Int,((valA m (QP kd) (Qt m pa oa)).1)[0]?=some e∧(∃ e1:Int,m.meas[0]?=some e1∧(((-100000000000000000≤e∧e≤100000000000000000)∧0<e1∧e1≤1000000000000)∧rv=(YT e e1)))))):G Try.prog E [.code (Qd Try.prog 75)] ⟨[.rptr [.rsl (Qb m.s.stages) 0 m.s.stages.length,.rsl (rowI m.s.worth) 0 m.s.worth.length,.int .i64 m.s.price,.rsl (rowI m.meas) 0 m.meas.length,.rsl (rowI m.mult) 0 m.mult.length] 0,.clos 113 [] [.rptr [.int .i64 kd] 0],.clos 114 [] [.rptr [.int .i64 pa] 0,.rptr [.rptr [.rsl (Qb m.s.stages) 0 m.s.stages.length,.rsl (rowI m.s.worth) 0 m.s.worth.length,.int .i64 m.s.price,.rsl (rowI m.meas) 0 m.meas.length,.rsl (rowI m.mult) 0 m.mult.length] 0] 0,.rptr [.int .i64 oa] 0]]++unds (Try.f75.ntmps - 3),[]⟩:=by
 obtain ⟨h1,h⟩:=h
 obtain ⟨e,h2,h⟩:=h
 obtain ⟨e1,h3,h⟩:=h
 obtain ⟨h4,h⟩:=h
 exact p75o_start_0 m kd pa oa e e1 hE ⟨(Qo Try.func83 (by kernel_rfl) f83ob (valueo_ok m kd pa oa h1)),(Qs h2),(rp cI 1 0 1 h2),(Qs h3),(rp cI 1 0 1 h3),(u87 (frac_ok e e1 h4)),(by decide),trivial⟩ (AvLe.of_eq (by rw [h]; try rfl))
theorem firsto_ok (m:Mch) (kd pa oa:Int) (hm:MOk m):Pure Try.prog 75 [.rptr (cMch m) 0,.clos 113 [] [.rptr [.int .i64 kd] 0],.clos 114 [] [.rptr [.int .i64 pa] 0,.rptr [.rptr (cMch m) 0] 0,.rptr [.int .i64 oa] 0]] (.agg [.int .i64 (XT m (QP kd) (Qt m pa oa)).num,.int .i64 (XT m (QP kd) (Qt m pa oa)).den]):=Qv Try.func75 f75ob fun E hE=>by
 obtain ⟨v,hv,hb⟩:=val0 hm (w:=(QP kd)) (ch:=(Qt m pa oa)) (wok_only)
 obtain ⟨u,hu,hb2⟩:=meas0 hm
 exact f75oW m kd pa oa (rv:=XT m (QP kd) (Qt m pa oa)) hE ⟨hm,v,hv,u,hu,⟨hb,hb2⟩,by rw [XT,yB hv,yB hu]⟩
theorem f72b:Try.f72.body=some (Qd Try.prog 72):=by kernel_rfl
theorem u72 {a c k:List AV} {r:AV} (h:Pure Try.prog 72 (a++c++k) r):Qf Try.prog (.clos 72 a k) c r:=Qo Try.func72 (by kernel_rfl) f72b h
abbrev z72_1 (m:Mch):List AV:=[.rsl (Qb m.s.stages) 0 m.s.stages.length,.rsl (rowI m.s.worth) 0 m.s.worth.length,.int .i64 m.s.price,.rsl (rowI m.meas) 0 m.meas.length,.rsl (rowI m.mult) 0 m.mult.length]
theorem p72_start_0 (m:Mch) (kd pa oa:Int) {E:Env} {res:AV} (hE:Qe Try.prog 72 res E) (ho:AllP [Qf Try.prog (.clos 73 [] []) [.rptr (z72_1 m) 0,.int .i64 kd] (.bool (Wf m kd)),(Wf m kd)=true,Qf Try.prog (.clos 74 [] []) [.rsl [.int .i64 pa,.int .i64 oa] 0 2] (.bool (aimsI ([pa,oa]))),0=0])
 (hr:AvLe (.bool (aimsI ([pa,oa]))) res):G Try.prog E [.code (Qd Try.prog 72)] ⟨[.rptr (z72_1 m) 0,.rptr [.int .i64 kd] 0,.rptr [.int .i64 pa] 0,.rptr [.int .i64 oa] 0]++unds (Try.f72.ntmps - 4),[]⟩ :=
 Qc (n:=400) (evs:=[.v (.bool (Wf m kd)),.b true,.v (.bool (aimsI ([pa,oa])))]) (obs:=_) hE Try.func72 Qh (by kernel_rfl) ho hr
theorem p72_start_1 (m:Mch) (kd pa oa:Int) {E:Env} {res:AV} (hE:Qe Try.prog 72 res E) (ho:AllP [Qf Try.prog (.clos 73 [] []) [.rptr (z72_1 m) 0,.int .i64 kd] (.bool (Wf m kd)),(Wf m kd)=false])
 (hr:AvLe (.bool false) res):G Try.prog E [.code (Qd Try.prog 72)] ⟨[.rptr (z72_1 m) 0,.rptr [.int .i64 kd] 0,.rptr [.int .i64 pa] 0,.rptr [.int .i64 oa] 0]++unds (Try.f72.ntmps - 4),[]⟩ :=
 Qc (n:=400) (evs:=[.v (.bool (Wf m kd)),.b false]) (obs:=_) hE Try.func72 Qh (by kernel_rfl) ho hr
theorem f72W (m:Mch) (kd pa oa:Int) {E:Env} {rv:Bool} (hE:Qe Try.prog 72 (.bool rv) E)
 (h:((m.s.worth.length≤1000000)∧(((Wf m kd)=true→((([pa,oa]).length≤9223372036854775807)∧rv=(aimsI ([pa,oa]))))∧((Wf m kd)=false→rv=false)))):G Try.prog E [.code (Qd Try.prog 72)] ⟨[.rptr [.rsl (Qb m.s.stages) 0 m.s.stages.length,.rsl (rowI m.s.worth) 0 m.s.worth.length,.int .i64 m.s.price,.rsl (rowI m.meas) 0 m.meas.length,.rsl (rowI m.mult) 0 m.mult.length] 0,.rptr [.int .i64 kd] 0,.rptr [.int .i64 pa] 0,.rptr [.int .i64 oa] 0]++unds (Try.f72.ntmps - 4),[]⟩:=by
 obtain ⟨h1,h⟩:=h
 rcases bft (Wf m kd) with hc0 | hc0
 · have h:=h.1 hc0
   obtain ⟨h2,h⟩:=h
   exact p72_start_0 m kd pa oa hE ⟨(u73 (kind_ok m kd h1)),hc0,(u74 (aims_ok ([pa,oa]) h2)),rfl,trivial⟩ (AvLe.of_eq (by rw [h]; try rfl))
 · have h:=h.2 hc0
   exact p72_start_1 m kd pa oa hE ⟨(u73 (kind_ok m kd h1)),hc0,trivial⟩ (AvLe.of_eq (by rw [h]; try rfl))
def Xy (m:Mch) (kd pa oa:Int):Bool:=Wf m kd && aimsI [pa,oa]
theorem qG (m:Mch) (kd pa oa:Int) (h:m.s.worth.length≤1000000):Pure Try.prog 72 [.rptr (cMch m) 0,.rptr [.int .i64 kd] 0,.rptr [.int .i64 pa] 0,.rptr [.int .i64 oa] 0] (.bool (Xy m kd pa oa)):=Qv Try.func72 f72b fun E hE =>
 f72W m kd pa oa (rv:=Xy m kd pa oa) hE ⟨h,fun h1=>⟨by simp,by simp [Xy,h1]⟩,fun h1=>by simp [Xy,h1]⟩
def begR (s:Stl) (rt:Bool):AV:=if (Xz s).isSome=true then (if rt=true then .tup [.rptr (cMch (Qp s)) 0,.int .i64 0] else .tup [.nilPtr,.int .i64 1]) else .tup [.nilPtr,.int .i64 60]
theorem begR_T {s:Stl} {rt:Bool} (h0:(Xz s).isSome=true) (h1:rt=true):begR s rt=.tup [.rptr (cMch (Qp s)) 0,.int .i64 0]:=by rw [begR,if_pos h0,if_pos h1]
theorem begR_F1 {s:Stl} {rt:Bool} (h0:(Xz s).isSome=true) (h1:rt=false):begR s rt=.tup [.nilPtr,.int .i64 1]:=by rw [begR,if_pos h0,if_neg (by rw [h1]; simp)]
theorem begR_F0 {s:Stl} {rt:Bool} (h0:(Xz s).isSome=false):begR s rt=.tup [.nilPtr,.int .i64 60]:=by rw [begR,if_neg (by rw [h0]; simp)]
theorem mok_G {s:Stl} (h:(Xz s).isSome=true):MOk (Qp s)∧(Qp s).s=s:=by
 obtain ⟨m,hm⟩:=Option.isSome_iff_exists.1 h
 rw [show Qp s=m by simp [Qp,hm]]
 exact mok_of hm
theorem yG:Try.f71.body=some (Qd Try.prog 71):=by kernel_rfl
theorem qq (s:Stl) (kd pa oa:Int) {E:Env} {res:AV} (hE:Qe Try.prog 71 res E) (ho:AllP [Qf Try.prog (.clos 61 [] []) [.agg [.rsl (Qb s.stages) 0 s.stages.length,.rsl (rowI s.worth) 0 s.worth.length,.int .i64 s.price]] (.tup [.rptr [.rsl (Qb (((Qp s).s).stages)) 0 ((((Qp s).s).stages).length),.rsl (rowI (((Qp s).s).worth)) 0 ((((Qp s).s).worth).length),.int .i64 (((Qp s).s).price),.rsl (rowI ((Qp s).meas)) 0 (((Qp s).meas).length),.rsl (rowI ((Qp s).mult)) 0 (((Qp s).mult).length)] 0,.bool true]),false=false,Qf Try.prog (.clos 72 [] [.rptr [.int .i64 kd] 0,.rptr [.int .i64 pa] 0,.rptr [.int .i64 oa] 0]) [.rptr [.rsl (Qb (((Qp s).s).stages)) 0 ((((Qp s).s).stages).length),.rsl (rowI (((Qp s).s).worth)) 0 ((((Qp s).s).worth).length),.int .i64 (((Qp s).s).price),.rsl (rowI ((Qp s).meas)) 0 (((Qp s).meas).length),.rsl (rowI ((Qp s).mult)) 0 (((Qp s).mult).length)] 0] (.bool (Xy (Qp s) kd pa oa)),(!(Xy (Qp s) kd pa oa))=true])
 (hr:AvLe (.tup [.nilPtr,.int .i64 1]) res):G Try.prog E [.code (Qd Try.prog 71)] ⟨[.agg [.rsl (Qb s.stages) 0 s.stages.length,.rsl (rowI s.worth) 0 s.worth.length,.int .i64 s.price],.clos 72 [] [.rptr [.int .i64 kd] 0,.rptr [.int .i64 pa] 0,.rptr [.int .i64 oa] 0]]++unds (Try.f71.ntmps - 2),[]⟩ :=
 Qc (n:=400) (evs:=[.v (.tup [.rptr [.rsl (Qb (((Qp s).s).stages)) 0 ((((Qp s).s).stages).length),.rsl (rowI (((Qp s).s).worth)) 0 ((((Qp s).s).worth).length),.int .i64 (((Qp s).s).price),.rsl (rowI ((Qp s).meas)) 0 (((Qp s).meas).length),.rsl (rowI ((Qp s).mult)) 0 (((Qp s).mult).length)] 0,.bool true]),.b false,.v (.bool (Xy (Qp s) kd pa oa)),.b true]) (obs:=_) hE Try.func71 Qh (by kernel_rfl) ho hr
theorem qp (s:Stl) (kd pa oa:Int) {E:Env} {res:AV} (hE:Qe Try.prog 71 res E) (ho:AllP [Qf Try.prog (.clos 61 [] []) [.agg [.rsl (Qb s.stages) 0 s.stages.length,.rsl (rowI s.worth) 0 s.worth.length,.int .i64 s.price]] (.tup [.rptr [.rsl (Qb (((Qp s).s).stages)) 0 ((((Qp s).s).stages).length),.rsl (rowI (((Qp s).s).worth)) 0 ((((Qp s).s).worth).length),.int .i64 (((Qp s).s).price),.rsl (rowI ((Qp s).meas)) 0 (((Qp s).meas).length),.rsl (rowI ((Qp s).mult)) 0 (((Qp s).mult).length)] 0,.bool true]),false=false,Qf Try.prog (.clos 72 [] [.rptr [.int .i64 kd] 0,.rptr [.int .i64 pa] 0,.rptr [.int .i64 oa] 0]) [.rptr [.rsl (Qb (((Qp s).s).stages)) 0 ((((Qp s).s).stages).length),.rsl (rowI (((Qp s).s).worth)) 0 ((((Qp s).s).worth).length),.int .i64 (((Qp s).s).price),.rsl (rowI ((Qp s).meas)) 0 (((Qp s).meas).length),.rsl (rowI ((Qp s).mult)) 0 (((Qp s).mult).length)] 0] (.bool (Xy (Qp s) kd pa oa)),(!(Xy (Qp s) kd pa oa))=false])
 (hr:AvLe (.tup [.rptr [.rsl (Qb (((Qp s).s).stages)) 0 ((((Qp s).s).stages).length),.rsl (rowI (((Qp s).s).worth)) 0 ((((Qp s).s).worth).length),.int .i64 (((Qp s).s).price),.rsl (rowI ((Qp s).meas)) 0 (((Qp s).meas).length),.rsl (rowI ((Qp s).mult)) 0 (((Qp s).mult).length)] 0,.int .i64 0]) res):G Try.prog E [.code (Qd Try.prog 71)] ⟨[.agg [.rsl (Qb s.stages) 0 s.stages.length,.rsl (rowI s.worth) 0 s.worth.length,.int .i64 s.price],.clos 72 [] [.rptr [.int .i64 kd] 0,.rptr [.int .i64 pa] 0,.rptr [.int .i64 oa] 0]]++unds (Try.f71.ntmps - 2),[]⟩ :=
 Qc (n:=400) (evs:=[.v (.tup [.rptr [.rsl (Qb (((Qp s).s).stages)) 0 ((((Qp s).s).stages).length),.rsl (rowI (((Qp s).s).worth)) 0 ((((Qp s).s).worth).length),.int .i64 (((Qp s).s).price),.rsl (rowI ((Qp s).meas)) 0 (((Qp s).meas).length),.rsl (rowI ((Qp s).mult)) 0 (((Qp s).mult).length)] 0,.bool true]),.b false,.v (.bool (Xy (Qp s) kd pa oa)),.b false]) (obs:=_) hE Try.func71 Qh (by kernel_rfl) ho hr
theorem qo (s:Stl) (kd pa oa:Int) {E:Env} {res:AV} (hE:Qe Try.prog 71 res E) (ho:AllP [Qf Try.prog (.clos 61 [] []) [.agg [.rsl (Qb s.stages) 0 s.stages.length,.rsl (rowI s.worth) 0 s.worth.length,.int .i64 s.price]] (.tup [.nilPtr,.bool false]),true=true])
 (hr:AvLe (.tup [.nilPtr,.int .i64 60]) res):G Try.prog E [.code (Qd Try.prog 71)] ⟨[.agg [.rsl (Qb s.stages) 0 s.stages.length,.rsl (rowI s.worth) 0 s.worth.length,.int .i64 s.price],.clos 72 [] [.rptr [.int .i64 kd] 0,.rptr [.int .i64 pa] 0,.rptr [.int .i64 oa] 0]]++unds (Try.f71.ntmps - 2),[]⟩ :=
 Qc (n:=400) (evs:=[.v (.tup [.nilPtr,.bool false]),.b true]) (obs:=_) hE Try.func71 Qh (by kernel_rfl) ho hr
theorem f71x72W (s:Stl) (kd pa oa:Int) {E:Env} {rv:AV} (hE:Qe Try.prog 71 rv E)
 (h:((((Xz s).isSome)=true→((s.stages.length≤9223372036854775807∧s.worth.length≤9223372036854775807)∧(((Qp s).s.worth.length≤1000000)∧(((Xy (Qp s) kd pa oa)=false→rv=(.tup [.nilPtr,.int .i64 1]))∧((Xy (Qp s) kd pa oa)=true→rv=(.tup [.rptr [.rsl (Qb (((Qp s).s).stages)) 0 ((((Qp s).s).stages).length),.rsl (rowI (((Qp s).s).worth)) 0 ((((Qp s).s).worth).length),.int .i64 (((Qp s).s).price),.rsl (rowI ((Qp s).meas)) 0 (((Qp s).meas).length),.rsl (rowI ((Qp s).mult)) 0 (((Qp s).mult).length)] 0,.int .i64 0]))))))∧(((Xz s).isSome)=false→((s.stages.length≤9223372036854775807∧s.worth.length≤9223372036854775807)∧rv=(.tup [.nilPtr,.int .i64 60]))))):G Try.prog E [.code (Qd Try.prog 71)] ⟨[.agg [.rsl (Qb s.stages) 0 s.stages.length,.rsl (rowI s.worth) 0 s.worth.length,.int .i64 s.price],.clos 72 [] [.rptr [.int .i64 kd] 0,.rptr [.int .i64 pa] 0,.rptr [.int .i64 oa] 0]]++unds (Try.f71.ntmps - 2),[]⟩:=by
 rcases bft ((Xz s).isSome) with hc0 | hc0
 · have h:=h.1 hc0
   obtain ⟨h1,h⟩:=h
   obtain ⟨h2,h⟩:=h
   rcases bft (!(Xy (Qp s) kd pa oa)) with hc1 | hc1
   · have h:=h.1 (bnT hc1)
     exact qq s kd pa oa hE ⟨(u61 (YQ s h1 hc0)),rfl,(u72 (qG (Qp s) kd pa oa h2)),hc1,trivial⟩ (AvLe.of_eq (by rw [h]; try rfl))
   · have h:=h.2 (bnF hc1)
     exact qp s kd pa oa hE ⟨(u61 (YQ s h1 hc0)),rfl,(u72 (qG (Qp s) kd pa oa h2)),hc1,trivial⟩ (AvLe.of_eq (by rw [h]; try rfl))
 · have h:=h.2 hc0
   obtain ⟨h1,h⟩:=h
   exact qo s kd pa oa hE ⟨(u61 (WH s h1 hc0)),rfl,trivial⟩ (AvLe.of_eq (by rw [h]; try rfl))
theorem yK (s:Stl) (kd pa oa:Int) (h:s.stages.length≤9223372036854775807∧s.worth.length≤9223372036854775807):Pure Try.prog 71 [.agg [.rsl (Qb s.stages) 0 s.stages.length,.rsl (rowI s.worth) 0 s.worth.length,.int .i64 s.price],.clos 72 [] [.rptr [.int .i64 kd] 0,.rptr [.int .i64 pa] 0,.rptr [.int .i64 oa] 0]] (begR s (Xy (Qp s) kd pa oa)):=Qv Try.func71 yG fun E hE=>by
 refine f71x72W s kd pa oa (rv:=begR s (Xy (Qp s) kd pa oa)) hE ⟨fun h0=>⟨h,?_⟩,fun h0=>⟨h,begR_F0 h0⟩⟩
 have hm:=(mok_G h0).1
 have hw:=(Xx hm.st).2.1
 have hs:=(Xx hm.st).1
 exact ⟨by omega,⟨fun h1=>begR_F1 h0 h1,fun h1=>begR_T h0 h1⟩⟩
theorem f25b:Try.f25.body=some (Qd Try.prog 25):=by kernel_rfl
theorem u25 {a c k:List AV} {r:AV} (h:Pure Try.prog 25 (a++c++k) r):Qf Try.prog (.clos 25 a k) c r:=Qo Try.func25 (by kernel_rfl) f25b h
abbrev z25_1 (s:Stl):List AV:=[.rsl (Qb (((Qp s).s).stages)) 0 ((((Qp s).s).stages).length),.rsl (rowI (((Qp s).s).worth)) 0 ((((Qp s).s).worth).length),.int .i64 (((Qp s).s).price),.rsl (rowI ((Qp s).meas)) 0 (((Qp s).meas).length),.rsl (rowI ((Qp s).mult)) 0 (((Qp s).mult).length)]
abbrev z25_2 (s:Stl):List AV:=[.rsl (Qb s.stages) 0 s.stages.length,.rsl (rowI s.worth) 0 s.worth.length,.int .i64 s.price]
abbrev z25_3 (s:Stl) (kd:Int) (pa:Int) (oa:Int):List AV:=[.agg (z25_2 s),.clos 72 [] [.rptr [.int .i64 kd] 0,.rptr [.int .i64 pa] 0,.rptr [.int .i64 oa] 0]]
theorem p25_start_0 (s:Stl) (kd:Int) (pa:Int) (oa:Int) {E:Env} {res:AV} (hE:Qe Try.prog 25 res E) (ho:AllP [Qf Try.prog (.clos 71 [] []) (z25_3 s kd pa oa) (.tup [.rptr (z25_1 s) 0,.int .i64 0]),false=false,Qf Try.prog (.clos 76 [] []) [.int .i64 kd] (.clos 113 [] [.rptr [.int .i64 kd] 0]),Qf Try.prog (.clos 77 [] []) [.rptr (z25_1 s) 0,.int .i64 pa,.int .i64 oa] (.clos 114 [] [.rptr [.int .i64 pa] 0,.rptr [.rptr (z25_1 s) 0] 0,.rptr [.int .i64 oa] 0]),Qf Try.prog (.clos 75 [] []) [.rptr (z25_1 s) 0,.clos 113 [] [.rptr [.int .i64 kd] 0],.clos 114 [] [.rptr [.int .i64 pa] 0,.rptr [.rptr (z25_1 s) 0] 0,.rptr [.int .i64 oa] 0]] (.agg [.int .i64 ((XT (Qp s) (QP kd) (Qt (Qp s) pa oa)).num),.int .i64 ((XT (Qp s) (QP kd) (Qt (Qp s) pa oa)).den)]),2≤2,(0:Int)≤0∧(0:Int)<((2:Nat):Int),(0:Int)≤1∧(1:Int)<((2:Nat):Int)])
 (hr:AvLe (.tup [.int .i64 ((XT (Qp s) (QP kd) (Qt (Qp s) pa oa)).num),.int .i64 ((XT (Qp s) (QP kd) (Qt (Qp s) pa oa)).den),.int .i64 0]) res):G Try.prog E [.code (Qd Try.prog 25)] ⟨[.agg (z25_2 s),.int .i64 kd,.int .i64 pa,.int .i64 oa]++unds (Try.f25.ntmps - 4),[]⟩ :=
 Qc (n:=400) (evs:=[.wt 5,.wt 6,.wt 7,.v (.tup [.rptr (z25_1 s) 0,.int .i64 0]),.b false,.v (.clos 113 [] [.rptr [.int .i64 kd] 0]),.v (.clos 114 [] [.rptr [.int .i64 pa] 0,.rptr [.rptr (z25_1 s) 0] 0,.rptr [.int .i64 oa] 0]),.v (.agg [.int .i64 ((XT (Qp s) (QP kd) (Qt (Qp s) pa oa)).num),.int .i64 ((XT (Qp s) (QP kd) (Qt (Qp s) pa oa)).den)])]) (obs:=_) hE Try.func25 Qh (by kernel_rfl) ho hr
theorem p25_start_1 (s:Stl) (kd:Int) (pa:Int) (oa:Int) {E:Env} {res:AV} (hE:Qe Try.prog 25 res E) (ho:AllP [Qf Try.prog (.clos 71 [] []) (z25_3 s kd pa oa) (.tup [.nilPtr,.int .i64 1]),true=true])
 (hr:AvLe (.tup [.int .i64 0,.int .i64 0,.int .i64 1]) res):G Try.prog E [.code (Qd Try.prog 25)] ⟨[.agg (z25_2 s),.int .i64 kd,.int .i64 pa,.int .i64 oa]++unds (Try.f25.ntmps - 4),[]⟩ :=
 Qc (n:=400) (evs:=[.wt 5,.wt 6,.wt 7,.v (.tup [.nilPtr,.int .i64 1]),.b true]) (obs:=_) hE Try.func25 Qh (by kernel_rfl) ho hr
theorem p25_start_2 (s:Stl) (kd:Int) (pa:Int) (oa:Int) {E:Env} {res:AV} (hE:Qe Try.prog 25 res E) (ho:AllP [Qf Try.prog (.clos 71 [] []) (z25_3 s kd pa oa) (.tup [.nilPtr,.int .i64 60]),true=true])
 (hr:AvLe (.tup [.int .i64 0,.int .i64 0,.int .i64 60]) res):G Try.prog E [.code (Qd Try.prog 25)] ⟨[.agg (z25_2 s),.int .i64 kd,.int .i64 pa,.int .i64 oa]++unds (Try.f25.ntmps - 4),[]⟩ :=
 Qc (n:=400) (evs:=[.wt 5,.wt 6,.wt 7,.v (.tup [.nilPtr,.int .i64 60]),.b true]) (obs:=_) hE Try.func25 Qh (by kernel_rfl) ho hr
theorem f25W (s:Stl) (kd:Int) (pa:Int) (oa:Int) {E:Env} {rv:(Int × Int × Int)} (hE:Qe Try.prog 25 (.tup [.int .i64 rv.1,.int .i64 rv.2.1,.int .i64 rv.2.2]) E)
 (h:((((Xz s).isSome)=true→(((Xy (Qp s) kd pa oa)=true→((s.stages.length≤9223372036854775807∧s.worth.length≤9223372036854775807)∧((MOk (Qp s))∧rv=((XT (Qp s) (QP kd) (Qt (Qp s) pa oa)).num,(XT (Qp s) (QP kd) (Qt (Qp s) pa oa)).den,0))))∧((Xy (Qp s) kd pa oa)=false→((s.stages.length≤9223372036854775807∧s.worth.length≤9223372036854775807)∧rv=(0,0,1)))))∧(((Xz s).isSome)=false→((s.stages.length≤9223372036854775807∧s.worth.length≤9223372036854775807)∧rv=(0,0,60))))):G Try.prog E [.code (Qd Try.prog 25)] ⟨[.agg [.rsl (Qb s.stages) 0 s.stages.length,.rsl (rowI s.worth) 0 s.worth.length,.int .i64 s.price],.int .i64 kd,.int .i64 pa,.int .i64 oa]++unds (Try.f25.ntmps - 4),[]⟩:=by
 rcases bft ((Xz s).isSome) with hc0 | hc0
 · have h:=h.1 hc0
   rcases bft (Xy (Qp s) kd pa oa) with hc1 | hc1
   · have h:=h.1 hc1
     obtain ⟨h1,h⟩:=h
     obtain ⟨h2,h⟩:=h
     exact p25_start_0 s kd pa oa hE ⟨(Qo Try.func71 (by kernel_rfl) yG (begR_T hc0 hc1 ▸ yK s kd pa oa h1)),rfl,(u76 (mkonly_ok kd)),(u77 (mkaims_ok (Qp s) pa oa)),(Qo Try.func75 (by kernel_rfl) f75ob (firsto_ok (Qp s) kd pa oa h2)),(by decide),(⟨by decide,by decide⟩),(⟨by decide,by decide⟩),trivial⟩ (AvLe.of_eq (by rw [h]; try rfl))
   · have h:=h.2 hc1
     obtain ⟨h1,h⟩:=h
     exact p25_start_1 s kd pa oa hE ⟨(Qo Try.func71 (by kernel_rfl) yG (begR_F1 hc0 hc1 ▸ yK s kd pa oa h1)),rfl,trivial⟩ (AvLe.of_eq (by rw [h]; try rfl))
 · have h:=h.2 hc0
   obtain ⟨h1,h⟩:=h
   exact p25_start_2 s kd pa oa hE ⟨(Qo Try.func71 (by kernel_rfl) yG (begR_F0 hc0 ▸ yK s kd pa oa h1)),rfl,trivial⟩ (AvLe.of_eq (by rw [h]; try rfl))
theorem f64b:Try.f64.body=some (Qd Try.prog 64):=by kernel_rfl
theorem u64 {a c k:List AV} {r:AV} (h:Pure Try.prog 64 (a++c++k) r):Qf Try.prog (.clos 64 a k) c r:=Qo Try.func64 (by kernel_rfl) f64b h
theorem p64_start_0 {E:Env} {res:AV} (hE:Qe Try.prog 64 res E) (ho:AllP [3≤3,0=0,0=0,0=0,0=0,0=0])
 (hr:AvLe (.agg [.rsl [.int .i64 3,.int .i64 0,.rsl [.int .i64 0,.int .i64 1,.int .i64 0,.int .i64 2] 0 2,.int .i64 1,.int .i64 0,.rsl [.int .i64 1,.int .i64 3,.int .i64 1,.int .i64 4] 0 2,.int .i64 1,.int .i64 0,.rsl [.int .i64 1,.int .i64 3,.int .i64 3,.int .i64 4] 0 2,.int .i64 4,.int .i64 0,.rsl [] 0 0,.int .i64 4,.int .i64 (-1),.rsl [] 0 0] 0 5,.rsl [.int .i64 100] 0 1,.int .i64 40]) res):G Try.prog E [.code (Qd Try.prog 64)] ⟨[]++unds (Try.f64.ntmps - 0),[]⟩ :=
 Qc (n:=400) (evs:=[.wt 13,.wt 14]) (obs:=_) hE Try.func64 Qh (by kernel_rfl) ho hr
theorem f64W {E:Env} {rv:Stl} (hE:Qe Try.prog 64 (.agg [.rsl (Qb rv.stages) 0 rv.stages.length,.rsl (rowI rv.worth) 0 rv.worth.length,.int .i64 rv.price]) E)
 (h:rv=(⟨[(⟨3,0,[(⟨0,1⟩:Trn),(⟨0,2⟩:Trn)]⟩:Stg),(⟨1,0,[(⟨1,3⟩:Trn),(⟨1,4⟩:Trn)]⟩:Stg),(⟨1,0,[(⟨1,3⟩:Trn),(⟨3,4⟩:Trn)]⟩:Stg),(⟨4,0,([]:List Trn)⟩:Stg),(⟨4,(-1),([]:List Trn)⟩:Stg)],[100],40⟩:Stl)):G Try.prog E [.code (Qd Try.prog 64)] ⟨[]++unds (Try.f64.ntmps - 0),[]⟩:=by
 exact p64_start_0 hE ⟨(by decide),rfl,rfl,rfl,rfl,rfl,trivial⟩ (AvLe.of_eq (by rw [h]; try rfl))
def Xt (s:Stl) (kd pa oa:Int):Int × Int × Int:=if (Xz s).isSome=true then (if Xy (Qp s) kd pa oa=true then ((XT (Qp s) (QP kd) (Qt (Qp s) pa oa)).num,(XT (Qp s) (QP kd) (Qt (Qp s) pa oa)).den,0) else (0,0,1)) else (0,0,60)
theorem WF (s:Stl) (kd pa oa:Int) (h:s.stages.length≤9223372036854775807∧s.worth.length≤9223372036854775807):Pure Try.prog 25 [.agg [.rsl (Qb s.stages) 0 s.stages.length,.rsl (rowI s.worth) 0 s.worth.length,.int .i64 s.price],.int .i64 kd,.int .i64 pa,.int .i64 oa] (.tup [.int .i64 (Xt s kd pa oa).1,.int .i64 (Xt s kd pa oa).2.1,.int .i64 (Xt s kd pa oa).2.2]):=Qv Try.func25 f25b fun E hE=>by
 refine f25W s kd pa oa (rv:=Xt s kd pa oa) hE ⟨fun h0=>⟨fun h1=>⟨h,(mok_G h0).1,?_⟩,fun h1=>⟨h,?_⟩⟩,fun h0=>⟨h,?_⟩⟩
 · rw [Xt,if_pos h0,if_pos h1]
 · rw [Xt,if_pos h0,if_neg (by rw [h1]; simp)]
 · rw [Xt,if_neg (by rw [h0]; simp)]
def exS:Stl:=⟨[⟨3,0,[⟨0,1⟩,⟨0,2⟩]⟩,⟨1,0,[⟨1,3⟩,⟨1,4⟩]⟩,⟨1,0,[⟨1,3⟩,⟨3,4⟩]⟩,⟨4,0,[]⟩,⟨4,-1,[]⟩],[100],40⟩
theorem Yk:Pure Try.prog 64 [] (.agg [.rsl (Qb exS.stages) 0 exS.stages.length,.rsl (rowI exS.worth) 0 exS.worth.length,.int .i64 exS.price]):=Qv Try.func64 f64b fun E hE=>f64W (rv:=exS) hE rfl
theorem f20b:Try.f20.body=some (Qd Try.prog 20):=by kernel_rfl
theorem u20 {a c k:List AV} {r:AV} (h:Pure Try.prog 20 (a++c++k) r):Qf Try.prog (.clos 20 a k) c r:=Qo Try.func20 (by kernel_rfl) f20b h
abbrev ql:AV:=.tup [.agg [.rsl (Qb (((Qn 3 2 1 3).1).stages)) 0 ((((Qn 3 2 1 3).1).stages).length),.rsl (rowI (((Qn 3 2 1 3).1).worth)) 0 ((((Qn 3 2 1 3).1).worth).length),.int .i64 (((Qn 3 2 1 3).1).price)],.int .i64 ((Qn 3 2 1 3).2)]
abbrev Ww:List AV:=[.rsl (Qb exS.stages) 0 exS.stages.length,.rsl (rowI exS.worth) 0 exS.worth.length,.int .i64 exS.price]
abbrev qk:AV:=.tup [.int .i64 ((Xt exS 0 2 1).1),.int .i64 ((Xt exS 0 2 1).2.1),.int .i64 ((Xt exS 0 2 1).2.2)]
abbrev z20_4:List AV:=[.int .i64 3,.int .i64 2,.int .i64 1,.int .i64 3]
abbrev z20_5:List AV:=[.agg Ww,.int .i64 0,.int .i64 2,.int .i64 1]
theorem p20_start_0 {E:Env} {res:AV} (hE:Qe Try.prog 20 res E) (ho:AllP [Qf Try.prog (.clos 64 [] []) [] (.agg Ww),Qf Try.prog (.clos 25 [] []) z20_5 qk,Qf Try.prog (.clos 21 [] []) z20_4 ql,3≤3,((Xt exS 0 2 1).2.2 == 0)=true,((Qn 3 2 1 3).2 == 0)=true,((Xt exS 0 2 1).1 == 1)=true,((Xt exS 0 2 1).2.1 == 4)=true])
 (hr:AvLe (.bool ((((((Qn 3 2 1 3).1).stages).length:Nat):Int) == 8)) res):G Try.prog E [.code (Qd Try.prog 20)] ⟨[]++unds (Try.f20.ntmps - 0),[]⟩ :=
 Qc (n:=400) (evs:=[.v (.agg Ww),.v qk,.v ql,.b true,.b true,.b true,.b true]) (obs:=_) hE Try.func20 Qh (by kernel_rfl) ho hr
theorem p20_start_1 {E:Env} {res:AV} (hE:Qe Try.prog 20 res E) (ho:AllP [Qf Try.prog (.clos 64 [] []) [] (.agg Ww),Qf Try.prog (.clos 25 [] []) z20_5 qk,Qf Try.prog (.clos 21 [] []) z20_4 ql,3≤3,((Xt exS 0 2 1).2.2 == 0)=true,((Qn 3 2 1 3).2 == 0)=true,((Xt exS 0 2 1).1 == 1)=true,((Xt exS 0 2 1).2.1 == 4)=false])
 (hr:AvLe (.bool false) res):G Try.prog E [.code (Qd Try.prog 20)] ⟨[]++unds (Try.f20.ntmps - 0),[]⟩ :=
 Qc (n:=400) (evs:=[.v (.agg Ww),.v qk,.v ql,.b true,.b true,.b true,.b false]) (obs:=_) hE Try.func20 Qh (by kernel_rfl) ho hr
theorem p20_start_2 {E:Env} {res:AV} (hE:Qe Try.prog 20 res E) (ho:AllP [Qf Try.prog (.clos 64 [] []) [] (.agg Ww),Qf Try.prog (.clos 25 [] []) z20_5 qk,Qf Try.prog (.clos 21 [] []) z20_4 ql,3≤3,((Xt exS 0 2 1).2.2 == 0)=true,((Qn 3 2 1 3).2 == 0)=true,((Xt exS 0 2 1).1 == 1)=false,false=false])
 (hr:AvLe (.bool false) res):G Try.prog E [.code (Qd Try.prog 20)] ⟨[]++unds (Try.f20.ntmps - 0),[]⟩ :=
 Qc (n:=400) (evs:=[.v (.agg Ww),.v qk,.v ql,.b true,.b true,.b false,.b false]) (obs:=_) hE Try.func20 Qh (by kernel_rfl) ho hr
theorem p20_start_3 {E:Env} {res:AV} (hE:Qe Try.prog 20 res E) (ho:AllP [Qf Try.prog (.clos 64 [] []) [] (.agg Ww),Qf Try.prog (.clos 25 [] []) z20_5 qk,Qf Try.prog (.clos 21 [] []) z20_4 ql,3≤3,((Xt exS 0 2 1).2.2 == 0)=true,((Qn 3 2 1 3).2 == 0)=false,false=false,false=false])
 (hr:AvLe (.bool false) res):G Try.prog E [.code (Qd Try.prog 20)] ⟨[]++unds (Try.f20.ntmps - 0),[]⟩ :=
 Qc (n:=400) (evs:=[.v (.agg Ww),.v qk,.v ql,.b true,.b false,.b false,.b false]) (obs:=_) hE Try.func20 Qh (by kernel_rfl) ho hr
theorem p20_start_4 {E:Env} {res:AV} (hE:Qe Try.prog 20 res E) (ho:AllP [Qf Try.prog (.clos 64 [] []) [] (.agg Ww),Qf Try.prog (.clos 25 [] []) z20_5 qk,Qf Try.prog (.clos 21 [] []) z20_4 ql,3≤3,((Xt exS 0 2 1).2.2 == 0)=false,false=false,false=false,false=false])
 (hr:AvLe (.bool false) res):G Try.prog E [.code (Qd Try.prog 20)] ⟨[]++unds (Try.f20.ntmps - 0),[]⟩ :=
 Qc (n:=400) (evs:=[.v (.agg Ww),.v qk,.v ql,.b false,.b false,.b false,.b false]) (obs:=_) hE Try.func20 Qh (by kernel_rfl) ho hr
theorem f20W {E:Env} {rv:Bool} (hE:Qe Try.prog 20 (.bool rv) E)
 (h:((exS.stages.length≤9223372036854775807∧exS.worth.length≤9223372036854775807)∧(((Xt exS 0 2 1).2.2=0→(((Qn 3 2 1 3).2=0→(((Xt exS 0 2 1).1=1→(((Xt exS 0 2 1).2.1=4→rv=((((((Qn 3 2 1 3).1).stages).length:Nat):Int) == 8))∧(¬ ((Xt exS 0 2 1).2.1=4)→rv=false)))∧(¬ ((Xt exS 0 2 1).1=1)→rv=false)))∧(¬ ((Qn 3 2 1 3).2=0)→rv=false)))∧(¬ ((Xt exS 0 2 1).2.2=0)→rv=false)))):G Try.prog E [.code (Qd Try.prog 20)] ⟨[]++unds (Try.f20.ntmps - 0),[]⟩:=by
 obtain ⟨h1,h⟩:=h
 rcases bft ((Xt exS 0 2 1).2.2 == 0) with hc0 | hc0
 · have h:=h.1 (eq_of_beq hc0)
   rcases bft ((Qn 3 2 1 3).2 == 0) with hc1 | hc1
   · have h:=h.1 (eq_of_beq hc1)
     rcases bft ((Xt exS 0 2 1).1 == 1) with hc2 | hc2
     · have h:=h.1 (eq_of_beq hc2)
       rcases bft ((Xt exS 0 2 1).2.1 == 4) with hc3 | hc3
       · have h:=h.1 (eq_of_beq hc3)
         exact p20_start_0 hE ⟨(u64 (Yk )),(u25 (WF exS 0 2 1 h1)),(u21 (Xw 3 2 1 3)),(by decide),hc0,hc1,hc2,hc3,trivial⟩ (AvLe.of_eq (by rw [h]; try rfl))
       · have h:=h.2 (ne_of_beq_false hc3)
         exact p20_start_1 hE ⟨(u64 (Yk )),(u25 (WF exS 0 2 1 h1)),(u21 (Xw 3 2 1 3)),(by decide),hc0,hc1,hc2,hc3,trivial⟩ (AvLe.of_eq (by rw [h]; try rfl))
     · have h:=h.2 (ne_of_beq_false hc2)
       exact p20_start_2 hE ⟨(u64 (Yk )),(u25 (WF exS 0 2 1 h1)),(u21 (Xw 3 2 1 3)),(by decide),hc0,hc1,hc2,rfl,trivial⟩ (AvLe.of_eq (by rw [h]; try rfl))
   · have h:=h.2 (ne_of_beq_false hc1)
     exact p20_start_3 hE ⟨(u64 (Yk )),(u25 (WF exS 0 2 1 h1)),(u21 (Xw 3 2 1 3)),(by decide),hc0,hc1,rfl,rfl,trivial⟩ (AvLe.of_eq (by rw [h]; try rfl))
 · have h:=h.2 (ne_of_beq_false hc0)
   exact p20_start_4 hE ⟨(u64 (Yk )),(u25 (WF exS 0 2 1 h1)),(u21 (Xw 3 2 1 3)),(by decide),hc0,rfl,rfl,rfl,trivial⟩ (AvLe.of_eq (by rw [h]; try rfl))
theorem odds_ex:Xt exS 0 2 1=(1,4,0):=by decide +kernel
theorem throws_ex:(Qn 3 2 1 3).2=0∧(Qn 3 2 1 3).1.stages.length=8:=by decide +kernel
theorem works_ok:Pure Try.prog 20 [] (.bool true):=Qv Try.func20 f20b fun E hE=>by
 have h1:=odds_ex
 have h2:=throws_ex
 refine f20W (rv:=true) hE ⟨⟨by decide,by decide⟩,fun _=>⟨fun _=>⟨fun _=>⟨fun _=>?_,fun h=>?_⟩,fun h=>?_⟩,fun h=>?_⟩,fun h=>?_⟩
 · rw [h2.2]; rfl
 · rw [h1] at h; exact absurd rfl h
 · rw [h1] at h; exact absurd rfl h
 · exact absurd h2.1 h
 · rw [h1] at h; exact absurd rfl h
end Go.Proofs.Ytfgmlaeikcfpbaa
namespace Go.Proofs.Ytfgmlaeikcfpbaa
open Go Ax
open Go.Proofs
theorem ownT:ownKnob Try.prog.godebug=none:=by kernel_rfl
theorem laidT:laidOutB Try.prog=true:=by kernel_rfl
theorem dInts (W:World):Dec Try.prog W 23 (List Int) (fun a=>[.rsl (rowI a) 0 a.length]) (fun a=>a.length≤9223372036854775807):=by
 refine Dec.map (dec_slice Try.underlying23 (n:=1) (by kernel_rfl) (by decide) (fun _=>rfl) (fun _=>rfl) (YW Try.underlying3)) (fun x=>x) ?_ ?_
 · exact fun _=>rfl
 · exact fun _ h=>h.1
end Go.Proofs.Ytfgmlaeikcfpbaa
namespace Go.Proofs.Ytfgmlaeikcfpbaa
open Go Ax
open Go.Proofs
/-! ### What the values are,in the end -/
structure VFix (m:Mch) (w:Int→Int) (ch:Int→List Int→Int) (i:Nat) (p:List Int × List Int):Prop where
 fx:∀ (j:Nat) (x:Stg),i≤j→m.s.stages[j]?=some x →
  (x.kind=4→p.1.getD j 0=(if x.prize≥0 then w x.prize else 0)∧p.2.getD j 0=0) ∧
  (x.kind=1→p.1.getD j 0=sumW x.turns (XL m j p.1 x.turns)∧p.2.getD j 0=0) ∧
  (x.kind ≠ 4→x.kind ≠ 1→p.1.getD j 0=(XL m j p.1 x.turns).getD (Int.toNat (p.2.getD j 0)) 0∧p.2.getD j 0=ch j (XL m j p.1 x.turns))
/-! ### Who chooses -/
/-! ### The reference's greatest common divisor is the program's -/
/-! ### What an end is worth -/
end Go.Proofs.Ytfgmlaeikcfpbaa
namespace Go.Proofs.Ytfgmlaeikcfpbaa
open Go Ax
open Go.Proofs
def planE (s:Stl) (plan:List Int):Int:=if QG s=0 then (if planOk s plan=true then 0 else 1) else 60
/-! ### The end values of a machine,turn by turn -/
structure Aims where
 kind:Int
 player:Int
 operator:Int
theorem f29b:Try.f29.body=some (Qd Try.prog 29):=by kernel_rfl
theorem u29 {a c k:List AV} {r:AV} (h:Pure Try.prog 29 (a++c++k) r):Qf Try.prog (.clos 29 a k) c r:=Qo Try.func29 (by kernel_rfl) f29b h
def f29K0 (P:Program):List Item:=kAt 400 [.code (Qd P 29)] [.b false,.stop]
def f29S0 (a:(List Int)) (b:(List Int)) (i:Nat):St:=⟨([.rsl (rowI a) 0 a.length,.rsl (rowI b) 0 b.length,J,J,J,.int .i64 (i:Int)]++Js 20),[]⟩
def f29G0 (E:Env) (a:(List Int)) (b:(List Int)) (i:Nat):Prop:=G Try.prog E (f29K0 Try.prog) (f29S0 a b i )
theorem p29_start_0 (a:(List Int)) (b:(List Int)) {E:Env} {res:AV} (hE:Qe Try.prog 29 res E) (ho:AllP [((a.length:Int) != (b.length:Int))=true])
 (hr:AvLe (.bool false) res):G Try.prog E [.code (Qd Try.prog 29)] ⟨[.rsl (rowI a) 0 a.length,.rsl (rowI b) 0 b.length]++unds (Try.f29.ntmps - 2),[]⟩ :=
 Qc (n:=400) (evs:=[.b true]) (obs:=_) hE Try.func29 Qh (by kernel_rfl) ho hr
theorem p29_start_1 (a:(List Int)) (b:(List Int)) {E:Env} {rv:AV} (hE:Qe Try.prog 29 rv E) (ho:AllP [((a.length:Int) != (b.length:Int))=false])
 (hg:G Try.prog E (f29K0 Try.prog) ⟨([.rsl (rowI a) 0 a.length,.rsl (rowI b) 0 b.length,J,J,J,.int .i64 0]++Js 20),[]⟩):G Try.prog E [.code (Qd Try.prog 29)] ⟨[.rsl (rowI a) 0 a.length,.rsl (rowI b) 0 b.length]++unds (Try.f29.ntmps - 2),[]⟩ :=
 Qg (n:=400) (ds:=[]) (cs:=[]) (live:=[0,1,5]) (m:=0) (evs:=[.b false,.stop]) (obs:=_) hE.2.1 (hE.nogh _) Qh (by kernel_rfl) ho hg
theorem f29W (a:(List Int)) (b:(List Int)) {E:Env} {rv:Bool} (hE:Qe Try.prog 29 (.bool rv) E)
 (h:((¬ ((a.length:Int)=(b.length:Int))→rv=false)∧((a.length:Int)=(b.length:Int)→f29G0 E a b 0))):G Try.prog E [.code (Qd Try.prog 29)] ⟨[.rsl (rowI a) 0 a.length,.rsl (rowI b) 0 b.length]++unds (Try.f29.ntmps - 2),[]⟩:=by
 rcases bft ((a.length:Int) != (b.length:Int)) with hc0 | hc0
 · have h:=h.1 (bneT hc0)
   exact p29_start_0 a b hE ⟨hc0,trivial⟩ (AvLe.of_eq (by rw [h]; try rfl))
 · have h:=h.2 (bneF hc0)
   exact p29_start_1 a b hE ⟨hc0,trivial⟩ h
theorem p29_0_0 (a:(List Int)) (b:(List Int)) (i:Nat) (e:Int) (e1:Int) {E:Env} {res:AV} (hE:Qe Try.prog 29 res E) (ho:AllP [(decide ((i:Int)<(a.length:Int)))=true,0≤(i:Int)∧(i:Int)<(a.length:Int),((rowI a).drop (0+(Int.toNat (i:Int))*1)).take 1=[.int .i64 e],0≤(i:Int)∧(i:Int)<(b.length:Int),((rowI b).drop (0+(Int.toNat (i:Int))*1)).take 1=[.int .i64 e1],(e != e1)=true])
 (hr:AvLe (.bool false) res):G Try.prog E (f29K0 Try.prog) (f29S0 a b i ) :=
 Qc (n:=400) (evs:=[.b true,.ld (.int .i64 e),.ld (.int .i64 e1),.b true]) (obs:=_) hE Try.func29 Qh (by kernel_rfl) ho hr
theorem p29_0_1 (a:(List Int)) (b:(List Int)) (i:Nat) (e:Int) (e1:Int) {E:Env} {rv:AV} (hE:Qe Try.prog 29 rv E) (ho:AllP [(decide ((i:Int)<(a.length:Int)))=true,0≤(i:Int)∧(i:Int)<(a.length:Int),((rowI a).drop (0+(Int.toNat (i:Int))*1)).take 1=[.int .i64 e],0≤(i:Int)∧(i:Int)<(b.length:Int),((rowI b).drop (0+(Int.toNat (i:Int))*1)).take 1=[.int .i64 e1],(e != e1)=false,InR .i64 ((i:Int)+1)])
 (hg:G Try.prog E (f29K0 Try.prog) ⟨([.rsl (rowI a) 0 a.length,.rsl (rowI b) 0 b.length,J,J,J,.int .i64 ((i:Int)+1)]++Js 20),[]⟩):G Try.prog E (f29K0 Try.prog) (f29S0 a b i ) :=
 Qg (n:=400) (ds:=[]) (cs:=[]) (live:=[0,1,5]) (m:=0) (evs:=[.b true,.ld (.int .i64 e),.ld (.int .i64 e1),.b false,.stop]) (obs:=_) hE.2.1 (hE.nogh _) Qh (by kernel_rfl) ho hg
theorem p29_0_2 (a:(List Int)) (b:(List Int)) (i:Nat) {E:Env} {res:AV} (hE:Qe Try.prog 29 res E) (ho:AllP [(decide ((i:Int)<(a.length:Int)))=false])
 (hr:AvLe (.bool true) res):G Try.prog E (f29K0 Try.prog) (f29S0 a b i ) :=
 Qc (n:=400) (evs:=[.b false]) (obs:=_) hE Try.func29 Qh (by kernel_rfl) ho hr
theorem f29W0 (a:(List Int)) (b:(List Int)) (i:Nat) {E:Env} {rv:Bool} (hE:Qe Try.prog 29 (.bool rv) E)
 (h:(((i:Int)<(a.length:Int)→(∃ e:Int,a[i]?=some e∧(∃ e1:Int,b[i]?=some e1∧((¬ (e=e1)→rv=false)∧(e=e1→((I6 ((i:Int)+1))∧f29G0 E a b (i+1)))))))∧(¬ ((i:Int)<(a.length:Int))→rv=true))):f29G0 E a b i:=by
 rcases bft (decide ((i:Int)<(a.length:Int))) with hc0 | hc0
 · have h:=h.1 (odt hc0)
   obtain ⟨e,h1,h⟩:=h
   obtain ⟨e1,h2,h⟩:=h
   rcases bft (e != e1) with hc1 | hc1
   · have h:=h.1 (bneT hc1)
     exact p29_0_0 a b i e e1 hE ⟨hc0,(Qs h1),(rp cI 1 0 1 h1),(Qs h2),(rp cI 1 0 1 h2),hc1,trivial⟩ (AvLe.of_eq (by rw [h]; try rfl))
   · have h:=h.2 (bneF hc1)
     obtain ⟨q8_2,h⟩:=h
     exact p29_0_1 a b i e e1 hE ⟨hc0,(Qs h1),(rp cI 1 0 1 h1),(Qs h2),(rp cI 1 0 1 h2),hc1,q8_2,trivial⟩ h
 · have h:=h.2 (odf hc0)
   exact p29_0_2 a b i hE ⟨hc0,trivial⟩ (AvLe.of_eq (by rw [h]; try rfl))
theorem YO (a b:List Int) (h:a.length≤9223372036854775807∧a=b):Pure Try.prog 29 [.rsl (rowI a) 0 a.length,.rsl (rowI b) 0 b.length] (.bool true):=Qv Try.func29 f29b fun E hE=>by
 obtain ⟨h,rfl⟩:=h
 refine f29W a a (rv:=true) hE ⟨fun h=>absurd rfl h,fun _=>?_⟩
 have key:∀ (d i:Nat),i+d=a.length→f29G0 E a a i:=by
  intro d
  induction d with
  | zero=>intro i hd; exact f29W0 a a i (rv:=true) hE ⟨fun h=>by omega,fun _=>rfl⟩
  | succ d ih =>
   intro i hd
   have hi:a[i]?=some a[i]:=List.getElem?_eq_getElem (by omega)
   exact f29W0 a a i (rv:=true) hE ⟨fun _=>⟨_,hi,_,hi,fun h=>absurd rfl h,fun _=>⟨by omega,ih (i+1) (by omega)⟩⟩,fun h=>by omega⟩
 exact key a.length 0 (by omega)
end Go.Proofs.Ytfgmlaeikcfpbaa
namespace Go.Proofs.Ytfgmlaeikcfpbaa
open Go Ax
open Go.Proofs
structure Rul where
 tickets:Int
 wins:Int
 n:Int
 need:Int
 hit:Int
 miss:Int
def cRul (a:Rul):List AV:=[.int .i64 a.tickets,.int .i64 a.wins,.int .i64 a.n,.int .i64 a.need,.int .i64 a.hit,.int .i64 a.miss]
structure Sup where
 kind:Int
 stock:Int
 plays:Int
structure Hnd where
 plan:List Int
 draws:List Int
/-! ### Fractions -/
/-! ### Planned -/
def meas0I (s:Stl):Int:=(Qp s).meas.getD 0 0
theorem dRul (W:World):Dec Try.prog W 31 Rul cRul (fun a=>True):=by
 refine Dec.map (dec_struct Try.underlying31 rfl (tot:=6) (by kernel_rfl) (XO (n:=1) (tot:=6) (by kernel_rfl) rfl (YW Try.underlying3) (XO (n:=1) (tot:=6) (by kernel_rfl) rfl (YW Try.underlying3) (XO (n:=1) (tot:=6) (by kernel_rfl) rfl (YW Try.underlying3) (XO (n:=1) (tot:=6) (by kernel_rfl) rfl (YW Try.underlying3) (XO (n:=1) (tot:=6) (by kernel_rfl) rfl (YW Try.underlying3) (XO (n:=1) (tot:=6) (by kernel_rfl) rfl (YW Try.underlying3) decFs_nil (by decide)) (by decide)) (by decide)) (by decide)) (by decide)) (by decide))) (fun x=>(⟨x.1,x.2.1,x.2.2.1,x.2.2.2.1,x.2.2.2.2.1,x.2.2.2.2.2.1⟩:Rul)) ?_ ?_
 · exact fun _=>rfl
 · exact fun _ _=>trivial
end Go.Proofs.Ytfgmlaeikcfpbaa
namespace Go.Proofs.Ytfgmlaeikcfpbaa
open Go Ax
open Go.Proofs
structure Fr2 where
 lo:Fr
 hi:Fr
end Go.Proofs.Ytfgmlaeikcfpbaa
namespace Ax
open Go
section
variable {P:Program} {E:Env} {K:List Item} {st:St}
end
end Ax
namespace Go.Proofs.Ytfgmlaeikcfpbaa
open Go Ax
open Go.Proofs
/-! ### What a stage is worth at most -/
/-! ### Ways -/
def wGo (a b:Int):Int→List Int→List Int
 | c,[]=>[c]
 | c,x :: xs=>(c+x*b) :: wGo a b (x*a) xs
def waysN (a b:Int):Nat→List Int
 | 0=>[1]
 | n+1=>wGo a b 0 (waysN a b n)
def powN (d:Int):Nat→Int
 | 0=>1
 | n+1=>powN d n*d
/-! ### Enough -/
def enF (s:Stl) (plan:List Int) (kd:Int):Fr:=XT (Qp s) (QP kd) (fun i _=>planI plan i)
def enN (f:Fr) (st:Int) (n:Nat):Int:=((waysN f.num (f.den - f.num) n).take (Int.toNat (st+1))).sum
def enoughF (f:Fr) (st:Int) (n:Nat):Int × Int × Int:=if powN f.den n≤1000000000000 then ((YT (enN f st n) (powN f.den n)).num,(YT (enN f st n) (powN f.den n)).den,0) else (0,0,2)
def enoughK (s:Stl) (plan:List Int) (kd st ps:Int):Int × Int × Int :=
 if planE s plan=0 then (if (Qa kd 0 ((s.worth.length:Int) - 1) && (Qa st 0 1000 && Qa ps 0 1000))=true then enoughF (enF s plan kd) st (Int.toNat ps) else (0,0,1)) else (0,0,planE s plan)
/-- What lies in the new list after 'k' rounds. -/
structure WInv (a b:Int) (w:List Int) (k:Nat) (v:List Int):Prop where
 len:v.length=w.length+1
 eq:∃ c,v[k]?=some c∧0≤c∧wGo a b 0 w=v.take k++wGo a b c (w.drop k)
 z:∀ j,k<j→j<v.length→v[j]?=some 0
end Go.Proofs.Ytfgmlaeikcfpbaa
namespace Go.Proofs.Ytfgmlaeikcfpbaa
open Go Ax
open Go.Proofs
/-! ### Fractions in parts of the measure -/
def FrV (s:Stl) (a:Fr):Int:=a.num*Int.tdiv (meas0I s) a.den
structure FrOk (s:Stl) (a:Fr):Prop where
 pos:0<a.den
 dvd:a.den∣meas0I s
 bd:-100000000000000000≤FrV s a∧FrV s a≤100000000000000000
end Go.Proofs.Ytfgmlaeikcfpbaa
namespace Go.Proofs.Ytfgmlaeikcfpbaa
open Go Ax
open Go.Proofs
structure WideOk (a b m n q:Int):Prop where
 q0:0<q
 qb:q∣b
 qn:q∣n
 a0:0≤a∧a≤b
 m0:0≤m∧m≤n
 b0:b≤1000000000000
 n0:n≤1000000000000
 le:a*n≤m*b
structure EnOk (s:Stl) (plan:List Int) (kd st ps D N:Int):Prop where
 d0:0<D∧D≤1000000000000
 n0:0≤N∧N≤D
 k:enoughK s plan kd st ps=((YT N D).num,(YT N D).den,0)
/-! ### All kinds together -/
end Go.Proofs.Ytfgmlaeikcfpbaa
namespace Go.Proofs.Ytfgmlaeikcfpbaa
open Go Ax
open Go.Proofs
/-! ### The stages of throws and bags -/
/-! ### Their measures -/
/-! ### Their values -/
section Vals
variable {op:Int→Int→Bool} {wg:Int→Int→Int × Int} {n:Nat} {need:Int} {pa oa:Int}
def vals (s:Stl) (pa oa:Int):List Int:=(valA (Qp s) (QP 0) (Qt (Qp s) pa oa)).1
end Vals
end Go.Proofs.Ytfgmlaeikcfpbaa
namespace Go.Proofs.Ytfgmlaeikcfpbaa
open Go Ax
open Go.Proofs
/-! ### Throws and bags that have been made -/
end Go.Proofs.Ytfgmlaeikcfpbaa
namespace Ax
open Go
section
variable {P:Program} {E:Env} {K K':List Item} {st st':St}
/-! ### The frame of a deferred closure -/
def EndedK (P:Program) (f:FuncId) (cs:List Frame) (Post:Value→World→Prop) (m:Machine):Prop :=
 ∃ v w' fr,m=lone fr cs w'∧fr.kind=.deferred∧fr.going P w' (.returned v)∧Post v w'
structure LentKE (P:Program) (f:FuncId) (gA:List AV) (res:AV) (bs2:List Blk) (E:Env):Prop where
 ro:E.b.roundOf=none
 kind:E.b.kind=.deferred
 fn:E.b.fn=f
 gA:E.gA=gA
 df:E.df=[]
 fin:E.Fin=EndedK P f E.cs (Left E.Z0 E.M E.w0 E.Cb res bs2)
theorem LentKE.nogh {f:FuncId} {k g:Nat} {res:AV} {bs2:List Blk} (hE:LentKE P f [.sl k g 0 0 1] res bs2 E) {m:Nat} (h:Nat.ble (k+1) m=true):refsBelows m E.gA=true:=by
 rw [hE.gA]
 have:=Nat.le_of_ble_eq_true h
 simp [refsBelows,QL]; omega
/-! ### The frame that has deferred -/
structure LentDE (P:Program) (f:FuncId) (g0:List AV) (clo:AV) (res:AV) (bs2:List Blk) (E:Env):Prop where
 ro:E.b.roundOf=none
 kind:E.b.kind=.normal
 fn:E.b.fn=f
 gA:E.gA=g0++[clo]
 df:∃ cf d,E.gV.getLast?=some cf∧(∀ w,(Deferred.ofValue cf #[]).run P w=.ok d w)∧E.df=[d]
 fin:E.Fin=VO P f E.cs (Left E.Z0 E.M E.w0 E.Cb res bs2)
 low:∀ n,refsBelows n g0=true→∀ k,n≤k→E.Cb.β k=.absent∧E.Cb.γ k=0
theorem LentDE.nogh {f:FuncId} {k g fi k2 g2 o2:Nat} {res:AV} {bs2:List Blk} (hE:LentDE P f [.sl k g 0 0 1] (.clos fi [] [.ptr k2 g2 o2]) res bs2 E) {m:Nat} (h:(Nat.ble (k+1) m && Nat.ble (k2+1) m)=true):refsBelows m E.gA=true:=by
 rw [hE.gA]
 rw [Bool.and_eq_true] at h
 have h1:=Nat.le_of_ble_eq_true h.1
 have h2:=Nat.le_of_ble_eq_true h.2
 simp [refsBelows,QL]; omega
/-! ### What comes back in new memory -/
structure PureNE (P:Program) (f:FuncId) (res:AV) (E:Env):Prop where
 ro:E.b.roundOf=none
 kind:E.b.kind=.normal
 fn:E.b.fn=f
 nm:∀ b,¬ E.M b
 gA:E.gA=[]
 fin:E.Fin=(VO P f E.cs fun v w'=>VR (Zn E.w0 w') w' C0 res v∧Fr E.w0 (fun _=>False) w')
 cb:E.Cb=C0
 df:E.df=[]
theorem PureNE.nogh {f:FuncId} {res:AV} (hE:PureNE P f res E) (m:Nat):refsBelows m E.gA=true:=by rw [hE.gA]; rfl
theorem VR.layN {Z Z0 M:Nat→Prop} {w0 w:World} {C:Ctx} {blks:List Blk} (hm:Mem Z0 M w0 C Z blks w) {k g off len sz:Nat} {b:Blk} {c:Value} (hb:blks[k]?=some b) (hl:b.live=true) (hz:b.sz ≠ 0) (hf:b.flat=true) (hg:g=b.gen) (hsc:∀ x ∈ b.cells,XZ x=true)
 (h:VR Z w C (.sl k g off len sz) c) {C':Ctx}:VR (fun c=>∃ o,C.β k=.loc c o) w C' (.rsl b.cells off len) c:=by
 have hok:=sl_at hm hb hg h
 obtain ⟨hk,h1⟩:=hm.blk k b hb hl
 unfold SlOk at hok
 split at hok
 · rename_i bl o hβ
   obtain ⟨a,cap,rfl,hlc,ha,-⟩:=hok
   simp only [hβ] at h1
   obtain ⟨arr,e,hh,hsz,hc⟩:=h1.cells hz
   by_cases hlen:len=0
   · subst hlen; exact .rsl0
   · obtain rfl:=ha (by omega)
     refine .rsl (fun i=>arr.getD (o+i) undef) ⟨o,hβ⟩ hlc (fun i hi=>?_) hk (fun i c hi=>?_)
     · rw [XU hh]; simp [Array.getD,show o+i<arr.size by omega]
     · obtain ⟨v,h2,h3⟩:=hc i c hi
       simp only [hf,if_true] at h3
       have:arr.getD (o+i) undef=v:=by
        have hlt:=(Array.getElem?_eq_some_iff.1 h2).1
        simp [Array.getD,hlt]; exact (Array.getElem?_eq_some_iff.1 h2).2
       show VR _ w C0 c (arr.getD (o+i) undef)
       rw [this]
       exact Vv (hsc c (List.mem_of_getElem? hi)) h3
 · obtain ⟨rfl,a,rfl⟩:=hok
   exact .rsl0
 · exact hok.elim
end
end Ax
namespace Ax
open Go
section
variable {P:Program} {E:Env} {K K':List Item} {st st':St}
def cutOk (n:Nat) (blks:List Blk):Bool:=(blks.take n).all fun b=>!b.live || b.flat || refsBelows n (bif b.sz == 0 then b.cells.take 1 else b.cells)
theorem Mem.cut {Z0 M Z:Nat→Prop} {w0 w:World} {C:Ctx} {blks:List Blk} {n:Nat} (hm:Mem Z0 M w0 C Z blks w) (h2:cutOk n blks=true):Mem Z0 M w0 (C.cut n) Z (blks.take n) w:=by
 have hget:∀ {k:Nat} {b:Blk},(blks.take n)[k]?=some b→k<n∧blks[k]?=some b:=by
  intro k b hb
  rw [List.getElem?_take] at hb
  split at hb
  · exact ⟨‹_›,hb⟩
  · cases hb
 refine ⟨fun k b hb hl=>?_,fun k b hb=>?_,fun k b hb hd=>?_,fun k hk=>?_,fun k k' c o o' e1 e2=>?_,fun k c o e1=>?_,hm.zlt,hm.z0,hm.zsub,hm.frame⟩
 · obtain ⟨hkn,hb'⟩:=hget hb
   obtain ⟨q1,q2⟩:=hm.blk k b hb' hl
   refine ⟨q1,?_⟩
   simp only [Ctx.cut,hkn,if_true]
   cases hs:C.β k with
   | absent=>simp [hs] at q2
   | unborn=>simp only [hs] at q2 ⊢; exact q2
   | loc blk o =>
    simp only [hs] at q2 ⊢
    refine q2.next1 rfl (fun c v h=>h) fun hf c v hc s2=>?_
    have:=List.all_eq_true.1 h2 b (List.mem_of_getElem? hb)
    simp only [hl,hf,Bool.not_true,Bool.false_or] at this
    obtain ⟨i,hi⟩:=List.getElem?_of_mem hc
    exact s2.cut (QK this hi)
 · obtain ⟨hkn,hb'⟩:=hget hb
   simp only [Ctx.cut,hkn,if_true]; exact hm.gen k b hb'
 · obtain ⟨hkn,hb'⟩:=hget hb
   simp only [Ctx.cut,hkn,if_true]; exact hm.dd k b hb' hd
 · simp only [List.length_take] at hk
   simp only [Ctx.cut]
   by_cases hkn:k<n
   · simp only [hkn,if_true]; exact hm.dom k (by omega)
   · simp [hkn]
 · simp only [Ctx.cut] at e1 e2
   split at e1 <;> split at e2 <;> first | exact hm.inj k k' c o o' e1 e2 | cases e1 | cases e2
 · simp only [Ctx.cut] at e1
   split at e1
   · exact hm.own k c o e1
   · cases e1
def endW (P:Program) (fn:Func) (m n:Nat) (K:List Item) (st:St) (evs:List EV):Option (AV × List Blk × List Prop) :=
 match walk P n K st evs with
 | some (K',st1,evs1,o1) =>
  (match isEnd K',resA P st1 fn.results.toList evs1 with
  | true,some (vs,_,o2)=>(match Xm (tupA vs),cutOk m st1.blks with
   | true,true=>some (tupA vs,st1.blks.take m,o1++o2)
   | _,_=>none)
  | _,_=>none)
 | none=>none
theorem endW_step {n m:Nat} {f:FuncId} {fn:Func} {evs:List EV} {r res:AV} {gA:List AV} {bs2 bs3:List Blk} {obs:List Prop} (hE:LentE P f gA res bs2 E) (hgh:refsBelows m E.gA=true) (hf:P.funcs[f]?=some fn) (hmx:P.follows .mixedOrders=true)
 (h:endW P fn m n K st evs=some (r,bs3,obs)) (ho:AllP obs) (hr:AvLe r res) (hb:bs3=bs2):G P E K st:=by
 subst hb
 unfold endW at h
 split at h
 · rename_i K' st1 evs1 o1 h1
   split at h
   · rename_i vs evs2 o2 hK h3
     split at h
     · rename_i hn hc
       simp only [Option.some.injEq,Prod.mk.injEq] at h
       obtain ⟨rfl,rfl,rfl⟩:=h
       obtain ⟨a1,a2⟩:=Qq.1 ho
       have hfn:=hE.fn
       exact QH hE.kind hmx h1 a1 (G_end (Post:=Left E.Z0 E.M E.w0 E.Cb res (st1.blks.take m)) hE.ro hE.kind hE.df (by rw [hfn]; exact hf) (by rw [hE.fin,hfn]) h3 a2 (fun C Z w v hm hv hbs=>⟨C.cut m,Z,hbs.cut (E.low m hgh),hm.cut hc,(hr _ _ _ (hv.ctx hn)).of0⟩) (VD hK))
     · cases h
   · cases h
 · cases h
/-! ### Nil slices in a block's cells,seen as empty ones -/
def LeD:List AV→List AV→Prop
 | [],[]=>True
 | x :: xs,y :: ys=>(x=y ∨ (x=.nilSl∧y=.rsl [] 0 0))∧LeD xs ys
 | _,_=>False
theorem LeD.refl:∀ (a:List AV),LeD a a
 | []=>trivial
 | _ :: a=>⟨.inl rfl,LeD.refl a⟩
theorem LeD.app:∀ {a b c d:List AV},LeD a b→LeD c d→LeD (a++c) (b++d)
 | [],[],_,_,_,h=>h
 | _ :: _,_ :: _,_,_,h1,h2=>⟨h1.1,LeD.app h1.2 h2⟩
theorem LeD.length:∀ {a b:List AV},LeD a b→b.length=a.length
 | [],[],_=>rfl
 | _ :: _,_ :: _,h=>by simp [LeD.length h.2]
theorem LeD.get:∀ {a b:List AV} {i:Nat} {y:AV},LeD a b→b[i]?=some y→∃ x,a[i]?=some x∧(x=y ∨ (x=.nilSl∧y=.rsl [] 0 0))
 | [],[],i,y,_,h=>by simp at h
 | x :: a,z :: b,0,y,h,hi=>by simp at hi; subst hi; exact ⟨x,rfl,h.1⟩
 | x :: a,z :: b,i+1,y,h,hi=>by
  obtain ⟨x',h1,h2⟩:=LeD.get h.2 (by simpa using hi)
  exact ⟨x',by simpa using h1,h2⟩
theorem qA {k:Nat} {b:Blk} {cells':List AV} (hb:st.blks[k]?=some b) (hl:b.live=true) (hz:b.sz ≠ 0) (hle:LeD b.cells cells')
 (hg:G P E K ⟨st.tmps,st.blks.set k { b with cells:=cells' }⟩):G P E K st:=by
 intro C Z a w hr
 have hm:=hr.mem
 obtain ⟨q1,q2⟩:=hm.blk k b hb hl
 have hgen:=hm.gen k b hb
 have:=hm.change (b':={ b with cells:=cells' }) (w':=w) (s:=C.β k) (g:=C.γ k) hb rfl rfl rfl (Nat.le_refl _) (fun _ _ _=>rfl)
  (fun blk o arr e _ h=>⟨arr,h,rfl⟩) (Nat.le_refl _) (fun _ _=>rfl) hl hgen.symm (fun blk o h=>.inl ⟨o,h⟩) (fun hle' hevo _=>by
    refine ⟨fun i x hi=>?_,?_⟩
    · obtain ⟨x0,h1,h2⟩:=hle.get hi
      rcases h2 with rfl | ⟨-,rfl⟩
      · exact q1 i _ h1
      · rfl
    rw [Ctx.put_id]
    cases hs:C.β k with
    | absent=>simp [hs] at q2
    | unborn =>
     simp only [hs] at q2 ⊢
     have:=hle.length
     rw [q2] at this
     exact List.length_eq_zero_iff.1 this
    | loc blk o =>
     simp only [hs] at q2 ⊢
     obtain ⟨arr,te,r1,r2,r3⟩:=q2.cells hz
     refine .inl ⟨hz,arr,te,r1,by rw [hle.length]; exact r2,fun i x hi=>?_⟩
     obtain ⟨x0,h1,h2⟩:=hle.get hi
     obtain ⟨v,s1,s2⟩:=r3 i x0 h1
     refine ⟨v,s1,?_⟩
     rcases h2 with rfl | ⟨rfl,rfl⟩
     · exact s2
     · cases s2; exact .rsl0)
 rw [Ctx.put_id] at this
 exact hg C Z a w ⟨hr.tmp,this.1,hr.marks,hr.gh,hr.base⟩
/-! ### A segment whose blocks hold symbolic rows beside references -/
mutual
theorem refsBelow_nr {n:Nat}:∀ {v:AV},Xm v=true→QL n v=true
 | .ptr ..,h=>by simp [Xm] at h
 | .sl ..,h=>by simp [Xm] at h
 | .mp ..,h=>by simp [Xm] at h
 | .agg cs,h=>by simp only [Xm,QL] at h ⊢; exact refsBelows_nr h
 | .tup cs,h=>by simp only [Xm,QL] at h ⊢; exact refsBelows_nr h
 | .clos _ a b,h=>by
  simp only [Xm,QL,Bool.and_eq_true] at h ⊢
  exact ⟨refsBelows_nr h.1,refsBelows_nr h.2⟩
 | .bool ..,_=>rfl
 | .int ..,_=>rfl
 | .nilPtr,_=>rfl
 | .rptr ..,_=>rfl
 | .nilSl,_=>rfl
 | .rsl ..,_=>rfl
 | .nilFunc,_=>rfl
 | .rmap ..,_=>rfl
 | .opq ..,_=>rfl
 | .junk,_=>rfl
theorem refsBelows_nr {n:Nat}:∀ {cs:List AV},noRefs cs=true→refsBelows n cs=true
 | [],_=>rfl
 | c :: cs,h=>by
  simp only [noRefs,refsBelows,Bool.and_eq_true] at h ⊢
  exact ⟨refsBelow_nr h.1,refsBelows_nr h.2⟩
end
theorem Yz {n:Nat}:∀ {a b:List AV},refsBelows n (a++b)=(refsBelows n a && refsBelows n b)
 | [],b=>by simp [refsBelows]
 | x :: a,b=>by simp only [List.cons_append,refsBelows,Yz,Bool.and_assoc]
theorem qm {n:Nat} {a b:List AV} (h1:refsBelows n a=true) (h2:noRefs b=true):refsBelows n (a++b)=true:=by
 rw [Yz,h1,refsBelows_nr h2]; rfl
def obsW (n:Nat):List Blk→List Prop
 | []=>[]
 | b :: bs=>bif b.live && !b.flat then (refsBelows n (bif b.sz == 0 then b.cells.take 1 else b.cells)=true) :: obsW n bs else obsW n bs
theorem yp {n:Nat}:∀ {bs:List Blk},AllP (obsW n bs)→(bs.all fun b=>!b.live || b.flat || refsBelows n (bif b.sz == 0 then b.cells.take 1 else b.cells))=true
 | [],_=>rfl
 | b :: bs,h=>by
  rw [List.all_cons]
  simp only [obsW] at h
  cases h1:b.live <;> cases h2:b.flat <;> simp only [h1,h2,Bool.not_false,Bool.not_true,Bool.and_true,Bool.and_false,Bool.false_and,Bool.true_and,cond_true,cond_false,Bool.or_true,Bool.true_or,Bool.false_or,Bool.or_false] at h ⊢
  all_goals first
   | exact yp h
   | (obtain ⟨a,b⟩:=h; rw [Bool.and_eq_true]; exact ⟨a,yp b⟩)
def weakP (live:List Nat) (n:Nat) (st:St):Option (St × List Prop) :=
 bif refsBelows n (WP live 0 st.tmps) then some (⟨WP live 0 st.tmps,st.blks.take n⟩,obsW n (st.blks.take n)) else none
theorem weakP_eq {live:List Nat} {n:Nat} {o:List Prop} (h:weakP live n st=some (st',o)) (ho:AllP o):weak live n st=some st':=by
 unfold weakP at h
 cases h1:refsBelows n (WP live 0 st.tmps) with
 | false=>rw [h1] at h; cases h
 | true =>
  rw [h1] at h
  simp only [cond_true,Option.some.injEq,Prod.mk.injEq] at h
  obtain ⟨rfl,rfl⟩:=h
  unfold weak
  simp only [h1,Bool.true_and]
  rw [yp ho]; rfl
def segP (P:Program) (ds:List (Nat × Nat)) (cs:List (Nat × Nat × Nat)) (live:List Nat) (m n:Nat) (K:List Item) (st:St) (evs:List EV):Option (List Item × St × List Prop) :=
 match walk P n K st evs with
 | some (K',st',_,o1)=>(match denil st' ds with
  | some st1=>(match qY st1 cs with
   | some st1=>(match weakP live m st1 with
    | some (st2,o2)=>some (K',st2,o1++o2)
    | none=>none)
   | none=>none)
  | none=>none)
 | none=>none
theorem segP_step {n m:Nat} {ds:List (Nat × Nat)} {cs:List (Nat × Nat × Nat)} {live:List Nat} {evs:List EV} {obs:List Prop} {HK:Prop} (hk:HK) (hgh:refsBelows m E.gA=true) (hmx:P.follows .mixedOrders=true)
 (h:segP P ds cs live m n K st evs=some (K',st',obs)) (ho:AllP obs) (hg:G P E K' st'):G P E K st:=by
 unfold segP at h
 split at h
 · rename_i K1 st1 evs1 o1 h1
   split at h
   · rename_i st2 h2
     split at h
     · rename_i st3 h3
       split at h
       · rename_i st4 o2 h4
         simp only [Option.some.injEq,Prod.mk.injEq] at h
         obtain ⟨rfl,rfl,rfl⟩:=h
         obtain ⟨a1,a2⟩:=Qq.1 ho
         exact QH hk hmx h1 a1 (VJ h2 (YD h3 (Wx hgh (weakP_eq h4 a2) hg)))
       · cases h
     · cases h
   · cases h
 · cases h
end
end Ax
namespace Go.Proofs.Ytfgmlaeikcfpbaa
open Go Ax
open Go.Proofs
structure Nms where
 t:List Int
 h:List Int
def idxF:List (Int × Int)→Int→Int→Int→Int
 | [],_,_,_=>-1
 | e :: l,a,b,k=>if e.1=a∧e.2=b then k else idxF l a b (k+1)
def WT (x:Nms) (t h:Int):Int:=idxF (x.t.zip x.h) t h 0
def toN (x:Nms) (t h n need:Int):Int:=if t<n then WT x t h else if h≥need then (x.t.length:Int)+1 else (x.t.length:Int)
def endS (l:List Stg):Stl:=⟨l++[⟨4,-1,[]⟩,⟨4,0,[]⟩],[0],0⟩
def Xg (l:List Stg):Stl × Int:=QC (endS l)
theorem idx_num {a b:Int}:∀ {l:List Num} {k:Int},(∀ (j:Nat) (e:Num),l[j]?=some e→e.v=k+(j:Int))→(∃ e ∈ l,e.t=a∧e.h=b)→idxF (l.map fun e=>(e.t,e.h)) a b k=numV l a b
 | [],k,_,h=>by obtain ⟨e,he,-⟩:=h; simp at he
 | x :: l,k,hv,h=>by
  rw [List.map_cons,idxF]
  by_cases c:x.t=a∧x.h=b
  · rw [if_pos c]
    have:=hv 0 x rfl
    simp only [numV,List.find?,c.1,c.2]
    simp at this
    simp [this]
  · rw [if_neg c]
    have hc:(x.t == a && x.h == b)=false:=by
     rw [Bool.eq_false_iff]; intro hb; simp at hb; exact c hb
    rw [idx_num (l:=l) (k:=k+1) (fun j e he=>by have:=hv (j+1) e (by simpa using he); rw [this]; push_cast; omega) (by
     obtain ⟨e,he,h1⟩:=h
     rcases List.mem_cons.1 he with rfl | he
     · exact absurd h1 c
     · exact ⟨e,he,h1⟩)]
    simp only [numV,List.find?,hc]
theorem toN_I {op:Int→Int→Bool} {n:Nat} {l:List Num} (nok:NumsOk op n 0 l) {t h n' need:Int} (hex:t<n'→∃ e ∈ l,e.t=t∧e.h=h):toN ⟨l.map Num.t,l.map Num.h⟩ t h n' need=toI l n' need l.length t h:=by
 unfold toN toI
 by_cases c:t<n'
 · rw [if_pos c,if_pos c,WT]
   show idxF ((l.map Num.t).zip (l.map Num.h)) t h 0=_
   rw [List.zip_map']
   exact idx_num (fun j e he=>by rw [nok.at_ j e he]; omega) (hex c)
 · rw [if_neg c,if_neg c]
   simp only [List.length_map]
theorem f118b:Try.f118.body=some (Qd Try.prog 118):=by kernel_rfl
theorem u118 {a c k:List AV} {r:AV} (h:Pure Try.prog 118 (a++c++k) r):Qf Try.prog (.clos 118 a k) c r:=Qo Try.func118 (by kernel_rfl) f118b h
def VZ (P:Program):List Item:=kAt 400 [.code (Qd P 118)] [.stop]
def f118S0 (x:Nms) (a:Int) (b:Int) (i:Nat):St:=⟨([J,.int .i64 a,.int .i64 b,.ptr 0 0 0,J,J,J,.int .i64 (i:Int)]++Js 24),[⟨true,0,1,true,[.rsl (rowI x.t) 0 x.t.length,.rsl (rowI x.h) 0 x.h.length],false⟩]⟩
def qV (E:Env) (x:Nms) (a:Int) (b:Int) (i:Nat):Prop:=G Try.prog E (VZ Try.prog) (f118S0 x a b i )
abbrev z118_1 (x:Nms):List Blk:=[⟨true,0,1,true,[.rsl (rowI x.t) 0 x.t.length,.rsl (rowI x.h) 0 x.h.length],false⟩]
theorem p118_start_0 (x:Nms) (a:Int) (b:Int) {E:Env} {rv:AV} (hE:Qe Try.prog 118 rv E) (ho:AllP [])
 (hg:G Try.prog E (VZ Try.prog) ⟨([J,.int .i64 a,.int .i64 b,.ptr 0 0 0,J,J,J,.int .i64 0]++Js 24),(z118_1 x)⟩):G Try.prog E [.code (Qd Try.prog 118)] ⟨[.agg [.rsl (rowI x.t) 0 x.t.length,.rsl (rowI x.h) 0 x.h.length],.int .i64 a,.int .i64 b]++unds (Try.f118.ntmps - 3),[]⟩ :=
 Qg (n:=400) (ds:=[]) (cs:=[]) (live:=[1,2,3,7]) (m:=1) (evs:=[.stop]) (obs:=_) hE.2.1 (hE.nogh _) Qh (by kernel_rfl) ho hg
theorem f118W (x:Nms) (a:Int) (b:Int) {E:Env} {rv:Int} (hE:Qe Try.prog 118 (.int .i64 rv) E)
 (h:qV E x a b 0):G Try.prog E [.code (Qd Try.prog 118)] ⟨[.agg [.rsl (rowI x.t) 0 x.t.length,.rsl (rowI x.h) 0 x.h.length],.int .i64 a,.int .i64 b]++unds (Try.f118.ntmps - 3),[]⟩:=by
 exact p118_start_0 x a b hE trivial h
theorem p118_0_0 (x:Nms) (a:Int) (b:Int) (i:Nat) (e:Int) (e1:Int) {E:Env} {res:AV} (hE:Qe Try.prog 118 res E) (ho:AllP [(decide ((i:Int)<(x.t.length:Int)))=true,0≤(i:Int)∧(i:Int)<(x.t.length:Int),((rowI x.t).drop (0+(Int.toNat (i:Int))*1)).take 1=[.int .i64 e],(e == a)=true,0≤(i:Int)∧(i:Int)<(x.h.length:Int),((rowI x.h).drop (0+(Int.toNat (i:Int))*1)).take 1=[.int .i64 e1],(e1 == b)=true])
 (hr:AvLe (.int .i64 (i:Int)) res):G Try.prog E (VZ Try.prog) (f118S0 x a b i ) :=
 Qc (n:=400) (evs:=[.b true,.auto,.ld (.int .i64 e),.b true,.auto,.ld (.int .i64 e1),.b true]) (obs:=_) hE Try.func118 Qh (by kernel_rfl) ho hr
theorem p118_0_1 (x:Nms) (a:Int) (b:Int) (i:Nat) (e:Int) (e1:Int) {E:Env} {rv:AV} (hE:Qe Try.prog 118 rv E) (ho:AllP [(decide ((i:Int)<(x.t.length:Int)))=true,0≤(i:Int)∧(i:Int)<(x.t.length:Int),((rowI x.t).drop (0+(Int.toNat (i:Int))*1)).take 1=[.int .i64 e],(e == a)=true,0≤(i:Int)∧(i:Int)<(x.h.length:Int),((rowI x.h).drop (0+(Int.toNat (i:Int))*1)).take 1=[.int .i64 e1],(e1 == b)=false,InR .i64 ((i:Int)+1)])
 (hg:G Try.prog E (VZ Try.prog) ⟨([J,.int .i64 a,.int .i64 b,.ptr 0 0 0,J,J,J,.int .i64 ((i:Int)+1)]++Js 24),(z118_1 x)⟩):G Try.prog E (VZ Try.prog) (f118S0 x a b i ) :=
 Qg (n:=400) (ds:=[]) (cs:=[]) (live:=[1,2,3,7]) (m:=1) (evs:=[.b true,.auto,.ld (.int .i64 e),.b true,.auto,.ld (.int .i64 e1),.b false,.stop]) (obs:=_) hE.2.1 (hE.nogh _) Qh (by kernel_rfl) ho hg
theorem p118_0_2 (x:Nms) (a:Int) (b:Int) (i:Nat) (e:Int) {E:Env} {rv:AV} (hE:Qe Try.prog 118 rv E) (ho:AllP [(decide ((i:Int)<(x.t.length:Int)))=true,0≤(i:Int)∧(i:Int)<(x.t.length:Int),((rowI x.t).drop (0+(Int.toNat (i:Int))*1)).take 1=[.int .i64 e],(e == a)=false,false=false,InR .i64 ((i:Int)+1)])
 (hg:G Try.prog E (VZ Try.prog) ⟨([J,.int .i64 a,.int .i64 b,.ptr 0 0 0,J,J,J,.int .i64 ((i:Int)+1)]++Js 24),(z118_1 x)⟩):G Try.prog E (VZ Try.prog) (f118S0 x a b i ) :=
 Qg (n:=400) (ds:=[]) (cs:=[]) (live:=[1,2,3,7]) (m:=1) (evs:=[.b true,.auto,.ld (.int .i64 e),.b false,.b false,.stop]) (obs:=_) hE.2.1 (hE.nogh _) Qh (by kernel_rfl) ho hg
theorem p118_0_3 (x:Nms) (a:Int) (b:Int) (i:Nat) {E:Env} {res:AV} (hE:Qe Try.prog 118 res E) (ho:AllP [(decide ((i:Int)<(x.t.length:Int)))=false])
 (hr:AvLe (.int .i64 (-1)) res):G Try.prog E (VZ Try.prog) (f118S0 x a b i ) :=
 Qc (n:=400) (evs:=[.b false]) (obs:=_) hE Try.func118 Qh (by kernel_rfl) ho hr
theorem f118W0 (x:Nms) (a:Int) (b:Int) (i:Nat) {E:Env} {rv:Int} (hE:Qe Try.prog 118 (.int .i64 rv) E)
 (h:(((i:Int)<(x.t.length:Int)→(∃ e:Int,x.t[i]?=some e∧((e=a→(∃ e1:Int,x.h[i]?=some e1∧((e1=b→rv=(i:Int))∧(¬ (e1=b)→((I6 ((i:Int)+1))∧qV E x a b (i+1))))))∧(¬ (e=a)→((I6 ((i:Int)+1))∧qV E x a b (i+1))))))∧(¬ ((i:Int)<(x.t.length:Int))→rv=(-1)))):qV E x a b i:=by
 rcases bft (decide ((i:Int)<(x.t.length:Int))) with hc0 | hc0
 · have h:=h.1 (odt hc0)
   obtain ⟨e,h1,h⟩:=h
   rcases bft (e == a) with hc1 | hc1
   · have h:=h.1 (eq_of_beq hc1)
     obtain ⟨e1,h2,h⟩:=h
     rcases bft (e1 == b) with hc2 | hc2
     · have h:=h.1 (eq_of_beq hc2)
       exact p118_0_0 x a b i e e1 hE ⟨hc0,(Qs h1),(rp cI 1 0 1 h1),hc1,(Qs h2),(rp cI 1 0 1 h2),hc2,trivial⟩ (AvLe.of_eq (by rw [h]; try rfl))
     · have h:=h.2 (ne_of_beq_false hc2)
       obtain ⟨q9_3,h⟩:=h
       exact p118_0_1 x a b i e e1 hE ⟨hc0,(Qs h1),(rp cI 1 0 1 h1),hc1,(Qs h2),(rp cI 1 0 1 h2),hc2,q9_3,trivial⟩ h
   · have h:=h.2 (ne_of_beq_false hc1)
     obtain ⟨q6_2,h⟩:=h
     exact p118_0_2 x a b i e hE ⟨hc0,(Qs h1),(rp cI 1 0 1 h1),hc1,rfl,q6_2,trivial⟩ h
 · have h:=h.2 (odf hc0)
   exact p118_0_3 x a b i hE ⟨hc0,trivial⟩ (AvLe.of_eq (by rw [h]; try rfl))
theorem findN_ok (x:Nms) (a b:Int) (h:x.t.length≤x.h.length∧x.t.length≤1000000):Pure Try.prog 118 [.agg [.rsl (rowI x.t) 0 x.t.length,.rsl (rowI x.h) 0 x.h.length],.int .i64 a,.int .i64 b] (.int .i64 (WT x a b)):=Qv Try.func118 f118b fun E hE=>by
 have main:∀ (d i:Nat),i+d=x.t.length→WT x a b=idxF ((x.t.zip x.h).drop i) a b i→qV E x a b i:=by
  intro d
  induction d with
  | zero =>
   intro i hi hf
   refine f118W0 x a b i (rv:=WT x a b) hE ⟨fun h1=>by omega,fun _=>?_⟩
   rw [hf,List.drop_eq_nil_of_le (by rw [List.length_zip]; omega)]; rfl
  | succ d ih =>
   intro i hi hf
   have e1:x.t[i]?=some (x.t[i]'(by omega)):=List.getElem?_eq_getElem (by omega)
   have e2:x.h[i]?=some (x.h[i]'(by omega)):=List.getElem?_eq_getElem (by omega)
   have hd:(x.t.zip x.h).drop i=(x.t[i]'(by omega),x.h[i]'(by omega)) :: (x.t.zip x.h).drop (i+1):=by
    rw [List.drop_eq_getElem_cons (by rw [List.length_zip]; omega),List.getElem_zip]
   rw [hd,idxF] at hf
   generalize x.t[i]'(by omega)=u at *
   generalize x.h[i]'(by omega)=v at *
   have nx:¬ (u=a∧v=b)→qV E x a b (i+1):=fun hn=>ih (i+1) (by omega) (by rw [hf,if_neg hn]; rfl)
   exact f118W0 x a b i (rv:=WT x a b) hE ⟨fun _=>⟨_,e1,fun h1=>⟨_,e2,fun h2=>by rw [hf,if_pos ⟨h1,h2⟩],fun h2=>⟨by omega,nx (fun hc=>h2 hc.2)⟩⟩,fun h1=>⟨by omega,nx (fun hc=>h1 hc.1)⟩⟩,fun h1=>by omega⟩
 exact f118W x a b (rv:=WT x a b) hE (main x.t.length 0 (by omega) rfl)
theorem f88b:Try.f88.body=some (Qd Try.prog 88):=by kernel_rfl
theorem u88 {a c k:List AV} {r:AV} (h:Pure Try.prog 88 (a++c++k) r):Qf Try.prog (.clos 88 a k) c r:=Qo Try.func88 (by kernel_rfl) f88b h
abbrev z88_1 (x:Nms) (a:Int) (b:Int) (n:Int) (need:Int):List AV:=[.agg [.rsl (rowI x.t) 0 x.t.length,.rsl (rowI x.h) 0 x.h.length],.int .i64 a,.int .i64 b,.int .i64 n,.int .i64 need]
theorem p88_start_0 (x:Nms) (a:Int) (b:Int) (n:Int) (need:Int) {E:Env} {res:AV} (hE:Qe Try.prog 88 res E) (ho:AllP [(decide (a<n))=true,Qf Try.prog (.clos 118 [] []) [.agg [.rsl (rowI x.t) 0 x.t.length,.rsl (rowI x.h) 0 x.h.length],.int .i64 a,.int .i64 b] (.int .i64 (WT x a b))])
 (hr:AvLe (.int .i64 (WT x a b)) res):G Try.prog E [.code (Qd Try.prog 88)] ⟨(z88_1 x a b n need)++unds (Try.f88.ntmps - 5),[]⟩ :=
 Qc (n:=400) (evs:=[.b true,.v (.int .i64 (WT x a b))]) (obs:=_) hE Try.func88 Qh (by kernel_rfl) ho hr
theorem p88_start_1 (x:Nms) (a:Int) (b:Int) (n:Int) (need:Int) {E:Env} {res:AV} (hE:Qe Try.prog 88 res E) (ho:AllP [(decide (a<n))=false,(decide (b≥need))=true,InR .i64 ((x.t.length:Int)+1)])
 (hr:AvLe (.int .i64 ((x.t.length:Int)+1)) res):G Try.prog E [.code (Qd Try.prog 88)] ⟨(z88_1 x a b n need)++unds (Try.f88.ntmps - 5),[]⟩ :=
 Qc (n:=400) (evs:=[.b false,.b true]) (obs:=_) hE Try.func88 Qh (by kernel_rfl) ho hr
theorem p88_start_2 (x:Nms) (a:Int) (b:Int) (n:Int) (need:Int) {E:Env} {res:AV} (hE:Qe Try.prog 88 res E) (ho:AllP [(decide (a<n))=false,(decide (b≥need))=false])
 (hr:AvLe (.int .i64 (x.t.length:Int)) res):G Try.prog E [.code (Qd Try.prog 88)] ⟨(z88_1 x a b n need)++unds (Try.f88.ntmps - 5),[]⟩ :=
 Qc (n:=400) (evs:=[.b false,.b false]) (obs:=_) hE Try.func88 Qh (by kernel_rfl) ho hr
theorem f88W (x:Nms) (a:Int) (b:Int) (n:Int) (need:Int) {E:Env} {rv:Int} (hE:Qe Try.prog 88 (.int .i64 rv) E)
 (h:((a<n→((x.t.length≤x.h.length∧x.t.length≤1000000)∧rv=(WT x a b)))∧(¬ (a<n)→((b≥need→((I6 ((x.t.length:Int)+1))∧rv=((x.t.length:Int)+1)))∧(¬ (b≥need)→rv=(x.t.length:Int)))))):G Try.prog E [.code (Qd Try.prog 88)] ⟨[.agg [.rsl (rowI x.t) 0 x.t.length,.rsl (rowI x.h) 0 x.h.length],.int .i64 a,.int .i64 b,.int .i64 n,.int .i64 need]++unds (Try.f88.ntmps - 5),[]⟩:=by
 rcases bft (decide (a<n)) with hc0 | hc0
 · have h:=h.1 (odt hc0)
   obtain ⟨h1,h⟩:=h
   exact p88_start_0 x a b n need hE ⟨hc0,(u118 (findN_ok x a b h1)),trivial⟩ (AvLe.of_eq (by rw [h]; try rfl))
 · have h:=h.2 (odf hc0)
   rcases bft (decide (b≥need)) with hc1 | hc1
   · have h:=h.1 (odt hc1)
     obtain ⟨q2_2,h⟩:=h
     exact p88_start_1 x a b n need hE ⟨hc0,hc1,q2_2,trivial⟩ (AvLe.of_eq (by rw [h]; try rfl))
   · have h:=h.2 (odf hc1)
     exact p88_start_2 x a b n need hE ⟨hc0,hc1,trivial⟩ (AvLe.of_eq (by rw [h]; try rfl))
theorem qD (x:Nms) (a b n need:Int) (h:x.t.length≤x.h.length∧x.t.length≤1000000):Pure Try.prog 88 [.agg [.rsl (rowI x.t) 0 x.t.length,.rsl (rowI x.h) 0 x.h.length],.int .i64 a,.int .i64 b,.int .i64 n,.int .i64 need] (.int .i64 (toN x a b n need)):=Qv Try.func88 f88b fun E hE =>
 f88W x a b n need (rv:=toN x a b n need) hE ⟨fun h1=>⟨h,by rw [toN,if_pos h1]⟩,fun h1=>⟨fun h2=>⟨by omega,by rw [toN,if_neg h1,if_pos h2]⟩,fun h2=>by rw [toN,if_neg h1,if_neg h2]⟩⟩
theorem f89b:Try.f89.body=some (Qd Try.prog 89):=by kernel_rfl
theorem p89_start_0 (l:List Stg) (g:Nat) {E:Env} {res:AV} {bs2:List Blk} (hE:LentE Try.prog 89 [.sl 0 g 0 0 1] res bs2 E) (ho:AllP [g=g,(0+(l.length*3))=(Qb l).length,(l.length+2)≤2147483648,0=0,(g+1)=(g+1),0=0,3≤3,Qf Try.prog (.clos 19 [] []) [.agg [.rsl ((Qb l)++[.int .i64 4,.int .i64 (-1),.rsl [] 0 0,.int .i64 4,.int .i64 0,.rsl [] 0 0]) 0 (l.length+2),.rsl ([.int .i64 0]) 0 1,.int .i64 0]] (.int .i64 (QG (⟨(l++[(⟨4,(-1),([]:List Trn)⟩:Stg),(⟨4,0,([]:List Trn)⟩:Stg)]),([0]:List Int),0⟩:Stl))),((QG (⟨(l++[(⟨4,(-1),([]:List Trn)⟩:Stg),(⟨4,0,([]:List Trn)⟩:Stg)]),([0]:List Int),0⟩:Stl)) != 0)=true,3≤3])
 (hr:AvLe (.tup [.agg [.nilSl,.nilSl,.int .i64 0],.int .i64 2]) res) (hb:[⟨false,((g+1)+1),3,true,[],false⟩]=bs2):G Try.prog E [.code (Qd Try.prog 89)] ⟨[.sl 0 g 0 l.length 3]++unds (Try.f89.ntmps - 1),[⟨true,g,3,true,(Qb l),true⟩]⟩ :=
 endW_step (n:=400) (m:=1) (evs:=[.wt 6,.wt 7,.wt 9,.wt 10,.v (.int .i64 (QG (⟨(l++[(⟨4,(-1),([]:List Trn)⟩:Stg),(⟨4,0,([]:List Trn)⟩:Stg)]),([0]:List Int),0⟩:Stl))),.b true]) (obs:=_) hE (hE.nogh (by kernel_rfl)) Try.func89 Qh (by kernel_rfl) ho hr hb
theorem p89_start_1 (l:List Stg) (g:Nat) {E:Env} {res:AV} {bs2:List Blk} (hE:LentE Try.prog 89 [.sl 0 g 0 0 1] res bs2 E) (ho:AllP [g=g,(0+(l.length*3))=(Qb l).length,(l.length+2)≤2147483648,0=0,(g+1)=(g+1),0=0,3≤3,Qf Try.prog (.clos 19 [] []) [.agg [.rsl ((Qb l)++[.int .i64 4,.int .i64 (-1),.rsl [] 0 0,.int .i64 4,.int .i64 0,.rsl [] 0 0]) 0 (l.length+2),.rsl ([.int .i64 0]) 0 1,.int .i64 0]] (.int .i64 (QG (⟨(l++[(⟨4,(-1),([]:List Trn)⟩:Stg),(⟨4,0,([]:List Trn)⟩:Stg)]),([0]:List Int),0⟩:Stl))),((QG (⟨(l++[(⟨4,(-1),([]:List Trn)⟩:Stg),(⟨4,0,([]:List Trn)⟩:Stg)]),([0]:List Int),0⟩:Stl)) != 0)=false,3≤3])
 (hr:AvLe (.tup [.agg [.rsl ((Qb l)++[.int .i64 4,.int .i64 (-1),.rsl [] 0 0,.int .i64 4,.int .i64 0,.rsl [] 0 0]) 0 (l.length+2),.rsl ([.int .i64 0]) 0 1,.int .i64 0],.int .i64 0]) res) (hb:[⟨false,((g+1)+1),3,true,[],false⟩]=bs2):G Try.prog E [.code (Qd Try.prog 89)] ⟨[.sl 0 g 0 l.length 3]++unds (Try.f89.ntmps - 1),[⟨true,g,3,true,(Qb l),true⟩]⟩ :=
 endW_step (n:=400) (m:=1) (evs:=[.wt 6,.wt 7,.wt 9,.wt 10,.v (.int .i64 (QG (⟨(l++[(⟨4,(-1),([]:List Trn)⟩:Stg),(⟨4,0,([]:List Trn)⟩:Stg)]),([0]:List Int),0⟩:Stl))),.b false]) (obs:=_) hE (hE.nogh (by kernel_rfl)) Try.func89 Qh (by kernel_rfl) ho hr hb
theorem f89W (l:List Stg) (g:Nat) {E:Env} {rv:(Stl × Int)} (hE:LentE Try.prog 89 [.sl 0 g 0 0 1] (.tup [.agg [.rsl (Qb rv.1.stages) 0 rv.1.stages.length,.rsl (rowI rv.1.worth) 0 rv.1.worth.length,.int .i64 rv.1.price],.int .i64 rv.2]) [⟨false,((g+1)+1),3,true,[],false⟩] E)
 (h:((l.length+2)≤2147483648∧(((⟨(l++[(⟨4,(-1),([]:List Trn)⟩:Stg),(⟨4,0,([]:List Trn)⟩:Stg)]),([0]:List Int),0⟩:Stl).stages.length≤9223372036854775807∧(⟨(l++[(⟨4,(-1),([]:List Trn)⟩:Stg),(⟨4,0,([]:List Trn)⟩:Stg)]),([0]:List Int),0⟩:Stl).worth.length≤9223372036854775807)∧((¬ ((QG (⟨(l++[(⟨4,(-1),([]:List Trn)⟩:Stg),(⟨4,0,([]:List Trn)⟩:Stg)]),([0]:List Int),0⟩:Stl))=0)→rv=((⟨([]:List Stg),([]:List Int),0⟩:Stl),2))∧((QG (⟨(l++[(⟨4,(-1),([]:List Trn)⟩:Stg),(⟨4,0,([]:List Trn)⟩:Stg)]),([0]:List Int),0⟩:Stl))=0→rv=((⟨(l++[(⟨4,(-1),([]:List Trn)⟩:Stg),(⟨4,0,([]:List Trn)⟩:Stg)]),([0]:List Int),0⟩:Stl),0)))))):G Try.prog E [.code (Qd Try.prog 89)] ⟨[.sl 0 g 0 l.length 3]++unds (Try.f89.ntmps - 1),[⟨true,g,3,true,(Qb l),true⟩]⟩:=by
 obtain ⟨h1,h⟩:=h
 obtain ⟨h2,h⟩:=h
 rcases bft ((QG (⟨(l++[(⟨4,(-1),([]:List Trn)⟩:Stg),(⟨4,0,([]:List Trn)⟩:Stg)]),([0]:List Int),0⟩:Stl)) != 0) with hc0 | hc0
 · have h:=h.1 (bneT hc0)
   have qe0:=h
   exact p89_start_0 l g hE ⟨rfl,(by have hx:=Xd cStg (s:=3) (fun _=>rfl) l; simp only [Qb] at hx ⊢; rw [hx]; simp),h1,rfl,rfl,rfl,(by decide),(by rw [(show AV.rsl ((Qb l)++[.int .i64 4,.int .i64 (-1),.rsl [] 0 0,.int .i64 4,.int .i64 0,.rsl [] 0 0]) 0 (l.length+2)=AV.rsl (Qb (l++[(⟨4,(-1),([]:List Trn)⟩:Stg),(⟨4,0,([]:List Trn)⟩:Stg)])) 0 (l++[(⟨4,(-1),([]:List Trn)⟩:Stg),(⟨4,0,([]:List Trn)⟩:Stg)]).length from by rw [(show Qb l++[.int .i64 4,.int .i64 (-1),.rsl [] 0 0,.int .i64 4,.int .i64 0,.rsl [] 0 0]=Qb (l++[(⟨4,(-1),([]:List Trn)⟩:Stg),(⟨4,0,([]:List Trn)⟩:Stg)]) from (Xe cStg l [(⟨4,(-1),([]:List Trn)⟩:Stg),(⟨4,0,([]:List Trn)⟩:Stg)]).symm)]; rw [show (l.length+2)=(l++[(⟨4,(-1),([]:List Trn)⟩:Stg),(⟨4,0,([]:List Trn)⟩:Stg)]).length from by simp])]; rw [(show AV.rsl ([.int .i64 0]) 0 1=AV.rsl (rowI ([0]:List Int)) 0 ([0]:List Int).length from by rw [show 1=([0]:List Int).length from by simp]; try rfl)]; exact (u19 (Vn (⟨(l++[(⟨4,(-1),([]:List Trn)⟩:Stg),(⟨4,0,([]:List Trn)⟩:Stg)]),([0]:List Int),0⟩:Stl) h2))),hc0,(by decide),trivial⟩ (by rw [qe0]; exact (QV ⟨(Xa ⟨Qx,⟨Qx,⟨AvLe.of_eq rfl,trivial⟩⟩⟩),⟨AvLe.of_eq rfl,trivial⟩⟩)) (by all_goals (first | rfl | (simp only [List.length_set]; done) | (simp only [List.length_set]; rfl)))
 · have h:=h.2 (bneF hc0)
   have qe0:=h
   exact p89_start_1 l g hE ⟨rfl,(by have hx:=Xd cStg (s:=3) (fun _=>rfl) l; simp only [Qb] at hx ⊢; rw [hx]; simp),h1,rfl,rfl,rfl,(by decide),(by rw [(show AV.rsl ((Qb l)++[.int .i64 4,.int .i64 (-1),.rsl [] 0 0,.int .i64 4,.int .i64 0,.rsl [] 0 0]) 0 (l.length+2)=AV.rsl (Qb (l++[(⟨4,(-1),([]:List Trn)⟩:Stg),(⟨4,0,([]:List Trn)⟩:Stg)])) 0 (l++[(⟨4,(-1),([]:List Trn)⟩:Stg),(⟨4,0,([]:List Trn)⟩:Stg)]).length from by rw [(show Qb l++[.int .i64 4,.int .i64 (-1),.rsl [] 0 0,.int .i64 4,.int .i64 0,.rsl [] 0 0]=Qb (l++[(⟨4,(-1),([]:List Trn)⟩:Stg),(⟨4,0,([]:List Trn)⟩:Stg)]) from (Xe cStg l [(⟨4,(-1),([]:List Trn)⟩:Stg),(⟨4,0,([]:List Trn)⟩:Stg)]).symm)]; rw [show (l.length+2)=(l++[(⟨4,(-1),([]:List Trn)⟩:Stg),(⟨4,0,([]:List Trn)⟩:Stg)]).length from by simp])]; rw [(show AV.rsl ([.int .i64 0]) 0 1=AV.rsl (rowI ([0]:List Int)) 0 ([0]:List Int).length from by rw [show 1=([0]:List Int).length from by simp]; try rfl)]; exact (u19 (Vn (⟨(l++[(⟨4,(-1),([]:List Trn)⟩:Stg),(⟨4,0,([]:List Trn)⟩:Stg)]),([0]:List Int),0⟩:Stl) h2))),hc0,(by decide),trivial⟩ (AvLe.of_eq (by rw [qe0]; rw [(show AV.rsl ((Qb l)++[.int .i64 4,.int .i64 (-1),.rsl [] 0 0,.int .i64 4,.int .i64 0,.rsl [] 0 0]) 0 (l.length+2)=AV.rsl (Qb (l++[(⟨4,(-1),([]:List Trn)⟩:Stg),(⟨4,0,([]:List Trn)⟩:Stg)])) 0 (l++[(⟨4,(-1),([]:List Trn)⟩:Stg),(⟨4,0,([]:List Trn)⟩:Stg)]).length from by rw [(show Qb l++[.int .i64 4,.int .i64 (-1),.rsl [] 0 0,.int .i64 4,.int .i64 0,.rsl [] 0 0]=Qb (l++[(⟨4,(-1),([]:List Trn)⟩:Stg),(⟨4,0,([]:List Trn)⟩:Stg)]) from (Xe cStg l [(⟨4,(-1),([]:List Trn)⟩:Stg),(⟨4,0,([]:List Trn)⟩:Stg)]).symm)]; rw [show (l.length+2)=(l++[(⟨4,(-1),([]:List Trn)⟩:Stg),(⟨4,0,([]:List Trn)⟩:Stg)]).length from by simp])]; rw [(show AV.rsl ([.int .i64 0]) 0 1=AV.rsl (rowI ([0]:List Int)) 0 ([0]:List Int).length from by rw [show 1=([0]:List Int).length from by simp]; try rfl)]; try rfl)) (by all_goals (first | rfl | (simp only [List.length_set]; done) | (simp only [List.length_set]; rfl)))
theorem ended_ok (l:List Stg) (g:Nat) (h:l.length≤1000000):Lent Try.prog 89 [.sl 0 g 0 l.length 3] [⟨true,g,3,true,Qb l,true⟩] (.tup [.agg [.rsl (Qb (Xg l).1.stages) 0 (Xg l).1.stages.length,.rsl (rowI (Xg l).1.worth) 0 (Xg l).1.worth.length,.int .i64 (Xg l).1.price],.int .i64 (Xg l).2]) [⟨false,((g+1)+1),3,true,[],false⟩]:=lent_of _ Try.func89 f89b rfl rfl fun E hE =>
 f89W l g (rv:=Xg l) hE ⟨by omega,⟨by simp; omega,by simp⟩,fun h1=>by rw [Xg,QC,endS,if_neg h1],fun h1=>by rw [Xg,QC,endS,if_pos h1]⟩
theorem f35b:Try.f35.body=some (Qd Try.prog 35):=by kernel_rfl
theorem u35 {a c k:List AV} {r:AV} (h:Pure Try.prog 35 (a++c++k) r):Qf Try.prog (.clos 35 a k) c r:=Qo Try.func35 (by kernel_rfl) f35b h
def f35K0 (P:Program):List Item:=kAt 400 [.code (Qd P 35)] [.b false,.stop]
def f35S0 (n:Int) (need:Int) (p:Int) (q:Int) (t:Nat) (v2:List Int) (v3:List Int) (g2:Nat) (g3:Nat):St:=⟨([.int .i64 n,.int .i64 need,.int .i64 p,.int .i64 q,J,J,J,J,.ptr 0 0 0,J,.ptr 1 0 0,.int .i64 (t:Int)]++Js 93),[⟨true,0,1,true,[.nilSl,.nilSl,.int .i64 0],false⟩,⟨true,0,1,false,[.sl 2 g2 0 v2.length 1,.sl 3 g3 0 v3.length 1],false⟩,⟨true,g2,1,true,(rowI v2),true⟩,⟨true,g3,1,true,(rowI v3),true⟩]⟩
def f35G0 (E:Env) (n:Int) (need:Int) (p:Int) (q:Int) (t:Nat) (v2:List Int) (v3:List Int):Prop:=∀ g2 g3:Nat,G Try.prog E (f35K0 Try.prog) (f35S0 n need p q t v2 v3 g2 g3)
def f35K1 (P:Program):List Item:=kAt 400 [.code (Qd P 35)] [.b false,.b true,.stop]
def f35S1 (n:Int) (need:Int) (p:Int) (q:Int) (b:Nat) (v2:List Int) (v3:List Int) (t:Nat) (g2:Nat) (g3:Nat):St:=⟨([.int .i64 n,.int .i64 need,.int .i64 p,.int .i64 q,J,J,J,J,.ptr 0 0 0,J,.ptr 1 0 0,.int .i64 (t:Int),.int .i64 (b:Int)]++Js 92),[⟨true,0,1,true,[.nilSl,.nilSl,.int .i64 0],false⟩,⟨true,0,1,false,[.sl 2 g2 0 v2.length 1,.sl 3 g3 0 v3.length 1],false⟩,⟨true,g2,1,true,(rowI v2),true⟩,⟨true,g3,1,true,(rowI v3),true⟩]⟩
def f35G1 (E:Env) (n:Int) (need:Int) (p:Int) (q:Int) (b:Nat) (v2:List Int) (v3:List Int) (t:Nat):Prop:=∀ g2 g3:Nat,G Try.prog E (f35K1 Try.prog) (f35S1 n need p q b v2 v3 t g2 g3)
def f35K2 (P:Program):List Item:=kAt 400 [.code (Qd P 35)] [.b false,.b false,.stop]
def f35S2 (n:Int) (need:Int) (p:Int) (q:Int) (v2:List Int) (v3:List Int) (v4:List Stg) (i:Nat) (g2:Nat) (g3:Nat) (g4:Nat):St:=⟨([.int .i64 n,.int .i64 need,.int .i64 p,.int .i64 q,J,J,J,J,.ptr 0 0 0,J,.ptr 1 0 0,J,J,.sl 4 g4 0 v4.length 3,.int .i64 (i:Int)]++Js 90),[⟨true,0,1,true,[.nilSl,.nilSl,.int .i64 0],false⟩,⟨true,0,1,false,[.sl 2 g2 0 v2.length 1,.sl 3 g3 0 v3.length 1],false⟩,⟨true,g2,1,true,(rowI v2),true⟩,⟨true,g3,1,true,(rowI v3),true⟩,⟨true,g4,3,true,(Qb v4),true⟩]⟩
def f35G2 (E:Env) (n:Int) (need:Int) (p:Int) (q:Int) (v2:List Int) (v3:List Int) (v4:List Stg) (i:Nat):Prop:=∀ g2 g3 g4:Nat,G Try.prog E (f35K2 Try.prog) (f35S2 n need p q v2 v3 v4 i g2 g3 g4)
abbrev z35_1 (v4:List Stg):AV:=.tup [.agg [.rsl (Qb (((Xg v4).1).stages)) 0 ((((Xg v4).1).stages).length),.rsl (rowI (((Xg v4).1).worth)) 0 ((((Xg v4).1).worth).length),.int .i64 (((Xg v4).1).price)],.int .i64 ((Xg v4).2)]
abbrev z35_2:AV:=.tup [.agg [.nilSl,.nilSl,.int .i64 0],.int .i64 1]
abbrev z35_3 (g2:Nat) (v2:List Int) (g3:Nat) (v3:List Int):List Blk:=[⟨true,0,1,true,[.nilSl,.nilSl,.int .i64 0],false⟩,⟨true,0,1,false,[.sl 2 g2 0 v2.length 1,.sl 3 g3 0 v3.length 1],false⟩,⟨true,g2,1,true,(rowI v2),true⟩,⟨true,g3,1,true,(rowI v3),true⟩]
theorem p35_start_0 (n:Int) (need:Int) (p:Int) (q:Int) {E:Env} {res:AV} (hE:Qe Try.prog 35 res E) (ho:AllP [Qf Try.prog (.clos 62 [] []) [.int .i64 n,.int .i64 1,.int .i64 9] (.bool (Qa n 1 9)),(!(Qa n 1 9))=true,true=true,true=true,true=true,3≤3])
 (hr:AvLe z35_2 res):G Try.prog E [.code (Qd Try.prog 35)] ⟨[.int .i64 n,.int .i64 need,.int .i64 p,.int .i64 q]++unds (Try.f35.ntmps - 4),[]⟩ :=
 Qc (n:=400) (evs:=[.v (.bool (Qa n 1 9)),.b true,.b true,.b true,.b true]) (obs:=_) hE Try.func35 Qh (by kernel_rfl) ho hr
theorem p35_start_1 (n:Int) (need:Int) (p:Int) (q:Int) {E:Env} {res:AV} (hE:Qe Try.prog 35 res E) (ho:AllP [Qf Try.prog (.clos 62 [] []) [.int .i64 n,.int .i64 1,.int .i64 9] (.bool (Qa n 1 9)),(!(Qa n 1 9))=false,Qf Try.prog (.clos 62 [] []) [.int .i64 need,.int .i64 0,.int .i64 n] (.bool (Qa need 0 n)),(!(Qa need 0 n))=true,true=true,true=true,3≤3])
 (hr:AvLe z35_2 res):G Try.prog E [.code (Qd Try.prog 35)] ⟨[.int .i64 n,.int .i64 need,.int .i64 p,.int .i64 q]++unds (Try.f35.ntmps - 4),[]⟩ :=
 Qc (n:=400) (evs:=[.v (.bool (Qa n 1 9)),.b false,.v (.bool (Qa need 0 n)),.b true,.b true,.b true]) (obs:=_) hE Try.func35 Qh (by kernel_rfl) ho hr
theorem p35_start_2 (n:Int) (need:Int) (p:Int) (q:Int) {E:Env} {res:AV} (hE:Qe Try.prog 35 res E) (ho:AllP [Qf Try.prog (.clos 62 [] []) [.int .i64 n,.int .i64 1,.int .i64 9] (.bool (Qa n 1 9)),(!(Qa n 1 9))=false,Qf Try.prog (.clos 62 [] []) [.int .i64 need,.int .i64 0,.int .i64 n] (.bool (Qa need 0 n)),(!(Qa need 0 n))=false,Qf Try.prog (.clos 62 [] []) [.int .i64 p,.int .i64 1,.int .i64 100] (.bool (Qa p 1 100)),(!(Qa p 1 100))=true,true=true,3≤3])
 (hr:AvLe z35_2 res):G Try.prog E [.code (Qd Try.prog 35)] ⟨[.int .i64 n,.int .i64 need,.int .i64 p,.int .i64 q]++unds (Try.f35.ntmps - 4),[]⟩ :=
 Qc (n:=400) (evs:=[.v (.bool (Qa n 1 9)),.b false,.v (.bool (Qa need 0 n)),.b false,.v (.bool (Qa p 1 100)),.b true,.b true]) (obs:=_) hE Try.func35 Qh (by kernel_rfl) ho hr
theorem p35_start_3 (n:Int) (need:Int) (p:Int) (q:Int) {E:Env} {res:AV} (hE:Qe Try.prog 35 res E) (ho:AllP [Qf Try.prog (.clos 62 [] []) [.int .i64 n,.int .i64 1,.int .i64 9] (.bool (Qa n 1 9)),(!(Qa n 1 9))=false,Qf Try.prog (.clos 62 [] []) [.int .i64 need,.int .i64 0,.int .i64 n] (.bool (Qa need 0 n)),(!(Qa need 0 n))=false,Qf Try.prog (.clos 62 [] []) [.int .i64 p,.int .i64 1,.int .i64 100] (.bool (Qa p 1 100)),(!(Qa p 1 100))=false,Qf Try.prog (.clos 62 [] []) [.int .i64 q,.int .i64 1,.int .i64 100] (.bool (Qa q 1 100)),(!(Qa q 1 100))=true,3≤3])
 (hr:AvLe z35_2 res):G Try.prog E [.code (Qd Try.prog 35)] ⟨[.int .i64 n,.int .i64 need,.int .i64 p,.int .i64 q]++unds (Try.f35.ntmps - 4),[]⟩ :=
 Qc (n:=400) (evs:=[.v (.bool (Qa n 1 9)),.b false,.v (.bool (Qa need 0 n)),.b false,.v (.bool (Qa p 1 100)),.b false,.v (.bool (Qa q 1 100)),.b true]) (obs:=_) hE Try.func35 Qh (by kernel_rfl) ho hr
theorem p35_start_4 (n:Int) (need:Int) (p:Int) (q:Int) {E:Env} {rv:AV} (hE:Qe Try.prog 35 rv E) (ho:AllP [Qf Try.prog (.clos 62 [] []) [.int .i64 n,.int .i64 1,.int .i64 9] (.bool (Qa n 1 9)),(!(Qa n 1 9))=false,Qf Try.prog (.clos 62 [] []) [.int .i64 need,.int .i64 0,.int .i64 n] (.bool (Qa need 0 n)),(!(Qa need 0 n))=false,Qf Try.prog (.clos 62 [] []) [.int .i64 p,.int .i64 1,.int .i64 100] (.bool (Qa p 1 100)),(!(Qa p 1 100))=false,Qf Try.prog (.clos 62 [] []) [.int .i64 q,.int .i64 1,.int .i64 100] (.bool (Qa q 1 100)),(!(Qa q 1 100))=false,2≤2])
 (hg:G Try.prog E (f35K0 Try.prog) ⟨([.int .i64 n,.int .i64 need,.int .i64 p,.int .i64 q,J,J,J,J,.ptr 0 0 0,J,.ptr 1 0 0,.int .i64 0]++Js 93),[⟨true,0,1,true,[.nilSl,.nilSl,.int .i64 0],false⟩,⟨true,0,1,false,[.sl 2 0 0 0 1,.sl 3 0 0 0 1],false⟩,⟨true,0,1,true,[],true⟩,⟨true,0,1,true,[],true⟩]⟩):G Try.prog E [.code (Qd Try.prog 35)] ⟨[.int .i64 n,.int .i64 need,.int .i64 p,.int .i64 q]++unds (Try.f35.ntmps - 4),[]⟩ :=
 Qg (n:=400) (ds:=[]) (cs:=[(1,0,1),(1,1,1)]) (live:=[0,1,2,3,8,10,11]) (m:=4) (evs:=[.v (.bool (Qa n 1 9)),.b false,.v (.bool (Qa need 0 n)),.b false,.v (.bool (Qa p 1 100)),.b false,.v (.bool (Qa q 1 100)),.b false,.stop]) (obs:=_) hE.2.1 (hE.nogh _) Qh (by kernel_rfl) ho hg
theorem f35W (n:Int) (need:Int) (p:Int) (q:Int) {E:Env} {rv:(Stl × Int)} (hE:Qe Try.prog 35 (.tup [.agg [.rsl (Qb rv.1.stages) 0 rv.1.stages.length,.rsl (rowI rv.1.worth) 0 rv.1.worth.length,.int .i64 rv.1.price],.int .i64 rv.2]) E)
 (h:(((Qa n 1 9)=false→rv=((⟨([]:List Stg),([]:List Int),0⟩:Stl),1))∧((Qa n 1 9)=true→(((Qa need 0 n)=false→rv=((⟨([]:List Stg),([]:List Int),0⟩:Stl),1))∧((Qa need 0 n)=true→(((Qa p 1 100)=false→rv=((⟨([]:List Stg),([]:List Int),0⟩:Stl),1))∧((Qa p 1 100)=true→(((Qa q 1 100)=false→rv=((⟨([]:List Stg),([]:List Int),0⟩:Stl),1))∧((Qa q 1 100)=true→f35G0 E n need p q 0 ([]) ([])))))))))):G Try.prog E [.code (Qd Try.prog 35)] ⟨[.int .i64 n,.int .i64 need,.int .i64 p,.int .i64 q]++unds (Try.f35.ntmps - 4),[]⟩:=by
 rcases bft (!(Qa n 1 9)) with hc0 | hc0
 · have h:=h.1 (bnT hc0)
   exact p35_start_0 n need p q hE ⟨(u62 (Qi n 1 9)),hc0,rfl,rfl,rfl,(by decide),trivial⟩ (by rw [h]; exact (QV ⟨(Xa ⟨Qx,⟨Qx,⟨AvLe.of_eq rfl,trivial⟩⟩⟩),⟨AvLe.of_eq rfl,trivial⟩⟩))
 · have h:=h.2 (bnF hc0)
   rcases bft (!(Qa need 0 n)) with hc1 | hc1
   · have h:=h.1 (bnT hc1)
     exact p35_start_1 n need p q hE ⟨(u62 (Qi n 1 9)),hc0,(u62 (Qi need 0 n)),hc1,rfl,rfl,(by decide),trivial⟩ (by rw [h]; exact (QV ⟨(Xa ⟨Qx,⟨Qx,⟨AvLe.of_eq rfl,trivial⟩⟩⟩),⟨AvLe.of_eq rfl,trivial⟩⟩))
   · have h:=h.2 (bnF hc1)
     rcases bft (!(Qa p 1 100)) with hc2 | hc2
     · have h:=h.1 (bnT hc2)
       exact p35_start_2 n need p q hE ⟨(u62 (Qi n 1 9)),hc0,(u62 (Qi need 0 n)),hc1,(u62 (Qi p 1 100)),hc2,rfl,(by decide),trivial⟩ (by rw [h]; exact (QV ⟨(Xa ⟨Qx,⟨Qx,⟨AvLe.of_eq rfl,trivial⟩⟩⟩),⟨AvLe.of_eq rfl,trivial⟩⟩))
     · have h:=h.2 (bnF hc2)
       rcases bft (!(Qa q 1 100)) with hc3 | hc3
       · have h:=h.1 (bnT hc3)
         exact p35_start_3 n need p q hE ⟨(u62 (Qi n 1 9)),hc0,(u62 (Qi need 0 n)),hc1,(u62 (Qi p 1 100)),hc2,(u62 (Qi q 1 100)),hc3,(by decide),trivial⟩ (by rw [h]; exact (QV ⟨(Xa ⟨Qx,⟨Qx,⟨AvLe.of_eq rfl,trivial⟩⟩⟩),⟨AvLe.of_eq rfl,trivial⟩⟩))
       · have h:=h.2 (bnF hc3)
         exact p35_start_4 n need p q hE ⟨(u62 (Qi n 1 9)),hc0,(u62 (Qi need 0 n)),hc1,(u62 (Qi p 1 100)),hc2,(u62 (Qi q 1 100)),hc3,(by decide),trivial⟩ (h 0 0)
theorem p35_0_0 (n:Int) (need:Int) (p:Int) (q:Int) (t:Nat) (v2:List Int) (v3:List Int) (g2:Nat) (g3:Nat) {E:Env} {rv:AV} (hE:Qe Try.prog 35 rv E) (ho:AllP [(decide ((t:Int)<n))=true])
 (hg:G Try.prog E (f35K1 Try.prog) ⟨([.int .i64 n,.int .i64 need,.int .i64 p,.int .i64 q,J,J,J,J,.ptr 0 0 0,J,.ptr 1 0 0,.int .i64 (t:Int),.int .i64 0]++Js 92),(z35_3 g2 v2 g3 v3)⟩):G Try.prog E (f35K0 Try.prog) (f35S0 n need p q t v2 v3 g2 g3) :=
 Qg (n:=400) (ds:=[]) (cs:=[]) (live:=[0,1,2,3,8,10,11,12]) (m:=4) (evs:=[.b true,.stop]) (obs:=_) hE.2.1 (hE.nogh _) Qh (by kernel_rfl) ho hg
theorem p35_0_1 (n:Int) (need:Int) (p:Int) (q:Int) (t:Nat) (v2:List Int) (v3:List Int) (g2:Nat) (g3:Nat) {E:Env} {rv:AV} (hE:Qe Try.prog 35 rv E) (ho:AllP [(decide ((t:Int)<n))=false])
 (hg:G Try.prog E (f35K2 Try.prog) ⟨([.int .i64 n,.int .i64 need,.int .i64 p,.int .i64 q,J,J,J,J,.ptr 0 0 0,J,.ptr 1 0 0,J,J,.sl 4 0 0 0 3,.int .i64 0]++Js 90),[⟨true,0,1,true,[.nilSl,.nilSl,.int .i64 0],false⟩,⟨true,0,1,false,[.sl 2 g2 0 v2.length 1,.sl 3 g3 0 v3.length 1],false⟩,⟨true,g2,1,true,(rowI v2),true⟩,⟨true,g3,1,true,(rowI v3),true⟩,⟨true,0,3,true,[],true⟩]⟩):G Try.prog E (f35K0 Try.prog) (f35S0 n need p q t v2 v3 g2 g3) :=
 Qg (n:=400) (ds:=[(13,3)]) (cs:=[]) (live:=[0,1,2,3,8,10,13,14]) (m:=5) (evs:=[.b false,.stop]) (obs:=_) hE.2.1 (hE.nogh _) Qh (by kernel_rfl) ho hg
theorem f35W0 (n:Int) (need:Int) (p:Int) (q:Int) (t:Nat) (v2:List Int) (v3:List Int) {E:Env} {rv:(Stl × Int)} (hE:Qe Try.prog 35 (.tup [.agg [.rsl (Qb rv.1.stages) 0 rv.1.stages.length,.rsl (rowI rv.1.worth) 0 rv.1.worth.length,.int .i64 rv.1.price],.int .i64 rv.2]) E)
 (h:(((t:Int)<n→f35G1 E n need p q 0 v2 v3 t)∧(¬ ((t:Int)<n)→f35G2 E n need p q v2 v3 ([]) 0))):f35G0 E n need p q t v2 v3:=by
 intro g2 g3
 rcases bft (decide ((t:Int)<n)) with hc0 | hc0
 · have h:=h.1 (odt hc0)
   exact p35_0_0 n need p q t v2 v3 g2 g3 hE ⟨hc0,trivial⟩ (h g2 g3)
 · have h:=h.2 (odf hc0)
   exact p35_0_1 n need p q t v2 v3 g2 g3 hE ⟨hc0,trivial⟩ (h g2 g3 0)
theorem p35_1_0 (n:Int) (need:Int) (p:Int) (q:Int) (b:Nat) (v2:List Int) (v3:List Int) (t:Nat) (g2:Nat) (g3:Nat) {E:Env} {rv:AV} (hE:Qe Try.prog 35 rv E) (ho:AllP [(decide ((b:Int)≤(t:Int)))=true,g2=g2,(0+(v2.length*1))=(rowI v2).length,(v2.length+1)≤2147483648,0=0,1≤2,g3=g3,(0+(v3.length*1))=(rowI v3).length,(v3.length+1)≤2147483648,0=0,2≤2,InR .i64 ((b:Int)+1)])
 (hg:G Try.prog E (f35K1 Try.prog) ⟨([.int .i64 n,.int .i64 need,.int .i64 p,.int .i64 q,J,J,J,J,.ptr 0 0 0,J,.ptr 1 0 0,.int .i64 (t:Int),.int .i64 ((b:Int)+1)]++Js 92),[⟨true,0,1,true,[.nilSl,.nilSl,.int .i64 0],false⟩,⟨true,0,1,false,[.sl 2 (g2+1) 0 (v2.length+1) 1,.sl 3 (g3+1) 0 (v3.length+1) 1],false⟩,⟨true,(g2+1),1,true,((rowI v2)++[.int .i64 (t:Int)]),true⟩,⟨true,(g3+1),1,true,((rowI v3)++[.int .i64 (b:Int)]),true⟩]⟩):G Try.prog E (f35K1 Try.prog) (f35S1 n need p q b v2 v3 t g2 g3) :=
 Qg (n:=400) (ds:=[]) (cs:=[]) (live:=[0,1,2,3,8,10,11,12]) (m:=4) (evs:=[.b true,.stop]) (obs:=_) hE.2.1 (hE.nogh _) Qh (by kernel_rfl) ho hg
theorem p35_1_1 (n:Int) (need:Int) (p:Int) (q:Int) (b:Nat) (v2:List Int) (v3:List Int) (t:Nat) (g2:Nat) (g3:Nat) {E:Env} {rv:AV} (hE:Qe Try.prog 35 rv E) (ho:AllP [(decide ((b:Int)≤(t:Int)))=false,InR .i64 ((t:Int)+1)])
 (hg:G Try.prog E (f35K0 Try.prog) ⟨([.int .i64 n,.int .i64 need,.int .i64 p,.int .i64 q,J,J,J,J,.ptr 0 0 0,J,.ptr 1 0 0,.int .i64 ((t:Int)+1)]++Js 93),(z35_3 g2 v2 g3 v3)⟩):G Try.prog E (f35K1 Try.prog) (f35S1 n need p q b v2 v3 t g2 g3) :=
 Qg (n:=400) (ds:=[]) (cs:=[]) (live:=[0,1,2,3,8,10,11]) (m:=4) (evs:=[.b false,.stop]) (obs:=_) hE.2.1 (hE.nogh _) Qh (by kernel_rfl) ho hg
theorem f35W1 (n:Int) (need:Int) (p:Int) (q:Int) (b:Nat) (v2:List Int) (v3:List Int) (t:Nat) {E:Env} {rv:(Stl × Int)} (hE:Qe Try.prog 35 (.tup [.agg [.rsl (Qb rv.1.stages) 0 rv.1.stages.length,.rsl (rowI rv.1.worth) 0 rv.1.worth.length,.int .i64 rv.1.price],.int .i64 rv.2]) E)
 (h:(((b:Int)≤(t:Int)→((v2.length+1)≤2147483648∧((v3.length+1)≤2147483648∧((I6 ((b:Int)+1))∧f35G1 E n need p q (b+1) (v2++[(t:Int)]) (v3++[(b:Int)]) t))))∧(¬ ((b:Int)≤(t:Int))→((I6 ((t:Int)+1))∧f35G0 E n need p q (t+1) v2 v3)))):f35G1 E n need p q b v2 v3 t:=by
 intro g2 g3
 rcases bft (decide ((b:Int)≤(t:Int))) with hc0 | hc0
 · have h:=h.1 (odt hc0)
   obtain ⟨h1,h⟩:=h
   obtain ⟨h2,h⟩:=h
   obtain ⟨q11_1,h⟩:=h
   refine p35_1_0 n need p q b v2 v3 t g2 g3 hE ⟨hc0,rfl,(by have hx:=Xd cI (s:=1) (fun _=>rfl) v2; simp only [rowI] at hx ⊢; rw [hx]; simp),h1,rfl,(by decide),rfl,(by have hx:=Xd cI (s:=1) (fun _=>rfl) v3; simp only [rowI] at hx ⊢; rw [hx]; simp),h2,rfl,(by decide),q11_1,trivial⟩ ?_
   rw [(show rowI v2++[.int .i64 (t:Int)]=rowI (v2++[(t:Int)]) from (Xe cI v2 [(t:Int)]).symm)]; rw [(show (v2.length+1)=(v2++[(t:Int)]).length from by simp)]; rw [(show rowI v3++[.int .i64 (b:Int)]=rowI (v3++[(b:Int)]) from (Xe cI v3 [(b:Int)]).symm)]; rw [(show (v3.length+1)=(v3++[(b:Int)]).length from by simp)]; exact (h (g2+1) (g3+1))
 · have h:=h.2 (odf hc0)
   obtain ⟨q1_1,h⟩:=h
   exact p35_1_1 n need p q b v2 v3 t g2 g3 hE ⟨hc0,q1_1,trivial⟩ (h g2 g3)
theorem p35_2_0 (n:Int) (need:Int) (p:Int) (q:Int) (v2:List Int) (v3:List Int) (v4:List Stg) (i:Nat) (g2:Nat) (g3:Nat) (g4:Nat) (e:Int) (e1:Int) {E:Env} {rv:AV} (hE:Qe Try.prog 35 rv E) (ho:AllP [g2=g2,(decide ((i:Int)<(v2.length:Int)))=true,0≤(i:Int)∧(i:Int)<(v2.length:Int),g2=g2,g2=g2,((rowI v2).drop (0+(Int.toNat (i:Int))*1)).take 1=[.int .i64 e],0≤(i:Int)∧(i:Int)<(v3.length:Int),g3=g3,g3=g3,((rowI v3).drop (0+(Int.toNat (i:Int))*1)).take 1=[.int .i64 e1],InR .i64 (e+1),InR .i64 (e1+1),Qf Try.prog (.clos 88 [] []) [.agg [.rsl (rowI v2) 0 v2.length,.rsl (rowI v3) 0 v3.length],.int .i64 (e+1),.int .i64 (e1+1),.int .i64 n,.int .i64 need] (.int .i64 (toN (⟨v2,v3⟩:Nms) (e+1) (e1+1) n need)),g2=g2,g3=g3,InR .i64 (e+1),Qf Try.prog (.clos 88 [] []) [.agg [.rsl (rowI v2) 0 v2.length,.rsl (rowI v3) 0 v3.length],.int .i64 (e+1),.int .i64 e1,.int .i64 n,.int .i64 need] (.int .i64 (toN (⟨v2,v3⟩:Nms) (e+1) e1 n need)),g2=g2,g3=g3,(∀ k,slOf 0 k (.sl k 0 0 2 2)=true),g4=g4,(0+(v4.length*3))=(Qb v4).length,(v4.length+1)≤2147483648,0=0,InR .i64 ((i:Int)+1)])
 (hg:G Try.prog E (f35K2 Try.prog) ⟨([.int .i64 n,.int .i64 need,.int .i64 p,.int .i64 q,J,J,J,J,.ptr 0 0 0,J,.ptr 1 0 0,J,J,.sl 4 (g4+1) 0 (v4.length+1) 3,.int .i64 ((i:Int)+1)]++Js 90),[⟨true,0,1,true,[.nilSl,.nilSl,.int .i64 0],false⟩,⟨true,0,1,false,[.sl 2 g2 0 v2.length 1,.sl 3 g3 0 v3.length 1],false⟩,⟨true,g2,1,true,(rowI v2),true⟩,⟨true,g3,1,true,(rowI v3),true⟩,⟨true,(g4+1),3,true,((Qb v4)++[.int .i64 1,.int .i64 0,.rsl [.int .i64 p,.int .i64 (toN (⟨v2,v3⟩:Nms) (e+1) (e1+1) n need),.int .i64 q,.int .i64 (toN (⟨v2,v3⟩:Nms) (e+1) e1 n need)] 0 2]),true⟩]⟩):G Try.prog E (f35K2 Try.prog) (f35S2 n need p q v2 v3 v4 i g2 g3 g4) :=
 Qg (n:=400) (ds:=[]) (cs:=[]) (live:=[0,1,2,3,8,10,13,14]) (m:=5) (evs:=[.b true,.auto,.ld (.int .i64 e),.auto,.ld (.int .i64 e1),.v (.int .i64 (toN (⟨v2,v3⟩:Nms) (e+1) (e1+1) n need)),.v (.int .i64 (toN (⟨v2,v3⟩:Nms) (e+1) e1 n need)),.vn .junk,.stop]) (obs:=_) hE.2.1 (hE.nogh _) Qh (by kernel_rfl) ho hg
theorem p35_2_1 (n:Int) (need:Int) (p:Int) (q:Int) (v2:List Int) (v3:List Int) (v4:List Stg) (i:Nat) (g2:Nat) (g3:Nat) (g4:Nat) {E:Env} {res:AV} (hE:Qe Try.prog 35 res E) (ho:AllP [g2=g2,(decide ((i:Int)<(v2.length:Int)))=false,Wg Try.prog (.clos 89 [] []) [.sl 0 g4 0 v4.length 3] [⟨true,g4,3,true,(Qb v4),true⟩] (z35_1 v4) [⟨false,((g4+1)+1),3,true,[],false⟩],3≤3])
 (hr:AvLe (z35_1 v4) res):G Try.prog E (f35K2 Try.prog) (f35S2 n need p q v2 v3 v4 i g2 g3 g4) :=
 Qc (n:=400) (evs:=[.b false,.lent [4] (z35_1 v4) [⟨false,((g4+1)+1),3,true,[],false⟩]]) (obs:=_) hE Try.func35 Qh (by kernel_rfl) ho hr
theorem f35W2 (n:Int) (need:Int) (p:Int) (q:Int) (v2:List Int) (v3:List Int) (v4:List Stg) (i:Nat) {E:Env} {rv:(Stl × Int)} (hE:Qe Try.prog 35 (.tup [.agg [.rsl (Qb rv.1.stages) 0 rv.1.stages.length,.rsl (rowI rv.1.worth) 0 rv.1.worth.length,.int .i64 rv.1.price],.int .i64 rv.2]) E)
 (h:(((i:Int)<(v2.length:Int)→(∃ e:Int,v2[i]?=some e∧(∃ e1:Int,v3[i]?=some e1∧((I6 (e+1))∧((I6 (e1+1))∧(((⟨v2,v3⟩:Nms).t.length≤(⟨v2,v3⟩:Nms).h.length∧(⟨v2,v3⟩:Nms).t.length≤1000000)∧((I6 (e+1))∧(((⟨v2,v3⟩:Nms).t.length≤(⟨v2,v3⟩:Nms).h.length∧(⟨v2,v3⟩:Nms).t.length≤1000000)∧((v4.length+1)≤2147483648∧((I6 ((i:Int)+1))∧f35G2 E n need p q v2 v3 (v4++[(⟨1,0,[(⟨p,(toN (⟨v2,v3⟩:Nms) (e+1) (e1+1) n need)⟩:Trn),(⟨q,(toN (⟨v2,v3⟩:Nms) (e+1) e1 n need)⟩:Trn)]⟩:Stg)]) (i+1)))))))))))∧(¬ ((i:Int)<(v2.length:Int))→((v4.length≤1000000)∧rv=(((Xg v4).1),(Xg v4).2))))):f35G2 E n need p q v2 v3 v4 i:=by
 intro g2 g3 g4
 rcases bft (decide ((i:Int)<(v2.length:Int))) with hc0 | hc0
 · have h:=h.1 (odt hc0)
   obtain ⟨e,h1,h⟩:=h
   obtain ⟨e1,h2,h⟩:=h
   obtain ⟨q12_1,h⟩:=h
   obtain ⟨q13_1,h⟩:=h
   obtain ⟨h3,h⟩:=h
   obtain ⟨q17_1,h⟩:=h
   obtain ⟨h4,h⟩:=h
   obtain ⟨h5,h⟩:=h
   obtain ⟨q26_1,h⟩:=h
   refine p35_2_0 n need p q v2 v3 v4 i g2 g3 g4 e e1 hE ⟨rfl,hc0,(Qs h1),rfl,rfl,(rp cI 1 0 1 h1),(Qs h2),rfl,rfl,(rp cI 1 0 1 h2),q12_1,q13_1,(u88 (qD (⟨v2,v3⟩:Nms) (e+1) (e1+1) n need h3)),rfl,rfl,q17_1,(u88 (qD (⟨v2,v3⟩:Nms) (e+1) e1 n need h4)),rfl,rfl,(fun k=>by simp [slOf]),rfl,(by have hx:=Xd cStg (s:=3) (fun _=>rfl) v4; simp only [Qb] at hx ⊢; rw [hx]; simp),h5,rfl,q26_1,trivial⟩ ?_
   rw [(show Qb v4++[.int .i64 1,.int .i64 0,.rsl [.int .i64 p,.int .i64 (toN (⟨v2,v3⟩:Nms) (e+1) (e1+1) n need),.int .i64 q,.int .i64 (toN (⟨v2,v3⟩:Nms) (e+1) e1 n need)] 0 2]=Qb (v4++[(⟨1,0,[(⟨p,(toN (⟨v2,v3⟩:Nms) (e+1) (e1+1) n need)⟩:Trn),(⟨q,(toN (⟨v2,v3⟩:Nms) (e+1) e1 n need)⟩:Trn)]⟩:Stg)]) from (Xe cStg v4 [(⟨1,0,[(⟨p,(toN (⟨v2,v3⟩:Nms) (e+1) (e1+1) n need)⟩:Trn),(⟨q,(toN (⟨v2,v3⟩:Nms) (e+1) e1 n need)⟩:Trn)]⟩:Stg)]).symm)]; rw [(show (v4.length+1)=(v4++[(⟨1,0,[(⟨p,(toN (⟨v2,v3⟩:Nms) (e+1) (e1+1) n need)⟩:Trn),(⟨q,(toN (⟨v2,v3⟩:Nms) (e+1) e1 n need)⟩:Trn)]⟩:Stg)]).length from by simp)]; exact (h g2 g3 (g4+1))
 · have h:=h.2 (odf hc0)
   obtain ⟨h1,h⟩:=h
   exact p35_2_1 n need p q v2 v3 v4 i g2 g3 g4 hE ⟨rfl,hc0,(Wo Try.func89 (by kernel_rfl) f89b (ended_ok v4 g4 h1)),(by decide),trivial⟩ (AvLe.of_eq (by rw [h]; try rfl))
theorem f37b:Try.f37.body=some (Qd Try.prog 37):=by kernel_rfl
theorem u37 {a c k:List AV} {r:AV} (h:Pure Try.prog 37 (a++c++k) r):Qf Try.prog (.clos 37 a k) c r:=Qo Try.func37 (by kernel_rfl) f37b h
def f37K0 (P:Program):List Item:=kAt 400 [.code (Qd P 37)] [.b false,.stop]
def f37S0 (t:Int) (w:Int) (n:Int) (need:Int) (t1:Nat) (v2:List Int) (v3:List Int) (g2:Nat) (g3:Nat):St:=⟨([.int .i64 t,.int .i64 w,.int .i64 n,.int .i64 need,J,J,J,J,.ptr 0 0 0,J,.ptr 1 0 0,.int .i64 (t1:Int)]++Js 135),[⟨true,0,1,true,[.nilSl,.nilSl,.int .i64 0],false⟩,⟨true,0,1,false,[.sl 2 g2 0 v2.length 1,.sl 3 g3 0 v3.length 1],false⟩,⟨true,g2,1,true,(rowI v2),true⟩,⟨true,g3,1,true,(rowI v3),true⟩]⟩
def f37G0 (E:Env) (t:Int) (w:Int) (n:Int) (need:Int) (t1:Nat) (v2:List Int) (v3:List Int):Prop:=∀ g2 g3:Nat,G Try.prog E (f37K0 Try.prog) (f37S0 t w n need t1 v2 v3 g2 g3)
def yH (P:Program):List Item:=kAt 400 [.code (Qd P 37)] [.b false,.b true,.stop]
def f37S1 (t:Int) (w:Int) (n:Int) (need:Int) (b:Nat) (v2:List Int) (v3:List Int) (t1:Nat) (g2:Nat) (g3:Nat):St:=⟨([.int .i64 t,.int .i64 w,.int .i64 n,.int .i64 need,J,J,J,J,.ptr 0 0 0,J,.ptr 1 0 0,.int .i64 (t1:Int),.int .i64 (b:Int)]++Js 134),[⟨true,0,1,true,[.nilSl,.nilSl,.int .i64 0],false⟩,⟨true,0,1,false,[.sl 2 g2 0 v2.length 1,.sl 3 g3 0 v3.length 1],false⟩,⟨true,g2,1,true,(rowI v2),true⟩,⟨true,g3,1,true,(rowI v3),true⟩]⟩
def f37G1 (E:Env) (t:Int) (w:Int) (n:Int) (need:Int) (b:Nat) (v2:List Int) (v3:List Int) (t1:Nat):Prop:=∀ g2 g3:Nat,G Try.prog E (yH Try.prog) (f37S1 t w n need b v2 v3 t1 g2 g3)
def WW (P:Program):List Item:=kAt 400 [.code (Qd P 37)] [.b false,.b false,.stop]
def f37S2 (t:Int) (w:Int) (n:Int) (need:Int) (v2:List Int) (v3:List Int) (v4:List Stg) (i:Nat) (g2:Nat) (g3:Nat) (g4:Nat):St:=⟨([.int .i64 t,.int .i64 w,.int .i64 n,.int .i64 need,J,J,J,J,.ptr 0 0 0,J,.ptr 1 0 0,J,J,.sl 4 g4 0 v4.length 3,.int .i64 (i:Int)]++Js 132),[⟨true,0,1,true,[.nilSl,.nilSl,.int .i64 0],false⟩,⟨true,0,1,false,[.sl 2 g2 0 v2.length 1,.sl 3 g3 0 v3.length 1],false⟩,⟨true,g2,1,true,(rowI v2),true⟩,⟨true,g3,1,true,(rowI v3),true⟩,⟨true,g4,3,true,(Qb v4),true⟩]⟩
def f37G2 (E:Env) (t:Int) (w:Int) (n:Int) (need:Int) (v2:List Int) (v3:List Int) (v4:List Stg) (i:Nat):Prop:=∀ g2 g3 g4:Nat,G Try.prog E (WW Try.prog) (f37S2 t w n need v2 v3 v4 i g2 g3 g4)
abbrev z37_1 (g2:Nat) (v2:List Int) (g3:Nat) (v3:List Int):List Blk:=[⟨true,0,1,true,[.nilSl,.nilSl,.int .i64 0],false⟩,⟨true,0,1,false,[.sl 2 g2 0 v2.length 1,.sl 3 g3 0 v3.length 1],false⟩,⟨true,g2,1,true,(rowI v2),true⟩,⟨true,g3,1,true,(rowI v3),true⟩]
abbrev z37_2 (v4:List Stg):AV:=.tup [.agg [.rsl (Qb (((Xg v4).1).stages)) 0 ((((Xg v4).1).stages).length),.rsl (rowI (((Xg v4).1).worth)) 0 ((((Xg v4).1).worth).length),.int .i64 (((Xg v4).1).price)],.int .i64 ((Xg v4).2)]
abbrev z37_3:AV:=.tup [.agg [.nilSl,.nilSl,.int .i64 0],.int .i64 1]
theorem p37_start_0 (t:Int) (w:Int) (n:Int) (need:Int) {E:Env} {res:AV} (hE:Qe Try.prog 37 res E) (ho:AllP [Qf Try.prog (.clos 62 [] []) [.int .i64 t,.int .i64 1,.int .i64 100] (.bool (Qa t 1 100)),(!(Qa t 1 100))=true,true=true,true=true,true=true,3≤3])
 (hr:AvLe z37_3 res):G Try.prog E [.code (Qd Try.prog 37)] ⟨[.int .i64 t,.int .i64 w,.int .i64 n,.int .i64 need]++unds (Try.f37.ntmps - 4),[]⟩ :=
 Qc (n:=400) (evs:=[.v (.bool (Qa t 1 100)),.b true,.b true,.b true,.b true]) (obs:=_) hE Try.func37 Qh (by kernel_rfl) ho hr
theorem p37_start_1 (t:Int) (w:Int) (n:Int) (need:Int) {E:Env} {res:AV} (hE:Qe Try.prog 37 res E) (ho:AllP [Qf Try.prog (.clos 62 [] []) [.int .i64 t,.int .i64 1,.int .i64 100] (.bool (Qa t 1 100)),(!(Qa t 1 100))=false,Qf Try.prog (.clos 62 [] []) [.int .i64 w,.int .i64 0,.int .i64 t] (.bool (Qa w 0 t)),(!(Qa w 0 t))=true,true=true,true=true,3≤3])
 (hr:AvLe z37_3 res):G Try.prog E [.code (Qd Try.prog 37)] ⟨[.int .i64 t,.int .i64 w,.int .i64 n,.int .i64 need]++unds (Try.f37.ntmps - 4),[]⟩ :=
 Qc (n:=400) (evs:=[.v (.bool (Qa t 1 100)),.b false,.v (.bool (Qa w 0 t)),.b true,.b true,.b true]) (obs:=_) hE Try.func37 Qh (by kernel_rfl) ho hr
theorem p37_start_2 (t:Int) (w:Int) (n:Int) (need:Int) {E:Env} {res:AV} (hE:Qe Try.prog 37 res E) (ho:AllP [Qf Try.prog (.clos 62 [] []) [.int .i64 t,.int .i64 1,.int .i64 100] (.bool (Qa t 1 100)),(!(Qa t 1 100))=false,Qf Try.prog (.clos 62 [] []) [.int .i64 w,.int .i64 0,.int .i64 t] (.bool (Qa w 0 t)),(!(Qa w 0 t))=false,Qf Try.prog (.clos 62 [] []) [.int .i64 n,.int .i64 1,.int .i64 (iMin 9 t)] (.bool (Qa n 1 (iMin 9 t))),(!(Qa n 1 (iMin 9 t)))=true,true=true,3≤3])
 (hr:AvLe z37_3 res):G Try.prog E [.code (Qd Try.prog 37)] ⟨[.int .i64 t,.int .i64 w,.int .i64 n,.int .i64 need]++unds (Try.f37.ntmps - 4),[]⟩ :=
 Qc (n:=400) (evs:=[.v (.bool (Qa t 1 100)),.b false,.v (.bool (Qa w 0 t)),.b false,.v (.bool (Qa n 1 (iMin 9 t))),.b true,.b true]) (obs:=_) hE Try.func37 Qh (by kernel_rfl) ho hr
theorem p37_start_3 (t:Int) (w:Int) (n:Int) (need:Int) {E:Env} {res:AV} (hE:Qe Try.prog 37 res E) (ho:AllP [Qf Try.prog (.clos 62 [] []) [.int .i64 t,.int .i64 1,.int .i64 100] (.bool (Qa t 1 100)),(!(Qa t 1 100))=false,Qf Try.prog (.clos 62 [] []) [.int .i64 w,.int .i64 0,.int .i64 t] (.bool (Qa w 0 t)),(!(Qa w 0 t))=false,Qf Try.prog (.clos 62 [] []) [.int .i64 n,.int .i64 1,.int .i64 (iMin 9 t)] (.bool (Qa n 1 (iMin 9 t))),(!(Qa n 1 (iMin 9 t)))=false,Qf Try.prog (.clos 62 [] []) [.int .i64 need,.int .i64 0,.int .i64 n] (.bool (Qa need 0 n)),(!(Qa need 0 n))=true,3≤3])
 (hr:AvLe z37_3 res):G Try.prog E [.code (Qd Try.prog 37)] ⟨[.int .i64 t,.int .i64 w,.int .i64 n,.int .i64 need]++unds (Try.f37.ntmps - 4),[]⟩ :=
 Qc (n:=400) (evs:=[.v (.bool (Qa t 1 100)),.b false,.v (.bool (Qa w 0 t)),.b false,.v (.bool (Qa n 1 (iMin 9 t))),.b false,.v (.bool (Qa need 0 n)),.b true]) (obs:=_) hE Try.func37 Qh (by kernel_rfl) ho hr
theorem p37_start_4 (t:Int) (w:Int) (n:Int) (need:Int) {E:Env} {rv:AV} (hE:Qe Try.prog 37 rv E) (ho:AllP [Qf Try.prog (.clos 62 [] []) [.int .i64 t,.int .i64 1,.int .i64 100] (.bool (Qa t 1 100)),(!(Qa t 1 100))=false,Qf Try.prog (.clos 62 [] []) [.int .i64 w,.int .i64 0,.int .i64 t] (.bool (Qa w 0 t)),(!(Qa w 0 t))=false,Qf Try.prog (.clos 62 [] []) [.int .i64 n,.int .i64 1,.int .i64 (iMin 9 t)] (.bool (Qa n 1 (iMin 9 t))),(!(Qa n 1 (iMin 9 t)))=false,Qf Try.prog (.clos 62 [] []) [.int .i64 need,.int .i64 0,.int .i64 n] (.bool (Qa need 0 n)),(!(Qa need 0 n))=false,2≤2])
 (hg:G Try.prog E (f37K0 Try.prog) ⟨([.int .i64 t,.int .i64 w,.int .i64 n,.int .i64 need,J,J,J,J,.ptr 0 0 0,J,.ptr 1 0 0,.int .i64 0]++Js 135),[⟨true,0,1,true,[.nilSl,.nilSl,.int .i64 0],false⟩,⟨true,0,1,false,[.sl 2 0 0 0 1,.sl 3 0 0 0 1],false⟩,⟨true,0,1,true,[],true⟩,⟨true,0,1,true,[],true⟩]⟩):G Try.prog E [.code (Qd Try.prog 37)] ⟨[.int .i64 t,.int .i64 w,.int .i64 n,.int .i64 need]++unds (Try.f37.ntmps - 4),[]⟩ :=
 Qg (n:=400) (ds:=[]) (cs:=[(1,0,1),(1,1,1)]) (live:=[0,1,2,3,8,10,11]) (m:=4) (evs:=[.v (.bool (Qa t 1 100)),.b false,.v (.bool (Qa w 0 t)),.b false,.v (.bool (Qa n 1 (iMin 9 t))),.b false,.v (.bool (Qa need 0 n)),.b false,.stop]) (obs:=_) hE.2.1 (hE.nogh _) Qh (by kernel_rfl) ho hg
theorem f37W (t:Int) (w:Int) (n:Int) (need:Int) {E:Env} {rv:(Stl × Int)} (hE:Qe Try.prog 37 (.tup [.agg [.rsl (Qb rv.1.stages) 0 rv.1.stages.length,.rsl (rowI rv.1.worth) 0 rv.1.worth.length,.int .i64 rv.1.price],.int .i64 rv.2]) E)
 (h:(((Qa t 1 100)=false→rv=((⟨([]:List Stg),([]:List Int),0⟩:Stl),1))∧((Qa t 1 100)=true→(((Qa w 0 t)=false→rv=((⟨([]:List Stg),([]:List Int),0⟩:Stl),1))∧((Qa w 0 t)=true→(((Qa n 1 (iMin 9 t))=false→rv=((⟨([]:List Stg),([]:List Int),0⟩:Stl),1))∧((Qa n 1 (iMin 9 t))=true→(((Qa need 0 n)=false→rv=((⟨([]:List Stg),([]:List Int),0⟩:Stl),1))∧((Qa need 0 n)=true→f37G0 E t w n need 0 ([]) ([])))))))))):G Try.prog E [.code (Qd Try.prog 37)] ⟨[.int .i64 t,.int .i64 w,.int .i64 n,.int .i64 need]++unds (Try.f37.ntmps - 4),[]⟩:=by
 rcases bft (!(Qa t 1 100)) with hc0 | hc0
 · have h:=h.1 (bnT hc0)
   exact p37_start_0 t w n need hE ⟨(u62 (Qi t 1 100)),hc0,rfl,rfl,rfl,(by decide),trivial⟩ (by rw [h]; exact (QV ⟨(Xa ⟨Qx,⟨Qx,⟨AvLe.of_eq rfl,trivial⟩⟩⟩),⟨AvLe.of_eq rfl,trivial⟩⟩))
 · have h:=h.2 (bnF hc0)
   rcases bft (!(Qa w 0 t)) with hc1 | hc1
   · have h:=h.1 (bnT hc1)
     exact p37_start_1 t w n need hE ⟨(u62 (Qi t 1 100)),hc0,(u62 (Qi w 0 t)),hc1,rfl,rfl,(by decide),trivial⟩ (by rw [h]; exact (QV ⟨(Xa ⟨Qx,⟨Qx,⟨AvLe.of_eq rfl,trivial⟩⟩⟩),⟨AvLe.of_eq rfl,trivial⟩⟩))
   · have h:=h.2 (bnF hc1)
     rcases bft (!(Qa n 1 (iMin 9 t))) with hc2 | hc2
     · have h:=h.1 (bnT hc2)
       exact p37_start_2 t w n need hE ⟨(u62 (Qi t 1 100)),hc0,(u62 (Qi w 0 t)),hc1,(u62 (Qi n 1 (iMin 9 t))),hc2,rfl,(by decide),trivial⟩ (by rw [h]; exact (QV ⟨(Xa ⟨Qx,⟨Qx,⟨AvLe.of_eq rfl,trivial⟩⟩⟩),⟨AvLe.of_eq rfl,trivial⟩⟩))
     · have h:=h.2 (bnF hc2)
       rcases bft (!(Qa need 0 n)) with hc3 | hc3
       · have h:=h.1 (bnT hc3)
         exact p37_start_3 t w n need hE ⟨(u62 (Qi t 1 100)),hc0,(u62 (Qi w 0 t)),hc1,(u62 (Qi n 1 (iMin 9 t))),hc2,(u62 (Qi need 0 n)),hc3,(by decide),trivial⟩ (by rw [h]; exact (QV ⟨(Xa ⟨Qx,⟨Qx,⟨AvLe.of_eq rfl,trivial⟩⟩⟩),⟨AvLe.of_eq rfl,trivial⟩⟩))
       · have h:=h.2 (bnF hc3)
         exact p37_start_4 t w n need hE ⟨(u62 (Qi t 1 100)),hc0,(u62 (Qi w 0 t)),hc1,(u62 (Qi n 1 (iMin 9 t))),hc2,(u62 (Qi need 0 n)),hc3,(by decide),trivial⟩ (h 0 0)
theorem p37_0_0 (t:Int) (w:Int) (n:Int) (need:Int) (t1:Nat) (v2:List Int) (v3:List Int) (g2:Nat) (g3:Nat) {E:Env} {rv:AV} (hE:Qe Try.prog 37 rv E) (ho:AllP [(decide ((t1:Int)<n))=true])
 (hg:G Try.prog E (yH Try.prog) ⟨([.int .i64 t,.int .i64 w,.int .i64 n,.int .i64 need,J,J,J,J,.ptr 0 0 0,J,.ptr 1 0 0,.int .i64 (t1:Int),.int .i64 0]++Js 134),(z37_1 g2 v2 g3 v3)⟩):G Try.prog E (f37K0 Try.prog) (f37S0 t w n need t1 v2 v3 g2 g3) :=
 Qg (n:=400) (ds:=[]) (cs:=[]) (live:=[0,1,2,3,8,10,11,12]) (m:=4) (evs:=[.b true,.stop]) (obs:=_) hE.2.1 (hE.nogh _) Qh (by kernel_rfl) ho hg
theorem p37_0_1 (t:Int) (w:Int) (n:Int) (need:Int) (t1:Nat) (v2:List Int) (v3:List Int) (g2:Nat) (g3:Nat) {E:Env} {rv:AV} (hE:Qe Try.prog 37 rv E) (ho:AllP [(decide ((t1:Int)<n))=false])
 (hg:G Try.prog E (WW Try.prog) ⟨([.int .i64 t,.int .i64 w,.int .i64 n,.int .i64 need,J,J,J,J,.ptr 0 0 0,J,.ptr 1 0 0,J,J,.sl 4 0 0 0 3,.int .i64 0]++Js 132),[⟨true,0,1,true,[.nilSl,.nilSl,.int .i64 0],false⟩,⟨true,0,1,false,[.sl 2 g2 0 v2.length 1,.sl 3 g3 0 v3.length 1],false⟩,⟨true,g2,1,true,(rowI v2),true⟩,⟨true,g3,1,true,(rowI v3),true⟩,⟨true,0,3,true,[],true⟩]⟩):G Try.prog E (f37K0 Try.prog) (f37S0 t w n need t1 v2 v3 g2 g3) :=
 Qg (n:=400) (ds:=[(13,3)]) (cs:=[]) (live:=[0,1,2,3,8,10,13,14]) (m:=5) (evs:=[.b false,.stop]) (obs:=_) hE.2.1 (hE.nogh _) Qh (by kernel_rfl) ho hg
theorem f37W0 (t:Int) (w:Int) (n:Int) (need:Int) (t1:Nat) (v2:List Int) (v3:List Int) {E:Env} {rv:(Stl × Int)} (hE:Qe Try.prog 37 (.tup [.agg [.rsl (Qb rv.1.stages) 0 rv.1.stages.length,.rsl (rowI rv.1.worth) 0 rv.1.worth.length,.int .i64 rv.1.price],.int .i64 rv.2]) E)
 (h:(((t1:Int)<n→f37G1 E t w n need 0 v2 v3 t1)∧(¬ ((t1:Int)<n)→f37G2 E t w n need v2 v3 ([]) 0))):f37G0 E t w n need t1 v2 v3:=by
 intro g2 g3
 rcases bft (decide ((t1:Int)<n)) with hc0 | hc0
 · have h:=h.1 (odt hc0)
   exact p37_0_0 t w n need t1 v2 v3 g2 g3 hE ⟨hc0,trivial⟩ (h g2 g3)
 · have h:=h.2 (odf hc0)
   exact p37_0_1 t w n need t1 v2 v3 g2 g3 hE ⟨hc0,trivial⟩ (h g2 g3 0)
theorem p37_1_0 (t:Int) (w:Int) (n:Int) (need:Int) (b:Nat) (v2:List Int) (v3:List Int) (t1:Nat) (g2:Nat) (g3:Nat) {E:Env} {rv:AV} (hE:Qe Try.prog 37 rv E) (ho:AllP [(decide ((b:Int)≤(t1:Int)))=true,(decide ((b:Int)≤w))=true,InR .i64 ((t1:Int) - (b:Int)),InR .i64 (t - w),(decide (((t1:Int) - (b:Int))≤(t - w)))=true,g2=g2,(0+(v2.length*1))=(rowI v2).length,(v2.length+1)≤2147483648,0=0,1≤2,g3=g3,(0+(v3.length*1))=(rowI v3).length,(v3.length+1)≤2147483648,0=0,2≤2,InR .i64 ((b:Int)+1)])
 (hg:G Try.prog E (yH Try.prog) ⟨([.int .i64 t,.int .i64 w,.int .i64 n,.int .i64 need,J,J,J,J,.ptr 0 0 0,J,.ptr 1 0 0,.int .i64 (t1:Int),.int .i64 ((b:Int)+1)]++Js 134),[⟨true,0,1,true,[.nilSl,.nilSl,.int .i64 0],false⟩,⟨true,0,1,false,[.sl 2 (g2+1) 0 (v2.length+1) 1,.sl 3 (g3+1) 0 (v3.length+1) 1],false⟩,⟨true,(g2+1),1,true,((rowI v2)++[.int .i64 (t1:Int)]),true⟩,⟨true,(g3+1),1,true,((rowI v3)++[.int .i64 (b:Int)]),true⟩]⟩):G Try.prog E (yH Try.prog) (f37S1 t w n need b v2 v3 t1 g2 g3) :=
 Qg (n:=400) (ds:=[]) (cs:=[]) (live:=[0,1,2,3,8,10,11,12]) (m:=4) (evs:=[.b true,.b true,.b true,.stop]) (obs:=_) hE.2.1 (hE.nogh _) Qh (by kernel_rfl) ho hg
theorem p37_1_1 (t:Int) (w:Int) (n:Int) (need:Int) (b:Nat) (v2:List Int) (v3:List Int) (t1:Nat) (g2:Nat) (g3:Nat) {E:Env} {rv:AV} (hE:Qe Try.prog 37 rv E) (ho:AllP [(decide ((b:Int)≤(t1:Int)))=true,(decide ((b:Int)≤w))=true,InR .i64 ((t1:Int) - (b:Int)),InR .i64 (t - w),(decide (((t1:Int) - (b:Int))≤(t - w)))=false,InR .i64 ((b:Int)+1)])
 (hg:G Try.prog E (yH Try.prog) ⟨([.int .i64 t,.int .i64 w,.int .i64 n,.int .i64 need,J,J,J,J,.ptr 0 0 0,J,.ptr 1 0 0,.int .i64 (t1:Int),.int .i64 ((b:Int)+1)]++Js 134),(z37_1 g2 v2 g3 v3)⟩):G Try.prog E (yH Try.prog) (f37S1 t w n need b v2 v3 t1 g2 g3) :=
 Qg (n:=400) (ds:=[]) (cs:=[]) (live:=[0,1,2,3,8,10,11,12]) (m:=4) (evs:=[.b true,.b true,.b false,.stop]) (obs:=_) hE.2.1 (hE.nogh _) Qh (by kernel_rfl) ho hg
theorem p37_1_2 (t:Int) (w:Int) (n:Int) (need:Int) (b:Nat) (v2:List Int) (v3:List Int) (t1:Nat) (g2:Nat) (g3:Nat) {E:Env} {rv:AV} (hE:Qe Try.prog 37 rv E) (ho:AllP [(decide ((b:Int)≤(t1:Int)))=true,(decide ((b:Int)≤w))=false,false=false,InR .i64 ((b:Int)+1)])
 (hg:G Try.prog E (yH Try.prog) ⟨([.int .i64 t,.int .i64 w,.int .i64 n,.int .i64 need,J,J,J,J,.ptr 0 0 0,J,.ptr 1 0 0,.int .i64 (t1:Int),.int .i64 ((b:Int)+1)]++Js 134),(z37_1 g2 v2 g3 v3)⟩):G Try.prog E (yH Try.prog) (f37S1 t w n need b v2 v3 t1 g2 g3) :=
 Qg (n:=400) (ds:=[]) (cs:=[]) (live:=[0,1,2,3,8,10,11,12]) (m:=4) (evs:=[.b true,.b false,.b false,.stop]) (obs:=_) hE.2.1 (hE.nogh _) Qh (by kernel_rfl) ho hg
theorem p37_1_3 (t:Int) (w:Int) (n:Int) (need:Int) (b:Nat) (v2:List Int) (v3:List Int) (t1:Nat) (g2:Nat) (g3:Nat) {E:Env} {rv:AV} (hE:Qe Try.prog 37 rv E) (ho:AllP [(decide ((b:Int)≤(t1:Int)))=false,InR .i64 ((t1:Int)+1)])
 (hg:G Try.prog E (f37K0 Try.prog) ⟨([.int .i64 t,.int .i64 w,.int .i64 n,.int .i64 need,J,J,J,J,.ptr 0 0 0,J,.ptr 1 0 0,.int .i64 ((t1:Int)+1)]++Js 135),(z37_1 g2 v2 g3 v3)⟩):G Try.prog E (yH Try.prog) (f37S1 t w n need b v2 v3 t1 g2 g3) :=
 Qg (n:=400) (ds:=[]) (cs:=[]) (live:=[0,1,2,3,8,10,11]) (m:=4) (evs:=[.b false,.stop]) (obs:=_) hE.2.1 (hE.nogh _) Qh (by kernel_rfl) ho hg
theorem f37W1 (t:Int) (w:Int) (n:Int) (need:Int) (b:Nat) (v2:List Int) (v3:List Int) (t1:Nat) {E:Env} {rv:(Stl × Int)} (hE:Qe Try.prog 37 (.tup [.agg [.rsl (Qb rv.1.stages) 0 rv.1.stages.length,.rsl (rowI rv.1.worth) 0 rv.1.worth.length,.int .i64 rv.1.price],.int .i64 rv.2]) E)
 (h:(((b:Int)≤(t1:Int)→(((b:Int)≤w→((I6 ((t1:Int) - (b:Int)))∧((I6 (t - w))∧((((t1:Int) - (b:Int))≤(t - w)→((v2.length+1)≤2147483648∧((v3.length+1)≤2147483648∧((I6 ((b:Int)+1))∧f37G1 E t w n need (b+1) (v2++[(t1:Int)]) (v3++[(b:Int)]) t1))))∧(¬ (((t1:Int) - (b:Int))≤(t - w))→((I6 ((b:Int)+1))∧f37G1 E t w n need (b+1) v2 v3 t1))))))∧(¬ ((b:Int)≤w)→((I6 ((b:Int)+1))∧f37G1 E t w n need (b+1) v2 v3 t1))))∧(¬ ((b:Int)≤(t1:Int))→((I6 ((t1:Int)+1))∧f37G0 E t w n need (t1+1) v2 v3)))):f37G1 E t w n need b v2 v3 t1:=by
 intro g2 g3
 rcases bft (decide ((b:Int)≤(t1:Int))) with hc0 | hc0
 · have h:=h.1 (odt hc0)
   rcases bft (decide ((b:Int)≤w)) with hc1 | hc1
   · have h:=h.1 (odt hc1)
     obtain ⟨q2_2,h⟩:=h
     obtain ⟨q3_2,h⟩:=h
     rcases bft (decide (((t1:Int) - (b:Int))≤(t - w))) with hc2 | hc2
     · have h:=h.1 (odt hc2)
       obtain ⟨h1,h⟩:=h
       obtain ⟨h2,h⟩:=h
       obtain ⟨q15_3,h⟩:=h
       refine p37_1_0 t w n need b v2 v3 t1 g2 g3 hE ⟨hc0,hc1,q2_2,q3_2,hc2,rfl,(by have hx:=Xd cI (s:=1) (fun _=>rfl) v2; simp only [rowI] at hx ⊢; rw [hx]; simp),h1,rfl,(by decide),rfl,(by have hx:=Xd cI (s:=1) (fun _=>rfl) v3; simp only [rowI] at hx ⊢; rw [hx]; simp),h2,rfl,(by decide),q15_3,trivial⟩ ?_
       rw [(show rowI v2++[.int .i64 (t1:Int)]=rowI (v2++[(t1:Int)]) from (Xe cI v2 [(t1:Int)]).symm)]; rw [(show (v2.length+1)=(v2++[(t1:Int)]).length from by simp)]; rw [(show rowI v3++[.int .i64 (b:Int)]=rowI (v3++[(b:Int)]) from (Xe cI v3 [(b:Int)]).symm)]; rw [(show (v3.length+1)=(v3++[(b:Int)]).length from by simp)]; exact (h (g2+1) (g3+1))
     · have h:=h.2 (odf hc2)
       obtain ⟨q5_3,h⟩:=h
       exact p37_1_1 t w n need b v2 v3 t1 g2 g3 hE ⟨hc0,hc1,q2_2,q3_2,hc2,q5_3,trivial⟩ (h g2 g3)
   · have h:=h.2 (odf hc1)
     obtain ⟨q3_2,h⟩:=h
     exact p37_1_2 t w n need b v2 v3 t1 g2 g3 hE ⟨hc0,hc1,rfl,q3_2,trivial⟩ (h g2 g3)
 · have h:=h.2 (odf hc0)
   obtain ⟨q1_1,h⟩:=h
   exact p37_1_3 t w n need b v2 v3 t1 g2 g3 hE ⟨hc0,q1_1,trivial⟩ (h g2 g3)
theorem p37_2_0 (t:Int) (w:Int) (n:Int) (need:Int) (v2:List Int) (v3:List Int) (v4:List Stg) (i:Nat) (g2:Nat) (g3:Nat) (g4:Nat) (e:Int) (e1:Int) {E:Env} {rv:AV} (hE:Qe Try.prog 37 rv E) (ho:AllP [g2=g2,(decide ((i:Int)<(v2.length:Int)))=true,0≤(i:Int)∧(i:Int)<(v2.length:Int),g2=g2,g2=g2,((rowI v2).drop (0+(Int.toNat (i:Int))*1)).take 1=[.int .i64 e],0≤(i:Int)∧(i:Int)<(v3.length:Int),g3=g3,g3=g3,((rowI v3).drop (0+(Int.toNat (i:Int))*1)).take 1=[.int .i64 e1],InR .i64 (w - e1),(decide ((w - e1) > 0))=true,InR .i64 (w - e1),InR .i64 (e+1),InR .i64 (e1+1),Qf Try.prog (.clos 88 [] []) [.agg [.rsl (rowI v2) 0 v2.length,.rsl (rowI v3) 0 v3.length],.int .i64 (e+1),.int .i64 (e1+1),.int .i64 n,.int .i64 need] (.int .i64 (toN (⟨v2,v3⟩:Nms) (e+1) (e1+1) n need)),g2=g2,g3=g3,1≤2147483648,0=0,InR .i64 (t - w),InR .i64 (e - e1),InR .i64 ((t - w) - (e - e1)),(decide (((t - w) - (e - e1)) > 0))=true,InR .i64 (t - w),InR .i64 (e - e1),InR .i64 ((t - w) - (e - e1)),InR .i64 (e+1),Qf Try.prog (.clos 88 [] []) [.agg [.rsl (rowI v2) 0 v2.length,.rsl (rowI v3) 0 v3.length],.int .i64 (e+1),.int .i64 e1,.int .i64 n,.int .i64 need] (.int .i64 (toN (⟨v2,v3⟩:Nms) (e+1) e1 n need)),g2=g2,g3=g3,0=0,2=2,2≤2147483648,0=0,1=1,g4=g4,(0+(v4.length*3))=(Qb v4).length,(v4.length+1)≤2147483648,0=0,InR .i64 ((i:Int)+1)])
 (hg:G Try.prog E (WW Try.prog) ⟨([.int .i64 t,.int .i64 w,.int .i64 n,.int .i64 need,J,J,J,J,.ptr 0 0 0,J,.ptr 1 0 0,J,J,.sl 4 (g4+1) 0 (v4.length+1) 3,.int .i64 ((i:Int)+1)]++Js 132),[⟨true,0,1,true,[.nilSl,.nilSl,.int .i64 0],false⟩,⟨true,0,1,false,[.sl 2 g2 0 v2.length 1,.sl 3 g3 0 v3.length 1],false⟩,⟨true,g2,1,true,(rowI v2),true⟩,⟨true,g3,1,true,(rowI v3),true⟩,⟨true,(g4+1),3,true,((Qb v4)++[.int .i64 1,.int .i64 0,.rsl ([.int .i64 (w - e1),.int .i64 (toN (⟨v2,v3⟩:Nms) (e+1) (e1+1) n need),.int .i64 ((t - w) - (e - e1)),.int .i64 (toN (⟨v2,v3⟩:Nms) (e+1) e1 n need)]) 0 2]),true⟩]⟩):G Try.prog E (WW Try.prog) (f37S2 t w n need v2 v3 v4 i g2 g3 g4) :=
 Qg (n:=400) (ds:=[]) (cs:=[]) (live:=[0,1,2,3,8,10,13,14]) (m:=5) (evs:=[.b true,.auto,.ld (.int .i64 e),.auto,.ld (.int .i64 e1),.b true,.v (.int .i64 (toN (⟨v2,v3⟩:Nms) (e+1) (e1+1) n need)),.b true,.v (.int .i64 (toN (⟨v2,v3⟩:Nms) (e+1) e1 n need)),.wt 139,.stop]) (obs:=_) hE.2.1 (hE.nogh _) Qh (by kernel_rfl) ho hg
theorem p37_2_1 (t:Int) (w:Int) (n:Int) (need:Int) (v2:List Int) (v3:List Int) (v4:List Stg) (i:Nat) (g2:Nat) (g3:Nat) (g4:Nat) (e:Int) (e1:Int) {E:Env} {rv:AV} (hE:Qe Try.prog 37 rv E) (ho:AllP [g2=g2,(decide ((i:Int)<(v2.length:Int)))=true,0≤(i:Int)∧(i:Int)<(v2.length:Int),g2=g2,g2=g2,((rowI v2).drop (0+(Int.toNat (i:Int))*1)).take 1=[.int .i64 e],0≤(i:Int)∧(i:Int)<(v3.length:Int),g3=g3,g3=g3,((rowI v3).drop (0+(Int.toNat (i:Int))*1)).take 1=[.int .i64 e1],InR .i64 (w - e1),(decide ((w - e1) > 0))=true,InR .i64 (w - e1),InR .i64 (e+1),InR .i64 (e1+1),Qf Try.prog (.clos 88 [] []) [.agg [.rsl (rowI v2) 0 v2.length,.rsl (rowI v3) 0 v3.length],.int .i64 (e+1),.int .i64 (e1+1),.int .i64 n,.int .i64 need] (.int .i64 (toN (⟨v2,v3⟩:Nms) (e+1) (e1+1) n need)),g2=g2,g3=g3,1≤2147483648,0=0,InR .i64 (t - w),InR .i64 (e - e1),InR .i64 ((t - w) - (e - e1)),(decide (((t - w) - (e - e1)) > 0))=false,0=0,g4=g4,(0+(v4.length*3))=(Qb v4).length,(v4.length+1)≤2147483648,0=0,InR .i64 ((i:Int)+1)])
 (hg:G Try.prog E (WW Try.prog) ⟨([.int .i64 t,.int .i64 w,.int .i64 n,.int .i64 need,J,J,J,J,.ptr 0 0 0,J,.ptr 1 0 0,J,J,.sl 4 (g4+1) 0 (v4.length+1) 3,.int .i64 ((i:Int)+1)]++Js 132),[⟨true,0,1,true,[.nilSl,.nilSl,.int .i64 0],false⟩,⟨true,0,1,false,[.sl 2 g2 0 v2.length 1,.sl 3 g3 0 v3.length 1],false⟩,⟨true,g2,1,true,(rowI v2),true⟩,⟨true,g3,1,true,(rowI v3),true⟩,⟨true,(g4+1),3,true,((Qb v4)++[.int .i64 1,.int .i64 0,.rsl ([.int .i64 (w - e1),.int .i64 (toN (⟨v2,v3⟩:Nms) (e+1) (e1+1) n need)]) 0 1]),true⟩]⟩):G Try.prog E (WW Try.prog) (f37S2 t w n need v2 v3 v4 i g2 g3 g4) :=
 Qg (n:=400) (ds:=[]) (cs:=[]) (live:=[0,1,2,3,8,10,13,14]) (m:=5) (evs:=[.b true,.auto,.ld (.int .i64 e),.auto,.ld (.int .i64 e1),.b true,.v (.int .i64 (toN (⟨v2,v3⟩:Nms) (e+1) (e1+1) n need)),.b false,.wt 139,.stop]) (obs:=_) hE.2.1 (hE.nogh _) Qh (by kernel_rfl) ho hg
theorem p37_2_2 (t:Int) (w:Int) (n:Int) (need:Int) (v2:List Int) (v3:List Int) (v4:List Stg) (i:Nat) (g2:Nat) (g3:Nat) (g4:Nat) (e:Int) (e1:Int) {E:Env} {rv:AV} (hE:Qe Try.prog 37 rv E) (ho:AllP [g2=g2,(decide ((i:Int)<(v2.length:Int)))=true,0≤(i:Int)∧(i:Int)<(v2.length:Int),g2=g2,g2=g2,((rowI v2).drop (0+(Int.toNat (i:Int))*1)).take 1=[.int .i64 e],0≤(i:Int)∧(i:Int)<(v3.length:Int),g3=g3,g3=g3,((rowI v3).drop (0+(Int.toNat (i:Int))*1)).take 1=[.int .i64 e1],InR .i64 (w - e1),(decide ((w - e1) > 0))=false,InR .i64 (t - w),InR .i64 (e - e1),InR .i64 ((t - w) - (e - e1)),(decide (((t - w) - (e - e1)) > 0))=true,InR .i64 (t - w),InR .i64 (e - e1),InR .i64 ((t - w) - (e - e1)),InR .i64 (e+1),Qf Try.prog (.clos 88 [] []) [.agg [.rsl (rowI v2) 0 v2.length,.rsl (rowI v3) 0 v3.length],.int .i64 (e+1),.int .i64 e1,.int .i64 n,.int .i64 need] (.int .i64 (toN (⟨v2,v3⟩:Nms) (e+1) e1 n need)),g2=g2,g3=g3,1≤2147483648,0=0,0=0,g4=g4,(0+(v4.length*3))=(Qb v4).length,(v4.length+1)≤2147483648,0=0,InR .i64 ((i:Int)+1)])
 (hg:G Try.prog E (WW Try.prog) ⟨([.int .i64 t,.int .i64 w,.int .i64 n,.int .i64 need,J,J,J,J,.ptr 0 0 0,J,.ptr 1 0 0,J,J,.sl 4 (g4+1) 0 (v4.length+1) 3,.int .i64 ((i:Int)+1)]++Js 132),[⟨true,0,1,true,[.nilSl,.nilSl,.int .i64 0],false⟩,⟨true,0,1,false,[.sl 2 g2 0 v2.length 1,.sl 3 g3 0 v3.length 1],false⟩,⟨true,g2,1,true,(rowI v2),true⟩,⟨true,g3,1,true,(rowI v3),true⟩,⟨true,(g4+1),3,true,((Qb v4)++[.int .i64 1,.int .i64 0,.rsl ([.int .i64 ((t - w) - (e - e1)),.int .i64 (toN (⟨v2,v3⟩:Nms) (e+1) e1 n need)]) 0 1]),true⟩]⟩):G Try.prog E (WW Try.prog) (f37S2 t w n need v2 v3 v4 i g2 g3 g4) :=
 Qg (n:=400) (ds:=[]) (cs:=[]) (live:=[0,1,2,3,8,10,13,14]) (m:=5) (evs:=[.b true,.auto,.ld (.int .i64 e),.auto,.ld (.int .i64 e1),.b false,.b true,.v (.int .i64 (toN (⟨v2,v3⟩:Nms) (e+1) e1 n need)),.wt 139,.stop]) (obs:=_) hE.2.1 (hE.nogh _) Qh (by kernel_rfl) ho hg
theorem p37_2_3 (t:Int) (w:Int) (n:Int) (need:Int) (v2:List Int) (v3:List Int) (v4:List Stg) (i:Nat) (g2:Nat) (g3:Nat) (g4:Nat) (e:Int) (e1:Int) {E:Env} {rv:AV} (hE:Qe Try.prog 37 rv E) (ho:AllP [g2=g2,(decide ((i:Int)<(v2.length:Int)))=true,0≤(i:Int)∧(i:Int)<(v2.length:Int),g2=g2,g2=g2,((rowI v2).drop (0+(Int.toNat (i:Int))*1)).take 1=[.int .i64 e],0≤(i:Int)∧(i:Int)<(v3.length:Int),g3=g3,g3=g3,((rowI v3).drop (0+(Int.toNat (i:Int))*1)).take 1=[.int .i64 e1],InR .i64 (w - e1),(decide ((w - e1) > 0))=false,InR .i64 (t - w),InR .i64 (e - e1),InR .i64 ((t - w) - (e - e1)),(decide (((t - w) - (e - e1)) > 0))=false,g4=g4,(0+(v4.length*3))=(Qb v4).length,(v4.length+1)≤2147483648,0=0,InR .i64 ((i:Int)+1)])
 (hg:G Try.prog E (WW Try.prog) ⟨([.int .i64 t,.int .i64 w,.int .i64 n,.int .i64 need,J,J,J,J,.ptr 0 0 0,J,.ptr 1 0 0,J,J,.sl 4 (g4+1) 0 (v4.length+1) 3,.int .i64 ((i:Int)+1)]++Js 132),[⟨true,0,1,true,[.nilSl,.nilSl,.int .i64 0],false⟩,⟨true,0,1,false,[.sl 2 g2 0 v2.length 1,.sl 3 g3 0 v3.length 1],false⟩,⟨true,g2,1,true,(rowI v2),true⟩,⟨true,g3,1,true,(rowI v3),true⟩,⟨true,(g4+1),3,true,((Qb v4)++[.int .i64 1,.int .i64 0,.rsl [] 0 0]),true⟩]⟩):G Try.prog E (WW Try.prog) (f37S2 t w n need v2 v3 v4 i g2 g3 g4) :=
 Qg (n:=400) (ds:=[]) (cs:=[]) (live:=[0,1,2,3,8,10,13,14]) (m:=5) (evs:=[.b true,.auto,.ld (.int .i64 e),.auto,.ld (.int .i64 e1),.b false,.b false,.wt 140,.stop]) (obs:=_) hE.2.1 (hE.nogh _) Qh (by kernel_rfl) ho hg
theorem p37_2_4 (t:Int) (w:Int) (n:Int) (need:Int) (v2:List Int) (v3:List Int) (v4:List Stg) (i:Nat) (g2:Nat) (g3:Nat) (g4:Nat) {E:Env} {res:AV} (hE:Qe Try.prog 37 res E) (ho:AllP [g2=g2,(decide ((i:Int)<(v2.length:Int)))=false,Wg Try.prog (.clos 89 [] []) [.sl 0 g4 0 v4.length 3] [⟨true,g4,3,true,(Qb v4),true⟩] (z37_2 v4) [⟨false,((g4+1)+1),3,true,[],false⟩],3≤3])
 (hr:AvLe (z37_2 v4) res):G Try.prog E (WW Try.prog) (f37S2 t w n need v2 v3 v4 i g2 g3 g4) :=
 Qc (n:=400) (evs:=[.b false,.lent [4] (z37_2 v4) [⟨false,((g4+1)+1),3,true,[],false⟩]]) (obs:=_) hE Try.func37 Qh (by kernel_rfl) ho hr
theorem f37W2 (t:Int) (w:Int) (n:Int) (need:Int) (v2:List Int) (v3:List Int) (v4:List Stg) (i:Nat) {E:Env} {rv:(Stl × Int)} (hE:Qe Try.prog 37 (.tup [.agg [.rsl (Qb rv.1.stages) 0 rv.1.stages.length,.rsl (rowI rv.1.worth) 0 rv.1.worth.length,.int .i64 rv.1.price],.int .i64 rv.2]) E)
 (h:(((i:Int)<(v2.length:Int)→(∃ e:Int,v2[i]?=some e∧(∃ e1:Int,v3[i]?=some e1∧((I6 (w - e1))∧(((w - e1) > 0→((I6 (w - e1))∧((I6 (e+1))∧((I6 (e1+1))∧(((⟨v2,v3⟩:Nms).t.length≤(⟨v2,v3⟩:Nms).h.length∧(⟨v2,v3⟩:Nms).t.length≤1000000)∧((I6 (t - w))∧((I6 (e - e1))∧((I6 ((t - w) - (e - e1)))∧((((t - w) - (e - e1)) > 0→((I6 (t - w))∧((I6 (e - e1))∧((I6 ((t - w) - (e - e1)))∧((I6 (e+1))∧(((⟨v2,v3⟩:Nms).t.length≤(⟨v2,v3⟩:Nms).h.length∧(⟨v2,v3⟩:Nms).t.length≤1000000)∧((v4.length+1)≤2147483648∧((I6 ((i:Int)+1))∧f37G2 E t w n need v2 v3 (v4++[(⟨1,0,([(⟨(w - e1),(toN (⟨v2,v3⟩:Nms) (e+1) (e1+1) n need)⟩:Trn),(⟨((t - w) - (e - e1)),(toN (⟨v2,v3⟩:Nms) (e+1) e1 n need)⟩:Trn)]:List Trn)⟩:Stg)]) (i+1)))))))))∧(¬ (((t - w) - (e - e1)) > 0)→((v4.length+1)≤2147483648∧((I6 ((i:Int)+1))∧f37G2 E t w n need v2 v3 (v4++[(⟨1,0,([(⟨(w - e1),(toN (⟨v2,v3⟩:Nms) (e+1) (e1+1) n need)⟩:Trn)]:List Trn)⟩:Stg)]) (i+1)))))))))))))∧(¬ ((w - e1) > 0)→((I6 (t - w))∧((I6 (e - e1))∧((I6 ((t - w) - (e - e1)))∧((((t - w) - (e - e1)) > 0→((I6 (t - w))∧((I6 (e - e1))∧((I6 ((t - w) - (e - e1)))∧((I6 (e+1))∧(((⟨v2,v3⟩:Nms).t.length≤(⟨v2,v3⟩:Nms).h.length∧(⟨v2,v3⟩:Nms).t.length≤1000000)∧((v4.length+1)≤2147483648∧((I6 ((i:Int)+1))∧f37G2 E t w n need v2 v3 (v4++[(⟨1,0,([(⟨((t - w) - (e - e1)),(toN (⟨v2,v3⟩:Nms) (e+1) e1 n need)⟩:Trn)]:List Trn)⟩:Stg)]) (i+1)))))))))∧(¬ (((t - w) - (e - e1)) > 0)→((v4.length+1)≤2147483648∧((I6 ((i:Int)+1))∧f37G2 E t w n need v2 v3 (v4++[(⟨1,0,([]:List Trn)⟩:Stg)]) (i+1))))))))))))))∧(¬ ((i:Int)<(v2.length:Int))→((v4.length≤1000000)∧rv=(((Xg v4).1),(Xg v4).2))))):f37G2 E t w n need v2 v3 v4 i:=by
 intro g2 g3 g4
 rcases bft (decide ((i:Int)<(v2.length:Int))) with hc0 | hc0
 · have h:=h.1 (odt hc0)
   obtain ⟨e,h1,h⟩:=h
   obtain ⟨e1,h2,h⟩:=h
   obtain ⟨q12_1,h⟩:=h
   rcases bft (decide ((w - e1) > 0)) with hc1 | hc1
   · have h:=h.1 (odt hc1)
     obtain ⟨q14_2,h⟩:=h
     obtain ⟨q15_2,h⟩:=h
     obtain ⟨q16_2,h⟩:=h
     obtain ⟨h3,h⟩:=h
     obtain ⟨q22_2,h⟩:=h
     obtain ⟨q23_2,h⟩:=h
     obtain ⟨q24_2,h⟩:=h
     rcases bft (decide (((t - w) - (e - e1)) > 0)) with hc2 | hc2
     · have h:=h.1 (odt hc2)
       obtain ⟨q26_3,h⟩:=h
       obtain ⟨q27_3,h⟩:=h
       obtain ⟨q28_3,h⟩:=h
       obtain ⟨q29_3,h⟩:=h
       obtain ⟨h4,h⟩:=h
       obtain ⟨h5,h⟩:=h
       obtain ⟨q42_3,h⟩:=h
       refine p37_2_0 t w n need v2 v3 v4 i g2 g3 g4 e e1 hE ⟨rfl,hc0,(Qs h1),rfl,rfl,(rp cI 1 0 1 h1),(Qs h2),rfl,rfl,(rp cI 1 0 1 h2),q12_1,hc1,q14_2,q15_2,q16_2,(u88 (qD (⟨v2,v3⟩:Nms) (e+1) (e1+1) n need h3)),rfl,rfl,(by decide),rfl,q22_2,q23_2,q24_2,hc2,q26_3,q27_3,q28_3,q29_3,(u88 (qD (⟨v2,v3⟩:Nms) (e+1) e1 n need h4)),rfl,rfl,rfl,rfl,(by decide),rfl,rfl,rfl,(by have hx:=Xd cStg (s:=3) (fun _=>rfl) v4; simp only [Qb] at hx ⊢; rw [hx]; simp),h5,rfl,q42_3,trivial⟩ ?_
       rw [(show Qb v4++[.int .i64 1,.int .i64 0,.rsl ([.int .i64 (w - e1),.int .i64 (toN (⟨v2,v3⟩:Nms) (e+1) (e1+1) n need),.int .i64 ((t - w) - (e - e1)),.int .i64 (toN (⟨v2,v3⟩:Nms) (e+1) e1 n need)]) 0 2]=Qb (v4++[(⟨1,0,([(⟨(w - e1),(toN (⟨v2,v3⟩:Nms) (e+1) (e1+1) n need)⟩:Trn),(⟨((t - w) - (e - e1)),(toN (⟨v2,v3⟩:Nms) (e+1) e1 n need)⟩:Trn)]:List Trn)⟩:Stg)]) from (by rw [(show AV.rsl ([.int .i64 (w - e1),.int .i64 (toN (⟨v2,v3⟩:Nms) (e+1) (e1+1) n need),.int .i64 ((t - w) - (e - e1)),.int .i64 (toN (⟨v2,v3⟩:Nms) (e+1) e1 n need)]) 0 2=AV.rsl (Ql ([(⟨(w - e1),(toN (⟨v2,v3⟩:Nms) (e+1) (e1+1) n need)⟩:Trn),(⟨((t - w) - (e - e1)),(toN (⟨v2,v3⟩:Nms) (e+1) e1 n need)⟩:Trn)]:List Trn)) 0 ([(⟨(w - e1),(toN (⟨v2,v3⟩:Nms) (e+1) (e1+1) n need)⟩:Trn),(⟨((t - w) - (e - e1)),(toN (⟨v2,v3⟩:Nms) (e+1) e1 n need)⟩:Trn)]:List Trn).length from by rw [show 2=([(⟨(w - e1),(toN (⟨v2,v3⟩:Nms) (e+1) (e1+1) n need)⟩:Trn),(⟨((t - w) - (e - e1)),(toN (⟨v2,v3⟩:Nms) (e+1) e1 n need)⟩:Trn)]:List Trn).length from by simp]; try rfl)]; exact (Xe cStg v4 [(⟨1,0,([(⟨(w - e1),(toN (⟨v2,v3⟩:Nms) (e+1) (e1+1) n need)⟩:Trn),(⟨((t - w) - (e - e1)),(toN (⟨v2,v3⟩:Nms) (e+1) e1 n need)⟩:Trn)]:List Trn)⟩:Stg)]).symm))]; rw [(show (v4.length+1)=(v4++[(⟨1,0,([(⟨(w - e1),(toN (⟨v2,v3⟩:Nms) (e+1) (e1+1) n need)⟩:Trn),(⟨((t - w) - (e - e1)),(toN (⟨v2,v3⟩:Nms) (e+1) e1 n need)⟩:Trn)]:List Trn)⟩:Stg)]).length from by simp)]; exact (h g2 g3 (g4+1))
     · have h:=h.2 (odf hc2)
       obtain ⟨h4,h⟩:=h
       obtain ⟨q31_3,h⟩:=h
       refine p37_2_1 t w n need v2 v3 v4 i g2 g3 g4 e e1 hE ⟨rfl,hc0,(Qs h1),rfl,rfl,(rp cI 1 0 1 h1),(Qs h2),rfl,rfl,(rp cI 1 0 1 h2),q12_1,hc1,q14_2,q15_2,q16_2,(u88 (qD (⟨v2,v3⟩:Nms) (e+1) (e1+1) n need h3)),rfl,rfl,(by decide),rfl,q22_2,q23_2,q24_2,hc2,rfl,rfl,(by have hx:=Xd cStg (s:=3) (fun _=>rfl) v4; simp only [Qb] at hx ⊢; rw [hx]; simp),h4,rfl,q31_3,trivial⟩ ?_
       rw [(show Qb v4++[.int .i64 1,.int .i64 0,.rsl ([.int .i64 (w - e1),.int .i64 (toN (⟨v2,v3⟩:Nms) (e+1) (e1+1) n need)]) 0 1]=Qb (v4++[(⟨1,0,([(⟨(w - e1),(toN (⟨v2,v3⟩:Nms) (e+1) (e1+1) n need)⟩:Trn)]:List Trn)⟩:Stg)]) from (by rw [(show AV.rsl ([.int .i64 (w - e1),.int .i64 (toN (⟨v2,v3⟩:Nms) (e+1) (e1+1) n need)]) 0 1=AV.rsl (Ql ([(⟨(w - e1),(toN (⟨v2,v3⟩:Nms) (e+1) (e1+1) n need)⟩:Trn)]:List Trn)) 0 ([(⟨(w - e1),(toN (⟨v2,v3⟩:Nms) (e+1) (e1+1) n need)⟩:Trn)]:List Trn).length from by rw [show 1=([(⟨(w - e1),(toN (⟨v2,v3⟩:Nms) (e+1) (e1+1) n need)⟩:Trn)]:List Trn).length from by simp]; try rfl)]; exact (Xe cStg v4 [(⟨1,0,([(⟨(w - e1),(toN (⟨v2,v3⟩:Nms) (e+1) (e1+1) n need)⟩:Trn)]:List Trn)⟩:Stg)]).symm))]; rw [(show (v4.length+1)=(v4++[(⟨1,0,([(⟨(w - e1),(toN (⟨v2,v3⟩:Nms) (e+1) (e1+1) n need)⟩:Trn)]:List Trn)⟩:Stg)]).length from by simp)]; exact (h g2 g3 (g4+1))
   · have h:=h.2 (odf hc1)
     obtain ⟨q14_2,h⟩:=h
     obtain ⟨q15_2,h⟩:=h
     obtain ⟨q16_2,h⟩:=h
     rcases bft (decide (((t - w) - (e - e1)) > 0)) with hc2 | hc2
     · have h:=h.1 (odt hc2)
       obtain ⟨q18_3,h⟩:=h
       obtain ⟨q19_3,h⟩:=h
       obtain ⟨q20_3,h⟩:=h
       obtain ⟨q21_3,h⟩:=h
       obtain ⟨h3,h⟩:=h
       obtain ⟨h4,h⟩:=h
       obtain ⟨q32_3,h⟩:=h
       refine p37_2_2 t w n need v2 v3 v4 i g2 g3 g4 e e1 hE ⟨rfl,hc0,(Qs h1),rfl,rfl,(rp cI 1 0 1 h1),(Qs h2),rfl,rfl,(rp cI 1 0 1 h2),q12_1,hc1,q14_2,q15_2,q16_2,hc2,q18_3,q19_3,q20_3,q21_3,(u88 (qD (⟨v2,v3⟩:Nms) (e+1) e1 n need h3)),rfl,rfl,(by decide),rfl,rfl,rfl,(by have hx:=Xd cStg (s:=3) (fun _=>rfl) v4; simp only [Qb] at hx ⊢; rw [hx]; simp),h4,rfl,q32_3,trivial⟩ ?_
       rw [(show Qb v4++[.int .i64 1,.int .i64 0,.rsl ([.int .i64 ((t - w) - (e - e1)),.int .i64 (toN (⟨v2,v3⟩:Nms) (e+1) e1 n need)]) 0 1]=Qb (v4++[(⟨1,0,([(⟨((t - w) - (e - e1)),(toN (⟨v2,v3⟩:Nms) (e+1) e1 n need)⟩:Trn)]:List Trn)⟩:Stg)]) from (by rw [(show AV.rsl ([.int .i64 ((t - w) - (e - e1)),.int .i64 (toN (⟨v2,v3⟩:Nms) (e+1) e1 n need)]) 0 1=AV.rsl (Ql ([(⟨((t - w) - (e - e1)),(toN (⟨v2,v3⟩:Nms) (e+1) e1 n need)⟩:Trn)]:List Trn)) 0 ([(⟨((t - w) - (e - e1)),(toN (⟨v2,v3⟩:Nms) (e+1) e1 n need)⟩:Trn)]:List Trn).length from by rw [show 1=([(⟨((t - w) - (e - e1)),(toN (⟨v2,v3⟩:Nms) (e+1) e1 n need)⟩:Trn)]:List Trn).length from by simp]; try rfl)]; exact (Xe cStg v4 [(⟨1,0,([(⟨((t - w) - (e - e1)),(toN (⟨v2,v3⟩:Nms) (e+1) e1 n need)⟩:Trn)]:List Trn)⟩:Stg)]).symm))]; rw [(show (v4.length+1)=(v4++[(⟨1,0,([(⟨((t - w) - (e - e1)),(toN (⟨v2,v3⟩:Nms) (e+1) e1 n need)⟩:Trn)]:List Trn)⟩:Stg)]).length from by simp)]; exact (h g2 g3 (g4+1))
     · have h:=h.2 (odf hc2)
       obtain ⟨h3,h⟩:=h
       obtain ⟨q22_3,h⟩:=h
       refine p37_2_3 t w n need v2 v3 v4 i g2 g3 g4 e e1 hE ⟨rfl,hc0,(Qs h1),rfl,rfl,(rp cI 1 0 1 h1),(Qs h2),rfl,rfl,(rp cI 1 0 1 h2),q12_1,hc1,q14_2,q15_2,q16_2,hc2,rfl,(by have hx:=Xd cStg (s:=3) (fun _=>rfl) v4; simp only [Qb] at hx ⊢; rw [hx]; simp),h3,rfl,q22_3,trivial⟩ ?_
       rw [(show Qb v4++[.int .i64 1,.int .i64 0,.rsl [] 0 0]=Qb (v4++[(⟨1,0,([]:List Trn)⟩:Stg)]) from (Xe cStg v4 [(⟨1,0,([]:List Trn)⟩:Stg)]).symm)]; rw [(show (v4.length+1)=(v4++[(⟨1,0,([]:List Trn)⟩:Stg)]).length from by simp)]; exact (h g2 g3 (g4+1))
 · have h:=h.2 (odf hc0)
   obtain ⟨h1,h⟩:=h
   exact p37_2_4 t w n need v2 v3 v4 i g2 g3 g4 hE ⟨rfl,hc0,(Wo Try.func89 (by kernel_rfl) f89b (ended_ok v4 g4 h1)),(by decide),trivial⟩ (AvLe.of_eq (by rw [h]; try rfl))
theorem YG (n need p q:Int):Pure Try.prog 35 [.int .i64 n,.int .i64 need,.int .i64 p,.int .i64 q] (.tup [.agg [.rsl (Qb (Qn n need p q).1.stages) 0 (Qn n need p q).1.stages.length,.rsl (rowI (Qn n need p q).1.worth) 0 (Qn n need p q).1.worth.length,.int .i64 (Qn n need p q).1.price],.int .i64 (Qn n need p q).2]):=Qv Try.func35 f35b fun E hE=>by
 have no:¬ (Qa n 1 9=true∧Qa need 0 n=true∧Qa p 1 100=true∧Qa q 1 100=true)→Qn n need p q=errS:=fun h=>by rw [Qn,if_neg h]
 refine f35W n need p q (rv:=Qn n need p q) hE ⟨fun h=>no (by simp [h]),fun h1=>⟨fun h=>no (by simp [h]),fun h2=>⟨fun h=>no (by simp [h]),fun h3=>⟨fun h=>no (by simp [h]),fun h4=>?_⟩⟩⟩⟩
 have q1:=Qr.1 h1
 have q3:=Qr.1 h3
 have q4:=Qr.1 h4
 have hk:Qn n need p q=Qy opT (wgT p q) (Int.toNat n) need:=by rw [Qn,if_pos ⟨h1,h2,h3,h4⟩]
 obtain ⟨m,hm⟩:∃ m:Nat,n=(m:Int):=⟨n.toNat,by omega⟩
 subst hm
 rw [Int.toNat_natCast] at hk
 have hm9:m≤9:=by omega
 have nok:=YP (op:=opT) (t:=m)
 have nlen:=Yb (op:=opT) hm9
 have hlead:Leads opT (wgT p q) m:=leads_T
 have stg:∀ (d i:Nat),i+d=(Qk opT m).length→f35G2 E (m:Int) need p q ((Qk opT m).map Num.t) ((Qk opT m).map Num.h) (((Qk opT m).take i).map (QR (Qk opT m) (wgT p q) m need)) i:=by
  intro d
  induction d with
  | zero =>
   intro i hi
   refine f35W2 (m:Int) need p q _ _ _ i (rv:=Qn (m:Int) need p q) hE ⟨fun h=>by simp at h; omega,fun _=>⟨by simp; omega,?_⟩⟩
   rw [hk,List.take_of_length_le (by omega)]; rfl
  | succ d ih =>
   intro i hi
   have he:(Qk opT m)[i]?=some ((Qk opT m)[i]'(by omega)):=List.getElem?_eq_getElem (by omega)
   obtain ⟨a,b,ha,hb,hba,hop,hlt'⟩:=nok.mem _ (List.mem_of_getElem? he)
   generalize (Qk opT m)[i]'(by omega)=e at he ha hb
   have bt:(-9223372036854775808≤e.t+1∧e.t+1≤9223372036854775807):=by omega
   have bh:(-9223372036854775808≤e.h+1∧e.h+1≤9223372036854775807):=by omega
   have bi:(-9223372036854775808≤(i:Int)+1∧(i:Int)+1≤9223372036854775807):=by omega
   have:=bt
   have e1:((Qk opT m).map Num.t)[i]?=some e.t:=by rw [List.getElem?_map,he]; rfl
   have e2:((Qk opT m).map Num.h)[i]?=some e.h:=by rw [List.getElem?_map,he]; rfl
   have lead1:((wgT p q) e.t e.h).1 > 0→(e.t+1<(m:Int)→∃ x ∈ Qk opT m,x.t=e.t+1∧x.h=e.h+1):=fun hw ht=>by
    rw [ha,hb] at hw
    obtain ⟨x,hx,h1,h2⟩:=nok.all (a+1) (b+1) (by omega) ((hlead a b hba hop (by omega)).1 hw) (by omega)
    exact ⟨x,hx,by omega,by omega⟩
   have lead2:((wgT p q) e.t e.h).2 > 0→(e.t+1<(m:Int)→∃ x ∈ Qk opT m,x.t=e.t+1∧x.h=e.h):=fun hw ht=>by
    rw [ha,hb] at hw
    obtain ⟨x,hx,h1,h2⟩:=nok.all (a+1) b (by omega) ((hlead a b hba hop (by omega)).2 hw) (by omega)
    exact ⟨x,hx,by omega,by omega⟩
   have nx:∀ y:Stg,y=QR (Qk opT m) (wgT p q) m need e→f35G2 E (m:Int) need p q ((Qk opT m).map Num.t) ((Qk opT m).map Num.h) (((Qk opT m).take i).map (QR (Qk opT m) (wgT p q) m need)++[y]) (i+1):=fun y hy=>by
    have:=ih (i+1) (by omega)
    rw [List.take_add_one,he,Option.toList_some,List.map_append,List.map_singleton,← hy] at this
    exact this
   have l1:((Qk opT m).map Num.t).length≤((Qk opT m).map Num.h).length∧((Qk opT m).map Num.t).length≤1000000:=⟨by simp,by simp; omega⟩
   have l2:((((Qk opT m).take i).map (QR (Qk opT m) (wgT p q) m need)).length+1)≤2147483648:=by simp; omega
   refine f35W2 (m:Int) need p q _ _ _ i (rv:=Qn (m:Int) need p q) hE ⟨fun _=>⟨e.t,e1,e.h,e2,bt,bh,l1,bt,l1,l2,bi,nx _ ?_⟩,fun h=>by simp at h; omega⟩
   have w1:(wgT p q e.t e.h).1 > 0:=by show p > 0; omega
   have w2:(wgT p q e.t e.h).2 > 0:=by show q > 0; omega
   rw [toN_I nok (lead1 w1),toN_I nok (lead2 w2)]
   simp only [QR,if_pos w1,if_pos w2]; rfl
 have outer:∀ (d t':Nat),t'+d=m→f35G0 E (m:Int) need p q t' ((Qk opT t').map Num.t) ((Qk opT t').map Num.h):=by
  intro d
  induction d with
  | zero =>
   intro t' hd
   have:t'=m:=by omega
   subst this
   exact f35W0 (t':Int) need p q t' _ _ (rv:=Qn (t':Int) need p q) hE ⟨fun h=>by omega,fun _=>stg (Qk opT t').length 0 (by omega)⟩
  | succ d ih =>
   intro t' hd
   have bl:∀ k,k≤t'+1→(rowN opT t' k (Qk opT t')).length≤1000:=fun k hk=>by
    have h1:=Wl (op:=opT) (t:=t') (l:=Qk opT t') (k:=k)
    have h2:=Yb (op:=opT) (t:=t') (by omega)
    omega
   refine f35W0 (m:Int) need p q t' _ _ (rv:=Qn (m:Int) need p q) hE ⟨fun _=>?_,fun h=>by omega⟩
   have row:∀ (d k:Nat),k+d=t'+1→f35G1 E (m:Int) need p q k ((rowN opT t' k (Qk opT t')).map Num.t) ((rowN opT t' k (Qk opT t')).map Num.h) t':=by
    intro d
    induction d with
    | zero =>
     intro k hd
     have:k=t'+1:=by omega
     subst this
     exact f35W1 (m:Int) need p q _ _ _ t' (rv:=Qn (m:Int) need p q) hE ⟨fun h=>by omega,fun _=>⟨by omega,ih (t'+1) (by omega)⟩⟩
    | succ d ih2 =>
     intro k hd
     have nx:=ih2 (k+1) (by omega)
     have b1:=bl k (by omega)
     simp only [rowN] at nx
     have ly:opT (t':Int) (k:Int)=true→f35G1 E (m:Int) need p q (k+1) ((rowN opT t' k (Qk opT t')).map Num.t++[(t':Int)]) ((rowN opT t' k (Qk opT t')).map Num.h++[(k:Int)]) t':=fun ho=>by
      rw [if_pos ho,List.map_append,List.map_append] at nx; exact nx
     have ln:¬ opT (t':Int) (k:Int)=true→f35G1 E (m:Int) need p q (k+1) ((rowN opT t' k (Qk opT t')).map Num.t) ((rowN opT t' k (Qk opT t')).map Num.h) t':=fun ho=>by
      rw [if_neg ho] at nx; exact nx
     exact f35W1 (m:Int) need p q k _ _ t' (rv:=Qn (m:Int) need p q) hE ⟨fun _=>⟨by simp; omega,by simp; omega,by omega,ly rfl⟩,fun h=>by omega⟩
   exact row (t'+1) 0 (by omega)
 exact outer m 0 (by omega)
theorem bagR_ok (t w n need:Int):Pure Try.prog 37 [.int .i64 t,.int .i64 w,.int .i64 n,.int .i64 need] (.tup [.agg [.rsl (Qb (bagK t w n need).1.stages) 0 (bagK t w n need).1.stages.length,.rsl (rowI (bagK t w n need).1.worth) 0 (bagK t w n need).1.worth.length,.int .i64 (bagK t w n need).1.price],.int .i64 (bagK t w n need).2]):=Qv Try.func37 f37b fun E hE=>by
 have no:¬ (Qa t 1 100=true∧Qa w 0 t=true∧Qa n 1 (iMin 9 t)=true∧Qa need 0 n=true)→bagK t w n need=errS:=fun h=>by rw [bagK,if_neg h]
 refine f37W t w n need (rv:=bagK t w n need) hE ⟨fun h=>no (by simp [h]),fun h1=>⟨fun h=>no (by simp [h]),fun h2=>⟨fun h=>no (by simp [h]),fun h3=>⟨fun h=>no (by simp [h]),fun h4=>?_⟩⟩⟩⟩
 have q1:=Qr.1 h1
 have q2:=Qr.1 h2
 have q3:=Qr.1 h3
 have q4:iMin 9 t≤9:=by unfold iMin; split <;> omega
 have hk:bagK t w n need=Qy (opB w (t - w)) (wgB w (t - w)) (Int.toNat n) need:=by rw [bagK,if_pos ⟨h1,h2,h3,h4⟩]
 obtain ⟨m,hm⟩:∃ m:Nat,n=(m:Int):=⟨n.toNat,by omega⟩
 subst hm
 rw [Int.toNat_natCast] at hk
 have hm9:m≤9:=by omega
 have nok:=YP (op:=(opB w (t - w))) (t:=m)
 have nlen:=Yb (op:=(opB w (t - w))) hm9
 have hlead:Leads (opB w (t - w)) (wgB w (t - w)) m:=leads_B
 have stg:∀ (d i:Nat),i+d=(Qk (opB w (t - w)) m).length→f37G2 E t w (m:Int) need ((Qk (opB w (t - w)) m).map Num.t) ((Qk (opB w (t - w)) m).map Num.h) (((Qk (opB w (t - w)) m).take i).map (QR (Qk (opB w (t - w)) m) (wgB w (t - w)) m need)) i:=by
  intro d
  induction d with
  | zero =>
   intro i hi
   refine f37W2 t w (m:Int) need _ _ _ i (rv:=bagK t w (m:Int) need) hE ⟨fun h=>by simp at h; omega,fun _=>⟨by simp; omega,?_⟩⟩
   rw [hk,List.take_of_length_le (by omega)]; rfl
  | succ d ih =>
   intro i hi
   have he:(Qk (opB w (t - w)) m)[i]?=some ((Qk (opB w (t - w)) m)[i]'(by omega)):=List.getElem?_eq_getElem (by omega)
   obtain ⟨a,b,ha,hb,hba,hop,hlt'⟩:=nok.mem _ (List.mem_of_getElem? he)
   generalize (Qk (opB w (t - w)) m)[i]'(by omega)=e at he ha hb
   have bt:(-9223372036854775808≤e.t+1∧e.t+1≤9223372036854775807):=by omega
   have bh:(-9223372036854775808≤e.h+1∧e.h+1≤9223372036854775807):=by omega
   have bi:(-9223372036854775808≤(i:Int)+1∧(i:Int)+1≤9223372036854775807):=by omega
   have c0:(-9223372036854775808≤w - e.h∧w - e.h≤9223372036854775807):=by omega
   have b3:(-9223372036854775808≤t - w∧t - w≤9223372036854775807):=by omega
   have b4:(-9223372036854775808≤e.t - e.h∧e.t - e.h≤9223372036854775807):=by omega
   have b5:(-9223372036854775808≤(t - w) - (e.t - e.h)∧(t - w) - (e.t - e.h)≤9223372036854775807):=by omega
   have e1:((Qk (opB w (t - w)) m).map Num.t)[i]?=some e.t:=by rw [List.getElem?_map,he]; rfl
   have e2:((Qk (opB w (t - w)) m).map Num.h)[i]?=some e.h:=by rw [List.getElem?_map,he]; rfl
   have lead1:((wgB w (t - w)) e.t e.h).1 > 0→(e.t+1<(m:Int)→∃ x ∈ Qk (opB w (t - w)) m,x.t=e.t+1∧x.h=e.h+1):=fun hw ht=>by
    rw [ha,hb] at hw
    obtain ⟨x,hx,h1,h2⟩:=nok.all (a+1) (b+1) (by omega) ((hlead a b hba hop (by omega)).1 hw) (by omega)
    exact ⟨x,hx,by omega,by omega⟩
   have lead2:((wgB w (t - w)) e.t e.h).2 > 0→(e.t+1<(m:Int)→∃ x ∈ Qk (opB w (t - w)) m,x.t=e.t+1∧x.h=e.h):=fun hw ht=>by
    rw [ha,hb] at hw
    obtain ⟨x,hx,h1,h2⟩:=nok.all (a+1) b (by omega) ((hlead a b hba hop (by omega)).2 hw) (by omega)
    exact ⟨x,hx,by omega,by omega⟩
   have nx:∀ y:Stg,y=QR (Qk (opB w (t - w)) m) (wgB w (t - w)) m need e→f37G2 E t w (m:Int) need ((Qk (opB w (t - w)) m).map Num.t) ((Qk (opB w (t - w)) m).map Num.h) (((Qk (opB w (t - w)) m).take i).map (QR (Qk (opB w (t - w)) m) (wgB w (t - w)) m need)++[y]) (i+1):=fun y hy=>by
    have:=ih (i+1) (by omega)
    rw [List.take_add_one,he,Option.toList_some,List.map_append,List.map_singleton,← hy] at this
    exact this
   have l1:((Qk (opB w (t - w)) m).map Num.t).length≤((Qk (opB w (t - w)) m).map Num.h).length∧((Qk (opB w (t - w)) m).map Num.t).length≤1000000:=⟨by simp,by simp; omega⟩
   have l2:((((Qk (opB w (t - w)) m).take i).map (QR (Qk (opB w (t - w)) m) (wgB w (t - w)) m need)).length+1)≤2147483648:=by simp; omega
   refine f37W2 t w (m:Int) need _ _ _ i (rv:=bagK t w (m:Int) need) hE ⟨fun _=>⟨e.t,e1,e.h,e2,c0,fun c1=>⟨c0,bt,bh,l1,b3,b4,b5,fun c2=>⟨b3,b4,b5,bt,l1,l2,bi,nx _ ?_⟩,fun c2=>⟨l2,bi,nx _ ?_⟩⟩,fun c1=>⟨b3,b4,b5,fun c2=>⟨b3,b4,b5,bt,l1,l2,bi,nx _ ?_⟩,fun c2=>⟨l2,bi,nx _ ?_⟩⟩⟩,fun h=>by simp at h; omega⟩
   · rw [toN_I nok (lead1 c1),toN_I nok (lead2 c2)]
     simp only [QR]; rw [if_pos (show (wgB w (t - w) e.t e.h).1 > 0 from c1),if_pos (show (wgB w (t - w) e.t e.h).2 > 0 from c2)]; rfl
   · rw [toN_I nok (lead1 c1)]
     simp only [QR]; rw [if_pos (show (wgB w (t - w) e.t e.h).1 > 0 from c1),if_neg (show ¬ (wgB w (t - w) e.t e.h).2 > 0 from c2)]; rfl
   · rw [toN_I nok (lead2 c2)]
     simp only [QR]; rw [if_neg (show ¬ (wgB w (t - w) e.t e.h).1 > 0 from c1),if_pos (show (wgB w (t - w) e.t e.h).2 > 0 from c2)]; rfl
   · simp only [QR]; rw [if_neg (show ¬ (wgB w (t - w) e.t e.h).1 > 0 from c1),if_neg (show ¬ (wgB w (t - w) e.t e.h).2 > 0 from c2)]; rfl
 have outer:∀ (d t':Nat),t'+d=m→f37G0 E t w (m:Int) need t' ((Qk (opB w (t - w)) t').map Num.t) ((Qk (opB w (t - w)) t').map Num.h):=by
  intro d
  induction d with
  | zero =>
   intro t' hd
   have:t'=m:=by omega
   subst this
   exact f37W0 t w (t':Int) need t' _ _ (rv:=bagK t w (t':Int) need) hE ⟨fun h=>by omega,fun _=>stg (Qk (opB w (t - w)) t').length 0 (by omega)⟩
  | succ d ih =>
   intro t' hd
   have bl:∀ k,k≤t'+1→(rowN (opB w (t - w)) t' k (Qk (opB w (t - w)) t')).length≤1000:=fun k hk=>by
    have h1:=Wl (op:=(opB w (t - w))) (t:=t') (l:=Qk (opB w (t - w)) t') (k:=k)
    have h2:=Yb (op:=(opB w (t - w))) (t:=t') (by omega)
    omega
   refine f37W0 t w (m:Int) need t' _ _ (rv:=bagK t w (m:Int) need) hE ⟨fun _=>?_,fun h=>by omega⟩
   have row:∀ (d k:Nat),k+d=t'+1→f37G1 E t w (m:Int) need k ((rowN (opB w (t - w)) t' k (Qk (opB w (t - w)) t')).map Num.t) ((rowN (opB w (t - w)) t' k (Qk (opB w (t - w)) t')).map Num.h) t':=by
    intro d
    induction d with
    | zero =>
     intro k hd
     have:k=t'+1:=by omega
     subst this
     exact f37W1 t w (m:Int) need _ _ _ t' (rv:=bagK t w (m:Int) need) hE ⟨fun h=>by omega,fun _=>⟨by omega,ih (t'+1) (by omega)⟩⟩
    | succ d ih2 =>
     intro k hd
     have nx:=ih2 (k+1) (by omega)
     have b1:=bl k (by omega)
     simp only [rowN] at nx
     have ly:(opB w (t - w)) (t':Int) (k:Int)=true→f37G1 E t w (m:Int) need (k+1) ((rowN (opB w (t - w)) t' k (Qk (opB w (t - w)) t')).map Num.t++[(t':Int)]) ((rowN (opB w (t - w)) t' k (Qk (opB w (t - w)) t')).map Num.h++[(k:Int)]) t':=fun ho=>by
      rw [if_pos ho,List.map_append,List.map_append] at nx; exact nx
     have ln:¬ (opB w (t - w)) (t':Int) (k:Int)=true→f37G1 E t w (m:Int) need (k+1) ((rowN (opB w (t - w)) t' k (Qk (opB w (t - w)) t')).map Num.t) ((rowN (opB w (t - w)) t' k (Qk (opB w (t - w)) t')).map Num.h) t':=fun ho=>by
      rw [if_neg ho] at nx; exact nx
     exact f37W1 t w (m:Int) need k _ _ t' (rv:=bagK t w (m:Int) need) hE ⟨fun _=>by
      have ob:opB w (t - w) (t':Int) (k:Int)=true ↔ (k:Int)≤w∧(t':Int) - k≤t - w:=by simp [opB]
      exact ⟨fun c1=>⟨by omega,by omega,fun c2=>⟨by simp; omega,by simp; omega,by omega,ly (ob.2 ⟨c1,c2⟩)⟩,fun c2=>⟨by omega,ln (fun h=>c2 (ob.1 h).2)⟩⟩,fun c1=>⟨by omega,ln (fun h=>c1 (ob.1 h).1)⟩⟩,fun h=>by omega⟩
   exact row (t'+1) 0 (by omega)
 exact outer m 0 (by omega)
end Go.Proofs.Ytfgmlaeikcfpbaa