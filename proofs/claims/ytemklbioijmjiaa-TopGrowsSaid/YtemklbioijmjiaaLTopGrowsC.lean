/- A part of the proof: several texts, one behind the other. -/
import Derived.Test.YtemklbioijmjiaaLTopGrowsB
import Derived.Defers
import Derived.Test.YtemklbioijmjiaaChecked
import Derived.Laws.Bits64b
set_option linter.unusedVariables false
set_option linter.unusedSimpArgs false
set_option maxRecDepth 100000
namespace Go.Proofs.Ytemklbioijmjiaa
open Go Ax
open Go.Proofs
theorem f51b:Try.f51.body=some (Qc Try.prog 51):=by kernel_rfl
def WI (P:Program):List Item:=kAt 400 [.code (Qc P 51)] [.b false,.stop]
def qG (r:Rg) (i:Nat) (ph:Nat):St:=⟨([J,.ptr 0 0 0,J,J,.ptr 1 0 0]++jj 19 ([.rsl (rowS r.seats) 0 r.seats.length,.int .i64 (r.seats.length:Int),.int .i64 (i:Int)]++Js 82)),[⟨true,0,1,true,[.rsl (rowS r.seats) 0 r.seats.length,.rsl (rowP r.feet) 0 r.feet.length,.int .i64 r.frame,.int .i64 r.c.x,.int .i64 r.c.y,.int .i64 r.c.z,.int .i64 r.empty,.int .i64 r.full],false⟩,⟨true,0,1,true,[.rsl (rowS r.seats) 0 r.seats.length,.rsl (rowP r.feet) 0 r.feet.length,.int .i64 r.frame,.int .i64 r.c.x,.int .i64 r.c.y,.int .i64 r.c.z,.int .i64 r.empty,.int .i64 r.full,.nilSl,.int .i64 (ph:Int)],false⟩]⟩
def f51G0 (E:Env) (r:Rg) (i:Nat) (ph:Nat):Prop:=G Try.prog E (WI Try.prog) (qG r i ph )
def f51K1 (P:Program):List Item:=kAt 400 [.code (Qc P 51)] [.b false,.b false,.b false,.b false,.stop]
def f51S1 (r:Rg) (ph:Nat) (k:Nat) (ls:List (Pt × Pt)) (g2:Nat):St:=⟨([J,.ptr 0 0 0,J,J,.ptr 1 0 0]++jj 72 ([.rsl (rowP r.feet) 0 r.feet.length,.int .i64 (r.feet.length:Int),.int .i64 (k:Int)]++Js 29)),[⟨true,0,1,true,[.rsl (rowS r.seats) 0 r.seats.length,.rsl (rowP r.feet) 0 r.feet.length,.int .i64 r.frame,.int .i64 r.c.x,.int .i64 r.c.y,.int .i64 r.c.z,.int .i64 r.empty,.int .i64 r.full],false⟩,⟨true,0,1,false,[.rsl (rowS r.seats) 0 r.seats.length,.rsl (rowP r.feet) 0 r.feet.length,.int .i64 r.frame,.int .i64 r.c.x,.int .i64 r.c.y,.int .i64 r.c.z,.int .i64 r.empty,.int .i64 r.full,.sl 2 g2 0 ls.length 6,.int .i64 (ph:Int)],false⟩,⟨true,g2,6,true,(QT ls),true⟩]⟩
def f51G1 (E:Env) (r:Rg) (ph:Nat) (k:Nat) (ls:List (Pt × Pt)):Prop:=∀ g2:Nat,G Try.prog E (f51K1 Try.prog) (f51S1 r ph k ls g2)
theorem p51_start_0 (r:Rg) {E:Env} {res:AV} (hE:Qd Try.prog 51 res E) (ho:AllP [(decide ((r.seats.length:Int) > 20))=true,true=true])
 (hr:AvLe (.tup [.nilPtr,.bool false]) res):G Try.prog E [.code (Qc Try.prog 51)] ⟨[.agg [.rsl (rowS r.seats) 0 r.seats.length,.rsl (rowP r.feet) 0 r.feet.length,.int .i64 r.frame,.int .i64 r.c.x,.int .i64 r.c.y,.int .i64 r.c.z,.int .i64 r.empty,.int .i64 r.full]]++unds (Try.f51.ntmps - 1),[]⟩ :=
 Qb (n:=400) (evs:=[.b true,.b true]) (obs:=_) hE Try.func51 Qi (by kernel_rfl) ho hr
theorem p51_start_1 (r:Rg) {E:Env} {res:AV} (hE:Qd Try.prog 51 res E) (ho:AllP [(decide ((r.seats.length:Int) > 20))=false,Qe Try.prog (.clos 120 [] []) [.int .i64 (r.feet.length:Int),.int .i64 3,.int .i64 8] (.bool (Qp (r.feet.length:Int) 3 8)),(!(Qp (r.feet.length:Int) 3 8))=true])
 (hr:AvLe (.tup [.nilPtr,.bool false]) res):G Try.prog E [.code (Qc Try.prog 51)] ⟨[.agg [.rsl (rowS r.seats) 0 r.seats.length,.rsl (rowP r.feet) 0 r.feet.length,.int .i64 r.frame,.int .i64 r.c.x,.int .i64 r.c.y,.int .i64 r.c.z,.int .i64 r.empty,.int .i64 r.full]]++unds (Try.f51.ntmps - 1),[]⟩ :=
 Qb (n:=400) (evs:=[.b false,.v (.bool (Qp (r.feet.length:Int) 3 8)),.b true]) (obs:=_) hE Try.func51 Qi (by kernel_rfl) ho hr
theorem p51_start_2 (r:Rg) {E:Env} {rv:AV} (hE:Qd Try.prog 51 rv E) (ho:AllP [(decide ((r.seats.length:Int) > 20))=false,Qe Try.prog (.clos 120 [] []) [.int .i64 (r.feet.length:Int),.int .i64 3,.int .i64 8] (.bool (Qp (r.feet.length:Int) 3 8)),(!(Qp (r.feet.length:Int) 3 8))=false])
 (hg:G Try.prog E (WI Try.prog) ⟨([J,.ptr 0 0 0,J,J,.ptr 1 0 0]++jj 19 ([.rsl (rowS r.seats) 0 r.seats.length,.int .i64 (r.seats.length:Int),.int .i64 0]++Js 82)),[⟨true,0,1,true,[.rsl (rowS r.seats) 0 r.seats.length,.rsl (rowP r.feet) 0 r.feet.length,.int .i64 r.frame,.int .i64 r.c.x,.int .i64 r.c.y,.int .i64 r.c.z,.int .i64 r.empty,.int .i64 r.full],false⟩,⟨true,0,1,true,[.rsl (rowS r.seats) 0 r.seats.length,.rsl (rowP r.feet) 0 r.feet.length,.int .i64 r.frame,.int .i64 r.c.x,.int .i64 r.c.y,.int .i64 r.c.z,.int .i64 r.empty,.int .i64 r.full,.nilSl,.int .i64 1],false⟩]⟩):G Try.prog E [.code (Qc Try.prog 51)] ⟨[.agg [.rsl (rowS r.seats) 0 r.seats.length,.rsl (rowP r.feet) 0 r.feet.length,.int .i64 r.frame,.int .i64 r.c.x,.int .i64 r.c.y,.int .i64 r.c.z,.int .i64 r.empty,.int .i64 r.full]]++unds (Try.f51.ntmps - 1),[]⟩ :=
 Ql (n:=400) (ds:=[]) (cs:=[]) (live:=[1,4,24,25,26]) (m:=2) (evs:=[.b false,.v (.bool (Qp (r.feet.length:Int) 3 8)),.b false,.stop]) (obs:=_) hE.2.1 (hE.nogh _) Qi (by kernel_rfl) ho hg
theorem f51W (r:Rg) {E:Env} {rv:AV} (hE:Qd Try.prog 51 rv E)
 (h:(((r.seats.length:Int) > 20→rv=(.tup [.nilPtr,.bool false]))∧(¬ ((r.seats.length:Int) > 20)→(((Qp (r.feet.length:Int) 3 8)=false→rv=(.tup [.nilPtr,.bool false]))∧((Qp (r.feet.length:Int) 3 8)=true→f51G0 E r 0 1))))):G Try.prog E [.code (Qc Try.prog 51)] ⟨[.agg [.rsl (rowS r.seats) 0 r.seats.length,.rsl (rowP r.feet) 0 r.feet.length,.int .i64 r.frame,.int .i64 r.c.x,.int .i64 r.c.y,.int .i64 r.c.z,.int .i64 r.empty,.int .i64 r.full]]++unds (Try.f51.ntmps - 1),[]⟩:=by
 rcases bft (decide ((r.seats.length:Int) > 20)) with hc0 | hc0
 · have h:=h.1 (odt hc0)
   exact p51_start_0 r hE ⟨hc0,rfl,trivial⟩ (AvLe.of_eq (by rw [h]; try rfl))
 · have h:=h.2 (odf hc0)
   rcases bft (!(Qp (r.feet.length:Int) 3 8)) with hc1 | hc1
   · have h:=h.1 (bnT hc1)
     exact p51_start_1 r hE ⟨hc0,(u120 (QK (r.feet.length:Int) 3 8)),hc1,trivial⟩ (AvLe.of_eq (by rw [h]; try rfl))
   · have h:=h.2 (bnF hc1)
     exact p51_start_2 r hE ⟨hc0,(u120 (QK (r.feet.length:Int) 3 8)),hc1,trivial⟩ h
theorem p51_0_0 (r:Rg) (i:Nat) (ph:Nat) (le:(List Pt)) {E:Env} {res:AV} (hE:Qd Try.prog 51 res E) (ho:AllP [(decide ((i:Int)<(r.seats.length:Int)))=true,0≤(i:Int)∧(i:Int)<(r.seats.length:Int),((rowS r.seats).drop (0+(Int.toNat (i:Int))*1)).take 1=[.rsl (rowP le) 0 le.length],Qe Try.prog (.clos 121 [] []) [.rsl (rowP le) 0 le.length] (.bool (Xr le)),(!(Xr le))=true,true=true])
 (hr:AvLe (.tup [.nilPtr,.bool false]) res):G Try.prog E (WI Try.prog) (qG r i ph ) :=
 Qb (n:=400) (evs:=[.b true,.ld (.rsl (rowP le) 0 le.length),.v (.bool (Xr le)),.b true,.b true]) (obs:=_) hE Try.func51 Qi (by kernel_rfl) ho hr
theorem p51_0_1 (r:Rg) (i:Nat) (ph:Nat) (le:(List Pt)) (le1:(List Pt)) {E:Env} {res:AV} (hE:Qd Try.prog 51 res E) (ho:AllP [(decide ((i:Int)<(r.seats.length:Int)))=true,0≤(i:Int)∧(i:Int)<(r.seats.length:Int),((rowS r.seats).drop (0+(Int.toNat (i:Int))*1)).take 1=[.rsl (rowP le) 0 le.length],Qe Try.prog (.clos 121 [] []) [.rsl (rowP le) 0 le.length] (.bool (Xr le)),(!(Xr le))=false,(0:Int)≤0∧(0:Int)<(r.seats.length:Int),((rowS r.seats).drop (0+0*1)).take 1=[.rsl (rowP le1) 0 le1.length],((le.length:Int) != (le1.length:Int))=true])
 (hr:AvLe (.tup [.nilPtr,.bool false]) res):G Try.prog E (WI Try.prog) (qG r i ph ) :=
 Qb (n:=400) (evs:=[.b true,.ld (.rsl (rowP le) 0 le.length),.v (.bool (Xr le)),.b false,.auto,.ld (.rsl (rowP le1) 0 le1.length),.b true]) (obs:=_) hE Try.func51 Qi (by kernel_rfl) ho hr
theorem p51_0_2 (r:Rg) (i:Nat) (ph:Nat) (le:(List Pt)) (le1:(List Pt)) {E:Env} {rv:AV} (hE:Qd Try.prog 51 rv E) (ho:AllP [(decide ((i:Int)<(r.seats.length:Int)))=true,0≤(i:Int)∧(i:Int)<(r.seats.length:Int),((rowS r.seats).drop (0+(Int.toNat (i:Int))*1)).take 1=[.rsl (rowP le) 0 le.length],Qe Try.prog (.clos 121 [] []) [.rsl (rowP le) 0 le.length] (.bool (Xr le)),(!(Xr le))=false,(0:Int)≤0∧(0:Int)<(r.seats.length:Int),((rowS r.seats).drop (0+0*1)).take 1=[.rsl (rowP le1) 0 le1.length],((le.length:Int) != (le1.length:Int))=false,10≤10,InR .i64 ((i:Int)+1)])
 (hg:G Try.prog E (WI Try.prog) ⟨([J,.ptr 0 0 0,J,J,.ptr 1 0 0]++jj 19 ([.rsl (rowS r.seats) 0 r.seats.length,.int .i64 (r.seats.length:Int),.int .i64 ((i:Int)+1)]++Js 82)),[⟨true,0,1,true,[.rsl (rowS r.seats) 0 r.seats.length,.rsl (rowP r.feet) 0 r.feet.length,.int .i64 r.frame,.int .i64 r.c.x,.int .i64 r.c.y,.int .i64 r.c.z,.int .i64 r.empty,.int .i64 r.full],false⟩,⟨true,0,1,true,[.rsl (rowS r.seats) 0 r.seats.length,.rsl (rowP r.feet) 0 r.feet.length,.int .i64 r.frame,.int .i64 r.c.x,.int .i64 r.c.y,.int .i64 r.c.z,.int .i64 r.empty,.int .i64 r.full,.nilSl,.int .i64 (le.length:Int)],false⟩]⟩):G Try.prog E (WI Try.prog) (qG r i ph ) :=
 Ql (n:=400) (ds:=[]) (cs:=[]) (live:=[1,4,24,25,26]) (m:=2) (evs:=[.b true,.ld (.rsl (rowP le) 0 le.length),.v (.bool (Xr le)),.b false,.auto,.ld (.rsl (rowP le1) 0 le1.length),.b false,.stop]) (obs:=_) hE.2.1 (hE.nogh _) Qi (by kernel_rfl) ho hg
theorem p51_0_3 (r:Rg) (i:Nat) (ph:Nat) {E:Env} {res:AV} (hE:Qd Try.prog 51 res E) (ho:AllP [(decide ((i:Int)<(r.seats.length:Int)))=false,Qe Try.prog (.clos 120 [] []) [.int .i64 r.frame,.int .i64 0,.int .i64 1000000] (.bool (Qp r.frame 0 1000000)),(!(Qp r.frame 0 1000000))=true,true=true,true=true,true=true])
 (hr:AvLe (.tup [.nilPtr,.bool false]) res):G Try.prog E (WI Try.prog) (qG r i ph ) :=
 Qb (n:=400) (evs:=[.b false,.v (.bool (Qp r.frame 0 1000000)),.b true,.b true,.b true,.b true]) (obs:=_) hE Try.func51 Qi (by kernel_rfl) ho hr
theorem p51_0_4 (r:Rg) (i:Nat) (ph:Nat) {E:Env} {res:AV} (hE:Qd Try.prog 51 res E) (ho:AllP [(decide ((i:Int)<(r.seats.length:Int)))=false,Qe Try.prog (.clos 120 [] []) [.int .i64 r.frame,.int .i64 0,.int .i64 1000000] (.bool (Qp r.frame 0 1000000)),(!(Qp r.frame 0 1000000))=false,Qe Try.prog (.clos 120 [] []) [.int .i64 r.full,.int .i64 0,.int .i64 1000000] (.bool (Qp r.full 0 1000000)),(!(Qp r.full 0 1000000))=true,true=true,true=true])
 (hr:AvLe (.tup [.nilPtr,.bool false]) res):G Try.prog E (WI Try.prog) (qG r i ph ) :=
 Qb (n:=400) (evs:=[.b false,.v (.bool (Qp r.frame 0 1000000)),.b false,.v (.bool (Qp r.full 0 1000000)),.b true,.b true,.b true]) (obs:=_) hE Try.func51 Qi (by kernel_rfl) ho hr
theorem p51_0_5 (r:Rg) (i:Nat) (ph:Nat) {E:Env} {res:AV} (hE:Qd Try.prog 51 res E) (ho:AllP [(decide ((i:Int)<(r.seats.length:Int)))=false,Qe Try.prog (.clos 120 [] []) [.int .i64 r.frame,.int .i64 0,.int .i64 1000000] (.bool (Qp r.frame 0 1000000)),(!(Qp r.frame 0 1000000))=false,Qe Try.prog (.clos 120 [] []) [.int .i64 r.full,.int .i64 0,.int .i64 1000000] (.bool (Qp r.full 0 1000000)),(!(Qp r.full 0 1000000))=false,Qe Try.prog (.clos 120 [] []) [.int .i64 r.empty,.int .i64 0,.int .i64 r.full] (.bool (Qp r.empty 0 r.full)),(!(Qp r.empty 0 r.full))=true,true=true])
 (hr:AvLe (.tup [.nilPtr,.bool false]) res):G Try.prog E (WI Try.prog) (qG r i ph ) :=
 Qb (n:=400) (evs:=[.b false,.v (.bool (Qp r.frame 0 1000000)),.b false,.v (.bool (Qp r.full 0 1000000)),.b false,.v (.bool (Qp r.empty 0 r.full)),.b true,.b true]) (obs:=_) hE Try.func51 Qi (by kernel_rfl) ho hr
theorem p51_0_6 (r:Rg) (i:Nat) (ph:Nat) {E:Env} {res:AV} (hE:Qd Try.prog 51 res E) (ho:AllP [(decide ((i:Int)<(r.seats.length:Int)))=false,Qe Try.prog (.clos 120 [] []) [.int .i64 r.frame,.int .i64 0,.int .i64 1000000] (.bool (Qp r.frame 0 1000000)),(!(Qp r.frame 0 1000000))=false,Qe Try.prog (.clos 120 [] []) [.int .i64 r.full,.int .i64 0,.int .i64 1000000] (.bool (Qp r.full 0 1000000)),(!(Qp r.full 0 1000000))=false,Qe Try.prog (.clos 120 [] []) [.int .i64 r.empty,.int .i64 0,.int .i64 r.full] (.bool (Qp r.empty 0 r.full)),(!(Qp r.empty 0 r.full))=false,Qe Try.prog (.clos 122 [] []) [.agg [.int .i64 r.c.x,.int .i64 r.c.y,.int .i64 r.c.z]] (.bool (Qs r.c)),(!(Qs r.c))=true])
 (hr:AvLe (.tup [.nilPtr,.bool false]) res):G Try.prog E (WI Try.prog) (qG r i ph ) :=
 Qb (n:=400) (evs:=[.b false,.v (.bool (Qp r.frame 0 1000000)),.b false,.v (.bool (Qp r.full 0 1000000)),.b false,.v (.bool (Qp r.empty 0 r.full)),.b false,.v (.bool (Qs r.c)),.b true]) (obs:=_) hE Try.func51 Qi (by kernel_rfl) ho hr
theorem p51_0_7 (r:Rg) (i:Nat) (ph:Nat) {E:Env} {res:AV} (hE:Qd Try.prog 51 res E) (ho:AllP [(decide ((i:Int)<(r.seats.length:Int)))=false,Qe Try.prog (.clos 120 [] []) [.int .i64 r.frame,.int .i64 0,.int .i64 1000000] (.bool (Qp r.frame 0 1000000)),(!(Qp r.frame 0 1000000))=false,Qe Try.prog (.clos 120 [] []) [.int .i64 r.full,.int .i64 0,.int .i64 1000000] (.bool (Qp r.full 0 1000000)),(!(Qp r.full 0 1000000))=false,Qe Try.prog (.clos 120 [] []) [.int .i64 r.empty,.int .i64 0,.int .i64 r.full] (.bool (Qp r.empty 0 r.full)),(!(Qp r.empty 0 r.full))=false,Qe Try.prog (.clos 122 [] []) [.agg [.int .i64 r.c.x,.int .i64 r.c.y,.int .i64 r.c.z]] (.bool (Qs r.c)),(!(Qs r.c))=false,Qe Try.prog (.clos 123 [] []) [.rsl (rowP r.feet) 0 r.feet.length,.clos 124 [] []] (.bool (r.feet.any QE)),(r.feet.any QE)=true])
 (hr:AvLe (.tup [.nilPtr,.bool false]) res):G Try.prog E (WI Try.prog) (qG r i ph ) :=
 Qb (n:=400) (evs:=[.b false,.v (.bool (Qp r.frame 0 1000000)),.b false,.v (.bool (Qp r.full 0 1000000)),.b false,.v (.bool (Qp r.empty 0 r.full)),.b false,.v (.bool (Qs r.c)),.b false,.v (.bool (r.feet.any QE)),.b true]) (obs:=_) hE Try.func51 Qi (by kernel_rfl) ho hr
theorem p51_0_8 (r:Rg) (i:Nat) (ph:Nat) {E:Env} {rv:AV} (hE:Qd Try.prog 51 rv E) (ho:AllP [(decide ((i:Int)<(r.seats.length:Int)))=false,Qe Try.prog (.clos 120 [] []) [.int .i64 r.frame,.int .i64 0,.int .i64 1000000] (.bool (Qp r.frame 0 1000000)),(!(Qp r.frame 0 1000000))=false,Qe Try.prog (.clos 120 [] []) [.int .i64 r.full,.int .i64 0,.int .i64 1000000] (.bool (Qp r.full 0 1000000)),(!(Qp r.full 0 1000000))=false,Qe Try.prog (.clos 120 [] []) [.int .i64 r.empty,.int .i64 0,.int .i64 r.full] (.bool (Qp r.empty 0 r.full)),(!(Qp r.empty 0 r.full))=false,Qe Try.prog (.clos 122 [] []) [.agg [.int .i64 r.c.x,.int .i64 r.c.y,.int .i64 r.c.z]] (.bool (Qs r.c)),(!(Qs r.c))=false,Qe Try.prog (.clos 123 [] []) [.rsl (rowP r.feet) 0 r.feet.length,.clos 124 [] []] (.bool (r.feet.any QE)),(r.feet.any QE)=false])
 (hg:G Try.prog E (f51K1 Try.prog) ⟨([J,.ptr 0 0 0,J,J,.ptr 1 0 0]++jj 72 ([.rsl (rowP r.feet) 0 r.feet.length,.int .i64 (r.feet.length:Int),.int .i64 0]++Js 29)),[⟨true,0,1,true,[.rsl (rowS r.seats) 0 r.seats.length,.rsl (rowP r.feet) 0 r.feet.length,.int .i64 r.frame,.int .i64 r.c.x,.int .i64 r.c.y,.int .i64 r.c.z,.int .i64 r.empty,.int .i64 r.full],false⟩,⟨true,0,1,false,[.rsl (rowS r.seats) 0 r.seats.length,.rsl (rowP r.feet) 0 r.feet.length,.int .i64 r.frame,.int .i64 r.c.x,.int .i64 r.c.y,.int .i64 r.c.z,.int .i64 r.empty,.int .i64 r.full,.sl 2 0 0 0 6,.int .i64 (ph:Int)],false⟩,⟨true,0,6,true,[],true⟩]⟩):G Try.prog E (WI Try.prog) (qG r i ph ) :=
 Ql (n:=400) (ds:=[]) (cs:=[(1,8,6)]) (live:=[1,4,77,78,79]) (m:=3) (evs:=[.b false,.v (.bool (Qp r.frame 0 1000000)),.b false,.v (.bool (Qp r.full 0 1000000)),.b false,.v (.bool (Qp r.empty 0 r.full)),.b false,.v (.bool (Qs r.c)),.b false,.v (.bool (r.feet.any QE)),.b false,.stop]) (obs:=_) hE.2.1 (hE.nogh _) Qi (by kernel_rfl) ho hg
theorem f51W0 (r:Rg) (i:Nat) (ph:Nat) {E:Env} {rv:AV} (hE:Qd Try.prog 51 rv E)
 (h:(((i:Int)<(r.seats.length:Int)→(∃ le:(List Pt),r.seats[i]?=some le∧((le.length≤1000)∧(((Xr le)=false→rv=(.tup [.nilPtr,.bool false]))∧((Xr le)=true→(∃ le1:(List Pt),r.seats[0]?=some le1∧((¬ ((le.length:Int)=(le1.length:Int))→rv=(.tup [.nilPtr,.bool false]))∧((le.length:Int)=(le1.length:Int)→((I6 ((i:Int)+1))∧f51G0 E r (i+1) le.length)))))))))∧(¬ ((i:Int)<(r.seats.length:Int))→(((Qp r.frame 0 1000000)=false→rv=(.tup [.nilPtr,.bool false]))∧((Qp r.frame 0 1000000)=true→(((Qp r.full 0 1000000)=false→rv=(.tup [.nilPtr,.bool false]))∧((Qp r.full 0 1000000)=true→(((Qp r.empty 0 r.full)=false→rv=(.tup [.nilPtr,.bool false]))∧((Qp r.empty 0 r.full)=true→(((Qs r.c)=false→rv=(.tup [.nilPtr,.bool false]))∧((Qs r.c)=true→((r.feet.length≤1000)∧(((r.feet.any QE)=true→rv=(.tup [.nilPtr,.bool false]))∧((r.feet.any QE)=false→f51G1 E r ph 0 ([]))))))))))))))):f51G0 E r i ph:=by
 rcases bft (decide ((i:Int)<(r.seats.length:Int))) with hc0 | hc0
 · have h:=h.1 (odt hc0)
   obtain ⟨le,h1,h⟩:=h
   obtain ⟨h2,h⟩:=h
   rcases bft (!(Xr le)) with hc1 | hc1
   · have h:=h.1 (bnT hc1)
     exact p51_0_0 r i ph le hE ⟨hc0,(Qr h1),(XW (fun s:List Pt=>[AV.rsl (rowP s) 0 s.length]) (s:=1) (k:=0) (m:=1) (fun _=>rfl) (by decide) h1),(u121 (yB le h2)),hc1,rfl,trivial⟩ (AvLe.of_eq (by rw [h]; try rfl))
   · have h:=h.2 (bnF hc1)
     obtain ⟨le1,h3,h⟩:=h
     rcases bft ((le.length:Int) != (le1.length:Int)) with hc2 | hc2
     · have h:=h.1 (bneT hc2)
       exact p51_0_1 r i ph le le1 hE ⟨hc0,(Qr h1),(XW (fun s:List Pt=>[AV.rsl (rowP s) 0 s.length]) (s:=1) (k:=0) (m:=1) (fun _=>rfl) (by decide) h1),(u121 (yB le h2)),hc1,(Qr h3),(XW (fun s:List Pt=>[AV.rsl (rowP s) 0 s.length]) (s:=1) (k:=0) (m:=1) (fun _=>rfl) (by decide) h3),hc2,trivial⟩ (AvLe.of_eq (by rw [h]; try rfl))
     · have h:=h.2 (bneF hc2)
       obtain ⟨q11_3,h⟩:=h
       exact p51_0_2 r i ph le le1 hE ⟨hc0,(Qr h1),(XW (fun s:List Pt=>[AV.rsl (rowP s) 0 s.length]) (s:=1) (k:=0) (m:=1) (fun _=>rfl) (by decide) h1),(u121 (yB le h2)),hc1,(Qr h3),(XW (fun s:List Pt=>[AV.rsl (rowP s) 0 s.length]) (s:=1) (k:=0) (m:=1) (fun _=>rfl) (by decide) h3),hc2,(by decide),q11_3,trivial⟩ h
 · have h:=h.2 (odf hc0)
   rcases bft (!(Qp r.frame 0 1000000)) with hc1 | hc1
   · have h:=h.1 (bnT hc1)
     exact p51_0_3 r i ph hE ⟨hc0,(u120 (QK r.frame 0 1000000)),hc1,rfl,rfl,rfl,trivial⟩ (AvLe.of_eq (by rw [h]; try rfl))
   · have h:=h.2 (bnF hc1)
     rcases bft (!(Qp r.full 0 1000000)) with hc2 | hc2
     · have h:=h.1 (bnT hc2)
       exact p51_0_4 r i ph hE ⟨hc0,(u120 (QK r.frame 0 1000000)),hc1,(u120 (QK r.full 0 1000000)),hc2,rfl,rfl,trivial⟩ (AvLe.of_eq (by rw [h]; try rfl))
     · have h:=h.2 (bnF hc2)
       rcases bft (!(Qp r.empty 0 r.full)) with hc3 | hc3
       · have h:=h.1 (bnT hc3)
         exact p51_0_5 r i ph hE ⟨hc0,(u120 (QK r.frame 0 1000000)),hc1,(u120 (QK r.full 0 1000000)),hc2,(u120 (QK r.empty 0 r.full)),hc3,rfl,trivial⟩ (AvLe.of_eq (by rw [h]; try rfl))
       · have h:=h.2 (bnF hc3)
         rcases bft (!(Qs r.c)) with hc4 | hc4
         · have h:=h.1 (bnT hc4)
           exact p51_0_6 r i ph hE ⟨hc0,(u120 (QK r.frame 0 1000000)),hc1,(u120 (QK r.full 0 1000000)),hc2,(u120 (QK r.empty 0 r.full)),hc3,(u122 (Vh r.c)),hc4,trivial⟩ (AvLe.of_eq (by rw [h]; try rfl))
         · have h:=h.2 (bnF hc4)
           obtain ⟨h1,h⟩:=h
           rcases bft (r.feet.any QE) with hc5 | hc5
           · have h:=h.1 hc5
             exact p51_0_7 r i ph hE ⟨hc0,(u120 (QK r.frame 0 1000000)),hc1,(u120 (QK r.full 0 1000000)),hc2,(u120 (QK r.empty 0 r.full)),hc3,(u122 (Vh r.c)),hc4,(u123 (any84_ok r.feet h1)),hc5,trivial⟩ (AvLe.of_eq (by rw [h]; try rfl))
           · have h:=h.2 hc5
             exact p51_0_8 r i ph hE ⟨hc0,(u120 (QK r.frame 0 1000000)),hc1,(u120 (QK r.full 0 1000000)),hc2,(u120 (QK r.empty 0 r.full)),hc3,(u122 (Vh r.c)),hc4,(u123 (any84_ok r.feet h1)),hc5,trivial⟩ (h 0)
theorem p51_1_0 (r:Rg) (ph:Nat) (k:Nat) (ls:List (Pt × Pt)) (g2:Nat) (pe:Pt) (pe1:Pt) {E:Env} {rv:AV} (hE:Qd Try.prog 51 rv E) (ho:AllP [(decide ((k:Int)<(r.feet.length:Int)))=true,0≤(k:Int)∧(k:Int)<(r.feet.length:Int),((rowP r.feet).drop (0+(Int.toNat (k:Int))*3)).take 3=[.int .i64 pe.x,.int .i64 pe.y,.int .i64 pe.z],3≤3,InR .i64 ((k:Int)+1),(r.feet.length:Int) ≠ 0,0≤(Int.tmod ((k:Int)+1) (r.feet.length:Int))∧(Int.tmod ((k:Int)+1) (r.feet.length:Int))<(r.feet.length:Int),((rowP r.feet).drop (0+(Int.toNat (Int.tmod ((k:Int)+1) (r.feet.length:Int)))*3)).take 3=[.int .i64 pe1.x,.int .i64 pe1.y,.int .i64 pe1.z],g2=g2,(0+(ls.length*6))=(QT ls).length,(ls.length+1)≤2147483648,0=0,9≤10,InR .i64 ((k:Int)+1)])
 (hg:G Try.prog E (f51K1 Try.prog) ⟨([J,.ptr 0 0 0,J,J,.ptr 1 0 0]++jj 72 ([.rsl (rowP r.feet) 0 r.feet.length,.int .i64 (r.feet.length:Int),.int .i64 ((k:Int)+1)]++Js 29)),[⟨true,0,1,true,[.rsl (rowS r.seats) 0 r.seats.length,.rsl (rowP r.feet) 0 r.feet.length,.int .i64 r.frame,.int .i64 r.c.x,.int .i64 r.c.y,.int .i64 r.c.z,.int .i64 r.empty,.int .i64 r.full],false⟩,⟨true,0,1,false,[.rsl (rowS r.seats) 0 r.seats.length,.rsl (rowP r.feet) 0 r.feet.length,.int .i64 r.frame,.int .i64 r.c.x,.int .i64 r.c.y,.int .i64 r.c.z,.int .i64 r.empty,.int .i64 r.full,.sl 2 (g2+1) 0 (ls.length+1) 6,.int .i64 (ph:Int)],false⟩,⟨true,(g2+1),6,true,((QT ls)++[.int .i64 pe.x,.int .i64 pe.y,.int .i64 pe.z,.int .i64 pe1.x,.int .i64 pe1.y,.int .i64 pe1.z]),true⟩]⟩):G Try.prog E (f51K1 Try.prog) (f51S1 r ph k ls g2) :=
 Ql (n:=400) (ds:=[]) (cs:=[]) (live:=[1,4,77,78,79]) (m:=3) (evs:=[.b true,.ld (.agg [.int .i64 pe.x,.int .i64 pe.y,.int .i64 pe.z]),.auto,.auto,.auto,.auto,.ld (.agg [.int .i64 pe1.x,.int .i64 pe1.y,.int .i64 pe1.z]),.stop]) (obs:=_) hE.2.1 (hE.nogh _) Qi (by kernel_rfl) ho hg
theorem p51_1_1 (r:Rg) (ph:Nat) (k:Nat) (ls:List (Pt × Pt)) (g2:Nat) {E:Env} {res:AV} (hE:Qd Try.prog 51 res E) (ho:AllP [(decide ((k:Int)<(r.feet.length:Int)))=false,Qe Try.prog (.clos 125 [] []) [.rptr [.rsl (rowS r.seats) 0 r.seats.length,.rsl (rowP r.feet) 0 r.feet.length,.int .i64 r.frame,.int .i64 r.c.x,.int .i64 r.c.y,.int .i64 r.c.z,.int .i64 r.empty,.int .i64 r.full,.rsl (QT ls) 0 ls.length,.int .i64 (ph:Int)] 0] (.bool (Ys r)),g2=g2,g2=g2])
 (hr:AvLe (.tup [.rptr [.rsl (rowS r.seats) 0 r.seats.length,.rsl (rowP r.feet) 0 r.feet.length,.int .i64 r.frame,.int .i64 r.c.x,.int .i64 r.c.y,.int .i64 r.c.z,.int .i64 r.empty,.int .i64 r.full,.rsl (QT ls) 0 ls.length,.int .i64 (ph:Int)] 0,.bool (Ys r)]) res):G Try.prog E (f51K1 Try.prog) (f51S1 r ph k ls g2) :=
 Qb (n:=400) (evs:=[.b false,.v (.bool (Ys r))]) (obs:=_) hE Try.func51 Qi (by kernel_rfl) ho hr
theorem f51W1 (r:Rg) (ph:Nat) (k:Nat) (ls:List (Pt × Pt)) {E:Env} {rv:AV} (hE:Qd Try.prog 51 rv E)
 (h:(((k:Int)<(r.feet.length:Int)→(∃ pe:Pt,r.feet[k]?=some pe∧((I6 ((k:Int)+1))∧((r.feet.length:Int) ≠ 0∧(0≤(Int.tmod ((k:Int)+1) (r.feet.length:Int))∧(∃ pe1:Pt,r.feet[Int.toNat (Int.tmod ((k:Int)+1) (r.feet.length:Int))]?=some pe1∧((ls.length+1)≤2147483648∧((I6 ((k:Int)+1))∧f51G1 E r ph (k+1) (ls++[(pe,pe1)])))))))))∧(¬ ((k:Int)<(r.feet.length:Int))→((FeetOk r∧ls=Qh r.feet∧(ph:Int)=Qu r)∧rv=(.tup [.rptr [.rsl (rowS r.seats) 0 r.seats.length,.rsl (rowP r.feet) 0 r.feet.length,.int .i64 r.frame,.int .i64 r.c.x,.int .i64 r.c.y,.int .i64 r.c.z,.int .i64 r.empty,.int .i64 r.full,.rsl (QT ls) 0 ls.length,.int .i64 (ph:Int)] 0,.bool (Ys r)]))))):f51G1 E r ph k ls:=by
 intro g2
 rcases bft (decide ((k:Int)<(r.feet.length:Int))) with hc0 | hc0
 · have h:=h.1 (odt hc0)
   obtain ⟨pe,h1,h⟩:=h
   obtain ⟨q5_1,h⟩:=h
   obtain ⟨q6_1,h⟩:=h
   obtain ⟨h3,h⟩:=h
   obtain ⟨pe1,h2,h⟩:=h
   obtain ⟨h4,h⟩:=h
   obtain ⟨q15_1,h⟩:=h
   refine p51_1_0 r ph k ls g2 pe pe1 hE ⟨hc0,(Qr h1),(rp cP 3 0 3 h1),(by decide),q5_1,q6_1,(Qw h3 h2),(rp cP 3 0 3 h2),rfl,(by have hx:=XJ (fun s:Pt × Pt=>cP s.1++cP s.2) (s:=6) (fun _=>rfl) ls; simp only [QT] at hx ⊢; rw [hx]; simp),h4,rfl,(by decide),q15_1,trivial⟩ ?_
   rw [(show QT ls++[.int .i64 pe.x,.int .i64 pe.y,.int .i64 pe.z,.int .i64 pe1.x,.int .i64 pe1.y,.int .i64 pe1.z]=QT (ls++[(pe,pe1)]) from (row_app (fun s:Pt × Pt=>cP s.1++cP s.2) ls [(pe,pe1)]).symm)]; rw [(show (ls.length+1)=(ls++[(pe,pe1)]).length from by simp)]; exact (h (g2+1))
 · have h:=h.2 (odf hc0)
   obtain ⟨h1,h⟩:=h
   exact p51_1_1 r ph k ls g2 hE ⟨hc0,(by obtain ⟨a,b,c⟩:=h1; rw [b,c]; exact Qo Try.func125 (by kernel_rfl) f125b (convex_ok r a)),rfl,rfl,trivial⟩ (AvLe.of_eq (by rw [h]; try rfl))
structure RigSmall (r:Rg):Prop where
 seats:r.seats.length≤1000
 feet:r.feet.length≤1000
 each:∀ s ∈ r.seats,s.length≤1000
def YQ (r:Rg) (s:List Pt):Bool:=Xr s && ((s.length:Int) == ((r.seats.getD 0 []).length:Int))
def Xt (r:Rg):Bool:=decide ((r.seats.length:Int)≤20) && (Qp r.feet.length 3 8 && (r.seats.all (YQ r) && (Qp r.frame 0 1000000 && (Qp r.full 0 1000000 && (Qp r.empty 0 r.full && (Qs r.c && !r.feet.any QE))))))
def Xv (r:Rg):Bool:=Xt r && Ys r
def rigV (r:Rg):AV:=.rptr [.rsl (rowS r.seats) 0 r.seats.length,.rsl (rowP r.feet) 0 r.feet.length,.int .i64 r.frame,.int .i64 r.c.x,.int .i64 r.c.y,.int .i64 r.c.z,.int .i64 r.empty,.int .i64 r.full,.rsl (QT (Qh r.feet)) 0 (Qh r.feet).length,.int .i64 (Qu r)] 0
def Yd (r:Rg):AV:=bif Xt r then rigV r else .nilPtr
theorem Vj {r:Rg} {rv:AV} (hr:rv=.tup [Yd r,.bool (Xv r)]) (h:Xt r=false):rv=.tup [.nilPtr,.bool false]:=by
 rw [hr]; simp [Yd,Xv,h]
theorem feetOk_of {r:Rg} (h1:Qp r.feet.length 3 8=true) (h2:r.feet.any QE=false):FeetOk r:=by
 simp only [Qp,Bool.and_eq_true,decide_eq_true_eq] at h1
 refine ⟨by omega,by omega,fun p hp=>?_⟩
 have:=(List.any_eq_false.1 h2) p hp
 simp only [QE] at this
 cases hs:Qs p with
 | true=>rfl
 | false=>simp [hs] at this
theorem linesOf_take {l:List Pt} {k:Nat} {a b:Pt} (ha:l[k]?=some a) (hb:l[(k+1) % l.length]?=some b):(Qh l).take (k+1)=(Qh l).take k++[(a,b)]:=by
 have hk:=yc ha
 have:(Qh l)[k]?=some (a,b):=by
  unfold Qh
  rw [List.getElem?_map]
  have e:(List.range' 0 l.length)[k]?=some k:=by simp [hk]
  rw [e]
  simp [List.getD,ha,hb]
 rw [List.take_add_one,this]; rfl
theorem newRig_k {E:Env} {rv:AV} (hE:Qd Try.prog 51 rv E) {r:Rg} (hf:FeetOk r) (hr:rv=.tup [rigV r,.bool (Ys r)]) {ph:Nat} (hph:(ph:Int)=Qu r) :
 ∀ (d k:Nat),k+d=r.feet.length→f51G1 E r ph k ((Qh r.feet).take k)
 | 0,k,hd=>by
  have e:(Qh r.feet).take k=Qh r.feet:=List.take_of_length_le (by rw [Xz]; omega)
  refine f51W1 r ph k _ hE ⟨fun h=>by omega,fun _=>⟨⟨hf,e,hph⟩,?_⟩⟩
  rw [hr,e,hph]; rfl
 | d+1,k,hd=>by
  have h8:=hf.feet1
  have hk:k<r.feet.length:=by omega
  have ha:r.feet[k]?=some r.feet[k]:=by simp [hk]
  have hm:(k+1) % r.feet.length<r.feet.length:=Nat.mod_lt _ (by omega)
  have hb:r.feet[(k+1) % r.feet.length]?=some r.feet[(k+1) % r.feet.length]:=by simp [hm]
  have et:Int.tmod ((k:Int)+1) (r.feet.length:Int)=(((k+1) % r.feet.length:Nat):Int):=by
   rw [Int.tmod_eq_emod_of_nonneg (by omega)]; rfl
  refine f51W1 r ph k _ hE ⟨fun _=>⟨_,ha,by omega,by omega,by rw [et]; omega,r.feet[(k+1) % r.feet.length],by rw [et]; exact hb,?_,by omega,?_⟩,fun h=>by omega⟩
  · rw [List.length_take]; omega
  · rw [← linesOf_take ha hb]; exact newRig_k hE hf hr hph d (k+1) (by omega)
theorem newRig_i {E:Env} {rv:AV} (hE:Qd Try.prog 51 rv E) {r:Rg} (hs:RigSmall r) (h0:(r.seats.length:Int)≤20) (hf:Qp r.feet.length 3 8=true) (hr:rv=.tup [Yd r,.bool (Xv r)]) :
 ∀ (d i ph:Nat),i+d=r.seats.length→(∀ s ∈ r.seats.take i,YQ r s=true)→(ph:Int)=(match (r.seats.take i).getLast? with | some s=>(s.length:Int) | none=>1)→f51G0 E r i ph
 | 0,i,ph,hd,hall,hph=>by
  have e:r.seats.take i=r.seats:=List.take_of_length_le (by omega)
  rw [e] at hall hph
  have ha:r.seats.all (YQ r)=true:=List.all_eq_true.2 hall
  refine f51W0 r i ph hE ⟨fun h=>by omega,fun _=>⟨fun h=>?_,fun h1=>⟨fun h=>?_,fun h2=>⟨fun h=>?_,fun h3=>⟨fun h=>?_,fun h4=>⟨hs.feet,fun h=>?_,fun h5=>?_⟩⟩⟩⟩⟩⟩
  all_goals first | (refine Vj hr ?_; simp [Xt, *]; done) | skip
  refine newRig_k hE (feetOk_of hf h5) ?_ hph r.feet.length 0 (by omega)
  have hp:Xt r=true:=by simp [Xt, *]
  rw [hr]; simp [Yd,Xv,hp]
 | d+1,i,ph,hd,hall,hph=>by
  have hi:i<r.seats.length:=by omega
  have ha:r.seats[i]?=some r.seats[i]:=by simp [hi]
  have h00:r.seats[0]?=some (r.seats.getD 0 []):=by simp [List.getD,show 0<r.seats.length by omega]
  have hno:∀ (h:YQ r r.seats[i]=false),rv=.tup [.nilPtr,.bool false]:=fun h=>by
   refine Vj hr ?_
   have:r.seats.all (YQ r)=false:=by
    rw [Bool.eq_false_iff]; intro hh
    rw [List.all_eq_true.1 hh _ (List.mem_of_getElem? ha)] at h; cases h
   simp [Xt,this]
  refine f51W0 r i ph hE ⟨fun _=>⟨_,ha,hs.each _ (List.mem_of_getElem? ha),fun h=>hno (by simp [YQ,h]),fun h1=>⟨_,h00,fun h=>hno (by simp only [YQ,h1,Bool.true_and]; simpa using h),fun h2=>⟨by omega,?_⟩⟩⟩,fun h=>by omega⟩
  have et:r.seats.take (i+1)=r.seats.take i++[r.seats[i]]:=by rw [List.take_add_one,ha]; rfl
  refine newRig_i hE hs h0 hf hr d (i+1) _ (by omega) (fun s h=>?_) ?_
  · rw [et] at h
    rcases List.mem_append.1 h with h | h
    · exact hall s h
    · rw [List.mem_singleton.1 h]; simp only [YQ,h1,Bool.true_and]; simpa using h2
  · rw [et,List.getLast?_concat]
theorem Xw (r:Rg) (hs:RigSmall r):Pure Try.prog 51 [.agg [.rsl (rowS r.seats) 0 r.seats.length,.rsl (rowP r.feet) 0 r.feet.length,.int .i64 r.frame,.int .i64 r.c.x,.int .i64 r.c.y,.int .i64 r.c.z,.int .i64 r.empty,.int .i64 r.full]]
 (.tup [Yd r,.bool (Xv r)]):=Qy Try.func51 f51b fun E hE=>by
 refine f51W r hE ⟨fun h1=>?_,fun h1=>⟨fun h2=>?_,fun h2=>?_⟩⟩
 · exact Vj rfl (by have:¬ ((r.seats.length:Int)≤20):=(by omega); simp only [Xt,this]; rfl)
 · exact Vj rfl (by simp [Xt,h2])
 · exact newRig_i hE hs (by omega) h2 rfl r.seats.length 0 1 (by omega) (by simp) (by simp)
end Go.Proofs.Ytemklbioijmjiaa
namespace Go.Proofs.Ytemklbioijmjiaa
open Go Ax
open Go.Proofs
def phN (r:Rg):Nat:=(Qu r).toNat
structure RigMade (r:Rg):Prop where
 ok:RgOk r (phN r)
 ph:Qu r=(phN r:Nat)
 le:phN r≤60
 pos:1≤phN r
 conv:Ys r=true
def WF (r:Rg):List (Nat × Nat):=wlP r.feet.length 0 (phN r)
theorem XK {r:Rg} (h:Xv r=true):RigMade r:=by
 simp only [Xv,Xt,Bool.and_eq_true,decide_eq_true_eq,Bool.not_eq_true'] at h
 obtain ⟨⟨h0,h1,h2,h3,h4,h5,h6,h7⟩,h8⟩:=h
 have hf:=feetOk_of h1 h7
 simp only [Qp,Bool.and_eq_true,decide_eq_true_eq] at h1 h3 h4 h5
 have hall:∀ s ∈ r.seats,Xr s=true∧s.length=(r.seats.getD 0 []).length:=fun s hs=>by
  have:=List.all_eq_true.1 h2 s hs
  simp only [YQ,Bool.and_eq_true,beq_iff_eq] at this
  exact ⟨this.1,by omega⟩
 have hp:(∃ n:Nat,Qu r=n∧1≤n∧n≤60∧∀ s ∈ r.seats,s.length=n):=by
  unfold Qu
  cases hg:r.seats.getLast? with
  | none =>
   refine ⟨1,rfl,by omega,by omega,fun s hs=>?_⟩
   rw [List.getLast?_eq_none_iff] at hg
   rw [hg] at hs; cases hs
  | some s =>
   have hm:=List.mem_of_getLast? hg
   obtain ⟨hv,hl⟩:=hall s hm
   have:=valid_len hv
   exact ⟨s.length,rfl,by omega,by omega,fun t ht=>by rw [(hall t ht).2,hl]⟩
 obtain ⟨n,p1,p2,p3,p4⟩:=hp
 have hn:phN r=n:=by unfold phN; omega
 exact ⟨⟨by omega,fun s hs=>⟨by rw [hn]; exact p4 s hs,(hall s hs).1⟩,hf.feet0,hf.feet1,hf.foot,h6,h3.1,h3.2,h5.1,h5.2,h4.2⟩,by rw [p1,hn],by omega,by omega,h8⟩
theorem Vk {r:Rg} (h:Xv r=true):Yd r=rigV r:=by
 simp only [Xv,Bool.and_eq_true] at h
 simp only [Yd,h.1,cond_true]
theorem Vy {r:Rg} (h:Xt r=true):Yd r=rigV r:=by simp only [Yd,h,cond_true]
theorem Vz {r:Rg} (h:Xt r=false):Yd r=.nilPtr:=by simp only [Yd,h,cond_false]
theorem worst_it (r:Rg) (h:RigMade r):IterF Try.prog (.clos 52 [rigV r] []) ((WF r).map (argW r)):=worst_iter r (phN r) h.ok h.ph (by have:=h.le; omega)
theorem f17b:Try.f17.body=some (Qc Try.prog 17):=by kernel_rfl
theorem u17 {a c k:List AV} {r:AV} (h:Pure Try.prog 17 (a++c++k) r):Qe Try.prog (.clos 17 a k) c r:=Qo Try.func17 (by kernel_rfl) f17b h
def YZ (P:Program):List Item:=kAt 400 [.code (Qc P 17)] [.b false]
def Yp (r:Rg) (s:Int × Nat × Nat × Bool):St:=⟨([J,J,.ptr 1 0 0,.ptr 2 0 0,.ptr 3 0 0,J,J,J,.ptr 4 0 0]++jj 10 ([.clos 52 [.rptr [.rsl (rowS r.seats) 0 r.seats.length,.rsl (rowP r.feet) 0 r.feet.length,.int .i64 r.frame,.int .i64 r.c.x,.int .i64 r.c.y,.int .i64 r.c.z,.int .i64 r.empty,.int .i64 r.full,.rsl (QT (Qh r.feet)) 0 ((Qh r.feet).length),.int .i64 (Qu r)] 0] []]++Js 17)),[⟨true,0,1,true,[.rsl (rowS r.seats) 0 r.seats.length,.rsl (rowP r.feet) 0 r.feet.length,.int .i64 r.frame,.int .i64 r.c.x,.int .i64 r.c.y,.int .i64 r.c.z,.int .i64 r.empty,.int .i64 r.full],false⟩,⟨true,0,1,true,[.int .i64 s.1],false⟩,⟨true,0,1,true,[.int .i64 (s.2.1:Int)],false⟩,⟨true,0,1,true,[.int .i64 (s.2.2.1:Int)],false⟩,⟨true,0,1,true,[.bool s.2.2.2],false⟩]⟩
def f17Gr0 (E:Env) (r:Rg) (s:Int × Nat × Nat × Bool):Prop:=G Try.prog E (YZ Try.prog) (Yp r s)
def ym (r:Rg) (s:Int × Nat × Nat × Bool) (x:Nat × Nat):St:=⟨([J,J,.ptr 1 0 0,.ptr 2 0 0,.ptr 3 0 0,J,J,J,.ptr 4 0 0,.ptr 5 0 0,.int .i64 (QV r x)]++jj 8 ([.clos 52 [.rptr [.rsl (rowS r.seats) 0 r.seats.length,.rsl (rowP r.feet) 0 r.feet.length,.int .i64 r.frame,.int .i64 r.c.x,.int .i64 r.c.y,.int .i64 r.c.z,.int .i64 r.empty,.int .i64 r.full,.rsl (QT (Qh r.feet)) 0 ((Qh r.feet).length),.int .i64 (Qu r)] 0] [],.agg [.int .i64 (x.1:Int),.int .i64 (x.2:Int)],.int .i64 (QV r x)]++Js 15)),[⟨true,0,1,true,[.rsl (rowS r.seats) 0 r.seats.length,.rsl (rowP r.feet) 0 r.feet.length,.int .i64 r.frame,.int .i64 r.c.x,.int .i64 r.c.y,.int .i64 r.c.z,.int .i64 r.empty,.int .i64 r.full],false⟩,⟨true,0,1,true,[.int .i64 s.1],false⟩,⟨true,0,1,true,[.int .i64 (s.2.1:Int)],false⟩,⟨true,0,1,true,[.int .i64 (s.2.2.1:Int)],false⟩,⟨true,0,1,true,[.bool s.2.2.2],false⟩,⟨true,0,1,true,[.int .i64 (x.1:Int),.int .i64 (x.2:Int)],false⟩]⟩
theorem p17_start_0 (r:Rg) {E:Env} {rv:AV} (hE:Qd Try.prog 17 rv E) (ho:AllP [Qe Try.prog (.clos 51 [] []) [.agg [.rsl (rowS r.seats) 0 r.seats.length,.rsl (rowP r.feet) 0 r.feet.length,.int .i64 r.frame,.int .i64 r.c.x,.int .i64 r.c.y,.int .i64 r.c.z,.int .i64 r.empty,.int .i64 r.full]] (.tup [.rptr [.rsl (rowS r.seats) 0 r.seats.length,.rsl (rowP r.feet) 0 r.feet.length,.int .i64 r.frame,.int .i64 r.c.x,.int .i64 r.c.y,.int .i64 r.c.z,.int .i64 r.empty,.int .i64 r.full,.rsl (QT (Qh r.feet)) 0 ((Qh r.feet).length),.int .i64 (Qu r)] 0,.bool true]),false=false,1≤1])
 (hg:G Try.prog E (YZ Try.prog) ⟨([J,J,.ptr 1 0 0,.ptr 2 0 0,.ptr 3 0 0,J,J,J,.ptr 4 0 0]++jj 10 ([.clos 52 [.rptr [.rsl (rowS r.seats) 0 r.seats.length,.rsl (rowP r.feet) 0 r.feet.length,.int .i64 r.frame,.int .i64 r.c.x,.int .i64 r.c.y,.int .i64 r.c.z,.int .i64 r.empty,.int .i64 r.full,.rsl (QT (Qh r.feet)) 0 ((Qh r.feet).length),.int .i64 (Qu r)] 0] []]++Js 17)),[⟨true,0,1,true,[.rsl (rowS r.seats) 0 r.seats.length,.rsl (rowP r.feet) 0 r.feet.length,.int .i64 r.frame,.int .i64 r.c.x,.int .i64 r.c.y,.int .i64 r.c.z,.int .i64 r.empty,.int .i64 r.full],false⟩,⟨true,0,1,true,[.int .i64 0],false⟩,⟨true,0,1,true,[.int .i64 0],false⟩,⟨true,0,1,true,[.int .i64 0],false⟩,⟨true,0,1,true,[.bool false],false⟩]⟩):G Try.prog E [.code (Qc Try.prog 17)] ⟨[.agg [.rsl (rowS r.seats) 0 r.seats.length,.rsl (rowP r.feet) 0 r.feet.length,.int .i64 r.frame,.int .i64 r.c.x,.int .i64 r.c.y,.int .i64 r.c.z,.int .i64 r.empty,.int .i64 r.full]]++unds (Try.f17.ntmps - 1),[]⟩ :=
 Ql (n:=400) (ds:=[]) (cs:=[]) (live:=[2,3,4,8,19]) (m:=5) (evs:=[.v (.tup [.rptr [.rsl (rowS r.seats) 0 r.seats.length,.rsl (rowP r.feet) 0 r.feet.length,.int .i64 r.frame,.int .i64 r.c.x,.int .i64 r.c.y,.int .i64 r.c.z,.int .i64 r.empty,.int .i64 r.full,.rsl (QT (Qh r.feet)) 0 ((Qh r.feet).length),.int .i64 (Qu r)] 0,.bool true]),.b false]) (obs:=_) hE.2.1 (hE.nogh _) Qi (by kernel_rfl) ho hg
theorem p17_start_1 (r:Rg) {E:Env} {res:AV} (hE:Qd Try.prog 17 res E) (ho:AllP [Qe Try.prog (.clos 51 [] []) [.agg [.rsl (rowS r.seats) 0 r.seats.length,.rsl (rowP r.feet) 0 r.feet.length,.int .i64 r.frame,.int .i64 r.c.x,.int .i64 r.c.y,.int .i64 r.c.z,.int .i64 r.empty,.int .i64 r.full]] (.tup [.rptr [.rsl (rowS r.seats) 0 r.seats.length,.rsl (rowP r.feet) 0 r.feet.length,.int .i64 r.frame,.int .i64 r.c.x,.int .i64 r.c.y,.int .i64 r.c.z,.int .i64 r.empty,.int .i64 r.full,.rsl (QT (Qh r.feet)) 0 ((Qh r.feet).length),.int .i64 (Qu r)] 0,.bool false]),true=true,1≤1,1≤1,1≤1])
 (hr:AvLe (.tup [.int .i64 0,.int .i64 0,.int .i64 0,.int .i64 33]) res):G Try.prog E [.code (Qc Try.prog 17)] ⟨[.agg [.rsl (rowS r.seats) 0 r.seats.length,.rsl (rowP r.feet) 0 r.feet.length,.int .i64 r.frame,.int .i64 r.c.x,.int .i64 r.c.y,.int .i64 r.c.z,.int .i64 r.empty,.int .i64 r.full]]++unds (Try.f17.ntmps - 1),[]⟩ :=
 Qb (n:=400) (evs:=[.v (.tup [.rptr [.rsl (rowS r.seats) 0 r.seats.length,.rsl (rowP r.feet) 0 r.feet.length,.int .i64 r.frame,.int .i64 r.c.x,.int .i64 r.c.y,.int .i64 r.c.z,.int .i64 r.empty,.int .i64 r.full,.rsl (QT (Qh r.feet)) 0 ((Qh r.feet).length),.int .i64 (Qu r)] 0,.bool false]),.b true]) (obs:=_) hE Try.func17 Qi (by kernel_rfl) ho hr
theorem p17_start_2 (r:Rg) {E:Env} {res:AV} (hE:Qd Try.prog 17 res E) (ho:AllP [Qe Try.prog (.clos 51 [] []) [.agg [.rsl (rowS r.seats) 0 r.seats.length,.rsl (rowP r.feet) 0 r.feet.length,.int .i64 r.frame,.int .i64 r.c.x,.int .i64 r.c.y,.int .i64 r.c.z,.int .i64 r.empty,.int .i64 r.full]] (.tup [.nilPtr,.bool false]),true=true,1≤1,1≤1,1≤1])
 (hr:AvLe (.tup [.int .i64 0,.int .i64 0,.int .i64 0,.int .i64 33]) res):G Try.prog E [.code (Qc Try.prog 17)] ⟨[.agg [.rsl (rowS r.seats) 0 r.seats.length,.rsl (rowP r.feet) 0 r.feet.length,.int .i64 r.frame,.int .i64 r.c.x,.int .i64 r.c.y,.int .i64 r.c.z,.int .i64 r.empty,.int .i64 r.full]]++unds (Try.f17.ntmps - 1),[]⟩ :=
 Qb (n:=400) (evs:=[.v (.tup [.nilPtr,.bool false]),.b true]) (obs:=_) hE Try.func17 Qi (by kernel_rfl) ho hr
theorem f17W (r:Rg) {E:Env} {rv:(Int × Int × Int × Int)} (hE:Qd Try.prog 17 (.tup [.int .i64 rv.1,.int .i64 rv.2.1,.int .i64 rv.2.2.1,.int .i64 rv.2.2.2]) E)
 (h:(((Xv r)=true→((RigSmall r)∧f17Gr0 E r (0,0,0,false)))∧((Xv r)=false→(((Xt r)=true→((RigSmall r)∧rv=(0,0,0,33)))∧((Xt r)=false→((RigSmall r)∧rv=(0,0,0,33))))))):G Try.prog E [.code (Qc Try.prog 17)] ⟨[.agg [.rsl (rowS r.seats) 0 r.seats.length,.rsl (rowP r.feet) 0 r.feet.length,.int .i64 r.frame,.int .i64 r.c.x,.int .i64 r.c.y,.int .i64 r.c.z,.int .i64 r.empty,.int .i64 r.full]]++unds (Try.f17.ntmps - 1),[]⟩:=by
 rcases bft (Xv r) with hc0 | hc0
 · have h:=h.1 hc0
   obtain ⟨h1,h⟩:=h
   exact p17_start_0 r hE ⟨(by have hx:=Xw r h1; rw [hc0,Vk hc0] at hx; exact Qo Try.func51 (by kernel_rfl) f51b hx),rfl,(by decide),trivial⟩ h
 · have h:=h.2 hc0
   rcases bft (Xt r) with hc1 | hc1
   · have h:=h.1 hc1
     obtain ⟨h1,h⟩:=h
     exact p17_start_1 r hE ⟨(by have hx:=Xw r h1; rw [hc0,Vy hc1] at hx; exact Qo Try.func51 (by kernel_rfl) f51b hx),rfl,(by decide),(by decide),(by decide),trivial⟩ (AvLe.of_eq (by rw [h]; try rfl))
   · have h:=h.2 hc1
     obtain ⟨h1,h⟩:=h
     exact p17_start_2 r hE ⟨(by have hx:=Xw r h1; rw [hc0,Vz hc1] at hx; exact Qo Try.func51 (by kernel_rfl) f51b hx),rfl,(by decide),(by decide),(by decide),trivial⟩ (AvLe.of_eq (by rw [h]; try rfl))
theorem p17_r0e_0 (r:Rg) (s:Int × Nat × Nat × Bool) {E:Env} {res:AV} (hE:Qd Try.prog 17 res E) (ho:AllP [1≤1,1≤1,1≤1])
 (hr:AvLe (.tup [.int .i64 s.1,.int .i64 (s.2.1:Int),.int .i64 (s.2.2.1:Int),.int .i64 0]) res):G Try.prog E (qR (YZ Try.prog)) (Yp r s) :=
 Qb (n:=400) (evs:=[]) (obs:=_) hE Try.func17 Qi (by kernel_rfl) ho hr
theorem f17Wr0e (r:Rg) (s:Int × Nat × Nat × Bool) {E:Env} {rv:(Int × Int × Int × Int)} (hE:Qd Try.prog 17 (.tup [.int .i64 rv.1,.int .i64 rv.2.1,.int .i64 rv.2.2.1,.int .i64 rv.2.2.2]) E)
 (h:rv=(s.1,(s.2.1:Int),(s.2.2.1:Int),0)):G Try.prog E (qR (YZ Try.prog)) (Yp r s):=by
 exact p17_r0e_0 r s hE ⟨(by decide),(by decide),(by decide),trivial⟩ (AvLe.of_eq (by rw [h]; try rfl))
theorem f17Ar0 (r:Rg) (s:Int × Nat × Nat × Bool) (x:Nat × Nat) {E:Env} (hE:RoundE (Yp r s).tmps E) (hg:G Try.prog E [.beginRound,.code (YM (YZ Try.prog))] (ym r s x)):G Try.prog E [.code (yI (YZ Try.prog)),.beginRound,.code (YM (YZ Try.prog))] ⟨WU (Yp r s).tmps [20,21] ((argW r) x),(Yp r s).blks⟩ :=
 Ql (n:=400) (ds:=[]) (cs:=[]) (live:=[0,1,2,3,4,5,6,7,8,9,10,11,12,13,14,15,16,17,18,19,20,21,22,23,24,25,26,27,28,29,30,31,32,33,34,35,36]) (m:=6) (evs:=[]) (obs:=[2≤2]) hE.kind (by rw [hE.gA]; kernel_rfl) Qi (by kernel_rfl) ⟨(by decide),trivial⟩ hg
theorem f17Br0_0 (r:Rg) (s:Int × Nat × Nat × Bool) (x:Nat × Nat) {E:Env} (hE:RoundE (Yp r s).tmps E) (ho:AllP [(!s.2.2.2)=true,true=true,(0:Int)≤0∧(0:Int)<((2:Nat):Int),(0:Int)≤1∧(1:Int)<((2:Nat):Int),1≤1,1≤1,1≤1,1≤1])
 (hg:G Try.prog E [] ⟨(Js 37),[⟨true,0,1,true,[.rsl (rowS r.seats) 0 r.seats.length,.rsl (rowP r.feet) 0 r.feet.length,.int .i64 r.frame,.int .i64 r.c.x,.int .i64 r.c.y,.int .i64 r.c.z,.int .i64 r.empty,.int .i64 r.full],false⟩,⟨true,0,1,true,[.int .i64 (QV r x)],false⟩,⟨true,0,1,true,[.int .i64 (x.1:Int)],false⟩,⟨true,0,1,true,[.int .i64 (x.2:Int)],false⟩,⟨true,0,1,true,[.bool true],false⟩]⟩):G Try.prog E [.code (YM (YZ Try.prog))] (ym r s x) :=
 Ql (n:=400) (ds:=[]) (cs:=[]) (live:=[]) (m:=5) (evs:=[.b true,.b true]) (obs:=_) hE.kind (by rw [hE.gA]; kernel_rfl) Qi (by kernel_rfl) ho hg
theorem f17Br0_1 (r:Rg) (s:Int × Nat × Nat × Bool) (x:Nat × Nat) {E:Env} (hE:RoundE (Yp r s).tmps E) (ho:AllP [(!s.2.2.2)=false,(decide ((QV r x)<s.1))=true,(0:Int)≤0∧(0:Int)<((2:Nat):Int),(0:Int)≤1∧(1:Int)<((2:Nat):Int),1≤1,1≤1,1≤1,1≤1])
 (hg:G Try.prog E [] ⟨(Js 37),[⟨true,0,1,true,[.rsl (rowS r.seats) 0 r.seats.length,.rsl (rowP r.feet) 0 r.feet.length,.int .i64 r.frame,.int .i64 r.c.x,.int .i64 r.c.y,.int .i64 r.c.z,.int .i64 r.empty,.int .i64 r.full],false⟩,⟨true,0,1,true,[.int .i64 (QV r x)],false⟩,⟨true,0,1,true,[.int .i64 (x.1:Int)],false⟩,⟨true,0,1,true,[.int .i64 (x.2:Int)],false⟩,⟨true,0,1,true,[.bool true],false⟩]⟩):G Try.prog E [.code (YM (YZ Try.prog))] (ym r s x) :=
 Ql (n:=400) (ds:=[]) (cs:=[]) (live:=[]) (m:=5) (evs:=[.b false,.b true]) (obs:=_) hE.kind (by rw [hE.gA]; kernel_rfl) Qi (by kernel_rfl) ho hg
theorem f17Br0_2 (r:Rg) (s:Int × Nat × Nat × Bool) (x:Nat × Nat) {E:Env} (hE:RoundE (Yp r s).tmps E) (ho:AllP [(!s.2.2.2)=false,(decide ((QV r x)<s.1))=false,1≤1])
 (hg:G Try.prog E [] ⟨(Js 37),[⟨true,0,1,true,[.rsl (rowS r.seats) 0 r.seats.length,.rsl (rowP r.feet) 0 r.feet.length,.int .i64 r.frame,.int .i64 r.c.x,.int .i64 r.c.y,.int .i64 r.c.z,.int .i64 r.empty,.int .i64 r.full],false⟩,⟨true,0,1,true,[.int .i64 s.1],false⟩,⟨true,0,1,true,[.int .i64 (s.2.1:Int)],false⟩,⟨true,0,1,true,[.int .i64 (s.2.2.1:Int)],false⟩,⟨true,0,1,true,[.bool true],false⟩]⟩):G Try.prog E [.code (YM (YZ Try.prog))] (ym r s x) :=
 Ql (n:=400) (ds:=[]) (cs:=[]) (live:=[]) (m:=5) (evs:=[.b false,.b false]) (obs:=_) hE.kind (by rw [hE.gA]; kernel_rfl) Qi (by kernel_rfl) ho hg
theorem f17Br0 (r:Rg) (s:Int × Nat × Nat × Bool) (x:Nat × Nat) {rq:(Int × Nat × Nat × Bool) × Bool} {E:Env} (hE:RoundE (Yp r s).tmps E) (hQ:RoundR (fun s=>(Yp r s).blks) (.ret) rq E)
 (h:((s.2.2.2=false→rq=(((QV r x),x.1,x.2,true),true))∧(s.2.2.2=true→(((QV r x)<s.1→rq=(((QV r x),x.1,x.2,true),true))∧(¬ ((QV r x)<s.1)→rq=((s.1,s.2.1,s.2.2.1,true),true)))))):G Try.prog E [.code (YM (YZ Try.prog))] (ym r s x):=by
 rcases bft (!s.2.2.2) with hc0 | hc0
 · have h:=h.1 (bnT hc0)
   exact f17Br0_0 r s x hE ⟨hc0,rfl,(⟨by decide,by decide⟩),(⟨by decide,by decide⟩),(by decide),(by decide),(by decide),(by decide),trivial⟩ (yH hQ h rfl)
 · have h:=h.2 (bnF hc0)
   rcases bft (decide ((QV r x)<s.1)) with hc1 | hc1
   · have h:=h.1 (odt hc1)
     exact f17Br0_1 r s x hE ⟨hc0,hc1,(⟨by decide,by decide⟩),(⟨by decide,by decide⟩),(by decide),(by decide),(by decide),(by decide),trivial⟩ (yH hQ h rfl)
   · have h:=h.2 (odf hc1)
     exact f17Br0_2 r s x hE ⟨hc0,hc1,(by decide),trivial⟩ (yH hQ h rfl)
theorem f17Rr0 (r:Rg) (s0:Int × Nat × Nat × Bool) {E:Env} {rv:(Int × Int × Int × Int)} (hE:Qd Try.prog 17 (.tup [.int .i64 rv.1,.int .i64 rv.2.1,.int .i64 rv.2.2.1,.int .i64 rv.2.2.2]) E) (step:(Int × Nat × Nat × Bool)→(Nat × Nat)→(Int × Nat × Nat × Bool))
 (h:RigMade r∧(∀ (i:Nat) (x:Nat × Nat) (s:Int × Nat × Nat × Bool),(WF r)[i]?=some x→s=((WF r).take i).foldl step s0→((s.2.2.2=false→step s x=((QV r x),x.1,x.2,true))∧(s.2.2.2=true→(((QV r x)<s.1→step s x=((QV r x),x.1,x.2,true))∧(¬ ((QV r x)<s.1)→step s x=(s.1,s.2.1,s.2.2.1,true))))))∧(∀ s:Int × Nat × Nat × Bool,s=(WF r).foldl step s0→rv=(s.1,(s.2.1:Int),(s.2.2.1:Int),0))):f17Gr0 E r s0:=by
 have hgA:E.gA=[]:=hE.2.2.2.2.1
 have hT:(Yp r s0).tmps++E.gA=(Yp r s0).tmps:=by rw [hgA,List.append_nil]
 refine range_fold (σ:=Int × Nat × Nat × Bool) (X:=Nat × Nat) (arg:=(argW r)) (L:=(WF r)) (jump:=.ret) (g:=.tmp 19) (ps:=#[20,21]) (fun s=>(Yp r s).blks) (fun s x=>(ym r s x)) (fun s x=>(step s x,true)) s0 hE.1 hE.2.1 (by kernel_rfl) rfl rfl (worst_it r h.1) rfl (fun x=>rfl) (fun s x E' hR hg=>?_) (fun i x s hx hs E' hR hQ=>?_) (fun s hs=>?_) (fun s hs=>?_)
 · rw [hT] at hR; exact f17Ar0 r s x hR hg
 · rw [hT] at hR; rw [YE] at hs; simp only [Prod.mk.injEq,and_true] at hs; refine f17Br0 r s x hR hQ ?_
   have h:=h.2.1 i x s hx hs.symm
   simpa only [Prod.mk.injEq,and_true] using h
 · rw [YE] at hs; simp only [Prod.mk.injEq,and_true] at hs; exact f17Wr0e r s hE (h.2.2 s hs.symm)
 · rw [YE] at hs; simp at hs
def QU (r:Rg) (s:Int × Nat × Nat × Bool) (x:Nat × Nat):Int × Nat × Nat × Bool :=
 bif !s.2.2.2 || decide (QV r x<s.1) then (QV r x,x.1,x.2,true) else (s.1,s.2.1,s.2.2.1,true)
def YU (r:Rg):Int × Nat × Nat × Bool:=(WF r).foldl (QU r) (0,0,0,false)
def Qg (r:Rg):Int × Int × Int × Int:=bif Xv r then ((YU r).1,((YU r).2.1:Nat),((YU r).2.2.1:Nat),0) else (0,0,0,33)
theorem Xq (r:Rg) (hs:RigSmall r):Pure Try.prog 17 [.agg [.rsl (rowS r.seats) 0 r.seats.length,.rsl (rowP r.feet) 0 r.feet.length,.int .i64 r.frame,.int .i64 r.c.x,.int .i64 r.c.y,.int .i64 r.c.z,.int .i64 r.empty,.int .i64 r.full]]
 (.tup [.int .i64 (Qg r).1,.int .i64 (Qg r).2.1,.int .i64 (Qg r).2.2.1,.int .i64 (Qg r).2.2.2]):=Qy Try.func17 f17b fun E hE=>by
 refine f17W r hE ⟨fun h=>⟨hs,f17Rr0 r _ hE (QU r) ⟨XK h,fun i x s hx hs=>⟨fun h1=>?_,fun h1=>⟨fun h2=>?_,fun h2=>?_⟩⟩,fun s hs=>?_⟩⟩,fun h=>⟨fun _=>⟨hs,?_⟩,fun _=>⟨hs,?_⟩⟩⟩
 · simp [QU,h1]
 · simp [QU,h1,h2]
 · simp [QU,h1,h2]
 · simp only [Qg,h,cond_true,YU,← hs]
 · simp [Qg,h]
 · simp [Qg,h]
end Go.Proofs.Ytemklbioijmjiaa
namespace Go.Proofs.Ytemklbioijmjiaa
open Go Ax
open Go.Proofs
theorem within_iff {n a b:Int}:Qp n a b=true ↔ a≤n∧n≤b:=by simp [Qp]
end Go.Proofs.Ytemklbioijmjiaa
namespace Ax
open Go
theorem Wc {α:Type} (f:α→List AV) (n:Nat) (a:α):(List.replicate n (f a)).flatten=(List.replicate n a).flatMap f:=by
 induction n with
 | zero=>rfl
 | succ n ih=>rw [List.replicate_succ,List.flatten_cons,ih,List.replicate_succ,List.flatMap_cons]
theorem yG {α:Type} (f:α→List AV) {s:Nat} (hf:∀ a,(f a).length=s) (l:List α):((l.flatMap f).drop 0).take (l.length*s)=l.flatMap f:=by
 rw [List.drop_zero,List.take_of_length_le (by rw [XJ f hf]; exact Nat.le_refl _)]
theorem qV:∀ {a b:List AV},noRefs (a++b)=(noRefs a && noRefs b)
 | [],b=>by simp [noRefs]
 | x :: a,b=>by simp [noRefs,qV,Bool.and_assoc]
theorem YR {α:Type} (f:α→List AV) (hf:∀ a,noRefs (f a)=true):∀ l:List α,noRefs (l.flatMap f)=true
 | []=>rfl
 | a :: l=>by rw [List.flatMap_cons,qV,hf,YR f hf l]; rfl
end Ax
namespace Go.Proofs.Ytemklbioijmjiaa
open Go Ax
open Go.Proofs
theorem f12b:Try.f12.body=some (Qc Try.prog 12):=by kernel_rfl
theorem u12 {a c k:List AV} {r:AV} (h:Pure Try.prog 12 (a++c++k) r):Qe Try.prog (.clos 12 a k) c r:=Qo Try.func12 (by kernel_rfl) f12b h
def f12K0 (P:Program):List Item:=kAt 400 [.code (Qc P 12)] [.b false,.stop]
def f12S0 (r:Rg) (i:Nat):St:=⟨([J,.ptr 0 0 0,J,.int .i64 (i:Int)]++Js 24),[⟨true,0,1,true,[.rsl (rowS r.seats) 0 r.seats.length,.rsl (rowP r.feet) 0 r.feet.length,.int .i64 r.frame,.int .i64 r.c.x,.int .i64 r.c.y,.int .i64 r.c.z,.int .i64 r.empty,.int .i64 r.full],false⟩]⟩
def f12G0 (E:Env) (r:Rg) (i:Nat):Prop:=G Try.prog E (f12K0 Try.prog) (f12S0 r i )
theorem p12_start_0 (r:Rg) {E:Env} {res:AV} (hE:Qd Try.prog 12 res E) (ho:AllP [(decide ((r.seats.length:Int) > 25))=true,true=true])
 (hr:AvLe (.bool true) res):G Try.prog E [.code (Qc Try.prog 12)] ⟨[.agg [.rsl (rowS r.seats) 0 r.seats.length,.rsl (rowP r.feet) 0 r.feet.length,.int .i64 r.frame,.int .i64 r.c.x,.int .i64 r.c.y,.int .i64 r.c.z,.int .i64 r.empty,.int .i64 r.full]]++unds (Try.f12.ntmps - 1),[]⟩ :=
 Qb (n:=400) (evs:=[.b true,.b true]) (obs:=_) hE Try.func12 Qi (by kernel_rfl) ho hr
theorem p12_start_1 (r:Rg) {E:Env} {res:AV} (hE:Qd Try.prog 12 res E) (ho:AllP [(decide ((r.seats.length:Int) > 25))=false,(decide ((r.feet.length:Int) > 12))=true])
 (hr:AvLe (.bool true) res):G Try.prog E [.code (Qc Try.prog 12)] ⟨[.agg [.rsl (rowS r.seats) 0 r.seats.length,.rsl (rowP r.feet) 0 r.feet.length,.int .i64 r.frame,.int .i64 r.c.x,.int .i64 r.c.y,.int .i64 r.c.z,.int .i64 r.empty,.int .i64 r.full]]++unds (Try.f12.ntmps - 1),[]⟩ :=
 Qb (n:=400) (evs:=[.b false,.b true]) (obs:=_) hE Try.func12 Qi (by kernel_rfl) ho hr
theorem p12_start_2 (r:Rg) {E:Env} {rv:AV} (hE:Qd Try.prog 12 rv E) (ho:AllP [(decide ((r.seats.length:Int) > 25))=false,(decide ((r.feet.length:Int) > 12))=false])
 (hg:G Try.prog E (f12K0 Try.prog) ⟨([J,.ptr 0 0 0,J,.int .i64 0]++Js 24),[⟨true,0,1,true,[.rsl (rowS r.seats) 0 r.seats.length,.rsl (rowP r.feet) 0 r.feet.length,.int .i64 r.frame,.int .i64 r.c.x,.int .i64 r.c.y,.int .i64 r.c.z,.int .i64 r.empty,.int .i64 r.full],false⟩]⟩):G Try.prog E [.code (Qc Try.prog 12)] ⟨[.agg [.rsl (rowS r.seats) 0 r.seats.length,.rsl (rowP r.feet) 0 r.feet.length,.int .i64 r.frame,.int .i64 r.c.x,.int .i64 r.c.y,.int .i64 r.c.z,.int .i64 r.empty,.int .i64 r.full]]++unds (Try.f12.ntmps - 1),[]⟩ :=
 Ql (n:=400) (ds:=[]) (cs:=[]) (live:=[1,3]) (m:=1) (evs:=[.b false,.b false,.stop]) (obs:=_) hE.2.1 (hE.nogh _) Qi (by kernel_rfl) ho hg
theorem f12W (r:Rg) {E:Env} {rv:Bool} (hE:Qd Try.prog 12 (.bool rv) E)
 (h:(((r.seats.length:Int) > 25→rv=true)∧(¬ ((r.seats.length:Int) > 25)→(((r.feet.length:Int) > 12→rv=true)∧(¬ ((r.feet.length:Int) > 12)→f12G0 E r 0))))):G Try.prog E [.code (Qc Try.prog 12)] ⟨[.agg [.rsl (rowS r.seats) 0 r.seats.length,.rsl (rowP r.feet) 0 r.feet.length,.int .i64 r.frame,.int .i64 r.c.x,.int .i64 r.c.y,.int .i64 r.c.z,.int .i64 r.empty,.int .i64 r.full]]++unds (Try.f12.ntmps - 1),[]⟩:=by
 rcases bft (decide ((r.seats.length:Int) > 25)) with hc0 | hc0
 · have h:=h.1 (odt hc0)
   exact p12_start_0 r hE ⟨hc0,rfl,trivial⟩ (AvLe.of_eq (by rw [h]; try rfl))
 · have h:=h.2 (odf hc0)
   rcases bft (decide ((r.feet.length:Int) > 12)) with hc1 | hc1
   · have h:=h.1 (odt hc1)
     exact p12_start_1 r hE ⟨hc0,hc1,trivial⟩ (AvLe.of_eq (by rw [h]; try rfl))
   · have h:=h.2 (odf hc1)
     exact p12_start_2 r hE ⟨hc0,hc1,trivial⟩ h
theorem p12_0_0 (r:Rg) (i:Nat) (le:(List Pt)) {E:Env} {res:AV} (hE:Qd Try.prog 12 res E) (ho:AllP [(decide ((i:Int)<(r.seats.length:Int)))=true,0≤(i:Int)∧(i:Int)<(r.seats.length:Int),((rowS r.seats).drop (0+(Int.toNat (i:Int))*1)).take 1=[.rsl (rowP le) 0 le.length],(decide ((le.length:Int) > 70))=true])
 (hr:AvLe (.bool true) res):G Try.prog E (f12K0 Try.prog) (f12S0 r i ) :=
 Qb (n:=400) (evs:=[.b true,.auto,.ld (.rsl (rowP le) 0 le.length),.b true]) (obs:=_) hE Try.func12 Qi (by kernel_rfl) ho hr
theorem p12_0_1 (r:Rg) (i:Nat) (le:(List Pt)) {E:Env} {rv:AV} (hE:Qd Try.prog 12 rv E) (ho:AllP [(decide ((i:Int)<(r.seats.length:Int)))=true,0≤(i:Int)∧(i:Int)<(r.seats.length:Int),((rowS r.seats).drop (0+(Int.toNat (i:Int))*1)).take 1=[.rsl (rowP le) 0 le.length],(decide ((le.length:Int) > 70))=false,InR .i64 ((i:Int)+1)])
 (hg:G Try.prog E (f12K0 Try.prog) ⟨([J,.ptr 0 0 0,J,.int .i64 ((i:Int)+1)]++Js 24),[⟨true,0,1,true,[.rsl (rowS r.seats) 0 r.seats.length,.rsl (rowP r.feet) 0 r.feet.length,.int .i64 r.frame,.int .i64 r.c.x,.int .i64 r.c.y,.int .i64 r.c.z,.int .i64 r.empty,.int .i64 r.full],false⟩]⟩):G Try.prog E (f12K0 Try.prog) (f12S0 r i ) :=
 Ql (n:=400) (ds:=[]) (cs:=[]) (live:=[1,3]) (m:=1) (evs:=[.b true,.auto,.ld (.rsl (rowP le) 0 le.length),.b false,.stop]) (obs:=_) hE.2.1 (hE.nogh _) Qi (by kernel_rfl) ho hg
theorem p12_0_2 (r:Rg) (i:Nat) {E:Env} {res:AV} (hE:Qd Try.prog 12 res E) (ho:AllP [(decide ((i:Int)<(r.seats.length:Int)))=false])
 (hr:AvLe (.bool false) res):G Try.prog E (f12K0 Try.prog) (f12S0 r i ) :=
 Qb (n:=400) (evs:=[.b false]) (obs:=_) hE Try.func12 Qi (by kernel_rfl) ho hr
theorem f12W0 (r:Rg) (i:Nat) {E:Env} {rv:Bool} (hE:Qd Try.prog 12 (.bool rv) E)
 (h:(((i:Int)<(r.seats.length:Int)→(∃ le:(List Pt),r.seats[i]?=some le∧(((le.length:Int) > 70→rv=true)∧(¬ ((le.length:Int) > 70)→((I6 ((i:Int)+1))∧f12G0 E r (i+1))))))∧(¬ ((i:Int)<(r.seats.length:Int))→rv=false))):f12G0 E r i:=by
 rcases bft (decide ((i:Int)<(r.seats.length:Int))) with hc0 | hc0
 · have h:=h.1 (odt hc0)
   obtain ⟨le,h1,h⟩:=h
   rcases bft (decide ((le.length:Int) > 70)) with hc1 | hc1
   · have h:=h.1 (odt hc1)
     exact p12_0_0 r i le hE ⟨hc0,(Qr h1),(XW (fun s:List Pt=>[AV.rsl (rowP s) 0 s.length]) (s:=1) (k:=0) (m:=1) (fun _=>rfl) (by decide) h1),hc1,trivial⟩ (AvLe.of_eq (by rw [h]; try rfl))
   · have h:=h.2 (odf hc1)
     obtain ⟨q5_2,h⟩:=h
     exact p12_0_1 r i le hE ⟨hc0,(Qr h1),(XW (fun s:List Pt=>[AV.rsl (rowP s) 0 s.length]) (s:=1) (k:=0) (m:=1) (fun _=>rfl) (by decide) h1),hc1,q5_2,trivial⟩ h
 · have h:=h.2 (odf hc0)
   exact p12_0_2 r i hE ⟨hc0,trivial⟩ (AvLe.of_eq (by rw [h]; try rfl))
theorem f15b:Try.f15.body=some (Qc Try.prog 15):=by kernel_rfl
theorem u15 {a c k:List AV} {r:AV} (h:Pure Try.prog 15 (a++c++k) r):Qe Try.prog (.clos 15 a k) c r:=Qo Try.func15 (by kernel_rfl) f15b h
def f15K0 (P:Program):List Item:=kAt 400 [.code (Qc P 15)] [.stop]
def f15S0 (r:Rg) (i:Nat) (v4:List (List Pt)) (g4:Nat):St:=⟨([J,.ptr 0 0 0,.ptr 1 0 0,.ptr 2 0 0,.int .i64 (i:Int)]++Js 27),[⟨true,0,1,true,[.rsl (rowS r.seats) 0 r.seats.length,.rsl (rowP r.feet) 0 r.feet.length,.int .i64 r.frame,.int .i64 r.c.x,.int .i64 r.c.y,.int .i64 r.c.z,.int .i64 r.empty,.int .i64 r.full],false⟩,⟨true,0,1,true,[.nilSl,.nilSl,.int .i64 0,.int .i64 0,.int .i64 0,.int .i64 0,.int .i64 0,.int .i64 0],false⟩,⟨true,0,1,false,[.sl 4 g4 0 v4.length 1,.rsl (rowP r.feet) 0 (0+r.feet.length),.int .i64 r.frame,.int .i64 r.c.x,.int .i64 r.c.y,.int .i64 r.c.z,.int .i64 r.empty,.int .i64 r.full],false⟩,⟨false,2,3,true,[],false⟩,⟨true,g4,1,true,(rowS v4),true⟩]⟩
def f15G0 (E:Env) (r:Rg) (i:Nat) (v4:List (List Pt)):Prop:=∀ g4:Nat,G Try.prog E (f15K0 Try.prog) (f15S0 r i v4 g4)
theorem p15_start_0 (r:Rg) {E:Env} {rv:AV} (hE:Qd Try.prog 15 rv E) (ho:AllP [8≤8,1=1,0=0,0=0,(0+r.feet.length)≤2147483648,((rowP r.feet).drop 0).take (r.feet.length*3)=(rowP r.feet),(rowP r.feet).length=(r.feet.length*3),noRefs (rowP r.feet)=true,2≤8,1≤8])
 (hg:G Try.prog E (f15K0 Try.prog) ⟨([J,.ptr 0 0 0,.ptr 1 0 0,.ptr 2 0 0,.int .i64 0]++Js 27),[⟨true,0,1,true,[.rsl (rowS r.seats) 0 r.seats.length,.rsl (rowP r.feet) 0 r.feet.length,.int .i64 r.frame,.int .i64 r.c.x,.int .i64 r.c.y,.int .i64 r.c.z,.int .i64 r.empty,.int .i64 r.full],false⟩,⟨true,0,1,true,[.nilSl,.nilSl,.int .i64 0,.int .i64 0,.int .i64 0,.int .i64 0,.int .i64 0,.int .i64 0],false⟩,⟨true,0,1,false,[.sl 4 0 0 0 1,.rsl (rowP r.feet) 0 (0+r.feet.length),.int .i64 r.frame,.int .i64 r.c.x,.int .i64 r.c.y,.int .i64 r.c.z,.int .i64 r.empty,.int .i64 r.full],false⟩,⟨false,2,3,true,[],false⟩,⟨true,0,1,true,[],true⟩]⟩):G Try.prog E [.code (Qc Try.prog 15)] ⟨[.agg [.rsl (rowS r.seats) 0 r.seats.length,.rsl (rowP r.feet) 0 r.feet.length,.int .i64 r.frame,.int .i64 r.c.x,.int .i64 r.c.y,.int .i64 r.c.z,.int .i64 r.empty,.int .i64 r.full]]++unds (Try.f15.ntmps - 1),[]⟩ :=
 Ql (n:=400) (ds:=[]) (cs:=[(2,0,1)]) (live:=[1,2,3,4]) (m:=5) (evs:=[.fz,.cs (rowP r.feet),.stop]) (obs:=_) hE.2.1 (hE.nogh _) Qi (by kernel_rfl) ho hg
theorem f15W (r:Rg) {E:Env} {rv:Rg} (hE:Qd Try.prog 15 (.agg [.rsl (rowS rv.seats) 0 rv.seats.length,.rsl (rowP rv.feet) 0 rv.feet.length,.int .i64 rv.frame,.int .i64 rv.c.x,.int .i64 rv.c.y,.int .i64 rv.c.z,.int .i64 rv.empty,.int .i64 rv.full]) E)
 (h:((0+r.feet.length)≤2147483648∧f15G0 E r 0 ([]))):G Try.prog E [.code (Qc Try.prog 15)] ⟨[.agg [.rsl (rowS r.seats) 0 r.seats.length,.rsl (rowP r.feet) 0 r.feet.length,.int .i64 r.frame,.int .i64 r.c.x,.int .i64 r.c.y,.int .i64 r.c.z,.int .i64 r.empty,.int .i64 r.full]]++unds (Try.f15.ntmps - 1),[]⟩:=by
 obtain ⟨h1,h⟩:=h
 exact p15_start_0 r hE ⟨(by decide),rfl,rfl,rfl,h1,(by exact yG cP (fun _=>rfl) r.feet),(by exact XJ cP (fun _=>rfl) r.feet),(by exact YR cP (fun _=>rfl) r.feet),(by decide),(by decide),trivial⟩ (h 0)
theorem p15_0_0 (r:Rg) (i:Nat) (v4:List (List Pt)) (g4:Nat) (le:(List Pt)) {E:Env} {rv:AV} (hE:Qd Try.prog 15 rv E) (ho:AllP [(decide ((i:Int)<(r.seats.length:Int)))=true,0≤(i:Int)∧(i:Int)<(r.seats.length:Int),((rowS r.seats).drop (0+(Int.toNat (i:Int))*1)).take 1=[.rsl (rowP le) 0 le.length],1=1,0=0,0=0,(0+le.length)≤2147483648,((rowP le).drop 0).take (le.length*3)=(rowP le),(rowP le).length=(le.length*3),noRefs (rowP le)=true,g4=g4,(0+(v4.length*1))=(rowS v4).length,(v4.length+1)≤2147483648,0=0,1≤8,InR .i64 ((i:Int)+1)])
 (hg:G Try.prog E (f15K0 Try.prog) ⟨([J,.ptr 0 0 0,.ptr 1 0 0,.ptr 2 0 0,.int .i64 ((i:Int)+1)]++Js 27),[⟨true,0,1,true,[.rsl (rowS r.seats) 0 r.seats.length,.rsl (rowP r.feet) 0 r.feet.length,.int .i64 r.frame,.int .i64 r.c.x,.int .i64 r.c.y,.int .i64 r.c.z,.int .i64 r.empty,.int .i64 r.full],false⟩,⟨true,0,1,true,[.nilSl,.nilSl,.int .i64 0,.int .i64 0,.int .i64 0,.int .i64 0,.int .i64 0,.int .i64 0],false⟩,⟨true,0,1,false,[.sl 4 (g4+1) 0 (v4.length+1) 1,.rsl (rowP r.feet) 0 (0+r.feet.length),.int .i64 r.frame,.int .i64 r.c.x,.int .i64 r.c.y,.int .i64 r.c.z,.int .i64 r.empty,.int .i64 r.full],false⟩,⟨false,2,3,true,[],false⟩,⟨true,(g4+1),1,true,((rowS v4)++[.rsl (rowP le) 0 (0+le.length)]),true⟩]⟩):G Try.prog E (f15K0 Try.prog) (f15S0 r i v4 g4) :=
 Ql (n:=400) (ds:=[]) (cs:=[]) (live:=[1,2,3,4]) (m:=5) (evs:=[.b true,.auto,.auto,.ld (.rsl (rowP le) 0 le.length),.fz,.cs (rowP le),.stop]) (obs:=_) hE.2.1 (hE.nogh _) Qi (by kernel_rfl) ho hg
theorem p15_0_1 (r:Rg) (i:Nat) (v4:List (List Pt)) (g4:Nat) {E:Env} {res:AV} (hE:Qd Try.prog 15 res E) (ho:AllP [(decide ((i:Int)<(r.seats.length:Int)))=false,8≤8,g4=g4])
 (hr:AvLe (.agg [.rsl (rowS v4) 0 v4.length,.rsl (rowP r.feet) 0 (0+r.feet.length),.int .i64 r.frame,.int .i64 r.c.x,.int .i64 r.c.y,.int .i64 r.c.z,.int .i64 r.empty,.int .i64 r.full]) res):G Try.prog E (f15K0 Try.prog) (f15S0 r i v4 g4) :=
 Qb (n:=400) (evs:=[.b false]) (obs:=_) hE Try.func15 Qi (by kernel_rfl) ho hr
theorem f15W0 (r:Rg) (i:Nat) (v4:List (List Pt)) {E:Env} {rv:Rg} (hE:Qd Try.prog 15 (.agg [.rsl (rowS rv.seats) 0 rv.seats.length,.rsl (rowP rv.feet) 0 rv.feet.length,.int .i64 rv.frame,.int .i64 rv.c.x,.int .i64 rv.c.y,.int .i64 rv.c.z,.int .i64 rv.empty,.int .i64 rv.full]) E)
 (h:(((i:Int)<(r.seats.length:Int)→(∃ le:(List Pt),r.seats[i]?=some le∧((0+le.length)≤2147483648∧((v4.length+1)≤2147483648∧((I6 ((i:Int)+1))∧f15G0 E r (i+1) (v4++[le]))))))∧(¬ ((i:Int)<(r.seats.length:Int))→rv=(⟨v4,r.feet,r.frame,r.c,r.empty,r.full⟩:Rg)))):f15G0 E r i v4:=by
 intro g4
 rcases bft (decide ((i:Int)<(r.seats.length:Int))) with hc0 | hc0
 · have h:=h.1 (odt hc0)
   obtain ⟨le,h1,h⟩:=h
   obtain ⟨h2,h⟩:=h
   obtain ⟨h3,h⟩:=h
   obtain ⟨q16_1,h⟩:=h
   refine p15_0_0 r i v4 g4 le hE ⟨hc0,(Qr h1),(XW (fun s:List Pt=>[AV.rsl (rowP s) 0 s.length]) (s:=1) (k:=0) (m:=1) (fun _=>rfl) (by decide) h1),rfl,rfl,rfl,h2,(by exact yG cP (fun _=>rfl) le),(by exact XJ cP (fun _=>rfl) le),(by exact YR cP (fun _=>rfl) le),rfl,(by have hx:=XJ (fun s:List Pt=>[AV.rsl (rowP s) 0 s.length]) (s:=1) (fun _=>rfl) v4; simp only [rowS] at hx ⊢; rw [hx]; simp),h3,rfl,(by decide),q16_1,trivial⟩ ?_
   rw [(show rowS v4++[.rsl (rowP le) 0 (0+le.length)]=rowS (v4++[le]) from (by rw [(show AV.rsl (rowP le) 0 (0+le.length)=AV.rsl (rowP le) 0 le.length from by rw [show (0+le.length)=le.length from by simp])]; exact (row_app (fun s:List Pt=>[AV.rsl (rowP s) 0 s.length]) v4 [le]).symm))]; rw [(show (v4.length+1)=(v4++[le]).length from by simp)]; exact (h (g4+1))
 · have h:=h.2 (odf hc0)
   exact p15_0_1 r i v4 g4 hE ⟨hc0,(by decide),rfl,trivial⟩ (AvLe.of_eq (by rw [h]; rw [(show AV.rsl (rowP r.feet) 0 (0+r.feet.length)=AV.rsl (rowP r.feet) 0 r.feet.length from by rw [show (0+r.feet.length)=r.feet.length from by simp])]; try rfl))
theorem line_feet {r:Rg} {v:Nat} (h:v<r.feet.length):r.feet[v]?=some (QI r v).1∧r.feet[(v+1) % r.feet.length]?=some (QI r v).2:=by
 have hg:=Yx h
 unfold Qh at hg
 rw [List.getElem?_map] at hg
 have e:(List.range' 0 r.feet.length)[v]?=some v:=by simp [h]
 rw [e] at hg
 simp only [Option.map_some,Option.some.injEq] at hg
 have h2:(v+1) % r.feet.length<r.feet.length:=Nat.mod_lt _ (by omega)
 rw [← hg]
 simp [List.getD,h,h2]
theorem tmod_next {i n:Nat} (h:0<n):Int.tmod ((i:Int)+1) (n:Int)=(((i+1) % n:Nat):Int):=by
 rw [Int.tmod_eq_emod_of_nonneg (by omega)]; rfl
def farB (r:Rg):Bool:=decide (r.seats.length > 25) || (decide (r.feet.length > 12) || r.seats.any fun s=>decide (s.length > 70))
theorem Far_ok (r:Rg):Pure Try.prog 12 [.agg [.rsl (rowS r.seats) 0 r.seats.length,.rsl (rowP r.feet) 0 r.feet.length,.int .i64 r.frame,.int .i64 r.c.x,.int .i64 r.c.y,.int .i64 r.c.z,.int .i64 r.empty,.int .i64 r.full]] (.bool (farB r)):=Qy Try.func12 f12b fun E hE=>by
 refine f12W r hE ⟨fun h=>?_,fun h=>⟨fun h'=>?_,fun h'=>?_⟩⟩
 · have:r.seats.length > 25:=by omega
   simp [farB,this]
 · have:r.feet.length > 12:=by omega
   simp [farB,this]
 · have h1:¬ r.seats.length > 25:=by omega
   have h2:¬ r.feet.length > 12:=by omega
   have key:∀ (d i:Nat),i+d=r.seats.length→farB r=((r.seats.drop i).any fun s=>decide (s.length > 70))→f12G0 E r i:=by
    intro d
    induction d with
    | zero =>
     intro i hd hf
     refine f12W0 r i hE ⟨fun h=>by omega,fun _=>?_⟩
     rw [hf,List.drop_eq_nil_of_le (by omega)]; rfl
    | succ d ih =>
     intro i hd hf
     have hi:i<r.seats.length:=by omega
     rw [List.drop_eq_getElem_cons hi,List.any_cons] at hf
     refine f12W0 r i hE ⟨fun _=>⟨r.seats[i],by simp [hi],fun h3=>?_,fun h3=>⟨by omega,ih (i+1) (by omega) ?_⟩⟩,fun h=>by omega⟩
     · have:r.seats[i].length > 70:=by omega
       rw [hf]; simp [this]
     · have:¬ r.seats[i].length > 70:=by omega
       rw [hf]; simp [this]
   exact key r.seats.length 0 (by omega) (by simp [farB,h1,h2])
theorem far_small {r:Rg} (h:farB r=false):RigSmall r:=by
 simp only [farB,Bool.or_eq_false_iff,decide_eq_false_iff_not,List.any_eq_false,decide_eq_true_eq] at h
 exact ⟨by omega,by omega,fun s hs=>by have:=h.2.2 s hs; omega⟩
theorem Copy_ok (r:Rg) (h:RigSmall r):Pure Try.prog 15 [.agg [.rsl (rowS r.seats) 0 r.seats.length,.rsl (rowP r.feet) 0 r.feet.length,.int .i64 r.frame,.int .i64 r.c.x,.int .i64 r.c.y,.int .i64 r.c.z,.int .i64 r.empty,.int .i64 r.full]]
 (.agg [.rsl (rowS r.seats) 0 r.seats.length,.rsl (rowP r.feet) 0 r.feet.length,.int .i64 r.frame,.int .i64 r.c.x,.int .i64 r.c.y,.int .i64 r.c.z,.int .i64 r.empty,.int .i64 r.full]):=Qy Try.func15 f15b fun E hE=>by
 have hs:=h.seats
 have hf:=h.feet
 have key:∀ (d i:Nat),i+d=r.seats.length→f15G0 E r i (r.seats.take i):=by
  intro d
  induction d with
  | zero =>
   intro i hd
   refine f15W0 r i _ (rv:=r) hE ⟨fun h=>by omega,fun _=>?_⟩
   rw [List.take_of_length_le (by omega)]
  | succ d ih =>
   intro i hd
   have hi:r.seats[i]?=some r.seats[i]:=by simp [show i<r.seats.length by omega]
   have hl:=h.each _ (List.mem_of_getElem? hi)
   refine f15W0 r i _ (rv:=r) hE ⟨fun _=>⟨_,hi,by omega,by rw [List.length_take]; omega,by omega,?_⟩,fun h=>by omega⟩
   have:=ih (i+1) (by omega)
   rw [List.take_add_one,hi] at this
   exact this
 exact f15W r (rv:=r) hE ⟨by omega,key r.seats.length 0 (by omega)⟩
end Go.Proofs.Ytemklbioijmjiaa
namespace Go.Proofs.Ytemklbioijmjiaa
open Go Ax
open Go.Proofs
def Xb (r:Rg):Int:=if Xv r=true then 0 else 33
/-! ### CheckRig,Moment,Bears,Least -/
theorem f16b:Try.f16.body=some (Qc Try.prog 16):=by kernel_rfl
theorem u16 {a c k:List AV} {r:AV} (h:Pure Try.prog 16 (a++c++k) r):Qe Try.prog (.clos 16 a k) c r:=Qo Try.func16 (by kernel_rfl) f16b h
theorem p16_start_0 (r:Rg) {E:Env} {res:AV} (hE:Qd Try.prog 16 res E) (ho:AllP [Qe Try.prog (.clos 51 [] []) [.agg [.rsl (rowS r.seats) 0 r.seats.length,.rsl (rowP r.feet) 0 r.feet.length,.int .i64 r.frame,.int .i64 r.c.x,.int .i64 r.c.y,.int .i64 r.c.z,.int .i64 r.empty,.int .i64 r.full]] (.tup [.rptr [.rsl (rowS r.seats) 0 r.seats.length,.rsl (rowP r.feet) 0 r.feet.length,.int .i64 r.frame,.int .i64 r.c.x,.int .i64 r.c.y,.int .i64 r.c.z,.int .i64 r.empty,.int .i64 r.full,.rsl (QT (Qh r.feet)) 0 ((Qh r.feet).length),.int .i64 (Qu r)] 0,.bool true]),false=false])
 (hr:AvLe (.int .i64 0) res):G Try.prog E [.code (Qc Try.prog 16)] ⟨[.agg [.rsl (rowS r.seats) 0 r.seats.length,.rsl (rowP r.feet) 0 r.feet.length,.int .i64 r.frame,.int .i64 r.c.x,.int .i64 r.c.y,.int .i64 r.c.z,.int .i64 r.empty,.int .i64 r.full]]++unds (Try.f16.ntmps - 1),[]⟩ :=
 Qb (n:=400) (evs:=[.v (.tup [.rptr [.rsl (rowS r.seats) 0 r.seats.length,.rsl (rowP r.feet) 0 r.feet.length,.int .i64 r.frame,.int .i64 r.c.x,.int .i64 r.c.y,.int .i64 r.c.z,.int .i64 r.empty,.int .i64 r.full,.rsl (QT (Qh r.feet)) 0 ((Qh r.feet).length),.int .i64 (Qu r)] 0,.bool true]),.b false]) (obs:=_) hE Try.func16 Qi (by kernel_rfl) ho hr
theorem p16_start_1 (r:Rg) {E:Env} {res:AV} (hE:Qd Try.prog 16 res E) (ho:AllP [Qe Try.prog (.clos 51 [] []) [.agg [.rsl (rowS r.seats) 0 r.seats.length,.rsl (rowP r.feet) 0 r.feet.length,.int .i64 r.frame,.int .i64 r.c.x,.int .i64 r.c.y,.int .i64 r.c.z,.int .i64 r.empty,.int .i64 r.full]] (.tup [.rptr [.rsl (rowS r.seats) 0 r.seats.length,.rsl (rowP r.feet) 0 r.feet.length,.int .i64 r.frame,.int .i64 r.c.x,.int .i64 r.c.y,.int .i64 r.c.z,.int .i64 r.empty,.int .i64 r.full,.rsl (QT (Qh r.feet)) 0 ((Qh r.feet).length),.int .i64 (Qu r)] 0,.bool false]),true=true])
 (hr:AvLe (.int .i64 33) res):G Try.prog E [.code (Qc Try.prog 16)] ⟨[.agg [.rsl (rowS r.seats) 0 r.seats.length,.rsl (rowP r.feet) 0 r.feet.length,.int .i64 r.frame,.int .i64 r.c.x,.int .i64 r.c.y,.int .i64 r.c.z,.int .i64 r.empty,.int .i64 r.full]]++unds (Try.f16.ntmps - 1),[]⟩ :=
 Qb (n:=400) (evs:=[.v (.tup [.rptr [.rsl (rowS r.seats) 0 r.seats.length,.rsl (rowP r.feet) 0 r.feet.length,.int .i64 r.frame,.int .i64 r.c.x,.int .i64 r.c.y,.int .i64 r.c.z,.int .i64 r.empty,.int .i64 r.full,.rsl (QT (Qh r.feet)) 0 ((Qh r.feet).length),.int .i64 (Qu r)] 0,.bool false]),.b true]) (obs:=_) hE Try.func16 Qi (by kernel_rfl) ho hr
theorem p16_start_2 (r:Rg) {E:Env} {res:AV} (hE:Qd Try.prog 16 res E) (ho:AllP [Qe Try.prog (.clos 51 [] []) [.agg [.rsl (rowS r.seats) 0 r.seats.length,.rsl (rowP r.feet) 0 r.feet.length,.int .i64 r.frame,.int .i64 r.c.x,.int .i64 r.c.y,.int .i64 r.c.z,.int .i64 r.empty,.int .i64 r.full]] (.tup [.nilPtr,.bool false]),true=true])
 (hr:AvLe (.int .i64 33) res):G Try.prog E [.code (Qc Try.prog 16)] ⟨[.agg [.rsl (rowS r.seats) 0 r.seats.length,.rsl (rowP r.feet) 0 r.feet.length,.int .i64 r.frame,.int .i64 r.c.x,.int .i64 r.c.y,.int .i64 r.c.z,.int .i64 r.empty,.int .i64 r.full]]++unds (Try.f16.ntmps - 1),[]⟩ :=
 Qb (n:=400) (evs:=[.v (.tup [.nilPtr,.bool false]),.b true]) (obs:=_) hE Try.func16 Qi (by kernel_rfl) ho hr
theorem f16W (r:Rg) {E:Env} {rv:Int} (hE:Qd Try.prog 16 (.int .i64 rv) E)
 (h:(((Xv r)=true→((RigSmall r)∧rv=0))∧((Xv r)=false→(((Xt r)=true→((RigSmall r)∧rv=33))∧((Xt r)=false→((RigSmall r)∧rv=33)))))):G Try.prog E [.code (Qc Try.prog 16)] ⟨[.agg [.rsl (rowS r.seats) 0 r.seats.length,.rsl (rowP r.feet) 0 r.feet.length,.int .i64 r.frame,.int .i64 r.c.x,.int .i64 r.c.y,.int .i64 r.c.z,.int .i64 r.empty,.int .i64 r.full]]++unds (Try.f16.ntmps - 1),[]⟩:=by
 rcases bft (Xv r) with hc0 | hc0
 · have h:=h.1 hc0
   obtain ⟨h1,h⟩:=h
   exact p16_start_0 r hE ⟨(by have hx:=Xw r h1; rw [hc0,Vk hc0] at hx; exact Qo Try.func51 (by kernel_rfl) f51b hx),rfl,trivial⟩ (AvLe.of_eq (by rw [h]; try rfl))
 · have h:=h.2 hc0
   rcases bft (Xt r) with hc1 | hc1
   · have h:=h.1 hc1
     obtain ⟨h1,h⟩:=h
     exact p16_start_1 r hE ⟨(by have hx:=Xw r h1; rw [hc0,Vy hc1] at hx; exact Qo Try.func51 (by kernel_rfl) f51b hx),rfl,trivial⟩ (AvLe.of_eq (by rw [h]; try rfl))
   · have h:=h.2 hc1
     obtain ⟨h1,h⟩:=h
     exact p16_start_2 r hE ⟨(by have hx:=Xw r h1; rw [hc0,Vz hc1] at hx; exact Qo Try.func51 (by kernel_rfl) f51b hx),rfl,trivial⟩ (AvLe.of_eq (by rw [h]; try rfl))
theorem WE (r:Rg) (hs:RigSmall r):Pure Try.prog 16 [.agg [.rsl (rowS r.seats) 0 r.seats.length,.rsl (rowP r.feet) 0 r.feet.length,.int .i64 r.frame,.int .i64 r.c.x,.int .i64 r.c.y,.int .i64 r.c.z,.int .i64 r.empty,.int .i64 r.full]] (.int .i64 (Xb r)):=Qy Try.func16 f16b fun E hE =>
 f16W r (rv:=Xb r) hE ⟨fun h=>⟨hs,by simp [Xb,h]⟩,fun h=>⟨fun _=>⟨hs,by simp [Xb,h]⟩,fun _=>⟨hs,by simp [Xb,h]⟩⟩⟩
theorem check_made {r:Rg} (h:Xb r=0):Xv r=true:=by
 unfold Xb at h
 split at h
 · assumption
 · cases h
theorem f18b:Try.f18.body=some (Qc Try.prog 18):=by kernel_rfl
theorem u18 {a c k:List AV} {r:AV} (h:Pure Try.prog 18 (a++c++k) r):Qe Try.prog (.clos 18 a k) c r:=Qo Try.func18 (by kernel_rfl) f18b h
theorem p18_start_0 (r:Rg) (s:Int) {E:Env} {res:AV} (hE:Qd Try.prog 18 res E) (ho:AllP [Qe Try.prog (.clos 51 [] []) [.agg [.rsl (rowS r.seats) 0 r.seats.length,.rsl (rowP r.feet) 0 r.feet.length,.int .i64 r.frame,.int .i64 r.c.x,.int .i64 r.c.y,.int .i64 r.c.z,.int .i64 r.empty,.int .i64 r.full]] (.tup [.rptr [.rsl (rowS r.seats) 0 r.seats.length,.rsl (rowP r.feet) 0 r.feet.length,.int .i64 r.frame,.int .i64 r.c.x,.int .i64 r.c.y,.int .i64 r.c.z,.int .i64 r.empty,.int .i64 r.full,.rsl (QT (Qh r.feet)) 0 ((Qh r.feet).length),.int .i64 (Qu r)] 0,.bool true]),false=false,(decide (s<0))=true])
 (hr:AvLe (.tup [.bool false,.int .i64 1]) res):G Try.prog E [.code (Qc Try.prog 18)] ⟨[.agg [.rsl (rowS r.seats) 0 r.seats.length,.rsl (rowP r.feet) 0 r.feet.length,.int .i64 r.frame,.int .i64 r.c.x,.int .i64 r.c.y,.int .i64 r.c.z,.int .i64 r.empty,.int .i64 r.full],.int .i64 s]++unds (Try.f18.ntmps - 2),[]⟩ :=
 Qb (n:=400) (evs:=[.v (.tup [.rptr [.rsl (rowS r.seats) 0 r.seats.length,.rsl (rowP r.feet) 0 r.feet.length,.int .i64 r.frame,.int .i64 r.c.x,.int .i64 r.c.y,.int .i64 r.c.z,.int .i64 r.empty,.int .i64 r.full,.rsl (QT (Qh r.feet)) 0 ((Qh r.feet).length),.int .i64 (Qu r)] 0,.bool true]),.b false,.b true]) (obs:=_) hE Try.func18 Qi (by kernel_rfl) ho hr
theorem p18_start_1 (r:Rg) (s:Int) {E:Env} {res:AV} (hE:Qd Try.prog 18 res E) (ho:AllP [Qe Try.prog (.clos 51 [] []) [.agg [.rsl (rowS r.seats) 0 r.seats.length,.rsl (rowP r.feet) 0 r.feet.length,.int .i64 r.frame,.int .i64 r.c.x,.int .i64 r.c.y,.int .i64 r.c.z,.int .i64 r.empty,.int .i64 r.full]] (.tup [.rptr [.rsl (rowS r.seats) 0 r.seats.length,.rsl (rowP r.feet) 0 r.feet.length,.int .i64 r.frame,.int .i64 r.c.x,.int .i64 r.c.y,.int .i64 r.c.z,.int .i64 r.empty,.int .i64 r.full,.rsl (QT (Qh r.feet)) 0 ((Qh r.feet).length),.int .i64 (Qu r)] 0,.bool true]),false=false,(decide (s<0))=false,InR .i64 (r.full*(r.seats.length:Int)),InR .i64 (r.frame+(r.full*(r.seats.length:Int))),InR .i64 ((r.frame+(r.full*(r.seats.length:Int)))+(r.feet.length:Int)),InR .i64 (((r.frame+(r.full*(r.seats.length:Int)))+(r.feet.length:Int)) - 1),InR .i64 (Int.tdiv (((r.frame+(r.full*(r.seats.length:Int)))+(r.feet.length:Int)) - 1) (r.feet.length:Int)),(r.feet.length:Int) ≠ 0])
 (hr:AvLe (.tup [.bool (decide ((Int.tdiv (((r.frame+(r.full*(r.seats.length:Int)))+(r.feet.length:Int)) - 1) (r.feet.length:Int))≤s)),.int .i64 0]) res):G Try.prog E [.code (Qc Try.prog 18)] ⟨[.agg [.rsl (rowS r.seats) 0 r.seats.length,.rsl (rowP r.feet) 0 r.feet.length,.int .i64 r.frame,.int .i64 r.c.x,.int .i64 r.c.y,.int .i64 r.c.z,.int .i64 r.empty,.int .i64 r.full],.int .i64 s]++unds (Try.f18.ntmps - 2),[]⟩ :=
 Qb (n:=400) (evs:=[.v (.tup [.rptr [.rsl (rowS r.seats) 0 r.seats.length,.rsl (rowP r.feet) 0 r.feet.length,.int .i64 r.frame,.int .i64 r.c.x,.int .i64 r.c.y,.int .i64 r.c.z,.int .i64 r.empty,.int .i64 r.full,.rsl (QT (Qh r.feet)) 0 ((Qh r.feet).length),.int .i64 (Qu r)] 0,.bool true]),.b false,.b false]) (obs:=_) hE Try.func18 Qi (by kernel_rfl) ho hr
theorem p18_start_2 (r:Rg) (s:Int) {E:Env} {res:AV} (hE:Qd Try.prog 18 res E) (ho:AllP [Qe Try.prog (.clos 51 [] []) [.agg [.rsl (rowS r.seats) 0 r.seats.length,.rsl (rowP r.feet) 0 r.feet.length,.int .i64 r.frame,.int .i64 r.c.x,.int .i64 r.c.y,.int .i64 r.c.z,.int .i64 r.empty,.int .i64 r.full]] (.tup [.rptr [.rsl (rowS r.seats) 0 r.seats.length,.rsl (rowP r.feet) 0 r.feet.length,.int .i64 r.frame,.int .i64 r.c.x,.int .i64 r.c.y,.int .i64 r.c.z,.int .i64 r.empty,.int .i64 r.full,.rsl (QT (Qh r.feet)) 0 ((Qh r.feet).length),.int .i64 (Qu r)] 0,.bool false]),true=true])
 (hr:AvLe (.tup [.bool false,.int .i64 33]) res):G Try.prog E [.code (Qc Try.prog 18)] ⟨[.agg [.rsl (rowS r.seats) 0 r.seats.length,.rsl (rowP r.feet) 0 r.feet.length,.int .i64 r.frame,.int .i64 r.c.x,.int .i64 r.c.y,.int .i64 r.c.z,.int .i64 r.empty,.int .i64 r.full],.int .i64 s]++unds (Try.f18.ntmps - 2),[]⟩ :=
 Qb (n:=400) (evs:=[.v (.tup [.rptr [.rsl (rowS r.seats) 0 r.seats.length,.rsl (rowP r.feet) 0 r.feet.length,.int .i64 r.frame,.int .i64 r.c.x,.int .i64 r.c.y,.int .i64 r.c.z,.int .i64 r.empty,.int .i64 r.full,.rsl (QT (Qh r.feet)) 0 ((Qh r.feet).length),.int .i64 (Qu r)] 0,.bool false]),.b true]) (obs:=_) hE Try.func18 Qi (by kernel_rfl) ho hr
theorem p18_start_3 (r:Rg) (s:Int) {E:Env} {res:AV} (hE:Qd Try.prog 18 res E) (ho:AllP [Qe Try.prog (.clos 51 [] []) [.agg [.rsl (rowS r.seats) 0 r.seats.length,.rsl (rowP r.feet) 0 r.feet.length,.int .i64 r.frame,.int .i64 r.c.x,.int .i64 r.c.y,.int .i64 r.c.z,.int .i64 r.empty,.int .i64 r.full]] (.tup [.nilPtr,.bool false]),true=true])
 (hr:AvLe (.tup [.bool false,.int .i64 33]) res):G Try.prog E [.code (Qc Try.prog 18)] ⟨[.agg [.rsl (rowS r.seats) 0 r.seats.length,.rsl (rowP r.feet) 0 r.feet.length,.int .i64 r.frame,.int .i64 r.c.x,.int .i64 r.c.y,.int .i64 r.c.z,.int .i64 r.empty,.int .i64 r.full],.int .i64 s]++unds (Try.f18.ntmps - 2),[]⟩ :=
 Qb (n:=400) (evs:=[.v (.tup [.nilPtr,.bool false]),.b true]) (obs:=_) hE Try.func18 Qi (by kernel_rfl) ho hr
theorem f18W (r:Rg) (s:Int) {E:Env} {rv:(Bool × Int)} (hE:Qd Try.prog 18 (.tup [.bool rv.1,.int .i64 rv.2]) E)
 (h:(((Xv r)=true→((RigSmall r)∧((s<0→rv=(false,1))∧(¬ (s<0)→((I6 (r.full*(r.seats.length:Int)))∧((I6 (r.frame+(r.full*(r.seats.length:Int))))∧((I6 ((r.frame+(r.full*(r.seats.length:Int)))+(r.feet.length:Int)))∧((I6 (((r.frame+(r.full*(r.seats.length:Int)))+(r.feet.length:Int)) - 1))∧((I6 (Int.tdiv (((r.frame+(r.full*(r.seats.length:Int)))+(r.feet.length:Int)) - 1) (r.feet.length:Int)))∧((r.feet.length:Int) ≠ 0∧rv=((decide ((Int.tdiv (((r.frame+(r.full*(r.seats.length:Int)))+(r.feet.length:Int)) - 1) (r.feet.length:Int))≤s)),0)))))))))))∧((Xv r)=false→(((Xt r)=true→((RigSmall r)∧rv=(false,33)))∧((Xt r)=false→((RigSmall r)∧rv=(false,33))))))):G Try.prog E [.code (Qc Try.prog 18)] ⟨[.agg [.rsl (rowS r.seats) 0 r.seats.length,.rsl (rowP r.feet) 0 r.feet.length,.int .i64 r.frame,.int .i64 r.c.x,.int .i64 r.c.y,.int .i64 r.c.z,.int .i64 r.empty,.int .i64 r.full],.int .i64 s]++unds (Try.f18.ntmps - 2),[]⟩:=by
 rcases bft (Xv r) with hc0 | hc0
 · have h:=h.1 hc0
   obtain ⟨h1,h⟩:=h
   rcases bft (decide (s<0)) with hc1 | hc1
   · have h:=h.1 (odt hc1)
     exact p18_start_0 r s hE ⟨(by have hx:=Xw r h1; rw [hc0,Vk hc0] at hx; exact Qo Try.func51 (by kernel_rfl) f51b hx),rfl,hc1,trivial⟩ (AvLe.of_eq (by rw [h]; try rfl))
   · have h:=h.2 (odf hc1)
     obtain ⟨q4_2,h⟩:=h
     obtain ⟨q5_2,h⟩:=h
     obtain ⟨q6_2,h⟩:=h
     obtain ⟨q7_2,h⟩:=h
     obtain ⟨q8_2,h⟩:=h
     obtain ⟨q9_2,h⟩:=h
     exact p18_start_1 r s hE ⟨(by have hx:=Xw r h1; rw [hc0,Vk hc0] at hx; exact Qo Try.func51 (by kernel_rfl) f51b hx),rfl,hc1,q4_2,q5_2,q6_2,q7_2,q8_2,q9_2,trivial⟩ (AvLe.of_eq (by rw [h]; try rfl))
 · have h:=h.2 hc0
   rcases bft (Xt r) with hc1 | hc1
   · have h:=h.1 hc1
     obtain ⟨h1,h⟩:=h
     exact p18_start_2 r s hE ⟨(by have hx:=Xw r h1; rw [hc0,Vy hc1] at hx; exact Qo Try.func51 (by kernel_rfl) f51b hx),rfl,trivial⟩ (AvLe.of_eq (by rw [h]; try rfl))
   · have h:=h.2 hc1
     obtain ⟨h1,h⟩:=h
     exact p18_start_3 r s hE ⟨(by have hx:=Xw r h1; rw [hc0,Vz hc1] at hx; exact Qo Try.func51 (by kernel_rfl) f51b hx),rfl,trivial⟩ (AvLe.of_eq (by rw [h]; try rfl))
def Qm (r:Rg) (s:Int):Bool × Int :=
 if Xv r=true then (if s<0 then (false,1) else (decide (Int.tdiv (((r.frame+(r.seats.length:Int)*r.full)+(r.feet.length:Int)) - 1) (r.feet.length:Int)≤s),0)) else (false,33)
theorem Kh {r:Rg} (hm:RigMade r):0≤(r.seats.length:Int)*r.full∧(r.seats.length:Int)*r.full≤20000000 ∧
 0≤Int.tdiv (((r.frame+(r.seats.length:Int)*r.full)+(r.feet.length:Int)) - 1) (r.feet.length:Int)∧Int.tdiv (((r.frame+(r.seats.length:Int)*r.full)+(r.feet.length:Int)) - 1) (r.feet.length:Int)≤22000000:=by
 have h20:=hm.ok.seats
 have h8:=hm.ok.feet1
 have h3:=hm.ok.feet0
 have e0:=hm.ok.empty0
 have e1:=hm.ok.empty1
 have f1:=hm.ok.full1
 have fr0:=hm.ok.frame0
 have fr1:=hm.ok.frame1
 have a1:0≤(r.seats.length:Int)*r.full:=Int.mul_nonneg (by omega) (by omega)
 have a2:(r.seats.length:Int)*r.full≤20*1000000:=Int.mul_le_mul (by omega) f1 (by omega) (by omega)
 have a3:=Int.tdiv_nonneg (a:=((r.frame+(r.seats.length:Int)*r.full)+(r.feet.length:Int)) - 1) (b:=(r.feet.length:Int)) (by omega) (by omega)
 have a4:=Int.tdiv_le_self (a:=((r.frame+(r.seats.length:Int)*r.full)+(r.feet.length:Int)) - 1) (r.feet.length:Int) (by omega)
 exact ⟨a1,by omega,a3,by omega⟩
theorem Xf (r:Rg) (s:Int) (hs:RigSmall r):Pure Try.prog 18 [.agg [.rsl (rowS r.seats) 0 r.seats.length,.rsl (rowP r.feet) 0 r.feet.length,.int .i64 r.frame,.int .i64 r.c.x,.int .i64 r.c.y,.int .i64 r.c.z,.int .i64 r.empty,.int .i64 r.full],.int .i64 s] (.tup [.bool (Qm r s).1,.int .i64 (Qm r s).2]):=Qy Try.func18 f18b fun E hE=>by
 refine f18W r s (rv:=Qm r s) hE ⟨fun h=>⟨hs,fun h1=>by simp [Qm,h,h1],fun h1=>?_⟩,fun h=>⟨fun _=>⟨hs,by simp [Qm,h]⟩,fun _=>⟨hs,by simp [Qm,h]⟩⟩⟩
 have hm:=XK h
 obtain ⟨b1,b2,b3,b4⟩:=Kh hm
 have h8:=hm.ok.feet1
 have h3:=hm.ok.feet0
 have fr0:=hm.ok.frame0
 have fr1:=hm.ok.frame1
 rw [Int.mul_comm r.full]
 exact ⟨by omega,by omega,by omega,by omega,by omega,by omega,by simp [Qm,h,h1]⟩
/-! ### Least -/
end Go.Proofs.Ytemklbioijmjiaa
namespace Go.Proofs.Ytemklbioijmjiaa
open Go Ax
open Go.Proofs
/-! ### the plain law of Least -/
theorem qP {r:Rg} {a b:Pt} {ph:Nat} {f:Nat→Int→Bool}:∀ (ss:List (List Pt)) (i:Nat) (x y:Int),YL r a b ph f ss i (x+y)=YL r a b ph f ss i x+y
 | [],i,x,y=>rfl
 | s :: ss,i,x,y=>by
  simp only [YL]
  rw [← qP ss (i+1)]
  congr 1; omega
theorem Wh {r:Rg}:∀ (L:List (Nat × Nat)) (s:Int × Nat × Nat × Bool),s.2.2.2=true→(L.foldl (QU r) s).1≤s.1∧(∀ x ∈ L,(L.foldl (QU r) s).1≤QV r x) ∧
 (L.foldl (QU r) s=s ∨ ∃ x ∈ L,L.foldl (QU r) s=(QV r x,x.1,x.2,true))
 | [],s,_=>by simp
 | y :: L,s,hs=>by
  rw [List.foldl_cons]
  cases hlt:decide (QV r y<s.1) with
  | true =>
   have e:QU r s y=(QV r y,y.1,y.2,true):=by simp only [QU,hlt,hs,Bool.not_true,Bool.false_or,cond_true]
   have hlt':QV r y<s.1:=of_decide_eq_true hlt
   obtain ⟨a,b,c⟩:=Wh (r:=r) L (QU r s y) (by rw [e])
   rw [e] at a b c ⊢
   simp only at a
   refine ⟨by omega,fun x hx=>?_,?_⟩
   · rcases List.mem_cons.1 hx with rfl | hx
     · exact a
     · exact b x hx
   · rcases c with c | ⟨x,hx,c⟩
     · exact .inr ⟨y,by simp,c⟩
     · exact .inr ⟨x,by simp [hx],c⟩
  | false =>
   have e:QU r s y=s:=by
    simp only [QU,hlt,hs,Bool.not_true,Bool.or_false,cond_false]
    obtain ⟨s1,s2,s3,s4⟩:=s
    simp only at hs; subst hs; rfl
   have hlt':¬ QV r y<s.1:=of_decide_eq_false hlt
   rw [e]
   obtain ⟨a,b,c⟩:=Wh (r:=r) L s hs
   refine ⟨a,fun x hx=>?_,?_⟩
   · rcases List.mem_cons.1 hx with rfl | hx
     · omega
     · exact b x hx
   · rcases c with c | ⟨x,hx,c⟩
     · exact .inl c
     · exact .inr ⟨x,by simp [hx],c⟩
theorem mem_rigPV {r:Rg} {x:Nat × Nat}:x ∈ WF r ↔ x.1<phN r∧x.2<r.feet.length:=by
 simp only [WF,wlP,wlV,List.mem_flatMap,List.mem_map,List.mem_range'_1]
 constructor
 · rintro ⟨p,hp,k,hk,rfl⟩; exact ⟨by omega,by omega⟩
 · rintro ⟨h1,h2⟩; exact ⟨x.1,by omega,x.2,by omega,rfl⟩
theorem qZ {r:Rg} (hm:RigMade r):(∀ x ∈ WF r,(YU r).1≤QV r x)∧∃ x ∈ WF r,YU r=(QV r x,x.1,x.2,true):=by
 have h1:=hm.pos
 have h3:=hm.ok.feet0
 have hne:(0,0) ∈ WF r:=mem_rigPV.2 ⟨by simp only; omega,by simp only; omega⟩
 unfold YU
 generalize WF r=L at hne
 cases L with
 | nil=>cases hne
 | cons y L =>
  rw [List.foldl_cons]
  have e:QU r (0,0,0,false) y=(QV r y,y.1,y.2,true):=rfl
  obtain ⟨a,b,c⟩:=Wh (r:=r) L (QU r (0,0,0,false) y) (by rw [e])
  rw [e] at a b c ⊢
  refine ⟨fun x hx=>?_,?_⟩
  · rcases List.mem_cons.1 hx with rfl | hx
    · exact a
    · exact b x hx
  · rcases c with c | ⟨x,hx,c⟩
    · exact ⟨y,by simp,c⟩
    · exact ⟨x,by simp [hx],c⟩
end Go.Proofs.Ytemklbioijmjiaa
namespace Ax
open Go
section
variable {P:Program} {E:Env} {K K':List Item} {st st':St}
/-- What a call leaves: its result,and the blocks. -/
def Left (Z M:Nat→Prop) (w:World) (C:Ctx) (res:AV) (bs2:List Blk) (v:Value) (w':World):Prop :=
 ∃ C' Z',Base C w C' w'∧Mem Z M w C' Z' bs2 w'∧VR Z' w' C' res v
/-- A function that turns blocks 'bs' to 'bs2' (new ones behind them). -/
def Lent (P:Program) (f:FuncId) (args:List AV) (bs:List Blk) (res:AV) (bs2:List Blk):Prop :=
 ∀ (Z:Nat→Prop) (w:World) (C:Ctx) (cargs:Array Value),Mem Z (Own C) w C Z bs w→VRs Z w C args cargs.toList →
  Calls P f cargs w fun e w'=>∃ v,e=.returned v∧Left Z (Own C) w C res bs2 v w'
structure LentE (P:Program) (f:FuncId) (gA:List AV) (res:AV) (bs2:List Blk) (E:Env):Prop where
 ro:E.b.roundOf=none
 kind:E.b.kind=.normal
 fn:E.b.fn=f
 gA:E.gA=gA
 df:E.df=[]
 fin:E.Fin=VB P f E.cs (Left E.Z0 E.M E.w0 E.Cb res bs2)
theorem LentE.nogh {f:FuncId} {k g:Nat} {res:AV} {bs2:List Blk} (hE:LentE P f [.sl k g 0 0 1] res bs2 E) {m:Nat} (h:Nat.ble (k+1) m=true):refsBelows m E.gA=true:=by
 rw [hE.gA]
 have:=Nat.le_of_ble_eq_true h
 simp [refsBelows,QG]; omega
theorem lent_of {f:FuncId} {fn:Func} {c:Code} {args:List AV} {bs bs2:List Blk} {res:AV} (b:Blk) (hf:P.funcs[f]?=some fn) (hb:fn.body=some c) (hl:bs.getLast?=some b) (hlv:b.live=true)
 (h:∀ E,LentE P f [.sl (bs.length - 1) b.gen 0 0 1] res bs2 E→G P E [.code c] ⟨args++unds (fn.ntmps - args.length),bs⟩) (hbz:b.sz ≠ 0:=by simp):Lent P f args bs res bs2:=by
 intro Z w C cargs hm ha cs
 have hn:bs ≠ []:=by rintro rfl; simp at hl
 have hlen:0<bs.length:=List.length_pos_iff.2 hn
 have hk:bs[bs.length - 1]?=some b:=by rw [List.getLast?_eq_getElem?] at hl; exact hl
 have hgh:VR Z w C (.sl (bs.length - 1) b.gen 0 0 1) (.slice none 0 0):=by
  have hg:=hm.gen _ _ hk
  refine .sl (by rw [hg]; exact Nat.le_refl _) rfl fun _=>?_
  obtain ⟨q1,q2⟩:=hm.blk _ _ hk hlv
  unfold SlOk
  cases hs:C.β (bs.length - 1) with
  | absent=>simp [hs] at q2
  | unborn=>exact ⟨rfl,none,rfl⟩
  | loc blk o =>
   simp only [hs] at q2
   obtain ⟨arr,e,r1,r2,r3⟩:=q2.cells hbz
   exact ⟨none,0,rfl,Nat.le_refl _,fun h=>absurd rfl h,arr,e,r1,by omega⟩
 have hlow:∀ n,refsBelows n [AV.sl (bs.length - 1) b.gen 0 0 1]=true→∀ k,n≤k→C.β k=.absent∧C.γ k=0:=fun n h1 k h2=>hm.dom k (by
  simp [refsBelows,QG] at h1; omega)
 let E:Env:=⟨Z,Own C,w,{ (default:Frame) with fn:=f,kind:=.normal },cs,VB P f cs (Left Z (Own C) w C res bs2),[.sl (bs.length - 1) b.gen 0 0 1],[.slice none 0 0],[],C,hlow⟩
 have hE:LentE P f [.sl (bs.length - 1) b.gen 0 0 1] res bs2 E:=⟨rfl,rfl,rfl,rfl,rfl,rfl⟩
 have henter:Frame.enter P f cargs .normal=({ (default:Frame) with fn:=f,kind:=.normal }:Frame).atR { tmps:=cargs++Array.replicate (fn.ntmps - cargs.size) undef,defers:=[] } [.code c]:=by
  simp only [Frame.enter,Frame.atR,hf,hb,Option.map_some,Option.getD_some,Option.bind_some]; rfl
 have hl2:args.length=cargs.size:=by simpa using ha.1
 obtain ⟨m',s,v,w',fr,rfl,r1,r2,r3⟩:=h _ hE C Z { tmps:=cargs++Array.replicate (fn.ntmps - cargs.size) undef,defers:=[] } w
  ⟨⟨by simp [YC,hl2],fun i x y p q=>by
   simp only [Array.toList_append,Array.toList_replicate] at q
   rw [YC] at p
   by_cases hi:i<args.length
   · rw [List.getElem?_append_left hi] at p
     rw [List.getElem?_append_left (by simpa [← hl2] using hi)] at q
     exact ha.2 i x y p q
   · rw [List.getElem?_append_right (by omega)] at p
     rw [List.getElem?_append_right (by simp; omega)] at q
     have p':=List.mem_replicate.1 (List.mem_of_getElem? p)
     have q':=List.mem_replicate.1 (List.mem_of_getElem? q)
     rw [p'.2,q'.2]
     exact .tup rfl (by simp)⟩,hm,⟨[],.nil,.nil,by simp⟩,⟨rfl,fun i x y p q=>by
   cases i with
   | zero=>simp [E] at p q; rw [← p,← q]; exact hgh
   | succ i=>simp [E] at p⟩,.refl⟩
 rw [henter]
 exact ⟨.returned v,w',fr,⟨v,rfl,r3⟩,s,r1,r2⟩
theorem LentE.nogh0 {f:FuncId} {res:AV} {bs2:List Blk} (hE:LentE P f [] res bs2 E) (m:Nat):refsBelows m E.gA=true:=by rw [hE.gA]; rfl
/-- The same for a function that is handed no block,and gives back new ones. -/
theorem lent_of0 {f:FuncId} {fn:Func} {c:Code} {args:List AV} {bs2:List Blk} {res:AV} (hf:P.funcs[f]?=some fn) (hb:fn.body=some c)
 (h:∀ E,LentE P f [] res bs2 E→G P E [.code c] ⟨args++unds (fn.ntmps - args.length),[]⟩):Lent P f args [] res bs2:=by
 intro Z w C cargs hm ha cs
 have hlow:∀ n,refsBelows n ([]:List AV)=true→∀ k,n≤k→C.β k=.absent∧C.γ k=0:=fun n _ k _=>hm.dom k (by simp)
 let E:Env:=⟨Z,Own C,w,{ (default:Frame) with fn:=f,kind:=.normal },cs,VB P f cs (Left Z (Own C) w C res bs2),[],[],[],C,hlow⟩
 have hE:LentE P f [] res bs2 E:=⟨rfl,rfl,rfl,rfl,rfl,rfl⟩
 have henter:Frame.enter P f cargs .normal=({ (default:Frame) with fn:=f,kind:=.normal }:Frame).atR { tmps:=cargs++Array.replicate (fn.ntmps - cargs.size) undef,defers:=[] } [.code c]:=by
  simp only [Frame.enter,Frame.atR,hf,hb,Option.map_some,Option.getD_some,Option.bind_some]; rfl
 have hl2:args.length=cargs.size:=by simpa using ha.1
 obtain ⟨m',s,v,w',fr,rfl,r1,r2,r3⟩:=h _ hE C Z { tmps:=cargs++Array.replicate (fn.ntmps - cargs.size) undef,defers:=[] } w
  ⟨⟨by simp [YC,hl2],fun i x y p q=>by
   simp only [Array.toList_append,Array.toList_replicate] at q
   rw [YC] at p
   by_cases hi:i<args.length
   · rw [List.getElem?_append_left hi] at p
     rw [List.getElem?_append_left (by simpa [← hl2] using hi)] at q
     exact ha.2 i x y p q
   · rw [List.getElem?_append_right (by omega)] at p
     rw [List.getElem?_append_right (by simp; omega)] at q
     have p':=List.mem_replicate.1 (List.mem_of_getElem? p)
     have q':=List.mem_replicate.1 (List.mem_of_getElem? q)
     rw [p'.2,q'.2]
     exact .tup rfl (by simp)⟩,hm,⟨[],.nil,.nil,by simp⟩,⟨rfl,fun i x y p q=>by simp [E] at p⟩,.refl⟩
 rw [henter]
 exact ⟨.returned v,w',fr,⟨v,rfl,r3⟩,s,r1,r2⟩
/-- Called by its value. -/
theorem VM {f : FuncId} {fn : Func} {c : Code} {first args cap : List AV} {bs bs2 : List Blk} {res : AV} (hf : P.funcs[f]? = some fn) (hname : (fn.name == "runtime.NumGoroutine") = false) (hb : fn.body = some c)
    (h : Lent P f (first ++ args ++ cap) bs res bs2) : LentF P (.clos f first cap) args bs res bs2 := by
  intro Z w C cf cargs hm hcf ha
  cases hcf with
  | @clos _ _ _ _ fa ca hl h1 hl' h2 =>
    refine ⟨{ target := .fn (.func f) ca, args := fa ++ cargs }, f, fa ++ cargs ++ ca, rfl, ?_, ?_⟩
    · have := Go.Proofs.enters_of (P := P) hf hname hb (fa ++ cargs ++ ca) w
      simpa [invoke] using this
    · refine (h Z w C _ hm ⟨by have := ha.1; simp at this; simp [hl, hl', this], fun i x y p q => ?_⟩).mono ?_
      · have hal : args.length = cargs.size := by simpa using ha.1
        simp only [Array.toList_append] at q
        rw [List.append_assoc] at p q
        by_cases i1 : i < first.length
        · rw [List.getElem?_append_left i1] at p
          rw [List.getElem?_append_left (by simpa [← hl] using i1)] at q
          exact h1 i x y p (by simpa using q)
        · rw [List.getElem?_append_right (by omega)] at p
          rw [List.getElem?_append_right (by simp; omega)] at q
          have e1 : fa.toList.length = first.length := by simp [hl]
          rw [e1] at q
          by_cases i2 : i - first.length < args.length
          · rw [List.getElem?_append_left i2] at p
            rw [List.getElem?_append_left (by simpa [← hal] using i2)] at q
            exact ha.2 _ x y p q
          · rw [List.getElem?_append_right (by omega)] at p
            rw [List.getElem?_append_right (by simp; omega)] at q
            have e2 : cargs.toList.length = args.length := by simp [hal]
            rw [e2] at q
            exact h2 _ x y p (by simpa using q)
      · rintro e w' ⟨v, rfl, C', Z', q1, q2, q3⟩
        exact ⟨v, C', Z', rfl, q1, q2, q3⟩

/-- A block that is handed over for good: it lies frozen from here on. -/
def kill (b:Blk):Blk:=⟨false,b.gen+1,b.sz,true,[],false⟩
/-- A call of what only reads: what it is handed is handed over for good. -/
theorem yU {fv fv':AV} {args args':List AV} {bs:List Blk} {res:AV} {o1 o2:List Prop} (hf:(frz 8 fv).run (bs[·]?)=some (fv',o1)) (h1:AllP o1)
 (ha:(frzL (frz 8) args).run (bs[·]?)=some (args',o2)) (h2:AllP o2) (hp:Qe P fv' args' res):LentF P fv args bs res (bs.map kill):=by
 intro Z w C cf cargs hm hcf hca
 obtain ⟨d,f,as',r1,r2,r3⟩:=hp (ZL C Z) w cf cargs (fun b hz=>by
  rcases hz with hz | ⟨k,o,hb⟩
  · exact hm.zlt b hz
  · exact (hm.own k b o hb).1) (XQ hm hf h1 hcf) (Vn hm ha h2 hca)
 refine ⟨d,f,as',r1,r2,r3.mono ?_⟩
 rintro e w' ⟨v,rfl,hv,hfr⟩
 have hs:=hfr.size
 have lt_of:∀ k,C.β k ≠ .absent→k<bs.length:=fun k h=>by
  rcases Nat.lt_or_ge k bs.length with h' | h'
  · exact h'
  · exact absurd (hm.dom k h').1 h
 refine ⟨v,⟨fun _=>.absent,fun k=>if k<bs.length then C.γ k+1 else 0⟩,Zx (ZL C Z) w w',rfl,⟨⟨fun k=>?_,fun k hb hg=>?_⟩,fun k blk o arr e hb hg=>?_⟩,
  ⟨fun k b hb hl=>?_,fun k b hb=>?_,fun k b hb hd=>rfl,fun k hk=>?_,fun k k' b o o' h=>?_,fun k b o h=>?_,fun b hz=>?_,fun b hz=>.inl (.inl hz),fun b hz=>?_,?_⟩,hv.of0⟩
 · simp only
   split
   · omega
   · rw [(hm.dom k (by omega)).2]; exact Nat.le_refl _
 · simp only at hg
   rw [if_pos (lt_of k hb)] at hg; omega
 · simp only at hg
   rw [if_pos (lt_of k (by rw [hb]; simp))] at hg; omega
 · rw [List.getElem?_map,Option.map_eq_some_iff] at hb
   obtain ⟨b0,-,rfl⟩:=hb
   simp [kill] at hl
 · rw [List.getElem?_map,Option.map_eq_some_iff] at hb
   obtain ⟨b0,hb,rfl⟩:=hb
   have:=(List.getElem?_eq_some_iff.1 hb).1
   simp only [if_pos this,kill]
   rw [hm.gen k b0 hb]
 · simp only [List.length_map] at hk
   simp only [if_neg (show ¬ k<bs.length by omega),and_self]
 · cases h
 · cases h
 · rcases hz with (hz | ⟨k,o,hb⟩) | hz
   · have:=hm.zlt b hz; omega
   · have:=(hm.own k b o hb).1; omega
   · exact hz.2
 · rcases hz with (hz | hz) | hz
   · exact .inl hz
   · exact .inr (.inl hz)
   · exact .inr (.inr hz.1)
 · exact hfr.weaken fun _ h=>h.elim
/-- To the end of a function that turns what it was handed: the first 'm' blocks are left. -/
def endB (P:Program) (fn:Func) (live:List Nat) (m n:Nat) (K:List Item) (st:St) (evs:List EV):Option (AV × List Blk × List Prop) :=
 match walk P n K st evs with
 | some (K',st1,evs1,o1) =>
  (match isEnd K',weak live m st1 with
  | true,some st2 =>
   (match resA P st2 fn.results.toList evs1 with
   | some (vs,_,o2)=>some (tupA vs,st2.blks,o1++o2)
   | none=>none)
  | _,_=>none)
 | none=>none
theorem qt {n m:Nat} {live:List Nat} {f:FuncId} {fn:Func} {evs:List EV} {r res:AV} {gA:List AV} {bs2 bs3:List Blk} {obs:List Prop} (hE:LentE P f gA res bs2 E) (hgh:refsBelows m E.gA=true) (hf:P.funcs[f]?=some fn) (hmx:P.follows .mixedOrders=true)
 (h:endB P fn live m n K st evs=some (r,bs3,obs)) (ho:AllP obs) (hr:r=res) (hb:bs3=bs2):G P E K st:=by
 subst hr
 subst hb
 unfold endB at h
 split at h
 · rename_i K' st1 evs1 o1 h1
   split at h
   · rename_i st2 hK h2
     split at h
     · rename_i vs evs2 o2 h3
       simp only [Option.some.injEq,Prod.mk.injEq] at h
       obtain ⟨rfl,rfl,rfl⟩:=h
       obtain ⟨a1,a2⟩:=Qq.1 ho
       have hfn:=hE.fn
       refine QD hE.kind hmx h1 a1 (Yu hgh h2 (G_end (Post:=Left E.Z0 E.M E.w0 E.Cb (tupA vs) st2.blks) hE.ro hE.kind hE.df (by rw [hfn]; exact hf) (by rw [hE.fin,hfn]) h3 a2 (fun C Z w v hm hv hbs=>⟨C,Z,hbs,hm,hv⟩) (Wi hK)))
     · cases h
   · cases h
 · cases h
end
end Ax
namespace Ax
open Go
section
variable {P:Program} {E:Env} {K K':List Item} {st st':St}
/-! ### The frame of a deferred closure -/
def EndedK (P:Program) (f:FuncId) (cs:List Frame) (Post:Value→World→Prop) (m:Machine):Prop :=
 ∃ v w' fr,m=lone fr cs w'∧fr.kind=.deferred∧fr.going P w' (.returned v)∧Post v w'
structure LentKE (P:Program) (f:FuncId) (gA:List AV) (res:AV) (bs2:List Blk) (E:Env):Prop where
 ro:E.b.roundOf=none
 kind:E.b.kind=.deferred
 fn:E.b.fn=f
 gA:E.gA=gA
 df:E.df=[]
 fin:E.Fin=EndedK P f E.cs (Left E.Z0 E.M E.w0 E.Cb res bs2)
theorem LentKE.nogh {f:FuncId} {k g:Nat} {res:AV} {bs2:List Blk} (hE:LentKE P f [.sl k g 0 0 1] res bs2 E) {m:Nat} (h:Nat.ble (k+1) m=true):refsBelows m E.gA=true:=by
 rw [hE.gA]
 have:=Nat.le_of_ble_eq_true h
 simp [refsBelows,QG]; omega
/-! ### The frame that has deferred -/
structure LentDE (P:Program) (f:FuncId) (g0:List AV) (clo:AV) (res:AV) (bs2:List Blk) (E:Env):Prop where
 ro:E.b.roundOf=none
 kind:E.b.kind=.normal
 fn:E.b.fn=f
 gA:E.gA=g0++[clo]
 df:∃ cf d,E.gV.getLast?=some cf∧(∀ w,(Deferred.ofValue cf #[]).run P w=.ok d w)∧E.df=[d]
 fin:E.Fin=VB P f E.cs (Left E.Z0 E.M E.w0 E.Cb res bs2)
 low:∀ n,refsBelows n g0=true→∀ k,n≤k→E.Cb.β k=.absent∧E.Cb.γ k=0
theorem LentDE.nogh {f:FuncId} {k g fi k2 g2 o2:Nat} {res:AV} {bs2:List Blk} (hE:LentDE P f [.sl k g 0 0 1] (.clos fi [] [.ptr k2 g2 o2]) res bs2 E) {m:Nat} (h:(Nat.ble (k+1) m && Nat.ble (k2+1) m)=true):refsBelows m E.gA=true:=by
 rw [hE.gA]
 rw [Bool.and_eq_true] at h
 have h1:=Nat.le_of_ble_eq_true h.1
 have h2:=Nat.le_of_ble_eq_true h.2
 simp [refsBelows,QG]; omega
/-! ### What comes back in new memory -/
structure PureNE (P:Program) (f:FuncId) (res:AV) (E:Env):Prop where
 ro:E.b.roundOf=none
 kind:E.b.kind=.normal
 fn:E.b.fn=f
 nm:∀ b,¬ E.M b
 gA:E.gA=[]
 fin:E.Fin=(VB P f E.cs fun v w'=>VR (Zn E.w0 w') w' C0 res v∧Fr E.w0 (fun _=>False) w')
 cb:E.Cb=C0
 df:E.df=[]
theorem PureNE.nogh {f:FuncId} {res:AV} (hE:PureNE P f res E) (m:Nat):refsBelows m E.gA=true:=by rw [hE.gA]; rfl
theorem VR.layN {Z Z0 M:Nat→Prop} {w0 w:World} {C:Ctx} {blks:List Blk} (hm:Mem Z0 M w0 C Z blks w) {k g off len sz:Nat} {b:Blk} {c:Value} (hb:blks[k]?=some b) (hl:b.live=true) (hz:b.sz ≠ 0) (hf:b.flat=true) (hg:g=b.gen) (hsc:∀ x ∈ b.cells,XV x=true)
 (h:VR Z w C (.sl k g off len sz) c) {C':Ctx}:VR (fun c=>∃ o,C.β k=.loc c o) w C' (.rsl b.cells off len) c:=by
 have hok:=qD hm hb hg h
 obtain ⟨hk,h1⟩:=hm.blk k b hb hl
 unfold SlOk at hok
 split at hok
 · rename_i bl o hβ
   obtain ⟨a,cap,rfl,hlc,ha,-⟩:=hok
   simp only [hβ] at h1
   obtain ⟨arr,e,hh,hsz,hc⟩:=h1.cells hz
   by_cases hlen:len=0
   · subst hlen; exact .rsl0
   · obtain rfl:=ha (by omega)
     refine .rsl (fun i=>arr.getD (o+i) undef) ⟨o,hβ⟩ hlc (fun i hi=>?_) hk (fun i c hi=>?_)
     · rw [Yf hh]; simp [Array.getD,show o+i<arr.size by omega]
     · obtain ⟨v,h2,h3⟩:=hc i c hi
       simp only [hf,if_true] at h3
       have:arr.getD (o+i) undef=v:=by
        have hlt:=(Array.getElem?_eq_some_iff.1 h2).1
        simp [Array.getD,hlt]; exact (Array.getElem?_eq_some_iff.1 h2).2
       show VR _ w C0 c (arr.getD (o+i) undef)
       rw [this]
       exact Vi (hsc c (List.mem_of_getElem? hi)) h3
 · obtain ⟨rfl,a,rfl⟩:=hok
   exact .rsl0
 · exact hok.elim
/-- What gives back a slice over new memory, as it is called amid others. -/
theorem yK {f : FuncId} {fn : Func} {c : Code} {first args cap : List AV} {g len sz : Nat} {cells : List AV} (hf : P.funcs[f]? = some fn) (hname : (fn.name == "runtime.NumGoroutine") = false) (hb : fn.body = some c)
    (h : Lent P f (first ++ args ++ cap) [] (.sl 0 g 0 len sz) [⟨true, g, sz, true, cells, true⟩]) (hz : sz ≠ 0) (hsc : ∀ x ∈ cells, XV x = true) : PureO P (.clos f first cap) args len sz cells := by
  intro Z w cf cargs hzl hcf ha
  have hno : ∀ b, ¬ Own C0 b := fun b ⟨k, o, h⟩ => by simp [C0] at h
  have hm : Mem Z (Own C0) w C0 Z [] w := ⟨fun k b h => by simp at h, fun k b h => by simp at h, fun k b h => by simp at h, fun k _ => ⟨rfl, rfl⟩, fun k k' b o o' h => by simp [C0] at h, fun k b o h => by simp [C0] at h, hzl, fun b h => h, fun b h => .inl h, .refl w _⟩
  obtain ⟨d, f', as1, r1, r2, r3⟩ := VM hf hname hb h Z w C0 cf cargs hm hcf ha
  refine ⟨d, f', as1, r1, r2, r3.mono ?_⟩
  rintro e w' ⟨v, C', Z', rfl, hbase, hm', hv⟩
  have hfr : Fr w (fun _ => False) w' := ⟨hm'.frame.os, hm'.frame.tape, hm'.frame.output, hm'.frame.size, fun b h1 _ => hm'.frame.same b h1 (hno b)⟩
  refine ⟨v, rfl, ?_, hfr⟩
  have hb0 : ([⟨true, g, sz, true, cells, true⟩] : List Blk)[0]? = some ⟨true, g, sz, true, cells, true⟩ := rfl
  have hgen := hm'.gen 0 _ hb0
  obtain ⟨hk, hblk⟩ := hm'.blk 0 _ hb0 rfl
  cases hv with
  | sl _ _ hs =>
    have hs := hs hgen.symm
    unfold SlOk at hs
    cases hβ : C'.β 0 with
    | absent => simp [hβ] at hs
    | unborn =>
      simp only [hβ] at hs hblk
      obtain ⟨rfl, a, rfl⟩ := hs
      exact .inl ⟨rfl, hblk, a, rfl⟩
    | loc blk o =>
      simp only [hβ] at hs hblk
      obtain ⟨a, cp, rfl, h1, h2, arr, e, h3, h4⟩ := hs
      obtain ⟨arr', e', h5, h6, h7⟩ := hblk.cells hz
      rw [h3] at h5
      simp only [Option.some.injEq, Obj.cells.injEq] at h5
      obtain ⟨rfl, rfl, -⟩ := h5
      have hown := (hm'.own 0 blk o hβ).2.2
      refine .inr ⟨blk, o, a, cp, arr, e, rfl, h1, by simpa using h2, hown.resolve_left (hno blk), h3, by simpa using h4, h6, fun i c hi => ⟨hk i c hi, ?_⟩⟩
      obtain ⟨u, q1, q2⟩ := h7 i c hi
      exact ⟨u, q1, fun Z C => Vi (hsc c (List.mem_of_getElem? hi)) q2⟩
end
end Ax
namespace Ax
open Go
section
variable {P:Program} {E:Env} {K k:List Item} {st:St}
end
end Ax
namespace Ax
open Go
def Yt:List AV→List AV→Prop
 | [],[]=>True
 | x :: xs,y :: ys=>AvLe x y∧QQ y=true∧Xj y=true∧Yt xs ys
 | _,_=>False
theorem Yt.app:∀ {a b c d:List AV},Yt a b→Yt c d→Yt (a++c) (b++d)
 | [],[],c,d,_,h=>h
 | x :: a,y :: b,c,d,h1,h2=>⟨h1.1,h1.2.1,h1.2.2.1,Yt.app h1.2.2.2 h2⟩
theorem Yt.rep {a b:List AV} (h:Yt a b):∀ {n:Nat},Yt (List.replicate n a).flatten (List.replicate n b).flatten
 | 0=>trivial
 | n+1=>by rw [List.replicate_succ,List.replicate_succ,List.flatten_cons,List.flatten_cons]; exact h.app (Yt.rep h)
theorem Yt.length:∀ {a b:List AV},Yt a b→b.length=a.length
 | [],[],_=>rfl
 | x :: a,y :: b,h=>by simp [Yt.length h.2.2.2]
theorem Yt.get:∀ {a b:List AV} {i:Nat} {y:AV},Yt a b→b[i]?=some y→∃ x,a[i]?=some x∧AvLe x y∧QQ y=true∧Xj y=true
 | [],[],i,y,_,h=>by simp at h
 | x :: a,z :: b,0,y,h,hi=>by simp at hi; subst hi; exact ⟨x,rfl,h.1,h.2.1,h.2.2.1⟩
 | x :: a,z :: b,i+1,y,h,hi=>by
  obtain ⟨x',h1,h2⟩:=Yt.get h.2.2.2 (by simpa using hi)
  exact ⟨x',by simpa using h1,h2⟩
section
variable {P:Program} {E:Env} {K:List Item} {st:St}
theorem qJ {k:Nat} {b:Blk} {cells':List AV} (hb:st.blks[k]?=some b) (hl:b.live=true) (hz:b.sz ≠ 0) (hf:b.flat=true) (hle:Yt b.cells cells')
 (hg:G P E K ⟨st.tmps,st.blks.set k { b with cells:=cells' }⟩):G P E K st:=by
 intro C Z a w hr
 have hm:=hr.mem
 obtain ⟨q1,q2⟩:=hm.blk k b hb hl
 have hgen:=hm.gen k b hb
 have:=hm.change (b':={ b with cells:=cells' }) (w':=w) (s:=C.β k) (g:=C.γ k) hb rfl rfl rfl (Nat.le_refl _) (fun _ _ _=>rfl)
  (fun blk o arr e _ h=>⟨arr,h,rfl⟩) (Nat.le_refl _) (fun _ _=>rfl) hl hgen.symm (fun blk o h=>.inl ⟨o,h⟩) (fun hle' hevo _=>by
    refine ⟨fun i x hi=>(hle.get hi).choose_spec.2.2.1,?_⟩
    rw [Ctx.put_id]
    cases hs:C.β k with
    | absent=>simp [hs] at q2
    | unborn =>
     simp only [hs] at q2 ⊢
     have:=hle.length
     rw [q2] at this
     exact List.length_eq_zero_iff.1 this
    | loc blk o =>
     simp only [hs] at q2 ⊢
     obtain ⟨arr,te,r1,r2,r3⟩:=q2.cells hz
     refine .inl ⟨hz,arr,te,r1,by rw [hle.length]; exact r2,fun i x hi=>?_⟩
     obtain ⟨x0,h1,h2,-,-⟩:=hle.get hi
     obtain ⟨v,s1,s2⟩:=r3 i x0 h1
     refine ⟨v,s1,?_⟩
     simp only [hf,if_true] at s2 ⊢
     exact h2 _ _ _ s2)
 rw [Ctx.put_id] at this
 exact hg C Z a w ⟨hr.tmp,this.1,hr.marks,hr.gh,hr.base⟩
end
end Ax
namespace Ax
open Go
section
variable {P:Program} {E:Env} {K K':List Item} {st st':St}
def cutOk (n:Nat) (blks:List Blk):Bool:=(blks.take n).all fun b=>!b.live || b.flat || refsBelows n (bif b.sz == 0 then b.cells.take 1 else b.cells)
theorem Mem.cut {Z0 M Z:Nat→Prop} {w0 w:World} {C:Ctx} {blks:List Blk} {n:Nat} (hm:Mem Z0 M w0 C Z blks w) (h2:cutOk n blks=true):Mem Z0 M w0 (C.cut n) Z (blks.take n) w:=by
 have hget:∀ {k:Nat} {b:Blk},(blks.take n)[k]?=some b→k<n∧blks[k]?=some b:=by
  intro k b hb
  rw [List.getElem?_take] at hb
  split at hb
  · exact ⟨‹_›,hb⟩
  · cases hb
 refine ⟨fun k b hb hl=>?_,fun k b hb=>?_,fun k b hb hd=>?_,fun k hk=>?_,fun k k' c o o' e1 e2=>?_,fun k c o e1=>?_,hm.zlt,hm.z0,hm.zsub,hm.frame⟩
 · obtain ⟨hkn,hb'⟩:=hget hb
   obtain ⟨q1,q2⟩:=hm.blk k b hb' hl
   refine ⟨q1,?_⟩
   simp only [Ctx.cut,hkn,if_true]
   cases hs:C.β k with
   | absent=>simp [hs] at q2
   | unborn=>simp only [hs] at q2 ⊢; exact q2
   | loc blk o =>
    simp only [hs] at q2 ⊢
    refine q2.next1 rfl (fun c v h=>h) fun hf c v hc s2=>?_
    have:=List.all_eq_true.1 h2 b (List.mem_of_getElem? hb)
    simp only [hl,hf,Bool.not_true,Bool.false_or] at this
    obtain ⟨i,hi⟩:=List.getElem?_of_mem hc
    exact s2.cut (QP this hi)
 · obtain ⟨hkn,hb'⟩:=hget hb
   simp only [Ctx.cut,hkn,if_true]; exact hm.gen k b hb'
 · obtain ⟨hkn,hb'⟩:=hget hb
   simp only [Ctx.cut,hkn,if_true]; exact hm.dd k b hb' hd
 · simp only [List.length_take] at hk
   simp only [Ctx.cut]
   by_cases hkn:k<n
   · simp only [hkn,if_true]; exact hm.dom k (by omega)
   · simp [hkn]
 · simp only [Ctx.cut] at e1 e2
   split at e1 <;> split at e2 <;> first | exact hm.inj k k' c o o' e1 e2 | cases e1 | cases e2
 · simp only [Ctx.cut] at e1
   split at e1
   · exact hm.own k c o e1
   · cases e1
/-! ### Nil slices in a block's cells,seen as empty ones -/
def LeD:List AV→List AV→Prop
 | [],[]=>True
 | x :: xs,y :: ys=>(x=y ∨ (x=.nilSl∧y=.rsl [] 0 0))∧LeD xs ys
 | _,_=>False
theorem LeD.refl:∀ (a:List AV),LeD a a
 | []=>trivial
 | _ :: a=>⟨.inl rfl,LeD.refl a⟩
theorem LeD.app:∀ {a b c d:List AV},LeD a b→LeD c d→LeD (a++c) (b++d)
 | [],[],_,_,_,h=>h
 | _ :: _,_ :: _,_,_,h1,h2=>⟨h1.1,LeD.app h1.2 h2⟩
theorem LeD.length:∀ {a b:List AV},LeD a b→b.length=a.length
 | [],[],_=>rfl
 | _ :: _,_ :: _,h=>by simp [LeD.length h.2]
theorem LeD.get:∀ {a b:List AV} {i:Nat} {y:AV},LeD a b→b[i]?=some y→∃ x,a[i]?=some x∧(x=y ∨ (x=.nilSl∧y=.rsl [] 0 0))
 | [],[],i,y,_,h=>by simp at h
 | x :: a,z :: b,0,y,h,hi=>by simp at hi; subst hi; exact ⟨x,rfl,h.1⟩
 | x :: a,z :: b,i+1,y,h,hi=>by
  obtain ⟨x',h1,h2⟩:=LeD.get h.2 (by simpa using hi)
  exact ⟨x',by simpa using h1,h2⟩
/-! ### A segment whose blocks hold symbolic rows beside references -/
mutual
theorem Ws {n:Nat}:∀ {v:AV},Xj v=true→QG n v=true
 | .ptr ..,h=>by simp [Xj] at h
 | .sl ..,h=>by simp [Xj] at h
 | .mp ..,h=>by simp [Xj] at h
 | .agg cs,h=>by simp only [Xj,QG] at h ⊢; exact refsBelows_nr h
 | .tup cs,h=>by simp only [Xj,QG] at h ⊢; exact refsBelows_nr h
 | .clos _ a b,h=>by
  simp only [Xj,QG,Bool.and_eq_true] at h ⊢
  exact ⟨refsBelows_nr h.1,refsBelows_nr h.2⟩
 | .bool ..,_=>rfl
 | .int ..,_=>rfl
 | .nilPtr,_=>rfl
 | .rptr ..,_=>rfl
 | .nilSl,_=>rfl
 | .rsl ..,_=>rfl
 | .nilFunc,_=>rfl
 | .rmap ..,_=>rfl
 | .opq ..,_=>rfl
 | .junk,_=>rfl
theorem refsBelows_nr {n:Nat}:∀ {cs:List AV},noRefs cs=true→refsBelows n cs=true
 | [],_=>rfl
 | c :: cs,h=>by
  simp only [noRefs,refsBelows,Bool.and_eq_true] at h ⊢
  exact ⟨Ws h.1,refsBelows_nr h.2⟩
end
def obsW (n:Nat):List Blk→List Prop
 | []=>[]
 | b :: bs=>bif b.live && !b.flat then (refsBelows n (bif b.sz == 0 then b.cells.take 1 else b.cells)=true) :: obsW n bs else obsW n bs
theorem yR {n:Nat}:∀ {bs:List Blk},AllP (obsW n bs)→(bs.all fun b=>!b.live || b.flat || refsBelows n (bif b.sz == 0 then b.cells.take 1 else b.cells))=true
 | [],_=>rfl
 | b :: bs,h=>by
  rw [List.all_cons]
  simp only [obsW] at h
  cases h1:b.live <;> cases h2:b.flat <;> simp only [h1,h2,Bool.not_false,Bool.not_true,Bool.and_true,Bool.and_false,Bool.false_and,Bool.true_and,cond_true,cond_false,Bool.or_true,Bool.true_or,Bool.false_or,Bool.or_false] at h ⊢
  all_goals first
   | exact yR h
   | (obtain ⟨a,b⟩:=h; rw [Bool.and_eq_true]; exact ⟨a,yR b⟩)
def weakP (live:List Nat) (n:Nat) (st:St):Option (St × List Prop) :=
 bif refsBelows n (qi live 0 st.tmps) then some (⟨qi live 0 st.tmps,st.blks.take n⟩,obsW n (st.blks.take n)) else none
theorem weakP_eq {live:List Nat} {n:Nat} {o:List Prop} (h:weakP live n st=some (st',o)) (ho:AllP o):weak live n st=some st':=by
 unfold weakP at h
 cases h1:refsBelows n (qi live 0 st.tmps) with
 | false=>rw [h1] at h; cases h
 | true =>
  rw [h1] at h
  simp only [cond_true,Option.some.injEq,Prod.mk.injEq] at h
  obtain ⟨rfl,rfl⟩:=h
  unfold weak
  simp only [h1,Bool.true_and]
  rw [yR ho]; rfl
def segP (P:Program) (ds:List (Nat × Nat)) (cs:List (Nat × Nat × Nat)) (live:List Nat) (m n:Nat) (K:List Item) (st:St) (evs:List EV):Option (List Item × St × List Prop) :=
 match walk P n K st evs with
 | some (K',st',_,o1)=>(match denil st' ds with
  | some st1=>(match yr st1 cs with
   | some st1=>(match weakP live m st1 with
    | some (st2,o2)=>some (K',st2,o1++o2)
    | none=>none)
   | none=>none)
  | none=>none)
 | none=>none
theorem segP_step {n m:Nat} {ds:List (Nat × Nat)} {cs:List (Nat × Nat × Nat)} {live:List Nat} {evs:List EV} {obs:List Prop} {HK:Prop} (hk:HK) (hgh:refsBelows m E.gA=true) (hmx:P.follows .mixedOrders=true)
 (h:segP P ds cs live m n K st evs=some (K',st',obs)) (ho:AllP obs) (hg:G P E K' st'):G P E K st:=by
 unfold segP at h
 split at h
 · rename_i K1 st1 evs1 o1 h1
   split at h
   · rename_i st2 h2
     split at h
     · rename_i st3 h3
       split at h
       · rename_i st4 o2 h4
         simp only [Option.some.injEq,Prod.mk.injEq] at h
         obtain ⟨rfl,rfl,rfl⟩:=h
         obtain ⟨a1,a2⟩:=Qq.1 ho
         exact QD hk hmx h1 a1 (Vp h2 (Vb h3 (Yu hgh (weakP_eq h4 a2) hg)))
       · cases h
     · cases h
   · cases h
 · cases h
/-! ### A call that turns one block of the caller's,in a region whose order is drawn -/
end
end Ax
namespace Go.Proofs.Ytemklbioijmjiaa
open Go Ax
open Go.Proofs
theorem VN {r:Rg} (h:Xv r=true):Qg r=((YU r).1,(((YU r).2.1:Nat):Int),(((YU r).2.2.1:Nat):Int),0):=by simp only [Qg,h,cond_true]
end Go.Proofs.Ytemklbioijmjiaa
namespace Ax
open Go
theorem sub_le {row:List AV} {off len:Nat}:AvLe (.rsl row off len) (.rsl (row.drop off) 0 len):=fun Z w c h=>by
 cases h with
 | @rsl _ _ _ _ cap blk o cv hz hl hc hk hr =>
  have e:(⟨blk,o+off,none⟩:Addr)=⟨blk,o+off+0,none⟩:=rfl
  rw [e]
  refine .rsl (o:=o+off) (fun i=>cv (off+i)) hz hl (fun i hi=>?_) (fun i c hi=>?_) (fun i c hi=>?_)
  · rw [List.length_drop] at hi
    have:=hc (off+i) (by omega)
    rwa [← Nat.add_assoc] at this
  · rw [List.getElem?_drop] at hi; exact hk _ c hi
  · rw [List.getElem?_drop] at hi; exact hr _ c hi
 | rsl0=>exact .rsl0
theorem flat_drop {α:Type} (c:α→List AV) {s:Nat} (hs:∀ x,(c x).length=s):∀ {l:List α} {k:Nat},(l.flatMap c).drop (k*s)=(l.drop k).flatMap c
 | [],k=>by simp
 | x :: l,0=>by simp
 | x :: l,k+1=>by
  have:=flat_drop c hs (l:=l) (k:=k)
  rw [List.flatMap_cons,List.drop_succ_cons,← this,List.drop_append,hs x,List.drop_eq_nil_of_le (by rw [hs x,Nat.add_mul]; omega),List.nil_append]
  congr 1
  rw [Nat.add_mul]; omega
theorem rsl_drop {α:Type} (c:α→List AV) {s:Nat} (hs:∀ x,(c x).length=s) {l:List α} (k:Nat) {off len:Nat} (ho:off=k*s) (hl:len=l.length - k) :
 AvLe (.rsl (l.flatMap c) off len) (.rsl ((l.drop k).flatMap c) 0 (l.drop k).length):=by
 rw [← flat_drop c hs,ho,hl,List.length_drop]; exact sub_le
theorem take_le {row:List AV} {k len:Nat}:AvLe (.rsl row 0 len) (.rsl (row.take k) 0 len):=fun Z w c h=>by
 cases h with
 | @rsl _ _ _ _ cap blk o cv hz hl hc hk hr =>
  refine .rsl cv hz hl (fun i hi=>?_) (fun i c hi=>?_) (fun i c hi=>?_)
  · rw [List.length_take] at hi; exact hc i (by omega)
  · rw [List.getElem?_take] at hi; split at hi
    · exact hk i c hi
    · cases hi
  · rw [List.getElem?_take] at hi; split at hi
    · exact hr i c hi
    · cases hi
 | rsl0=>exact .rsl0
theorem qn {α:Type} (c:α→List AV) {s:Nat} (hs:∀ x,(c x).length=s):∀ {l:List α} {k:Nat},(l.flatMap c).take (k*s)=(l.take k).flatMap c
 | [],k=>by simp
 | x :: l,0=>by simp
 | x :: l,k+1=>by
  have:=qn c hs (l:=l) (k:=k)
  rw [List.flatMap_cons,List.take_succ_cons,List.flatMap_cons,← this,List.take_append,hs x,List.take_of_length_le (by rw [hs x,Nat.add_mul]; omega)]
  congr 2
  rw [Nat.add_mul]; omega
theorem rsl_take {α:Type} (c:α→List AV) {s:Nat} (hs:∀ x,(c x).length=s) {l:List α} {len:Nat} (hl:len≤l.length) :
 AvLe (.rsl (l.flatMap c) 0 len) (.rsl ((l.take len).flatMap c) 0 (l.take len).length):=by
 rw [← qn c hs,List.length_take,Nat.min_eq_left hl]; exact take_le
section
variable {P:Program} {E:Env} {K:List Item} {st:St}
end
end Ax
namespace Ax
open Go
def WJ {α:Type}:List α→Nat→List α→List α
 | l,_,[]=>l
 | l,d,v :: vs=>WJ (l.set d v) (d+1) vs
theorem XH {α:Type}:∀ {x l:List α} {d:Nat},(WJ l d x).length=l.length
 | [],l,d=>rfl
 | v :: x,l,d=>by simp only [WJ]; rw [XH]; simp
theorem setAt_two:∀ {a b c:List AV} {off:Nat},Qx c off (a++b)=Qx (Qx c off a) (off+a.length) b
 | [],b,c,off=>rfl
 | x :: a,b,c,off=>by
  simp only [List.cons_append,Qx,List.length_cons]
  rw [setAt_two,show off+1+a.length=off+(a.length+1) by omega]
theorem setAt_mid:∀ {x c p:List AV},c.length=x.length→Qx (p++c) p.length x=p++x
 | [],c,p,h=>by rw [List.length_eq_zero_iff.1 h]; rfl
 | v :: x,[],p,h=>by simp at h
 | v :: x,y :: c,p,h=>by
  have e:(p++y :: c).set p.length v=(p++[v])++c:=by
   rw [List.set_append_right (h:=Nat.le_refl _),Nat.sub_self,List.set_cons_zero,List.append_assoc]; rfl
  simp only [Qx]
  rw [e,show p.length+1=(p++[v]).length by simp,setAt_mid (p:=p++[v]) (by simpa using h),List.append_assoc]; rfl
theorem qO {x c:List AV} (h:c.length=x.length):Qx c 0 x=x:=setAt_mid (p:=[]) h
theorem qv {α:Type}:∀ {x l:List α} {d i:Nat},d+x.length≤l.length→(WJ l d x)[i]?=if d≤i∧i<d+x.length then x[i - d]? else l[i]?
 | [],l,d,i,h=>by simp only [WJ,List.length_nil]; rw [if_neg (by omega)]
 | v :: x,l,d,i,h=>by
  simp only [List.length_cons] at h ⊢
  simp only [WJ]
  rw [qv (by simp; omega)]
  by_cases c:d+1≤i∧i<d+1+x.length
  · rw [if_pos c,if_pos (by omega),show i - d=(i - (d+1))+1 by omega,List.getElem?_cons_succ]
  · rw [if_neg c]
    by_cases e:d=i
    · subst e
      rw [if_pos (by omega),List.getElem?_set_self (by omega),Nat.sub_self]; rfl
    · rw [if_neg (by omega),List.getElem?_set_ne e]
section
variable {α:Type} (f:α→List AV) {s:Nat} (hf:∀ a,(f a).length=s)
include hf
theorem copy_row0:∀ (x l:List α) (d:Nat),d+x.length≤l.length→Qx (l.flatMap f) (d*s) (x.flatMap f)=(WJ l d x).flatMap f
 | [],l,d,h=>rfl
 | v :: x,l,d,h=>by
  simp only [List.length_cons] at h
  rw [List.flatMap_cons,setAt_two,hf]
  have hd:l[d]?=some (l[d]'(by omega)):=List.getElem?_eq_getElem (by omega)
  have h1:=QF f hf (k:=0) (xs:=f v) (a':=v) hd (qO (by rw [hf,hf])) (by rw [hf]; omega)
  rw [show 0+d*s+0=d*s by omega] at h1
  rw [h1,show d*s+s=(d+1)*s by rw [Nat.add_mul]; omega]
  exact copy_row0 x (l.set d v) (d+1) (by simp; omega)
theorem copy_row {l sc:List α} {d si n off:Nat} (h1:d+n≤l.length) (h2:si+n≤sc.length) (he:off=d*s):Qx (l.flatMap f) off (((sc.drop si).take n).flatMap f)=(WJ l d ((sc.drop si).take n)).flatMap f:=by
 rw [he]
 exact copy_row0 f hf _ l d (by rw [List.length_take,List.length_drop]; omega)
theorem copy_fits {l:List α} {d n off:Nat} (h:d+n≤l.length) (he:off=d*s):off+n*s≤(l.flatMap f).length:=by
 rw [XJ f hf,he,← Nat.add_mul]
 exact Nat.mul_le_mul_right s h
theorem copy_src {sc:List α} {si so:Nat} (n:Nat) (he:so=si*s):((sc.flatMap f).drop so).take (n*s)=((sc.drop si).take n).flatMap f:=by
 have hd:∀ (k:Nat) (l:List α),(l.flatMap f).drop (k*s)=(l.drop k).flatMap f:=by
  intro k
  induction k with
  | zero=>intro l; simp
  | succ k ih =>
   intro l
   cases l with
   | nil=>simp
   | cons a l =>
    rw [List.flatMap_cons,List.drop_succ_cons,← ih l,show (k+1)*s=(f a).length+k*s by rw [hf,Nat.add_mul]; omega,← List.drop_drop,List.drop_left]
 rw [he,hd,qn f hf]
theorem copy_len {sc:List α} {si n:Nat} (h:si+n≤sc.length):(((sc.drop si).take n).flatMap f).length=n*s:=by
 rw [XJ f hf,List.length_take,List.length_drop,Nat.min_eq_left (by omega)]
end
end Ax
namespace Ax
open Go
section
variable {P:Program} {E:Env} {K K':List Item} {st st':St}
theorem eqIn_slice3 {w:World} (d:Nat) {t e:TypeId} (len cap:Nat) (h:P.underlying t=some (.slice e)):(Op.equalIn (d+1) t (.slice none len cap) (.slice none 0 0)).run P w=.ok true w:=by
 simp [Op.equalIn,run_underlying h]
theorem nil_run {Z:Nat→Prop} {w:World} {C:Ctx} {t e n off:Nat} {row:List AV} {ox oy:Operand} {cx cy:Value} (hx:VR Z w C (.rsl row off n) cx) (hy:VR Z w C .nilSl cy) (hd:P.underlying t=some (.slice e)) :
 ∃ b,(b=true→n=0)∧(do eqGuard .eql t ox oy cx cy; binOp .eql t cx cy).run P w=.ok (.bool b) w:=by
 have fin:∀ {b:Bool},(b=true→n=0)→(eqGuard .eql t ox oy cx cy).run P w=.ok () w→(binOp .eql t cx cy).run P w=.ok (.bool b) w→∃ b,(b=true→n=0)∧(do eqGuard .eql t ox oy cx cy; binOp .eql t cx cy).run P w=.ok (.bool b) w:=fun h0 h1 h2 =>
  ⟨_,h0,by simp only [Sem.run_bind,h1,Result.andThen_ok,h2]⟩
 cases hy
 cases hx with
 | rsl=>exact fin (fun h=>by cases h) (by rw [eqGuard_at_slice]; rfl) (YF rfl (YG 9999 _ _ _ hd))
 | @rsl0 _ _ _ _ a =>
  cases a with
  | none=>exact fin (fun _=>rfl) (by rw [eqGuard_at_slice]; rfl) (YF rfl (eqIn_slice3 9999 _ _ hd))
  | some a=>exact fin (fun h=>by cases h) (by rw [eqGuard_at_slice]; rfl) (YF rfl (YG 9999 _ _ _ hd))
def nilA (P:Program) (K:List Item) (st:St):Option (List Item × Option Nat × Nat) :=
 match K with
 | .inRegion ops (i :: rest) :: k =>
  (match ops[i]? with
  | some { dst:=d,op:=.binOp .eql t x y _,type:=_,pos:=_,after:=_,guard:=none } =>
   (match XR st.tmps x,XR st.tmps y,P.underlying t with
   | .rsl _ _ n,.nilSl,some (.slice _)=>some (.inRegion ops rest :: k,d,n)
   | _,_,_=>none)
  | _=>none)
 | _=>none
theorem nil_at {d:Option Nat} {m:Nat} (h:nilA P K st=some (K',d,m)) (hg:∀ b:Bool,(b=true→m=0)→G P E K' ⟨putA st.tmps d (.bool b),st.blks⟩):G P E K st:=by
 unfold nilA at h
 split at h
 · rename_i ops i rest k
   split at h
   · rename_i d' t x y g ty pos af hoi
     split at h
     · rename_i row off n e hx hy ht
       simp only [Option.some.injEq,Prod.mk.injEq] at h
       obtain ⟨rfl,rfl,rfl⟩:=h
       intro C Z a w hr
       have hwc:Region.wanted { dst:=d',op:=.binOp .eql t x y g,type:=ty,pos:=pos,after:=af,guard:=none } (yielded ops a.tmps)=true:=by simp [Region.wanted]
       have hgo:=stepGR_op (P:=P) (b:=E.b) (a:=a) (k:=k) (cs:=E.cs) (w:=w) (rest:=rest) hoi hwc
       rw [Oper.semAt_eq _ _ _ (by intro c hc; cases hc)] at hgo
       have h1:=QY hr.tmp x
       have h2:=QY hr.tmp y
       rw [hx] at h1
       rw [hy] at h2
       obtain ⟨b,hb0,hb⟩:=nil_run (P:=P) (ox:=x) (oy:=y) h1 h2 ht
       have hfin:∀ v,(E.b.atR a (.inRegion ops (i :: rest) :: k)).finish v=E.b.atR (a.put d' v) (.inRegion ops rest :: k):=by
        intro v; rw [Frame.finish_atR,hoi]; rfl
       have hexec:(execOp a.eval { dst:=d',op:=.binOp .eql t x y g,type:=ty,pos:=pos,after:=af,guard:=none }).run P w=.ok (.value (.bool b)) w:=by
        simp only [Sem.run_bind] at hb
        simp only [execOp,Sem.run_bind,Sem.run_pure]
        rw [hb]; rfl
       refine .step (.one (step_lone_go ?_)) (hg b hb0 C Z (a.put d' (.bool b)) w ⟨hr.tmp.put (.bool b) d',hr.mem,?_,hr.gh,hr.base⟩)
       · rw [hgo,← hfin]; simp [stepG.apply,hexec]
       · have:(a.put d' (.bool b)).defers=a.defers:=by cases d' <;> rfl
         rw [this]; exact hr.marks
     · cases h
   · cases h
 · cases h
/-- A cell,wherever it lies,that holds a slice over a block of the call's own: laid down. -/
theorem layS_step {j c k g off len sz:Nat} {bj bk:Blk} {cells':List AV} (hbj:st.blks[j]?=some bj) (hl:bj.live=true) (hz:bj.sz ≠ 0) (hc:bj.cells[c]?=some (.sl k g off len sz))
 (hbk:st.blks[k]?=some bk) (hk:(bk.live && bk.flat && bk.sz != 0)=true) (hkj:(k == j)=false) (hg:g=bk.gen) (he:bj.cells.set c (.rsl bk.cells off len)=cells') (hn:noRefs cells'=true)
 (h:G P E K ⟨st.tmps,(st.blks.set k (yV bk)).set j { bj with cells:=cells',flat:=true }⟩):G P E K st:=by
 have hz':(bj.sz != 0)=true:=by simpa using hz
 have e:qf st j c=some (⟨st.tmps,(st.blks.set k (yV bk)).set j { bj with cells:=cells',flat:=true }⟩,[g=bk.gen]):=by
  unfold qf
  rw [hbj]
  simp only [hl,hz',Bool.and_self]
  rw [hc]
  simp only
  rw [hbk]
  simp only [hk,hkj]
  rw [he,hn]
 exact Wv e ⟨hg,trivial⟩ h
theorem VH {l:List AV} {off:Nat} {v:AV} (h:off<l.length):(Qx l off [v])[off]?=some v:=by
 simp only [Qx]
 rw [List.getElem?_set_self h]
theorem setAt_ld {l:List AV} {off:Nat} {v:AV} (h:off<l.length):((Qx l off [v]).drop off).take 1=[v]:=by
 have h1:=VH (v:=v) h
 have h2:off<(Qx l off [v]).length:=(List.getElem?_eq_some_iff.1 h1).1
 rw [List.drop_eq_getElem_cons h2]
 have:(Qx l off [v])[off]=v:=(List.getElem?_eq_some_iff.1 h1).2
 rw [this]; rfl
theorem WR {α:Type} (f:α→List AV) {s:Nat} (hf:∀ a,(f a).length=s) {l:List α} {i:Nat} {a b:α} {u v:AV} (h:l[i]?=some a) (hs:s=1) (hb:f b=[v]) {off:Nat} (ho:off=0+i*1):(Qx (l.flatMap f) off [u]).set off v=(l.set i b).flatMap f:=by
 subst hs
 have h1:=QF f (s:=1) (k:=0) hf h (a':=b) (xs:=f b) (qO (by rw [hf,hf])) (by rw [hf]; omega)
 rw [hb,show 0+i*1+0=off by omega] at h1
 rw [← h1]
 simp only [Qx,List.set_set]
theorem qE {n off:Nat} {v:AV}:∀ {l:List AV},noRefs l=true→QG n v=true→refsBelows n (l.set off v)=true:=by
 intro l
 induction l generalizing off with
 | nil=>intro _ _; rfl
 | cons c cs ih =>
  intro h hv
  simp only [noRefs,Bool.and_eq_true] at h
  cases off with
  | zero=>simp only [List.set_cons_zero,refsBelows,hv,refsBelows_nr h.2,Bool.and_self]
  | succ off=>simp only [List.set_cons_succ,refsBelows,Ws h.1,ih h.2 hv,Bool.and_self]
theorem yJ {n off:Nat} {v:AV} {l:List AV} (h:noRefs l=true) (hv:QG n v=true):refsBelows n (Qx l off [v])=true:=qE h hv
/-- A cell,wherever it lies,seen with less in it. -/
theorem cell_step {j c:Nat} {bj:Blk} {v v':AV} {cells':List AV} (hb:st.blks[j]?=some bj) (hl:bj.live=true) (hz:bj.sz ≠ 0) (hc:bj.cells[c]?=some v) (hv:Xj v=true) (hk:QQ v'=true) (hle:AvLe v v')
 (he:bj.cells.set c v'=cells') (hn:noRefs cells'=true) (h:G P E K ⟨st.tmps,st.blks.set j { bj with cells:=cells',flat:=true }⟩):G P E K st:=by
 intro C Z a w hr
 have m:=Mem.recell (v':=v') hr.mem hb hl hz hc hk (fun blk o arr te hs hh=>by
  obtain ⟨q1,q2⟩:=hr.mem.blk j bj hb hl
  simp only [hs] at q2
  obtain ⟨arr',te',r1,r2,r3⟩:=q2.cells hz
  rw [hh] at r1; simp only [Option.some.injEq,Obj.cells.injEq] at r1; obtain ⟨rfl,rfl,-⟩:=r1
  obtain ⟨y,s1,s2⟩:=r3 c _ hc
  refine ⟨y,s1,VR.of0 (hle _ _ _ ?_)⟩
  cases hf:bj.flat with
  | true=>rw [hf] at s2; simpa using s2
  | false=>rw [hf] at s2; exact VR.ctx (by simpa using s2) hv)
 rw [he,hn] at m
 exact h C Z a w ⟨hr.tmp,m,hr.marks,hr.gh,hr.base⟩
end
end Ax

namespace Go.Proofs.Ytemklbioijmjiaa
open Go Ax
open Go.Proofs
structure BPart where
 w:Int
 m:Int
 pins:Int
 needs:List Int
def cBp (t:BPart):List AV:=[.int .i64 t.w,.int .i64 t.m,.int .i64 t.pins,.rsl (rowI t.needs) 0 t.needs.length]
def Qt (l:List BPart):List AV:=l.flatMap cBp
structure BKit where
 parts:List BPart
 crane:Int
 vans:List (List Int)
structure Yard where
 k:BKit
 above:List (List Int)
 below:List (List Int)
structure KitSmall (k:BKit):Prop where
 parts:k.parts.length≤20
 needs:∀ p ∈ k.parts,p.needs.length≤20
 vans:k.vans.length≤10
 van:∀ v ∈ k.vans,v.length≤30
/-! ### What can be put up -/
def InN (n:Nat) (l:List Int):Prop:=∀ x ∈ l,0≤x∧x<(n:Int)
def allB (s:List Bool) (l:List Int):Bool:=!(l.any fun x=>!(s.getD x.toNat false))
def upB (y:Yard) (s:List Bool) (p:Int):Bool:=!(s.getD p.toNat false) && (allB s (y.k.parts.getD p.toNat ⟨0,0,0,[]⟩).needs && (decide ((y.k.parts.getD p.toNat ⟨0,0,0,[]⟩).w≤y.k.crane) && allB s (y.above.getD p.toNat [])))
structure YardOk (y:Yard):Prop where
 n:y.k.parts.length≤16
 needs:∀ p ∈ y.k.parts,InN y.k.parts.length p.needs∧p.needs.length≤1000
 alen:y.above.length=y.k.parts.length
 above:∀ l ∈ y.above,InN y.k.parts.length l∧l.length≤1000
/-- The lowest part that can be put up,again and again. -/
def qF (up:List Bool→Int→Bool):Nat→List Bool→List Int→List Int × List Bool
 | 0,s,out=>(out,s)
 | m+1,s,out=>match (List.range s.length).find? (fun (p:Nat)=>up s (p:Int)) with
  | some p=>qF up m (s.set p true) (out++[(p:Int)])
  | none=>(out,s)
def ordK (y:Yard):List Int × List Bool:=qF (upB y) y.k.parts.length (List.replicate y.k.parts.length false) []
def idxG {α:Type} (p:α→Bool) (l:List α):Int:=match l.findIdx? p with
 | some i=>(i:Int)
 | none=>-1
theorem qj {α:Type} (p:α→Bool) (l:List α):∀ (d i:Nat),i+d=l.length→(∀ j x,j<i→l[j]?=some x→p x=false)→∀ (Q:Nat→Prop),(∀ i,i<l.length→(∀ x,l[i]?=some x→(p x=true→idxG p l=i))→(∀ x,l[i]?=some x→p x=false→Q (i+1))→Q i) →
 ((∀ x ∈ l,p x=false)→idxG p l=-1→Q l.length)→Q i:=by
 intro d
 induction d with
 | zero =>
  intro i hi hp Q h1 h2
  have:i=l.length:=by omega
  subst this
  have hall:∀ x ∈ l,p x=false:=fun x hx=>by
   obtain ⟨j,hj⟩:=List.getElem?_of_mem hx
   exact hp j x (List.getElem?_eq_some_iff.1 hj).1 hj
  exact h2 hall (by simp only [idxG]; rw [List.findIdx?_eq_none_iff.2 hall])
 | succ d ih =>
  intro i hi hp Q h1 h2
  refine h1 i (by omega) (fun x hx hpx=>?_) (fun x hx hpx=>ih (i+1) (by omega) (fun j y hj hy=>?_) Q h1 h2)
  · have:l.findIdx? p=some i:=by
     rw [List.findIdx?_eq_some_iff_getElem]
     have hlt:=(List.getElem?_eq_some_iff.1 hx).1
     have he:=(List.getElem?_eq_some_iff.1 hx).2
     refine ⟨hlt,by rw [he]; exact hpx,fun j hj=>?_⟩
     have:=hp j _ hj (List.getElem?_eq_getElem (by omega))
     simp [this]
    simp only [idxG,this]
  · rcases Nat.lt_or_ge j i with h | h
    · exact hp j y h hy
    · have:j=i:=by omega
      subst this
      rw [hx] at hy; cases hy; exact hpx
theorem yY {α:Type} (p:α→Bool) (l:List α):decide (idxG p l≥0)=l.any p:=by
 cases h:l.findIdx? p with
 | none =>
  have e:idxG p l=-1:=by simp only [idxG,h]
  rw [e]
  rw [List.findIdx?_eq_none_iff] at h
  rw [show l.any p=false from by simpa using fun x hx=>by simpa using h x hx]; rfl
 | some i =>
  have e:idxG p l=(i:Int):=by simp only [idxG,h]
  rw [e]
  have:=List.findIdx?_eq_some_iff_getElem.1 h
  obtain ⟨h1,h2,-⟩:=this
  have:l.any p=true:=by rw [List.any_eq_true]; exact ⟨l[i],List.getElem_mem _,h2⟩
  rw [this]; simp
theorem f117b:Try.f117.body=some (Qc Try.prog 117):=by kernel_rfl
theorem u117 {a c k:List AV} {r:AV} (h:Pure Try.prog 117 (a++c++k) r):Qe Try.prog (.clos 117 a k) c r:=Qo Try.func117 (by kernel_rfl) f117b h
theorem p117_start_0 (n:Int) (lo:Int) (hi:Int) {E:Env} {res:AV} (hE:Qd Try.prog 117 res E) (ho:AllP [(decide (n≥lo))=true])
 (hr:AvLe (.bool (decide (n≤hi))) res):G Try.prog E [.code (Qc Try.prog 117)] ⟨[.int .i64 n,.int .i64 lo,.int .i64 hi]++unds (Try.f117.ntmps - 3),[]⟩ :=
 Qb (n:=400) (evs:=[.b true]) (obs:=_) hE Try.func117 Qi (by kernel_rfl) ho hr
theorem p117_start_1 (n:Int) (lo:Int) (hi:Int) {E:Env} {res:AV} (hE:Qd Try.prog 117 res E) (ho:AllP [(decide (n≥lo))=false])
 (hr:AvLe (.bool false) res):G Try.prog E [.code (Qc Try.prog 117)] ⟨[.int .i64 n,.int .i64 lo,.int .i64 hi]++unds (Try.f117.ntmps - 3),[]⟩ :=
 Qb (n:=400) (evs:=[.b false]) (obs:=_) hE Try.func117 Qi (by kernel_rfl) ho hr
theorem f117W (n:Int) (lo:Int) (hi:Int) {E:Env} {rv:Bool} (hE:Qd Try.prog 117 (.bool rv) E)
 (h:((n≥lo→rv=(decide (n≤hi)))∧(¬ (n≥lo)→rv=false))):G Try.prog E [.code (Qc Try.prog 117)] ⟨[.int .i64 n,.int .i64 lo,.int .i64 hi]++unds (Try.f117.ntmps - 3),[]⟩:=by
 rcases bft (decide (n≥lo)) with hc0 | hc0
 · have h:=h.1 (odt hc0)
   exact p117_start_0 n lo hi hE ⟨hc0,trivial⟩ (AvLe.of_eq (by rw [h]; try rfl))
 · have h:=h.2 (odf hc0)
   exact p117_start_1 n lo hi hE ⟨hc0,trivial⟩ (AvLe.of_eq (by rw [h]; try rfl))
def Qa (n lo hi:Int):Bool:=decide (n≥lo) && decide (n≤hi)
theorem Yg {n lo hi:Int}:Qa n lo hi=true ↔ lo≤n∧n≤hi:=by
 simp only [Qa,Bool.and_eq_true,decide_eq_true_eq,ge_iff_le]
theorem QN (n lo hi:Int):Pure Try.prog 117 [.int .i64 n,.int .i64 lo,.int .i64 hi] (.bool (Qa n lo hi)):=Qy Try.func117 f117b fun E hE=>by
 refine f117W n lo hi hE ⟨fun h=>by simp [Qa,h],fun h=>by simp [Qa,h]⟩
theorem f241b:Try.f241.body=some (Qc Try.prog 241):=by kernel_rfl
theorem u241 {a c k:List AV} {r:AV} (h:Pure Try.prog 241 (a++c++k) r):Qe Try.prog (.clos 241 a k) c r:=Qo Try.func241 (by kernel_rfl) f241b h
theorem p241_start_0 (p:Int) (s:List Bool) (eb:Bool) {E:Env} {res:AV} (hE:Qd Try.prog 241 res E) (ho:AllP [0≤p∧p<(s.length:Int),((rowB s).drop (0+(Int.toNat p)*1)).take 1=[.bool eb]])
 (hr:AvLe (.bool (!eb)) res):G Try.prog E [.code (Qc Try.prog 241)] ⟨[.int .i64 p,.rptr [.rsl (rowB s) 0 s.length] 0]++unds (Try.f241.ntmps - 2),[]⟩ :=
 Qb (n:=400) (evs:=[.auto,.ld (.bool eb)]) (obs:=_) hE Try.func241 Qi (by kernel_rfl) ho hr
theorem f241W (p:Int) (s:List Bool) {E:Env} {rv:Bool} (hE:Qd Try.prog 241 (.bool rv) E)
 (h:(0≤p∧(∃ eb:Bool,s[Int.toNat p]?=some eb∧rv=(!eb)))):G Try.prog E [.code (Qc Try.prog 241)] ⟨[.int .i64 p,.rptr [.rsl (rowB s) 0 s.length] 0]++unds (Try.f241.ntmps - 2),[]⟩:=by
 obtain ⟨h2,h⟩:=h
 obtain ⟨eb,h1,h⟩:=h
 exact p241_start_0 p s eb hE ⟨(Qw h2 h1),(rp cB 1 0 1 h1),trivial⟩ (AvLe.of_eq (by rw [h]; try rfl))
theorem notin_ok (p:Int) (s:List Bool) (h:0≤p∧p<(s.length:Int)):Pure Try.prog 241 [.int .i64 p,.rptr [.rsl (rowB s) 0 s.length] 0] (.bool (!(s.getD p.toNat false))):=Qy Try.func241 f241b fun E hE=>by
 have hg:s[Int.toNat p]?=some (s[Int.toNat p]'(by omega)):=List.getElem?_eq_getElem (by omega)
 have e:s.getD p.toNat false=s[Int.toNat p]'(by omega):=by simp [List.getD,hg]
 rw [e] at hE
 exact f241W p s hE ⟨h.1,_,hg,rfl⟩
theorem f59sb:Try.f59.body=some (Qc Try.prog 59):=by kernel_rfl
def ye (P:Program):List Item:=kAt 400 [.code (Qc P 59)] [.stop]
def f59sS0 (l:(List Int)) (s:List Bool) (i:Nat):St:=⟨([.rsl (rowI l) 0 l.length,.clos 241 [] [.rptr [.rsl (rowB s) 0 s.length] 0]]++jj 5 ([.int .i64 (l.length:Int),.int .i64 (i:Int)]++Js 10)),[]⟩
def f59sG0 (E:Env) (l:(List Int)) (s:List Bool) (i:Nat):Prop:=G Try.prog E (ye Try.prog) (f59sS0 l s i )
theorem p59s_start_0 (l:(List Int)) (s:List Bool) {E:Env} {rv:AV} (hE:Qd Try.prog 59 rv E) (ho:AllP [])
 (hg:G Try.prog E (ye Try.prog) ⟨([.rsl (rowI l) 0 l.length,.clos 241 [] [.rptr [.rsl (rowB s) 0 s.length] 0]]++jj 5 ([.int .i64 (l.length:Int),.int .i64 0]++Js 10)),[]⟩):G Try.prog E [.code (Qc Try.prog 59)] ⟨[.rsl (rowI l) 0 l.length,.clos 241 [] [.rptr [.rsl (rowB s) 0 s.length] 0]]++unds (Try.f59.ntmps - 2),[]⟩ :=
 Ql (n:=400) (ds:=[]) (cs:=[]) (live:=[0,1,7,8]) (m:=0) (evs:=[.stop]) (obs:=_) hE.2.1 (hE.nogh _) Qi (by kernel_rfl) ho hg
theorem f59sW (l:(List Int)) (s:List Bool) {E:Env} {rv:Int} (hE:Qd Try.prog 59 (.int .i64 rv) E)
 (h:f59sG0 E l s 0):G Try.prog E [.code (Qc Try.prog 59)] ⟨[.rsl (rowI l) 0 l.length,.clos 241 [] [.rptr [.rsl (rowB s) 0 s.length] 0]]++unds (Try.f59.ntmps - 2),[]⟩:=by
 exact p59s_start_0 l s hE trivial h
theorem p59s_0_0 (l:(List Int)) (s:List Bool) (i:Nat) (e:Int) {E:Env} {res:AV} (hE:Qd Try.prog 59 res E) (ho:AllP [(decide ((i:Int)<(l.length:Int)))=true,0≤(i:Int)∧(i:Int)<(l.length:Int),((rowI l).drop (0+(Int.toNat (i:Int))*1)).take 1=[.int .i64 e],Qe Try.prog (.clos 241 [] [.rptr [.rsl (rowB s) 0 s.length] 0]) [.int .i64 e] (.bool (!(s.getD (Int.toNat e) false))),(!(s.getD (Int.toNat e) false))=true])
 (hr:AvLe (.int .i64 (i:Int)) res):G Try.prog E (ye Try.prog) (f59sS0 l s i ) :=
 Qb (n:=400) (evs:=[.b true,.ld (.int .i64 e),.v (.bool (!(s.getD (Int.toNat e) false))),.b true]) (obs:=_) hE Try.func59 Qi (by kernel_rfl) ho hr
theorem p59s_0_1 (l:(List Int)) (s:List Bool) (i:Nat) (e:Int) {E:Env} {rv:AV} (hE:Qd Try.prog 59 rv E) (ho:AllP [(decide ((i:Int)<(l.length:Int)))=true,0≤(i:Int)∧(i:Int)<(l.length:Int),((rowI l).drop (0+(Int.toNat (i:Int))*1)).take 1=[.int .i64 e],Qe Try.prog (.clos 241 [] [.rptr [.rsl (rowB s) 0 s.length] 0]) [.int .i64 e] (.bool (!(s.getD (Int.toNat e) false))),(!(s.getD (Int.toNat e) false))=false,InR .i64 ((i:Int)+1)])
 (hg:G Try.prog E (ye Try.prog) ⟨([.rsl (rowI l) 0 l.length,.clos 241 [] [.rptr [.rsl (rowB s) 0 s.length] 0]]++jj 5 ([.int .i64 (l.length:Int),.int .i64 ((i:Int)+1)]++Js 10)),[]⟩):G Try.prog E (ye Try.prog) (f59sS0 l s i ) :=
 Ql (n:=400) (ds:=[]) (cs:=[]) (live:=[0,1,7,8]) (m:=0) (evs:=[.b true,.ld (.int .i64 e),.v (.bool (!(s.getD (Int.toNat e) false))),.b false,.stop]) (obs:=_) hE.2.1 (hE.nogh _) Qi (by kernel_rfl) ho hg
theorem p59s_0_2 (l:(List Int)) (s:List Bool) (i:Nat) {E:Env} {res:AV} (hE:Qd Try.prog 59 res E) (ho:AllP [(decide ((i:Int)<(l.length:Int)))=false])
 (hr:AvLe (.int .i64 (-1)) res):G Try.prog E (ye Try.prog) (f59sS0 l s i ) :=
 Qb (n:=400) (evs:=[.b false]) (obs:=_) hE Try.func59 Qi (by kernel_rfl) ho hr
theorem f59sW0 (l:(List Int)) (s:List Bool) (i:Nat) {E:Env} {rv:Int} (hE:Qd Try.prog 59 (.int .i64 rv) E)
 (h:(((i:Int)<(l.length:Int)→(∃ e:Int,l[i]?=some e∧((0≤e∧e<(s.length:Int))∧(((s.getD (Int.toNat e) false)=false→rv=(i:Int))∧((s.getD (Int.toNat e) false)=true→((I6 ((i:Int)+1))∧f59sG0 E l s (i+1)))))))∧(¬ ((i:Int)<(l.length:Int))→rv=(-1)))):f59sG0 E l s i:=by
 rcases bft (decide ((i:Int)<(l.length:Int))) with hc0 | hc0
 · have h:=h.1 (odt hc0)
   obtain ⟨e,h1,h⟩:=h
   obtain ⟨h2,h⟩:=h
   rcases bft (!(s.getD (Int.toNat e) false)) with hc1 | hc1
   · have h:=h.1 (bnT hc1)
     exact p59s_0_0 l s i e hE ⟨hc0,(Qr h1),(rp cI 1 0 1 h1),(u241 (notin_ok e s h2)),hc1,trivial⟩ (AvLe.of_eq (by rw [h]; try rfl))
   · have h:=h.2 (bnF hc1)
     obtain ⟨q6_2,h⟩:=h
     exact p59s_0_1 l s i e hE ⟨hc0,(Qr h1),(rp cI 1 0 1 h1),(u241 (notin_ok e s h2)),hc1,q6_2,trivial⟩ h
 · have h:=h.2 (odf hc0)
   exact p59s_0_2 l s i hE ⟨hc0,trivial⟩ (AvLe.of_eq (by rw [h]; try rfl))
theorem idxNotIn_ok (l:List Int) (s:List Bool) (h:(∀ x ∈ l,0≤x∧x<(s.length:Int))∧l.length≤9223372036854775807):Pure Try.prog 59 [.rsl (rowI l) 0 l.length,.clos 241 [] [.rptr [.rsl (rowB s) 0 s.length] 0]] (.int .i64 (idxG (fun x=>!(s.getD (Int.toNat x) false)) l)):=Qy Try.func59 f59sb fun E hE=>by
 have hl:=h.2
 refine f59sW l s (rv:=idxG (fun x=>!(s.getD (Int.toNat x) false)) l) hE (qj (fun x=>!(s.getD (Int.toNat x) false)) l l.length 0 (by omega) (fun j x hj=>by omega) (fun i=>f59sG0 E l s i) (fun i hi' h1 h2=>?_) (fun _ h2=>?_))
 · have hx:l[i]?=some l[i]:=List.getElem?_eq_getElem hi'
   have hm:=List.mem_of_getElem? hx
   exact f59sW0 l s i (rv:=idxG (fun x=>!(s.getD (Int.toNat x) false)) l) hE ⟨fun _=>⟨_,hx,h.1 _ hm,fun hp=>h1 _ hx (by simpa using hp),fun hp=>⟨by omega,h2 _ hx (by simpa using hp)⟩⟩,fun h=>by omega⟩
 · exact f59sW0 l s _ (rv:=idxG (fun x=>!(s.getD (Int.toNat x) false)) l) hE ⟨fun h=>by omega,fun _=>h2⟩
theorem f76sb:Try.f76.body=some (Qc Try.prog 76):=by kernel_rfl
theorem p76s_start_0 (l:(List Int)) (s:List Bool) {E:Env} {res:AV} (hE:Qd Try.prog 76 res E) (ho:AllP [Qe Try.prog (.clos 59 [] []) [.rsl (rowI l) 0 l.length,.clos 241 [] [.rptr [.rsl (rowB s) 0 s.length] 0]] (.int .i64 (idxG (fun x=>!(s.getD (Int.toNat x) false)) l))])
 (hr:AvLe (.bool (decide ((idxG (fun x=>!(s.getD (Int.toNat x) false)) l)≥0))) res):G Try.prog E [.code (Qc Try.prog 76)] ⟨[.rsl (rowI l) 0 l.length,.clos 241 [] [.rptr [.rsl (rowB s) 0 s.length] 0]]++unds (Try.f76.ntmps - 2),[]⟩ :=
 Qb (n:=400) (evs:=[.v (.int .i64 (idxG (fun x=>!(s.getD (Int.toNat x) false)) l))]) (obs:=_) hE Try.func76 Qi (by kernel_rfl) ho hr
theorem f76sW (l:(List Int)) (s:List Bool) {E:Env} {rv:Bool} (hE:Qd Try.prog 76 (.bool rv) E)
 (h:(((∀ x ∈ l,0≤x∧x<(s.length:Int))∧l.length≤9223372036854775807)∧rv=(decide ((idxG (fun x=>!(s.getD (Int.toNat x) false)) l)≥0)))):G Try.prog E [.code (Qc Try.prog 76)] ⟨[.rsl (rowI l) 0 l.length,.clos 241 [] [.rptr [.rsl (rowB s) 0 s.length] 0]]++unds (Try.f76.ntmps - 2),[]⟩:=by
 obtain ⟨h1,h⟩:=h
 exact p76s_start_0 l s hE ⟨(Qo Try.func59 (by kernel_rfl) f59sb (idxNotIn_ok l s h1)),trivial⟩ (AvLe.of_eq (by rw [h]; try rfl))
theorem anyNotIn_ok (l:List Int) (s:List Bool) (h:(∀ x ∈ l,0≤x∧x<(s.length:Int))∧l.length≤9223372036854775807):Pure Try.prog 76 [.rsl (rowI l) 0 l.length,.clos 241 [] [.rptr [.rsl (rowB s) 0 s.length] 0]] (.bool (l.any (fun x=>!(s.getD (Int.toNat x) false)))):=Qy Try.func76 f76sb fun E hE =>
 f76sW l s (rv:=l.any (fun x=>!(s.getD (Int.toNat x) false))) hE ⟨h,(yY _ _).symm⟩
theorem f188b:Try.f188.body=some (Qc Try.prog 188):=by kernel_rfl
theorem u188 {a c k:List AV} {r:AV} (h:Pure Try.prog 188 (a++c++k) r):Qe Try.prog (.clos 188 a k) c r:=Qo Try.func188 (by kernel_rfl) f188b h
theorem p188_start_0 (s:(List Bool)) (l:(List Int)) {E:Env} {res:AV} (hE:Qd Try.prog 188 res E) (ho:AllP [Qe Try.prog (.clos 76 [] []) [.rsl (rowI l) 0 l.length,.clos 241 [] [.rptr [.rsl (rowB s) 0 s.length] 0]] (.bool (l.any (fun x=>!(s.getD (Int.toNat x) false))))])
 (hr:AvLe (.bool (!(l.any (fun x=>!(s.getD (Int.toNat x) false))))) res):G Try.prog E [.code (Qc Try.prog 188)] ⟨[.rsl (rowB s) 0 s.length,.rsl (rowI l) 0 l.length]++unds (Try.f188.ntmps - 2),[]⟩ :=
 Qb (n:=400) (evs:=[.v (.bool (l.any (fun x=>!(s.getD (Int.toNat x) false))))]) (obs:=_) hE Try.func188 Qi (by kernel_rfl) ho hr
theorem f188W (s:(List Bool)) (l:(List Int)) {E:Env} {rv:Bool} (hE:Qd Try.prog 188 (.bool rv) E)
 (h:(((∀ x ∈ l,0≤x∧x<(s.length:Int))∧l.length≤9223372036854775807)∧rv=(!(l.any (fun x=>!(s.getD (Int.toNat x) false)))))):G Try.prog E [.code (Qc Try.prog 188)] ⟨[.rsl (rowB s) 0 s.length,.rsl (rowI l) 0 l.length]++unds (Try.f188.ntmps - 2),[]⟩:=by
 obtain ⟨h1,h⟩:=h
 exact p188_start_0 s l hE ⟨(Qo Try.func76 (by kernel_rfl) f76sb (anyNotIn_ok l s h1)),trivial⟩ (AvLe.of_eq (by rw [h]; try rfl))
theorem all_ok (s:List Bool) (l:List Int) (h:InN s.length l∧l.length≤1000):Pure Try.prog 188 [.rsl (rowB s) 0 s.length,.rsl (rowI l) 0 l.length] (.bool (allB s l)):=Qy Try.func188 f188b fun E hE=>by
 exact f188W s l (rv:=allB s l) hE ⟨⟨h.1,by omega⟩,rfl⟩
theorem f119b:Try.f119.body=some (Qc Try.prog 119):=by kernel_rfl
theorem u119 {a c k:List AV} {r:AV} (h:Pure Try.prog 119 (a++c++k) r):Qe Try.prog (.clos 119 a k) c r:=Qo Try.func119 (by kernel_rfl) f119b h
theorem p119_start_0 (y:Yard) (s:(List Bool)) (p:Int) (eb:Bool) (be:BPart) (le:(List Int)) {E:Env} {res:AV} (hE:Qd Try.prog 119 res E) (ho:AllP [0≤p∧p<(s.length:Int),((rowB s).drop (0+(Int.toNat p)*1)).take 1=[.bool eb],(!eb)=true,0≤p∧p<(y.k.parts.length:Int),((Qt y.k.parts).drop ((0+(Int.toNat p)*4)+3)).take 1=[.rsl (rowI be.needs) 0 be.needs.length],Qe Try.prog (.clos 188 [] []) [.rsl (rowB s) 0 s.length,.rsl (rowI be.needs) 0 be.needs.length] (.bool (allB s be.needs)),(allB s be.needs)=true,0≤p∧p<(y.k.parts.length:Int),((Qt y.k.parts).drop ((0+(Int.toNat p)*4)+0)).take 1=[.int .i64 be.w],(decide (be.w≤y.k.crane))=true,0≤p∧p<(y.above.length:Int),(((Qf rowI) y.above).drop (0+(Int.toNat p)*1)).take 1=[.rsl (rowI le) 0 le.length],Qe Try.prog (.clos 188 [] []) [.rsl (rowB s) 0 s.length,.rsl (rowI le) 0 le.length] (.bool (allB s le))])
 (hr:AvLe (.bool (allB s le)) res):G Try.prog E [.code (Qc Try.prog 119)] ⟨[.rptr [.rsl (Qt y.k.parts) 0 y.k.parts.length,.int .i64 y.k.crane,.rsl ((Qf rowI) y.k.vans) 0 y.k.vans.length,.rsl ((Qf rowI) y.above) 0 y.above.length,.rsl ((Qf rowI) y.below) 0 y.below.length] 0,.rsl (rowB s) 0 s.length,.int .i64 p]++unds (Try.f119.ntmps - 3),[]⟩ :=
 Qb (n:=400) (evs:=[.ld (.bool eb),.b true,.auto,.ld (.rsl (rowI be.needs) 0 be.needs.length),.v (.bool (allB s be.needs)),.b true,.auto,.ld (.int .i64 be.w),.b true,.auto,.ld (.rsl (rowI le) 0 le.length),.v (.bool (allB s le))]) (obs:=_) hE Try.func119 Qi (by kernel_rfl) ho hr
theorem p119_start_1 (y:Yard) (s:(List Bool)) (p:Int) (eb:Bool) (be:BPart) {E:Env} {res:AV} (hE:Qd Try.prog 119 res E) (ho:AllP [0≤p∧p<(s.length:Int),((rowB s).drop (0+(Int.toNat p)*1)).take 1=[.bool eb],(!eb)=true,0≤p∧p<(y.k.parts.length:Int),((Qt y.k.parts).drop ((0+(Int.toNat p)*4)+3)).take 1=[.rsl (rowI be.needs) 0 be.needs.length],Qe Try.prog (.clos 188 [] []) [.rsl (rowB s) 0 s.length,.rsl (rowI be.needs) 0 be.needs.length] (.bool (allB s be.needs)),(allB s be.needs)=true,0≤p∧p<(y.k.parts.length:Int),((Qt y.k.parts).drop ((0+(Int.toNat p)*4)+0)).take 1=[.int .i64 be.w],(decide (be.w≤y.k.crane))=false])
 (hr:AvLe (.bool false) res):G Try.prog E [.code (Qc Try.prog 119)] ⟨[.rptr [.rsl (Qt y.k.parts) 0 y.k.parts.length,.int .i64 y.k.crane,.rsl ((Qf rowI) y.k.vans) 0 y.k.vans.length,.rsl ((Qf rowI) y.above) 0 y.above.length,.rsl ((Qf rowI) y.below) 0 y.below.length] 0,.rsl (rowB s) 0 s.length,.int .i64 p]++unds (Try.f119.ntmps - 3),[]⟩ :=
 Qb (n:=400) (evs:=[.ld (.bool eb),.b true,.auto,.ld (.rsl (rowI be.needs) 0 be.needs.length),.v (.bool (allB s be.needs)),.b true,.auto,.ld (.int .i64 be.w),.b false]) (obs:=_) hE Try.func119 Qi (by kernel_rfl) ho hr
theorem p119_start_2 (y:Yard) (s:(List Bool)) (p:Int) (eb:Bool) (be:BPart) {E:Env} {res:AV} (hE:Qd Try.prog 119 res E) (ho:AllP [0≤p∧p<(s.length:Int),((rowB s).drop (0+(Int.toNat p)*1)).take 1=[.bool eb],(!eb)=true,0≤p∧p<(y.k.parts.length:Int),((Qt y.k.parts).drop ((0+(Int.toNat p)*4)+3)).take 1=[.rsl (rowI be.needs) 0 be.needs.length],Qe Try.prog (.clos 188 [] []) [.rsl (rowB s) 0 s.length,.rsl (rowI be.needs) 0 be.needs.length] (.bool (allB s be.needs)),(allB s be.needs)=false,false=false])
 (hr:AvLe (.bool false) res):G Try.prog E [.code (Qc Try.prog 119)] ⟨[.rptr [.rsl (Qt y.k.parts) 0 y.k.parts.length,.int .i64 y.k.crane,.rsl ((Qf rowI) y.k.vans) 0 y.k.vans.length,.rsl ((Qf rowI) y.above) 0 y.above.length,.rsl ((Qf rowI) y.below) 0 y.below.length] 0,.rsl (rowB s) 0 s.length,.int .i64 p]++unds (Try.f119.ntmps - 3),[]⟩ :=
 Qb (n:=400) (evs:=[.ld (.bool eb),.b true,.auto,.ld (.rsl (rowI be.needs) 0 be.needs.length),.v (.bool (allB s be.needs)),.b false,.b false]) (obs:=_) hE Try.func119 Qi (by kernel_rfl) ho hr
theorem p119_start_3 (y:Yard) (s:(List Bool)) (p:Int) (eb:Bool) {E:Env} {res:AV} (hE:Qd Try.prog 119 res E) (ho:AllP [0≤p∧p<(s.length:Int),((rowB s).drop (0+(Int.toNat p)*1)).take 1=[.bool eb],(!eb)=false,false=false,false=false])
 (hr:AvLe (.bool false) res):G Try.prog E [.code (Qc Try.prog 119)] ⟨[.rptr [.rsl (Qt y.k.parts) 0 y.k.parts.length,.int .i64 y.k.crane,.rsl ((Qf rowI) y.k.vans) 0 y.k.vans.length,.rsl ((Qf rowI) y.above) 0 y.above.length,.rsl ((Qf rowI) y.below) 0 y.below.length] 0,.rsl (rowB s) 0 s.length,.int .i64 p]++unds (Try.f119.ntmps - 3),[]⟩ :=
 Qb (n:=400) (evs:=[.ld (.bool eb),.b false,.b false,.b false]) (obs:=_) hE Try.func119 Qi (by kernel_rfl) ho hr
theorem f119W (y:Yard) (s:(List Bool)) (p:Int) {E:Env} {rv:Bool} (hE:Qd Try.prog 119 (.bool rv) E)
 (h:(0≤p∧(∃ eb:Bool,s[Int.toNat p]?=some eb∧((eb=false→(0≤p∧(∃ be:BPart,y.k.parts[Int.toNat p]?=some be∧((InN s.length be.needs∧be.needs.length≤1000)∧(((allB s be.needs)=true→((be.w≤y.k.crane→(0≤p∧(∃ le:(List Int),y.above[Int.toNat p]?=some le∧((InN s.length le∧le.length≤1000)∧rv=(allB s le)))))∧(¬ (be.w≤y.k.crane)→rv=false)))∧((allB s be.needs)=false→rv=false))))))∧(eb=true→rv=false))))):G Try.prog E [.code (Qc Try.prog 119)] ⟨[.rptr [.rsl (Qt y.k.parts) 0 y.k.parts.length,.int .i64 y.k.crane,.rsl ((Qf rowI) y.k.vans) 0 y.k.vans.length,.rsl ((Qf rowI) y.above) 0 y.above.length,.rsl ((Qf rowI) y.below) 0 y.below.length] 0,.rsl (rowB s) 0 s.length,.int .i64 p]++unds (Try.f119.ntmps - 3),[]⟩:=by
 obtain ⟨h2,h⟩:=h
 obtain ⟨eb,h1,h⟩:=h
 rcases bft (!eb) with hc0 | hc0
 · have h:=h.1 (bnT hc0)
   obtain ⟨h4,h⟩:=h
   obtain ⟨be,h3,h⟩:=h
   obtain ⟨h5,h⟩:=h
   rcases bft (allB s be.needs) with hc1 | hc1
   · have h:=h.1 hc1
     rcases bft (decide (be.w≤y.k.crane)) with hc2 | hc2
     · have h:=h.1 (odt hc2)
       obtain ⟨h7,h⟩:=h
       obtain ⟨le,h6,h⟩:=h
       obtain ⟨h8,h⟩:=h
       exact p119_start_0 y s p eb be le hE ⟨(Qw h2 h1),(rp cB 1 0 1 h1),hc0,(Qw h4 h3),(rp cBp 4 3 1 h3),(u188 (all_ok s be.needs h5)),hc1,(Qw h4 h3),(rp cBp 4 0 1 h3),hc2,(Qw h7 h6),(rp (cLs rowI) 1 0 1 h6),(u188 (all_ok s le h8)),trivial⟩ (AvLe.of_eq (by rw [h]; try rfl))
     · have h:=h.2 (odf hc2)
       exact p119_start_1 y s p eb be hE ⟨(Qw h2 h1),(rp cB 1 0 1 h1),hc0,(Qw h4 h3),(rp cBp 4 3 1 h3),(u188 (all_ok s be.needs h5)),hc1,(Qw h4 h3),(rp cBp 4 0 1 h3),hc2,trivial⟩ (AvLe.of_eq (by rw [h]; try rfl))
   · have h:=h.2 hc1
     exact p119_start_2 y s p eb be hE ⟨(Qw h2 h1),(rp cB 1 0 1 h1),hc0,(Qw h4 h3),(rp cBp 4 3 1 h3),(u188 (all_ok s be.needs h5)),hc1,rfl,trivial⟩ (AvLe.of_eq (by rw [h]; try rfl))
 · have h:=h.2 (bnF hc0)
   exact p119_start_3 y s p eb hE ⟨(Qw h2 h1),(rp cB 1 0 1 h1),hc0,rfl,rfl,trivial⟩ (AvLe.of_eq (by rw [h]; try rfl))
theorem Xy {α:Type} {l:List α} {i:Int} (d:α) (h:0≤i∧i<(l.length:Int)):l[Int.toNat i]?=some (l.getD (Int.toNat i) d):=by
 have:Int.toNat i<l.length:=by omega
 simp [List.getD,this]
theorem up_ok (y:Yard) (s:List Bool) (p:Int) (h:YardOk y∧s.length=y.k.parts.length∧(0≤p∧p<(s.length:Int))):Pure Try.prog 119 [.rptr [.rsl (Qt y.k.parts) 0 y.k.parts.length,.int .i64 y.k.crane,.rsl (Qf rowI y.k.vans) 0 y.k.vans.length,.rsl (Qf rowI y.above) 0 y.above.length,.rsl (Qf rowI y.below) 0 y.below.length] 0,.rsl (rowB s) 0 s.length,.int .i64 p] (.bool (upB y s p)):=Qy Try.func119 f119b fun E hE=>by
 obtain ⟨hy,hs,hp⟩:=h
 have g1:=Xy (l:=s) false hp
 have g2:=Xy (l:=y.k.parts) ⟨0,0,0,[]⟩ (i:=p) (by omega)
 have g3:=Xy (l:=y.above) [] (i:=p) (by have:=hy.alen; omega)
 obtain ⟨n1,n2⟩:=hy.needs _ (List.mem_of_getElem? g2)
 obtain ⟨a1,a2⟩:=hy.above _ (List.mem_of_getElem? g3)
 rw [← hs] at n1 a1
 refine f119W y s p (rv:=upB y s p) hE ⟨hp.1,_,g1,fun h1=>⟨hp.1,_,g2,⟨n1,n2⟩,fun h2=>⟨fun h3=>⟨hp.1,_,g3,⟨a1,a2⟩,?_⟩,fun h3=>?_⟩,fun h2=>?_⟩,fun h1=>?_⟩
 · unfold upB; rw [h1,h2,decide_eq_true h3]; rfl
 · unfold upB; rw [h1,h2,decide_eq_false h3]; rfl
 · unfold upB; rw [h1,h2]; rfl
 · unfold upB; rw [h1]; rfl
theorem f50b:Try.f50.body=some (Qc Try.prog 50):=by kernel_rfl
theorem u50 {a c k:List AV} {r:AV} (h:Pure Try.prog 50 (a++c++k) r):Qe Try.prog (.clos 50 a k) c r:=Qo Try.func50 (by kernel_rfl) f50b h
def f50K0 (P:Program):List Item:=kAt 400 [.code (Qc P 50)] [.stop]
def f50S0 (y:Yard) (v0:List Bool) (v1:List Int) (p:Nat) (g0:Nat) (g1:Nat):St:=⟨([.rptr [.rsl (Qt y.k.parts) 0 y.k.parts.length,.int .i64 y.k.crane,.rsl ((Qf rowI) y.k.vans) 0 y.k.vans.length,.rsl ((Qf rowI) y.above) 0 y.above.length,.rsl ((Qf rowI) y.below) 0 y.below.length] 0,J,.sl 1 g1 0 v1.length 1,.sl 0 g0 0 v0.length 1,.int .i64 (p:Int)]++Js 26),[⟨true,g0,1,true,(rowB v0),true⟩,⟨true,g1,1,true,(rowI v1),true⟩]⟩
def f50G0 (E:Env) (y:Yard) (v0:List Bool) (v1:List Int) (p:Nat):Prop:=∀ g0 g1:Nat,G Try.prog E (f50K0 Try.prog) (f50S0 y v0 v1 p g0 g1)
theorem p50_start_0 (y:Yard) {E:Env} {rv:AV} (hE:Qd Try.prog 50 rv E) (ho:AllP [0≤(y.k.parts.length:Int)∧(y.k.parts.length:Int)≤(y.k.parts.length:Int)∧(y.k.parts.length:Int)≤2147483648])
 (hg:G Try.prog E (f50K0 Try.prog) ⟨([.rptr [.rsl (Qt y.k.parts) 0 y.k.parts.length,.int .i64 y.k.crane,.rsl ((Qf rowI) y.k.vans) 0 y.k.vans.length,.rsl ((Qf rowI) y.above) 0 y.above.length,.rsl ((Qf rowI) y.below) 0 y.below.length] 0,J,.sl 1 0 0 0 1,.sl 0 0 0 (Int.toNat (y.k.parts.length:Int)) 1,.int .i64 0]++Js 26),[⟨true,0,1,true,((List.replicate (Int.toNat (y.k.parts.length:Int)) ([.bool false]:List AV)).flatten),true⟩,⟨true,0,1,true,[],true⟩]⟩):G Try.prog E [.code (Qc Try.prog 50)] ⟨[.rptr [.rsl (Qt y.k.parts) 0 y.k.parts.length,.int .i64 y.k.crane,.rsl ((Qf rowI) y.k.vans) 0 y.k.vans.length,.rsl ((Qf rowI) y.above) 0 y.above.length,.rsl ((Qf rowI) y.below) 0 y.below.length] 0]++unds (Try.f50.ntmps - 1),[]⟩ :=
 Ql (n:=400) (ds:=[(2,1)]) (cs:=[]) (live:=[0,2,3,4]) (m:=2) (evs:=[.stop]) (obs:=_) hE.2.1 (hE.nogh _) Qi (by kernel_rfl) ho hg
theorem f50W (y:Yard) {E:Env} {rv:((List Int) × (List Bool))} (hE:Qd Try.prog 50 (.tup [.rsl (rowI rv.1) 0 rv.1.length,.rsl (rowB rv.2) 0 rv.2.length]) E)
 (h:(y.k.parts.length≤2147483648∧f50G0 E y (List.replicate y.k.parts.length (false:Bool)) ([]) 0)):G Try.prog E [.code (Qc Try.prog 50)] ⟨[.rptr [.rsl (Qt y.k.parts) 0 y.k.parts.length,.int .i64 y.k.crane,.rsl ((Qf rowI) y.k.vans) 0 y.k.vans.length,.rsl ((Qf rowI) y.above) 0 y.above.length,.rsl ((Qf rowI) y.below) 0 y.below.length] 0]++unds (Try.f50.ntmps - 1),[]⟩:=by
 obtain ⟨h1,h⟩:=h
 refine p50_start_0 y hE ⟨⟨by omega,by omega,by have:=h1; omega⟩,trivial⟩ ?_
 have h:=(h 0 0)
 simp only [f50G0,f50S0,List.length_set,List.length_replicate] at h
 rw [(show (List.replicate (Int.toNat (y.k.parts.length:Int)) ([.bool false]:List AV)).flatten=rowB (List.replicate y.k.parts.length (false:Bool)) from Wc cB _ _)]
 exact h
theorem p50_0_0 (y:Yard) (v0:List Bool) (v1:List Int) (p:Nat) (g0:Nat) (g1:Nat) (eb:Bool) {E:Env} {rv:AV} (hE:Qd Try.prog 50 rv E) (ho:AllP [g0=g0,(decide ((p:Int)<(v0.length:Int)))=true,Qe Try.prog (.clos 119 [] []) [.rptr [.rsl (Qt y.k.parts) 0 y.k.parts.length,.int .i64 y.k.crane,.rsl ((Qf rowI) y.k.vans) 0 y.k.vans.length,.rsl ((Qf rowI) y.above) 0 y.above.length,.rsl ((Qf rowI) y.below) 0 y.below.length] 0,.rsl (rowB v0) 0 v0.length,.int .i64 (p:Int)] (.bool (upB y v0 (p:Int))),g0=g0,(upB y v0 (p:Int))=true,0≤(p:Int)∧(p:Int)<(v0.length:Int),g0=g0,((0+(Int.toNat (p:Int))*1)+1)≤(rowB v0).length,g0=g0,g1=g1,(0+(v1.length*1))=(rowI v1).length,(v1.length+1)≤2147483648,0=0,InR .i64 0])
 (hg:G Try.prog E (f50K0 Try.prog) ⟨([.rptr [.rsl (Qt y.k.parts) 0 y.k.parts.length,.int .i64 y.k.crane,.rsl ((Qf rowI) y.k.vans) 0 y.k.vans.length,.rsl ((Qf rowI) y.above) 0 y.above.length,.rsl ((Qf rowI) y.below) 0 y.below.length] 0,J,.sl 1 (g1+1) 0 (v1.length+1) 1,.sl 0 g0 0 v0.length 1,.int .i64 0]++Js 26),[⟨true,g0,1,true,(Qx (rowB v0) (0+(Int.toNat (p:Int))*1) [.bool true]),true⟩,⟨true,(g1+1),1,true,((rowI v1)++[.int .i64 (p:Int)]),true⟩]⟩):G Try.prog E (f50K0 Try.prog) (f50S0 y v0 v1 p g0 g1) :=
 Ql (n:=400) (ds:=[]) (cs:=[]) (live:=[0,2,3,4]) (m:=2) (evs:=[.b true,.v (.bool (upB y v0 (p:Int))),.b true,.stop]) (obs:=_) hE.2.1 (hE.nogh _) Qi (by kernel_rfl) ho hg
theorem p50_0_1 (y:Yard) (v0:List Bool) (v1:List Int) (p:Nat) (g0:Nat) (g1:Nat) {E:Env} {rv:AV} (hE:Qd Try.prog 50 rv E) (ho:AllP [g0=g0,(decide ((p:Int)<(v0.length:Int)))=true,Qe Try.prog (.clos 119 [] []) [.rptr [.rsl (Qt y.k.parts) 0 y.k.parts.length,.int .i64 y.k.crane,.rsl ((Qf rowI) y.k.vans) 0 y.k.vans.length,.rsl ((Qf rowI) y.above) 0 y.above.length,.rsl ((Qf rowI) y.below) 0 y.below.length] 0,.rsl (rowB v0) 0 v0.length,.int .i64 (p:Int)] (.bool (upB y v0 (p:Int))),g0=g0,(upB y v0 (p:Int))=false,InR .i64 ((p:Int)+1)])
 (hg:G Try.prog E (f50K0 Try.prog) ⟨([.rptr [.rsl (Qt y.k.parts) 0 y.k.parts.length,.int .i64 y.k.crane,.rsl ((Qf rowI) y.k.vans) 0 y.k.vans.length,.rsl ((Qf rowI) y.above) 0 y.above.length,.rsl ((Qf rowI) y.below) 0 y.below.length] 0,J,.sl 1 g1 0 v1.length 1,.sl 0 g0 0 v0.length 1,.int .i64 ((p:Int)+1)]++Js 26),[⟨true,g0,1,true,(rowB v0),true⟩,⟨true,g1,1,true,(rowI v1),true⟩]⟩):G Try.prog E (f50K0 Try.prog) (f50S0 y v0 v1 p g0 g1) :=
 Ql (n:=400) (ds:=[]) (cs:=[]) (live:=[0,2,3,4]) (m:=2) (evs:=[.b true,.v (.bool (upB y v0 (p:Int))),.b false,.stop]) (obs:=_) hE.2.1 (hE.nogh _) Qi (by kernel_rfl) ho hg
theorem p50_0_2 (y:Yard) (v0:List Bool) (v1:List Int) (p:Nat) (g0:Nat) (g1:Nat) {E:Env} {res:AV} (hE:Qd Try.prog 50 res E) (ho:AllP [g0=g0,(decide ((p:Int)<(v0.length:Int)))=false,g1=g1,g0=g0])
 (hr:AvLe (.tup [.rsl (rowI v1) 0 v1.length,.rsl (rowB v0) 0 v0.length]) res):G Try.prog E (f50K0 Try.prog) (f50S0 y v0 v1 p g0 g1) :=
 Qb (n:=400) (evs:=[.b false]) (obs:=_) hE Try.func50 Qi (by kernel_rfl) ho hr
theorem f50W0 (y:Yard) (v0:List Bool) (v1:List Int) (p:Nat) {E:Env} {rv:((List Int) × (List Bool))} (hE:Qd Try.prog 50 (.tup [.rsl (rowI rv.1) 0 rv.1.length,.rsl (rowB rv.2) 0 rv.2.length]) E)
 (h:(((p:Int)<(v0.length:Int)→((YardOk y∧v0.length=y.k.parts.length∧(0≤(p:Int)∧(p:Int)<(v0.length:Int)))∧(((upB y v0 (p:Int))=true→(∃ eb:Bool,v0[p]?=some eb∧((v1.length+1)≤2147483648∧f50G0 E y (v0.set p true) (v1++[(p:Int)]) 0)))∧((upB y v0 (p:Int))=false→((I6 ((p:Int)+1))∧f50G0 E y v0 v1 (p+1))))))∧(¬ ((p:Int)<(v0.length:Int))→rv=(v1,v0)))):f50G0 E y v0 v1 p:=by
 intro g0 g1
 rcases bft (decide ((p:Int)<(v0.length:Int))) with hc0 | hc0
 · have h:=h.1 (odt hc0)
   obtain ⟨h1,h⟩:=h
   rcases bft (upB y v0 (p:Int)) with hc1 | hc1
   · have h:=h.1 hc1
     obtain ⟨eb,h2,h⟩:=h
     obtain ⟨h3,h⟩:=h
     refine p50_0_0 y v0 v1 p g0 g1 eb hE ⟨rfl,hc0,(u119 (up_ok y v0 (p:Int) h1)),rfl,hc1,(Qr h2),rfl,(rf cB 1 0 1 h2),rfl,rfl,(by have hx:=XJ cI (s:=1) (fun _=>rfl) v1; simp only [rowI] at hx ⊢; rw [hx]; simp),h3,rfl,(⟨by decide,by decide⟩),trivial⟩ ?_
     have h:=(h g0 (g1+1))
     simp only [f50S0,List.length_set] at h
     rw [(show Qx (rowB v0) (0+(Int.toNat (p:Int))*1) [.bool true]=rowB (v0.set p true) from QF cB (s:=1) (k:=0) (fun _=>rfl) h2 rfl (by first | decide | simp))]; rw [(show rowI v1++[.int .i64 (p:Int)]=rowI (v1++[(p:Int)]) from (row_app cI v1 [(p:Int)]).symm)]; rw [(show (v1.length+1)=(v1++[(p:Int)]).length from by simp)]
     exact h
   · have h:=h.2 hc1
     obtain ⟨q5_2,h⟩:=h
     exact p50_0_1 y v0 v1 p g0 g1 hE ⟨rfl,hc0,(u119 (up_ok y v0 (p:Int) h1)),rfl,hc1,q5_2,trivial⟩ (h g0 g1)
 · have h:=h.2 (odf hc0)
   exact p50_0_2 y v0 v1 p g0 g1 hE ⟨rfl,hc0,rfl,rfl,trivial⟩ (AvLe.of_eq (by rw [h]; try rfl))
theorem count_put {s:List Bool} {p:Nat} (h:s[p]?=some false):s.count false=(s.set p true).count false+1:=by
 induction s generalizing p with
 | nil=>simp at h
 | cons x s ih =>
  cases p with
  | zero =>
   simp only [List.getElem?_cons_zero,Option.some.injEq] at h
   subst h
   simp
  | succ p =>
   have:=ih (p:=p) (by simpa using h)
   rw [List.set_cons_succ,List.count_cons,List.count_cons,this]; omega
theorem order_ok (y:Yard) (h:YardOk y):Pure Try.prog 50 [.rptr [.rsl (Qt y.k.parts) 0 y.k.parts.length,.int .i64 y.k.crane,.rsl (Qf rowI y.k.vans) 0 y.k.vans.length,.rsl (Qf rowI y.above) 0 y.above.length,.rsl (Qf rowI y.below) 0 y.below.length] 0] (.tup [.rsl (rowI (ordK y).1) 0 (ordK y).1.length,.rsl (rowB (ordK y).2) 0 (ordK y).2.length]):=Qy Try.func50 f50b fun E hE=>by
 have hn:=h.n
 have key:∀ (m d:Nat) (s:List Bool) (out:List Int) (p:Nat),s.length=y.k.parts.length→s.count false=m→p+d=s.length→out.length+m≤16→(∀ q,q<p→upB y s (q:Int)=false)→ordK y=qF (upB y) m s out→f50G0 E y s out p:=by
  intro m
  induction m with
  | zero =>
   intro d
   induction d with
   | zero =>
    intro s out p hs hc hd ho hq hr
    exact f50W0 y s out p (rv:=ordK y) hE ⟨fun h=>by omega,fun _=>hr⟩
   | succ d ih =>
    intro s out p hs hc hd ho hq hr
    refine f50W0 y s out p (rv:=ordK y) hE ⟨fun h1=>⟨⟨h,hs,by omega,by omega⟩,fun h2=>?_,fun h2=>⟨by omega,ih s out (p+1) hs hc (by omega) ho (fun q hq'=>?_) hr⟩⟩,fun h=>by omega⟩
    · exfalso
      have g1:=Xy (l:=s) false (i:=(p:Int)) (by omega)
      have e0:Int.toNat (p:Int)=p:=by omega
      rw [e0] at g1
      have hf:s.getD p false=false:=by
       unfold upB at h2
       simp only [Bool.and_eq_true,Bool.not_eq_true'] at h2
       exact h2.1
      rw [hf] at g1
      have:=count_put g1
      omega
    · rcases Nat.lt_or_ge q p with h3 | h3
      · exact hq q h3
      · have:q=p:=by omega
        rw [this]; exact h2
  | succ m ihm =>
   intro d
   induction d with
   | zero =>
    intro s out p hs hc hd ho hq hr
    have e:(List.range s.length).find? (fun (p:Nat)=>upB y s (p:Int))=none:=by
     rw [List.find?_eq_none]
     intro q hq'
     rw [List.mem_range] at hq'
     rw [hq q (by omega)]; simp
    refine f50W0 y s out p (rv:=ordK y) hE ⟨fun h=>by omega,fun _=>?_⟩
    rw [hr,qF,e]
   | succ d ih =>
    intro s out p hs hc hd ho hq hr
    refine f50W0 y s out p (rv:=ordK y) hE ⟨fun h1=>⟨⟨h,hs,by omega,by omega⟩,fun h2=>?_,fun h2=>⟨by omega,ih s out (p+1) hs hc (by omega) ho (fun q hq'=>?_) hr⟩⟩,fun h=>by omega⟩
    · have g1:=Xy (l:=s) false (i:=(p:Int)) (by omega)
      have e0:Int.toNat (p:Int)=p:=by omega
      rw [e0] at g1
      have hf:s.getD p false=false:=by
       unfold upB at h2
       simp only [Bool.and_eq_true,Bool.not_eq_true'] at h2
       exact h2.1
      rw [hf] at g1
      have hcp:=count_put g1
      have e:(List.range s.length).find? (fun (p:Nat)=>upB y s (p:Int))=some p:=by
       rw [List.find?_range_eq_some]
       exact ⟨h2,by rw [List.mem_range]; omega,fun q hq'=>by rw [hq q hq']; rfl⟩
      refine ⟨false,g1,by omega,?_⟩
      refine ihm y.k.parts.length (s.set p true) (out++[(p:Int)]) 0 (by simpa using hs) (by omega) (by simp; omega) (by simp; omega) (fun q hq'=>by omega) ?_
      rw [hr,qF,e]
    · rcases Nat.lt_or_ge q p with h3 | h3
      · exact hq q h3
      · have:q=p:=by omega
        rw [this]; exact h2
 refine f50W y (rv:=ordK y) hE ⟨by omega,?_⟩
 exact key y.k.parts.length y.k.parts.length _ [] 0 (by simp) (by simp) (by simp) (by simp; omega) (fun q hq=>by omega) rfl
theorem ordGo_mem {up:List Bool→Int→Bool}:∀ (m:Nat) (s:List Bool) (out:List Int),(∀ x ∈ out,0≤x∧x<(s.length:Int))→(∀ x ∈ (qF up m s out).1,0≤x∧x<(s.length:Int))
 | 0,s,out,h=>h
 | m+1,s,out,h=>by
  unfold qF
  split
  · rename_i p hp
    have hlt:=List.mem_range.1 (List.mem_of_find?_eq_some hp)
    have:=ordGo_mem (up:=up) m (s.set p true) (out++[(p:Int)]) (fun x hx=>by
     rw [List.length_set]
     rcases List.mem_append.1 hx with hx | hx
     · exact h x hx
     · rw [List.mem_singleton] at hx; omega)
    rw [List.length_set] at this
    exact this
  · exact h
theorem ordK_mem {y:Yard}:∀ x ∈ (ordK y).1,0≤x∧x<(y.k.parts.length:Int):=by
 have:=ordGo_mem (up:=upB y) y.k.parts.length (List.replicate y.k.parts.length false) [] (by simp)
 rw [List.length_replicate] at this
 exact this
end Go.Proofs.Ytemklbioijmjiaa
namespace Go.Proofs.Ytemklbioijmjiaa
open Go Ax
open Go.Proofs
theorem PureO_le {P:Program} {fv:AV} {args args':List AV} {len sz:Nat} {cells:List AV} (h:PureO P fv args len sz cells) (hl:AvLes args' args):PureO P fv args' len sz cells :=
 fun Z w cf cargs hz hf ha=>h Z w cf cargs hz hf (hl.vrs ha)
theorem beq_cast (a b:Nat):(a == b)=((a:Int) == (b:Int)):=by
 rw [Bool.eq_iff_iff,beq_iff_eq,beq_iff_eq]; omega
theorem rsl_zero {row:List AV} {off n:Nat} (h:n=0):AvLe (.rsl row off n) (.rsl [] 0 0):=fun Z w c hc=>by
 subst h
 cases hc <;> exact .rsl0
/-- A list turned round,as the loop does it. -/
def revGo:Nat→Int→Int→List Int→List Int
 | 0,_,_,l=>l
 | n+1,i,j,l=>if i<j then revGo n (i+1) (j - 1) ((l.set i.toNat (l.getD j.toNat 0)).set j.toNat (l.getD i.toNat 0)) else l
def revI (l:List Int):List Int:=revGo l.length 0 ((l.length:Int) - 1) l
theorem revGo_len:∀ {n:Nat} {i j:Int} {l:List Int},(revGo n i j l).length=l.length
 | 0,_,_,l=>rfl
 | n+1,i,j,l=>by
  simp only [revGo]
  split
  · rw [revGo_len]; simp
  · rfl
theorem revI_len {l:List Int}:(revI l).length=l.length:=revGo_len
/-! ### Stacking -/
structure StSt where
 many:Nat
 lies:List Int
 above:List (List Int)
 below:List (List Int)
def VV (n:Nat) (van:List Int):Nat→List Int→StSt→Option StSt
 | _,[],s=>some s
 | i,p :: ps,s=>if Qa p 0 ((n:Int) - 1)=true∧¬ (s.lies.getD p.toNat 0 > 0) then VV n van (i+1) ps ⟨s.many+1,s.lies.set p.toNat 1,s.above.set p.toNat (van.drop (i+1)),s.below.set p.toNat (if 0<i then revI (van.take i) else [])⟩ else none
def Wq (n:Nat):List (List Int)→StSt→Option StSt
 | [],s=>some s
 | v :: vs,s=>match VV n v 0 v s with
  | some s'=>Wq n vs s'
  | none=>none
def VG (n:Nat):StSt:=⟨0,List.replicate n 0,List.replicate n [],List.replicate n []⟩
def Xc (k:BKit):Option StSt:=Wq k.parts.length k.vans (VG k.parts.length)
def qN (k:BKit):StSt:=(Xc k).getD (VG 0)
def Qk (k:BKit):Yard:=⟨k,(qN k).above,(qN k).below⟩
def yardV (y:Yard):AV:=.rptr [.rsl (Qt y.k.parts) 0 y.k.parts.length,.int .i64 y.k.crane,.rsl (Qf rowI y.k.vans) 0 y.k.vans.length,.rsl (Qf rowI y.above) 0 y.above.length,.rsl (Qf rowI y.below) 0 y.below.length] 0
def Wr (k:BKit):Bool:=(qN k).many == k.parts.length
/-- What 'stacked' gives,behind some lorries. -/
def Vr (k:BKit) (o:Option StSt):AV:=match o with
 | some s=>.tup [yardV ⟨k,s.above,s.below⟩,.bool (s.many == k.parts.length)]
 | none=>.tup [.nilPtr,.bool false]
/-! ### Which kits are right -/
def qW (n:Nat) (i:Nat):Int→List Int→Bool
 | _,[]=>true
 | last,x :: xs=>if x≤last ∨ x≥(n:Int) ∨ x=(i:Int) then false else qW n i x xs
def partOk (n i:Nat) (p:BPart):Bool:=Qa p.w 1 1000000 && (Qa p.m 1 100 && (Qa p.pins 0 9 && qW n i (-1) p.needs))
def YS (n:Nat):Nat→List BPart→Bool
 | _,[]=>true
 | i,p :: ps=>partOk n i p && YS n (i+1) ps
def Yy (k:BKit):Bool:=decide (k.parts.length≤16) && (decide (k.vans.length≤6) && (Qa k.crane 1 1000000 && YS k.parts.length 0 k.parts))
def YN (k:BKit):Bool:=Yy k && ((Xc k).isSome && Wr k)
def Qj (k:BKit):List Int × Int:=if YN k=true then (if (ordK (Qk k)).1.length<k.parts.length then ([],3) else ((ordK (Qk k)).1,0)) else ([],80)
theorem WM {n:Nat} {van:List Int}:∀ {ps:List Int} {i:Nat} {s s':StSt},VV n van i ps s=some s'→s'.lies.length=s.lies.length∧s'.above.length=s.above.length∧s'.below.length=s.below.length
 | [],i,s,s',h=>by simp only [VV,Option.some.injEq] at h; subst h; exact ⟨rfl,rfl,rfl⟩
 | p :: ps,i,s,s',h=>by
  simp only [VV] at h
  split at h
  · have:=WM h
    simpa using this
  · cases h
theorem vanGo_in {n:Nat} {van:List Int}:∀ {ps:List Int} {i:Nat} {s s':StSt},VV n van i ps s=some s'→InN n ps
 | [],i,s,s',h=>fun x hx=>by simp at hx
 | p :: ps,i,s,s',h=>by
  simp only [VV] at h
  split at h
  · rename_i c
    have h1:=Yg.1 c.1
    have h2:=vanGo_in h
    intro x hx
    rcases List.mem_cons.1 hx with rfl | hx
    · omega
    · exact h2 x hx
  · cases h
/-- What lies above a part: nothing,or the end of a lorry's list. -/
def Ends (vs:List (List Int)) (l:List Int):Prop:=l=[] ∨ ∃ v ∈ vs,∃ i:Nat,l=v.drop i
theorem qL {n:Nat} {van:List Int} {vs:List (List Int)} (hv:van ∈ vs):∀ {ps:List Int} {i:Nat} {s s':StSt},VV n van i ps s=some s'→(∀ l ∈ s.above,Ends vs l)→∀ l ∈ s'.above,Ends vs l
 | [],i,s,s',h,h0=>by simp only [VV,Option.some.injEq] at h; subst h; exact h0
 | p :: ps,i,s,s',h,h0=>by
  simp only [VV] at h
  split at h
  · refine qL hv h fun l hl=>?_
    rcases List.mem_or_eq_of_mem_set hl with hl | rfl
    · exact h0 l hl
    · exact .inr ⟨van,hv,_,rfl⟩
  · cases h
theorem qK {n:Nat} {ws:List (List Int)}:∀ {vs:List (List Int)} {s s':StSt},(∀ v ∈ vs,v ∈ ws)→Wq n vs s=some s'→s'.lies.length=s.lies.length∧s'.above.length=s.above.length∧s'.below.length=s.below.length∧(∀ v ∈ vs,InN n v)∧((∀ l ∈ s.above,Ends ws l)→∀ l ∈ s'.above,Ends ws l)
 | [],s,s',_,h=>by simp only [Wq,Option.some.injEq] at h; subst h; exact ⟨rfl,rfl,rfl,fun v hv=>by simp at hv,fun h=>h⟩
 | v :: vs,s,s',hw,h=>by
  simp only [Wq] at h
  split at h
  · rename_i s1 h1
    obtain ⟨a,b,c⟩:=WM h1
    obtain ⟨a2,b2,c2,d2,e2⟩:=qK (fun x hx=>hw x (List.mem_cons_of_mem _ hx)) h
    refine ⟨by omega,by omega,by omega,fun x hx=>?_,fun h0=>e2 (qL (hw v List.mem_cons_self) h1 h0)⟩
    rcases List.mem_cons.1 hx with rfl | hx
    · exact vanGo_in h1
    · exact d2 x hx
  · cases h
theorem needGo_in {n i:Nat}:∀ {l:List Int} {last:Int},-1≤last→qW n i last l=true→InN n l
 | [],last,_,_=>fun x hx=>by simp at hx
 | y :: l,last,h0,h=>by
  simp only [qW] at h
  split at h
  · cases h
  · rename_i c
    have h2:=needGo_in (by omega) h
    intro x hx
    rcases List.mem_cons.1 hx with rfl | hx
    · omega
    · exact h2 x hx
theorem WX {n:Nat}:∀ {ps:List BPart} {i:Nat},YS n i ps=true→∀ (j:Nat) (p:BPart),ps[j]?=some p→partOk n (i+j) p=true
 | [],i,_,j,p,hp=>by simp at hp
 | q :: ps,i,h,j,p,hp=>by
  simp only [YS,Bool.and_eq_true] at h
  cases j with
  | zero =>
   simp only [List.getElem?_cons_zero,Option.some.injEq] at hp
   subst hp; exact h.1
  | succ j =>
   have:=WX h.2 j p (by simpa using hp)
   rw [show i+(j+1)=i+1+j by omega]; exact this
theorem yb {k:BKit} (h:Yy k=true):k.parts.length≤16∧∀ p ∈ k.parts,(1≤p.w∧p.w≤1000000)∧InN k.parts.length p.needs:=by
 simp only [Yy,Bool.and_eq_true,decide_eq_true_eq] at h
 refine ⟨h.1,fun p hp=>?_⟩
 obtain ⟨j,hj⟩:=List.getElem?_of_mem hp
 have:=WX h.2.2.2 j p hj
 simp only [partOk,Bool.and_eq_true] at this
 exact ⟨Yg.1 this.1,needGo_in (by omega) this.2.2.2⟩
theorem WP {k:BKit} (h:(Xc k).isSome=true):Xc k=some (qN k):=by
 unfold qN
 cases hs:Xc k with
 | none=>rw [hs] at h; cases h
 | some s=>rfl
theorem yard_fine {k:BKit} (hs:KitSmall k) (h:Yy k=true) (h2:(Xc k).isSome=true):YardOk (Qk k):=by
 obtain ⟨k1,k2⟩:=yb h
 have e:=WP h2
 unfold Xc at e
 obtain ⟨a,b,c,d,f⟩:=qK (ws:=k.vans) (fun v hv=>hv) e
 refine ⟨k1,fun p hp=>⟨(k2 p hp).2,by have:=hs.needs p hp; omega⟩,by show (qN k).above.length=_; rw [b]; simp [VG]; rfl,fun l hl=>?_⟩
 have:=f (fun l hl=>by
  simp only [VG,List.mem_replicate] at hl
  exact .inl hl.2) l hl
 rcases this with rfl | ⟨v,hv,i,rfl⟩
 · exact ⟨fun x hx=>by simp at hx,by simp⟩
 · refine ⟨fun x hx=>d v hv x (List.mem_of_mem_drop hx),?_⟩
   have:=hs.van v hv
   rw [List.length_drop]; omega
theorem f187b:Try.f187.body=some (Qc Try.prog 187):=by kernel_rfl
def f187K0 (P:Program):List Item:=kAt 400 [.code (Qc P 187)] [.stop]
def f187S0 (l:List Int) (n0:Nat) (i:Nat) (j:Int) (v0:List Int):St:=⟨([.sl 0 n0 0 v0.length 1,J,.int .i64 (i:Int),.int .i64 j]++Js 24),[⟨true,n0,1,true,(rowI v0),true⟩]⟩
def f187G0 (E:Env) (l:List Int) (n0:Nat) (i:Nat) (j:Int) (v0:List Int):Prop:=G Try.prog E (f187K0 Try.prog) (f187S0 l n0 i j v0 )
theorem p187_start_0 (l:List Int) (n0:Nat) {E:Env} {rv:AV} {bs2:List Blk} (hE:LentE Try.prog 187 [.sl 0 n0 0 0 1] rv bs2 E) (ho:AllP [n0=n0,InR .i64 ((l.length:Int) - 1)])
 (hg:G Try.prog E (f187K0 Try.prog) ⟨([.sl 0 n0 0 l.length 1,J,.int .i64 0,.int .i64 ((l.length:Int) - 1)]++Js 24),[⟨true,n0,1,true,(rowI l),true⟩]⟩):G Try.prog E [.code (Qc Try.prog 187)] ⟨[.sl 0 n0 0 l.length 1]++unds (Try.f187.ntmps - 1),[⟨true,n0,1,true,(rowI l),true⟩]⟩ :=
 Ql (n:=400) (ds:=[]) (cs:=[]) (live:=[0,2,3]) (m:=1) (evs:=[.stop]) (obs:=_) hE.kind (hE.nogh (by kernel_rfl)) Qi (by kernel_rfl) ho hg
theorem f187W (l:List Int) (n0:Nat) {E:Env} {rv:Unit} {lo:List Int} (hE:LentE Try.prog 187 [.sl 0 n0 0 0 1] (.tup []) [⟨true,n0,1,true,(rowI lo),true⟩] E)
 (h:((I6 ((l.length:Int) - 1))∧f187G0 E l n0 0 ((l.length:Int) - 1) l)):G Try.prog E [.code (Qc Try.prog 187)] ⟨[.sl 0 n0 0 l.length 1]++unds (Try.f187.ntmps - 1),[⟨true,n0,1,true,(rowI l),true⟩]⟩:=by
 obtain ⟨q1_0,h⟩:=h
 exact p187_start_0 l n0 hE ⟨rfl,q1_0,trivial⟩ h
theorem p187_0_0 (l:List Int) (n0:Nat) (i:Nat) (j:Int) (v0:List Int) (e:Int) (e1:Int) (e2:Int) {E:Env} {rv:AV} {bs2:List Blk} (hE:LentE Try.prog 187 [.sl 0 n0 0 0 1] rv bs2 E) (ho:AllP [(decide ((i:Int)<j))=true,0≤j∧j<(v0.length:Int),n0=n0,n0=n0,((rowI v0).drop (0+(Int.toNat j)*1)).take 1=[.int .i64 e],0≤(i:Int)∧(i:Int)<(v0.length:Int),n0=n0,n0=n0,((rowI v0).drop (0+(Int.toNat (i:Int))*1)).take 1=[.int .i64 e1],0≤(i:Int)∧(i:Int)<(v0.length:Int),n0=n0,((0+(Int.toNat (i:Int))*1)+1)≤(rowI v0).length,n0=n0,0≤j∧j<(v0.length:Int),n0=n0,((0+(Int.toNat j)*1)+1)≤(Qx (rowI v0) (0+(Int.toNat (i:Int))*1) [.int .i64 e]).length,n0=n0,InR .i64 ((i:Int)+1),InR .i64 (j - 1)])
 (hg:G Try.prog E (f187K0 Try.prog) ⟨([.sl 0 n0 0 v0.length 1,J,.int .i64 ((i:Int)+1),.int .i64 (j - 1)]++Js 24),[⟨true,n0,1,true,(Qx (Qx (rowI v0) (0+(Int.toNat (i:Int))*1) [.int .i64 e]) (0+(Int.toNat j)*1) [.int .i64 e1]),true⟩]⟩):G Try.prog E (f187K0 Try.prog) (f187S0 l n0 i j v0 ) :=
 Ql (n:=400) (ds:=[]) (cs:=[]) (live:=[0,2,3]) (m:=1) (evs:=[.b true,.ld (.int .i64 e),.ld (.int .i64 e1),.stop]) (obs:=_) hE.kind (hE.nogh (by kernel_rfl)) Qi (by kernel_rfl) ho hg
theorem p187_0_1 (l:List Int) (n0:Nat) (i:Nat) (j:Int) (v0:List Int) {E:Env} {res:AV} {bs2:List Blk} (hE:LentE Try.prog 187 [.sl 0 n0 0 0 1] res bs2 E) (ho:AllP [(decide ((i:Int)<j))=false])
 (hr:(.tup [])=res) (hb:[⟨true,n0,1,true,(rowI v0),true⟩]=bs2):G Try.prog E (f187K0 Try.prog) (f187S0 l n0 i j v0 ) :=
 qt (n:=400) (live:=[]) (m:=1) (evs:=[.b false]) (obs:=_) hE (hE.nogh (by kernel_rfl)) Try.func187 Qi (by kernel_rfl) ho hr hb
theorem f187W0 (l:List Int) (n0:Nat) (i:Nat) (j:Int) (v0:List Int) {E:Env} {rv:Unit} {lo:List Int} (hE:LentE Try.prog 187 [.sl 0 n0 0 0 1] (.tup []) [⟨true,n0,1,true,(rowI lo),true⟩] E)
 (h:(((i:Int)<j→(0≤j∧(∃ e:Int,v0[Int.toNat j]?=some e∧(∃ e1:Int,v0[i]?=some e1∧(0≤j∧(∃ e2:Int,(v0.set i e)[Int.toNat j]?=some e2∧((I6 ((i:Int)+1))∧((I6 (j - 1))∧f187G0 E l n0 (i+1) (j - 1) ((v0.set i e).set (Int.toNat j) e1)))))))))∧(¬ ((i:Int)<j)→lo=v0))):f187G0 E l n0 i j v0:=by
 rcases bft (decide ((i:Int)<j)) with hc0 | hc0
 · have h:=h.1 (odt hc0)
   obtain ⟨h2,h⟩:=h
   obtain ⟨e,h1,h⟩:=h
   obtain ⟨e1,h3,h⟩:=h
   obtain ⟨h5,h⟩:=h
   obtain ⟨e2,h4,h⟩:=h
   obtain ⟨q20_1,h⟩:=h
   obtain ⟨q21_1,h⟩:=h
   refine p187_0_0 l n0 i j v0 e e1 e2 hE ⟨hc0,(Qw h2 h1),rfl,rfl,(rp cI 1 0 1 h1),(Qr h3),rfl,rfl,(rp cI 1 0 1 h3),(Qr h3),rfl,(rf cI 1 0 1 h3),rfl,(by have hx:=Qw h5 h4; simpa using hx),rfl,(by rw [(show Qx (rowI v0) (0+(Int.toNat (i:Int))*1) [.int .i64 e]=rowI (v0.set i e) from QF cI (s:=1) (k:=0) (fun _=>rfl) h3 rfl (by first | decide | simp))]; exact rf cI 1 0 1 h4),rfl,q20_1,q21_1,trivial⟩ ?_
   have h:=h
   simp only [f187G0,f187S0,List.length_set] at h
   rw [(show Qx (rowI v0) (0+(Int.toNat (i:Int))*1) [.int .i64 e]=rowI (v0.set i e) from QF cI (s:=1) (k:=0) (fun _=>rfl) h3 rfl (by first | decide | simp))]; rw [(show Qx (rowI (v0.set i e)) (0+(Int.toNat j)*1) [.int .i64 e1]=rowI ((v0.set i e).set (Int.toNat j) e1) from QF cI (s:=1) (k:=0) (fun _=>rfl) h4 rfl (by first | decide | simp))]
   exact h
 · have h:=h.2 (odf hc0)
   have qe0:=h
   exact p187_0_1 l n0 i j v0 hE ⟨hc0,trivial⟩ (by try rfl) (by rw [qe0]; all_goals (first | rfl | (simp only [List.length_set]; done) | (simp only [List.length_set]; rfl)))
theorem f171b:Try.f171.body=some (Qc Try.prog 171):=by kernel_rfl
def f171Kd4 (P:Program):List Item:=toOp 1 (kReg 400 [.code (Qc P 171)] [] 1)
def Kf (P:Program):List Item:=toOp 2 (kReg 400 [.code (Qc P 171)] [] 1)
theorem p171_k4_0 (l:(List Int)) (nb:Bool) {E:Env} {res:AV} (hE:Qd Try.prog 171 res E) (ho:AllP [nb=true])
 (hr:AvLe (.nilSl) res):G Try.prog E (Kf Try.prog) ⟨[.rsl (rowI l) 0 l.length,.tup [],.nilSl,.rsl (rowI l) 0 l.length,.bool nb,.tup [],.tup [],.tup []],[]⟩ :=
 Qb (n:=400) (evs:=[.b true]) (obs:=_) hE Try.func171 Qi (by kernel_rfl) ho hr
theorem p171_k4_1 (l:(List Int)) (nb:Bool) {E:Env} {res:AV} (hE:Qd Try.prog 171 res E) (ho:AllP [nb=false,1=1,0=0,0=0,(0+l.length)≤2147483648,((rowI l).drop 0).take (l.length*1)=(rowI l),(rowI l).length=(l.length*1),noRefs (rowI l)=true])
 (hr:AvLe (.rsl (rowI l) 0 (0+l.length)) res):G Try.prog E (Kf Try.prog) ⟨[.rsl (rowI l) 0 l.length,.tup [],.nilSl,.rsl (rowI l) 0 l.length,.bool nb,.tup [],.tup [],.tup []],[]⟩ :=
 Qb (n:=400) (evs:=[.b false,.fz,.cs (rowI l)]) (obs:=_) hE Try.func171 Qi (by kernel_rfl) ho hr
theorem f171Wk4 (l:(List Int)) (nb:Bool) {E:Env} {rv:(List Int)} (hE:Qd Try.prog 171 (.rsl (rowI rv) 0 rv.length) E)
 (h:((nb=true→rv=([]:List Int))∧(nb=false→((0+l.length)≤2147483648∧rv=l)))):G Try.prog E (Kf Try.prog) ⟨[.rsl (rowI l) 0 l.length,.tup [],.nilSl,.rsl (rowI l) 0 l.length,.bool nb,.tup [],.tup [],.tup []],[]⟩:=by
 rcases bft nb with hc0 | hc0
 · have h:=h.1 hc0
   exact p171_k4_0 l nb hE ⟨hc0,trivial⟩ (by rw [h]; exact VL)
 · have h:=h.2 hc0
   obtain ⟨h1,h⟩:=h
   exact p171_k4_1 l nb hE ⟨hc0,rfl,rfl,rfl,h1,(by exact yG cI (fun _=>rfl) l),(by exact XJ cI (fun _=>rfl) l),(by exact YR cI (fun _=>rfl) l),trivial⟩ (AvLe.of_eq (by rw [h]; rw [(show AV.rsl (rowI l) 0 (0+l.length)=AV.rsl (rowI l) 0 l.length from by rw [show (0+l.length)=l.length from by simp])]; try rfl))
theorem p171_start_0 (l:(List Int)) {E:Env} {rv:AV} (hE:Qd Try.prog 171 rv E) (ho:AllP [])
 (hg:∀ nb:Bool,(nb=true→l.length=0)→G Try.prog E (Kf Try.prog) ⟨[.rsl (rowI l) 0 l.length,.tup [],.nilSl,.rsl (rowI l) 0 l.length,.bool nb,.tup [],.tup [],.tup []],[]⟩):G Try.prog E [.code (Qc Try.prog 171)] ⟨[.rsl (rowI l) 0 l.length]++unds (Try.f171.ntmps - 1),[]⟩:=by
 refine Ql (K':=f171Kd4 Try.prog) (st':=⟨[.rsl (rowI l) 0 l.length,.tup [],.nilSl,.rsl (rowI l) 0 l.length,.tup [],.tup [],.tup [],.tup []],[]⟩) (n:=400) (ds:=[]) (cs:=[]) (live:=[0,1,2,3,4,5,6,7]) (m:=0) (evs:=[.hold 2]) (obs:=_) hE.2.1 (hE.nogh _) Qi (by kernel_rfl) ho ?_
 exact nil_at (d:=some 4) (m:=l.length) (by kernel_rfl) hg
theorem f171W (l:(List Int)) {E:Env} {rv:(List Int)} (hE:Qd Try.prog 171 (.rsl (rowI rv) 0 rv.length) E)
 (h:(∀ nb:Bool,(nb=true→l.length=0)→((nb=true→rv=([]:List Int))∧(nb=false→((0+l.length)≤2147483648∧rv=l))))):G Try.prog E [.code (Qc Try.prog 171)] ⟨[.rsl (rowI l) 0 l.length]++unds (Try.f171.ntmps - 1),[]⟩:=by
 exact p171_start_0 l hE trivial (fun nb hn=>f171Wk4 l nb (rv:=rv) hE (h nb hn))
theorem yO (l:(List Int)) {E:Env} {res:AV} {bs2:List Blk} (hE:LentE Try.prog 171 [] res bs2 E) (ho:AllP [l.length ≠ 0,false=false,0=0,0=0,(0+l.length)≤2147483648,((rowI l).drop 0).take (l.length*1)=(rowI l),(rowI l).length=(l.length*1),noRefs (rowI l)=true])
 (hr:(.sl 0 1 0 (0+l.length) 1)=res) (hb:[⟨true,1,1,true,(rowI l),true⟩]=bs2):G Try.prog E [.code (Qc Try.prog 171)] ⟨[.rsl (rowI l) 0 l.length]++unds (Try.f171.ntmps - 1),[]⟩ :=
 qt (n:=400) (live:=[2]) (m:=1) (evs:=[.b false,.cs (rowI l)]) (obs:=_) hE (hE.nogh0 _) Try.func171 Qi (by kernel_rfl) ho hr hb
theorem f171nW (l:(List Int)) {E:Env} {rv:Unit} {l2:List Int} (hE:LentE Try.prog 171 [] (.sl 0 1 0 l2.length 1) [⟨true,1,1,true,(rowI l2),true⟩] E)
 (h:(l.length ≠ 0∧((0+l.length)≤2147483648∧l2=l))):G Try.prog E [.code (Qc Try.prog 171)] ⟨[.rsl (rowI l) 0 l.length]++unds (Try.f171.ntmps - 1),[]⟩:=by
 obtain ⟨q0_0,h⟩:=h
 obtain ⟨h1,h⟩:=h
 have qe0:=h
 exact yO l hE ⟨q0_0,rfl,rfl,rfl,h1,(by exact yG cI (fun _=>rfl) l),(by exact XJ cI (fun _=>rfl) l),(by exact YR cI (fun _=>rfl) l),trivial⟩ (by rw [qe0]; rw [(show (0+l.length)=l.length from by simp)]; try rfl) (by rw [qe0]; all_goals (first | rfl | (simp only [List.length_set]; done) | (simp only [List.length_set]; rfl)))
def f187eK0 (P:Program):List Item:=kAt 400 [.code (Qc P 187)] [.stop]
def f187eS0:St:=⟨([.rsl [] 0 0,J,.int .i64 0,.int .i64 (-1)]++Js 24),[]⟩
def f187eG0 (E:Env):Prop:=G Try.prog E (f187eK0 Try.prog) (f187eS0 )
theorem yM {E:Env} {rv:AV} (hE:Qd Try.prog 187 rv E) (ho:AllP [InR .i64 (-1)])
 (hg:G Try.prog E (f187eK0 Try.prog) ⟨([.rsl [] 0 0,J,.int .i64 0,.int .i64 (-1)]++Js 24),[]⟩):G Try.prog E [.code (Qc Try.prog 187)] ⟨[.rsl [] 0 0]++unds (Try.f187.ntmps - 1),[]⟩ :=
 Ql (n:=400) (ds:=[]) (cs:=[]) (live:=[0,2,3]) (m:=0) (evs:=[.stop]) (obs:=_) hE.2.1 (hE.nogh _) Qi (by kernel_rfl) ho hg
theorem f187eW {E:Env} {rv:Unit} (hE:Qd Try.prog 187 (.tup []) E)
 (h:f187eG0 E ):G Try.prog E [.code (Qc Try.prog 187)] ⟨[.rsl [] 0 0]++unds (Try.f187.ntmps - 1),[]⟩:=by
 exact yM hE ⟨(⟨by decide,by decide⟩),trivial⟩ h
theorem p187e_0_0 {E:Env} {res:AV} (hE:Qd Try.prog 187 res E) (ho:AllP [false=false])
 (hr:AvLe (.tup []) res):G Try.prog E (f187eK0 Try.prog) (f187eS0 ) :=
 Qb (n:=400) (evs:=[.b false]) (obs:=_) hE Try.func187 Qi (by kernel_rfl) ho hr
theorem f187eW0 {E:Env} {rv:Unit} (hE:Qd Try.prog 187 (.tup []) E)
 (h:rv=()):f187eG0 E:=by
 exact p187e_0_0 hE ⟨rfl,trivial⟩ (AvLe.of_eq rfl)
theorem scal_Int (l:List Int):∀ x ∈ rowI l,XV x=true:=fun x hx=>by
 simp only [rowI,List.mem_flatMap] at hx
 obtain ⟨a,-,ha⟩:=hx
 simp only [cI,List.mem_singleton] at ha
 subst ha; rfl
theorem clone_ok (l:List Int) (h:l ≠ []∧l.length≤2147483648):Lent Try.prog 171 [.rsl (rowI l) 0 l.length] [] (.sl 0 1 0 l.length 1) [⟨true,1,1,true,(rowI l),true⟩]:=lent_of0 Try.func171 f171b fun E hE =>
 f171nW l (rv:=()) hE ⟨fun e=>h.1 (List.length_eq_zero_iff.1 e),by omega,rfl⟩
theorem clone0_ok:Pure Try.prog 171 [.rsl (rowI []) 0 0] (.rsl (rowI []) 0 0):=Qy Try.func171 f171b fun E hE =>
 f171W [] (rv:=[]) hE fun nb _=>⟨fun _=>rfl,fun _=>⟨by simp,rfl⟩⟩
theorem cloneE {row:List AV} {n:Nat} (h:decide (0<n)=false):Qe Try.prog (.clos 171 [] []) [.rsl row 0 n] (.rsl [] 0 0) :=
 Qe.le (args:=[.rsl [] 0 0]) (Qo Try.func171 (by kernel_rfl) f171b clone0_ok) ⟨rsl_zero (by have:=of_decide_eq_false h; omega),trivial⟩
theorem rev_ok (l:List Int) (n0:Nat) (h:l.length≤1000):Lent Try.prog 187 [.sl 0 n0 0 l.length 1] [⟨true,n0,1,true,rowI l,true⟩] (.tup []) [⟨true,n0,1,true,rowI (revI l),true⟩]:=by
 refine lent_of _ Try.func187 f187b rfl rfl fun E hE=>?_
 have key:∀ (n:Nat) (i:Nat) (j:Int) (v:List Int),v.length=l.length→j<(l.length:Int)→j - (i:Int)<(n:Int)→(i:Int)≤l.length→revI l=revGo n i j v→f187G0 E l n0 i j v:=by
  intro n
  induction n with
  | zero =>
   intro i j v hv hj hd hi hr
   exact f187W0 l n0 i j v (rv:=()) hE ⟨fun h=>by omega,fun _=>hr⟩
  | succ n ih =>
   intro i j v hv hj hd hi hr
   simp only [revGo] at hr
   refine f187W0 l n0 i j v (rv:=()) hE ⟨fun hij=>?_,fun hij=>?_⟩
   · rw [if_pos hij] at hr
     have g1:=Xy (l:=v) 0 (i:=j) (by omega)
     have g2:=Xy (l:=v) 0 (i:=(i:Int)) (by omega)
     have e0:Int.toNat (i:Int)=i:=by omega
     rw [e0] at g2 hr
     have g3:(v.set i (v.getD (Int.toNat j) 0))[Int.toNat j]?=some (v.getD (Int.toNat j) 0):=by rw [List.getElem?_set_ne (by omega)]; exact g1
     refine ⟨by omega,_,g1,_,g2,by omega,_,g3,by omega,by omega,?_⟩
     exact ih (i+1) (j - 1) _ (by simp; omega) (by omega) (by omega) (by omega) hr
   · rw [if_neg hij] at hr
     exact hr
 refine f187W l n0 (rv:=()) hE ⟨by omega,?_⟩
 exact key l.length 0 _ l rfl (by omega) (by omega) (by omega) rfl
theorem rev0:Pure Try.prog 187 [.rsl [] 0 0] (.tup []):=Qy Try.func187 f187b fun E hE=>f187eW (rv:=()) hE (f187eW0 (rv:=()) hE rfl)
theorem rev0_ok (l:List Int) (h:l=[]):Qe Try.prog (.clos 187 [] []) [.rsl (rowI l) 0 l.length] (.tup []):=by
 subst h
 exact Qo Try.func187 (by kernel_rfl) f187b rev0
theorem f118b:Try.f118.body=some (Qc Try.prog 118):=by kernel_rfl
theorem u118 {a c k:List AV} {r:AV} (h:Pure Try.prog 118 (a++c++k) r):Qe Try.prog (.clos 118 a k) c r:=Qo Try.func118 (by kernel_rfl) f118b h
def f118K0 (P:Program):List Item:=kAt 400 [.code (Qc P 118)] [.stop]
def f118S0 (k:BKit) (vans:(List (List Int))) (v4:List Int) (v1:List (List Int)) (v2:List (List Int)) (many:Nat) (i:Nat) (g4:Nat) (g1:Nat) (g2:Nat):St:=⟨(jj 6 ([.int .i64 (k.parts.length:Int),.ptr 3 0 0,.int .i64 (many:Int),.sl 4 g4 0 v4.length 1]++jj 21 ([.rsl ((Qf rowI) vans) 0 vans.length,.int .i64 (vans.length:Int),.int .i64 (i:Int)]++Js 61))),[⟨true,0,1,true,[.rsl (Qt k.parts) 0 k.parts.length,.int .i64 k.crane,.rsl ((Qf rowI) k.vans) 0 k.vans.length],false⟩,⟨true,g1,1,true,((Qf rowI) v1),true⟩,⟨true,g2,1,true,((Qf rowI) v2),true⟩,⟨true,0,1,false,[.rsl (Qt k.parts) 0 k.parts.length,.int .i64 k.crane,.rsl ((Qf rowI) vans) 0 vans.length,.sl 1 g1 0 v1.length 1,.sl 2 g2 0 v2.length 1],false⟩,⟨true,g4,1,true,(rowI v4),true⟩]⟩
def yp (E:Env) (k:BKit) (vans:(List (List Int))) (v4:List Int) (v1:List (List Int)) (v2:List (List Int)) (many:Nat) (i:Nat):Prop:=∀ g4 g1 g2:Nat,G Try.prog E (f118K0 Try.prog) (f118S0 k vans v4 v1 v2 many i g4 g1 g2)
def Va (P:Program):List Item:=kAt 400 [.code (Qc P 118)] [.b true,.stop]
def WB (k:BKit) (vans:(List (List Int))) (van:(List Int)) (k1:(List Int)) (k11:Nat) (v1:List (List Int)) (v2:List (List Int)) (v4:List Int) (many:Nat) (k111:Nat) (k1111:Nat) (g1:Nat) (g2:Nat) (g4:Nat):St:=⟨(jj 6 ([.int .i64 (k.parts.length:Int),.ptr 3 0 0,.int .i64 (many:Int),.sl 4 g4 0 v4.length 1,J,.rsl (rowI van) 0 van.length]++jj 19 ([.rsl ((Qf rowI) vans) 0 vans.length,.int .i64 (vans.length:Int),.int .i64 (k1111:Int),J,J,J,.rsl (rowI k1) 0 k1.length,.int .i64 (k11:Int),.int .i64 (k111:Int)]++Js 55))),[⟨true,0,1,true,[.rsl (Qt k.parts) 0 k.parts.length,.int .i64 k.crane,.rsl ((Qf rowI) k.vans) 0 k.vans.length],false⟩,⟨true,g1,1,true,((Qf rowI) v1),true⟩,⟨true,g2,1,true,((Qf rowI) v2),true⟩,⟨true,0,1,false,[.rsl (Qt k.parts) 0 k.parts.length,.int .i64 k.crane,.rsl ((Qf rowI) vans) 0 vans.length,.sl 1 g1 0 v1.length 1,.sl 2 g2 0 v2.length 1],false⟩,⟨true,g4,1,true,(rowI v4),true⟩]⟩
def f118G1 (E:Env) (k:BKit) (vans:(List (List Int))) (van:(List Int)) (k1:(List Int)) (k11:Nat) (v1:List (List Int)) (v2:List (List Int)) (v4:List Int) (many:Nat) (k111:Nat) (k1111:Nat):Prop:=∀ g1 g2 g4:Nat,G Try.prog E (Va Try.prog) (WB k vans van k1 k11 v1 v2 v4 many k111 k1111 g1 g2 g4)
theorem p118_start_0 (k:BKit) (vans:(List (List Int))) {E:Env} {rv:AV} (hE:Qd Try.prog 118 rv E) (ho:AllP [0≤(k.parts.length:Int)∧(k.parts.length:Int)≤(k.parts.length:Int)∧(k.parts.length:Int)≤2147483648,0≤(k.parts.length:Int)∧(k.parts.length:Int)≤(k.parts.length:Int)∧(k.parts.length:Int)≤2147483648,3≤5,0≤(k.parts.length:Int)∧(k.parts.length:Int)≤(k.parts.length:Int)∧(k.parts.length:Int)≤2147483648])
 (hg:G Try.prog E (f118K0 Try.prog) ⟨(jj 6 ([.int .i64 (k.parts.length:Int),.ptr 3 0 0,.int .i64 0,.sl 4 0 0 (Int.toNat (k.parts.length:Int)) 1]++jj 21 ([.rsl ((Qf rowI) vans) 0 vans.length,.int .i64 (vans.length:Int),.int .i64 0]++Js 61))),[⟨true,0,1,true,[.rsl (Qt k.parts) 0 k.parts.length,.int .i64 k.crane,.rsl ((Qf rowI) k.vans) 0 k.vans.length],false⟩,⟨true,0,1,true,((List.replicate (Int.toNat (k.parts.length:Int)) ([.nilSl]:List AV)).flatten),true⟩,⟨true,0,1,true,((List.replicate (Int.toNat (k.parts.length:Int)) ([.nilSl]:List AV)).flatten),true⟩,⟨true,0,1,false,[.rsl (Qt k.parts) 0 k.parts.length,.int .i64 k.crane,.rsl ((Qf rowI) vans) 0 vans.length,.sl 1 0 0 (Int.toNat (k.parts.length:Int)) 1,.sl 2 0 0 (Int.toNat (k.parts.length:Int)) 1],false⟩,⟨true,0,1,true,((List.replicate (Int.toNat (k.parts.length:Int)) ([.int .i64 0]:List AV)).flatten),true⟩]⟩):G Try.prog E [.code (Qc Try.prog 118)] ⟨[.agg [.rsl (Qt k.parts) 0 k.parts.length,.int .i64 k.crane,.rsl ((Qf rowI) k.vans) 0 k.vans.length],.rsl ((Qf rowI) vans) 0 vans.length]++unds (Try.f118.ntmps - 2),[]⟩ :=
 Ql (n:=400) (ds:=[]) (cs:=[]) (live:=[6,7,8,9,31,32,33]) (m:=5) (evs:=[.stop]) (obs:=_) hE.2.1 (hE.nogh _) Qi (by kernel_rfl) ho hg
theorem f118W (k:BKit) (vans:(List (List Int))) {E:Env} {rv:AV} (hE:Qd Try.prog 118 rv E)
 (h:(k.parts.length≤2147483648∧(k.parts.length≤2147483648∧(k.parts.length≤2147483648∧yp E k vans (List.replicate k.parts.length (0:Int)) (List.replicate k.parts.length (([]:List Int):(List Int))) (List.replicate k.parts.length (([]:List Int):(List Int))) 0 0)))):G Try.prog E [.code (Qc Try.prog 118)] ⟨[.agg [.rsl (Qt k.parts) 0 k.parts.length,.int .i64 k.crane,.rsl ((Qf rowI) k.vans) 0 k.vans.length],.rsl ((Qf rowI) vans) 0 vans.length]++unds (Try.f118.ntmps - 2),[]⟩:=by
 obtain ⟨h1,h⟩:=h
 obtain ⟨h2,h⟩:=h
 obtain ⟨h3,h⟩:=h
 refine p118_start_0 k vans hE ⟨⟨by omega,by omega,by have:=h1; omega⟩,⟨by omega,by omega,by have:=h2; omega⟩,(by decide),⟨by omega,by omega,by have:=h3; omega⟩,trivial⟩ ?_
 refine qJ (k:=1) (cells':=((Qf rowI) (List.replicate k.parts.length (([]:List Int):(List Int))))) rfl rfl (by simp) rfl (by have hx:=Yt.rep (n:=k.parts.length) (show Yt [.nilSl] ((cLs rowI) (([]:List Int):(List Int))) from ⟨VL,rfl,rfl,trivial⟩); rw [show (List.replicate k.parts.length ((cLs rowI) (([]:List Int):(List Int)))).flatten=(Qf rowI) (List.replicate k.parts.length (([]:List Int):(List Int))) from Wc (cLs rowI) _ _] at hx; exact hx) ?_
 simp only [List.set_cons_succ,List.set_cons_zero]
 refine qJ (k:=2) (cells':=((Qf rowI) (List.replicate k.parts.length (([]:List Int):(List Int))))) rfl rfl (by simp) rfl (by have hx:=Yt.rep (n:=k.parts.length) (show Yt [.nilSl] ((cLs rowI) (([]:List Int):(List Int))) from ⟨VL,rfl,rfl,trivial⟩); rw [show (List.replicate k.parts.length ((cLs rowI) (([]:List Int):(List Int)))).flatten=(Qf rowI) (List.replicate k.parts.length (([]:List Int):(List Int))) from Wc (cLs rowI) _ _] at hx; exact hx) ?_
 simp only [List.set_cons_succ,List.set_cons_zero]
 have h:=(h 0 0 0)
 simp only [yp,f118S0,List.length_set,List.length_replicate] at h
 rw [(show (List.replicate (Int.toNat (k.parts.length:Int)) ([.int .i64 0]:List AV)).flatten=rowI (List.replicate k.parts.length (0:Int)) from Wc cI _ _)]
 exact h
theorem p118_0_0 (k:BKit) (vans:(List (List Int))) (v4:List Int) (v1:List (List Int)) (v2:List (List Int)) (many:Nat) (i:Nat) (g4:Nat) (g1:Nat) (g2:Nat) (le:(List Int)) {E:Env} {rv:AV} (hE:Qd Try.prog 118 rv E) (ho:AllP [(decide ((i:Int)<(vans.length:Int)))=true,0≤(i:Int)∧(i:Int)<(vans.length:Int),(((Qf rowI) vans).drop (0+(Int.toNat (i:Int))*1)).take 1=[.rsl (rowI le) 0 le.length]])
 (hg:G Try.prog E (Va Try.prog) ⟨(jj 6 ([.int .i64 (k.parts.length:Int),.ptr 3 0 0,.int .i64 (many:Int),.sl 4 g4 0 v4.length 1,J,.rsl (rowI le) 0 le.length]++jj 19 ([.rsl ((Qf rowI) vans) 0 vans.length,.int .i64 (vans.length:Int),.int .i64 (i:Int),J,J,J,.rsl (rowI le) 0 le.length,.int .i64 (le.length:Int),.int .i64 0]++Js 55))),[⟨true,0,1,true,[.rsl (Qt k.parts) 0 k.parts.length,.int .i64 k.crane,.rsl ((Qf rowI) k.vans) 0 k.vans.length],false⟩,⟨true,g1,1,true,((Qf rowI) v1),true⟩,⟨true,g2,1,true,((Qf rowI) v2),true⟩,⟨true,0,1,false,[.rsl (Qt k.parts) 0 k.parts.length,.int .i64 k.crane,.rsl ((Qf rowI) vans) 0 vans.length,.sl 1 g1 0 v1.length 1,.sl 2 g2 0 v2.length 1],false⟩,⟨true,g4,1,true,(rowI v4),true⟩]⟩):G Try.prog E (f118K0 Try.prog) (f118S0 k vans v4 v1 v2 many i g4 g1 g2) :=
 Ql (n:=400) (ds:=[]) (cs:=[]) (live:=[6,7,8,9,11,31,32,33,37,38,39]) (m:=5) (evs:=[.b true,.ld (.rsl (rowI le) 0 le.length),.stop]) (obs:=_) hE.2.1 (hE.nogh _) Qi (by kernel_rfl) ho hg
theorem p118_0_1 (k:BKit) (vans:(List (List Int))) (v4:List Int) (v1:List (List Int)) (v2:List (List Int)) (many:Nat) (i:Nat) (g4:Nat) (g1:Nat) (g2:Nat) {E:Env} {res:AV} (hE:Qd Try.prog 118 res E) (ho:AllP [(decide ((i:Int)<(vans.length:Int)))=false,g1=g1,g2=g2])
 (hr:AvLe (.tup [.rptr [.rsl (Qt k.parts) 0 k.parts.length,.int .i64 k.crane,.rsl ((Qf rowI) vans) 0 vans.length,.rsl ((Qf rowI) v1) 0 v1.length,.rsl ((Qf rowI) v2) 0 v2.length] 0,.bool ((many:Int) == (k.parts.length:Int))]) res):G Try.prog E (f118K0 Try.prog) (f118S0 k vans v4 v1 v2 many i g4 g1 g2) :=
 Qb (n:=400) (evs:=[.b false]) (obs:=_) hE Try.func118 Qi (by kernel_rfl) ho hr
theorem f118W0 (k:BKit) (vans:(List (List Int))) (v4:List Int) (v1:List (List Int)) (v2:List (List Int)) (many:Nat) (i:Nat) {E:Env} {rv:AV} (hE:Qd Try.prog 118 rv E)
 (h:(((i:Int)<(vans.length:Int)→(∃ le:(List Int),vans[i]?=some le∧f118G1 E k vans le le le.length v1 v2 v4 many 0 i))∧(¬ ((i:Int)<(vans.length:Int))→rv=(.tup [.rptr [.rsl (Qt k.parts) 0 k.parts.length,.int .i64 k.crane,.rsl ((Qf rowI) vans) 0 vans.length,.rsl ((Qf rowI) v1) 0 v1.length,.rsl ((Qf rowI) v2) 0 v2.length] 0,.bool ((many:Int) == (k.parts.length:Int))])))):yp E k vans v4 v1 v2 many i:=by
 intro g4 g1 g2
 rcases bft (decide ((i:Int)<(vans.length:Int))) with hc0 | hc0
 · have h:=h.1 (odt hc0)
   obtain ⟨le,h1,h⟩:=h
   exact p118_0_0 k vans v4 v1 v2 many i g4 g1 g2 le hE ⟨hc0,(Qr h1),(rp (cLs rowI) 1 0 1 h1),trivial⟩ (h g1 g2 g4)
 · have h:=h.2 (odf hc0)
   exact p118_0_1 k vans v4 v1 v2 many i g4 g1 g2 hE ⟨hc0,rfl,rfl,trivial⟩ (AvLe.of_eq (by rw [h]; try rfl))
theorem p118_1_0 (k:BKit) (vans:(List (List Int))) (van:(List Int)) (k1:(List Int)) (k11:Nat) (v1:List (List Int)) (v2:List (List Int)) (v4:List Int) (many:Nat) (k111:Nat) (k1111:Nat) (g1:Nat) (g2:Nat) (g4:Nat) (e:Int) {E:Env} {res:AV} (hE:Qd Try.prog 118 res E) (ho:AllP [(decide ((k111:Int)<(k11:Int)))=true,0≤(k111:Int)∧(k111:Int)<(k1.length:Int),((rowI k1).drop (0+(Int.toNat (k111:Int))*1)).take 1=[.int .i64 e],InR .i64 ((k.parts.length:Int) - 1),Qe Try.prog (.clos 117 [] []) [.int .i64 e,.int .i64 0,.int .i64 ((k.parts.length:Int) - 1)] (.bool (Qa e 0 ((k.parts.length:Int) - 1))),(!(Qa e 0 ((k.parts.length:Int) - 1)))=true,true=true])
 (hr:AvLe (.tup [.nilPtr,.bool false]) res):G Try.prog E (Va Try.prog) (WB k vans van k1 k11 v1 v2 v4 many k111 k1111 g1 g2 g4) :=
 Qb (n:=400) (evs:=[.b true,.ld (.int .i64 e),.v (.bool (Qa e 0 ((k.parts.length:Int) - 1))),.b true,.b true]) (obs:=_) hE Try.func118 Qi (by kernel_rfl) ho hr
theorem p118_1_1 (k:BKit) (vans:(List (List Int))) (van:(List Int)) (k1:(List Int)) (k11:Nat) (v1:List (List Int)) (v2:List (List Int)) (v4:List Int) (many:Nat) (k111:Nat) (k1111:Nat) (g1:Nat) (g2:Nat) (g4:Nat) (e:Int) (e1:Int) {E:Env} {res:AV} (hE:Qd Try.prog 118 res E) (ho:AllP [(decide ((k111:Int)<(k11:Int)))=true,0≤(k111:Int)∧(k111:Int)<(k1.length:Int),((rowI k1).drop (0+(Int.toNat (k111:Int))*1)).take 1=[.int .i64 e],InR .i64 ((k.parts.length:Int) - 1),Qe Try.prog (.clos 117 [] []) [.int .i64 e,.int .i64 0,.int .i64 ((k.parts.length:Int) - 1)] (.bool (Qa e 0 ((k.parts.length:Int) - 1))),(!(Qa e 0 ((k.parts.length:Int) - 1)))=false,0≤e∧e<(v4.length:Int),g4=g4,g4=g4,((rowI v4).drop (0+(Int.toNat e)*1)).take 1=[.int .i64 e1],(decide (e1 > 0))=true])
 (hr:AvLe (.tup [.nilPtr,.bool false]) res):G Try.prog E (Va Try.prog) (WB k vans van k1 k11 v1 v2 v4 many k111 k1111 g1 g2 g4) :=
 Qb (n:=400) (evs:=[.b true,.ld (.int .i64 e),.v (.bool (Qa e 0 ((k.parts.length:Int) - 1))),.b false,.ld (.int .i64 e1),.b true]) (obs:=_) hE Try.func118 Qi (by kernel_rfl) ho hr
theorem p118_1_2 (k:BKit) (vans:(List (List Int))) (van:(List Int)) (k1:(List Int)) (k11:Nat) (v1:List (List Int)) (v2:List (List Int)) (v4:List Int) (many:Nat) (k111:Nat) (k1111:Nat) (g1:Nat) (g2:Nat) (g4:Nat) (e:Int) (e1:Int) (le:(List Int)) (le1:(List Int)) {E:Env} {rv:AV} (hE:Qd Try.prog 118 rv E) (ho:AllP [(decide ((k111:Int)<(k11:Int)))=true,0≤(k111:Int)∧(k111:Int)<(k1.length:Int),((rowI k1).drop (0+(Int.toNat (k111:Int))*1)).take 1=[.int .i64 e],InR .i64 ((k.parts.length:Int) - 1),Qe Try.prog (.clos 117 [] []) [.int .i64 e,.int .i64 0,.int .i64 ((k.parts.length:Int) - 1)] (.bool (Qa e 0 ((k.parts.length:Int) - 1))),(!(Qa e 0 ((k.parts.length:Int) - 1)))=false,0≤e∧e<(v4.length:Int),g4=g4,g4=g4,((rowI v4).drop (0+(Int.toNat e)*1)).take 1=[.int .i64 e1],(decide (e1 > 0))=false,0≤e∧e<(v4.length:Int),g4=g4,((0+(Int.toNat e)*1)+1)≤(rowI v4).length,g4=g4,InR .i64 ((many:Int)+1),InR .i64 ((k111:Int)+1),(Int.toNat ((k111:Int)+1))≤van.length,van.length≤van.length,0≤((k111:Int)+1),0≤e∧e<(v1.length:Int),g1=g1,((0+(Int.toNat e)*1)+1)≤((Qf rowI) v1).length,g1=g1,0≤(Int.toNat (k111:Int)),(Int.toNat (k111:Int))≤van.length,0≤(k111:Int),PureO Try.prog (.clos 171 [] []) [.rsl (rowI van) 0 (Int.toNat (k111:Int))] ((van.take (Int.toNat (k111:Int))).length) 1 (rowI (van.take (Int.toNat (k111:Int)))),0≤e∧e<(v2.length:Int),g2=g2,((0+(Int.toNat e)*1)+1)≤((Qf rowI) v2).length,g2=g2,0≤e∧e<(v2.length:Int),g2=g2,g2=g2,((Qx ((Qf rowI) v2) (0+(Int.toNat e)*1) [.sl 5 0 0 ((van.take (Int.toNat (k111:Int))).length) 1]).drop (0+(Int.toNat e)*1)).take 1=[.sl 5 0 0 ((van.take (Int.toNat (k111:Int))).length) 1],LentF Try.prog (.clos 187 [] []) [.sl 0 0 0 ((van.take (Int.toNat (k111:Int))).length) 1] [⟨true,0,1,true,(rowI (van.take (Int.toNat (k111:Int)))),true⟩] (.tup []) [⟨true,0,1,true,(rowI (revI (van.take (Int.toNat (k111:Int))))),true⟩],InR .i64 ((k111:Int)+1),refsBelows 6 (Qx ((Qf rowI) v2) (0+(Int.toNat e)*1) [.sl 5 0 0 ((van.take (Int.toNat (k111:Int))).length) 1])=true,refsBelows 6 [.rsl (Qt k.parts) 0 k.parts.length,.int .i64 k.crane,.rsl ((Qf rowI) vans) 0 vans.length,.sl 1 g1 0 v1.length 1,.sl 2 g2 0 v2.length 1]=true]) (hlt0:(0+(Int.toNat e)*1)<((Qf rowI) v1).length) (hse0:((Qx ((Qf rowI) v1) (0+(Int.toNat e)*1) [.rsl (rowI van) (0+((Int.toNat ((k111:Int)+1))*1)) (van.length - (Int.toNat ((k111:Int)+1)))])).set (0+(Int.toNat e)*1) (.rsl (rowI (van.drop (Int.toNat ((k111:Int)+1)))) 0 ((van.drop (Int.toNat ((k111:Int)+1))).length))=(Qf rowI) (v1.set (Int.toNat e) (van.drop (Int.toNat ((k111:Int)+1))))) (hle0:AvLe (.rsl (rowI van) (0+((Int.toNat ((k111:Int)+1))*1)) (van.length - (Int.toNat ((k111:Int)+1)))) (.rsl (rowI (van.drop (Int.toNat ((k111:Int)+1)))) 0 ((van.drop (Int.toNat ((k111:Int)+1))).length))) (hlt1:(0+(Int.toNat e)*1)<((Qf rowI) v2).length) (hse1:((Qx ((Qf rowI) v2) (0+(Int.toNat e)*1) [.sl 5 0 0 ((van.take (Int.toNat (k111:Int))).length) 1])).set (0+(Int.toNat e)*1) (.rsl (rowI (revI (van.take (Int.toNat (k111:Int))))) 0 ((van.take (Int.toNat (k111:Int))).length))=(Qf rowI) (v2.set (Int.toNat e) (revI (van.take (Int.toNat (k111:Int))))))
 (hg:G Try.prog E (Va Try.prog) ⟨(jj 6 ([.int .i64 (k.parts.length:Int),.ptr 3 0 0,.int .i64 ((many:Int)+1),.sl 4 g4 0 v4.length 1,J,.rsl (rowI van) 0 van.length]++jj 19 ([.rsl ((Qf rowI) vans) 0 vans.length,.int .i64 (vans.length:Int),.int .i64 (k1111:Int),J,J,J,.rsl (rowI k1) 0 k1.length,.int .i64 (k11:Int),.int .i64 ((k111:Int)+1)]++Js 55))),[⟨true,0,1,true,[.rsl (Qt k.parts) 0 k.parts.length,.int .i64 k.crane,.rsl ((Qf rowI) k.vans) 0 k.vans.length],false⟩,⟨true,g1,1,true,((Qf rowI) (v1.set (Int.toNat e) (van.drop (Int.toNat ((k111:Int)+1))))),true⟩,⟨true,g2,1,true,((Qf rowI) (v2.set (Int.toNat e) (revI (van.take (Int.toNat (k111:Int)))))),true⟩,⟨true,0,1,false,[.rsl (Qt k.parts) 0 k.parts.length,.int .i64 k.crane,.rsl ((Qf rowI) vans) 0 vans.length,.sl 1 g1 0 v1.length 1,.sl 2 g2 0 v2.length 1],false⟩,⟨true,g4,1,true,(Qx (rowI v4) (0+(Int.toNat e)*1) [.int .i64 1]),true⟩]⟩):G Try.prog E (Va Try.prog) (WB k vans van k1 k11 v1 v2 v4 many k111 k1111 g1 g2 g4):=by
 refine segP_step (K':=Va Try.prog) (st':=⟨(jj 6 ([.int .i64 (k.parts.length:Int),.ptr 3 0 0,.int .i64 ((many:Int)+1),.sl 4 g4 0 v4.length 1,J,.rsl (rowI van) 0 van.length]++jj 19 ([.rsl ((Qf rowI) vans) 0 vans.length,.int .i64 (vans.length:Int),.int .i64 (k1111:Int),J,J,J,.rsl (rowI k1) 0 k1.length,.int .i64 (k11:Int),.int .i64 ((k111:Int)+1)]++Js 55))),[⟨true,0,1,true,[.rsl (Qt k.parts) 0 k.parts.length,.int .i64 k.crane,.rsl ((Qf rowI) k.vans) 0 k.vans.length],false⟩,⟨true,g1,1,true,(Qx ((Qf rowI) v1) (0+(Int.toNat e)*1) [.rsl (rowI van) (0+((Int.toNat ((k111:Int)+1))*1)) (van.length - (Int.toNat ((k111:Int)+1)))]),true⟩,⟨true,g2,1,false,(Qx ((Qf rowI) v2) (0+(Int.toNat e)*1) [.sl 5 0 0 ((van.take (Int.toNat (k111:Int))).length) 1]),true⟩,⟨true,0,1,false,[.rsl (Qt k.parts) 0 k.parts.length,.int .i64 k.crane,.rsl ((Qf rowI) vans) 0 vans.length,.sl 1 g1 0 v1.length 1,.sl 2 g2 0 v2.length 1],false⟩,⟨true,g4,1,true,(Qx (rowI v4) (0+(Int.toNat e)*1) [.int .i64 1]),true⟩,⟨true,0,1,true,(rowI (revI (van.take (Int.toNat (k111:Int))))),true⟩]⟩) (n:=400) (ds:=[]) (cs:=[]) (live:=[6,7,8,9,11,31,32,33,37,38,39]) (m:=6) (evs:=[.b true,.ld (.int .i64 e),.v (.bool (Qa e 0 ((k.parts.length:Int) - 1))),.b false,.ld (.int .i64 e1),.b false,.lent [] (.sl 0 0 0 ((van.take (Int.toNat (k111:Int))).length) 1) [⟨true,0,1,true,(rowI (van.take (Int.toNat (k111:Int)))),true⟩],.auto,.ld (.sl 5 0 0 ((van.take (Int.toNat (k111:Int))).length) 1),.lent [5] (.tup []) [⟨true,0,1,true,(rowI (revI (van.take (Int.toNat (k111:Int))))),true⟩],.stop]) (obs:=_) hE.2.1 (hE.nogh _) Qi (by kernel_rfl) ho ?_
 refine cell_step (j:=1) (c:=(0+(Int.toNat e)*1)) (v':=.rsl (rowI (van.drop (Int.toNat ((k111:Int)+1)))) 0 ((van.drop (Int.toNat ((k111:Int)+1))).length)) (cells':=(Qf rowI) (v1.set (Int.toNat e) (van.drop (Int.toNat ((k111:Int)+1))))) rfl rfl (by simp) (VH hlt0) rfl rfl hle0 hse0 (YR (cLs rowI) (fun _=>rfl) _) ?_
 simp only [List.set_cons_succ,List.set_cons_zero,yV]
 refine layS_step (j:=2) (c:=(0+(Int.toNat e)*1)) (cells':=(Qf rowI) (v2.set (Int.toNat e) (revI (van.take (Int.toNat (k111:Int)))))) rfl rfl (by simp) (VH hlt1) rfl rfl rfl rfl hse1 (YR (cLs rowI) (fun _=>rfl) _) ?_
 simp only [List.set_cons_succ,List.set_cons_zero,yV]
 exact Yu (live:=[6,7,8,9,11,31,32,33,37,38,39]) (n:=5) (hE.nogh _) (by kernel_rfl) hg
theorem p118_1_3 (k:BKit) (vans:(List (List Int))) (van:(List Int)) (k1:(List Int)) (k11:Nat) (v1:List (List Int)) (v2:List (List Int)) (v4:List Int) (many:Nat) (k111:Nat) (k1111:Nat) (g1:Nat) (g2:Nat) (g4:Nat) (e:Int) (e1:Int) (le:(List Int)) (le1:(List Int)) (le2:(List Int)) {E:Env} {rv:AV} (hE:Qd Try.prog 118 rv E) (ho:AllP [(decide ((k111:Int)<(k11:Int)))=true,0≤(k111:Int)∧(k111:Int)<(k1.length:Int),((rowI k1).drop (0+(Int.toNat (k111:Int))*1)).take 1=[.int .i64 e],InR .i64 ((k.parts.length:Int) - 1),Qe Try.prog (.clos 117 [] []) [.int .i64 e,.int .i64 0,.int .i64 ((k.parts.length:Int) - 1)] (.bool (Qa e 0 ((k.parts.length:Int) - 1))),(!(Qa e 0 ((k.parts.length:Int) - 1)))=false,0≤e∧e<(v4.length:Int),g4=g4,g4=g4,((rowI v4).drop (0+(Int.toNat e)*1)).take 1=[.int .i64 e1],(decide (e1 > 0))=false,0≤e∧e<(v4.length:Int),g4=g4,((0+(Int.toNat e)*1)+1)≤(rowI v4).length,g4=g4,InR .i64 ((many:Int)+1),InR .i64 ((k111:Int)+1),(Int.toNat ((k111:Int)+1))≤van.length,van.length≤van.length,0≤((k111:Int)+1),0≤e∧e<(v1.length:Int),g1=g1,((0+(Int.toNat e)*1)+1)≤((Qf rowI) v1).length,g1=g1,0≤(Int.toNat (k111:Int)),(Int.toNat (k111:Int))≤van.length,0≤(k111:Int),Qe Try.prog (.clos 171 [] []) [.rsl (rowI van) 0 (Int.toNat (k111:Int))] (.rsl [] 0 0),0≤e∧e<(v2.length:Int),g2=g2,((0+(Int.toNat e)*1)+1)≤((Qf rowI) v2).length,g2=g2,0≤e∧e<(v2.length:Int),g2=g2,g2=g2,((Qx ((Qf rowI) v2) (0+(Int.toNat e)*1) [.rsl [] 0 0]).drop (0+(Int.toNat e)*1)).take 1=[.rsl (rowI le2) 0 le2.length],Qe Try.prog (.clos 187 [] []) [.rsl (rowI le2) 0 le2.length] (.tup []),InR .i64 ((k111:Int)+1),refsBelows 5 [.rsl (Qt k.parts) 0 k.parts.length,.int .i64 k.crane,.rsl ((Qf rowI) vans) 0 vans.length,.sl 1 g1 0 v1.length 1,.sl 2 g2 0 v2.length 1]=true]) (hlt0:(0+(Int.toNat e)*1)<((Qf rowI) v1).length) (hse0:((Qx ((Qf rowI) v1) (0+(Int.toNat e)*1) [.rsl (rowI van) (0+((Int.toNat ((k111:Int)+1))*1)) (van.length - (Int.toNat ((k111:Int)+1)))])).set (0+(Int.toNat e)*1) (.rsl (rowI (van.drop (Int.toNat ((k111:Int)+1)))) 0 ((van.drop (Int.toNat ((k111:Int)+1))).length))=(Qf rowI) (v1.set (Int.toNat e) (van.drop (Int.toNat ((k111:Int)+1))))) (hle0:AvLe (.rsl (rowI van) (0+((Int.toNat ((k111:Int)+1))*1)) (van.length - (Int.toNat ((k111:Int)+1)))) (.rsl (rowI (van.drop (Int.toNat ((k111:Int)+1)))) 0 ((van.drop (Int.toNat ((k111:Int)+1))).length)))
 (hg:G Try.prog E (Va Try.prog) ⟨(jj 6 ([.int .i64 (k.parts.length:Int),.ptr 3 0 0,.int .i64 ((many:Int)+1),.sl 4 g4 0 v4.length 1,J,.rsl (rowI van) 0 van.length]++jj 19 ([.rsl ((Qf rowI) vans) 0 vans.length,.int .i64 (vans.length:Int),.int .i64 (k1111:Int),J,J,J,.rsl (rowI k1) 0 k1.length,.int .i64 (k11:Int),.int .i64 ((k111:Int)+1)]++Js 55))),[⟨true,0,1,true,[.rsl (Qt k.parts) 0 k.parts.length,.int .i64 k.crane,.rsl ((Qf rowI) k.vans) 0 k.vans.length],false⟩,⟨true,g1,1,true,((Qf rowI) (v1.set (Int.toNat e) (van.drop (Int.toNat ((k111:Int)+1))))),true⟩,⟨true,g2,1,true,(Qx ((Qf rowI) v2) (0+(Int.toNat e)*1) [.rsl [] 0 0]),true⟩,⟨true,0,1,false,[.rsl (Qt k.parts) 0 k.parts.length,.int .i64 k.crane,.rsl ((Qf rowI) vans) 0 vans.length,.sl 1 g1 0 v1.length 1,.sl 2 g2 0 v2.length 1],false⟩,⟨true,g4,1,true,(Qx (rowI v4) (0+(Int.toNat e)*1) [.int .i64 1]),true⟩]⟩):G Try.prog E (Va Try.prog) (WB k vans van k1 k11 v1 v2 v4 many k111 k1111 g1 g2 g4):=by
 refine segP_step (K':=Va Try.prog) (st':=⟨(jj 6 ([.int .i64 (k.parts.length:Int),.ptr 3 0 0,.int .i64 ((many:Int)+1),.sl 4 g4 0 v4.length 1,J,.rsl (rowI van) 0 van.length]++jj 19 ([.rsl ((Qf rowI) vans) 0 vans.length,.int .i64 (vans.length:Int),.int .i64 (k1111:Int),J,J,J,.rsl (rowI k1) 0 k1.length,.int .i64 (k11:Int),.int .i64 ((k111:Int)+1)]++Js 55))),[⟨true,0,1,true,[.rsl (Qt k.parts) 0 k.parts.length,.int .i64 k.crane,.rsl ((Qf rowI) k.vans) 0 k.vans.length],false⟩,⟨true,g1,1,true,(Qx ((Qf rowI) v1) (0+(Int.toNat e)*1) [.rsl (rowI van) (0+((Int.toNat ((k111:Int)+1))*1)) (van.length - (Int.toNat ((k111:Int)+1)))]),true⟩,⟨true,g2,1,true,(Qx ((Qf rowI) v2) (0+(Int.toNat e)*1) [.rsl [] 0 0]),true⟩,⟨true,0,1,false,[.rsl (Qt k.parts) 0 k.parts.length,.int .i64 k.crane,.rsl ((Qf rowI) vans) 0 vans.length,.sl 1 g1 0 v1.length 1,.sl 2 g2 0 v2.length 1],false⟩,⟨true,g4,1,true,(Qx (rowI v4) (0+(Int.toNat e)*1) [.int .i64 1]),true⟩]⟩) (n:=400) (ds:=[]) (cs:=[]) (live:=[6,7,8,9,11,31,32,33,37,38,39]) (m:=5) (evs:=[.b true,.ld (.int .i64 e),.v (.bool (Qa e 0 ((k.parts.length:Int) - 1))),.b false,.ld (.int .i64 e1),.b false,.v (.rsl [] 0 0),.auto,.ld (.rsl (rowI le2) 0 le2.length),.v (.tup []),.stop]) (obs:=_) hE.2.1 (hE.nogh _) Qi (by kernel_rfl) ho ?_
 refine cell_step (j:=1) (c:=(0+(Int.toNat e)*1)) (v':=.rsl (rowI (van.drop (Int.toNat ((k111:Int)+1)))) 0 ((van.drop (Int.toNat ((k111:Int)+1))).length)) (cells':=(Qf rowI) (v1.set (Int.toNat e) (van.drop (Int.toNat ((k111:Int)+1))))) rfl rfl (by simp) (VH hlt0) rfl rfl hle0 hse0 (YR (cLs rowI) (fun _=>rfl) _) ?_
 simp only [List.set_cons_succ,List.set_cons_zero,yV]
 exact Yu (live:=[6,7,8,9,11,31,32,33,37,38,39]) (n:=5) (hE.nogh _) (by kernel_rfl) hg
theorem p118_1_4 (k:BKit) (vans:(List (List Int))) (van:(List Int)) (k1:(List Int)) (k11:Nat) (v1:List (List Int)) (v2:List (List Int)) (v4:List Int) (many:Nat) (k111:Nat) (k1111:Nat) (g1:Nat) (g2:Nat) (g4:Nat) {E:Env} {rv:AV} (hE:Qd Try.prog 118 rv E) (ho:AllP [(decide ((k111:Int)<(k11:Int)))=false,InR .i64 ((k1111:Int)+1)])
 (hg:G Try.prog E (f118K0 Try.prog) ⟨(jj 6 ([.int .i64 (k.parts.length:Int),.ptr 3 0 0,.int .i64 (many:Int),.sl 4 g4 0 v4.length 1]++jj 21 ([.rsl ((Qf rowI) vans) 0 vans.length,.int .i64 (vans.length:Int),.int .i64 ((k1111:Int)+1)]++Js 61))),[⟨true,0,1,true,[.rsl (Qt k.parts) 0 k.parts.length,.int .i64 k.crane,.rsl ((Qf rowI) k.vans) 0 k.vans.length],false⟩,⟨true,g1,1,true,((Qf rowI) v1),true⟩,⟨true,g2,1,true,((Qf rowI) v2),true⟩,⟨true,0,1,false,[.rsl (Qt k.parts) 0 k.parts.length,.int .i64 k.crane,.rsl ((Qf rowI) vans) 0 vans.length,.sl 1 g1 0 v1.length 1,.sl 2 g2 0 v2.length 1],false⟩,⟨true,g4,1,true,(rowI v4),true⟩]⟩):G Try.prog E (Va Try.prog) (WB k vans van k1 k11 v1 v2 v4 many k111 k1111 g1 g2 g4) :=
 Ql (n:=400) (ds:=[]) (cs:=[]) (live:=[6,7,8,9,31,32,33]) (m:=5) (evs:=[.b false,.stop]) (obs:=_) hE.2.1 (hE.nogh _) Qi (by kernel_rfl) ho hg
theorem f118W1 (k:BKit) (vans:(List (List Int))) (van:(List Int)) (k1:(List Int)) (k11:Nat) (v1:List (List Int)) (v2:List (List Int)) (v4:List Int) (many:Nat) (k111:Nat) (k1111:Nat) {E:Env} {rv:AV} (hE:Qd Try.prog 118 rv E)
 (h:(((k111:Int)<(k11:Int)→(∃ e:Int,k1[k111]?=some e∧((I6 ((k.parts.length:Int) - 1))∧(((Qa e 0 ((k.parts.length:Int) - 1))=false→rv=(.tup [.nilPtr,.bool false]))∧((Qa e 0 ((k.parts.length:Int) - 1))=true→(0≤e∧(∃ e1:Int,v4[Int.toNat e]?=some e1∧((e1 > 0→rv=(.tup [.nilPtr,.bool false]))∧(¬ (e1 > 0)→((I6 ((many:Int)+1))∧((I6 ((k111:Int)+1))∧((Int.toNat ((k111:Int)+1))≤van.length∧(0≤e∧(∃ le:(List Int),v1[Int.toNat e]?=some le∧((Int.toNat (k111:Int))≤van.length∧((0<(Int.toNat (k111:Int))→(((van.take (Int.toNat (k111:Int))) ≠ []∧(van.take (Int.toNat (k111:Int))).length≤2147483648)∧(0≤e∧(∃ le1:(List Int),v2[Int.toNat e]?=some le1∧(((van.take (Int.toNat (k111:Int))).length≤1000)∧((I6 ((k111:Int)+1))∧f118G1 E k vans van k1 k11 (v1.set (Int.toNat e) (van.drop (Int.toNat ((k111:Int)+1)))) (v2.set (Int.toNat e) (revI (van.take (Int.toNat (k111:Int))))) (v4.set (Int.toNat e) 1) (many+1) (k111+1) k1111))))))∧(¬ (0<(Int.toNat (k111:Int)))→(0≤e∧(∃ le1:(List Int),v2[Int.toNat e]?=some le1∧(0≤e∧(∃ le2:(List Int),(v2.set (Int.toNat e) ([]:List Int))[Int.toNat e]?=some le2∧((le2=[])∧((I6 ((k111:Int)+1))∧f118G1 E k vans van k1 k11 (v1.set (Int.toNat e) (van.drop (Int.toNat ((k111:Int)+1)))) (v2.set (Int.toNat e) ([]:List Int)) (v4.set (Int.toNat e) 1) (many+1) (k111+1) k1111)))))))))))))))))))))))∧(¬ ((k111:Int)<(k11:Int))→((I6 ((k1111:Int)+1))∧yp E k vans v4 v1 v2 many (k1111+1))))):f118G1 E k vans van k1 k11 v1 v2 v4 many k111 k1111:=by
 intro g1 g2 g4
 rcases bft (decide ((k111:Int)<(k11:Int))) with hc0 | hc0
 · have h:=h.1 (odt hc0)
   obtain ⟨e,h1,h⟩:=h
   obtain ⟨q4_1,h⟩:=h
   rcases bft (!(Qa e 0 ((k.parts.length:Int) - 1))) with hc1 | hc1
   · have h:=h.1 (bnT hc1)
     exact p118_1_0 k vans van k1 k11 v1 v2 v4 many k111 k1111 g1 g2 g4 e hE ⟨hc0,(Qr h1),(rp cI 1 0 1 h1),q4_1,(u117 (QN e 0 ((k.parts.length:Int) - 1))),hc1,rfl,trivial⟩ (AvLe.of_eq (by rw [h]; try rfl))
   · have h:=h.2 (bnF hc1)
     obtain ⟨h3,h⟩:=h
     obtain ⟨e1,h2,h⟩:=h
     rcases bft (decide (e1 > 0)) with hc2 | hc2
     · have h:=h.1 (odt hc2)
       exact p118_1_1 k vans van k1 k11 v1 v2 v4 many k111 k1111 g1 g2 g4 e e1 hE ⟨hc0,(Qr h1),(rp cI 1 0 1 h1),q4_1,(u117 (QN e 0 ((k.parts.length:Int) - 1))),hc1,(Qw h3 h2),rfl,rfl,(rp cI 1 0 1 h2),hc2,trivial⟩ (AvLe.of_eq (by rw [h]; try rfl))
     · have h:=h.2 (odf hc2)
       obtain ⟨q17_3,h⟩:=h
       obtain ⟨q18_3,h⟩:=h
       obtain ⟨q19_3,h⟩:=h
       obtain ⟨h5,h⟩:=h
       obtain ⟨le,h4,h⟩:=h
       obtain ⟨q28_3,h⟩:=h
       rcases bft (decide (0<(Int.toNat (k111:Int)))) with hc3 | hc3
       · have h:=h.1 (odt hc3)
         obtain ⟨h6,h⟩:=h
         obtain ⟨h8,h⟩:=h
         obtain ⟨le1,h7,h⟩:=h
         obtain ⟨h9,h⟩:=h
         obtain ⟨q42_4,h⟩:=h
         refine p118_1_2 k vans van k1 k11 v1 v2 v4 many k111 k1111 g1 g2 g4 e e1 le le1 hE ⟨hc0,(Qr h1),(rp cI 1 0 1 h1),q4_1,(u117 (QN e 0 ((k.parts.length:Int) - 1))),hc1,(Qw h3 h2),rfl,rfl,(rp cI 1 0 1 h2),hc2,(Qw h3 h2),rfl,(rf cI 1 0 1 h2),rfl,q17_3,q18_3,q19_3,(Nat.le_refl _),(by omega),(Qw h5 h4),rfl,(rf (cLs rowI) 1 0 1 h4),rfl,(Nat.zero_le _),q28_3,(by omega),(PureO_le (args:=[.rsl (rowI (van.take (Int.toNat (k111:Int)))) 0 ((van.take (Int.toNat (k111:Int))).length)]) (yK Try.func171 (by kernel_rfl) f171b (clone_ok (van.take (Int.toNat (k111:Int))) h6) (by decide) (scal_Int (van.take (Int.toNat (k111:Int))))) ⟨(by exact rsl_take cI (s:=1) (fun _=>rfl) (by omega)),trivial⟩),(Qw h8 h7),rfl,(rf (cLs rowI) 1 0 1 h7),rfl,(Qw h8 h7),rfl,rfl,(setAt_ld (by have hx:=VI (cLs rowI) (s:=1) (k:=0) (m:=1) (fun _=>rfl) (by decide) h7; simp only [Qf] at hx ⊢; omega)),(VM Try.func187 (by kernel_rfl) f187b (rev_ok (van.take (Int.toNat (k111:Int))) 0 h9)),q42_4,(by exact yJ (YR (cLs rowI) (fun _=>rfl) _) rfl),rfl,trivial⟩ (by have hx:=VI (cLs rowI) (s:=1) (k:=0) (m:=1) (fun _=>rfl) (by decide) h4; simp only [Qf] at hx ⊢; omega) (by exact WR (cLs rowI) (s:=1) (fun _=>rfl) (b:=(van.drop (Int.toNat ((k111:Int)+1)))) h4 rfl rfl rfl) (by exact rsl_drop cI (s:=1) (fun _=>rfl) (Int.toNat ((k111:Int)+1)) (by omega) (by first | rfl | omega | simp)) (by have hx:=VI (cLs rowI) (s:=1) (k:=0) (m:=1) (fun _=>rfl) (by decide) h7; simp only [Qf] at hx ⊢; omega) (by rw [show (van.take (Int.toNat (k111:Int))).length=(revI (van.take (Int.toNat (k111:Int)))).length from by simp [revI_len]]; exact WR (cLs rowI) (s:=1) (fun _=>rfl) (b:=(revI (van.take (Int.toNat (k111:Int))))) h7 rfl rfl rfl) ?_
         have h:=(h g1 g2 g4)
         simp only [WB,List.length_set] at h
         rw [(show Qx (rowI v4) (0+(Int.toNat e)*1) [.int .i64 1]=rowI (v4.set (Int.toNat e) 1) from QF cI (s:=1) (k:=0) (fun _=>rfl) h2 rfl (by first | decide | simp))]
         exact h
       · have h:=h.2 (odf hc3)
         obtain ⟨h7,h⟩:=h
         obtain ⟨le1,h6,h⟩:=h
         obtain ⟨h9,h⟩:=h
         obtain ⟨le2,h8,h⟩:=h
         obtain ⟨h10,h⟩:=h
         obtain ⟨q43_4,h⟩:=h
         refine p118_1_3 k vans van k1 k11 v1 v2 v4 many k111 k1111 g1 g2 g4 e e1 le le1 le2 hE ⟨hc0,(Qr h1),(rp cI 1 0 1 h1),q4_1,(u117 (QN e 0 ((k.parts.length:Int) - 1))),hc1,(Qw h3 h2),rfl,rfl,(rp cI 1 0 1 h2),hc2,(Qw h3 h2),rfl,(rf cI 1 0 1 h2),rfl,q17_3,q18_3,q19_3,(Nat.le_refl _),(by omega),(Qw h5 h4),rfl,(rf (cLs rowI) 1 0 1 h4),rfl,(Nat.zero_le _),q28_3,(by omega),(cloneE hc3),(Qw h7 h6),rfl,(rf (cLs rowI) 1 0 1 h6),rfl,(by have hx:=Qw h9 h8; simpa using hx),rfl,rfl,(by rw [(show Qx ((Qf rowI) v2) (0+(Int.toNat e)*1) [.rsl [] 0 0]=(Qf rowI) (v2.set (Int.toNat e) ([]:List Int)) from QF (cLs rowI) (s:=1) (k:=0) (fun _=>rfl) h6 rfl (by first | decide | simp))]; exact rp (cLs rowI) 1 0 1 h8),(rev0_ok le2 h10),q43_4,rfl,trivial⟩ (by have hx:=VI (cLs rowI) (s:=1) (k:=0) (m:=1) (fun _=>rfl) (by decide) h4; simp only [Qf] at hx ⊢; omega) (by exact WR (cLs rowI) (s:=1) (fun _=>rfl) (b:=(van.drop (Int.toNat ((k111:Int)+1)))) h4 rfl rfl rfl) (by exact rsl_drop cI (s:=1) (fun _=>rfl) (Int.toNat ((k111:Int)+1)) (by omega) (by first | rfl | omega | simp)) ?_
         have h:=(h g1 g2 g4)
         simp only [WB,List.length_set] at h
         rw [(show Qx ((Qf rowI) v2) (0+(Int.toNat e)*1) [.rsl [] 0 0]=(Qf rowI) (v2.set (Int.toNat e) ([]:List Int)) from QF (cLs rowI) (s:=1) (k:=0) (fun _=>rfl) h6 rfl (by first | decide | simp))]; rw [(show Qx (rowI v4) (0+(Int.toNat e)*1) [.int .i64 1]=rowI (v4.set (Int.toNat e) 1) from QF cI (s:=1) (k:=0) (fun _=>rfl) h2 rfl (by first | decide | simp))]
         exact h
 · have h:=h.2 (odf hc0)
   obtain ⟨q1_1,h⟩:=h
   exact p118_1_4 k vans van k1 k11 v1 v2 v4 many k111 k1111 g1 g2 g4 hE ⟨hc0,q1_1,trivial⟩ (h g4 g1 g2)
theorem WO (k:BKit) (hs:KitSmall k) (h16:k.parts.length≤16):Pure Try.prog 118 [.agg [.rsl (Qt k.parts) 0 k.parts.length,.int .i64 k.crane,.rsl (Qf rowI k.vans) 0 k.vans.length],.rsl (Qf rowI k.vans) 0 k.vans.length] (Vr k (Xc k)):=Qy Try.func118 f118b fun E hE=>by
 have hv:=hs.vans
 have inner:∀ (d i:Nat) (van:List Int) (j many:Nat) (lies:List Int) (above below:List (List Int)),van.length≤30→i+d=van.length→j<k.vans.length→lies.length=k.parts.length→above.length=k.parts.length→below.length=k.parts.length→many≤40*j+i →
  (∀ s',VV k.parts.length van i (van.drop i) ⟨many,lies,above,below⟩=some s'→s'.many≤40*j+van.length→yp E k k.vans s'.lies s'.above s'.below s'.many (j+1)) →
  (VV k.parts.length van i (van.drop i) ⟨many,lies,above,below⟩=none→Vr k (Xc k)=.tup [.nilPtr,.bool false])→f118G1 E k k.vans van van van.length above below lies many i j:=by
  intro d
  induction d with
  | zero =>
   intro i van j many lies above below h30 hi hj hl ha hb hm hg hn
   rw [List.drop_eq_nil_of_le (by omega)] at hg
   exact f118W1 k k.vans van van van.length above below lies many i j (rv:=Vr k (Xc k)) hE ⟨fun h=>by omega,fun _=>⟨by omega,hg _ rfl (by simp only; omega)⟩⟩
  | succ d ih =>
   intro i van j many lies above below h30 hi hj hl ha hb hm hg hn
   have hx:van[i]?=some (van[i]'(by omega)):=List.getElem?_eq_getElem (by omega)
   rw [List.drop_eq_getElem_cons (by omega)] at hg hn
   generalize van[i]'(by omega)=e at hx hg hn
   simp only [VV] at hg hn
   have t1:Int.toNat ((i:Int)+1)=i+1:=by omega
   have t0:Int.toNat (i:Int)=i:=by omega
   refine f118W1 k k.vans van van van.length above below lies many i j (rv:=Vr k (Xc k)) hE ⟨fun _=>⟨e,hx,by omega,fun c1=>?_,fun c1=>?_⟩,fun h=>by omega⟩
   · exact hn (if_neg (by rw [c1]; simp))
   have c2:=Yg.1 c1
   have g1:=Xy (l:=lies) 0 (i:=e) (by omega)
   have g2:=Xy (l:=above) [] (i:=e) (by omega)
   have g3:=Xy (l:=below) [] (i:=e) (by omega)
   refine ⟨by omega,_,g1,fun c3=>?_,fun c3=>?_⟩
   · exact hn (if_neg fun hh=>hh.2 c3)
   rw [if_pos ⟨c1,c3⟩] at hg hn
   refine ⟨by omega,by omega,by omega,by omega,_,g2,by omega,fun c4=>?_,fun c4=>?_⟩
   · rw [t0] at c4 ⊢
     rw [if_pos c4] at hg hn
     refine ⟨⟨fun hh=>?_,by rw [List.length_take]; omega⟩,by omega,_,g3,by rw [List.length_take]; omega,by omega,?_⟩
     · have:=congrArg List.length hh
       rw [List.length_take,List.length_nil] at this; omega
     · rw [t1]
       exact ih (i+1) van j (many+1) _ _ _ h30 (by omega) hj (by simpa using hl) (by simpa using ha) (by simpa using hb) (by omega) hg hn
   · rw [t0] at c4
     rw [if_neg c4] at hg hn
     have g4:(below.set (Int.toNat e) [])[Int.toNat e]?=some []:=List.getElem?_set_self (by omega)
     refine ⟨by omega,_,g3,by omega,_,g4,rfl,by omega,?_⟩
     rw [t1]
     exact ih (i+1) van j (many+1) _ _ _ h30 (by omega) hj (by simpa using hl) (by simpa using ha) (by simpa using hb) (by omega) hg hn
 have outer:∀ (d j:Nat) (s:StSt),j+d=k.vans.length→s.lies.length=k.parts.length→s.above.length=k.parts.length→s.below.length=k.parts.length→s.many≤40*j→Vr k (Xc k)=Vr k (Wq k.parts.length (k.vans.drop j) s)→yp E k k.vans s.lies s.above s.below s.many j:=by
  intro d
  induction d with
  | zero =>
   intro j s hj hl ha hb hm hr
   rw [List.drop_eq_nil_of_le (by omega)] at hr
   refine f118W0 k k.vans _ _ _ _ j (rv:=Vr k (Xc k)) hE ⟨fun h=>by omega,fun _=>?_⟩
   rw [hr]
   simp only [Wq,Vr,yardV]
   rw [beq_cast]
  | succ d ih =>
   intro j s hj hl ha hb hm hr
   have hx:k.vans[j]?=some (k.vans[j]'(by omega)):=List.getElem?_eq_getElem (by omega)
   rw [List.drop_eq_getElem_cons (by omega)] at hr
   generalize k.vans[j]'(by omega)=v at hx hr
   have h30:=hs.van v (List.mem_of_getElem? hx)
   simp only [Wq] at hr
   refine f118W0 k k.vans _ _ _ _ j (rv:=Vr k (Xc k)) hE ⟨fun _=>⟨v,hx,?_⟩,fun h=>by omega⟩
   refine inner v.length 0 v j s.many s.lies s.above s.below h30 (by omega) (by omega) hl ha hb (by omega) (fun s' hs' hm'=>?_) (fun hn=>?_)
   · rw [List.drop_zero] at hs'
     obtain ⟨e1,e2,e3⟩:=WM hs'
     have e0:(⟨s.many,s.lies,s.above,s.below⟩:StSt)=s:=rfl
     rw [e0] at hs'
     rw [hs'] at hr
     exact ih (j+1) s' (by omega) (by rw [e1]; exact hl) (by rw [e2]; exact ha) (by rw [e3]; exact hb) (by omega) hr
   · rw [List.drop_zero] at hn
     have e0:(⟨s.many,s.lies,s.above,s.below⟩:StSt)=s:=rfl
     rw [e0] at hn
     rw [hn] at hr
     exact hr
 refine f118W k k.vans (rv:=Vr k (Xc k)) hE ⟨by omega,by omega,by omega,?_⟩
 exact outer k.vans.length 0 (VG k.parts.length) (by omega) (by simp [VG]) (by simp [VG]) (by simp [VG]) (by simp [VG]) rfl
theorem stacked_some (k:BKit) (v:List (List Int)) (h:KitSmall k∧k.vans=v∧k.parts.length≤16) (hs:(Xc k).isSome=true):Pure Try.prog 118 [.agg [.rsl (Qt k.parts) 0 k.parts.length,.int .i64 k.crane,.rsl (Qf rowI k.vans) 0 k.vans.length],.rsl (Qf rowI v) 0 v.length] (.tup [yardV (Qk k),.bool (Wr k)]):=by
 obtain ⟨h1,rfl,h3⟩:=h
 have:=WO k h1 h3
 rw [WP hs] at this
 exact this
theorem stacked_none (k:BKit) (v:List (List Int)) (h:KitSmall k∧k.vans=v∧k.parts.length≤16) (hs:(Xc k).isSome=false):Pure Try.prog 118 [.agg [.rsl (Qt k.parts) 0 k.parts.length,.int .i64 k.crane,.rsl (Qf rowI k.vans) 0 k.vans.length],.rsl (Qf rowI v) 0 v.length] (.tup [.nilPtr,.bool false]):=by
 obtain ⟨h1,rfl,h3⟩:=h
 have:=WO k h1 h3
 cases e:Xc k with
 | none=>rw [e] at this; exact this
 | some s=>rw [e] at hs; cases hs
theorem f49b:Try.f49.body=some (Qc Try.prog 49):=by kernel_rfl
theorem u49 {a c k:List AV} {r:AV} (h:Pure Try.prog 49 (a++c++k) r):Qe Try.prog (.clos 49 a k) c r:=Qo Try.func49 (by kernel_rfl) f49b h
def Kc (P:Program):List Item:=kAt 400 [.code (Qc P 49)] [.b false,.stop]
def f49S0 (k:BKit) (i:Nat):St:=⟨([J,.ptr 0 0 0,J,J,.int .i64 (k.parts.length:Int)]++jj 23 ([.rsl (Qt k.parts) 0 k.parts.length,.int .i64 (k.parts.length:Int),.int .i64 (i:Int)]++Js 49)),[⟨true,0,1,true,[.rsl (Qt k.parts) 0 k.parts.length,.int .i64 k.crane,.rsl ((Qf rowI) k.vans) 0 k.vans.length],false⟩]⟩
def f49G0 (E:Env) (k:BKit) (i:Nat):Prop:=G Try.prog E (Kc Try.prog) (f49S0 k i )
def f49K1 (P:Program):List Item:=kAt 400 [.code (Qc P 49)] [.b false,.b true,.b false,.stop]
def f49S1 (k:BKit) (k1:(List Int)) (k11:Nat) (v1_0:Int) (v1_1:Int) (v1_2:Int) (v1_3:(List Int)) (last:Int) (k111:Nat) (i:Nat) (k1111:Nat):St:=⟨([J,.ptr 0 0 0,J,J,.int .i64 (k.parts.length:Int),.int .i64 (i:Int),J,.int .i64 last]++jj 20 ([.rsl (Qt k.parts) 0 k.parts.length,.int .i64 (k.parts.length:Int),.int .i64 (k1111:Int)]++jj 21 ([.rsl (rowI k1) 0 k1.length,.int .i64 (k11:Int),.int .i64 (k111:Int)]++Js 25))),[⟨true,0,1,true,[.rsl (Qt k.parts) 0 k.parts.length,.int .i64 k.crane,.rsl ((Qf rowI) k.vans) 0 k.vans.length],false⟩,⟨true,0,1,true,[.int .i64 v1_0,.int .i64 v1_1,.int .i64 v1_2,.rsl (rowI v1_3) 0 v1_3.length],false⟩]⟩
def f49G1 (E:Env) (k:BKit) (k1:(List Int)) (k11:Nat) (v1_0:Int) (v1_1:Int) (v1_2:Int) (v1_3:(List Int)) (last:Int) (k111:Nat) (i:Nat) (k1111:Nat):Prop:=G Try.prog E (f49K1 Try.prog) (f49S1 k k1 k11 v1_0 v1_1 v1_2 v1_3 last k111 i k1111 )
theorem p49_start_0 (k:BKit) {E:Env} {res:AV} (hE:Qd Try.prog 49 res E) (ho:AllP [(decide ((k.parts.length:Int) > 16))=true,true=true,true=true])
 (hr:AvLe (.tup [.nilPtr,.bool false]) res):G Try.prog E [.code (Qc Try.prog 49)] ⟨[.agg [.rsl (Qt k.parts) 0 k.parts.length,.int .i64 k.crane,.rsl ((Qf rowI) k.vans) 0 k.vans.length]]++unds (Try.f49.ntmps - 1),[]⟩ :=
 Qb (n:=400) (evs:=[.b true,.b true,.b true]) (obs:=_) hE Try.func49 Qi (by kernel_rfl) ho hr
theorem p49_start_1 (k:BKit) {E:Env} {res:AV} (hE:Qd Try.prog 49 res E) (ho:AllP [(decide ((k.parts.length:Int) > 16))=false,(decide ((k.vans.length:Int) > 6))=true,true=true])
 (hr:AvLe (.tup [.nilPtr,.bool false]) res):G Try.prog E [.code (Qc Try.prog 49)] ⟨[.agg [.rsl (Qt k.parts) 0 k.parts.length,.int .i64 k.crane,.rsl ((Qf rowI) k.vans) 0 k.vans.length]]++unds (Try.f49.ntmps - 1),[]⟩ :=
 Qb (n:=400) (evs:=[.b false,.b true,.b true]) (obs:=_) hE Try.func49 Qi (by kernel_rfl) ho hr
theorem p49_start_2 (k:BKit) {E:Env} {res:AV} (hE:Qd Try.prog 49 res E) (ho:AllP [(decide ((k.parts.length:Int) > 16))=false,(decide ((k.vans.length:Int) > 6))=false,Qe Try.prog (.clos 117 [] []) [.int .i64 k.crane,.int .i64 1,.int .i64 1000000] (.bool (Qa k.crane 1 1000000)),(!(Qa k.crane 1 1000000))=true])
 (hr:AvLe (.tup [.nilPtr,.bool false]) res):G Try.prog E [.code (Qc Try.prog 49)] ⟨[.agg [.rsl (Qt k.parts) 0 k.parts.length,.int .i64 k.crane,.rsl ((Qf rowI) k.vans) 0 k.vans.length]]++unds (Try.f49.ntmps - 1),[]⟩ :=
 Qb (n:=400) (evs:=[.b false,.b false,.v (.bool (Qa k.crane 1 1000000)),.b true]) (obs:=_) hE Try.func49 Qi (by kernel_rfl) ho hr
theorem p49_start_3 (k:BKit) {E:Env} {rv:AV} (hE:Qd Try.prog 49 rv E) (ho:AllP [(decide ((k.parts.length:Int) > 16))=false,(decide ((k.vans.length:Int) > 6))=false,Qe Try.prog (.clos 117 [] []) [.int .i64 k.crane,.int .i64 1,.int .i64 1000000] (.bool (Qa k.crane 1 1000000)),(!(Qa k.crane 1 1000000))=false])
 (hg:G Try.prog E (Kc Try.prog) ⟨([J,.ptr 0 0 0,J,J,.int .i64 (k.parts.length:Int)]++jj 23 ([.rsl (Qt k.parts) 0 k.parts.length,.int .i64 (k.parts.length:Int),.int .i64 0]++Js 49)),[⟨true,0,1,true,[.rsl (Qt k.parts) 0 k.parts.length,.int .i64 k.crane,.rsl ((Qf rowI) k.vans) 0 k.vans.length],false⟩]⟩):G Try.prog E [.code (Qc Try.prog 49)] ⟨[.agg [.rsl (Qt k.parts) 0 k.parts.length,.int .i64 k.crane,.rsl ((Qf rowI) k.vans) 0 k.vans.length]]++unds (Try.f49.ntmps - 1),[]⟩ :=
 Ql (n:=400) (ds:=[]) (cs:=[]) (live:=[1,4,28,29,30]) (m:=1) (evs:=[.b false,.b false,.v (.bool (Qa k.crane 1 1000000)),.b false,.stop]) (obs:=_) hE.2.1 (hE.nogh _) Qi (by kernel_rfl) ho hg
theorem f49W (k:BKit) {E:Env} {rv:AV} (hE:Qd Try.prog 49 rv E)
 (h:(((k.parts.length:Int) > 16→rv=(.tup [.nilPtr,.bool false]))∧(¬ ((k.parts.length:Int) > 16)→(((k.vans.length:Int) > 6→rv=(.tup [.nilPtr,.bool false]))∧(¬ ((k.vans.length:Int) > 6)→(((Qa k.crane 1 1000000)=false→rv=(.tup [.nilPtr,.bool false]))∧((Qa k.crane 1 1000000)=true→f49G0 E k 0))))))):G Try.prog E [.code (Qc Try.prog 49)] ⟨[.agg [.rsl (Qt k.parts) 0 k.parts.length,.int .i64 k.crane,.rsl ((Qf rowI) k.vans) 0 k.vans.length]]++unds (Try.f49.ntmps - 1),[]⟩:=by
 rcases bft (decide ((k.parts.length:Int) > 16)) with hc0 | hc0
 · have h:=h.1 (odt hc0)
   exact p49_start_0 k hE ⟨hc0,rfl,rfl,trivial⟩ (AvLe.of_eq (by rw [h]; try rfl))
 · have h:=h.2 (odf hc0)
   rcases bft (decide ((k.vans.length:Int) > 6)) with hc1 | hc1
   · have h:=h.1 (odt hc1)
     exact p49_start_1 k hE ⟨hc0,hc1,rfl,trivial⟩ (AvLe.of_eq (by rw [h]; try rfl))
   · have h:=h.2 (odf hc1)
     rcases bft (!(Qa k.crane 1 1000000)) with hc2 | hc2
     · have h:=h.1 (bnT hc2)
       exact p49_start_2 k hE ⟨hc0,hc1,(u117 (QN k.crane 1 1000000)),hc2,trivial⟩ (AvLe.of_eq (by rw [h]; try rfl))
     · have h:=h.2 (bnF hc2)
       exact p49_start_3 k hE ⟨hc0,hc1,(u117 (QN k.crane 1 1000000)),hc2,trivial⟩ h
theorem p49_0_0 (k:BKit) (i:Nat) (be:BPart) {E:Env} {res:AV} (hE:Qd Try.prog 49 res E) (ho:AllP [(decide ((i:Int)<(k.parts.length:Int)))=true,0≤(i:Int)∧(i:Int)<(k.parts.length:Int),((Qt k.parts).drop (0+(Int.toNat (i:Int))*4)).take 4=[.int .i64 be.w,.int .i64 be.m,.int .i64 be.pins,.rsl (rowI be.needs) 0 be.needs.length],4≤4,Qe Try.prog (.clos 117 [] []) [.int .i64 be.w,.int .i64 1,.int .i64 1000000] (.bool (Qa be.w 1 1000000)),(!(Qa be.w 1 1000000))=true,true=true,true=true])
 (hr:AvLe (.tup [.nilPtr,.bool false]) res):G Try.prog E (Kc Try.prog) (f49S0 k i ) :=
 Qb (n:=400) (evs:=[.b true,.ld (.agg [.int .i64 be.w,.int .i64 be.m,.int .i64 be.pins,.rsl (rowI be.needs) 0 be.needs.length]),.v (.bool (Qa be.w 1 1000000)),.b true,.b true,.b true]) (obs:=_) hE Try.func49 Qi (by kernel_rfl) ho hr
theorem p49_0_1 (k:BKit) (i:Nat) (be:BPart) {E:Env} {res:AV} (hE:Qd Try.prog 49 res E) (ho:AllP [(decide ((i:Int)<(k.parts.length:Int)))=true,0≤(i:Int)∧(i:Int)<(k.parts.length:Int),((Qt k.parts).drop (0+(Int.toNat (i:Int))*4)).take 4=[.int .i64 be.w,.int .i64 be.m,.int .i64 be.pins,.rsl (rowI be.needs) 0 be.needs.length],4≤4,Qe Try.prog (.clos 117 [] []) [.int .i64 be.w,.int .i64 1,.int .i64 1000000] (.bool (Qa be.w 1 1000000)),(!(Qa be.w 1 1000000))=false,Qe Try.prog (.clos 117 [] []) [.int .i64 be.m,.int .i64 1,.int .i64 100] (.bool (Qa be.m 1 100)),(!(Qa be.m 1 100))=true,true=true])
 (hr:AvLe (.tup [.nilPtr,.bool false]) res):G Try.prog E (Kc Try.prog) (f49S0 k i ) :=
 Qb (n:=400) (evs:=[.b true,.ld (.agg [.int .i64 be.w,.int .i64 be.m,.int .i64 be.pins,.rsl (rowI be.needs) 0 be.needs.length]),.v (.bool (Qa be.w 1 1000000)),.b false,.v (.bool (Qa be.m 1 100)),.b true,.b true]) (obs:=_) hE Try.func49 Qi (by kernel_rfl) ho hr
theorem p49_0_2 (k:BKit) (i:Nat) (be:BPart) {E:Env} {res:AV} (hE:Qd Try.prog 49 res E) (ho:AllP [(decide ((i:Int)<(k.parts.length:Int)))=true,0≤(i:Int)∧(i:Int)<(k.parts.length:Int),((Qt k.parts).drop (0+(Int.toNat (i:Int))*4)).take 4=[.int .i64 be.w,.int .i64 be.m,.int .i64 be.pins,.rsl (rowI be.needs) 0 be.needs.length],4≤4,Qe Try.prog (.clos 117 [] []) [.int .i64 be.w,.int .i64 1,.int .i64 1000000] (.bool (Qa be.w 1 1000000)),(!(Qa be.w 1 1000000))=false,Qe Try.prog (.clos 117 [] []) [.int .i64 be.m,.int .i64 1,.int .i64 100] (.bool (Qa be.m 1 100)),(!(Qa be.m 1 100))=false,Qe Try.prog (.clos 117 [] []) [.int .i64 be.pins,.int .i64 0,.int .i64 9] (.bool (Qa be.pins 0 9)),(!(Qa be.pins 0 9))=true])
 (hr:AvLe (.tup [.nilPtr,.bool false]) res):G Try.prog E (Kc Try.prog) (f49S0 k i ) :=
 Qb (n:=400) (evs:=[.b true,.ld (.agg [.int .i64 be.w,.int .i64 be.m,.int .i64 be.pins,.rsl (rowI be.needs) 0 be.needs.length]),.v (.bool (Qa be.w 1 1000000)),.b false,.v (.bool (Qa be.m 1 100)),.b false,.v (.bool (Qa be.pins 0 9)),.b true]) (obs:=_) hE Try.func49 Qi (by kernel_rfl) ho hr
theorem p49_0_3 (k:BKit) (i:Nat) (be:BPart) {E:Env} {rv:AV} (hE:Qd Try.prog 49 rv E) (ho:AllP [(decide ((i:Int)<(k.parts.length:Int)))=true,0≤(i:Int)∧(i:Int)<(k.parts.length:Int),((Qt k.parts).drop (0+(Int.toNat (i:Int))*4)).take 4=[.int .i64 be.w,.int .i64 be.m,.int .i64 be.pins,.rsl (rowI be.needs) 0 be.needs.length],4≤4,Qe Try.prog (.clos 117 [] []) [.int .i64 be.w,.int .i64 1,.int .i64 1000000] (.bool (Qa be.w 1 1000000)),(!(Qa be.w 1 1000000))=false,Qe Try.prog (.clos 117 [] []) [.int .i64 be.m,.int .i64 1,.int .i64 100] (.bool (Qa be.m 1 100)),(!(Qa be.m 1 100))=false,Qe Try.prog (.clos 117 [] []) [.int .i64 be.pins,.int .i64 0,.int .i64 9] (.bool (Qa be.pins 0 9)),(!(Qa be.pins 0 9))=false])
 (hg:G Try.prog E (f49K1 Try.prog) ⟨([J,.ptr 0 0 0,J,J,.int .i64 (k.parts.length:Int),.int .i64 (i:Int),J,.int .i64 (-1)]++jj 20 ([.rsl (Qt k.parts) 0 k.parts.length,.int .i64 (k.parts.length:Int),.int .i64 (i:Int)]++jj 21 ([.rsl (rowI be.needs) 0 be.needs.length,.int .i64 (be.needs.length:Int),.int .i64 0]++Js 25))),[⟨true,0,1,true,[.rsl (Qt k.parts) 0 k.parts.length,.int .i64 k.crane,.rsl ((Qf rowI) k.vans) 0 k.vans.length],false⟩,⟨true,0,1,true,[.int .i64 be.w,.int .i64 be.m,.int .i64 be.pins,.rsl (rowI be.needs) 0 be.needs.length],false⟩]⟩):G Try.prog E (Kc Try.prog) (f49S0 k i ) :=
 Ql (n:=400) (ds:=[]) (cs:=[]) (live:=[1,4,5,7,28,29,30,52,53,54]) (m:=2) (evs:=[.b true,.ld (.agg [.int .i64 be.w,.int .i64 be.m,.int .i64 be.pins,.rsl (rowI be.needs) 0 be.needs.length]),.v (.bool (Qa be.w 1 1000000)),.b false,.v (.bool (Qa be.m 1 100)),.b false,.v (.bool (Qa be.pins 0 9)),.b false,.stop]) (obs:=_) hE.2.1 (hE.nogh _) Qi (by kernel_rfl) ho hg
theorem p49_0_4 (k:BKit) (i:Nat) {E:Env} {res:AV} (hE:Qd Try.prog 49 res E) (ho:AllP [(decide ((i:Int)<(k.parts.length:Int)))=false,Qe Try.prog (.clos 118 [] []) [.agg [.rsl (Qt k.parts) 0 k.parts.length,.int .i64 k.crane,.rsl ((Qf rowI) k.vans) 0 k.vans.length],.rsl ((Qf rowI) k.vans) 0 k.vans.length] (.tup [.rptr [.rsl (Qt (((Qk k).k).parts)) 0 ((((Qk k).k).parts).length),.int .i64 (((Qk k).k).crane),.rsl ((Qf rowI) (((Qk k).k).vans)) 0 ((((Qk k).k).vans).length),.rsl ((Qf rowI) ((Qk k).above)) 0 (((Qk k).above).length),.rsl ((Qf rowI) ((Qk k).below)) 0 (((Qk k).below).length)] 0,.bool (Wr k)])])
 (hr:AvLe (.tup [.rptr [.rsl (Qt (((Qk k).k).parts)) 0 ((((Qk k).k).parts).length),.int .i64 (((Qk k).k).crane),.rsl ((Qf rowI) (((Qk k).k).vans)) 0 ((((Qk k).k).vans).length),.rsl ((Qf rowI) ((Qk k).above)) 0 (((Qk k).above).length),.rsl ((Qf rowI) ((Qk k).below)) 0 (((Qk k).below).length)] 0,.bool (Wr k)]) res):G Try.prog E (Kc Try.prog) (f49S0 k i ) :=
 Qb (n:=400) (evs:=[.b false,.v (.tup [.rptr [.rsl (Qt (((Qk k).k).parts)) 0 ((((Qk k).k).parts).length),.int .i64 (((Qk k).k).crane),.rsl ((Qf rowI) (((Qk k).k).vans)) 0 ((((Qk k).k).vans).length),.rsl ((Qf rowI) ((Qk k).above)) 0 (((Qk k).above).length),.rsl ((Qf rowI) ((Qk k).below)) 0 (((Qk k).below).length)] 0,.bool (Wr k)])]) (obs:=_) hE Try.func49 Qi (by kernel_rfl) ho hr
theorem p49_0_5 (k:BKit) (i:Nat) {E:Env} {res:AV} (hE:Qd Try.prog 49 res E) (ho:AllP [(decide ((i:Int)<(k.parts.length:Int)))=false,Qe Try.prog (.clos 118 [] []) [.agg [.rsl (Qt k.parts) 0 k.parts.length,.int .i64 k.crane,.rsl ((Qf rowI) k.vans) 0 k.vans.length],.rsl ((Qf rowI) k.vans) 0 k.vans.length] (.tup [.nilPtr,.bool false])])
 (hr:AvLe (.tup [.nilPtr,.bool false]) res):G Try.prog E (Kc Try.prog) (f49S0 k i ) :=
 Qb (n:=400) (evs:=[.b false,.v (.tup [.nilPtr,.bool false])]) (obs:=_) hE Try.func49 Qi (by kernel_rfl) ho hr
theorem f49W0 (k:BKit) (i:Nat) {E:Env} {rv:AV} (hE:Qd Try.prog 49 rv E)
 (h:(((i:Int)<(k.parts.length:Int)→(∃ be:BPart,k.parts[i]?=some be∧(((Qa be.w 1 1000000)=false→rv=(.tup [.nilPtr,.bool false]))∧((Qa be.w 1 1000000)=true→(((Qa be.m 1 100)=false→rv=(.tup [.nilPtr,.bool false]))∧((Qa be.m 1 100)=true→(((Qa be.pins 0 9)=false→rv=(.tup [.nilPtr,.bool false]))∧((Qa be.pins 0 9)=true→f49G1 E k be.needs be.needs.length be.w be.m be.pins be.needs (-1) 0 i i))))))))∧(¬ ((i:Int)<(k.parts.length:Int))→((((Xc k).isSome)=true→((KitSmall k∧k.vans=k.vans∧k.parts.length≤16)∧rv=(.tup [.rptr [.rsl (Qt (((Qk k).k).parts)) 0 ((((Qk k).k).parts).length),.int .i64 (((Qk k).k).crane),.rsl ((Qf rowI) (((Qk k).k).vans)) 0 ((((Qk k).k).vans).length),.rsl ((Qf rowI) ((Qk k).above)) 0 (((Qk k).above).length),.rsl ((Qf rowI) ((Qk k).below)) 0 (((Qk k).below).length)] 0,.bool (Wr k)])))∧(((Xc k).isSome)=false→((KitSmall k∧k.vans=k.vans∧k.parts.length≤16)∧rv=(.tup [.nilPtr,.bool false]))))))):f49G0 E k i:=by
 rcases bft (decide ((i:Int)<(k.parts.length:Int))) with hc0 | hc0
 · have h:=h.1 (odt hc0)
   obtain ⟨be,h1,h⟩:=h
   rcases bft (!(Qa be.w 1 1000000)) with hc1 | hc1
   · have h:=h.1 (bnT hc1)
     exact p49_0_0 k i be hE ⟨hc0,(Qr h1),(rp cBp 4 0 4 h1),(by decide),(u117 (QN be.w 1 1000000)),hc1,rfl,rfl,trivial⟩ (AvLe.of_eq (by rw [h]; try rfl))
   · have h:=h.2 (bnF hc1)
     rcases bft (!(Qa be.m 1 100)) with hc2 | hc2
     · have h:=h.1 (bnT hc2)
       exact p49_0_1 k i be hE ⟨hc0,(Qr h1),(rp cBp 4 0 4 h1),(by decide),(u117 (QN be.w 1 1000000)),hc1,(u117 (QN be.m 1 100)),hc2,rfl,trivial⟩ (AvLe.of_eq (by rw [h]; try rfl))
     · have h:=h.2 (bnF hc2)
       rcases bft (!(Qa be.pins 0 9)) with hc3 | hc3
       · have h:=h.1 (bnT hc3)
         exact p49_0_2 k i be hE ⟨hc0,(Qr h1),(rp cBp 4 0 4 h1),(by decide),(u117 (QN be.w 1 1000000)),hc1,(u117 (QN be.m 1 100)),hc2,(u117 (QN be.pins 0 9)),hc3,trivial⟩ (AvLe.of_eq (by rw [h]; try rfl))
       · have h:=h.2 (bnF hc3)
         exact p49_0_3 k i be hE ⟨hc0,(Qr h1),(rp cBp 4 0 4 h1),(by decide),(u117 (QN be.w 1 1000000)),hc1,(u117 (QN be.m 1 100)),hc2,(u117 (QN be.pins 0 9)),hc3,trivial⟩ h
 · have h:=h.2 (odf hc0)
   rcases bft ((Xc k).isSome) with hc1 | hc1
   · have h:=h.1 hc1
     obtain ⟨h1,h⟩:=h
     exact p49_0_4 k i hE ⟨hc0,(u118 (stacked_some k k.vans h1 hc1)),trivial⟩ (AvLe.of_eq (by rw [h]; try rfl))
   · have h:=h.2 hc1
     obtain ⟨h1,h⟩:=h
     exact p49_0_5 k i hE ⟨hc0,(u118 (stacked_none k k.vans h1 hc1)),trivial⟩ (AvLe.of_eq (by rw [h]; try rfl))
theorem p49_1_0 (k:BKit) (k1:(List Int)) (k11:Nat) (v1_0:Int) (v1_1:Int) (v1_2:Int) (v1_3:(List Int)) (last:Int) (k111:Nat) (i:Nat) (k1111:Nat) (e:Int) {E:Env} {res:AV} (hE:Qd Try.prog 49 res E) (ho:AllP [(decide ((k111:Int)<(k11:Int)))=true,0≤(k111:Int)∧(k111:Int)<(k1.length:Int),((rowI k1).drop (0+(Int.toNat (k111:Int))*1)).take 1=[.int .i64 e],(decide (e≤last))=true,true=true,true=true])
 (hr:AvLe (.tup [.nilPtr,.bool false]) res):G Try.prog E (f49K1 Try.prog) (f49S1 k k1 k11 v1_0 v1_1 v1_2 v1_3 last k111 i k1111 ) :=
 Qb (n:=400) (evs:=[.b true,.ld (.int .i64 e),.b true,.b true,.b true]) (obs:=_) hE Try.func49 Qi (by kernel_rfl) ho hr
theorem p49_1_1 (k:BKit) (k1:(List Int)) (k11:Nat) (v1_0:Int) (v1_1:Int) (v1_2:Int) (v1_3:(List Int)) (last:Int) (k111:Nat) (i:Nat) (k1111:Nat) (e:Int) {E:Env} {res:AV} (hE:Qd Try.prog 49 res E) (ho:AllP [(decide ((k111:Int)<(k11:Int)))=true,0≤(k111:Int)∧(k111:Int)<(k1.length:Int),((rowI k1).drop (0+(Int.toNat (k111:Int))*1)).take 1=[.int .i64 e],(decide (e≤last))=false,(decide (e≥(k.parts.length:Int)))=true,true=true])
 (hr:AvLe (.tup [.nilPtr,.bool false]) res):G Try.prog E (f49K1 Try.prog) (f49S1 k k1 k11 v1_0 v1_1 v1_2 v1_3 last k111 i k1111 ) :=
 Qb (n:=400) (evs:=[.b true,.ld (.int .i64 e),.b false,.b true,.b true]) (obs:=_) hE Try.func49 Qi (by kernel_rfl) ho hr
theorem p49_1_2 (k:BKit) (k1:(List Int)) (k11:Nat) (v1_0:Int) (v1_1:Int) (v1_2:Int) (v1_3:(List Int)) (last:Int) (k111:Nat) (i:Nat) (k1111:Nat) (e:Int) {E:Env} {res:AV} (hE:Qd Try.prog 49 res E) (ho:AllP [(decide ((k111:Int)<(k11:Int)))=true,0≤(k111:Int)∧(k111:Int)<(k1.length:Int),((rowI k1).drop (0+(Int.toNat (k111:Int))*1)).take 1=[.int .i64 e],(decide (e≤last))=false,(decide (e≥(k.parts.length:Int)))=false,(e == (i:Int))=true])
 (hr:AvLe (.tup [.nilPtr,.bool false]) res):G Try.prog E (f49K1 Try.prog) (f49S1 k k1 k11 v1_0 v1_1 v1_2 v1_3 last k111 i k1111 ) :=
 Qb (n:=400) (evs:=[.b true,.ld (.int .i64 e),.b false,.b false,.b true]) (obs:=_) hE Try.func49 Qi (by kernel_rfl) ho hr
theorem p49_1_3 (k:BKit) (k1:(List Int)) (k11:Nat) (v1_0:Int) (v1_1:Int) (v1_2:Int) (v1_3:(List Int)) (last:Int) (k111:Nat) (i:Nat) (k1111:Nat) (e:Int) {E:Env} {rv:AV} (hE:Qd Try.prog 49 rv E) (ho:AllP [(decide ((k111:Int)<(k11:Int)))=true,0≤(k111:Int)∧(k111:Int)<(k1.length:Int),((rowI k1).drop (0+(Int.toNat (k111:Int))*1)).take 1=[.int .i64 e],(decide (e≤last))=false,(decide (e≥(k.parts.length:Int)))=false,(e == (i:Int))=false,InR .i64 ((k111:Int)+1)])
 (hg:G Try.prog E (f49K1 Try.prog) ⟨([J,.ptr 0 0 0,J,J,.int .i64 (k.parts.length:Int),.int .i64 (i:Int),J,.int .i64 e]++jj 20 ([.rsl (Qt k.parts) 0 k.parts.length,.int .i64 (k.parts.length:Int),.int .i64 (k1111:Int)]++jj 21 ([.rsl (rowI k1) 0 k1.length,.int .i64 (k11:Int),.int .i64 ((k111:Int)+1)]++Js 25))),[⟨true,0,1,true,[.rsl (Qt k.parts) 0 k.parts.length,.int .i64 k.crane,.rsl ((Qf rowI) k.vans) 0 k.vans.length],false⟩,⟨true,0,1,true,[.int .i64 v1_0,.int .i64 v1_1,.int .i64 v1_2,.rsl (rowI v1_3) 0 v1_3.length],false⟩]⟩):G Try.prog E (f49K1 Try.prog) (f49S1 k k1 k11 v1_0 v1_1 v1_2 v1_3 last k111 i k1111 ) :=
 Ql (n:=400) (ds:=[]) (cs:=[]) (live:=[1,4,5,7,28,29,30,52,53,54]) (m:=2) (evs:=[.b true,.ld (.int .i64 e),.b false,.b false,.b false,.stop]) (obs:=_) hE.2.1 (hE.nogh _) Qi (by kernel_rfl) ho hg
theorem p49_1_4 (k:BKit) (k1:(List Int)) (k11:Nat) (v1_0:Int) (v1_1:Int) (v1_2:Int) (v1_3:(List Int)) (last:Int) (k111:Nat) (i:Nat) (k1111:Nat) {E:Env} {rv:AV} (hE:Qd Try.prog 49 rv E) (ho:AllP [(decide ((k111:Int)<(k11:Int)))=false,InR .i64 ((k1111:Int)+1)])
 (hg:G Try.prog E (Kc Try.prog) ⟨([J,.ptr 0 0 0,J,J,.int .i64 (k.parts.length:Int)]++jj 23 ([.rsl (Qt k.parts) 0 k.parts.length,.int .i64 (k.parts.length:Int),.int .i64 ((k1111:Int)+1)]++Js 49)),[⟨true,0,1,true,[.rsl (Qt k.parts) 0 k.parts.length,.int .i64 k.crane,.rsl ((Qf rowI) k.vans) 0 k.vans.length],false⟩]⟩):G Try.prog E (f49K1 Try.prog) (f49S1 k k1 k11 v1_0 v1_1 v1_2 v1_3 last k111 i k1111 ) :=
 Ql (n:=400) (ds:=[]) (cs:=[]) (live:=[1,4,28,29,30]) (m:=1) (evs:=[.b false,.stop]) (obs:=_) hE.2.1 (hE.nogh _) Qi (by kernel_rfl) ho hg
theorem f49W1 (k:BKit) (k1:(List Int)) (k11:Nat) (v1_0:Int) (v1_1:Int) (v1_2:Int) (v1_3:(List Int)) (last:Int) (k111:Nat) (i:Nat) (k1111:Nat) {E:Env} {rv:AV} (hE:Qd Try.prog 49 rv E)
 (h:(((k111:Int)<(k11:Int)→(∃ e:Int,k1[k111]?=some e∧((e≤last→rv=(.tup [.nilPtr,.bool false]))∧(¬ (e≤last)→((e≥(k.parts.length:Int)→rv=(.tup [.nilPtr,.bool false]))∧(¬ (e≥(k.parts.length:Int))→((e=(i:Int)→rv=(.tup [.nilPtr,.bool false]))∧(¬ (e=(i:Int))→((I6 ((k111:Int)+1))∧f49G1 E k k1 k11 v1_0 v1_1 v1_2 v1_3 e (k111+1) i k1111)))))))))∧(¬ ((k111:Int)<(k11:Int))→((I6 ((k1111:Int)+1))∧f49G0 E k (k1111+1))))):f49G1 E k k1 k11 v1_0 v1_1 v1_2 v1_3 last k111 i k1111:=by
 rcases bft (decide ((k111:Int)<(k11:Int))) with hc0 | hc0
 · have h:=h.1 (odt hc0)
   obtain ⟨e,h1,h⟩:=h
   rcases bft (decide (e≤last)) with hc1 | hc1
   · have h:=h.1 (odt hc1)
     exact p49_1_0 k k1 k11 v1_0 v1_1 v1_2 v1_3 last k111 i k1111 e hE ⟨hc0,(Qr h1),(rp cI 1 0 1 h1),hc1,rfl,rfl,trivial⟩ (AvLe.of_eq (by rw [h]; try rfl))
   · have h:=h.2 (odf hc1)
     rcases bft (decide (e≥(k.parts.length:Int))) with hc2 | hc2
     · have h:=h.1 (odt hc2)
       exact p49_1_1 k k1 k11 v1_0 v1_1 v1_2 v1_3 last k111 i k1111 e hE ⟨hc0,(Qr h1),(rp cI 1 0 1 h1),hc1,hc2,rfl,trivial⟩ (AvLe.of_eq (by rw [h]; try rfl))
     · have h:=h.2 (odf hc2)
       rcases bft (e == (i:Int)) with hc3 | hc3
       · have h:=h.1 (eq_of_beq hc3)
         exact p49_1_2 k k1 k11 v1_0 v1_1 v1_2 v1_3 last k111 i k1111 e hE ⟨hc0,(Qr h1),(rp cI 1 0 1 h1),hc1,hc2,hc3,trivial⟩ (AvLe.of_eq (by rw [h]; try rfl))
       · have h:=h.2 (ne_of_beq_false hc3)
         obtain ⟨q7_4,h⟩:=h
         exact p49_1_3 k k1 k11 v1_0 v1_1 v1_2 v1_3 last k111 i k1111 e hE ⟨hc0,(Qr h1),(rp cI 1 0 1 h1),hc1,hc2,hc3,q7_4,trivial⟩ h
 · have h:=h.2 (odf hc0)
   obtain ⟨q1_1,h⟩:=h
   exact p49_1_4 k k1 k11 v1_0 v1_1 v1_2 v1_3 last k111 i k1111 hE ⟨hc0,q1_1,trivial⟩ h
def VD (k:BKit):AV:=if (Yy k && (Xc k).isSome)=true then .tup [yardV (Qk k),.bool (Wr k)] else .tup [.nilPtr,.bool false]
theorem VC {k:BKit} (h:Yy k=false):VD k=.tup [.nilPtr,.bool false]:=by unfold VD; rw [h]; rfl
theorem Vx (k:BKit) (hs:KitSmall k):Pure Try.prog 49 [.agg [.rsl (Qt k.parts) 0 k.parts.length,.int .i64 k.crane,.rsl (Qf rowI k.vans) 0 k.vans.length]] (VD k):=Qy Try.func49 f49b fun E hE=>by
 have h20:=hs.parts
 refine f49W k (rv:=VD k) hE ⟨fun c1=>?_,fun c1=>⟨fun c2=>?_,fun c2=>⟨fun c3=>?_,fun c3=>?_⟩⟩⟩
 · exact VC (by simp only [Yy]; rw [decide_eq_false (by omega)]; rfl)
 · exact VC (by simp only [Yy]; rw [decide_eq_false (show ¬ k.vans.length≤6 by omega),Bool.false_and,Bool.and_false])
 · exact VC (by simp only [Yy]; rw [c3,Bool.false_and,Bool.and_false,Bool.and_false])
 have hk:Yy k=YS k.parts.length 0 k.parts:=by
  simp only [Yy]; rw [decide_eq_true (show k.parts.length≤16 by omega),decide_eq_true (show k.vans.length≤6 by omega),c3]; rfl
 have outer:∀ (d i:Nat),i+d=k.parts.length→Yy k=YS k.parts.length i (k.parts.drop i)→f49G0 E k i:=by
  intro d
  induction d with
  | zero =>
   intro i hi hr
   rw [List.drop_eq_nil_of_le (by omega)] at hr
   have hk1:Yy k=true:=hr
   refine f49W0 k i (rv:=VD k) hE ⟨fun h=>by omega,fun _=>⟨fun h=>⟨⟨hs,rfl,by omega⟩,?_⟩,fun h=>⟨⟨hs,rfl,by omega⟩,?_⟩⟩⟩
   · unfold VD; rw [hk1,h]; rfl
   · unfold VD; rw [hk1,h]; rfl
  | succ d ih =>
   intro i hi hr
   have hx:k.parts[i]?=some (k.parts[i]'(by omega)):=List.getElem?_eq_getElem (by omega)
   rw [List.drop_eq_getElem_cons (by omega)] at hr
   generalize k.parts[i]'(by omega)=p at hx hr
   have hn:=hs.needs p (List.mem_of_getElem? hx)
   simp only [YS,partOk] at hr
   have bad:∀ b:Bool,b=false→Yy k=b→VD k=.tup [.nilPtr,.bool false]:=fun b hb hh=>VC (by rw [hh,hb])
   refine f49W0 k i (rv:=VD k) hE ⟨fun _=>⟨p,hx,fun b1=>?_,fun b1=>⟨fun b2=>?_,fun b2=>⟨fun b3=>?_,fun b3=>?_⟩⟩⟩,fun h=>by omega⟩
   · exact bad _ (by rw [b1]; simp) hr
   · exact bad _ (by rw [b2]; simp) hr
   · exact bad _ (by rw [b3]; simp) hr
   rw [b1,b2,b3,Bool.true_and,Bool.true_and,Bool.true_and] at hr
   have inner:∀ (d j:Nat) (last:Int),j+d=p.needs.length→Yy k=(qW k.parts.length i last (p.needs.drop j) && YS k.parts.length (i+1) (k.parts.drop (i+1)))→f49G1 E k p.needs p.needs.length p.w p.m p.pins p.needs last j i i:=by
    intro d
    induction d with
    | zero =>
     intro j last hj hr
     rw [List.drop_eq_nil_of_le (by omega)] at hr
     exact f49W1 k p.needs p.needs.length p.w p.m p.pins p.needs last j i i (rv:=VD k) hE ⟨fun h=>by omega,fun _=>⟨by omega,ih (i+1) (by omega) hr⟩⟩
    | succ d ihd =>
     intro j last hj hr
     have hy:p.needs[j]?=some (p.needs[j]'(by omega)):=List.getElem?_eq_getElem (by omega)
     rw [List.drop_eq_getElem_cons (by omega)] at hr
     generalize p.needs[j]'(by omega)=e at hy hr
     simp only [qW] at hr
     refine f49W1 k p.needs p.needs.length p.w p.m p.pins p.needs last j i i (rv:=VD k) hE ⟨fun _=>⟨e,hy,fun q1=>?_,fun q1=>⟨fun q2=>?_,fun q2=>⟨fun q3=>?_,fun q3=>⟨by omega,?_⟩⟩⟩⟩,fun h=>by omega⟩
     · rw [if_pos (.inl q1)] at hr; exact bad _ rfl hr
     · rw [if_pos (.inr (.inl q2))] at hr; exact bad _ rfl hr
     · rw [if_pos (.inr (.inr q3))] at hr; exact bad _ rfl hr
     · rw [if_neg (by rintro (h | h | h) <;> contradiction)] at hr
       exact ihd (j+1) e (by omega) hr
   exact inner p.needs.length 0 (-1) (by omega) hr
 exact outer k.parts.length 0 (by omega) hk
theorem yard_ok (k:BKit) (hs:KitSmall k) (h:YN k=true):Pure Try.prog 49 [.agg [.rsl (Qt k.parts) 0 k.parts.length,.int .i64 k.crane,.rsl (Qf rowI k.vans) 0 k.vans.length]] (.tup [yardV (Qk k),.bool true]):=by
 have hg:=Vx k hs
 simp only [YN,Bool.and_eq_true] at h
 unfold VD at hg
 rw [h.1,h.2.1,h.2.2] at hg
 exact hg
theorem yard_half (k:BKit) (hs:KitSmall k) (h:YN k=false) (h2:(Yy k && (Xc k).isSome)=true):Pure Try.prog 49 [.agg [.rsl (Qt k.parts) 0 k.parts.length,.int .i64 k.crane,.rsl (Qf rowI k.vans) 0 k.vans.length]] (.tup [yardV (Qk k),.bool false]):=by
 have hg:=Vx k hs
 have h3:Wr k=false:=by
  simp only [Bool.and_eq_true] at h2
  unfold YN at h
  rw [h2.1,h2.2,Bool.true_and,Bool.true_and] at h
  exact h
 unfold VD at hg
 rw [if_pos h2,h3] at hg
 exact hg
theorem yard_nil (k:BKit) (hs:KitSmall k) (h:YN k=false) (h2:(Yy k && (Xc k).isSome)=false):Pure Try.prog 49 [.agg [.rsl (Qt k.parts) 0 k.parts.length,.int .i64 k.crane,.rsl (Qf rowI k.vans) 0 k.vans.length]] (.tup [.nilPtr,.bool false]):=by
 have hg:=Vx k hs
 unfold VD at hg
 rw [if_neg (by rw [h2]; exact Bool.false_ne_true)] at hg
 exact hg
theorem f14b:Try.f14.body=some (Qc Try.prog 14):=by kernel_rfl
theorem u14 {a c k:List AV} {r:AV} (h:Pure Try.prog 14 (a++c++k) r):Qe Try.prog (.clos 14 a k) c r:=Qo Try.func14 (by kernel_rfl) f14b h
theorem p14_start_0 (k:BKit) {E:Env} {res:AV} (hE:Qd Try.prog 14 res E) (ho:AllP [Qe Try.prog (.clos 49 [] []) [.agg [.rsl (Qt k.parts) 0 k.parts.length,.int .i64 k.crane,.rsl ((Qf rowI) k.vans) 0 k.vans.length]] (.tup [.rptr [.rsl (Qt (((Qk k).k).parts)) 0 ((((Qk k).k).parts).length),.int .i64 (((Qk k).k).crane),.rsl ((Qf rowI) (((Qk k).k).vans)) 0 ((((Qk k).k).vans).length),.rsl ((Qf rowI) ((Qk k).above)) 0 (((Qk k).above).length),.rsl ((Qf rowI) ((Qk k).below)) 0 (((Qk k).below).length)] 0,.bool true]),false=false,Qe Try.prog (.clos 50 [] []) [.rptr [.rsl (Qt (((Qk k).k).parts)) 0 ((((Qk k).k).parts).length),.int .i64 (((Qk k).k).crane),.rsl ((Qf rowI) (((Qk k).k).vans)) 0 ((((Qk k).k).vans).length),.rsl ((Qf rowI) ((Qk k).above)) 0 (((Qk k).above).length),.rsl ((Qf rowI) ((Qk k).below)) 0 (((Qk k).below).length)] 0] (.tup [.rsl (rowI ((ordK (Qk k)).1)) 0 (((ordK (Qk k)).1).length),.rsl (rowB ((ordK (Qk k)).2)) 0 (((ordK (Qk k)).2).length)]),(decide (((((ordK (Qk k)).1).length:Nat):Int)<(k.parts.length:Int)))=true])
 (hr:AvLe (.tup [.nilSl,.int .i64 3]) res):G Try.prog E [.code (Qc Try.prog 14)] ⟨[.agg [.rsl (Qt k.parts) 0 k.parts.length,.int .i64 k.crane,.rsl ((Qf rowI) k.vans) 0 k.vans.length]]++unds (Try.f14.ntmps - 1),[]⟩ :=
 Qb (n:=400) (evs:=[.v (.tup [.rptr [.rsl (Qt (((Qk k).k).parts)) 0 ((((Qk k).k).parts).length),.int .i64 (((Qk k).k).crane),.rsl ((Qf rowI) (((Qk k).k).vans)) 0 ((((Qk k).k).vans).length),.rsl ((Qf rowI) ((Qk k).above)) 0 (((Qk k).above).length),.rsl ((Qf rowI) ((Qk k).below)) 0 (((Qk k).below).length)] 0,.bool true]),.b false,.v (.tup [.rsl (rowI ((ordK (Qk k)).1)) 0 (((ordK (Qk k)).1).length),.rsl (rowB ((ordK (Qk k)).2)) 0 (((ordK (Qk k)).2).length)]),.b true]) (obs:=_) hE Try.func14 Qi (by kernel_rfl) ho hr
theorem p14_start_1 (k:BKit) {E:Env} {res:AV} (hE:Qd Try.prog 14 res E) (ho:AllP [Qe Try.prog (.clos 49 [] []) [.agg [.rsl (Qt k.parts) 0 k.parts.length,.int .i64 k.crane,.rsl ((Qf rowI) k.vans) 0 k.vans.length]] (.tup [.rptr [.rsl (Qt (((Qk k).k).parts)) 0 ((((Qk k).k).parts).length),.int .i64 (((Qk k).k).crane),.rsl ((Qf rowI) (((Qk k).k).vans)) 0 ((((Qk k).k).vans).length),.rsl ((Qf rowI) ((Qk k).above)) 0 (((Qk k).above).length),.rsl ((Qf rowI) ((Qk k).below)) 0 (((Qk k).below).length)] 0,.bool true]),false=false,Qe Try.prog (.clos 50 [] []) [.rptr [.rsl (Qt (((Qk k).k).parts)) 0 ((((Qk k).k).parts).length),.int .i64 (((Qk k).k).crane),.rsl ((Qf rowI) (((Qk k).k).vans)) 0 ((((Qk k).k).vans).length),.rsl ((Qf rowI) ((Qk k).above)) 0 (((Qk k).above).length),.rsl ((Qf rowI) ((Qk k).below)) 0 (((Qk k).below).length)] 0] (.tup [.rsl (rowI ((ordK (Qk k)).1)) 0 (((ordK (Qk k)).1).length),.rsl (rowB ((ordK (Qk k)).2)) 0 (((ordK (Qk k)).2).length)]),(decide (((((ordK (Qk k)).1).length:Nat):Int)<(k.parts.length:Int)))=false])
 (hr:AvLe (.tup [.rsl (rowI ((ordK (Qk k)).1)) 0 (((ordK (Qk k)).1).length),.int .i64 0]) res):G Try.prog E [.code (Qc Try.prog 14)] ⟨[.agg [.rsl (Qt k.parts) 0 k.parts.length,.int .i64 k.crane,.rsl ((Qf rowI) k.vans) 0 k.vans.length]]++unds (Try.f14.ntmps - 1),[]⟩ :=
 Qb (n:=400) (evs:=[.v (.tup [.rptr [.rsl (Qt (((Qk k).k).parts)) 0 ((((Qk k).k).parts).length),.int .i64 (((Qk k).k).crane),.rsl ((Qf rowI) (((Qk k).k).vans)) 0 ((((Qk k).k).vans).length),.rsl ((Qf rowI) ((Qk k).above)) 0 (((Qk k).above).length),.rsl ((Qf rowI) ((Qk k).below)) 0 (((Qk k).below).length)] 0,.bool true]),.b false,.v (.tup [.rsl (rowI ((ordK (Qk k)).1)) 0 (((ordK (Qk k)).1).length),.rsl (rowB ((ordK (Qk k)).2)) 0 (((ordK (Qk k)).2).length)]),.b false]) (obs:=_) hE Try.func14 Qi (by kernel_rfl) ho hr
theorem p14_start_2 (k:BKit) {E:Env} {res:AV} (hE:Qd Try.prog 14 res E) (ho:AllP [Qe Try.prog (.clos 49 [] []) [.agg [.rsl (Qt k.parts) 0 k.parts.length,.int .i64 k.crane,.rsl ((Qf rowI) k.vans) 0 k.vans.length]] (.tup [.rptr [.rsl (Qt (((Qk k).k).parts)) 0 ((((Qk k).k).parts).length),.int .i64 (((Qk k).k).crane),.rsl ((Qf rowI) (((Qk k).k).vans)) 0 ((((Qk k).k).vans).length),.rsl ((Qf rowI) ((Qk k).above)) 0 (((Qk k).above).length),.rsl ((Qf rowI) ((Qk k).below)) 0 (((Qk k).below).length)] 0,.bool false]),true=true])
 (hr:AvLe (.tup [.nilSl,.int .i64 80]) res):G Try.prog E [.code (Qc Try.prog 14)] ⟨[.agg [.rsl (Qt k.parts) 0 k.parts.length,.int .i64 k.crane,.rsl ((Qf rowI) k.vans) 0 k.vans.length]]++unds (Try.f14.ntmps - 1),[]⟩ :=
 Qb (n:=400) (evs:=[.v (.tup [.rptr [.rsl (Qt (((Qk k).k).parts)) 0 ((((Qk k).k).parts).length),.int .i64 (((Qk k).k).crane),.rsl ((Qf rowI) (((Qk k).k).vans)) 0 ((((Qk k).k).vans).length),.rsl ((Qf rowI) ((Qk k).above)) 0 (((Qk k).above).length),.rsl ((Qf rowI) ((Qk k).below)) 0 (((Qk k).below).length)] 0,.bool false]),.b true]) (obs:=_) hE Try.func14 Qi (by kernel_rfl) ho hr
theorem p14_start_3 (k:BKit) {E:Env} {res:AV} (hE:Qd Try.prog 14 res E) (ho:AllP [Qe Try.prog (.clos 49 [] []) [.agg [.rsl (Qt k.parts) 0 k.parts.length,.int .i64 k.crane,.rsl ((Qf rowI) k.vans) 0 k.vans.length]] (.tup [.nilPtr,.bool false]),true=true])
 (hr:AvLe (.tup [.nilSl,.int .i64 80]) res):G Try.prog E [.code (Qc Try.prog 14)] ⟨[.agg [.rsl (Qt k.parts) 0 k.parts.length,.int .i64 k.crane,.rsl ((Qf rowI) k.vans) 0 k.vans.length]]++unds (Try.f14.ntmps - 1),[]⟩ :=
 Qb (n:=400) (evs:=[.v (.tup [.nilPtr,.bool false]),.b true]) (obs:=_) hE Try.func14 Qi (by kernel_rfl) ho hr
theorem f14W (k:BKit) {E:Env} {rv:((List Int) × Int)} (hE:Qd Try.prog 14 (.tup [.rsl (rowI rv.1) 0 rv.1.length,.int .i64 rv.2]) E)
 (h:(((YN k)=true→((KitSmall k)∧((YardOk (Qk k))∧((((((ordK (Qk k)).1).length:Nat):Int)<(k.parts.length:Int)→rv=(([]:List Int),3))∧(¬ (((((ordK (Qk k)).1).length:Nat):Int)<(k.parts.length:Int))→rv=(((ordK (Qk k)).1),0))))))∧((YN k)=false→(((Yy k && (Xc k).isSome)=true→((KitSmall k)∧rv=(([]:List Int),80)))∧((Yy k && (Xc k).isSome)=false→((KitSmall k)∧rv=(([]:List Int),80))))))):G Try.prog E [.code (Qc Try.prog 14)] ⟨[.agg [.rsl (Qt k.parts) 0 k.parts.length,.int .i64 k.crane,.rsl ((Qf rowI) k.vans) 0 k.vans.length]]++unds (Try.f14.ntmps - 1),[]⟩:=by
 rcases bft (YN k) with hc0 | hc0
 · have h:=h.1 hc0
   obtain ⟨h1,h⟩:=h
   obtain ⟨h2,h⟩:=h
   rcases bft (decide (((((ordK (Qk k)).1).length:Nat):Int)<(k.parts.length:Int))) with hc1 | hc1
   · have h:=h.1 (odt hc1)
     exact p14_start_0 k hE ⟨(u49 (yard_ok k h1 hc0)),rfl,(u50 (order_ok (Qk k) h2)),hc1,trivial⟩ (by rw [h]; exact (qM ⟨VL,⟨AvLe.of_eq rfl,trivial⟩⟩))
   · have h:=h.2 (odf hc1)
     exact p14_start_1 k hE ⟨(u49 (yard_ok k h1 hc0)),rfl,(u50 (order_ok (Qk k) h2)),hc1,trivial⟩ (AvLe.of_eq (by rw [h]; try rfl))
 · have h:=h.2 hc0
   rcases bft (Yy k && (Xc k).isSome) with hc1 | hc1
   · have h:=h.1 hc1
     obtain ⟨h1,h⟩:=h
     exact p14_start_2 k hE ⟨(u49 (yard_half k h1 hc0 hc1)),rfl,trivial⟩ (by rw [h]; exact (qM ⟨VL,⟨AvLe.of_eq rfl,trivial⟩⟩))
   · have h:=h.2 hc1
     obtain ⟨h1,h⟩:=h
     exact p14_start_3 k hE ⟨(u49 (yard_nil k h1 hc0 hc1)),rfl,trivial⟩ (by rw [h]; exact (qM ⟨VL,⟨AvLe.of_eq rfl,trivial⟩⟩))
theorem Kk (k:BKit) (hs:KitSmall k):Pure Try.prog 14 [.agg [.rsl (Qt k.parts) 0 k.parts.length,.int .i64 k.crane,.rsl (Qf rowI k.vans) 0 k.vans.length]] (.tup [.rsl (rowI (Qj k).1) 0 (Qj k).1.length,.int .i64 (Qj k).2]):=Qy Try.func14 f14b fun E hE=>by
 refine f14W k (rv:=Qj k) hE ⟨fun h=>⟨hs,?_,fun c=>?_,fun c=>?_⟩,fun h=>⟨fun _=>⟨hs,?_⟩,fun _=>⟨hs,?_⟩⟩⟩
 · simp only [YN,Bool.and_eq_true] at h
   exact yard_fine hs h.1 h.2.1
 · unfold Qj; rw [if_pos h,if_pos (by omega)]
 · unfold Qj; rw [if_pos h,if_neg (by omega)]
 · unfold Qj; rw [if_neg (by rw [h]; exact Bool.false_ne_true)]
 · unfold Qj; rw [if_neg (by rw [h]; exact Bool.false_ne_true)]
theorem order_mem {k:BKit} (hs:KitSmall k) (h:(Qj k).2=0):∀ x ∈ (Qj k).1,(0≤x∧x<(k.parts.length:Int))∧(1≤(k.parts.getD x.toNat ⟨0,0,0,[]⟩).w∧(k.parts.getD x.toNat ⟨0,0,0,[]⟩).w≤1000000):=by
 unfold Qj at h ⊢
 split at h
 · rename_i hy
   rw [if_pos hy]
   split at h
   · cases h
   · rename_i hl
     rw [if_neg hl]
     intro x hx
     have h1:0≤x∧x<(k.parts.length:Int):=ordK_mem (y:=Qk k) x hx
     simp only [YN,Bool.and_eq_true] at hy
     have g:=Xy (l:=k.parts) ⟨0,0,0,[]⟩ h1
     exact ⟨h1,((yb hy.1).2 _ (List.mem_of_getElem? g)).1⟩
 · cases h
end Go.Proofs.Ytemklbioijmjiaa
namespace Go.Proofs.Ytemklbioijmjiaa
open Go Ax
open Go.Proofs
theorem and_mask {y:Int} (h:0≤y∧y<4294967296):bits .and .u64 y 4294967295=y:=by
 obtain ⟨n,rfl⟩:=Int.eq_ofNat_of_zero_le h.1
 have h1:=bits_and_u64_nat n 4294967295 (by omega) (by omega)
 have h2:n &&& 4294967295=n:=by
  have:=Nat.and_two_pow_sub_one_eq_mod n 32
  rw [show (2:Nat) ^ 32 - 1=4294967295 from rfl,show (2:Nat) ^ 32=4294967296 from rfl] at this
  rw [this]; exact Nat.mod_eq_of_lt (by omega)
 rw [h2] at h1
 exact h1
theorem inU {n:Int} (h:0≤n∧n≤18446744073709551615):InR .u64 n:=by
 have e1:IntKind.u64.min=0:=rfl
 have e2:IntKind.u64.max=18446744073709551615:=rfl
 unfold InR
 exact ⟨by rw [e1]; omega,by rw [e2]; omega⟩
theorem div32 {y:Int} (h:0≤y∧y<4294967296):y / 2 ^ (Int.toNat 32)=0:=by
 show y / 4294967296=0
 omega
theorem f194b:Try.f194.body=some (Qc Try.prog 194):=by kernel_rfl
theorem u194 {a c k:List AV} {r:AV} (h:Pure Try.prog 194 (a++c++k) r):Qe Try.prog (.clos 194 a k) c r:=Qo Try.func194 (by kernel_rfl) f194b h
theorem p194_start_0 (y:Int) {E:Env} {res:AV} (hE:Qd Try.prog 194 res E) (ho:AllP [(0:Int)≤32∧32≤((IntKind.bits .u64:Nat):Int),(0:Int)≤32∧32≤((IntKind.bits .u64:Nat):Int),InR .u64 (1*(bits .and .u64 y 4294967295)),InR .u64 (0*(bits .and .u64 y 4294967295)),(0:Int)≤32∧32≤((IntKind.bits .u64:Nat):Int),InR .u64 ((0*(bits .and .u64 y 4294967295))+((1*(bits .and .u64 y 4294967295)) / 2 ^ (Int.toNat 32))),(0:Int)≤32∧32≤((IntKind.bits .u64:Nat):Int),InR .u64 (1*(y / 2 ^ (Int.toNat 32))),InR .u64 ((bits .and .u64 ((0*(bits .and .u64 y 4294967295))+((1*(bits .and .u64 y 4294967295)) / 2 ^ (Int.toNat 32))) 4294967295)+(1*(y / 2 ^ (Int.toNat 32)))),InR .u64 (0*(y / 2 ^ (Int.toNat 32))),InR .u64 ((0*(y / 2 ^ (Int.toNat 32)))+(((0*(bits .and .u64 y 4294967295))+((1*(bits .and .u64 y 4294967295)) / 2 ^ (Int.toNat 32))) / 2 ^ (Int.toNat 32))),(0:Int)≤32∧32≤((IntKind.bits .u64:Nat):Int),InR .u64 (((0*(y / 2 ^ (Int.toNat 32)))+(((0*(bits .and .u64 y 4294967295))+((1*(bits .and .u64 y 4294967295)) / 2 ^ (Int.toNat 32))) / 2 ^ (Int.toNat 32)))+(((bits .and .u64 ((0*(bits .and .u64 y 4294967295))+((1*(bits .and .u64 y 4294967295)) / 2 ^ (Int.toNat 32))) 4294967295)+(1*(y / 2 ^ (Int.toNat 32)))) / 2 ^ (Int.toNat 32))),InR .u64 (1*y)])
 (hr:AvLe (.tup [.int .u64 (((0*(y / 2 ^ (Int.toNat 32)))+(((0*(bits .and .u64 y 4294967295))+((1*(bits .and .u64 y 4294967295)) / 2 ^ (Int.toNat 32))) / 2 ^ (Int.toNat 32)))+(((bits .and .u64 ((0*(bits .and .u64 y 4294967295))+((1*(bits .and .u64 y 4294967295)) / 2 ^ (Int.toNat 32))) 4294967295)+(1*(y / 2 ^ (Int.toNat 32)))) / 2 ^ (Int.toNat 32))),.int .u64 (1*y)]) res):G Try.prog E [.code (Qc Try.prog 194)] ⟨[.int .u64 1,.int .u64 y]++unds (Try.f194.ntmps - 2),[]⟩ :=
 Qb (n:=400) (evs:=[]) (obs:=_) hE Try.func194 Qi (by kernel_rfl) ho hr
theorem f194W (y:Int) {E:Env} {rv:(Int × Int)} (hE:Qd Try.prog 194 (.tup [.int .u64 rv.1,.int .u64 rv.2]) E)
 (h:(InR .u64 (1*(bits .and .u64 y 4294967295))∧(InR .u64 (0*(bits .and .u64 y 4294967295))∧(InR .u64 ((0*(bits .and .u64 y 4294967295))+((1*(bits .and .u64 y 4294967295)) / 2 ^ (Int.toNat 32)))∧(InR .u64 (1*(y / 2 ^ (Int.toNat 32)))∧(InR .u64 ((bits .and .u64 ((0*(bits .and .u64 y 4294967295))+((1*(bits .and .u64 y 4294967295)) / 2 ^ (Int.toNat 32))) 4294967295)+(1*(y / 2 ^ (Int.toNat 32))))∧(InR .u64 (0*(y / 2 ^ (Int.toNat 32)))∧(InR .u64 ((0*(y / 2 ^ (Int.toNat 32)))+(((0*(bits .and .u64 y 4294967295))+((1*(bits .and .u64 y 4294967295)) / 2 ^ (Int.toNat 32))) / 2 ^ (Int.toNat 32)))∧(InR .u64 (((0*(y / 2 ^ (Int.toNat 32)))+(((0*(bits .and .u64 y 4294967295))+((1*(bits .and .u64 y 4294967295)) / 2 ^ (Int.toNat 32))) / 2 ^ (Int.toNat 32)))+(((bits .and .u64 ((0*(bits .and .u64 y 4294967295))+((1*(bits .and .u64 y 4294967295)) / 2 ^ (Int.toNat 32))) 4294967295)+(1*(y / 2 ^ (Int.toNat 32)))) / 2 ^ (Int.toNat 32)))∧(InR .u64 (1*y)∧rv=((((0*(y / 2 ^ (Int.toNat 32)))+(((0*(bits .and .u64 y 4294967295))+((1*(bits .and .u64 y 4294967295)) / 2 ^ (Int.toNat 32))) / 2 ^ (Int.toNat 32)))+(((bits .and .u64 ((0*(bits .and .u64 y 4294967295))+((1*(bits .and .u64 y 4294967295)) / 2 ^ (Int.toNat 32))) 4294967295)+(1*(y / 2 ^ (Int.toNat 32)))) / 2 ^ (Int.toNat 32))),(1*y)))))))))))):G Try.prog E [.code (Qc Try.prog 194)] ⟨[.int .u64 1,.int .u64 y]++unds (Try.f194.ntmps - 2),[]⟩:=by
 obtain ⟨q2_0,h⟩:=h
 obtain ⟨q3_0,h⟩:=h
 obtain ⟨q5_0,h⟩:=h
 obtain ⟨q7_0,h⟩:=h
 obtain ⟨q8_0,h⟩:=h
 obtain ⟨q9_0,h⟩:=h
 obtain ⟨q10_0,h⟩:=h
 obtain ⟨q12_0,h⟩:=h
 obtain ⟨q13_0,h⟩:=h
 exact p194_start_0 y hE ⟨(⟨by decide,by decide⟩),(⟨by decide,by decide⟩),q2_0,q3_0,(⟨by decide,by decide⟩),q5_0,(⟨by decide,by decide⟩),q7_0,q8_0,q9_0,q10_0,(⟨by decide,by decide⟩),q12_0,q13_0,trivial⟩ (AvLe.of_eq (by rw [h]; try rfl))
theorem mul64_ok (y:Int) (h:0≤y∧y<4294967296):Pure Try.prog 194 [.int .u64 1,.int .u64 y] (.tup [.int .u64 0,.int .u64 y]):=Qy Try.func194 f194b fun E hE=>by
 have d0:(0:Int) / 2 ^ (Int.toNat 32)=0:=rfl
 have a0:=and_mask (y:=0) (by omega)
 refine f194W y (rv:=(0,y)) hE ?_
 rw [and_mask h]
 simp only [Int.one_mul,Int.zero_mul,Int.zero_add,div32 h,Int.add_zero,a0,d0]
 exact ⟨inU (by omega),inU (by omega),inU (by omega),inU (by omega),inU (by omega),inU (by omega),inU (by omega),inU (by omega),inU (by omega),trivial⟩
theorem f130b:Try.f130.body=some (Qc Try.prog 130):=by kernel_rfl
theorem u130 {a c k:List AV} {r:AV} (h:Pure Try.prog 130 (a++c++k) r):Qe Try.prog (.clos 130 a k) c r:=Qo Try.func130 (by kernel_rfl) f130b h
theorem p130_start_0 (y:Int) {E:Env} {res:AV} (hE:Qd Try.prog 130 res E) (ho:AllP [false=false,Qe Try.prog (.clos 194 [] []) [.int .u64 1,.int .u64 y] (.tup [.int .u64 0,.int .u64 y])])
 (hr:AvLe (.tup [.int .u64 0,.int .u64 y]) res):G Try.prog E [.code (Qc Try.prog 130)] ⟨[.int .u64 1,.int .u64 y]++unds (Try.f130.ntmps - 2),[]⟩ :=
 Qb (n:=400) (evs:=[.b false,.v (.tup [.int .u64 0,.int .u64 y])]) (obs:=_) hE Try.func130 Qi (by kernel_rfl) ho hr
theorem f130W (y:Int) {E:Env} {rv:(Int × Int)} (hE:Qd Try.prog 130 (.tup [.int .u64 rv.1,.int .u64 rv.2]) E)
 (h:((0≤y∧y<4294967296)∧rv=(0,y))):G Try.prog E [.code (Qc Try.prog 130)] ⟨[.int .u64 1,.int .u64 y]++unds (Try.f130.ntmps - 2),[]⟩:=by
 obtain ⟨h1,h⟩:=h
 exact p130_start_0 y hE ⟨rfl,(u194 (mul64_ok y h1)),trivial⟩ (AvLe.of_eq (by rw [h]; try rfl))
theorem mul_ok (y:Int) (h:0≤y∧y<4294967296):Pure Try.prog 130 [.int .u64 1,.int .u64 y] (.tup [.int .u64 0,.int .u64 y]):=Qy Try.func130 f130b fun E hE=>f130W y (rv:=(0,y)) hE ⟨h,rfl⟩
theorem f55b:Try.f55.body=some (Qc Try.prog 55):=by kernel_rfl
def f55K0 (P:Program):List Item:=kAt 400 [.code (Qc P 55)] [.b false,.b false,.stop]
def f55S0 (n:Int) (v:Int) (v0:List Int) (n1:Nat):St:=⟨(jj 7 ([.sl 0 0 0 v0.length 1,.int .i64 (n1:Int)]++Js 39)),[⟨true,0,1,true,(rowI v0),true⟩]⟩
def f55G0 (E:Env) (n:Int) (v:Int) (v0:List Int) (n1:Nat):Prop:=G Try.prog E (f55K0 Try.prog) (f55S0 n v v0 n1 )
theorem p55_start_2 (n:Int) (v:Int) {E:Env} {rv:AV} {bs2:List Blk} (hE:LentE Try.prog 55 [] rv bs2 E) (ho:AllP [(decide (n<0))=false,InR .u64 1,InR .u64 n,Qe Try.prog (.clos 130 [] []) [.int .u64 1,.int .u64 n] (.tup [.int .u64 0,.int .u64 n]),false=false,(decide (n > 9223372036854775807))=false,InR .i64 n,0≤n∧n≤n∧n≤2147483648,(0+(Nat.min 1 (Int.toNat n))*1)≤((List.replicate (Int.toNat n) ([.int .i64 0]:List AV)).flatten).length,(Nat.min 1 (Int.toNat n)) ≠ 0,0=0,(([.int .i64 v]).drop 0).take ((Nat.min 1 (Int.toNat n))*1)=(rowI ((([v]:List Int).drop 0).take (Nat.min 1 (Int.toNat n)))),(rowI ((([v]:List Int).drop 0).take (Nat.min 1 (Int.toNat n)))).length=(Nat.min 1 (Int.toNat n))*1,noRefs (rowI ((([v]:List Int).drop 0).take (Nat.min 1 (Int.toNat n))))=true])
 (hg:G Try.prog E (f55K0 Try.prog) ⟨(jj 7 ([.sl 0 0 0 (Int.toNat n) 1,.int .i64 (((Nat.min 1 (Int.toNat n)):Nat):Int)]++Js 39)),[⟨true,0,1,true,(Qx ((List.replicate (Int.toNat n) ([.int .i64 0]:List AV)).flatten) 0 (rowI ((([v]:List Int).drop 0).take (Nat.min 1 (Int.toNat n))))),true⟩]⟩):G Try.prog E [.code (Qc Try.prog 55)] ⟨[.rsl [.int .i64 v] 0 1,.int .i64 n]++unds (Try.f55.ntmps - 2),[]⟩ :=
 Ql (n:=400) (ds:=[]) (cs:=[]) (live:=[7,8]) (m:=1) (evs:=[.b false,.v (.tup [.int .u64 0,.int .u64 n]),.b false,.b false,.cs (rowI ((([v]:List Int).drop 0).take (Nat.min 1 (Int.toNat n)))),.stop]) (obs:=_) hE.kind (hE.nogh0 _) Qi (by kernel_rfl) ho hg
theorem f55W (n:Int) (v:Int) {E:Env} {rv:Unit} {l2:List Int} (hE:LentE Try.prog 55 [] (.sl 0 0 0 l2.length 1) [⟨true,0,1,true,(rowI l2),true⟩] E)
 (h:((n<0→False)∧(¬ (n<0)→(InR .u64 n∧((0≤n∧n<4294967296)∧((n > 9223372036854775807→False)∧(¬ (n > 9223372036854775807)→((I6 (n))∧((0≤n∧n≤2147483648)∧(0+(Nat.min 1 (Int.toNat n))≤(List.replicate (Int.toNat n) (0:Int)).length∧((Nat.min 1 (Int.toNat n)) ≠ 0∧(0+(Nat.min 1 (Int.toNat n))≤([v]:List Int).length∧f55G0 E n v (WJ (List.replicate (Int.toNat n) (0:Int)) 0 ((([v]:List Int).drop 0).take (Nat.min 1 (Int.toNat n)))) (Nat.min 1 (Int.toNat n)))))))))))))):G Try.prog E [.code (Qc Try.prog 55)] ⟨[.rsl [.int .i64 v] 0 1,.int .i64 n]++unds (Try.f55.ntmps - 2),[]⟩:=by
 rcases bft (decide (n<0)) with hc0 | hc0
 · have h:=h.1 (odt hc0)
   exact h.elim
 · have h:=h.2 (odf hc0)
   obtain ⟨q2_1,h⟩:=h
   obtain ⟨h1,h⟩:=h
   rcases bft (decide (n > 9223372036854775807)) with hc1 | hc1
   · have h:=h.1 (odt hc1)
     exact h.elim
   · have h:=h.2 (odf hc1)
     obtain ⟨q6_2,h⟩:=h
     obtain ⟨h2,h⟩:=h
     obtain ⟨h3,h⟩:=h
     obtain ⟨h4,h⟩:=h
     obtain ⟨h5,h⟩:=h
     refine p55_start_2 n v hE ⟨hc0,(⟨by decide,by decide⟩),q2_1,(u130 (mul_ok n h1)),rfl,hc1,q6_2,⟨h2.1,by omega,h2.2⟩,(by rw [(show (List.replicate (Int.toNat n) ([.int .i64 0]:List AV)).flatten=rowI (List.replicate (Int.toNat n) (0:Int)) from Wc cI _ _)]; exact copy_fits cI (s:=1) (fun _=>rfl) h3 (by first | rfl | omega | simp)),h4,rfl,(by rw [(show [.int .i64 v]=rowI ([v]:List Int) from rfl)]; exact copy_src cI (s:=1) (fun _=>rfl) _ (by first | rfl | omega | simp)),(copy_len cI (s:=1) (fun _=>rfl) h5),(YR cI (fun _=>rfl) _),trivial⟩ ?_
     have h:=h
     simp only [f55G0,f55S0,List.length_set,List.length_replicate,XH] at h
     rw [(show (List.replicate (Int.toNat n) ([.int .i64 0]:List AV)).flatten=rowI (List.replicate (Int.toNat n) (0:Int)) from Wc cI _ _)]; rw [(show Qx (rowI (List.replicate (Int.toNat n) (0:Int))) 0 (rowI ((([v]:List Int).drop 0).take (Nat.min 1 (Int.toNat n))))=rowI (WJ (List.replicate (Int.toNat n) (0:Int)) 0 ((([v]:List Int).drop 0).take (Nat.min 1 (Int.toNat n)))) from copy_row cI (s:=1) (fun _=>rfl) h3 h5 (by first | rfl | omega | simp))]
     exact h
theorem p55_0_0 (n:Int) (v:Int) (v0:List Int) (n1:Nat) {E:Env} {rv:AV} {bs2:List Blk} (hE:LentE Try.prog 55 [] rv bs2 E) (ho:AllP [0=0,(decide ((n1:Int)<(v0.length:Int)))=true,(Int.toNat (n1:Int))≤v0.length,v0.length≤v0.length,0≤(n1:Int),0=0,0≤(Int.toNat (n1:Int)),(Int.toNat (n1:Int))≤v0.length,0≤(n1:Int),0=0,((0+((Int.toNat (n1:Int))*1))+(Nat.min (Int.toNat (n1:Int)) (v0.length - (Int.toNat (n1:Int))))*1)≤(rowI v0).length,(Nat.min (Int.toNat (n1:Int)) (v0.length - (Int.toNat (n1:Int)))) ≠ 0,0=0,0=0,((rowI v0).drop 0).take ((Nat.min (Int.toNat (n1:Int)) (v0.length - (Int.toNat (n1:Int))))*1)=(rowI ((v0.drop 0).take (Nat.min (Int.toNat (n1:Int)) (v0.length - (Int.toNat (n1:Int)))))),(rowI ((v0.drop 0).take (Nat.min (Int.toNat (n1:Int)) (v0.length - (Int.toNat (n1:Int)))))).length=(Nat.min (Int.toNat (n1:Int)) (v0.length - (Int.toNat (n1:Int))))*1,noRefs (rowI ((v0.drop 0).take (Nat.min (Int.toNat (n1:Int)) (v0.length - (Int.toNat (n1:Int))))))=true,InR .i64 ((n1:Int)+(((Nat.min (Int.toNat (n1:Int)) (v0.length - (Int.toNat (n1:Int)))):Nat):Int))])
 (hg:G Try.prog E (f55K0 Try.prog) ⟨(jj 7 ([.sl 0 0 0 v0.length 1,.int .i64 ((n1:Int)+(((Nat.min (Int.toNat (n1:Int)) (v0.length - (Int.toNat (n1:Int)))):Nat):Int))]++Js 39)),[⟨true,0,1,true,(Qx (rowI v0) (0+((Int.toNat (n1:Int))*1)) (rowI ((v0.drop 0).take (Nat.min (Int.toNat (n1:Int)) (v0.length - (Int.toNat (n1:Int))))))),true⟩]⟩):G Try.prog E (f55K0 Try.prog) (f55S0 n v v0 n1 ) :=
 Ql (n:=400) (ds:=[]) (cs:=[]) (live:=[7,8]) (m:=1) (evs:=[.b true,.cs (rowI ((v0.drop 0).take (Nat.min (Int.toNat (n1:Int)) (v0.length - (Int.toNat (n1:Int)))))),.stop]) (obs:=_) hE.kind (hE.nogh0 _) Qi (by kernel_rfl) ho hg
theorem p55_0_1 (n:Int) (v:Int) (v0:List Int) (n1:Nat) {E:Env} {res:AV} {bs2:List Blk} (hE:LentE Try.prog 55 [] res bs2 E) (ho:AllP [0=0,(decide ((n1:Int)<(v0.length:Int)))=false])
 (hr:(.sl 0 0 0 v0.length 1)=res) (hb:[⟨true,0,1,true,(rowI v0),true⟩]=bs2):G Try.prog E (f55K0 Try.prog) (f55S0 n v v0 n1 ) :=
 qt (n:=400) (live:=[4]) (m:=1) (evs:=[.b false]) (obs:=_) hE (hE.nogh0 _) Try.func55 Qi (by kernel_rfl) ho hr hb
theorem f55W0 (n:Int) (v:Int) (v0:List Int) (n1:Nat) {E:Env} {rv:Unit} {l2:List Int} (hE:LentE Try.prog 55 [] (.sl 0 0 0 l2.length 1) [⟨true,0,1,true,(rowI l2),true⟩] E)
 (h:(((n1:Int)<(v0.length:Int)→((Int.toNat (n1:Int))≤v0.length∧((Int.toNat (n1:Int))≤v0.length∧((Int.toNat (n1:Int))+(Nat.min (Int.toNat (n1:Int)) (v0.length - (Int.toNat (n1:Int))))≤v0.length∧((Nat.min (Int.toNat (n1:Int)) (v0.length - (Int.toNat (n1:Int)))) ≠ 0∧(0+(Nat.min (Int.toNat (n1:Int)) (v0.length - (Int.toNat (n1:Int))))≤v0.length∧((I6 ((n1:Int)+(((Nat.min (Int.toNat (n1:Int)) (v0.length - (Int.toNat (n1:Int)))):Nat):Int)))∧f55G0 E n v (WJ v0 (Int.toNat (n1:Int)) ((v0.drop 0).take (Nat.min (Int.toNat (n1:Int)) (v0.length - (Int.toNat (n1:Int)))))) (n1+(Nat.min (Int.toNat (n1:Int)) (v0.length - (Int.toNat (n1:Int))))))))))))∧(¬ ((n1:Int)<(v0.length:Int))→l2=v0))):f55G0 E n v v0 n1:=by
 rcases bft (decide ((n1:Int)<(v0.length:Int))) with hc0 | hc0
 · have h:=h.1 (odt hc0)
   obtain ⟨q2_1,h⟩:=h
   obtain ⟨q7_1,h⟩:=h
   obtain ⟨h1,h⟩:=h
   obtain ⟨h2,h⟩:=h
   obtain ⟨h3,h⟩:=h
   obtain ⟨q17_1,h⟩:=h
   refine p55_0_0 n v v0 n1 hE ⟨rfl,hc0,q2_1,(Nat.le_refl _),(by omega),rfl,(Nat.zero_le _),q7_1,(by omega),rfl,(by exact copy_fits cI (s:=1) (fun _=>rfl) h1 (by first | rfl | omega | simp)),h2,rfl,rfl,(by exact copy_src cI (s:=1) (fun _=>rfl) _ (by first | rfl | omega | simp)),(copy_len cI (s:=1) (fun _=>rfl) h3),(YR cI (fun _=>rfl) _),q17_1,trivial⟩ ?_
   have h:=h
   simp only [f55G0,f55S0,List.length_set,XH] at h
   rw [(show Qx (rowI v0) (0+((Int.toNat (n1:Int))*1)) (rowI ((v0.drop 0).take (Nat.min (Int.toNat (n1:Int)) (v0.length - (Int.toNat (n1:Int))))))=rowI (WJ v0 (Int.toNat (n1:Int)) ((v0.drop 0).take (Nat.min (Int.toNat (n1:Int)) (v0.length - (Int.toNat (n1:Int)))))) from copy_row cI (s:=1) (fun _=>rfl) h1 h3 (by first | rfl | omega | simp))]
   exact h
 · have h:=h.2 (odf hc0)
   have qe0:=h
   exact p55_0_1 n v v0 n1 hE ⟨rfl,hc0,trivial⟩ (by rw [qe0]; try rfl) (by rw [qe0]; all_goals (first | rfl | (simp only [List.length_set]; done) | (simp only [List.length_set]; rfl)))
theorem WS (v n:Int) (h:1≤n∧n≤2147483648):Lent Try.prog 55 [.rsl [.int .i64 v] 0 1,.int .i64 n] [] (.sl 0 0 0 (List.replicate (Int.toNat n) v).length 1) [⟨true,0,1,true,rowI (List.replicate (Int.toNat n) v),true⟩]:=lent_of0 Try.func55 f55b fun E hE=>by
 have key:∀ (d:Nat) (v0:List Int) (k:Nat),v0.length=Int.toNat n→1≤k→k≤v0.length→v0.length - k≤d→(∀ i,i<k→v0[i]?=some v)→f55G0 E n v v0 k:=by
  intro d
  induction d with
  | zero =>
   intro v0 k hl h1 h2 hd hv
   refine f55W0 n v v0 k (rv:=()) hE ⟨fun h=>by omega,fun _=>?_⟩
   refine (List.ext_getElem? fun i=>?_).symm
   by_cases hi:i<Int.toNat n
   · rw [hv i (by omega),List.getElem?_replicate,if_pos hi]
   · rw [List.getElem?_eq_none (by omega),List.getElem?_eq_none (by simp; omega)]
  | succ d ih =>
   intro v0 k hl h1 h2 hd hv
   refine f55W0 n v v0 k (rv:=()) hE ⟨fun hk=>?_,fun _=>?_⟩
   · have e0:Int.toNat (k:Int)=k:=by omega
     rw [e0,List.drop_zero]
     have hm:Nat.min k (v0.length - k)≤k:=Nat.min_le_left _ _
     have hm2:Nat.min k (v0.length - k)≤v0.length - k:=Nat.min_le_right _ _
     have hm0:Nat.min k (v0.length - k) ≠ 0:=by
      intro h0
      have h0':min k (v0.length - k)=0:=h0
      omega
     generalize Nat.min k (v0.length - k)=m at hm hm2 hm0
     refine ⟨h2,h2,by omega,hm0,by omega,by omega,?_⟩
     have hlt:(v0.take m).length=m:=by rw [List.length_take]; omega
     refine ih _ (k+m) (by rw [XH]; exact hl) (by omega) (by rw [XH]; omega) (by rw [XH]; omega) (fun i hi=>?_)
     rw [qv (by rw [hlt]; omega),hlt]
     split
     · rw [List.getElem?_take,if_pos (by omega)]; exact hv _ (by omega)
     · exact hv _ (by omega)
   · refine (List.ext_getElem? fun i=>?_).symm
     by_cases hi:i<Int.toNat n
     · rw [hv i (by omega),List.getElem?_replicate,if_pos hi]
     · rw [List.getElem?_eq_none (by omega),List.getElem?_eq_none (by simp; omega)]
 have e1:Nat.min 1 (Int.toNat n)=1:=by
  have:min 1 (Int.toNat n)=1:=by omega
  exact this
 refine f55W n v (rv:=()) hE ⟨fun h=>by omega,fun _=>⟨inU (by omega),by omega,fun h=>by omega,fun _=>⟨by omega,by omega,?_⟩⟩⟩
 rw [e1]
 refine ⟨by simp; omega,by omega,by simp,?_⟩
 refine key (Int.toNat n) _ 1 (by rw [XH,List.length_replicate]) (by omega) (by rw [XH,List.length_replicate]; omega) (by rw [XH,List.length_replicate]; omega) (fun i hi=>?_)
 have:i=0:=by omega
 subst this
 rw [qv (by simp; omega)]
 simp
end Go.Proofs.Ytemklbioijmjiaa