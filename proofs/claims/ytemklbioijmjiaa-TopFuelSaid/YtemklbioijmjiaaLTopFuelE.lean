/- A part of the proof: several texts, one behind the other. -/
import Derived.Test.YtemklbioijmjiaaLTopFuelD
import Derived.Shelf.SlSortCmp.WholeK
set_option linter.unusedVariables false
set_option linter.unusedSimpArgs false
set_option maxRecDepth 100000
namespace Go.Proofs.Ytemklbioijmjiaa
open Go Ax
open Go.Proofs
theorem f235b:Try.f235.body=some (Qf Try.prog 235):=by kernel_rfl
theorem u235 {a c k:List AV} {r:AV} (h:Pure Try.prog 235 (a++c++k) r):Qc Try.prog (.clos 235 a k) c r:=Qk Try.func235 (by kernel_rfl) f235b h
def Ws (P:Program):List Item:=kAt 400 [.code (Qf P 235)] [.b true,.b false]
def YV (a:Atl) (v:Pla) (v8_0:Int) (v8_1:Int) (v8_2:Int) (v8_3:Int) (s:List (Pla × Cst) × List (Pla × Int) × List Stq × Nat):St:=⟨([J,.ptr 0 0 0,J,J,.ptr 3 0 0,.mp 4 0 false,.ptr 7 0 0,.ptr 8 0 0]++jj 36 ([.clos 275 [] [.rptr [.rsl (rowB a.m.park) 0 a.m.park.length,.rsl (Qb a.m.roads) 0 a.m.roads.length,.int .i64 a.l.hgt,.int .i64 a.l.wgt,.int .i64 a.l.fr,.int .i64 a.l.ready,.int .i64 a.l.drive,.int .i64 a.l.rest] 0,.rptr [.int .i64 v.town,.int .i64 v.used] 0]]++Js 43)),[⟨true,0,1,true,[.rsl (rowB a.m.park) 0 a.m.park.length,.rsl (Qb a.m.roads) 0 a.m.roads.length,.int .i64 a.l.hgt,.int .i64 a.l.wgt,.int .i64 a.l.fr,.int .i64 a.l.ready,.int .i64 a.l.drive,.int .i64 a.l.rest],false⟩,⟨true,0,1,true,[.int .i64 a.l.fr,.int .i64 0],false⟩,⟨true,0,0,true,(Qe s.1),false⟩,⟨true,0,1,false,[.mp 2 0 false],false⟩,⟨true,0,0,true,(XN s.2.1),false⟩,⟨true,s.2.2.2,4,true,(Qi s.2.2.1),true⟩,⟨true,0,1,false,[.sl 5 s.2.2.2 0 s.2.2.1.length 4],false⟩,⟨true,0,1,false,[.ifc 404 (.ptr 6 0 0)],false⟩,⟨true,0,1,true,[.int .i64 v8_0,.int .i64 v8_1,.int .i64 v8_2,.int .i64 v8_3],false⟩]⟩
def f235Gr0 (E:Env) (a:Atl) (v:Pla) (v8_0:Int) (v8_1:Int) (v8_2:Int) (v8_3:Int) (s:List (Pla × Cst) × List (Pla × Int) × List Stq × Nat):Prop:=G Try.prog E (Ws Try.prog) (YV a v v8_0 v8_1 v8_2 v8_3 s)
def f235Tr0 (a:Atl) (v:Pla) (v8_0:Int) (v8_1:Int) (v8_2:Int) (v8_3:Int) (s:List (Pla × Cst) × List (Pla × Int) × List Stq × Nat) (x:Way):St:=⟨([J,.ptr 0 0 0,J,J,.ptr 3 0 0,.mp 4 0 false,.ptr 7 0 0,.ptr 8 0 0,.ptr 9 0 0]++jj 35 ([.clos 275 [] [.rptr [.rsl (rowB a.m.park) 0 a.m.park.length,.rsl (Qb a.m.roads) 0 a.m.roads.length,.int .i64 a.l.hgt,.int .i64 a.l.wgt,.int .i64 a.l.fr,.int .i64 a.l.ready,.int .i64 a.l.drive,.int .i64 a.l.rest] 0,.rptr [.int .i64 v.town,.int .i64 v.used] 0],.agg [.int .i64 x.road,.int .i64 x.rest,.int .i64 x.to.town,.int .i64 x.to.used,.int .i64 x.c.ticks,.int .i64 x.c.legs]]++Js 42)),[⟨true,0,1,true,[.rsl (rowB a.m.park) 0 a.m.park.length,.rsl (Qb a.m.roads) 0 a.m.roads.length,.int .i64 a.l.hgt,.int .i64 a.l.wgt,.int .i64 a.l.fr,.int .i64 a.l.ready,.int .i64 a.l.drive,.int .i64 a.l.rest],false⟩,⟨true,0,1,true,[.int .i64 a.l.fr,.int .i64 0],false⟩,⟨true,0,0,true,(Qe s.1),false⟩,⟨true,0,1,false,[.mp 2 0 false],false⟩,⟨true,0,0,true,(XN s.2.1),false⟩,⟨true,s.2.2.2,4,true,(Qi s.2.2.1),true⟩,⟨true,0,1,false,[.sl 5 s.2.2.2 0 s.2.2.1.length 4],false⟩,⟨true,0,1,false,[.ifc 404 (.ptr 6 0 0)],false⟩,⟨true,0,1,true,[.int .i64 v8_0,.int .i64 v8_1,.int .i64 v8_2,.int .i64 v8_3],false⟩,⟨true,0,1,true,[.int .i64 x.road,.int .i64 x.rest,.int .i64 x.to.town,.int .i64 x.to.used,.int .i64 x.c.ticks,.int .i64 x.c.legs],false⟩]⟩
def f235K0 (P:Program):List Item:=kAt 400 [.code (Qf P 235)] [.stop]
def f235S0 (a:Atl) (v2:List (Pla × Cst)) (v5:List Stq) (v4:List (Pla × Int)) (g5:Nat):St:=⟨([J,.ptr 0 0 0,J,J,.ptr 3 0 0,.mp 4 0 false,.ptr 7 0 0]++Js 81),[⟨true,0,1,true,[.rsl (rowB a.m.park) 0 a.m.park.length,.rsl (Qb a.m.roads) 0 a.m.roads.length,.int .i64 a.l.hgt,.int .i64 a.l.wgt,.int .i64 a.l.fr,.int .i64 a.l.ready,.int .i64 a.l.drive,.int .i64 a.l.rest],false⟩,⟨true,0,1,true,[.int .i64 a.l.fr,.int .i64 0],false⟩,⟨true,0,0,true,(Qe v2),false⟩,⟨true,0,1,false,[.mp 2 0 false],false⟩,⟨true,0,0,true,(XN v4),false⟩,⟨true,g5,4,true,(Qi v5),true⟩,⟨true,0,1,false,[.sl 5 g5 0 v5.length 4],false⟩,⟨true,0,1,false,[.ifc 404 (.ptr 6 0 0)],false⟩]⟩
def Qao (E:Env) (a:Atl) (v2:List (Pla × Cst)) (v5:List Stq) (v4:List (Pla × Int)):Prop:=∀ g5:Nat,G Try.prog E (f235K0 Try.prog) (f235S0 a v2 v5 v4 g5)
theorem f235W (a:Atl) {E:Env} {rv:AV} (hE:Qr Try.prog 235 rv E)
 (h:(((QJ ([]:List (Pla × Cst)) (⟨a.l.fr,0⟩:Pla))=true→(∃ mi:Nat,True∧(∃ me:(Pla × Cst),PlAt ([]:List (Pla × Cst)) (⟨a.l.fr,0⟩:Pla) mi me∧Qao E a (([]:List (Pla × Cst)).set mi ((⟨a.l.fr,0⟩:Pla),(⟨0,0⟩:Cst))) ([(⟨(⟨a.l.fr,0⟩:Pla),(⟨0,0⟩:Cst)⟩:Stq)]) ([]))))∧((QJ ([]:List (Pla × Cst)) (⟨a.l.fr,0⟩:Pla))=false→Qao E a (([]:List (Pla × Cst))++[((⟨a.l.fr,0⟩:Pla),(⟨0,0⟩:Cst))]) ([(⟨(⟨a.l.fr,0⟩:Pla),(⟨0,0⟩:Cst)⟩:Stq)]) ([])))):G Try.prog E [.code (Qf Try.prog 235)] ⟨[.agg [.rsl (rowB a.m.park) 0 a.m.park.length,.rsl (Qb a.m.roads) 0 a.m.roads.length,.int .i64 a.l.hgt,.int .i64 a.l.wgt,.int .i64 a.l.fr,.int .i64 a.l.ready,.int .i64 a.l.drive,.int .i64 a.l.rest]]++unds (Try.f235.ntmps - 1),[]⟩:=by
 rcases bft (QJ ([]:List (Pla × Cst)) (⟨a.l.fr,0⟩:Pla)) with hc0 | hc0
 · have h:=h.1 hc0
   obtain ⟨mi,h1,h⟩:=h
   obtain ⟨me,h2,h⟩:=h
   refine sP (f235K0 Try.prog) ⟨([J,.ptr 0 0 0,J,J,.ptr 3 0 0,.mp 4 0 false,.ptr 7 0 0]++Js 81),[⟨true,0,1,true,[.rsl (rowB a.m.park) 0 a.m.park.length,.rsl (Qb a.m.roads) 0 a.m.roads.length,.int .i64 a.l.hgt,.int .i64 a.l.wgt,.int .i64 a.l.fr,.int .i64 a.l.ready,.int .i64 a.l.drive,.int .i64 a.l.rest],false⟩,⟨true,0,1,true,[.int .i64 a.l.fr,.int .i64 0],false⟩,⟨true,0,0,true,((Qe ([]:List (Pla × Cst))).set mi (.clos 0 [.agg [.int .i64 a.l.fr,.int .i64 0]] [.agg [.int .i64 0,.int .i64 0]])),false⟩,⟨true,0,1,false,[.mp 2 0 false],false⟩,⟨true,0,0,true,[],false⟩,⟨true,0,4,true,[.int .i64 a.l.fr,.int .i64 0,.int .i64 0,.int .i64 0],true⟩,⟨true,0,1,false,[.sl 5 0 0 1 4],false⟩,⟨true,0,1,false,[.ifc 404 (.ptr 6 0 0)],false⟩]⟩ [1,4,5,6] 8 [.mup mi (.agg [.int .i64 me.2.ticks,.int .i64 me.2.legs]),.stop] [2≤2,XY Try.prog 370 (.agg [.int .i64 a.l.fr,.int .i64 0]) (Qe ([]:List (Pla × Cst))) mi (.agg [.int .i64 me.2.ticks,.int .i64 me.2.legs]),1≤1,1≤1] hE ⟨(by decide),(Vo h2),(by decide),(by decide),trivial⟩ ?_
   rw [(show (Qe ([]:List (Pla × Cst))).set mi (.clos 0 [.agg [.int .i64 a.l.fr,.int .i64 0]] [.agg [.int .i64 0,.int .i64 0]])=Qe (([]:List (Pla × Cst)).set mi ((⟨a.l.fr,0⟩:Pla),(⟨0,0⟩:Cst))) from setOuE ([]:List (Pla × Cst)) mi ((⟨a.l.fr,0⟩:Pla),(⟨0,0⟩:Cst)))]; exact (h 0)
 · have h:=h.2 hc0
   refine sP (f235K0 Try.prog) ⟨([J,.ptr 0 0 0,J,J,.ptr 3 0 0,.mp 4 0 false,.ptr 7 0 0]++Js 81),[⟨true,0,1,true,[.rsl (rowB a.m.park) 0 a.m.park.length,.rsl (Qb a.m.roads) 0 a.m.roads.length,.int .i64 a.l.hgt,.int .i64 a.l.wgt,.int .i64 a.l.fr,.int .i64 a.l.ready,.int .i64 a.l.drive,.int .i64 a.l.rest],false⟩,⟨true,0,1,true,[.int .i64 a.l.fr,.int .i64 0],false⟩,⟨true,0,0,true,((Qe ([]:List (Pla × Cst)))++[.clos 0 [.agg [.int .i64 a.l.fr,.int .i64 0]] [.agg [.int .i64 0,.int .i64 0]]]),false⟩,⟨true,0,1,false,[.mp 2 0 false],false⟩,⟨true,0,0,true,[],false⟩,⟨true,0,4,true,[.int .i64 a.l.fr,.int .i64 0,.int .i64 0,.int .i64 0],true⟩,⟨true,0,1,false,[.sl 5 0 0 1 4],false⟩,⟨true,0,1,false,[.ifc 404 (.ptr 6 0 0)],false⟩]⟩ [1,4,5,6] 8 [.stop] [2≤2,Xw Try.prog 370 (.agg [.int .i64 a.l.fr,.int .i64 0]) (Qe ([]:List (Pla × Cst))),1≤1,1≤1] hE ⟨(by decide),(YR hc0),(by decide),(by decide),trivial⟩ ?_
   rw [(show Qe ([]:List (Pla × Cst))++[.clos 0 [.agg [.int .i64 a.l.fr,.int .i64 0]] [.agg [.int .i64 0,.int .i64 0]]]=Qe (([]:List (Pla × Cst))++[((⟨a.l.fr,0⟩:Pla),(⟨0,0⟩:Cst))]) from (Xz cOuE ([]:List (Pla × Cst)) [((⟨a.l.fr,0⟩:Pla),(⟨0,0⟩:Cst))]).symm)]; exact (h 0)
theorem f235W0 (a:Atl) (v2:List (Pla × Cst)) (v5:List Stq) (v4:List (Pla × Int)) {E:Env} {rv:AV} (hE:Qr Try.prog 235 rv E)
 (h:∀ g5:Nat,(((v5.length:Int) > 0→((PopIn v5)∧(((QJ v4 ((popT v5).p))=true→(∃ mi:Nat,True∧(∃ me:(Pla × Int),PlAt v4 ((popT v5).p) mi me∧((me.2=1→Qao E a v2 (popR v5) v4)∧(¬ (me.2=1)→(∃ mi1:Nat,True∧(∃ me1:(Pla × Int),PlAt v4 ((popT v5).p) mi1 me1∧f235Gr0 E a ((popT v5).p) (((popT v5).p).town) (((popT v5).p).used) (((popT v5).c).ticks) (((popT v5).c).legs) (v2,(v4.set mi1 ((popT v5).p,1)),(popR v5),g5))))))))∧((QJ v4 ((popT v5).p))=false→f235Gr0 E a ((popT v5).p) (((popT v5).p).town) (((popT v5).p).used) (((popT v5).c).ticks) (((popT v5).c).legs) (v2,(v4++[((popT v5).p,1)]),(popR v5),g5)))))∧(¬ ((v5.length:Int) > 0)→rv=(.rmap (Qe v2))))):Qao E a v2 v5 v4:=by
 intro g5
 have h:=h g5
 rcases bft (decide ((v5.length:Int) > 0)) with hc0 | hc0
 · have h:=h.1 (odt hc0)
   obtain ⟨h1,h⟩:=h
   rcases bft (QJ v4 ((popT v5).p)) with hc1 | hc1
   · have h:=h.1 hc1
     obtain ⟨mi,h2,h⟩:=h
     obtain ⟨me,h3,h⟩:=h
     rcases bft (me.2 == 1) with hc2 | hc2
     · have h:=h.1 (eq_of_beq hc2)
       refine sP (f235K0 Try.prog) ⟨([J,.ptr 0 0 0,J,J,.ptr 3 0 0,.mp 4 0 false,.ptr 7 0 0]++Js 81),[⟨true,0,1,true,[.rsl (rowB a.m.park) 0 a.m.park.length,.rsl (Qb a.m.roads) 0 a.m.roads.length,.int .i64 a.l.hgt,.int .i64 a.l.wgt,.int .i64 a.l.fr,.int .i64 a.l.ready,.int .i64 a.l.drive,.int .i64 a.l.rest],false⟩,⟨true,0,1,true,[.int .i64 a.l.fr,.int .i64 0],false⟩,⟨true,0,0,true,(Qe v2),false⟩,⟨true,0,1,false,[.mp 2 0 false],false⟩,⟨true,0,0,true,(XN v4),false⟩,⟨true,g5,4,true,(Qi (popR v5)),true⟩,⟨true,0,1,false,[.sl 5 g5 0 ((popR v5).length) 4],false⟩,⟨true,0,1,false,[.ifc 404 (.ptr 6 0 0)],false⟩]⟩ [1,4,5,6] 8 [.v (.int .i64 (v5.length:Int)),.b true,.lent [6,5] (.ifc 406 (.agg [.int .i64 (((popT v5).p).town),.int .i64 (((popT v5).p).used),.int .i64 (((popT v5).c).ticks),.int .i64 (((popT v5).c).legs)])) [⟨true,0,1,false,[.sl 1 g5 0 ((popR v5).length) 4],false⟩,⟨true,g5,4,true,(Qi (popR v5)),true⟩],.mfound mi (.int .i64 me.2),.b true,.stop] [Qc Try.prog (.clos 323 [] []) [.rsl (Qi v5) 0 v5.length] (.int .i64 (v5.length:Int)),g5=g5,(decide ((v5.length:Int) > 0))=true,Yk Try.prog (.clos 270 [] []) [.ifc 404 (.ptr 0 0 0)] [⟨true,0,1,false,[.sl 1 g5 0 v5.length 4],false⟩,⟨true,g5,4,true,(Qi v5),true⟩] (.ifc 406 (.agg [.int .i64 (((popT v5).p).town),.int .i64 (((popT v5).p).used),.int .i64 (((popT v5).c).ticks),.int .i64 (((popT v5).c).legs)])) [⟨true,0,1,false,[.sl 1 g5 0 ((popR v5).length) 4],false⟩,⟨true,g5,4,true,(Qi (popR v5)),true⟩],4≤4,XY Try.prog 370 (.agg [.int .i64 (((popT v5).p).town),.int .i64 (((popT v5).p).used)]) (XN v4) mi (.int .i64 me.2),(me.2 == 1)=true] hE ⟨(u323 (yr v5)),rfl,hc0,(QK Try.func270 (by kernel_rfl) f270b (hpop_ok h1 (by first | rfl | (simp; done)))),(by decide),(atDnE h3),hc2,trivial⟩ ?_
       have h:=(h g5)
       simp only [f235S0,List.length_set] at h
       skip
       exact h
     · have h:=h.2 (ne_of_beq_false hc2)
       obtain ⟨mi1,h4,h⟩:=h
       obtain ⟨me1,h5,h⟩:=h
       refine sP (Ws Try.prog) ⟨([J,.ptr 0 0 0,J,J,.ptr 3 0 0,.mp 4 0 false,.ptr 7 0 0,.ptr 8 0 0]++jj 36 ([.clos 275 [] [.rptr [.rsl (rowB a.m.park) 0 a.m.park.length,.rsl (Qb a.m.roads) 0 a.m.roads.length,.int .i64 a.l.hgt,.int .i64 a.l.wgt,.int .i64 a.l.fr,.int .i64 a.l.ready,.int .i64 a.l.drive,.int .i64 a.l.rest] 0,.rptr [.int .i64 (((popT v5).p).town),.int .i64 (((popT v5).p).used)] 0]]++Js 43)),[⟨true,0,1,true,[.rsl (rowB a.m.park) 0 a.m.park.length,.rsl (Qb a.m.roads) 0 a.m.roads.length,.int .i64 a.l.hgt,.int .i64 a.l.wgt,.int .i64 a.l.fr,.int .i64 a.l.ready,.int .i64 a.l.drive,.int .i64 a.l.rest],false⟩,⟨true,0,1,true,[.int .i64 a.l.fr,.int .i64 0],false⟩,⟨true,0,0,true,(Qe v2),false⟩,⟨true,0,1,false,[.mp 2 0 false],false⟩,⟨true,0,0,true,((XN v4).set mi1 (.clos 0 [.agg [.int .i64 (((popT v5).p).town),.int .i64 (((popT v5).p).used)]] [.int .i64 1])),false⟩,⟨true,g5,4,true,(Qi (popR v5)),true⟩,⟨true,0,1,false,[.sl 5 g5 0 ((popR v5).length) 4],false⟩,⟨true,0,1,false,[.ifc 404 (.ptr 6 0 0)],false⟩,⟨true,0,1,true,[.int .i64 (((popT v5).p).town),.int .i64 (((popT v5).p).used),.int .i64 (((popT v5).c).ticks),.int .i64 (((popT v5).c).legs)],false⟩]⟩ [1,4,5,6,7,44] 9 [.v (.int .i64 (v5.length:Int)),.b true,.lent [6,5] (.ifc 406 (.agg [.int .i64 (((popT v5).p).town),.int .i64 (((popT v5).p).used),.int .i64 (((popT v5).c).ticks),.int .i64 (((popT v5).c).legs)])) [⟨true,0,1,false,[.sl 1 g5 0 ((popR v5).length) 4],false⟩,⟨true,g5,4,true,(Qi (popR v5)),true⟩],.mfound mi (.int .i64 me.2),.b false,.mup mi1 (.int .i64 me1.2),.v (.clos 275 [] [.rptr [.rsl (rowB a.m.park) 0 a.m.park.length,.rsl (Qb a.m.roads) 0 a.m.roads.length,.int .i64 a.l.hgt,.int .i64 a.l.wgt,.int .i64 a.l.fr,.int .i64 a.l.ready,.int .i64 a.l.drive,.int .i64 a.l.rest] 0,.rptr [.int .i64 (((popT v5).p).town),.int .i64 (((popT v5).p).used)] 0])] [Qc Try.prog (.clos 323 [] []) [.rsl (Qi v5) 0 v5.length] (.int .i64 (v5.length:Int)),g5=g5,(decide ((v5.length:Int) > 0))=true,Yk Try.prog (.clos 270 [] []) [.ifc 404 (.ptr 0 0 0)] [⟨true,0,1,false,[.sl 1 g5 0 v5.length 4],false⟩,⟨true,g5,4,true,(Qi v5),true⟩] (.ifc 406 (.agg [.int .i64 (((popT v5).p).town),.int .i64 (((popT v5).p).used),.int .i64 (((popT v5).c).ticks),.int .i64 (((popT v5).c).legs)])) [⟨true,0,1,false,[.sl 1 g5 0 ((popR v5).length) 4],false⟩,⟨true,g5,4,true,(Qi (popR v5)),true⟩],4≤4,XY Try.prog 370 (.agg [.int .i64 (((popT v5).p).town),.int .i64 (((popT v5).p).used)]) (XN v4) mi (.int .i64 me.2),(me.2 == 1)=false,XY Try.prog 370 (.agg [.int .i64 (((popT v5).p).town),.int .i64 (((popT v5).p).used)]) (XN v4) mi1 (.int .i64 me1.2),Qc Try.prog (.clos 239 [] []) [.agg [.rsl (rowB a.m.park) 0 a.m.park.length,.rsl (Qb a.m.roads) 0 a.m.roads.length,.int .i64 a.l.hgt,.int .i64 a.l.wgt,.int .i64 a.l.fr,.int .i64 a.l.ready,.int .i64 a.l.drive,.int .i64 a.l.rest],.agg [.int .i64 (((popT v5).p).town),.int .i64 (((popT v5).p).used)]] (.clos 275 [] [.rptr [.rsl (rowB a.m.park) 0 a.m.park.length,.rsl (Qb a.m.roads) 0 a.m.roads.length,.int .i64 a.l.hgt,.int .i64 a.l.wgt,.int .i64 a.l.fr,.int .i64 a.l.ready,.int .i64 a.l.drive,.int .i64 a.l.rest] 0,.rptr [.int .i64 (((popT v5).p).town),.int .i64 (((popT v5).p).used)] 0])] hE ⟨(u323 (yr v5)),rfl,hc0,(QK Try.func270 (by kernel_rfl) f270b (hpop_ok h1 (by first | rfl | (simp; done)))),(by decide),(atDnE h3),hc2,(atDnE h5),(u239 (QbI a ((popT v5).p))),trivial⟩ ?_
       rw [(show (XN v4).set mi1 (.clos 0 [.agg [.int .i64 (((popT v5).p).town),.int .i64 (((popT v5).p).used)]] [.int .i64 1])=XN (v4.set mi1 ((popT v5).p,1)) from setDnE v4 mi1 ((popT v5).p,1))]; exact h
   · have h:=h.2 hc1
     refine sP (Ws Try.prog) ⟨([J,.ptr 0 0 0,J,J,.ptr 3 0 0,.mp 4 0 false,.ptr 7 0 0,.ptr 8 0 0]++jj 36 ([.clos 275 [] [.rptr [.rsl (rowB a.m.park) 0 a.m.park.length,.rsl (Qb a.m.roads) 0 a.m.roads.length,.int .i64 a.l.hgt,.int .i64 a.l.wgt,.int .i64 a.l.fr,.int .i64 a.l.ready,.int .i64 a.l.drive,.int .i64 a.l.rest] 0,.rptr [.int .i64 (((popT v5).p).town),.int .i64 (((popT v5).p).used)] 0]]++Js 43)),[⟨true,0,1,true,[.rsl (rowB a.m.park) 0 a.m.park.length,.rsl (Qb a.m.roads) 0 a.m.roads.length,.int .i64 a.l.hgt,.int .i64 a.l.wgt,.int .i64 a.l.fr,.int .i64 a.l.ready,.int .i64 a.l.drive,.int .i64 a.l.rest],false⟩,⟨true,0,1,true,[.int .i64 a.l.fr,.int .i64 0],false⟩,⟨true,0,0,true,(Qe v2),false⟩,⟨true,0,1,false,[.mp 2 0 false],false⟩,⟨true,0,0,true,((XN v4)++[.clos 0 [.agg [.int .i64 (((popT v5).p).town),.int .i64 (((popT v5).p).used)]] [.int .i64 1]]),false⟩,⟨true,g5,4,true,(Qi (popR v5)),true⟩,⟨true,0,1,false,[.sl 5 g5 0 ((popR v5).length) 4],false⟩,⟨true,0,1,false,[.ifc 404 (.ptr 6 0 0)],false⟩,⟨true,0,1,true,[.int .i64 (((popT v5).p).town),.int .i64 (((popT v5).p).used),.int .i64 (((popT v5).c).ticks),.int .i64 (((popT v5).c).legs)],false⟩]⟩ [1,4,5,6,7,44] 9 [.v (.int .i64 (v5.length:Int)),.b true,.lent [6,5] (.ifc 406 (.agg [.int .i64 (((popT v5).p).town),.int .i64 (((popT v5).p).used),.int .i64 (((popT v5).c).ticks),.int .i64 (((popT v5).c).legs)])) [⟨true,0,1,false,[.sl 1 g5 0 ((popR v5).length) 4],false⟩,⟨true,g5,4,true,(Qi (popR v5)),true⟩],.mnone,.b false,.v (.clos 275 [] [.rptr [.rsl (rowB a.m.park) 0 a.m.park.length,.rsl (Qb a.m.roads) 0 a.m.roads.length,.int .i64 a.l.hgt,.int .i64 a.l.wgt,.int .i64 a.l.fr,.int .i64 a.l.ready,.int .i64 a.l.drive,.int .i64 a.l.rest] 0,.rptr [.int .i64 (((popT v5).p).town),.int .i64 (((popT v5).p).used)] 0])] [Qc Try.prog (.clos 323 [] []) [.rsl (Qi v5) 0 v5.length] (.int .i64 (v5.length:Int)),g5=g5,(decide ((v5.length:Int) > 0))=true,Yk Try.prog (.clos 270 [] []) [.ifc 404 (.ptr 0 0 0)] [⟨true,0,1,false,[.sl 1 g5 0 v5.length 4],false⟩,⟨true,g5,4,true,(Qi v5),true⟩] (.ifc 406 (.agg [.int .i64 (((popT v5).p).town),.int .i64 (((popT v5).p).used),.int .i64 (((popT v5).c).ticks),.int .i64 (((popT v5).c).legs)])) [⟨true,0,1,false,[.sl 1 g5 0 ((popR v5).length) 4],false⟩,⟨true,g5,4,true,(Qi (popR v5)),true⟩],4≤4,Xw Try.prog 370 (.agg [.int .i64 (((popT v5).p).town),.int .i64 (((popT v5).p).used)]) (XN v4),false=false,Xw Try.prog 370 (.agg [.int .i64 (((popT v5).p).town),.int .i64 (((popT v5).p).used)]) (XN v4),Qc Try.prog (.clos 239 [] []) [.agg [.rsl (rowB a.m.park) 0 a.m.park.length,.rsl (Qb a.m.roads) 0 a.m.roads.length,.int .i64 a.l.hgt,.int .i64 a.l.wgt,.int .i64 a.l.fr,.int .i64 a.l.ready,.int .i64 a.l.drive,.int .i64 a.l.rest],.agg [.int .i64 (((popT v5).p).town),.int .i64 (((popT v5).p).used)]] (.clos 275 [] [.rptr [.rsl (rowB a.m.park) 0 a.m.park.length,.rsl (Qb a.m.roads) 0 a.m.roads.length,.int .i64 a.l.hgt,.int .i64 a.l.wgt,.int .i64 a.l.fr,.int .i64 a.l.ready,.int .i64 a.l.drive,.int .i64 a.l.rest] 0,.rptr [.int .i64 (((popT v5).p).town),.int .i64 (((popT v5).p).used)] 0])] hE ⟨(u323 (yr v5)),rfl,hc0,(QK Try.func270 (by kernel_rfl) f270b (hpop_ok h1 (by first | rfl | (simp; done)))),(by decide),(newDnE hc1),rfl,(newDnE hc1),(u239 (QbI a ((popT v5).p))),trivial⟩ ?_
     rw [(show XN v4++[.clos 0 [.agg [.int .i64 (((popT v5).p).town),.int .i64 (((popT v5).p).used)]] [.int .i64 1]]=XN (v4++[((popT v5).p,1)]) from (Xz cDnE v4 [((popT v5).p,1)]).symm)]; exact h
 · have h:=h.2 (odf hc0)
   exact eL (.rmap (Qe v2)) [.v (.int .i64 (v5.length:Int)),.b false] [Qc Try.prog (.clos 323 [] []) [.rsl (Qi v5) 0 v5.length] (.int .i64 (v5.length:Int)),g5=g5,(decide ((v5.length:Int) > 0))=false] hE Try.func235 ⟨(u323 (yr v5)),rfl,hc0,trivial⟩ (by exact AvLe.of_eq (by rw [h]; try rfl))
theorem f235Wr0e (a:Atl) (v:Pla) (v8_0:Int) (v8_1:Int) (v8_2:Int) (v8_3:Int) (s:List (Pla × Cst) × List (Pla × Int) × List Stq × Nat) {E:Env} {rv:AV} (hE:Qr Try.prog 235 rv E)
 (h:Qao E a s.1 s.2.2.1 s.2.1):G Try.prog E (VD (Ws Try.prog)) (YV a v v8_0 v8_1 v8_2 v8_3 s):=by
 exact sQ [1,4,5,6] 8 [.stop] [] hE trivial (h s.2.2.2)
theorem f235Ar0 (a:Atl) (v:Pla) (v8_0:Int) (v8_1:Int) (v8_2:Int) (v8_3:Int) (s:List (Pla × Cst) × List (Pla × Int) × List Stq × Nat) (x:Way) {E:Env} (hE:RoundE (YV a v v8_0 v8_1 v8_2 v8_3 s).tmps E) (hg:G Try.prog E [.beginRound,.code (XA (Ws Try.prog))] (f235Tr0 a v v8_0 v8_1 v8_2 v8_3 s x)):G Try.prog E [.code (Vp (Ws Try.prog)),.beginRound,.code (XA (Ws Try.prog))] ⟨WS (YV a v v8_0 v8_1 v8_2 v8_3 s).tmps [45] (qy x),(YV a v v8_0 v8_1 v8_2 v8_3 s).blks⟩ :=
 sM [0,1,2,3,4,5,6,7,8,9,10,11,12,13,14,15,16,17,18,19,20,21,22,23,24,25,26,27,28,29,30,31,32,33,34,35,36,37,38,39,40,41,42,43,44,45,46,47,48,49,50,51,52,53,54,55,56,57,58,59,60,61,62,63,64,65,66,67,68,69,70,71,72,73,74,75,76,77,78,79,80,81,82,83,84,85,86,87] 10 [] [6≤6] hE.kind (by rw [hE.gA]; kernel_rfl) ⟨(by decide),trivial⟩ hg
theorem f235Br0 (a:Atl) (v:Pla) (v8_0:Int) (v8_1:Int) (v8_2:Int) (v8_3:Int) (s:List (Pla × Cst) × List (Pla × Int) × List Stq × Nat) (x:Way) {rq:(List (Pla × Cst) × List (Pla × Int) × List Stq × Nat) × Bool} {E:Env} (hE:RoundE (YV a v v8_0 v8_1 v8_2 v8_3 s).tmps E) (hQ:qi (fun s=>(YV a v v8_0 v8_1 v8_2 v8_3 s).blks) (.ret) rq E)
 (h:((I6 (v8_2+x.c.ticks))∧((I6 (v8_3+x.c.legs))∧(((QJ s.1 x.to)=true→(∃ mi:Nat,True∧(∃ me:(Pla × Cst),PlAt s.1 x.to mi me∧((XZ (⟨(v8_2+x.c.ticks),(v8_3+x.c.legs)⟩:Cst)∧XZ me.2)∧(((cmpC (⟨(v8_2+x.c.ticks),(v8_3+x.c.legs)⟩:Cst) me.2)<0→(∃ mi1:Nat,True∧(∃ me1:(Pla × Cst),PlAt s.1 x.to mi1 me1∧((QbF s.2.2.1 (⟨x.to,(⟨(v8_2+x.c.ticks),(v8_3+x.c.legs)⟩:Cst)⟩:Stq))∧rq=(((s.1.set mi1 (x.to,(⟨(v8_2+x.c.ticks),(v8_3+x.c.legs)⟩:Cst))),s.2.1,(pushQ s.2.2.1 (⟨x.to,(⟨(v8_2+x.c.ticks),(v8_3+x.c.legs)⟩:Cst)⟩:Stq)),(s.2.2.2+1)),true)))))∧(¬ ((cmpC (⟨(v8_2+x.c.ticks),(v8_3+x.c.legs)⟩:Cst) me.2)<0)→rq=((s.1,s.2.1,s.2.2.1,s.2.2.2),true)))))))∧((QJ s.1 x.to)=false→((QbF s.2.2.1 (⟨x.to,(⟨(v8_2+x.c.ticks),(v8_3+x.c.legs)⟩:Cst)⟩:Stq))∧rq=(((s.1++[(x.to,(⟨(v8_2+x.c.ticks),(v8_3+x.c.legs)⟩:Cst))]),s.2.1,(pushQ s.2.2.1 (⟨x.to,(⟨(v8_2+x.c.ticks),(v8_3+x.c.legs)⟩:Cst)⟩:Stq)),(s.2.2.2+1)),true))))))):G Try.prog E [.code (XA (Ws Try.prog))] (f235Tr0 a v v8_0 v8_1 v8_2 v8_3 s x):=by
 obtain ⟨q0_0,h⟩:=h
 obtain ⟨q1_0,h⟩:=h
 rcases bft (QJ s.1 x.to) with hc0 | hc0
 · have h:=h.1 hc0
   obtain ⟨mi,h1,h⟩:=h
   obtain ⟨me,h2,h⟩:=h
   obtain ⟨h3,h⟩:=h
   rcases bft (decide ((cmpC (⟨(v8_2+x.c.ticks),(v8_3+x.c.legs)⟩:Cst) me.2)<0)) with hc1 | hc1
   · have h:=h.1 (odt hc1)
     obtain ⟨mi1,h4,h⟩:=h
     obtain ⟨me1,h5,h⟩:=h
     obtain ⟨h6,h⟩:=h
     exact sK [] ⟨(Js 88),[⟨true,0,1,true,[.rsl (rowB a.m.park) 0 a.m.park.length,.rsl (Qb a.m.roads) 0 a.m.roads.length,.int .i64 a.l.hgt,.int .i64 a.l.wgt,.int .i64 a.l.fr,.int .i64 a.l.ready,.int .i64 a.l.drive,.int .i64 a.l.rest],false⟩,⟨true,0,1,true,[.int .i64 a.l.fr,.int .i64 0],false⟩,⟨true,0,0,true,((Qe s.1).set mi1 (.clos 0 [.agg [.int .i64 x.to.town,.int .i64 x.to.used]] [.agg [.int .i64 (v8_2+x.c.ticks),.int .i64 (v8_3+x.c.legs)]])),false⟩,⟨true,0,1,false,[.mp 2 0 false],false⟩,⟨true,0,0,true,(XN s.2.1),false⟩,⟨true,(s.2.2.2+1),4,true,(Qi (pushQ s.2.2.1 (⟨x.to,(⟨(v8_2+x.c.ticks),(v8_3+x.c.legs)⟩:Cst)⟩:Stq))),true⟩,⟨true,0,1,false,[.sl 5 (s.2.2.2+1) 0 ((pushQ s.2.2.1 (⟨x.to,(⟨(v8_2+x.c.ticks),(v8_3+x.c.legs)⟩:Cst)⟩:Stq)).length) 4],false⟩,⟨true,0,1,false,[.ifc 404 (.ptr 6 0 0)],false⟩,⟨true,0,1,true,[.int .i64 v8_0,.int .i64 v8_1,.int .i64 v8_2,.int .i64 v8_3],false⟩]⟩ [] 9 [.mfound mi (.agg [.int .i64 me.2.ticks,.int .i64 me.2.legs]),.b false,.v (.int .i64 (cmpC (⟨(v8_2+x.c.ticks),(v8_3+x.c.legs)⟩:Cst) me.2)),.b true,.mup mi1 (.agg [.int .i64 me1.2.ticks,.int .i64 me1.2.legs]),.lent [6,5] (.tup []) [⟨true,0,1,false,[.sl 1 (s.2.2.2+1) 0 ((pushQ s.2.2.1 (⟨x.to,(⟨(v8_2+x.c.ticks),(v8_3+x.c.legs)⟩:Cst)⟩:Stq)).length) 4],false⟩,⟨true,(s.2.2.2+1),4,true,(Qi (pushQ s.2.2.1 (⟨x.to,(⟨(v8_2+x.c.ticks),(v8_3+x.c.legs)⟩:Cst)⟩:Stq))),true⟩]] [InR .i64 (v8_2+x.c.ticks),InR .i64 (v8_3+x.c.legs),2≤2,XY Try.prog 370 (.agg [.int .i64 x.to.town,.int .i64 x.to.used]) (Qe s.1) mi (.agg [.int .i64 me.2.ticks,.int .i64 me.2.legs]),2≤2,false=false,Qc Try.prog (.clos 236 [] []) [.agg [.int .i64 (v8_2+x.c.ticks),.int .i64 (v8_3+x.c.legs)],.agg [.int .i64 me.2.ticks,.int .i64 me.2.legs]] (.int .i64 (cmpC (⟨(v8_2+x.c.ticks),(v8_3+x.c.legs)⟩:Cst) me.2)),(decide ((cmpC (⟨(v8_2+x.c.ticks),(v8_3+x.c.legs)⟩:Cst) me.2)<0))=true,XY Try.prog 370 (.agg [.int .i64 x.to.town,.int .i64 x.to.used]) (Qe s.1) mi1 (.agg [.int .i64 me1.2.ticks,.int .i64 me1.2.legs]),Yk Try.prog (.clos 271 [] []) [.ifc 404 (.ptr 0 0 0),.ifc 406 (.agg [.int .i64 x.to.town,.int .i64 x.to.used,.int .i64 (v8_2+x.c.ticks),.int .i64 (v8_3+x.c.legs)])] [⟨true,0,1,false,[.sl 1 s.2.2.2 0 s.2.2.1.length 4],false⟩,⟨true,s.2.2.2,4,true,(Qi s.2.2.1),true⟩] (.tup []) [⟨true,0,1,false,[.sl 1 (s.2.2.2+1) 0 ((pushQ s.2.2.1 (⟨x.to,(⟨(v8_2+x.c.ticks),(v8_3+x.c.legs)⟩:Cst)⟩:Stq)).length) 4],false⟩,⟨true,(s.2.2.2+1),4,true,(Qi (pushQ s.2.2.1 (⟨x.to,(⟨(v8_2+x.c.ticks),(v8_3+x.c.legs)⟩:Cst)⟩:Stq))),true⟩]] hE.kind (by rw [hE.gA]; kernel_rfl) ⟨q0_0,q1_0,(by decide),(Vo h2),(by decide),rfl,(u236 (YJ (⟨(v8_2+x.c.ticks),(v8_3+x.c.legs)⟩:Cst) me.2 h3)),hc1,(Vo h5),(QK Try.func271 (by kernel_rfl) f271b (hpush_ok h6 (by first | rfl | (simp; done)))),trivial⟩ (by exact XV hQ h (by rw [(show (Qe s.1).set mi1 (.clos 0 [.agg [.int .i64 x.to.town,.int .i64 x.to.used]] [.agg [.int .i64 (v8_2+x.c.ticks),.int .i64 (v8_3+x.c.legs)]])=Qe (s.1.set mi1 (x.to,(⟨(v8_2+x.c.ticks),(v8_3+x.c.legs)⟩:Cst))) from setOuE s.1 mi1 (x.to,(⟨(v8_2+x.c.ticks),(v8_3+x.c.legs)⟩:Cst)))]; first | rfl | (simp only [YV,List.length_set])))
   · have h:=h.2 (odf hc1)
     exact sK [] ⟨(Js 88),[⟨true,0,1,true,[.rsl (rowB a.m.park) 0 a.m.park.length,.rsl (Qb a.m.roads) 0 a.m.roads.length,.int .i64 a.l.hgt,.int .i64 a.l.wgt,.int .i64 a.l.fr,.int .i64 a.l.ready,.int .i64 a.l.drive,.int .i64 a.l.rest],false⟩,⟨true,0,1,true,[.int .i64 a.l.fr,.int .i64 0],false⟩,⟨true,0,0,true,(Qe s.1),false⟩,⟨true,0,1,false,[.mp 2 0 false],false⟩,⟨true,0,0,true,(XN s.2.1),false⟩,⟨true,s.2.2.2,4,true,(Qi s.2.2.1),true⟩,⟨true,0,1,false,[.sl 5 s.2.2.2 0 s.2.2.1.length 4],false⟩,⟨true,0,1,false,[.ifc 404 (.ptr 6 0 0)],false⟩,⟨true,0,1,true,[.int .i64 v8_0,.int .i64 v8_1,.int .i64 v8_2,.int .i64 v8_3],false⟩]⟩ [] 9 [.mfound mi (.agg [.int .i64 me.2.ticks,.int .i64 me.2.legs]),.b false,.v (.int .i64 (cmpC (⟨(v8_2+x.c.ticks),(v8_3+x.c.legs)⟩:Cst) me.2)),.b false] [InR .i64 (v8_2+x.c.ticks),InR .i64 (v8_3+x.c.legs),2≤2,XY Try.prog 370 (.agg [.int .i64 x.to.town,.int .i64 x.to.used]) (Qe s.1) mi (.agg [.int .i64 me.2.ticks,.int .i64 me.2.legs]),2≤2,false=false,Qc Try.prog (.clos 236 [] []) [.agg [.int .i64 (v8_2+x.c.ticks),.int .i64 (v8_3+x.c.legs)],.agg [.int .i64 me.2.ticks,.int .i64 me.2.legs]] (.int .i64 (cmpC (⟨(v8_2+x.c.ticks),(v8_3+x.c.legs)⟩:Cst) me.2)),(decide ((cmpC (⟨(v8_2+x.c.ticks),(v8_3+x.c.legs)⟩:Cst) me.2)<0))=false] hE.kind (by rw [hE.gA]; kernel_rfl) ⟨q0_0,q1_0,(by decide),(Vo h2),(by decide),rfl,(u236 (YJ (⟨(v8_2+x.c.ticks),(v8_3+x.c.legs)⟩:Cst) me.2 h3)),hc1,trivial⟩ (by exact XV hQ h rfl)
 · have h:=h.2 hc0
   obtain ⟨h2,h⟩:=h
   exact sK [] ⟨(Js 88),[⟨true,0,1,true,[.rsl (rowB a.m.park) 0 a.m.park.length,.rsl (Qb a.m.roads) 0 a.m.roads.length,.int .i64 a.l.hgt,.int .i64 a.l.wgt,.int .i64 a.l.fr,.int .i64 a.l.ready,.int .i64 a.l.drive,.int .i64 a.l.rest],false⟩,⟨true,0,1,true,[.int .i64 a.l.fr,.int .i64 0],false⟩,⟨true,0,0,true,((Qe s.1)++[.clos 0 [.agg [.int .i64 x.to.town,.int .i64 x.to.used]] [.agg [.int .i64 (v8_2+x.c.ticks),.int .i64 (v8_3+x.c.legs)]]]),false⟩,⟨true,0,1,false,[.mp 2 0 false],false⟩,⟨true,0,0,true,(XN s.2.1),false⟩,⟨true,(s.2.2.2+1),4,true,(Qi (pushQ s.2.2.1 (⟨x.to,(⟨(v8_2+x.c.ticks),(v8_3+x.c.legs)⟩:Cst)⟩:Stq))),true⟩,⟨true,0,1,false,[.sl 5 (s.2.2.2+1) 0 ((pushQ s.2.2.1 (⟨x.to,(⟨(v8_2+x.c.ticks),(v8_3+x.c.legs)⟩:Cst)⟩:Stq)).length) 4],false⟩,⟨true,0,1,false,[.ifc 404 (.ptr 6 0 0)],false⟩,⟨true,0,1,true,[.int .i64 v8_0,.int .i64 v8_1,.int .i64 v8_2,.int .i64 v8_3],false⟩]⟩ [] 9 [.mnone,.b true,.b true,.lent [6,5] (.tup []) [⟨true,0,1,false,[.sl 1 (s.2.2.2+1) 0 ((pushQ s.2.2.1 (⟨x.to,(⟨(v8_2+x.c.ticks),(v8_3+x.c.legs)⟩:Cst)⟩:Stq)).length) 4],false⟩,⟨true,(s.2.2.2+1),4,true,(Qi (pushQ s.2.2.1 (⟨x.to,(⟨(v8_2+x.c.ticks),(v8_3+x.c.legs)⟩:Cst)⟩:Stq))),true⟩]] [InR .i64 (v8_2+x.c.ticks),InR .i64 (v8_3+x.c.legs),2≤2,Xw Try.prog 370 (.agg [.int .i64 x.to.town,.int .i64 x.to.used]) (Qe s.1),2≤2,true=true,true=true,Xw Try.prog 370 (.agg [.int .i64 x.to.town,.int .i64 x.to.used]) (Qe s.1),Yk Try.prog (.clos 271 [] []) [.ifc 404 (.ptr 0 0 0),.ifc 406 (.agg [.int .i64 x.to.town,.int .i64 x.to.used,.int .i64 (v8_2+x.c.ticks),.int .i64 (v8_3+x.c.legs)])] [⟨true,0,1,false,[.sl 1 s.2.2.2 0 s.2.2.1.length 4],false⟩,⟨true,s.2.2.2,4,true,(Qi s.2.2.1),true⟩] (.tup []) [⟨true,0,1,false,[.sl 1 (s.2.2.2+1) 0 ((pushQ s.2.2.1 (⟨x.to,(⟨(v8_2+x.c.ticks),(v8_3+x.c.legs)⟩:Cst)⟩:Stq)).length) 4],false⟩,⟨true,(s.2.2.2+1),4,true,(Qi (pushQ s.2.2.1 (⟨x.to,(⟨(v8_2+x.c.ticks),(v8_3+x.c.legs)⟩:Cst)⟩:Stq))),true⟩]] hE.kind (by rw [hE.gA]; kernel_rfl) ⟨q0_0,q1_0,(by decide),(YR hc0),(by decide),rfl,rfl,(YR hc0),(QK Try.func271 (by kernel_rfl) f271b (hpush_ok h2 (by first | rfl | (simp; done)))),trivial⟩ (by exact XV hQ h (by rw [(show Qe s.1++[.clos 0 [.agg [.int .i64 x.to.town,.int .i64 x.to.used]] [.agg [.int .i64 (v8_2+x.c.ticks),.int .i64 (v8_3+x.c.legs)]]]=Qe (s.1++[(x.to,(⟨(v8_2+x.c.ticks),(v8_3+x.c.legs)⟩:Cst))]) from (Xz cOuE s.1 [(x.to,(⟨(v8_2+x.c.ticks),(v8_3+x.c.legs)⟩:Cst))]).symm)]; first | rfl | (simp only [YV,List.length_set])))
theorem f235Rr0 (a:Atl) (v:Pla) (v8_0:Int) (v8_1:Int) (v8_2:Int) (v8_3:Int) (s0:List (Pla × Cst) × List (Pla × Int) × List Stq × Nat) {E:Env} {rv:AV} (hE:Qr Try.prog 235 rv E) (step:(List (Pla × Cst) × List (Pla × Int) × List Stq × Nat)→(Way)→(List (Pla × Cst) × List (Pla × Int) × List Stq × Nat))
 (h:(AtlOk a∧PlaOk a v)∧(∀ (i:Nat) (x:Way) (s:List (Pla × Cst) × List (Pla × Int) × List Stq × Nat),(XD a v)[i]?=some x→s=((XD a v).take i).foldl step s0→((I6 (v8_2+x.c.ticks))∧((I6 (v8_3+x.c.legs))∧(((QJ s.1 x.to)=true→(∃ mi:Nat,True∧(∃ me:(Pla × Cst),PlAt s.1 x.to mi me∧((XZ (⟨(v8_2+x.c.ticks),(v8_3+x.c.legs)⟩:Cst)∧XZ me.2)∧(((cmpC (⟨(v8_2+x.c.ticks),(v8_3+x.c.legs)⟩:Cst) me.2)<0→(∃ mi1:Nat,True∧(∃ me1:(Pla × Cst),PlAt s.1 x.to mi1 me1∧((QbF s.2.2.1 (⟨x.to,(⟨(v8_2+x.c.ticks),(v8_3+x.c.legs)⟩:Cst)⟩:Stq))∧step s x=((s.1.set mi1 (x.to,(⟨(v8_2+x.c.ticks),(v8_3+x.c.legs)⟩:Cst))),s.2.1,(pushQ s.2.2.1 (⟨x.to,(⟨(v8_2+x.c.ticks),(v8_3+x.c.legs)⟩:Cst)⟩:Stq)),(s.2.2.2+1))))))∧(¬ ((cmpC (⟨(v8_2+x.c.ticks),(v8_3+x.c.legs)⟩:Cst) me.2)<0)→step s x=(s.1,s.2.1,s.2.2.1,s.2.2.2)))))))∧((QJ s.1 x.to)=false→((QbF s.2.2.1 (⟨x.to,(⟨(v8_2+x.c.ticks),(v8_3+x.c.legs)⟩:Cst)⟩:Stq))∧step s x=((s.1++[(x.to,(⟨(v8_2+x.c.ticks),(v8_3+x.c.legs)⟩:Cst))]),s.2.1,(pushQ s.2.2.1 (⟨x.to,(⟨(v8_2+x.c.ticks),(v8_3+x.c.legs)⟩:Cst)⟩:Stq)),(s.2.2.2+1))))))))∧(∀ s:List (Pla × Cst) × List (Pla × Int) × List Stq × Nat,s=(XD a v).foldl step s0→Qao E a s.1 s.2.2.1 s.2.1)):f235Gr0 E a v v8_0 v8_1 v8_2 v8_3 s0:=by
 have hgA:E.gA=[]:=hE.2.2.2.2.1
 have hT:(YV a v v8_0 v8_1 v8_2 v8_3 s0).tmps++E.gA=(YV a v v8_0 v8_1 v8_2 v8_3 s0).tmps:=by rw [hgA,List.append_nil]
 refine VE (σ:=List (Pla × Cst) × List (Pla × Int) × List Stq × Nat) (X:=Way) (arg:=qy) (L:=(XD a v)) (jump:=.ret) (g:=.tmp 44) (ps:=#[45]) (fun s=>(YV a v v8_0 v8_1 v8_2 v8_3 s).blks) (fun s x=>(f235Tr0 a v v8_0 v8_1 v8_2 v8_3 s x)) (fun s x=>(step s x,true)) s0 hE.1 hE.2.1 (by kernel_rfl) rfl rfl (ways_it a v h.1) rfl (fun x=>rfl) (fun s x E' hR hg=>?_) (fun i x s hx hs E' hR hQ=>?_) (fun s hs=>?_) (fun s hs=>?_)
 · rw [hT] at hR; exact f235Ar0 a v v8_0 v8_1 v8_2 v8_3 s x hR hg
 · rw [hT] at hR; rw [Xx] at hs; simp only [Prod.mk.injEq,and_true] at hs; refine f235Br0 a v v8_0 v8_1 v8_2 v8_3 s x hR hQ ?_
   have h:=h.2.1 i x s hx hs.symm
   simpa only [Prod.mk.injEq,and_true] using h
 · rw [Xx] at hs; simp only [Prod.mk.injEq,and_true] at hs; exact f235Wr0e a v v8_0 v8_1 v8_2 v8_3 s hE (h.2.2 s hs.symm)
 · rw [Xx] at hs; simp at hs
end Go.Proofs.Ytemklbioijmjiaa
namespace Go.Proofs.Ytemklbioijmjiaa
open Go Ax
open Go.Proofs
theorem VH:∀ (n:Nat) {l:List Nat},l.Nodup→(∀ s ∈ l,s<n)→l.length≤n
 | 0,l,_,h=>by
  cases l with
  | nil=>simp
  | cons a l=>exact absurd (h a List.mem_cons_self) (by omega)
 | n+1,l,hd,h=>by
  by_cases hm:n ∈ l
  · have h1:=VH n (l:=l.erase n) (hd.erase n) (fun s hs=>by
     have:=h s (List.mem_of_mem_erase hs)
     have:s ≠ n:=fun e=>by subst e; exact (List.Nodup.not_mem_erase hd) hs
     omega)
    rw [List.length_erase_of_mem hm] at h1; omega
  · have:=VH n (l:=l) hd (fun s hs=>by
     have:=h s hs
     have:s ≠ n:=fun e=>by subst e; exact hm hs
     omega)
    omega
/-! ### maps -/
def QE {β:Type}:List (Pla × β)→Pla→Option β
 | [],_=>none
 | e :: l,k=>if eqPl k e.1=true then some e.2 else QE l k
def XM {β:Type}:List (Pla × β)→Pla→β→List (Pla × β)
 | [],k,v=>[(k,v)]
 | e :: l,k,v=>if eqPl k e.1=true then (k,v) :: l else e :: XM l k v
theorem VF {β:Type} {l:List (Pla × β)} {k:Pla} {e:Pla × β}:QJ (e :: l) k=(eqPl k e.1 || QJ l k):=rfl
theorem QbR {β:Type} {k:Pla} {v:β}:∀ {l:List (Pla × β)},QJ l k=false→l++[(k,v)]=XM l k v
 | [],_=>rfl
 | e :: l,h=>by
  rw [VF,Bool.or_eq_false_iff] at h
  rw [XM,if_neg (by rw [h.1]; simp),List.cons_append,QbR h.2]
theorem put_at {β:Type} {k:Pla} {v:β}:∀ {l:List (Pla × β)} {i:Nat} {e:Pla × β},PlAt l k i e→l.set i (k,v)=XM l k v
 | [],i,e,h=>by simp [PlAt] at h
 | x :: l,0,e,h=>by
  obtain ⟨h1,h2,h3⟩:=h
  simp only [List.getElem?_cons_zero,Option.some.injEq] at h1; subst h1
  rw [XM,if_pos (Xn.2 h2.symm),List.set_cons_zero]
 | x :: l,i+1,e,h=>by
  obtain ⟨h1,h2,h3⟩:=h
  rw [List.take_succ_cons,VF,Bool.or_eq_false_iff] at h3
  rw [XM,if_neg (by rw [h3.1]; simp),List.set_cons_succ,put_at (i:=i) (e:=e) ⟨by simpa using h1,h2,h3.2⟩]
theorem Wr {β:Type} {k:Pla}:∀ {l:List (Pla × β)} {i:Nat} {e:Pla × β},PlAt l k i e→QE l k=some e.2
 | [],i,e,h=>by simp [PlAt] at h
 | x :: l,0,e,h=>by
  obtain ⟨h1,h2,h3⟩:=h
  simp only [List.getElem?_cons_zero,Option.some.injEq] at h1; subst h1
  rw [QE,if_pos (Xn.2 h2.symm)]
 | x :: l,i+1,e,h=>by
  obtain ⟨h1,h2,h3⟩:=h
  rw [List.take_succ_cons,VF,Bool.or_eq_false_iff] at h3
  rw [QE,if_neg (by rw [h3.1]; simp),Wr (i:=i) (e:=e) ⟨by simpa using h1,h2,h3.2⟩]
theorem Yu {β:Type} {k:Pla}:∀ {l:List (Pla × β)},QJ l k=false→QE l k=none
 | [],_=>rfl
 | e :: l,h=>by
  rw [VF,Bool.or_eq_false_iff] at h
  rw [QE,if_neg (by rw [h.1]; simp),Yu h.2]
theorem get_has {β:Type} {l:List (Pla × β)} {k:Pla} {v:β} (h:QE l k=some v):QJ l k=true:=by
 cases e:QJ l k with
 | true=>rfl
 | false=>rw [Yu e] at h; cases h
theorem Yt {β:Type} {k q:Pla} {v:β}:∀ {l:List (Pla × β)},QE (XM l k v) q=if q=k then some v else QE l q
 | []=>by simp only [XM,QE,Xn]
 | e :: l=>by
  rw [XM]
  by_cases h:eqPl k e.1=true
  · rw [if_pos h]
    have h:=Xn.1 h
    simp only [QE,Xn,← h]
    split <;> rfl
  · rw [if_neg h]
    rw [Xn] at h
    simp only [QE,Xn,Yt]
    by_cases c:q=e.1
    · rw [if_pos c,if_neg (fun x=>h (x.symm.trans c)),if_pos c]
    · rw [if_neg c,if_neg c]
theorem put_keys {β:Type} {k:Pla} {v:β}:∀ {l:List (Pla × β)},(XM l k v).map Prod.fst=if QJ l k=true then l.map Prod.fst else l.map Prod.fst++[k]
 | []=>rfl
 | e :: l=>by
  rw [XM,VF]
  by_cases h:eqPl k e.1=true
  · rw [if_pos h,h,Bool.true_or,if_pos rfl]
    have h:=Xn.1 h
    simp only [List.map_cons,h]
  · rw [if_neg h]
    simp only [Bool.not_eq_true] at h
    rw [h,Bool.false_or,List.map_cons,put_keys]
    split <;> rfl
theorem put_nodup {β:Type} {l:List (Pla × β)} {k:Pla} {v:β} (h:(l.map Prod.fst).Nodup):((XM l k v).map Prod.fst).Nodup:=by
 rw [put_keys]
 split
 · exact h
 · rename_i c
   rw [plHas_iff] at c
   rw [List.nodup_append]
   exact ⟨h,by simp,fun a ha b hb e=>by rw [List.mem_singleton] at hb; subst hb; subst e; exact c ha⟩
theorem get_mem {β:Type} {k:Pla} {v:β}:∀ {l:List (Pla × β)},QE l k=some v→(k,v) ∈ l
 | [],h=>by cases h
 | e :: l,h=>by
  rw [QE] at h
  split at h
  · rename_i c
    have c:=Xn.1 c
    simp only [Option.some.injEq] at h
    subst h; subst c
    exact List.mem_cons_self
  · exact List.mem_cons_of_mem _ (get_mem h)
theorem Qcd {β:Type} {k:Pla} {v:β}:∀ {l:List (Pla × β)},(l.map Prod.fst).Nodup→(k,v) ∈ l→QE l k=some v
 | [],_,h=>by cases h
 | e :: l,hn,h=>by
  rw [List.map_cons,List.nodup_cons] at hn
  rw [QE]
  rcases List.mem_cons.1 h with h | h
  · subst h; rw [if_pos (Xn.2 rfl)]
  · rw [if_neg,Qcd hn.2 h]
    intro c
    have c:=Xn.1 c
    exact hn.1 (by rw [← c]; exact List.mem_map.2 ⟨_,h,rfl⟩)
/-! ### ways -/
def Xh (a:Atl):Pla:=⟨a.l.fr,0⟩
structure WayOk (a:Atl) (w:Way):Prop where
 to:PlaOk a w.to
 t0:1≤w.c.ticks
 t1:w.c.ticks≤1000
 lg:w.c.legs=1
 r0:0≤w.road
 r1:w.road<(a.m.roads.length:Int)
 s0:0≤w.rest
 ln:w.c.ticks=w.rest+(Qd a.m.roads w.road.toNat).len
theorem waysAt_ok {a:Atl} {p:Pla} (ha:AtlOk a) (hp:PlaOk a p) {i:Nat} {r:Rod} (g:a.m.roads[i]?=some r):(∀ w ∈ QaP a p i r,WayOk a w)∧(QaP a p i r).length≤2:=by
 have hr:=ha.rod r (List.mem_of_getElem? g)
 have hi:i<a.m.roads.length:=(List.getElem?_eq_some_iff.1 g).1
 have e:Qd a.m.roads i=r:=by rw [Qd,List.getD_eq_getElem?_getD,g]; rfl
 obtain ⟨a0,a1,b0,b1,l0,l1⟩:=hr
 obtain ⟨t0,t1,u0,u1⟩:=hp
 have hr0:=ha.r0; have hr1:=ha.r1
 unfold QaP
 split
 · exact ⟨fun w hw=>by simp at hw,by simp⟩
 · rename_i hs
   simp only [skipR,Bool.or_eq_true,Bool.and_eq_true,bne_iff_ne,ne_eq,not_or,not_and,Bool.not_eq_true,Decidable.not_not] at hs
   have ho:0≤(r.a+r.b) - p.town∧(r.a+r.b) - p.town<(a.m.park.length:Int):=by
    by_cases c:r.a=p.town
    · omega
    · have:=hs.1 c; omega
   constructor
   · intro w hw
     rcases List.mem_append.1 hw with hw | hw
     · split at hw
       · rename_i c
         simp only [goA,decide_eq_true_eq] at c
         rw [List.mem_singleton] at hw; subst hw
         exact ⟨⟨ho.1,ho.2,by change 0≤p.used+r.len; omega,c⟩,l0,by change r.len≤1000; omega,rfl,by change 0≤(i:Int); omega,by change (i:Int)<_; omega,Int.le_refl 0,by change r.len=0+(Qd a.m.roads (Int.toNat (i:Int))).len; rw [Int.toNat_natCast,e]; omega⟩
       · simp at hw
     · split at hw
       · rename_i c
         simp only [goB,Bool.and_eq_true,decide_eq_true_eq] at c
         rw [List.mem_singleton] at hw; subst hw
         exact ⟨⟨ho.1,ho.2,by change 0≤r.len; omega,c.2.2⟩,by change 1≤a.l.rest+r.len; omega,by change a.l.rest+r.len≤1000; omega,rfl,by change 0≤(i:Int); omega,by change (i:Int)<_; omega,by change 0≤a.l.rest; omega,by change a.l.rest+r.len=a.l.rest+(Qd a.m.roads (Int.toNat (i:Int))).len; rw [Int.toNat_natCast,e]⟩
       · simp at hw
   · rw [List.length_append]
     split <;> split <;> simp
theorem Ku {a:Atl} {p:Pla} (ha:AtlOk a) (hp:PlaOk a p):∀ {rs:List Rod} {i:Nat},a.m.roads.drop i=rs→(∀ w ∈ qz a p rs i,WayOk a w)∧(qz a p rs i).length≤2*rs.length
 | [],i,h=>⟨fun w hw=>by simp [qz] at hw,by simp [qz]⟩
 | r :: rs,i,h=>by
  obtain ⟨g1,g2,g3⟩:=w_cons h
  obtain ⟨ih1,ih2⟩:=Ku ha hp g2
  obtain ⟨k1,k2⟩:=waysAt_ok ha hp g1
  rw [qz]
  refine ⟨fun w hw=>?_,?_⟩
  · rcases List.mem_append.1 hw with hw | hw
    · exact k1 w hw
    · exact ih1 w hw
  · rw [List.length_append,List.length_cons]; omega
theorem Ym {a:Atl} {p:Pla} (ha:AtlOk a) (hp:PlaOk a p) {w:Way} (hw:w ∈ XD a p):WayOk a w:=(Ku ha hp (rs:=a.m.roads) (i:=0) rfl).1 w hw
theorem waysK_len {a:Atl} {p:Pla} (ha:AtlOk a) (hp:PlaOk a p):(XD a p).length≤60:=by
 have:=(Ku ha hp (rs:=a.m.roads) (i:=0) rfl).2
 have:=ha.rl
 unfold XD; omega
/-! ### places -/
def nP (a:Atl):Nat:=a.m.park.length*(a.l.drive.toNat+1)
theorem QaL {a:Atl} (ha:AtlOk a):nP a≤6012:=by
 have h1:=ha.pl
 have h2:a.l.drive.toNat+1≤501:=by have:=ha.d1; omega
 exact Nat.le_trans (Nat.mul_le_mul h1 h2) (by decide)
theorem Qba {a:Atl} {l:List Pla} (ha:AtlOk a) (hn:l.Nodup) (hl:∀ p ∈ l,PlaOk a p):l.length≤nP a:=by
 have d0:=ha.d0
 let f:Pla→Nat:=fun p=>p.town.toNat*(a.l.drive.toNat+1)+p.used.toNat
 have hb:∀ p,PlaOk a p→p.used.toNat<a.l.drive.toNat+1:=fun p h=>by have:=h.u0; have:=h.u1; omega
 have hm:(l.map f).Nodup:=by
  rw [List.Nodup,List.pairwise_map]
  refine List.Pairwise.imp_of_mem (fun {p q} hp hq hpq e=>hpq ?_) hn
  have p1:=hl p hp; have q1:=hl q hq
  have k1:=hb p p1; have k2:=hb q q1
  have e2:p.town.toNat=q.town.toNat:=by
   have h1:f p / (a.l.drive.toNat+1)=p.town.toNat:=by
    change (p.town.toNat*(a.l.drive.toNat+1)+p.used.toNat) / (a.l.drive.toNat+1)=_
    rw [Nat.mul_comm,Nat.mul_add_div (by omega),Nat.div_eq_of_lt k1,Nat.add_zero]
   have h2:f q / (a.l.drive.toNat+1)=q.town.toNat:=by
    change (q.town.toNat*(a.l.drive.toNat+1)+q.used.toNat) / (a.l.drive.toNat+1)=_
    rw [Nat.mul_comm,Nat.mul_add_div (by omega),Nat.div_eq_of_lt k2,Nat.add_zero]
   rw [← h1,← h2,e]
  have e3:p.used.toNat=q.used.toNat:=by
   have e:p.town.toNat*(a.l.drive.toNat+1)+p.used.toNat=q.town.toNat*(a.l.drive.toNat+1)+q.used.toNat:=e
   rw [e2] at e; omega
  have:=p1.t0; have:=q1.t0; have:=p1.u0; have:=q1.u0
  cases p; cases q
  simp only [Pla.mk.injEq] at *
  omega
 have:=VH (nP a) hm (fun s hs=>by
  obtain ⟨p,hp,rfl⟩:=List.mem_map.1 hs
  have p1:=hl p hp
  have k1:=hb p p1
  have ht:p.town.toNat+1≤a.m.park.length:=by have:=p1.t0; have:=p1.t1; omega
  have:=Nat.mul_le_mul_right (a.l.drive.toNat+1) ht
  rw [Nat.succ_mul] at this
  change p.town.toNat*(a.l.drive.toNat+1)+p.used.toNat<a.m.park.length*(a.l.drive.toNat+1)
  omega)
 simpa using this
/-! ### the search -/
def CB (n:Nat) (c:Cst):Prop:=0≤c.ticks∧c.ticks≤1000*(n:Int)∧0≤c.legs∧c.legs≤(n:Int)
theorem CB.mono {n m:Nat} {c:Cst} (h:CB n c) (hm:n≤m):CB m c:=by obtain ⟨a,b,d,e⟩:=h; exact ⟨a,by omega,d,by omega⟩
theorem CB.ok {n:Nat} {c:Cst} (h:CB n c) (hm:n≤10000):XZ c:=by obtain ⟨a,b,d,e⟩:=h; exact ⟨a,by omega,d,by omega⟩
theorem cmp_le {c o:Cst} (h:cmpC c o<0):c.ticks≤o.ticks:=by
 simp only [cmpC,orG] at h
 split at h
 · omega
 · omega
def addC (c d:Cst):Cst:=⟨c.ticks+d.ticks,c.legs+d.legs⟩
structure SInv (a:Atl) (n:Nat) (out:List (Pla × Cst)) (q:List Stq):Prop where
 nd:(out.map Prod.fst).Nodup
 ok:∀ p c,QE out p=some c→PlaOk a p∧CB n c
 qu:∀ x ∈ q,CB n x.c∧∃ c,QE out x.p=some c∧c.ticks≤x.c.ticks
 bg:∃ c,QE out (Xh a)=some c
 pr:∀ p c,QE out p=some c→p ≠ Xh a→∃ q c' w,QE out q=some c'∧w ∈ XD a q∧w.to=p∧c'.ticks+w.c.ticks≤c.ticks
theorem SInv.mono {a:Atl} {n m:Nat} {out:List (Pla × Cst)} {q q':List Stq} (h:SInv a n out q) (hm:n≤m) (hq:∀ x ∈ q',x ∈ q):SInv a m out q' :=
 ⟨h.nd,fun p c hp=>⟨(h.ok p c hp).1,(h.ok p c hp).2.mono hm⟩,fun x hx=>⟨(h.qu x (hq x hx)).1.mono hm,(h.qu x (hq x hx)).2⟩,h.bg,h.pr⟩
/-- The place that is looked at is no dearer than it was. -/
def Near (out:List (Pla × Cst)) (p:Pla) (c0:Cst):Prop:=∃ c,QE out p=some c∧c.ticks≤c0.ticks
theorem SInv.put {a:Atl} {m:Nat} {out:List (Pla × Cst)} {q q':List Stq} {p:Pla} {c0:Cst} {w:Way} (ha:AtlOk a) (h:SInv a (m+1) out q) (hp:PlaOk a p) (hw:w ∈ XD a p) (hc:CB m c0) (hN:Near out p c0)
 (hlt:∀ o,QE out w.to=some o→(addC c0 w.c).ticks≤o.ticks) (hq:∀ x ∈ q',x=⟨w.to,addC c0 w.c⟩ ∨ x ∈ q):SInv a (m+1) (XM out w.to (addC c0 w.c)) q'∧Near (XM out w.to (addC c0 w.c)) p c0:=by
 have wk:=Ym ha hp hw
 have hcb:CB (m+1) (addC c0 w.c):=by
  obtain ⟨h1,h2,h3,h4⟩:=hc
  have:=wk.t0; have:=wk.t1; have:=wk.lg
  refine ⟨?_,?_,?_,?_⟩ <;> simp only [addC] <;> omega
 have mono:∀ p' c',QE out p'=some c'→∃ c'',QE (XM out w.to (addC c0 w.c)) p'=some c''∧c''.ticks≤c'.ticks:=by
  intro p' c' h'
  rw [Yt]
  split
  · rename_i e; subst e; exact ⟨_,rfl,hlt c' h'⟩
  · exact ⟨c',h',Int.le_refl _⟩
 have near:Near (XM out w.to (addC c0 w.c)) p c0:=by
  obtain ⟨c,h1,h2⟩:=hN
  obtain ⟨c',h3,h4⟩:=mono p c h1
  exact ⟨c',h3,by omega⟩
 refine ⟨⟨put_nodup h.nd,fun p' c' h'=>?_,fun x hx=>?_,?_,fun p' c' h' hb=>?_⟩,near⟩
 · rw [Yt] at h'
   split at h'
   · rename_i e; simp only [Option.some.injEq] at h'; subst h'; subst e; exact ⟨wk.to,hcb⟩
   · exact h.ok p' c' h'
 · rcases hq x hx with e | e
   · subst e; exact ⟨hcb,_,by rw [Yt,if_pos rfl],Int.le_refl _⟩
   · obtain ⟨h1,c,h2,h3⟩:=h.qu x e
     obtain ⟨c',h4,h5⟩:=mono _ _ h2
     exact ⟨h1,c',h4,by omega⟩
 · obtain ⟨c,h1⟩:=h.bg
   obtain ⟨c',h4,h5⟩:=mono _ _ h1
   exact ⟨c',h4⟩
 · rw [Yt] at h'
   split at h'
   · rename_i e; simp only [Option.some.injEq] at h'; subst h'; subst e
     obtain ⟨c,h1,h2⟩:=near
     exact ⟨p,c,w,h1,hw,rfl,by simp only [addC]; omega⟩
   · obtain ⟨q0,c0',w',h1,h2,h3,h4⟩:=h.pr p' c' h' hb
     obtain ⟨c'',h5,h6⟩:=mono _ _ h1
     exact ⟨q0,c'',w',h5,h2,h3,by omega⟩
abbrev RS:=List (Pla × Cst) × List (Pla × Int) × List Stq × Nat
/-- What a way does to the search. -/
noncomputable def stepR (c0:Cst) (s:RS) (w:Way):RS :=
 match QE s.1 w.to with
 | some o=>if cmpC (addC c0 w.c) o<0 then (XM s.1 w.to (addC c0 w.c),s.2.1,pushQ s.2.2.1 ⟨w.to,addC c0 w.c⟩,s.2.2.2+1) else s
 | none=>(XM s.1 w.to (addC c0 w.c),s.2.1,pushQ s.2.2.1 ⟨w.to,addC c0 w.c⟩,s.2.2.2+1)
theorem Kg (c0:Cst):∀ (L:List Way) (o:List (Pla × Cst)) (d:List (Pla × Int)) (q:List Stq) (g g':Nat),
 (L.foldl (stepR c0) (o,d,q,g)).1=(L.foldl (stepR c0) (o,d,q,g')).1∧(L.foldl (stepR c0) (o,d,q,g)).2.1=(L.foldl (stepR c0) (o,d,q,g')).2.1∧(L.foldl (stepR c0) (o,d,q,g)).2.2.1=(L.foldl (stepR c0) (o,d,q,g')).2.2.1
 | [],o,d,q,g,g'=>⟨rfl,rfl,rfl⟩
 | w :: L,o,d,q,g,g'=>by
  rw [List.foldl_cons,List.foldl_cons]
  cases h:QE o w.to with
  | none=>simp only [stepR,h]; exact Kg c0 L _ _ _ _ _
  | some x =>
   by_cases c:cmpC (addC c0 w.c) x<0
   · simp only [stepR,h,if_pos c]; exact Kg c0 L _ _ _ _ _
   · simp only [stepR,h,if_neg c]; exact Kg c0 L _ _ _ _ _
def RInv (a:Atl) (m:Nat) (p:Pla) (c0:Cst) (d:List (Pla × Int)) (ql:Nat) (s:RS):Prop:=SInv a (m+1) s.1 s.2.2.1∧Near s.1 p c0∧s.2.1=d∧s.2.2.1.length≤ql
theorem mem_pushQ {l:List Stq} {x y:Stq} (h:y ∈ pushQ l x):y=x ∨ y ∈ l:=List.mem_cons.1 ((QaZ (l:=l) (x:=x)).mem_iff.1 h)
theorem pushQ_len {l:List Stq} {x:Stq}:(pushQ l x).length=l.length+1:=by rw [(QaZ (l:=l) (x:=x)).length_eq]; rfl
theorem step_inv {a:Atl} {m:Nat} {p:Pla} {c0:Cst} {d:List (Pla × Int)} {ql:Nat} (ha:AtlOk a) (hp:PlaOk a p) (hc:CB m c0) {s:RS} (h:RInv a m p c0 d ql s) {w:Way} (hw:w ∈ XD a p):RInv a m p c0 d (ql+1) (stepR c0 s w):=by
 obtain ⟨h1,h2,h3,h4⟩:=h
 have go:(∀ o,QE s.1 w.to=some o→(addC c0 w.c).ticks≤o.ticks)→RInv a m p c0 d (ql+1) (XM s.1 w.to (addC c0 w.c),s.2.1,pushQ s.2.2.1 ⟨w.to,addC c0 w.c⟩,s.2.2.2+1):=fun hlt=>by
  obtain ⟨k1,k2⟩:=h1.put (q':=pushQ s.2.2.1 ⟨w.to,addC c0 w.c⟩) ha hp hw hc h2 hlt (fun x hx=>mem_pushQ hx)
  exact ⟨k1,k2,h3,by change (pushQ _ _).length≤_; rw [pushQ_len]; omega⟩
 unfold stepR
 cases e:QE s.1 w.to with
 | none=>exact go (fun o ho=>by rw [e] at ho; cases ho)
 | some x =>
  by_cases c:cmpC (addC c0 w.c) x<0
  · simp only [if_pos c]
    exact go (fun o ho=>by rw [e] at ho; simp only [Option.some.injEq] at ho; subst ho; exact cmp_le c)
  · simp only [if_neg c]
    exact ⟨h1,h2,h3,by omega⟩
theorem Qcn {a:Atl} {m:Nat} {p:Pla} {c0:Cst} {d:List (Pla × Int)} (ha:AtlOk a) (hp:PlaOk a p) (hc:CB m c0):∀ {L:List Way} {s:RS} {ql:Nat},(∀ w ∈ L,w ∈ XD a p)→RInv a m p c0 d ql s→RInv a m p c0 d (ql+L.length) (L.foldl (stepR c0) s)
 | [],s,ql,_,h=>h
 | w :: L,s,ql,hw,h=>by
  rw [List.foldl_cons,List.length_cons,show ql+(L.length+1)=(ql+1)+L.length by omega]
  exact Qcn ha hp hc (fun x hx=>hw x (List.mem_cons_of_mem _ hx)) (step_inv ha hp hc h (hw w List.mem_cons_self))
structure DInv (a:Atl) (d:List (Pla × Int)):Prop where
 nd:(d.map Prod.fst).Nodup
 on:∀ e ∈ d,e.2=1
 ok:∀ e ∈ d,PlaOk a e.1
theorem DInv.len {a:Atl} {d:List (Pla × Int)} (ha:AtlOk a) (h:DInv a d):d.length≤nP a:=by
 have:=Qba ha h.nd (fun p hp=>by obtain ⟨e,he,rfl⟩:=List.mem_map.1 hp; exact h.ok e he)
 simpa using this
theorem DInv.add {a:Atl} {d:List (Pla × Int)} (h:DInv a d) {p:Pla} (hp:PlaOk a p) (hn:QJ d p=false):DInv a (d++[(p,1)]):=by
 refine ⟨?_,?_,?_⟩
 · rw [List.map_append,List.nodup_append]
   refine ⟨h.nd,by simp,fun x hx y hy e=>?_⟩
   simp only [List.map_cons,List.map_nil,List.mem_singleton] at hy
   subst hy; subst e
   have:=plHas_iff.2 hx
   rw [hn] at this; cases this
 · intro e he
   rcases List.mem_append.1 he with he | he
   · exact h.on e he
   · rw [List.mem_singleton] at he; subst he; rfl
 · intro e he
   rcases List.mem_append.1 he with he | he
   · exact h.ok e he
   · rw [List.mem_singleton] at he; subst he; exact hp
theorem reach_go {a:Atl} (ha:AtlOk a):∀ (n:Nat) (out:List (Pla × Cst)) (q:List Stq) (d:List (Pla × Int)),(nP a - d.length)*61+q.length≤n→SInv a d.length out q→q.length≤1+60*d.length→DInv a d →
 ∃ o,SInv a (nP a) o []∧∀ E,Qr Try.prog 235 (.rmap (Qe o)) E→Qao E a out q d:=by
 have hN:=QaL ha
 intro n
 induction n with
 | zero =>
  intro out q d hn hi hq hd
  have hl:q.length=0:=by omega
  exact ⟨out,hi.mono (hd.len ha) (fun x hx=>by cases hx),fun E hE=>f235W0 a out q d hE fun g5=>⟨fun c=>by omega,fun _=>rfl⟩⟩
 | succ n ih =>
  intro out q d hn hi hq hd
  by_cases hl:q.length=0
  · exact ⟨out,hi.mono (hd.len ha) (fun x hx=>by cases hx),fun E hE=>f235W0 a out q d hE fun g5=>⟨fun c=>by omega,fun _=>rfl⟩⟩
  have hdl:=hd.len ha
  have hpm:=pop_perm (l:=q) (by omega)
  have htq:popT q ∈ q:=hpm.mem_iff.1 List.mem_cons_self
  have hrq:∀ x ∈ popR q,x ∈ q:=fun x hx=>hpm.mem_iff.1 (List.mem_cons_of_mem _ hx)
  have hrl:(popR q).length+1=q.length:=by have:=hpm.length_eq; simpa using this
  have hin:PopIn q:=⟨fun x hx=>(hi.qu x hx).1.ok (by omega),by omega,by omega⟩
  obtain ⟨tc,cq,tg,tle⟩:=hi.qu _ htq
  have tok:=(hi.ok _ _ tg).1
  cases hh:QJ d (popT q).p with
  | true =>
   obtain ⟨i,e,he⟩:=Wc hh
   have he1:e.2=1:=hd.on e (List.mem_of_getElem? he.1)
   obtain ⟨o,o1,o2⟩:=ih out (popR q) d (by omega) (hi.mono (Nat.le_refl _) hrq) (by omega) hd
   refine ⟨o,o1,fun E hE=>f235W0 a out q d hE fun g5=>⟨fun _=>⟨hin,fun _=>⟨i,trivial,e,he,fun _=>o2 E hE,fun c=>absurd he1 c⟩,fun c=>by rw [hh] at c; cases c⟩,fun c=>absurd (by omega) c⟩⟩
  | false =>
   have hd2:=hd.add tok hh
   have hd2l:(d++[((popT q).p,(1:Int))]).length=d.length+1:=by simp
   have hdl2:=hd2.len ha
   have hW:=waysK_len ha tok
   have r0:∀ g,RInv a d.length (popT q).p (popT q).c (d++[((popT q).p,1)]) (popR q).length (out,d++[((popT q).p,1)],popR q,g):=fun g=>⟨hi.mono (Nat.le_succ _) hrq,⟨cq,tg,tle⟩,rfl,Nat.le_refl _⟩
   obtain ⟨i1,i2,i3,i4⟩:=Qcn ha tok tc (fun w hw=>hw) (r0 0)
   generalize hr:(XD a (popT q).p).foldl (stepR (popT q).c) (out,d++[((popT q).p,1)],popR q,0)=r at i1 i2 i3 i4
   obtain ⟨o,o1,o2⟩:=ih r.1 r.2.2.1 r.2.1 (by rw [i3,hd2l]; omega) (by rw [i3,hd2l]; exact i1) (by rw [i3,hd2l]; omega) (by rw [i3]; exact hd2)
   refine ⟨o,o1,fun E hE=>f235W0 a out q d hE fun g5=>⟨fun _=>⟨hin,fun c=>(by rw [hh] at c; cases c),fun _=>?_⟩,fun c=>absurd (by omega) c⟩⟩
   refine f235Rr0 a _ _ _ _ _ _ hE (stepR (popT q).c) ⟨⟨ha,tok⟩,fun i x s hx hs=>?_,fun s hs=>?_⟩
   · have hxm:=List.mem_of_getElem? hx
     have wk:=Ym ha tok hxm
     obtain ⟨j1,j2,j3,j4⟩:=Qcn ha tok tc (L:=(XD a (popT q).p).take i) (fun w hw=>List.mem_of_mem_take hw) (r0 g5)
     rw [← hs] at j1 j2 j3 j4
     have hlt:((XD a (popT q).p).take i).length≤60:=by rw [List.length_take]; omega
     obtain ⟨t1,t2,t3,t4⟩:=tc
     have w1:=wk.t0; have w2:=wk.t1; have w3:=wk.lg
     have cok:XZ (addC (popT q).c x.c):=by refine ⟨?_,?_,?_,?_⟩ <;> simp only [addC] <;> omega
     have pin:QbF s.2.2.1 ⟨x.to,addC (popT q).c x.c⟩:=⟨fun y hy=>(j1.qu y hy).1.ok (by omega),cok,by omega⟩
     refine ⟨by omega,by omega,fun hg=>?_,fun hg=>?_⟩
     · obtain ⟨k,e,he⟩:=Wc hg
       have ge:=Wr he
       refine ⟨k,trivial,e,he,⟨cok,(j1.ok _ _ ge).2.ok (by omega)⟩,fun c=>⟨k,trivial,e,he,pin,?_⟩,fun c=>?_⟩
       · rw [put_at he]
         have c:cmpC (addC (popT q).c x.c) e.2<0:=c
         simp only [stepR,ge,if_pos c]; rfl
       · have c:¬ cmpC (addC (popT q).c x.c) e.2<0:=c
         simp only [stepR,ge,if_neg c]
     · refine ⟨pin,?_⟩
       rw [QbR hg]
       simp only [stepR,Yu hg]; rfl
   · have sg:=Kg (popT q).c (XD a (popT q).p) out (d++[((popT q).p,1)]) (popR q) g5 0
     rw [← hs,hr] at sg
     rw [sg.1,sg.2.1,sg.2.2]
     exact o2 E hE
theorem QbQ {a:Atl} (h:AtlOk a∧PlaOk a (Xh a)):∃ o,SInv a (nP a) o []∧Pure Try.prog 235 [.agg [.rsl (rowB a.m.park) 0 a.m.park.length,.rsl (Qb a.m.roads) 0 a.m.roads.length,.int .i64 a.l.hgt,.int .i64 a.l.wgt,.int .i64 a.l.fr,.int .i64 a.l.ready,.int .i64 a.l.drive,.int .i64 a.l.rest]] (.rmap (Qe o)):=by
 obtain ⟨ha,hb⟩:=h
 have g0:∀ p c,QE [(Xh a,(⟨0,0⟩:Cst))] p=some c→p=Xh a∧c=⟨0,0⟩:=by
  intro p c hp
  simp only [QE,Xn] at hp
  split at hp
  · rename_i e; exact ⟨e,(Option.some.inj hp).symm⟩
  · cases hp
 have g1:QE [(Xh a,(⟨0,0⟩:Cst))] (Xh a)=some ⟨0,0⟩:=by simp only [QE,Xn,if_true]
 have c0:CB 0 ⟨0,0⟩:=⟨by decide,by decide,by decide,by decide⟩
 have si:SInv a 0 [(Xh a,⟨0,0⟩)] [⟨Xh a,⟨0,0⟩⟩]:=by
  refine ⟨by simp,fun p c hp=>?_,fun x hx=>?_,⟨_,g1⟩,fun p c hp hn=>absurd (g0 p c hp).1 hn⟩
  · obtain ⟨e1,e2⟩:=g0 p c hp
    subst e1; subst e2
    exact ⟨hb,c0⟩
  · rw [List.mem_singleton] at hx; subst hx
    exact ⟨c0,_,g1,Int.le_refl _⟩
 obtain ⟨o,o1,o2⟩:=reach_go ha _ [(Xh a,⟨0,0⟩)] [⟨Xh a,⟨0,0⟩⟩] [] (Nat.le_refl _) si (by simp) ⟨by simp,fun e he=>by simp at he,fun e he=>by simp at he⟩
 exact ⟨o,o1,Qt Try.func235 f235b fun E hE=>f235W a hE ⟨fun c=>by simp [QJ] at c,fun _=>o2 E hE⟩⟩
/-- The places that the search finds. -/
noncomputable def reachR (a:Atl):List (Pla × Cst):=@dite _ (AtlOk a∧PlaOk a (Xh a)) (Classical.propDecidable _) (fun h=>Classical.choose (QbQ h)) (fun _=>[])
theorem yl {a:Atl} (h:AtlOk a∧PlaOk a (Xh a)):SInv a (nP a) (reachR a) []:=by
 unfold reachR; rw [dif_pos h]; exact (Classical.choose_spec (QbQ h)).1
theorem reachR_ok {a:Atl} (h:AtlOk a∧PlaOk a (Xh a)):Pure Try.prog 235 [.agg [.rsl (rowB a.m.park) 0 a.m.park.length,.rsl (Qb a.m.roads) 0 a.m.roads.length,.int .i64 a.l.hgt,.int .i64 a.l.wgt,.int .i64 a.l.fr,.int .i64 a.l.ready,.int .i64 a.l.drive,.int .i64 a.l.rest]] (.rmap (Qe (reachR a))):=by
 unfold reachR; rw [dif_pos h]; exact (Classical.choose_spec (QbQ h)).2
end Go.Proofs.Ytemklbioijmjiaa
namespace Go.Proofs.Ytemklbioijmjiaa
open Go Ax
open Go.Proofs
theorem f234b:Try.f234.body=some (Qf Try.prog 234):=by kernel_rfl
theorem u234 {a c k:List AV} {r:AV} (h:Pure Try.prog 234 (a++c++k) r):Qc Try.prog (.clos 234 a k) c r:=Qk Try.func234 (by kernel_rfl) f234b h
def f234K0 (P:Program):List Item:=kAt 400 [.code (Qf P 234)] [.stop]
noncomputable def f234S0 (a:Atl) (to:Int) (is:Bool) (v1_0:Int) (v1_1:Int) (v2:List Nat):St:=⟨[J,.int .i64 to,J,J,.ptr 1 0 0,.bool is,J,J,J,J,.mp 2 0 true,J,J,J,J,J,J,J,J,J,J,J,J,J,J,J,J,J,J,J,J,J,J],[⟨true,0,1,true,[.rsl (rowB a.m.park) 0 a.m.park.length,.rsl (Qb a.m.roads) 0 a.m.roads.length,.int .i64 a.l.hgt,.int .i64 a.l.wgt,.int .i64 a.l.fr,.int .i64 a.l.ready,.int .i64 a.l.drive,.int .i64 a.l.rest],false⟩,⟨true,0,1,true,[.int .i64 v1_0,.int .i64 v1_1],false⟩,⟨true,0,0,false,(itA (.rmap (Qe (reachR a))) (Qe (reachR a)).length v2),false⟩]⟩
def yT (E:Env) (a:Atl) (to:Int) (is:Bool) (v1_0:Int) (v1_1:Int) (v2:List Nat):Prop:=G Try.prog E (f234K0 Try.prog) (f234S0 a to is v1_0 v1_1 v2 )
def f234G0n (E:Env) (a:Atl) (to:Int) (is:Bool) (v1_0:Int) (v1_1:Int) (v2:List Nat) (s:Nat):Prop:=G Try.prog E (yZ (f234K0 Try.prog)) ⟨([J,.int .i64 to,J,J,.ptr 1 0 0,.bool is,J,J,J,J,.mp 2 0 true,.tup [.bool true,J,J]]++Js 21),[⟨true,0,1,true,[.rsl (rowB a.m.park) 0 a.m.park.length,.rsl (Qb a.m.roads) 0 a.m.roads.length,.int .i64 a.l.hgt,.int .i64 a.l.wgt,.int .i64 a.l.fr,.int .i64 a.l.ready,.int .i64 a.l.drive,.int .i64 a.l.rest],false⟩,⟨true,0,1,true,[.int .i64 v1_0,.int .i64 v1_1],false⟩,⟨true,0,0,false,(itA (.rmap (Qe (reachR a))) (Qe (reachR a)).length (v2++[s])),false⟩]⟩
def f234G0x (E:Env) (a:Atl) (to:Int) (is:Bool) (v1_0:Int) (v1_1:Int) (v2:List Nat):Prop:=G Try.prog E (yZ (f234K0 Try.prog)) ⟨([J,.int .i64 to,J,J,.ptr 1 0 0,.bool is,J,J,J,J,.mp 2 0 true,.tup [.bool false]]++Js 21),[⟨true,0,1,true,[.rsl (rowB a.m.park) 0 a.m.park.length,.rsl (Qb a.m.roads) 0 a.m.roads.length,.int .i64 a.l.hgt,.int .i64 a.l.wgt,.int .i64 a.l.fr,.int .i64 a.l.ready,.int .i64 a.l.drive,.int .i64 a.l.rest],false⟩,⟨true,0,1,true,[.int .i64 v1_0,.int .i64 v1_1],false⟩,⟨true,0,0,false,(itA (.rmap (Qe (reachR a))) (Qe (reachR a)).length v2),false⟩]⟩
theorem f234W (a:Atl) (to:Int) {E:Env} {rv:AV} (hE:Qr Try.prog 234 rv E)
 (h:((AtlOk a∧PlaOk a (Xh a))∧yT E a to false 0 0 ([]:List Nat))):G Try.prog E [.code (Qf Try.prog 234)] ⟨[.agg [.rsl (rowB a.m.park) 0 a.m.park.length,.rsl (Qb a.m.roads) 0 a.m.roads.length,.int .i64 a.l.hgt,.int .i64 a.l.wgt,.int .i64 a.l.fr,.int .i64 a.l.ready,.int .i64 a.l.drive,.int .i64 a.l.rest],.int .i64 to]++unds (Try.f234.ntmps - 2),[]⟩:=by
 obtain ⟨h1,h⟩:=h
 exact sQ [1,4,5,10] 3 [.v (.rmap (Qe (reachR a))),.stop] [Qc Try.prog (.clos 235 [] []) [.agg [.rsl (rowB a.m.park) 0 a.m.park.length,.rsl (Qb a.m.roads) 0 a.m.roads.length,.int .i64 a.l.hgt,.int .i64 a.l.wgt,.int .i64 a.l.fr,.int .i64 a.l.ready,.int .i64 a.l.drive,.int .i64 a.l.rest]] (.rmap (Qe (reachR a)))] hE ⟨(u235 (reachR_ok h1)),trivial⟩ h
theorem f234W0n (a:Atl) (to:Int) (is:Bool) (v1_0:Int) (v1_1:Int) (v2:List Nat) (s:Nat) {E:Env} {rv:AV} (hE:Qr Try.prog 234 rv E)
 (h:(∃ pe:(Pla × Cst),(reachR a)[s]?=some pe∧((pe.1.town=to→((is=false→yT E a to true pe.2.ticks pe.2.legs (v2++[s]))∧(is=true→((XZ pe.2∧XZ (⟨v1_0,v1_1⟩:Cst))∧(((cmpC pe.2 (⟨v1_0,v1_1⟩:Cst))<0→yT E a to true pe.2.ticks pe.2.legs (v2++[s]))∧(¬ ((cmpC pe.2 (⟨v1_0,v1_1⟩:Cst))<0)→yT E a to is v1_0 v1_1 (v2++[s])))))))∧(¬ (pe.1.town=to)→yT E a to is v1_0 v1_1 (v2++[s]))))):f234G0n E a to is v1_0 v1_1 v2 s:=by
 obtain ⟨pe,h1,h⟩:=h
 rcases bft (pe.1.town == to) with hc0 | hc0
 · have h:=h.1 (eq_of_beq hc0)
   rcases bft (!is) with hc1 | hc1
   · have h:=h.1 (bnT hc1)
     exact sQ [1,4,5,10] 3 [.b true,.ment s (.agg [.int .i64 pe.1.town,.int .i64 pe.1.used]) (.agg [.int .i64 pe.2.ticks,.int .i64 pe.2.legs]),.b true,.b true,.b true,.stop] [true=true,(itA (.rmap (Qe (reachR a))) (Qe (reachR a)).length (v2++[s])).getLast?=some (.int .i64 s),(itA (.rmap (Qe (reachR a))) (Qe (reachR a)).length (v2++[s]))[1]?=some (.int .i64 (Qe (reachR a)).length),2<(itA (.rmap (Qe (reachR a))) (Qe (reachR a)).length (v2++[s])).length,(Qe (reachR a))[s]?=some (.clos 0 [.agg [.int .i64 pe.1.town,.int .i64 pe.1.used]] [.agg [.int .i64 pe.2.ticks,.int .i64 pe.2.legs]]),2≤2,2≤2,(pe.1.town == to)=true,(!is)=true,true=true,2≤2] hE ⟨rfl,(yu),rfl,(Qbh),(VS QaB h1),(by decide),(by decide),hc0,hc1,rfl,(by decide),trivial⟩ h
   · have h:=h.2 (bnF hc1)
     obtain ⟨h2,h⟩:=h
     rcases bft (decide ((cmpC pe.2 (⟨v1_0,v1_1⟩:Cst))<0)) with hc2 | hc2
     · have h:=h.1 (odt hc2)
       exact sQ [1,4,5,10] 3 [.b true,.ment s (.agg [.int .i64 pe.1.town,.int .i64 pe.1.used]) (.agg [.int .i64 pe.2.ticks,.int .i64 pe.2.legs]),.b true,.b false,.v (.int .i64 (cmpC pe.2 (⟨v1_0,v1_1⟩:Cst))),.b true,.stop] [true=true,(itA (.rmap (Qe (reachR a))) (Qe (reachR a)).length (v2++[s])).getLast?=some (.int .i64 s),(itA (.rmap (Qe (reachR a))) (Qe (reachR a)).length (v2++[s]))[1]?=some (.int .i64 (Qe (reachR a)).length),2<(itA (.rmap (Qe (reachR a))) (Qe (reachR a)).length (v2++[s])).length,(Qe (reachR a))[s]?=some (.clos 0 [.agg [.int .i64 pe.1.town,.int .i64 pe.1.used]] [.agg [.int .i64 pe.2.ticks,.int .i64 pe.2.legs]]),2≤2,2≤2,(pe.1.town == to)=true,(!is)=false,Qc Try.prog (.clos 236 [] []) [.agg [.int .i64 pe.2.ticks,.int .i64 pe.2.legs],.agg [.int .i64 v1_0,.int .i64 v1_1]] (.int .i64 (cmpC pe.2 (⟨v1_0,v1_1⟩:Cst))),(decide ((cmpC pe.2 (⟨v1_0,v1_1⟩:Cst))<0))=true,2≤2] hE ⟨rfl,(yu),rfl,(Qbh),(VS QaB h1),(by decide),(by decide),hc0,hc1,(u236 (YJ pe.2 (⟨v1_0,v1_1⟩:Cst) h2)),hc2,(by decide),trivial⟩ h
     · have h:=h.2 (odf hc2)
       exact sQ [1,4,5,10] 3 [.b true,.ment s (.agg [.int .i64 pe.1.town,.int .i64 pe.1.used]) (.agg [.int .i64 pe.2.ticks,.int .i64 pe.2.legs]),.b true,.b false,.v (.int .i64 (cmpC pe.2 (⟨v1_0,v1_1⟩:Cst))),.b false,.stop] [true=true,(itA (.rmap (Qe (reachR a))) (Qe (reachR a)).length (v2++[s])).getLast?=some (.int .i64 s),(itA (.rmap (Qe (reachR a))) (Qe (reachR a)).length (v2++[s]))[1]?=some (.int .i64 (Qe (reachR a)).length),2<(itA (.rmap (Qe (reachR a))) (Qe (reachR a)).length (v2++[s])).length,(Qe (reachR a))[s]?=some (.clos 0 [.agg [.int .i64 pe.1.town,.int .i64 pe.1.used]] [.agg [.int .i64 pe.2.ticks,.int .i64 pe.2.legs]]),2≤2,2≤2,(pe.1.town == to)=true,(!is)=false,Qc Try.prog (.clos 236 [] []) [.agg [.int .i64 pe.2.ticks,.int .i64 pe.2.legs],.agg [.int .i64 v1_0,.int .i64 v1_1]] (.int .i64 (cmpC pe.2 (⟨v1_0,v1_1⟩:Cst))),(decide ((cmpC pe.2 (⟨v1_0,v1_1⟩:Cst))<0))=false] hE ⟨rfl,(yu),rfl,(Qbh),(VS QaB h1),(by decide),(by decide),hc0,hc1,(u236 (YJ pe.2 (⟨v1_0,v1_1⟩:Cst) h2)),hc2,trivial⟩ h
 · have h:=h.2 (ne_of_beq_false hc0)
   exact sQ [1,4,5,10] 3 [.b true,.ment s (.agg [.int .i64 pe.1.town,.int .i64 pe.1.used]) (.agg [.int .i64 pe.2.ticks,.int .i64 pe.2.legs]),.b false,.b false,.stop] [true=true,(itA (.rmap (Qe (reachR a))) (Qe (reachR a)).length (v2++[s])).getLast?=some (.int .i64 s),(itA (.rmap (Qe (reachR a))) (Qe (reachR a)).length (v2++[s]))[1]?=some (.int .i64 (Qe (reachR a)).length),2<(itA (.rmap (Qe (reachR a))) (Qe (reachR a)).length (v2++[s])).length,(Qe (reachR a))[s]?=some (.clos 0 [.agg [.int .i64 pe.1.town,.int .i64 pe.1.used]] [.agg [.int .i64 pe.2.ticks,.int .i64 pe.2.legs]]),2≤2,2≤2,(pe.1.town == to)=false,false=false] hE ⟨rfl,(yu),rfl,(Qbh),(VS QaB h1),(by decide),(by decide),hc0,rfl,trivial⟩ h
theorem f234W0x (a:Atl) (to:Int) (is:Bool) (v1_0:Int) (v1_1:Int) (v2:List Nat) {E:Env} {rv:AV} (hE:Qr Try.prog 234 rv E)
 (h:rv=(.tup [.agg [.int .i64 v1_0,.int .i64 v1_1],.bool is])):f234G0x E a to is v1_0 v1_1 v2:=by
 exact eL (.tup [.agg [.int .i64 v1_0,.int .i64 v1_1],.bool is]) [.b false] [false=false,2≤2] hE Try.func234 ⟨rfl,(by decide),trivial⟩ (by exact AvLe.of_eq (by rw [h]; try rfl))
theorem f234W0 (a:Atl) (to:Int) (is:Bool) (v1_0:Int) (v1_1:Int) (v2:List Nat) {E:Env} {rv:AV} (hE:Qr Try.prog 234 rv E)
 (h:(∀ s:Nat,s<(reachR a).length→s ∉ v2→f234G0n E a to is v1_0 v1_1 v2 s)∧((∀ s:Nat,s<(reachR a).length→s ∈ v2)→f234G0x E a to is v1_0 v1_1 v2)):yT E a to is v1_0 v1_1 v2:=by
 have hl:(Qe (reachR a)).length=(reachR a).length:=by exact QaX
 refine next_head (ki:=2) (n:=(Qe (reachR a)).length) (cells:=(Qe (reachR a))) (seen:=v2) hE.2.1 (it:=.tmp 10) (d:=11) (mref:=(.rmap (Qe (reachR a)))) (by kernel_rfl) (by rfl) (by rfl) (.inr rfl) rfl (fun s h1 h2=>?_) (fun h1=>?_)
 · exact h.1 s (by rw [← hl]; exact h1) h2
 · exact h.2 (fun s h2=>h1 s (by rw [hl]; exact h2))
def Vb (to:Int) (r:Bool × Cst) (e:Pla × Cst):Bool × Cst:=if e.1.town=to then (if r.1=false then (true,e.2) else if cmpC e.2 r.2<0 then (true,e.2) else r) else r
/-- The cheapest of the places in a town. -/
noncomputable def soonR (a:Atl) (to:Int):Bool × Cst:=(reachR a).foldl (Vb to) (false,⟨0,0⟩)
def Wd (L:List (Pla × Cst)) (to:Int) (r:Bool × Cst) (S:Nat→Prop):Prop :=
 (r.1=false→r.2=⟨0,0⟩∧∀ s,S s→∀ e,L[s]?=some e→e.1.town ≠ to) ∧
 (r.1=true→(∃ s e,S s∧L[s]?=some e∧e.1.town=to∧e.2=r.2)∧∀ s,S s→∀ e,L[s]?=some e→e.1.town=to→¬ cmpC e.2 r.2<0)
theorem cmp_trans {a b c:Cst} (h:cmpC a b<0) (h2:¬ cmpC c b<0):¬ cmpC c a<0:=by
 simp only [cmpC,orG] at *
 repeat' split at h
 all_goals (repeat' split at h2)
 all_goals (repeat' split)
 all_goals omega
theorem Qcw {a:Cst}:¬ cmpC a a<0:=by simp [cmpC,orG]
theorem cmp_eq {a b:Cst} (h:¬ cmpC a b<0) (h2:¬ cmpC b a<0):a=b:=by
 cases a; cases b
 simp only [cmpC,orG,Cst.mk.injEq] at *
 repeat' split at h
 all_goals (repeat' split at h2)
 all_goals omega
theorem best_step {L:List (Pla × Cst)} {to:Int} {r:Bool × Cst} {S:Nat→Prop} {s:Nat} {e:Pla × Cst} (h:Wd L to r S) (he:L[s]?=some e):Wd L to (Vb to r e) (fun x=>S x ∨ x=s):=by
 obtain ⟨h0,h1⟩:=h
 unfold Vb
 have same:∀ x e',x=s→L[x]?=some e'→e'=e:=fun x e' q q2=>by subst q; rw [he] at q2; exact (Option.some.inj q2).symm
 by_cases c:e.1.town=to
 · rw [if_pos c]
   cases hr:r.1 with
   | false =>
    rw [if_pos rfl]
    obtain ⟨g1,g2⟩:=h0 hr
    refine ⟨fun q=>(by cases q),fun _=>⟨⟨s,e,.inr rfl,he,c,rfl⟩,fun x hx e' q1 q2=>?_⟩⟩
    rcases hx with hx | hx
    · exact absurd q2 (g2 x hx e' q1)
    · rw [same x e' hx q1]; exact Qcw
   | true =>
    rw [if_neg (by simp)]
    obtain ⟨⟨s0,e0,g1,g2,g3,g4⟩,g5⟩:=h1 hr
    by_cases d:cmpC e.2 r.2<0
    · rw [if_pos d]
      refine ⟨fun q=>(by cases q),fun _=>⟨⟨s,e,.inr rfl,he,c,rfl⟩,fun x hx e' q1 q2=>?_⟩⟩
      rcases hx with hx | hx
      · exact cmp_trans d (g5 x hx e' q1 q2)
      · rw [same x e' hx q1]; exact Qcw
    · rw [if_neg d]
      refine ⟨fun q=>(by rw [hr] at q; cases q),fun _=>⟨⟨s0,e0,.inl g1,g2,g3,g4⟩,fun x hx e' q1 q2=>?_⟩⟩
      rcases hx with hx | hx
      · exact g5 x hx e' q1 q2
      · rw [same x e' hx q1]; exact d
 · rw [if_neg c]
   refine ⟨fun q=>⟨(h0 q).1,fun x hx e' q1 q2=>?_⟩,fun q=>?_⟩
   · rcases hx with hx | hx
     · exact (h0 q).2 x hx e' q1 q2
     · rw [same x e' hx q1] at q2; exact c q2
   · obtain ⟨⟨s0,e0,g1,g2,g3,g4⟩,g5⟩:=h1 q
     refine ⟨⟨s0,e0,.inl g1,g2,g3,g4⟩,fun x hx e' q1 q2=>?_⟩
     rcases hx with hx | hx
     · exact g5 x hx e' q1 q2
     · rw [same x e' hx q1] at q2; exact absurd q2 c
theorem Wd.congr {L:List (Pla × Cst)} {to:Int} {r:Bool × Cst} {S T:Nat→Prop} (h:Wd L to r S) (hs:∀ x,x<L.length→(S x ↔ T x)):Wd L to r T:=by
 have lt:∀ (x:Nat) (e:Pla × Cst),L[x]?=some e→x<L.length:=fun x e q=>(List.getElem?_eq_some_iff.1 q).1
 refine ⟨fun q=>⟨(h.1 q).1,fun x hx e' q1 q2=>(h.1 q).2 x ((hs x (lt x e' q1)).2 hx) e' q1 q2⟩,fun q=>?_⟩
 obtain ⟨⟨s0,e0,g1,g2,g3,g4⟩,g5⟩:=h.2 q
 exact ⟨⟨s0,e0,(hs _ (lt _ _ g2)).1 g1,g2,g3,g4⟩,fun x hx e' q1 q2=>g5 x ((hs x (lt x e' q1)).2 hx) e' q1 q2⟩
theorem Wd.uniq {L:List (Pla × Cst)} {to:Int} {r r':Bool × Cst} {S:Nat→Prop} (h:Wd L to r S) (h':Wd L to r' S):r=r':=by
 obtain ⟨a,b⟩:=r; obtain ⟨a',b'⟩:=r'
 cases a with
 | false =>
  cases a' with
  | false=>exact congrArg (Prod.mk false) ((h.1 rfl).1.trans (h'.1 rfl).1.symm)
  | true=>obtain ⟨⟨s0,e0,g1,g2,g3,g4⟩,g5⟩:=h'.2 rfl; exact absurd g3 ((h.1 rfl).2 s0 g1 e0 g2)
 | true =>
  obtain ⟨⟨s0,e0,g1,g2,g3,g4⟩,g5⟩:=h.2 rfl
  cases a' with
  | false=>exact absurd g3 ((h'.1 rfl).2 s0 g1 e0 g2)
  | true =>
   obtain ⟨⟨s1,e1,k1,k2,k3,k4⟩,k5⟩:=h'.2 rfl
   simp only at g4 k4 g5 k5
   subst g4; subst k4
   rw [cmp_eq (k5 s0 g1 e0 g2 g3) (g5 s1 k1 e1 k2 k3)]
theorem best_all (L:List (Pla × Cst)) (to:Int):∀ n,n≤L.length→Wd L to ((L.take n).foldl (Vb to) (false,⟨0,0⟩)) (fun x=>x<n)
 | 0,_=>⟨fun _=>⟨rfl,fun s h=>by omega⟩,fun h=>by cases h⟩
 | n+1,h=>by
  have ih:=best_all L to n (by omega)
  rw [List.take_succ_eq_append_getElem (by omega),List.foldl_append]
  exact (best_step ih (List.getElem?_eq_getElem (by omega))).congr (fun x _=>by omega)
theorem QaS (a:Atl) (to:Int):Wd (reachR a) to (soonR a to) (fun x=>x<(reachR a).length):=by
 have:=best_all (reachR a) to _ (Nat.le_refl _)
 rw [List.take_length] at this
 exact this
theorem Yp {a:Atl} (h:AtlOk a∧PlaOk a (Xh a)) {s:Nat} {e:Pla × Cst} (he:(reachR a)[s]?=some e):PlaOk a e.1∧XZ e.2:=by
 have hi:=yl h
 have:=hi.ok e.1 e.2 (Qcd hi.nd (List.mem_of_getElem? he))
 exact ⟨this.1,this.2.ok (by have:=QaL h.1; omega)⟩
theorem soon_go {a:Atl} (h:AtlOk a∧PlaOk a (Xh a)) (to:Int) {E:Env} (hE:Qr Try.prog 234 (.tup [.agg [.int .i64 (soonR a to).2.ticks,.int .i64 (soonR a to).2.legs],.bool (soonR a to).1]) E):∀ (d:Nat) (is:Bool) (b:Cst) (v:List Nat),(reachR a).length+1≤v.length+d→v.Nodup→(∀ x ∈ v,x<(reachR a).length)→Wd (reachR a) to (is,b) (· ∈ v)→yT E a to is b.ticks b.legs v
 | 0,is,b,v,hd,hn,hv,hb=>by have:=VH _ hn hv; omega
 | d+1,is,b,v,hd,hn,hv,hb=>by
  refine f234W0 a to is b.ticks b.legs v hE ⟨fun s hs hsv=>?_,fun hall=>?_⟩
  · have hg:(reachR a)[s]?=some (reachR a)[s]:=List.getElem?_eq_getElem hs
    generalize (reachR a)[s]=pe at hg
    have hs2:=(best_step hb hg).congr (T:=(· ∈ v++[s])) (fun x _=>by rw [List.mem_append,List.mem_singleton])
    have hn2:(v++[s]).Nodup:=by
     rw [List.nodup_append]
     exact ⟨hn,by simp,fun x hx y hy e=>by rw [List.mem_singleton] at hy; subst hy; subst e; exact hsv hx⟩
    have hv2:∀ x ∈ v++[s],x<(reachR a).length:=fun x hx=>by
     rcases List.mem_append.1 hx with hx | hx
     · exact hv x hx
     · rw [List.mem_singleton] at hx; subst hx; exact hs
    have hl2:(reachR a).length+1≤(v++[s]).length+d:=by rw [List.length_append,List.length_singleton]; omega
    have next:∀ r:Bool × Cst,Vb to (is,b) pe=r→yT E a to r.1 r.2.ticks r.2.legs (v++[s]):=fun r hr=>soon_go h to hE d r.1 r.2 _ hl2 hn2 hv2 (by rw [hr] at hs2; exact hs2)
    refine f234W0n a to is b.ticks b.legs v s hE ⟨pe,hg,fun c=>⟨fun q=>?_,fun q=>⟨⟨(Yp h hg).2,?_⟩,fun q2=>?_,fun q2=>?_⟩⟩,fun c=>?_⟩
    · exact next (true,pe.2) (by simp only [Vb,if_pos c,if_pos q])
    · obtain ⟨⟨s0,e0,g1,g2,g3,g4⟩,g5⟩:=hb.2 q
      have:=(Yp h g2).2
      rw [g4] at this; exact this
    · exact next (true,pe.2) (by simp only [Vb,if_pos c]; rw [if_neg (by rw [q]; simp),if_pos q2])
    · exact next (is,b) (by simp only [Vb,if_pos c]; rw [if_neg (by rw [q]; simp),if_neg q2])
    · exact next (is,b) (by simp only [Vb,if_neg c])
  · have hu:=Wd.uniq (hb.congr (T:=fun x=>x<(reachR a).length) (fun x hx=>⟨fun _=>hx,fun _=>hall x hx⟩)) (QaS a to)
    exact f234W0x a to is b.ticks b.legs v hE (by rw [← hu])
theorem soon_ok {a:Atl} (to:Int) (h:AtlOk a∧PlaOk a (Xh a)):Pure Try.prog 234 [.agg [.rsl (rowB a.m.park) 0 a.m.park.length,.rsl (Qb a.m.roads) 0 a.m.roads.length,.int .i64 a.l.hgt,.int .i64 a.l.wgt,.int .i64 a.l.fr,.int .i64 a.l.ready,.int .i64 a.l.drive,.int .i64 a.l.rest],.int .i64 to] (.tup [.agg [.int .i64 (soonR a to).2.ticks,.int .i64 (soonR a to).2.legs],.bool (soonR a to).1]) :=
 Qt Try.func234 f234b fun E hE=>f234W a to hE ⟨h,soon_go h to hE ((reachR a).length+1) false ⟨0,0⟩ [] (by simp) (by simp) (fun x hx=>by cases hx) ⟨fun _=>⟨rfl,fun s hs=>by cases hs⟩,fun q=>by cases q⟩⟩
end Go.Proofs.Ytemklbioijmjiaa
namespace Go.Proofs.Ytemklbioijmjiaa
open Go Ax
open Go.Proofs
def sortPl_ren:Go.Shelf.Ren:=⟨fun | 6=>237 | 15=>274 | 14=>273 | 28=>295 | 29=>296 | 20=>287 | 21=>288 | 22=>289 | 23=>290 | 24=>291 | 25=>292 | 26=>293 | 27=>294 | 46=>298 | 47=>299 | 48=>300 | 49=>301 | 50=>302 | 57=>303 | n=>n,fun | 22=>368 | 24=>370 | 25=>373 | 3=>3 | 39=>74 | 0=>0 | 53=>318 | 55=>321 | 4=>4 | 46=>429 | 45=>428 | 50=>295 | 5=>5 | 9=>9 | 66=>436 | 70=>440 | 76=>442 | 77=>443 | n=>n,fun | n=>n⟩
theorem sortPl:Go.Proofs.SlLaysF0.n6 Try.prog sortPl_ren:={
 mixed:=by kernel_rfl,
 f6:=⟨Try.f237.name,by decide,Try.func237.trans (congrArg some (by kernel_rfl))⟩,
 f14:=⟨Try.f273.name,by decide,Try.func273.trans (congrArg some (by kernel_rfl))⟩,
 f15:=Try.func274.trans (congrArg some (by kernel_rfl)),
 f20:=⟨Try.f287.name,by decide,Try.func287.trans (congrArg some (by kernel_rfl))⟩,
 f21:=⟨Try.f288.name,by decide,Try.func288.trans (congrArg some (by kernel_rfl))⟩,
 f22:=⟨Try.f289.name,by decide,Try.func289.trans (congrArg some (by kernel_rfl))⟩,
 f23:=⟨Try.f290.name,by decide,Try.func290.trans (congrArg some (by kernel_rfl))⟩,
 f24:=⟨Try.f291.name,by decide,Try.func291.trans (congrArg some (by kernel_rfl))⟩,
 f25:=⟨Try.f292.name,by decide,Try.func292.trans (congrArg some (by kernel_rfl))⟩,
 f26:=⟨Try.f293.name,by decide,Try.func293.trans (congrArg some (by kernel_rfl))⟩,
 f27:=⟨Try.f294.name,by decide,Try.func294.trans (congrArg some (by kernel_rfl))⟩,
 f28:=Try.func295.trans (congrArg some (by kernel_rfl)),
 f29:=Try.func296.trans (congrArg some (by kernel_rfl)),
 f46:=⟨Try.f298.name,by decide,Try.func298.trans (congrArg some (by kernel_rfl))⟩,
 f47:=Try.func299.trans (congrArg some (by kernel_rfl)),
 f48:=Try.func300.trans (congrArg some (by kernel_rfl)),
 f49:=⟨Try.f301.name,by decide,Try.func301.trans (congrArg some (by kernel_rfl))⟩,
 f50:=⟨Try.f302.name,by decide,Try.func302.trans (congrArg some (by kernel_rfl))⟩,
 f57:=⟨Try.f303.name,by decide,Try.func303.trans (congrArg some (by kernel_rfl))⟩,
 t0:=Try.underlying0,
 a0:=Try.isAgg0,
 z0:=Try.sizeOf0,
 v0:=Try.zeroValue0,
 t3:=Try.underlying3,
 a3:=Try.isAgg3,
 z3:=Try.sizeOf3,
 v3:=Try.zeroValue3,
 t4:=Try.underlying4,
 a4:=Try.isAgg4,
 z4:=Try.sizeOf4,
 v4:=Try.zeroValue4,
 t5:=Try.underlying5,
 a5:=Try.isAgg5,
 z5:=Try.sizeOf5,
 v5:=Try.zeroValue5,
 t9:=Try.underlying9,
 a9:=Try.isAgg9,
 z9:=Try.sizeOf9,
 v9:=Try.zeroValue9,
 t22:=Try.underlying368,
 a22:=Try.isAgg368,
 z22:=Try.sizeOf368,
 v22:=Try.zeroValue368,
 t25:=Try.underlying373,
 a25:=Try.isAgg373,
 z25:=Try.sizeOf373,
 v25:=Try.zeroValue373,
 t39:=Try.underlying74,
 a39:=Try.isAgg74,
 z39:=Try.sizeOf74,
 v39:=Try.zeroValue74,
 t45:=Try.underlying428,
 a45:=Try.isAgg428,
 z45:=Try.sizeOf428,
 v45:=Try.zeroValue428,
 t46:=Try.underlying429,
 a46:=Try.isAgg429,
 z46:=Try.sizeOf429,
 v46:=Try.zeroValue429,
 t50:=Try.underlying295,
 a50:=Try.isAgg295,
 z50:=Try.sizeOf295,
 v50:=Try.zeroValue295,
 t53:=Try.underlying318,
 a53:=Try.isAgg318,
 z53:=Try.sizeOf318,
 v53:=Try.zeroValue318,
 t55:=Try.underlying321,
 a55:=Try.isAgg321,
 z55:=Try.sizeOf321,
 v55:=Try.zeroValue321,
 t66:=Try.underlying436,
 a66:=Try.isAgg436,
 z66:=Try.sizeOf436,
 v66:=Try.zeroValue436,
 t70:=Try.underlying440,
 a70:=Try.isAgg440,
 z70:=Try.sizeOf440,
 v70:=Try.zeroValue440,
 t76:=Try.underlying442,
 a76:=Try.isAgg442,
 z76:=Try.sizeOf442,
 v76:=Try.zeroValue442,
 t77:=Try.underlying443,
 a77:=Try.isAgg443,
 z77:=Try.sizeOf443,
 v77:=Try.zeroValue443 }
theorem f238b:Try.f238.body=some (Qf Try.prog 238):=by kernel_rfl
theorem f238W (p:Pla) (q:Pla) (a:Atl) {E:Env} {rv:Int} (hE:Qr Try.prog 238 (.int .i64 rv) E)
 (h:(((QJ (reachR a) q)=true→(∃ mi:Nat,True∧(∃ me:(Pla × Cst),PlAt (reachR a) q mi me∧(((QJ (reachR a) p)=true→(∃ mi1:Nat,True∧(∃ me1:(Pla × Cst),PlAt (reachR a) p mi1 me1∧((XZ me.2∧XZ me1.2)∧rv=(cmpC me.2 me1.2)))))∧((QJ (reachR a) p)=false→((XZ me.2∧XZ (⟨0,0⟩:Cst))∧rv=(cmpC me.2 (⟨0,0⟩:Cst))))))))∧((QJ (reachR a) q)=false→(((QJ (reachR a) p)=true→(∃ mi:Nat,True∧(∃ me:(Pla × Cst),PlAt (reachR a) p mi me∧((XZ (⟨0,0⟩:Cst)∧XZ me.2)∧rv=(cmpC (⟨0,0⟩:Cst) me.2)))))∧((QJ (reachR a) p)=false→((XZ (⟨0,0⟩:Cst)∧XZ (⟨0,0⟩:Cst))∧rv=(cmpC (⟨0,0⟩:Cst) (⟨0,0⟩:Cst)))))))):G Try.prog E [.code (Qf Try.prog 238)] ⟨[.agg [.int .i64 p.town,.int .i64 p.used],.agg [.int .i64 q.town,.int .i64 q.used],.rptr [.rmap (Qe (reachR a))] 0]++unds (Try.f238.ntmps - 3),[]⟩:=by
 rcases bft (QJ (reachR a) q) with hc0 | hc0
 · have h:=h.1 hc0
   obtain ⟨mi,h1,h⟩:=h
   obtain ⟨me,h2,h⟩:=h
   rcases bft (QJ (reachR a) p) with hc1 | hc1
   · have h:=h.1 hc1
     obtain ⟨mi1,h3,h⟩:=h
     obtain ⟨me1,h4,h⟩:=h
     obtain ⟨h5,h⟩:=h
     exact eL (.int .i64 (cmpC me.2 me1.2)) [.mfound mi (.agg [.int .i64 me.2.ticks,.int .i64 me.2.legs]),.mfound mi1 (.agg [.int .i64 me1.2.ticks,.int .i64 me1.2.legs]),.v (.int .i64 (cmpC me.2 me1.2))] [XY Try.prog 370 (.agg [.int .i64 q.town,.int .i64 q.used]) (Qe (reachR a)) mi (.agg [.int .i64 me.2.ticks,.int .i64 me.2.legs]),XY Try.prog 370 (.agg [.int .i64 p.town,.int .i64 p.used]) (Qe (reachR a)) mi1 (.agg [.int .i64 me1.2.ticks,.int .i64 me1.2.legs]),Qc Try.prog (.clos 236 [] []) [.agg [.int .i64 me.2.ticks,.int .i64 me.2.legs],.agg [.int .i64 me1.2.ticks,.int .i64 me1.2.legs]] (.int .i64 (cmpC me.2 me1.2))] hE Try.func238 ⟨(Vo h2),(Vo h4),(u236 (YJ me.2 me1.2 h5)),trivial⟩ (by exact AvLe.of_eq (by rw [h]; try rfl))
   · have h:=h.2 hc1
     obtain ⟨h3,h⟩:=h
     exact eL (.int .i64 (cmpC me.2 (⟨0,0⟩:Cst))) [.mfound mi (.agg [.int .i64 me.2.ticks,.int .i64 me.2.legs]),.mnone,.v (.int .i64 (cmpC me.2 (⟨0,0⟩:Cst)))] [XY Try.prog 370 (.agg [.int .i64 q.town,.int .i64 q.used]) (Qe (reachR a)) mi (.agg [.int .i64 me.2.ticks,.int .i64 me.2.legs]),Xw Try.prog 370 (.agg [.int .i64 p.town,.int .i64 p.used]) (Qe (reachR a)),Qc Try.prog (.clos 236 [] []) [.agg [.int .i64 me.2.ticks,.int .i64 me.2.legs],.agg [.int .i64 0,.int .i64 0]] (.int .i64 (cmpC me.2 (⟨0,0⟩:Cst)))] hE Try.func238 ⟨(Vo h2),(YR hc1),(u236 (YJ me.2 (⟨0,0⟩:Cst) h3)),trivial⟩ (by exact AvLe.of_eq (by rw [h]; try rfl))
 · have h:=h.2 hc0
   rcases bft (QJ (reachR a) p) with hc1 | hc1
   · have h:=h.1 hc1
     obtain ⟨mi,h1,h⟩:=h
     obtain ⟨me,h2,h⟩:=h
     obtain ⟨h3,h⟩:=h
     exact eL (.int .i64 (cmpC (⟨0,0⟩:Cst) me.2)) [.mnone,.mfound mi (.agg [.int .i64 me.2.ticks,.int .i64 me.2.legs]),.v (.int .i64 (cmpC (⟨0,0⟩:Cst) me.2))] [Xw Try.prog 370 (.agg [.int .i64 q.town,.int .i64 q.used]) (Qe (reachR a)),XY Try.prog 370 (.agg [.int .i64 p.town,.int .i64 p.used]) (Qe (reachR a)) mi (.agg [.int .i64 me.2.ticks,.int .i64 me.2.legs]),Qc Try.prog (.clos 236 [] []) [.agg [.int .i64 0,.int .i64 0],.agg [.int .i64 me.2.ticks,.int .i64 me.2.legs]] (.int .i64 (cmpC (⟨0,0⟩:Cst) me.2))] hE Try.func238 ⟨(YR hc0),(Vo h2),(u236 (YJ (⟨0,0⟩:Cst) me.2 h3)),trivial⟩ (by exact AvLe.of_eq (by rw [h]; try rfl))
   · have h:=h.2 hc1
     obtain ⟨h1,h⟩:=h
     exact eL (.int .i64 (cmpC (⟨0,0⟩:Cst) (⟨0,0⟩:Cst))) [.mnone,.mnone,.v (.int .i64 (cmpC (⟨0,0⟩:Cst) (⟨0,0⟩:Cst)))] [Xw Try.prog 370 (.agg [.int .i64 q.town,.int .i64 q.used]) (Qe (reachR a)),Xw Try.prog 370 (.agg [.int .i64 p.town,.int .i64 p.used]) (Qe (reachR a)),Qc Try.prog (.clos 236 [] []) [.agg [.int .i64 0,.int .i64 0],.agg [.int .i64 0,.int .i64 0]] (.int .i64 (cmpC (⟨0,0⟩:Cst) (⟨0,0⟩:Cst)))] hE Try.func238 ⟨(YR hc0),(YR hc1),(u236 (YJ (⟨0,0⟩:Cst) (⟨0,0⟩:Cst) h1)),trivial⟩ (by exact AvLe.of_eq (by rw [h]; try rfl))
/-- What a place costs. -/
noncomputable def costAt (a:Atl) (p:Pla):Cst:=match QE (reachR a) p with
 | some c=>c
 | none=>⟨0,0⟩
noncomputable def cmpAt (a:Atl) (p q:Pla):Int:=cmpC (costAt a q) (costAt a p)
theorem YI {a:Atl} {p:Pla} {c:Cst} (h:QE (reachR a) p=some c):costAt a p=c:=by simp only [costAt,h]
theorem VX {a:Atl} {p:Pla} (h:QE (reachR a) p=none):costAt a p=⟨0,0⟩:=by simp only [costAt,h]
theorem c00:XZ ⟨0,0⟩:=⟨by decide,by decide,by decide,by decide⟩
theorem sortc_ok {a:Atl} (h:AtlOk a∧PlaOk a (Xh a)) (p q:Pla):Pure Try.prog 238 [.agg (cPla p),.agg (cPla q),.rptr [.rmap (Qe (reachR a))] 0] (.int .i64 (cmpAt a p q)):=by
 refine Qt Try.func238 f238b fun E hE=>f238W p q a (rv:=cmpAt a p q) hE ⟨fun c=>?_,fun c=>?_⟩
 · obtain ⟨i,e,he⟩:=Wc c
   have k1:=(Yp h he.1).2
   refine ⟨i,trivial,e,he,fun d=>?_,fun d=>?_⟩
   · obtain ⟨j,e2,he2⟩:=Wc d
     exact ⟨j,trivial,e2,he2,⟨k1,(Yp h he2.1).2⟩,by rw [cmpAt,YI (Wr he),YI (Wr he2)]⟩
   · exact ⟨⟨k1,c00⟩,by rw [cmpAt,YI (Wr he),VX (Yu d)]⟩
 · refine ⟨fun d=>?_,fun d=>?_⟩
   · obtain ⟨j,e2,he2⟩:=Wc d
     exact ⟨j,trivial,e2,he2,⟨c00,(Yp h he2.1).2⟩,by rw [cmpAt,VX (Yu c),YI (Wr he2)]⟩
   · exact ⟨⟨c00,c00⟩,by rw [cmpAt,VX (Yu c),VX (Yu d)]⟩
instance:Inhabited Pla:=⟨⟨0,0⟩⟩
def ciP (p:Pla):List Int:=[p.town,p.used]
theorem cmp_lt {c d:Cst}:cmpC c d<0 ↔ (c.ticks<d.ticks ∨ (c.ticks=d.ticks∧c.legs<d.legs)):=by
 simp only [cmpC,orG]
 split
 · omega
 · split <;> omega
theorem swoP (a:Atl):Sort.SWO (ltOf (cmpAt a)) where
 irrefl x:=by simp only [ltOf,cmpAt,decide_eq_false_iff_not,cmp_lt]; omega
 trans x y z h1 h2:=by simp only [ltOf,cmpAt,decide_eq_true_eq,cmp_lt] at *; omega
 ntrans x y z h1 h2:=by simp only [ltOf,cmpAt,decide_eq_false_iff_not,cmp_lt] at *; omega
/-- Places,sorted by falling cost. -/
noncomputable def sortR (a:Atl) (l:List Pla):List Pla:=(Sort.pdq (ltOf (cmpAt a)) l.toArray 0 l.toArray.size (Lib.bitLen l.toArray.size) true true).toList
theorem yb {a:Atl} {l:List Pla}:(sortR a l).Perm l:=by
 have h:=(Sort.pdq_sorts (ltOf (cmpAt a)) (swoP a) l.toArray 0 l.toArray.size (Lib.bitLen l.toArray.size) true true (Nat.zero_le _) (Nat.le_refl _) (Or.inl rfl)).1
 obtain ⟨h1,h2,h3⟩:=h
 rw [Array.extract_eq_self_of_le (Nat.le_of_eq h1),Array.extract_eq_self_of_le (Nat.le_refl _)] at h3
 exact h3
theorem Wh {a:Atl} {l:List Pla}:(sortR a l).length=l.length:=yb.length_eq
theorem sortR_sorted {a:Atl} {l:List Pla} {i j:Nat} {x y:Pla} (hij:i<j) (hx:(sortR a l)[i]?=some x) (hy:(sortR a l)[j]?=some y):¬ cmpC (costAt a x) (costAt a y)<0:=by
 have h:=(Sort.pdq_sorts (ltOf (cmpAt a)) (swoP a) l.toArray 0 l.toArray.size (Lib.bitLen l.toArray.size) true true (Nat.zero_le _) (Nat.le_refl _) (Or.inl rfl)).2
 have hj:=(List.getElem?_eq_some_iff.1 hy).1
 have hsl:=Wh (a:=a) (l:=l)
 have:=h i j (Nat.zero_le _) hij (by rw [List.size_toArray]; omega)
 have ex:∀ (n:Nat) (z:Pla),(sortR a l)[n]?=some z→(Sort.pdq (ltOf (cmpAt a)) l.toArray 0 l.toArray.size (Lib.bitLen l.toArray.size) true true)[n]! =z:=by
  intro n z hz
  obtain ⟨h1,h2⟩:=List.getElem?_eq_some_iff.1 hz
  have h3:n<(Sort.pdq (ltOf (cmpAt a)) l.toArray 0 l.toArray.size (Lib.bitLen l.toArray.size) true true).size:=by simpa [sortR] using h1
  rw [getElem!_pos _ n h3,← h2]
  simp [sortR]
 rw [ex i x hx,ex j y hy] at this
 exact of_decide_eq_false this
theorem f237b:Try.f237.body=some (Qf Try.prog 237):=by kernel_rfl
theorem sort_ok {a:Atl} (h:AtlOk a∧PlaOk a (Xh a)) {l:List Pla} {g0 ln:Nat} (hl:0<l.length∧l.length<1000000) (hln:ln=l.length) :
 Lent Try.prog 237 [.sl 0 g0 0 ln 2,.clos 238 [] [.rptr [.rmap (Qe (reachR a))] 0]] [⟨true,g0,2,true,QU l,true⟩] (.tup []) [⟨true,g0,2,true,QU (sortR a l),true⟩]:=by
 have hk:∀ x,(ciP x).length=2:=fun _=>rfl
 have eg:∀ args w,(callFunc 238 args).run Try.prog w=.ok (.enter 238 args) w:=enters_of Try.func238 (by kernel_rfl) rfl
 exact lent_sort (ci:=ciP) (l':=sortR a l) hk (by decide) (caps:=[.rptr [.rmap (Qe (reachR a))] 0]) (cf:=cmpAt a) hl.1 hln Wh (fun cb blk off cap w hc hH hb =>
  AnyQ.slices_SortFunc_eq sortPl 2 Try.isAgg370 Try.sizeOf370 (Ax.encI ciP) (fun _=>rfl) (fun x v hv=>by simp [Ax.encI,ciP] at hv; rcases hv with rfl | rfl <;> rfl) (cmpAt a) (swoP a) 238 cb blk off cap l.toArray w eg hc hH hb (by rw [List.size_toArray]; omega)) (fun x y=>sortc_ok h x y) (fun c hc=>by rw [List.mem_singleton] at hc; subst hc; rfl)
theorem sortB_ok {a:Atl} (h:AtlOk a∧PlaOk a (Xh a)) {l:List Pla} {g0 ln:Nat} (hl:0<l.length∧l.length<1000000) (hln:ln=l.length) :
 Lent Try.prog 237 [.sl 0 g0 0 ln 2,.clos 238 [] [.ptr 1 0 0]] [⟨true,g0,2,true,QU l,true⟩,⟨true,0,1,true,[.rmap (Qe (reachR a))],false⟩] (.tup []) [⟨true,g0,2,true,QU (sortR a l),true⟩,⟨false,1,1,true,[],false⟩] :=
 lent_frz (o1:=[]) (by kernel_rfl) trivial (sort_ok h hl hln) rfl rfl rfl rfl
end Go.Proofs.Ytemklbioijmjiaa
namespace Go.Proofs.Ytemklbioijmjiaa
open Go Ax
open Go.Proofs
structure Leg where
 road:Int
 dep:Int
def cLeg (t:Leg):List AV:=[.int .i64 t.road,.int .i64 t.dep]
def Qn (l:List Leg):List AV:=l.flatMap cLeg
theorem f180b:Try.f180.body=some (Qf Try.prog 180):=by kernel_rfl
noncomputable def f180K0 (P:Program):List Item:=kAt 400 [.code (Qf P 180)] [.b false,.stop]
noncomputable def f180Kr0 (P:Program):List Item:=kAt 400 (yZ (f180K0 P)) [.b false,.b true,.b false]
noncomputable def f180Sr0 (a:Atl) (to:Int) (v:Nat) (v1:Nat) (v11:Pla) (v6:List Nat) (v7:List Pla) (g7:Nat) (v8_0:Int) (v8_1:Int) (s:List (Pla × Cst)):St:=⟨[J,.int .i64 to,.ptr 0 0 0,J,.ptr 1 0 0,J,J,.ptr 4 0 0,J,J,J,J,J,.ptr 8 0 0,J,J,J,J,J,J,J,J,J,J,J,J,J,J,J,J,J,J,J,J,J,J,J,J,J,J,J,J,J,J,J,J,J,J,J,J,J,J,J,J,.sl 7 g7 0 v7.length 2,.int .i64 (v:Int),.int .i64 (v1:Int),J,J,J,J,J,J,J,J,J,J,J,J,.clos 275 [] [.rptr [.rsl (rowB a.m.park) 0 a.m.park.length,.rsl (Qb a.m.roads) 0 a.m.roads.length,.int .i64 a.l.hgt,.int .i64 a.l.wgt,.int .i64 a.l.fr,.int .i64 a.l.ready,.int .i64 a.l.drive,.int .i64 a.l.rest] 0,.rptr [.int .i64 v11.town,.int .i64 v11.used] 0],J,J,J,J,J,J,J,J,J,J,J,J,J,J,J,J,J,J,J,J,J,J,J,J,J,J,J,J,J,J,J,J,J,J,J,J,J,J,J,J,J,J,J,J,J,J,J,J,J,J,J,J,J,J,J,J,J,J,J,J,J,J,J,J,J,J,J,J,J,J,J,J,J,J,J,J,J,J,J,J,J,J,J,J,J,J,J,J,J,J,J,J,J,J,J,J,J],[⟨true,0,1,true,[.rsl (rowB a.m.park) 0 a.m.park.length,.rsl (Qb a.m.roads) 0 a.m.roads.length,.int .i64 a.l.hgt,.int .i64 a.l.wgt,.int .i64 a.l.fr,.int .i64 a.l.ready,.int .i64 a.l.drive,.int .i64 a.l.rest],false⟩,⟨true,0,1,true,[.nilSl],false⟩,⟨true,0,1,true,[.int .i64 (((soonR a to).2).ticks),.int .i64 (((soonR a to).2).legs)],false⟩,⟨true,0,0,true,(Qe s),false⟩,⟨true,0,1,false,[.mp 3 0 false],false⟩,⟨false,1,1,true,[],false⟩,⟨true,0,0,false,(itA (.rmap (Qe (reachR a))) (Qe (reachR a)).length v6),false⟩,⟨true,g7,2,true,(QU v7),true⟩,⟨true,0,1,true,[.int .i64 v8_0,.int .i64 v8_1],false⟩]⟩
noncomputable def f180Gr0 (E:Env) (a:Atl) (to:Int) (v:Nat) (v1:Nat) (v11:Pla) (v6:List Nat) (v7:List Pla) (g7:Nat) (v8_0:Int) (v8_1:Int) (s:List (Pla × Cst)):Prop:=G Try.prog E (f180Kr0 Try.prog) (f180Sr0 a to v v1 v11 v6 v7 g7 v8_0 v8_1 s)
noncomputable def f180Tr0 (a:Atl) (to:Int) (v:Nat) (v1:Nat) (v11:Pla) (v6:List Nat) (v7:List Pla) (g7:Nat) (v8_0:Int) (v8_1:Int) (s:List (Pla × Cst)) (x:Way):St:=⟨[J,.int .i64 to,.ptr 0 0 0,J,.ptr 1 0 0,J,J,.ptr 4 0 0,J,J,J,J,J,.ptr 8 0 0,.ptr 9 0 0,J,J,J,J,J,J,J,J,J,J,J,J,J,J,J,J,J,J,J,J,J,J,J,J,J,J,J,J,J,J,J,J,J,J,J,J,J,J,J,.sl 7 g7 0 v7.length 2,.int .i64 (v:Int),.int .i64 (v1:Int),J,J,J,J,J,J,J,J,J,J,J,J,.clos 275 [] [.rptr [.rsl (rowB a.m.park) 0 a.m.park.length,.rsl (Qb a.m.roads) 0 a.m.roads.length,.int .i64 a.l.hgt,.int .i64 a.l.wgt,.int .i64 a.l.fr,.int .i64 a.l.ready,.int .i64 a.l.drive,.int .i64 a.l.rest] 0,.rptr [.int .i64 v11.town,.int .i64 v11.used] 0],.agg [.int .i64 x.road,.int .i64 x.rest,.int .i64 x.to.town,.int .i64 x.to.used,.int .i64 x.c.ticks,.int .i64 x.c.legs],J,J,J,J,J,J,J,J,J,J,J,J,J,J,J,J,J,J,J,J,J,J,J,J,J,J,J,J,J,J,J,J,J,J,J,J,J,J,J,J,J,J,J,J,J,J,J,J,J,J,J,J,J,J,J,J,J,J,J,J,J,J,J,J,J,J,J,J,J,J,J,J,J,J,J,J,J,J,J,J,J,J,J,J,J,J,J,J,J,J,J,J,J,J,J,J],[⟨true,0,1,true,[.rsl (rowB a.m.park) 0 a.m.park.length,.rsl (Qb a.m.roads) 0 a.m.roads.length,.int .i64 a.l.hgt,.int .i64 a.l.wgt,.int .i64 a.l.fr,.int .i64 a.l.ready,.int .i64 a.l.drive,.int .i64 a.l.rest],false⟩,⟨true,0,1,true,[.nilSl],false⟩,⟨true,0,1,true,[.int .i64 (((soonR a to).2).ticks),.int .i64 (((soonR a to).2).legs)],false⟩,⟨true,0,0,true,(Qe s),false⟩,⟨true,0,1,false,[.mp 3 0 false],false⟩,⟨false,1,1,true,[],false⟩,⟨true,0,0,false,(itA (.rmap (Qe (reachR a))) (Qe (reachR a)).length v6),false⟩,⟨true,g7,2,true,(QU v7),true⟩,⟨true,0,1,true,[.int .i64 v8_0,.int .i64 v8_1],false⟩,⟨true,0,1,true,[.int .i64 x.road,.int .i64 x.rest,.int .i64 x.to.town,.int .i64 x.to.used,.int .i64 x.c.ticks,.int .i64 x.c.legs],false⟩]⟩
noncomputable def f180Kr1 (P:Program):List Item:=kAt 400 (yZ (f180K0 P)) [.b false,.b false,.b true]
noncomputable def f180Sr1 (a:Atl) (to:Int) (v3:List (Pla × Cst)) (v6:List Nat) (v7:List Pla) (g7:Nat) (v:Pla) (s:List Leg × Int × Int × Int × Nat):St:=⟨[J,.int .i64 to,.ptr 0 0 0,J,.ptr 1 0 0,J,J,.ptr 4 0 0,J,J,J,J,J,J,J,J,J,J,J,J,.ptr 8 0 0,.ptr 9 0 0,J,J,J,J,J,J,J,J,J,J,J,J,J,J,J,J,J,J,J,J,J,J,J,J,J,J,J,J,J,J,J,J,J,J,J,J,J,J,J,J,J,J,J,J,J,J,J,J,J,J,J,J,J,J,J,J,J,J,J,J,J,J,J,J,J,J,J,J,J,J,J,J,J,J,J,J,J,J,J,J,J,J,J,J,J,J,J,J,J,J,J,J,J,J,J,J,J,J,J,J,.clos 275 [] [.rptr [.rsl (rowB a.m.park) 0 a.m.park.length,.rsl (Qb a.m.roads) 0 a.m.roads.length,.int .i64 a.l.hgt,.int .i64 a.l.wgt,.int .i64 a.l.fr,.int .i64 a.l.ready,.int .i64 a.l.drive,.int .i64 a.l.rest] 0,.rptr [.int .i64 v.town,.int .i64 v.used] 0],J,J,J,J,J,J,J,J,J,J,J,J,J,J,J,J,J,J,J,J,J,J,J,J,J,J,J,J,J,J,J,J,J,J,J,J,J,J,J,J,J,J,J,J],[⟨true,0,1,true,[.rsl (rowB a.m.park) 0 a.m.park.length,.rsl (Qb a.m.roads) 0 a.m.roads.length,.int .i64 a.l.hgt,.int .i64 a.l.wgt,.int .i64 a.l.fr,.int .i64 a.l.ready,.int .i64 a.l.drive,.int .i64 a.l.rest],false⟩,⟨true,0,1,false,[.sl 10 s.2.2.2.2 0 s.1.length 2],false⟩,⟨true,0,1,true,[.int .i64 (((soonR a to).2).ticks),.int .i64 (((soonR a to).2).legs)],false⟩,⟨true,0,0,true,(Qe v3),false⟩,⟨true,0,1,false,[.mp 3 0 false],false⟩,⟨false,1,1,true,[],false⟩,⟨true,0,0,false,(itA (.rmap (Qe (reachR a))) (Qe (reachR a)).length v6),false⟩,⟨true,g7,2,true,(QU v7),true⟩,⟨true,0,1,true,[.int .i64 s.2.1,.int .i64 s.2.2.1],false⟩,⟨true,0,1,true,[.int .i64 s.2.2.2.1],false⟩,⟨true,s.2.2.2.2,2,true,(Qn s.1),true⟩]⟩
noncomputable def f180Gr1 (E:Env) (a:Atl) (to:Int) (v3:List (Pla × Cst)) (v6:List Nat) (v7:List Pla) (g7:Nat) (v:Pla) (s:List Leg × Int × Int × Int × Nat):Prop:=G Try.prog E (f180Kr1 Try.prog) (f180Sr1 a to v3 v6 v7 g7 v s)
noncomputable def f180Tr1 (a:Atl) (to:Int) (v3:List (Pla × Cst)) (v6:List Nat) (v7:List Pla) (g7:Nat) (v:Pla) (s:List Leg × Int × Int × Int × Nat) (x:Way):St:=⟨[J,.int .i64 to,.ptr 0 0 0,J,.ptr 1 0 0,J,J,.ptr 4 0 0,J,J,J,J,J,J,J,J,J,J,J,J,.ptr 8 0 0,.ptr 9 0 0,.ptr 11 0 0,J,J,J,J,J,J,J,J,J,J,J,J,J,J,J,J,J,J,J,J,J,J,J,J,J,J,J,J,J,J,J,J,J,J,J,J,J,J,J,J,J,J,J,J,J,J,J,J,J,J,J,J,J,J,J,J,J,J,J,J,J,J,J,J,J,J,J,J,J,J,J,J,J,J,J,J,J,J,J,J,J,J,J,J,J,J,J,J,J,J,J,J,J,J,J,J,J,J,J,.clos 275 [] [.rptr [.rsl (rowB a.m.park) 0 a.m.park.length,.rsl (Qb a.m.roads) 0 a.m.roads.length,.int .i64 a.l.hgt,.int .i64 a.l.wgt,.int .i64 a.l.fr,.int .i64 a.l.ready,.int .i64 a.l.drive,.int .i64 a.l.rest] 0,.rptr [.int .i64 v.town,.int .i64 v.used] 0],.agg [.int .i64 x.road,.int .i64 x.rest,.int .i64 x.to.town,.int .i64 x.to.used,.int .i64 x.c.ticks,.int .i64 x.c.legs],J,J,J,J,J,J,J,J,J,J,J,J,J,J,J,J,J,J,J,J,J,J,J,J,J,J,J,J,J,J,J,J,J,J,J,J,J,J,J,J,J,J,J],[⟨true,0,1,true,[.rsl (rowB a.m.park) 0 a.m.park.length,.rsl (Qb a.m.roads) 0 a.m.roads.length,.int .i64 a.l.hgt,.int .i64 a.l.wgt,.int .i64 a.l.fr,.int .i64 a.l.ready,.int .i64 a.l.drive,.int .i64 a.l.rest],false⟩,⟨true,0,1,false,[.sl 10 s.2.2.2.2 0 s.1.length 2],false⟩,⟨true,0,1,true,[.int .i64 (((soonR a to).2).ticks),.int .i64 (((soonR a to).2).legs)],false⟩,⟨true,0,0,true,(Qe v3),false⟩,⟨true,0,1,false,[.mp 3 0 false],false⟩,⟨false,1,1,true,[],false⟩,⟨true,0,0,false,(itA (.rmap (Qe (reachR a))) (Qe (reachR a)).length v6),false⟩,⟨true,g7,2,true,(QU v7),true⟩,⟨true,0,1,true,[.int .i64 s.2.1,.int .i64 s.2.2.1],false⟩,⟨true,0,1,true,[.int .i64 s.2.2.2.1],false⟩,⟨true,s.2.2.2.2,2,true,(Qn s.1),true⟩,⟨true,0,1,true,[.int .i64 x.road,.int .i64 x.rest,.int .i64 x.to.town,.int .i64 x.to.used,.int .i64 x.c.ticks,.int .i64 x.c.legs],false⟩]⟩
noncomputable def f180S0 (a:Atl) (to:Int) (v7:List Pla) (v6:List Nat) (g7:Nat):St:=⟨[J,.int .i64 to,.ptr 0 0 0,J,.ptr 1 0 0,J,.ptr 2 0 0,.ptr 4 0 0,.ptr 5 0 0,.sl 7 g7 0 v7.length 2,J,J,J,J,J,J,J,J,J,J,J,J,J,J,J,J,J,J,J,J,J,J,J,J,J,J,J,.mp 6 0 true,J,J,J,J,J,J,J,J,J,J,J,J,J,J,J,J,J,J,J,J,J,J,J,J,J,J,J,J,J,J,J,J,J,J,J,J,J,J,J,J,J,J,J,J,J,J,J,J,J,J,J,J,J,J,J,J,J,J,J,J,J,J,J,J,J,J,J,J,J,J,J,J,J,J,J,J,J,J,J,J,J,J,J,J,J,J,J,J,J,J,J,J,J,J,J,J,J,J,J,J,J,J,J,J,J,J,J,J,J,J,J,J,J,J,J,J,J,J,J,J,J,J,J,J,J,J,J,J,J],[⟨true,0,1,true,[.rsl (rowB a.m.park) 0 a.m.park.length,.rsl (Qb a.m.roads) 0 a.m.roads.length,.int .i64 a.l.hgt,.int .i64 a.l.wgt,.int .i64 a.l.fr,.int .i64 a.l.ready,.int .i64 a.l.drive,.int .i64 a.l.rest],false⟩,⟨true,0,1,true,[.nilSl],false⟩,⟨true,0,1,true,[.int .i64 (((soonR a to).2).ticks),.int .i64 (((soonR a to).2).legs)],false⟩,⟨true,0,0,true,[],false⟩,⟨true,0,1,false,[.mp 3 0 false],false⟩,⟨true,0,1,true,[.rmap (Qe (reachR a))],false⟩,⟨true,0,0,false,(itA (.rmap (Qe (reachR a))) (Qe (reachR a)).length v6),false⟩,⟨true,g7,2,true,(QU v7),true⟩]⟩
noncomputable def f180G0 (E:Env) (a:Atl) (to:Int) (v7:List Pla) (v6:List Nat):Prop:=∀ g7:Nat,G Try.prog E (f180K0 Try.prog) (f180S0 a to v7 v6 g7)
noncomputable def f180G0n (E:Env) (a:Atl) (to:Int) (v7:List Pla) (v6:List Nat) (s:Nat):Prop:=∀ g7:Nat,G Try.prog E (yZ (f180K0 Try.prog)) ⟨[J,.int .i64 to,.ptr 0 0 0,J,.ptr 1 0 0,J,.ptr 2 0 0,.ptr 4 0 0,.ptr 5 0 0,.sl 7 g7 0 v7.length 2,J,J,J,J,J,J,J,J,J,J,J,J,J,J,J,J,J,J,J,J,J,J,J,J,J,J,J,.mp 6 0 true,.tup [.bool true,J,J],J,J,J,J,J,J,J,J,J,J,J,J,J,J,J,J,J,J,J,J,J,J,J,J,J,J,J,J,J,J,J,J,J,J,J,J,J,J,J,J,J,J,J,J,J,J,J,J,J,J,J,J,J,J,J,J,J,J,J,J,J,J,J,J,J,J,J,J,J,J,J,J,J,J,J,J,J,J,J,J,J,J,J,J,J,J,J,J,J,J,J,J,J,J,J,J,J,J,J,J,J,J,J,J,J,J,J,J,J,J,J,J,J,J,J,J,J,J,J,J,J,J,J,J,J,J,J,J],[⟨true,0,1,true,[.rsl (rowB a.m.park) 0 a.m.park.length,.rsl (Qb a.m.roads) 0 a.m.roads.length,.int .i64 a.l.hgt,.int .i64 a.l.wgt,.int .i64 a.l.fr,.int .i64 a.l.ready,.int .i64 a.l.drive,.int .i64 a.l.rest],false⟩,⟨true,0,1,true,[.nilSl],false⟩,⟨true,0,1,true,[.int .i64 (((soonR a to).2).ticks),.int .i64 (((soonR a to).2).legs)],false⟩,⟨true,0,0,true,[],false⟩,⟨true,0,1,false,[.mp 3 0 false],false⟩,⟨true,0,1,true,[.rmap (Qe (reachR a))],false⟩,⟨true,0,0,false,(itA (.rmap (Qe (reachR a))) (Qe (reachR a)).length (v6++[s])),false⟩,⟨true,g7,2,true,(QU v7),true⟩]⟩
noncomputable def f180G0x (E:Env) (a:Atl) (to:Int) (v7:List Pla) (v6:List Nat):Prop:=∀ g7:Nat,G Try.prog E (yZ (f180K0 Try.prog)) ⟨[J,.int .i64 to,.ptr 0 0 0,J,.ptr 1 0 0,J,.ptr 2 0 0,.ptr 4 0 0,.ptr 5 0 0,.sl 7 g7 0 v7.length 2,J,J,J,J,J,J,J,J,J,J,J,J,J,J,J,J,J,J,J,J,J,J,J,J,J,J,J,.mp 6 0 true,.tup [.bool false],J,J,J,J,J,J,J,J,J,J,J,J,J,J,J,J,J,J,J,J,J,J,J,J,J,J,J,J,J,J,J,J,J,J,J,J,J,J,J,J,J,J,J,J,J,J,J,J,J,J,J,J,J,J,J,J,J,J,J,J,J,J,J,J,J,J,J,J,J,J,J,J,J,J,J,J,J,J,J,J,J,J,J,J,J,J,J,J,J,J,J,J,J,J,J,J,J,J,J,J,J,J,J,J,J,J,J,J,J,J,J,J,J,J,J,J,J,J,J,J,J,J,J,J,J,J,J,J],[⟨true,0,1,true,[.rsl (rowB a.m.park) 0 a.m.park.length,.rsl (Qb a.m.roads) 0 a.m.roads.length,.int .i64 a.l.hgt,.int .i64 a.l.wgt,.int .i64 a.l.fr,.int .i64 a.l.ready,.int .i64 a.l.drive,.int .i64 a.l.rest],false⟩,⟨true,0,1,true,[.nilSl],false⟩,⟨true,0,1,true,[.int .i64 (((soonR a to).2).ticks),.int .i64 (((soonR a to).2).legs)],false⟩,⟨true,0,0,true,[],false⟩,⟨true,0,1,false,[.mp 3 0 false],false⟩,⟨true,0,1,true,[.rmap (Qe (reachR a))],false⟩,⟨true,0,0,false,(itA (.rmap (Qe (reachR a))) (Qe (reachR a)).length v6),false⟩,⟨true,g7,2,true,(QU v7),true⟩]⟩
noncomputable def f180K1 (P:Program):List Item:=kAt 400 (yZ (f180K0 P)) [.b false,.stop]
noncomputable def f180S1 (a:Atl) (to:Int) (k:Nat) (v6:List Nat) (v7:List Pla) (k1:Nat) (v3:List (Pla × Cst)) (g7:Nat):St:=⟨[J,.int .i64 to,.ptr 0 0 0,J,.ptr 1 0 0,J,J,.ptr 4 0 0,J,J,J,J,J,J,J,J,J,J,J,J,J,J,J,J,J,J,J,J,J,J,J,J,J,J,J,J,J,J,J,J,J,J,J,J,J,J,J,J,J,J,J,J,J,J,.sl 7 g7 0 v7.length 2,.int .i64 (k:Int),.int .i64 (k1:Int),J,J,J,J,J,J,J,J,J,J,J,J,J,J,J,J,J,J,J,J,J,J,J,J,J,J,J,J,J,J,J,J,J,J,J,J,J,J,J,J,J,J,J,J,J,J,J,J,J,J,J,J,J,J,J,J,J,J,J,J,J,J,J,J,J,J,J,J,J,J,J,J,J,J,J,J,J,J,J,J,J,J,J,J,J,J,J,J,J,J,J,J,J,J,J,J,J,J,J,J,J,J,J,J,J,J,J,J,J,J],[⟨true,0,1,true,[.rsl (rowB a.m.park) 0 a.m.park.length,.rsl (Qb a.m.roads) 0 a.m.roads.length,.int .i64 a.l.hgt,.int .i64 a.l.wgt,.int .i64 a.l.fr,.int .i64 a.l.ready,.int .i64 a.l.drive,.int .i64 a.l.rest],false⟩,⟨true,0,1,true,[.nilSl],false⟩,⟨true,0,1,true,[.int .i64 (((soonR a to).2).ticks),.int .i64 (((soonR a to).2).legs)],false⟩,⟨true,0,0,true,(Qe v3),false⟩,⟨true,0,1,false,[.mp 3 0 false],false⟩,⟨false,1,1,true,[],false⟩,⟨true,0,0,false,(itA (.rmap (Qe (reachR a))) (Qe (reachR a)).length v6),false⟩,⟨true,g7,2,true,(QU v7),true⟩]⟩
noncomputable def f180G1 (E:Env) (a:Atl) (to:Int) (k:Nat) (v6:List Nat) (v7:List Pla) (k1:Nat) (v3:List (Pla × Cst)):Prop:=∀ g7:Nat,G Try.prog E (f180K1 Try.prog) (f180S1 a to k v6 v7 k1 v3 g7)
noncomputable def f180K2 (P:Program):List Item:=kAt 400 (yZ (f180K0 P)) [.b false,.b false,.stop]
noncomputable def f180S2 (a:Atl) (to:Int) (v3:List (Pla × Cst)) (v6:List Nat) (v7:List Pla) (v10:List Leg) (v8_0:Int) (v8_1:Int) (v9_0:Int) (g7:Nat) (g10:Nat):St:=⟨[J,.int .i64 to,.ptr 0 0 0,J,.ptr 1 0 0,J,J,.ptr 4 0 0,J,J,J,J,J,J,J,J,J,J,J,J,.ptr 8 0 0,.ptr 9 0 0,J,J,J,J,J,J,J,J,J,J,J,J,J,J,J,J,J,J,J,J,J,J,J,J,J,J,J,J,J,J,J,J,J,J,J,J,J,J,J,J,J,J,J,J,J,J,J,J,J,J,J,J,J,J,J,J,J,J,J,J,J,J,J,J,J,J,J,J,J,J,J,J,J,J,J,J,J,J,J,J,J,J,J,J,J,J,J,J,J,J,J,J,J,J,J,J,J,J,J,J,J,J,J,J,J,J,J,J,J,J,J,J,J,J,J,J,J,J,J,J,J,J,J,J,J,J,J,J,J,J,J,J,J,J,J,J,J,J,J,J,J,J,J,J,J],[⟨true,0,1,true,[.rsl (rowB a.m.park) 0 a.m.park.length,.rsl (Qb a.m.roads) 0 a.m.roads.length,.int .i64 a.l.hgt,.int .i64 a.l.wgt,.int .i64 a.l.fr,.int .i64 a.l.ready,.int .i64 a.l.drive,.int .i64 a.l.rest],false⟩,⟨true,0,1,false,[.sl 10 g10 0 v10.length 2],false⟩,⟨true,0,1,true,[.int .i64 (((soonR a to).2).ticks),.int .i64 (((soonR a to).2).legs)],false⟩,⟨true,0,0,true,(Qe v3),false⟩,⟨true,0,1,false,[.mp 3 0 false],false⟩,⟨false,1,1,true,[],false⟩,⟨true,0,0,false,(itA (.rmap (Qe (reachR a))) (Qe (reachR a)).length v6),false⟩,⟨true,g7,2,true,(QU v7),true⟩,⟨true,0,1,true,[.int .i64 v8_0,.int .i64 v8_1],false⟩,⟨true,0,1,true,[.int .i64 v9_0],false⟩,⟨true,g10,2,true,(Qn v10),true⟩]⟩
noncomputable def f180G2 (E:Env) (a:Atl) (to:Int) (v3:List (Pla × Cst)) (v6:List Nat) (v7:List Pla) (v10:List Leg) (v8_0:Int) (v8_1:Int) (v9_0:Int):Prop:=∀ g7 g10:Nat,G Try.prog E (f180K2 Try.prog) (f180S2 a to v3 v6 v7 v10 v8_0 v8_1 v9_0 g7 g10)
theorem f180W (a:Atl) (to:Int) {E:Env} {R:AV→List Blk→Prop} (hE:NewRE Try.prog 180 R E)
 (h:((AtlOk a∧PlaOk a (Xh a))∧(((!(soonR a to).1)=true→R (.tup [.nilSl,.bool false]) [⟨true,0,1,true,[.rsl (rowB a.m.park) 0 a.m.park.length,.rsl (Qb a.m.roads) 0 a.m.roads.length,.int .i64 a.l.hgt,.int .i64 a.l.wgt,.int .i64 a.l.fr,.int .i64 a.l.ready,.int .i64 a.l.drive,.int .i64 a.l.rest],false⟩,⟨true,0,1,true,[.nilSl],false⟩,⟨true,0,1,true,[.int .i64 (((soonR a to).2).ticks),.int .i64 (((soonR a to).2).legs)],false⟩])∧((!(soonR a to).1)=false→((AtlOk a∧PlaOk a (Xh a))∧f180G0 E a to ([]) ([]:List Nat)))))):G Try.prog E [.code (Qf Try.prog 180)] ⟨[.agg [.rsl (rowB a.m.park) 0 a.m.park.length,.rsl (Qb a.m.roads) 0 a.m.roads.length,.int .i64 a.l.hgt,.int .i64 a.l.wgt,.int .i64 a.l.fr,.int .i64 a.l.ready,.int .i64 a.l.drive,.int .i64 a.l.rest],.int .i64 to]++unds (Try.f180.ntmps - 2),[]⟩:=by
 obtain ⟨h1,h⟩:=h
 rcases bft (!(soonR a to).1) with hc0 | hc0
 · have h:=h.1 hc0
   exact hE.as h fun E' hE'=>eB (.tup [.nilSl,.bool false]) [⟨true,0,1,true,[.rsl (rowB a.m.park) 0 a.m.park.length,.rsl (Qb a.m.roads) 0 a.m.roads.length,.int .i64 a.l.hgt,.int .i64 a.l.wgt,.int .i64 a.l.fr,.int .i64 a.l.ready,.int .i64 a.l.drive,.int .i64 a.l.rest],false⟩,⟨true,0,1,true,[.nilSl],false⟩,⟨true,0,1,true,[.int .i64 (((soonR a to).2).ticks),.int .i64 (((soonR a to).2).legs)],false⟩] [4,5] 3 [.v (.tup [.agg [.int .i64 (((soonR a to).2).ticks),.int .i64 (((soonR a to).2).legs)],.bool ((soonR a to).1)]),.b true] [Qc Try.prog (.clos 234 [] []) [.agg [.rsl (rowB a.m.park) 0 a.m.park.length,.rsl (Qb a.m.roads) 0 a.m.roads.length,.int .i64 a.l.hgt,.int .i64 a.l.wgt,.int .i64 a.l.fr,.int .i64 a.l.ready,.int .i64 a.l.drive,.int .i64 a.l.rest],.int .i64 to] (.tup [.agg [.int .i64 (((soonR a to).2).ticks),.int .i64 (((soonR a to).2).legs)],.bool ((soonR a to).1)]),2≤2,(!(soonR a to).1)=true,1≤1] hE' (hE'.nogh0 _) Try.func180 ⟨(u234 (soon_ok to h1)),(by decide),hc0,(by decide),trivial⟩ (by rfl) (by rfl)
 · have h:=h.2 hc0
   obtain ⟨h2,h⟩:=h
   exact QM (n:=400) (ds:=[(9,2)]) (cs:=[]) (live:=[1,2,4,6,7,8,9,37]) (m:=8) (evs:=[.v (.tup [.agg [.int .i64 (((soonR a to).2).ticks),.int .i64 (((soonR a to).2).legs)],.bool ((soonR a to).1)]),.b false,.v (.rmap (Qe (reachR a))),.stop]) (obs:=[Qc Try.prog (.clos 234 [] []) [.agg [.rsl (rowB a.m.park) 0 a.m.park.length,.rsl (Qb a.m.roads) 0 a.m.roads.length,.int .i64 a.l.hgt,.int .i64 a.l.wgt,.int .i64 a.l.fr,.int .i64 a.l.ready,.int .i64 a.l.drive,.int .i64 a.l.rest],.int .i64 to] (.tup [.agg [.int .i64 (((soonR a to).2).ticks),.int .i64 (((soonR a to).2).legs)],.bool ((soonR a to).1)]),2≤2,(!(soonR a to).1)=false,1≤1,Qc Try.prog (.clos 235 [] []) [.agg [.rsl (rowB a.m.park) 0 a.m.park.length,.rsl (Qb a.m.roads) 0 a.m.roads.length,.int .i64 a.l.hgt,.int .i64 a.l.wgt,.int .i64 a.l.fr,.int .i64 a.l.ready,.int .i64 a.l.drive,.int .i64 a.l.rest]] (.rmap (Qe (reachR a))),1≤1]) hE.kind (hE.nogh0 _) mixed (by kernel_rfl) ⟨(u234 (soon_ok to h1)),(by decide),hc0,(by decide),(u235 (reachR_ok h2)),(by decide),trivial⟩ (h 0)
theorem f180W0n (a:Atl) (to:Int) (v7:List Pla) (v6:List Nat) (s:Nat) {E:Env} {R:AV→List Blk→Prop} (hE:NewRE Try.prog 180 R E)
 (h:(∃ pe:(Pla × Cst),(reachR a)[s]?=some pe∧((XZ pe.2∧XZ ((soonR a to).2))∧(((cmpC pe.2 ((soonR a to).2))≤0→((v7.length+1)≤2147483648∧f180G0 E a to (v7++[pe.1]) (v6++[s])))∧(¬ ((cmpC pe.2 ((soonR a to).2))≤0)→f180G0 E a to v7 (v6++[s])))))):f180G0n E a to v7 v6 s:=by
 intro g7
 obtain ⟨pe,h1,h⟩:=h
 obtain ⟨h2,h⟩:=h
 rcases bft (decide ((cmpC pe.2 ((soonR a to).2))≤0)) with hc0 | hc0
 · have h:=h.1 (odt hc0)
   obtain ⟨h3,h⟩:=h
   refine sK (f180K0 Try.prog) ⟨([J,.int .i64 to,.ptr 0 0 0,J,.ptr 1 0 0,J,.ptr 2 0 0,.ptr 4 0 0,.ptr 5 0 0,.sl 7 (g7+1) 0 (v7.length+1) 2]++jj 27 ([.mp 6 0 true]++Js 129)),[⟨true,0,1,true,[.rsl (rowB a.m.park) 0 a.m.park.length,.rsl (Qb a.m.roads) 0 a.m.roads.length,.int .i64 a.l.hgt,.int .i64 a.l.wgt,.int .i64 a.l.fr,.int .i64 a.l.ready,.int .i64 a.l.drive,.int .i64 a.l.rest],false⟩,⟨true,0,1,true,[.nilSl],false⟩,⟨true,0,1,true,[.int .i64 (((soonR a to).2).ticks),.int .i64 (((soonR a to).2).legs)],false⟩,⟨true,0,0,true,[],false⟩,⟨true,0,1,false,[.mp 3 0 false],false⟩,⟨true,0,1,true,[.rmap (Qe (reachR a))],false⟩,⟨true,0,0,false,(itA (.rmap (Qe (reachR a))) (Qe (reachR a)).length (v6++[s])),false⟩,⟨true,(g7+1),2,true,((QU v7)++[.int .i64 pe.1.town,.int .i64 pe.1.used]),true⟩]⟩ [1,2,4,6,7,8,9,37] 8 [.b true,.ment s (.agg [.int .i64 pe.1.town,.int .i64 pe.1.used]) (.agg [.int .i64 pe.2.ticks,.int .i64 pe.2.legs]),.v (.int .i64 (cmpC pe.2 ((soonR a to).2))),.b true,.stop] [true=true,(itA (.rmap (Qe (reachR a))) (Qe (reachR a)).length (v6++[s])).getLast?=some (.int .i64 s),(itA (.rmap (Qe (reachR a))) (Qe (reachR a)).length (v6++[s]))[1]?=some (.int .i64 (Qe (reachR a)).length),2<(itA (.rmap (Qe (reachR a))) (Qe (reachR a)).length (v6++[s])).length,(Qe (reachR a))[s]?=some (.clos 0 [.agg [.int .i64 pe.1.town,.int .i64 pe.1.used]] [.agg [.int .i64 pe.2.ticks,.int .i64 pe.2.legs]]),2≤2,2≤2,Qc Try.prog (.clos 236 [] []) [.agg [.int .i64 pe.2.ticks,.int .i64 pe.2.legs],.agg [.int .i64 (((soonR a to).2).ticks),.int .i64 (((soonR a to).2).legs)]] (.int .i64 (cmpC pe.2 ((soonR a to).2))),(decide ((cmpC pe.2 ((soonR a to).2))≤0))=true,g7=g7,(0+(v7.length*2))=(QU v7).length,(v7.length+1)≤2147483648,0=0] hE.kind (hE.nogh0 _) ⟨rfl,(yu),rfl,(Qbh),(VS QaB h1),(by decide),(by decide),(u236 (YJ pe.2 ((soonR a to).2) h2)),hc0,rfl,(by have hx:=QG cPla (s:=2) (fun _=>rfl) v7; simp only [QU] at hx ⊢; rw [hx]; simp),h3,rfl,trivial⟩ ?_
   rw [(show QU v7++[.int .i64 pe.1.town,.int .i64 pe.1.used]=QU (v7++[pe.1]) from (Xz cPla v7 [pe.1]).symm)]; (try rw [(show (v7.length+1)=(v7++[pe.1]).length from by simp)]); exact (h (g7+1))
 · have h:=h.2 (odf hc0)
   exact sM [1,2,4,6,7,8,9,37] 8 [.b true,.ment s (.agg [.int .i64 pe.1.town,.int .i64 pe.1.used]) (.agg [.int .i64 pe.2.ticks,.int .i64 pe.2.legs]),.v (.int .i64 (cmpC pe.2 ((soonR a to).2))),.b false,.stop] [true=true,(itA (.rmap (Qe (reachR a))) (Qe (reachR a)).length (v6++[s])).getLast?=some (.int .i64 s),(itA (.rmap (Qe (reachR a))) (Qe (reachR a)).length (v6++[s]))[1]?=some (.int .i64 (Qe (reachR a)).length),2<(itA (.rmap (Qe (reachR a))) (Qe (reachR a)).length (v6++[s])).length,(Qe (reachR a))[s]?=some (.clos 0 [.agg [.int .i64 pe.1.town,.int .i64 pe.1.used]] [.agg [.int .i64 pe.2.ticks,.int .i64 pe.2.legs]]),2≤2,2≤2,Qc Try.prog (.clos 236 [] []) [.agg [.int .i64 pe.2.ticks,.int .i64 pe.2.legs],.agg [.int .i64 (((soonR a to).2).ticks),.int .i64 (((soonR a to).2).legs)]] (.int .i64 (cmpC pe.2 ((soonR a to).2))),(decide ((cmpC pe.2 ((soonR a to).2))≤0))=false] hE.kind (hE.nogh0 _) ⟨rfl,(yu),rfl,(Qbh),(VS QaB h1),(by decide),(by decide),(u236 (YJ pe.2 ((soonR a to).2) h2)),hc0,trivial⟩ (h g7)
theorem f180W0x (a:Atl) (to:Int) (v7:List Pla) (v6:List Nat) {E:Env} {R:AV→List Blk→Prop} (hE:NewRE Try.prog 180 R E)
 (h:(((AtlOk a∧PlaOk a (Xh a))∧0<v7.length∧v7.length<1000000)∧f180G1 E a to v7.length v6 (sortR a v7) 0 ([]))):f180G0x E a to v7 v6:=by
 intro g7
 obtain ⟨h1,h⟩:=h
 refine sK (f180K1 Try.prog) ⟨([J,.int .i64 to,.ptr 0 0 0,J,.ptr 1 0 0,J,J,.ptr 4 0 0]++jj 46 ([.sl 7 g7 0 v7.length 2,.int .i64 (v7.length:Int),.int .i64 0]++Js 110)),[⟨true,0,1,true,[.rsl (rowB a.m.park) 0 a.m.park.length,.rsl (Qb a.m.roads) 0 a.m.roads.length,.int .i64 a.l.hgt,.int .i64 a.l.wgt,.int .i64 a.l.fr,.int .i64 a.l.ready,.int .i64 a.l.drive,.int .i64 a.l.rest],false⟩,⟨true,0,1,true,[.nilSl],false⟩,⟨true,0,1,true,[.int .i64 (((soonR a to).2).ticks),.int .i64 (((soonR a to).2).legs)],false⟩,⟨true,0,0,true,[],false⟩,⟨true,0,1,false,[.mp 3 0 false],false⟩,⟨false,1,1,true,[],false⟩,⟨true,0,0,false,(itA (.rmap (Qe (reachR a))) (Qe (reachR a)).length v6),false⟩,⟨true,g7,2,true,(QU (sortR a v7)),true⟩]⟩ [1,2,4,7,54,55,56] 8 [.b false,.lent [7,5] (.tup []) [⟨true,g7,2,true,(QU (sortR a v7)),true⟩,⟨false,1,1,true,[],false⟩],.stop] [false=false,Yk Try.prog (.clos 237 [] []) [.sl 0 g7 0 v7.length 2,.clos 238 [] [.ptr 1 0 0]] [⟨true,g7,2,true,(QU v7),true⟩,⟨true,0,1,true,[.rmap (Qe (reachR a))],false⟩] (.tup []) [⟨true,g7,2,true,(QU (sortR a v7)),true⟩,⟨false,1,1,true,[],false⟩],g7=g7] hE.kind (hE.nogh0 _) ⟨rfl,(QK Try.func237 (by kernel_rfl) f237b (sortB_ok h1.1 h1.2 (by first | rfl | (simp; done)))),rfl,trivial⟩ ?_
 have h:=(h g7)
 simp only [f180G1,f180S1,List.length_set,Wh] at h
 skip
 exact h
theorem f180W1 (a:Atl) (to:Int) (k:Nat) (v6:List Nat) (v7:List Pla) (k1:Nat) (v3:List (Pla × Cst)) {E:Env} {R:AV→List Blk→Prop} (hE:NewRE Try.prog 180 R E)
 (h:∀ g7:Nat,(((k1:Int)<(k:Int)→(∃ pe:Pla,v7[k1]?=some pe∧((pe.town=to→(((QJ v3 pe)=true→(∃ mi:Nat,True∧(∃ me:(Pla × Cst),PlAt v3 pe mi me∧((I6 ((k1:Int)+1))∧f180G1 E a to k v6 v7 (k1+1) (v3.set mi (pe,(⟨0,0⟩:Cst)))))))∧((QJ v3 pe)=false→((I6 ((k1:Int)+1))∧f180G1 E a to k v6 v7 (k1+1) (v3++[(pe,(⟨0,0⟩:Cst))])))))∧(¬ (pe.town=to)→f180Gr0 E a to k k1 pe v6 v7 g7 pe.town pe.used v3))))∧(¬ ((k1:Int)<(k:Int))→f180G2 E a to v3 v6 v7 ([]) a.l.fr 0 a.l.ready))):f180G1 E a to k v6 v7 k1 v3:=by
 intro g7
 have h:=h g7
 rcases bft (decide ((k1:Int)<(k:Int))) with hc0 | hc0
 · have h:=h.1 (odt hc0)
   obtain ⟨pe,h1,h⟩:=h
   rcases bft (pe.town == to) with hc1 | hc1
   · have h:=h.1 (eq_of_beq hc1)
     rcases bft (QJ v3 pe) with hc2 | hc2
     · have h:=h.1 hc2
       obtain ⟨mi,h2,h⟩:=h
       obtain ⟨me,h3,h⟩:=h
       obtain ⟨q11_3,h⟩:=h
       refine sK (f180K1 Try.prog) ⟨([J,.int .i64 to,.ptr 0 0 0,J,.ptr 1 0 0,J,J,.ptr 4 0 0]++jj 46 ([.sl 7 g7 0 v7.length 2,.int .i64 (k:Int),.int .i64 ((k1:Int)+1)]++Js 110)),[⟨true,0,1,true,[.rsl (rowB a.m.park) 0 a.m.park.length,.rsl (Qb a.m.roads) 0 a.m.roads.length,.int .i64 a.l.hgt,.int .i64 a.l.wgt,.int .i64 a.l.fr,.int .i64 a.l.ready,.int .i64 a.l.drive,.int .i64 a.l.rest],false⟩,⟨true,0,1,true,[.nilSl],false⟩,⟨true,0,1,true,[.int .i64 (((soonR a to).2).ticks),.int .i64 (((soonR a to).2).legs)],false⟩,⟨true,0,0,true,((Qe v3).set mi (.clos 0 [.agg [.int .i64 pe.town,.int .i64 pe.used]] [.agg [.int .i64 0,.int .i64 0]])),false⟩,⟨true,0,1,false,[.mp 3 0 false],false⟩,⟨false,1,1,true,[],false⟩,⟨true,0,0,false,(itA (.rmap (Qe (reachR a))) (Qe (reachR a)).length v6),false⟩,⟨true,g7,2,true,(QU v7),true⟩]⟩ [1,2,4,7,54,55,56] 8 [.b true,.ld (.agg [.int .i64 pe.town,.int .i64 pe.used]),.b true,.mup mi (.agg [.int .i64 me.2.ticks,.int .i64 me.2.legs]),.stop] [(decide ((k1:Int)<(k:Int)))=true,0≤(k1:Int)∧(k1:Int)<(v7.length:Int),g7=g7,g7=g7,((QU v7).drop (0+(Int.toNat (k1:Int))*2)).take 2=[.int .i64 pe.town,.int .i64 pe.used],2≤2,(pe.town == to)=true,XY Try.prog 370 (.agg [.int .i64 pe.town,.int .i64 pe.used]) (Qe v3) mi (.agg [.int .i64 me.2.ticks,.int .i64 me.2.legs]),InR .i64 ((k1:Int)+1)] hE.kind (hE.nogh0 _) ⟨hc0,(Qm h1),rfl,rfl,(rp cPla 2 0 2 h1),(by decide),hc1,(Vo h3),q11_3,trivial⟩ ?_
       rw [(show (Qe v3).set mi (.clos 0 [.agg [.int .i64 pe.town,.int .i64 pe.used]] [.agg [.int .i64 0,.int .i64 0]])=Qe (v3.set mi (pe,(⟨0,0⟩:Cst))) from setOuE v3 mi (pe,(⟨0,0⟩:Cst)))]; exact (h g7)
     · have h:=h.2 hc2
       obtain ⟨q10_3,h⟩:=h
       refine sK (f180K1 Try.prog) ⟨([J,.int .i64 to,.ptr 0 0 0,J,.ptr 1 0 0,J,J,.ptr 4 0 0]++jj 46 ([.sl 7 g7 0 v7.length 2,.int .i64 (k:Int),.int .i64 ((k1:Int)+1)]++Js 110)),[⟨true,0,1,true,[.rsl (rowB a.m.park) 0 a.m.park.length,.rsl (Qb a.m.roads) 0 a.m.roads.length,.int .i64 a.l.hgt,.int .i64 a.l.wgt,.int .i64 a.l.fr,.int .i64 a.l.ready,.int .i64 a.l.drive,.int .i64 a.l.rest],false⟩,⟨true,0,1,true,[.nilSl],false⟩,⟨true,0,1,true,[.int .i64 (((soonR a to).2).ticks),.int .i64 (((soonR a to).2).legs)],false⟩,⟨true,0,0,true,((Qe v3)++[.clos 0 [.agg [.int .i64 pe.town,.int .i64 pe.used]] [.agg [.int .i64 0,.int .i64 0]]]),false⟩,⟨true,0,1,false,[.mp 3 0 false],false⟩,⟨false,1,1,true,[],false⟩,⟨true,0,0,false,(itA (.rmap (Qe (reachR a))) (Qe (reachR a)).length v6),false⟩,⟨true,g7,2,true,(QU v7),true⟩]⟩ [1,2,4,7,54,55,56] 8 [.b true,.ld (.agg [.int .i64 pe.town,.int .i64 pe.used]),.b true,.stop] [(decide ((k1:Int)<(k:Int)))=true,0≤(k1:Int)∧(k1:Int)<(v7.length:Int),g7=g7,g7=g7,((QU v7).drop (0+(Int.toNat (k1:Int))*2)).take 2=[.int .i64 pe.town,.int .i64 pe.used],2≤2,(pe.town == to)=true,Xw Try.prog 370 (.agg [.int .i64 pe.town,.int .i64 pe.used]) (Qe v3),InR .i64 ((k1:Int)+1)] hE.kind (hE.nogh0 _) ⟨hc0,(Qm h1),rfl,rfl,(rp cPla 2 0 2 h1),(by decide),hc1,(YR hc2),q10_3,trivial⟩ ?_
       rw [(show Qe v3++[.clos 0 [.agg [.int .i64 pe.town,.int .i64 pe.used]] [.agg [.int .i64 0,.int .i64 0]]]=Qe (v3++[(pe,(⟨0,0⟩:Cst))]) from (Xz cOuE v3 [(pe,(⟨0,0⟩:Cst))]).symm)]; exact (h g7)
   · have h:=h.2 (ne_of_beq_false hc1)
     exact sM [1,2,4,7,13,54,55,56,69] 9 [.b true,.ld (.agg [.int .i64 pe.town,.int .i64 pe.used]),.b false,.v (.clos 275 [] [.rptr [.rsl (rowB a.m.park) 0 a.m.park.length,.rsl (Qb a.m.roads) 0 a.m.roads.length,.int .i64 a.l.hgt,.int .i64 a.l.wgt,.int .i64 a.l.fr,.int .i64 a.l.ready,.int .i64 a.l.drive,.int .i64 a.l.rest] 0,.rptr [.int .i64 pe.town,.int .i64 pe.used] 0])] [(decide ((k1:Int)<(k:Int)))=true,0≤(k1:Int)∧(k1:Int)<(v7.length:Int),g7=g7,g7=g7,((QU v7).drop (0+(Int.toNat (k1:Int))*2)).take 2=[.int .i64 pe.town,.int .i64 pe.used],2≤2,(pe.town == to)=false,Qc Try.prog (.clos 239 [] []) [.agg [.rsl (rowB a.m.park) 0 a.m.park.length,.rsl (Qb a.m.roads) 0 a.m.roads.length,.int .i64 a.l.hgt,.int .i64 a.l.wgt,.int .i64 a.l.fr,.int .i64 a.l.ready,.int .i64 a.l.drive,.int .i64 a.l.rest],.agg [.int .i64 pe.town,.int .i64 pe.used]] (.clos 275 [] [.rptr [.rsl (rowB a.m.park) 0 a.m.park.length,.rsl (Qb a.m.roads) 0 a.m.roads.length,.int .i64 a.l.hgt,.int .i64 a.l.wgt,.int .i64 a.l.fr,.int .i64 a.l.ready,.int .i64 a.l.drive,.int .i64 a.l.rest] 0,.rptr [.int .i64 pe.town,.int .i64 pe.used] 0])] hE.kind (hE.nogh0 _) ⟨hc0,(Qm h1),rfl,rfl,(rp cPla 2 0 2 h1),(by decide),hc1,(u239 (QbI a pe)),trivial⟩ h
 · have h:=h.2 (odf hc0)
   exact QM (n:=400) (ds:=[]) (cs:=[(1,0,2)]) (live:=[1,2,4,7,20,21]) (m:=11) (evs:=[.b false,.stop]) (obs:=[(decide ((k1:Int)<(k:Int)))=false,2≤2,1≤1]) hE.kind (hE.nogh0 _) mixed (by kernel_rfl) ⟨hc0,(by decide),(by decide),trivial⟩ (h g7 0)
theorem f180W2 (a:Atl) (to:Int) (v3:List (Pla × Cst)) (v6:List Nat) (v7:List Pla) (v10:List Leg) (v8_0:Int) (v8_1:Int) (v9_0:Int) {E:Env} {R:AV→List Blk→Prop} (hE:NewRE Try.prog 180 R E)
 (h:∀ g7 g10:Nat,((¬ (v8_0=to)→f180Gr1 E a to v3 v6 v7 g7 (⟨v8_0,v8_1⟩:Pla) (v10,v8_0,v8_1,v9_0,g10))∧(v8_0=to→R (.tup [.sl 10 g10 0 v10.length 2,.bool true]) [⟨true,0,1,true,[.rsl (rowB a.m.park) 0 a.m.park.length,.rsl (Qb a.m.roads) 0 a.m.roads.length,.int .i64 a.l.hgt,.int .i64 a.l.wgt,.int .i64 a.l.fr,.int .i64 a.l.ready,.int .i64 a.l.drive,.int .i64 a.l.rest],false⟩,⟨true,0,1,false,[.sl 10 g10 0 v10.length 2],false⟩,⟨true,0,1,true,[.int .i64 (((soonR a to).2).ticks),.int .i64 (((soonR a to).2).legs)],false⟩,⟨true,0,0,true,(Qe v3),false⟩,⟨true,0,1,false,[.mp 3 0 false],false⟩,⟨false,1,1,true,[],false⟩,⟨true,0,0,false,(itA (.rmap (Qe (reachR a))) (Qe (reachR a)).length v6),false⟩,⟨true,g7,2,true,(QU v7),true⟩,⟨true,0,1,true,[.int .i64 v8_0,.int .i64 v8_1],false⟩,⟨true,0,1,true,[.int .i64 v9_0],false⟩,⟨true,g10,2,true,(Qn v10),true⟩]))):f180G2 E a to v3 v6 v7 v10 v8_0 v8_1 v9_0:=by
 intro g7 g10
 have h:=h g7 g10
 rcases bft (v8_0 != to) with hc0 | hc0
 · have h:=h.1 (bneT hc0)
   exact sM [1,2,4,7,20,21,122] 11 [.b true,.v (.clos 275 [] [.rptr [.rsl (rowB a.m.park) 0 a.m.park.length,.rsl (Qb a.m.roads) 0 a.m.roads.length,.int .i64 a.l.hgt,.int .i64 a.l.wgt,.int .i64 a.l.fr,.int .i64 a.l.ready,.int .i64 a.l.drive,.int .i64 a.l.rest] 0,.rptr [.int .i64 ((⟨v8_0,v8_1⟩:Pla).town),.int .i64 ((⟨v8_0,v8_1⟩:Pla).used)] 0])] [(v8_0 != to)=true,Qc Try.prog (.clos 239 [] []) [.agg [.rsl (rowB a.m.park) 0 a.m.park.length,.rsl (Qb a.m.roads) 0 a.m.roads.length,.int .i64 a.l.hgt,.int .i64 a.l.wgt,.int .i64 a.l.fr,.int .i64 a.l.ready,.int .i64 a.l.drive,.int .i64 a.l.rest],.agg [.int .i64 v8_0,.int .i64 v8_1]] (.clos 275 [] [.rptr [.rsl (rowB a.m.park) 0 a.m.park.length,.rsl (Qb a.m.roads) 0 a.m.roads.length,.int .i64 a.l.hgt,.int .i64 a.l.wgt,.int .i64 a.l.fr,.int .i64 a.l.ready,.int .i64 a.l.drive,.int .i64 a.l.rest] 0,.rptr [.int .i64 ((⟨v8_0,v8_1⟩:Pla).town),.int .i64 ((⟨v8_0,v8_1⟩:Pla).used)] 0])] hE.kind (hE.nogh0 _) ⟨hc0,(u239 (QbI a (⟨v8_0,v8_1⟩:Pla))),trivial⟩ h
 · have h:=h.2 (bneF hc0)
   exact hE.as h fun E' hE'=>eB (.tup [.sl 10 g10 0 v10.length 2,.bool true]) [⟨true,0,1,true,[.rsl (rowB a.m.park) 0 a.m.park.length,.rsl (Qb a.m.roads) 0 a.m.roads.length,.int .i64 a.l.hgt,.int .i64 a.l.wgt,.int .i64 a.l.fr,.int .i64 a.l.ready,.int .i64 a.l.drive,.int .i64 a.l.rest],false⟩,⟨true,0,1,false,[.sl 10 g10 0 v10.length 2],false⟩,⟨true,0,1,true,[.int .i64 (((soonR a to).2).ticks),.int .i64 (((soonR a to).2).legs)],false⟩,⟨true,0,0,true,(Qe v3),false⟩,⟨true,0,1,false,[.mp 3 0 false],false⟩,⟨false,1,1,true,[],false⟩,⟨true,0,0,false,(itA (.rmap (Qe (reachR a))) (Qe (reachR a)).length v6),false⟩,⟨true,g7,2,true,(QU v7),true⟩,⟨true,0,1,true,[.int .i64 v8_0,.int .i64 v8_1],false⟩,⟨true,0,1,true,[.int .i64 v9_0],false⟩,⟨true,g10,2,true,(Qn v10),true⟩] [4,5] 11 [.b false] [(v8_0 != to)=false,1≤1] hE' (hE'.nogh0 _) Try.func180 ⟨hc0,(by decide),trivial⟩ (by rfl) (by rfl)
theorem f180Wr0e (a:Atl) (to:Int) (v:Nat) (v1:Nat) (v11:Pla) (v6:List Nat) (v7:List Pla) (g7:Nat) (v8_0:Int) (v8_1:Int) (s:List (Pla × Cst)) {E:Env} {R:AV→List Blk→Prop} (hE:NewRE Try.prog 180 R E)
 (h:((I6 ((v1:Int)+1))∧f180G1 E a to v v6 v7 (v1+1) s)):G Try.prog E (VD (f180Kr0 Try.prog)) (f180Sr0 a to v v1 v11 v6 v7 g7 v8_0 v8_1 s):=by
 obtain ⟨q0_0,h⟩:=h
 exact sM [1,2,4,7,54,55,56] 8 [.stop] [InR .i64 ((v1:Int)+1)] hE.kind (hE.nogh0 _) ⟨q0_0,trivial⟩ (h g7)
theorem f180Wr1e (a:Atl) (to:Int) (v3:List (Pla × Cst)) (v6:List Nat) (v7:List Pla) (g7:Nat) (v:Pla) (s:List Leg × Int × Int × Int × Nat) {E:Env} {R:AV→List Blk→Prop} (hE:NewRE Try.prog 180 R E)
 (h:f180G2 E a to v3 v6 v7 s.1 s.2.1 s.2.2.1 s.2.2.2.1):G Try.prog E (VD (f180Kr1 Try.prog)) (f180Sr1 a to v3 v6 v7 g7 v s):=by
 exact sM [1,2,4,7,20,21] 11 [.stop] [] hE.kind (hE.nogh0 _) trivial (h g7 s.2.2.2.2)
theorem f180Wr1j (a:Atl) (to:Int) (v3:List (Pla × Cst)) (v6:List Nat) (v7:List Pla) (g7:Nat) (v:Pla) (s:List Leg × Int × Int × Int × Nat) {E:Env} {R:AV→List Blk→Prop} (hE:NewRE Try.prog 180 R E)
 (h:f180G2 E a to v3 v6 v7 s.1 s.2.1 s.2.2.1 s.2.2.2.1):G Try.prog E (.code (.exit 8) :: VD (f180Kr1 Try.prog)) (f180Sr1 a to v3 v6 v7 g7 v s):=by
 exact sM [1,2,4,7,20,21] 11 [.stop] [] hE.kind (hE.nogh0 _) trivial (h g7 s.2.2.2.2)
theorem f180W0 (a:Atl) (to:Int) (v7:List Pla) (v6:List Nat) {E:Env} {R:AV→List Blk→Prop} (hE:NewRE Try.prog 180 R E)
 (h:(∀ s:Nat,s<(reachR a).length→s ∉ v6→f180G0n E a to v7 v6 s)∧((∀ s:Nat,s<(reachR a).length→s ∈ v6)→f180G0x E a to v7 v6)):f180G0 E a to v7 v6:=by
 intro g7
 have hl:(Qe (reachR a)).length=(reachR a).length:=by exact QaX
 refine next_head (ki:=6) (n:=(Qe (reachR a)).length) (cells:=(Qe (reachR a))) (seen:=v6) hE.kind (it:=.tmp 37) (d:=38) (mref:=(.rmap (Qe (reachR a)))) (by kernel_rfl) (by rfl) (by rfl) (.inr rfl) rfl (fun s h1 h2=>?_) (fun h1=>?_)
 · exact h.1 s (by rw [← hl]; exact h1) h2 g7
 · exact h.2 (fun s h2=>h1 s (by rw [hl]; exact h2)) g7
theorem f180Ar0 (a:Atl) (to:Int) (v:Nat) (v1:Nat) (v11:Pla) (v6:List Nat) (v7:List Pla) (g7:Nat) (v8_0:Int) (v8_1:Int) (s:List (Pla × Cst)) (x:Way) {E:Env} (hE:RoundE (f180Sr0 a to v v1 v11 v6 v7 g7 v8_0 v8_1 s).tmps E) (hg:G Try.prog E [.beginRound,.code (XA (f180Kr0 Try.prog))] (f180Tr0 a to v v1 v11 v6 v7 g7 v8_0 v8_1 s x)):G Try.prog E [.code (Vp (f180Kr0 Try.prog)),.beginRound,.code (XA (f180Kr0 Try.prog))] ⟨WS (f180Sr0 a to v v1 v11 v6 v7 g7 v8_0 v8_1 s).tmps [70] (qy x),(f180Sr0 a to v v1 v11 v6 v7 g7 v8_0 v8_1 s).blks⟩ :=
 sM [0,1,2,3,4,5,6,7,8,9,10,11,12,13,14,15,16,17,18,19,20,21,22,23,24,25,26,27,28,29,30,31,32,33,34,35,36,37,38,39,40,41,42,43,44,45,46,47,48,49,50,51,52,53,54,55,56,57,58,59,60,61,62,63,64,65,66,67,68,69,70,71,72,73,74,75,76,77,78,79,80,81,82,83,84,85,86,87,88,89,90,91,92,93,94,95,96,97,98,99,100,101,102,103,104,105,106,107,108,109,110,111,112,113,114,115,116,117,118,119,120,121,122,123,124,125,126,127,128,129,130,131,132,133,134,135,136,137,138,139,140,141,142,143,144,145,146,147,148,149,150,151,152,153,154,155,156,157,158,159,160,161,162,163,164,165,166] 10 [] [6≤6] hE.kind (by rw [hE.gA]; kernel_rfl) ⟨(by decide),trivial⟩ hg
theorem f180Br0 (a:Atl) (to:Int) (v:Nat) (v1:Nat) (v11:Pla) (v6:List Nat) (v7:List Pla) (g7:Nat) (v8_0:Int) (v8_1:Int) (s:List (Pla × Cst)) (x:Way) {rq:(List (Pla × Cst)) × Bool} {E:Env} (hE:RoundE (f180Sr0 a to v v1 v11 v6 v7 g7 v8_0 v8_1 s).tmps E) (hQ:qi (fun s=>(f180Sr0 a to v v1 v11 v6 v7 g7 v8_0 v8_1 s).blks) (.ret) rq E)
 (h:(((QJ s x.to)=true→(∃ mi:Nat,True∧(∃ me:(Pla × Cst),PlAt s x.to mi me∧((I6 (me.2.ticks+x.c.ticks))∧((I6 (me.2.legs+1))∧(((QJ s (⟨v8_0,v8_1⟩:Pla))=true→(∃ mi1:Nat,True∧(∃ me1:(Pla × Cst),PlAt s (⟨v8_0,v8_1⟩:Pla) mi1 me1∧((XZ (⟨(me.2.ticks+x.c.ticks),(me.2.legs+1)⟩:Cst)∧XZ me1.2)∧(((cmpC (⟨(me.2.ticks+x.c.ticks),(me.2.legs+1)⟩:Cst) me1.2)<0→(∃ mi2:Nat,True∧(∃ me2:(Pla × Cst),PlAt s (⟨v8_0,v8_1⟩:Pla) mi2 me2∧rq=((s.set mi2 ((⟨v8_0,v8_1⟩:Pla),(⟨(me.2.ticks+x.c.ticks),(me.2.legs+1)⟩:Cst))),true))))∧(¬ ((cmpC (⟨(me.2.ticks+x.c.ticks),(me.2.legs+1)⟩:Cst) me1.2)<0)→rq=(s,true)))))))∧((QJ s (⟨v8_0,v8_1⟩:Pla))=false→rq=((s++[((⟨v8_0,v8_1⟩:Pla),(⟨(me.2.ticks+x.c.ticks),(me.2.legs+1)⟩:Cst))]),true))))))))∧((QJ s x.to)=false→((I6 (0+x.c.ticks))∧(((QJ s (⟨v8_0,v8_1⟩:Pla))=true→(∃ mi:Nat,True∧(∃ me:(Pla × Cst),PlAt s (⟨v8_0,v8_1⟩:Pla) mi me∧rq=(s,true))))∧((QJ s (⟨v8_0,v8_1⟩:Pla))=false→rq=(s,true))))))):G Try.prog E [.code (XA (f180Kr0 Try.prog))] (f180Tr0 a to v v1 v11 v6 v7 g7 v8_0 v8_1 s x):=by
 rcases bft (QJ s x.to) with hc0 | hc0
 · have h:=h.1 hc0
   obtain ⟨mi,h1,h⟩:=h
   obtain ⟨me,h2,h⟩:=h
   obtain ⟨q4_1,h⟩:=h
   obtain ⟨q5_1,h⟩:=h
   rcases bft (QJ s (⟨v8_0,v8_1⟩:Pla)) with hc1 | hc1
   · have h:=h.1 hc1
     obtain ⟨mi1,h3,h⟩:=h
     obtain ⟨me1,h4,h⟩:=h
     obtain ⟨h5,h⟩:=h
     rcases bft (decide ((cmpC (⟨(me.2.ticks+x.c.ticks),(me.2.legs+1)⟩:Cst) me1.2)<0)) with hc2 | hc2
     · have h:=h.1 (odt hc2)
       obtain ⟨mi2,h6,h⟩:=h
       obtain ⟨me2,h7,h⟩:=h
       exact sK [] ⟨(Js 167),[⟨true,0,1,true,[.rsl (rowB a.m.park) 0 a.m.park.length,.rsl (Qb a.m.roads) 0 a.m.roads.length,.int .i64 a.l.hgt,.int .i64 a.l.wgt,.int .i64 a.l.fr,.int .i64 a.l.ready,.int .i64 a.l.drive,.int .i64 a.l.rest],false⟩,⟨true,0,1,true,[.nilSl],false⟩,⟨true,0,1,true,[.int .i64 (((soonR a to).2).ticks),.int .i64 (((soonR a to).2).legs)],false⟩,⟨true,0,0,true,((Qe s).set mi2 (.clos 0 [.agg [.int .i64 v8_0,.int .i64 v8_1]] [.agg [.int .i64 (me.2.ticks+x.c.ticks),.int .i64 (me.2.legs+1)]])),false⟩,⟨true,0,1,false,[.mp 3 0 false],false⟩,⟨false,1,1,true,[],false⟩,⟨true,0,0,false,(itA (.rmap (Qe (reachR a))) (Qe (reachR a)).length v6),false⟩,⟨true,g7,2,true,(QU v7),true⟩,⟨true,0,1,true,[.int .i64 v8_0,.int .i64 v8_1],false⟩]⟩ [] 9 [.mfound mi (.agg [.int .i64 me.2.ticks,.int .i64 me.2.legs]),.mfound mi1 (.agg [.int .i64 me1.2.ticks,.int .i64 me1.2.legs]),.b true,.b false,.v (.int .i64 (cmpC (⟨(me.2.ticks+x.c.ticks),(me.2.legs+1)⟩:Cst) me1.2)),.b true,.mup mi2 (.agg [.int .i64 me2.2.ticks,.int .i64 me2.2.legs])] [XY Try.prog 370 (.agg [.int .i64 x.to.town,.int .i64 x.to.used]) (Qe s) mi (.agg [.int .i64 me.2.ticks,.int .i64 me.2.legs]),2≤2,InR .i64 (me.2.ticks+x.c.ticks),InR .i64 (me.2.legs+1),2≤2,XY Try.prog 370 (.agg [.int .i64 v8_0,.int .i64 v8_1]) (Qe s) mi1 (.agg [.int .i64 me1.2.ticks,.int .i64 me1.2.legs]),2≤2,true=true,false=false,Qc Try.prog (.clos 236 [] []) [.agg [.int .i64 (me.2.ticks+x.c.ticks),.int .i64 (me.2.legs+1)],.agg [.int .i64 me1.2.ticks,.int .i64 me1.2.legs]] (.int .i64 (cmpC (⟨(me.2.ticks+x.c.ticks),(me.2.legs+1)⟩:Cst) me1.2)),(decide ((cmpC (⟨(me.2.ticks+x.c.ticks),(me.2.legs+1)⟩:Cst) me1.2)<0))=true,XY Try.prog 370 (.agg [.int .i64 v8_0,.int .i64 v8_1]) (Qe s) mi2 (.agg [.int .i64 me2.2.ticks,.int .i64 me2.2.legs])] hE.kind (by rw [hE.gA]; kernel_rfl) ⟨(Vo h2),(by decide),q4_1,q5_1,(by decide),(Vo h4),(by decide),rfl,rfl,(u236 (YJ (⟨(me.2.ticks+x.c.ticks),(me.2.legs+1)⟩:Cst) me1.2 h5)),hc2,(Vo h7),trivial⟩ (by exact XV hQ h (by rw [(show (Qe s).set mi2 (.clos 0 [.agg [.int .i64 v8_0,.int .i64 v8_1]] [.agg [.int .i64 (me.2.ticks+x.c.ticks),.int .i64 (me.2.legs+1)]])=Qe (s.set mi2 ((⟨v8_0,v8_1⟩:Pla),(⟨(me.2.ticks+x.c.ticks),(me.2.legs+1)⟩:Cst))) from setOuE s mi2 ((⟨v8_0,v8_1⟩:Pla),(⟨(me.2.ticks+x.c.ticks),(me.2.legs+1)⟩:Cst)))]; first | rfl | (simp only [f180Sr0,List.length_set])))
     · have h:=h.2 (odf hc2)
       exact sK [] ⟨(Js 167),[⟨true,0,1,true,[.rsl (rowB a.m.park) 0 a.m.park.length,.rsl (Qb a.m.roads) 0 a.m.roads.length,.int .i64 a.l.hgt,.int .i64 a.l.wgt,.int .i64 a.l.fr,.int .i64 a.l.ready,.int .i64 a.l.drive,.int .i64 a.l.rest],false⟩,⟨true,0,1,true,[.nilSl],false⟩,⟨true,0,1,true,[.int .i64 (((soonR a to).2).ticks),.int .i64 (((soonR a to).2).legs)],false⟩,⟨true,0,0,true,(Qe s),false⟩,⟨true,0,1,false,[.mp 3 0 false],false⟩,⟨false,1,1,true,[],false⟩,⟨true,0,0,false,(itA (.rmap (Qe (reachR a))) (Qe (reachR a)).length v6),false⟩,⟨true,g7,2,true,(QU v7),true⟩,⟨true,0,1,true,[.int .i64 v8_0,.int .i64 v8_1],false⟩]⟩ [] 9 [.mfound mi (.agg [.int .i64 me.2.ticks,.int .i64 me.2.legs]),.mfound mi1 (.agg [.int .i64 me1.2.ticks,.int .i64 me1.2.legs]),.b true,.b false,.v (.int .i64 (cmpC (⟨(me.2.ticks+x.c.ticks),(me.2.legs+1)⟩:Cst) me1.2)),.b false] [XY Try.prog 370 (.agg [.int .i64 x.to.town,.int .i64 x.to.used]) (Qe s) mi (.agg [.int .i64 me.2.ticks,.int .i64 me.2.legs]),2≤2,InR .i64 (me.2.ticks+x.c.ticks),InR .i64 (me.2.legs+1),2≤2,XY Try.prog 370 (.agg [.int .i64 v8_0,.int .i64 v8_1]) (Qe s) mi1 (.agg [.int .i64 me1.2.ticks,.int .i64 me1.2.legs]),2≤2,true=true,false=false,Qc Try.prog (.clos 236 [] []) [.agg [.int .i64 (me.2.ticks+x.c.ticks),.int .i64 (me.2.legs+1)],.agg [.int .i64 me1.2.ticks,.int .i64 me1.2.legs]] (.int .i64 (cmpC (⟨(me.2.ticks+x.c.ticks),(me.2.legs+1)⟩:Cst) me1.2)),(decide ((cmpC (⟨(me.2.ticks+x.c.ticks),(me.2.legs+1)⟩:Cst) me1.2)<0))=false] hE.kind (by rw [hE.gA]; kernel_rfl) ⟨(Vo h2),(by decide),q4_1,q5_1,(by decide),(Vo h4),(by decide),rfl,rfl,(u236 (YJ (⟨(me.2.ticks+x.c.ticks),(me.2.legs+1)⟩:Cst) me1.2 h5)),hc2,trivial⟩ (by exact XV hQ h rfl)
   · have h:=h.2 hc1
     exact sK [] ⟨(Js 167),[⟨true,0,1,true,[.rsl (rowB a.m.park) 0 a.m.park.length,.rsl (Qb a.m.roads) 0 a.m.roads.length,.int .i64 a.l.hgt,.int .i64 a.l.wgt,.int .i64 a.l.fr,.int .i64 a.l.ready,.int .i64 a.l.drive,.int .i64 a.l.rest],false⟩,⟨true,0,1,true,[.nilSl],false⟩,⟨true,0,1,true,[.int .i64 (((soonR a to).2).ticks),.int .i64 (((soonR a to).2).legs)],false⟩,⟨true,0,0,true,((Qe s)++[.clos 0 [.agg [.int .i64 v8_0,.int .i64 v8_1]] [.agg [.int .i64 (me.2.ticks+x.c.ticks),.int .i64 (me.2.legs+1)]]]),false⟩,⟨true,0,1,false,[.mp 3 0 false],false⟩,⟨false,1,1,true,[],false⟩,⟨true,0,0,false,(itA (.rmap (Qe (reachR a))) (Qe (reachR a)).length v6),false⟩,⟨true,g7,2,true,(QU v7),true⟩,⟨true,0,1,true,[.int .i64 v8_0,.int .i64 v8_1],false⟩]⟩ [] 9 [.mfound mi (.agg [.int .i64 me.2.ticks,.int .i64 me.2.legs]),.mnone,.b true,.b true,.b true] [XY Try.prog 370 (.agg [.int .i64 x.to.town,.int .i64 x.to.used]) (Qe s) mi (.agg [.int .i64 me.2.ticks,.int .i64 me.2.legs]),2≤2,InR .i64 (me.2.ticks+x.c.ticks),InR .i64 (me.2.legs+1),2≤2,Xw Try.prog 370 (.agg [.int .i64 v8_0,.int .i64 v8_1]) (Qe s),2≤2,true=true,true=true,true=true,Xw Try.prog 370 (.agg [.int .i64 v8_0,.int .i64 v8_1]) (Qe s)] hE.kind (by rw [hE.gA]; kernel_rfl) ⟨(Vo h2),(by decide),q4_1,q5_1,(by decide),(YR hc1),(by decide),rfl,rfl,rfl,(YR hc1),trivial⟩ (by exact XV hQ h (by rw [(show Qe s++[.clos 0 [.agg [.int .i64 v8_0,.int .i64 v8_1]] [.agg [.int .i64 (me.2.ticks+x.c.ticks),.int .i64 (me.2.legs+1)]]]=Qe (s++[((⟨v8_0,v8_1⟩:Pla),(⟨(me.2.ticks+x.c.ticks),(me.2.legs+1)⟩:Cst))]) from (Xz cOuE s [((⟨v8_0,v8_1⟩:Pla),(⟨(me.2.ticks+x.c.ticks),(me.2.legs+1)⟩:Cst))]).symm)]; first | rfl | (simp only [f180Sr0,List.length_set])))
 · have h:=h.2 hc0
   obtain ⟨q3_1,h⟩:=h
   rcases bft (QJ s (⟨v8_0,v8_1⟩:Pla)) with hc1 | hc1
   · have h:=h.1 hc1
     obtain ⟨mi,h1,h⟩:=h
     obtain ⟨me,h2,h⟩:=h
     exact sK [] ⟨(Js 167),[⟨true,0,1,true,[.rsl (rowB a.m.park) 0 a.m.park.length,.rsl (Qb a.m.roads) 0 a.m.roads.length,.int .i64 a.l.hgt,.int .i64 a.l.wgt,.int .i64 a.l.fr,.int .i64 a.l.ready,.int .i64 a.l.drive,.int .i64 a.l.rest],false⟩,⟨true,0,1,true,[.nilSl],false⟩,⟨true,0,1,true,[.int .i64 (((soonR a to).2).ticks),.int .i64 (((soonR a to).2).legs)],false⟩,⟨true,0,0,true,(Qe s),false⟩,⟨true,0,1,false,[.mp 3 0 false],false⟩,⟨false,1,1,true,[],false⟩,⟨true,0,0,false,(itA (.rmap (Qe (reachR a))) (Qe (reachR a)).length v6),false⟩,⟨true,g7,2,true,(QU v7),true⟩,⟨true,0,1,true,[.int .i64 v8_0,.int .i64 v8_1],false⟩]⟩ [] 9 [.mnone,.mfound mi (.agg [.int .i64 me.2.ticks,.int .i64 me.2.legs]),.b false,.b false] [Xw Try.prog 370 (.agg [.int .i64 x.to.town,.int .i64 x.to.used]) (Qe s),2≤2,InR .i64 (0+x.c.ticks),InR .i64 1,2≤2,XY Try.prog 370 (.agg [.int .i64 v8_0,.int .i64 v8_1]) (Qe s) mi (.agg [.int .i64 me.2.ticks,.int .i64 me.2.legs]),2≤2,false=false,false=false] hE.kind (by rw [hE.gA]; kernel_rfl) ⟨(YR hc0),(by decide),q3_1,(⟨by decide,by decide⟩),(by decide),(Vo h2),(by decide),rfl,rfl,trivial⟩ (by exact XV hQ h rfl)
   · have h:=h.2 hc1
     exact sK [] ⟨(Js 167),[⟨true,0,1,true,[.rsl (rowB a.m.park) 0 a.m.park.length,.rsl (Qb a.m.roads) 0 a.m.roads.length,.int .i64 a.l.hgt,.int .i64 a.l.wgt,.int .i64 a.l.fr,.int .i64 a.l.ready,.int .i64 a.l.drive,.int .i64 a.l.rest],false⟩,⟨true,0,1,true,[.nilSl],false⟩,⟨true,0,1,true,[.int .i64 (((soonR a to).2).ticks),.int .i64 (((soonR a to).2).legs)],false⟩,⟨true,0,0,true,(Qe s),false⟩,⟨true,0,1,false,[.mp 3 0 false],false⟩,⟨false,1,1,true,[],false⟩,⟨true,0,0,false,(itA (.rmap (Qe (reachR a))) (Qe (reachR a)).length v6),false⟩,⟨true,g7,2,true,(QU v7),true⟩,⟨true,0,1,true,[.int .i64 v8_0,.int .i64 v8_1],false⟩]⟩ [] 9 [.mnone,.mnone,.b false,.b false] [Xw Try.prog 370 (.agg [.int .i64 x.to.town,.int .i64 x.to.used]) (Qe s),2≤2,InR .i64 (0+x.c.ticks),InR .i64 1,2≤2,Xw Try.prog 370 (.agg [.int .i64 v8_0,.int .i64 v8_1]) (Qe s),2≤2,false=false,false=false] hE.kind (by rw [hE.gA]; kernel_rfl) ⟨(YR hc0),(by decide),q3_1,(⟨by decide,by decide⟩),(by decide),(YR hc1),(by decide),rfl,rfl,trivial⟩ (by exact XV hQ h rfl)
theorem f180Rr0 (a:Atl) (to:Int) (v:Nat) (v1:Nat) (v11:Pla) (v6:List Nat) (v7:List Pla) (g7:Nat) (v8_0:Int) (v8_1:Int) (s0:List (Pla × Cst)) {E:Env} {R:AV→List Blk→Prop} (hE:NewRE Try.prog 180 R E) (step:(List (Pla × Cst))→(Way)→(List (Pla × Cst)))
 (h:(AtlOk a∧PlaOk a v11)∧(∀ (i:Nat) (x:Way) (s:List (Pla × Cst)),(XD a v11)[i]?=some x→s=((XD a v11).take i).foldl step s0→(((QJ s x.to)=true→(∃ mi:Nat,True∧(∃ me:(Pla × Cst),PlAt s x.to mi me∧((I6 (me.2.ticks+x.c.ticks))∧((I6 (me.2.legs+1))∧(((QJ s (⟨v8_0,v8_1⟩:Pla))=true→(∃ mi1:Nat,True∧(∃ me1:(Pla × Cst),PlAt s (⟨v8_0,v8_1⟩:Pla) mi1 me1∧((XZ (⟨(me.2.ticks+x.c.ticks),(me.2.legs+1)⟩:Cst)∧XZ me1.2)∧(((cmpC (⟨(me.2.ticks+x.c.ticks),(me.2.legs+1)⟩:Cst) me1.2)<0→(∃ mi2:Nat,True∧(∃ me2:(Pla × Cst),PlAt s (⟨v8_0,v8_1⟩:Pla) mi2 me2∧step s x=(s.set mi2 ((⟨v8_0,v8_1⟩:Pla),(⟨(me.2.ticks+x.c.ticks),(me.2.legs+1)⟩:Cst))))))∧(¬ ((cmpC (⟨(me.2.ticks+x.c.ticks),(me.2.legs+1)⟩:Cst) me1.2)<0)→step s x=s))))))∧((QJ s (⟨v8_0,v8_1⟩:Pla))=false→step s x=(s++[((⟨v8_0,v8_1⟩:Pla),(⟨(me.2.ticks+x.c.ticks),(me.2.legs+1)⟩:Cst))]))))))))∧((QJ s x.to)=false→((I6 (0+x.c.ticks))∧(((QJ s (⟨v8_0,v8_1⟩:Pla))=true→(∃ mi:Nat,True∧(∃ me:(Pla × Cst),PlAt s (⟨v8_0,v8_1⟩:Pla) mi me∧step s x=s)))∧((QJ s (⟨v8_0,v8_1⟩:Pla))=false→step s x=s))))))∧(∀ s:List (Pla × Cst),s=(XD a v11).foldl step s0→((I6 ((v1:Int)+1))∧f180G1 E a to v v6 v7 (v1+1) s))):f180Gr0 E a to v v1 v11 v6 v7 g7 v8_0 v8_1 s0:=by
 have hT:(f180Sr0 a to v v1 v11 v6 v7 g7 v8_0 v8_1 s0).tmps++E.gA=(f180Sr0 a to v v1 v11 v6 v7 g7 v8_0 v8_1 s0).tmps:=by rw [hE.gA,List.append_nil]
 refine VE (σ:=List (Pla × Cst)) (X:=Way) (arg:=qy) (L:=(XD a v11)) (jump:=.ret) (g:=.tmp 69) (ps:=#[70]) (fun s=>(f180Sr0 a to v v1 v11 v6 v7 g7 v8_0 v8_1 s).blks) (fun s x=>(f180Tr0 a to v v1 v11 v6 v7 g7 v8_0 v8_1 s x)) (fun s x=>(step s x,true)) s0 hE.ro hE.kind (by kernel_rfl) rfl rfl (ways_it a v11 h.1) rfl (fun x=>rfl) (fun s x E' hR hg=>?_) (fun i x s hx hs E' hR hQ=>?_) (fun s hs=>?_) (fun s hs=>?_)
 · rw [hT] at hR; exact f180Ar0 a to v v1 v11 v6 v7 g7 v8_0 v8_1 s x hR hg
 · rw [hT] at hR; rw [Xx] at hs; simp only [Prod.mk.injEq,and_true] at hs; refine f180Br0 a to v v1 v11 v6 v7 g7 v8_0 v8_1 s x hR hQ ?_
   have h:=h.2.1 i x s hx hs.symm
   simpa only [Prod.mk.injEq,and_true] using h
 · rw [Xx] at hs; simp only [Prod.mk.injEq,and_true] at hs; exact f180Wr0e a to v v1 v11 v6 v7 g7 v8_0 v8_1 s hE (h.2.2 s hs.symm)
 · rw [Xx] at hs; simp at hs
theorem f180Ar1 (a:Atl) (to:Int) (v3:List (Pla × Cst)) (v6:List Nat) (v7:List Pla) (g7:Nat) (v:Pla) (s:List Leg × Int × Int × Int × Nat) (x:Way) {E:Env} (hE:RoundE (f180Sr1 a to v3 v6 v7 g7 v s).tmps E) (hg:G Try.prog E [.beginRound,.code (XA (f180Kr1 Try.prog))] (f180Tr1 a to v3 v6 v7 g7 v s x)):G Try.prog E [.code (Vp (f180Kr1 Try.prog)),.beginRound,.code (XA (f180Kr1 Try.prog))] ⟨WS (f180Sr1 a to v3 v6 v7 g7 v s).tmps [123] (qy x),(f180Sr1 a to v3 v6 v7 g7 v s).blks⟩ :=
 sM [0,1,2,3,4,5,6,7,8,9,10,11,12,13,14,15,16,17,18,19,20,21,22,23,24,25,26,27,28,29,30,31,32,33,34,35,36,37,38,39,40,41,42,43,44,45,46,47,48,49,50,51,52,53,54,55,56,57,58,59,60,61,62,63,64,65,66,67,68,69,70,71,72,73,74,75,76,77,78,79,80,81,82,83,84,85,86,87,88,89,90,91,92,93,94,95,96,97,98,99,100,101,102,103,104,105,106,107,108,109,110,111,112,113,114,115,116,117,118,119,120,121,122,123,124,125,126,127,128,129,130,131,132,133,134,135,136,137,138,139,140,141,142,143,144,145,146,147,148,149,150,151,152,153,154,155,156,157,158,159,160,161,162,163,164,165,166] 12 [] [6≤6] hE.kind (by rw [hE.gA]; kernel_rfl) ⟨(by decide),trivial⟩ hg
theorem f180Br1 (a:Atl) (to:Int) (v3:List (Pla × Cst)) (v6:List Nat) (v7:List Pla) (g7:Nat) (v:Pla) (s:List Leg × Int × Int × Int × Nat) (x:Way) {rq:(List Leg × Int × Int × Int × Nat) × Bool} {E:Env} (hE:RoundE (f180Sr1 a to v3 v6 v7 g7 v s).tmps E) (hQ:qi (fun s=>(f180Sr1 a to v3 v6 v7 g7 v s).blks) (.exit 8) rq E)
 (h:(((QJ v3 x.to)=true→(∃ mi:Nat,True∧(∃ me:(Pla × Cst),PlAt v3 x.to mi me∧((I6 (me.2.ticks+x.c.ticks))∧((I6 (me.2.legs+1))∧(((QJ v3 (⟨s.2.1,s.2.2.1⟩:Pla))=true→(∃ mi1:Nat,True∧(∃ me1:(Pla × Cst),PlAt v3 (⟨s.2.1,s.2.2.1⟩:Pla) mi1 me1∧((((me.2.ticks+x.c.ticks) == me1.2.ticks && ((me.2.legs+1) == me1.2.legs && true))=false→rq=((s.1,s.2.1,s.2.2.1,s.2.2.2.1,s.2.2.2.2),true))∧(((me.2.ticks+x.c.ticks) == me1.2.ticks && ((me.2.legs+1) == me1.2.legs && true))=true→((I6 (s.2.2.2.1+x.rest))∧((s.1.length+1)≤2147483648∧((I6 (s.2.2.2.1+x.c.ticks))∧rq=(((s.1++[(⟨x.road,(s.2.2.2.1+x.rest)⟩:Leg)]),x.to.town,x.to.used,(s.2.2.2.1+x.c.ticks),(s.2.2.2.2+1)),false)))))))))∧((QJ v3 (⟨s.2.1,s.2.2.1⟩:Pla))=false→((((me.2.ticks+x.c.ticks) == 0 && ((me.2.legs+1) == 0 && true))=false→rq=((s.1,s.2.1,s.2.2.1,s.2.2.2.1,s.2.2.2.2),true))∧(((me.2.ticks+x.c.ticks) == 0 && ((me.2.legs+1) == 0 && true))=true→((I6 (s.2.2.2.1+x.rest))∧((s.1.length+1)≤2147483648∧((I6 (s.2.2.2.1+x.c.ticks))∧rq=(((s.1++[(⟨x.road,(s.2.2.2.1+x.rest)⟩:Leg)]),x.to.town,x.to.used,(s.2.2.2.1+x.c.ticks),(s.2.2.2.2+1)),false)))))))))))))∧((QJ v3 x.to)=false→rq=((s.1,s.2.1,s.2.2.1,s.2.2.2.1,s.2.2.2.2),true)))):G Try.prog E [.code (XA (f180Kr1 Try.prog))] (f180Tr1 a to v3 v6 v7 g7 v s x):=by
 rcases bft (QJ v3 x.to) with hc0 | hc0
 · have h:=h.1 hc0
   obtain ⟨mi,h1,h⟩:=h
   obtain ⟨me,h2,h⟩:=h
   obtain ⟨q5_1,h⟩:=h
   obtain ⟨q6_1,h⟩:=h
   rcases bft (QJ v3 (⟨s.2.1,s.2.2.1⟩:Pla)) with hc1 | hc1
   · have h:=h.1 hc1
     obtain ⟨mi1,h3,h⟩:=h
     obtain ⟨me1,h4,h⟩:=h
     rcases bft (!((me.2.ticks+x.c.ticks) == me1.2.ticks && ((me.2.legs+1) == me1.2.legs && true))) with hc2 | hc2
     · have h:=h.1 (bnT hc2)
       exact sK [] ⟨(Js 167),[⟨true,0,1,true,[.rsl (rowB a.m.park) 0 a.m.park.length,.rsl (Qb a.m.roads) 0 a.m.roads.length,.int .i64 a.l.hgt,.int .i64 a.l.wgt,.int .i64 a.l.fr,.int .i64 a.l.ready,.int .i64 a.l.drive,.int .i64 a.l.rest],false⟩,⟨true,0,1,false,[.sl 10 s.2.2.2.2 0 s.1.length 2],false⟩,⟨true,0,1,true,[.int .i64 (((soonR a to).2).ticks),.int .i64 (((soonR a to).2).legs)],false⟩,⟨true,0,0,true,(Qe v3),false⟩,⟨true,0,1,false,[.mp 3 0 false],false⟩,⟨false,1,1,true,[],false⟩,⟨true,0,0,false,(itA (.rmap (Qe (reachR a))) (Qe (reachR a)).length v6),false⟩,⟨true,g7,2,true,(QU v7),true⟩,⟨true,0,1,true,[.int .i64 s.2.1,.int .i64 s.2.2.1],false⟩,⟨true,0,1,true,[.int .i64 s.2.2.2.1],false⟩,⟨true,s.2.2.2.2,2,true,(Qn s.1),true⟩]⟩ [] 11 [.mfound mi (.agg [.int .i64 me.2.ticks,.int .i64 me.2.legs]),.b false,.mfound mi1 (.agg [.int .i64 me1.2.ticks,.int .i64 me1.2.legs]),.b true] [XY Try.prog 370 (.agg [.int .i64 x.to.town,.int .i64 x.to.used]) (Qe v3) mi (.agg [.int .i64 me.2.ticks,.int .i64 me.2.legs]),2≤2,false=false,InR .i64 (me.2.ticks+x.c.ticks),InR .i64 (me.2.legs+1),XY Try.prog 370 (.agg [.int .i64 s.2.1,.int .i64 s.2.2.1]) (Qe v3) mi1 (.agg [.int .i64 me1.2.ticks,.int .i64 me1.2.legs]),(!((me.2.ticks+x.c.ticks) == me1.2.ticks && ((me.2.legs+1) == me1.2.legs && true)))=true] hE.kind (by rw [hE.gA]; kernel_rfl) ⟨(Vo h2),(by decide),rfl,q5_1,q6_1,(Vo h4),hc2,trivial⟩ (by exact XV hQ h rfl)
     · have h:=h.2 (bnF hc2)
       obtain ⟨q11_3,h⟩:=h
       obtain ⟨h5,h⟩:=h
       obtain ⟨q17_3,h⟩:=h
       exact sK (kAt 400 [.code (XA (f180Kr1 Try.prog))] [.b false]) ⟨(Js 167),[⟨true,0,1,true,[.rsl (rowB a.m.park) 0 a.m.park.length,.rsl (Qb a.m.roads) 0 a.m.roads.length,.int .i64 a.l.hgt,.int .i64 a.l.wgt,.int .i64 a.l.fr,.int .i64 a.l.ready,.int .i64 a.l.drive,.int .i64 a.l.rest],false⟩,⟨true,0,1,false,[.sl 10 (s.2.2.2.2+1) 0 (s.1.length+1) 2],false⟩,⟨true,0,1,true,[.int .i64 (((soonR a to).2).ticks),.int .i64 (((soonR a to).2).legs)],false⟩,⟨true,0,0,true,(Qe v3),false⟩,⟨true,0,1,false,[.mp 3 0 false],false⟩,⟨false,1,1,true,[],false⟩,⟨true,0,0,false,(itA (.rmap (Qe (reachR a))) (Qe (reachR a)).length v6),false⟩,⟨true,g7,2,true,(QU v7),true⟩,⟨true,0,1,true,[.int .i64 x.to.town,.int .i64 x.to.used],false⟩,⟨true,0,1,true,[.int .i64 (s.2.2.2.1+x.c.ticks)],false⟩,⟨true,(s.2.2.2.2+1),2,true,((Qn s.1)++[.int .i64 x.road,.int .i64 (s.2.2.2.1+x.rest)]),true⟩]⟩ [] 11 [.mfound mi (.agg [.int .i64 me.2.ticks,.int .i64 me.2.legs]),.b false,.mfound mi1 (.agg [.int .i64 me1.2.ticks,.int .i64 me1.2.legs]),.b false] [XY Try.prog 370 (.agg [.int .i64 x.to.town,.int .i64 x.to.used]) (Qe v3) mi (.agg [.int .i64 me.2.ticks,.int .i64 me.2.legs]),2≤2,false=false,InR .i64 (me.2.ticks+x.c.ticks),InR .i64 (me.2.legs+1),XY Try.prog 370 (.agg [.int .i64 s.2.1,.int .i64 s.2.2.1]) (Qe v3) mi1 (.agg [.int .i64 me1.2.ticks,.int .i64 me1.2.legs]),(!((me.2.ticks+x.c.ticks) == me1.2.ticks && ((me.2.legs+1) == me1.2.legs && true)))=false,InR .i64 (s.2.2.2.1+x.rest),s.2.2.2.2=s.2.2.2.2,(0+(s.1.length*2))=(Qn s.1).length,(s.1.length+1)≤2147483648,0=0,1≤1,InR .i64 (s.2.2.2.1+x.c.ticks),1≤1,2≤2] hE.kind (by rw [hE.gA]; kernel_rfl) ⟨(Vo h2),(by decide),rfl,q5_1,q6_1,(Vo h4),hc2,q11_3,rfl,(by have hx:=QG cLeg (s:=2) (fun _=>rfl) s.1; simp only [Qn] at hx ⊢; rw [hx]; simp),h5,rfl,(by decide),q17_3,(by decide),(by decide),trivial⟩ (by exact yh hQ h (by kernel_rfl) (by rw [(show Qn s.1++[.int .i64 x.road,.int .i64 (s.2.2.2.1+x.rest)]=Qn (s.1++[(⟨x.road,(s.2.2.2.1+x.rest)⟩:Leg)]) from (Xz cLeg s.1 [(⟨x.road,(s.2.2.2.1+x.rest)⟩:Leg)]).symm)]; rw [(show (s.1.length+1)=(s.1++[(⟨x.road,(s.2.2.2.1+x.rest)⟩:Leg)]).length from by simp)]; first | rfl | (simp only [f180Sr1,List.length_set])))
   · have h:=h.2 hc1
     rcases bft (!((me.2.ticks+x.c.ticks) == 0 && ((me.2.legs+1) == 0 && true))) with hc2 | hc2
     · have h:=h.1 (bnT hc2)
       exact sK [] ⟨(Js 167),[⟨true,0,1,true,[.rsl (rowB a.m.park) 0 a.m.park.length,.rsl (Qb a.m.roads) 0 a.m.roads.length,.int .i64 a.l.hgt,.int .i64 a.l.wgt,.int .i64 a.l.fr,.int .i64 a.l.ready,.int .i64 a.l.drive,.int .i64 a.l.rest],false⟩,⟨true,0,1,false,[.sl 10 s.2.2.2.2 0 s.1.length 2],false⟩,⟨true,0,1,true,[.int .i64 (((soonR a to).2).ticks),.int .i64 (((soonR a to).2).legs)],false⟩,⟨true,0,0,true,(Qe v3),false⟩,⟨true,0,1,false,[.mp 3 0 false],false⟩,⟨false,1,1,true,[],false⟩,⟨true,0,0,false,(itA (.rmap (Qe (reachR a))) (Qe (reachR a)).length v6),false⟩,⟨true,g7,2,true,(QU v7),true⟩,⟨true,0,1,true,[.int .i64 s.2.1,.int .i64 s.2.2.1],false⟩,⟨true,0,1,true,[.int .i64 s.2.2.2.1],false⟩,⟨true,s.2.2.2.2,2,true,(Qn s.1),true⟩]⟩ [] 11 [.mfound mi (.agg [.int .i64 me.2.ticks,.int .i64 me.2.legs]),.b false,.mnone,.b true] [XY Try.prog 370 (.agg [.int .i64 x.to.town,.int .i64 x.to.used]) (Qe v3) mi (.agg [.int .i64 me.2.ticks,.int .i64 me.2.legs]),2≤2,false=false,InR .i64 (me.2.ticks+x.c.ticks),InR .i64 (me.2.legs+1),Xw Try.prog 370 (.agg [.int .i64 s.2.1,.int .i64 s.2.2.1]) (Qe v3),(!((me.2.ticks+x.c.ticks) == 0 && ((me.2.legs+1) == 0 && true)))=true] hE.kind (by rw [hE.gA]; kernel_rfl) ⟨(Vo h2),(by decide),rfl,q5_1,q6_1,(YR hc1),hc2,trivial⟩ (by exact XV hQ h rfl)
     · have h:=h.2 (bnF hc2)
       obtain ⟨q10_3,h⟩:=h
       obtain ⟨h3,h⟩:=h
       obtain ⟨q16_3,h⟩:=h
       exact sK (kAt 400 [.code (XA (f180Kr1 Try.prog))] [.b false]) ⟨(Js 167),[⟨true,0,1,true,[.rsl (rowB a.m.park) 0 a.m.park.length,.rsl (Qb a.m.roads) 0 a.m.roads.length,.int .i64 a.l.hgt,.int .i64 a.l.wgt,.int .i64 a.l.fr,.int .i64 a.l.ready,.int .i64 a.l.drive,.int .i64 a.l.rest],false⟩,⟨true,0,1,false,[.sl 10 (s.2.2.2.2+1) 0 (s.1.length+1) 2],false⟩,⟨true,0,1,true,[.int .i64 (((soonR a to).2).ticks),.int .i64 (((soonR a to).2).legs)],false⟩,⟨true,0,0,true,(Qe v3),false⟩,⟨true,0,1,false,[.mp 3 0 false],false⟩,⟨false,1,1,true,[],false⟩,⟨true,0,0,false,(itA (.rmap (Qe (reachR a))) (Qe (reachR a)).length v6),false⟩,⟨true,g7,2,true,(QU v7),true⟩,⟨true,0,1,true,[.int .i64 x.to.town,.int .i64 x.to.used],false⟩,⟨true,0,1,true,[.int .i64 (s.2.2.2.1+x.c.ticks)],false⟩,⟨true,(s.2.2.2.2+1),2,true,((Qn s.1)++[.int .i64 x.road,.int .i64 (s.2.2.2.1+x.rest)]),true⟩]⟩ [] 11 [.mfound mi (.agg [.int .i64 me.2.ticks,.int .i64 me.2.legs]),.b false,.mnone,.b false] [XY Try.prog 370 (.agg [.int .i64 x.to.town,.int .i64 x.to.used]) (Qe v3) mi (.agg [.int .i64 me.2.ticks,.int .i64 me.2.legs]),2≤2,false=false,InR .i64 (me.2.ticks+x.c.ticks),InR .i64 (me.2.legs+1),Xw Try.prog 370 (.agg [.int .i64 s.2.1,.int .i64 s.2.2.1]) (Qe v3),(!((me.2.ticks+x.c.ticks) == 0 && ((me.2.legs+1) == 0 && true)))=false,InR .i64 (s.2.2.2.1+x.rest),s.2.2.2.2=s.2.2.2.2,(0+(s.1.length*2))=(Qn s.1).length,(s.1.length+1)≤2147483648,0=0,1≤1,InR .i64 (s.2.2.2.1+x.c.ticks),1≤1,2≤2] hE.kind (by rw [hE.gA]; kernel_rfl) ⟨(Vo h2),(by decide),rfl,q5_1,q6_1,(YR hc1),hc2,q10_3,rfl,(by have hx:=QG cLeg (s:=2) (fun _=>rfl) s.1; simp only [Qn] at hx ⊢; rw [hx]; simp),h3,rfl,(by decide),q16_3,(by decide),(by decide),trivial⟩ (by exact yh hQ h (by kernel_rfl) (by rw [(show Qn s.1++[.int .i64 x.road,.int .i64 (s.2.2.2.1+x.rest)]=Qn (s.1++[(⟨x.road,(s.2.2.2.1+x.rest)⟩:Leg)]) from (Xz cLeg s.1 [(⟨x.road,(s.2.2.2.1+x.rest)⟩:Leg)]).symm)]; rw [(show (s.1.length+1)=(s.1++[(⟨x.road,(s.2.2.2.1+x.rest)⟩:Leg)]).length from by simp)]; first | rfl | (simp only [f180Sr1,List.length_set])))
 · have h:=h.2 hc0
   exact sK [] ⟨(Js 167),[⟨true,0,1,true,[.rsl (rowB a.m.park) 0 a.m.park.length,.rsl (Qb a.m.roads) 0 a.m.roads.length,.int .i64 a.l.hgt,.int .i64 a.l.wgt,.int .i64 a.l.fr,.int .i64 a.l.ready,.int .i64 a.l.drive,.int .i64 a.l.rest],false⟩,⟨true,0,1,false,[.sl 10 s.2.2.2.2 0 s.1.length 2],false⟩,⟨true,0,1,true,[.int .i64 (((soonR a to).2).ticks),.int .i64 (((soonR a to).2).legs)],false⟩,⟨true,0,0,true,(Qe v3),false⟩,⟨true,0,1,false,[.mp 3 0 false],false⟩,⟨false,1,1,true,[],false⟩,⟨true,0,0,false,(itA (.rmap (Qe (reachR a))) (Qe (reachR a)).length v6),false⟩,⟨true,g7,2,true,(QU v7),true⟩,⟨true,0,1,true,[.int .i64 s.2.1,.int .i64 s.2.2.1],false⟩,⟨true,0,1,true,[.int .i64 s.2.2.2.1],false⟩,⟨true,s.2.2.2.2,2,true,(Qn s.1),true⟩]⟩ [] 11 [.mnone,.b true,.b true] [Xw Try.prog 370 (.agg [.int .i64 x.to.town,.int .i64 x.to.used]) (Qe v3),2≤2,true=true,true=true] hE.kind (by rw [hE.gA]; kernel_rfl) ⟨(YR hc0),(by decide),rfl,rfl,trivial⟩ (by exact XV hQ h rfl)
theorem f180Rr1 (a:Atl) (to:Int) (v3:List (Pla × Cst)) (v6:List Nat) (v7:List Pla) (g7:Nat) (v:Pla) (s0:List Leg × Int × Int × Int × Nat) {E:Env} {R:AV→List Blk→Prop} (hE:NewRE Try.prog 180 R E) (step:(List Leg × Int × Int × Int × Nat)→(Way)→(List Leg × Int × Int × Int × Nat) × Bool)
 (h:(AtlOk a∧PlaOk a v)∧(∀ (i:Nat) (x:Way) (s:List Leg × Int × Int × Int × Nat),(XD a v)[i]?=some x→Qs step s0 ((XD a v).take i)=(s,true)→(((QJ v3 x.to)=true→(∃ mi:Nat,True∧(∃ me:(Pla × Cst),PlAt v3 x.to mi me∧((I6 (me.2.ticks+x.c.ticks))∧((I6 (me.2.legs+1))∧(((QJ v3 (⟨s.2.1,s.2.2.1⟩:Pla))=true→(∃ mi1:Nat,True∧(∃ me1:(Pla × Cst),PlAt v3 (⟨s.2.1,s.2.2.1⟩:Pla) mi1 me1∧((((me.2.ticks+x.c.ticks) == me1.2.ticks && ((me.2.legs+1) == me1.2.legs && true))=false→step s x=((s.1,s.2.1,s.2.2.1,s.2.2.2.1,s.2.2.2.2),true))∧(((me.2.ticks+x.c.ticks) == me1.2.ticks && ((me.2.legs+1) == me1.2.legs && true))=true→((I6 (s.2.2.2.1+x.rest))∧((s.1.length+1)≤2147483648∧((I6 (s.2.2.2.1+x.c.ticks))∧step s x=(((s.1++[(⟨x.road,(s.2.2.2.1+x.rest)⟩:Leg)]),x.to.town,x.to.used,(s.2.2.2.1+x.c.ticks),(s.2.2.2.2+1)),false)))))))))∧((QJ v3 (⟨s.2.1,s.2.2.1⟩:Pla))=false→((((me.2.ticks+x.c.ticks) == 0 && ((me.2.legs+1) == 0 && true))=false→step s x=((s.1,s.2.1,s.2.2.1,s.2.2.2.1,s.2.2.2.2),true))∧(((me.2.ticks+x.c.ticks) == 0 && ((me.2.legs+1) == 0 && true))=true→((I6 (s.2.2.2.1+x.rest))∧((s.1.length+1)≤2147483648∧((I6 (s.2.2.2.1+x.c.ticks))∧step s x=(((s.1++[(⟨x.road,(s.2.2.2.1+x.rest)⟩:Leg)]),x.to.town,x.to.used,(s.2.2.2.1+x.c.ticks),(s.2.2.2.2+1)),false)))))))))))))∧((QJ v3 x.to)=false→step s x=((s.1,s.2.1,s.2.2.1,s.2.2.2.1,s.2.2.2.2),true))))∧(∀ s:List Leg × Int × Int × Int × Nat,Qs step s0 (XD a v)=(s,true)→f180G2 E a to v3 v6 v7 s.1 s.2.1 s.2.2.1 s.2.2.2.1)∧(∀ s:List Leg × Int × Int × Int × Nat,Qs step s0 (XD a v)=(s,false)→f180G2 E a to v3 v6 v7 s.1 s.2.1 s.2.2.1 s.2.2.2.1)):f180Gr1 E a to v3 v6 v7 g7 v s0:=by
 have hT:(f180Sr1 a to v3 v6 v7 g7 v s0).tmps++E.gA=(f180Sr1 a to v3 v6 v7 g7 v s0).tmps:=by rw [hE.gA,List.append_nil]
 refine VE (σ:=List Leg × Int × Int × Int × Nat) (X:=Way) (arg:=qy) (L:=(XD a v)) (jump:=.exit 8) (g:=.tmp 122) (ps:=#[123]) (fun s=>(f180Sr1 a to v3 v6 v7 g7 v s).blks) (fun s x=>(f180Tr1 a to v3 v6 v7 g7 v s x)) step s0 hE.ro hE.kind (by kernel_rfl) rfl rfl (ways_it a v h.1) rfl (fun x=>rfl) (fun s x E' hR hg=>?_) (fun i x s hx hs E' hR hQ=>?_) (fun s hs=>?_) (fun s hs=>?_)
 · rw [hT] at hR; exact f180Ar1 a to v3 v6 v7 g7 v s x hR hg
 · rw [hT] at hR; exact f180Br1 a to v3 v6 v7 g7 v s x hR hQ (h.2.1 i x s hx hs)
 · exact f180Wr1e a to v3 v6 v7 g7 v s hE (h.2.2.1 s hs)
 · exact f180Wr1j a to v3 v6 v7 g7 v s hE (h.2.2.2 s hs)
end Go.Proofs.Ytemklbioijmjiaa
namespace Go.Proofs.Ytemklbioijmjiaa
open Go Ax
open Go.Proofs
/-! ### the order -/
noncomputable def selE (a:Atl) (b:Cst) (s:Nat):Option Pla:=match (reachR a)[s]? with
 | some e=>if cmpC e.2 b≤0 then some e.1 else none
 | none=>none
noncomputable def selR (a:Atl) (b:Cst) (v:List Nat):List Pla:=v.filterMap (selE a b)
theorem qH {a:Atl} {b:Cst} {s:Nat} {p:Pla}:selE a b s=some p ↔ ∃ e,(reachR a)[s]?=some e∧cmpC e.2 b≤0∧e.1=p:=by
 unfold selE
 cases h:(reachR a)[s]? with
 | none=>simp
 | some e =>
  by_cases c:cmpC e.2 b≤0
  · simp only [if_pos c,Option.some.injEq]
    exact ⟨fun x=>⟨e,rfl,c,x⟩,fun ⟨e',x,_,y⟩=>by subst x; exact y⟩
  · simp only [if_neg c]
    exact ⟨fun x=>(by cases x),fun ⟨e',x,y,_⟩=>by simp only [Option.some.injEq] at x; subst x; exact absurd y c⟩
theorem selR_snoc {a:Atl} {b:Cst} {v:List Nat} {s:Nat}:selR a b (v++[s])=selR a b v++(selE a b s).toList:=by
 simp only [selR,List.filterMap_append]
 congr 1
theorem selR_len {a:Atl} {b:Cst} {v:List Nat}:(selR a b v).length≤v.length:=List.length_filterMap_le _ _
theorem QbO {a:Atl} {b:Cst} {v:List Nat} {p:Pla}:p ∈ selR a b v ↔ ∃ s ∈ v,∃ e,(reachR a)[s]?=some e∧cmpC e.2 b≤0∧e.1=p:=by
 simp only [selR,List.mem_filterMap,qH]
theorem reach_inj {a:Atl} (h:AtlOk a∧PlaOk a (Xh a)) {i j:Nat} {e e':Pla × Cst} (hi:(reachR a)[i]?=some e) (hj:(reachR a)[j]?=some e') (he:e.1=e'.1):i=j:=by
 have hn:=(yl h).nd
 have h1:((reachR a).map Prod.fst)[i]?=some e.1:=by rw [List.getElem?_map,hi]; rfl
 have h2:((reachR a).map Prod.fst)[j]?=some e.1:=by rw [List.getElem?_map,hj,he]; rfl
 exact (List.getElem?_inj (List.getElem?_eq_some_iff.1 h1).1 hn).1 (h1.trans h2.symm)
theorem QaU {a:Atl} {b:Cst} (h:AtlOk a∧PlaOk a (Xh a)):∀ {v:List Nat},v.Nodup→(selR a b v).Nodup
 | [],_=>by simp [selR]
 | s :: v,hn=>by
  rw [List.nodup_cons] at hn
  have ih:=QaU (b:=b) h hn.2
  cases hs:selE a b s with
  | none=>simp only [selR,List.filterMap_cons,hs]; exact ih
  | some p =>
   simp only [selR,List.filterMap_cons,hs,List.nodup_cons]
   refine ⟨fun hm=>?_,ih⟩
   obtain ⟨s',h1,e',h2,-,h3⟩:=QbO.1 hm
   obtain ⟨e,h4,-,h5⟩:=qH.1 hs
   have:=reach_inj h h4 h2 (h5.trans h3.symm)
   subst this; exact hn.1 h1
/-! ### what is left -/
theorem put_put {β:Type} {k:Pla} {v v':β}:∀ {l:List (Pla × β)},XM (XM l k v) k v'=XM l k v'
 | []=>by simp only [XM,Xn,if_true]
 | e :: l=>by
  by_cases h:eqPl k e.1=true
  · rw [XM,if_pos h,XM,if_pos (Xn.2 rfl),XM,if_pos h]
  · rw [XM,if_neg h,XM,if_neg h,put_put,XM,if_neg h]
def cand (l:Cst) (x:Way):Cst:=⟨l.ticks+x.c.ticks,l.legs+1⟩
structure LInv (a:Atl) (to:Int) (L:List Pla) (n:Nat) (left:List (Pla × Cst)):Prop where
 ks:∀ p c,QE left p=some c→p ∈ L.take n
 vl:∀ p c,QE left p=some c→CB n c
 wy:∀ p c,QE left p=some c→p.town=to ∨ ∃ w ∈ XD a p,∃ l,QE left w.to=some l∧c=cand l w
 cl:∀ (j:Nat) (p:Pla),j<n→L[j]?=some p→(p.town=to ∨ ∃ w ∈ XD a p,w.to ∈ L.take j∧∃ l,QE left w.to=some l)→∃ c,QE left p=some c
theorem not_take {L:List Pla} {n:Nat} {p:Pla} (hn:L.Nodup) (hp:L[n]?=some p):p ∉ L.take n:=fun hm=>by
 obtain ⟨i,hi⟩:=List.mem_iff_getElem?.1 hm
 rw [List.getElem?_take] at hi
 split at hi
 · have:=(List.getElem?_inj (List.getElem?_eq_some_iff.1 hi).1 hn).1 (hi.trans hp.symm); omega
 · cases hi
theorem Ky {L:List Pla} {n m:Nat} (h:n≤m) {p:Pla} (hp:p ∈ L.take n):p ∈ L.take m:=by
 obtain ⟨i,hi⟩:=List.mem_iff_getElem?.1 hp
 rw [List.getElem?_take] at hi
 split at hi
 · exact List.mem_iff_getElem?.2 ⟨i,by rw [List.getElem?_take,if_pos (by omega)]; exact hi⟩
 · cases hi
theorem take_last {L:List Pla} {n:Nat} {p:Pla} (hp:L[n]?=some p):p ∈ L.take (n+1) :=
 List.mem_iff_getElem?.2 ⟨n,by rw [List.getElem?_take,if_pos (by omega)]; exact hp⟩
theorem LInv.new {a:Atl} {to:Int} {L:List Pla} {n:Nat} {left:List (Pla × Cst)} (h:LInv a to L n left) (hn:L.Nodup) {p:Pla} (hp:L[n]?=some p):QE left p=none:=by
 cases e:QE left p with
 | none=>rfl
 | some c=>exact absurd (h.ks p c e) (not_take hn hp)
theorem LInv.next {a:Atl} {to:Int} {L:List Pla} {n:Nat} {left:List (Pla × Cst)} (h:LInv a to L n left) {p:Pla} (hp:L[n]?=some p) (ht:p.town ≠ to) (hw:∀ w ∈ XD a p,QE left w.to=none):LInv a to L (n+1) left:=by
 refine ⟨fun q c e=>Ky (Nat.le_succ n) (h.ks q c e),fun q c e=>(h.vl q c e).mono (Nat.le_succ n),h.wy,fun j q hj hq hc=>?_⟩
 by_cases e:j=n
 · subst e
   rw [hp] at hq; simp only [Option.some.injEq] at hq; subst hq
   rcases hc with hc | ⟨w,h1,-,l,h3⟩
   · exact absurd hc ht
   · rw [hw w h1] at h3; cases h3
 · exact h.cl j q (by omega) hq hc
theorem LInv.put {a:Atl} {to:Int} {L:List Pla} {n:Nat} {left:List (Pla × Cst)} (ha:AtlOk a) (h:LInv a to L n left) (hn:L.Nodup) {p:Pla} (hok:PlaOk a p) (hp:L[n]?=some p) {c:Cst}
 (hc:(p.town=to∧c=⟨0,0⟩) ∨ ∃ w ∈ XD a p,∃ l,QE left w.to=some l∧c=cand l w):LInv a to L (n+1) (XM left p c):=by
 have hnew:=h.new hn hp
 have keep:∀ q d,QE left q=some d→QE (XM left p c) q=some d:=fun q d e=>by
  rw [Yt,if_neg (fun x=>by subst x; rw [hnew] at e; cases e)]; exact e
 refine ⟨fun q d e=>?_,fun q d e=>?_,fun q d e=>?_,fun j q hj hq hcl=>?_⟩
 · rw [Yt] at e
   split at e
   · rename_i x; subst x; exact take_last hp
   · exact Ky (Nat.le_succ n) (h.ks q d e)
 · rw [Yt] at e
   split at e
   · simp only [Option.some.injEq] at e; subst e
     rcases hc with ⟨-,rfl⟩ | ⟨w,h1,l,h2,rfl⟩
     · exact ⟨by decide,by change (0:Int)≤_; omega,by decide,by change (0:Int)≤_; omega⟩
     · obtain ⟨b1,b2,b3,b4⟩:=h.vl _ _ h2
       have wk:=Ym ha hok h1
       have:=wk.t0; have:=wk.t1
       refine ⟨?_,?_,?_,?_⟩ <;> simp only [cand] <;> omega
   · exact (h.vl q d e).mono (Nat.le_succ n)
 · rw [Yt] at e
   split at e
   · rename_i x; subst x
     simp only [Option.some.injEq] at e; subst e
     rcases hc with ⟨h1,-⟩ | ⟨w,h1,l,h2,h3⟩
     · exact .inl h1
     · exact .inr ⟨w,h1,l,keep _ _ h2,h3⟩
   · rcases h.wy q d e with h1 | ⟨w,h1,l,h2,h3⟩
     · exact .inl h1
     · exact .inr ⟨w,h1,l,keep _ _ h2,h3⟩
 · by_cases e:j=n
   · subst e
     rw [hp] at hq; simp only [Option.some.injEq] at hq; subst hq
     exact ⟨c,by rw [Yt,if_pos rfl]⟩
   · have hcl':q.town=to ∨ ∃ w ∈ XD a q,w.to ∈ L.take j∧∃ l,QE left w.to=some l:=by
      rcases hcl with hcl | ⟨w,h1,h2,l,h3⟩
      · exact .inl hcl
      · refine .inr ⟨w,h1,h2,?_⟩
        rw [Yt] at h3
        split at h3
        · rename_i x
          exact absurd (x ▸ Ky (by omega:j≤n) h2) (not_take hn hp)
        · exact ⟨l,h3⟩
     obtain ⟨d,hd⟩:=h.cl j q (by omega) hq hcl'
     exact ⟨d,keep _ _ hd⟩
/-- What a way does to what is left. -/
def qF (p:Pla) (left:List (Pla × Cst)) (x:Way):List (Pla × Cst) :=
 match QE left x.to,QE left p with
 | some l,some old=>if cmpC (cand l x) old<0 then XM left p (cand l x) else left
 | some l,none=>XM left p (cand l x)
 | none,_=>left
def QInv (a:Atl) (left0:List (Pla × Cst)) (p:Pla) (seen:List Way) (s:List (Pla × Cst)):Prop :=
 (s=left0∧∀ x ∈ seen,QE left0 x.to=none) ∨ ∃ w ∈ XD a p,∃ l,QE left0 w.to=some l∧s=XM left0 p (cand l w)
theorem stepL_inv {a:Atl} {left0 s:List (Pla × Cst)} {p:Pla} {seen:List Way} (ha:AtlOk a) (hok:PlaOk a p) (hnew:QE left0 p=none) (h:QInv a left0 p seen s) {x:Way} (hx:x ∈ XD a p):QInv a left0 p (seen++[x]) (qF p s x):=by
 rcases h with ⟨rfl,h⟩ | ⟨w,h1,l,h2,rfl⟩
 · cases e:QE s x.to with
   | none =>
    refine .inl ⟨by simp only [qF,e],fun y hy=>?_⟩
    rcases List.mem_append.1 hy with hy | hy
    · exact h y hy
    · rw [List.mem_singleton] at hy; subst hy; exact e
   | some l=>exact .inr ⟨x,hx,l,e,by simp only [qF,e,hnew]⟩
 · refine .inr ?_
   have gp:QE (XM left0 p (cand l w)) p=some (cand l w):=by rw [Yt,if_pos rfl]
   by_cases c:x.to=p
   · refine ⟨w,h1,l,h2,?_⟩
     have gx:QE (XM left0 p (cand l w)) x.to=some (cand l w):=by rw [c]; exact gp
     have:=(Ym ha hok hx).t0
     simp only [qF,gx,gp]
     rw [if_neg]
     rw [cmp_lt]; simp only [cand]; omega
   · have gx:QE (XM left0 p (cand l w)) x.to=QE left0 x.to:=by rw [Yt,if_neg c]
     cases e:QE left0 x.to with
     | none=>exact ⟨w,h1,l,h2,by simp only [qF,gx,e]⟩
     | some l' =>
      by_cases d:cmpC (cand l' x) (cand l w)<0
      · exact ⟨x,hx,l',e,by simp only [qF,gx,e,gp,if_pos d,put_put]⟩
      · exact ⟨w,h1,l,h2,by simp only [qF,gx,e,gp,if_neg d]⟩
theorem Qai {a:Atl} {left0:List (Pla × Cst)} {p:Pla} (ha:AtlOk a) (hok:PlaOk a p) (hnew:QE left0 p=none):∀ (W:List Way) {s:List (Pla × Cst)} {seen:List Way},(∀ x ∈ W,x ∈ XD a p)→QInv a left0 p seen s→QInv a left0 p (seen++W) (W.foldl (qF p) s)
 | [],s,seen,_,h=>by rw [List.append_nil]; exact h
 | x :: W,s,seen,hW,h=>by
  have:=Qai ha hok hnew W (fun y hy=>hW y (List.mem_cons_of_mem _ hy)) (stepL_inv ha hok hnew h (hW x List.mem_cons_self))
  rw [List.append_assoc] at this
  exact this
/-- The beginning is known in the end. -/
theorem begin_known {a:Atl} {to:Int} {L:List Pla} {left:List (Pla × Cst)} {best:Cst} (hs:SInv a (nP a) (reachR a) []) (ha:AtlOk a)
 (hm:∀ p c,QE (reachR a) p=some c→cmpC c best≤0→p ∈ L) (hsort:∀ (i j:Nat) (x y:Pla),i<j→L[i]?=some x→L[j]?=some y→¬ cmpC (costAt a x) (costAt a y)<0) (hl:LInv a to L L.length left) :
 ∀ (n:Nat) (p:Pla) (c:Cst),c.ticks≤(n:Int)→QE (reachR a) p=some c→cmpC c best≤0→(∃ d,QE left p=some d)→∃ d,QE left (Xh a)=some d:=by
 have cle:∀ {c d:Cst},cmpC c d≤0 ↔ (c.ticks<d.ticks ∨ (c.ticks=d.ticks∧c.legs≤d.legs)):=by
  intro c d
  simp only [cmpC,orG]
  split
  · omega
  · split <;> omega
 intro n
 induction n with
 | zero =>
  intro p c hn hp hb hk
  by_cases e:p=Xh a
  · subst e; exact hk
  · obtain ⟨q,c',w,h1,h2,h3,h4⟩:=hs.pr p c hp e
    have:=(Ym ha (hs.ok q c' h1).1 h2).t0
    have:=(hs.ok q c' h1).2.1
    omega
 | succ n ih =>
  intro p c hn hp hb hk
  by_cases e:p=Xh a
  · subst e; exact hk
  obtain ⟨q,c',w,h1,h2,h3,h4⟩:=hs.pr p c hp e
  have wt:=(Ym ha (hs.ok q c' h1).1 h2).t0
  have hb':cmpC c' best≤0:=by rw [cle] at hb ⊢; omega
  refine ih q c' (by omega) h1 hb' ?_
  obtain ⟨i,hi⟩:=List.mem_iff_getElem?.1 (hm p c hp hb)
  obtain ⟨j,hj⟩:=List.mem_iff_getElem?.1 (hm q c' h1 hb')
  have hlt:cmpC (costAt a q) (costAt a p)<0:=by rw [YI h1,YI hp,cmp_lt]; omega
  have hij:i<j:=by
   rcases Nat.lt_trichotomy i j with q1 | q1 | q1
   · exact q1
   · subst q1; rw [hi] at hj; simp only [Option.some.injEq] at hj; subst hj; exact absurd hlt Qcw
   · exact absurd hlt (hsort j i q p q1 hj hi)
  have hjl:=(List.getElem?_eq_some_iff.1 hj).1
  refine hl.cl j q hjl hj (.inr ⟨w,h2,?_,?_⟩)
  · rw [h3]; exact List.mem_iff_getElem?.2 ⟨i,by rw [List.getElem?_take,if_pos hij]; exact hi⟩
  · rw [h3]; exact hk
/-! ### the way -/
def XR (a:Atl) (x:Leg):Int:=(Qd a.m.roads x.road.toNat).len
def chOk (a:Atl):Int→List Leg→Prop
 | _,[]=>True
 | t,x :: l=>0≤x.road∧x.road<(a.m.roads.length:Int)∧t≤x.dep∧chOk a (x.dep+XR a x) l
def arrL (a:Atl):Int→List Leg→Int
 | t,[]=>t
 | _,x :: l=>arrL a (x.dep+XR a x) l
def sumL (a:Atl):List Leg→Int
 | []=>0
 | x :: l=>XR a x+sumL a l
theorem chOk_snoc {a:Atl} {x:Leg} (h1:0≤x.road) (h2:x.road<(a.m.roads.length:Int)):∀ {l:List Leg} {t:Int},chOk a t l→arrL a t l≤x.dep→chOk a t (l++[x])
 | [],t,h,h3=>⟨h1,h2,h3,trivial⟩
 | y :: l,t,h,h3=>⟨h.1,h.2.1,h.2.2.1,chOk_snoc h1 h2 h.2.2.2 h3⟩
theorem QaD {a:Atl} {x:Leg}:∀ {l:List Leg} {t:Int},arrL a t (l++[x])=x.dep+XR a x
 | [],_=>rfl
 | y :: l,_=>QaD (l:=l)
theorem sumL_snoc {a:Atl} {x:Leg}:∀ {l:List Leg},sumL a (l++[x])=sumL a l+XR a x
 | []=>by simp [sumL]
 | y :: l=>by
  have:=sumL_snoc (a:=a) (x:=x) (l:=l)
  simp only [List.cons_append,sumL,this]; omega
abbrev DS:=List Leg × Int × Int × Int × Nat
def hitD (left:List (Pla × Cst)) (s:DS) (x:Way):Bool:=match QE left x.to,QE left ⟨s.2.1,s.2.2.1⟩ with
 | some l,some c=>(l.ticks+x.c.ticks) == c.ticks && ((l.legs+1) == c.legs && true)
 | _,_=>false
def goD (s:DS) (x:Way):DS:=(s.1++[⟨x.road,s.2.2.2.1+x.rest⟩],x.to.town,x.to.used,s.2.2.2.1+x.c.ticks,s.2.2.2.2+1)
def QaI (left:List (Pla × Cst)) (s:DS) (x:Way):DS × Bool:=if hitD left s x=true then (goD s x,false) else (s,true)
theorem foldD {left:List (Pla × Cst)} {s:DS}:∀ (W:List Way),(Qs (QaI left) s W=(s,true)∧∀ x ∈ W,hitD left s x=false) ∨ ∃ x ∈ W,hitD left s x=true∧Qs (QaI left) s W=(goD s x,false)
 | []=>.inl ⟨rfl,fun x h=>(by cases h)⟩
 | x :: W=>by
  cases e:hitD left s x with
  | true=>exact .inr ⟨x,List.mem_cons_self,e,by simp [Qs,QaI,e]⟩
  | false =>
   have hf:Qs (QaI left) s (x :: W)=Qs (QaI left) s W:=by simp [Qs,QaI,e]
   rcases foldD (left:=left) (s:=s) W with ⟨h1,h2⟩ | ⟨y,h1,h2,h3⟩
   · refine .inl ⟨hf.trans h1,fun y hy=>?_⟩
     rcases List.mem_cons.1 hy with hy | hy
     · subst hy; exact e
     · exact h2 y hy
   · exact .inr ⟨y,List.mem_cons_of_mem _ h1,h2,hf.trans h3⟩
structure Driven (a:Atl) (l:List Leg):Prop where
 ch:chOk a a.l.ready l
 sm:sumL a l≤1000*(nP a:Int)
 ar:arrL a a.l.ready l≤a.l.ready+1000*(nP a:Int)
 ln:(l.length:Int)≤1000*(nP a:Int)
def DriveR (a:Atl) (res:AV) (bs:List Blk):Prop :=
 (∃ (legs:List Leg) (g:Nat),res=.tup [.sl 0 g 0 legs.length 2,.bool true]∧bs=[⟨true,g,2,true,Qn legs,true⟩]∧Driven a legs) ∨ (res=.tup [.nilSl,.bool false]∧bs=[])
section
variable {a:Atl} {to:Int} {E:Env}
theorem way_go (ha:AtlOk a) (hr:0≤a.l.ready∧a.l.ready≤1000000) {L:List Pla} {n:Nat} {left:List (Pla × Cst)} (hl:LInv a to L n left) (hn:n≤nP a) (hok:∀ p c,QE left p=some c→PlaOk a p) (v6:List Nat) (v7:List Pla) (hE:NewRE Try.prog 180 (Kept (DriveR a)) E) :
 ∀ (d:Nat) (legs:List Leg) (p:Pla) (now:Int) (c:Cst),c.ticks≤(d:Int)→QE left p=some c→chOk a a.l.ready legs→arrL a a.l.ready legs=now→sumL a legs+c.ticks≤1000*(nP a:Int)→now+c.ticks≤a.l.ready+1000*(nP a:Int)→(legs.length:Int)+c.ticks≤1000*(nP a:Int)→0≤now →
  f180G2 E a to left v6 v7 legs p.town p.used now:=by
 have hN:=QaL ha
 intro d
 induction d with
 | zero =>
  intro legs p now c hd hp hc ha1 hs hw hln h0
  have cb:=hl.vl p c hp
  refine f180W2 a to left v6 v7 legs p.town p.used now hE fun g7 g10=>⟨fun hne=>?_,fun he=>?_⟩
  · rcases hl.wy p c hp with h | ⟨w,h1,l,h2,h3⟩
    · exact absurd h hne
    · have wk:=Ym ha (hok p c hp) h1
      have:=(hl.vl _ _ h2).1
      have e:c.ticks=l.ticks+w.c.ticks:=by rw [h3]; rfl
      have:=wk.t0; omega
  · have:=cb.1
    exact ⟨[10],_,rfl,rfl,rfl,.inl ⟨legs,g10,rfl,rfl,hc,by omega,by rw [ha1]; omega,by omega⟩⟩
 | succ d ih =>
  intro legs p now c hd hp hc ha1 hs hw hln h0
  have cb:=hl.vl p c hp
  refine f180W2 a to left v6 v7 legs p.town p.used now hE fun g7 g10=>⟨fun hne=>?_,fun he=>?_⟩
  · have pok:=hok p c hp
    rcases hl.wy p c hp with h | ⟨w,w1,l0,w2,w3⟩
    · exact absurd h hne
    refine f180Rr1 a to left v6 v7 g7 p (legs,p.town,p.used,now,g10) hE (QaI left) ⟨⟨ha,pok⟩,fun i x s hx hs2=>?_,fun s hs2=>?_,fun s hs2=>?_⟩
    · have es:s=(legs,p.town,p.used,now,g10):=by
       rcases foldD (left:=left) (s:=(legs,p.town,p.used,now,g10)) ((XD a p).take i) with ⟨h1,h2⟩ | ⟨y,h1,h2,h3⟩
       · rw [h1] at hs2; simp only [Prod.mk.injEq,and_true] at hs2; exact hs2.symm ▸ rfl
       · rw [h3] at hs2; simp at hs2
      subst es
      have wk:=Ym ha pok (List.mem_of_getElem? hx)
      have k1:=wk.t0; have k2:=wk.t1; have k3:=wk.s0; have k4:=wk.ln
      have k5:0≤x.rest∧x.rest≤1000:=by
       have:=(ha.rod _ (List.mem_of_getElem? (YP (l:=a.m.roads) (i:=x.road.toNat) (by have:=wk.r0; have:=wk.r1; omega)))).l0
       omega
      have c0:=cb.1
      have hph:QJ left (⟨p.town,p.used⟩:Pla)=true:=get_has hp
      refine ⟨fun hg=>?_,fun hg=>?_⟩
      · obtain ⟨mi,me,hme⟩:=Wc hg
        have ge:=Wr hme
        obtain ⟨b1,b2,b3,b4⟩:=hl.vl _ _ ge
        refine ⟨mi,trivial,me,hme,by omega,by omega,fun _=>?_,fun q=>?_⟩
        · obtain ⟨mj,me1,hme1⟩:=Wc hph
          have ge1:=Wr hme1
          have ge2:me1.2=c:=by rw [show QE left (⟨p.town,p.used⟩:Pla)=some c from hp] at ge1; exact (Option.some.inj ge1).symm
          have hh:hitD left (legs,p.town,p.used,now,g10) x=((me.2.ticks+x.c.ticks) == me1.2.ticks && ((me.2.legs+1) == me1.2.legs && true)):=by
           simp only [hitD,ge,ge1]
          refine ⟨mj,trivial,me1,hme1,fun q=>?_,fun q=>⟨?_,?_,?_,?_⟩⟩
          · simp only [QaI,hh,q]; rfl
          · change _≤now+x.rest∧now+x.rest≤_; omega
          · change legs.length+1≤_; omega
          · change _≤now+x.c.ticks∧now+x.c.ticks≤_; omega
          · simp only [QaI,hh,q]; rfl
        · exact absurd q (by rw [hph]; simp)
      · have hh:hitD left (legs,p.town,p.used,now,g10) x=false:=by simp only [hitD,Yu hg]
        simp only [QaI,hh]; rfl
    · rcases foldD (left:=left) (s:=(legs,p.town,p.used,now,g10)) (XD a p) with ⟨h1,h2⟩ | ⟨y,h1,h2,h3⟩
      · have:=h2 w w1
        simp only [hitD,w2,show QE left (⟨p.town,p.used⟩:Pla)=some c from hp,w3,cand,beq_self_eq_true,Bool.and_self] at this
        cases this
      · rw [h3] at hs2; simp at hs2
    · rcases foldD (left:=left) (s:=(legs,p.town,p.used,now,g10)) (XD a p) with ⟨h1,h2⟩ | ⟨y,h1,h2,h3⟩
      · rw [h1] at hs2; simp at hs2
      · rw [h3] at hs2
        simp only [Prod.mk.injEq,and_true] at hs2
        have es:goD (legs,p.town,p.used,now,g10) y=s:=by rw [← hs2]
        subst es
        have wk:=Ym ha pok h1
        have k1:=wk.t0; have k2:=wk.t1; have k3:=wk.s0; have k4:=wk.ln
        cases hg:QE left y.to with
        | none=>simp [hitD,hg] at h2
        | some l =>
         simp only [hitD,hg,show QE left (⟨p.town,p.used⟩:Pla)=some c from hp,Bool.and_eq_true,beq_iff_eq,and_true] at h2
         have lb:=(hl.vl _ _ hg).1
         have el:XR a ⟨y.road,now+y.rest⟩=y.c.ticks - y.rest:=by
          change (Qd a.m.roads y.road.toNat).len=_; omega
         refine ih (legs++[⟨y.road,now+y.rest⟩]) y.to (now+y.c.ticks) l (by omega) hg (chOk_snoc wk.r0 wk.r1 hc (by rw [ha1]; change now≤now+y.rest; omega)) (by rw [QaD,el]; change now+y.rest+_=_; omega) (by rw [sumL_snoc,el]; omega) (by omega) (by rw [List.length_append,List.length_singleton]; omega) (by omega)
  · have:=cb.1
    exact ⟨[10],_,rfl,rfl,rfl,.inl ⟨legs,g10,rfl,rfl,hc,by omega,by rw [ha1]; omega,by omega⟩⟩
end
section
variable {a:Atl} {to:Int} {E:Env}
theorem q_cb {left0 s:List (Pla × Cst)} {L:List Pla} {n:Nat} {p:Pla} {seen:List Way} (ha:AtlOk a) (hl:LInv a to L n left0) (hok:PlaOk a p) (h:QInv a left0 p seen s) {q:Pla} {c:Cst} (hc:QE s q=some c):CB (n+1) c:=by
 rcases h with ⟨rfl,-⟩ | ⟨w,h1,l,h2,rfl⟩
 · exact (hl.vl q c hc).mono (Nat.le_succ n)
 · rw [Yt] at hc
   split at hc
   · simp only [Option.some.injEq] at hc; subst hc
     obtain ⟨b1,b2,b3,b4⟩:=hl.vl _ _ h2
     have wk:=Ym ha hok h1
     have:=wk.t0; have:=wk.t1
     refine ⟨?_,?_,?_,?_⟩ <;> simp only [cand] <;> omega
   · exact (hl.vl q c hc).mono (Nat.le_succ n)
theorem left_go (ha:AtlOk a) {L:List Pla} (hLn:L.Nodup) (hLok:∀ p ∈ L,PlaOk a p) (hlen:L.length≤nP a) (v6:List Nat) {R:AV→List Blk→Prop} (hE:NewRE Try.prog 180 R E)
 (hend:∀ left,LInv a to L L.length left→f180G2 E a to left v6 L [] a.l.fr 0 a.l.ready):∀ (d n:Nat) (left:List (Pla × Cst)),n+d=L.length→LInv a to L n left→f180G1 E a to L.length v6 L n left:=by
 have hN:=QaL ha
 intro d
 induction d with
 | zero =>
  intro n left hd hl
  have:n=L.length:=by omega
  subst this
  exact f180W1 a to L.length v6 L L.length left hE fun g7=>⟨fun q=>absurd q (by omega),fun _=>hend left hl⟩
 | succ d ih =>
  intro n left hd hl
  have hg:L[n]?=some L[n]:=List.getElem?_eq_getElem (by omega)
  generalize L[n]=p at hg
  have pok:=hLok p (List.mem_of_getElem? hg)
  have hnew:=hl.new hLn hg
  have hno:QJ left p=false:=by
   cases e:QJ left p with
   | false=>rfl
   | true=>obtain ⟨i,e1,he⟩:=Wc e; rw [Wr he] at hnew; cases hnew
  refine f180W1 a to L.length v6 L n left hE fun g7=>⟨fun _=>⟨p,hg,fun ht=>⟨fun q=>absurd q (by rw [hno]; simp),fun _=>⟨by omega,?_⟩⟩,fun ht=>?_⟩,fun q=>absurd (by omega) q⟩
  · rw [QbR hno]
    exact ih (n+1) _ (by omega) (hl.put ha hLn pok hg (.inl ⟨ht,rfl⟩))
  · refine f180Rr0 a to L.length n p v6 L g7 p.town p.used left hE (qF p) ⟨⟨ha,pok⟩,fun i x s hx hs=>?_,fun s hs=>?_⟩
    · have hq:QInv a left p ([]++(XD a p).take i) s:=by
       rw [hs]; exact Qai ha pok hnew _ (fun y hy=>List.mem_of_mem_take hy) (.inl ⟨rfl,fun y hy=>by cases hy⟩)
      have wk:=Ym ha pok (List.mem_of_getElem? hx)
      have k1:=wk.t0; have k2:=wk.t1
      refine ⟨fun hh=>?_,fun hh=>⟨by omega,fun hp=>?_,fun hp=>?_⟩⟩
      · obtain ⟨mi,me,hme⟩:=Wc hh
        have ge:=Wr hme
        obtain ⟨b1,b2,b3,b4⟩:=q_cb ha hl pok hq ge
        have cok:XZ (cand me.2 x):=by refine ⟨?_,?_,?_,?_⟩ <;> simp only [cand] <;> omega
        refine ⟨mi,trivial,me,hme,by omega,by omega,fun hp=>?_,fun hp=>?_⟩
        · obtain ⟨mj,me1,hme1⟩:=Wc hp
          have ge1:QE s p=some me1.2:=Wr hme1
          refine ⟨mj,trivial,me1,hme1,⟨cok,(q_cb ha hl pok hq ge1).ok (by omega)⟩,fun c=>⟨mj,trivial,me1,hme1,?_⟩,fun c=>?_⟩
          · have c:cmpC (cand me.2 x) me1.2<0:=c
            rw [put_at hme1]
            simp only [qF,ge,ge1,if_pos c]; rfl
          · have c:¬ cmpC (cand me.2 x) me1.2<0:=c
            simp only [qF,ge,ge1,if_neg c]
        · rw [QbR hp]
          have gn:QE s p=none:=Yu hp
          simp only [qF,ge,gn]; rfl
      · obtain ⟨mj,me1,hme1⟩:=Wc hp
        exact ⟨mj,trivial,me1,hme1,by simp only [qF,Yu hh]⟩
      · simp only [qF,Yu hh]
    · have hq:QInv a left p ([]++XD a p) s:=by
       rw [hs]; exact Qai ha pok hnew _ (fun y hy=>hy) (.inl ⟨rfl,fun y hy=>by cases hy⟩)
      refine ⟨by omega,?_⟩
      rcases hq with ⟨rfl,h1⟩ | ⟨w,h1,l,h2,rfl⟩
      · exact ih (n+1) _ (by omega) (hl.next hg ht fun w hw=>h1 w (by simpa using hw))
      · exact ih (n+1) _ (by omega) (hl.put ha hLn pok hg (.inr ⟨w,h1,l,h2,rfl⟩))
theorem drive_go (h:AtlOk a∧PlaOk a (Xh a)) (hr:0≤a.l.ready∧a.l.ready≤1000000) (hso:(soonR a to).1=true) (hE:NewRE Try.prog 180 (Kept (DriveR a)) E) :
 ∀ (d:Nat) (v:List Nat),(reachR a).length+1≤v.length+d→v.Nodup→(∀ x ∈ v,x<(reachR a).length)→f180G0 E a to (selR a (soonR a to).2 v) v
 | 0,v,hd,hn,hv=>by have:=VH _ hn hv; omega
 | d+1,v,hd,hn,hv=>by
  have hN:=QaL h.1
  have hi:=yl h
  have hrl:(reachR a).length≤nP a:=by
   have:=Qba h.1 hi.nd (fun p hp=>by
    obtain ⟨e,he,rfl⟩:=List.mem_map.1 hp
    exact (hi.ok e.1 e.2 (Qcd hi.nd he)).1)
   simpa using this
  have hvl:=VH _ hn hv
  have hsl:=selR_len (a:=a) (b:=(soonR a to).2) (v:=v)
  obtain ⟨⟨s0,e0,q1,q2,q3,q4⟩,q5⟩:=(QaS a to).2 hso
  have bok:XZ (soonR a to).2:=by rw [← q4]; exact (Yp h q2).2
  refine f180W0 a to _ v hE ⟨fun s hs hsv=>?_,fun hall=>?_⟩
  · have hg:(reachR a)[s]?=some (reachR a)[s]:=List.getElem?_eq_getElem hs
    generalize (reachR a)[s]=pe at hg
    have hn2:(v++[s]).Nodup:=by
     rw [List.nodup_append]
     exact ⟨hn,by simp,fun x hx y hy e=>by rw [List.mem_singleton] at hy; subst hy; subst e; exact hsv hx⟩
    have hv2:∀ x ∈ v++[s],x<(reachR a).length:=fun x hx=>by
     rcases List.mem_append.1 hx with hx | hx
     · exact hv x hx
     · rw [List.mem_singleton] at hx; subst hx; exact hs
    have next:=drive_go h hr hso hE d (v++[s]) (by rw [List.length_append,List.length_singleton]; omega) hn2 hv2
    rw [selR_snoc] at next
    refine f180W0n a to _ v s hE ⟨pe,hg,⟨(Yp h hg).2,bok⟩,fun c=>⟨by omega,?_⟩,fun c=>?_⟩
    · rw [show selE a (soonR a to).2 s=some pe.1 from qH.2 ⟨pe,hg,c,rfl⟩] at next; exact next
    · rw [show selE a (soonR a to).2 s=none from by
       cases e:selE a (soonR a to).2 s with
       | none=>rfl
       | some p=>obtain ⟨e',x1,x2,-⟩:=qH.1 e; rw [hg] at x1; simp only [Option.some.injEq] at x1; subst x1; exact absurd x2 c] at next
      simpa using next
  · have hmem:∀ p c,QE (reachR a) p=some c→cmpC c (soonR a to).2≤0→p ∈ selR a (soonR a to).2 v:=fun p c hp hc=>by
     obtain ⟨i,hi2⟩:=List.mem_iff_getElem?.1 (get_mem hp)
     exact QbO.2 ⟨i,hall i (List.getElem?_eq_some_iff.1 hi2).1,(p,c),hi2,hc,rfl⟩
    have g0:=Qcd hi.nd (List.mem_of_getElem? q2:(e0.1,e0.2) ∈ reachR a)
    have hb0:cmpC e0.2 (soonR a to).2≤0:=by rw [q4]; simp [cmpC,orG]
    have hm0:=hmem e0.1 e0.2 g0 hb0
    have hpos:0<(selR a (soonR a to).2 v).length:=List.length_pos_of_mem hm0
    refine f180W0x a to _ v hE ⟨⟨h,hpos,by omega⟩,?_⟩
    have hLm:∀ p,p ∈ sortR a (selR a (soonR a to).2 v) ↔ p ∈ selR a (soonR a to).2 v:=fun p=>yb.mem_iff
    rw [show (selR a (soonR a to).2 v).length=(sortR a (selR a (soonR a to).2 v)).length from Wh.symm]
    have hLn:(sortR a (selR a (soonR a to).2 v)).Nodup:=yb.nodup_iff.2 (QaU h hn)
    have hLok:∀ p ∈ sortR a (selR a (soonR a to).2 v),PlaOk a p:=fun p hp=>by
     obtain ⟨s,-,e,x1,-,rfl⟩:=QbO.1 ((hLm p).1 hp)
     exact (Yp h x1).1
    have hLl:(sortR a (selR a (soonR a to).2 v)).length≤nP a:=by rw [Wh]; omega
    refine left_go h.1 hLn hLok hLl v hE (fun left hl=>?_) _ 0 [] (Nat.zero_add _) ⟨fun p c e=>(by cases e),fun p c e=>(by cases e),fun p c e=>(by cases e),fun j p hj=>(by omega)⟩
    -- the beginning is known
    have hc0:=(Yp h q2).2
    have k0:∃ d,QE left e0.1=some d:=by
     obtain ⟨j,hj⟩:=List.mem_iff_getElem?.1 ((hLm _).2 hm0)
     exact hl.cl j e0.1 (List.getElem?_eq_some_iff.1 hj).1 hj (.inl q3)
    obtain ⟨c,hc⟩:=begin_known hi h.1 (fun p c x y=>(hLm p).2 (hmem p c x y)) (fun i j x y=>sortR_sorted) hl e0.2.ticks.toNat e0.1 e0.2 (by have:=hc0.1; omega) g0 hb0 k0
    have cb:=(hl.vl _ _ hc)
    obtain ⟨b1,b2,b3,b4⟩:=cb
    exact way_go h.1 hr hl hLl (fun p c e=>hLok p (List.mem_of_mem_take (hl.ks p c e))) v _ hE c.ticks.toNat [] (Xh a) a.l.ready c (by omega) hc trivial rfl (by simp only [sumL]; omega) (by omega) (by simp only [List.length_nil]; omega) hr.1
end
theorem drive_ok {a:Atl} (to:Int) (h:(AtlOk a∧PlaOk a (Xh a))∧0≤a.l.ready∧a.l.ready≤1000000) :
 NewR Try.prog 180 [.agg [.rsl (rowB a.m.park) 0 a.m.park.length,.rsl (Qb a.m.roads) 0 a.m.roads.length,.int .i64 a.l.hgt,.int .i64 a.l.wgt,.int .i64 a.l.fr,.int .i64 a.l.ready,.int .i64 a.l.drive,.int .i64 a.l.rest],.int .i64 to] (DriveR a) :=
 newR_sel (newR_of Try.func180 f180b fun E hE=>f180W a to hE ⟨h.1,fun _=>⟨[],[],rfl,rfl,rfl,.inr ⟨rfl,rfl⟩⟩,fun c=>⟨h.1,drive_go h.1 h.2 (by simpa using c) hE ((reachR a).length+1) [] (by simp) (by simp) (fun x hx=>by cases hx)⟩⟩)
end Go.Proofs.Ytemklbioijmjiaa
namespace Go.Proofs.Ytemklbioijmjiaa
open Go Ax
open Go.Proofs
theorem f179b:Try.f179.body=some (Qf Try.prog 179):=by kernel_rfl
theorem u179 {a c k:List AV} {r:AV} (h:Pure Try.prog 179 (a++c++k) r):Qc Try.prog (.clos 179 a k) c r:=Qk Try.func179 (by kernel_rfl) f179b h
theorem f179W (n:Int) (lo:Int) (hi:Int) {E:Env} {rv:Bool} (hE:Qr Try.prog 179 (.bool rv) E)
 (h:((n≥lo→rv=(decide (n≤hi)))∧(¬ (n≥lo)→rv=false))):G Try.prog E [.code (Qf Try.prog 179)] ⟨[.int .i64 n,.int .i64 lo,.int .i64 hi]++unds (Try.f179.ntmps - 3),[]⟩:=by
 rcases bft (decide (n≥lo)) with hc0 | hc0
 · have h:=h.1 (odt hc0)
   exact eL (.bool (decide (n≤hi))) [.b true] [(decide (n≥lo))=true] hE Try.func179 ⟨hc0,trivial⟩ (by exact AvLe.of_eq (by rw [h]; try rfl))
 · have h:=h.2 (odf hc0)
   exact eL (.bool false) [.b false] [(decide (n≥lo))=false] hE Try.func179 ⟨hc0,trivial⟩ (by exact AvLe.of_eq (by rw [h]; try rfl))
theorem Qq (n lo hi:Int):Pure Try.prog 179 [.int .i64 n,.int .i64 lo,.int .i64 hi] (.bool (Qa n lo hi)):=Qt Try.func179 f179b fun E hE=>by
 refine f179W n lo hi hE ⟨fun h=>by simp [Qa,h],fun h=>by simp [Qa,h]⟩
theorem f233b:Try.f233.body=some (Qf Try.prog 233):=by kernel_rfl
theorem u233 {a c k:List AV} {r:AV} (h:Pure Try.prog 233 (a++c++k) r):Qc Try.prog (.clos 233 a k) c r:=Qk Try.func233 (by kernel_rfl) f233b h
theorem f233W (m:FMap) (n:Int) {E:Env} {rv:Bool} (hE:Qr Try.prog 233 (.bool rv) E)
 (h:((I6 ((m.park.length:Int) - 1))∧rv=(Qa n 0 ((m.park.length:Int) - 1)))):G Try.prog E [.code (Qf Try.prog 233)] ⟨[.agg [.rsl (rowB m.park) 0 m.park.length,.rsl (Qb m.roads) 0 m.roads.length],.int .i64 n]++unds (Try.f233.ntmps - 2),[]⟩:=by
 obtain ⟨q0_0,h⟩:=h
 exact eL (.bool (Qa n 0 ((m.park.length:Int) - 1))) [.v (.bool (Qa n 0 ((m.park.length:Int) - 1)))] [InR .i64 ((m.park.length:Int) - 1),Qc Try.prog (.clos 179 [] []) [.int .i64 n,.int .i64 0,.int .i64 ((m.park.length:Int) - 1)] (.bool (Qa n 0 ((m.park.length:Int) - 1)))] hE Try.func233 ⟨q0_0,(u179 (Qq n 0 ((m.park.length:Int) - 1))),trivial⟩ (by exact AvLe.of_eq (by rw [h]; try rfl))
def QF (m:FMap) (n:Int):Bool:=Qa n 0 ((m.park.length:Int) - 1)
theorem XL (m:FMap) (n:Int) (h:m.park.length≤1000000):Pure Try.prog 233 [.agg [.rsl (rowB m.park) 0 m.park.length,.rsl (Qb m.roads) 0 m.roads.length],.int .i64 n] (.bool (QF m n)):=Qt Try.func233 f233b fun E hE=>f233W m n (rv:=QF m n) hE ⟨⟨by omega,by omega⟩,rfl⟩
theorem f268b:Try.f268.body=some (Qf Try.prog 268):=by kernel_rfl
theorem u268 {a c k:List AV} {r:AV} (h:Pure Try.prog 268 (a++c++k) r):Qc Try.prog (.clos 268 a k) c r:=Qk Try.func268 (by kernel_rfl) f268b h
theorem f268W (r:Rod) (m:FMap) {E:Env} {rv:Bool} (hE:Qr Try.prog 268 (.bool rv) E)
 (h:((m.park.length≤1000000)∧(((QF m r.a)=false→rv=true)∧((QF m r.a)=true→((m.park.length≤1000000)∧(((QF m r.b)=false→rv=true)∧((QF m r.b)=true→((r.a=r.b→rv=true)∧(¬ (r.a=r.b)→(((Qa r.len 1 500)=false→rv=true)∧((Qa r.len 1 500)=true→(((Qa r.hgt 0 1000)=false→rv=true)∧((Qa r.hgt 0 1000)=true→rv=(!(Qa r.wgt 0 1000))))))))))))))):G Try.prog E [.code (Qf Try.prog 268)] ⟨[.agg [.int .i64 r.a,.int .i64 r.b,.int .i64 r.len,.int .i64 r.hgt,.int .i64 r.wgt],.rptr [.rsl (rowB m.park) 0 m.park.length,.rsl (Qb m.roads) 0 m.roads.length] 0]++unds (Try.f268.ntmps - 2),[]⟩:=by
 obtain ⟨h1,h⟩:=h
 rcases bft (!(QF m r.a)) with hc0 | hc0
 · have h:=h.1 (bnT hc0)
   exact eL (.bool true) [.v (.bool (QF m r.a)),.b true,.b true,.b true,.b true,.b true] [Qc Try.prog (.clos 233 [] []) [.agg [.rsl (rowB m.park) 0 m.park.length,.rsl (Qb m.roads) 0 m.roads.length],.int .i64 r.a] (.bool (QF m r.a)),(!(QF m r.a))=true,true=true,true=true,true=true,true=true] hE Try.func268 ⟨(u233 (XL m r.a h1)),hc0,rfl,rfl,rfl,rfl,trivial⟩ (by exact AvLe.of_eq (by rw [h]; try rfl))
 · have h:=h.2 (bnF hc0)
   obtain ⟨h2,h⟩:=h
   rcases bft (!(QF m r.b)) with hc1 | hc1
   · have h:=h.1 (bnT hc1)
     exact eL (.bool true) [.v (.bool (QF m r.a)),.b false,.v (.bool (QF m r.b)),.b true,.b true,.b true,.b true] [Qc Try.prog (.clos 233 [] []) [.agg [.rsl (rowB m.park) 0 m.park.length,.rsl (Qb m.roads) 0 m.roads.length],.int .i64 r.a] (.bool (QF m r.a)),(!(QF m r.a))=false,Qc Try.prog (.clos 233 [] []) [.agg [.rsl (rowB m.park) 0 m.park.length,.rsl (Qb m.roads) 0 m.roads.length],.int .i64 r.b] (.bool (QF m r.b)),(!(QF m r.b))=true,true=true,true=true,true=true] hE Try.func268 ⟨(u233 (XL m r.a h1)),hc0,(u233 (XL m r.b h2)),hc1,rfl,rfl,rfl,trivial⟩ (by exact AvLe.of_eq (by rw [h]; try rfl))
   · have h:=h.2 (bnF hc1)
     rcases bft (r.a == r.b) with hc2 | hc2
     · have h:=h.1 (eq_of_beq hc2)
       exact eL (.bool true) [.v (.bool (QF m r.a)),.b false,.v (.bool (QF m r.b)),.b false,.b true,.b true,.b true] [Qc Try.prog (.clos 233 [] []) [.agg [.rsl (rowB m.park) 0 m.park.length,.rsl (Qb m.roads) 0 m.roads.length],.int .i64 r.a] (.bool (QF m r.a)),(!(QF m r.a))=false,Qc Try.prog (.clos 233 [] []) [.agg [.rsl (rowB m.park) 0 m.park.length,.rsl (Qb m.roads) 0 m.roads.length],.int .i64 r.b] (.bool (QF m r.b)),(!(QF m r.b))=false,(r.a == r.b)=true,true=true,true=true] hE Try.func268 ⟨(u233 (XL m r.a h1)),hc0,(u233 (XL m r.b h2)),hc1,hc2,rfl,rfl,trivial⟩ (by exact AvLe.of_eq (by rw [h]; try rfl))
     · have h:=h.2 (ne_of_beq_false hc2)
       rcases bft (!(Qa r.len 1 500)) with hc3 | hc3
       · have h:=h.1 (bnT hc3)
         exact eL (.bool true) [.v (.bool (QF m r.a)),.b false,.v (.bool (QF m r.b)),.b false,.b false,.v (.bool (Qa r.len 1 500)),.b true,.b true] [Qc Try.prog (.clos 233 [] []) [.agg [.rsl (rowB m.park) 0 m.park.length,.rsl (Qb m.roads) 0 m.roads.length],.int .i64 r.a] (.bool (QF m r.a)),(!(QF m r.a))=false,Qc Try.prog (.clos 233 [] []) [.agg [.rsl (rowB m.park) 0 m.park.length,.rsl (Qb m.roads) 0 m.roads.length],.int .i64 r.b] (.bool (QF m r.b)),(!(QF m r.b))=false,(r.a == r.b)=false,Qc Try.prog (.clos 179 [] []) [.int .i64 r.len,.int .i64 1,.int .i64 500] (.bool (Qa r.len 1 500)),(!(Qa r.len 1 500))=true,true=true] hE Try.func268 ⟨(u233 (XL m r.a h1)),hc0,(u233 (XL m r.b h2)),hc1,hc2,(u179 (Qq r.len 1 500)),hc3,rfl,trivial⟩ (by exact AvLe.of_eq (by rw [h]; try rfl))
       · have h:=h.2 (bnF hc3)
         rcases bft (!(Qa r.hgt 0 1000)) with hc4 | hc4
         · have h:=h.1 (bnT hc4)
           exact eL (.bool true) [.v (.bool (QF m r.a)),.b false,.v (.bool (QF m r.b)),.b false,.b false,.v (.bool (Qa r.len 1 500)),.b false,.v (.bool (Qa r.hgt 0 1000)),.b true] [Qc Try.prog (.clos 233 [] []) [.agg [.rsl (rowB m.park) 0 m.park.length,.rsl (Qb m.roads) 0 m.roads.length],.int .i64 r.a] (.bool (QF m r.a)),(!(QF m r.a))=false,Qc Try.prog (.clos 233 [] []) [.agg [.rsl (rowB m.park) 0 m.park.length,.rsl (Qb m.roads) 0 m.roads.length],.int .i64 r.b] (.bool (QF m r.b)),(!(QF m r.b))=false,(r.a == r.b)=false,Qc Try.prog (.clos 179 [] []) [.int .i64 r.len,.int .i64 1,.int .i64 500] (.bool (Qa r.len 1 500)),(!(Qa r.len 1 500))=false,Qc Try.prog (.clos 179 [] []) [.int .i64 r.hgt,.int .i64 0,.int .i64 1000] (.bool (Qa r.hgt 0 1000)),(!(Qa r.hgt 0 1000))=true] hE Try.func268 ⟨(u233 (XL m r.a h1)),hc0,(u233 (XL m r.b h2)),hc1,hc2,(u179 (Qq r.len 1 500)),hc3,(u179 (Qq r.hgt 0 1000)),hc4,trivial⟩ (by exact AvLe.of_eq (by rw [h]; try rfl))
         · have h:=h.2 (bnF hc4)
           exact eL (.bool (!(Qa r.wgt 0 1000))) [.v (.bool (QF m r.a)),.b false,.v (.bool (QF m r.b)),.b false,.b false,.v (.bool (Qa r.len 1 500)),.b false,.v (.bool (Qa r.hgt 0 1000)),.b false,.v (.bool (Qa r.wgt 0 1000))] [Qc Try.prog (.clos 233 [] []) [.agg [.rsl (rowB m.park) 0 m.park.length,.rsl (Qb m.roads) 0 m.roads.length],.int .i64 r.a] (.bool (QF m r.a)),(!(QF m r.a))=false,Qc Try.prog (.clos 233 [] []) [.agg [.rsl (rowB m.park) 0 m.park.length,.rsl (Qb m.roads) 0 m.roads.length],.int .i64 r.b] (.bool (QF m r.b)),(!(QF m r.b))=false,(r.a == r.b)=false,Qc Try.prog (.clos 179 [] []) [.int .i64 r.len,.int .i64 1,.int .i64 500] (.bool (Qa r.len 1 500)),(!(Qa r.len 1 500))=false,Qc Try.prog (.clos 179 [] []) [.int .i64 r.hgt,.int .i64 0,.int .i64 1000] (.bool (Qa r.hgt 0 1000)),(!(Qa r.hgt 0 1000))=false,Qc Try.prog (.clos 179 [] []) [.int .i64 r.wgt,.int .i64 0,.int .i64 1000] (.bool (Qa r.wgt 0 1000))] hE Try.func268 ⟨(u233 (XL m r.a h1)),hc0,(u233 (XL m r.b h2)),hc1,hc2,(u179 (Qq r.len 1 500)),hc3,(u179 (Qq r.hgt 0 1000)),hc4,(u179 (Qq r.wgt 0 1000)),trivial⟩ (by exact AvLe.of_eq (by rw [h]; try rfl))
def badR (m:FMap) (r:Rod):Bool:=!(QF m r.a) || (!(QF m r.b) || (decide (r.a=r.b) || (!(Qa r.len 1 500) || (!(Qa r.hgt 0 1000) || !(Qa r.wgt 0 1000)))))
theorem badR_ok (m:FMap) (r:Rod) (h:m.park.length≤1000000):Pure Try.prog 268 [.agg (cRod r),.rptr [.rsl (rowB m.park) 0 m.park.length,.rsl (Qb m.roads) 0 m.roads.length] 0] (.bool (badR m r)):=Qt Try.func268 f268b fun E hE=>by
 refine f268W r m (rv:=badR m r) hE ⟨h,fun a=>?_,fun a=>⟨h,fun b=>?_,fun b=>⟨fun c=>?_,fun c=>⟨fun d=>?_,fun d=>⟨fun e=>?_,fun e=>?_⟩⟩⟩⟩⟩
 · simp [badR,a]
 · simp [badR,a,b]
 · simp [badR,a,b,c]
 · simp [badR,a,b,c,d]
 · simp [badR,a,b,c,d,e]
 · simp [badR,a,b,c,d,e]
theorem f284rdb:Try.f284.body=some (Qf Try.prog 284):=by kernel_rfl
def f284rdK0 (P:Program):List Item:=kAt 400 [.code (Qf P 284)] [.stop]
def f284rdS0 (l:(List Rod)) (m:FMap) (i:Nat):St:=⟨([.rsl (Qb l) 0 l.length,.clos 268 [] [.rptr [.rsl (rowB m.park) 0 m.park.length,.rsl (Qb m.roads) 0 m.roads.length] 0]]++jj 5 ([.int .i64 (l.length:Int),.int .i64 (i:Int)]++Js 10)),[]⟩
def Ko (E:Env) (l:(List Rod)) (m:FMap) (i:Nat):Prop:=G Try.prog E (f284rdK0 Try.prog) (f284rdS0 l m i )
theorem f284rdW (l:(List Rod)) (m:FMap) {E:Env} {rv:Int} (hE:Qr Try.prog 284 (.int .i64 rv) E)
 (h:Ko E l m 0):G Try.prog E [.code (Qf Try.prog 284)] ⟨[.rsl (Qb l) 0 l.length,.clos 268 [] [.rptr [.rsl (rowB m.park) 0 m.park.length,.rsl (Qb m.roads) 0 m.roads.length] 0]]++unds (Try.f284.ntmps - 2),[]⟩:=by
 exact sQ [0,1,7,8] 0 [.stop] [] hE trivial h
theorem f284rdW0 (l:(List Rod)) (m:FMap) (i:Nat) {E:Env} {rv:Int} (hE:Qr Try.prog 284 (.int .i64 rv) E)
 (h:(((i:Int)<(l.length:Int)→(∃ re:Rod,l[i]?=some re∧((m.park.length≤1000000)∧(((badR m re)=true→rv=(i:Int))∧((badR m re)=false→((I6 ((i:Int)+1))∧Ko E l m (i+1)))))))∧(¬ ((i:Int)<(l.length:Int))→rv=(-1)))):Ko E l m i:=by
 rcases bft (decide ((i:Int)<(l.length:Int))) with hc0 | hc0
 · have h:=h.1 (odt hc0)
   obtain ⟨re,h1,h⟩:=h
   obtain ⟨h2,h⟩:=h
   rcases bft (badR m re) with hc1 | hc1
   · have h:=h.1 hc1
     exact eL (.int .i64 (i:Int)) [.b true,.ld (.agg [.int .i64 re.a,.int .i64 re.b,.int .i64 re.len,.int .i64 re.hgt,.int .i64 re.wgt]),.v (.bool (badR m re)),.b true] [(decide ((i:Int)<(l.length:Int)))=true,0≤(i:Int)∧(i:Int)<(l.length:Int),((Qb l).drop (0+(Int.toNat (i:Int))*5)).take 5=[.int .i64 re.a,.int .i64 re.b,.int .i64 re.len,.int .i64 re.hgt,.int .i64 re.wgt],Qc Try.prog (.clos 268 [] [.rptr [.rsl (rowB m.park) 0 m.park.length,.rsl (Qb m.roads) 0 m.roads.length] 0]) [.agg [.int .i64 re.a,.int .i64 re.b,.int .i64 re.len,.int .i64 re.hgt,.int .i64 re.wgt]] (.bool (badR m re)),(badR m re)=true] hE Try.func284 ⟨hc0,(Qm h1),(rp cRod 5 0 5 h1),(u268 (badR_ok m re h2)),hc1,trivial⟩ (by exact AvLe.of_eq (by rw [h]; try rfl))
   · have h:=h.2 hc1
     obtain ⟨q6_2,h⟩:=h
     exact sQ [0,1,7,8] 0 [.b true,.ld (.agg [.int .i64 re.a,.int .i64 re.b,.int .i64 re.len,.int .i64 re.hgt,.int .i64 re.wgt]),.v (.bool (badR m re)),.b false,.stop] [(decide ((i:Int)<(l.length:Int)))=true,0≤(i:Int)∧(i:Int)<(l.length:Int),((Qb l).drop (0+(Int.toNat (i:Int))*5)).take 5=[.int .i64 re.a,.int .i64 re.b,.int .i64 re.len,.int .i64 re.hgt,.int .i64 re.wgt],Qc Try.prog (.clos 268 [] [.rptr [.rsl (rowB m.park) 0 m.park.length,.rsl (Qb m.roads) 0 m.roads.length] 0]) [.agg [.int .i64 re.a,.int .i64 re.b,.int .i64 re.len,.int .i64 re.hgt,.int .i64 re.wgt]] (.bool (badR m re)),(badR m re)=false,InR .i64 ((i:Int)+1)] hE ⟨hc0,(Qm h1),(rp cRod 5 0 5 h1),(u268 (badR_ok m re h2)),hc1,q6_2,trivial⟩ h
 · have h:=h.2 (odf hc0)
   exact eL (.int .i64 (-1)) [.b false] [(decide ((i:Int)<(l.length:Int)))=false] hE Try.func284 ⟨hc0,trivial⟩ (by exact AvLe.of_eq (by rw [h]; try rfl))
theorem idxBadR_ok (l:List Rod) (m:FMap) (h:(∀ x ∈ l,m.park.length≤1000000)∧l.length≤9223372036854775807):Pure Try.prog 284 [.rsl (Qb l) 0 l.length,.clos 268 [] [.rptr [.rsl (rowB m.park) 0 m.park.length,.rsl (Qb m.roads) 0 m.roads.length] 0]] (.int .i64 (idxG (badR m) l)):=Qt Try.func284 f284rdb fun E hE=>by
 have hl:=h.2
 refine f284rdW l m (rv:=idxG (badR m) l) hE (Qac (badR m) l l.length 0 (by omega) (fun j x hj=>by omega) (fun i=>Ko E l m i) (fun i hi' h1 h2=>?_) (fun _ h2=>?_))
 · have hx:l[i]?=some l[i]:=List.getElem?_eq_getElem hi'
   have hm:=List.mem_of_getElem? hx
   exact f284rdW0 l m i (rv:=idxG (badR m) l) hE ⟨fun _=>⟨_,hx,h.1 _ hm,fun hp=>h1 _ hx (by simpa using hp),fun hp=>⟨by omega,h2 _ hx (by simpa using hp)⟩⟩,fun h=>by omega⟩
 · exact f284rdW0 l m _ (rv:=idxG (badR m) l) hE ⟨fun h=>by omega,fun _=>h2⟩
theorem f269rdb:Try.f269.body=some (Qf Try.prog 269):=by kernel_rfl
theorem f269rdW (l:(List Rod)) (m:FMap) {E:Env} {rv:Bool} (hE:Qr Try.prog 269 (.bool rv) E)
 (h:(((∀ x ∈ l,m.park.length≤1000000)∧l.length≤9223372036854775807)∧rv=(decide ((idxG (badR m) l)≥0)))):G Try.prog E [.code (Qf Try.prog 269)] ⟨[.rsl (Qb l) 0 l.length,.clos 268 [] [.rptr [.rsl (rowB m.park) 0 m.park.length,.rsl (Qb m.roads) 0 m.roads.length] 0]]++unds (Try.f269.ntmps - 2),[]⟩:=by
 obtain ⟨h1,h⟩:=h
 exact eL (.bool (decide ((idxG (badR m) l)≥0))) [.v (.int .i64 (idxG (badR m) l))] [Qc Try.prog (.clos 284 [] []) [.rsl (Qb l) 0 l.length,.clos 268 [] [.rptr [.rsl (rowB m.park) 0 m.park.length,.rsl (Qb m.roads) 0 m.roads.length] 0]] (.int .i64 (idxG (badR m) l))] hE Try.func269 ⟨(Qk Try.func284 (by kernel_rfl) f284rdb (idxBadR_ok l m h1)),trivial⟩ (by exact AvLe.of_eq (by rw [h]; try rfl))
theorem QbD (l:List Rod) (m:FMap) (h:(∀ x ∈ l,m.park.length≤1000000)∧l.length≤9223372036854775807):Pure Try.prog 269 [.rsl (Qb l) 0 l.length,.clos 268 [] [.rptr [.rsl (rowB m.park) 0 m.park.length,.rsl (Qb m.roads) 0 m.roads.length] 0]] (.bool (l.any (badR m))):=Qt Try.func269 f269rdb fun E hE =>
 f269rdW l m (rv:=l.any (badR m)) hE ⟨h,(Qcj _ _).symm⟩
theorem f231b:Try.f231.body=some (Qf Try.prog 231):=by kernel_rfl
theorem u231 {a c k:List AV} {r:AV} (h:Pure Try.prog 231 (a++c++k) r):Qc Try.prog (.clos 231 a k) c r:=Qk Try.func231 (by kernel_rfl) f231b h
theorem f231W (m:FMap) {E:Env} {rv:Int} (hE:Qr Try.prog 231 (.int .i64 rv) E)
 (h:(((Qa (m.park.length:Int) 1 12)=false→rv=90)∧((Qa (m.park.length:Int) 1 12)=true→(((m.roads.length:Int) > 30→rv=90)∧(¬ ((m.roads.length:Int) > 30)→(((∀ x ∈ m.roads,m.park.length≤1000000)∧m.roads.length≤9223372036854775807)∧(((m.roads.any (badR m))=true→rv=90)∧((m.roads.any (badR m))=false→rv=0)))))))):G Try.prog E [.code (Qf Try.prog 231)] ⟨[.agg [.rsl (rowB m.park) 0 m.park.length,.rsl (Qb m.roads) 0 m.roads.length]]++unds (Try.f231.ntmps - 1),[]⟩:=by
 rcases bft (!(Qa (m.park.length:Int) 1 12)) with hc0 | hc0
 · have h:=h.1 (bnT hc0)
   exact eL (.int .i64 90) [.v (.bool (Qa (m.park.length:Int) 1 12)),.b true,.b true,.b true] [Qc Try.prog (.clos 179 [] []) [.int .i64 (m.park.length:Int),.int .i64 1,.int .i64 12] (.bool (Qa (m.park.length:Int) 1 12)),(!(Qa (m.park.length:Int) 1 12))=true,true=true,true=true] hE Try.func231 ⟨(u179 (Qq (m.park.length:Int) 1 12)),hc0,rfl,rfl,trivial⟩ (by exact AvLe.of_eq (by rw [h]; try rfl))
 · have h:=h.2 (bnF hc0)
   rcases bft (decide ((m.roads.length:Int) > 30)) with hc1 | hc1
   · have h:=h.1 (odt hc1)
     exact eL (.int .i64 90) [.v (.bool (Qa (m.park.length:Int) 1 12)),.b false,.b true,.b true] [Qc Try.prog (.clos 179 [] []) [.int .i64 (m.park.length:Int),.int .i64 1,.int .i64 12] (.bool (Qa (m.park.length:Int) 1 12)),(!(Qa (m.park.length:Int) 1 12))=false,(decide ((m.roads.length:Int) > 30))=true,true=true] hE Try.func231 ⟨(u179 (Qq (m.park.length:Int) 1 12)),hc0,hc1,rfl,trivial⟩ (by exact AvLe.of_eq (by rw [h]; try rfl))
   · have h:=h.2 (odf hc1)
     obtain ⟨h1,h⟩:=h
     rcases bft (m.roads.any (badR m)) with hc2 | hc2
     · have h:=h.1 hc2
       exact eL (.int .i64 90) [.v (.bool (Qa (m.park.length:Int) 1 12)),.b false,.b false,.v (.bool (m.roads.any (badR m))),.b true] [Qc Try.prog (.clos 179 [] []) [.int .i64 (m.park.length:Int),.int .i64 1,.int .i64 12] (.bool (Qa (m.park.length:Int) 1 12)),(!(Qa (m.park.length:Int) 1 12))=false,(decide ((m.roads.length:Int) > 30))=false,Qc Try.prog (.clos 269 [] []) [.rsl (Qb m.roads) 0 m.roads.length,.clos 268 [] [.rptr [.rsl (rowB m.park) 0 m.park.length,.rsl (Qb m.roads) 0 m.roads.length] 0]] (.bool (m.roads.any (badR m))),(m.roads.any (badR m))=true] hE Try.func231 ⟨(u179 (Qq (m.park.length:Int) 1 12)),hc0,hc1,(Qk Try.func269 (by kernel_rfl) f269rdb (QbD m.roads m h1)),hc2,trivial⟩ (by exact AvLe.of_eq (by rw [h]; try rfl))
     · have h:=h.2 hc2
       exact eL (.int .i64 0) [.v (.bool (Qa (m.park.length:Int) 1 12)),.b false,.b false,.v (.bool (m.roads.any (badR m))),.b false] [Qc Try.prog (.clos 179 [] []) [.int .i64 (m.park.length:Int),.int .i64 1,.int .i64 12] (.bool (Qa (m.park.length:Int) 1 12)),(!(Qa (m.park.length:Int) 1 12))=false,(decide ((m.roads.length:Int) > 30))=false,Qc Try.prog (.clos 269 [] []) [.rsl (Qb m.roads) 0 m.roads.length,.clos 268 [] [.rptr [.rsl (rowB m.park) 0 m.park.length,.rsl (Qb m.roads) 0 m.roads.length] 0]] (.bool (m.roads.any (badR m))),(m.roads.any (badR m))=false] hE Try.func231 ⟨(u179 (Qq (m.park.length:Int) 1 12)),hc0,hc1,(Qk Try.func269 (by kernel_rfl) f269rdb (QbD m.roads m h1)),hc2,trivial⟩ (by exact AvLe.of_eq (by rw [h]; try rfl))
structure MapSmall (m:FMap):Prop where
 park:m.park.length≤1000
 roads:m.roads.length≤1000
def WT (m:FMap):Bool:=Qa (m.park.length:Int) 1 12 && (decide ((m.roads.length:Int)≤30) && !(m.roads.any (badR m)))
def QS (m:FMap):Int:=if WT m=true then 0 else 90
theorem yi {m:FMap} (h:WT m=false):QS m=90:=by unfold QS; rw [if_neg (by rw [h]; exact Bool.false_ne_true)]
theorem VT (m:FMap) (hs:MapSmall m):Pure Try.prog 231 [.agg [.rsl (rowB m.park) 0 m.park.length,.rsl (Qb m.roads) 0 m.roads.length]] (.int .i64 (QS m)):=Qt Try.func231 f231b fun E hE=>by
 have s1:=hs.park
 have s2:=hs.roads
 refine f231W m (rv:=QS m) hE ⟨fun a=>yi ?_,fun a=>⟨fun b=>yi ?_,fun b=>⟨⟨fun x _=>by omega,by omega⟩,fun c=>yi ?_,fun c=>?_⟩⟩⟩
 · unfold WT; rw [a]; rfl
 · unfold WT; rw [decide_eq_false (by omega),Bool.false_and,Bool.and_false]
 · unfold WT; rw [c]; simp
 · unfold QS WT; rw [a,c,decide_eq_true (by omega)]; rfl
theorem f232b:Try.f232.body=some (Qf Try.prog 232):=by kernel_rfl
theorem u232 {a c k:List AV} {r:AV} (h:Pure Try.prog 232 (a++c++k) r):Qc Try.prog (.clos 232 a k) c r:=Qk Try.func232 (by kernel_rfl) f232b h
def f232K0 (P:Program):List Item:=kAt 400 [.code (Qf P 232)] [.b false,.stop]
def f232S0 (m:FMap) (l:(List Lry)) (i:Nat):St:=⟨([J,J,.ptr 0 0 0]++jj 10 ([.rsl (Qo l) 0 l.length,.int .i64 (l.length:Int),.int .i64 (i:Int)]++Js 39)),[⟨true,0,1,true,[.rsl (rowB m.park) 0 m.park.length,.rsl (Qb m.roads) 0 m.roads.length],false⟩]⟩
def f232G0 (E:Env) (m:FMap) (l:(List Lry)) (i:Nat):Prop:=G Try.prog E (f232K0 Try.prog) (f232S0 m l i )
theorem f232W (m:FMap) (l:(List Lry)) {E:Env} {rv:Int} (hE:Qr Try.prog 232 (.int .i64 rv) E)
 (h:((MapSmall m)∧((¬ ((QS m)=0)→rv=(QS m))∧((QS m)=0→f232G0 E m l 0)))):G Try.prog E [.code (Qf Try.prog 232)] ⟨[.agg [.rsl (rowB m.park) 0 m.park.length,.rsl (Qb m.roads) 0 m.roads.length],.rsl (Qo l) 0 l.length]++unds (Try.f232.ntmps - 2),[]⟩:=by
 obtain ⟨h1,h⟩:=h
 rcases bft ((QS m) != 0) with hc0 | hc0
 · have h:=h.1 (bneT hc0)
   exact eL (.int .i64 (QS m)) [.v (.int .i64 (QS m)),.b true] [Qc Try.prog (.clos 231 [] []) [.agg [.rsl (rowB m.park) 0 m.park.length,.rsl (Qb m.roads) 0 m.roads.length]] (.int .i64 (QS m)),((QS m) != 0)=true] hE Try.func232 ⟨(u231 (VT m h1)),hc0,trivial⟩ (by exact AvLe.of_eq (by rw [h]; try rfl))
 · have h:=h.2 (bneF hc0)
   exact sQ [2,13,14,15] 1 [.v (.int .i64 (QS m)),.b false,.stop] [Qc Try.prog (.clos 231 [] []) [.agg [.rsl (rowB m.park) 0 m.park.length,.rsl (Qb m.roads) 0 m.roads.length]] (.int .i64 (QS m)),((QS m) != 0)=false] hE ⟨(u231 (VT m h1)),hc0,trivial⟩ h
theorem f232W0 (m:FMap) (l:(List Lry)) (i:Nat) {E:Env} {rv:Int} (hE:Qr Try.prog 232 (.int .i64 rv) E)
 (h:(((i:Int)<(l.length:Int)→(∃ le:Lry,l[i]?=some le∧(((Qa le.hgt 0 1000)=false→rv=91)∧((Qa le.hgt 0 1000)=true→(((Qa le.wgt 0 1000)=false→rv=91)∧((Qa le.wgt 0 1000)=true→((m.park.length≤1000000)∧(((QF m le.fr)=false→rv=91)∧((QF m le.fr)=true→(((Qa le.ready 0 2000)=false→rv=91)∧((Qa le.ready 0 2000)=true→(((Qa le.drive 1 500)=false→rv=91)∧((Qa le.drive 1 500)=true→(((Qa le.rest 1 500)=false→rv=91)∧((Qa le.rest 1 500)=true→((I6 ((i:Int)+1))∧f232G0 E m l (i+1)))))))))))))))))∧(¬ ((i:Int)<(l.length:Int))→rv=0))):f232G0 E m l i:=by
 rcases bft (decide ((i:Int)<(l.length:Int))) with hc0 | hc0
 · have h:=h.1 (odt hc0)
   obtain ⟨le,h1,h⟩:=h
   rcases bft (!(Qa le.hgt 0 1000)) with hc1 | hc1
   · have h:=h.1 (bnT hc1)
     exact eL (.int .i64 91) [.b true,.ld (.agg [.int .i64 le.hgt,.int .i64 le.wgt,.int .i64 le.fr,.int .i64 le.ready,.int .i64 le.drive,.int .i64 le.rest]),.v (.bool (Qa le.hgt 0 1000)),.b true,.b true,.b true,.b true,.b true,.b true] [(decide ((i:Int)<(l.length:Int)))=true,0≤(i:Int)∧(i:Int)<(l.length:Int),((Qo l).drop (0+(Int.toNat (i:Int))*6)).take 6=[.int .i64 le.hgt,.int .i64 le.wgt,.int .i64 le.fr,.int .i64 le.ready,.int .i64 le.drive,.int .i64 le.rest],6≤6,Qc Try.prog (.clos 179 [] []) [.int .i64 le.hgt,.int .i64 0,.int .i64 1000] (.bool (Qa le.hgt 0 1000)),(!(Qa le.hgt 0 1000))=true,true=true,true=true,true=true,true=true,true=true] hE Try.func232 ⟨hc0,(Qm h1),(rp cLry 6 0 6 h1),(by decide),(u179 (Qq le.hgt 0 1000)),hc1,rfl,rfl,rfl,rfl,rfl,trivial⟩ (by exact AvLe.of_eq (by rw [h]; try rfl))
   · have h:=h.2 (bnF hc1)
     rcases bft (!(Qa le.wgt 0 1000)) with hc2 | hc2
     · have h:=h.1 (bnT hc2)
       exact eL (.int .i64 91) [.b true,.ld (.agg [.int .i64 le.hgt,.int .i64 le.wgt,.int .i64 le.fr,.int .i64 le.ready,.int .i64 le.drive,.int .i64 le.rest]),.v (.bool (Qa le.hgt 0 1000)),.b false,.v (.bool (Qa le.wgt 0 1000)),.b true,.b true,.b true,.b true,.b true] [(decide ((i:Int)<(l.length:Int)))=true,0≤(i:Int)∧(i:Int)<(l.length:Int),((Qo l).drop (0+(Int.toNat (i:Int))*6)).take 6=[.int .i64 le.hgt,.int .i64 le.wgt,.int .i64 le.fr,.int .i64 le.ready,.int .i64 le.drive,.int .i64 le.rest],6≤6,Qc Try.prog (.clos 179 [] []) [.int .i64 le.hgt,.int .i64 0,.int .i64 1000] (.bool (Qa le.hgt 0 1000)),(!(Qa le.hgt 0 1000))=false,Qc Try.prog (.clos 179 [] []) [.int .i64 le.wgt,.int .i64 0,.int .i64 1000] (.bool (Qa le.wgt 0 1000)),(!(Qa le.wgt 0 1000))=true,true=true,true=true,true=true,true=true] hE Try.func232 ⟨hc0,(Qm h1),(rp cLry 6 0 6 h1),(by decide),(u179 (Qq le.hgt 0 1000)),hc1,(u179 (Qq le.wgt 0 1000)),hc2,rfl,rfl,rfl,rfl,trivial⟩ (by exact AvLe.of_eq (by rw [h]; try rfl))
     · have h:=h.2 (bnF hc2)
       obtain ⟨h2,h⟩:=h
       rcases bft (!(QF m le.fr)) with hc3 | hc3
       · have h:=h.1 (bnT hc3)
         exact eL (.int .i64 91) [.b true,.ld (.agg [.int .i64 le.hgt,.int .i64 le.wgt,.int .i64 le.fr,.int .i64 le.ready,.int .i64 le.drive,.int .i64 le.rest]),.v (.bool (Qa le.hgt 0 1000)),.b false,.v (.bool (Qa le.wgt 0 1000)),.b false,.v (.bool (QF m le.fr)),.b true,.b true,.b true,.b true] [(decide ((i:Int)<(l.length:Int)))=true,0≤(i:Int)∧(i:Int)<(l.length:Int),((Qo l).drop (0+(Int.toNat (i:Int))*6)).take 6=[.int .i64 le.hgt,.int .i64 le.wgt,.int .i64 le.fr,.int .i64 le.ready,.int .i64 le.drive,.int .i64 le.rest],6≤6,Qc Try.prog (.clos 179 [] []) [.int .i64 le.hgt,.int .i64 0,.int .i64 1000] (.bool (Qa le.hgt 0 1000)),(!(Qa le.hgt 0 1000))=false,Qc Try.prog (.clos 179 [] []) [.int .i64 le.wgt,.int .i64 0,.int .i64 1000] (.bool (Qa le.wgt 0 1000)),(!(Qa le.wgt 0 1000))=false,Qc Try.prog (.clos 233 [] []) [.agg [.rsl (rowB m.park) 0 m.park.length,.rsl (Qb m.roads) 0 m.roads.length],.int .i64 le.fr] (.bool (QF m le.fr)),(!(QF m le.fr))=true,true=true,true=true,true=true] hE Try.func232 ⟨hc0,(Qm h1),(rp cLry 6 0 6 h1),(by decide),(u179 (Qq le.hgt 0 1000)),hc1,(u179 (Qq le.wgt 0 1000)),hc2,(u233 (XL m le.fr h2)),hc3,rfl,rfl,rfl,trivial⟩ (by exact AvLe.of_eq (by rw [h]; try rfl))
       · have h:=h.2 (bnF hc3)
         rcases bft (!(Qa le.ready 0 2000)) with hc4 | hc4
         · have h:=h.1 (bnT hc4)
           exact eL (.int .i64 91) [.b true,.ld (.agg [.int .i64 le.hgt,.int .i64 le.wgt,.int .i64 le.fr,.int .i64 le.ready,.int .i64 le.drive,.int .i64 le.rest]),.v (.bool (Qa le.hgt 0 1000)),.b false,.v (.bool (Qa le.wgt 0 1000)),.b false,.v (.bool (QF m le.fr)),.b false,.v (.bool (Qa le.ready 0 2000)),.b true,.b true,.b true] [(decide ((i:Int)<(l.length:Int)))=true,0≤(i:Int)∧(i:Int)<(l.length:Int),((Qo l).drop (0+(Int.toNat (i:Int))*6)).take 6=[.int .i64 le.hgt,.int .i64 le.wgt,.int .i64 le.fr,.int .i64 le.ready,.int .i64 le.drive,.int .i64 le.rest],6≤6,Qc Try.prog (.clos 179 [] []) [.int .i64 le.hgt,.int .i64 0,.int .i64 1000] (.bool (Qa le.hgt 0 1000)),(!(Qa le.hgt 0 1000))=false,Qc Try.prog (.clos 179 [] []) [.int .i64 le.wgt,.int .i64 0,.int .i64 1000] (.bool (Qa le.wgt 0 1000)),(!(Qa le.wgt 0 1000))=false,Qc Try.prog (.clos 233 [] []) [.agg [.rsl (rowB m.park) 0 m.park.length,.rsl (Qb m.roads) 0 m.roads.length],.int .i64 le.fr] (.bool (QF m le.fr)),(!(QF m le.fr))=false,Qc Try.prog (.clos 179 [] []) [.int .i64 le.ready,.int .i64 0,.int .i64 2000] (.bool (Qa le.ready 0 2000)),(!(Qa le.ready 0 2000))=true,true=true,true=true] hE Try.func232 ⟨hc0,(Qm h1),(rp cLry 6 0 6 h1),(by decide),(u179 (Qq le.hgt 0 1000)),hc1,(u179 (Qq le.wgt 0 1000)),hc2,(u233 (XL m le.fr h2)),hc3,(u179 (Qq le.ready 0 2000)),hc4,rfl,rfl,trivial⟩ (by exact AvLe.of_eq (by rw [h]; try rfl))
         · have h:=h.2 (bnF hc4)
           rcases bft (!(Qa le.drive 1 500)) with hc5 | hc5
           · have h:=h.1 (bnT hc5)
             exact eL (.int .i64 91) [.b true,.ld (.agg [.int .i64 le.hgt,.int .i64 le.wgt,.int .i64 le.fr,.int .i64 le.ready,.int .i64 le.drive,.int .i64 le.rest]),.v (.bool (Qa le.hgt 0 1000)),.b false,.v (.bool (Qa le.wgt 0 1000)),.b false,.v (.bool (QF m le.fr)),.b false,.v (.bool (Qa le.ready 0 2000)),.b false,.v (.bool (Qa le.drive 1 500)),.b true,.b true] [(decide ((i:Int)<(l.length:Int)))=true,0≤(i:Int)∧(i:Int)<(l.length:Int),((Qo l).drop (0+(Int.toNat (i:Int))*6)).take 6=[.int .i64 le.hgt,.int .i64 le.wgt,.int .i64 le.fr,.int .i64 le.ready,.int .i64 le.drive,.int .i64 le.rest],6≤6,Qc Try.prog (.clos 179 [] []) [.int .i64 le.hgt,.int .i64 0,.int .i64 1000] (.bool (Qa le.hgt 0 1000)),(!(Qa le.hgt 0 1000))=false,Qc Try.prog (.clos 179 [] []) [.int .i64 le.wgt,.int .i64 0,.int .i64 1000] (.bool (Qa le.wgt 0 1000)),(!(Qa le.wgt 0 1000))=false,Qc Try.prog (.clos 233 [] []) [.agg [.rsl (rowB m.park) 0 m.park.length,.rsl (Qb m.roads) 0 m.roads.length],.int .i64 le.fr] (.bool (QF m le.fr)),(!(QF m le.fr))=false,Qc Try.prog (.clos 179 [] []) [.int .i64 le.ready,.int .i64 0,.int .i64 2000] (.bool (Qa le.ready 0 2000)),(!(Qa le.ready 0 2000))=false,Qc Try.prog (.clos 179 [] []) [.int .i64 le.drive,.int .i64 1,.int .i64 500] (.bool (Qa le.drive 1 500)),(!(Qa le.drive 1 500))=true,true=true] hE Try.func232 ⟨hc0,(Qm h1),(rp cLry 6 0 6 h1),(by decide),(u179 (Qq le.hgt 0 1000)),hc1,(u179 (Qq le.wgt 0 1000)),hc2,(u233 (XL m le.fr h2)),hc3,(u179 (Qq le.ready 0 2000)),hc4,(u179 (Qq le.drive 1 500)),hc5,rfl,trivial⟩ (by exact AvLe.of_eq (by rw [h]; try rfl))
           · have h:=h.2 (bnF hc5)
             rcases bft (!(Qa le.rest 1 500)) with hc6 | hc6
             · have h:=h.1 (bnT hc6)
               exact eL (.int .i64 91) [.b true,.ld (.agg [.int .i64 le.hgt,.int .i64 le.wgt,.int .i64 le.fr,.int .i64 le.ready,.int .i64 le.drive,.int .i64 le.rest]),.v (.bool (Qa le.hgt 0 1000)),.b false,.v (.bool (Qa le.wgt 0 1000)),.b false,.v (.bool (QF m le.fr)),.b false,.v (.bool (Qa le.ready 0 2000)),.b false,.v (.bool (Qa le.drive 1 500)),.b false,.v (.bool (Qa le.rest 1 500)),.b true] [(decide ((i:Int)<(l.length:Int)))=true,0≤(i:Int)∧(i:Int)<(l.length:Int),((Qo l).drop (0+(Int.toNat (i:Int))*6)).take 6=[.int .i64 le.hgt,.int .i64 le.wgt,.int .i64 le.fr,.int .i64 le.ready,.int .i64 le.drive,.int .i64 le.rest],6≤6,Qc Try.prog (.clos 179 [] []) [.int .i64 le.hgt,.int .i64 0,.int .i64 1000] (.bool (Qa le.hgt 0 1000)),(!(Qa le.hgt 0 1000))=false,Qc Try.prog (.clos 179 [] []) [.int .i64 le.wgt,.int .i64 0,.int .i64 1000] (.bool (Qa le.wgt 0 1000)),(!(Qa le.wgt 0 1000))=false,Qc Try.prog (.clos 233 [] []) [.agg [.rsl (rowB m.park) 0 m.park.length,.rsl (Qb m.roads) 0 m.roads.length],.int .i64 le.fr] (.bool (QF m le.fr)),(!(QF m le.fr))=false,Qc Try.prog (.clos 179 [] []) [.int .i64 le.ready,.int .i64 0,.int .i64 2000] (.bool (Qa le.ready 0 2000)),(!(Qa le.ready 0 2000))=false,Qc Try.prog (.clos 179 [] []) [.int .i64 le.drive,.int .i64 1,.int .i64 500] (.bool (Qa le.drive 1 500)),(!(Qa le.drive 1 500))=false,Qc Try.prog (.clos 179 [] []) [.int .i64 le.rest,.int .i64 1,.int .i64 500] (.bool (Qa le.rest 1 500)),(!(Qa le.rest 1 500))=true] hE Try.func232 ⟨hc0,(Qm h1),(rp cLry 6 0 6 h1),(by decide),(u179 (Qq le.hgt 0 1000)),hc1,(u179 (Qq le.wgt 0 1000)),hc2,(u233 (XL m le.fr h2)),hc3,(u179 (Qq le.ready 0 2000)),hc4,(u179 (Qq le.drive 1 500)),hc5,(u179 (Qq le.rest 1 500)),hc6,trivial⟩ (by exact AvLe.of_eq (by rw [h]; try rfl))
             · have h:=h.2 (bnF hc6)
               obtain ⟨q17_7,h⟩:=h
               exact sQ [2,13,14,15] 1 [.b true,.ld (.agg [.int .i64 le.hgt,.int .i64 le.wgt,.int .i64 le.fr,.int .i64 le.ready,.int .i64 le.drive,.int .i64 le.rest]),.v (.bool (Qa le.hgt 0 1000)),.b false,.v (.bool (Qa le.wgt 0 1000)),.b false,.v (.bool (QF m le.fr)),.b false,.v (.bool (Qa le.ready 0 2000)),.b false,.v (.bool (Qa le.drive 1 500)),.b false,.v (.bool (Qa le.rest 1 500)),.b false,.stop] [(decide ((i:Int)<(l.length:Int)))=true,0≤(i:Int)∧(i:Int)<(l.length:Int),((Qo l).drop (0+(Int.toNat (i:Int))*6)).take 6=[.int .i64 le.hgt,.int .i64 le.wgt,.int .i64 le.fr,.int .i64 le.ready,.int .i64 le.drive,.int .i64 le.rest],6≤6,Qc Try.prog (.clos 179 [] []) [.int .i64 le.hgt,.int .i64 0,.int .i64 1000] (.bool (Qa le.hgt 0 1000)),(!(Qa le.hgt 0 1000))=false,Qc Try.prog (.clos 179 [] []) [.int .i64 le.wgt,.int .i64 0,.int .i64 1000] (.bool (Qa le.wgt 0 1000)),(!(Qa le.wgt 0 1000))=false,Qc Try.prog (.clos 233 [] []) [.agg [.rsl (rowB m.park) 0 m.park.length,.rsl (Qb m.roads) 0 m.roads.length],.int .i64 le.fr] (.bool (QF m le.fr)),(!(QF m le.fr))=false,Qc Try.prog (.clos 179 [] []) [.int .i64 le.ready,.int .i64 0,.int .i64 2000] (.bool (Qa le.ready 0 2000)),(!(Qa le.ready 0 2000))=false,Qc Try.prog (.clos 179 [] []) [.int .i64 le.drive,.int .i64 1,.int .i64 500] (.bool (Qa le.drive 1 500)),(!(Qa le.drive 1 500))=false,Qc Try.prog (.clos 179 [] []) [.int .i64 le.rest,.int .i64 1,.int .i64 500] (.bool (Qa le.rest 1 500)),(!(Qa le.rest 1 500))=false,InR .i64 ((i:Int)+1)] hE ⟨hc0,(Qm h1),(rp cLry 6 0 6 h1),(by decide),(u179 (Qq le.hgt 0 1000)),hc1,(u179 (Qq le.wgt 0 1000)),hc2,(u233 (XL m le.fr h2)),hc3,(u179 (Qq le.ready 0 2000)),hc4,(u179 (Qq le.drive 1 500)),hc5,(u179 (Qq le.rest 1 500)),hc6,q17_7,trivial⟩ h
 · have h:=h.2 (odf hc0)
   exact eL (.int .i64 0) [.b false] [(decide ((i:Int)<(l.length:Int)))=false] hE Try.func232 ⟨hc0,trivial⟩ (by exact AvLe.of_eq (by rw [h]; try rfl))
def qM (m:FMap) (l:Lry):Bool:=Qa l.hgt 0 1000 && (Qa l.wgt 0 1000 && (QF m l.fr && (Qa l.ready 0 2000 && (Qa l.drive 1 500 && Qa l.rest 1 500))))
def XJ (m:FMap) (l:List Lry):Int:=if WT m=true then (if l.all (qM m)=true then 0 else 91) else 90
theorem Kj {m:FMap}:QS m=0 ↔ WT m=true:=by
 unfold QS; split
 · rename_i h; simp [h]
 · rename_i h; simp [h]
theorem Vi {m:FMap} {l:List Lry} (hm:WT m=true) {x:Lry} (hx:x ∈ l) (h:qM m x=false):XJ m l=91:=by
 unfold XJ
 rw [if_pos hm,if_neg]
 intro q
 have:=List.all_eq_true.1 q x hx
 rw [h] at this; cases this
theorem check_go (m:FMap) (l:List Lry) (hs:MapSmall m∧l.length≤1000000) (hm:WT m=true) {E:Env} (hE:Qr Try.prog 232 (.int .i64 (XJ m l)) E):∀ (d i:Nat),i+d=l.length→(∀ j x,j<i→l[j]?=some x→qM m x=true)→f232G0 E m l i:=by
 have s1:=hs.1.park
 have s2:=hs.2
 intro d
 induction d with
 | zero =>
  intro i hi hall
  refine f232W0 m l i (rv:=XJ m l) hE ⟨fun q=>absurd q (by omega),fun _=>?_⟩
  unfold XJ
  rw [if_pos hm,if_pos]
  refine List.all_eq_true.2 fun x hx=>?_
  obtain ⟨j,hj⟩:=List.mem_iff_getElem?.1 hx
  exact hall j x (by have:=(List.getElem?_eq_some_iff.1 hj).1; omega) hj
 | succ d ih =>
  intro i hi hall
  have hg:l[i]?=some l[i]:=List.getElem?_eq_getElem (by omega)
  generalize l[i]=x at hg
  have hx:=List.mem_of_getElem? hg
  refine f232W0 m l i (rv:=XJ m l) hE ⟨fun _=>⟨x,hg,fun a=>Vi hm hx ?_,fun a=>⟨fun b=>Vi hm hx ?_,fun b=>⟨by omega,fun c=>Vi hm hx ?_,fun c=>⟨fun d=>Vi hm hx ?_,fun d=>⟨fun e=>Vi hm hx ?_,fun e=>⟨fun f=>Vi hm hx ?_,fun f=>⟨by omega,ih (i+1) (by omega) fun j y hj hy=>?_⟩⟩⟩⟩⟩⟩⟩,fun q=>absurd (by omega) q⟩
  · unfold qM; rw [a]; rfl
  · unfold qM; rw [a,b]; rfl
  · unfold qM; rw [a,b,c]; rfl
  · unfold qM; rw [a,b,c,d]; rfl
  · unfold qM; rw [a,b,c,d,e]; rfl
  · unfold qM; rw [a,b,c,d,e,f]; rfl
  · rcases Nat.lt_or_ge j i with q | q
    · exact hall j y q hy
    · have:j=i:=by omega
      subst this
      rw [hg] at hy; simp only [Option.some.injEq] at hy; subst hy
      unfold qM; rw [a,b,c,d,e,f]; rfl
theorem Qcx (m:FMap) (l:List Lry) (hs:MapSmall m∧l.length≤1000000):Pure Try.prog 232 [.agg [.rsl (rowB m.park) 0 m.park.length,.rsl (Qb m.roads) 0 m.roads.length],.rsl (Qo l) 0 l.length] (.int .i64 (XJ m l)):=Qt Try.func232 f232b fun E hE=>by
 refine f232W m l (rv:=XJ m l) hE ⟨hs.1,fun a=>?_,fun a=>check_go m l hs (Kj.1 a) hE l.length 0 (by omega) (fun j x hj=>by omega)⟩
 have hm:¬ WT m=true:=fun q=>a (Kj.2 q)
 unfold QS XJ
 rw [if_neg hm,if_neg hm]
theorem f178b:Try.f178.body=some (Qf Try.prog 178):=by kernel_rfl
theorem u178 {a c k:List AV} {r:AV} (h:Pure Try.prog 178 (a++c++k) r):Qc Try.prog (.clos 178 a k) c r:=Qk Try.func178 (by kernel_rfl) f178b h
theorem f178W (m:FMap) (to:Int) (l:(List Lry)) {E:Env} {rv:Int} (hE:Qr Try.prog 178 (.int .i64 rv) E)
 (h:((MapSmall m)∧((¬ ((QS m)=0)→rv=(QS m))∧((QS m)=0→(((l.length:Int) > 8→rv=2)∧(¬ ((l.length:Int) > 8)→((MapSmall m∧l.length≤1000000)∧((¬ ((XJ m l)=0)→rv=(XJ m l))∧((XJ m l)=0→((m.park.length≤1000000)∧(((QF m to)=false→rv=1)∧((QF m to)=true→rv=0)))))))))))):G Try.prog E [.code (Qf Try.prog 178)] ⟨[.agg [.rsl (rowB m.park) 0 m.park.length,.rsl (Qb m.roads) 0 m.roads.length],.int .i64 to,.rsl (Qo l) 0 l.length]++unds (Try.f178.ntmps - 3),[]⟩:=by
 obtain ⟨h1,h⟩:=h
 rcases bft ((QS m) != 0) with hc0 | hc0
 · have h:=h.1 (bneT hc0)
   exact eL (.int .i64 (QS m)) [.v (.int .i64 (QS m)),.b true] [Qc Try.prog (.clos 231 [] []) [.agg [.rsl (rowB m.park) 0 m.park.length,.rsl (Qb m.roads) 0 m.roads.length]] (.int .i64 (QS m)),((QS m) != 0)=true] hE Try.func178 ⟨(u231 (VT m h1)),hc0,trivial⟩ (by exact AvLe.of_eq (by rw [h]; try rfl))
 · have h:=h.2 (bneF hc0)
   rcases bft (decide ((l.length:Int) > 8)) with hc1 | hc1
   · have h:=h.1 (odt hc1)
     exact eL (.int .i64 2) [.v (.int .i64 (QS m)),.b false,.b true] [Qc Try.prog (.clos 231 [] []) [.agg [.rsl (rowB m.park) 0 m.park.length,.rsl (Qb m.roads) 0 m.roads.length]] (.int .i64 (QS m)),((QS m) != 0)=false,(decide ((l.length:Int) > 8))=true] hE Try.func178 ⟨(u231 (VT m h1)),hc0,hc1,trivial⟩ (by exact AvLe.of_eq (by rw [h]; try rfl))
   · have h:=h.2 (odf hc1)
     obtain ⟨h2,h⟩:=h
     rcases bft ((XJ m l) != 0) with hc2 | hc2
     · have h:=h.1 (bneT hc2)
       exact eL (.int .i64 (XJ m l)) [.v (.int .i64 (QS m)),.b false,.b false,.v (.int .i64 (XJ m l)),.b true] [Qc Try.prog (.clos 231 [] []) [.agg [.rsl (rowB m.park) 0 m.park.length,.rsl (Qb m.roads) 0 m.roads.length]] (.int .i64 (QS m)),((QS m) != 0)=false,(decide ((l.length:Int) > 8))=false,Qc Try.prog (.clos 232 [] []) [.agg [.rsl (rowB m.park) 0 m.park.length,.rsl (Qb m.roads) 0 m.roads.length],.rsl (Qo l) 0 l.length] (.int .i64 (XJ m l)),((XJ m l) != 0)=true] hE Try.func178 ⟨(u231 (VT m h1)),hc0,hc1,(u232 (Qcx m l h2)),hc2,trivial⟩ (by exact AvLe.of_eq (by rw [h]; try rfl))
     · have h:=h.2 (bneF hc2)
       obtain ⟨h3,h⟩:=h
       rcases bft (!(QF m to)) with hc3 | hc3
       · have h:=h.1 (bnT hc3)
         exact eL (.int .i64 1) [.v (.int .i64 (QS m)),.b false,.b false,.v (.int .i64 (XJ m l)),.b false,.v (.bool (QF m to)),.b true] [Qc Try.prog (.clos 231 [] []) [.agg [.rsl (rowB m.park) 0 m.park.length,.rsl (Qb m.roads) 0 m.roads.length]] (.int .i64 (QS m)),((QS m) != 0)=false,(decide ((l.length:Int) > 8))=false,Qc Try.prog (.clos 232 [] []) [.agg [.rsl (rowB m.park) 0 m.park.length,.rsl (Qb m.roads) 0 m.roads.length],.rsl (Qo l) 0 l.length] (.int .i64 (XJ m l)),((XJ m l) != 0)=false,Qc Try.prog (.clos 233 [] []) [.agg [.rsl (rowB m.park) 0 m.park.length,.rsl (Qb m.roads) 0 m.roads.length],.int .i64 to] (.bool (QF m to)),(!(QF m to))=true] hE Try.func178 ⟨(u231 (VT m h1)),hc0,hc1,(u232 (Qcx m l h2)),hc2,(u233 (XL m to h3)),hc3,trivial⟩ (by exact AvLe.of_eq (by rw [h]; try rfl))
       · have h:=h.2 (bnF hc3)
         exact eL (.int .i64 0) [.v (.int .i64 (QS m)),.b false,.b false,.v (.int .i64 (XJ m l)),.b false,.v (.bool (QF m to)),.b false] [Qc Try.prog (.clos 231 [] []) [.agg [.rsl (rowB m.park) 0 m.park.length,.rsl (Qb m.roads) 0 m.roads.length]] (.int .i64 (QS m)),((QS m) != 0)=false,(decide ((l.length:Int) > 8))=false,Qc Try.prog (.clos 232 [] []) [.agg [.rsl (rowB m.park) 0 m.park.length,.rsl (Qb m.roads) 0 m.roads.length],.rsl (Qo l) 0 l.length] (.int .i64 (XJ m l)),((XJ m l) != 0)=false,Qc Try.prog (.clos 233 [] []) [.agg [.rsl (rowB m.park) 0 m.park.length,.rsl (Qb m.roads) 0 m.roads.length],.int .i64 to] (.bool (QF m to)),(!(QF m to))=false] hE Try.func178 ⟨(u231 (VT m h1)),hc0,hc1,(u232 (Qcx m l h2)),hc2,(u233 (XL m to h3)),hc3,trivial⟩ (by exact AvLe.of_eq (by rw [h]; try rfl))
def toE (m:FMap) (to:Int) (l:List Lry):Int:=if WT m=true then (if (l.length:Int) > 8 then 2 else if XJ m l=0 then (if QF m to=true then 0 else 1) else XJ m l) else 90
theorem to_ok (m:FMap) (to:Int) (l:List Lry) (hs:MapSmall m∧l.length≤1000000):Pure Try.prog 178 [.agg [.rsl (rowB m.park) 0 m.park.length,.rsl (Qb m.roads) 0 m.roads.length],.int .i64 to,.rsl (Qo l) 0 l.length] (.int .i64 (toE m to l)):=Qt Try.func178 f178b fun E hE=>by
 have s1:=hs.1.park
 refine f178W m to l (rv:=toE m to l) hE ⟨hs.1,fun a=>?_,fun a=>?_⟩
 · have hm:¬ WT m=true:=fun q=>a (Kj.2 q)
   unfold QS toE
   rw [if_neg hm,if_neg hm]
 · have hm:=Kj.1 a
   refine ⟨fun b=>?_,fun b=>⟨hs,fun c=>?_,fun c=>⟨by omega,fun d=>?_,fun d=>?_⟩⟩⟩
   · unfold toE; rw [if_pos hm,if_pos b]
   · unfold toE; rw [if_pos hm,if_neg b,if_neg c]
   · unfold toE; rw [if_pos hm,if_neg b,if_pos c,if_neg (by rw [d]; exact Bool.false_ne_true)]
   · unfold toE; rw [if_pos hm,if_neg b,if_pos c,if_pos d]
end Go.Proofs.Ytemklbioijmjiaa
namespace Go.Proofs.Ytemklbioijmjiaa
open Go Ax
open Go.Proofs
structure Flt where
 js:List (List Leg)
 arr:List Int
theorem f109b:Try.f109.body=some (Qf Try.prog 109):=by kernel_rfl
theorem u109 {a c k:List AV} {r:AV} (h:Pure Try.prog 109 (a++c++k) r):Qc Try.prog (.clos 109 a k) c r:=Qk Try.func109 (by kernel_rfl) f109b h
def f109K0 (P:Program):List Item:=kAt 400 [.code (Qf P 109)] [.stop]
def f109S0 (n:Int) (v0:List Int) (i:Nat) (g0:Nat):St:=⟨([J,J,.sl 0 g0 0 v0.length 1,J,.int .i64 n,.int .i64 (i:Int)]++Js 8),[⟨true,g0,1,true,(rowI v0),true⟩]⟩
def f109G0 (E:Env) (n:Int) (v0:List Int) (i:Nat):Prop:=∀ g0:Nat,G Try.prog E (f109K0 Try.prog) (f109S0 n v0 i g0)
theorem f109W (n:Int) {E:Env} {rv:(List Int)} (hE:Qr Try.prog 109 (.rsl (rowI rv) 0 rv.length) E)
 (h:f109G0 E n ([]) 0):G Try.prog E [.code (Qf Try.prog 109)] ⟨[.int .i64 n]++unds (Try.f109.ntmps - 1),[]⟩:=by
 exact QM (n:=400) (ds:=[(2,1)]) (cs:=[]) (live:=[2,4,5]) (m:=1) (evs:=[.stop]) (obs:=[]) hE.2.1 (hE.nogh _) mixed (by kernel_rfl) trivial (h 0)
theorem f109W0 (n:Int) (v0:List Int) (i:Nat) {E:Env} {rv:(List Int)} (hE:Qr Try.prog 109 (.rsl (rowI rv) 0 rv.length) E)
 (h:(((i:Int)<n→((v0.length+1)≤2147483648∧((I6 ((i:Int)+1))∧f109G0 E n (v0++[(i:Int)]) (i+1))))∧(¬ ((i:Int)<n)→rv=v0))):f109G0 E n v0 i:=by
 intro g0
 rcases bft (decide ((i:Int)<n)) with hc0 | hc0
 · have h:=h.1 (odt hc0)
   obtain ⟨h1,h⟩:=h
   obtain ⟨q5_1,h⟩:=h
   refine sP (f109K0 Try.prog) ⟨([J,J,.sl 0 (g0+1) 0 (v0.length+1) 1,J,.int .i64 n,.int .i64 ((i:Int)+1)]++Js 8),[⟨true,(g0+1),1,true,((rowI v0)++[.int .i64 (i:Int)]),true⟩]⟩ [2,4,5] 1 [.b true,.stop] [(decide ((i:Int)<n))=true,g0=g0,(0+(v0.length*1))=(rowI v0).length,(v0.length+1)≤2147483648,0=0,InR .i64 ((i:Int)+1)] hE ⟨hc0,rfl,(by have hx:=QG cI (s:=1) (fun _=>rfl) v0; simp only [rowI] at hx ⊢; rw [hx]; simp),h1,rfl,q5_1,trivial⟩ ?_
   rw [(show rowI v0++[.int .i64 (i:Int)]=rowI (v0++[(i:Int)]) from (Xz cI v0 [(i:Int)]).symm)]; (try rw [(show (v0.length+1)=(v0++[(i:Int)]).length from by simp)]); exact (h (g0+1))
 · have h:=h.2 (odf hc0)
   exact eL (.rsl (rowI v0) 0 v0.length) [.b false] [(decide ((i:Int)<n))=false,g0=g0] hE Try.func109 ⟨hc0,rfl,trivial⟩ (by exact AvLe.of_eq (by rw [h]; try rfl))
def Qy (n:Nat):List Int:=(List.range n).map fun i:Nat=>(i:Int)
theorem Xt {n:Nat}:(Qy n).length=n:=by simp [Qy]
theorem given_go (n:Nat) (h:n≤1000) {E:Env} (hE:Qr Try.prog 109 (.rsl (rowI (Qy n)) 0 (Qy n).length) E):∀ (d i:Nat),i+d=n→f109G0 E (n:Int) (Qy i) i:=by
 intro d
 induction d with
 | zero =>
  intro i hi
  have:i=n:=by omega
  subst this
  exact f109W0 (i:Int) (Qy i) i (rv:=Qy i) hE ⟨fun q=>absurd q (by omega),fun _=>rfl⟩
 | succ d ih =>
  intro i hi
  have hn:=ih (i+1) (by omega)
  rw [show Qy (i+1)=Qy i++[(i:Int)] from by simp [Qy,List.range_succ]] at hn
  exact f109W0 (n:Int) (Qy i) i (rv:=Qy n) hE ⟨fun _=>⟨by rw [Xt]; omega,by omega,hn⟩,fun q=>absurd (by omega) q⟩
theorem given_ok (n:Nat) (h:n≤1000):Pure Try.prog 109 [.int .i64 (n:Int)] (.rsl (rowI (Qy n)) 0 (Qy n).length):=Qt Try.func109 f109b fun E hE=>f109W (n:Int) (rv:=Qy n) hE (given_go n h hE n 0 (by omega))
theorem f108b:Try.f108.body=some (Qf Try.prog 108):=by kernel_rfl
def f108K0 (P:Program):List Item:=kAt 400 [.code (Qf P 108)] [.stop]
def f108S0 (order:(List Int)) (gap:Int) (f:Flt) (v0:List Int) (i:Nat) (g0:Nat):St:=⟨([.rptr [.rsl ((Yz Qn) f.js) 0 f.js.length,.rsl (rowI f.arr) 0 f.arr.length] 0,J,.int .i64 gap,J,J,J,.sl 0 g0 0 v0.length 1,J,J,J,.rsl (rowI order) 0 order.length,.int .i64 (order.length:Int),.int .i64 (i:Int)]++Js 28),[⟨true,g0,1,true,(rowI v0),true⟩]⟩
def f108G0 (E:Env) (order:(List Int)) (gap:Int) (f:Flt) (v0:List Int) (i:Nat):Prop:=∀ g0:Nat,G Try.prog E (f108K0 Try.prog) (f108S0 order gap f v0 i g0)
theorem f108W (order:(List Int)) (gap:Int) (f:Flt) {E:Env} {rv:(List Int)} (hE:PureNE Try.prog 108 (.rsl (rowI rv) 0 rv.length) E)
 (h:f108G0 E order gap f ([]) 0):G Try.prog E [.code (Qf Try.prog 108)] ⟨[.rptr [.rsl ((Yz Qn) f.js) 0 f.js.length,.rsl (rowI f.arr) 0 f.arr.length] 0,.rsl (rowI order) 0 order.length,.int .i64 gap]++unds (Try.f108.ntmps - 3),[]⟩:=by
 exact QM (n:=400) (ds:=[(6,1)]) (cs:=[]) (live:=[0,2,6,10,11,12]) (m:=1) (evs:=[.stop]) (obs:=[]) hE.kind (hE.nogh _) mixed (by kernel_rfl) trivial (h 0)
theorem f108W0 (order:(List Int)) (gap:Int) (f:Flt) (v0:List Int) (i:Nat) {E:Env} {rv:(List Int)} (hE:PureNE Try.prog 108 (.rsl (rowI rv) 0 rv.length) E)
 (h:(((i:Int)<(order.length:Int)→(∃ e:Int,order[i]?=some e∧(0≤e∧(∃ e1:Int,f.arr[Int.toNat e]?=some e1∧(((i:Int) > 0→((I6 ((i:Int) - 1))∧(0≤((i:Int) - 1)∧(∃ e2:Int,v0[Int.toNat ((i:Int) - 1)]?=some e2∧((I6 (e2+gap))∧((v0.length+1)≤2147483648∧((I6 ((i:Int)+1))∧f108G0 E order gap f (v0++[(iMax e1 (e2+gap))]) (i+1))))))))∧(¬ ((i:Int) > 0)→((v0.length+1)≤2147483648∧((I6 ((i:Int)+1))∧f108G0 E order gap f (v0++[e1]) (i+1)))))))))∧(¬ ((i:Int)<(order.length:Int))→rv=v0))):f108G0 E order gap f v0 i:=by
 intro g0
 rcases bft (decide ((i:Int)<(order.length:Int))) with hc0 | hc0
 · have h:=h.1 (odt hc0)
   obtain ⟨e,h1,h⟩:=h
   obtain ⟨h3,h⟩:=h
   obtain ⟨e1,h2,h⟩:=h
   rcases bft (decide ((i:Int) > 0)) with hc1 | hc1
   · have h:=h.1 (odt hc1)
     obtain ⟨q8_2,h⟩:=h
     obtain ⟨h5,h⟩:=h
     obtain ⟨e2,h4,h⟩:=h
     obtain ⟨q14_2,h⟩:=h
     obtain ⟨h6,h⟩:=h
     obtain ⟨q19_2,h⟩:=h
     refine sK (f108K0 Try.prog) ⟨([.rptr [.rsl ((Yz Qn) f.js) 0 f.js.length,.rsl (rowI f.arr) 0 f.arr.length] 0,J,.int .i64 gap,J,J,J,.sl 0 (g0+1) 0 (v0.length+1) 1,J,J,J,.rsl (rowI order) 0 order.length,.int .i64 (order.length:Int),.int .i64 ((i:Int)+1)]++Js 28),[⟨true,(g0+1),1,true,((rowI v0)++[.int .i64 (iMax e1 (e2+gap))]),true⟩]⟩ [0,2,6,10,11,12] 1 [.b true,.ld (.int .i64 e),.auto,.ld (.int .i64 e1),.b true,.ld (.int .i64 e2),.stop] [(decide ((i:Int)<(order.length:Int)))=true,0≤(i:Int)∧(i:Int)<(order.length:Int),((rowI order).drop (0+(Int.toNat (i:Int))*1)).take 1=[.int .i64 e],0≤e∧e<(f.arr.length:Int),((rowI f.arr).drop (0+(Int.toNat e)*1)).take 1=[.int .i64 e1],(decide ((i:Int) > 0))=true,InR .i64 ((i:Int) - 1),0≤((i:Int) - 1)∧((i:Int) - 1)<(v0.length:Int),g0=g0,g0=g0,((rowI v0).drop (0+(Int.toNat ((i:Int) - 1))*1)).take 1=[.int .i64 e2],InR .i64 (e2+gap),g0=g0,(0+(v0.length*1))=(rowI v0).length,(v0.length+1)≤2147483648,0=0,InR .i64 ((i:Int)+1)] hE.kind (hE.nogh _) ⟨hc0,(Qm h1),(rp cI 1 0 1 h1),(Qw h3 h2),(rp cI 1 0 1 h2),hc1,q8_2,(Qw h5 h4),rfl,rfl,(rp cI 1 0 1 h4),q14_2,rfl,(by have hx:=QG cI (s:=1) (fun _=>rfl) v0; simp only [rowI] at hx ⊢; rw [hx]; simp),h6,rfl,q19_2,trivial⟩ ?_
     rw [(show rowI v0++[.int .i64 (iMax e1 (e2+gap))]=rowI (v0++[(iMax e1 (e2+gap))]) from (Xz cI v0 [(iMax e1 (e2+gap))]).symm)]; (try rw [(show (v0.length+1)=(v0++[(iMax e1 (e2+gap))]).length from by simp)]); exact (h (g0+1))
   · have h:=h.2 (odf hc1)
     obtain ⟨h4,h⟩:=h
     obtain ⟨q12_2,h⟩:=h
     refine sK (f108K0 Try.prog) ⟨([.rptr [.rsl ((Yz Qn) f.js) 0 f.js.length,.rsl (rowI f.arr) 0 f.arr.length] 0,J,.int .i64 gap,J,J,J,.sl 0 (g0+1) 0 (v0.length+1) 1,J,J,J,.rsl (rowI order) 0 order.length,.int .i64 (order.length:Int),.int .i64 ((i:Int)+1)]++Js 28),[⟨true,(g0+1),1,true,((rowI v0)++[.int .i64 e1]),true⟩]⟩ [0,2,6,10,11,12] 1 [.b true,.ld (.int .i64 e),.auto,.ld (.int .i64 e1),.b false,.stop] [(decide ((i:Int)<(order.length:Int)))=true,0≤(i:Int)∧(i:Int)<(order.length:Int),((rowI order).drop (0+(Int.toNat (i:Int))*1)).take 1=[.int .i64 e],0≤e∧e<(f.arr.length:Int),((rowI f.arr).drop (0+(Int.toNat e)*1)).take 1=[.int .i64 e1],(decide ((i:Int) > 0))=false,g0=g0,(0+(v0.length*1))=(rowI v0).length,(v0.length+1)≤2147483648,0=0,InR .i64 ((i:Int)+1)] hE.kind (hE.nogh _) ⟨hc0,(Qm h1),(rp cI 1 0 1 h1),(Qw h3 h2),(rp cI 1 0 1 h2),hc1,rfl,(by have hx:=QG cI (s:=1) (fun _=>rfl) v0; simp only [rowI] at hx ⊢; rw [hx]; simp),h4,rfl,q12_2,trivial⟩ ?_
     rw [(show rowI v0++[.int .i64 e1]=rowI (v0++[e1]) from (Xz cI v0 [e1]).symm)]; (try rw [(show (v0.length+1)=(v0++[e1]).length from by simp)]); exact (h (g0+1))
 · have h:=h.2 (odf hc0)
   exact endN_step (r:=(.rsl (rowI v0) 0 v0.length)) (n:=400) (evs:=[.b false]) (obs:=[(decide ((i:Int)<(order.length:Int)))=false,g0=g0,∀ x ∈ (rowI v0),Yn x=true]) hE Try.func108 mixed (by kernel_rfl) ⟨hc0,rfl,(scal_Int _),trivial⟩ (by rw [h]; try rfl)
def arrS (arr:List Int) (gap:Int) (out:List Int) (x:Int):List Int:=out++[match out.getLast? with
 | none=>arr.getD x.toNat 0
 | some t=>iMax (arr.getD x.toNat 0) (t+gap)]
/-- When lorries arrive in an order. -/
def arrN (arr:List Int) (gap:Int) (order:List Int):List Int:=order.foldl (arrS arr gap) []
structure ArrIn (arr order:List Int) (gap:Int):Prop where
 ln:order.length≤1000
 ix:∀ x ∈ order,0≤x∧x<(arr.length:Int)
 ar:∀ t ∈ arr,0≤t∧t≤100000000
 gp:0≤gap∧gap≤100
theorem arrN_snoc {arr:List Int} {gap:Int} {o:List Int} {x:Int}:arrN arr gap (o++[x])=arrS arr gap (arrN arr gap o) x:=by simp [arrN,List.foldl_append]
theorem QcF {arr:List Int} {gap:Int} {o:List Int}:(arrN arr gap o).length=o.length:=by
 have:∀ (o:List Int) (s:List Int),(o.foldl (arrS arr gap) s).length=s.length+o.length:=by
  intro o
  induction o with
  | nil=>intro s; rfl
  | cons x o ih=>intro s; rw [List.foldl_cons,ih,arrS,List.length_append,List.length_cons,List.length_cons,List.length_nil]; omega
 simpa [arrN] using this o []
theorem arr_go (f:Flt) (order:List Int) (gap:Int) (h:ArrIn f.arr order gap) {E:Env} (hE:PureNE Try.prog 108 (.rsl (rowI (arrN f.arr gap order)) 0 (arrN f.arr gap order).length) E):∀ (d i:Nat),i+d=order.length→(∀ t ∈ arrN f.arr gap (order.take i),0≤t∧t≤100000000+100*(i:Int))→f108G0 E order gap f (arrN f.arr gap (order.take i)) i:=by
 have hl:=h.ln
 have hgp:=h.gp
 intro d
 induction d with
 | zero =>
  intro i hi hb
  refine f108W0 order gap f _ i (rv:=arrN f.arr gap order) hE ⟨fun q=>absurd q (by omega),fun _=>?_⟩
  rw [List.take_of_length_le (by omega)]
 | succ d ih =>
  intro i hi hb
  have hx:order[i]?=some order[i]:=List.getElem?_eq_getElem (by omega)
  generalize order[i]=x at hx
  obtain ⟨x0,x1⟩:=h.ix x (List.mem_of_getElem? hx)
  have hg:f.arr[x.toNat]?=some (f.arr.getD x.toNat 0):=by
   rw [List.getD_eq_getElem?_getD,List.getElem?_eq_getElem (show x.toNat<f.arr.length by omega)]; rfl
  obtain ⟨a0,a1⟩:=h.ar _ (List.mem_of_getElem? hg)
  have hs:arrN f.arr gap (order.take (i+1))=arrS f.arr gap (arrN f.arr gap (order.take i)) x:=by
   obtain ⟨hx1,hx2⟩:=List.getElem?_eq_some_iff.1 hx
   rw [List.take_succ_eq_append_getElem hx1,hx2,arrN_snoc]
  have hlen:(arrN f.arr gap (order.take i)).length=i:=by rw [QcF,List.length_take]; omega
  have next:=ih (i+1) (by omega)
  rw [hs] at next
  refine f108W0 order gap f _ i (rv:=arrN f.arr gap order) hE ⟨fun _=>⟨x,hx,x0,_,hg,fun q=>?_,fun q=>?_⟩,fun q=>absurd (by omega) q⟩
  · have hv:(arrN f.arr gap (order.take i))[i - 1]?=some ((arrN f.arr gap (order.take i))[i - 1]'(by omega)):=List.getElem?_eq_getElem (by omega)
    generalize (arrN f.arr gap (order.take i))[i - 1]'(by omega)=t at hv
    obtain ⟨t0,t1⟩:=hb t (List.mem_of_getElem? hv)
    have e1:Int.toNat ((i:Int) - 1)=i - 1:=by omega
    have hla:(arrN f.arr gap (order.take i)).getLast?=some t:=by rw [List.getLast?_eq_getElem?,hlen]; exact hv
    have hst:arrS f.arr gap (arrN f.arr gap (order.take i)) x=arrN f.arr gap (order.take i)++[iMax (f.arr.getD x.toNat 0) (t+gap)]:=by simp only [arrS,hla]
    rw [hst] at next
    refine ⟨by omega,by omega,t,by rw [e1]; exact hv,by omega,by omega,by omega,next fun y hy=>?_⟩
    rcases List.mem_append.1 hy with hy | hy
    · obtain ⟨p,q⟩:=hb y hy; omega
    · rw [List.mem_singleton] at hy; subst hy
      unfold iMax; split <;> omega
  · have hi0:i=0:=by omega
    subst hi0
    have hst:arrS f.arr gap (arrN f.arr gap (order.take 0)) x=arrN f.arr gap (order.take 0)++[f.arr.getD x.toNat 0]:=by simp [arrS,arrN]
    rw [hst] at next
    refine ⟨by omega,by omega,next fun y hy=>?_⟩
    rcases List.mem_append.1 hy with hy | hy
    · obtain ⟨p,q⟩:=hb y hy; omega
    · rw [List.mem_singleton] at hy; subst hy; omega
theorem arr_ok (f:Flt) (order:List Int) (gap:Int) (h:ArrIn f.arr order gap):PureN0 Try.prog 108 [.rptr [.rsl ((Yz Qn) f.js) 0 f.js.length,.rsl (rowI f.arr) 0 f.arr.length] 0,.rsl (rowI order) 0 order.length,.int .i64 gap] (.rsl (rowI (arrN f.arr gap order)) 0 (arrN f.arr gap order).length):=pureN_of Try.func108 f108b fun E hE =>
 f108W order gap f (rv:=arrN f.arr gap order) hE (arr_go f order gap h hE order.length 0 (by omega) (fun t ht=>by simp [arrN] at ht))
end Go.Proofs.Ytemklbioijmjiaa
namespace Go.Proofs.Ytemklbioijmjiaa
open Go Ax
open Go.Proofs
/-- Journeys and their generations,each behind a lorry's box that is laid down. -/
def famB:List (List Leg × Nat)→List Blk
 | []=>[]
 | e :: js=>⟨false,1,1,true,[],false⟩ :: ⟨true,e.2,2,true,Qn e.1,true⟩ :: famB js
def hdrs:Nat→List (List Leg × Nat)→List AV
 | _,[]=>[]
 | k,e :: js=>.sl (k+1) e.2 0 e.1.length 2 :: hdrs (k+2) js
theorem Qck:∀ {k:Nat} {js:List (List Leg × Nat)},(hdrs k js).length=js.length
 | _,[]=>rfl
 | k,e :: js=>by rw [hdrs,List.length_cons,List.length_cons,Qck]
theorem hdrs_app:∀ {k:Nat} {js:List (List Leg × Nat)} {e:List Leg × Nat},hdrs k js++[.sl (k+2*js.length+1) e.2 0 e.1.length 2]=hdrs k (js++[e])
 | k,[],e=>rfl
 | k,x :: js,e=>by
  rw [List.cons_append,hdrs,hdrs,List.cons_append,← hdrs_app,List.length_cons,show k+2+2*js.length+1=k+2*(js.length+1)+1 by omega]
theorem hdrs_snoc {js:List (List Leg × Nat)} {legs:List Leg} {gl:Nat}:hdrs 4 js++[.sl (4+2*js.length+1) gl 0 legs.length 2]=hdrs 4 (js++[(legs,gl)]):=hdrs_app (e:=(legs,gl))
theorem Qam {legs:List Leg} {gl:Nat}:∀ {js:List (List Leg × Nat)},famB js++[⟨false,1,1,true,[],false⟩,⟨true,gl,2,true,Qn legs,true⟩]=famB (js++[(legs,gl)])
 | []=>rfl
 | x :: js=>by rw [List.cons_append,famB,famB,List.cons_append,List.cons_append,Qam]
theorem f107b:Try.f107.body=some (Qf Try.prog 107):=by kernel_rfl
def Qbp (P:Program):List Item:=kAt 400 [.code (Qf P 107)] [.b false,.b false,.stop]
def f107S0 (m:FMap) (l:(List Lry)) (to:Int) (gap:Int) (js:List (List Leg × Nat)) (i:Nat) (arr:List Int) (g2:Nat) (g3:Nat):St:=⟨([J,J,.int .i64 to,J,.rptr [.rsl (rowB m.park) 0 m.park.length,.rsl (Qb m.roads) 0 m.roads.length] 0]++jj 6 ([.ptr 1 0 0]++jj 18 ([.rsl (Qo l) 0 l.length,.int .i64 (l.length:Int),.int .i64 (i:Int)]++Js 59))),([⟨false,1,1,true,[],false⟩,⟨true,0,1,false,[.sl 2 g2 0 js.length 1,.sl 3 g3 0 arr.length 1],false⟩,⟨true,g2,1,false,(hdrs 4 js),true⟩,⟨true,g3,1,true,(rowI arr),true⟩]++famB js)⟩
def Qbs (E:Env) (m:FMap) (l:(List Lry)) (to:Int) (gap:Int) (js:List (List Leg × Nat)) (i:Nat) (arr:List Int):Prop:=∀ g2 g3:Nat,G Try.prog E (Qbp Try.prog) (f107S0 m l to gap js i arr g2 g3)
def Yd (P:Program):List Item:=toOp 4 (kReg 400 [.code (Qf P 107)] [.b false,.b false,.b true] 8)
def Yv (m:FMap) (l:(List Lry)) (to:Int) (gap:Int) (a:Atl) (js:List (List Leg × Nat)) (v5_0:Int) (v5_1:Int) (v5_2:Int) (v5_3:Int) (v5_4:Int) (v5_5:Int) (i:Nat) (arr:List Int) (g2:Nat) (g3:Nat):St:=⟨([J,J,.int .i64 to,J,.rptr [.rsl (rowB m.park) 0 m.park.length,.rsl (Qb m.roads) 0 m.roads.length] 0]++jj 6 ([.ptr 1 0 0,J,.ptr (4+2*js.length+0) 0 0]++jj 16 ([.rsl (Qo l) 0 l.length,.int .i64 (l.length:Int),.int .i64 (i:Int)]++jj 6 ([.agg [.rsl (rowB a.m.park) 0 a.m.park.length,.rsl (Qb a.m.roads) 0 a.m.roads.length,.int .i64 a.l.hgt,.int .i64 a.l.wgt,.int .i64 a.l.fr,.int .i64 a.l.ready,.int .i64 a.l.drive,.int .i64 a.l.rest],.int .i64 to]++Js 51)))),([⟨false,1,1,true,[],false⟩,⟨true,0,1,false,[.sl 2 g2 0 js.length 1,.sl 3 g3 0 arr.length 1],false⟩,⟨true,g2,1,false,(hdrs 4 js),true⟩,⟨true,g3,1,true,(rowI arr),true⟩]++(famB js++[⟨true,0,1,true,[.int .i64 v5_0,.int .i64 v5_1,.int .i64 v5_2,.int .i64 v5_3,.int .i64 v5_4,.int .i64 v5_5],false⟩]))⟩
def f107G5041 (E:Env) (m:FMap) (l:(List Lry)) (to:Int) (gap:Int) (a:Atl) (js:List (List Leg × Nat)) (v5_0:Int) (v5_1:Int) (v5_2:Int) (v5_3:Int) (v5_4:Int) (v5_5:Int) (i:Nat) (arr:List Int):Prop:=∀ g2 g3:Nat,G Try.prog E (Yd Try.prog) (Yv m l to gap a js v5_0 v5_1 v5_2 v5_3 v5_4 v5_5 i arr g2 g3)
def Qbr (E:Env) (m:FMap) (l:(List Lry)) (to:Int) (gap:Int) (a:Atl) (js:List (List Leg × Nat)) (v5_0:Int) (v5_1:Int) (v5_2:Int) (v5_3:Int) (v5_4:Int) (v5_5:Int) (i:Nat) (arr:List Int) (legs:List Leg) (gl:Nat):Prop:=∀ g2 g3:Nat,G Try.prog E (WU (Yd Try.prog)) ⟨([J,J,.int .i64 to,J,.rptr [.rsl (rowB m.park) 0 m.park.length,.rsl (Qb m.roads) 0 m.roads.length] 0]++jj 6 ([.ptr 1 0 0,J,.ptr (4+2*js.length+0) 0 0]++jj 16 ([.rsl (Qo l) 0 l.length,.int .i64 (l.length:Int),.int .i64 (i:Int)]++jj 6 ([.agg [.rsl (rowB a.m.park) 0 a.m.park.length,.rsl (Qb a.m.roads) 0 a.m.roads.length,.int .i64 a.l.hgt,.int .i64 a.l.wgt,.int .i64 a.l.fr,.int .i64 a.l.ready,.int .i64 a.l.drive,.int .i64 a.l.rest],.int .i64 to,.tup [.sl (4+2*js.length+1) gl 0 legs.length 2,.bool true]]++Js 50)))),([⟨false,1,1,true,[],false⟩,⟨true,0,1,false,[.sl 2 g2 0 js.length 1,.sl 3 g3 0 arr.length 1],false⟩,⟨true,g2,1,false,(hdrs 4 js),true⟩,⟨true,g3,1,true,(rowI arr),true⟩]++(famB js++[⟨true,0,1,true,[.int .i64 v5_0,.int .i64 v5_1,.int .i64 v5_2,.int .i64 v5_3,.int .i64 v5_4,.int .i64 v5_5],false⟩,⟨true,gl,2,true,(Qn legs),true⟩]))⟩
def Qbq (E:Env) (m:FMap) (l:(List Lry)) (to:Int) (gap:Int) (a:Atl) (js:List (List Leg × Nat)) (v5_0:Int) (v5_1:Int) (v5_2:Int) (v5_3:Int) (v5_4:Int) (v5_5:Int) (i:Nat) (arr:List Int):Prop:=∀ g2 g3:Nat,G Try.prog E (WU (Yd Try.prog)) ⟨([J,J,.int .i64 to,J,.rptr [.rsl (rowB m.park) 0 m.park.length,.rsl (Qb m.roads) 0 m.roads.length] 0]++jj 6 ([.ptr 1 0 0,J,.ptr (4+2*js.length+0) 0 0]++jj 16 ([.rsl (Qo l) 0 l.length,.int .i64 (l.length:Int),.int .i64 (i:Int)]++jj 6 ([.agg [.rsl (rowB a.m.park) 0 a.m.park.length,.rsl (Qb a.m.roads) 0 a.m.roads.length,.int .i64 a.l.hgt,.int .i64 a.l.wgt,.int .i64 a.l.fr,.int .i64 a.l.ready,.int .i64 a.l.drive,.int .i64 a.l.rest],.int .i64 to,.tup [.nilSl,.bool false]]++Js 50)))),([⟨false,1,1,true,[],false⟩,⟨true,0,1,false,[.sl 2 g2 0 js.length 1,.sl 3 g3 0 arr.length 1],false⟩,⟨true,g2,1,false,(hdrs 4 js),true⟩,⟨true,g3,1,true,(rowI arr),true⟩]++(famB js++[⟨true,0,1,true,[.int .i64 v5_0,.int .i64 v5_1,.int .i64 v5_2,.int .i64 v5_3,.int .i64 v5_4,.int .i64 v5_5],false⟩]))⟩
theorem f107W (m:FMap) (l:(List Lry)) (to:Int) (gap:Int) {E:Env} {R:AV→List Blk→Prop} (hE:NewRE Try.prog 107 R E)
 (h:((MapSmall m∧l.length≤1000000)∧((¬ ((toE m to l)=0)→R (.tup [.nilPtr,.int .i64 (toE m to l)]) [⟨false,1,1,true,[],false⟩])∧((toE m to l)=0→(((Qa gap 0 100)=false→R (.tup [.nilPtr,.int .i64 1]) [⟨false,1,1,true,[],false⟩])∧((Qa gap 0 100)=true→Qbs E m l to gap ([]) 0 ([]))))))):G Try.prog E [.code (Qf Try.prog 107)] ⟨[.agg [.rsl (rowB m.park) 0 m.park.length,.rsl (Qb m.roads) 0 m.roads.length],.rsl (Qo l) 0 l.length,.int .i64 to,.int .i64 gap]++unds (Try.f107.ntmps - 4),[]⟩:=by
 obtain ⟨h1,h⟩:=h
 rcases bft ((toE m to l) != 0) with hc0 | hc0
 · have h:=h.1 (bneT hc0)
   exact hE.as h fun E' hE'=>eB (.tup [.nilPtr,.int .i64 (toE m to l)]) [⟨false,1,1,true,[],false⟩] [8,9] 1 [.vn .junk,.v (.int .i64 (toE m to l)),.b true] [Qc Try.prog (.clos 178 [] []) [.agg [.rsl (rowB m.park) 0 m.park.length,.rsl (Qb m.roads) 0 m.roads.length],.int .i64 to,.rsl (Qo l) 0 l.length] (.int .i64 (toE m to l)),((toE m to l) != 0)=true] hE' (hE'.nogh0 _) Try.func107 ⟨(u178 (to_ok m to l h1)),hc0,trivial⟩ (by rfl) (by rfl)
 · have h:=h.2 (bneF hc0)
   rcases bft (!(Qa gap 0 100)) with hc1 | hc1
   · have h:=h.1 (bnT hc1)
     exact hE.as h fun E' hE'=>eB (.tup [.nilPtr,.int .i64 1]) [⟨false,1,1,true,[],false⟩] [8,9] 1 [.vn .junk,.v (.int .i64 (toE m to l)),.b false,.v (.bool (Qa gap 0 100)),.b true] [Qc Try.prog (.clos 178 [] []) [.agg [.rsl (rowB m.park) 0 m.park.length,.rsl (Qb m.roads) 0 m.roads.length],.int .i64 to,.rsl (Qo l) 0 l.length] (.int .i64 (toE m to l)),((toE m to l) != 0)=false,Qc Try.prog (.clos 179 [] []) [.int .i64 gap,.int .i64 0,.int .i64 100] (.bool (Qa gap 0 100)),(!(Qa gap 0 100))=true] hE' (hE'.nogh0 _) Try.func107 ⟨(u178 (to_ok m to l h1)),hc0,(u179 (Qq gap 0 100)),hc1,trivial⟩ (by rfl) (by rfl)
   · have h:=h.2 (bnF hc1)
     refine QM (K':=(Qbp Try.prog)) (st':=⟨([J,J,.int .i64 to,J,.rptr [.rsl (rowB m.park) 0 m.park.length,.rsl (Qb m.roads) 0 m.roads.length] 0]++jj 6 ([.ptr 1 0 0]++jj 18 ([.rsl (Qo l) 0 l.length,.int .i64 (l.length:Int),.int .i64 0]++Js 59))),[⟨false,1,1,true,[],false⟩,⟨true,0,1,false,[.sl 2 0 0 0 1,.sl 3 0 0 0 1],false⟩,⟨true,0,1,true,[],true⟩,⟨true,0,1,true,[],true⟩]⟩) (n:=400) (ds:=[]) (cs:=[(1,0,1),(1,1,1)]) (live:=[2,4,11,30,31,32]) (m:=4) (evs:=[.vn .junk,.v (.int .i64 (toE m to l)),.b false,.v (.bool (Qa gap 0 100)),.b false,.stop]) (obs:=[Qc Try.prog (.clos 178 [] []) [.agg [.rsl (rowB m.park) 0 m.park.length,.rsl (Qb m.roads) 0 m.roads.length],.int .i64 to,.rsl (Qo l) 0 l.length] (.int .i64 (toE m to l)),((toE m to l) != 0)=false,Qc Try.prog (.clos 179 [] []) [.int .i64 gap,.int .i64 0,.int .i64 100] (.bool (Qa gap 0 100)),(!(Qa gap 0 100))=false]) hE.kind (hE.nogh0 _) mixed (by kernel_rfl) ⟨(u178 (to_ok m to l h1)),hc0,(u179 (Qq gap 0 100)),hc1,trivial⟩ ?_
     refine unflat_step (j:=2) rfl rfl (by simp) ?_
     simp only [List.set_cons_succ,List.set_cons_zero]
     exact (h 0 0)
theorem p107_0_0e (m:FMap) (l:(List Lry)) (to:Int) (gap:Int) (js:List (List Leg × Nat)) (i:Nat) (arr:List Int) (g2:Nat) (g3:Nat) (le:Lry) (hJ:js.length≤8):segC Try.prog [] [] [2,4,11,13,30,31,32,39,40] (4+2*js.length+1) 400 (Qbp Try.prog) (f107S0 m l to gap js i arr g2 g3) [.b true,.ld (.agg [.int .i64 le.hgt,.int .i64 le.wgt,.int .i64 le.fr,.int .i64 le.ready,.int .i64 le.drive,.int .i64 le.rest]),.hold 6]=some (Yd Try.prog,⟨([J,J,.int .i64 to,J,.rptr [.rsl (rowB m.park) 0 m.park.length,.rsl (Qb m.roads) 0 m.roads.length] 0]++jj 6 ([.ptr 1 0 0,J,.ptr (4+2*js.length+0) 0 0]++jj 16 ([.rsl (Qo l) 0 l.length,.int .i64 (l.length:Int),.int .i64 (i:Int)]++jj 6 ([.agg [.rsl (rowB m.park) 0 m.park.length,.rsl (Qb m.roads) 0 m.roads.length,.int .i64 le.hgt,.int .i64 le.wgt,.int .i64 le.fr,.int .i64 le.ready,.int .i64 le.drive,.int .i64 le.rest],.int .i64 to]++Js 51)))),([⟨false,1,1,true,[],false⟩,⟨true,0,1,false,[.sl 2 g2 0 js.length 1,.sl 3 g3 0 arr.length 1],false⟩,⟨true,g2,1,false,(hdrs 4 js),true⟩,⟨true,g3,1,true,(rowI arr),true⟩]++(famB js++[⟨true,0,1,true,[.int .i64 le.hgt,.int .i64 le.wgt,.int .i64 le.fr,.int .i64 le.ready,.int .i64 le.drive,.int .i64 le.rest],false⟩]))⟩,[(decide ((i:Int)<(l.length:Int)))=true,0≤(i:Int)∧(i:Int)<(l.length:Int),((Qo l).drop (0+(Int.toNat (i:Int))*6)).take 6=[.int .i64 le.hgt,.int .i64 le.wgt,.int .i64 le.fr,.int .i64 le.ready,.int .i64 le.drive,.int .i64 le.rest],6≤6]):=by
 rcases js with _ | ⟨a0,_ | ⟨a1,_ | ⟨a2,_ | ⟨a3,_ | ⟨a4,_ | ⟨a5,_ | ⟨a6,_ | ⟨a7,_ | ⟨a8,js⟩⟩⟩⟩⟩⟩⟩⟩⟩
 all_goals first | (exfalso; simp only [List.length_cons] at hJ; omega) | kernel_rfl
theorem p107_0_1e (m:FMap) (l:(List Lry)) (to:Int) (gap:Int) (js:List (List Leg × Nat)) (i:Nat) (arr:List Int) (g2:Nat) (g3:Nat) (hJ:js.length≤8):endB Try.prog Try.f107 [8,9] (4+2*js.length+0) 400 (Qbp Try.prog) (f107S0 m l to gap js i arr g2 g3) [.b false]=some (.tup [.ptr 1 0 0,.int .i64 0],([⟨false,1,1,true,[],false⟩,⟨true,0,1,false,[.sl 2 g2 0 js.length 1,.sl 3 g3 0 arr.length 1],false⟩,⟨true,g2,1,false,(hdrs 4 js),true⟩,⟨true,g3,1,true,(rowI arr),true⟩]++famB js),[(decide ((i:Int)<(l.length:Int)))=false]):=by
 rcases js with _ | ⟨a0,_ | ⟨a1,_ | ⟨a2,_ | ⟨a3,_ | ⟨a4,_ | ⟨a5,_ | ⟨a6,_ | ⟨a7,_ | ⟨a8,js⟩⟩⟩⟩⟩⟩⟩⟩⟩
 all_goals first | (exfalso; simp only [List.length_cons] at hJ; omega) | kernel_rfl
theorem f107W0 (m:FMap) (l:(List Lry)) (to:Int) (gap:Int) (js:List (List Leg × Nat)) (i:Nat) (arr:List Int) {E:Env} {R:AV→List Blk→Prop} (hE:NewRE Try.prog 107 R E)
 (h:∀ g2 g3:Nat,(js.length≤8∧(((i:Int)<(l.length:Int)→(∃ le:Lry,l[i]?=some le∧f107G5041 E m l to gap (⟨m,le⟩:Atl) js le.hgt le.wgt le.fr le.ready le.drive le.rest i arr))∧(¬ ((i:Int)<(l.length:Int))→R (.tup [.ptr 1 0 0,.int .i64 0]) ([⟨false,1,1,true,[],false⟩,⟨true,0,1,false,[.sl 2 g2 0 js.length 1,.sl 3 g3 0 arr.length 1],false⟩,⟨true,g2,1,false,(hdrs 4 js),true⟩,⟨true,g3,1,true,(rowI arr),true⟩]++famB js))))):Qbs E m l to gap js i arr:=by
 intro g2 g3
 have h:=h g2 g3
 obtain ⟨hJ,h⟩:=h
 rcases bft (decide ((i:Int)<(l.length:Int))) with hc0 | hc0
 · have h:=h.1 (odt hc0)
   obtain ⟨le,h1,h⟩:=h
   exact QM hE.kind (hE.nogh0 _) mixed (p107_0_0e m l to gap js i arr g2 g3 le hJ) ⟨hc0,(Qm h1),(rp cLry 6 0 6 h1),(by decide),trivial⟩ (by exact h g2 g3)
 · have h:=h.2 (odf hc0)
   exact hE.as h fun E' hE'=>Qat hE' (hE'.nogh0 _) Try.func107 mixed (p107_0_1e m l to gap js i arr g2 g3 hJ) ⟨hc0,trivial⟩ (by rfl) (by rfl)
theorem QbW (m:FMap) (l:(List Lry)) (to:Int) (gap:Int) (a:Atl) (js:List (List Leg × Nat)) (v5_0:Int) (v5_1:Int) (v5_2:Int) (v5_3:Int) (v5_4:Int) (v5_5:Int) (i:Nat) (arr:List Int) (legs:List Leg) (gl:Nat) (g2:Nat) (g3:Nat) (le:Leg) (re:Rod) (hJ:js.length≤8):segC Try.prog [] [] [2,4,11,30,31,32] (4+2*js.length+2) 400 (WU (Yd Try.prog)) ⟨([J,J,.int .i64 to,J,.rptr [.rsl (rowB m.park) 0 m.park.length,.rsl (Qb m.roads) 0 m.roads.length] 0]++jj 6 ([.ptr 1 0 0,J,.ptr (4+2*js.length+0) 0 0]++jj 16 ([.rsl (Qo l) 0 l.length,.int .i64 (l.length:Int),.int .i64 (i:Int)]++jj 6 ([.agg [.rsl (rowB a.m.park) 0 a.m.park.length,.rsl (Qb a.m.roads) 0 a.m.roads.length,.int .i64 a.l.hgt,.int .i64 a.l.wgt,.int .i64 a.l.fr,.int .i64 a.l.ready,.int .i64 a.l.drive,.int .i64 a.l.rest],.int .i64 to,.tup [.sl (4+2*js.length+1) gl 0 legs.length 2,.bool true]]++Js 50)))),([⟨false,1,1,true,[],false⟩,⟨true,0,1,false,[.sl 2 g2 0 js.length 1,.sl 3 g3 0 arr.length 1],false⟩,⟨true,g2,1,false,(hdrs 4 js),true⟩,⟨true,g3,1,true,(rowI arr),true⟩]++(famB js++[⟨true,0,1,true,[.int .i64 v5_0,.int .i64 v5_1,.int .i64 v5_2,.int .i64 v5_3,.int .i64 v5_4,.int .i64 v5_5],false⟩,⟨true,gl,2,true,(Qn legs),true⟩]))⟩ [.wt 13,.b false,.b true,.ld (.int .i64 le.dep),.auto,.ld (.int .i64 le.road),.ld (.int .i64 re.len),.stop]=some (Qbp Try.prog,⟨([J,J,.int .i64 to,J,.rptr [.rsl (rowB m.park) 0 m.park.length,.rsl (Qb m.roads) 0 m.roads.length] 0]++jj 6 ([.ptr 1 0 0]++jj 18 ([.rsl (Qo l) 0 l.length,.int .i64 (l.length:Int),.int .i64 ((i:Int)+1)]++Js 59))),([⟨false,1,1,true,[],false⟩,⟨true,0,1,false,[.sl 2 (g2+1) 0 (js.length+1) 1,.sl 3 (g3+1) 0 (arr.length+1) 1],false⟩,⟨true,(g2+1),1,false,((hdrs 4 js)++[.sl (4+2*js.length+1) gl 0 legs.length 2]),true⟩,⟨true,(g3+1),1,true,((rowI arr)++[.int .i64 (le.dep+re.len)]),true⟩]++(famB js++[⟨false,1,1,true,[],false⟩,⟨true,gl,2,true,(Qn legs),true⟩]))⟩,[false=false,gl=gl,(decide ((legs.length:Int) > 0))=true,InR .i64 ((legs.length:Int) - 1),0≤((legs.length:Int) - 1)∧((legs.length:Int) - 1)<(legs.length:Int),gl=gl,gl=gl,gl=gl,((Qn legs).drop ((0+(Int.toNat ((legs.length:Int) - 1))*2)+1)).take 1=[.int .i64 le.dep],InR .i64 ((legs.length:Int) - 1),0≤((legs.length:Int) - 1)∧((legs.length:Int) - 1)<(legs.length:Int),gl=gl,gl=gl,gl=gl,((Qn legs).drop ((0+(Int.toNat ((legs.length:Int) - 1))*2)+0)).take 1=[.int .i64 le.road],0≤le.road∧le.road<(m.roads.length:Int),((Qb m.roads).drop ((0+(Int.toNat le.road)*5)+2)).take 1=[.int .i64 re.len],InR .i64 (le.dep+re.len),g2=g2,(0+(js.length*1))=(hdrs 4 js).length,(js.length+1)≤2147483648,0=0,g3=g3,(0+(arr.length*1))=(rowI arr).length,(arr.length+1)≤2147483648,0=0,1≤2,2≤2,InR .i64 ((i:Int)+1)]):=by
 rcases js with _ | ⟨a0,_ | ⟨a1,_ | ⟨a2,_ | ⟨a3,_ | ⟨a4,_ | ⟨a5,_ | ⟨a6,_ | ⟨a7,_ | ⟨a8,js⟩⟩⟩⟩⟩⟩⟩⟩⟩
 all_goals first | (exfalso; simp only [List.length_cons] at hJ; omega) | kernel_rfl
theorem QbV (m:FMap) (l:(List Lry)) (to:Int) (gap:Int) (a:Atl) (js:List (List Leg × Nat)) (v5_0:Int) (v5_1:Int) (v5_2:Int) (v5_3:Int) (v5_4:Int) (v5_5:Int) (i:Nat) (arr:List Int) (legs:List Leg) (gl:Nat) (g2:Nat) (g3:Nat) (hJ:js.length≤8):segC Try.prog [] [] [2,4,11,30,31,32] (4+2*js.length+2) 400 (WU (Yd Try.prog)) ⟨([J,J,.int .i64 to,J,.rptr [.rsl (rowB m.park) 0 m.park.length,.rsl (Qb m.roads) 0 m.roads.length] 0]++jj 6 ([.ptr 1 0 0,J,.ptr (4+2*js.length+0) 0 0]++jj 16 ([.rsl (Qo l) 0 l.length,.int .i64 (l.length:Int),.int .i64 (i:Int)]++jj 6 ([.agg [.rsl (rowB a.m.park) 0 a.m.park.length,.rsl (Qb a.m.roads) 0 a.m.roads.length,.int .i64 a.l.hgt,.int .i64 a.l.wgt,.int .i64 a.l.fr,.int .i64 a.l.ready,.int .i64 a.l.drive,.int .i64 a.l.rest],.int .i64 to,.tup [.sl (4+2*js.length+1) gl 0 legs.length 2,.bool true]]++Js 50)))),([⟨false,1,1,true,[],false⟩,⟨true,0,1,false,[.sl 2 g2 0 js.length 1,.sl 3 g3 0 arr.length 1],false⟩,⟨true,g2,1,false,(hdrs 4 js),true⟩,⟨true,g3,1,true,(rowI arr),true⟩]++(famB js++[⟨true,0,1,true,[.int .i64 v5_0,.int .i64 v5_1,.int .i64 v5_2,.int .i64 v5_3,.int .i64 v5_4,.int .i64 v5_5],false⟩,⟨true,gl,2,true,(Qn legs),true⟩]))⟩ [.wt 13,.b false,.b false,.stop]=some (Qbp Try.prog,⟨([J,J,.int .i64 to,J,.rptr [.rsl (rowB m.park) 0 m.park.length,.rsl (Qb m.roads) 0 m.roads.length] 0]++jj 6 ([.ptr 1 0 0]++jj 18 ([.rsl (Qo l) 0 l.length,.int .i64 (l.length:Int),.int .i64 ((i:Int)+1)]++Js 59))),([⟨false,1,1,true,[],false⟩,⟨true,0,1,false,[.sl 2 (g2+1) 0 (js.length+1) 1,.sl 3 (g3+1) 0 (arr.length+1) 1],false⟩,⟨true,(g2+1),1,false,((hdrs 4 js)++[.sl (4+2*js.length+1) gl 0 legs.length 2]),true⟩,⟨true,(g3+1),1,true,((rowI arr)++[.int .i64 v5_3]),true⟩]++(famB js++[⟨false,1,1,true,[],false⟩,⟨true,gl,2,true,(Qn legs),true⟩]))⟩,[false=false,gl=gl,(decide ((legs.length:Int) > 0))=false,g2=g2,(0+(js.length*1))=(hdrs 4 js).length,(js.length+1)≤2147483648,0=0,g3=g3,(0+(arr.length*1))=(rowI arr).length,(arr.length+1)≤2147483648,0=0,1≤2,2≤2,InR .i64 ((i:Int)+1)]):=by
 rcases js with _ | ⟨a0,_ | ⟨a1,_ | ⟨a2,_ | ⟨a3,_ | ⟨a4,_ | ⟨a5,_ | ⟨a6,_ | ⟨a7,_ | ⟨a8,js⟩⟩⟩⟩⟩⟩⟩⟩⟩
 all_goals first | (exfalso; simp only [List.length_cons] at hJ; omega) | kernel_rfl
theorem f107W5041a (m:FMap) (l:(List Lry)) (to:Int) (gap:Int) (a:Atl) (js:List (List Leg × Nat)) (v5_0:Int) (v5_1:Int) (v5_2:Int) (v5_3:Int) (v5_4:Int) (v5_5:Int) (i:Nat) (arr:List Int) (legs:List Leg) (gl:Nat) {E:Env} {R:AV→List Blk→Prop} (hE:NewRE Try.prog 107 R E)
 (h:(js.length≤8∧(((legs.length:Int) > 0→((I6 ((legs.length:Int) - 1))∧(0≤((legs.length:Int) - 1)∧(∃ le:Leg,legs[Int.toNat ((legs.length:Int) - 1)]?=some le∧((I6 ((legs.length:Int) - 1))∧(0≤le.road∧(∃ re:Rod,m.roads[Int.toNat le.road]?=some re∧((I6 (le.dep+re.len))∧((arr.length+1)≤2147483648∧((I6 ((i:Int)+1))∧Qbs E m l to gap (js++[(legs,gl)]) (i+1) (arr++[(le.dep+re.len)])))))))))))∧(¬ ((legs.length:Int) > 0)→((arr.length+1)≤2147483648∧((I6 ((i:Int)+1))∧Qbs E m l to gap (js++[(legs,gl)]) (i+1) (arr++[v5_3]))))))):Qbr E m l to gap a js v5_0 v5_1 v5_2 v5_3 v5_4 v5_5 i arr legs gl:=by
 intro g2 g3
 obtain ⟨hJ,h⟩:=h
 rcases bft (decide ((legs.length:Int) > 0)) with hc0 | hc0
 · have h:=h.1 (odt hc0)
   obtain ⟨q4_1,h⟩:=h
   obtain ⟨h2,h⟩:=h
   obtain ⟨le,h1,h⟩:=h
   obtain ⟨q11_1,h⟩:=h
   obtain ⟨h4,h⟩:=h
   obtain ⟨re,h3,h⟩:=h
   obtain ⟨q20_1,h⟩:=h
   obtain ⟨h5,h⟩:=h
   obtain ⟨q31_1,h⟩:=h
   refine QM hE.kind (hE.nogh0 _) mixed (QbW m l to gap a js v5_0 v5_1 v5_2 v5_3 v5_4 v5_5 i arr legs gl g2 g3 le re hJ) ⟨rfl,rfl,hc0,q4_1,(Qw h2 h1),rfl,rfl,rfl,(rp cLeg 2 1 1 h1),q11_1,(Qw h2 h1),rfl,rfl,rfl,(rp cLeg 2 0 1 h1),(Qw h4 h3),(rp cRod 5 2 1 h3),q20_1,rfl,(by rw [Qck]; simp),(by omega),rfl,rfl,(by have hx:=QG cI (s:=1) (fun _=>rfl) arr; simp only [rowI] at hx ⊢; rw [hx]; simp),h5,rfl,(by decide),(by decide),q31_1,trivial⟩ ?_
   rw [(show (famB js++[⟨false,1,1,true,[],false⟩,⟨true,gl,2,true,(Qn legs),true⟩]:List Blk)=famB (js++[(legs,gl)]) from Qam)]; rw [(show ((hdrs 4 js)++[.sl (4+2*js.length+1) gl 0 legs.length 2])=hdrs 4 (js++[(legs,gl)]) from hdrs_snoc)]; (try rw [(show (js.length+1)=(js++[(legs,gl)]).length from by simp)]); rw [(show rowI arr++[.int .i64 (le.dep+re.len)]=rowI (arr++[(le.dep+re.len)]) from (Xz cI arr [(le.dep+re.len)]).symm)]; (try rw [(show (arr.length+1)=(arr++[(le.dep+re.len)]).length from by simp)]); exact (h (g2+1) (g3+1))
 · have h:=h.2 (odf hc0)
   obtain ⟨h1,h⟩:=h
   obtain ⟨q14_1,h⟩:=h
   refine QM hE.kind (hE.nogh0 _) mixed (QbV m l to gap a js v5_0 v5_1 v5_2 v5_3 v5_4 v5_5 i arr legs gl g2 g3 hJ) ⟨rfl,rfl,hc0,rfl,(by rw [Qck]; simp),(by omega),rfl,rfl,(by have hx:=QG cI (s:=1) (fun _=>rfl) arr; simp only [rowI] at hx ⊢; rw [hx]; simp),h1,rfl,(by decide),(by decide),q14_1,trivial⟩ ?_
   rw [(show (famB js++[⟨false,1,1,true,[],false⟩,⟨true,gl,2,true,(Qn legs),true⟩]:List Blk)=famB (js++[(legs,gl)]) from Qam)]; rw [(show ((hdrs 4 js)++[.sl (4+2*js.length+1) gl 0 legs.length 2])=hdrs 4 (js++[(legs,gl)]) from hdrs_snoc)]; (try rw [(show (js.length+1)=(js++[(legs,gl)]).length from by simp)]); rw [(show rowI arr++[.int .i64 v5_3]=rowI (arr++[v5_3]) from (Xz cI arr [v5_3]).symm)]; (try rw [(show (arr.length+1)=(arr++[v5_3]).length from by simp)]); exact (h (g2+1) (g3+1))
theorem QbU (m:FMap) (l:(List Lry)) (to:Int) (gap:Int) (a:Atl) (js:List (List Leg × Nat)) (v5_0:Int) (v5_1:Int) (v5_2:Int) (v5_3:Int) (v5_4:Int) (v5_5:Int) (i:Nat) (arr:List Int) (g2:Nat) (g3:Nat) (hJ:js.length≤8):endB Try.prog Try.f107 [8,9] (4+2*js.length+1) 400 (WU (Yd Try.prog)) ⟨([J,J,.int .i64 to,J,.rptr [.rsl (rowB m.park) 0 m.park.length,.rsl (Qb m.roads) 0 m.roads.length] 0]++jj 6 ([.ptr 1 0 0,J,.ptr (4+2*js.length+0) 0 0]++jj 16 ([.rsl (Qo l) 0 l.length,.int .i64 (l.length:Int),.int .i64 (i:Int)]++jj 6 ([.agg [.rsl (rowB a.m.park) 0 a.m.park.length,.rsl (Qb a.m.roads) 0 a.m.roads.length,.int .i64 a.l.hgt,.int .i64 a.l.wgt,.int .i64 a.l.fr,.int .i64 a.l.ready,.int .i64 a.l.drive,.int .i64 a.l.rest],.int .i64 to,.tup [.nilSl,.bool false]]++Js 50)))),([⟨false,1,1,true,[],false⟩,⟨true,0,1,false,[.sl 2 g2 0 js.length 1,.sl 3 g3 0 arr.length 1],false⟩,⟨true,g2,1,false,(hdrs 4 js),true⟩,⟨true,g3,1,true,(rowI arr),true⟩]++(famB js++[⟨true,0,1,true,[.int .i64 v5_0,.int .i64 v5_1,.int .i64 v5_2,.int .i64 v5_3,.int .i64 v5_4,.int .i64 v5_5],false⟩]))⟩ [.wt 13,.b true]=some (.tup [.nilPtr,.int .i64 3],([⟨false,1,1,true,[],false⟩,⟨true,0,1,false,[.sl 2 g2 0 js.length 1,.sl 3 g3 0 arr.length 1],false⟩,⟨true,g2,1,false,(hdrs 4 js),true⟩,⟨true,g3,1,true,(rowI arr),true⟩]++(famB js++[⟨false,1,1,true,[],false⟩])),[true=true]):=by
 rcases js with _ | ⟨a0,_ | ⟨a1,_ | ⟨a2,_ | ⟨a3,_ | ⟨a4,_ | ⟨a5,_ | ⟨a6,_ | ⟨a7,_ | ⟨a8,js⟩⟩⟩⟩⟩⟩⟩⟩⟩
 all_goals first | (exfalso; simp only [List.length_cons] at hJ; omega) | kernel_rfl
theorem f107W5041b (m:FMap) (l:(List Lry)) (to:Int) (gap:Int) (a:Atl) (js:List (List Leg × Nat)) (v5_0:Int) (v5_1:Int) (v5_2:Int) (v5_3:Int) (v5_4:Int) (v5_5:Int) (i:Nat) (arr:List Int) {E:Env} {R:AV→List Blk→Prop} (hE:NewRE Try.prog 107 R E)
 (h:∀ g2 g3:Nat,(js.length≤8∧R (.tup [.nilPtr,.int .i64 3]) ([⟨false,1,1,true,[],false⟩,⟨true,0,1,false,[.sl 2 g2 0 js.length 1,.sl 3 g3 0 arr.length 1],false⟩,⟨true,g2,1,false,(hdrs 4 js),true⟩,⟨true,g3,1,true,(rowI arr),true⟩]++(famB js++[⟨false,1,1,true,[],false⟩])))):Qbq E m l to gap a js v5_0 v5_1 v5_2 v5_3 v5_4 v5_5 i arr:=by
 intro g2 g3
 have h:=h g2 g3
 obtain ⟨hJ,h⟩:=h
 exact hE.as h fun E' hE'=>Qat hE' (hE'.nogh0 _) Try.func107 mixed (QbU m l to gap a js v5_0 v5_1 v5_2 v5_3 v5_4 v5_5 i arr g2 g3 hJ) ⟨rfl,trivial⟩ (by rfl) (by rfl)
theorem f107Q5041a (m:FMap) (l:(List Lry)) (to:Int) (gap:Int) (a:Atl) (js:List (List Leg × Nat)) (v5_0:Int) (v5_1:Int) (v5_2:Int) (v5_3:Int) (v5_4:Int) (v5_5:Int) (i:Nat) (arr:List Int) (legs:List Leg) (gl:Nat) (g2:Nat) (g3:Nat) (hJ:js.length≤8):(⟨putA (Yv m l to gap a js v5_0 v5_1 v5_2 v5_3 v5_4 v5_5 i arr g2 g3).tmps (some 41) (ren (outN (Yv m l to gap a js v5_0 v5_1 v5_2 v5_3 v5_4 v5_5 i arr g2 g3).blks.length []) (.tup [.sl 0 gl 0 legs.length 2,.bool true])),(Yv m l to gap a js v5_0 v5_1 v5_2 v5_3 v5_4 v5_5 i arr g2 g3).blks++([⟨true,gl,2,true,(Qn legs),true⟩]:List Blk).map (renB (outN (Yv m l to gap a js v5_0 v5_1 v5_2 v5_3 v5_4 v5_5 i arr g2 g3).blks.length []))⟩:St)=⟨([J,J,.int .i64 to,J,.rptr [.rsl (rowB m.park) 0 m.park.length,.rsl (Qb m.roads) 0 m.roads.length] 0]++jj 6 ([.ptr 1 0 0,J,.ptr (4+2*js.length+0) 0 0]++jj 16 ([.rsl (Qo l) 0 l.length,.int .i64 (l.length:Int),.int .i64 (i:Int)]++jj 6 ([.agg [.rsl (rowB a.m.park) 0 a.m.park.length,.rsl (Qb a.m.roads) 0 a.m.roads.length,.int .i64 a.l.hgt,.int .i64 a.l.wgt,.int .i64 a.l.fr,.int .i64 a.l.ready,.int .i64 a.l.drive,.int .i64 a.l.rest],.int .i64 to,.tup [.sl (4+2*js.length+1) gl 0 legs.length 2,.bool true]]++Js 50)))),([⟨false,1,1,true,[],false⟩,⟨true,0,1,false,[.sl 2 g2 0 js.length 1,.sl 3 g3 0 arr.length 1],false⟩,⟨true,g2,1,false,(hdrs 4 js),true⟩,⟨true,g3,1,true,(rowI arr),true⟩]++(famB js++[⟨true,0,1,true,[.int .i64 v5_0,.int .i64 v5_1,.int .i64 v5_2,.int .i64 v5_3,.int .i64 v5_4,.int .i64 v5_5],false⟩,⟨true,gl,2,true,(Qn legs),true⟩]))⟩:=by
 rcases js with _ | ⟨a0,_ | ⟨a1,_ | ⟨a2,_ | ⟨a3,_ | ⟨a4,_ | ⟨a5,_ | ⟨a6,_ | ⟨a7,_ | ⟨a8,js⟩⟩⟩⟩⟩⟩⟩⟩⟩
 all_goals first | (exfalso; simp only [List.length_cons] at hJ; omega) | kernel_rfl
theorem f107Q5041b (m:FMap) (l:(List Lry)) (to:Int) (gap:Int) (a:Atl) (js:List (List Leg × Nat)) (v5_0:Int) (v5_1:Int) (v5_2:Int) (v5_3:Int) (v5_4:Int) (v5_5:Int) (i:Nat) (arr:List Int) (g2:Nat) (g3:Nat) (hJ:js.length≤8):(⟨putA (Yv m l to gap a js v5_0 v5_1 v5_2 v5_3 v5_4 v5_5 i arr g2 g3).tmps (some 41) (ren (outN (Yv m l to gap a js v5_0 v5_1 v5_2 v5_3 v5_4 v5_5 i arr g2 g3).blks.length []) (.tup [.nilSl,.bool false])),(Yv m l to gap a js v5_0 v5_1 v5_2 v5_3 v5_4 v5_5 i arr g2 g3).blks++([]:List Blk).map (renB (outN (Yv m l to gap a js v5_0 v5_1 v5_2 v5_3 v5_4 v5_5 i arr g2 g3).blks.length []))⟩:St)=⟨([J,J,.int .i64 to,J,.rptr [.rsl (rowB m.park) 0 m.park.length,.rsl (Qb m.roads) 0 m.roads.length] 0]++jj 6 ([.ptr 1 0 0,J,.ptr (4+2*js.length+0) 0 0]++jj 16 ([.rsl (Qo l) 0 l.length,.int .i64 (l.length:Int),.int .i64 (i:Int)]++jj 6 ([.agg [.rsl (rowB a.m.park) 0 a.m.park.length,.rsl (Qb a.m.roads) 0 a.m.roads.length,.int .i64 a.l.hgt,.int .i64 a.l.wgt,.int .i64 a.l.fr,.int .i64 a.l.ready,.int .i64 a.l.drive,.int .i64 a.l.rest],.int .i64 to,.tup [.nilSl,.bool false]]++Js 50)))),([⟨false,1,1,true,[],false⟩,⟨true,0,1,false,[.sl 2 g2 0 js.length 1,.sl 3 g3 0 arr.length 1],false⟩,⟨true,g2,1,false,(hdrs 4 js),true⟩,⟨true,g3,1,true,(rowI arr),true⟩]++(famB js++[⟨true,0,1,true,[.int .i64 v5_0,.int .i64 v5_1,.int .i64 v5_2,.int .i64 v5_3,.int .i64 v5_4,.int .i64 v5_5],false⟩]))⟩:=by
 rcases js with _ | ⟨a0,_ | ⟨a1,_ | ⟨a2,_ | ⟨a3,_ | ⟨a4,_ | ⟨a5,_ | ⟨a6,_ | ⟨a7,_ | ⟨a8,js⟩⟩⟩⟩⟩⟩⟩⟩⟩
 all_goals first | (exfalso; simp only [List.length_cons] at hJ; omega) | kernel_rfl
theorem f107W5041 (m:FMap) (l:(List Lry)) (to:Int) (gap:Int) (a:Atl) (js:List (List Leg × Nat)) (v5_0:Int) (v5_1:Int) (v5_2:Int) (v5_3:Int) (v5_4:Int) (v5_5:Int) (i:Nat) (arr:List Int) {E:Env} {R:AV→List Blk→Prop} (hE:NewRE Try.prog 107 R E)
 (h:js.length≤8∧((AtlOk a∧PlaOk a (Xh a))∧0≤a.l.ready∧a.l.ready≤1000000)∧(∀ (legs:List Leg) (gl:Nat),Driven a legs→Qbr E m l to gap a js v5_0 v5_1 v5_2 v5_3 v5_4 v5_5 i arr legs gl)∧(Qbq E m l to gap a js v5_0 v5_1 v5_2 v5_3 v5_4 v5_5 i arr )):f107G5041 E m l to gap a js v5_0 v5_1 v5_2 v5_3 v5_4 v5_5 i arr:=by
 intro g2 g3
 obtain ⟨hJ,h⟩:=h
 refine callR_hd (K':=WU (Yd Try.prog)) (d:=some 41) (f:=180) (avs:=[.agg [.rsl (rowB a.m.park) 0 a.m.park.length,.rsl (Qb a.m.roads) 0 a.m.roads.length,.int .i64 a.l.hgt,.int .i64 a.l.wgt,.int .i64 a.l.fr,.int .i64 a.l.ready,.int .i64 a.l.drive,.int .i64 a.l.rest],.int .i64 to]) (by kernel_rfl) Try.func180 (by kernel_rfl) f180b (drive_ok to h.1) (fun res bs2 hR=>?_)
 rcases hR with ⟨legs,gl,rfl,rfl,hR⟩ | ⟨rfl,rfl⟩
 · exact (congrArg (G Try.prog E (WU (Yd Try.prog))) (f107Q5041a m l to gap a js v5_0 v5_1 v5_2 v5_3 v5_4 v5_5 i arr legs gl g2 g3 hJ)).mpr (h.2.1 legs gl hR g2 g3)
 · exact (congrArg (G Try.prog E (WU (Yd Try.prog))) (f107Q5041b m l to gap a js v5_0 v5_1 v5_2 v5_3 v5_4 v5_5 i arr g2 g3 hJ)).mpr (h.2.2 g2 g3)
end Go.Proofs.Ytemklbioijmjiaa
namespace Go.Proofs.Ytemklbioijmjiaa
open Go Ax
open Go.Proofs
def legB:List (List Leg × Nat)→List Blk
 | []=>[]
 | e :: js=>⟨true,e.2,2,true,Qn e.1,true⟩ :: legB js
def hdr1:Nat→List (List Leg × Nat)→List AV
 | _,[]=>[]
 | k,e :: js=>.sl k e.2 0 e.1.length 2 :: hdr1 (k+1) js
/-- A fleet: its box,the journeys' headers,the arrivals,the journeys. -/
def fleetB (js:List (List Leg × Nat)) (arr:List Int) (g2 g3:Nat):List Blk :=
 [⟨true,0,1,false,[.sl 1 g2 0 js.length 1,.sl 2 g3 0 arr.length 1],false⟩,⟨true,g2,1,false,hdr1 3 js,true⟩,⟨true,g3,1,true,rowI arr,true⟩]++legB js
structure FleetOk (m:FMap) (l:List Lry) (to gap:Int) (js:List (List Leg × Nat)) (arr:List Int):Prop where
 te:toE m to l=0
 gp:Qa gap 0 100=true
 ljs:js.length=l.length
 larr:arr.length=l.length
 dr:∀ (i:Nat) (x:Lry) (e:List Leg × Nat),l[i]?=some x→js[i]?=some e→Driven ⟨m,x⟩ e.1∧arr[i]?=some (arrL ⟨m,x⟩ x.ready e.1)
def FleetR (m:FMap) (l:List Lry) (to gap:Int) (res:AV) (bs:List Blk):Prop :=
 (∃ (js:List (List Leg × Nat)) (arr:List Int) (g2 g3:Nat),res=.tup [.ptr 0 0 0,.int .i64 0]∧bs=fleetB js arr g2 g3∧FleetOk m l to gap js arr) ∨ ∃ e:Int,e ≠ 0∧res=.tup [.nilPtr,.int .i64 e]∧bs=[]
theorem qZ {m:FMap} {to:Int} {l:List Lry} (h:toE m to l=0):WT m=true∧l.length≤8∧(∀ x ∈ l,qM m x=true)∧QF m to=true:=by
 unfold toE at h
 split at h
 · rename_i hm
   split at h
   · omega
   · rename_i hl
     split at h
     · rename_i hc
       split at h
       · rename_i ht
         refine ⟨hm,by omega,fun x hx=>?_,ht⟩
         cases e:qM m x with
         | true=>rfl
         | false=>rw [Vi hm hx e] at hc; omega
       · omega
     · rename_i hc; exact absurd h hc
 · omega
def odds:Nat→List (List Leg × Nat)→List Nat
 | _,[]=>[]
 | k,_ :: js=>k :: odds (k+2) js
section
variable {R:AV→List Blk→Prop} {js:List (List Leg × Nat)} {arr:List Int} {g2 g3:Nat}
theorem kept_fleet (hJ:js.length≤8) (h:R (.tup [.ptr 0 0 0,.int .i64 0]) (fleetB js arr g2 g3)) :
 Kept R (.tup [.ptr 1 0 0,.int .i64 0]) ([⟨false,1,1,true,[],false⟩,⟨true,0,1,false,[.sl 2 g2 0 js.length 1,.sl 3 g3 0 arr.length 1],false⟩,⟨true,g2,1,false,hdrs 4 js,true⟩,⟨true,g3,1,true,rowI arr,true⟩]++famB js):=by
 have e1:YB (1 :: 2 :: 3 :: odds 5 js)=true:=by
  clear h
  rcases js with _ | ⟨a0,_ | ⟨a1,_ | ⟨a2,_ | ⟨a3,_ | ⟨a4,_ | ⟨a5,_ | ⟨a6,_ | ⟨a7,_ | ⟨a8,js⟩⟩⟩⟩⟩⟩⟩⟩⟩
  all_goals first | (exfalso; simp only [List.length_cons] at hJ; omega) | kernel_rfl
 have e2:Ax.lend (fun j=>(1 :: 2 :: 3 :: odds 5 js).idxOf j) (fun j=>(1 :: 2 :: 3 :: odds 5 js).contains j) ([⟨false,1,1,true,[],false⟩,⟨true,0,1,false,[.sl 2 g2 0 js.length 1,.sl 3 g3 0 arr.length 1],false⟩,⟨true,g2,1,false,hdrs 4 js,true⟩,⟨true,g3,1,true,rowI arr,true⟩]++famB js) (1 :: 2 :: 3 :: odds 5 js)=some (fleetB js arr g2 g3):=by
  clear h e1
  rcases js with _ | ⟨a0,_ | ⟨a1,_ | ⟨a2,_ | ⟨a3,_ | ⟨a4,_ | ⟨a5,_ | ⟨a6,_ | ⟨a7,_ | ⟨a8,js⟩⟩⟩⟩⟩⟩⟩⟩⟩
  all_goals first | (exfalso; simp only [List.length_cons] at hJ; omega) | kernel_rfl
 have e3:Ya (fun j=>(1 :: 2 :: 3 :: odds 5 js).contains j) (.tup [.ptr 1 0 0,.int .i64 0])=true:=by kernel_rfl
 have e4:ren (fun j=>(1 :: 2 :: 3 :: odds 5 js).idxOf j) (.tup [.ptr 1 0 0,.int .i64 0])=.tup [.ptr 0 0 0,.int .i64 0]:=by kernel_rfl
 exact ⟨1 :: 2 :: 3 :: odds 5 js,fleetB js arr g2 g3,e1,e2,e3,by rw [e4]; exact h⟩
theorem Qaa {e:Int} {bs:List Blk} (h:R (.tup [.nilPtr,.int .i64 e]) []):Kept R (.tup [.nilPtr,.int .i64 e]) bs:=⟨[],[],rfl,rfl,rfl,h⟩
end
theorem QbB {m:FMap} {x:Lry} (hm:WT m=true) (hx:qM m x=true):(AtlOk ⟨m,x⟩∧PlaOk ⟨m,x⟩ (Xh ⟨m,x⟩))∧0≤x.ready∧x.ready≤2000:=by
 unfold WT at hm
 unfold qM at hx
 simp only [Bool.and_eq_true,decide_eq_true_eq,Bool.not_eq_true',List.any_eq_false,QF,YK] at hm hx
 obtain ⟨m1,m2,m3⟩:=hm
 obtain ⟨x1,x2,x3,x4,x5,x6⟩:=hx
 have p1:m.park.length≤12:=by omega
 have p2:m.roads.length≤30:=by omega
 have p3:x.fr<(m.park.length:Int):=by omega
 have p4:(0:Int)≤x.drive:=by omega
 refine ⟨⟨⟨fun r hr=>?_,p1,p2,x5.1,x5.2,x6.1,x6.2⟩,x3.1,p3,Int.le_refl 0,p4⟩,x4.1,x4.2⟩
 have h1:=m3 r hr
 unfold badR at h1
 simp only [Bool.or_eq_true,Bool.not_eq_true',not_or,decide_eq_true_eq,Bool.not_eq_false,QF,YK] at h1
 obtain ⟨r1,r2,r3,r4,r5,r6⟩:=h1
 have q1:r.a<(m.park.length:Int):=by omega
 have q2:r.b<(m.park.length:Int):=by omega
 exact ⟨r1.1,q1,r2.1,q2,r4.1,r4.2⟩
theorem VJ {a:Atl} (ha:AtlOk a) {x:Leg} (h0:0≤x.road) (h1:x.road<(a.m.roads.length:Int)):1≤XR a x∧XR a x≤500:=by
 have hr:=ha.rod _ (List.mem_of_getElem? (YP (l:=a.m.roads) (i:=x.road.toNat) (by omega)))
 exact ⟨hr.l0,hr.l1⟩
theorem QcB {a:Atl} (ha:AtlOk a):∀ {l:List Leg} {t:Int},chOk a t l→∀ x ∈ l,0≤x.road∧x.road<(a.m.roads.length:Int)∧t≤x.dep
 | [],_,_,x,hx=>by cases hx
 | y :: l,t,h,x,hx=>by
  obtain ⟨h1,h2,h3,h4⟩:=h
  rcases List.mem_cons.1 hx with rfl | hx
  · exact ⟨h1,h2,h3⟩
  · have:=VJ ha h1 h2
    obtain ⟨p,q,r⟩:=QcB ha h4 x hx
    exact ⟨p,q,by omega⟩
theorem Qcl {α:Type} {l:List α} (h:0<l.length):∃ (i:List α) (x:α),l=i++[x]∧l[l.length - 1]?=some x:=by
 have hne:l ≠ []:=fun e=>by rw [e] at h; simp at h
 refine ⟨l.dropLast,l.getLast hne,(List.dropLast_concat_getLast hne).symm,?_⟩
 rw [← List.getLast?_eq_getElem?,List.getLast?_eq_some_getLast hne]
theorem fleet_go (m:FMap) (l:List Lry) (to gap:Int) (ht:toE m to l=0) (hg:Qa gap 0 100=true) {E:Env} (hE:NewRE Try.prog 107 (Kept (FleetR m l to gap)) E) :
 ∀ (d i:Nat) (js:List (List Leg × Nat)) (arr:List Int),i+d=l.length→js.length=i→arr.length=i →
  (∀ (k:Nat) (x:Lry) (e:List Leg × Nat),l[k]?=some x→js[k]?=some e→Driven ⟨m,x⟩ e.1∧arr[k]?=some (arrL ⟨m,x⟩ x.ready e.1))→Qbs E m l to gap js i arr:=by
 obtain ⟨hm,hl8,hlry,htw⟩:=qZ ht
 intro d
 induction d with
 | zero =>
  intro i js arr hi hj ha hinv
  exact f107W0 m l to gap js i arr hE fun g2 g3=>⟨by omega,fun q=>absurd q (by omega),fun _=>kept_fleet (by omega) (.inl ⟨js,arr,g2,g3,rfl,rfl,⟨ht,hg,by omega,by omega,hinv⟩⟩)⟩
 | succ d ih =>
  intro i js arr hi hj ha hinv
  have hx:l[i]?=some l[i]:=List.getElem?_eq_getElem (by omega)
  generalize l[i]=x at hx
  obtain ⟨⟨ok,pok⟩,rd0,rd1⟩:=QbB hm (hlry x (List.mem_of_getElem? hx))
  have step:∀ (legs:List Leg) (gl:Nat) (t:Int),Driven ⟨m,x⟩ legs→t=arrL ⟨m,x⟩ x.ready legs→Qbs E m l to gap (js++[(legs,gl)]) (i+1) (arr++[t]):=fun legs gl t hD hT=>by
   refine ih (i+1) _ _ (by omega) (by rw [List.length_append,List.length_singleton]; omega) (by rw [List.length_append,List.length_singleton]; omega) fun k y e hy he=>?_
   rcases Nat.lt_trichotomy k i with q | q | q
   · rw [List.getElem?_append_left (by omega)] at he ⊢
     exact hinv k y e hy he
   · subst q
     rw [List.getElem?_append_right (by omega),show k - js.length=0 by omega] at he
     simp only [List.getElem?_cons_zero,Option.some.injEq] at he; subst he
     rw [hx] at hy; simp only [Option.some.injEq] at hy; subst hy
     rw [List.getElem?_append_right (by omega),show k - arr.length=0 by omega]
     exact ⟨hD,by rw [hT]; rfl⟩
   · rw [List.getElem?_eq_none (by rw [List.length_append,List.length_singleton]; omega)] at he; cases he
  refine f107W0 m l to gap js i arr hE fun g2 g3=>⟨by omega,fun _=>⟨x,hx,?_⟩,fun q=>absurd (by omega) q⟩
  refine f107W5041 m l to gap ⟨m,x⟩ js _ _ _ _ _ _ i arr hE ⟨by omega,⟨⟨ok,pok⟩,rd0,by show x.ready≤1000000; omega⟩,fun legs gl hD=>?_,f107W5041b m l to gap ⟨m,x⟩ js _ _ _ _ _ _ i arr hE fun g2 g3=>⟨by omega,Qaa (.inr ⟨3,by decide,rfl,rfl⟩)⟩⟩
  have hN:=QaL ok
  have hln:=hD.ln
  refine f107W5041a m l to gap ⟨m,x⟩ js _ _ _ _ _ _ i arr legs gl hE ⟨by omega,fun hp=>?_,fun hz=>⟨by omega,by omega,step legs gl _ hD ?_⟩⟩
  · obtain ⟨ini,le,e1,e2⟩:=Qcl (l:=legs) (by omega)
    obtain ⟨r0,r1,r2⟩:=QcB ok hD.ch le (by rw [e1]; simp)
    have hb:=VJ ok r0 r1
    have har:=hD.ar
    have hT:arrL ⟨m,x⟩ x.ready legs=le.dep+XR ⟨m,x⟩ le:=by rw [e1]; exact QaD
    have har2:le.dep+XR ⟨m,x⟩ le≤x.ready+1000*(nP ⟨m,x⟩:Int):=by rw [← hT]; exact har
    have rr:x.ready≤le.dep:=r2
    refine ⟨by omega,by omega,le,by rw [show Int.toNat ((legs.length:Int) - 1)=legs.length - 1 by omega]; exact e2,by omega,r0,Qd m.roads le.road.toNat,YP (by show le.road.toNat<m.roads.length; have r1':le.road<(m.roads.length:Int):=r1; omega),?_,by omega,by omega,step legs gl _ hD hT.symm⟩
    show _≤le.dep+XR ⟨m,x⟩ le∧le.dep+XR ⟨m,x⟩ le≤_
    omega
  · have:legs=[]:=List.length_eq_zero_iff.1 (by omega)
    rw [this]; rfl
theorem fleet_ok (m:FMap) (l:List Lry) (to gap:Int) (h:MapSmall m∧l.length≤1000000):NewR Try.prog 107 [.agg [.rsl (rowB m.park) 0 m.park.length,.rsl (Qb m.roads) 0 m.roads.length],.rsl (Qo l) 0 l.length,.int .i64 to,.int .i64 gap] (FleetR m l to gap) :=
 newR_sel (newR_of Try.func107 f107b fun E hE=>f107W m l to gap hE ⟨h,fun a=>Qaa (.inr ⟨_,a,rfl,rfl⟩),fun a=>⟨fun b=>Qaa (.inr ⟨1,by decide,rfl,rfl⟩),fun b=>fleet_go m l to gap a b hE l.length 0 [] [] (by omega) rfl rfl (fun k x e _ he=>by simp at he)⟩⟩)
end Go.Proofs.Ytemklbioijmjiaa