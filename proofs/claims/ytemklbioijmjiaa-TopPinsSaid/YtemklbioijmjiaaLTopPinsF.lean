/- A part of the proof: several texts, one behind the other. -/
import Derived.Test.YtemklbioijmjiaaLTopPinsE
set_option linter.unusedVariables false
set_option linter.unusedSimpArgs false
set_option maxRecDepth 100000
namespace Go.Proofs.Ytemklbioijmjiaa
open Go Ax
open Go.Proofs
structure Wrk where
 kit:BKit
 log:List Stp
def cWrk (t:Wrk):List AV:=[.rsl (QF t.kit.parts) 0 t.kit.parts.length,.int .i64 t.kit.crane,.rsl (Qs rowI t.kit.vans) 0 t.kit.vans.length,.rsl (Qv t.log) 0 t.log.length]
def QS (l:List Wrk):List AV:=l.flatMap cWrk
structure Ppr where
 k:Bok
 es:List Ent
 day:Int
theorem f6b:Try.f6.body=some (Qc Try.prog 6):=by kernel_rfl
def f6K0 (P:Program):List Item:=kAt 400 [.code (Qc P 6)] [.b false,.stop]
def f6S0 (works:(List Wrk)) (p:Ppr) (v1:List Ent) (i:Nat) (g1:Nat):St:=⟨([.rsl (QS works) 0 works.length,J,J,.ptr 0 0 0,J,.sl 1 g1 0 v1.length 5,.int .i64 (i:Int)]++Js 259),[⟨true,0,1,true,[.rsl (Ql p.k.rules) 0 p.k.rules.length,.rsl (rowI p.k.ranks) 0 p.k.ranks.length,.rsl (rowI p.k.insured) 0 p.k.insured.length,.rsl (Qg p.es) 0 p.es.length,.int .i64 p.day],false⟩,⟨true,g1,5,true,(Qg v1),true⟩]⟩
def f6G0 (E:Env) (works:(List Wrk)) (p:Ppr) (v1:List Ent) (i:Nat):Prop:=∀ g1:Nat,G Try.prog E (f6K0 Try.prog) (f6S0 works p v1 i g1)
def Wn (P:Program):List Item:=toOp 0 (kReg 400 [.code (Qc P 6)] [.b false,.b true,.b true] 7)
def f6S5085 (works:(List Wrk)) (p:Ppr) (v1:List Ent) (g1:Nat):St:=⟨([.rsl (QS works) 0 works.length,J,J,.ptr 0 0 0,J,.sl 1 g1 0 v1.length 5]++Js 260),[⟨true,0,1,true,[.rsl (Ql p.k.rules) 0 p.k.rules.length,.rsl (rowI p.k.ranks) 0 p.k.ranks.length,.rsl (rowI p.k.insured) 0 p.k.insured.length,.rsl (Qg p.es) 0 p.es.length,.int .i64 p.day],false⟩,⟨true,g1,5,true,(Qg v1),true⟩]⟩
def QcK (E:Env) (works:(List Wrk)) (p:Ppr) (v1:List Ent):Prop:=∀ g1:Nat,G Try.prog E (Wn Try.prog) (f6S5085 works p v1 g1)
def f6K1 (P:Program):List Item:=kAt 400 (Wn P) [.stop]
def f6S1 (works:(List Wrk)) (p:Ppr) (v1:List Ent) (v2:List Bool) (i:Nat) (g1:Nat) (g2:Nat):St:=⟨([.rsl (QS works) 0 works.length,J,J,.ptr 0 0 0,J,.sl 1 g1 0 v1.length 5,J,J,.sl 2 g2 0 v2.length 1,.int .i64 (i:Int)]++Js 256),[⟨true,0,1,true,[.rsl (Ql p.k.rules) 0 p.k.rules.length,.rsl (rowI p.k.ranks) 0 p.k.ranks.length,.rsl (rowI p.k.insured) 0 p.k.insured.length,.rsl (Qg p.es) 0 p.es.length,.int .i64 p.day],false⟩,⟨true,g1,5,true,(Qg v1),true⟩,⟨true,g2,1,true,(rowB v2),true⟩]⟩
def f6G1 (E:Env) (works:(List Wrk)) (p:Ppr) (v1:List Ent) (v2:List Bool) (i:Nat):Prop:=∀ g1 g2:Nat,G Try.prog E (f6K1 Try.prog) (f6S1 works p v1 v2 i g1 g2)
def f6K2 (P:Program):List Item:=kAt 400 (Wn P) [.b false,.b false,.stop]
def f6S2 (works:(List Wrk)) (p:Ppr) (released:(List Int)) (v2:List Bool) (i:Nat) (g2:Nat) (g1:Nat):St:=⟨([.rsl (QS works) 0 works.length]++jj 7 ([.sl 2 g2 0 v2.length 1]++jj 5 ([.rsl (rowI released) 0 released.length,J,.int .i64 (i:Int)]++Js 249))),[⟨true,0,1,true,[.rsl (Ql p.k.rules) 0 p.k.rules.length,.rsl (rowI p.k.ranks) 0 p.k.ranks.length,.rsl (rowI p.k.insured) 0 p.k.insured.length,.rsl (Qg p.es) 0 p.es.length,.int .i64 p.day],false⟩,⟨false,g1,5,true,[],false⟩,⟨true,g2,1,true,(rowB v2),true⟩]⟩
def f6G2 (E:Env) (works:(List Wrk)) (p:Ppr) (released:(List Int)) (v2:List Bool) (i:Nat):Prop:=∀ g2 g1:Nat,G Try.prog E (f6K2 Try.prog) (f6S2 works p released v2 i g2 g1)
def f6K3 (P:Program):List Item:=kAt 400 (Wn P) [.b false,.b false,.b true,.b false,.stop]
def f6S3 (works:(List Wrk)) (p:Ppr) (released:(List Int)) (n:Int) (v2:List Bool) (v3:List Int) (v4:List Int) (k:Nat) (i:Nat) (g2:Nat) (g3:Nat) (g4:Nat) (g1:Nat):St:=⟨([.rsl (QS works) 0 works.length]++jj 7 ([.sl 2 g2 0 v2.length 1]++jj 5 ([.rsl (rowI released) 0 released.length,J,.int .i64 (i:Int),.int .i64 n,.sl 3 g3 0 v3.length 1,.sl 4 g4 0 v4.length 1,.int .i64 (k:Int)]++Js 245))),[⟨true,0,1,true,[.rsl (Ql p.k.rules) 0 p.k.rules.length,.rsl (rowI p.k.ranks) 0 p.k.ranks.length,.rsl (rowI p.k.insured) 0 p.k.insured.length,.rsl (Qg p.es) 0 p.es.length,.int .i64 p.day],false⟩,⟨false,g1,5,true,[],false⟩,⟨true,g2,1,true,(rowB v2),true⟩,⟨true,g3,1,true,(rowI v3),true⟩,⟨true,g4,1,true,(rowI v4),true⟩]⟩
def f6G3 (E:Env) (works:(List Wrk)) (p:Ppr) (released:(List Int)) (n:Int) (v2:List Bool) (v3:List Int) (v4:List Int) (k:Nat) (i:Nat):Prop:=∀ g2 g3 g4 g1:Nat,G Try.prog E (f6K3 Try.prog) (f6S3 works p released n v2 v3 v4 k i g2 g3 g4 g1)
def f6K4 (P:Program):List Item:=kAt 400 (Wn P) [.b false,.b false,.b true,.b false,.b false,.stop]
def f6S4 (works:(List Wrk)) (p:Ppr) (released:(List Int)) (n:Int) (v2:List Bool) (v3:List Int) (v4:List Int) (k:Nat) (i:Nat) (g2:Nat) (g3:Nat) (g4:Nat) (g1:Nat):St:=⟨([.rsl (QS works) 0 works.length]++jj 7 ([.sl 2 g2 0 v2.length 1]++jj 5 ([.rsl (rowI released) 0 released.length,J,.int .i64 (i:Int),.int .i64 n,.sl 3 g3 0 v3.length 1,.sl 4 g4 0 v4.length 1,J,J,.int .i64 (k:Int)]++Js 243))),[⟨true,0,1,true,[.rsl (Ql p.k.rules) 0 p.k.rules.length,.rsl (rowI p.k.ranks) 0 p.k.ranks.length,.rsl (rowI p.k.insured) 0 p.k.insured.length,.rsl (Qg p.es) 0 p.es.length,.int .i64 p.day],false⟩,⟨false,g1,5,true,[],false⟩,⟨true,g2,1,true,(rowB v2),true⟩,⟨true,g3,1,true,(rowI v3),true⟩,⟨true,g4,1,true,(rowI v4),true⟩]⟩
def f6G4 (E:Env) (works:(List Wrk)) (p:Ppr) (released:(List Int)) (n:Int) (v2:List Bool) (v3:List Int) (v4:List Int) (k:Nat) (i:Nat):Prop:=∀ g2 g3 g4 g1:Nat,G Try.prog E (f6K4 Try.prog) (f6S4 works p released n v2 v3 v4 k i g2 g3 g4 g1)
abbrev z6_1 (p:Ppr):List AV:=[.rsl (Ql p.k.rules) 0 p.k.rules.length,.rsl (rowI p.k.ranks) 0 p.k.ranks.length,.rsl (rowI p.k.insured) 0 p.k.insured.length,.rsl (Qg p.es) 0 p.es.length,.int .i64 p.day]
abbrev z6_2 (we:Wrk):List AV:=[.rsl (QF we.kit.parts) 0 we.kit.parts.length,.int .i64 we.kit.crane,.rsl ((Qs rowI) we.kit.vans) 0 we.kit.vans.length,.rsl (Qv we.log) 0 we.log.length]
abbrev z6_3 (ee:Ent):List AV:=[.int .i64 ee.day,.int .i64 ee.kind,.int .i64 ee.a,.int .i64 ee.b,.int .i64 ee.c]
abbrev z6_4 (p:Ppr) (v1:List Ent):AV:=.tup [.rsl (rowI ((QP p.k v1 p.day).1)) 0 (((QP p.k v1 p.day).1).length),.int .i64 ((QP p.k v1 p.day).2)]
abbrev z6_5 (p:Ppr) (g1:Nat) (v1:List Ent):List Blk:=[⟨true,0,1,true,(z6_1 p),false⟩,⟨true,g1,5,true,(Qg v1),true⟩]
abbrev z6_6 (works:(List Wrk)) (p:Ppr):List AV:=[.rsl (QS works) 0 works.length,.agg (z6_1 p)]
abbrev z6_7 (p:Ppr) (g1:Nat) (v1:List Ent):List AV:=[.agg [.rsl (Ql p.k.rules) 0 p.k.rules.length,.rsl (rowI p.k.ranks) 0 p.k.ranks.length,.rsl (rowI p.k.insured) 0 p.k.insured.length],.sl 0 g1 0 v1.length 5,.int .i64 p.day]
abbrev z6_8 (we:Wrk):List AV:=[.agg [.rsl (QF we.kit.parts) 0 we.kit.parts.length,.int .i64 we.kit.crane,.rsl ((Qs rowI) we.kit.vans) 0 we.kit.vans.length]]
abbrev z6_9 (we:Wrk):List AV:=[.rsl (QF we.kit.parts) 0 we.kit.parts.length]
abbrev z6_10 (we:Wrk):AV:=.rsl (QF we.kit.parts) 0 we.kit.parts.length
theorem p6_start_0 (works:(List Wrk)) (p:Ppr) {E:Env} {res:AV} (hE:Qe Try.prog 6 res E) (ho:AllP [(decide ((works.length:Int) > 4))=true,true=true,true=true,true=true,true=true,Qd Try.prog (.clos 13 [] []) [] (.bool true)])
 (hr:AvLe (.bool true) res):G Try.prog E [.code (Qc Try.prog 6)] ⟨(z6_6 works p)++unds (Try.f6.ntmps - 2),[]⟩ :=
 Qb (n:=400) (evs:=[.b true,.b true,.b true,.b true,.b true,.v (.bool true)]) (obs:=_) hE Try.func6 Qf (by kernel_rfl) ho hr
theorem p6_start_1 (works:(List Wrk)) (p:Ppr) {E:Env} {res:AV} (hE:Qe Try.prog 6 res E) (ho:AllP [(decide ((works.length:Int) > 4))=false,(decide ((p.es.length:Int) > 40))=true,true=true,true=true,true=true,Qd Try.prog (.clos 13 [] []) [] (.bool true)])
 (hr:AvLe (.bool true) res):G Try.prog E [.code (Qc Try.prog 6)] ⟨(z6_6 works p)++unds (Try.f6.ntmps - 2),[]⟩ :=
 Qb (n:=400) (evs:=[.b false,.b true,.b true,.b true,.b true,.v (.bool true)]) (obs:=_) hE Try.func6 Qf (by kernel_rfl) ho hr
theorem p6_start_2 (works:(List Wrk)) (p:Ppr) {E:Env} {res:AV} (hE:Qe Try.prog 6 res E) (ho:AllP [(decide ((works.length:Int) > 4))=false,(decide ((p.es.length:Int) > 40))=false,(decide ((p.k.rules.length:Int) > 25))=true,true=true,true=true,Qd Try.prog (.clos 13 [] []) [] (.bool true)])
 (hr:AvLe (.bool true) res):G Try.prog E [.code (Qc Try.prog 6)] ⟨(z6_6 works p)++unds (Try.f6.ntmps - 2),[]⟩ :=
 Qb (n:=400) (evs:=[.b false,.b false,.b true,.b true,.b true,.v (.bool true)]) (obs:=_) hE Try.func6 Qf (by kernel_rfl) ho hr
theorem p6_start_3 (works:(List Wrk)) (p:Ppr) {E:Env} {res:AV} (hE:Qe Try.prog 6 res E) (ho:AllP [(decide ((works.length:Int) > 4))=false,(decide ((p.es.length:Int) > 40))=false,(decide ((p.k.rules.length:Int) > 25))=false,(decide ((p.k.ranks.length:Int) > 12))=true,true=true,Qd Try.prog (.clos 13 [] []) [] (.bool true)])
 (hr:AvLe (.bool true) res):G Try.prog E [.code (Qc Try.prog 6)] ⟨(z6_6 works p)++unds (Try.f6.ntmps - 2),[]⟩ :=
 Qb (n:=400) (evs:=[.b false,.b false,.b false,.b true,.b true,.v (.bool true)]) (obs:=_) hE Try.func6 Qf (by kernel_rfl) ho hr
theorem p6_start_4 (works:(List Wrk)) (p:Ppr) {E:Env} {res:AV} (hE:Qe Try.prog 6 res E) (ho:AllP [(decide ((works.length:Int) > 4))=false,(decide ((p.es.length:Int) > 40))=false,(decide ((p.k.rules.length:Int) > 25))=false,(decide ((p.k.ranks.length:Int) > 12))=false,((p.k.insured.length:Int) != (works.length:Int))=true,Qd Try.prog (.clos 13 [] []) [] (.bool true)])
 (hr:AvLe (.bool true) res):G Try.prog E [.code (Qc Try.prog 6)] ⟨(z6_6 works p)++unds (Try.f6.ntmps - 2),[]⟩ :=
 Qb (n:=400) (evs:=[.b false,.b false,.b false,.b false,.b true,.v (.bool true)]) (obs:=_) hE Try.func6 Qf (by kernel_rfl) ho hr
theorem p6_start_5 (works:(List Wrk)) (p:Ppr) {E:Env} {rv:AV} (hE:Qe Try.prog 6 rv E) (ho:AllP [(decide ((works.length:Int) > 4))=false,(decide ((p.es.length:Int) > 40))=false,(decide ((p.k.rules.length:Int) > 25))=false,(decide ((p.k.ranks.length:Int) > 12))=false,((p.k.insured.length:Int) != (works.length:Int))=false])
 (hg:G Try.prog E (f6K0 Try.prog) ⟨([.rsl (QS works) 0 works.length,J,J,.ptr 0 0 0,J,.sl 1 0 0 0 5,.int .i64 0]++Js 259),[⟨true,0,1,true,(z6_1 p),false⟩,⟨true,0,5,true,[],true⟩]⟩):G Try.prog E [.code (Qc Try.prog 6)] ⟨(z6_6 works p)++unds (Try.f6.ntmps - 2),[]⟩ :=
 Qh (n:=400) (ds:=[(5,5)]) (cs:=[]) (live:=[0,3,5,6]) (m:=2) (evs:=[.b false,.b false,.b false,.b false,.b false,.stop]) (obs:=_) hE.2.1 (hE.nogh _) Qf (by kernel_rfl) ho hg
theorem f6W (works:(List Wrk)) (p:Ppr) {E:Env} {rv:Bool} (hE:Qe Try.prog 6 (.bool rv) E)
 (h:(((works.length:Int) > 4→rv=true)∧(¬ ((works.length:Int) > 4)→(((p.es.length:Int) > 40→rv=true)∧(¬ ((p.es.length:Int) > 40)→(((p.k.rules.length:Int) > 25→rv=true)∧(¬ ((p.k.rules.length:Int) > 25)→(((p.k.ranks.length:Int) > 12→rv=true)∧(¬ ((p.k.ranks.length:Int) > 12)→((¬ ((p.k.insured.length:Int)=(works.length:Int))→rv=true)∧((p.k.insured.length:Int)=(works.length:Int)→f6G0 E works p ([]) 0))))))))))):G Try.prog E [.code (Qc Try.prog 6)] ⟨[.rsl (QS works) 0 works.length,.agg [.rsl (Ql p.k.rules) 0 p.k.rules.length,.rsl (rowI p.k.ranks) 0 p.k.ranks.length,.rsl (rowI p.k.insured) 0 p.k.insured.length,.rsl (Qg p.es) 0 p.es.length,.int .i64 p.day]]++unds (Try.f6.ntmps - 2),[]⟩:=by
 rcases bft (decide ((works.length:Int) > 4)) with hc0 | hc0
 · have h:=h.1 (odt hc0)
   exact p6_start_0 works p hE ⟨hc0,rfl,rfl,rfl,rfl,(u13 (VW )),trivial⟩ (AvLe.of_eq (by rw [h]; try rfl))
 · have h:=h.2 (odf hc0)
   rcases bft (decide ((p.es.length:Int) > 40)) with hc1 | hc1
   · have h:=h.1 (odt hc1)
     exact p6_start_1 works p hE ⟨hc0,hc1,rfl,rfl,rfl,(u13 (VW )),trivial⟩ (AvLe.of_eq (by rw [h]; try rfl))
   · have h:=h.2 (odf hc1)
     rcases bft (decide ((p.k.rules.length:Int) > 25)) with hc2 | hc2
     · have h:=h.1 (odt hc2)
       exact p6_start_2 works p hE ⟨hc0,hc1,hc2,rfl,rfl,(u13 (VW )),trivial⟩ (AvLe.of_eq (by rw [h]; try rfl))
     · have h:=h.2 (odf hc2)
       rcases bft (decide ((p.k.ranks.length:Int) > 12)) with hc3 | hc3
       · have h:=h.1 (odt hc3)
         exact p6_start_3 works p hE ⟨hc0,hc1,hc2,hc3,rfl,(u13 (VW )),trivial⟩ (AvLe.of_eq (by rw [h]; try rfl))
       · have h:=h.2 (odf hc3)
         rcases bft ((p.k.insured.length:Int) != (works.length:Int)) with hc4 | hc4
         · have h:=h.1 (bneT hc4)
           exact p6_start_4 works p hE ⟨hc0,hc1,hc2,hc3,hc4,(u13 (VW )),trivial⟩ (AvLe.of_eq (by rw [h]; try rfl))
         · have h:=h.2 (bneF hc4)
           exact p6_start_5 works p hE ⟨hc0,hc1,hc2,hc3,hc4,trivial⟩ (h 0)
theorem p6_0_0 (works:(List Wrk)) (p:Ppr) (v1:List Ent) (i:Nat) (g1:Nat) (ee:Ent) {E:Env} {rv:AV} (hE:Qe Try.prog 6 rv E) (ho:AllP [(decide ((i:Int)<(p.es.length:Int)))=true,0≤(i:Int)∧(i:Int)<(p.es.length:Int),((Qg p.es).drop (0+(Int.toNat (i:Int))*5)).take 5=(z6_3 ee),5≤5,(decide (ee.day > p.day))=true])
 (hg:G Try.prog E (Wn Try.prog) ⟨([.rsl (QS works) 0 works.length,J,J,.ptr 0 0 0,J,.sl 1 g1 0 v1.length 5]++Js 260),(z6_5 p g1 v1)⟩):G Try.prog E (f6K0 Try.prog) (f6S0 works p v1 i g1) :=
 Qh (n:=400) (ds:=[]) (cs:=[]) (live:=[0,3,5]) (m:=2) (evs:=[.b true,.auto,.ld (.agg (z6_3 ee)),.b true,.hold 0]) (obs:=_) hE.2.1 (hE.nogh _) Qf (by kernel_rfl) ho hg
theorem p6_0_1 (works:(List Wrk)) (p:Ppr) (v1:List Ent) (i:Nat) (g1:Nat) (ee:Ent) {E:Env} {rv:AV} (hE:Qe Try.prog 6 rv E) (ho:AllP [(decide ((i:Int)<(p.es.length:Int)))=true,0≤(i:Int)∧(i:Int)<(p.es.length:Int),((Qg p.es).drop (0+(Int.toNat (i:Int))*5)).take 5=[.int .i64 ee.day,.int .i64 ee.kind,.int .i64 ee.a,.int .i64 ee.b,.int .i64 ee.c],5≤5,(decide (ee.day > p.day))=false,(ee.kind != 4)=true,(ee.kind != 3)=true,g1=g1,(0+(v1.length*5))=(Qg v1).length,(v1.length+1)≤2147483648,0=0,InR .i64 ((i:Int)+1)])
 (hg:G Try.prog E (f6K0 Try.prog) ⟨([.rsl (QS works) 0 works.length,J,J,.ptr 0 0 0,J,.sl 1 (g1+1) 0 (v1.length+1) 5,.int .i64 ((i:Int)+1)]++Js 259),[⟨true,0,1,true,[.rsl (Ql p.k.rules) 0 p.k.rules.length,.rsl (rowI p.k.ranks) 0 p.k.ranks.length,.rsl (rowI p.k.insured) 0 p.k.insured.length,.rsl (Qg p.es) 0 p.es.length,.int .i64 p.day],false⟩,⟨true,(g1+1),5,true,((Qg v1)++[.int .i64 ee.day,.int .i64 ee.kind,.int .i64 ee.a,.int .i64 ee.b,.int .i64 ee.c]),true⟩]⟩):G Try.prog E (f6K0 Try.prog) (f6S0 works p v1 i g1) :=
 Qh (n:=400) (ds:=[]) (cs:=[]) (live:=[0,3,5,6]) (m:=2) (evs:=[.b true,.auto,.ld (.agg [.int .i64 ee.day,.int .i64 ee.kind,.int .i64 ee.a,.int .i64 ee.b,.int .i64 ee.c]),.b false,.b true,.b true,.stop]) (obs:=_) hE.2.1 (hE.nogh _) Qf (by kernel_rfl) ho hg
theorem p6_0_2 (works:(List Wrk)) (p:Ppr) (v1:List Ent) (i:Nat) (g1:Nat) (ee:Ent) {E:Env} {rv:AV} (hE:Qe Try.prog 6 rv E) (ho:AllP [(decide ((i:Int)<(p.es.length:Int)))=true,0≤(i:Int)∧(i:Int)<(p.es.length:Int),((Qg p.es).drop (0+(Int.toNat (i:Int))*5)).take 5=(z6_3 ee),5≤5,(decide (ee.day > p.day))=false,(ee.kind != 4)=true,(ee.kind != 3)=false,InR .i64 ((i:Int)+1)])
 (hg:G Try.prog E (f6K0 Try.prog) ⟨([.rsl (QS works) 0 works.length,J,J,.ptr 0 0 0,J,.sl 1 g1 0 v1.length 5,.int .i64 ((i:Int)+1)]++Js 259),(z6_5 p g1 v1)⟩):G Try.prog E (f6K0 Try.prog) (f6S0 works p v1 i g1) :=
 Qh (n:=400) (ds:=[]) (cs:=[]) (live:=[0,3,5,6]) (m:=2) (evs:=[.b true,.auto,.ld (.agg (z6_3 ee)),.b false,.b true,.b false,.stop]) (obs:=_) hE.2.1 (hE.nogh _) Qf (by kernel_rfl) ho hg
theorem p6_0_3 (works:(List Wrk)) (p:Ppr) (v1:List Ent) (i:Nat) (g1:Nat) (ee:Ent) {E:Env} {rv:AV} (hE:Qe Try.prog 6 rv E) (ho:AllP [(decide ((i:Int)<(p.es.length:Int)))=true,0≤(i:Int)∧(i:Int)<(p.es.length:Int),((Qg p.es).drop (0+(Int.toNat (i:Int))*5)).take 5=(z6_3 ee),5≤5,(decide (ee.day > p.day))=false,(ee.kind != 4)=false,false=false,InR .i64 ((i:Int)+1)])
 (hg:G Try.prog E (f6K0 Try.prog) ⟨([.rsl (QS works) 0 works.length,J,J,.ptr 0 0 0,J,.sl 1 g1 0 v1.length 5,.int .i64 ((i:Int)+1)]++Js 259),(z6_5 p g1 v1)⟩):G Try.prog E (f6K0 Try.prog) (f6S0 works p v1 i g1) :=
 Qh (n:=400) (ds:=[]) (cs:=[]) (live:=[0,3,5,6]) (m:=2) (evs:=[.b true,.auto,.ld (.agg (z6_3 ee)),.b false,.b false,.b false,.stop]) (obs:=_) hE.2.1 (hE.nogh _) Qf (by kernel_rfl) ho hg
theorem p6_0_4 (works:(List Wrk)) (p:Ppr) (v1:List Ent) (i:Nat) (g1:Nat) {E:Env} {rv:AV} (hE:Qe Try.prog 6 rv E) (ho:AllP [(decide ((i:Int)<(p.es.length:Int)))=false])
 (hg:G Try.prog E (Wn Try.prog) ⟨([.rsl (QS works) 0 works.length,J,J,.ptr 0 0 0,J,.sl 1 g1 0 v1.length 5]++Js 260),(z6_5 p g1 v1)⟩):G Try.prog E (f6K0 Try.prog) (f6S0 works p v1 i g1) :=
 Qh (n:=400) (ds:=[]) (cs:=[]) (live:=[0,3,5]) (m:=2) (evs:=[.b false,.hold 0]) (obs:=_) hE.2.1 (hE.nogh _) Qf (by kernel_rfl) ho hg
theorem f6W0 (works:(List Wrk)) (p:Ppr) (v1:List Ent) (i:Nat) {E:Env} {rv:Bool} (hE:Qe Try.prog 6 (.bool rv) E)
 (h:(((i:Int)<(p.es.length:Int)→(∃ ee:Ent,p.es[i]?=some ee∧((ee.day > p.day→QcK E works p v1)∧(¬ (ee.day > p.day)→((¬ (ee.kind=4)→((¬ (ee.kind=3)→((v1.length+1)≤2147483648∧((I6 ((i:Int)+1))∧f6G0 E works p (v1++[ee]) (i+1))))∧(ee.kind=3→((I6 ((i:Int)+1))∧f6G0 E works p v1 (i+1)))))∧(ee.kind=4→((I6 ((i:Int)+1))∧f6G0 E works p v1 (i+1))))))))∧(¬ ((i:Int)<(p.es.length:Int))→QcK E works p v1))):f6G0 E works p v1 i:=by
 intro g1
 rcases bft (decide ((i:Int)<(p.es.length:Int))) with hc0 | hc0
 · have h:=h.1 (odt hc0)
   obtain ⟨ee,h1,h⟩:=h
   rcases bft (decide (ee.day > p.day)) with hc1 | hc1
   · have h:=h.1 (odt hc1)
     exact p6_0_0 works p v1 i g1 ee hE ⟨hc0,(Qn h1),(rp cEnt 5 0 5 h1),(by decide),hc1,trivial⟩ (h g1)
   · have h:=h.2 (odf hc1)
     rcases bft (ee.kind != 4) with hc2 | hc2
     · have h:=h.1 (bneT hc2)
       rcases bft (ee.kind != 3) with hc3 | hc3
       · have h:=h.1 (bneT hc3)
         obtain ⟨h2,h⟩:=h
         obtain ⟨q12_4,h⟩:=h
         refine p6_0_1 works p v1 i g1 ee hE ⟨hc0,(Qn h1),(rp cEnt 5 0 5 h1),(by decide),hc1,hc2,hc3,rfl,(by have hx:=XB cEnt (s:=5) (fun _=>rfl) v1; simp only [Qg] at hx ⊢; rw [hx]; simp),h2,rfl,q12_4,trivial⟩ ?_
         rw [(show Qg v1++[.int .i64 ee.day,.int .i64 ee.kind,.int .i64 ee.a,.int .i64 ee.b,.int .i64 ee.c]=Qg (v1++[ee]) from (qc cEnt v1 [ee]).symm)]; rw [(show (v1.length+1)=(v1++[ee]).length from by simp)]; exact (h (g1+1))
       · have h:=h.2 (bneF hc3)
         obtain ⟨q8_4,h⟩:=h
         exact p6_0_2 works p v1 i g1 ee hE ⟨hc0,(Qn h1),(rp cEnt 5 0 5 h1),(by decide),hc1,hc2,hc3,q8_4,trivial⟩ (h g1)
     · have h:=h.2 (bneF hc2)
       obtain ⟨q8_3,h⟩:=h
       exact p6_0_3 works p v1 i g1 ee hE ⟨hc0,(Qn h1),(rp cEnt 5 0 5 h1),(by decide),hc1,hc2,rfl,q8_3,trivial⟩ (h g1)
 · have h:=h.2 (odf hc0)
   exact p6_0_4 works p v1 i g1 hE ⟨hc0,trivial⟩ (h g1)
theorem p6_1_0 (works:(List Wrk)) (p:Ppr) (v1:List Ent) (v2:List Bool) (i:Nat) (g1:Nat) (g2:Nat) (we:Wrk) {E:Env} {res:AV} (hE:Qe Try.prog 6 res E) (ho:AllP [(decide ((i:Int)<(works.length:Int)))=true,0≤(i:Int)∧(i:Int)<(works.length:Int),((QS works).drop (0+(Int.toNat (i:Int))*4)).take 4=(z6_2 we),4≤4,Qd Try.prog (.clos 25 [] []) (z6_8 we) (.int .i64 (chk8 we.kit)),((chk8 we.kit) != 0)=true,true=true,Qd Try.prog (.clos 13 [] []) [] (.bool true)])
 (hr:AvLe (.bool true) res):G Try.prog E (f6K1 Try.prog) (f6S1 works p v1 v2 i g1 g2) :=
 Qb (n:=400) (evs:=[.b true,.ld (.agg (z6_2 we)),.v (.int .i64 (chk8 we.kit)),.b true,.b true,.v (.bool true)]) (obs:=_) hE Try.func6 Qf (by kernel_rfl) ho hr
theorem p6_1_1 (works:(List Wrk)) (p:Ppr) (v1:List Ent) (v2:List Bool) (i:Nat) (g1:Nat) (g2:Nat) (we:Wrk) {E:Env} {res:AV} (hE:Qe Try.prog 6 res E) (ho:AllP [(decide ((i:Int)<(works.length:Int)))=true,0≤(i:Int)∧(i:Int)<(works.length:Int),((QS works).drop (0+(Int.toNat (i:Int))*4)).take 4=(z6_2 we),4≤4,Qd Try.prog (.clos 25 [] []) (z6_8 we) (.int .i64 (chk8 we.kit)),((chk8 we.kit) != 0)=false,(decide ((we.log.length:Int) > 200))=true,Qd Try.prog (.clos 13 [] []) [] (.bool true)])
 (hr:AvLe (.bool true) res):G Try.prog E (f6K1 Try.prog) (f6S1 works p v1 v2 i g1 g2) :=
 Qb (n:=400) (evs:=[.b true,.ld (.agg (z6_2 we)),.v (.int .i64 (chk8 we.kit)),.b false,.b true,.v (.bool true)]) (obs:=_) hE Try.func6 Qf (by kernel_rfl) ho hr
theorem p6_1_2 (works:(List Wrk)) (p:Ppr) (v1:List Ent) (v2:List Bool) (i:Nat) (g1:Nat) (g2:Nat) (we:Wrk) (eb:Bool) (eb1:Bool) {E:Env} {rv:AV} (hE:Qe Try.prog 6 rv E) (ho:AllP [(decide ((i:Int)<(works.length:Int)))=true,0≤(i:Int)∧(i:Int)<(works.length:Int),((QS works).drop (0+(Int.toNat (i:Int))*4)).take 4=[.rsl (QF we.kit.parts) 0 we.kit.parts.length,.int .i64 we.kit.crane,.rsl ((Qs rowI) we.kit.vans) 0 we.kit.vans.length,.rsl (Qv we.log) 0 we.log.length],4≤4,Qd Try.prog (.clos 25 [] []) [.agg [.rsl (QF we.kit.parts) 0 we.kit.parts.length,.int .i64 we.kit.crane,.rsl ((Qs rowI) we.kit.vans) 0 we.kit.vans.length]] (.int .i64 (chk8 we.kit)),((chk8 we.kit) != 0)=false,(decide ((we.log.length:Int) > 200))=false,1=1,0=0,0=0,(0+we.log.length)≤2147483648,((Qv we.log).drop 0).take (we.log.length*2)=(Qv we.log),(Qv we.log).length=(we.log.length*2),noRefs (Qv we.log)=true,Qd Try.prog (.clos 26 [] []) [.agg [.rsl (QF we.kit.parts) 0 we.kit.parts.length,.int .i64 we.kit.crane,.rsl ((Qs rowI) we.kit.vans) 0 we.kit.vans.length],.rsl (Qv we.log) 0 (0+we.log.length)] (.tup [.bool ((QH we.kit we.log).1),.rsl (rowI ((QH we.kit we.log).2.1)) 0 (((QH we.kit we.log).2.1).length),.int .i64 ((QH we.kit we.log).2.2)]),((QH we.kit we.log).1)=true,0≤(i:Int)∧(i:Int)<(v2.length:Int),g2=g2,((0+(Int.toNat (i:Int))*1)+1)≤(rowB v2).length,g2=g2,0≤(i:Int)∧(i:Int)<(v2.length:Int),g2=g2,g2=g2,((Qw (rowB v2) (0+(Int.toNat (i:Int))*1) [.bool ((QH we.kit we.log).2.2 == 0)]).drop (0+(Int.toNat (i:Int))*1)).take 1=[.bool eb1],eb1=true,g1=g1,(0+(v1.length*5))=(Qg v1).length,(v1.length+1)≤2147483648,0=0,InR .i64 ((i:Int)+1)])
 (hg:G Try.prog E (f6K1 Try.prog) ⟨([.rsl (QS works) 0 works.length,J,J,.ptr 0 0 0,J,.sl 1 (g1+1) 0 (v1.length+1) 5,J,J,.sl 2 g2 0 v2.length 1,.int .i64 ((i:Int)+1)]++Js 256),[⟨true,0,1,true,[.rsl (Ql p.k.rules) 0 p.k.rules.length,.rsl (rowI p.k.ranks) 0 p.k.ranks.length,.rsl (rowI p.k.insured) 0 p.k.insured.length,.rsl (Qg p.es) 0 p.es.length,.int .i64 p.day],false⟩,⟨true,(g1+1),5,true,((Qg v1)++[.int .i64 p.day,.int .i64 4,.int .i64 (i:Int),.int .i64 0,.int .i64 0]),true⟩,⟨true,g2,1,true,(Qw (rowB v2) (0+(Int.toNat (i:Int))*1) [.bool ((QH we.kit we.log).2.2 == 0)]),true⟩]⟩):G Try.prog E (f6K1 Try.prog) (f6S1 works p v1 v2 i g1 g2) :=
 Qh (n:=400) (ds:=[]) (cs:=[]) (live:=[0,3,5,8,9]) (m:=3) (evs:=[.b true,.ld (.agg [.rsl (QF we.kit.parts) 0 we.kit.parts.length,.int .i64 we.kit.crane,.rsl ((Qs rowI) we.kit.vans) 0 we.kit.vans.length,.rsl (Qv we.log) 0 we.log.length]),.v (.int .i64 (chk8 we.kit)),.b false,.b false,.fz,.cs (Qv we.log),.v (.tup [.bool ((QH we.kit we.log).1),.rsl (rowI ((QH we.kit we.log).2.1)) 0 (((QH we.kit we.log).2.1).length),.int .i64 ((QH we.kit we.log).2.2)]),.b true,.ld (.bool eb1),.b true,.stop]) (obs:=_) hE.2.1 (hE.nogh _) Qf (by kernel_rfl) ho hg
theorem p6_1_3 (works:(List Wrk)) (p:Ppr) (v1:List Ent) (v2:List Bool) (i:Nat) (g1:Nat) (g2:Nat) (we:Wrk) (eb:Bool) (eb1:Bool) {E:Env} {rv:AV} (hE:Qe Try.prog 6 rv E) (ho:AllP [(decide ((i:Int)<(works.length:Int)))=true,0≤(i:Int)∧(i:Int)<(works.length:Int),((QS works).drop (0+(Int.toNat (i:Int))*4)).take 4=[.rsl (QF we.kit.parts) 0 we.kit.parts.length,.int .i64 we.kit.crane,.rsl ((Qs rowI) we.kit.vans) 0 we.kit.vans.length,.rsl (Qv we.log) 0 we.log.length],4≤4,Qd Try.prog (.clos 25 [] []) [.agg [.rsl (QF we.kit.parts) 0 we.kit.parts.length,.int .i64 we.kit.crane,.rsl ((Qs rowI) we.kit.vans) 0 we.kit.vans.length]] (.int .i64 (chk8 we.kit)),((chk8 we.kit) != 0)=false,(decide ((we.log.length:Int) > 200))=false,1=1,0=0,0=0,(0+we.log.length)≤2147483648,((Qv we.log).drop 0).take (we.log.length*2)=(Qv we.log),(Qv we.log).length=(we.log.length*2),noRefs (Qv we.log)=true,Qd Try.prog (.clos 26 [] []) [.agg [.rsl (QF we.kit.parts) 0 we.kit.parts.length,.int .i64 we.kit.crane,.rsl ((Qs rowI) we.kit.vans) 0 we.kit.vans.length],.rsl (Qv we.log) 0 (0+we.log.length)] (.tup [.bool ((QH we.kit we.log).1),.rsl (rowI ((QH we.kit we.log).2.1)) 0 (((QH we.kit we.log).2.1).length),.int .i64 ((QH we.kit we.log).2.2)]),((QH we.kit we.log).1)=true,0≤(i:Int)∧(i:Int)<(v2.length:Int),g2=g2,((0+(Int.toNat (i:Int))*1)+1)≤(rowB v2).length,g2=g2,0≤(i:Int)∧(i:Int)<(v2.length:Int),g2=g2,g2=g2,((Qw (rowB v2) (0+(Int.toNat (i:Int))*1) [.bool ((QH we.kit we.log).2.2 == 0)]).drop (0+(Int.toNat (i:Int))*1)).take 1=[.bool eb1],eb1=false,InR .i64 ((i:Int)+1)])
 (hg:G Try.prog E (f6K1 Try.prog) ⟨([.rsl (QS works) 0 works.length,J,J,.ptr 0 0 0,J,.sl 1 g1 0 v1.length 5,J,J,.sl 2 g2 0 v2.length 1,.int .i64 ((i:Int)+1)]++Js 256),[⟨true,0,1,true,[.rsl (Ql p.k.rules) 0 p.k.rules.length,.rsl (rowI p.k.ranks) 0 p.k.ranks.length,.rsl (rowI p.k.insured) 0 p.k.insured.length,.rsl (Qg p.es) 0 p.es.length,.int .i64 p.day],false⟩,⟨true,g1,5,true,(Qg v1),true⟩,⟨true,g2,1,true,(Qw (rowB v2) (0+(Int.toNat (i:Int))*1) [.bool ((QH we.kit we.log).2.2 == 0)]),true⟩]⟩):G Try.prog E (f6K1 Try.prog) (f6S1 works p v1 v2 i g1 g2) :=
 Qh (n:=400) (ds:=[]) (cs:=[]) (live:=[0,3,5,8,9]) (m:=3) (evs:=[.b true,.ld (.agg [.rsl (QF we.kit.parts) 0 we.kit.parts.length,.int .i64 we.kit.crane,.rsl ((Qs rowI) we.kit.vans) 0 we.kit.vans.length,.rsl (Qv we.log) 0 we.log.length]),.v (.int .i64 (chk8 we.kit)),.b false,.b false,.fz,.cs (Qv we.log),.v (.tup [.bool ((QH we.kit we.log).1),.rsl (rowI ((QH we.kit we.log).2.1)) 0 (((QH we.kit we.log).2.1).length),.int .i64 ((QH we.kit we.log).2.2)]),.b true,.ld (.bool eb1),.b false,.stop]) (obs:=_) hE.2.1 (hE.nogh _) Qf (by kernel_rfl) ho hg
theorem p6_1_4 (works:(List Wrk)) (p:Ppr) (v1:List Ent) (v2:List Bool) (i:Nat) (g1:Nat) (g2:Nat) (we:Wrk) (eb:Bool) (eb1:Bool) {E:Env} {rv:AV} (hE:Qe Try.prog 6 rv E) (ho:AllP [(decide ((i:Int)<(works.length:Int)))=true,0≤(i:Int)∧(i:Int)<(works.length:Int),((QS works).drop (0+(Int.toNat (i:Int))*4)).take 4=[.rsl (QF we.kit.parts) 0 we.kit.parts.length,.int .i64 we.kit.crane,.rsl ((Qs rowI) we.kit.vans) 0 we.kit.vans.length,.rsl (Qv we.log) 0 we.log.length],4≤4,Qd Try.prog (.clos 25 [] []) [.agg [.rsl (QF we.kit.parts) 0 we.kit.parts.length,.int .i64 we.kit.crane,.rsl ((Qs rowI) we.kit.vans) 0 we.kit.vans.length]] (.int .i64 (chk8 we.kit)),((chk8 we.kit) != 0)=false,(decide ((we.log.length:Int) > 200))=false,1=1,0=0,0=0,(0+we.log.length)≤2147483648,((Qv we.log).drop 0).take (we.log.length*2)=(Qv we.log),(Qv we.log).length=(we.log.length*2),noRefs (Qv we.log)=true,Qd Try.prog (.clos 26 [] []) [.agg [.rsl (QF we.kit.parts) 0 we.kit.parts.length,.int .i64 we.kit.crane,.rsl ((Qs rowI) we.kit.vans) 0 we.kit.vans.length],.rsl (Qv we.log) 0 (0+we.log.length)] (.tup [.bool ((QH we.kit we.log).1),.rsl (rowI ((QH we.kit we.log).2.1)) 0 (((QH we.kit we.log).2.1).length),.int .i64 ((QH we.kit we.log).2.2)]),((QH we.kit we.log).1)=false,0≤(i:Int)∧(i:Int)<(v2.length:Int),g2=g2,((0+(Int.toNat (i:Int))*1)+1)≤(rowB v2).length,g2=g2,0≤(i:Int)∧(i:Int)<(v2.length:Int),g2=g2,g2=g2,((Qw (rowB v2) (0+(Int.toNat (i:Int))*1) [.bool false]).drop (0+(Int.toNat (i:Int))*1)).take 1=[.bool eb1],eb1=true,g1=g1,(0+(v1.length*5))=(Qg v1).length,(v1.length+1)≤2147483648,0=0,InR .i64 ((i:Int)+1)])
 (hg:G Try.prog E (f6K1 Try.prog) ⟨([.rsl (QS works) 0 works.length,J,J,.ptr 0 0 0,J,.sl 1 (g1+1) 0 (v1.length+1) 5,J,J,.sl 2 g2 0 v2.length 1,.int .i64 ((i:Int)+1)]++Js 256),[⟨true,0,1,true,[.rsl (Ql p.k.rules) 0 p.k.rules.length,.rsl (rowI p.k.ranks) 0 p.k.ranks.length,.rsl (rowI p.k.insured) 0 p.k.insured.length,.rsl (Qg p.es) 0 p.es.length,.int .i64 p.day],false⟩,⟨true,(g1+1),5,true,((Qg v1)++[.int .i64 p.day,.int .i64 4,.int .i64 (i:Int),.int .i64 0,.int .i64 0]),true⟩,⟨true,g2,1,true,(Qw (rowB v2) (0+(Int.toNat (i:Int))*1) [.bool false]),true⟩]⟩):G Try.prog E (f6K1 Try.prog) (f6S1 works p v1 v2 i g1 g2) :=
 Qh (n:=400) (ds:=[]) (cs:=[]) (live:=[0,3,5,8,9]) (m:=3) (evs:=[.b true,.ld (.agg [.rsl (QF we.kit.parts) 0 we.kit.parts.length,.int .i64 we.kit.crane,.rsl ((Qs rowI) we.kit.vans) 0 we.kit.vans.length,.rsl (Qv we.log) 0 we.log.length]),.v (.int .i64 (chk8 we.kit)),.b false,.b false,.fz,.cs (Qv we.log),.v (.tup [.bool ((QH we.kit we.log).1),.rsl (rowI ((QH we.kit we.log).2.1)) 0 (((QH we.kit we.log).2.1).length),.int .i64 ((QH we.kit we.log).2.2)]),.b false,.ld (.bool eb1),.b true,.stop]) (obs:=_) hE.2.1 (hE.nogh _) Qf (by kernel_rfl) ho hg
theorem p6_1_5 (works:(List Wrk)) (p:Ppr) (v1:List Ent) (v2:List Bool) (i:Nat) (g1:Nat) (g2:Nat) (we:Wrk) (eb:Bool) (eb1:Bool) {E:Env} {rv:AV} (hE:Qe Try.prog 6 rv E) (ho:AllP [(decide ((i:Int)<(works.length:Int)))=true,0≤(i:Int)∧(i:Int)<(works.length:Int),((QS works).drop (0+(Int.toNat (i:Int))*4)).take 4=[.rsl (QF we.kit.parts) 0 we.kit.parts.length,.int .i64 we.kit.crane,.rsl ((Qs rowI) we.kit.vans) 0 we.kit.vans.length,.rsl (Qv we.log) 0 we.log.length],4≤4,Qd Try.prog (.clos 25 [] []) [.agg [.rsl (QF we.kit.parts) 0 we.kit.parts.length,.int .i64 we.kit.crane,.rsl ((Qs rowI) we.kit.vans) 0 we.kit.vans.length]] (.int .i64 (chk8 we.kit)),((chk8 we.kit) != 0)=false,(decide ((we.log.length:Int) > 200))=false,1=1,0=0,0=0,(0+we.log.length)≤2147483648,((Qv we.log).drop 0).take (we.log.length*2)=(Qv we.log),(Qv we.log).length=(we.log.length*2),noRefs (Qv we.log)=true,Qd Try.prog (.clos 26 [] []) [.agg [.rsl (QF we.kit.parts) 0 we.kit.parts.length,.int .i64 we.kit.crane,.rsl ((Qs rowI) we.kit.vans) 0 we.kit.vans.length],.rsl (Qv we.log) 0 (0+we.log.length)] (.tup [.bool ((QH we.kit we.log).1),.rsl (rowI ((QH we.kit we.log).2.1)) 0 (((QH we.kit we.log).2.1).length),.int .i64 ((QH we.kit we.log).2.2)]),((QH we.kit we.log).1)=false,0≤(i:Int)∧(i:Int)<(v2.length:Int),g2=g2,((0+(Int.toNat (i:Int))*1)+1)≤(rowB v2).length,g2=g2,0≤(i:Int)∧(i:Int)<(v2.length:Int),g2=g2,g2=g2,((Qw (rowB v2) (0+(Int.toNat (i:Int))*1) [.bool false]).drop (0+(Int.toNat (i:Int))*1)).take 1=[.bool eb1],eb1=false,InR .i64 ((i:Int)+1)])
 (hg:G Try.prog E (f6K1 Try.prog) ⟨([.rsl (QS works) 0 works.length,J,J,.ptr 0 0 0,J,.sl 1 g1 0 v1.length 5,J,J,.sl 2 g2 0 v2.length 1,.int .i64 ((i:Int)+1)]++Js 256),[⟨true,0,1,true,[.rsl (Ql p.k.rules) 0 p.k.rules.length,.rsl (rowI p.k.ranks) 0 p.k.ranks.length,.rsl (rowI p.k.insured) 0 p.k.insured.length,.rsl (Qg p.es) 0 p.es.length,.int .i64 p.day],false⟩,⟨true,g1,5,true,(Qg v1),true⟩,⟨true,g2,1,true,(Qw (rowB v2) (0+(Int.toNat (i:Int))*1) [.bool false]),true⟩]⟩):G Try.prog E (f6K1 Try.prog) (f6S1 works p v1 v2 i g1 g2) :=
 Qh (n:=400) (ds:=[]) (cs:=[]) (live:=[0,3,5,8,9]) (m:=3) (evs:=[.b true,.ld (.agg [.rsl (QF we.kit.parts) 0 we.kit.parts.length,.int .i64 we.kit.crane,.rsl ((Qs rowI) we.kit.vans) 0 we.kit.vans.length,.rsl (Qv we.log) 0 we.log.length]),.v (.int .i64 (chk8 we.kit)),.b false,.b false,.fz,.cs (Qv we.log),.v (.tup [.bool ((QH we.kit we.log).1),.rsl (rowI ((QH we.kit we.log).2.1)) 0 (((QH we.kit we.log).2.1).length),.int .i64 ((QH we.kit we.log).2.2)]),.b false,.ld (.bool eb1),.b false,.stop]) (obs:=_) hE.2.1 (hE.nogh _) Qf (by kernel_rfl) ho hg
theorem p6_1_6 (works:(List Wrk)) (p:Ppr) (v1:List Ent) (v2:List Bool) (i:Nat) (g1:Nat) (g2:Nat) {E:Env} {res:AV} (hE:Qe Try.prog 6 res E) (ho:AllP [(decide ((i:Int)<(works.length:Int)))=false,QQ Try.prog (.clos 27 [] []) (z6_7 p g1 v1) [⟨true,g1,5,true,(Qg v1),true⟩] (z6_4 p v1) [⟨false,(g1+1),5,true,[],false⟩],((QP p.k v1 p.day).2 != 0)=true,Qd Try.prog (.clos 13 [] []) [] (.bool true)])
 (hr:AvLe (.bool true) res):G Try.prog E (f6K1 Try.prog) (f6S1 works p v1 v2 i g1 g2) :=
 Qb (n:=400) (evs:=[.b false,.lent [1] (z6_4 p v1) [⟨false,(g1+1),5,true,[],false⟩],.b true,.v (.bool true)]) (obs:=_) hE Try.func6 Qf (by kernel_rfl) ho hr
theorem p6_1_7 (works:(List Wrk)) (p:Ppr) (v1:List Ent) (v2:List Bool) (i:Nat) (g1:Nat) (g2:Nat) {E:Env} {rv:AV} (hE:Qe Try.prog 6 rv E) (ho:AllP [(decide ((i:Int)<(works.length:Int)))=false,QQ Try.prog (.clos 27 [] []) (z6_7 p g1 v1) [⟨true,g1,5,true,(Qg v1),true⟩] (z6_4 p v1) [⟨false,(g1+1),5,true,[],false⟩],((QP p.k v1 p.day).2 != 0)=false])
 (hg:G Try.prog E (f6K2 Try.prog) ⟨([.rsl (QS works) 0 works.length]++jj 7 ([.sl 2 g2 0 v2.length 1]++jj 5 ([.rsl (rowI ((QP p.k v1 p.day).1)) 0 (((QP p.k v1 p.day).1).length),J,.int .i64 0]++Js 249))),[⟨true,0,1,true,(z6_1 p),false⟩,⟨false,(g1+1),5,true,[],false⟩,⟨true,g2,1,true,(rowB v2),true⟩]⟩):G Try.prog E (f6K1 Try.prog) (f6S1 works p v1 v2 i g1 g2) :=
 Qh (n:=400) (ds:=[]) (cs:=[]) (live:=[0,8,14,16]) (m:=3) (evs:=[.b false,.lent [1] (z6_4 p v1) [⟨false,(g1+1),5,true,[],false⟩],.b false,.stop]) (obs:=_) hE.2.1 (hE.nogh _) Qf (by kernel_rfl) ho hg
theorem f6W1 (works:(List Wrk)) (p:Ppr) (v1:List Ent) (v2:List Bool) (i:Nat) {E:Env} {rv:Bool} (hE:Qe Try.prog 6 (.bool rv) E)
 (h:(((i:Int)<(works.length:Int)→(∃ we:Wrk,works[i]?=some we∧((KitSize we.kit)∧((¬ ((chk8 we.kit)=0)→rv=true)∧((chk8 we.kit)=0→(((we.log.length:Int) > 200→rv=true)∧(¬ ((we.log.length:Int) > 200)→((0+we.log.length)≤2147483648∧((KitSmall we.kit)∧((((QH we.kit we.log).1)=true→(∃ eb:Bool,v2[i]?=some eb∧(∃ eb1:Bool,(v2.set i ((QH we.kit we.log).2.2 == 0))[i]?=some eb1∧((eb1=true→((v1.length+1)≤2147483648∧((I6 ((i:Int)+1))∧f6G1 E works p (v1++[(⟨p.day,4,(i:Int),0,0⟩:Ent)]) (v2.set i ((QH we.kit we.log).2.2 == 0)) (i+1))))∧(eb1=false→((I6 ((i:Int)+1))∧f6G1 E works p v1 (v2.set i ((QH we.kit we.log).2.2 == 0)) (i+1)))))))∧(((QH we.kit we.log).1)=false→(∃ eb:Bool,v2[i]?=some eb∧(∃ eb1:Bool,(v2.set i false)[i]?=some eb1∧((eb1=true→((v1.length+1)≤2147483648∧((I6 ((i:Int)+1))∧f6G1 E works p (v1++[(⟨p.day,4,(i:Int),0,0⟩:Ent)]) (v2.set i false) (i+1))))∧(eb1=false→((I6 ((i:Int)+1))∧f6G1 E works p v1 (v2.set i false) (i+1)))))))))))))))))∧(¬ ((i:Int)<(works.length:Int))→((BokSmall p.k)∧((¬ ((QP p.k v1 p.day).2=0)→rv=true)∧((QP p.k v1 p.day).2=0→f6G2 E works p ((QP p.k v1 p.day).1) v2 0)))))):f6G1 E works p v1 v2 i:=by
 intro g1 g2
 rcases bft (decide ((i:Int)<(works.length:Int))) with hc0 | hc0
 · have h:=h.1 (odt hc0)
   obtain ⟨we,h1,h⟩:=h
   obtain ⟨h2,h⟩:=h
   rcases bft ((chk8 we.kit) != 0) with hc1 | hc1
   · have h:=h.1 (bneT hc1)
     exact p6_1_0 works p v1 v2 i g1 g2 we hE ⟨hc0,(Qn h1),(rp cWrk 4 0 4 h1),(by decide),(u25 (yb we.kit h2)),hc1,rfl,(u13 (VW )),trivial⟩ (AvLe.of_eq (by rw [h]; try rfl))
   · have h:=h.2 (bneF hc1)
     rcases bft (decide ((we.log.length:Int) > 200)) with hc2 | hc2
     · have h:=h.1 (odt hc2)
       exact p6_1_1 works p v1 v2 i g1 g2 we hE ⟨hc0,(Qn h1),(rp cWrk 4 0 4 h1),(by decide),(u25 (yb we.kit h2)),hc1,hc2,(u13 (VW )),trivial⟩ (AvLe.of_eq (by rw [h]; try rfl))
     · have h:=h.2 (odf hc2)
       obtain ⟨h3,h⟩:=h
       obtain ⟨h4,h⟩:=h
       rcases bft ((QH we.kit we.log).1) with hc3 | hc3
       · have h:=h.1 hc3
         obtain ⟨eb,h5,h⟩:=h
         obtain ⟨eb1,h6,h⟩:=h
         rcases bft eb1 with hc4 | hc4
         · have h:=h.1 hc4
           obtain ⟨h7,h⟩:=h
           obtain ⟨q32_5,h⟩:=h
           refine p6_1_2 works p v1 v2 i g1 g2 we eb eb1 hE ⟨hc0,(Qn h1),(rp cWrk 4 0 4 h1),(by decide),(u25 (yb we.kit h2)),hc1,hc2,rfl,rfl,rfl,h3,(by exact qH cStp (fun _=>rfl) we.log),(by exact XB cStp (fun _=>rfl) we.log),(by exact Vy cStp (fun _=>rfl) we.log),(by rw [(show AV.rsl (Qv we.log) 0 (0+we.log.length)=AV.rsl (Qv we.log) 0 we.log.length from by rw [show (0+we.log.length)=we.log.length from by simp])]; exact (u26 (yX we.kit we.log h4))),hc3,(Qn h5),rfl,(rf cB 1 0 1 h5),rfl,(by have hx:=Qn h6; simpa using hx),rfl,rfl,(by rw [(show Qw (rowB v2) (0+(Int.toNat (i:Int))*1) [.bool ((QH we.kit we.log).2.2 == 0)]=rowB (v2.set i ((QH we.kit we.log).2.2 == 0)) from QJ cB (s:=1) (k:=0) (fun _=>rfl) h5 rfl (by first | decide | simp))]; exact rp cB 1 0 1 h6),hc4,rfl,(by have hx:=XB cEnt (s:=5) (fun _=>rfl) v1; simp only [Qg] at hx ⊢; rw [hx]; simp),h7,rfl,q32_5,trivial⟩ ?_
           have h:=(h (g1+1) g2)
           simp only [f6S1,List.length_set] at h
           rw [(show Qg v1++[.int .i64 p.day,.int .i64 4,.int .i64 (i:Int),.int .i64 0,.int .i64 0]=Qg (v1++[(⟨p.day,4,(i:Int),0,0⟩:Ent)]) from (qc cEnt v1 [(⟨p.day,4,(i:Int),0,0⟩:Ent)]).symm)]; rw [(show (v1.length+1)=(v1++[(⟨p.day,4,(i:Int),0,0⟩:Ent)]).length from by simp)]; rw [(show Qw (rowB v2) (0+(Int.toNat (i:Int))*1) [.bool ((QH we.kit we.log).2.2 == 0)]=rowB (v2.set i ((QH we.kit we.log).2.2 == 0)) from QJ cB (s:=1) (k:=0) (fun _=>rfl) h5 rfl (by first | decide | simp))]
           exact h
         · have h:=h.2 hc4
           obtain ⟨q28_5,h⟩:=h
           refine p6_1_3 works p v1 v2 i g1 g2 we eb eb1 hE ⟨hc0,(Qn h1),(rp cWrk 4 0 4 h1),(by decide),(u25 (yb we.kit h2)),hc1,hc2,rfl,rfl,rfl,h3,(by exact qH cStp (fun _=>rfl) we.log),(by exact XB cStp (fun _=>rfl) we.log),(by exact Vy cStp (fun _=>rfl) we.log),(by rw [(show AV.rsl (Qv we.log) 0 (0+we.log.length)=AV.rsl (Qv we.log) 0 we.log.length from by rw [show (0+we.log.length)=we.log.length from by simp])]; exact (u26 (yX we.kit we.log h4))),hc3,(Qn h5),rfl,(rf cB 1 0 1 h5),rfl,(by have hx:=Qn h6; simpa using hx),rfl,rfl,(by rw [(show Qw (rowB v2) (0+(Int.toNat (i:Int))*1) [.bool ((QH we.kit we.log).2.2 == 0)]=rowB (v2.set i ((QH we.kit we.log).2.2 == 0)) from QJ cB (s:=1) (k:=0) (fun _=>rfl) h5 rfl (by first | decide | simp))]; exact rp cB 1 0 1 h6),hc4,q28_5,trivial⟩ ?_
           have h:=(h g1 g2)
           simp only [f6S1,List.length_set] at h
           rw [(show Qw (rowB v2) (0+(Int.toNat (i:Int))*1) [.bool ((QH we.kit we.log).2.2 == 0)]=rowB (v2.set i ((QH we.kit we.log).2.2 == 0)) from QJ cB (s:=1) (k:=0) (fun _=>rfl) h5 rfl (by first | decide | simp))]
           exact h
       · have h:=h.2 hc3
         obtain ⟨eb,h5,h⟩:=h
         obtain ⟨eb1,h6,h⟩:=h
         rcases bft eb1 with hc4 | hc4
         · have h:=h.1 hc4
           obtain ⟨h7,h⟩:=h
           obtain ⟨q32_5,h⟩:=h
           refine p6_1_4 works p v1 v2 i g1 g2 we eb eb1 hE ⟨hc0,(Qn h1),(rp cWrk 4 0 4 h1),(by decide),(u25 (yb we.kit h2)),hc1,hc2,rfl,rfl,rfl,h3,(by exact qH cStp (fun _=>rfl) we.log),(by exact XB cStp (fun _=>rfl) we.log),(by exact Vy cStp (fun _=>rfl) we.log),(by rw [(show AV.rsl (Qv we.log) 0 (0+we.log.length)=AV.rsl (Qv we.log) 0 we.log.length from by rw [show (0+we.log.length)=we.log.length from by simp])]; exact (u26 (yX we.kit we.log h4))),hc3,(Qn h5),rfl,(rf cB 1 0 1 h5),rfl,(by have hx:=Qn h6; simpa using hx),rfl,rfl,(by rw [(show Qw (rowB v2) (0+(Int.toNat (i:Int))*1) [.bool false]=rowB (v2.set i false) from QJ cB (s:=1) (k:=0) (fun _=>rfl) h5 rfl (by first | decide | simp))]; exact rp cB 1 0 1 h6),hc4,rfl,(by have hx:=XB cEnt (s:=5) (fun _=>rfl) v1; simp only [Qg] at hx ⊢; rw [hx]; simp),h7,rfl,q32_5,trivial⟩ ?_
           have h:=(h (g1+1) g2)
           simp only [f6S1,List.length_set] at h
           rw [(show Qg v1++[.int .i64 p.day,.int .i64 4,.int .i64 (i:Int),.int .i64 0,.int .i64 0]=Qg (v1++[(⟨p.day,4,(i:Int),0,0⟩:Ent)]) from (qc cEnt v1 [(⟨p.day,4,(i:Int),0,0⟩:Ent)]).symm)]; rw [(show (v1.length+1)=(v1++[(⟨p.day,4,(i:Int),0,0⟩:Ent)]).length from by simp)]; rw [(show Qw (rowB v2) (0+(Int.toNat (i:Int))*1) [.bool false]=rowB (v2.set i false) from QJ cB (s:=1) (k:=0) (fun _=>rfl) h5 rfl (by first | decide | simp))]
           exact h
         · have h:=h.2 hc4
           obtain ⟨q28_5,h⟩:=h
           refine p6_1_5 works p v1 v2 i g1 g2 we eb eb1 hE ⟨hc0,(Qn h1),(rp cWrk 4 0 4 h1),(by decide),(u25 (yb we.kit h2)),hc1,hc2,rfl,rfl,rfl,h3,(by exact qH cStp (fun _=>rfl) we.log),(by exact XB cStp (fun _=>rfl) we.log),(by exact Vy cStp (fun _=>rfl) we.log),(by rw [(show AV.rsl (Qv we.log) 0 (0+we.log.length)=AV.rsl (Qv we.log) 0 we.log.length from by rw [show (0+we.log.length)=we.log.length from by simp])]; exact (u26 (yX we.kit we.log h4))),hc3,(Qn h5),rfl,(rf cB 1 0 1 h5),rfl,(by have hx:=Qn h6; simpa using hx),rfl,rfl,(by rw [(show Qw (rowB v2) (0+(Int.toNat (i:Int))*1) [.bool false]=rowB (v2.set i false) from QJ cB (s:=1) (k:=0) (fun _=>rfl) h5 rfl (by first | decide | simp))]; exact rp cB 1 0 1 h6),hc4,q28_5,trivial⟩ ?_
           have h:=(h g1 g2)
           simp only [f6S1,List.length_set] at h
           rw [(show Qw (rowB v2) (0+(Int.toNat (i:Int))*1) [.bool false]=rowB (v2.set i false) from QJ cB (s:=1) (k:=0) (fun _=>rfl) h5 rfl (by first | decide | simp))]
           exact h
 · have h:=h.2 (odf hc0)
   obtain ⟨h1,h⟩:=h
   rcases bft ((QP p.k v1 p.day).2 != 0) with hc1 | hc1
   · have h:=h.1 (bneT hc1)
     exact p6_1_6 works p v1 v2 i g1 g2 hE ⟨hc0,(VM (fv':=.clos 27 [] []) (args':=[.agg [.rsl (Ql p.k.rules) 0 p.k.rules.length,.rsl (rowI p.k.ranks) 0 p.k.ranks.length,.rsl (rowI p.k.insured) 0 p.k.insured.length],.rsl (Qg v1) 0 v1.length,.int .i64 p.day]) (o1:=[]) (o2:=[g1=g1]) (by kernel_rfl) trivial (by kernel_rfl) ⟨rfl,trivial⟩ (u27 (Qad p.k v1 p.day h1))),hc1,(u13 (VW )),trivial⟩ (AvLe.of_eq (by rw [h]; try rfl))
   · have h:=h.2 (bneF hc1)
     exact p6_1_7 works p v1 v2 i g1 g2 hE ⟨hc0,(VM (fv':=.clos 27 [] []) (args':=[.agg [.rsl (Ql p.k.rules) 0 p.k.rules.length,.rsl (rowI p.k.ranks) 0 p.k.ranks.length,.rsl (rowI p.k.insured) 0 p.k.insured.length],.rsl (Qg v1) 0 v1.length,.int .i64 p.day]) (o1:=[]) (o2:=[g1=g1]) (by kernel_rfl) trivial (by kernel_rfl) ⟨rfl,trivial⟩ (u27 (Qad p.k v1 p.day h1))),hc1,trivial⟩ (h g2 (g1+1))
theorem p6_2_0 (works:(List Wrk)) (p:Ppr) (released:(List Int)) (v2:List Bool) (i:Nat) (g2:Nat) (g1:Nat) (e:Int) {E:Env} {res:AV} (hE:Qe Try.prog 6 res E) (ho:AllP [(decide ((i:Int)<(released.length:Int)))=true,0≤(i:Int)∧(i:Int)<(released.length:Int),((rowI released).drop (0+(Int.toNat (i:Int))*1)).take 1=[.int .i64 e],(decide (e<0))=true,true=true,true=true])
 (hr:AvLe (.bool false) res):G Try.prog E (f6K2 Try.prog) (f6S2 works p released v2 i g2 g1) :=
 Qb (n:=400) (evs:=[.b true,.ld (.int .i64 e),.b true,.b true,.b true]) (obs:=_) hE Try.func6 Qf (by kernel_rfl) ho hr
theorem p6_2_1 (works:(List Wrk)) (p:Ppr) (released:(List Int)) (v2:List Bool) (i:Nat) (g2:Nat) (g1:Nat) (e:Int) {E:Env} {res:AV} (hE:Qe Try.prog 6 res E) (ho:AllP [(decide ((i:Int)<(released.length:Int)))=true,0≤(i:Int)∧(i:Int)<(released.length:Int),((rowI released).drop (0+(Int.toNat (i:Int))*1)).take 1=[.int .i64 e],(decide (e<0))=false,(decide (e≥(works.length:Int)))=true,true=true])
 (hr:AvLe (.bool false) res):G Try.prog E (f6K2 Try.prog) (f6S2 works p released v2 i g2 g1) :=
 Qb (n:=400) (evs:=[.b true,.ld (.int .i64 e),.b false,.b true,.b true]) (obs:=_) hE Try.func6 Qf (by kernel_rfl) ho hr
theorem p6_2_2 (works:(List Wrk)) (p:Ppr) (released:(List Int)) (v2:List Bool) (i:Nat) (g2:Nat) (g1:Nat) (e:Int) (eb:Bool) {E:Env} {res:AV} (hE:Qe Try.prog 6 res E) (ho:AllP [(decide ((i:Int)<(released.length:Int)))=true,0≤(i:Int)∧(i:Int)<(released.length:Int),((rowI released).drop (0+(Int.toNat (i:Int))*1)).take 1=[.int .i64 e],(decide (e<0))=false,(decide (e≥(works.length:Int)))=false,0≤e∧e<(v2.length:Int),g2=g2,g2=g2,((rowB v2).drop (0+(Int.toNat e)*1)).take 1=[.bool eb],(!eb)=true])
 (hr:AvLe (.bool false) res):G Try.prog E (f6K2 Try.prog) (f6S2 works p released v2 i g2 g1) :=
 Qb (n:=400) (evs:=[.b true,.ld (.int .i64 e),.b false,.b false,.ld (.bool eb),.b true]) (obs:=_) hE Try.func6 Qf (by kernel_rfl) ho hr
theorem p6_2_3 (works:(List Wrk)) (p:Ppr) (released:(List Int)) (v2:List Bool) (i:Nat) (g2:Nat) (g1:Nat) (e:Int) (eb:Bool) (we:Wrk) {E:Env} {rv:AV} (hE:Qe Try.prog 6 rv E) (ho:AllP [(decide ((i:Int)<(released.length:Int)))=true,0≤(i:Int)∧(i:Int)<(released.length:Int),((rowI released).drop (0+(Int.toNat (i:Int))*1)).take 1=[.int .i64 e],(decide (e<0))=false,(decide (e≥(works.length:Int)))=false,0≤e∧e<(v2.length:Int),g2=g2,g2=g2,((rowB v2).drop (0+(Int.toNat e)*1)).take 1=[.bool eb],(!eb)=false,0≤e∧e<(works.length:Int),((QS works).drop (((0+(Int.toNat e)*4)+0)+0)).take 1=(z6_9 we),0≤(we.kit.parts.length:Int)∧(we.kit.parts.length:Int)≤(we.kit.parts.length:Int)∧(we.kit.parts.length:Int)≤2147483648,0≤e∧e<(works.length:Int),((QS works).drop (((0+(Int.toNat e)*4)+0)+0)).take 1=(z6_9 we),0≤(we.kit.parts.length:Int)∧(we.kit.parts.length:Int)≤(we.kit.parts.length:Int)∧(we.kit.parts.length:Int)≤2147483648])
 (hg:G Try.prog E (f6K3 Try.prog) ⟨([.rsl (QS works) 0 works.length]++jj 7 ([.sl 2 g2 0 v2.length 1]++jj 5 ([.rsl (rowI released) 0 released.length,J,.int .i64 (i:Int),.int .i64 e,.sl 3 0 0 (Int.toNat (we.kit.parts.length:Int)) 1,.sl 4 0 0 (Int.toNat (we.kit.parts.length:Int)) 1,.int .i64 0]++Js 245))),[⟨true,0,1,true,(z6_1 p),false⟩,⟨false,g1,5,true,[],false⟩,⟨true,g2,1,true,(rowB v2),true⟩,⟨true,0,1,true,((List.replicate (Int.toNat (we.kit.parts.length:Int)) ([.int .i64 0]:List AV)).flatten),true⟩,⟨true,0,1,true,((List.replicate (Int.toNat (we.kit.parts.length:Int)) ([.int .i64 0]:List AV)).flatten),true⟩]⟩):G Try.prog E (f6K2 Try.prog) (f6S2 works p released v2 i g2 g1) :=
 Qh (n:=400) (ds:=[]) (cs:=[]) (live:=[0,8,14,16,17,18,19,20]) (m:=5) (evs:=[.b true,.ld (.int .i64 e),.b false,.b false,.ld (.bool eb),.b false,.ld (z6_10 we),.ld (z6_10 we),.stop]) (obs:=_) hE.2.1 (hE.nogh _) Qf (by kernel_rfl) ho hg
theorem p6_2_4 (works:(List Wrk)) (p:Ppr) (released:(List Int)) (v2:List Bool) (i:Nat) (g2:Nat) (g1:Nat) {E:Env} {res:AV} (hE:Qe Try.prog 6 res E) (ho:AllP [(decide ((i:Int)<(released.length:Int)))=false,Qd Try.prog (.clos 13 [] []) [] (.bool true)])
 (hr:AvLe (.bool true) res):G Try.prog E (f6K2 Try.prog) (f6S2 works p released v2 i g2 g1) :=
 Qb (n:=400) (evs:=[.b false,.v (.bool true)]) (obs:=_) hE Try.func6 Qf (by kernel_rfl) ho hr
theorem f6W2 (works:(List Wrk)) (p:Ppr) (released:(List Int)) (v2:List Bool) (i:Nat) {E:Env} {rv:Bool} (hE:Qe Try.prog 6 (.bool rv) E)
 (h:(((i:Int)<(released.length:Int)→(∃ e:Int,released[i]?=some e∧((e<0→rv=false)∧(¬ (e<0)→((e≥(works.length:Int)→rv=false)∧(¬ (e≥(works.length:Int))→(0≤e∧(∃ eb:Bool,v2[Int.toNat e]?=some eb∧((eb=false→rv=false)∧(eb=true→(0≤e∧(∃ we:Wrk,works[Int.toNat e]?=some we∧(we.kit.parts.length≤2147483648∧(we.kit.parts.length≤2147483648∧f6G3 E works p released e v2 (List.replicate we.kit.parts.length (0:Int)) (List.replicate we.kit.parts.length (0:Int)) 0 i))))))))))))))∧(¬ ((i:Int)<(released.length:Int))→rv=true))):f6G2 E works p released v2 i:=by
 intro g2 g1
 rcases bft (decide ((i:Int)<(released.length:Int))) with hc0 | hc0
 · have h:=h.1 (odt hc0)
   obtain ⟨e,h1,h⟩:=h
   rcases bft (decide (e<0)) with hc1 | hc1
   · have h:=h.1 (odt hc1)
     exact p6_2_0 works p released v2 i g2 g1 e hE ⟨hc0,(Qn h1),(rp cI 1 0 1 h1),hc1,rfl,rfl,trivial⟩ (AvLe.of_eq (by rw [h]; try rfl))
   · have h:=h.2 (odf hc1)
     rcases bft (decide (e≥(works.length:Int))) with hc2 | hc2
     · have h:=h.1 (odt hc2)
       exact p6_2_1 works p released v2 i g2 g1 e hE ⟨hc0,(Qn h1),(rp cI 1 0 1 h1),hc1,hc2,rfl,trivial⟩ (AvLe.of_eq (by rw [h]; try rfl))
     · have h:=h.2 (odf hc2)
       obtain ⟨h3,h⟩:=h
       obtain ⟨eb,h2,h⟩:=h
       rcases bft (!eb) with hc3 | hc3
       · have h:=h.1 (bnT hc3)
         exact p6_2_2 works p released v2 i g2 g1 e eb hE ⟨hc0,(Qn h1),(rp cI 1 0 1 h1),hc1,hc2,(Qj h3 h2),rfl,rfl,(rp cB 1 0 1 h2),hc3,trivial⟩ (AvLe.of_eq (by rw [h]; try rfl))
       · have h:=h.2 (bnF hc3)
         obtain ⟨h5,h⟩:=h
         obtain ⟨we,h4,h⟩:=h
         obtain ⟨h6,h⟩:=h
         obtain ⟨h7,h⟩:=h
         refine p6_2_3 works p released v2 i g2 g1 e eb we hE ⟨hc0,(Qn h1),(rp cI 1 0 1 h1),hc1,hc2,(Qj h3 h2),rfl,rfl,(rp cB 1 0 1 h2),hc3,(Qj h5 h4),(rp cWrk 4 0 1 h4),⟨by omega,by omega,by have:=h6; omega⟩,(Qj h5 h4),(rp cWrk 4 0 1 h4),⟨by omega,by omega,by have:=h7; omega⟩,trivial⟩ ?_
         have h:=(h g2 0 0 g1)
         simp only [f6G3,f6S3,List.length_set,List.length_replicate] at h
         rw [(show (List.replicate (Int.toNat (we.kit.parts.length:Int)) ([.int .i64 0]:List AV)).flatten=rowI (List.replicate we.kit.parts.length (0:Int)) from VI cI _ _)]
         exact h
 · have h:=h.2 (odf hc0)
   exact p6_2_4 works p released v2 i g2 g1 hE ⟨hc0,(u13 (VW )),trivial⟩ (AvLe.of_eq (by rw [h]; try rfl))
theorem p6_3_0 (works:(List Wrk)) (p:Ppr) (released:(List Int)) (n:Int) (v2:List Bool) (v3:List Int) (v4:List Int) (k:Nat) (i:Nat) (g2:Nat) (g3:Nat) (g4:Nat) (g1:Nat) (we:Wrk) (se:Stp) {E:Env} {res:AV} (hE:Qe Try.prog 6 res E) (ho:AllP [0≤n∧n<(works.length:Int),((QS works).drop ((0+(Int.toNat n)*4)+3)).take 1=[.rsl (Qv we.log) 0 we.log.length],(decide ((k:Int)<(we.log.length:Int)))=true,0≤n∧n<(works.length:Int),((QS works).drop ((0+(Int.toNat n)*4)+3)).take 1=[.rsl (Qv we.log) 0 we.log.length],0≤(k:Int)∧(k:Int)<(we.log.length:Int),((Qv we.log).drop (0+(Int.toNat (k:Int))*2)).take 2=[.int .i64 se.kind,.int .i64 se.part],2≤2,(decide (se.part<0))=true,true=true])
 (hr:AvLe (.bool false) res):G Try.prog E (f6K3 Try.prog) (f6S3 works p released n v2 v3 v4 k i g2 g3 g4 g1) :=
 Qb (n:=400) (evs:=[.ld (.rsl (Qv we.log) 0 we.log.length),.b true,.ld (.rsl (Qv we.log) 0 we.log.length),.ld (.agg [.int .i64 se.kind,.int .i64 se.part]),.b true,.b true]) (obs:=_) hE Try.func6 Qf (by kernel_rfl) ho hr
theorem p6_3_1 (works:(List Wrk)) (p:Ppr) (released:(List Int)) (n:Int) (v2:List Bool) (v3:List Int) (v4:List Int) (k:Nat) (i:Nat) (g2:Nat) (g3:Nat) (g4:Nat) (g1:Nat) (we:Wrk) (se:Stp) {E:Env} {res:AV} (hE:Qe Try.prog 6 res E) (ho:AllP [0≤n∧n<(works.length:Int),((QS works).drop ((0+(Int.toNat n)*4)+3)).take 1=[.rsl (Qv we.log) 0 we.log.length],(decide ((k:Int)<(we.log.length:Int)))=true,0≤n∧n<(works.length:Int),((QS works).drop ((0+(Int.toNat n)*4)+3)).take 1=[.rsl (Qv we.log) 0 we.log.length],0≤(k:Int)∧(k:Int)<(we.log.length:Int),((Qv we.log).drop (0+(Int.toNat (k:Int))*2)).take 2=[.int .i64 se.kind,.int .i64 se.part],2≤2,(decide (se.part<0))=false,g3=g3,(decide (se.part≥(v3.length:Int)))=true])
 (hr:AvLe (.bool false) res):G Try.prog E (f6K3 Try.prog) (f6S3 works p released n v2 v3 v4 k i g2 g3 g4 g1) :=
 Qb (n:=400) (evs:=[.ld (.rsl (Qv we.log) 0 we.log.length),.b true,.ld (.rsl (Qv we.log) 0 we.log.length),.ld (.agg [.int .i64 se.kind,.int .i64 se.part]),.b false,.b true]) (obs:=_) hE Try.func6 Qf (by kernel_rfl) ho hr
theorem p6_3_2 (works:(List Wrk)) (p:Ppr) (released:(List Int)) (n:Int) (v2:List Bool) (v3:List Int) (v4:List Int) (k:Nat) (i:Nat) (g2:Nat) (g3:Nat) (g4:Nat) (g1:Nat) (we:Wrk) (se:Stp) (e:Int) {E:Env} {rv:AV} (hE:Qe Try.prog 6 rv E) (ho:AllP [0≤n∧n<(works.length:Int),((QS works).drop ((0+(Int.toNat n)*4)+3)).take 1=[.rsl (Qv we.log) 0 we.log.length],(decide ((k:Int)<(we.log.length:Int)))=true,0≤n∧n<(works.length:Int),((QS works).drop ((0+(Int.toNat n)*4)+3)).take 1=[.rsl (Qv we.log) 0 we.log.length],0≤(k:Int)∧(k:Int)<(we.log.length:Int),((Qv we.log).drop (0+(Int.toNat (k:Int))*2)).take 2=[.int .i64 se.kind,.int .i64 se.part],2≤2,(decide (se.part<0))=false,g3=g3,(decide (se.part≥(v3.length:Int)))=false,(se.kind == 1)=true,0≤se.part∧se.part<(v3.length:Int),g3=g3,g3=g3,((rowI v3).drop (0+(Int.toNat se.part)*1)).take 1=[.int .i64 e],InR .i64 (e+1),0≤se.part∧se.part<(v3.length:Int),g3=g3,((0+(Int.toNat se.part)*1)+1)≤(rowI v3).length,g3=g3,InR .i64 ((k:Int)+1)])
 (hg:G Try.prog E (f6K3 Try.prog) ⟨([.rsl (QS works) 0 works.length]++jj 7 ([.sl 2 g2 0 v2.length 1]++jj 5 ([.rsl (rowI released) 0 released.length,J,.int .i64 (i:Int),.int .i64 n,.sl 3 g3 0 v3.length 1,.sl 4 g4 0 v4.length 1,.int .i64 ((k:Int)+1)]++Js 245))),[⟨true,0,1,true,(z6_1 p),false⟩,⟨false,g1,5,true,[],false⟩,⟨true,g2,1,true,(rowB v2),true⟩,⟨true,g3,1,true,(Qw (rowI v3) (0+(Int.toNat se.part)*1) [.int .i64 (e+1)]),true⟩,⟨true,g4,1,true,(rowI v4),true⟩]⟩):G Try.prog E (f6K3 Try.prog) (f6S3 works p released n v2 v3 v4 k i g2 g3 g4 g1) :=
 Qh (n:=400) (ds:=[]) (cs:=[]) (live:=[0,8,14,16,17,18,19,20]) (m:=5) (evs:=[.ld (.rsl (Qv we.log) 0 we.log.length),.b true,.ld (.rsl (Qv we.log) 0 we.log.length),.ld (.agg [.int .i64 se.kind,.int .i64 se.part]),.b false,.b false,.b true,.auto,.ld (.int .i64 e),.stop]) (obs:=_) hE.2.1 (hE.nogh _) Qf (by kernel_rfl) ho hg
theorem p6_3_3 (works:(List Wrk)) (p:Ppr) (released:(List Int)) (n:Int) (v2:List Bool) (v3:List Int) (v4:List Int) (k:Nat) (i:Nat) (g2:Nat) (g3:Nat) (g4:Nat) (g1:Nat) (we:Wrk) (se:Stp) (e:Int) {E:Env} {rv:AV} (hE:Qe Try.prog 6 rv E) (ho:AllP [0≤n∧n<(works.length:Int),((QS works).drop ((0+(Int.toNat n)*4)+3)).take 1=[.rsl (Qv we.log) 0 we.log.length],(decide ((k:Int)<(we.log.length:Int)))=true,0≤n∧n<(works.length:Int),((QS works).drop ((0+(Int.toNat n)*4)+3)).take 1=[.rsl (Qv we.log) 0 we.log.length],0≤(k:Int)∧(k:Int)<(we.log.length:Int),((Qv we.log).drop (0+(Int.toNat (k:Int))*2)).take 2=[.int .i64 se.kind,.int .i64 se.part],2≤2,(decide (se.part<0))=false,g3=g3,(decide (se.part≥(v3.length:Int)))=false,(se.kind == 1)=false,0≤se.part∧se.part<(v4.length:Int),g4=g4,g4=g4,((rowI v4).drop (0+(Int.toNat se.part)*1)).take 1=[.int .i64 e],InR .i64 (e+1),0≤se.part∧se.part<(v4.length:Int),g4=g4,((0+(Int.toNat se.part)*1)+1)≤(rowI v4).length,g4=g4,InR .i64 ((k:Int)+1)])
 (hg:G Try.prog E (f6K3 Try.prog) ⟨([.rsl (QS works) 0 works.length]++jj 7 ([.sl 2 g2 0 v2.length 1]++jj 5 ([.rsl (rowI released) 0 released.length,J,.int .i64 (i:Int),.int .i64 n,.sl 3 g3 0 v3.length 1,.sl 4 g4 0 v4.length 1,.int .i64 ((k:Int)+1)]++Js 245))),[⟨true,0,1,true,(z6_1 p),false⟩,⟨false,g1,5,true,[],false⟩,⟨true,g2,1,true,(rowB v2),true⟩,⟨true,g3,1,true,(rowI v3),true⟩,⟨true,g4,1,true,(Qw (rowI v4) (0+(Int.toNat se.part)*1) [.int .i64 (e+1)]),true⟩]⟩):G Try.prog E (f6K3 Try.prog) (f6S3 works p released n v2 v3 v4 k i g2 g3 g4 g1) :=
 Qh (n:=400) (ds:=[]) (cs:=[]) (live:=[0,8,14,16,17,18,19,20]) (m:=5) (evs:=[.ld (.rsl (Qv we.log) 0 we.log.length),.b true,.ld (.rsl (Qv we.log) 0 we.log.length),.ld (.agg [.int .i64 se.kind,.int .i64 se.part]),.b false,.b false,.b false,.auto,.ld (.int .i64 e),.stop]) (obs:=_) hE.2.1 (hE.nogh _) Qf (by kernel_rfl) ho hg
theorem p6_3_4 (works:(List Wrk)) (p:Ppr) (released:(List Int)) (n:Int) (v2:List Bool) (v3:List Int) (v4:List Int) (k:Nat) (i:Nat) (g2:Nat) (g3:Nat) (g4:Nat) (g1:Nat) (we:Wrk) {E:Env} {rv:AV} (hE:Qe Try.prog 6 rv E) (ho:AllP [0≤n∧n<(works.length:Int),((QS works).drop ((0+(Int.toNat n)*4)+3)).take 1=[.rsl (Qv we.log) 0 we.log.length],(decide ((k:Int)<(we.log.length:Int)))=false])
 (hg:G Try.prog E (f6K4 Try.prog) ⟨([.rsl (QS works) 0 works.length]++jj 7 ([.sl 2 g2 0 v2.length 1]++jj 5 ([.rsl (rowI released) 0 released.length,J,.int .i64 (i:Int),.int .i64 n,.sl 3 g3 0 v3.length 1,.sl 4 g4 0 v4.length 1,J,J,.int .i64 0]++Js 243))),[⟨true,0,1,true,(z6_1 p),false⟩,⟨false,g1,5,true,[],false⟩,⟨true,g2,1,true,(rowB v2),true⟩,⟨true,g3,1,true,(rowI v3),true⟩,⟨true,g4,1,true,(rowI v4),true⟩]⟩):G Try.prog E (f6K3 Try.prog) (f6S3 works p released n v2 v3 v4 k i g2 g3 g4 g1) :=
 Qh (n:=400) (ds:=[]) (cs:=[]) (live:=[0,8,14,16,17,18,19,22]) (m:=5) (evs:=[.ld (.rsl (Qv we.log) 0 we.log.length),.b false,.stop]) (obs:=_) hE.2.1 (hE.nogh _) Qf (by kernel_rfl) ho hg
theorem f6W3 (works:(List Wrk)) (p:Ppr) (released:(List Int)) (n:Int) (v2:List Bool) (v3:List Int) (v4:List Int) (k:Nat) (i:Nat) {E:Env} {rv:Bool} (hE:Qe Try.prog 6 (.bool rv) E)
 (h:(0≤n∧(∃ we:Wrk,works[Int.toNat n]?=some we∧(((k:Int)<(we.log.length:Int)→(∃ se:Stp,we.log[k]?=some se∧((se.part<0→rv=false)∧(¬ (se.part<0)→((se.part≥(v3.length:Int)→rv=false)∧(¬ (se.part≥(v3.length:Int))→((se.kind=1→(0≤se.part∧(∃ e:Int,v3[Int.toNat se.part]?=some e∧((I6 (e+1))∧((I6 ((k:Int)+1))∧f6G3 E works p released n v2 (v3.set (Int.toNat se.part) (e+1)) v4 (k+1) i)))))∧(¬ (se.kind=1)→(0≤se.part∧(∃ e:Int,v4[Int.toNat se.part]?=some e∧((I6 (e+1))∧((I6 ((k:Int)+1))∧f6G3 E works p released n v2 v3 (v4.set (Int.toNat se.part) (e+1)) (k+1) i))))))))))))∧(¬ ((k:Int)<(we.log.length:Int))→f6G4 E works p released n v2 v3 v4 0 i))))):f6G3 E works p released n v2 v3 v4 k i:=by
 intro g2 g3 g4 g1
 obtain ⟨h2,h⟩:=h
 obtain ⟨we,h1,h⟩:=h
 rcases bft (decide ((k:Int)<(we.log.length:Int))) with hc0 | hc0
 · have h:=h.1 (odt hc0)
   obtain ⟨se,h3,h⟩:=h
   rcases bft (decide (se.part<0)) with hc1 | hc1
   · have h:=h.1 (odt hc1)
     exact p6_3_0 works p released n v2 v3 v4 k i g2 g3 g4 g1 we se hE ⟨(Qj h2 h1),(rp cWrk 4 3 1 h1),hc0,(Qj h2 h1),(rp cWrk 4 3 1 h1),(Qn h3),(rp cStp 2 0 2 h3),(by decide),hc1,rfl,trivial⟩ (AvLe.of_eq (by rw [h]; try rfl))
   · have h:=h.2 (odf hc1)
     rcases bft (decide (se.part≥(v3.length:Int))) with hc2 | hc2
     · have h:=h.1 (odt hc2)
       exact p6_3_1 works p released n v2 v3 v4 k i g2 g3 g4 g1 we se hE ⟨(Qj h2 h1),(rp cWrk 4 3 1 h1),hc0,(Qj h2 h1),(rp cWrk 4 3 1 h1),(Qn h3),(rp cStp 2 0 2 h3),(by decide),hc1,rfl,hc2,trivial⟩ (AvLe.of_eq (by rw [h]; try rfl))
     · have h:=h.2 (odf hc2)
       rcases bft (se.kind == 1) with hc3 | hc3
       · have h:=h.1 (eq_of_beq hc3)
         obtain ⟨h5,h⟩:=h
         obtain ⟨e,h4,h⟩:=h
         obtain ⟨q19_4,h⟩:=h
         obtain ⟨q24_4,h⟩:=h
         refine p6_3_2 works p released n v2 v3 v4 k i g2 g3 g4 g1 we se e hE ⟨(Qj h2 h1),(rp cWrk 4 3 1 h1),hc0,(Qj h2 h1),(rp cWrk 4 3 1 h1),(Qn h3),(rp cStp 2 0 2 h3),(by decide),hc1,rfl,hc2,hc3,(Qj h5 h4),rfl,rfl,(rp cI 1 0 1 h4),q19_4,(Qj h5 h4),rfl,(rf cI 1 0 1 h4),rfl,q24_4,trivial⟩ ?_
         have h:=(h g2 g3 g4 g1)
         simp only [f6S3,List.length_set] at h
         rw [(show Qw (rowI v3) (0+(Int.toNat se.part)*1) [.int .i64 (e+1)]=rowI (v3.set (Int.toNat se.part) (e+1)) from QJ cI (s:=1) (k:=0) (fun _=>rfl) h4 rfl (by first | decide | simp))]
         exact h
       · have h:=h.2 (ne_of_beq_false hc3)
         obtain ⟨h5,h⟩:=h
         obtain ⟨e,h4,h⟩:=h
         obtain ⟨q19_4,h⟩:=h
         obtain ⟨q24_4,h⟩:=h
         refine p6_3_3 works p released n v2 v3 v4 k i g2 g3 g4 g1 we se e hE ⟨(Qj h2 h1),(rp cWrk 4 3 1 h1),hc0,(Qj h2 h1),(rp cWrk 4 3 1 h1),(Qn h3),(rp cStp 2 0 2 h3),(by decide),hc1,rfl,hc2,hc3,(Qj h5 h4),rfl,rfl,(rp cI 1 0 1 h4),q19_4,(Qj h5 h4),rfl,(rf cI 1 0 1 h4),rfl,q24_4,trivial⟩ ?_
         have h:=(h g2 g3 g4 g1)
         simp only [f6S3,List.length_set] at h
         rw [(show Qw (rowI v4) (0+(Int.toNat se.part)*1) [.int .i64 (e+1)]=rowI (v4.set (Int.toNat se.part) (e+1)) from QJ cI (s:=1) (k:=0) (fun _=>rfl) h4 rfl (by first | decide | simp))]
         exact h
 · have h:=h.2 (odf hc0)
   exact p6_3_4 works p released n v2 v3 v4 k i g2 g3 g4 g1 we hE ⟨(Qj h2 h1),(rp cWrk 4 3 1 h1),hc0,trivial⟩ (h g2 g3 g4 g1)
theorem p6_4_0 (works:(List Wrk)) (p:Ppr) (released:(List Int)) (n:Int) (v2:List Bool) (v3:List Int) (v4:List Int) (k:Nat) (i:Nat) (g2:Nat) (g3:Nat) (g4:Nat) (g1:Nat) (e:Int) {E:Env} {res:AV} (hE:Qe Try.prog 6 res E) (ho:AllP [g3=g3,(decide ((k:Int)<(v3.length:Int)))=true,0≤(k:Int)∧(k:Int)<(v3.length:Int),g3=g3,g3=g3,((rowI v3).drop (0+(Int.toNat (k:Int))*1)).take 1=[.int .i64 e],(e != 1)=true,true=true])
 (hr:AvLe (.bool false) res):G Try.prog E (f6K4 Try.prog) (f6S4 works p released n v2 v3 v4 k i g2 g3 g4 g1) :=
 Qb (n:=400) (evs:=[.b true,.ld (.int .i64 e),.b true,.b true]) (obs:=_) hE Try.func6 Qf (by kernel_rfl) ho hr
theorem p6_4_1 (works:(List Wrk)) (p:Ppr) (released:(List Int)) (n:Int) (v2:List Bool) (v3:List Int) (v4:List Int) (k:Nat) (i:Nat) (g2:Nat) (g3:Nat) (g4:Nat) (g1:Nat) (e:Int) (e1:Int) (we:Wrk) (be:BPart) {E:Env} {res:AV} (hE:Qe Try.prog 6 res E) (ho:AllP [g3=g3,(decide ((k:Int)<(v3.length:Int)))=true,0≤(k:Int)∧(k:Int)<(v3.length:Int),g3=g3,g3=g3,((rowI v3).drop (0+(Int.toNat (k:Int))*1)).take 1=[.int .i64 e],(e != 1)=false,0≤(k:Int)∧(k:Int)<(v4.length:Int),g4=g4,g4=g4,((rowI v4).drop (0+(Int.toNat (k:Int))*1)).take 1=[.int .i64 e1],0≤n∧n<(works.length:Int),((QS works).drop (((0+(Int.toNat n)*4)+0)+0)).take 1=(z6_9 we),0≤(k:Int)∧(k:Int)<(we.kit.parts.length:Int),((QF we.kit.parts).drop ((0+(Int.toNat (k:Int))*4)+2)).take 1=[.int .i64 be.pins],(e1 != be.pins)=true])
 (hr:AvLe (.bool false) res):G Try.prog E (f6K4 Try.prog) (f6S4 works p released n v2 v3 v4 k i g2 g3 g4 g1) :=
 Qb (n:=400) (evs:=[.b true,.ld (.int .i64 e),.b false,.ld (.int .i64 e1),.ld (z6_10 we),.ld (.int .i64 be.pins),.b true]) (obs:=_) hE Try.func6 Qf (by kernel_rfl) ho hr
theorem p6_4_2 (works:(List Wrk)) (p:Ppr) (released:(List Int)) (n:Int) (v2:List Bool) (v3:List Int) (v4:List Int) (k:Nat) (i:Nat) (g2:Nat) (g3:Nat) (g4:Nat) (g1:Nat) (e:Int) (e1:Int) (we:Wrk) (be:BPart) {E:Env} {rv:AV} (hE:Qe Try.prog 6 rv E) (ho:AllP [g3=g3,(decide ((k:Int)<(v3.length:Int)))=true,0≤(k:Int)∧(k:Int)<(v3.length:Int),g3=g3,g3=g3,((rowI v3).drop (0+(Int.toNat (k:Int))*1)).take 1=[.int .i64 e],(e != 1)=false,0≤(k:Int)∧(k:Int)<(v4.length:Int),g4=g4,g4=g4,((rowI v4).drop (0+(Int.toNat (k:Int))*1)).take 1=[.int .i64 e1],0≤n∧n<(works.length:Int),((QS works).drop (((0+(Int.toNat n)*4)+0)+0)).take 1=(z6_9 we),0≤(k:Int)∧(k:Int)<(we.kit.parts.length:Int),((QF we.kit.parts).drop ((0+(Int.toNat (k:Int))*4)+2)).take 1=[.int .i64 be.pins],(e1 != be.pins)=false,InR .i64 ((k:Int)+1)])
 (hg:G Try.prog E (f6K4 Try.prog) ⟨([.rsl (QS works) 0 works.length]++jj 7 ([.sl 2 g2 0 v2.length 1]++jj 5 ([.rsl (rowI released) 0 released.length,J,.int .i64 (i:Int),.int .i64 n,.sl 3 g3 0 v3.length 1,.sl 4 g4 0 v4.length 1,J,J,.int .i64 ((k:Int)+1)]++Js 243))),[⟨true,0,1,true,(z6_1 p),false⟩,⟨false,g1,5,true,[],false⟩,⟨true,g2,1,true,(rowB v2),true⟩,⟨true,g3,1,true,(rowI v3),true⟩,⟨true,g4,1,true,(rowI v4),true⟩]⟩):G Try.prog E (f6K4 Try.prog) (f6S4 works p released n v2 v3 v4 k i g2 g3 g4 g1) :=
 Qh (n:=400) (ds:=[]) (cs:=[]) (live:=[0,8,14,16,17,18,19,22]) (m:=5) (evs:=[.b true,.ld (.int .i64 e),.b false,.ld (.int .i64 e1),.ld (z6_10 we),.ld (.int .i64 be.pins),.b false,.stop]) (obs:=_) hE.2.1 (hE.nogh _) Qf (by kernel_rfl) ho hg
theorem p6_4_3 (works:(List Wrk)) (p:Ppr) (released:(List Int)) (n:Int) (v2:List Bool) (v3:List Int) (v4:List Int) (k:Nat) (i:Nat) (g2:Nat) (g3:Nat) (g4:Nat) (g1:Nat) {E:Env} {rv:AV} (hE:Qe Try.prog 6 rv E) (ho:AllP [g3=g3,(decide ((k:Int)<(v3.length:Int)))=false,InR .i64 ((i:Int)+1)])
 (hg:G Try.prog E (f6K2 Try.prog) ⟨([.rsl (QS works) 0 works.length]++jj 7 ([.sl 2 g2 0 v2.length 1]++jj 5 ([.rsl (rowI released) 0 released.length,J,.int .i64 ((i:Int)+1)]++Js 249))),[⟨true,0,1,true,(z6_1 p),false⟩,⟨false,g1,5,true,[],false⟩,⟨true,g2,1,true,(rowB v2),true⟩]⟩):G Try.prog E (f6K4 Try.prog) (f6S4 works p released n v2 v3 v4 k i g2 g3 g4 g1) :=
 Qh (n:=400) (ds:=[]) (cs:=[]) (live:=[0,8,14,16]) (m:=3) (evs:=[.b false,.stop]) (obs:=_) hE.2.1 (hE.nogh _) Qf (by kernel_rfl) ho hg
theorem f6W4 (works:(List Wrk)) (p:Ppr) (released:(List Int)) (n:Int) (v2:List Bool) (v3:List Int) (v4:List Int) (k:Nat) (i:Nat) {E:Env} {rv:Bool} (hE:Qe Try.prog 6 (.bool rv) E)
 (h:(((k:Int)<(v3.length:Int)→(∃ e:Int,v3[k]?=some e∧((¬ (e=1)→rv=false)∧(e=1→(∃ e1:Int,v4[k]?=some e1∧(0≤n∧(∃ we:Wrk,works[Int.toNat n]?=some we∧(∃ be:BPart,we.kit.parts[k]?=some be∧((¬ (e1=be.pins)→rv=false)∧(e1=be.pins→((I6 ((k:Int)+1))∧f6G4 E works p released n v2 v3 v4 (k+1) i)))))))))))∧(¬ ((k:Int)<(v3.length:Int))→((I6 ((i:Int)+1))∧f6G2 E works p released v2 (i+1))))):f6G4 E works p released n v2 v3 v4 k i:=by
 intro g2 g3 g4 g1
 rcases bft (decide ((k:Int)<(v3.length:Int))) with hc0 | hc0
 · have h:=h.1 (odt hc0)
   obtain ⟨e,h1,h⟩:=h
   rcases bft (e != 1) with hc1 | hc1
   · have h:=h.1 (bneT hc1)
     exact p6_4_0 works p released n v2 v3 v4 k i g2 g3 g4 g1 e hE ⟨rfl,hc0,(Qn h1),rfl,rfl,(rp cI 1 0 1 h1),hc1,rfl,trivial⟩ (AvLe.of_eq (by rw [h]; try rfl))
   · have h:=h.2 (bneF hc1)
     obtain ⟨e1,h2,h⟩:=h
     obtain ⟨h4,h⟩:=h
     obtain ⟨we,h3,h⟩:=h
     obtain ⟨be,h5,h⟩:=h
     rcases bft (e1 != be.pins) with hc2 | hc2
     · have h:=h.1 (bneT hc2)
       exact p6_4_1 works p released n v2 v3 v4 k i g2 g3 g4 g1 e e1 we be hE ⟨rfl,hc0,(Qn h1),rfl,rfl,(rp cI 1 0 1 h1),hc1,(Qn h2),rfl,rfl,(rp cI 1 0 1 h2),(Qj h4 h3),(rp cWrk 4 0 1 h3),(Qn h5),(rp cBp 4 2 1 h5),hc2,trivial⟩ (AvLe.of_eq (by rw [h]; try rfl))
     · have h:=h.2 (bneF hc2)
       obtain ⟨q20_3,h⟩:=h
       exact p6_4_2 works p released n v2 v3 v4 k i g2 g3 g4 g1 e e1 we be hE ⟨rfl,hc0,(Qn h1),rfl,rfl,(rp cI 1 0 1 h1),hc1,(Qn h2),rfl,rfl,(rp cI 1 0 1 h2),(Qj h4 h3),(rp cWrk 4 0 1 h3),(Qn h5),(rp cBp 4 2 1 h5),hc2,q20_3,trivial⟩ (h g2 g3 g4 g1)
 · have h:=h.2 (odf hc0)
   obtain ⟨q2_1,h⟩:=h
   exact p6_4_3 works p released n v2 v3 v4 k i g2 g3 g4 g1 hE ⟨rfl,hc0,q2_1,trivial⟩ (h g2 g1)
theorem p6_5085_0 (works:(List Wrk)) (p:Ppr) (v1:List Ent) (g1:Nat) {E:Env} {rv:AV} (hE:Qe Try.prog 6 rv E) (ho:AllP [0≤(works.length:Int)∧(works.length:Int)≤(works.length:Int)∧(works.length:Int)≤2147483648])
 (hg:G Try.prog E (f6K1 Try.prog) ⟨([.rsl (QS works) 0 works.length,J,J,.ptr 0 0 0,J,.sl 1 g1 0 v1.length 5,J,J,.sl 2 0 0 (Int.toNat (works.length:Int)) 1,.int .i64 0]++Js 256),[⟨true,0,1,true,(z6_1 p),false⟩,⟨true,g1,5,true,(Qg v1),true⟩,⟨true,0,1,true,((List.replicate (Int.toNat (works.length:Int)) ([.bool false]:List AV)).flatten),true⟩]⟩):G Try.prog E (Wn Try.prog) (f6S5085 works p v1 g1) :=
 Qh (n:=400) (ds:=[]) (cs:=[]) (live:=[0,3,5,8,9]) (m:=3) (evs:=[.stop]) (obs:=_) hE.2.1 (hE.nogh _) Qf (by kernel_rfl) ho hg
theorem f6W5085 (works:(List Wrk)) (p:Ppr) (v1:List Ent) {E:Env} {rv:Bool} (hE:Qe Try.prog 6 (.bool rv) E)
 (h:(works.length≤2147483648∧f6G1 E works p v1 (List.replicate works.length (false:Bool)) 0)):QcK E works p v1:=by
 intro g1
 obtain ⟨h1,h⟩:=h
 refine p6_5085_0 works p v1 g1 hE ⟨⟨by omega,by omega,by have:=h1; omega⟩,trivial⟩ ?_
 have h:=(h g1 0)
 simp only [f6G1,f6S1,List.length_set,List.length_replicate] at h
 rw [(show (List.replicate (Int.toNat (works.length:Int)) ([.bool false]:List AV)).flatten=rowB (List.replicate works.length (false:Bool)) from VI cB _ _)]
 exact h
end Go.Proofs.Ytemklbioijmjiaa
namespace Go.Proofs.Ytemklbioijmjiaa
open Go Ax
open Go.Proofs
theorem QaV {P:Ent→Bool} {ride:Int}:∀ {L:List Ent},0≤qR P ride L→∃ x ∈ L,P x=true
 | [],h=>by simp [qR] at h
 | x :: L,h=>by
  unfold qR at h
  split at h
  · rename_i c; exact ⟨x,List.mem_cons_self,c⟩
  · split at h
    · omega
    · obtain ⟨y,h1,h2⟩:=QaV h
      exact ⟨y,List.mem_cons_of_mem _ h1,h2⟩
theorem whyK_nil {l:Lgb} {ride day:Int} (h:(whyK l ride day).length=0):day≤Qp l ride∧QE l ride=true∧QL (isKd 4 ride) ride l.es=day∧day≤Qm l ride:=by
 have h0:=List.length_eq_zero_iff.1 h
 unfold whyK at h0
 simp only [List.append_eq_nil_iff] at h0
 obtain ⟨a,b,c,d⟩:=h0
 refine ⟨?_,?_,?_,?_⟩
 · split at a
   · cases a
   · omega
 · split at b
   · cases b
   · rename_i q; simpa using q
 · split at c
   · assumption
   · cases c
 · split at d
   · cases d
   · omega
theorem Ko {l:Lgb} {day:Int}:∀ (d i:Nat),∀ x ∈ qJ l day d i,(i:Int)≤x∧x<(i:Int)+(d:Int)∧(whyK l x day).length=0
 | 0,i,x,hx=>by simp [qJ] at hx
 | d+1,i,x,hx=>by
  unfold qJ at hx
  split at hx
  · rename_i c
    rcases List.mem_cons.1 hx with rfl | hx
    · exact ⟨by omega,by omega,c⟩
    · have:=Ko d (i+1) x hx; exact ⟨by omega,by omega,this.2.2⟩
  · have:=Ko d (i+1) x hx; exact ⟨by omega,by omega,this.2.2⟩
theorem onK_mem {l:Lgb} {day:Int} {x:Ent} (h:x ∈ (onK l day).es):x ∈ l.es:=by
 unfold onK at h
 split at h
 · exact List.mem_of_mem_take h
 · exact h
theorem logGo_mem {k:Bok}:∀ (rest pre:List Ent) (i:Nat),∀ x ∈ (yK k pre rest i).1.es,x ∈ pre ∨ x ∈ rest
 | [],pre,i,x,h=>.inl h
 | y :: rest,pre,i,x,h=>by
  unfold yK at h
  split at h
  · rcases logGo_mem rest (pre++[y]) (i+1) x h with h | h
    · rcases List.mem_append.1 h with h | h
      · exact .inl h
      · right; rw [List.mem_singleton] at h; subst h; exact List.mem_cons_self
    · exact .inr (List.mem_cons_of_mem _ h)
  · exact .inl h
/-- Whoever is released was tested on the day. -/
theorem released_mem {k:Bok} {es:List Ent} {day:Int} (h:(QP k es day).2=0):∀ n ∈ (QP k es day).1,0≤n∧n<(k.insured.length:Int)∧∃ x ∈ es,x.kind=4∧x.a=n:=by
 unfold QP at h ⊢
 split at h
 · rename_i c
   rw [if_pos c]
   intro n hn
   obtain ⟨d1,d2,d3⟩:=dayK_ok c
   obtain ⟨m1,m2,m3⟩:=Ko _ _ n hn
   obtain ⟨-,-,w,-⟩:=whyK_nil m3
   obtain ⟨x,x1,x2⟩:=QaV (show 0≤qR (isKd 4 n) n (dayK k es day).1.es.reverse by
    have:qR (isKd 4 n) n (dayK k es day).1.es.reverse=day:=w
    omega)
   have x3:x ∈ (onK (logK k es).1 day).es:=by rw [← d3]; exact List.mem_reverse.1 x1
   have x4:=onK_mem x3
   rw [(logK_ok d1).2.2] at x4
   have x5:=logGo_mem es [] 0 x x4
   simp only [List.not_mem_nil,false_or] at x5
   simp only [isKd,Bool.and_eq_true,beq_iff_eq] at x2
   exact ⟨by omega,by omega,x,x5,x2⟩
 · rename_i c; exact absurd h c
/-! ### what a log has done -/
def Rdy (w:Wrk):Prop:=(QH w.kit w.log).1=true∧(QH w.kit w.log).2.2=0
theorem qt {α:Type} {l:List α} {p j:Nat} {x d:α}:(l.set p x).getD j d=if p=j∧p<l.length then x else l.getD j d:=by
 simp only [List.getD_eq_getElem?_getD,List.getElem?_set]
 by_cases h:p=j
 · subst h
   by_cases h2:p<l.length
   · simp [h2]
   · simp [h2,List.getElem?_eq_none (Nat.le_of_not_lt h2)]
 · simp [h]
structure CInv (k:BKit) (put pins:List Int) (s:List Bool) (left:List Int):Prop where
 l3:put.length=k.parts.length
 l4:pins.length=k.parts.length
 ls:s.length=k.parts.length
 lp:left.length=k.parts.length
 pt:∀ j,j<k.parts.length→put.getD j 0=if s.getD j false=true then 1 else 0
 pn:∀ j,j<k.parts.length→pins.getD j 0+left.getD j 0=(We k).getD j 0
 nn:∀ j,j<k.parts.length→0≤left.getD j 0∧left.getD j 0≤9
theorem pins0_bd {k:BKit} (h:YM k=true) (j:Nat) (hj:j<k.parts.length):0≤(We k).getD j 0∧(We k).getD j 0≤9:=by
 have g:(We k)[j]?=some ((We k).getD j 0):=by
  have hl:j<(We k).length:=by simpa [We] using hj
  rw [List.getD_eq_getElem?_getD,List.getElem?_eq_getElem hl]; rfl
 exact QaW h _ (List.mem_of_getElem? g)
theorem cinv0 {k:BKit} (h:YM k=true):CInv k (List.replicate k.parts.length 0) (List.replicate k.parts.length 0) (List.replicate k.parts.length false) (We k):=by
 refine ⟨by simp,by simp,by simp,by simp [We],fun j hj=>?_,fun j hj=>?_,fun j hj=>pins0_bd h j hj⟩
 · simp [List.getD_eq_getElem?_getD,List.getElem?_replicate,hj]
 · simp [List.getD_eq_getElem?_getD,List.getElem?_replicate,hj]
theorem cinv_put {k:BKit} {put pins:List Int} {s:List Bool} {left:List Int} {p:Nat} (h:CInv k put pins s left) (hp:p<k.parts.length) (hs:s.getD p false=false):put.getD p 0=0∧CInv k (put.set p (put.getD p 0+1)) pins (s.set p true) left:=by
 have e:put.getD p 0=0:=by rw [h.pt p hp,hs]; rfl
 refine ⟨e,by simpa using h.l3,h.l4,by simpa using h.ls,h.lp,fun j hj=>?_,h.pn,h.nn⟩
 rw [qt,qt,e,h.l3,h.ls]
 by_cases c:p=j
 · rw [show (if p=j∧p<k.parts.length then true else s.getD j false)=true from if_pos ⟨c,hp⟩,if_pos ⟨c,hp⟩]; rfl
 · rw [show (if p=j∧p<k.parts.length then true else s.getD j false)=s.getD j false from if_neg (fun h=>c h.1),if_neg (fun h=>c h.1)]; exact h.pt j hj
theorem cinv_pin {k:BKit} {put pins:List Int} {s:List Bool} {left:List Int} {p:Nat} (h:CInv k put pins s left) (hp:p<k.parts.length) (hl:left.getD p 0 > 0):CInv k put (pins.set p (pins.getD p 0+1)) s (left.set p (left.getD p 0 - 1)):=by
 refine ⟨h.l3,by simpa using h.l4,h.ls,by simpa using h.lp,h.pt,fun j hj=>?_,fun j hj=>?_⟩
 · have:=h.pn j hj
   rw [qt,qt,h.l4,h.lp]
   by_cases c:p=j
   · subst c; rw [if_pos ⟨rfl,hp⟩,if_pos ⟨rfl,hp⟩]; omega
   · rw [if_neg (fun h=>c h.1),if_neg (fun h=>c h.1)]; exact this
 · have:=h.nn j hj
   rw [qt,h.lp]
   by_cases c:p=j
   · subst c; rw [if_pos ⟨rfl,hp⟩]; omega
   · rw [if_neg (fun h=>c h.1)]; exact this
theorem rdy_log {w:Wrk} (h:Rdy w):(log8 w.kit w.log).2.2.2=0∧(log8 w.kit w.log).1.any (· == false)=false∧(log8 w.kit w.log).2.1.any Yo=false:=by
 obtain ⟨h1,h2⟩:=h
 unfold QH at h1
 split at h1
 · rename_i c
   simp only [Bool.and_eq_true,Bool.not_eq_true'] at h1
   exact ⟨c,h1.1,h1.2⟩
 · cases h1
section
variable {E:Env} (hE:Qe Try.prog 6 (.bool true) E) {works:List Wrk} {p:Ppr}
include hE
/-- Each part was put up once,and all of its pins are set. -/
theorem pins4 {rel:List Int} {n:Int} {v2:List Bool} {w:Wrk} {put pins:List Int} (hn:0≤n) (hw:works[Int.toNat n]?=some w) (h16:w.kit.parts.length≤16) (l3:put.length=w.kit.parts.length) (l4:pins.length=w.kit.parts.length)
 (a:∀ j,j<w.kit.parts.length→put.getD j 0=1) (b:∀ j,j<w.kit.parts.length→pins.getD j 0=(We w.kit).getD j 0) {i:Nat} (hi:i<1000000) (hnext:f6G2 E works p rel v2 (i+1)):f6G4 E works p rel n v2 put pins 0 i:=by
 have key:∀ (d k:Nat),k+d=put.length→f6G4 E works p rel n v2 put pins k i:=by
  intro d
  induction d with
  | zero =>
   intro k hk
   exact f6W4 works p rel n v2 put pins k i (rv:=true) hE ⟨fun h=>by omega,fun _=>⟨⟨by omega,by omega⟩,hnext⟩⟩
  | succ d ih =>
   intro k hk
   have g1:put[k]?=some (put.getD k 0):=by rw [List.getD_eq_getElem?_getD,List.getElem?_eq_getElem (show k<put.length by omega)]; rfl
   have g2:pins[k]?=some (pins.getD k 0):=by rw [List.getD_eq_getElem?_getD,List.getElem?_eq_getElem (show k<pins.length by omega)]; rfl
   have g3:w.kit.parts[k]?=some (w.kit.parts[k]'(by omega)):=List.getElem?_eq_getElem (by omega)
   have e1:=a k (by omega)
   have e2:pins.getD k 0=(w.kit.parts[k]'(by omega)).pins:=by
    rw [b k (by omega)]
    simp only [We,List.getD_eq_getElem?_getD,List.getElem?_map,g3]; rfl
   exact f6W4 works p rel n v2 put pins k i (rv:=true) hE ⟨fun _=>⟨_,g1,fun h=>absurd e1 h,fun _=>⟨_,g2,hn,w,hw,_,g3,fun h=>absurd e2 h,fun _=>⟨⟨by omega,by omega⟩,ih (k+1) (by omega)⟩⟩⟩,fun h=>by omega⟩
 exact key put.length 0 (by omega)
theorem pins3 {rel:List Int} {n:Int} {v2:List Bool} {w:Wrk} (hn:0≤n) (hw:works[Int.toNat n]?=some w) (hr:Rdy w) {i:Nat} (hi:i<1000000) (hnext:f6G2 E works p rel v2 (i+1)) :
 f6G3 E works p rel n v2 (List.replicate w.kit.parts.length 0) (List.replicate w.kit.parts.length 0) 0 i:=by
 obtain ⟨r1,r2,r3⟩:=rdy_log hr
 obtain ⟨y1,y2,y3,y4,y5⟩:=QcD r1
 simp only [Vv,Bool.and_eq_true] at y1
 have hk:=y1.1
 have h16:=(qS hk).1
 have key:∀ (d k:Nat) (put pins:List Int) (s:List Bool) (left:List Int),k+d=w.log.length→CInv w.kit put pins s left→Wk (Qo w.kit) (w.log.drop k) s left k=log8 w.kit w.log→f6G3 E works p rel n v2 put pins k i:=by
  intro d
  induction d with
  | zero =>
   intro k put pins s left hd hc hl
   rw [List.drop_eq_nil_of_le (by omega)] at hl
   have e1:(log8 w.kit w.log).1=s:=by rw [← hl]; rfl
   have e2:(log8 w.kit w.log).2.1=left:=by rw [← hl]; rfl
   rw [e1,List.any_eq_false] at r2
   rw [e2,List.any_eq_false] at r3
   refine f6W3 works p rel n v2 put pins k i (rv:=true) hE ⟨hn,w,hw,fun h=>by omega,fun _=>pins4 hE hn hw h16 hc.l3 hc.l4 (fun j hj=>?_) (fun j hj=>?_) hi hnext⟩
   · have g:s[j]?=some (s.getD j false):=by rw [List.getD_eq_getElem?_getD,List.getElem?_eq_getElem (show j<s.length by rw [hc.ls]; exact hj)]; rfl
     have:=r2 _ (List.mem_of_getElem? g)
     rw [hc.pt j hj,if_pos (by simpa using this)]
   · have g:left[j]?=some (left.getD j 0):=by rw [List.getD_eq_getElem?_getD,List.getElem?_eq_getElem (show j<left.length by rw [hc.lp]; exact hj)]; rfl
     have q:=r3 _ (List.mem_of_getElem? g)
     have q2:=hc.nn j hj
     have q3:=hc.pn j hj
     have q4:¬ left.getD j 0 > 0:=fun h=>q (decide_eq_true h)
     omega
  | succ d ih =>
   intro k put pins s left hd hc hl
   have hx:w.log[k]?=some (w.log[k]'(by omega)):=List.getElem?_eq_getElem (by omega)
   rw [List.drop_eq_getElem_cons (by omega)] at hl
   generalize w.log[k]'(by omega)=x at hx hl
   simp only [Wk] at hl
   have hs0:(Qo w.kit).k=w.kit:=rfl
   split at hl
   rotate_left
   · rw [← hl] at r1; cases r1
   rename_i r hr
   unfold Vx at hr
   split at hr
   rotate_left
   · cases hr
   rename_i b0
   have wb:=QK.1 b0
   rw [hc.ls] at wb
   have hp:Int.toNat x.part<w.kit.parts.length:=by omega
   have g1:put[Int.toNat x.part]?=some (put.getD (Int.toNat x.part) 0):=by rw [List.getD_eq_getElem?_getD,List.getElem?_eq_getElem (show Int.toNat x.part<put.length by rw [hc.l3]; exact hp)]; rfl
   have g2:pins[Int.toNat x.part]?=some (pins.getD (Int.toNat x.part) 0):=by rw [List.getD_eq_getElem?_getD,List.getElem?_eq_getElem (show Int.toNat x.part<pins.length by rw [hc.l4]; exact hp)]; rfl
   have l3:=hc.l3
   split at hr
   · rename_i c
     cases hr
     have sp:s.getD (Int.toNat x.part) false=false:=by
      have:=c.2.1
      unfold upB at this
      simp only [Bool.and_eq_true,Bool.not_eq_true'] at this
      exact this.1
     obtain ⟨e0,hc2⟩:=cinv_put hc hp sp
     exact f6W3 works p rel n v2 put pins k i (rv:=true) hE ⟨hn,w,hw,fun _=>⟨x,hx,fun h=>by omega,fun _=>⟨fun h=>by omega,fun _=>⟨fun _=>⟨wb.1,_,g1,⟨by omega,by omega⟩,⟨by omega,by omega⟩,ih (k+1) _ pins _ left (by omega) hc2 hl⟩,fun h=>absurd c.1 h⟩⟩⟩,fun h=>by omega⟩
   · split at hr
     · rename_i c0 c
       cases hr
       have lf:left.getD (Int.toNat x.part) 0 > 0:=of_decide_eq_true c.2.2
       have q1:=hc.pn _ hp
       have q2:=hc.nn _ hp
       have q3:=pins0_bd hk _ hp
       exact f6W3 works p rel n v2 put pins k i (rv:=true) hE ⟨hn,w,hw,fun _=>⟨x,hx,fun h=>by omega,fun _=>⟨fun h=>by omega,fun _=>⟨fun h=>by have:=c.1; omega,fun _=>⟨wb.1,_,g2,⟨by omega,by omega⟩,⟨by omega,by omega⟩,ih (k+1) put _ s _ (by omega) (cinv_pin hc hp lf) hl⟩⟩⟩⟩,fun h=>by omega⟩
     · cases hr
 exact key w.log.length 0 _ _ _ _ (by omega) (cinv0 hk) (by rw [List.drop_zero]; exact y5.symm)
theorem pins2 {rel:List Int} {v2:List Bool} (hl:rel.length≤1000) (hv:v2.length=works.length) (hr:∀ n ∈ rel,0≤n∧n<(works.length:Int)∧∃ w,works[Int.toNat n]?=some w∧Rdy w) (ht:∀ (j:Nat) (w:Wrk),works[j]?=some w→Rdy w→v2[j]?=some true)
 (hsz:∀ w ∈ works,Rdy w→w.kit.parts.length≤16):f6G2 E works p rel v2 0:=by
 have key:∀ (d i:Nat),i+d=rel.length→f6G2 E works p rel v2 i:=by
  intro d
  induction d with
  | zero =>
   intro i hi
   exact f6W2 works p rel v2 i (rv:=true) hE ⟨fun h=>by omega,fun _=>rfl⟩
  | succ d ih =>
   intro i hi
   have hx:rel[i]?=some (rel[i]'(by omega)):=List.getElem?_eq_getElem (by omega)
   generalize rel[i]'(by omega)=n at hx
   obtain ⟨n0,n1,w,hw,hrd⟩:=hr n (List.mem_of_getElem? hx)
   have hs:=hsz w (List.mem_of_getElem? hw) hrd
   exact f6W2 works p rel v2 i (rv:=true) hE ⟨fun _=>⟨n,hx,fun h=>by omega,fun _=>⟨fun h=>by omega,fun _=>⟨n0,true,ht _ w hw hrd,fun h=>(by cases h),fun _=>⟨n0,w,hw,by omega,by omega,pins3 hE n0 hw hrd (by omega) (ih (i+1) (by omega))⟩⟩⟩⟩,fun h=>by omega⟩
 exact key rel.length 0 (by omega)
end
theorem relGo_len {l:Lgb} {day:Int}:∀ (d i:Nat),(qJ l day d i).length≤d
 | 0,i=>by simp [qJ]
 | d+1,i=>by
  unfold qJ
  have:=relGo_len (l:=l) (day:=day) d (i+1)
  split
  · simp; omega
  · omega
theorem released_len {k:Bok} {es:List Ent} {day:Int}:(QP k es day).1.length≤k.insured.length:=by
 unfold QP
 split
 · exact relGo_len _ _
 · simp
def WrkSize (w:Wrk):Prop:=KitSize w.kit
/-- If rides are tested on a day only where the log of the build-up is ready,a ride that is released has every part put up and every pin set,once. -/
theorem law6_ok (works:List Wrk) (p:Ppr) (hs:∀ w ∈ works,WrkSize w):Pure Try.prog 6 [.rsl (QS works) 0 works.length,.agg [.rsl (Ql p.k.rules) 0 p.k.rules.length,.rsl (rowI p.k.ranks) 0 p.k.ranks.length,.rsl (rowI p.k.insured) 0 p.k.insured.length,.rsl (Qg p.es) 0 p.es.length,.int .i64 p.day]] (.bool true):=Qu Try.func6 f6b fun E hE=>by
 refine f6W works p (rv:=true) hE ⟨fun _=>rfl,fun a1=>⟨fun _=>rfl,fun a2=>⟨fun _=>rfl,fun a3=>⟨fun _=>rfl,fun a4=>⟨fun _=>rfl,fun a5=>?_⟩⟩⟩⟩⟩
 have h4:works.length≤4:=by omega
 have second:∀ (d i:Nat) (v1:List Ent) (v2:List Bool),i+d=works.length→v1.length≤40+i→v2.length=works.length→(∀ x ∈ v1,x.kind=4→∃ (j:Nat) (w:Wrk),x.a=(j:Int)∧works[j]?=some w∧Rdy w)→(∀ (j:Nat) (w:Wrk),j<i→works[j]?=some w→Rdy w→v2[j]?=some true)→f6G1 E works p v1 v2 i:=by
  intro d
  induction d with
  | zero =>
   intro i v1 v2 hi hl hv hx ht
   refine f6W1 works p v1 v2 i (rv:=true) hE ⟨fun h=>by omega,fun _=>⟨⟨by omega,by omega,by omega⟩,fun _=>rfl,fun h0=>?_⟩⟩
   refine pins2 hE (by have:=released_len (k:=p.k) (es:=v1) (day:=p.day); omega) hv (fun n hn=>?_) (fun j w hw hr=>ht j w (by have:=(List.getElem?_eq_some_iff.1 hw).1; omega) hw hr) (fun w hw hr=>?_)
   · obtain ⟨n0,n1,x,x1,x2,x3⟩:=released_mem h0 n hn
     obtain ⟨j,w,q1,q2,q3⟩:=hx x x1 x2
     refine ⟨n0,by omega,w,?_,q3⟩
     rw [show Int.toNat n=j by omega]; exact q2
   · have:=(QcD (rdy_log hr).1).1
     simp only [Vv,Bool.and_eq_true] at this
     exact (qS this.1).1
  | succ d ih =>
   intro i v1 v2 hi hl hv hx ht
   have hw:works[i]?=some (works[i]'(by omega)):=List.getElem?_eq_getElem (by omega)
   generalize works[i]'(by omega)=w at hw
   have hz:=hs w (List.mem_of_getElem? hw)
   have gv:v2[i]?=some (v2[i]'(by omega)):=List.getElem?_eq_getElem (by omega)
   have gs:∀ b:Bool,(v2.set i b)[i]?=some b:=fun b=>List.getElem?_set_self (by omega)
   have keep:∀ b:Bool,(b=true ∨ ¬ Rdy w)→∀ (j:Nat) (w':Wrk),j<i+1→works[j]?=some w'→Rdy w'→(v2.set i b)[j]?=some true:=by
    intro b hb j w' hj hw' hr'
    by_cases c:i=j
    · subst c
      rw [hw] at hw'; cases hw'
      rcases hb with hb | hb
      · rw [gs,hb]
      · exact absurd hr' hb
    · rw [List.getElem?_set_ne c]; exact ht j w' (by omega) hw' hr'
   refine f6W1 works p v1 v2 i (rv:=true) hE ⟨fun _=>⟨w,hw,hz,fun _=>rfl,fun hc=>⟨fun _=>rfl,fun hlg=>⟨by omega,chk8_small hz hc,fun q=>⟨_,gv,_,gs _,fun q2=>⟨by omega,⟨by omega,by omega⟩,?_⟩,fun q2=>⟨⟨by omega,by omega⟩,?_⟩⟩,fun q=>⟨_,gv,_,gs _,fun q2=>(by cases q2),fun _=>⟨⟨by omega,by omega⟩,?_⟩⟩⟩⟩⟩,fun h=>by omega⟩
   · have hr:Rdy w:=⟨q,by simpa using q2⟩
     refine ih (i+1) _ _ (by omega) (by simp; omega) (by simpa using hv) (fun x hm hk=>?_) (keep _ (.inl q2))
     rcases List.mem_append.1 hm with hm | hm
     · exact hx x hm hk
     · rw [List.mem_singleton] at hm; subst hm
       exact ⟨i,w,rfl,hw,hr⟩
   · refine ih (i+1) _ _ (by omega) (by omega) (by simpa using hv) hx (keep _ (.inr fun hr=>?_))
     have:(QH w.kit w.log).2.2=0:=hr.2
     rw [this] at q2; cases q2
   · refine ih (i+1) _ _ (by omega) (by omega) (by simpa using hv) hx (keep _ (.inr fun hr=>?_))
     have:(QH w.kit w.log).1=true:=hr.1
     rw [this] at q; cases q
 have start:∀ v1:List Ent,v1.length≤40→(∀ x ∈ v1,¬ x.kind=4)→QcK E works p v1:=fun v1 hl hx =>
  f6W5085 works p v1 (rv:=true) hE ⟨by omega,second works.length 0 v1 _ (by omega) (by omega) (by simp) (fun x hm hk=>absurd hk (hx x hm)) (fun j w hj=>by omega)⟩
 have first:∀ (d i:Nat) (v1:List Ent),i+d=p.es.length→v1.length≤i→(∀ x ∈ v1,¬ x.kind=4)→f6G0 E works p v1 i:=by
  intro d
  induction d with
  | zero =>
   intro i v1 hi hl hx
   exact f6W0 works p v1 i (rv:=true) hE ⟨fun h=>by omega,fun _=>start v1 (by omega) hx⟩
  | succ d ih =>
   intro i v1 hi hl hx
   have hg:p.es[i]?=some (p.es[i]'(by omega)):=List.getElem?_eq_getElem (by omega)
   generalize p.es[i]'(by omega)=x at hg
   refine f6W0 works p v1 i (rv:=true) hE ⟨fun _=>⟨x,hg,fun _=>start v1 (by omega) hx,fun _=>⟨fun k4=>⟨fun _=>⟨by omega,⟨by omega,by omega⟩,ih (i+1) _ (by omega) (by simp; omega) (fun y hy=>?_)⟩,fun _=>⟨⟨by omega,by omega⟩,ih (i+1) _ (by omega) (by omega) hx⟩⟩,fun _=>⟨⟨by omega,by omega⟩,ih (i+1) _ (by omega) (by omega) hx⟩⟩⟩,fun h=>by omega⟩
   rcases List.mem_append.1 hy with hy | hy
   · exact hx y hy
   · rw [List.mem_singleton] at hy; subst hy; exact k4
 exact first p.es.length 0 [] (by omega) (by simp) (by simp)
end Go.Proofs.Ytemklbioijmjiaa
namespace Go.Proofs.Ytemklbioijmjiaa
open Go Ax
open Go.Proofs
theorem ownT:ownKnob Try.prog.godebug=none:=by kernel_rfl
theorem laidT:laidOutB Try.prog=true:=by kernel_rfl
theorem dInts (W:World):Dec Try.prog W 34 (List Int) (fun a=>[.rsl (rowI a) 0 a.length]) (fun a=>a.length≤9223372036854775807):=by
 refine Dec.map (Vb Try.underlying34 (n:=1) (by kernel_rfl) (by decide) (fun _=>rfl) (fun _=>rfl) (XW Try.underlying3)) (fun x=>x) ?_ ?_
 · exact fun _=>rfl
 · exact fun _ h=>h.1
theorem dPart (W:World):Dec Try.prog W 36 BPart cBp (fun a=>a.needs.length≤9223372036854775807):=by
 refine Dec.map (Ye Try.underlying36 rfl (tot:=4) (by kernel_rfl) (QI (n:=1) (tot:=4) (by kernel_rfl) rfl (XW Try.underlying3) (QI (n:=1) (tot:=4) (by kernel_rfl) rfl (XW Try.underlying3) (QI (n:=1) (tot:=4) (by kernel_rfl) rfl (XW Try.underlying3) (QI (n:=1) (tot:=4) (by kernel_rfl) rfl (dInts W) YK (by decide)) (by decide)) (by decide)) (by decide))) (fun x=>(⟨x.1,x.2.1,x.2.2.1,x.2.2.2.1⟩:BPart)) ?_ ?_
 · exact fun _=>rfl
 · exact fun _ h=>h.2.2.2.1
theorem dParts (W:World):Dec Try.prog W 22 (List BPart) (fun a=>[.rsl (QF a) 0 a.length]) (fun a=>∀ b ∈ a,b.needs.length≤9223372036854775807):=by
 refine Dec.map (Vb Try.underlying22 (n:=4) (by kernel_rfl) (by decide) (fun _=>rfl) (fun _=>rfl) (dPart W)) (fun x=>x) ?_ ?_
 · exact fun _=>rfl
 · exact fun _ h=>h.2
theorem dIntss (W:World):Dec Try.prog W 23 (List (List Int)) (fun a=>[.rsl ((Qs rowI) a) 0 a.length]) (fun a=>∀ b ∈ a,b.length≤9223372036854775807):=by
 refine Dec.map (Vb Try.underlying23 (n:=1) (by kernel_rfl) (by decide) (fun _=>rfl) (fun _=>rfl) (dInts W)) (fun x=>x) ?_ ?_
 · exact fun _=>rfl
 · exact fun _ h=>h.2
theorem dKit (W:World):Dec Try.prog W 25 BKit (fun a=>[.rsl (QF a.parts) 0 a.parts.length,.int .i64 a.crane,.rsl ((Qs rowI) a.vans) 0 a.vans.length]) (fun a=>KitSize a):=by
 refine Dec.map (Ye Try.underlying25 rfl (tot:=3) (by kernel_rfl) (QI (n:=1) (tot:=3) (by kernel_rfl) rfl (dParts W) (QI (n:=1) (tot:=3) (by kernel_rfl) rfl (XW Try.underlying3) (QI (n:=1) (tot:=3) (by kernel_rfl) rfl (dIntss W) YK (by decide)) (by decide)) (by decide))) (fun x=>(⟨x.1,x.2.1,x.2.2.1⟩:BKit)) ?_ ?_
 · exact fun _=>rfl
 · exact fun _ h=>⟨h.1,h.2.2.1⟩
theorem dStp (W:World):Dec Try.prog W 105 Stp cStp (fun a=>True):=by
 refine Dec.map (Ye Try.underlying105 rfl (tot:=2) (by kernel_rfl) (QI (n:=1) (tot:=2) (by kernel_rfl) rfl (XW Try.underlying3) (QI (n:=1) (tot:=2) (by kernel_rfl) rfl (XW Try.underlying3) YK (by decide)) (by decide))) (fun x=>(⟨x.1,x.2.1⟩:Stp)) ?_ ?_
 · exact fun _=>rfl
 · exact fun _ _=>trivial
theorem dStps (W:World):Dec Try.prog W 97 (List Stp) (fun a=>[.rsl (Qv a) 0 a.length]) (fun a=>a.length≤9223372036854775807):=by
 refine Dec.map (Vb Try.underlying97 (n:=2) (by kernel_rfl) (by decide) (fun _=>rfl) (fun _=>rfl) (dStp W)) (fun x=>x) ?_ ?_
 · exact fun _=>rfl
 · exact fun _ h=>h.1
theorem dWrk (W:World):Dec Try.prog W 99 Wrk cWrk (fun a=>WrkSize a):=by
 refine Dec.map (Ye Try.underlying99 rfl (tot:=4) (by kernel_rfl) (QI (n:=3) (tot:=4) (by kernel_rfl) rfl (dKit W) (QI (n:=1) (tot:=4) (by kernel_rfl) rfl (dStps W) YK (by decide)) (by decide))) (fun x=>(⟨x.1,x.2.1⟩:Wrk)) ?_ ?_
 · exact fun _=>rfl
 · exact fun _ h=>h.1
theorem dWrks (W:World):Dec Try.prog W 87 (List Wrk) (fun a=>[.rsl (QS a) 0 a.length]) (fun a=>∀ w ∈ a,WrkSize w):=by
 refine Dec.map (Vb Try.underlying87 (n:=4) (by kernel_rfl) (by decide) (fun _=>rfl) (fun _=>rfl) (dWrk W)) (fun x=>x) ?_ ?_
 · exact fun _=>rfl
 · exact fun _ h=>h.2
theorem dRul (W:World):Dec Try.prog W 332 Rul cRul (fun a=>True):=by
 refine Dec.map (Ye Try.underlying332 rfl (tot:=4) (by kernel_rfl) (QI (n:=1) (tot:=4) (by kernel_rfl) rfl (XW Try.underlying3) (QI (n:=1) (tot:=4) (by kernel_rfl) rfl (XW Try.underlying3) (QI (n:=1) (tot:=4) (by kernel_rfl) rfl (XW Try.underlying3) (QI (n:=1) (tot:=4) (by kernel_rfl) rfl (dec_bool Try.underlying4) YK (by decide)) (by decide)) (by decide)) (by decide))) (fun x=>(⟨x.1,x.2.1,x.2.2.1,x.2.2.2.1⟩:Rul)) ?_ ?_
 · exact fun _=>rfl
 · exact fun _ _=>trivial
theorem dRuls (W:World):Dec Try.prog W 88 (List Rul) (fun a=>[.rsl (Ql a) 0 a.length]) (fun a=>a.length≤9223372036854775807):=by
 refine Dec.map (Vb Try.underlying88 (n:=4) (by kernel_rfl) (by decide) (fun _=>rfl) (fun _=>rfl) (dRul W)) (fun x=>x) ?_ ?_
 · exact fun _=>rfl
 · exact fun _ h=>h.1
theorem dBok (W:World):Dec Try.prog W 90 Bok (fun a=>[.rsl (Ql a.rules) 0 a.rules.length,.rsl (rowI a.ranks) 0 a.ranks.length,.rsl (rowI a.insured) 0 a.insured.length]) (fun a=>True):=by
 refine Dec.map (Ye Try.underlying90 rfl (tot:=3) (by kernel_rfl) (QI (n:=1) (tot:=3) (by kernel_rfl) rfl (dRuls W) (QI (n:=1) (tot:=3) (by kernel_rfl) rfl (dInts W) (QI (n:=1) (tot:=3) (by kernel_rfl) rfl (dInts W) YK (by decide)) (by decide)) (by decide))) (fun x=>(⟨x.1,x.2.1,x.2.2.1⟩:Bok)) ?_ ?_
 · exact fun _=>rfl
 · exact fun _ _=>trivial
theorem dEnt (W:World):Dec Try.prog W 95 Ent cEnt (fun a=>True):=by
 refine Dec.map (Ye Try.underlying95 rfl (tot:=5) (by kernel_rfl) (QI (n:=1) (tot:=5) (by kernel_rfl) rfl (XW Try.underlying3) (QI (n:=1) (tot:=5) (by kernel_rfl) rfl (XW Try.underlying3) (QI (n:=1) (tot:=5) (by kernel_rfl) rfl (XW Try.underlying3) (QI (n:=1) (tot:=5) (by kernel_rfl) rfl (XW Try.underlying3) (QI (n:=1) (tot:=5) (by kernel_rfl) rfl (XW Try.underlying3) YK (by decide)) (by decide)) (by decide)) (by decide)) (by decide))) (fun x=>(⟨x.1,x.2.1,x.2.2.1,x.2.2.2.1,x.2.2.2.2.1⟩:Ent)) ?_ ?_
 · exact fun _=>rfl
 · exact fun _ _=>trivial
theorem dEnts (W:World):Dec Try.prog W 91 (List Ent) (fun a=>[.rsl (Qg a) 0 a.length]) (fun a=>a.length≤9223372036854775807):=by
 refine Dec.map (Vb Try.underlying91 (n:=5) (by kernel_rfl) (by decide) (fun _=>rfl) (fun _=>rfl) (dEnt W)) (fun x=>x) ?_ ?_
 · exact fun _=>rfl
 · exact fun _ h=>h.1
theorem dPpr (W:World):Dec Try.prog W 93 Ppr (fun a=>[.rsl (Ql a.k.rules) 0 a.k.rules.length,.rsl (rowI a.k.ranks) 0 a.k.ranks.length,.rsl (rowI a.k.insured) 0 a.k.insured.length,.rsl (Qg a.es) 0 a.es.length,.int .i64 a.day]) (fun a=>True):=by
 refine Dec.map (Ye Try.underlying93 rfl (tot:=5) (by kernel_rfl) (QI (n:=3) (tot:=5) (by kernel_rfl) rfl (dBok W) (QI (n:=1) (tot:=5) (by kernel_rfl) rfl (dEnts W) (QI (n:=1) (tot:=5) (by kernel_rfl) rfl (XW Try.underlying3) YK (by decide)) (by decide)) (by decide))) (fun x=>(⟨x.1,x.2.1,x.2.2.1⟩:Ppr)) ?_ ?_
 · exact fun _=>rfl
 · exact fun _ _=>trivial
end Go.Proofs.Ytemklbioijmjiaa