/- A part of the proof: several texts, one behind the other. -/
import Derived.Test.YtgdfkjjgdkejfaaLRidePushesB
set_option linter.unusedVariables false
set_option linter.unusedSimpArgs false
set_option maxRecDepth 100000
namespace Go.Proofs.Ytgdfkjjgdkejfaa
open Go Ax
open Go.Proofs
def XC (nb:Nat) (ticks:Int) (p:Prs):Bool:=Qd p.at_ 0 (ticks - 1) && Qd p.kind 1 3 && Qd p.block 0 ((nb:Int) - 1)
def XQ (nb:Nat) (x:Flt):Bool:=Qd x.frm 0 500 && Qd x.kind 1 3 && Qd x.chan 0 1 && Qd x.block 0 ((nb:Int) - 1) && Qd x.val 0 1
theorem f66b:Try.f66.body=some (Qe Try.prog 66):=by kernel_rfl
theorem u66 {a c k:List AV} {r:AV} (h:Pure Try.prog 66 (a++c++k) r):Qg Try.prog (.clos 66 a k) c r:=QG Try.func66 (by kernel_rfl) f66b h
abbrev z66_1 (p:Prs) (ticks:Int) (c:Cir):List AV:=[.agg [.int .i64 p.at_,.int .i64 p.kind,.int .i64 p.block],.rptr [.int .i64 ticks] 0,.rptr [.rsl (Qf c.blocks) 0 c.blocks.length,.rsl (rowI c.cars) 0 c.cars.length] 0]
theorem p66_start_0 (p:Prs) (ticks:Int) (c:Cir) {E:Env} {res:AV} (hE:Qm Try.prog 66 res E) (ho:AllP [InR .i64 (ticks - 1),Qg Try.prog (.clos 52 [] []) [.int .i64 p.at_,.int .i64 0,.int .i64 (ticks - 1)] (.bool (Qd p.at_ 0 (ticks - 1))),(!(Qd p.at_ 0 (ticks - 1)))=true,true=true])
 (hr:AvLe (.bool true) res):G Try.prog E [.code (Qe Try.prog 66)] ⟨(z66_1 p ticks c)++unds (Try.f66.ntmps - 3),[]⟩ :=
 Qi (n:=400) (evs:=[.v (.bool (Qd p.at_ 0 (ticks - 1))),.b true,.b true]) (obs:=_) hE Try.func66 Ql (by kernel_rfl) ho hr
theorem p66_start_1 (p:Prs) (ticks:Int) (c:Cir) {E:Env} {res:AV} (hE:Qm Try.prog 66 res E) (ho:AllP [InR .i64 (ticks - 1),Qg Try.prog (.clos 52 [] []) [.int .i64 p.at_,.int .i64 0,.int .i64 (ticks - 1)] (.bool (Qd p.at_ 0 (ticks - 1))),(!(Qd p.at_ 0 (ticks - 1)))=false,Qg Try.prog (.clos 52 [] []) [.int .i64 p.kind,.int .i64 1,.int .i64 3] (.bool (Qd p.kind 1 3)),(!(Qd p.kind 1 3))=true])
 (hr:AvLe (.bool true) res):G Try.prog E [.code (Qe Try.prog 66)] ⟨(z66_1 p ticks c)++unds (Try.f66.ntmps - 3),[]⟩ :=
 Qi (n:=400) (evs:=[.v (.bool (Qd p.at_ 0 (ticks - 1))),.b false,.v (.bool (Qd p.kind 1 3)),.b true]) (obs:=_) hE Try.func66 Ql (by kernel_rfl) ho hr
theorem p66_start_2 (p:Prs) (ticks:Int) (c:Cir) {E:Env} {res:AV} (hE:Qm Try.prog 66 res E) (ho:AllP [InR .i64 (ticks - 1),Qg Try.prog (.clos 52 [] []) [.int .i64 p.at_,.int .i64 0,.int .i64 (ticks - 1)] (.bool (Qd p.at_ 0 (ticks - 1))),(!(Qd p.at_ 0 (ticks - 1)))=false,Qg Try.prog (.clos 52 [] []) [.int .i64 p.kind,.int .i64 1,.int .i64 3] (.bool (Qd p.kind 1 3)),(!(Qd p.kind 1 3))=false,Qg Try.prog (.clos 53 [] []) [.agg [.rsl (Qf c.blocks) 0 c.blocks.length,.rsl (rowI c.cars) 0 c.cars.length],.int .i64 p.block] (.bool (Qd p.block 0 (c.blocks.length - 1)))])
 (hr:AvLe (.bool (!(Qd p.block 0 (c.blocks.length - 1)))) res):G Try.prog E [.code (Qe Try.prog 66)] ⟨(z66_1 p ticks c)++unds (Try.f66.ntmps - 3),[]⟩ :=
 Qi (n:=400) (evs:=[.v (.bool (Qd p.at_ 0 (ticks - 1))),.b false,.v (.bool (Qd p.kind 1 3)),.b false,.v (.bool (Qd p.block 0 (c.blocks.length - 1)))]) (obs:=_) hE Try.func66 Ql (by kernel_rfl) ho hr
theorem f66W (p:Prs) (ticks:Int) (c:Cir) {E:Env} {rv:Bool} (hE:Qm Try.prog 66 (.bool rv) E)
 (h:((I6 (ticks - 1))∧(((Qd p.at_ 0 (ticks - 1))=false→rv=true)∧((Qd p.at_ 0 (ticks - 1))=true→(((Qd p.kind 1 3)=false→rv=true)∧((Qd p.kind 1 3)=true→((c.blocks.length≤9223372036854775807)∧rv=(!(Qd p.block 0 (c.blocks.length - 1)))))))))):G Try.prog E [.code (Qe Try.prog 66)] ⟨[.agg [.int .i64 p.at_,.int .i64 p.kind,.int .i64 p.block],.rptr [.int .i64 ticks] 0,.rptr [.rsl (Qf c.blocks) 0 c.blocks.length,.rsl (rowI c.cars) 0 c.cars.length] 0]++unds (Try.f66.ntmps - 3),[]⟩:=by
 obtain ⟨q0_0,h⟩:=h
 rcases bft (!(Qd p.at_ 0 (ticks - 1))) with hc0 | hc0
 · have h:=h.1 (bnT hc0)
   exact p66_start_0 p ticks c hE ⟨q0_0,(u52 (QC p.at_ 0 (ticks - 1))),hc0,rfl,trivial⟩ (AvLe.of_eq (by rw [h]; try rfl))
 · have h:=h.2 (bnF hc0)
   rcases bft (!(Qd p.kind 1 3)) with hc1 | hc1
   · have h:=h.1 (bnT hc1)
     exact p66_start_1 p ticks c hE ⟨q0_0,(u52 (QC p.at_ 0 (ticks - 1))),hc0,(u52 (QC p.kind 1 3)),hc1,trivial⟩ (AvLe.of_eq (by rw [h]; try rfl))
   · have h:=h.2 (bnF hc1)
     obtain ⟨h1,h⟩:=h
     exact p66_start_2 p ticks c hE ⟨q0_0,(u52 (QC p.at_ 0 (ticks - 1))),hc0,(u52 (QC p.kind 1 3)),hc1,(u53 (YK c p.block h1)),trivial⟩ (AvLe.of_eq (by rw [h]; try rfl))
theorem f67b:Try.f67.body=some (Qe Try.prog 67):=by kernel_rfl
theorem u67 {a c k:List AV} {r:AV} (h:Pure Try.prog 67 (a++c++k) r):Qg Try.prog (.clos 67 a k) c r:=QG Try.func67 (by kernel_rfl) f67b h
abbrev z67_2 (c:Cir):List AV:=[.rsl (Qf c.blocks) 0 c.blocks.length,.rsl (rowI c.cars) 0 c.cars.length]
abbrev z67_1 (x:Flt) (c:Cir):List AV:=[.agg [.int .i64 x.frm,.int .i64 x.kind,.int .i64 x.chan,.int .i64 x.block,.int .i64 x.val],.rptr (z67_2 c) 0]
theorem p67_start_0 (x:Flt) (c:Cir) {E:Env} {res:AV} (hE:Qm Try.prog 67 res E) (ho:AllP [Qg Try.prog (.clos 52 [] []) [.int .i64 x.frm,.int .i64 0,.int .i64 500] (.bool (Qd x.frm 0 500)),(!(Qd x.frm 0 500))=true,true=true,true=true,true=true])
 (hr:AvLe (.bool true) res):G Try.prog E [.code (Qe Try.prog 67)] ⟨(z67_1 x c)++unds (Try.f67.ntmps - 2),[]⟩ :=
 Qi (n:=400) (evs:=[.v (.bool (Qd x.frm 0 500)),.b true,.b true,.b true,.b true]) (obs:=_) hE Try.func67 Ql (by kernel_rfl) ho hr
theorem p67_start_1 (x:Flt) (c:Cir) {E:Env} {res:AV} (hE:Qm Try.prog 67 res E) (ho:AllP [Qg Try.prog (.clos 52 [] []) [.int .i64 x.frm,.int .i64 0,.int .i64 500] (.bool (Qd x.frm 0 500)),(!(Qd x.frm 0 500))=false,Qg Try.prog (.clos 52 [] []) [.int .i64 x.kind,.int .i64 1,.int .i64 3] (.bool (Qd x.kind 1 3)),(!(Qd x.kind 1 3))=true,true=true,true=true])
 (hr:AvLe (.bool true) res):G Try.prog E [.code (Qe Try.prog 67)] ⟨(z67_1 x c)++unds (Try.f67.ntmps - 2),[]⟩ :=
 Qi (n:=400) (evs:=[.v (.bool (Qd x.frm 0 500)),.b false,.v (.bool (Qd x.kind 1 3)),.b true,.b true,.b true]) (obs:=_) hE Try.func67 Ql (by kernel_rfl) ho hr
theorem p67_start_2 (x:Flt) (c:Cir) {E:Env} {res:AV} (hE:Qm Try.prog 67 res E) (ho:AllP [Qg Try.prog (.clos 52 [] []) [.int .i64 x.frm,.int .i64 0,.int .i64 500] (.bool (Qd x.frm 0 500)),(!(Qd x.frm 0 500))=false,Qg Try.prog (.clos 52 [] []) [.int .i64 x.kind,.int .i64 1,.int .i64 3] (.bool (Qd x.kind 1 3)),(!(Qd x.kind 1 3))=false,Qg Try.prog (.clos 52 [] []) [.int .i64 x.chan,.int .i64 0,.int .i64 1] (.bool (Qd x.chan 0 1)),(!(Qd x.chan 0 1))=true,true=true])
 (hr:AvLe (.bool true) res):G Try.prog E [.code (Qe Try.prog 67)] ⟨(z67_1 x c)++unds (Try.f67.ntmps - 2),[]⟩ :=
 Qi (n:=400) (evs:=[.v (.bool (Qd x.frm 0 500)),.b false,.v (.bool (Qd x.kind 1 3)),.b false,.v (.bool (Qd x.chan 0 1)),.b true,.b true]) (obs:=_) hE Try.func67 Ql (by kernel_rfl) ho hr
theorem p67_start_3 (x:Flt) (c:Cir) {E:Env} {res:AV} (hE:Qm Try.prog 67 res E) (ho:AllP [Qg Try.prog (.clos 52 [] []) [.int .i64 x.frm,.int .i64 0,.int .i64 500] (.bool (Qd x.frm 0 500)),(!(Qd x.frm 0 500))=false,Qg Try.prog (.clos 52 [] []) [.int .i64 x.kind,.int .i64 1,.int .i64 3] (.bool (Qd x.kind 1 3)),(!(Qd x.kind 1 3))=false,Qg Try.prog (.clos 52 [] []) [.int .i64 x.chan,.int .i64 0,.int .i64 1] (.bool (Qd x.chan 0 1)),(!(Qd x.chan 0 1))=false,Qg Try.prog (.clos 53 [] []) [.agg (z67_2 c),.int .i64 x.block] (.bool (Qd x.block 0 (c.blocks.length - 1))),(!(Qd x.block 0 (c.blocks.length - 1)))=true])
 (hr:AvLe (.bool true) res):G Try.prog E [.code (Qe Try.prog 67)] ⟨(z67_1 x c)++unds (Try.f67.ntmps - 2),[]⟩ :=
 Qi (n:=400) (evs:=[.v (.bool (Qd x.frm 0 500)),.b false,.v (.bool (Qd x.kind 1 3)),.b false,.v (.bool (Qd x.chan 0 1)),.b false,.v (.bool (Qd x.block 0 (c.blocks.length - 1))),.b true]) (obs:=_) hE Try.func67 Ql (by kernel_rfl) ho hr
theorem p67_start_4 (x:Flt) (c:Cir) {E:Env} {res:AV} (hE:Qm Try.prog 67 res E) (ho:AllP [Qg Try.prog (.clos 52 [] []) [.int .i64 x.frm,.int .i64 0,.int .i64 500] (.bool (Qd x.frm 0 500)),(!(Qd x.frm 0 500))=false,Qg Try.prog (.clos 52 [] []) [.int .i64 x.kind,.int .i64 1,.int .i64 3] (.bool (Qd x.kind 1 3)),(!(Qd x.kind 1 3))=false,Qg Try.prog (.clos 52 [] []) [.int .i64 x.chan,.int .i64 0,.int .i64 1] (.bool (Qd x.chan 0 1)),(!(Qd x.chan 0 1))=false,Qg Try.prog (.clos 53 [] []) [.agg (z67_2 c),.int .i64 x.block] (.bool (Qd x.block 0 (c.blocks.length - 1))),(!(Qd x.block 0 (c.blocks.length - 1)))=false,Qg Try.prog (.clos 52 [] []) [.int .i64 x.val,.int .i64 0,.int .i64 1] (.bool (Qd x.val 0 1))])
 (hr:AvLe (.bool (!(Qd x.val 0 1))) res):G Try.prog E [.code (Qe Try.prog 67)] ⟨(z67_1 x c)++unds (Try.f67.ntmps - 2),[]⟩ :=
 Qi (n:=400) (evs:=[.v (.bool (Qd x.frm 0 500)),.b false,.v (.bool (Qd x.kind 1 3)),.b false,.v (.bool (Qd x.chan 0 1)),.b false,.v (.bool (Qd x.block 0 (c.blocks.length - 1))),.b false,.v (.bool (Qd x.val 0 1))]) (obs:=_) hE Try.func67 Ql (by kernel_rfl) ho hr
theorem f67W (x:Flt) (c:Cir) {E:Env} {rv:Bool} (hE:Qm Try.prog 67 (.bool rv) E)
 (h:(((Qd x.frm 0 500)=false→rv=true)∧((Qd x.frm 0 500)=true→(((Qd x.kind 1 3)=false→rv=true)∧((Qd x.kind 1 3)=true→(((Qd x.chan 0 1)=false→rv=true)∧((Qd x.chan 0 1)=true→((c.blocks.length≤9223372036854775807)∧(((Qd x.block 0 (c.blocks.length - 1))=false→rv=true)∧((Qd x.block 0 (c.blocks.length - 1))=true→rv=(!(Qd x.val 0 1)))))))))))):G Try.prog E [.code (Qe Try.prog 67)] ⟨[.agg [.int .i64 x.frm,.int .i64 x.kind,.int .i64 x.chan,.int .i64 x.block,.int .i64 x.val],.rptr [.rsl (Qf c.blocks) 0 c.blocks.length,.rsl (rowI c.cars) 0 c.cars.length] 0]++unds (Try.f67.ntmps - 2),[]⟩:=by
 rcases bft (!(Qd x.frm 0 500)) with hc0 | hc0
 · have h:=h.1 (bnT hc0)
   exact p67_start_0 x c hE ⟨(u52 (QC x.frm 0 500)),hc0,rfl,rfl,rfl,trivial⟩ (AvLe.of_eq (by rw [h]; try rfl))
 · have h:=h.2 (bnF hc0)
   rcases bft (!(Qd x.kind 1 3)) with hc1 | hc1
   · have h:=h.1 (bnT hc1)
     exact p67_start_1 x c hE ⟨(u52 (QC x.frm 0 500)),hc0,(u52 (QC x.kind 1 3)),hc1,rfl,rfl,trivial⟩ (AvLe.of_eq (by rw [h]; try rfl))
   · have h:=h.2 (bnF hc1)
     rcases bft (!(Qd x.chan 0 1)) with hc2 | hc2
     · have h:=h.1 (bnT hc2)
       exact p67_start_2 x c hE ⟨(u52 (QC x.frm 0 500)),hc0,(u52 (QC x.kind 1 3)),hc1,(u52 (QC x.chan 0 1)),hc2,rfl,trivial⟩ (AvLe.of_eq (by rw [h]; try rfl))
     · have h:=h.2 (bnF hc2)
       obtain ⟨h1,h⟩:=h
       rcases bft (!(Qd x.block 0 (c.blocks.length - 1))) with hc3 | hc3
       · have h:=h.1 (bnT hc3)
         exact p67_start_3 x c hE ⟨(u52 (QC x.frm 0 500)),hc0,(u52 (QC x.kind 1 3)),hc1,(u52 (QC x.chan 0 1)),hc2,(u53 (YK c x.block h1)),hc3,trivial⟩ (AvLe.of_eq (by rw [h]; try rfl))
       · have h:=h.2 (bnF hc3)
         exact p67_start_4 x c hE ⟨(u52 (QC x.frm 0 500)),hc0,(u52 (QC x.kind 1 3)),hc1,(u52 (QC x.chan 0 1)),hc2,(u53 (YK c x.block h1)),hc3,(u52 (QC x.val 0 1)),trivial⟩ (AvLe.of_eq (by rw [h]; try rfl))
theorem badP_ok (p:Prs) (ticks:Int) (c:Cir) (h:c.blocks.length≤9223372036854775807∧(0≤ticks∧ticks≤500)):Pure Try.prog 66 [.agg [.int .i64 p.at_,.int .i64 p.kind,.int .i64 p.block],.rptr [.int .i64 ticks] 0,.rptr [.rsl (Qf c.blocks) 0 c.blocks.length,.rsl (rowI c.cars) 0 c.cars.length] 0] (.bool (!XC c.blocks.length ticks p)):=QJ Try.func66 f66b fun E hE =>
 f66W p ticks c (rv:=!XC c.blocks.length ticks p) hE ⟨by omega,fun h1=>by simp [XC,h1],fun h1=>⟨fun h2=>by simp [XC,h2],fun h2=>⟨h.1,by simp [XC,h1,h2]⟩⟩⟩
theorem badF_ok (x:Flt) (c:Cir) (h:c.blocks.length≤9223372036854775807):Pure Try.prog 67 [.agg [.int .i64 x.frm,.int .i64 x.kind,.int .i64 x.chan,.int .i64 x.block,.int .i64 x.val],.rptr [.rsl (Qf c.blocks) 0 c.blocks.length,.rsl (rowI c.cars) 0 c.cars.length] 0] (.bool (!XQ c.blocks.length x)):=QJ Try.func67 f67b fun E hE =>
 f67W x c (rv:=!XQ c.blocks.length x) hE ⟨fun h1=>by simp [XQ,h1],fun h1=>⟨fun h2=>by simp [XQ,h2],fun h2=>⟨fun h3=>by simp [XQ,h3],fun h3=>⟨h,fun h4=>by simp [XQ,h4],fun h4=>by simp [XQ,h1,h2,h3,h4]⟩⟩⟩⟩
theorem f87b:Try.f87.body=some (Qe Try.prog 87):=by kernel_rfl
theorem u87 {a c k:List AV} {r:AV} (h:Pure Try.prog 87 (a++c++k) r):Qg Try.prog (.clos 87 a k) c r:=QG Try.func87 (by kernel_rfl) f87b h
def f87K0 (P:Program):List Item:=kAt 400 [.code (Qe P 87)] [.stop]
def f87S0 (l:(List Prs)) (ticks:Int) (c:Cir) (i:Nat):St:=⟨([.rsl (QI l) 0 l.length,.clos 66 [] [.rptr [.int .i64 ticks] 0,.rptr [.rsl (Qf c.blocks) 0 c.blocks.length,.rsl (rowI c.cars) 0 c.cars.length] 0]]++jj 5 ([.int .i64 (l.length:Int),.int .i64 (i:Int)]++Js 10)),[]⟩
def f87G0 (E:Env) (l:(List Prs)) (ticks:Int) (c:Cir) (i:Nat):Prop:=G Try.prog E (f87K0 Try.prog) (f87S0 l ticks c i )
abbrev z87_1 (ticks:Int) (c:Cir):List AV:=[.rptr [.int .i64 ticks] 0,.rptr [.rsl (Qf c.blocks) 0 c.blocks.length,.rsl (rowI c.cars) 0 c.cars.length] 0]
abbrev z87_2 (pe:Prs):List AV:=[.int .i64 pe.at_,.int .i64 pe.kind,.int .i64 pe.block]
theorem p87_start_0 (l:(List Prs)) (ticks:Int) (c:Cir) {E:Env} {rv:AV} (hE:Qm Try.prog 87 rv E) (ho:AllP [])
 (hg:G Try.prog E (f87K0 Try.prog) ⟨([.rsl (QI l) 0 l.length,.clos 66 [] (z87_1 ticks c)]++jj 5 ([.int .i64 (l.length:Int),.int .i64 0]++Js 10)),[]⟩):G Try.prog E [.code (Qe Try.prog 87)] ⟨[.rsl (QI l) 0 l.length,.clos 66 [] (z87_1 ticks c)]++unds (Try.f87.ntmps - 2),[]⟩ :=
 Qb (n:=400) (ds:=[]) (cs:=[]) (live:=[0,1,7,8]) (m:=0) (evs:=[.stop]) (obs:=_) hE.2.1 (hE.nogh _) Ql (by kernel_rfl) ho hg
theorem f87W (l:(List Prs)) (ticks:Int) (c:Cir) {E:Env} {rv:Int} (hE:Qm Try.prog 87 (.int .i64 rv) E)
 (h:f87G0 E l ticks c 0):G Try.prog E [.code (Qe Try.prog 87)] ⟨[.rsl (QI l) 0 l.length,.clos 66 [] [.rptr [.int .i64 ticks] 0,.rptr [.rsl (Qf c.blocks) 0 c.blocks.length,.rsl (rowI c.cars) 0 c.cars.length] 0]]++unds (Try.f87.ntmps - 2),[]⟩:=by
 exact p87_start_0 l ticks c hE trivial h
theorem p87_0_0 (l:(List Prs)) (ticks:Int) (c:Cir) (i:Nat) (pe:Prs) {E:Env} {res:AV} (hE:Qm Try.prog 87 res E) (ho:AllP [(decide ((i:Int)<(l.length:Int)))=true,0≤(i:Int)∧(i:Int)<(l.length:Int),((QI l).drop (0+(Int.toNat (i:Int))*3)).take 3=(z87_2 pe),Qg Try.prog (.clos 66 [] (z87_1 ticks c)) [.agg (z87_2 pe)] (.bool (!XC c.blocks.length ticks pe)),(!XC c.blocks.length ticks pe)=true])
 (hr:AvLe (.int .i64 (i:Int)) res):G Try.prog E (f87K0 Try.prog) (f87S0 l ticks c i ) :=
 Qi (n:=400) (evs:=[.b true,.ld (.agg (z87_2 pe)),.v (.bool (!XC c.blocks.length ticks pe)),.b true]) (obs:=_) hE Try.func87 Ql (by kernel_rfl) ho hr
theorem p87_0_1 (l:(List Prs)) (ticks:Int) (c:Cir) (i:Nat) (pe:Prs) {E:Env} {rv:AV} (hE:Qm Try.prog 87 rv E) (ho:AllP [(decide ((i:Int)<(l.length:Int)))=true,0≤(i:Int)∧(i:Int)<(l.length:Int),((QI l).drop (0+(Int.toNat (i:Int))*3)).take 3=(z87_2 pe),Qg Try.prog (.clos 66 [] (z87_1 ticks c)) [.agg (z87_2 pe)] (.bool (!XC c.blocks.length ticks pe)),(!XC c.blocks.length ticks pe)=false,InR .i64 ((i:Int)+1)])
 (hg:G Try.prog E (f87K0 Try.prog) ⟨([.rsl (QI l) 0 l.length,.clos 66 [] (z87_1 ticks c)]++jj 5 ([.int .i64 (l.length:Int),.int .i64 ((i:Int)+1)]++Js 10)),[]⟩):G Try.prog E (f87K0 Try.prog) (f87S0 l ticks c i ) :=
 Qb (n:=400) (ds:=[]) (cs:=[]) (live:=[0,1,7,8]) (m:=0) (evs:=[.b true,.ld (.agg (z87_2 pe)),.v (.bool (!XC c.blocks.length ticks pe)),.b false,.stop]) (obs:=_) hE.2.1 (hE.nogh _) Ql (by kernel_rfl) ho hg
theorem p87_0_2 (l:(List Prs)) (ticks:Int) (c:Cir) (i:Nat) {E:Env} {res:AV} (hE:Qm Try.prog 87 res E) (ho:AllP [(decide ((i:Int)<(l.length:Int)))=false])
 (hr:AvLe (.int .i64 (-1)) res):G Try.prog E (f87K0 Try.prog) (f87S0 l ticks c i ) :=
 Qi (n:=400) (evs:=[.b false]) (obs:=_) hE Try.func87 Ql (by kernel_rfl) ho hr
theorem f87W0 (l:(List Prs)) (ticks:Int) (c:Cir) (i:Nat) {E:Env} {rv:Int} (hE:Qm Try.prog 87 (.int .i64 rv) E)
 (h:(((i:Int)<(l.length:Int)→(∃ pe:Prs,l[i]?=some pe∧((c.blocks.length≤9223372036854775807∧(0≤ticks∧ticks≤500))∧(((!XC c.blocks.length ticks pe)=true→rv=(i:Int))∧((!XC c.blocks.length ticks pe)=false→((I6 ((i:Int)+1))∧f87G0 E l ticks c (i+1)))))))∧(¬ ((i:Int)<(l.length:Int))→rv=(-1)))):f87G0 E l ticks c i:=by
 rcases bft (decide ((i:Int)<(l.length:Int))) with hc0 | hc0
 · have h:=h.1 (odt hc0)
   obtain ⟨pe,h1,h⟩:=h
   obtain ⟨h2,h⟩:=h
   rcases bft (!XC c.blocks.length ticks pe) with hc1 | hc1
   · have h:=h.1 hc1
     exact p87_0_0 l ticks c i pe hE ⟨hc0,(Qk h1),(rp cPrs 3 0 3 h1),(u66 (badP_ok pe ticks c h2)),hc1,trivial⟩ (AvLe.of_eq (by rw [h]; try rfl))
   · have h:=h.2 hc1
     obtain ⟨q6_2,h⟩:=h
     exact p87_0_1 l ticks c i pe hE ⟨hc0,(Qk h1),(rp cPrs 3 0 3 h1),(u66 (badP_ok pe ticks c h2)),hc1,q6_2,trivial⟩ h
 · have h:=h.2 (odf hc0)
   exact p87_0_2 l ticks c i hE ⟨hc0,trivial⟩ (AvLe.of_eq (by rw [h]; try rfl))
theorem f88b:Try.f88.body=some (Qe Try.prog 88):=by kernel_rfl
theorem u88 {a c k:List AV} {r:AV} (h:Pure Try.prog 88 (a++c++k) r):Qg Try.prog (.clos 88 a k) c r:=QG Try.func88 (by kernel_rfl) f88b h
def f88K0 (P:Program):List Item:=kAt 400 [.code (Qe P 88)] [.stop]
def f88S0 (l:(List Flt)) (c:Cir) (i:Nat):St:=⟨([.rsl (Qj l) 0 l.length,.clos 67 [] [.rptr [.rsl (Qf c.blocks) 0 c.blocks.length,.rsl (rowI c.cars) 0 c.cars.length] 0]]++jj 5 ([.int .i64 (l.length:Int),.int .i64 (i:Int)]++Js 10)),[]⟩
def f88G0 (E:Env) (l:(List Flt)) (c:Cir) (i:Nat):Prop:=G Try.prog E (f88K0 Try.prog) (f88S0 l c i )
abbrev z88_1 (fe:Flt):List AV:=[.int .i64 fe.frm,.int .i64 fe.kind,.int .i64 fe.chan,.int .i64 fe.block,.int .i64 fe.val]
abbrev z88_2 (c:Cir):List AV:=[.rptr [.rsl (Qf c.blocks) 0 c.blocks.length,.rsl (rowI c.cars) 0 c.cars.length] 0]
theorem p88_start_0 (l:(List Flt)) (c:Cir) {E:Env} {rv:AV} (hE:Qm Try.prog 88 rv E) (ho:AllP [])
 (hg:G Try.prog E (f88K0 Try.prog) ⟨([.rsl (Qj l) 0 l.length,.clos 67 [] (z88_2 c)]++jj 5 ([.int .i64 (l.length:Int),.int .i64 0]++Js 10)),[]⟩):G Try.prog E [.code (Qe Try.prog 88)] ⟨[.rsl (Qj l) 0 l.length,.clos 67 [] (z88_2 c)]++unds (Try.f88.ntmps - 2),[]⟩ :=
 Qb (n:=400) (ds:=[]) (cs:=[]) (live:=[0,1,7,8]) (m:=0) (evs:=[.stop]) (obs:=_) hE.2.1 (hE.nogh _) Ql (by kernel_rfl) ho hg
theorem f88W (l:(List Flt)) (c:Cir) {E:Env} {rv:Int} (hE:Qm Try.prog 88 (.int .i64 rv) E)
 (h:f88G0 E l c 0):G Try.prog E [.code (Qe Try.prog 88)] ⟨[.rsl (Qj l) 0 l.length,.clos 67 [] [.rptr [.rsl (Qf c.blocks) 0 c.blocks.length,.rsl (rowI c.cars) 0 c.cars.length] 0]]++unds (Try.f88.ntmps - 2),[]⟩:=by
 exact p88_start_0 l c hE trivial h
theorem p88_0_0 (l:(List Flt)) (c:Cir) (i:Nat) (fe:Flt) {E:Env} {res:AV} (hE:Qm Try.prog 88 res E) (ho:AllP [(decide ((i:Int)<(l.length:Int)))=true,0≤(i:Int)∧(i:Int)<(l.length:Int),((Qj l).drop (0+(Int.toNat (i:Int))*5)).take 5=(z88_1 fe),Qg Try.prog (.clos 67 [] (z88_2 c)) [.agg (z88_1 fe)] (.bool (!XQ c.blocks.length fe)),(!XQ c.blocks.length fe)=true])
 (hr:AvLe (.int .i64 (i:Int)) res):G Try.prog E (f88K0 Try.prog) (f88S0 l c i ) :=
 Qi (n:=400) (evs:=[.b true,.ld (.agg (z88_1 fe)),.v (.bool (!XQ c.blocks.length fe)),.b true]) (obs:=_) hE Try.func88 Ql (by kernel_rfl) ho hr
theorem p88_0_1 (l:(List Flt)) (c:Cir) (i:Nat) (fe:Flt) {E:Env} {rv:AV} (hE:Qm Try.prog 88 rv E) (ho:AllP [(decide ((i:Int)<(l.length:Int)))=true,0≤(i:Int)∧(i:Int)<(l.length:Int),((Qj l).drop (0+(Int.toNat (i:Int))*5)).take 5=(z88_1 fe),Qg Try.prog (.clos 67 [] (z88_2 c)) [.agg (z88_1 fe)] (.bool (!XQ c.blocks.length fe)),(!XQ c.blocks.length fe)=false,InR .i64 ((i:Int)+1)])
 (hg:G Try.prog E (f88K0 Try.prog) ⟨([.rsl (Qj l) 0 l.length,.clos 67 [] (z88_2 c)]++jj 5 ([.int .i64 (l.length:Int),.int .i64 ((i:Int)+1)]++Js 10)),[]⟩):G Try.prog E (f88K0 Try.prog) (f88S0 l c i ) :=
 Qb (n:=400) (ds:=[]) (cs:=[]) (live:=[0,1,7,8]) (m:=0) (evs:=[.b true,.ld (.agg (z88_1 fe)),.v (.bool (!XQ c.blocks.length fe)),.b false,.stop]) (obs:=_) hE.2.1 (hE.nogh _) Ql (by kernel_rfl) ho hg
theorem p88_0_2 (l:(List Flt)) (c:Cir) (i:Nat) {E:Env} {res:AV} (hE:Qm Try.prog 88 res E) (ho:AllP [(decide ((i:Int)<(l.length:Int)))=false])
 (hr:AvLe (.int .i64 (-1)) res):G Try.prog E (f88K0 Try.prog) (f88S0 l c i ) :=
 Qi (n:=400) (evs:=[.b false]) (obs:=_) hE Try.func88 Ql (by kernel_rfl) ho hr
theorem f88W0 (l:(List Flt)) (c:Cir) (i:Nat) {E:Env} {rv:Int} (hE:Qm Try.prog 88 (.int .i64 rv) E)
 (h:(((i:Int)<(l.length:Int)→(∃ fe:Flt,l[i]?=some fe∧((c.blocks.length≤9223372036854775807)∧(((!XQ c.blocks.length fe)=true→rv=(i:Int))∧((!XQ c.blocks.length fe)=false→((I6 ((i:Int)+1))∧f88G0 E l c (i+1)))))))∧(¬ ((i:Int)<(l.length:Int))→rv=(-1)))):f88G0 E l c i:=by
 rcases bft (decide ((i:Int)<(l.length:Int))) with hc0 | hc0
 · have h:=h.1 (odt hc0)
   obtain ⟨fe,h1,h⟩:=h
   obtain ⟨h2,h⟩:=h
   rcases bft (!XQ c.blocks.length fe) with hc1 | hc1
   · have h:=h.1 hc1
     exact p88_0_0 l c i fe hE ⟨hc0,(Qk h1),(rp cFlt 5 0 5 h1),(u67 (badF_ok fe c h2)),hc1,trivial⟩ (AvLe.of_eq (by rw [h]; try rfl))
   · have h:=h.2 hc1
     obtain ⟨q6_2,h⟩:=h
     exact p88_0_1 l c i fe hE ⟨hc0,(Qk h1),(rp cFlt 5 0 5 h1),(u67 (badF_ok fe c h2)),hc1,q6_2,trivial⟩ h
 · have h:=h.2 (odf hc0)
   exact p88_0_2 l c i hE ⟨hc0,trivial⟩ (AvLe.of_eq (by rw [h]; try rfl))
theorem idxP_ok (l:List Prs) (ticks:Int) (c:Cir) (h:(c.blocks.length≤9223372036854775807∧(0≤ticks∧ticks≤500))∧l.length≤9223372036854775807):Pure Try.prog 87 [.rsl (QI l) 0 l.length,.clos 66 [] [.rptr [.int .i64 ticks] 0,.rptr [.rsl (Qf c.blocks) 0 c.blocks.length,.rsl (rowI c.cars) 0 c.cars.length] 0]] (.int .i64 (idxG (fun p=>!XC c.blocks.length ticks p) l)):=QJ Try.func87 f87b fun E hE=>by
 refine f87W l ticks c hE (Vw (fun p=>!XC c.blocks.length ticks p) l l.length 0 (by omega) (fun j x hj=>by omega) (fun i=>f87G0 E l ticks c i) (fun i hi' h1 h2=>?_) (fun _ h2=>?_))
 · have hx:l[i]?=some l[i]:=List.getElem?_eq_getElem hi'
   exact f87W0 l ticks c i hE ⟨fun _=>⟨_,hx,h.1,fun hp=>h1 _ hx hp,fun hp=>⟨by omega,h2 _ hx hp⟩⟩,fun h=>by omega⟩
 · exact f87W0 l ticks c _ hE ⟨fun h=>by omega,fun _=>h2⟩
theorem idxF_ok (l:List Flt) (c:Cir) (h:(c.blocks.length≤9223372036854775807)∧l.length≤9223372036854775807):Pure Try.prog 88 [.rsl (Qj l) 0 l.length,.clos 67 [] [.rptr [.rsl (Qf c.blocks) 0 c.blocks.length,.rsl (rowI c.cars) 0 c.cars.length] 0]] (.int .i64 (idxG (fun x=>!XQ c.blocks.length x) l)):=QJ Try.func88 f88b fun E hE=>by
 refine f88W l c hE (Vw (fun x=>!XQ c.blocks.length x) l l.length 0 (by omega) (fun j x hj=>by omega) (fun i=>f88G0 E l c i) (fun i hi' h1 h2=>?_) (fun _ h2=>?_))
 · have hx:l[i]?=some l[i]:=List.getElem?_eq_getElem hi'
   exact f88W0 l c i hE ⟨fun _=>⟨_,hx,h.1,fun hp=>h1 _ hx hp,fun hp=>⟨by omega,h2 _ hx hp⟩⟩,fun h=>by omega⟩
 · exact f88W0 l c _ hE ⟨fun h=>by omega,fun _=>h2⟩
theorem f68b:Try.f68.body=some (Qe Try.prog 68):=by kernel_rfl
theorem u68 {a c k:List AV} {r:AV} (h:Pure Try.prog 68 (a++c++k) r):Qg Try.prog (.clos 68 a k) c r:=QG Try.func68 (by kernel_rfl) f68b h
theorem p68_start_0 (l:(List Prs)) (ticks:Int) (c:Cir) {E:Env} {res:AV} (hE:Qm Try.prog 68 res E) (ho:AllP [Qg Try.prog (.clos 87 [] []) [.rsl (QI l) 0 l.length,.clos 66 [] [.rptr [.int .i64 ticks] 0,.rptr [.rsl (Qf c.blocks) 0 c.blocks.length,.rsl (rowI c.cars) 0 c.cars.length] 0]] (.int .i64 (idxG (fun p=>!XC c.blocks.length ticks p) l))])
 (hr:AvLe (.bool (decide ((idxG (fun p=>!XC c.blocks.length ticks p) l)≥0))) res):G Try.prog E [.code (Qe Try.prog 68)] ⟨[.rsl (QI l) 0 l.length,.clos 66 [] [.rptr [.int .i64 ticks] 0,.rptr [.rsl (Qf c.blocks) 0 c.blocks.length,.rsl (rowI c.cars) 0 c.cars.length] 0]]++unds (Try.f68.ntmps - 2),[]⟩ :=
 Qi (n:=400) (evs:=[.v (.int .i64 (idxG (fun p=>!XC c.blocks.length ticks p) l))]) (obs:=_) hE Try.func68 Ql (by kernel_rfl) ho hr
theorem f68W (l:(List Prs)) (ticks:Int) (c:Cir) {E:Env} {rv:Bool} (hE:Qm Try.prog 68 (.bool rv) E)
 (h:(((c.blocks.length≤9223372036854775807∧(0≤ticks∧ticks≤500))∧l.length≤9223372036854775807)∧rv=(decide ((idxG (fun p=>!XC c.blocks.length ticks p) l)≥0)))):G Try.prog E [.code (Qe Try.prog 68)] ⟨[.rsl (QI l) 0 l.length,.clos 66 [] [.rptr [.int .i64 ticks] 0,.rptr [.rsl (Qf c.blocks) 0 c.blocks.length,.rsl (rowI c.cars) 0 c.cars.length] 0]]++unds (Try.f68.ntmps - 2),[]⟩:=by
 obtain ⟨h1,h⟩:=h
 exact p68_start_0 l ticks c hE ⟨(u87 (idxP_ok l ticks c h1)),trivial⟩ (AvLe.of_eq (by rw [h]; try rfl))
theorem f69b:Try.f69.body=some (Qe Try.prog 69):=by kernel_rfl
theorem u69 {a c k:List AV} {r:AV} (h:Pure Try.prog 69 (a++c++k) r):Qg Try.prog (.clos 69 a k) c r:=QG Try.func69 (by kernel_rfl) f69b h
theorem p69_start_0 (l:(List Flt)) (c:Cir) {E:Env} {res:AV} (hE:Qm Try.prog 69 res E) (ho:AllP [Qg Try.prog (.clos 88 [] []) [.rsl (Qj l) 0 l.length,.clos 67 [] [.rptr [.rsl (Qf c.blocks) 0 c.blocks.length,.rsl (rowI c.cars) 0 c.cars.length] 0]] (.int .i64 (idxG (fun x=>!XQ c.blocks.length x) l))])
 (hr:AvLe (.bool (decide ((idxG (fun x=>!XQ c.blocks.length x) l)≥0))) res):G Try.prog E [.code (Qe Try.prog 69)] ⟨[.rsl (Qj l) 0 l.length,.clos 67 [] [.rptr [.rsl (Qf c.blocks) 0 c.blocks.length,.rsl (rowI c.cars) 0 c.cars.length] 0]]++unds (Try.f69.ntmps - 2),[]⟩ :=
 Qi (n:=400) (evs:=[.v (.int .i64 (idxG (fun x=>!XQ c.blocks.length x) l))]) (obs:=_) hE Try.func69 Ql (by kernel_rfl) ho hr
theorem f69W (l:(List Flt)) (c:Cir) {E:Env} {rv:Bool} (hE:Qm Try.prog 69 (.bool rv) E)
 (h:(((c.blocks.length≤9223372036854775807)∧l.length≤9223372036854775807)∧rv=(decide ((idxG (fun x=>!XQ c.blocks.length x) l)≥0)))):G Try.prog E [.code (Qe Try.prog 69)] ⟨[.rsl (Qj l) 0 l.length,.clos 67 [] [.rptr [.rsl (Qf c.blocks) 0 c.blocks.length,.rsl (rowI c.cars) 0 c.cars.length] 0]]++unds (Try.f69.ntmps - 2),[]⟩:=by
 obtain ⟨h1,h⟩:=h
 exact p69_start_0 l c hE ⟨(u88 (idxF_ok l c h1)),trivial⟩ (AvLe.of_eq (by rw [h]; try rfl))
theorem QaI (l:List Prs) (ticks:Int) (c:Cir) (h:(c.blocks.length≤9223372036854775807∧(0≤ticks∧ticks≤500))∧l.length≤9223372036854775807):Pure Try.prog 68 [.rsl (QI l) 0 l.length,.clos 66 [] [.rptr [.int .i64 ticks] 0,.rptr [.rsl (Qf c.blocks) 0 c.blocks.length,.rsl (rowI c.cars) 0 c.cars.length] 0]] (.bool (l.any fun p=>!XC c.blocks.length ticks p)):=QJ Try.func68 f68b fun E hE =>
 f68W l ticks c hE ⟨h,(Wn _ l).symm⟩
theorem anyF_ok (l:List Flt) (c:Cir) (h:(c.blocks.length≤9223372036854775807)∧l.length≤9223372036854775807):Pure Try.prog 69 [.rsl (Qj l) 0 l.length,.clos 67 [] [.rptr [.rsl (Qf c.blocks) 0 c.blocks.length,.rsl (rowI c.cars) 0 c.cars.length] 0]] (.bool (l.any fun x=>!XQ c.blocks.length x)):=QJ Try.func69 f69b fun E hE =>
 f69W l c hE ⟨h,(Wn _ l).symm⟩
theorem f15b:Try.f15.body=some (Qe Try.prog 15):=by kernel_rfl
theorem u15 {a c k:List AV} {r:AV} (h:Pure Try.prog 15 (a++c++k) r):Qg Try.prog (.clos 15 a k) c r:=QG Try.func15 (by kernel_rfl) f15b h
theorem p15_start_0 (c:Cir) {E:Env} {res:AV} (hE:Qm Try.prog 15 res E) (ho:AllP [(decide ((c.blocks.length:Int) > 15))=true])
 (hr:AvLe (.bool true) res):G Try.prog E [.code (Qe Try.prog 15)] ⟨[.agg [.rsl (Qf c.blocks) 0 c.blocks.length,.rsl (rowI c.cars) 0 c.cars.length]]++unds (Try.f15.ntmps - 1),[]⟩ :=
 Qi (n:=400) (evs:=[.b true]) (obs:=_) hE Try.func15 Ql (by kernel_rfl) ho hr
theorem p15_start_1 (c:Cir) {E:Env} {res:AV} (hE:Qm Try.prog 15 res E) (ho:AllP [(decide ((c.blocks.length:Int) > 15))=false])
 (hr:AvLe (.bool (decide ((c.cars.length:Int) > 12))) res):G Try.prog E [.code (Qe Try.prog 15)] ⟨[.agg [.rsl (Qf c.blocks) 0 c.blocks.length,.rsl (rowI c.cars) 0 c.cars.length]]++unds (Try.f15.ntmps - 1),[]⟩ :=
 Qi (n:=400) (evs:=[.b false]) (obs:=_) hE Try.func15 Ql (by kernel_rfl) ho hr
theorem f15W (c:Cir) {E:Env} {rv:Bool} (hE:Qm Try.prog 15 (.bool rv) E)
 (h:(((c.blocks.length:Int) > 15→rv=true)∧(¬ ((c.blocks.length:Int) > 15)→rv=(decide ((c.cars.length:Int) > 12))))):G Try.prog E [.code (Qe Try.prog 15)] ⟨[.agg [.rsl (Qf c.blocks) 0 c.blocks.length,.rsl (rowI c.cars) 0 c.cars.length]]++unds (Try.f15.ntmps - 1),[]⟩:=by
 rcases bft (decide ((c.blocks.length:Int) > 15)) with hc0 | hc0
 · have h:=h.1 (odt hc0)
   exact p15_start_0 c hE ⟨hc0,trivial⟩ (AvLe.of_eq (by rw [h]; try rfl))
 · have h:=h.2 (odf hc0)
   exact p15_start_1 c hE ⟨hc0,trivial⟩ (AvLe.of_eq (by rw [h]; try rfl))
theorem f18b:Try.f18.body=some (Qe Try.prog 18):=by kernel_rfl
theorem u18 {a c k:List AV} {r:AV} (h:Pure Try.prog 18 (a++c++k) r):Qg Try.prog (.clos 18 a k) c r:=QG Try.func18 (by kernel_rfl) f18b h
theorem p18_start_0 (c:Cir) {E:Env} {res:AV} (hE:Qm Try.prog 18 res E) (ho:AllP [0=0,0=0,(0+c.blocks.length)≤2147483648,((Qf c.blocks).drop 0).take (c.blocks.length*4)=(Qf c.blocks),(Qf c.blocks).length=(c.blocks.length*4),noRefs (Qf c.blocks)=true,0=0,0=0,(0+c.cars.length)≤2147483648,((rowI c.cars).drop 0).take (c.cars.length*1)=(rowI c.cars),(rowI c.cars).length=(c.cars.length*1),noRefs (rowI c.cars)=true,2≤2,1=1,1=1])
 (hr:AvLe (.agg [.rsl (Qf c.blocks) 0 (0+c.blocks.length),.rsl (rowI c.cars) 0 (0+c.cars.length)]) res):G Try.prog E [.code (Qe Try.prog 18)] ⟨[.agg [.rsl (Qf c.blocks) 0 c.blocks.length,.rsl (rowI c.cars) 0 c.cars.length]]++unds (Try.f18.ntmps - 1),[]⟩ :=
 Qi (n:=400) (evs:=[.cs (Qf c.blocks),.cs (rowI c.cars)]) (obs:=_) hE Try.func18 Ql (by kernel_rfl) ho hr
theorem f18W (c:Cir) {E:Env} {rv:Cir} (hE:Qm Try.prog 18 (.agg [.rsl (Qf rv.blocks) 0 rv.blocks.length,.rsl (rowI rv.cars) 0 rv.cars.length]) E)
 (h:((0+c.blocks.length)≤2147483648∧((0+c.cars.length)≤2147483648∧rv=c))):G Try.prog E [.code (Qe Try.prog 18)] ⟨[.agg [.rsl (Qf c.blocks) 0 c.blocks.length,.rsl (rowI c.cars) 0 c.cars.length]]++unds (Try.f18.ntmps - 1),[]⟩:=by
 obtain ⟨h1,h⟩:=h
 obtain ⟨h2,h⟩:=h
 exact p18_start_0 c hE ⟨rfl,rfl,h1,(by exact YO cBk (fun _=>rfl) c.blocks),(by exact QH cBk (fun _=>rfl) c.blocks),(by exact VQ cBk (fun _=>rfl) c.blocks),rfl,rfl,h2,(by exact YO cI (fun _=>rfl) c.cars),(by exact QH cI (fun _=>rfl) c.cars),(by exact VQ cI (fun _=>rfl) c.cars),(by decide),rfl,rfl,trivial⟩ (AvLe.of_eq (by rw [h]; rw [(show AV.rsl (Qf c.blocks) 0 (0+c.blocks.length)=AV.rsl (Qf c.blocks) 0 c.blocks.length from by rw [show (0+c.blocks.length)=c.blocks.length from by simp])]; rw [(show AV.rsl (rowI c.cars) 0 (0+c.cars.length)=AV.rsl (rowI c.cars) 0 c.cars.length from by rw [show (0+c.cars.length)=c.cars.length from by simp])]; try rfl))
theorem f39b:Try.f39.body=some (Qe Try.prog 39):=by kernel_rfl
theorem u39 {a c k:List AV} {r:AV} (h:Pure Try.prog 39 (a++c++k) r):Qg Try.prog (.clos 39 a k) c r:=QG Try.func39 (by kernel_rfl) f39b h
def f39K0 (P:Program):List Item:=kAt 400 [.code (Qe P 39)] [.b false,.stop]
def f39S0 (a:(List Int)) (b:(List Int)) (i:Nat):St:=⟨([.rsl (rowI a) 0 a.length,.rsl (rowI b) 0 b.length,J,J,J,.int .i64 (i:Int)]++Js 20),[]⟩
def f39G0 (E:Env) (a:(List Int)) (b:(List Int)) (i:Nat):Prop:=G Try.prog E (f39K0 Try.prog) (f39S0 a b i )
theorem p39_start_0 (a:(List Int)) (b:(List Int)) {E:Env} {res:AV} (hE:Qm Try.prog 39 res E) (ho:AllP [((a.length:Int) != (b.length:Int))=true])
 (hr:AvLe (.bool false) res):G Try.prog E [.code (Qe Try.prog 39)] ⟨[.rsl (rowI a) 0 a.length,.rsl (rowI b) 0 b.length]++unds (Try.f39.ntmps - 2),[]⟩ :=
 Qi (n:=400) (evs:=[.b true]) (obs:=_) hE Try.func39 Ql (by kernel_rfl) ho hr
theorem p39_start_1 (a:(List Int)) (b:(List Int)) {E:Env} {rv:AV} (hE:Qm Try.prog 39 rv E) (ho:AllP [((a.length:Int) != (b.length:Int))=false])
 (hg:G Try.prog E (f39K0 Try.prog) ⟨([.rsl (rowI a) 0 a.length,.rsl (rowI b) 0 b.length,J,J,J,.int .i64 0]++Js 20),[]⟩):G Try.prog E [.code (Qe Try.prog 39)] ⟨[.rsl (rowI a) 0 a.length,.rsl (rowI b) 0 b.length]++unds (Try.f39.ntmps - 2),[]⟩ :=
 Qb (n:=400) (ds:=[]) (cs:=[]) (live:=[0,1,5]) (m:=0) (evs:=[.b false,.stop]) (obs:=_) hE.2.1 (hE.nogh _) Ql (by kernel_rfl) ho hg
theorem f39W (a:(List Int)) (b:(List Int)) {E:Env} {rv:Bool} (hE:Qm Try.prog 39 (.bool rv) E)
 (h:((¬ ((a.length:Int)=(b.length:Int))→rv=false)∧((a.length:Int)=(b.length:Int)→f39G0 E a b 0))):G Try.prog E [.code (Qe Try.prog 39)] ⟨[.rsl (rowI a) 0 a.length,.rsl (rowI b) 0 b.length]++unds (Try.f39.ntmps - 2),[]⟩:=by
 rcases bft ((a.length:Int) != (b.length:Int)) with hc0 | hc0
 · have h:=h.1 (bneT hc0)
   exact p39_start_0 a b hE ⟨hc0,trivial⟩ (AvLe.of_eq (by rw [h]; try rfl))
 · have h:=h.2 (bneF hc0)
   exact p39_start_1 a b hE ⟨hc0,trivial⟩ h
theorem p39_0_0 (a:(List Int)) (b:(List Int)) (i:Nat) (e:Int) (e1:Int) {E:Env} {res:AV} (hE:Qm Try.prog 39 res E) (ho:AllP [(decide ((i:Int)<(a.length:Int)))=true,0≤(i:Int)∧(i:Int)<(a.length:Int),((rowI a).drop (0+(Int.toNat (i:Int))*1)).take 1=[.int .i64 e],0≤(i:Int)∧(i:Int)<(b.length:Int),((rowI b).drop (0+(Int.toNat (i:Int))*1)).take 1=[.int .i64 e1],(e != e1)=true])
 (hr:AvLe (.bool false) res):G Try.prog E (f39K0 Try.prog) (f39S0 a b i ) :=
 Qi (n:=400) (evs:=[.b true,.ld (.int .i64 e),.ld (.int .i64 e1),.b true]) (obs:=_) hE Try.func39 Ql (by kernel_rfl) ho hr
theorem p39_0_1 (a:(List Int)) (b:(List Int)) (i:Nat) (e:Int) (e1:Int) {E:Env} {rv:AV} (hE:Qm Try.prog 39 rv E) (ho:AllP [(decide ((i:Int)<(a.length:Int)))=true,0≤(i:Int)∧(i:Int)<(a.length:Int),((rowI a).drop (0+(Int.toNat (i:Int))*1)).take 1=[.int .i64 e],0≤(i:Int)∧(i:Int)<(b.length:Int),((rowI b).drop (0+(Int.toNat (i:Int))*1)).take 1=[.int .i64 e1],(e != e1)=false,InR .i64 ((i:Int)+1)])
 (hg:G Try.prog E (f39K0 Try.prog) ⟨([.rsl (rowI a) 0 a.length,.rsl (rowI b) 0 b.length,J,J,J,.int .i64 ((i:Int)+1)]++Js 20),[]⟩):G Try.prog E (f39K0 Try.prog) (f39S0 a b i ) :=
 Qb (n:=400) (ds:=[]) (cs:=[]) (live:=[0,1,5]) (m:=0) (evs:=[.b true,.ld (.int .i64 e),.ld (.int .i64 e1),.b false,.stop]) (obs:=_) hE.2.1 (hE.nogh _) Ql (by kernel_rfl) ho hg
theorem p39_0_2 (a:(List Int)) (b:(List Int)) (i:Nat) {E:Env} {res:AV} (hE:Qm Try.prog 39 res E) (ho:AllP [(decide ((i:Int)<(a.length:Int)))=false])
 (hr:AvLe (.bool true) res):G Try.prog E (f39K0 Try.prog) (f39S0 a b i ) :=
 Qi (n:=400) (evs:=[.b false]) (obs:=_) hE Try.func39 Ql (by kernel_rfl) ho hr
theorem f39W0 (a:(List Int)) (b:(List Int)) (i:Nat) {E:Env} {rv:Bool} (hE:Qm Try.prog 39 (.bool rv) E)
 (h:(((i:Int)<(a.length:Int)→(∃ e:Int,a[i]?=some e∧(∃ e1:Int,b[i]?=some e1∧((¬ (e=e1)→rv=false)∧(e=e1→((I6 ((i:Int)+1))∧f39G0 E a b (i+1)))))))∧(¬ ((i:Int)<(a.length:Int))→rv=true))):f39G0 E a b i:=by
 rcases bft (decide ((i:Int)<(a.length:Int))) with hc0 | hc0
 · have h:=h.1 (odt hc0)
   obtain ⟨e,h1,h⟩:=h
   obtain ⟨e1,h2,h⟩:=h
   rcases bft (e != e1) with hc1 | hc1
   · have h:=h.1 (bneT hc1)
     exact p39_0_0 a b i e e1 hE ⟨hc0,(Qk h1),(rp cI 1 0 1 h1),(Qk h2),(rp cI 1 0 1 h2),hc1,trivial⟩ (AvLe.of_eq (by rw [h]; try rfl))
   · have h:=h.2 (bneF hc1)
     obtain ⟨q8_2,h⟩:=h
     exact p39_0_1 a b i e e1 hE ⟨hc0,(Qk h1),(rp cI 1 0 1 h1),(Qk h2),(rp cI 1 0 1 h2),hc1,q8_2,trivial⟩ h
 · have h:=h.2 (odf hc0)
   exact p39_0_2 a b i hE ⟨hc0,trivial⟩ (AvLe.of_eq (by rw [h]; try rfl))
theorem f42b:Try.f42.body=some (Qe Try.prog 42):=by kernel_rfl
theorem u42 {a c k:List AV} {r:AV} (h:Pure Try.prog 42 (a++c++k) r):Qg Try.prog (.clos 42 a k) c r:=QG Try.func42 (by kernel_rfl) f42b h
theorem p42_start_0 {E:Env} {res:AV} (hE:Qm Try.prog 42 res E) (ho:AllP [2≤2,0=0,0=0])
 (hr:AvLe (.agg [.rsl [.int .i64 2,.bool true,.int .i64 3,.bool true,.int .i64 3,.bool false,.int .i64 0,.bool false,.int .i64 2,.bool false,.int .i64 0,.bool true,.int .i64 1,.bool false,.int .i64 0,.bool false] 0 4,.rsl [.int .i64 0,.int .i64 2] 0 2]) res):G Try.prog E [.code (Qe Try.prog 42)] ⟨[]++unds (Try.f42.ntmps - 0),[]⟩ :=
 Qi (n:=400) (evs:=[]) (obs:=_) hE Try.func42 Ql (by kernel_rfl) ho hr
theorem f42W {E:Env} {rv:Cir} (hE:Qm Try.prog 42 (.agg [.rsl (Qf rv.blocks) 0 rv.blocks.length,.rsl (rowI rv.cars) 0 rv.cars.length]) E)
 (h:rv=(⟨[(⟨2,true,3,true⟩:Bk),(⟨3,false,0,false⟩:Bk),(⟨2,false,0,true⟩:Bk),(⟨1,false,0,false⟩:Bk)],[0,2]⟩:Cir)):G Try.prog E [.code (Qe Try.prog 42)] ⟨[]++unds (Try.f42.ntmps - 0),[]⟩:=by
 exact p42_start_0 hE ⟨(by decide),rfl,rfl,trivial⟩ (AvLe.of_eq (by rw [h]; try rfl))
def farB (c:Cir):Bool:=decide (c.blocks.length > 15) || decide (c.cars.length > 12)
theorem far_ok (c:Cir):Pure Try.prog 15 [.agg [.rsl (Qf c.blocks) 0 c.blocks.length,.rsl (rowI c.cars) 0 c.cars.length]] (.bool (farB c)):=QJ Try.func15 f15b fun E hE =>
 f15W c (rv:=farB c) hE ⟨fun h=>by rw [farB,decide_eq_true (show c.blocks.length > 15 by omega)]; rfl,fun h=>by rw [farB,decide_eq_false (show ¬ c.blocks.length > 15 by omega),Bool.false_or,decide_eq_decide]; omega⟩
theorem copied_ok (c:Cir) (h:c.blocks.length≤2147483648∧c.cars.length≤2147483648):Pure Try.prog 18 [.agg [.rsl (Qf c.blocks) 0 c.blocks.length,.rsl (rowI c.cars) 0 c.cars.length]] (.agg [.rsl (Qf c.blocks) 0 c.blocks.length,.rsl (rowI c.cars) 0 c.cars.length]):=QJ Try.func18 f18b fun E hE=>f18W c (rv:=c) hE ⟨by omega,by omega,rfl⟩
def exC:Cir:=⟨[⟨2,true,3,true⟩,⟨3,false,0,false⟩,⟨2,false,0,true⟩,⟨1,false,0,false⟩],[0,2]⟩
theorem Xp:Pure Try.prog 42 [] (.agg [.rsl (Qf exC.blocks) 0 exC.blocks.length,.rsl (rowI exC.cars) 0 exC.cars.length]):=QJ Try.func42 f42b fun E hE=>f42W (rv:=exC) hE rfl
theorem yK (a b:List Int) (h:a.length≤9223372036854775807∧a=b):Pure Try.prog 39 [.rsl (rowI a) 0 a.length,.rsl (rowI b) 0 b.length] (.bool true):=QJ Try.func39 f39b fun E hE=>by
 obtain ⟨h,rfl⟩:=h
 have key:∀ (d i:Nat),i+d=a.length→f39G0 E a a i:=by
  intro d
  induction d with
  | zero=>intro i hi; exact f39W0 a a i (rv:=true) hE ⟨fun h=>by omega,fun _=>rfl⟩
  | succ d ih =>
   intro i hi
   have hx:a[i]?=some a[i]:=List.getElem?_eq_getElem (by omega)
   exact f39W0 a a i (rv:=true) hE ⟨fun _=>⟨_,hx,_,hx,fun h=>absurd rfl h,fun _=>⟨by omega,ih (i+1) (by omega)⟩⟩,fun h=>by omega⟩
 exact f39W a a (rv:=true) hE ⟨fun h=>absurd rfl h,fun _=>key a.length 0 (by omega)⟩
theorem f43b:Try.f43.body=some (Qe Try.prog 43):=by kernel_rfl
theorem u43 {a c k:List AV} {r:AV} (h:Pure Try.prog 43 (a++c++k) r):Qg Try.prog (.clos 43 a k) c r:=QG Try.func43 (by kernel_rfl) f43b h
abbrev yC (c:Cir):List AV:=[.rsl (Qf c.blocks) 0 c.blocks.length,.rsl (rowI c.cars) 0 c.cars.length]
abbrev z43_2 (c:Cir) (ticks:Int) (l:(List Prs)) (f:(List Flt)):List AV:=[.agg (yC c),.int .i64 ticks,.rsl (QI l) 0 l.length,.rsl (Qj f) 0 f.length]
abbrev z43_3 (l:(List Prs)) (ticks:Int) (c:Cir):List AV:=[.rsl (QI l) 0 l.length,.clos 66 [] [.rptr [.int .i64 ticks] 0,.rptr (yC c) 0]]
theorem p43_start_0 (c:Cir) (ticks:Int) (l:(List Prs)) (f:(List Flt)) {E:Env} {res:AV} (hE:Qm Try.prog 43 res E) (ho:AllP [Qg Try.prog (.clos 30 [] []) [.agg (yC c)] (.int .i64 (Qy c)),((Qy c) != 0)=true])
 (hr:AvLe (.int .i64 (Qy c)) res):G Try.prog E [.code (Qe Try.prog 43)] ⟨(z43_2 c ticks l f)++unds (Try.f43.ntmps - 4),[]⟩ :=
 Qi (n:=400) (evs:=[.v (.int .i64 (Qy c)),.b true]) (obs:=_) hE Try.func43 Ql (by kernel_rfl) ho hr
theorem p43_start_1 (c:Cir) (ticks:Int) (l:(List Prs)) (f:(List Flt)) {E:Env} {res:AV} (hE:Qm Try.prog 43 res E) (ho:AllP [Qg Try.prog (.clos 30 [] []) [.agg (yC c)] (.int .i64 (Qy c)),((Qy c) != 0)=false,Qg Try.prog (.clos 52 [] []) [.int .i64 ticks,.int .i64 0,.int .i64 500] (.bool (Qd ticks 0 500)),(!(Qd ticks 0 500))=true])
 (hr:AvLe (.int .i64 1) res):G Try.prog E [.code (Qe Try.prog 43)] ⟨(z43_2 c ticks l f)++unds (Try.f43.ntmps - 4),[]⟩ :=
 Qi (n:=400) (evs:=[.v (.int .i64 (Qy c)),.b false,.v (.bool (Qd ticks 0 500)),.b true]) (obs:=_) hE Try.func43 Ql (by kernel_rfl) ho hr
theorem p43_start_2 (c:Cir) (ticks:Int) (l:(List Prs)) (f:(List Flt)) {E:Env} {res:AV} (hE:Qm Try.prog 43 res E) (ho:AllP [Qg Try.prog (.clos 30 [] []) [.agg (yC c)] (.int .i64 (Qy c)),((Qy c) != 0)=false,Qg Try.prog (.clos 52 [] []) [.int .i64 ticks,.int .i64 0,.int .i64 500] (.bool (Qd ticks 0 500)),(!(Qd ticks 0 500))=false,(decide ((l.length:Int) > 200))=true])
 (hr:AvLe (.int .i64 2) res):G Try.prog E [.code (Qe Try.prog 43)] ⟨(z43_2 c ticks l f)++unds (Try.f43.ntmps - 4),[]⟩ :=
 Qi (n:=400) (evs:=[.v (.int .i64 (Qy c)),.b false,.v (.bool (Qd ticks 0 500)),.b false,.b true]) (obs:=_) hE Try.func43 Ql (by kernel_rfl) ho hr
theorem p43_start_3 (c:Cir) (ticks:Int) (l:(List Prs)) (f:(List Flt)) {E:Env} {res:AV} (hE:Qm Try.prog 43 res E) (ho:AllP [Qg Try.prog (.clos 30 [] []) [.agg (yC c)] (.int .i64 (Qy c)),((Qy c) != 0)=false,Qg Try.prog (.clos 52 [] []) [.int .i64 ticks,.int .i64 0,.int .i64 500] (.bool (Qd ticks 0 500)),(!(Qd ticks 0 500))=false,(decide ((l.length:Int) > 200))=false,Qg Try.prog (.clos 68 [] []) (z43_3 l ticks c) (.bool (l.any (fun p=>!XC c.blocks.length ticks p))),(l.any (fun p=>!XC c.blocks.length ticks p))=true])
 (hr:AvLe (.int .i64 21) res):G Try.prog E [.code (Qe Try.prog 43)] ⟨(z43_2 c ticks l f)++unds (Try.f43.ntmps - 4),[]⟩ :=
 Qi (n:=400) (evs:=[.v (.int .i64 (Qy c)),.b false,.v (.bool (Qd ticks 0 500)),.b false,.b false,.v (.bool (l.any (fun p=>!XC c.blocks.length ticks p))),.b true]) (obs:=_) hE Try.func43 Ql (by kernel_rfl) ho hr
theorem p43_start_4 (c:Cir) (ticks:Int) (l:(List Prs)) (f:(List Flt)) {E:Env} {res:AV} (hE:Qm Try.prog 43 res E) (ho:AllP [Qg Try.prog (.clos 30 [] []) [.agg (yC c)] (.int .i64 (Qy c)),((Qy c) != 0)=false,Qg Try.prog (.clos 52 [] []) [.int .i64 ticks,.int .i64 0,.int .i64 500] (.bool (Qd ticks 0 500)),(!(Qd ticks 0 500))=false,(decide ((l.length:Int) > 200))=false,Qg Try.prog (.clos 68 [] []) (z43_3 l ticks c) (.bool (l.any (fun p=>!XC c.blocks.length ticks p))),(l.any (fun p=>!XC c.blocks.length ticks p))=false,(decide ((f.length:Int) > 5))=true])
 (hr:AvLe (.int .i64 2) res):G Try.prog E [.code (Qe Try.prog 43)] ⟨(z43_2 c ticks l f)++unds (Try.f43.ntmps - 4),[]⟩ :=
 Qi (n:=400) (evs:=[.v (.int .i64 (Qy c)),.b false,.v (.bool (Qd ticks 0 500)),.b false,.b false,.v (.bool (l.any (fun p=>!XC c.blocks.length ticks p))),.b false,.b true]) (obs:=_) hE Try.func43 Ql (by kernel_rfl) ho hr
theorem p43_start_5 (c:Cir) (ticks:Int) (l:(List Prs)) (f:(List Flt)) {E:Env} {res:AV} (hE:Qm Try.prog 43 res E) (ho:AllP [Qg Try.prog (.clos 30 [] []) [.agg (yC c)] (.int .i64 (Qy c)),((Qy c) != 0)=false,Qg Try.prog (.clos 52 [] []) [.int .i64 ticks,.int .i64 0,.int .i64 500] (.bool (Qd ticks 0 500)),(!(Qd ticks 0 500))=false,(decide ((l.length:Int) > 200))=false,Qg Try.prog (.clos 68 [] []) (z43_3 l ticks c) (.bool (l.any (fun p=>!XC c.blocks.length ticks p))),(l.any (fun p=>!XC c.blocks.length ticks p))=false,(decide ((f.length:Int) > 5))=false,Qg Try.prog (.clos 69 [] []) [.rsl (Qj f) 0 f.length,.clos 67 [] [.rptr (yC c) 0]] (.bool (f.any (fun x=>!XQ c.blocks.length x))),(f.any (fun x=>!XQ c.blocks.length x))=true])
 (hr:AvLe (.int .i64 22) res):G Try.prog E [.code (Qe Try.prog 43)] ⟨(z43_2 c ticks l f)++unds (Try.f43.ntmps - 4),[]⟩ :=
 Qi (n:=400) (evs:=[.v (.int .i64 (Qy c)),.b false,.v (.bool (Qd ticks 0 500)),.b false,.b false,.v (.bool (l.any (fun p=>!XC c.blocks.length ticks p))),.b false,.b false,.v (.bool (f.any (fun x=>!XQ c.blocks.length x))),.b true]) (obs:=_) hE Try.func43 Ql (by kernel_rfl) ho hr
theorem p43_start_6 (c:Cir) (ticks:Int) (l:(List Prs)) (f:(List Flt)) {E:Env} {res:AV} (hE:Qm Try.prog 43 res E) (ho:AllP [Qg Try.prog (.clos 30 [] []) [.agg (yC c)] (.int .i64 (Qy c)),((Qy c) != 0)=false,Qg Try.prog (.clos 52 [] []) [.int .i64 ticks,.int .i64 0,.int .i64 500] (.bool (Qd ticks 0 500)),(!(Qd ticks 0 500))=false,(decide ((l.length:Int) > 200))=false,Qg Try.prog (.clos 68 [] []) (z43_3 l ticks c) (.bool (l.any (fun p=>!XC c.blocks.length ticks p))),(l.any (fun p=>!XC c.blocks.length ticks p))=false,(decide ((f.length:Int) > 5))=false,Qg Try.prog (.clos 69 [] []) [.rsl (Qj f) 0 f.length,.clos 67 [] [.rptr (yC c) 0]] (.bool (f.any (fun x=>!XQ c.blocks.length x))),(f.any (fun x=>!XQ c.blocks.length x))=false])
 (hr:AvLe (.int .i64 0) res):G Try.prog E [.code (Qe Try.prog 43)] ⟨(z43_2 c ticks l f)++unds (Try.f43.ntmps - 4),[]⟩ :=
 Qi (n:=400) (evs:=[.v (.int .i64 (Qy c)),.b false,.v (.bool (Qd ticks 0 500)),.b false,.b false,.v (.bool (l.any (fun p=>!XC c.blocks.length ticks p))),.b false,.b false,.v (.bool (f.any (fun x=>!XQ c.blocks.length x))),.b false]) (obs:=_) hE Try.func43 Ql (by kernel_rfl) ho hr
theorem f43W (c:Cir) (ticks:Int) (l:(List Prs)) (f:(List Flt)) {E:Env} {rv:Int} (hE:Qm Try.prog 43 (.int .i64 rv) E)
 (h:((c.blocks.length≤9223372036854775807∧c.cars.length≤9223372036854775807)∧((¬ ((Qy c)=0)→rv=(Qy c))∧((Qy c)=0→(((Qd ticks 0 500)=false→rv=1)∧((Qd ticks 0 500)=true→(((l.length:Int) > 200→rv=2)∧(¬ ((l.length:Int) > 200)→(((c.blocks.length≤9223372036854775807∧(0≤ticks∧ticks≤500))∧l.length≤9223372036854775807)∧(((l.any (fun p=>!XC c.blocks.length ticks p))=true→rv=21)∧((l.any (fun p=>!XC c.blocks.length ticks p))=false→(((f.length:Int) > 5→rv=2)∧(¬ ((f.length:Int) > 5)→(((c.blocks.length≤9223372036854775807)∧f.length≤9223372036854775807)∧(((f.any (fun x=>!XQ c.blocks.length x))=true→rv=22)∧((f.any (fun x=>!XQ c.blocks.length x))=false→rv=0)))))))))))))))):G Try.prog E [.code (Qe Try.prog 43)] ⟨[.agg [.rsl (Qf c.blocks) 0 c.blocks.length,.rsl (rowI c.cars) 0 c.cars.length],.int .i64 ticks,.rsl (QI l) 0 l.length,.rsl (Qj f) 0 f.length]++unds (Try.f43.ntmps - 4),[]⟩:=by
 obtain ⟨h1,h⟩:=h
 rcases bft ((Qy c) != 0) with hc0 | hc0
 · have h:=h.1 (bneT hc0)
   exact p43_start_0 c ticks l f hE ⟨(u30 (Yp c h1)),hc0,trivial⟩ (AvLe.of_eq (by rw [h]; try rfl))
 · have h:=h.2 (bneF hc0)
   rcases bft (!(Qd ticks 0 500)) with hc1 | hc1
   · have h:=h.1 (bnT hc1)
     exact p43_start_1 c ticks l f hE ⟨(u30 (Yp c h1)),hc0,(u52 (QC ticks 0 500)),hc1,trivial⟩ (AvLe.of_eq (by rw [h]; try rfl))
   · have h:=h.2 (bnF hc1)
     rcases bft (decide ((l.length:Int) > 200)) with hc2 | hc2
     · have h:=h.1 (odt hc2)
       exact p43_start_2 c ticks l f hE ⟨(u30 (Yp c h1)),hc0,(u52 (QC ticks 0 500)),hc1,hc2,trivial⟩ (AvLe.of_eq (by rw [h]; try rfl))
     · have h:=h.2 (odf hc2)
       obtain ⟨h2,h⟩:=h
       rcases bft (l.any (fun p=>!XC c.blocks.length ticks p)) with hc3 | hc3
       · have h:=h.1 hc3
         exact p43_start_3 c ticks l f hE ⟨(u30 (Yp c h1)),hc0,(u52 (QC ticks 0 500)),hc1,hc2,(u68 (QaI l ticks c h2)),hc3,trivial⟩ (AvLe.of_eq (by rw [h]; try rfl))
       · have h:=h.2 hc3
         rcases bft (decide ((f.length:Int) > 5)) with hc4 | hc4
         · have h:=h.1 (odt hc4)
           exact p43_start_4 c ticks l f hE ⟨(u30 (Yp c h1)),hc0,(u52 (QC ticks 0 500)),hc1,hc2,(u68 (QaI l ticks c h2)),hc3,hc4,trivial⟩ (AvLe.of_eq (by rw [h]; try rfl))
         · have h:=h.2 (odf hc4)
           obtain ⟨h3,h⟩:=h
           rcases bft (f.any (fun x=>!XQ c.blocks.length x)) with hc5 | hc5
           · have h:=h.1 hc5
             exact p43_start_5 c ticks l f hE ⟨(u30 (Yp c h1)),hc0,(u52 (QC ticks 0 500)),hc1,hc2,(u68 (QaI l ticks c h2)),hc3,hc4,(u69 (anyF_ok f c h3)),hc5,trivial⟩ (AvLe.of_eq (by rw [h]; try rfl))
           · have h:=h.2 hc5
             exact p43_start_6 c ticks l f hE ⟨(u30 (Yp c h1)),hc0,(u52 (QC ticks 0 500)),hc1,hc2,(u68 (QaI l ticks c h2)),hc3,hc4,(u69 (anyF_ok f c h3)),hc5,trivial⟩ (AvLe.of_eq (by rw [h]; try rfl))
def QY (c:Cir) (ticks:Int) (l:List Prs) (f:List Flt):Int :=
 if Qy c=0 then (if Qd ticks 0 500=true then (if l.length > 200 then 2 else if (l.any fun p=>!XC c.blocks.length ticks p)=true then 21 else if f.length > 5 then 2 else if (f.any fun x=>!XQ c.blocks.length x)=true then 22 else 0) else 1) else Qy c
theorem qj (c:Cir) (ticks:Int) (l:List Prs) (f:List Flt) (h:(c.blocks.length≤9223372036854775807∧c.cars.length≤9223372036854775807)∧l.length≤9223372036854775807∧f.length≤9223372036854775807):Pure Try.prog 43 [.agg [.rsl (Qf c.blocks) 0 c.blocks.length,.rsl (rowI c.cars) 0 c.cars.length],.int .i64 ticks,.rsl (QI l) 0 l.length,.rsl (Qj f) 0 f.length] (.int .i64 (QY c ticks l f)):=QJ Try.func43 f43b fun E hE=>by
 refine f43W c ticks l f (rv:=QY c ticks l f) hE ⟨h.1,fun h0=>by rw [QY,if_neg h0],fun h0=>⟨fun h1=>by rw [QY,if_pos h0,h1]; rfl,fun h1=>⟨fun h2=>by rw [QY,if_pos h0,if_pos h1,if_pos (by omega)],fun h2=>⟨⟨⟨h.1.1,QS.1 h1⟩,h.2.1⟩,fun h3=>by rw [QY,if_pos h0,if_pos h1,if_neg (by omega),if_pos h3],fun h3=>⟨fun h4=>by rw [QY,if_pos h0,if_pos h1,if_neg (by omega),if_neg (by rw [h3]; simp),if_pos (by omega)],fun h4=>⟨⟨h.1.1,h.2.2⟩,fun h5=>by rw [QY,if_pos h0,if_pos h1,if_neg (by omega),if_neg (by rw [h3]; simp),if_neg (by omega),if_pos h5],fun h5=>by rw [QY,if_pos h0,if_pos h1,if_neg (by omega),if_neg (by rw [h3]; simp),if_neg (by omega),if_neg (by rw [h5]; simp)]⟩⟩⟩⟩⟩⟩
end Go.Proofs.Ytgdfkjjgdkejfaa
namespace Go.Proofs.Ytgdfkjjgdkejfaa
open Go Ax
open Go.Proofs
structure Trk where
 c:Cir
 faults:List Flt
 cars:List Car
 gos:List Bool
 tick:Int
 stopped:Int
 wrecked:Bool
 rounds:Int
 gone:Int
structure Rd4 where
 k1:List Said
 k2:List Said
 k3:List Said
def InC (c:Cir) (b:Int):Prop:=0≤b∧Int.toNat b<c.blocks.length
def CarsIn (T:Trk):Prop:=T.cars.length≤2147483648∧∀ x ∈ T.cars,InC T.c x.spot.block
def bkAt (c:Cir) (b:Int):Bk:=c.blocks.getD (Int.toNat b) ⟨0,false,0,false⟩
def XB (c:Cir) (x:Car):Bool:=x.spot.ran == (bkAt c x.spot.block).time
def Qo (s:Said) (n:Int):Bool:=s.a == n && s.b == n
theorem row_two {l:List Int} {a b:Int} (h0:l[0]?=some a) (h1:l[1]?=some b):((rowI l).drop 0).take 2=[.int .i64 a,.int .i64 b]:=by
 match l,h0,h1 with
 | x :: y :: r,h0,h1 =>
  simp at h0 h1
  subst h0; subst h1
  rfl
theorem yy {α:Type} {p:α→Bool} {l:List α} {i:Nat} {x:α} (hx:l[i]?=some x):(l.take (i+1)).any p=((l.take i).any p || p x):=by
 rw [List.take_add_one,hx]; simp [List.any_append]
theorem any_all {α:Type} {p:α→Bool} {l:List α}:(l.take l.length).any p=l.any p:=by rw [List.take_length]
/-- What is so: a block is taken,a car is at its end,all restraints are shut. -/
def isI (c:Cir) (cars:List Car) (kind b:Int):Bool :=
 if kind=1 then cars.any (fun x=>x.spot.block == b)
 else if kind=2 then cars.any (fun x=>x.spot.block == b && XB c x)
 else !(cars.any (fun x=>x.spot.block == b && x.spot.opn))
/-- What both channels say,after the faults. -/
def Xl (kind b tick:Int) (s:Int × Int) (f:Flt):Int × Int :=
 if f.kind=kind∧f.block=b∧tick≥f.frm then (if f.chan=0 then (f.val,s.2) else (s.1,f.val)) else s
def saysV (fs:List Flt) (kind b tick n:Int):Int × Int:=fs.foldl (Xl kind b tick) (n,n)
def b2i (b:Bool):Int:=if b then 1 else 0
def Xn (T:Trk) (kind b:Int):Said:=⟨(saysV T.faults kind b T.tick (b2i (isI T.c T.cars kind b))).1,(saysV T.faults kind b T.tick (b2i (isI T.c T.cars kind b))).2⟩
def QF (T:Trk) (kind:Int):List Said:=(List.range T.c.blocks.length).map fun b:Nat=>Xn T kind (b:Int)
def Qh (T:Trk):Rd4:=⟨QF T 1,QF T 2,QF T 3⟩
structure TrkIn (T:Trk):Prop where
 cars:CarsIn T
 flt:∀ f ∈ T.faults,f.chan=0 ∨ f.chan=1
 nf:T.faults.length≤1000000
 nb:T.c.blocks.length≤1000000
def Qw (s:Said):Bool:=s.a != s.b
theorem KB {α:Type} {f:Nat→α} {n k:Nat} (h:k<n):((List.range n).map f).take (k+1)=((List.range n).map f).take k++[f k]:=by
 rw [List.take_add_one,List.getElem?_map,List.getElem?_range h]; rfl
theorem Vx {α β:Type} {f:β→α→β} {s:β} {l:List α} {i:Nat} {x:α} (hx:l[i]?=some x):(l.take (i+1)).foldl f s=f ((l.take i).foldl f s) x:=by
 rw [List.take_add_one,hx]; simp [List.foldl_append]
theorem qt {T:Trk} {k:Int} {b:Nat} (h:b<T.c.blocks.length):(QF T k).take (b+1)=(QF T k).take b++[Xn T k b]:=KB (f:=fun b:Nat=>Xn T k (b:Int)) h
theorem scal_Spt (l:List Spt):∀ x ∈ Qp l,XA x=true:=fun c hc=>by
 obtain ⟨x,-,h⟩:=List.mem_flatMap.1 hc
 simp only [cSpt,List.mem_cons,List.not_mem_nil,or_false] at h
 rcases h with rfl | rfl | rfl <;> rfl
theorem yJ (l:List Said):∀ x ∈ Qa l,XA x=true:=fun c hc=>by
 obtain ⟨x,-,h⟩:=List.mem_flatMap.1 hc
 simp only [QP,List.mem_cons,List.not_mem_nil,or_false] at h
 rcases h with rfl | rfl <;> rfl
theorem f93b:Try.f93.body=some (Qe Try.prog 93):=by kernel_rfl
theorem u93 {a c k:List AV} {r:AV} (h:Pure Try.prog 93 (a++c++k) r):Qg Try.prog (.clos 93 a k) c r:=QG Try.func93 (by kernel_rfl) f93b h
theorem p93_start_0 (s:Said) (n:Int) {E:Env} {res:AV} (hE:Qm Try.prog 93 res E) (ho:AllP [])
 (hr:AvLe (.bool (s.a == n && (s.b == n && true))) res):G Try.prog E [.code (Qe Try.prog 93)] ⟨[.agg [.int .i64 s.a,.int .i64 s.b],.int .i64 n]++unds (Try.f93.ntmps - 2),[]⟩ :=
 Qi (n:=400) (evs:=[]) (obs:=_) hE Try.func93 Ql (by kernel_rfl) ho hr
theorem f93W (s:Said) (n:Int) {E:Env} {rv:Bool} (hE:Qm Try.prog 93 (.bool rv) E)
 (h:rv=(s.a == n && (s.b == n && true))):G Try.prog E [.code (Qe Try.prog 93)] ⟨[.agg [.int .i64 s.a,.int .i64 s.b],.int .i64 n]++unds (Try.f93.ntmps - 2),[]⟩:=by
 exact p93_start_0 s n hE trivial (AvLe.of_eq (by rw [h]; try rfl))
theorem f89b:Try.f89.body=some (Qe Try.prog 89):=by kernel_rfl
theorem u89 {a c k:List AV} {r:AV} (h:Pure Try.prog 89 (a++c++k) r):Qg Try.prog (.clos 89 a k) c r:=QG Try.func89 (by kernel_rfl) f89b h
theorem p89_start_0 (x:Car) (T:Trk) (be:Bk) {E:Env} {res:AV} (hE:Qm Try.prog 89 res E) (ho:AllP [0≤x.spot.block∧x.spot.block<(T.c.blocks.length:Int),((Qf T.c.blocks).drop ((0+(Int.toNat x.spot.block)*4)+0)).take 1=[.int .i64 be.time]])
 (hr:AvLe (.bool (x.spot.ran == be.time)) res):G Try.prog E [.code (Qe Try.prog 89)] ⟨[.rptr [.rsl (Qf T.c.blocks) 0 T.c.blocks.length,.rsl (rowI T.c.cars) 0 T.c.cars.length,.rsl (Qj T.faults) 0 T.faults.length,.rsl (Qc T.cars) 0 T.cars.length,.rsl (rowB T.gos) 0 T.gos.length,.int .i64 T.tick,.int .i64 T.stopped,.bool T.wrecked,.int .i64 T.rounds,.int .i64 T.gone] 0,.agg [.int .i64 x.spot.block,.int .i64 x.spot.ran,.bool x.spot.opn,.int .i64 x.stood]]++unds (Try.f89.ntmps - 2),[]⟩ :=
 Qi (n:=400) (evs:=[.auto,.auto,.auto,.ld (.int .i64 be.time)]) (obs:=_) hE Try.func89 Ql (by kernel_rfl) ho hr
theorem f89W (x:Car) (T:Trk) {E:Env} {rv:Bool} (hE:Qm Try.prog 89 (.bool rv) E)
 (h:(0≤x.spot.block∧(∃ be:Bk,T.c.blocks[Int.toNat x.spot.block]?=some be∧rv=(x.spot.ran == be.time)))):G Try.prog E [.code (Qe Try.prog 89)] ⟨[.rptr [.rsl (Qf T.c.blocks) 0 T.c.blocks.length,.rsl (rowI T.c.cars) 0 T.c.cars.length,.rsl (Qj T.faults) 0 T.faults.length,.rsl (Qc T.cars) 0 T.cars.length,.rsl (rowB T.gos) 0 T.gos.length,.int .i64 T.tick,.int .i64 T.stopped,.bool T.wrecked,.int .i64 T.rounds,.int .i64 T.gone] 0,.agg [.int .i64 x.spot.block,.int .i64 x.spot.ran,.bool x.spot.opn,.int .i64 x.stood]]++unds (Try.f89.ntmps - 2),[]⟩:=by
 obtain ⟨h2,h⟩:=h
 obtain ⟨be,h1,h⟩:=h
 exact p89_start_0 x T be hE ⟨(Qx h2 h1),(rp cBk 4 0 1 h1),trivial⟩ (AvLe.of_eq (by rw [h]; try rfl))
theorem QD (s:Said) (n:Int):Pure Try.prog 93 [.agg [.int .i64 s.a,.int .i64 s.b],.int .i64 n] (.bool (Qo s n)):=QJ Try.func93 f93b fun E hE=>f93W s n (rv:=Qo s n) hE (by simp [Qo])
theorem bk_at {c:Cir} {b:Int} (h:InC c b):c.blocks[Int.toNat b]?=some (bkAt c b):=getD_some h.2
theorem yo (T:Trk) (x:Car) (h:InC T.c x.spot.block):Pure Try.prog 89 [.rptr [.rsl (Qf T.c.blocks) 0 T.c.blocks.length,.rsl (rowI T.c.cars) 0 T.c.cars.length,.rsl (Qj T.faults) 0 T.faults.length,.rsl (Qc T.cars) 0 T.cars.length,.rsl (rowB T.gos) 0 T.gos.length,.int .i64 T.tick,.int .i64 T.stopped,.bool T.wrecked,.int .i64 T.rounds,.int .i64 T.gone] 0,.agg [.int .i64 x.spot.block,.int .i64 x.spot.ran,.bool x.spot.opn,.int .i64 x.stood]] (.bool (XB T.c x)):=QJ Try.func89 f89b fun E hE =>
 f89W x T (rv:=XB T.c x) hE ⟨h.1,_,bk_at h,rfl⟩
theorem f90b:Try.f90.body=some (Qe Try.prog 90):=by kernel_rfl
theorem u90 {a c k:List AV} {r:AV} (h:Pure Try.prog 90 (a++c++k) r):Qg Try.prog (.clos 90 a k) c r:=QG Try.func90 (by kernel_rfl) f90b h
def WL (P:Program):List Item:=kAt 400 [.code (Qe P 90)] [.stop]
def QaB (kind:Int) (b:Int) (T:Trk) (taken:Bool) (rests:Bool) (shut:Bool) (i:Nat):St:=⟨([.rptr [.rsl (Qf T.c.blocks) 0 T.c.blocks.length,.rsl (rowI T.c.cars) 0 T.c.cars.length,.rsl (Qj T.faults) 0 T.faults.length,.rsl (Qc T.cars) 0 T.cars.length,.rsl (rowB T.gos) 0 T.gos.length,.int .i64 T.tick,.int .i64 T.stopped,.bool T.wrecked,.int .i64 T.rounds,.int .i64 T.gone] 0,.int .i64 kind,.int .i64 b,J,J,J,J,.bool taken,.bool rests,.bool shut]++jj 5 ([.rsl (Qc T.cars) 0 T.cars.length,.int .i64 (T.cars.length:Int),.int .i64 (i:Int)]++Js 30)),[]⟩
def f90G0 (E:Env) (kind:Int) (b:Int) (T:Trk) (taken:Bool) (rests:Bool) (shut:Bool) (i:Nat):Prop:=G Try.prog E (WL Try.prog) (QaB kind b T taken rests shut i )
abbrev Qac (T:Trk):List AV:=[.rsl (Qf T.c.blocks) 0 T.c.blocks.length,.rsl (rowI T.c.cars) 0 T.c.cars.length,.rsl (Qj T.faults) 0 T.faults.length,.rsl (Qc T.cars) 0 T.cars.length,.rsl (rowB T.gos) 0 T.gos.length,.int .i64 T.tick,.int .i64 T.stopped,.bool T.wrecked,.int .i64 T.rounds,.int .i64 T.gone]
abbrev qZ (ce:Car):List AV:=[.int .i64 ce.spot.block,.int .i64 ce.spot.ran,.bool ce.spot.opn,.int .i64 ce.stood]
abbrev z90_3 (T:Trk) (i:Nat):List AV:=[.rsl (Qc T.cars) 0 T.cars.length,.int .i64 (T.cars.length:Int),.int .i64 ((i:Int)+1)]++Js 30
theorem p90_start_0 (kind:Int) (b:Int) (T:Trk) {E:Env} {rv:AV} (hE:Qm Try.prog 90 rv E) (ho:AllP [])
 (hg:G Try.prog E (WL Try.prog) ⟨([.rptr (Qac T) 0,.int .i64 kind,.int .i64 b,J,J,J,J,.bool false,.bool false,.bool true]++jj 5 ([.rsl (Qc T.cars) 0 T.cars.length,.int .i64 (T.cars.length:Int),.int .i64 0]++Js 30)),[]⟩):G Try.prog E [.code (Qe Try.prog 90)] ⟨[.rptr (Qac T) 0,.int .i64 kind,.int .i64 b]++unds (Try.f90.ntmps - 3),[]⟩ :=
 Qb (n:=400) (ds:=[]) (cs:=[]) (live:=[0,1,2,7,8,9,15,16,17]) (m:=0) (evs:=[.stop]) (obs:=_) hE.2.1 (hE.nogh _) Ql (by kernel_rfl) ho hg
theorem f90W (kind:Int) (b:Int) (T:Trk) {E:Env} {rv:Bool} (hE:Qm Try.prog 90 (.bool rv) E)
 (h:f90G0 E kind b T false false true 0):G Try.prog E [.code (Qe Try.prog 90)] ⟨[.rptr [.rsl (Qf T.c.blocks) 0 T.c.blocks.length,.rsl (rowI T.c.cars) 0 T.c.cars.length,.rsl (Qj T.faults) 0 T.faults.length,.rsl (Qc T.cars) 0 T.cars.length,.rsl (rowB T.gos) 0 T.gos.length,.int .i64 T.tick,.int .i64 T.stopped,.bool T.wrecked,.int .i64 T.rounds,.int .i64 T.gone] 0,.int .i64 kind,.int .i64 b]++unds (Try.f90.ntmps - 3),[]⟩:=by
 exact p90_start_0 kind b T hE trivial h
theorem p90_0_0 (kind:Int) (b:Int) (T:Trk) (taken:Bool) (rests:Bool) (shut:Bool) (i:Nat) (ce:Car) {E:Env} {rv:AV} (hE:Qm Try.prog 90 rv E) (ho:AllP [(decide ((i:Int)<(T.cars.length:Int)))=true,0≤(i:Int)∧(i:Int)<(T.cars.length:Int),((Qc T.cars).drop (0+(Int.toNat (i:Int))*4)).take 4=(qZ ce),4≤4,(ce.spot.block == b)=true,rests=true,shut=true,InR .i64 ((i:Int)+1)])
 (hg:G Try.prog E (WL Try.prog) ⟨([.rptr (Qac T) 0,.int .i64 kind,.int .i64 b,J,J,J,J,.bool true,.bool true,.bool (!ce.spot.opn)]++jj 5 (z90_3 T i)),[]⟩):G Try.prog E (WL Try.prog) (QaB kind b T taken rests shut i ) :=
 Qb (n:=400) (ds:=[]) (cs:=[]) (live:=[0,1,2,7,8,9,15,16,17]) (m:=0) (evs:=[.b true,.ld (.agg (qZ ce)),.b true,.b true,.b true,.stop]) (obs:=_) hE.2.1 (hE.nogh _) Ql (by kernel_rfl) ho hg
theorem p90_0_1 (kind:Int) (b:Int) (T:Trk) (taken:Bool) (rests:Bool) (shut:Bool) (i:Nat) (ce:Car) {E:Env} {rv:AV} (hE:Qm Try.prog 90 rv E) (ho:AllP [(decide ((i:Int)<(T.cars.length:Int)))=true,0≤(i:Int)∧(i:Int)<(T.cars.length:Int),((Qc T.cars).drop (0+(Int.toNat (i:Int))*4)).take 4=(qZ ce),4≤4,(ce.spot.block == b)=true,rests=true,shut=false,InR .i64 ((i:Int)+1)])
 (hg:G Try.prog E (WL Try.prog) ⟨([.rptr (Qac T) 0,.int .i64 kind,.int .i64 b,J,J,J,J,.bool true,.bool true,.bool false]++jj 5 (z90_3 T i)),[]⟩):G Try.prog E (WL Try.prog) (QaB kind b T taken rests shut i ) :=
 Qb (n:=400) (ds:=[]) (cs:=[]) (live:=[0,1,2,7,8,9,15,16,17]) (m:=0) (evs:=[.b true,.ld (.agg (qZ ce)),.b true,.b true,.b false,.stop]) (obs:=_) hE.2.1 (hE.nogh _) Ql (by kernel_rfl) ho hg
theorem p90_0_2 (kind:Int) (b:Int) (T:Trk) (taken:Bool) (rests:Bool) (shut:Bool) (i:Nat) (ce:Car) {E:Env} {rv:AV} (hE:Qm Try.prog 90 rv E) (ho:AllP [(decide ((i:Int)<(T.cars.length:Int)))=true,0≤(i:Int)∧(i:Int)<(T.cars.length:Int),((Qc T.cars).drop (0+(Int.toNat (i:Int))*4)).take 4=(qZ ce),4≤4,(ce.spot.block == b)=true,rests=false,Qg Try.prog (.clos 89 [] []) [.rptr (Qac T) 0,.agg (qZ ce)] (.bool (XB T.c ce)),shut=true,InR .i64 ((i:Int)+1)])
 (hg:G Try.prog E (WL Try.prog) ⟨([.rptr (Qac T) 0,.int .i64 kind,.int .i64 b,J,J,J,J,.bool true,.bool (XB T.c ce),.bool (!ce.spot.opn)]++jj 5 (z90_3 T i)),[]⟩):G Try.prog E (WL Try.prog) (QaB kind b T taken rests shut i ) :=
 Qb (n:=400) (ds:=[]) (cs:=[]) (live:=[0,1,2,7,8,9,15,16,17]) (m:=0) (evs:=[.b true,.ld (.agg (qZ ce)),.b true,.b false,.v (.bool (XB T.c ce)),.b true,.stop]) (obs:=_) hE.2.1 (hE.nogh _) Ql (by kernel_rfl) ho hg
theorem p90_0_3 (kind:Int) (b:Int) (T:Trk) (taken:Bool) (rests:Bool) (shut:Bool) (i:Nat) (ce:Car) {E:Env} {rv:AV} (hE:Qm Try.prog 90 rv E) (ho:AllP [(decide ((i:Int)<(T.cars.length:Int)))=true,0≤(i:Int)∧(i:Int)<(T.cars.length:Int),((Qc T.cars).drop (0+(Int.toNat (i:Int))*4)).take 4=(qZ ce),4≤4,(ce.spot.block == b)=true,rests=false,Qg Try.prog (.clos 89 [] []) [.rptr (Qac T) 0,.agg (qZ ce)] (.bool (XB T.c ce)),shut=false,InR .i64 ((i:Int)+1)])
 (hg:G Try.prog E (WL Try.prog) ⟨([.rptr (Qac T) 0,.int .i64 kind,.int .i64 b,J,J,J,J,.bool true,.bool (XB T.c ce),.bool false]++jj 5 (z90_3 T i)),[]⟩):G Try.prog E (WL Try.prog) (QaB kind b T taken rests shut i ) :=
 Qb (n:=400) (ds:=[]) (cs:=[]) (live:=[0,1,2,7,8,9,15,16,17]) (m:=0) (evs:=[.b true,.ld (.agg (qZ ce)),.b true,.b false,.v (.bool (XB T.c ce)),.b false,.stop]) (obs:=_) hE.2.1 (hE.nogh _) Ql (by kernel_rfl) ho hg
theorem p90_0_4 (kind:Int) (b:Int) (T:Trk) (taken:Bool) (rests:Bool) (shut:Bool) (i:Nat) (ce:Car) {E:Env} {rv:AV} (hE:Qm Try.prog 90 rv E) (ho:AllP [(decide ((i:Int)<(T.cars.length:Int)))=true,0≤(i:Int)∧(i:Int)<(T.cars.length:Int),((Qc T.cars).drop (0+(Int.toNat (i:Int))*4)).take 4=(qZ ce),4≤4,(ce.spot.block == b)=false,InR .i64 ((i:Int)+1)])
 (hg:G Try.prog E (WL Try.prog) ⟨([.rptr (Qac T) 0,.int .i64 kind,.int .i64 b,J,J,J,J,.bool taken,.bool rests,.bool shut]++jj 5 (z90_3 T i)),[]⟩):G Try.prog E (WL Try.prog) (QaB kind b T taken rests shut i ) :=
 Qb (n:=400) (ds:=[]) (cs:=[]) (live:=[0,1,2,7,8,9,15,16,17]) (m:=0) (evs:=[.b true,.ld (.agg (qZ ce)),.b false,.stop]) (obs:=_) hE.2.1 (hE.nogh _) Ql (by kernel_rfl) ho hg
theorem p90_0_5 (kind:Int) (b:Int) (T:Trk) (taken:Bool) (rests:Bool) (shut:Bool) (i:Nat) {E:Env} {res:AV} (hE:Qm Try.prog 90 res E) (ho:AllP [(decide ((i:Int)<(T.cars.length:Int)))=false,(kind == 1)=true])
 (hr:AvLe (.bool taken) res):G Try.prog E (WL Try.prog) (QaB kind b T taken rests shut i ) :=
 Qi (n:=400) (evs:=[.b false,.b true]) (obs:=_) hE Try.func90 Ql (by kernel_rfl) ho hr
theorem p90_0_6 (kind:Int) (b:Int) (T:Trk) (taken:Bool) (rests:Bool) (shut:Bool) (i:Nat) {E:Env} {res:AV} (hE:Qm Try.prog 90 res E) (ho:AllP [(decide ((i:Int)<(T.cars.length:Int)))=false,(kind == 1)=false,(kind == 2)=true])
 (hr:AvLe (.bool rests) res):G Try.prog E (WL Try.prog) (QaB kind b T taken rests shut i ) :=
 Qi (n:=400) (evs:=[.b false,.b false,.b true]) (obs:=_) hE Try.func90 Ql (by kernel_rfl) ho hr
theorem p90_0_7 (kind:Int) (b:Int) (T:Trk) (taken:Bool) (rests:Bool) (shut:Bool) (i:Nat) {E:Env} {res:AV} (hE:Qm Try.prog 90 res E) (ho:AllP [(decide ((i:Int)<(T.cars.length:Int)))=false,(kind == 1)=false,(kind == 2)=false])
 (hr:AvLe (.bool shut) res):G Try.prog E (WL Try.prog) (QaB kind b T taken rests shut i ) :=
 Qi (n:=400) (evs:=[.b false,.b false,.b false]) (obs:=_) hE Try.func90 Ql (by kernel_rfl) ho hr
theorem f90W0 (kind:Int) (b:Int) (T:Trk) (taken:Bool) (rests:Bool) (shut:Bool) (i:Nat) {E:Env} {rv:Bool} (hE:Qm Try.prog 90 (.bool rv) E)
 (h:(((i:Int)<(T.cars.length:Int)→(∃ ce:Car,T.cars[i]?=some ce∧((ce.spot.block=b→((rests=true→((shut=true→((I6 ((i:Int)+1))∧f90G0 E kind b T true true (!ce.spot.opn) (i+1)))∧(shut=false→((I6 ((i:Int)+1))∧f90G0 E kind b T true true false (i+1)))))∧(rests=false→((InC T.c ce.spot.block)∧((shut=true→((I6 ((i:Int)+1))∧f90G0 E kind b T true (XB T.c ce) (!ce.spot.opn) (i+1)))∧(shut=false→((I6 ((i:Int)+1))∧f90G0 E kind b T true (XB T.c ce) false (i+1))))))))∧(¬ (ce.spot.block=b)→((I6 ((i:Int)+1))∧f90G0 E kind b T taken rests shut (i+1))))))∧(¬ ((i:Int)<(T.cars.length:Int))→((kind=1→rv=taken)∧(¬ (kind=1)→((kind=2→rv=rests)∧(¬ (kind=2)→rv=shut))))))):f90G0 E kind b T taken rests shut i:=by
 rcases bft (decide ((i:Int)<(T.cars.length:Int))) with hc0 | hc0
 · have h:=h.1 (odt hc0)
   obtain ⟨ce,h1,h⟩:=h
   rcases bft (ce.spot.block == b) with hc1 | hc1
   · have h:=h.1 (eq_of_beq hc1)
     rcases bft rests with hc2 | hc2
     · have h:=h.1 hc2
       rcases bft shut with hc3 | hc3
       · have h:=h.1 hc3
         obtain ⟨q8_4,h⟩:=h
         exact p90_0_0 kind b T taken rests shut i ce hE ⟨hc0,(Qk h1),(rp cCar 4 0 4 h1),(by decide),hc1,hc2,hc3,q8_4,trivial⟩ h
       · have h:=h.2 hc3
         obtain ⟨q8_4,h⟩:=h
         exact p90_0_1 kind b T taken rests shut i ce hE ⟨hc0,(Qk h1),(rp cCar 4 0 4 h1),(by decide),hc1,hc2,hc3,q8_4,trivial⟩ h
     · have h:=h.2 hc2
       obtain ⟨h2,h⟩:=h
       rcases bft shut with hc3 | hc3
       · have h:=h.1 hc3
         obtain ⟨q9_4,h⟩:=h
         exact p90_0_2 kind b T taken rests shut i ce hE ⟨hc0,(Qk h1),(rp cCar 4 0 4 h1),(by decide),hc1,hc2,(u89 (yo T ce h2)),hc3,q9_4,trivial⟩ h
       · have h:=h.2 hc3
         obtain ⟨q9_4,h⟩:=h
         exact p90_0_3 kind b T taken rests shut i ce hE ⟨hc0,(Qk h1),(rp cCar 4 0 4 h1),(by decide),hc1,hc2,(u89 (yo T ce h2)),hc3,q9_4,trivial⟩ h
   · have h:=h.2 (ne_of_beq_false hc1)
     obtain ⟨q6_2,h⟩:=h
     exact p90_0_4 kind b T taken rests shut i ce hE ⟨hc0,(Qk h1),(rp cCar 4 0 4 h1),(by decide),hc1,q6_2,trivial⟩ h
 · have h:=h.2 (odf hc0)
   rcases bft (kind == 1) with hc1 | hc1
   · have h:=h.1 (eq_of_beq hc1)
     exact p90_0_5 kind b T taken rests shut i hE ⟨hc0,hc1,trivial⟩ (AvLe.of_eq (by rw [h]; try rfl))
   · have h:=h.2 (ne_of_beq_false hc1)
     rcases bft (kind == 2) with hc2 | hc2
     · have h:=h.1 (eq_of_beq hc2)
       exact p90_0_6 kind b T taken rests shut i hE ⟨hc0,hc1,hc2,trivial⟩ (AvLe.of_eq (by rw [h]; try rfl))
     · have h:=h.2 (ne_of_beq_false hc2)
       exact p90_0_7 kind b T taken rests shut i hE ⟨hc0,hc1,hc2,trivial⟩ (AvLe.of_eq (by rw [h]; try rfl))
theorem f46b:Try.f46.body=some (Qe Try.prog 46):=by kernel_rfl
def f46K0 (P:Program):List Item:=kAt 400 [.code (Qe P 46)] [.stop]
def f46S0 (T:Trk) (v0:List Spt) (i:Nat) (g0:Nat):St:=⟨([J,J,.sl 0 g0 0 v0.length 3]++jj 5 ([.rsl (Qc T.cars) 0 T.cars.length,.int .i64 (T.cars.length:Int),.int .i64 (i:Int)]++Js 10)),[⟨true,g0,3,true,(Qp v0),true⟩]⟩
def f46G0 (E:Env) (T:Trk) (v0:List Spt) (i:Nat):Prop:=∀ g0:Nat,G Try.prog E (f46K0 Try.prog) (f46S0 T v0 i g0)
theorem p46_start_0 (T:Trk) {E:Env} {rv:AV} (hE:PureNE Try.prog 46 rv E) (ho:AllP [])
 (hg:G Try.prog E (f46K0 Try.prog) ⟨([J,J,.sl 0 0 0 0 3]++jj 5 ([.rsl (Qc T.cars) 0 T.cars.length,.int .i64 (T.cars.length:Int),.int .i64 0]++Js 10)),[⟨true,0,3,true,[],true⟩]⟩):G Try.prog E [.code (Qe Try.prog 46)] ⟨[.rptr [.rsl (Qf T.c.blocks) 0 T.c.blocks.length,.rsl (rowI T.c.cars) 0 T.c.cars.length,.rsl (Qj T.faults) 0 T.faults.length,.rsl (Qc T.cars) 0 T.cars.length,.rsl (rowB T.gos) 0 T.gos.length,.int .i64 T.tick,.int .i64 T.stopped,.bool T.wrecked,.int .i64 T.rounds,.int .i64 T.gone] 0]++unds (Try.f46.ntmps - 1),[]⟩ :=
 Qb (n:=400) (ds:=[(2,3)]) (cs:=[]) (live:=[2,8,9,10]) (m:=1) (evs:=[.stop]) (obs:=_) hE.kind (hE.nogh _) Ql (by kernel_rfl) ho hg
theorem f46W (T:Trk) {E:Env} {rv:(List Spt)} (hE:PureNE Try.prog 46 (.rsl (Qp rv) 0 rv.length) E)
 (h:f46G0 E T ([]) 0):G Try.prog E [.code (Qe Try.prog 46)] ⟨[.rptr [.rsl (Qf T.c.blocks) 0 T.c.blocks.length,.rsl (rowI T.c.cars) 0 T.c.cars.length,.rsl (Qj T.faults) 0 T.faults.length,.rsl (Qc T.cars) 0 T.cars.length,.rsl (rowB T.gos) 0 T.gos.length,.int .i64 T.tick,.int .i64 T.stopped,.bool T.wrecked,.int .i64 T.rounds,.int .i64 T.gone] 0]++unds (Try.f46.ntmps - 1),[]⟩:=by
 exact p46_start_0 T hE trivial (h 0)
theorem p46_0_0 (T:Trk) (v0:List Spt) (i:Nat) (g0:Nat) (ce:Car) {E:Env} {rv:AV} (hE:PureNE Try.prog 46 rv E) (ho:AllP [(decide ((i:Int)<(T.cars.length:Int)))=true,0≤(i:Int)∧(i:Int)<(T.cars.length:Int),((Qc T.cars).drop (0+(Int.toNat (i:Int))*4)).take 4=[.int .i64 ce.spot.block,.int .i64 ce.spot.ran,.bool ce.spot.opn,.int .i64 ce.stood],4≤4,g0=g0,(0+(v0.length*3))=(Qp v0).length,(v0.length+1)≤2147483648,0=0,InR .i64 ((i:Int)+1)])
 (hg:G Try.prog E (f46K0 Try.prog) ⟨([J,J,.sl 0 (g0+1) 0 (v0.length+1) 3]++jj 5 ([.rsl (Qc T.cars) 0 T.cars.length,.int .i64 (T.cars.length:Int),.int .i64 ((i:Int)+1)]++Js 10)),[⟨true,(g0+1),3,true,((Qp v0)++[.int .i64 ce.spot.block,.int .i64 ce.spot.ran,.bool ce.spot.opn]),true⟩]⟩):G Try.prog E (f46K0 Try.prog) (f46S0 T v0 i g0) :=
 Qb (n:=400) (ds:=[]) (cs:=[]) (live:=[2,8,9,10]) (m:=1) (evs:=[.b true,.ld (.agg [.int .i64 ce.spot.block,.int .i64 ce.spot.ran,.bool ce.spot.opn,.int .i64 ce.stood]),.stop]) (obs:=_) hE.kind (hE.nogh _) Ql (by kernel_rfl) ho hg
theorem p46_0_1 (T:Trk) (v0:List Spt) (i:Nat) (g0:Nat) {E:Env} {res:AV} (hE:PureNE Try.prog 46 res E) (ho:AllP [(decide ((i:Int)<(T.cars.length:Int)))=false,g0=g0,∀ x ∈ (Qp v0),XA x=true])
 (hr:(.rsl (Qp v0) 0 v0.length)=res):G Try.prog E (f46K0 Try.prog) (f46S0 T v0 i g0) :=
 endN_step (n:=400) (evs:=[.b false]) (obs:=_) hE Try.func46 Ql (by kernel_rfl) ho hr
theorem f46W0 (T:Trk) (v0:List Spt) (i:Nat) {E:Env} {rv:(List Spt)} (hE:PureNE Try.prog 46 (.rsl (Qp rv) 0 rv.length) E)
 (h:(((i:Int)<(T.cars.length:Int)→(∃ ce:Car,T.cars[i]?=some ce∧((v0.length+1)≤2147483648∧((I6 ((i:Int)+1))∧f46G0 E T (v0++[ce.spot]) (i+1)))))∧(¬ ((i:Int)<(T.cars.length:Int))→rv=v0))):f46G0 E T v0 i:=by
 intro g0
 rcases bft (decide ((i:Int)<(T.cars.length:Int))) with hc0 | hc0
 · have h:=h.1 (odt hc0)
   obtain ⟨ce,h1,h⟩:=h
   obtain ⟨h2,h⟩:=h
   obtain ⟨q9_1,h⟩:=h
   refine p46_0_0 T v0 i g0 ce hE ⟨hc0,(Qk h1),(rp cCar 4 0 4 h1),(by decide),rfl,(by have hx:=QH cSpt (s:=3) (fun _=>rfl) v0; simp only [Qp] at hx ⊢; rw [hx]; simp),h2,rfl,q9_1,trivial⟩ ?_
   rw [(show Qp v0++[.int .i64 ce.spot.block,.int .i64 ce.spot.ran,.bool ce.spot.opn]=Qp (v0++[ce.spot]) from (Xe cSpt v0 [ce.spot]).symm)]; rw [(show (v0.length+1)=(v0++[ce.spot]).length from by simp)]; exact (h (g0+1))
 · have h:=h.2 (odf hc0)
   exact p46_0_1 T v0 i g0 hE ⟨hc0,rfl,(scal_Spt _),trivial⟩ (by rw [h]; try rfl)
theorem is_ok (T:Trk) (kind b:Int) (h:CarsIn T):Pure Try.prog 90 [.rptr [.rsl (Qf T.c.blocks) 0 T.c.blocks.length,.rsl (rowI T.c.cars) 0 T.c.cars.length,.rsl (Qj T.faults) 0 T.faults.length,.rsl (Qc T.cars) 0 T.cars.length,.rsl (rowB T.gos) 0 T.gos.length,.int .i64 T.tick,.int .i64 T.stopped,.bool T.wrecked,.int .i64 T.rounds,.int .i64 T.gone] 0,.int .i64 kind,.int .i64 b] (.bool (isI T.c T.cars kind b)):=QJ Try.func90 f90b fun E hE=>by
 have hl:=h.1
 have key:∀ (d i:Nat) (t r s:Bool),i+d=T.cars.length→t=(T.cars.take i).any (fun x=>x.spot.block == b)→r=(T.cars.take i).any (fun x=>x.spot.block == b && XB T.c x)→s=!((T.cars.take i).any (fun x=>x.spot.block == b && x.spot.opn))→f90G0 E kind b T t r s i:=by
  intro d
  induction d with
  | zero =>
   intro i t r s hi ht hr hs
   rw [show i=T.cars.length by omega,any_all] at ht hr hs
   exact f90W0 kind b T t r s i (rv:=isI T.c T.cars kind b) hE ⟨fun h=>by omega,fun _=>⟨fun h1=>by rw [isI,if_pos h1,ht],fun h1=>⟨fun h2=>by rw [isI,if_neg h1,if_pos h2,hr],fun h2=>by rw [isI,if_neg h1,if_neg h2,hs]⟩⟩⟩
  | succ d ih =>
   intro i t r s hi ht hr hs
   have hx:T.cars[i]?=some T.cars[i]:=List.getElem?_eq_getElem (by omega)
   have hin:=h.2 _ (List.getElem_mem (show i<T.cars.length by omega))
   generalize T.cars[i]=x at hx hin
   have nx:=fun (t' r' s':Bool) (h1:t'=(t || (x.spot.block == b))) (h2:r'=(r || (x.spot.block == b && XB T.c x))) (h3:s'=(s && !(x.spot.block == b && x.spot.opn)))=>ih (i+1) t' r' s' (by omega) (by rw [yy hx,← ht]; exact h1) (by rw [yy hx,← hr]; exact h2) (by rw [yy hx,Bool.not_or,← hs]; exact h3)
   refine f90W0 kind b T t r s i (rv:=isI T.c T.cars kind b) hE ⟨fun _=>⟨x,hx,fun e=>?_,fun e=>⟨by omega,?_⟩⟩,fun h=>by omega⟩
   · have eb:(x.spot.block == b)=true:=by simpa using e
     exact ⟨fun e1=>⟨fun e2=>⟨by omega,nx _ _ _ (by rw [eb]; simp) (by rw [e1]; rfl) (by rw [eb,e2]; simp)⟩,fun e2=>⟨by omega,nx _ _ _ (by rw [eb]; simp) (by rw [e1]; rfl) (by rw [e2]; rfl)⟩⟩,fun e1=>⟨hin,fun e2=>⟨by omega,nx _ _ _ (by rw [eb]; simp) (by rw [eb,e1]; simp) (by rw [eb,e2]; simp)⟩,fun e2=>⟨by omega,nx _ _ _ (by rw [eb]; simp) (by rw [eb,e1]; simp) (by rw [e2]; rfl)⟩⟩⟩
   · have eb:(x.spot.block == b)=false:=by simpa using e
     exact nx _ _ _ (by rw [eb]; simp) (by rw [eb]; simp) (by rw [eb]; simp)
 exact f90W kind b T (rv:=isI T.c T.cars kind b) hE (key T.cars.length 0 false false true (by omega) rfl rfl rfl)
theorem qQ (T:Trk) (h:T.cars.length≤2147483648):PureN0 Try.prog 46 [.rptr [.rsl (Qf T.c.blocks) 0 T.c.blocks.length,.rsl (rowI T.c.cars) 0 T.c.cars.length,.rsl (Qj T.faults) 0 T.faults.length,.rsl (Qc T.cars) 0 T.cars.length,.rsl (rowB T.gos) 0 T.gos.length,.int .i64 T.tick,.int .i64 T.stopped,.bool T.wrecked,.int .i64 T.rounds,.int .i64 T.gone] 0] (.rsl (Qp (T.cars.map Car.spot)) 0 (T.cars.map Car.spot).length):=pureN_of Try.func46 f46b fun E hE=>by
 have key:∀ (d i:Nat),i+d=T.cars.length→f46G0 E T ((T.cars.take i).map Car.spot) i:=by
  intro d
  induction d with
  | zero=>intro i hi; exact f46W0 T _ i (rv:=T.cars.map Car.spot) hE ⟨fun h=>by omega,fun _=>by rw [show i=T.cars.length by omega,List.take_length]⟩
  | succ d ih =>
   intro i hi
   have hx:T.cars[i]?=some T.cars[i]:=List.getElem?_eq_getElem (by omega)
   refine f46W0 T _ i (rv:=T.cars.map Car.spot) hE ⟨fun _=>⟨_,hx,by simp; omega,by omega,?_⟩,fun h=>by omega⟩
   have:=ih (i+1) (by omega)
   rw [List.take_add_one,hx,List.map_append] at this
   exact this
 exact f46W T (rv:=T.cars.map Car.spot) hE (key T.cars.length 0 (by omega))
theorem f72b:Try.f72.body=some (Qe Try.prog 72):=by kernel_rfl
def Wt (P:Program):List Item:=kAt 400 [.code (Qe P 72)] [.b true,.stop]
def yx (T:Trk) (k:Nat) (v1:List Said) (g1:Nat):St:=⟨([.rptr [.rsl (Qf T.c.blocks) 0 T.c.blocks.length,.rsl (rowI T.c.cars) 0 T.c.cars.length,.rsl (Qj T.faults) 0 T.faults.length,.rsl (Qc T.cars) 0 T.cars.length,.rsl (rowB T.gos) 0 T.gos.length,.int .i64 T.tick,.int .i64 T.stopped,.bool T.wrecked,.int .i64 T.rounds,.int .i64 T.gone] 0,J,.ptr 0 0 0,.int .i64 1]++jj 14 ([.int .i64 (T.c.blocks.length:Int),.int .i64 (k:Int)]++Js 53)),[⟨true,0,1,false,[.nilSl,.sl 1 g1 0 v1.length 2,.nilSl,.nilSl],false⟩,⟨true,g1,2,true,(Qa v1),true⟩]⟩
def qg (E:Env) (T:Trk) (k:Nat) (v1:List Said):Prop:=∀ g1:Nat,G Try.prog E (Wt Try.prog) (yx T k v1 g1)
def XZ (P:Program):List Item:=kAt 400 [.code (Qe P 72)] [.b true,.b true,.b true,.stop]
def VJ (T:Trk) (j:Nat) (v2:List Int) (b:Nat) (j1:Nat) (v1:List Said) (g1:Nat):St:=⟨([.rptr [.rsl (Qf T.c.blocks) 0 T.c.blocks.length,.rsl (rowI T.c.cars) 0 T.c.cars.length,.rsl (Qj T.faults) 0 T.faults.length,.rsl (Qc T.cars) 0 T.cars.length,.rsl (rowB T.gos) 0 T.gos.length,.int .i64 T.tick,.int .i64 T.stopped,.bool T.wrecked,.int .i64 T.rounds,.int .i64 T.gone] 0,J,.ptr 0 0 0,.int .i64 1,.int .i64 (b:Int),J,.ptr 2 0 0]++jj 11 ([.int .i64 (T.c.blocks.length:Int),.int .i64 (j1:Int)]++jj 12 ([.rsl (Qj T.faults) 0 T.faults.length,.int .i64 (T.faults.length:Int),.int .i64 (j:Int)]++Js 38))),[⟨true,0,1,false,[.nilSl,.sl 1 g1 0 v1.length 2,.nilSl,.nilSl],false⟩,⟨true,g1,2,true,(Qa v1),true⟩,⟨true,0,1,true,(rowI v2),false⟩]⟩
def Vi (E:Env) (T:Trk) (j:Nat) (v2:List Int) (b:Nat) (j1:Nat) (v1:List Said):Prop:=∀ g1:Nat,G Try.prog E (XZ Try.prog) (VJ T j v2 b j1 v1 g1)
def Ws (P:Program):List Item:=kAt 400 [.code (Qe P 72)] [.b true,.b false,.b true,.stop]
def yw (T:Trk) (v1:List Said) (k:Nat) (v2:List Said) (g1:Nat) (g2:Nat):St:=⟨([.rptr [.rsl (Qf T.c.blocks) 0 T.c.blocks.length,.rsl (rowI T.c.cars) 0 T.c.cars.length,.rsl (Qj T.faults) 0 T.faults.length,.rsl (Qc T.cars) 0 T.cars.length,.rsl (rowB T.gos) 0 T.gos.length,.int .i64 T.tick,.int .i64 T.stopped,.bool T.wrecked,.int .i64 T.rounds,.int .i64 T.gone] 0,J,.ptr 0 0 0,.int .i64 2]++jj 14 ([.int .i64 (T.c.blocks.length:Int),.int .i64 (k:Int)]++Js 53)),[⟨true,0,1,false,[.nilSl,.sl 1 g1 0 v1.length 2,.sl 2 g2 0 v2.length 2,.nilSl],false⟩,⟨true,g1,2,true,(Qa v1),true⟩,⟨true,g2,2,true,(Qa v2),true⟩]⟩
def Wv (E:Env) (T:Trk) (v1:List Said) (k:Nat) (v2:List Said):Prop:=∀ g1 g2:Nat,G Try.prog E (Ws Try.prog) (yw T v1 k v2 g1 g2)
def XY (P:Program):List Item:=kAt 400 [.code (Qe P 72)] [.b true,.b false,.b true,.b true,.b true,.stop]
def VI (T:Trk) (v1:List Said) (j:Nat) (v3:List Int) (b:Nat) (j1:Nat) (v2:List Said) (g1:Nat) (g2:Nat):St:=⟨([.rptr [.rsl (Qf T.c.blocks) 0 T.c.blocks.length,.rsl (rowI T.c.cars) 0 T.c.cars.length,.rsl (Qj T.faults) 0 T.faults.length,.rsl (Qc T.cars) 0 T.cars.length,.rsl (rowB T.gos) 0 T.gos.length,.int .i64 T.tick,.int .i64 T.stopped,.bool T.wrecked,.int .i64 T.rounds,.int .i64 T.gone] 0,J,.ptr 0 0 0,.int .i64 2,.int .i64 (b:Int),J,.ptr 3 0 0]++jj 11 ([.int .i64 (T.c.blocks.length:Int),.int .i64 (j1:Int)]++jj 12 ([.rsl (Qj T.faults) 0 T.faults.length,.int .i64 (T.faults.length:Int),.int .i64 (j:Int)]++Js 38))),[⟨true,0,1,false,[.nilSl,.sl 1 g1 0 v1.length 2,.sl 2 g2 0 v2.length 2,.nilSl],false⟩,⟨true,g1,2,true,(Qa v1),true⟩,⟨true,g2,2,true,(Qa v2),true⟩,⟨true,0,1,true,(rowI v3),false⟩]⟩
def Vh (E:Env) (T:Trk) (v1:List Said) (j:Nat) (v3:List Int) (b:Nat) (j1:Nat) (v2:List Said):Prop:=∀ g1 g2:Nat,G Try.prog E (XY Try.prog) (VI T v1 j v3 b j1 v2 g1 g2)
def Wr (P:Program):List Item:=kAt 400 [.code (Qe P 72)] [.b true,.b false,.b true,.b false,.b true,.stop]
def yu (T:Trk) (v1:List Said) (v2:List Said) (k:Nat) (v3:List Said) (g1:Nat) (g2:Nat) (g3:Nat):St:=⟨([.rptr [.rsl (Qf T.c.blocks) 0 T.c.blocks.length,.rsl (rowI T.c.cars) 0 T.c.cars.length,.rsl (Qj T.faults) 0 T.faults.length,.rsl (Qc T.cars) 0 T.cars.length,.rsl (rowB T.gos) 0 T.gos.length,.int .i64 T.tick,.int .i64 T.stopped,.bool T.wrecked,.int .i64 T.rounds,.int .i64 T.gone] 0,J,.ptr 0 0 0,.int .i64 3]++jj 14 ([.int .i64 (T.c.blocks.length:Int),.int .i64 (k:Int)]++Js 53)),[⟨true,0,1,false,[.nilSl,.sl 1 g1 0 v1.length 2,.sl 2 g2 0 v2.length 2,.sl 3 g3 0 v3.length 2],false⟩,⟨true,g1,2,true,(Qa v1),true⟩,⟨true,g2,2,true,(Qa v2),true⟩,⟨true,g3,2,true,(Qa v3),true⟩]⟩
def Wu (E:Env) (T:Trk) (v1:List Said) (v2:List Said) (k:Nat) (v3:List Said):Prop:=∀ g1 g2 g3:Nat,G Try.prog E (Wr Try.prog) (yu T v1 v2 k v3 g1 g2 g3)
def XX (P:Program):List Item:=kAt 400 [.code (Qe P 72)] [.b true,.b false,.b true,.b false,.b true,.b true,.b true,.stop]
def VH (T:Trk) (v1:List Said) (v2:List Said) (j:Nat) (v4:List Int) (b:Nat) (j1:Nat) (v3:List Said) (g1:Nat) (g2:Nat) (g3:Nat):St:=⟨([.rptr [.rsl (Qf T.c.blocks) 0 T.c.blocks.length,.rsl (rowI T.c.cars) 0 T.c.cars.length,.rsl (Qj T.faults) 0 T.faults.length,.rsl (Qc T.cars) 0 T.cars.length,.rsl (rowB T.gos) 0 T.gos.length,.int .i64 T.tick,.int .i64 T.stopped,.bool T.wrecked,.int .i64 T.rounds,.int .i64 T.gone] 0,J,.ptr 0 0 0,.int .i64 3,.int .i64 (b:Int),J,.ptr 4 0 0]++jj 11 ([.int .i64 (T.c.blocks.length:Int),.int .i64 (j1:Int)]++jj 12 ([.rsl (Qj T.faults) 0 T.faults.length,.int .i64 (T.faults.length:Int),.int .i64 (j:Int)]++Js 38))),[⟨true,0,1,false,[.nilSl,.sl 1 g1 0 v1.length 2,.sl 2 g2 0 v2.length 2,.sl 3 g3 0 v3.length 2],false⟩,⟨true,g1,2,true,(Qa v1),true⟩,⟨true,g2,2,true,(Qa v2),true⟩,⟨true,g3,2,true,(Qa v3),true⟩,⟨true,0,1,true,(rowI v4),false⟩]⟩
def Vg (E:Env) (T:Trk) (v1:List Said) (v2:List Said) (j:Nat) (v4:List Int) (b:Nat) (j1:Nat) (v3:List Said):Prop:=∀ g1 g2 g3:Nat,G Try.prog E (XX Try.prog) (VH T v1 v2 j v4 b j1 v3 g1 g2 g3)
abbrev YY (T:Trk):List AV:=[.rsl (Qf T.c.blocks) 0 T.c.blocks.length,.rsl (rowI T.c.cars) 0 T.c.cars.length,.rsl (Qj T.faults) 0 T.faults.length,.rsl (Qc T.cars) 0 T.cars.length,.rsl (rowB T.gos) 0 T.gos.length,.int .i64 T.tick,.int .i64 T.stopped,.bool T.wrecked,.int .i64 T.rounds,.int .i64 T.gone]
abbrev YH (fe:Flt):List AV:=[.int .i64 fe.frm,.int .i64 fe.kind,.int .i64 fe.chan,.int .i64 fe.block,.int .i64 fe.val]
abbrev z72_3 (T:Trk) (j1:Nat) (j:Nat):List AV:=[.int .i64 (T.c.blocks.length:Int),.int .i64 (j1:Int)]++jj 12 ([.rsl (Qj T.faults) 0 T.faults.length,.int .i64 (T.faults.length:Int),.int .i64 ((j:Int)+1)]++Js 38)
abbrev z72_4 (T:Trk) (k:Nat):List AV:=[.int .i64 (T.c.blocks.length:Int),.int .i64 (k:Int)]++jj 12 ([.rsl (Qj T.faults) 0 T.faults.length,.int .i64 (T.faults.length:Int),.int .i64 0]++Js 38)
abbrev z72_5 (T:Trk) (b:Nat) (j1:Nat) (j:Nat):List AV:=[.rptr (YY T) 0,J,.ptr 0 0 0,.int .i64 1,.int .i64 (b:Int),J,.ptr 2 0 0]++jj 11 (z72_3 T j1 j)
abbrev z72_6 (T:Trk) (b:Nat) (j1:Nat) (j:Nat):List AV:=[.rptr (YY T) 0,J,.ptr 0 0 0,.int .i64 2,.int .i64 (b:Int),J,.ptr 3 0 0]++jj 11 (z72_3 T j1 j)
abbrev z72_7 (T:Trk) (b:Nat) (j1:Nat) (j:Nat):List AV:=[.rptr (YY T) 0,J,.ptr 0 0 0,.int .i64 3,.int .i64 (b:Int),J,.ptr 4 0 0]++jj 11 (z72_3 T j1 j)
abbrev z72_8 (g1:Nat) (v1:List Said):List AV:=[.nilSl,.sl 1 g1 0 v1.length 2,.nilSl,.nilSl]
abbrev z72_9 (T:Trk) (j1:Nat):List AV:=[.int .i64 (T.c.blocks.length:Int),.int .i64 ((j1:Int)+1)]++Js 53
theorem p72_start_0 (T:Trk) {E:Env} {rv:AV} (hE:PureNE Try.prog 72 rv E) (ho:AllP [true=true])
 (hg:G Try.prog E (Wt Try.prog) ⟨([.rptr (YY T) 0,J,.ptr 0 0 0,.int .i64 1]++jj 14 ([.int .i64 (T.c.blocks.length:Int),.int .i64 0]++Js 53)),[⟨true,0,1,false,[.nilSl,.sl 1 0 0 0 2,.nilSl,.nilSl],false⟩,⟨true,0,2,true,[],true⟩]⟩):G Try.prog E [.code (Qe Try.prog 72)] ⟨[.rptr (YY T) 0]++unds (Try.f72.ntmps - 1),[]⟩ :=
 Qb (n:=400) (ds:=[]) (cs:=[(0,1,2)]) (live:=[0,2,3,18,19]) (m:=2) (evs:=[.b true,.stop]) (obs:=_) hE.kind (hE.nogh _) Ql (by kernel_rfl) ho hg
theorem f72W (T:Trk) {E:Env} {rv:Rd4} (hE:PureNE Try.prog 72 (.agg [.nilSl,.rsl (Qa rv.k1) 0 rv.k1.length,.rsl (Qa rv.k2) 0 rv.k2.length,.rsl (Qa rv.k3) 0 rv.k3.length]) E)
 (h:qg E T 0 ([])):G Try.prog E [.code (Qe Try.prog 72)] ⟨[.rptr [.rsl (Qf T.c.blocks) 0 T.c.blocks.length,.rsl (rowI T.c.cars) 0 T.c.cars.length,.rsl (Qj T.faults) 0 T.faults.length,.rsl (Qc T.cars) 0 T.cars.length,.rsl (rowB T.gos) 0 T.gos.length,.int .i64 T.tick,.int .i64 T.stopped,.bool T.wrecked,.int .i64 T.rounds,.int .i64 T.gone] 0]++unds (Try.f72.ntmps - 1),[]⟩:=by
 exact p72_start_0 T hE ⟨rfl,trivial⟩ (h 0)
theorem p72_1001_0 (T:Trk) (k:Nat) (v1:List Said) (g1:Nat) {E:Env} {rv:AV} (hE:PureNE Try.prog 72 rv E) (ho:AllP [(decide ((k:Int)<(T.c.blocks.length:Int)))=true,Qg Try.prog (.clos 90 [] []) [.rptr (YY T) 0,.int .i64 1,.int .i64 (k:Int)] (.bool (isI T.c T.cars 1 (k:Int))),(isI T.c T.cars 1 (k:Int))=true,2≤2])
 (hg:G Try.prog E (XZ Try.prog) ⟨([.rptr (YY T) 0,J,.ptr 0 0 0,.int .i64 1,.int .i64 (k:Int),J,.ptr 2 0 0]++jj 11 (z72_4 T k)),[⟨true,0,1,false,(z72_8 g1 v1),false⟩,⟨true,g1,2,true,(Qa v1),true⟩,⟨true,0,1,true,[.int .i64 1,.int .i64 1],false⟩]⟩):G Try.prog E (Wt Try.prog) (yx T k v1 g1) :=
 Qb (n:=400) (ds:=[]) (cs:=[]) (live:=[0,2,3,4,6,18,19,32,33,34]) (m:=3) (evs:=[.b true,.v (.bool (isI T.c T.cars 1 (k:Int))),.b true,.stop]) (obs:=_) hE.kind (hE.nogh _) Ql (by kernel_rfl) ho hg
theorem p72_1001_1 (T:Trk) (k:Nat) (v1:List Said) (g1:Nat) {E:Env} {rv:AV} (hE:PureNE Try.prog 72 rv E) (ho:AllP [(decide ((k:Int)<(T.c.blocks.length:Int)))=true,Qg Try.prog (.clos 90 [] []) [.rptr (YY T) 0,.int .i64 1,.int .i64 (k:Int)] (.bool (isI T.c T.cars 1 (k:Int))),(isI T.c T.cars 1 (k:Int))=false,2≤2])
 (hg:G Try.prog E (XZ Try.prog) ⟨([.rptr (YY T) 0,J,.ptr 0 0 0,.int .i64 1,.int .i64 (k:Int),J,.ptr 2 0 0]++jj 11 (z72_4 T k)),[⟨true,0,1,false,(z72_8 g1 v1),false⟩,⟨true,g1,2,true,(Qa v1),true⟩,⟨true,0,1,true,[.int .i64 0,.int .i64 0],false⟩]⟩):G Try.prog E (Wt Try.prog) (yx T k v1 g1) :=
 Qb (n:=400) (ds:=[]) (cs:=[]) (live:=[0,2,3,4,6,18,19,32,33,34]) (m:=3) (evs:=[.b true,.v (.bool (isI T.c T.cars 1 (k:Int))),.b false,.stop]) (obs:=_) hE.kind (hE.nogh _) Ql (by kernel_rfl) ho hg
theorem p72_1001_2 (T:Trk) (k:Nat) (v1:List Said) (g1:Nat) {E:Env} {rv:AV} (hE:PureNE Try.prog 72 rv E) (ho:AllP [(decide ((k:Int)<(T.c.blocks.length:Int)))=false,InR .i64 2,true=true])
 (hg:G Try.prog E (Ws Try.prog) ⟨([.rptr (YY T) 0,J,.ptr 0 0 0,.int .i64 2]++jj 14 ([.int .i64 (T.c.blocks.length:Int),.int .i64 0]++Js 53)),[⟨true,0,1,false,[.nilSl,.sl 1 g1 0 v1.length 2,.sl 2 0 0 0 2,.nilSl],false⟩,⟨true,g1,2,true,(Qa v1),true⟩,⟨true,0,2,true,[],true⟩]⟩):G Try.prog E (Wt Try.prog) (yx T k v1 g1) :=
 Qb (n:=400) (ds:=[]) (cs:=[(0,2,2)]) (live:=[0,2,3,18,19]) (m:=3) (evs:=[.b false,.b true,.stop]) (obs:=_) hE.kind (hE.nogh _) Ql (by kernel_rfl) ho hg
theorem f72W1001 (T:Trk) (k:Nat) (v1:List Said) {E:Env} {rv:Rd4} (hE:PureNE Try.prog 72 (.agg [.nilSl,.rsl (Qa rv.k1) 0 rv.k1.length,.rsl (Qa rv.k2) 0 rv.k2.length,.rsl (Qa rv.k3) 0 rv.k3.length]) E)
 (h:(((k:Int)<(T.c.blocks.length:Int)→((CarsIn T)∧(((isI T.c T.cars 1 (k:Int))=true→Vi E T 0 ([1,1]) k k v1)∧((isI T.c T.cars 1 (k:Int))=false→Vi E T 0 ([0,0]) k k v1))))∧(¬ ((k:Int)<(T.c.blocks.length:Int))→Wv E T v1 0 ([])))):qg E T k v1:=by
 intro g1
 rcases bft (decide ((k:Int)<(T.c.blocks.length:Int))) with hc0 | hc0
 · have h:=h.1 (odt hc0)
   obtain ⟨h1,h⟩:=h
   rcases bft (isI T.c T.cars 1 (k:Int)) with hc1 | hc1
   · have h:=h.1 hc1
     exact p72_1001_0 T k v1 g1 hE ⟨hc0,(u90 (is_ok T 1 (k:Int) h1)),hc1,(by decide),trivial⟩ (h g1)
   · have h:=h.2 hc1
     exact p72_1001_1 T k v1 g1 hE ⟨hc0,(u90 (is_ok T 1 (k:Int) h1)),hc1,(by decide),trivial⟩ (h g1)
 · have h:=h.2 (odf hc0)
   exact p72_1001_2 T k v1 g1 hE ⟨hc0,(⟨by decide,by decide⟩),rfl,trivial⟩ (h g1 0)
theorem p72_1002_0 (T:Trk) (j:Nat) (v2:List Int) (b:Nat) (j1:Nat) (v1:List Said) (g1:Nat) (fe:Flt) (e:Int) {E:Env} {rv:AV} (hE:PureNE Try.prog 72 rv E) (ho:AllP [(decide ((j:Int)<(T.faults.length:Int)))=true,0≤(j:Int)∧(j:Int)<(T.faults.length:Int),((Qj T.faults).drop (0+(Int.toNat (j:Int))*5)).take 5=(YH fe),5≤5,(fe.kind == 1)=true,(fe.block == (b:Int))=true,(decide (T.tick≥fe.frm))=true,0≤fe.chan∧fe.chan<((2:Nat):Int),((0+(Int.toNat fe.chan)*1)+1)≤(rowI v2).length,InR .i64 ((j:Int)+1)])
 (hg:G Try.prog E (XZ Try.prog) ⟨(z72_5 T b j1 j),[⟨true,0,1,false,(z72_8 g1 v1),false⟩,⟨true,g1,2,true,(Qa v1),true⟩,⟨true,0,1,true,(Qq (rowI v2) (0+(Int.toNat fe.chan)*1) [.int .i64 fe.val]),false⟩]⟩):G Try.prog E (XZ Try.prog) (VJ T j v2 b j1 v1 g1) :=
 Qb (n:=400) (ds:=[]) (cs:=[]) (live:=[0,2,3,4,6,18,19,32,33,34]) (m:=3) (evs:=[.b true,.ld (.agg (YH fe)),.b true,.b true,.b true,.stop]) (obs:=_) hE.kind (hE.nogh _) Ql (by kernel_rfl) ho hg
theorem p72_1002_1 (T:Trk) (j:Nat) (v2:List Int) (b:Nat) (j1:Nat) (v1:List Said) (g1:Nat) (fe:Flt) {E:Env} {rv:AV} (hE:PureNE Try.prog 72 rv E) (ho:AllP [(decide ((j:Int)<(T.faults.length:Int)))=true,0≤(j:Int)∧(j:Int)<(T.faults.length:Int),((Qj T.faults).drop (0+(Int.toNat (j:Int))*5)).take 5=(YH fe),5≤5,(fe.kind == 1)=true,(fe.block == (b:Int))=true,(decide (T.tick≥fe.frm))=false,InR .i64 ((j:Int)+1)])
 (hg:G Try.prog E (XZ Try.prog) ⟨(z72_5 T b j1 j),[⟨true,0,1,false,(z72_8 g1 v1),false⟩,⟨true,g1,2,true,(Qa v1),true⟩,⟨true,0,1,true,(rowI v2),false⟩]⟩):G Try.prog E (XZ Try.prog) (VJ T j v2 b j1 v1 g1) :=
 Qb (n:=400) (ds:=[]) (cs:=[]) (live:=[0,2,3,4,6,18,19,32,33,34]) (m:=3) (evs:=[.b true,.ld (.agg (YH fe)),.b true,.b true,.b false,.stop]) (obs:=_) hE.kind (hE.nogh _) Ql (by kernel_rfl) ho hg
theorem p72_1002_2 (T:Trk) (j:Nat) (v2:List Int) (b:Nat) (j1:Nat) (v1:List Said) (g1:Nat) (fe:Flt) {E:Env} {rv:AV} (hE:PureNE Try.prog 72 rv E) (ho:AllP [(decide ((j:Int)<(T.faults.length:Int)))=true,0≤(j:Int)∧(j:Int)<(T.faults.length:Int),((Qj T.faults).drop (0+(Int.toNat (j:Int))*5)).take 5=(YH fe),5≤5,(fe.kind == 1)=true,(fe.block == (b:Int))=false,false=false,InR .i64 ((j:Int)+1)])
 (hg:G Try.prog E (XZ Try.prog) ⟨(z72_5 T b j1 j),[⟨true,0,1,false,(z72_8 g1 v1),false⟩,⟨true,g1,2,true,(Qa v1),true⟩,⟨true,0,1,true,(rowI v2),false⟩]⟩):G Try.prog E (XZ Try.prog) (VJ T j v2 b j1 v1 g1) :=
 Qb (n:=400) (ds:=[]) (cs:=[]) (live:=[0,2,3,4,6,18,19,32,33,34]) (m:=3) (evs:=[.b true,.ld (.agg (YH fe)),.b true,.b false,.b false,.stop]) (obs:=_) hE.kind (hE.nogh _) Ql (by kernel_rfl) ho hg
theorem p72_1002_3 (T:Trk) (j:Nat) (v2:List Int) (b:Nat) (j1:Nat) (v1:List Said) (g1:Nat) (fe:Flt) {E:Env} {rv:AV} (hE:PureNE Try.prog 72 rv E) (ho:AllP [(decide ((j:Int)<(T.faults.length:Int)))=true,0≤(j:Int)∧(j:Int)<(T.faults.length:Int),((Qj T.faults).drop (0+(Int.toNat (j:Int))*5)).take 5=(YH fe),5≤5,(fe.kind == 1)=false,false=false,false=false,InR .i64 ((j:Int)+1)])
 (hg:G Try.prog E (XZ Try.prog) ⟨(z72_5 T b j1 j),[⟨true,0,1,false,(z72_8 g1 v1),false⟩,⟨true,g1,2,true,(Qa v1),true⟩,⟨true,0,1,true,(rowI v2),false⟩]⟩):G Try.prog E (XZ Try.prog) (VJ T j v2 b j1 v1 g1) :=
 Qb (n:=400) (ds:=[]) (cs:=[]) (live:=[0,2,3,4,6,18,19,32,33,34]) (m:=3) (evs:=[.b true,.ld (.agg (YH fe)),.b false,.b false,.b false,.stop]) (obs:=_) hE.kind (hE.nogh _) Ql (by kernel_rfl) ho hg
theorem p72_1002_4 (T:Trk) (j:Nat) (v2:List Int) (b:Nat) (j1:Nat) (v1:List Said) (g1:Nat) (e:Int) (e1:Int) {E:Env} {rv:AV} (hE:PureNE Try.prog 72 rv E) (ho:AllP [(decide ((j:Int)<(T.faults.length:Int)))=false,(0:Int)≤1∧(1:Int)<((4:Nat):Int),((rowI v2).drop 0).take 2=[.int .i64 e,.int .i64 e1],g1=g1,(0+(v1.length*2))=(Qa v1).length,(v1.length+1)≤2147483648,0=0,(0:Int)≤1∧(1:Int)<((4:Nat):Int),2≤4,InR .i64 ((j1:Int)+1)])
 (hg:G Try.prog E (Wt Try.prog) ⟨([.rptr (YY T) 0,J,.ptr 0 0 0,.int .i64 1]++jj 14 (z72_9 T j1)),[⟨true,0,1,false,[.nilSl,.sl 1 (g1+1) 0 (v1.length+1) 2,.nilSl,.nilSl],false⟩,⟨true,(g1+1),2,true,((Qa v1)++[.int .i64 e,.int .i64 e1]),true⟩]⟩):G Try.prog E (XZ Try.prog) (VJ T j v2 b j1 v1 g1) :=
 Qb (n:=400) (ds:=[]) (cs:=[]) (live:=[0,2,3,18,19]) (m:=2) (evs:=[.b false,.auto,.ld (.agg [.int .i64 e,.int .i64 e1]),.stop]) (obs:=_) hE.kind (hE.nogh _) Ql (by kernel_rfl) ho hg
theorem f72W1002 (T:Trk) (j:Nat) (v2:List Int) (b:Nat) (j1:Nat) (v1:List Said) {E:Env} {rv:Rd4} (hE:PureNE Try.prog 72 (.agg [.nilSl,.rsl (Qa rv.k1) 0 rv.k1.length,.rsl (Qa rv.k2) 0 rv.k2.length,.rsl (Qa rv.k3) 0 rv.k3.length]) E)
 (h:(((j:Int)<(T.faults.length:Int)→(∃ fe:Flt,T.faults[j]?=some fe∧((fe.kind=1→((fe.block=(b:Int)→((T.tick≥fe.frm→(0≤fe.chan∧(∃ e:Int,v2[Int.toNat fe.chan]?=some e∧((0≤fe.chan∧fe.chan<((2:Nat):Int))∧((I6 ((j:Int)+1))∧Vi E T (j+1) (v2.set (Int.toNat fe.chan) fe.val) b j1 v1)))))∧(¬ (T.tick≥fe.frm)→((I6 ((j:Int)+1))∧Vi E T (j+1) v2 b j1 v1))))∧(¬ (fe.block=(b:Int))→((I6 ((j:Int)+1))∧Vi E T (j+1) v2 b j1 v1))))∧(¬ (fe.kind=1)→((I6 ((j:Int)+1))∧Vi E T (j+1) v2 b j1 v1)))))∧(¬ ((j:Int)<(T.faults.length:Int))→(∃ e:Int,v2[0]?=some e∧(∃ e1:Int,v2[1]?=some e1∧((v1.length+1)≤2147483648∧((I6 ((j1:Int)+1))∧qg E T (j1+1) (v1++[(⟨e,e1⟩:Said)])))))))):Vi E T j v2 b j1 v1:=by
 intro g1
 rcases bft (decide ((j:Int)<(T.faults.length:Int))) with hc0 | hc0
 · have h:=h.1 (odt hc0)
   obtain ⟨fe,h1,h⟩:=h
   rcases bft (fe.kind == 1) with hc1 | hc1
   · have h:=h.1 (eq_of_beq hc1)
     rcases bft (fe.block == (b:Int)) with hc2 | hc2
     · have h:=h.1 (eq_of_beq hc2)
       rcases bft (decide (T.tick≥fe.frm)) with hc3 | hc3
       · have h:=h.1 (odt hc3)
         obtain ⟨h3,h⟩:=h
         obtain ⟨e,h2,h⟩:=h
         obtain ⟨q9_4,h⟩:=h
         obtain ⟨q11_4,h⟩:=h
         refine p72_1002_0 T j v2 b j1 v1 g1 fe e hE ⟨hc0,(Qk h1),(rp cFlt 5 0 5 h1),(by decide),hc1,hc2,hc3,q9_4,(rf cI 1 0 1 h2),q11_4,trivial⟩ ?_
         have h:=(h g1)
         simp only [VJ,List.length_set] at h
         rw [(show Qq (rowI v2) (0+(Int.toNat fe.chan)*1) [.int .i64 fe.val]=rowI (v2.set (Int.toNat fe.chan) fe.val) from Qr cI (s:=1) (k:=0) (fun _=>rfl) h2 rfl (by first | decide | simp))]
         exact h
       · have h:=h.2 (odf hc3)
         obtain ⟨q8_4,h⟩:=h
         exact p72_1002_1 T j v2 b j1 v1 g1 fe hE ⟨hc0,(Qk h1),(rp cFlt 5 0 5 h1),(by decide),hc1,hc2,hc3,q8_4,trivial⟩ (h g1)
     · have h:=h.2 (ne_of_beq_false hc2)
       obtain ⟨q8_3,h⟩:=h
       exact p72_1002_2 T j v2 b j1 v1 g1 fe hE ⟨hc0,(Qk h1),(rp cFlt 5 0 5 h1),(by decide),hc1,hc2,rfl,q8_3,trivial⟩ (h g1)
   · have h:=h.2 (ne_of_beq_false hc1)
     obtain ⟨q8_2,h⟩:=h
     exact p72_1002_3 T j v2 b j1 v1 g1 fe hE ⟨hc0,(Qk h1),(rp cFlt 5 0 5 h1),(by decide),hc1,rfl,rfl,q8_2,trivial⟩ (h g1)
 · have h:=h.2 (odf hc0)
   obtain ⟨e,h1,h⟩:=h
   obtain ⟨e1,h2,h⟩:=h
   obtain ⟨h3,h⟩:=h
   obtain ⟨q11_1,h⟩:=h
   refine p72_1002_4 T j v2 b j1 v1 g1 e e1 hE ⟨hc0,(⟨by decide,by decide⟩),(row_two h1 h2),rfl,(by have hx:=QH QP (s:=2) (fun _=>rfl) v1; simp only [Qa] at hx ⊢; rw [hx]; simp),h3,rfl,(⟨by decide,by decide⟩),(by decide),q11_1,trivial⟩ ?_
   rw [(show Qa v1++[.int .i64 e,.int .i64 e1]=Qa (v1++[(⟨e,e1⟩:Said)]) from (Xe QP v1 [(⟨e,e1⟩:Said)]).symm)]; rw [(show (v1.length+1)=(v1++[(⟨e,e1⟩:Said)]).length from by simp)]; exact (h (g1+1))
theorem p72_2001_0 (T:Trk) (v1:List Said) (k:Nat) (v2:List Said) (g1:Nat) (g2:Nat) {E:Env} {rv:AV} (hE:PureNE Try.prog 72 rv E) (ho:AllP [(decide ((k:Int)<(T.c.blocks.length:Int)))=true,Qg Try.prog (.clos 90 [] []) [.rptr (YY T) 0,.int .i64 2,.int .i64 (k:Int)] (.bool (isI T.c T.cars 2 (k:Int))),(isI T.c T.cars 2 (k:Int))=true,2≤2])
 (hg:G Try.prog E (XY Try.prog) ⟨([.rptr (YY T) 0,J,.ptr 0 0 0,.int .i64 2,.int .i64 (k:Int),J,.ptr 3 0 0]++jj 11 (z72_4 T k)),[⟨true,0,1,false,[.nilSl,.sl 1 g1 0 v1.length 2,.sl 2 g2 0 v2.length 2,.nilSl],false⟩,⟨true,g1,2,true,(Qa v1),true⟩,⟨true,g2,2,true,(Qa v2),true⟩,⟨true,0,1,true,[.int .i64 1,.int .i64 1],false⟩]⟩):G Try.prog E (Ws Try.prog) (yw T v1 k v2 g1 g2) :=
 Qb (n:=400) (ds:=[]) (cs:=[]) (live:=[0,2,3,4,6,18,19,32,33,34]) (m:=4) (evs:=[.b true,.v (.bool (isI T.c T.cars 2 (k:Int))),.b true,.stop]) (obs:=_) hE.kind (hE.nogh _) Ql (by kernel_rfl) ho hg
theorem p72_2001_1 (T:Trk) (v1:List Said) (k:Nat) (v2:List Said) (g1:Nat) (g2:Nat) {E:Env} {rv:AV} (hE:PureNE Try.prog 72 rv E) (ho:AllP [(decide ((k:Int)<(T.c.blocks.length:Int)))=true,Qg Try.prog (.clos 90 [] []) [.rptr (YY T) 0,.int .i64 2,.int .i64 (k:Int)] (.bool (isI T.c T.cars 2 (k:Int))),(isI T.c T.cars 2 (k:Int))=false,2≤2])
 (hg:G Try.prog E (XY Try.prog) ⟨([.rptr (YY T) 0,J,.ptr 0 0 0,.int .i64 2,.int .i64 (k:Int),J,.ptr 3 0 0]++jj 11 (z72_4 T k)),[⟨true,0,1,false,[.nilSl,.sl 1 g1 0 v1.length 2,.sl 2 g2 0 v2.length 2,.nilSl],false⟩,⟨true,g1,2,true,(Qa v1),true⟩,⟨true,g2,2,true,(Qa v2),true⟩,⟨true,0,1,true,[.int .i64 0,.int .i64 0],false⟩]⟩):G Try.prog E (Ws Try.prog) (yw T v1 k v2 g1 g2) :=
 Qb (n:=400) (ds:=[]) (cs:=[]) (live:=[0,2,3,4,6,18,19,32,33,34]) (m:=4) (evs:=[.b true,.v (.bool (isI T.c T.cars 2 (k:Int))),.b false,.stop]) (obs:=_) hE.kind (hE.nogh _) Ql (by kernel_rfl) ho hg
theorem p72_2001_2 (T:Trk) (v1:List Said) (k:Nat) (v2:List Said) (g1:Nat) (g2:Nat) {E:Env} {rv:AV} (hE:PureNE Try.prog 72 rv E) (ho:AllP [(decide ((k:Int)<(T.c.blocks.length:Int)))=false,InR .i64 3,true=true])
 (hg:G Try.prog E (Wr Try.prog) ⟨([.rptr (YY T) 0,J,.ptr 0 0 0,.int .i64 3]++jj 14 ([.int .i64 (T.c.blocks.length:Int),.int .i64 0]++Js 53)),[⟨true,0,1,false,[.nilSl,.sl 1 g1 0 v1.length 2,.sl 2 g2 0 v2.length 2,.sl 3 0 0 0 2],false⟩,⟨true,g1,2,true,(Qa v1),true⟩,⟨true,g2,2,true,(Qa v2),true⟩,⟨true,0,2,true,[],true⟩]⟩):G Try.prog E (Ws Try.prog) (yw T v1 k v2 g1 g2) :=
 Qb (n:=400) (ds:=[]) (cs:=[(0,3,2)]) (live:=[0,2,3,18,19]) (m:=4) (evs:=[.b false,.b true,.stop]) (obs:=_) hE.kind (hE.nogh _) Ql (by kernel_rfl) ho hg
theorem f72W2001 (T:Trk) (v1:List Said) (k:Nat) (v2:List Said) {E:Env} {rv:Rd4} (hE:PureNE Try.prog 72 (.agg [.nilSl,.rsl (Qa rv.k1) 0 rv.k1.length,.rsl (Qa rv.k2) 0 rv.k2.length,.rsl (Qa rv.k3) 0 rv.k3.length]) E)
 (h:(((k:Int)<(T.c.blocks.length:Int)→((CarsIn T)∧(((isI T.c T.cars 2 (k:Int))=true→Vh E T v1 0 ([1,1]) k k v2)∧((isI T.c T.cars 2 (k:Int))=false→Vh E T v1 0 ([0,0]) k k v2))))∧(¬ ((k:Int)<(T.c.blocks.length:Int))→Wu E T v1 v2 0 ([])))):Wv E T v1 k v2:=by
 intro g1 g2
 rcases bft (decide ((k:Int)<(T.c.blocks.length:Int))) with hc0 | hc0
 · have h:=h.1 (odt hc0)
   obtain ⟨h1,h⟩:=h
   rcases bft (isI T.c T.cars 2 (k:Int)) with hc1 | hc1
   · have h:=h.1 hc1
     exact p72_2001_0 T v1 k v2 g1 g2 hE ⟨hc0,(u90 (is_ok T 2 (k:Int) h1)),hc1,(by decide),trivial⟩ (h g1 g2)
   · have h:=h.2 hc1
     exact p72_2001_1 T v1 k v2 g1 g2 hE ⟨hc0,(u90 (is_ok T 2 (k:Int) h1)),hc1,(by decide),trivial⟩ (h g1 g2)
 · have h:=h.2 (odf hc0)
   exact p72_2001_2 T v1 k v2 g1 g2 hE ⟨hc0,(⟨by decide,by decide⟩),rfl,trivial⟩ (h g1 g2 0)
theorem p72_2002_0 (T:Trk) (v1:List Said) (j:Nat) (v3:List Int) (b:Nat) (j1:Nat) (v2:List Said) (g1:Nat) (g2:Nat) (fe:Flt) (e:Int) {E:Env} {rv:AV} (hE:PureNE Try.prog 72 rv E) (ho:AllP [(decide ((j:Int)<(T.faults.length:Int)))=true,0≤(j:Int)∧(j:Int)<(T.faults.length:Int),((Qj T.faults).drop (0+(Int.toNat (j:Int))*5)).take 5=(YH fe),5≤5,(fe.kind == 2)=true,(fe.block == (b:Int))=true,(decide (T.tick≥fe.frm))=true,0≤fe.chan∧fe.chan<((2:Nat):Int),((0+(Int.toNat fe.chan)*1)+1)≤(rowI v3).length,InR .i64 ((j:Int)+1)])
 (hg:G Try.prog E (XY Try.prog) ⟨(z72_6 T b j1 j),[⟨true,0,1,false,[.nilSl,.sl 1 g1 0 v1.length 2,.sl 2 g2 0 v2.length 2,.nilSl],false⟩,⟨true,g1,2,true,(Qa v1),true⟩,⟨true,g2,2,true,(Qa v2),true⟩,⟨true,0,1,true,(Qq (rowI v3) (0+(Int.toNat fe.chan)*1) [.int .i64 fe.val]),false⟩]⟩):G Try.prog E (XY Try.prog) (VI T v1 j v3 b j1 v2 g1 g2) :=
 Qb (n:=400) (ds:=[]) (cs:=[]) (live:=[0,2,3,4,6,18,19,32,33,34]) (m:=4) (evs:=[.b true,.ld (.agg (YH fe)),.b true,.b true,.b true,.stop]) (obs:=_) hE.kind (hE.nogh _) Ql (by kernel_rfl) ho hg
theorem p72_2002_1 (T:Trk) (v1:List Said) (j:Nat) (v3:List Int) (b:Nat) (j1:Nat) (v2:List Said) (g1:Nat) (g2:Nat) (fe:Flt) {E:Env} {rv:AV} (hE:PureNE Try.prog 72 rv E) (ho:AllP [(decide ((j:Int)<(T.faults.length:Int)))=true,0≤(j:Int)∧(j:Int)<(T.faults.length:Int),((Qj T.faults).drop (0+(Int.toNat (j:Int))*5)).take 5=(YH fe),5≤5,(fe.kind == 2)=true,(fe.block == (b:Int))=true,(decide (T.tick≥fe.frm))=false,InR .i64 ((j:Int)+1)])
 (hg:G Try.prog E (XY Try.prog) ⟨(z72_6 T b j1 j),[⟨true,0,1,false,[.nilSl,.sl 1 g1 0 v1.length 2,.sl 2 g2 0 v2.length 2,.nilSl],false⟩,⟨true,g1,2,true,(Qa v1),true⟩,⟨true,g2,2,true,(Qa v2),true⟩,⟨true,0,1,true,(rowI v3),false⟩]⟩):G Try.prog E (XY Try.prog) (VI T v1 j v3 b j1 v2 g1 g2) :=
 Qb (n:=400) (ds:=[]) (cs:=[]) (live:=[0,2,3,4,6,18,19,32,33,34]) (m:=4) (evs:=[.b true,.ld (.agg (YH fe)),.b true,.b true,.b false,.stop]) (obs:=_) hE.kind (hE.nogh _) Ql (by kernel_rfl) ho hg
theorem p72_2002_2 (T:Trk) (v1:List Said) (j:Nat) (v3:List Int) (b:Nat) (j1:Nat) (v2:List Said) (g1:Nat) (g2:Nat) (fe:Flt) {E:Env} {rv:AV} (hE:PureNE Try.prog 72 rv E) (ho:AllP [(decide ((j:Int)<(T.faults.length:Int)))=true,0≤(j:Int)∧(j:Int)<(T.faults.length:Int),((Qj T.faults).drop (0+(Int.toNat (j:Int))*5)).take 5=(YH fe),5≤5,(fe.kind == 2)=true,(fe.block == (b:Int))=false,false=false,InR .i64 ((j:Int)+1)])
 (hg:G Try.prog E (XY Try.prog) ⟨(z72_6 T b j1 j),[⟨true,0,1,false,[.nilSl,.sl 1 g1 0 v1.length 2,.sl 2 g2 0 v2.length 2,.nilSl],false⟩,⟨true,g1,2,true,(Qa v1),true⟩,⟨true,g2,2,true,(Qa v2),true⟩,⟨true,0,1,true,(rowI v3),false⟩]⟩):G Try.prog E (XY Try.prog) (VI T v1 j v3 b j1 v2 g1 g2) :=
 Qb (n:=400) (ds:=[]) (cs:=[]) (live:=[0,2,3,4,6,18,19,32,33,34]) (m:=4) (evs:=[.b true,.ld (.agg (YH fe)),.b true,.b false,.b false,.stop]) (obs:=_) hE.kind (hE.nogh _) Ql (by kernel_rfl) ho hg
theorem p72_2002_3 (T:Trk) (v1:List Said) (j:Nat) (v3:List Int) (b:Nat) (j1:Nat) (v2:List Said) (g1:Nat) (g2:Nat) (fe:Flt) {E:Env} {rv:AV} (hE:PureNE Try.prog 72 rv E) (ho:AllP [(decide ((j:Int)<(T.faults.length:Int)))=true,0≤(j:Int)∧(j:Int)<(T.faults.length:Int),((Qj T.faults).drop (0+(Int.toNat (j:Int))*5)).take 5=(YH fe),5≤5,(fe.kind == 2)=false,false=false,false=false,InR .i64 ((j:Int)+1)])
 (hg:G Try.prog E (XY Try.prog) ⟨(z72_6 T b j1 j),[⟨true,0,1,false,[.nilSl,.sl 1 g1 0 v1.length 2,.sl 2 g2 0 v2.length 2,.nilSl],false⟩,⟨true,g1,2,true,(Qa v1),true⟩,⟨true,g2,2,true,(Qa v2),true⟩,⟨true,0,1,true,(rowI v3),false⟩]⟩):G Try.prog E (XY Try.prog) (VI T v1 j v3 b j1 v2 g1 g2) :=
 Qb (n:=400) (ds:=[]) (cs:=[]) (live:=[0,2,3,4,6,18,19,32,33,34]) (m:=4) (evs:=[.b true,.ld (.agg (YH fe)),.b false,.b false,.b false,.stop]) (obs:=_) hE.kind (hE.nogh _) Ql (by kernel_rfl) ho hg
theorem p72_2002_4 (T:Trk) (v1:List Said) (j:Nat) (v3:List Int) (b:Nat) (j1:Nat) (v2:List Said) (g1:Nat) (g2:Nat) (e:Int) (e1:Int) {E:Env} {rv:AV} (hE:PureNE Try.prog 72 rv E) (ho:AllP [(decide ((j:Int)<(T.faults.length:Int)))=false,(0:Int)≤2∧(2:Int)<((4:Nat):Int),((rowI v3).drop 0).take 2=[.int .i64 e,.int .i64 e1],g2=g2,(0+(v2.length*2))=(Qa v2).length,(v2.length+1)≤2147483648,0=0,(0:Int)≤2∧(2:Int)<((4:Nat):Int),3≤4,InR .i64 ((j1:Int)+1)])
 (hg:G Try.prog E (Ws Try.prog) ⟨([.rptr (YY T) 0,J,.ptr 0 0 0,.int .i64 2]++jj 14 (z72_9 T j1)),[⟨true,0,1,false,[.nilSl,.sl 1 g1 0 v1.length 2,.sl 2 (g2+1) 0 (v2.length+1) 2,.nilSl],false⟩,⟨true,g1,2,true,(Qa v1),true⟩,⟨true,(g2+1),2,true,((Qa v2)++[.int .i64 e,.int .i64 e1]),true⟩]⟩):G Try.prog E (XY Try.prog) (VI T v1 j v3 b j1 v2 g1 g2) :=
 Qb (n:=400) (ds:=[]) (cs:=[]) (live:=[0,2,3,18,19]) (m:=3) (evs:=[.b false,.auto,.ld (.agg [.int .i64 e,.int .i64 e1]),.stop]) (obs:=_) hE.kind (hE.nogh _) Ql (by kernel_rfl) ho hg
theorem f72W2002 (T:Trk) (v1:List Said) (j:Nat) (v3:List Int) (b:Nat) (j1:Nat) (v2:List Said) {E:Env} {rv:Rd4} (hE:PureNE Try.prog 72 (.agg [.nilSl,.rsl (Qa rv.k1) 0 rv.k1.length,.rsl (Qa rv.k2) 0 rv.k2.length,.rsl (Qa rv.k3) 0 rv.k3.length]) E)
 (h:(((j:Int)<(T.faults.length:Int)→(∃ fe:Flt,T.faults[j]?=some fe∧((fe.kind=2→((fe.block=(b:Int)→((T.tick≥fe.frm→(0≤fe.chan∧(∃ e:Int,v3[Int.toNat fe.chan]?=some e∧((0≤fe.chan∧fe.chan<((2:Nat):Int))∧((I6 ((j:Int)+1))∧Vh E T v1 (j+1) (v3.set (Int.toNat fe.chan) fe.val) b j1 v2)))))∧(¬ (T.tick≥fe.frm)→((I6 ((j:Int)+1))∧Vh E T v1 (j+1) v3 b j1 v2))))∧(¬ (fe.block=(b:Int))→((I6 ((j:Int)+1))∧Vh E T v1 (j+1) v3 b j1 v2))))∧(¬ (fe.kind=2)→((I6 ((j:Int)+1))∧Vh E T v1 (j+1) v3 b j1 v2)))))∧(¬ ((j:Int)<(T.faults.length:Int))→(∃ e:Int,v3[0]?=some e∧(∃ e1:Int,v3[1]?=some e1∧((v2.length+1)≤2147483648∧((I6 ((j1:Int)+1))∧Wv E T v1 (j1+1) (v2++[(⟨e,e1⟩:Said)])))))))):Vh E T v1 j v3 b j1 v2:=by
 intro g1 g2
 rcases bft (decide ((j:Int)<(T.faults.length:Int))) with hc0 | hc0
 · have h:=h.1 (odt hc0)
   obtain ⟨fe,h1,h⟩:=h
   rcases bft (fe.kind == 2) with hc1 | hc1
   · have h:=h.1 (eq_of_beq hc1)
     rcases bft (fe.block == (b:Int)) with hc2 | hc2
     · have h:=h.1 (eq_of_beq hc2)
       rcases bft (decide (T.tick≥fe.frm)) with hc3 | hc3
       · have h:=h.1 (odt hc3)
         obtain ⟨h3,h⟩:=h
         obtain ⟨e,h2,h⟩:=h
         obtain ⟨q9_4,h⟩:=h
         obtain ⟨q11_4,h⟩:=h
         refine p72_2002_0 T v1 j v3 b j1 v2 g1 g2 fe e hE ⟨hc0,(Qk h1),(rp cFlt 5 0 5 h1),(by decide),hc1,hc2,hc3,q9_4,(rf cI 1 0 1 h2),q11_4,trivial⟩ ?_
         have h:=(h g1 g2)
         simp only [VI,List.length_set] at h
         rw [(show Qq (rowI v3) (0+(Int.toNat fe.chan)*1) [.int .i64 fe.val]=rowI (v3.set (Int.toNat fe.chan) fe.val) from Qr cI (s:=1) (k:=0) (fun _=>rfl) h2 rfl (by first | decide | simp))]
         exact h
       · have h:=h.2 (odf hc3)
         obtain ⟨q8_4,h⟩:=h
         exact p72_2002_1 T v1 j v3 b j1 v2 g1 g2 fe hE ⟨hc0,(Qk h1),(rp cFlt 5 0 5 h1),(by decide),hc1,hc2,hc3,q8_4,trivial⟩ (h g1 g2)
     · have h:=h.2 (ne_of_beq_false hc2)
       obtain ⟨q8_3,h⟩:=h
       exact p72_2002_2 T v1 j v3 b j1 v2 g1 g2 fe hE ⟨hc0,(Qk h1),(rp cFlt 5 0 5 h1),(by decide),hc1,hc2,rfl,q8_3,trivial⟩ (h g1 g2)
   · have h:=h.2 (ne_of_beq_false hc1)
     obtain ⟨q8_2,h⟩:=h
     exact p72_2002_3 T v1 j v3 b j1 v2 g1 g2 fe hE ⟨hc0,(Qk h1),(rp cFlt 5 0 5 h1),(by decide),hc1,rfl,rfl,q8_2,trivial⟩ (h g1 g2)
 · have h:=h.2 (odf hc0)
   obtain ⟨e,h1,h⟩:=h
   obtain ⟨e1,h2,h⟩:=h
   obtain ⟨h3,h⟩:=h
   obtain ⟨q11_1,h⟩:=h
   refine p72_2002_4 T v1 j v3 b j1 v2 g1 g2 e e1 hE ⟨hc0,(⟨by decide,by decide⟩),(row_two h1 h2),rfl,(by have hx:=QH QP (s:=2) (fun _=>rfl) v2; simp only [Qa] at hx ⊢; rw [hx]; simp),h3,rfl,(⟨by decide,by decide⟩),(by decide),q11_1,trivial⟩ ?_
   rw [(show Qa v2++[.int .i64 e,.int .i64 e1]=Qa (v2++[(⟨e,e1⟩:Said)]) from (Xe QP v2 [(⟨e,e1⟩:Said)]).symm)]; rw [(show (v2.length+1)=(v2++[(⟨e,e1⟩:Said)]).length from by simp)]; exact (h g1 (g2+1))
theorem p72_3001_0 (T:Trk) (v1:List Said) (v2:List Said) (k:Nat) (v3:List Said) (g1:Nat) (g2:Nat) (g3:Nat) {E:Env} {rv:AV} (hE:PureNE Try.prog 72 rv E) (ho:AllP [(decide ((k:Int)<(T.c.blocks.length:Int)))=true,Qg Try.prog (.clos 90 [] []) [.rptr (YY T) 0,.int .i64 3,.int .i64 (k:Int)] (.bool (isI T.c T.cars 3 (k:Int))),(isI T.c T.cars 3 (k:Int))=true,2≤2])
 (hg:G Try.prog E (XX Try.prog) ⟨([.rptr (YY T) 0,J,.ptr 0 0 0,.int .i64 3,.int .i64 (k:Int),J,.ptr 4 0 0]++jj 11 (z72_4 T k)),[⟨true,0,1,false,[.nilSl,.sl 1 g1 0 v1.length 2,.sl 2 g2 0 v2.length 2,.sl 3 g3 0 v3.length 2],false⟩,⟨true,g1,2,true,(Qa v1),true⟩,⟨true,g2,2,true,(Qa v2),true⟩,⟨true,g3,2,true,(Qa v3),true⟩,⟨true,0,1,true,[.int .i64 1,.int .i64 1],false⟩]⟩):G Try.prog E (Wr Try.prog) (yu T v1 v2 k v3 g1 g2 g3) :=
 Qb (n:=400) (ds:=[]) (cs:=[]) (live:=[0,2,3,4,6,18,19,32,33,34]) (m:=5) (evs:=[.b true,.v (.bool (isI T.c T.cars 3 (k:Int))),.b true,.stop]) (obs:=_) hE.kind (hE.nogh _) Ql (by kernel_rfl) ho hg
theorem p72_3001_1 (T:Trk) (v1:List Said) (v2:List Said) (k:Nat) (v3:List Said) (g1:Nat) (g2:Nat) (g3:Nat) {E:Env} {rv:AV} (hE:PureNE Try.prog 72 rv E) (ho:AllP [(decide ((k:Int)<(T.c.blocks.length:Int)))=true,Qg Try.prog (.clos 90 [] []) [.rptr (YY T) 0,.int .i64 3,.int .i64 (k:Int)] (.bool (isI T.c T.cars 3 (k:Int))),(isI T.c T.cars 3 (k:Int))=false,2≤2])
 (hg:G Try.prog E (XX Try.prog) ⟨([.rptr (YY T) 0,J,.ptr 0 0 0,.int .i64 3,.int .i64 (k:Int),J,.ptr 4 0 0]++jj 11 (z72_4 T k)),[⟨true,0,1,false,[.nilSl,.sl 1 g1 0 v1.length 2,.sl 2 g2 0 v2.length 2,.sl 3 g3 0 v3.length 2],false⟩,⟨true,g1,2,true,(Qa v1),true⟩,⟨true,g2,2,true,(Qa v2),true⟩,⟨true,g3,2,true,(Qa v3),true⟩,⟨true,0,1,true,[.int .i64 0,.int .i64 0],false⟩]⟩):G Try.prog E (Wr Try.prog) (yu T v1 v2 k v3 g1 g2 g3) :=
 Qb (n:=400) (ds:=[]) (cs:=[]) (live:=[0,2,3,4,6,18,19,32,33,34]) (m:=5) (evs:=[.b true,.v (.bool (isI T.c T.cars 3 (k:Int))),.b false,.stop]) (obs:=_) hE.kind (hE.nogh _) Ql (by kernel_rfl) ho hg
theorem p72_3001_2 (T:Trk) (v1:List Said) (v2:List Said) (k:Nat) (v3:List Said) (g1:Nat) (g2:Nat) (g3:Nat) {E:Env} {res:AV} (hE:PureNE Try.prog 72 res E) (ho:AllP [(decide ((k:Int)<(T.c.blocks.length:Int)))=false,InR .i64 4,false=false,4≤4,g1=g1,∀ x ∈ (Qa v1),XA x=true,g2=g2,∀ x ∈ (Qa v2),XA x=true,g3=g3,∀ x ∈ (Qa v3),XA x=true])
 (hr:(.agg [.nilSl,.rsl (Qa v1) 0 v1.length,.rsl (Qa v2) 0 v2.length,.rsl (Qa v3) 0 v3.length])=res):G Try.prog E (Wr Try.prog) (yu T v1 v2 k v3 g1 g2 g3) :=
 endN_step (n:=400) (evs:=[.b false,.b false]) (obs:=_) hE Try.func72 Ql (by kernel_rfl) ho hr
theorem f72W3001 (T:Trk) (v1:List Said) (v2:List Said) (k:Nat) (v3:List Said) {E:Env} {rv:Rd4} (hE:PureNE Try.prog 72 (.agg [.nilSl,.rsl (Qa rv.k1) 0 rv.k1.length,.rsl (Qa rv.k2) 0 rv.k2.length,.rsl (Qa rv.k3) 0 rv.k3.length]) E)
 (h:(((k:Int)<(T.c.blocks.length:Int)→((CarsIn T)∧(((isI T.c T.cars 3 (k:Int))=true→Vg E T v1 v2 0 ([1,1]) k k v3)∧((isI T.c T.cars 3 (k:Int))=false→Vg E T v1 v2 0 ([0,0]) k k v3))))∧(¬ ((k:Int)<(T.c.blocks.length:Int))→rv=(⟨v1,v2,v3⟩:Rd4)))):Wu E T v1 v2 k v3:=by
 intro g1 g2 g3
 rcases bft (decide ((k:Int)<(T.c.blocks.length:Int))) with hc0 | hc0
 · have h:=h.1 (odt hc0)
   obtain ⟨h1,h⟩:=h
   rcases bft (isI T.c T.cars 3 (k:Int)) with hc1 | hc1
   · have h:=h.1 hc1
     exact p72_3001_0 T v1 v2 k v3 g1 g2 g3 hE ⟨hc0,(u90 (is_ok T 3 (k:Int) h1)),hc1,(by decide),trivial⟩ (h g1 g2 g3)
   · have h:=h.2 hc1
     exact p72_3001_1 T v1 v2 k v3 g1 g2 g3 hE ⟨hc0,(u90 (is_ok T 3 (k:Int) h1)),hc1,(by decide),trivial⟩ (h g1 g2 g3)
 · have h:=h.2 (odf hc0)
   exact p72_3001_2 T v1 v2 k v3 g1 g2 g3 hE ⟨hc0,(⟨by decide,by decide⟩),rfl,(by decide),rfl,(yJ _),rfl,(yJ _),rfl,(yJ _),trivial⟩ (by rw [h]; try rfl)
theorem p72_3002_0 (T:Trk) (v1:List Said) (v2:List Said) (j:Nat) (v4:List Int) (b:Nat) (j1:Nat) (v3:List Said) (g1:Nat) (g2:Nat) (g3:Nat) (fe:Flt) (e:Int) {E:Env} {rv:AV} (hE:PureNE Try.prog 72 rv E) (ho:AllP [(decide ((j:Int)<(T.faults.length:Int)))=true,0≤(j:Int)∧(j:Int)<(T.faults.length:Int),((Qj T.faults).drop (0+(Int.toNat (j:Int))*5)).take 5=(YH fe),5≤5,(fe.kind == 3)=true,(fe.block == (b:Int))=true,(decide (T.tick≥fe.frm))=true,0≤fe.chan∧fe.chan<((2:Nat):Int),((0+(Int.toNat fe.chan)*1)+1)≤(rowI v4).length,InR .i64 ((j:Int)+1)])
 (hg:G Try.prog E (XX Try.prog) ⟨(z72_7 T b j1 j),[⟨true,0,1,false,[.nilSl,.sl 1 g1 0 v1.length 2,.sl 2 g2 0 v2.length 2,.sl 3 g3 0 v3.length 2],false⟩,⟨true,g1,2,true,(Qa v1),true⟩,⟨true,g2,2,true,(Qa v2),true⟩,⟨true,g3,2,true,(Qa v3),true⟩,⟨true,0,1,true,(Qq (rowI v4) (0+(Int.toNat fe.chan)*1) [.int .i64 fe.val]),false⟩]⟩):G Try.prog E (XX Try.prog) (VH T v1 v2 j v4 b j1 v3 g1 g2 g3) :=
 Qb (n:=400) (ds:=[]) (cs:=[]) (live:=[0,2,3,4,6,18,19,32,33,34]) (m:=5) (evs:=[.b true,.ld (.agg (YH fe)),.b true,.b true,.b true,.stop]) (obs:=_) hE.kind (hE.nogh _) Ql (by kernel_rfl) ho hg
theorem p72_3002_1 (T:Trk) (v1:List Said) (v2:List Said) (j:Nat) (v4:List Int) (b:Nat) (j1:Nat) (v3:List Said) (g1:Nat) (g2:Nat) (g3:Nat) (fe:Flt) {E:Env} {rv:AV} (hE:PureNE Try.prog 72 rv E) (ho:AllP [(decide ((j:Int)<(T.faults.length:Int)))=true,0≤(j:Int)∧(j:Int)<(T.faults.length:Int),((Qj T.faults).drop (0+(Int.toNat (j:Int))*5)).take 5=(YH fe),5≤5,(fe.kind == 3)=true,(fe.block == (b:Int))=true,(decide (T.tick≥fe.frm))=false,InR .i64 ((j:Int)+1)])
 (hg:G Try.prog E (XX Try.prog) ⟨(z72_7 T b j1 j),[⟨true,0,1,false,[.nilSl,.sl 1 g1 0 v1.length 2,.sl 2 g2 0 v2.length 2,.sl 3 g3 0 v3.length 2],false⟩,⟨true,g1,2,true,(Qa v1),true⟩,⟨true,g2,2,true,(Qa v2),true⟩,⟨true,g3,2,true,(Qa v3),true⟩,⟨true,0,1,true,(rowI v4),false⟩]⟩):G Try.prog E (XX Try.prog) (VH T v1 v2 j v4 b j1 v3 g1 g2 g3) :=
 Qb (n:=400) (ds:=[]) (cs:=[]) (live:=[0,2,3,4,6,18,19,32,33,34]) (m:=5) (evs:=[.b true,.ld (.agg (YH fe)),.b true,.b true,.b false,.stop]) (obs:=_) hE.kind (hE.nogh _) Ql (by kernel_rfl) ho hg
theorem p72_3002_2 (T:Trk) (v1:List Said) (v2:List Said) (j:Nat) (v4:List Int) (b:Nat) (j1:Nat) (v3:List Said) (g1:Nat) (g2:Nat) (g3:Nat) (fe:Flt) {E:Env} {rv:AV} (hE:PureNE Try.prog 72 rv E) (ho:AllP [(decide ((j:Int)<(T.faults.length:Int)))=true,0≤(j:Int)∧(j:Int)<(T.faults.length:Int),((Qj T.faults).drop (0+(Int.toNat (j:Int))*5)).take 5=(YH fe),5≤5,(fe.kind == 3)=true,(fe.block == (b:Int))=false,false=false,InR .i64 ((j:Int)+1)])
 (hg:G Try.prog E (XX Try.prog) ⟨(z72_7 T b j1 j),[⟨true,0,1,false,[.nilSl,.sl 1 g1 0 v1.length 2,.sl 2 g2 0 v2.length 2,.sl 3 g3 0 v3.length 2],false⟩,⟨true,g1,2,true,(Qa v1),true⟩,⟨true,g2,2,true,(Qa v2),true⟩,⟨true,g3,2,true,(Qa v3),true⟩,⟨true,0,1,true,(rowI v4),false⟩]⟩):G Try.prog E (XX Try.prog) (VH T v1 v2 j v4 b j1 v3 g1 g2 g3) :=
 Qb (n:=400) (ds:=[]) (cs:=[]) (live:=[0,2,3,4,6,18,19,32,33,34]) (m:=5) (evs:=[.b true,.ld (.agg (YH fe)),.b true,.b false,.b false,.stop]) (obs:=_) hE.kind (hE.nogh _) Ql (by kernel_rfl) ho hg
theorem p72_3002_3 (T:Trk) (v1:List Said) (v2:List Said) (j:Nat) (v4:List Int) (b:Nat) (j1:Nat) (v3:List Said) (g1:Nat) (g2:Nat) (g3:Nat) (fe:Flt) {E:Env} {rv:AV} (hE:PureNE Try.prog 72 rv E) (ho:AllP [(decide ((j:Int)<(T.faults.length:Int)))=true,0≤(j:Int)∧(j:Int)<(T.faults.length:Int),((Qj T.faults).drop (0+(Int.toNat (j:Int))*5)).take 5=(YH fe),5≤5,(fe.kind == 3)=false,false=false,false=false,InR .i64 ((j:Int)+1)])
 (hg:G Try.prog E (XX Try.prog) ⟨(z72_7 T b j1 j),[⟨true,0,1,false,[.nilSl,.sl 1 g1 0 v1.length 2,.sl 2 g2 0 v2.length 2,.sl 3 g3 0 v3.length 2],false⟩,⟨true,g1,2,true,(Qa v1),true⟩,⟨true,g2,2,true,(Qa v2),true⟩,⟨true,g3,2,true,(Qa v3),true⟩,⟨true,0,1,true,(rowI v4),false⟩]⟩):G Try.prog E (XX Try.prog) (VH T v1 v2 j v4 b j1 v3 g1 g2 g3) :=
 Qb (n:=400) (ds:=[]) (cs:=[]) (live:=[0,2,3,4,6,18,19,32,33,34]) (m:=5) (evs:=[.b true,.ld (.agg (YH fe)),.b false,.b false,.b false,.stop]) (obs:=_) hE.kind (hE.nogh _) Ql (by kernel_rfl) ho hg
theorem p72_3002_4 (T:Trk) (v1:List Said) (v2:List Said) (j:Nat) (v4:List Int) (b:Nat) (j1:Nat) (v3:List Said) (g1:Nat) (g2:Nat) (g3:Nat) (e:Int) (e1:Int) {E:Env} {rv:AV} (hE:PureNE Try.prog 72 rv E) (ho:AllP [(decide ((j:Int)<(T.faults.length:Int)))=false,(0:Int)≤3∧(3:Int)<((4:Nat):Int),((rowI v4).drop 0).take 2=[.int .i64 e,.int .i64 e1],g3=g3,(0+(v3.length*2))=(Qa v3).length,(v3.length+1)≤2147483648,0=0,(0:Int)≤3∧(3:Int)<((4:Nat):Int),4≤4,InR .i64 ((j1:Int)+1)])
 (hg:G Try.prog E (Wr Try.prog) ⟨([.rptr (YY T) 0,J,.ptr 0 0 0,.int .i64 3]++jj 14 (z72_9 T j1)),[⟨true,0,1,false,[.nilSl,.sl 1 g1 0 v1.length 2,.sl 2 g2 0 v2.length 2,.sl 3 (g3+1) 0 (v3.length+1) 2],false⟩,⟨true,g1,2,true,(Qa v1),true⟩,⟨true,g2,2,true,(Qa v2),true⟩,⟨true,(g3+1),2,true,((Qa v3)++[.int .i64 e,.int .i64 e1]),true⟩]⟩):G Try.prog E (XX Try.prog) (VH T v1 v2 j v4 b j1 v3 g1 g2 g3) :=
 Qb (n:=400) (ds:=[]) (cs:=[]) (live:=[0,2,3,18,19]) (m:=4) (evs:=[.b false,.auto,.ld (.agg [.int .i64 e,.int .i64 e1]),.stop]) (obs:=_) hE.kind (hE.nogh _) Ql (by kernel_rfl) ho hg
theorem f72W3002 (T:Trk) (v1:List Said) (v2:List Said) (j:Nat) (v4:List Int) (b:Nat) (j1:Nat) (v3:List Said) {E:Env} {rv:Rd4} (hE:PureNE Try.prog 72 (.agg [.nilSl,.rsl (Qa rv.k1) 0 rv.k1.length,.rsl (Qa rv.k2) 0 rv.k2.length,.rsl (Qa rv.k3) 0 rv.k3.length]) E)
 (h:(((j:Int)<(T.faults.length:Int)→(∃ fe:Flt,T.faults[j]?=some fe∧((fe.kind=3→((fe.block=(b:Int)→((T.tick≥fe.frm→(0≤fe.chan∧(∃ e:Int,v4[Int.toNat fe.chan]?=some e∧((0≤fe.chan∧fe.chan<((2:Nat):Int))∧((I6 ((j:Int)+1))∧Vg E T v1 v2 (j+1) (v4.set (Int.toNat fe.chan) fe.val) b j1 v3)))))∧(¬ (T.tick≥fe.frm)→((I6 ((j:Int)+1))∧Vg E T v1 v2 (j+1) v4 b j1 v3))))∧(¬ (fe.block=(b:Int))→((I6 ((j:Int)+1))∧Vg E T v1 v2 (j+1) v4 b j1 v3))))∧(¬ (fe.kind=3)→((I6 ((j:Int)+1))∧Vg E T v1 v2 (j+1) v4 b j1 v3)))))∧(¬ ((j:Int)<(T.faults.length:Int))→(∃ e:Int,v4[0]?=some e∧(∃ e1:Int,v4[1]?=some e1∧((v3.length+1)≤2147483648∧((I6 ((j1:Int)+1))∧Wu E T v1 v2 (j1+1) (v3++[(⟨e,e1⟩:Said)])))))))):Vg E T v1 v2 j v4 b j1 v3:=by
 intro g1 g2 g3
 rcases bft (decide ((j:Int)<(T.faults.length:Int))) with hc0 | hc0
 · have h:=h.1 (odt hc0)
   obtain ⟨fe,h1,h⟩:=h
   rcases bft (fe.kind == 3) with hc1 | hc1
   · have h:=h.1 (eq_of_beq hc1)
     rcases bft (fe.block == (b:Int)) with hc2 | hc2
     · have h:=h.1 (eq_of_beq hc2)
       rcases bft (decide (T.tick≥fe.frm)) with hc3 | hc3
       · have h:=h.1 (odt hc3)
         obtain ⟨h3,h⟩:=h
         obtain ⟨e,h2,h⟩:=h
         obtain ⟨q9_4,h⟩:=h
         obtain ⟨q11_4,h⟩:=h
         refine p72_3002_0 T v1 v2 j v4 b j1 v3 g1 g2 g3 fe e hE ⟨hc0,(Qk h1),(rp cFlt 5 0 5 h1),(by decide),hc1,hc2,hc3,q9_4,(rf cI 1 0 1 h2),q11_4,trivial⟩ ?_
         have h:=(h g1 g2 g3)
         simp only [VH,List.length_set] at h
         rw [(show Qq (rowI v4) (0+(Int.toNat fe.chan)*1) [.int .i64 fe.val]=rowI (v4.set (Int.toNat fe.chan) fe.val) from Qr cI (s:=1) (k:=0) (fun _=>rfl) h2 rfl (by first | decide | simp))]
         exact h
       · have h:=h.2 (odf hc3)
         obtain ⟨q8_4,h⟩:=h
         exact p72_3002_1 T v1 v2 j v4 b j1 v3 g1 g2 g3 fe hE ⟨hc0,(Qk h1),(rp cFlt 5 0 5 h1),(by decide),hc1,hc2,hc3,q8_4,trivial⟩ (h g1 g2 g3)
     · have h:=h.2 (ne_of_beq_false hc2)
       obtain ⟨q8_3,h⟩:=h
       exact p72_3002_2 T v1 v2 j v4 b j1 v3 g1 g2 g3 fe hE ⟨hc0,(Qk h1),(rp cFlt 5 0 5 h1),(by decide),hc1,hc2,rfl,q8_3,trivial⟩ (h g1 g2 g3)
   · have h:=h.2 (ne_of_beq_false hc1)
     obtain ⟨q8_2,h⟩:=h
     exact p72_3002_3 T v1 v2 j v4 b j1 v3 g1 g2 g3 fe hE ⟨hc0,(Qk h1),(rp cFlt 5 0 5 h1),(by decide),hc1,rfl,rfl,q8_2,trivial⟩ (h g1 g2 g3)
 · have h:=h.2 (odf hc0)
   obtain ⟨e,h1,h⟩:=h
   obtain ⟨e1,h2,h⟩:=h
   obtain ⟨h3,h⟩:=h
   obtain ⟨q11_1,h⟩:=h
   refine p72_3002_4 T v1 v2 j v4 b j1 v3 g1 g2 g3 e e1 hE ⟨hc0,(⟨by decide,by decide⟩),(row_two h1 h2),rfl,(by have hx:=QH QP (s:=2) (fun _=>rfl) v3; simp only [Qa] at hx ⊢; rw [hx]; simp),h3,rfl,(⟨by decide,by decide⟩),(by decide),q11_1,trivial⟩ ?_
   rw [(show Qa v3++[.int .i64 e,.int .i64 e1]=Qa (v3++[(⟨e,e1⟩:Said)]) from (Xe QP v3 [(⟨e,e1⟩:Said)]).symm)]; rw [(show (v3.length+1)=(v3++[(⟨e,e1⟩:Said)]).length from by simp)]; exact (h g1 g2 (g3+1))
theorem YA (T:Trk) (hT:TrkIn T):PureN0 Try.prog 72 [.rptr [.rsl (Qf T.c.blocks) 0 T.c.blocks.length,.rsl (rowI T.c.cars) 0 T.c.cars.length,.rsl (Qj T.faults) 0 T.faults.length,.rsl (Qc T.cars) 0 T.cars.length,.rsl (rowB T.gos) 0 T.gos.length,.int .i64 T.tick,.int .i64 T.stopped,.bool T.wrecked,.int .i64 T.rounds,.int .i64 T.gone] 0] (.agg [.nilSl,.rsl (Qa (Qh T).k1) 0 (Qh T).k1.length,.rsl (Qa (Qh T).k2) 0 (Qh T).k2.length,.rsl (Qa (Qh T).k3) 0 (Qh T).k3.length]):=pureN_of Try.func72 f72b fun E hE=>by
 have hnb:=hT.nb
 have hnf:=hT.nf
 have in3:∀ (row:List Said) (b:Nat),b<T.c.blocks.length→row=(QF T 3).take b→(row.length+1≤2147483648)→(Wu E T (QF T 1) (QF T 2) (b+1) ((QF T 3).take (b+1)))→∀ (d j:Nat) (s:Int × Int),j+d=T.faults.length→s=(T.faults.take j).foldl (Xl 3 b T.tick) (b2i (isI T.c T.cars 3 b),b2i (isI T.c T.cars 3 b))→Vg E T (QF T 1) (QF T 2) j [s.1,s.2] b b row:=by
  intro row b hb hrow hlen nx d
  induction d with
  | zero =>
   intro j s hj hs
   refine f72W3002 T (QF T 1) (QF T 2) j [s.1,s.2] b b row (rv:=Qh T) hE ⟨fun h=>by omega,fun _=>⟨s.1,rfl,s.2,rfl,hlen,by omega,?_⟩⟩
   have e:(⟨s.1,s.2⟩:Said)=Xn T 3 b:=by
    rw [hs,show j=T.faults.length by omega,List.take_length]; rfl
   rw [qt hb] at nx
   rw [e,hrow]; exact nx
  | succ d ih =>
   intro j s hj hs
   have hx:T.faults[j]?=some T.faults[j]:=List.getElem?_eq_getElem (by omega)
   have hc:=hT.flt _ (List.getElem_mem (show j<T.faults.length by omega))
   generalize T.faults[j]=fe at hx hc
   have nx2:=fun (s':Int × Int) (h:s'=Xl 3 b T.tick s fe)=>ih (j+1) s' (by omega) (by rw [Vx hx,← hs]; exact h)
   refine f72W3002 T (QF T 1) (QF T 2) j [s.1,s.2] b b row (rv:=Qh T) hE ⟨fun _=>⟨fe,hx,fun e1=>⟨fun e2=>⟨fun e3=>⟨by omega,?_⟩,fun e3=>⟨by omega,nx2 s (by rw [Xl,if_neg (fun h=>e3 h.2.2)])⟩⟩,fun e2=>⟨by omega,nx2 s (by rw [Xl,if_neg (fun h=>e2 h.2.1)])⟩⟩,fun e1=>⟨by omega,nx2 s (by rw [Xl,if_neg (fun h=>e1 h.1)])⟩⟩,fun h=>by omega⟩
   rcases hc with hc | hc
   · rw [hc]
     exact ⟨s.1,rfl,by omega,by omega,nx2 (fe.val,s.2) (by rw [Xl,if_pos ⟨e1,e2,e3⟩,if_pos hc])⟩
   · rw [hc]
     exact ⟨s.2,rfl,by omega,by omega,nx2 (s.1,fe.val) (by rw [Xl,if_pos ⟨e1,e2,e3⟩,if_neg (by omega)])⟩
 have out3:(Qh T=Qh T)→∀ (d k:Nat),k+d=T.c.blocks.length→Wu E T (QF T 1) (QF T 2) k ((QF T 3).take k):=by
  intro nxt d
  induction d with
  | zero =>
   intro k hk
   refine f72W3001 T (QF T 1) (QF T 2) k _ (rv:=Qh T) hE ⟨fun h=>by omega,fun _=>?_⟩
   rw [List.take_of_length_le (by simp [QF]; omega)]
   exact nxt
  | succ d ih =>
   intro k hk
   have hlen:((QF T 3).take k).length+1≤2147483648:=by have:=hT.nb; simp [QF]; omega
   have go:=in3 _ k (by omega) rfl hlen (ih (k+1) (by omega)) T.faults.length 0
   refine f72W3001 T (QF T 1) (QF T 2) k _ (rv:=Qh T) hE ⟨fun _=>⟨hT.cars,fun hi=>go (1,1) (by omega) (by rw [hi]; rfl),fun hi=>go (0,0) (by omega) (by rw [hi]; rfl)⟩,fun h=>by omega⟩
 have in2:∀ (row:List Said) (b:Nat),b<T.c.blocks.length→row=(QF T 2).take b→(row.length+1≤2147483648)→(Wv E T (QF T 1) (b+1) ((QF T 2).take (b+1)))→∀ (d j:Nat) (s:Int × Int),j+d=T.faults.length→s=(T.faults.take j).foldl (Xl 2 b T.tick) (b2i (isI T.c T.cars 2 b),b2i (isI T.c T.cars 2 b))→Vh E T (QF T 1) j [s.1,s.2] b b row:=by
  intro row b hb hrow hlen nx d
  induction d with
  | zero =>
   intro j s hj hs
   refine f72W2002 T (QF T 1) j [s.1,s.2] b b row (rv:=Qh T) hE ⟨fun h=>by omega,fun _=>⟨s.1,rfl,s.2,rfl,hlen,by omega,?_⟩⟩
   have e:(⟨s.1,s.2⟩:Said)=Xn T 2 b:=by
    rw [hs,show j=T.faults.length by omega,List.take_length]; rfl
   rw [qt hb] at nx
   rw [e,hrow]; exact nx
  | succ d ih =>
   intro j s hj hs
   have hx:T.faults[j]?=some T.faults[j]:=List.getElem?_eq_getElem (by omega)
   have hc:=hT.flt _ (List.getElem_mem (show j<T.faults.length by omega))
   generalize T.faults[j]=fe at hx hc
   have nx2:=fun (s':Int × Int) (h:s'=Xl 2 b T.tick s fe)=>ih (j+1) s' (by omega) (by rw [Vx hx,← hs]; exact h)
   refine f72W2002 T (QF T 1) j [s.1,s.2] b b row (rv:=Qh T) hE ⟨fun _=>⟨fe,hx,fun e1=>⟨fun e2=>⟨fun e3=>⟨by omega,?_⟩,fun e3=>⟨by omega,nx2 s (by rw [Xl,if_neg (fun h=>e3 h.2.2)])⟩⟩,fun e2=>⟨by omega,nx2 s (by rw [Xl,if_neg (fun h=>e2 h.2.1)])⟩⟩,fun e1=>⟨by omega,nx2 s (by rw [Xl,if_neg (fun h=>e1 h.1)])⟩⟩,fun h=>by omega⟩
   rcases hc with hc | hc
   · rw [hc]
     exact ⟨s.1,rfl,by omega,by omega,nx2 (fe.val,s.2) (by rw [Xl,if_pos ⟨e1,e2,e3⟩,if_pos hc])⟩
   · rw [hc]
     exact ⟨s.2,rfl,by omega,by omega,nx2 (s.1,fe.val) (by rw [Xl,if_pos ⟨e1,e2,e3⟩,if_neg (by omega)])⟩
 have out2:(Wu E T (QF T 1) (QF T 2) 0 [])→∀ (d k:Nat),k+d=T.c.blocks.length→Wv E T (QF T 1) k ((QF T 2).take k):=by
  intro nxt d
  induction d with
  | zero =>
   intro k hk
   refine f72W2001 T (QF T 1) k _ (rv:=Qh T) hE ⟨fun h=>by omega,fun _=>?_⟩
   rw [List.take_of_length_le (by simp [QF]; omega)]
   exact nxt
  | succ d ih =>
   intro k hk
   have hlen:((QF T 2).take k).length+1≤2147483648:=by have:=hT.nb; simp [QF]; omega
   have go:=in2 _ k (by omega) rfl hlen (ih (k+1) (by omega)) T.faults.length 0
   refine f72W2001 T (QF T 1) k _ (rv:=Qh T) hE ⟨fun _=>⟨hT.cars,fun hi=>go (1,1) (by omega) (by rw [hi]; rfl),fun hi=>go (0,0) (by omega) (by rw [hi]; rfl)⟩,fun h=>by omega⟩
 have in1:∀ (row:List Said) (b:Nat),b<T.c.blocks.length→row=(QF T 1).take b→(row.length+1≤2147483648)→(qg E T (b+1) ((QF T 1).take (b+1)))→∀ (d j:Nat) (s:Int × Int),j+d=T.faults.length→s=(T.faults.take j).foldl (Xl 1 b T.tick) (b2i (isI T.c T.cars 1 b),b2i (isI T.c T.cars 1 b))→Vi E T j [s.1,s.2] b b row:=by
  intro row b hb hrow hlen nx d
  induction d with
  | zero =>
   intro j s hj hs
   refine f72W1002 T j [s.1,s.2] b b row (rv:=Qh T) hE ⟨fun h=>by omega,fun _=>⟨s.1,rfl,s.2,rfl,hlen,by omega,?_⟩⟩
   have e:(⟨s.1,s.2⟩:Said)=Xn T 1 b:=by
    rw [hs,show j=T.faults.length by omega,List.take_length]; rfl
   rw [qt hb] at nx
   rw [e,hrow]; exact nx
  | succ d ih =>
   intro j s hj hs
   have hx:T.faults[j]?=some T.faults[j]:=List.getElem?_eq_getElem (by omega)
   have hc:=hT.flt _ (List.getElem_mem (show j<T.faults.length by omega))
   generalize T.faults[j]=fe at hx hc
   have nx2:=fun (s':Int × Int) (h:s'=Xl 1 b T.tick s fe)=>ih (j+1) s' (by omega) (by rw [Vx hx,← hs]; exact h)
   refine f72W1002 T j [s.1,s.2] b b row (rv:=Qh T) hE ⟨fun _=>⟨fe,hx,fun e1=>⟨fun e2=>⟨fun e3=>⟨by omega,?_⟩,fun e3=>⟨by omega,nx2 s (by rw [Xl,if_neg (fun h=>e3 h.2.2)])⟩⟩,fun e2=>⟨by omega,nx2 s (by rw [Xl,if_neg (fun h=>e2 h.2.1)])⟩⟩,fun e1=>⟨by omega,nx2 s (by rw [Xl,if_neg (fun h=>e1 h.1)])⟩⟩,fun h=>by omega⟩
   rcases hc with hc | hc
   · rw [hc]
     exact ⟨s.1,rfl,by omega,by omega,nx2 (fe.val,s.2) (by rw [Xl,if_pos ⟨e1,e2,e3⟩,if_pos hc])⟩
   · rw [hc]
     exact ⟨s.2,rfl,by omega,by omega,nx2 (s.1,fe.val) (by rw [Xl,if_pos ⟨e1,e2,e3⟩,if_neg (by omega)])⟩
 have out1:(Wv E T (QF T 1) 0 [])→∀ (d k:Nat),k+d=T.c.blocks.length→qg E T k ((QF T 1).take k):=by
  intro nxt d
  induction d with
  | zero =>
   intro k hk
   refine f72W1001 T k _ (rv:=Qh T) hE ⟨fun h=>by omega,fun _=>?_⟩
   rw [List.take_of_length_le (by simp [QF]; omega)]
   exact nxt
  | succ d ih =>
   intro k hk
   have hlen:((QF T 1).take k).length+1≤2147483648:=by have:=hT.nb; simp [QF]; omega
   have go:=in1 _ k (by omega) rfl hlen (ih (k+1) (by omega)) T.faults.length 0
   refine f72W1001 T k _ (rv:=Qh T) hE ⟨fun _=>⟨hT.cars,fun hi=>go (1,1) (by omega) (by rw [hi]; rfl),fun hi=>go (0,0) (by omega) (by rw [hi]; rfl)⟩,fun h=>by omega⟩
 exact f72W T (rv:=Qh T) hE (out1 (out2 (out3 rfl T.c.blocks.length 0 (by omega)) T.c.blocks.length 0 (by omega)) T.c.blocks.length 0 (by omega))
theorem f73b:Try.f73.body=some (Qe Try.prog 73):=by kernel_rfl
theorem u73 {a c k:List AV} {r:AV} (h:Pure Try.prog 73 (a++c++k) r):Qg Try.prog (.clos 73 a k) c r:=QG Try.func73 (by kernel_rfl) f73b h
theorem p73_start_0 (s:Said) {E:Env} {res:AV} (hE:Qm Try.prog 73 res E) (ho:AllP [(0:Int)≤0∧(0:Int)<((2:Nat):Int),(0:Int)≤1∧(1:Int)<((2:Nat):Int)])
 (hr:AvLe (.bool (s.a != s.b)) res):G Try.prog E [.code (Qe Try.prog 73)] ⟨[.agg [.int .i64 s.a,.int .i64 s.b]]++unds (Try.f73.ntmps - 1),[]⟩ :=
 Qi (n:=400) (evs:=[]) (obs:=_) hE Try.func73 Ql (by kernel_rfl) ho hr
theorem f73W (s:Said) {E:Env} {rv:Bool} (hE:Qm Try.prog 73 (.bool rv) E)
 (h:rv=(s.a != s.b)):G Try.prog E [.code (Qe Try.prog 73)] ⟨[.agg [.int .i64 s.a,.int .i64 s.b]]++unds (Try.f73.ntmps - 1),[]⟩:=by
 exact p73_start_0 s hE ⟨(⟨by decide,by decide⟩),(⟨by decide,by decide⟩),trivial⟩ (AvLe.of_eq (by rw [h]; try rfl))
theorem split_ok (s:Said):Pure Try.prog 73 [.agg [.int .i64 s.a,.int .i64 s.b]] (.bool (Qw s)):=QJ Try.func73 f73b fun E hE=>f73W s (rv:=Qw s) hE rfl
theorem f92b:Try.f92.body=some (Qe Try.prog 92):=by kernel_rfl
theorem u92 {a c k:List AV} {r:AV} (h:Pure Try.prog 92 (a++c++k) r):Qg Try.prog (.clos 92 a k) c r:=QG Try.func92 (by kernel_rfl) f92b h
def f92K0 (P:Program):List Item:=kAt 400 [.code (Qe P 92)] [.stop]
def f92S0 (l:(List Said)) (i:Nat):St:=⟨([.rsl (Qa l) 0 l.length,.clos 73 [] []]++jj 5 ([.int .i64 (l.length:Int),.int .i64 (i:Int)]++Js 10)),[]⟩
def f92G0 (E:Env) (l:(List Said)) (i:Nat):Prop:=G Try.prog E (f92K0 Try.prog) (f92S0 l i )
theorem p92_start_0 (l:(List Said)) {E:Env} {rv:AV} (hE:Qm Try.prog 92 rv E) (ho:AllP [])
 (hg:G Try.prog E (f92K0 Try.prog) ⟨([.rsl (Qa l) 0 l.length,.clos 73 [] []]++jj 5 ([.int .i64 (l.length:Int),.int .i64 0]++Js 10)),[]⟩):G Try.prog E [.code (Qe Try.prog 92)] ⟨[.rsl (Qa l) 0 l.length,.clos 73 [] []]++unds (Try.f92.ntmps - 2),[]⟩ :=
 Qb (n:=400) (ds:=[]) (cs:=[]) (live:=[0,1,7,8]) (m:=0) (evs:=[.stop]) (obs:=_) hE.2.1 (hE.nogh _) Ql (by kernel_rfl) ho hg
theorem f92W (l:(List Said)) {E:Env} {rv:Int} (hE:Qm Try.prog 92 (.int .i64 rv) E)
 (h:f92G0 E l 0):G Try.prog E [.code (Qe Try.prog 92)] ⟨[.rsl (Qa l) 0 l.length,.clos 73 [] []]++unds (Try.f92.ntmps - 2),[]⟩:=by
 exact p92_start_0 l hE trivial h
theorem p92_0_0 (l:(List Said)) (i:Nat) (se:Said) {E:Env} {res:AV} (hE:Qm Try.prog 92 res E) (ho:AllP [(decide ((i:Int)<(l.length:Int)))=true,0≤(i:Int)∧(i:Int)<(l.length:Int),((Qa l).drop (0+(Int.toNat (i:Int))*2)).take 2=[.int .i64 se.a,.int .i64 se.b],Qg Try.prog (.clos 73 [] []) [.agg [.int .i64 se.a,.int .i64 se.b]] (.bool (Qw se)),(Qw se)=true])
 (hr:AvLe (.int .i64 (i:Int)) res):G Try.prog E (f92K0 Try.prog) (f92S0 l i ) :=
 Qi (n:=400) (evs:=[.b true,.ld (.agg [.int .i64 se.a,.int .i64 se.b]),.v (.bool (Qw se)),.b true]) (obs:=_) hE Try.func92 Ql (by kernel_rfl) ho hr
theorem p92_0_1 (l:(List Said)) (i:Nat) (se:Said) {E:Env} {rv:AV} (hE:Qm Try.prog 92 rv E) (ho:AllP [(decide ((i:Int)<(l.length:Int)))=true,0≤(i:Int)∧(i:Int)<(l.length:Int),((Qa l).drop (0+(Int.toNat (i:Int))*2)).take 2=[.int .i64 se.a,.int .i64 se.b],Qg Try.prog (.clos 73 [] []) [.agg [.int .i64 se.a,.int .i64 se.b]] (.bool (Qw se)),(Qw se)=false,InR .i64 ((i:Int)+1)])
 (hg:G Try.prog E (f92K0 Try.prog) ⟨([.rsl (Qa l) 0 l.length,.clos 73 [] []]++jj 5 ([.int .i64 (l.length:Int),.int .i64 ((i:Int)+1)]++Js 10)),[]⟩):G Try.prog E (f92K0 Try.prog) (f92S0 l i ) :=
 Qb (n:=400) (ds:=[]) (cs:=[]) (live:=[0,1,7,8]) (m:=0) (evs:=[.b true,.ld (.agg [.int .i64 se.a,.int .i64 se.b]),.v (.bool (Qw se)),.b false,.stop]) (obs:=_) hE.2.1 (hE.nogh _) Ql (by kernel_rfl) ho hg
theorem p92_0_2 (l:(List Said)) (i:Nat) {E:Env} {res:AV} (hE:Qm Try.prog 92 res E) (ho:AllP [(decide ((i:Int)<(l.length:Int)))=false])
 (hr:AvLe (.int .i64 (-1)) res):G Try.prog E (f92K0 Try.prog) (f92S0 l i ) :=
 Qi (n:=400) (evs:=[.b false]) (obs:=_) hE Try.func92 Ql (by kernel_rfl) ho hr
theorem f92W0 (l:(List Said)) (i:Nat) {E:Env} {rv:Int} (hE:Qm Try.prog 92 (.int .i64 rv) E)
 (h:(((i:Int)<(l.length:Int)→(∃ se:Said,l[i]?=some se∧(((Qw se)=true→rv=(i:Int))∧((Qw se)=false→((I6 ((i:Int)+1))∧f92G0 E l (i+1))))))∧(¬ ((i:Int)<(l.length:Int))→rv=(-1)))):f92G0 E l i:=by
 rcases bft (decide ((i:Int)<(l.length:Int))) with hc0 | hc0
 · have h:=h.1 (odt hc0)
   obtain ⟨se,h1,h⟩:=h
   rcases bft (Qw se) with hc1 | hc1
   · have h:=h.1 hc1
     exact p92_0_0 l i se hE ⟨hc0,(Qk h1),(rp QP 2 0 2 h1),(u73 (split_ok se)),hc1,trivial⟩ (AvLe.of_eq (by rw [h]; try rfl))
   · have h:=h.2 hc1
     obtain ⟨q6_2,h⟩:=h
     exact p92_0_1 l i se hE ⟨hc0,(Qk h1),(rp QP 2 0 2 h1),(u73 (split_ok se)),hc1,q6_2,trivial⟩ h
 · have h:=h.2 (odf hc0)
   exact p92_0_2 l i hE ⟨hc0,trivial⟩ (AvLe.of_eq (by rw [h]; try rfl))
theorem idxS_ok (l:List Said) (h:l.length≤9223372036854775807):Pure Try.prog 92 [.rsl (Qa l) 0 l.length,.clos 73 [] []] (.int .i64 (idxG Qw l)):=QJ Try.func92 f92b fun E hE=>by
 refine f92W l hE (Vw Qw l l.length 0 (by omega) (fun j x hj=>by omega) (fun i=>f92G0 E l i) (fun i hi' h1 h2=>?_) (fun _ h2=>?_))
 · have hx:l[i]?=some l[i]:=List.getElem?_eq_getElem hi'
   exact f92W0 l i hE ⟨fun _=>⟨_,hx,fun hp=>h1 _ hx hp,fun hp=>⟨by omega,h2 _ hx hp⟩⟩,fun h=>by omega⟩
 · exact f92W0 l _ hE ⟨fun h=>by omega,fun _=>h2⟩
theorem f76b:Try.f76.body=some (Qe Try.prog 76):=by kernel_rfl
theorem u76 {a c k:List AV} {r:AV} (h:Pure Try.prog 76 (a++c++k) r):Qg Try.prog (.clos 76 a k) c r:=QG Try.func76 (by kernel_rfl) f76b h
theorem p76_start_0 (l:(List Said)) {E:Env} {res:AV} (hE:Qm Try.prog 76 res E) (ho:AllP [Qg Try.prog (.clos 92 [] []) [.rsl (Qa l) 0 l.length,.clos 73 [] []] (.int .i64 (idxG Qw l))])
 (hr:AvLe (.bool (decide ((idxG Qw l)≥0))) res):G Try.prog E [.code (Qe Try.prog 76)] ⟨[.rsl (Qa l) 0 l.length,.clos 73 [] []]++unds (Try.f76.ntmps - 2),[]⟩ :=
 Qi (n:=400) (evs:=[.v (.int .i64 (idxG Qw l))]) (obs:=_) hE Try.func76 Ql (by kernel_rfl) ho hr
theorem f76W (l:(List Said)) {E:Env} {rv:Bool} (hE:Qm Try.prog 76 (.bool rv) E)
 (h:((l.length≤9223372036854775807)∧rv=(decide ((idxG Qw l)≥0)))):G Try.prog E [.code (Qe Try.prog 76)] ⟨[.rsl (Qa l) 0 l.length,.clos 73 [] []]++unds (Try.f76.ntmps - 2),[]⟩:=by
 obtain ⟨h1,h⟩:=h
 exact p76_start_0 l hE ⟨(u92 (idxS_ok l h1)),trivial⟩ (AvLe.of_eq (by rw [h]; try rfl))
theorem anyS_ok (l:List Said) (h:l.length≤9223372036854775807):Pure Try.prog 76 [.rsl (Qa l) 0 l.length,.clos 73 [] []] (.bool (l.any Qw)):=QJ Try.func76 f76b fun E hE=>f76W l hE ⟨h,(Wn _ l).symm⟩
theorem f75b:Try.f75.body=some (Qe Try.prog 75):=by kernel_rfl
theorem u75 {a c k:List AV} {r:AV} (h:Pure Try.prog 75 (a++c++k) r):Qg Try.prog (.clos 75 a k) c r:=QG Try.func75 (by kernel_rfl) f75b h
theorem p75_start_0 (l:(List Said)) {E:Env} {res:AV} (hE:Qm Try.prog 75 res E) (ho:AllP [Qg Try.prog (.clos 76 [] []) [.rsl (Qa l) 0 l.length,.clos 73 [] []] (.bool (l.any Qw))])
 (hr:AvLe (.bool (l.any Qw)) res):G Try.prog E [.code (Qe Try.prog 75)] ⟨[.rsl (Qa l) 0 l.length,.rptr [.clos 73 [] []] 0]++unds (Try.f75.ntmps - 2),[]⟩ :=
 Qi (n:=400) (evs:=[.v (.bool (l.any Qw))]) (obs:=_) hE Try.func75 Ql (by kernel_rfl) ho hr
theorem f75W (l:(List Said)) {E:Env} {rv:Bool} (hE:Qm Try.prog 75 (.bool rv) E)
 (h:((l.length≤9223372036854775807)∧rv=(l.any Qw))):G Try.prog E [.code (Qe Try.prog 75)] ⟨[.rsl (Qa l) 0 l.length,.rptr [.clos 73 [] []] 0]++unds (Try.f75.ntmps - 2),[]⟩:=by
 obtain ⟨h1,h⟩:=h
 exact p75_start_0 l hE ⟨(u76 (anyS_ok l h1)),trivial⟩ (AvLe.of_eq (by rw [h]; try rfl))
theorem splitR_ok (l:List Said) (h:l.length≤9223372036854775807):Pure Try.prog 75 [.rsl (Qa l) 0 l.length,.rptr [.clos 73 [] []] 0] (.bool (l.any Qw)):=QJ Try.func75 f75b fun E hE=>f75W l (rv:=l.any Qw) hE ⟨h,rfl⟩
theorem f91b:Try.f91.body=some (Qe Try.prog 91):=by kernel_rfl
theorem u91 {a c k:List AV} {r:AV} (h:Pure Try.prog 91 (a++c++k) r):Qg Try.prog (.clos 91 a k) c r:=QG Try.func91 (by kernel_rfl) f91b h
def f91K0 (P:Program):List Item:=kAt 400 [.code (Qe P 91)] [.stop]
def f91S0 (l:(List (List Said))) (i:Nat):St:=⟨([.rsl ((QM Qa) l) 0 l.length,.clos 75 [] [.rptr [.clos 73 [] []] 0]]++jj 5 ([.int .i64 (l.length:Int),.int .i64 (i:Int)]++Js 10)),[]⟩
def f91G0 (E:Env) (l:(List (List Said))) (i:Nat):Prop:=G Try.prog E (f91K0 Try.prog) (f91S0 l i )
abbrev z91_1 (l:(List (List Said))):List AV:=[.rsl ((QM Qa) l) 0 l.length,.clos 75 [] [.rptr [.clos 73 [] []] 0]]
theorem p91_start_0 (l:(List (List Said))) {E:Env} {rv:AV} (hE:Qm Try.prog 91 rv E) (ho:AllP [])
 (hg:G Try.prog E (f91K0 Try.prog) ⟨((z91_1 l)++jj 5 ([.int .i64 (l.length:Int),.int .i64 0]++Js 10)),[]⟩):G Try.prog E [.code (Qe Try.prog 91)] ⟨(z91_1 l)++unds (Try.f91.ntmps - 2),[]⟩ :=
 Qb (n:=400) (ds:=[]) (cs:=[]) (live:=[0,1,7,8]) (m:=0) (evs:=[.stop]) (obs:=_) hE.2.1 (hE.nogh _) Ql (by kernel_rfl) ho hg
theorem f91W (l:(List (List Said))) {E:Env} {rv:Int} (hE:Qm Try.prog 91 (.int .i64 rv) E)
 (h:f91G0 E l 0):G Try.prog E [.code (Qe Try.prog 91)] ⟨[.rsl ((QM Qa) l) 0 l.length,.clos 75 [] [.rptr [.clos 73 [] []] 0]]++unds (Try.f91.ntmps - 2),[]⟩:=by
 exact p91_start_0 l hE trivial h
theorem p91_0_0 (l:(List (List Said))) (i:Nat) (le:(List Said)) {E:Env} {res:AV} (hE:Qm Try.prog 91 res E) (ho:AllP [(decide ((i:Int)<(l.length:Int)))=true,0≤(i:Int)∧(i:Int)<(l.length:Int),(((QM Qa) l).drop (0+(Int.toNat (i:Int))*1)).take 1=[.rsl (Qa le) 0 le.length],Qg Try.prog (.clos 75 [] [.rptr [.clos 73 [] []] 0]) [.rsl (Qa le) 0 le.length] (.bool (le.any Qw)),(le.any Qw)=true])
 (hr:AvLe (.int .i64 (i:Int)) res):G Try.prog E (f91K0 Try.prog) (f91S0 l i ) :=
 Qi (n:=400) (evs:=[.b true,.ld (.rsl (Qa le) 0 le.length),.v (.bool (le.any Qw)),.b true]) (obs:=_) hE Try.func91 Ql (by kernel_rfl) ho hr
theorem p91_0_1 (l:(List (List Said))) (i:Nat) (le:(List Said)) {E:Env} {rv:AV} (hE:Qm Try.prog 91 rv E) (ho:AllP [(decide ((i:Int)<(l.length:Int)))=true,0≤(i:Int)∧(i:Int)<(l.length:Int),(((QM Qa) l).drop (0+(Int.toNat (i:Int))*1)).take 1=[.rsl (Qa le) 0 le.length],Qg Try.prog (.clos 75 [] [.rptr [.clos 73 [] []] 0]) [.rsl (Qa le) 0 le.length] (.bool (le.any Qw)),(le.any Qw)=false,InR .i64 ((i:Int)+1)])
 (hg:G Try.prog E (f91K0 Try.prog) ⟨((z91_1 l)++jj 5 ([.int .i64 (l.length:Int),.int .i64 ((i:Int)+1)]++Js 10)),[]⟩):G Try.prog E (f91K0 Try.prog) (f91S0 l i ) :=
 Qb (n:=400) (ds:=[]) (cs:=[]) (live:=[0,1,7,8]) (m:=0) (evs:=[.b true,.ld (.rsl (Qa le) 0 le.length),.v (.bool (le.any Qw)),.b false,.stop]) (obs:=_) hE.2.1 (hE.nogh _) Ql (by kernel_rfl) ho hg
theorem p91_0_2 (l:(List (List Said))) (i:Nat) {E:Env} {res:AV} (hE:Qm Try.prog 91 res E) (ho:AllP [(decide ((i:Int)<(l.length:Int)))=false])
 (hr:AvLe (.int .i64 (-1)) res):G Try.prog E (f91K0 Try.prog) (f91S0 l i ) :=
 Qi (n:=400) (evs:=[.b false]) (obs:=_) hE Try.func91 Ql (by kernel_rfl) ho hr
theorem f91W0 (l:(List (List Said))) (i:Nat) {E:Env} {rv:Int} (hE:Qm Try.prog 91 (.int .i64 rv) E)
 (h:(((i:Int)<(l.length:Int)→(∃ le:(List Said),l[i]?=some le∧((le.length≤9223372036854775807)∧(((le.any Qw)=true→rv=(i:Int))∧((le.any Qw)=false→((I6 ((i:Int)+1))∧f91G0 E l (i+1)))))))∧(¬ ((i:Int)<(l.length:Int))→rv=(-1)))):f91G0 E l i:=by
 rcases bft (decide ((i:Int)<(l.length:Int))) with hc0 | hc0
 · have h:=h.1 (odt hc0)
   obtain ⟨le,h1,h⟩:=h
   obtain ⟨h2,h⟩:=h
   rcases bft (le.any Qw) with hc1 | hc1
   · have h:=h.1 hc1
     exact p91_0_0 l i le hE ⟨hc0,(Qk h1),(rp (cLs Qa) 1 0 1 h1),(u75 (splitR_ok le h2)),hc1,trivial⟩ (AvLe.of_eq (by rw [h]; try rfl))
   · have h:=h.2 hc1
     obtain ⟨q6_2,h⟩:=h
     exact p91_0_1 l i le hE ⟨hc0,(Qk h1),(rp (cLs Qa) 1 0 1 h1),(u75 (splitR_ok le h2)),hc1,q6_2,trivial⟩ h
 · have h:=h.2 (odf hc0)
   exact p91_0_2 l i hE ⟨hc0,trivial⟩ (AvLe.of_eq (by rw [h]; try rfl))
theorem idxSS_ok (l:List (List Said)) (h:l.length≤9223372036854775807∧∀ x ∈ l,x.length≤9223372036854775807):Pure Try.prog 91 [.rsl (QM Qa l) 0 l.length,.clos 75 [] [.rptr [.clos 73 [] []] 0]] (.int .i64 (idxG (fun l=>l.any Qw) l)):=QJ Try.func91 f91b fun E hE=>by
 have h0:=h.1
 refine f91W l hE (Vw (fun l=>l.any Qw) l l.length 0 (by omega) (fun j x hj=>by omega) (fun i=>f91G0 E l i) (fun i hi' h1 h2=>?_) (fun _ h2=>?_))
 · have hx:l[i]?=some l[i]:=List.getElem?_eq_getElem hi'
   exact f91W0 l i hE ⟨fun _=>⟨_,hx,h.2 _ (List.getElem_mem _),fun hp=>h1 _ hx hp,fun hp=>⟨by omega,h2 _ hx hp⟩⟩,fun h=>by omega⟩
 · exact f91W0 l _ hE ⟨fun h=>by omega,fun _=>h2⟩
theorem f74b:Try.f74.body=some (Qe Try.prog 74):=by kernel_rfl
theorem u74 {a c k:List AV} {r:AV} (h:Pure Try.prog 74 (a++c++k) r):Qg Try.prog (.clos 74 a k) c r:=QG Try.func74 (by kernel_rfl) f74b h
theorem p74_start_0 (l:(List (List Said))) {E:Env} {res:AV} (hE:Qm Try.prog 74 res E) (ho:AllP [Qg Try.prog (.clos 91 [] []) [.rsl ((QM Qa) l) 0 l.length,.clos 75 [] [.rptr [.clos 73 [] []] 0]] (.int .i64 (idxG (fun l=>l.any Qw) l))])
 (hr:AvLe (.bool (decide ((idxG (fun l=>l.any Qw) l)≥0))) res):G Try.prog E [.code (Qe Try.prog 74)] ⟨[.rsl ((QM Qa) l) 0 l.length,.clos 75 [] [.rptr [.clos 73 [] []] 0]]++unds (Try.f74.ntmps - 2),[]⟩ :=
 Qi (n:=400) (evs:=[.v (.int .i64 (idxG (fun l=>l.any Qw) l))]) (obs:=_) hE Try.func74 Ql (by kernel_rfl) ho hr
theorem f74W (l:(List (List Said))) {E:Env} {rv:Bool} (hE:Qm Try.prog 74 (.bool rv) E)
 (h:((l.length≤9223372036854775807∧∀ x ∈ l,x.length≤9223372036854775807)∧rv=(decide ((idxG (fun l=>l.any Qw) l)≥0)))):G Try.prog E [.code (Qe Try.prog 74)] ⟨[.rsl ((QM Qa) l) 0 l.length,.clos 75 [] [.rptr [.clos 73 [] []] 0]]++unds (Try.f74.ntmps - 2),[]⟩:=by
 obtain ⟨h1,h⟩:=h
 exact p74_start_0 l hE ⟨(u91 (idxSS_ok l h1)),trivial⟩ (AvLe.of_eq (by rw [h]; try rfl))
theorem Vm (l:List (List Said)) (h:l.length≤9223372036854775807∧∀ x ∈ l,x.length≤9223372036854775807):Pure Try.prog 74 [.rsl (QM Qa l) 0 l.length,.clos 75 [] [.rptr [.clos 73 [] []] 0]] (.bool (l.any fun l=>l.any Qw)):=QJ Try.func74 f74b fun E hE=>f74W l hE ⟨h,(Wn _ l).symm⟩
end Go.Proofs.Ytgdfkjjgdkejfaa