/- A part of the proof: several texts, one behind the other. -/
import Derived.Test.YtemklbioijmjiaaLTopTillsD
import Derived.Test.YtemklbioijmjiaaChecked
set_option linter.unusedVariables false
set_option linter.unusedSimpArgs false
set_option maxRecDepth 100000
namespace Go.Proofs.Ytemklbioijmjiaa
open Go Ax
open Go.Proofs
theorem f100b:Try.f100.body=some (Qd Try.prog 100):=by kernel_rfl
theorem u100 {a c k:List AV} {r:AV} (h:Pure Try.prog 100 (a++c++k) r):Qe Try.prog (.clos 100 a k) c r:=Qs Try.func100 (by kernel_rfl) f100b h
abbrev QK (now:Cnt):List AV:=[.rsl (rowI now.stk) 0 now.stk.length,.rsl (rowI now.csh) 0 now.csh.length,.rsl (Qf now.prs) 0 now.prs.length,.rsl (rowI now.bxs) 0 now.bxs.length,.int .i64 now.lst]
abbrev z100_13 (now:Cnt):List AV:=[.sl 2 0 0 now.stk.length 1,.sl 3 0 0 now.csh.length 1,.sl 4 0 0 now.prs.length 2,.sl 5 0 0 now.bxs.length 1,.int .i64 now.lst]
abbrev QS (now:Cnt):List Blk:=[⟨true,0,1,true,(QK now),false⟩,⟨true,0,1,false,(z100_13 now),false⟩,⟨true,0,1,true,(rowI now.stk),true⟩,⟨true,0,1,true,(rowI now.csh),true⟩,⟨true,0,2,true,(Qf now.prs),true⟩,⟨true,0,1,true,(rowI now.bxs),true⟩]
abbrev XF (f:Fair) (now:Cnt) (d:Dl):List AV:=[.agg [.int .i64 f.purses,.int .i64 f.boxes,.rsl (rowI f.stock) 0 f.stock.length,.rsl (rowI f.cash) 0 f.cash.length,.rsl (Qr f.bundles) 0 f.bundles.length,.int .i64 f.refund,.int .i64 f.band,.int .i64 f.hours],.agg (QK now),.agg [.int .i64 d.at_,.int .i64 d.kind,.int .i64 d.a,.int .i64 d.b,.int .i64 d.n]]
abbrev QR (now:Cnt):AV:=.agg (z100_13 now)
abbrev QQ (d:Dl) (now:Cnt):AV:=.bool (Qa d.a 0 ((now.stk.length:Int) - 1))
abbrev QP (d:Dl) (now:Cnt):AV:=.bool (Qa d.a 0 ((now.prs.length:Int) - 1))
abbrev QO (d:Dl) (now:Cnt):AV:=.bool (Qa d.b 0 ((now.prs.length:Int) - 1))
abbrev QN (d:Dl) (now:Cnt):AV:=.bool (Qa d.b 0 ((now.bxs.length:Int) - 1))
abbrev XE (d:Dl) (now:Cnt):List AV:=[.int .i64 d.a,.int .i64 0,.int .i64 ((now.stk.length:Int) - 1)]
abbrev Xi (d:Dl) (now:Cnt):List AV:=[.int .i64 d.a,.int .i64 0,.int .i64 ((now.prs.length:Int) - 1)]
abbrev Xh (d:Dl) (now:Cnt):List AV:=[.int .i64 d.b,.int .i64 0,.int .i64 ((now.prs.length:Int) - 1)]
abbrev Xg (d:Dl) (now:Cnt):List AV:=[.int .i64 d.b,.int .i64 0,.int .i64 ((now.bxs.length:Int) - 1)]
theorem p100_start_0 (f:Fair) (now:Cnt) (d:Dl) {E:Env} {res:AV} (hE:Qg Try.prog 100 res E) (ho:AllP [Xf Try.prog (.clos 173 [] []) [.agg (QK now)] [] (QR now) (QS now),5≤5,0=0,InR .i64 ((now.stk.length:Int) - 1),Qe Try.prog (.clos 101 [] []) (XE d now) (QQ d now),0=0,InR .i64 ((now.prs.length:Int) - 1),Qe Try.prog (.clos 101 [] []) (Xi d now) (QP d now),0=0,InR .i64 ((now.prs.length:Int) - 1),Qe Try.prog (.clos 101 [] []) (Xh d now) (QO d now),0=0,InR .i64 ((now.bxs.length:Int) - 1),Qe Try.prog (.clos 101 [] []) (Xg d now) (QN d now),(d.kind == 1)=true,(!(Qa d.a 0 ((now.stk.length:Int) - 1)))=true,true=true,true=true,true=true,5≤5])
 (hr:AvLe (.tup [.agg (QK now),.bool false]) res):G Try.prog E [.code (Qd Try.prog 100)] ⟨(XF f now d)++unds (Try.f100.ntmps - 3),[]⟩ :=
 Qc (n:=400) (evs:=[.lent [] (QR now) (QS now),.v (QQ d now),.v (QP d now),.v (QO d now),.v (QN d now),.b true,.b true,.b true,.b true,.b true]) (obs:=_) hE Try.func100 Qp (by kernel_rfl) ho hr
theorem p100_start_1 (f:Fair) (now:Cnt) (d:Dl) {E:Env} {res:AV} (hE:Qg Try.prog 100 res E) (ho:AllP [Xf Try.prog (.clos 173 [] []) [.agg (QK now)] [] (QR now) (QS now),5≤5,0=0,InR .i64 ((now.stk.length:Int) - 1),Qe Try.prog (.clos 101 [] []) (XE d now) (QQ d now),0=0,InR .i64 ((now.prs.length:Int) - 1),Qe Try.prog (.clos 101 [] []) (Xi d now) (QP d now),0=0,InR .i64 ((now.prs.length:Int) - 1),Qe Try.prog (.clos 101 [] []) (Xh d now) (QO d now),0=0,InR .i64 ((now.bxs.length:Int) - 1),Qe Try.prog (.clos 101 [] []) (Xg d now) (QN d now),(d.kind == 1)=true,(!(Qa d.a 0 ((now.stk.length:Int) - 1)))=false,(!(Qa d.b 0 ((now.prs.length:Int) - 1)))=true,true=true,true=true,5≤5])
 (hr:AvLe (.tup [.agg (QK now),.bool false]) res):G Try.prog E [.code (Qd Try.prog 100)] ⟨(XF f now d)++unds (Try.f100.ntmps - 3),[]⟩ :=
 Qc (n:=400) (evs:=[.lent [] (QR now) (QS now),.v (QQ d now),.v (QP d now),.v (QO d now),.v (QN d now),.b true,.b false,.b true,.b true,.b true]) (obs:=_) hE Try.func100 Qp (by kernel_rfl) ho hr
theorem p100_start_2 (f:Fair) (now:Cnt) (d:Dl) {E:Env} {res:AV} (hE:Qg Try.prog 100 res E) (ho:AllP [Xf Try.prog (.clos 173 [] []) [.agg (QK now)] [] (QR now) (QS now),5≤5,0=0,InR .i64 ((now.stk.length:Int) - 1),Qe Try.prog (.clos 101 [] []) (XE d now) (QQ d now),0=0,InR .i64 ((now.prs.length:Int) - 1),Qe Try.prog (.clos 101 [] []) (Xi d now) (QP d now),0=0,InR .i64 ((now.prs.length:Int) - 1),Qe Try.prog (.clos 101 [] []) (Xh d now) (QO d now),0=0,InR .i64 ((now.bxs.length:Int) - 1),Qe Try.prog (.clos 101 [] []) (Xg d now) (QN d now),(d.kind == 1)=true,(!(Qa d.a 0 ((now.stk.length:Int) - 1)))=false,(!(Qa d.b 0 ((now.prs.length:Int) - 1)))=false,InR .i64 ((f.bundles.length:Int) - 1),Qe Try.prog (.clos 101 [] []) [.int .i64 d.n,.int .i64 0,.int .i64 ((f.bundles.length:Int) - 1)] (.bool (Qa d.n 0 ((f.bundles.length:Int) - 1))),(!(Qa d.n 0 ((f.bundles.length:Int) - 1)))=true,true=true,5≤5])
 (hr:AvLe (.tup [.agg (QK now),.bool false]) res):G Try.prog E [.code (Qd Try.prog 100)] ⟨(XF f now d)++unds (Try.f100.ntmps - 3),[]⟩ :=
 Qc (n:=400) (evs:=[.lent [] (QR now) (QS now),.v (QQ d now),.v (QP d now),.v (QO d now),.v (QN d now),.b true,.b false,.b false,.v (.bool (Qa d.n 0 ((f.bundles.length:Int) - 1))),.b true,.b true]) (obs:=_) hE Try.func100 Qp (by kernel_rfl) ho hr
theorem p100_start_3 (f:Fair) (now:Cnt) (d:Dl) (e:Int) (be:Bndl) {E:Env} {res:AV} (hE:Qg Try.prog 100 res E) (ho:AllP [Xf Try.prog (.clos 173 [] []) [.agg (QK now)] [] (QR now) (QS now),5≤5,0=0,InR .i64 ((now.stk.length:Int) - 1),Qe Try.prog (.clos 101 [] []) (XE d now) (QQ d now),0=0,InR .i64 ((now.prs.length:Int) - 1),Qe Try.prog (.clos 101 [] []) (Xi d now) (QP d now),0=0,InR .i64 ((now.prs.length:Int) - 1),Qe Try.prog (.clos 101 [] []) (Xh d now) (QO d now),0=0,InR .i64 ((now.bxs.length:Int) - 1),Qe Try.prog (.clos 101 [] []) (Xg d now) (QN d now),(d.kind == 1)=true,(!(Qa d.a 0 ((now.stk.length:Int) - 1)))=false,(!(Qa d.b 0 ((now.prs.length:Int) - 1)))=false,InR .i64 ((f.bundles.length:Int) - 1),Qe Try.prog (.clos 101 [] []) [.int .i64 d.n,.int .i64 0,.int .i64 ((f.bundles.length:Int) - 1)] (.bool (Qa d.n 0 ((f.bundles.length:Int) - 1))),(!(Qa d.n 0 ((f.bundles.length:Int) - 1)))=false,0≤d.a∧d.a<(now.stk.length:Int),0=0,0=0,((rowI now.stk).drop (0+(Int.toNat d.a)*1)).take 1=[.int .i64 e],0≤d.n∧d.n<(f.bundles.length:Int),((Qr f.bundles).drop ((0+(Int.toNat d.n)*2)+0)).take 1=[.int .i64 be.tokens],(decide (e<be.tokens))=true,5≤5])
 (hr:AvLe (.tup [.agg (QK now),.bool false]) res):G Try.prog E [.code (Qd Try.prog 100)] ⟨(XF f now d)++unds (Try.f100.ntmps - 3),[]⟩ :=
 Qc (n:=400) (evs:=[.lent [] (QR now) (QS now),.v (QQ d now),.v (QP d now),.v (QO d now),.v (QN d now),.b true,.b false,.b false,.v (.bool (Qa d.n 0 ((f.bundles.length:Int) - 1))),.b false,.auto,.auto,.ld (.int .i64 e),.auto,.auto,.ld (.int .i64 be.tokens),.b true]) (obs:=_) hE Try.func100 Qp (by kernel_rfl) ho hr
theorem p100_start_4 (f:Fair) (now:Cnt) (d:Dl) (e:Int) (be:Bndl) (pe:Pur) (e1:Int) {E:Env} {res:AV} (hE:Qg Try.prog 100 res E) (ho:AllP [Xf Try.prog (.clos 173 [] []) [.agg [.rsl (rowI now.stk) 0 now.stk.length,.rsl (rowI now.csh) 0 now.csh.length,.rsl (Qf now.prs) 0 now.prs.length,.rsl (rowI now.bxs) 0 now.bxs.length,.int .i64 now.lst]] [] (.agg [.sl 2 0 0 now.stk.length 1,.sl 3 0 0 now.csh.length 1,.sl 4 0 0 now.prs.length 2,.sl 5 0 0 now.bxs.length 1,.int .i64 now.lst]) [⟨true,0,1,true,[.rsl (rowI now.stk) 0 now.stk.length,.rsl (rowI now.csh) 0 now.csh.length,.rsl (Qf now.prs) 0 now.prs.length,.rsl (rowI now.bxs) 0 now.bxs.length,.int .i64 now.lst],false⟩,⟨true,0,1,false,[.sl 2 0 0 now.stk.length 1,.sl 3 0 0 now.csh.length 1,.sl 4 0 0 now.prs.length 2,.sl 5 0 0 now.bxs.length 1,.int .i64 now.lst],false⟩,⟨true,0,1,true,(rowI now.stk),true⟩,⟨true,0,1,true,(rowI now.csh),true⟩,⟨true,0,2,true,(Qf now.prs),true⟩,⟨true,0,1,true,(rowI now.bxs),true⟩],5≤5,0=0,InR .i64 ((now.stk.length:Int) - 1),Qe Try.prog (.clos 101 [] []) [.int .i64 d.a,.int .i64 0,.int .i64 ((now.stk.length:Int) - 1)] (.bool (Qa d.a 0 ((now.stk.length:Int) - 1))),0=0,InR .i64 ((now.prs.length:Int) - 1),Qe Try.prog (.clos 101 [] []) [.int .i64 d.a,.int .i64 0,.int .i64 ((now.prs.length:Int) - 1)] (.bool (Qa d.a 0 ((now.prs.length:Int) - 1))),0=0,InR .i64 ((now.prs.length:Int) - 1),Qe Try.prog (.clos 101 [] []) [.int .i64 d.b,.int .i64 0,.int .i64 ((now.prs.length:Int) - 1)] (.bool (Qa d.b 0 ((now.prs.length:Int) - 1))),0=0,InR .i64 ((now.bxs.length:Int) - 1),Qe Try.prog (.clos 101 [] []) [.int .i64 d.b,.int .i64 0,.int .i64 ((now.bxs.length:Int) - 1)] (.bool (Qa d.b 0 ((now.bxs.length:Int) - 1))),(d.kind == 1)=true,(!(Qa d.a 0 ((now.stk.length:Int) - 1)))=false,(!(Qa d.b 0 ((now.prs.length:Int) - 1)))=false,InR .i64 ((f.bundles.length:Int) - 1),Qe Try.prog (.clos 101 [] []) [.int .i64 d.n,.int .i64 0,.int .i64 ((f.bundles.length:Int) - 1)] (.bool (Qa d.n 0 ((f.bundles.length:Int) - 1))),(!(Qa d.n 0 ((f.bundles.length:Int) - 1)))=false,0≤d.a∧d.a<(now.stk.length:Int),0=0,0=0,((rowI now.stk).drop (0+(Int.toNat d.a)*1)).take 1=[.int .i64 e],0≤d.n∧d.n<(f.bundles.length:Int),((Qr f.bundles).drop ((0+(Int.toNat d.n)*2)+0)).take 1=[.int .i64 be.tokens],(decide (e<be.tokens))=false,0≤d.a∧d.a<(now.stk.length:Int),0=0,0=0,((rowI now.stk).drop (0+(Int.toNat d.a)*1)).take 1=[.int .i64 e],0≤d.n∧d.n<(f.bundles.length:Int),((Qr f.bundles).drop ((0+(Int.toNat d.n)*2)+0)).take 1=[.int .i64 be.tokens],InR .i64 (e - be.tokens),0≤d.a∧d.a<(now.stk.length:Int),0=0,((0+(Int.toNat d.a)*1)+1)≤(rowI now.stk).length,0=0,0≤d.b∧d.b<(now.prs.length:Int),0=0,0=0,0=0,((Qf now.prs).drop ((0+(Int.toNat d.b)*2)+0)).take 1=[.int .i64 pe.tokens],0≤d.n∧d.n<(f.bundles.length:Int),((Qr f.bundles).drop ((0+(Int.toNat d.n)*2)+0)).take 1=[.int .i64 be.tokens],InR .i64 (pe.tokens+be.tokens),0≤d.b∧d.b<(now.prs.length:Int),0=0,0=0,(((0+(Int.toNat d.b)*2)+0)+1)≤(Qf now.prs).length,0=0,0≤d.a∧d.a<(now.csh.length:Int),0=0,0=0,((rowI now.csh).drop (0+(Int.toNat d.a)*1)).take 1=[.int .i64 e1],0≤d.n∧d.n<(f.bundles.length:Int),((Qr f.bundles).drop ((0+(Int.toNat d.n)*2)+1)).take 1=[.int .i64 be.price],InR .i64 (e1+be.price),0≤d.a∧d.a<(now.csh.length:Int),0=0,((0+(Int.toNat d.a)*1)+1)≤(rowI now.csh).length,0=0,5≤5,0=0,0=0,0=0,0=0])
 (hr:AvLe (.tup [.agg [.rsl (Qt (rowI now.stk) (0+(Int.toNat d.a)*1) [.int .i64 (e - be.tokens)]) 0 now.stk.length,.rsl (Qt (rowI now.csh) (0+(Int.toNat d.a)*1) [.int .i64 (e1+be.price)]) 0 now.csh.length,.rsl (Qt (Qf now.prs) ((0+(Int.toNat d.b)*2)+0) [.int .i64 (pe.tokens+be.tokens)]) 0 now.prs.length,.rsl (rowI now.bxs) 0 now.bxs.length,.int .i64 now.lst],.bool true]) res):G Try.prog E [.code (Qd Try.prog 100)] ⟨[.agg [.int .i64 f.purses,.int .i64 f.boxes,.rsl (rowI f.stock) 0 f.stock.length,.rsl (rowI f.cash) 0 f.cash.length,.rsl (Qr f.bundles) 0 f.bundles.length,.int .i64 f.refund,.int .i64 f.band,.int .i64 f.hours],.agg [.rsl (rowI now.stk) 0 now.stk.length,.rsl (rowI now.csh) 0 now.csh.length,.rsl (Qf now.prs) 0 now.prs.length,.rsl (rowI now.bxs) 0 now.bxs.length,.int .i64 now.lst],.agg [.int .i64 d.at_,.int .i64 d.kind,.int .i64 d.a,.int .i64 d.b,.int .i64 d.n]]++unds (Try.f100.ntmps - 3),[]⟩ :=
 Qc (n:=400) (evs:=[.lent [] (.agg [.sl 2 0 0 now.stk.length 1,.sl 3 0 0 now.csh.length 1,.sl 4 0 0 now.prs.length 2,.sl 5 0 0 now.bxs.length 1,.int .i64 now.lst]) [⟨true,0,1,true,[.rsl (rowI now.stk) 0 now.stk.length,.rsl (rowI now.csh) 0 now.csh.length,.rsl (Qf now.prs) 0 now.prs.length,.rsl (rowI now.bxs) 0 now.bxs.length,.int .i64 now.lst],false⟩,⟨true,0,1,false,[.sl 2 0 0 now.stk.length 1,.sl 3 0 0 now.csh.length 1,.sl 4 0 0 now.prs.length 2,.sl 5 0 0 now.bxs.length 1,.int .i64 now.lst],false⟩,⟨true,0,1,true,(rowI now.stk),true⟩,⟨true,0,1,true,(rowI now.csh),true⟩,⟨true,0,2,true,(Qf now.prs),true⟩,⟨true,0,1,true,(rowI now.bxs),true⟩],.v (.bool (Qa d.a 0 ((now.stk.length:Int) - 1))),.v (.bool (Qa d.a 0 ((now.prs.length:Int) - 1))),.v (.bool (Qa d.b 0 ((now.prs.length:Int) - 1))),.v (.bool (Qa d.b 0 ((now.bxs.length:Int) - 1))),.b true,.b false,.b false,.v (.bool (Qa d.n 0 ((f.bundles.length:Int) - 1))),.b false,.auto,.auto,.ld (.int .i64 e),.auto,.auto,.ld (.int .i64 be.tokens),.b false,.auto,.auto,.ld (.int .i64 e),.auto,.auto,.ld (.int .i64 be.tokens),.auto,.auto,.ld (.int .i64 pe.tokens),.auto,.auto,.ld (.int .i64 be.tokens),.auto,.auto,.ld (.int .i64 e1),.auto,.auto,.ld (.int .i64 be.price)]) (obs:=_) hE Try.func100 Qp (by kernel_rfl) ho hr
theorem p100_start_5 (f:Fair) (now:Cnt) (d:Dl) {E:Env} {res:AV} (hE:Qg Try.prog 100 res E) (ho:AllP [Xf Try.prog (.clos 173 [] []) [.agg (QK now)] [] (QR now) (QS now),5≤5,0=0,InR .i64 ((now.stk.length:Int) - 1),Qe Try.prog (.clos 101 [] []) (XE d now) (QQ d now),0=0,InR .i64 ((now.prs.length:Int) - 1),Qe Try.prog (.clos 101 [] []) (Xi d now) (QP d now),0=0,InR .i64 ((now.prs.length:Int) - 1),Qe Try.prog (.clos 101 [] []) (Xh d now) (QO d now),0=0,InR .i64 ((now.bxs.length:Int) - 1),Qe Try.prog (.clos 101 [] []) (Xg d now) (QN d now),(d.kind == 1)=false,(d.kind == 2)=true,(!(Qa d.a 0 ((now.prs.length:Int) - 1)))=true,true=true,true=true,5≤5])
 (hr:AvLe (.tup [.agg (QK now),.bool false]) res):G Try.prog E [.code (Qd Try.prog 100)] ⟨(XF f now d)++unds (Try.f100.ntmps - 3),[]⟩ :=
 Qc (n:=400) (evs:=[.lent [] (QR now) (QS now),.v (QQ d now),.v (QP d now),.v (QO d now),.v (QN d now),.b false,.b true,.b true,.b true,.b true]) (obs:=_) hE Try.func100 Qp (by kernel_rfl) ho hr
theorem p100_start_6 (f:Fair) (now:Cnt) (d:Dl) {E:Env} {res:AV} (hE:Qg Try.prog 100 res E) (ho:AllP [Xf Try.prog (.clos 173 [] []) [.agg (QK now)] [] (QR now) (QS now),5≤5,0=0,InR .i64 ((now.stk.length:Int) - 1),Qe Try.prog (.clos 101 [] []) (XE d now) (QQ d now),0=0,InR .i64 ((now.prs.length:Int) - 1),Qe Try.prog (.clos 101 [] []) (Xi d now) (QP d now),0=0,InR .i64 ((now.prs.length:Int) - 1),Qe Try.prog (.clos 101 [] []) (Xh d now) (QO d now),0=0,InR .i64 ((now.bxs.length:Int) - 1),Qe Try.prog (.clos 101 [] []) (Xg d now) (QN d now),(d.kind == 1)=false,(d.kind == 2)=true,(!(Qa d.a 0 ((now.prs.length:Int) - 1)))=false,(!(Qa d.b 0 ((now.bxs.length:Int) - 1)))=true,true=true,5≤5])
 (hr:AvLe (.tup [.agg (QK now),.bool false]) res):G Try.prog E [.code (Qd Try.prog 100)] ⟨(XF f now d)++unds (Try.f100.ntmps - 3),[]⟩ :=
 Qc (n:=400) (evs:=[.lent [] (QR now) (QS now),.v (QQ d now),.v (QP d now),.v (QO d now),.v (QN d now),.b false,.b true,.b false,.b true,.b true]) (obs:=_) hE Try.func100 Qp (by kernel_rfl) ho hr
theorem p100_start_7 (f:Fair) (now:Cnt) (d:Dl) {E:Env} {res:AV} (hE:Qg Try.prog 100 res E) (ho:AllP [Xf Try.prog (.clos 173 [] []) [.agg (QK now)] [] (QR now) (QS now),5≤5,0=0,InR .i64 ((now.stk.length:Int) - 1),Qe Try.prog (.clos 101 [] []) (XE d now) (QQ d now),0=0,InR .i64 ((now.prs.length:Int) - 1),Qe Try.prog (.clos 101 [] []) (Xi d now) (QP d now),0=0,InR .i64 ((now.prs.length:Int) - 1),Qe Try.prog (.clos 101 [] []) (Xh d now) (QO d now),0=0,InR .i64 ((now.bxs.length:Int) - 1),Qe Try.prog (.clos 101 [] []) (Xg d now) (QN d now),(d.kind == 1)=false,(d.kind == 2)=true,(!(Qa d.a 0 ((now.prs.length:Int) - 1)))=false,(!(Qa d.b 0 ((now.bxs.length:Int) - 1)))=false,Qe Try.prog (.clos 101 [] []) [.int .i64 d.n,.int .i64 0,.int .i64 1000] (.bool (Qa d.n 0 1000)),(!(Qa d.n 0 1000))=true,5≤5])
 (hr:AvLe (.tup [.agg (QK now),.bool false]) res):G Try.prog E [.code (Qd Try.prog 100)] ⟨(XF f now d)++unds (Try.f100.ntmps - 3),[]⟩ :=
 Qc (n:=400) (evs:=[.lent [] (QR now) (QS now),.v (QQ d now),.v (QP d now),.v (QO d now),.v (QN d now),.b false,.b true,.b false,.b false,.v (.bool (Qa d.n 0 1000)),.b true]) (obs:=_) hE Try.func100 Qp (by kernel_rfl) ho hr
theorem p100_start_8 (f:Fair) (now:Cnt) (d:Dl) (pe:Pur) {E:Env} {res:AV} (hE:Qg Try.prog 100 res E) (ho:AllP [Xf Try.prog (.clos 173 [] []) [.agg (QK now)] [] (QR now) (QS now),5≤5,0=0,InR .i64 ((now.stk.length:Int) - 1),Qe Try.prog (.clos 101 [] []) (XE d now) (QQ d now),0=0,InR .i64 ((now.prs.length:Int) - 1),Qe Try.prog (.clos 101 [] []) (Xi d now) (QP d now),0=0,InR .i64 ((now.prs.length:Int) - 1),Qe Try.prog (.clos 101 [] []) (Xh d now) (QO d now),0=0,InR .i64 ((now.bxs.length:Int) - 1),Qe Try.prog (.clos 101 [] []) (Xg d now) (QN d now),(d.kind == 1)=false,(d.kind == 2)=true,(!(Qa d.a 0 ((now.prs.length:Int) - 1)))=false,(!(Qa d.b 0 ((now.bxs.length:Int) - 1)))=false,Qe Try.prog (.clos 101 [] []) [.int .i64 d.n,.int .i64 0,.int .i64 1000] (.bool (Qa d.n 0 1000)),(!(Qa d.n 0 1000))=false,0≤d.a∧d.a<(now.prs.length:Int),0=0,0=0,0=0,((Qf now.prs).drop ((0+(Int.toNat d.a)*2)+1)).take 1=[.int .i64 pe.till],(decide (d.at_<pe.till))=true,5≤5,0=0,0=0,0=0,0=0])
 (hr:AvLe (.tup [.agg (QK now),.bool true]) res):G Try.prog E [.code (Qd Try.prog 100)] ⟨(XF f now d)++unds (Try.f100.ntmps - 3),[]⟩ :=
 Qc (n:=400) (evs:=[.lent [] (QR now) (QS now),.v (QQ d now),.v (QP d now),.v (QO d now),.v (QN d now),.b false,.b true,.b false,.b false,.v (.bool (Qa d.n 0 1000)),.b false,.auto,.auto,.auto,.ld (.int .i64 pe.till),.b true]) (obs:=_) hE Try.func100 Qp (by kernel_rfl) ho hr
theorem p100_start_9 (f:Fair) (now:Cnt) (d:Dl) (pe:Pur) {E:Env} {res:AV} (hE:Qg Try.prog 100 res E) (ho:AllP [Xf Try.prog (.clos 173 [] []) [.agg (QK now)] [] (QR now) (QS now),5≤5,0=0,InR .i64 ((now.stk.length:Int) - 1),Qe Try.prog (.clos 101 [] []) (XE d now) (QQ d now),0=0,InR .i64 ((now.prs.length:Int) - 1),Qe Try.prog (.clos 101 [] []) (Xi d now) (QP d now),0=0,InR .i64 ((now.prs.length:Int) - 1),Qe Try.prog (.clos 101 [] []) (Xh d now) (QO d now),0=0,InR .i64 ((now.bxs.length:Int) - 1),Qe Try.prog (.clos 101 [] []) (Xg d now) (QN d now),(d.kind == 1)=false,(d.kind == 2)=true,(!(Qa d.a 0 ((now.prs.length:Int) - 1)))=false,(!(Qa d.b 0 ((now.bxs.length:Int) - 1)))=false,Qe Try.prog (.clos 101 [] []) [.int .i64 d.n,.int .i64 0,.int .i64 1000] (.bool (Qa d.n 0 1000)),(!(Qa d.n 0 1000))=false,0≤d.a∧d.a<(now.prs.length:Int),0=0,0=0,0=0,((Qf now.prs).drop ((0+(Int.toNat d.a)*2)+1)).take 1=[.int .i64 pe.till],(decide (d.at_<pe.till))=false,0≤d.a∧d.a<(now.prs.length:Int),0=0,0=0,0=0,((Qf now.prs).drop ((0+(Int.toNat d.a)*2)+0)).take 1=[.int .i64 pe.tokens],(decide (pe.tokens<d.n))=true,5≤5])
 (hr:AvLe (.tup [.agg (QK now),.bool false]) res):G Try.prog E [.code (Qd Try.prog 100)] ⟨(XF f now d)++unds (Try.f100.ntmps - 3),[]⟩ :=
 Qc (n:=400) (evs:=[.lent [] (QR now) (QS now),.v (QQ d now),.v (QP d now),.v (QO d now),.v (QN d now),.b false,.b true,.b false,.b false,.v (.bool (Qa d.n 0 1000)),.b false,.auto,.auto,.auto,.ld (.int .i64 pe.till),.b false,.auto,.auto,.ld (.int .i64 pe.tokens),.b true]) (obs:=_) hE Try.func100 Qp (by kernel_rfl) ho hr
theorem QbT (f:Fair) (now:Cnt) (d:Dl) (pe:Pur) (e:Int) {E:Env} {res:AV} (hE:Qg Try.prog 100 res E) (ho:AllP [Xf Try.prog (.clos 173 [] []) [.agg [.rsl (rowI now.stk) 0 now.stk.length,.rsl (rowI now.csh) 0 now.csh.length,.rsl (Qf now.prs) 0 now.prs.length,.rsl (rowI now.bxs) 0 now.bxs.length,.int .i64 now.lst]] [] (.agg [.sl 2 0 0 now.stk.length 1,.sl 3 0 0 now.csh.length 1,.sl 4 0 0 now.prs.length 2,.sl 5 0 0 now.bxs.length 1,.int .i64 now.lst]) [⟨true,0,1,true,[.rsl (rowI now.stk) 0 now.stk.length,.rsl (rowI now.csh) 0 now.csh.length,.rsl (Qf now.prs) 0 now.prs.length,.rsl (rowI now.bxs) 0 now.bxs.length,.int .i64 now.lst],false⟩,⟨true,0,1,false,[.sl 2 0 0 now.stk.length 1,.sl 3 0 0 now.csh.length 1,.sl 4 0 0 now.prs.length 2,.sl 5 0 0 now.bxs.length 1,.int .i64 now.lst],false⟩,⟨true,0,1,true,(rowI now.stk),true⟩,⟨true,0,1,true,(rowI now.csh),true⟩,⟨true,0,2,true,(Qf now.prs),true⟩,⟨true,0,1,true,(rowI now.bxs),true⟩],5≤5,0=0,InR .i64 ((now.stk.length:Int) - 1),Qe Try.prog (.clos 101 [] []) [.int .i64 d.a,.int .i64 0,.int .i64 ((now.stk.length:Int) - 1)] (.bool (Qa d.a 0 ((now.stk.length:Int) - 1))),0=0,InR .i64 ((now.prs.length:Int) - 1),Qe Try.prog (.clos 101 [] []) [.int .i64 d.a,.int .i64 0,.int .i64 ((now.prs.length:Int) - 1)] (.bool (Qa d.a 0 ((now.prs.length:Int) - 1))),0=0,InR .i64 ((now.prs.length:Int) - 1),Qe Try.prog (.clos 101 [] []) [.int .i64 d.b,.int .i64 0,.int .i64 ((now.prs.length:Int) - 1)] (.bool (Qa d.b 0 ((now.prs.length:Int) - 1))),0=0,InR .i64 ((now.bxs.length:Int) - 1),Qe Try.prog (.clos 101 [] []) [.int .i64 d.b,.int .i64 0,.int .i64 ((now.bxs.length:Int) - 1)] (.bool (Qa d.b 0 ((now.bxs.length:Int) - 1))),(d.kind == 1)=false,(d.kind == 2)=true,(!(Qa d.a 0 ((now.prs.length:Int) - 1)))=false,(!(Qa d.b 0 ((now.bxs.length:Int) - 1)))=false,Qe Try.prog (.clos 101 [] []) [.int .i64 d.n,.int .i64 0,.int .i64 1000] (.bool (Qa d.n 0 1000)),(!(Qa d.n 0 1000))=false,0≤d.a∧d.a<(now.prs.length:Int),0=0,0=0,0=0,((Qf now.prs).drop ((0+(Int.toNat d.a)*2)+1)).take 1=[.int .i64 pe.till],(decide (d.at_<pe.till))=false,0≤d.a∧d.a<(now.prs.length:Int),0=0,0=0,0=0,((Qf now.prs).drop ((0+(Int.toNat d.a)*2)+0)).take 1=[.int .i64 pe.tokens],(decide (pe.tokens<d.n))=false,0≤d.a∧d.a<(now.prs.length:Int),0=0,0=0,0=0,((Qf now.prs).drop ((0+(Int.toNat d.a)*2)+0)).take 1=[.int .i64 pe.tokens],InR .i64 (pe.tokens - d.n),0≤d.a∧d.a<(now.prs.length:Int),0=0,0=0,(((0+(Int.toNat d.a)*2)+0)+1)≤(Qf now.prs).length,0=0,0≤d.b∧d.b<(now.bxs.length:Int),0=0,0=0,((rowI now.bxs).drop (0+(Int.toNat d.b)*1)).take 1=[.int .i64 e],InR .i64 (e+d.n),0≤d.b∧d.b<(now.bxs.length:Int),0=0,((0+(Int.toNat d.b)*1)+1)≤(rowI now.bxs).length,0=0,5≤5,0=0,0=0,0=0,0=0])
 (hr:AvLe (.tup [.agg [.rsl (rowI now.stk) 0 now.stk.length,.rsl (rowI now.csh) 0 now.csh.length,.rsl (Qt (Qf now.prs) ((0+(Int.toNat d.a)*2)+0) [.int .i64 (pe.tokens - d.n)]) 0 now.prs.length,.rsl (Qt (rowI now.bxs) (0+(Int.toNat d.b)*1) [.int .i64 (e+d.n)]) 0 now.bxs.length,.int .i64 now.lst],.bool true]) res):G Try.prog E [.code (Qd Try.prog 100)] ⟨[.agg [.int .i64 f.purses,.int .i64 f.boxes,.rsl (rowI f.stock) 0 f.stock.length,.rsl (rowI f.cash) 0 f.cash.length,.rsl (Qr f.bundles) 0 f.bundles.length,.int .i64 f.refund,.int .i64 f.band,.int .i64 f.hours],.agg [.rsl (rowI now.stk) 0 now.stk.length,.rsl (rowI now.csh) 0 now.csh.length,.rsl (Qf now.prs) 0 now.prs.length,.rsl (rowI now.bxs) 0 now.bxs.length,.int .i64 now.lst],.agg [.int .i64 d.at_,.int .i64 d.kind,.int .i64 d.a,.int .i64 d.b,.int .i64 d.n]]++unds (Try.f100.ntmps - 3),[]⟩ :=
 Qc (n:=400) (evs:=[.lent [] (.agg [.sl 2 0 0 now.stk.length 1,.sl 3 0 0 now.csh.length 1,.sl 4 0 0 now.prs.length 2,.sl 5 0 0 now.bxs.length 1,.int .i64 now.lst]) [⟨true,0,1,true,[.rsl (rowI now.stk) 0 now.stk.length,.rsl (rowI now.csh) 0 now.csh.length,.rsl (Qf now.prs) 0 now.prs.length,.rsl (rowI now.bxs) 0 now.bxs.length,.int .i64 now.lst],false⟩,⟨true,0,1,false,[.sl 2 0 0 now.stk.length 1,.sl 3 0 0 now.csh.length 1,.sl 4 0 0 now.prs.length 2,.sl 5 0 0 now.bxs.length 1,.int .i64 now.lst],false⟩,⟨true,0,1,true,(rowI now.stk),true⟩,⟨true,0,1,true,(rowI now.csh),true⟩,⟨true,0,2,true,(Qf now.prs),true⟩,⟨true,0,1,true,(rowI now.bxs),true⟩],.v (.bool (Qa d.a 0 ((now.stk.length:Int) - 1))),.v (.bool (Qa d.a 0 ((now.prs.length:Int) - 1))),.v (.bool (Qa d.b 0 ((now.prs.length:Int) - 1))),.v (.bool (Qa d.b 0 ((now.bxs.length:Int) - 1))),.b false,.b true,.b false,.b false,.v (.bool (Qa d.n 0 1000)),.b false,.auto,.auto,.auto,.ld (.int .i64 pe.till),.b false,.auto,.auto,.ld (.int .i64 pe.tokens),.b false,.auto,.auto,.ld (.int .i64 pe.tokens),.auto,.auto,.auto,.ld (.int .i64 e)]) (obs:=_) hE Try.func100 Qp (by kernel_rfl) ho hr
theorem QbS (f:Fair) (now:Cnt) (d:Dl) {E:Env} {res:AV} (hE:Qg Try.prog 100 res E) (ho:AllP [Xf Try.prog (.clos 173 [] []) [.agg (QK now)] [] (QR now) (QS now),5≤5,0=0,InR .i64 ((now.stk.length:Int) - 1),Qe Try.prog (.clos 101 [] []) (XE d now) (QQ d now),0=0,InR .i64 ((now.prs.length:Int) - 1),Qe Try.prog (.clos 101 [] []) (Xi d now) (QP d now),0=0,InR .i64 ((now.prs.length:Int) - 1),Qe Try.prog (.clos 101 [] []) (Xh d now) (QO d now),0=0,InR .i64 ((now.bxs.length:Int) - 1),Qe Try.prog (.clos 101 [] []) (Xg d now) (QN d now),(d.kind == 1)=false,(d.kind == 2)=false,(d.kind == 3)=true,(!(Qa d.a 0 ((now.stk.length:Int) - 1)))=true,true=true,true=true,5≤5])
 (hr:AvLe (.tup [.agg (QK now),.bool false]) res):G Try.prog E [.code (Qd Try.prog 100)] ⟨(XF f now d)++unds (Try.f100.ntmps - 3),[]⟩ :=
 Qc (n:=400) (evs:=[.lent [] (QR now) (QS now),.v (QQ d now),.v (QP d now),.v (QO d now),.v (QN d now),.b false,.b false,.b true,.b true,.b true,.b true]) (obs:=_) hE Try.func100 Qp (by kernel_rfl) ho hr
theorem QbR (f:Fair) (now:Cnt) (d:Dl) {E:Env} {res:AV} (hE:Qg Try.prog 100 res E) (ho:AllP [Xf Try.prog (.clos 173 [] []) [.agg (QK now)] [] (QR now) (QS now),5≤5,0=0,InR .i64 ((now.stk.length:Int) - 1),Qe Try.prog (.clos 101 [] []) (XE d now) (QQ d now),0=0,InR .i64 ((now.prs.length:Int) - 1),Qe Try.prog (.clos 101 [] []) (Xi d now) (QP d now),0=0,InR .i64 ((now.prs.length:Int) - 1),Qe Try.prog (.clos 101 [] []) (Xh d now) (QO d now),0=0,InR .i64 ((now.bxs.length:Int) - 1),Qe Try.prog (.clos 101 [] []) (Xg d now) (QN d now),(d.kind == 1)=false,(d.kind == 2)=false,(d.kind == 3)=true,(!(Qa d.a 0 ((now.stk.length:Int) - 1)))=false,(!(Qa d.b 0 ((now.prs.length:Int) - 1)))=true,true=true,5≤5])
 (hr:AvLe (.tup [.agg (QK now),.bool false]) res):G Try.prog E [.code (Qd Try.prog 100)] ⟨(XF f now d)++unds (Try.f100.ntmps - 3),[]⟩ :=
 Qc (n:=400) (evs:=[.lent [] (QR now) (QS now),.v (QQ d now),.v (QP d now),.v (QO d now),.v (QN d now),.b false,.b false,.b true,.b false,.b true,.b true]) (obs:=_) hE Try.func100 Qp (by kernel_rfl) ho hr
theorem QbQ (f:Fair) (now:Cnt) (d:Dl) {E:Env} {res:AV} (hE:Qg Try.prog 100 res E) (ho:AllP [Xf Try.prog (.clos 173 [] []) [.agg (QK now)] [] (QR now) (QS now),5≤5,0=0,InR .i64 ((now.stk.length:Int) - 1),Qe Try.prog (.clos 101 [] []) (XE d now) (QQ d now),0=0,InR .i64 ((now.prs.length:Int) - 1),Qe Try.prog (.clos 101 [] []) (Xi d now) (QP d now),0=0,InR .i64 ((now.prs.length:Int) - 1),Qe Try.prog (.clos 101 [] []) (Xh d now) (QO d now),0=0,InR .i64 ((now.bxs.length:Int) - 1),Qe Try.prog (.clos 101 [] []) (Xg d now) (QN d now),(d.kind == 1)=false,(d.kind == 2)=false,(d.kind == 3)=true,(!(Qa d.a 0 ((now.stk.length:Int) - 1)))=false,(!(Qa d.b 0 ((now.prs.length:Int) - 1)))=false,(d.n != 0)=true,5≤5])
 (hr:AvLe (.tup [.agg (QK now),.bool false]) res):G Try.prog E [.code (Qd Try.prog 100)] ⟨(XF f now d)++unds (Try.f100.ntmps - 3),[]⟩ :=
 Qc (n:=400) (evs:=[.lent [] (QR now) (QS now),.v (QQ d now),.v (QP d now),.v (QO d now),.v (QN d now),.b false,.b false,.b true,.b false,.b false,.b true]) (obs:=_) hE Try.func100 Qp (by kernel_rfl) ho hr
theorem QbP (f:Fair) (now:Cnt) (d:Dl) (e:Int) (pe:Pur) {E:Env} {res:AV} (hE:Qg Try.prog 100 res E) (ho:AllP [Xf Try.prog (.clos 173 [] []) [.agg [.rsl (rowI now.stk) 0 now.stk.length,.rsl (rowI now.csh) 0 now.csh.length,.rsl (Qf now.prs) 0 now.prs.length,.rsl (rowI now.bxs) 0 now.bxs.length,.int .i64 now.lst]] [] (.agg [.sl 2 0 0 now.stk.length 1,.sl 3 0 0 now.csh.length 1,.sl 4 0 0 now.prs.length 2,.sl 5 0 0 now.bxs.length 1,.int .i64 now.lst]) [⟨true,0,1,true,[.rsl (rowI now.stk) 0 now.stk.length,.rsl (rowI now.csh) 0 now.csh.length,.rsl (Qf now.prs) 0 now.prs.length,.rsl (rowI now.bxs) 0 now.bxs.length,.int .i64 now.lst],false⟩,⟨true,0,1,false,[.sl 2 0 0 now.stk.length 1,.sl 3 0 0 now.csh.length 1,.sl 4 0 0 now.prs.length 2,.sl 5 0 0 now.bxs.length 1,.int .i64 now.lst],false⟩,⟨true,0,1,true,(rowI now.stk),true⟩,⟨true,0,1,true,(rowI now.csh),true⟩,⟨true,0,2,true,(Qf now.prs),true⟩,⟨true,0,1,true,(rowI now.bxs),true⟩],5≤5,0=0,InR .i64 ((now.stk.length:Int) - 1),Qe Try.prog (.clos 101 [] []) [.int .i64 d.a,.int .i64 0,.int .i64 ((now.stk.length:Int) - 1)] (.bool (Qa d.a 0 ((now.stk.length:Int) - 1))),0=0,InR .i64 ((now.prs.length:Int) - 1),Qe Try.prog (.clos 101 [] []) [.int .i64 d.a,.int .i64 0,.int .i64 ((now.prs.length:Int) - 1)] (.bool (Qa d.a 0 ((now.prs.length:Int) - 1))),0=0,InR .i64 ((now.prs.length:Int) - 1),Qe Try.prog (.clos 101 [] []) [.int .i64 d.b,.int .i64 0,.int .i64 ((now.prs.length:Int) - 1)] (.bool (Qa d.b 0 ((now.prs.length:Int) - 1))),0=0,InR .i64 ((now.bxs.length:Int) - 1),Qe Try.prog (.clos 101 [] []) [.int .i64 d.b,.int .i64 0,.int .i64 ((now.bxs.length:Int) - 1)] (.bool (Qa d.b 0 ((now.bxs.length:Int) - 1))),(d.kind == 1)=false,(d.kind == 2)=false,(d.kind == 3)=true,(!(Qa d.a 0 ((now.stk.length:Int) - 1)))=false,(!(Qa d.b 0 ((now.prs.length:Int) - 1)))=false,(d.n != 0)=false,0≤d.a∧d.a<(now.csh.length:Int),0=0,0=0,((rowI now.csh).drop (0+(Int.toNat d.a)*1)).take 1=[.int .i64 e],InR .i64 (e+f.band),0≤d.a∧d.a<(now.csh.length:Int),0=0,((0+(Int.toNat d.a)*1)+1)≤(rowI now.csh).length,0=0,0≤d.b∧d.b<(now.prs.length:Int),0=0,0=0,0=0,((Qf now.prs).drop ((0+(Int.toNat d.b)*2)+1)).take 1=[.int .i64 pe.till],0≤d.b∧d.b<(now.prs.length:Int),0=0,0=0,(((0+(Int.toNat d.b)*2)+1)+1)≤(Qf now.prs).length,0=0,5≤5,0=0,0=0,0=0,0=0])
 (hr:AvLe (.tup [.agg [.rsl (rowI now.stk) 0 now.stk.length,.rsl (Qt (rowI now.csh) (0+(Int.toNat d.a)*1) [.int .i64 (e+f.band)]) 0 now.csh.length,.rsl (Qt (Qf now.prs) ((0+(Int.toNat d.b)*2)+1) [.int .i64 (iMax pe.till (IntKind.i64.wrap (d.at_+f.hours)))]) 0 now.prs.length,.rsl (rowI now.bxs) 0 now.bxs.length,.int .i64 now.lst],.bool true]) res):G Try.prog E [.code (Qd Try.prog 100)] ⟨[.agg [.int .i64 f.purses,.int .i64 f.boxes,.rsl (rowI f.stock) 0 f.stock.length,.rsl (rowI f.cash) 0 f.cash.length,.rsl (Qr f.bundles) 0 f.bundles.length,.int .i64 f.refund,.int .i64 f.band,.int .i64 f.hours],.agg [.rsl (rowI now.stk) 0 now.stk.length,.rsl (rowI now.csh) 0 now.csh.length,.rsl (Qf now.prs) 0 now.prs.length,.rsl (rowI now.bxs) 0 now.bxs.length,.int .i64 now.lst],.agg [.int .i64 d.at_,.int .i64 d.kind,.int .i64 d.a,.int .i64 d.b,.int .i64 d.n]]++unds (Try.f100.ntmps - 3),[]⟩ :=
 Qc (n:=400) (evs:=[.lent [] (.agg [.sl 2 0 0 now.stk.length 1,.sl 3 0 0 now.csh.length 1,.sl 4 0 0 now.prs.length 2,.sl 5 0 0 now.bxs.length 1,.int .i64 now.lst]) [⟨true,0,1,true,[.rsl (rowI now.stk) 0 now.stk.length,.rsl (rowI now.csh) 0 now.csh.length,.rsl (Qf now.prs) 0 now.prs.length,.rsl (rowI now.bxs) 0 now.bxs.length,.int .i64 now.lst],false⟩,⟨true,0,1,false,[.sl 2 0 0 now.stk.length 1,.sl 3 0 0 now.csh.length 1,.sl 4 0 0 now.prs.length 2,.sl 5 0 0 now.bxs.length 1,.int .i64 now.lst],false⟩,⟨true,0,1,true,(rowI now.stk),true⟩,⟨true,0,1,true,(rowI now.csh),true⟩,⟨true,0,2,true,(Qf now.prs),true⟩,⟨true,0,1,true,(rowI now.bxs),true⟩],.v (.bool (Qa d.a 0 ((now.stk.length:Int) - 1))),.v (.bool (Qa d.a 0 ((now.prs.length:Int) - 1))),.v (.bool (Qa d.b 0 ((now.prs.length:Int) - 1))),.v (.bool (Qa d.b 0 ((now.bxs.length:Int) - 1))),.b false,.b false,.b true,.b false,.b false,.b false,.auto,.auto,.ld (.int .i64 e),.auto,.auto,.auto,.auto,.auto,.ld (.int .i64 pe.till),.wrap]) (obs:=_) hE Try.func100 Qp (by kernel_rfl) ho hr
theorem QbO (f:Fair) (now:Cnt) (d:Dl) {E:Env} {res:AV} (hE:Qg Try.prog 100 res E) (ho:AllP [Xf Try.prog (.clos 173 [] []) [.agg (QK now)] [] (QR now) (QS now),5≤5,0=0,InR .i64 ((now.stk.length:Int) - 1),Qe Try.prog (.clos 101 [] []) (XE d now) (QQ d now),0=0,InR .i64 ((now.prs.length:Int) - 1),Qe Try.prog (.clos 101 [] []) (Xi d now) (QP d now),0=0,InR .i64 ((now.prs.length:Int) - 1),Qe Try.prog (.clos 101 [] []) (Xh d now) (QO d now),0=0,InR .i64 ((now.bxs.length:Int) - 1),Qe Try.prog (.clos 101 [] []) (Xg d now) (QN d now),(d.kind == 1)=false,(d.kind == 2)=false,(d.kind == 3)=false,(d.kind == 4)=true,(!(Qa d.a 0 ((now.stk.length:Int) - 1)))=true,true=true,true=true,true=true,true=true,5≤5])
 (hr:AvLe (.tup [.agg (QK now),.bool false]) res):G Try.prog E [.code (Qd Try.prog 100)] ⟨(XF f now d)++unds (Try.f100.ntmps - 3),[]⟩ :=
 Qc (n:=400) (evs:=[.lent [] (QR now) (QS now),.v (QQ d now),.v (QP d now),.v (QO d now),.v (QN d now),.b false,.b false,.b false,.b true,.b true,.b true,.b true,.b true,.b true]) (obs:=_) hE Try.func100 Qp (by kernel_rfl) ho hr
theorem QbN (f:Fair) (now:Cnt) (d:Dl) {E:Env} {res:AV} (hE:Qg Try.prog 100 res E) (ho:AllP [Xf Try.prog (.clos 173 [] []) [.agg (QK now)] [] (QR now) (QS now),5≤5,0=0,InR .i64 ((now.stk.length:Int) - 1),Qe Try.prog (.clos 101 [] []) (XE d now) (QQ d now),0=0,InR .i64 ((now.prs.length:Int) - 1),Qe Try.prog (.clos 101 [] []) (Xi d now) (QP d now),0=0,InR .i64 ((now.prs.length:Int) - 1),Qe Try.prog (.clos 101 [] []) (Xh d now) (QO d now),0=0,InR .i64 ((now.bxs.length:Int) - 1),Qe Try.prog (.clos 101 [] []) (Xg d now) (QN d now),(d.kind == 1)=false,(d.kind == 2)=false,(d.kind == 3)=false,(d.kind == 4)=true,(!(Qa d.a 0 ((now.stk.length:Int) - 1)))=false,(!(Qa d.b 0 ((now.prs.length:Int) - 1)))=true,true=true,true=true,true=true,5≤5])
 (hr:AvLe (.tup [.agg (QK now),.bool false]) res):G Try.prog E [.code (Qd Try.prog 100)] ⟨(XF f now d)++unds (Try.f100.ntmps - 3),[]⟩ :=
 Qc (n:=400) (evs:=[.lent [] (QR now) (QS now),.v (QQ d now),.v (QP d now),.v (QO d now),.v (QN d now),.b false,.b false,.b false,.b true,.b false,.b true,.b true,.b true,.b true]) (obs:=_) hE Try.func100 Qp (by kernel_rfl) ho hr
theorem QbM (f:Fair) (now:Cnt) (d:Dl) {E:Env} {res:AV} (hE:Qg Try.prog 100 res E) (ho:AllP [Xf Try.prog (.clos 173 [] []) [.agg (QK now)] [] (QR now) (QS now),5≤5,0=0,InR .i64 ((now.stk.length:Int) - 1),Qe Try.prog (.clos 101 [] []) (XE d now) (QQ d now),0=0,InR .i64 ((now.prs.length:Int) - 1),Qe Try.prog (.clos 101 [] []) (Xi d now) (QP d now),0=0,InR .i64 ((now.prs.length:Int) - 1),Qe Try.prog (.clos 101 [] []) (Xh d now) (QO d now),0=0,InR .i64 ((now.bxs.length:Int) - 1),Qe Try.prog (.clos 101 [] []) (Xg d now) (QN d now),(d.kind == 1)=false,(d.kind == 2)=false,(d.kind == 3)=false,(d.kind == 4)=true,(!(Qa d.a 0 ((now.stk.length:Int) - 1)))=false,(!(Qa d.b 0 ((now.prs.length:Int) - 1)))=false,Qe Try.prog (.clos 101 [] []) [.int .i64 d.n,.int .i64 1,.int .i64 100000] (.bool (Qa d.n 1 100000)),(!(Qa d.n 1 100000))=true,true=true,true=true,5≤5])
 (hr:AvLe (.tup [.agg (QK now),.bool false]) res):G Try.prog E [.code (Qd Try.prog 100)] ⟨(XF f now d)++unds (Try.f100.ntmps - 3),[]⟩ :=
 Qc (n:=400) (evs:=[.lent [] (QR now) (QS now),.v (QQ d now),.v (QP d now),.v (QO d now),.v (QN d now),.b false,.b false,.b false,.b true,.b false,.b false,.v (.bool (Qa d.n 1 100000)),.b true,.b true,.b true]) (obs:=_) hE Try.func100 Qp (by kernel_rfl) ho hr
theorem QbL (f:Fair) (now:Cnt) (d:Dl) (pe:Pur) {E:Env} {res:AV} (hE:Qg Try.prog 100 res E) (ho:AllP [Xf Try.prog (.clos 173 [] []) [.agg (QK now)] [] (QR now) (QS now),5≤5,0=0,InR .i64 ((now.stk.length:Int) - 1),Qe Try.prog (.clos 101 [] []) (XE d now) (QQ d now),0=0,InR .i64 ((now.prs.length:Int) - 1),Qe Try.prog (.clos 101 [] []) (Xi d now) (QP d now),0=0,InR .i64 ((now.prs.length:Int) - 1),Qe Try.prog (.clos 101 [] []) (Xh d now) (QO d now),0=0,InR .i64 ((now.bxs.length:Int) - 1),Qe Try.prog (.clos 101 [] []) (Xg d now) (QN d now),(d.kind == 1)=false,(d.kind == 2)=false,(d.kind == 3)=false,(d.kind == 4)=true,(!(Qa d.a 0 ((now.stk.length:Int) - 1)))=false,(!(Qa d.b 0 ((now.prs.length:Int) - 1)))=false,Qe Try.prog (.clos 101 [] []) [.int .i64 d.n,.int .i64 1,.int .i64 100000] (.bool (Qa d.n 1 100000)),(!(Qa d.n 1 100000))=false,0≤d.b∧d.b<(now.prs.length:Int),0=0,0=0,0=0,((Qf now.prs).drop ((0+(Int.toNat d.b)*2)+0)).take 1=[.int .i64 pe.tokens],(decide (pe.tokens<d.n))=true,true=true,5≤5])
 (hr:AvLe (.tup [.agg (QK now),.bool false]) res):G Try.prog E [.code (Qd Try.prog 100)] ⟨(XF f now d)++unds (Try.f100.ntmps - 3),[]⟩ :=
 Qc (n:=400) (evs:=[.lent [] (QR now) (QS now),.v (QQ d now),.v (QP d now),.v (QO d now),.v (QN d now),.b false,.b false,.b false,.b true,.b false,.b false,.v (.bool (Qa d.n 1 100000)),.b false,.auto,.auto,.ld (.int .i64 pe.tokens),.b true,.b true]) (obs:=_) hE Try.func100 Qp (by kernel_rfl) ho hr
theorem QbK (f:Fair) (now:Cnt) (d:Dl) (pe:Pur) (e:Int) {E:Env} {res:AV} (hE:Qg Try.prog 100 res E) (ho:AllP [Xf Try.prog (.clos 173 [] []) [.agg (QK now)] [] (QR now) (QS now),5≤5,0=0,InR .i64 ((now.stk.length:Int) - 1),Qe Try.prog (.clos 101 [] []) (XE d now) (QQ d now),0=0,InR .i64 ((now.prs.length:Int) - 1),Qe Try.prog (.clos 101 [] []) (Xi d now) (QP d now),0=0,InR .i64 ((now.prs.length:Int) - 1),Qe Try.prog (.clos 101 [] []) (Xh d now) (QO d now),0=0,InR .i64 ((now.bxs.length:Int) - 1),Qe Try.prog (.clos 101 [] []) (Xg d now) (QN d now),(d.kind == 1)=false,(d.kind == 2)=false,(d.kind == 3)=false,(d.kind == 4)=true,(!(Qa d.a 0 ((now.stk.length:Int) - 1)))=false,(!(Qa d.b 0 ((now.prs.length:Int) - 1)))=false,Qe Try.prog (.clos 101 [] []) [.int .i64 d.n,.int .i64 1,.int .i64 100000] (.bool (Qa d.n 1 100000)),(!(Qa d.n 1 100000))=false,0≤d.b∧d.b<(now.prs.length:Int),0=0,0=0,0=0,((Qf now.prs).drop ((0+(Int.toNat d.b)*2)+0)).take 1=[.int .i64 pe.tokens],(decide (pe.tokens<d.n))=false,0≤d.a∧d.a<(now.csh.length:Int),0=0,0=0,((rowI now.csh).drop (0+(Int.toNat d.a)*1)).take 1=[.int .i64 e],InR .i64 (d.n*f.refund),(decide (e<(d.n*f.refund)))=true,5≤5])
 (hr:AvLe (.tup [.agg (QK now),.bool false]) res):G Try.prog E [.code (Qd Try.prog 100)] ⟨(XF f now d)++unds (Try.f100.ntmps - 3),[]⟩ :=
 Qc (n:=400) (evs:=[.lent [] (QR now) (QS now),.v (QQ d now),.v (QP d now),.v (QO d now),.v (QN d now),.b false,.b false,.b false,.b true,.b false,.b false,.v (.bool (Qa d.n 1 100000)),.b false,.auto,.auto,.ld (.int .i64 pe.tokens),.b false,.auto,.auto,.ld (.int .i64 e),.b true]) (obs:=_) hE Try.func100 Qp (by kernel_rfl) ho hr
theorem QbJ (f:Fair) (now:Cnt) (d:Dl) (pe:Pur) (e:Int) (e1:Int) {E:Env} {res:AV} (hE:Qg Try.prog 100 res E) (ho:AllP [Xf Try.prog (.clos 173 [] []) [.agg [.rsl (rowI now.stk) 0 now.stk.length,.rsl (rowI now.csh) 0 now.csh.length,.rsl (Qf now.prs) 0 now.prs.length,.rsl (rowI now.bxs) 0 now.bxs.length,.int .i64 now.lst]] [] (.agg [.sl 2 0 0 now.stk.length 1,.sl 3 0 0 now.csh.length 1,.sl 4 0 0 now.prs.length 2,.sl 5 0 0 now.bxs.length 1,.int .i64 now.lst]) [⟨true,0,1,true,[.rsl (rowI now.stk) 0 now.stk.length,.rsl (rowI now.csh) 0 now.csh.length,.rsl (Qf now.prs) 0 now.prs.length,.rsl (rowI now.bxs) 0 now.bxs.length,.int .i64 now.lst],false⟩,⟨true,0,1,false,[.sl 2 0 0 now.stk.length 1,.sl 3 0 0 now.csh.length 1,.sl 4 0 0 now.prs.length 2,.sl 5 0 0 now.bxs.length 1,.int .i64 now.lst],false⟩,⟨true,0,1,true,(rowI now.stk),true⟩,⟨true,0,1,true,(rowI now.csh),true⟩,⟨true,0,2,true,(Qf now.prs),true⟩,⟨true,0,1,true,(rowI now.bxs),true⟩],5≤5,0=0,InR .i64 ((now.stk.length:Int) - 1),Qe Try.prog (.clos 101 [] []) [.int .i64 d.a,.int .i64 0,.int .i64 ((now.stk.length:Int) - 1)] (.bool (Qa d.a 0 ((now.stk.length:Int) - 1))),0=0,InR .i64 ((now.prs.length:Int) - 1),Qe Try.prog (.clos 101 [] []) [.int .i64 d.a,.int .i64 0,.int .i64 ((now.prs.length:Int) - 1)] (.bool (Qa d.a 0 ((now.prs.length:Int) - 1))),0=0,InR .i64 ((now.prs.length:Int) - 1),Qe Try.prog (.clos 101 [] []) [.int .i64 d.b,.int .i64 0,.int .i64 ((now.prs.length:Int) - 1)] (.bool (Qa d.b 0 ((now.prs.length:Int) - 1))),0=0,InR .i64 ((now.bxs.length:Int) - 1),Qe Try.prog (.clos 101 [] []) [.int .i64 d.b,.int .i64 0,.int .i64 ((now.bxs.length:Int) - 1)] (.bool (Qa d.b 0 ((now.bxs.length:Int) - 1))),(d.kind == 1)=false,(d.kind == 2)=false,(d.kind == 3)=false,(d.kind == 4)=true,(!(Qa d.a 0 ((now.stk.length:Int) - 1)))=false,(!(Qa d.b 0 ((now.prs.length:Int) - 1)))=false,Qe Try.prog (.clos 101 [] []) [.int .i64 d.n,.int .i64 1,.int .i64 100000] (.bool (Qa d.n 1 100000)),(!(Qa d.n 1 100000))=false,0≤d.b∧d.b<(now.prs.length:Int),0=0,0=0,0=0,((Qf now.prs).drop ((0+(Int.toNat d.b)*2)+0)).take 1=[.int .i64 pe.tokens],(decide (pe.tokens<d.n))=false,0≤d.a∧d.a<(now.csh.length:Int),0=0,0=0,((rowI now.csh).drop (0+(Int.toNat d.a)*1)).take 1=[.int .i64 e],InR .i64 (d.n*f.refund),(decide (e<(d.n*f.refund)))=false,0≤d.b∧d.b<(now.prs.length:Int),0=0,0=0,0=0,((Qf now.prs).drop ((0+(Int.toNat d.b)*2)+0)).take 1=[.int .i64 pe.tokens],InR .i64 (pe.tokens - d.n),0≤d.b∧d.b<(now.prs.length:Int),0=0,0=0,(((0+(Int.toNat d.b)*2)+0)+1)≤(Qf now.prs).length,0=0,0≤d.a∧d.a<(now.stk.length:Int),0=0,0=0,((rowI now.stk).drop (0+(Int.toNat d.a)*1)).take 1=[.int .i64 e1],InR .i64 (e1+d.n),0≤d.a∧d.a<(now.stk.length:Int),0=0,((0+(Int.toNat d.a)*1)+1)≤(rowI now.stk).length,0=0,0≤d.a∧d.a<(now.csh.length:Int),0=0,0=0,((rowI now.csh).drop (0+(Int.toNat d.a)*1)).take 1=[.int .i64 e],InR .i64 (d.n*f.refund),InR .i64 (e - (d.n*f.refund)),0≤d.a∧d.a<(now.csh.length:Int),0=0,((0+(Int.toNat d.a)*1)+1)≤(rowI now.csh).length,0=0,5≤5,0=0,0=0,0=0,0=0])
 (hr:AvLe (.tup [.agg [.rsl (Qt (rowI now.stk) (0+(Int.toNat d.a)*1) [.int .i64 (e1+d.n)]) 0 now.stk.length,.rsl (Qt (rowI now.csh) (0+(Int.toNat d.a)*1) [.int .i64 (e - (d.n*f.refund))]) 0 now.csh.length,.rsl (Qt (Qf now.prs) ((0+(Int.toNat d.b)*2)+0) [.int .i64 (pe.tokens - d.n)]) 0 now.prs.length,.rsl (rowI now.bxs) 0 now.bxs.length,.int .i64 now.lst],.bool true]) res):G Try.prog E [.code (Qd Try.prog 100)] ⟨[.agg [.int .i64 f.purses,.int .i64 f.boxes,.rsl (rowI f.stock) 0 f.stock.length,.rsl (rowI f.cash) 0 f.cash.length,.rsl (Qr f.bundles) 0 f.bundles.length,.int .i64 f.refund,.int .i64 f.band,.int .i64 f.hours],.agg [.rsl (rowI now.stk) 0 now.stk.length,.rsl (rowI now.csh) 0 now.csh.length,.rsl (Qf now.prs) 0 now.prs.length,.rsl (rowI now.bxs) 0 now.bxs.length,.int .i64 now.lst],.agg [.int .i64 d.at_,.int .i64 d.kind,.int .i64 d.a,.int .i64 d.b,.int .i64 d.n]]++unds (Try.f100.ntmps - 3),[]⟩ :=
 Qc (n:=400) (evs:=[.lent [] (.agg [.sl 2 0 0 now.stk.length 1,.sl 3 0 0 now.csh.length 1,.sl 4 0 0 now.prs.length 2,.sl 5 0 0 now.bxs.length 1,.int .i64 now.lst]) [⟨true,0,1,true,[.rsl (rowI now.stk) 0 now.stk.length,.rsl (rowI now.csh) 0 now.csh.length,.rsl (Qf now.prs) 0 now.prs.length,.rsl (rowI now.bxs) 0 now.bxs.length,.int .i64 now.lst],false⟩,⟨true,0,1,false,[.sl 2 0 0 now.stk.length 1,.sl 3 0 0 now.csh.length 1,.sl 4 0 0 now.prs.length 2,.sl 5 0 0 now.bxs.length 1,.int .i64 now.lst],false⟩,⟨true,0,1,true,(rowI now.stk),true⟩,⟨true,0,1,true,(rowI now.csh),true⟩,⟨true,0,2,true,(Qf now.prs),true⟩,⟨true,0,1,true,(rowI now.bxs),true⟩],.v (.bool (Qa d.a 0 ((now.stk.length:Int) - 1))),.v (.bool (Qa d.a 0 ((now.prs.length:Int) - 1))),.v (.bool (Qa d.b 0 ((now.prs.length:Int) - 1))),.v (.bool (Qa d.b 0 ((now.bxs.length:Int) - 1))),.b false,.b false,.b false,.b true,.b false,.b false,.v (.bool (Qa d.n 1 100000)),.b false,.auto,.auto,.ld (.int .i64 pe.tokens),.b false,.auto,.auto,.ld (.int .i64 e),.b false,.auto,.auto,.ld (.int .i64 pe.tokens),.auto,.auto,.auto,.ld (.int .i64 e1),.auto,.auto,.auto,.ld (.int .i64 e)]) (obs:=_) hE Try.func100 Qp (by kernel_rfl) ho hr
theorem QbI (f:Fair) (now:Cnt) (d:Dl) {E:Env} {res:AV} (hE:Qg Try.prog 100 res E) (ho:AllP [Xf Try.prog (.clos 173 [] []) [.agg (QK now)] [] (QR now) (QS now),5≤5,0=0,InR .i64 ((now.stk.length:Int) - 1),Qe Try.prog (.clos 101 [] []) (XE d now) (QQ d now),0=0,InR .i64 ((now.prs.length:Int) - 1),Qe Try.prog (.clos 101 [] []) (Xi d now) (QP d now),0=0,InR .i64 ((now.prs.length:Int) - 1),Qe Try.prog (.clos 101 [] []) (Xh d now) (QO d now),0=0,InR .i64 ((now.bxs.length:Int) - 1),Qe Try.prog (.clos 101 [] []) (Xg d now) (QN d now),(d.kind == 1)=false,(d.kind == 2)=false,(d.kind == 3)=false,(d.kind == 4)=false,(d.kind == 5)=true,(!(Qa d.a 0 ((now.stk.length:Int) - 1)))=true,true=true,true=true,5≤5])
 (hr:AvLe (.tup [.agg (QK now),.bool false]) res):G Try.prog E [.code (Qd Try.prog 100)] ⟨(XF f now d)++unds (Try.f100.ntmps - 3),[]⟩ :=
 Qc (n:=400) (evs:=[.lent [] (QR now) (QS now),.v (QQ d now),.v (QP d now),.v (QO d now),.v (QN d now),.b false,.b false,.b false,.b false,.b true,.b true,.b true,.b true]) (obs:=_) hE Try.func100 Qp (by kernel_rfl) ho hr
theorem QbH (f:Fair) (now:Cnt) (d:Dl) {E:Env} {res:AV} (hE:Qg Try.prog 100 res E) (ho:AllP [Xf Try.prog (.clos 173 [] []) [.agg (QK now)] [] (QR now) (QS now),5≤5,0=0,InR .i64 ((now.stk.length:Int) - 1),Qe Try.prog (.clos 101 [] []) (XE d now) (QQ d now),0=0,InR .i64 ((now.prs.length:Int) - 1),Qe Try.prog (.clos 101 [] []) (Xi d now) (QP d now),0=0,InR .i64 ((now.prs.length:Int) - 1),Qe Try.prog (.clos 101 [] []) (Xh d now) (QO d now),0=0,InR .i64 ((now.bxs.length:Int) - 1),Qe Try.prog (.clos 101 [] []) (Xg d now) (QN d now),(d.kind == 1)=false,(d.kind == 2)=false,(d.kind == 3)=false,(d.kind == 4)=false,(d.kind == 5)=true,(!(Qa d.a 0 ((now.stk.length:Int) - 1)))=false,(!(Qa d.b 0 ((now.bxs.length:Int) - 1)))=true,true=true,5≤5])
 (hr:AvLe (.tup [.agg (QK now),.bool false]) res):G Try.prog E [.code (Qd Try.prog 100)] ⟨(XF f now d)++unds (Try.f100.ntmps - 3),[]⟩ :=
 Qc (n:=400) (evs:=[.lent [] (QR now) (QS now),.v (QQ d now),.v (QP d now),.v (QO d now),.v (QN d now),.b false,.b false,.b false,.b false,.b true,.b false,.b true,.b true]) (obs:=_) hE Try.func100 Qp (by kernel_rfl) ho hr
theorem QbG (f:Fair) (now:Cnt) (d:Dl) {E:Env} {res:AV} (hE:Qg Try.prog 100 res E) (ho:AllP [Xf Try.prog (.clos 173 [] []) [.agg (QK now)] [] (QR now) (QS now),5≤5,0=0,InR .i64 ((now.stk.length:Int) - 1),Qe Try.prog (.clos 101 [] []) (XE d now) (QQ d now),0=0,InR .i64 ((now.prs.length:Int) - 1),Qe Try.prog (.clos 101 [] []) (Xi d now) (QP d now),0=0,InR .i64 ((now.prs.length:Int) - 1),Qe Try.prog (.clos 101 [] []) (Xh d now) (QO d now),0=0,InR .i64 ((now.bxs.length:Int) - 1),Qe Try.prog (.clos 101 [] []) (Xg d now) (QN d now),(d.kind == 1)=false,(d.kind == 2)=false,(d.kind == 3)=false,(d.kind == 4)=false,(d.kind == 5)=true,(!(Qa d.a 0 ((now.stk.length:Int) - 1)))=false,(!(Qa d.b 0 ((now.bxs.length:Int) - 1)))=false,(d.n != 0)=true,5≤5])
 (hr:AvLe (.tup [.agg (QK now),.bool false]) res):G Try.prog E [.code (Qd Try.prog 100)] ⟨(XF f now d)++unds (Try.f100.ntmps - 3),[]⟩ :=
 Qc (n:=400) (evs:=[.lent [] (QR now) (QS now),.v (QQ d now),.v (QP d now),.v (QO d now),.v (QN d now),.b false,.b false,.b false,.b false,.b true,.b false,.b false,.b true]) (obs:=_) hE Try.func100 Qp (by kernel_rfl) ho hr
theorem QbF (f:Fair) (now:Cnt) (d:Dl) (e:Int) (e1:Int) {E:Env} {res:AV} (hE:Qg Try.prog 100 res E) (ho:AllP [Xf Try.prog (.clos 173 [] []) [.agg [.rsl (rowI now.stk) 0 now.stk.length,.rsl (rowI now.csh) 0 now.csh.length,.rsl (Qf now.prs) 0 now.prs.length,.rsl (rowI now.bxs) 0 now.bxs.length,.int .i64 now.lst]] [] (.agg [.sl 2 0 0 now.stk.length 1,.sl 3 0 0 now.csh.length 1,.sl 4 0 0 now.prs.length 2,.sl 5 0 0 now.bxs.length 1,.int .i64 now.lst]) [⟨true,0,1,true,[.rsl (rowI now.stk) 0 now.stk.length,.rsl (rowI now.csh) 0 now.csh.length,.rsl (Qf now.prs) 0 now.prs.length,.rsl (rowI now.bxs) 0 now.bxs.length,.int .i64 now.lst],false⟩,⟨true,0,1,false,[.sl 2 0 0 now.stk.length 1,.sl 3 0 0 now.csh.length 1,.sl 4 0 0 now.prs.length 2,.sl 5 0 0 now.bxs.length 1,.int .i64 now.lst],false⟩,⟨true,0,1,true,(rowI now.stk),true⟩,⟨true,0,1,true,(rowI now.csh),true⟩,⟨true,0,2,true,(Qf now.prs),true⟩,⟨true,0,1,true,(rowI now.bxs),true⟩],5≤5,0=0,InR .i64 ((now.stk.length:Int) - 1),Qe Try.prog (.clos 101 [] []) [.int .i64 d.a,.int .i64 0,.int .i64 ((now.stk.length:Int) - 1)] (.bool (Qa d.a 0 ((now.stk.length:Int) - 1))),0=0,InR .i64 ((now.prs.length:Int) - 1),Qe Try.prog (.clos 101 [] []) [.int .i64 d.a,.int .i64 0,.int .i64 ((now.prs.length:Int) - 1)] (.bool (Qa d.a 0 ((now.prs.length:Int) - 1))),0=0,InR .i64 ((now.prs.length:Int) - 1),Qe Try.prog (.clos 101 [] []) [.int .i64 d.b,.int .i64 0,.int .i64 ((now.prs.length:Int) - 1)] (.bool (Qa d.b 0 ((now.prs.length:Int) - 1))),0=0,InR .i64 ((now.bxs.length:Int) - 1),Qe Try.prog (.clos 101 [] []) [.int .i64 d.b,.int .i64 0,.int .i64 ((now.bxs.length:Int) - 1)] (.bool (Qa d.b 0 ((now.bxs.length:Int) - 1))),(d.kind == 1)=false,(d.kind == 2)=false,(d.kind == 3)=false,(d.kind == 4)=false,(d.kind == 5)=true,(!(Qa d.a 0 ((now.stk.length:Int) - 1)))=false,(!(Qa d.b 0 ((now.bxs.length:Int) - 1)))=false,(d.n != 0)=false,0≤d.a∧d.a<(now.stk.length:Int),0=0,0=0,((rowI now.stk).drop (0+(Int.toNat d.a)*1)).take 1=[.int .i64 e],0≤d.b∧d.b<(now.bxs.length:Int),0=0,0=0,((rowI now.bxs).drop (0+(Int.toNat d.b)*1)).take 1=[.int .i64 e1],InR .i64 (e+e1),0≤d.a∧d.a<(now.stk.length:Int),0=0,((0+(Int.toNat d.a)*1)+1)≤(rowI now.stk).length,0=0,0≤d.b∧d.b<(now.bxs.length:Int),0=0,((0+(Int.toNat d.b)*1)+1)≤(rowI now.bxs).length,0=0,5≤5,0=0,0=0,0=0,0=0])
 (hr:AvLe (.tup [.agg [.rsl (Qt (rowI now.stk) (0+(Int.toNat d.a)*1) [.int .i64 (e+e1)]) 0 now.stk.length,.rsl (rowI now.csh) 0 now.csh.length,.rsl (Qf now.prs) 0 now.prs.length,.rsl (Qt (rowI now.bxs) (0+(Int.toNat d.b)*1) [.int .i64 0]) 0 now.bxs.length,.int .i64 now.lst],.bool true]) res):G Try.prog E [.code (Qd Try.prog 100)] ⟨[.agg [.int .i64 f.purses,.int .i64 f.boxes,.rsl (rowI f.stock) 0 f.stock.length,.rsl (rowI f.cash) 0 f.cash.length,.rsl (Qr f.bundles) 0 f.bundles.length,.int .i64 f.refund,.int .i64 f.band,.int .i64 f.hours],.agg [.rsl (rowI now.stk) 0 now.stk.length,.rsl (rowI now.csh) 0 now.csh.length,.rsl (Qf now.prs) 0 now.prs.length,.rsl (rowI now.bxs) 0 now.bxs.length,.int .i64 now.lst],.agg [.int .i64 d.at_,.int .i64 d.kind,.int .i64 d.a,.int .i64 d.b,.int .i64 d.n]]++unds (Try.f100.ntmps - 3),[]⟩ :=
 Qc (n:=400) (evs:=[.lent [] (.agg [.sl 2 0 0 now.stk.length 1,.sl 3 0 0 now.csh.length 1,.sl 4 0 0 now.prs.length 2,.sl 5 0 0 now.bxs.length 1,.int .i64 now.lst]) [⟨true,0,1,true,[.rsl (rowI now.stk) 0 now.stk.length,.rsl (rowI now.csh) 0 now.csh.length,.rsl (Qf now.prs) 0 now.prs.length,.rsl (rowI now.bxs) 0 now.bxs.length,.int .i64 now.lst],false⟩,⟨true,0,1,false,[.sl 2 0 0 now.stk.length 1,.sl 3 0 0 now.csh.length 1,.sl 4 0 0 now.prs.length 2,.sl 5 0 0 now.bxs.length 1,.int .i64 now.lst],false⟩,⟨true,0,1,true,(rowI now.stk),true⟩,⟨true,0,1,true,(rowI now.csh),true⟩,⟨true,0,2,true,(Qf now.prs),true⟩,⟨true,0,1,true,(rowI now.bxs),true⟩],.v (.bool (Qa d.a 0 ((now.stk.length:Int) - 1))),.v (.bool (Qa d.a 0 ((now.prs.length:Int) - 1))),.v (.bool (Qa d.b 0 ((now.prs.length:Int) - 1))),.v (.bool (Qa d.b 0 ((now.bxs.length:Int) - 1))),.b false,.b false,.b false,.b false,.b true,.b false,.b false,.b false,.auto,.auto,.ld (.int .i64 e),.auto,.auto,.ld (.int .i64 e1)]) (obs:=_) hE Try.func100 Qp (by kernel_rfl) ho hr
theorem QbE (f:Fair) (now:Cnt) (d:Dl) {E:Env} {res:AV} (hE:Qg Try.prog 100 res E) (ho:AllP [Xf Try.prog (.clos 173 [] []) [.agg (QK now)] [] (QR now) (QS now),5≤5,0=0,InR .i64 ((now.stk.length:Int) - 1),Qe Try.prog (.clos 101 [] []) (XE d now) (QQ d now),0=0,InR .i64 ((now.prs.length:Int) - 1),Qe Try.prog (.clos 101 [] []) (Xi d now) (QP d now),0=0,InR .i64 ((now.prs.length:Int) - 1),Qe Try.prog (.clos 101 [] []) (Xh d now) (QO d now),0=0,InR .i64 ((now.bxs.length:Int) - 1),Qe Try.prog (.clos 101 [] []) (Xg d now) (QN d now),(d.kind == 1)=false,(d.kind == 2)=false,(d.kind == 3)=false,(d.kind == 4)=false,(d.kind == 5)=false,(d.kind == 6)=true,(!(Qa d.a 0 ((now.prs.length:Int) - 1)))=true,true=true,true=true,true=true,true=true,5≤5])
 (hr:AvLe (.tup [.agg (QK now),.bool false]) res):G Try.prog E [.code (Qd Try.prog 100)] ⟨(XF f now d)++unds (Try.f100.ntmps - 3),[]⟩ :=
 Qc (n:=400) (evs:=[.lent [] (QR now) (QS now),.v (QQ d now),.v (QP d now),.v (QO d now),.v (QN d now),.b false,.b false,.b false,.b false,.b false,.b true,.b true,.b true,.b true,.b true,.b true]) (obs:=_) hE Try.func100 Qp (by kernel_rfl) ho hr
theorem QbD (f:Fair) (now:Cnt) (d:Dl) {E:Env} {res:AV} (hE:Qg Try.prog 100 res E) (ho:AllP [Xf Try.prog (.clos 173 [] []) [.agg (QK now)] [] (QR now) (QS now),5≤5,0=0,InR .i64 ((now.stk.length:Int) - 1),Qe Try.prog (.clos 101 [] []) (XE d now) (QQ d now),0=0,InR .i64 ((now.prs.length:Int) - 1),Qe Try.prog (.clos 101 [] []) (Xi d now) (QP d now),0=0,InR .i64 ((now.prs.length:Int) - 1),Qe Try.prog (.clos 101 [] []) (Xh d now) (QO d now),0=0,InR .i64 ((now.bxs.length:Int) - 1),Qe Try.prog (.clos 101 [] []) (Xg d now) (QN d now),(d.kind == 1)=false,(d.kind == 2)=false,(d.kind == 3)=false,(d.kind == 4)=false,(d.kind == 5)=false,(d.kind == 6)=true,(!(Qa d.a 0 ((now.prs.length:Int) - 1)))=false,(!(Qa d.b 0 ((now.prs.length:Int) - 1)))=true,true=true,true=true,true=true,5≤5])
 (hr:AvLe (.tup [.agg (QK now),.bool false]) res):G Try.prog E [.code (Qd Try.prog 100)] ⟨(XF f now d)++unds (Try.f100.ntmps - 3),[]⟩ :=
 Qc (n:=400) (evs:=[.lent [] (QR now) (QS now),.v (QQ d now),.v (QP d now),.v (QO d now),.v (QN d now),.b false,.b false,.b false,.b false,.b false,.b true,.b false,.b true,.b true,.b true,.b true]) (obs:=_) hE Try.func100 Qp (by kernel_rfl) ho hr
theorem QbC (f:Fair) (now:Cnt) (d:Dl) {E:Env} {res:AV} (hE:Qg Try.prog 100 res E) (ho:AllP [Xf Try.prog (.clos 173 [] []) [.agg (QK now)] [] (QR now) (QS now),5≤5,0=0,InR .i64 ((now.stk.length:Int) - 1),Qe Try.prog (.clos 101 [] []) (XE d now) (QQ d now),0=0,InR .i64 ((now.prs.length:Int) - 1),Qe Try.prog (.clos 101 [] []) (Xi d now) (QP d now),0=0,InR .i64 ((now.prs.length:Int) - 1),Qe Try.prog (.clos 101 [] []) (Xh d now) (QO d now),0=0,InR .i64 ((now.bxs.length:Int) - 1),Qe Try.prog (.clos 101 [] []) (Xg d now) (QN d now),(d.kind == 1)=false,(d.kind == 2)=false,(d.kind == 3)=false,(d.kind == 4)=false,(d.kind == 5)=false,(d.kind == 6)=true,(!(Qa d.a 0 ((now.prs.length:Int) - 1)))=false,(!(Qa d.b 0 ((now.prs.length:Int) - 1)))=false,(d.a == d.b)=true,true=true,true=true,5≤5])
 (hr:AvLe (.tup [.agg (QK now),.bool false]) res):G Try.prog E [.code (Qd Try.prog 100)] ⟨(XF f now d)++unds (Try.f100.ntmps - 3),[]⟩ :=
 Qc (n:=400) (evs:=[.lent [] (QR now) (QS now),.v (QQ d now),.v (QP d now),.v (QO d now),.v (QN d now),.b false,.b false,.b false,.b false,.b false,.b true,.b false,.b false,.b true,.b true,.b true]) (obs:=_) hE Try.func100 Qp (by kernel_rfl) ho hr
theorem QbB (f:Fair) (now:Cnt) (d:Dl) {E:Env} {res:AV} (hE:Qg Try.prog 100 res E) (ho:AllP [Xf Try.prog (.clos 173 [] []) [.agg (QK now)] [] (QR now) (QS now),5≤5,0=0,InR .i64 ((now.stk.length:Int) - 1),Qe Try.prog (.clos 101 [] []) (XE d now) (QQ d now),0=0,InR .i64 ((now.prs.length:Int) - 1),Qe Try.prog (.clos 101 [] []) (Xi d now) (QP d now),0=0,InR .i64 ((now.prs.length:Int) - 1),Qe Try.prog (.clos 101 [] []) (Xh d now) (QO d now),0=0,InR .i64 ((now.bxs.length:Int) - 1),Qe Try.prog (.clos 101 [] []) (Xg d now) (QN d now),(d.kind == 1)=false,(d.kind == 2)=false,(d.kind == 3)=false,(d.kind == 4)=false,(d.kind == 5)=false,(d.kind == 6)=true,(!(Qa d.a 0 ((now.prs.length:Int) - 1)))=false,(!(Qa d.b 0 ((now.prs.length:Int) - 1)))=false,(d.a == d.b)=false,Qe Try.prog (.clos 101 [] []) [.int .i64 d.n,.int .i64 1,.int .i64 100000] (.bool (Qa d.n 1 100000)),(!(Qa d.n 1 100000))=true,true=true,5≤5])
 (hr:AvLe (.tup [.agg (QK now),.bool false]) res):G Try.prog E [.code (Qd Try.prog 100)] ⟨(XF f now d)++unds (Try.f100.ntmps - 3),[]⟩ :=
 Qc (n:=400) (evs:=[.lent [] (QR now) (QS now),.v (QQ d now),.v (QP d now),.v (QO d now),.v (QN d now),.b false,.b false,.b false,.b false,.b false,.b true,.b false,.b false,.b false,.v (.bool (Qa d.n 1 100000)),.b true,.b true]) (obs:=_) hE Try.func100 Qp (by kernel_rfl) ho hr
theorem QbA (f:Fair) (now:Cnt) (d:Dl) (pe:Pur) {E:Env} {res:AV} (hE:Qg Try.prog 100 res E) (ho:AllP [Xf Try.prog (.clos 173 [] []) [.agg (QK now)] [] (QR now) (QS now),5≤5,0=0,InR .i64 ((now.stk.length:Int) - 1),Qe Try.prog (.clos 101 [] []) (XE d now) (QQ d now),0=0,InR .i64 ((now.prs.length:Int) - 1),Qe Try.prog (.clos 101 [] []) (Xi d now) (QP d now),0=0,InR .i64 ((now.prs.length:Int) - 1),Qe Try.prog (.clos 101 [] []) (Xh d now) (QO d now),0=0,InR .i64 ((now.bxs.length:Int) - 1),Qe Try.prog (.clos 101 [] []) (Xg d now) (QN d now),(d.kind == 1)=false,(d.kind == 2)=false,(d.kind == 3)=false,(d.kind == 4)=false,(d.kind == 5)=false,(d.kind == 6)=true,(!(Qa d.a 0 ((now.prs.length:Int) - 1)))=false,(!(Qa d.b 0 ((now.prs.length:Int) - 1)))=false,(d.a == d.b)=false,Qe Try.prog (.clos 101 [] []) [.int .i64 d.n,.int .i64 1,.int .i64 100000] (.bool (Qa d.n 1 100000)),(!(Qa d.n 1 100000))=false,0≤d.a∧d.a<(now.prs.length:Int),0=0,0=0,0=0,((Qf now.prs).drop ((0+(Int.toNat d.a)*2)+0)).take 1=[.int .i64 pe.tokens],(decide (pe.tokens<d.n))=true,5≤5])
 (hr:AvLe (.tup [.agg (QK now),.bool false]) res):G Try.prog E [.code (Qd Try.prog 100)] ⟨(XF f now d)++unds (Try.f100.ntmps - 3),[]⟩ :=
 Qc (n:=400) (evs:=[.lent [] (QR now) (QS now),.v (QQ d now),.v (QP d now),.v (QO d now),.v (QN d now),.b false,.b false,.b false,.b false,.b false,.b true,.b false,.b false,.b false,.v (.bool (Qa d.n 1 100000)),.b false,.auto,.auto,.ld (.int .i64 pe.tokens),.b true]) (obs:=_) hE Try.func100 Qp (by kernel_rfl) ho hr
theorem Qbz (f:Fair) (now:Cnt) (d:Dl) (pe:Pur) (pe1:Pur) {E:Env} {res:AV} (hE:Qg Try.prog 100 res E) (ho:AllP [Xf Try.prog (.clos 173 [] []) [.agg [.rsl (rowI now.stk) 0 now.stk.length,.rsl (rowI now.csh) 0 now.csh.length,.rsl (Qf now.prs) 0 now.prs.length,.rsl (rowI now.bxs) 0 now.bxs.length,.int .i64 now.lst]] [] (.agg [.sl 2 0 0 now.stk.length 1,.sl 3 0 0 now.csh.length 1,.sl 4 0 0 now.prs.length 2,.sl 5 0 0 now.bxs.length 1,.int .i64 now.lst]) [⟨true,0,1,true,[.rsl (rowI now.stk) 0 now.stk.length,.rsl (rowI now.csh) 0 now.csh.length,.rsl (Qf now.prs) 0 now.prs.length,.rsl (rowI now.bxs) 0 now.bxs.length,.int .i64 now.lst],false⟩,⟨true,0,1,false,[.sl 2 0 0 now.stk.length 1,.sl 3 0 0 now.csh.length 1,.sl 4 0 0 now.prs.length 2,.sl 5 0 0 now.bxs.length 1,.int .i64 now.lst],false⟩,⟨true,0,1,true,(rowI now.stk),true⟩,⟨true,0,1,true,(rowI now.csh),true⟩,⟨true,0,2,true,(Qf now.prs),true⟩,⟨true,0,1,true,(rowI now.bxs),true⟩],5≤5,0=0,InR .i64 ((now.stk.length:Int) - 1),Qe Try.prog (.clos 101 [] []) [.int .i64 d.a,.int .i64 0,.int .i64 ((now.stk.length:Int) - 1)] (.bool (Qa d.a 0 ((now.stk.length:Int) - 1))),0=0,InR .i64 ((now.prs.length:Int) - 1),Qe Try.prog (.clos 101 [] []) [.int .i64 d.a,.int .i64 0,.int .i64 ((now.prs.length:Int) - 1)] (.bool (Qa d.a 0 ((now.prs.length:Int) - 1))),0=0,InR .i64 ((now.prs.length:Int) - 1),Qe Try.prog (.clos 101 [] []) [.int .i64 d.b,.int .i64 0,.int .i64 ((now.prs.length:Int) - 1)] (.bool (Qa d.b 0 ((now.prs.length:Int) - 1))),0=0,InR .i64 ((now.bxs.length:Int) - 1),Qe Try.prog (.clos 101 [] []) [.int .i64 d.b,.int .i64 0,.int .i64 ((now.bxs.length:Int) - 1)] (.bool (Qa d.b 0 ((now.bxs.length:Int) - 1))),(d.kind == 1)=false,(d.kind == 2)=false,(d.kind == 3)=false,(d.kind == 4)=false,(d.kind == 5)=false,(d.kind == 6)=true,(!(Qa d.a 0 ((now.prs.length:Int) - 1)))=false,(!(Qa d.b 0 ((now.prs.length:Int) - 1)))=false,(d.a == d.b)=false,Qe Try.prog (.clos 101 [] []) [.int .i64 d.n,.int .i64 1,.int .i64 100000] (.bool (Qa d.n 1 100000)),(!(Qa d.n 1 100000))=false,0≤d.a∧d.a<(now.prs.length:Int),0=0,0=0,0=0,((Qf now.prs).drop ((0+(Int.toNat d.a)*2)+0)).take 1=[.int .i64 pe.tokens],(decide (pe.tokens<d.n))=false,0≤d.a∧d.a<(now.prs.length:Int),0=0,0=0,0=0,((Qf now.prs).drop ((0+(Int.toNat d.a)*2)+0)).take 1=[.int .i64 pe.tokens],InR .i64 (pe.tokens - d.n),0≤d.a∧d.a<(now.prs.length:Int),0=0,0=0,(((0+(Int.toNat d.a)*2)+0)+1)≤(Qf now.prs).length,0=0,0≤d.b∧d.b<(now.prs.length:Int),0=0,0=0,0=0,((Qt (Qf now.prs) ((0+(Int.toNat d.a)*2)+0) [.int .i64 (pe.tokens - d.n)]).drop ((0+(Int.toNat d.b)*2)+0)).take 1=[.int .i64 pe1.tokens],InR .i64 (pe1.tokens+d.n),0≤d.b∧d.b<(now.prs.length:Int),0=0,0=0,(((0+(Int.toNat d.b)*2)+0)+1)≤(Qt (Qf now.prs) ((0+(Int.toNat d.a)*2)+0) [.int .i64 (pe.tokens - d.n)]).length,0=0,5≤5,0=0,0=0,0=0,0=0])
 (hr:AvLe (.tup [.agg [.rsl (rowI now.stk) 0 now.stk.length,.rsl (rowI now.csh) 0 now.csh.length,.rsl (Qt (Qt (Qf now.prs) ((0+(Int.toNat d.a)*2)+0) [.int .i64 (pe.tokens - d.n)]) ((0+(Int.toNat d.b)*2)+0) [.int .i64 (pe1.tokens+d.n)]) 0 now.prs.length,.rsl (rowI now.bxs) 0 now.bxs.length,.int .i64 now.lst],.bool true]) res):G Try.prog E [.code (Qd Try.prog 100)] ⟨[.agg [.int .i64 f.purses,.int .i64 f.boxes,.rsl (rowI f.stock) 0 f.stock.length,.rsl (rowI f.cash) 0 f.cash.length,.rsl (Qr f.bundles) 0 f.bundles.length,.int .i64 f.refund,.int .i64 f.band,.int .i64 f.hours],.agg [.rsl (rowI now.stk) 0 now.stk.length,.rsl (rowI now.csh) 0 now.csh.length,.rsl (Qf now.prs) 0 now.prs.length,.rsl (rowI now.bxs) 0 now.bxs.length,.int .i64 now.lst],.agg [.int .i64 d.at_,.int .i64 d.kind,.int .i64 d.a,.int .i64 d.b,.int .i64 d.n]]++unds (Try.f100.ntmps - 3),[]⟩ :=
 Qc (n:=400) (evs:=[.lent [] (.agg [.sl 2 0 0 now.stk.length 1,.sl 3 0 0 now.csh.length 1,.sl 4 0 0 now.prs.length 2,.sl 5 0 0 now.bxs.length 1,.int .i64 now.lst]) [⟨true,0,1,true,[.rsl (rowI now.stk) 0 now.stk.length,.rsl (rowI now.csh) 0 now.csh.length,.rsl (Qf now.prs) 0 now.prs.length,.rsl (rowI now.bxs) 0 now.bxs.length,.int .i64 now.lst],false⟩,⟨true,0,1,false,[.sl 2 0 0 now.stk.length 1,.sl 3 0 0 now.csh.length 1,.sl 4 0 0 now.prs.length 2,.sl 5 0 0 now.bxs.length 1,.int .i64 now.lst],false⟩,⟨true,0,1,true,(rowI now.stk),true⟩,⟨true,0,1,true,(rowI now.csh),true⟩,⟨true,0,2,true,(Qf now.prs),true⟩,⟨true,0,1,true,(rowI now.bxs),true⟩],.v (.bool (Qa d.a 0 ((now.stk.length:Int) - 1))),.v (.bool (Qa d.a 0 ((now.prs.length:Int) - 1))),.v (.bool (Qa d.b 0 ((now.prs.length:Int) - 1))),.v (.bool (Qa d.b 0 ((now.bxs.length:Int) - 1))),.b false,.b false,.b false,.b false,.b false,.b true,.b false,.b false,.b false,.v (.bool (Qa d.n 1 100000)),.b false,.auto,.auto,.ld (.int .i64 pe.tokens),.b false,.auto,.auto,.ld (.int .i64 pe.tokens),.auto,.auto,.auto,.ld (.int .i64 pe1.tokens)]) (obs:=_) hE Try.func100 Qp (by kernel_rfl) ho hr
theorem Qby (f:Fair) (now:Cnt) (d:Dl) {E:Env} {res:AV} (hE:Qg Try.prog 100 res E) (ho:AllP [Xf Try.prog (.clos 173 [] []) [.agg (QK now)] [] (QR now) (QS now),5≤5,0=0,InR .i64 ((now.stk.length:Int) - 1),Qe Try.prog (.clos 101 [] []) (XE d now) (QQ d now),0=0,InR .i64 ((now.prs.length:Int) - 1),Qe Try.prog (.clos 101 [] []) (Xi d now) (QP d now),0=0,InR .i64 ((now.prs.length:Int) - 1),Qe Try.prog (.clos 101 [] []) (Xh d now) (QO d now),0=0,InR .i64 ((now.bxs.length:Int) - 1),Qe Try.prog (.clos 101 [] []) (Xg d now) (QN d now),(d.kind == 1)=false,(d.kind == 2)=false,(d.kind == 3)=false,(d.kind == 4)=false,(d.kind == 5)=false,(d.kind == 6)=false,(d.kind == 7)=true,(!(Qa d.a 0 ((now.prs.length:Int) - 1)))=true,true=true,true=true,true=true,5≤5])
 (hr:AvLe (.tup [.agg (QK now),.bool false]) res):G Try.prog E [.code (Qd Try.prog 100)] ⟨(XF f now d)++unds (Try.f100.ntmps - 3),[]⟩ :=
 Qc (n:=400) (evs:=[.lent [] (QR now) (QS now),.v (QQ d now),.v (QP d now),.v (QO d now),.v (QN d now),.b false,.b false,.b false,.b false,.b false,.b false,.b true,.b true,.b true,.b true,.b true]) (obs:=_) hE Try.func100 Qp (by kernel_rfl) ho hr
theorem Qbx (f:Fair) (now:Cnt) (d:Dl) {E:Env} {res:AV} (hE:Qg Try.prog 100 res E) (ho:AllP [Xf Try.prog (.clos 173 [] []) [.agg (QK now)] [] (QR now) (QS now),5≤5,0=0,InR .i64 ((now.stk.length:Int) - 1),Qe Try.prog (.clos 101 [] []) (XE d now) (QQ d now),0=0,InR .i64 ((now.prs.length:Int) - 1),Qe Try.prog (.clos 101 [] []) (Xi d now) (QP d now),0=0,InR .i64 ((now.prs.length:Int) - 1),Qe Try.prog (.clos 101 [] []) (Xh d now) (QO d now),0=0,InR .i64 ((now.bxs.length:Int) - 1),Qe Try.prog (.clos 101 [] []) (Xg d now) (QN d now),(d.kind == 1)=false,(d.kind == 2)=false,(d.kind == 3)=false,(d.kind == 4)=false,(d.kind == 5)=false,(d.kind == 6)=false,(d.kind == 7)=true,(!(Qa d.a 0 ((now.prs.length:Int) - 1)))=false,(d.b != 0)=true,true=true,true=true,5≤5])
 (hr:AvLe (.tup [.agg (QK now),.bool false]) res):G Try.prog E [.code (Qd Try.prog 100)] ⟨(XF f now d)++unds (Try.f100.ntmps - 3),[]⟩ :=
 Qc (n:=400) (evs:=[.lent [] (QR now) (QS now),.v (QQ d now),.v (QP d now),.v (QO d now),.v (QN d now),.b false,.b false,.b false,.b false,.b false,.b false,.b true,.b false,.b true,.b true,.b true]) (obs:=_) hE Try.func100 Qp (by kernel_rfl) ho hr
theorem Qbw (f:Fair) (now:Cnt) (d:Dl) {E:Env} {res:AV} (hE:Qg Try.prog 100 res E) (ho:AllP [Xf Try.prog (.clos 173 [] []) [.agg (QK now)] [] (QR now) (QS now),5≤5,0=0,InR .i64 ((now.stk.length:Int) - 1),Qe Try.prog (.clos 101 [] []) (XE d now) (QQ d now),0=0,InR .i64 ((now.prs.length:Int) - 1),Qe Try.prog (.clos 101 [] []) (Xi d now) (QP d now),0=0,InR .i64 ((now.prs.length:Int) - 1),Qe Try.prog (.clos 101 [] []) (Xh d now) (QO d now),0=0,InR .i64 ((now.bxs.length:Int) - 1),Qe Try.prog (.clos 101 [] []) (Xg d now) (QN d now),(d.kind == 1)=false,(d.kind == 2)=false,(d.kind == 3)=false,(d.kind == 4)=false,(d.kind == 5)=false,(d.kind == 6)=false,(d.kind == 7)=true,(!(Qa d.a 0 ((now.prs.length:Int) - 1)))=false,(d.b != 0)=false,Qe Try.prog (.clos 101 [] []) [.int .i64 d.n,.int .i64 1,.int .i64 100000] (.bool (Qa d.n 1 100000)),(!(Qa d.n 1 100000))=true,true=true,5≤5])
 (hr:AvLe (.tup [.agg (QK now),.bool false]) res):G Try.prog E [.code (Qd Try.prog 100)] ⟨(XF f now d)++unds (Try.f100.ntmps - 3),[]⟩ :=
 Qc (n:=400) (evs:=[.lent [] (QR now) (QS now),.v (QQ d now),.v (QP d now),.v (QO d now),.v (QN d now),.b false,.b false,.b false,.b false,.b false,.b false,.b true,.b false,.b false,.v (.bool (Qa d.n 1 100000)),.b true,.b true]) (obs:=_) hE Try.func100 Qp (by kernel_rfl) ho hr
theorem Qbv (f:Fair) (now:Cnt) (d:Dl) (pe:Pur) {E:Env} {res:AV} (hE:Qg Try.prog 100 res E) (ho:AllP [Xf Try.prog (.clos 173 [] []) [.agg (QK now)] [] (QR now) (QS now),5≤5,0=0,InR .i64 ((now.stk.length:Int) - 1),Qe Try.prog (.clos 101 [] []) (XE d now) (QQ d now),0=0,InR .i64 ((now.prs.length:Int) - 1),Qe Try.prog (.clos 101 [] []) (Xi d now) (QP d now),0=0,InR .i64 ((now.prs.length:Int) - 1),Qe Try.prog (.clos 101 [] []) (Xh d now) (QO d now),0=0,InR .i64 ((now.bxs.length:Int) - 1),Qe Try.prog (.clos 101 [] []) (Xg d now) (QN d now),(d.kind == 1)=false,(d.kind == 2)=false,(d.kind == 3)=false,(d.kind == 4)=false,(d.kind == 5)=false,(d.kind == 6)=false,(d.kind == 7)=true,(!(Qa d.a 0 ((now.prs.length:Int) - 1)))=false,(d.b != 0)=false,Qe Try.prog (.clos 101 [] []) [.int .i64 d.n,.int .i64 1,.int .i64 100000] (.bool (Qa d.n 1 100000)),(!(Qa d.n 1 100000))=false,0≤d.a∧d.a<(now.prs.length:Int),0=0,0=0,0=0,((Qf now.prs).drop ((0+(Int.toNat d.a)*2)+0)).take 1=[.int .i64 pe.tokens],(decide (pe.tokens<d.n))=true,5≤5])
 (hr:AvLe (.tup [.agg (QK now),.bool false]) res):G Try.prog E [.code (Qd Try.prog 100)] ⟨(XF f now d)++unds (Try.f100.ntmps - 3),[]⟩ :=
 Qc (n:=400) (evs:=[.lent [] (QR now) (QS now),.v (QQ d now),.v (QP d now),.v (QO d now),.v (QN d now),.b false,.b false,.b false,.b false,.b false,.b false,.b true,.b false,.b false,.v (.bool (Qa d.n 1 100000)),.b false,.auto,.auto,.ld (.int .i64 pe.tokens),.b true]) (obs:=_) hE Try.func100 Qp (by kernel_rfl) ho hr
theorem Qbu (f:Fair) (now:Cnt) (d:Dl) (pe:Pur) {E:Env} {res:AV} (hE:Qg Try.prog 100 res E) (ho:AllP [Xf Try.prog (.clos 173 [] []) [.agg [.rsl (rowI now.stk) 0 now.stk.length,.rsl (rowI now.csh) 0 now.csh.length,.rsl (Qf now.prs) 0 now.prs.length,.rsl (rowI now.bxs) 0 now.bxs.length,.int .i64 now.lst]] [] (.agg [.sl 2 0 0 now.stk.length 1,.sl 3 0 0 now.csh.length 1,.sl 4 0 0 now.prs.length 2,.sl 5 0 0 now.bxs.length 1,.int .i64 now.lst]) [⟨true,0,1,true,[.rsl (rowI now.stk) 0 now.stk.length,.rsl (rowI now.csh) 0 now.csh.length,.rsl (Qf now.prs) 0 now.prs.length,.rsl (rowI now.bxs) 0 now.bxs.length,.int .i64 now.lst],false⟩,⟨true,0,1,false,[.sl 2 0 0 now.stk.length 1,.sl 3 0 0 now.csh.length 1,.sl 4 0 0 now.prs.length 2,.sl 5 0 0 now.bxs.length 1,.int .i64 now.lst],false⟩,⟨true,0,1,true,(rowI now.stk),true⟩,⟨true,0,1,true,(rowI now.csh),true⟩,⟨true,0,2,true,(Qf now.prs),true⟩,⟨true,0,1,true,(rowI now.bxs),true⟩],5≤5,0=0,InR .i64 ((now.stk.length:Int) - 1),Qe Try.prog (.clos 101 [] []) [.int .i64 d.a,.int .i64 0,.int .i64 ((now.stk.length:Int) - 1)] (.bool (Qa d.a 0 ((now.stk.length:Int) - 1))),0=0,InR .i64 ((now.prs.length:Int) - 1),Qe Try.prog (.clos 101 [] []) [.int .i64 d.a,.int .i64 0,.int .i64 ((now.prs.length:Int) - 1)] (.bool (Qa d.a 0 ((now.prs.length:Int) - 1))),0=0,InR .i64 ((now.prs.length:Int) - 1),Qe Try.prog (.clos 101 [] []) [.int .i64 d.b,.int .i64 0,.int .i64 ((now.prs.length:Int) - 1)] (.bool (Qa d.b 0 ((now.prs.length:Int) - 1))),0=0,InR .i64 ((now.bxs.length:Int) - 1),Qe Try.prog (.clos 101 [] []) [.int .i64 d.b,.int .i64 0,.int .i64 ((now.bxs.length:Int) - 1)] (.bool (Qa d.b 0 ((now.bxs.length:Int) - 1))),(d.kind == 1)=false,(d.kind == 2)=false,(d.kind == 3)=false,(d.kind == 4)=false,(d.kind == 5)=false,(d.kind == 6)=false,(d.kind == 7)=true,(!(Qa d.a 0 ((now.prs.length:Int) - 1)))=false,(d.b != 0)=false,Qe Try.prog (.clos 101 [] []) [.int .i64 d.n,.int .i64 1,.int .i64 100000] (.bool (Qa d.n 1 100000)),(!(Qa d.n 1 100000))=false,0≤d.a∧d.a<(now.prs.length:Int),0=0,0=0,0=0,((Qf now.prs).drop ((0+(Int.toNat d.a)*2)+0)).take 1=[.int .i64 pe.tokens],(decide (pe.tokens<d.n))=false,0≤d.a∧d.a<(now.prs.length:Int),0=0,0=0,0=0,((Qf now.prs).drop ((0+(Int.toNat d.a)*2)+0)).take 1=[.int .i64 pe.tokens],InR .i64 (pe.tokens - d.n),0≤d.a∧d.a<(now.prs.length:Int),0=0,0=0,(((0+(Int.toNat d.a)*2)+0)+1)≤(Qf now.prs).length,0=0,InR .i64 (now.lst+d.n),5≤5,5≤5,0=0,0=0,0=0,0=0])
 (hr:AvLe (.tup [.agg [.rsl (rowI now.stk) 0 now.stk.length,.rsl (rowI now.csh) 0 now.csh.length,.rsl (Qt (Qf now.prs) ((0+(Int.toNat d.a)*2)+0) [.int .i64 (pe.tokens - d.n)]) 0 now.prs.length,.rsl (rowI now.bxs) 0 now.bxs.length,.int .i64 (now.lst+d.n)],.bool true]) res):G Try.prog E [.code (Qd Try.prog 100)] ⟨[.agg [.int .i64 f.purses,.int .i64 f.boxes,.rsl (rowI f.stock) 0 f.stock.length,.rsl (rowI f.cash) 0 f.cash.length,.rsl (Qr f.bundles) 0 f.bundles.length,.int .i64 f.refund,.int .i64 f.band,.int .i64 f.hours],.agg [.rsl (rowI now.stk) 0 now.stk.length,.rsl (rowI now.csh) 0 now.csh.length,.rsl (Qf now.prs) 0 now.prs.length,.rsl (rowI now.bxs) 0 now.bxs.length,.int .i64 now.lst],.agg [.int .i64 d.at_,.int .i64 d.kind,.int .i64 d.a,.int .i64 d.b,.int .i64 d.n]]++unds (Try.f100.ntmps - 3),[]⟩ :=
 Qc (n:=400) (evs:=[.lent [] (.agg [.sl 2 0 0 now.stk.length 1,.sl 3 0 0 now.csh.length 1,.sl 4 0 0 now.prs.length 2,.sl 5 0 0 now.bxs.length 1,.int .i64 now.lst]) [⟨true,0,1,true,[.rsl (rowI now.stk) 0 now.stk.length,.rsl (rowI now.csh) 0 now.csh.length,.rsl (Qf now.prs) 0 now.prs.length,.rsl (rowI now.bxs) 0 now.bxs.length,.int .i64 now.lst],false⟩,⟨true,0,1,false,[.sl 2 0 0 now.stk.length 1,.sl 3 0 0 now.csh.length 1,.sl 4 0 0 now.prs.length 2,.sl 5 0 0 now.bxs.length 1,.int .i64 now.lst],false⟩,⟨true,0,1,true,(rowI now.stk),true⟩,⟨true,0,1,true,(rowI now.csh),true⟩,⟨true,0,2,true,(Qf now.prs),true⟩,⟨true,0,1,true,(rowI now.bxs),true⟩],.v (.bool (Qa d.a 0 ((now.stk.length:Int) - 1))),.v (.bool (Qa d.a 0 ((now.prs.length:Int) - 1))),.v (.bool (Qa d.b 0 ((now.prs.length:Int) - 1))),.v (.bool (Qa d.b 0 ((now.bxs.length:Int) - 1))),.b false,.b false,.b false,.b false,.b false,.b false,.b true,.b false,.b false,.v (.bool (Qa d.n 1 100000)),.b false,.auto,.auto,.ld (.int .i64 pe.tokens),.b false,.auto,.auto,.ld (.int .i64 pe.tokens)]) (obs:=_) hE Try.func100 Qp (by kernel_rfl) ho hr
theorem Qbt (f:Fair) (now:Cnt) (d:Dl) {E:Env} {res:AV} (hE:Qg Try.prog 100 res E) (ho:AllP [Xf Try.prog (.clos 173 [] []) [.agg (QK now)] [] (QR now) (QS now),5≤5,0=0,InR .i64 ((now.stk.length:Int) - 1),Qe Try.prog (.clos 101 [] []) (XE d now) (QQ d now),0=0,InR .i64 ((now.prs.length:Int) - 1),Qe Try.prog (.clos 101 [] []) (Xi d now) (QP d now),0=0,InR .i64 ((now.prs.length:Int) - 1),Qe Try.prog (.clos 101 [] []) (Xh d now) (QO d now),0=0,InR .i64 ((now.bxs.length:Int) - 1),Qe Try.prog (.clos 101 [] []) (Xg d now) (QN d now),(d.kind == 1)=false,(d.kind == 2)=false,(d.kind == 3)=false,(d.kind == 4)=false,(d.kind == 5)=false,(d.kind == 6)=false,(d.kind == 7)=false,5≤5])
 (hr:AvLe (.tup [.agg (QK now),.bool false]) res):G Try.prog E [.code (Qd Try.prog 100)] ⟨(XF f now d)++unds (Try.f100.ntmps - 3),[]⟩ :=
 Qc (n:=400) (evs:=[.lent [] (QR now) (QS now),.v (QQ d now),.v (QP d now),.v (QO d now),.v (QN d now),.b false,.b false,.b false,.b false,.b false,.b false,.b false]) (obs:=_) hE Try.func100 Qp (by kernel_rfl) ho hr
theorem f100W (f:Fair) (now:Cnt) (d:Dl) {E:Env} {rv:(Cnt × Bool)} (hE:Qg Try.prog 100 (.tup [.agg [.rsl (rowI rv.1.stk) 0 rv.1.stk.length,.rsl (rowI rv.1.csh) 0 rv.1.csh.length,.rsl (Qf rv.1.prs) 0 rv.1.prs.length,.rsl (rowI rv.1.bxs) 0 rv.1.bxs.length,.int .i64 rv.1.lst],.bool rv.2]) E)
 (h:((CopyIn now)∧((I6 ((now.stk.length:Int) - 1))∧((I6 ((now.prs.length:Int) - 1))∧((I6 ((now.prs.length:Int) - 1))∧((I6 ((now.bxs.length:Int) - 1))∧((d.kind=1→(((Qa d.a 0 ((now.stk.length:Int) - 1))=false→rv=(now,false))∧((Qa d.a 0 ((now.stk.length:Int) - 1))=true→(((Qa d.b 0 ((now.prs.length:Int) - 1))=false→rv=(now,false))∧((Qa d.b 0 ((now.prs.length:Int) - 1))=true→((I6 ((f.bundles.length:Int) - 1))∧(((Qa d.n 0 ((f.bundles.length:Int) - 1))=false→rv=(now,false))∧((Qa d.n 0 ((f.bundles.length:Int) - 1))=true→(0≤d.a∧(∃ e:Int,now.stk[Int.toNat d.a]?=some e∧(0≤d.n∧(∃ be:Bndl,f.bundles[Int.toNat d.n]?=some be∧((e<be.tokens→rv=(now,false))∧(¬ (e<be.tokens)→((I6 (e - be.tokens))∧(0≤d.b∧(∃ pe:Pur,now.prs[Int.toNat d.b]?=some pe∧((I6 (pe.tokens+be.tokens))∧(0≤d.a∧(∃ e1:Int,now.csh[Int.toNat d.a]?=some e1∧((I6 (e1+be.price))∧rv=((⟨(now.stk.set (Int.toNat d.a) (e - be.tokens)),(now.csh.set (Int.toNat d.a) (e1+be.price)),(now.prs.set (Int.toNat d.b) (⟨(pe.tokens+be.tokens),pe.till⟩:Pur)),now.bxs,now.lst⟩:Cnt),true))))))))))))))))))))))∧(¬ (d.kind=1)→((d.kind=2→(((Qa d.a 0 ((now.prs.length:Int) - 1))=false→rv=(now,false))∧((Qa d.a 0 ((now.prs.length:Int) - 1))=true→(((Qa d.b 0 ((now.bxs.length:Int) - 1))=false→rv=(now,false))∧((Qa d.b 0 ((now.bxs.length:Int) - 1))=true→(((Qa d.n 0 1000)=false→rv=(now,false))∧((Qa d.n 0 1000)=true→(0≤d.a∧(∃ pe:Pur,now.prs[Int.toNat d.a]?=some pe∧((d.at_<pe.till→rv=(now,true))∧(¬ (d.at_<pe.till)→((pe.tokens<d.n→rv=(now,false))∧(¬ (pe.tokens<d.n)→((I6 (pe.tokens - d.n))∧(0≤d.b∧(∃ e:Int,now.bxs[Int.toNat d.b]?=some e∧((I6 (e+d.n))∧rv=((⟨now.stk,now.csh,(now.prs.set (Int.toNat d.a) (⟨(pe.tokens - d.n),pe.till⟩:Pur)),(now.bxs.set (Int.toNat d.b) (e+d.n)),now.lst⟩:Cnt),true))))))))))))))))))∧(¬ (d.kind=2)→((d.kind=3→(((Qa d.a 0 ((now.stk.length:Int) - 1))=false→rv=(now,false))∧((Qa d.a 0 ((now.stk.length:Int) - 1))=true→(((Qa d.b 0 ((now.prs.length:Int) - 1))=false→rv=(now,false))∧((Qa d.b 0 ((now.prs.length:Int) - 1))=true→((¬ (d.n=0)→rv=(now,false))∧(d.n=0→(0≤d.a∧(∃ e:Int,now.csh[Int.toNat d.a]?=some e∧((I6 (e+f.band))∧(0≤d.b∧(∃ pe:Pur,now.prs[Int.toNat d.b]?=some pe∧rv=((⟨now.stk,(now.csh.set (Int.toNat d.a) (e+f.band)),(now.prs.set (Int.toNat d.b) (⟨pe.tokens,(iMax pe.till (IntKind.i64.wrap (d.at_+f.hours)))⟩:Pur)),now.bxs,now.lst⟩:Cnt),true)))))))))))))∧(¬ (d.kind=3)→((d.kind=4→(((Qa d.a 0 ((now.stk.length:Int) - 1))=false→rv=(now,false))∧((Qa d.a 0 ((now.stk.length:Int) - 1))=true→(((Qa d.b 0 ((now.prs.length:Int) - 1))=false→rv=(now,false))∧((Qa d.b 0 ((now.prs.length:Int) - 1))=true→(((Qa d.n 1 100000)=false→rv=(now,false))∧((Qa d.n 1 100000)=true→(0≤d.b∧(∃ pe:Pur,now.prs[Int.toNat d.b]?=some pe∧((pe.tokens<d.n→rv=(now,false))∧(¬ (pe.tokens<d.n)→(0≤d.a∧(∃ e:Int,now.csh[Int.toNat d.a]?=some e∧((I6 (d.n*f.refund))∧((e<(d.n*f.refund)→rv=(now,false))∧(¬ (e<(d.n*f.refund))→((I6 (pe.tokens - d.n))∧(0≤d.a∧(∃ e1:Int,now.stk[Int.toNat d.a]?=some e1∧((I6 (e1+d.n))∧((I6 (d.n*f.refund))∧((I6 (e - (d.n*f.refund)))∧rv=((⟨(now.stk.set (Int.toNat d.a) (e1+d.n)),(now.csh.set (Int.toNat d.a) (e - (d.n*f.refund))),(now.prs.set (Int.toNat d.b) (⟨(pe.tokens - d.n),pe.till⟩:Pur)),now.bxs,now.lst⟩:Cnt),true)))))))))))))))))))))))∧(¬ (d.kind=4)→((d.kind=5→(((Qa d.a 0 ((now.stk.length:Int) - 1))=false→rv=(now,false))∧((Qa d.a 0 ((now.stk.length:Int) - 1))=true→(((Qa d.b 0 ((now.bxs.length:Int) - 1))=false→rv=(now,false))∧((Qa d.b 0 ((now.bxs.length:Int) - 1))=true→((¬ (d.n=0)→rv=(now,false))∧(d.n=0→(0≤d.a∧(∃ e:Int,now.stk[Int.toNat d.a]?=some e∧(0≤d.b∧(∃ e1:Int,now.bxs[Int.toNat d.b]?=some e1∧((I6 (e+e1))∧rv=((⟨(now.stk.set (Int.toNat d.a) (e+e1)),now.csh,now.prs,(now.bxs.set (Int.toNat d.b) 0),now.lst⟩:Cnt),true)))))))))))))∧(¬ (d.kind=5)→((d.kind=6→(((Qa d.a 0 ((now.prs.length:Int) - 1))=false→rv=(now,false))∧((Qa d.a 0 ((now.prs.length:Int) - 1))=true→(((Qa d.b 0 ((now.prs.length:Int) - 1))=false→rv=(now,false))∧((Qa d.b 0 ((now.prs.length:Int) - 1))=true→((d.a=d.b→rv=(now,false))∧(¬ (d.a=d.b)→(((Qa d.n 1 100000)=false→rv=(now,false))∧((Qa d.n 1 100000)=true→(0≤d.a∧(∃ pe:Pur,now.prs[Int.toNat d.a]?=some pe∧((pe.tokens<d.n→rv=(now,false))∧(¬ (pe.tokens<d.n)→((I6 (pe.tokens - d.n))∧(0≤d.b∧(∃ pe1:Pur,(now.prs.set (Int.toNat d.a) (⟨(pe.tokens - d.n),pe.till⟩:Pur))[Int.toNat d.b]?=some pe1∧((I6 (pe1.tokens+d.n))∧rv=((⟨now.stk,now.csh,((now.prs.set (Int.toNat d.a) (⟨(pe.tokens - d.n),pe.till⟩:Pur)).set (Int.toNat d.b) (⟨(pe1.tokens+d.n),pe1.till⟩:Pur)),now.bxs,now.lst⟩:Cnt),true))))))))))))))))))∧(¬ (d.kind=6)→((d.kind=7→(((Qa d.a 0 ((now.prs.length:Int) - 1))=false→rv=(now,false))∧((Qa d.a 0 ((now.prs.length:Int) - 1))=true→((¬ (d.b=0)→rv=(now,false))∧(d.b=0→(((Qa d.n 1 100000)=false→rv=(now,false))∧((Qa d.n 1 100000)=true→(0≤d.a∧(∃ pe:Pur,now.prs[Int.toNat d.a]?=some pe∧((pe.tokens<d.n→rv=(now,false))∧(¬ (pe.tokens<d.n)→((I6 (pe.tokens - d.n))∧((I6 (now.lst+d.n))∧rv=((⟨now.stk,now.csh,(now.prs.set (Int.toNat d.a) (⟨(pe.tokens - d.n),pe.till⟩:Pur)),now.bxs,(now.lst+d.n)⟩:Cnt),true))))))))))))))∧(¬ (d.kind=7)→rv=(now,false))))))))))))))))))))):G Try.prog E [.code (Qd Try.prog 100)] ⟨[.agg [.int .i64 f.purses,.int .i64 f.boxes,.rsl (rowI f.stock) 0 f.stock.length,.rsl (rowI f.cash) 0 f.cash.length,.rsl (Qr f.bundles) 0 f.bundles.length,.int .i64 f.refund,.int .i64 f.band,.int .i64 f.hours],.agg [.rsl (rowI now.stk) 0 now.stk.length,.rsl (rowI now.csh) 0 now.csh.length,.rsl (Qf now.prs) 0 now.prs.length,.rsl (rowI now.bxs) 0 now.bxs.length,.int .i64 now.lst],.agg [.int .i64 d.at_,.int .i64 d.kind,.int .i64 d.a,.int .i64 d.b,.int .i64 d.n]]++unds (Try.f100.ntmps - 3),[]⟩:=by
 obtain ⟨h1,h⟩:=h
 obtain ⟨q3_0,h⟩:=h
 obtain ⟨q6_0,h⟩:=h
 obtain ⟨q9_0,h⟩:=h
 obtain ⟨q12_0,h⟩:=h
 rcases bft (d.kind == 1) with hc0 | hc0
 · have h:=h.1 (eq_of_beq hc0)
   rcases bft (!(Qa d.a 0 ((now.stk.length:Int) - 1))) with hc1 | hc1
   · have h:=h.1 (bnT hc1)
     exact p100_start_0 f now d hE ⟨(Qw Try.func173 (by kernel_rfl) XV (QY now h1)),(by decide),rfl,q3_0,(u101 (Qb d.a 0 ((now.stk.length:Int) - 1))),rfl,q6_0,(u101 (Qb d.a 0 ((now.prs.length:Int) - 1))),rfl,q9_0,(u101 (Qb d.b 0 ((now.prs.length:Int) - 1))),rfl,q12_0,(u101 (Qb d.b 0 ((now.bxs.length:Int) - 1))),hc0,hc1,rfl,rfl,rfl,(by decide),trivial⟩ (AvLe.of_eq (by rw [h]; try rfl))
   · have h:=h.2 (bnF hc1)
     rcases bft (!(Qa d.b 0 ((now.prs.length:Int) - 1))) with hc2 | hc2
     · have h:=h.1 (bnT hc2)
       exact p100_start_1 f now d hE ⟨(Qw Try.func173 (by kernel_rfl) XV (QY now h1)),(by decide),rfl,q3_0,(u101 (Qb d.a 0 ((now.stk.length:Int) - 1))),rfl,q6_0,(u101 (Qb d.a 0 ((now.prs.length:Int) - 1))),rfl,q9_0,(u101 (Qb d.b 0 ((now.prs.length:Int) - 1))),rfl,q12_0,(u101 (Qb d.b 0 ((now.bxs.length:Int) - 1))),hc0,hc1,hc2,rfl,rfl,(by decide),trivial⟩ (AvLe.of_eq (by rw [h]; try rfl))
     · have h:=h.2 (bnF hc2)
       obtain ⟨q17_3,h⟩:=h
       rcases bft (!(Qa d.n 0 ((f.bundles.length:Int) - 1))) with hc3 | hc3
       · have h:=h.1 (bnT hc3)
         exact p100_start_2 f now d hE ⟨(Qw Try.func173 (by kernel_rfl) XV (QY now h1)),(by decide),rfl,q3_0,(u101 (Qb d.a 0 ((now.stk.length:Int) - 1))),rfl,q6_0,(u101 (Qb d.a 0 ((now.prs.length:Int) - 1))),rfl,q9_0,(u101 (Qb d.b 0 ((now.prs.length:Int) - 1))),rfl,q12_0,(u101 (Qb d.b 0 ((now.bxs.length:Int) - 1))),hc0,hc1,hc2,q17_3,(u101 (Qb d.n 0 ((f.bundles.length:Int) - 1))),hc3,rfl,(by decide),trivial⟩ (AvLe.of_eq (by rw [h]; try rfl))
       · have h:=h.2 (bnF hc3)
         obtain ⟨h3,h⟩:=h
         obtain ⟨e,h2,h⟩:=h
         obtain ⟨h5,h⟩:=h
         obtain ⟨be,h4,h⟩:=h
         rcases bft (decide (e<be.tokens)) with hc4 | hc4
         · have h:=h.1 (odt hc4)
           exact p100_start_3 f now d e be hE ⟨(Qw Try.func173 (by kernel_rfl) XV (QY now h1)),(by decide),rfl,q3_0,(u101 (Qb d.a 0 ((now.stk.length:Int) - 1))),rfl,q6_0,(u101 (Qb d.a 0 ((now.prs.length:Int) - 1))),rfl,q9_0,(u101 (Qb d.b 0 ((now.prs.length:Int) - 1))),rfl,q12_0,(u101 (Qb d.b 0 ((now.bxs.length:Int) - 1))),hc0,hc1,hc2,q17_3,(u101 (Qb d.n 0 ((f.bundles.length:Int) - 1))),hc3,(Qn h3 h2),rfl,rfl,(rp cI 1 0 1 h2),(Qn h5 h4),(rp cBd 2 0 1 h4),hc4,(by decide),trivial⟩ (AvLe.of_eq (by rw [h]; try rfl))
         · have h:=h.2 (odf hc4)
           obtain ⟨q35_5,h⟩:=h
           obtain ⟨h7,h⟩:=h
           obtain ⟨pe,h6,h⟩:=h
           obtain ⟨q48_5,h⟩:=h
           obtain ⟨h9,h⟩:=h
           obtain ⟨e1,h8,h⟩:=h
           obtain ⟨q61_5,h⟩:=h
           exact p100_start_4 f now d e be pe e1 hE ⟨(Qw Try.func173 (by kernel_rfl) XV (QY now h1)),(by decide),rfl,q3_0,(u101 (Qb d.a 0 ((now.stk.length:Int) - 1))),rfl,q6_0,(u101 (Qb d.a 0 ((now.prs.length:Int) - 1))),rfl,q9_0,(u101 (Qb d.b 0 ((now.prs.length:Int) - 1))),rfl,q12_0,(u101 (Qb d.b 0 ((now.bxs.length:Int) - 1))),hc0,hc1,hc2,q17_3,(u101 (Qb d.n 0 ((f.bundles.length:Int) - 1))),hc3,(Qn h3 h2),rfl,rfl,(rp cI 1 0 1 h2),(Qn h5 h4),(rp cBd 2 0 1 h4),hc4,(Qn h3 h2),rfl,rfl,(rp cI 1 0 1 h2),(Qn h5 h4),(rp cBd 2 0 1 h4),q35_5,(Qn h3 h2),rfl,(rf cI 1 0 1 h2),rfl,(Qn h7 h6),rfl,rfl,rfl,(rp cPur 2 0 1 h6),(Qn h5 h4),(rp cBd 2 0 1 h4),q48_5,(Qn h7 h6),rfl,rfl,(rf cPur 2 0 1 h6),rfl,(Qn h9 h8),rfl,rfl,(rp cI 1 0 1 h8),(Qn h5 h4),(rp cBd 2 1 1 h4),q61_5,(Qn h9 h8),rfl,(rf cI 1 0 1 h8),rfl,(by decide),rfl,rfl,rfl,rfl,trivial⟩ (AvLe.of_eq (by rw [h]; rw [(show AV.rsl (Qt (rowI now.stk) (0+(Int.toNat d.a)*1) [.int .i64 (e - be.tokens)]) 0 now.stk.length=AV.rsl (rowI (now.stk.set (Int.toNat d.a) (e - be.tokens))) 0 (now.stk.set (Int.toNat d.a) (e - be.tokens)).length from by rw [(show Qt (rowI now.stk) (0+(Int.toNat d.a)*1) [.int .i64 (e - be.tokens)]=rowI (now.stk.set (Int.toNat d.a) (e - be.tokens)) from Qy cI (s:=1) (k:=0) (fun _=>rfl) h2 rfl (by first | decide | simp))]; rw [show now.stk.length=(now.stk.set (Int.toNat d.a) (e - be.tokens)).length from by simp])]; rw [(show AV.rsl (Qt (rowI now.csh) (0+(Int.toNat d.a)*1) [.int .i64 (e1+be.price)]) 0 now.csh.length=AV.rsl (rowI (now.csh.set (Int.toNat d.a) (e1+be.price))) 0 (now.csh.set (Int.toNat d.a) (e1+be.price)).length from by rw [(show Qt (rowI now.csh) (0+(Int.toNat d.a)*1) [.int .i64 (e1+be.price)]=rowI (now.csh.set (Int.toNat d.a) (e1+be.price)) from Qy cI (s:=1) (k:=0) (fun _=>rfl) h8 rfl (by first | decide | simp))]; rw [show now.csh.length=(now.csh.set (Int.toNat d.a) (e1+be.price)).length from by simp])]; rw [(show AV.rsl (Qt (Qf now.prs) ((0+(Int.toNat d.b)*2)+0) [.int .i64 (pe.tokens+be.tokens)]) 0 now.prs.length=AV.rsl (Qf (now.prs.set (Int.toNat d.b) (⟨(pe.tokens+be.tokens),pe.till⟩:Pur))) 0 (now.prs.set (Int.toNat d.b) (⟨(pe.tokens+be.tokens),pe.till⟩:Pur)).length from by rw [(show Qt (Qf now.prs) ((0+(Int.toNat d.b)*2)+0) [.int .i64 (pe.tokens+be.tokens)]=Qf (now.prs.set (Int.toNat d.b) (⟨(pe.tokens+be.tokens),pe.till⟩:Pur)) from Qy cPur (s:=2) (k:=0) (fun _=>rfl) h6 rfl (by first | decide | simp))]; rw [show now.prs.length=(now.prs.set (Int.toNat d.b) (⟨(pe.tokens+be.tokens),pe.till⟩:Pur)).length from by simp])]; try rfl))
 · have h:=h.2 (ne_of_beq_false hc0)
   rcases bft (d.kind == 2) with hc1 | hc1
   · have h:=h.1 (eq_of_beq hc1)
     rcases bft (!(Qa d.a 0 ((now.prs.length:Int) - 1))) with hc2 | hc2
     · have h:=h.1 (bnT hc2)
       exact p100_start_5 f now d hE ⟨(Qw Try.func173 (by kernel_rfl) XV (QY now h1)),(by decide),rfl,q3_0,(u101 (Qb d.a 0 ((now.stk.length:Int) - 1))),rfl,q6_0,(u101 (Qb d.a 0 ((now.prs.length:Int) - 1))),rfl,q9_0,(u101 (Qb d.b 0 ((now.prs.length:Int) - 1))),rfl,q12_0,(u101 (Qb d.b 0 ((now.bxs.length:Int) - 1))),hc0,hc1,hc2,rfl,rfl,(by decide),trivial⟩ (AvLe.of_eq (by rw [h]; try rfl))
     · have h:=h.2 (bnF hc2)
       rcases bft (!(Qa d.b 0 ((now.bxs.length:Int) - 1))) with hc3 | hc3
       · have h:=h.1 (bnT hc3)
         exact p100_start_6 f now d hE ⟨(Qw Try.func173 (by kernel_rfl) XV (QY now h1)),(by decide),rfl,q3_0,(u101 (Qb d.a 0 ((now.stk.length:Int) - 1))),rfl,q6_0,(u101 (Qb d.a 0 ((now.prs.length:Int) - 1))),rfl,q9_0,(u101 (Qb d.b 0 ((now.prs.length:Int) - 1))),rfl,q12_0,(u101 (Qb d.b 0 ((now.bxs.length:Int) - 1))),hc0,hc1,hc2,hc3,rfl,(by decide),trivial⟩ (AvLe.of_eq (by rw [h]; try rfl))
       · have h:=h.2 (bnF hc3)
         rcases bft (!(Qa d.n 0 1000)) with hc4 | hc4
         · have h:=h.1 (bnT hc4)
           exact p100_start_7 f now d hE ⟨(Qw Try.func173 (by kernel_rfl) XV (QY now h1)),(by decide),rfl,q3_0,(u101 (Qb d.a 0 ((now.stk.length:Int) - 1))),rfl,q6_0,(u101 (Qb d.a 0 ((now.prs.length:Int) - 1))),rfl,q9_0,(u101 (Qb d.b 0 ((now.prs.length:Int) - 1))),rfl,q12_0,(u101 (Qb d.b 0 ((now.bxs.length:Int) - 1))),hc0,hc1,hc2,hc3,(u101 (Qb d.n 0 1000)),hc4,(by decide),trivial⟩ (AvLe.of_eq (by rw [h]; try rfl))
         · have h:=h.2 (bnF hc4)
           obtain ⟨h3,h⟩:=h
           obtain ⟨pe,h2,h⟩:=h
           rcases bft (decide (d.at_<pe.till)) with hc5 | hc5
           · have h:=h.1 (odt hc5)
             exact p100_start_8 f now d pe hE ⟨(Qw Try.func173 (by kernel_rfl) XV (QY now h1)),(by decide),rfl,q3_0,(u101 (Qb d.a 0 ((now.stk.length:Int) - 1))),rfl,q6_0,(u101 (Qb d.a 0 ((now.prs.length:Int) - 1))),rfl,q9_0,(u101 (Qb d.b 0 ((now.prs.length:Int) - 1))),rfl,q12_0,(u101 (Qb d.b 0 ((now.bxs.length:Int) - 1))),hc0,hc1,hc2,hc3,(u101 (Qb d.n 0 1000)),hc4,(Qn h3 h2),rfl,rfl,rfl,(rp cPur 2 1 1 h2),hc5,(by decide),rfl,rfl,rfl,rfl,trivial⟩ (AvLe.of_eq (by rw [h]; try rfl))
           · have h:=h.2 (odf hc5)
             rcases bft (decide (pe.tokens<d.n)) with hc6 | hc6
             · have h:=h.1 (odt hc6)
               exact p100_start_9 f now d pe hE ⟨(Qw Try.func173 (by kernel_rfl) XV (QY now h1)),(by decide),rfl,q3_0,(u101 (Qb d.a 0 ((now.stk.length:Int) - 1))),rfl,q6_0,(u101 (Qb d.a 0 ((now.prs.length:Int) - 1))),rfl,q9_0,(u101 (Qb d.b 0 ((now.prs.length:Int) - 1))),rfl,q12_0,(u101 (Qb d.b 0 ((now.bxs.length:Int) - 1))),hc0,hc1,hc2,hc3,(u101 (Qb d.n 0 1000)),hc4,(Qn h3 h2),rfl,rfl,rfl,(rp cPur 2 1 1 h2),hc5,(Qn h3 h2),rfl,rfl,rfl,(rp cPur 2 0 1 h2),hc6,(by decide),trivial⟩ (AvLe.of_eq (by rw [h]; try rfl))
             · have h:=h.2 (odf hc6)
               obtain ⟨q38_7,h⟩:=h
               obtain ⟨h5,h⟩:=h
               obtain ⟨e,h4,h⟩:=h
               obtain ⟨q49_7,h⟩:=h
               exact QbT f now d pe e hE ⟨(Qw Try.func173 (by kernel_rfl) XV (QY now h1)),(by decide),rfl,q3_0,(u101 (Qb d.a 0 ((now.stk.length:Int) - 1))),rfl,q6_0,(u101 (Qb d.a 0 ((now.prs.length:Int) - 1))),rfl,q9_0,(u101 (Qb d.b 0 ((now.prs.length:Int) - 1))),rfl,q12_0,(u101 (Qb d.b 0 ((now.bxs.length:Int) - 1))),hc0,hc1,hc2,hc3,(u101 (Qb d.n 0 1000)),hc4,(Qn h3 h2),rfl,rfl,rfl,(rp cPur 2 1 1 h2),hc5,(Qn h3 h2),rfl,rfl,rfl,(rp cPur 2 0 1 h2),hc6,(Qn h3 h2),rfl,rfl,rfl,(rp cPur 2 0 1 h2),q38_7,(Qn h3 h2),rfl,rfl,(rf cPur 2 0 1 h2),rfl,(Qn h5 h4),rfl,rfl,(rp cI 1 0 1 h4),q49_7,(Qn h5 h4),rfl,(rf cI 1 0 1 h4),rfl,(by decide),rfl,rfl,rfl,rfl,trivial⟩ (AvLe.of_eq (by rw [h]; rw [(show AV.rsl (Qt (Qf now.prs) ((0+(Int.toNat d.a)*2)+0) [.int .i64 (pe.tokens - d.n)]) 0 now.prs.length=AV.rsl (Qf (now.prs.set (Int.toNat d.a) (⟨(pe.tokens - d.n),pe.till⟩:Pur))) 0 (now.prs.set (Int.toNat d.a) (⟨(pe.tokens - d.n),pe.till⟩:Pur)).length from by rw [(show Qt (Qf now.prs) ((0+(Int.toNat d.a)*2)+0) [.int .i64 (pe.tokens - d.n)]=Qf (now.prs.set (Int.toNat d.a) (⟨(pe.tokens - d.n),pe.till⟩:Pur)) from Qy cPur (s:=2) (k:=0) (fun _=>rfl) h2 rfl (by first | decide | simp))]; rw [show now.prs.length=(now.prs.set (Int.toNat d.a) (⟨(pe.tokens - d.n),pe.till⟩:Pur)).length from by simp])]; rw [(show AV.rsl (Qt (rowI now.bxs) (0+(Int.toNat d.b)*1) [.int .i64 (e+d.n)]) 0 now.bxs.length=AV.rsl (rowI (now.bxs.set (Int.toNat d.b) (e+d.n))) 0 (now.bxs.set (Int.toNat d.b) (e+d.n)).length from by rw [(show Qt (rowI now.bxs) (0+(Int.toNat d.b)*1) [.int .i64 (e+d.n)]=rowI (now.bxs.set (Int.toNat d.b) (e+d.n)) from Qy cI (s:=1) (k:=0) (fun _=>rfl) h4 rfl (by first | decide | simp))]; rw [show now.bxs.length=(now.bxs.set (Int.toNat d.b) (e+d.n)).length from by simp])]; try rfl))
   · have h:=h.2 (ne_of_beq_false hc1)
     rcases bft (d.kind == 3) with hc2 | hc2
     · have h:=h.1 (eq_of_beq hc2)
       rcases bft (!(Qa d.a 0 ((now.stk.length:Int) - 1))) with hc3 | hc3
       · have h:=h.1 (bnT hc3)
         exact QbS f now d hE ⟨(Qw Try.func173 (by kernel_rfl) XV (QY now h1)),(by decide),rfl,q3_0,(u101 (Qb d.a 0 ((now.stk.length:Int) - 1))),rfl,q6_0,(u101 (Qb d.a 0 ((now.prs.length:Int) - 1))),rfl,q9_0,(u101 (Qb d.b 0 ((now.prs.length:Int) - 1))),rfl,q12_0,(u101 (Qb d.b 0 ((now.bxs.length:Int) - 1))),hc0,hc1,hc2,hc3,rfl,rfl,(by decide),trivial⟩ (AvLe.of_eq (by rw [h]; try rfl))
       · have h:=h.2 (bnF hc3)
         rcases bft (!(Qa d.b 0 ((now.prs.length:Int) - 1))) with hc4 | hc4
         · have h:=h.1 (bnT hc4)
           exact QbR f now d hE ⟨(Qw Try.func173 (by kernel_rfl) XV (QY now h1)),(by decide),rfl,q3_0,(u101 (Qb d.a 0 ((now.stk.length:Int) - 1))),rfl,q6_0,(u101 (Qb d.a 0 ((now.prs.length:Int) - 1))),rfl,q9_0,(u101 (Qb d.b 0 ((now.prs.length:Int) - 1))),rfl,q12_0,(u101 (Qb d.b 0 ((now.bxs.length:Int) - 1))),hc0,hc1,hc2,hc3,hc4,rfl,(by decide),trivial⟩ (AvLe.of_eq (by rw [h]; try rfl))
         · have h:=h.2 (bnF hc4)
           rcases bft (d.n != 0) with hc5 | hc5
           · have h:=h.1 (bneT hc5)
             exact QbQ f now d hE ⟨(Qw Try.func173 (by kernel_rfl) XV (QY now h1)),(by decide),rfl,q3_0,(u101 (Qb d.a 0 ((now.stk.length:Int) - 1))),rfl,q6_0,(u101 (Qb d.a 0 ((now.prs.length:Int) - 1))),rfl,q9_0,(u101 (Qb d.b 0 ((now.prs.length:Int) - 1))),rfl,q12_0,(u101 (Qb d.b 0 ((now.bxs.length:Int) - 1))),hc0,hc1,hc2,hc3,hc4,hc5,(by decide),trivial⟩ (AvLe.of_eq (by rw [h]; try rfl))
           · have h:=h.2 (bneF hc5)
             obtain ⟨h3,h⟩:=h
             obtain ⟨e,h2,h⟩:=h
             obtain ⟨q25_6,h⟩:=h
             obtain ⟨h5,h⟩:=h
             obtain ⟨pe,h4,h⟩:=h
             exact QbP f now d e pe hE ⟨(Qw Try.func173 (by kernel_rfl) XV (QY now h1)),(by decide),rfl,q3_0,(u101 (Qb d.a 0 ((now.stk.length:Int) - 1))),rfl,q6_0,(u101 (Qb d.a 0 ((now.prs.length:Int) - 1))),rfl,q9_0,(u101 (Qb d.b 0 ((now.prs.length:Int) - 1))),rfl,q12_0,(u101 (Qb d.b 0 ((now.bxs.length:Int) - 1))),hc0,hc1,hc2,hc3,hc4,hc5,(Qn h3 h2),rfl,rfl,(rp cI 1 0 1 h2),q25_6,(Qn h3 h2),rfl,(rf cI 1 0 1 h2),rfl,(Qn h5 h4),rfl,rfl,rfl,(rp cPur 2 1 1 h4),(Qn h5 h4),rfl,rfl,(rf cPur 2 1 1 h4),rfl,(by decide),rfl,rfl,rfl,rfl,trivial⟩ (AvLe.of_eq (by rw [h]; rw [(show AV.rsl (Qt (rowI now.csh) (0+(Int.toNat d.a)*1) [.int .i64 (e+f.band)]) 0 now.csh.length=AV.rsl (rowI (now.csh.set (Int.toNat d.a) (e+f.band))) 0 (now.csh.set (Int.toNat d.a) (e+f.band)).length from by rw [(show Qt (rowI now.csh) (0+(Int.toNat d.a)*1) [.int .i64 (e+f.band)]=rowI (now.csh.set (Int.toNat d.a) (e+f.band)) from Qy cI (s:=1) (k:=0) (fun _=>rfl) h2 rfl (by first | decide | simp))]; rw [show now.csh.length=(now.csh.set (Int.toNat d.a) (e+f.band)).length from by simp])]; rw [(show AV.rsl (Qt (Qf now.prs) ((0+(Int.toNat d.b)*2)+1) [.int .i64 (iMax pe.till (IntKind.i64.wrap (d.at_+f.hours)))]) 0 now.prs.length=AV.rsl (Qf (now.prs.set (Int.toNat d.b) (⟨pe.tokens,(iMax pe.till (IntKind.i64.wrap (d.at_+f.hours)))⟩:Pur))) 0 (now.prs.set (Int.toNat d.b) (⟨pe.tokens,(iMax pe.till (IntKind.i64.wrap (d.at_+f.hours)))⟩:Pur)).length from by rw [(show Qt (Qf now.prs) ((0+(Int.toNat d.b)*2)+1) [.int .i64 (iMax pe.till (IntKind.i64.wrap (d.at_+f.hours)))]=Qf (now.prs.set (Int.toNat d.b) (⟨pe.tokens,(iMax pe.till (IntKind.i64.wrap (d.at_+f.hours)))⟩:Pur)) from Qy cPur (s:=2) (k:=1) (fun _=>rfl) h4 rfl (by first | decide | simp))]; rw [show now.prs.length=(now.prs.set (Int.toNat d.b) (⟨pe.tokens,(iMax pe.till (IntKind.i64.wrap (d.at_+f.hours)))⟩:Pur)).length from by simp])]; try rfl))
     · have h:=h.2 (ne_of_beq_false hc2)
       rcases bft (d.kind == 4) with hc3 | hc3
       · have h:=h.1 (eq_of_beq hc3)
         rcases bft (!(Qa d.a 0 ((now.stk.length:Int) - 1))) with hc4 | hc4
         · have h:=h.1 (bnT hc4)
           exact QbO f now d hE ⟨(Qw Try.func173 (by kernel_rfl) XV (QY now h1)),(by decide),rfl,q3_0,(u101 (Qb d.a 0 ((now.stk.length:Int) - 1))),rfl,q6_0,(u101 (Qb d.a 0 ((now.prs.length:Int) - 1))),rfl,q9_0,(u101 (Qb d.b 0 ((now.prs.length:Int) - 1))),rfl,q12_0,(u101 (Qb d.b 0 ((now.bxs.length:Int) - 1))),hc0,hc1,hc2,hc3,hc4,rfl,rfl,rfl,rfl,(by decide),trivial⟩ (AvLe.of_eq (by rw [h]; try rfl))
         · have h:=h.2 (bnF hc4)
           rcases bft (!(Qa d.b 0 ((now.prs.length:Int) - 1))) with hc5 | hc5
           · have h:=h.1 (bnT hc5)
             exact QbN f now d hE ⟨(Qw Try.func173 (by kernel_rfl) XV (QY now h1)),(by decide),rfl,q3_0,(u101 (Qb d.a 0 ((now.stk.length:Int) - 1))),rfl,q6_0,(u101 (Qb d.a 0 ((now.prs.length:Int) - 1))),rfl,q9_0,(u101 (Qb d.b 0 ((now.prs.length:Int) - 1))),rfl,q12_0,(u101 (Qb d.b 0 ((now.bxs.length:Int) - 1))),hc0,hc1,hc2,hc3,hc4,hc5,rfl,rfl,rfl,(by decide),trivial⟩ (AvLe.of_eq (by rw [h]; try rfl))
           · have h:=h.2 (bnF hc5)
             rcases bft (!(Qa d.n 1 100000)) with hc6 | hc6
             · have h:=h.1 (bnT hc6)
               exact QbM f now d hE ⟨(Qw Try.func173 (by kernel_rfl) XV (QY now h1)),(by decide),rfl,q3_0,(u101 (Qb d.a 0 ((now.stk.length:Int) - 1))),rfl,q6_0,(u101 (Qb d.a 0 ((now.prs.length:Int) - 1))),rfl,q9_0,(u101 (Qb d.b 0 ((now.prs.length:Int) - 1))),rfl,q12_0,(u101 (Qb d.b 0 ((now.bxs.length:Int) - 1))),hc0,hc1,hc2,hc3,hc4,hc5,(u101 (Qb d.n 1 100000)),hc6,rfl,rfl,(by decide),trivial⟩ (AvLe.of_eq (by rw [h]; try rfl))
             · have h:=h.2 (bnF hc6)
               obtain ⟨h3,h⟩:=h
               obtain ⟨pe,h2,h⟩:=h
               rcases bft (decide (pe.tokens<d.n)) with hc7 | hc7
               · have h:=h.1 (odt hc7)
                 exact QbL f now d pe hE ⟨(Qw Try.func173 (by kernel_rfl) XV (QY now h1)),(by decide),rfl,q3_0,(u101 (Qb d.a 0 ((now.stk.length:Int) - 1))),rfl,q6_0,(u101 (Qb d.a 0 ((now.prs.length:Int) - 1))),rfl,q9_0,(u101 (Qb d.b 0 ((now.prs.length:Int) - 1))),rfl,q12_0,(u101 (Qb d.b 0 ((now.bxs.length:Int) - 1))),hc0,hc1,hc2,hc3,hc4,hc5,(u101 (Qb d.n 1 100000)),hc6,(Qn h3 h2),rfl,rfl,rfl,(rp cPur 2 0 1 h2),hc7,rfl,(by decide),trivial⟩ (AvLe.of_eq (by rw [h]; try rfl))
               · have h:=h.2 (odf hc7)
                 obtain ⟨h5,h⟩:=h
                 obtain ⟨e,h4,h⟩:=h
                 obtain ⟨q34_8,h⟩:=h
                 rcases bft (decide (e<(d.n*f.refund))) with hc8 | hc8
                 · have h:=h.1 (odt hc8)
                   exact QbK f now d pe e hE ⟨(Qw Try.func173 (by kernel_rfl) XV (QY now h1)),(by decide),rfl,q3_0,(u101 (Qb d.a 0 ((now.stk.length:Int) - 1))),rfl,q6_0,(u101 (Qb d.a 0 ((now.prs.length:Int) - 1))),rfl,q9_0,(u101 (Qb d.b 0 ((now.prs.length:Int) - 1))),rfl,q12_0,(u101 (Qb d.b 0 ((now.bxs.length:Int) - 1))),hc0,hc1,hc2,hc3,hc4,hc5,(u101 (Qb d.n 1 100000)),hc6,(Qn h3 h2),rfl,rfl,rfl,(rp cPur 2 0 1 h2),hc7,(Qn h5 h4),rfl,rfl,(rp cI 1 0 1 h4),q34_8,hc8,(by decide),trivial⟩ (AvLe.of_eq (by rw [h]; try rfl))
                 · have h:=h.2 (odf hc8)
                   obtain ⟨q41_9,h⟩:=h
                   obtain ⟨h7,h⟩:=h
                   obtain ⟨e1,h6,h⟩:=h
                   obtain ⟨q52_9,h⟩:=h
                   obtain ⟨q61_9,h⟩:=h
                   obtain ⟨q62_9,h⟩:=h
                   exact QbJ f now d pe e e1 hE ⟨(Qw Try.func173 (by kernel_rfl) XV (QY now h1)),(by decide),rfl,q3_0,(u101 (Qb d.a 0 ((now.stk.length:Int) - 1))),rfl,q6_0,(u101 (Qb d.a 0 ((now.prs.length:Int) - 1))),rfl,q9_0,(u101 (Qb d.b 0 ((now.prs.length:Int) - 1))),rfl,q12_0,(u101 (Qb d.b 0 ((now.bxs.length:Int) - 1))),hc0,hc1,hc2,hc3,hc4,hc5,(u101 (Qb d.n 1 100000)),hc6,(Qn h3 h2),rfl,rfl,rfl,(rp cPur 2 0 1 h2),hc7,(Qn h5 h4),rfl,rfl,(rp cI 1 0 1 h4),q34_8,hc8,(Qn h3 h2),rfl,rfl,rfl,(rp cPur 2 0 1 h2),q41_9,(Qn h3 h2),rfl,rfl,(rf cPur 2 0 1 h2),rfl,(Qn h7 h6),rfl,rfl,(rp cI 1 0 1 h6),q52_9,(Qn h7 h6),rfl,(rf cI 1 0 1 h6),rfl,(Qn h5 h4),rfl,rfl,(rp cI 1 0 1 h4),q61_9,q62_9,(Qn h5 h4),rfl,(rf cI 1 0 1 h4),rfl,(by decide),rfl,rfl,rfl,rfl,trivial⟩ (AvLe.of_eq (by rw [h]; rw [(show AV.rsl (Qt (rowI now.stk) (0+(Int.toNat d.a)*1) [.int .i64 (e1+d.n)]) 0 now.stk.length=AV.rsl (rowI (now.stk.set (Int.toNat d.a) (e1+d.n))) 0 (now.stk.set (Int.toNat d.a) (e1+d.n)).length from by rw [(show Qt (rowI now.stk) (0+(Int.toNat d.a)*1) [.int .i64 (e1+d.n)]=rowI (now.stk.set (Int.toNat d.a) (e1+d.n)) from Qy cI (s:=1) (k:=0) (fun _=>rfl) h6 rfl (by first | decide | simp))]; rw [show now.stk.length=(now.stk.set (Int.toNat d.a) (e1+d.n)).length from by simp])]; rw [(show AV.rsl (Qt (rowI now.csh) (0+(Int.toNat d.a)*1) [.int .i64 (e - (d.n*f.refund))]) 0 now.csh.length=AV.rsl (rowI (now.csh.set (Int.toNat d.a) (e - (d.n*f.refund)))) 0 (now.csh.set (Int.toNat d.a) (e - (d.n*f.refund))).length from by rw [(show Qt (rowI now.csh) (0+(Int.toNat d.a)*1) [.int .i64 (e - (d.n*f.refund))]=rowI (now.csh.set (Int.toNat d.a) (e - (d.n*f.refund))) from Qy cI (s:=1) (k:=0) (fun _=>rfl) h4 rfl (by first | decide | simp))]; rw [show now.csh.length=(now.csh.set (Int.toNat d.a) (e - (d.n*f.refund))).length from by simp])]; rw [(show AV.rsl (Qt (Qf now.prs) ((0+(Int.toNat d.b)*2)+0) [.int .i64 (pe.tokens - d.n)]) 0 now.prs.length=AV.rsl (Qf (now.prs.set (Int.toNat d.b) (⟨(pe.tokens - d.n),pe.till⟩:Pur))) 0 (now.prs.set (Int.toNat d.b) (⟨(pe.tokens - d.n),pe.till⟩:Pur)).length from by rw [(show Qt (Qf now.prs) ((0+(Int.toNat d.b)*2)+0) [.int .i64 (pe.tokens - d.n)]=Qf (now.prs.set (Int.toNat d.b) (⟨(pe.tokens - d.n),pe.till⟩:Pur)) from Qy cPur (s:=2) (k:=0) (fun _=>rfl) h2 rfl (by first | decide | simp))]; rw [show now.prs.length=(now.prs.set (Int.toNat d.b) (⟨(pe.tokens - d.n),pe.till⟩:Pur)).length from by simp])]; try rfl))
       · have h:=h.2 (ne_of_beq_false hc3)
         rcases bft (d.kind == 5) with hc4 | hc4
         · have h:=h.1 (eq_of_beq hc4)
           rcases bft (!(Qa d.a 0 ((now.stk.length:Int) - 1))) with hc5 | hc5
           · have h:=h.1 (bnT hc5)
             exact QbI f now d hE ⟨(Qw Try.func173 (by kernel_rfl) XV (QY now h1)),(by decide),rfl,q3_0,(u101 (Qb d.a 0 ((now.stk.length:Int) - 1))),rfl,q6_0,(u101 (Qb d.a 0 ((now.prs.length:Int) - 1))),rfl,q9_0,(u101 (Qb d.b 0 ((now.prs.length:Int) - 1))),rfl,q12_0,(u101 (Qb d.b 0 ((now.bxs.length:Int) - 1))),hc0,hc1,hc2,hc3,hc4,hc5,rfl,rfl,(by decide),trivial⟩ (AvLe.of_eq (by rw [h]; try rfl))
           · have h:=h.2 (bnF hc5)
             rcases bft (!(Qa d.b 0 ((now.bxs.length:Int) - 1))) with hc6 | hc6
             · have h:=h.1 (bnT hc6)
               exact QbH f now d hE ⟨(Qw Try.func173 (by kernel_rfl) XV (QY now h1)),(by decide),rfl,q3_0,(u101 (Qb d.a 0 ((now.stk.length:Int) - 1))),rfl,q6_0,(u101 (Qb d.a 0 ((now.prs.length:Int) - 1))),rfl,q9_0,(u101 (Qb d.b 0 ((now.prs.length:Int) - 1))),rfl,q12_0,(u101 (Qb d.b 0 ((now.bxs.length:Int) - 1))),hc0,hc1,hc2,hc3,hc4,hc5,hc6,rfl,(by decide),trivial⟩ (AvLe.of_eq (by rw [h]; try rfl))
             · have h:=h.2 (bnF hc6)
               rcases bft (d.n != 0) with hc7 | hc7
               · have h:=h.1 (bneT hc7)
                 exact QbG f now d hE ⟨(Qw Try.func173 (by kernel_rfl) XV (QY now h1)),(by decide),rfl,q3_0,(u101 (Qb d.a 0 ((now.stk.length:Int) - 1))),rfl,q6_0,(u101 (Qb d.a 0 ((now.prs.length:Int) - 1))),rfl,q9_0,(u101 (Qb d.b 0 ((now.prs.length:Int) - 1))),rfl,q12_0,(u101 (Qb d.b 0 ((now.bxs.length:Int) - 1))),hc0,hc1,hc2,hc3,hc4,hc5,hc6,hc7,(by decide),trivial⟩ (AvLe.of_eq (by rw [h]; try rfl))
               · have h:=h.2 (bneF hc7)
                 obtain ⟨h3,h⟩:=h
                 obtain ⟨e,h2,h⟩:=h
                 obtain ⟨h5,h⟩:=h
                 obtain ⟨e1,h4,h⟩:=h
                 obtain ⟨q32_8,h⟩:=h
                 exact QbF f now d e e1 hE ⟨(Qw Try.func173 (by kernel_rfl) XV (QY now h1)),(by decide),rfl,q3_0,(u101 (Qb d.a 0 ((now.stk.length:Int) - 1))),rfl,q6_0,(u101 (Qb d.a 0 ((now.prs.length:Int) - 1))),rfl,q9_0,(u101 (Qb d.b 0 ((now.prs.length:Int) - 1))),rfl,q12_0,(u101 (Qb d.b 0 ((now.bxs.length:Int) - 1))),hc0,hc1,hc2,hc3,hc4,hc5,hc6,hc7,(Qn h3 h2),rfl,rfl,(rp cI 1 0 1 h2),(Qn h5 h4),rfl,rfl,(rp cI 1 0 1 h4),q32_8,(Qn h3 h2),rfl,(rf cI 1 0 1 h2),rfl,(Qn h5 h4),rfl,(rf cI 1 0 1 h4),rfl,(by decide),rfl,rfl,rfl,rfl,trivial⟩ (AvLe.of_eq (by rw [h]; rw [(show AV.rsl (Qt (rowI now.stk) (0+(Int.toNat d.a)*1) [.int .i64 (e+e1)]) 0 now.stk.length=AV.rsl (rowI (now.stk.set (Int.toNat d.a) (e+e1))) 0 (now.stk.set (Int.toNat d.a) (e+e1)).length from by rw [(show Qt (rowI now.stk) (0+(Int.toNat d.a)*1) [.int .i64 (e+e1)]=rowI (now.stk.set (Int.toNat d.a) (e+e1)) from Qy cI (s:=1) (k:=0) (fun _=>rfl) h2 rfl (by first | decide | simp))]; rw [show now.stk.length=(now.stk.set (Int.toNat d.a) (e+e1)).length from by simp])]; rw [(show AV.rsl (Qt (rowI now.bxs) (0+(Int.toNat d.b)*1) [.int .i64 0]) 0 now.bxs.length=AV.rsl (rowI (now.bxs.set (Int.toNat d.b) 0)) 0 (now.bxs.set (Int.toNat d.b) 0).length from by rw [(show Qt (rowI now.bxs) (0+(Int.toNat d.b)*1) [.int .i64 0]=rowI (now.bxs.set (Int.toNat d.b) 0) from Qy cI (s:=1) (k:=0) (fun _=>rfl) h4 rfl (by first | decide | simp))]; rw [show now.bxs.length=(now.bxs.set (Int.toNat d.b) 0).length from by simp])]; try rfl))
         · have h:=h.2 (ne_of_beq_false hc4)
           rcases bft (d.kind == 6) with hc5 | hc5
           · have h:=h.1 (eq_of_beq hc5)
             rcases bft (!(Qa d.a 0 ((now.prs.length:Int) - 1))) with hc6 | hc6
             · have h:=h.1 (bnT hc6)
               exact QbE f now d hE ⟨(Qw Try.func173 (by kernel_rfl) XV (QY now h1)),(by decide),rfl,q3_0,(u101 (Qb d.a 0 ((now.stk.length:Int) - 1))),rfl,q6_0,(u101 (Qb d.a 0 ((now.prs.length:Int) - 1))),rfl,q9_0,(u101 (Qb d.b 0 ((now.prs.length:Int) - 1))),rfl,q12_0,(u101 (Qb d.b 0 ((now.bxs.length:Int) - 1))),hc0,hc1,hc2,hc3,hc4,hc5,hc6,rfl,rfl,rfl,rfl,(by decide),trivial⟩ (AvLe.of_eq (by rw [h]; try rfl))
             · have h:=h.2 (bnF hc6)
               rcases bft (!(Qa d.b 0 ((now.prs.length:Int) - 1))) with hc7 | hc7
               · have h:=h.1 (bnT hc7)
                 exact QbD f now d hE ⟨(Qw Try.func173 (by kernel_rfl) XV (QY now h1)),(by decide),rfl,q3_0,(u101 (Qb d.a 0 ((now.stk.length:Int) - 1))),rfl,q6_0,(u101 (Qb d.a 0 ((now.prs.length:Int) - 1))),rfl,q9_0,(u101 (Qb d.b 0 ((now.prs.length:Int) - 1))),rfl,q12_0,(u101 (Qb d.b 0 ((now.bxs.length:Int) - 1))),hc0,hc1,hc2,hc3,hc4,hc5,hc6,hc7,rfl,rfl,rfl,(by decide),trivial⟩ (AvLe.of_eq (by rw [h]; try rfl))
               · have h:=h.2 (bnF hc7)
                 rcases bft (d.a == d.b) with hc8 | hc8
                 · have h:=h.1 (eq_of_beq hc8)
                   exact QbC f now d hE ⟨(Qw Try.func173 (by kernel_rfl) XV (QY now h1)),(by decide),rfl,q3_0,(u101 (Qb d.a 0 ((now.stk.length:Int) - 1))),rfl,q6_0,(u101 (Qb d.a 0 ((now.prs.length:Int) - 1))),rfl,q9_0,(u101 (Qb d.b 0 ((now.prs.length:Int) - 1))),rfl,q12_0,(u101 (Qb d.b 0 ((now.bxs.length:Int) - 1))),hc0,hc1,hc2,hc3,hc4,hc5,hc6,hc7,hc8,rfl,rfl,(by decide),trivial⟩ (AvLe.of_eq (by rw [h]; try rfl))
                 · have h:=h.2 (ne_of_beq_false hc8)
                   rcases bft (!(Qa d.n 1 100000)) with hc9 | hc9
                   · have h:=h.1 (bnT hc9)
                     exact QbB f now d hE ⟨(Qw Try.func173 (by kernel_rfl) XV (QY now h1)),(by decide),rfl,q3_0,(u101 (Qb d.a 0 ((now.stk.length:Int) - 1))),rfl,q6_0,(u101 (Qb d.a 0 ((now.prs.length:Int) - 1))),rfl,q9_0,(u101 (Qb d.b 0 ((now.prs.length:Int) - 1))),rfl,q12_0,(u101 (Qb d.b 0 ((now.bxs.length:Int) - 1))),hc0,hc1,hc2,hc3,hc4,hc5,hc6,hc7,hc8,(u101 (Qb d.n 1 100000)),hc9,rfl,(by decide),trivial⟩ (AvLe.of_eq (by rw [h]; try rfl))
                   · have h:=h.2 (bnF hc9)
                     obtain ⟨h3,h⟩:=h
                     obtain ⟨pe,h2,h⟩:=h
                     rcases bft (decide (pe.tokens<d.n)) with hc10 | hc10
                     · have h:=h.1 (odt hc10)
                       exact QbA f now d pe hE ⟨(Qw Try.func173 (by kernel_rfl) XV (QY now h1)),(by decide),rfl,q3_0,(u101 (Qb d.a 0 ((now.stk.length:Int) - 1))),rfl,q6_0,(u101 (Qb d.a 0 ((now.prs.length:Int) - 1))),rfl,q9_0,(u101 (Qb d.b 0 ((now.prs.length:Int) - 1))),rfl,q12_0,(u101 (Qb d.b 0 ((now.bxs.length:Int) - 1))),hc0,hc1,hc2,hc3,hc4,hc5,hc6,hc7,hc8,(u101 (Qb d.n 1 100000)),hc9,(Qn h3 h2),rfl,rfl,rfl,(rp cPur 2 0 1 h2),hc10,(by decide),trivial⟩ (AvLe.of_eq (by rw [h]; try rfl))
                     · have h:=h.2 (odf hc10)
                       obtain ⟨q37_11,h⟩:=h
                       obtain ⟨h5,h⟩:=h
                       obtain ⟨pe1,h4,h⟩:=h
                       obtain ⟨q49_11,h⟩:=h
                       exact Qbz f now d pe pe1 hE ⟨(Qw Try.func173 (by kernel_rfl) XV (QY now h1)),(by decide),rfl,q3_0,(u101 (Qb d.a 0 ((now.stk.length:Int) - 1))),rfl,q6_0,(u101 (Qb d.a 0 ((now.prs.length:Int) - 1))),rfl,q9_0,(u101 (Qb d.b 0 ((now.prs.length:Int) - 1))),rfl,q12_0,(u101 (Qb d.b 0 ((now.bxs.length:Int) - 1))),hc0,hc1,hc2,hc3,hc4,hc5,hc6,hc7,hc8,(u101 (Qb d.n 1 100000)),hc9,(Qn h3 h2),rfl,rfl,rfl,(rp cPur 2 0 1 h2),hc10,(Qn h3 h2),rfl,rfl,rfl,(rp cPur 2 0 1 h2),q37_11,(Qn h3 h2),rfl,rfl,(rf cPur 2 0 1 h2),rfl,(by have hx:=Qn h5 h4; simpa using hx),rfl,rfl,rfl,(by rw [(show Qt (Qf now.prs) ((0+(Int.toNat d.a)*2)+0) [.int .i64 (pe.tokens - d.n)]=Qf (now.prs.set (Int.toNat d.a) (⟨(pe.tokens - d.n),pe.till⟩:Pur)) from Qy cPur (s:=2) (k:=0) (fun _=>rfl) h2 rfl (by first | decide | simp))]; exact rp cPur 2 0 1 h4),q49_11,(by have hx:=Qn h5 h4; simpa using hx),rfl,rfl,(by rw [(show Qt (Qf now.prs) ((0+(Int.toNat d.a)*2)+0) [.int .i64 (pe.tokens - d.n)]=Qf (now.prs.set (Int.toNat d.a) (⟨(pe.tokens - d.n),pe.till⟩:Pur)) from Qy cPur (s:=2) (k:=0) (fun _=>rfl) h2 rfl (by first | decide | simp))]; exact rf cPur 2 0 1 h4),rfl,(by decide),rfl,rfl,rfl,rfl,trivial⟩ (AvLe.of_eq (by rw [h]; rw [(show AV.rsl (Qt (Qt (Qf now.prs) ((0+(Int.toNat d.a)*2)+0) [.int .i64 (pe.tokens - d.n)]) ((0+(Int.toNat d.b)*2)+0) [.int .i64 (pe1.tokens+d.n)]) 0 now.prs.length=AV.rsl (Qf ((now.prs.set (Int.toNat d.a) (⟨(pe.tokens - d.n),pe.till⟩:Pur)).set (Int.toNat d.b) (⟨(pe1.tokens+d.n),pe1.till⟩:Pur))) 0 ((now.prs.set (Int.toNat d.a) (⟨(pe.tokens - d.n),pe.till⟩:Pur)).set (Int.toNat d.b) (⟨(pe1.tokens+d.n),pe1.till⟩:Pur)).length from by rw [(show Qt (Qf now.prs) ((0+(Int.toNat d.a)*2)+0) [.int .i64 (pe.tokens - d.n)]=Qf (now.prs.set (Int.toNat d.a) (⟨(pe.tokens - d.n),pe.till⟩:Pur)) from Qy cPur (s:=2) (k:=0) (fun _=>rfl) h2 rfl (by first | decide | simp))]; rw [(show Qt (Qf (now.prs.set (Int.toNat d.a) (⟨(pe.tokens - d.n),pe.till⟩:Pur))) ((0+(Int.toNat d.b)*2)+0) [.int .i64 (pe1.tokens+d.n)]=Qf ((now.prs.set (Int.toNat d.a) (⟨(pe.tokens - d.n),pe.till⟩:Pur)).set (Int.toNat d.b) (⟨(pe1.tokens+d.n),pe1.till⟩:Pur)) from Qy cPur (s:=2) (k:=0) (fun _=>rfl) h4 rfl (by first | decide | simp))]; rw [show now.prs.length=((now.prs.set (Int.toNat d.a) (⟨(pe.tokens - d.n),pe.till⟩:Pur)).set (Int.toNat d.b) (⟨(pe1.tokens+d.n),pe1.till⟩:Pur)).length from by simp])]; try rfl))
           · have h:=h.2 (ne_of_beq_false hc5)
             rcases bft (d.kind == 7) with hc6 | hc6
             · have h:=h.1 (eq_of_beq hc6)
               rcases bft (!(Qa d.a 0 ((now.prs.length:Int) - 1))) with hc7 | hc7
               · have h:=h.1 (bnT hc7)
                 exact Qby f now d hE ⟨(Qw Try.func173 (by kernel_rfl) XV (QY now h1)),(by decide),rfl,q3_0,(u101 (Qb d.a 0 ((now.stk.length:Int) - 1))),rfl,q6_0,(u101 (Qb d.a 0 ((now.prs.length:Int) - 1))),rfl,q9_0,(u101 (Qb d.b 0 ((now.prs.length:Int) - 1))),rfl,q12_0,(u101 (Qb d.b 0 ((now.bxs.length:Int) - 1))),hc0,hc1,hc2,hc3,hc4,hc5,hc6,hc7,rfl,rfl,rfl,(by decide),trivial⟩ (AvLe.of_eq (by rw [h]; try rfl))
               · have h:=h.2 (bnF hc7)
                 rcases bft (d.b != 0) with hc8 | hc8
                 · have h:=h.1 (bneT hc8)
                   exact Qbx f now d hE ⟨(Qw Try.func173 (by kernel_rfl) XV (QY now h1)),(by decide),rfl,q3_0,(u101 (Qb d.a 0 ((now.stk.length:Int) - 1))),rfl,q6_0,(u101 (Qb d.a 0 ((now.prs.length:Int) - 1))),rfl,q9_0,(u101 (Qb d.b 0 ((now.prs.length:Int) - 1))),rfl,q12_0,(u101 (Qb d.b 0 ((now.bxs.length:Int) - 1))),hc0,hc1,hc2,hc3,hc4,hc5,hc6,hc7,hc8,rfl,rfl,(by decide),trivial⟩ (AvLe.of_eq (by rw [h]; try rfl))
                 · have h:=h.2 (bneF hc8)
                   rcases bft (!(Qa d.n 1 100000)) with hc9 | hc9
                   · have h:=h.1 (bnT hc9)
                     exact Qbw f now d hE ⟨(Qw Try.func173 (by kernel_rfl) XV (QY now h1)),(by decide),rfl,q3_0,(u101 (Qb d.a 0 ((now.stk.length:Int) - 1))),rfl,q6_0,(u101 (Qb d.a 0 ((now.prs.length:Int) - 1))),rfl,q9_0,(u101 (Qb d.b 0 ((now.prs.length:Int) - 1))),rfl,q12_0,(u101 (Qb d.b 0 ((now.bxs.length:Int) - 1))),hc0,hc1,hc2,hc3,hc4,hc5,hc6,hc7,hc8,(u101 (Qb d.n 1 100000)),hc9,rfl,(by decide),trivial⟩ (AvLe.of_eq (by rw [h]; try rfl))
                   · have h:=h.2 (bnF hc9)
                     obtain ⟨h3,h⟩:=h
                     obtain ⟨pe,h2,h⟩:=h
                     rcases bft (decide (pe.tokens<d.n)) with hc10 | hc10
                     · have h:=h.1 (odt hc10)
                       exact Qbv f now d pe hE ⟨(Qw Try.func173 (by kernel_rfl) XV (QY now h1)),(by decide),rfl,q3_0,(u101 (Qb d.a 0 ((now.stk.length:Int) - 1))),rfl,q6_0,(u101 (Qb d.a 0 ((now.prs.length:Int) - 1))),rfl,q9_0,(u101 (Qb d.b 0 ((now.prs.length:Int) - 1))),rfl,q12_0,(u101 (Qb d.b 0 ((now.bxs.length:Int) - 1))),hc0,hc1,hc2,hc3,hc4,hc5,hc6,hc7,hc8,(u101 (Qb d.n 1 100000)),hc9,(Qn h3 h2),rfl,rfl,rfl,(rp cPur 2 0 1 h2),hc10,(by decide),trivial⟩ (AvLe.of_eq (by rw [h]; try rfl))
                     · have h:=h.2 (odf hc10)
                       obtain ⟨q37_11,h⟩:=h
                       obtain ⟨q43_11,h⟩:=h
                       exact Qbu f now d pe hE ⟨(Qw Try.func173 (by kernel_rfl) XV (QY now h1)),(by decide),rfl,q3_0,(u101 (Qb d.a 0 ((now.stk.length:Int) - 1))),rfl,q6_0,(u101 (Qb d.a 0 ((now.prs.length:Int) - 1))),rfl,q9_0,(u101 (Qb d.b 0 ((now.prs.length:Int) - 1))),rfl,q12_0,(u101 (Qb d.b 0 ((now.bxs.length:Int) - 1))),hc0,hc1,hc2,hc3,hc4,hc5,hc6,hc7,hc8,(u101 (Qb d.n 1 100000)),hc9,(Qn h3 h2),rfl,rfl,rfl,(rp cPur 2 0 1 h2),hc10,(Qn h3 h2),rfl,rfl,rfl,(rp cPur 2 0 1 h2),q37_11,(Qn h3 h2),rfl,rfl,(rf cPur 2 0 1 h2),rfl,q43_11,(by decide),(by decide),rfl,rfl,rfl,rfl,trivial⟩ (AvLe.of_eq (by rw [h]; rw [(show AV.rsl (Qt (Qf now.prs) ((0+(Int.toNat d.a)*2)+0) [.int .i64 (pe.tokens - d.n)]) 0 now.prs.length=AV.rsl (Qf (now.prs.set (Int.toNat d.a) (⟨(pe.tokens - d.n),pe.till⟩:Pur))) 0 (now.prs.set (Int.toNat d.a) (⟨(pe.tokens - d.n),pe.till⟩:Pur)).length from by rw [(show Qt (Qf now.prs) ((0+(Int.toNat d.a)*2)+0) [.int .i64 (pe.tokens - d.n)]=Qf (now.prs.set (Int.toNat d.a) (⟨(pe.tokens - d.n),pe.till⟩:Pur)) from Qy cPur (s:=2) (k:=0) (fun _=>rfl) h2 rfl (by first | decide | simp))]; rw [show now.prs.length=(now.prs.set (Int.toNat d.a) (⟨(pe.tokens - d.n),pe.till⟩:Pur)).length from by simp])]; try rfl))
             · have h:=h.2 (ne_of_beq_false hc6)
               exact Qbt f now d hE ⟨(Qw Try.func173 (by kernel_rfl) XV (QY now h1)),(by decide),rfl,q3_0,(u101 (Qb d.a 0 ((now.stk.length:Int) - 1))),rfl,q6_0,(u101 (Qb d.a 0 ((now.prs.length:Int) - 1))),rfl,q9_0,(u101 (Qb d.b 0 ((now.prs.length:Int) - 1))),rfl,q12_0,(u101 (Qb d.b 0 ((now.bxs.length:Int) - 1))),hc0,hc1,hc2,hc3,hc4,hc5,hc6,(by decide),trivial⟩ (AvLe.of_eq (by rw [h]; try rfl))
end Go.Proofs.Ytemklbioijmjiaa
namespace Go.Proofs.Ytemklbioijmjiaa
open Go Ax
open Go.Proofs
theorem stepIn_of {T:Frs} {i:Nat} (h:FOk T i) (hi:i≤300) (hb:T.f.bundles.length≤6):StepIn T.f (cntT T):=by
 have z:∀ B:Int,0≤B→Bd B 0:=fun B hB=>by unfold Bd; omega
 exact ⟨hb,i,⟨h.len.of rfl rfl rfl rfl rfl,h.bn,h.band,h.hours,by show (0:Int)≤0; omega,h.st,h.ca,h.pu,h.bo,h.lo,z _ (by omega),z _ (by omega),z _ (by omega),z _ (by omega),z _ (by omega)⟩,hi⟩
theorem Step_ok (f:Fair) (c:Cnt) (d:Dl) (h:StepIn f c):Pure Try.prog 100 [.agg [.int .i64 f.purses,.int .i64 f.boxes,.rsl (rowI f.stock) 0 f.stock.length,.rsl (rowI f.cash) 0 f.cash.length,.rsl (Qr f.bundles) 0 f.bundles.length,.int .i64 f.refund,.int .i64 f.band,.int .i64 f.hours],.agg (cCnt c),.agg (cDl d)] (.tup [.agg (cCnt (Yl f c d).1),.bool (Yl f c d).2]):=QC Try.func100 f100b fun E hE=>by
 obtain ⟨hb,i,hF,hi⟩:=h
 have hl:=hF.len
 have st:c.stk.length≤1000000:=hl.st
 have ca:c.csh.length=c.stk.length:=hl.ca
 have pu:f.purses=(c.prs.length:Int):=hl.pu
 have pl:c.prs.length≤1000000:=hl.pl
 have bo:f.boxes=(c.bxs.length:Int):=hl.bo
 have bl:c.bxs.length≤1000000:=hl.bl
 have rf:0≤f.refund∧f.refund≤1000:=hl.rf
 have xst:∀ x ∈ c.stk,Bd (1000000+1000000000*i) x:=hF.st
 have xca:∀ x ∈ c.csh,Bd (1000000+1000000000*i) x:=hF.ca
 have xpu:∀ p ∈ c.prs,Bd (1000000+1000000000*i) p.tokens∧Bd 1000000 p.till:=hF.pu
 have xbo:∀ x ∈ c.bxs,0≤x∧x≤1000*(i:Int):=hF.bo
 have xlo:Bd (1000000000*i) c.lst:=hF.lo
 have xbn:∀ b ∈ f.bundles,(1≤b.tokens∧b.tokens≤1000)∧(1≤b.price∧b.price≤1000000):=hF.bn
 have xba:0≤f.band∧f.band≤1000000:=hF.band
 have xho:1≤f.hours∧f.hours≤1440:=hF.hours
 have tA:∀ n,Xc (XJ f c) n=Qa n 0 ((c.stk.length:Int) - 1):=fun n=>rfl
 have pB:∀ n,QD (XJ f c) n=Qa n 0 ((c.prs.length:Int) - 1):=fun n=>by rw [← pu]; rfl
 have bB:∀ n,boxT (XJ f c) n=Qa n 0 ((c.bxs.length:Int) - 1):=fun n=>by rw [← bo]; rfl
 refine f100W f c d (rv:=Yl f c d) hE ⟨⟨st,by omega,pl,bl⟩,by omega,by omega,by omega,by omega,fun k=>?_,fun k1=>⟨fun k=>?_,fun k2=>⟨fun k=>?_,fun k3=>⟨fun k=>?_,fun k4=>⟨fun k=>?_,fun k5=>⟨fun k=>?_,fun k6=>⟨fun k=>?_,fun k7=>Xj (stepB_0 k1 k2 k3 k4 k5 k6 k7)⟩⟩⟩⟩⟩⟩⟩
 · have eB:=stepB_1 (T:=XJ f c) k hb
   rw [tA,pB] at eB
   refine ⟨fun e=>Xj (by rw [eB,e]; rfl),fun e1=>⟨fun e=>Xj (by rw [eB,e1,e]; rfl),fun e2=>⟨by omega,fun e=>Xj (by rw [eB,e1,e2,show Qa d.n 0 ((((XJ f c).f.bundles.length:Nat):Int) - 1)=false from e]; rfl),fun e3=>?_⟩⟩⟩
   have w1:=Qq.1 e1
   have w2:=Qq.1 e2
   have w3:=Qq.1 e3
   have b1:=xst _ (Xx (d:=0) (l:=c.stk) (i:=Int.toNat d.a) (by omega))
   have b2:=xbn _ (Xx (d:=⟨0,0⟩) (l:=f.bundles) (i:=Int.toNat d.n) (by omega))
   have b3:=(xpu _ (Xx (d:=⟨0,0⟩) (l:=c.prs) (i:=Int.toNat d.b) (by omega))).1
   have b4:=xca _ (Xx (d:=0) (l:=c.csh) (i:=Int.toNat d.a) (by omega))
   unfold Bd at b1 b3 b4
   have e3':Qa d.n 0 ((((XJ f c).f.bundles.length:Nat):Int) - 1)=true:=e3
   rw [e1,e2,e3'] at eB
   refine ⟨w1.1,_,XX (d:=0) (by omega),w3.1,_,XX (d:=⟨0,0⟩) (by omega),fun e=>Xj (eB.trans ?_),fun e=>⟨by omega,w2.1,_,XX (d:=⟨0,0⟩) (by omega),by omega,w1.1,_,XX (d:=0) (by omega),by omega,(WJ (by omega) (eB.trans ?_)).trans ?_⟩⟩
   · simp only [Bool.true_and]; exact decide_eq_false (show ¬ c.stk.getD (Int.toNat d.a) 0≥(f.bundles.getD (Int.toNat d.n) ⟨0,0⟩).tokens by omega)
   · simp only [Bool.true_and]; exact decide_eq_true (show c.stk.getD (Int.toNat d.a) 0≥(f.bundles.getD (Int.toNat d.n) ⟨0,0⟩).tokens by omega)
   · rw [Qv,if_pos k]; rfl
 · have eB:=stepB_2 (T:=XJ f c) k
   rw [pB,bB] at eB
   refine ⟨fun e=>Xj (by rw [eB,e]; rfl),fun e1=>⟨fun e=>Xj (by rw [eB,e1,e]; rfl),fun e2=>⟨fun e=>Xj (by rw [eB,e1,e2,e]; rfl),fun e3=>?_⟩⟩⟩
   have w1:=Qq.1 e1
   have w2:=Qq.1 e2
   have w3:=Qq.1 e3
   have b1:=(xpu _ (Xx (d:=⟨0,0⟩) (l:=c.prs) (i:=Int.toNat d.a) (by omega))).1
   have b2:=xbo _ (Xx (d:=0) (l:=c.bxs) (i:=Int.toNat d.b) (by omega))
   unfold Bd at b1
   rw [e1,e2,e3] at eB
   refine ⟨w1.1,_,XX (d:=⟨0,0⟩) (by omega),fun e=>(WJ (by omega) (eB.trans ?_)).trans ?_,fun e=>⟨fun e4=>Xj (eB.trans ?_),fun e4=>⟨by omega,w2.1,_,XX (d:=0) (by omega),by omega,(WJ (by omega) (eB.trans ?_)).trans ?_⟩⟩⟩
   · have:decide (d.at_<(purT (XJ f c) d.a).till)=true:=decide_eq_true e
     rw [this]; rfl
   · rw [Qv,if_neg k1,if_pos k,if_pos (show d.at_<(purT (XJ f c) d.a).till from e)]; rfl
   · have q1:decide (d.at_<(purT (XJ f c) d.a).till)=false:=decide_eq_false e
     have q2:decide ((purT (XJ f c) d.a).tokens≥d.n)=false:=decide_eq_false (show ¬ (c.prs.getD (Int.toNat d.a) ⟨0,0⟩).tokens≥d.n by omega)
     rw [q1,q2]; rfl
   · have q2:decide ((purT (XJ f c) d.a).tokens≥d.n)=true:=decide_eq_true (show (c.prs.getD (Int.toNat d.a) ⟨0,0⟩).tokens≥d.n by omega)
     rw [q2]; simp
   · rw [Qv,if_neg k1,if_pos k,if_neg (show ¬ d.at_<(purT (XJ f c) d.a).till from e)]; rfl
 · have eB:=stepB_3 (T:=XJ f c) k
   rw [tA,pB] at eB
   refine ⟨fun e=>Xj (by rw [eB,e]; rfl),fun e1=>⟨fun e=>Xj (by rw [eB,e1,e]; rfl),fun e2=>⟨fun e=>Xj (by rw [eB,e1,e2,beq_eq_false_iff_ne.2 e]; rfl),fun e3=>?_⟩⟩⟩
   have w1:=Qq.1 e1
   have w2:=Qq.1 e2
   have b1:=xca _ (Xx (d:=0) (l:=c.csh) (i:=Int.toNat d.a) (by omega))
   have b2:=(xpu _ (Xx (d:=⟨0,0⟩) (l:=c.prs) (i:=Int.toNat d.b) (by omega))).2
   unfold Bd at b1 b2
   rw [e1,e2,show (d.n == 0)=true from beq_iff_eq.2 e3] at eB
   have hk:(adjD f d).kind=3:=by rw [adjD,if_pos k]; exact k
   have ha:(adjD f d).at_=IntKind.i64.wrap (d.at_+f.hours) - f.hours:=by rw [adjD,if_pos k]
   have hx:(adjD f d).a=d.a∧(adjD f d).b=d.b:=by rw [adjD,if_pos k]; exact ⟨rfl,rfl⟩
   refine ⟨w1.1,_,XX (d:=0) (by omega),by omega,w2.1,_,XX (d:=⟨0,0⟩) (by omega),(QaQ (eB.trans rfl)).trans ?_⟩
   rw [happ_3 hk,ha,hx.1,hx.2,show IntKind.i64.wrap (d.at_+f.hours) - f.hours+(XJ f c).f.hours=IntKind.i64.wrap (d.at_+f.hours) by show _ - f.hours+f.hours=_; omega]
   rfl
 · have eB:=stepB_4 (T:=XJ f c) k
   rw [tA,pB] at eB
   refine ⟨fun e=>Xj (by rw [eB,e]; rfl),fun e1=>⟨fun e=>Xj (by rw [eB,e1,e]; rfl),fun e2=>⟨fun e=>Xj (by rw [eB,e1,e2,e]; rfl),fun e3=>?_⟩⟩⟩
   have w1:=Qq.1 e1
   have w2:=Qq.1 e2
   have w3:=Qq.1 e3
   have b1:=xca _ (Xx (d:=0) (l:=c.csh) (i:=Int.toNat d.a) (by omega))
   have b2:=(xpu _ (Xx (d:=⟨0,0⟩) (l:=c.prs) (i:=Int.toNat d.b) (by omega))).1
   have b3:=xst _ (Xx (d:=0) (l:=c.stk) (i:=Int.toNat d.a) (by omega))
   unfold Bd at b1 b2 b3
   have m1:=Int.mul_le_mul w3.2 rf.2 rf.1 (by omega)
   have m2:=Int.mul_nonneg (show 0≤d.n by omega) rf.1
   rw [e1,e2,e3] at eB
   refine ⟨w2.1,_,XX (d:=⟨0,0⟩) (by omega),fun e=>Xj (eB.trans ?_),fun e4=>⟨w1.1,_,XX (d:=0) (by omega),by omega,fun e=>Xj (eB.trans ?_),fun e5=>⟨by omega,w1.1,_,XX (d:=0) (by omega),by omega,by omega,by omega,(WJ (by omega) (eB.trans ?_)).trans ?_⟩⟩⟩
   · have q:decide ((purT (XJ f c) d.b).tokens≥d.n)=false:=decide_eq_false (show ¬ (c.prs.getD (Int.toNat d.b) ⟨0,0⟩).tokens≥d.n by omega)
     rw [q]; rfl
   · have q:decide ((XJ f c).cash.getD (Int.toNat d.a) 0≥d.n*(XJ f c).f.refund)=false:=decide_eq_false (show ¬ c.csh.getD (Int.toNat d.a) 0≥d.n*f.refund by omega)
     rw [q]; simp
   · have q1:decide ((purT (XJ f c) d.b).tokens≥d.n)=true:=decide_eq_true (show (c.prs.getD (Int.toNat d.b) ⟨0,0⟩).tokens≥d.n by omega)
     have q2:decide ((XJ f c).cash.getD (Int.toNat d.a) 0≥d.n*(XJ f c).f.refund)=true:=decide_eq_true (show c.csh.getD (Int.toNat d.a) 0≥d.n*f.refund by omega)
     rw [q1,q2]; rfl
   · rw [Qv,if_neg k1,if_neg k2,if_neg k3,if_pos k]
     have q:c.csh.getD (Int.toNat d.a) 0 - d.n*f.refund=c.csh.getD (Int.toNat d.a) 0+(0 - d.n)*f.refund:=by rw [Int.sub_mul,Int.zero_mul]; omega
     rw [q]; rfl
 · have eB:=stepB_5 (T:=XJ f c) k
   rw [tA,bB] at eB
   refine ⟨fun e=>Xj (by rw [eB,e]; rfl),fun e1=>⟨fun e=>Xj (by rw [eB,e1,e]; rfl),fun e2=>⟨fun e=>Xj (by rw [eB,e1,e2,beq_eq_false_iff_ne.2 e]; rfl),fun e3=>?_⟩⟩⟩
   have w1:=Qq.1 e1
   have w2:=Qq.1 e2
   have b1:=xst _ (Xx (d:=0) (l:=c.stk) (i:=Int.toNat d.a) (by omega))
   have b2:=xbo _ (Xx (d:=0) (l:=c.bxs) (i:=Int.toNat d.b) (by omega))
   unfold Bd at b1
   rw [e1,e2,show (d.n == 0)=true from beq_iff_eq.2 e3] at eB
   exact ⟨w1.1,_,XX (d:=0) (by omega),w2.1,_,XX (d:=0) (by omega),by omega,(WJ (by omega) (eB.trans rfl)).trans (by rw [Qv,if_neg k1,if_neg k2,if_neg k3,if_neg k4,if_pos k]; rfl)⟩
 · have eB:=stepB_6 (T:=XJ f c) k
   rw [pB,pB] at eB
   refine ⟨fun e=>Xj (by rw [eB,e]; rfl),fun e1=>⟨fun e=>Xj (by rw [eB,e]; simp),fun e2=>⟨fun e=>Xj (by rw [eB,show (d.a != d.b)=false from by rw [e]; simp]; simp),fun e3=>⟨fun e=>Xj (by rw [eB,e]; simp),fun e4=>?_⟩⟩⟩⟩
   have w1:=Qq.1 e1
   have w2:=Qq.1 e2
   have w4:=Qq.1 e4
   have b1:=(xpu _ (Xx (d:=⟨0,0⟩) (l:=c.prs) (i:=Int.toNat d.a) (by omega))).1
   have b2:=(xpu _ (Xx (d:=⟨0,0⟩) (l:=c.prs) (i:=Int.toNat d.b) (by omega))).1
   unfold Bd at b1 b2
   rw [e1,e2,e4,show (d.a != d.b)=true from bne_iff_ne.2 e3] at eB
   refine ⟨w1.1,_,XX (d:=⟨0,0⟩) (by omega),fun e=>Xj (eB.trans ?_),fun e5=>⟨by omega,w2.1,c.prs.getD (Int.toNat d.b) ⟨0,0⟩,by rw [List.getElem?_set_ne (by omega)]; exact XX (by omega),by omega,(WJ (by omega) (eB.trans ?_)).trans (by rw [Qv,if_neg k1,if_neg k2,if_neg k3,if_neg k4,if_neg k5,if_pos k]; rfl)⟩⟩
   · have q:decide ((purT (XJ f c) d.a).tokens≥d.n)=false:=decide_eq_false (show ¬ (c.prs.getD (Int.toNat d.a) ⟨0,0⟩).tokens≥d.n by omega)
     rw [q]; rfl
   · have q:decide ((purT (XJ f c) d.a).tokens≥d.n)=true:=decide_eq_true (show (c.prs.getD (Int.toNat d.a) ⟨0,0⟩).tokens≥d.n by omega)
     rw [q]; rfl
 · have eB:=stepB_7 (T:=XJ f c) k
   rw [pB] at eB
   refine ⟨fun e=>Xj (by rw [eB,e]; rfl),fun e1=>⟨fun e=>Xj (by rw [eB,beq_eq_false_iff_ne.2 e]; simp),fun e2=>⟨fun e=>Xj (by rw [eB,e]; simp),fun e4=>?_⟩⟩⟩
   have w1:=Qq.1 e1
   have w4:=Qq.1 e4
   have b1:=(xpu _ (Xx (d:=⟨0,0⟩) (l:=c.prs) (i:=Int.toNat d.a) (by omega))).1
   have b2:=xlo
   unfold Bd at b1 b2
   rw [e1,e4,show (d.b == 0)=true from beq_iff_eq.2 e2] at eB
   refine ⟨w1.1,_,XX (d:=⟨0,0⟩) (by omega),fun e=>Xj (eB.trans ?_),fun e5=>⟨by omega,by omega,(WJ (by omega) (eB.trans ?_)).trans (by rw [Qv,if_neg k1,if_neg k2,if_neg k3,if_neg k4,if_neg k5,if_neg k6,if_pos k]; rfl)⟩⟩
   · have q:decide ((purT (XJ f c) d.a).tokens≥d.n)=false:=decide_eq_false (show ¬ (c.prs.getD (Int.toNat d.a) ⟨0,0⟩).tokens≥d.n by omega)
     rw [q]; rfl
   · have q:decide ((purT (XJ f c) d.a).tokens≥d.n)=true:=decide_eq_true (show (c.prs.getD (Int.toNat d.a) ⟨0,0⟩).tokens≥d.n by omega)
     rw [q]; rfl
end Go.Proofs.Ytemklbioijmjiaa
namespace Go.Proofs.Ytemklbioijmjiaa
open Go Ax
open Go.Proofs
theorem f99b:Try.f99.body=some (Qd Try.prog 99):=by kernel_rfl
theorem u99 {a c k:List AV} {r:AV} (h:Pure Try.prog 99 (a++c++k) r):Qe Try.prog (.clos 99 a k) c r:=Qs Try.func99 (by kernel_rfl) f99b h
theorem p99_start_0 (f:Fair) {E:Env} {res:AV} (hE:Qg Try.prog 99 res E) (ho:AllP [f.stock.length≤2147483648,((rowI f.stock).drop 0).take (f.stock.length*1)=(rowI f.stock),(rowI f.stock).length=(f.stock.length*1),noRefs (rowI f.stock)=true,f.cash.length≤2147483648,((rowI f.cash).drop 0).take (f.cash.length*1)=(rowI f.cash),(rowI f.cash).length=(f.cash.length*1),noRefs (rowI f.cash)=true,0≤f.purses∧f.purses≤f.purses∧f.purses≤2147483648,0≤f.boxes∧f.boxes≤f.boxes∧f.boxes≤2147483648,5≤5,0=0,0=0,0=0,0=0])
 (hr:AvLe (.agg [.rsl (rowI f.stock) 0 f.stock.length,.rsl (rowI f.cash) 0 f.cash.length,.rsl ((List.replicate (Int.toNat f.purses) ([.int .i64 0,.int .i64 0]:List AV)).flatten) 0 (Int.toNat f.purses),.rsl ((List.replicate (Int.toNat f.boxes) ([.int .i64 0]:List AV)).flatten) 0 (Int.toNat f.boxes),.int .i64 0]) res):G Try.prog E [.code (Qd Try.prog 99)] ⟨[.agg [.int .i64 f.purses,.int .i64 f.boxes,.rsl (rowI f.stock) 0 f.stock.length,.rsl (rowI f.cash) 0 f.cash.length,.rsl (Qr f.bundles) 0 f.bundles.length,.int .i64 f.refund,.int .i64 f.band,.int .i64 f.hours]]++unds (Try.f99.ntmps - 1),[]⟩ :=
 Qc (n:=400) (evs:=[.cs (rowI f.stock),.cs (rowI f.cash)]) (obs:=_) hE Try.func99 Qp (by kernel_rfl) ho hr
theorem f99W (f:Fair) {E:Env} {rv:Cnt} (hE:Qg Try.prog 99 (.agg [.rsl (rowI rv.stk) 0 rv.stk.length,.rsl (rowI rv.csh) 0 rv.csh.length,.rsl (Qf rv.prs) 0 rv.prs.length,.rsl (rowI rv.bxs) 0 rv.bxs.length,.int .i64 rv.lst]) E)
 (h:(f.stock.length≤2147483648∧(f.cash.length≤2147483648∧((0≤f.purses∧f.purses≤2147483648)∧((0≤f.boxes∧f.boxes≤2147483648)∧rv=(⟨f.stock,f.cash,(List.replicate (Int.toNat f.purses) ((⟨0,0⟩:Pur):Pur)),(List.replicate (Int.toNat f.boxes) (0:Int)),0⟩:Cnt)))))):G Try.prog E [.code (Qd Try.prog 99)] ⟨[.agg [.int .i64 f.purses,.int .i64 f.boxes,.rsl (rowI f.stock) 0 f.stock.length,.rsl (rowI f.cash) 0 f.cash.length,.rsl (Qr f.bundles) 0 f.bundles.length,.int .i64 f.refund,.int .i64 f.band,.int .i64 f.hours]]++unds (Try.f99.ntmps - 1),[]⟩:=by
 obtain ⟨h1,h⟩:=h
 obtain ⟨h2,h⟩:=h
 obtain ⟨h3,h⟩:=h
 obtain ⟨h4,h⟩:=h
 exact p99_start_0 f hE ⟨h1,(by exact QX cI (fun _=>rfl) f.stock),(by exact QI cI (fun _=>rfl) f.stock),(by exact Xk cI (fun _=>rfl) f.stock),h2,(by exact QX cI (fun _=>rfl) f.cash),(by exact QI cI (fun _=>rfl) f.cash),(by exact Xk cI (fun _=>rfl) f.cash),⟨h3.1,by omega,h3.2⟩,⟨h4.1,by omega,h4.2⟩,(by decide),rfl,rfl,rfl,rfl,trivial⟩ (AvLe.of_eq (by rw [h]; rw [(show AV.rsl ((List.replicate (Int.toNat f.purses) ([.int .i64 0,.int .i64 0]:List AV)).flatten) 0 (Int.toNat f.purses)=AV.rsl (Qf (List.replicate (Int.toNat f.purses) ((⟨0,0⟩:Pur):Pur))) 0 (List.replicate (Int.toNat f.purses) ((⟨0,0⟩:Pur):Pur)).length from by rw [(show (List.replicate (Int.toNat f.purses) ([.int .i64 0,.int .i64 0]:List AV)).flatten=Qf (List.replicate (Int.toNat f.purses) ((⟨0,0⟩:Pur):Pur)) from WK cPur _ ((⟨0,0⟩:Pur):Pur))]; exact congrArg (AV.rsl (Qf (List.replicate (Int.toNat f.purses) ((⟨0,0⟩:Pur):Pur))) 0) (by simp))]; rw [(show AV.rsl ((List.replicate (Int.toNat f.boxes) ([.int .i64 0]:List AV)).flatten) 0 (Int.toNat f.boxes)=AV.rsl (rowI (List.replicate (Int.toNat f.boxes) (0:Int))) 0 (List.replicate (Int.toNat f.boxes) (0:Int)).length from by rw [(show (List.replicate (Int.toNat f.boxes) ([.int .i64 0]:List AV)).flatten=rowI (List.replicate (Int.toNat f.boxes) (0:Int)) from WK cI _ _)]; exact congrArg (AV.rsl (rowI (List.replicate (Int.toNat f.boxes) (0:Int))) 0) (by simp))]; try rfl))
theorem refBegin_ok (f:Fair) (h:BegIn f):Pure Try.prog 99 [.agg [.int .i64 f.purses,.int .i64 f.boxes,.rsl (rowI f.stock) 0 f.stock.length,.rsl (rowI f.cash) 0 f.cash.length,.rsl (Qr f.bundles) 0 f.bundles.length,.int .i64 f.refund,.int .i64 f.band,.int .i64 f.hours]] (.agg (cCnt (cntT (Qi f)))):=QC Try.func99 f99b fun E hE=>by
 obtain ⟨h1,h2,h3,h4⟩:=h
 exact f99W f (rv:=cntT (Qi f)) hE ⟨by omega,by omega,by omega,by omega,rfl⟩
theorem f40b:Try.f40.body=some (Qd Try.prog 40):=by kernel_rfl
theorem u40 {a c k:List AV} {r:AV} (h:Pure Try.prog 40 (a++c++k) r):Qe Try.prog (.clos 40 a k) c r:=Qs Try.func40 (by kernel_rfl) f40b h
def f40K0 (P:Program):List Item:=kAt 400 [.code (Qd P 40)] [.b false,.b false,.stop]
def f40S0 (f:Fair) (l:(List Dl)) (last:Int) (i:Nat) (v1_0:(List Int)) (v1_1:(List Int)) (v1_2:(List Pur)) (v1_3:(List Int)) (v1_4:Int):St:=⟨([J,.rsl (Qu l) 0 l.length,.ptr 0 0 0,J,J,J,J,.ptr 1 0 0,.int .i64 last,.int .i64 (i:Int)]++Js 47),[⟨true,0,1,true,[.int .i64 f.purses,.int .i64 f.boxes,.rsl (rowI f.stock) 0 f.stock.length,.rsl (rowI f.cash) 0 f.cash.length,.rsl (Qr f.bundles) 0 f.bundles.length,.int .i64 f.refund,.int .i64 f.band,.int .i64 f.hours],false⟩,⟨true,0,1,true,[.rsl (rowI v1_0) 0 v1_0.length,.rsl (rowI v1_1) 0 v1_1.length,.rsl (Qf v1_2) 0 v1_2.length,.rsl (rowI v1_3) 0 v1_3.length,.int .i64 v1_4],false⟩]⟩
def f40G0 (E:Env) (f:Fair) (l:(List Dl)) (last:Int) (i:Nat) (v1_0:(List Int)) (v1_1:(List Int)) (v1_2:(List Pur)) (v1_3:(List Int)) (v1_4:Int):Prop:=G Try.prog E (f40K0 Try.prog) (f40S0 f l last i v1_0 v1_1 v1_2 v1_3 v1_4 )
abbrev z40_1 (f:Fair) (v1_0:(List Int)) (v1_1:(List Int)) (v1_2:(List Pur)) (v1_3:(List Int)) (v1_4:Int) (de:Dl):List AV:=[.rsl (rowI (((Yl f (⟨v1_0,v1_1,v1_2,v1_3,v1_4⟩:Cnt) de).1).stk)) 0 ((((Yl f (⟨v1_0,v1_1,v1_2,v1_3,v1_4⟩:Cnt) de).1).stk).length),.rsl (rowI (((Yl f (⟨v1_0,v1_1,v1_2,v1_3,v1_4⟩:Cnt) de).1).csh)) 0 ((((Yl f (⟨v1_0,v1_1,v1_2,v1_3,v1_4⟩:Cnt) de).1).csh).length),.rsl (Qf (((Yl f (⟨v1_0,v1_1,v1_2,v1_3,v1_4⟩:Cnt) de).1).prs)) 0 ((((Yl f (⟨v1_0,v1_1,v1_2,v1_3,v1_4⟩:Cnt) de).1).prs).length),.rsl (rowI (((Yl f (⟨v1_0,v1_1,v1_2,v1_3,v1_4⟩:Cnt) de).1).bxs)) 0 ((((Yl f (⟨v1_0,v1_1,v1_2,v1_3,v1_4⟩:Cnt) de).1).bxs).length),.int .i64 (((Yl f (⟨v1_0,v1_1,v1_2,v1_3,v1_4⟩:Cnt) de).1).lst)]
abbrev KS (f:Fair):List AV:=[.int .i64 f.purses,.int .i64 f.boxes,.rsl (rowI f.stock) 0 f.stock.length,.rsl (rowI f.cash) 0 f.cash.length,.rsl (Qr f.bundles) 0 f.bundles.length,.int .i64 f.refund,.int .i64 f.band,.int .i64 f.hours]
abbrev z40_3 (f:Fair):List AV:=[.rsl (rowI ((cntT (Qi f)).stk)) 0 (((cntT (Qi f)).stk).length),.rsl (rowI ((cntT (Qi f)).csh)) 0 (((cntT (Qi f)).csh).length),.rsl (Qf ((cntT (Qi f)).prs)) 0 (((cntT (Qi f)).prs).length),.rsl (rowI ((cntT (Qi f)).bxs)) 0 (((cntT (Qi f)).bxs).length),.int .i64 ((cntT (Qi f)).lst)]
abbrev z40_4 (de:Dl):List AV:=[.int .i64 de.at_,.int .i64 de.kind,.int .i64 de.a,.int .i64 de.b,.int .i64 de.n]
abbrev z40_5 (f:Fair) (v1_0:(List Int)) (v1_1:(List Int)) (v1_2:(List Pur)) (v1_3:(List Int)) (v1_4:Int) (de:Dl):AV:=.tup [.agg (z40_1 f v1_0 v1_1 v1_2 v1_3 v1_4 de),.bool ((Yl f (⟨v1_0,v1_1,v1_2,v1_3,v1_4⟩:Cnt) de).2)]
abbrev z40_6 (f:Fair) (v1_0:(List Int)) (v1_1:(List Int)) (v1_2:(List Pur)) (v1_3:(List Int)) (v1_4:Int) (de:Dl):List AV:=[.agg (KS f),.agg [.rsl (rowI v1_0) 0 v1_0.length,.rsl (rowI v1_1) 0 v1_1.length,.rsl (Qf v1_2) 0 v1_2.length,.rsl (rowI v1_3) 0 v1_3.length,.int .i64 v1_4],.agg (z40_4 de)]
theorem p40_start_0 (f:Fair) (l:(List Dl)) {E:Env} {res:AV} (hE:Qg Try.prog 40 res E) (ho:AllP [Qe Try.prog (.clos 98 [] []) [.agg (KS f)] (.int .i64 (Xb f)),((Xb f) != 0)=true])
 (hr:AvLe (.tup [.int .i64 0,.int .i64 (Xb f)]) res):G Try.prog E [.code (Qd Try.prog 40)] ⟨[.agg (KS f),.rsl (Qu l) 0 l.length]++unds (Try.f40.ntmps - 2),[]⟩ :=
 Qc (n:=400) (evs:=[.v (.int .i64 (Xb f)),.b true]) (obs:=_) hE Try.func40 Qp (by kernel_rfl) ho hr
theorem p40_start_1 (f:Fair) (l:(List Dl)) {E:Env} {res:AV} (hE:Qg Try.prog 40 res E) (ho:AllP [Qe Try.prog (.clos 98 [] []) [.agg (KS f)] (.int .i64 (Xb f)),((Xb f) != 0)=false,(decide ((l.length:Int) > 200))=true])
 (hr:AvLe (.tup [.int .i64 0,.int .i64 2]) res):G Try.prog E [.code (Qd Try.prog 40)] ⟨[.agg (KS f),.rsl (Qu l) 0 l.length]++unds (Try.f40.ntmps - 2),[]⟩ :=
 Qc (n:=400) (evs:=[.v (.int .i64 (Xb f)),.b false,.b true]) (obs:=_) hE Try.func40 Qp (by kernel_rfl) ho hr
theorem p40_start_2 (f:Fair) (l:(List Dl)) {E:Env} {rv:AV} (hE:Qg Try.prog 40 rv E) (ho:AllP [Qe Try.prog (.clos 98 [] []) [.agg (KS f)] (.int .i64 (Xb f)),((Xb f) != 0)=false,(decide ((l.length:Int) > 200))=false,Qe Try.prog (.clos 99 [] []) [.agg (KS f)] (.agg (z40_3 f)),5≤5])
 (hg:G Try.prog E (f40K0 Try.prog) ⟨([J,.rsl (Qu l) 0 l.length,.ptr 0 0 0,J,J,J,J,.ptr 1 0 0,.int .i64 0,.int .i64 0]++Js 47),[⟨true,0,1,true,(KS f),false⟩,⟨true,0,1,true,(z40_3 f),false⟩]⟩):G Try.prog E [.code (Qd Try.prog 40)] ⟨[.agg (KS f),.rsl (Qu l) 0 l.length]++unds (Try.f40.ntmps - 2),[]⟩ :=
 Ql (n:=400) (ds:=[]) (cs:=[]) (live:=[1,2,7,8,9]) (m:=2) (evs:=[.v (.int .i64 (Xb f)),.b false,.b false,.v (.agg (z40_3 f)),.stop]) (obs:=_) hE.2.1 (hE.nogh _) Qp (by kernel_rfl) ho hg
theorem f40W (f:Fair) (l:(List Dl)) {E:Env} {rv:(Int × Int)} (hE:Qg Try.prog 40 (.tup [.int .i64 rv.1,.int .i64 rv.2]) E)
 (h:((FairSmall f)∧((¬ ((Xb f)=0)→rv=(0,(Xb f)))∧((Xb f)=0→(((l.length:Int) > 200→rv=(0,2))∧(¬ ((l.length:Int) > 200)→((BegIn f)∧f40G0 E f l 0 0 ((cntT (Qi f)).stk) ((cntT (Qi f)).csh) ((cntT (Qi f)).prs) ((cntT (Qi f)).bxs) ((cntT (Qi f)).lst)))))))):G Try.prog E [.code (Qd Try.prog 40)] ⟨[.agg [.int .i64 f.purses,.int .i64 f.boxes,.rsl (rowI f.stock) 0 f.stock.length,.rsl (rowI f.cash) 0 f.cash.length,.rsl (Qr f.bundles) 0 f.bundles.length,.int .i64 f.refund,.int .i64 f.band,.int .i64 f.hours],.rsl (Qu l) 0 l.length]++unds (Try.f40.ntmps - 2),[]⟩:=by
 obtain ⟨h1,h⟩:=h
 rcases bft ((Xb f) != 0) with hc0 | hc0
 · have h:=h.1 (bneT hc0)
   exact p40_start_0 f l hE ⟨(u98 (WL f h1)),hc0,trivial⟩ (AvLe.of_eq (by rw [h]; try rfl))
 · have h:=h.2 (bneF hc0)
   rcases bft (decide ((l.length:Int) > 200)) with hc1 | hc1
   · have h:=h.1 (odt hc1)
     exact p40_start_1 f l hE ⟨(u98 (WL f h1)),hc0,hc1,trivial⟩ (AvLe.of_eq (by rw [h]; try rfl))
   · have h:=h.2 (odf hc1)
     obtain ⟨h2,h⟩:=h
     exact p40_start_2 f l hE ⟨(u98 (WL f h1)),hc0,hc1,(u99 (refBegin_ok f h2)),(by decide),trivial⟩ h
theorem p40_0_0 (f:Fair) (l:(List Dl)) (last:Int) (i:Nat) (v1_0:(List Int)) (v1_1:(List Int)) (v1_2:(List Pur)) (v1_3:(List Int)) (v1_4:Int) (de:Dl) {E:Env} {res:AV} (hE:Qg Try.prog 40 res E) (ho:AllP [(decide ((i:Int)<(l.length:Int)))=true,0≤(i:Int)∧(i:Int)<(l.length:Int),((Qu l).drop (0+(Int.toNat (i:Int))*5)).take 5=(z40_4 de),Qe Try.prog (.clos 100 [] []) (z40_6 f v1_0 v1_1 v1_2 v1_3 v1_4 de) (z40_5 f v1_0 v1_1 v1_2 v1_3 v1_4 de),5≤5,(!(Yl f (⟨v1_0,v1_1,v1_2,v1_3,v1_4⟩:Cnt) de).2)=true,true=true])
 (hr:AvLe (.tup [.int .i64 (i:Int),.int .i64 11]) res):G Try.prog E (f40K0 Try.prog) (f40S0 f l last i v1_0 v1_1 v1_2 v1_3 v1_4 ) :=
 Qc (n:=400) (evs:=[.b true,.auto,.auto,.ld (.agg (z40_4 de)),.v (z40_5 f v1_0 v1_1 v1_2 v1_3 v1_4 de),.b true,.b true]) (obs:=_) hE Try.func40 Qp (by kernel_rfl) ho hr
theorem p40_0_1 (f:Fair) (l:(List Dl)) (last:Int) (i:Nat) (v1_0:(List Int)) (v1_1:(List Int)) (v1_2:(List Pur)) (v1_3:(List Int)) (v1_4:Int) (de:Dl) {E:Env} {res:AV} (hE:Qg Try.prog 40 res E) (ho:AllP [(decide ((i:Int)<(l.length:Int)))=true,0≤(i:Int)∧(i:Int)<(l.length:Int),((Qu l).drop (0+(Int.toNat (i:Int))*5)).take 5=(z40_4 de),Qe Try.prog (.clos 100 [] []) (z40_6 f v1_0 v1_1 v1_2 v1_3 v1_4 de) (z40_5 f v1_0 v1_1 v1_2 v1_3 v1_4 de),5≤5,(!(Yl f (⟨v1_0,v1_1,v1_2,v1_3,v1_4⟩:Cnt) de).2)=false,0≤(i:Int)∧(i:Int)<(l.length:Int),((Qu l).drop ((0+(Int.toNat (i:Int))*5)+0)).take 1=[.int .i64 de.at_],Qe Try.prog (.clos 101 [] []) [.int .i64 de.at_,.int .i64 last,.int .i64 1440] (.bool (Qa de.at_ last 1440)),(!(Qa de.at_ last 1440))=true])
 (hr:AvLe (.tup [.int .i64 (i:Int),.int .i64 11]) res):G Try.prog E (f40K0 Try.prog) (f40S0 f l last i v1_0 v1_1 v1_2 v1_3 v1_4 ) :=
 Qc (n:=400) (evs:=[.b true,.auto,.auto,.ld (.agg (z40_4 de)),.v (z40_5 f v1_0 v1_1 v1_2 v1_3 v1_4 de),.b false,.ld (.int .i64 de.at_),.v (.bool (Qa de.at_ last 1440)),.b true]) (obs:=_) hE Try.func40 Qp (by kernel_rfl) ho hr
theorem p40_0_2 (f:Fair) (l:(List Dl)) (last:Int) (i:Nat) (v1_0:(List Int)) (v1_1:(List Int)) (v1_2:(List Pur)) (v1_3:(List Int)) (v1_4:Int) (de:Dl) {E:Env} {rv:AV} (hE:Qg Try.prog 40 rv E) (ho:AllP [(decide ((i:Int)<(l.length:Int)))=true,0≤(i:Int)∧(i:Int)<(l.length:Int),((Qu l).drop (0+(Int.toNat (i:Int))*5)).take 5=(z40_4 de),Qe Try.prog (.clos 100 [] []) (z40_6 f v1_0 v1_1 v1_2 v1_3 v1_4 de) (z40_5 f v1_0 v1_1 v1_2 v1_3 v1_4 de),5≤5,(!(Yl f (⟨v1_0,v1_1,v1_2,v1_3,v1_4⟩:Cnt) de).2)=false,0≤(i:Int)∧(i:Int)<(l.length:Int),((Qu l).drop ((0+(Int.toNat (i:Int))*5)+0)).take 1=[.int .i64 de.at_],Qe Try.prog (.clos 101 [] []) [.int .i64 de.at_,.int .i64 last,.int .i64 1440] (.bool (Qa de.at_ last 1440)),(!(Qa de.at_ last 1440))=false,0≤(i:Int)∧(i:Int)<(l.length:Int),((Qu l).drop ((0+(Int.toNat (i:Int))*5)+0)).take 1=[.int .i64 de.at_],5≤5,InR .i64 ((i:Int)+1)])
 (hg:G Try.prog E (f40K0 Try.prog) ⟨([J,.rsl (Qu l) 0 l.length,.ptr 0 0 0,J,J,J,J,.ptr 1 0 0,.int .i64 de.at_,.int .i64 ((i:Int)+1)]++Js 47),[⟨true,0,1,true,(KS f),false⟩,⟨true,0,1,true,(z40_1 f v1_0 v1_1 v1_2 v1_3 v1_4 de),false⟩]⟩):G Try.prog E (f40K0 Try.prog) (f40S0 f l last i v1_0 v1_1 v1_2 v1_3 v1_4 ) :=
 Ql (n:=400) (ds:=[]) (cs:=[]) (live:=[1,2,7,8,9]) (m:=2) (evs:=[.b true,.auto,.auto,.ld (.agg (z40_4 de)),.v (z40_5 f v1_0 v1_1 v1_2 v1_3 v1_4 de),.b false,.ld (.int .i64 de.at_),.v (.bool (Qa de.at_ last 1440)),.b false,.ld (.int .i64 de.at_),.stop]) (obs:=_) hE.2.1 (hE.nogh _) Qp (by kernel_rfl) ho hg
theorem p40_0_3 (f:Fair) (l:(List Dl)) (last:Int) (i:Nat) (v1_0:(List Int)) (v1_1:(List Int)) (v1_2:(List Pur)) (v1_3:(List Int)) (v1_4:Int) {E:Env} {res:AV} (hE:Qg Try.prog 40 res E) (ho:AllP [(decide ((i:Int)<(l.length:Int)))=false])
 (hr:AvLe (.tup [.int .i64 0,.int .i64 0]) res):G Try.prog E (f40K0 Try.prog) (f40S0 f l last i v1_0 v1_1 v1_2 v1_3 v1_4 ) :=
 Qc (n:=400) (evs:=[.b false]) (obs:=_) hE Try.func40 Qp (by kernel_rfl) ho hr
theorem f40W0 (f:Fair) (l:(List Dl)) (last:Int) (i:Nat) (v1_0:(List Int)) (v1_1:(List Int)) (v1_2:(List Pur)) (v1_3:(List Int)) (v1_4:Int) {E:Env} {rv:(Int × Int)} (hE:Qg Try.prog 40 (.tup [.int .i64 rv.1,.int .i64 rv.2]) E)
 (h:(((i:Int)<(l.length:Int)→(∃ de:Dl,l[i]?=some de∧((StepIn f (⟨v1_0,v1_1,v1_2,v1_3,v1_4⟩:Cnt))∧(((!(Yl f (⟨v1_0,v1_1,v1_2,v1_3,v1_4⟩:Cnt) de).2)=true→rv=((i:Int),11))∧((!(Yl f (⟨v1_0,v1_1,v1_2,v1_3,v1_4⟩:Cnt) de).2)=false→(((Qa de.at_ last 1440)=false→rv=((i:Int),11))∧((Qa de.at_ last 1440)=true→((I6 ((i:Int)+1))∧f40G0 E f l de.at_ (i+1) (((Yl f (⟨v1_0,v1_1,v1_2,v1_3,v1_4⟩:Cnt) de).1).stk) (((Yl f (⟨v1_0,v1_1,v1_2,v1_3,v1_4⟩:Cnt) de).1).csh) (((Yl f (⟨v1_0,v1_1,v1_2,v1_3,v1_4⟩:Cnt) de).1).prs) (((Yl f (⟨v1_0,v1_1,v1_2,v1_3,v1_4⟩:Cnt) de).1).bxs) (((Yl f (⟨v1_0,v1_1,v1_2,v1_3,v1_4⟩:Cnt) de).1).lst)))))))))∧(¬ ((i:Int)<(l.length:Int))→rv=(0,0)))):f40G0 E f l last i v1_0 v1_1 v1_2 v1_3 v1_4:=by
 rcases bft (decide ((i:Int)<(l.length:Int))) with hc0 | hc0
 · have h:=h.1 (odt hc0)
   obtain ⟨de,h1,h⟩:=h
   obtain ⟨h2,h⟩:=h
   rcases bft (!(Yl f (⟨v1_0,v1_1,v1_2,v1_3,v1_4⟩:Cnt) de).2) with hc1 | hc1
   · have h:=h.1 hc1
     exact p40_0_0 f l last i v1_0 v1_1 v1_2 v1_3 v1_4 de hE ⟨hc0,(QF h1),(rp cDl 5 0 5 h1),(u100 (Step_ok f (⟨v1_0,v1_1,v1_2,v1_3,v1_4⟩:Cnt) de h2)),(by decide),hc1,rfl,trivial⟩ (AvLe.of_eq (by rw [h]; try rfl))
   · have h:=h.2 hc1
     rcases bft (!(Qa de.at_ last 1440)) with hc2 | hc2
     · have h:=h.1 (bnT hc2)
       exact p40_0_1 f l last i v1_0 v1_1 v1_2 v1_3 v1_4 de hE ⟨hc0,(QF h1),(rp cDl 5 0 5 h1),(u100 (Step_ok f (⟨v1_0,v1_1,v1_2,v1_3,v1_4⟩:Cnt) de h2)),(by decide),hc1,(QF h1),(rp cDl 5 0 1 h1),(u101 (Qb de.at_ last 1440)),hc2,trivial⟩ (AvLe.of_eq (by rw [h]; try rfl))
     · have h:=h.2 (bnF hc2)
       obtain ⟨q14_3,h⟩:=h
       exact p40_0_2 f l last i v1_0 v1_1 v1_2 v1_3 v1_4 de hE ⟨hc0,(QF h1),(rp cDl 5 0 5 h1),(u100 (Step_ok f (⟨v1_0,v1_1,v1_2,v1_3,v1_4⟩:Cnt) de h2)),(by decide),hc1,(QF h1),(rp cDl 5 0 1 h1),(u101 (Qb de.at_ last 1440)),hc2,(QF h1),(rp cDl 5 0 1 h1),(by decide),q14_3,trivial⟩ h
 · have h:=h.2 (odf hc0)
   exact p40_0_3 f l last i v1_0 v1_1 v1_2 v1_3 v1_4 hE ⟨hc0,trivial⟩ (AvLe.of_eq (by rw [h]; try rfl))
theorem happT_last {T:Frs} {d:Dl}:(Qv T d).last=d.at_:=by
 unfold Qv; repeat' split
 all_goals rfl
theorem Yc (f:Fair) (l:List Dl) (h:Vs f l):Pure Try.prog 40 [.agg [.int .i64 f.purses,.int .i64 f.boxes,.rsl (rowI f.stock) 0 f.stock.length,.rsl (rowI f.cash) 0 f.cash.length,.rsl (Qr f.bundles) 0 f.bundles.length,.int .i64 f.refund,.int .i64 f.band,.int .i64 f.hours],.rsl (Qu l) 0 l.length] (.tup [.int .i64 (QH f l).1,.int .i64 (QH f l).2]):=QC Try.func40 f40b fun E hE=>by
 refine f40W f l (rv:=QH f l) hE ⟨h,fun e=>by rw [QH,if_neg e],fun hf=>⟨fun e=>by rw [QH,if_pos hf,if_pos e],fun hlen=>?_⟩⟩
 have v:=qG hf
 refine ⟨⟨by have:=v.st.1; omega,by have:=v.ca.1; have:=v.st.1; omega,by have:=v.pu; omega,by have:=v.bo; omega⟩,?_⟩
 have hb6:f.bundles.length≤6:=v.bn.1
 have key:∀ (d i:Nat) (T:Frs),i+d=l.length→T.f=f→FOk T i→Wx (Qi f) l 0=Wx T (l.drop i) i→f40G0 E f l T.last i (cntT T).stk (cntT T).csh (cntT T).prs (cntT T).bxs (cntT T).lst:=by
  intro d
  induction d with
  | zero =>
   intro i T hd e1 hF hb
   rw [List.drop_eq_nil_of_le (by omega)] at hb
   exact f40W0 f l _ i _ _ _ _ _ (rv:=QH f l) hE ⟨fun h=>by omega,fun _=>by rw [QH,if_pos hf,if_neg hlen,hb]; rfl⟩
  | succ d ih =>
   intro i T hd e1 hF hb
   have hg:l[i]?=some l[i]:=List.getElem?_eq_getElem (by omega)
   have hdr:l.drop i=l[i] :: l.drop (i+1):=List.drop_eq_getElem_cons (by omega)
   rw [hdr] at hb
   generalize l[i]=x at hg hb
   have hin:StepIn f (cntT T):=by rw [← e1]; exact stepIn_of hF (by omega) (by rw [e1]; exact hb6)
   have hbad:posT T x=false→QH f l=((i:Int),11):=fun hp=>by
    rw [QH,if_pos hf,if_neg hlen,hb,Wx,if_neg (by rw [hp]; simp)]; rfl
   have hsB:YC (XJ f (cntT T)) x=YC T x:=by rw [← e1]; rfl
   refine f40W0 f l _ i _ _ _ _ _ (rv:=QH f l) hE ⟨fun _=>⟨x,hg,hin,fun hn=>?_,fun hn=>⟨fun hw=>?_,fun hw=>⟨by omega,?_⟩⟩⟩,fun h=>by omega⟩
   · refine hbad ?_
     rw [qA]
     cases hs:YC T x with
     | false=>simp
     | true=>rw [show Yl f (⟨(cntT T).stk,(cntT T).csh,(cntT T).prs,(cntT T).bxs,(cntT T).lst⟩:Cnt) x=_ from QaQ (hsB.trans hs)] at hn; cases hn
   · refine hbad ?_
     rw [qA,hw]; rfl
   · have hs:YC T x=true:=by
      cases hs:YC T x with
      | true=>rfl
      | false=>rw [show Yl f (⟨(cntT T).stk,(cntT T).csh,(cntT T).prs,(cntT T).bxs,(cntT T).lst⟩:Cnt) x=_ from Xj (hsB.trans hs)] at hn; cases hn
     have hp:posT T x=true:=by rw [qA,hw,hs]; rfl
     have w:=Qq.1 hw
     have hla:=hF.la
     have es:Yl f (⟨(cntT T).stk,(cntT T).csh,(cntT T).prs,(cntT T).bxs,(cntT T).lst⟩:Cnt) x=(cntT (Qv T x),true):=by
      refine (QaQ (hsB.trans hs)).trans ?_
      rw [adjD_t (by omega) v.hours]
      have hc:=happ_cnt (T:=T) (d:=x)
      rw [e1] at hc
      exact congrArg (fun c=>(c,true)) hc
     rw [es]
     have nx:=ih (i+1) (Qv T x) (by omega) (by rw [happT_f]; exact e1) (qf hF hp (by omega)) (by rw [hb,Wx,if_pos hp])
     rw [happT_last] at nx
     exact nx
 exact key l.length 0 (Qi f) (by omega) rfl (Wu hf) rfl
end Go.Proofs.Ytemklbioijmjiaa
namespace Go.Proofs.Ytemklbioijmjiaa
open Go Ax
open Go.Proofs
theorem Qo:Try.prog.follows .mixedOrders=true:=by kernel_rfl
theorem f220b:Try.f220.body=some (Qd Try.prog 220):=by kernel_rfl
theorem u220 {a c k:List AV} {r:AV} (h:Pure Try.prog 220 (a++c++k) r):Qe Try.prog (.clos 220 a k) c r:=Qs Try.func220 (by kernel_rfl) f220b h
theorem p220_start_0 (n:Int) {E:Env} {res:AV} (hE:Qg Try.prog 220 res E) (ho:AllP [])
 (hr:AvLe (.bool (n != n)) res):G Try.prog E [.code (Qd Try.prog 220)] ⟨[.int .i64 n]++unds (Try.f220.ntmps - 1),[]⟩ :=
 Qc (n:=400) (evs:=[]) (obs:=_) hE Try.func220 Qo (by kernel_rfl) ho hr
theorem f220W (n:Int) {E:Env} {rv:Bool} (hE:Qg Try.prog 220 (.bool rv) E)
 (h:rv=(n != n)):G Try.prog E [.code (Qd Try.prog 220)] ⟨[.int .i64 n]++unds (Try.f220.ntmps - 1),[]⟩:=by
 exact p220_start_0 n hE trivial (AvLe.of_eq (by rw [h]; try rfl))
theorem Yo (n:Int):Pure Try.prog 220 [.int .i64 n] (.bool false):=QC Try.func220 f220b fun E hE=>by
 exact f220W n hE (by simp)
theorem f162b:Try.f162.body=some (Qd Try.prog 162):=by kernel_rfl
theorem u162 {a c k:List AV} {r:AV} (h:Pure Try.prog 162 (a++c++k) r):Qe Try.prog (.clos 162 a k) c r:=Qs Try.func162 (by kernel_rfl) f162b h
theorem p162_start_0 (x:Int) (y:Int) {E:Env} {res:AV} (hE:Qg Try.prog 162 res E) (ho:AllP [Qe Try.prog (.clos 220 [] []) [.int .i64 x] (.bool false),Qe Try.prog (.clos 220 [] []) [.int .i64 y] (.bool false),false=true,false=true])
 (hr:AvLe (.int .i64 0) res):G Try.prog E [.code (Qd Try.prog 162)] ⟨[.int .i64 x,.int .i64 y]++unds (Try.f162.ntmps - 2),[]⟩ :=
 Qc (n:=400) (evs:=[.v (.bool false),.v (.bool false),.b true,.b true]) (obs:=_) hE Try.func162 Qo (by kernel_rfl) ho hr
theorem p162_start_1 (x:Int) (y:Int) {E:Env} {res:AV} (hE:Qg Try.prog 162 res E) (ho:AllP [Qe Try.prog (.clos 220 [] []) [.int .i64 x] (.bool false),Qe Try.prog (.clos 220 [] []) [.int .i64 y] (.bool false),false=true,false=false])
 (hr:AvLe (.int .i64 (-1)) res):G Try.prog E [.code (Qd Try.prog 162)] ⟨[.int .i64 x,.int .i64 y]++unds (Try.f162.ntmps - 2),[]⟩ :=
 Qc (n:=400) (evs:=[.v (.bool false),.v (.bool false),.b true,.b false]) (obs:=_) hE Try.func162 Qo (by kernel_rfl) ho hr
theorem p162_start_2 (x:Int) (y:Int) {E:Env} {res:AV} (hE:Qg Try.prog 162 res E) (ho:AllP [Qe Try.prog (.clos 220 [] []) [.int .i64 x] (.bool false),Qe Try.prog (.clos 220 [] []) [.int .i64 y] (.bool false),false=false,false=true])
 (hr:AvLe (.int .i64 1) res):G Try.prog E [.code (Qd Try.prog 162)] ⟨[.int .i64 x,.int .i64 y]++unds (Try.f162.ntmps - 2),[]⟩ :=
 Qc (n:=400) (evs:=[.v (.bool false),.v (.bool false),.b false,.b true]) (obs:=_) hE Try.func162 Qo (by kernel_rfl) ho hr
theorem p162_start_3 (x:Int) (y:Int) {E:Env} {res:AV} (hE:Qg Try.prog 162 res E) (ho:AllP [Qe Try.prog (.clos 220 [] []) [.int .i64 x] (.bool false),Qe Try.prog (.clos 220 [] []) [.int .i64 y] (.bool false),false=false,false=false,(decide (x<y))=true])
 (hr:AvLe (.int .i64 (-1)) res):G Try.prog E [.code (Qd Try.prog 162)] ⟨[.int .i64 x,.int .i64 y]++unds (Try.f162.ntmps - 2),[]⟩ :=
 Qc (n:=400) (evs:=[.v (.bool false),.v (.bool false),.b false,.b false,.b true]) (obs:=_) hE Try.func162 Qo (by kernel_rfl) ho hr
theorem p162_start_4 (x:Int) (y:Int) {E:Env} {res:AV} (hE:Qg Try.prog 162 res E) (ho:AllP [Qe Try.prog (.clos 220 [] []) [.int .i64 x] (.bool false),Qe Try.prog (.clos 220 [] []) [.int .i64 y] (.bool false),false=false,false=false,(decide (x<y))=false,(decide (x > y))=true])
 (hr:AvLe (.int .i64 1) res):G Try.prog E [.code (Qd Try.prog 162)] ⟨[.int .i64 x,.int .i64 y]++unds (Try.f162.ntmps - 2),[]⟩ :=
 Qc (n:=400) (evs:=[.v (.bool false),.v (.bool false),.b false,.b false,.b false,.b true]) (obs:=_) hE Try.func162 Qo (by kernel_rfl) ho hr
theorem p162_start_5 (x:Int) (y:Int) {E:Env} {res:AV} (hE:Qg Try.prog 162 res E) (ho:AllP [Qe Try.prog (.clos 220 [] []) [.int .i64 x] (.bool false),Qe Try.prog (.clos 220 [] []) [.int .i64 y] (.bool false),false=false,false=false,(decide (x<y))=false,(decide (x > y))=false])
 (hr:AvLe (.int .i64 0) res):G Try.prog E [.code (Qd Try.prog 162)] ⟨[.int .i64 x,.int .i64 y]++unds (Try.f162.ntmps - 2),[]⟩ :=
 Qc (n:=400) (evs:=[.v (.bool false),.v (.bool false),.b false,.b false,.b false,.b false]) (obs:=_) hE Try.func162 Qo (by kernel_rfl) ho hr
theorem f162W (x:Int) (y:Int) {E:Env} {rv:Int} (hE:Qg Try.prog 162 (.int .i64 rv) E)
 (h:((false=true→((false=true→rv=0)∧(false=false→rv=(-1))))∧(false=false→((false=true→rv=1)∧(false=false→((x<y→rv=(-1))∧(¬ (x<y)→((x > y→rv=1)∧(¬ (x > y)→rv=0))))))))):G Try.prog E [.code (Qd Try.prog 162)] ⟨[.int .i64 x,.int .i64 y]++unds (Try.f162.ntmps - 2),[]⟩:=by
 rcases bft false with hc0 | hc0
 · have h:=h.1 hc0
   rcases bft false with hc1 | hc1
   · have h:=h.1 hc1
     exact p162_start_0 x y hE ⟨(u220 (Yo x)),(u220 (Yo y)),hc0,hc1,trivial⟩ (AvLe.of_eq (by rw [h]; try rfl))
   · have h:=h.2 hc1
     exact p162_start_1 x y hE ⟨(u220 (Yo x)),(u220 (Yo y)),hc0,hc1,trivial⟩ (AvLe.of_eq (by rw [h]; try rfl))
 · have h:=h.2 hc0
   rcases bft false with hc1 | hc1
   · have h:=h.1 hc1
     exact p162_start_2 x y hE ⟨(u220 (Yo x)),(u220 (Yo y)),hc0,hc1,trivial⟩ (AvLe.of_eq (by rw [h]; try rfl))
   · have h:=h.2 hc1
     rcases bft (decide (x<y)) with hc2 | hc2
     · have h:=h.1 (odt hc2)
       exact p162_start_3 x y hE ⟨(u220 (Yo x)),(u220 (Yo y)),hc0,hc1,hc2,trivial⟩ (AvLe.of_eq (by rw [h]; try rfl))
     · have h:=h.2 (odf hc2)
       rcases bft (decide (x > y)) with hc3 | hc3
       · have h:=h.1 (odt hc3)
         exact p162_start_4 x y hE ⟨(u220 (Yo x)),(u220 (Yo y)),hc0,hc1,hc2,hc3,trivial⟩ (AvLe.of_eq (by rw [h]; try rfl))
       · have h:=h.2 (odf hc3)
         exact p162_start_5 x y hE ⟨(u220 (Yo x)),(u220 (Yo y)),hc0,hc1,hc2,hc3,trivial⟩ (AvLe.of_eq (by rw [h]; try rfl))
def cmpI (x y:Int):Int:=if x<y then -1 else if x > y then 1 else 0
theorem cmp_ok (x y:Int):Pure Try.prog 162 [.int .i64 x,.int .i64 y] (.int .i64 (cmpI x y)):=QC Try.func162 f162b fun E hE=>by
 exact f162W x y hE ⟨by simp,fun _=>⟨by simp,fun _=>⟨fun h=>by simp [cmpI,h],fun h=>⟨fun h'=>by simp [cmpI,h,h'],fun h'=>by simp [cmpI,h,h']⟩⟩⟩⟩
theorem f159b:Try.f159.body=some (Qd Try.prog 159):=by kernel_rfl
theorem u159 {a c k:List AV} {r:AV} (h:Pure Try.prog 159 (a++c++k) r):Qe Try.prog (.clos 159 a k) c r:=Qs Try.func159 (by kernel_rfl) f159b h
theorem p159_start_0 (i:Int) (c:Int) (ws:List Int) (al:Int) (e:Int) {E:Env} {res:AV} (hE:Qg Try.prog 159 res E) (ho:AllP [0≤i∧i<(ws.length:Int),((rowI ws).drop (0+(Int.toNat i)*1)).take 1=[.int .i64 e],InR .i64 (c*e),al ≠ 0])
 (hr:AvLe (.int .i64 (Int.tmod (c*e) al)) res):G Try.prog E [.code (Qd Try.prog 159)] ⟨[.int .i64 i,.rptr [.int .i64 c] 0,.rptr [.rsl (rowI ws) 0 ws.length] 0,.rptr [.int .i64 al] 0]++unds (Try.f159.ntmps - 4),[]⟩ :=
 Qc (n:=400) (evs:=[.auto,.auto,.ld (.int .i64 e)]) (obs:=_) hE Try.func159 Qo (by kernel_rfl) ho hr
theorem f159W (i:Int) (c:Int) (ws:List Int) (al:Int) {E:Env} {rv:Int} (hE:Qg Try.prog 159 (.int .i64 rv) E)
 (h:(0≤i∧(∃ e:Int,ws[Int.toNat i]?=some e∧((I6 (c*e))∧(al ≠ 0∧rv=(Int.tmod (c*e) al)))))):G Try.prog E [.code (Qd Try.prog 159)] ⟨[.int .i64 i,.rptr [.int .i64 c] 0,.rptr [.rsl (rowI ws) 0 ws.length] 0,.rptr [.int .i64 al] 0]++unds (Try.f159.ntmps - 4),[]⟩:=by
 obtain ⟨h2,h⟩:=h
 obtain ⟨e,h1,h⟩:=h
 obtain ⟨q3_0,h⟩:=h
 obtain ⟨q4_0,h⟩:=h
 exact p159_start_0 i c ws al e hE ⟨(Qn h2 h1),(rp cI 1 0 1 h1),q3_0,q4_0,trivial⟩ (AvLe.of_eq (by rw [h]; try rfl))
theorem f110b:Try.f110.body=some (Qd Try.prog 110):=by kernel_rfl
theorem u110 {a c k:List AV} {r:AV} (h:Pure Try.prog 110 (a++c++k) r):Qe Try.prog (.clos 110 a k) c r:=Qs Try.func110 (by kernel_rfl) f110b h
theorem p110_start_0 (n:Int) (lo:Int) (hi:Int) {E:Env} {res:AV} (hE:Qg Try.prog 110 res E) (ho:AllP [(decide (n≥lo))=true])
 (hr:AvLe (.bool (decide (n≤hi))) res):G Try.prog E [.code (Qd Try.prog 110)] ⟨[.int .i64 n,.int .i64 lo,.int .i64 hi]++unds (Try.f110.ntmps - 3),[]⟩ :=
 Qc (n:=400) (evs:=[.b true]) (obs:=_) hE Try.func110 Qo (by kernel_rfl) ho hr
theorem p110_start_1 (n:Int) (lo:Int) (hi:Int) {E:Env} {res:AV} (hE:Qg Try.prog 110 res E) (ho:AllP [(decide (n≥lo))=false])
 (hr:AvLe (.bool false) res):G Try.prog E [.code (Qd Try.prog 110)] ⟨[.int .i64 n,.int .i64 lo,.int .i64 hi]++unds (Try.f110.ntmps - 3),[]⟩ :=
 Qc (n:=400) (evs:=[.b false]) (obs:=_) hE Try.func110 Qo (by kernel_rfl) ho hr
theorem f110W (n:Int) (lo:Int) (hi:Int) {E:Env} {rv:Bool} (hE:Qg Try.prog 110 (.bool rv) E)
 (h:((n≥lo→rv=(decide (n≤hi)))∧(¬ (n≥lo)→rv=false))):G Try.prog E [.code (Qd Try.prog 110)] ⟨[.int .i64 n,.int .i64 lo,.int .i64 hi]++unds (Try.f110.ntmps - 3),[]⟩:=by
 rcases bft (decide (n≥lo)) with hc0 | hc0
 · have h:=h.1 (odt hc0)
   exact p110_start_0 n lo hi hE ⟨hc0,trivial⟩ (AvLe.of_eq (by rw [h]; try rfl))
 · have h:=h.2 (odf hc0)
   exact p110_start_1 n lo hi hE ⟨hc0,trivial⟩ (AvLe.of_eq (by rw [h]; try rfl))
def Qk (n lo hi:Int):Bool:=decide (n≥lo) && decide (n≤hi)
theorem Xz (n lo hi:Int):Pure Try.prog 110 [.int .i64 n,.int .i64 lo,.int .i64 hi] (.bool (Qk n lo hi)):=QC Try.func110 f110b fun E hE=>by
 refine f110W n lo hi hE ⟨fun h=>by simp [Qk,h],fun h=>by simp only [Qk]; rw [decide_eq_false h]; rfl⟩
/-- The remainder by which the cents are handed out. -/
def keyI (c:Int) (ws:List Int) (al i:Int):Int:=Int.tmod (c*ws.getD (Int.toNat i) 0) al
def VS (c:Int) (ws:List Int) (al i:Int):Prop:=0≤i∧i<ws.length∧(-9223372036854775808≤c*ws.getD (Int.toNat i) 0∧c*ws.getD (Int.toNat i) 0≤9223372036854775807)∧al ≠ 0
theorem key_ok (c:Int) (ws:List Int) (al i:Int) (h:VS c ws al i):Pure Try.prog 159 [.int .i64 i,.rptr [.int .i64 c] 0,.rptr [.rsl (rowI ws) 0 ws.length] 0,.rptr [.int .i64 al] 0] (.int .i64 (keyI c ws al i)):=QC Try.func159 f159b fun E hE=>by
 obtain ⟨h0,h1,h2,h3⟩:=h
 have hi:ws[Int.toNat i]?=some (ws.getD (Int.toNat i) 0):=by simp [List.getD,show Int.toNat i<ws.length by omega]
 exact f159W i c ws al hE ⟨h0,_,hi,h2,h3,rfl⟩
theorem f161b:Try.f161.body=some (Qd Try.prog 161):=by kernel_rfl
theorem u161 {a c k:List AV} {r:AV} (h:Pure Try.prog 161 (a++c++k) r):Qe Try.prog (.clos 161 a k) c r:=Qs Try.func161 (by kernel_rfl) f161b h
theorem p161_start_0 (a:Int) (b:Int) (c:Int) (ws:List Int) (al:Int) {E:Env} {res:AV} (hE:Qg Try.prog 161 res E) (ho:AllP [Qe Try.prog (.clos 159 [] [.rptr [.int .i64 c] 0,.rptr [.rsl (rowI ws) 0 ws.length] 0,.rptr [.int .i64 al] 0]) [.int .i64 b] (.int .i64 (keyI c ws al b)),Qe Try.prog (.clos 159 [] [.rptr [.int .i64 c] 0,.rptr [.rsl (rowI ws) 0 ws.length] 0,.rptr [.int .i64 al] 0]) [.int .i64 a] (.int .i64 (keyI c ws al a)),Qe Try.prog (.clos 162 [] []) [.int .i64 (keyI c ws al b),.int .i64 (keyI c ws al a)] (.int .i64 (cmpI (keyI c ws al b) (keyI c ws al a)))])
 (hr:AvLe (.int .i64 (cmpI (keyI c ws al b) (keyI c ws al a))) res):G Try.prog E [.code (Qd Try.prog 161)] ⟨[.int .i64 a,.int .i64 b,.rptr [.clos 159 [] [.rptr [.int .i64 c] 0,.rptr [.rsl (rowI ws) 0 ws.length] 0,.rptr [.int .i64 al] 0]] 0]++unds (Try.f161.ntmps - 3),[]⟩ :=
 Qc (n:=400) (evs:=[.v (.int .i64 (keyI c ws al b)),.v (.int .i64 (keyI c ws al a)),.v (.int .i64 (cmpI (keyI c ws al b) (keyI c ws al a)))]) (obs:=_) hE Try.func161 Qo (by kernel_rfl) ho hr
theorem f161W (a:Int) (b:Int) (c:Int) (ws:List Int) (al:Int) {E:Env} {rv:Int} (hE:Qg Try.prog 161 (.int .i64 rv) E)
 (h:((VS c ws al b)∧((VS c ws al a)∧rv=(cmpI (keyI c ws al b) (keyI c ws al a))))):G Try.prog E [.code (Qd Try.prog 161)] ⟨[.int .i64 a,.int .i64 b,.rptr [.clos 159 [] [.rptr [.int .i64 c] 0,.rptr [.rsl (rowI ws) 0 ws.length] 0,.rptr [.int .i64 al] 0]] 0]++unds (Try.f161.ntmps - 3),[]⟩:=by
 obtain ⟨h1,h⟩:=h
 obtain ⟨h2,h⟩:=h
 exact p161_start_0 a b c ws al hE ⟨(u159 (key_ok c ws al b h1)),(u159 (key_ok c ws al a h2)),(u162 (cmp_ok (keyI c ws al b) (keyI c ws al a))),trivial⟩ (AvLe.of_eq (by rw [h]; try rfl))
def yp (c:Int) (ws:List Int) (al a b:Int):Int:=cmpI (keyI c ws al b) (keyI c ws al a)
theorem less_ok (c:Int) (ws:List Int) (al a b:Int) (h:VS c ws al b∧VS c ws al a):Pure Try.prog 161 [.int .i64 a,.int .i64 b,.rptr [.clos 159 [] [.rptr [.int .i64 c] 0,.rptr [.rsl (rowI ws) 0 ws.length] 0,.rptr [.int .i64 al] 0]] 0] (.int .i64 (yp c ws al a b)):=QC Try.func161 f161b fun E hE =>
 f161W a b c ws al hE ⟨h.1,h.2,rfl⟩
end Go.Proofs.Ytemklbioijmjiaa
namespace Go.Proofs.Ytemklbioijmjiaa
open Go Ax
open Go.Proofs
theorem f262b:Try.f262.body=some (Qd Try.prog 262):=by kernel_rfl
def Qay (P:Program):List Item:=kAt 400 [.code (Qd P 262)] [.stop]
def f262S0 (a:Int) (b:Int) (l:List Int) (c:Int) (ws:List Int) (al:Int) (n0:Nat) (v0:List Int) (i:Int):St:=⟨([.sl 0 n0 0 v0.length 1,.int .i64 a,.int .i64 b,.clos 161 [] [.ptr 1 0 0],J,J,J,J,.int .i64 i]++Js 44),[⟨true,n0,1,true,(rowI v0),true⟩,⟨true,0,1,false,[.clos 159 [] [.ptr 2 0 0,.ptr 3 0 0,.ptr 4 0 0]],false⟩,⟨true,0,1,true,[.int .i64 c],false⟩,⟨true,0,1,true,[.rsl (rowI ws) 0 ws.length],false⟩,⟨true,0,1,true,[.int .i64 al],false⟩]⟩
def Qaz (E:Env) (a:Int) (b:Int) (l:List Int) (c:Int) (ws:List Int) (al:Int) (n0:Nat) (v0:List Int) (i:Int):Prop:=G Try.prog E (Qay Try.prog) (f262S0 a b l c ws al n0 v0 i )
def Qax (P:Program):List Item:=kAt 400 [.code (Qd P 262)] [.b true,.stop]
def f262S1 (a:Int) (b:Int) (l:List Int) (c:Int) (ws:List Int) (al:Int) (n0:Nat) (j:Int) (v0:List Int) (i:Int):St:=⟨([.sl 0 n0 0 v0.length 1,.int .i64 a,.int .i64 b,.clos 161 [] [.ptr 1 0 0],J,J,J,J,.int .i64 i,.int .i64 j]++Js 43),[⟨true,n0,1,true,(rowI v0),true⟩,⟨true,0,1,false,[.clos 159 [] [.ptr 2 0 0,.ptr 3 0 0,.ptr 4 0 0]],false⟩,⟨true,0,1,true,[.int .i64 c],false⟩,⟨true,0,1,true,[.rsl (rowI ws) 0 ws.length],false⟩,⟨true,0,1,true,[.int .i64 al],false⟩]⟩
def f262G1 (E:Env) (a:Int) (b:Int) (l:List Int) (c:Int) (ws:List Int) (al:Int) (n0:Nat) (j:Int) (v0:List Int) (i:Int):Prop:=G Try.prog E (Qax Try.prog) (f262S1 a b l c ws al n0 j v0 i )
abbrev z262_1 (n0:Nat) (v0:List Int) (c:Int) (ws:List Int) (al:Int):List Blk:=[⟨true,n0,1,true,(rowI v0),true⟩,⟨true,0,1,false,[.clos 159 [] [.ptr 2 0 0,.ptr 3 0 0,.ptr 4 0 0]],false⟩,⟨true,0,1,true,[.int .i64 c],false⟩,⟨true,0,1,true,[.rsl (rowI ws) 0 ws.length],false⟩,⟨true,0,1,true,[.int .i64 al],false⟩]
abbrev z262_2 (n0:Nat) (l:List Int) (c:Int) (ws:List Int) (al:Int):List Blk:=[⟨true,n0,1,true,(rowI l),true⟩,⟨true,0,1,false,[.clos 159 [] [.ptr 2 0 0,.ptr 3 0 0,.ptr 4 0 0]],false⟩,⟨true,0,1,true,[.int .i64 c],false⟩,⟨true,0,1,true,[.rsl (rowI ws) 0 ws.length],false⟩,⟨true,0,1,true,[.int .i64 al],false⟩]
theorem p262_start_0 (a:Int) (b:Int) (l:List Int) (c:Int) (ws:List Int) (al:Int) (n0:Nat) {E:Env} {rv:AV} {bs2:List Blk} (hE:LentE Try.prog 262 [.sl 4 0 0 0 1] rv bs2 E) (ho:AllP [InR .i64 (a+1)])
 (hg:G Try.prog E (Qay Try.prog) ⟨([.sl 0 n0 0 l.length 1,.int .i64 a,.int .i64 b,.clos 161 [] [.ptr 1 0 0],J,J,J,J,.int .i64 (a+1)]++Js 44),(z262_2 n0 l c ws al)⟩):G Try.prog E [.code (Qd Try.prog 262)] ⟨[.sl 0 n0 0 l.length 1,.int .i64 a,.int .i64 b,.clos 161 [] [.ptr 1 0 0]]++unds (Try.f262.ntmps - 4),(z262_2 n0 l c ws al)⟩ :=
 Ql (n:=400) (ds:=[]) (cs:=[]) (live:=[0,1,2,3,8]) (m:=5) (evs:=[.stop]) (obs:=_) hE.kind (hE.nogh (by kernel_rfl)) Qo (by kernel_rfl) ho hg
theorem f262W (a:Int) (b:Int) (l:List Int) (c:Int) (ws:List Int) (al:Int) (n0:Nat) {E:Env} {rv:Unit} {lo:List Int} (hE:LentE Try.prog 262 [.sl 4 0 0 0 1] (.tup []) [⟨true,n0,1,true,(rowI lo),true⟩,⟨true,0,1,false,[.clos 159 [] [.ptr 2 0 0,.ptr 3 0 0,.ptr 4 0 0]],false⟩,⟨true,0,1,true,[.int .i64 c],false⟩,⟨true,0,1,true,[.rsl (rowI ws) 0 ws.length],false⟩,⟨true,0,1,true,[.int .i64 al],false⟩] E)
 (h:((I6 (a+1))∧Qaz E a b l c ws al n0 l (a+1))):G Try.prog E [.code (Qd Try.prog 262)] ⟨[.sl 0 n0 0 l.length 1,.int .i64 a,.int .i64 b,.clos 161 [] [.ptr 1 0 0]]++unds (Try.f262.ntmps - 4),[⟨true,n0,1,true,(rowI l),true⟩,⟨true,0,1,false,[.clos 159 [] [.ptr 2 0 0,.ptr 3 0 0,.ptr 4 0 0]],false⟩,⟨true,0,1,true,[.int .i64 c],false⟩,⟨true,0,1,true,[.rsl (rowI ws) 0 ws.length],false⟩,⟨true,0,1,true,[.int .i64 al],false⟩]⟩:=by
 obtain ⟨q0_0,h⟩:=h
 exact p262_start_0 a b l c ws al n0 hE ⟨q0_0,trivial⟩ h
theorem p262_0_0 (a:Int) (b:Int) (l:List Int) (c:Int) (ws:List Int) (al:Int) (n0:Nat) (v0:List Int) (i:Int) {E:Env} {rv:AV} {bs2:List Blk} (hE:LentE Try.prog 262 [.sl 4 0 0 0 1] rv bs2 E) (ho:AllP [(decide (i<b))=true])
 (hg:G Try.prog E (Qax Try.prog) ⟨([.sl 0 n0 0 v0.length 1,.int .i64 a,.int .i64 b,.clos 161 [] [.ptr 1 0 0],J,J,J,J,.int .i64 i,.int .i64 i]++Js 43),(z262_1 n0 v0 c ws al)⟩):G Try.prog E (Qay Try.prog) (f262S0 a b l c ws al n0 v0 i ) :=
 Ql (n:=400) (ds:=[]) (cs:=[]) (live:=[0,1,2,3,8,9]) (m:=5) (evs:=[.b true,.stop]) (obs:=_) hE.kind (hE.nogh (by kernel_rfl)) Qo (by kernel_rfl) ho hg
theorem p262_0_1 (a:Int) (b:Int) (l:List Int) (c:Int) (ws:List Int) (al:Int) (n0:Nat) (v0:List Int) (i:Int) {E:Env} {res:AV} {bs2:List Blk} (hE:LentE Try.prog 262 [.sl 4 0 0 0 1] res bs2 E) (ho:AllP [(decide (i<b))=false])
 (hr:(.tup [])=res) (hb:(z262_1 n0 v0 c ws al)=bs2):G Try.prog E (Qay Try.prog) (f262S0 a b l c ws al n0 v0 i ) :=
 QV (n:=400) (live:=[]) (m:=5) (evs:=[.b false]) (obs:=_) hE (hE.nogh (by kernel_rfl)) Try.func262 Qo (by kernel_rfl) ho hr hb
theorem f262W0 (a:Int) (b:Int) (l:List Int) (c:Int) (ws:List Int) (al:Int) (n0:Nat) (v0:List Int) (i:Int) {E:Env} {rv:Unit} {lo:List Int} (hE:LentE Try.prog 262 [.sl 4 0 0 0 1] (.tup []) [⟨true,n0,1,true,(rowI lo),true⟩,⟨true,0,1,false,[.clos 159 [] [.ptr 2 0 0,.ptr 3 0 0,.ptr 4 0 0]],false⟩,⟨true,0,1,true,[.int .i64 c],false⟩,⟨true,0,1,true,[.rsl (rowI ws) 0 ws.length],false⟩,⟨true,0,1,true,[.int .i64 al],false⟩] E)
 (h:((i<b→f262G1 E a b l c ws al n0 i v0 i)∧(¬ (i<b)→lo=v0))):Qaz E a b l c ws al n0 v0 i:=by
 rcases bft (decide (i<b)) with hc0 | hc0
 · have h:=h.1 (odt hc0)
   exact p262_0_0 a b l c ws al n0 v0 i hE ⟨hc0,trivial⟩ h
 · have h:=h.2 (odf hc0)
   have qe0:=h
   exact p262_0_1 a b l c ws al n0 v0 i hE ⟨hc0,trivial⟩ (by try rfl) (by rw [qe0]; all_goals (first | rfl | (simp only [List.length_set]; done) | (simp only [List.length_set]; rfl) | (simp only [List.length_set,List.length_replicate]; done)))
theorem p262_1_0 (a:Int) (b:Int) (l:List Int) (c:Int) (ws:List Int) (al:Int) (n0:Nat) (j:Int) (v0:List Int) (i:Int) (e:Int) (e1:Int) (e2:Int) {E:Env} {rv:AV} {bs2:List Blk} (hE:LentE Try.prog 262 [.sl 4 0 0 0 1] rv bs2 E) (ho:AllP [(decide (j > a))=true,0≤j∧j<(v0.length:Int),n0=n0,n0=n0,((rowI v0).drop (0+(Int.toNat j)*1)).take 1=[.int .i64 e],InR .i64 (j - 1),0≤(j - 1)∧(j - 1)<(v0.length:Int),n0=n0,n0=n0,((rowI v0).drop (0+(Int.toNat (j - 1))*1)).take 1=[.int .i64 e1],Qe Try.prog (.clos 161 [] [.rptr [.clos 159 [] [.rptr [.int .i64 c] 0,.rptr [.rsl (rowI ws) 0 ws.length] 0,.rptr [.int .i64 al] 0]] 0]) [.int .i64 e,.int .i64 e1] (.int .i64 (yp c ws al e e1)),(decide ((yp c ws al e e1)<0))=true,InR .i64 (j - 1),InR .i64 (j - 1),0≤(j - 1)∧(j - 1)<(v0.length:Int),n0=n0,n0=n0,((rowI v0).drop (0+(Int.toNat (j - 1))*1)).take 1=[.int .i64 e1],0≤j∧j<(v0.length:Int),n0=n0,n0=n0,((rowI v0).drop (0+(Int.toNat j)*1)).take 1=[.int .i64 e],0≤j∧j<(v0.length:Int),n0=n0,((0+(Int.toNat j)*1)+1)≤(rowI v0).length,n0=n0,0≤(j - 1)∧(j - 1)<(v0.length:Int),n0=n0,((0+(Int.toNat (j - 1))*1)+1)≤(Qt (rowI v0) (0+(Int.toNat j)*1) [.int .i64 e1]).length,n0=n0,InR .i64 (j - 1)])
 (hg:G Try.prog E (Qax Try.prog) ⟨([.sl 0 n0 0 v0.length 1,.int .i64 a,.int .i64 b,.clos 161 [] [.ptr 1 0 0],J,J,J,J,.int .i64 i,.int .i64 (j - 1)]++Js 43),[⟨true,n0,1,true,(Qt (Qt (rowI v0) (0+(Int.toNat j)*1) [.int .i64 e1]) (0+(Int.toNat (j - 1))*1) [.int .i64 e]),true⟩,⟨true,0,1,false,[.clos 159 [] [.ptr 2 0 0,.ptr 3 0 0,.ptr 4 0 0]],false⟩,⟨true,0,1,true,[.int .i64 c],false⟩,⟨true,0,1,true,[.rsl (rowI ws) 0 ws.length],false⟩,⟨true,0,1,true,[.int .i64 al],false⟩]⟩):G Try.prog E (Qax Try.prog) (f262S1 a b l c ws al n0 j v0 i ) :=
 Ql (n:=400) (ds:=[]) (cs:=[]) (live:=[0,1,2,3,8,9]) (m:=5) (evs:=[.b true,.ld (.int .i64 e),.ld (.int .i64 e1),.v (.int .i64 (yp c ws al e e1)),.b true,.ld (.int .i64 e1),.ld (.int .i64 e),.stop]) (obs:=_) hE.kind (hE.nogh (by kernel_rfl)) Qo (by kernel_rfl) ho hg
theorem p262_1_1 (a:Int) (b:Int) (l:List Int) (c:Int) (ws:List Int) (al:Int) (n0:Nat) (j:Int) (v0:List Int) (i:Int) (e:Int) (e1:Int) {E:Env} {rv:AV} {bs2:List Blk} (hE:LentE Try.prog 262 [.sl 4 0 0 0 1] rv bs2 E) (ho:AllP [(decide (j > a))=true,0≤j∧j<(v0.length:Int),n0=n0,n0=n0,((rowI v0).drop (0+(Int.toNat j)*1)).take 1=[.int .i64 e],InR .i64 (j - 1),0≤(j - 1)∧(j - 1)<(v0.length:Int),n0=n0,n0=n0,((rowI v0).drop (0+(Int.toNat (j - 1))*1)).take 1=[.int .i64 e1],Qe Try.prog (.clos 161 [] [.rptr [.clos 159 [] [.rptr [.int .i64 c] 0,.rptr [.rsl (rowI ws) 0 ws.length] 0,.rptr [.int .i64 al] 0]] 0]) [.int .i64 e,.int .i64 e1] (.int .i64 (yp c ws al e e1)),(decide ((yp c ws al e e1)<0))=false,InR .i64 (i+1)])
 (hg:G Try.prog E (Qay Try.prog) ⟨([.sl 0 n0 0 v0.length 1,.int .i64 a,.int .i64 b,.clos 161 [] [.ptr 1 0 0],J,J,J,J,.int .i64 (i+1)]++Js 44),(z262_1 n0 v0 c ws al)⟩):G Try.prog E (Qax Try.prog) (f262S1 a b l c ws al n0 j v0 i ) :=
 Ql (n:=400) (ds:=[]) (cs:=[]) (live:=[0,1,2,3,8]) (m:=5) (evs:=[.b true,.ld (.int .i64 e),.ld (.int .i64 e1),.v (.int .i64 (yp c ws al e e1)),.b false,.stop]) (obs:=_) hE.kind (hE.nogh (by kernel_rfl)) Qo (by kernel_rfl) ho hg
theorem p262_1_2 (a:Int) (b:Int) (l:List Int) (c:Int) (ws:List Int) (al:Int) (n0:Nat) (j:Int) (v0:List Int) (i:Int) {E:Env} {rv:AV} {bs2:List Blk} (hE:LentE Try.prog 262 [.sl 4 0 0 0 1] rv bs2 E) (ho:AllP [(decide (j > a))=false,false=false,InR .i64 (i+1)])
 (hg:G Try.prog E (Qay Try.prog) ⟨([.sl 0 n0 0 v0.length 1,.int .i64 a,.int .i64 b,.clos 161 [] [.ptr 1 0 0],J,J,J,J,.int .i64 (i+1)]++Js 44),(z262_1 n0 v0 c ws al)⟩):G Try.prog E (Qax Try.prog) (f262S1 a b l c ws al n0 j v0 i ) :=
 Ql (n:=400) (ds:=[]) (cs:=[]) (live:=[0,1,2,3,8]) (m:=5) (evs:=[.b false,.b false,.stop]) (obs:=_) hE.kind (hE.nogh (by kernel_rfl)) Qo (by kernel_rfl) ho hg
theorem f262W1 (a:Int) (b:Int) (l:List Int) (c:Int) (ws:List Int) (al:Int) (n0:Nat) (j:Int) (v0:List Int) (i:Int) {E:Env} {rv:Unit} {lo:List Int} (hE:LentE Try.prog 262 [.sl 4 0 0 0 1] (.tup []) [⟨true,n0,1,true,(rowI lo),true⟩,⟨true,0,1,false,[.clos 159 [] [.ptr 2 0 0,.ptr 3 0 0,.ptr 4 0 0]],false⟩,⟨true,0,1,true,[.int .i64 c],false⟩,⟨true,0,1,true,[.rsl (rowI ws) 0 ws.length],false⟩,⟨true,0,1,true,[.int .i64 al],false⟩] E)
 (h:((j > a→(0≤j∧(∃ e:Int,v0[Int.toNat j]?=some e∧((I6 (j - 1))∧(0≤(j - 1)∧(∃ e1:Int,v0[Int.toNat (j - 1)]?=some e1∧((VS c ws al e1∧VS c ws al e)∧(((yp c ws al e e1)<0→((I6 (j - 1))∧((I6 (j - 1))∧(0≤(j - 1)∧(∃ e2:Int,(v0.set (Int.toNat j) e1)[Int.toNat (j - 1)]?=some e2∧((I6 (j - 1))∧f262G1 E a b l c ws al n0 (j - 1) ((v0.set (Int.toNat j) e1).set (Int.toNat (j - 1)) e) i))))))∧(¬ ((yp c ws al e e1)<0)→((I6 (i+1))∧Qaz E a b l c ws al n0 v0 (i+1)))))))))))∧(¬ (j > a)→((I6 (i+1))∧Qaz E a b l c ws al n0 v0 (i+1))))):f262G1 E a b l c ws al n0 j v0 i:=by
 rcases bft (decide (j > a)) with hc0 | hc0
 · have h:=h.1 (odt hc0)
   obtain ⟨h2,h⟩:=h
   obtain ⟨e,h1,h⟩:=h
   obtain ⟨q6_1,h⟩:=h
   obtain ⟨h4,h⟩:=h
   obtain ⟨e1,h3,h⟩:=h
   obtain ⟨h5,h⟩:=h
   rcases bft (decide ((yp c ws al e e1)<0)) with hc1 | hc1
   · have h:=h.1 (odt hc1)
     obtain ⟨q14_2,h⟩:=h
     obtain ⟨q15_2,h⟩:=h
     obtain ⟨h7,h⟩:=h
     obtain ⟨e2,h6,h⟩:=h
     obtain ⟨q33_2,h⟩:=h
     refine p262_1_0 a b l c ws al n0 j v0 i e e1 e2 hE ⟨hc0,(Qn h2 h1),rfl,rfl,(rp cI 1 0 1 h1),q6_1,(Qn h4 h3),rfl,rfl,(rp cI 1 0 1 h3),(u161 (less_ok c ws al e e1 h5)),hc1,q14_2,q15_2,(Qn h4 h3),rfl,rfl,(rp cI 1 0 1 h3),(Qn h2 h1),rfl,rfl,(rp cI 1 0 1 h1),(Qn h2 h1),rfl,(rf cI 1 0 1 h1),rfl,(by have hx:=Qn h7 h6; simpa using hx),rfl,(by rw [(show Qt (rowI v0) (0+(Int.toNat j)*1) [.int .i64 e1]=rowI (v0.set (Int.toNat j) e1) from Qy cI (s:=1) (k:=0) (fun _=>rfl) h1 rfl (by first | decide | simp))]; exact rf cI 1 0 1 h6),rfl,q33_2,trivial⟩ ?_
     have h:=h
     simp only [f262G1,f262S1,List.length_set] at h
     rw [(show Qt (rowI v0) (0+(Int.toNat j)*1) [.int .i64 e1]=rowI (v0.set (Int.toNat j) e1) from Qy cI (s:=1) (k:=0) (fun _=>rfl) h1 rfl (by first | decide | simp))]; rw [(show Qt (rowI (v0.set (Int.toNat j) e1)) (0+(Int.toNat (j - 1))*1) [.int .i64 e]=rowI ((v0.set (Int.toNat j) e1).set (Int.toNat (j - 1)) e) from Qy cI (s:=1) (k:=0) (fun _=>rfl) h6 rfl (by first | decide | simp))]
     exact h
   · have h:=h.2 (odf hc1)
     obtain ⟨q14_2,h⟩:=h
     exact p262_1_1 a b l c ws al n0 j v0 i e e1 hE ⟨hc0,(Qn h2 h1),rfl,rfl,(rp cI 1 0 1 h1),q6_1,(Qn h4 h3),rfl,rfl,(rp cI 1 0 1 h3),(u161 (less_ok c ws al e e1 h5)),hc1,q14_2,trivial⟩ h
 · have h:=h.2 (odf hc0)
   obtain ⟨q2_1,h⟩:=h
   exact p262_1_2 a b l c ws al n0 j v0 i hE ⟨hc0,rfl,q2_1,trivial⟩ h
/-- One element sinks to its place. -/
def sink (lt:Int→Int→Bool):Nat→List Int→List Int
 | 0,l=>l
 | d+1,l=>match l[d+1]?,l[d]? with
  | some e,some e1=>if lt e e1 then sink lt d ((l.set (d+1) e1).set d e) else l
  | _,_=>l
def VF (lt:Int→Int→Bool) (l:List Int):List Int:=(List.range (l.length - 1)).foldl (fun l k=>sink lt (k+1) l) l
theorem yy {lt:Int→Int→Bool}:∀ {d:Nat} {l:List Int},(sink lt d l).length=l.length
 | 0,l=>rfl
 | d+1,l=>by
  simp only [sink]
  split
  · split
    · rw [yy]; simp
    · rfl
  · rfl
theorem WU {lt:Int→Int→Bool} {l:List Int}:(VF lt l).length=l.length:=by
 have:∀ (xs:List Nat) (l:List Int),(xs.foldl (fun l k=>sink lt (k+1) l) l).length=l.length:=by
  intro xs
  induction xs with
  | nil=>intro l; rfl
  | cons x xs ih=>intro l; rw [List.foldl_cons,ih,yy]
 exact this _ _
theorem swap_mem {l:List Int} {d:Nat} {e e1 x:Int} (h1:l[d+1]?=some e) (h2:l[d]?=some e1) (h:x ∈ (l.set (d+1) e1).set d e):x ∈ l:=by
 rcases List.mem_or_eq_of_mem_set h with h | rfl
 · rcases List.mem_or_eq_of_mem_set h with h | rfl
   · exact h
   · exact List.mem_of_getElem? h2
 · exact List.mem_of_getElem? h1
theorem QaT {lt:Int→Int→Bool}:∀ {d:Nat} {l:List Int} {x:Int},x ∈ sink lt d l→x ∈ l
 | 0,l,x,h=>h
 | d+1,l,x,h=>by
  simp only [sink] at h
  split at h
  · rename_i e e1 h1 h2
    split at h
    · exact swap_mem h1 h2 (QaT h)
    · exact h
  · exact h
def ltI (c:Int) (ws:List Int) (al:Int) (x y:Int):Bool:=decide (yp c ws al x y<0)
theorem ins_ok (l:List Int) (c:Int) (ws:List Int) (al:Int) (n0:Nat) (hk:∀ x ∈ l,VS c ws al x) (hl:l.length≤1000) :
 Lent Try.prog 262 [.sl 0 n0 0 l.length 1,.int .i64 0,.int .i64 (l.length:Int),.clos 161 [] [.ptr 1 0 0]] [⟨true,n0,1,true,rowI l,true⟩,⟨true,0,1,false,[.clos 159 [] [.ptr 2 0 0,.ptr 3 0 0,.ptr 4 0 0]],false⟩,⟨true,0,1,true,[.int .i64 c],false⟩,⟨true,0,1,true,[.rsl (rowI ws) 0 ws.length],false⟩,⟨true,0,1,true,[.int .i64 al],false⟩]
  (.tup []) [⟨true,n0,1,true,rowI (VF (ltI c ws al) l),true⟩,⟨true,0,1,false,[.clos 159 [] [.ptr 2 0 0,.ptr 3 0 0,.ptr 4 0 0]],false⟩,⟨true,0,1,true,[.int .i64 c],false⟩,⟨true,0,1,true,[.rsl (rowI ws) 0 ws.length],false⟩,⟨true,0,1,true,[.int .i64 al],false⟩]:=by
 refine Kl _ Try.func262 f262b rfl rfl fun E hE=>?_
 have inner:∀ (d:Nat) (l':List Int) (j i:Int),j=d→(∀ x ∈ l',VS c ws al x)→d<l'.length→l'.length≤1000→(0≤i∧i≤1000)→Qaz E 0 (l.length:Int) l c ws al n0 (sink (ltI c ws al) d l') (i+1)→f262G1 E 0 (l.length:Int) l c ws al n0 j l' i:=by
  intro d
  induction d with
  | zero =>
   intro l' j i hj hk hd hl hi hg
   exact f262W1 0 _ l c ws al n0 j l' i (rv:=()) hE ⟨fun h=>by omega,fun _=>⟨by omega,hg⟩⟩
  | succ d ih =>
   intro l' j i hj hk hd hl hi hg
   have h1:l'[d+1]?=some l'[d+1]:=List.getElem?_eq_getElem hd
   have h2:l'[d]?=some l'[d]:=List.getElem?_eq_getElem (by omega)
   have e1:Int.toNat j=d+1:=by omega
   have e2:Int.toNat (j - 1)=d:=by omega
   have k1:=hk _ (List.mem_of_getElem? h1)
   have k2:=hk _ (List.mem_of_getElem? h2)
   simp only [sink,h1,h2] at hg
   refine f262W1 0 _ l c ws al n0 j l' i (rv:=()) hE ⟨fun _=>⟨by omega,l'[d+1],by rw [e1]; exact h1,by omega,by omega,l'[d],by rw [e2]; exact h2,⟨k2,k1⟩,fun h=>⟨by omega,by omega,by omega,l'[d],?_,by omega,?_⟩,fun h=>⟨by omega,?_⟩⟩,fun h=>by omega⟩
   · rw [e1,e2,List.getElem?_set_ne (by omega)]; exact h2
   · rw [e1,e2]
     rw [if_pos (by simp only [ltI]; exact decide_eq_true h)] at hg
     refine ih _ _ i (by omega) (fun x hx=>hk x (swap_mem h1 h2 hx)) (by simp; omega) (by simp; omega) hi hg
   · rw [if_neg (by simp only [ltI]; simpa using h)] at hg
     exact hg
 have outer:∀ (m k:Nat) (l':List Int),(k+1)+m=l.length→l'=(List.range k).foldl (fun l k=>sink (ltI c ws al) (k+1) l) l→l'.length=l.length→(∀ x ∈ l',VS c ws al x)→Qaz E 0 (l.length:Int) l c ws al n0 l' (0+1+k):=by
  intro m
  induction m with
  | zero =>
   intro k l' hkm hl' hlen hk'
   refine f262W0 0 _ l c ws al n0 l' _ (rv:=()) hE ⟨fun h=>by omega,fun _=>?_⟩
   rw [hl',VF]; congr 2; omega
  | succ m ih =>
   intro k l' hkm hl' hlen hk'
   refine f262W0 0 _ l c ws al n0 l' _ (rv:=()) hE ⟨fun _=>inner (k+1) l' _ _ (by omega) hk' (by omega) (by omega) (by omega) ?_,fun h=>by omega⟩
   have:=ih (k+1) (sink (ltI c ws al) (k+1) l') (by omega) (by rw [List.range_succ,List.foldl_append,← hl']; rfl) (by rw [yy]; exact hlen) (fun x hx=>hk' x (QaT hx))
   have e:(0+1+(k:Int)+1)=0+1+((k+1:Nat):Int):=by omega
   rw [e]; exact this
 refine f262W 0 _ l c ws al n0 (rv:=()) hE ⟨by omega,?_⟩
 by_cases h0:l.length=0
 · refine f262W0 0 _ l c ws al n0 l _ (rv:=()) hE ⟨fun h=>by omega,fun _=>?_⟩
   rw [VF,h0]; rfl
 · exact outer (l.length - 1) 0 l (by omega) rfl rfl hk
theorem ins15_ok (l:List Int) (c:Int) (ws:List Int) (al:Int) (n0:Nat) (a b:Int) (h:(∀ x ∈ l,VS c ws al x)∧l.length≤15∧a=0∧b=(l.length:Int)) :
 Lent Try.prog 262 [.sl 0 n0 0 l.length 1,.int .i64 a,.int .i64 b,.clos 161 [] [.ptr 1 0 0]] [⟨true,n0,1,true,rowI l,true⟩,⟨true,0,1,false,[.clos 159 [] [.ptr 2 0 0,.ptr 3 0 0,.ptr 4 0 0]],false⟩,⟨true,0,1,true,[.int .i64 c],false⟩,⟨true,0,1,true,[.rsl (rowI ws) 0 ws.length],false⟩,⟨true,0,1,true,[.int .i64 al],false⟩] (.tup []) [⟨true,n0,1,true,rowI (VF (ltI c ws al) l),true⟩,⟨true,0,1,false,[.clos 159 [] [.ptr 2 0 0,.ptr 3 0 0,.ptr 4 0 0]],false⟩,⟨true,0,1,true,[.int .i64 c],false⟩,⟨true,0,1,true,[.rsl (rowI ws) 0 ws.length],false⟩,⟨true,0,1,true,[.int .i64 al],false⟩]:=by
 obtain ⟨h1,h2,rfl,rfl⟩:=h
 exact ins_ok l c ws al n0 h1 (by omega)
theorem f219b:Try.f219.body=some (Qd Try.prog 219):=by kernel_rfl
def f219K0 (P:Program):List Item:=kAt 400 [.code (Qd P 219)] [.stop]
def f219S0 (n:Int) (l:List Int) (c:Int) (ws:List Int) (al:Int) (n0:Nat) (a:Nat) (b:Nat) (v0:List Int):St:=⟨([.sl 0 n0 0 v0.length 1,.int .i64 n,.clos 161 [] [.ptr 1 0 0],J,J,J,.int .i64 20,.int .i64 (a:Int),.int .i64 (b:Int)]++Js 54),[⟨true,n0,1,true,(rowI v0),true⟩,⟨true,0,1,false,[.clos 159 [] [.ptr 2 0 0,.ptr 3 0 0,.ptr 4 0 0]],false⟩,⟨true,0,1,true,[.int .i64 c],false⟩,⟨true,0,1,true,[.rsl (rowI ws) 0 ws.length],false⟩,⟨true,0,1,true,[.int .i64 al],false⟩]⟩
def f219G0 (E:Env) (n:Int) (l:List Int) (c:Int) (ws:List Int) (al:Int) (n0:Nat) (a:Nat) (b:Nat) (v0:List Int):Prop:=G Try.prog E (f219K0 Try.prog) (f219S0 n l c ws al n0 a b v0 )
def f219K1 (P:Program):List Item:=kAt 400 [.code (Qd P 219)] [.b false,.stop]
def f219S1 (n:Int) (l:List Int) (c:Int) (ws:List Int) (al:Int) (n0:Nat) (v0:List Int) (blockSize:Int):St:=⟨([.sl 0 n0 0 v0.length 1,.int .i64 n,.clos 161 [] [.ptr 1 0 0],J,J,J,.int .i64 blockSize]++Js 56),[⟨true,n0,1,true,(rowI v0),true⟩,⟨true,0,1,false,[.clos 159 [] [.ptr 2 0 0,.ptr 3 0 0,.ptr 4 0 0]],false⟩,⟨true,0,1,true,[.int .i64 c],false⟩,⟨true,0,1,true,[.rsl (rowI ws) 0 ws.length],false⟩,⟨true,0,1,true,[.int .i64 al],false⟩]⟩
def f219G1 (E:Env) (n:Int) (l:List Int) (c:Int) (ws:List Int) (al:Int) (n0:Nat) (v0:List Int) (blockSize:Int):Prop:=G Try.prog E (f219K1 Try.prog) (f219S1 n l c ws al n0 v0 blockSize )
def f219K2 (P:Program):List Item:=kAt 400 [.code (Qd P 219)] [.b false,.b true,.stop]
def f219S2 (n:Int) (l:List Int) (c:Int) (ws:List Int) (al:Int) (n0:Nat) (v0:List Int) (blockSize:Int) (b:Int):St:=⟨([.sl 0 n0 0 v0.length 1,.int .i64 n,.clos 161 [] [.ptr 1 0 0],J,J,J,.int .i64 blockSize,.int .i64 0,.int .i64 b]++Js 54),[⟨true,n0,1,true,(rowI v0),true⟩,⟨true,0,1,false,[.clos 159 [] [.ptr 2 0 0,.ptr 3 0 0,.ptr 4 0 0]],false⟩,⟨true,0,1,true,[.int .i64 c],false⟩,⟨true,0,1,true,[.rsl (rowI ws) 0 ws.length],false⟩,⟨true,0,1,true,[.int .i64 al],false⟩]⟩
def f219G2 (E:Env) (n:Int) (l:List Int) (c:Int) (ws:List Int) (al:Int) (n0:Nat) (v0:List Int) (blockSize:Int) (b:Int):Prop:=G Try.prog E (f219K2 Try.prog) (f219S2 n l c ws al n0 v0 blockSize b )
abbrev KZ (n0:Nat) (c:Int) (ws:List Int) (al:Int) (v0:List Int):List Blk:=[⟨true,n0,1,true,(rowI (VF (ltI c ws al) v0)),true⟩,⟨true,0,1,false,[.clos 159 [] [.ptr 2 0 0,.ptr 3 0 0,.ptr 4 0 0]],false⟩,⟨true,0,1,true,[.int .i64 c],false⟩,⟨true,0,1,true,[.rsl (rowI ws) 0 ws.length],false⟩,⟨true,0,1,true,[.int .i64 al],false⟩]
abbrev z219_2 (n0:Nat) (v0:List Int) (c:Int) (ws:List Int) (al:Int):List Blk:=[⟨true,n0,1,true,(rowI v0),true⟩,⟨true,0,1,false,[.clos 159 [] [.ptr 2 0 0,.ptr 3 0 0,.ptr 4 0 0]],false⟩,⟨true,0,1,true,[.int .i64 c],false⟩,⟨true,0,1,true,[.rsl (rowI ws) 0 ws.length],false⟩,⟨true,0,1,true,[.int .i64 al],false⟩]
abbrev z219_3 (n0:Nat) (l:List Int) (c:Int) (ws:List Int) (al:Int):List Blk:=[⟨true,n0,1,true,(rowI l),true⟩,⟨true,0,1,false,[.clos 159 [] [.ptr 2 0 0,.ptr 3 0 0,.ptr 4 0 0]],false⟩,⟨true,0,1,true,[.int .i64 c],false⟩,⟨true,0,1,true,[.rsl (rowI ws) 0 ws.length],false⟩,⟨true,0,1,true,[.int .i64 al],false⟩]
theorem p219_start_0 (n:Int) (l:List Int) (c:Int) (ws:List Int) (al:Int) (n0:Nat) {E:Env} {rv:AV} {bs2:List Blk} (hE:LentE Try.prog 219 [.sl 4 0 0 0 1] rv bs2 E) (ho:AllP [])
 (hg:G Try.prog E (f219K0 Try.prog) ⟨([.sl 0 n0 0 l.length 1,.int .i64 n,.clos 161 [] [.ptr 1 0 0],J,J,J,.int .i64 20,.int .i64 0,.int .i64 20]++Js 54),(z219_3 n0 l c ws al)⟩):G Try.prog E [.code (Qd Try.prog 219)] ⟨[.sl 0 n0 0 l.length 1,.int .i64 n,.clos 161 [] [.ptr 1 0 0]]++unds (Try.f219.ntmps - 3),(z219_3 n0 l c ws al)⟩ :=
 Ql (n:=400) (ds:=[]) (cs:=[]) (live:=[0,1,2,6,7,8]) (m:=5) (evs:=[.stop]) (obs:=_) hE.kind (hE.nogh (by kernel_rfl)) Qo (by kernel_rfl) ho hg
theorem f219W (n:Int) (l:List Int) (c:Int) (ws:List Int) (al:Int) (n0:Nat) {E:Env} {rv:Unit} {lo:List Int} (hE:LentE Try.prog 219 [.sl 4 0 0 0 1] (.tup []) [⟨true,n0,1,true,(rowI lo),true⟩,⟨true,0,1,false,[.clos 159 [] [.ptr 2 0 0,.ptr 3 0 0,.ptr 4 0 0]],false⟩,⟨true,0,1,true,[.int .i64 c],false⟩,⟨true,0,1,true,[.rsl (rowI ws) 0 ws.length],false⟩,⟨true,0,1,true,[.int .i64 al],false⟩] E)
 (h:f219G0 E n l c ws al n0 0 20 l):G Try.prog E [.code (Qd Try.prog 219)] ⟨[.sl 0 n0 0 l.length 1,.int .i64 n,.clos 161 [] [.ptr 1 0 0]]++unds (Try.f219.ntmps - 3),[⟨true,n0,1,true,(rowI l),true⟩,⟨true,0,1,false,[.clos 159 [] [.ptr 2 0 0,.ptr 3 0 0,.ptr 4 0 0]],false⟩,⟨true,0,1,true,[.int .i64 c],false⟩,⟨true,0,1,true,[.rsl (rowI ws) 0 ws.length],false⟩,⟨true,0,1,true,[.int .i64 al],false⟩]⟩:=by
 exact p219_start_0 n l c ws al n0 hE trivial h
theorem p219_0_0 (n:Int) (l:List Int) (c:Int) (ws:List Int) (al:Int) (n0:Nat) (a:Nat) (b:Nat) (v0:List Int) {E:Env} {rv:AV} {bs2:List Blk} (hE:LentE Try.prog 219 [.sl 4 0 0 0 1] rv bs2 E) (ho:AllP [(decide ((b:Int)≤n))=true,Xf Try.prog (.clos 262 [] []) [.sl 0 n0 0 v0.length 1,.int .i64 (a:Int),.int .i64 (b:Int),.clos 161 [] [.ptr 1 0 0]] (z219_2 n0 v0 c ws al) (.tup []) (KZ n0 c ws al v0),InR .i64 ((b:Int)+20)])
 (hg:G Try.prog E (f219K0 Try.prog) ⟨([.sl 0 n0 0 v0.length 1,.int .i64 n,.clos 161 [] [.ptr 1 0 0],J,J,J,.int .i64 20,.int .i64 (b:Int),.int .i64 ((b:Int)+20)]++Js 54),(KZ n0 c ws al v0)⟩):G Try.prog E (f219K0 Try.prog) (f219S0 n l c ws al n0 a b v0 ) :=
 Ql (n:=400) (ds:=[]) (cs:=[]) (live:=[0,1,2,6,7,8]) (m:=5) (evs:=[.b true,.lent [0,1,2,3,4] (.tup []) (KZ n0 c ws al v0),.stop]) (obs:=_) hE.kind (hE.nogh (by kernel_rfl)) Qo (by kernel_rfl) ho hg
theorem p219_0_1 (n:Int) (l:List Int) (c:Int) (ws:List Int) (al:Int) (n0:Nat) (a:Nat) (b:Nat) (v0:List Int) {E:Env} {rv:AV} {bs2:List Blk} (hE:LentE Try.prog 219 [.sl 4 0 0 0 1] rv bs2 E) (ho:AllP [(decide ((b:Int)≤n))=false,Xf Try.prog (.clos 262 [] []) [.sl 0 n0 0 v0.length 1,.int .i64 (a:Int),.int .i64 n,.clos 161 [] [.ptr 1 0 0]] (z219_2 n0 v0 c ws al) (.tup []) (KZ n0 c ws al v0)])
 (hg:G Try.prog E (f219K1 Try.prog) ⟨([.sl 0 n0 0 v0.length 1,.int .i64 n,.clos 161 [] [.ptr 1 0 0],J,J,J,.int .i64 20]++Js 56),(KZ n0 c ws al v0)⟩):G Try.prog E (f219K0 Try.prog) (f219S0 n l c ws al n0 a b v0 ) :=
 Ql (n:=400) (ds:=[]) (cs:=[]) (live:=[0,1,2,6]) (m:=5) (evs:=[.b false,.lent [0,1,2,3,4] (.tup []) (KZ n0 c ws al v0),.stop]) (obs:=_) hE.kind (hE.nogh (by kernel_rfl)) Qo (by kernel_rfl) ho hg
theorem f219W0 (n:Int) (l:List Int) (c:Int) (ws:List Int) (al:Int) (n0:Nat) (a:Nat) (b:Nat) (v0:List Int) {E:Env} {rv:Unit} {lo:List Int} (hE:LentE Try.prog 219 [.sl 4 0 0 0 1] (.tup []) [⟨true,n0,1,true,(rowI lo),true⟩,⟨true,0,1,false,[.clos 159 [] [.ptr 2 0 0,.ptr 3 0 0,.ptr 4 0 0]],false⟩,⟨true,0,1,true,[.int .i64 c],false⟩,⟨true,0,1,true,[.rsl (rowI ws) 0 ws.length],false⟩,⟨true,0,1,true,[.int .i64 al],false⟩] E)
 (h:(((b:Int)≤n→(((∀ x ∈ v0,VS c ws al x)∧v0.length≤15∧(a:Int)=0∧(b:Int)=(v0.length:Int))∧((I6 ((b:Int)+20))∧f219G0 E n l c ws al n0 b (b+20) (VF (ltI c ws al) v0))))∧(¬ ((b:Int)≤n)→(((∀ x ∈ v0,VS c ws al x)∧v0.length≤15∧(a:Int)=0∧n=(v0.length:Int))∧f219G1 E n l c ws al n0 (VF (ltI c ws al) v0) 20)))):f219G0 E n l c ws al n0 a b v0:=by
 rcases bft (decide ((b:Int)≤n)) with hc0 | hc0
 · have h:=h.1 (odt hc0)
   obtain ⟨h1,h⟩:=h
   obtain ⟨q2_1,h⟩:=h
   refine p219_0_0 n l c ws al n0 a b v0 hE ⟨hc0,(Qw Try.func262 (by kernel_rfl) f262b (ins15_ok v0 c ws al n0 (a:Int) (b:Int) h1)),q2_1,trivial⟩ ?_
   have h:=h
   simp only [f219G0,f219S0,List.length_set,WU] at h
   skip
   exact h
 · have h:=h.2 (odf hc0)
   obtain ⟨h1,h⟩:=h
   refine p219_0_1 n l c ws al n0 a b v0 hE ⟨hc0,(Qw Try.func262 (by kernel_rfl) f262b (ins15_ok v0 c ws al n0 (a:Int) n h1)),trivial⟩ ?_
   have h:=h
   simp only [f219G1,f219S1,List.length_set,WU] at h
   skip
   exact h
theorem p219_1_0 (n:Int) (l:List Int) (c:Int) (ws:List Int) (al:Int) (n0:Nat) (v0:List Int) (blockSize:Int) {E:Env} {rv:AV} {bs2:List Blk} (hE:LentE Try.prog 219 [.sl 4 0 0 0 1] rv bs2 E) (ho:AllP [(decide (blockSize<n))=true,InR .i64 (2*blockSize)])
 (hg:G Try.prog E (f219K2 Try.prog) ⟨([.sl 0 n0 0 v0.length 1,.int .i64 n,.clos 161 [] [.ptr 1 0 0],J,J,J,.int .i64 blockSize,.int .i64 0,.int .i64 (2*blockSize)]++Js 54),(z219_2 n0 v0 c ws al)⟩):G Try.prog E (f219K1 Try.prog) (f219S1 n l c ws al n0 v0 blockSize ) :=
 Ql (n:=400) (ds:=[]) (cs:=[]) (live:=[0,1,2,6,7,8]) (m:=5) (evs:=[.b true,.stop]) (obs:=_) hE.kind (hE.nogh (by kernel_rfl)) Qo (by kernel_rfl) ho hg
theorem p219_1_1 (n:Int) (l:List Int) (c:Int) (ws:List Int) (al:Int) (n0:Nat) (v0:List Int) (blockSize:Int) {E:Env} {res:AV} {bs2:List Blk} (hE:LentE Try.prog 219 [.sl 4 0 0 0 1] res bs2 E) (ho:AllP [(decide (blockSize<n))=false])
 (hr:(.tup [])=res) (hb:(z219_2 n0 v0 c ws al)=bs2):G Try.prog E (f219K1 Try.prog) (f219S1 n l c ws al n0 v0 blockSize ) :=
 QV (n:=400) (live:=[]) (m:=5) (evs:=[.b false]) (obs:=_) hE (hE.nogh (by kernel_rfl)) Try.func219 Qo (by kernel_rfl) ho hr hb
theorem f219W1 (n:Int) (l:List Int) (c:Int) (ws:List Int) (al:Int) (n0:Nat) (v0:List Int) (blockSize:Int) {E:Env} {rv:Unit} {lo:List Int} (hE:LentE Try.prog 219 [.sl 4 0 0 0 1] (.tup []) [⟨true,n0,1,true,(rowI lo),true⟩,⟨true,0,1,false,[.clos 159 [] [.ptr 2 0 0,.ptr 3 0 0,.ptr 4 0 0]],false⟩,⟨true,0,1,true,[.int .i64 c],false⟩,⟨true,0,1,true,[.rsl (rowI ws) 0 ws.length],false⟩,⟨true,0,1,true,[.int .i64 al],false⟩] E)
 (h:((blockSize<n→((I6 (2*blockSize))∧f219G2 E n l c ws al n0 v0 blockSize (2*blockSize)))∧(¬ (blockSize<n)→lo=v0))):f219G1 E n l c ws al n0 v0 blockSize:=by
 rcases bft (decide (blockSize<n)) with hc0 | hc0
 · have h:=h.1 (odt hc0)
   obtain ⟨q1_1,h⟩:=h
   exact p219_1_0 n l c ws al n0 v0 blockSize hE ⟨hc0,q1_1,trivial⟩ h
 · have h:=h.2 (odf hc0)
   have qe0:=h
   exact p219_1_1 n l c ws al n0 v0 blockSize hE ⟨hc0,trivial⟩ (by try rfl) (by rw [qe0]; all_goals (first | rfl | (simp only [List.length_set]; done) | (simp only [List.length_set]; rfl) | (simp only [List.length_set,List.length_replicate]; done)))
theorem stable_ok (l:List Int) (c:Int) (ws:List Int) (al:Int) (n0:Nat) (n:Int) (h:(∀ x ∈ l,VS c ws al x)∧l.length≤15∧n=(l.length:Int)) :
 Lent Try.prog 219 [.sl 0 n0 0 l.length 1,.int .i64 n,.clos 161 [] [.ptr 1 0 0]] [⟨true,n0,1,true,rowI l,true⟩,⟨true,0,1,false,[.clos 159 [] [.ptr 2 0 0,.ptr 3 0 0,.ptr 4 0 0]],false⟩,⟨true,0,1,true,[.int .i64 c],false⟩,⟨true,0,1,true,[.rsl (rowI ws) 0 ws.length],false⟩,⟨true,0,1,true,[.int .i64 al],false⟩] (.tup []) [⟨true,n0,1,true,rowI (VF (ltI c ws al) l),true⟩,⟨true,0,1,false,[.clos 159 [] [.ptr 2 0 0,.ptr 3 0 0,.ptr 4 0 0]],false⟩,⟨true,0,1,true,[.int .i64 c],false⟩,⟨true,0,1,true,[.rsl (rowI ws) 0 ws.length],false⟩,⟨true,0,1,true,[.int .i64 al],false⟩]:=by
 obtain ⟨h1,h2,rfl⟩:=h
 refine Kl _ Try.func219 f219b rfl rfl fun E hE=>?_
 refine f219W _ l c ws al n0 (rv:=()) hE ?_
 refine f219W0 _ l c ws al n0 _ _ _ (rv:=()) hE ⟨fun h=>by omega,fun _=>⟨⟨h1,h2,rfl,rfl⟩,?_⟩⟩
 exact f219W1 _ l c ws al n0 _ _ (rv:=()) hE ⟨fun h=>by omega,fun _=>rfl⟩
theorem f160b:Try.f160.body=some (Qd Try.prog 160):=by kernel_rfl
abbrev z160_1 (n0:Nat) (c:Int) (ws:List Int) (al:Int) (l:List Int):List Blk:=[⟨true,n0,1,true,(rowI (VF (ltI c ws al) l)),true⟩,⟨true,0,1,false,[.clos 159 [] [.ptr 2 0 0,.ptr 3 0 0,.ptr 4 0 0]],false⟩,⟨true,0,1,true,[.int .i64 c],false⟩,⟨true,0,1,true,[.rsl (rowI ws) 0 ws.length],false⟩,⟨true,0,1,true,[.int .i64 al],false⟩]
abbrev z160_2 (n0:Nat) (l:List Int) (c:Int) (ws:List Int) (al:Int):List Blk:=[⟨true,n0,1,true,(rowI l),true⟩,⟨true,0,1,false,[.clos 159 [] [.ptr 2 0 0,.ptr 3 0 0,.ptr 4 0 0]],false⟩,⟨true,0,1,true,[.int .i64 c],false⟩,⟨true,0,1,true,[.rsl (rowI ws) 0 ws.length],false⟩,⟨true,0,1,true,[.int .i64 al],false⟩]
theorem p160_start_0 (l:List Int) (c:Int) (ws:List Int) (al:Int) (n0:Nat) {E:Env} {res:AV} {bs2:List Blk} (hE:LentE Try.prog 160 [.sl 4 0 0 0 1] res bs2 E) (ho:AllP [n0=n0,Xf Try.prog (.clos 219 [] []) [.sl 0 n0 0 l.length 1,.int .i64 (l.length:Int),.clos 161 [] [.ptr 1 0 0]] (z160_2 n0 l c ws al) (.tup []) (z160_1 n0 c ws al l)])
 (hr:(.tup [])=res) (hb:(z160_1 n0 c ws al l)=bs2):G Try.prog E [.code (Qd Try.prog 160)] ⟨[.sl 0 n0 0 l.length 1,.clos 161 [] [.ptr 1 0 0]]++unds (Try.f160.ntmps - 2),(z160_2 n0 l c ws al)⟩ :=
 QV (n:=400) (live:=[]) (m:=5) (evs:=[.lent [0,1,2,3,4] (.tup []) (z160_1 n0 c ws al l)]) (obs:=_) hE (hE.nogh (by kernel_rfl)) Try.func160 Qo (by kernel_rfl) ho hr hb
theorem f160W (l:List Int) (c:Int) (ws:List Int) (al:Int) (n0:Nat) {E:Env} {rv:Unit} {lo:List Int} (hE:LentE Try.prog 160 [.sl 4 0 0 0 1] (.tup []) [⟨true,n0,1,true,(rowI lo),true⟩,⟨true,0,1,false,[.clos 159 [] [.ptr 2 0 0,.ptr 3 0 0,.ptr 4 0 0]],false⟩,⟨true,0,1,true,[.int .i64 c],false⟩,⟨true,0,1,true,[.rsl (rowI ws) 0 ws.length],false⟩,⟨true,0,1,true,[.int .i64 al],false⟩] E)
 (h:(((∀ x ∈ l,VS c ws al x)∧l.length≤15∧(l.length:Int)=(l.length:Int))∧lo=(VF (ltI c ws al) l))):G Try.prog E [.code (Qd Try.prog 160)] ⟨[.sl 0 n0 0 l.length 1,.clos 161 [] [.ptr 1 0 0]]++unds (Try.f160.ntmps - 2),[⟨true,n0,1,true,(rowI l),true⟩,⟨true,0,1,false,[.clos 159 [] [.ptr 2 0 0,.ptr 3 0 0,.ptr 4 0 0]],false⟩,⟨true,0,1,true,[.int .i64 c],false⟩,⟨true,0,1,true,[.rsl (rowI ws) 0 ws.length],false⟩,⟨true,0,1,true,[.int .i64 al],false⟩]⟩:=by
 obtain ⟨h1,h⟩:=h
 have qe0:=h
 exact p160_start_0 l c ws al n0 hE ⟨rfl,(Qw Try.func219 (by kernel_rfl) f219b (stable_ok l c ws al n0 (l.length:Int) h1)),trivial⟩ (by try rfl) (by rw [qe0]; all_goals (first | rfl | (simp only [List.length_set]; done) | (simp only [List.length_set]; rfl) | (simp only [List.length_set,List.length_replicate]; done)))
theorem sort_ok (l:List Int) (c:Int) (ws:List Int) (al:Int) (n0:Nat) (h:(∀ x ∈ l,VS c ws al x)∧l.length≤15) :
 Lent Try.prog 160 [.sl 0 n0 0 l.length 1,.clos 161 [] [.ptr 1 0 0]] [⟨true,n0,1,true,rowI l,true⟩,⟨true,0,1,false,[.clos 159 [] [.ptr 2 0 0,.ptr 3 0 0,.ptr 4 0 0]],false⟩,⟨true,0,1,true,[.int .i64 c],false⟩,⟨true,0,1,true,[.rsl (rowI ws) 0 ws.length],false⟩,⟨true,0,1,true,[.int .i64 al],false⟩] (.tup []) [⟨true,n0,1,true,rowI (VF (ltI c ws al) l),true⟩,⟨true,0,1,false,[.clos 159 [] [.ptr 2 0 0,.ptr 3 0 0,.ptr 4 0 0]],false⟩,⟨true,0,1,true,[.int .i64 c],false⟩,⟨true,0,1,true,[.rsl (rowI ws) 0 ws.length],false⟩,⟨true,0,1,true,[.int .i64 al],false⟩]:=by
 refine Kl _ Try.func160 f160b rfl rfl fun E hE=>?_
 exact f160W l c ws al n0 (rv:=()) hE ⟨⟨h.1,h.2,rfl⟩,rfl⟩
end Go.Proofs.Ytemklbioijmjiaa
namespace Go.Proofs.Ytemklbioijmjiaa
open Go Ax
open Go.Proofs
theorem f158b:Try.f158.body=some (Qd Try.prog 158):=by kernel_rfl
theorem u158 {a c k:List AV} {r:AV} (h:Pure Try.prog 158 (a++c++k) r):Qe Try.prog (.clos 158 a k) c r:=Qs Try.func158 (by kernel_rfl) f158b h
def f158K0 (P:Program):List Item:=kAt 400 [.code (Qd P 158)] [.stop]
def f158S0 (l:(List Int)) (n:Int) (i:Nat):St:=⟨([J,J,.int .i64 n,J,J,.rsl (rowI l) 0 l.length,.int .i64 (l.length:Int),.int .i64 (i:Int)]++Js 8),[]⟩
def f158G0 (E:Env) (l:(List Int)) (n:Int) (i:Nat):Prop:=G Try.prog E (f158K0 Try.prog) (f158S0 l n i )
theorem p158_start_0 (l:(List Int)) {E:Env} {rv:AV} (hE:Qg Try.prog 158 rv E) (ho:AllP [])
 (hg:G Try.prog E (f158K0 Try.prog) ⟨([J,J,.int .i64 0,J,J,.rsl (rowI l) 0 l.length,.int .i64 (l.length:Int),.int .i64 0]++Js 8),[]⟩):G Try.prog E [.code (Qd Try.prog 158)] ⟨[.rsl (rowI l) 0 l.length]++unds (Try.f158.ntmps - 1),[]⟩ :=
 Ql (n:=400) (ds:=[]) (cs:=[]) (live:=[2,5,6,7]) (m:=0) (evs:=[.stop]) (obs:=_) hE.2.1 (hE.nogh _) Qo (by kernel_rfl) ho hg
theorem f158W (l:(List Int)) {E:Env} {rv:Int} (hE:Qg Try.prog 158 (.int .i64 rv) E)
 (h:f158G0 E l 0 0):G Try.prog E [.code (Qd Try.prog 158)] ⟨[.rsl (rowI l) 0 l.length]++unds (Try.f158.ntmps - 1),[]⟩:=by
 exact p158_start_0 l hE trivial h
theorem p158_0_0 (l:(List Int)) (n:Int) (i:Nat) (e:Int) {E:Env} {rv:AV} (hE:Qg Try.prog 158 rv E) (ho:AllP [(decide ((i:Int)<(l.length:Int)))=true,0≤(i:Int)∧(i:Int)<(l.length:Int),((rowI l).drop (0+(Int.toNat (i:Int))*1)).take 1=[.int .i64 e],InR .i64 (n+e),InR .i64 ((i:Int)+1)])
 (hg:G Try.prog E (f158K0 Try.prog) ⟨([J,J,.int .i64 (n+e),J,J,.rsl (rowI l) 0 l.length,.int .i64 (l.length:Int),.int .i64 ((i:Int)+1)]++Js 8),[]⟩):G Try.prog E (f158K0 Try.prog) (f158S0 l n i ) :=
 Ql (n:=400) (ds:=[]) (cs:=[]) (live:=[2,5,6,7]) (m:=0) (evs:=[.b true,.ld (.int .i64 e),.stop]) (obs:=_) hE.2.1 (hE.nogh _) Qo (by kernel_rfl) ho hg
theorem p158_0_1 (l:(List Int)) (n:Int) (i:Nat) {E:Env} {res:AV} (hE:Qg Try.prog 158 res E) (ho:AllP [(decide ((i:Int)<(l.length:Int)))=false])
 (hr:AvLe (.int .i64 n) res):G Try.prog E (f158K0 Try.prog) (f158S0 l n i ) :=
 Qc (n:=400) (evs:=[.b false]) (obs:=_) hE Try.func158 Qo (by kernel_rfl) ho hr
theorem f158W0 (l:(List Int)) (n:Int) (i:Nat) {E:Env} {rv:Int} (hE:Qg Try.prog 158 (.int .i64 rv) E)
 (h:(((i:Int)<(l.length:Int)→(∃ e:Int,l[i]?=some e∧((I6 (n+e))∧((I6 ((i:Int)+1))∧f158G0 E l (n+e) (i+1)))))∧(¬ ((i:Int)<(l.length:Int))→rv=n))):f158G0 E l n i:=by
 rcases bft (decide ((i:Int)<(l.length:Int))) with hc0 | hc0
 · have h:=h.1 (odt hc0)
   obtain ⟨e,h1,h⟩:=h
   obtain ⟨q4_1,h⟩:=h
   obtain ⟨q5_1,h⟩:=h
   exact p158_0_0 l n i e hE ⟨hc0,(QF h1),(rp cI 1 0 1 h1),q4_1,q5_1,trivial⟩ h
 · have h:=h.2 (odf hc0)
   exact p158_0_1 l n i hE ⟨hc0,trivial⟩ (AvLe.of_eq (by rw [h]; try rfl))
def sumI (l:List Int):Int:=l.sum
def yr (l:List Int):Prop:=l.length≤9223372036854775807∧∀ k,k≤l.length→-9223372036854775808≤(l.take k).sum∧(l.take k).sum≤9223372036854775807
theorem sum_take {l:List Int} {i:Nat} {e:Int} (h:l[i]?=some e):(l.take (i+1)).sum=(l.take i).sum+e:=by
 rw [List.take_add_one,h,List.sum_append]; simp
theorem sum_ok (l:List Int) (h:yr l):Pure Try.prog 158 [.rsl (rowI l) 0 l.length] (.int .i64 (sumI l)):=QC Try.func158 f158b fun E hE=>by
 have key:∀ (d i:Nat),i+d=l.length→f158G0 E l (l.take i).sum i:=by
  intro d
  induction d with
  | zero =>
   intro i hd
   refine f158W0 l _ i (rv:=sumI l) hE ⟨fun h=>by omega,fun _=>?_⟩
   rw [List.take_of_length_le (by omega)]; rfl
  | succ d ih =>
   intro i hd
   have hi:l[i]?=some l[i]:=List.getElem?_eq_getElem (by omega)
   have h1:=h.2 (i+1) (by omega)
   have h2:=ih (i+1) (by omega)
   rw [sum_take hi] at h1 h2
   have h3:=h.1
   exact f158W0 l _ i (rv:=sumI l) hE ⟨fun _=>⟨_,hi,h1,by omega,h2⟩,fun h=>by omega⟩
 exact f158W l hE (key l.length 0 (by omega))
def QL (n:Int):Bool:=Qk n 0 1000000000
theorem f85b:Try.f85.body=some (Qd Try.prog 85):=by kernel_rfl
theorem u85 {a c k:List AV} {r:AV} (h:Pure Try.prog 85 (a++c++k) r):Qe Try.prog (.clos 85 a k) c r:=Qs Try.func85 (by kernel_rfl) f85b h
theorem p85_start_0 (n:Int) {E:Env} {res:AV} (hE:Qg Try.prog 85 res E) (ho:AllP [Qe Try.prog (.clos 110 [] []) [.int .i64 n,.int .i64 0,.int .i64 1000000000] (.bool (Qk n 0 1000000000))])
 (hr:AvLe (.bool (Qk n 0 1000000000)) res):G Try.prog E [.code (Qd Try.prog 85)] ⟨[.int .i64 n]++unds (Try.f85.ntmps - 1),[]⟩ :=
 Qc (n:=400) (evs:=[.v (.bool (Qk n 0 1000000000))]) (obs:=_) hE Try.func85 Qo (by kernel_rfl) ho hr
theorem f85W (n:Int) {E:Env} {rv:Bool} (hE:Qg Try.prog 85 (.bool rv) E)
 (h:rv=(Qk n 0 1000000000)):G Try.prog E [.code (Qd Try.prog 85)] ⟨[.int .i64 n]++unds (Try.f85.ntmps - 1),[]⟩:=by
 exact p85_start_0 n hE ⟨(u110 (Xz n 0 1000000000)),trivial⟩ (AvLe.of_eq (by rw [h]; try rfl))
theorem f157b:Try.f157.body=some (Qd Try.prog 157):=by kernel_rfl
theorem u157 {a c k:List AV} {r:AV} (h:Pure Try.prog 157 (a++c++k) r):Qe Try.prog (.clos 157 a k) c r:=Qs Try.func157 (by kernel_rfl) f157b h
theorem p157_start_0 (n:Int) {E:Env} {res:AV} (hE:Qg Try.prog 157 res E) (ho:AllP [Qe Try.prog (.clos 110 [] []) [.int .i64 n,.int .i64 0,.int .i64 1000] (.bool (Qk n 0 1000))])
 (hr:AvLe (.bool (!(Qk n 0 1000))) res):G Try.prog E [.code (Qd Try.prog 157)] ⟨[.int .i64 n]++unds (Try.f157.ntmps - 1),[]⟩ :=
 Qc (n:=400) (evs:=[.v (.bool (Qk n 0 1000))]) (obs:=_) hE Try.func157 Qo (by kernel_rfl) ho hr
theorem f157W (n:Int) {E:Env} {rv:Bool} (hE:Qg Try.prog 157 (.bool rv) E)
 (h:rv=(!(Qk n 0 1000))):G Try.prog E [.code (Qd Try.prog 157)] ⟨[.int .i64 n]++unds (Try.f157.ntmps - 1),[]⟩:=by
 exact p157_start_0 n hE ⟨(u110 (Xz n 0 1000)),trivial⟩ (AvLe.of_eq (by rw [h]; try rfl))
theorem VD (n:Int):Pure Try.prog 85 [.int .i64 n] (.bool (QL n)):=QC Try.func85 f85b fun E hE=>f85W n hE rfl
theorem qW (n:Int):Pure Try.prog 157 [.int .i64 n] (.bool (!Qk n 0 1000)):=QC Try.func157 f157b fun E hE=>f157W n hE rfl
/-- The first place where it holds; -1 if there is none. -/
def idxI (p:Int→Bool) (l:List Int):Int:=match l.findIdx? p with
 | some i=>(i:Int)
 | none=>-1
theorem Qcd (p:Int→Bool) (l:List Int):∀ (d i:Nat),i+d=l.length→(∀ j x,j<i→l[j]?=some x→p x=false)→∀ (Q:Nat→Prop),(∀ i,i<l.length→(∀ x,l[i]?=some x→(p x=true→idxI p l=i))→(∀ x,l[i]?=some x→p x=false→Q (i+1))→Q i) →
 ((∀ x ∈ l,p x=false)→idxI p l=-1→Q l.length)→Q i:=by
 intro d
 induction d with
 | zero =>
  intro i hi hp Q h1 h2
  have:i=l.length:=by omega
  subst this
  have hall:∀ x ∈ l,p x=false:=fun x hx=>by
   obtain ⟨j,hj⟩:=List.getElem?_of_mem hx
   exact hp j x (List.getElem?_eq_some_iff.1 hj).1 hj
  exact h2 hall (by simp only [idxI]; rw [List.findIdx?_eq_none_iff.2 hall])
 | succ d ih =>
  intro i hi hp Q h1 h2
  refine h1 i (by omega) (fun x hx hpx=>?_) (fun x hx hpx=>ih (i+1) (by omega) (fun j y hj hy=>?_) Q h1 h2)
  · have:l.findIdx? p=some i:=by
     rw [List.findIdx?_eq_some_iff_getElem]
     have hlt:=(List.getElem?_eq_some_iff.1 hx).1
     have he:=(List.getElem?_eq_some_iff.1 hx).2
     refine ⟨hlt,by rw [he]; exact hpx,fun j hj=>?_⟩
     have:=hp j _ hj (List.getElem?_eq_getElem (by omega))
     simp [this]
    simp only [idxI,this]
  · rcases Nat.lt_or_ge j i with h | h
    · exact hp j y h hy
    · have:j=i:=by omega
      subst this
      rw [hx] at hy; cases hy; exact hpx
theorem idx_any (p:Int→Bool) (l:List Int):decide (idxI p l≥0)=l.any p:=by
 cases h:l.findIdx? p with
 | none =>
  have e:idxI p l=-1:=by simp only [idxI,h]
  rw [e]
  rw [List.findIdx?_eq_none_iff] at h
  rw [show l.any p=false from by simpa using fun x hx=>by simpa using h x hx]; rfl
 | some i =>
  have e:idxI p l=(i:Int):=by simp only [idxI,h]
  rw [e]
  have:=List.findIdx?_eq_some_iff_getElem.1 h
  obtain ⟨h1,h2,-⟩:=this
  have:l.any p=true:=by rw [List.any_eq_true]; exact ⟨l[i],List.getElem_mem _,h2⟩
  rw [this]; simp
theorem f156b:Try.f156.body=some (Qd Try.prog 156):=by kernel_rfl
theorem u156 {a c k:List AV} {r:AV} (h:Pure Try.prog 156 (a++c++k) r):Qe Try.prog (.clos 156 a k) c r:=Qs Try.func156 (by kernel_rfl) f156b h
theorem p156_start_0 (n:Int) {E:Env} {res:AV} (hE:Qg Try.prog 156 res E) (ho:AllP [Qe Try.prog (.clos 85 [] []) [.int .i64 n] (.bool (QL n))])
 (hr:AvLe (.bool (!(QL n))) res):G Try.prog E [.code (Qd Try.prog 156)] ⟨[.int .i64 n]++unds (Try.f156.ntmps - 1),[]⟩ :=
 Qc (n:=400) (evs:=[.v (.bool (QL n))]) (obs:=_) hE Try.func156 Qo (by kernel_rfl) ho hr
theorem f156W (n:Int) {E:Env} {rv:Bool} (hE:Qg Try.prog 156 (.bool rv) E)
 (h:rv=(!(QL n))):G Try.prog E [.code (Qd Try.prog 156)] ⟨[.int .i64 n]++unds (Try.f156.ntmps - 1),[]⟩:=by
 exact p156_start_0 n hE ⟨(u85 (VD n)),trivial⟩ (AvLe.of_eq (by rw [h]; try rfl))
theorem qX (n:Int):Pure Try.prog 156 [.int .i64 n] (.bool (!QL n)):=QC Try.func156 f156b fun E hE=>f156W n hE rfl
theorem f74ab:Try.f59.body=some (Qd Try.prog 59):=by kernel_rfl
def Qav (P:Program):List Item:=kAt 400 [.code (Qd P 59)] [.stop]
def f74aS0 (l:(List Int)) (i:Nat):St:=⟨([.rsl (rowI l) 0 l.length,.clos 156 [] []]++jj 5 ([.int .i64 (l.length:Int),.int .i64 (i:Int)]++Js 10)),[]⟩
def f74aG0 (E:Env) (l:(List Int)) (i:Nat):Prop:=G Try.prog E (Qav Try.prog) (f74aS0 l i )
theorem p59a_start_0 (l:(List Int)) {E:Env} {rv:AV} (hE:Qg Try.prog 59 rv E) (ho:AllP [])
 (hg:G Try.prog E (Qav Try.prog) ⟨([.rsl (rowI l) 0 l.length,.clos 156 [] []]++jj 5 ([.int .i64 (l.length:Int),.int .i64 0]++Js 10)),[]⟩):G Try.prog E [.code (Qd Try.prog 59)] ⟨[.rsl (rowI l) 0 l.length,.clos 156 [] []]++unds (Try.f59.ntmps - 2),[]⟩ :=
 Ql (n:=400) (ds:=[]) (cs:=[]) (live:=[0,1,7,8]) (m:=0) (evs:=[.stop]) (obs:=_) hE.2.1 (hE.nogh _) Qo (by kernel_rfl) ho hg
theorem f74aW (l:(List Int)) {E:Env} {rv:Int} (hE:Qg Try.prog 59 (.int .i64 rv) E)
 (h:f74aG0 E l 0):G Try.prog E [.code (Qd Try.prog 59)] ⟨[.rsl (rowI l) 0 l.length,.clos 156 [] []]++unds (Try.f59.ntmps - 2),[]⟩:=by
 exact p59a_start_0 l hE trivial h
theorem p59a_0_0 (l:(List Int)) (i:Nat) (e:Int) {E:Env} {res:AV} (hE:Qg Try.prog 59 res E) (ho:AllP [(decide ((i:Int)<(l.length:Int)))=true,0≤(i:Int)∧(i:Int)<(l.length:Int),((rowI l).drop (0+(Int.toNat (i:Int))*1)).take 1=[.int .i64 e],Qe Try.prog (.clos 156 [] []) [.int .i64 e] (.bool (!QL e)),(!QL e)=true])
 (hr:AvLe (.int .i64 (i:Int)) res):G Try.prog E (Qav Try.prog) (f74aS0 l i ) :=
 Qc (n:=400) (evs:=[.b true,.ld (.int .i64 e),.v (.bool (!QL e)),.b true]) (obs:=_) hE Try.func59 Qo (by kernel_rfl) ho hr
theorem p59a_0_1 (l:(List Int)) (i:Nat) (e:Int) {E:Env} {rv:AV} (hE:Qg Try.prog 59 rv E) (ho:AllP [(decide ((i:Int)<(l.length:Int)))=true,0≤(i:Int)∧(i:Int)<(l.length:Int),((rowI l).drop (0+(Int.toNat (i:Int))*1)).take 1=[.int .i64 e],Qe Try.prog (.clos 156 [] []) [.int .i64 e] (.bool (!QL e)),(!QL e)=false,InR .i64 ((i:Int)+1)])
 (hg:G Try.prog E (Qav Try.prog) ⟨([.rsl (rowI l) 0 l.length,.clos 156 [] []]++jj 5 ([.int .i64 (l.length:Int),.int .i64 ((i:Int)+1)]++Js 10)),[]⟩):G Try.prog E (Qav Try.prog) (f74aS0 l i ) :=
 Ql (n:=400) (ds:=[]) (cs:=[]) (live:=[0,1,7,8]) (m:=0) (evs:=[.b true,.ld (.int .i64 e),.v (.bool (!QL e)),.b false,.stop]) (obs:=_) hE.2.1 (hE.nogh _) Qo (by kernel_rfl) ho hg
theorem p59a_0_2 (l:(List Int)) (i:Nat) {E:Env} {res:AV} (hE:Qg Try.prog 59 res E) (ho:AllP [(decide ((i:Int)<(l.length:Int)))=false])
 (hr:AvLe (.int .i64 (-1)) res):G Try.prog E (Qav Try.prog) (f74aS0 l i ) :=
 Qc (n:=400) (evs:=[.b false]) (obs:=_) hE Try.func59 Qo (by kernel_rfl) ho hr
theorem f74aW0 (l:(List Int)) (i:Nat) {E:Env} {rv:Int} (hE:Qg Try.prog 59 (.int .i64 rv) E)
 (h:(((i:Int)<(l.length:Int)→(∃ e:Int,l[i]?=some e∧(((!QL e)=true→rv=(i:Int))∧((!QL e)=false→((I6 ((i:Int)+1))∧f74aG0 E l (i+1))))))∧(¬ ((i:Int)<(l.length:Int))→rv=(-1)))):f74aG0 E l i:=by
 rcases bft (decide ((i:Int)<(l.length:Int))) with hc0 | hc0
 · have h:=h.1 (odt hc0)
   obtain ⟨e,h1,h⟩:=h
   rcases bft (!QL e) with hc1 | hc1
   · have h:=h.1 hc1
     exact p59a_0_0 l i e hE ⟨hc0,(QF h1),(rp cI 1 0 1 h1),(u156 (qX e)),hc1,trivial⟩ (AvLe.of_eq (by rw [h]; try rfl))
   · have h:=h.2 hc1
     obtain ⟨q6_2,h⟩:=h
     exact p59a_0_1 l i e hE ⟨hc0,(QF h1),(rp cI 1 0 1 h1),(u156 (qX e)),hc1,q6_2,trivial⟩ h
 · have h:=h.2 (odf hc0)
   exact p59a_0_2 l i hE ⟨hc0,trivial⟩ (AvLe.of_eq (by rw [h]; try rfl))
theorem idx63_ok (l:List Int) (h:l.length≤9223372036854775807):Pure Try.prog 59 [.rsl (rowI l) 0 l.length,.clos 156 [] []] (.int .i64 (idxI (fun x=>!QL x) l)):=QC Try.func59 f74ab fun E hE=>by
 refine f74aW l hE (Qcd (fun x=>!QL x) l l.length 0 (by omega) (fun j x hj=>by omega) (fun i=>f74aG0 E l i) (fun i hi h1 h2=>?_) (fun _ h2=>?_))
 · have hx:l[i]?=some l[i]:=List.getElem?_eq_getElem hi
   exact f74aW0 l i hE ⟨fun _=>⟨_,hx,fun hp=>h1 _ hx hp,fun hp=>⟨by omega,h2 _ hx hp⟩⟩,fun h=>by omega⟩
 · exact f74aW0 l _ hE ⟨fun h=>by omega,fun _=>h2⟩
theorem f62ab:Try.f76.body=some (Qd Try.prog 76):=by kernel_rfl
theorem p76a_start_0 (l:(List Int)) {E:Env} {res:AV} (hE:Qg Try.prog 76 res E) (ho:AllP [Qe Try.prog (.clos 59 [] []) [.rsl (rowI l) 0 l.length,.clos 156 [] []] (.int .i64 (idxI (fun x=>!QL x) l))])
 (hr:AvLe (.bool (decide ((idxI (fun x=>!QL x) l)≥0))) res):G Try.prog E [.code (Qd Try.prog 76)] ⟨[.rsl (rowI l) 0 l.length,.clos 156 [] []]++unds (Try.f76.ntmps - 2),[]⟩ :=
 Qc (n:=400) (evs:=[.v (.int .i64 (idxI (fun x=>!QL x) l))]) (obs:=_) hE Try.func76 Qo (by kernel_rfl) ho hr
theorem f62aW (l:(List Int)) {E:Env} {rv:Bool} (hE:Qg Try.prog 76 (.bool rv) E)
 (h:((l.length≤9223372036854775807)∧rv=(decide ((idxI (fun x=>!QL x) l)≥0)))):G Try.prog E [.code (Qd Try.prog 76)] ⟨[.rsl (rowI l) 0 l.length,.clos 156 [] []]++unds (Try.f76.ntmps - 2),[]⟩:=by
 obtain ⟨h1,h⟩:=h
 exact p76a_start_0 l hE ⟨(Qs Try.func59 (by kernel_rfl) f74ab (idx63_ok l h1)),trivial⟩ (AvLe.of_eq (by rw [h]; try rfl))
theorem any63_ok (l:List Int) (h:l.length≤9223372036854775807):Pure Try.prog 76 [.rsl (rowI l) 0 l.length,.clos 156 [] []] (.bool (l.any (fun x=>!QL x))):=QC Try.func76 f62ab fun E hE =>
 f62aW l hE ⟨h,(idx_any _ _).symm⟩
theorem f74bb:Try.f59.body=some (Qd Try.prog 59):=by kernel_rfl
def Qau (P:Program):List Item:=kAt 400 [.code (Qd P 59)] [.stop]
def f74bS0 (l:(List Int)) (i:Nat):St:=⟨([.rsl (rowI l) 0 l.length,.clos 157 [] []]++jj 5 ([.int .i64 (l.length:Int),.int .i64 (i:Int)]++Js 10)),[]⟩
def f74bG0 (E:Env) (l:(List Int)) (i:Nat):Prop:=G Try.prog E (Qau Try.prog) (f74bS0 l i )
theorem p59b_start_0 (l:(List Int)) {E:Env} {rv:AV} (hE:Qg Try.prog 59 rv E) (ho:AllP [])
 (hg:G Try.prog E (Qau Try.prog) ⟨([.rsl (rowI l) 0 l.length,.clos 157 [] []]++jj 5 ([.int .i64 (l.length:Int),.int .i64 0]++Js 10)),[]⟩):G Try.prog E [.code (Qd Try.prog 59)] ⟨[.rsl (rowI l) 0 l.length,.clos 157 [] []]++unds (Try.f59.ntmps - 2),[]⟩ :=
 Ql (n:=400) (ds:=[]) (cs:=[]) (live:=[0,1,7,8]) (m:=0) (evs:=[.stop]) (obs:=_) hE.2.1 (hE.nogh _) Qo (by kernel_rfl) ho hg
theorem f74bW (l:(List Int)) {E:Env} {rv:Int} (hE:Qg Try.prog 59 (.int .i64 rv) E)
 (h:f74bG0 E l 0):G Try.prog E [.code (Qd Try.prog 59)] ⟨[.rsl (rowI l) 0 l.length,.clos 157 [] []]++unds (Try.f59.ntmps - 2),[]⟩:=by
 exact p59b_start_0 l hE trivial h
theorem p59b_0_0 (l:(List Int)) (i:Nat) (e:Int) {E:Env} {res:AV} (hE:Qg Try.prog 59 res E) (ho:AllP [(decide ((i:Int)<(l.length:Int)))=true,0≤(i:Int)∧(i:Int)<(l.length:Int),((rowI l).drop (0+(Int.toNat (i:Int))*1)).take 1=[.int .i64 e],Qe Try.prog (.clos 157 [] []) [.int .i64 e] (.bool (!Qk e 0 1000)),(!Qk e 0 1000)=true])
 (hr:AvLe (.int .i64 (i:Int)) res):G Try.prog E (Qau Try.prog) (f74bS0 l i ) :=
 Qc (n:=400) (evs:=[.b true,.ld (.int .i64 e),.v (.bool (!Qk e 0 1000)),.b true]) (obs:=_) hE Try.func59 Qo (by kernel_rfl) ho hr
theorem p59b_0_1 (l:(List Int)) (i:Nat) (e:Int) {E:Env} {rv:AV} (hE:Qg Try.prog 59 rv E) (ho:AllP [(decide ((i:Int)<(l.length:Int)))=true,0≤(i:Int)∧(i:Int)<(l.length:Int),((rowI l).drop (0+(Int.toNat (i:Int))*1)).take 1=[.int .i64 e],Qe Try.prog (.clos 157 [] []) [.int .i64 e] (.bool (!Qk e 0 1000)),(!Qk e 0 1000)=false,InR .i64 ((i:Int)+1)])
 (hg:G Try.prog E (Qau Try.prog) ⟨([.rsl (rowI l) 0 l.length,.clos 157 [] []]++jj 5 ([.int .i64 (l.length:Int),.int .i64 ((i:Int)+1)]++Js 10)),[]⟩):G Try.prog E (Qau Try.prog) (f74bS0 l i ) :=
 Ql (n:=400) (ds:=[]) (cs:=[]) (live:=[0,1,7,8]) (m:=0) (evs:=[.b true,.ld (.int .i64 e),.v (.bool (!Qk e 0 1000)),.b false,.stop]) (obs:=_) hE.2.1 (hE.nogh _) Qo (by kernel_rfl) ho hg
theorem p59b_0_2 (l:(List Int)) (i:Nat) {E:Env} {res:AV} (hE:Qg Try.prog 59 res E) (ho:AllP [(decide ((i:Int)<(l.length:Int)))=false])
 (hr:AvLe (.int .i64 (-1)) res):G Try.prog E (Qau Try.prog) (f74bS0 l i ) :=
 Qc (n:=400) (evs:=[.b false]) (obs:=_) hE Try.func59 Qo (by kernel_rfl) ho hr
theorem f74bW0 (l:(List Int)) (i:Nat) {E:Env} {rv:Int} (hE:Qg Try.prog 59 (.int .i64 rv) E)
 (h:(((i:Int)<(l.length:Int)→(∃ e:Int,l[i]?=some e∧(((!Qk e 0 1000)=true→rv=(i:Int))∧((!Qk e 0 1000)=false→((I6 ((i:Int)+1))∧f74bG0 E l (i+1))))))∧(¬ ((i:Int)<(l.length:Int))→rv=(-1)))):f74bG0 E l i:=by
 rcases bft (decide ((i:Int)<(l.length:Int))) with hc0 | hc0
 · have h:=h.1 (odt hc0)
   obtain ⟨e,h1,h⟩:=h
   rcases bft (!Qk e 0 1000) with hc1 | hc1
   · have h:=h.1 hc1
     exact p59b_0_0 l i e hE ⟨hc0,(QF h1),(rp cI 1 0 1 h1),(u157 (qW e)),hc1,trivial⟩ (AvLe.of_eq (by rw [h]; try rfl))
   · have h:=h.2 hc1
     obtain ⟨q6_2,h⟩:=h
     exact p59b_0_1 l i e hE ⟨hc0,(QF h1),(rp cI 1 0 1 h1),(u157 (qW e)),hc1,q6_2,trivial⟩ h
 · have h:=h.2 (odf hc0)
   exact p59b_0_2 l i hE ⟨hc0,trivial⟩ (AvLe.of_eq (by rw [h]; try rfl))
theorem idx64_ok (l:List Int) (h:l.length≤9223372036854775807):Pure Try.prog 59 [.rsl (rowI l) 0 l.length,.clos 157 [] []] (.int .i64 (idxI (fun x=>!Qk x 0 1000) l)):=QC Try.func59 f74bb fun E hE=>by
 refine f74bW l hE (Qcd (fun x=>!Qk x 0 1000) l l.length 0 (by omega) (fun j x hj=>by omega) (fun i=>f74bG0 E l i) (fun i hi h1 h2=>?_) (fun _ h2=>?_))
 · have hx:l[i]?=some l[i]:=List.getElem?_eq_getElem hi
   exact f74bW0 l i hE ⟨fun _=>⟨_,hx,fun hp=>h1 _ hx hp,fun hp=>⟨by omega,h2 _ hx hp⟩⟩,fun h=>by omega⟩
 · exact f74bW0 l _ hE ⟨fun h=>by omega,fun _=>h2⟩
theorem f62bb:Try.f76.body=some (Qd Try.prog 76):=by kernel_rfl
theorem p76b_start_0 (l:(List Int)) {E:Env} {res:AV} (hE:Qg Try.prog 76 res E) (ho:AllP [Qe Try.prog (.clos 59 [] []) [.rsl (rowI l) 0 l.length,.clos 157 [] []] (.int .i64 (idxI (fun x=>!Qk x 0 1000) l))])
 (hr:AvLe (.bool (decide ((idxI (fun x=>!Qk x 0 1000) l)≥0))) res):G Try.prog E [.code (Qd Try.prog 76)] ⟨[.rsl (rowI l) 0 l.length,.clos 157 [] []]++unds (Try.f76.ntmps - 2),[]⟩ :=
 Qc (n:=400) (evs:=[.v (.int .i64 (idxI (fun x=>!Qk x 0 1000) l))]) (obs:=_) hE Try.func76 Qo (by kernel_rfl) ho hr
theorem f62bW (l:(List Int)) {E:Env} {rv:Bool} (hE:Qg Try.prog 76 (.bool rv) E)
 (h:((l.length≤9223372036854775807)∧rv=(decide ((idxI (fun x=>!Qk x 0 1000) l)≥0)))):G Try.prog E [.code (Qd Try.prog 76)] ⟨[.rsl (rowI l) 0 l.length,.clos 157 [] []]++unds (Try.f76.ntmps - 2),[]⟩:=by
 obtain ⟨h1,h⟩:=h
 exact p76b_start_0 l hE ⟨(Qs Try.func59 (by kernel_rfl) f74bb (idx64_ok l h1)),trivial⟩ (AvLe.of_eq (by rw [h]; try rfl))
theorem any64_ok (l:List Int) (h:l.length≤9223372036854775807):Pure Try.prog 76 [.rsl (rowI l) 0 l.length,.clos 157 [] []] (.bool (l.any (fun x=>!Qk x 0 1000))):=QC Try.func76 f62bb fun E hE =>
 f62bW l hE ⟨h,(idx_any _ _).symm⟩
end Go.Proofs.Ytemklbioijmjiaa
namespace Go.Proofs.Ytemklbioijmjiaa
open Go Ax
open Go.Proofs
theorem f87b:Try.f87.body=some (Qd Try.prog 87):=by kernel_rfl
theorem u87 {a c k:List AV} {r:AV} (h:Pure Try.prog 87 (a++c++k) r):Qe Try.prog (.clos 87 a k) c r:=Qs Try.func87 (by kernel_rfl) f87b h
theorem p87_start_0 (l:(List Int)) {E:Env} {res:AV} (hE:Qg Try.prog 87 res E) (ho:AllP [Qe Try.prog (.clos 110 [] []) [.int .i64 (l.length:Int),.int .i64 1,.int .i64 10] (.bool (Qk (l.length:Int) 1 10)),(Qk (l.length:Int) 1 10)=true,Qe Try.prog (.clos 76 [] []) [.rsl (rowI l) 0 l.length,.clos 157 [] []] (.bool (l.any (fun x=>!Qk x 0 1000))),(!(l.any (fun x=>!Qk x 0 1000)))=true,Qe Try.prog (.clos 158 [] []) [.rsl (rowI l) 0 l.length] (.int .i64 (sumI l))])
 (hr:AvLe (.bool (decide ((sumI l) > 0))) res):G Try.prog E [.code (Qd Try.prog 87)] ⟨[.rsl (rowI l) 0 l.length]++unds (Try.f87.ntmps - 1),[]⟩ :=
 Qc (n:=400) (evs:=[.v (.bool (Qk (l.length:Int) 1 10)),.b true,.v (.bool (l.any (fun x=>!Qk x 0 1000))),.b true,.v (.int .i64 (sumI l))]) (obs:=_) hE Try.func87 Qo (by kernel_rfl) ho hr
theorem p87_start_1 (l:(List Int)) {E:Env} {res:AV} (hE:Qg Try.prog 87 res E) (ho:AllP [Qe Try.prog (.clos 110 [] []) [.int .i64 (l.length:Int),.int .i64 1,.int .i64 10] (.bool (Qk (l.length:Int) 1 10)),(Qk (l.length:Int) 1 10)=true,Qe Try.prog (.clos 76 [] []) [.rsl (rowI l) 0 l.length,.clos 157 [] []] (.bool (l.any (fun x=>!Qk x 0 1000))),(!(l.any (fun x=>!Qk x 0 1000)))=false])
 (hr:AvLe (.bool false) res):G Try.prog E [.code (Qd Try.prog 87)] ⟨[.rsl (rowI l) 0 l.length]++unds (Try.f87.ntmps - 1),[]⟩ :=
 Qc (n:=400) (evs:=[.v (.bool (Qk (l.length:Int) 1 10)),.b true,.v (.bool (l.any (fun x=>!Qk x 0 1000))),.b false]) (obs:=_) hE Try.func87 Qo (by kernel_rfl) ho hr
theorem p87_start_2 (l:(List Int)) {E:Env} {res:AV} (hE:Qg Try.prog 87 res E) (ho:AllP [Qe Try.prog (.clos 110 [] []) [.int .i64 (l.length:Int),.int .i64 1,.int .i64 10] (.bool (Qk (l.length:Int) 1 10)),(Qk (l.length:Int) 1 10)=false,false=false])
 (hr:AvLe (.bool false) res):G Try.prog E [.code (Qd Try.prog 87)] ⟨[.rsl (rowI l) 0 l.length]++unds (Try.f87.ntmps - 1),[]⟩ :=
 Qc (n:=400) (evs:=[.v (.bool (Qk (l.length:Int) 1 10)),.b false,.b false]) (obs:=_) hE Try.func87 Qo (by kernel_rfl) ho hr
theorem f87W (l:(List Int)) {E:Env} {rv:Bool} (hE:Qg Try.prog 87 (.bool rv) E)
 (h:(((Qk (l.length:Int) 1 10)=true→((l.length≤9223372036854775807)∧(((l.any (fun x=>!Qk x 0 1000))=false→((yr l)∧rv=(decide ((sumI l) > 0))))∧((l.any (fun x=>!Qk x 0 1000))=true→rv=false))))∧((Qk (l.length:Int) 1 10)=false→rv=false))):G Try.prog E [.code (Qd Try.prog 87)] ⟨[.rsl (rowI l) 0 l.length]++unds (Try.f87.ntmps - 1),[]⟩:=by
 rcases bft (Qk (l.length:Int) 1 10) with hc0 | hc0
 · have h:=h.1 hc0
   obtain ⟨h1,h⟩:=h
   rcases bft (!(l.any (fun x=>!Qk x 0 1000))) with hc1 | hc1
   · have h:=h.1 (bnT hc1)
     obtain ⟨h2,h⟩:=h
     exact p87_start_0 l hE ⟨(u110 (Xz (l.length:Int) 1 10)),hc0,(Qs Try.func76 (by kernel_rfl) f62bb (any64_ok l h1)),hc1,(u158 (sum_ok l h2)),trivial⟩ (AvLe.of_eq (by rw [h]; try rfl))
   · have h:=h.2 (bnF hc1)
     exact p87_start_1 l hE ⟨(u110 (Xz (l.length:Int) 1 10)),hc0,(Qs Try.func76 (by kernel_rfl) f62bb (any64_ok l h1)),hc1,trivial⟩ (AvLe.of_eq (by rw [h]; try rfl))
 · have h:=h.2 hc0
   exact p87_start_2 l hE ⟨(u110 (Xz (l.length:Int) 1 10)),hc0,rfl,trivial⟩ (AvLe.of_eq (by rw [h]; try rfl))
theorem f86b:Try.f86.body=some (Qd Try.prog 86):=by kernel_rfl
theorem u86 {a c k:List AV} {r:AV} (h:Pure Try.prog 86 (a++c++k) r):Qe Try.prog (.clos 86 a k) c r:=Qs Try.func86 (by kernel_rfl) f86b h
theorem p86_start_0 (l:(List Int)) {E:Env} {res:AV} (hE:Qg Try.prog 86 res E) (ho:AllP [Qe Try.prog (.clos 76 [] []) [.rsl (rowI l) 0 l.length,.clos 156 [] []] (.bool (l.any (fun x=>!QL x)))])
 (hr:AvLe (.bool (!(l.any (fun x=>!QL x)))) res):G Try.prog E [.code (Qd Try.prog 86)] ⟨[.rsl (rowI l) 0 l.length]++unds (Try.f86.ntmps - 1),[]⟩ :=
 Qc (n:=400) (evs:=[.v (.bool (l.any (fun x=>!QL x)))]) (obs:=_) hE Try.func86 Qo (by kernel_rfl) ho hr
theorem f86W (l:(List Int)) {E:Env} {rv:Bool} (hE:Qg Try.prog 86 (.bool rv) E)
 (h:((l.length≤9223372036854775807)∧rv=(!(l.any (fun x=>!QL x))))):G Try.prog E [.code (Qd Try.prog 86)] ⟨[.rsl (rowI l) 0 l.length]++unds (Try.f86.ntmps - 1),[]⟩:=by
 obtain ⟨h1,h⟩:=h
 exact p86_start_0 l hE ⟨(Qs Try.func76 (by kernel_rfl) f62ab (any63_ok l h1)),trivial⟩ (AvLe.of_eq (by rw [h]; try rfl))
theorem f88b:Try.f88.body=some (Qd Try.prog 88):=by kernel_rfl
theorem u88 {a c k:List AV} {r:AV} (h:Pure Try.prog 88 (a++c++k) r):Qe Try.prog (.clos 88 a k) c r:=Qs Try.func88 (by kernel_rfl) f88b h
def f88K0 (P:Program):List Item:=kAt 400 [.code (Qd P 88)] [.stop]
def f88S0 (c:Int) (ws:(List Int)) (v3:List Int) (v4:List Int) (i:Nat) (g3:Nat) (g4:Nat):St:=⟨([J,J,.ptr 0 0 0,J,J,.ptr 2 0 0,.sl 3 g3 0 v3.length 1,.sl 4 g4 0 v4.length 1,.ptr 5 0 0]++jj 13 ([.rsl (rowI ws) 0 ws.length,.int .i64 (ws.length:Int),.int .i64 (i:Int)]++Js 39)),[⟨true,0,1,true,[.int .i64 c],false⟩,⟨true,0,1,true,[.rsl (rowI ws) 0 ws.length],false⟩,⟨true,0,1,true,[.int .i64 (sumI ws)],false⟩,⟨true,g3,1,true,(rowI v3),true⟩,⟨true,g4,1,true,(rowI v4),true⟩,⟨true,0,1,false,[.clos 159 [] [.ptr 0 0 0,.ptr 1 0 0,.ptr 2 0 0]],false⟩]⟩
def f88G0 (E:Env) (c:Int) (ws:(List Int)) (v3:List Int) (v4:List Int) (i:Nat):Prop:=∀ g3 g4:Nat,G Try.prog E (f88K0 Try.prog) (f88S0 c ws v3 v4 i g3 g4)
def f88K1 (P:Program):List Item:=kAt 400 [.code (Qd P 88)] [.b false,.stop]
def f88S1 (c:Int) (ws:(List Int)) (k:Nat) (k1:Nat) (v3:List Int) (v4:List Int) (k11:Nat) (g3:Nat) (g4:Nat):St:=⟨(jj 6 ([.sl 3 g3 0 v3.length 1]++jj 43 ([.sl 4 g4 0 k 1,.int .i64 (k1:Int),.int .i64 (k11:Int)]++Js 11))),[⟨true,0,1,true,[.int .i64 c],false⟩,⟨true,0,1,true,[.rsl (rowI ws) 0 ws.length],false⟩,⟨true,0,1,true,[.int .i64 (sumI ws)],false⟩,⟨true,g3,1,true,(rowI v3),true⟩,⟨true,g4,1,true,(rowI v4),true⟩,⟨true,0,1,false,[.clos 159 [] [.ptr 0 0 0,.ptr 1 0 0,.ptr 2 0 0]],false⟩]⟩
def f88G1 (E:Env) (c:Int) (ws:(List Int)) (k:Nat) (k1:Nat) (v3:List Int) (v4:List Int) (k11:Nat):Prop:=∀ g3 g4:Nat,G Try.prog E (f88K1 Try.prog) (f88S1 c ws k k1 v3 v4 k11 g3 g4)
abbrev z88_1 (g4:Nat) (c:Int) (ws:(List Int)) (v4:List Int):List Blk:=[⟨true,g4,1,true,(rowI (VF (ltI c ws (sumI ws)) v4)),true⟩,⟨true,0,1,false,[.clos 159 [] [.ptr 2 0 0,.ptr 3 0 0,.ptr 4 0 0]],false⟩,⟨true,0,1,true,[.int .i64 c],false⟩,⟨true,0,1,true,[.rsl (rowI ws) 0 ws.length],false⟩,⟨true,0,1,true,[.int .i64 (sumI ws)],false⟩]
abbrev z88_2:List AV:=[.clos 159 [] [.ptr 0 0 0,.ptr 1 0 0,.ptr 2 0 0]]
theorem p88_start_0 (c:Int) (ws:(List Int)) {E:Env} {rv:AV} (hE:Qg Try.prog 88 rv E) (ho:AllP [Qe Try.prog (.clos 158 [] []) [.rsl (rowI ws) 0 ws.length] (.int .i64 (sumI ws)),1≤1,0≤(ws.length:Int)∧(ws.length:Int)≤(ws.length:Int)∧(ws.length:Int)≤2147483648,0≤(ws.length:Int)∧(ws.length:Int)≤(ws.length:Int)∧(ws.length:Int)≤2147483648,1≤1])
 (hg:G Try.prog E (f88K0 Try.prog) ⟨([J,J,.ptr 0 0 0,J,J,.ptr 2 0 0,.sl 3 0 0 (Int.toNat (ws.length:Int)) 1,.sl 4 0 0 (Int.toNat (ws.length:Int)) 1,.ptr 5 0 0]++jj 13 ([.rsl (rowI ws) 0 ws.length,.int .i64 (ws.length:Int),.int .i64 0]++Js 39)),[⟨true,0,1,true,[.int .i64 c],false⟩,⟨true,0,1,true,[.rsl (rowI ws) 0 ws.length],false⟩,⟨true,0,1,true,[.int .i64 (sumI ws)],false⟩,⟨true,0,1,true,((List.replicate (Int.toNat (ws.length:Int)) ([.int .i64 0]:List AV)).flatten),true⟩,⟨true,0,1,true,((List.replicate (Int.toNat (ws.length:Int)) ([.int .i64 0]:List AV)).flatten),true⟩,⟨true,0,1,false,z88_2,false⟩]⟩):G Try.prog E [.code (Qd Try.prog 88)] ⟨[.int .i64 c,.rsl (rowI ws) 0 ws.length]++unds (Try.f88.ntmps - 2),[]⟩ :=
 Ql (n:=400) (ds:=[]) (cs:=[]) (live:=[2,5,6,7,8,22,23,24]) (m:=6) (evs:=[.v (.int .i64 (sumI ws)),.stop]) (obs:=_) hE.2.1 (hE.nogh _) Qo (by kernel_rfl) ho hg
theorem f88W (c:Int) (ws:(List Int)) {E:Env} {rv:(List Int)} (hE:Qg Try.prog 88 (.rsl (rowI rv) 0 rv.length) E)
 (h:((yr ws)∧(ws.length≤2147483648∧(ws.length≤2147483648∧f88G0 E c ws (List.replicate ws.length (0:Int)) (List.replicate ws.length (0:Int)) 0)))):G Try.prog E [.code (Qd Try.prog 88)] ⟨[.int .i64 c,.rsl (rowI ws) 0 ws.length]++unds (Try.f88.ntmps - 2),[]⟩:=by
 obtain ⟨h1,h⟩:=h
 obtain ⟨h2,h⟩:=h
 obtain ⟨h3,h⟩:=h
 refine p88_start_0 c ws hE ⟨(u158 (sum_ok ws h1)),(by decide),⟨by omega,by omega,by have:=h2; omega⟩,⟨by omega,by omega,by have:=h3; omega⟩,(by decide),trivial⟩ ?_
 have h:=(h 0 0)
 simp only [f88G0,f88S0,List.length_set,List.length_replicate] at h
 rw [(show (List.replicate (Int.toNat (ws.length:Int)) ([.int .i64 0]:List AV)).flatten=rowI (List.replicate ws.length (0:Int)) from WK cI _ _)]
 exact h
theorem p88_0_0 (c:Int) (ws:(List Int)) (v3:List Int) (v4:List Int) (i:Nat) (g3:Nat) (g4:Nat) (e:Int) (e1:Int) (e2:Int) {E:Env} {rv:AV} (hE:Qg Try.prog 88 rv E) (ho:AllP [(decide ((i:Int)<(ws.length:Int)))=true,0≤(i:Int)∧(i:Int)<(ws.length:Int),((rowI ws).drop (0+(Int.toNat (i:Int))*1)).take 1=[.int .i64 e],InR .i64 (c*e),InR .i64 (Int.tdiv (c*e) (sumI ws)),(sumI ws) ≠ 0,0≤(i:Int)∧(i:Int)<(v3.length:Int),g3=g3,((0+(Int.toNat (i:Int))*1)+1)≤(rowI v3).length,g3=g3,0≤(i:Int)∧(i:Int)<(v4.length:Int),g4=g4,((0+(Int.toNat (i:Int))*1)+1)≤(rowI v4).length,g4=g4,InR .i64 ((i:Int)+1)])
 (hg:G Try.prog E (f88K0 Try.prog) ⟨([J,J,.ptr 0 0 0,J,J,.ptr 2 0 0,.sl 3 g3 0 v3.length 1,.sl 4 g4 0 v4.length 1,.ptr 5 0 0]++jj 13 ([.rsl (rowI ws) 0 ws.length,.int .i64 (ws.length:Int),.int .i64 ((i:Int)+1)]++Js 39)),[⟨true,0,1,true,[.int .i64 c],false⟩,⟨true,0,1,true,[.rsl (rowI ws) 0 ws.length],false⟩,⟨true,0,1,true,[.int .i64 (sumI ws)],false⟩,⟨true,g3,1,true,(Qt (rowI v3) (0+(Int.toNat (i:Int))*1) [.int .i64 (Int.tdiv (c*e) (sumI ws))]),true⟩,⟨true,g4,1,true,(Qt (rowI v4) (0+(Int.toNat (i:Int))*1) [.int .i64 (i:Int)]),true⟩,⟨true,0,1,false,z88_2,false⟩]⟩):G Try.prog E (f88K0 Try.prog) (f88S0 c ws v3 v4 i g3 g4) :=
 Ql (n:=400) (ds:=[]) (cs:=[]) (live:=[2,5,6,7,8,22,23,24]) (m:=6) (evs:=[.b true,.ld (.int .i64 e),.stop]) (obs:=_) hE.2.1 (hE.nogh _) Qo (by kernel_rfl) ho hg
theorem p88_0_1 (c:Int) (ws:(List Int)) (v3:List Int) (v4:List Int) (i:Nat) (g3:Nat) (g4:Nat) {E:Env} {rv:AV} (hE:Qg Try.prog 88 rv E) (ho:AllP [(decide ((i:Int)<(ws.length:Int)))=false,Xf Try.prog (.clos 160 [] []) [.sl 0 g4 0 v4.length 1,.clos 161 [] [.ptr 1 0 0]] [⟨true,g4,1,true,(rowI v4),true⟩,⟨true,0,1,false,[.clos 159 [] [.ptr 2 0 0,.ptr 3 0 0,.ptr 4 0 0]],false⟩,⟨true,0,1,true,[.int .i64 c],false⟩,⟨true,0,1,true,[.rsl (rowI ws) 0 ws.length],false⟩,⟨true,0,1,true,[.int .i64 (sumI ws)],false⟩] (.tup []) (z88_1 g4 c ws v4),Qe Try.prog (.clos 158 [] []) [.rsl (rowI v3) 0 v3.length] (.int .i64 (sumI v3)),g3=g3,InR .i64 (c - (sumI v3)),0≤(Int.toNat (c - (sumI v3))),(Int.toNat (c - (sumI v3)))≤v4.length,0≤(c - (sumI v3)),g4=g4,g4=g4])
 (hg:G Try.prog E (f88K1 Try.prog) ⟨(jj 6 ([.sl 3 g3 0 v3.length 1]++jj 43 ([.sl 4 g4 0 (Int.toNat (c - (sumI v3))) 1,.int .i64 (((Int.toNat (c - (sumI v3))):Nat):Int),.int .i64 0]++Js 11))),[⟨true,0,1,true,[.int .i64 c],false⟩,⟨true,0,1,true,[.rsl (rowI ws) 0 ws.length],false⟩,⟨true,0,1,true,[.int .i64 (sumI ws)],false⟩,⟨true,g3,1,true,(rowI v3),true⟩,⟨true,g4,1,true,(rowI (VF (ltI c ws (sumI ws)) v4)),true⟩,⟨true,0,1,false,z88_2,false⟩]⟩):G Try.prog E (f88K0 Try.prog) (f88S0 c ws v3 v4 i g3 g4) :=
 Ql (n:=400) (ds:=[]) (cs:=[]) (live:=[6,50,51,52]) (m:=6) (evs:=[.b false,.lent [4,5,0,1,2] (.tup []) (z88_1 g4 c ws v4),.v (.int .i64 (sumI v3)),.stop]) (obs:=_) hE.2.1 (hE.nogh _) Qo (by kernel_rfl) ho hg
theorem f88W0 (c:Int) (ws:(List Int)) (v3:List Int) (v4:List Int) (i:Nat) {E:Env} {rv:(List Int)} (hE:Qg Try.prog 88 (.rsl (rowI rv) 0 rv.length) E)
 (h:(((i:Int)<(ws.length:Int)→(∃ e:Int,ws[i]?=some e∧((I6 (c*e))∧((I6 (Int.tdiv (c*e) (sumI ws)))∧((sumI ws) ≠ 0∧(∃ e1:Int,v3[i]?=some e1∧(∃ e2:Int,v4[i]?=some e2∧((I6 ((i:Int)+1))∧f88G0 E c ws (v3.set i (Int.tdiv (c*e) (sumI ws))) (v4.set i (i:Int)) (i+1)))))))))∧(¬ ((i:Int)<(ws.length:Int))→(((∀ x ∈ v4,VS c ws (sumI ws) x)∧v4.length≤15)∧((yr v3)∧((I6 (c - (sumI v3)))∧((Int.toNat (c - (sumI v3)))≤v4.length∧(0≤(c - (sumI v3))∧f88G1 E c ws (Int.toNat (c - (sumI v3))) (Int.toNat (c - (sumI v3))) v3 (VF (ltI c ws (sumI ws)) v4) 0)))))))):f88G0 E c ws v3 v4 i:=by
 intro g3 g4
 rcases bft (decide ((i:Int)<(ws.length:Int))) with hc0 | hc0
 · have h:=h.1 (odt hc0)
   obtain ⟨e,h1,h⟩:=h
   obtain ⟨q4_1,h⟩:=h
   obtain ⟨q5_1,h⟩:=h
   obtain ⟨q6_1,h⟩:=h
   obtain ⟨e1,h2,h⟩:=h
   obtain ⟨e2,h3,h⟩:=h
   obtain ⟨q17_1,h⟩:=h
   refine p88_0_0 c ws v3 v4 i g3 g4 e e1 e2 hE ⟨hc0,(QF h1),(rp cI 1 0 1 h1),q4_1,q5_1,q6_1,(QF h2),rfl,(rf cI 1 0 1 h2),rfl,(QF h3),rfl,(rf cI 1 0 1 h3),rfl,q17_1,trivial⟩ ?_
   have h:=(h g3 g4)
   simp only [f88S0,List.length_set] at h
   rw [(show Qt (rowI v3) (0+(Int.toNat (i:Int))*1) [.int .i64 (Int.tdiv (c*e) (sumI ws))]=rowI (v3.set i (Int.tdiv (c*e) (sumI ws))) from Qy cI (s:=1) (k:=0) (fun _=>rfl) h2 rfl (by first | decide | simp))]; rw [(show Qt (rowI v4) (0+(Int.toNat (i:Int))*1) [.int .i64 (i:Int)]=rowI (v4.set i (i:Int)) from Qy cI (s:=1) (k:=0) (fun _=>rfl) h3 rfl (by first | decide | simp))]
   exact h
 · have h:=h.2 (odf hc0)
   obtain ⟨h1,h⟩:=h
   obtain ⟨h2,h⟩:=h
   obtain ⟨q4_1,h⟩:=h
   obtain ⟨q6_1,h⟩:=h
   obtain ⟨q7_1,h⟩:=h
   refine p88_0_1 c ws v3 v4 i g3 g4 hE ⟨hc0,(Qw Try.func160 (by kernel_rfl) f160b (sort_ok v4 c ws (sumI ws) g4 h1)),(u158 (sum_ok v3 h2)),rfl,q4_1,(Nat.zero_le _),q6_1,q7_1,rfl,rfl,trivial⟩ ?_
   have h:=(h g3 g4)
   simp only [f88G1,f88S1,List.length_set,WU] at h
   skip
   exact h
theorem p88_1_0 (c:Int) (ws:(List Int)) (k:Nat) (k1:Nat) (v3:List Int) (v4:List Int) (k11:Nat) (g3:Nat) (g4:Nat) (e:Int) (e1:Int) {E:Env} {rv:AV} (hE:Qg Try.prog 88 rv E) (ho:AllP [(decide ((k11:Int)<(k1:Int)))=true,0≤(k11:Int)∧(k11:Int)<(k:Int),g4=g4,g4=g4,((rowI v4).drop (0+(Int.toNat (k11:Int))*1)).take 1=[.int .i64 e],0≤e∧e<(v3.length:Int),g3=g3,g3=g3,((rowI v3).drop (0+(Int.toNat e)*1)).take 1=[.int .i64 e1],InR .i64 (e1+1),0≤e∧e<(v3.length:Int),g3=g3,((0+(Int.toNat e)*1)+1)≤(rowI v3).length,g3=g3,InR .i64 ((k11:Int)+1)])
 (hg:G Try.prog E (f88K1 Try.prog) ⟨(jj 6 ([.sl 3 g3 0 v3.length 1]++jj 43 ([.sl 4 g4 0 k 1,.int .i64 (k1:Int),.int .i64 ((k11:Int)+1)]++Js 11))),[⟨true,0,1,true,[.int .i64 c],false⟩,⟨true,0,1,true,[.rsl (rowI ws) 0 ws.length],false⟩,⟨true,0,1,true,[.int .i64 (sumI ws)],false⟩,⟨true,g3,1,true,(Qt (rowI v3) (0+(Int.toNat e)*1) [.int .i64 (e1+1)]),true⟩,⟨true,g4,1,true,(rowI v4),true⟩,⟨true,0,1,false,z88_2,false⟩]⟩):G Try.prog E (f88K1 Try.prog) (f88S1 c ws k k1 v3 v4 k11 g3 g4) :=
 Ql (n:=400) (ds:=[]) (cs:=[]) (live:=[6,50,51,52]) (m:=6) (evs:=[.b true,.ld (.int .i64 e),.ld (.int .i64 e1),.stop]) (obs:=_) hE.2.1 (hE.nogh _) Qo (by kernel_rfl) ho hg
theorem p88_1_1 (c:Int) (ws:(List Int)) (k:Nat) (k1:Nat) (v3:List Int) (v4:List Int) (k11:Nat) (g3:Nat) (g4:Nat) {E:Env} {res:AV} (hE:Qg Try.prog 88 res E) (ho:AllP [(decide ((k11:Int)<(k1:Int)))=false,g3=g3])
 (hr:AvLe (.rsl (rowI v3) 0 v3.length) res):G Try.prog E (f88K1 Try.prog) (f88S1 c ws k k1 v3 v4 k11 g3 g4) :=
 Qc (n:=400) (evs:=[.b false]) (obs:=_) hE Try.func88 Qo (by kernel_rfl) ho hr
theorem f88W1 (c:Int) (ws:(List Int)) (k:Nat) (k1:Nat) (v3:List Int) (v4:List Int) (k11:Nat) {E:Env} {rv:(List Int)} (hE:Qg Try.prog 88 (.rsl (rowI rv) 0 rv.length) E)
 (h:(((k11:Int)<(k1:Int)→(∃ e:Int,v4[k11]?=some e∧((k11:Int)<(k:Int)∧(0≤e∧(∃ e1:Int,v3[Int.toNat e]?=some e1∧((I6 (e1+1))∧((I6 ((k11:Int)+1))∧f88G1 E c ws k k1 (v3.set (Int.toNat e) (e1+1)) v4 (k11+1))))))))∧(¬ ((k11:Int)<(k1:Int))→rv=v3))):f88G1 E c ws k k1 v3 v4 k11:=by
 intro g3 g4
 rcases bft (decide ((k11:Int)<(k1:Int))) with hc0 | hc0
 · have h:=h.1 (odt hc0)
   obtain ⟨e,h1,h⟩:=h
   obtain ⟨h2,h⟩:=h
   obtain ⟨h4,h⟩:=h
   obtain ⟨e1,h3,h⟩:=h
   obtain ⟨q12_1,h⟩:=h
   obtain ⟨q17_1,h⟩:=h
   refine p88_1_0 c ws k k1 v3 v4 k11 g3 g4 e e1 hE ⟨hc0,⟨by omega,h2⟩,rfl,rfl,(rp cI 1 0 1 h1),(Qn h4 h3),rfl,rfl,(rp cI 1 0 1 h3),q12_1,(Qn h4 h3),rfl,(rf cI 1 0 1 h3),rfl,q17_1,trivial⟩ ?_
   have h:=(h g3 g4)
   simp only [f88S1,List.length_set] at h
   rw [(show Qt (rowI v3) (0+(Int.toNat e)*1) [.int .i64 (e1+1)]=rowI (v3.set (Int.toNat e) (e1+1)) from Qy cI (s:=1) (k:=0) (fun _=>rfl) h3 rfl (by first | decide | simp))]
   exact h
 · have h:=h.2 (odf hc0)
   exact p88_1_1 c ws k k1 v3 v4 k11 g3 g4 hE ⟨hc0,rfl,trivial⟩ (AvLe.of_eq (by rw [h]; try rfl))
theorem sortI_mem {lt:Int→Int→Bool} {l:List Int} {x:Int} (h:x ∈ VF lt l):x ∈ l:=by
 have:∀ (xs:List Nat) (l:List Int) (x:Int),x ∈ xs.foldl (fun l k=>sink lt (k+1) l) l→x ∈ l:=by
  intro xs
  induction xs with
  | nil=>intro l x h; exact h
  | cons y xs ih=>intro l x h; rw [List.foldl_cons] at h; exact QaT (ih _ _ h)
 exact this _ _ _ h
def Yh (c S w:Int):Int:=Int.tdiv (c*w) S
def Vc (c:Int) (ws:List Int):List Int:=ws.map (Yh c (sumI ws))
def Xp (c:Int) (ws:List Int):List Int:=VF (ltI c ws (sumI ws)) ((List.range ws.length).map fun i:Nat=>(i:Int))
def bump (l:List Int) (e:Int):List Int:=l.set (Int.toNat e) (l.getD (Int.toNat e) 0+1)
/-- The program's split: the shares rounded down,and a cent more for those first in the order. -/
def XQ (c:Int) (ws:List Int):List Int:=((Xp c ws).take (Int.toNat (c - sumI (Vc c ws)))).foldl bump (Vc c ws)
structure SplitOk (c:Int) (ws:List Int):Prop where
 len1:1≤ws.length
 len:ws.length≤10
 w:∀ x ∈ ws,0≤x∧x≤1000
 pos:0<sumI ws
 c0:0≤c
 c1:c≤1000000000
theorem sum_bd {B:Int} (hB:0≤B):∀ {l:List Int},(∀ x ∈ l,0≤x∧x≤B)→0≤l.sum∧l.sum≤B*(l.length:Int)
 | [],_=>by simp
 | x :: l,h=>by
  have h1:=h x (by simp)
  have h2:=sum_bd hB (l:=l) (fun y hy=>h y (by simp [hy]))
  rw [List.sum_cons,List.length_cons,Int.natCast_add,Int.mul_add]
  omega
theorem QaP {B:Int} {l:List Int} (hB:0≤B) (hB2:B≤1000000000000000) (hl:l.length≤1000) (h:∀ x ∈ l,0≤x∧x≤B):yr l:=by
 refine ⟨by omega,fun k hk=>?_⟩
 have h1:=sum_bd hB (l:=l.take k) (fun x hx=>h x (List.mem_of_mem_take hx))
 have h2:(((l.take k).length:Nat):Int)≤1000:=by rw [List.length_take]; omega
 have h3:B*(((l.take k).length:Nat):Int)≤1000000000000000*1000:=Int.mul_le_mul hB2 h2 (by omega) (by omega)
 omega
theorem yz {c S w:Int} (hS:0<S) (hc:0≤c) (hw:0≤w):0≤Yh c S w∧S*Yh c S w≤c*w∧c*w≤S*Yh c S w+S∧Yh c S w≤c*w:=by
 have h0:0≤c*w:=Int.mul_nonneg hc hw
 have e:Yh c S w=(c*w) / S:=Int.tdiv_eq_ediv_of_nonneg h0
 have h1:=Int.ediv_nonneg h0 (Int.le_of_lt hS)
 have h2:=Int.mul_ediv_self_le (x:=c*w) (k:=S) (by omega)
 have h3:=Int.lt_mul_ediv_self_add (x:=c*w) hS
 have h4:=Int.ediv_le_self S h0
 rw [e]
 exact ⟨h1,h2,by omega,h4⟩
theorem share_sum {c S:Int} (hS:0<S) (hc:0≤c):∀ {l:List Int},(∀ w ∈ l,0≤w)→S*(l.map (Yh c S)).sum≤c*l.sum∧c*l.sum≤S*(l.map (Yh c S)).sum+S*(l.length:Int)
 | [],_=>by simp
 | w :: l,h=>by
  obtain ⟨-,h1,h2,-⟩:=yz hS hc (h w (by simp))
  have h3:=share_sum hS hc (l:=l) (fun y hy=>h y (by simp [hy]))
  rw [List.map_cons,List.sum_cons,List.sum_cons,List.length_cons,Int.natCast_add,Int.mul_add,Int.mul_add,Int.mul_add]
  omega
theorem Kd {c w:Int} (hc:0≤c∧c≤1000000000) (hw:0≤w∧w≤1000):0≤c*w∧c*w≤1000000000000:=by
 have h1:=Int.mul_nonneg hc.1 hw.1
 have h2:c*w≤1000000000*1000:=Int.mul_le_mul hc.2 hw.2 hw.1 (by omega)
 omega
theorem base_left {c:Int} {ws:List Int} (h:SplitOk c ws):sumI (Vc c ws)≤c∧c≤sumI (Vc c ws)+ws.length:=by
 have h1:=share_sum h.pos h.c0 (l:=ws) (fun w hw=>(h.w w hw).1)
 have hS:=h.pos
 simp only [sumI,Vc] at *
 constructor
 · have:ws.sum*(ws.map (Yh c ws.sum)).sum≤ws.sum*c:=by rw [Int.mul_comm ws.sum c]; exact h1.1
   exact Int.le_of_mul_le_mul_left this hS
 · have:ws.sum*c≤ws.sum*((ws.map (Yh c ws.sum)).sum+ws.length):=by rw [Int.mul_comm ws.sum c,Int.mul_add]; exact h1.2
   exact Int.le_of_mul_le_mul_left this hS
theorem fill_set {α:Type} (xs:List α) (z y:α) (m n:Nat) (hn:n=m+1) {i:Nat} (hi:i=xs.length):(xs++List.replicate n z).set i y=(xs++[y])++List.replicate m z:=by
 subst hn; subst hi
 rw [List.set_append_right _ _ (Nat.le_refl _),Nat.sub_self,List.replicate_succ,List.set_cons_zero,List.append_assoc]; rfl
theorem fill_get {α:Type} (xs:List α) (z:α) (m n:Nat) (hn:n=m+1) {i:Nat} (hi:i=xs.length):(xs++List.replicate n z)[i]?=some z:=by
 subst hn; subst hi
 rw [List.getElem?_append_right (Nat.le_refl _),Nat.sub_self,List.replicate_succ]; rfl
theorem key_ok_of {c:Int} {ws:List Int} (h:SplitOk c ws) {x:Int} (h0:0≤x) (h1:x<ws.length):VS c ws (sumI ws) x:=by
 have hg:ws[Int.toNat x]?=some (ws.getD (Int.toNat x) 0):=by simp [List.getD,show Int.toNat x<ws.length by omega]
 have hw:=h.w _ (List.mem_of_getElem? hg)
 have:=Kd ⟨h.c0,h.c1⟩ hw
 have:=h.pos
 exact ⟨h0,h1,by omega,by omega⟩
theorem split_ok (c:Int) (ws:List Int) (h:SplitOk c ws):Pure Try.prog 88 [.int .i64 c,.rsl (rowI ws) 0 ws.length] (.rsl (rowI (XQ c ws)) 0 (XQ c ws).length):=QC Try.func88 f88b fun E hE=>by
 have hS:=h.pos
 have hlen:=h.len
 have hb:=base_left h
 have bd:∀ x ∈ Vc c ws,0≤x∧x≤1000000000000:=by
  intro x hx
  obtain ⟨w,hw,rfl⟩:=List.mem_map.1 hx
  have h1:=yz hS h.c0 (h.w w hw).1
  have h2:=Kd ⟨h.c0,h.c1⟩ (h.w w hw)
  omega
 have hbl:(Vc c ws).length=ws.length:=by simp [Vc]
 have hol:(Xp c ws).length=ws.length:=by simp [Xp,WU]
 have hom:∀ x ∈ Xp c ws,0≤x∧x<ws.length:=by
  intro x hx
  obtain ⟨i,hi,rfl⟩:=List.mem_map.1 (sortI_mem hx)
  have:=List.mem_range.1 hi
  omega
 -- the cents that are left
 have last:∀ (d i:Nat) (v:List Int),i+d=Int.toNat (c - sumI (Vc c ws))→v=((Xp c ws).take i).foldl bump (Vc c ws)→v.length=ws.length→(∀ x ∈ v,0≤x∧x≤1000000000000+i) →
  f88G1 E c ws (Int.toNat (c - sumI (Vc c ws))) (Int.toNat (c - sumI (Vc c ws))) v (Xp c ws) i:=by
  intro d
  induction d with
  | zero =>
   intro i v hd hv hvl hvb
   refine f88W1 c ws _ _ v _ i (rv:=XQ c ws) hE ⟨fun h=>by omega,fun _=>?_⟩
   rw [hv,XQ,← hd]; rfl
  | succ d ih =>
   intro i v hd hv hvl hvb
   have hi:(Xp c ws)[i]?=some (Xp c ws)[i]:=List.getElem?_eq_getElem (by omega)
   have h1:=hom _ (List.mem_of_getElem? hi)
   have h2:v[Int.toNat (Xp c ws)[i]]?=some (v.getD (Int.toNat (Xp c ws)[i]) 0):=by simp [List.getD,show Int.toNat (Xp c ws)[i]<v.length by omega]
   have h3:=hvb _ (List.mem_of_getElem? h2)
   refine f88W1 c ws _ _ v _ i (rv:=XQ c ws) hE ⟨fun _=>⟨_,hi,by omega,h1.1,_,h2,by omega,by omega,ih (i+1) _ (by omega) ?_ (by simp [hvl]) (fun x hx=>?_)⟩,fun h=>by omega⟩
   · rw [List.take_add_one,hi,List.foldl_append,← hv]; rfl
   · rcases List.mem_or_eq_of_mem_set hx with hx | rfl
     · have:=hvb x hx; omega
     · omega
 -- the shares
 have first:∀ (d i:Nat),i+d=ws.length→f88G0 E c ws ((ws.take i).map (Yh c (sumI ws))++List.replicate d 0) ((List.range i).map (fun i:Nat=>(i:Int))++List.replicate d 0) i:=by
  intro d
  induction d with
  | zero =>
   intro i hd
   have e1:(ws.take i).map (Yh c (sumI ws))=Vc c ws:=by rw [List.take_of_length_le (by omega)]; rfl
   have e2:i=ws.length:=by omega
   rw [e1,List.replicate_zero,List.append_nil,List.append_nil,e2]
   refine f88W0 c ws _ _ _ (rv:=XQ c ws) hE ⟨fun h=>by omega,fun _=>⟨⟨fun x hx=>?_,by simp; omega⟩,QaP (B:=1000000000000) (by omega) (by omega) (by omega) bd,by omega,by simp; omega,by omega,?_⟩⟩
   · obtain ⟨j,hj,rfl⟩:=List.mem_map.1 hx
     have:=List.mem_range.1 hj
     exact key_ok_of h (by omega) (by omega)
   · exact last (Int.toNat (c - sumI (Vc c ws))) 0 _ (by omega) rfl hbl (fun x hx=>by have:=bd x hx; omega)
  | succ d ih =>
   intro i hd
   have hi:ws[i]?=some ws[i]:=List.getElem?_eq_getElem (by omega)
   have hw:=h.w _ (List.mem_of_getElem? hi)
   have h1:=yz hS h.c0 hw.1
   have h2:=Kd ⟨h.c0,h.c1⟩ hw
   have h3:=ih (i+1) (by omega)
   have l1:i=((ws.take i).map (Yh c (sumI ws))).length:=by simp; omega
   have l2:i=((List.range i).map (fun i:Nat=>(i:Int))).length:=by simp
   have g1:((ws.take i).map (Yh c (sumI ws))++List.replicate (d+1) 0)[i]?=some 0:=fill_get _ _ d _ rfl l1
   have g2:((List.range i).map (fun i:Nat=>(i:Int))++List.replicate (d+1) 0)[i]?=some 0:=fill_get _ _ d _ rfl l2
   refine f88W0 c ws _ _ i (rv:=XQ c ws) hE ⟨fun _=>⟨_,hi,by omega,?_,by omega,_,g1,_,g2,by omega,?_⟩,fun h=>by omega⟩
   · simp only [Yh] at h1; omega
   · rw [fill_set _ _ _ d _ rfl l1,fill_set _ _ _ d _ rfl l2]
     rw [List.take_add_one,hi,List.map_append,List.range_succ,List.map_append] at h3
     exact h3
 refine f88W c ws (rv:=XQ c ws) hE ⟨QaP (B:=1000) (by omega) (by omega) (by omega) h.w,by omega,by omega,first ws.length 0 (by omega)⟩
end Go.Proofs.Ytemklbioijmjiaa
namespace Go.Proofs.Ytemklbioijmjiaa
open Go Ax
open Go.Proofs
def Xy (ws:List Int):Bool:=Qk ws.length 1 10 && (!(ws.any fun x=>!Qk x 0 1000) && decide (sumI ws > 0))
theorem QU {n lo hi:Int}:Qk n lo hi=true ↔ lo≤n∧n≤hi:=by simp [Qk]
theorem Qaf {ws:List Int} (h:(ws.any fun x=>!Qk x 0 1000)=false):∀ x ∈ ws,0≤x∧x≤1000:=by
 intro x hx
 rw [List.any_eq_false] at h
 have:=h x hx
 simp only [Bool.not_eq_true',Bool.not_eq_false] at this
 exact QU.1 (by simpa using this)
theorem yI (l:List Int) (h:l.length≤9223372036854775807):Pure Try.prog 87 [.rsl (rowI l) 0 l.length] (.bool (Xy l)):=QC Try.func87 f87b fun E hE=>by
 refine f87W l hE ⟨fun h1=>⟨h,fun h2=>⟨?_,?_⟩,fun h2=>?_⟩,fun h1=>?_⟩
 · have:=QU.1 h1
   exact QaP (B:=1000) (by omega) (by omega) (by omega) (Qaf h2)
 · simp [Xy,h1,h2]
 · simp [Xy,h2]
 · simp [Xy,h1]
theorem qR (l:List Int) (h:l.length≤9223372036854775807):Pure Try.prog 86 [.rsl (rowI l) 0 l.length] (.bool (!(l.any fun x=>!QL x))):=QC Try.func86 f86b fun E hE =>
 f86W l hE ⟨h,rfl⟩
theorem split_of {c:Int} {ws:List Int} (hc:0≤c∧c≤1000000000) (h:Xy ws=true):SplitOk c ws:=by
 simp only [Xy,Bool.and_eq_true,Bool.not_eq_true',decide_eq_true_eq] at h
 obtain ⟨h1,h2,h3⟩:=h
 have h1:=QU.1 h1
 exact ⟨by omega,by omega,Qaf h2,h3,hc.1,hc.2⟩
def yW (s:List Int × Int) (x:Int):List Int × Int:=(s.1++[iMin x s.2],s.2 - iMin x s.2)
def payI (c:Int) (cl:List Int):List Int × Int:=cl.foldl yW ([],c)
def Xo (c:Int) (cl ws:List Int):List Int × List Int × Int :=
 if QL c=false then ([],[],1) else if (cl.length:Int) > 10 then ([],[],1) else if (!cl.any fun x=>!QL x)=false then ([],[],1) else
 if Xy ws=false then ([],[],110) else ((payI c cl).1,XQ (payI c cl).2 ws,0)
theorem f33b:Try.f33.body=some (Qd Try.prog 33):=by kernel_rfl
theorem u33 {a c k:List AV} {r:AV} (h:Pure Try.prog 33 (a++c++k) r):Qe Try.prog (.clos 33 a k) c r:=Qs Try.func33 (by kernel_rfl) f33b h
def f33K0 (P:Program):List Item:=kAt 400 [.code (Qd P 33)] [.b false,.b false,.stop]
def f33S0 (c:Int) (cl:(List Int)) (ws:(List Int)) (cents:Int) (v0:List Int) (i:Nat) (g0:Nat):St:=⟨([.int .i64 cents,J,.rsl (rowI ws) 0 ws.length,J,J,J,.sl 0 g0 0 v0.length 1]++jj 21 ([.rsl (rowI cl) 0 cl.length,.int .i64 (cl.length:Int),.int .i64 (i:Int)]++Js 18)),[⟨true,g0,1,true,(rowI v0),true⟩]⟩
def f33G0 (E:Env) (c:Int) (cl:(List Int)) (ws:(List Int)) (cents:Int) (v0:List Int) (i:Nat):Prop:=∀ g0:Nat,G Try.prog E (f33K0 Try.prog) (f33S0 c cl ws cents v0 i g0)
abbrev z33_1 (c:Int) (cl:(List Int)) (ws:(List Int)):List AV:=[.int .i64 c,.rsl (rowI cl) 0 cl.length,.rsl (rowI ws) 0 ws.length]
theorem p33_start_0 (c:Int) (cl:(List Int)) (ws:(List Int)) {E:Env} {res:AV} (hE:Qg Try.prog 33 res E) (ho:AllP [Qe Try.prog (.clos 85 [] []) [.int .i64 c] (.bool (QL c)),(!(QL c))=true,true=true,true=true])
 (hr:AvLe (.tup [.nilSl,.nilSl,.int .i64 1]) res):G Try.prog E [.code (Qd Try.prog 33)] ⟨(z33_1 c cl ws)++unds (Try.f33.ntmps - 3),[]⟩ :=
 Qc (n:=400) (evs:=[.v (.bool (QL c)),.b true,.b true,.b true]) (obs:=_) hE Try.func33 Qo (by kernel_rfl) ho hr
theorem p33_start_1 (c:Int) (cl:(List Int)) (ws:(List Int)) {E:Env} {res:AV} (hE:Qg Try.prog 33 res E) (ho:AllP [Qe Try.prog (.clos 85 [] []) [.int .i64 c] (.bool (QL c)),(!(QL c))=false,(decide ((cl.length:Int) > 10))=true,true=true])
 (hr:AvLe (.tup [.nilSl,.nilSl,.int .i64 1]) res):G Try.prog E [.code (Qd Try.prog 33)] ⟨(z33_1 c cl ws)++unds (Try.f33.ntmps - 3),[]⟩ :=
 Qc (n:=400) (evs:=[.v (.bool (QL c)),.b false,.b true,.b true]) (obs:=_) hE Try.func33 Qo (by kernel_rfl) ho hr
theorem p33_start_2 (c:Int) (cl:(List Int)) (ws:(List Int)) {E:Env} {res:AV} (hE:Qg Try.prog 33 res E) (ho:AllP [Qe Try.prog (.clos 85 [] []) [.int .i64 c] (.bool (QL c)),(!(QL c))=false,(decide ((cl.length:Int) > 10))=false,Qe Try.prog (.clos 86 [] []) [.rsl (rowI cl) 0 cl.length] (.bool (!cl.any (fun x=>!QL x))),(!(!cl.any (fun x=>!QL x)))=true])
 (hr:AvLe (.tup [.nilSl,.nilSl,.int .i64 1]) res):G Try.prog E [.code (Qd Try.prog 33)] ⟨(z33_1 c cl ws)++unds (Try.f33.ntmps - 3),[]⟩ :=
 Qc (n:=400) (evs:=[.v (.bool (QL c)),.b false,.b false,.v (.bool (!cl.any (fun x=>!QL x))),.b true]) (obs:=_) hE Try.func33 Qo (by kernel_rfl) ho hr
theorem p33_start_3 (c:Int) (cl:(List Int)) (ws:(List Int)) {E:Env} {res:AV} (hE:Qg Try.prog 33 res E) (ho:AllP [Qe Try.prog (.clos 85 [] []) [.int .i64 c] (.bool (QL c)),(!(QL c))=false,(decide ((cl.length:Int) > 10))=false,Qe Try.prog (.clos 86 [] []) [.rsl (rowI cl) 0 cl.length] (.bool (!cl.any (fun x=>!QL x))),(!(!cl.any (fun x=>!QL x)))=false,Qe Try.prog (.clos 87 [] []) [.rsl (rowI ws) 0 ws.length] (.bool (Xy ws)),(!(Xy ws))=true])
 (hr:AvLe (.tup [.nilSl,.nilSl,.int .i64 110]) res):G Try.prog E [.code (Qd Try.prog 33)] ⟨(z33_1 c cl ws)++unds (Try.f33.ntmps - 3),[]⟩ :=
 Qc (n:=400) (evs:=[.v (.bool (QL c)),.b false,.b false,.v (.bool (!cl.any (fun x=>!QL x))),.b false,.v (.bool (Xy ws)),.b true]) (obs:=_) hE Try.func33 Qo (by kernel_rfl) ho hr
theorem p33_start_4 (c:Int) (cl:(List Int)) (ws:(List Int)) {E:Env} {rv:AV} (hE:Qg Try.prog 33 rv E) (ho:AllP [Qe Try.prog (.clos 85 [] []) [.int .i64 c] (.bool (QL c)),(!(QL c))=false,(decide ((cl.length:Int) > 10))=false,Qe Try.prog (.clos 86 [] []) [.rsl (rowI cl) 0 cl.length] (.bool (!cl.any (fun x=>!QL x))),(!(!cl.any (fun x=>!QL x)))=false,Qe Try.prog (.clos 87 [] []) [.rsl (rowI ws) 0 ws.length] (.bool (Xy ws)),(!(Xy ws))=false])
 (hg:G Try.prog E (f33K0 Try.prog) ⟨([.int .i64 c,J,.rsl (rowI ws) 0 ws.length,J,J,J,.sl 0 0 0 0 1]++jj 21 ([.rsl (rowI cl) 0 cl.length,.int .i64 (cl.length:Int),.int .i64 0]++Js 18)),[⟨true,0,1,true,[],true⟩]⟩):G Try.prog E [.code (Qd Try.prog 33)] ⟨(z33_1 c cl ws)++unds (Try.f33.ntmps - 3),[]⟩ :=
 Ql (n:=400) (ds:=[(6,1)]) (cs:=[]) (live:=[0,2,6,28,29,30]) (m:=1) (evs:=[.v (.bool (QL c)),.b false,.b false,.v (.bool (!cl.any (fun x=>!QL x))),.b false,.v (.bool (Xy ws)),.b false,.stop]) (obs:=_) hE.2.1 (hE.nogh _) Qo (by kernel_rfl) ho hg
theorem f33W (c:Int) (cl:(List Int)) (ws:(List Int)) {E:Env} {rv:((List Int) × (List Int) × Int)} (hE:Qg Try.prog 33 (.tup [.rsl (rowI rv.1) 0 rv.1.length,.rsl (rowI rv.2.1) 0 rv.2.1.length,.int .i64 rv.2.2]) E)
 (h:(((QL c)=false→rv=(([]:List Int),([]:List Int),1))∧((QL c)=true→(((cl.length:Int) > 10→rv=(([]:List Int),([]:List Int),1))∧(¬ ((cl.length:Int) > 10)→((cl.length≤9223372036854775807)∧(((!cl.any (fun x=>!QL x))=false→rv=(([]:List Int),([]:List Int),1))∧((!cl.any (fun x=>!QL x))=true→((ws.length≤9223372036854775807)∧(((Xy ws)=false→rv=(([]:List Int),([]:List Int),110))∧((Xy ws)=true→f33G0 E c cl ws c ([]) 0))))))))))):G Try.prog E [.code (Qd Try.prog 33)] ⟨[.int .i64 c,.rsl (rowI cl) 0 cl.length,.rsl (rowI ws) 0 ws.length]++unds (Try.f33.ntmps - 3),[]⟩:=by
 rcases bft (!(QL c)) with hc0 | hc0
 · have h:=h.1 (bnT hc0)
   exact p33_start_0 c cl ws hE ⟨(u85 (VD c)),hc0,rfl,rfl,trivial⟩ (by rw [h]; exact (Vh ⟨Yd,⟨Yd,⟨AvLe.of_eq rfl,trivial⟩⟩⟩))
 · have h:=h.2 (bnF hc0)
   rcases bft (decide ((cl.length:Int) > 10)) with hc1 | hc1
   · have h:=h.1 (odt hc1)
     exact p33_start_1 c cl ws hE ⟨(u85 (VD c)),hc0,hc1,rfl,trivial⟩ (by rw [h]; exact (Vh ⟨Yd,⟨Yd,⟨AvLe.of_eq rfl,trivial⟩⟩⟩))
   · have h:=h.2 (odf hc1)
     obtain ⟨h1,h⟩:=h
     rcases bft (!(!cl.any (fun x=>!QL x))) with hc2 | hc2
     · have h:=h.1 (bnT hc2)
       exact p33_start_2 c cl ws hE ⟨(u85 (VD c)),hc0,hc1,(u86 (qR cl h1)),hc2,trivial⟩ (by rw [h]; exact (Vh ⟨Yd,⟨Yd,⟨AvLe.of_eq rfl,trivial⟩⟩⟩))
     · have h:=h.2 (bnF hc2)
       obtain ⟨h2,h⟩:=h
       rcases bft (!(Xy ws)) with hc3 | hc3
       · have h:=h.1 (bnT hc3)
         exact p33_start_3 c cl ws hE ⟨(u85 (VD c)),hc0,hc1,(u86 (qR cl h1)),hc2,(u87 (yI ws h2)),hc3,trivial⟩ (by rw [h]; exact (Vh ⟨Yd,⟨Yd,⟨AvLe.of_eq rfl,trivial⟩⟩⟩))
       · have h:=h.2 (bnF hc3)
         exact p33_start_4 c cl ws hE ⟨(u85 (VD c)),hc0,hc1,(u86 (qR cl h1)),hc2,(u87 (yI ws h2)),hc3,trivial⟩ (h 0)
theorem p33_0_0 (c:Int) (cl:(List Int)) (ws:(List Int)) (cents:Int) (v0:List Int) (i:Nat) (g0:Nat) (e:Int) {E:Env} {rv:AV} (hE:Qg Try.prog 33 rv E) (ho:AllP [(decide ((i:Int)<(cl.length:Int)))=true,0≤(i:Int)∧(i:Int)<(cl.length:Int),((rowI cl).drop (0+(Int.toNat (i:Int))*1)).take 1=[.int .i64 e],g0=g0,(0+(v0.length*1))=(rowI v0).length,(v0.length+1)≤2147483648,0=0,InR .i64 (cents - (iMin e cents)),InR .i64 ((i:Int)+1)])
 (hg:G Try.prog E (f33K0 Try.prog) ⟨([.int .i64 (cents - (iMin e cents)),J,.rsl (rowI ws) 0 ws.length,J,J,J,.sl 0 (g0+1) 0 (v0.length+1) 1]++jj 21 ([.rsl (rowI cl) 0 cl.length,.int .i64 (cl.length:Int),.int .i64 ((i:Int)+1)]++Js 18)),[⟨true,(g0+1),1,true,((rowI v0)++[.int .i64 (iMin e cents)]),true⟩]⟩):G Try.prog E (f33K0 Try.prog) (f33S0 c cl ws cents v0 i g0) :=
 Ql (n:=400) (ds:=[]) (cs:=[]) (live:=[0,2,6,28,29,30]) (m:=1) (evs:=[.b true,.ld (.int .i64 e),.stop]) (obs:=_) hE.2.1 (hE.nogh _) Qo (by kernel_rfl) ho hg
theorem p33_0_1 (c:Int) (cl:(List Int)) (ws:(List Int)) (cents:Int) (v0:List Int) (i:Nat) (g0:Nat) {E:Env} {res:AV} (hE:Qg Try.prog 33 res E) (ho:AllP [(decide ((i:Int)<(cl.length:Int)))=false,Qe Try.prog (.clos 88 [] []) [.int .i64 cents,.rsl (rowI ws) 0 ws.length] (.rsl (rowI (XQ cents ws)) 0 ((XQ cents ws).length)),g0=g0])
 (hr:AvLe (.tup [.rsl (rowI v0) 0 v0.length,.rsl (rowI (XQ cents ws)) 0 ((XQ cents ws).length),.int .i64 0]) res):G Try.prog E (f33K0 Try.prog) (f33S0 c cl ws cents v0 i g0) :=
 Qc (n:=400) (evs:=[.b false,.v (.rsl (rowI (XQ cents ws)) 0 ((XQ cents ws).length))]) (obs:=_) hE Try.func33 Qo (by kernel_rfl) ho hr
theorem f33W0 (c:Int) (cl:(List Int)) (ws:(List Int)) (cents:Int) (v0:List Int) (i:Nat) {E:Env} {rv:((List Int) × (List Int) × Int)} (hE:Qg Try.prog 33 (.tup [.rsl (rowI rv.1) 0 rv.1.length,.rsl (rowI rv.2.1) 0 rv.2.1.length,.int .i64 rv.2.2]) E)
 (h:(((i:Int)<(cl.length:Int)→(∃ e:Int,cl[i]?=some e∧((v0.length+1)≤2147483648∧((I6 (cents - (iMin e cents)))∧((I6 ((i:Int)+1))∧f33G0 E c cl ws (cents - (iMin e cents)) (v0++[(iMin e cents)]) (i+1))))))∧(¬ ((i:Int)<(cl.length:Int))→((SplitOk cents ws)∧rv=(v0,(XQ cents ws),0))))):f33G0 E c cl ws cents v0 i:=by
 intro g0
 rcases bft (decide ((i:Int)<(cl.length:Int))) with hc0 | hc0
 · have h:=h.1 (odt hc0)
   obtain ⟨e,h1,h⟩:=h
   obtain ⟨h2,h⟩:=h
   obtain ⟨q8_1,h⟩:=h
   obtain ⟨q9_1,h⟩:=h
   refine p33_0_0 c cl ws cents v0 i g0 e hE ⟨hc0,(QF h1),(rp cI 1 0 1 h1),rfl,(by have hx:=QI cI (s:=1) (fun _=>rfl) v0; simp only [rowI] at hx ⊢; rw [hx]; simp),h2,rfl,q8_1,q9_1,trivial⟩ ?_
   rw [(show rowI v0++[.int .i64 (iMin e cents)]=rowI (v0++[(iMin e cents)]) from (qw cI v0 [(iMin e cents)]).symm)]; rw [(show (v0.length+1)=(v0++[(iMin e cents)]).length from by simp)]; exact (h (g0+1))
 · have h:=h.2 (odf hc0)
   obtain ⟨h1,h⟩:=h
   exact p33_0_1 c cl ws cents v0 i g0 hE ⟨hc0,(u88 (split_ok cents ws h1)),rfl,trivial⟩ (AvLe.of_eq (by rw [h]; try rfl))
theorem claims_ok (c:Int) (cl ws:List Int) (h:cl.length≤9223372036854775807∧ws.length≤9223372036854775807):Pure Try.prog 33 [.int .i64 c,.rsl (rowI cl) 0 cl.length,.rsl (rowI ws) 0 ws.length]
 (.tup [.rsl (rowI (Xo c cl ws).1) 0 (Xo c cl ws).1.length,.rsl (rowI (Xo c cl ws).2.1) 0 (Xo c cl ws).2.1.length,.int .i64 (Xo c cl ws).2.2]):=QC Try.func33 f33b fun E hE=>by
 refine f33W c cl ws (rv:=Xo c cl ws) hE ⟨fun h1=>by simp [Xo,h1],fun h1=>⟨fun h2=>by simp only [Xo]; rw [if_neg (by rw [h1]; simp),if_pos h2],fun h2=>⟨h.1,fun h3=>?_,fun h3=>⟨h.2,fun h4=>?_,fun h4=>?_⟩⟩⟩⟩
 · simp only [Xo]; rw [if_neg (by rw [h1]; simp),if_neg h2,if_pos h3]
 · simp only [Xo]; rw [if_neg (by rw [h1]; simp),if_neg h2,if_neg (by rw [h3]; simp),if_pos h4]
 · have he:Xo c cl ws=((payI c cl).1,XQ (payI c cl).2 ws,0):=by
    simp only [Xo]; rw [if_neg (by rw [h1]; simp),if_neg h2,if_neg (by rw [h3]; simp),if_neg (by rw [h4]; simp)]
   have ha:∀ x ∈ cl,0≤x∧x≤1000000000:=by
    intro x hx
    have:(cl.any fun x=>!QL x)=false:=by simpa using h3
    rw [List.any_eq_false] at this
    have:=this x hx
    exact QU.1 (by simpa [QL] using this)
   have hc:0≤c∧c≤1000000000:=QU.1 h1
   have key:∀ (d i:Nat) (p:List Int × Int),i+d=cl.length→p=(cl.take i).foldl yW ([],c)→p.1.length=i→(0≤p.2∧p.2≤1000000000)→f33G0 E c cl ws p.2 p.1 i:=by
    intro d
    induction d with
    | zero =>
     intro i p hd hp hl hb
     refine f33W0 c cl ws _ _ i (rv:=Xo c cl ws) hE ⟨fun h=>by omega,fun _=>⟨split_of hb h4,?_⟩⟩
     rw [he,payI,hp,List.take_of_length_le (by omega)]
    | succ d ih =>
     intro i p hd hp hl hb
     have hi:cl[i]?=some cl[i]:=List.getElem?_eq_getElem (by omega)
     have hx:=ha _ (List.mem_of_getElem? hi)
     have hm:0≤iMin cl[i] p.2∧iMin cl[i] p.2≤p.2:=by simp only [iMin]; split <;> omega
     refine f33W0 c cl ws _ _ i (rv:=Xo c cl ws) hE ⟨fun _=>⟨_,hi,by omega,by omega,by omega,?_⟩,fun h=>by omega⟩
     refine ih (i+1) (yW p cl[i]) (by omega) ?_ (by simp [yW,hl]) (by simp only [yW]; omega)
     rw [List.take_add_one,hi,List.foldl_append,← hp]; rfl
   exact key cl.length 0 ([],c) (by omega) rfl rfl hc
theorem f42b:Try.f42.body=some (Qd Try.prog 42):=by kernel_rfl
theorem u42 {a c k:List AV} {r:AV} (h:Pure Try.prog 42 (a++c++k) r):Qe Try.prog (.clos 42 a k) c r:=Qs Try.func42 (by kernel_rfl) f42b h
abbrev z42_1 (c:Int) (ws:(List Int)):AV:=.tup [.rsl (rowI ((Xo c ([]:List Int) ws).1)) 0 (((Xo c ([]:List Int) ws).1).length),.rsl (rowI ((Xo c ([]:List Int) ws).2.1)) 0 (((Xo c ([]:List Int) ws).2.1).length),.int .i64 ((Xo c ([]:List Int) ws).2.2)]
theorem p42_start_0 (c:Int) (ws:(List Int)) {E:Env} {res:AV} (hE:Qg Try.prog 42 res E) (ho:AllP [Qe Try.prog (.clos 33 [] []) [.int .i64 c,.nilSl,.rsl (rowI ws) 0 ws.length] (z42_1 c ws)])
 (hr:AvLe (.tup [.rsl (rowI ((Xo c ([]:List Int) ws).2.1)) 0 (((Xo c ([]:List Int) ws).2.1).length),.int .i64 ((Xo c ([]:List Int) ws).2.2)]) res):G Try.prog E [.code (Qd Try.prog 42)] ⟨[.int .i64 c,.rsl (rowI ws) 0 ws.length]++unds (Try.f42.ntmps - 2),[]⟩ :=
 Qc (n:=400) (evs:=[.v (z42_1 c ws)]) (obs:=_) hE Try.func42 Qo (by kernel_rfl) ho hr
theorem f42W (c:Int) (ws:(List Int)) {E:Env} {rv:((List Int) × Int)} (hE:Qg Try.prog 42 (.tup [.rsl (rowI rv.1) 0 rv.1.length,.int .i64 rv.2]) E)
 (h:((([]:List Int).length≤9223372036854775807∧ws.length≤9223372036854775807)∧rv=(((Xo c ([]:List Int) ws).2.1),(Xo c ([]:List Int) ws).2.2))):G Try.prog E [.code (Qd Try.prog 42)] ⟨[.int .i64 c,.rsl (rowI ws) 0 ws.length]++unds (Try.f42.ntmps - 2),[]⟩:=by
 obtain ⟨h1,h⟩:=h
 exact p42_start_0 c ws hE ⟨(Qe.le (args:=[.int .i64 c,.rsl (rowI ([]:List Int)) 0 (([]:List Int).length),.rsl (rowI ws) 0 ws.length]) (u33 (claims_ok c ([]:List Int) ws h1)) ⟨AvLe.of_eq rfl,⟨Yd,⟨AvLe.of_eq rfl,trivial⟩⟩⟩),trivial⟩ (AvLe.of_eq (by rw [h]; try rfl))
def QG (c:Int) (ws:List Int):List Int × Int:=((Xo c [] ws).2.1,(Xo c [] ws).2.2)
theorem qm (c:Int) (ws:List Int) (h:ws.length≤9223372036854775807):Pure Try.prog 42 [.int .i64 c,.rsl (rowI ws) 0 ws.length] (.tup [.rsl (rowI (QG c ws).1) 0 (QG c ws).1.length,.int .i64 (QG c ws).2]):=QC Try.func42 f42b fun E hE =>
 f42W c ws (rv:=QG c ws) hE ⟨⟨by simp,h⟩,rfl⟩
end Go.Proofs.Ytemklbioijmjiaa
namespace Go.Proofs.Ytemklbioijmjiaa
open Go Ax
open Go.Proofs
structure Bra where
 from_:Int
 per:Int
/-- Sorted,in range. -/
def BrS (l:List Bra):Prop:=(∀ b ∈ l,0≤b.from_∧b.from_≤1000000000∧0≤b.per∧b.per≤100)∧l.Pairwise fun a b=>a.from_<b.from_
theorem BrS.drop {l:List Bra} (h:BrS l) (i:Nat):BrS (l.drop i):=⟨fun b hb=>h.1 b (List.mem_of_mem_drop hb),h.2.sublist (List.drop_sublist _ _)⟩
end Go.Proofs.Ytemklbioijmjiaa