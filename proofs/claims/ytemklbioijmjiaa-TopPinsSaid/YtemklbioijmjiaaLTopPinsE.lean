/- A part of the proof: several texts, one behind the other. -/
import Derived.Test.YtemklbioijmjiaaLTopPinsD
set_option linter.unusedVariables false
set_option linter.unusedSimpArgs false
set_option maxRecDepth 100000
namespace Go.Proofs.Ytemklbioijmjiaa
open Go Ax
open Go.Proofs
theorem idxG_le {α:Type} (p:α→Bool) (l:List α):idxG p l<(l.length:Int) ∨ idxG p l=-1:=by
 cases h:l.findIdx? p with
 | none=>right; simp only [idxG,h]
 | some i =>
  left
  have:=List.findIdx?_eq_some_iff_getElem.1 h
  obtain ⟨h1,-,-⟩:=this
  simp only [idxG,h]; omega
theorem Qy:Try.f144.body=some (Qc Try.prog 144):=by kernel_rfl
theorem Qaq (reason:Int) {E:Env} {res:AV} {bs2:List Blk} (hE:LentE Try.prog 144 [.sl 0 0 0 0 1] res bs2 E) (ho:AllP [false=false])
 (hr:(.tup [])=res) (hb:[⟨true,0,1,true,[.nilSl],false⟩]=bs2):G Try.prog E [.code (Qc Try.prog 144)] ⟨[.int .i64 reason,.bool false,.ptr 0 0 0]++unds (Try.f144.ntmps - 3),[⟨true,0,1,true,[.nilSl],false⟩]⟩ :=
 Va (n:=400) (live:=[]) (m:=1) (evs:=[.b false]) (obs:=_) hE (hE.nogh (by kernel_rfl)) Try.func144 Qf (by kernel_rfl) ho hr hb
theorem f144nfW (reason:Int) {E:Env} {res:AV} {bs2:List Blk} (hE:LentE Try.prog 144 [.sl 0 0 0 0 1] res bs2 E)
 (h:((.tup [])=res∧[⟨true,0,1,true,[.nilSl],false⟩]=bs2)):G Try.prog E [.code (Qc Try.prog 144)] ⟨[.int .i64 reason,.bool false,.ptr 0 0 0]++unds (Try.f144.ntmps - 3),[⟨true,0,1,true,[.nilSl],false⟩]⟩:=by
 exact Qaq reason hE ⟨rfl,trivial⟩ h.1 h.2
theorem f144ntb:Try.f144.body=some (Qc Try.prog 144):=by kernel_rfl
theorem Qap (reason:Int) {E:Env} {res:AV} {bs2:List Blk} (hE:LentE Try.prog 144 [.sl 0 0 0 0 1] res bs2 E) (ho:AllP [true=true,1≤2147483648,0=0,1≤1])
 (hr:(.tup [])=res) (hb:[⟨true,0,1,false,[.sl 2 0 0 1 1],false⟩,⟨true,0,1,true,[.int .i64 reason],true⟩,⟨true,0,1,true,[.int .i64 reason],true⟩]=bs2):G Try.prog E [.code (Qc Try.prog 144)] ⟨[.int .i64 reason,.bool true,.ptr 0 0 0]++unds (Try.f144.ntmps - 3),[⟨true,0,1,true,[.nilSl],false⟩]⟩ :=
 Va (n:=400) (live:=[]) (m:=3) (evs:=[.b true]) (obs:=_) hE (hE.nogh (by kernel_rfl)) Try.func144 Qf (by kernel_rfl) ho hr hb
theorem f144ntW (reason:Int) {E:Env} {res:AV} {bs2:List Blk} (hE:LentE Try.prog 144 [.sl 0 0 0 0 1] res bs2 E)
 (h:((.tup [])=res∧[⟨true,0,1,false,[.sl 2 0 0 1 1],false⟩,⟨true,0,1,true,[.int .i64 reason],true⟩,⟨true,0,1,true,[.int .i64 reason],true⟩]=bs2)):G Try.prog E [.code (Qc Try.prog 144)] ⟨[.int .i64 reason,.bool true,.ptr 0 0 0]++unds (Try.f144.ntmps - 3),[⟨true,0,1,true,[.nilSl],false⟩]⟩:=by
 exact Qap reason hE ⟨rfl,(by decide),rfl,(by decide),trivial⟩ h.1 h.2
theorem f144rfb:Try.f144.body=some (Qc Try.prog 144):=by kernel_rfl
theorem Qao (reason:Int) (out:List Int) (n0:Nat) {E:Env} {res:AV} {bs2:List Blk} (hE:LentE Try.prog 144 [.sl 1 n0 0 0 1] res bs2 E) (ho:AllP [false=false])
 (hr:(.tup [])=res) (hb:[⟨true,0,1,false,[.sl 1 n0 0 out.length 1],false⟩,⟨true,n0,1,true,(rowI out),true⟩]=bs2):G Try.prog E [.code (Qc Try.prog 144)] ⟨[.int .i64 reason,.bool false,.ptr 0 0 0]++unds (Try.f144.ntmps - 3),[⟨true,0,1,false,[.sl 1 n0 0 out.length 1],false⟩,⟨true,n0,1,true,(rowI out),true⟩]⟩ :=
 Va (n:=400) (live:=[]) (m:=2) (evs:=[.b false]) (obs:=_) hE (hE.nogh (by kernel_rfl)) Try.func144 Qf (by kernel_rfl) ho hr hb
theorem f144rfW (reason:Int) (out:List Int) (n0:Nat) {E:Env} {res:AV} {bs2:List Blk} (hE:LentE Try.prog 144 [.sl 1 n0 0 0 1] res bs2 E)
 (h:((.tup [])=res∧[⟨true,0,1,false,[.sl 1 n0 0 out.length 1],false⟩,⟨true,n0,1,true,(rowI out),true⟩]=bs2)):G Try.prog E [.code (Qc Try.prog 144)] ⟨[.int .i64 reason,.bool false,.ptr 0 0 0]++unds (Try.f144.ntmps - 3),[⟨true,0,1,false,[.sl 1 n0 0 out.length 1],false⟩,⟨true,n0,1,true,(rowI out),true⟩]⟩:=by
 exact Qao reason out n0 hE ⟨rfl,trivial⟩ h.1 h.2
theorem f144rtb:Try.f144.body=some (Qc Try.prog 144):=by kernel_rfl
theorem Qan (reason:Int) (out:List Int) (n0:Nat) {E:Env} {res:AV} {bs2:List Blk} (hE:LentE Try.prog 144 [.sl 1 n0 0 0 1] res bs2 E) (ho:AllP [true=true,n0=n0,(0+(out.length*1))=(rowI out).length,(out.length+1)≤2147483648,0=0,1≤1])
 (hr:(.tup [])=res) (hb:[⟨true,0,1,false,[.sl 1 (n0+1) 0 (out.length+1) 1],false⟩,⟨true,(n0+1),1,true,((rowI out)++[.int .i64 reason]),true⟩]=bs2):G Try.prog E [.code (Qc Try.prog 144)] ⟨[.int .i64 reason,.bool true,.ptr 0 0 0]++unds (Try.f144.ntmps - 3),[⟨true,0,1,false,[.sl 1 n0 0 out.length 1],false⟩,⟨true,n0,1,true,(rowI out),true⟩]⟩ :=
 Va (n:=400) (live:=[]) (m:=2) (evs:=[.b true]) (obs:=_) hE (hE.nogh (by kernel_rfl)) Try.func144 Qf (by kernel_rfl) ho hr hb
theorem f144rtW (reason:Int) (out:List Int) (n0:Nat) {E:Env} {res:AV} {bs2:List Blk} (hE:LentE Try.prog 144 [.sl 1 n0 0 0 1] res bs2 E)
 (h:((out.length+1)≤2147483648∧((.tup [])=res∧[⟨true,0,1,false,[.sl 1 (n0+1) 0 (out.length+1) 1],false⟩,⟨true,(n0+1),1,true,((rowI out)++[.int .i64 reason]),true⟩]=bs2))):G Try.prog E [.code (Qc Try.prog 144)] ⟨[.int .i64 reason,.bool true,.ptr 0 0 0]++unds (Try.f144.ntmps - 3),[⟨true,0,1,false,[.sl 1 n0 0 out.length 1],false⟩,⟨true,n0,1,true,(rowI out),true⟩]⟩:=by
 obtain ⟨h1,h⟩:=h
 exact Qan reason out n0 hE ⟨rfl,rfl,(by have hx:=XB cI (s:=1) (fun _=>rfl) out; simp only [rowI] at hx ⊢; rw [hx]; simp),h1,rfl,(by decide),trivial⟩ h.1 h.2
theorem YY (reason:Int) (u:Bool) (h:u=false):Lent Try.prog 144 [.int .i64 reason,.bool u,.ptr 0 0 0] [⟨true,0,1,true,[.nilSl],false⟩] (.tup []) [⟨true,0,1,true,[.nilSl],false⟩]:=by
 subst h
 exact KC _ Try.func144 Qy rfl rfl fun E hE=>f144nfW reason hE ⟨rfl,rfl⟩
theorem YX (reason:Int) (u:Bool) (h:u=true):Lent Try.prog 144 [.int .i64 reason,.bool u,.ptr 0 0 0] [⟨true,0,1,true,[.nilSl],false⟩] (.tup []) [⟨true,0,1,false,[.sl 2 0 0 1 1],false⟩,⟨true,0,1,true,[.int .i64 reason],true⟩,⟨true,0,1,true,[.int .i64 reason],true⟩]:=by
 subst h
 exact KC _ Try.func144 f144ntb rfl rfl fun E hE=>f144ntW reason hE ⟨rfl,rfl⟩
theorem YE (reason:Int) (u:Bool) (out:List Int) (n0:Nat) (h:u=false):Lent Try.prog 144 [.int .i64 reason,.bool u,.ptr 0 0 0] [⟨true,0,1,false,[.sl 1 n0 0 out.length 1],false⟩,⟨true,n0,1,true,rowI out,true⟩] (.tup []) [⟨true,0,1,false,[.sl 1 n0 0 out.length 1],false⟩,⟨true,n0,1,true,rowI out,true⟩]:=by
 subst h
 exact KC _ Try.func144 f144rfb rfl rfl fun E hE=>f144rfW reason out n0 hE ⟨rfl,rfl⟩
theorem YD (reason:Int) (u:Bool) (out:List Int) (n0:Nat) (h:u=true) (hl:out.length≤1000):Lent Try.prog 144 [.int .i64 reason,.bool u,.ptr 0 0 0] [⟨true,0,1,false,[.sl 1 n0 0 out.length 1],false⟩,⟨true,n0,1,true,rowI out,true⟩] (.tup []) [⟨true,0,1,false,[.sl 1 (n0+1) 0 (out.length+1) 1],false⟩,⟨true,n0+1,1,true,rowI out++[.int .i64 reason],true⟩]:=by
 subst h
 exact KC _ Try.func144 f144rtb rfl rfl fun E hE=>f144rtW reason out n0 hE ⟨by omega,rfl,rfl⟩
theorem f79b:Try.f79.body=some (Qc Try.prog 79):=by kernel_rfl
theorem u79 {a c k:List AV} {r:AV} (h:Pure Try.prog 79 (a++c++k) r):Qd Try.prog (.clos 79 a k) c r:=Qi Try.func79 (by kernel_rfl) f79b h
abbrev QV (l:Lgb):List AV:=[.rsl (Ql l.k.rules) 0 l.k.rules.length,.rsl (rowI l.k.ranks) 0 l.k.ranks.length,.rsl (rowI l.k.insured) 0 l.k.insured.length,.rsl (Qg l.es) 0 l.es.length]
abbrev Yn:List Blk:=[⟨true,0,1,false,[.sl 1 0 0 1 1],false⟩,⟨true,0,1,true,[.int .i64 1],true⟩]
abbrev WL:List Blk:=[⟨true,0,1,false,[.sl 2 0 0 1 1],false⟩,⟨true,0,1,true,[.int .i64 1],true⟩,⟨true,0,1,true,[.int .i64 1],true⟩]
abbrev Vt:List Blk:=[⟨true,0,1,false,[.sl 1 1 0 2 1],false⟩,⟨true,1,1,true,[.int .i64 1,.int .i64 2],true⟩]
abbrev yF:List Blk:=[⟨true,0,1,false,[.sl 1 0 0 1 1],false⟩,⟨true,0,1,true,[.int .i64 2],true⟩]
abbrev WK (l:Lgb) (ride:Int):List AV:=[.agg (QV l),.int .i64 ride,.clos 148 [] [.rptr [.int .i64 ride] 0]]
abbrev z79_7:List Blk:=[⟨true,0,1,false,[.sl 2 0 0 1 1],false⟩,⟨true,0,1,true,[.int .i64 2],true⟩,⟨true,0,1,true,[.int .i64 2],true⟩]
abbrev z79_8:List Blk:=[⟨true,0,1,false,[.sl 1 2 0 3 1],false⟩,⟨true,2,1,true,[.int .i64 1,.int .i64 2,.int .i64 3],true⟩]
abbrev z79_9:List Blk:=[⟨true,0,1,false,[.sl 1 1 0 2 1],false⟩,⟨true,1,1,true,[.int .i64 1,.int .i64 3],true⟩]
abbrev yi:List Blk:=[⟨true,0,1,false,[.sl 1 1 0 2 1],false⟩,⟨true,1,1,true,[.int .i64 2,.int .i64 3],true⟩]
abbrev YN (ride:Int) (l:Lgb) (day:Int):List AV:=[.int .i64 3,.bool ((QL (isKd 4 ride) ride l.es) != day)]
abbrev z79_12:List Blk:=[⟨true,0,1,false,[.sl 2 0 0 1 1],false⟩,⟨true,0,1,true,[.int .i64 3],true⟩,⟨true,0,1,true,[.int .i64 3],true⟩]
abbrev z79_13:List Blk:=[⟨true,0,1,false,[.sl 1 0 0 1 1],false⟩,⟨true,0,1,true,[.int .i64 3],true⟩]
abbrev z79_14:List Blk:=[⟨true,0,1,false,[.sl 2 0 0 1 1],false⟩,⟨true,0,1,true,[.int .i64 4],true⟩,⟨true,0,1,true,[.int .i64 4],true⟩]
abbrev z79_15:List Blk:=[⟨true,0,1,false,[.sl 1 3 0 4 1],false⟩,⟨true,3,1,true,[.int .i64 1,.int .i64 2,.int .i64 3,.int .i64 4],true⟩]
abbrev z79_16:List Blk:=[⟨true,0,1,false,[.sl 1 2 0 3 1],false⟩,⟨true,2,1,true,[.int .i64 1,.int .i64 2,.int .i64 4],true⟩]
abbrev z79_17:List Blk:=[⟨true,0,1,false,[.sl 1 2 0 3 1],false⟩,⟨true,2,1,true,[.int .i64 1,.int .i64 3,.int .i64 4],true⟩]
abbrev z79_18:List Blk:=[⟨true,0,1,false,[.sl 1 2 0 3 1],false⟩,⟨true,2,1,true,[.int .i64 2,.int .i64 3,.int .i64 4],true⟩]
theorem p79_start_0 (l:Lgb) (ride:Int) (day:Int) {E:Env} {res:AV} (hE:Qe Try.prog 79 res E) (ho:AllP [Qd Try.prog (.clos 145 [] []) [.agg (QV l),.int .i64 ride] (.int .i64 (Qp l ride)),QQ Try.prog (.clos 144 [] [.ptr 0 0 0]) [.int .i64 1,.bool (decide ((Qp l ride)<day))] [⟨true,0,1,true,[.nilSl],false⟩] (.tup []) WL,Qd Try.prog (.clos 146 [] []) [.agg (QV l),.int .i64 ride] (.bool (QE l ride)),QQ Try.prog (.clos 144 [] [.ptr 0 0 0]) [.int .i64 2,.bool (!(QE l ride))] Yn (.tup []) Vt,Qd Try.prog (.clos 147 [] []) (WK l ride) (.int .i64 (QL (isKd 4 ride) ride l.es)),QQ Try.prog (.clos 144 [] [.ptr 0 0 0]) (YN ride l day) Vt (.tup []) z79_8,Qd Try.prog (.clos 149 [] []) [.agg (QV l),.int .i64 ride] (.int .i64 (Qm l ride)),QQ Try.prog (.clos 144 [] [.ptr 0 0 0]) [.int .i64 4,.bool (decide ((Qm l ride)<day))] z79_8 (.tup []) z79_15,1≤1,3=3])
 (hr:AvLe (.rsl [.int .i64 1,.int .i64 2,.int .i64 3,.int .i64 4] 0 4) res):G Try.prog E [.code (Qc Try.prog 79)] ⟨[.agg (QV l),.int .i64 ride,.int .i64 day]++unds (Try.f79.ntmps - 3),[]⟩ :=
 Qb (n:=400) (evs:=[.v (.int .i64 (Qp l ride)),.lent [2] (.tup []) WL,.v (.bool (QE l ride)),.lent [2,4] (.tup []) Vt,.v (.int .i64 (QL (isKd 4 ride) ride l.es)),.lent [2,4] (.tup []) z79_8,.v (.int .i64 (Qm l ride)),.lent [2,4] (.tup []) z79_15]) (obs:=_) hE Try.func79 Qf (by kernel_rfl) ho hr
theorem p79_start_1 (l:Lgb) (ride:Int) (day:Int) {E:Env} {res:AV} (hE:Qe Try.prog 79 res E) (ho:AllP [Qd Try.prog (.clos 145 [] []) [.agg (QV l),.int .i64 ride] (.int .i64 (Qp l ride)),QQ Try.prog (.clos 144 [] [.ptr 0 0 0]) [.int .i64 1,.bool (decide ((Qp l ride)<day))] [⟨true,0,1,true,[.nilSl],false⟩] (.tup []) WL,Qd Try.prog (.clos 146 [] []) [.agg (QV l),.int .i64 ride] (.bool (QE l ride)),QQ Try.prog (.clos 144 [] [.ptr 0 0 0]) [.int .i64 2,.bool (!(QE l ride))] Yn (.tup []) Vt,Qd Try.prog (.clos 147 [] []) (WK l ride) (.int .i64 (QL (isKd 4 ride) ride l.es)),QQ Try.prog (.clos 144 [] [.ptr 0 0 0]) (YN ride l day) Vt (.tup []) z79_8,Qd Try.prog (.clos 149 [] []) [.agg (QV l),.int .i64 ride] (.int .i64 (Qm l ride)),QQ Try.prog (.clos 144 [] [.ptr 0 0 0]) [.int .i64 4,.bool (decide ((Qm l ride)<day))] z79_8 (.tup []) z79_8,1≤1,2=2])
 (hr:AvLe (.rsl [.int .i64 1,.int .i64 2,.int .i64 3] 0 3) res):G Try.prog E [.code (Qc Try.prog 79)] ⟨[.agg (QV l),.int .i64 ride,.int .i64 day]++unds (Try.f79.ntmps - 3),[]⟩ :=
 Qb (n:=400) (evs:=[.v (.int .i64 (Qp l ride)),.lent [2] (.tup []) WL,.v (.bool (QE l ride)),.lent [2,4] (.tup []) Vt,.v (.int .i64 (QL (isKd 4 ride) ride l.es)),.lent [2,4] (.tup []) z79_8,.v (.int .i64 (Qm l ride)),.lent [2,4] (.tup []) z79_8]) (obs:=_) hE Try.func79 Qf (by kernel_rfl) ho hr
theorem p79_start_2 (l:Lgb) (ride:Int) (day:Int) {E:Env} {res:AV} (hE:Qe Try.prog 79 res E) (ho:AllP [Qd Try.prog (.clos 145 [] []) [.agg (QV l),.int .i64 ride] (.int .i64 (Qp l ride)),QQ Try.prog (.clos 144 [] [.ptr 0 0 0]) [.int .i64 1,.bool (decide ((Qp l ride)<day))] [⟨true,0,1,true,[.nilSl],false⟩] (.tup []) WL,Qd Try.prog (.clos 146 [] []) [.agg (QV l),.int .i64 ride] (.bool (QE l ride)),QQ Try.prog (.clos 144 [] [.ptr 0 0 0]) [.int .i64 2,.bool (!(QE l ride))] Yn (.tup []) Vt,Qd Try.prog (.clos 147 [] []) (WK l ride) (.int .i64 (QL (isKd 4 ride) ride l.es)),QQ Try.prog (.clos 144 [] [.ptr 0 0 0]) (YN ride l day) Vt (.tup []) Vt,Qd Try.prog (.clos 149 [] []) [.agg (QV l),.int .i64 ride] (.int .i64 (Qm l ride)),QQ Try.prog (.clos 144 [] [.ptr 0 0 0]) [.int .i64 4,.bool (decide ((Qm l ride)<day))] Vt (.tup []) z79_16,1≤1,2=2])
 (hr:AvLe (.rsl [.int .i64 1,.int .i64 2,.int .i64 4] 0 3) res):G Try.prog E [.code (Qc Try.prog 79)] ⟨[.agg (QV l),.int .i64 ride,.int .i64 day]++unds (Try.f79.ntmps - 3),[]⟩ :=
 Qb (n:=400) (evs:=[.v (.int .i64 (Qp l ride)),.lent [2] (.tup []) WL,.v (.bool (QE l ride)),.lent [2,4] (.tup []) Vt,.v (.int .i64 (QL (isKd 4 ride) ride l.es)),.lent [2,4] (.tup []) Vt,.v (.int .i64 (Qm l ride)),.lent [2,4] (.tup []) z79_16]) (obs:=_) hE Try.func79 Qf (by kernel_rfl) ho hr
theorem p79_start_3 (l:Lgb) (ride:Int) (day:Int) {E:Env} {res:AV} (hE:Qe Try.prog 79 res E) (ho:AllP [Qd Try.prog (.clos 145 [] []) [.agg (QV l),.int .i64 ride] (.int .i64 (Qp l ride)),QQ Try.prog (.clos 144 [] [.ptr 0 0 0]) [.int .i64 1,.bool (decide ((Qp l ride)<day))] [⟨true,0,1,true,[.nilSl],false⟩] (.tup []) WL,Qd Try.prog (.clos 146 [] []) [.agg (QV l),.int .i64 ride] (.bool (QE l ride)),QQ Try.prog (.clos 144 [] [.ptr 0 0 0]) [.int .i64 2,.bool (!(QE l ride))] Yn (.tup []) Vt,Qd Try.prog (.clos 147 [] []) (WK l ride) (.int .i64 (QL (isKd 4 ride) ride l.es)),QQ Try.prog (.clos 144 [] [.ptr 0 0 0]) (YN ride l day) Vt (.tup []) Vt,Qd Try.prog (.clos 149 [] []) [.agg (QV l),.int .i64 ride] (.int .i64 (Qm l ride)),QQ Try.prog (.clos 144 [] [.ptr 0 0 0]) [.int .i64 4,.bool (decide ((Qm l ride)<day))] Vt (.tup []) Vt,1≤1,1=1])
 (hr:AvLe (.rsl [.int .i64 1,.int .i64 2] 0 2) res):G Try.prog E [.code (Qc Try.prog 79)] ⟨[.agg (QV l),.int .i64 ride,.int .i64 day]++unds (Try.f79.ntmps - 3),[]⟩ :=
 Qb (n:=400) (evs:=[.v (.int .i64 (Qp l ride)),.lent [2] (.tup []) WL,.v (.bool (QE l ride)),.lent [2,4] (.tup []) Vt,.v (.int .i64 (QL (isKd 4 ride) ride l.es)),.lent [2,4] (.tup []) Vt,.v (.int .i64 (Qm l ride)),.lent [2,4] (.tup []) Vt]) (obs:=_) hE Try.func79 Qf (by kernel_rfl) ho hr
theorem p79_start_4 (l:Lgb) (ride:Int) (day:Int) {E:Env} {res:AV} (hE:Qe Try.prog 79 res E) (ho:AllP [Qd Try.prog (.clos 145 [] []) [.agg (QV l),.int .i64 ride] (.int .i64 (Qp l ride)),QQ Try.prog (.clos 144 [] [.ptr 0 0 0]) [.int .i64 1,.bool (decide ((Qp l ride)<day))] [⟨true,0,1,true,[.nilSl],false⟩] (.tup []) WL,Qd Try.prog (.clos 146 [] []) [.agg (QV l),.int .i64 ride] (.bool (QE l ride)),QQ Try.prog (.clos 144 [] [.ptr 0 0 0]) [.int .i64 2,.bool (!(QE l ride))] Yn (.tup []) Yn,Qd Try.prog (.clos 147 [] []) (WK l ride) (.int .i64 (QL (isKd 4 ride) ride l.es)),QQ Try.prog (.clos 144 [] [.ptr 0 0 0]) (YN ride l day) Yn (.tup []) z79_9,Qd Try.prog (.clos 149 [] []) [.agg (QV l),.int .i64 ride] (.int .i64 (Qm l ride)),QQ Try.prog (.clos 144 [] [.ptr 0 0 0]) [.int .i64 4,.bool (decide ((Qm l ride)<day))] z79_9 (.tup []) z79_17,1≤1,2=2])
 (hr:AvLe (.rsl [.int .i64 1,.int .i64 3,.int .i64 4] 0 3) res):G Try.prog E [.code (Qc Try.prog 79)] ⟨[.agg (QV l),.int .i64 ride,.int .i64 day]++unds (Try.f79.ntmps - 3),[]⟩ :=
 Qb (n:=400) (evs:=[.v (.int .i64 (Qp l ride)),.lent [2] (.tup []) WL,.v (.bool (QE l ride)),.lent [2,4] (.tup []) Yn,.v (.int .i64 (QL (isKd 4 ride) ride l.es)),.lent [2,4] (.tup []) z79_9,.v (.int .i64 (Qm l ride)),.lent [2,4] (.tup []) z79_17]) (obs:=_) hE Try.func79 Qf (by kernel_rfl) ho hr
theorem p79_start_5 (l:Lgb) (ride:Int) (day:Int) {E:Env} {res:AV} (hE:Qe Try.prog 79 res E) (ho:AllP [Qd Try.prog (.clos 145 [] []) [.agg (QV l),.int .i64 ride] (.int .i64 (Qp l ride)),QQ Try.prog (.clos 144 [] [.ptr 0 0 0]) [.int .i64 1,.bool (decide ((Qp l ride)<day))] [⟨true,0,1,true,[.nilSl],false⟩] (.tup []) WL,Qd Try.prog (.clos 146 [] []) [.agg (QV l),.int .i64 ride] (.bool (QE l ride)),QQ Try.prog (.clos 144 [] [.ptr 0 0 0]) [.int .i64 2,.bool (!(QE l ride))] Yn (.tup []) Yn,Qd Try.prog (.clos 147 [] []) (WK l ride) (.int .i64 (QL (isKd 4 ride) ride l.es)),QQ Try.prog (.clos 144 [] [.ptr 0 0 0]) (YN ride l day) Yn (.tup []) z79_9,Qd Try.prog (.clos 149 [] []) [.agg (QV l),.int .i64 ride] (.int .i64 (Qm l ride)),QQ Try.prog (.clos 144 [] [.ptr 0 0 0]) [.int .i64 4,.bool (decide ((Qm l ride)<day))] z79_9 (.tup []) z79_9,1≤1,1=1])
 (hr:AvLe (.rsl [.int .i64 1,.int .i64 3] 0 2) res):G Try.prog E [.code (Qc Try.prog 79)] ⟨[.agg (QV l),.int .i64 ride,.int .i64 day]++unds (Try.f79.ntmps - 3),[]⟩ :=
 Qb (n:=400) (evs:=[.v (.int .i64 (Qp l ride)),.lent [2] (.tup []) WL,.v (.bool (QE l ride)),.lent [2,4] (.tup []) Yn,.v (.int .i64 (QL (isKd 4 ride) ride l.es)),.lent [2,4] (.tup []) z79_9,.v (.int .i64 (Qm l ride)),.lent [2,4] (.tup []) z79_9]) (obs:=_) hE Try.func79 Qf (by kernel_rfl) ho hr
theorem p79_start_6 (l:Lgb) (ride:Int) (day:Int) {E:Env} {res:AV} (hE:Qe Try.prog 79 res E) (ho:AllP [Qd Try.prog (.clos 145 [] []) [.agg (QV l),.int .i64 ride] (.int .i64 (Qp l ride)),QQ Try.prog (.clos 144 [] [.ptr 0 0 0]) [.int .i64 1,.bool (decide ((Qp l ride)<day))] [⟨true,0,1,true,[.nilSl],false⟩] (.tup []) WL,Qd Try.prog (.clos 146 [] []) [.agg (QV l),.int .i64 ride] (.bool (QE l ride)),QQ Try.prog (.clos 144 [] [.ptr 0 0 0]) [.int .i64 2,.bool (!(QE l ride))] Yn (.tup []) Yn,Qd Try.prog (.clos 147 [] []) (WK l ride) (.int .i64 (QL (isKd 4 ride) ride l.es)),QQ Try.prog (.clos 144 [] [.ptr 0 0 0]) (YN ride l day) Yn (.tup []) Yn,Qd Try.prog (.clos 149 [] []) [.agg (QV l),.int .i64 ride] (.int .i64 (Qm l ride)),QQ Try.prog (.clos 144 [] [.ptr 0 0 0]) [.int .i64 4,.bool (decide ((Qm l ride)<day))] Yn (.tup []) [⟨true,0,1,false,[.sl 1 1 0 2 1],false⟩,⟨true,1,1,true,[.int .i64 1,.int .i64 4],true⟩],1≤1,1=1])
 (hr:AvLe (.rsl [.int .i64 1,.int .i64 4] 0 2) res):G Try.prog E [.code (Qc Try.prog 79)] ⟨[.agg (QV l),.int .i64 ride,.int .i64 day]++unds (Try.f79.ntmps - 3),[]⟩ :=
 Qb (n:=400) (evs:=[.v (.int .i64 (Qp l ride)),.lent [2] (.tup []) WL,.v (.bool (QE l ride)),.lent [2,4] (.tup []) Yn,.v (.int .i64 (QL (isKd 4 ride) ride l.es)),.lent [2,4] (.tup []) Yn,.v (.int .i64 (Qm l ride)),.lent [2,4] (.tup []) [⟨true,0,1,false,[.sl 1 1 0 2 1],false⟩,⟨true,1,1,true,[.int .i64 1,.int .i64 4],true⟩]]) (obs:=_) hE Try.func79 Qf (by kernel_rfl) ho hr
theorem p79_start_7 (l:Lgb) (ride:Int) (day:Int) {E:Env} {res:AV} (hE:Qe Try.prog 79 res E) (ho:AllP [Qd Try.prog (.clos 145 [] []) [.agg (QV l),.int .i64 ride] (.int .i64 (Qp l ride)),QQ Try.prog (.clos 144 [] [.ptr 0 0 0]) [.int .i64 1,.bool (decide ((Qp l ride)<day))] [⟨true,0,1,true,[.nilSl],false⟩] (.tup []) WL,Qd Try.prog (.clos 146 [] []) [.agg (QV l),.int .i64 ride] (.bool (QE l ride)),QQ Try.prog (.clos 144 [] [.ptr 0 0 0]) [.int .i64 2,.bool (!(QE l ride))] Yn (.tup []) Yn,Qd Try.prog (.clos 147 [] []) (WK l ride) (.int .i64 (QL (isKd 4 ride) ride l.es)),QQ Try.prog (.clos 144 [] [.ptr 0 0 0]) (YN ride l day) Yn (.tup []) Yn,Qd Try.prog (.clos 149 [] []) [.agg (QV l),.int .i64 ride] (.int .i64 (Qm l ride)),QQ Try.prog (.clos 144 [] [.ptr 0 0 0]) [.int .i64 4,.bool (decide ((Qm l ride)<day))] Yn (.tup []) Yn,1≤1,0=0])
 (hr:AvLe (.rsl [.int .i64 1] 0 1) res):G Try.prog E [.code (Qc Try.prog 79)] ⟨[.agg (QV l),.int .i64 ride,.int .i64 day]++unds (Try.f79.ntmps - 3),[]⟩ :=
 Qb (n:=400) (evs:=[.v (.int .i64 (Qp l ride)),.lent [2] (.tup []) WL,.v (.bool (QE l ride)),.lent [2,4] (.tup []) Yn,.v (.int .i64 (QL (isKd 4 ride) ride l.es)),.lent [2,4] (.tup []) Yn,.v (.int .i64 (Qm l ride)),.lent [2,4] (.tup []) Yn]) (obs:=_) hE Try.func79 Qf (by kernel_rfl) ho hr
theorem p79_start_8 (l:Lgb) (ride:Int) (day:Int) {E:Env} {res:AV} (hE:Qe Try.prog 79 res E) (ho:AllP [Qd Try.prog (.clos 145 [] []) [.agg (QV l),.int .i64 ride] (.int .i64 (Qp l ride)),QQ Try.prog (.clos 144 [] [.ptr 0 0 0]) [.int .i64 1,.bool (decide ((Qp l ride)<day))] [⟨true,0,1,true,[.nilSl],false⟩] (.tup []) [⟨true,0,1,true,[.nilSl],false⟩],Qd Try.prog (.clos 146 [] []) [.agg (QV l),.int .i64 ride] (.bool (QE l ride)),QQ Try.prog (.clos 144 [] [.ptr 0 0 0]) [.int .i64 2,.bool (!(QE l ride))] [⟨true,0,1,true,[.nilSl],false⟩] (.tup []) z79_7,Qd Try.prog (.clos 147 [] []) (WK l ride) (.int .i64 (QL (isKd 4 ride) ride l.es)),QQ Try.prog (.clos 144 [] [.ptr 0 0 0]) (YN ride l day) yF (.tup []) yi,Qd Try.prog (.clos 149 [] []) [.agg (QV l),.int .i64 ride] (.int .i64 (Qm l ride)),QQ Try.prog (.clos 144 [] [.ptr 0 0 0]) [.int .i64 4,.bool (decide ((Qm l ride)<day))] yi (.tup []) z79_18,1≤1,2=2])
 (hr:AvLe (.rsl [.int .i64 2,.int .i64 3,.int .i64 4] 0 3) res):G Try.prog E [.code (Qc Try.prog 79)] ⟨[.agg (QV l),.int .i64 ride,.int .i64 day]++unds (Try.f79.ntmps - 3),[]⟩ :=
 Qb (n:=400) (evs:=[.v (.int .i64 (Qp l ride)),.lent [2] (.tup []) [⟨true,0,1,true,[.nilSl],false⟩],.v (.bool (QE l ride)),.lent [2] (.tup []) z79_7,.v (.int .i64 (QL (isKd 4 ride) ride l.es)),.lent [2,4] (.tup []) yi,.v (.int .i64 (Qm l ride)),.lent [2,4] (.tup []) z79_18]) (obs:=_) hE Try.func79 Qf (by kernel_rfl) ho hr
theorem p79_start_9 (l:Lgb) (ride:Int) (day:Int) {E:Env} {res:AV} (hE:Qe Try.prog 79 res E) (ho:AllP [Qd Try.prog (.clos 145 [] []) [.agg (QV l),.int .i64 ride] (.int .i64 (Qp l ride)),QQ Try.prog (.clos 144 [] [.ptr 0 0 0]) [.int .i64 1,.bool (decide ((Qp l ride)<day))] [⟨true,0,1,true,[.nilSl],false⟩] (.tup []) [⟨true,0,1,true,[.nilSl],false⟩],Qd Try.prog (.clos 146 [] []) [.agg (QV l),.int .i64 ride] (.bool (QE l ride)),QQ Try.prog (.clos 144 [] [.ptr 0 0 0]) [.int .i64 2,.bool (!(QE l ride))] [⟨true,0,1,true,[.nilSl],false⟩] (.tup []) z79_7,Qd Try.prog (.clos 147 [] []) (WK l ride) (.int .i64 (QL (isKd 4 ride) ride l.es)),QQ Try.prog (.clos 144 [] [.ptr 0 0 0]) (YN ride l day) yF (.tup []) yi,Qd Try.prog (.clos 149 [] []) [.agg (QV l),.int .i64 ride] (.int .i64 (Qm l ride)),QQ Try.prog (.clos 144 [] [.ptr 0 0 0]) [.int .i64 4,.bool (decide ((Qm l ride)<day))] yi (.tup []) yi,1≤1,1=1])
 (hr:AvLe (.rsl [.int .i64 2,.int .i64 3] 0 2) res):G Try.prog E [.code (Qc Try.prog 79)] ⟨[.agg (QV l),.int .i64 ride,.int .i64 day]++unds (Try.f79.ntmps - 3),[]⟩ :=
 Qb (n:=400) (evs:=[.v (.int .i64 (Qp l ride)),.lent [2] (.tup []) [⟨true,0,1,true,[.nilSl],false⟩],.v (.bool (QE l ride)),.lent [2] (.tup []) z79_7,.v (.int .i64 (QL (isKd 4 ride) ride l.es)),.lent [2,4] (.tup []) yi,.v (.int .i64 (Qm l ride)),.lent [2,4] (.tup []) yi]) (obs:=_) hE Try.func79 Qf (by kernel_rfl) ho hr
theorem p79_start_10 (l:Lgb) (ride:Int) (day:Int) {E:Env} {res:AV} (hE:Qe Try.prog 79 res E) (ho:AllP [Qd Try.prog (.clos 145 [] []) [.agg (QV l),.int .i64 ride] (.int .i64 (Qp l ride)),QQ Try.prog (.clos 144 [] [.ptr 0 0 0]) [.int .i64 1,.bool (decide ((Qp l ride)<day))] [⟨true,0,1,true,[.nilSl],false⟩] (.tup []) [⟨true,0,1,true,[.nilSl],false⟩],Qd Try.prog (.clos 146 [] []) [.agg (QV l),.int .i64 ride] (.bool (QE l ride)),QQ Try.prog (.clos 144 [] [.ptr 0 0 0]) [.int .i64 2,.bool (!(QE l ride))] [⟨true,0,1,true,[.nilSl],false⟩] (.tup []) z79_7,Qd Try.prog (.clos 147 [] []) (WK l ride) (.int .i64 (QL (isKd 4 ride) ride l.es)),QQ Try.prog (.clos 144 [] [.ptr 0 0 0]) (YN ride l day) yF (.tup []) yF,Qd Try.prog (.clos 149 [] []) [.agg (QV l),.int .i64 ride] (.int .i64 (Qm l ride)),QQ Try.prog (.clos 144 [] [.ptr 0 0 0]) [.int .i64 4,.bool (decide ((Qm l ride)<day))] yF (.tup []) [⟨true,0,1,false,[.sl 1 1 0 2 1],false⟩,⟨true,1,1,true,[.int .i64 2,.int .i64 4],true⟩],1≤1,1=1])
 (hr:AvLe (.rsl [.int .i64 2,.int .i64 4] 0 2) res):G Try.prog E [.code (Qc Try.prog 79)] ⟨[.agg (QV l),.int .i64 ride,.int .i64 day]++unds (Try.f79.ntmps - 3),[]⟩ :=
 Qb (n:=400) (evs:=[.v (.int .i64 (Qp l ride)),.lent [2] (.tup []) [⟨true,0,1,true,[.nilSl],false⟩],.v (.bool (QE l ride)),.lent [2] (.tup []) z79_7,.v (.int .i64 (QL (isKd 4 ride) ride l.es)),.lent [2,4] (.tup []) yF,.v (.int .i64 (Qm l ride)),.lent [2,4] (.tup []) [⟨true,0,1,false,[.sl 1 1 0 2 1],false⟩,⟨true,1,1,true,[.int .i64 2,.int .i64 4],true⟩]]) (obs:=_) hE Try.func79 Qf (by kernel_rfl) ho hr
theorem p79_start_11 (l:Lgb) (ride:Int) (day:Int) {E:Env} {res:AV} (hE:Qe Try.prog 79 res E) (ho:AllP [Qd Try.prog (.clos 145 [] []) [.agg (QV l),.int .i64 ride] (.int .i64 (Qp l ride)),QQ Try.prog (.clos 144 [] [.ptr 0 0 0]) [.int .i64 1,.bool (decide ((Qp l ride)<day))] [⟨true,0,1,true,[.nilSl],false⟩] (.tup []) [⟨true,0,1,true,[.nilSl],false⟩],Qd Try.prog (.clos 146 [] []) [.agg (QV l),.int .i64 ride] (.bool (QE l ride)),QQ Try.prog (.clos 144 [] [.ptr 0 0 0]) [.int .i64 2,.bool (!(QE l ride))] [⟨true,0,1,true,[.nilSl],false⟩] (.tup []) z79_7,Qd Try.prog (.clos 147 [] []) (WK l ride) (.int .i64 (QL (isKd 4 ride) ride l.es)),QQ Try.prog (.clos 144 [] [.ptr 0 0 0]) (YN ride l day) yF (.tup []) yF,Qd Try.prog (.clos 149 [] []) [.agg (QV l),.int .i64 ride] (.int .i64 (Qm l ride)),QQ Try.prog (.clos 144 [] [.ptr 0 0 0]) [.int .i64 4,.bool (decide ((Qm l ride)<day))] yF (.tup []) yF,1≤1,0=0])
 (hr:AvLe (.rsl [.int .i64 2] 0 1) res):G Try.prog E [.code (Qc Try.prog 79)] ⟨[.agg (QV l),.int .i64 ride,.int .i64 day]++unds (Try.f79.ntmps - 3),[]⟩ :=
 Qb (n:=400) (evs:=[.v (.int .i64 (Qp l ride)),.lent [2] (.tup []) [⟨true,0,1,true,[.nilSl],false⟩],.v (.bool (QE l ride)),.lent [2] (.tup []) z79_7,.v (.int .i64 (QL (isKd 4 ride) ride l.es)),.lent [2,4] (.tup []) yF,.v (.int .i64 (Qm l ride)),.lent [2,4] (.tup []) yF]) (obs:=_) hE Try.func79 Qf (by kernel_rfl) ho hr
theorem p79_start_12 (l:Lgb) (ride:Int) (day:Int) {E:Env} {res:AV} (hE:Qe Try.prog 79 res E) (ho:AllP [Qd Try.prog (.clos 145 [] []) [.agg (QV l),.int .i64 ride] (.int .i64 (Qp l ride)),QQ Try.prog (.clos 144 [] [.ptr 0 0 0]) [.int .i64 1,.bool (decide ((Qp l ride)<day))] [⟨true,0,1,true,[.nilSl],false⟩] (.tup []) [⟨true,0,1,true,[.nilSl],false⟩],Qd Try.prog (.clos 146 [] []) [.agg (QV l),.int .i64 ride] (.bool (QE l ride)),QQ Try.prog (.clos 144 [] [.ptr 0 0 0]) [.int .i64 2,.bool (!(QE l ride))] [⟨true,0,1,true,[.nilSl],false⟩] (.tup []) [⟨true,0,1,true,[.nilSl],false⟩],Qd Try.prog (.clos 147 [] []) (WK l ride) (.int .i64 (QL (isKd 4 ride) ride l.es)),QQ Try.prog (.clos 144 [] [.ptr 0 0 0]) (YN ride l day) [⟨true,0,1,true,[.nilSl],false⟩] (.tup []) z79_12,Qd Try.prog (.clos 149 [] []) [.agg (QV l),.int .i64 ride] (.int .i64 (Qm l ride)),QQ Try.prog (.clos 144 [] [.ptr 0 0 0]) [.int .i64 4,.bool (decide ((Qm l ride)<day))] z79_13 (.tup []) [⟨true,0,1,false,[.sl 1 1 0 2 1],false⟩,⟨true,1,1,true,[.int .i64 3,.int .i64 4],true⟩],1≤1,1=1])
 (hr:AvLe (.rsl [.int .i64 3,.int .i64 4] 0 2) res):G Try.prog E [.code (Qc Try.prog 79)] ⟨[.agg (QV l),.int .i64 ride,.int .i64 day]++unds (Try.f79.ntmps - 3),[]⟩ :=
 Qb (n:=400) (evs:=[.v (.int .i64 (Qp l ride)),.lent [2] (.tup []) [⟨true,0,1,true,[.nilSl],false⟩],.v (.bool (QE l ride)),.lent [2] (.tup []) [⟨true,0,1,true,[.nilSl],false⟩],.v (.int .i64 (QL (isKd 4 ride) ride l.es)),.lent [2] (.tup []) z79_12,.v (.int .i64 (Qm l ride)),.lent [2,4] (.tup []) [⟨true,0,1,false,[.sl 1 1 0 2 1],false⟩,⟨true,1,1,true,[.int .i64 3,.int .i64 4],true⟩]]) (obs:=_) hE Try.func79 Qf (by kernel_rfl) ho hr
theorem p79_start_13 (l:Lgb) (ride:Int) (day:Int) {E:Env} {res:AV} (hE:Qe Try.prog 79 res E) (ho:AllP [Qd Try.prog (.clos 145 [] []) [.agg (QV l),.int .i64 ride] (.int .i64 (Qp l ride)),QQ Try.prog (.clos 144 [] [.ptr 0 0 0]) [.int .i64 1,.bool (decide ((Qp l ride)<day))] [⟨true,0,1,true,[.nilSl],false⟩] (.tup []) [⟨true,0,1,true,[.nilSl],false⟩],Qd Try.prog (.clos 146 [] []) [.agg (QV l),.int .i64 ride] (.bool (QE l ride)),QQ Try.prog (.clos 144 [] [.ptr 0 0 0]) [.int .i64 2,.bool (!(QE l ride))] [⟨true,0,1,true,[.nilSl],false⟩] (.tup []) [⟨true,0,1,true,[.nilSl],false⟩],Qd Try.prog (.clos 147 [] []) (WK l ride) (.int .i64 (QL (isKd 4 ride) ride l.es)),QQ Try.prog (.clos 144 [] [.ptr 0 0 0]) (YN ride l day) [⟨true,0,1,true,[.nilSl],false⟩] (.tup []) z79_12,Qd Try.prog (.clos 149 [] []) [.agg (QV l),.int .i64 ride] (.int .i64 (Qm l ride)),QQ Try.prog (.clos 144 [] [.ptr 0 0 0]) [.int .i64 4,.bool (decide ((Qm l ride)<day))] z79_13 (.tup []) z79_13,1≤1,0=0])
 (hr:AvLe (.rsl [.int .i64 3] 0 1) res):G Try.prog E [.code (Qc Try.prog 79)] ⟨[.agg (QV l),.int .i64 ride,.int .i64 day]++unds (Try.f79.ntmps - 3),[]⟩ :=
 Qb (n:=400) (evs:=[.v (.int .i64 (Qp l ride)),.lent [2] (.tup []) [⟨true,0,1,true,[.nilSl],false⟩],.v (.bool (QE l ride)),.lent [2] (.tup []) [⟨true,0,1,true,[.nilSl],false⟩],.v (.int .i64 (QL (isKd 4 ride) ride l.es)),.lent [2] (.tup []) z79_12,.v (.int .i64 (Qm l ride)),.lent [2,4] (.tup []) z79_13]) (obs:=_) hE Try.func79 Qf (by kernel_rfl) ho hr
theorem p79_start_14 (l:Lgb) (ride:Int) (day:Int) {E:Env} {res:AV} (hE:Qe Try.prog 79 res E) (ho:AllP [Qd Try.prog (.clos 145 [] []) [.agg (QV l),.int .i64 ride] (.int .i64 (Qp l ride)),QQ Try.prog (.clos 144 [] [.ptr 0 0 0]) [.int .i64 1,.bool (decide ((Qp l ride)<day))] [⟨true,0,1,true,[.nilSl],false⟩] (.tup []) [⟨true,0,1,true,[.nilSl],false⟩],Qd Try.prog (.clos 146 [] []) [.agg (QV l),.int .i64 ride] (.bool (QE l ride)),QQ Try.prog (.clos 144 [] [.ptr 0 0 0]) [.int .i64 2,.bool (!(QE l ride))] [⟨true,0,1,true,[.nilSl],false⟩] (.tup []) [⟨true,0,1,true,[.nilSl],false⟩],Qd Try.prog (.clos 147 [] []) (WK l ride) (.int .i64 (QL (isKd 4 ride) ride l.es)),QQ Try.prog (.clos 144 [] [.ptr 0 0 0]) (YN ride l day) [⟨true,0,1,true,[.nilSl],false⟩] (.tup []) [⟨true,0,1,true,[.nilSl],false⟩],Qd Try.prog (.clos 149 [] []) [.agg (QV l),.int .i64 ride] (.int .i64 (Qm l ride)),QQ Try.prog (.clos 144 [] [.ptr 0 0 0]) [.int .i64 4,.bool (decide ((Qm l ride)<day))] [⟨true,0,1,true,[.nilSl],false⟩] (.tup []) z79_14,1≤1,0=0])
 (hr:AvLe (.rsl [.int .i64 4] 0 1) res):G Try.prog E [.code (Qc Try.prog 79)] ⟨[.agg (QV l),.int .i64 ride,.int .i64 day]++unds (Try.f79.ntmps - 3),[]⟩ :=
 Qb (n:=400) (evs:=[.v (.int .i64 (Qp l ride)),.lent [2] (.tup []) [⟨true,0,1,true,[.nilSl],false⟩],.v (.bool (QE l ride)),.lent [2] (.tup []) [⟨true,0,1,true,[.nilSl],false⟩],.v (.int .i64 (QL (isKd 4 ride) ride l.es)),.lent [2] (.tup []) [⟨true,0,1,true,[.nilSl],false⟩],.v (.int .i64 (Qm l ride)),.lent [2] (.tup []) z79_14]) (obs:=_) hE Try.func79 Qf (by kernel_rfl) ho hr
theorem p79_start_15 (l:Lgb) (ride:Int) (day:Int) {E:Env} {res:AV} (hE:Qe Try.prog 79 res E) (ho:AllP [Qd Try.prog (.clos 145 [] []) [.agg (QV l),.int .i64 ride] (.int .i64 (Qp l ride)),QQ Try.prog (.clos 144 [] [.ptr 0 0 0]) [.int .i64 1,.bool (decide ((Qp l ride)<day))] [⟨true,0,1,true,[.nilSl],false⟩] (.tup []) [⟨true,0,1,true,[.nilSl],false⟩],Qd Try.prog (.clos 146 [] []) [.agg (QV l),.int .i64 ride] (.bool (QE l ride)),QQ Try.prog (.clos 144 [] [.ptr 0 0 0]) [.int .i64 2,.bool (!(QE l ride))] [⟨true,0,1,true,[.nilSl],false⟩] (.tup []) [⟨true,0,1,true,[.nilSl],false⟩],Qd Try.prog (.clos 147 [] []) (WK l ride) (.int .i64 (QL (isKd 4 ride) ride l.es)),QQ Try.prog (.clos 144 [] [.ptr 0 0 0]) (YN ride l day) [⟨true,0,1,true,[.nilSl],false⟩] (.tup []) [⟨true,0,1,true,[.nilSl],false⟩],Qd Try.prog (.clos 149 [] []) [.agg (QV l),.int .i64 ride] (.int .i64 (Qm l ride)),QQ Try.prog (.clos 144 [] [.ptr 0 0 0]) [.int .i64 4,.bool (decide ((Qm l ride)<day))] [⟨true,0,1,true,[.nilSl],false⟩] (.tup []) [⟨true,0,1,true,[.nilSl],false⟩],1≤1])
 (hr:AvLe (.nilSl) res):G Try.prog E [.code (Qc Try.prog 79)] ⟨[.agg (QV l),.int .i64 ride,.int .i64 day]++unds (Try.f79.ntmps - 3),[]⟩ :=
 Qb (n:=400) (evs:=[.v (.int .i64 (Qp l ride)),.lent [2] (.tup []) [⟨true,0,1,true,[.nilSl],false⟩],.v (.bool (QE l ride)),.lent [2] (.tup []) [⟨true,0,1,true,[.nilSl],false⟩],.v (.int .i64 (QL (isKd 4 ride) ride l.es)),.lent [2] (.tup []) [⟨true,0,1,true,[.nilSl],false⟩],.v (.int .i64 (Qm l ride)),.lent [2] (.tup []) [⟨true,0,1,true,[.nilSl],false⟩]]) (obs:=_) hE Try.func79 Qf (by kernel_rfl) ho hr
theorem f79W (l:Lgb) (ride:Int) (day:Int) {E:Env} {rv:(List Int)} (hE:Qe Try.prog 79 (.rsl (rowI rv) 0 rv.length) E)
 (h:((LogFine l)∧(((Qp l ride)<day→((LogFine l)∧(((QE l ride)=false→((l.es.length≤1000)∧((¬ ((QL (isKd 4 ride) ride l.es)=day)→((l.es.length≤1000∧(0≤ride∧ride<(l.k.insured.length:Int)))∧(((Qm l ride)<day→rv=[1,2,3,4])∧(¬ ((Qm l ride)<day)→rv=[1,2,3]))))∧((QL (isKd 4 ride) ride l.es)=day→((l.es.length≤1000∧(0≤ride∧ride<(l.k.insured.length:Int)))∧(((Qm l ride)<day→rv=[1,2,4])∧(¬ ((Qm l ride)<day)→rv=[1,2])))))))∧((QE l ride)=true→((l.es.length≤1000)∧((¬ ((QL (isKd 4 ride) ride l.es)=day)→((l.es.length≤1000∧(0≤ride∧ride<(l.k.insured.length:Int)))∧(((Qm l ride)<day→rv=[1,3,4])∧(¬ ((Qm l ride)<day)→rv=[1,3]))))∧((QL (isKd 4 ride) ride l.es)=day→((l.es.length≤1000∧(0≤ride∧ride<(l.k.insured.length:Int)))∧(((Qm l ride)<day→rv=[1,4])∧(¬ ((Qm l ride)<day)→rv=[1]))))))))))∧(¬ ((Qp l ride)<day)→((LogFine l)∧(((QE l ride)=false→((l.es.length≤1000)∧((¬ ((QL (isKd 4 ride) ride l.es)=day)→((l.es.length≤1000∧(0≤ride∧ride<(l.k.insured.length:Int)))∧(((Qm l ride)<day→rv=[2,3,4])∧(¬ ((Qm l ride)<day)→rv=[2,3]))))∧((QL (isKd 4 ride) ride l.es)=day→((l.es.length≤1000∧(0≤ride∧ride<(l.k.insured.length:Int)))∧(((Qm l ride)<day→rv=[2,4])∧(¬ ((Qm l ride)<day)→rv=[2])))))))∧((QE l ride)=true→((l.es.length≤1000)∧((¬ ((QL (isKd 4 ride) ride l.es)=day)→((l.es.length≤1000∧(0≤ride∧ride<(l.k.insured.length:Int)))∧(((Qm l ride)<day→rv=[3,4])∧(¬ ((Qm l ride)<day)→rv=[3]))))∧((QL (isKd 4 ride) ride l.es)=day→((l.es.length≤1000∧(0≤ride∧ride<(l.k.insured.length:Int)))∧(((Qm l ride)<day→rv=[4])∧(¬ ((Qm l ride)<day)→rv=([]:List Int)))))))))))))):G Try.prog E [.code (Qc Try.prog 79)] ⟨[.agg [.rsl (Ql l.k.rules) 0 l.k.rules.length,.rsl (rowI l.k.ranks) 0 l.k.ranks.length,.rsl (rowI l.k.insured) 0 l.k.insured.length,.rsl (Qg l.es) 0 l.es.length],.int .i64 ride,.int .i64 day]++unds (Try.f79.ntmps - 3),[]⟩:=by
 obtain ⟨h1,h⟩:=h
 rcases bft (decide ((Qp l ride)<day)) with hc0 | hc0
 · have h:=h.1 (odt hc0)
   obtain ⟨h2,h⟩:=h
   rcases bft (!(QE l ride)) with hc1 | hc1
   · have h:=h.1 (bnT hc1)
     obtain ⟨h3,h⟩:=h
     rcases bft ((QL (isKd 4 ride) ride l.es) != day) with hc2 | hc2
     · have h:=h.1 (bneT hc2)
       obtain ⟨h4,h⟩:=h
       rcases bft (decide ((Qm l ride)<day)) with hc3 | hc3
       · have h:=h.1 (odt hc3)
         exact p79_start_0 l ride day hE ⟨(u145 (Xe l ride h1)),(Qr Try.func144 (by kernel_rfl) Qy (YX 1 (decide ((Qp l ride)<day)) hc0)),(u146 (Xw l ride h2)),(Qr Try.func144 (by kernel_rfl) Qy (YD 2 (!(QE l ride)) ([1]:List Int) 0 hc1 (by decide))),(Qi Try.func147 (by kernel_rfl) YJ (Xx l ride ride h3)),(Qr Try.func144 (by kernel_rfl) Qy (YD 3 ((QL (isKd 4 ride) ride l.es) != day) ([1,2]:List Int) 1 hc2 (by decide))),(u149 (Xd l ride h4)),(Qr Try.func144 (by kernel_rfl) Qy (YD 4 (decide ((Qm l ride)<day)) ([1,2,3]:List Int) 2 hc3 (by decide))),(by decide),rfl,trivial⟩ (AvLe.of_eq (by rw [h]; try rfl))
       · have h:=h.2 (odf hc3)
         exact p79_start_1 l ride day hE ⟨(u145 (Xe l ride h1)),(Qr Try.func144 (by kernel_rfl) Qy (YX 1 (decide ((Qp l ride)<day)) hc0)),(u146 (Xw l ride h2)),(Qr Try.func144 (by kernel_rfl) Qy (YD 2 (!(QE l ride)) ([1]:List Int) 0 hc1 (by decide))),(Qi Try.func147 (by kernel_rfl) YJ (Xx l ride ride h3)),(Qr Try.func144 (by kernel_rfl) Qy (YD 3 ((QL (isKd 4 ride) ride l.es) != day) ([1,2]:List Int) 1 hc2 (by decide))),(u149 (Xd l ride h4)),(Qr Try.func144 (by kernel_rfl) Qy (YE 4 (decide ((Qm l ride)<day)) ([1,2,3]:List Int) 2 hc3)),(by decide),rfl,trivial⟩ (AvLe.of_eq (by rw [h]; try rfl))
     · have h:=h.2 (bneF hc2)
       obtain ⟨h4,h⟩:=h
       rcases bft (decide ((Qm l ride)<day)) with hc3 | hc3
       · have h:=h.1 (odt hc3)
         exact p79_start_2 l ride day hE ⟨(u145 (Xe l ride h1)),(Qr Try.func144 (by kernel_rfl) Qy (YX 1 (decide ((Qp l ride)<day)) hc0)),(u146 (Xw l ride h2)),(Qr Try.func144 (by kernel_rfl) Qy (YD 2 (!(QE l ride)) ([1]:List Int) 0 hc1 (by decide))),(Qi Try.func147 (by kernel_rfl) YJ (Xx l ride ride h3)),(Qr Try.func144 (by kernel_rfl) Qy (YE 3 ((QL (isKd 4 ride) ride l.es) != day) ([1,2]:List Int) 1 hc2)),(u149 (Xd l ride h4)),(Qr Try.func144 (by kernel_rfl) Qy (YD 4 (decide ((Qm l ride)<day)) ([1,2]:List Int) 1 hc3 (by decide))),(by decide),rfl,trivial⟩ (AvLe.of_eq (by rw [h]; try rfl))
       · have h:=h.2 (odf hc3)
         exact p79_start_3 l ride day hE ⟨(u145 (Xe l ride h1)),(Qr Try.func144 (by kernel_rfl) Qy (YX 1 (decide ((Qp l ride)<day)) hc0)),(u146 (Xw l ride h2)),(Qr Try.func144 (by kernel_rfl) Qy (YD 2 (!(QE l ride)) ([1]:List Int) 0 hc1 (by decide))),(Qi Try.func147 (by kernel_rfl) YJ (Xx l ride ride h3)),(Qr Try.func144 (by kernel_rfl) Qy (YE 3 ((QL (isKd 4 ride) ride l.es) != day) ([1,2]:List Int) 1 hc2)),(u149 (Xd l ride h4)),(Qr Try.func144 (by kernel_rfl) Qy (YE 4 (decide ((Qm l ride)<day)) ([1,2]:List Int) 1 hc3)),(by decide),rfl,trivial⟩ (AvLe.of_eq (by rw [h]; try rfl))
   · have h:=h.2 (bnF hc1)
     obtain ⟨h3,h⟩:=h
     rcases bft ((QL (isKd 4 ride) ride l.es) != day) with hc2 | hc2
     · have h:=h.1 (bneT hc2)
       obtain ⟨h4,h⟩:=h
       rcases bft (decide ((Qm l ride)<day)) with hc3 | hc3
       · have h:=h.1 (odt hc3)
         exact p79_start_4 l ride day hE ⟨(u145 (Xe l ride h1)),(Qr Try.func144 (by kernel_rfl) Qy (YX 1 (decide ((Qp l ride)<day)) hc0)),(u146 (Xw l ride h2)),(Qr Try.func144 (by kernel_rfl) Qy (YE 2 (!(QE l ride)) ([1]:List Int) 0 hc1)),(Qi Try.func147 (by kernel_rfl) YJ (Xx l ride ride h3)),(Qr Try.func144 (by kernel_rfl) Qy (YD 3 ((QL (isKd 4 ride) ride l.es) != day) ([1]:List Int) 0 hc2 (by decide))),(u149 (Xd l ride h4)),(Qr Try.func144 (by kernel_rfl) Qy (YD 4 (decide ((Qm l ride)<day)) ([1,3]:List Int) 1 hc3 (by decide))),(by decide),rfl,trivial⟩ (AvLe.of_eq (by rw [h]; try rfl))
       · have h:=h.2 (odf hc3)
         exact p79_start_5 l ride day hE ⟨(u145 (Xe l ride h1)),(Qr Try.func144 (by kernel_rfl) Qy (YX 1 (decide ((Qp l ride)<day)) hc0)),(u146 (Xw l ride h2)),(Qr Try.func144 (by kernel_rfl) Qy (YE 2 (!(QE l ride)) ([1]:List Int) 0 hc1)),(Qi Try.func147 (by kernel_rfl) YJ (Xx l ride ride h3)),(Qr Try.func144 (by kernel_rfl) Qy (YD 3 ((QL (isKd 4 ride) ride l.es) != day) ([1]:List Int) 0 hc2 (by decide))),(u149 (Xd l ride h4)),(Qr Try.func144 (by kernel_rfl) Qy (YE 4 (decide ((Qm l ride)<day)) ([1,3]:List Int) 1 hc3)),(by decide),rfl,trivial⟩ (AvLe.of_eq (by rw [h]; try rfl))
     · have h:=h.2 (bneF hc2)
       obtain ⟨h4,h⟩:=h
       rcases bft (decide ((Qm l ride)<day)) with hc3 | hc3
       · have h:=h.1 (odt hc3)
         exact p79_start_6 l ride day hE ⟨(u145 (Xe l ride h1)),(Qr Try.func144 (by kernel_rfl) Qy (YX 1 (decide ((Qp l ride)<day)) hc0)),(u146 (Xw l ride h2)),(Qr Try.func144 (by kernel_rfl) Qy (YE 2 (!(QE l ride)) ([1]:List Int) 0 hc1)),(Qi Try.func147 (by kernel_rfl) YJ (Xx l ride ride h3)),(Qr Try.func144 (by kernel_rfl) Qy (YE 3 ((QL (isKd 4 ride) ride l.es) != day) ([1]:List Int) 0 hc2)),(u149 (Xd l ride h4)),(Qr Try.func144 (by kernel_rfl) Qy (YD 4 (decide ((Qm l ride)<day)) ([1]:List Int) 0 hc3 (by decide))),(by decide),rfl,trivial⟩ (AvLe.of_eq (by rw [h]; try rfl))
       · have h:=h.2 (odf hc3)
         exact p79_start_7 l ride day hE ⟨(u145 (Xe l ride h1)),(Qr Try.func144 (by kernel_rfl) Qy (YX 1 (decide ((Qp l ride)<day)) hc0)),(u146 (Xw l ride h2)),(Qr Try.func144 (by kernel_rfl) Qy (YE 2 (!(QE l ride)) ([1]:List Int) 0 hc1)),(Qi Try.func147 (by kernel_rfl) YJ (Xx l ride ride h3)),(Qr Try.func144 (by kernel_rfl) Qy (YE 3 ((QL (isKd 4 ride) ride l.es) != day) ([1]:List Int) 0 hc2)),(u149 (Xd l ride h4)),(Qr Try.func144 (by kernel_rfl) Qy (YE 4 (decide ((Qm l ride)<day)) ([1]:List Int) 0 hc3)),(by decide),rfl,trivial⟩ (AvLe.of_eq (by rw [h]; try rfl))
 · have h:=h.2 (odf hc0)
   obtain ⟨h2,h⟩:=h
   rcases bft (!(QE l ride)) with hc1 | hc1
   · have h:=h.1 (bnT hc1)
     obtain ⟨h3,h⟩:=h
     rcases bft ((QL (isKd 4 ride) ride l.es) != day) with hc2 | hc2
     · have h:=h.1 (bneT hc2)
       obtain ⟨h4,h⟩:=h
       rcases bft (decide ((Qm l ride)<day)) with hc3 | hc3
       · have h:=h.1 (odt hc3)
         exact p79_start_8 l ride day hE ⟨(u145 (Xe l ride h1)),(Qr Try.func144 (by kernel_rfl) Qy (YY 1 (decide ((Qp l ride)<day)) hc0)),(u146 (Xw l ride h2)),(Qr Try.func144 (by kernel_rfl) Qy (YX 2 (!(QE l ride)) hc1)),(Qi Try.func147 (by kernel_rfl) YJ (Xx l ride ride h3)),(Qr Try.func144 (by kernel_rfl) Qy (YD 3 ((QL (isKd 4 ride) ride l.es) != day) ([2]:List Int) 0 hc2 (by decide))),(u149 (Xd l ride h4)),(Qr Try.func144 (by kernel_rfl) Qy (YD 4 (decide ((Qm l ride)<day)) ([2,3]:List Int) 1 hc3 (by decide))),(by decide),rfl,trivial⟩ (AvLe.of_eq (by rw [h]; try rfl))
       · have h:=h.2 (odf hc3)
         exact p79_start_9 l ride day hE ⟨(u145 (Xe l ride h1)),(Qr Try.func144 (by kernel_rfl) Qy (YY 1 (decide ((Qp l ride)<day)) hc0)),(u146 (Xw l ride h2)),(Qr Try.func144 (by kernel_rfl) Qy (YX 2 (!(QE l ride)) hc1)),(Qi Try.func147 (by kernel_rfl) YJ (Xx l ride ride h3)),(Qr Try.func144 (by kernel_rfl) Qy (YD 3 ((QL (isKd 4 ride) ride l.es) != day) ([2]:List Int) 0 hc2 (by decide))),(u149 (Xd l ride h4)),(Qr Try.func144 (by kernel_rfl) Qy (YE 4 (decide ((Qm l ride)<day)) ([2,3]:List Int) 1 hc3)),(by decide),rfl,trivial⟩ (AvLe.of_eq (by rw [h]; try rfl))
     · have h:=h.2 (bneF hc2)
       obtain ⟨h4,h⟩:=h
       rcases bft (decide ((Qm l ride)<day)) with hc3 | hc3
       · have h:=h.1 (odt hc3)
         exact p79_start_10 l ride day hE ⟨(u145 (Xe l ride h1)),(Qr Try.func144 (by kernel_rfl) Qy (YY 1 (decide ((Qp l ride)<day)) hc0)),(u146 (Xw l ride h2)),(Qr Try.func144 (by kernel_rfl) Qy (YX 2 (!(QE l ride)) hc1)),(Qi Try.func147 (by kernel_rfl) YJ (Xx l ride ride h3)),(Qr Try.func144 (by kernel_rfl) Qy (YE 3 ((QL (isKd 4 ride) ride l.es) != day) ([2]:List Int) 0 hc2)),(u149 (Xd l ride h4)),(Qr Try.func144 (by kernel_rfl) Qy (YD 4 (decide ((Qm l ride)<day)) ([2]:List Int) 0 hc3 (by decide))),(by decide),rfl,trivial⟩ (AvLe.of_eq (by rw [h]; try rfl))
       · have h:=h.2 (odf hc3)
         exact p79_start_11 l ride day hE ⟨(u145 (Xe l ride h1)),(Qr Try.func144 (by kernel_rfl) Qy (YY 1 (decide ((Qp l ride)<day)) hc0)),(u146 (Xw l ride h2)),(Qr Try.func144 (by kernel_rfl) Qy (YX 2 (!(QE l ride)) hc1)),(Qi Try.func147 (by kernel_rfl) YJ (Xx l ride ride h3)),(Qr Try.func144 (by kernel_rfl) Qy (YE 3 ((QL (isKd 4 ride) ride l.es) != day) ([2]:List Int) 0 hc2)),(u149 (Xd l ride h4)),(Qr Try.func144 (by kernel_rfl) Qy (YE 4 (decide ((Qm l ride)<day)) ([2]:List Int) 0 hc3)),(by decide),rfl,trivial⟩ (AvLe.of_eq (by rw [h]; try rfl))
   · have h:=h.2 (bnF hc1)
     obtain ⟨h3,h⟩:=h
     rcases bft ((QL (isKd 4 ride) ride l.es) != day) with hc2 | hc2
     · have h:=h.1 (bneT hc2)
       obtain ⟨h4,h⟩:=h
       rcases bft (decide ((Qm l ride)<day)) with hc3 | hc3
       · have h:=h.1 (odt hc3)
         exact p79_start_12 l ride day hE ⟨(u145 (Xe l ride h1)),(Qr Try.func144 (by kernel_rfl) Qy (YY 1 (decide ((Qp l ride)<day)) hc0)),(u146 (Xw l ride h2)),(Qr Try.func144 (by kernel_rfl) Qy (YY 2 (!(QE l ride)) hc1)),(Qi Try.func147 (by kernel_rfl) YJ (Xx l ride ride h3)),(Qr Try.func144 (by kernel_rfl) Qy (YX 3 ((QL (isKd 4 ride) ride l.es) != day) hc2)),(u149 (Xd l ride h4)),(Qr Try.func144 (by kernel_rfl) Qy (YD 4 (decide ((Qm l ride)<day)) ([3]:List Int) 0 hc3 (by decide))),(by decide),rfl,trivial⟩ (AvLe.of_eq (by rw [h]; try rfl))
       · have h:=h.2 (odf hc3)
         exact p79_start_13 l ride day hE ⟨(u145 (Xe l ride h1)),(Qr Try.func144 (by kernel_rfl) Qy (YY 1 (decide ((Qp l ride)<day)) hc0)),(u146 (Xw l ride h2)),(Qr Try.func144 (by kernel_rfl) Qy (YY 2 (!(QE l ride)) hc1)),(Qi Try.func147 (by kernel_rfl) YJ (Xx l ride ride h3)),(Qr Try.func144 (by kernel_rfl) Qy (YX 3 ((QL (isKd 4 ride) ride l.es) != day) hc2)),(u149 (Xd l ride h4)),(Qr Try.func144 (by kernel_rfl) Qy (YE 4 (decide ((Qm l ride)<day)) ([3]:List Int) 0 hc3)),(by decide),rfl,trivial⟩ (AvLe.of_eq (by rw [h]; try rfl))
     · have h:=h.2 (bneF hc2)
       obtain ⟨h4,h⟩:=h
       rcases bft (decide ((Qm l ride)<day)) with hc3 | hc3
       · have h:=h.1 (odt hc3)
         exact p79_start_14 l ride day hE ⟨(u145 (Xe l ride h1)),(Qr Try.func144 (by kernel_rfl) Qy (YY 1 (decide ((Qp l ride)<day)) hc0)),(u146 (Xw l ride h2)),(Qr Try.func144 (by kernel_rfl) Qy (YY 2 (!(QE l ride)) hc1)),(Qi Try.func147 (by kernel_rfl) YJ (Xx l ride ride h3)),(Qr Try.func144 (by kernel_rfl) Qy (YY 3 ((QL (isKd 4 ride) ride l.es) != day) hc2)),(u149 (Xd l ride h4)),(Qr Try.func144 (by kernel_rfl) Qy (YX 4 (decide ((Qm l ride)<day)) hc3)),(by decide),rfl,trivial⟩ (AvLe.of_eq (by rw [h]; try rfl))
       · have h:=h.2 (odf hc3)
         exact p79_start_15 l ride day hE ⟨(u145 (Xe l ride h1)),(Qr Try.func144 (by kernel_rfl) Qy (YY 1 (decide ((Qp l ride)<day)) hc0)),(u146 (Xw l ride h2)),(Qr Try.func144 (by kernel_rfl) Qy (YY 2 (!(QE l ride)) hc1)),(Qi Try.func147 (by kernel_rfl) YJ (Xx l ride ride h3)),(Qr Try.func144 (by kernel_rfl) Qy (YY 3 ((QL (isKd 4 ride) ride l.es) != day) hc2)),(u149 (Xd l ride h4)),(Qr Try.func144 (by kernel_rfl) Qy (YY 4 (decide ((Qm l ride)<day)) hc3)),(by decide),trivial⟩ (by rw [h]; exact QN)
theorem why_ok (l:Lgb) (ride day:Int) (h:LogFine l∧(0≤ride∧ride<(l.k.insured.length:Int))):Pure Try.prog 79 [.agg [.rsl (Ql l.k.rules) 0 l.k.rules.length,.rsl (rowI l.k.ranks) 0 l.k.ranks.length,.rsl (rowI l.k.insured) 0 l.k.insured.length,.rsl (Qg l.es) 0 l.es.length],.int .i64 ride,.int .i64 day] (.rsl (rowI (whyK l ride day)) 0 (whyK l ride day).length):=Qu Try.func79 f79b fun E hE=>by
 obtain ⟨hf,hr⟩:=h
 have h4:=hf.small.es
 refine f79W l ride day (rv:=whyK l ride day) hE ?_
 repeat' (first | exact hf | exact h4 | exact ⟨h4,hr⟩ | refine ⟨?_,?_⟩ | intro _)
 all_goals (unfold whyK; simp [*])
theorem f208b:Try.f208.body=some (Qc Try.prog 208):=by kernel_rfl
theorem u208 {a c k:List AV} {r:AV} (h:Pure Try.prog 208 (a++c++k) r):Qd Try.prog (.clos 208 a k) c r:=Qi Try.func208 (by kernel_rfl) f208b h
theorem p208_start_0 (x:Ent) (day:Int) {E:Env} {res:AV} (hE:Qe Try.prog 208 res E) (ho:AllP [])
 (hr:AvLe (.bool (decide (x.day > day))) res):G Try.prog E [.code (Qc Try.prog 208)] ⟨[.agg [.int .i64 x.day,.int .i64 x.kind,.int .i64 x.a,.int .i64 x.b,.int .i64 x.c],.rptr [.int .i64 day] 0]++unds (Try.f208.ntmps - 2),[]⟩ :=
 Qb (n:=400) (evs:=[]) (obs:=_) hE Try.func208 Qf (by kernel_rfl) ho hr
theorem f208W (x:Ent) (day:Int) {E:Env} {rv:Bool} (hE:Qe Try.prog 208 (.bool rv) E)
 (h:rv=(decide (x.day > day))):G Try.prog E [.code (Qc Try.prog 208)] ⟨[.agg [.int .i64 x.day,.int .i64 x.kind,.int .i64 x.a,.int .i64 x.b,.int .i64 x.c],.rptr [.int .i64 day] 0]++unds (Try.f208.ntmps - 2),[]⟩:=by
 exact p208_start_0 x day hE trivial (AvLe.of_eq (by rw [h]; try rfl))
theorem later_ok (x:Ent) (day:Int):Pure Try.prog 208 [.agg [.int .i64 x.day,.int .i64 x.kind,.int .i64 x.a,.int .i64 x.b,.int .i64 x.c],.rptr [.int .i64 day] 0] (.bool (decide (x.day > day))):=Qu Try.func208 f208b fun E hE =>
 f208W x day (rv:=decide (x.day > day)) hE rfl
theorem f207onb:Try.f207.body=some (Qc Try.prog 207):=by kernel_rfl
def WF (P:Program):List Item:=kAt 400 [.code (Qc P 207)] [.stop]
def yT (l:(List Ent)) (day:Int) (i:Nat):St:=⟨([.rsl (Qg l) 0 l.length,.clos 208 [] [.rptr [.int .i64 day] 0]]++jj 5 ([.int .i64 (l.length:Int),.int .i64 (i:Int)]++Js 10)),[]⟩
def yU (E:Env) (l:(List Ent)) (day:Int) (i:Nat):Prop:=G Try.prog E (WF Try.prog) (yT l day i )
abbrev Wv (ee:Ent):List AV:=[.int .i64 ee.day,.int .i64 ee.kind,.int .i64 ee.a,.int .i64 ee.b,.int .i64 ee.c]
theorem Qal (l:(List Ent)) (day:Int) {E:Env} {rv:AV} (hE:Qe Try.prog 207 rv E) (ho:AllP [])
 (hg:G Try.prog E (WF Try.prog) ⟨([.rsl (Qg l) 0 l.length,.clos 208 [] [.rptr [.int .i64 day] 0]]++jj 5 ([.int .i64 (l.length:Int),.int .i64 0]++Js 10)),[]⟩):G Try.prog E [.code (Qc Try.prog 207)] ⟨[.rsl (Qg l) 0 l.length,.clos 208 [] [.rptr [.int .i64 day] 0]]++unds (Try.f207.ntmps - 2),[]⟩ :=
 Qh (n:=400) (ds:=[]) (cs:=[]) (live:=[0,1,7,8]) (m:=0) (evs:=[.stop]) (obs:=_) hE.2.1 (hE.nogh _) Qf (by kernel_rfl) ho hg
theorem f207onW (l:(List Ent)) (day:Int) {E:Env} {rv:Int} (hE:Qe Try.prog 207 (.int .i64 rv) E)
 (h:yU E l day 0):G Try.prog E [.code (Qc Try.prog 207)] ⟨[.rsl (Qg l) 0 l.length,.clos 208 [] [.rptr [.int .i64 day] 0]]++unds (Try.f207.ntmps - 2),[]⟩:=by
 exact Qal l day hE trivial h
theorem p207on_0_0 (l:(List Ent)) (day:Int) (i:Nat) (ee:Ent) {E:Env} {res:AV} (hE:Qe Try.prog 207 res E) (ho:AllP [(decide ((i:Int)<(l.length:Int)))=true,0≤(i:Int)∧(i:Int)<(l.length:Int),((Qg l).drop (0+(Int.toNat (i:Int))*5)).take 5=(Wv ee),Qd Try.prog (.clos 208 [] [.rptr [.int .i64 day] 0]) [.agg (Wv ee)] (.bool (decide (ee.day > day))),(decide (ee.day > day))=true])
 (hr:AvLe (.int .i64 (i:Int)) res):G Try.prog E (WF Try.prog) (yT l day i ) :=
 Qb (n:=400) (evs:=[.b true,.ld (.agg (Wv ee)),.v (.bool (decide (ee.day > day))),.b true]) (obs:=_) hE Try.func207 Qf (by kernel_rfl) ho hr
theorem p207on_0_1 (l:(List Ent)) (day:Int) (i:Nat) (ee:Ent) {E:Env} {rv:AV} (hE:Qe Try.prog 207 rv E) (ho:AllP [(decide ((i:Int)<(l.length:Int)))=true,0≤(i:Int)∧(i:Int)<(l.length:Int),((Qg l).drop (0+(Int.toNat (i:Int))*5)).take 5=(Wv ee),Qd Try.prog (.clos 208 [] [.rptr [.int .i64 day] 0]) [.agg (Wv ee)] (.bool (decide (ee.day > day))),(decide (ee.day > day))=false,InR .i64 ((i:Int)+1)])
 (hg:G Try.prog E (WF Try.prog) ⟨([.rsl (Qg l) 0 l.length,.clos 208 [] [.rptr [.int .i64 day] 0]]++jj 5 ([.int .i64 (l.length:Int),.int .i64 ((i:Int)+1)]++Js 10)),[]⟩):G Try.prog E (WF Try.prog) (yT l day i ) :=
 Qh (n:=400) (ds:=[]) (cs:=[]) (live:=[0,1,7,8]) (m:=0) (evs:=[.b true,.ld (.agg (Wv ee)),.v (.bool (decide (ee.day > day))),.b false,.stop]) (obs:=_) hE.2.1 (hE.nogh _) Qf (by kernel_rfl) ho hg
theorem p207on_0_2 (l:(List Ent)) (day:Int) (i:Nat) {E:Env} {res:AV} (hE:Qe Try.prog 207 res E) (ho:AllP [(decide ((i:Int)<(l.length:Int)))=false])
 (hr:AvLe (.int .i64 (-1)) res):G Try.prog E (WF Try.prog) (yT l day i ) :=
 Qb (n:=400) (evs:=[.b false]) (obs:=_) hE Try.func207 Qf (by kernel_rfl) ho hr
theorem f207onW0 (l:(List Ent)) (day:Int) (i:Nat) {E:Env} {rv:Int} (hE:Qe Try.prog 207 (.int .i64 rv) E)
 (h:(((i:Int)<(l.length:Int)→(∃ ee:Ent,l[i]?=some ee∧((ee.day > day→rv=(i:Int))∧(¬ (ee.day > day)→((I6 ((i:Int)+1))∧yU E l day (i+1))))))∧(¬ ((i:Int)<(l.length:Int))→rv=(-1)))):yU E l day i:=by
 rcases bft (decide ((i:Int)<(l.length:Int))) with hc0 | hc0
 · have h:=h.1 (odt hc0)
   obtain ⟨ee,h1,h⟩:=h
   rcases bft (decide (ee.day > day)) with hc1 | hc1
   · have h:=h.1 (odt hc1)
     exact p207on_0_0 l day i ee hE ⟨hc0,(Qn h1),(rp cEnt 5 0 5 h1),(u208 (later_ok ee day)),hc1,trivial⟩ (AvLe.of_eq (by rw [h]; try rfl))
   · have h:=h.2 (odf hc1)
     obtain ⟨q6_2,h⟩:=h
     exact p207on_0_1 l day i ee hE ⟨hc0,(Qn h1),(rp cEnt 5 0 5 h1),(u208 (later_ok ee day)),hc1,q6_2,trivial⟩ h
 · have h:=h.2 (odf hc0)
   exact p207on_0_2 l day i hE ⟨hc0,trivial⟩ (AvLe.of_eq (by rw [h]; try rfl))
theorem KJ (l:List Ent) (day:Int) (h:l.length≤9223372036854775807):Pure Try.prog 207 [.rsl (Qg l) 0 l.length,.clos 208 [] [.rptr [.int .i64 day] 0]] (.int .i64 (idxG (fun x=>decide (x.day > day)) l)):=Qu Try.func207 f207onb fun E hE=>by
 have hl:=h
 refine f207onW l day (rv:=idxG (fun x=>decide (x.day > day)) l) hE (XQ (fun x=>decide (x.day > day)) l l.length 0 (by omega) (fun j x hj=>by omega) (fun i=>yU E l day i) (fun i hi' h1 h2=>?_) (fun _ h2=>?_))
 · have hx:l[i]?=some l[i]:=List.getElem?_eq_getElem hi'
   have hm:=List.mem_of_getElem? hx
   exact f207onW0 l day i (rv:=idxG (fun x=>decide (x.day > day)) l) hE ⟨fun _=>⟨_,hx,fun hp=>h1 _ hx (by simpa using hp),fun hp=>⟨by omega,h2 _ hx (by simpa using hp)⟩⟩,fun h=>by omega⟩
 · exact f207onW0 l day _ (rv:=idxG (fun x=>decide (x.day > day)) l) hE ⟨fun h=>by omega,fun _=>h2⟩
theorem f143b:Try.f143.body=some (Qc Try.prog 143):=by kernel_rfl
theorem u143 {a c k:List AV} {r:AV} (h:Pure Try.prog 143 (a++c++k) r):Qd Try.prog (.clos 143 a k) c r:=Qi Try.func143 (by kernel_rfl) f143b h
abbrev z143_1 (l:Lgb):List AV:=[.rsl (Ql l.k.rules) 0 l.k.rules.length,.rsl (rowI l.k.ranks) 0 l.k.ranks.length,.rsl (rowI l.k.insured) 0 l.k.insured.length,.rsl (Qg l.es) 0 l.es.length]
theorem p143_start_0 (l:Lgb) (day:Int) {E:Env} {res:AV} (hE:Qe Try.prog 143 res E) (ho:AllP [Qd Try.prog (.clos 207 [] []) [.rsl (Qg l.es) 0 l.es.length,.clos 208 [] [.rptr [.int .i64 day] 0]] (.int .i64 (idxG (fun x=>decide (x.day > day)) l.es)),(decide ((idxG (fun x=>decide (x.day > day)) l.es)≥0))=true,0≤(Int.toNat (idxG (fun x=>decide (x.day > day)) l.es)),(Int.toNat (idxG (fun x=>decide (x.day > day)) l.es))≤l.es.length,0≤(idxG (fun x=>decide (x.day > day)) l.es),4≤4,4≤4])
 (hr:AvLe (.agg [.rsl (Ql l.k.rules) 0 l.k.rules.length,.rsl (rowI l.k.ranks) 0 l.k.ranks.length,.rsl (rowI l.k.insured) 0 l.k.insured.length,.rsl (Qg l.es) 0 (Int.toNat (idxG (fun x=>decide (x.day > day)) l.es))]) res):G Try.prog E [.code (Qc Try.prog 143)] ⟨[.agg (z143_1 l),.int .i64 day]++unds (Try.f143.ntmps - 2),[]⟩ :=
 Qb (n:=400) (evs:=[.v (.int .i64 (idxG (fun x=>decide (x.day > day)) l.es)),.b true]) (obs:=_) hE Try.func143 Qf (by kernel_rfl) ho hr
theorem p143_start_1 (l:Lgb) (day:Int) {E:Env} {res:AV} (hE:Qe Try.prog 143 res E) (ho:AllP [Qd Try.prog (.clos 207 [] []) [.rsl (Qg l.es) 0 l.es.length,.clos 208 [] [.rptr [.int .i64 day] 0]] (.int .i64 (idxG (fun x=>decide (x.day > day)) l.es)),(decide ((idxG (fun x=>decide (x.day > day)) l.es)≥0))=false,4≤4])
 (hr:AvLe (.agg (z143_1 l)) res):G Try.prog E [.code (Qc Try.prog 143)] ⟨[.agg (z143_1 l),.int .i64 day]++unds (Try.f143.ntmps - 2),[]⟩ :=
 Qb (n:=400) (evs:=[.v (.int .i64 (idxG (fun x=>decide (x.day > day)) l.es)),.b false]) (obs:=_) hE Try.func143 Qf (by kernel_rfl) ho hr
theorem f143W (l:Lgb) (day:Int) {E:Env} {rv:Lgb} (hE:Qe Try.prog 143 (.agg [.rsl (Ql rv.k.rules) 0 rv.k.rules.length,.rsl (rowI rv.k.ranks) 0 rv.k.ranks.length,.rsl (rowI rv.k.insured) 0 rv.k.insured.length,.rsl (Qg rv.es) 0 rv.es.length]) E)
 (h:((l.es.length≤9223372036854775807)∧(((idxG (fun x=>decide (x.day > day)) l.es)≥0→((Int.toNat (idxG (fun x=>decide (x.day > day)) l.es))≤l.es.length∧(0≤(idxG (fun x=>decide (x.day > day)) l.es)∧rv=(⟨l.k,(l.es.take (Int.toNat (idxG (fun x=>decide (x.day > day)) l.es)))⟩:Lgb))))∧(¬ ((idxG (fun x=>decide (x.day > day)) l.es)≥0)→rv=l)))):G Try.prog E [.code (Qc Try.prog 143)] ⟨[.agg [.rsl (Ql l.k.rules) 0 l.k.rules.length,.rsl (rowI l.k.ranks) 0 l.k.ranks.length,.rsl (rowI l.k.insured) 0 l.k.insured.length,.rsl (Qg l.es) 0 l.es.length],.int .i64 day]++unds (Try.f143.ntmps - 2),[]⟩:=by
 obtain ⟨h1,h⟩:=h
 rcases bft (decide ((idxG (fun x=>decide (x.day > day)) l.es)≥0)) with hc0 | hc0
 · have h:=h.1 (odt hc0)
   obtain ⟨q3_1,h⟩:=h
   obtain ⟨q4_1,h⟩:=h
   exact p143_start_0 l day hE ⟨(Qi Try.func207 (by kernel_rfl) f207onb (KJ l.es day h1)),hc0,(Nat.zero_le _),q3_1,q4_1,(by decide),(by decide),trivial⟩ (by rw [h]; exact (agg_le ⟨AvLe.of_eq rfl,⟨AvLe.of_eq rfl,⟨AvLe.of_eq rfl,⟨(by exact Qbv cEnt (s:=5) (fun _=>rfl) (by first | omega | decide | simp)),trivial⟩⟩⟩⟩))
 · have h:=h.2 (odf hc0)
   exact p143_start_1 l day hE ⟨(Qi Try.func207 (by kernel_rfl) f207onb (KJ l.es day h1)),hc0,(by decide),trivial⟩ (AvLe.of_eq (by rw [h]; try rfl))
theorem on_ok (l:Lgb) (day:Int) (h:l.es.length≤1000):Pure Try.prog 143 [.agg [.rsl (Ql l.k.rules) 0 l.k.rules.length,.rsl (rowI l.k.ranks) 0 l.k.ranks.length,.rsl (rowI l.k.insured) 0 l.k.insured.length,.rsl (Qg l.es) 0 l.es.length],.int .i64 day] (.agg (cLgb (onK l day))):=Qu Try.func143 f143b fun E hE=>by
 refine f143W l day (rv:=onK l day) hE ⟨by omega,fun q=>⟨?_,by omega,?_⟩,fun q=>?_⟩
 · have:=idxG_le (fun x=>decide (x.day > day)) l.es; omega
 · unfold onK; rw [if_pos q]
 · unfold onK; rw [if_neg q]
theorem f78b:Try.f78.body=some (Qc Try.prog 78):=by kernel_rfl
theorem u78 {a c k:List AV} {r:AV} (h:Pure Try.prog 78 (a++c++k) r):Qd Try.prog (.clos 78 a k) c r:=Qi Try.func78 (by kernel_rfl) f78b h
abbrev z78_1 (k:Bok) (es:(List Ent)):List AV:=[.rsl (Ql ((((logK k es).1).k).rules)) 0 (((((logK k es).1).k).rules).length),.rsl (rowI ((((logK k es).1).k).ranks)) 0 (((((logK k es).1).k).ranks).length),.rsl (rowI ((((logK k es).1).k).insured)) 0 (((((logK k es).1).k).insured).length),.rsl (Qg (((logK k es).1).es)) 0 ((((logK k es).1).es).length)]
abbrev z78_2 (k:Bok) (es:(List Ent)) (day:Int):List AV:=[.rsl (Ql (((onK ((logK k es).1) day).k).rules)) 0 ((((onK ((logK k es).1) day).k).rules).length),.rsl (rowI (((onK ((logK k es).1) day).k).ranks)) 0 ((((onK ((logK k es).1) day).k).ranks).length),.rsl (rowI (((onK ((logK k es).1) day).k).insured)) 0 ((((onK ((logK k es).1) day).k).insured).length),.rsl (Qg ((onK ((logK k es).1) day).es)) 0 (((onK ((logK k es).1) day).es).length)]
abbrev z78_3 (k:Bok):List AV:=[.rsl (Ql k.rules) 0 k.rules.length,.rsl (rowI k.ranks) 0 k.ranks.length,.rsl (rowI k.insured) 0 k.insured.length]
abbrev z78_4 (k:Bok) (es:(List Ent)):AV:=.tup [.agg (z78_1 k es),.int .i64 ((logK k es).2.1),.int .i64 ((logK k es).2.2)]
theorem p78_start_0 (k:Bok) (es:(List Ent)) (day:Int) {E:Env} {res:AV} (hE:Qe Try.prog 78 res E) (ho:AllP [Qd Try.prog (.clos 141 [] []) [.agg (z78_3 k),.rsl (Qg es) 0 es.length] (z78_4 k es),4≤4,((logK k es).2.2 != 0)=true,4≤4])
 (hr:AvLe (.tup [.agg (z78_1 k es),.int .i64 ((logK k es).2.2)]) res):G Try.prog E [.code (Qc Try.prog 78)] ⟨[.agg (z78_3 k),.rsl (Qg es) 0 es.length,.int .i64 day]++unds (Try.f78.ntmps - 3),[]⟩ :=
 Qb (n:=400) (evs:=[.v (z78_4 k es),.b true]) (obs:=_) hE Try.func78 Qf (by kernel_rfl) ho hr
theorem p78_start_1 (k:Bok) (es:(List Ent)) (day:Int) {E:Env} {res:AV} (hE:Qe Try.prog 78 res E) (ho:AllP [Qd Try.prog (.clos 141 [] []) [.agg (z78_3 k),.rsl (Qg es) 0 es.length] (z78_4 k es),4≤4,((logK k es).2.2 != 0)=false,Qd Try.prog (.clos 142 [] []) [.int .i64 day,.int .i64 0,.int .i64 10000] (.bool (Qa day 0 10000)),(!(Qa day 0 10000))=true,4≤4])
 (hr:AvLe (.tup [.agg (z78_1 k es),.int .i64 1]) res):G Try.prog E [.code (Qc Try.prog 78)] ⟨[.agg (z78_3 k),.rsl (Qg es) 0 es.length,.int .i64 day]++unds (Try.f78.ntmps - 3),[]⟩ :=
 Qb (n:=400) (evs:=[.v (z78_4 k es),.b false,.v (.bool (Qa day 0 10000)),.b true]) (obs:=_) hE Try.func78 Qf (by kernel_rfl) ho hr
theorem p78_start_2 (k:Bok) (es:(List Ent)) (day:Int) {E:Env} {res:AV} (hE:Qe Try.prog 78 res E) (ho:AllP [Qd Try.prog (.clos 141 [] []) [.agg (z78_3 k),.rsl (Qg es) 0 es.length] (z78_4 k es),4≤4,((logK k es).2.2 != 0)=false,Qd Try.prog (.clos 142 [] []) [.int .i64 day,.int .i64 0,.int .i64 10000] (.bool (Qa day 0 10000)),(!(Qa day 0 10000))=false,Qd Try.prog (.clos 143 [] []) [.agg (z78_1 k es),.int .i64 day] (.agg (z78_2 k es day)),4≤4])
 (hr:AvLe (.tup [.agg (z78_2 k es day),.int .i64 0]) res):G Try.prog E [.code (Qc Try.prog 78)] ⟨[.agg (z78_3 k),.rsl (Qg es) 0 es.length,.int .i64 day]++unds (Try.f78.ntmps - 3),[]⟩ :=
 Qb (n:=400) (evs:=[.v (z78_4 k es),.b false,.v (.bool (Qa day 0 10000)),.b false,.v (.agg (z78_2 k es day))]) (obs:=_) hE Try.func78 Qf (by kernel_rfl) ho hr
theorem f78W (k:Bok) (es:(List Ent)) (day:Int) {E:Env} {rv:(Lgb × Int)} (hE:Qe Try.prog 78 (.tup [.agg [.rsl (Ql rv.1.k.rules) 0 rv.1.k.rules.length,.rsl (rowI rv.1.k.ranks) 0 rv.1.k.ranks.length,.rsl (rowI rv.1.k.insured) 0 rv.1.k.insured.length,.rsl (Qg rv.1.es) 0 rv.1.es.length],.int .i64 rv.2]) E)
 (h:((BokSmall k)∧((¬ ((logK k es).2.2=0)→rv=(((logK k es).1),(logK k es).2.2))∧((logK k es).2.2=0→(((Qa day 0 10000)=false→rv=(((logK k es).1),1))∧((Qa day 0 10000)=true→((((logK k es).1).es.length≤1000)∧rv=((onK ((logK k es).1) day),0)))))))):G Try.prog E [.code (Qc Try.prog 78)] ⟨[.agg [.rsl (Ql k.rules) 0 k.rules.length,.rsl (rowI k.ranks) 0 k.ranks.length,.rsl (rowI k.insured) 0 k.insured.length],.rsl (Qg es) 0 es.length,.int .i64 day]++unds (Try.f78.ntmps - 3),[]⟩:=by
 obtain ⟨h1,h⟩:=h
 rcases bft ((logK k es).2.2 != 0) with hc0 | hc0
 · have h:=h.1 (bneT hc0)
   exact p78_start_0 k es day hE ⟨(u141 (Kv k es h1)),(by decide),hc0,(by decide),trivial⟩ (AvLe.of_eq (by rw [h]; try rfl))
 · have h:=h.2 (bneF hc0)
   rcases bft (!(Qa day 0 10000)) with hc1 | hc1
   · have h:=h.1 (bnT hc1)
     exact p78_start_1 k es day hE ⟨(u141 (Kv k es h1)),(by decide),hc0,(u142 (Qk day 0 10000)),hc1,(by decide),trivial⟩ (AvLe.of_eq (by rw [h]; try rfl))
   · have h:=h.2 (bnF hc1)
     obtain ⟨h2,h⟩:=h
     exact p78_start_2 k es day hE ⟨(u141 (Kv k es h1)),(by decide),hc0,(u142 (Qk day 0 10000)),hc1,(u143 (on_ok ((logK k es).1) day h2)),(by decide),trivial⟩ (AvLe.of_eq (by rw [h]; try rfl))
def EntOk (x:Ent):Prop:=(0≤x.day∧x.day≤10000)∧(x.kind=2→1≤x.b∧x.b≤3)
theorem lastDay_nn {es:List Ent} (h:∀ x ∈ es,EntOk x):0≤qf es:=by
 unfold qf
 split
 · rename_i c
   have g1:es[es.length - 1]?=some (es.getD (es.length - 1) e0):=by
    rw [List.getD_eq_getElem?_getD,List.getElem?_eq_getElem (by omega)]; rfl
   exact (h _ (List.mem_of_getElem? g1)).1.1
 · omega
theorem right_ent {l:Lgb} {x:Ent} (h0:∀ y ∈ l.es,EntOk y) (h:Yd l x=true):EntOk x:=by
 have hd:=lastDay_nn h0
 unfold Yd at h
 simp only [Bool.and_eq_true] at h
 have hb:=QK.1 h.1
 refine ⟨by omega,fun k2=>?_⟩
 have h2:=h.2
 unfold Xq at h2
 rw [if_neg (by omega),if_pos k2] at h2
 simp only [Bool.and_eq_true] at h2
 exact QK.1 h2.2.1
theorem QaT {k:Bok}:∀ (rest pre:List Ent) (i:Nat),(∀ x ∈ pre,EntOk x)→(∀ x ∈ (yK k pre rest i).1.es,EntOk x)∧(yK k pre rest i).1.k=k∧(yK k pre rest i).1.es.length≤pre.length+rest.length
 | [],pre,i,h=>⟨h,rfl,by simp [yK]⟩
 | x :: rest,pre,i,h=>by
  unfold yK
  split
  · rename_i c
    have:=QaT (k:=k) rest (pre++[x]) (i+1) (fun y hy=>by
     rcases List.mem_append.1 hy with hy | hy
     · exact h y hy
     · rw [List.mem_singleton] at hy; subst hy
       exact right_ent (l:=⟨k,pre⟩) h c)
    refine ⟨this.1,this.2.1,?_⟩
    have h3:=this.2.2
    simp at h3 ⊢; omega
  · exact ⟨h,rfl,by simp⟩
theorem logK_ok {k:Bok} {es:List Ent} (h:(logK k es).2.2=0):Vn k=true∧es.length≤100∧logK k es=yK k [] es 0:=by
 unfold logK at h ⊢
 split at h
 · rename_i c
   have hb:Vn k=true:=by
    unfold Vg at c; split at c
    · assumption
    · cases c
   split at h
   · rename_i c2
     exact ⟨hb,c2,by rw [if_pos c,if_pos c2]⟩
   · cases h
 · rename_i c; exact absurd h c
theorem book_small {k:Bok} (h:Vn k=true):BokSmall k∧∀ r ∈ k.rules,1≤r.every∧r.every≤10000:=by
 simp only [Vn,Bool.and_eq_true,decide_eq_true_eq,Bool.not_eq_true',List.any_eq_false,badR,Bool.or_eq_true,not_or,Bool.not_eq_false] at h
 refine ⟨⟨by omega,by omega,by omega⟩,fun r hr=>?_⟩
 have:=h.2.2.2.1 r hr
 exact QK.1 (by simpa using this.2.1)
theorem logK_fine {k:Bok} {es:List Ent} (h:(logK k es).2.2=0):LogFine (logK k es).1∧(logK k es).1.k=k:=by
 obtain ⟨h1,h2,h3⟩:=logK_ok h
 obtain ⟨b1,b2⟩:=book_small h1
 have hg:=QaT (k:=k) es [] 0 (by simp)
 rw [h3]
 refine ⟨⟨⟨by rw [hg.2.1]; exact b1,?_⟩,fun x hx=>(hg.1 x hx).1,by rw [hg.2.1]; exact b2,fun x hx=>(hg.1 x hx).2⟩,hg.2.1⟩
 have:=hg.2.2
 simp at this; omega
theorem on_fine {l:Lgb} {day:Int} (h:LogFine l):LogFine (onK l day)∧(onK l day).k=l.k:=by
 unfold onK
 split
 · have h4:=h.small.es
   refine ⟨⟨⟨h.small.k,?_⟩,fun x hx=>h.days x (List.mem_of_mem_take hx),h.every,fun x hx=>h.sev x (List.mem_of_mem_take hx)⟩,rfl⟩
   show (l.es.take _).length≤1000
   rw [List.length_take]; omega
 · exact ⟨h,rfl⟩
theorem newDay_ok (k:Bok) (es:List Ent) (day:Int) (hk:BokSmall k):Pure Try.prog 78 [.agg [.rsl (Ql k.rules) 0 k.rules.length,.rsl (rowI k.ranks) 0 k.ranks.length,.rsl (rowI k.insured) 0 k.insured.length],.rsl (Qg es) 0 es.length,.int .i64 day] (.tup [.agg (cLgb (dayK k es day).1),.int .i64 (dayK k es day).2]):=Qu Try.func78 f78b fun E hE=>by
 refine f78W k es day (rv:=dayK k es day) hE ⟨hk,fun q=>?_,fun q=>⟨fun q2=>?_,fun q2=>⟨(logK_fine q).1.small.es,?_⟩⟩⟩
 · unfold dayK; rw [if_neg q]
 · unfold dayK; rw [if_pos q,if_neg (by rw [q2]; exact Bool.false_ne_true)]
 · unfold dayK; rw [if_pos q,if_pos q2]
theorem dayK_ok {k:Bok} {es:List Ent} {day:Int} (h:(dayK k es day).2=0):(logK k es).2.2=0∧(0≤day∧day≤10000)∧(dayK k es day).1=onK (logK k es).1 day:=by
 unfold dayK at h ⊢
 split at h
 · rename_i c
   split at h
   · rename_i c2
     exact ⟨c,QK.1 c2,by rw [if_pos c,if_pos c2]⟩
   · cases h
 · rename_i c; exact absurd h c
theorem dayK_fine {k:Bok} {es:List Ent} {day:Int} (h:(dayK k es day).2=0):LogFine (dayK k es day).1∧(dayK k es day).1.k=k:=by
 obtain ⟨h1,h2,h3⟩:=dayK_ok h
 obtain ⟨f1,f2⟩:=logK_fine h1
 obtain ⟨o1,o2⟩:=on_fine (day:=day) f1
 rw [h3]
 exact ⟨o1,o2.trans f2⟩
theorem f27b:Try.f27.body=some (Qc Try.prog 27):=by kernel_rfl
theorem u27 {a c k:List AV} {r:AV} (h:Pure Try.prog 27 (a++c++k) r):Qd Try.prog (.clos 27 a k) c r:=Qi Try.func27 (by kernel_rfl) f27b h
def f27K0 (P:Program):List Item:=kAt 400 [.code (Qc P 27)] [.b false,.stop]
def f27S0 (k:Bok) (es:(List Ent)) (day:Int) (v2:List Int) (i:Nat) (g2:Nat):St:=⟨([J,J,.int .i64 day,J,J,J,.sl 2 g2 0 v2.length 1,J,.ptr 1 0 0]++jj 14 ([.int .i64 ((((((dayK k es day).1).k).insured).length:Nat):Int),.int .i64 (i:Int)]++Js 14)),[⟨true,0,1,true,[.rsl (Ql k.rules) 0 k.rules.length,.rsl (rowI k.ranks) 0 k.ranks.length,.rsl (rowI k.insured) 0 k.insured.length],false⟩,⟨true,0,1,true,[.rsl (Ql ((((dayK k es day).1).k).rules)) 0 (((((dayK k es day).1).k).rules).length),.rsl (rowI ((((dayK k es day).1).k).ranks)) 0 (((((dayK k es day).1).k).ranks).length),.rsl (rowI ((((dayK k es day).1).k).insured)) 0 (((((dayK k es day).1).k).insured).length),.rsl (Qg (((dayK k es day).1).es)) 0 ((((dayK k es day).1).es).length)],false⟩,⟨true,g2,1,true,(rowI v2),true⟩]⟩
def f27G0 (E:Env) (k:Bok) (es:(List Ent)) (day:Int) (v2:List Int) (i:Nat):Prop:=∀ g2:Nat,G Try.prog E (f27K0 Try.prog) (f27S0 k es day v2 i g2)
abbrev z27_1 (k:Bok) (es:(List Ent)) (day:Int):List AV:=[.rsl (Ql ((((dayK k es day).1).k).rules)) 0 (((((dayK k es day).1).k).rules).length),.rsl (rowI ((((dayK k es day).1).k).ranks)) 0 (((((dayK k es day).1).k).ranks).length),.rsl (rowI ((((dayK k es day).1).k).insured)) 0 (((((dayK k es day).1).k).insured).length),.rsl (Qg (((dayK k es day).1).es)) 0 ((((dayK k es day).1).es).length)]
abbrev z27_2 (k:Bok):List AV:=[.rsl (Ql k.rules) 0 k.rules.length,.rsl (rowI k.ranks) 0 k.ranks.length,.rsl (rowI k.insured) 0 k.insured.length]
theorem p27_start_0 (k:Bok) (es:(List Ent)) (day:Int) {E:Env} {res:AV} (hE:Qe Try.prog 27 res E) (ho:AllP [Qd Try.prog (.clos 78 [] []) [.agg (z27_2 k),.rsl (Qg es) 0 es.length,.int .i64 day] (.tup [.agg (z27_1 k es day),.int .i64 ((dayK k es day).2)]),4≤4,((dayK k es day).2 != 0)=true])
 (hr:AvLe (.tup [.nilSl,.int .i64 ((dayK k es day).2)]) res):G Try.prog E [.code (Qc Try.prog 27)] ⟨[.agg (z27_2 k),.rsl (Qg es) 0 es.length,.int .i64 day]++unds (Try.f27.ntmps - 3),[]⟩ :=
 Qb (n:=400) (evs:=[.v (.tup [.agg (z27_1 k es day),.int .i64 ((dayK k es day).2)]),.b true]) (obs:=_) hE Try.func27 Qf (by kernel_rfl) ho hr
theorem p27_start_1 (k:Bok) (es:(List Ent)) (day:Int) {E:Env} {rv:AV} (hE:Qe Try.prog 27 rv E) (ho:AllP [Qd Try.prog (.clos 78 [] []) [.agg (z27_2 k),.rsl (Qg es) 0 es.length,.int .i64 day] (.tup [.agg (z27_1 k es day),.int .i64 ((dayK k es day).2)]),4≤4,((dayK k es day).2 != 0)=false])
 (hg:G Try.prog E (f27K0 Try.prog) ⟨([J,J,.int .i64 day,J,J,J,.sl 2 0 0 0 1,J,.ptr 1 0 0]++jj 14 ([.int .i64 ((((((dayK k es day).1).k).insured).length:Nat):Int),.int .i64 0]++Js 14)),[⟨true,0,1,true,(z27_2 k),false⟩,⟨true,0,1,true,(z27_1 k es day),false⟩,⟨true,0,1,true,[],true⟩]⟩):G Try.prog E [.code (Qc Try.prog 27)] ⟨[.agg (z27_2 k),.rsl (Qg es) 0 es.length,.int .i64 day]++unds (Try.f27.ntmps - 3),[]⟩ :=
 Qh (n:=400) (ds:=[(6,1)]) (cs:=[]) (live:=[2,6,8,23,24]) (m:=3) (evs:=[.v (.tup [.agg (z27_1 k es day),.int .i64 ((dayK k es day).2)]),.b false,.stop]) (obs:=_) hE.2.1 (hE.nogh _) Qf (by kernel_rfl) ho hg
theorem f27W (k:Bok) (es:(List Ent)) (day:Int) {E:Env} {rv:((List Int) × Int)} (hE:Qe Try.prog 27 (.tup [.rsl (rowI rv.1) 0 rv.1.length,.int .i64 rv.2]) E)
 (h:((BokSmall k)∧((¬ ((dayK k es day).2=0)→rv=(([]:List Int),(dayK k es day).2))∧((dayK k es day).2=0→f27G0 E k es day ([]) 0)))):G Try.prog E [.code (Qc Try.prog 27)] ⟨[.agg [.rsl (Ql k.rules) 0 k.rules.length,.rsl (rowI k.ranks) 0 k.ranks.length,.rsl (rowI k.insured) 0 k.insured.length],.rsl (Qg es) 0 es.length,.int .i64 day]++unds (Try.f27.ntmps - 3),[]⟩:=by
 obtain ⟨h1,h⟩:=h
 rcases bft ((dayK k es day).2 != 0) with hc0 | hc0
 · have h:=h.1 (bneT hc0)
   exact p27_start_0 k es day hE ⟨(u78 (newDay_ok k es day h1)),(by decide),hc0,trivial⟩ (by rw [h]; exact (XG ⟨QN,⟨AvLe.of_eq rfl,trivial⟩⟩))
 · have h:=h.2 (bneF hc0)
   exact p27_start_1 k es day hE ⟨(u78 (newDay_ok k es day h1)),(by decide),hc0,trivial⟩ (h 0)
theorem p27_0_0 (k:Bok) (es:(List Ent)) (day:Int) (v2:List Int) (i:Nat) (g2:Nat) {E:Env} {rv:AV} (hE:Qe Try.prog 27 rv E) (ho:AllP [(decide ((i:Int)<((((((dayK k es day).1).k).insured).length:Nat):Int)))=true,Qd Try.prog (.clos 79 [] []) [.agg [.rsl (Ql ((((dayK k es day).1).k).rules)) 0 (((((dayK k es day).1).k).rules).length),.rsl (rowI ((((dayK k es day).1).k).ranks)) 0 (((((dayK k es day).1).k).ranks).length),.rsl (rowI ((((dayK k es day).1).k).insured)) 0 (((((dayK k es day).1).k).insured).length),.rsl (Qg (((dayK k es day).1).es)) 0 ((((dayK k es day).1).es).length)],.int .i64 (i:Int),.int .i64 day] (.rsl (rowI (whyK ((dayK k es day).1) (i:Int) day)) 0 ((whyK ((dayK k es day).1) (i:Int) day).length)),((((whyK ((dayK k es day).1) (i:Int) day).length:Nat):Int) == 0)=true,g2=g2,(0+(v2.length*1))=(rowI v2).length,(v2.length+1)≤2147483648,0=0,InR .i64 ((i:Int)+1)])
 (hg:G Try.prog E (f27K0 Try.prog) ⟨([J,J,.int .i64 day,J,J,J,.sl 2 (g2+1) 0 (v2.length+1) 1,J,.ptr 1 0 0]++jj 14 ([.int .i64 ((((((dayK k es day).1).k).insured).length:Nat):Int),.int .i64 ((i:Int)+1)]++Js 14)),[⟨true,0,1,true,[.rsl (Ql k.rules) 0 k.rules.length,.rsl (rowI k.ranks) 0 k.ranks.length,.rsl (rowI k.insured) 0 k.insured.length],false⟩,⟨true,0,1,true,[.rsl (Ql ((((dayK k es day).1).k).rules)) 0 (((((dayK k es day).1).k).rules).length),.rsl (rowI ((((dayK k es day).1).k).ranks)) 0 (((((dayK k es day).1).k).ranks).length),.rsl (rowI ((((dayK k es day).1).k).insured)) 0 (((((dayK k es day).1).k).insured).length),.rsl (Qg (((dayK k es day).1).es)) 0 ((((dayK k es day).1).es).length)],false⟩,⟨true,(g2+1),1,true,((rowI v2)++[.int .i64 (i:Int)]),true⟩]⟩):G Try.prog E (f27K0 Try.prog) (f27S0 k es day v2 i g2) :=
 Qh (n:=400) (ds:=[]) (cs:=[]) (live:=[2,6,8,23,24]) (m:=3) (evs:=[.b true,.v (.rsl (rowI (whyK ((dayK k es day).1) (i:Int) day)) 0 ((whyK ((dayK k es day).1) (i:Int) day).length)),.b true,.stop]) (obs:=_) hE.2.1 (hE.nogh _) Qf (by kernel_rfl) ho hg
theorem p27_0_1 (k:Bok) (es:(List Ent)) (day:Int) (v2:List Int) (i:Nat) (g2:Nat) {E:Env} {rv:AV} (hE:Qe Try.prog 27 rv E) (ho:AllP [(decide ((i:Int)<((((((dayK k es day).1).k).insured).length:Nat):Int)))=true,Qd Try.prog (.clos 79 [] []) [.agg (z27_1 k es day),.int .i64 (i:Int),.int .i64 day] (.rsl (rowI (whyK ((dayK k es day).1) (i:Int) day)) 0 ((whyK ((dayK k es day).1) (i:Int) day).length)),((((whyK ((dayK k es day).1) (i:Int) day).length:Nat):Int) == 0)=false,InR .i64 ((i:Int)+1)])
 (hg:G Try.prog E (f27K0 Try.prog) ⟨([J,J,.int .i64 day,J,J,J,.sl 2 g2 0 v2.length 1,J,.ptr 1 0 0]++jj 14 ([.int .i64 ((((((dayK k es day).1).k).insured).length:Nat):Int),.int .i64 ((i:Int)+1)]++Js 14)),[⟨true,0,1,true,(z27_2 k),false⟩,⟨true,0,1,true,(z27_1 k es day),false⟩,⟨true,g2,1,true,(rowI v2),true⟩]⟩):G Try.prog E (f27K0 Try.prog) (f27S0 k es day v2 i g2) :=
 Qh (n:=400) (ds:=[]) (cs:=[]) (live:=[2,6,8,23,24]) (m:=3) (evs:=[.b true,.v (.rsl (rowI (whyK ((dayK k es day).1) (i:Int) day)) 0 ((whyK ((dayK k es day).1) (i:Int) day).length)),.b false,.stop]) (obs:=_) hE.2.1 (hE.nogh _) Qf (by kernel_rfl) ho hg
theorem p27_0_2 (k:Bok) (es:(List Ent)) (day:Int) (v2:List Int) (i:Nat) (g2:Nat) {E:Env} {res:AV} (hE:Qe Try.prog 27 res E) (ho:AllP [(decide ((i:Int)<((((((dayK k es day).1).k).insured).length:Nat):Int)))=false,g2=g2])
 (hr:AvLe (.tup [.rsl (rowI v2) 0 v2.length,.int .i64 0]) res):G Try.prog E (f27K0 Try.prog) (f27S0 k es day v2 i g2) :=
 Qb (n:=400) (evs:=[.b false]) (obs:=_) hE Try.func27 Qf (by kernel_rfl) ho hr
theorem f27W0 (k:Bok) (es:(List Ent)) (day:Int) (v2:List Int) (i:Nat) {E:Env} {rv:((List Int) × Int)} (hE:Qe Try.prog 27 (.tup [.rsl (rowI rv.1) 0 rv.1.length,.int .i64 rv.2]) E)
 (h:(((i:Int)<((((((dayK k es day).1).k).insured).length:Nat):Int)→((LogFine ((dayK k es day).1)∧(0≤(i:Int)∧(i:Int)<(((dayK k es day).1).k.insured.length:Int)))∧(((((whyK ((dayK k es day).1) (i:Int) day).length:Nat):Int)=0→((v2.length+1)≤2147483648∧((I6 ((i:Int)+1))∧f27G0 E k es day (v2++[(i:Int)]) (i+1))))∧(¬ ((((whyK ((dayK k es day).1) (i:Int) day).length:Nat):Int)=0)→((I6 ((i:Int)+1))∧f27G0 E k es day v2 (i+1))))))∧(¬ ((i:Int)<((((((dayK k es day).1).k).insured).length:Nat):Int))→rv=(v2,0)))):f27G0 E k es day v2 i:=by
 intro g2
 rcases bft (decide ((i:Int)<((((((dayK k es day).1).k).insured).length:Nat):Int))) with hc0 | hc0
 · have h:=h.1 (odt hc0)
   obtain ⟨h1,h⟩:=h
   rcases bft ((((whyK ((dayK k es day).1) (i:Int) day).length:Nat):Int) == 0) with hc1 | hc1
   · have h:=h.1 (eq_of_beq hc1)
     obtain ⟨h2,h⟩:=h
     obtain ⟨q7_2,h⟩:=h
     refine p27_0_0 k es day v2 i g2 hE ⟨hc0,(u79 (why_ok ((dayK k es day).1) (i:Int) day h1)),hc1,rfl,(by have hx:=XB cI (s:=1) (fun _=>rfl) v2; simp only [rowI] at hx ⊢; rw [hx]; simp),h2,rfl,q7_2,trivial⟩ ?_
     rw [(show rowI v2++[.int .i64 (i:Int)]=rowI (v2++[(i:Int)]) from (qc cI v2 [(i:Int)]).symm)]; rw [(show (v2.length+1)=(v2++[(i:Int)]).length from by simp)]; exact (h (g2+1))
   · have h:=h.2 (ne_of_beq_false hc1)
     obtain ⟨q3_2,h⟩:=h
     exact p27_0_1 k es day v2 i g2 hE ⟨hc0,(u79 (why_ok ((dayK k es day).1) (i:Int) day h1)),hc1,q3_2,trivial⟩ (h g2)
 · have h:=h.2 (odf hc0)
   exact p27_0_2 k es day v2 i g2 hE ⟨hc0,rfl,trivial⟩ (AvLe.of_eq (by rw [h]; try rfl))
theorem Qad (k:Bok) (es:List Ent) (day:Int) (hk:BokSmall k):Pure Try.prog 27 [.agg [.rsl (Ql k.rules) 0 k.rules.length,.rsl (rowI k.ranks) 0 k.ranks.length,.rsl (rowI k.insured) 0 k.insured.length],.rsl (Qg es) 0 es.length,.int .i64 day] (.tup [.rsl (rowI (QP k es day).1) 0 (QP k es day).1.length,.int .i64 (QP k es day).2]):=Qu Try.func27 f27b fun E hE=>by
 refine f27W k es day (rv:=QP k es day) hE ⟨hk,fun q=>?_,fun q=>?_⟩
 · unfold QP; rw [if_neg q]
 obtain ⟨hf,he⟩:=dayK_fine q
 have hi:=hf.small.k.insured
 have rR:QP k es day=(qJ (dayK k es day).1 day k.insured.length 0,0):=by unfold QP; rw [if_pos q]
 have key:∀ (d i:Nat) (v:List Int),i+d=(dayK k es day).1.k.insured.length→v.length≤i→(v++qJ (dayK k es day).1 day d i,(0:Int))=QP k es day→f27G0 E k es day v i:=by
  intro d
  induction d with
  | zero =>
   intro i v hd hv hr
   simp only [qJ,List.append_nil] at hr
   exact f27W0 k es day v i (rv:=QP k es day) hE ⟨fun h=>by omega,fun _=>hr.symm⟩
  | succ d ih =>
   intro i v hd hv hr
   simp only [qJ] at hr
   refine f27W0 k es day v i (rv:=QP k es day) hE ⟨fun _=>⟨⟨hf,by omega,by omega⟩,fun q2=>⟨by omega,⟨by omega,by omega⟩,?_⟩,fun q2=>⟨⟨by omega,by omega⟩,?_⟩⟩,fun h=>by omega⟩
   · rw [if_pos (by omega)] at hr
     exact ih (i+1) _ (by omega) (by simp; omega) (by rw [List.append_assoc]; exact hr)
   · rw [if_neg (by omega)] at hr
     exact ih (i+1) v (by omega) (by omega) hr
 refine key (dayK k es day).1.k.insured.length 0 [] (by omega) (by simp) ?_
 rw [rR,he]; rfl
end Go.Proofs.Ytemklbioijmjiaa
namespace Go.Proofs.Ytemklbioijmjiaa
open Go Ax
open Go.Proofs
structure Stp where
 kind:Int
 part:Int
def cStp (t:Stp):List AV:=[.int .i64 t.kind,.int .i64 t.part]
def Qv (l:List Stp):List AV:=l.flatMap cStp
def Qx (pins:List Int) (p:Int):Bool:=decide (pins.getD p.toNat 0 > 0)
def bpAt (k:BKit) (p:Int):BPart:=k.parts.getD p.toNat ⟨0,0,0,[]⟩
/-- A step of the log,if it can be done. -/
def Vx (y:Yard) (s:List Bool) (pins:List Int) (x:Stp):Option (List Bool × List Int) :=
 if Qa x.part 0 ((s.length:Int) - 1)=true then
  if x.kind=1∧upB y s x.part=true∧((bpAt y.k x.part).needs.any (Qx pins))=false then some (s.set x.part.toNat true,pins)
  else if x.kind=2∧s.getD x.part.toNat false=true∧Qx pins x.part=true then some (s,pins.set x.part.toNat (pins.getD x.part.toNat 0 - 1))
  else none
 else none
def Wk (y:Yard):List Stp→List Bool→List Int→Nat→List Bool × List Int × Int × Int
 | [],s,pins,_=>(s,pins,0,0)
 | x :: xs,s,pins,i=>match Vx y s pins x with
  | some r=>Wk y xs r.1 r.2 (i+1)
  | none=>([],[],(i:Int),81)
def We (k:BKit):List Int:=k.parts.map (·.pins)
def log8 (k:BKit) (l:List Stp):List Bool × List Int × Int × Int :=
 if Vv k=true then (if l.length≤300 then Wk (Qo k) l (List.replicate k.parts.length false) (We k) 0 else ([],[],0,2)) else ([],[],0,80)
def Yo (n:Int):Bool:=decide (n > 0)
def QH (k:BKit) (l:List Stp):Bool × List Int × Int :=
 if (log8 k l).2.2.2=0 then (!((log8 k l).1.any (· == false)) && !((log8 k l).2.1.any Yo),(log8 k l).2.1,0) else (false,[],(log8 k l).2.2.2)
theorem f139b:Try.f139.body=some (Qc Try.prog 139):=by kernel_rfl
theorem u139 {a c k:List AV} {r:AV} (h:Pure Try.prog 139 (a++c++k) r):Qd Try.prog (.clos 139 a k) c r:=Qi Try.func139 (by kernel_rfl) f139b h
theorem p139_start_0 (p:Int) (s:List Int) (e:Int) {E:Env} {res:AV} (hE:Qe Try.prog 139 res E) (ho:AllP [0≤p∧p<(s.length:Int),((rowI s).drop (0+(Int.toNat p)*1)).take 1=[.int .i64 e]])
 (hr:AvLe (.bool (decide (e > 0))) res):G Try.prog E [.code (Qc Try.prog 139)] ⟨[.int .i64 p,.rptr [.rsl (rowI s) 0 s.length] 0]++unds (Try.f139.ntmps - 2),[]⟩ :=
 Qb (n:=400) (evs:=[.auto,.ld (.int .i64 e)]) (obs:=_) hE Try.func139 Qf (by kernel_rfl) ho hr
theorem f139W (p:Int) (s:List Int) {E:Env} {rv:Bool} (hE:Qe Try.prog 139 (.bool rv) E)
 (h:(0≤p∧(∃ e:Int,s[Int.toNat p]?=some e∧rv=(decide (e > 0))))):G Try.prog E [.code (Qc Try.prog 139)] ⟨[.int .i64 p,.rptr [.rsl (rowI s) 0 s.length] 0]++unds (Try.f139.ntmps - 2),[]⟩:=by
 obtain ⟨h2,h⟩:=h
 obtain ⟨e,h1,h⟩:=h
 exact p139_start_0 p s e hE ⟨(Qj h2 h1),(rp cI 1 0 1 h1),trivial⟩ (AvLe.of_eq (by rw [h]; try rfl))
theorem Yy (p:Int) (s:List Int) (h:0≤p∧p<(s.length:Int)):Pure Try.prog 139 [.int .i64 p,.rptr [.rsl (rowI s) 0 s.length] 0] (.bool (Qx s p)):=Qu Try.func139 f139b fun E hE =>
 f139W p s (rv:=Qx s p) hE ⟨h.1,_,QO 0 h,rfl⟩
theorem QaW {k:BKit} (h:YM k=true):∀ x ∈ We k,0≤x∧x≤9:=by
 simp only [YM,Bool.and_eq_true,decide_eq_true_eq] at h
 intro x hx
 simp only [We,List.mem_map] at hx
 obtain ⟨p,hp,rfl⟩:=hx
 obtain ⟨j,hj⟩:=List.getElem?_of_mem hp
 have:=VK h.2.2.2 j p hj
 simp only [QaM,Bool.and_eq_true] at this
 exact QK.1 this.2.2.1
theorem f59lob:Try.f59.body=some (Qc Try.prog 59):=by kernel_rfl
def qW (P:Program):List Item:=kAt 400 [.code (Qc P 59)] [.stop]
def QcN (l:(List Int)) (s:List Int) (i:Nat):St:=⟨([.rsl (rowI l) 0 l.length,.clos 139 [] [.rptr [.rsl (rowI s) 0 s.length] 0]]++jj 5 ([.int .i64 (l.length:Int),.int .i64 (i:Int)]++Js 10)),[]⟩
def QcO (E:Env) (l:(List Int)) (s:List Int) (i:Nat):Prop:=G Try.prog E (qW Try.prog) (QcN l s i )
theorem QbE (l:(List Int)) (s:List Int) {E:Env} {rv:AV} (hE:Qe Try.prog 59 rv E) (ho:AllP [])
 (hg:G Try.prog E (qW Try.prog) ⟨([.rsl (rowI l) 0 l.length,.clos 139 [] [.rptr [.rsl (rowI s) 0 s.length] 0]]++jj 5 ([.int .i64 (l.length:Int),.int .i64 0]++Js 10)),[]⟩):G Try.prog E [.code (Qc Try.prog 59)] ⟨[.rsl (rowI l) 0 l.length,.clos 139 [] [.rptr [.rsl (rowI s) 0 s.length] 0]]++unds (Try.f59.ntmps - 2),[]⟩ :=
 Qh (n:=400) (ds:=[]) (cs:=[]) (live:=[0,1,7,8]) (m:=0) (evs:=[.stop]) (obs:=_) hE.2.1 (hE.nogh _) Qf (by kernel_rfl) ho hg
theorem f59loW (l:(List Int)) (s:List Int) {E:Env} {rv:Int} (hE:Qe Try.prog 59 (.int .i64 rv) E)
 (h:QcO E l s 0):G Try.prog E [.code (Qc Try.prog 59)] ⟨[.rsl (rowI l) 0 l.length,.clos 139 [] [.rptr [.rsl (rowI s) 0 s.length] 0]]++unds (Try.f59.ntmps - 2),[]⟩:=by
 exact QbE l s hE trivial h
theorem p59lo_0_0 (l:(List Int)) (s:List Int) (i:Nat) (e:Int) {E:Env} {res:AV} (hE:Qe Try.prog 59 res E) (ho:AllP [(decide ((i:Int)<(l.length:Int)))=true,0≤(i:Int)∧(i:Int)<(l.length:Int),((rowI l).drop (0+(Int.toNat (i:Int))*1)).take 1=[.int .i64 e],Qd Try.prog (.clos 139 [] [.rptr [.rsl (rowI s) 0 s.length] 0]) [.int .i64 e] (.bool (Qx s e)),(Qx s e)=true])
 (hr:AvLe (.int .i64 (i:Int)) res):G Try.prog E (qW Try.prog) (QcN l s i ) :=
 Qb (n:=400) (evs:=[.b true,.ld (.int .i64 e),.v (.bool (Qx s e)),.b true]) (obs:=_) hE Try.func59 Qf (by kernel_rfl) ho hr
theorem p59lo_0_1 (l:(List Int)) (s:List Int) (i:Nat) (e:Int) {E:Env} {rv:AV} (hE:Qe Try.prog 59 rv E) (ho:AllP [(decide ((i:Int)<(l.length:Int)))=true,0≤(i:Int)∧(i:Int)<(l.length:Int),((rowI l).drop (0+(Int.toNat (i:Int))*1)).take 1=[.int .i64 e],Qd Try.prog (.clos 139 [] [.rptr [.rsl (rowI s) 0 s.length] 0]) [.int .i64 e] (.bool (Qx s e)),(Qx s e)=false,InR .i64 ((i:Int)+1)])
 (hg:G Try.prog E (qW Try.prog) ⟨([.rsl (rowI l) 0 l.length,.clos 139 [] [.rptr [.rsl (rowI s) 0 s.length] 0]]++jj 5 ([.int .i64 (l.length:Int),.int .i64 ((i:Int)+1)]++Js 10)),[]⟩):G Try.prog E (qW Try.prog) (QcN l s i ) :=
 Qh (n:=400) (ds:=[]) (cs:=[]) (live:=[0,1,7,8]) (m:=0) (evs:=[.b true,.ld (.int .i64 e),.v (.bool (Qx s e)),.b false,.stop]) (obs:=_) hE.2.1 (hE.nogh _) Qf (by kernel_rfl) ho hg
theorem p59lo_0_2 (l:(List Int)) (s:List Int) (i:Nat) {E:Env} {res:AV} (hE:Qe Try.prog 59 res E) (ho:AllP [(decide ((i:Int)<(l.length:Int)))=false])
 (hr:AvLe (.int .i64 (-1)) res):G Try.prog E (qW Try.prog) (QcN l s i ) :=
 Qb (n:=400) (evs:=[.b false]) (obs:=_) hE Try.func59 Qf (by kernel_rfl) ho hr
theorem f59loW0 (l:(List Int)) (s:List Int) (i:Nat) {E:Env} {rv:Int} (hE:Qe Try.prog 59 (.int .i64 rv) E)
 (h:(((i:Int)<(l.length:Int)→(∃ e:Int,l[i]?=some e∧((0≤e∧e<(s.length:Int))∧(((Qx s e)=true→rv=(i:Int))∧((Qx s e)=false→((I6 ((i:Int)+1))∧QcO E l s (i+1)))))))∧(¬ ((i:Int)<(l.length:Int))→rv=(-1)))):QcO E l s i:=by
 rcases bft (decide ((i:Int)<(l.length:Int))) with hc0 | hc0
 · have h:=h.1 (odt hc0)
   obtain ⟨e,h1,h⟩:=h
   obtain ⟨h2,h⟩:=h
   rcases bft (Qx s e) with hc1 | hc1
   · have h:=h.1 hc1
     exact p59lo_0_0 l s i e hE ⟨hc0,(Qn h1),(rp cI 1 0 1 h1),(u139 (Yy e s h2)),hc1,trivial⟩ (AvLe.of_eq (by rw [h]; try rfl))
   · have h:=h.2 hc1
     obtain ⟨q6_2,h⟩:=h
     exact p59lo_0_1 l s i e hE ⟨hc0,(Qn h1),(rp cI 1 0 1 h1),(u139 (Yy e s h2)),hc1,q6_2,trivial⟩ h
 · have h:=h.2 (odf hc0)
   exact p59lo_0_2 l s i hE ⟨hc0,trivial⟩ (AvLe.of_eq (by rw [h]; try rfl))
theorem idxLoose_ok (l:List Int) (s:List Int) (h:(∀ x ∈ l,0≤x∧x<(s.length:Int))∧l.length≤9223372036854775807):Pure Try.prog 59 [.rsl (rowI l) 0 l.length,.clos 139 [] [.rptr [.rsl (rowI s) 0 s.length] 0]] (.int .i64 (idxG (Qx s) l)):=Qu Try.func59 f59lob fun E hE=>by
 have hl:=h.2
 refine f59loW l s (rv:=idxG (Qx s) l) hE (XQ (Qx s) l l.length 0 (by omega) (fun j x hj=>by omega) (fun i=>QcO E l s i) (fun i hi' h1 h2=>?_) (fun _ h2=>?_))
 · have hx:l[i]?=some l[i]:=List.getElem?_eq_getElem hi'
   have hm:=List.mem_of_getElem? hx
   exact f59loW0 l s i (rv:=idxG (Qx s) l) hE ⟨fun _=>⟨_,hx,h.1 _ hm,fun hp=>h1 _ hx (by simpa using hp),fun hp=>⟨by omega,h2 _ hx (by simpa using hp)⟩⟩,fun h=>by omega⟩
 · exact f59loW0 l s _ (rv:=idxG (Qx s) l) hE ⟨fun h=>by omega,fun _=>h2⟩
theorem KO:Try.f76.body=some (Qc Try.prog 76):=by kernel_rfl
theorem QbB (l:(List Int)) (s:List Int) {E:Env} {res:AV} (hE:Qe Try.prog 76 res E) (ho:AllP [Qd Try.prog (.clos 59 [] []) [.rsl (rowI l) 0 l.length,.clos 139 [] [.rptr [.rsl (rowI s) 0 s.length] 0]] (.int .i64 (idxG (Qx s) l))])
 (hr:AvLe (.bool (decide ((idxG (Qx s) l)≥0))) res):G Try.prog E [.code (Qc Try.prog 76)] ⟨[.rsl (rowI l) 0 l.length,.clos 139 [] [.rptr [.rsl (rowI s) 0 s.length] 0]]++unds (Try.f76.ntmps - 2),[]⟩ :=
 Qb (n:=400) (evs:=[.v (.int .i64 (idxG (Qx s) l))]) (obs:=_) hE Try.func76 Qf (by kernel_rfl) ho hr
theorem f76loW (l:(List Int)) (s:List Int) {E:Env} {rv:Bool} (hE:Qe Try.prog 76 (.bool rv) E)
 (h:(((∀ x ∈ l,0≤x∧x<(s.length:Int))∧l.length≤9223372036854775807)∧rv=(decide ((idxG (Qx s) l)≥0)))):G Try.prog E [.code (Qc Try.prog 76)] ⟨[.rsl (rowI l) 0 l.length,.clos 139 [] [.rptr [.rsl (rowI s) 0 s.length] 0]]++unds (Try.f76.ntmps - 2),[]⟩:=by
 obtain ⟨h1,h⟩:=h
 exact QbB l s hE ⟨(Qi Try.func59 (by kernel_rfl) f59lob (idxLoose_ok l s h1)),trivial⟩ (AvLe.of_eq (by rw [h]; try rfl))
theorem Yv (l:List Int) (s:List Int) (h:(∀ x ∈ l,0≤x∧x<(s.length:Int))∧l.length≤9223372036854775807):Pure Try.prog 76 [.rsl (rowI l) 0 l.length,.clos 139 [] [.rptr [.rsl (rowI s) 0 s.length] 0]] (.bool (l.any (Qx s))):=Qu Try.func76 KO fun E hE =>
 f76loW l s (rv:=l.any (Qx s)) hE ⟨h,(Yz _ _).symm⟩
theorem f74b:Try.f74.body=some (Qc Try.prog 74):=by kernel_rfl
theorem u74 {a c k:List AV} {r:AV} (h:Pure Try.prog 74 (a++c++k) r):Qd Try.prog (.clos 74 a k) c r:=Qi Try.func74 (by kernel_rfl) f74b h
def f74K0 (P:Program):List Item:=kAt 400 [.code (Qc P 74)] [.b false,.b false,.stop]
def f74S0 (k:BKit) (l:(List Stp)) (v2:List Bool) (i:Nat) (v3:List Int) (g2:Nat) (g3:Nat):St:=⟨([J,.rsl (Qv l) 0 l.length,J,J,.sl 2 g2 0 v2.length 1,.ptr 1 0 0,J,J,.rptr [.rsl (QF (((Qo k).k).parts)) 0 ((((Qo k).k).parts).length),.int .i64 (((Qo k).k).crane),.rsl ((Qs rowI) (((Qo k).k).vans)) 0 ((((Qo k).k).vans).length),.rsl ((Qs rowI) ((Qo k).above)) 0 (((Qo k).above).length),.rsl ((Qs rowI) ((Qo k).below)) 0 (((Qo k).below).length)] 0]++jj 22 ([.rsl (QF k.parts) 0 k.parts.length,.int .i64 (k.parts.length:Int),.int .i64 (i:Int)]++Js 87)),[⟨true,0,1,true,[.rsl (QF k.parts) 0 k.parts.length,.int .i64 k.crane,.rsl ((Qs rowI) k.vans) 0 k.vans.length],false⟩,⟨true,0,1,false,[.sl 3 g3 0 v3.length 1],false⟩,⟨true,g2,1,true,(rowB v2),true⟩,⟨true,g3,1,true,(rowI v3),true⟩]⟩
def f74G0 (E:Env) (k:BKit) (l:(List Stp)) (v2:List Bool) (i:Nat) (v3:List Int):Prop:=∀ g2 g3:Nat,G Try.prog E (f74K0 Try.prog) (f74S0 k l v2 i v3 g2 g3)
def Yf (P:Program):List Item:=kAt 400 [.code (Qc P 74)] [.b false,.b false,.b false,.stop]
def Yp (k:BKit) (l:(List Stp)) (v2:List Bool) (v3:List Int) (k1:Nat) (g2:Nat) (g3:Nat):St:=⟨([J,J,J,J,.sl 2 g2 0 v2.length 1,.ptr 1 0 0,J,J,.rptr [.rsl (QF (((Qo k).k).parts)) 0 ((((Qo k).k).parts).length),.int .i64 (((Qo k).k).crane),.rsl ((Qs rowI) (((Qo k).k).vans)) 0 ((((Qo k).k).vans).length),.rsl ((Qs rowI) ((Qo k).above)) 0 (((Qo k).above).length),.rsl ((Qs rowI) ((Qo k).below)) 0 (((Qo k).below).length)] 0,J,J,J,.clos 139 [] [.ptr 1 0 0]]++jj 31 ([.rsl (Qv l) 0 l.length,.int .i64 (l.length:Int),.int .i64 (k1:Int)]++Js 74)),[⟨true,0,1,true,[.rsl (QF k.parts) 0 k.parts.length,.int .i64 k.crane,.rsl ((Qs rowI) k.vans) 0 k.vans.length],false⟩,⟨true,0,1,false,[.sl 3 g3 0 v3.length 1],false⟩,⟨true,g2,1,true,(rowB v2),true⟩,⟨true,g3,1,true,(rowI v3),true⟩]⟩
def f74G1 (E:Env) (k:BKit) (l:(List Stp)) (v2:List Bool) (v3:List Int) (k1:Nat):Prop:=∀ g2 g3:Nat,G Try.prog E (Yf Try.prog) (Yp k l v2 v3 k1 g2 g3)
abbrev Qaf (k:BKit):List AV:=[.rsl (QF (((Qo k).k).parts)) 0 ((((Qo k).k).parts).length),.int .i64 (((Qo k).k).crane),.rsl ((Qs rowI) (((Qo k).k).vans)) 0 ((((Qo k).k).vans).length),.rsl ((Qs rowI) ((Qo k).above)) 0 (((Qo k).above).length),.rsl ((Qs rowI) ((Qo k).below)) 0 (((Qo k).below).length)]
abbrev Xv (se:Stp) (v2:List Bool):AV:=.bool (Qa se.part 0 ((v2.length:Int) - 1))
abbrev WZ (k:BKit):List AV:=[.rsl (QF k.parts) 0 k.parts.length,.int .i64 k.crane,.rsl ((Qs rowI) k.vans) 0 k.vans.length]
abbrev Vq (se:Stp) (v2:List Bool):List AV:=[.int .i64 se.part,.int .i64 0,.int .i64 ((v2.length:Int) - 1)]
abbrev z74_5 (g2:Nat) (v2:List Bool) (k:BKit) (l:(List Stp)) (k1:Nat):List AV:=[J,J,J,J,.sl 2 g2 0 v2.length 1,.ptr 1 0 0,J,J,.rptr (Qaf k) 0,J,J,J,.clos 139 [] [.ptr 1 0 0]]++jj 31 ([.rsl (Qv l) 0 l.length,.int .i64 (l.length:Int),.int .i64 ((k1:Int)+1)]++Js 74)
abbrev WM (k1:Nat):AV:=.tup [.nilSl,.nilSl,.int .i64 (k1:Int),.int .i64 81]
abbrev yZ (k:BKit) (v2:List Bool) (se:Stp):List AV:=[.rptr (Qaf k) 0,.rsl (rowB v2) 0 v2.length,.int .i64 se.part]
abbrev z74_8 (be:BPart) (v3:List Int):List AV:=[.rsl (rowI be.needs) 0 be.needs.length,.clos 139 [] [.rptr [.rsl (rowI v3) 0 v3.length] 0]]
abbrev z74_9 (v3:List Int):AV:=.clos 139 [] [.rptr [.rsl (rowI v3) 0 v3.length] 0]
theorem p74_start_0 (k:BKit) (l:(List Stp)) {E:Env} {res:AV} (hE:Qe Try.prog 74 res E) (ho:AllP [Qd Try.prog (.clos 49 [] []) [.agg (WZ k)] (.tup [.rptr (Qaf k) 0,.bool true]),false=false,(decide ((l.length:Int) > 300))=true,1≤1])
 (hr:AvLe (.tup [.nilSl,.nilSl,.int .i64 0,.int .i64 2]) res):G Try.prog E [.code (Qc Try.prog 74)] ⟨[.agg (WZ k),.rsl (Qv l) 0 l.length]++unds (Try.f74.ntmps - 2),[]⟩ :=
 Qb (n:=400) (evs:=[.v (.tup [.rptr (Qaf k) 0,.bool true]),.b false,.b true]) (obs:=_) hE Try.func74 Qf (by kernel_rfl) ho hr
theorem p74_start_1 (k:BKit) (l:(List Stp)) {E:Env} {rv:AV} (hE:Qe Try.prog 74 rv E) (ho:AllP [Qd Try.prog (.clos 49 [] []) [.agg (WZ k)] (.tup [.rptr (Qaf k) 0,.bool true]),false=false,(decide ((l.length:Int) > 300))=false,0≤(k.parts.length:Int)∧(k.parts.length:Int)≤(k.parts.length:Int)∧(k.parts.length:Int)≤2147483648])
 (hg:G Try.prog E (f74K0 Try.prog) ⟨([J,.rsl (Qv l) 0 l.length,J,J,.sl 2 0 0 (Int.toNat (k.parts.length:Int)) 1,.ptr 1 0 0,J,J,.rptr (Qaf k) 0]++jj 22 ([.rsl (QF k.parts) 0 k.parts.length,.int .i64 (k.parts.length:Int),.int .i64 0]++Js 87)),[⟨true,0,1,true,(WZ k),false⟩,⟨true,0,1,false,[.sl 3 0 0 0 1],false⟩,⟨true,0,1,true,((List.replicate (Int.toNat (k.parts.length:Int)) ([.bool false]:List AV)).flatten),true⟩,⟨true,0,1,true,[],true⟩]⟩):G Try.prog E [.code (Qc Try.prog 74)] ⟨[.agg (WZ k),.rsl (Qv l) 0 l.length]++unds (Try.f74.ntmps - 2),[]⟩ :=
 Qh (n:=400) (ds:=[]) (cs:=[(1,0,1)]) (live:=[1,4,5,8,31,32,33]) (m:=4) (evs:=[.v (.tup [.rptr (Qaf k) 0,.bool true]),.b false,.b false,.stop]) (obs:=_) hE.2.1 (hE.nogh _) Qf (by kernel_rfl) ho hg
theorem p74_start_2 (k:BKit) (l:(List Stp)) {E:Env} {res:AV} (hE:Qe Try.prog 74 res E) (ho:AllP [Qd Try.prog (.clos 49 [] []) [.agg (WZ k)] (.tup [.rptr (Qaf k) 0,.bool false]),true=true,1≤1])
 (hr:AvLe (.tup [.nilSl,.nilSl,.int .i64 0,.int .i64 80]) res):G Try.prog E [.code (Qc Try.prog 74)] ⟨[.agg (WZ k),.rsl (Qv l) 0 l.length]++unds (Try.f74.ntmps - 2),[]⟩ :=
 Qb (n:=400) (evs:=[.v (.tup [.rptr (Qaf k) 0,.bool false]),.b true]) (obs:=_) hE Try.func74 Qf (by kernel_rfl) ho hr
theorem p74_start_3 (k:BKit) (l:(List Stp)) {E:Env} {res:AV} (hE:Qe Try.prog 74 res E) (ho:AllP [Qd Try.prog (.clos 49 [] []) [.agg (WZ k)] (.tup [.nilPtr,.bool false]),true=true,1≤1])
 (hr:AvLe (.tup [.nilSl,.nilSl,.int .i64 0,.int .i64 80]) res):G Try.prog E [.code (Qc Try.prog 74)] ⟨[.agg (WZ k),.rsl (Qv l) 0 l.length]++unds (Try.f74.ntmps - 2),[]⟩ :=
 Qb (n:=400) (evs:=[.v (.tup [.nilPtr,.bool false]),.b true]) (obs:=_) hE Try.func74 Qf (by kernel_rfl) ho hr
theorem f74W (k:BKit) (l:(List Stp)) {E:Env} {rv:((List Bool) × (List Int) × Int × Int)} (hE:Qe Try.prog 74 (.tup [.rsl (rowB rv.1) 0 rv.1.length,.rsl (rowI rv.2.1) 0 rv.2.1.length,.int .i64 rv.2.2.1,.int .i64 rv.2.2.2]) E)
 (h:(((Vv k)=true→((KitSmall k)∧(((l.length:Int) > 300→rv=(([]:List Bool),([]:List Int),0,2))∧(¬ ((l.length:Int) > 300)→(k.parts.length≤2147483648∧f74G0 E k l (List.replicate k.parts.length (false:Bool)) 0 ([]))))))∧((Vv k)=false→(((YM k && (XA k).isSome)=true→((KitSmall k)∧rv=(([]:List Bool),([]:List Int),0,80)))∧((YM k && (XA k).isSome)=false→((KitSmall k)∧rv=(([]:List Bool),([]:List Int),0,80))))))):G Try.prog E [.code (Qc Try.prog 74)] ⟨[.agg [.rsl (QF k.parts) 0 k.parts.length,.int .i64 k.crane,.rsl ((Qs rowI) k.vans) 0 k.vans.length],.rsl (Qv l) 0 l.length]++unds (Try.f74.ntmps - 2),[]⟩:=by
 rcases bft (Vv k) with hc0 | hc0
 · have h:=h.1 hc0
   obtain ⟨h1,h⟩:=h
   rcases bft (decide ((l.length:Int) > 300)) with hc1 | hc1
   · have h:=h.1 (odt hc1)
     exact p74_start_0 k l hE ⟨(u49 (yard_ok k h1 hc0)),rfl,hc1,(by decide),trivial⟩ (by rw [h]; exact (XG ⟨QN,⟨QN,⟨AvLe.of_eq rfl,⟨AvLe.of_eq rfl,trivial⟩⟩⟩⟩))
   · have h:=h.2 (odf hc1)
     obtain ⟨h2,h⟩:=h
     refine p74_start_1 k l hE ⟨(u49 (yard_ok k h1 hc0)),rfl,hc1,⟨by omega,by omega,by have:=h2; omega⟩,trivial⟩ ?_
     have h:=(h 0 0)
     simp only [f74G0,f74S0,List.length_set,List.length_replicate] at h
     rw [(show (List.replicate (Int.toNat (k.parts.length:Int)) ([.bool false]:List AV)).flatten=rowB (List.replicate k.parts.length (false:Bool)) from VI cB _ _)]
     exact h
 · have h:=h.2 hc0
   rcases bft (YM k && (XA k).isSome) with hc1 | hc1
   · have h:=h.1 hc1
     obtain ⟨h1,h⟩:=h
     exact p74_start_2 k l hE ⟨(u49 (yard_half k h1 hc0 hc1)),rfl,(by decide),trivial⟩ (by rw [h]; exact (XG ⟨QN,⟨QN,⟨AvLe.of_eq rfl,⟨AvLe.of_eq rfl,trivial⟩⟩⟩⟩))
   · have h:=h.2 hc1
     obtain ⟨h1,h⟩:=h
     exact p74_start_3 k l hE ⟨(u49 (yard_nil k h1 hc0 hc1)),rfl,(by decide),trivial⟩ (by rw [h]; exact (XG ⟨QN,⟨QN,⟨AvLe.of_eq rfl,⟨AvLe.of_eq rfl,trivial⟩⟩⟩⟩))
theorem p74_0_0 (k:BKit) (l:(List Stp)) (v2:List Bool) (i:Nat) (v3:List Int) (g2:Nat) (g3:Nat) (be:BPart) {E:Env} {rv:AV} (hE:Qe Try.prog 74 rv E) (ho:AllP [(decide ((i:Int)<(k.parts.length:Int)))=true,0≤(i:Int)∧(i:Int)<(k.parts.length:Int),((QF k.parts).drop (0+(Int.toNat (i:Int))*4)).take 4=[.int .i64 be.w,.int .i64 be.m,.int .i64 be.pins,.rsl (rowI be.needs) 0 be.needs.length],4≤4,g3=g3,(0+(v3.length*1))=(rowI v3).length,(v3.length+1)≤2147483648,0=0,1≤1,InR .i64 ((i:Int)+1)])
 (hg:G Try.prog E (f74K0 Try.prog) ⟨([J,.rsl (Qv l) 0 l.length,J,J,.sl 2 g2 0 v2.length 1,.ptr 1 0 0,J,J,.rptr [.rsl (QF (((Qo k).k).parts)) 0 ((((Qo k).k).parts).length),.int .i64 (((Qo k).k).crane),.rsl ((Qs rowI) (((Qo k).k).vans)) 0 ((((Qo k).k).vans).length),.rsl ((Qs rowI) ((Qo k).above)) 0 (((Qo k).above).length),.rsl ((Qs rowI) ((Qo k).below)) 0 (((Qo k).below).length)] 0]++jj 22 ([.rsl (QF k.parts) 0 k.parts.length,.int .i64 (k.parts.length:Int),.int .i64 ((i:Int)+1)]++Js 87)),[⟨true,0,1,true,[.rsl (QF k.parts) 0 k.parts.length,.int .i64 k.crane,.rsl ((Qs rowI) k.vans) 0 k.vans.length],false⟩,⟨true,0,1,false,[.sl 3 (g3+1) 0 (v3.length+1) 1],false⟩,⟨true,g2,1,true,(rowB v2),true⟩,⟨true,(g3+1),1,true,((rowI v3)++[.int .i64 be.pins]),true⟩]⟩):G Try.prog E (f74K0 Try.prog) (f74S0 k l v2 i v3 g2 g3) :=
 Qh (n:=400) (ds:=[]) (cs:=[]) (live:=[1,4,5,8,31,32,33]) (m:=4) (evs:=[.b true,.ld (.agg [.int .i64 be.w,.int .i64 be.m,.int .i64 be.pins,.rsl (rowI be.needs) 0 be.needs.length]),.stop]) (obs:=_) hE.2.1 (hE.nogh _) Qf (by kernel_rfl) ho hg
theorem p74_0_1 (k:BKit) (l:(List Stp)) (v2:List Bool) (i:Nat) (v3:List Int) (g2:Nat) (g3:Nat) {E:Env} {rv:AV} (hE:Qe Try.prog 74 rv E) (ho:AllP [(decide ((i:Int)<(k.parts.length:Int)))=false])
 (hg:G Try.prog E (Yf Try.prog) ⟨([J,J,J,J,.sl 2 g2 0 v2.length 1,.ptr 1 0 0,J,J,.rptr (Qaf k) 0,J,J,J,.clos 139 [] [.ptr 1 0 0]]++jj 31 ([.rsl (Qv l) 0 l.length,.int .i64 (l.length:Int),.int .i64 0]++Js 74)),[⟨true,0,1,true,(WZ k),false⟩,⟨true,0,1,false,[.sl 3 g3 0 v3.length 1],false⟩,⟨true,g2,1,true,(rowB v2),true⟩,⟨true,g3,1,true,(rowI v3),true⟩]⟩):G Try.prog E (f74K0 Try.prog) (f74S0 k l v2 i v3 g2 g3) :=
 Qh (n:=400) (ds:=[]) (cs:=[]) (live:=[4,5,8,12,44,45,46]) (m:=4) (evs:=[.b false,.stop]) (obs:=_) hE.2.1 (hE.nogh _) Qf (by kernel_rfl) ho hg
theorem f74W0 (k:BKit) (l:(List Stp)) (v2:List Bool) (i:Nat) (v3:List Int) {E:Env} {rv:((List Bool) × (List Int) × Int × Int)} (hE:Qe Try.prog 74 (.tup [.rsl (rowB rv.1) 0 rv.1.length,.rsl (rowI rv.2.1) 0 rv.2.1.length,.int .i64 rv.2.2.1,.int .i64 rv.2.2.2]) E)
 (h:(((i:Int)<(k.parts.length:Int)→(∃ be:BPart,k.parts[i]?=some be∧((v3.length+1)≤2147483648∧((I6 ((i:Int)+1))∧f74G0 E k l v2 (i+1) (v3++[be.pins])))))∧(¬ ((i:Int)<(k.parts.length:Int))→f74G1 E k l v2 v3 0))):f74G0 E k l v2 i v3:=by
 intro g2 g3
 rcases bft (decide ((i:Int)<(k.parts.length:Int))) with hc0 | hc0
 · have h:=h.1 (odt hc0)
   obtain ⟨be,h1,h⟩:=h
   obtain ⟨h2,h⟩:=h
   obtain ⟨q10_1,h⟩:=h
   refine p74_0_0 k l v2 i v3 g2 g3 be hE ⟨hc0,(Qn h1),(rp cBp 4 0 4 h1),(by decide),rfl,(by have hx:=XB cI (s:=1) (fun _=>rfl) v3; simp only [rowI] at hx ⊢; rw [hx]; simp),h2,rfl,(by decide),q10_1,trivial⟩ ?_
   rw [(show rowI v3++[.int .i64 be.pins]=rowI (v3++[be.pins]) from (qc cI v3 [be.pins]).symm)]; rw [(show (v3.length+1)=(v3++[be.pins]).length from by simp)]; exact (h g2 (g3+1))
 · have h:=h.2 (odf hc0)
   exact p74_0_1 k l v2 i v3 g2 g3 hE ⟨hc0,trivial⟩ (h g2 g3)
theorem p74_1_0 (k:BKit) (l:(List Stp)) (v2:List Bool) (v3:List Int) (k1:Nat) (g2:Nat) (g3:Nat) (se:Stp) (be:BPart) (eb:Bool) {E:Env} {rv:AV} (hE:Qe Try.prog 74 rv E) (ho:AllP [(decide ((k1:Int)<(l.length:Int)))=true,0≤(k1:Int)∧(k1:Int)<(l.length:Int),((Qv l).drop (0+(Int.toNat (k1:Int))*2)).take 2=[.int .i64 se.kind,.int .i64 se.part],2≤2,g2=g2,InR .i64 ((v2.length:Int) - 1),Qd Try.prog (.clos 117 [] []) (Vq se v2) (Xv se v2),(Qa se.part 0 ((v2.length:Int) - 1))=true,(se.kind == 1)=true,Qd Try.prog (.clos 119 [] []) (yZ k v2 se) (.bool (upB (Qo k) v2 se.part)),g2=g2,(upB (Qo k) v2 se.part)=true,0≤se.part∧se.part<(((((Qo k).k).parts).length:Nat):Int),((QF (((Qo k).k).parts)).drop ((0+(Int.toNat se.part)*4)+3)).take 1=[.rsl (rowI be.needs) 0 be.needs.length],Qd Try.prog (.clos 76 [] []) (z74_8 be v3) (.bool (be.needs.any (Qx v3))),g3=g3,(!(be.needs.any (Qx v3)))=true,0≤se.part∧se.part<(v2.length:Int),g2=g2,((0+(Int.toNat se.part)*1)+1)≤(rowB v2).length,g2=g2,InR .i64 ((k1:Int)+1)])
 (hg:G Try.prog E (Yf Try.prog) ⟨(z74_5 g2 v2 k l k1),[⟨true,0,1,true,(WZ k),false⟩,⟨true,0,1,false,[.sl 3 g3 0 v3.length 1],false⟩,⟨true,g2,1,true,(Qw (rowB v2) (0+(Int.toNat se.part)*1) [.bool true]),true⟩,⟨true,g3,1,true,(rowI v3),true⟩]⟩):G Try.prog E (Yf Try.prog) (Yp k l v2 v3 k1 g2 g3) :=
 Qh (n:=400) (ds:=[]) (cs:=[]) (live:=[4,5,8,12,44,45,46]) (m:=4) (evs:=[.b true,.ld (.agg [.int .i64 se.kind,.int .i64 se.part]),.v (Xv se v2),.b true,.b true,.v (.bool (upB (Qo k) v2 se.part)),.b true,.auto,.auto,.ld (.rsl (rowI be.needs) 0 be.needs.length),.v (.bool (be.needs.any (Qx v3))),.b true,.stop]) (obs:=_) hE.2.1 (hE.nogh _) Qf (by kernel_rfl) ho hg
theorem p74_1_1 (k:BKit) (l:(List Stp)) (v2:List Bool) (v3:List Int) (k1:Nat) (g2:Nat) (g3:Nat) (se:Stp) (be:BPart) (eb:Bool) (e:Int) {E:Env} {rv:AV} (hE:Qe Try.prog 74 rv E) (ho:AllP [(decide ((k1:Int)<(l.length:Int)))=true,0≤(k1:Int)∧(k1:Int)<(l.length:Int),((Qv l).drop (0+(Int.toNat (k1:Int))*2)).take 2=[.int .i64 se.kind,.int .i64 se.part],2≤2,g2=g2,InR .i64 ((v2.length:Int) - 1),Qd Try.prog (.clos 117 [] []) (Vq se v2) (Xv se v2),(Qa se.part 0 ((v2.length:Int) - 1))=true,(se.kind == 1)=true,Qd Try.prog (.clos 119 [] []) (yZ k v2 se) (.bool (upB (Qo k) v2 se.part)),g2=g2,(upB (Qo k) v2 se.part)=true,0≤se.part∧se.part<(((((Qo k).k).parts).length:Nat):Int),((QF (((Qo k).k).parts)).drop ((0+(Int.toNat se.part)*4)+3)).take 1=[.rsl (rowI be.needs) 0 be.needs.length],Qd Try.prog (.clos 76 [] []) (z74_8 be v3) (.bool (be.needs.any (Qx v3))),g3=g3,(!(be.needs.any (Qx v3)))=false,(Qa se.part 0 ((v2.length:Int) - 1))=true,(se.kind == 2)=true,0≤se.part∧se.part<(v2.length:Int),g2=g2,g2=g2,((rowB v2).drop (0+(Int.toNat se.part)*1)).take 1=[.bool eb],eb=true,Qd Try.prog (z74_9 v3) [.int .i64 se.part] (.bool (Qx v3 se.part)),g3=g3,(Qx v3 se.part)=true,0≤se.part∧se.part<(v3.length:Int),g3=g3,g3=g3,((rowI v3).drop (0+(Int.toNat se.part)*1)).take 1=[.int .i64 e],InR .i64 (e - 1),0≤se.part∧se.part<(v3.length:Int),g3=g3,((0+(Int.toNat se.part)*1)+1)≤(rowI v3).length,g3=g3,InR .i64 ((k1:Int)+1)])
 (hg:G Try.prog E (Yf Try.prog) ⟨(z74_5 g2 v2 k l k1),[⟨true,0,1,true,(WZ k),false⟩,⟨true,0,1,false,[.sl 3 g3 0 v3.length 1],false⟩,⟨true,g2,1,true,(rowB v2),true⟩,⟨true,g3,1,true,(Qw (rowI v3) (0+(Int.toNat se.part)*1) [.int .i64 (e - 1)]),true⟩]⟩):G Try.prog E (Yf Try.prog) (Yp k l v2 v3 k1 g2 g3) :=
 Qh (n:=400) (ds:=[]) (cs:=[]) (live:=[4,5,8,12,44,45,46]) (m:=4) (evs:=[.b true,.ld (.agg [.int .i64 se.kind,.int .i64 se.part]),.v (Xv se v2),.b true,.b true,.v (.bool (upB (Qo k) v2 se.part)),.b true,.auto,.auto,.ld (.rsl (rowI be.needs) 0 be.needs.length),.v (.bool (be.needs.any (Qx v3))),.b false,.b true,.b true,.auto,.ld (.bool eb),.b true,.v (.bool (Qx v3 se.part)),.b true,.auto,.auto,.ld (.int .i64 e),.stop]) (obs:=_) hE.2.1 (hE.nogh _) Qf (by kernel_rfl) ho hg
theorem p74_1_2 (k:BKit) (l:(List Stp)) (v2:List Bool) (v3:List Int) (k1:Nat) (g2:Nat) (g3:Nat) (se:Stp) (be:BPart) (eb:Bool) {E:Env} {res:AV} (hE:Qe Try.prog 74 res E) (ho:AllP [(decide ((k1:Int)<(l.length:Int)))=true,0≤(k1:Int)∧(k1:Int)<(l.length:Int),((Qv l).drop (0+(Int.toNat (k1:Int))*2)).take 2=[.int .i64 se.kind,.int .i64 se.part],2≤2,g2=g2,InR .i64 ((v2.length:Int) - 1),Qd Try.prog (.clos 117 [] []) (Vq se v2) (Xv se v2),(Qa se.part 0 ((v2.length:Int) - 1))=true,(se.kind == 1)=true,Qd Try.prog (.clos 119 [] []) (yZ k v2 se) (.bool (upB (Qo k) v2 se.part)),g2=g2,(upB (Qo k) v2 se.part)=true,0≤se.part∧se.part<(((((Qo k).k).parts).length:Nat):Int),((QF (((Qo k).k).parts)).drop ((0+(Int.toNat se.part)*4)+3)).take 1=[.rsl (rowI be.needs) 0 be.needs.length],Qd Try.prog (.clos 76 [] []) (z74_8 be v3) (.bool (be.needs.any (Qx v3))),g3=g3,(!(be.needs.any (Qx v3)))=false,(Qa se.part 0 ((v2.length:Int) - 1))=true,(se.kind == 2)=true,0≤se.part∧se.part<(v2.length:Int),g2=g2,g2=g2,((rowB v2).drop (0+(Int.toNat se.part)*1)).take 1=[.bool eb],eb=true,Qd Try.prog (z74_9 v3) [.int .i64 se.part] (.bool (Qx v3 se.part)),g3=g3,(Qx v3 se.part)=false,1≤1])
 (hr:AvLe (WM k1) res):G Try.prog E (Yf Try.prog) (Yp k l v2 v3 k1 g2 g3) :=
 Qb (n:=400) (evs:=[.b true,.ld (.agg [.int .i64 se.kind,.int .i64 se.part]),.v (Xv se v2),.b true,.b true,.v (.bool (upB (Qo k) v2 se.part)),.b true,.auto,.auto,.ld (.rsl (rowI be.needs) 0 be.needs.length),.v (.bool (be.needs.any (Qx v3))),.b false,.b true,.b true,.auto,.ld (.bool eb),.b true,.v (.bool (Qx v3 se.part)),.b false]) (obs:=_) hE Try.func74 Qf (by kernel_rfl) ho hr
theorem p74_1_3 (k:BKit) (l:(List Stp)) (v2:List Bool) (v3:List Int) (k1:Nat) (g2:Nat) (g3:Nat) (se:Stp) (be:BPart) (eb:Bool) {E:Env} {res:AV} (hE:Qe Try.prog 74 res E) (ho:AllP [(decide ((k1:Int)<(l.length:Int)))=true,0≤(k1:Int)∧(k1:Int)<(l.length:Int),((Qv l).drop (0+(Int.toNat (k1:Int))*2)).take 2=[.int .i64 se.kind,.int .i64 se.part],2≤2,g2=g2,InR .i64 ((v2.length:Int) - 1),Qd Try.prog (.clos 117 [] []) (Vq se v2) (Xv se v2),(Qa se.part 0 ((v2.length:Int) - 1))=true,(se.kind == 1)=true,Qd Try.prog (.clos 119 [] []) (yZ k v2 se) (.bool (upB (Qo k) v2 se.part)),g2=g2,(upB (Qo k) v2 se.part)=true,0≤se.part∧se.part<(((((Qo k).k).parts).length:Nat):Int),((QF (((Qo k).k).parts)).drop ((0+(Int.toNat se.part)*4)+3)).take 1=[.rsl (rowI be.needs) 0 be.needs.length],Qd Try.prog (.clos 76 [] []) (z74_8 be v3) (.bool (be.needs.any (Qx v3))),g3=g3,(!(be.needs.any (Qx v3)))=false,(Qa se.part 0 ((v2.length:Int) - 1))=true,(se.kind == 2)=true,0≤se.part∧se.part<(v2.length:Int),g2=g2,g2=g2,((rowB v2).drop (0+(Int.toNat se.part)*1)).take 1=[.bool eb],eb=false,false=false,1≤1])
 (hr:AvLe (WM k1) res):G Try.prog E (Yf Try.prog) (Yp k l v2 v3 k1 g2 g3) :=
 Qb (n:=400) (evs:=[.b true,.ld (.agg [.int .i64 se.kind,.int .i64 se.part]),.v (Xv se v2),.b true,.b true,.v (.bool (upB (Qo k) v2 se.part)),.b true,.auto,.auto,.ld (.rsl (rowI be.needs) 0 be.needs.length),.v (.bool (be.needs.any (Qx v3))),.b false,.b true,.b true,.auto,.ld (.bool eb),.b false,.b false]) (obs:=_) hE Try.func74 Qf (by kernel_rfl) ho hr
theorem p74_1_4 (k:BKit) (l:(List Stp)) (v2:List Bool) (v3:List Int) (k1:Nat) (g2:Nat) (g3:Nat) (se:Stp) (be:BPart) {E:Env} {res:AV} (hE:Qe Try.prog 74 res E) (ho:AllP [(decide ((k1:Int)<(l.length:Int)))=true,0≤(k1:Int)∧(k1:Int)<(l.length:Int),((Qv l).drop (0+(Int.toNat (k1:Int))*2)).take 2=[.int .i64 se.kind,.int .i64 se.part],2≤2,g2=g2,InR .i64 ((v2.length:Int) - 1),Qd Try.prog (.clos 117 [] []) (Vq se v2) (Xv se v2),(Qa se.part 0 ((v2.length:Int) - 1))=true,(se.kind == 1)=true,Qd Try.prog (.clos 119 [] []) (yZ k v2 se) (.bool (upB (Qo k) v2 se.part)),g2=g2,(upB (Qo k) v2 se.part)=true,0≤se.part∧se.part<(((((Qo k).k).parts).length:Nat):Int),((QF (((Qo k).k).parts)).drop ((0+(Int.toNat se.part)*4)+3)).take 1=[.rsl (rowI be.needs) 0 be.needs.length],Qd Try.prog (.clos 76 [] []) (z74_8 be v3) (.bool (be.needs.any (Qx v3))),g3=g3,(!(be.needs.any (Qx v3)))=false,(Qa se.part 0 ((v2.length:Int) - 1))=true,(se.kind == 2)=false,false=false,false=false,1≤1])
 (hr:AvLe (WM k1) res):G Try.prog E (Yf Try.prog) (Yp k l v2 v3 k1 g2 g3) :=
 Qb (n:=400) (evs:=[.b true,.ld (.agg [.int .i64 se.kind,.int .i64 se.part]),.v (Xv se v2),.b true,.b true,.v (.bool (upB (Qo k) v2 se.part)),.b true,.auto,.auto,.ld (.rsl (rowI be.needs) 0 be.needs.length),.v (.bool (be.needs.any (Qx v3))),.b false,.b true,.b false,.b false,.b false]) (obs:=_) hE Try.func74 Qf (by kernel_rfl) ho hr
theorem p74_1_5 (k:BKit) (l:(List Stp)) (v2:List Bool) (v3:List Int) (k1:Nat) (g2:Nat) (g3:Nat) (se:Stp) (be:BPart) {E:Env} {res:AV} (hE:Qe Try.prog 74 res E) (ho:AllP [(decide ((k1:Int)<(l.length:Int)))=true,0≤(k1:Int)∧(k1:Int)<(l.length:Int),((Qv l).drop (0+(Int.toNat (k1:Int))*2)).take 2=[.int .i64 se.kind,.int .i64 se.part],2≤2,g2=g2,InR .i64 ((v2.length:Int) - 1),Qd Try.prog (.clos 117 [] []) (Vq se v2) (Xv se v2),(Qa se.part 0 ((v2.length:Int) - 1))=true,(se.kind == 1)=true,Qd Try.prog (.clos 119 [] []) (yZ k v2 se) (.bool (upB (Qo k) v2 se.part)),g2=g2,(upB (Qo k) v2 se.part)=true,0≤se.part∧se.part<(((((Qo k).k).parts).length:Nat):Int),((QF (((Qo k).k).parts)).drop ((0+(Int.toNat se.part)*4)+3)).take 1=[.rsl (rowI be.needs) 0 be.needs.length],Qd Try.prog (.clos 76 [] []) (z74_8 be v3) (.bool (be.needs.any (Qx v3))),g3=g3,(!(be.needs.any (Qx v3)))=false,(Qa se.part 0 ((v2.length:Int) - 1))=false,false=false,false=false,false=false,1≤1])
 (hr:AvLe (WM k1) res):G Try.prog E (Yf Try.prog) (Yp k l v2 v3 k1 g2 g3) :=
 Qb (n:=400) (evs:=[.b true,.ld (.agg [.int .i64 se.kind,.int .i64 se.part]),.v (Xv se v2),.b true,.b true,.v (.bool (upB (Qo k) v2 se.part)),.b true,.auto,.auto,.ld (.rsl (rowI be.needs) 0 be.needs.length),.v (.bool (be.needs.any (Qx v3))),.b false,.b false,.b false,.b false,.b false]) (obs:=_) hE Try.func74 Qf (by kernel_rfl) ho hr
theorem p74_1_6 (k:BKit) (l:(List Stp)) (v2:List Bool) (v3:List Int) (k1:Nat) (g2:Nat) (g3:Nat) (se:Stp) (eb:Bool) (e:Int) {E:Env} {rv:AV} (hE:Qe Try.prog 74 rv E) (ho:AllP [(decide ((k1:Int)<(l.length:Int)))=true,0≤(k1:Int)∧(k1:Int)<(l.length:Int),((Qv l).drop (0+(Int.toNat (k1:Int))*2)).take 2=[.int .i64 se.kind,.int .i64 se.part],2≤2,g2=g2,InR .i64 ((v2.length:Int) - 1),Qd Try.prog (.clos 117 [] []) (Vq se v2) (Xv se v2),(Qa se.part 0 ((v2.length:Int) - 1))=true,(se.kind == 1)=true,Qd Try.prog (.clos 119 [] []) (yZ k v2 se) (.bool (upB (Qo k) v2 se.part)),g2=g2,(upB (Qo k) v2 se.part)=false,false=false,(Qa se.part 0 ((v2.length:Int) - 1))=true,(se.kind == 2)=true,0≤se.part∧se.part<(v2.length:Int),g2=g2,g2=g2,((rowB v2).drop (0+(Int.toNat se.part)*1)).take 1=[.bool eb],eb=true,Qd Try.prog (z74_9 v3) [.int .i64 se.part] (.bool (Qx v3 se.part)),g3=g3,(Qx v3 se.part)=true,0≤se.part∧se.part<(v3.length:Int),g3=g3,g3=g3,((rowI v3).drop (0+(Int.toNat se.part)*1)).take 1=[.int .i64 e],InR .i64 (e - 1),0≤se.part∧se.part<(v3.length:Int),g3=g3,((0+(Int.toNat se.part)*1)+1)≤(rowI v3).length,g3=g3,InR .i64 ((k1:Int)+1)])
 (hg:G Try.prog E (Yf Try.prog) ⟨(z74_5 g2 v2 k l k1),[⟨true,0,1,true,(WZ k),false⟩,⟨true,0,1,false,[.sl 3 g3 0 v3.length 1],false⟩,⟨true,g2,1,true,(rowB v2),true⟩,⟨true,g3,1,true,(Qw (rowI v3) (0+(Int.toNat se.part)*1) [.int .i64 (e - 1)]),true⟩]⟩):G Try.prog E (Yf Try.prog) (Yp k l v2 v3 k1 g2 g3) :=
 Qh (n:=400) (ds:=[]) (cs:=[]) (live:=[4,5,8,12,44,45,46]) (m:=4) (evs:=[.b true,.ld (.agg [.int .i64 se.kind,.int .i64 se.part]),.v (Xv se v2),.b true,.b true,.v (.bool (upB (Qo k) v2 se.part)),.b false,.b false,.b true,.b true,.auto,.ld (.bool eb),.b true,.v (.bool (Qx v3 se.part)),.b true,.auto,.auto,.ld (.int .i64 e),.stop]) (obs:=_) hE.2.1 (hE.nogh _) Qf (by kernel_rfl) ho hg
theorem p74_1_7 (k:BKit) (l:(List Stp)) (v2:List Bool) (v3:List Int) (k1:Nat) (g2:Nat) (g3:Nat) (se:Stp) (eb:Bool) {E:Env} {res:AV} (hE:Qe Try.prog 74 res E) (ho:AllP [(decide ((k1:Int)<(l.length:Int)))=true,0≤(k1:Int)∧(k1:Int)<(l.length:Int),((Qv l).drop (0+(Int.toNat (k1:Int))*2)).take 2=[.int .i64 se.kind,.int .i64 se.part],2≤2,g2=g2,InR .i64 ((v2.length:Int) - 1),Qd Try.prog (.clos 117 [] []) (Vq se v2) (Xv se v2),(Qa se.part 0 ((v2.length:Int) - 1))=true,(se.kind == 1)=true,Qd Try.prog (.clos 119 [] []) (yZ k v2 se) (.bool (upB (Qo k) v2 se.part)),g2=g2,(upB (Qo k) v2 se.part)=false,false=false,(Qa se.part 0 ((v2.length:Int) - 1))=true,(se.kind == 2)=true,0≤se.part∧se.part<(v2.length:Int),g2=g2,g2=g2,((rowB v2).drop (0+(Int.toNat se.part)*1)).take 1=[.bool eb],eb=true,Qd Try.prog (z74_9 v3) [.int .i64 se.part] (.bool (Qx v3 se.part)),g3=g3,(Qx v3 se.part)=false,1≤1])
 (hr:AvLe (WM k1) res):G Try.prog E (Yf Try.prog) (Yp k l v2 v3 k1 g2 g3) :=
 Qb (n:=400) (evs:=[.b true,.ld (.agg [.int .i64 se.kind,.int .i64 se.part]),.v (Xv se v2),.b true,.b true,.v (.bool (upB (Qo k) v2 se.part)),.b false,.b false,.b true,.b true,.auto,.ld (.bool eb),.b true,.v (.bool (Qx v3 se.part)),.b false]) (obs:=_) hE Try.func74 Qf (by kernel_rfl) ho hr
theorem p74_1_8 (k:BKit) (l:(List Stp)) (v2:List Bool) (v3:List Int) (k1:Nat) (g2:Nat) (g3:Nat) (se:Stp) (eb:Bool) {E:Env} {res:AV} (hE:Qe Try.prog 74 res E) (ho:AllP [(decide ((k1:Int)<(l.length:Int)))=true,0≤(k1:Int)∧(k1:Int)<(l.length:Int),((Qv l).drop (0+(Int.toNat (k1:Int))*2)).take 2=[.int .i64 se.kind,.int .i64 se.part],2≤2,g2=g2,InR .i64 ((v2.length:Int) - 1),Qd Try.prog (.clos 117 [] []) (Vq se v2) (Xv se v2),(Qa se.part 0 ((v2.length:Int) - 1))=true,(se.kind == 1)=true,Qd Try.prog (.clos 119 [] []) (yZ k v2 se) (.bool (upB (Qo k) v2 se.part)),g2=g2,(upB (Qo k) v2 se.part)=false,false=false,(Qa se.part 0 ((v2.length:Int) - 1))=true,(se.kind == 2)=true,0≤se.part∧se.part<(v2.length:Int),g2=g2,g2=g2,((rowB v2).drop (0+(Int.toNat se.part)*1)).take 1=[.bool eb],eb=false,false=false,1≤1])
 (hr:AvLe (WM k1) res):G Try.prog E (Yf Try.prog) (Yp k l v2 v3 k1 g2 g3) :=
 Qb (n:=400) (evs:=[.b true,.ld (.agg [.int .i64 se.kind,.int .i64 se.part]),.v (Xv se v2),.b true,.b true,.v (.bool (upB (Qo k) v2 se.part)),.b false,.b false,.b true,.b true,.auto,.ld (.bool eb),.b false,.b false]) (obs:=_) hE Try.func74 Qf (by kernel_rfl) ho hr
theorem p74_1_9 (k:BKit) (l:(List Stp)) (v2:List Bool) (v3:List Int) (k1:Nat) (g2:Nat) (g3:Nat) (se:Stp) {E:Env} {res:AV} (hE:Qe Try.prog 74 res E) (ho:AllP [(decide ((k1:Int)<(l.length:Int)))=true,0≤(k1:Int)∧(k1:Int)<(l.length:Int),((Qv l).drop (0+(Int.toNat (k1:Int))*2)).take 2=[.int .i64 se.kind,.int .i64 se.part],2≤2,g2=g2,InR .i64 ((v2.length:Int) - 1),Qd Try.prog (.clos 117 [] []) (Vq se v2) (Xv se v2),(Qa se.part 0 ((v2.length:Int) - 1))=true,(se.kind == 1)=true,Qd Try.prog (.clos 119 [] []) (yZ k v2 se) (.bool (upB (Qo k) v2 se.part)),g2=g2,(upB (Qo k) v2 se.part)=false,false=false,(Qa se.part 0 ((v2.length:Int) - 1))=true,(se.kind == 2)=false,false=false,false=false,1≤1])
 (hr:AvLe (WM k1) res):G Try.prog E (Yf Try.prog) (Yp k l v2 v3 k1 g2 g3) :=
 Qb (n:=400) (evs:=[.b true,.ld (.agg [.int .i64 se.kind,.int .i64 se.part]),.v (Xv se v2),.b true,.b true,.v (.bool (upB (Qo k) v2 se.part)),.b false,.b false,.b true,.b false,.b false,.b false]) (obs:=_) hE Try.func74 Qf (by kernel_rfl) ho hr
theorem p74_1_10 (k:BKit) (l:(List Stp)) (v2:List Bool) (v3:List Int) (k1:Nat) (g2:Nat) (g3:Nat) (se:Stp) {E:Env} {res:AV} (hE:Qe Try.prog 74 res E) (ho:AllP [(decide ((k1:Int)<(l.length:Int)))=true,0≤(k1:Int)∧(k1:Int)<(l.length:Int),((Qv l).drop (0+(Int.toNat (k1:Int))*2)).take 2=[.int .i64 se.kind,.int .i64 se.part],2≤2,g2=g2,InR .i64 ((v2.length:Int) - 1),Qd Try.prog (.clos 117 [] []) (Vq se v2) (Xv se v2),(Qa se.part 0 ((v2.length:Int) - 1))=true,(se.kind == 1)=true,Qd Try.prog (.clos 119 [] []) (yZ k v2 se) (.bool (upB (Qo k) v2 se.part)),g2=g2,(upB (Qo k) v2 se.part)=false,false=false,(Qa se.part 0 ((v2.length:Int) - 1))=false,false=false,false=false,false=false,1≤1])
 (hr:AvLe (WM k1) res):G Try.prog E (Yf Try.prog) (Yp k l v2 v3 k1 g2 g3) :=
 Qb (n:=400) (evs:=[.b true,.ld (.agg [.int .i64 se.kind,.int .i64 se.part]),.v (Xv se v2),.b true,.b true,.v (.bool (upB (Qo k) v2 se.part)),.b false,.b false,.b false,.b false,.b false,.b false]) (obs:=_) hE Try.func74 Qf (by kernel_rfl) ho hr
theorem p74_1_11 (k:BKit) (l:(List Stp)) (v2:List Bool) (v3:List Int) (k1:Nat) (g2:Nat) (g3:Nat) (se:Stp) (eb:Bool) (e:Int) {E:Env} {rv:AV} (hE:Qe Try.prog 74 rv E) (ho:AllP [(decide ((k1:Int)<(l.length:Int)))=true,0≤(k1:Int)∧(k1:Int)<(l.length:Int),((Qv l).drop (0+(Int.toNat (k1:Int))*2)).take 2=[.int .i64 se.kind,.int .i64 se.part],2≤2,g2=g2,InR .i64 ((v2.length:Int) - 1),Qd Try.prog (.clos 117 [] []) (Vq se v2) (Xv se v2),(Qa se.part 0 ((v2.length:Int) - 1))=true,(se.kind == 1)=false,false=false,false=false,(Qa se.part 0 ((v2.length:Int) - 1))=true,(se.kind == 2)=true,0≤se.part∧se.part<(v2.length:Int),g2=g2,g2=g2,((rowB v2).drop (0+(Int.toNat se.part)*1)).take 1=[.bool eb],eb=true,Qd Try.prog (z74_9 v3) [.int .i64 se.part] (.bool (Qx v3 se.part)),g3=g3,(Qx v3 se.part)=true,0≤se.part∧se.part<(v3.length:Int),g3=g3,g3=g3,((rowI v3).drop (0+(Int.toNat se.part)*1)).take 1=[.int .i64 e],InR .i64 (e - 1),0≤se.part∧se.part<(v3.length:Int),g3=g3,((0+(Int.toNat se.part)*1)+1)≤(rowI v3).length,g3=g3,InR .i64 ((k1:Int)+1)])
 (hg:G Try.prog E (Yf Try.prog) ⟨(z74_5 g2 v2 k l k1),[⟨true,0,1,true,(WZ k),false⟩,⟨true,0,1,false,[.sl 3 g3 0 v3.length 1],false⟩,⟨true,g2,1,true,(rowB v2),true⟩,⟨true,g3,1,true,(Qw (rowI v3) (0+(Int.toNat se.part)*1) [.int .i64 (e - 1)]),true⟩]⟩):G Try.prog E (Yf Try.prog) (Yp k l v2 v3 k1 g2 g3) :=
 Qh (n:=400) (ds:=[]) (cs:=[]) (live:=[4,5,8,12,44,45,46]) (m:=4) (evs:=[.b true,.ld (.agg [.int .i64 se.kind,.int .i64 se.part]),.v (Xv se v2),.b true,.b false,.b false,.b false,.b true,.b true,.auto,.ld (.bool eb),.b true,.v (.bool (Qx v3 se.part)),.b true,.auto,.auto,.ld (.int .i64 e),.stop]) (obs:=_) hE.2.1 (hE.nogh _) Qf (by kernel_rfl) ho hg
theorem p74_1_12 (k:BKit) (l:(List Stp)) (v2:List Bool) (v3:List Int) (k1:Nat) (g2:Nat) (g3:Nat) (se:Stp) (eb:Bool) {E:Env} {res:AV} (hE:Qe Try.prog 74 res E) (ho:AllP [(decide ((k1:Int)<(l.length:Int)))=true,0≤(k1:Int)∧(k1:Int)<(l.length:Int),((Qv l).drop (0+(Int.toNat (k1:Int))*2)).take 2=[.int .i64 se.kind,.int .i64 se.part],2≤2,g2=g2,InR .i64 ((v2.length:Int) - 1),Qd Try.prog (.clos 117 [] []) (Vq se v2) (Xv se v2),(Qa se.part 0 ((v2.length:Int) - 1))=true,(se.kind == 1)=false,false=false,false=false,(Qa se.part 0 ((v2.length:Int) - 1))=true,(se.kind == 2)=true,0≤se.part∧se.part<(v2.length:Int),g2=g2,g2=g2,((rowB v2).drop (0+(Int.toNat se.part)*1)).take 1=[.bool eb],eb=true,Qd Try.prog (z74_9 v3) [.int .i64 se.part] (.bool (Qx v3 se.part)),g3=g3,(Qx v3 se.part)=false,1≤1])
 (hr:AvLe (WM k1) res):G Try.prog E (Yf Try.prog) (Yp k l v2 v3 k1 g2 g3) :=
 Qb (n:=400) (evs:=[.b true,.ld (.agg [.int .i64 se.kind,.int .i64 se.part]),.v (Xv se v2),.b true,.b false,.b false,.b false,.b true,.b true,.auto,.ld (.bool eb),.b true,.v (.bool (Qx v3 se.part)),.b false]) (obs:=_) hE Try.func74 Qf (by kernel_rfl) ho hr
theorem p74_1_13 (k:BKit) (l:(List Stp)) (v2:List Bool) (v3:List Int) (k1:Nat) (g2:Nat) (g3:Nat) (se:Stp) (eb:Bool) {E:Env} {res:AV} (hE:Qe Try.prog 74 res E) (ho:AllP [(decide ((k1:Int)<(l.length:Int)))=true,0≤(k1:Int)∧(k1:Int)<(l.length:Int),((Qv l).drop (0+(Int.toNat (k1:Int))*2)).take 2=[.int .i64 se.kind,.int .i64 se.part],2≤2,g2=g2,InR .i64 ((v2.length:Int) - 1),Qd Try.prog (.clos 117 [] []) (Vq se v2) (Xv se v2),(Qa se.part 0 ((v2.length:Int) - 1))=true,(se.kind == 1)=false,false=false,false=false,(Qa se.part 0 ((v2.length:Int) - 1))=true,(se.kind == 2)=true,0≤se.part∧se.part<(v2.length:Int),g2=g2,g2=g2,((rowB v2).drop (0+(Int.toNat se.part)*1)).take 1=[.bool eb],eb=false,false=false,1≤1])
 (hr:AvLe (WM k1) res):G Try.prog E (Yf Try.prog) (Yp k l v2 v3 k1 g2 g3) :=
 Qb (n:=400) (evs:=[.b true,.ld (.agg [.int .i64 se.kind,.int .i64 se.part]),.v (Xv se v2),.b true,.b false,.b false,.b false,.b true,.b true,.auto,.ld (.bool eb),.b false,.b false]) (obs:=_) hE Try.func74 Qf (by kernel_rfl) ho hr
theorem p74_1_14 (k:BKit) (l:(List Stp)) (v2:List Bool) (v3:List Int) (k1:Nat) (g2:Nat) (g3:Nat) (se:Stp) {E:Env} {res:AV} (hE:Qe Try.prog 74 res E) (ho:AllP [(decide ((k1:Int)<(l.length:Int)))=true,0≤(k1:Int)∧(k1:Int)<(l.length:Int),((Qv l).drop (0+(Int.toNat (k1:Int))*2)).take 2=[.int .i64 se.kind,.int .i64 se.part],2≤2,g2=g2,InR .i64 ((v2.length:Int) - 1),Qd Try.prog (.clos 117 [] []) (Vq se v2) (Xv se v2),(Qa se.part 0 ((v2.length:Int) - 1))=true,(se.kind == 1)=false,false=false,false=false,(Qa se.part 0 ((v2.length:Int) - 1))=true,(se.kind == 2)=false,false=false,false=false,1≤1])
 (hr:AvLe (WM k1) res):G Try.prog E (Yf Try.prog) (Yp k l v2 v3 k1 g2 g3) :=
 Qb (n:=400) (evs:=[.b true,.ld (.agg [.int .i64 se.kind,.int .i64 se.part]),.v (Xv se v2),.b true,.b false,.b false,.b false,.b true,.b false,.b false,.b false]) (obs:=_) hE Try.func74 Qf (by kernel_rfl) ho hr
theorem p74_1_15 (k:BKit) (l:(List Stp)) (v2:List Bool) (v3:List Int) (k1:Nat) (g2:Nat) (g3:Nat) (se:Stp) {E:Env} {res:AV} (hE:Qe Try.prog 74 res E) (ho:AllP [(decide ((k1:Int)<(l.length:Int)))=true,0≤(k1:Int)∧(k1:Int)<(l.length:Int),((Qv l).drop (0+(Int.toNat (k1:Int))*2)).take 2=[.int .i64 se.kind,.int .i64 se.part],2≤2,g2=g2,InR .i64 ((v2.length:Int) - 1),Qd Try.prog (.clos 117 [] []) (Vq se v2) (Xv se v2),(Qa se.part 0 ((v2.length:Int) - 1))=true,(se.kind == 1)=false,false=false,false=false,(Qa se.part 0 ((v2.length:Int) - 1))=false,false=false,false=false,false=false,1≤1])
 (hr:AvLe (WM k1) res):G Try.prog E (Yf Try.prog) (Yp k l v2 v3 k1 g2 g3) :=
 Qb (n:=400) (evs:=[.b true,.ld (.agg [.int .i64 se.kind,.int .i64 se.part]),.v (Xv se v2),.b true,.b false,.b false,.b false,.b false,.b false,.b false,.b false]) (obs:=_) hE Try.func74 Qf (by kernel_rfl) ho hr
theorem p74_1_16 (k:BKit) (l:(List Stp)) (v2:List Bool) (v3:List Int) (k1:Nat) (g2:Nat) (g3:Nat) (se:Stp) (eb:Bool) (e:Int) {E:Env} {rv:AV} (hE:Qe Try.prog 74 rv E) (ho:AllP [(decide ((k1:Int)<(l.length:Int)))=true,0≤(k1:Int)∧(k1:Int)<(l.length:Int),((Qv l).drop (0+(Int.toNat (k1:Int))*2)).take 2=[.int .i64 se.kind,.int .i64 se.part],2≤2,g2=g2,InR .i64 ((v2.length:Int) - 1),Qd Try.prog (.clos 117 [] []) (Vq se v2) (Xv se v2),(Qa se.part 0 ((v2.length:Int) - 1))=false,false=false,false=false,false=false,(Qa se.part 0 ((v2.length:Int) - 1))=true,(se.kind == 2)=true,0≤se.part∧se.part<(v2.length:Int),g2=g2,g2=g2,((rowB v2).drop (0+(Int.toNat se.part)*1)).take 1=[.bool eb],eb=true,Qd Try.prog (z74_9 v3) [.int .i64 se.part] (.bool (Qx v3 se.part)),g3=g3,(Qx v3 se.part)=true,0≤se.part∧se.part<(v3.length:Int),g3=g3,g3=g3,((rowI v3).drop (0+(Int.toNat se.part)*1)).take 1=[.int .i64 e],InR .i64 (e - 1),0≤se.part∧se.part<(v3.length:Int),g3=g3,((0+(Int.toNat se.part)*1)+1)≤(rowI v3).length,g3=g3,InR .i64 ((k1:Int)+1)])
 (hg:G Try.prog E (Yf Try.prog) ⟨(z74_5 g2 v2 k l k1),[⟨true,0,1,true,(WZ k),false⟩,⟨true,0,1,false,[.sl 3 g3 0 v3.length 1],false⟩,⟨true,g2,1,true,(rowB v2),true⟩,⟨true,g3,1,true,(Qw (rowI v3) (0+(Int.toNat se.part)*1) [.int .i64 (e - 1)]),true⟩]⟩):G Try.prog E (Yf Try.prog) (Yp k l v2 v3 k1 g2 g3) :=
 Qh (n:=400) (ds:=[]) (cs:=[]) (live:=[4,5,8,12,44,45,46]) (m:=4) (evs:=[.b true,.ld (.agg [.int .i64 se.kind,.int .i64 se.part]),.v (Xv se v2),.b false,.b false,.b false,.b false,.b true,.b true,.auto,.ld (.bool eb),.b true,.v (.bool (Qx v3 se.part)),.b true,.auto,.auto,.ld (.int .i64 e),.stop]) (obs:=_) hE.2.1 (hE.nogh _) Qf (by kernel_rfl) ho hg
theorem p74_1_17 (k:BKit) (l:(List Stp)) (v2:List Bool) (v3:List Int) (k1:Nat) (g2:Nat) (g3:Nat) (se:Stp) (eb:Bool) {E:Env} {res:AV} (hE:Qe Try.prog 74 res E) (ho:AllP [(decide ((k1:Int)<(l.length:Int)))=true,0≤(k1:Int)∧(k1:Int)<(l.length:Int),((Qv l).drop (0+(Int.toNat (k1:Int))*2)).take 2=[.int .i64 se.kind,.int .i64 se.part],2≤2,g2=g2,InR .i64 ((v2.length:Int) - 1),Qd Try.prog (.clos 117 [] []) (Vq se v2) (Xv se v2),(Qa se.part 0 ((v2.length:Int) - 1))=false,false=false,false=false,false=false,(Qa se.part 0 ((v2.length:Int) - 1))=true,(se.kind == 2)=true,0≤se.part∧se.part<(v2.length:Int),g2=g2,g2=g2,((rowB v2).drop (0+(Int.toNat se.part)*1)).take 1=[.bool eb],eb=true,Qd Try.prog (z74_9 v3) [.int .i64 se.part] (.bool (Qx v3 se.part)),g3=g3,(Qx v3 se.part)=false,1≤1])
 (hr:AvLe (WM k1) res):G Try.prog E (Yf Try.prog) (Yp k l v2 v3 k1 g2 g3) :=
 Qb (n:=400) (evs:=[.b true,.ld (.agg [.int .i64 se.kind,.int .i64 se.part]),.v (Xv se v2),.b false,.b false,.b false,.b false,.b true,.b true,.auto,.ld (.bool eb),.b true,.v (.bool (Qx v3 se.part)),.b false]) (obs:=_) hE Try.func74 Qf (by kernel_rfl) ho hr
theorem p74_1_18 (k:BKit) (l:(List Stp)) (v2:List Bool) (v3:List Int) (k1:Nat) (g2:Nat) (g3:Nat) (se:Stp) (eb:Bool) {E:Env} {res:AV} (hE:Qe Try.prog 74 res E) (ho:AllP [(decide ((k1:Int)<(l.length:Int)))=true,0≤(k1:Int)∧(k1:Int)<(l.length:Int),((Qv l).drop (0+(Int.toNat (k1:Int))*2)).take 2=[.int .i64 se.kind,.int .i64 se.part],2≤2,g2=g2,InR .i64 ((v2.length:Int) - 1),Qd Try.prog (.clos 117 [] []) (Vq se v2) (Xv se v2),(Qa se.part 0 ((v2.length:Int) - 1))=false,false=false,false=false,false=false,(Qa se.part 0 ((v2.length:Int) - 1))=true,(se.kind == 2)=true,0≤se.part∧se.part<(v2.length:Int),g2=g2,g2=g2,((rowB v2).drop (0+(Int.toNat se.part)*1)).take 1=[.bool eb],eb=false,false=false,1≤1])
 (hr:AvLe (WM k1) res):G Try.prog E (Yf Try.prog) (Yp k l v2 v3 k1 g2 g3) :=
 Qb (n:=400) (evs:=[.b true,.ld (.agg [.int .i64 se.kind,.int .i64 se.part]),.v (Xv se v2),.b false,.b false,.b false,.b false,.b true,.b true,.auto,.ld (.bool eb),.b false,.b false]) (obs:=_) hE Try.func74 Qf (by kernel_rfl) ho hr
theorem p74_1_19 (k:BKit) (l:(List Stp)) (v2:List Bool) (v3:List Int) (k1:Nat) (g2:Nat) (g3:Nat) (se:Stp) {E:Env} {res:AV} (hE:Qe Try.prog 74 res E) (ho:AllP [(decide ((k1:Int)<(l.length:Int)))=true,0≤(k1:Int)∧(k1:Int)<(l.length:Int),((Qv l).drop (0+(Int.toNat (k1:Int))*2)).take 2=[.int .i64 se.kind,.int .i64 se.part],2≤2,g2=g2,InR .i64 ((v2.length:Int) - 1),Qd Try.prog (.clos 117 [] []) (Vq se v2) (Xv se v2),(Qa se.part 0 ((v2.length:Int) - 1))=false,false=false,false=false,false=false,(Qa se.part 0 ((v2.length:Int) - 1))=true,(se.kind == 2)=false,false=false,false=false,1≤1])
 (hr:AvLe (WM k1) res):G Try.prog E (Yf Try.prog) (Yp k l v2 v3 k1 g2 g3) :=
 Qb (n:=400) (evs:=[.b true,.ld (.agg [.int .i64 se.kind,.int .i64 se.part]),.v (Xv se v2),.b false,.b false,.b false,.b false,.b true,.b false,.b false,.b false]) (obs:=_) hE Try.func74 Qf (by kernel_rfl) ho hr
theorem p74_1_20 (k:BKit) (l:(List Stp)) (v2:List Bool) (v3:List Int) (k1:Nat) (g2:Nat) (g3:Nat) (se:Stp) {E:Env} {res:AV} (hE:Qe Try.prog 74 res E) (ho:AllP [(decide ((k1:Int)<(l.length:Int)))=true,0≤(k1:Int)∧(k1:Int)<(l.length:Int),((Qv l).drop (0+(Int.toNat (k1:Int))*2)).take 2=[.int .i64 se.kind,.int .i64 se.part],2≤2,g2=g2,InR .i64 ((v2.length:Int) - 1),Qd Try.prog (.clos 117 [] []) (Vq se v2) (Xv se v2),(Qa se.part 0 ((v2.length:Int) - 1))=false,false=false,false=false,false=false,(Qa se.part 0 ((v2.length:Int) - 1))=false,false=false,false=false,false=false,1≤1])
 (hr:AvLe (WM k1) res):G Try.prog E (Yf Try.prog) (Yp k l v2 v3 k1 g2 g3) :=
 Qb (n:=400) (evs:=[.b true,.ld (.agg [.int .i64 se.kind,.int .i64 se.part]),.v (Xv se v2),.b false,.b false,.b false,.b false,.b false,.b false,.b false,.b false]) (obs:=_) hE Try.func74 Qf (by kernel_rfl) ho hr
theorem p74_1_21 (k:BKit) (l:(List Stp)) (v2:List Bool) (v3:List Int) (k1:Nat) (g2:Nat) (g3:Nat) {E:Env} {res:AV} (hE:Qe Try.prog 74 res E) (ho:AllP [(decide ((k1:Int)<(l.length:Int)))=false,1≤1,g2=g2,g3=g3])
 (hr:AvLe (.tup [.rsl (rowB v2) 0 v2.length,.rsl (rowI v3) 0 v3.length,.int .i64 0,.int .i64 0]) res):G Try.prog E (Yf Try.prog) (Yp k l v2 v3 k1 g2 g3) :=
 Qb (n:=400) (evs:=[.b false]) (obs:=_) hE Try.func74 Qf (by kernel_rfl) ho hr
theorem f74W1 (k:BKit) (l:(List Stp)) (v2:List Bool) (v3:List Int) (k1:Nat) {E:Env} {rv:((List Bool) × (List Int) × Int × Int)} (hE:Qe Try.prog 74 (.tup [.rsl (rowB rv.1) 0 rv.1.length,.rsl (rowI rv.2.1) 0 rv.2.1.length,.int .i64 rv.2.2.1,.int .i64 rv.2.2.2]) E)
 (h:(((k1:Int)<(l.length:Int)→(∃ se:Stp,l[k1]?=some se∧((I6 ((v2.length:Int) - 1))∧(((Qa se.part 0 ((v2.length:Int) - 1))=true→((se.kind=1→((YardOk (Qo k)∧v2.length=(Qo k).k.parts.length∧(0≤se.part∧se.part<(v2.length:Int)))∧(((upB (Qo k) v2 se.part)=true→(0≤se.part∧(∃ be:BPart,(((Qo k).k).parts)[Int.toNat se.part]?=some be∧(((∀ x ∈ be.needs,0≤x∧x<(v3.length:Int))∧be.needs.length≤9223372036854775807)∧(((be.needs.any (Qx v3))=false→(0≤se.part∧(∃ eb:Bool,v2[Int.toNat se.part]?=some eb∧((I6 ((k1:Int)+1))∧f74G1 E k l (v2.set (Int.toNat se.part) true) v3 (k1+1)))))∧((be.needs.any (Qx v3))=true→(((Qa se.part 0 ((v2.length:Int) - 1))=true→((se.kind=2→(0≤se.part∧(∃ eb:Bool,v2[Int.toNat se.part]?=some eb∧((eb=true→((0≤se.part∧se.part<(v3.length:Int))∧(((Qx v3 se.part)=true→(0≤se.part∧(∃ e:Int,v3[Int.toNat se.part]?=some e∧((I6 (e - 1))∧((I6 ((k1:Int)+1))∧f74G1 E k l v2 (v3.set (Int.toNat se.part) (e - 1)) (k1+1))))))∧((Qx v3 se.part)=false→rv=(([]:List Bool),([]:List Int),(k1:Int),81)))))∧(eb=false→rv=(([]:List Bool),([]:List Int),(k1:Int),81))))))∧(¬ (se.kind=2)→rv=(([]:List Bool),([]:List Int),(k1:Int),81))))∧((Qa se.part 0 ((v2.length:Int) - 1))=false→rv=(([]:List Bool),([]:List Int),(k1:Int),81)))))))))∧((upB (Qo k) v2 se.part)=false→(((Qa se.part 0 ((v2.length:Int) - 1))=true→((se.kind=2→(0≤se.part∧(∃ eb:Bool,v2[Int.toNat se.part]?=some eb∧((eb=true→((0≤se.part∧se.part<(v3.length:Int))∧(((Qx v3 se.part)=true→(0≤se.part∧(∃ e:Int,v3[Int.toNat se.part]?=some e∧((I6 (e - 1))∧((I6 ((k1:Int)+1))∧f74G1 E k l v2 (v3.set (Int.toNat se.part) (e - 1)) (k1+1))))))∧((Qx v3 se.part)=false→rv=(([]:List Bool),([]:List Int),(k1:Int),81)))))∧(eb=false→rv=(([]:List Bool),([]:List Int),(k1:Int),81))))))∧(¬ (se.kind=2)→rv=(([]:List Bool),([]:List Int),(k1:Int),81))))∧((Qa se.part 0 ((v2.length:Int) - 1))=false→rv=(([]:List Bool),([]:List Int),(k1:Int),81)))))))∧(¬ (se.kind=1)→(((Qa se.part 0 ((v2.length:Int) - 1))=true→((se.kind=2→(0≤se.part∧(∃ eb:Bool,v2[Int.toNat se.part]?=some eb∧((eb=true→((0≤se.part∧se.part<(v3.length:Int))∧(((Qx v3 se.part)=true→(0≤se.part∧(∃ e:Int,v3[Int.toNat se.part]?=some e∧((I6 (e - 1))∧((I6 ((k1:Int)+1))∧f74G1 E k l v2 (v3.set (Int.toNat se.part) (e - 1)) (k1+1))))))∧((Qx v3 se.part)=false→rv=(([]:List Bool),([]:List Int),(k1:Int),81)))))∧(eb=false→rv=(([]:List Bool),([]:List Int),(k1:Int),81))))))∧(¬ (se.kind=2)→rv=(([]:List Bool),([]:List Int),(k1:Int),81))))∧((Qa se.part 0 ((v2.length:Int) - 1))=false→rv=(([]:List Bool),([]:List Int),(k1:Int),81))))))∧((Qa se.part 0 ((v2.length:Int) - 1))=false→(((Qa se.part 0 ((v2.length:Int) - 1))=true→((se.kind=2→(0≤se.part∧(∃ eb:Bool,v2[Int.toNat se.part]?=some eb∧((eb=true→((0≤se.part∧se.part<(v3.length:Int))∧(((Qx v3 se.part)=true→(0≤se.part∧(∃ e:Int,v3[Int.toNat se.part]?=some e∧((I6 (e - 1))∧((I6 ((k1:Int)+1))∧f74G1 E k l v2 (v3.set (Int.toNat se.part) (e - 1)) (k1+1))))))∧((Qx v3 se.part)=false→rv=(([]:List Bool),([]:List Int),(k1:Int),81)))))∧(eb=false→rv=(([]:List Bool),([]:List Int),(k1:Int),81))))))∧(¬ (se.kind=2)→rv=(([]:List Bool),([]:List Int),(k1:Int),81))))∧((Qa se.part 0 ((v2.length:Int) - 1))=false→rv=(([]:List Bool),([]:List Int),(k1:Int),81))))))))∧(¬ ((k1:Int)<(l.length:Int))→rv=(v2,v3,0,0)))):f74G1 E k l v2 v3 k1:=by
 intro g2 g3
 rcases bft (decide ((k1:Int)<(l.length:Int))) with hc0 | hc0
 · have h:=h.1 (odt hc0)
   obtain ⟨se,h1,h⟩:=h
   obtain ⟨q6_1,h⟩:=h
   rcases bft (Qa se.part 0 ((v2.length:Int) - 1)) with hc1 | hc1
   · have h:=h.1 hc1
     rcases bft (se.kind == 1) with hc2 | hc2
     · have h:=h.1 (eq_of_beq hc2)
       obtain ⟨h2,h⟩:=h
       rcases bft (upB (Qo k) v2 se.part) with hc3 | hc3
       · have h:=h.1 hc3
         obtain ⟨h4,h⟩:=h
         obtain ⟨be,h3,h⟩:=h
         obtain ⟨h5,h⟩:=h
         rcases bft (!(be.needs.any (Qx v3))) with hc4 | hc4
         · have h:=h.1 (bnT hc4)
           obtain ⟨h7,h⟩:=h
           obtain ⟨eb,h6,h⟩:=h
           obtain ⟨q24_5,h⟩:=h
           refine p74_1_0 k l v2 v3 k1 g2 g3 se be eb hE ⟨hc0,(Qn h1),(rp cStp 2 0 2 h1),(by decide),rfl,q6_1,(u117 (QC se.part 0 ((v2.length:Int) - 1))),hc1,hc2,(u119 (Kf (Qo k) v2 se.part h2)),rfl,hc3,(Qj h4 h3),(rp cBp 4 3 1 h3),(Qi Try.func76 (by kernel_rfl) KO (Yv be.needs v3 h5)),rfl,hc4,(Qj h7 h6),rfl,(rf cB 1 0 1 h6),rfl,q24_5,trivial⟩ ?_
           have h:=(h g2 g3)
           simp only [Yp,List.length_set] at h
           rw [(show Qw (rowB v2) (0+(Int.toNat se.part)*1) [.bool true]=rowB (v2.set (Int.toNat se.part) true) from QJ cB (s:=1) (k:=0) (fun _=>rfl) h6 rfl (by first | decide | simp))]
           exact h
         · have h:=h.2 (bnF hc4)
           rcases bft (Qa se.part 0 ((v2.length:Int) - 1)) with hc5 | hc5
           · have h:=h.1 hc5
             rcases bft (se.kind == 2) with hc6 | hc6
             · have h:=h.1 (eq_of_beq hc6)
               obtain ⟨h7,h⟩:=h
               obtain ⟨eb,h6,h⟩:=h
               rcases bft eb with hc7 | hc7
               · have h:=h.1 hc7
                 obtain ⟨h8,h⟩:=h
                 rcases bft (Qx v3 se.part) with hc8 | hc8
                 · have h:=h.1 hc8
                   obtain ⟨h10,h⟩:=h
                   obtain ⟨e,h9,h⟩:=h
                   obtain ⟨q35_9,h⟩:=h
                   obtain ⟨q40_9,h⟩:=h
                   refine p74_1_1 k l v2 v3 k1 g2 g3 se be eb e hE ⟨hc0,(Qn h1),(rp cStp 2 0 2 h1),(by decide),rfl,q6_1,(u117 (QC se.part 0 ((v2.length:Int) - 1))),hc1,hc2,(u119 (Kf (Qo k) v2 se.part h2)),rfl,hc3,(Qj h4 h3),(rp cBp 4 3 1 h3),(Qi Try.func76 (by kernel_rfl) KO (Yv be.needs v3 h5)),rfl,hc4,hc5,hc6,(Qj h7 h6),rfl,rfl,(rp cB 1 0 1 h6),hc7,(u139 (Yy se.part v3 h8)),rfl,hc8,(Qj h10 h9),rfl,rfl,(rp cI 1 0 1 h9),q35_9,(Qj h10 h9),rfl,(rf cI 1 0 1 h9),rfl,q40_9,trivial⟩ ?_
                   have h:=(h g2 g3)
                   simp only [Yp,List.length_set] at h
                   rw [(show Qw (rowI v3) (0+(Int.toNat se.part)*1) [.int .i64 (e - 1)]=rowI (v3.set (Int.toNat se.part) (e - 1)) from QJ cI (s:=1) (k:=0) (fun _=>rfl) h9 rfl (by first | decide | simp))]
                   exact h
                 · have h:=h.2 hc8
                   exact p74_1_2 k l v2 v3 k1 g2 g3 se be eb hE ⟨hc0,(Qn h1),(rp cStp 2 0 2 h1),(by decide),rfl,q6_1,(u117 (QC se.part 0 ((v2.length:Int) - 1))),hc1,hc2,(u119 (Kf (Qo k) v2 se.part h2)),rfl,hc3,(Qj h4 h3),(rp cBp 4 3 1 h3),(Qi Try.func76 (by kernel_rfl) KO (Yv be.needs v3 h5)),rfl,hc4,hc5,hc6,(Qj h7 h6),rfl,rfl,(rp cB 1 0 1 h6),hc7,(u139 (Yy se.part v3 h8)),rfl,hc8,(by decide),trivial⟩ (by rw [h]; exact (XG ⟨QN,⟨QN,⟨AvLe.of_eq rfl,⟨AvLe.of_eq rfl,trivial⟩⟩⟩⟩))
               · have h:=h.2 hc7
                 exact p74_1_3 k l v2 v3 k1 g2 g3 se be eb hE ⟨hc0,(Qn h1),(rp cStp 2 0 2 h1),(by decide),rfl,q6_1,(u117 (QC se.part 0 ((v2.length:Int) - 1))),hc1,hc2,(u119 (Kf (Qo k) v2 se.part h2)),rfl,hc3,(Qj h4 h3),(rp cBp 4 3 1 h3),(Qi Try.func76 (by kernel_rfl) KO (Yv be.needs v3 h5)),rfl,hc4,hc5,hc6,(Qj h7 h6),rfl,rfl,(rp cB 1 0 1 h6),hc7,rfl,(by decide),trivial⟩ (by rw [h]; exact (XG ⟨QN,⟨QN,⟨AvLe.of_eq rfl,⟨AvLe.of_eq rfl,trivial⟩⟩⟩⟩))
             · have h:=h.2 (ne_of_beq_false hc6)
               exact p74_1_4 k l v2 v3 k1 g2 g3 se be hE ⟨hc0,(Qn h1),(rp cStp 2 0 2 h1),(by decide),rfl,q6_1,(u117 (QC se.part 0 ((v2.length:Int) - 1))),hc1,hc2,(u119 (Kf (Qo k) v2 se.part h2)),rfl,hc3,(Qj h4 h3),(rp cBp 4 3 1 h3),(Qi Try.func76 (by kernel_rfl) KO (Yv be.needs v3 h5)),rfl,hc4,hc5,hc6,rfl,rfl,(by decide),trivial⟩ (by rw [h]; exact (XG ⟨QN,⟨QN,⟨AvLe.of_eq rfl,⟨AvLe.of_eq rfl,trivial⟩⟩⟩⟩))
           · have h:=h.2 hc5
             exact p74_1_5 k l v2 v3 k1 g2 g3 se be hE ⟨hc0,(Qn h1),(rp cStp 2 0 2 h1),(by decide),rfl,q6_1,(u117 (QC se.part 0 ((v2.length:Int) - 1))),hc1,hc2,(u119 (Kf (Qo k) v2 se.part h2)),rfl,hc3,(Qj h4 h3),(rp cBp 4 3 1 h3),(Qi Try.func76 (by kernel_rfl) KO (Yv be.needs v3 h5)),rfl,hc4,hc5,rfl,rfl,rfl,(by decide),trivial⟩ (by rw [h]; exact (XG ⟨QN,⟨QN,⟨AvLe.of_eq rfl,⟨AvLe.of_eq rfl,trivial⟩⟩⟩⟩))
       · have h:=h.2 hc3
         rcases bft (Qa se.part 0 ((v2.length:Int) - 1)) with hc4 | hc4
         · have h:=h.1 hc4
           rcases bft (se.kind == 2) with hc5 | hc5
           · have h:=h.1 (eq_of_beq hc5)
             obtain ⟨h4,h⟩:=h
             obtain ⟨eb,h3,h⟩:=h
             rcases bft eb with hc6 | hc6
             · have h:=h.1 hc6
               obtain ⟨h5,h⟩:=h
               rcases bft (Qx v3 se.part) with hc7 | hc7
               · have h:=h.1 hc7
                 obtain ⟨h7,h⟩:=h
                 obtain ⟨e,h6,h⟩:=h
                 obtain ⟨q30_8,h⟩:=h
                 obtain ⟨q35_8,h⟩:=h
                 refine p74_1_6 k l v2 v3 k1 g2 g3 se eb e hE ⟨hc0,(Qn h1),(rp cStp 2 0 2 h1),(by decide),rfl,q6_1,(u117 (QC se.part 0 ((v2.length:Int) - 1))),hc1,hc2,(u119 (Kf (Qo k) v2 se.part h2)),rfl,hc3,rfl,hc4,hc5,(Qj h4 h3),rfl,rfl,(rp cB 1 0 1 h3),hc6,(u139 (Yy se.part v3 h5)),rfl,hc7,(Qj h7 h6),rfl,rfl,(rp cI 1 0 1 h6),q30_8,(Qj h7 h6),rfl,(rf cI 1 0 1 h6),rfl,q35_8,trivial⟩ ?_
                 have h:=(h g2 g3)
                 simp only [Yp,List.length_set] at h
                 rw [(show Qw (rowI v3) (0+(Int.toNat se.part)*1) [.int .i64 (e - 1)]=rowI (v3.set (Int.toNat se.part) (e - 1)) from QJ cI (s:=1) (k:=0) (fun _=>rfl) h6 rfl (by first | decide | simp))]
                 exact h
               · have h:=h.2 hc7
                 exact p74_1_7 k l v2 v3 k1 g2 g3 se eb hE ⟨hc0,(Qn h1),(rp cStp 2 0 2 h1),(by decide),rfl,q6_1,(u117 (QC se.part 0 ((v2.length:Int) - 1))),hc1,hc2,(u119 (Kf (Qo k) v2 se.part h2)),rfl,hc3,rfl,hc4,hc5,(Qj h4 h3),rfl,rfl,(rp cB 1 0 1 h3),hc6,(u139 (Yy se.part v3 h5)),rfl,hc7,(by decide),trivial⟩ (by rw [h]; exact (XG ⟨QN,⟨QN,⟨AvLe.of_eq rfl,⟨AvLe.of_eq rfl,trivial⟩⟩⟩⟩))
             · have h:=h.2 hc6
               exact p74_1_8 k l v2 v3 k1 g2 g3 se eb hE ⟨hc0,(Qn h1),(rp cStp 2 0 2 h1),(by decide),rfl,q6_1,(u117 (QC se.part 0 ((v2.length:Int) - 1))),hc1,hc2,(u119 (Kf (Qo k) v2 se.part h2)),rfl,hc3,rfl,hc4,hc5,(Qj h4 h3),rfl,rfl,(rp cB 1 0 1 h3),hc6,rfl,(by decide),trivial⟩ (by rw [h]; exact (XG ⟨QN,⟨QN,⟨AvLe.of_eq rfl,⟨AvLe.of_eq rfl,trivial⟩⟩⟩⟩))
           · have h:=h.2 (ne_of_beq_false hc5)
             exact p74_1_9 k l v2 v3 k1 g2 g3 se hE ⟨hc0,(Qn h1),(rp cStp 2 0 2 h1),(by decide),rfl,q6_1,(u117 (QC se.part 0 ((v2.length:Int) - 1))),hc1,hc2,(u119 (Kf (Qo k) v2 se.part h2)),rfl,hc3,rfl,hc4,hc5,rfl,rfl,(by decide),trivial⟩ (by rw [h]; exact (XG ⟨QN,⟨QN,⟨AvLe.of_eq rfl,⟨AvLe.of_eq rfl,trivial⟩⟩⟩⟩))
         · have h:=h.2 hc4
           exact p74_1_10 k l v2 v3 k1 g2 g3 se hE ⟨hc0,(Qn h1),(rp cStp 2 0 2 h1),(by decide),rfl,q6_1,(u117 (QC se.part 0 ((v2.length:Int) - 1))),hc1,hc2,(u119 (Kf (Qo k) v2 se.part h2)),rfl,hc3,rfl,hc4,rfl,rfl,rfl,(by decide),trivial⟩ (by rw [h]; exact (XG ⟨QN,⟨QN,⟨AvLe.of_eq rfl,⟨AvLe.of_eq rfl,trivial⟩⟩⟩⟩))
     · have h:=h.2 (ne_of_beq_false hc2)
       rcases bft (Qa se.part 0 ((v2.length:Int) - 1)) with hc3 | hc3
       · have h:=h.1 hc3
         rcases bft (se.kind == 2) with hc4 | hc4
         · have h:=h.1 (eq_of_beq hc4)
           obtain ⟨h3,h⟩:=h
           obtain ⟨eb,h2,h⟩:=h
           rcases bft eb with hc5 | hc5
           · have h:=h.1 hc5
             obtain ⟨h4,h⟩:=h
             rcases bft (Qx v3 se.part) with hc6 | hc6
             · have h:=h.1 hc6
               obtain ⟨h6,h⟩:=h
               obtain ⟨e,h5,h⟩:=h
               obtain ⟨q28_7,h⟩:=h
               obtain ⟨q33_7,h⟩:=h
               refine p74_1_11 k l v2 v3 k1 g2 g3 se eb e hE ⟨hc0,(Qn h1),(rp cStp 2 0 2 h1),(by decide),rfl,q6_1,(u117 (QC se.part 0 ((v2.length:Int) - 1))),hc1,hc2,rfl,rfl,hc3,hc4,(Qj h3 h2),rfl,rfl,(rp cB 1 0 1 h2),hc5,(u139 (Yy se.part v3 h4)),rfl,hc6,(Qj h6 h5),rfl,rfl,(rp cI 1 0 1 h5),q28_7,(Qj h6 h5),rfl,(rf cI 1 0 1 h5),rfl,q33_7,trivial⟩ ?_
               have h:=(h g2 g3)
               simp only [Yp,List.length_set] at h
               rw [(show Qw (rowI v3) (0+(Int.toNat se.part)*1) [.int .i64 (e - 1)]=rowI (v3.set (Int.toNat se.part) (e - 1)) from QJ cI (s:=1) (k:=0) (fun _=>rfl) h5 rfl (by first | decide | simp))]
               exact h
             · have h:=h.2 hc6
               exact p74_1_12 k l v2 v3 k1 g2 g3 se eb hE ⟨hc0,(Qn h1),(rp cStp 2 0 2 h1),(by decide),rfl,q6_1,(u117 (QC se.part 0 ((v2.length:Int) - 1))),hc1,hc2,rfl,rfl,hc3,hc4,(Qj h3 h2),rfl,rfl,(rp cB 1 0 1 h2),hc5,(u139 (Yy se.part v3 h4)),rfl,hc6,(by decide),trivial⟩ (by rw [h]; exact (XG ⟨QN,⟨QN,⟨AvLe.of_eq rfl,⟨AvLe.of_eq rfl,trivial⟩⟩⟩⟩))
           · have h:=h.2 hc5
             exact p74_1_13 k l v2 v3 k1 g2 g3 se eb hE ⟨hc0,(Qn h1),(rp cStp 2 0 2 h1),(by decide),rfl,q6_1,(u117 (QC se.part 0 ((v2.length:Int) - 1))),hc1,hc2,rfl,rfl,hc3,hc4,(Qj h3 h2),rfl,rfl,(rp cB 1 0 1 h2),hc5,rfl,(by decide),trivial⟩ (by rw [h]; exact (XG ⟨QN,⟨QN,⟨AvLe.of_eq rfl,⟨AvLe.of_eq rfl,trivial⟩⟩⟩⟩))
         · have h:=h.2 (ne_of_beq_false hc4)
           exact p74_1_14 k l v2 v3 k1 g2 g3 se hE ⟨hc0,(Qn h1),(rp cStp 2 0 2 h1),(by decide),rfl,q6_1,(u117 (QC se.part 0 ((v2.length:Int) - 1))),hc1,hc2,rfl,rfl,hc3,hc4,rfl,rfl,(by decide),trivial⟩ (by rw [h]; exact (XG ⟨QN,⟨QN,⟨AvLe.of_eq rfl,⟨AvLe.of_eq rfl,trivial⟩⟩⟩⟩))
       · have h:=h.2 hc3
         exact p74_1_15 k l v2 v3 k1 g2 g3 se hE ⟨hc0,(Qn h1),(rp cStp 2 0 2 h1),(by decide),rfl,q6_1,(u117 (QC se.part 0 ((v2.length:Int) - 1))),hc1,hc2,rfl,rfl,hc3,rfl,rfl,rfl,(by decide),trivial⟩ (by rw [h]; exact (XG ⟨QN,⟨QN,⟨AvLe.of_eq rfl,⟨AvLe.of_eq rfl,trivial⟩⟩⟩⟩))
   · have h:=h.2 hc1
     rcases bft (Qa se.part 0 ((v2.length:Int) - 1)) with hc2 | hc2
     · have h:=h.1 hc2
       rcases bft (se.kind == 2) with hc3 | hc3
       · have h:=h.1 (eq_of_beq hc3)
         obtain ⟨h3,h⟩:=h
         obtain ⟨eb,h2,h⟩:=h
         rcases bft eb with hc4 | hc4
         · have h:=h.1 hc4
           obtain ⟨h4,h⟩:=h
           rcases bft (Qx v3 se.part) with hc5 | hc5
           · have h:=h.1 hc5
             obtain ⟨h6,h⟩:=h
             obtain ⟨e,h5,h⟩:=h
             obtain ⟨q28_6,h⟩:=h
             obtain ⟨q33_6,h⟩:=h
             refine p74_1_16 k l v2 v3 k1 g2 g3 se eb e hE ⟨hc0,(Qn h1),(rp cStp 2 0 2 h1),(by decide),rfl,q6_1,(u117 (QC se.part 0 ((v2.length:Int) - 1))),hc1,rfl,rfl,rfl,hc2,hc3,(Qj h3 h2),rfl,rfl,(rp cB 1 0 1 h2),hc4,(u139 (Yy se.part v3 h4)),rfl,hc5,(Qj h6 h5),rfl,rfl,(rp cI 1 0 1 h5),q28_6,(Qj h6 h5),rfl,(rf cI 1 0 1 h5),rfl,q33_6,trivial⟩ ?_
             have h:=(h g2 g3)
             simp only [Yp,List.length_set] at h
             rw [(show Qw (rowI v3) (0+(Int.toNat se.part)*1) [.int .i64 (e - 1)]=rowI (v3.set (Int.toNat se.part) (e - 1)) from QJ cI (s:=1) (k:=0) (fun _=>rfl) h5 rfl (by first | decide | simp))]
             exact h
           · have h:=h.2 hc5
             exact p74_1_17 k l v2 v3 k1 g2 g3 se eb hE ⟨hc0,(Qn h1),(rp cStp 2 0 2 h1),(by decide),rfl,q6_1,(u117 (QC se.part 0 ((v2.length:Int) - 1))),hc1,rfl,rfl,rfl,hc2,hc3,(Qj h3 h2),rfl,rfl,(rp cB 1 0 1 h2),hc4,(u139 (Yy se.part v3 h4)),rfl,hc5,(by decide),trivial⟩ (by rw [h]; exact (XG ⟨QN,⟨QN,⟨AvLe.of_eq rfl,⟨AvLe.of_eq rfl,trivial⟩⟩⟩⟩))
         · have h:=h.2 hc4
           exact p74_1_18 k l v2 v3 k1 g2 g3 se eb hE ⟨hc0,(Qn h1),(rp cStp 2 0 2 h1),(by decide),rfl,q6_1,(u117 (QC se.part 0 ((v2.length:Int) - 1))),hc1,rfl,rfl,rfl,hc2,hc3,(Qj h3 h2),rfl,rfl,(rp cB 1 0 1 h2),hc4,rfl,(by decide),trivial⟩ (by rw [h]; exact (XG ⟨QN,⟨QN,⟨AvLe.of_eq rfl,⟨AvLe.of_eq rfl,trivial⟩⟩⟩⟩))
       · have h:=h.2 (ne_of_beq_false hc3)
         exact p74_1_19 k l v2 v3 k1 g2 g3 se hE ⟨hc0,(Qn h1),(rp cStp 2 0 2 h1),(by decide),rfl,q6_1,(u117 (QC se.part 0 ((v2.length:Int) - 1))),hc1,rfl,rfl,rfl,hc2,hc3,rfl,rfl,(by decide),trivial⟩ (by rw [h]; exact (XG ⟨QN,⟨QN,⟨AvLe.of_eq rfl,⟨AvLe.of_eq rfl,trivial⟩⟩⟩⟩))
     · have h:=h.2 hc2
       exact p74_1_20 k l v2 v3 k1 g2 g3 se hE ⟨hc0,(Qn h1),(rp cStp 2 0 2 h1),(by decide),rfl,q6_1,(u117 (QC se.part 0 ((v2.length:Int) - 1))),hc1,rfl,rfl,rfl,hc2,rfl,rfl,rfl,(by decide),trivial⟩ (by rw [h]; exact (XG ⟨QN,⟨QN,⟨AvLe.of_eq rfl,⟨AvLe.of_eq rfl,trivial⟩⟩⟩⟩))
 · have h:=h.2 (odf hc0)
   exact p74_1_21 k l v2 v3 k1 g2 g3 hE ⟨hc0,(by decide),rfl,rfl,trivial⟩ (AvLe.of_eq (by rw [h]; try rfl))
theorem log8_ok (k:BKit) (l:List Stp) (hk:KitSmall k):Pure Try.prog 74 [.agg [.rsl (QF k.parts) 0 k.parts.length,.int .i64 k.crane,.rsl (Qs rowI k.vans) 0 k.vans.length],.rsl (Qv l) 0 l.length] (.tup [.rsl (rowB (log8 k l).1) 0 (log8 k l).1.length,.rsl (rowI (log8 k l).2.1) 0 (log8 k l).2.1.length,.int .i64 (log8 k l).2.2.1,.int .i64 (log8 k l).2.2.2]):=Qu Try.func74 f74b fun E hE=>by
 refine f74W k l (rv:=log8 k l) hE ⟨fun hy=>⟨hk,fun q=>?_,fun q=>?_⟩,fun hy=>⟨fun _=>⟨hk,?_⟩,fun _=>⟨hk,?_⟩⟩⟩
 · unfold log8; rw [if_pos hy,if_neg (by omega)]
 rotate_left
 · unfold log8; rw [if_neg (by rw [hy]; exact Bool.false_ne_true)]
 · unfold log8; rw [if_neg (by rw [hy]; exact Bool.false_ne_true)]
 have hy2:=hy
 simp only [Vv,Bool.and_eq_true] at hy2
 have hY:YardOk (Qo k):=yard_fine hk hy2.1 hy2.2.1
 have hn:k.parts.length≤16:=hY.n
 have main:∀ (d i:Nat) (s:List Bool) (pins:List Int),i+d=l.length→s.length=k.parts.length→pins.length=k.parts.length→(∀ x ∈ pins,0≤x∧x≤9)→Wk (Qo k) (l.drop i) s pins i=log8 k l→f74G1 E k l s pins i:=by
  intro d
  induction d with
  | zero =>
   intro i s pins hi hs hpl hp9 hr
   rw [List.drop_eq_nil_of_le (by omega)] at hr
   exact f74W1 k l s pins i (rv:=log8 k l) hE ⟨fun h=>by omega,fun _=>hr.symm⟩
  | succ d ih =>
   intro i s pins hi hs hpl hp9 hr
   have hx:l[i]?=some (l[i]'(by omega)):=List.getElem?_eq_getElem (by omega)
   rw [List.drop_eq_getElem_cons (by omega)] at hr
   generalize l[i]'(by omega)=x at hx hr
   simp only [Wk] at hr
   refine f74W1 k l s pins i (rv:=log8 k l) hE ⟨fun _=>⟨x,hx,⟨by omega,by omega⟩,fun b0=>⟨fun k1=>?_,fun k1=>?_⟩,fun b0=>?_⟩,fun h=>by omega⟩
   · have w:=QK.1 b0
     refine ⟨⟨hY,hs,w.1,by omega⟩,fun u1=>?_,fun u1=>?_⟩
     · have g3:(Qo k).k.parts[Int.toNat x.part]?=some (bpAt k x.part):=QO (l:=k.parts) ⟨0,0,0,[]⟩ (i:=x.part) (by omega)
       obtain ⟨n1,n2⟩:=hY.needs _ (List.mem_of_getElem? g3)
       refine ⟨w.1,_,g3,⟨fun y hy=>?_,by omega⟩,fun u2=>?_,fun u2=>?_⟩
       · have h5:=n1 y hy
         have h6:(Qo k).k.parts.length=k.parts.length:=rfl
         omega
       · have g1:=QO (l:=s) false (i:=x.part) (by omega)
         have e:Vx (Qo k) s pins x=some (s.set x.part.toNat true,pins):=by unfold Vx; rw [if_pos b0,if_pos ⟨k1,u1,u2⟩]
         rw [e] at hr
         exact ⟨w.1,_,g1,⟨by omega,by omega⟩,ih (i+1) _ pins (by omega) (by simpa using hs) hpl hp9 hr⟩
       have no1:¬ (x.kind=1∧upB (Qo k) s x.part=true∧((bpAt (Qo k).k x.part).needs.any (Qx pins))=false):=fun hh=>by
        have h7:(bpAt k x.part).needs.any (Qx pins)=false:=hh.2.2
        rw [u2] at h7; cases h7
       have e:Vx (Qo k) s pins x=if Qa x.part 0 ((s.length:Int) - 1)=true then (if x.kind=2∧s.getD x.part.toNat false=true∧Qx pins x.part=true then some (s,pins.set x.part.toNat (pins.getD x.part.toNat 0 - 1)) else none) else none:=by unfold Vx; rw [if_neg no1]
       refine ⟨fun b1=>⟨fun q2=>?_,fun q2=>?_⟩,fun b1=>?_⟩
       · have w:=QK.1 b1
         have g1:=QO (l:=s) false (i:=x.part) (by omega)
         have g2:=QO (l:=pins) 0 (i:=x.part) (by omega)
         have pb:=hp9 _ (List.mem_of_getElem? g2)
         refine ⟨w.1,_,g1,fun t1=>⟨⟨w.1,by omega⟩,fun t2=>?_,fun t2=>?_⟩,fun t1=>?_⟩
         · rw [e,if_pos b1,if_pos ⟨q2,t1,t2⟩] at hr
           have t3:pins.getD x.part.toNat 0 > 0:=of_decide_eq_true t2
           refine ⟨w.1,_,g2,⟨by omega,by omega⟩,⟨by omega,by omega⟩,ih (i+1) s _ (by omega) hs (by simpa using hpl) (fun y hy=>?_) hr⟩
           rcases List.mem_or_eq_of_mem_set hy with hy | rfl
           · exact hp9 y hy
           · omega
         · rw [e,if_pos b1,if_neg (fun hh=>by rw [t2] at hh; cases hh.2.2)] at hr; exact hr.symm
         · rw [e,if_pos b1,if_neg (fun hh=>by rw [t1] at hh; cases hh.2.1)] at hr; exact hr.symm
       · rw [e,if_pos b1,if_neg (fun hh=>q2 hh.1)] at hr; exact hr.symm
       · rw [e,if_neg (by rw [b1]; exact Bool.false_ne_true)] at hr; exact hr.symm
     have no1:¬ (x.kind=1∧upB (Qo k) s x.part=true∧((bpAt (Qo k).k x.part).needs.any (Qx pins))=false):=fun hh=>by rw [u1] at hh; cases hh.2.1
     · have e:Vx (Qo k) s pins x=if Qa x.part 0 ((s.length:Int) - 1)=true then (if x.kind=2∧s.getD x.part.toNat false=true∧Qx pins x.part=true then some (s,pins.set x.part.toNat (pins.getD x.part.toNat 0 - 1)) else none) else none:=by unfold Vx; rw [if_neg no1]
       refine ⟨fun b1=>⟨fun q2=>?_,fun q2=>?_⟩,fun b1=>?_⟩
       · have w:=QK.1 b1
         have g1:=QO (l:=s) false (i:=x.part) (by omega)
         have g2:=QO (l:=pins) 0 (i:=x.part) (by omega)
         have pb:=hp9 _ (List.mem_of_getElem? g2)
         refine ⟨w.1,_,g1,fun t1=>⟨⟨w.1,by omega⟩,fun t2=>?_,fun t2=>?_⟩,fun t1=>?_⟩
         · rw [e,if_pos b1,if_pos ⟨q2,t1,t2⟩] at hr
           have t3:pins.getD x.part.toNat 0 > 0:=of_decide_eq_true t2
           refine ⟨w.1,_,g2,⟨by omega,by omega⟩,⟨by omega,by omega⟩,ih (i+1) s _ (by omega) hs (by simpa using hpl) (fun y hy=>?_) hr⟩
           rcases List.mem_or_eq_of_mem_set hy with hy | rfl
           · exact hp9 y hy
           · omega
         · rw [e,if_pos b1,if_neg (fun hh=>by rw [t2] at hh; cases hh.2.2)] at hr; exact hr.symm
         · rw [e,if_pos b1,if_neg (fun hh=>by rw [t1] at hh; cases hh.2.1)] at hr; exact hr.symm
       · rw [e,if_pos b1,if_neg (fun hh=>q2 hh.1)] at hr; exact hr.symm
       · rw [e,if_neg (by rw [b1]; exact Bool.false_ne_true)] at hr; exact hr.symm
   · have no1:¬ (x.kind=1∧upB (Qo k) s x.part=true∧((bpAt (Qo k).k x.part).needs.any (Qx pins))=false):=fun hh=>k1 hh.1
     · have e:Vx (Qo k) s pins x=if Qa x.part 0 ((s.length:Int) - 1)=true then (if x.kind=2∧s.getD x.part.toNat false=true∧Qx pins x.part=true then some (s,pins.set x.part.toNat (pins.getD x.part.toNat 0 - 1)) else none) else none:=by unfold Vx; rw [if_neg no1]
       refine ⟨fun b1=>⟨fun q2=>?_,fun q2=>?_⟩,fun b1=>?_⟩
       · have w:=QK.1 b1
         have g1:=QO (l:=s) false (i:=x.part) (by omega)
         have g2:=QO (l:=pins) 0 (i:=x.part) (by omega)
         have pb:=hp9 _ (List.mem_of_getElem? g2)
         refine ⟨w.1,_,g1,fun t1=>⟨⟨w.1,by omega⟩,fun t2=>?_,fun t2=>?_⟩,fun t1=>?_⟩
         · rw [e,if_pos b1,if_pos ⟨q2,t1,t2⟩] at hr
           have t3:pins.getD x.part.toNat 0 > 0:=of_decide_eq_true t2
           refine ⟨w.1,_,g2,⟨by omega,by omega⟩,⟨by omega,by omega⟩,ih (i+1) s _ (by omega) hs (by simpa using hpl) (fun y hy=>?_) hr⟩
           rcases List.mem_or_eq_of_mem_set hy with hy | rfl
           · exact hp9 y hy
           · omega
         · rw [e,if_pos b1,if_neg (fun hh=>by rw [t2] at hh; cases hh.2.2)] at hr; exact hr.symm
         · rw [e,if_pos b1,if_neg (fun hh=>by rw [t1] at hh; cases hh.2.1)] at hr; exact hr.symm
       · rw [e,if_pos b1,if_neg (fun hh=>q2 hh.1)] at hr; exact hr.symm
       · rw [e,if_neg (by rw [b1]; exact Bool.false_ne_true)] at hr; exact hr.symm
   · have e:Vx (Qo k) s pins x=none:=by unfold Vx; rw [if_neg (by rw [b0]; exact Bool.false_ne_true)]
     rw [e] at hr
     refine ⟨fun b1=>?_,fun _=>hr.symm⟩
     rw [b0] at b1; cases b1
 have first:∀ (d i:Nat) (pins:List Int),i+d=k.parts.length→pins.length=i→pins++(k.parts.drop i).map (·.pins)=We k→f74G0 E k l (List.replicate k.parts.length false) i pins:=by
  intro d
  induction d with
  | zero =>
   intro i pins hi hpl hr
   rw [List.drop_eq_nil_of_le (by omega),List.map_nil,List.append_nil] at hr
   refine f74W0 k l _ i pins (rv:=log8 k l) hE ⟨fun h=>by omega,fun _=>?_⟩
   subst hr
   refine main l.length 0 _ _ (by omega) (by simp) (by simp [We]) (QaW hy2.1) ?_
   unfold log8; rw [if_pos hy,if_pos (by omega),List.drop_zero]
  | succ d ih =>
   intro i pins hi hpl hr
   have hx:k.parts[i]?=some (k.parts[i]'(by omega)):=List.getElem?_eq_getElem (by omega)
   rw [List.drop_eq_getElem_cons (by omega),List.map_cons] at hr
   generalize k.parts[i]'(by omega)=p at hx hr
   exact f74W0 k l _ i pins (rv:=log8 k l) hE ⟨fun _=>⟨p,hx,by omega,⟨by omega,by omega⟩,ih (i+1) _ (by omega) (by simp; omega) (by rw [List.append_assoc]; exact hr)⟩,fun h=>by omega⟩
 exact ⟨by omega,first k.parts.length 0 [] (by omega) rfl rfl⟩
theorem f140b:Try.f140.body=some (Qc Try.prog 140):=by kernel_rfl
theorem u140 {a c k:List AV} {r:AV} (h:Pure Try.prog 140 (a++c++k) r):Qd Try.prog (.clos 140 a k) c r:=Qi Try.func140 (by kernel_rfl) f140b h
def Qbi (P:Program):List Item:=kAt 400 [.code (Qc P 140)] [.stop]
def f140S0 (s:(List Bool)) (i:Nat):St:=⟨([.rsl (rowB s) 0 s.length,.bool false]++jj 5 ([.int .i64 (s.length:Int),.int .i64 (i:Int)]++Js 10)),[]⟩
def f140G0 (E:Env) (s:(List Bool)) (i:Nat):Prop:=G Try.prog E (Qbi Try.prog) (f140S0 s i )
theorem p140_start_0 (s:(List Bool)) {E:Env} {rv:AV} (hE:Qe Try.prog 140 rv E) (ho:AllP [])
 (hg:G Try.prog E (Qbi Try.prog) ⟨([.rsl (rowB s) 0 s.length,.bool false]++jj 5 ([.int .i64 (s.length:Int),.int .i64 0]++Js 10)),[]⟩):G Try.prog E [.code (Qc Try.prog 140)] ⟨[.rsl (rowB s) 0 s.length,.bool false]++unds (Try.f140.ntmps - 2),[]⟩ :=
 Qh (n:=400) (ds:=[]) (cs:=[]) (live:=[0,1,7,8]) (m:=0) (evs:=[.stop]) (obs:=_) hE.2.1 (hE.nogh _) Qf (by kernel_rfl) ho hg
theorem f140W (s:(List Bool)) {E:Env} {rv:Int} (hE:Qe Try.prog 140 (.int .i64 rv) E)
 (h:f140G0 E s 0):G Try.prog E [.code (Qc Try.prog 140)] ⟨[.rsl (rowB s) 0 s.length,.bool false]++unds (Try.f140.ntmps - 2),[]⟩:=by
 exact p140_start_0 s hE trivial h
theorem p140_0_0 (s:(List Bool)) (i:Nat) (eb:Bool) {E:Env} {res:AV} (hE:Qe Try.prog 140 res E) (ho:AllP [(decide ((i:Int)<(s.length:Int)))=true,0≤(i:Int)∧(i:Int)<(s.length:Int),((rowB s).drop (0+(Int.toNat (i:Int))*1)).take 1=[.bool eb],(false == eb)=true])
 (hr:AvLe (.int .i64 (i:Int)) res):G Try.prog E (Qbi Try.prog) (f140S0 s i ) :=
 Qb (n:=400) (evs:=[.b true,.ld (.bool eb),.b true]) (obs:=_) hE Try.func140 Qf (by kernel_rfl) ho hr
theorem p140_0_1 (s:(List Bool)) (i:Nat) (eb:Bool) {E:Env} {rv:AV} (hE:Qe Try.prog 140 rv E) (ho:AllP [(decide ((i:Int)<(s.length:Int)))=true,0≤(i:Int)∧(i:Int)<(s.length:Int),((rowB s).drop (0+(Int.toNat (i:Int))*1)).take 1=[.bool eb],(false == eb)=false,InR .i64 ((i:Int)+1)])
 (hg:G Try.prog E (Qbi Try.prog) ⟨([.rsl (rowB s) 0 s.length,.bool false]++jj 5 ([.int .i64 (s.length:Int),.int .i64 ((i:Int)+1)]++Js 10)),[]⟩):G Try.prog E (Qbi Try.prog) (f140S0 s i ) :=
 Qh (n:=400) (ds:=[]) (cs:=[]) (live:=[0,1,7,8]) (m:=0) (evs:=[.b true,.ld (.bool eb),.b false,.stop]) (obs:=_) hE.2.1 (hE.nogh _) Qf (by kernel_rfl) ho hg
theorem p140_0_2 (s:(List Bool)) (i:Nat) {E:Env} {res:AV} (hE:Qe Try.prog 140 res E) (ho:AllP [(decide ((i:Int)<(s.length:Int)))=false])
 (hr:AvLe (.int .i64 (-1)) res):G Try.prog E (Qbi Try.prog) (f140S0 s i ) :=
 Qb (n:=400) (evs:=[.b false]) (obs:=_) hE Try.func140 Qf (by kernel_rfl) ho hr
theorem f140W0 (s:(List Bool)) (i:Nat) {E:Env} {rv:Int} (hE:Qe Try.prog 140 (.int .i64 rv) E)
 (h:(((i:Int)<(s.length:Int)→(∃ eb:Bool,s[i]?=some eb∧((false=eb→rv=(i:Int))∧(¬ (false=eb)→((I6 ((i:Int)+1))∧f140G0 E s (i+1))))))∧(¬ ((i:Int)<(s.length:Int))→rv=(-1)))):f140G0 E s i:=by
 rcases bft (decide ((i:Int)<(s.length:Int))) with hc0 | hc0
 · have h:=h.1 (odt hc0)
   obtain ⟨eb,h1,h⟩:=h
   rcases bft (false == eb) with hc1 | hc1
   · have h:=h.1 (eq_of_beq hc1)
     exact p140_0_0 s i eb hE ⟨hc0,(Qn h1),(rp cB 1 0 1 h1),hc1,trivial⟩ (AvLe.of_eq (by rw [h]; try rfl))
   · have h:=h.2 (ne_of_beq_false hc1)
     obtain ⟨q5_2,h⟩:=h
     exact p140_0_1 s i eb hE ⟨hc0,(Qn h1),(rp cB 1 0 1 h1),hc1,q5_2,trivial⟩ h
 · have h:=h.2 (odf hc0)
   exact p140_0_2 s i hE ⟨hc0,trivial⟩ (AvLe.of_eq (by rw [h]; try rfl))
theorem f77b:Try.f77.body=some (Qc Try.prog 77):=by kernel_rfl
theorem u77 {a c k:List AV} {r:AV} (h:Pure Try.prog 77 (a++c++k) r):Qd Try.prog (.clos 77 a k) c r:=Qi Try.func77 (by kernel_rfl) f77b h
theorem p77_start_0 (n:Int) {E:Env} {res:AV} (hE:Qe Try.prog 77 res E) (ho:AllP [])
 (hr:AvLe (.bool (decide (n > 0))) res):G Try.prog E [.code (Qc Try.prog 77)] ⟨[.int .i64 n]++unds (Try.f77.ntmps - 1),[]⟩ :=
 Qb (n:=400) (evs:=[]) (obs:=_) hE Try.func77 Qf (by kernel_rfl) ho hr
theorem f77W (n:Int) {E:Env} {rv:Bool} (hE:Qe Try.prog 77 (.bool rv) E)
 (h:rv=(decide (n > 0))):G Try.prog E [.code (Qc Try.prog 77)] ⟨[.int .i64 n]++unds (Try.f77.ntmps - 1),[]⟩:=by
 exact p77_start_0 n hE trivial (AvLe.of_eq (by rw [h]; try rfl))
theorem isPos_ok (n:Int):Pure Try.prog 77 [.int .i64 n] (.bool (Yo n)):=Qu Try.func77 f77b fun E hE=>f77W n (rv:=Yo n) hE rfl
theorem f59psb:Try.f59.body=some (Qc Try.prog 59):=by kernel_rfl
def qV (P:Program):List Item:=kAt 400 [.code (Qc P 59)] [.stop]
def QcL (l:(List Int)) (i:Nat):St:=⟨([.rsl (rowI l) 0 l.length,.clos 77 [] []]++jj 5 ([.int .i64 (l.length:Int),.int .i64 (i:Int)]++Js 10)),[]⟩
def QcM (E:Env) (l:(List Int)) (i:Nat):Prop:=G Try.prog E (qV Try.prog) (QcL l i )
theorem QbD (l:(List Int)) {E:Env} {rv:AV} (hE:Qe Try.prog 59 rv E) (ho:AllP [])
 (hg:G Try.prog E (qV Try.prog) ⟨([.rsl (rowI l) 0 l.length,.clos 77 [] []]++jj 5 ([.int .i64 (l.length:Int),.int .i64 0]++Js 10)),[]⟩):G Try.prog E [.code (Qc Try.prog 59)] ⟨[.rsl (rowI l) 0 l.length,.clos 77 [] []]++unds (Try.f59.ntmps - 2),[]⟩ :=
 Qh (n:=400) (ds:=[]) (cs:=[]) (live:=[0,1,7,8]) (m:=0) (evs:=[.stop]) (obs:=_) hE.2.1 (hE.nogh _) Qf (by kernel_rfl) ho hg
theorem f59psW (l:(List Int)) {E:Env} {rv:Int} (hE:Qe Try.prog 59 (.int .i64 rv) E)
 (h:QcM E l 0):G Try.prog E [.code (Qc Try.prog 59)] ⟨[.rsl (rowI l) 0 l.length,.clos 77 [] []]++unds (Try.f59.ntmps - 2),[]⟩:=by
 exact QbD l hE trivial h
theorem p59ps_0_0 (l:(List Int)) (i:Nat) (e:Int) {E:Env} {res:AV} (hE:Qe Try.prog 59 res E) (ho:AllP [(decide ((i:Int)<(l.length:Int)))=true,0≤(i:Int)∧(i:Int)<(l.length:Int),((rowI l).drop (0+(Int.toNat (i:Int))*1)).take 1=[.int .i64 e],Qd Try.prog (.clos 77 [] []) [.int .i64 e] (.bool (Yo e)),(Yo e)=true])
 (hr:AvLe (.int .i64 (i:Int)) res):G Try.prog E (qV Try.prog) (QcL l i ) :=
 Qb (n:=400) (evs:=[.b true,.ld (.int .i64 e),.v (.bool (Yo e)),.b true]) (obs:=_) hE Try.func59 Qf (by kernel_rfl) ho hr
theorem p59ps_0_1 (l:(List Int)) (i:Nat) (e:Int) {E:Env} {rv:AV} (hE:Qe Try.prog 59 rv E) (ho:AllP [(decide ((i:Int)<(l.length:Int)))=true,0≤(i:Int)∧(i:Int)<(l.length:Int),((rowI l).drop (0+(Int.toNat (i:Int))*1)).take 1=[.int .i64 e],Qd Try.prog (.clos 77 [] []) [.int .i64 e] (.bool (Yo e)),(Yo e)=false,InR .i64 ((i:Int)+1)])
 (hg:G Try.prog E (qV Try.prog) ⟨([.rsl (rowI l) 0 l.length,.clos 77 [] []]++jj 5 ([.int .i64 (l.length:Int),.int .i64 ((i:Int)+1)]++Js 10)),[]⟩):G Try.prog E (qV Try.prog) (QcL l i ) :=
 Qh (n:=400) (ds:=[]) (cs:=[]) (live:=[0,1,7,8]) (m:=0) (evs:=[.b true,.ld (.int .i64 e),.v (.bool (Yo e)),.b false,.stop]) (obs:=_) hE.2.1 (hE.nogh _) Qf (by kernel_rfl) ho hg
theorem p59ps_0_2 (l:(List Int)) (i:Nat) {E:Env} {res:AV} (hE:Qe Try.prog 59 res E) (ho:AllP [(decide ((i:Int)<(l.length:Int)))=false])
 (hr:AvLe (.int .i64 (-1)) res):G Try.prog E (qV Try.prog) (QcL l i ) :=
 Qb (n:=400) (evs:=[.b false]) (obs:=_) hE Try.func59 Qf (by kernel_rfl) ho hr
theorem f59psW0 (l:(List Int)) (i:Nat) {E:Env} {rv:Int} (hE:Qe Try.prog 59 (.int .i64 rv) E)
 (h:(((i:Int)<(l.length:Int)→(∃ e:Int,l[i]?=some e∧(((Yo e)=true→rv=(i:Int))∧((Yo e)=false→((I6 ((i:Int)+1))∧QcM E l (i+1))))))∧(¬ ((i:Int)<(l.length:Int))→rv=(-1)))):QcM E l i:=by
 rcases bft (decide ((i:Int)<(l.length:Int))) with hc0 | hc0
 · have h:=h.1 (odt hc0)
   obtain ⟨e,h1,h⟩:=h
   rcases bft (Yo e) with hc1 | hc1
   · have h:=h.1 hc1
     exact p59ps_0_0 l i e hE ⟨hc0,(Qn h1),(rp cI 1 0 1 h1),(u77 (isPos_ok e)),hc1,trivial⟩ (AvLe.of_eq (by rw [h]; try rfl))
   · have h:=h.2 hc1
     obtain ⟨q6_2,h⟩:=h
     exact p59ps_0_1 l i e hE ⟨hc0,(Qn h1),(rp cI 1 0 1 h1),(u77 (isPos_ok e)),hc1,q6_2,trivial⟩ h
 · have h:=h.2 (odf hc0)
   exact p59ps_0_2 l i hE ⟨hc0,trivial⟩ (AvLe.of_eq (by rw [h]; try rfl))
theorem idxPos_ok (l:List Int) (h:l.length≤9223372036854775807):Pure Try.prog 59 [.rsl (rowI l) 0 l.length,.clos 77 [] []] (.int .i64 (idxG Yo l)):=Qu Try.func59 f59psb fun E hE=>by
 have hl:=h
 refine f59psW l (rv:=idxG Yo l) hE (XQ Yo l l.length 0 (by omega) (fun j x hj=>by omega) (fun i=>QcM E l i) (fun i hi' h1 h2=>?_) (fun _ h2=>?_))
 · have hx:l[i]?=some l[i]:=List.getElem?_eq_getElem hi'
   have hm:=List.mem_of_getElem? hx
   exact f59psW0 l i (rv:=idxG Yo l) hE ⟨fun _=>⟨_,hx,fun hp=>h1 _ hx (by simpa using hp),fun hp=>⟨by omega,h2 _ hx (by simpa using hp)⟩⟩,fun h=>by omega⟩
 · exact f59psW0 l _ (rv:=idxG Yo l) hE ⟨fun h=>by omega,fun _=>h2⟩
theorem f76psb:Try.f76.body=some (Qc Try.prog 76):=by kernel_rfl
theorem QbA (l:(List Int)) {E:Env} {res:AV} (hE:Qe Try.prog 76 res E) (ho:AllP [Qd Try.prog (.clos 59 [] []) [.rsl (rowI l) 0 l.length,.clos 77 [] []] (.int .i64 (idxG Yo l))])
 (hr:AvLe (.bool (decide ((idxG Yo l)≥0))) res):G Try.prog E [.code (Qc Try.prog 76)] ⟨[.rsl (rowI l) 0 l.length,.clos 77 [] []]++unds (Try.f76.ntmps - 2),[]⟩ :=
 Qb (n:=400) (evs:=[.v (.int .i64 (idxG Yo l))]) (obs:=_) hE Try.func76 Qf (by kernel_rfl) ho hr
theorem f76psW (l:(List Int)) {E:Env} {rv:Bool} (hE:Qe Try.prog 76 (.bool rv) E)
 (h:((l.length≤9223372036854775807)∧rv=(decide ((idxG Yo l)≥0)))):G Try.prog E [.code (Qc Try.prog 76)] ⟨[.rsl (rowI l) 0 l.length,.clos 77 [] []]++unds (Try.f76.ntmps - 2),[]⟩:=by
 obtain ⟨h1,h⟩:=h
 exact QbA l hE ⟨(Qi Try.func59 (by kernel_rfl) f59psb (idxPos_ok l h1)),trivial⟩ (AvLe.of_eq (by rw [h]; try rfl))
theorem anyPos_ok (l:List Int) (h:l.length≤9223372036854775807):Pure Try.prog 76 [.rsl (rowI l) 0 l.length,.clos 77 [] []] (.bool (l.any Yo)):=Qu Try.func76 f76psb fun E hE =>
 f76psW l (rv:=l.any Yo) hE ⟨h,(Yz _ _).symm⟩
theorem idxF_ok (s:List Bool) (h:s.length≤1000):Pure Try.prog 140 [.rsl (rowB s) 0 s.length,.bool false] (.int .i64 (idxG (· == false) s)):=Qu Try.func140 f140b fun E hE=>by
 refine f140W s (rv:=idxG (· == false) s) hE (XQ (· == false) s s.length 0 (by omega) (fun j x hj=>by omega) (fun i=>f140G0 E s i) (fun i hi' h1 h2=>?_) (fun _ h2=>?_))
 · have hx:s[i]?=some s[i]:=List.getElem?_eq_getElem hi'
   exact f140W0 s i (rv:=idxG (· == false) s) hE ⟨fun _=>⟨_,hx,fun hp=>h1 _ hx (by rw [← hp]; rfl),fun hp=>⟨⟨by omega,by omega⟩,h2 _ hx (by rw [beq_eq_false_iff_ne]; exact fun h=>hp h.symm)⟩⟩,fun h=>by omega⟩
 · exact f140W0 s _ (rv:=idxG (· == false) s) hE ⟨fun h=>by omega,fun _=>h2⟩
theorem f75b:Try.f75.body=some (Qc Try.prog 75):=by kernel_rfl
theorem u75 {a c k:List AV} {r:AV} (h:Pure Try.prog 75 (a++c++k) r):Qd Try.prog (.clos 75 a k) c r:=Qi Try.func75 (by kernel_rfl) f75b h
theorem p75_start_0 (s:(List Bool)) {E:Env} {res:AV} (hE:Qe Try.prog 75 res E) (ho:AllP [Qd Try.prog (.clos 140 [] []) [.rsl (rowB s) 0 s.length,.bool false] (.int .i64 (idxG (· == false) s))])
 (hr:AvLe (.bool (decide ((idxG (· == false) s)≥0))) res):G Try.prog E [.code (Qc Try.prog 75)] ⟨[.rsl (rowB s) 0 s.length,.bool false]++unds (Try.f75.ntmps - 2),[]⟩ :=
 Qb (n:=400) (evs:=[.v (.int .i64 (idxG (· == false) s))]) (obs:=_) hE Try.func75 Qf (by kernel_rfl) ho hr
theorem f75W (s:(List Bool)) {E:Env} {rv:Bool} (hE:Qe Try.prog 75 (.bool rv) E)
 (h:((s.length≤1000)∧rv=(decide ((idxG (· == false) s)≥0)))):G Try.prog E [.code (Qc Try.prog 75)] ⟨[.rsl (rowB s) 0 s.length,.bool false]++unds (Try.f75.ntmps - 2),[]⟩:=by
 obtain ⟨h1,h⟩:=h
 exact p75_start_0 s hE ⟨(u140 (idxF_ok s h1)),trivial⟩ (AvLe.of_eq (by rw [h]; try rfl))
theorem hasF_ok (s:List Bool) (h:s.length≤1000):Pure Try.prog 75 [.rsl (rowB s) 0 s.length,.bool false] (.bool (s.any (· == false))):=Qu Try.func75 f75b fun E hE =>
 f75W s (rv:=s.any (· == false)) hE ⟨h,(Yz _ _).symm⟩
theorem f26b:Try.f26.body=some (Qc Try.prog 26):=by kernel_rfl
theorem u26 {a c k:List AV} {r:AV} (h:Pure Try.prog 26 (a++c++k) r):Qd Try.prog (.clos 26 a k) c r:=Qi Try.func26 (by kernel_rfl) f26b h
abbrev z26_1 (k:BKit) (l:(List Stp)):AV:=.tup [.rsl (rowB ((log8 k l).1)) 0 (((log8 k l).1).length),.rsl (rowI ((log8 k l).2.1)) 0 (((log8 k l).2.1).length),.int .i64 ((log8 k l).2.2.1),.int .i64 ((log8 k l).2.2.2)]
abbrev z26_2 (k:BKit) (l:(List Stp)):List AV:=[.agg [.rsl (QF k.parts) 0 k.parts.length,.int .i64 k.crane,.rsl ((Qs rowI) k.vans) 0 k.vans.length],.rsl (Qv l) 0 l.length]
theorem p26_start_0 (k:BKit) (l:(List Stp)) {E:Env} {res:AV} (hE:Qe Try.prog 26 res E) (ho:AllP [Qd Try.prog (.clos 74 [] []) (z26_2 k l) (z26_1 k l),((log8 k l).2.2.2 != 0)=true])
 (hr:AvLe (.tup [.bool false,.nilSl,.int .i64 ((log8 k l).2.2.2)]) res):G Try.prog E [.code (Qc Try.prog 26)] ⟨(z26_2 k l)++unds (Try.f26.ntmps - 2),[]⟩ :=
 Qb (n:=400) (evs:=[.v (z26_1 k l),.b true]) (obs:=_) hE Try.func26 Qf (by kernel_rfl) ho hr
theorem p26_start_1 (k:BKit) (l:(List Stp)) {E:Env} {res:AV} (hE:Qe Try.prog 26 res E) (ho:AllP [Qd Try.prog (.clos 74 [] []) (z26_2 k l) (z26_1 k l),((log8 k l).2.2.2 != 0)=false,Qd Try.prog (.clos 75 [] []) [.rsl (rowB ((log8 k l).1)) 0 (((log8 k l).1).length),.bool false] (.bool (((log8 k l).1).any (· == false))),(!(((log8 k l).1).any (· == false)))=true,Qd Try.prog (.clos 76 [] []) [.rsl (rowI ((log8 k l).2.1)) 0 (((log8 k l).2.1).length),.clos 77 [] []] (.bool (((log8 k l).2.1).any Yo))])
 (hr:AvLe (.tup [.bool (!(((log8 k l).2.1).any Yo)),.rsl (rowI ((log8 k l).2.1)) 0 (((log8 k l).2.1).length),.int .i64 0]) res):G Try.prog E [.code (Qc Try.prog 26)] ⟨(z26_2 k l)++unds (Try.f26.ntmps - 2),[]⟩ :=
 Qb (n:=400) (evs:=[.v (z26_1 k l),.b false,.v (.bool (((log8 k l).1).any (· == false))),.b true,.v (.bool (((log8 k l).2.1).any Yo))]) (obs:=_) hE Try.func26 Qf (by kernel_rfl) ho hr
theorem p26_start_2 (k:BKit) (l:(List Stp)) {E:Env} {res:AV} (hE:Qe Try.prog 26 res E) (ho:AllP [Qd Try.prog (.clos 74 [] []) (z26_2 k l) (z26_1 k l),((log8 k l).2.2.2 != 0)=false,Qd Try.prog (.clos 75 [] []) [.rsl (rowB ((log8 k l).1)) 0 (((log8 k l).1).length),.bool false] (.bool (((log8 k l).1).any (· == false))),(!(((log8 k l).1).any (· == false)))=false])
 (hr:AvLe (.tup [.bool false,.rsl (rowI ((log8 k l).2.1)) 0 (((log8 k l).2.1).length),.int .i64 0]) res):G Try.prog E [.code (Qc Try.prog 26)] ⟨(z26_2 k l)++unds (Try.f26.ntmps - 2),[]⟩ :=
 Qb (n:=400) (evs:=[.v (z26_1 k l),.b false,.v (.bool (((log8 k l).1).any (· == false))),.b false]) (obs:=_) hE Try.func26 Qf (by kernel_rfl) ho hr
theorem f26W (k:BKit) (l:(List Stp)) {E:Env} {rv:(Bool × (List Int) × Int)} (hE:Qe Try.prog 26 (.tup [.bool rv.1,.rsl (rowI rv.2.1) 0 rv.2.1.length,.int .i64 rv.2.2]) E)
 (h:((KitSmall k)∧((¬ ((log8 k l).2.2.2=0)→rv=(false,([]:List Int),(log8 k l).2.2.2))∧((log8 k l).2.2.2=0→((((log8 k l).1).length≤1000)∧(((((log8 k l).1).any (· == false))=false→((((log8 k l).2.1).length≤9223372036854775807)∧rv=((!(((log8 k l).2.1).any Yo)),((log8 k l).2.1),0)))∧((((log8 k l).1).any (· == false))=true→rv=(false,((log8 k l).2.1),0)))))))):G Try.prog E [.code (Qc Try.prog 26)] ⟨[.agg [.rsl (QF k.parts) 0 k.parts.length,.int .i64 k.crane,.rsl ((Qs rowI) k.vans) 0 k.vans.length],.rsl (Qv l) 0 l.length]++unds (Try.f26.ntmps - 2),[]⟩:=by
 obtain ⟨h1,h⟩:=h
 rcases bft ((log8 k l).2.2.2 != 0) with hc0 | hc0
 · have h:=h.1 (bneT hc0)
   exact p26_start_0 k l hE ⟨(u74 (log8_ok k l h1)),hc0,trivial⟩ (by rw [h]; exact (XG ⟨AvLe.of_eq rfl,⟨QN,⟨AvLe.of_eq rfl,trivial⟩⟩⟩))
 · have h:=h.2 (bneF hc0)
   obtain ⟨h2,h⟩:=h
   rcases bft (!(((log8 k l).1).any (· == false))) with hc1 | hc1
   · have h:=h.1 (bnT hc1)
     obtain ⟨h3,h⟩:=h
     exact p26_start_1 k l hE ⟨(u74 (log8_ok k l h1)),hc0,(u75 (hasF_ok ((log8 k l).1) h2)),hc1,(Qi Try.func76 (by kernel_rfl) f76psb (anyPos_ok ((log8 k l).2.1) h3)),trivial⟩ (AvLe.of_eq (by rw [h]; try rfl))
   · have h:=h.2 (bnF hc1)
     exact p26_start_2 k l hE ⟨(u74 (log8_ok k l h1)),hc0,(u75 (hasF_ok ((log8 k l).1) h2)),hc1,trivial⟩ (AvLe.of_eq (by rw [h]; try rfl))
theorem logGo8_ok {y:Yard}:∀ (l:List Stp) (s:List Bool) (pins:List Int) (i:Nat),(Wk y l s pins i).2.2.2=0→(Wk y l s pins i).1.length=s.length∧(Wk y l s pins i).2.1.length=pins.length
 | [],s,pins,i,_=>⟨rfl,rfl⟩
 | x :: l,s,pins,i,h=>by
  unfold Wk at h ⊢
  split at h
  · rename_i r hr
    have ih:=logGo8_ok l r.1 r.2 (i+1) h
    unfold Vx at hr
    split at hr
    · split at hr
      · cases hr
        simpa using ih
      · split at hr
        · cases hr
          simpa using ih
        · cases hr
    · cases hr
  · cases h
theorem QcD {k:BKit} {l:List Stp} (h:(log8 k l).2.2.2=0):Vv k=true∧l.length≤300∧(log8 k l).1.length=k.parts.length∧(log8 k l).2.1.length=k.parts.length∧log8 k l=Wk (Qo k) l (List.replicate k.parts.length false) (We k) 0:=by
 unfold log8 at h ⊢
 split at h
 · rename_i c
   split at h
   · rename_i c2
     rw [if_pos c,if_pos c2]
     have:=logGo8_ok l _ _ 0 h
     simp only [List.length_replicate,We,List.length_map] at this
     exact ⟨c,c2,this.1,this.2,rfl⟩
   · cases h
 · cases h
theorem yX (k:BKit) (l:List Stp) (hk:KitSmall k):Pure Try.prog 26 [.agg [.rsl (QF k.parts) 0 k.parts.length,.int .i64 k.crane,.rsl (Qs rowI k.vans) 0 k.vans.length],.rsl (Qv l) 0 l.length] (.tup [.bool (QH k l).1,.rsl (rowI (QH k l).2.1) 0 (QH k l).2.1.length,.int .i64 (QH k l).2.2]):=Qu Try.func26 f26b fun E hE=>by
 have hp:=hk.parts
 refine f26W k l (rv:=QH k l) hE ⟨hk,fun q=>?_,fun q=>?_⟩
 · unfold QH; rw [if_neg q]
 obtain ⟨-,-,h1,h2,-⟩:=QcD q
 refine ⟨by omega,fun q2=>⟨by omega,?_⟩,fun q2=>?_⟩
 · unfold QH; rw [if_pos q,q2]; rfl
 · unfold QH; rw [if_pos q,q2]; rfl
end Go.Proofs.Ytemklbioijmjiaa
namespace Go.Proofs.Ytemklbioijmjiaa
open Go Ax
open Go.Proofs
def nd8 (n i:Nat):Option Int→List Int→Bool
 | _,[]=>true
 | pv,x :: xs=>Qa x 0 ((n:Int) - 1) && (!(x == (i:Int)) && ((match pv with | some y=>!(decide (x≤y)) | none=>true) && nd8 n i (some x) xs))
def part8 (n i:Nat) (p:BPart):Bool:=Qa p.w 1 1000000 && (Qa p.m 1 100 && (Qa p.pins 0 9 && nd8 n i none p.needs))
def QaL (n:Nat):Nat→List BPart→Bool
 | _,[]=>true
 | i,p :: ps=>part8 n i p && QaL n (i+1) ps
def van8 (n:Nat):List Int→List Int→Option (List Int)
 | [],l=>some l
 | x :: xs,l=>if Qa x 0 ((n:Int) - 1)=true then van8 n xs (l.set x.toNat (IntKind.i64.wrap (l.getD x.toNat 0+1))) else none
def vans8 (n:Nat):List (List Int)→List Int→Option (List Int)
 | [],l=>some l
 | v :: vs,l=>match van8 n v l with
  | some l'=>vans8 n vs l'
  | none=>none
def lies8 (o:Option (List Int)):Bool:=match o with
 | some l=>l.all (· == 1)
 | none=>false
def chkB (k:BKit):Bool:=decide (k.parts.length≤16) && (decide (k.vans.length≤6) && (Qa k.crane 1 1000000 && (QaL k.parts.length 0 k.parts && lies8 (vans8 k.parts.length k.vans (List.replicate k.parts.length 0)))))
/-- The reference's Check of a kit. -/
def chk8 (k:BKit):Int:=if chkB k=true then 0 else 80
structure KitSize (k:BKit):Prop where
 needs:∀ p ∈ k.parts,p.needs.length≤9223372036854775807
 van:∀ v ∈ k.vans,v.length≤9223372036854775807
theorem Yl {k:BKit} (h:chkB k=false):chk8 k=80:=by unfold chk8; rw [if_neg (by rw [h]; exact Bool.false_ne_true)]
theorem chk8_small {k:BKit} (hs:KitSize k) (h:chk8 k=0):KitSmall k:=by
 unfold chk8 at h
 split at h
 · rename_i c
   simp only [chkB,Bool.and_eq_true,decide_eq_true_eq] at c
   exact ⟨by omega,hs.needs,by omega,hs.van⟩
 · cases h
theorem van8_len {n:Nat}:∀ {xs l l':List Int},van8 n xs l=some l'→l'.length=l.length
 | [],l,l',h=>by simp only [van8,Option.some.injEq] at h; subst h; rfl
 | x :: xs,l,l',h=>by
  simp only [van8] at h
  split at h
  · have:=van8_len h; simpa using this
  · cases h
theorem f73b:Try.f73.body=some (Qc Try.prog 73):=by kernel_rfl
theorem u73 {a c k:List AV} {r:AV} (h:Pure Try.prog 73 (a++c++k) r):Qd Try.prog (.clos 73 a k) c r:=Qi Try.func73 (by kernel_rfl) f73b h
theorem p73_start_0 (n:Int) (lo:Int) (hi:Int) {E:Env} {res:AV} (hE:Qe Try.prog 73 res E) (ho:AllP [(decide (n≥lo))=true])
 (hr:AvLe (.bool (decide (n≤hi))) res):G Try.prog E [.code (Qc Try.prog 73)] ⟨[.int .i64 n,.int .i64 lo,.int .i64 hi]++unds (Try.f73.ntmps - 3),[]⟩ :=
 Qb (n:=400) (evs:=[.b true]) (obs:=_) hE Try.func73 Qf (by kernel_rfl) ho hr
theorem p73_start_1 (n:Int) (lo:Int) (hi:Int) {E:Env} {res:AV} (hE:Qe Try.prog 73 res E) (ho:AllP [(decide (n≥lo))=false])
 (hr:AvLe (.bool false) res):G Try.prog E [.code (Qc Try.prog 73)] ⟨[.int .i64 n,.int .i64 lo,.int .i64 hi]++unds (Try.f73.ntmps - 3),[]⟩ :=
 Qb (n:=400) (evs:=[.b false]) (obs:=_) hE Try.func73 Qf (by kernel_rfl) ho hr
theorem f73W (n:Int) (lo:Int) (hi:Int) {E:Env} {rv:Bool} (hE:Qe Try.prog 73 (.bool rv) E)
 (h:((n≥lo→rv=(decide (n≤hi)))∧(¬ (n≥lo)→rv=false))):G Try.prog E [.code (Qc Try.prog 73)] ⟨[.int .i64 n,.int .i64 lo,.int .i64 hi]++unds (Try.f73.ntmps - 3),[]⟩:=by
 rcases bft (decide (n≥lo)) with hc0 | hc0
 · have h:=h.1 (odt hc0)
   exact p73_start_0 n lo hi hE ⟨hc0,trivial⟩ (AvLe.of_eq (by rw [h]; try rfl))
 · have h:=h.2 (odf hc0)
   exact p73_start_1 n lo hi hE ⟨hc0,trivial⟩ (AvLe.of_eq (by rw [h]; try rfl))
theorem QT (n lo hi:Int):Pure Try.prog 73 [.int .i64 n,.int .i64 lo,.int .i64 hi] (.bool (Qa n lo hi)):=Qu Try.func73 f73b fun E hE=>by
 refine f73W n lo hi hE ⟨fun h=>by simp [Qa,h],fun h=>by simp [Qa,h]⟩
theorem f25b:Try.f25.body=some (Qc Try.prog 25):=by kernel_rfl
theorem u25 {a c k:List AV} {r:AV} (h:Pure Try.prog 25 (a++c++k) r):Qd Try.prog (.clos 25 a k) c r:=Qi Try.func25 (by kernel_rfl) f25b h
def f25K0 (P:Program):List Item:=kAt 400 [.code (Qc P 25)] [.b false,.stop]
def f25S0 (k:BKit) (i:Nat):St:=⟨([J,.ptr 0 0 0,J,.int .i64 (i:Int)]++Js 154),[⟨true,0,1,true,[.rsl (QF k.parts) 0 k.parts.length,.int .i64 k.crane,.rsl ((Qs rowI) k.vans) 0 k.vans.length],false⟩]⟩
def f25G0 (E:Env) (k:BKit) (i:Nat):Prop:=G Try.prog E (f25K0 Try.prog) (f25S0 k i )
def Qas (P:Program):List Item:=kAt 400 [.code (Qc P 25)] [.b false,.b true,.b false,.stop]
def f25S1 (k:BKit) (v1_0:Int) (v1_1:Int) (v1_2:Int) (v1_3:(List Int)) (n:Nat) (i:Nat):St:=⟨([J,.ptr 0 0 0,J,.int .i64 (i:Int),.ptr 1 0 0,.int .i64 (n:Int)]++Js 152),[⟨true,0,1,true,[.rsl (QF k.parts) 0 k.parts.length,.int .i64 k.crane,.rsl ((Qs rowI) k.vans) 0 k.vans.length],false⟩,⟨true,0,1,true,[.int .i64 v1_0,.int .i64 v1_1,.int .i64 v1_2,.rsl (rowI v1_3) 0 v1_3.length],false⟩]⟩
def f25G1 (E:Env) (k:BKit) (v1_0:Int) (v1_1:Int) (v1_2:Int) (v1_3:(List Int)) (n:Nat) (i:Nat):Prop:=G Try.prog E (Qas Try.prog) (f25S1 k v1_0 v1_1 v1_2 v1_3 n i )
def f25K2 (P:Program):List Item:=kAt 400 [.code (Qc P 25)] [.b false,.b false,.stop]
def f25S2 (k:BKit) (v1:List Int) (v:Nat) (g1:Nat):St:=⟨([J,.ptr 0 0 0,J,J,J,J,.sl 1 g1 0 v1.length 1,.int .i64 (v:Int)]++Js 150),[⟨true,0,1,true,[.rsl (QF k.parts) 0 k.parts.length,.int .i64 k.crane,.rsl ((Qs rowI) k.vans) 0 k.vans.length],false⟩,⟨true,g1,1,true,(rowI v1),true⟩]⟩
def f25G2 (E:Env) (k:BKit) (v1:List Int) (v:Nat):Prop:=∀ g1:Nat,G Try.prog E (f25K2 Try.prog) (f25S2 k v1 v g1)
def f25K3 (P:Program):List Item:=kAt 400 [.code (Qc P 25)] [.b false,.b false,.b true,.stop]
def f25S3 (k:BKit) (v1:List Int) (i:Nat) (v:Nat) (g1:Nat):St:=⟨([J,.ptr 0 0 0,J,J,J,J,.sl 1 g1 0 v1.length 1,.int .i64 (v:Int),.int .i64 (i:Int)]++Js 149),[⟨true,0,1,true,[.rsl (QF k.parts) 0 k.parts.length,.int .i64 k.crane,.rsl ((Qs rowI) k.vans) 0 k.vans.length],false⟩,⟨true,g1,1,true,(rowI v1),true⟩]⟩
def f25G3 (E:Env) (k:BKit) (v1:List Int) (i:Nat) (v:Nat):Prop:=∀ g1:Nat,G Try.prog E (f25K3 Try.prog) (f25S3 k v1 i v g1)
def f25K4 (P:Program):List Item:=kAt 400 [.code (Qc P 25)] [.b false,.b false,.b false,.stop]
def f25S4 (k:BKit) (v1:List Int) (i:Nat) (g1:Nat):St:=⟨(jj 6 ([.sl 1 g1 0 v1.length 1,J,J,.int .i64 (i:Int)]++Js 148)),[⟨true,0,1,true,[.rsl (QF k.parts) 0 k.parts.length,.int .i64 k.crane,.rsl ((Qs rowI) k.vans) 0 k.vans.length],false⟩,⟨true,g1,1,true,(rowI v1),true⟩]⟩
def f25G4 (E:Env) (k:BKit) (v1:List Int) (i:Nat):Prop:=∀ g1:Nat,G Try.prog E (f25K4 Try.prog) (f25S4 k v1 i g1)
abbrev yG (k:BKit):List AV:=[.rsl (QF k.parts) 0 k.parts.length,.int .i64 k.crane,.rsl ((Qs rowI) k.vans) 0 k.vans.length]
abbrev Qbr (be:BPart):List AV:=[.int .i64 be.w,.int .i64 be.m,.int .i64 be.pins,.rsl (rowI be.needs) 0 be.needs.length]
abbrev qi (e:Int) (k:BKit):AV:=.bool (Qa e 0 ((k.parts.length:Int) - 1))
abbrev z25_4 (e:Int) (k:BKit):List AV:=[.int .i64 e,.int .i64 0,.int .i64 ((k.parts.length:Int) - 1)]
abbrev z25_5 (k:BKit) (g1:Nat) (v1:List Int):List Blk:=[⟨true,0,1,true,(yG k),false⟩,⟨true,g1,1,true,(rowI v1),true⟩]
theorem p25_start_0 (k:BKit) {E:Env} {res:AV} (hE:Qe Try.prog 25 res E) (ho:AllP [(decide ((k.parts.length:Int) > 16))=true,true=true,true=true])
 (hr:AvLe (.int .i64 80) res):G Try.prog E [.code (Qc Try.prog 25)] ⟨[.agg (yG k)]++unds (Try.f25.ntmps - 1),[]⟩ :=
 Qb (n:=400) (evs:=[.b true,.b true,.b true]) (obs:=_) hE Try.func25 Qf (by kernel_rfl) ho hr
theorem p25_start_1 (k:BKit) {E:Env} {res:AV} (hE:Qe Try.prog 25 res E) (ho:AllP [(decide ((k.parts.length:Int) > 16))=false,(decide ((k.vans.length:Int) > 6))=true,true=true])
 (hr:AvLe (.int .i64 80) res):G Try.prog E [.code (Qc Try.prog 25)] ⟨[.agg (yG k)]++unds (Try.f25.ntmps - 1),[]⟩ :=
 Qb (n:=400) (evs:=[.b false,.b true,.b true]) (obs:=_) hE Try.func25 Qf (by kernel_rfl) ho hr
theorem p25_start_2 (k:BKit) {E:Env} {res:AV} (hE:Qe Try.prog 25 res E) (ho:AllP [(decide ((k.parts.length:Int) > 16))=false,(decide ((k.vans.length:Int) > 6))=false,Qd Try.prog (.clos 73 [] []) [.int .i64 k.crane,.int .i64 1,.int .i64 1000000] (.bool (Qa k.crane 1 1000000)),(!(Qa k.crane 1 1000000))=true])
 (hr:AvLe (.int .i64 80) res):G Try.prog E [.code (Qc Try.prog 25)] ⟨[.agg (yG k)]++unds (Try.f25.ntmps - 1),[]⟩ :=
 Qb (n:=400) (evs:=[.b false,.b false,.v (.bool (Qa k.crane 1 1000000)),.b true]) (obs:=_) hE Try.func25 Qf (by kernel_rfl) ho hr
theorem p25_start_3 (k:BKit) {E:Env} {rv:AV} (hE:Qe Try.prog 25 rv E) (ho:AllP [(decide ((k.parts.length:Int) > 16))=false,(decide ((k.vans.length:Int) > 6))=false,Qd Try.prog (.clos 73 [] []) [.int .i64 k.crane,.int .i64 1,.int .i64 1000000] (.bool (Qa k.crane 1 1000000)),(!(Qa k.crane 1 1000000))=false])
 (hg:G Try.prog E (f25K0 Try.prog) ⟨([J,.ptr 0 0 0,J,.int .i64 0]++Js 154),[⟨true,0,1,true,(yG k),false⟩]⟩):G Try.prog E [.code (Qc Try.prog 25)] ⟨[.agg (yG k)]++unds (Try.f25.ntmps - 1),[]⟩ :=
 Qh (n:=400) (ds:=[]) (cs:=[]) (live:=[1,3]) (m:=1) (evs:=[.b false,.b false,.v (.bool (Qa k.crane 1 1000000)),.b false,.stop]) (obs:=_) hE.2.1 (hE.nogh _) Qf (by kernel_rfl) ho hg
theorem f25W (k:BKit) {E:Env} {rv:Int} (hE:Qe Try.prog 25 (.int .i64 rv) E)
 (h:(((k.parts.length:Int) > 16→rv=80)∧(¬ ((k.parts.length:Int) > 16)→(((k.vans.length:Int) > 6→rv=80)∧(¬ ((k.vans.length:Int) > 6)→(((Qa k.crane 1 1000000)=false→rv=80)∧((Qa k.crane 1 1000000)=true→f25G0 E k 0))))))):G Try.prog E [.code (Qc Try.prog 25)] ⟨[.agg [.rsl (QF k.parts) 0 k.parts.length,.int .i64 k.crane,.rsl ((Qs rowI) k.vans) 0 k.vans.length]]++unds (Try.f25.ntmps - 1),[]⟩:=by
 rcases bft (decide ((k.parts.length:Int) > 16)) with hc0 | hc0
 · have h:=h.1 (odt hc0)
   exact p25_start_0 k hE ⟨hc0,rfl,rfl,trivial⟩ (AvLe.of_eq (by rw [h]; try rfl))
 · have h:=h.2 (odf hc0)
   rcases bft (decide ((k.vans.length:Int) > 6)) with hc1 | hc1
   · have h:=h.1 (odt hc1)
     exact p25_start_1 k hE ⟨hc0,hc1,rfl,trivial⟩ (AvLe.of_eq (by rw [h]; try rfl))
   · have h:=h.2 (odf hc1)
     rcases bft (!(Qa k.crane 1 1000000)) with hc2 | hc2
     · have h:=h.1 (bnT hc2)
       exact p25_start_2 k hE ⟨hc0,hc1,(u73 (QT k.crane 1 1000000)),hc2,trivial⟩ (AvLe.of_eq (by rw [h]; try rfl))
     · have h:=h.2 (bnF hc2)
       exact p25_start_3 k hE ⟨hc0,hc1,(u73 (QT k.crane 1 1000000)),hc2,trivial⟩ h
theorem p25_0_0 (k:BKit) (i:Nat) (be:BPart) {E:Env} {res:AV} (hE:Qe Try.prog 25 res E) (ho:AllP [(decide ((i:Int)<(k.parts.length:Int)))=true,0≤(i:Int)∧(i:Int)<(k.parts.length:Int),((QF k.parts).drop (0+(Int.toNat (i:Int))*4)).take 4=(Qbr be),4≤4,Qd Try.prog (.clos 73 [] []) [.int .i64 be.w,.int .i64 1,.int .i64 1000000] (.bool (Qa be.w 1 1000000)),(!(Qa be.w 1 1000000))=true,true=true,true=true])
 (hr:AvLe (.int .i64 80) res):G Try.prog E (f25K0 Try.prog) (f25S0 k i ) :=
 Qb (n:=400) (evs:=[.b true,.auto,.ld (.agg (Qbr be)),.v (.bool (Qa be.w 1 1000000)),.b true,.b true,.b true]) (obs:=_) hE Try.func25 Qf (by kernel_rfl) ho hr
theorem p25_0_1 (k:BKit) (i:Nat) (be:BPart) {E:Env} {res:AV} (hE:Qe Try.prog 25 res E) (ho:AllP [(decide ((i:Int)<(k.parts.length:Int)))=true,0≤(i:Int)∧(i:Int)<(k.parts.length:Int),((QF k.parts).drop (0+(Int.toNat (i:Int))*4)).take 4=(Qbr be),4≤4,Qd Try.prog (.clos 73 [] []) [.int .i64 be.w,.int .i64 1,.int .i64 1000000] (.bool (Qa be.w 1 1000000)),(!(Qa be.w 1 1000000))=false,Qd Try.prog (.clos 73 [] []) [.int .i64 be.m,.int .i64 1,.int .i64 100] (.bool (Qa be.m 1 100)),(!(Qa be.m 1 100))=true,true=true])
 (hr:AvLe (.int .i64 80) res):G Try.prog E (f25K0 Try.prog) (f25S0 k i ) :=
 Qb (n:=400) (evs:=[.b true,.auto,.ld (.agg (Qbr be)),.v (.bool (Qa be.w 1 1000000)),.b false,.v (.bool (Qa be.m 1 100)),.b true,.b true]) (obs:=_) hE Try.func25 Qf (by kernel_rfl) ho hr
theorem p25_0_2 (k:BKit) (i:Nat) (be:BPart) {E:Env} {res:AV} (hE:Qe Try.prog 25 res E) (ho:AllP [(decide ((i:Int)<(k.parts.length:Int)))=true,0≤(i:Int)∧(i:Int)<(k.parts.length:Int),((QF k.parts).drop (0+(Int.toNat (i:Int))*4)).take 4=(Qbr be),4≤4,Qd Try.prog (.clos 73 [] []) [.int .i64 be.w,.int .i64 1,.int .i64 1000000] (.bool (Qa be.w 1 1000000)),(!(Qa be.w 1 1000000))=false,Qd Try.prog (.clos 73 [] []) [.int .i64 be.m,.int .i64 1,.int .i64 100] (.bool (Qa be.m 1 100)),(!(Qa be.m 1 100))=false,Qd Try.prog (.clos 73 [] []) [.int .i64 be.pins,.int .i64 0,.int .i64 9] (.bool (Qa be.pins 0 9)),(!(Qa be.pins 0 9))=true])
 (hr:AvLe (.int .i64 80) res):G Try.prog E (f25K0 Try.prog) (f25S0 k i ) :=
 Qb (n:=400) (evs:=[.b true,.auto,.ld (.agg (Qbr be)),.v (.bool (Qa be.w 1 1000000)),.b false,.v (.bool (Qa be.m 1 100)),.b false,.v (.bool (Qa be.pins 0 9)),.b true]) (obs:=_) hE Try.func25 Qf (by kernel_rfl) ho hr
theorem p25_0_3 (k:BKit) (i:Nat) (be:BPart) {E:Env} {rv:AV} (hE:Qe Try.prog 25 rv E) (ho:AllP [(decide ((i:Int)<(k.parts.length:Int)))=true,0≤(i:Int)∧(i:Int)<(k.parts.length:Int),((QF k.parts).drop (0+(Int.toNat (i:Int))*4)).take 4=(Qbr be),4≤4,Qd Try.prog (.clos 73 [] []) [.int .i64 be.w,.int .i64 1,.int .i64 1000000] (.bool (Qa be.w 1 1000000)),(!(Qa be.w 1 1000000))=false,Qd Try.prog (.clos 73 [] []) [.int .i64 be.m,.int .i64 1,.int .i64 100] (.bool (Qa be.m 1 100)),(!(Qa be.m 1 100))=false,Qd Try.prog (.clos 73 [] []) [.int .i64 be.pins,.int .i64 0,.int .i64 9] (.bool (Qa be.pins 0 9)),(!(Qa be.pins 0 9))=false])
 (hg:G Try.prog E (Qas Try.prog) ⟨([J,.ptr 0 0 0,J,.int .i64 (i:Int),.ptr 1 0 0,.int .i64 0]++Js 152),[⟨true,0,1,true,(yG k),false⟩,⟨true,0,1,true,(Qbr be),false⟩]⟩):G Try.prog E (f25K0 Try.prog) (f25S0 k i ) :=
 Qh (n:=400) (ds:=[]) (cs:=[]) (live:=[1,3,4,5]) (m:=2) (evs:=[.b true,.auto,.ld (.agg (Qbr be)),.v (.bool (Qa be.w 1 1000000)),.b false,.v (.bool (Qa be.m 1 100)),.b false,.v (.bool (Qa be.pins 0 9)),.b false,.stop]) (obs:=_) hE.2.1 (hE.nogh _) Qf (by kernel_rfl) ho hg
theorem p25_0_4 (k:BKit) (i:Nat) {E:Env} {rv:AV} (hE:Qe Try.prog 25 rv E) (ho:AllP [(decide ((i:Int)<(k.parts.length:Int)))=false,0≤(k.parts.length:Int)∧(k.parts.length:Int)≤(k.parts.length:Int)∧(k.parts.length:Int)≤2147483648])
 (hg:G Try.prog E (f25K2 Try.prog) ⟨([J,.ptr 0 0 0,J,J,J,J,.sl 1 0 0 (Int.toNat (k.parts.length:Int)) 1,.int .i64 0]++Js 150),[⟨true,0,1,true,(yG k),false⟩,⟨true,0,1,true,((List.replicate (Int.toNat (k.parts.length:Int)) ([.int .i64 0]:List AV)).flatten),true⟩]⟩):G Try.prog E (f25K0 Try.prog) (f25S0 k i ) :=
 Qh (n:=400) (ds:=[]) (cs:=[]) (live:=[1,6,7]) (m:=2) (evs:=[.b false,.stop]) (obs:=_) hE.2.1 (hE.nogh _) Qf (by kernel_rfl) ho hg
theorem f25W0 (k:BKit) (i:Nat) {E:Env} {rv:Int} (hE:Qe Try.prog 25 (.int .i64 rv) E)
 (h:(((i:Int)<(k.parts.length:Int)→(∃ be:BPart,k.parts[i]?=some be∧(((Qa be.w 1 1000000)=false→rv=80)∧((Qa be.w 1 1000000)=true→(((Qa be.m 1 100)=false→rv=80)∧((Qa be.m 1 100)=true→(((Qa be.pins 0 9)=false→rv=80)∧((Qa be.pins 0 9)=true→f25G1 E k be.w be.m be.pins be.needs 0 i))))))))∧(¬ ((i:Int)<(k.parts.length:Int))→(k.parts.length≤2147483648∧f25G2 E k (List.replicate k.parts.length (0:Int)) 0)))):f25G0 E k i:=by
 rcases bft (decide ((i:Int)<(k.parts.length:Int))) with hc0 | hc0
 · have h:=h.1 (odt hc0)
   obtain ⟨be,h1,h⟩:=h
   rcases bft (!(Qa be.w 1 1000000)) with hc1 | hc1
   · have h:=h.1 (bnT hc1)
     exact p25_0_0 k i be hE ⟨hc0,(Qn h1),(rp cBp 4 0 4 h1),(by decide),(u73 (QT be.w 1 1000000)),hc1,rfl,rfl,trivial⟩ (AvLe.of_eq (by rw [h]; try rfl))
   · have h:=h.2 (bnF hc1)
     rcases bft (!(Qa be.m 1 100)) with hc2 | hc2
     · have h:=h.1 (bnT hc2)
       exact p25_0_1 k i be hE ⟨hc0,(Qn h1),(rp cBp 4 0 4 h1),(by decide),(u73 (QT be.w 1 1000000)),hc1,(u73 (QT be.m 1 100)),hc2,rfl,trivial⟩ (AvLe.of_eq (by rw [h]; try rfl))
     · have h:=h.2 (bnF hc2)
       rcases bft (!(Qa be.pins 0 9)) with hc3 | hc3
       · have h:=h.1 (bnT hc3)
         exact p25_0_2 k i be hE ⟨hc0,(Qn h1),(rp cBp 4 0 4 h1),(by decide),(u73 (QT be.w 1 1000000)),hc1,(u73 (QT be.m 1 100)),hc2,(u73 (QT be.pins 0 9)),hc3,trivial⟩ (AvLe.of_eq (by rw [h]; try rfl))
       · have h:=h.2 (bnF hc3)
         exact p25_0_3 k i be hE ⟨hc0,(Qn h1),(rp cBp 4 0 4 h1),(by decide),(u73 (QT be.w 1 1000000)),hc1,(u73 (QT be.m 1 100)),hc2,(u73 (QT be.pins 0 9)),hc3,trivial⟩ h
 · have h:=h.2 (odf hc0)
   obtain ⟨h1,h⟩:=h
   refine p25_0_4 k i hE ⟨hc0,⟨by omega,by omega,by have:=h1; omega⟩,trivial⟩ ?_
   have h:=(h 0)
   simp only [f25G2,f25S2,List.length_set,List.length_replicate] at h
   rw [(show (List.replicate (Int.toNat (k.parts.length:Int)) ([.int .i64 0]:List AV)).flatten=rowI (List.replicate k.parts.length (0:Int)) from VI cI _ _)]
   exact h
theorem p25_1_0 (k:BKit) (v1_0:Int) (v1_1:Int) (v1_2:Int) (v1_3:(List Int)) (n:Nat) (i:Nat) (e:Int) {E:Env} {res:AV} (hE:Qe Try.prog 25 res E) (ho:AllP [(decide ((n:Int)<(v1_3.length:Int)))=true,0≤(n:Int)∧(n:Int)<(v1_3.length:Int),((rowI v1_3).drop (0+(Int.toNat (n:Int))*1)).take 1=[.int .i64 e],InR .i64 ((k.parts.length:Int) - 1),Qd Try.prog (.clos 73 [] []) (z25_4 e k) (qi e k),(!(Qa e 0 ((k.parts.length:Int) - 1)))=true,true=true,true=true])
 (hr:AvLe (.int .i64 80) res):G Try.prog E (Qas Try.prog) (f25S1 k v1_0 v1_1 v1_2 v1_3 n i ) :=
 Qb (n:=400) (evs:=[.b true,.auto,.ld (.int .i64 e),.v (qi e k),.b true,.b true,.b true]) (obs:=_) hE Try.func25 Qf (by kernel_rfl) ho hr
theorem p25_1_1 (k:BKit) (v1_0:Int) (v1_1:Int) (v1_2:Int) (v1_3:(List Int)) (n:Nat) (i:Nat) (e:Int) {E:Env} {res:AV} (hE:Qe Try.prog 25 res E) (ho:AllP [(decide ((n:Int)<(v1_3.length:Int)))=true,0≤(n:Int)∧(n:Int)<(v1_3.length:Int),((rowI v1_3).drop (0+(Int.toNat (n:Int))*1)).take 1=[.int .i64 e],InR .i64 ((k.parts.length:Int) - 1),Qd Try.prog (.clos 73 [] []) (z25_4 e k) (qi e k),(!(Qa e 0 ((k.parts.length:Int) - 1)))=false,0≤(n:Int)∧(n:Int)<(v1_3.length:Int),((rowI v1_3).drop (0+(Int.toNat (n:Int))*1)).take 1=[.int .i64 e],(e == (i:Int))=true,true=true])
 (hr:AvLe (.int .i64 80) res):G Try.prog E (Qas Try.prog) (f25S1 k v1_0 v1_1 v1_2 v1_3 n i ) :=
 Qb (n:=400) (evs:=[.b true,.auto,.ld (.int .i64 e),.v (qi e k),.b false,.auto,.ld (.int .i64 e),.b true,.b true]) (obs:=_) hE Try.func25 Qf (by kernel_rfl) ho hr
theorem p25_1_2 (k:BKit) (v1_0:Int) (v1_1:Int) (v1_2:Int) (v1_3:(List Int)) (n:Nat) (i:Nat) (e:Int) (e1:Int) {E:Env} {res:AV} (hE:Qe Try.prog 25 res E) (ho:AllP [(decide ((n:Int)<(v1_3.length:Int)))=true,0≤(n:Int)∧(n:Int)<(v1_3.length:Int),((rowI v1_3).drop (0+(Int.toNat (n:Int))*1)).take 1=[.int .i64 e],InR .i64 ((k.parts.length:Int) - 1),Qd Try.prog (.clos 73 [] []) (z25_4 e k) (qi e k),(!(Qa e 0 ((k.parts.length:Int) - 1)))=false,0≤(n:Int)∧(n:Int)<(v1_3.length:Int),((rowI v1_3).drop (0+(Int.toNat (n:Int))*1)).take 1=[.int .i64 e],(e == (i:Int))=false,(decide ((n:Int) > 0))=true,0≤(n:Int)∧(n:Int)<(v1_3.length:Int),((rowI v1_3).drop (0+(Int.toNat (n:Int))*1)).take 1=[.int .i64 e],InR .i64 ((n:Int) - 1),0≤((n:Int) - 1)∧((n:Int) - 1)<(v1_3.length:Int),((rowI v1_3).drop (0+(Int.toNat ((n:Int) - 1))*1)).take 1=[.int .i64 e1],(decide (e≤e1))=true])
 (hr:AvLe (.int .i64 80) res):G Try.prog E (Qas Try.prog) (f25S1 k v1_0 v1_1 v1_2 v1_3 n i ) :=
 Qb (n:=400) (evs:=[.b true,.auto,.ld (.int .i64 e),.v (qi e k),.b false,.auto,.ld (.int .i64 e),.b false,.b true,.auto,.ld (.int .i64 e),.auto,.ld (.int .i64 e1),.b true]) (obs:=_) hE Try.func25 Qf (by kernel_rfl) ho hr
theorem p25_1_3 (k:BKit) (v1_0:Int) (v1_1:Int) (v1_2:Int) (v1_3:(List Int)) (n:Nat) (i:Nat) (e:Int) (e1:Int) {E:Env} {rv:AV} (hE:Qe Try.prog 25 rv E) (ho:AllP [(decide ((n:Int)<(v1_3.length:Int)))=true,0≤(n:Int)∧(n:Int)<(v1_3.length:Int),((rowI v1_3).drop (0+(Int.toNat (n:Int))*1)).take 1=[.int .i64 e],InR .i64 ((k.parts.length:Int) - 1),Qd Try.prog (.clos 73 [] []) (z25_4 e k) (qi e k),(!(Qa e 0 ((k.parts.length:Int) - 1)))=false,0≤(n:Int)∧(n:Int)<(v1_3.length:Int),((rowI v1_3).drop (0+(Int.toNat (n:Int))*1)).take 1=[.int .i64 e],(e == (i:Int))=false,(decide ((n:Int) > 0))=true,0≤(n:Int)∧(n:Int)<(v1_3.length:Int),((rowI v1_3).drop (0+(Int.toNat (n:Int))*1)).take 1=[.int .i64 e],InR .i64 ((n:Int) - 1),0≤((n:Int) - 1)∧((n:Int) - 1)<(v1_3.length:Int),((rowI v1_3).drop (0+(Int.toNat ((n:Int) - 1))*1)).take 1=[.int .i64 e1],(decide (e≤e1))=false,InR .i64 ((n:Int)+1)])
 (hg:G Try.prog E (Qas Try.prog) ⟨([J,.ptr 0 0 0,J,.int .i64 (i:Int),.ptr 1 0 0,.int .i64 ((n:Int)+1)]++Js 152),[⟨true,0,1,true,(yG k),false⟩,⟨true,0,1,true,[.int .i64 v1_0,.int .i64 v1_1,.int .i64 v1_2,.rsl (rowI v1_3) 0 v1_3.length],false⟩]⟩):G Try.prog E (Qas Try.prog) (f25S1 k v1_0 v1_1 v1_2 v1_3 n i ) :=
 Qh (n:=400) (ds:=[]) (cs:=[]) (live:=[1,3,4,5]) (m:=2) (evs:=[.b true,.auto,.ld (.int .i64 e),.v (qi e k),.b false,.auto,.ld (.int .i64 e),.b false,.b true,.auto,.ld (.int .i64 e),.auto,.ld (.int .i64 e1),.b false,.stop]) (obs:=_) hE.2.1 (hE.nogh _) Qf (by kernel_rfl) ho hg
theorem p25_1_4 (k:BKit) (v1_0:Int) (v1_1:Int) (v1_2:Int) (v1_3:(List Int)) (n:Nat) (i:Nat) (e:Int) {E:Env} {rv:AV} (hE:Qe Try.prog 25 rv E) (ho:AllP [(decide ((n:Int)<(v1_3.length:Int)))=true,0≤(n:Int)∧(n:Int)<(v1_3.length:Int),((rowI v1_3).drop (0+(Int.toNat (n:Int))*1)).take 1=[.int .i64 e],InR .i64 ((k.parts.length:Int) - 1),Qd Try.prog (.clos 73 [] []) (z25_4 e k) (qi e k),(!(Qa e 0 ((k.parts.length:Int) - 1)))=false,0≤(n:Int)∧(n:Int)<(v1_3.length:Int),((rowI v1_3).drop (0+(Int.toNat (n:Int))*1)).take 1=[.int .i64 e],(e == (i:Int))=false,(decide ((n:Int) > 0))=false,false=false,InR .i64 ((n:Int)+1)])
 (hg:G Try.prog E (Qas Try.prog) ⟨([J,.ptr 0 0 0,J,.int .i64 (i:Int),.ptr 1 0 0,.int .i64 ((n:Int)+1)]++Js 152),[⟨true,0,1,true,(yG k),false⟩,⟨true,0,1,true,[.int .i64 v1_0,.int .i64 v1_1,.int .i64 v1_2,.rsl (rowI v1_3) 0 v1_3.length],false⟩]⟩):G Try.prog E (Qas Try.prog) (f25S1 k v1_0 v1_1 v1_2 v1_3 n i ) :=
 Qh (n:=400) (ds:=[]) (cs:=[]) (live:=[1,3,4,5]) (m:=2) (evs:=[.b true,.auto,.ld (.int .i64 e),.v (qi e k),.b false,.auto,.ld (.int .i64 e),.b false,.b false,.b false,.stop]) (obs:=_) hE.2.1 (hE.nogh _) Qf (by kernel_rfl) ho hg
theorem p25_1_5 (k:BKit) (v1_0:Int) (v1_1:Int) (v1_2:Int) (v1_3:(List Int)) (n:Nat) (i:Nat) {E:Env} {rv:AV} (hE:Qe Try.prog 25 rv E) (ho:AllP [(decide ((n:Int)<(v1_3.length:Int)))=false,InR .i64 ((i:Int)+1)])
 (hg:G Try.prog E (f25K0 Try.prog) ⟨([J,.ptr 0 0 0,J,.int .i64 ((i:Int)+1)]++Js 154),[⟨true,0,1,true,(yG k),false⟩]⟩):G Try.prog E (Qas Try.prog) (f25S1 k v1_0 v1_1 v1_2 v1_3 n i ) :=
 Qh (n:=400) (ds:=[]) (cs:=[]) (live:=[1,3]) (m:=1) (evs:=[.b false,.stop]) (obs:=_) hE.2.1 (hE.nogh _) Qf (by kernel_rfl) ho hg
theorem f25W1 (k:BKit) (v1_0:Int) (v1_1:Int) (v1_2:Int) (v1_3:(List Int)) (n:Nat) (i:Nat) {E:Env} {rv:Int} (hE:Qe Try.prog 25 (.int .i64 rv) E)
 (h:(((n:Int)<(v1_3.length:Int)→(∃ e:Int,v1_3[n]?=some e∧((I6 ((k.parts.length:Int) - 1))∧(((Qa e 0 ((k.parts.length:Int) - 1))=false→rv=80)∧((Qa e 0 ((k.parts.length:Int) - 1))=true→((e=(i:Int)→rv=80)∧(¬ (e=(i:Int))→(((n:Int) > 0→((I6 ((n:Int) - 1))∧(0≤((n:Int) - 1)∧(∃ e1:Int,v1_3[Int.toNat ((n:Int) - 1)]?=some e1∧((e≤e1→rv=80)∧(¬ (e≤e1)→((I6 ((n:Int)+1))∧f25G1 E k v1_0 v1_1 v1_2 v1_3 (n+1) i)))))))∧(¬ ((n:Int) > 0)→((I6 ((n:Int)+1))∧f25G1 E k v1_0 v1_1 v1_2 v1_3 (n+1) i))))))))))∧(¬ ((n:Int)<(v1_3.length:Int))→((I6 ((i:Int)+1))∧f25G0 E k (i+1))))):f25G1 E k v1_0 v1_1 v1_2 v1_3 n i:=by
 rcases bft (decide ((n:Int)<(v1_3.length:Int))) with hc0 | hc0
 · have h:=h.1 (odt hc0)
   obtain ⟨e,h1,h⟩:=h
   obtain ⟨q4_1,h⟩:=h
   rcases bft (!(Qa e 0 ((k.parts.length:Int) - 1))) with hc1 | hc1
   · have h:=h.1 (bnT hc1)
     exact p25_1_0 k v1_0 v1_1 v1_2 v1_3 n i e hE ⟨hc0,(Qn h1),(rp cI 1 0 1 h1),q4_1,(u73 (QT e 0 ((k.parts.length:Int) - 1))),hc1,rfl,rfl,trivial⟩ (AvLe.of_eq (by rw [h]; try rfl))
   · have h:=h.2 (bnF hc1)
     rcases bft (e == (i:Int)) with hc2 | hc2
     · have h:=h.1 (eq_of_beq hc2)
       exact p25_1_1 k v1_0 v1_1 v1_2 v1_3 n i e hE ⟨hc0,(Qn h1),(rp cI 1 0 1 h1),q4_1,(u73 (QT e 0 ((k.parts.length:Int) - 1))),hc1,(Qn h1),(rp cI 1 0 1 h1),hc2,rfl,trivial⟩ (AvLe.of_eq (by rw [h]; try rfl))
     · have h:=h.2 (ne_of_beq_false hc2)
       rcases bft (decide ((n:Int) > 0)) with hc3 | hc3
       · have h:=h.1 (odt hc3)
         obtain ⟨q13_4,h⟩:=h
         obtain ⟨h3,h⟩:=h
         obtain ⟨e1,h2,h⟩:=h
         rcases bft (decide (e≤e1)) with hc4 | hc4
         · have h:=h.1 (odt hc4)
           exact p25_1_2 k v1_0 v1_1 v1_2 v1_3 n i e e1 hE ⟨hc0,(Qn h1),(rp cI 1 0 1 h1),q4_1,(u73 (QT e 0 ((k.parts.length:Int) - 1))),hc1,(Qn h1),(rp cI 1 0 1 h1),hc2,hc3,(Qn h1),(rp cI 1 0 1 h1),q13_4,(Qj h3 h2),(rp cI 1 0 1 h2),hc4,trivial⟩ (AvLe.of_eq (by rw [h]; try rfl))
         · have h:=h.2 (odf hc4)
           obtain ⟨q18_5,h⟩:=h
           exact p25_1_3 k v1_0 v1_1 v1_2 v1_3 n i e e1 hE ⟨hc0,(Qn h1),(rp cI 1 0 1 h1),q4_1,(u73 (QT e 0 ((k.parts.length:Int) - 1))),hc1,(Qn h1),(rp cI 1 0 1 h1),hc2,hc3,(Qn h1),(rp cI 1 0 1 h1),q13_4,(Qj h3 h2),(rp cI 1 0 1 h2),hc4,q18_5,trivial⟩ h
       · have h:=h.2 (odf hc3)
         obtain ⟨q12_4,h⟩:=h
         exact p25_1_4 k v1_0 v1_1 v1_2 v1_3 n i e hE ⟨hc0,(Qn h1),(rp cI 1 0 1 h1),q4_1,(u73 (QT e 0 ((k.parts.length:Int) - 1))),hc1,(Qn h1),(rp cI 1 0 1 h1),hc2,hc3,rfl,q12_4,trivial⟩ h
 · have h:=h.2 (odf hc0)
   obtain ⟨q1_1,h⟩:=h
   exact p25_1_5 k v1_0 v1_1 v1_2 v1_3 n i hE ⟨hc0,q1_1,trivial⟩ h
theorem p25_2_0 (k:BKit) (v1:List Int) (v:Nat) (g1:Nat) {E:Env} {rv:AV} (hE:Qe Try.prog 25 rv E) (ho:AllP [(decide ((v:Int)<(k.vans.length:Int)))=true])
 (hg:G Try.prog E (f25K3 Try.prog) ⟨([J,.ptr 0 0 0,J,J,J,J,.sl 1 g1 0 v1.length 1,.int .i64 (v:Int),.int .i64 0]++Js 149),(z25_5 k g1 v1)⟩):G Try.prog E (f25K2 Try.prog) (f25S2 k v1 v g1) :=
 Qh (n:=400) (ds:=[]) (cs:=[]) (live:=[1,6,7,8]) (m:=2) (evs:=[.b true,.stop]) (obs:=_) hE.2.1 (hE.nogh _) Qf (by kernel_rfl) ho hg
theorem p25_2_1 (k:BKit) (v1:List Int) (v:Nat) (g1:Nat) {E:Env} {rv:AV} (hE:Qe Try.prog 25 rv E) (ho:AllP [(decide ((v:Int)<(k.vans.length:Int)))=false])
 (hg:G Try.prog E (f25K4 Try.prog) ⟨(jj 6 ([.sl 1 g1 0 v1.length 1,J,J,.int .i64 0]++Js 148)),(z25_5 k g1 v1)⟩):G Try.prog E (f25K2 Try.prog) (f25S2 k v1 v g1) :=
 Qh (n:=400) (ds:=[]) (cs:=[]) (live:=[6,9]) (m:=2) (evs:=[.b false,.stop]) (obs:=_) hE.2.1 (hE.nogh _) Qf (by kernel_rfl) ho hg
theorem f25W2 (k:BKit) (v1:List Int) (v:Nat) {E:Env} {rv:Int} (hE:Qe Try.prog 25 (.int .i64 rv) E)
 (h:(((v:Int)<(k.vans.length:Int)→f25G3 E k v1 0 v)∧(¬ ((v:Int)<(k.vans.length:Int))→f25G4 E k v1 0))):f25G2 E k v1 v:=by
 intro g1
 rcases bft (decide ((v:Int)<(k.vans.length:Int))) with hc0 | hc0
 · have h:=h.1 (odt hc0)
   exact p25_2_0 k v1 v g1 hE ⟨hc0,trivial⟩ (h g1)
 · have h:=h.2 (odf hc0)
   exact p25_2_1 k v1 v g1 hE ⟨hc0,trivial⟩ (h g1)
theorem p25_3_0 (k:BKit) (v1:List Int) (i:Nat) (v:Nat) (g1:Nat) (le:(List Int)) (e:Int) {E:Env} {res:AV} (hE:Qe Try.prog 25 res E) (ho:AllP [0≤(v:Int)∧(v:Int)<(k.vans.length:Int),(((Qs rowI) k.vans).drop (0+(Int.toNat (v:Int))*1)).take 1=[.rsl (rowI le) 0 le.length],(decide ((i:Int)<(le.length:Int)))=true,0≤(v:Int)∧(v:Int)<(k.vans.length:Int),(((Qs rowI) k.vans).drop (0+(Int.toNat (v:Int))*1)).take 1=[.rsl (rowI le) 0 le.length],0≤(i:Int)∧(i:Int)<(le.length:Int),((rowI le).drop (0+(Int.toNat (i:Int))*1)).take 1=[.int .i64 e],InR .i64 ((k.parts.length:Int) - 1),Qd Try.prog (.clos 73 [] []) (z25_4 e k) (qi e k),(!(Qa e 0 ((k.parts.length:Int) - 1)))=true])
 (hr:AvLe (.int .i64 80) res):G Try.prog E (f25K3 Try.prog) (f25S3 k v1 i v g1) :=
 Qb (n:=400) (evs:=[.auto,.ld (.rsl (rowI le) 0 le.length),.b true,.auto,.ld (.rsl (rowI le) 0 le.length),.ld (.int .i64 e),.v (qi e k),.b true]) (obs:=_) hE Try.func25 Qf (by kernel_rfl) ho hr
theorem p25_3_1 (k:BKit) (v1:List Int) (i:Nat) (v:Nat) (g1:Nat) (le:(List Int)) (e:Int) (e1:Int) {E:Env} {rv:AV} (hE:Qe Try.prog 25 rv E) (ho:AllP [0≤(v:Int)∧(v:Int)<(k.vans.length:Int),(((Qs rowI) k.vans).drop (0+(Int.toNat (v:Int))*1)).take 1=[.rsl (rowI le) 0 le.length],(decide ((i:Int)<(le.length:Int)))=true,0≤(v:Int)∧(v:Int)<(k.vans.length:Int),(((Qs rowI) k.vans).drop (0+(Int.toNat (v:Int))*1)).take 1=[.rsl (rowI le) 0 le.length],0≤(i:Int)∧(i:Int)<(le.length:Int),((rowI le).drop (0+(Int.toNat (i:Int))*1)).take 1=[.int .i64 e],InR .i64 ((k.parts.length:Int) - 1),Qd Try.prog (.clos 73 [] []) (z25_4 e k) (qi e k),(!(Qa e 0 ((k.parts.length:Int) - 1)))=false,0≤(v:Int)∧(v:Int)<(k.vans.length:Int),(((Qs rowI) k.vans).drop (0+(Int.toNat (v:Int))*1)).take 1=[.rsl (rowI le) 0 le.length],0≤(i:Int)∧(i:Int)<(le.length:Int),((rowI le).drop (0+(Int.toNat (i:Int))*1)).take 1=[.int .i64 e],0≤e∧e<(v1.length:Int),g1=g1,g1=g1,((rowI v1).drop (0+(Int.toNat e)*1)).take 1=[.int .i64 e1],0≤e∧e<(v1.length:Int),g1=g1,((0+(Int.toNat e)*1)+1)≤(rowI v1).length,g1=g1,InR .i64 ((i:Int)+1)])
 (hg:G Try.prog E (f25K3 Try.prog) ⟨([J,.ptr 0 0 0,J,J,J,J,.sl 1 g1 0 v1.length 1,.int .i64 (v:Int),.int .i64 ((i:Int)+1)]++Js 149),[⟨true,0,1,true,(yG k),false⟩,⟨true,g1,1,true,(Qw (rowI v1) (0+(Int.toNat e)*1) [.int .i64 (IntKind.i64.wrap (e1+1))]),true⟩]⟩):G Try.prog E (f25K3 Try.prog) (f25S3 k v1 i v g1) :=
 Qh (n:=400) (ds:=[]) (cs:=[]) (live:=[1,6,7,8]) (m:=2) (evs:=[.auto,.ld (.rsl (rowI le) 0 le.length),.b true,.auto,.ld (.rsl (rowI le) 0 le.length),.ld (.int .i64 e),.v (qi e k),.b false,.auto,.ld (.rsl (rowI le) 0 le.length),.ld (.int .i64 e),.ld (.int .i64 e1),.wrap,.stop]) (obs:=_) hE.2.1 (hE.nogh _) Qf (by kernel_rfl) ho hg
theorem p25_3_2 (k:BKit) (v1:List Int) (i:Nat) (v:Nat) (g1:Nat) (le:(List Int)) {E:Env} {rv:AV} (hE:Qe Try.prog 25 rv E) (ho:AllP [0≤(v:Int)∧(v:Int)<(k.vans.length:Int),(((Qs rowI) k.vans).drop (0+(Int.toNat (v:Int))*1)).take 1=[.rsl (rowI le) 0 le.length],(decide ((i:Int)<(le.length:Int)))=false,InR .i64 ((v:Int)+1)])
 (hg:G Try.prog E (f25K2 Try.prog) ⟨([J,.ptr 0 0 0,J,J,J,J,.sl 1 g1 0 v1.length 1,.int .i64 ((v:Int)+1)]++Js 150),(z25_5 k g1 v1)⟩):G Try.prog E (f25K3 Try.prog) (f25S3 k v1 i v g1) :=
 Qh (n:=400) (ds:=[]) (cs:=[]) (live:=[1,6,7]) (m:=2) (evs:=[.auto,.ld (.rsl (rowI le) 0 le.length),.b false,.stop]) (obs:=_) hE.2.1 (hE.nogh _) Qf (by kernel_rfl) ho hg
theorem f25W3 (k:BKit) (v1:List Int) (i:Nat) (v:Nat) {E:Env} {rv:Int} (hE:Qe Try.prog 25 (.int .i64 rv) E)
 (h:(∃ le:(List Int),k.vans[v]?=some le∧(((i:Int)<(le.length:Int)→(∃ e:Int,le[i]?=some e∧((I6 ((k.parts.length:Int) - 1))∧(((Qa e 0 ((k.parts.length:Int) - 1))=false→rv=80)∧((Qa e 0 ((k.parts.length:Int) - 1))=true→(0≤e∧(∃ e1:Int,v1[Int.toNat e]?=some e1∧((I6 ((i:Int)+1))∧f25G3 E k (v1.set (Int.toNat e) (IntKind.i64.wrap (e1+1))) (i+1) v))))))))∧(¬ ((i:Int)<(le.length:Int))→((I6 ((v:Int)+1))∧f25G2 E k v1 (v+1)))))):f25G3 E k v1 i v:=by
 intro g1
 obtain ⟨le,h1,h⟩:=h
 rcases bft (decide ((i:Int)<(le.length:Int))) with hc0 | hc0
 · have h:=h.1 (odt hc0)
   obtain ⟨e,h2,h⟩:=h
   obtain ⟨q9_1,h⟩:=h
   rcases bft (!(Qa e 0 ((k.parts.length:Int) - 1))) with hc1 | hc1
   · have h:=h.1 (bnT hc1)
     exact p25_3_0 k v1 i v g1 le e hE ⟨(Qn h1),(rp (cLs rowI) 1 0 1 h1),hc0,(Qn h1),(rp (cLs rowI) 1 0 1 h1),(Qn h2),(rp cI 1 0 1 h2),q9_1,(u73 (QT e 0 ((k.parts.length:Int) - 1))),hc1,trivial⟩ (AvLe.of_eq (by rw [h]; try rfl))
   · have h:=h.2 (bnF hc1)
     obtain ⟨h4,h⟩:=h
     obtain ⟨e1,h3,h⟩:=h
     obtain ⟨q25_2,h⟩:=h
     refine p25_3_1 k v1 i v g1 le e e1 hE ⟨(Qn h1),(rp (cLs rowI) 1 0 1 h1),hc0,(Qn h1),(rp (cLs rowI) 1 0 1 h1),(Qn h2),(rp cI 1 0 1 h2),q9_1,(u73 (QT e 0 ((k.parts.length:Int) - 1))),hc1,(Qn h1),(rp (cLs rowI) 1 0 1 h1),(Qn h2),(rp cI 1 0 1 h2),(Qj h4 h3),rfl,rfl,(rp cI 1 0 1 h3),(Qj h4 h3),rfl,(rf cI 1 0 1 h3),rfl,q25_2,trivial⟩ ?_
     have h:=(h g1)
     simp only [f25S3,List.length_set] at h
     rw [(show Qw (rowI v1) (0+(Int.toNat e)*1) [.int .i64 (IntKind.i64.wrap (e1+1))]=rowI (v1.set (Int.toNat e) (IntKind.i64.wrap (e1+1))) from QJ cI (s:=1) (k:=0) (fun _=>rfl) h3 rfl (by first | decide | simp))]
     exact h
 · have h:=h.2 (odf hc0)
   obtain ⟨q4_1,h⟩:=h
   exact p25_3_2 k v1 i v g1 le hE ⟨(Qn h1),(rp (cLs rowI) 1 0 1 h1),hc0,q4_1,trivial⟩ (h g1)
theorem p25_4_0 (k:BKit) (v1:List Int) (i:Nat) (g1:Nat) (e:Int) {E:Env} {res:AV} (hE:Qe Try.prog 25 res E) (ho:AllP [g1=g1,(decide ((i:Int)<(v1.length:Int)))=true,0≤(i:Int)∧(i:Int)<(v1.length:Int),g1=g1,g1=g1,((rowI v1).drop (0+(Int.toNat (i:Int))*1)).take 1=[.int .i64 e],(e != 1)=true])
 (hr:AvLe (.int .i64 80) res):G Try.prog E (f25K4 Try.prog) (f25S4 k v1 i g1) :=
 Qb (n:=400) (evs:=[.b true,.ld (.int .i64 e),.b true]) (obs:=_) hE Try.func25 Qf (by kernel_rfl) ho hr
theorem p25_4_1 (k:BKit) (v1:List Int) (i:Nat) (g1:Nat) (e:Int) {E:Env} {rv:AV} (hE:Qe Try.prog 25 rv E) (ho:AllP [g1=g1,(decide ((i:Int)<(v1.length:Int)))=true,0≤(i:Int)∧(i:Int)<(v1.length:Int),g1=g1,g1=g1,((rowI v1).drop (0+(Int.toNat (i:Int))*1)).take 1=[.int .i64 e],(e != 1)=false,InR .i64 ((i:Int)+1)])
 (hg:G Try.prog E (f25K4 Try.prog) ⟨(jj 6 ([.sl 1 g1 0 v1.length 1,J,J,.int .i64 ((i:Int)+1)]++Js 148)),(z25_5 k g1 v1)⟩):G Try.prog E (f25K4 Try.prog) (f25S4 k v1 i g1) :=
 Qh (n:=400) (ds:=[]) (cs:=[]) (live:=[6,9]) (m:=2) (evs:=[.b true,.ld (.int .i64 e),.b false,.stop]) (obs:=_) hE.2.1 (hE.nogh _) Qf (by kernel_rfl) ho hg
theorem p25_4_2 (k:BKit) (v1:List Int) (i:Nat) (g1:Nat) {E:Env} {res:AV} (hE:Qe Try.prog 25 res E) (ho:AllP [g1=g1,(decide ((i:Int)<(v1.length:Int)))=false])
 (hr:AvLe (.int .i64 0) res):G Try.prog E (f25K4 Try.prog) (f25S4 k v1 i g1) :=
 Qb (n:=400) (evs:=[.b false]) (obs:=_) hE Try.func25 Qf (by kernel_rfl) ho hr
theorem f25W4 (k:BKit) (v1:List Int) (i:Nat) {E:Env} {rv:Int} (hE:Qe Try.prog 25 (.int .i64 rv) E)
 (h:(((i:Int)<(v1.length:Int)→(∃ e:Int,v1[i]?=some e∧((¬ (e=1)→rv=80)∧(e=1→((I6 ((i:Int)+1))∧f25G4 E k v1 (i+1))))))∧(¬ ((i:Int)<(v1.length:Int))→rv=0))):f25G4 E k v1 i:=by
 intro g1
 rcases bft (decide ((i:Int)<(v1.length:Int))) with hc0 | hc0
 · have h:=h.1 (odt hc0)
   obtain ⟨e,h1,h⟩:=h
   rcases bft (e != 1) with hc1 | hc1
   · have h:=h.1 (bneT hc1)
     exact p25_4_0 k v1 i g1 e hE ⟨rfl,hc0,(Qn h1),rfl,rfl,(rp cI 1 0 1 h1),hc1,trivial⟩ (AvLe.of_eq (by rw [h]; try rfl))
   · have h:=h.2 (bneF hc1)
     obtain ⟨q8_2,h⟩:=h
     exact p25_4_1 k v1 i g1 e hE ⟨rfl,hc0,(Qn h1),rfl,rfl,(rp cI 1 0 1 h1),hc1,q8_2,trivial⟩ (h g1)
 · have h:=h.2 (odf hc0)
   exact p25_4_2 k v1 i g1 hE ⟨rfl,hc0,trivial⟩ (AvLe.of_eq (by rw [h]; try rfl))
theorem yb (k:BKit) (hs:KitSize k):Pure Try.prog 25 [.agg [.rsl (QF k.parts) 0 k.parts.length,.int .i64 k.crane,.rsl (Qs rowI k.vans) 0 k.vans.length]] (.int .i64 (chk8 k)):=Qu Try.func25 f25b fun E hE=>by
 refine f25W k (rv:=chk8 k) hE ⟨fun c1=>Yl ?_,fun c1=>⟨fun c2=>Yl ?_,fun c2=>⟨fun c3=>Yl ?_,fun c3=>?_⟩⟩⟩
 · unfold chkB; rw [decide_eq_false (by omega)]; rfl
 · unfold chkB; rw [decide_eq_false (show ¬ k.vans.length≤6 by omega)]; simp
 · unfold chkB; rw [c3]; simp
 have hk:chkB k=(QaL k.parts.length 0 k.parts && lies8 (vans8 k.parts.length k.vans (List.replicate k.parts.length 0))):=by
  unfold chkB; rw [decide_eq_true (show k.parts.length≤16 by omega),decide_eq_true (show k.vans.length≤6 by omega),c3]; rfl
 -- the counts
 have last:∀ (d i:Nat) (l:List Int),i+d=l.length→l.length≤16→chkB k=(l.drop i).all (· == 1)→f25G4 E k l i:=by
  intro d
  induction d with
  | zero =>
   intro i l hi hl hr
   rw [List.drop_eq_nil_of_le (by omega)] at hr
   refine f25W4 k l i (rv:=chk8 k) hE ⟨fun h=>by omega,fun _=>?_⟩
   unfold chk8; rw [if_pos (by rw [hr]; rfl)]
  | succ d ih =>
   intro i l hi hl hr
   have hx:l[i]?=some (l[i]'(by omega)):=List.getElem?_eq_getElem (by omega)
   rw [List.drop_eq_getElem_cons (by omega),List.all_cons] at hr
   generalize l[i]'(by omega)=x at hx hr
   refine f25W4 k l i (rv:=chk8 k) hE ⟨fun _=>⟨x,hx,fun q=>Yl (by rw [hr,beq_eq_false_iff_ne.2 q]; rfl),fun q=>⟨⟨by omega,by omega⟩,ih (i+1) l (by omega) hl ?_⟩⟩,fun h=>by omega⟩
   rw [hr,q]; rfl
 -- the lorries
 have van:∀ (d i j:Nat) (v l:List Int),k.vans[j]?=some v→i+d=v.length→l.length=k.parts.length→(van8 k.parts.length (v.drop i) l=none→chkB k=false)→(∀ l',van8 k.parts.length (v.drop i) l=some l'→f25G2 E k l' (j+1))→f25G3 E k l i j:=by
  intro d
  induction d with
  | zero =>
   intro i j v l hv hi hl hn hg
   rw [List.drop_eq_nil_of_le (by omega)] at hg
   have jl:=(List.getElem?_eq_some_iff.1 hv).1
   exact f25W3 k l i j (rv:=chk8 k) hE ⟨v,hv,fun h=>by omega,fun _=>⟨⟨by omega,by omega⟩,hg l rfl⟩⟩
  | succ d ih =>
   intro i j v l hv hi hl hn hg
   have hx:v[i]?=some (v[i]'(by omega)):=List.getElem?_eq_getElem (by omega)
   rw [List.drop_eq_getElem_cons (by omega)] at hn hg
   generalize v[i]'(by omega)=x at hx hn hg
   have vl:=hs.van v (List.mem_of_getElem? hv)
   simp only [van8] at hn hg
   refine f25W3 k l i j (rv:=chk8 k) hE ⟨v,hv,fun _=>⟨x,hx,⟨by omega,by omega⟩,fun q=>?_,fun q=>?_⟩,fun h=>by omega⟩
   · exact Yl (hn (if_neg (by rw [q]; exact Bool.false_ne_true)))
   · rw [if_pos q] at hn hg
     have w:=QK.1 q
     have gx:=QO (l:=l) 0 (i:=x) (by omega)
     exact ⟨w.1,_,gx,⟨by omega,by omega⟩,ih (i+1) j v _ hv (by omega) (by simpa using hl) hn hg⟩
 have vans:∀ (d j:Nat) (l:List Int),j+d=k.vans.length→l.length=k.parts.length→chkB k=lies8 (vans8 k.parts.length (k.vans.drop j) l)→f25G2 E k l j:=by
  intro d
  induction d with
  | zero =>
   intro j l hj hl hr
   rw [List.drop_eq_nil_of_le (by omega)] at hr
   refine f25W2 k l j (rv:=chk8 k) hE ⟨fun h=>by omega,fun _=>last l.length 0 l (by omega) (by omega) ?_⟩
   rw [hr,List.drop_zero]; rfl
  | succ d ih =>
   intro j l hj hl hr
   have hx:k.vans[j]?=some (k.vans[j]'(by omega)):=List.getElem?_eq_getElem (by omega)
   rw [List.drop_eq_getElem_cons (by omega)] at hr
   generalize k.vans[j]'(by omega)=v at hx hr
   simp only [vans8] at hr
   refine f25W2 k l j (rv:=chk8 k) hE ⟨fun _=>van v.length 0 j v l hx (by omega) hl (fun hn=>?_) (fun l' h'=>?_),fun h=>by omega⟩
   · rw [List.drop_zero] at hn
     rw [hn] at hr; exact hr
   · rw [List.drop_zero] at h'
     rw [h'] at hr
     exact ih (j+1) l' (by omega) (by rw [van8_len h']; exact hl) hr
 -- the parts
 have outer:∀ (d i:Nat),i+d=k.parts.length→chkB k=(QaL k.parts.length i (k.parts.drop i) && lies8 (vans8 k.parts.length k.vans (List.replicate k.parts.length 0)))→f25G0 E k i:=by
  intro d
  induction d with
  | zero =>
   intro i hi hr
   rw [List.drop_eq_nil_of_le (by omega)] at hr
   refine f25W0 k i (rv:=chk8 k) hE ⟨fun h=>by omega,fun _=>⟨by omega,vans k.vans.length 0 _ (by omega) (by simp) ?_⟩⟩
   rw [hr,List.drop_zero]; rfl
  | succ d ih =>
   intro i hi hr
   have hx:k.parts[i]?=some (k.parts[i]'(by omega)):=List.getElem?_eq_getElem (by omega)
   rw [List.drop_eq_getElem_cons (by omega)] at hr
   generalize k.parts[i]'(by omega)=p at hx hr
   have hn:=hs.needs p (List.mem_of_getElem? hx)
   simp only [QaL,part8] at hr
   refine f25W0 k i (rv:=chk8 k) hE ⟨fun _=>⟨p,hx,fun b1=>Yl (by rw [hr,b1]; rfl),fun b1=>⟨fun b2=>Yl (by rw [hr,b2]; simp),fun b2=>⟨fun b3=>Yl (by rw [hr,b3]; simp),fun b3=>?_⟩⟩⟩,fun h=>by omega⟩
   rw [b1,b2,b3,Bool.true_and,Bool.true_and,Bool.true_and] at hr
   have inner:∀ (d j:Nat) (pv:Option Int),j+d=p.needs.length→(pv=if 0<j then p.needs[j - 1]? else none)→chkB k=((nd8 k.parts.length i pv (p.needs.drop j) && QaL k.parts.length (i+1) (k.parts.drop (i+1))) && lies8 (vans8 k.parts.length k.vans (List.replicate k.parts.length 0)))→f25G1 E k p.w p.m p.pins p.needs j i:=by
    intro d
    induction d with
    | zero =>
     intro j pv hj hpv hr
     rw [List.drop_eq_nil_of_le (by omega)] at hr
     refine f25W1 k p.w p.m p.pins p.needs j i (rv:=chk8 k) hE ⟨fun h=>by omega,fun _=>⟨⟨by omega,by omega⟩,ih (i+1) (by omega) ?_⟩⟩
     rw [hr]; rfl
    | succ d ihd =>
     intro j pv hj hpv hr
     have hy:p.needs[j]?=some (p.needs[j]'(by omega)):=List.getElem?_eq_getElem (by omega)
     rw [List.drop_eq_getElem_cons (by omega)] at hr
     generalize p.needs[j]'(by omega)=x at hy hr
     simp only [nd8] at hr
     refine f25W1 k p.w p.m p.pins p.needs j i (rv:=chk8 k) hE ⟨fun _=>⟨x,hy,⟨by omega,by omega⟩,fun q=>Yl (by rw [hr,q]; rfl),fun q=>⟨fun q2=>Yl ?_,fun q2=>⟨fun q3=>?_,fun q3=>?_⟩⟩⟩,fun h=>by omega⟩
     · rw [hr,q2]; simp
     · have hz:p.needs[j - 1]?=some (p.needs[j - 1]'(by omega)):=List.getElem?_eq_getElem (by omega)
       rw [if_pos (show 0<j by omega),hz] at hpv
       generalize p.needs[j - 1]'(by omega)=z at hz hpv
       subst hpv
       dsimp only at hr
       have ej:Int.toNat ((j:Int) - 1)=j - 1:=by omega
       refine ⟨⟨by omega,by omega⟩,by omega,z,by rw [ej]; exact hz,fun q4=>Yl ?_,fun q4=>⟨⟨by omega,by omega⟩,ihd (j+1) (some x) (by omega) (by rw [if_pos (by omega),Nat.add_sub_cancel]; exact hy.symm) ?_⟩⟩
       · rw [hr,decide_eq_true q4]; simp
       · rw [hr,q,beq_eq_false_iff_ne.2 q2,decide_eq_false q4]; rfl
     · have j0:j=0:=by omega
       rw [if_neg (by omega)] at hpv
       subst hpv
       dsimp only at hr
       refine ⟨⟨by omega,by omega⟩,ihd (j+1) (some x) (by omega) (by rw [if_pos (by omega),Nat.add_sub_cancel]; exact hy.symm) ?_⟩
       rw [hr,q,beq_eq_false_iff_ne.2 q2]; rfl
   exact inner p.needs.length 0 none (by omega) rfl hr
 exact outer k.parts.length 0 (by omega) (by rw [List.drop_zero]; exact hk)
end Go.Proofs.Ytemklbioijmjiaa