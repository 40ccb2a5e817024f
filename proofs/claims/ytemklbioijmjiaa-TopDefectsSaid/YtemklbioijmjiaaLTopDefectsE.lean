/- A part of the proof: several texts, one behind the other. -/
import Derived.Test.YtemklbioijmjiaaLTopDefectsD
set_option linter.unusedVariables false
set_option linter.unusedSimpArgs false
set_option maxRecDepth 100000
namespace Go.Proofs.Ytemklbioijmjiaa
open Go Ax
open Go.Proofs
theorem idxG_le {α:Type} (p:α→Bool) (l:List α):idxG p l<(l.length:Int) ∨ idxG p l=-1:=by
 cases h:l.findIdx? p with
 | none=>right; simp only [idxG,h]
 | some i =>
  left
  have:=List.findIdx?_eq_some_iff_getElem.1 h
  obtain ⟨h1,-,-⟩:=this
  simp only [idxG,h]; omega
theorem QC:Try.f144.body=some (Qd Try.prog 144):=by kernel_rfl
theorem QaQ (reason:Int) {E:Env} {res:AV} {bs2:List Blk} (hE:LentE Try.prog 144 [.sl 0 0 0 0 1] res bs2 E) (ho:AllP [false=false])
 (hr:(.tup [])=res) (hb:[⟨true,0,1,true,[.nilSl],false⟩]=bs2):G Try.prog E [.code (Qd Try.prog 144)] ⟨[.int .i64 reason,.bool false,.ptr 0 0 0]++unds (Try.f144.ntmps - 3),[⟨true,0,1,true,[.nilSl],false⟩]⟩ :=
 Wf (n:=400) (live:=[]) (m:=1) (evs:=[.b false]) (obs:=_) hE (hE.nogh (by kernel_rfl)) Try.func144 Qh (by kernel_rfl) ho hr hb
theorem f144nfW (reason:Int) {E:Env} {res:AV} {bs2:List Blk} (hE:LentE Try.prog 144 [.sl 0 0 0 0 1] res bs2 E)
 (h:((.tup [])=res∧[⟨true,0,1,true,[.nilSl],false⟩]=bs2)):G Try.prog E [.code (Qd Try.prog 144)] ⟨[.int .i64 reason,.bool false,.ptr 0 0 0]++unds (Try.f144.ntmps - 3),[⟨true,0,1,true,[.nilSl],false⟩]⟩:=by
 exact QaQ reason hE ⟨rfl,trivial⟩ h.1 h.2
theorem f144ntb:Try.f144.body=some (Qd Try.prog 144):=by kernel_rfl
theorem QaP (reason:Int) {E:Env} {res:AV} {bs2:List Blk} (hE:LentE Try.prog 144 [.sl 0 0 0 0 1] res bs2 E) (ho:AllP [true=true,1≤2147483648,0=0,1≤1])
 (hr:(.tup [])=res) (hb:[⟨true,0,1,false,[.sl 2 0 0 1 1],false⟩,⟨true,0,1,true,[.int .i64 reason],true⟩,⟨true,0,1,true,[.int .i64 reason],true⟩]=bs2):G Try.prog E [.code (Qd Try.prog 144)] ⟨[.int .i64 reason,.bool true,.ptr 0 0 0]++unds (Try.f144.ntmps - 3),[⟨true,0,1,true,[.nilSl],false⟩]⟩ :=
 Wf (n:=400) (live:=[]) (m:=3) (evs:=[.b true]) (obs:=_) hE (hE.nogh (by kernel_rfl)) Try.func144 Qh (by kernel_rfl) ho hr hb
theorem f144ntW (reason:Int) {E:Env} {res:AV} {bs2:List Blk} (hE:LentE Try.prog 144 [.sl 0 0 0 0 1] res bs2 E)
 (h:((.tup [])=res∧[⟨true,0,1,false,[.sl 2 0 0 1 1],false⟩,⟨true,0,1,true,[.int .i64 reason],true⟩,⟨true,0,1,true,[.int .i64 reason],true⟩]=bs2)):G Try.prog E [.code (Qd Try.prog 144)] ⟨[.int .i64 reason,.bool true,.ptr 0 0 0]++unds (Try.f144.ntmps - 3),[⟨true,0,1,true,[.nilSl],false⟩]⟩:=by
 exact QaP reason hE ⟨rfl,(by decide),rfl,(by decide),trivial⟩ h.1 h.2
theorem f144rfb:Try.f144.body=some (Qd Try.prog 144):=by kernel_rfl
theorem QaO (reason:Int) (out:List Int) (n0:Nat) {E:Env} {res:AV} {bs2:List Blk} (hE:LentE Try.prog 144 [.sl 1 n0 0 0 1] res bs2 E) (ho:AllP [false=false])
 (hr:(.tup [])=res) (hb:[⟨true,0,1,false,[.sl 1 n0 0 out.length 1],false⟩,⟨true,n0,1,true,(rowI out),true⟩]=bs2):G Try.prog E [.code (Qd Try.prog 144)] ⟨[.int .i64 reason,.bool false,.ptr 0 0 0]++unds (Try.f144.ntmps - 3),[⟨true,0,1,false,[.sl 1 n0 0 out.length 1],false⟩,⟨true,n0,1,true,(rowI out),true⟩]⟩ :=
 Wf (n:=400) (live:=[]) (m:=2) (evs:=[.b false]) (obs:=_) hE (hE.nogh (by kernel_rfl)) Try.func144 Qh (by kernel_rfl) ho hr hb
theorem f144rfW (reason:Int) (out:List Int) (n0:Nat) {E:Env} {res:AV} {bs2:List Blk} (hE:LentE Try.prog 144 [.sl 1 n0 0 0 1] res bs2 E)
 (h:((.tup [])=res∧[⟨true,0,1,false,[.sl 1 n0 0 out.length 1],false⟩,⟨true,n0,1,true,(rowI out),true⟩]=bs2)):G Try.prog E [.code (Qd Try.prog 144)] ⟨[.int .i64 reason,.bool false,.ptr 0 0 0]++unds (Try.f144.ntmps - 3),[⟨true,0,1,false,[.sl 1 n0 0 out.length 1],false⟩,⟨true,n0,1,true,(rowI out),true⟩]⟩:=by
 exact QaO reason out n0 hE ⟨rfl,trivial⟩ h.1 h.2
theorem f144rtb:Try.f144.body=some (Qd Try.prog 144):=by kernel_rfl
theorem QaN (reason:Int) (out:List Int) (n0:Nat) {E:Env} {res:AV} {bs2:List Blk} (hE:LentE Try.prog 144 [.sl 1 n0 0 0 1] res bs2 E) (ho:AllP [true=true,n0=n0,(0+(out.length*1))=(rowI out).length,(out.length+1)≤2147483648,0=0,1≤1])
 (hr:(.tup [])=res) (hb:[⟨true,0,1,false,[.sl 1 (n0+1) 0 (out.length+1) 1],false⟩,⟨true,(n0+1),1,true,((rowI out)++[.int .i64 reason]),true⟩]=bs2):G Try.prog E [.code (Qd Try.prog 144)] ⟨[.int .i64 reason,.bool true,.ptr 0 0 0]++unds (Try.f144.ntmps - 3),[⟨true,0,1,false,[.sl 1 n0 0 out.length 1],false⟩,⟨true,n0,1,true,(rowI out),true⟩]⟩ :=
 Wf (n:=400) (live:=[]) (m:=2) (evs:=[.b true]) (obs:=_) hE (hE.nogh (by kernel_rfl)) Try.func144 Qh (by kernel_rfl) ho hr hb
theorem f144rtW (reason:Int) (out:List Int) (n0:Nat) {E:Env} {res:AV} {bs2:List Blk} (hE:LentE Try.prog 144 [.sl 1 n0 0 0 1] res bs2 E)
 (h:((out.length+1)≤2147483648∧((.tup [])=res∧[⟨true,0,1,false,[.sl 1 (n0+1) 0 (out.length+1) 1],false⟩,⟨true,(n0+1),1,true,((rowI out)++[.int .i64 reason]),true⟩]=bs2))):G Try.prog E [.code (Qd Try.prog 144)] ⟨[.int .i64 reason,.bool true,.ptr 0 0 0]++unds (Try.f144.ntmps - 3),[⟨true,0,1,false,[.sl 1 n0 0 out.length 1],false⟩,⟨true,n0,1,true,(rowI out),true⟩]⟩:=by
 obtain ⟨h1,h⟩:=h
 exact QaN reason out n0 hE ⟨rfl,rfl,(by have hx:=QQ cI (s:=1) (fun _=>rfl) out; simp only [rowI] at hx ⊢; rw [hx]; simp),h1,rfl,(by decide),trivial⟩ h.1 h.2
theorem Vu (reason:Int) (u:Bool) (h:u=false):Lent Try.prog 144 [.int .i64 reason,.bool u,.ptr 0 0 0] [⟨true,0,1,true,[.nilSl],false⟩] (.tup []) [⟨true,0,1,true,[.nilSl],false⟩]:=by
 subst h
 exact QcR _ Try.func144 QC rfl rfl fun E hE=>f144nfW reason hE ⟨rfl,rfl⟩
theorem Vt (reason:Int) (u:Bool) (h:u=true):Lent Try.prog 144 [.int .i64 reason,.bool u,.ptr 0 0 0] [⟨true,0,1,true,[.nilSl],false⟩] (.tup []) [⟨true,0,1,false,[.sl 2 0 0 1 1],false⟩,⟨true,0,1,true,[.int .i64 reason],true⟩,⟨true,0,1,true,[.int .i64 reason],true⟩]:=by
 subst h
 exact QcR _ Try.func144 f144ntb rfl rfl fun E hE=>f144ntW reason hE ⟨rfl,rfl⟩
theorem Va (reason:Int) (u:Bool) (out:List Int) (n0:Nat) (h:u=false):Lent Try.prog 144 [.int .i64 reason,.bool u,.ptr 0 0 0] [⟨true,0,1,false,[.sl 1 n0 0 out.length 1],false⟩,⟨true,n0,1,true,rowI out,true⟩] (.tup []) [⟨true,0,1,false,[.sl 1 n0 0 out.length 1],false⟩,⟨true,n0,1,true,rowI out,true⟩]:=by
 subst h
 exact QcR _ Try.func144 f144rfb rfl rfl fun E hE=>f144rfW reason out n0 hE ⟨rfl,rfl⟩
theorem YZ (reason:Int) (u:Bool) (out:List Int) (n0:Nat) (h:u=true) (hl:out.length≤1000):Lent Try.prog 144 [.int .i64 reason,.bool u,.ptr 0 0 0] [⟨true,0,1,false,[.sl 1 n0 0 out.length 1],false⟩,⟨true,n0,1,true,rowI out,true⟩] (.tup []) [⟨true,0,1,false,[.sl 1 (n0+1) 0 (out.length+1) 1],false⟩,⟨true,n0+1,1,true,rowI out++[.int .i64 reason],true⟩]:=by
 subst h
 exact QcR _ Try.func144 f144rtb rfl rfl fun E hE=>f144rtW reason out n0 hE ⟨by omega,rfl,rfl⟩
theorem f79b:Try.f79.body=some (Qd Try.prog 79):=by kernel_rfl
theorem u79 {a c k:List AV} {r:AV} (h:Pure Try.prog 79 (a++c++k) r):Qe Try.prog (.clos 79 a k) c r:=Qj Try.func79 (by kernel_rfl) f79b h
abbrev Xa (l:Lgb):List AV:=[.rsl (Qg l.k.rules) 0 l.k.rules.length,.rsl (rowI l.k.ranks) 0 l.k.ranks.length,.rsl (rowI l.k.insured) 0 l.k.insured.length,.rsl (Qc l.es) 0 l.es.length]
abbrev YK:List Blk:=[⟨true,0,1,false,[.sl 1 0 0 1 1],false⟩,⟨true,0,1,true,[.int .i64 1],true⟩]
abbrev qq:List Blk:=[⟨true,0,1,false,[.sl 2 0 0 1 1],false⟩,⟨true,0,1,true,[.int .i64 1],true⟩,⟨true,0,1,true,[.int .i64 1],true⟩]
abbrev VT:List Blk:=[⟨true,0,1,false,[.sl 1 1 0 2 1],false⟩,⟨true,1,1,true,[.int .i64 1,.int .i64 2],true⟩]
abbrev Kb:List Blk:=[⟨true,0,1,false,[.sl 1 0 0 1 1],false⟩,⟨true,0,1,true,[.int .i64 2],true⟩]
abbrev qp (l:Lgb) (ride:Int):List AV:=[.agg (Xa l),.int .i64 ride,.clos 148 [] [.rptr [.int .i64 ride] 0]]
abbrev z79_7:List Blk:=[⟨true,0,1,false,[.sl 2 0 0 1 1],false⟩,⟨true,0,1,true,[.int .i64 2],true⟩,⟨true,0,1,true,[.int .i64 2],true⟩]
abbrev z79_8:List Blk:=[⟨true,0,1,false,[.sl 1 2 0 3 1],false⟩,⟨true,2,1,true,[.int .i64 1,.int .i64 2,.int .i64 3],true⟩]
abbrev z79_9:List Blk:=[⟨true,0,1,false,[.sl 1 1 0 2 1],false⟩,⟨true,1,1,true,[.int .i64 1,.int .i64 3],true⟩]
abbrev yH:List Blk:=[⟨true,0,1,false,[.sl 1 1 0 2 1],false⟩,⟨true,1,1,true,[.int .i64 2,.int .i64 3],true⟩]
abbrev Vj (ride:Int) (l:Lgb) (day:Int):List AV:=[.int .i64 3,.bool ((QL (isKd 4 ride) ride l.es) != day)]
abbrev z79_12:List Blk:=[⟨true,0,1,false,[.sl 2 0 0 1 1],false⟩,⟨true,0,1,true,[.int .i64 3],true⟩,⟨true,0,1,true,[.int .i64 3],true⟩]
abbrev z79_13:List Blk:=[⟨true,0,1,false,[.sl 1 0 0 1 1],false⟩,⟨true,0,1,true,[.int .i64 3],true⟩]
abbrev z79_14:List Blk:=[⟨true,0,1,false,[.sl 2 0 0 1 1],false⟩,⟨true,0,1,true,[.int .i64 4],true⟩,⟨true,0,1,true,[.int .i64 4],true⟩]
abbrev z79_15:List Blk:=[⟨true,0,1,false,[.sl 1 3 0 4 1],false⟩,⟨true,3,1,true,[.int .i64 1,.int .i64 2,.int .i64 3,.int .i64 4],true⟩]
abbrev z79_16:List Blk:=[⟨true,0,1,false,[.sl 1 2 0 3 1],false⟩,⟨true,2,1,true,[.int .i64 1,.int .i64 2,.int .i64 4],true⟩]
abbrev z79_17:List Blk:=[⟨true,0,1,false,[.sl 1 2 0 3 1],false⟩,⟨true,2,1,true,[.int .i64 1,.int .i64 3,.int .i64 4],true⟩]
abbrev z79_18:List Blk:=[⟨true,0,1,false,[.sl 1 2 0 3 1],false⟩,⟨true,2,1,true,[.int .i64 2,.int .i64 3,.int .i64 4],true⟩]
theorem p79_start_0 (l:Lgb) (ride:Int) (day:Int) {E:Env} {res:AV} (hE:Qf Try.prog 79 res E) (ho:AllP [Qe Try.prog (.clos 145 [] []) [.agg (Xa l),.int .i64 ride] (.int .i64 (Qs l ride)),QO Try.prog (.clos 144 [] [.ptr 0 0 0]) [.int .i64 1,.bool (decide ((Qs l ride)<day))] [⟨true,0,1,true,[.nilSl],false⟩] (.tup []) qq,Qe Try.prog (.clos 146 [] []) [.agg (Xa l),.int .i64 ride] (.bool (QF l ride)),QO Try.prog (.clos 144 [] [.ptr 0 0 0]) [.int .i64 2,.bool (!(QF l ride))] YK (.tup []) VT,Qe Try.prog (.clos 147 [] []) (qp l ride) (.int .i64 (QL (isKd 4 ride) ride l.es)),QO Try.prog (.clos 144 [] [.ptr 0 0 0]) (Vj ride l day) VT (.tup []) z79_8,Qe Try.prog (.clos 149 [] []) [.agg (Xa l),.int .i64 ride] (.int .i64 (Qn l ride)),QO Try.prog (.clos 144 [] [.ptr 0 0 0]) [.int .i64 4,.bool (decide ((Qn l ride)<day))] z79_8 (.tup []) z79_15,1≤1,3=3])
 (hr:AvLe (.rsl [.int .i64 1,.int .i64 2,.int .i64 3,.int .i64 4] 0 4) res):G Try.prog E [.code (Qd Try.prog 79)] ⟨[.agg (Xa l),.int .i64 ride,.int .i64 day]++unds (Try.f79.ntmps - 3),[]⟩ :=
 Qb (n:=400) (evs:=[.v (.int .i64 (Qs l ride)),.lent [2] (.tup []) qq,.v (.bool (QF l ride)),.lent [2,4] (.tup []) VT,.v (.int .i64 (QL (isKd 4 ride) ride l.es)),.lent [2,4] (.tup []) z79_8,.v (.int .i64 (Qn l ride)),.lent [2,4] (.tup []) z79_15]) (obs:=_) hE Try.func79 Qh (by kernel_rfl) ho hr
theorem p79_start_1 (l:Lgb) (ride:Int) (day:Int) {E:Env} {res:AV} (hE:Qf Try.prog 79 res E) (ho:AllP [Qe Try.prog (.clos 145 [] []) [.agg (Xa l),.int .i64 ride] (.int .i64 (Qs l ride)),QO Try.prog (.clos 144 [] [.ptr 0 0 0]) [.int .i64 1,.bool (decide ((Qs l ride)<day))] [⟨true,0,1,true,[.nilSl],false⟩] (.tup []) qq,Qe Try.prog (.clos 146 [] []) [.agg (Xa l),.int .i64 ride] (.bool (QF l ride)),QO Try.prog (.clos 144 [] [.ptr 0 0 0]) [.int .i64 2,.bool (!(QF l ride))] YK (.tup []) VT,Qe Try.prog (.clos 147 [] []) (qp l ride) (.int .i64 (QL (isKd 4 ride) ride l.es)),QO Try.prog (.clos 144 [] [.ptr 0 0 0]) (Vj ride l day) VT (.tup []) z79_8,Qe Try.prog (.clos 149 [] []) [.agg (Xa l),.int .i64 ride] (.int .i64 (Qn l ride)),QO Try.prog (.clos 144 [] [.ptr 0 0 0]) [.int .i64 4,.bool (decide ((Qn l ride)<day))] z79_8 (.tup []) z79_8,1≤1,2=2])
 (hr:AvLe (.rsl [.int .i64 1,.int .i64 2,.int .i64 3] 0 3) res):G Try.prog E [.code (Qd Try.prog 79)] ⟨[.agg (Xa l),.int .i64 ride,.int .i64 day]++unds (Try.f79.ntmps - 3),[]⟩ :=
 Qb (n:=400) (evs:=[.v (.int .i64 (Qs l ride)),.lent [2] (.tup []) qq,.v (.bool (QF l ride)),.lent [2,4] (.tup []) VT,.v (.int .i64 (QL (isKd 4 ride) ride l.es)),.lent [2,4] (.tup []) z79_8,.v (.int .i64 (Qn l ride)),.lent [2,4] (.tup []) z79_8]) (obs:=_) hE Try.func79 Qh (by kernel_rfl) ho hr
theorem p79_start_2 (l:Lgb) (ride:Int) (day:Int) {E:Env} {res:AV} (hE:Qf Try.prog 79 res E) (ho:AllP [Qe Try.prog (.clos 145 [] []) [.agg (Xa l),.int .i64 ride] (.int .i64 (Qs l ride)),QO Try.prog (.clos 144 [] [.ptr 0 0 0]) [.int .i64 1,.bool (decide ((Qs l ride)<day))] [⟨true,0,1,true,[.nilSl],false⟩] (.tup []) qq,Qe Try.prog (.clos 146 [] []) [.agg (Xa l),.int .i64 ride] (.bool (QF l ride)),QO Try.prog (.clos 144 [] [.ptr 0 0 0]) [.int .i64 2,.bool (!(QF l ride))] YK (.tup []) VT,Qe Try.prog (.clos 147 [] []) (qp l ride) (.int .i64 (QL (isKd 4 ride) ride l.es)),QO Try.prog (.clos 144 [] [.ptr 0 0 0]) (Vj ride l day) VT (.tup []) VT,Qe Try.prog (.clos 149 [] []) [.agg (Xa l),.int .i64 ride] (.int .i64 (Qn l ride)),QO Try.prog (.clos 144 [] [.ptr 0 0 0]) [.int .i64 4,.bool (decide ((Qn l ride)<day))] VT (.tup []) z79_16,1≤1,2=2])
 (hr:AvLe (.rsl [.int .i64 1,.int .i64 2,.int .i64 4] 0 3) res):G Try.prog E [.code (Qd Try.prog 79)] ⟨[.agg (Xa l),.int .i64 ride,.int .i64 day]++unds (Try.f79.ntmps - 3),[]⟩ :=
 Qb (n:=400) (evs:=[.v (.int .i64 (Qs l ride)),.lent [2] (.tup []) qq,.v (.bool (QF l ride)),.lent [2,4] (.tup []) VT,.v (.int .i64 (QL (isKd 4 ride) ride l.es)),.lent [2,4] (.tup []) VT,.v (.int .i64 (Qn l ride)),.lent [2,4] (.tup []) z79_16]) (obs:=_) hE Try.func79 Qh (by kernel_rfl) ho hr
theorem p79_start_3 (l:Lgb) (ride:Int) (day:Int) {E:Env} {res:AV} (hE:Qf Try.prog 79 res E) (ho:AllP [Qe Try.prog (.clos 145 [] []) [.agg (Xa l),.int .i64 ride] (.int .i64 (Qs l ride)),QO Try.prog (.clos 144 [] [.ptr 0 0 0]) [.int .i64 1,.bool (decide ((Qs l ride)<day))] [⟨true,0,1,true,[.nilSl],false⟩] (.tup []) qq,Qe Try.prog (.clos 146 [] []) [.agg (Xa l),.int .i64 ride] (.bool (QF l ride)),QO Try.prog (.clos 144 [] [.ptr 0 0 0]) [.int .i64 2,.bool (!(QF l ride))] YK (.tup []) VT,Qe Try.prog (.clos 147 [] []) (qp l ride) (.int .i64 (QL (isKd 4 ride) ride l.es)),QO Try.prog (.clos 144 [] [.ptr 0 0 0]) (Vj ride l day) VT (.tup []) VT,Qe Try.prog (.clos 149 [] []) [.agg (Xa l),.int .i64 ride] (.int .i64 (Qn l ride)),QO Try.prog (.clos 144 [] [.ptr 0 0 0]) [.int .i64 4,.bool (decide ((Qn l ride)<day))] VT (.tup []) VT,1≤1,1=1])
 (hr:AvLe (.rsl [.int .i64 1,.int .i64 2] 0 2) res):G Try.prog E [.code (Qd Try.prog 79)] ⟨[.agg (Xa l),.int .i64 ride,.int .i64 day]++unds (Try.f79.ntmps - 3),[]⟩ :=
 Qb (n:=400) (evs:=[.v (.int .i64 (Qs l ride)),.lent [2] (.tup []) qq,.v (.bool (QF l ride)),.lent [2,4] (.tup []) VT,.v (.int .i64 (QL (isKd 4 ride) ride l.es)),.lent [2,4] (.tup []) VT,.v (.int .i64 (Qn l ride)),.lent [2,4] (.tup []) VT]) (obs:=_) hE Try.func79 Qh (by kernel_rfl) ho hr
theorem p79_start_4 (l:Lgb) (ride:Int) (day:Int) {E:Env} {res:AV} (hE:Qf Try.prog 79 res E) (ho:AllP [Qe Try.prog (.clos 145 [] []) [.agg (Xa l),.int .i64 ride] (.int .i64 (Qs l ride)),QO Try.prog (.clos 144 [] [.ptr 0 0 0]) [.int .i64 1,.bool (decide ((Qs l ride)<day))] [⟨true,0,1,true,[.nilSl],false⟩] (.tup []) qq,Qe Try.prog (.clos 146 [] []) [.agg (Xa l),.int .i64 ride] (.bool (QF l ride)),QO Try.prog (.clos 144 [] [.ptr 0 0 0]) [.int .i64 2,.bool (!(QF l ride))] YK (.tup []) YK,Qe Try.prog (.clos 147 [] []) (qp l ride) (.int .i64 (QL (isKd 4 ride) ride l.es)),QO Try.prog (.clos 144 [] [.ptr 0 0 0]) (Vj ride l day) YK (.tup []) z79_9,Qe Try.prog (.clos 149 [] []) [.agg (Xa l),.int .i64 ride] (.int .i64 (Qn l ride)),QO Try.prog (.clos 144 [] [.ptr 0 0 0]) [.int .i64 4,.bool (decide ((Qn l ride)<day))] z79_9 (.tup []) z79_17,1≤1,2=2])
 (hr:AvLe (.rsl [.int .i64 1,.int .i64 3,.int .i64 4] 0 3) res):G Try.prog E [.code (Qd Try.prog 79)] ⟨[.agg (Xa l),.int .i64 ride,.int .i64 day]++unds (Try.f79.ntmps - 3),[]⟩ :=
 Qb (n:=400) (evs:=[.v (.int .i64 (Qs l ride)),.lent [2] (.tup []) qq,.v (.bool (QF l ride)),.lent [2,4] (.tup []) YK,.v (.int .i64 (QL (isKd 4 ride) ride l.es)),.lent [2,4] (.tup []) z79_9,.v (.int .i64 (Qn l ride)),.lent [2,4] (.tup []) z79_17]) (obs:=_) hE Try.func79 Qh (by kernel_rfl) ho hr
theorem p79_start_5 (l:Lgb) (ride:Int) (day:Int) {E:Env} {res:AV} (hE:Qf Try.prog 79 res E) (ho:AllP [Qe Try.prog (.clos 145 [] []) [.agg (Xa l),.int .i64 ride] (.int .i64 (Qs l ride)),QO Try.prog (.clos 144 [] [.ptr 0 0 0]) [.int .i64 1,.bool (decide ((Qs l ride)<day))] [⟨true,0,1,true,[.nilSl],false⟩] (.tup []) qq,Qe Try.prog (.clos 146 [] []) [.agg (Xa l),.int .i64 ride] (.bool (QF l ride)),QO Try.prog (.clos 144 [] [.ptr 0 0 0]) [.int .i64 2,.bool (!(QF l ride))] YK (.tup []) YK,Qe Try.prog (.clos 147 [] []) (qp l ride) (.int .i64 (QL (isKd 4 ride) ride l.es)),QO Try.prog (.clos 144 [] [.ptr 0 0 0]) (Vj ride l day) YK (.tup []) z79_9,Qe Try.prog (.clos 149 [] []) [.agg (Xa l),.int .i64 ride] (.int .i64 (Qn l ride)),QO Try.prog (.clos 144 [] [.ptr 0 0 0]) [.int .i64 4,.bool (decide ((Qn l ride)<day))] z79_9 (.tup []) z79_9,1≤1,1=1])
 (hr:AvLe (.rsl [.int .i64 1,.int .i64 3] 0 2) res):G Try.prog E [.code (Qd Try.prog 79)] ⟨[.agg (Xa l),.int .i64 ride,.int .i64 day]++unds (Try.f79.ntmps - 3),[]⟩ :=
 Qb (n:=400) (evs:=[.v (.int .i64 (Qs l ride)),.lent [2] (.tup []) qq,.v (.bool (QF l ride)),.lent [2,4] (.tup []) YK,.v (.int .i64 (QL (isKd 4 ride) ride l.es)),.lent [2,4] (.tup []) z79_9,.v (.int .i64 (Qn l ride)),.lent [2,4] (.tup []) z79_9]) (obs:=_) hE Try.func79 Qh (by kernel_rfl) ho hr
theorem p79_start_6 (l:Lgb) (ride:Int) (day:Int) {E:Env} {res:AV} (hE:Qf Try.prog 79 res E) (ho:AllP [Qe Try.prog (.clos 145 [] []) [.agg (Xa l),.int .i64 ride] (.int .i64 (Qs l ride)),QO Try.prog (.clos 144 [] [.ptr 0 0 0]) [.int .i64 1,.bool (decide ((Qs l ride)<day))] [⟨true,0,1,true,[.nilSl],false⟩] (.tup []) qq,Qe Try.prog (.clos 146 [] []) [.agg (Xa l),.int .i64 ride] (.bool (QF l ride)),QO Try.prog (.clos 144 [] [.ptr 0 0 0]) [.int .i64 2,.bool (!(QF l ride))] YK (.tup []) YK,Qe Try.prog (.clos 147 [] []) (qp l ride) (.int .i64 (QL (isKd 4 ride) ride l.es)),QO Try.prog (.clos 144 [] [.ptr 0 0 0]) (Vj ride l day) YK (.tup []) YK,Qe Try.prog (.clos 149 [] []) [.agg (Xa l),.int .i64 ride] (.int .i64 (Qn l ride)),QO Try.prog (.clos 144 [] [.ptr 0 0 0]) [.int .i64 4,.bool (decide ((Qn l ride)<day))] YK (.tup []) [⟨true,0,1,false,[.sl 1 1 0 2 1],false⟩,⟨true,1,1,true,[.int .i64 1,.int .i64 4],true⟩],1≤1,1=1])
 (hr:AvLe (.rsl [.int .i64 1,.int .i64 4] 0 2) res):G Try.prog E [.code (Qd Try.prog 79)] ⟨[.agg (Xa l),.int .i64 ride,.int .i64 day]++unds (Try.f79.ntmps - 3),[]⟩ :=
 Qb (n:=400) (evs:=[.v (.int .i64 (Qs l ride)),.lent [2] (.tup []) qq,.v (.bool (QF l ride)),.lent [2,4] (.tup []) YK,.v (.int .i64 (QL (isKd 4 ride) ride l.es)),.lent [2,4] (.tup []) YK,.v (.int .i64 (Qn l ride)),.lent [2,4] (.tup []) [⟨true,0,1,false,[.sl 1 1 0 2 1],false⟩,⟨true,1,1,true,[.int .i64 1,.int .i64 4],true⟩]]) (obs:=_) hE Try.func79 Qh (by kernel_rfl) ho hr
theorem p79_start_7 (l:Lgb) (ride:Int) (day:Int) {E:Env} {res:AV} (hE:Qf Try.prog 79 res E) (ho:AllP [Qe Try.prog (.clos 145 [] []) [.agg (Xa l),.int .i64 ride] (.int .i64 (Qs l ride)),QO Try.prog (.clos 144 [] [.ptr 0 0 0]) [.int .i64 1,.bool (decide ((Qs l ride)<day))] [⟨true,0,1,true,[.nilSl],false⟩] (.tup []) qq,Qe Try.prog (.clos 146 [] []) [.agg (Xa l),.int .i64 ride] (.bool (QF l ride)),QO Try.prog (.clos 144 [] [.ptr 0 0 0]) [.int .i64 2,.bool (!(QF l ride))] YK (.tup []) YK,Qe Try.prog (.clos 147 [] []) (qp l ride) (.int .i64 (QL (isKd 4 ride) ride l.es)),QO Try.prog (.clos 144 [] [.ptr 0 0 0]) (Vj ride l day) YK (.tup []) YK,Qe Try.prog (.clos 149 [] []) [.agg (Xa l),.int .i64 ride] (.int .i64 (Qn l ride)),QO Try.prog (.clos 144 [] [.ptr 0 0 0]) [.int .i64 4,.bool (decide ((Qn l ride)<day))] YK (.tup []) YK,1≤1,0=0])
 (hr:AvLe (.rsl [.int .i64 1] 0 1) res):G Try.prog E [.code (Qd Try.prog 79)] ⟨[.agg (Xa l),.int .i64 ride,.int .i64 day]++unds (Try.f79.ntmps - 3),[]⟩ :=
 Qb (n:=400) (evs:=[.v (.int .i64 (Qs l ride)),.lent [2] (.tup []) qq,.v (.bool (QF l ride)),.lent [2,4] (.tup []) YK,.v (.int .i64 (QL (isKd 4 ride) ride l.es)),.lent [2,4] (.tup []) YK,.v (.int .i64 (Qn l ride)),.lent [2,4] (.tup []) YK]) (obs:=_) hE Try.func79 Qh (by kernel_rfl) ho hr
theorem p79_start_8 (l:Lgb) (ride:Int) (day:Int) {E:Env} {res:AV} (hE:Qf Try.prog 79 res E) (ho:AllP [Qe Try.prog (.clos 145 [] []) [.agg (Xa l),.int .i64 ride] (.int .i64 (Qs l ride)),QO Try.prog (.clos 144 [] [.ptr 0 0 0]) [.int .i64 1,.bool (decide ((Qs l ride)<day))] [⟨true,0,1,true,[.nilSl],false⟩] (.tup []) [⟨true,0,1,true,[.nilSl],false⟩],Qe Try.prog (.clos 146 [] []) [.agg (Xa l),.int .i64 ride] (.bool (QF l ride)),QO Try.prog (.clos 144 [] [.ptr 0 0 0]) [.int .i64 2,.bool (!(QF l ride))] [⟨true,0,1,true,[.nilSl],false⟩] (.tup []) z79_7,Qe Try.prog (.clos 147 [] []) (qp l ride) (.int .i64 (QL (isKd 4 ride) ride l.es)),QO Try.prog (.clos 144 [] [.ptr 0 0 0]) (Vj ride l day) Kb (.tup []) yH,Qe Try.prog (.clos 149 [] []) [.agg (Xa l),.int .i64 ride] (.int .i64 (Qn l ride)),QO Try.prog (.clos 144 [] [.ptr 0 0 0]) [.int .i64 4,.bool (decide ((Qn l ride)<day))] yH (.tup []) z79_18,1≤1,2=2])
 (hr:AvLe (.rsl [.int .i64 2,.int .i64 3,.int .i64 4] 0 3) res):G Try.prog E [.code (Qd Try.prog 79)] ⟨[.agg (Xa l),.int .i64 ride,.int .i64 day]++unds (Try.f79.ntmps - 3),[]⟩ :=
 Qb (n:=400) (evs:=[.v (.int .i64 (Qs l ride)),.lent [2] (.tup []) [⟨true,0,1,true,[.nilSl],false⟩],.v (.bool (QF l ride)),.lent [2] (.tup []) z79_7,.v (.int .i64 (QL (isKd 4 ride) ride l.es)),.lent [2,4] (.tup []) yH,.v (.int .i64 (Qn l ride)),.lent [2,4] (.tup []) z79_18]) (obs:=_) hE Try.func79 Qh (by kernel_rfl) ho hr
theorem p79_start_9 (l:Lgb) (ride:Int) (day:Int) {E:Env} {res:AV} (hE:Qf Try.prog 79 res E) (ho:AllP [Qe Try.prog (.clos 145 [] []) [.agg (Xa l),.int .i64 ride] (.int .i64 (Qs l ride)),QO Try.prog (.clos 144 [] [.ptr 0 0 0]) [.int .i64 1,.bool (decide ((Qs l ride)<day))] [⟨true,0,1,true,[.nilSl],false⟩] (.tup []) [⟨true,0,1,true,[.nilSl],false⟩],Qe Try.prog (.clos 146 [] []) [.agg (Xa l),.int .i64 ride] (.bool (QF l ride)),QO Try.prog (.clos 144 [] [.ptr 0 0 0]) [.int .i64 2,.bool (!(QF l ride))] [⟨true,0,1,true,[.nilSl],false⟩] (.tup []) z79_7,Qe Try.prog (.clos 147 [] []) (qp l ride) (.int .i64 (QL (isKd 4 ride) ride l.es)),QO Try.prog (.clos 144 [] [.ptr 0 0 0]) (Vj ride l day) Kb (.tup []) yH,Qe Try.prog (.clos 149 [] []) [.agg (Xa l),.int .i64 ride] (.int .i64 (Qn l ride)),QO Try.prog (.clos 144 [] [.ptr 0 0 0]) [.int .i64 4,.bool (decide ((Qn l ride)<day))] yH (.tup []) yH,1≤1,1=1])
 (hr:AvLe (.rsl [.int .i64 2,.int .i64 3] 0 2) res):G Try.prog E [.code (Qd Try.prog 79)] ⟨[.agg (Xa l),.int .i64 ride,.int .i64 day]++unds (Try.f79.ntmps - 3),[]⟩ :=
 Qb (n:=400) (evs:=[.v (.int .i64 (Qs l ride)),.lent [2] (.tup []) [⟨true,0,1,true,[.nilSl],false⟩],.v (.bool (QF l ride)),.lent [2] (.tup []) z79_7,.v (.int .i64 (QL (isKd 4 ride) ride l.es)),.lent [2,4] (.tup []) yH,.v (.int .i64 (Qn l ride)),.lent [2,4] (.tup []) yH]) (obs:=_) hE Try.func79 Qh (by kernel_rfl) ho hr
theorem p79_start_10 (l:Lgb) (ride:Int) (day:Int) {E:Env} {res:AV} (hE:Qf Try.prog 79 res E) (ho:AllP [Qe Try.prog (.clos 145 [] []) [.agg (Xa l),.int .i64 ride] (.int .i64 (Qs l ride)),QO Try.prog (.clos 144 [] [.ptr 0 0 0]) [.int .i64 1,.bool (decide ((Qs l ride)<day))] [⟨true,0,1,true,[.nilSl],false⟩] (.tup []) [⟨true,0,1,true,[.nilSl],false⟩],Qe Try.prog (.clos 146 [] []) [.agg (Xa l),.int .i64 ride] (.bool (QF l ride)),QO Try.prog (.clos 144 [] [.ptr 0 0 0]) [.int .i64 2,.bool (!(QF l ride))] [⟨true,0,1,true,[.nilSl],false⟩] (.tup []) z79_7,Qe Try.prog (.clos 147 [] []) (qp l ride) (.int .i64 (QL (isKd 4 ride) ride l.es)),QO Try.prog (.clos 144 [] [.ptr 0 0 0]) (Vj ride l day) Kb (.tup []) Kb,Qe Try.prog (.clos 149 [] []) [.agg (Xa l),.int .i64 ride] (.int .i64 (Qn l ride)),QO Try.prog (.clos 144 [] [.ptr 0 0 0]) [.int .i64 4,.bool (decide ((Qn l ride)<day))] Kb (.tup []) [⟨true,0,1,false,[.sl 1 1 0 2 1],false⟩,⟨true,1,1,true,[.int .i64 2,.int .i64 4],true⟩],1≤1,1=1])
 (hr:AvLe (.rsl [.int .i64 2,.int .i64 4] 0 2) res):G Try.prog E [.code (Qd Try.prog 79)] ⟨[.agg (Xa l),.int .i64 ride,.int .i64 day]++unds (Try.f79.ntmps - 3),[]⟩ :=
 Qb (n:=400) (evs:=[.v (.int .i64 (Qs l ride)),.lent [2] (.tup []) [⟨true,0,1,true,[.nilSl],false⟩],.v (.bool (QF l ride)),.lent [2] (.tup []) z79_7,.v (.int .i64 (QL (isKd 4 ride) ride l.es)),.lent [2,4] (.tup []) Kb,.v (.int .i64 (Qn l ride)),.lent [2,4] (.tup []) [⟨true,0,1,false,[.sl 1 1 0 2 1],false⟩,⟨true,1,1,true,[.int .i64 2,.int .i64 4],true⟩]]) (obs:=_) hE Try.func79 Qh (by kernel_rfl) ho hr
theorem p79_start_11 (l:Lgb) (ride:Int) (day:Int) {E:Env} {res:AV} (hE:Qf Try.prog 79 res E) (ho:AllP [Qe Try.prog (.clos 145 [] []) [.agg (Xa l),.int .i64 ride] (.int .i64 (Qs l ride)),QO Try.prog (.clos 144 [] [.ptr 0 0 0]) [.int .i64 1,.bool (decide ((Qs l ride)<day))] [⟨true,0,1,true,[.nilSl],false⟩] (.tup []) [⟨true,0,1,true,[.nilSl],false⟩],Qe Try.prog (.clos 146 [] []) [.agg (Xa l),.int .i64 ride] (.bool (QF l ride)),QO Try.prog (.clos 144 [] [.ptr 0 0 0]) [.int .i64 2,.bool (!(QF l ride))] [⟨true,0,1,true,[.nilSl],false⟩] (.tup []) z79_7,Qe Try.prog (.clos 147 [] []) (qp l ride) (.int .i64 (QL (isKd 4 ride) ride l.es)),QO Try.prog (.clos 144 [] [.ptr 0 0 0]) (Vj ride l day) Kb (.tup []) Kb,Qe Try.prog (.clos 149 [] []) [.agg (Xa l),.int .i64 ride] (.int .i64 (Qn l ride)),QO Try.prog (.clos 144 [] [.ptr 0 0 0]) [.int .i64 4,.bool (decide ((Qn l ride)<day))] Kb (.tup []) Kb,1≤1,0=0])
 (hr:AvLe (.rsl [.int .i64 2] 0 1) res):G Try.prog E [.code (Qd Try.prog 79)] ⟨[.agg (Xa l),.int .i64 ride,.int .i64 day]++unds (Try.f79.ntmps - 3),[]⟩ :=
 Qb (n:=400) (evs:=[.v (.int .i64 (Qs l ride)),.lent [2] (.tup []) [⟨true,0,1,true,[.nilSl],false⟩],.v (.bool (QF l ride)),.lent [2] (.tup []) z79_7,.v (.int .i64 (QL (isKd 4 ride) ride l.es)),.lent [2,4] (.tup []) Kb,.v (.int .i64 (Qn l ride)),.lent [2,4] (.tup []) Kb]) (obs:=_) hE Try.func79 Qh (by kernel_rfl) ho hr
theorem p79_start_12 (l:Lgb) (ride:Int) (day:Int) {E:Env} {res:AV} (hE:Qf Try.prog 79 res E) (ho:AllP [Qe Try.prog (.clos 145 [] []) [.agg (Xa l),.int .i64 ride] (.int .i64 (Qs l ride)),QO Try.prog (.clos 144 [] [.ptr 0 0 0]) [.int .i64 1,.bool (decide ((Qs l ride)<day))] [⟨true,0,1,true,[.nilSl],false⟩] (.tup []) [⟨true,0,1,true,[.nilSl],false⟩],Qe Try.prog (.clos 146 [] []) [.agg (Xa l),.int .i64 ride] (.bool (QF l ride)),QO Try.prog (.clos 144 [] [.ptr 0 0 0]) [.int .i64 2,.bool (!(QF l ride))] [⟨true,0,1,true,[.nilSl],false⟩] (.tup []) [⟨true,0,1,true,[.nilSl],false⟩],Qe Try.prog (.clos 147 [] []) (qp l ride) (.int .i64 (QL (isKd 4 ride) ride l.es)),QO Try.prog (.clos 144 [] [.ptr 0 0 0]) (Vj ride l day) [⟨true,0,1,true,[.nilSl],false⟩] (.tup []) z79_12,Qe Try.prog (.clos 149 [] []) [.agg (Xa l),.int .i64 ride] (.int .i64 (Qn l ride)),QO Try.prog (.clos 144 [] [.ptr 0 0 0]) [.int .i64 4,.bool (decide ((Qn l ride)<day))] z79_13 (.tup []) [⟨true,0,1,false,[.sl 1 1 0 2 1],false⟩,⟨true,1,1,true,[.int .i64 3,.int .i64 4],true⟩],1≤1,1=1])
 (hr:AvLe (.rsl [.int .i64 3,.int .i64 4] 0 2) res):G Try.prog E [.code (Qd Try.prog 79)] ⟨[.agg (Xa l),.int .i64 ride,.int .i64 day]++unds (Try.f79.ntmps - 3),[]⟩ :=
 Qb (n:=400) (evs:=[.v (.int .i64 (Qs l ride)),.lent [2] (.tup []) [⟨true,0,1,true,[.nilSl],false⟩],.v (.bool (QF l ride)),.lent [2] (.tup []) [⟨true,0,1,true,[.nilSl],false⟩],.v (.int .i64 (QL (isKd 4 ride) ride l.es)),.lent [2] (.tup []) z79_12,.v (.int .i64 (Qn l ride)),.lent [2,4] (.tup []) [⟨true,0,1,false,[.sl 1 1 0 2 1],false⟩,⟨true,1,1,true,[.int .i64 3,.int .i64 4],true⟩]]) (obs:=_) hE Try.func79 Qh (by kernel_rfl) ho hr
theorem p79_start_13 (l:Lgb) (ride:Int) (day:Int) {E:Env} {res:AV} (hE:Qf Try.prog 79 res E) (ho:AllP [Qe Try.prog (.clos 145 [] []) [.agg (Xa l),.int .i64 ride] (.int .i64 (Qs l ride)),QO Try.prog (.clos 144 [] [.ptr 0 0 0]) [.int .i64 1,.bool (decide ((Qs l ride)<day))] [⟨true,0,1,true,[.nilSl],false⟩] (.tup []) [⟨true,0,1,true,[.nilSl],false⟩],Qe Try.prog (.clos 146 [] []) [.agg (Xa l),.int .i64 ride] (.bool (QF l ride)),QO Try.prog (.clos 144 [] [.ptr 0 0 0]) [.int .i64 2,.bool (!(QF l ride))] [⟨true,0,1,true,[.nilSl],false⟩] (.tup []) [⟨true,0,1,true,[.nilSl],false⟩],Qe Try.prog (.clos 147 [] []) (qp l ride) (.int .i64 (QL (isKd 4 ride) ride l.es)),QO Try.prog (.clos 144 [] [.ptr 0 0 0]) (Vj ride l day) [⟨true,0,1,true,[.nilSl],false⟩] (.tup []) z79_12,Qe Try.prog (.clos 149 [] []) [.agg (Xa l),.int .i64 ride] (.int .i64 (Qn l ride)),QO Try.prog (.clos 144 [] [.ptr 0 0 0]) [.int .i64 4,.bool (decide ((Qn l ride)<day))] z79_13 (.tup []) z79_13,1≤1,0=0])
 (hr:AvLe (.rsl [.int .i64 3] 0 1) res):G Try.prog E [.code (Qd Try.prog 79)] ⟨[.agg (Xa l),.int .i64 ride,.int .i64 day]++unds (Try.f79.ntmps - 3),[]⟩ :=
 Qb (n:=400) (evs:=[.v (.int .i64 (Qs l ride)),.lent [2] (.tup []) [⟨true,0,1,true,[.nilSl],false⟩],.v (.bool (QF l ride)),.lent [2] (.tup []) [⟨true,0,1,true,[.nilSl],false⟩],.v (.int .i64 (QL (isKd 4 ride) ride l.es)),.lent [2] (.tup []) z79_12,.v (.int .i64 (Qn l ride)),.lent [2,4] (.tup []) z79_13]) (obs:=_) hE Try.func79 Qh (by kernel_rfl) ho hr
theorem p79_start_14 (l:Lgb) (ride:Int) (day:Int) {E:Env} {res:AV} (hE:Qf Try.prog 79 res E) (ho:AllP [Qe Try.prog (.clos 145 [] []) [.agg (Xa l),.int .i64 ride] (.int .i64 (Qs l ride)),QO Try.prog (.clos 144 [] [.ptr 0 0 0]) [.int .i64 1,.bool (decide ((Qs l ride)<day))] [⟨true,0,1,true,[.nilSl],false⟩] (.tup []) [⟨true,0,1,true,[.nilSl],false⟩],Qe Try.prog (.clos 146 [] []) [.agg (Xa l),.int .i64 ride] (.bool (QF l ride)),QO Try.prog (.clos 144 [] [.ptr 0 0 0]) [.int .i64 2,.bool (!(QF l ride))] [⟨true,0,1,true,[.nilSl],false⟩] (.tup []) [⟨true,0,1,true,[.nilSl],false⟩],Qe Try.prog (.clos 147 [] []) (qp l ride) (.int .i64 (QL (isKd 4 ride) ride l.es)),QO Try.prog (.clos 144 [] [.ptr 0 0 0]) (Vj ride l day) [⟨true,0,1,true,[.nilSl],false⟩] (.tup []) [⟨true,0,1,true,[.nilSl],false⟩],Qe Try.prog (.clos 149 [] []) [.agg (Xa l),.int .i64 ride] (.int .i64 (Qn l ride)),QO Try.prog (.clos 144 [] [.ptr 0 0 0]) [.int .i64 4,.bool (decide ((Qn l ride)<day))] [⟨true,0,1,true,[.nilSl],false⟩] (.tup []) z79_14,1≤1,0=0])
 (hr:AvLe (.rsl [.int .i64 4] 0 1) res):G Try.prog E [.code (Qd Try.prog 79)] ⟨[.agg (Xa l),.int .i64 ride,.int .i64 day]++unds (Try.f79.ntmps - 3),[]⟩ :=
 Qb (n:=400) (evs:=[.v (.int .i64 (Qs l ride)),.lent [2] (.tup []) [⟨true,0,1,true,[.nilSl],false⟩],.v (.bool (QF l ride)),.lent [2] (.tup []) [⟨true,0,1,true,[.nilSl],false⟩],.v (.int .i64 (QL (isKd 4 ride) ride l.es)),.lent [2] (.tup []) [⟨true,0,1,true,[.nilSl],false⟩],.v (.int .i64 (Qn l ride)),.lent [2] (.tup []) z79_14]) (obs:=_) hE Try.func79 Qh (by kernel_rfl) ho hr
theorem p79_start_15 (l:Lgb) (ride:Int) (day:Int) {E:Env} {res:AV} (hE:Qf Try.prog 79 res E) (ho:AllP [Qe Try.prog (.clos 145 [] []) [.agg (Xa l),.int .i64 ride] (.int .i64 (Qs l ride)),QO Try.prog (.clos 144 [] [.ptr 0 0 0]) [.int .i64 1,.bool (decide ((Qs l ride)<day))] [⟨true,0,1,true,[.nilSl],false⟩] (.tup []) [⟨true,0,1,true,[.nilSl],false⟩],Qe Try.prog (.clos 146 [] []) [.agg (Xa l),.int .i64 ride] (.bool (QF l ride)),QO Try.prog (.clos 144 [] [.ptr 0 0 0]) [.int .i64 2,.bool (!(QF l ride))] [⟨true,0,1,true,[.nilSl],false⟩] (.tup []) [⟨true,0,1,true,[.nilSl],false⟩],Qe Try.prog (.clos 147 [] []) (qp l ride) (.int .i64 (QL (isKd 4 ride) ride l.es)),QO Try.prog (.clos 144 [] [.ptr 0 0 0]) (Vj ride l day) [⟨true,0,1,true,[.nilSl],false⟩] (.tup []) [⟨true,0,1,true,[.nilSl],false⟩],Qe Try.prog (.clos 149 [] []) [.agg (Xa l),.int .i64 ride] (.int .i64 (Qn l ride)),QO Try.prog (.clos 144 [] [.ptr 0 0 0]) [.int .i64 4,.bool (decide ((Qn l ride)<day))] [⟨true,0,1,true,[.nilSl],false⟩] (.tup []) [⟨true,0,1,true,[.nilSl],false⟩],1≤1])
 (hr:AvLe (.nilSl) res):G Try.prog E [.code (Qd Try.prog 79)] ⟨[.agg (Xa l),.int .i64 ride,.int .i64 day]++unds (Try.f79.ntmps - 3),[]⟩ :=
 Qb (n:=400) (evs:=[.v (.int .i64 (Qs l ride)),.lent [2] (.tup []) [⟨true,0,1,true,[.nilSl],false⟩],.v (.bool (QF l ride)),.lent [2] (.tup []) [⟨true,0,1,true,[.nilSl],false⟩],.v (.int .i64 (QL (isKd 4 ride) ride l.es)),.lent [2] (.tup []) [⟨true,0,1,true,[.nilSl],false⟩],.v (.int .i64 (Qn l ride)),.lent [2] (.tup []) [⟨true,0,1,true,[.nilSl],false⟩]]) (obs:=_) hE Try.func79 Qh (by kernel_rfl) ho hr
theorem f79W (l:Lgb) (ride:Int) (day:Int) {E:Env} {rv:(List Int)} (hE:Qf Try.prog 79 (.rsl (rowI rv) 0 rv.length) E)
 (h:((LogFine l)∧(((Qs l ride)<day→((LogFine l)∧(((QF l ride)=false→((l.es.length≤1000)∧((¬ ((QL (isKd 4 ride) ride l.es)=day)→((l.es.length≤1000∧(0≤ride∧ride<(l.k.insured.length:Int)))∧(((Qn l ride)<day→rv=[1,2,3,4])∧(¬ ((Qn l ride)<day)→rv=[1,2,3]))))∧((QL (isKd 4 ride) ride l.es)=day→((l.es.length≤1000∧(0≤ride∧ride<(l.k.insured.length:Int)))∧(((Qn l ride)<day→rv=[1,2,4])∧(¬ ((Qn l ride)<day)→rv=[1,2])))))))∧((QF l ride)=true→((l.es.length≤1000)∧((¬ ((QL (isKd 4 ride) ride l.es)=day)→((l.es.length≤1000∧(0≤ride∧ride<(l.k.insured.length:Int)))∧(((Qn l ride)<day→rv=[1,3,4])∧(¬ ((Qn l ride)<day)→rv=[1,3]))))∧((QL (isKd 4 ride) ride l.es)=day→((l.es.length≤1000∧(0≤ride∧ride<(l.k.insured.length:Int)))∧(((Qn l ride)<day→rv=[1,4])∧(¬ ((Qn l ride)<day)→rv=[1]))))))))))∧(¬ ((Qs l ride)<day)→((LogFine l)∧(((QF l ride)=false→((l.es.length≤1000)∧((¬ ((QL (isKd 4 ride) ride l.es)=day)→((l.es.length≤1000∧(0≤ride∧ride<(l.k.insured.length:Int)))∧(((Qn l ride)<day→rv=[2,3,4])∧(¬ ((Qn l ride)<day)→rv=[2,3]))))∧((QL (isKd 4 ride) ride l.es)=day→((l.es.length≤1000∧(0≤ride∧ride<(l.k.insured.length:Int)))∧(((Qn l ride)<day→rv=[2,4])∧(¬ ((Qn l ride)<day)→rv=[2])))))))∧((QF l ride)=true→((l.es.length≤1000)∧((¬ ((QL (isKd 4 ride) ride l.es)=day)→((l.es.length≤1000∧(0≤ride∧ride<(l.k.insured.length:Int)))∧(((Qn l ride)<day→rv=[3,4])∧(¬ ((Qn l ride)<day)→rv=[3]))))∧((QL (isKd 4 ride) ride l.es)=day→((l.es.length≤1000∧(0≤ride∧ride<(l.k.insured.length:Int)))∧(((Qn l ride)<day→rv=[4])∧(¬ ((Qn l ride)<day)→rv=([]:List Int)))))))))))))):G Try.prog E [.code (Qd Try.prog 79)] ⟨[.agg [.rsl (Qg l.k.rules) 0 l.k.rules.length,.rsl (rowI l.k.ranks) 0 l.k.ranks.length,.rsl (rowI l.k.insured) 0 l.k.insured.length,.rsl (Qc l.es) 0 l.es.length],.int .i64 ride,.int .i64 day]++unds (Try.f79.ntmps - 3),[]⟩:=by
 obtain ⟨h1,h⟩:=h
 rcases bft (decide ((Qs l ride)<day)) with hc0 | hc0
 · have h:=h.1 (odt hc0)
   obtain ⟨h2,h⟩:=h
   rcases bft (!(QF l ride)) with hc1 | hc1
   · have h:=h.1 (bnT hc1)
     obtain ⟨h3,h⟩:=h
     rcases bft ((QL (isKd 4 ride) ride l.es) != day) with hc2 | hc2
     · have h:=h.1 (bneT hc2)
       obtain ⟨h4,h⟩:=h
       rcases bft (decide ((Qn l ride)<day)) with hc3 | hc3
       · have h:=h.1 (odt hc3)
         exact p79_start_0 l ride day hE ⟨(u145 (Xg l ride h1)),(Qq Try.func144 (by kernel_rfl) QC (Vt 1 (decide ((Qs l ride)<day)) hc0)),(u146 (XJ l ride h2)),(Qq Try.func144 (by kernel_rfl) QC (YZ 2 (!(QF l ride)) ([1]:List Int) 0 hc1 (by decide))),(Qj Try.func147 (by kernel_rfl) Vh (XK l ride ride h3)),(Qq Try.func144 (by kernel_rfl) QC (YZ 3 ((QL (isKd 4 ride) ride l.es) != day) ([1,2]:List Int) 1 hc2 (by decide))),(u149 (Xf l ride h4)),(Qq Try.func144 (by kernel_rfl) QC (YZ 4 (decide ((Qn l ride)<day)) ([1,2,3]:List Int) 2 hc3 (by decide))),(by decide),rfl,trivial⟩ (AvLe.of_eq (by rw [h]; try rfl))
       · have h:=h.2 (odf hc3)
         exact p79_start_1 l ride day hE ⟨(u145 (Xg l ride h1)),(Qq Try.func144 (by kernel_rfl) QC (Vt 1 (decide ((Qs l ride)<day)) hc0)),(u146 (XJ l ride h2)),(Qq Try.func144 (by kernel_rfl) QC (YZ 2 (!(QF l ride)) ([1]:List Int) 0 hc1 (by decide))),(Qj Try.func147 (by kernel_rfl) Vh (XK l ride ride h3)),(Qq Try.func144 (by kernel_rfl) QC (YZ 3 ((QL (isKd 4 ride) ride l.es) != day) ([1,2]:List Int) 1 hc2 (by decide))),(u149 (Xf l ride h4)),(Qq Try.func144 (by kernel_rfl) QC (Va 4 (decide ((Qn l ride)<day)) ([1,2,3]:List Int) 2 hc3)),(by decide),rfl,trivial⟩ (AvLe.of_eq (by rw [h]; try rfl))
     · have h:=h.2 (bneF hc2)
       obtain ⟨h4,h⟩:=h
       rcases bft (decide ((Qn l ride)<day)) with hc3 | hc3
       · have h:=h.1 (odt hc3)
         exact p79_start_2 l ride day hE ⟨(u145 (Xg l ride h1)),(Qq Try.func144 (by kernel_rfl) QC (Vt 1 (decide ((Qs l ride)<day)) hc0)),(u146 (XJ l ride h2)),(Qq Try.func144 (by kernel_rfl) QC (YZ 2 (!(QF l ride)) ([1]:List Int) 0 hc1 (by decide))),(Qj Try.func147 (by kernel_rfl) Vh (XK l ride ride h3)),(Qq Try.func144 (by kernel_rfl) QC (Va 3 ((QL (isKd 4 ride) ride l.es) != day) ([1,2]:List Int) 1 hc2)),(u149 (Xf l ride h4)),(Qq Try.func144 (by kernel_rfl) QC (YZ 4 (decide ((Qn l ride)<day)) ([1,2]:List Int) 1 hc3 (by decide))),(by decide),rfl,trivial⟩ (AvLe.of_eq (by rw [h]; try rfl))
       · have h:=h.2 (odf hc3)
         exact p79_start_3 l ride day hE ⟨(u145 (Xg l ride h1)),(Qq Try.func144 (by kernel_rfl) QC (Vt 1 (decide ((Qs l ride)<day)) hc0)),(u146 (XJ l ride h2)),(Qq Try.func144 (by kernel_rfl) QC (YZ 2 (!(QF l ride)) ([1]:List Int) 0 hc1 (by decide))),(Qj Try.func147 (by kernel_rfl) Vh (XK l ride ride h3)),(Qq Try.func144 (by kernel_rfl) QC (Va 3 ((QL (isKd 4 ride) ride l.es) != day) ([1,2]:List Int) 1 hc2)),(u149 (Xf l ride h4)),(Qq Try.func144 (by kernel_rfl) QC (Va 4 (decide ((Qn l ride)<day)) ([1,2]:List Int) 1 hc3)),(by decide),rfl,trivial⟩ (AvLe.of_eq (by rw [h]; try rfl))
   · have h:=h.2 (bnF hc1)
     obtain ⟨h3,h⟩:=h
     rcases bft ((QL (isKd 4 ride) ride l.es) != day) with hc2 | hc2
     · have h:=h.1 (bneT hc2)
       obtain ⟨h4,h⟩:=h
       rcases bft (decide ((Qn l ride)<day)) with hc3 | hc3
       · have h:=h.1 (odt hc3)
         exact p79_start_4 l ride day hE ⟨(u145 (Xg l ride h1)),(Qq Try.func144 (by kernel_rfl) QC (Vt 1 (decide ((Qs l ride)<day)) hc0)),(u146 (XJ l ride h2)),(Qq Try.func144 (by kernel_rfl) QC (Va 2 (!(QF l ride)) ([1]:List Int) 0 hc1)),(Qj Try.func147 (by kernel_rfl) Vh (XK l ride ride h3)),(Qq Try.func144 (by kernel_rfl) QC (YZ 3 ((QL (isKd 4 ride) ride l.es) != day) ([1]:List Int) 0 hc2 (by decide))),(u149 (Xf l ride h4)),(Qq Try.func144 (by kernel_rfl) QC (YZ 4 (decide ((Qn l ride)<day)) ([1,3]:List Int) 1 hc3 (by decide))),(by decide),rfl,trivial⟩ (AvLe.of_eq (by rw [h]; try rfl))
       · have h:=h.2 (odf hc3)
         exact p79_start_5 l ride day hE ⟨(u145 (Xg l ride h1)),(Qq Try.func144 (by kernel_rfl) QC (Vt 1 (decide ((Qs l ride)<day)) hc0)),(u146 (XJ l ride h2)),(Qq Try.func144 (by kernel_rfl) QC (Va 2 (!(QF l ride)) ([1]:List Int) 0 hc1)),(Qj Try.func147 (by kernel_rfl) Vh (XK l ride ride h3)),(Qq Try.func144 (by kernel_rfl) QC (YZ 3 ((QL (isKd 4 ride) ride l.es) != day) ([1]:List Int) 0 hc2 (by decide))),(u149 (Xf l ride h4)),(Qq Try.func144 (by kernel_rfl) QC (Va 4 (decide ((Qn l ride)<day)) ([1,3]:List Int) 1 hc3)),(by decide),rfl,trivial⟩ (AvLe.of_eq (by rw [h]; try rfl))
     · have h:=h.2 (bneF hc2)
       obtain ⟨h4,h⟩:=h
       rcases bft (decide ((Qn l ride)<day)) with hc3 | hc3
       · have h:=h.1 (odt hc3)
         exact p79_start_6 l ride day hE ⟨(u145 (Xg l ride h1)),(Qq Try.func144 (by kernel_rfl) QC (Vt 1 (decide ((Qs l ride)<day)) hc0)),(u146 (XJ l ride h2)),(Qq Try.func144 (by kernel_rfl) QC (Va 2 (!(QF l ride)) ([1]:List Int) 0 hc1)),(Qj Try.func147 (by kernel_rfl) Vh (XK l ride ride h3)),(Qq Try.func144 (by kernel_rfl) QC (Va 3 ((QL (isKd 4 ride) ride l.es) != day) ([1]:List Int) 0 hc2)),(u149 (Xf l ride h4)),(Qq Try.func144 (by kernel_rfl) QC (YZ 4 (decide ((Qn l ride)<day)) ([1]:List Int) 0 hc3 (by decide))),(by decide),rfl,trivial⟩ (AvLe.of_eq (by rw [h]; try rfl))
       · have h:=h.2 (odf hc3)
         exact p79_start_7 l ride day hE ⟨(u145 (Xg l ride h1)),(Qq Try.func144 (by kernel_rfl) QC (Vt 1 (decide ((Qs l ride)<day)) hc0)),(u146 (XJ l ride h2)),(Qq Try.func144 (by kernel_rfl) QC (Va 2 (!(QF l ride)) ([1]:List Int) 0 hc1)),(Qj Try.func147 (by kernel_rfl) Vh (XK l ride ride h3)),(Qq Try.func144 (by kernel_rfl) QC (Va 3 ((QL (isKd 4 ride) ride l.es) != day) ([1]:List Int) 0 hc2)),(u149 (Xf l ride h4)),(Qq Try.func144 (by kernel_rfl) QC (Va 4 (decide ((Qn l ride)<day)) ([1]:List Int) 0 hc3)),(by decide),rfl,trivial⟩ (AvLe.of_eq (by rw [h]; try rfl))
 · have h:=h.2 (odf hc0)
   obtain ⟨h2,h⟩:=h
   rcases bft (!(QF l ride)) with hc1 | hc1
   · have h:=h.1 (bnT hc1)
     obtain ⟨h3,h⟩:=h
     rcases bft ((QL (isKd 4 ride) ride l.es) != day) with hc2 | hc2
     · have h:=h.1 (bneT hc2)
       obtain ⟨h4,h⟩:=h
       rcases bft (decide ((Qn l ride)<day)) with hc3 | hc3
       · have h:=h.1 (odt hc3)
         exact p79_start_8 l ride day hE ⟨(u145 (Xg l ride h1)),(Qq Try.func144 (by kernel_rfl) QC (Vu 1 (decide ((Qs l ride)<day)) hc0)),(u146 (XJ l ride h2)),(Qq Try.func144 (by kernel_rfl) QC (Vt 2 (!(QF l ride)) hc1)),(Qj Try.func147 (by kernel_rfl) Vh (XK l ride ride h3)),(Qq Try.func144 (by kernel_rfl) QC (YZ 3 ((QL (isKd 4 ride) ride l.es) != day) ([2]:List Int) 0 hc2 (by decide))),(u149 (Xf l ride h4)),(Qq Try.func144 (by kernel_rfl) QC (YZ 4 (decide ((Qn l ride)<day)) ([2,3]:List Int) 1 hc3 (by decide))),(by decide),rfl,trivial⟩ (AvLe.of_eq (by rw [h]; try rfl))
       · have h:=h.2 (odf hc3)
         exact p79_start_9 l ride day hE ⟨(u145 (Xg l ride h1)),(Qq Try.func144 (by kernel_rfl) QC (Vu 1 (decide ((Qs l ride)<day)) hc0)),(u146 (XJ l ride h2)),(Qq Try.func144 (by kernel_rfl) QC (Vt 2 (!(QF l ride)) hc1)),(Qj Try.func147 (by kernel_rfl) Vh (XK l ride ride h3)),(Qq Try.func144 (by kernel_rfl) QC (YZ 3 ((QL (isKd 4 ride) ride l.es) != day) ([2]:List Int) 0 hc2 (by decide))),(u149 (Xf l ride h4)),(Qq Try.func144 (by kernel_rfl) QC (Va 4 (decide ((Qn l ride)<day)) ([2,3]:List Int) 1 hc3)),(by decide),rfl,trivial⟩ (AvLe.of_eq (by rw [h]; try rfl))
     · have h:=h.2 (bneF hc2)
       obtain ⟨h4,h⟩:=h
       rcases bft (decide ((Qn l ride)<day)) with hc3 | hc3
       · have h:=h.1 (odt hc3)
         exact p79_start_10 l ride day hE ⟨(u145 (Xg l ride h1)),(Qq Try.func144 (by kernel_rfl) QC (Vu 1 (decide ((Qs l ride)<day)) hc0)),(u146 (XJ l ride h2)),(Qq Try.func144 (by kernel_rfl) QC (Vt 2 (!(QF l ride)) hc1)),(Qj Try.func147 (by kernel_rfl) Vh (XK l ride ride h3)),(Qq Try.func144 (by kernel_rfl) QC (Va 3 ((QL (isKd 4 ride) ride l.es) != day) ([2]:List Int) 0 hc2)),(u149 (Xf l ride h4)),(Qq Try.func144 (by kernel_rfl) QC (YZ 4 (decide ((Qn l ride)<day)) ([2]:List Int) 0 hc3 (by decide))),(by decide),rfl,trivial⟩ (AvLe.of_eq (by rw [h]; try rfl))
       · have h:=h.2 (odf hc3)
         exact p79_start_11 l ride day hE ⟨(u145 (Xg l ride h1)),(Qq Try.func144 (by kernel_rfl) QC (Vu 1 (decide ((Qs l ride)<day)) hc0)),(u146 (XJ l ride h2)),(Qq Try.func144 (by kernel_rfl) QC (Vt 2 (!(QF l ride)) hc1)),(Qj Try.func147 (by kernel_rfl) Vh (XK l ride ride h3)),(Qq Try.func144 (by kernel_rfl) QC (Va 3 ((QL (isKd 4 ride) ride l.es) != day) ([2]:List Int) 0 hc2)),(u149 (Xf l ride h4)),(Qq Try.func144 (by kernel_rfl) QC (Va 4 (decide ((Qn l ride)<day)) ([2]:List Int) 0 hc3)),(by decide),rfl,trivial⟩ (AvLe.of_eq (by rw [h]; try rfl))
   · have h:=h.2 (bnF hc1)
     obtain ⟨h3,h⟩:=h
     rcases bft ((QL (isKd 4 ride) ride l.es) != day) with hc2 | hc2
     · have h:=h.1 (bneT hc2)
       obtain ⟨h4,h⟩:=h
       rcases bft (decide ((Qn l ride)<day)) with hc3 | hc3
       · have h:=h.1 (odt hc3)
         exact p79_start_12 l ride day hE ⟨(u145 (Xg l ride h1)),(Qq Try.func144 (by kernel_rfl) QC (Vu 1 (decide ((Qs l ride)<day)) hc0)),(u146 (XJ l ride h2)),(Qq Try.func144 (by kernel_rfl) QC (Vu 2 (!(QF l ride)) hc1)),(Qj Try.func147 (by kernel_rfl) Vh (XK l ride ride h3)),(Qq Try.func144 (by kernel_rfl) QC (Vt 3 ((QL (isKd 4 ride) ride l.es) != day) hc2)),(u149 (Xf l ride h4)),(Qq Try.func144 (by kernel_rfl) QC (YZ 4 (decide ((Qn l ride)<day)) ([3]:List Int) 0 hc3 (by decide))),(by decide),rfl,trivial⟩ (AvLe.of_eq (by rw [h]; try rfl))
       · have h:=h.2 (odf hc3)
         exact p79_start_13 l ride day hE ⟨(u145 (Xg l ride h1)),(Qq Try.func144 (by kernel_rfl) QC (Vu 1 (decide ((Qs l ride)<day)) hc0)),(u146 (XJ l ride h2)),(Qq Try.func144 (by kernel_rfl) QC (Vu 2 (!(QF l ride)) hc1)),(Qj Try.func147 (by kernel_rfl) Vh (XK l ride ride h3)),(Qq Try.func144 (by kernel_rfl) QC (Vt 3 ((QL (isKd 4 ride) ride l.es) != day) hc2)),(u149 (Xf l ride h4)),(Qq Try.func144 (by kernel_rfl) QC (Va 4 (decide ((Qn l ride)<day)) ([3]:List Int) 0 hc3)),(by decide),rfl,trivial⟩ (AvLe.of_eq (by rw [h]; try rfl))
     · have h:=h.2 (bneF hc2)
       obtain ⟨h4,h⟩:=h
       rcases bft (decide ((Qn l ride)<day)) with hc3 | hc3
       · have h:=h.1 (odt hc3)
         exact p79_start_14 l ride day hE ⟨(u145 (Xg l ride h1)),(Qq Try.func144 (by kernel_rfl) QC (Vu 1 (decide ((Qs l ride)<day)) hc0)),(u146 (XJ l ride h2)),(Qq Try.func144 (by kernel_rfl) QC (Vu 2 (!(QF l ride)) hc1)),(Qj Try.func147 (by kernel_rfl) Vh (XK l ride ride h3)),(Qq Try.func144 (by kernel_rfl) QC (Vu 3 ((QL (isKd 4 ride) ride l.es) != day) hc2)),(u149 (Xf l ride h4)),(Qq Try.func144 (by kernel_rfl) QC (Vt 4 (decide ((Qn l ride)<day)) hc3)),(by decide),rfl,trivial⟩ (AvLe.of_eq (by rw [h]; try rfl))
       · have h:=h.2 (odf hc3)
         exact p79_start_15 l ride day hE ⟨(u145 (Xg l ride h1)),(Qq Try.func144 (by kernel_rfl) QC (Vu 1 (decide ((Qs l ride)<day)) hc0)),(u146 (XJ l ride h2)),(Qq Try.func144 (by kernel_rfl) QC (Vu 2 (!(QF l ride)) hc1)),(Qj Try.func147 (by kernel_rfl) Vh (XK l ride ride h3)),(Qq Try.func144 (by kernel_rfl) QC (Vu 3 ((QL (isKd 4 ride) ride l.es) != day) hc2)),(u149 (Xf l ride h4)),(Qq Try.func144 (by kernel_rfl) QC (Vu 4 (decide ((Qn l ride)<day)) hc3)),(by decide),trivial⟩ (by rw [h]; exact VZ)
theorem why_ok (l:Lgb) (ride day:Int) (h:LogFine l∧(0≤ride∧ride<(l.k.insured.length:Int))):Pure Try.prog 79 [.agg [.rsl (Qg l.k.rules) 0 l.k.rules.length,.rsl (rowI l.k.ranks) 0 l.k.ranks.length,.rsl (rowI l.k.insured) 0 l.k.insured.length,.rsl (Qc l.es) 0 l.es.length],.int .i64 ride,.int .i64 day] (.rsl (rowI (whyK l ride day)) 0 (whyK l ride day).length):=Qv Try.func79 f79b fun E hE=>by
 obtain ⟨hf,hr⟩:=h
 have h4:=hf.small.es
 refine f79W l ride day (rv:=whyK l ride day) hE ?_
 repeat' (first | exact hf | exact h4 | exact ⟨h4,hr⟩ | refine ⟨?_,?_⟩ | intro _)
 all_goals (unfold whyK; simp [*])
theorem f208b:Try.f208.body=some (Qd Try.prog 208):=by kernel_rfl
theorem u208 {a c k:List AV} {r:AV} (h:Pure Try.prog 208 (a++c++k) r):Qe Try.prog (.clos 208 a k) c r:=Qj Try.func208 (by kernel_rfl) f208b h
theorem p208_start_0 (x:Ent) (day:Int) {E:Env} {res:AV} (hE:Qf Try.prog 208 res E) (ho:AllP [])
 (hr:AvLe (.bool (decide (x.day > day))) res):G Try.prog E [.code (Qd Try.prog 208)] ⟨[.agg [.int .i64 x.day,.int .i64 x.kind,.int .i64 x.a,.int .i64 x.b,.int .i64 x.c],.rptr [.int .i64 day] 0]++unds (Try.f208.ntmps - 2),[]⟩ :=
 Qb (n:=400) (evs:=[]) (obs:=_) hE Try.func208 Qh (by kernel_rfl) ho hr
theorem f208W (x:Ent) (day:Int) {E:Env} {rv:Bool} (hE:Qf Try.prog 208 (.bool rv) E)
 (h:rv=(decide (x.day > day))):G Try.prog E [.code (Qd Try.prog 208)] ⟨[.agg [.int .i64 x.day,.int .i64 x.kind,.int .i64 x.a,.int .i64 x.b,.int .i64 x.c],.rptr [.int .i64 day] 0]++unds (Try.f208.ntmps - 2),[]⟩:=by
 exact p208_start_0 x day hE trivial (AvLe.of_eq (by rw [h]; try rfl))
theorem later_ok (x:Ent) (day:Int):Pure Try.prog 208 [.agg [.int .i64 x.day,.int .i64 x.kind,.int .i64 x.a,.int .i64 x.b,.int .i64 x.c],.rptr [.int .i64 day] 0] (.bool (decide (x.day > day))):=Qv Try.func208 f208b fun E hE =>
 f208W x day (rv:=decide (x.day > day)) hE rfl
theorem f207onb:Try.f207.body=some (Qd Try.prog 207):=by kernel_rfl
def ql (P:Program):List Item:=kAt 400 [.code (Qd P 207)] [.stop]
def Kr (l:(List Ent)) (day:Int) (i:Nat):St:=⟨([.rsl (Qc l) 0 l.length,.clos 208 [] [.rptr [.int .i64 day] 0]]++jj 5 ([.int .i64 (l.length:Int),.int .i64 (i:Int)]++Js 10)),[]⟩
def Ks (E:Env) (l:(List Ent)) (day:Int) (i:Nat):Prop:=G Try.prog E (ql Try.prog) (Kr l day i )
abbrev WX (ee:Ent):List AV:=[.int .i64 ee.day,.int .i64 ee.kind,.int .i64 ee.a,.int .i64 ee.b,.int .i64 ee.c]
theorem QaL (l:(List Ent)) (day:Int) {E:Env} {rv:AV} (hE:Qf Try.prog 207 rv E) (ho:AllP [])
 (hg:G Try.prog E (ql Try.prog) ⟨([.rsl (Qc l) 0 l.length,.clos 208 [] [.rptr [.int .i64 day] 0]]++jj 5 ([.int .i64 (l.length:Int),.int .i64 0]++Js 10)),[]⟩):G Try.prog E [.code (Qd Try.prog 207)] ⟨[.rsl (Qc l) 0 l.length,.clos 208 [] [.rptr [.int .i64 day] 0]]++unds (Try.f207.ntmps - 2),[]⟩ :=
 Ql (n:=400) (ds:=[]) (cs:=[]) (live:=[0,1,7,8]) (m:=0) (evs:=[.stop]) (obs:=_) hE.2.1 (hE.nogh _) Qh (by kernel_rfl) ho hg
theorem f207onW (l:(List Ent)) (day:Int) {E:Env} {rv:Int} (hE:Qf Try.prog 207 (.int .i64 rv) E)
 (h:Ks E l day 0):G Try.prog E [.code (Qd Try.prog 207)] ⟨[.rsl (Qc l) 0 l.length,.clos 208 [] [.rptr [.int .i64 day] 0]]++unds (Try.f207.ntmps - 2),[]⟩:=by
 exact QaL l day hE trivial h
theorem p207on_0_0 (l:(List Ent)) (day:Int) (i:Nat) (ee:Ent) {E:Env} {res:AV} (hE:Qf Try.prog 207 res E) (ho:AllP [(decide ((i:Int)<(l.length:Int)))=true,0≤(i:Int)∧(i:Int)<(l.length:Int),((Qc l).drop (0+(Int.toNat (i:Int))*5)).take 5=(WX ee),Qe Try.prog (.clos 208 [] [.rptr [.int .i64 day] 0]) [.agg (WX ee)] (.bool (decide (ee.day > day))),(decide (ee.day > day))=true])
 (hr:AvLe (.int .i64 (i:Int)) res):G Try.prog E (ql Try.prog) (Kr l day i ) :=
 Qb (n:=400) (evs:=[.b true,.ld (.agg (WX ee)),.v (.bool (decide (ee.day > day))),.b true]) (obs:=_) hE Try.func207 Qh (by kernel_rfl) ho hr
theorem p207on_0_1 (l:(List Ent)) (day:Int) (i:Nat) (ee:Ent) {E:Env} {rv:AV} (hE:Qf Try.prog 207 rv E) (ho:AllP [(decide ((i:Int)<(l.length:Int)))=true,0≤(i:Int)∧(i:Int)<(l.length:Int),((Qc l).drop (0+(Int.toNat (i:Int))*5)).take 5=(WX ee),Qe Try.prog (.clos 208 [] [.rptr [.int .i64 day] 0]) [.agg (WX ee)] (.bool (decide (ee.day > day))),(decide (ee.day > day))=false,InR .i64 ((i:Int)+1)])
 (hg:G Try.prog E (ql Try.prog) ⟨([.rsl (Qc l) 0 l.length,.clos 208 [] [.rptr [.int .i64 day] 0]]++jj 5 ([.int .i64 (l.length:Int),.int .i64 ((i:Int)+1)]++Js 10)),[]⟩):G Try.prog E (ql Try.prog) (Kr l day i ) :=
 Ql (n:=400) (ds:=[]) (cs:=[]) (live:=[0,1,7,8]) (m:=0) (evs:=[.b true,.ld (.agg (WX ee)),.v (.bool (decide (ee.day > day))),.b false,.stop]) (obs:=_) hE.2.1 (hE.nogh _) Qh (by kernel_rfl) ho hg
theorem p207on_0_2 (l:(List Ent)) (day:Int) (i:Nat) {E:Env} {res:AV} (hE:Qf Try.prog 207 res E) (ho:AllP [(decide ((i:Int)<(l.length:Int)))=false])
 (hr:AvLe (.int .i64 (-1)) res):G Try.prog E (ql Try.prog) (Kr l day i ) :=
 Qb (n:=400) (evs:=[.b false]) (obs:=_) hE Try.func207 Qh (by kernel_rfl) ho hr
theorem f207onW0 (l:(List Ent)) (day:Int) (i:Nat) {E:Env} {rv:Int} (hE:Qf Try.prog 207 (.int .i64 rv) E)
 (h:(((i:Int)<(l.length:Int)→(∃ ee:Ent,l[i]?=some ee∧((ee.day > day→rv=(i:Int))∧(¬ (ee.day > day)→((I6 ((i:Int)+1))∧Ks E l day (i+1))))))∧(¬ ((i:Int)<(l.length:Int))→rv=(-1)))):Ks E l day i:=by
 rcases bft (decide ((i:Int)<(l.length:Int))) with hc0 | hc0
 · have h:=h.1 (odt hc0)
   obtain ⟨ee,h1,h⟩:=h
   rcases bft (decide (ee.day > day)) with hc1 | hc1
   · have h:=h.1 (odt hc1)
     exact p207on_0_0 l day i ee hE ⟨hc0,(QE h1),(rp cEnt 5 0 5 h1),(u208 (later_ok ee day)),hc1,trivial⟩ (AvLe.of_eq (by rw [h]; try rfl))
   · have h:=h.2 (odf hc1)
     obtain ⟨q6_2,h⟩:=h
     exact p207on_0_1 l day i ee hE ⟨hc0,(QE h1),(rp cEnt 5 0 5 h1),(u208 (later_ok ee day)),hc1,q6_2,trivial⟩ h
 · have h:=h.2 (odf hc0)
   exact p207on_0_2 l day i hE ⟨hc0,trivial⟩ (AvLe.of_eq (by rw [h]; try rfl))
theorem KY (l:List Ent) (day:Int) (h:l.length≤9223372036854775807):Pure Try.prog 207 [.rsl (Qc l) 0 l.length,.clos 208 [] [.rptr [.int .i64 day] 0]] (.int .i64 (idxG (fun x=>decide (x.day > day)) l)):=Qv Try.func207 f207onb fun E hE=>by
 have hl:=h
 refine f207onW l day (rv:=idxG (fun x=>decide (x.day > day)) l) hE (Yy (fun x=>decide (x.day > day)) l l.length 0 (by omega) (fun j x hj=>by omega) (fun i=>Ks E l day i) (fun i hi' h1 h2=>?_) (fun _ h2=>?_))
 · have hx:l[i]?=some l[i]:=List.getElem?_eq_getElem hi'
   have hm:=List.mem_of_getElem? hx
   exact f207onW0 l day i (rv:=idxG (fun x=>decide (x.day > day)) l) hE ⟨fun _=>⟨_,hx,fun hp=>h1 _ hx (by simpa using hp),fun hp=>⟨by omega,h2 _ hx (by simpa using hp)⟩⟩,fun h=>by omega⟩
 · exact f207onW0 l day _ (rv:=idxG (fun x=>decide (x.day > day)) l) hE ⟨fun h=>by omega,fun _=>h2⟩
theorem f143b:Try.f143.body=some (Qd Try.prog 143):=by kernel_rfl
theorem u143 {a c k:List AV} {r:AV} (h:Pure Try.prog 143 (a++c++k) r):Qe Try.prog (.clos 143 a k) c r:=Qj Try.func143 (by kernel_rfl) f143b h
abbrev z143_1 (l:Lgb):List AV:=[.rsl (Qg l.k.rules) 0 l.k.rules.length,.rsl (rowI l.k.ranks) 0 l.k.ranks.length,.rsl (rowI l.k.insured) 0 l.k.insured.length,.rsl (Qc l.es) 0 l.es.length]
theorem p143_start_0 (l:Lgb) (day:Int) {E:Env} {res:AV} (hE:Qf Try.prog 143 res E) (ho:AllP [Qe Try.prog (.clos 207 [] []) [.rsl (Qc l.es) 0 l.es.length,.clos 208 [] [.rptr [.int .i64 day] 0]] (.int .i64 (idxG (fun x=>decide (x.day > day)) l.es)),(decide ((idxG (fun x=>decide (x.day > day)) l.es)≥0))=true,0≤(Int.toNat (idxG (fun x=>decide (x.day > day)) l.es)),(Int.toNat (idxG (fun x=>decide (x.day > day)) l.es))≤l.es.length,0≤(idxG (fun x=>decide (x.day > day)) l.es),4≤4,4≤4])
 (hr:AvLe (.agg [.rsl (Qg l.k.rules) 0 l.k.rules.length,.rsl (rowI l.k.ranks) 0 l.k.ranks.length,.rsl (rowI l.k.insured) 0 l.k.insured.length,.rsl (Qc l.es) 0 (Int.toNat (idxG (fun x=>decide (x.day > day)) l.es))]) res):G Try.prog E [.code (Qd Try.prog 143)] ⟨[.agg (z143_1 l),.int .i64 day]++unds (Try.f143.ntmps - 2),[]⟩ :=
 Qb (n:=400) (evs:=[.v (.int .i64 (idxG (fun x=>decide (x.day > day)) l.es)),.b true]) (obs:=_) hE Try.func143 Qh (by kernel_rfl) ho hr
theorem p143_start_1 (l:Lgb) (day:Int) {E:Env} {res:AV} (hE:Qf Try.prog 143 res E) (ho:AllP [Qe Try.prog (.clos 207 [] []) [.rsl (Qc l.es) 0 l.es.length,.clos 208 [] [.rptr [.int .i64 day] 0]] (.int .i64 (idxG (fun x=>decide (x.day > day)) l.es)),(decide ((idxG (fun x=>decide (x.day > day)) l.es)≥0))=false,4≤4])
 (hr:AvLe (.agg (z143_1 l)) res):G Try.prog E [.code (Qd Try.prog 143)] ⟨[.agg (z143_1 l),.int .i64 day]++unds (Try.f143.ntmps - 2),[]⟩ :=
 Qb (n:=400) (evs:=[.v (.int .i64 (idxG (fun x=>decide (x.day > day)) l.es)),.b false]) (obs:=_) hE Try.func143 Qh (by kernel_rfl) ho hr
theorem f143W (l:Lgb) (day:Int) {E:Env} {rv:Lgb} (hE:Qf Try.prog 143 (.agg [.rsl (Qg rv.k.rules) 0 rv.k.rules.length,.rsl (rowI rv.k.ranks) 0 rv.k.ranks.length,.rsl (rowI rv.k.insured) 0 rv.k.insured.length,.rsl (Qc rv.es) 0 rv.es.length]) E)
 (h:((l.es.length≤9223372036854775807)∧(((idxG (fun x=>decide (x.day > day)) l.es)≥0→((Int.toNat (idxG (fun x=>decide (x.day > day)) l.es))≤l.es.length∧(0≤(idxG (fun x=>decide (x.day > day)) l.es)∧rv=(⟨l.k,(l.es.take (Int.toNat (idxG (fun x=>decide (x.day > day)) l.es)))⟩:Lgb))))∧(¬ ((idxG (fun x=>decide (x.day > day)) l.es)≥0)→rv=l)))):G Try.prog E [.code (Qd Try.prog 143)] ⟨[.agg [.rsl (Qg l.k.rules) 0 l.k.rules.length,.rsl (rowI l.k.ranks) 0 l.k.ranks.length,.rsl (rowI l.k.insured) 0 l.k.insured.length,.rsl (Qc l.es) 0 l.es.length],.int .i64 day]++unds (Try.f143.ntmps - 2),[]⟩:=by
 obtain ⟨h1,h⟩:=h
 rcases bft (decide ((idxG (fun x=>decide (x.day > day)) l.es)≥0)) with hc0 | hc0
 · have h:=h.1 (odt hc0)
   obtain ⟨q3_1,h⟩:=h
   obtain ⟨q4_1,h⟩:=h
   exact p143_start_0 l day hE ⟨(Qj Try.func207 (by kernel_rfl) f207onb (KY l.es day h1)),hc0,(Nat.zero_le _),q3_1,q4_1,(by decide),(by decide),trivial⟩ (by rw [h]; exact (agg_le ⟨AvLe.of_eq rfl,⟨AvLe.of_eq rfl,⟨AvLe.of_eq rfl,⟨(by exact rsl_take cEnt (s:=5) (fun _=>rfl) (by first | omega | decide | simp)),trivial⟩⟩⟩⟩))
 · have h:=h.2 (odf hc0)
   exact p143_start_1 l day hE ⟨(Qj Try.func207 (by kernel_rfl) f207onb (KY l.es day h1)),hc0,(by decide),trivial⟩ (AvLe.of_eq (by rw [h]; try rfl))
theorem on_ok (l:Lgb) (day:Int) (h:l.es.length≤1000):Pure Try.prog 143 [.agg [.rsl (Qg l.k.rules) 0 l.k.rules.length,.rsl (rowI l.k.ranks) 0 l.k.ranks.length,.rsl (rowI l.k.insured) 0 l.k.insured.length,.rsl (Qc l.es) 0 l.es.length],.int .i64 day] (.agg (cLgb (onK l day))):=Qv Try.func143 f143b fun E hE=>by
 refine f143W l day (rv:=onK l day) hE ⟨by omega,fun q=>⟨?_,by omega,?_⟩,fun q=>?_⟩
 · have:=idxG_le (fun x=>decide (x.day > day)) l.es; omega
 · unfold onK; rw [if_pos q]
 · unfold onK; rw [if_neg q]
theorem f78b:Try.f78.body=some (Qd Try.prog 78):=by kernel_rfl
theorem u78 {a c k:List AV} {r:AV} (h:Pure Try.prog 78 (a++c++k) r):Qe Try.prog (.clos 78 a k) c r:=Qj Try.func78 (by kernel_rfl) f78b h
abbrev z78_1 (k:Bok) (es:(List Ent)):List AV:=[.rsl (Qg ((((logK k es).1).k).rules)) 0 (((((logK k es).1).k).rules).length),.rsl (rowI ((((logK k es).1).k).ranks)) 0 (((((logK k es).1).k).ranks).length),.rsl (rowI ((((logK k es).1).k).insured)) 0 (((((logK k es).1).k).insured).length),.rsl (Qc (((logK k es).1).es)) 0 ((((logK k es).1).es).length)]
abbrev z78_2 (k:Bok) (es:(List Ent)) (day:Int):List AV:=[.rsl (Qg (((onK ((logK k es).1) day).k).rules)) 0 ((((onK ((logK k es).1) day).k).rules).length),.rsl (rowI (((onK ((logK k es).1) day).k).ranks)) 0 ((((onK ((logK k es).1) day).k).ranks).length),.rsl (rowI (((onK ((logK k es).1) day).k).insured)) 0 ((((onK ((logK k es).1) day).k).insured).length),.rsl (Qc ((onK ((logK k es).1) day).es)) 0 (((onK ((logK k es).1) day).es).length)]
abbrev z78_3 (k:Bok):List AV:=[.rsl (Qg k.rules) 0 k.rules.length,.rsl (rowI k.ranks) 0 k.ranks.length,.rsl (rowI k.insured) 0 k.insured.length]
abbrev z78_4 (k:Bok) (es:(List Ent)):AV:=.tup [.agg (z78_1 k es),.int .i64 ((logK k es).2.1),.int .i64 ((logK k es).2.2)]
theorem p78_start_0 (k:Bok) (es:(List Ent)) (day:Int) {E:Env} {res:AV} (hE:Qf Try.prog 78 res E) (ho:AllP [Qe Try.prog (.clos 141 [] []) [.agg (z78_3 k),.rsl (Qc es) 0 es.length] (z78_4 k es),4≤4,((logK k es).2.2 != 0)=true,4≤4])
 (hr:AvLe (.tup [.agg (z78_1 k es),.int .i64 ((logK k es).2.2)]) res):G Try.prog E [.code (Qd Try.prog 78)] ⟨[.agg (z78_3 k),.rsl (Qc es) 0 es.length,.int .i64 day]++unds (Try.f78.ntmps - 3),[]⟩ :=
 Qb (n:=400) (evs:=[.v (z78_4 k es),.b true]) (obs:=_) hE Try.func78 Qh (by kernel_rfl) ho hr
theorem p78_start_1 (k:Bok) (es:(List Ent)) (day:Int) {E:Env} {res:AV} (hE:Qf Try.prog 78 res E) (ho:AllP [Qe Try.prog (.clos 141 [] []) [.agg (z78_3 k),.rsl (Qc es) 0 es.length] (z78_4 k es),4≤4,((logK k es).2.2 != 0)=false,Qe Try.prog (.clos 142 [] []) [.int .i64 day,.int .i64 0,.int .i64 10000] (.bool (Qa day 0 10000)),(!(Qa day 0 10000))=true,4≤4])
 (hr:AvLe (.tup [.agg (z78_1 k es),.int .i64 1]) res):G Try.prog E [.code (Qd Try.prog 78)] ⟨[.agg (z78_3 k),.rsl (Qc es) 0 es.length,.int .i64 day]++unds (Try.f78.ntmps - 3),[]⟩ :=
 Qb (n:=400) (evs:=[.v (z78_4 k es),.b false,.v (.bool (Qa day 0 10000)),.b true]) (obs:=_) hE Try.func78 Qh (by kernel_rfl) ho hr
theorem p78_start_2 (k:Bok) (es:(List Ent)) (day:Int) {E:Env} {res:AV} (hE:Qf Try.prog 78 res E) (ho:AllP [Qe Try.prog (.clos 141 [] []) [.agg (z78_3 k),.rsl (Qc es) 0 es.length] (z78_4 k es),4≤4,((logK k es).2.2 != 0)=false,Qe Try.prog (.clos 142 [] []) [.int .i64 day,.int .i64 0,.int .i64 10000] (.bool (Qa day 0 10000)),(!(Qa day 0 10000))=false,Qe Try.prog (.clos 143 [] []) [.agg (z78_1 k es),.int .i64 day] (.agg (z78_2 k es day)),4≤4])
 (hr:AvLe (.tup [.agg (z78_2 k es day),.int .i64 0]) res):G Try.prog E [.code (Qd Try.prog 78)] ⟨[.agg (z78_3 k),.rsl (Qc es) 0 es.length,.int .i64 day]++unds (Try.f78.ntmps - 3),[]⟩ :=
 Qb (n:=400) (evs:=[.v (z78_4 k es),.b false,.v (.bool (Qa day 0 10000)),.b false,.v (.agg (z78_2 k es day))]) (obs:=_) hE Try.func78 Qh (by kernel_rfl) ho hr
theorem f78W (k:Bok) (es:(List Ent)) (day:Int) {E:Env} {rv:(Lgb × Int)} (hE:Qf Try.prog 78 (.tup [.agg [.rsl (Qg rv.1.k.rules) 0 rv.1.k.rules.length,.rsl (rowI rv.1.k.ranks) 0 rv.1.k.ranks.length,.rsl (rowI rv.1.k.insured) 0 rv.1.k.insured.length,.rsl (Qc rv.1.es) 0 rv.1.es.length],.int .i64 rv.2]) E)
 (h:((BokSmall k)∧((¬ ((logK k es).2.2=0)→rv=(((logK k es).1),(logK k es).2.2))∧((logK k es).2.2=0→(((Qa day 0 10000)=false→rv=(((logK k es).1),1))∧((Qa day 0 10000)=true→((((logK k es).1).es.length≤1000)∧rv=((onK ((logK k es).1) day),0)))))))):G Try.prog E [.code (Qd Try.prog 78)] ⟨[.agg [.rsl (Qg k.rules) 0 k.rules.length,.rsl (rowI k.ranks) 0 k.ranks.length,.rsl (rowI k.insured) 0 k.insured.length],.rsl (Qc es) 0 es.length,.int .i64 day]++unds (Try.f78.ntmps - 3),[]⟩:=by
 obtain ⟨h1,h⟩:=h
 rcases bft ((logK k es).2.2 != 0) with hc0 | hc0
 · have h:=h.1 (bneT hc0)
   exact p78_start_0 k es day hE ⟨(u141 (qP k es h1)),(by decide),hc0,(by decide),trivial⟩ (AvLe.of_eq (by rw [h]; try rfl))
 · have h:=h.2 (bneF hc0)
   rcases bft (!(Qa day 0 10000)) with hc1 | hc1
   · have h:=h.1 (bnT hc1)
     exact p78_start_1 k es day hE ⟨(u141 (qP k es h1)),(by decide),hc0,(u142 (Qm day 0 10000)),hc1,(by decide),trivial⟩ (AvLe.of_eq (by rw [h]; try rfl))
   · have h:=h.2 (bnF hc1)
     obtain ⟨h2,h⟩:=h
     exact p78_start_2 k es day hE ⟨(u141 (qP k es h1)),(by decide),hc0,(u142 (Qm day 0 10000)),hc1,(u143 (on_ok ((logK k es).1) day h2)),(by decide),trivial⟩ (AvLe.of_eq (by rw [h]; try rfl))
def EntOk (x:Ent):Prop:=(0≤x.day∧x.day≤10000)∧(x.kind=2→1≤x.b∧x.b≤3)
theorem lastDay_nn {es:List Ent} (h:∀ x ∈ es,EntOk x):0≤XU es:=by
 unfold XU
 split
 · rename_i c
   have g1:es[es.length - 1]?=some (es.getD (es.length - 1) e0):=by
    rw [List.getD_eq_getElem?_getD,List.getElem?_eq_getElem (by omega)]; rfl
   exact (h _ (List.mem_of_getElem? g1)).1.1
 · omega
theorem right_ent {l:Lgb} {x:Ent} (h0:∀ y ∈ l.es,EntOk y) (h:XI l x=true):EntOk x:=by
 have hd:=lastDay_nn h0
 unfold XI at h
 simp only [Bool.and_eq_true] at h
 have hb:=QH.1 h.1
 refine ⟨by omega,fun k2=>?_⟩
 have h2:=h.2
 unfold XB at h2
 rw [if_neg (by omega),if_pos k2] at h2
 simp only [Bool.and_eq_true] at h2
 exact QH.1 h2.2.1
theorem Qbj {k:Bok}:∀ (rest pre:List Ent) (i:Nat),(∀ x ∈ pre,EntOk x)→(∀ x ∈ (Ve k pre rest i).1.es,EntOk x)∧(Ve k pre rest i).1.k=k∧(Ve k pre rest i).1.es.length≤pre.length+rest.length
 | [],pre,i,h=>⟨h,rfl,by simp [Ve]⟩
 | x :: rest,pre,i,h=>by
  unfold Ve
  split
  · rename_i c
    have:=Qbj (k:=k) rest (pre++[x]) (i+1) (fun y hy=>by
     rcases List.mem_append.1 hy with hy | hy
     · exact h y hy
     · rw [List.mem_singleton] at hy; subst hy
       exact right_ent (l:=⟨k,pre⟩) h c)
    refine ⟨this.1,this.2.1,?_⟩
    have h3:=this.2.2
    simp at h3 ⊢; omega
  · exact ⟨h,rfl,by simp⟩
theorem KS {k:Bok} {es:List Ent} (h:(logK k es).2.2=0):Vy k=true∧es.length≤100∧logK k es=Ve k [] es 0:=by
 unfold logK at h ⊢
 split at h
 · rename_i c
   have hb:Vy k=true:=by
    unfold Vl at c; split at c
    · assumption
    · cases c
   split at h
   · rename_i c2
     exact ⟨hb,c2,by rw [if_pos c,if_pos c2]⟩
   · cases h
 · rename_i c; exact absurd h c
theorem book_small {k:Bok} (h:Vy k=true):BokSmall k∧∀ r ∈ k.rules,1≤r.every∧r.every≤10000:=by
 simp only [Vy,Bool.and_eq_true,decide_eq_true_eq,Bool.not_eq_true',List.any_eq_false,badR,Bool.or_eq_true,not_or,Bool.not_eq_false] at h
 refine ⟨⟨by omega,by omega,by omega⟩,fun r hr=>?_⟩
 have:=h.2.2.2.1 r hr
 exact QH.1 (by simpa using this.2.1)
theorem logK_fine {k:Bok} {es:List Ent} (h:(logK k es).2.2=0):LogFine (logK k es).1∧(logK k es).1.k=k:=by
 obtain ⟨h1,h2,h3⟩:=KS h
 obtain ⟨b1,b2⟩:=book_small h1
 have hg:=Qbj (k:=k) es [] 0 (by simp)
 rw [h3]
 refine ⟨⟨⟨by rw [hg.2.1]; exact b1,?_⟩,fun x hx=>(hg.1 x hx).1,by rw [hg.2.1]; exact b2,fun x hx=>(hg.1 x hx).2⟩,hg.2.1⟩
 have:=hg.2.2
 simp at this; omega
theorem on_fine {l:Lgb} {day:Int} (h:LogFine l):LogFine (onK l day)∧(onK l day).k=l.k:=by
 unfold onK
 split
 · have h4:=h.small.es
   refine ⟨⟨⟨h.small.k,?_⟩,fun x hx=>h.days x (List.mem_of_mem_take hx),h.every,fun x hx=>h.sev x (List.mem_of_mem_take hx)⟩,rfl⟩
   show (l.es.take _).length≤1000
   rw [List.length_take]; omega
 · exact ⟨h,rfl⟩
theorem newDay_ok (k:Bok) (es:List Ent) (day:Int) (hk:BokSmall k):Pure Try.prog 78 [.agg [.rsl (Qg k.rules) 0 k.rules.length,.rsl (rowI k.ranks) 0 k.ranks.length,.rsl (rowI k.insured) 0 k.insured.length],.rsl (Qc es) 0 es.length,.int .i64 day] (.tup [.agg (cLgb (dayK k es day).1),.int .i64 (dayK k es day).2]):=Qv Try.func78 f78b fun E hE=>by
 refine f78W k es day (rv:=dayK k es day) hE ⟨hk,fun q=>?_,fun q=>⟨fun q2=>?_,fun q2=>⟨(logK_fine q).1.small.es,?_⟩⟩⟩
 · unfold dayK; rw [if_neg q]
 · unfold dayK; rw [if_pos q,if_neg (by rw [q2]; exact Bool.false_ne_true)]
 · unfold dayK; rw [if_pos q,if_pos q2]
theorem dayK_ok {k:Bok} {es:List Ent} {day:Int} (h:(dayK k es day).2=0):(logK k es).2.2=0∧(0≤day∧day≤10000)∧(dayK k es day).1=onK (logK k es).1 day:=by
 unfold dayK at h ⊢
 split at h
 · rename_i c
   split at h
   · rename_i c2
     exact ⟨c,QH.1 c2,by rw [if_pos c,if_pos c2]⟩
   · cases h
 · rename_i c; exact absurd h c
theorem dayK_fine {k:Bok} {es:List Ent} {day:Int} (h:(dayK k es day).2=0):LogFine (dayK k es day).1∧(dayK k es day).1.k=k:=by
 obtain ⟨h1,h2,h3⟩:=dayK_ok h
 obtain ⟨f1,f2⟩:=logK_fine h1
 obtain ⟨o1,o2⟩:=on_fine (day:=day) f1
 rw [h3]
 exact ⟨o1,o2.trans f2⟩
theorem f27b:Try.f27.body=some (Qd Try.prog 27):=by kernel_rfl
theorem u27 {a c k:List AV} {r:AV} (h:Pure Try.prog 27 (a++c++k) r):Qe Try.prog (.clos 27 a k) c r:=Qj Try.func27 (by kernel_rfl) f27b h
def f27K0 (P:Program):List Item:=kAt 400 [.code (Qd P 27)] [.b false,.stop]
def f27S0 (k:Bok) (es:(List Ent)) (day:Int) (v2:List Int) (i:Nat) (g2:Nat):St:=⟨([J,J,.int .i64 day,J,J,J,.sl 2 g2 0 v2.length 1,J,.ptr 1 0 0]++jj 14 ([.int .i64 ((((((dayK k es day).1).k).insured).length:Nat):Int),.int .i64 (i:Int)]++Js 14)),[⟨true,0,1,true,[.rsl (Qg k.rules) 0 k.rules.length,.rsl (rowI k.ranks) 0 k.ranks.length,.rsl (rowI k.insured) 0 k.insured.length],false⟩,⟨true,0,1,true,[.rsl (Qg ((((dayK k es day).1).k).rules)) 0 (((((dayK k es day).1).k).rules).length),.rsl (rowI ((((dayK k es day).1).k).ranks)) 0 (((((dayK k es day).1).k).ranks).length),.rsl (rowI ((((dayK k es day).1).k).insured)) 0 (((((dayK k es day).1).k).insured).length),.rsl (Qc (((dayK k es day).1).es)) 0 ((((dayK k es day).1).es).length)],false⟩,⟨true,g2,1,true,(rowI v2),true⟩]⟩
def f27G0 (E:Env) (k:Bok) (es:(List Ent)) (day:Int) (v2:List Int) (i:Nat):Prop:=∀ g2:Nat,G Try.prog E (f27K0 Try.prog) (f27S0 k es day v2 i g2)
abbrev z27_1 (k:Bok) (es:(List Ent)) (day:Int):List AV:=[.rsl (Qg ((((dayK k es day).1).k).rules)) 0 (((((dayK k es day).1).k).rules).length),.rsl (rowI ((((dayK k es day).1).k).ranks)) 0 (((((dayK k es day).1).k).ranks).length),.rsl (rowI ((((dayK k es day).1).k).insured)) 0 (((((dayK k es day).1).k).insured).length),.rsl (Qc (((dayK k es day).1).es)) 0 ((((dayK k es day).1).es).length)]
abbrev z27_2 (k:Bok):List AV:=[.rsl (Qg k.rules) 0 k.rules.length,.rsl (rowI k.ranks) 0 k.ranks.length,.rsl (rowI k.insured) 0 k.insured.length]
theorem p27_start_0 (k:Bok) (es:(List Ent)) (day:Int) {E:Env} {res:AV} (hE:Qf Try.prog 27 res E) (ho:AllP [Qe Try.prog (.clos 78 [] []) [.agg (z27_2 k),.rsl (Qc es) 0 es.length,.int .i64 day] (.tup [.agg (z27_1 k es day),.int .i64 ((dayK k es day).2)]),4≤4,((dayK k es day).2 != 0)=true])
 (hr:AvLe (.tup [.nilSl,.int .i64 ((dayK k es day).2)]) res):G Try.prog E [.code (Qd Try.prog 27)] ⟨[.agg (z27_2 k),.rsl (Qc es) 0 es.length,.int .i64 day]++unds (Try.f27.ntmps - 3),[]⟩ :=
 Qb (n:=400) (evs:=[.v (.tup [.agg (z27_1 k es day),.int .i64 ((dayK k es day).2)]),.b true]) (obs:=_) hE Try.func27 Qh (by kernel_rfl) ho hr
theorem p27_start_1 (k:Bok) (es:(List Ent)) (day:Int) {E:Env} {rv:AV} (hE:Qf Try.prog 27 rv E) (ho:AllP [Qe Try.prog (.clos 78 [] []) [.agg (z27_2 k),.rsl (Qc es) 0 es.length,.int .i64 day] (.tup [.agg (z27_1 k es day),.int .i64 ((dayK k es day).2)]),4≤4,((dayK k es day).2 != 0)=false])
 (hg:G Try.prog E (f27K0 Try.prog) ⟨([J,J,.int .i64 day,J,J,J,.sl 2 0 0 0 1,J,.ptr 1 0 0]++jj 14 ([.int .i64 ((((((dayK k es day).1).k).insured).length:Nat):Int),.int .i64 0]++Js 14)),[⟨true,0,1,true,(z27_2 k),false⟩,⟨true,0,1,true,(z27_1 k es day),false⟩,⟨true,0,1,true,[],true⟩]⟩):G Try.prog E [.code (Qd Try.prog 27)] ⟨[.agg (z27_2 k),.rsl (Qc es) 0 es.length,.int .i64 day]++unds (Try.f27.ntmps - 3),[]⟩ :=
 Ql (n:=400) (ds:=[(6,1)]) (cs:=[]) (live:=[2,6,8,23,24]) (m:=3) (evs:=[.v (.tup [.agg (z27_1 k es day),.int .i64 ((dayK k es day).2)]),.b false,.stop]) (obs:=_) hE.2.1 (hE.nogh _) Qh (by kernel_rfl) ho hg
theorem f27W (k:Bok) (es:(List Ent)) (day:Int) {E:Env} {rv:((List Int) × Int)} (hE:Qf Try.prog 27 (.tup [.rsl (rowI rv.1) 0 rv.1.length,.int .i64 rv.2]) E)
 (h:((BokSmall k)∧((¬ ((dayK k es day).2=0)→rv=(([]:List Int),(dayK k es day).2))∧((dayK k es day).2=0→f27G0 E k es day ([]) 0)))):G Try.prog E [.code (Qd Try.prog 27)] ⟨[.agg [.rsl (Qg k.rules) 0 k.rules.length,.rsl (rowI k.ranks) 0 k.ranks.length,.rsl (rowI k.insured) 0 k.insured.length],.rsl (Qc es) 0 es.length,.int .i64 day]++unds (Try.f27.ntmps - 3),[]⟩:=by
 obtain ⟨h1,h⟩:=h
 rcases bft ((dayK k es day).2 != 0) with hc0 | hc0
 · have h:=h.1 (bneT hc0)
   exact p27_start_0 k es day hE ⟨(u78 (newDay_ok k es day h1)),(by decide),hc0,trivial⟩ (by rw [h]; exact (QaZ ⟨VZ,⟨AvLe.of_eq rfl,trivial⟩⟩))
 · have h:=h.2 (bneF hc0)
   exact p27_start_1 k es day hE ⟨(u78 (newDay_ok k es day h1)),(by decide),hc0,trivial⟩ (h 0)
theorem p27_0_0 (k:Bok) (es:(List Ent)) (day:Int) (v2:List Int) (i:Nat) (g2:Nat) {E:Env} {rv:AV} (hE:Qf Try.prog 27 rv E) (ho:AllP [(decide ((i:Int)<((((((dayK k es day).1).k).insured).length:Nat):Int)))=true,Qe Try.prog (.clos 79 [] []) [.agg [.rsl (Qg ((((dayK k es day).1).k).rules)) 0 (((((dayK k es day).1).k).rules).length),.rsl (rowI ((((dayK k es day).1).k).ranks)) 0 (((((dayK k es day).1).k).ranks).length),.rsl (rowI ((((dayK k es day).1).k).insured)) 0 (((((dayK k es day).1).k).insured).length),.rsl (Qc (((dayK k es day).1).es)) 0 ((((dayK k es day).1).es).length)],.int .i64 (i:Int),.int .i64 day] (.rsl (rowI (whyK ((dayK k es day).1) (i:Int) day)) 0 ((whyK ((dayK k es day).1) (i:Int) day).length)),((((whyK ((dayK k es day).1) (i:Int) day).length:Nat):Int) == 0)=true,g2=g2,(0+(v2.length*1))=(rowI v2).length,(v2.length+1)≤2147483648,0=0,InR .i64 ((i:Int)+1)])
 (hg:G Try.prog E (f27K0 Try.prog) ⟨([J,J,.int .i64 day,J,J,J,.sl 2 (g2+1) 0 (v2.length+1) 1,J,.ptr 1 0 0]++jj 14 ([.int .i64 ((((((dayK k es day).1).k).insured).length:Nat):Int),.int .i64 ((i:Int)+1)]++Js 14)),[⟨true,0,1,true,[.rsl (Qg k.rules) 0 k.rules.length,.rsl (rowI k.ranks) 0 k.ranks.length,.rsl (rowI k.insured) 0 k.insured.length],false⟩,⟨true,0,1,true,[.rsl (Qg ((((dayK k es day).1).k).rules)) 0 (((((dayK k es day).1).k).rules).length),.rsl (rowI ((((dayK k es day).1).k).ranks)) 0 (((((dayK k es day).1).k).ranks).length),.rsl (rowI ((((dayK k es day).1).k).insured)) 0 (((((dayK k es day).1).k).insured).length),.rsl (Qc (((dayK k es day).1).es)) 0 ((((dayK k es day).1).es).length)],false⟩,⟨true,(g2+1),1,true,((rowI v2)++[.int .i64 (i:Int)]),true⟩]⟩):G Try.prog E (f27K0 Try.prog) (f27S0 k es day v2 i g2) :=
 Ql (n:=400) (ds:=[]) (cs:=[]) (live:=[2,6,8,23,24]) (m:=3) (evs:=[.b true,.v (.rsl (rowI (whyK ((dayK k es day).1) (i:Int) day)) 0 ((whyK ((dayK k es day).1) (i:Int) day).length)),.b true,.stop]) (obs:=_) hE.2.1 (hE.nogh _) Qh (by kernel_rfl) ho hg
theorem p27_0_1 (k:Bok) (es:(List Ent)) (day:Int) (v2:List Int) (i:Nat) (g2:Nat) {E:Env} {rv:AV} (hE:Qf Try.prog 27 rv E) (ho:AllP [(decide ((i:Int)<((((((dayK k es day).1).k).insured).length:Nat):Int)))=true,Qe Try.prog (.clos 79 [] []) [.agg (z27_1 k es day),.int .i64 (i:Int),.int .i64 day] (.rsl (rowI (whyK ((dayK k es day).1) (i:Int) day)) 0 ((whyK ((dayK k es day).1) (i:Int) day).length)),((((whyK ((dayK k es day).1) (i:Int) day).length:Nat):Int) == 0)=false,InR .i64 ((i:Int)+1)])
 (hg:G Try.prog E (f27K0 Try.prog) ⟨([J,J,.int .i64 day,J,J,J,.sl 2 g2 0 v2.length 1,J,.ptr 1 0 0]++jj 14 ([.int .i64 ((((((dayK k es day).1).k).insured).length:Nat):Int),.int .i64 ((i:Int)+1)]++Js 14)),[⟨true,0,1,true,(z27_2 k),false⟩,⟨true,0,1,true,(z27_1 k es day),false⟩,⟨true,g2,1,true,(rowI v2),true⟩]⟩):G Try.prog E (f27K0 Try.prog) (f27S0 k es day v2 i g2) :=
 Ql (n:=400) (ds:=[]) (cs:=[]) (live:=[2,6,8,23,24]) (m:=3) (evs:=[.b true,.v (.rsl (rowI (whyK ((dayK k es day).1) (i:Int) day)) 0 ((whyK ((dayK k es day).1) (i:Int) day).length)),.b false,.stop]) (obs:=_) hE.2.1 (hE.nogh _) Qh (by kernel_rfl) ho hg
theorem p27_0_2 (k:Bok) (es:(List Ent)) (day:Int) (v2:List Int) (i:Nat) (g2:Nat) {E:Env} {res:AV} (hE:Qf Try.prog 27 res E) (ho:AllP [(decide ((i:Int)<((((((dayK k es day).1).k).insured).length:Nat):Int)))=false,g2=g2])
 (hr:AvLe (.tup [.rsl (rowI v2) 0 v2.length,.int .i64 0]) res):G Try.prog E (f27K0 Try.prog) (f27S0 k es day v2 i g2) :=
 Qb (n:=400) (evs:=[.b false]) (obs:=_) hE Try.func27 Qh (by kernel_rfl) ho hr
theorem f27W0 (k:Bok) (es:(List Ent)) (day:Int) (v2:List Int) (i:Nat) {E:Env} {rv:((List Int) × Int)} (hE:Qf Try.prog 27 (.tup [.rsl (rowI rv.1) 0 rv.1.length,.int .i64 rv.2]) E)
 (h:(((i:Int)<((((((dayK k es day).1).k).insured).length:Nat):Int)→((LogFine ((dayK k es day).1)∧(0≤(i:Int)∧(i:Int)<(((dayK k es day).1).k.insured.length:Int)))∧(((((whyK ((dayK k es day).1) (i:Int) day).length:Nat):Int)=0→((v2.length+1)≤2147483648∧((I6 ((i:Int)+1))∧f27G0 E k es day (v2++[(i:Int)]) (i+1))))∧(¬ ((((whyK ((dayK k es day).1) (i:Int) day).length:Nat):Int)=0)→((I6 ((i:Int)+1))∧f27G0 E k es day v2 (i+1))))))∧(¬ ((i:Int)<((((((dayK k es day).1).k).insured).length:Nat):Int))→rv=(v2,0)))):f27G0 E k es day v2 i:=by
 intro g2
 rcases bft (decide ((i:Int)<((((((dayK k es day).1).k).insured).length:Nat):Int))) with hc0 | hc0
 · have h:=h.1 (odt hc0)
   obtain ⟨h1,h⟩:=h
   rcases bft ((((whyK ((dayK k es day).1) (i:Int) day).length:Nat):Int) == 0) with hc1 | hc1
   · have h:=h.1 (eq_of_beq hc1)
     obtain ⟨h2,h⟩:=h
     obtain ⟨q7_2,h⟩:=h
     refine p27_0_0 k es day v2 i g2 hE ⟨hc0,(u79 (why_ok ((dayK k es day).1) (i:Int) day h1)),hc1,rfl,(by have hx:=QQ cI (s:=1) (fun _=>rfl) v2; simp only [rowI] at hx ⊢; rw [hx]; simp),h2,rfl,q7_2,trivial⟩ ?_
     rw [(show rowI v2++[.int .i64 (i:Int)]=rowI (v2++[(i:Int)]) from (QK cI v2 [(i:Int)]).symm)]; rw [(show (v2.length+1)=(v2++[(i:Int)]).length from by simp)]; exact (h (g2+1))
   · have h:=h.2 (ne_of_beq_false hc1)
     obtain ⟨q3_2,h⟩:=h
     exact p27_0_1 k es day v2 i g2 hE ⟨hc0,(u79 (why_ok ((dayK k es day).1) (i:Int) day h1)),hc1,q3_2,trivial⟩ (h g2)
 · have h:=h.2 (odf hc0)
   exact p27_0_2 k es day v2 i g2 hE ⟨hc0,rfl,trivial⟩ (AvLe.of_eq (by rw [h]; try rfl))
theorem Qay (k:Bok) (es:List Ent) (day:Int) (hk:BokSmall k):Pure Try.prog 27 [.agg [.rsl (Qg k.rules) 0 k.rules.length,.rsl (rowI k.ranks) 0 k.ranks.length,.rsl (rowI k.insured) 0 k.insured.length],.rsl (Qc es) 0 es.length,.int .i64 day] (.tup [.rsl (rowI (Qr k es day).1) 0 (Qr k es day).1.length,.int .i64 (Qr k es day).2]):=Qv Try.func27 f27b fun E hE=>by
 refine f27W k es day (rv:=Qr k es day) hE ⟨hk,fun q=>?_,fun q=>?_⟩
 · unfold Qr; rw [if_neg q]
 obtain ⟨hf,he⟩:=dayK_fine q
 have hi:=hf.small.k.insured
 have rR:Qr k es day=(Yr (dayK k es day).1 day k.insured.length 0,0):=by unfold Qr; rw [if_pos q]
 have key:∀ (d i:Nat) (v:List Int),i+d=(dayK k es day).1.k.insured.length→v.length≤i→(v++Yr (dayK k es day).1 day d i,(0:Int))=Qr k es day→f27G0 E k es day v i:=by
  intro d
  induction d with
  | zero =>
   intro i v hd hv hr
   simp only [Yr,List.append_nil] at hr
   exact f27W0 k es day v i (rv:=Qr k es day) hE ⟨fun h=>by omega,fun _=>hr.symm⟩
  | succ d ih =>
   intro i v hd hv hr
   simp only [Yr] at hr
   refine f27W0 k es day v i (rv:=Qr k es day) hE ⟨fun _=>⟨⟨hf,by omega,by omega⟩,fun q2=>⟨by omega,⟨by omega,by omega⟩,?_⟩,fun q2=>⟨⟨by omega,by omega⟩,?_⟩⟩,fun h=>by omega⟩
   · rw [if_pos (by omega)] at hr
     exact ih (i+1) _ (by omega) (by simp; omega) (by rw [List.append_assoc]; exact hr)
   · rw [if_neg (by omega)] at hr
     exact ih (i+1) v (by omega) (by omega) hr
 refine key (dayK k es day).1.k.insured.length 0 [] (by omega) (by simp) ?_
 rw [rR,he]; rfl
end Go.Proofs.Ytemklbioijmjiaa
namespace Go.Proofs.Ytemklbioijmjiaa
open Go Ax
open Go.Proofs
structure Stp where
 kind:Int
 part:Int
def pins0 (k:BKit):List Int:=k.parts.map (·.pins)
end Go.Proofs.Ytemklbioijmjiaa
namespace Go.Proofs.Ytemklbioijmjiaa
open Go Ax
open Go.Proofs
structure KitSize (k:BKit):Prop where
 needs:∀ p ∈ k.parts,p.needs.length≤9223372036854775807
 van:∀ v ∈ k.vans,v.length≤9223372036854775807
end Go.Proofs.Ytemklbioijmjiaa
namespace Go.Proofs.Ytemklbioijmjiaa
open Go Ax
open Go.Proofs
structure Wrk where
 kit:BKit
 log:List Stp
structure Ppr where
 k:Bok
 es:List Ent
 day:Int
end Go.Proofs.Ytemklbioijmjiaa
namespace Go.Proofs.Ytemklbioijmjiaa
open Go Ax
open Go.Proofs
theorem Qbm {P:Ent→Bool} {ride:Int}:∀ {L:List Ent},0≤qD P ride L→∃ x ∈ L,P x=true
 | [],h=>by simp [qD] at h
 | x :: L,h=>by
  unfold qD at h
  split at h
  · rename_i c; exact ⟨x,List.mem_cons_self,c⟩
  · split at h
    · omega
    · obtain ⟨y,h1,h2⟩:=Qbm h
      exact ⟨y,List.mem_cons_of_mem _ h1,h2⟩
theorem whyK_nil {l:Lgb} {ride day:Int} (h:(whyK l ride day).length=0):day≤Qs l ride∧QF l ride=true∧QL (isKd 4 ride) ride l.es=day∧day≤Qn l ride:=by
 have h0:=List.length_eq_zero_iff.1 h
 unfold whyK at h0
 simp only [List.append_eq_nil_iff] at h0
 obtain ⟨a,b,c,d⟩:=h0
 refine ⟨?_,?_,?_,?_⟩
 · split at a
   · cases a
   · omega
 · split at b
   · cases b
   · rename_i q; simpa using q
 · split at c
   · assumption
   · cases c
 · split at d
   · cases d
   · omega
theorem VX {l:Lgb} {day:Int}:∀ (d i:Nat),∀ x ∈ Yr l day d i,(i:Int)≤x∧x<(i:Int)+(d:Int)∧(whyK l x day).length=0
 | 0,i,x,hx=>by simp [Yr] at hx
 | d+1,i,x,hx=>by
  unfold Yr at hx
  split at hx
  · rename_i c
    rcases List.mem_cons.1 hx with rfl | hx
    · exact ⟨by omega,by omega,c⟩
    · have:=VX d (i+1) x hx; exact ⟨by omega,by omega,this.2.2⟩
  · have:=VX d (i+1) x hx; exact ⟨by omega,by omega,this.2.2⟩
theorem onK_mem {l:Lgb} {day:Int} {x:Ent} (h:x ∈ (onK l day).es):x ∈ l.es:=by
 unfold onK at h
 split at h
 · exact List.mem_of_mem_take h
 · exact h
theorem logGo_mem {k:Bok}:∀ (rest pre:List Ent) (i:Nat),∀ x ∈ (Ve k pre rest i).1.es,x ∈ pre ∨ x ∈ rest
 | [],pre,i,x,h=>.inl h
 | y :: rest,pre,i,x,h=>by
  unfold Ve at h
  split at h
  · rcases logGo_mem rest (pre++[y]) (i+1) x h with h | h
    · rcases List.mem_append.1 h with h | h
      · exact .inl h
      · right; rw [List.mem_singleton] at h; subst h; exact List.mem_cons_self
    · exact .inr (List.mem_cons_of_mem _ h)
  · exact .inl h
/-- Whoever is released was tested on the day. -/
theorem released_mem {k:Bok} {es:List Ent} {day:Int} (h:(Qr k es day).2=0):∀ n ∈ (Qr k es day).1,0≤n∧n<(k.insured.length:Int)∧∃ x ∈ es,x.kind=4∧x.a=n:=by
 unfold Qr at h ⊢
 split at h
 · rename_i c
   rw [if_pos c]
   intro n hn
   obtain ⟨d1,d2,d3⟩:=dayK_ok c
   obtain ⟨m1,m2,m3⟩:=VX _ _ n hn
   obtain ⟨-,-,w,-⟩:=whyK_nil m3
   obtain ⟨x,x1,x2⟩:=Qbm (show 0≤qD (isKd 4 n) n (dayK k es day).1.es.reverse by
    have:qD (isKd 4 n) n (dayK k es day).1.es.reverse=day:=w
    omega)
   have x3:x ∈ (onK (logK k es).1 day).es:=by rw [← d3]; exact List.mem_reverse.1 x1
   have x4:=onK_mem x3
   rw [(KS d1).2.2] at x4
   have x5:=logGo_mem es [] 0 x x4
   simp only [List.not_mem_nil,false_or] at x5
   simp only [isKd,Bool.and_eq_true,beq_iff_eq] at x2
   exact ⟨by omega,by omega,x,x5,x2⟩
 · rename_i c; exact absurd h c
/-! ### what a log has done -/
theorem getD_set {α:Type} {l:List α} {p j:Nat} {x d:α}:(l.set p x).getD j d=if p=j∧p<l.length then x else l.getD j d:=by
 simp only [List.getD_eq_getElem?_getD,List.getElem?_set]
 by_cases h:p=j
 · subst h
   by_cases h2:p<l.length
   · simp [h2]
   · simp [h2,List.getElem?_eq_none (Nat.le_of_not_lt h2)]
 · simp [h]
structure CInv (k:BKit) (put pins:List Int) (s:List Bool) (left:List Int):Prop where
 l3:put.length=k.parts.length
 l4:pins.length=k.parts.length
 ls:s.length=k.parts.length
 lp:left.length=k.parts.length
 pt:∀ j,j<k.parts.length→put.getD j 0=if s.getD j false=true then 1 else 0
 pn:∀ j,j<k.parts.length→pins.getD j 0+left.getD j 0=(pins0 k).getD j 0
 nn:∀ j,j<k.parts.length→0≤left.getD j 0∧left.getD j 0≤9
section
variable {E:Env} (hE:Qf Try.prog 6 (.bool true) E) {works:List Wrk} {p:Ppr}
include hE
end
theorem relGo_len {l:Lgb} {day:Int}:∀ (d i:Nat),(Yr l day d i).length≤d
 | 0,i=>by simp [Yr]
 | d+1,i=>by
  unfold Yr
  have:=relGo_len (l:=l) (day:=day) d (i+1)
  split
  · simp; omega
  · omega
theorem yO {k:Bok} {es:List Ent} {day:Int}:(Qr k es day).1.length≤k.insured.length:=by
 unfold Qr
 split
 · exact relGo_len _ _
 · simp
end Go.Proofs.Ytemklbioijmjiaa
namespace Go.Proofs.Ytemklbioijmjiaa
open Go Ax
open Go.Proofs
structure Bo where
 parent:Int
 rating:Int
 delay:Int
 loop:Int
def cBo (t:Bo):List AV:=[.int .i64 t.parent,.int .i64 t.rating,.int .i64 t.delay,.int .i64 t.loop]
def Qp (l:List Bo):List AV:=l.flatMap cBo
structure Ld where
 board:Int
 phase:Int
 amps:Int
 rank:Int
def cLd (t:Ld):List AV:=[.int .i64 t.board,.int .i64 t.phase,.int .i64 t.amps,.int .i64 t.rank]
def Qo (l:List Ld):List AV:=l.flatMap cLd
structure Spl where
 boards:List Bo
 loads:List Ld
 power:Int
 hold:Int
 volts:Int
def cSpl (u:Spl):List AV:=[.rsl (Qp u.boards) 0 u.boards.length,.rsl (Qo u.loads) 0 u.loads.length,.int .i64 u.power,.int .i64 u.hold,.int .i64 u.volts]
def bo0:Bo:=⟨-1,0,0,0⟩
def boAt (u:Spl) (p:Int):Bo:=u.boards.getD p.toNat bo0
def par3 (u:Spl) (p:Int):Int:=(boAt u p).parent
/-! ### three phases -/
structure Amp where
 a:Int
 b:Int
 c:Int
def cAm (t:Amp):List AV:=[.int .i64 t.a,.int .i64 t.b,.int .i64 t.c]
def XR (l:List Amp):List AV:=l.flatMap cAm
def Amp.at3 (t:Amp) (p:Int):Int:=if p=0 then t.a else if p=1 then t.b else t.c
def Amp.put3 (t:Amp) (p v:Int):Amp:=if p=0 then ⟨v,t.b,t.c⟩ else if p=1 then ⟨t.a,v,t.c⟩ else ⟨t.a,t.b,v⟩
theorem amp_ld {l:List Amp} {i:Nat} {e:Amp} {n:Int} (h:l[i]?=some e) (hn:0≤n∧n<((3:Nat):Int)):((XR l).drop ((0+i*3)+(Int.toNat n)*1)).take 1=[.int .i64 (Amp.at3 e n)]:=by
 have hc:n=0 ∨ n=1 ∨ n=2:=by omega
 rcases hc with rfl | rfl | rfl
 · exact qc cAm (s:=3) (fun _=>rfl) (k:=0) (m:=1) (by decide) h
 · exact qc cAm (s:=3) (fun _=>rfl) (k:=1) (m:=1) (by decide) h
 · exact qc cAm (s:=3) (fun _=>rfl) (k:=2) (m:=1) (by decide) h
theorem amp_fits {l:List Amp} {i:Nat} {e:Amp} {n:Int} (h:l[i]?=some e) (hn:0≤n∧n<((3:Nat):Int)):((0+i*3)+(Int.toNat n)*1)+1≤(XR l).length:=by
 have hx:=QQ cAm (s:=3) (fun _=>rfl) l
 simp only [XR] at hx ⊢
 have:=(List.getElem?_eq_some_iff.1 h).1
 rw [hx]; omega
theorem amp_set {l:List Amp} {i:Nat} {e:Amp} {n v:Int} (h:l[i]?=some e) (hn:0≤n∧n<((3:Nat):Int)):QT (XR l) ((0+i*3)+(Int.toNat n)*1) [.int .i64 v]=XR (l.set i (Amp.put3 e n v)):=by
 have hc:n=0 ∨ n=1 ∨ n=2:=by omega
 rcases hc with rfl | rfl | rfl
 · exact Xs cAm (s:=3) (k:=0) (fun _=>rfl) h rfl (by simp)
 · exact Xs cAm (s:=3) (k:=1) (fun _=>rfl) h rfl (by simp)
 · exact Xs cAm (s:=3) (k:=2) (fun _=>rfl) h rfl (by simp)
/-! ### which supplies are right -/
def boOk (i:Nat) (b:Bo):Bool:=Qa b.parent (-1) ((i:Int) - 1) && (Qa b.rating 1 1000 && (Qa b.delay 0 20 && Qa b.loop 1 10000))
def bosGo:Nat→List Bo→Bool
 | _,[]=>true
 | i,b :: l=>boOk i b && bosGo (i+1) l
def ldOk (n:Nat) (x:Ld):Bool:=Qa x.board 0 ((n:Int) - 1) && (Qa x.phase 0 2 && (Qa x.amps 1 1000 && Qa x.rank 0 1000))
def ldsGo (n:Nat):List Ld→Bool
 | []=>true
 | x :: l=>ldOk n x && ldsGo n l
def Wk (u:Spl):Bool:=decide (u.boards.length≤10) && (decide (u.loads.length≤16) && (Qa u.power 1 1000 && (Qa u.hold 0 20 && (Qa u.volts 1 1000 && (bosGo 0 u.boards && ldsGo u.boards.length u.loads)))))
def splE (u:Spl):Int:=if Wk u=true then 0 else 50
theorem Yj {u:Spl} (h:Wk u=false):splE u=50:=by unfold splE; rw [if_neg (by rw [h]; exact Bool.false_ne_true)]
theorem bosGo_get:∀ {l:List Bo} {i:Nat},bosGo i l=true→∀ {j:Nat} {b:Bo},l[j]?=some b→boOk (i+j) b=true
 | [],i,_,j,b,h=>by simp at h
 | x :: l,i,hg,0,b,h=>by
  simp only [bosGo,Bool.and_eq_true] at hg
  simp only [List.getElem?_cons_zero,Option.some.injEq] at h
  subst h; exact hg.1
 | x :: l,i,hg,j+1,b,h=>by
  simp only [bosGo,Bool.and_eq_true] at hg
  have:=bosGo_get hg.2 (j:=j) (b:=b) (by simpa using h)
  rw [show i+(j+1)=i+1+j by omega]; exact this
theorem ldsGo_mem {n:Nat}:∀ {l:List Ld},ldsGo n l=true→∀ x ∈ l,ldOk n x=true
 | [],_,x,h=>by simp at h
 | y :: l,hg,x,h=>by
  simp only [ldsGo,Bool.and_eq_true] at hg
  rcases List.mem_cons.1 h with rfl | h
  · exact hg.1
  · exact ldsGo_mem hg.2 x h
structure SplP (u:Spl):Prop where
 n:u.boards.length≤10
 m:u.loads.length≤16
 pw:1≤u.power∧u.power≤1000
 b:∀ (j:Nat) (b:Bo),u.boards[j]?=some b→(-1≤b.parent∧b.parent≤(j:Int) - 1)∧(1≤b.rating∧b.rating≤1000)
 l:∀ x ∈ u.loads,(0≤x.board∧x.board<(u.boards.length:Int))∧(0≤x.phase∧x.phase≤2)∧(1≤x.amps∧x.amps≤1000)
theorem spl_p {u:Spl} (h:Wk u=true):SplP u:=by
 simp only [Wk,Bool.and_eq_true,decide_eq_true_eq] at h
 refine ⟨h.1,h.2.1,QH.1 h.2.2.1,fun j b hb=>?_,fun x hx=>?_⟩
 · have:=bosGo_get h.2.2.2.2.2.1 hb
   simp only [boOk,Bool.and_eq_true] at this
   have p:=QH.1 this.1
   exact ⟨by omega,QH.1 this.2.1⟩
 · have:=ldsGo_mem h.2.2.2.2.2.2 x hx
   simp only [ldOk,Bool.and_eq_true] at this
   have p:=QH.1 this.1
   exact ⟨by omega,QH.1 this.2.1,QH.1 this.2.2.1⟩
theorem SplP.at_ {u:Spl} (h:SplP u) {p:Int} (h0:0≤p) (h1:p<(u.boards.length:Int)):u.boards[p.toNat]?=some (boAt u p):=by
 rw [boAt,List.getD_eq_getElem?_getD,List.getElem?_eq_getElem (show p.toNat<u.boards.length by omega)]; rfl
def SplUp (u:Spl):Prop:=∀ p:Int,0≤p→p<(u.boards.length:Int)→-1≤par3 u p∧par3 u p<p
theorem SplP.up {u:Spl} (h:SplP u):SplUp u:=fun p h0 h1=>by
 have:=(h.b _ _ (h.at_ h0 h1)).1
 have e:par3 u p=(boAt u p).parent:=rfl
 omega
structure SplSize (u:Spl):Prop where
 b:u.boards.length≤1000
 l:u.loads.length≤1000
def argI (x:Int):List AV:=[.int .i64 x]
def up3 (u:Spl):Nat→Int→List Int
 | 0,_=>[-1]
 | f+1,p=>if p≥0 then p :: up3 u f (par3 u p) else [-1]
theorem up3_mem {u:Spl} (h:SplUp u):∀ (f:Nat) (p:Int),p<(u.boards.length:Int)→∀ x ∈ up3 u f p,x=-1 ∨ (0≤x∧x<(u.boards.length:Int))
 | 0,p,_,x,hx=>by simp only [up3,List.mem_singleton] at hx; exact .inl hx
 | f+1,p,hp,x,hx=>by
  unfold up3 at hx
  split at hx
  · rename_i q
    rcases List.mem_cons.1 hx with rfl | hx
    · exact .inr ⟨q,hp⟩
    · have:=h p q hp
      exact up3_mem h f _ (by omega) x hx
  · simp only [List.mem_singleton] at hx; exact .inl hx
theorem up3_len (u:Spl):∀ (f:Nat) (p:Int),(up3 u f p).length≤f+1
 | 0,p=>by simp [up3]
 | f+1,p=>by
  unfold up3
  split
  · have:=up3_len u f (par3 u p); simp; omega
  · simp
/-! ### the currents -/
def Qap (u:Spl) (b:Int):Int:=if b=-1 then (u.boards.length:Int) else b
def curB (u:Spl) (x:Ld) (v:List Amp) (b:Int):List Amp:=v.set (Qap u b).toNat (Amp.put3 (v.getD (Qap u b).toNat ⟨0,0,0⟩) x.phase (Amp.at3 (v.getD (Qap u b).toNat ⟨0,0,0⟩) x.phase+x.amps))
def curL (u:Spl) (set:Int) (i:Nat) (x:Ld) (v:List Amp):List Amp:=if bits .and .i64 (set / 2 ^ (Int.toNat (i:Int))) 1=0 then v else (up3 u u.boards.length x.board).foldl (curB u x) v
def curGo (u:Spl) (set:Int):List Ld→Nat→List Amp→List Amp
 | [],_,v=>v
 | x :: l,i,v=>curGo u set l (i+1) (curL u set i x v)
def XZ (u:Spl) (set:Int):List Amp:=curGo u set u.loads 0 (List.replicate (u.boards.length+1) ⟨0,0,0⟩)
def VC (t:Amp):Int:=iMax (iMax t.a t.b) t.c
def qF (u:Spl) (b:Int):Int:=if b=(u.boards.length:Int) then u.power else if b=-1 then u.power else (boAt u b).rating
def ovGo (u:Spl) (all:List Amp):Nat→Nat→Int × Bool
 | 0,_=>(0,false)
 | d+1,i=>if VC (all.getD i ⟨0,0,0⟩) > qF u (i:Int) then ((i:Int),true) else ovGo u all d (i+1)
def WG (u:Spl) (set:Int):Int × Bool:=if VC ((XZ u set).getD u.boards.length ⟨0,0,0⟩) > u.power then (-1,true) else ovGo u (XZ u set) u.boards.length 0
def YF (u:Spl) (set:Int):Int:=if splE u=0 then (if Qa set 0 ((1*2 ^ (Int.toNat (u.loads.length:Int))) - 1)=true then 0 else 1) else splE u
def Yb (u:Spl) (set:Int):Int × Bool × Int:=if YF u set=0 then ((WG u set).1,!(WG u set).2,0) else (0,false,YF u set)
def qG (K:Int) (t:Amp):Prop:=(0≤t.a∧t.a≤K)∧(0≤t.b∧t.b≤K)∧(0≤t.c∧t.c≤K)
theorem ampIn_at {K:Int} {t:Amp} (h:qG K t) (p:Int):0≤Amp.at3 t p∧Amp.at3 t p≤K:=by
 obtain ⟨a,b,c⟩:=h
 unfold Amp.at3
 split
 · exact a
 · split
   · exact b
   · exact c
theorem ampIn_put {K L v:Int} {t:Amp} (h:qG K t) (hL:K≤L) (p:Int) (hv:0≤v∧v≤L):qG L (Amp.put3 t p v):=by
 obtain ⟨a,b,c⟩:=h
 unfold Amp.put3
 split
 · exact ⟨hv,⟨b.1,Int.le_trans b.2 hL⟩,⟨c.1,Int.le_trans c.2 hL⟩⟩
 · split
   · exact ⟨⟨a.1,Int.le_trans a.2 hL⟩,hv,⟨c.1,Int.le_trans c.2 hL⟩⟩
   · exact ⟨⟨a.1,Int.le_trans a.2 hL⟩,⟨b.1,Int.le_trans b.2 hL⟩,hv⟩
theorem Yl {K L:Int} {t:Amp} (h:qG K t) (hL:K≤L):qG L t:=by
 obtain ⟨a,b,c⟩:=h
 exact ⟨⟨a.1,by omega⟩,⟨b.1,by omega⟩,⟨c.1,by omega⟩⟩
theorem curIx_in {u:Spl} {b:Int} (h:b=-1 ∨ (0≤b∧b<(u.boards.length:Int))):0≤Qap u b∧Qap u b<((u.boards.length+1:Nat):Int):=by
 unfold Qap
 split <;> omega
theorem curB_len {u:Spl} {x:Ld} {v:List Amp} {b:Int}:(curB u x v b).length=v.length:=by unfold curB; simp
theorem curB_in {u:Spl} {x:Ld} {v:List Amp} {b K:Int} (hx:1≤x.amps∧x.amps≤1000) (hl:v.length=u.boards.length+1) (hb:b=-1 ∨ (0≤b∧b<(u.boards.length:Int))) (hv:∀ t ∈ v,qG K t):∀ t ∈ curB u x v b,qG (K+1000) t:=by
 have hi:=curIx_in hb
 have g:=Xx (l:=v) ⟨0,0,0⟩ (i:=Qap u b) (by omega)
 have h1:=hv _ (List.mem_of_getElem? g)
 have h2:=ampIn_at h1 x.phase
 intro t ht
 unfold curB at ht
 rcases List.mem_or_eq_of_mem_set ht with ht | rfl
 · exact Yl (hv t ht) (by omega)
 · exact ampIn_put h1 (by omega) _ (by omega)
theorem curF_in {u:Spl} {x:Ld} (hx:1≤x.amps∧x.amps≤1000):∀ (l:List Int) (v:List Amp) (K:Int),v.length=u.boards.length+1→(∀ b ∈ l,b=-1 ∨ (0≤b∧b<(u.boards.length:Int)))→(∀ t ∈ v,qG K t)→(l.foldl (curB u x) v).length=u.boards.length+1∧∀ t ∈ l.foldl (curB u x) v,qG (K+1000*(l.length:Int)) t
 | [],v,K,hl,_,hv=>⟨hl,fun t ht=>Yl (hv t ht) (by simp)⟩
 | b :: l,v,K,hl,hb,hv=>by
  have:=curF_in hx l (curB u x v b) (K+1000) (by rw [curB_len]; exact hl) (fun c hc=>hb c (List.mem_cons_of_mem _ hc)) (curB_in hx hl (hb b List.mem_cons_self) hv)
  refine ⟨this.1,fun t ht=>Yl (this.2 t ht) ?_⟩
  simp only [List.length_cons]; omega
def stepC (u:Spl) (x:Ld) (s:List Amp × Nat) (b:Int):List Amp × Nat:=(curB u x s.1 b,s.2)
theorem yc {u:Spl} {x:Ld}:∀ (l:List Int) (s:List Amp × Nat),l.foldl (stepC u x) s=(l.foldl (curB u x) s.1,s.2)
 | [],s=>rfl
 | b :: l,s=>yc l _
theorem curL_in {u:Spl} {set:Int} {i:Nat} {x:Ld} {v:List Amp} {K:Int} (hu:SplUp u) (hx:1≤x.amps∧x.amps≤1000) (hb:x.board<(u.boards.length:Int)) (hn:u.boards.length≤10) (hl:v.length=u.boards.length+1) (hv:∀ t ∈ v,qG K t):(curL u set i x v).length=u.boards.length+1∧∀ t ∈ curL u set i x v,qG (K+11000) t:=by
 unfold curL
 split
 · exact ⟨hl,fun t ht=>Yl (hv t ht) (by omega)⟩
 · have h1:=up3_len u u.boards.length x.board
   have:=curF_in hx (up3 u u.boards.length x.board) v K hl (up3_mem hu _ _ hb) hv
   exact ⟨this.1,fun t ht=>Yl (this.2 t ht) (by omega)⟩
theorem curGo_in {u:Spl} {set:Int} (h:SplP u):∀ (l:List Ld) (i:Nat) (v:List Amp) (K:Int),(∀ x ∈ l,x ∈ u.loads)→v.length=u.boards.length+1→(∀ t ∈ v,qG K t)→(curGo u set l i v).length=u.boards.length+1∧∀ t ∈ curGo u set l i v,qG (K+11000*(l.length:Int)) t
 | [],i,v,K,_,hl,hv=>⟨hl,fun t ht=>Yl (hv t ht) (by simp)⟩
 | x :: l,i,v,K,hm,hl,hv=>by
  have hx:=h.l x (hm x List.mem_cons_self)
  have c:=curL_in (set:=set) (i:=i) h.up hx.2.2 hx.1.2 h.n hl hv
  have:=curGo_in (set:=set) h l (i+1) _ _ (fun y hy=>hm y (List.mem_cons_of_mem _ hy)) c.1 c.2
  refine ⟨this.1,fun t ht=>Yl (this.2 t ht) ?_⟩
  simp only [List.length_cons]; omega
theorem curr_in {u:Spl} {set:Int} (h:SplP u):(XZ u set).length=u.boards.length+1∧∀ t ∈ XZ u set,qG 176000 t:=by
 have:=curGo_in (set:=set) h u.loads 0 (List.replicate (u.boards.length+1) ⟨0,0,0⟩) 0 (fun x hx=>hx) (by simp) (fun t ht=>by
  have:=(List.mem_replicate.1 ht).2
  subst this
  exact ⟨⟨by decide,by decide⟩,⟨by decide,by decide⟩,⟨by decide,by decide⟩⟩)
 have hm:=h.m
 exact ⟨this.1,fun t ht=>Yl (this.2 t ht) (by omega)⟩
theorem f131b:Try.f131.body=some (Qd Try.prog 131):=by kernel_rfl
theorem u131 {a c k:List AV} {r:AV} (h:Pure Try.prog 131 (a++c++k) r):Qe Try.prog (.clos 131 a k) c r:=Qj Try.func131 (by kernel_rfl) f131b h
theorem p131_start_0 (n:Int) (lo:Int) (hi:Int) {E:Env} {res:AV} (hE:Qf Try.prog 131 res E) (ho:AllP [(decide (n≥lo))=true])
 (hr:AvLe (.bool (decide (n≤hi))) res):G Try.prog E [.code (Qd Try.prog 131)] ⟨[.int .i64 n,.int .i64 lo,.int .i64 hi]++unds (Try.f131.ntmps - 3),[]⟩ :=
 Qb (n:=400) (evs:=[.b true]) (obs:=_) hE Try.func131 Qh (by kernel_rfl) ho hr
theorem p131_start_1 (n:Int) (lo:Int) (hi:Int) {E:Env} {res:AV} (hE:Qf Try.prog 131 res E) (ho:AllP [(decide (n≥lo))=false])
 (hr:AvLe (.bool false) res):G Try.prog E [.code (Qd Try.prog 131)] ⟨[.int .i64 n,.int .i64 lo,.int .i64 hi]++unds (Try.f131.ntmps - 3),[]⟩ :=
 Qb (n:=400) (evs:=[.b false]) (obs:=_) hE Try.func131 Qh (by kernel_rfl) ho hr
theorem f131W (n:Int) (lo:Int) (hi:Int) {E:Env} {rv:Bool} (hE:Qf Try.prog 131 (.bool rv) E)
 (h:((n≥lo→rv=(decide (n≤hi)))∧(¬ (n≥lo)→rv=false))):G Try.prog E [.code (Qd Try.prog 131)] ⟨[.int .i64 n,.int .i64 lo,.int .i64 hi]++unds (Try.f131.ntmps - 3),[]⟩:=by
 rcases bft (decide (n≥lo)) with hc0 | hc0
 · have h:=h.1 (odt hc0)
   exact p131_start_0 n lo hi hE ⟨hc0,trivial⟩ (AvLe.of_eq (by rw [h]; try rfl))
 · have h:=h.2 (odf hc0)
   exact p131_start_1 n lo hi hE ⟨hc0,trivial⟩ (AvLe.of_eq (by rw [h]; try rfl))
theorem Qw (n lo hi:Int):Pure Try.prog 131 [.int .i64 n,.int .i64 lo,.int .i64 hi] (.bool (Qa n lo hi)):=Qv Try.func131 f131b fun E hE=>by
 refine f131W n lo hi hE ⟨fun h=>by simp [Qa,h],fun h=>by simp [Qa,h]⟩
theorem f61b:Try.f61.body=some (Qd Try.prog 61):=by kernel_rfl
theorem u61 {a c k:List AV} {r:AV} (h:Pure Try.prog 61 (a++c++k) r):Qe Try.prog (.clos 61 a k) c r:=Qj Try.func61 (by kernel_rfl) f61b h
def Qdb (P:Program):List Item:=kAt 400 [.code (Qd P 61)] [.b false,.stop]
def f61S0 (u:Spl) (i:Nat):St:=⟨([J,.ptr 0 0 0]++jj 34 ([.rsl (Qp u.boards) 0 u.boards.length,.int .i64 (u.boards.length:Int),.int .i64 (i:Int)]++Js 63)),[⟨true,0,1,true,[.rsl (Qp u.boards) 0 u.boards.length,.rsl (Qo u.loads) 0 u.loads.length,.int .i64 u.power,.int .i64 u.hold,.int .i64 u.volts],false⟩]⟩
def f61G0 (E:Env) (u:Spl) (i:Nat):Prop:=G Try.prog E (Qdb Try.prog) (f61S0 u i )
def Qda (P:Program):List Item:=kAt 400 [.code (Qd P 61)] [.b false,.b false,.stop]
def f61S1 (u:Spl) (k:Nat):St:=⟨([J,.ptr 0 0 0]++jj 67 ([.rsl (Qo u.loads) 0 u.loads.length,.int .i64 (u.loads.length:Int),.int .i64 (k:Int)]++Js 30)),[⟨true,0,1,true,[.rsl (Qp u.boards) 0 u.boards.length,.rsl (Qo u.loads) 0 u.loads.length,.int .i64 u.power,.int .i64 u.hold,.int .i64 u.volts],false⟩]⟩
def f61G1 (E:Env) (u:Spl) (k:Nat):Prop:=G Try.prog E (Qda Try.prog) (f61S1 u k )
abbrev QaF (u:Spl):List AV:=[.rsl (Qp u.boards) 0 u.boards.length,.rsl (Qo u.loads) 0 u.loads.length,.int .i64 u.power,.int .i64 u.hold,.int .i64 u.volts]
abbrev QaE (be:Bo):List AV:=[.int .i64 be.parent,.int .i64 be.rating,.int .i64 be.delay,.int .i64 be.loop]
abbrev QaD (le:Ld):List AV:=[.int .i64 le.board,.int .i64 le.phase,.int .i64 le.amps,.int .i64 le.rank]
abbrev QaC (le:Ld) (u:Spl):AV:=.bool (Qa le.board 0 ((u.boards.length:Int) - 1))
abbrev QaB (be:Bo) (i:Nat):AV:=.bool (Qa be.parent (-1) ((i:Int) - 1))
abbrev z61_6 (le:Ld) (u:Spl):List AV:=[.int .i64 le.board,.int .i64 0,.int .i64 ((u.boards.length:Int) - 1)]
abbrev z61_7 (be:Bo) (i:Nat):List AV:=[.int .i64 be.parent,.int .i64 (-1),.int .i64 ((i:Int) - 1)]
abbrev z61_8 (be:Bo):List AV:=[.int .i64 be.rating,.int .i64 1,.int .i64 1000]
abbrev z61_9 (u:Spl):List AV:=[.int .i64 u.power,.int .i64 1,.int .i64 1000]
theorem p61_start_0 (u:Spl) {E:Env} {res:AV} (hE:Qf Try.prog 61 res E) (ho:AllP [(decide ((u.boards.length:Int) > 10))=true,true=true,true=true,true=true,true=true])
 (hr:AvLe (.int .i64 50) res):G Try.prog E [.code (Qd Try.prog 61)] ⟨[.agg (QaF u)]++unds (Try.f61.ntmps - 1),[]⟩ :=
 Qb (n:=400) (evs:=[.b true,.b true,.b true,.b true,.b true]) (obs:=_) hE Try.func61 Qh (by kernel_rfl) ho hr
theorem p61_start_1 (u:Spl) {E:Env} {res:AV} (hE:Qf Try.prog 61 res E) (ho:AllP [(decide ((u.boards.length:Int) > 10))=false,(decide ((u.loads.length:Int) > 16))=true,true=true,true=true,true=true])
 (hr:AvLe (.int .i64 50) res):G Try.prog E [.code (Qd Try.prog 61)] ⟨[.agg (QaF u)]++unds (Try.f61.ntmps - 1),[]⟩ :=
 Qb (n:=400) (evs:=[.b false,.b true,.b true,.b true,.b true]) (obs:=_) hE Try.func61 Qh (by kernel_rfl) ho hr
theorem p61_start_2 (u:Spl) {E:Env} {res:AV} (hE:Qf Try.prog 61 res E) (ho:AllP [(decide ((u.boards.length:Int) > 10))=false,(decide ((u.loads.length:Int) > 16))=false,Qe Try.prog (.clos 131 [] []) (z61_9 u) (.bool (Qa u.power 1 1000)),(!(Qa u.power 1 1000))=true,true=true,true=true])
 (hr:AvLe (.int .i64 50) res):G Try.prog E [.code (Qd Try.prog 61)] ⟨[.agg (QaF u)]++unds (Try.f61.ntmps - 1),[]⟩ :=
 Qb (n:=400) (evs:=[.b false,.b false,.v (.bool (Qa u.power 1 1000)),.b true,.b true,.b true]) (obs:=_) hE Try.func61 Qh (by kernel_rfl) ho hr
theorem p61_start_3 (u:Spl) {E:Env} {res:AV} (hE:Qf Try.prog 61 res E) (ho:AllP [(decide ((u.boards.length:Int) > 10))=false,(decide ((u.loads.length:Int) > 16))=false,Qe Try.prog (.clos 131 [] []) (z61_9 u) (.bool (Qa u.power 1 1000)),(!(Qa u.power 1 1000))=false,Qe Try.prog (.clos 131 [] []) [.int .i64 u.hold,.int .i64 0,.int .i64 20] (.bool (Qa u.hold 0 20)),(!(Qa u.hold 0 20))=true,true=true])
 (hr:AvLe (.int .i64 50) res):G Try.prog E [.code (Qd Try.prog 61)] ⟨[.agg (QaF u)]++unds (Try.f61.ntmps - 1),[]⟩ :=
 Qb (n:=400) (evs:=[.b false,.b false,.v (.bool (Qa u.power 1 1000)),.b false,.v (.bool (Qa u.hold 0 20)),.b true,.b true]) (obs:=_) hE Try.func61 Qh (by kernel_rfl) ho hr
theorem p61_start_4 (u:Spl) {E:Env} {res:AV} (hE:Qf Try.prog 61 res E) (ho:AllP [(decide ((u.boards.length:Int) > 10))=false,(decide ((u.loads.length:Int) > 16))=false,Qe Try.prog (.clos 131 [] []) (z61_9 u) (.bool (Qa u.power 1 1000)),(!(Qa u.power 1 1000))=false,Qe Try.prog (.clos 131 [] []) [.int .i64 u.hold,.int .i64 0,.int .i64 20] (.bool (Qa u.hold 0 20)),(!(Qa u.hold 0 20))=false,Qe Try.prog (.clos 131 [] []) [.int .i64 u.volts,.int .i64 1,.int .i64 1000] (.bool (Qa u.volts 1 1000)),(!(Qa u.volts 1 1000))=true])
 (hr:AvLe (.int .i64 50) res):G Try.prog E [.code (Qd Try.prog 61)] ⟨[.agg (QaF u)]++unds (Try.f61.ntmps - 1),[]⟩ :=
 Qb (n:=400) (evs:=[.b false,.b false,.v (.bool (Qa u.power 1 1000)),.b false,.v (.bool (Qa u.hold 0 20)),.b false,.v (.bool (Qa u.volts 1 1000)),.b true]) (obs:=_) hE Try.func61 Qh (by kernel_rfl) ho hr
theorem p61_start_5 (u:Spl) {E:Env} {rv:AV} (hE:Qf Try.prog 61 rv E) (ho:AllP [(decide ((u.boards.length:Int) > 10))=false,(decide ((u.loads.length:Int) > 16))=false,Qe Try.prog (.clos 131 [] []) (z61_9 u) (.bool (Qa u.power 1 1000)),(!(Qa u.power 1 1000))=false,Qe Try.prog (.clos 131 [] []) [.int .i64 u.hold,.int .i64 0,.int .i64 20] (.bool (Qa u.hold 0 20)),(!(Qa u.hold 0 20))=false,Qe Try.prog (.clos 131 [] []) [.int .i64 u.volts,.int .i64 1,.int .i64 1000] (.bool (Qa u.volts 1 1000)),(!(Qa u.volts 1 1000))=false])
 (hg:G Try.prog E (Qdb Try.prog) ⟨([J,.ptr 0 0 0]++jj 34 ([.rsl (Qp u.boards) 0 u.boards.length,.int .i64 (u.boards.length:Int),.int .i64 0]++Js 63)),[⟨true,0,1,true,(QaF u),false⟩]⟩):G Try.prog E [.code (Qd Try.prog 61)] ⟨[.agg (QaF u)]++unds (Try.f61.ntmps - 1),[]⟩ :=
 Ql (n:=400) (ds:=[]) (cs:=[]) (live:=[1,36,37,38]) (m:=1) (evs:=[.b false,.b false,.v (.bool (Qa u.power 1 1000)),.b false,.v (.bool (Qa u.hold 0 20)),.b false,.v (.bool (Qa u.volts 1 1000)),.b false,.stop]) (obs:=_) hE.2.1 (hE.nogh _) Qh (by kernel_rfl) ho hg
theorem f61W (u:Spl) {E:Env} {rv:Int} (hE:Qf Try.prog 61 (.int .i64 rv) E)
 (h:(((u.boards.length:Int) > 10→rv=50)∧(¬ ((u.boards.length:Int) > 10)→(((u.loads.length:Int) > 16→rv=50)∧(¬ ((u.loads.length:Int) > 16)→(((Qa u.power 1 1000)=false→rv=50)∧((Qa u.power 1 1000)=true→(((Qa u.hold 0 20)=false→rv=50)∧((Qa u.hold 0 20)=true→(((Qa u.volts 1 1000)=false→rv=50)∧((Qa u.volts 1 1000)=true→f61G0 E u 0))))))))))):G Try.prog E [.code (Qd Try.prog 61)] ⟨[.agg [.rsl (Qp u.boards) 0 u.boards.length,.rsl (Qo u.loads) 0 u.loads.length,.int .i64 u.power,.int .i64 u.hold,.int .i64 u.volts]]++unds (Try.f61.ntmps - 1),[]⟩:=by
 rcases bft (decide ((u.boards.length:Int) > 10)) with hc0 | hc0
 · have h:=h.1 (odt hc0)
   exact p61_start_0 u hE ⟨hc0,rfl,rfl,rfl,rfl,trivial⟩ (AvLe.of_eq (by rw [h]; try rfl))
 · have h:=h.2 (odf hc0)
   rcases bft (decide ((u.loads.length:Int) > 16)) with hc1 | hc1
   · have h:=h.1 (odt hc1)
     exact p61_start_1 u hE ⟨hc0,hc1,rfl,rfl,rfl,trivial⟩ (AvLe.of_eq (by rw [h]; try rfl))
   · have h:=h.2 (odf hc1)
     rcases bft (!(Qa u.power 1 1000)) with hc2 | hc2
     · have h:=h.1 (bnT hc2)
       exact p61_start_2 u hE ⟨hc0,hc1,(u131 (Qw u.power 1 1000)),hc2,rfl,rfl,trivial⟩ (AvLe.of_eq (by rw [h]; try rfl))
     · have h:=h.2 (bnF hc2)
       rcases bft (!(Qa u.hold 0 20)) with hc3 | hc3
       · have h:=h.1 (bnT hc3)
         exact p61_start_3 u hE ⟨hc0,hc1,(u131 (Qw u.power 1 1000)),hc2,(u131 (Qw u.hold 0 20)),hc3,rfl,trivial⟩ (AvLe.of_eq (by rw [h]; try rfl))
       · have h:=h.2 (bnF hc3)
         rcases bft (!(Qa u.volts 1 1000)) with hc4 | hc4
         · have h:=h.1 (bnT hc4)
           exact p61_start_4 u hE ⟨hc0,hc1,(u131 (Qw u.power 1 1000)),hc2,(u131 (Qw u.hold 0 20)),hc3,(u131 (Qw u.volts 1 1000)),hc4,trivial⟩ (AvLe.of_eq (by rw [h]; try rfl))
         · have h:=h.2 (bnF hc4)
           exact p61_start_5 u hE ⟨hc0,hc1,(u131 (Qw u.power 1 1000)),hc2,(u131 (Qw u.hold 0 20)),hc3,(u131 (Qw u.volts 1 1000)),hc4,trivial⟩ h
theorem p61_0_0 (u:Spl) (i:Nat) (be:Bo) {E:Env} {res:AV} (hE:Qf Try.prog 61 res E) (ho:AllP [(decide ((i:Int)<(u.boards.length:Int)))=true,0≤(i:Int)∧(i:Int)<(u.boards.length:Int),((Qp u.boards).drop (0+(Int.toNat (i:Int))*4)).take 4=(QaE be),4≤4,InR .i64 ((i:Int) - 1),Qe Try.prog (.clos 131 [] []) (z61_7 be i) (QaB be i),(!(Qa be.parent (-1) ((i:Int) - 1)))=true,true=true,true=true,true=true])
 (hr:AvLe (.int .i64 50) res):G Try.prog E (Qdb Try.prog) (f61S0 u i ) :=
 Qb (n:=400) (evs:=[.b true,.ld (.agg (QaE be)),.v (QaB be i),.b true,.b true,.b true,.b true]) (obs:=_) hE Try.func61 Qh (by kernel_rfl) ho hr
theorem p61_0_1 (u:Spl) (i:Nat) (be:Bo) {E:Env} {res:AV} (hE:Qf Try.prog 61 res E) (ho:AllP [(decide ((i:Int)<(u.boards.length:Int)))=true,0≤(i:Int)∧(i:Int)<(u.boards.length:Int),((Qp u.boards).drop (0+(Int.toNat (i:Int))*4)).take 4=(QaE be),4≤4,InR .i64 ((i:Int) - 1),Qe Try.prog (.clos 131 [] []) (z61_7 be i) (QaB be i),(!(Qa be.parent (-1) ((i:Int) - 1)))=false,Qe Try.prog (.clos 131 [] []) (z61_8 be) (.bool (Qa be.rating 1 1000)),(!(Qa be.rating 1 1000))=true,true=true,true=true])
 (hr:AvLe (.int .i64 50) res):G Try.prog E (Qdb Try.prog) (f61S0 u i ) :=
 Qb (n:=400) (evs:=[.b true,.ld (.agg (QaE be)),.v (QaB be i),.b false,.v (.bool (Qa be.rating 1 1000)),.b true,.b true,.b true]) (obs:=_) hE Try.func61 Qh (by kernel_rfl) ho hr
theorem p61_0_2 (u:Spl) (i:Nat) (be:Bo) {E:Env} {res:AV} (hE:Qf Try.prog 61 res E) (ho:AllP [(decide ((i:Int)<(u.boards.length:Int)))=true,0≤(i:Int)∧(i:Int)<(u.boards.length:Int),((Qp u.boards).drop (0+(Int.toNat (i:Int))*4)).take 4=(QaE be),4≤4,InR .i64 ((i:Int) - 1),Qe Try.prog (.clos 131 [] []) (z61_7 be i) (QaB be i),(!(Qa be.parent (-1) ((i:Int) - 1)))=false,Qe Try.prog (.clos 131 [] []) (z61_8 be) (.bool (Qa be.rating 1 1000)),(!(Qa be.rating 1 1000))=false,Qe Try.prog (.clos 131 [] []) [.int .i64 be.delay,.int .i64 0,.int .i64 20] (.bool (Qa be.delay 0 20)),(!(Qa be.delay 0 20))=true,true=true])
 (hr:AvLe (.int .i64 50) res):G Try.prog E (Qdb Try.prog) (f61S0 u i ) :=
 Qb (n:=400) (evs:=[.b true,.ld (.agg (QaE be)),.v (QaB be i),.b false,.v (.bool (Qa be.rating 1 1000)),.b false,.v (.bool (Qa be.delay 0 20)),.b true,.b true]) (obs:=_) hE Try.func61 Qh (by kernel_rfl) ho hr
theorem p61_0_3 (u:Spl) (i:Nat) (be:Bo) {E:Env} {res:AV} (hE:Qf Try.prog 61 res E) (ho:AllP [(decide ((i:Int)<(u.boards.length:Int)))=true,0≤(i:Int)∧(i:Int)<(u.boards.length:Int),((Qp u.boards).drop (0+(Int.toNat (i:Int))*4)).take 4=(QaE be),4≤4,InR .i64 ((i:Int) - 1),Qe Try.prog (.clos 131 [] []) (z61_7 be i) (QaB be i),(!(Qa be.parent (-1) ((i:Int) - 1)))=false,Qe Try.prog (.clos 131 [] []) (z61_8 be) (.bool (Qa be.rating 1 1000)),(!(Qa be.rating 1 1000))=false,Qe Try.prog (.clos 131 [] []) [.int .i64 be.delay,.int .i64 0,.int .i64 20] (.bool (Qa be.delay 0 20)),(!(Qa be.delay 0 20))=false,Qe Try.prog (.clos 131 [] []) [.int .i64 be.loop,.int .i64 1,.int .i64 10000] (.bool (Qa be.loop 1 10000)),(!(Qa be.loop 1 10000))=true])
 (hr:AvLe (.int .i64 50) res):G Try.prog E (Qdb Try.prog) (f61S0 u i ) :=
 Qb (n:=400) (evs:=[.b true,.ld (.agg (QaE be)),.v (QaB be i),.b false,.v (.bool (Qa be.rating 1 1000)),.b false,.v (.bool (Qa be.delay 0 20)),.b false,.v (.bool (Qa be.loop 1 10000)),.b true]) (obs:=_) hE Try.func61 Qh (by kernel_rfl) ho hr
theorem p61_0_4 (u:Spl) (i:Nat) (be:Bo) {E:Env} {rv:AV} (hE:Qf Try.prog 61 rv E) (ho:AllP [(decide ((i:Int)<(u.boards.length:Int)))=true,0≤(i:Int)∧(i:Int)<(u.boards.length:Int),((Qp u.boards).drop (0+(Int.toNat (i:Int))*4)).take 4=(QaE be),4≤4,InR .i64 ((i:Int) - 1),Qe Try.prog (.clos 131 [] []) (z61_7 be i) (QaB be i),(!(Qa be.parent (-1) ((i:Int) - 1)))=false,Qe Try.prog (.clos 131 [] []) (z61_8 be) (.bool (Qa be.rating 1 1000)),(!(Qa be.rating 1 1000))=false,Qe Try.prog (.clos 131 [] []) [.int .i64 be.delay,.int .i64 0,.int .i64 20] (.bool (Qa be.delay 0 20)),(!(Qa be.delay 0 20))=false,Qe Try.prog (.clos 131 [] []) [.int .i64 be.loop,.int .i64 1,.int .i64 10000] (.bool (Qa be.loop 1 10000)),(!(Qa be.loop 1 10000))=false,InR .i64 ((i:Int)+1)])
 (hg:G Try.prog E (Qdb Try.prog) ⟨([J,.ptr 0 0 0]++jj 34 ([.rsl (Qp u.boards) 0 u.boards.length,.int .i64 (u.boards.length:Int),.int .i64 ((i:Int)+1)]++Js 63)),[⟨true,0,1,true,(QaF u),false⟩]⟩):G Try.prog E (Qdb Try.prog) (f61S0 u i ) :=
 Ql (n:=400) (ds:=[]) (cs:=[]) (live:=[1,36,37,38]) (m:=1) (evs:=[.b true,.ld (.agg (QaE be)),.v (QaB be i),.b false,.v (.bool (Qa be.rating 1 1000)),.b false,.v (.bool (Qa be.delay 0 20)),.b false,.v (.bool (Qa be.loop 1 10000)),.b false,.stop]) (obs:=_) hE.2.1 (hE.nogh _) Qh (by kernel_rfl) ho hg
theorem p61_0_5 (u:Spl) (i:Nat) {E:Env} {rv:AV} (hE:Qf Try.prog 61 rv E) (ho:AllP [(decide ((i:Int)<(u.boards.length:Int)))=false])
 (hg:G Try.prog E (Qda Try.prog) ⟨([J,.ptr 0 0 0]++jj 67 ([.rsl (Qo u.loads) 0 u.loads.length,.int .i64 (u.loads.length:Int),.int .i64 0]++Js 30)),[⟨true,0,1,true,(QaF u),false⟩]⟩):G Try.prog E (Qdb Try.prog) (f61S0 u i ) :=
 Ql (n:=400) (ds:=[]) (cs:=[]) (live:=[1,69,70,71]) (m:=1) (evs:=[.b false,.stop]) (obs:=_) hE.2.1 (hE.nogh _) Qh (by kernel_rfl) ho hg
theorem f61W0 (u:Spl) (i:Nat) {E:Env} {rv:Int} (hE:Qf Try.prog 61 (.int .i64 rv) E)
 (h:(((i:Int)<(u.boards.length:Int)→(∃ be:Bo,u.boards[i]?=some be∧((I6 ((i:Int) - 1))∧(((Qa be.parent (-1) ((i:Int) - 1))=false→rv=50)∧((Qa be.parent (-1) ((i:Int) - 1))=true→(((Qa be.rating 1 1000)=false→rv=50)∧((Qa be.rating 1 1000)=true→(((Qa be.delay 0 20)=false→rv=50)∧((Qa be.delay 0 20)=true→(((Qa be.loop 1 10000)=false→rv=50)∧((Qa be.loop 1 10000)=true→((I6 ((i:Int)+1))∧f61G0 E u (i+1)))))))))))))∧(¬ ((i:Int)<(u.boards.length:Int))→f61G1 E u 0))):f61G0 E u i:=by
 rcases bft (decide ((i:Int)<(u.boards.length:Int))) with hc0 | hc0
 · have h:=h.1 (odt hc0)
   obtain ⟨be,h1,h⟩:=h
   obtain ⟨q5_1,h⟩:=h
   rcases bft (!(Qa be.parent (-1) ((i:Int) - 1))) with hc1 | hc1
   · have h:=h.1 (bnT hc1)
     exact p61_0_0 u i be hE ⟨hc0,(QE h1),(rp cBo 4 0 4 h1),(by decide),q5_1,(u131 (Qw be.parent (-1) ((i:Int) - 1))),hc1,rfl,rfl,rfl,trivial⟩ (AvLe.of_eq (by rw [h]; try rfl))
   · have h:=h.2 (bnF hc1)
     rcases bft (!(Qa be.rating 1 1000)) with hc2 | hc2
     · have h:=h.1 (bnT hc2)
       exact p61_0_1 u i be hE ⟨hc0,(QE h1),(rp cBo 4 0 4 h1),(by decide),q5_1,(u131 (Qw be.parent (-1) ((i:Int) - 1))),hc1,(u131 (Qw be.rating 1 1000)),hc2,rfl,rfl,trivial⟩ (AvLe.of_eq (by rw [h]; try rfl))
     · have h:=h.2 (bnF hc2)
       rcases bft (!(Qa be.delay 0 20)) with hc3 | hc3
       · have h:=h.1 (bnT hc3)
         exact p61_0_2 u i be hE ⟨hc0,(QE h1),(rp cBo 4 0 4 h1),(by decide),q5_1,(u131 (Qw be.parent (-1) ((i:Int) - 1))),hc1,(u131 (Qw be.rating 1 1000)),hc2,(u131 (Qw be.delay 0 20)),hc3,rfl,trivial⟩ (AvLe.of_eq (by rw [h]; try rfl))
       · have h:=h.2 (bnF hc3)
         rcases bft (!(Qa be.loop 1 10000)) with hc4 | hc4
         · have h:=h.1 (bnT hc4)
           exact p61_0_3 u i be hE ⟨hc0,(QE h1),(rp cBo 4 0 4 h1),(by decide),q5_1,(u131 (Qw be.parent (-1) ((i:Int) - 1))),hc1,(u131 (Qw be.rating 1 1000)),hc2,(u131 (Qw be.delay 0 20)),hc3,(u131 (Qw be.loop 1 10000)),hc4,trivial⟩ (AvLe.of_eq (by rw [h]; try rfl))
         · have h:=h.2 (bnF hc4)
           obtain ⟨q14_5,h⟩:=h
           exact p61_0_4 u i be hE ⟨hc0,(QE h1),(rp cBo 4 0 4 h1),(by decide),q5_1,(u131 (Qw be.parent (-1) ((i:Int) - 1))),hc1,(u131 (Qw be.rating 1 1000)),hc2,(u131 (Qw be.delay 0 20)),hc3,(u131 (Qw be.loop 1 10000)),hc4,q14_5,trivial⟩ h
 · have h:=h.2 (odf hc0)
   exact p61_0_5 u i hE ⟨hc0,trivial⟩ h
theorem p61_1_0 (u:Spl) (k:Nat) (le:Ld) {E:Env} {res:AV} (hE:Qf Try.prog 61 res E) (ho:AllP [(decide ((k:Int)<(u.loads.length:Int)))=true,0≤(k:Int)∧(k:Int)<(u.loads.length:Int),((Qo u.loads).drop (0+(Int.toNat (k:Int))*4)).take 4=(QaD le),4≤4,InR .i64 ((u.boards.length:Int) - 1),Qe Try.prog (.clos 131 [] []) (z61_6 le u) (QaC le u),(!(Qa le.board 0 ((u.boards.length:Int) - 1)))=true,true=true,true=true,true=true])
 (hr:AvLe (.int .i64 50) res):G Try.prog E (Qda Try.prog) (f61S1 u k ) :=
 Qb (n:=400) (evs:=[.b true,.ld (.agg (QaD le)),.v (QaC le u),.b true,.b true,.b true,.b true]) (obs:=_) hE Try.func61 Qh (by kernel_rfl) ho hr
theorem p61_1_1 (u:Spl) (k:Nat) (le:Ld) {E:Env} {res:AV} (hE:Qf Try.prog 61 res E) (ho:AllP [(decide ((k:Int)<(u.loads.length:Int)))=true,0≤(k:Int)∧(k:Int)<(u.loads.length:Int),((Qo u.loads).drop (0+(Int.toNat (k:Int))*4)).take 4=(QaD le),4≤4,InR .i64 ((u.boards.length:Int) - 1),Qe Try.prog (.clos 131 [] []) (z61_6 le u) (QaC le u),(!(Qa le.board 0 ((u.boards.length:Int) - 1)))=false,Qe Try.prog (.clos 131 [] []) [.int .i64 le.phase,.int .i64 0,.int .i64 2] (.bool (Qa le.phase 0 2)),(!(Qa le.phase 0 2))=true,true=true,true=true])
 (hr:AvLe (.int .i64 50) res):G Try.prog E (Qda Try.prog) (f61S1 u k ) :=
 Qb (n:=400) (evs:=[.b true,.ld (.agg (QaD le)),.v (QaC le u),.b false,.v (.bool (Qa le.phase 0 2)),.b true,.b true,.b true]) (obs:=_) hE Try.func61 Qh (by kernel_rfl) ho hr
theorem p61_1_2 (u:Spl) (k:Nat) (le:Ld) {E:Env} {res:AV} (hE:Qf Try.prog 61 res E) (ho:AllP [(decide ((k:Int)<(u.loads.length:Int)))=true,0≤(k:Int)∧(k:Int)<(u.loads.length:Int),((Qo u.loads).drop (0+(Int.toNat (k:Int))*4)).take 4=(QaD le),4≤4,InR .i64 ((u.boards.length:Int) - 1),Qe Try.prog (.clos 131 [] []) (z61_6 le u) (QaC le u),(!(Qa le.board 0 ((u.boards.length:Int) - 1)))=false,Qe Try.prog (.clos 131 [] []) [.int .i64 le.phase,.int .i64 0,.int .i64 2] (.bool (Qa le.phase 0 2)),(!(Qa le.phase 0 2))=false,Qe Try.prog (.clos 131 [] []) [.int .i64 le.amps,.int .i64 1,.int .i64 1000] (.bool (Qa le.amps 1 1000)),(!(Qa le.amps 1 1000))=true,true=true])
 (hr:AvLe (.int .i64 50) res):G Try.prog E (Qda Try.prog) (f61S1 u k ) :=
 Qb (n:=400) (evs:=[.b true,.ld (.agg (QaD le)),.v (QaC le u),.b false,.v (.bool (Qa le.phase 0 2)),.b false,.v (.bool (Qa le.amps 1 1000)),.b true,.b true]) (obs:=_) hE Try.func61 Qh (by kernel_rfl) ho hr
theorem p61_1_3 (u:Spl) (k:Nat) (le:Ld) {E:Env} {res:AV} (hE:Qf Try.prog 61 res E) (ho:AllP [(decide ((k:Int)<(u.loads.length:Int)))=true,0≤(k:Int)∧(k:Int)<(u.loads.length:Int),((Qo u.loads).drop (0+(Int.toNat (k:Int))*4)).take 4=(QaD le),4≤4,InR .i64 ((u.boards.length:Int) - 1),Qe Try.prog (.clos 131 [] []) (z61_6 le u) (QaC le u),(!(Qa le.board 0 ((u.boards.length:Int) - 1)))=false,Qe Try.prog (.clos 131 [] []) [.int .i64 le.phase,.int .i64 0,.int .i64 2] (.bool (Qa le.phase 0 2)),(!(Qa le.phase 0 2))=false,Qe Try.prog (.clos 131 [] []) [.int .i64 le.amps,.int .i64 1,.int .i64 1000] (.bool (Qa le.amps 1 1000)),(!(Qa le.amps 1 1000))=false,Qe Try.prog (.clos 131 [] []) [.int .i64 le.rank,.int .i64 0,.int .i64 1000] (.bool (Qa le.rank 0 1000)),(!(Qa le.rank 0 1000))=true])
 (hr:AvLe (.int .i64 50) res):G Try.prog E (Qda Try.prog) (f61S1 u k ) :=
 Qb (n:=400) (evs:=[.b true,.ld (.agg (QaD le)),.v (QaC le u),.b false,.v (.bool (Qa le.phase 0 2)),.b false,.v (.bool (Qa le.amps 1 1000)),.b false,.v (.bool (Qa le.rank 0 1000)),.b true]) (obs:=_) hE Try.func61 Qh (by kernel_rfl) ho hr
theorem p61_1_4 (u:Spl) (k:Nat) (le:Ld) {E:Env} {rv:AV} (hE:Qf Try.prog 61 rv E) (ho:AllP [(decide ((k:Int)<(u.loads.length:Int)))=true,0≤(k:Int)∧(k:Int)<(u.loads.length:Int),((Qo u.loads).drop (0+(Int.toNat (k:Int))*4)).take 4=(QaD le),4≤4,InR .i64 ((u.boards.length:Int) - 1),Qe Try.prog (.clos 131 [] []) (z61_6 le u) (QaC le u),(!(Qa le.board 0 ((u.boards.length:Int) - 1)))=false,Qe Try.prog (.clos 131 [] []) [.int .i64 le.phase,.int .i64 0,.int .i64 2] (.bool (Qa le.phase 0 2)),(!(Qa le.phase 0 2))=false,Qe Try.prog (.clos 131 [] []) [.int .i64 le.amps,.int .i64 1,.int .i64 1000] (.bool (Qa le.amps 1 1000)),(!(Qa le.amps 1 1000))=false,Qe Try.prog (.clos 131 [] []) [.int .i64 le.rank,.int .i64 0,.int .i64 1000] (.bool (Qa le.rank 0 1000)),(!(Qa le.rank 0 1000))=false,InR .i64 ((k:Int)+1)])
 (hg:G Try.prog E (Qda Try.prog) ⟨([J,.ptr 0 0 0]++jj 67 ([.rsl (Qo u.loads) 0 u.loads.length,.int .i64 (u.loads.length:Int),.int .i64 ((k:Int)+1)]++Js 30)),[⟨true,0,1,true,(QaF u),false⟩]⟩):G Try.prog E (Qda Try.prog) (f61S1 u k ) :=
 Ql (n:=400) (ds:=[]) (cs:=[]) (live:=[1,69,70,71]) (m:=1) (evs:=[.b true,.ld (.agg (QaD le)),.v (QaC le u),.b false,.v (.bool (Qa le.phase 0 2)),.b false,.v (.bool (Qa le.amps 1 1000)),.b false,.v (.bool (Qa le.rank 0 1000)),.b false,.stop]) (obs:=_) hE.2.1 (hE.nogh _) Qh (by kernel_rfl) ho hg
theorem p61_1_5 (u:Spl) (k:Nat) {E:Env} {res:AV} (hE:Qf Try.prog 61 res E) (ho:AllP [(decide ((k:Int)<(u.loads.length:Int)))=false])
 (hr:AvLe (.int .i64 0) res):G Try.prog E (Qda Try.prog) (f61S1 u k ) :=
 Qb (n:=400) (evs:=[.b false]) (obs:=_) hE Try.func61 Qh (by kernel_rfl) ho hr
theorem f61W1 (u:Spl) (k:Nat) {E:Env} {rv:Int} (hE:Qf Try.prog 61 (.int .i64 rv) E)
 (h:(((k:Int)<(u.loads.length:Int)→(∃ le:Ld,u.loads[k]?=some le∧((I6 ((u.boards.length:Int) - 1))∧(((Qa le.board 0 ((u.boards.length:Int) - 1))=false→rv=50)∧((Qa le.board 0 ((u.boards.length:Int) - 1))=true→(((Qa le.phase 0 2)=false→rv=50)∧((Qa le.phase 0 2)=true→(((Qa le.amps 1 1000)=false→rv=50)∧((Qa le.amps 1 1000)=true→(((Qa le.rank 0 1000)=false→rv=50)∧((Qa le.rank 0 1000)=true→((I6 ((k:Int)+1))∧f61G1 E u (k+1)))))))))))))∧(¬ ((k:Int)<(u.loads.length:Int))→rv=0))):f61G1 E u k:=by
 rcases bft (decide ((k:Int)<(u.loads.length:Int))) with hc0 | hc0
 · have h:=h.1 (odt hc0)
   obtain ⟨le,h1,h⟩:=h
   obtain ⟨q5_1,h⟩:=h
   rcases bft (!(Qa le.board 0 ((u.boards.length:Int) - 1))) with hc1 | hc1
   · have h:=h.1 (bnT hc1)
     exact p61_1_0 u k le hE ⟨hc0,(QE h1),(rp cLd 4 0 4 h1),(by decide),q5_1,(u131 (Qw le.board 0 ((u.boards.length:Int) - 1))),hc1,rfl,rfl,rfl,trivial⟩ (AvLe.of_eq (by rw [h]; try rfl))
   · have h:=h.2 (bnF hc1)
     rcases bft (!(Qa le.phase 0 2)) with hc2 | hc2
     · have h:=h.1 (bnT hc2)
       exact p61_1_1 u k le hE ⟨hc0,(QE h1),(rp cLd 4 0 4 h1),(by decide),q5_1,(u131 (Qw le.board 0 ((u.boards.length:Int) - 1))),hc1,(u131 (Qw le.phase 0 2)),hc2,rfl,rfl,trivial⟩ (AvLe.of_eq (by rw [h]; try rfl))
     · have h:=h.2 (bnF hc2)
       rcases bft (!(Qa le.amps 1 1000)) with hc3 | hc3
       · have h:=h.1 (bnT hc3)
         exact p61_1_2 u k le hE ⟨hc0,(QE h1),(rp cLd 4 0 4 h1),(by decide),q5_1,(u131 (Qw le.board 0 ((u.boards.length:Int) - 1))),hc1,(u131 (Qw le.phase 0 2)),hc2,(u131 (Qw le.amps 1 1000)),hc3,rfl,trivial⟩ (AvLe.of_eq (by rw [h]; try rfl))
       · have h:=h.2 (bnF hc3)
         rcases bft (!(Qa le.rank 0 1000)) with hc4 | hc4
         · have h:=h.1 (bnT hc4)
           exact p61_1_3 u k le hE ⟨hc0,(QE h1),(rp cLd 4 0 4 h1),(by decide),q5_1,(u131 (Qw le.board 0 ((u.boards.length:Int) - 1))),hc1,(u131 (Qw le.phase 0 2)),hc2,(u131 (Qw le.amps 1 1000)),hc3,(u131 (Qw le.rank 0 1000)),hc4,trivial⟩ (AvLe.of_eq (by rw [h]; try rfl))
         · have h:=h.2 (bnF hc4)
           obtain ⟨q14_5,h⟩:=h
           exact p61_1_4 u k le hE ⟨hc0,(QE h1),(rp cLd 4 0 4 h1),(by decide),q5_1,(u131 (Qw le.board 0 ((u.boards.length:Int) - 1))),hc1,(u131 (Qw le.phase 0 2)),hc2,(u131 (Qw le.amps 1 1000)),hc3,(u131 (Qw le.rank 0 1000)),hc4,q14_5,trivial⟩ h
 · have h:=h.2 (odf hc0)
   exact p61_1_5 u k hE ⟨hc0,trivial⟩ (AvLe.of_eq (by rw [h]; try rfl))
theorem Qz (u:Spl) (h:SplSize u):Pure Try.prog 61 [.agg [.rsl (Qp u.boards) 0 u.boards.length,.rsl (Qo u.loads) 0 u.loads.length,.int .i64 u.power,.int .i64 u.hold,.int .i64 u.volts]] (.int .i64 (splE u)):=Qv Try.func61 f61b fun E hE=>by
 have s1:=h.b
 have s2:=h.l
 refine f61W u (rv:=splE u) hE ⟨fun h1=>Yj ?_,fun h1=>⟨fun h0=>Yj ?_,fun h0=>⟨fun h2=>Yj ?_,fun h2=>⟨fun h3=>Yj ?_,fun h3=>⟨fun h4=>Yj ?_,fun h4=>?_⟩⟩⟩⟩⟩
 · unfold Wk; rw [decide_eq_false (by omega)]; rfl
 · unfold Wk; rw [decide_eq_false (show ¬ u.loads.length≤16 by omega)]; simp
 · unfold Wk; rw [h2]; simp
 · unfold Wk; rw [h3]; simp
 · unfold Wk; rw [h4]; simp
 have he:Wk u=(bosGo 0 u.boards && ldsGo u.boards.length u.loads):=by
  unfold Wk; rw [decide_eq_true (show u.boards.length≤10 by omega),decide_eq_true (show u.loads.length≤16 by omega),h2,h3,h4]; rfl
 have second:∀ (d i:Nat),i+d=u.loads.length→Wk u=ldsGo u.boards.length (u.loads.drop i)→f61G1 E u i:=by
  intro d
  induction d with
  | zero =>
   intro i hi hr
   rw [List.drop_eq_nil_of_le (by omega)] at hr
   exact f61W1 u i (rv:=splE u) hE ⟨fun h=>by omega,fun _=>by unfold splE; rw [if_pos (show Wk u=true from hr)]⟩
  | succ d ih =>
   intro i hi hr
   have hx:u.loads[i]?=some (u.loads[i]'(by omega)):=List.getElem?_eq_getElem (by omega)
   rw [List.drop_eq_getElem_cons (by omega)] at hr
   generalize u.loads[i]'(by omega)=b at hx hr
   simp only [ldsGo,ldOk] at hr
   refine f61W1 u i (rv:=splE u) hE ⟨fun _=>⟨b,hx,⟨by omega,by omega⟩,fun q1=>Yj ?_,fun q1=>⟨fun q2=>Yj ?_,fun q2=>⟨fun q3=>Yj ?_,fun q3=>⟨fun q4=>Yj ?_,fun q4=>⟨⟨by omega,by omega⟩,?_⟩⟩⟩⟩⟩,fun h=>by omega⟩
   · rw [hr,q1]; rfl
   · rw [hr,q2]; simp
   · rw [hr,q3]; simp
   · rw [hr,q4]; simp
   · rw [q1,q2,q3,q4] at hr
     exact ih (i+1) (by omega) hr
 have key:∀ (d i:Nat),i+d=u.boards.length→Wk u=(bosGo i (u.boards.drop i) && ldsGo u.boards.length u.loads)→f61G0 E u i:=by
  intro d
  induction d with
  | zero =>
   intro i hi hr
   rw [List.drop_eq_nil_of_le (by omega)] at hr
   exact f61W0 u i (rv:=splE u) hE ⟨fun h=>by omega,fun _=>second u.loads.length 0 (by omega) (by rw [hr,List.drop_zero]; rfl)⟩
  | succ d ih =>
   intro i hi hr
   have hx:u.boards[i]?=some (u.boards[i]'(by omega)):=List.getElem?_eq_getElem (by omega)
   rw [List.drop_eq_getElem_cons (by omega)] at hr
   generalize u.boards[i]'(by omega)=b at hx hr
   simp only [bosGo,boOk] at hr
   refine f61W0 u i (rv:=splE u) hE ⟨fun _=>⟨b,hx,⟨by omega,by omega⟩,fun q1=>Yj ?_,fun q1=>⟨fun q2=>Yj ?_,fun q2=>⟨fun q3=>Yj ?_,fun q3=>⟨fun q4=>Yj ?_,fun q4=>⟨⟨by omega,by omega⟩,?_⟩⟩⟩⟩⟩,fun h=>by omega⟩
   · rw [hr,q1]; rfl
   · rw [hr,q2]; simp
   · rw [hr,q3]; simp
   · rw [hr,q4]; simp
   · rw [q1,q2,q3,q4] at hr
     exact ih (i+1) (by omega) hr
 exact key u.boards.length 0 (by omega) (by rw [List.drop_zero]; exact he)
theorem f132b:Try.f132.body=some (Qd Try.prog 132):=by kernel_rfl
def QbA (P:Program):List Item:=kAt 400 [.code (Qd P 132)] [.stop]
def Qbz (yv0:Value) (u:Spl) (b0:Int) (p:Int):St:=⟨([.opq yv0,.ptr 1 0 0,.rptr [.rsl (Qp u.boards) 0 u.boards.length,.rsl (Qo u.loads) 0 u.loads.length,.int .i64 u.power,.int .i64 u.hold,.int .i64 u.volts] 0]++Js 15),[⟨false,1,1,true,[],false⟩,⟨true,0,1,true,[.int .i64 p],false⟩]⟩
theorem p132_s (yv0:Value) (u:Spl) (b0:Int) {E:Env} {xs:List (List AV)} {yv:Value} {Y:Option Nat→Sd} {cont:Nat→Bool} {e:Option Nat} {o:Option Nat} (hE:IterE Try.prog 132 xs yv Y cont e o E)
 (hg:G Try.prog E (QbA Try.prog) (Qbz yv0 u b0 b0)):G Try.prog E [.code (Qd Try.prog 132)] ⟨[.opq yv0,.ptr 1 0 0,.rptr [.rsl (Qp u.boards) 0 u.boards.length,.rsl (Qo u.loads) 0 u.loads.length,.int .i64 u.power,.int .i64 u.hold,.int .i64 u.volts] 0]++unds (Try.f132.ntmps - 3),[⟨false,1,1,true,[],false⟩,⟨true,0,1,true,[.int .i64 b0],false⟩]⟩ :=
 YX (n:=400) (ds:=[]) (live:=[0,1,2]) (m:=2) (evs:=[.stop]) (obs:=[]) hE.kind (hE.nogh _) Qh (by kernel_rfl) trivial hg
def f132Kh0 (P:Program):List Item:=toOp 2 (kReg 400 [.code (Qd P 132)] [.b true] 1)
def f132Sh0 (yv0:Value) (u:Spl) (b0:Int) (p:Int):St:=⟨([.opq yv0,.ptr 1 0 0,.rptr [.rsl (Qp u.boards) 0 u.boards.length,.rsl (Qo u.loads) 0 u.loads.length,.int .i64 u.power,.int .i64 u.hold,.int .i64 u.volts] 0,J,.int .i64 p,.bool (decide (p≥0))]++jj 6 ([.opq yv0,.int .i64 p,J,J,J,J])),[⟨false,1,1,true,[],false⟩,⟨true,0,1,true,[.int .i64 p],false⟩]⟩
def Qdj (P:Program):List Item:=toOp 3 (kReg 400 [.code (Qd P 132)] [.b true] 1)
def f132Sh0a (yv0:Value) (u:Spl) (b0:Int) (p:Int) (y:Bool):St:=⟨([.opq yv0,.ptr 1 0 0,.rptr [.rsl (Qp u.boards) 0 u.boards.length,.rsl (Qo u.loads) 0 u.loads.length,.int .i64 u.power,.int .i64 u.hold,.int .i64 u.volts] 0,J,.int .i64 p,.bool (decide (p≥0))]++jj 6 ([.opq yv0,.int .i64 p,.bool y,J,J,J])),[⟨false,1,1,true,[],false⟩,⟨true,0,1,true,[.int .i64 p],false⟩]⟩
theorem f132_h0 (yv0:Value) (u:Spl) (b0:Int) (p:Int):qJ (f132Kh0 Try.prog) (f132Sh0 yv0 u b0 p)=some (Qdj Try.prog,some 14,yv0,[.int .i64 p]):=by kernel_rfl
theorem p132_0 (yv0:Value) (u:Spl) (b0:Int) (p:Int) {E:Env} {xs:List (List AV)} {yv:Value} {Y:Option Nat→Sd} {cont:Nat→Bool} {e:Option Nat} {o:Option Nat} (hE:IterE Try.prog 132 xs yv Y cont e o E) (h0:(decide (p≥0))=true)
 (hg:G Try.prog E (f132Kh0 Try.prog) (f132Sh0 yv0 u b0 p)):G Try.prog E (QbA Try.prog) (Qbz yv0 u b0 p) :=
 YX (n:=400) (ds:=[]) (live:=[0,1,2,3,4,5,6,7,8,9,10,11,12,13,14,15,16,17]) (m:=2) (evs:=[.b true,.hold 2]) (obs:=[(decide (p≥0))=true]) hE.kind (hE.nogh _) Qh (by kernel_rfl) ⟨h0,trivial⟩ hg
def f132Kh1 (P:Program):List Item:=toOp 1 (kReg 400 [.code (Qd P 132)] [.b false] 1)
def f132Sh1 (yv0:Value) (u:Spl) (b0:Int) (p:Int):St:=⟨([.opq yv0,.ptr 1 0 0,.rptr [.rsl (Qp u.boards) 0 u.boards.length,.rsl (Qo u.loads) 0 u.loads.length,.int .i64 u.power,.int .i64 u.hold,.int .i64 u.volts] 0,J,.int .i64 p,.bool (decide (p≥0))]++jj 10 ([.opq yv0,J])),[⟨false,1,1,true,[],false⟩,⟨true,0,1,true,[.int .i64 p],false⟩]⟩
def f132Kh1a (P:Program):List Item:=toOp 2 (kReg 400 [.code (Qd P 132)] [.b false] 1)
def f132Sh1a (yv0:Value) (u:Spl) (b0:Int) (p:Int) (y:Bool):St:=⟨([.opq yv0,.ptr 1 0 0,.rptr [.rsl (Qp u.boards) 0 u.boards.length,.rsl (Qo u.loads) 0 u.loads.length,.int .i64 u.power,.int .i64 u.hold,.int .i64 u.volts] 0,J,.int .i64 p,.bool (decide (p≥0))]++jj 10 ([.opq yv0,.bool y])),[⟨false,1,1,true,[],false⟩,⟨true,0,1,true,[.int .i64 p],false⟩]⟩
theorem f132_h1 (yv0:Value) (u:Spl) (b0:Int) (p:Int):qJ (f132Kh1 Try.prog) (f132Sh1 yv0 u b0 p)=some (f132Kh1a Try.prog,some 17,yv0,[.int .i64 (-1)]):=by kernel_rfl
theorem p132_1 (yv0:Value) (u:Spl) (b0:Int) (p:Int) {E:Env} {xs:List (List AV)} {yv:Value} {Y:Option Nat→Sd} {cont:Nat→Bool} {e:Option Nat} {o:Option Nat} (hE:IterE Try.prog 132 xs yv Y cont e o E) (h0:(decide (p≥0))=false)
 (hg:G Try.prog E (f132Kh1 Try.prog) (f132Sh1 yv0 u b0 p)):G Try.prog E (QbA Try.prog) (Qbz yv0 u b0 p) :=
 YX (n:=400) (ds:=[]) (live:=[0,1,2,3,4,5,6,7,8,9,10,11,12,13,14,15,16,17]) (m:=2) (evs:=[.b false,.hold 1]) (obs:=[(decide (p≥0))=false]) hE.kind (hE.nogh _) Qh (by kernel_rfl) ⟨h0,trivial⟩ hg
theorem p132_a00 (yv0:Value) (u:Spl) (b0:Int) (p:Int) (y:Bool) {E:Env} {xs:List (List AV)} {yv:Value} {Y:Option Nat→Sd} {cont:Nat→Bool} {e:Option Nat} (hE:IterE Try.prog 132 xs yv Y cont e e E) (h0:(!y)=true):G Try.prog E (Qdj Try.prog) (f132Sh0a yv0 u b0 p y) :=
 qf (n:=400) (evs:=[.b true]) (obs:=[(!y)=true]) hE Try.func132 (by kernel_rfl) Qh (by kernel_rfl) ⟨h0,trivial⟩
theorem p132_a01 (yv0:Value) (u:Spl) (b0:Int) (p:Int) (y:Bool) {E:Env} {xs:List (List AV)} {yv:Value} {Y:Option Nat→Sd} {cont:Nat→Bool} {e:Option Nat} {o:Option Nat} (hE:IterE Try.prog 132 xs yv Y cont e o E) (h0:(!y)=false) (h1:0≤p∧p<(u.boards.length:Int)) (h2:((Qp u.boards).drop ((0+((Int.toNat p)*4))+0)).take 1=[.int .i64 (par3 u p)])
 (hg:G Try.prog E (QbA Try.prog) (Qbz yv0 u b0 (par3 u p))):G Try.prog E (Qdj Try.prog) (f132Sh0a yv0 u b0 p y) :=
 YX (n:=400) (ds:=[]) (live:=[0,1,2]) (m:=2) (evs:=[.b false,.auto,.auto,.ld (.int .i64 (par3 u p)),.stop]) (obs:=[(!y)=false,0≤p∧p<(u.boards.length:Int),((Qp u.boards).drop ((0+((Int.toNat p)*4))+0)).take 1=[.int .i64 (par3 u p)],1≤1]) hE.kind (hE.nogh _) Qh (by kernel_rfl) ⟨h0,h1,h2,(by decide),trivial⟩ hg
theorem p132_a10 (yv0:Value) (u:Spl) (b0:Int) (p:Int) (y:Bool) {E:Env} {xs:List (List AV)} {yv:Value} {Y:Option Nat→Sd} {cont:Nat→Bool} {e:Option Nat} (hE:IterE Try.prog 132 xs yv Y cont e e E):G Try.prog E (f132Kh1a Try.prog) (f132Sh1a yv0 u b0 p y) :=
 qf (n:=400) (evs:=[]) (obs:=[]) hE Try.func132 (by kernel_rfl) Qh (by kernel_rfl) trivial
theorem f64b:Try.f64.body=some (Qd Try.prog 64):=by kernel_rfl
theorem QbD {α:Type} {l:List α} {n:Nat} {x:α} {r:List α} (h:l.drop n=x :: r):l[n]?=some x∧l.drop (n+1)=r∧n<l.length:=by
 have hn:n<l.length:=by
  rcases Nat.lt_or_ge n l.length with h1 | h1
  · exact h1
  · rw [List.drop_eq_nil_of_le h1] at h; cases h
 rw [List.drop_eq_getElem_cons hn] at h
 simp only [List.cons.injEq] at h
 exact ⟨by rw [List.getElem?_eq_getElem hn,h.1],h.2,hn⟩
theorem bo_ld {l:List Bo} {i:Nat} {x:Bo} (h:l[i]?=some x):((Qp l).drop ((0+(i*4))+0)).take 1=[.int .i64 x.parent]:=by
 exact qc cBo (s:=4) (fun _=>rfl) (k:=0) (m:=1) (by decide) h
section
variable {L:List Int} {yv:Value} {Y:Option Nat→Sd} {cont:Nat→Bool} {e:Option Nat} {u:Spl} {b0:Int}
theorem it_up3 (hs:SplUp u):∀ (f:Nat) (p:Int) (n:Nat) (E:Env),p<(f:Int)→p<(u.boards.length:Int)→IterE Try.prog 132 (L.map argI) yv Y cont e (some n) E→Xi cont n (L.length - n)=e→L.drop n=up3 u f p →
 G Try.prog E (QbA Try.prog) (Qbz yv u b0 p):=by
 intro f
 have last:∀ (p:Int) (n:Nat) (E:Env),p<0→IterE Try.prog 132 (L.map argI) yv Y cont e (some n) E→Xi cont n (L.length - n)=e→L.drop n=[-1]→G Try.prog E (QbA Try.prog) (Qbz yv u b0 p):=by
  intro p n E hp hE hi hL
  obtain ⟨g1,g2,g3⟩:=QbD hL
  have hlen:L.length - n=1:=by
   have:=congrArg List.length hL
   simpa using this
  rw [hlen] at hi
  simp only [Xi] at hi
  refine p132_1 yv u b0 p hE (decide_eq_false (by omega)) ?_
  refine qA (x:=argI (-1)) hE (by simp [g1]) (f132_h1 yv u b0 p) rfl fun E' hE'=>?_
  have he:nxt cont n=e:=by
   unfold nxt
   cases hc:cont n with
   | true=>rw [hc] at hi; exact hi
   | false=>rw [hc] at hi; exact hi
  rw [he] at hE'
  exact p132_a10 yv u b0 p _ hE'
 induction f with
 | zero =>
  intro p n E hp hp2 hE hi hL
  exact last p n E (by omega) hE hi hL
 | succ f ih =>
  intro p n E hp hp2 hE hi hL
  unfold up3 at hL
  by_cases h0:p≥0
  · rw [if_pos h0] at hL
    obtain ⟨g1,g2,g3⟩:=QbD hL
    obtain ⟨q1,q2⟩:=hs p h0 hp2
    refine p132_0 yv u b0 p hE (decide_eq_true h0) ?_
    refine qA (x:=argI p) hE (by simp [g1]) (f132_h0 yv u b0 p) rfl fun E' hE'=>?_
    have hst:L.length - n=(L.length - (n+1))+1:=by omega
    rw [hst] at hi
    simp only [Xi] at hi
    have hx:u.boards[p.toNat]?=some (boAt u p):=by
     rw [boAt,List.getD_eq_getElem?_getD,List.getElem?_eq_getElem (show p.toNat<u.boards.length by omega)]; rfl
    cases hc:cont n with
    | true =>
     simp only [nxt,hc,cond_true] at hE' hi
     exact p132_a01 yv u b0 p true hE' rfl ⟨h0,hp2⟩ (bo_ld hx) (ih (par3 u p) (n+1) E' (by omega) (by omega) hE' hi g2)
    | false =>
     simp only [nxt,hc,cond_false] at hE' hi
     subst hi
     exact p132_a00 yv u b0 p false hE' rfl
  · rw [if_neg h0] at hL
    exact last p n E (by omega) hE hi hL
end
theorem up3_ok (u:Spl) (b:Int) (h:SplUp u∧b<(u.boards.length:Int)):UpF Try.prog (.clos 64 [] []) [.agg [.rsl (Qp u.boards) 0 u.boards.length,.rsl (Qo u.loads) 0 u.loads.length,.int .i64 u.power,.int .i64 u.hold,.int .i64 u.volts],.int .i64 b] ((up3 u (u.boards.length) b).map argI) :=
 upF_of Try.func64 (by kernel_rfl) f64b fun E hE =>
  endU_step (n:=400) (K':=[.code .ret]) (evs:=[.vn .junk]) (evs':=[]) (obs:=[]) (o2:=[]) (evs2:=[]) (f2:=132) (caps:=[.ptr 1 0 0,.rptr [.rsl (Qp u.boards) 0 u.boards.length,.rsl (Qo u.loads) 0 u.loads.length,.int .i64 u.power,.int .i64 u.hold,.int .i64 u.volts] 0])
   (st':=⟨[.agg [.rsl (Qp u.boards) 0 u.boards.length,.rsl (Qo u.loads) 0 u.loads.length,.int .i64 u.power,.int .i64 u.hold,.int .i64 u.volts],.int .i64 b,.rptr [.rsl (Qp u.boards) 0 u.boards.length,.rsl (Qo u.loads) 0 u.loads.length,.int .i64 u.power,.int .i64 u.hold,.int .i64 u.volts] 0,.ptr 1 0 0,.clos 132 [] [.ptr 1 0 0,.rptr [.rsl (Qp u.boards) 0 u.boards.length,.rsl (Qo u.loads) 0 u.loads.length,.int .i64 u.power,.int .i64 u.hold,.int .i64 u.volts] 0],.clos 132 [] [.ptr 1 0 0,.rptr [.rsl (Qp u.boards) 0 u.boards.length,.rsl (Qo u.loads) 0 u.loads.length,.int .i64 u.power,.int .i64 u.hold,.int .i64 u.volts] 0]],[⟨false,1,1,true,[],false⟩,⟨true,0,1,true,[.int .i64 b],false⟩]⟩)
   hE Try.func64 Qh (by kernel_rfl) rfl trivial (by kernel_rfl) trivial Try.func132 (by kernel_rfl) f132b fun E' yv Y cont hI =>
    p132_s yv u b hI (it_up3 h.1 u.boards.length b 0 E' h.2 h.2 hI (by simp) (by simp))
theorem f259b:Try.f259.body=some (Qd Try.prog 259):=by kernel_rfl
theorem u259 {a c k:List AV} {r:AV} (h:Pure Try.prog 259 (a++c++k) r):Qe Try.prog (.clos 259 a k) c r:=Qj Try.func259 (by kernel_rfl) f259b h
def Vv (P:Program):List Item:=kAt 400 [.code (Qd P 259)] [.b true,.b false]
def Ys (u:Spl) (set:Int) (v:Nat) (v1:Int) (v3_0:Int) (v3_1:Int) (v3_2:Int) (v3_3:Int) (s:List Amp × Nat):St:=⟨([J,.int .i64 set,.ptr 0 0 0,J,J,.ptr 2 0 0,J,.ptr 3 0 0]++jj 7 ([.rsl (Qo u.loads) 0 u.loads.length,.int .i64 (u.loads.length:Int),.int .i64 (v:Int)]++jj 9 ([.agg [.rsl (Qp u.boards) 0 u.boards.length,.rsl (Qo u.loads) 0 u.loads.length,.int .i64 u.power,.int .i64 u.hold,.int .i64 u.volts],J,.int .i64 v1]++Js 21))),[⟨true,0,1,true,[.rsl (Qp u.boards) 0 u.boards.length,.rsl (Qo u.loads) 0 u.loads.length,.int .i64 u.power,.int .i64 u.hold,.int .i64 u.volts],false⟩,⟨true,s.2,3,true,(XR s.1),true⟩,⟨true,0,1,false,[.sl 1 s.2 0 s.1.length 3],false⟩,⟨true,0,1,true,[.int .i64 v3_0,.int .i64 v3_1,.int .i64 v3_2,.int .i64 v3_3],false⟩]⟩
def f259Kur0 (P:Program):List Item:=toOp 3 (kReg 400 [.code (Qd P 259)] [.b true,.b false] 6)
def f259Gr0 (E:Env) (u:Spl) (set:Int) (v:Nat) (v1:Int) (v3_0:Int) (v3_1:Int) (v3_2:Int) (v3_3:Int) (s:List Amp × Nat):Prop:=GX Try.prog E (VN Try.prog E (((up3 u u.boards.length v1)).map argI) (.tmp 30)) (Vv Try.prog) (Ys u set v v1 v3_0 v3_1 v3_2 v3_3 s)
def Qae (u:Spl) (set:Int) (v:Nat) (v1:Int) (v3_0:Int) (v3_1:Int) (v3_2:Int) (v3_3:Int) (s:List Amp × Nat) (x:Int):St:=⟨([J,.int .i64 set,.ptr 0 0 0,J,J,.ptr 2 0 0,J,.ptr 3 0 0,.int .i64 x]++jj 6 ([.rsl (Qo u.loads) 0 u.loads.length,.int .i64 (u.loads.length:Int),.int .i64 (v:Int)]++jj 9 ([.agg [.rsl (Qp u.boards) 0 u.boards.length,.rsl (Qo u.loads) 0 u.loads.length,.int .i64 u.power,.int .i64 u.hold,.int .i64 u.volts],J,.int .i64 v1,J,.int .i64 x]++Js 19))),[⟨true,0,1,true,[.rsl (Qp u.boards) 0 u.boards.length,.rsl (Qo u.loads) 0 u.loads.length,.int .i64 u.power,.int .i64 u.hold,.int .i64 u.volts],false⟩,⟨true,s.2,3,true,(XR s.1),true⟩,⟨true,0,1,false,[.sl 1 s.2 0 s.1.length 3],false⟩,⟨true,0,1,true,[.int .i64 v3_0,.int .i64 v3_1,.int .i64 v3_2,.int .i64 v3_3],false⟩]⟩
def Qaf (P:Program):List Item:=kAt 400 [.code (Qd P 259)] [.stop]
def f259S0 (u:Spl) (set:Int) (v1:List Amp) (i:Nat) (g1:Nat):St:=⟨([J,.int .i64 set,.ptr 0 0 0,J,J,.ptr 2 0 0]++jj 9 ([.rsl (Qo u.loads) 0 u.loads.length,.int .i64 (u.loads.length:Int),.int .i64 (i:Int)]++Js 33)),[⟨true,0,1,true,[.rsl (Qp u.boards) 0 u.boards.length,.rsl (Qo u.loads) 0 u.loads.length,.int .i64 u.power,.int .i64 u.hold,.int .i64 u.volts],false⟩,⟨true,g1,3,true,(XR v1),true⟩,⟨true,0,1,false,[.sl 1 g1 0 v1.length 3],false⟩]⟩
def Qag (E:Env) (u:Spl) (set:Int) (v1:List Amp) (i:Nat):Prop:=∀ g1:Nat,G Try.prog E (Qaf Try.prog) (f259S0 u set v1 i g1)
abbrev qI (u:Spl):List AV:=[.rsl (Qp u.boards) 0 u.boards.length,.rsl (Qo u.loads) 0 u.loads.length,.int .i64 u.power,.int .i64 u.hold,.int .i64 u.volts]
abbrev QaU (le:Ld):List AV:=[.int .i64 le.board,.int .i64 le.phase,.int .i64 le.amps,.int .i64 le.rank]
abbrev z259_3 (set:Int) (u:Spl) (i:Nat) (le:Ld):List AV:=[J,.int .i64 set,.ptr 0 0 0,J,J,.ptr 2 0 0,J,.ptr 3 0 0]++jj 7 ([.rsl (Qo u.loads) 0 u.loads.length,.int .i64 (u.loads.length:Int),.int .i64 (i:Int)]++jj 9 ([.agg (qI u),J,.int .i64 le.board]++Js 21))
theorem p259_start_0 (u:Spl) (set:Int) {E:Env} {rv:AV} (hE:Qf Try.prog 259 rv E) (ho:AllP [InR .i64 ((u.boards.length:Int)+1),0≤((u.boards.length:Int)+1)∧((u.boards.length:Int)+1)≤((u.boards.length:Int)+1)∧((u.boards.length:Int)+1)≤2147483648,1≤1])
 (hg:G Try.prog E (Qaf Try.prog) ⟨([J,.int .i64 set,.ptr 0 0 0,J,J,.ptr 2 0 0]++jj 9 ([.rsl (Qo u.loads) 0 u.loads.length,.int .i64 (u.loads.length:Int),.int .i64 0]++Js 33)),[⟨true,0,1,true,(qI u),false⟩,⟨true,0,3,true,((List.replicate (Int.toNat ((u.boards.length:Int)+1)) ([.int .i64 0,.int .i64 0,.int .i64 0]:List AV)).flatten),true⟩,⟨true,0,1,false,[.sl 1 0 0 (Int.toNat ((u.boards.length:Int)+1)) 3],false⟩]⟩):G Try.prog E [.code (Qd Try.prog 259)] ⟨[.agg (qI u),.int .i64 set]++unds (Try.f259.ntmps - 2),[]⟩ :=
 Ql (n:=400) (ds:=[]) (cs:=[]) (live:=[1,2,5,15,16,17]) (m:=3) (evs:=[.stop]) (obs:=_) hE.2.1 (hE.nogh _) Qh (by kernel_rfl) ho hg
theorem f259W (u:Spl) (set:Int) {E:Env} {rv:(List Amp)} (hE:Qf Try.prog 259 (.rsl (XR rv) 0 rv.length) E)
 (h:((I6 ((u.boards.length:Int)+1))∧((u.boards.length+1)≤2147483648∧Qag E u set (List.replicate (u.boards.length+1) ((⟨0,0,0⟩:Amp):Amp)) 0))):G Try.prog E [.code (Qd Try.prog 259)] ⟨[.agg [.rsl (Qp u.boards) 0 u.boards.length,.rsl (Qo u.loads) 0 u.loads.length,.int .i64 u.power,.int .i64 u.hold,.int .i64 u.volts],.int .i64 set]++unds (Try.f259.ntmps - 2),[]⟩:=by
 obtain ⟨q0_0,h⟩:=h
 obtain ⟨h1,h⟩:=h
 refine p259_start_0 u set hE ⟨q0_0,⟨by omega,by omega,by have:=h1; omega⟩,(by decide),trivial⟩ ?_
 have h:=(h 0)
 simp only [Qag,f259S0,List.length_set,List.length_replicate] at h
 rw [(show (List.replicate (Int.toNat ((u.boards.length:Int)+1)) ([.int .i64 0,.int .i64 0,.int .i64 0]:List AV)).flatten=XR (List.replicate (u.boards.length+1) ((⟨0,0,0⟩:Amp):Amp)) from row_rep cAm _ ((⟨0,0,0⟩:Amp):Amp))]
 exact h
theorem p259_0_0 (u:Spl) (set:Int) (v1:List Amp) (i:Nat) (g1:Nat) (le:Ld) {E:Env} {rv:AV} (hE:Qf Try.prog 259 rv E) (ho:AllP [(decide ((i:Int)<(u.loads.length:Int)))=true,0≤(i:Int)∧(i:Int)<(u.loads.length:Int),((Qo u.loads).drop (0+(Int.toNat (i:Int))*4)).take 4=(QaU le),4≤4,(0:Int)≤(i:Int)∧(i:Int)≤((IntKind.bits .i64:Nat):Int),((bits .and .i64 (set / 2 ^ (Int.toNat (i:Int))) 1) == 0)=true,InR .i64 ((i:Int)+1)])
 (hg:G Try.prog E (Qaf Try.prog) ⟨([J,.int .i64 set,.ptr 0 0 0,J,J,.ptr 2 0 0]++jj 9 ([.rsl (Qo u.loads) 0 u.loads.length,.int .i64 (u.loads.length:Int),.int .i64 ((i:Int)+1)]++Js 33)),[⟨true,0,1,true,(qI u),false⟩,⟨true,g1,3,true,(XR v1),true⟩,⟨true,0,1,false,[.sl 1 g1 0 v1.length 3],false⟩]⟩):G Try.prog E (Qaf Try.prog) (f259S0 u set v1 i g1) :=
 Ql (n:=400) (ds:=[]) (cs:=[]) (live:=[1,2,5,15,16,17]) (m:=3) (evs:=[.b true,.ld (.agg (QaU le)),.b true,.stop]) (obs:=_) hE.2.1 (hE.nogh _) Qh (by kernel_rfl) ho hg
theorem p259_0_1 (u:Spl) (set:Int) (v1:List Amp) (i:Nat) (g1:Nat) (le:Ld) {E:Env} {rv:AV} (hE:Qf Try.prog 259 rv E) (ho:AllP [(decide ((i:Int)<(u.loads.length:Int)))=true,0≤(i:Int)∧(i:Int)<(u.loads.length:Int),((Qo u.loads).drop (0+(Int.toNat (i:Int))*4)).take 4=(QaU le),4≤4,(0:Int)≤(i:Int)∧(i:Int)≤((IntKind.bits .i64:Nat):Int),((bits .and .i64 (set / 2 ^ (Int.toNat (i:Int))) 1) == 0)=false]) (hup:UpF Try.prog (.clos 64 [] []) [.agg (qI u),.int .i64 le.board] (((up3 u u.boards.length le.board)).map argI))
 (hg:GX Try.prog E (VN Try.prog E (((up3 u u.boards.length le.board)).map argI) (.tmp 30)) (Vv Try.prog) ⟨(z259_3 set u i le),[⟨true,0,1,true,(qI u),false⟩,⟨true,g1,3,true,(XR v1),true⟩,⟨true,0,1,false,[.sl 1 g1 0 v1.length 3],false⟩,⟨true,0,1,true,(QaU le),false⟩]⟩):G Try.prog E (Qaf Try.prog) (f259S0 u set v1 i g1):=by
 refine Ql (K':=f259Kur0 Try.prog) (st':=⟨(z259_3 set u i le),[⟨true,0,1,true,(qI u),false⟩,⟨true,g1,3,true,(XR v1),true⟩,⟨true,0,1,false,[.sl 1 g1 0 v1.length 3],false⟩,⟨true,0,1,true,(QaU le),false⟩]⟩) (n:=400) (ds:=[]) (cs:=[]) (live:=[1,2,5,7,15,16,17,27,29]) (m:=4) (evs:=[.b true,.ld (.agg (QaU le)),.b false,.hold 3]) (obs:=_) hE.2.1 (hE.nogh _) Qh (by kernel_rfl) ho ?_
 exact upcall_stepA (fv:=(.clos 64 [] [])) (avs:=[.agg (qI u),.int .i64 le.board]) (K2:=Vv Try.prog) (d:=30) (by kernel_rfl) hup hg
theorem p259_0_2 (u:Spl) (set:Int) (v1:List Amp) (i:Nat) (g1:Nat) {E:Env} {res:AV} (hE:Qf Try.prog 259 res E) (ho:AllP [(decide ((i:Int)<(u.loads.length:Int)))=false,g1=g1])
 (hr:AvLe (.rsl (XR v1) 0 v1.length) res):G Try.prog E (Qaf Try.prog) (f259S0 u set v1 i g1) :=
 Qb (n:=400) (evs:=[.b false]) (obs:=_) hE Try.func259 Qh (by kernel_rfl) ho hr
theorem f259W0 (u:Spl) (set:Int) (v1:List Amp) (i:Nat) {E:Env} {rv:(List Amp)} (hE:Qf Try.prog 259 (.rsl (XR rv) 0 rv.length) E)
 (h:∀ g1:Nat,(((i:Int)<(u.loads.length:Int)→(∃ le:Ld,u.loads[i]?=some le∧(((0:Int)≤(i:Int)∧(i:Int)≤((IntKind.bits .i64:Nat):Int))∧(((bits .and .i64 (set / 2 ^ (Int.toNat (i:Int))) 1)=0→((I6 ((i:Int)+1))∧Qag E u set v1 (i+1)))∧(¬ ((bits .and .i64 (set / 2 ^ (Int.toNat (i:Int))) 1)=0)→(SplUp u∧le.board<(u.boards.length:Int))∧f259Gr0 E u set i le.board le.board le.phase le.amps le.rank (v1,g1))))))∧(¬ ((i:Int)<(u.loads.length:Int))→rv=v1))):Qag E u set v1 i:=by
 intro g1
 have h:=h g1
 rcases bft (decide ((i:Int)<(u.loads.length:Int))) with hc0 | hc0
 · have h:=h.1 (odt hc0)
   obtain ⟨le,h1,h⟩:=h
   obtain ⟨q5_1,h⟩:=h
   rcases bft ((bits .and .i64 (set / 2 ^ (Int.toNat (i:Int))) 1) == 0) with hc1 | hc1
   · have h:=h.1 (eq_of_beq hc1)
     obtain ⟨q7_2,h⟩:=h
     exact p259_0_0 u set v1 i g1 le hE ⟨hc0,(QE h1),(rp cLd 4 0 4 h1),(by decide),q5_1,hc1,q7_2,trivial⟩ (h g1)
   · have h:=h.2 (ne_of_beq_false hc1)
     exact p259_0_1 u set v1 i g1 le hE ⟨hc0,(QE h1),(rp cLd 4 0 4 h1),(by decide),q5_1,hc1,trivial⟩ (up3_ok u le.board h.1) h.2
 · have h:=h.2 (odf hc0)
   exact p259_0_2 u set v1 i g1 hE ⟨hc0,rfl,trivial⟩ (AvLe.of_eq (by rw [h]; try rfl))
theorem p259_r0e_0 (u:Spl) (set:Int) (v:Nat) (v1:Int) (v3_0:Int) (v3_1:Int) (v3_2:Int) (v3_3:Int) (s:List Amp × Nat) {E:Env} {rv:AV} (hE:Qf Try.prog 259 rv E) (ho:AllP [InR .i64 ((v:Int)+1)])
 (hg:G Try.prog E (Qaf Try.prog) ⟨([J,.int .i64 set,.ptr 0 0 0,J,J,.ptr 2 0 0]++jj 9 ([.rsl (Qo u.loads) 0 u.loads.length,.int .i64 (u.loads.length:Int),.int .i64 ((v:Int)+1)]++Js 33)),[⟨true,0,1,true,(qI u),false⟩,⟨true,s.2,3,true,(XR s.1),true⟩,⟨true,0,1,false,[.sl 1 s.2 0 s.1.length 3],false⟩]⟩):G Try.prog E (XY (Vv Try.prog)) (Ys u set v v1 v3_0 v3_1 v3_2 v3_3 s) :=
 Ql (n:=400) (ds:=[]) (cs:=[]) (live:=[1,2,5,15,16,17]) (m:=3) (evs:=[.stop]) (obs:=_) hE.2.1 (hE.nogh _) Qh (by kernel_rfl) ho hg
theorem f259Wr0e (u:Spl) (set:Int) (v:Nat) (v1:Int) (v3_0:Int) (v3_1:Int) (v3_2:Int) (v3_3:Int) (s:List Amp × Nat) {E:Env} {rv:(List Amp)} (hE:Qf Try.prog 259 (.rsl (XR rv) 0 rv.length) E)
 (h:((I6 ((v:Int)+1))∧Qag E u set s.1 (v+1))):G Try.prog E (XY (Vv Try.prog)) (Ys u set v v1 v3_0 v3_1 v3_2 v3_3 s):=by
 obtain ⟨q0_0,h⟩:=h
 exact p259_r0e_0 u set v v1 v3_0 v3_1 v3_2 v3_3 s hE ⟨q0_0,trivial⟩ (h s.2)
theorem f259Ar0 (u:Spl) (set:Int) (v:Nat) (v1:Int) (v3_0:Int) (v3_1:Int) (v3_2:Int) (v3_3:Int) (s:List Amp × Nat) (x:Int) {E:Env} (hE:RoundE (Ys u set v v1 v3_0 v3_1 v3_2 v3_3 s).tmps E) (hg:G Try.prog E [.beginRound,.code (QW (Vv Try.prog))] (Qae u set v v1 v3_0 v3_1 v3_2 v3_3 s x)):G Try.prog E [.code (YT (Vv Try.prog)),.beginRound,.code (QW (Vv Try.prog))] ⟨Wn (Ys u set v v1 v3_0 v3_1 v3_2 v3_3 s).tmps [31] (argI x),(Ys u set v v1 v3_0 v3_1 v3_2 v3_3 s).blks⟩ :=
 Ql (n:=400) (ds:=[]) (cs:=[]) (live:=[0,1,2,3,4,5,6,7,8,9,10,11,12,13,14,15,16,17,18,19,20,21,22,23,24,25,26,27,28,29,30,31,32,33,34,35,36,37,38,39,40,41,42,43,44,45,46,47,48,49,50]) (m:=4) (evs:=[]) (obs:=[]) hE.kind (by rw [hE.gA]; kernel_rfl) Qh (by kernel_rfl) trivial hg
theorem f259Br0_0 (u:Spl) (set:Int) (v:Nat) (v1:Int) (v3_0:Int) (v3_1:Int) (v3_2:Int) (v3_3:Int) (s:List Amp × Nat) (x:Int) (ae:Amp) {E:Env} (hE:RoundE (Ys u set v v1 v3_0 v3_1 v3_2 v3_3 s).tmps E) (ho:AllP [(x == (-1))=true,0≤(u.boards.length:Int)∧(u.boards.length:Int)<(s.1.length:Int),s.2=s.2,0≤v3_1∧v3_1<((3:Nat):Int),s.2=s.2,s.2=s.2,((XR s.1).drop ((0+(Int.toNat (u.boards.length:Int))*3)+(Int.toNat v3_1)*1)).take 1=[.int .i64 (Amp.at3 ae v3_1)],InR .i64 ((Amp.at3 ae v3_1)+v3_2),0≤(u.boards.length:Int)∧(u.boards.length:Int)<(s.1.length:Int),s.2=s.2,0≤v3_1∧v3_1<((3:Nat):Int),s.2=s.2,(((0+(Int.toNat (u.boards.length:Int))*3)+(Int.toNat v3_1)*1)+1)≤(XR s.1).length,s.2=s.2])
 (hg:G Try.prog E [] ⟨(Js 51),[⟨true,0,1,true,[.rsl (Qp u.boards) 0 u.boards.length,.rsl (Qo u.loads) 0 u.loads.length,.int .i64 u.power,.int .i64 u.hold,.int .i64 u.volts],false⟩,⟨true,s.2,3,true,(QT (XR s.1) ((0+(Int.toNat (u.boards.length:Int))*3)+(Int.toNat v3_1)*1) [.int .i64 ((Amp.at3 ae v3_1)+v3_2)]),true⟩,⟨true,0,1,false,[.sl 1 s.2 0 s.1.length 3],false⟩,⟨true,0,1,true,[.int .i64 v3_0,.int .i64 v3_1,.int .i64 v3_2,.int .i64 v3_3],false⟩]⟩):G Try.prog E [.code (QW (Vv Try.prog))] (Qae u set v v1 v3_0 v3_1 v3_2 v3_3 s x) :=
 Ql (n:=400) (ds:=[]) (cs:=[]) (live:=[]) (m:=4) (evs:=[.b true,.auto,.auto,.auto,.ld (.int .i64 (Amp.at3 ae v3_1))]) (obs:=_) hE.kind (by rw [hE.gA]; kernel_rfl) Qh (by kernel_rfl) ho hg
theorem f259Br0_1 (u:Spl) (set:Int) (v:Nat) (v1:Int) (v3_0:Int) (v3_1:Int) (v3_2:Int) (v3_3:Int) (s:List Amp × Nat) (x:Int) (ae:Amp) {E:Env} (hE:RoundE (Ys u set v v1 v3_0 v3_1 v3_2 v3_3 s).tmps E) (ho:AllP [(x == (-1))=false,0≤x∧x<(s.1.length:Int),s.2=s.2,0≤v3_1∧v3_1<((3:Nat):Int),s.2=s.2,s.2=s.2,((XR s.1).drop ((0+(Int.toNat x)*3)+(Int.toNat v3_1)*1)).take 1=[.int .i64 (Amp.at3 ae v3_1)],InR .i64 ((Amp.at3 ae v3_1)+v3_2),0≤x∧x<(s.1.length:Int),s.2=s.2,0≤v3_1∧v3_1<((3:Nat):Int),s.2=s.2,(((0+(Int.toNat x)*3)+(Int.toNat v3_1)*1)+1)≤(XR s.1).length,s.2=s.2])
 (hg:G Try.prog E [] ⟨(Js 51),[⟨true,0,1,true,[.rsl (Qp u.boards) 0 u.boards.length,.rsl (Qo u.loads) 0 u.loads.length,.int .i64 u.power,.int .i64 u.hold,.int .i64 u.volts],false⟩,⟨true,s.2,3,true,(QT (XR s.1) ((0+(Int.toNat x)*3)+(Int.toNat v3_1)*1) [.int .i64 ((Amp.at3 ae v3_1)+v3_2)]),true⟩,⟨true,0,1,false,[.sl 1 s.2 0 s.1.length 3],false⟩,⟨true,0,1,true,[.int .i64 v3_0,.int .i64 v3_1,.int .i64 v3_2,.int .i64 v3_3],false⟩]⟩):G Try.prog E [.code (QW (Vv Try.prog))] (Qae u set v v1 v3_0 v3_1 v3_2 v3_3 s x) :=
 Ql (n:=400) (ds:=[]) (cs:=[]) (live:=[]) (m:=4) (evs:=[.b false,.auto,.auto,.ld (.int .i64 (Amp.at3 ae v3_1))]) (obs:=_) hE.kind (by rw [hE.gA]; kernel_rfl) Qh (by kernel_rfl) ho hg
theorem f259Br0 (u:Spl) (set:Int) (v:Nat) (v1:Int) (v3_0:Int) (v3_1:Int) (v3_2:Int) (v3_3:Int) (s:List Amp × Nat) (x:Int) {rq:(List Amp × Nat) × Bool} {E:Env} (hE:RoundE (Ys u set v v1 v3_0 v3_1 v3_2 v3_3 s).tmps E) (hQ:qY (fun s=>(Ys u set v v1 v3_0 v3_1 v3_2 v3_3 s).blks) (.ret) rq E)
 (h:((x=(-1)→(∃ ae:Amp,s.1[u.boards.length]?=some ae∧((0≤v3_1∧v3_1<((3:Nat):Int))∧((I6 ((Amp.at3 ae v3_1)+v3_2))∧((0≤v3_1∧v3_1<((3:Nat):Int))∧rq=(((s.1.set u.boards.length (Amp.put3 ae v3_1 ((Amp.at3 ae v3_1)+v3_2))),s.2),true))))))∧(¬ (x=(-1))→(0≤x∧(∃ ae:Amp,s.1[Int.toNat x]?=some ae∧((0≤v3_1∧v3_1<((3:Nat):Int))∧((I6 ((Amp.at3 ae v3_1)+v3_2))∧((0≤v3_1∧v3_1<((3:Nat):Int))∧rq=(((s.1.set (Int.toNat x) (Amp.put3 ae v3_1 ((Amp.at3 ae v3_1)+v3_2))),s.2),true))))))))):G Try.prog E [.code (QW (Vv Try.prog))] (Qae u set v v1 v3_0 v3_1 v3_2 v3_3 s x):=by
 rcases bft (x == (-1)) with hc0 | hc0
 · have h:=h.1 (eq_of_beq hc0)
   obtain ⟨ae,h1,h⟩:=h
   obtain ⟨h2,h⟩:=h
   obtain ⟨q8_1,h⟩:=h
   obtain ⟨h3,h⟩:=h
   exact f259Br0_0 u set v v1 v3_0 v3_1 v3_2 v3_3 s x ae hE ⟨hc0,(QE h1),rfl,h2,rfl,rfl,(amp_ld h1 h2),q8_1,(QE h1),rfl,h3,rfl,(by exact amp_fits h1 h3),rfl,trivial⟩ (VF hQ h (by rw [(show QT (XR s.1) ((0+(Int.toNat (u.boards.length:Int))*3)+(Int.toNat v3_1)*1) [.int .i64 ((Amp.at3 ae v3_1)+v3_2)]=XR (s.1.set u.boards.length (Amp.put3 ae v3_1 ((Amp.at3 ae v3_1)+v3_2))) from amp_set h1 h3)]; first | rfl | (simp only [Ys,List.length_set])))
 · have h:=h.2 (ne_of_beq_false hc0)
   obtain ⟨h2,h⟩:=h
   obtain ⟨ae,h1,h⟩:=h
   obtain ⟨h3,h⟩:=h
   obtain ⟨q8_1,h⟩:=h
   obtain ⟨h4,h⟩:=h
   exact f259Br0_1 u set v v1 v3_0 v3_1 v3_2 v3_3 s x ae hE ⟨hc0,(Qx h2 h1),rfl,h3,rfl,rfl,(amp_ld h1 h3),q8_1,(Qx h2 h1),rfl,h4,rfl,(by exact amp_fits h1 h4),rfl,trivial⟩ (VF hQ h (by rw [(show QT (XR s.1) ((0+(Int.toNat x)*3)+(Int.toNat v3_1)*1) [.int .i64 ((Amp.at3 ae v3_1)+v3_2)]=XR (s.1.set (Int.toNat x) (Amp.put3 ae v3_1 ((Amp.at3 ae v3_1)+v3_2))) from amp_set h1 h4)]; first | rfl | (simp only [Ys,List.length_set])))
theorem f259Rr0 (u:Spl) (set:Int) (v:Nat) (v1:Int) (v3_0:Int) (v3_1:Int) (v3_2:Int) (v3_3:Int) (s0:List Amp × Nat) {E:Env} {rv:(List Amp)} (hE:Qf Try.prog 259 (.rsl (XR rv) 0 rv.length) E) (step:(List Amp × Nat)→(Int)→(List Amp × Nat))
 (h:True∧(∀ (i:Nat) (x:Int) (s:List Amp × Nat),(up3 u u.boards.length v1)[i]?=some x→s=((up3 u u.boards.length v1).take i).foldl step s0→((x=(-1)→(∃ ae:Amp,s.1[u.boards.length]?=some ae∧((0≤v3_1∧v3_1<((3:Nat):Int))∧((I6 ((Amp.at3 ae v3_1)+v3_2))∧((0≤v3_1∧v3_1<((3:Nat):Int))∧step s x=((s.1.set u.boards.length (Amp.put3 ae v3_1 ((Amp.at3 ae v3_1)+v3_2))),s.2))))))∧(¬ (x=(-1))→(0≤x∧(∃ ae:Amp,s.1[Int.toNat x]?=some ae∧((0≤v3_1∧v3_1<((3:Nat):Int))∧((I6 ((Amp.at3 ae v3_1)+v3_2))∧((0≤v3_1∧v3_1<((3:Nat):Int))∧step s x=((s.1.set (Int.toNat x) (Amp.put3 ae v3_1 ((Amp.at3 ae v3_1)+v3_2))),s.2)))))))))∧(∀ s:List Amp × Nat,s=(up3 u u.boards.length v1).foldl step s0→((I6 ((v:Int)+1))∧Qag E u set s.1 (v+1)))):f259Gr0 E u set v v1 v3_0 v3_1 v3_2 v3_3 s0:=by
 have hgA:E.gA=[]:=hE.2.2.2.2.1
 have hT:(Ys u set v v1 v3_0 v3_1 v3_2 v3_3 s0).tmps++E.gA=(Ys u set v v1 v3_0 v3_1 v3_2 v3_3 s0).tmps:=by rw [hgA,List.append_nil]
 refine KG (σ:=List Amp × Nat) (X:=Int) (arg:=argI) (L:=(up3 u u.boards.length v1)) (jump:=.ret) (g:=.tmp 30) (ps:=#[31]) (fun s=>(Ys u set v v1 v3_0 v3_1 v3_2 v3_3 s).blks) (fun s x=>(Qae u set v v1 v3_0 v3_1 v3_2 v3_3 s x)) (fun s x=>(step s x,true)) s0 hE.1 hE.2.1 (by kernel_rfl) rfl (fun x=>rfl) (fun s x E' hR hg=>?_) (fun i x s hx hs E' hR hQ=>?_) (fun s hs=>?_) (fun s hs=>?_)
 · rw [hT] at hR; exact f259Ar0 u set v v1 v3_0 v3_1 v3_2 v3_3 s x hR hg
 · rw [hT] at hR; rw [Wt] at hs; simp only [Prod.mk.injEq,and_true] at hs; refine f259Br0 u set v v1 v3_0 v3_1 v3_2 v3_3 s x hR hQ ?_
   have h:=h.2.1 i x s hx hs.symm
   simpa only [Prod.mk.injEq,and_true] using h
 · rw [Wt] at hs; simp only [Prod.mk.injEq,and_true] at hs; exact f259Wr0e u set v v1 v3_0 v3_1 v3_2 v3_3 s hE (h.2.2 s hs.symm)
 · rw [Wt] at hs; simp at hs
theorem Qao (u:Spl) (set:Int) (h:Wk u=true):Pure Try.prog 259 [.agg [.rsl (Qp u.boards) 0 u.boards.length,.rsl (Qo u.loads) 0 u.loads.length,.int .i64 u.power,.int .i64 u.hold,.int .i64 u.volts],.int .i64 set] (.rsl (XR (XZ u set)) 0 (XZ u set).length):=Qv Try.func259 f259b fun E hE=>by
 have hp:=spl_p h
 have hn:=hp.n
 have hm:=hp.m
 have key:∀ (d i:Nat) (v:List Amp),i+d=u.loads.length→v.length=u.boards.length+1→(∀ t ∈ v,qG (11000*(i:Int)) t)→curGo u set (u.loads.drop i) i v=XZ u set→Qag E u set v i:=by
  intro d
  induction d with
  | zero =>
   intro i v hi hl hv hr
   rw [List.drop_eq_nil_of_le (by omega)] at hr
   exact f259W0 u set v i (rv:=XZ u set) hE fun g1=>⟨fun h=>by omega,fun _=>hr.symm⟩
  | succ d ih =>
   intro i v hi hl hv hr
   have hx:u.loads[i]?=some (u.loads[i]'(by omega)):=List.getElem?_eq_getElem (by omega)
   rw [List.drop_eq_getElem_cons (by omega)] at hr
   generalize u.loads[i]'(by omega)=x at hx hr
   have hxl:=hp.l x (List.mem_of_getElem? hx)
   have nx:=ih (i+1) (curL u set i x v) (by omega) (curL_in (set:=set) (i:=i) hp.up hxl.2.2 hxl.1.2 hn hl hv).1 (fun t ht=>Yl ((curL_in (set:=set) (i:=i) hp.up hxl.2.2 hxl.1.2 hn hl hv).2 t ht) (by omega)) hr
   unfold curL at nx
   refine f259W0 u set v i (rv:=XZ u set) hE fun g1=>⟨fun _=>⟨x,hx,⟨by omega,by simp only [IntKind.bits]; omega⟩,fun q=>⟨⟨by omega,by omega⟩,?_⟩,fun q=>⟨⟨hp.up,hxl.1.2⟩,f259Rr0 u set i x.board x.board x.phase x.amps x.rank (v,g1) (rv:=XZ u set) hE (stepC u x) ⟨trivial,fun j b s hj hs=>?_,fun s hs=>⟨⟨by omega,by omega⟩,?_⟩⟩⟩⟩,fun h=>by omega⟩
   · rw [if_pos q] at nx; exact nx
   · rw [yc] at hs
     have mem:=up3_mem hp.up u.boards.length x.board hxl.1.2
     have hb:=mem b (List.mem_of_getElem? hj)
     have c:=curF_in (u:=u) hxl.2.2 ((up3 u u.boards.length x.board).take j) v (11000*(i:Int)) hl (fun b hb=>mem b (List.mem_of_mem_take hb)) hv
     have e1:s.1=((up3 u u.boards.length x.board).take j).foldl (curB u x) v:=by rw [hs]
     rw [← e1] at c
     have l1:=up3_len u u.boards.length x.board
     have l2:((up3 u u.boards.length x.board).take j).length≤(up3 u u.boards.length x.board).length:=by rw [List.length_take]; omega
     have hix:=curIx_in (u:=u) hb
     have gx:=Xx (l:=s.1) ⟨0,0,0⟩ (i:=Qap u b) (by rw [c.1]; omega)
     have ha:=ampIn_at (c.2 _ (List.mem_of_getElem? gx)) x.phase
     refine ⟨fun q2=>⟨s.1.getD u.boards.length ⟨0,0,0⟩,?_,⟨by omega,by omega⟩,⟨?_,?_⟩,⟨by omega,by omega⟩,?_⟩,fun q2=>⟨by omega,s.1.getD (Int.toNat b) ⟨0,0,0⟩,?_,⟨by omega,by omega⟩,⟨?_,?_⟩,⟨by omega,by omega⟩,?_⟩⟩
     all_goals (unfold Qap at gx ha)
     · rw [if_pos q2,Int.toNat_natCast] at gx; exact gx
     · rw [if_pos q2,Int.toNat_natCast] at ha; omega
     · rw [if_pos q2,Int.toNat_natCast] at ha; omega
     · unfold stepC curB Qap; rw [if_pos q2,Int.toNat_natCast]
     · rw [if_neg q2] at gx; exact gx
     · rw [if_neg q2] at ha; omega
     · rw [if_neg q2] at ha; omega
     · unfold stepC curB Qap; rw [if_neg q2]
   · rw [yc] at hs
     rw [if_neg q] at nx
     rw [hs]; exact nx
 refine f259W u set (rv:=XZ u set) hE ⟨⟨by omega,by omega⟩,by omega,key u.loads.length 0 _ (by omega) (by simp) (fun t ht=>?_) rfl⟩
 have:=(List.mem_replicate.1 ht).2
 subst this
 exact ⟨⟨by decide,by simp⟩,⟨by decide,by simp⟩,⟨by decide,by simp⟩⟩
theorem f260b:Try.f260.body=some (Qd Try.prog 260):=by kernel_rfl
theorem u260 {a c k:List AV} {r:AV} (h:Pure Try.prog 260 (a++c++k) r):Qe Try.prog (.clos 260 a k) c r:=Qj Try.func260 (by kernel_rfl) f260b h
theorem p260_start_0 (t:Amp) {E:Env} {res:AV} (hE:Qf Try.prog 260 res E) (ho:AllP [(0:Int)≤0∧(0:Int)<((3:Nat):Int),(0:Int)≤1∧(1:Int)<((3:Nat):Int),(0:Int)≤2∧(2:Int)<((3:Nat):Int)])
 (hr:AvLe (.int .i64 (iMax (iMax t.a t.b) t.c)) res):G Try.prog E [.code (Qd Try.prog 260)] ⟨[.agg [.int .i64 t.a,.int .i64 t.b,.int .i64 t.c]]++unds (Try.f260.ntmps - 1),[]⟩ :=
 Qb (n:=400) (evs:=[]) (obs:=_) hE Try.func260 Qh (by kernel_rfl) ho hr
theorem f260W (t:Amp) {E:Env} {rv:Int} (hE:Qf Try.prog 260 (.int .i64 rv) E)
 (h:rv=(iMax (iMax t.a t.b) t.c)):G Try.prog E [.code (Qd Try.prog 260)] ⟨[.agg [.int .i64 t.a,.int .i64 t.b,.int .i64 t.c]]++unds (Try.f260.ntmps - 1),[]⟩:=by
 exact p260_start_0 t hE ⟨(⟨by decide,by decide⟩),(⟨by decide,by decide⟩),(⟨by decide,by decide⟩),trivial⟩ (AvLe.of_eq (by rw [h]; try rfl))
theorem f261b:Try.f261.body=some (Qd Try.prog 261):=by kernel_rfl
theorem u261 {a c k:List AV} {r:AV} (h:Pure Try.prog 261 (a++c++k) r):Qe Try.prog (.clos 261 a k) c r:=Qj Try.func261 (by kernel_rfl) f261b h
abbrev z261_1 (u:Spl) (b:Int):List AV:=[.agg [.rsl (Qp u.boards) 0 u.boards.length,.rsl (Qo u.loads) 0 u.loads.length,.int .i64 u.power,.int .i64 u.hold,.int .i64 u.volts],.int .i64 b]
theorem p261_start_0 (u:Spl) (b:Int) {E:Env} {res:AV} (hE:Qf Try.prog 261 res E) (ho:AllP [(b == (u.boards.length:Int))=true,true=true])
 (hr:AvLe (.int .i64 u.power) res):G Try.prog E [.code (Qd Try.prog 261)] ⟨(z261_1 u b)++unds (Try.f261.ntmps - 2),[]⟩ :=
 Qb (n:=400) (evs:=[.b true,.b true]) (obs:=_) hE Try.func261 Qh (by kernel_rfl) ho hr
theorem p261_start_1 (u:Spl) (b:Int) {E:Env} {res:AV} (hE:Qf Try.prog 261 res E) (ho:AllP [(b == (u.boards.length:Int))=false,(b == (-1))=true])
 (hr:AvLe (.int .i64 u.power) res):G Try.prog E [.code (Qd Try.prog 261)] ⟨(z261_1 u b)++unds (Try.f261.ntmps - 2),[]⟩ :=
 Qb (n:=400) (evs:=[.b false,.b true]) (obs:=_) hE Try.func261 Qh (by kernel_rfl) ho hr
theorem p261_start_2 (u:Spl) (b:Int) (be:Bo) {E:Env} {res:AV} (hE:Qf Try.prog 261 res E) (ho:AllP [(b == (u.boards.length:Int))=false,(b == (-1))=false,0≤b∧b<(u.boards.length:Int),((Qp u.boards).drop ((0+(Int.toNat b)*4)+1)).take 1=[.int .i64 be.rating]])
 (hr:AvLe (.int .i64 be.rating) res):G Try.prog E [.code (Qd Try.prog 261)] ⟨(z261_1 u b)++unds (Try.f261.ntmps - 2),[]⟩ :=
 Qb (n:=400) (evs:=[.b false,.b false,.auto,.ld (.int .i64 be.rating)]) (obs:=_) hE Try.func261 Qh (by kernel_rfl) ho hr
theorem f261W (u:Spl) (b:Int) {E:Env} {rv:Int} (hE:Qf Try.prog 261 (.int .i64 rv) E)
 (h:((b=(u.boards.length:Int)→rv=u.power)∧(¬ (b=(u.boards.length:Int))→((b=(-1)→rv=u.power)∧(¬ (b=(-1))→(0≤b∧(∃ be:Bo,u.boards[Int.toNat b]?=some be∧rv=be.rating))))))):G Try.prog E [.code (Qd Try.prog 261)] ⟨[.agg [.rsl (Qp u.boards) 0 u.boards.length,.rsl (Qo u.loads) 0 u.loads.length,.int .i64 u.power,.int .i64 u.hold,.int .i64 u.volts],.int .i64 b]++unds (Try.f261.ntmps - 2),[]⟩:=by
 rcases bft (b == (u.boards.length:Int)) with hc0 | hc0
 · have h:=h.1 (eq_of_beq hc0)
   exact p261_start_0 u b hE ⟨hc0,rfl,trivial⟩ (AvLe.of_eq (by rw [h]; try rfl))
 · have h:=h.2 (ne_of_beq_false hc0)
   rcases bft (b == (-1)) with hc1 | hc1
   · have h:=h.1 (eq_of_beq hc1)
     exact p261_start_1 u b hE ⟨hc0,hc1,trivial⟩ (AvLe.of_eq (by rw [h]; try rfl))
   · have h:=h.2 (ne_of_beq_false hc1)
     obtain ⟨h2,h⟩:=h
     obtain ⟨be,h1,h⟩:=h
     exact p261_start_2 u b be hE ⟨hc0,hc1,(Qx h2 h1),(rp cBo 4 1 1 h1),trivial⟩ (AvLe.of_eq (by rw [h]; try rfl))
theorem QcM (t:Amp):Pure Try.prog 260 [.agg (cAm t)] (.int .i64 (VC t)):=Qv Try.func260 f260b fun E hE=>f260W t (rv:=VC t) hE rfl
theorem bears_ok3 (u:Spl) (b:Int) (h:b=-1 ∨ (0≤b∧b≤(u.boards.length:Int))):Pure Try.prog 261 [.agg [.rsl (Qp u.boards) 0 u.boards.length,.rsl (Qo u.loads) 0 u.loads.length,.int .i64 u.power,.int .i64 u.hold,.int .i64 u.volts],.int .i64 b] (.int .i64 (qF u b)):=Qv Try.func261 f261b fun E hE=>by
 refine f261W u b (rv:=qF u b) hE ⟨fun q=>?_,fun q=>⟨fun q2=>?_,fun q2=>⟨by omega,_,Xx bo0 (by omega),?_⟩⟩⟩
 · unfold qF; rw [if_pos q]
 · unfold qF; rw [if_neg q,if_pos q2]
 · unfold qF; rw [if_neg q,if_neg q2]; rfl
theorem f218b:Try.f218.body=some (Qd Try.prog 218):=by kernel_rfl
theorem u218 {a c k:List AV} {r:AV} (h:Pure Try.prog 218 (a++c++k) r):Qe Try.prog (.clos 218 a k) c r:=Qj Try.func218 (by kernel_rfl) f218b h
def Qbt (P:Program):List Item:=kAt 400 [.code (Qd P 218)] [.b false,.stop]
def f218S0 (u:Spl) (set:Int) (i:Nat):St:=⟨([J,J,.ptr 0 0 0,J,J,J,.rsl (XR (XZ u set)) 0 ((XZ u set).length)]++jj 16 ([.int .i64 (u.boards.length:Int),.int .i64 (i:Int)]++Js 13)),[⟨true,0,1,true,[.rsl (Qp u.boards) 0 u.boards.length,.rsl (Qo u.loads) 0 u.loads.length,.int .i64 u.power,.int .i64 u.hold,.int .i64 u.volts],false⟩]⟩
def f218G0 (E:Env) (u:Spl) (set:Int) (i:Nat):Prop:=G Try.prog E (Qbt Try.prog) (f218S0 u set i )
abbrev yJ (u:Spl):List AV:=[.rsl (Qp u.boards) 0 u.boards.length,.rsl (Qo u.loads) 0 u.loads.length,.int .i64 u.power,.int .i64 u.hold,.int .i64 u.volts]
abbrev WC (ae:Amp):List AV:=[.int .i64 ae.a,.int .i64 ae.b,.int .i64 ae.c]
theorem p218_start_0 (u:Spl) (set:Int) (ae:Amp) {E:Env} {res:AV} (hE:Qf Try.prog 218 res E) (ho:AllP [Qe Try.prog (.clos 259 [] []) [.agg (yJ u),.int .i64 set] (.rsl (XR (XZ u set)) 0 ((XZ u set).length)),0≤(u.boards.length:Int)∧(u.boards.length:Int)<(((XZ u set).length:Nat):Int),((XR (XZ u set)).drop (0+(Int.toNat (u.boards.length:Int))*3)).take 3=(WC ae),Qe Try.prog (.clos 260 [] []) [.agg (WC ae)] (.int .i64 (VC ae)),(decide ((VC ae) > u.power))=true])
 (hr:AvLe (.tup [.int .i64 (-1),.bool true]) res):G Try.prog E [.code (Qd Try.prog 218)] ⟨[.agg (yJ u),.int .i64 set]++unds (Try.f218.ntmps - 2),[]⟩ :=
 Qb (n:=400) (evs:=[.v (.rsl (XR (XZ u set)) 0 ((XZ u set).length)),.auto,.ld (.agg (WC ae)),.v (.int .i64 (VC ae)),.b true]) (obs:=_) hE Try.func218 Qh (by kernel_rfl) ho hr
theorem p218_start_1 (u:Spl) (set:Int) (ae:Amp) {E:Env} {rv:AV} (hE:Qf Try.prog 218 rv E) (ho:AllP [Qe Try.prog (.clos 259 [] []) [.agg (yJ u),.int .i64 set] (.rsl (XR (XZ u set)) 0 ((XZ u set).length)),0≤(u.boards.length:Int)∧(u.boards.length:Int)<(((XZ u set).length:Nat):Int),((XR (XZ u set)).drop (0+(Int.toNat (u.boards.length:Int))*3)).take 3=(WC ae),Qe Try.prog (.clos 260 [] []) [.agg (WC ae)] (.int .i64 (VC ae)),(decide ((VC ae) > u.power))=false])
 (hg:G Try.prog E (Qbt Try.prog) ⟨([J,J,.ptr 0 0 0,J,J,J,.rsl (XR (XZ u set)) 0 ((XZ u set).length)]++jj 16 ([.int .i64 (u.boards.length:Int),.int .i64 0]++Js 13)),[⟨true,0,1,true,(yJ u),false⟩]⟩):G Try.prog E [.code (Qd Try.prog 218)] ⟨[.agg (yJ u),.int .i64 set]++unds (Try.f218.ntmps - 2),[]⟩ :=
 Ql (n:=400) (ds:=[]) (cs:=[]) (live:=[2,6,23,24]) (m:=1) (evs:=[.v (.rsl (XR (XZ u set)) 0 ((XZ u set).length)),.auto,.ld (.agg (WC ae)),.v (.int .i64 (VC ae)),.b false,.stop]) (obs:=_) hE.2.1 (hE.nogh _) Qh (by kernel_rfl) ho hg
theorem f218W (u:Spl) (set:Int) {E:Env} {rv:(Int × Bool)} (hE:Qf Try.prog 218 (.tup [.int .i64 rv.1,.bool rv.2]) E)
 (h:((Wk u=true)∧(∃ ae:Amp,(XZ u set)[u.boards.length]?=some ae∧(((VC ae) > u.power→rv=((-1),true))∧(¬ ((VC ae) > u.power)→f218G0 E u set 0))))):G Try.prog E [.code (Qd Try.prog 218)] ⟨[.agg [.rsl (Qp u.boards) 0 u.boards.length,.rsl (Qo u.loads) 0 u.loads.length,.int .i64 u.power,.int .i64 u.hold,.int .i64 u.volts],.int .i64 set]++unds (Try.f218.ntmps - 2),[]⟩:=by
 obtain ⟨h1,h⟩:=h
 obtain ⟨ae,h2,h⟩:=h
 rcases bft (decide ((VC ae) > u.power)) with hc0 | hc0
 · have h:=h.1 (odt hc0)
   exact p218_start_0 u set ae hE ⟨(u259 (Qao u set h1)),(QE h2),(rp cAm 3 0 3 h2),(u260 (QcM ae)),hc0,trivial⟩ (AvLe.of_eq (by rw [h]; try rfl))
 · have h:=h.2 (odf hc0)
   exact p218_start_1 u set ae hE ⟨(u259 (Qao u set h1)),(QE h2),(rp cAm 3 0 3 h2),(u260 (QcM ae)),hc0,trivial⟩ h
theorem p218_0_0 (u:Spl) (set:Int) (i:Nat) (ae:Amp) {E:Env} {res:AV} (hE:Qf Try.prog 218 res E) (ho:AllP [(decide ((i:Int)<(u.boards.length:Int)))=true,0≤(i:Int)∧(i:Int)<(((XZ u set).length:Nat):Int),((XR (XZ u set)).drop (0+(Int.toNat (i:Int))*3)).take 3=(WC ae),Qe Try.prog (.clos 260 [] []) [.agg (WC ae)] (.int .i64 (VC ae)),Qe Try.prog (.clos 261 [] []) [.agg (yJ u),.int .i64 (i:Int)] (.int .i64 (qF u (i:Int))),(decide ((VC ae) > (qF u (i:Int))))=true])
 (hr:AvLe (.tup [.int .i64 (i:Int),.bool true]) res):G Try.prog E (Qbt Try.prog) (f218S0 u set i ) :=
 Qb (n:=400) (evs:=[.b true,.ld (.agg (WC ae)),.v (.int .i64 (VC ae)),.v (.int .i64 (qF u (i:Int))),.b true]) (obs:=_) hE Try.func218 Qh (by kernel_rfl) ho hr
theorem p218_0_1 (u:Spl) (set:Int) (i:Nat) (ae:Amp) {E:Env} {rv:AV} (hE:Qf Try.prog 218 rv E) (ho:AllP [(decide ((i:Int)<(u.boards.length:Int)))=true,0≤(i:Int)∧(i:Int)<(((XZ u set).length:Nat):Int),((XR (XZ u set)).drop (0+(Int.toNat (i:Int))*3)).take 3=(WC ae),Qe Try.prog (.clos 260 [] []) [.agg (WC ae)] (.int .i64 (VC ae)),Qe Try.prog (.clos 261 [] []) [.agg (yJ u),.int .i64 (i:Int)] (.int .i64 (qF u (i:Int))),(decide ((VC ae) > (qF u (i:Int))))=false,InR .i64 ((i:Int)+1)])
 (hg:G Try.prog E (Qbt Try.prog) ⟨([J,J,.ptr 0 0 0,J,J,J,.rsl (XR (XZ u set)) 0 ((XZ u set).length)]++jj 16 ([.int .i64 (u.boards.length:Int),.int .i64 ((i:Int)+1)]++Js 13)),[⟨true,0,1,true,(yJ u),false⟩]⟩):G Try.prog E (Qbt Try.prog) (f218S0 u set i ) :=
 Ql (n:=400) (ds:=[]) (cs:=[]) (live:=[2,6,23,24]) (m:=1) (evs:=[.b true,.ld (.agg (WC ae)),.v (.int .i64 (VC ae)),.v (.int .i64 (qF u (i:Int))),.b false,.stop]) (obs:=_) hE.2.1 (hE.nogh _) Qh (by kernel_rfl) ho hg
theorem p218_0_2 (u:Spl) (set:Int) (i:Nat) {E:Env} {res:AV} (hE:Qf Try.prog 218 res E) (ho:AllP [(decide ((i:Int)<(u.boards.length:Int)))=false])
 (hr:AvLe (.tup [.int .i64 0,.bool false]) res):G Try.prog E (Qbt Try.prog) (f218S0 u set i ) :=
 Qb (n:=400) (evs:=[.b false]) (obs:=_) hE Try.func218 Qh (by kernel_rfl) ho hr
theorem f218W0 (u:Spl) (set:Int) (i:Nat) {E:Env} {rv:(Int × Bool)} (hE:Qf Try.prog 218 (.tup [.int .i64 rv.1,.bool rv.2]) E)
 (h:(((i:Int)<(u.boards.length:Int)→(∃ ae:Amp,(XZ u set)[i]?=some ae∧(((i:Int)=-1 ∨ (0≤(i:Int)∧(i:Int)≤(u.boards.length:Int)))∧(((VC ae) > (qF u (i:Int))→rv=((i:Int),true))∧(¬ ((VC ae) > (qF u (i:Int)))→((I6 ((i:Int)+1))∧f218G0 E u set (i+1)))))))∧(¬ ((i:Int)<(u.boards.length:Int))→rv=(0,false)))):f218G0 E u set i:=by
 rcases bft (decide ((i:Int)<(u.boards.length:Int))) with hc0 | hc0
 · have h:=h.1 (odt hc0)
   obtain ⟨ae,h1,h⟩:=h
   obtain ⟨h2,h⟩:=h
   rcases bft (decide ((VC ae) > (qF u (i:Int)))) with hc1 | hc1
   · have h:=h.1 (odt hc1)
     exact p218_0_0 u set i ae hE ⟨hc0,(QE h1),(rp cAm 3 0 3 h1),(u260 (QcM ae)),(u261 (bears_ok3 u (i:Int) h2)),hc1,trivial⟩ (AvLe.of_eq (by rw [h]; try rfl))
   · have h:=h.2 (odf hc1)
     obtain ⟨q7_2,h⟩:=h
     exact p218_0_1 u set i ae hE ⟨hc0,(QE h1),(rp cAm 3 0 3 h1),(u260 (QcM ae)),(u261 (bears_ok3 u (i:Int) h2)),hc1,q7_2,trivial⟩ h
 · have h:=h.2 (odf hc0)
   exact p218_0_2 u set i hE ⟨hc0,trivial⟩ (AvLe.of_eq (by rw [h]; try rfl))
theorem f258b:Try.f258.body=some (Qd Try.prog 258):=by kernel_rfl
theorem u258 {a c k:List AV} {r:AV} (h:Pure Try.prog 258 (a++c++k) r):Qe Try.prog (.clos 258 a k) c r:=Qj Try.func258 (by kernel_rfl) f258b h
theorem p258_start_0 (u:Spl) (set:Int) {E:Env} {res:AV} (hE:Qf Try.prog 258 res E) (ho:AllP [InR .i64 (1*2 ^ (Int.toNat (u.loads.length:Int))),(0:Int)≤(u.loads.length:Int)∧(u.loads.length:Int)≤((IntKind.bits .i64:Nat):Int),InR .i64 ((1*2 ^ (Int.toNat (u.loads.length:Int))) - 1),Qe Try.prog (.clos 131 [] []) [.int .i64 set,.int .i64 0,.int .i64 ((1*2 ^ (Int.toNat (u.loads.length:Int))) - 1)] (.bool (Qa set 0 ((1*2 ^ (Int.toNat (u.loads.length:Int))) - 1)))])
 (hr:AvLe (.bool (Qa set 0 ((1*2 ^ (Int.toNat (u.loads.length:Int))) - 1))) res):G Try.prog E [.code (Qd Try.prog 258)] ⟨[.agg [.rsl (Qp u.boards) 0 u.boards.length,.rsl (Qo u.loads) 0 u.loads.length,.int .i64 u.power,.int .i64 u.hold,.int .i64 u.volts],.int .i64 set]++unds (Try.f258.ntmps - 2),[]⟩ :=
 Qb (n:=400) (evs:=[.v (.bool (Qa set 0 ((1*2 ^ (Int.toNat (u.loads.length:Int))) - 1)))]) (obs:=_) hE Try.func258 Qh (by kernel_rfl) ho hr
theorem f258W (u:Spl) (set:Int) {E:Env} {rv:Bool} (hE:Qf Try.prog 258 (.bool rv) E)
 (h:((I6 ((1*2 ^ (Int.toNat (u.loads.length:Int)):Int)))∧(((0:Int)≤(u.loads.length:Int)∧(u.loads.length:Int)≤((IntKind.bits .i64:Nat):Int))∧((I6 (((1*2 ^ (Int.toNat (u.loads.length:Int))) - 1:Int)))∧rv=(Qa set 0 ((1*2 ^ (Int.toNat (u.loads.length:Int))) - 1)))))):G Try.prog E [.code (Qd Try.prog 258)] ⟨[.agg [.rsl (Qp u.boards) 0 u.boards.length,.rsl (Qo u.loads) 0 u.loads.length,.int .i64 u.power,.int .i64 u.hold,.int .i64 u.volts],.int .i64 set]++unds (Try.f258.ntmps - 2),[]⟩:=by
 obtain ⟨q0_0,h⟩:=h
 obtain ⟨q1_0,h⟩:=h
 obtain ⟨q2_0,h⟩:=h
 exact p258_start_0 u set hE ⟨q0_0,q1_0,q2_0,(u131 (Qw set 0 ((1*2 ^ (Int.toNat (u.loads.length:Int))) - 1))),trivial⟩ (AvLe.of_eq (by rw [h]; try rfl))
theorem over_ok (u:Spl) (set:Int) (h:Wk u=true):Pure Try.prog 218 [.agg [.rsl (Qp u.boards) 0 u.boards.length,.rsl (Qo u.loads) 0 u.loads.length,.int .i64 u.power,.int .i64 u.hold,.int .i64 u.volts],.int .i64 set] (.tup [.int .i64 (WG u set).1,.bool (WG u set).2]):=Qv Try.func218 f218b fun E hE=>by
 have hp:=spl_p h
 have hn:=hp.n
 have hc:=(curr_in (set:=set) hp).1
 have g1:=Xx (l:=XZ u set) ⟨0,0,0⟩ (i:=(u.boards.length:Int)) (by omega)
 rw [Int.toNat_natCast] at g1
 refine f218W u set (rv:=WG u set) hE ⟨h,_,g1,fun q=>?_,fun q=>?_⟩
 · unfold WG; rw [if_pos q]
 have key:∀ (d i:Nat),i+d=u.boards.length→ovGo u (XZ u set) d i=WG u set→f218G0 E u set i:=by
  intro d
  induction d with
  | zero =>
   intro i hi hr
   exact f218W0 u set i (rv:=WG u set) hE ⟨fun h=>by omega,fun _=>hr.symm⟩
  | succ d ih =>
   intro i hi hr
   have g2:=Xx (l:=XZ u set) ⟨0,0,0⟩ (i:=(i:Int)) (by omega)
   rw [Int.toNat_natCast] at g2
   unfold ovGo at hr
   refine f218W0 u set i (rv:=WG u set) hE ⟨fun _=>⟨_,g2,.inr ⟨by omega,by omega⟩,fun q2=>?_,fun q2=>⟨⟨by omega,by omega⟩,ih (i+1) (by omega) ?_⟩⟩,fun h=>by omega⟩
   · rw [if_pos q2] at hr; exact hr.symm
   · rw [if_neg q2] at hr; exact hr
 refine key u.boards.length 0 (by omega) ?_
 unfold WG; rw [if_neg q]
theorem pow16 {n:Nat} (h:n≤16):(1:Int)≤1*2 ^ (Int.toNat (n:Int))∧(1:Int)*2 ^ (Int.toNat (n:Int))≤65536:=by
 rw [Int.toNat_natCast]
 have h1:2 ^ n≤2 ^ 16:=Nat.pow_le_pow_right (by decide) h
 have h2:0<2 ^ n:=Nat.pow_pos (by decide)
 have e:(2:Int) ^ n=((2 ^ n:Nat):Int):=by simp
 rw [e]
 have h3:(2 ^ 16:Nat)=65536:=by decide
 omega
theorem sets_ok (u:Spl) (set:Int) (h:u.loads.length≤16):Pure Try.prog 258 [.agg [.rsl (Qp u.boards) 0 u.boards.length,.rsl (Qo u.loads) 0 u.loads.length,.int .i64 u.power,.int .i64 u.hold,.int .i64 u.volts],.int .i64 set] (.bool (Qa set 0 ((1*2 ^ (Int.toNat (u.loads.length:Int))) - 1))):=Qv Try.func258 f258b fun E hE=>by
 have hp:=pow16 h
 exact f258W u set hE ⟨⟨by omega,by omega⟩,⟨by omega,by simp only [IntKind.bits]; omega⟩,⟨by omega,by omega⟩,rfl⟩
theorem f217b:Try.f217.body=some (Qd Try.prog 217):=by kernel_rfl
theorem u217 {a c k:List AV} {r:AV} (h:Pure Try.prog 217 (a++c++k) r):Qe Try.prog (.clos 217 a k) c r:=Qj Try.func217 (by kernel_rfl) f217b h
abbrev yK (u:Spl):List AV:=[.rsl (Qp u.boards) 0 u.boards.length,.rsl (Qo u.loads) 0 u.loads.length,.int .i64 u.power,.int .i64 u.hold,.int .i64 u.volts]
abbrev z217_2 (set:Int) (u:Spl):AV:=.bool (Qa set 0 ((1*2 ^ (Int.toNat (u.loads.length:Int))) - 1))
theorem p217_start_0 (u:Spl) (set:Int) {E:Env} {res:AV} (hE:Qf Try.prog 217 res E) (ho:AllP [Qe Try.prog (.clos 61 [] []) [.agg (yK u)] (.int .i64 (splE u)),((splE u) != 0)=true])
 (hr:AvLe (.int .i64 (splE u)) res):G Try.prog E [.code (Qd Try.prog 217)] ⟨[.agg (yK u),.int .i64 set]++unds (Try.f217.ntmps - 2),[]⟩ :=
 Qb (n:=400) (evs:=[.v (.int .i64 (splE u)),.b true]) (obs:=_) hE Try.func217 Qh (by kernel_rfl) ho hr
theorem p217_start_1 (u:Spl) (set:Int) {E:Env} {res:AV} (hE:Qf Try.prog 217 res E) (ho:AllP [Qe Try.prog (.clos 61 [] []) [.agg (yK u)] (.int .i64 (splE u)),((splE u) != 0)=false,Qe Try.prog (.clos 258 [] []) [.agg (yK u),.int .i64 set] (z217_2 set u),(!(Qa set 0 ((1*2 ^ (Int.toNat (u.loads.length:Int))) - 1)))=true])
 (hr:AvLe (.int .i64 1) res):G Try.prog E [.code (Qd Try.prog 217)] ⟨[.agg (yK u),.int .i64 set]++unds (Try.f217.ntmps - 2),[]⟩ :=
 Qb (n:=400) (evs:=[.v (.int .i64 (splE u)),.b false,.v (z217_2 set u),.b true]) (obs:=_) hE Try.func217 Qh (by kernel_rfl) ho hr
theorem p217_start_2 (u:Spl) (set:Int) {E:Env} {res:AV} (hE:Qf Try.prog 217 res E) (ho:AllP [Qe Try.prog (.clos 61 [] []) [.agg (yK u)] (.int .i64 (splE u)),((splE u) != 0)=false,Qe Try.prog (.clos 258 [] []) [.agg (yK u),.int .i64 set] (z217_2 set u),(!(Qa set 0 ((1*2 ^ (Int.toNat (u.loads.length:Int))) - 1)))=false])
 (hr:AvLe (.int .i64 0) res):G Try.prog E [.code (Qd Try.prog 217)] ⟨[.agg (yK u),.int .i64 set]++unds (Try.f217.ntmps - 2),[]⟩ :=
 Qb (n:=400) (evs:=[.v (.int .i64 (splE u)),.b false,.v (z217_2 set u),.b false]) (obs:=_) hE Try.func217 Qh (by kernel_rfl) ho hr
theorem f217W (u:Spl) (set:Int) {E:Env} {rv:Int} (hE:Qf Try.prog 217 (.int .i64 rv) E)
 (h:((SplSize u)∧((¬ ((splE u)=0)→rv=(splE u))∧((splE u)=0→((u.loads.length≤16)∧(((Qa set 0 ((1*2 ^ (Int.toNat (u.loads.length:Int))) - 1))=false→rv=1)∧((Qa set 0 ((1*2 ^ (Int.toNat (u.loads.length:Int))) - 1))=true→rv=0))))))):G Try.prog E [.code (Qd Try.prog 217)] ⟨[.agg [.rsl (Qp u.boards) 0 u.boards.length,.rsl (Qo u.loads) 0 u.loads.length,.int .i64 u.power,.int .i64 u.hold,.int .i64 u.volts],.int .i64 set]++unds (Try.f217.ntmps - 2),[]⟩:=by
 obtain ⟨h1,h⟩:=h
 rcases bft ((splE u) != 0) with hc0 | hc0
 · have h:=h.1 (bneT hc0)
   exact p217_start_0 u set hE ⟨(u61 (Qz u h1)),hc0,trivial⟩ (AvLe.of_eq (by rw [h]; try rfl))
 · have h:=h.2 (bneF hc0)
   obtain ⟨h2,h⟩:=h
   rcases bft (!(Qa set 0 ((1*2 ^ (Int.toNat (u.loads.length:Int))) - 1))) with hc1 | hc1
   · have h:=h.1 (bnT hc1)
     exact p217_start_1 u set hE ⟨(u61 (Qz u h1)),hc0,(u258 (sets_ok u set h2)),hc1,trivial⟩ (AvLe.of_eq (by rw [h]; try rfl))
   · have h:=h.2 (bnF hc1)
     exact p217_start_2 u set hE ⟨(u61 (Qz u h1)),hc0,(u258 (sets_ok u set h2)),hc1,trivial⟩ (AvLe.of_eq (by rw [h]; try rfl))
theorem splE_ok {u:Spl} (h:splE u=0):Wk u=true:=by
 unfold splE at h
 split at h
 · assumption
 · cases h
theorem chkSet_ok (u:Spl) (set:Int) (h:SplSize u):Pure Try.prog 217 [.agg [.rsl (Qp u.boards) 0 u.boards.length,.rsl (Qo u.loads) 0 u.loads.length,.int .i64 u.power,.int .i64 u.hold,.int .i64 u.volts],.int .i64 set] (.int .i64 (YF u set)):=Qv Try.func217 f217b fun E hE=>by
 refine f217W u set (rv:=YF u set) hE ⟨h,fun q=>?_,fun q=>⟨(spl_p (splE_ok q)).m,fun q2=>?_,fun q2=>?_⟩⟩
 · unfold YF; rw [if_neg q]
 · unfold YF; rw [if_pos q,if_neg (by rw [q2]; exact Bool.false_ne_true)]
 · unfold YF; rw [if_pos q,if_pos q2]
theorem f155b:Try.f155.body=some (Qd Try.prog 155):=by kernel_rfl
theorem u155 {a c k:List AV} {r:AV} (h:Pure Try.prog 155 (a++c++k) r):Qe Try.prog (.clos 155 a k) c r:=Qj Try.func155 (by kernel_rfl) f155b h
abbrev z155_1 (u:Spl) (set:Int):List AV:=[.agg [.rsl (Qp u.boards) 0 u.boards.length,.rsl (Qo u.loads) 0 u.loads.length,.int .i64 u.power,.int .i64 u.hold,.int .i64 u.volts],.int .i64 set]
theorem p155_start_0 (u:Spl) (set:Int) {E:Env} {res:AV} (hE:Qf Try.prog 155 res E) (ho:AllP [Qe Try.prog (.clos 217 [] []) (z155_1 u set) (.int .i64 (YF u set)),((YF u set) != 0)=true])
 (hr:AvLe (.tup [.int .i64 0,.bool false,.int .i64 (YF u set)]) res):G Try.prog E [.code (Qd Try.prog 155)] ⟨(z155_1 u set)++unds (Try.f155.ntmps - 2),[]⟩ :=
 Qb (n:=400) (evs:=[.v (.int .i64 (YF u set)),.b true]) (obs:=_) hE Try.func155 Qh (by kernel_rfl) ho hr
theorem p155_start_1 (u:Spl) (set:Int) {E:Env} {res:AV} (hE:Qf Try.prog 155 res E) (ho:AllP [Qe Try.prog (.clos 217 [] []) (z155_1 u set) (.int .i64 (YF u set)),((YF u set) != 0)=false,Qe Try.prog (.clos 218 [] []) (z155_1 u set) (.tup [.int .i64 ((WG u set).1),.bool ((WG u set).2)])])
 (hr:AvLe (.tup [.int .i64 ((WG u set).1),.bool (!(WG u set).2),.int .i64 0]) res):G Try.prog E [.code (Qd Try.prog 155)] ⟨(z155_1 u set)++unds (Try.f155.ntmps - 2),[]⟩ :=
 Qb (n:=400) (evs:=[.v (.int .i64 (YF u set)),.b false,.v (.tup [.int .i64 ((WG u set).1),.bool ((WG u set).2)])]) (obs:=_) hE Try.func155 Qh (by kernel_rfl) ho hr
theorem f155W (u:Spl) (set:Int) {E:Env} {rv:(Int × Bool × Int)} (hE:Qf Try.prog 155 (.tup [.int .i64 rv.1,.bool rv.2.1,.int .i64 rv.2.2]) E)
 (h:((SplSize u)∧((¬ ((YF u set)=0)→rv=(0,false,(YF u set)))∧((YF u set)=0→((Wk u=true)∧rv=((WG u set).1,(!(WG u set).2),0)))))):G Try.prog E [.code (Qd Try.prog 155)] ⟨[.agg [.rsl (Qp u.boards) 0 u.boards.length,.rsl (Qo u.loads) 0 u.loads.length,.int .i64 u.power,.int .i64 u.hold,.int .i64 u.volts],.int .i64 set]++unds (Try.f155.ntmps - 2),[]⟩:=by
 obtain ⟨h1,h⟩:=h
 rcases bft ((YF u set) != 0) with hc0 | hc0
 · have h:=h.1 (bneT hc0)
   exact p155_start_0 u set hE ⟨(u217 (chkSet_ok u set h1)),hc0,trivial⟩ (AvLe.of_eq (by rw [h]; try rfl))
 · have h:=h.2 (bneF hc0)
   obtain ⟨h2,h⟩:=h
   exact p155_start_1 u set hE ⟨(u217 (chkSet_ok u set h1)),hc0,(u218 (over_ok u set h2)),trivial⟩ (AvLe.of_eq (by rw [h]; try rfl))
theorem Fits_ok (u:Spl) (set:Int) (h:SplSize u):Pure Try.prog 155 [.agg [.rsl (Qp u.boards) 0 u.boards.length,.rsl (Qo u.loads) 0 u.loads.length,.int .i64 u.power,.int .i64 u.hold,.int .i64 u.volts],.int .i64 set] (.tup [.int .i64 (Yb u set).1,.bool (Yb u set).2.1,.int .i64 (Yb u set).2.2]):=Qv Try.func155 f155b fun E hE=>by
 refine f155W u set (rv:=Yb u set) hE ⟨h,fun q=>?_,fun q=>⟨?_,?_⟩⟩
 · unfold Yb; rw [if_neg q]
 · unfold YF at q
   split at q
   · exact splE_ok (by assumption)
   · rename_i c; exact absurd q c
 · unfold Yb; rw [if_pos q]
end Go.Proofs.Ytemklbioijmjiaa
namespace Go.Proofs.Ytemklbioijmjiaa
open Go Ax
open Go.Proofs
structure Bth where
 seats:Int
 price:Int
 cycle:Int
 pause:Int
 fill:Bool
def cBth (t:Bth):List AV:=[.int .i64 t.seats,.int .i64 t.price,.int .i64 t.cycle,.int .i64 t.pause,.bool t.fill]
def Qi (l:List Bth):List AV:=l.flatMap cBth
structure Evn where
 rides:List Bth
 walk:Int
structure Gala where
 ev:Evn
 k:Bok
 es:List Ent
 day:Int
 sup:Spl
 lim:List Int
 emp:List Int
def Xv (b:Bth):Bool:=!(Qa b.seats 1 40) || (!(Qa b.price 0 100) || (!(Qa b.cycle 1 100) || !(Qa b.pause 0 100)))
def evnE (v:Evn):Int:=if v.rides.length≤8∧Qa v.walk 0 100=true∧v.rides.any Xv=false then 0 else 70
structure GalaSize (g:Gala):Prop where
 rides:g.ev.rides.length≤1000
 book:BokSmall g.k
 sup:SplSize g.sup
 lim:g.lim.length≤1000
 emp:g.emp.length≤1000
def beyB (most x:Int):Bool:=!(Qa x 0 most)
def galaB (g:Gala):Bool:=decide (g.k.insured.length=g.ev.rides.length) && (decide (g.sup.loads.length=g.ev.rides.length) && (decide (g.lim.length=g.ev.rides.length) && (decide (g.emp.length=g.ev.rides.length) && (Qa g.day 0 10000 && (!(g.lim.any (beyB 200)) && !(g.emp.any (beyB 100)))))))
def QV (g:Gala):Int :=
 if evnE g.ev=0 then (if (logK g.k g.es).2.2=0 then (if splE g.sup=0 then (if galaB g=true then 0 else 120) else splE g.sup) else (logK g.k g.es).2.2) else evnE g.ev
theorem f215b:Try.f215.body=some (Qd Try.prog 215):=by kernel_rfl
theorem u215 {a c k:List AV} {r:AV} (h:Pure Try.prog 215 (a++c++k) r):Qe Try.prog (.clos 215 a k) c r:=Qj Try.func215 (by kernel_rfl) f215b h
theorem p215_start_0 (n:Int) (lo:Int) (hi:Int) {E:Env} {res:AV} (hE:Qf Try.prog 215 res E) (ho:AllP [(decide (n≥lo))=true])
 (hr:AvLe (.bool (decide (n≤hi))) res):G Try.prog E [.code (Qd Try.prog 215)] ⟨[.int .i64 n,.int .i64 lo,.int .i64 hi]++unds (Try.f215.ntmps - 3),[]⟩ :=
 Qb (n:=400) (evs:=[.b true]) (obs:=_) hE Try.func215 Qh (by kernel_rfl) ho hr
theorem p215_start_1 (n:Int) (lo:Int) (hi:Int) {E:Env} {res:AV} (hE:Qf Try.prog 215 res E) (ho:AllP [(decide (n≥lo))=false])
 (hr:AvLe (.bool false) res):G Try.prog E [.code (Qd Try.prog 215)] ⟨[.int .i64 n,.int .i64 lo,.int .i64 hi]++unds (Try.f215.ntmps - 3),[]⟩ :=
 Qb (n:=400) (evs:=[.b false]) (obs:=_) hE Try.func215 Qh (by kernel_rfl) ho hr
theorem f215W (n:Int) (lo:Int) (hi:Int) {E:Env} {rv:Bool} (hE:Qf Try.prog 215 (.bool rv) E)
 (h:((n≥lo→rv=(decide (n≤hi)))∧(¬ (n≥lo)→rv=false))):G Try.prog E [.code (Qd Try.prog 215)] ⟨[.int .i64 n,.int .i64 lo,.int .i64 hi]++unds (Try.f215.ntmps - 3),[]⟩:=by
 rcases bft (decide (n≥lo)) with hc0 | hc0
 · have h:=h.1 (odt hc0)
   exact p215_start_0 n lo hi hE ⟨hc0,trivial⟩ (AvLe.of_eq (by rw [h]; try rfl))
 · have h:=h.2 (odf hc0)
   exact p215_start_1 n lo hi hE ⟨hc0,trivial⟩ (AvLe.of_eq (by rw [h]; try rfl))
theorem Xy (n lo hi:Int):Pure Try.prog 215 [.int .i64 n,.int .i64 lo,.int .i64 hi] (.bool (Qa n lo hi)):=Qv Try.func215 f215b fun E hE=>by
 refine f215W n lo hi hE ⟨fun h=>by simp [Qa,h],fun h=>by simp [Qa,h]⟩
theorem f154b:Try.f154.body=some (Qd Try.prog 154):=by kernel_rfl
theorem u154 {a c k:List AV} {r:AV} (h:Pure Try.prog 154 (a++c++k) r):Qe Try.prog (.clos 154 a k) c r:=Qj Try.func154 (by kernel_rfl) f154b h
theorem p154_start_0 (n:Int) (lo:Int) (hi:Int) {E:Env} {res:AV} (hE:Qf Try.prog 154 res E) (ho:AllP [(decide (n≥lo))=true])
 (hr:AvLe (.bool (decide (n≤hi))) res):G Try.prog E [.code (Qd Try.prog 154)] ⟨[.int .i64 n,.int .i64 lo,.int .i64 hi]++unds (Try.f154.ntmps - 3),[]⟩ :=
 Qb (n:=400) (evs:=[.b true]) (obs:=_) hE Try.func154 Qh (by kernel_rfl) ho hr
theorem p154_start_1 (n:Int) (lo:Int) (hi:Int) {E:Env} {res:AV} (hE:Qf Try.prog 154 res E) (ho:AllP [(decide (n≥lo))=false])
 (hr:AvLe (.bool false) res):G Try.prog E [.code (Qd Try.prog 154)] ⟨[.int .i64 n,.int .i64 lo,.int .i64 hi]++unds (Try.f154.ntmps - 3),[]⟩ :=
 Qb (n:=400) (evs:=[.b false]) (obs:=_) hE Try.func154 Qh (by kernel_rfl) ho hr
theorem f154W (n:Int) (lo:Int) (hi:Int) {E:Env} {rv:Bool} (hE:Qf Try.prog 154 (.bool rv) E)
 (h:((n≥lo→rv=(decide (n≤hi)))∧(¬ (n≥lo)→rv=false))):G Try.prog E [.code (Qd Try.prog 154)] ⟨[.int .i64 n,.int .i64 lo,.int .i64 hi]++unds (Try.f154.ntmps - 3),[]⟩:=by
 rcases bft (decide (n≥lo)) with hc0 | hc0
 · have h:=h.1 (odt hc0)
   exact p154_start_0 n lo hi hE ⟨hc0,trivial⟩ (AvLe.of_eq (by rw [h]; try rfl))
 · have h:=h.2 (odf hc0)
   exact p154_start_1 n lo hi hE ⟨hc0,trivial⟩ (AvLe.of_eq (by rw [h]; try rfl))
theorem Vm (n lo hi:Int):Pure Try.prog 154 [.int .i64 n,.int .i64 lo,.int .i64 hi] (.bool (Qa n lo hi)):=Qv Try.func154 f154b fun E hE=>by
 refine f154W n lo hi hE ⟨fun h=>by simp [Qa,h],fun h=>by simp [Qa,h]⟩
theorem f255b:Try.f255.body=some (Qd Try.prog 255):=by kernel_rfl
theorem u255 {a c k:List AV} {r:AV} (h:Pure Try.prog 255 (a++c++k) r):Qe Try.prog (.clos 255 a k) c r:=Qj Try.func255 (by kernel_rfl) f255b h
abbrev z255_1 (b:Bth):List AV:=[.agg [.int .i64 b.seats,.int .i64 b.price,.int .i64 b.cycle,.int .i64 b.pause,.bool b.fill]]
theorem p255_start_0 (b:Bth) {E:Env} {res:AV} (hE:Qf Try.prog 255 res E) (ho:AllP [Qe Try.prog (.clos 215 [] []) [.int .i64 b.seats,.int .i64 1,.int .i64 40] (.bool (Qa b.seats 1 40)),(!(Qa b.seats 1 40))=true,true=true,true=true])
 (hr:AvLe (.bool true) res):G Try.prog E [.code (Qd Try.prog 255)] ⟨(z255_1 b)++unds (Try.f255.ntmps - 1),[]⟩ :=
 Qb (n:=400) (evs:=[.v (.bool (Qa b.seats 1 40)),.b true,.b true,.b true]) (obs:=_) hE Try.func255 Qh (by kernel_rfl) ho hr
theorem p255_start_1 (b:Bth) {E:Env} {res:AV} (hE:Qf Try.prog 255 res E) (ho:AllP [Qe Try.prog (.clos 215 [] []) [.int .i64 b.seats,.int .i64 1,.int .i64 40] (.bool (Qa b.seats 1 40)),(!(Qa b.seats 1 40))=false,Qe Try.prog (.clos 215 [] []) [.int .i64 b.price,.int .i64 0,.int .i64 100] (.bool (Qa b.price 0 100)),(!(Qa b.price 0 100))=true,true=true])
 (hr:AvLe (.bool true) res):G Try.prog E [.code (Qd Try.prog 255)] ⟨(z255_1 b)++unds (Try.f255.ntmps - 1),[]⟩ :=
 Qb (n:=400) (evs:=[.v (.bool (Qa b.seats 1 40)),.b false,.v (.bool (Qa b.price 0 100)),.b true,.b true]) (obs:=_) hE Try.func255 Qh (by kernel_rfl) ho hr
theorem p255_start_2 (b:Bth) {E:Env} {res:AV} (hE:Qf Try.prog 255 res E) (ho:AllP [Qe Try.prog (.clos 215 [] []) [.int .i64 b.seats,.int .i64 1,.int .i64 40] (.bool (Qa b.seats 1 40)),(!(Qa b.seats 1 40))=false,Qe Try.prog (.clos 215 [] []) [.int .i64 b.price,.int .i64 0,.int .i64 100] (.bool (Qa b.price 0 100)),(!(Qa b.price 0 100))=false,Qe Try.prog (.clos 215 [] []) [.int .i64 b.cycle,.int .i64 1,.int .i64 100] (.bool (Qa b.cycle 1 100)),(!(Qa b.cycle 1 100))=true])
 (hr:AvLe (.bool true) res):G Try.prog E [.code (Qd Try.prog 255)] ⟨(z255_1 b)++unds (Try.f255.ntmps - 1),[]⟩ :=
 Qb (n:=400) (evs:=[.v (.bool (Qa b.seats 1 40)),.b false,.v (.bool (Qa b.price 0 100)),.b false,.v (.bool (Qa b.cycle 1 100)),.b true]) (obs:=_) hE Try.func255 Qh (by kernel_rfl) ho hr
theorem p255_start_3 (b:Bth) {E:Env} {res:AV} (hE:Qf Try.prog 255 res E) (ho:AllP [Qe Try.prog (.clos 215 [] []) [.int .i64 b.seats,.int .i64 1,.int .i64 40] (.bool (Qa b.seats 1 40)),(!(Qa b.seats 1 40))=false,Qe Try.prog (.clos 215 [] []) [.int .i64 b.price,.int .i64 0,.int .i64 100] (.bool (Qa b.price 0 100)),(!(Qa b.price 0 100))=false,Qe Try.prog (.clos 215 [] []) [.int .i64 b.cycle,.int .i64 1,.int .i64 100] (.bool (Qa b.cycle 1 100)),(!(Qa b.cycle 1 100))=false,Qe Try.prog (.clos 215 [] []) [.int .i64 b.pause,.int .i64 0,.int .i64 100] (.bool (Qa b.pause 0 100))])
 (hr:AvLe (.bool (!(Qa b.pause 0 100))) res):G Try.prog E [.code (Qd Try.prog 255)] ⟨(z255_1 b)++unds (Try.f255.ntmps - 1),[]⟩ :=
 Qb (n:=400) (evs:=[.v (.bool (Qa b.seats 1 40)),.b false,.v (.bool (Qa b.price 0 100)),.b false,.v (.bool (Qa b.cycle 1 100)),.b false,.v (.bool (Qa b.pause 0 100))]) (obs:=_) hE Try.func255 Qh (by kernel_rfl) ho hr
theorem f255W (b:Bth) {E:Env} {rv:Bool} (hE:Qf Try.prog 255 (.bool rv) E)
 (h:(((Qa b.seats 1 40)=false→rv=true)∧((Qa b.seats 1 40)=true→(((Qa b.price 0 100)=false→rv=true)∧((Qa b.price 0 100)=true→(((Qa b.cycle 1 100)=false→rv=true)∧((Qa b.cycle 1 100)=true→rv=(!(Qa b.pause 0 100))))))))):G Try.prog E [.code (Qd Try.prog 255)] ⟨[.agg [.int .i64 b.seats,.int .i64 b.price,.int .i64 b.cycle,.int .i64 b.pause,.bool b.fill]]++unds (Try.f255.ntmps - 1),[]⟩:=by
 rcases bft (!(Qa b.seats 1 40)) with hc0 | hc0
 · have h:=h.1 (bnT hc0)
   exact p255_start_0 b hE ⟨(u215 (Xy b.seats 1 40)),hc0,rfl,rfl,trivial⟩ (AvLe.of_eq (by rw [h]; try rfl))
 · have h:=h.2 (bnF hc0)
   rcases bft (!(Qa b.price 0 100)) with hc1 | hc1
   · have h:=h.1 (bnT hc1)
     exact p255_start_1 b hE ⟨(u215 (Xy b.seats 1 40)),hc0,(u215 (Xy b.price 0 100)),hc1,rfl,trivial⟩ (AvLe.of_eq (by rw [h]; try rfl))
   · have h:=h.2 (bnF hc1)
     rcases bft (!(Qa b.cycle 1 100)) with hc2 | hc2
     · have h:=h.1 (bnT hc2)
       exact p255_start_2 b hE ⟨(u215 (Xy b.seats 1 40)),hc0,(u215 (Xy b.price 0 100)),hc1,(u215 (Xy b.cycle 1 100)),hc2,trivial⟩ (AvLe.of_eq (by rw [h]; try rfl))
     · have h:=h.2 (bnF hc2)
       exact p255_start_3 b hE ⟨(u215 (Xy b.seats 1 40)),hc0,(u215 (Xy b.price 0 100)),hc1,(u215 (Xy b.cycle 1 100)),hc2,(u215 (Xy b.pause 0 100)),trivial⟩ (AvLe.of_eq (by rw [h]; try rfl))
theorem badBth_ok (b:Bth):Pure Try.prog 255 [.agg (cBth b)] (.bool (Xv b)):=Qv Try.func255 f255b fun E hE=>by
 refine f255W b (rv:=Xv b) hE ⟨fun h1=>?_,fun h1=>⟨fun h2=>?_,fun h2=>⟨fun h3=>?_,fun h3=>?_⟩⟩⟩
 all_goals (unfold Xv; simp [*])
theorem f282btb:Try.f282.body=some (Qd Try.prog 282):=by kernel_rfl
def qj (P:Program):List Item:=kAt 400 [.code (Qd P 282)] [.stop]
def Km (l:(List Bth)) (i:Nat):St:=⟨([.rsl (Qi l) 0 l.length,.clos 255 [] []]++jj 5 ([.int .i64 (l.length:Int),.int .i64 (i:Int)]++Js 10)),[]⟩
def Kn (E:Env) (l:(List Bth)) (i:Nat):Prop:=G Try.prog E (qj Try.prog) (Km l i )
abbrev WV (be:Bth):List AV:=[.int .i64 be.seats,.int .i64 be.price,.int .i64 be.cycle,.int .i64 be.pause,.bool be.fill]
theorem QaG (l:(List Bth)) {E:Env} {rv:AV} (hE:Qf Try.prog 282 rv E) (ho:AllP [])
 (hg:G Try.prog E (qj Try.prog) ⟨([.rsl (Qi l) 0 l.length,.clos 255 [] []]++jj 5 ([.int .i64 (l.length:Int),.int .i64 0]++Js 10)),[]⟩):G Try.prog E [.code (Qd Try.prog 282)] ⟨[.rsl (Qi l) 0 l.length,.clos 255 [] []]++unds (Try.f282.ntmps - 2),[]⟩ :=
 Ql (n:=400) (ds:=[]) (cs:=[]) (live:=[0,1,7,8]) (m:=0) (evs:=[.stop]) (obs:=_) hE.2.1 (hE.nogh _) Qh (by kernel_rfl) ho hg
theorem f282btW (l:(List Bth)) {E:Env} {rv:Int} (hE:Qf Try.prog 282 (.int .i64 rv) E)
 (h:Kn E l 0):G Try.prog E [.code (Qd Try.prog 282)] ⟨[.rsl (Qi l) 0 l.length,.clos 255 [] []]++unds (Try.f282.ntmps - 2),[]⟩:=by
 exact QaG l hE trivial h
theorem p282bt_0_0 (l:(List Bth)) (i:Nat) (be:Bth) {E:Env} {res:AV} (hE:Qf Try.prog 282 res E) (ho:AllP [(decide ((i:Int)<(l.length:Int)))=true,0≤(i:Int)∧(i:Int)<(l.length:Int),((Qi l).drop (0+(Int.toNat (i:Int))*5)).take 5=(WV be),Qe Try.prog (.clos 255 [] []) [.agg (WV be)] (.bool (Xv be)),(Xv be)=true])
 (hr:AvLe (.int .i64 (i:Int)) res):G Try.prog E (qj Try.prog) (Km l i ) :=
 Qb (n:=400) (evs:=[.b true,.ld (.agg (WV be)),.v (.bool (Xv be)),.b true]) (obs:=_) hE Try.func282 Qh (by kernel_rfl) ho hr
theorem p282bt_0_1 (l:(List Bth)) (i:Nat) (be:Bth) {E:Env} {rv:AV} (hE:Qf Try.prog 282 rv E) (ho:AllP [(decide ((i:Int)<(l.length:Int)))=true,0≤(i:Int)∧(i:Int)<(l.length:Int),((Qi l).drop (0+(Int.toNat (i:Int))*5)).take 5=(WV be),Qe Try.prog (.clos 255 [] []) [.agg (WV be)] (.bool (Xv be)),(Xv be)=false,InR .i64 ((i:Int)+1)])
 (hg:G Try.prog E (qj Try.prog) ⟨([.rsl (Qi l) 0 l.length,.clos 255 [] []]++jj 5 ([.int .i64 (l.length:Int),.int .i64 ((i:Int)+1)]++Js 10)),[]⟩):G Try.prog E (qj Try.prog) (Km l i ) :=
 Ql (n:=400) (ds:=[]) (cs:=[]) (live:=[0,1,7,8]) (m:=0) (evs:=[.b true,.ld (.agg (WV be)),.v (.bool (Xv be)),.b false,.stop]) (obs:=_) hE.2.1 (hE.nogh _) Qh (by kernel_rfl) ho hg
theorem p282bt_0_2 (l:(List Bth)) (i:Nat) {E:Env} {res:AV} (hE:Qf Try.prog 282 res E) (ho:AllP [(decide ((i:Int)<(l.length:Int)))=false])
 (hr:AvLe (.int .i64 (-1)) res):G Try.prog E (qj Try.prog) (Km l i ) :=
 Qb (n:=400) (evs:=[.b false]) (obs:=_) hE Try.func282 Qh (by kernel_rfl) ho hr
theorem f282btW0 (l:(List Bth)) (i:Nat) {E:Env} {rv:Int} (hE:Qf Try.prog 282 (.int .i64 rv) E)
 (h:(((i:Int)<(l.length:Int)→(∃ be:Bth,l[i]?=some be∧(((Xv be)=true→rv=(i:Int))∧((Xv be)=false→((I6 ((i:Int)+1))∧Kn E l (i+1))))))∧(¬ ((i:Int)<(l.length:Int))→rv=(-1)))):Kn E l i:=by
 rcases bft (decide ((i:Int)<(l.length:Int))) with hc0 | hc0
 · have h:=h.1 (odt hc0)
   obtain ⟨be,h1,h⟩:=h
   rcases bft (Xv be) with hc1 | hc1
   · have h:=h.1 hc1
     exact p282bt_0_0 l i be hE ⟨hc0,(QE h1),(rp cBth 5 0 5 h1),(u255 (badBth_ok be)),hc1,trivial⟩ (AvLe.of_eq (by rw [h]; try rfl))
   · have h:=h.2 hc1
     obtain ⟨q6_2,h⟩:=h
     exact p282bt_0_1 l i be hE ⟨hc0,(QE h1),(rp cBth 5 0 5 h1),(u255 (badBth_ok be)),hc1,q6_2,trivial⟩ h
 · have h:=h.2 (odf hc0)
   exact p282bt_0_2 l i hE ⟨hc0,trivial⟩ (AvLe.of_eq (by rw [h]; try rfl))
theorem idxBadBth_ok (l:List Bth) (h:l.length≤9223372036854775807):Pure Try.prog 282 [.rsl (Qi l) 0 l.length,.clos 255 [] []] (.int .i64 (idxG Xv l)):=Qv Try.func282 f282btb fun E hE=>by
 have hl:=h
 refine f282btW l (rv:=idxG Xv l) hE (Yy Xv l l.length 0 (by omega) (fun j x hj=>by omega) (fun i=>Kn E l i) (fun i hi' h1 h2=>?_) (fun _ h2=>?_))
 · have hx:l[i]?=some l[i]:=List.getElem?_eq_getElem hi'
   have hm:=List.mem_of_getElem? hx
   exact f282btW0 l i (rv:=idxG Xv l) hE ⟨fun _=>⟨_,hx,fun hp=>h1 _ hx (by simpa using hp),fun hp=>⟨by omega,h2 _ hx (by simpa using hp)⟩⟩,fun h=>by omega⟩
 · exact f282btW0 l _ (rv:=idxG Xv l) hE ⟨fun h=>by omega,fun _=>h2⟩
theorem f256btb:Try.f256.body=some (Qd Try.prog 256):=by kernel_rfl
theorem QaJ (l:(List Bth)) {E:Env} {res:AV} (hE:Qf Try.prog 256 res E) (ho:AllP [Qe Try.prog (.clos 282 [] []) [.rsl (Qi l) 0 l.length,.clos 255 [] []] (.int .i64 (idxG Xv l))])
 (hr:AvLe (.bool (decide ((idxG Xv l)≥0))) res):G Try.prog E [.code (Qd Try.prog 256)] ⟨[.rsl (Qi l) 0 l.length,.clos 255 [] []]++unds (Try.f256.ntmps - 2),[]⟩ :=
 Qb (n:=400) (evs:=[.v (.int .i64 (idxG Xv l))]) (obs:=_) hE Try.func256 Qh (by kernel_rfl) ho hr
theorem f256btW (l:(List Bth)) {E:Env} {rv:Bool} (hE:Qf Try.prog 256 (.bool rv) E)
 (h:((l.length≤9223372036854775807)∧rv=(decide ((idxG Xv l)≥0)))):G Try.prog E [.code (Qd Try.prog 256)] ⟨[.rsl (Qi l) 0 l.length,.clos 255 [] []]++unds (Try.f256.ntmps - 2),[]⟩:=by
 obtain ⟨h1,h⟩:=h
 exact QaJ l hE ⟨(Qj Try.func282 (by kernel_rfl) f282btb (idxBadBth_ok l h1)),trivial⟩ (AvLe.of_eq (by rw [h]; try rfl))
theorem Ka (l:List Bth) (h:l.length≤9223372036854775807):Pure Try.prog 256 [.rsl (Qi l) 0 l.length,.clos 255 [] []] (.bool (l.any Xv)):=Qv Try.func256 f256btb fun E hE =>
 f256btW l (rv:=l.any Xv) hE ⟨h,(VI _ _).symm⟩
theorem f212b:Try.f212.body=some (Qd Try.prog 212):=by kernel_rfl
theorem u212 {a c k:List AV} {r:AV} (h:Pure Try.prog 212 (a++c++k) r):Qe Try.prog (.clos 212 a k) c r:=Qj Try.func212 (by kernel_rfl) f212b h
abbrev z212_1 (v:Evn):List AV:=[.agg [.rsl (Qi v.rides) 0 v.rides.length,.int .i64 v.walk]]
theorem p212_start_0 (v:Evn) {E:Env} {res:AV} (hE:Qf Try.prog 212 res E) (ho:AllP [(decide ((v.rides.length:Int) > 8))=true,true=true,true=true])
 (hr:AvLe (.int .i64 70) res):G Try.prog E [.code (Qd Try.prog 212)] ⟨(z212_1 v)++unds (Try.f212.ntmps - 1),[]⟩ :=
 Qb (n:=400) (evs:=[.b true,.b true,.b true]) (obs:=_) hE Try.func212 Qh (by kernel_rfl) ho hr
theorem p212_start_1 (v:Evn) {E:Env} {res:AV} (hE:Qf Try.prog 212 res E) (ho:AllP [(decide ((v.rides.length:Int) > 8))=false,Qe Try.prog (.clos 215 [] []) [.int .i64 v.walk,.int .i64 0,.int .i64 100] (.bool (Qa v.walk 0 100)),(!(Qa v.walk 0 100))=true,true=true])
 (hr:AvLe (.int .i64 70) res):G Try.prog E [.code (Qd Try.prog 212)] ⟨(z212_1 v)++unds (Try.f212.ntmps - 1),[]⟩ :=
 Qb (n:=400) (evs:=[.b false,.v (.bool (Qa v.walk 0 100)),.b true,.b true]) (obs:=_) hE Try.func212 Qh (by kernel_rfl) ho hr
theorem p212_start_2 (v:Evn) {E:Env} {res:AV} (hE:Qf Try.prog 212 res E) (ho:AllP [(decide ((v.rides.length:Int) > 8))=false,Qe Try.prog (.clos 215 [] []) [.int .i64 v.walk,.int .i64 0,.int .i64 100] (.bool (Qa v.walk 0 100)),(!(Qa v.walk 0 100))=false,Qe Try.prog (.clos 256 [] []) [.rsl (Qi v.rides) 0 v.rides.length,.clos 255 [] []] (.bool (v.rides.any Xv)),(v.rides.any Xv)=true])
 (hr:AvLe (.int .i64 70) res):G Try.prog E [.code (Qd Try.prog 212)] ⟨(z212_1 v)++unds (Try.f212.ntmps - 1),[]⟩ :=
 Qb (n:=400) (evs:=[.b false,.v (.bool (Qa v.walk 0 100)),.b false,.v (.bool (v.rides.any Xv)),.b true]) (obs:=_) hE Try.func212 Qh (by kernel_rfl) ho hr
theorem p212_start_3 (v:Evn) {E:Env} {res:AV} (hE:Qf Try.prog 212 res E) (ho:AllP [(decide ((v.rides.length:Int) > 8))=false,Qe Try.prog (.clos 215 [] []) [.int .i64 v.walk,.int .i64 0,.int .i64 100] (.bool (Qa v.walk 0 100)),(!(Qa v.walk 0 100))=false,Qe Try.prog (.clos 256 [] []) [.rsl (Qi v.rides) 0 v.rides.length,.clos 255 [] []] (.bool (v.rides.any Xv)),(v.rides.any Xv)=false])
 (hr:AvLe (.int .i64 0) res):G Try.prog E [.code (Qd Try.prog 212)] ⟨(z212_1 v)++unds (Try.f212.ntmps - 1),[]⟩ :=
 Qb (n:=400) (evs:=[.b false,.v (.bool (Qa v.walk 0 100)),.b false,.v (.bool (v.rides.any Xv)),.b false]) (obs:=_) hE Try.func212 Qh (by kernel_rfl) ho hr
theorem f212W (v:Evn) {E:Env} {rv:Int} (hE:Qf Try.prog 212 (.int .i64 rv) E)
 (h:(((v.rides.length:Int) > 8→rv=70)∧(¬ ((v.rides.length:Int) > 8)→(((Qa v.walk 0 100)=false→rv=70)∧((Qa v.walk 0 100)=true→((v.rides.length≤9223372036854775807)∧(((v.rides.any Xv)=true→rv=70)∧((v.rides.any Xv)=false→rv=0)))))))):G Try.prog E [.code (Qd Try.prog 212)] ⟨[.agg [.rsl (Qi v.rides) 0 v.rides.length,.int .i64 v.walk]]++unds (Try.f212.ntmps - 1),[]⟩:=by
 rcases bft (decide ((v.rides.length:Int) > 8)) with hc0 | hc0
 · have h:=h.1 (odt hc0)
   exact p212_start_0 v hE ⟨hc0,rfl,rfl,trivial⟩ (AvLe.of_eq (by rw [h]; try rfl))
 · have h:=h.2 (odf hc0)
   rcases bft (!(Qa v.walk 0 100)) with hc1 | hc1
   · have h:=h.1 (bnT hc1)
     exact p212_start_1 v hE ⟨hc0,(u215 (Xy v.walk 0 100)),hc1,rfl,trivial⟩ (AvLe.of_eq (by rw [h]; try rfl))
   · have h:=h.2 (bnF hc1)
     obtain ⟨h1,h⟩:=h
     rcases bft (v.rides.any Xv) with hc2 | hc2
     · have h:=h.1 hc2
       exact p212_start_2 v hE ⟨hc0,(u215 (Xy v.walk 0 100)),hc1,(Qj Try.func256 (by kernel_rfl) f256btb (Ka v.rides h1)),hc2,trivial⟩ (AvLe.of_eq (by rw [h]; try rfl))
     · have h:=h.2 hc2
       exact p212_start_3 v hE ⟨hc0,(u215 (Xy v.walk 0 100)),hc1,(Qj Try.func256 (by kernel_rfl) f256btb (Ka v.rides h1)),hc2,trivial⟩ (AvLe.of_eq (by rw [h]; try rfl))
theorem QbB (v:Evn) (h:v.rides.length≤1000):Pure Try.prog 212 [.agg [.rsl (Qi v.rides) 0 v.rides.length,.int .i64 v.walk]] (.int .i64 (evnE v)):=Qv Try.func212 f212b fun E hE=>by
 refine f212W v (rv:=evnE v) hE ⟨fun h1=>?_,fun h1=>⟨fun h2=>?_,fun h2=>⟨by omega,fun h3=>?_,fun h3=>?_⟩⟩⟩
 · unfold evnE; rw [if_neg (fun hh=>by have:=hh.1; omega)]
 · unfold evnE; rw [if_neg (fun hh=>by have:=hh.2.1; rw [h2] at this; cases this)]
 · unfold evnE; rw [if_neg (fun hh=>by have:=hh.2.2; rw [h3] at this; cases this)]
 · unfold evnE; rw [if_pos ⟨by omega,h2,h3⟩]
theorem f257nb:Try.f257.body=some (Qd Try.prog 257):=by kernel_rfl
def f257nK0 (P:Program):List Item:=kAt 400 [.code (Qd P 257)] [.stop]
def f257nS0 (v:Evn):St:=⟨([.nilSl,.clos 213 [] [.rptr [.rsl (Qi v.rides) 0 v.rides.length,.int .i64 v.walk] 0]]++jj 5 ([.int .i64 0,.int .i64 0]++Js 10)),[]⟩
def f257nG0 (E:Env) (v:Evn):Prop:=G Try.prog E (f257nK0 Try.prog) (f257nS0 v )
theorem QbW (v:Evn) {E:Env} {rv:AV} (hE:Qf Try.prog 257 rv E) (ho:AllP [])
 (hg:G Try.prog E (f257nK0 Try.prog) ⟨([.nilSl,.clos 213 [] [.rptr [.rsl (Qi v.rides) 0 v.rides.length,.int .i64 v.walk] 0]]++jj 5 ([.int .i64 0,.int .i64 0]++Js 10)),[]⟩):G Try.prog E [.code (Qd Try.prog 257)] ⟨[.nilSl,.clos 213 [] [.rptr [.rsl (Qi v.rides) 0 v.rides.length,.int .i64 v.walk] 0]]++unds (Try.f257.ntmps - 2),[]⟩ :=
 Ql (n:=400) (ds:=[]) (cs:=[]) (live:=[0,1,7,8]) (m:=0) (evs:=[.stop]) (obs:=_) hE.2.1 (hE.nogh _) Qh (by kernel_rfl) ho hg
theorem f257nW (v:Evn) {E:Env} {rv:Int} (hE:Qf Try.prog 257 (.int .i64 rv) E)
 (h:f257nG0 E v ):G Try.prog E [.code (Qd Try.prog 257)] ⟨[.nilSl,.clos 213 [] [.rptr [.rsl (Qi v.rides) 0 v.rides.length,.int .i64 v.walk] 0]]++unds (Try.f257.ntmps - 2),[]⟩:=by
 exact QbW v hE trivial h
theorem p257n_0_0 (v:Evn) {E:Env} {res:AV} (hE:Qf Try.prog 257 res E) (ho:AllP [false=false])
 (hr:AvLe (.int .i64 (-1)) res):G Try.prog E (f257nK0 Try.prog) (f257nS0 v ) :=
 Qb (n:=400) (evs:=[.b false]) (obs:=_) hE Try.func257 Qh (by kernel_rfl) ho hr
theorem f257nW0 (v:Evn) {E:Env} {rv:Int} (hE:Qf Try.prog 257 (.int .i64 rv) E)
 (h:rv=(-1)):f257nG0 E v:=by
 exact p257n_0_0 v hE ⟨rfl,trivial⟩ (AvLe.of_eq (by rw [h]; try rfl))
theorem noGroup (v:Evn):Pure Try.prog 257 [.nilSl,.clos 213 [] [.rptr [.rsl (Qi v.rides) 0 v.rides.length,.int .i64 v.walk] 0]] (.int .i64 (-1)):=Qv Try.func257 f257nb fun E hE=>f257nW v (rv:=-1) hE (f257nW0 v (rv:=-1) hE rfl)
theorem f216nb:Try.f216.body=some (Qd Try.prog 216):=by kernel_rfl
theorem QbY (v:Evn) {E:Env} {res:AV} (hE:Qf Try.prog 216 res E) (ho:AllP [Qe Try.prog (.clos 257 [] []) [.nilSl,.clos 213 [] [.rptr [.rsl (Qi v.rides) 0 v.rides.length,.int .i64 v.walk] 0]] (.int .i64 (-1))])
 (hr:AvLe (.bool false) res):G Try.prog E [.code (Qd Try.prog 216)] ⟨[.nilSl,.clos 213 [] [.rptr [.rsl (Qi v.rides) 0 v.rides.length,.int .i64 v.walk] 0]]++unds (Try.f216.ntmps - 2),[]⟩ :=
 Qb (n:=400) (evs:=[.v (.int .i64 (-1))]) (obs:=_) hE Try.func216 Qh (by kernel_rfl) ho hr
theorem f216nW (v:Evn) {E:Env} {rv:Bool} (hE:Qf Try.prog 216 (.bool rv) E)
 (h:rv=false):G Try.prog E [.code (Qd Try.prog 216)] ⟨[.nilSl,.clos 213 [] [.rptr [.rsl (Qi v.rides) 0 v.rides.length,.int .i64 v.walk] 0]]++unds (Try.f216.ntmps - 2),[]⟩:=by
 exact QbY v hE ⟨(Qj Try.func257 (by kernel_rfl) f257nb (noGroup v)),trivial⟩ (AvLe.of_eq (by rw [h]; try rfl))
theorem noGroups (v:Evn):Pure Try.prog 216 [.nilSl,.clos 213 [] [.rptr [.rsl (Qi v.rides) 0 v.rides.length,.int .i64 v.walk] 0]] (.bool false):=Qv Try.func216 f216nb fun E hE=>f216nW v (rv:=false) hE rfl
theorem f150b:Try.f150.body=some (Qd Try.prog 150):=by kernel_rfl
theorem u150 {a c k:List AV} {r:AV} (h:Pure Try.prog 150 (a++c++k) r):Qe Try.prog (.clos 150 a k) c r:=Qj Try.func150 (by kernel_rfl) f150b h
abbrev z150_1 (v:Evn):List AV:=[.rsl (Qi v.rides) 0 v.rides.length,.int .i64 v.walk]
theorem p150_start_0 (v:Evn) {E:Env} {res:AV} (hE:Qf Try.prog 150 res E) (ho:AllP [Qe Try.prog (.clos 212 [] []) [.agg (z150_1 v)] (.int .i64 (evnE v)),((evnE v) != 0)=true])
 (hr:AvLe (.int .i64 (evnE v)) res):G Try.prog E [.code (Qd Try.prog 150)] ⟨[.agg (z150_1 v),.nilSl]++unds (Try.f150.ntmps - 2),[]⟩ :=
 Qb (n:=400) (evs:=[.v (.int .i64 (evnE v)),.b true]) (obs:=_) hE Try.func150 Qh (by kernel_rfl) ho hr
theorem p150_start_1 (v:Evn) {E:Env} {res:AV} (hE:Qf Try.prog 150 res E) (ho:AllP [Qe Try.prog (.clos 212 [] []) [.agg (z150_1 v)] (.int .i64 (evnE v)),((evnE v) != 0)=false,false=false,Qe Try.prog (.clos 216 [] []) [.nilSl,.clos 213 [] [.rptr (z150_1 v) 0]] (.bool false),false=false])
 (hr:AvLe (.int .i64 0) res):G Try.prog E [.code (Qd Try.prog 150)] ⟨[.agg (z150_1 v),.nilSl]++unds (Try.f150.ntmps - 2),[]⟩ :=
 Qb (n:=400) (evs:=[.v (.int .i64 (evnE v)),.b false,.b false,.v (.bool false),.b false]) (obs:=_) hE Try.func150 Qh (by kernel_rfl) ho hr
theorem f150W (v:Evn) {E:Env} {rv:Int} (hE:Qf Try.prog 150 (.int .i64 rv) E)
 (h:((v.rides.length≤1000)∧((¬ ((evnE v)=0)→rv=(evnE v))∧((evnE v)=0→rv=0)))):G Try.prog E [.code (Qd Try.prog 150)] ⟨[.agg [.rsl (Qi v.rides) 0 v.rides.length,.int .i64 v.walk],.nilSl]++unds (Try.f150.ntmps - 2),[]⟩:=by
 obtain ⟨h1,h⟩:=h
 rcases bft ((evnE v) != 0) with hc0 | hc0
 · have h:=h.1 (bneT hc0)
   exact p150_start_0 v hE ⟨(u212 (QbB v h1)),hc0,trivial⟩ (AvLe.of_eq (by rw [h]; try rfl))
 · have h:=h.2 (bneF hc0)
   exact p150_start_1 v hE ⟨(u212 (QbB v h1)),hc0,rfl,(Qj Try.func216 (by kernel_rfl) f216nb (noGroups v)),rfl,trivial⟩ (AvLe.of_eq (by rw [h]; try rfl))
theorem QR (v:Evn) (h:v.rides.length≤1000):Pure Try.prog 150 [.agg [.rsl (Qi v.rides) 0 v.rides.length,.int .i64 v.walk],.nilSl] (.int .i64 (evnE v)):=Qv Try.func150 f150b fun E hE=>by
 refine f150W v (rv:=evnE v) hE ⟨h,fun h1=>rfl,fun h1=>h1⟩
theorem f151b:Try.f151.body=some (Qd Try.prog 151):=by kernel_rfl
theorem u151 {a c k:List AV} {r:AV} (h:Pure Try.prog 151 (a++c++k) r):Qe Try.prog (.clos 151 a k) c r:=Qj Try.func151 (by kernel_rfl) f151b h
abbrev z151_1 (k:Bok) (es:(List Ent)):AV:=.tup [.agg [.rsl (Qg ((((logK k es).1).k).rules)) 0 (((((logK k es).1).k).rules).length),.rsl (rowI ((((logK k es).1).k).ranks)) 0 (((((logK k es).1).k).ranks).length),.rsl (rowI ((((logK k es).1).k).insured)) 0 (((((logK k es).1).k).insured).length),.rsl (Qc (((logK k es).1).es)) 0 ((((logK k es).1).es).length)],.int .i64 ((logK k es).2.1),.int .i64 ((logK k es).2.2)]
abbrev z151_2 (k:Bok) (es:(List Ent)):List AV:=[.agg [.rsl (Qg k.rules) 0 k.rules.length,.rsl (rowI k.ranks) 0 k.ranks.length,.rsl (rowI k.insured) 0 k.insured.length],.rsl (Qc es) 0 es.length]
theorem p151_start_0 (k:Bok) (es:(List Ent)) {E:Env} {res:AV} (hE:Qf Try.prog 151 res E) (ho:AllP [Qe Try.prog (.clos 141 [] []) (z151_2 k es) (z151_1 k es)])
 (hr:AvLe (.tup [.int .i64 ((logK k es).2.1),.int .i64 ((logK k es).2.2)]) res):G Try.prog E [.code (Qd Try.prog 151)] ⟨(z151_2 k es)++unds (Try.f151.ntmps - 2),[]⟩ :=
 Qb (n:=400) (evs:=[.v (z151_1 k es)]) (obs:=_) hE Try.func151 Qh (by kernel_rfl) ho hr
theorem f151W (k:Bok) (es:(List Ent)) {E:Env} {rv:(Int × Int)} (hE:Qf Try.prog 151 (.tup [.int .i64 rv.1,.int .i64 rv.2]) E)
 (h:((BokSmall k)∧rv=(logK k es).2)):G Try.prog E [.code (Qd Try.prog 151)] ⟨[.agg [.rsl (Qg k.rules) 0 k.rules.length,.rsl (rowI k.ranks) 0 k.ranks.length,.rsl (rowI k.insured) 0 k.insured.length],.rsl (Qc es) 0 es.length]++unds (Try.f151.ntmps - 2),[]⟩:=by
 obtain ⟨h1,h⟩:=h
 exact p151_start_0 k es hE ⟨(u141 (qP k es h1)),trivial⟩ (AvLe.of_eq (by rw [h]; try rfl))
theorem QS (k:Bok) (es:List Ent) (h:BokSmall k):Pure Try.prog 151 [.agg [.rsl (Qg k.rules) 0 k.rules.length,.rsl (rowI k.ranks) 0 k.ranks.length,.rsl (rowI k.insured) 0 k.insured.length],.rsl (Qc es) 0 es.length] (.tup [.int .i64 (logK k es).2.1,.int .i64 (logK k es).2.2]):=Qv Try.func151 f151b fun E hE =>
 f151W k es (rv:=(logK k es).2) hE ⟨h,rfl⟩
theorem f153b:Try.f153.body=some (Qd Try.prog 153):=by kernel_rfl
theorem u153 {a c k:List AV} {r:AV} (h:Pure Try.prog 153 (a++c++k) r):Qe Try.prog (.clos 153 a k) c r:=Qj Try.func153 (by kernel_rfl) f153b h
theorem p153_start_0 (x:Int) (m:Int) {E:Env} {res:AV} (hE:Qf Try.prog 153 res E) (ho:AllP [Qe Try.prog (.clos 154 [] []) [.int .i64 x,.int .i64 0,.int .i64 m] (.bool (Qa x 0 m))])
 (hr:AvLe (.bool (!(Qa x 0 m))) res):G Try.prog E [.code (Qd Try.prog 153)] ⟨[.int .i64 x,.rptr [.int .i64 m] 0]++unds (Try.f153.ntmps - 2),[]⟩ :=
 Qb (n:=400) (evs:=[.v (.bool (Qa x 0 m))]) (obs:=_) hE Try.func153 Qh (by kernel_rfl) ho hr
theorem f153W (x:Int) (m:Int) {E:Env} {rv:Bool} (hE:Qf Try.prog 153 (.bool rv) E)
 (h:rv=(!(Qa x 0 m))):G Try.prog E [.code (Qd Try.prog 153)] ⟨[.int .i64 x,.rptr [.int .i64 m] 0]++unds (Try.f153.ntmps - 2),[]⟩:=by
 exact p153_start_0 x m hE ⟨(u154 (Vm x 0 m)),trivial⟩ (AvLe.of_eq (by rw [h]; try rfl))
theorem f152b:Try.f152.body=some (Qd Try.prog 152):=by kernel_rfl
theorem u152 {a c k:List AV} {r:AV} (h:Pure Try.prog 152 (a++c++k) r):Qe Try.prog (.clos 152 a k) c r:=Qj Try.func152 (by kernel_rfl) f152b h
theorem p152_start_0 (m:Int) {E:Env} {res:AV} (hE:Qf Try.prog 152 res E) (ho:AllP [])
 (hr:AvLe (.clos 153 [] [.rptr [.int .i64 m] 0]) res):G Try.prog E [.code (Qd Try.prog 152)] ⟨[.int .i64 m]++unds (Try.f152.ntmps - 1),[]⟩ :=
 Qb (n:=400) (evs:=[]) (obs:=_) hE Try.func152 Qh (by kernel_rfl) ho hr
theorem f152W (m:Int) {E:Env} {rv:AV} (hE:Qf Try.prog 152 rv E)
 (h:rv=(.clos 153 [] [.rptr [.int .i64 m] 0])):G Try.prog E [.code (Qd Try.prog 152)] ⟨[.int .i64 m]++unds (Try.f152.ntmps - 1),[]⟩:=by
 exact p152_start_0 m hE trivial (AvLe.of_eq (by rw [h]; try rfl))
theorem bey_ok (x m:Int):Pure Try.prog 153 [.int .i64 x,.rptr [.int .i64 m] 0] (.bool (beyB m x)):=Qv Try.func153 f153b fun E hE=>f153W x m (rv:=beyB m x) hE rfl
theorem QM (m:Int):Pure Try.prog 152 [.int .i64 m] (.clos 153 [] [.rptr [.int .i64 m] 0]):=Qv Try.func152 f152b fun E hE=>f152W m (rv:=.clos 153 [] [.rptr [.int .i64 m] 0]) hE rfl
theorem f59byb:Try.f59.body=some (Qd Try.prog 59):=by kernel_rfl
def yu (P:Program):List Item:=kAt 400 [.code (Qd P 59)] [.stop]
def Qde (l:(List Int)) (m:Int) (i:Nat):St:=⟨([.rsl (rowI l) 0 l.length,.clos 153 [] [.rptr [.int .i64 m] 0]]++jj 5 ([.int .i64 (l.length:Int),.int .i64 (i:Int)]++Js 10)),[]⟩
def Qdf (E:Env) (l:(List Int)) (m:Int) (i:Nat):Prop:=G Try.prog E (yu Try.prog) (Qde l m i )
theorem QbV (l:(List Int)) (m:Int) {E:Env} {rv:AV} (hE:Qf Try.prog 59 rv E) (ho:AllP [])
 (hg:G Try.prog E (yu Try.prog) ⟨([.rsl (rowI l) 0 l.length,.clos 153 [] [.rptr [.int .i64 m] 0]]++jj 5 ([.int .i64 (l.length:Int),.int .i64 0]++Js 10)),[]⟩):G Try.prog E [.code (Qd Try.prog 59)] ⟨[.rsl (rowI l) 0 l.length,.clos 153 [] [.rptr [.int .i64 m] 0]]++unds (Try.f59.ntmps - 2),[]⟩ :=
 Ql (n:=400) (ds:=[]) (cs:=[]) (live:=[0,1,7,8]) (m:=0) (evs:=[.stop]) (obs:=_) hE.2.1 (hE.nogh _) Qh (by kernel_rfl) ho hg
theorem f59byW (l:(List Int)) (m:Int) {E:Env} {rv:Int} (hE:Qf Try.prog 59 (.int .i64 rv) E)
 (h:Qdf E l m 0):G Try.prog E [.code (Qd Try.prog 59)] ⟨[.rsl (rowI l) 0 l.length,.clos 153 [] [.rptr [.int .i64 m] 0]]++unds (Try.f59.ntmps - 2),[]⟩:=by
 exact QbV l m hE trivial h
theorem p59by_0_0 (l:(List Int)) (m:Int) (i:Nat) (e:Int) {E:Env} {res:AV} (hE:Qf Try.prog 59 res E) (ho:AllP [(decide ((i:Int)<(l.length:Int)))=true,0≤(i:Int)∧(i:Int)<(l.length:Int),((rowI l).drop (0+(Int.toNat (i:Int))*1)).take 1=[.int .i64 e],Qe Try.prog (.clos 153 [] [.rptr [.int .i64 m] 0]) [.int .i64 e] (.bool (beyB m e)),(beyB m e)=true])
 (hr:AvLe (.int .i64 (i:Int)) res):G Try.prog E (yu Try.prog) (Qde l m i ) :=
 Qb (n:=400) (evs:=[.b true,.ld (.int .i64 e),.v (.bool (beyB m e)),.b true]) (obs:=_) hE Try.func59 Qh (by kernel_rfl) ho hr
theorem p59by_0_1 (l:(List Int)) (m:Int) (i:Nat) (e:Int) {E:Env} {rv:AV} (hE:Qf Try.prog 59 rv E) (ho:AllP [(decide ((i:Int)<(l.length:Int)))=true,0≤(i:Int)∧(i:Int)<(l.length:Int),((rowI l).drop (0+(Int.toNat (i:Int))*1)).take 1=[.int .i64 e],Qe Try.prog (.clos 153 [] [.rptr [.int .i64 m] 0]) [.int .i64 e] (.bool (beyB m e)),(beyB m e)=false,InR .i64 ((i:Int)+1)])
 (hg:G Try.prog E (yu Try.prog) ⟨([.rsl (rowI l) 0 l.length,.clos 153 [] [.rptr [.int .i64 m] 0]]++jj 5 ([.int .i64 (l.length:Int),.int .i64 ((i:Int)+1)]++Js 10)),[]⟩):G Try.prog E (yu Try.prog) (Qde l m i ) :=
 Ql (n:=400) (ds:=[]) (cs:=[]) (live:=[0,1,7,8]) (m:=0) (evs:=[.b true,.ld (.int .i64 e),.v (.bool (beyB m e)),.b false,.stop]) (obs:=_) hE.2.1 (hE.nogh _) Qh (by kernel_rfl) ho hg
theorem p59by_0_2 (l:(List Int)) (m:Int) (i:Nat) {E:Env} {res:AV} (hE:Qf Try.prog 59 res E) (ho:AllP [(decide ((i:Int)<(l.length:Int)))=false])
 (hr:AvLe (.int .i64 (-1)) res):G Try.prog E (yu Try.prog) (Qde l m i ) :=
 Qb (n:=400) (evs:=[.b false]) (obs:=_) hE Try.func59 Qh (by kernel_rfl) ho hr
theorem f59byW0 (l:(List Int)) (m:Int) (i:Nat) {E:Env} {rv:Int} (hE:Qf Try.prog 59 (.int .i64 rv) E)
 (h:(((i:Int)<(l.length:Int)→(∃ e:Int,l[i]?=some e∧(((beyB m e)=true→rv=(i:Int))∧((beyB m e)=false→((I6 ((i:Int)+1))∧Qdf E l m (i+1))))))∧(¬ ((i:Int)<(l.length:Int))→rv=(-1)))):Qdf E l m i:=by
 rcases bft (decide ((i:Int)<(l.length:Int))) with hc0 | hc0
 · have h:=h.1 (odt hc0)
   obtain ⟨e,h1,h⟩:=h
   rcases bft (beyB m e) with hc1 | hc1
   · have h:=h.1 hc1
     exact p59by_0_0 l m i e hE ⟨hc0,(QE h1),(rp cI 1 0 1 h1),(u153 (bey_ok e m)),hc1,trivial⟩ (AvLe.of_eq (by rw [h]; try rfl))
   · have h:=h.2 hc1
     obtain ⟨q6_2,h⟩:=h
     exact p59by_0_1 l m i e hE ⟨hc0,(QE h1),(rp cI 1 0 1 h1),(u153 (bey_ok e m)),hc1,q6_2,trivial⟩ h
 · have h:=h.2 (odf hc0)
   exact p59by_0_2 l m i hE ⟨hc0,trivial⟩ (AvLe.of_eq (by rw [h]; try rfl))
theorem idxBey_ok (l:List Int) (m:Int) (h:l.length≤9223372036854775807):Pure Try.prog 59 [.rsl (rowI l) 0 l.length,.clos 153 [] [.rptr [.int .i64 m] 0]] (.int .i64 (idxG (beyB m) l)):=Qv Try.func59 f59byb fun E hE=>by
 have hl:=h
 refine f59byW l m (rv:=idxG (beyB m) l) hE (Yy (beyB m) l l.length 0 (by omega) (fun j x hj=>by omega) (fun i=>Qdf E l m i) (fun i hi' h1 h2=>?_) (fun _ h2=>?_))
 · have hx:l[i]?=some l[i]:=List.getElem?_eq_getElem hi'
   have hm:=List.mem_of_getElem? hx
   exact f59byW0 l m i (rv:=idxG (beyB m) l) hE ⟨fun _=>⟨_,hx,fun hp=>h1 _ hx (by simpa using hp),fun hp=>⟨by omega,h2 _ hx (by simpa using hp)⟩⟩,fun h=>by omega⟩
 · exact f59byW0 l m _ (rv:=idxG (beyB m) l) hE ⟨fun h=>by omega,fun _=>h2⟩
theorem XC:Try.f76.body=some (Qd Try.prog 76):=by kernel_rfl
theorem QbQ (l:(List Int)) (m:Int) {E:Env} {res:AV} (hE:Qf Try.prog 76 res E) (ho:AllP [Qe Try.prog (.clos 59 [] []) [.rsl (rowI l) 0 l.length,.clos 153 [] [.rptr [.int .i64 m] 0]] (.int .i64 (idxG (beyB m) l))])
 (hr:AvLe (.bool (decide ((idxG (beyB m) l)≥0))) res):G Try.prog E [.code (Qd Try.prog 76)] ⟨[.rsl (rowI l) 0 l.length,.clos 153 [] [.rptr [.int .i64 m] 0]]++unds (Try.f76.ntmps - 2),[]⟩ :=
 Qb (n:=400) (evs:=[.v (.int .i64 (idxG (beyB m) l))]) (obs:=_) hE Try.func76 Qh (by kernel_rfl) ho hr
theorem f76byW (l:(List Int)) (m:Int) {E:Env} {rv:Bool} (hE:Qf Try.prog 76 (.bool rv) E)
 (h:((l.length≤9223372036854775807)∧rv=(decide ((idxG (beyB m) l)≥0)))):G Try.prog E [.code (Qd Try.prog 76)] ⟨[.rsl (rowI l) 0 l.length,.clos 153 [] [.rptr [.int .i64 m] 0]]++unds (Try.f76.ntmps - 2),[]⟩:=by
 obtain ⟨h1,h⟩:=h
 exact QbQ l m hE ⟨(Qj Try.func59 (by kernel_rfl) f59byb (idxBey_ok l m h1)),trivial⟩ (AvLe.of_eq (by rw [h]; try rfl))
theorem QN (l:List Int) (m:Int) (h:l.length≤9223372036854775807):Pure Try.prog 76 [.rsl (rowI l) 0 l.length,.clos 153 [] [.rptr [.int .i64 m] 0]] (.bool (l.any (beyB m))):=Qv Try.func76 XC fun E hE =>
 f76byW l m (rv:=l.any (beyB m)) hE ⟨h,(VI _ _).symm⟩
theorem f81b:Try.f81.body=some (Qd Try.prog 81):=by kernel_rfl
theorem u81 {a c k:List AV} {r:AV} (h:Pure Try.prog 81 (a++c++k) r):Qe Try.prog (.clos 81 a k) c r:=Qj Try.func81 (by kernel_rfl) f81b h
abbrev YJ (g:Gala):List AV:=[.agg [.rsl (Qi g.ev.rides) 0 g.ev.rides.length,.int .i64 g.ev.walk,.rsl (Qg g.k.rules) 0 g.k.rules.length,.rsl (rowI g.k.ranks) 0 g.k.ranks.length,.rsl (rowI g.k.insured) 0 g.k.insured.length,.rsl (Qc g.es) 0 g.es.length,.int .i64 g.day,.rsl (Qp g.sup.boards) 0 g.sup.boards.length,.rsl (Qo g.sup.loads) 0 g.sup.loads.length,.int .i64 g.sup.power,.int .i64 g.sup.hold,.int .i64 g.sup.volts,.rsl (rowI g.lim) 0 g.lim.length,.rsl (rowI g.emp) 0 g.emp.length]]
abbrev YL (g:Gala):List AV:=[.agg [.rsl (Qg g.k.rules) 0 g.k.rules.length,.rsl (rowI g.k.ranks) 0 g.k.ranks.length,.rsl (rowI g.k.insured) 0 g.k.insured.length],.rsl (Qc g.es) 0 g.es.length]
abbrev YV (g:Gala):List AV:=[.agg [.rsl (Qp g.sup.boards) 0 g.sup.boards.length,.rsl (Qo g.sup.loads) 0 g.sup.loads.length,.int .i64 g.sup.power,.int .i64 g.sup.hold,.int .i64 g.sup.volts]]
abbrev Xm (g:Gala):AV:=.tup [.int .i64 (((logK g.k g.es).2).1),.int .i64 (((logK g.k g.es).2).2)]
abbrev YI (g:Gala):List AV:=[.agg [.rsl (Qi g.ev.rides) 0 g.ev.rides.length,.int .i64 g.ev.walk],.nilSl]
abbrev VS (g:Gala):List AV:=[.rsl (rowI g.lim) 0 g.lim.length,.clos 153 [] [.rptr [.int .i64 200] 0]]
abbrev QaA (g:Gala):List AV:=[.rsl (rowI g.emp) 0 g.emp.length,.clos 153 [] [.rptr [.int .i64 100] 0]]
theorem p81_start_0 (g:Gala) {E:Env} {res:AV} (hE:Qf Try.prog 81 res E) (ho:AllP [Qe Try.prog (.clos 150 [] []) (YI g) (.int .i64 (evnE g.ev)),((evnE g.ev) != 0)=true])
 (hr:AvLe (.int .i64 (evnE g.ev)) res):G Try.prog E [.code (Qd Try.prog 81)] ⟨(YJ g)++unds (Try.f81.ntmps - 1),[]⟩ :=
 Qb (n:=400) (evs:=[.v (.int .i64 (evnE g.ev)),.b true]) (obs:=_) hE Try.func81 Qh (by kernel_rfl) ho hr
theorem p81_start_1 (g:Gala) {E:Env} {res:AV} (hE:Qf Try.prog 81 res E) (ho:AllP [Qe Try.prog (.clos 150 [] []) (YI g) (.int .i64 (evnE g.ev)),((evnE g.ev) != 0)=false,Qe Try.prog (.clos 151 [] []) (YL g) (Xm g),(((logK g.k g.es).2).2 != 0)=true])
 (hr:AvLe (.int .i64 (((logK g.k g.es).2).2)) res):G Try.prog E [.code (Qd Try.prog 81)] ⟨(YJ g)++unds (Try.f81.ntmps - 1),[]⟩ :=
 Qb (n:=400) (evs:=[.v (.int .i64 (evnE g.ev)),.b false,.v (Xm g),.b true]) (obs:=_) hE Try.func81 Qh (by kernel_rfl) ho hr
theorem p81_start_2 (g:Gala) {E:Env} {res:AV} (hE:Qf Try.prog 81 res E) (ho:AllP [Qe Try.prog (.clos 150 [] []) (YI g) (.int .i64 (evnE g.ev)),((evnE g.ev) != 0)=false,Qe Try.prog (.clos 151 [] []) (YL g) (Xm g),(((logK g.k g.es).2).2 != 0)=false,Qe Try.prog (.clos 61 [] []) (YV g) (.int .i64 (splE g.sup)),((splE g.sup) != 0)=true])
 (hr:AvLe (.int .i64 (splE g.sup)) res):G Try.prog E [.code (Qd Try.prog 81)] ⟨(YJ g)++unds (Try.f81.ntmps - 1),[]⟩ :=
 Qb (n:=400) (evs:=[.v (.int .i64 (evnE g.ev)),.b false,.v (Xm g),.b false,.v (.int .i64 (splE g.sup)),.b true]) (obs:=_) hE Try.func81 Qh (by kernel_rfl) ho hr
theorem p81_start_3 (g:Gala) {E:Env} {res:AV} (hE:Qf Try.prog 81 res E) (ho:AllP [Qe Try.prog (.clos 150 [] []) (YI g) (.int .i64 (evnE g.ev)),((evnE g.ev) != 0)=false,Qe Try.prog (.clos 151 [] []) (YL g) (Xm g),(((logK g.k g.es).2).2 != 0)=false,Qe Try.prog (.clos 61 [] []) (YV g) (.int .i64 (splE g.sup)),((splE g.sup) != 0)=false,((g.k.insured.length:Int) != (g.ev.rides.length:Int))=true,((g.k.insured.length:Int) != (g.ev.rides.length:Int))=true])
 (hr:AvLe (.int .i64 120) res):G Try.prog E [.code (Qd Try.prog 81)] ⟨(YJ g)++unds (Try.f81.ntmps - 1),[]⟩ :=
 Qb (n:=400) (evs:=[.v (.int .i64 (evnE g.ev)),.b false,.v (Xm g),.b false,.v (.int .i64 (splE g.sup)),.b false,.b true,.b true]) (obs:=_) hE Try.func81 Qh (by kernel_rfl) ho hr
theorem p81_start_4 (g:Gala) {E:Env} {res:AV} (hE:Qf Try.prog 81 res E) (ho:AllP [Qe Try.prog (.clos 150 [] []) (YI g) (.int .i64 (evnE g.ev)),((evnE g.ev) != 0)=false,Qe Try.prog (.clos 151 [] []) (YL g) (Xm g),(((logK g.k g.es).2).2 != 0)=false,Qe Try.prog (.clos 61 [] []) (YV g) (.int .i64 (splE g.sup)),((splE g.sup) != 0)=false,((g.k.insured.length:Int) != (g.ev.rides.length:Int))=true,((g.k.insured.length:Int) != (g.ev.rides.length:Int))=false,Qe Try.prog (.clos 152 [] []) [.int .i64 200] (.clos 153 [] [.rptr [.int .i64 200] 0]),Qe Try.prog (.clos 76 [] []) (VS g) (.bool (g.lim.any (beyB 200))),(g.lim.any (beyB 200))=true,(g.lim.any (beyB 200))=true])
 (hr:AvLe (.int .i64 120) res):G Try.prog E [.code (Qd Try.prog 81)] ⟨(YJ g)++unds (Try.f81.ntmps - 1),[]⟩ :=
 Qb (n:=400) (evs:=[.v (.int .i64 (evnE g.ev)),.b false,.v (Xm g),.b false,.v (.int .i64 (splE g.sup)),.b false,.b true,.b false,.v (.clos 153 [] [.rptr [.int .i64 200] 0]),.v (.bool (g.lim.any (beyB 200))),.b true,.b true]) (obs:=_) hE Try.func81 Qh (by kernel_rfl) ho hr
theorem p81_start_5 (g:Gala) {E:Env} {res:AV} (hE:Qf Try.prog 81 res E) (ho:AllP [Qe Try.prog (.clos 150 [] []) (YI g) (.int .i64 (evnE g.ev)),((evnE g.ev) != 0)=false,Qe Try.prog (.clos 151 [] []) (YL g) (Xm g),(((logK g.k g.es).2).2 != 0)=false,Qe Try.prog (.clos 61 [] []) (YV g) (.int .i64 (splE g.sup)),((splE g.sup) != 0)=false,((g.k.insured.length:Int) != (g.ev.rides.length:Int))=true,((g.k.insured.length:Int) != (g.ev.rides.length:Int))=false,Qe Try.prog (.clos 152 [] []) [.int .i64 200] (.clos 153 [] [.rptr [.int .i64 200] 0]),Qe Try.prog (.clos 76 [] []) (VS g) (.bool (g.lim.any (beyB 200))),(g.lim.any (beyB 200))=true,(g.lim.any (beyB 200))=false])
 (hr:AvLe (.int .i64 0) res):G Try.prog E [.code (Qd Try.prog 81)] ⟨(YJ g)++unds (Try.f81.ntmps - 1),[]⟩ :=
 Qb (n:=400) (evs:=[.v (.int .i64 (evnE g.ev)),.b false,.v (Xm g),.b false,.v (.int .i64 (splE g.sup)),.b false,.b true,.b false,.v (.clos 153 [] [.rptr [.int .i64 200] 0]),.v (.bool (g.lim.any (beyB 200))),.b true,.b false]) (obs:=_) hE Try.func81 Qh (by kernel_rfl) ho hr
theorem p81_start_6 (g:Gala) {E:Env} {res:AV} (hE:Qf Try.prog 81 res E) (ho:AllP [Qe Try.prog (.clos 150 [] []) (YI g) (.int .i64 (evnE g.ev)),((evnE g.ev) != 0)=false,Qe Try.prog (.clos 151 [] []) (YL g) (Xm g),(((logK g.k g.es).2).2 != 0)=false,Qe Try.prog (.clos 61 [] []) (YV g) (.int .i64 (splE g.sup)),((splE g.sup) != 0)=false,((g.k.insured.length:Int) != (g.ev.rides.length:Int))=true,((g.k.insured.length:Int) != (g.ev.rides.length:Int))=false,Qe Try.prog (.clos 152 [] []) [.int .i64 200] (.clos 153 [] [.rptr [.int .i64 200] 0]),Qe Try.prog (.clos 76 [] []) (VS g) (.bool (g.lim.any (beyB 200))),(g.lim.any (beyB 200))=false,Qe Try.prog (.clos 152 [] []) [.int .i64 100] (.clos 153 [] [.rptr [.int .i64 100] 0]),Qe Try.prog (.clos 76 [] []) (QaA g) (.bool (g.emp.any (beyB 100))),(g.emp.any (beyB 100))=true])
 (hr:AvLe (.int .i64 120) res):G Try.prog E [.code (Qd Try.prog 81)] ⟨(YJ g)++unds (Try.f81.ntmps - 1),[]⟩ :=
 Qb (n:=400) (evs:=[.v (.int .i64 (evnE g.ev)),.b false,.v (Xm g),.b false,.v (.int .i64 (splE g.sup)),.b false,.b true,.b false,.v (.clos 153 [] [.rptr [.int .i64 200] 0]),.v (.bool (g.lim.any (beyB 200))),.b false,.v (.clos 153 [] [.rptr [.int .i64 100] 0]),.v (.bool (g.emp.any (beyB 100))),.b true]) (obs:=_) hE Try.func81 Qh (by kernel_rfl) ho hr
theorem p81_start_7 (g:Gala) {E:Env} {res:AV} (hE:Qf Try.prog 81 res E) (ho:AllP [Qe Try.prog (.clos 150 [] []) (YI g) (.int .i64 (evnE g.ev)),((evnE g.ev) != 0)=false,Qe Try.prog (.clos 151 [] []) (YL g) (Xm g),(((logK g.k g.es).2).2 != 0)=false,Qe Try.prog (.clos 61 [] []) (YV g) (.int .i64 (splE g.sup)),((splE g.sup) != 0)=false,((g.k.insured.length:Int) != (g.ev.rides.length:Int))=true,((g.k.insured.length:Int) != (g.ev.rides.length:Int))=false,Qe Try.prog (.clos 152 [] []) [.int .i64 200] (.clos 153 [] [.rptr [.int .i64 200] 0]),Qe Try.prog (.clos 76 [] []) (VS g) (.bool (g.lim.any (beyB 200))),(g.lim.any (beyB 200))=false,Qe Try.prog (.clos 152 [] []) [.int .i64 100] (.clos 153 [] [.rptr [.int .i64 100] 0]),Qe Try.prog (.clos 76 [] []) (QaA g) (.bool (g.emp.any (beyB 100))),(g.emp.any (beyB 100))=false])
 (hr:AvLe (.int .i64 0) res):G Try.prog E [.code (Qd Try.prog 81)] ⟨(YJ g)++unds (Try.f81.ntmps - 1),[]⟩ :=
 Qb (n:=400) (evs:=[.v (.int .i64 (evnE g.ev)),.b false,.v (Xm g),.b false,.v (.int .i64 (splE g.sup)),.b false,.b true,.b false,.v (.clos 153 [] [.rptr [.int .i64 200] 0]),.v (.bool (g.lim.any (beyB 200))),.b false,.v (.clos 153 [] [.rptr [.int .i64 100] 0]),.v (.bool (g.emp.any (beyB 100))),.b false]) (obs:=_) hE Try.func81 Qh (by kernel_rfl) ho hr
theorem p81_start_8 (g:Gala) {E:Env} {res:AV} (hE:Qf Try.prog 81 res E) (ho:AllP [Qe Try.prog (.clos 150 [] []) (YI g) (.int .i64 (evnE g.ev)),((evnE g.ev) != 0)=false,Qe Try.prog (.clos 151 [] []) (YL g) (Xm g),(((logK g.k g.es).2).2 != 0)=false,Qe Try.prog (.clos 61 [] []) (YV g) (.int .i64 (splE g.sup)),((splE g.sup) != 0)=false,((g.k.insured.length:Int) != (g.ev.rides.length:Int))=false,((g.sup.loads.length:Int) != (g.ev.rides.length:Int))=true,((g.sup.loads.length:Int) != (g.ev.rides.length:Int))=true])
 (hr:AvLe (.int .i64 120) res):G Try.prog E [.code (Qd Try.prog 81)] ⟨(YJ g)++unds (Try.f81.ntmps - 1),[]⟩ :=
 Qb (n:=400) (evs:=[.v (.int .i64 (evnE g.ev)),.b false,.v (Xm g),.b false,.v (.int .i64 (splE g.sup)),.b false,.b false,.b true,.b true]) (obs:=_) hE Try.func81 Qh (by kernel_rfl) ho hr
theorem p81_start_9 (g:Gala) {E:Env} {res:AV} (hE:Qf Try.prog 81 res E) (ho:AllP [Qe Try.prog (.clos 150 [] []) (YI g) (.int .i64 (evnE g.ev)),((evnE g.ev) != 0)=false,Qe Try.prog (.clos 151 [] []) (YL g) (Xm g),(((logK g.k g.es).2).2 != 0)=false,Qe Try.prog (.clos 61 [] []) (YV g) (.int .i64 (splE g.sup)),((splE g.sup) != 0)=false,((g.k.insured.length:Int) != (g.ev.rides.length:Int))=false,((g.sup.loads.length:Int) != (g.ev.rides.length:Int))=true,((g.sup.loads.length:Int) != (g.ev.rides.length:Int))=false,Qe Try.prog (.clos 152 [] []) [.int .i64 200] (.clos 153 [] [.rptr [.int .i64 200] 0]),Qe Try.prog (.clos 76 [] []) (VS g) (.bool (g.lim.any (beyB 200))),(g.lim.any (beyB 200))=true,(g.lim.any (beyB 200))=true])
 (hr:AvLe (.int .i64 120) res):G Try.prog E [.code (Qd Try.prog 81)] ⟨(YJ g)++unds (Try.f81.ntmps - 1),[]⟩ :=
 Qb (n:=400) (evs:=[.v (.int .i64 (evnE g.ev)),.b false,.v (Xm g),.b false,.v (.int .i64 (splE g.sup)),.b false,.b false,.b true,.b false,.v (.clos 153 [] [.rptr [.int .i64 200] 0]),.v (.bool (g.lim.any (beyB 200))),.b true,.b true]) (obs:=_) hE Try.func81 Qh (by kernel_rfl) ho hr
theorem p81_start_10 (g:Gala) {E:Env} {res:AV} (hE:Qf Try.prog 81 res E) (ho:AllP [Qe Try.prog (.clos 150 [] []) (YI g) (.int .i64 (evnE g.ev)),((evnE g.ev) != 0)=false,Qe Try.prog (.clos 151 [] []) (YL g) (Xm g),(((logK g.k g.es).2).2 != 0)=false,Qe Try.prog (.clos 61 [] []) (YV g) (.int .i64 (splE g.sup)),((splE g.sup) != 0)=false,((g.k.insured.length:Int) != (g.ev.rides.length:Int))=false,((g.sup.loads.length:Int) != (g.ev.rides.length:Int))=true,((g.sup.loads.length:Int) != (g.ev.rides.length:Int))=false,Qe Try.prog (.clos 152 [] []) [.int .i64 200] (.clos 153 [] [.rptr [.int .i64 200] 0]),Qe Try.prog (.clos 76 [] []) (VS g) (.bool (g.lim.any (beyB 200))),(g.lim.any (beyB 200))=true,(g.lim.any (beyB 200))=false])
 (hr:AvLe (.int .i64 0) res):G Try.prog E [.code (Qd Try.prog 81)] ⟨(YJ g)++unds (Try.f81.ntmps - 1),[]⟩ :=
 Qb (n:=400) (evs:=[.v (.int .i64 (evnE g.ev)),.b false,.v (Xm g),.b false,.v (.int .i64 (splE g.sup)),.b false,.b false,.b true,.b false,.v (.clos 153 [] [.rptr [.int .i64 200] 0]),.v (.bool (g.lim.any (beyB 200))),.b true,.b false]) (obs:=_) hE Try.func81 Qh (by kernel_rfl) ho hr
theorem p81_start_11 (g:Gala) {E:Env} {res:AV} (hE:Qf Try.prog 81 res E) (ho:AllP [Qe Try.prog (.clos 150 [] []) (YI g) (.int .i64 (evnE g.ev)),((evnE g.ev) != 0)=false,Qe Try.prog (.clos 151 [] []) (YL g) (Xm g),(((logK g.k g.es).2).2 != 0)=false,Qe Try.prog (.clos 61 [] []) (YV g) (.int .i64 (splE g.sup)),((splE g.sup) != 0)=false,((g.k.insured.length:Int) != (g.ev.rides.length:Int))=false,((g.sup.loads.length:Int) != (g.ev.rides.length:Int))=true,((g.sup.loads.length:Int) != (g.ev.rides.length:Int))=false,Qe Try.prog (.clos 152 [] []) [.int .i64 200] (.clos 153 [] [.rptr [.int .i64 200] 0]),Qe Try.prog (.clos 76 [] []) (VS g) (.bool (g.lim.any (beyB 200))),(g.lim.any (beyB 200))=false,Qe Try.prog (.clos 152 [] []) [.int .i64 100] (.clos 153 [] [.rptr [.int .i64 100] 0]),Qe Try.prog (.clos 76 [] []) (QaA g) (.bool (g.emp.any (beyB 100))),(g.emp.any (beyB 100))=true])
 (hr:AvLe (.int .i64 120) res):G Try.prog E [.code (Qd Try.prog 81)] ⟨(YJ g)++unds (Try.f81.ntmps - 1),[]⟩ :=
 Qb (n:=400) (evs:=[.v (.int .i64 (evnE g.ev)),.b false,.v (Xm g),.b false,.v (.int .i64 (splE g.sup)),.b false,.b false,.b true,.b false,.v (.clos 153 [] [.rptr [.int .i64 200] 0]),.v (.bool (g.lim.any (beyB 200))),.b false,.v (.clos 153 [] [.rptr [.int .i64 100] 0]),.v (.bool (g.emp.any (beyB 100))),.b true]) (obs:=_) hE Try.func81 Qh (by kernel_rfl) ho hr
theorem p81_start_12 (g:Gala) {E:Env} {res:AV} (hE:Qf Try.prog 81 res E) (ho:AllP [Qe Try.prog (.clos 150 [] []) (YI g) (.int .i64 (evnE g.ev)),((evnE g.ev) != 0)=false,Qe Try.prog (.clos 151 [] []) (YL g) (Xm g),(((logK g.k g.es).2).2 != 0)=false,Qe Try.prog (.clos 61 [] []) (YV g) (.int .i64 (splE g.sup)),((splE g.sup) != 0)=false,((g.k.insured.length:Int) != (g.ev.rides.length:Int))=false,((g.sup.loads.length:Int) != (g.ev.rides.length:Int))=true,((g.sup.loads.length:Int) != (g.ev.rides.length:Int))=false,Qe Try.prog (.clos 152 [] []) [.int .i64 200] (.clos 153 [] [.rptr [.int .i64 200] 0]),Qe Try.prog (.clos 76 [] []) (VS g) (.bool (g.lim.any (beyB 200))),(g.lim.any (beyB 200))=false,Qe Try.prog (.clos 152 [] []) [.int .i64 100] (.clos 153 [] [.rptr [.int .i64 100] 0]),Qe Try.prog (.clos 76 [] []) (QaA g) (.bool (g.emp.any (beyB 100))),(g.emp.any (beyB 100))=false])
 (hr:AvLe (.int .i64 0) res):G Try.prog E [.code (Qd Try.prog 81)] ⟨(YJ g)++unds (Try.f81.ntmps - 1),[]⟩ :=
 Qb (n:=400) (evs:=[.v (.int .i64 (evnE g.ev)),.b false,.v (Xm g),.b false,.v (.int .i64 (splE g.sup)),.b false,.b false,.b true,.b false,.v (.clos 153 [] [.rptr [.int .i64 200] 0]),.v (.bool (g.lim.any (beyB 200))),.b false,.v (.clos 153 [] [.rptr [.int .i64 100] 0]),.v (.bool (g.emp.any (beyB 100))),.b false]) (obs:=_) hE Try.func81 Qh (by kernel_rfl) ho hr
theorem p81_start_13 (g:Gala) {E:Env} {res:AV} (hE:Qf Try.prog 81 res E) (ho:AllP [Qe Try.prog (.clos 150 [] []) (YI g) (.int .i64 (evnE g.ev)),((evnE g.ev) != 0)=false,Qe Try.prog (.clos 151 [] []) (YL g) (Xm g),(((logK g.k g.es).2).2 != 0)=false,Qe Try.prog (.clos 61 [] []) (YV g) (.int .i64 (splE g.sup)),((splE g.sup) != 0)=false,((g.k.insured.length:Int) != (g.ev.rides.length:Int))=false,((g.sup.loads.length:Int) != (g.ev.rides.length:Int))=false,((g.lim.length:Int) != (g.ev.rides.length:Int))=true,((g.lim.length:Int) != (g.ev.rides.length:Int))=true])
 (hr:AvLe (.int .i64 120) res):G Try.prog E [.code (Qd Try.prog 81)] ⟨(YJ g)++unds (Try.f81.ntmps - 1),[]⟩ :=
 Qb (n:=400) (evs:=[.v (.int .i64 (evnE g.ev)),.b false,.v (Xm g),.b false,.v (.int .i64 (splE g.sup)),.b false,.b false,.b false,.b true,.b true]) (obs:=_) hE Try.func81 Qh (by kernel_rfl) ho hr
theorem p81_start_14 (g:Gala) {E:Env} {res:AV} (hE:Qf Try.prog 81 res E) (ho:AllP [Qe Try.prog (.clos 150 [] []) (YI g) (.int .i64 (evnE g.ev)),((evnE g.ev) != 0)=false,Qe Try.prog (.clos 151 [] []) (YL g) (Xm g),(((logK g.k g.es).2).2 != 0)=false,Qe Try.prog (.clos 61 [] []) (YV g) (.int .i64 (splE g.sup)),((splE g.sup) != 0)=false,((g.k.insured.length:Int) != (g.ev.rides.length:Int))=false,((g.sup.loads.length:Int) != (g.ev.rides.length:Int))=false,((g.lim.length:Int) != (g.ev.rides.length:Int))=true,((g.lim.length:Int) != (g.ev.rides.length:Int))=false,Qe Try.prog (.clos 152 [] []) [.int .i64 200] (.clos 153 [] [.rptr [.int .i64 200] 0]),Qe Try.prog (.clos 76 [] []) (VS g) (.bool (g.lim.any (beyB 200))),(g.lim.any (beyB 200))=true,(g.lim.any (beyB 200))=true])
 (hr:AvLe (.int .i64 120) res):G Try.prog E [.code (Qd Try.prog 81)] ⟨(YJ g)++unds (Try.f81.ntmps - 1),[]⟩ :=
 Qb (n:=400) (evs:=[.v (.int .i64 (evnE g.ev)),.b false,.v (Xm g),.b false,.v (.int .i64 (splE g.sup)),.b false,.b false,.b false,.b true,.b false,.v (.clos 153 [] [.rptr [.int .i64 200] 0]),.v (.bool (g.lim.any (beyB 200))),.b true,.b true]) (obs:=_) hE Try.func81 Qh (by kernel_rfl) ho hr
theorem p81_start_15 (g:Gala) {E:Env} {res:AV} (hE:Qf Try.prog 81 res E) (ho:AllP [Qe Try.prog (.clos 150 [] []) (YI g) (.int .i64 (evnE g.ev)),((evnE g.ev) != 0)=false,Qe Try.prog (.clos 151 [] []) (YL g) (Xm g),(((logK g.k g.es).2).2 != 0)=false,Qe Try.prog (.clos 61 [] []) (YV g) (.int .i64 (splE g.sup)),((splE g.sup) != 0)=false,((g.k.insured.length:Int) != (g.ev.rides.length:Int))=false,((g.sup.loads.length:Int) != (g.ev.rides.length:Int))=false,((g.lim.length:Int) != (g.ev.rides.length:Int))=true,((g.lim.length:Int) != (g.ev.rides.length:Int))=false,Qe Try.prog (.clos 152 [] []) [.int .i64 200] (.clos 153 [] [.rptr [.int .i64 200] 0]),Qe Try.prog (.clos 76 [] []) (VS g) (.bool (g.lim.any (beyB 200))),(g.lim.any (beyB 200))=true,(g.lim.any (beyB 200))=false])
 (hr:AvLe (.int .i64 0) res):G Try.prog E [.code (Qd Try.prog 81)] ⟨(YJ g)++unds (Try.f81.ntmps - 1),[]⟩ :=
 Qb (n:=400) (evs:=[.v (.int .i64 (evnE g.ev)),.b false,.v (Xm g),.b false,.v (.int .i64 (splE g.sup)),.b false,.b false,.b false,.b true,.b false,.v (.clos 153 [] [.rptr [.int .i64 200] 0]),.v (.bool (g.lim.any (beyB 200))),.b true,.b false]) (obs:=_) hE Try.func81 Qh (by kernel_rfl) ho hr
theorem p81_start_16 (g:Gala) {E:Env} {res:AV} (hE:Qf Try.prog 81 res E) (ho:AllP [Qe Try.prog (.clos 150 [] []) (YI g) (.int .i64 (evnE g.ev)),((evnE g.ev) != 0)=false,Qe Try.prog (.clos 151 [] []) (YL g) (Xm g),(((logK g.k g.es).2).2 != 0)=false,Qe Try.prog (.clos 61 [] []) (YV g) (.int .i64 (splE g.sup)),((splE g.sup) != 0)=false,((g.k.insured.length:Int) != (g.ev.rides.length:Int))=false,((g.sup.loads.length:Int) != (g.ev.rides.length:Int))=false,((g.lim.length:Int) != (g.ev.rides.length:Int))=true,((g.lim.length:Int) != (g.ev.rides.length:Int))=false,Qe Try.prog (.clos 152 [] []) [.int .i64 200] (.clos 153 [] [.rptr [.int .i64 200] 0]),Qe Try.prog (.clos 76 [] []) (VS g) (.bool (g.lim.any (beyB 200))),(g.lim.any (beyB 200))=false,Qe Try.prog (.clos 152 [] []) [.int .i64 100] (.clos 153 [] [.rptr [.int .i64 100] 0]),Qe Try.prog (.clos 76 [] []) (QaA g) (.bool (g.emp.any (beyB 100))),(g.emp.any (beyB 100))=true])
 (hr:AvLe (.int .i64 120) res):G Try.prog E [.code (Qd Try.prog 81)] ⟨(YJ g)++unds (Try.f81.ntmps - 1),[]⟩ :=
 Qb (n:=400) (evs:=[.v (.int .i64 (evnE g.ev)),.b false,.v (Xm g),.b false,.v (.int .i64 (splE g.sup)),.b false,.b false,.b false,.b true,.b false,.v (.clos 153 [] [.rptr [.int .i64 200] 0]),.v (.bool (g.lim.any (beyB 200))),.b false,.v (.clos 153 [] [.rptr [.int .i64 100] 0]),.v (.bool (g.emp.any (beyB 100))),.b true]) (obs:=_) hE Try.func81 Qh (by kernel_rfl) ho hr
theorem p81_start_17 (g:Gala) {E:Env} {res:AV} (hE:Qf Try.prog 81 res E) (ho:AllP [Qe Try.prog (.clos 150 [] []) (YI g) (.int .i64 (evnE g.ev)),((evnE g.ev) != 0)=false,Qe Try.prog (.clos 151 [] []) (YL g) (Xm g),(((logK g.k g.es).2).2 != 0)=false,Qe Try.prog (.clos 61 [] []) (YV g) (.int .i64 (splE g.sup)),((splE g.sup) != 0)=false,((g.k.insured.length:Int) != (g.ev.rides.length:Int))=false,((g.sup.loads.length:Int) != (g.ev.rides.length:Int))=false,((g.lim.length:Int) != (g.ev.rides.length:Int))=true,((g.lim.length:Int) != (g.ev.rides.length:Int))=false,Qe Try.prog (.clos 152 [] []) [.int .i64 200] (.clos 153 [] [.rptr [.int .i64 200] 0]),Qe Try.prog (.clos 76 [] []) (VS g) (.bool (g.lim.any (beyB 200))),(g.lim.any (beyB 200))=false,Qe Try.prog (.clos 152 [] []) [.int .i64 100] (.clos 153 [] [.rptr [.int .i64 100] 0]),Qe Try.prog (.clos 76 [] []) (QaA g) (.bool (g.emp.any (beyB 100))),(g.emp.any (beyB 100))=false])
 (hr:AvLe (.int .i64 0) res):G Try.prog E [.code (Qd Try.prog 81)] ⟨(YJ g)++unds (Try.f81.ntmps - 1),[]⟩ :=
 Qb (n:=400) (evs:=[.v (.int .i64 (evnE g.ev)),.b false,.v (Xm g),.b false,.v (.int .i64 (splE g.sup)),.b false,.b false,.b false,.b true,.b false,.v (.clos 153 [] [.rptr [.int .i64 200] 0]),.v (.bool (g.lim.any (beyB 200))),.b false,.v (.clos 153 [] [.rptr [.int .i64 100] 0]),.v (.bool (g.emp.any (beyB 100))),.b false]) (obs:=_) hE Try.func81 Qh (by kernel_rfl) ho hr
theorem p81_start_18 (g:Gala) {E:Env} {res:AV} (hE:Qf Try.prog 81 res E) (ho:AllP [Qe Try.prog (.clos 150 [] []) (YI g) (.int .i64 (evnE g.ev)),((evnE g.ev) != 0)=false,Qe Try.prog (.clos 151 [] []) (YL g) (Xm g),(((logK g.k g.es).2).2 != 0)=false,Qe Try.prog (.clos 61 [] []) (YV g) (.int .i64 (splE g.sup)),((splE g.sup) != 0)=false,((g.k.insured.length:Int) != (g.ev.rides.length:Int))=false,((g.sup.loads.length:Int) != (g.ev.rides.length:Int))=false,((g.lim.length:Int) != (g.ev.rides.length:Int))=false,((g.emp.length:Int) != (g.ev.rides.length:Int))=true,((g.emp.length:Int) != (g.ev.rides.length:Int))=true])
 (hr:AvLe (.int .i64 120) res):G Try.prog E [.code (Qd Try.prog 81)] ⟨(YJ g)++unds (Try.f81.ntmps - 1),[]⟩ :=
 Qb (n:=400) (evs:=[.v (.int .i64 (evnE g.ev)),.b false,.v (Xm g),.b false,.v (.int .i64 (splE g.sup)),.b false,.b false,.b false,.b false,.b true,.b true]) (obs:=_) hE Try.func81 Qh (by kernel_rfl) ho hr
theorem p81_start_19 (g:Gala) {E:Env} {res:AV} (hE:Qf Try.prog 81 res E) (ho:AllP [Qe Try.prog (.clos 150 [] []) (YI g) (.int .i64 (evnE g.ev)),((evnE g.ev) != 0)=false,Qe Try.prog (.clos 151 [] []) (YL g) (Xm g),(((logK g.k g.es).2).2 != 0)=false,Qe Try.prog (.clos 61 [] []) (YV g) (.int .i64 (splE g.sup)),((splE g.sup) != 0)=false,((g.k.insured.length:Int) != (g.ev.rides.length:Int))=false,((g.sup.loads.length:Int) != (g.ev.rides.length:Int))=false,((g.lim.length:Int) != (g.ev.rides.length:Int))=false,((g.emp.length:Int) != (g.ev.rides.length:Int))=true,((g.emp.length:Int) != (g.ev.rides.length:Int))=false,Qe Try.prog (.clos 152 [] []) [.int .i64 200] (.clos 153 [] [.rptr [.int .i64 200] 0]),Qe Try.prog (.clos 76 [] []) (VS g) (.bool (g.lim.any (beyB 200))),(g.lim.any (beyB 200))=true,(g.lim.any (beyB 200))=true])
 (hr:AvLe (.int .i64 120) res):G Try.prog E [.code (Qd Try.prog 81)] ⟨(YJ g)++unds (Try.f81.ntmps - 1),[]⟩ :=
 Qb (n:=400) (evs:=[.v (.int .i64 (evnE g.ev)),.b false,.v (Xm g),.b false,.v (.int .i64 (splE g.sup)),.b false,.b false,.b false,.b false,.b true,.b false,.v (.clos 153 [] [.rptr [.int .i64 200] 0]),.v (.bool (g.lim.any (beyB 200))),.b true,.b true]) (obs:=_) hE Try.func81 Qh (by kernel_rfl) ho hr
theorem p81_start_20 (g:Gala) {E:Env} {res:AV} (hE:Qf Try.prog 81 res E) (ho:AllP [Qe Try.prog (.clos 150 [] []) (YI g) (.int .i64 (evnE g.ev)),((evnE g.ev) != 0)=false,Qe Try.prog (.clos 151 [] []) (YL g) (Xm g),(((logK g.k g.es).2).2 != 0)=false,Qe Try.prog (.clos 61 [] []) (YV g) (.int .i64 (splE g.sup)),((splE g.sup) != 0)=false,((g.k.insured.length:Int) != (g.ev.rides.length:Int))=false,((g.sup.loads.length:Int) != (g.ev.rides.length:Int))=false,((g.lim.length:Int) != (g.ev.rides.length:Int))=false,((g.emp.length:Int) != (g.ev.rides.length:Int))=true,((g.emp.length:Int) != (g.ev.rides.length:Int))=false,Qe Try.prog (.clos 152 [] []) [.int .i64 200] (.clos 153 [] [.rptr [.int .i64 200] 0]),Qe Try.prog (.clos 76 [] []) (VS g) (.bool (g.lim.any (beyB 200))),(g.lim.any (beyB 200))=true,(g.lim.any (beyB 200))=false])
 (hr:AvLe (.int .i64 0) res):G Try.prog E [.code (Qd Try.prog 81)] ⟨(YJ g)++unds (Try.f81.ntmps - 1),[]⟩ :=
 Qb (n:=400) (evs:=[.v (.int .i64 (evnE g.ev)),.b false,.v (Xm g),.b false,.v (.int .i64 (splE g.sup)),.b false,.b false,.b false,.b false,.b true,.b false,.v (.clos 153 [] [.rptr [.int .i64 200] 0]),.v (.bool (g.lim.any (beyB 200))),.b true,.b false]) (obs:=_) hE Try.func81 Qh (by kernel_rfl) ho hr
theorem p81_start_21 (g:Gala) {E:Env} {res:AV} (hE:Qf Try.prog 81 res E) (ho:AllP [Qe Try.prog (.clos 150 [] []) (YI g) (.int .i64 (evnE g.ev)),((evnE g.ev) != 0)=false,Qe Try.prog (.clos 151 [] []) (YL g) (Xm g),(((logK g.k g.es).2).2 != 0)=false,Qe Try.prog (.clos 61 [] []) (YV g) (.int .i64 (splE g.sup)),((splE g.sup) != 0)=false,((g.k.insured.length:Int) != (g.ev.rides.length:Int))=false,((g.sup.loads.length:Int) != (g.ev.rides.length:Int))=false,((g.lim.length:Int) != (g.ev.rides.length:Int))=false,((g.emp.length:Int) != (g.ev.rides.length:Int))=true,((g.emp.length:Int) != (g.ev.rides.length:Int))=false,Qe Try.prog (.clos 152 [] []) [.int .i64 200] (.clos 153 [] [.rptr [.int .i64 200] 0]),Qe Try.prog (.clos 76 [] []) (VS g) (.bool (g.lim.any (beyB 200))),(g.lim.any (beyB 200))=false,Qe Try.prog (.clos 152 [] []) [.int .i64 100] (.clos 153 [] [.rptr [.int .i64 100] 0]),Qe Try.prog (.clos 76 [] []) (QaA g) (.bool (g.emp.any (beyB 100))),(g.emp.any (beyB 100))=true])
 (hr:AvLe (.int .i64 120) res):G Try.prog E [.code (Qd Try.prog 81)] ⟨(YJ g)++unds (Try.f81.ntmps - 1),[]⟩ :=
 Qb (n:=400) (evs:=[.v (.int .i64 (evnE g.ev)),.b false,.v (Xm g),.b false,.v (.int .i64 (splE g.sup)),.b false,.b false,.b false,.b false,.b true,.b false,.v (.clos 153 [] [.rptr [.int .i64 200] 0]),.v (.bool (g.lim.any (beyB 200))),.b false,.v (.clos 153 [] [.rptr [.int .i64 100] 0]),.v (.bool (g.emp.any (beyB 100))),.b true]) (obs:=_) hE Try.func81 Qh (by kernel_rfl) ho hr
theorem p81_start_22 (g:Gala) {E:Env} {res:AV} (hE:Qf Try.prog 81 res E) (ho:AllP [Qe Try.prog (.clos 150 [] []) (YI g) (.int .i64 (evnE g.ev)),((evnE g.ev) != 0)=false,Qe Try.prog (.clos 151 [] []) (YL g) (Xm g),(((logK g.k g.es).2).2 != 0)=false,Qe Try.prog (.clos 61 [] []) (YV g) (.int .i64 (splE g.sup)),((splE g.sup) != 0)=false,((g.k.insured.length:Int) != (g.ev.rides.length:Int))=false,((g.sup.loads.length:Int) != (g.ev.rides.length:Int))=false,((g.lim.length:Int) != (g.ev.rides.length:Int))=false,((g.emp.length:Int) != (g.ev.rides.length:Int))=true,((g.emp.length:Int) != (g.ev.rides.length:Int))=false,Qe Try.prog (.clos 152 [] []) [.int .i64 200] (.clos 153 [] [.rptr [.int .i64 200] 0]),Qe Try.prog (.clos 76 [] []) (VS g) (.bool (g.lim.any (beyB 200))),(g.lim.any (beyB 200))=false,Qe Try.prog (.clos 152 [] []) [.int .i64 100] (.clos 153 [] [.rptr [.int .i64 100] 0]),Qe Try.prog (.clos 76 [] []) (QaA g) (.bool (g.emp.any (beyB 100))),(g.emp.any (beyB 100))=false])
 (hr:AvLe (.int .i64 0) res):G Try.prog E [.code (Qd Try.prog 81)] ⟨(YJ g)++unds (Try.f81.ntmps - 1),[]⟩ :=
 Qb (n:=400) (evs:=[.v (.int .i64 (evnE g.ev)),.b false,.v (Xm g),.b false,.v (.int .i64 (splE g.sup)),.b false,.b false,.b false,.b false,.b true,.b false,.v (.clos 153 [] [.rptr [.int .i64 200] 0]),.v (.bool (g.lim.any (beyB 200))),.b false,.v (.clos 153 [] [.rptr [.int .i64 100] 0]),.v (.bool (g.emp.any (beyB 100))),.b false]) (obs:=_) hE Try.func81 Qh (by kernel_rfl) ho hr
theorem p81_start_23 (g:Gala) {E:Env} {res:AV} (hE:Qf Try.prog 81 res E) (ho:AllP [Qe Try.prog (.clos 150 [] []) (YI g) (.int .i64 (evnE g.ev)),((evnE g.ev) != 0)=false,Qe Try.prog (.clos 151 [] []) (YL g) (Xm g),(((logK g.k g.es).2).2 != 0)=false,Qe Try.prog (.clos 61 [] []) (YV g) (.int .i64 (splE g.sup)),((splE g.sup) != 0)=false,((g.k.insured.length:Int) != (g.ev.rides.length:Int))=false,((g.sup.loads.length:Int) != (g.ev.rides.length:Int))=false,((g.lim.length:Int) != (g.ev.rides.length:Int))=false,((g.emp.length:Int) != (g.ev.rides.length:Int))=false,Qe Try.prog (.clos 154 [] []) [.int .i64 g.day,.int .i64 0,.int .i64 10000] (.bool (Qa g.day 0 10000)),(!(Qa g.day 0 10000))=true])
 (hr:AvLe (.int .i64 120) res):G Try.prog E [.code (Qd Try.prog 81)] ⟨(YJ g)++unds (Try.f81.ntmps - 1),[]⟩ :=
 Qb (n:=400) (evs:=[.v (.int .i64 (evnE g.ev)),.b false,.v (Xm g),.b false,.v (.int .i64 (splE g.sup)),.b false,.b false,.b false,.b false,.b false,.v (.bool (Qa g.day 0 10000)),.b true]) (obs:=_) hE Try.func81 Qh (by kernel_rfl) ho hr
theorem p81_start_24 (g:Gala) {E:Env} {res:AV} (hE:Qf Try.prog 81 res E) (ho:AllP [Qe Try.prog (.clos 150 [] []) (YI g) (.int .i64 (evnE g.ev)),((evnE g.ev) != 0)=false,Qe Try.prog (.clos 151 [] []) (YL g) (Xm g),(((logK g.k g.es).2).2 != 0)=false,Qe Try.prog (.clos 61 [] []) (YV g) (.int .i64 (splE g.sup)),((splE g.sup) != 0)=false,((g.k.insured.length:Int) != (g.ev.rides.length:Int))=false,((g.sup.loads.length:Int) != (g.ev.rides.length:Int))=false,((g.lim.length:Int) != (g.ev.rides.length:Int))=false,((g.emp.length:Int) != (g.ev.rides.length:Int))=false,Qe Try.prog (.clos 154 [] []) [.int .i64 g.day,.int .i64 0,.int .i64 10000] (.bool (Qa g.day 0 10000)),(!(Qa g.day 0 10000))=false,Qe Try.prog (.clos 152 [] []) [.int .i64 200] (.clos 153 [] [.rptr [.int .i64 200] 0]),Qe Try.prog (.clos 76 [] []) (VS g) (.bool (g.lim.any (beyB 200))),(g.lim.any (beyB 200))=true,(g.lim.any (beyB 200))=true])
 (hr:AvLe (.int .i64 120) res):G Try.prog E [.code (Qd Try.prog 81)] ⟨(YJ g)++unds (Try.f81.ntmps - 1),[]⟩ :=
 Qb (n:=400) (evs:=[.v (.int .i64 (evnE g.ev)),.b false,.v (Xm g),.b false,.v (.int .i64 (splE g.sup)),.b false,.b false,.b false,.b false,.b false,.v (.bool (Qa g.day 0 10000)),.b false,.v (.clos 153 [] [.rptr [.int .i64 200] 0]),.v (.bool (g.lim.any (beyB 200))),.b true,.b true]) (obs:=_) hE Try.func81 Qh (by kernel_rfl) ho hr
theorem p81_start_25 (g:Gala) {E:Env} {res:AV} (hE:Qf Try.prog 81 res E) (ho:AllP [Qe Try.prog (.clos 150 [] []) (YI g) (.int .i64 (evnE g.ev)),((evnE g.ev) != 0)=false,Qe Try.prog (.clos 151 [] []) (YL g) (Xm g),(((logK g.k g.es).2).2 != 0)=false,Qe Try.prog (.clos 61 [] []) (YV g) (.int .i64 (splE g.sup)),((splE g.sup) != 0)=false,((g.k.insured.length:Int) != (g.ev.rides.length:Int))=false,((g.sup.loads.length:Int) != (g.ev.rides.length:Int))=false,((g.lim.length:Int) != (g.ev.rides.length:Int))=false,((g.emp.length:Int) != (g.ev.rides.length:Int))=false,Qe Try.prog (.clos 154 [] []) [.int .i64 g.day,.int .i64 0,.int .i64 10000] (.bool (Qa g.day 0 10000)),(!(Qa g.day 0 10000))=false,Qe Try.prog (.clos 152 [] []) [.int .i64 200] (.clos 153 [] [.rptr [.int .i64 200] 0]),Qe Try.prog (.clos 76 [] []) (VS g) (.bool (g.lim.any (beyB 200))),(g.lim.any (beyB 200))=true,(g.lim.any (beyB 200))=false])
 (hr:AvLe (.int .i64 0) res):G Try.prog E [.code (Qd Try.prog 81)] ⟨(YJ g)++unds (Try.f81.ntmps - 1),[]⟩ :=
 Qb (n:=400) (evs:=[.v (.int .i64 (evnE g.ev)),.b false,.v (Xm g),.b false,.v (.int .i64 (splE g.sup)),.b false,.b false,.b false,.b false,.b false,.v (.bool (Qa g.day 0 10000)),.b false,.v (.clos 153 [] [.rptr [.int .i64 200] 0]),.v (.bool (g.lim.any (beyB 200))),.b true,.b false]) (obs:=_) hE Try.func81 Qh (by kernel_rfl) ho hr
theorem p81_start_26 (g:Gala) {E:Env} {res:AV} (hE:Qf Try.prog 81 res E) (ho:AllP [Qe Try.prog (.clos 150 [] []) (YI g) (.int .i64 (evnE g.ev)),((evnE g.ev) != 0)=false,Qe Try.prog (.clos 151 [] []) (YL g) (Xm g),(((logK g.k g.es).2).2 != 0)=false,Qe Try.prog (.clos 61 [] []) (YV g) (.int .i64 (splE g.sup)),((splE g.sup) != 0)=false,((g.k.insured.length:Int) != (g.ev.rides.length:Int))=false,((g.sup.loads.length:Int) != (g.ev.rides.length:Int))=false,((g.lim.length:Int) != (g.ev.rides.length:Int))=false,((g.emp.length:Int) != (g.ev.rides.length:Int))=false,Qe Try.prog (.clos 154 [] []) [.int .i64 g.day,.int .i64 0,.int .i64 10000] (.bool (Qa g.day 0 10000)),(!(Qa g.day 0 10000))=false,Qe Try.prog (.clos 152 [] []) [.int .i64 200] (.clos 153 [] [.rptr [.int .i64 200] 0]),Qe Try.prog (.clos 76 [] []) (VS g) (.bool (g.lim.any (beyB 200))),(g.lim.any (beyB 200))=false,Qe Try.prog (.clos 152 [] []) [.int .i64 100] (.clos 153 [] [.rptr [.int .i64 100] 0]),Qe Try.prog (.clos 76 [] []) (QaA g) (.bool (g.emp.any (beyB 100))),(g.emp.any (beyB 100))=true])
 (hr:AvLe (.int .i64 120) res):G Try.prog E [.code (Qd Try.prog 81)] ⟨(YJ g)++unds (Try.f81.ntmps - 1),[]⟩ :=
 Qb (n:=400) (evs:=[.v (.int .i64 (evnE g.ev)),.b false,.v (Xm g),.b false,.v (.int .i64 (splE g.sup)),.b false,.b false,.b false,.b false,.b false,.v (.bool (Qa g.day 0 10000)),.b false,.v (.clos 153 [] [.rptr [.int .i64 200] 0]),.v (.bool (g.lim.any (beyB 200))),.b false,.v (.clos 153 [] [.rptr [.int .i64 100] 0]),.v (.bool (g.emp.any (beyB 100))),.b true]) (obs:=_) hE Try.func81 Qh (by kernel_rfl) ho hr
theorem p81_start_27 (g:Gala) {E:Env} {res:AV} (hE:Qf Try.prog 81 res E) (ho:AllP [Qe Try.prog (.clos 150 [] []) (YI g) (.int .i64 (evnE g.ev)),((evnE g.ev) != 0)=false,Qe Try.prog (.clos 151 [] []) (YL g) (Xm g),(((logK g.k g.es).2).2 != 0)=false,Qe Try.prog (.clos 61 [] []) (YV g) (.int .i64 (splE g.sup)),((splE g.sup) != 0)=false,((g.k.insured.length:Int) != (g.ev.rides.length:Int))=false,((g.sup.loads.length:Int) != (g.ev.rides.length:Int))=false,((g.lim.length:Int) != (g.ev.rides.length:Int))=false,((g.emp.length:Int) != (g.ev.rides.length:Int))=false,Qe Try.prog (.clos 154 [] []) [.int .i64 g.day,.int .i64 0,.int .i64 10000] (.bool (Qa g.day 0 10000)),(!(Qa g.day 0 10000))=false,Qe Try.prog (.clos 152 [] []) [.int .i64 200] (.clos 153 [] [.rptr [.int .i64 200] 0]),Qe Try.prog (.clos 76 [] []) (VS g) (.bool (g.lim.any (beyB 200))),(g.lim.any (beyB 200))=false,Qe Try.prog (.clos 152 [] []) [.int .i64 100] (.clos 153 [] [.rptr [.int .i64 100] 0]),Qe Try.prog (.clos 76 [] []) (QaA g) (.bool (g.emp.any (beyB 100))),(g.emp.any (beyB 100))=false])
 (hr:AvLe (.int .i64 0) res):G Try.prog E [.code (Qd Try.prog 81)] ⟨(YJ g)++unds (Try.f81.ntmps - 1),[]⟩ :=
 Qb (n:=400) (evs:=[.v (.int .i64 (evnE g.ev)),.b false,.v (Xm g),.b false,.v (.int .i64 (splE g.sup)),.b false,.b false,.b false,.b false,.b false,.v (.bool (Qa g.day 0 10000)),.b false,.v (.clos 153 [] [.rptr [.int .i64 200] 0]),.v (.bool (g.lim.any (beyB 200))),.b false,.v (.clos 153 [] [.rptr [.int .i64 100] 0]),.v (.bool (g.emp.any (beyB 100))),.b false]) (obs:=_) hE Try.func81 Qh (by kernel_rfl) ho hr
theorem f81W (g:Gala) {E:Env} {rv:Int} (hE:Qf Try.prog 81 (.int .i64 rv) E)
 (h:((g.ev.rides.length≤1000)∧((¬ ((evnE g.ev)=0)→rv=(evnE g.ev))∧((evnE g.ev)=0→((BokSmall g.k)∧((¬ (((logK g.k g.es).2).2=0)→rv=((logK g.k g.es).2).2)∧(((logK g.k g.es).2).2=0→((SplSize g.sup)∧((¬ ((splE g.sup)=0)→rv=(splE g.sup))∧((splE g.sup)=0→((¬ ((g.k.insured.length:Int)=(g.ev.rides.length:Int))→((¬ ((g.k.insured.length:Int)=(g.ev.rides.length:Int))→rv=120)∧((g.k.insured.length:Int)=(g.ev.rides.length:Int)→((g.lim.length≤9223372036854775807)∧(((g.lim.any (beyB 200))=true→(((g.lim.any (beyB 200))=true→rv=120)∧((g.lim.any (beyB 200))=false→rv=0)))∧((g.lim.any (beyB 200))=false→((g.emp.length≤9223372036854775807)∧(((g.emp.any (beyB 100))=true→rv=120)∧((g.emp.any (beyB 100))=false→rv=0)))))))))∧((g.k.insured.length:Int)=(g.ev.rides.length:Int)→((¬ ((g.sup.loads.length:Int)=(g.ev.rides.length:Int))→((¬ ((g.sup.loads.length:Int)=(g.ev.rides.length:Int))→rv=120)∧((g.sup.loads.length:Int)=(g.ev.rides.length:Int)→((g.lim.length≤9223372036854775807)∧(((g.lim.any (beyB 200))=true→(((g.lim.any (beyB 200))=true→rv=120)∧((g.lim.any (beyB 200))=false→rv=0)))∧((g.lim.any (beyB 200))=false→((g.emp.length≤9223372036854775807)∧(((g.emp.any (beyB 100))=true→rv=120)∧((g.emp.any (beyB 100))=false→rv=0)))))))))∧((g.sup.loads.length:Int)=(g.ev.rides.length:Int)→((¬ ((g.lim.length:Int)=(g.ev.rides.length:Int))→((¬ ((g.lim.length:Int)=(g.ev.rides.length:Int))→rv=120)∧((g.lim.length:Int)=(g.ev.rides.length:Int)→((g.lim.length≤9223372036854775807)∧(((g.lim.any (beyB 200))=true→(((g.lim.any (beyB 200))=true→rv=120)∧((g.lim.any (beyB 200))=false→rv=0)))∧((g.lim.any (beyB 200))=false→((g.emp.length≤9223372036854775807)∧(((g.emp.any (beyB 100))=true→rv=120)∧((g.emp.any (beyB 100))=false→rv=0)))))))))∧((g.lim.length:Int)=(g.ev.rides.length:Int)→((¬ ((g.emp.length:Int)=(g.ev.rides.length:Int))→((¬ ((g.emp.length:Int)=(g.ev.rides.length:Int))→rv=120)∧((g.emp.length:Int)=(g.ev.rides.length:Int)→((g.lim.length≤9223372036854775807)∧(((g.lim.any (beyB 200))=true→(((g.lim.any (beyB 200))=true→rv=120)∧((g.lim.any (beyB 200))=false→rv=0)))∧((g.lim.any (beyB 200))=false→((g.emp.length≤9223372036854775807)∧(((g.emp.any (beyB 100))=true→rv=120)∧((g.emp.any (beyB 100))=false→rv=0)))))))))∧((g.emp.length:Int)=(g.ev.rides.length:Int)→(((Qa g.day 0 10000)=false→rv=120)∧((Qa g.day 0 10000)=true→((g.lim.length≤9223372036854775807)∧(((g.lim.any (beyB 200))=true→(((g.lim.any (beyB 200))=true→rv=120)∧((g.lim.any (beyB 200))=false→rv=0)))∧((g.lim.any (beyB 200))=false→((g.emp.length≤9223372036854775807)∧(((g.emp.any (beyB 100))=true→rv=120)∧((g.emp.any (beyB 100))=false→rv=0)))))))))))))))))))))))))):G Try.prog E [.code (Qd Try.prog 81)] ⟨[.agg [.rsl (Qi g.ev.rides) 0 g.ev.rides.length,.int .i64 g.ev.walk,.rsl (Qg g.k.rules) 0 g.k.rules.length,.rsl (rowI g.k.ranks) 0 g.k.ranks.length,.rsl (rowI g.k.insured) 0 g.k.insured.length,.rsl (Qc g.es) 0 g.es.length,.int .i64 g.day,.rsl (Qp g.sup.boards) 0 g.sup.boards.length,.rsl (Qo g.sup.loads) 0 g.sup.loads.length,.int .i64 g.sup.power,.int .i64 g.sup.hold,.int .i64 g.sup.volts,.rsl (rowI g.lim) 0 g.lim.length,.rsl (rowI g.emp) 0 g.emp.length]]++unds (Try.f81.ntmps - 1),[]⟩:=by
 obtain ⟨h1,h⟩:=h
 rcases bft ((evnE g.ev) != 0) with hc0 | hc0
 · have h:=h.1 (bneT hc0)
   exact p81_start_0 g hE ⟨(u150 (QR g.ev h1)),hc0,trivial⟩ (AvLe.of_eq (by rw [h]; try rfl))
 · have h:=h.2 (bneF hc0)
   obtain ⟨h2,h⟩:=h
   rcases bft (((logK g.k g.es).2).2 != 0) with hc1 | hc1
   · have h:=h.1 (bneT hc1)
     exact p81_start_1 g hE ⟨(u150 (QR g.ev h1)),hc0,(u151 (QS g.k g.es h2)),hc1,trivial⟩ (AvLe.of_eq (by rw [h]; try rfl))
   · have h:=h.2 (bneF hc1)
     obtain ⟨h3,h⟩:=h
     rcases bft ((splE g.sup) != 0) with hc2 | hc2
     · have h:=h.1 (bneT hc2)
       exact p81_start_2 g hE ⟨(u150 (QR g.ev h1)),hc0,(u151 (QS g.k g.es h2)),hc1,(u61 (Qz g.sup h3)),hc2,trivial⟩ (AvLe.of_eq (by rw [h]; try rfl))
     · have h:=h.2 (bneF hc2)
       rcases bft ((g.k.insured.length:Int) != (g.ev.rides.length:Int)) with hc3 | hc3
       · have h:=h.1 (bneT hc3)
         rcases bft ((g.k.insured.length:Int) != (g.ev.rides.length:Int)) with hc4 | hc4
         · have h:=h.1 (bneT hc4)
           exact p81_start_3 g hE ⟨(u150 (QR g.ev h1)),hc0,(u151 (QS g.k g.es h2)),hc1,(u61 (Qz g.sup h3)),hc2,hc3,hc4,trivial⟩ (AvLe.of_eq (by rw [h]; try rfl))
         · have h:=h.2 (bneF hc4)
           obtain ⟨h4,h⟩:=h
           rcases bft (g.lim.any (beyB 200)) with hc5 | hc5
           · have h:=h.1 hc5
             rcases bft (g.lim.any (beyB 200)) with hc6 | hc6
             · have h:=h.1 hc6
               exact p81_start_4 g hE ⟨(u150 (QR g.ev h1)),hc0,(u151 (QS g.k g.es h2)),hc1,(u61 (Qz g.sup h3)),hc2,hc3,hc4,(u152 (QM 200)),(Qj Try.func76 (by kernel_rfl) XC (QN g.lim 200 h4)),hc5,hc6,trivial⟩ (AvLe.of_eq (by rw [h]; try rfl))
             · have h:=h.2 hc6
               exact p81_start_5 g hE ⟨(u150 (QR g.ev h1)),hc0,(u151 (QS g.k g.es h2)),hc1,(u61 (Qz g.sup h3)),hc2,hc3,hc4,(u152 (QM 200)),(Qj Try.func76 (by kernel_rfl) XC (QN g.lim 200 h4)),hc5,hc6,trivial⟩ (AvLe.of_eq (by rw [h]; try rfl))
           · have h:=h.2 hc5
             obtain ⟨h5,h⟩:=h
             rcases bft (g.emp.any (beyB 100)) with hc6 | hc6
             · have h:=h.1 hc6
               exact p81_start_6 g hE ⟨(u150 (QR g.ev h1)),hc0,(u151 (QS g.k g.es h2)),hc1,(u61 (Qz g.sup h3)),hc2,hc3,hc4,(u152 (QM 200)),(Qj Try.func76 (by kernel_rfl) XC (QN g.lim 200 h4)),hc5,(u152 (QM 100)),(Qj Try.func76 (by kernel_rfl) XC (QN g.emp 100 h5)),hc6,trivial⟩ (AvLe.of_eq (by rw [h]; try rfl))
             · have h:=h.2 hc6
               exact p81_start_7 g hE ⟨(u150 (QR g.ev h1)),hc0,(u151 (QS g.k g.es h2)),hc1,(u61 (Qz g.sup h3)),hc2,hc3,hc4,(u152 (QM 200)),(Qj Try.func76 (by kernel_rfl) XC (QN g.lim 200 h4)),hc5,(u152 (QM 100)),(Qj Try.func76 (by kernel_rfl) XC (QN g.emp 100 h5)),hc6,trivial⟩ (AvLe.of_eq (by rw [h]; try rfl))
       · have h:=h.2 (bneF hc3)
         rcases bft ((g.sup.loads.length:Int) != (g.ev.rides.length:Int)) with hc4 | hc4
         · have h:=h.1 (bneT hc4)
           rcases bft ((g.sup.loads.length:Int) != (g.ev.rides.length:Int)) with hc5 | hc5
           · have h:=h.1 (bneT hc5)
             exact p81_start_8 g hE ⟨(u150 (QR g.ev h1)),hc0,(u151 (QS g.k g.es h2)),hc1,(u61 (Qz g.sup h3)),hc2,hc3,hc4,hc5,trivial⟩ (AvLe.of_eq (by rw [h]; try rfl))
           · have h:=h.2 (bneF hc5)
             obtain ⟨h4,h⟩:=h
             rcases bft (g.lim.any (beyB 200)) with hc6 | hc6
             · have h:=h.1 hc6
               rcases bft (g.lim.any (beyB 200)) with hc7 | hc7
               · have h:=h.1 hc7
                 exact p81_start_9 g hE ⟨(u150 (QR g.ev h1)),hc0,(u151 (QS g.k g.es h2)),hc1,(u61 (Qz g.sup h3)),hc2,hc3,hc4,hc5,(u152 (QM 200)),(Qj Try.func76 (by kernel_rfl) XC (QN g.lim 200 h4)),hc6,hc7,trivial⟩ (AvLe.of_eq (by rw [h]; try rfl))
               · have h:=h.2 hc7
                 exact p81_start_10 g hE ⟨(u150 (QR g.ev h1)),hc0,(u151 (QS g.k g.es h2)),hc1,(u61 (Qz g.sup h3)),hc2,hc3,hc4,hc5,(u152 (QM 200)),(Qj Try.func76 (by kernel_rfl) XC (QN g.lim 200 h4)),hc6,hc7,trivial⟩ (AvLe.of_eq (by rw [h]; try rfl))
             · have h:=h.2 hc6
               obtain ⟨h5,h⟩:=h
               rcases bft (g.emp.any (beyB 100)) with hc7 | hc7
               · have h:=h.1 hc7
                 exact p81_start_11 g hE ⟨(u150 (QR g.ev h1)),hc0,(u151 (QS g.k g.es h2)),hc1,(u61 (Qz g.sup h3)),hc2,hc3,hc4,hc5,(u152 (QM 200)),(Qj Try.func76 (by kernel_rfl) XC (QN g.lim 200 h4)),hc6,(u152 (QM 100)),(Qj Try.func76 (by kernel_rfl) XC (QN g.emp 100 h5)),hc7,trivial⟩ (AvLe.of_eq (by rw [h]; try rfl))
               · have h:=h.2 hc7
                 exact p81_start_12 g hE ⟨(u150 (QR g.ev h1)),hc0,(u151 (QS g.k g.es h2)),hc1,(u61 (Qz g.sup h3)),hc2,hc3,hc4,hc5,(u152 (QM 200)),(Qj Try.func76 (by kernel_rfl) XC (QN g.lim 200 h4)),hc6,(u152 (QM 100)),(Qj Try.func76 (by kernel_rfl) XC (QN g.emp 100 h5)),hc7,trivial⟩ (AvLe.of_eq (by rw [h]; try rfl))
         · have h:=h.2 (bneF hc4)
           rcases bft ((g.lim.length:Int) != (g.ev.rides.length:Int)) with hc5 | hc5
           · have h:=h.1 (bneT hc5)
             rcases bft ((g.lim.length:Int) != (g.ev.rides.length:Int)) with hc6 | hc6
             · have h:=h.1 (bneT hc6)
               exact p81_start_13 g hE ⟨(u150 (QR g.ev h1)),hc0,(u151 (QS g.k g.es h2)),hc1,(u61 (Qz g.sup h3)),hc2,hc3,hc4,hc5,hc6,trivial⟩ (AvLe.of_eq (by rw [h]; try rfl))
             · have h:=h.2 (bneF hc6)
               obtain ⟨h4,h⟩:=h
               rcases bft (g.lim.any (beyB 200)) with hc7 | hc7
               · have h:=h.1 hc7
                 rcases bft (g.lim.any (beyB 200)) with hc8 | hc8
                 · have h:=h.1 hc8
                   exact p81_start_14 g hE ⟨(u150 (QR g.ev h1)),hc0,(u151 (QS g.k g.es h2)),hc1,(u61 (Qz g.sup h3)),hc2,hc3,hc4,hc5,hc6,(u152 (QM 200)),(Qj Try.func76 (by kernel_rfl) XC (QN g.lim 200 h4)),hc7,hc8,trivial⟩ (AvLe.of_eq (by rw [h]; try rfl))
                 · have h:=h.2 hc8
                   exact p81_start_15 g hE ⟨(u150 (QR g.ev h1)),hc0,(u151 (QS g.k g.es h2)),hc1,(u61 (Qz g.sup h3)),hc2,hc3,hc4,hc5,hc6,(u152 (QM 200)),(Qj Try.func76 (by kernel_rfl) XC (QN g.lim 200 h4)),hc7,hc8,trivial⟩ (AvLe.of_eq (by rw [h]; try rfl))
               · have h:=h.2 hc7
                 obtain ⟨h5,h⟩:=h
                 rcases bft (g.emp.any (beyB 100)) with hc8 | hc8
                 · have h:=h.1 hc8
                   exact p81_start_16 g hE ⟨(u150 (QR g.ev h1)),hc0,(u151 (QS g.k g.es h2)),hc1,(u61 (Qz g.sup h3)),hc2,hc3,hc4,hc5,hc6,(u152 (QM 200)),(Qj Try.func76 (by kernel_rfl) XC (QN g.lim 200 h4)),hc7,(u152 (QM 100)),(Qj Try.func76 (by kernel_rfl) XC (QN g.emp 100 h5)),hc8,trivial⟩ (AvLe.of_eq (by rw [h]; try rfl))
                 · have h:=h.2 hc8
                   exact p81_start_17 g hE ⟨(u150 (QR g.ev h1)),hc0,(u151 (QS g.k g.es h2)),hc1,(u61 (Qz g.sup h3)),hc2,hc3,hc4,hc5,hc6,(u152 (QM 200)),(Qj Try.func76 (by kernel_rfl) XC (QN g.lim 200 h4)),hc7,(u152 (QM 100)),(Qj Try.func76 (by kernel_rfl) XC (QN g.emp 100 h5)),hc8,trivial⟩ (AvLe.of_eq (by rw [h]; try rfl))
           · have h:=h.2 (bneF hc5)
             rcases bft ((g.emp.length:Int) != (g.ev.rides.length:Int)) with hc6 | hc6
             · have h:=h.1 (bneT hc6)
               rcases bft ((g.emp.length:Int) != (g.ev.rides.length:Int)) with hc7 | hc7
               · have h:=h.1 (bneT hc7)
                 exact p81_start_18 g hE ⟨(u150 (QR g.ev h1)),hc0,(u151 (QS g.k g.es h2)),hc1,(u61 (Qz g.sup h3)),hc2,hc3,hc4,hc5,hc6,hc7,trivial⟩ (AvLe.of_eq (by rw [h]; try rfl))
               · have h:=h.2 (bneF hc7)
                 obtain ⟨h4,h⟩:=h
                 rcases bft (g.lim.any (beyB 200)) with hc8 | hc8
                 · have h:=h.1 hc8
                   rcases bft (g.lim.any (beyB 200)) with hc9 | hc9
                   · have h:=h.1 hc9
                     exact p81_start_19 g hE ⟨(u150 (QR g.ev h1)),hc0,(u151 (QS g.k g.es h2)),hc1,(u61 (Qz g.sup h3)),hc2,hc3,hc4,hc5,hc6,hc7,(u152 (QM 200)),(Qj Try.func76 (by kernel_rfl) XC (QN g.lim 200 h4)),hc8,hc9,trivial⟩ (AvLe.of_eq (by rw [h]; try rfl))
                   · have h:=h.2 hc9
                     exact p81_start_20 g hE ⟨(u150 (QR g.ev h1)),hc0,(u151 (QS g.k g.es h2)),hc1,(u61 (Qz g.sup h3)),hc2,hc3,hc4,hc5,hc6,hc7,(u152 (QM 200)),(Qj Try.func76 (by kernel_rfl) XC (QN g.lim 200 h4)),hc8,hc9,trivial⟩ (AvLe.of_eq (by rw [h]; try rfl))
                 · have h:=h.2 hc8
                   obtain ⟨h5,h⟩:=h
                   rcases bft (g.emp.any (beyB 100)) with hc9 | hc9
                   · have h:=h.1 hc9
                     exact p81_start_21 g hE ⟨(u150 (QR g.ev h1)),hc0,(u151 (QS g.k g.es h2)),hc1,(u61 (Qz g.sup h3)),hc2,hc3,hc4,hc5,hc6,hc7,(u152 (QM 200)),(Qj Try.func76 (by kernel_rfl) XC (QN g.lim 200 h4)),hc8,(u152 (QM 100)),(Qj Try.func76 (by kernel_rfl) XC (QN g.emp 100 h5)),hc9,trivial⟩ (AvLe.of_eq (by rw [h]; try rfl))
                   · have h:=h.2 hc9
                     exact p81_start_22 g hE ⟨(u150 (QR g.ev h1)),hc0,(u151 (QS g.k g.es h2)),hc1,(u61 (Qz g.sup h3)),hc2,hc3,hc4,hc5,hc6,hc7,(u152 (QM 200)),(Qj Try.func76 (by kernel_rfl) XC (QN g.lim 200 h4)),hc8,(u152 (QM 100)),(Qj Try.func76 (by kernel_rfl) XC (QN g.emp 100 h5)),hc9,trivial⟩ (AvLe.of_eq (by rw [h]; try rfl))
             · have h:=h.2 (bneF hc6)
               rcases bft (!(Qa g.day 0 10000)) with hc7 | hc7
               · have h:=h.1 (bnT hc7)
                 exact p81_start_23 g hE ⟨(u150 (QR g.ev h1)),hc0,(u151 (QS g.k g.es h2)),hc1,(u61 (Qz g.sup h3)),hc2,hc3,hc4,hc5,hc6,(u154 (Vm g.day 0 10000)),hc7,trivial⟩ (AvLe.of_eq (by rw [h]; try rfl))
               · have h:=h.2 (bnF hc7)
                 obtain ⟨h4,h⟩:=h
                 rcases bft (g.lim.any (beyB 200)) with hc8 | hc8
                 · have h:=h.1 hc8
                   rcases bft (g.lim.any (beyB 200)) with hc9 | hc9
                   · have h:=h.1 hc9
                     exact p81_start_24 g hE ⟨(u150 (QR g.ev h1)),hc0,(u151 (QS g.k g.es h2)),hc1,(u61 (Qz g.sup h3)),hc2,hc3,hc4,hc5,hc6,(u154 (Vm g.day 0 10000)),hc7,(u152 (QM 200)),(Qj Try.func76 (by kernel_rfl) XC (QN g.lim 200 h4)),hc8,hc9,trivial⟩ (AvLe.of_eq (by rw [h]; try rfl))
                   · have h:=h.2 hc9
                     exact p81_start_25 g hE ⟨(u150 (QR g.ev h1)),hc0,(u151 (QS g.k g.es h2)),hc1,(u61 (Qz g.sup h3)),hc2,hc3,hc4,hc5,hc6,(u154 (Vm g.day 0 10000)),hc7,(u152 (QM 200)),(Qj Try.func76 (by kernel_rfl) XC (QN g.lim 200 h4)),hc8,hc9,trivial⟩ (AvLe.of_eq (by rw [h]; try rfl))
                 · have h:=h.2 hc8
                   obtain ⟨h5,h⟩:=h
                   rcases bft (g.emp.any (beyB 100)) with hc9 | hc9
                   · have h:=h.1 hc9
                     exact p81_start_26 g hE ⟨(u150 (QR g.ev h1)),hc0,(u151 (QS g.k g.es h2)),hc1,(u61 (Qz g.sup h3)),hc2,hc3,hc4,hc5,hc6,(u154 (Vm g.day 0 10000)),hc7,(u152 (QM 200)),(Qj Try.func76 (by kernel_rfl) XC (QN g.lim 200 h4)),hc8,(u152 (QM 100)),(Qj Try.func76 (by kernel_rfl) XC (QN g.emp 100 h5)),hc9,trivial⟩ (AvLe.of_eq (by rw [h]; try rfl))
                   · have h:=h.2 hc9
                     exact p81_start_27 g hE ⟨(u150 (QR g.ev h1)),hc0,(u151 (QS g.k g.es h2)),hc1,(u61 (Qz g.sup h3)),hc2,hc3,hc4,hc5,hc6,(u154 (Vm g.day 0 10000)),hc7,(u152 (QM 200)),(Qj Try.func76 (by kernel_rfl) XC (QN g.lim 200 h4)),hc8,(u152 (QM 100)),(Qj Try.func76 (by kernel_rfl) XC (QN g.emp 100 h5)),hc9,trivial⟩ (AvLe.of_eq (by rw [h]; try rfl))
theorem nCheck_ok (g:Gala) (hs:GalaSize g):Pure Try.prog 81 [.agg [.rsl (Qi g.ev.rides) 0 g.ev.rides.length,.int .i64 g.ev.walk,.rsl (Qg g.k.rules) 0 g.k.rules.length,.rsl (rowI g.k.ranks) 0 g.k.ranks.length,.rsl (rowI g.k.insured) 0 g.k.insured.length,.rsl (Qc g.es) 0 g.es.length,.int .i64 g.day,.rsl (Qp g.sup.boards) 0 g.sup.boards.length,.rsl (Qo g.sup.loads) 0 g.sup.loads.length,.int .i64 g.sup.power,.int .i64 g.sup.hold,.int .i64 g.sup.volts,.rsl (rowI g.lim) 0 g.lim.length,.rsl (rowI g.emp) 0 g.emp.length]] (.int .i64 (QV g)):=Qv Try.func81 f81b fun E hE=>by
 have l1:g.lim.length≤9223372036854775807:=by have:=hs.lim; omega
 have l2:g.emp.length≤9223372036854775807:=by have:=hs.emp; omega
 refine f81W g (rv:=QV g) hE ⟨hs.rides,fun e1=>?_,fun e1=>⟨hs.book,fun e2=>?_,fun e2=>⟨hs.sup,fun e3=>?_,fun e3=>?_⟩⟩⟩
 · unfold QV; rw [if_neg e1]
 · unfold QV; rw [if_pos e1,if_neg e2]
 · unfold QV; rw [if_pos e1,if_pos e2,if_neg e3]
 have eG:QV g=if galaB g=true then 0 else 120:=by unfold QV; rw [if_pos e1,if_pos e2,if_pos e3]
 rw [eG]
 clear eG e1 e2 e3
 unfold galaB
 generalize g.lim.any (beyB 200)=x1
 generalize g.emp.any (beyB 100)=x2
 generalize Qa g.day 0 10000=x3
 simp only [Int.natCast_inj]
 repeat' (first | exact l1 | exact l2 | refine ⟨?_,?_⟩ | intro _)
 all_goals first
  | contradiction
  | (simp [*]; done)
  | (simp_all; done)
end Go.Proofs.Ytemklbioijmjiaa