/- A part of the proof: several texts, one behind the other. -/
import Derived.Test.YtmdbebbibecidaaLTakingsSettledB
import Derived.Laws.Bits64b
import Derived.Laws.BitsLemmas
import Derived.Laws.Runes
set_option linter.unusedVariables false
set_option linter.unusedSimpArgs false
set_option maxRecDepth 100000
namespace Go.Proofs.Ytmdbebbibecidaa
open Go Ax
open Go.Proofs
theorem f79b:Try.f79.body=some (Qa Try.prog 79):=by kernel_rfl
def f79K0 (P:Program):List Item:=kAt 400 [.code (Qa P 79)] [.stop]
def f79S0 (a:Int) (b:Int) (l:List Int) (c:Int) (ws:List Int) (al:Int) (n0:Nat) (v0:List Int) (i:Int):St:=⟨([.sl 0 n0 0 v0.length 1,.int .i64 a,.int .i64 b,.clos 67 [] [.ptr 1 0 0],J,J,J,J,.int .i64 i]++Js 44),[⟨true,n0,1,true,(rowI v0),true⟩,⟨true,0,1,false,[.clos 65 [] [.ptr 2 0 0,.ptr 3 0 0,.ptr 4 0 0]],false⟩,⟨true,0,1,true,[.int .i64 c],false⟩,⟨true,0,1,true,[.rsl (rowI ws) 0 ws.length],false⟩,⟨true,0,1,true,[.int .i64 al],false⟩]⟩
def f79G0 (E:Env) (a:Int) (b:Int) (l:List Int) (c:Int) (ws:List Int) (al:Int) (n0:Nat) (v0:List Int) (i:Int):Prop:=G Try.prog E (f79K0 Try.prog) (f79S0 a b l c ws al n0 v0 i )
def f79K1 (P:Program):List Item:=kAt 400 [.code (Qa P 79)] [.b true,.stop]
def f79S1 (a:Int) (b:Int) (l:List Int) (c:Int) (ws:List Int) (al:Int) (n0:Nat) (j:Int) (v0:List Int) (i:Int):St:=⟨([.sl 0 n0 0 v0.length 1,.int .i64 a,.int .i64 b,.clos 67 [] [.ptr 1 0 0],J,J,J,J,.int .i64 i,.int .i64 j]++Js 43),[⟨true,n0,1,true,(rowI v0),true⟩,⟨true,0,1,false,[.clos 65 [] [.ptr 2 0 0,.ptr 3 0 0,.ptr 4 0 0]],false⟩,⟨true,0,1,true,[.int .i64 c],false⟩,⟨true,0,1,true,[.rsl (rowI ws) 0 ws.length],false⟩,⟨true,0,1,true,[.int .i64 al],false⟩]⟩
def f79G1 (E:Env) (a:Int) (b:Int) (l:List Int) (c:Int) (ws:List Int) (al:Int) (n0:Nat) (j:Int) (v0:List Int) (i:Int):Prop:=G Try.prog E (f79K1 Try.prog) (f79S1 a b l c ws al n0 j v0 i )
abbrev z79_1 (n0:Nat) (v0:List Int) (c:Int) (ws:List Int) (al:Int):List Blk:=[⟨true,n0,1,true,(rowI v0),true⟩,⟨true,0,1,false,[.clos 65 [] [.ptr 2 0 0,.ptr 3 0 0,.ptr 4 0 0]],false⟩,⟨true,0,1,true,[.int .i64 c],false⟩,⟨true,0,1,true,[.rsl (rowI ws) 0 ws.length],false⟩,⟨true,0,1,true,[.int .i64 al],false⟩]
abbrev z79_2 (n0:Nat) (l:List Int) (c:Int) (ws:List Int) (al:Int):List Blk:=[⟨true,n0,1,true,(rowI l),true⟩,⟨true,0,1,false,[.clos 65 [] [.ptr 2 0 0,.ptr 3 0 0,.ptr 4 0 0]],false⟩,⟨true,0,1,true,[.int .i64 c],false⟩,⟨true,0,1,true,[.rsl (rowI ws) 0 ws.length],false⟩,⟨true,0,1,true,[.int .i64 al],false⟩]
theorem p79_start_0 (a:Int) (b:Int) (l:List Int) (c:Int) (ws:List Int) (al:Int) (n0:Nat) {E:Env} {rv:AV} {bs2:List Blk} (hE:LentE Try.prog 79 [.sl 4 0 0 0 1] rv bs2 E) (ho:AllP [InR .i64 (a+1)])
 (hg:G Try.prog E (f79K0 Try.prog) ⟨([.sl 0 n0 0 l.length 1,.int .i64 a,.int .i64 b,.clos 67 [] [.ptr 1 0 0],J,J,J,J,.int .i64 (a+1)]++Js 44),(z79_2 n0 l c ws al)⟩):G Try.prog E [.code (Qa Try.prog 79)] ⟨[.sl 0 n0 0 l.length 1,.int .i64 a,.int .i64 b,.clos 67 [] [.ptr 1 0 0]]++unds (Try.f79.ntmps - 4),(z79_2 n0 l c ws al)⟩ :=
 Qe (n:=400) (ds:=[]) (cs:=[]) (live:=[0,1,2,3,8]) (m:=5) (evs:=[.stop]) (obs:=_) hE.kind (hE.nogh (by kernel_rfl)) Qg (by kernel_rfl) ho hg
theorem f79W (a:Int) (b:Int) (l:List Int) (c:Int) (ws:List Int) (al:Int) (n0:Nat) {E:Env} {rv:Unit} {lo:List Int} (hE:LentE Try.prog 79 [.sl 4 0 0 0 1] (.tup []) [⟨true,n0,1,true,(rowI lo),true⟩,⟨true,0,1,false,[.clos 65 [] [.ptr 2 0 0,.ptr 3 0 0,.ptr 4 0 0]],false⟩,⟨true,0,1,true,[.int .i64 c],false⟩,⟨true,0,1,true,[.rsl (rowI ws) 0 ws.length],false⟩,⟨true,0,1,true,[.int .i64 al],false⟩] E)
 (h:((I6 (a+1))∧f79G0 E a b l c ws al n0 l (a+1))):G Try.prog E [.code (Qa Try.prog 79)] ⟨[.sl 0 n0 0 l.length 1,.int .i64 a,.int .i64 b,.clos 67 [] [.ptr 1 0 0]]++unds (Try.f79.ntmps - 4),[⟨true,n0,1,true,(rowI l),true⟩,⟨true,0,1,false,[.clos 65 [] [.ptr 2 0 0,.ptr 3 0 0,.ptr 4 0 0]],false⟩,⟨true,0,1,true,[.int .i64 c],false⟩,⟨true,0,1,true,[.rsl (rowI ws) 0 ws.length],false⟩,⟨true,0,1,true,[.int .i64 al],false⟩]⟩:=by
 obtain ⟨q0_0,h⟩:=h
 exact p79_start_0 a b l c ws al n0 hE ⟨q0_0,trivial⟩ h
theorem p79_0_0 (a:Int) (b:Int) (l:List Int) (c:Int) (ws:List Int) (al:Int) (n0:Nat) (v0:List Int) (i:Int) {E:Env} {rv:AV} {bs2:List Blk} (hE:LentE Try.prog 79 [.sl 4 0 0 0 1] rv bs2 E) (ho:AllP [(decide (i<b))=true])
 (hg:G Try.prog E (f79K1 Try.prog) ⟨([.sl 0 n0 0 v0.length 1,.int .i64 a,.int .i64 b,.clos 67 [] [.ptr 1 0 0],J,J,J,J,.int .i64 i,.int .i64 i]++Js 43),(z79_1 n0 v0 c ws al)⟩):G Try.prog E (f79K0 Try.prog) (f79S0 a b l c ws al n0 v0 i ) :=
 Qe (n:=400) (ds:=[]) (cs:=[]) (live:=[0,1,2,3,8,9]) (m:=5) (evs:=[.b true,.stop]) (obs:=_) hE.kind (hE.nogh (by kernel_rfl)) Qg (by kernel_rfl) ho hg
theorem p79_0_1 (a:Int) (b:Int) (l:List Int) (c:Int) (ws:List Int) (al:Int) (n0:Nat) (v0:List Int) (i:Int) {E:Env} {res:AV} {bs2:List Blk} (hE:LentE Try.prog 79 [.sl 4 0 0 0 1] res bs2 E) (ho:AllP [(decide (i<b))=false])
 (hr:(.tup [])=res) (hb:(z79_1 n0 v0 c ws al)=bs2):G Try.prog E (f79K0 Try.prog) (f79S0 a b l c ws al n0 v0 i ) :=
 Xo (n:=400) (live:=[]) (m:=5) (evs:=[.b false]) (obs:=_) hE (hE.nogh (by kernel_rfl)) Try.func79 Qg (by kernel_rfl) ho hr hb
theorem f79W0 (a:Int) (b:Int) (l:List Int) (c:Int) (ws:List Int) (al:Int) (n0:Nat) (v0:List Int) (i:Int) {E:Env} {rv:Unit} {lo:List Int} (hE:LentE Try.prog 79 [.sl 4 0 0 0 1] (.tup []) [⟨true,n0,1,true,(rowI lo),true⟩,⟨true,0,1,false,[.clos 65 [] [.ptr 2 0 0,.ptr 3 0 0,.ptr 4 0 0]],false⟩,⟨true,0,1,true,[.int .i64 c],false⟩,⟨true,0,1,true,[.rsl (rowI ws) 0 ws.length],false⟩,⟨true,0,1,true,[.int .i64 al],false⟩] E)
 (h:((i<b→f79G1 E a b l c ws al n0 i v0 i)∧(¬ (i<b)→lo=v0))):f79G0 E a b l c ws al n0 v0 i:=by
 rcases bft (decide (i<b)) with hc0 | hc0
 · have h:=h.1 (odt hc0)
   exact p79_0_0 a b l c ws al n0 v0 i hE ⟨hc0,trivial⟩ h
 · have h:=h.2 (odf hc0)
   have qe0:=h
   exact p79_0_1 a b l c ws al n0 v0 i hE ⟨hc0,trivial⟩ (by try rfl) (by rw [qe0]; all_goals (first | rfl | (simp only [List.length_set]; done) | (simp only [List.length_set]; rfl) | (simp only [List.length_set,List.length_replicate]; done)))
theorem p79_1_0 (a:Int) (b:Int) (l:List Int) (c:Int) (ws:List Int) (al:Int) (n0:Nat) (j:Int) (v0:List Int) (i:Int) (e:Int) (e1:Int) (e2:Int) {E:Env} {rv:AV} {bs2:List Blk} (hE:LentE Try.prog 79 [.sl 4 0 0 0 1] rv bs2 E) (ho:AllP [(decide (j > a))=true,0≤j∧j<(v0.length:Int),n0=n0,n0=n0,((rowI v0).drop (0+(Int.toNat j)*1)).take 1=[.int .i64 e],InR .i64 (j - 1),0≤(j - 1)∧(j - 1)<(v0.length:Int),n0=n0,n0=n0,((rowI v0).drop (0+(Int.toNat (j - 1))*1)).take 1=[.int .i64 e1],Qf Try.prog (.clos 67 [] [.rptr [.clos 65 [] [.rptr [.int .i64 c] 0,.rptr [.rsl (rowI ws) 0 ws.length] 0,.rptr [.int .i64 al] 0]] 0]) [.int .i64 e,.int .i64 e1] (.int .i64 (WS c ws al e e1)),(decide ((WS c ws al e e1)<0))=true,InR .i64 (j - 1),InR .i64 (j - 1),0≤(j - 1)∧(j - 1)<(v0.length:Int),n0=n0,n0=n0,((rowI v0).drop (0+(Int.toNat (j - 1))*1)).take 1=[.int .i64 e1],0≤j∧j<(v0.length:Int),n0=n0,n0=n0,((rowI v0).drop (0+(Int.toNat j)*1)).take 1=[.int .i64 e],0≤j∧j<(v0.length:Int),n0=n0,((0+(Int.toNat j)*1)+1)≤(rowI v0).length,n0=n0,0≤(j - 1)∧(j - 1)<(v0.length:Int),n0=n0,((0+(Int.toNat (j - 1))*1)+1)≤(QU (rowI v0) (0+(Int.toNat j)*1) [.int .i64 e1]).length,n0=n0,InR .i64 (j - 1)])
 (hg:G Try.prog E (f79K1 Try.prog) ⟨([.sl 0 n0 0 v0.length 1,.int .i64 a,.int .i64 b,.clos 67 [] [.ptr 1 0 0],J,J,J,J,.int .i64 i,.int .i64 (j - 1)]++Js 43),[⟨true,n0,1,true,(QU (QU (rowI v0) (0+(Int.toNat j)*1) [.int .i64 e1]) (0+(Int.toNat (j - 1))*1) [.int .i64 e]),true⟩,⟨true,0,1,false,[.clos 65 [] [.ptr 2 0 0,.ptr 3 0 0,.ptr 4 0 0]],false⟩,⟨true,0,1,true,[.int .i64 c],false⟩,⟨true,0,1,true,[.rsl (rowI ws) 0 ws.length],false⟩,⟨true,0,1,true,[.int .i64 al],false⟩]⟩):G Try.prog E (f79K1 Try.prog) (f79S1 a b l c ws al n0 j v0 i ) :=
 Qe (n:=400) (ds:=[]) (cs:=[]) (live:=[0,1,2,3,8,9]) (m:=5) (evs:=[.b true,.ld (.int .i64 e),.ld (.int .i64 e1),.v (.int .i64 (WS c ws al e e1)),.b true,.ld (.int .i64 e1),.ld (.int .i64 e),.stop]) (obs:=_) hE.kind (hE.nogh (by kernel_rfl)) Qg (by kernel_rfl) ho hg
theorem p79_1_1 (a:Int) (b:Int) (l:List Int) (c:Int) (ws:List Int) (al:Int) (n0:Nat) (j:Int) (v0:List Int) (i:Int) (e:Int) (e1:Int) {E:Env} {rv:AV} {bs2:List Blk} (hE:LentE Try.prog 79 [.sl 4 0 0 0 1] rv bs2 E) (ho:AllP [(decide (j > a))=true,0≤j∧j<(v0.length:Int),n0=n0,n0=n0,((rowI v0).drop (0+(Int.toNat j)*1)).take 1=[.int .i64 e],InR .i64 (j - 1),0≤(j - 1)∧(j - 1)<(v0.length:Int),n0=n0,n0=n0,((rowI v0).drop (0+(Int.toNat (j - 1))*1)).take 1=[.int .i64 e1],Qf Try.prog (.clos 67 [] [.rptr [.clos 65 [] [.rptr [.int .i64 c] 0,.rptr [.rsl (rowI ws) 0 ws.length] 0,.rptr [.int .i64 al] 0]] 0]) [.int .i64 e,.int .i64 e1] (.int .i64 (WS c ws al e e1)),(decide ((WS c ws al e e1)<0))=false,InR .i64 (i+1)])
 (hg:G Try.prog E (f79K0 Try.prog) ⟨([.sl 0 n0 0 v0.length 1,.int .i64 a,.int .i64 b,.clos 67 [] [.ptr 1 0 0],J,J,J,J,.int .i64 (i+1)]++Js 44),(z79_1 n0 v0 c ws al)⟩):G Try.prog E (f79K1 Try.prog) (f79S1 a b l c ws al n0 j v0 i ) :=
 Qe (n:=400) (ds:=[]) (cs:=[]) (live:=[0,1,2,3,8]) (m:=5) (evs:=[.b true,.ld (.int .i64 e),.ld (.int .i64 e1),.v (.int .i64 (WS c ws al e e1)),.b false,.stop]) (obs:=_) hE.kind (hE.nogh (by kernel_rfl)) Qg (by kernel_rfl) ho hg
theorem p79_1_2 (a:Int) (b:Int) (l:List Int) (c:Int) (ws:List Int) (al:Int) (n0:Nat) (j:Int) (v0:List Int) (i:Int) {E:Env} {rv:AV} {bs2:List Blk} (hE:LentE Try.prog 79 [.sl 4 0 0 0 1] rv bs2 E) (ho:AllP [(decide (j > a))=false,false=false,InR .i64 (i+1)])
 (hg:G Try.prog E (f79K0 Try.prog) ⟨([.sl 0 n0 0 v0.length 1,.int .i64 a,.int .i64 b,.clos 67 [] [.ptr 1 0 0],J,J,J,J,.int .i64 (i+1)]++Js 44),(z79_1 n0 v0 c ws al)⟩):G Try.prog E (f79K1 Try.prog) (f79S1 a b l c ws al n0 j v0 i ) :=
 Qe (n:=400) (ds:=[]) (cs:=[]) (live:=[0,1,2,3,8]) (m:=5) (evs:=[.b false,.b false,.stop]) (obs:=_) hE.kind (hE.nogh (by kernel_rfl)) Qg (by kernel_rfl) ho hg
theorem f79W1 (a:Int) (b:Int) (l:List Int) (c:Int) (ws:List Int) (al:Int) (n0:Nat) (j:Int) (v0:List Int) (i:Int) {E:Env} {rv:Unit} {lo:List Int} (hE:LentE Try.prog 79 [.sl 4 0 0 0 1] (.tup []) [⟨true,n0,1,true,(rowI lo),true⟩,⟨true,0,1,false,[.clos 65 [] [.ptr 2 0 0,.ptr 3 0 0,.ptr 4 0 0]],false⟩,⟨true,0,1,true,[.int .i64 c],false⟩,⟨true,0,1,true,[.rsl (rowI ws) 0 ws.length],false⟩,⟨true,0,1,true,[.int .i64 al],false⟩] E)
 (h:((j > a→(0≤j∧(∃ e:Int,v0[Int.toNat j]?=some e∧((I6 (j - 1))∧(0≤(j - 1)∧(∃ e1:Int,v0[Int.toNat (j - 1)]?=some e1∧((Yy c ws al e1∧Yy c ws al e)∧(((WS c ws al e e1)<0→((I6 (j - 1))∧((I6 (j - 1))∧(0≤(j - 1)∧(∃ e2:Int,(v0.set (Int.toNat j) e1)[Int.toNat (j - 1)]?=some e2∧((I6 (j - 1))∧f79G1 E a b l c ws al n0 (j - 1) ((v0.set (Int.toNat j) e1).set (Int.toNat (j - 1)) e) i))))))∧(¬ ((WS c ws al e e1)<0)→((I6 (i+1))∧f79G0 E a b l c ws al n0 v0 (i+1)))))))))))∧(¬ (j > a)→((I6 (i+1))∧f79G0 E a b l c ws al n0 v0 (i+1))))):f79G1 E a b l c ws al n0 j v0 i:=by
 rcases bft (decide (j > a)) with hc0 | hc0
 · have h:=h.1 (odt hc0)
   obtain ⟨h2,h⟩:=h
   obtain ⟨e,h1,h⟩:=h
   obtain ⟨q6_1,h⟩:=h
   obtain ⟨h4,h⟩:=h
   obtain ⟨e1,h3,h⟩:=h
   obtain ⟨h5,h⟩:=h
   rcases bft (decide ((WS c ws al e e1)<0)) with hc1 | hc1
   · have h:=h.1 (odt hc1)
     obtain ⟨q14_2,h⟩:=h
     obtain ⟨q15_2,h⟩:=h
     obtain ⟨h7,h⟩:=h
     obtain ⟨e2,h6,h⟩:=h
     obtain ⟨q33_2,h⟩:=h
     refine p79_1_0 a b l c ws al n0 j v0 i e e1 e2 hE ⟨hc0,(Xf h2 h1),rfl,rfl,(rp cI 1 0 1 h1),q6_1,(Xf h4 h3),rfl,rfl,(rp cI 1 0 1 h3),(u67 (less_ok c ws al e e1 h5)),hc1,q14_2,q15_2,(Xf h4 h3),rfl,rfl,(rp cI 1 0 1 h3),(Xf h2 h1),rfl,rfl,(rp cI 1 0 1 h1),(Xf h2 h1),rfl,(rf cI 1 0 1 h1),rfl,(by have hx:=Xf h7 h6; simpa using hx),rfl,(by rw [(show QU (rowI v0) (0+(Int.toNat j)*1) [.int .i64 e1]=rowI (v0.set (Int.toNat j) e1) from Ya cI (s:=1) (k:=0) (fun _=>rfl) h1 rfl (by first | decide | simp))]; exact rf cI 1 0 1 h6),rfl,q33_2,trivial⟩ ?_
     have h:=h
     simp only [f79G1,f79S1,List.length_set] at h
     rw [(show QU (rowI v0) (0+(Int.toNat j)*1) [.int .i64 e1]=rowI (v0.set (Int.toNat j) e1) from Ya cI (s:=1) (k:=0) (fun _=>rfl) h1 rfl (by first | decide | simp))]; rw [(show QU (rowI (v0.set (Int.toNat j) e1)) (0+(Int.toNat (j - 1))*1) [.int .i64 e]=rowI ((v0.set (Int.toNat j) e1).set (Int.toNat (j - 1)) e) from Ya cI (s:=1) (k:=0) (fun _=>rfl) h6 rfl (by first | decide | simp))]
     exact h
   · have h:=h.2 (odf hc1)
     obtain ⟨q14_2,h⟩:=h
     exact p79_1_1 a b l c ws al n0 j v0 i e e1 hE ⟨hc0,(Xf h2 h1),rfl,rfl,(rp cI 1 0 1 h1),q6_1,(Xf h4 h3),rfl,rfl,(rp cI 1 0 1 h3),(u67 (less_ok c ws al e e1 h5)),hc1,q14_2,trivial⟩ h
 · have h:=h.2 (odf hc0)
   obtain ⟨q2_1,h⟩:=h
   exact p79_1_2 a b l c ws al n0 j v0 i hE ⟨hc0,rfl,q2_1,trivial⟩ h
/-- One element sinks to its place. -/
def sink (lt:Int→Int→Bool):Nat→List Int→List Int
 | 0,l=>l
 | d+1,l=>match l[d+1]?,l[d]? with
  | some e,some e1=>if lt e e1 then sink lt d ((l.set (d+1) e1).set d e) else l
  | _,_=>l
def YB (lt:Int→Int→Bool) (l:List Int):List Int:=(List.range (l.length - 1)).foldl (fun l k=>sink lt (k+1) l) l
theorem yl {lt:Int→Int→Bool}:∀ {d:Nat} {l:List Int},(sink lt d l).length=l.length
 | 0,l=>rfl
 | d+1,l=>by
  simp only [sink]
  split
  · split
    · rw [yl]; simp
    · rfl
  · rfl
theorem Vp {lt:Int→Int→Bool} {l:List Int}:(YB lt l).length=l.length:=by
 have:∀ (xs:List Nat) (l:List Int),(xs.foldl (fun l k=>sink lt (k+1) l) l).length=l.length:=by
  intro xs
  induction xs with
  | nil=>intro l; rfl
  | cons x xs ih=>intro l; rw [List.foldl_cons,ih,yl]
 exact this _ _
theorem swap_mem {l:List Int} {d:Nat} {e e1 x:Int} (h1:l[d+1]?=some e) (h2:l[d]?=some e1) (h:x ∈ (l.set (d+1) e1).set d e):x ∈ l:=by
 rcases List.mem_or_eq_of_mem_set h with h | rfl
 · rcases List.mem_or_eq_of_mem_set h with h | rfl
   · exact h
   · exact List.mem_of_getElem? h2
 · exact List.mem_of_getElem? h1
theorem yj {lt:Int→Int→Bool}:∀ {d:Nat} {l:List Int} {x:Int},x ∈ sink lt d l→x ∈ l
 | 0,l,x,h=>h
 | d+1,l,x,h=>by
  simp only [sink] at h
  split at h
  · rename_i e e1 h1 h2
    split at h
    · exact swap_mem h1 h2 (yj h)
    · exact h
  · exact h
def ltI (c:Int) (ws:List Int) (al:Int) (x y:Int):Bool:=decide (WS c ws al x y<0)
theorem ins_ok (l:List Int) (c:Int) (ws:List Int) (al:Int) (n0:Nat) (hk:∀ x ∈ l,Yy c ws al x) (hl:l.length≤1000) :
 Lent Try.prog 79 [.sl 0 n0 0 l.length 1,.int .i64 0,.int .i64 (l.length:Int),.clos 67 [] [.ptr 1 0 0]] [⟨true,n0,1,true,rowI l,true⟩,⟨true,0,1,false,[.clos 65 [] [.ptr 2 0 0,.ptr 3 0 0,.ptr 4 0 0]],false⟩,⟨true,0,1,true,[.int .i64 c],false⟩,⟨true,0,1,true,[.rsl (rowI ws) 0 ws.length],false⟩,⟨true,0,1,true,[.int .i64 al],false⟩]
  (.tup []) [⟨true,n0,1,true,rowI (YB (ltI c ws al) l),true⟩,⟨true,0,1,false,[.clos 65 [] [.ptr 2 0 0,.ptr 3 0 0,.ptr 4 0 0]],false⟩,⟨true,0,1,true,[.int .i64 c],false⟩,⟨true,0,1,true,[.rsl (rowI ws) 0 ws.length],false⟩,⟨true,0,1,true,[.int .i64 al],false⟩]:=by
 refine lent_of _ Try.func79 f79b rfl rfl fun E hE=>?_
 have inner:∀ (d:Nat) (l':List Int) (j i:Int),j=d→(∀ x ∈ l',Yy c ws al x)→d<l'.length→l'.length≤1000→(0≤i∧i≤1000)→f79G0 E 0 (l.length:Int) l c ws al n0 (sink (ltI c ws al) d l') (i+1)→f79G1 E 0 (l.length:Int) l c ws al n0 j l' i:=by
  intro d
  induction d with
  | zero =>
   intro l' j i hj hk hd hl hi hg
   exact f79W1 0 _ l c ws al n0 j l' i (rv:=()) hE ⟨fun h=>by omega,fun _=>⟨by omega,hg⟩⟩
  | succ d ih =>
   intro l' j i hj hk hd hl hi hg
   have h1:l'[d+1]?=some l'[d+1]:=List.getElem?_eq_getElem hd
   have h2:l'[d]?=some l'[d]:=List.getElem?_eq_getElem (by omega)
   have e1:Int.toNat j=d+1:=by omega
   have e2:Int.toNat (j - 1)=d:=by omega
   have k1:=hk _ (List.mem_of_getElem? h1)
   have k2:=hk _ (List.mem_of_getElem? h2)
   simp only [sink,h1,h2] at hg
   refine f79W1 0 _ l c ws al n0 j l' i (rv:=()) hE ⟨fun _=>⟨by omega,l'[d+1],by rw [e1]; exact h1,by omega,by omega,l'[d],by rw [e2]; exact h2,⟨k2,k1⟩,fun h=>⟨by omega,by omega,by omega,l'[d],?_,by omega,?_⟩,fun h=>⟨by omega,?_⟩⟩,fun h=>by omega⟩
   · rw [e1,e2,List.getElem?_set_ne (by omega)]; exact h2
   · rw [e1,e2]
     rw [if_pos (by simp only [ltI]; exact decide_eq_true h)] at hg
     refine ih _ _ i (by omega) (fun x hx=>hk x (swap_mem h1 h2 hx)) (by simp; omega) (by simp; omega) hi hg
   · rw [if_neg (by simp only [ltI]; simpa using h)] at hg
     exact hg
 have outer:∀ (m k:Nat) (l':List Int),(k+1)+m=l.length→l'=(List.range k).foldl (fun l k=>sink (ltI c ws al) (k+1) l) l→l'.length=l.length→(∀ x ∈ l',Yy c ws al x)→f79G0 E 0 (l.length:Int) l c ws al n0 l' (0+1+k):=by
  intro m
  induction m with
  | zero =>
   intro k l' hkm hl' hlen hk'
   refine f79W0 0 _ l c ws al n0 l' _ (rv:=()) hE ⟨fun h=>by omega,fun _=>?_⟩
   rw [hl',YB]; congr 2; omega
  | succ m ih =>
   intro k l' hkm hl' hlen hk'
   refine f79W0 0 _ l c ws al n0 l' _ (rv:=()) hE ⟨fun _=>inner (k+1) l' _ _ (by omega) hk' (by omega) (by omega) (by omega) ?_,fun h=>by omega⟩
   have:=ih (k+1) (sink (ltI c ws al) (k+1) l') (by omega) (by rw [List.range_succ,List.foldl_append,← hl']; rfl) (by rw [yl]; exact hlen) (fun x hx=>hk' x (yj hx))
   have e:(0+1+(k:Int)+1)=0+1+((k+1:Nat):Int):=by omega
   rw [e]; exact this
 refine f79W 0 _ l c ws al n0 (rv:=()) hE ⟨by omega,?_⟩
 by_cases h0:l.length=0
 · refine f79W0 0 _ l c ws al n0 l _ (rv:=()) hE ⟨fun h=>by omega,fun _=>?_⟩
   rw [YB,h0]; rfl
 · exact outer (l.length - 1) 0 l (by omega) rfl rfl hk
theorem ins15_ok (l:List Int) (c:Int) (ws:List Int) (al:Int) (n0:Nat) (a b:Int) (h:(∀ x ∈ l,Yy c ws al x)∧l.length≤15∧a=0∧b=(l.length:Int)) :
 Lent Try.prog 79 [.sl 0 n0 0 l.length 1,.int .i64 a,.int .i64 b,.clos 67 [] [.ptr 1 0 0]] [⟨true,n0,1,true,rowI l,true⟩,⟨true,0,1,false,[.clos 65 [] [.ptr 2 0 0,.ptr 3 0 0,.ptr 4 0 0]],false⟩,⟨true,0,1,true,[.int .i64 c],false⟩,⟨true,0,1,true,[.rsl (rowI ws) 0 ws.length],false⟩,⟨true,0,1,true,[.int .i64 al],false⟩] (.tup []) [⟨true,n0,1,true,rowI (YB (ltI c ws al) l),true⟩,⟨true,0,1,false,[.clos 65 [] [.ptr 2 0 0,.ptr 3 0 0,.ptr 4 0 0]],false⟩,⟨true,0,1,true,[.int .i64 c],false⟩,⟨true,0,1,true,[.rsl (rowI ws) 0 ws.length],false⟩,⟨true,0,1,true,[.int .i64 al],false⟩]:=by
 obtain ⟨h1,h2,rfl,rfl⟩:=h
 exact ins_ok l c ws al n0 h1 (by omega)
theorem f75b:Try.f75.body=some (Qa Try.prog 75):=by kernel_rfl
def f75K0 (P:Program):List Item:=kAt 400 [.code (Qa P 75)] [.stop]
def f75S0 (n:Int) (l:List Int) (c:Int) (ws:List Int) (al:Int) (n0:Nat) (a:Nat) (b:Nat) (v0:List Int):St:=⟨([.sl 0 n0 0 v0.length 1,.int .i64 n,.clos 67 [] [.ptr 1 0 0],J,J,J,.int .i64 20,.int .i64 (a:Int),.int .i64 (b:Int)]++Js 54),[⟨true,n0,1,true,(rowI v0),true⟩,⟨true,0,1,false,[.clos 65 [] [.ptr 2 0 0,.ptr 3 0 0,.ptr 4 0 0]],false⟩,⟨true,0,1,true,[.int .i64 c],false⟩,⟨true,0,1,true,[.rsl (rowI ws) 0 ws.length],false⟩,⟨true,0,1,true,[.int .i64 al],false⟩]⟩
def f75G0 (E:Env) (n:Int) (l:List Int) (c:Int) (ws:List Int) (al:Int) (n0:Nat) (a:Nat) (b:Nat) (v0:List Int):Prop:=G Try.prog E (f75K0 Try.prog) (f75S0 n l c ws al n0 a b v0 )
def f75K1 (P:Program):List Item:=kAt 400 [.code (Qa P 75)] [.b false,.stop]
def f75S1 (n:Int) (l:List Int) (c:Int) (ws:List Int) (al:Int) (n0:Nat) (v0:List Int) (blockSize:Int):St:=⟨([.sl 0 n0 0 v0.length 1,.int .i64 n,.clos 67 [] [.ptr 1 0 0],J,J,J,.int .i64 blockSize]++Js 56),[⟨true,n0,1,true,(rowI v0),true⟩,⟨true,0,1,false,[.clos 65 [] [.ptr 2 0 0,.ptr 3 0 0,.ptr 4 0 0]],false⟩,⟨true,0,1,true,[.int .i64 c],false⟩,⟨true,0,1,true,[.rsl (rowI ws) 0 ws.length],false⟩,⟨true,0,1,true,[.int .i64 al],false⟩]⟩
def f75G1 (E:Env) (n:Int) (l:List Int) (c:Int) (ws:List Int) (al:Int) (n0:Nat) (v0:List Int) (blockSize:Int):Prop:=G Try.prog E (f75K1 Try.prog) (f75S1 n l c ws al n0 v0 blockSize )
def f75K2 (P:Program):List Item:=kAt 400 [.code (Qa P 75)] [.b false,.b true,.stop]
def f75S2 (n:Int) (l:List Int) (c:Int) (ws:List Int) (al:Int) (n0:Nat) (v0:List Int) (blockSize:Int) (b:Int):St:=⟨([.sl 0 n0 0 v0.length 1,.int .i64 n,.clos 67 [] [.ptr 1 0 0],J,J,J,.int .i64 blockSize,.int .i64 0,.int .i64 b]++Js 54),[⟨true,n0,1,true,(rowI v0),true⟩,⟨true,0,1,false,[.clos 65 [] [.ptr 2 0 0,.ptr 3 0 0,.ptr 4 0 0]],false⟩,⟨true,0,1,true,[.int .i64 c],false⟩,⟨true,0,1,true,[.rsl (rowI ws) 0 ws.length],false⟩,⟨true,0,1,true,[.int .i64 al],false⟩]⟩
def f75G2 (E:Env) (n:Int) (l:List Int) (c:Int) (ws:List Int) (al:Int) (n0:Nat) (v0:List Int) (blockSize:Int) (b:Int):Prop:=G Try.prog E (f75K2 Try.prog) (f75S2 n l c ws al n0 v0 blockSize b )
abbrev z75_1 (n0:Nat) (c:Int) (ws:List Int) (al:Int) (v0:List Int):List Blk:=[⟨true,n0,1,true,(rowI (YB (ltI c ws al) v0)),true⟩,⟨true,0,1,false,[.clos 65 [] [.ptr 2 0 0,.ptr 3 0 0,.ptr 4 0 0]],false⟩,⟨true,0,1,true,[.int .i64 c],false⟩,⟨true,0,1,true,[.rsl (rowI ws) 0 ws.length],false⟩,⟨true,0,1,true,[.int .i64 al],false⟩]
abbrev z75_2 (n0:Nat) (v0:List Int) (c:Int) (ws:List Int) (al:Int):List Blk:=[⟨true,n0,1,true,(rowI v0),true⟩,⟨true,0,1,false,[.clos 65 [] [.ptr 2 0 0,.ptr 3 0 0,.ptr 4 0 0]],false⟩,⟨true,0,1,true,[.int .i64 c],false⟩,⟨true,0,1,true,[.rsl (rowI ws) 0 ws.length],false⟩,⟨true,0,1,true,[.int .i64 al],false⟩]
abbrev z75_3 (n0:Nat) (l:List Int) (c:Int) (ws:List Int) (al:Int):List Blk:=[⟨true,n0,1,true,(rowI l),true⟩,⟨true,0,1,false,[.clos 65 [] [.ptr 2 0 0,.ptr 3 0 0,.ptr 4 0 0]],false⟩,⟨true,0,1,true,[.int .i64 c],false⟩,⟨true,0,1,true,[.rsl (rowI ws) 0 ws.length],false⟩,⟨true,0,1,true,[.int .i64 al],false⟩]
theorem p75_start_0 (n:Int) (l:List Int) (c:Int) (ws:List Int) (al:Int) (n0:Nat) {E:Env} {rv:AV} {bs2:List Blk} (hE:LentE Try.prog 75 [.sl 4 0 0 0 1] rv bs2 E) (ho:AllP [])
 (hg:G Try.prog E (f75K0 Try.prog) ⟨([.sl 0 n0 0 l.length 1,.int .i64 n,.clos 67 [] [.ptr 1 0 0],J,J,J,.int .i64 20,.int .i64 0,.int .i64 20]++Js 54),(z75_3 n0 l c ws al)⟩):G Try.prog E [.code (Qa Try.prog 75)] ⟨[.sl 0 n0 0 l.length 1,.int .i64 n,.clos 67 [] [.ptr 1 0 0]]++unds (Try.f75.ntmps - 3),(z75_3 n0 l c ws al)⟩ :=
 Qe (n:=400) (ds:=[]) (cs:=[]) (live:=[0,1,2,6,7,8]) (m:=5) (evs:=[.stop]) (obs:=_) hE.kind (hE.nogh (by kernel_rfl)) Qg (by kernel_rfl) ho hg
theorem f75W (n:Int) (l:List Int) (c:Int) (ws:List Int) (al:Int) (n0:Nat) {E:Env} {rv:Unit} {lo:List Int} (hE:LentE Try.prog 75 [.sl 4 0 0 0 1] (.tup []) [⟨true,n0,1,true,(rowI lo),true⟩,⟨true,0,1,false,[.clos 65 [] [.ptr 2 0 0,.ptr 3 0 0,.ptr 4 0 0]],false⟩,⟨true,0,1,true,[.int .i64 c],false⟩,⟨true,0,1,true,[.rsl (rowI ws) 0 ws.length],false⟩,⟨true,0,1,true,[.int .i64 al],false⟩] E)
 (h:f75G0 E n l c ws al n0 0 20 l):G Try.prog E [.code (Qa Try.prog 75)] ⟨[.sl 0 n0 0 l.length 1,.int .i64 n,.clos 67 [] [.ptr 1 0 0]]++unds (Try.f75.ntmps - 3),[⟨true,n0,1,true,(rowI l),true⟩,⟨true,0,1,false,[.clos 65 [] [.ptr 2 0 0,.ptr 3 0 0,.ptr 4 0 0]],false⟩,⟨true,0,1,true,[.int .i64 c],false⟩,⟨true,0,1,true,[.rsl (rowI ws) 0 ws.length],false⟩,⟨true,0,1,true,[.int .i64 al],false⟩]⟩:=by
 exact p75_start_0 n l c ws al n0 hE trivial h
theorem p75_0_0 (n:Int) (l:List Int) (c:Int) (ws:List Int) (al:Int) (n0:Nat) (a:Nat) (b:Nat) (v0:List Int) {E:Env} {rv:AV} {bs2:List Blk} (hE:LentE Try.prog 75 [.sl 4 0 0 0 1] rv bs2 E) (ho:AllP [(decide ((b:Int)≤n))=true,YZ Try.prog (.clos 79 [] []) [.sl 0 n0 0 v0.length 1,.int .i64 (a:Int),.int .i64 (b:Int),.clos 67 [] [.ptr 1 0 0]] (z75_2 n0 v0 c ws al) (.tup []) (z75_1 n0 c ws al v0),InR .i64 ((b:Int)+20)])
 (hg:G Try.prog E (f75K0 Try.prog) ⟨([.sl 0 n0 0 v0.length 1,.int .i64 n,.clos 67 [] [.ptr 1 0 0],J,J,J,.int .i64 20,.int .i64 (b:Int),.int .i64 ((b:Int)+20)]++Js 54),(z75_1 n0 c ws al v0)⟩):G Try.prog E (f75K0 Try.prog) (f75S0 n l c ws al n0 a b v0 ) :=
 Qe (n:=400) (ds:=[]) (cs:=[]) (live:=[0,1,2,6,7,8]) (m:=5) (evs:=[.b true,.lent [0,1,2,3,4] (.tup []) (z75_1 n0 c ws al v0),.stop]) (obs:=_) hE.kind (hE.nogh (by kernel_rfl)) Qg (by kernel_rfl) ho hg
theorem p75_0_1 (n:Int) (l:List Int) (c:Int) (ws:List Int) (al:Int) (n0:Nat) (a:Nat) (b:Nat) (v0:List Int) {E:Env} {rv:AV} {bs2:List Blk} (hE:LentE Try.prog 75 [.sl 4 0 0 0 1] rv bs2 E) (ho:AllP [(decide ((b:Int)≤n))=false,YZ Try.prog (.clos 79 [] []) [.sl 0 n0 0 v0.length 1,.int .i64 (a:Int),.int .i64 n,.clos 67 [] [.ptr 1 0 0]] (z75_2 n0 v0 c ws al) (.tup []) (z75_1 n0 c ws al v0)])
 (hg:G Try.prog E (f75K1 Try.prog) ⟨([.sl 0 n0 0 v0.length 1,.int .i64 n,.clos 67 [] [.ptr 1 0 0],J,J,J,.int .i64 20]++Js 56),(z75_1 n0 c ws al v0)⟩):G Try.prog E (f75K0 Try.prog) (f75S0 n l c ws al n0 a b v0 ) :=
 Qe (n:=400) (ds:=[]) (cs:=[]) (live:=[0,1,2,6]) (m:=5) (evs:=[.b false,.lent [0,1,2,3,4] (.tup []) (z75_1 n0 c ws al v0),.stop]) (obs:=_) hE.kind (hE.nogh (by kernel_rfl)) Qg (by kernel_rfl) ho hg
theorem f75W0 (n:Int) (l:List Int) (c:Int) (ws:List Int) (al:Int) (n0:Nat) (a:Nat) (b:Nat) (v0:List Int) {E:Env} {rv:Unit} {lo:List Int} (hE:LentE Try.prog 75 [.sl 4 0 0 0 1] (.tup []) [⟨true,n0,1,true,(rowI lo),true⟩,⟨true,0,1,false,[.clos 65 [] [.ptr 2 0 0,.ptr 3 0 0,.ptr 4 0 0]],false⟩,⟨true,0,1,true,[.int .i64 c],false⟩,⟨true,0,1,true,[.rsl (rowI ws) 0 ws.length],false⟩,⟨true,0,1,true,[.int .i64 al],false⟩] E)
 (h:(((b:Int)≤n→(((∀ x ∈ v0,Yy c ws al x)∧v0.length≤15∧(a:Int)=0∧(b:Int)=(v0.length:Int))∧((I6 ((b:Int)+20))∧f75G0 E n l c ws al n0 b (b+20) (YB (ltI c ws al) v0))))∧(¬ ((b:Int)≤n)→(((∀ x ∈ v0,Yy c ws al x)∧v0.length≤15∧(a:Int)=0∧n=(v0.length:Int))∧f75G1 E n l c ws al n0 (YB (ltI c ws al) v0) 20)))):f75G0 E n l c ws al n0 a b v0:=by
 rcases bft (decide ((b:Int)≤n)) with hc0 | hc0
 · have h:=h.1 (odt hc0)
   obtain ⟨h1,h⟩:=h
   obtain ⟨q2_1,h⟩:=h
   refine p75_0_0 n l c ws al n0 a b v0 hE ⟨hc0,(Xj Try.func79 (by kernel_rfl) f79b (ins15_ok v0 c ws al n0 (a:Int) (b:Int) h1)),q2_1,trivial⟩ ?_
   have h:=h
   simp only [f75G0,f75S0,List.length_set,Vp] at h
   skip
   exact h
 · have h:=h.2 (odf hc0)
   obtain ⟨h1,h⟩:=h
   refine p75_0_1 n l c ws al n0 a b v0 hE ⟨hc0,(Xj Try.func79 (by kernel_rfl) f79b (ins15_ok v0 c ws al n0 (a:Int) n h1)),trivial⟩ ?_
   have h:=h
   simp only [f75G1,f75S1,List.length_set,Vp] at h
   skip
   exact h
theorem p75_1_0 (n:Int) (l:List Int) (c:Int) (ws:List Int) (al:Int) (n0:Nat) (v0:List Int) (blockSize:Int) {E:Env} {rv:AV} {bs2:List Blk} (hE:LentE Try.prog 75 [.sl 4 0 0 0 1] rv bs2 E) (ho:AllP [(decide (blockSize<n))=true,InR .i64 (2*blockSize)])
 (hg:G Try.prog E (f75K2 Try.prog) ⟨([.sl 0 n0 0 v0.length 1,.int .i64 n,.clos 67 [] [.ptr 1 0 0],J,J,J,.int .i64 blockSize,.int .i64 0,.int .i64 (2*blockSize)]++Js 54),(z75_2 n0 v0 c ws al)⟩):G Try.prog E (f75K1 Try.prog) (f75S1 n l c ws al n0 v0 blockSize ) :=
 Qe (n:=400) (ds:=[]) (cs:=[]) (live:=[0,1,2,6,7,8]) (m:=5) (evs:=[.b true,.stop]) (obs:=_) hE.kind (hE.nogh (by kernel_rfl)) Qg (by kernel_rfl) ho hg
theorem p75_1_1 (n:Int) (l:List Int) (c:Int) (ws:List Int) (al:Int) (n0:Nat) (v0:List Int) (blockSize:Int) {E:Env} {res:AV} {bs2:List Blk} (hE:LentE Try.prog 75 [.sl 4 0 0 0 1] res bs2 E) (ho:AllP [(decide (blockSize<n))=false])
 (hr:(.tup [])=res) (hb:(z75_2 n0 v0 c ws al)=bs2):G Try.prog E (f75K1 Try.prog) (f75S1 n l c ws al n0 v0 blockSize ) :=
 Xo (n:=400) (live:=[]) (m:=5) (evs:=[.b false]) (obs:=_) hE (hE.nogh (by kernel_rfl)) Try.func75 Qg (by kernel_rfl) ho hr hb
theorem f75W1 (n:Int) (l:List Int) (c:Int) (ws:List Int) (al:Int) (n0:Nat) (v0:List Int) (blockSize:Int) {E:Env} {rv:Unit} {lo:List Int} (hE:LentE Try.prog 75 [.sl 4 0 0 0 1] (.tup []) [⟨true,n0,1,true,(rowI lo),true⟩,⟨true,0,1,false,[.clos 65 [] [.ptr 2 0 0,.ptr 3 0 0,.ptr 4 0 0]],false⟩,⟨true,0,1,true,[.int .i64 c],false⟩,⟨true,0,1,true,[.rsl (rowI ws) 0 ws.length],false⟩,⟨true,0,1,true,[.int .i64 al],false⟩] E)
 (h:((blockSize<n→((I6 (2*blockSize))∧f75G2 E n l c ws al n0 v0 blockSize (2*blockSize)))∧(¬ (blockSize<n)→lo=v0))):f75G1 E n l c ws al n0 v0 blockSize:=by
 rcases bft (decide (blockSize<n)) with hc0 | hc0
 · have h:=h.1 (odt hc0)
   obtain ⟨q1_1,h⟩:=h
   exact p75_1_0 n l c ws al n0 v0 blockSize hE ⟨hc0,q1_1,trivial⟩ h
 · have h:=h.2 (odf hc0)
   have qe0:=h
   exact p75_1_1 n l c ws al n0 v0 blockSize hE ⟨hc0,trivial⟩ (by try rfl) (by rw [qe0]; all_goals (first | rfl | (simp only [List.length_set]; done) | (simp only [List.length_set]; rfl) | (simp only [List.length_set,List.length_replicate]; done)))
theorem stable_ok (l:List Int) (c:Int) (ws:List Int) (al:Int) (n0:Nat) (n:Int) (h:(∀ x ∈ l,Yy c ws al x)∧l.length≤15∧n=(l.length:Int)) :
 Lent Try.prog 75 [.sl 0 n0 0 l.length 1,.int .i64 n,.clos 67 [] [.ptr 1 0 0]] [⟨true,n0,1,true,rowI l,true⟩,⟨true,0,1,false,[.clos 65 [] [.ptr 2 0 0,.ptr 3 0 0,.ptr 4 0 0]],false⟩,⟨true,0,1,true,[.int .i64 c],false⟩,⟨true,0,1,true,[.rsl (rowI ws) 0 ws.length],false⟩,⟨true,0,1,true,[.int .i64 al],false⟩] (.tup []) [⟨true,n0,1,true,rowI (YB (ltI c ws al) l),true⟩,⟨true,0,1,false,[.clos 65 [] [.ptr 2 0 0,.ptr 3 0 0,.ptr 4 0 0]],false⟩,⟨true,0,1,true,[.int .i64 c],false⟩,⟨true,0,1,true,[.rsl (rowI ws) 0 ws.length],false⟩,⟨true,0,1,true,[.int .i64 al],false⟩]:=by
 obtain ⟨h1,h2,rfl⟩:=h
 refine lent_of _ Try.func75 f75b rfl rfl fun E hE=>?_
 refine f75W _ l c ws al n0 (rv:=()) hE ?_
 refine f75W0 _ l c ws al n0 _ _ _ (rv:=()) hE ⟨fun h=>by omega,fun _=>⟨⟨h1,h2,rfl,rfl⟩,?_⟩⟩
 exact f75W1 _ l c ws al n0 _ _ (rv:=()) hE ⟨fun h=>by omega,fun _=>rfl⟩
theorem f66b:Try.f66.body=some (Qa Try.prog 66):=by kernel_rfl
abbrev z66_1 (n0:Nat) (c:Int) (ws:List Int) (al:Int) (l:List Int):List Blk:=[⟨true,n0,1,true,(rowI (YB (ltI c ws al) l)),true⟩,⟨true,0,1,false,[.clos 65 [] [.ptr 2 0 0,.ptr 3 0 0,.ptr 4 0 0]],false⟩,⟨true,0,1,true,[.int .i64 c],false⟩,⟨true,0,1,true,[.rsl (rowI ws) 0 ws.length],false⟩,⟨true,0,1,true,[.int .i64 al],false⟩]
abbrev z66_2 (n0:Nat) (l:List Int) (c:Int) (ws:List Int) (al:Int):List Blk:=[⟨true,n0,1,true,(rowI l),true⟩,⟨true,0,1,false,[.clos 65 [] [.ptr 2 0 0,.ptr 3 0 0,.ptr 4 0 0]],false⟩,⟨true,0,1,true,[.int .i64 c],false⟩,⟨true,0,1,true,[.rsl (rowI ws) 0 ws.length],false⟩,⟨true,0,1,true,[.int .i64 al],false⟩]
theorem p66_start_0 (l:List Int) (c:Int) (ws:List Int) (al:Int) (n0:Nat) {E:Env} {res:AV} {bs2:List Blk} (hE:LentE Try.prog 66 [.sl 4 0 0 0 1] res bs2 E) (ho:AllP [n0=n0,YZ Try.prog (.clos 75 [] []) [.sl 0 n0 0 l.length 1,.int .i64 (l.length:Int),.clos 67 [] [.ptr 1 0 0]] (z66_2 n0 l c ws al) (.tup []) (z66_1 n0 c ws al l)])
 (hr:(.tup [])=res) (hb:(z66_1 n0 c ws al l)=bs2):G Try.prog E [.code (Qa Try.prog 66)] ⟨[.sl 0 n0 0 l.length 1,.clos 67 [] [.ptr 1 0 0]]++unds (Try.f66.ntmps - 2),(z66_2 n0 l c ws al)⟩ :=
 Xo (n:=400) (live:=[]) (m:=5) (evs:=[.lent [0,1,2,3,4] (.tup []) (z66_1 n0 c ws al l)]) (obs:=_) hE (hE.nogh (by kernel_rfl)) Try.func66 Qg (by kernel_rfl) ho hr hb
theorem f66W (l:List Int) (c:Int) (ws:List Int) (al:Int) (n0:Nat) {E:Env} {rv:Unit} {lo:List Int} (hE:LentE Try.prog 66 [.sl 4 0 0 0 1] (.tup []) [⟨true,n0,1,true,(rowI lo),true⟩,⟨true,0,1,false,[.clos 65 [] [.ptr 2 0 0,.ptr 3 0 0,.ptr 4 0 0]],false⟩,⟨true,0,1,true,[.int .i64 c],false⟩,⟨true,0,1,true,[.rsl (rowI ws) 0 ws.length],false⟩,⟨true,0,1,true,[.int .i64 al],false⟩] E)
 (h:(((∀ x ∈ l,Yy c ws al x)∧l.length≤15∧(l.length:Int)=(l.length:Int))∧lo=(YB (ltI c ws al) l))):G Try.prog E [.code (Qa Try.prog 66)] ⟨[.sl 0 n0 0 l.length 1,.clos 67 [] [.ptr 1 0 0]]++unds (Try.f66.ntmps - 2),[⟨true,n0,1,true,(rowI l),true⟩,⟨true,0,1,false,[.clos 65 [] [.ptr 2 0 0,.ptr 3 0 0,.ptr 4 0 0]],false⟩,⟨true,0,1,true,[.int .i64 c],false⟩,⟨true,0,1,true,[.rsl (rowI ws) 0 ws.length],false⟩,⟨true,0,1,true,[.int .i64 al],false⟩]⟩:=by
 obtain ⟨h1,h⟩:=h
 have qe0:=h
 exact p66_start_0 l c ws al n0 hE ⟨rfl,(Xj Try.func75 (by kernel_rfl) f75b (stable_ok l c ws al n0 (l.length:Int) h1)),trivial⟩ (by try rfl) (by rw [qe0]; all_goals (first | rfl | (simp only [List.length_set]; done) | (simp only [List.length_set]; rfl) | (simp only [List.length_set,List.length_replicate]; done)))
theorem sort_ok (l:List Int) (c:Int) (ws:List Int) (al:Int) (n0:Nat) (h:(∀ x ∈ l,Yy c ws al x)∧l.length≤15) :
 Lent Try.prog 66 [.sl 0 n0 0 l.length 1,.clos 67 [] [.ptr 1 0 0]] [⟨true,n0,1,true,rowI l,true⟩,⟨true,0,1,false,[.clos 65 [] [.ptr 2 0 0,.ptr 3 0 0,.ptr 4 0 0]],false⟩,⟨true,0,1,true,[.int .i64 c],false⟩,⟨true,0,1,true,[.rsl (rowI ws) 0 ws.length],false⟩,⟨true,0,1,true,[.int .i64 al],false⟩] (.tup []) [⟨true,n0,1,true,rowI (YB (ltI c ws al) l),true⟩,⟨true,0,1,false,[.clos 65 [] [.ptr 2 0 0,.ptr 3 0 0,.ptr 4 0 0]],false⟩,⟨true,0,1,true,[.int .i64 c],false⟩,⟨true,0,1,true,[.rsl (rowI ws) 0 ws.length],false⟩,⟨true,0,1,true,[.int .i64 al],false⟩]:=by
 refine lent_of _ Try.func66 f66b rfl rfl fun E hE=>?_
 exact f66W l c ws al n0 (rv:=()) hE ⟨⟨h.1,h.2,rfl⟩,rfl⟩
end Go.Proofs.Ytmdbebbibecidaa
namespace Go.Proofs.Ytmdbebbibecidaa
open Go Ax
open Go.Proofs
theorem f50b:Try.f50.body=some (Qa Try.prog 50):=by kernel_rfl
theorem u50 {a c k:List AV} {r:AV} (h:Pure Try.prog 50 (a++c++k) r):Qf Try.prog (.clos 50 a k) c r:=Qn Try.func50 (by kernel_rfl) f50b h
def f50K0 (P:Program):List Item:=kAt 400 [.code (Qa P 50)] [.stop]
def f50S0 (l:(List Int)) (n:Int) (i:Nat):St:=⟨([J,J,.int .i64 n,J,J,.rsl (rowI l) 0 l.length,.int .i64 (l.length:Int),.int .i64 (i:Int)]++Js 8),[]⟩
def f50G0 (E:Env) (l:(List Int)) (n:Int) (i:Nat):Prop:=G Try.prog E (f50K0 Try.prog) (f50S0 l n i )
theorem p50_start_0 (l:(List Int)) {E:Env} {rv:AV} (hE:Qd Try.prog 50 rv E) (ho:AllP [])
 (hg:G Try.prog E (f50K0 Try.prog) ⟨([J,J,.int .i64 0,J,J,.rsl (rowI l) 0 l.length,.int .i64 (l.length:Int),.int .i64 0]++Js 8),[]⟩):G Try.prog E [.code (Qa Try.prog 50)] ⟨[.rsl (rowI l) 0 l.length]++unds (Try.f50.ntmps - 1),[]⟩ :=
 Qe (n:=400) (ds:=[]) (cs:=[]) (live:=[2,5,6,7]) (m:=0) (evs:=[.stop]) (obs:=_) hE.2.1 (hE.nogh _) Qg (by kernel_rfl) ho hg
theorem f50W (l:(List Int)) {E:Env} {rv:Int} (hE:Qd Try.prog 50 (.int .i64 rv) E)
 (h:f50G0 E l 0 0):G Try.prog E [.code (Qa Try.prog 50)] ⟨[.rsl (rowI l) 0 l.length]++unds (Try.f50.ntmps - 1),[]⟩:=by
 exact p50_start_0 l hE trivial h
theorem p50_0_0 (l:(List Int)) (n:Int) (i:Nat) (e:Int) {E:Env} {rv:AV} (hE:Qd Try.prog 50 rv E) (ho:AllP [(decide ((i:Int)<(l.length:Int)))=true,0≤(i:Int)∧(i:Int)<(l.length:Int),((rowI l).drop (0+(Int.toNat (i:Int))*1)).take 1=[.int .i64 e],InR .i64 (n+e),InR .i64 ((i:Int)+1)])
 (hg:G Try.prog E (f50K0 Try.prog) ⟨([J,J,.int .i64 (n+e),J,J,.rsl (rowI l) 0 l.length,.int .i64 (l.length:Int),.int .i64 ((i:Int)+1)]++Js 8),[]⟩):G Try.prog E (f50K0 Try.prog) (f50S0 l n i ) :=
 Qe (n:=400) (ds:=[]) (cs:=[]) (live:=[2,5,6,7]) (m:=0) (evs:=[.b true,.ld (.int .i64 e),.stop]) (obs:=_) hE.2.1 (hE.nogh _) Qg (by kernel_rfl) ho hg
theorem p50_0_1 (l:(List Int)) (n:Int) (i:Nat) {E:Env} {res:AV} (hE:Qd Try.prog 50 res E) (ho:AllP [(decide ((i:Int)<(l.length:Int)))=false])
 (hr:AvLe (.int .i64 n) res):G Try.prog E (f50K0 Try.prog) (f50S0 l n i ) :=
 Qb (n:=400) (evs:=[.b false]) (obs:=_) hE Try.func50 Qg (by kernel_rfl) ho hr
theorem f50W0 (l:(List Int)) (n:Int) (i:Nat) {E:Env} {rv:Int} (hE:Qd Try.prog 50 (.int .i64 rv) E)
 (h:(((i:Int)<(l.length:Int)→(∃ e:Int,l[i]?=some e∧((I6 (n+e))∧((I6 ((i:Int)+1))∧f50G0 E l (n+e) (i+1)))))∧(¬ ((i:Int)<(l.length:Int))→rv=n))):f50G0 E l n i:=by
 rcases bft (decide ((i:Int)<(l.length:Int))) with hc0 | hc0
 · have h:=h.1 (odt hc0)
   obtain ⟨e,h1,h⟩:=h
   obtain ⟨q4_1,h⟩:=h
   obtain ⟨q5_1,h⟩:=h
   exact p50_0_0 l n i e hE ⟨hc0,(Qy h1),(rp cI 1 0 1 h1),q4_1,q5_1,trivial⟩ h
 · have h:=h.2 (odf hc0)
   exact p50_0_1 l n i hE ⟨hc0,trivial⟩ (AvLe.of_eq (by rw [h]; try rfl))
def sumI (l:List Int):Int:=l.sum
def SumOk (l:List Int):Prop:=l.length≤9223372036854775807∧∀ k,k≤l.length→-9223372036854775808≤(l.take k).sum∧(l.take k).sum≤9223372036854775807
theorem sum_take {l:List Int} {i:Nat} {e:Int} (h:l[i]?=some e):(l.take (i+1)).sum=(l.take i).sum+e:=by
 rw [List.take_add_one,h,List.sum_append]; simp
theorem sum_ok (l:List Int) (h:SumOk l):Pure Try.prog 50 [.rsl (rowI l) 0 l.length] (.int .i64 (sumI l)):=Qt Try.func50 f50b fun E hE=>by
 have key:∀ (d i:Nat),i+d=l.length→f50G0 E l (l.take i).sum i:=by
  intro d
  induction d with
  | zero =>
   intro i hd
   refine f50W0 l _ i (rv:=sumI l) hE ⟨fun h=>by omega,fun _=>?_⟩
   rw [List.take_of_length_le (by omega)]; rfl
  | succ d ih =>
   intro i hd
   have hi:l[i]?=some l[i]:=List.getElem?_eq_getElem (by omega)
   have h1:=h.2 (i+1) (by omega)
   have h2:=ih (i+1) (by omega)
   rw [sum_take hi] at h1 h2
   have h3:=h.1
   exact f50W0 l _ i (rv:=sumI l) hE ⟨fun _=>⟨_,hi,h1,by omega,h2⟩,fun h=>by omega⟩
 exact f50W l hE (key l.length 0 (by omega))
def Ql (n:Int):Bool:=Qc n 0 1000000000
theorem f41b:Try.f41.body=some (Qa Try.prog 41):=by kernel_rfl
theorem u41 {a c k:List AV} {r:AV} (h:Pure Try.prog 41 (a++c++k) r):Qf Try.prog (.clos 41 a k) c r:=Qn Try.func41 (by kernel_rfl) f41b h
theorem p41_start_0 (n:Int) {E:Env} {res:AV} (hE:Qd Try.prog 41 res E) (ho:AllP [Qf Try.prog (.clos 49 [] []) [.int .i64 n,.int .i64 0,.int .i64 1000000000] (.bool (Qc n 0 1000000000))])
 (hr:AvLe (.bool (Qc n 0 1000000000)) res):G Try.prog E [.code (Qa Try.prog 41)] ⟨[.int .i64 n]++unds (Try.f41.ntmps - 1),[]⟩ :=
 Qb (n:=400) (evs:=[.v (.bool (Qc n 0 1000000000))]) (obs:=_) hE Try.func41 Qg (by kernel_rfl) ho hr
theorem f41W (n:Int) {E:Env} {rv:Bool} (hE:Qd Try.prog 41 (.bool rv) E)
 (h:rv=(Qc n 0 1000000000)):G Try.prog E [.code (Qa Try.prog 41)] ⟨[.int .i64 n]++unds (Try.f41.ntmps - 1),[]⟩:=by
 exact p41_start_0 n hE ⟨(u49 (Qu n 0 1000000000)),trivial⟩ (AvLe.of_eq (by rw [h]; try rfl))
theorem f64b:Try.f64.body=some (Qa Try.prog 64):=by kernel_rfl
theorem u64 {a c k:List AV} {r:AV} (h:Pure Try.prog 64 (a++c++k) r):Qf Try.prog (.clos 64 a k) c r:=Qn Try.func64 (by kernel_rfl) f64b h
theorem p64_start_0 (n:Int) {E:Env} {res:AV} (hE:Qd Try.prog 64 res E) (ho:AllP [Qf Try.prog (.clos 49 [] []) [.int .i64 n,.int .i64 0,.int .i64 1000] (.bool (Qc n 0 1000))])
 (hr:AvLe (.bool (!(Qc n 0 1000))) res):G Try.prog E [.code (Qa Try.prog 64)] ⟨[.int .i64 n]++unds (Try.f64.ntmps - 1),[]⟩ :=
 Qb (n:=400) (evs:=[.v (.bool (Qc n 0 1000))]) (obs:=_) hE Try.func64 Qg (by kernel_rfl) ho hr
theorem f64W (n:Int) {E:Env} {rv:Bool} (hE:Qd Try.prog 64 (.bool rv) E)
 (h:rv=(!(Qc n 0 1000))):G Try.prog E [.code (Qa Try.prog 64)] ⟨[.int .i64 n]++unds (Try.f64.ntmps - 1),[]⟩:=by
 exact p64_start_0 n hE ⟨(u49 (Qu n 0 1000)),trivial⟩ (AvLe.of_eq (by rw [h]; try rfl))
theorem Xp (n:Int):Pure Try.prog 41 [.int .i64 n] (.bool (Ql n)):=Qt Try.func41 f41b fun E hE=>f41W n hE rfl
theorem VY (n:Int):Pure Try.prog 64 [.int .i64 n] (.bool (!Qc n 0 1000)):=Qt Try.func64 f64b fun E hE=>f64W n hE rfl
/-- The first place where it holds; -1 if there is none. -/
def idxI (p:Int→Bool) (l:List Int):Int:=match l.findIdx? p with
 | some i=>(i:Int)
 | none=>-1
theorem yA (p:Int→Bool) (l:List Int):∀ (d i:Nat),i+d=l.length→(∀ j x,j<i→l[j]?=some x→p x=false)→∀ (Q:Nat→Prop),(∀ i,i<l.length→(∀ x,l[i]?=some x→(p x=true→idxI p l=i))→(∀ x,l[i]?=some x→p x=false→Q (i+1))→Q i) →
 ((∀ x ∈ l,p x=false)→idxI p l=-1→Q l.length)→Q i:=by
 intro d
 induction d with
 | zero =>
  intro i hi hp Q h1 h2
  have:i=l.length:=by omega
  subst this
  have hall:∀ x ∈ l,p x=false:=fun x hx=>by
   obtain ⟨j,hj⟩:=List.getElem?_of_mem hx
   exact hp j x (List.getElem?_eq_some_iff.1 hj).1 hj
  exact h2 hall (by simp only [idxI]; rw [List.findIdx?_eq_none_iff.2 hall])
 | succ d ih =>
  intro i hi hp Q h1 h2
  refine h1 i (by omega) (fun x hx hpx=>?_) (fun x hx hpx=>ih (i+1) (by omega) (fun j y hj hy=>?_) Q h1 h2)
  · have:l.findIdx? p=some i:=by
     rw [List.findIdx?_eq_some_iff_getElem]
     have hlt:=(List.getElem?_eq_some_iff.1 hx).1
     have he:=(List.getElem?_eq_some_iff.1 hx).2
     refine ⟨hlt,by rw [he]; exact hpx,fun j hj=>?_⟩
     have:=hp j _ hj (List.getElem?_eq_getElem (by omega))
     simp [this]
    simp only [idxI,this]
  · rcases Nat.lt_or_ge j i with h | h
    · exact hp j y h hy
    · have:j=i:=by omega
      subst this
      rw [hx] at hy; cases hy; exact hpx
theorem idx_any (p:Int→Bool) (l:List Int):decide (idxI p l≥0)=l.any p:=by
 cases h:l.findIdx? p with
 | none =>
  have e:idxI p l=-1:=by simp only [idxI,h]
  rw [e]
  rw [List.findIdx?_eq_none_iff] at h
  rw [show l.any p=false from by simpa using fun x hx=>by simpa using h x hx]; rfl
 | some i =>
  have e:idxI p l=(i:Int):=by simp only [idxI,h]
  rw [e]
  have:=List.findIdx?_eq_some_iff_getElem.1 h
  obtain ⟨h1,h2,-⟩:=this
  have:l.any p=true:=by rw [List.any_eq_true]; exact ⟨l[i],List.getElem_mem _,h2⟩
  rw [this]; simp
theorem f63b:Try.f63.body=some (Qa Try.prog 63):=by kernel_rfl
theorem u63 {a c k:List AV} {r:AV} (h:Pure Try.prog 63 (a++c++k) r):Qf Try.prog (.clos 63 a k) c r:=Qn Try.func63 (by kernel_rfl) f63b h
theorem p63_start_0 (n:Int) {E:Env} {res:AV} (hE:Qd Try.prog 63 res E) (ho:AllP [Qf Try.prog (.clos 41 [] []) [.int .i64 n] (.bool (Ql n))])
 (hr:AvLe (.bool (!(Ql n))) res):G Try.prog E [.code (Qa Try.prog 63)] ⟨[.int .i64 n]++unds (Try.f63.ntmps - 1),[]⟩ :=
 Qb (n:=400) (evs:=[.v (.bool (Ql n))]) (obs:=_) hE Try.func63 Qg (by kernel_rfl) ho hr
theorem f63W (n:Int) {E:Env} {rv:Bool} (hE:Qd Try.prog 63 (.bool rv) E)
 (h:rv=(!(Ql n))):G Try.prog E [.code (Qa Try.prog 63)] ⟨[.int .i64 n]++unds (Try.f63.ntmps - 1),[]⟩:=by
 exact p63_start_0 n hE ⟨(u41 (Xp n)),trivial⟩ (AvLe.of_eq (by rw [h]; try rfl))
theorem VZ (n:Int):Pure Try.prog 63 [.int .i64 n] (.bool (!Ql n)):=Qt Try.func63 f63b fun E hE=>f63W n hE rfl
theorem f74ab:Try.f74.body=some (Qa Try.prog 74):=by kernel_rfl
def qU (P:Program):List Item:=kAt 400 [.code (Qa P 74)] [.stop]
def f74aS0 (l:(List Int)) (i:Nat):St:=⟨([.rsl (rowI l) 0 l.length,.clos 63 [] []]++jj 5 ([.int .i64 (l.length:Int),.int .i64 (i:Int)]++Js 10)),[]⟩
def f74aG0 (E:Env) (l:(List Int)) (i:Nat):Prop:=G Try.prog E (qU Try.prog) (f74aS0 l i )
theorem p74a_start_0 (l:(List Int)) {E:Env} {rv:AV} (hE:Qd Try.prog 74 rv E) (ho:AllP [])
 (hg:G Try.prog E (qU Try.prog) ⟨([.rsl (rowI l) 0 l.length,.clos 63 [] []]++jj 5 ([.int .i64 (l.length:Int),.int .i64 0]++Js 10)),[]⟩):G Try.prog E [.code (Qa Try.prog 74)] ⟨[.rsl (rowI l) 0 l.length,.clos 63 [] []]++unds (Try.f74.ntmps - 2),[]⟩ :=
 Qe (n:=400) (ds:=[]) (cs:=[]) (live:=[0,1,7,8]) (m:=0) (evs:=[.stop]) (obs:=_) hE.2.1 (hE.nogh _) Qg (by kernel_rfl) ho hg
theorem f74aW (l:(List Int)) {E:Env} {rv:Int} (hE:Qd Try.prog 74 (.int .i64 rv) E)
 (h:f74aG0 E l 0):G Try.prog E [.code (Qa Try.prog 74)] ⟨[.rsl (rowI l) 0 l.length,.clos 63 [] []]++unds (Try.f74.ntmps - 2),[]⟩:=by
 exact p74a_start_0 l hE trivial h
theorem p74a_0_0 (l:(List Int)) (i:Nat) (e:Int) {E:Env} {res:AV} (hE:Qd Try.prog 74 res E) (ho:AllP [(decide ((i:Int)<(l.length:Int)))=true,0≤(i:Int)∧(i:Int)<(l.length:Int),((rowI l).drop (0+(Int.toNat (i:Int))*1)).take 1=[.int .i64 e],Qf Try.prog (.clos 63 [] []) [.int .i64 e] (.bool (!Ql e)),(!Ql e)=true])
 (hr:AvLe (.int .i64 (i:Int)) res):G Try.prog E (qU Try.prog) (f74aS0 l i ) :=
 Qb (n:=400) (evs:=[.b true,.ld (.int .i64 e),.v (.bool (!Ql e)),.b true]) (obs:=_) hE Try.func74 Qg (by kernel_rfl) ho hr
theorem p74a_0_1 (l:(List Int)) (i:Nat) (e:Int) {E:Env} {rv:AV} (hE:Qd Try.prog 74 rv E) (ho:AllP [(decide ((i:Int)<(l.length:Int)))=true,0≤(i:Int)∧(i:Int)<(l.length:Int),((rowI l).drop (0+(Int.toNat (i:Int))*1)).take 1=[.int .i64 e],Qf Try.prog (.clos 63 [] []) [.int .i64 e] (.bool (!Ql e)),(!Ql e)=false,InR .i64 ((i:Int)+1)])
 (hg:G Try.prog E (qU Try.prog) ⟨([.rsl (rowI l) 0 l.length,.clos 63 [] []]++jj 5 ([.int .i64 (l.length:Int),.int .i64 ((i:Int)+1)]++Js 10)),[]⟩):G Try.prog E (qU Try.prog) (f74aS0 l i ) :=
 Qe (n:=400) (ds:=[]) (cs:=[]) (live:=[0,1,7,8]) (m:=0) (evs:=[.b true,.ld (.int .i64 e),.v (.bool (!Ql e)),.b false,.stop]) (obs:=_) hE.2.1 (hE.nogh _) Qg (by kernel_rfl) ho hg
theorem p74a_0_2 (l:(List Int)) (i:Nat) {E:Env} {res:AV} (hE:Qd Try.prog 74 res E) (ho:AllP [(decide ((i:Int)<(l.length:Int)))=false])
 (hr:AvLe (.int .i64 (-1)) res):G Try.prog E (qU Try.prog) (f74aS0 l i ) :=
 Qb (n:=400) (evs:=[.b false]) (obs:=_) hE Try.func74 Qg (by kernel_rfl) ho hr
theorem f74aW0 (l:(List Int)) (i:Nat) {E:Env} {rv:Int} (hE:Qd Try.prog 74 (.int .i64 rv) E)
 (h:(((i:Int)<(l.length:Int)→(∃ e:Int,l[i]?=some e∧(((!Ql e)=true→rv=(i:Int))∧((!Ql e)=false→((I6 ((i:Int)+1))∧f74aG0 E l (i+1))))))∧(¬ ((i:Int)<(l.length:Int))→rv=(-1)))):f74aG0 E l i:=by
 rcases bft (decide ((i:Int)<(l.length:Int))) with hc0 | hc0
 · have h:=h.1 (odt hc0)
   obtain ⟨e,h1,h⟩:=h
   rcases bft (!Ql e) with hc1 | hc1
   · have h:=h.1 hc1
     exact p74a_0_0 l i e hE ⟨hc0,(Qy h1),(rp cI 1 0 1 h1),(u63 (VZ e)),hc1,trivial⟩ (AvLe.of_eq (by rw [h]; try rfl))
   · have h:=h.2 hc1
     obtain ⟨q6_2,h⟩:=h
     exact p74a_0_1 l i e hE ⟨hc0,(Qy h1),(rp cI 1 0 1 h1),(u63 (VZ e)),hc1,q6_2,trivial⟩ h
 · have h:=h.2 (odf hc0)
   exact p74a_0_2 l i hE ⟨hc0,trivial⟩ (AvLe.of_eq (by rw [h]; try rfl))
theorem idx63_ok (l:List Int) (h:l.length≤9223372036854775807):Pure Try.prog 74 [.rsl (rowI l) 0 l.length,.clos 63 [] []] (.int .i64 (idxI (fun x=>!Ql x) l)):=Qt Try.func74 f74ab fun E hE=>by
 refine f74aW l hE (yA (fun x=>!Ql x) l l.length 0 (by omega) (fun j x hj=>by omega) (fun i=>f74aG0 E l i) (fun i hi h1 h2=>?_) (fun _ h2=>?_))
 · have hx:l[i]?=some l[i]:=List.getElem?_eq_getElem hi
   exact f74aW0 l i hE ⟨fun _=>⟨_,hx,fun hp=>h1 _ hx hp,fun hp=>⟨by omega,h2 _ hx hp⟩⟩,fun h=>by omega⟩
 · exact f74aW0 l _ hE ⟨fun h=>by omega,fun _=>h2⟩
theorem f62ab:Try.f62.body=some (Qa Try.prog 62):=by kernel_rfl
theorem p62a_start_0 (l:(List Int)) {E:Env} {res:AV} (hE:Qd Try.prog 62 res E) (ho:AllP [Qf Try.prog (.clos 74 [] []) [.rsl (rowI l) 0 l.length,.clos 63 [] []] (.int .i64 (idxI (fun x=>!Ql x) l))])
 (hr:AvLe (.bool (decide ((idxI (fun x=>!Ql x) l)≥0))) res):G Try.prog E [.code (Qa Try.prog 62)] ⟨[.rsl (rowI l) 0 l.length,.clos 63 [] []]++unds (Try.f62.ntmps - 2),[]⟩ :=
 Qb (n:=400) (evs:=[.v (.int .i64 (idxI (fun x=>!Ql x) l))]) (obs:=_) hE Try.func62 Qg (by kernel_rfl) ho hr
theorem f62aW (l:(List Int)) {E:Env} {rv:Bool} (hE:Qd Try.prog 62 (.bool rv) E)
 (h:((l.length≤9223372036854775807)∧rv=(decide ((idxI (fun x=>!Ql x) l)≥0)))):G Try.prog E [.code (Qa Try.prog 62)] ⟨[.rsl (rowI l) 0 l.length,.clos 63 [] []]++unds (Try.f62.ntmps - 2),[]⟩:=by
 obtain ⟨h1,h⟩:=h
 exact p62a_start_0 l hE ⟨(Qn Try.func74 (by kernel_rfl) f74ab (idx63_ok l h1)),trivial⟩ (AvLe.of_eq (by rw [h]; try rfl))
theorem any63_ok (l:List Int) (h:l.length≤9223372036854775807):Pure Try.prog 62 [.rsl (rowI l) 0 l.length,.clos 63 [] []] (.bool (l.any (fun x=>!Ql x))):=Qt Try.func62 f62ab fun E hE =>
 f62aW l hE ⟨h,(idx_any _ _).symm⟩
theorem f74bb:Try.f74.body=some (Qa Try.prog 74):=by kernel_rfl
def qT (P:Program):List Item:=kAt 400 [.code (Qa P 74)] [.stop]
def f74bS0 (l:(List Int)) (i:Nat):St:=⟨([.rsl (rowI l) 0 l.length,.clos 64 [] []]++jj 5 ([.int .i64 (l.length:Int),.int .i64 (i:Int)]++Js 10)),[]⟩
def f74bG0 (E:Env) (l:(List Int)) (i:Nat):Prop:=G Try.prog E (qT Try.prog) (f74bS0 l i )
theorem p74b_start_0 (l:(List Int)) {E:Env} {rv:AV} (hE:Qd Try.prog 74 rv E) (ho:AllP [])
 (hg:G Try.prog E (qT Try.prog) ⟨([.rsl (rowI l) 0 l.length,.clos 64 [] []]++jj 5 ([.int .i64 (l.length:Int),.int .i64 0]++Js 10)),[]⟩):G Try.prog E [.code (Qa Try.prog 74)] ⟨[.rsl (rowI l) 0 l.length,.clos 64 [] []]++unds (Try.f74.ntmps - 2),[]⟩ :=
 Qe (n:=400) (ds:=[]) (cs:=[]) (live:=[0,1,7,8]) (m:=0) (evs:=[.stop]) (obs:=_) hE.2.1 (hE.nogh _) Qg (by kernel_rfl) ho hg
theorem f74bW (l:(List Int)) {E:Env} {rv:Int} (hE:Qd Try.prog 74 (.int .i64 rv) E)
 (h:f74bG0 E l 0):G Try.prog E [.code (Qa Try.prog 74)] ⟨[.rsl (rowI l) 0 l.length,.clos 64 [] []]++unds (Try.f74.ntmps - 2),[]⟩:=by
 exact p74b_start_0 l hE trivial h
theorem p74b_0_0 (l:(List Int)) (i:Nat) (e:Int) {E:Env} {res:AV} (hE:Qd Try.prog 74 res E) (ho:AllP [(decide ((i:Int)<(l.length:Int)))=true,0≤(i:Int)∧(i:Int)<(l.length:Int),((rowI l).drop (0+(Int.toNat (i:Int))*1)).take 1=[.int .i64 e],Qf Try.prog (.clos 64 [] []) [.int .i64 e] (.bool (!Qc e 0 1000)),(!Qc e 0 1000)=true])
 (hr:AvLe (.int .i64 (i:Int)) res):G Try.prog E (qT Try.prog) (f74bS0 l i ) :=
 Qb (n:=400) (evs:=[.b true,.ld (.int .i64 e),.v (.bool (!Qc e 0 1000)),.b true]) (obs:=_) hE Try.func74 Qg (by kernel_rfl) ho hr
theorem p74b_0_1 (l:(List Int)) (i:Nat) (e:Int) {E:Env} {rv:AV} (hE:Qd Try.prog 74 rv E) (ho:AllP [(decide ((i:Int)<(l.length:Int)))=true,0≤(i:Int)∧(i:Int)<(l.length:Int),((rowI l).drop (0+(Int.toNat (i:Int))*1)).take 1=[.int .i64 e],Qf Try.prog (.clos 64 [] []) [.int .i64 e] (.bool (!Qc e 0 1000)),(!Qc e 0 1000)=false,InR .i64 ((i:Int)+1)])
 (hg:G Try.prog E (qT Try.prog) ⟨([.rsl (rowI l) 0 l.length,.clos 64 [] []]++jj 5 ([.int .i64 (l.length:Int),.int .i64 ((i:Int)+1)]++Js 10)),[]⟩):G Try.prog E (qT Try.prog) (f74bS0 l i ) :=
 Qe (n:=400) (ds:=[]) (cs:=[]) (live:=[0,1,7,8]) (m:=0) (evs:=[.b true,.ld (.int .i64 e),.v (.bool (!Qc e 0 1000)),.b false,.stop]) (obs:=_) hE.2.1 (hE.nogh _) Qg (by kernel_rfl) ho hg
theorem p74b_0_2 (l:(List Int)) (i:Nat) {E:Env} {res:AV} (hE:Qd Try.prog 74 res E) (ho:AllP [(decide ((i:Int)<(l.length:Int)))=false])
 (hr:AvLe (.int .i64 (-1)) res):G Try.prog E (qT Try.prog) (f74bS0 l i ) :=
 Qb (n:=400) (evs:=[.b false]) (obs:=_) hE Try.func74 Qg (by kernel_rfl) ho hr
theorem f74bW0 (l:(List Int)) (i:Nat) {E:Env} {rv:Int} (hE:Qd Try.prog 74 (.int .i64 rv) E)
 (h:(((i:Int)<(l.length:Int)→(∃ e:Int,l[i]?=some e∧(((!Qc e 0 1000)=true→rv=(i:Int))∧((!Qc e 0 1000)=false→((I6 ((i:Int)+1))∧f74bG0 E l (i+1))))))∧(¬ ((i:Int)<(l.length:Int))→rv=(-1)))):f74bG0 E l i:=by
 rcases bft (decide ((i:Int)<(l.length:Int))) with hc0 | hc0
 · have h:=h.1 (odt hc0)
   obtain ⟨e,h1,h⟩:=h
   rcases bft (!Qc e 0 1000) with hc1 | hc1
   · have h:=h.1 hc1
     exact p74b_0_0 l i e hE ⟨hc0,(Qy h1),(rp cI 1 0 1 h1),(u64 (VY e)),hc1,trivial⟩ (AvLe.of_eq (by rw [h]; try rfl))
   · have h:=h.2 hc1
     obtain ⟨q6_2,h⟩:=h
     exact p74b_0_1 l i e hE ⟨hc0,(Qy h1),(rp cI 1 0 1 h1),(u64 (VY e)),hc1,q6_2,trivial⟩ h
 · have h:=h.2 (odf hc0)
   exact p74b_0_2 l i hE ⟨hc0,trivial⟩ (AvLe.of_eq (by rw [h]; try rfl))
theorem idx64_ok (l:List Int) (h:l.length≤9223372036854775807):Pure Try.prog 74 [.rsl (rowI l) 0 l.length,.clos 64 [] []] (.int .i64 (idxI (fun x=>!Qc x 0 1000) l)):=Qt Try.func74 f74bb fun E hE=>by
 refine f74bW l hE (yA (fun x=>!Qc x 0 1000) l l.length 0 (by omega) (fun j x hj=>by omega) (fun i=>f74bG0 E l i) (fun i hi h1 h2=>?_) (fun _ h2=>?_))
 · have hx:l[i]?=some l[i]:=List.getElem?_eq_getElem hi
   exact f74bW0 l i hE ⟨fun _=>⟨_,hx,fun hp=>h1 _ hx hp,fun hp=>⟨by omega,h2 _ hx hp⟩⟩,fun h=>by omega⟩
 · exact f74bW0 l _ hE ⟨fun h=>by omega,fun _=>h2⟩
theorem f62bb:Try.f62.body=some (Qa Try.prog 62):=by kernel_rfl
theorem p62b_start_0 (l:(List Int)) {E:Env} {res:AV} (hE:Qd Try.prog 62 res E) (ho:AllP [Qf Try.prog (.clos 74 [] []) [.rsl (rowI l) 0 l.length,.clos 64 [] []] (.int .i64 (idxI (fun x=>!Qc x 0 1000) l))])
 (hr:AvLe (.bool (decide ((idxI (fun x=>!Qc x 0 1000) l)≥0))) res):G Try.prog E [.code (Qa Try.prog 62)] ⟨[.rsl (rowI l) 0 l.length,.clos 64 [] []]++unds (Try.f62.ntmps - 2),[]⟩ :=
 Qb (n:=400) (evs:=[.v (.int .i64 (idxI (fun x=>!Qc x 0 1000) l))]) (obs:=_) hE Try.func62 Qg (by kernel_rfl) ho hr
theorem f62bW (l:(List Int)) {E:Env} {rv:Bool} (hE:Qd Try.prog 62 (.bool rv) E)
 (h:((l.length≤9223372036854775807)∧rv=(decide ((idxI (fun x=>!Qc x 0 1000) l)≥0)))):G Try.prog E [.code (Qa Try.prog 62)] ⟨[.rsl (rowI l) 0 l.length,.clos 64 [] []]++unds (Try.f62.ntmps - 2),[]⟩:=by
 obtain ⟨h1,h⟩:=h
 exact p62b_start_0 l hE ⟨(Qn Try.func74 (by kernel_rfl) f74bb (idx64_ok l h1)),trivial⟩ (AvLe.of_eq (by rw [h]; try rfl))
theorem any64_ok (l:List Int) (h:l.length≤9223372036854775807):Pure Try.prog 62 [.rsl (rowI l) 0 l.length,.clos 64 [] []] (.bool (l.any (fun x=>!Qc x 0 1000))):=Qt Try.func62 f62bb fun E hE =>
 f62bW l hE ⟨h,(idx_any _ _).symm⟩
end Go.Proofs.Ytmdbebbibecidaa
namespace Go.Proofs.Ytmdbebbibecidaa
open Go Ax
open Go.Proofs
theorem f43b:Try.f43.body=some (Qa Try.prog 43):=by kernel_rfl
theorem u43 {a c k:List AV} {r:AV} (h:Pure Try.prog 43 (a++c++k) r):Qf Try.prog (.clos 43 a k) c r:=Qn Try.func43 (by kernel_rfl) f43b h
theorem p43_start_0 (l:(List Int)) {E:Env} {res:AV} (hE:Qd Try.prog 43 res E) (ho:AllP [Qf Try.prog (.clos 49 [] []) [.int .i64 (l.length:Int),.int .i64 1,.int .i64 10] (.bool (Qc (l.length:Int) 1 10)),(Qc (l.length:Int) 1 10)=true,Qf Try.prog (.clos 62 [] []) [.rsl (rowI l) 0 l.length,.clos 64 [] []] (.bool (l.any (fun x=>!Qc x 0 1000))),(!(l.any (fun x=>!Qc x 0 1000)))=true,Qf Try.prog (.clos 50 [] []) [.rsl (rowI l) 0 l.length] (.int .i64 (sumI l))])
 (hr:AvLe (.bool (decide ((sumI l) > 0))) res):G Try.prog E [.code (Qa Try.prog 43)] ⟨[.rsl (rowI l) 0 l.length]++unds (Try.f43.ntmps - 1),[]⟩ :=
 Qb (n:=400) (evs:=[.v (.bool (Qc (l.length:Int) 1 10)),.b true,.v (.bool (l.any (fun x=>!Qc x 0 1000))),.b true,.v (.int .i64 (sumI l))]) (obs:=_) hE Try.func43 Qg (by kernel_rfl) ho hr
theorem p43_start_1 (l:(List Int)) {E:Env} {res:AV} (hE:Qd Try.prog 43 res E) (ho:AllP [Qf Try.prog (.clos 49 [] []) [.int .i64 (l.length:Int),.int .i64 1,.int .i64 10] (.bool (Qc (l.length:Int) 1 10)),(Qc (l.length:Int) 1 10)=true,Qf Try.prog (.clos 62 [] []) [.rsl (rowI l) 0 l.length,.clos 64 [] []] (.bool (l.any (fun x=>!Qc x 0 1000))),(!(l.any (fun x=>!Qc x 0 1000)))=false])
 (hr:AvLe (.bool false) res):G Try.prog E [.code (Qa Try.prog 43)] ⟨[.rsl (rowI l) 0 l.length]++unds (Try.f43.ntmps - 1),[]⟩ :=
 Qb (n:=400) (evs:=[.v (.bool (Qc (l.length:Int) 1 10)),.b true,.v (.bool (l.any (fun x=>!Qc x 0 1000))),.b false]) (obs:=_) hE Try.func43 Qg (by kernel_rfl) ho hr
theorem p43_start_2 (l:(List Int)) {E:Env} {res:AV} (hE:Qd Try.prog 43 res E) (ho:AllP [Qf Try.prog (.clos 49 [] []) [.int .i64 (l.length:Int),.int .i64 1,.int .i64 10] (.bool (Qc (l.length:Int) 1 10)),(Qc (l.length:Int) 1 10)=false,false=false])
 (hr:AvLe (.bool false) res):G Try.prog E [.code (Qa Try.prog 43)] ⟨[.rsl (rowI l) 0 l.length]++unds (Try.f43.ntmps - 1),[]⟩ :=
 Qb (n:=400) (evs:=[.v (.bool (Qc (l.length:Int) 1 10)),.b false,.b false]) (obs:=_) hE Try.func43 Qg (by kernel_rfl) ho hr
theorem f43W (l:(List Int)) {E:Env} {rv:Bool} (hE:Qd Try.prog 43 (.bool rv) E)
 (h:(((Qc (l.length:Int) 1 10)=true→((l.length≤9223372036854775807)∧(((l.any (fun x=>!Qc x 0 1000))=false→((SumOk l)∧rv=(decide ((sumI l) > 0))))∧((l.any (fun x=>!Qc x 0 1000))=true→rv=false))))∧((Qc (l.length:Int) 1 10)=false→rv=false))):G Try.prog E [.code (Qa Try.prog 43)] ⟨[.rsl (rowI l) 0 l.length]++unds (Try.f43.ntmps - 1),[]⟩:=by
 rcases bft (Qc (l.length:Int) 1 10) with hc0 | hc0
 · have h:=h.1 hc0
   obtain ⟨h1,h⟩:=h
   rcases bft (!(l.any (fun x=>!Qc x 0 1000))) with hc1 | hc1
   · have h:=h.1 (bnT hc1)
     obtain ⟨h2,h⟩:=h
     exact p43_start_0 l hE ⟨(u49 (Qu (l.length:Int) 1 10)),hc0,(Qn Try.func62 (by kernel_rfl) f62bb (any64_ok l h1)),hc1,(u50 (sum_ok l h2)),trivial⟩ (AvLe.of_eq (by rw [h]; try rfl))
   · have h:=h.2 (bnF hc1)
     exact p43_start_1 l hE ⟨(u49 (Qu (l.length:Int) 1 10)),hc0,(Qn Try.func62 (by kernel_rfl) f62bb (any64_ok l h1)),hc1,trivial⟩ (AvLe.of_eq (by rw [h]; try rfl))
 · have h:=h.2 hc0
   exact p43_start_2 l hE ⟨(u49 (Qu (l.length:Int) 1 10)),hc0,rfl,trivial⟩ (AvLe.of_eq (by rw [h]; try rfl))
theorem f42b:Try.f42.body=some (Qa Try.prog 42):=by kernel_rfl
theorem u42 {a c k:List AV} {r:AV} (h:Pure Try.prog 42 (a++c++k) r):Qf Try.prog (.clos 42 a k) c r:=Qn Try.func42 (by kernel_rfl) f42b h
theorem p42_start_0 (l:(List Int)) {E:Env} {res:AV} (hE:Qd Try.prog 42 res E) (ho:AllP [Qf Try.prog (.clos 62 [] []) [.rsl (rowI l) 0 l.length,.clos 63 [] []] (.bool (l.any (fun x=>!Ql x)))])
 (hr:AvLe (.bool (!(l.any (fun x=>!Ql x)))) res):G Try.prog E [.code (Qa Try.prog 42)] ⟨[.rsl (rowI l) 0 l.length]++unds (Try.f42.ntmps - 1),[]⟩ :=
 Qb (n:=400) (evs:=[.v (.bool (l.any (fun x=>!Ql x)))]) (obs:=_) hE Try.func42 Qg (by kernel_rfl) ho hr
theorem f42W (l:(List Int)) {E:Env} {rv:Bool} (hE:Qd Try.prog 42 (.bool rv) E)
 (h:((l.length≤9223372036854775807)∧rv=(!(l.any (fun x=>!Ql x))))):G Try.prog E [.code (Qa Try.prog 42)] ⟨[.rsl (rowI l) 0 l.length]++unds (Try.f42.ntmps - 1),[]⟩:=by
 obtain ⟨h1,h⟩:=h
 exact p42_start_0 l hE ⟨(Qn Try.func62 (by kernel_rfl) f62ab (any63_ok l h1)),trivial⟩ (AvLe.of_eq (by rw [h]; try rfl))
theorem f44b:Try.f44.body=some (Qa Try.prog 44):=by kernel_rfl
theorem u44 {a c k:List AV} {r:AV} (h:Pure Try.prog 44 (a++c++k) r):Qf Try.prog (.clos 44 a k) c r:=Qn Try.func44 (by kernel_rfl) f44b h
def f44K0 (P:Program):List Item:=kAt 400 [.code (Qa P 44)] [.stop]
def f44S0 (c:Int) (ws:(List Int)) (v3:List Int) (v4:List Int) (i:Nat) (g3:Nat) (g4:Nat):St:=⟨([J,J,.ptr 0 0 0,J,J,.ptr 2 0 0,.sl 3 g3 0 v3.length 1,.sl 4 g4 0 v4.length 1,.ptr 5 0 0]++jj 13 ([.rsl (rowI ws) 0 ws.length,.int .i64 (ws.length:Int),.int .i64 (i:Int)]++Js 39)),[⟨true,0,1,true,[.int .i64 c],false⟩,⟨true,0,1,true,[.rsl (rowI ws) 0 ws.length],false⟩,⟨true,0,1,true,[.int .i64 (sumI ws)],false⟩,⟨true,g3,1,true,(rowI v3),true⟩,⟨true,g4,1,true,(rowI v4),true⟩,⟨true,0,1,false,[.clos 65 [] [.ptr 0 0 0,.ptr 1 0 0,.ptr 2 0 0]],false⟩]⟩
def f44G0 (E:Env) (c:Int) (ws:(List Int)) (v3:List Int) (v4:List Int) (i:Nat):Prop:=∀ g3 g4:Nat,G Try.prog E (f44K0 Try.prog) (f44S0 c ws v3 v4 i g3 g4)
def f44K1 (P:Program):List Item:=kAt 400 [.code (Qa P 44)] [.b false,.stop]
def f44S1 (c:Int) (ws:(List Int)) (k:Nat) (k1:Nat) (v3:List Int) (v4:List Int) (k11:Nat) (g3:Nat) (g4:Nat):St:=⟨(jj 6 ([.sl 3 g3 0 v3.length 1]++jj 43 ([.sl 4 g4 0 k 1,.int .i64 (k1:Int),.int .i64 (k11:Int)]++Js 11))),[⟨true,0,1,true,[.int .i64 c],false⟩,⟨true,0,1,true,[.rsl (rowI ws) 0 ws.length],false⟩,⟨true,0,1,true,[.int .i64 (sumI ws)],false⟩,⟨true,g3,1,true,(rowI v3),true⟩,⟨true,g4,1,true,(rowI v4),true⟩,⟨true,0,1,false,[.clos 65 [] [.ptr 0 0 0,.ptr 1 0 0,.ptr 2 0 0]],false⟩]⟩
def f44G1 (E:Env) (c:Int) (ws:(List Int)) (k:Nat) (k1:Nat) (v3:List Int) (v4:List Int) (k11:Nat):Prop:=∀ g3 g4:Nat,G Try.prog E (f44K1 Try.prog) (f44S1 c ws k k1 v3 v4 k11 g3 g4)
abbrev z44_1 (g4:Nat) (c:Int) (ws:(List Int)) (v4:List Int):List Blk:=[⟨true,g4,1,true,(rowI (YB (ltI c ws (sumI ws)) v4)),true⟩,⟨true,0,1,false,[.clos 65 [] [.ptr 2 0 0,.ptr 3 0 0,.ptr 4 0 0]],false⟩,⟨true,0,1,true,[.int .i64 c],false⟩,⟨true,0,1,true,[.rsl (rowI ws) 0 ws.length],false⟩,⟨true,0,1,true,[.int .i64 (sumI ws)],false⟩]
abbrev z44_2:List AV:=[.clos 65 [] [.ptr 0 0 0,.ptr 1 0 0,.ptr 2 0 0]]
theorem p44_start_0 (c:Int) (ws:(List Int)) {E:Env} {rv:AV} (hE:Qd Try.prog 44 rv E) (ho:AllP [Qf Try.prog (.clos 50 [] []) [.rsl (rowI ws) 0 ws.length] (.int .i64 (sumI ws)),1≤1,0≤(ws.length:Int)∧(ws.length:Int)≤(ws.length:Int)∧(ws.length:Int)≤2147483648,0≤(ws.length:Int)∧(ws.length:Int)≤(ws.length:Int)∧(ws.length:Int)≤2147483648,1≤1])
 (hg:G Try.prog E (f44K0 Try.prog) ⟨([J,J,.ptr 0 0 0,J,J,.ptr 2 0 0,.sl 3 0 0 (Int.toNat (ws.length:Int)) 1,.sl 4 0 0 (Int.toNat (ws.length:Int)) 1,.ptr 5 0 0]++jj 13 ([.rsl (rowI ws) 0 ws.length,.int .i64 (ws.length:Int),.int .i64 0]++Js 39)),[⟨true,0,1,true,[.int .i64 c],false⟩,⟨true,0,1,true,[.rsl (rowI ws) 0 ws.length],false⟩,⟨true,0,1,true,[.int .i64 (sumI ws)],false⟩,⟨true,0,1,true,((List.replicate (Int.toNat (ws.length:Int)) ([.int .i64 0]:List AV)).flatten),true⟩,⟨true,0,1,true,((List.replicate (Int.toNat (ws.length:Int)) ([.int .i64 0]:List AV)).flatten),true⟩,⟨true,0,1,false,z44_2,false⟩]⟩):G Try.prog E [.code (Qa Try.prog 44)] ⟨[.int .i64 c,.rsl (rowI ws) 0 ws.length]++unds (Try.f44.ntmps - 2),[]⟩ :=
 Qe (n:=400) (ds:=[]) (cs:=[]) (live:=[2,5,6,7,8,22,23,24]) (m:=6) (evs:=[.v (.int .i64 (sumI ws)),.stop]) (obs:=_) hE.2.1 (hE.nogh _) Qg (by kernel_rfl) ho hg
theorem f44W (c:Int) (ws:(List Int)) {E:Env} {rv:(List Int)} (hE:Qd Try.prog 44 (.rsl (rowI rv) 0 rv.length) E)
 (h:((SumOk ws)∧(ws.length≤2147483648∧(ws.length≤2147483648∧f44G0 E c ws (List.replicate ws.length (0:Int)) (List.replicate ws.length (0:Int)) 0)))):G Try.prog E [.code (Qa Try.prog 44)] ⟨[.int .i64 c,.rsl (rowI ws) 0 ws.length]++unds (Try.f44.ntmps - 2),[]⟩:=by
 obtain ⟨h1,h⟩:=h
 obtain ⟨h2,h⟩:=h
 obtain ⟨h3,h⟩:=h
 refine p44_start_0 c ws hE ⟨(u50 (sum_ok ws h1)),(by decide),⟨by omega,by omega,by have:=h2; omega⟩,⟨by omega,by omega,by have:=h3; omega⟩,(by decide),trivial⟩ ?_
 have h:=(h 0 0)
 simp only [f44G0,f44S0,List.length_set,List.length_replicate] at h
 rw [(show (List.replicate (Int.toNat (ws.length:Int)) ([.int .i64 0]:List AV)).flatten=rowI (List.replicate ws.length (0:Int)) from row_rep cI _ _)]
 exact h
theorem p44_0_0 (c:Int) (ws:(List Int)) (v3:List Int) (v4:List Int) (i:Nat) (g3:Nat) (g4:Nat) (e:Int) (e1:Int) (e2:Int) {E:Env} {rv:AV} (hE:Qd Try.prog 44 rv E) (ho:AllP [(decide ((i:Int)<(ws.length:Int)))=true,0≤(i:Int)∧(i:Int)<(ws.length:Int),((rowI ws).drop (0+(Int.toNat (i:Int))*1)).take 1=[.int .i64 e],InR .i64 (c*e),InR .i64 (Int.tdiv (c*e) (sumI ws)),(sumI ws) ≠ 0,0≤(i:Int)∧(i:Int)<(v3.length:Int),g3=g3,((0+(Int.toNat (i:Int))*1)+1)≤(rowI v3).length,g3=g3,0≤(i:Int)∧(i:Int)<(v4.length:Int),g4=g4,((0+(Int.toNat (i:Int))*1)+1)≤(rowI v4).length,g4=g4,InR .i64 ((i:Int)+1)])
 (hg:G Try.prog E (f44K0 Try.prog) ⟨([J,J,.ptr 0 0 0,J,J,.ptr 2 0 0,.sl 3 g3 0 v3.length 1,.sl 4 g4 0 v4.length 1,.ptr 5 0 0]++jj 13 ([.rsl (rowI ws) 0 ws.length,.int .i64 (ws.length:Int),.int .i64 ((i:Int)+1)]++Js 39)),[⟨true,0,1,true,[.int .i64 c],false⟩,⟨true,0,1,true,[.rsl (rowI ws) 0 ws.length],false⟩,⟨true,0,1,true,[.int .i64 (sumI ws)],false⟩,⟨true,g3,1,true,(QU (rowI v3) (0+(Int.toNat (i:Int))*1) [.int .i64 (Int.tdiv (c*e) (sumI ws))]),true⟩,⟨true,g4,1,true,(QU (rowI v4) (0+(Int.toNat (i:Int))*1) [.int .i64 (i:Int)]),true⟩,⟨true,0,1,false,z44_2,false⟩]⟩):G Try.prog E (f44K0 Try.prog) (f44S0 c ws v3 v4 i g3 g4) :=
 Qe (n:=400) (ds:=[]) (cs:=[]) (live:=[2,5,6,7,8,22,23,24]) (m:=6) (evs:=[.b true,.ld (.int .i64 e),.stop]) (obs:=_) hE.2.1 (hE.nogh _) Qg (by kernel_rfl) ho hg
theorem p44_0_1 (c:Int) (ws:(List Int)) (v3:List Int) (v4:List Int) (i:Nat) (g3:Nat) (g4:Nat) {E:Env} {rv:AV} (hE:Qd Try.prog 44 rv E) (ho:AllP [(decide ((i:Int)<(ws.length:Int)))=false,YZ Try.prog (.clos 66 [] []) [.sl 0 g4 0 v4.length 1,.clos 67 [] [.ptr 1 0 0]] [⟨true,g4,1,true,(rowI v4),true⟩,⟨true,0,1,false,[.clos 65 [] [.ptr 2 0 0,.ptr 3 0 0,.ptr 4 0 0]],false⟩,⟨true,0,1,true,[.int .i64 c],false⟩,⟨true,0,1,true,[.rsl (rowI ws) 0 ws.length],false⟩,⟨true,0,1,true,[.int .i64 (sumI ws)],false⟩] (.tup []) (z44_1 g4 c ws v4),Qf Try.prog (.clos 50 [] []) [.rsl (rowI v3) 0 v3.length] (.int .i64 (sumI v3)),g3=g3,InR .i64 (c - (sumI v3)),0≤(Int.toNat (c - (sumI v3))),(Int.toNat (c - (sumI v3)))≤v4.length,0≤(c - (sumI v3)),g4=g4,g4=g4])
 (hg:G Try.prog E (f44K1 Try.prog) ⟨(jj 6 ([.sl 3 g3 0 v3.length 1]++jj 43 ([.sl 4 g4 0 (Int.toNat (c - (sumI v3))) 1,.int .i64 (((Int.toNat (c - (sumI v3))):Nat):Int),.int .i64 0]++Js 11))),[⟨true,0,1,true,[.int .i64 c],false⟩,⟨true,0,1,true,[.rsl (rowI ws) 0 ws.length],false⟩,⟨true,0,1,true,[.int .i64 (sumI ws)],false⟩,⟨true,g3,1,true,(rowI v3),true⟩,⟨true,g4,1,true,(rowI (YB (ltI c ws (sumI ws)) v4)),true⟩,⟨true,0,1,false,z44_2,false⟩]⟩):G Try.prog E (f44K0 Try.prog) (f44S0 c ws v3 v4 i g3 g4) :=
 Qe (n:=400) (ds:=[]) (cs:=[]) (live:=[6,50,51,52]) (m:=6) (evs:=[.b false,.lent [4,5,0,1,2] (.tup []) (z44_1 g4 c ws v4),.v (.int .i64 (sumI v3)),.stop]) (obs:=_) hE.2.1 (hE.nogh _) Qg (by kernel_rfl) ho hg
theorem f44W0 (c:Int) (ws:(List Int)) (v3:List Int) (v4:List Int) (i:Nat) {E:Env} {rv:(List Int)} (hE:Qd Try.prog 44 (.rsl (rowI rv) 0 rv.length) E)
 (h:(((i:Int)<(ws.length:Int)→(∃ e:Int,ws[i]?=some e∧((I6 (c*e))∧((I6 (Int.tdiv (c*e) (sumI ws)))∧((sumI ws) ≠ 0∧(∃ e1:Int,v3[i]?=some e1∧(∃ e2:Int,v4[i]?=some e2∧((I6 ((i:Int)+1))∧f44G0 E c ws (v3.set i (Int.tdiv (c*e) (sumI ws))) (v4.set i (i:Int)) (i+1)))))))))∧(¬ ((i:Int)<(ws.length:Int))→(((∀ x ∈ v4,Yy c ws (sumI ws) x)∧v4.length≤15)∧((SumOk v3)∧((I6 (c - (sumI v3)))∧((Int.toNat (c - (sumI v3)))≤v4.length∧(0≤(c - (sumI v3))∧f44G1 E c ws (Int.toNat (c - (sumI v3))) (Int.toNat (c - (sumI v3))) v3 (YB (ltI c ws (sumI ws)) v4) 0)))))))):f44G0 E c ws v3 v4 i:=by
 intro g3 g4
 rcases bft (decide ((i:Int)<(ws.length:Int))) with hc0 | hc0
 · have h:=h.1 (odt hc0)
   obtain ⟨e,h1,h⟩:=h
   obtain ⟨q4_1,h⟩:=h
   obtain ⟨q5_1,h⟩:=h
   obtain ⟨q6_1,h⟩:=h
   obtain ⟨e1,h2,h⟩:=h
   obtain ⟨e2,h3,h⟩:=h
   obtain ⟨q17_1,h⟩:=h
   refine p44_0_0 c ws v3 v4 i g3 g4 e e1 e2 hE ⟨hc0,(Qy h1),(rp cI 1 0 1 h1),q4_1,q5_1,q6_1,(Qy h2),rfl,(rf cI 1 0 1 h2),rfl,(Qy h3),rfl,(rf cI 1 0 1 h3),rfl,q17_1,trivial⟩ ?_
   have h:=(h g3 g4)
   simp only [f44S0,List.length_set] at h
   rw [(show QU (rowI v3) (0+(Int.toNat (i:Int))*1) [.int .i64 (Int.tdiv (c*e) (sumI ws))]=rowI (v3.set i (Int.tdiv (c*e) (sumI ws))) from Ya cI (s:=1) (k:=0) (fun _=>rfl) h2 rfl (by first | decide | simp))]; rw [(show QU (rowI v4) (0+(Int.toNat (i:Int))*1) [.int .i64 (i:Int)]=rowI (v4.set i (i:Int)) from Ya cI (s:=1) (k:=0) (fun _=>rfl) h3 rfl (by first | decide | simp))]
   exact h
 · have h:=h.2 (odf hc0)
   obtain ⟨h1,h⟩:=h
   obtain ⟨h2,h⟩:=h
   obtain ⟨q4_1,h⟩:=h
   obtain ⟨q6_1,h⟩:=h
   obtain ⟨q7_1,h⟩:=h
   refine p44_0_1 c ws v3 v4 i g3 g4 hE ⟨hc0,(Xj Try.func66 (by kernel_rfl) f66b (sort_ok v4 c ws (sumI ws) g4 h1)),(u50 (sum_ok v3 h2)),rfl,q4_1,(Nat.zero_le _),q6_1,q7_1,rfl,rfl,trivial⟩ ?_
   have h:=(h g3 g4)
   simp only [f44G1,f44S1,List.length_set,Vp] at h
   skip
   exact h
theorem p44_1_0 (c:Int) (ws:(List Int)) (k:Nat) (k1:Nat) (v3:List Int) (v4:List Int) (k11:Nat) (g3:Nat) (g4:Nat) (e:Int) (e1:Int) {E:Env} {rv:AV} (hE:Qd Try.prog 44 rv E) (ho:AllP [(decide ((k11:Int)<(k1:Int)))=true,0≤(k11:Int)∧(k11:Int)<(k:Int),g4=g4,g4=g4,((rowI v4).drop (0+(Int.toNat (k11:Int))*1)).take 1=[.int .i64 e],0≤e∧e<(v3.length:Int),g3=g3,g3=g3,((rowI v3).drop (0+(Int.toNat e)*1)).take 1=[.int .i64 e1],InR .i64 (e1+1),0≤e∧e<(v3.length:Int),g3=g3,((0+(Int.toNat e)*1)+1)≤(rowI v3).length,g3=g3,InR .i64 ((k11:Int)+1)])
 (hg:G Try.prog E (f44K1 Try.prog) ⟨(jj 6 ([.sl 3 g3 0 v3.length 1]++jj 43 ([.sl 4 g4 0 k 1,.int .i64 (k1:Int),.int .i64 ((k11:Int)+1)]++Js 11))),[⟨true,0,1,true,[.int .i64 c],false⟩,⟨true,0,1,true,[.rsl (rowI ws) 0 ws.length],false⟩,⟨true,0,1,true,[.int .i64 (sumI ws)],false⟩,⟨true,g3,1,true,(QU (rowI v3) (0+(Int.toNat e)*1) [.int .i64 (e1+1)]),true⟩,⟨true,g4,1,true,(rowI v4),true⟩,⟨true,0,1,false,z44_2,false⟩]⟩):G Try.prog E (f44K1 Try.prog) (f44S1 c ws k k1 v3 v4 k11 g3 g4) :=
 Qe (n:=400) (ds:=[]) (cs:=[]) (live:=[6,50,51,52]) (m:=6) (evs:=[.b true,.ld (.int .i64 e),.ld (.int .i64 e1),.stop]) (obs:=_) hE.2.1 (hE.nogh _) Qg (by kernel_rfl) ho hg
theorem p44_1_1 (c:Int) (ws:(List Int)) (k:Nat) (k1:Nat) (v3:List Int) (v4:List Int) (k11:Nat) (g3:Nat) (g4:Nat) {E:Env} {res:AV} (hE:Qd Try.prog 44 res E) (ho:AllP [(decide ((k11:Int)<(k1:Int)))=false,g3=g3])
 (hr:AvLe (.rsl (rowI v3) 0 v3.length) res):G Try.prog E (f44K1 Try.prog) (f44S1 c ws k k1 v3 v4 k11 g3 g4) :=
 Qb (n:=400) (evs:=[.b false]) (obs:=_) hE Try.func44 Qg (by kernel_rfl) ho hr
theorem f44W1 (c:Int) (ws:(List Int)) (k:Nat) (k1:Nat) (v3:List Int) (v4:List Int) (k11:Nat) {E:Env} {rv:(List Int)} (hE:Qd Try.prog 44 (.rsl (rowI rv) 0 rv.length) E)
 (h:(((k11:Int)<(k1:Int)→(∃ e:Int,v4[k11]?=some e∧((k11:Int)<(k:Int)∧(0≤e∧(∃ e1:Int,v3[Int.toNat e]?=some e1∧((I6 (e1+1))∧((I6 ((k11:Int)+1))∧f44G1 E c ws k k1 (v3.set (Int.toNat e) (e1+1)) v4 (k11+1))))))))∧(¬ ((k11:Int)<(k1:Int))→rv=v3))):f44G1 E c ws k k1 v3 v4 k11:=by
 intro g3 g4
 rcases bft (decide ((k11:Int)<(k1:Int))) with hc0 | hc0
 · have h:=h.1 (odt hc0)
   obtain ⟨e,h1,h⟩:=h
   obtain ⟨h2,h⟩:=h
   obtain ⟨h4,h⟩:=h
   obtain ⟨e1,h3,h⟩:=h
   obtain ⟨q12_1,h⟩:=h
   obtain ⟨q17_1,h⟩:=h
   refine p44_1_0 c ws k k1 v3 v4 k11 g3 g4 e e1 hE ⟨hc0,⟨by omega,h2⟩,rfl,rfl,(rp cI 1 0 1 h1),(Xf h4 h3),rfl,rfl,(rp cI 1 0 1 h3),q12_1,(Xf h4 h3),rfl,(rf cI 1 0 1 h3),rfl,q17_1,trivial⟩ ?_
   have h:=(h g3 g4)
   simp only [f44S1,List.length_set] at h
   rw [(show QU (rowI v3) (0+(Int.toNat e)*1) [.int .i64 (e1+1)]=rowI (v3.set (Int.toNat e) (e1+1)) from Ya cI (s:=1) (k:=0) (fun _=>rfl) h3 rfl (by first | decide | simp))]
   exact h
 · have h:=h.2 (odf hc0)
   exact p44_1_1 c ws k k1 v3 v4 k11 g3 g4 hE ⟨hc0,rfl,trivial⟩ (AvLe.of_eq (by rw [h]; try rfl))
theorem sortI_mem {lt:Int→Int→Bool} {l:List Int} {x:Int} (h:x ∈ YB lt l):x ∈ l:=by
 have:∀ (xs:List Nat) (l:List Int) (x:Int),x ∈ xs.foldl (fun l k=>sink lt (k+1) l) l→x ∈ l:=by
  intro xs
  induction xs with
  | nil=>intro l x h; exact h
  | cons y xs ih=>intro l x h; rw [List.foldl_cons] at h; exact yj (ih _ _ h)
 exact this _ _ _ h
def XX (c S w:Int):Int:=Int.tdiv (c*w) S
def Vw (c:Int) (ws:List Int):List Int:=ws.map (XX c (sumI ws))
def YG (c:Int) (ws:List Int):List Int:=YB (ltI c ws (sumI ws)) ((List.range ws.length).map fun i:Nat=>(i:Int))
def bump (l:List Int) (e:Int):List Int:=l.set (Int.toNat e) (l.getD (Int.toNat e) 0+1)
/-- The program's split: the shares rounded down,and a cent more for those first in the order. -/
def XH (c:Int) (ws:List Int):List Int:=((YG c ws).take (Int.toNat (c - sumI (Vw c ws)))).foldl bump (Vw c ws)
structure SplitOk (c:Int) (ws:List Int):Prop where
 len1:1≤ws.length
 len:ws.length≤10
 w:∀ x ∈ ws,0≤x∧x≤1000
 pos:0<sumI ws
 c0:0≤c
 c1:c≤1000000000
theorem sum_bd {B:Int} (hB:0≤B):∀ {l:List Int},(∀ x ∈ l,0≤x∧x≤B)→0≤l.sum∧l.sum≤B*(l.length:Int)
 | [],_=>by simp
 | x :: l,h=>by
  have h1:=h x (by simp)
  have h2:=sum_bd hB (l:=l) (fun y hy=>h y (by simp [hy]))
  rw [List.sum_cons,List.length_cons,Int.natCast_add,Int.mul_add]
  omega
theorem yh {B:Int} {l:List Int} (hB:0≤B) (hB2:B≤1000000000000000) (hl:l.length≤1000) (h:∀ x ∈ l,0≤x∧x≤B):SumOk l:=by
 refine ⟨by omega,fun k hk=>?_⟩
 have h1:=sum_bd hB (l:=l.take k) (fun x hx=>h x (List.mem_of_mem_take hx))
 have h2:(((l.take k).length:Nat):Int)≤1000:=by rw [List.length_take]; omega
 have h3:B*(((l.take k).length:Nat):Int)≤1000000000000000*1000:=Int.mul_le_mul hB2 h2 (by omega) (by omega)
 omega
theorem ym {c S w:Int} (hS:0<S) (hc:0≤c) (hw:0≤w):0≤XX c S w∧S*XX c S w≤c*w∧c*w≤S*XX c S w+S∧XX c S w≤c*w:=by
 have h0:0≤c*w:=Int.mul_nonneg hc hw
 have e:XX c S w=(c*w) / S:=Int.tdiv_eq_ediv_of_nonneg h0
 have h1:=Int.ediv_nonneg h0 (Int.le_of_lt hS)
 have h2:=Int.mul_ediv_self_le (x:=c*w) (k:=S) (by omega)
 have h3:=Int.lt_mul_ediv_self_add (x:=c*w) hS
 have h4:=Int.ediv_le_self S h0
 rw [e]
 exact ⟨h1,h2,by omega,h4⟩
theorem share_sum {c S:Int} (hS:0<S) (hc:0≤c):∀ {l:List Int},(∀ w ∈ l,0≤w)→S*(l.map (XX c S)).sum≤c*l.sum∧c*l.sum≤S*(l.map (XX c S)).sum+S*(l.length:Int)
 | [],_=>by simp
 | w :: l,h=>by
  obtain ⟨-,h1,h2,-⟩:=ym hS hc (h w (by simp))
  have h3:=share_sum hS hc (l:=l) (fun y hy=>h y (by simp [hy]))
  rw [List.map_cons,List.sum_cons,List.sum_cons,List.length_cons,Int.natCast_add,Int.mul_add,Int.mul_add,Int.mul_add]
  omega
theorem WL {c w:Int} (hc:0≤c∧c≤1000000000) (hw:0≤w∧w≤1000):0≤c*w∧c*w≤1000000000000:=by
 have h1:=Int.mul_nonneg hc.1 hw.1
 have h2:c*w≤1000000000*1000:=Int.mul_le_mul hc.2 hw.2 hw.1 (by omega)
 omega
theorem base_left {c:Int} {ws:List Int} (h:SplitOk c ws):sumI (Vw c ws)≤c∧c≤sumI (Vw c ws)+ws.length:=by
 have h1:=share_sum h.pos h.c0 (l:=ws) (fun w hw=>(h.w w hw).1)
 have hS:=h.pos
 simp only [sumI,Vw] at *
 constructor
 · have:ws.sum*(ws.map (XX c ws.sum)).sum≤ws.sum*c:=by rw [Int.mul_comm ws.sum c]; exact h1.1
   exact Int.le_of_mul_le_mul_left this hS
 · have:ws.sum*c≤ws.sum*((ws.map (XX c ws.sum)).sum+ws.length):=by rw [Int.mul_comm ws.sum c,Int.mul_add]; exact h1.2
   exact Int.le_of_mul_le_mul_left this hS
theorem fill_set {α:Type} (xs:List α) (z y:α) (m n:Nat) (hn:n=m+1) {i:Nat} (hi:i=xs.length):(xs++List.replicate n z).set i y=(xs++[y])++List.replicate m z:=by
 subst hn; subst hi
 rw [List.set_append_right _ _ (Nat.le_refl _),Nat.sub_self,List.replicate_succ,List.set_cons_zero,List.append_assoc]; rfl
theorem fill_get {α:Type} (xs:List α) (z:α) (m n:Nat) (hn:n=m+1) {i:Nat} (hi:i=xs.length):(xs++List.replicate n z)[i]?=some z:=by
 subst hn; subst hi
 rw [List.getElem?_append_right (Nat.le_refl _),Nat.sub_self,List.replicate_succ]; rfl
theorem key_ok_of {c:Int} {ws:List Int} (h:SplitOk c ws) {x:Int} (h0:0≤x) (h1:x<ws.length):Yy c ws (sumI ws) x:=by
 have hg:ws[Int.toNat x]?=some (ws.getD (Int.toNat x) 0):=by simp [List.getD,show Int.toNat x<ws.length by omega]
 have hw:=h.w _ (List.mem_of_getElem? hg)
 have:=WL ⟨h.c0,h.c1⟩ hw
 have:=h.pos
 exact ⟨h0,h1,by omega,by omega⟩
theorem split_ok (c:Int) (ws:List Int) (h:SplitOk c ws):Pure Try.prog 44 [.int .i64 c,.rsl (rowI ws) 0 ws.length] (.rsl (rowI (XH c ws)) 0 (XH c ws).length):=Qt Try.func44 f44b fun E hE=>by
 have hS:=h.pos
 have hlen:=h.len
 have hb:=base_left h
 have bd:∀ x ∈ Vw c ws,0≤x∧x≤1000000000000:=by
  intro x hx
  obtain ⟨w,hw,rfl⟩:=List.mem_map.1 hx
  have h1:=ym hS h.c0 (h.w w hw).1
  have h2:=WL ⟨h.c0,h.c1⟩ (h.w w hw)
  omega
 have hbl:(Vw c ws).length=ws.length:=by simp [Vw]
 have hol:(YG c ws).length=ws.length:=by simp [YG,Vp]
 have hom:∀ x ∈ YG c ws,0≤x∧x<ws.length:=by
  intro x hx
  obtain ⟨i,hi,rfl⟩:=List.mem_map.1 (sortI_mem hx)
  have:=List.mem_range.1 hi
  omega
 -- the cents that are left
 have last:∀ (d i:Nat) (v:List Int),i+d=Int.toNat (c - sumI (Vw c ws))→v=((YG c ws).take i).foldl bump (Vw c ws)→v.length=ws.length→(∀ x ∈ v,0≤x∧x≤1000000000000+i) →
  f44G1 E c ws (Int.toNat (c - sumI (Vw c ws))) (Int.toNat (c - sumI (Vw c ws))) v (YG c ws) i:=by
  intro d
  induction d with
  | zero =>
   intro i v hd hv hvl hvb
   refine f44W1 c ws _ _ v _ i (rv:=XH c ws) hE ⟨fun h=>by omega,fun _=>?_⟩
   rw [hv,XH,← hd]; rfl
  | succ d ih =>
   intro i v hd hv hvl hvb
   have hi:(YG c ws)[i]?=some (YG c ws)[i]:=List.getElem?_eq_getElem (by omega)
   have h1:=hom _ (List.mem_of_getElem? hi)
   have h2:v[Int.toNat (YG c ws)[i]]?=some (v.getD (Int.toNat (YG c ws)[i]) 0):=by simp [List.getD,show Int.toNat (YG c ws)[i]<v.length by omega]
   have h3:=hvb _ (List.mem_of_getElem? h2)
   refine f44W1 c ws _ _ v _ i (rv:=XH c ws) hE ⟨fun _=>⟨_,hi,by omega,h1.1,_,h2,by omega,by omega,ih (i+1) _ (by omega) ?_ (by simp [hvl]) (fun x hx=>?_)⟩,fun h=>by omega⟩
   · rw [List.take_add_one,hi,List.foldl_append,← hv]; rfl
   · rcases List.mem_or_eq_of_mem_set hx with hx | rfl
     · have:=hvb x hx; omega
     · omega
 -- the shares
 have first:∀ (d i:Nat),i+d=ws.length→f44G0 E c ws ((ws.take i).map (XX c (sumI ws))++List.replicate d 0) ((List.range i).map (fun i:Nat=>(i:Int))++List.replicate d 0) i:=by
  intro d
  induction d with
  | zero =>
   intro i hd
   have e1:(ws.take i).map (XX c (sumI ws))=Vw c ws:=by rw [List.take_of_length_le (by omega)]; rfl
   have e2:i=ws.length:=by omega
   rw [e1,List.replicate_zero,List.append_nil,List.append_nil,e2]
   refine f44W0 c ws _ _ _ (rv:=XH c ws) hE ⟨fun h=>by omega,fun _=>⟨⟨fun x hx=>?_,by simp; omega⟩,yh (B:=1000000000000) (by omega) (by omega) (by omega) bd,by omega,by simp; omega,by omega,?_⟩⟩
   · obtain ⟨j,hj,rfl⟩:=List.mem_map.1 hx
     have:=List.mem_range.1 hj
     exact key_ok_of h (by omega) (by omega)
   · exact last (Int.toNat (c - sumI (Vw c ws))) 0 _ (by omega) rfl hbl (fun x hx=>by have:=bd x hx; omega)
  | succ d ih =>
   intro i hd
   have hi:ws[i]?=some ws[i]:=List.getElem?_eq_getElem (by omega)
   have hw:=h.w _ (List.mem_of_getElem? hi)
   have h1:=ym hS h.c0 hw.1
   have h2:=WL ⟨h.c0,h.c1⟩ hw
   have h3:=ih (i+1) (by omega)
   have l1:i=((ws.take i).map (XX c (sumI ws))).length:=by simp; omega
   have l2:i=((List.range i).map (fun i:Nat=>(i:Int))).length:=by simp
   have g1:((ws.take i).map (XX c (sumI ws))++List.replicate (d+1) 0)[i]?=some 0:=fill_get _ _ d _ rfl l1
   have g2:((List.range i).map (fun i:Nat=>(i:Int))++List.replicate (d+1) 0)[i]?=some 0:=fill_get _ _ d _ rfl l2
   refine f44W0 c ws _ _ i (rv:=XH c ws) hE ⟨fun _=>⟨_,hi,by omega,?_,by omega,_,g1,_,g2,by omega,?_⟩,fun h=>by omega⟩
   · simp only [XX] at h1; omega
   · rw [fill_set _ _ _ d _ rfl l1,fill_set _ _ _ d _ rfl l2]
     rw [List.take_add_one,hi,List.map_append,List.range_succ,List.map_append] at h3
     exact h3
 refine f44W c ws (rv:=XH c ws) hE ⟨yh (B:=1000) (by omega) (by omega) (by omega) h.w,by omega,by omega,first ws.length 0 (by omega)⟩
end Go.Proofs.Ytmdbebbibecidaa
namespace Go.Proofs.Ytmdbebbibecidaa
open Go Ax
open Go.Proofs
def QL (ws:List Int):Bool:=Qc ws.length 1 10 && (!(ws.any fun x=>!Qc x 0 1000) && decide (sumI ws > 0))
theorem Qs {n lo hi:Int}:Qc n lo hi=true ↔ lo≤n∧n≤hi:=by simp [Qc]
theorem qF {ws:List Int} (h:(ws.any fun x=>!Qc x 0 1000)=false):∀ x ∈ ws,0≤x∧x≤1000:=by
 intro x hx
 rw [List.any_eq_false] at h
 have:=h x hx
 simp only [Bool.not_eq_true',Bool.not_eq_false] at this
 exact Qs.1 (by simpa using this)
theorem Wu (l:List Int) (h:l.length≤9223372036854775807):Pure Try.prog 43 [.rsl (rowI l) 0 l.length] (.bool (QL l)):=Qt Try.func43 f43b fun E hE=>by
 refine f43W l hE ⟨fun h1=>⟨h,fun h2=>⟨?_,?_⟩,fun h2=>?_⟩,fun h1=>?_⟩
 · have:=Qs.1 h1
   exact yh (B:=1000) (by omega) (by omega) (by omega) (qF h2)
 · simp [QL,h1,h2]
 · simp [QL,h2]
 · simp [QL,h1]
theorem VV (l:List Int) (h:l.length≤9223372036854775807):Pure Try.prog 42 [.rsl (rowI l) 0 l.length] (.bool (!(l.any fun x=>!Ql x))):=Qt Try.func42 f42b fun E hE =>
 f42W l hE ⟨h,rfl⟩
theorem split_of {c:Int} {ws:List Int} (hc:0≤c∧c≤1000000000) (h:QL ws=true):SplitOk c ws:=by
 simp only [QL,Bool.and_eq_true,Bool.not_eq_true',decide_eq_true_eq] at h
 obtain ⟨h1,h2,h3⟩:=h
 have h1:=Qs.1 h1
 exact ⟨by omega,by omega,qF h2,h3,hc.1,hc.2⟩
def WE (s:List Int × Int) (x:Int):List Int × Int:=(s.1++[iMin x s.2],s.2 - iMin x s.2)
def payI (c:Int) (cl:List Int):List Int × Int:=cl.foldl WE ([],c)
def QJ (c:Int) (cl ws:List Int):List Int × List Int × Int :=
 if Ql c=false then ([],[],1) else if (cl.length:Int) > 10 then ([],[],1) else if (!cl.any fun x=>!Ql x)=false then ([],[],1) else
 if QL ws=false then ([],[],110) else ((payI c cl).1,XH (payI c cl).2 ws,0)
theorem f18b:Try.f18.body=some (Qa Try.prog 18):=by kernel_rfl
theorem u18 {a c k:List AV} {r:AV} (h:Pure Try.prog 18 (a++c++k) r):Qf Try.prog (.clos 18 a k) c r:=Qn Try.func18 (by kernel_rfl) f18b h
def f18K0 (P:Program):List Item:=kAt 400 [.code (Qa P 18)] [.b false,.b false,.stop]
def f18S0 (c:Int) (cl:(List Int)) (ws:(List Int)) (cents:Int) (v0:List Int) (i:Nat) (g0:Nat):St:=⟨([.int .i64 cents,J,.rsl (rowI ws) 0 ws.length,J,J,J,.sl 0 g0 0 v0.length 1]++jj 21 ([.rsl (rowI cl) 0 cl.length,.int .i64 (cl.length:Int),.int .i64 (i:Int)]++Js 18)),[⟨true,g0,1,true,(rowI v0),true⟩]⟩
def f18G0 (E:Env) (c:Int) (cl:(List Int)) (ws:(List Int)) (cents:Int) (v0:List Int) (i:Nat):Prop:=∀ g0:Nat,G Try.prog E (f18K0 Try.prog) (f18S0 c cl ws cents v0 i g0)
abbrev z18_1 (c:Int) (cl:(List Int)) (ws:(List Int)):List AV:=[.int .i64 c,.rsl (rowI cl) 0 cl.length,.rsl (rowI ws) 0 ws.length]
theorem p18_start_0 (c:Int) (cl:(List Int)) (ws:(List Int)) {E:Env} {res:AV} (hE:Qd Try.prog 18 res E) (ho:AllP [Qf Try.prog (.clos 41 [] []) [.int .i64 c] (.bool (Ql c)),(!(Ql c))=true,true=true,true=true])
 (hr:AvLe (.tup [.nilSl,.nilSl,.int .i64 1]) res):G Try.prog E [.code (Qa Try.prog 18)] ⟨(z18_1 c cl ws)++unds (Try.f18.ntmps - 3),[]⟩ :=
 Qb (n:=400) (evs:=[.v (.bool (Ql c)),.b true,.b true,.b true]) (obs:=_) hE Try.func18 Qg (by kernel_rfl) ho hr
theorem p18_start_1 (c:Int) (cl:(List Int)) (ws:(List Int)) {E:Env} {res:AV} (hE:Qd Try.prog 18 res E) (ho:AllP [Qf Try.prog (.clos 41 [] []) [.int .i64 c] (.bool (Ql c)),(!(Ql c))=false,(decide ((cl.length:Int) > 10))=true,true=true])
 (hr:AvLe (.tup [.nilSl,.nilSl,.int .i64 1]) res):G Try.prog E [.code (Qa Try.prog 18)] ⟨(z18_1 c cl ws)++unds (Try.f18.ntmps - 3),[]⟩ :=
 Qb (n:=400) (evs:=[.v (.bool (Ql c)),.b false,.b true,.b true]) (obs:=_) hE Try.func18 Qg (by kernel_rfl) ho hr
theorem p18_start_2 (c:Int) (cl:(List Int)) (ws:(List Int)) {E:Env} {res:AV} (hE:Qd Try.prog 18 res E) (ho:AllP [Qf Try.prog (.clos 41 [] []) [.int .i64 c] (.bool (Ql c)),(!(Ql c))=false,(decide ((cl.length:Int) > 10))=false,Qf Try.prog (.clos 42 [] []) [.rsl (rowI cl) 0 cl.length] (.bool (!cl.any (fun x=>!Ql x))),(!(!cl.any (fun x=>!Ql x)))=true])
 (hr:AvLe (.tup [.nilSl,.nilSl,.int .i64 1]) res):G Try.prog E [.code (Qa Try.prog 18)] ⟨(z18_1 c cl ws)++unds (Try.f18.ntmps - 3),[]⟩ :=
 Qb (n:=400) (evs:=[.v (.bool (Ql c)),.b false,.b false,.v (.bool (!cl.any (fun x=>!Ql x))),.b true]) (obs:=_) hE Try.func18 Qg (by kernel_rfl) ho hr
theorem p18_start_3 (c:Int) (cl:(List Int)) (ws:(List Int)) {E:Env} {res:AV} (hE:Qd Try.prog 18 res E) (ho:AllP [Qf Try.prog (.clos 41 [] []) [.int .i64 c] (.bool (Ql c)),(!(Ql c))=false,(decide ((cl.length:Int) > 10))=false,Qf Try.prog (.clos 42 [] []) [.rsl (rowI cl) 0 cl.length] (.bool (!cl.any (fun x=>!Ql x))),(!(!cl.any (fun x=>!Ql x)))=false,Qf Try.prog (.clos 43 [] []) [.rsl (rowI ws) 0 ws.length] (.bool (QL ws)),(!(QL ws))=true])
 (hr:AvLe (.tup [.nilSl,.nilSl,.int .i64 110]) res):G Try.prog E [.code (Qa Try.prog 18)] ⟨(z18_1 c cl ws)++unds (Try.f18.ntmps - 3),[]⟩ :=
 Qb (n:=400) (evs:=[.v (.bool (Ql c)),.b false,.b false,.v (.bool (!cl.any (fun x=>!Ql x))),.b false,.v (.bool (QL ws)),.b true]) (obs:=_) hE Try.func18 Qg (by kernel_rfl) ho hr
theorem p18_start_4 (c:Int) (cl:(List Int)) (ws:(List Int)) {E:Env} {rv:AV} (hE:Qd Try.prog 18 rv E) (ho:AllP [Qf Try.prog (.clos 41 [] []) [.int .i64 c] (.bool (Ql c)),(!(Ql c))=false,(decide ((cl.length:Int) > 10))=false,Qf Try.prog (.clos 42 [] []) [.rsl (rowI cl) 0 cl.length] (.bool (!cl.any (fun x=>!Ql x))),(!(!cl.any (fun x=>!Ql x)))=false,Qf Try.prog (.clos 43 [] []) [.rsl (rowI ws) 0 ws.length] (.bool (QL ws)),(!(QL ws))=false])
 (hg:G Try.prog E (f18K0 Try.prog) ⟨([.int .i64 c,J,.rsl (rowI ws) 0 ws.length,J,J,J,.sl 0 0 0 0 1]++jj 21 ([.rsl (rowI cl) 0 cl.length,.int .i64 (cl.length:Int),.int .i64 0]++Js 18)),[⟨true,0,1,true,[],true⟩]⟩):G Try.prog E [.code (Qa Try.prog 18)] ⟨(z18_1 c cl ws)++unds (Try.f18.ntmps - 3),[]⟩ :=
 Qe (n:=400) (ds:=[(6,1)]) (cs:=[]) (live:=[0,2,6,28,29,30]) (m:=1) (evs:=[.v (.bool (Ql c)),.b false,.b false,.v (.bool (!cl.any (fun x=>!Ql x))),.b false,.v (.bool (QL ws)),.b false,.stop]) (obs:=_) hE.2.1 (hE.nogh _) Qg (by kernel_rfl) ho hg
theorem f18W (c:Int) (cl:(List Int)) (ws:(List Int)) {E:Env} {rv:((List Int) × (List Int) × Int)} (hE:Qd Try.prog 18 (.tup [.rsl (rowI rv.1) 0 rv.1.length,.rsl (rowI rv.2.1) 0 rv.2.1.length,.int .i64 rv.2.2]) E)
 (h:(((Ql c)=false→rv=(([]:List Int),([]:List Int),1))∧((Ql c)=true→(((cl.length:Int) > 10→rv=(([]:List Int),([]:List Int),1))∧(¬ ((cl.length:Int) > 10)→((cl.length≤9223372036854775807)∧(((!cl.any (fun x=>!Ql x))=false→rv=(([]:List Int),([]:List Int),1))∧((!cl.any (fun x=>!Ql x))=true→((ws.length≤9223372036854775807)∧(((QL ws)=false→rv=(([]:List Int),([]:List Int),110))∧((QL ws)=true→f18G0 E c cl ws c ([]) 0))))))))))):G Try.prog E [.code (Qa Try.prog 18)] ⟨[.int .i64 c,.rsl (rowI cl) 0 cl.length,.rsl (rowI ws) 0 ws.length]++unds (Try.f18.ntmps - 3),[]⟩:=by
 rcases bft (!(Ql c)) with hc0 | hc0
 · have h:=h.1 (bnT hc0)
   exact p18_start_0 c cl ws hE ⟨(u41 (Xp c)),hc0,rfl,rfl,trivial⟩ (by rw [h]; exact (YA ⟨XQ,⟨XQ,⟨AvLe.of_eq rfl,trivial⟩⟩⟩))
 · have h:=h.2 (bnF hc0)
   rcases bft (decide ((cl.length:Int) > 10)) with hc1 | hc1
   · have h:=h.1 (odt hc1)
     exact p18_start_1 c cl ws hE ⟨(u41 (Xp c)),hc0,hc1,rfl,trivial⟩ (by rw [h]; exact (YA ⟨XQ,⟨XQ,⟨AvLe.of_eq rfl,trivial⟩⟩⟩))
   · have h:=h.2 (odf hc1)
     obtain ⟨h1,h⟩:=h
     rcases bft (!(!cl.any (fun x=>!Ql x))) with hc2 | hc2
     · have h:=h.1 (bnT hc2)
       exact p18_start_2 c cl ws hE ⟨(u41 (Xp c)),hc0,hc1,(u42 (VV cl h1)),hc2,trivial⟩ (by rw [h]; exact (YA ⟨XQ,⟨XQ,⟨AvLe.of_eq rfl,trivial⟩⟩⟩))
     · have h:=h.2 (bnF hc2)
       obtain ⟨h2,h⟩:=h
       rcases bft (!(QL ws)) with hc3 | hc3
       · have h:=h.1 (bnT hc3)
         exact p18_start_3 c cl ws hE ⟨(u41 (Xp c)),hc0,hc1,(u42 (VV cl h1)),hc2,(u43 (Wu ws h2)),hc3,trivial⟩ (by rw [h]; exact (YA ⟨XQ,⟨XQ,⟨AvLe.of_eq rfl,trivial⟩⟩⟩))
       · have h:=h.2 (bnF hc3)
         exact p18_start_4 c cl ws hE ⟨(u41 (Xp c)),hc0,hc1,(u42 (VV cl h1)),hc2,(u43 (Wu ws h2)),hc3,trivial⟩ (h 0)
theorem p18_0_0 (c:Int) (cl:(List Int)) (ws:(List Int)) (cents:Int) (v0:List Int) (i:Nat) (g0:Nat) (e:Int) {E:Env} {rv:AV} (hE:Qd Try.prog 18 rv E) (ho:AllP [(decide ((i:Int)<(cl.length:Int)))=true,0≤(i:Int)∧(i:Int)<(cl.length:Int),((rowI cl).drop (0+(Int.toNat (i:Int))*1)).take 1=[.int .i64 e],g0=g0,(0+(v0.length*1))=(rowI v0).length,(v0.length+1)≤2147483648,0=0,InR .i64 (cents - (iMin e cents)),InR .i64 ((i:Int)+1)])
 (hg:G Try.prog E (f18K0 Try.prog) ⟨([.int .i64 (cents - (iMin e cents)),J,.rsl (rowI ws) 0 ws.length,J,J,J,.sl 0 (g0+1) 0 (v0.length+1) 1]++jj 21 ([.rsl (rowI cl) 0 cl.length,.int .i64 (cl.length:Int),.int .i64 ((i:Int)+1)]++Js 18)),[⟨true,(g0+1),1,true,((rowI v0)++[.int .i64 (iMin e cents)]),true⟩]⟩):G Try.prog E (f18K0 Try.prog) (f18S0 c cl ws cents v0 i g0) :=
 Qe (n:=400) (ds:=[]) (cs:=[]) (live:=[0,2,6,28,29,30]) (m:=1) (evs:=[.b true,.ld (.int .i64 e),.stop]) (obs:=_) hE.2.1 (hE.nogh _) Qg (by kernel_rfl) ho hg
theorem p18_0_1 (c:Int) (cl:(List Int)) (ws:(List Int)) (cents:Int) (v0:List Int) (i:Nat) (g0:Nat) {E:Env} {res:AV} (hE:Qd Try.prog 18 res E) (ho:AllP [(decide ((i:Int)<(cl.length:Int)))=false,Qf Try.prog (.clos 44 [] []) [.int .i64 cents,.rsl (rowI ws) 0 ws.length] (.rsl (rowI (XH cents ws)) 0 ((XH cents ws).length)),g0=g0])
 (hr:AvLe (.tup [.rsl (rowI v0) 0 v0.length,.rsl (rowI (XH cents ws)) 0 ((XH cents ws).length),.int .i64 0]) res):G Try.prog E (f18K0 Try.prog) (f18S0 c cl ws cents v0 i g0) :=
 Qb (n:=400) (evs:=[.b false,.v (.rsl (rowI (XH cents ws)) 0 ((XH cents ws).length))]) (obs:=_) hE Try.func18 Qg (by kernel_rfl) ho hr
theorem f18W0 (c:Int) (cl:(List Int)) (ws:(List Int)) (cents:Int) (v0:List Int) (i:Nat) {E:Env} {rv:((List Int) × (List Int) × Int)} (hE:Qd Try.prog 18 (.tup [.rsl (rowI rv.1) 0 rv.1.length,.rsl (rowI rv.2.1) 0 rv.2.1.length,.int .i64 rv.2.2]) E)
 (h:(((i:Int)<(cl.length:Int)→(∃ e:Int,cl[i]?=some e∧((v0.length+1)≤2147483648∧((I6 (cents - (iMin e cents)))∧((I6 ((i:Int)+1))∧f18G0 E c cl ws (cents - (iMin e cents)) (v0++[(iMin e cents)]) (i+1))))))∧(¬ ((i:Int)<(cl.length:Int))→((SplitOk cents ws)∧rv=(v0,(XH cents ws),0))))):f18G0 E c cl ws cents v0 i:=by
 intro g0
 rcases bft (decide ((i:Int)<(cl.length:Int))) with hc0 | hc0
 · have h:=h.1 (odt hc0)
   obtain ⟨e,h1,h⟩:=h
   obtain ⟨h2,h⟩:=h
   obtain ⟨q8_1,h⟩:=h
   obtain ⟨q9_1,h⟩:=h
   refine p18_0_0 c cl ws cents v0 i g0 e hE ⟨hc0,(Qy h1),(rp cI 1 0 1 h1),rfl,(by have hx:=Yk cI (s:=1) (fun _=>rfl) v0; simp only [rowI] at hx ⊢; rw [hx]; simp),h2,rfl,q8_1,q9_1,trivial⟩ ?_
   rw [(show rowI v0++[.int .i64 (iMin e cents)]=rowI (v0++[(iMin e cents)]) from (Wz cI v0 [(iMin e cents)]).symm)]; rw [(show (v0.length+1)=(v0++[(iMin e cents)]).length from by simp)]; exact (h (g0+1))
 · have h:=h.2 (odf hc0)
   obtain ⟨h1,h⟩:=h
   exact p18_0_1 c cl ws cents v0 i g0 hE ⟨hc0,(u44 (split_ok cents ws h1)),rfl,trivial⟩ (AvLe.of_eq (by rw [h]; try rfl))
theorem claims_ok (c:Int) (cl ws:List Int) (h:cl.length≤9223372036854775807∧ws.length≤9223372036854775807):Pure Try.prog 18 [.int .i64 c,.rsl (rowI cl) 0 cl.length,.rsl (rowI ws) 0 ws.length]
 (.tup [.rsl (rowI (QJ c cl ws).1) 0 (QJ c cl ws).1.length,.rsl (rowI (QJ c cl ws).2.1) 0 (QJ c cl ws).2.1.length,.int .i64 (QJ c cl ws).2.2]):=Qt Try.func18 f18b fun E hE=>by
 refine f18W c cl ws (rv:=QJ c cl ws) hE ⟨fun h1=>by simp [QJ,h1],fun h1=>⟨fun h2=>by simp only [QJ]; rw [if_neg (by rw [h1]; simp),if_pos h2],fun h2=>⟨h.1,fun h3=>?_,fun h3=>⟨h.2,fun h4=>?_,fun h4=>?_⟩⟩⟩⟩
 · simp only [QJ]; rw [if_neg (by rw [h1]; simp),if_neg h2,if_pos h3]
 · simp only [QJ]; rw [if_neg (by rw [h1]; simp),if_neg h2,if_neg (by rw [h3]; simp),if_pos h4]
 · have he:QJ c cl ws=((payI c cl).1,XH (payI c cl).2 ws,0):=by
    simp only [QJ]; rw [if_neg (by rw [h1]; simp),if_neg h2,if_neg (by rw [h3]; simp),if_neg (by rw [h4]; simp)]
   have ha:∀ x ∈ cl,0≤x∧x≤1000000000:=by
    intro x hx
    have:(cl.any fun x=>!Ql x)=false:=by simpa using h3
    rw [List.any_eq_false] at this
    have:=this x hx
    exact Qs.1 (by simpa [Ql] using this)
   have hc:0≤c∧c≤1000000000:=Qs.1 h1
   have key:∀ (d i:Nat) (p:List Int × Int),i+d=cl.length→p=(cl.take i).foldl WE ([],c)→p.1.length=i→(0≤p.2∧p.2≤1000000000)→f18G0 E c cl ws p.2 p.1 i:=by
    intro d
    induction d with
    | zero =>
     intro i p hd hp hl hb
     refine f18W0 c cl ws _ _ i (rv:=QJ c cl ws) hE ⟨fun h=>by omega,fun _=>⟨split_of hb h4,?_⟩⟩
     rw [he,payI,hp,List.take_of_length_le (by omega)]
    | succ d ih =>
     intro i p hd hp hl hb
     have hi:cl[i]?=some cl[i]:=List.getElem?_eq_getElem (by omega)
     have hx:=ha _ (List.mem_of_getElem? hi)
     have hm:0≤iMin cl[i] p.2∧iMin cl[i] p.2≤p.2:=by simp only [iMin]; split <;> omega
     refine f18W0 c cl ws _ _ i (rv:=QJ c cl ws) hE ⟨fun _=>⟨_,hi,by omega,by omega,by omega,?_⟩,fun h=>by omega⟩
     refine ih (i+1) (WE p cl[i]) (by omega) ?_ (by simp [WE,hl]) (by simp only [WE]; omega)
     rw [List.take_add_one,hi,List.foldl_append,← hp]; rfl
   exact key cl.length 0 ([],c) (by omega) rfl rfl hc
theorem f15b:Try.f15.body=some (Qa Try.prog 15):=by kernel_rfl
theorem u15 {a c k:List AV} {r:AV} (h:Pure Try.prog 15 (a++c++k) r):Qf Try.prog (.clos 15 a k) c r:=Qn Try.func15 (by kernel_rfl) f15b h
abbrev z15_1 (c:Int) (ws:(List Int)):AV:=.tup [.rsl (rowI ((QJ c ([]:List Int) ws).1)) 0 (((QJ c ([]:List Int) ws).1).length),.rsl (rowI ((QJ c ([]:List Int) ws).2.1)) 0 (((QJ c ([]:List Int) ws).2.1).length),.int .i64 ((QJ c ([]:List Int) ws).2.2)]
theorem p15_start_0 (c:Int) (ws:(List Int)) {E:Env} {res:AV} (hE:Qd Try.prog 15 res E) (ho:AllP [Qf Try.prog (.clos 18 [] []) [.int .i64 c,.nilSl,.rsl (rowI ws) 0 ws.length] (z15_1 c ws)])
 (hr:AvLe (.tup [.rsl (rowI ((QJ c ([]:List Int) ws).2.1)) 0 (((QJ c ([]:List Int) ws).2.1).length),.int .i64 ((QJ c ([]:List Int) ws).2.2)]) res):G Try.prog E [.code (Qa Try.prog 15)] ⟨[.int .i64 c,.rsl (rowI ws) 0 ws.length]++unds (Try.f15.ntmps - 2),[]⟩ :=
 Qb (n:=400) (evs:=[.v (z15_1 c ws)]) (obs:=_) hE Try.func15 Qg (by kernel_rfl) ho hr
theorem f15W (c:Int) (ws:(List Int)) {E:Env} {rv:((List Int) × Int)} (hE:Qd Try.prog 15 (.tup [.rsl (rowI rv.1) 0 rv.1.length,.int .i64 rv.2]) E)
 (h:((([]:List Int).length≤9223372036854775807∧ws.length≤9223372036854775807)∧rv=(((QJ c ([]:List Int) ws).2.1),(QJ c ([]:List Int) ws).2.2))):G Try.prog E [.code (Qa Try.prog 15)] ⟨[.int .i64 c,.rsl (rowI ws) 0 ws.length]++unds (Try.f15.ntmps - 2),[]⟩:=by
 obtain ⟨h1,h⟩:=h
 exact p15_start_0 c ws hE ⟨(Qf.le (args:=[.int .i64 c,.rsl (rowI ([]:List Int)) 0 (([]:List Int).length),.rsl (rowI ws) 0 ws.length]) (u18 (claims_ok c ([]:List Int) ws h1)) ⟨AvLe.of_eq rfl,⟨XQ,⟨AvLe.of_eq rfl,trivial⟩⟩⟩),trivial⟩ (AvLe.of_eq (by rw [h]; try rfl))
def Xm (c:Int) (ws:List Int):List Int × Int:=((QJ c [] ws).2.1,(QJ c [] ws).2.2)
theorem Vx (c:Int) (ws:List Int) (h:ws.length≤9223372036854775807):Pure Try.prog 15 [.int .i64 c,.rsl (rowI ws) 0 ws.length] (.tup [.rsl (rowI (Xm c ws).1) 0 (Xm c ws).1.length,.int .i64 (Xm c ws).2]):=Qt Try.func15 f15b fun E hE =>
 f15W c ws (rv:=Xm c ws) hE ⟨⟨by simp,h⟩,rfl⟩
end Go.Proofs.Ytmdbebbibecidaa
namespace Go.Proofs.Ytmdbebbibecidaa
open Go Ax
open Go.Proofs
structure Bra where
 from_:Int
 per:Int
def cBr (b:Bra):List AV:=[.int .i64 b.from_,.int .i64 b.per]
def QN (l:List Bra):List AV:=l.flatMap cBr
theorem f45b:Try.f45.body=some (Qa Try.prog 45):=by kernel_rfl
theorem u45 {a c k:List AV} {r:AV} (h:Pure Try.prog 45 (a++c++k) r):Qf Try.prog (.clos 45 a k) c r:=Qn Try.func45 (by kernel_rfl) f45b h
def qA (P:Program):List Item:=kAt 400 [.code (Qa P 45)] [.b false,.b false,.stop]
def f45S0 (c:Int) (l:(List Bra)) (i:Nat):St:=⟨([J,.rsl (QN l) 0 l.length]++jj 19 ([.rsl (QN l) 0 l.length,.int .i64 (l.length:Int),.int .i64 (i:Int)]++Js 30)),[]⟩
def f45G0 (E:Env) (c:Int) (l:(List Bra)) (i:Nat):Prop:=G Try.prog E (qA Try.prog) (f45S0 c l i )
abbrev z45_1 (be:Bra):List AV:=[.int .i64 be.from_,.int .i64 0,.int .i64 1000000000]
theorem p45_start_0 (c:Int) (l:(List Bra)) {E:Env} {res:AV} (hE:Qd Try.prog 45 res E) (ho:AllP [Qf Try.prog (.clos 41 [] []) [.int .i64 c] (.bool (Ql c)),(!(Ql c))=true])
 (hr:AvLe (.int .i64 1) res):G Try.prog E [.code (Qa Try.prog 45)] ⟨[.int .i64 c,.rsl (QN l) 0 l.length]++unds (Try.f45.ntmps - 2),[]⟩ :=
 Qb (n:=400) (evs:=[.v (.bool (Ql c)),.b true]) (obs:=_) hE Try.func45 Qg (by kernel_rfl) ho hr
theorem p45_start_1 (c:Int) (l:(List Bra)) {E:Env} {res:AV} (hE:Qd Try.prog 45 res E) (ho:AllP [Qf Try.prog (.clos 41 [] []) [.int .i64 c] (.bool (Ql c)),(!(Ql c))=false,Qf Try.prog (.clos 49 [] []) [.int .i64 (l.length:Int),.int .i64 1,.int .i64 8] (.bool (Qc (l.length:Int) 1 8)),(!(Qc (l.length:Int) 1 8))=true,true=true])
 (hr:AvLe (.int .i64 110) res):G Try.prog E [.code (Qa Try.prog 45)] ⟨[.int .i64 c,.rsl (QN l) 0 l.length]++unds (Try.f45.ntmps - 2),[]⟩ :=
 Qb (n:=400) (evs:=[.v (.bool (Ql c)),.b false,.v (.bool (Qc (l.length:Int) 1 8)),.b true,.b true]) (obs:=_) hE Try.func45 Qg (by kernel_rfl) ho hr
theorem p45_start_2 (c:Int) (l:(List Bra)) (be:Bra) {E:Env} {res:AV} (hE:Qd Try.prog 45 res E) (ho:AllP [Qf Try.prog (.clos 41 [] []) [.int .i64 c] (.bool (Ql c)),(!(Ql c))=false,Qf Try.prog (.clos 49 [] []) [.int .i64 (l.length:Int),.int .i64 1,.int .i64 8] (.bool (Qc (l.length:Int) 1 8)),(!(Qc (l.length:Int) 1 8))=false,(0:Int)≤0∧(0:Int)<(l.length:Int),((QN l).drop ((0+0*2)+0)).take 1=[.int .i64 be.from_],(be.from_ != 0)=true])
 (hr:AvLe (.int .i64 110) res):G Try.prog E [.code (Qa Try.prog 45)] ⟨[.int .i64 c,.rsl (QN l) 0 l.length]++unds (Try.f45.ntmps - 2),[]⟩ :=
 Qb (n:=400) (evs:=[.v (.bool (Ql c)),.b false,.v (.bool (Qc (l.length:Int) 1 8)),.b false,.ld (.int .i64 be.from_),.b true]) (obs:=_) hE Try.func45 Qg (by kernel_rfl) ho hr
theorem p45_start_3 (c:Int) (l:(List Bra)) (be:Bra) {E:Env} {rv:AV} (hE:Qd Try.prog 45 rv E) (ho:AllP [Qf Try.prog (.clos 41 [] []) [.int .i64 c] (.bool (Ql c)),(!(Ql c))=false,Qf Try.prog (.clos 49 [] []) [.int .i64 (l.length:Int),.int .i64 1,.int .i64 8] (.bool (Qc (l.length:Int) 1 8)),(!(Qc (l.length:Int) 1 8))=false,(0:Int)≤0∧(0:Int)<(l.length:Int),((QN l).drop ((0+0*2)+0)).take 1=[.int .i64 be.from_],(be.from_ != 0)=false])
 (hg:G Try.prog E (qA Try.prog) ⟨([J,.rsl (QN l) 0 l.length]++jj 19 ([.rsl (QN l) 0 l.length,.int .i64 (l.length:Int),.int .i64 0]++Js 30)),[]⟩):G Try.prog E [.code (Qa Try.prog 45)] ⟨[.int .i64 c,.rsl (QN l) 0 l.length]++unds (Try.f45.ntmps - 2),[]⟩ :=
 Qe (n:=400) (ds:=[]) (cs:=[]) (live:=[1,21,22,23]) (m:=0) (evs:=[.v (.bool (Ql c)),.b false,.v (.bool (Qc (l.length:Int) 1 8)),.b false,.ld (.int .i64 be.from_),.b false,.stop]) (obs:=_) hE.2.1 (hE.nogh _) Qg (by kernel_rfl) ho hg
theorem f45W (c:Int) (l:(List Bra)) {E:Env} {rv:Int} (hE:Qd Try.prog 45 (.int .i64 rv) E)
 (h:(((Ql c)=false→rv=1)∧((Ql c)=true→(((Qc (l.length:Int) 1 8)=false→rv=110)∧((Qc (l.length:Int) 1 8)=true→(∃ be:Bra,l[0]?=some be∧((¬ (be.from_=0)→rv=110)∧(be.from_=0→f45G0 E c l 0)))))))):G Try.prog E [.code (Qa Try.prog 45)] ⟨[.int .i64 c,.rsl (QN l) 0 l.length]++unds (Try.f45.ntmps - 2),[]⟩:=by
 rcases bft (!(Ql c)) with hc0 | hc0
 · have h:=h.1 (bnT hc0)
   exact p45_start_0 c l hE ⟨(u41 (Xp c)),hc0,trivial⟩ (AvLe.of_eq (by rw [h]; try rfl))
 · have h:=h.2 (bnF hc0)
   rcases bft (!(Qc (l.length:Int) 1 8)) with hc1 | hc1
   · have h:=h.1 (bnT hc1)
     exact p45_start_1 c l hE ⟨(u41 (Xp c)),hc0,(u49 (Qu (l.length:Int) 1 8)),hc1,rfl,trivial⟩ (AvLe.of_eq (by rw [h]; try rfl))
   · have h:=h.2 (bnF hc1)
     obtain ⟨be,h1,h⟩:=h
     rcases bft (be.from_ != 0) with hc2 | hc2
     · have h:=h.1 (bneT hc2)
       exact p45_start_2 c l be hE ⟨(u41 (Xp c)),hc0,(u49 (Qu (l.length:Int) 1 8)),hc1,(Qy h1),(rp cBr 2 0 1 h1),hc2,trivial⟩ (AvLe.of_eq (by rw [h]; try rfl))
     · have h:=h.2 (bneF hc2)
       exact p45_start_3 c l be hE ⟨(u41 (Xp c)),hc0,(u49 (Qu (l.length:Int) 1 8)),hc1,(Qy h1),(rp cBr 2 0 1 h1),hc2,trivial⟩ h
theorem p45_0_0 (c:Int) (l:(List Bra)) (i:Nat) (be:Bra) {E:Env} {res:AV} (hE:Qd Try.prog 45 res E) (ho:AllP [(decide ((i:Int)<(l.length:Int)))=true,0≤(i:Int)∧(i:Int)<(l.length:Int),((QN l).drop (0+(Int.toNat (i:Int))*2)).take 2=[.int .i64 be.from_,.int .i64 be.per],2≤2,Qf Try.prog (.clos 49 [] []) (z45_1 be) (.bool (Qc be.from_ 0 1000000000)),(!(Qc be.from_ 0 1000000000))=true,true=true,true=true])
 (hr:AvLe (.int .i64 110) res):G Try.prog E (qA Try.prog) (f45S0 c l i ) :=
 Qb (n:=400) (evs:=[.b true,.ld (.agg [.int .i64 be.from_,.int .i64 be.per]),.v (.bool (Qc be.from_ 0 1000000000)),.b true,.b true,.b true]) (obs:=_) hE Try.func45 Qg (by kernel_rfl) ho hr
theorem p45_0_1 (c:Int) (l:(List Bra)) (i:Nat) (be:Bra) {E:Env} {res:AV} (hE:Qd Try.prog 45 res E) (ho:AllP [(decide ((i:Int)<(l.length:Int)))=true,0≤(i:Int)∧(i:Int)<(l.length:Int),((QN l).drop (0+(Int.toNat (i:Int))*2)).take 2=[.int .i64 be.from_,.int .i64 be.per],2≤2,Qf Try.prog (.clos 49 [] []) (z45_1 be) (.bool (Qc be.from_ 0 1000000000)),(!(Qc be.from_ 0 1000000000))=false,Qf Try.prog (.clos 49 [] []) [.int .i64 be.per,.int .i64 0,.int .i64 100] (.bool (Qc be.per 0 100)),(!(Qc be.per 0 100))=true,true=true])
 (hr:AvLe (.int .i64 110) res):G Try.prog E (qA Try.prog) (f45S0 c l i ) :=
 Qb (n:=400) (evs:=[.b true,.ld (.agg [.int .i64 be.from_,.int .i64 be.per]),.v (.bool (Qc be.from_ 0 1000000000)),.b false,.v (.bool (Qc be.per 0 100)),.b true,.b true]) (obs:=_) hE Try.func45 Qg (by kernel_rfl) ho hr
theorem p45_0_2 (c:Int) (l:(List Bra)) (i:Nat) (be:Bra) (be1:Bra) {E:Env} {res:AV} (hE:Qd Try.prog 45 res E) (ho:AllP [(decide ((i:Int)<(l.length:Int)))=true,0≤(i:Int)∧(i:Int)<(l.length:Int),((QN l).drop (0+(Int.toNat (i:Int))*2)).take 2=[.int .i64 be.from_,.int .i64 be.per],2≤2,Qf Try.prog (.clos 49 [] []) (z45_1 be) (.bool (Qc be.from_ 0 1000000000)),(!(Qc be.from_ 0 1000000000))=false,Qf Try.prog (.clos 49 [] []) [.int .i64 be.per,.int .i64 0,.int .i64 100] (.bool (Qc be.per 0 100)),(!(Qc be.per 0 100))=false,(decide ((i:Int) > 0))=true,InR .i64 ((i:Int) - 1),0≤((i:Int) - 1)∧((i:Int) - 1)<(l.length:Int),((QN l).drop ((0+(Int.toNat ((i:Int) - 1))*2)+0)).take 1=[.int .i64 be1.from_],(decide (be.from_≤be1.from_))=true])
 (hr:AvLe (.int .i64 110) res):G Try.prog E (qA Try.prog) (f45S0 c l i ) :=
 Qb (n:=400) (evs:=[.b true,.ld (.agg [.int .i64 be.from_,.int .i64 be.per]),.v (.bool (Qc be.from_ 0 1000000000)),.b false,.v (.bool (Qc be.per 0 100)),.b false,.b true,.auto,.ld (.int .i64 be1.from_),.b true]) (obs:=_) hE Try.func45 Qg (by kernel_rfl) ho hr
theorem p45_0_3 (c:Int) (l:(List Bra)) (i:Nat) (be:Bra) (be1:Bra) {E:Env} {rv:AV} (hE:Qd Try.prog 45 rv E) (ho:AllP [(decide ((i:Int)<(l.length:Int)))=true,0≤(i:Int)∧(i:Int)<(l.length:Int),((QN l).drop (0+(Int.toNat (i:Int))*2)).take 2=[.int .i64 be.from_,.int .i64 be.per],2≤2,Qf Try.prog (.clos 49 [] []) (z45_1 be) (.bool (Qc be.from_ 0 1000000000)),(!(Qc be.from_ 0 1000000000))=false,Qf Try.prog (.clos 49 [] []) [.int .i64 be.per,.int .i64 0,.int .i64 100] (.bool (Qc be.per 0 100)),(!(Qc be.per 0 100))=false,(decide ((i:Int) > 0))=true,InR .i64 ((i:Int) - 1),0≤((i:Int) - 1)∧((i:Int) - 1)<(l.length:Int),((QN l).drop ((0+(Int.toNat ((i:Int) - 1))*2)+0)).take 1=[.int .i64 be1.from_],(decide (be.from_≤be1.from_))=false,InR .i64 ((i:Int)+1)])
 (hg:G Try.prog E (qA Try.prog) ⟨([J,.rsl (QN l) 0 l.length]++jj 19 ([.rsl (QN l) 0 l.length,.int .i64 (l.length:Int),.int .i64 ((i:Int)+1)]++Js 30)),[]⟩):G Try.prog E (qA Try.prog) (f45S0 c l i ) :=
 Qe (n:=400) (ds:=[]) (cs:=[]) (live:=[1,21,22,23]) (m:=0) (evs:=[.b true,.ld (.agg [.int .i64 be.from_,.int .i64 be.per]),.v (.bool (Qc be.from_ 0 1000000000)),.b false,.v (.bool (Qc be.per 0 100)),.b false,.b true,.auto,.ld (.int .i64 be1.from_),.b false,.stop]) (obs:=_) hE.2.1 (hE.nogh _) Qg (by kernel_rfl) ho hg
theorem p45_0_4 (c:Int) (l:(List Bra)) (i:Nat) (be:Bra) {E:Env} {rv:AV} (hE:Qd Try.prog 45 rv E) (ho:AllP [(decide ((i:Int)<(l.length:Int)))=true,0≤(i:Int)∧(i:Int)<(l.length:Int),((QN l).drop (0+(Int.toNat (i:Int))*2)).take 2=[.int .i64 be.from_,.int .i64 be.per],2≤2,Qf Try.prog (.clos 49 [] []) (z45_1 be) (.bool (Qc be.from_ 0 1000000000)),(!(Qc be.from_ 0 1000000000))=false,Qf Try.prog (.clos 49 [] []) [.int .i64 be.per,.int .i64 0,.int .i64 100] (.bool (Qc be.per 0 100)),(!(Qc be.per 0 100))=false,(decide ((i:Int) > 0))=false,false=false,InR .i64 ((i:Int)+1)])
 (hg:G Try.prog E (qA Try.prog) ⟨([J,.rsl (QN l) 0 l.length]++jj 19 ([.rsl (QN l) 0 l.length,.int .i64 (l.length:Int),.int .i64 ((i:Int)+1)]++Js 30)),[]⟩):G Try.prog E (qA Try.prog) (f45S0 c l i ) :=
 Qe (n:=400) (ds:=[]) (cs:=[]) (live:=[1,21,22,23]) (m:=0) (evs:=[.b true,.ld (.agg [.int .i64 be.from_,.int .i64 be.per]),.v (.bool (Qc be.from_ 0 1000000000)),.b false,.v (.bool (Qc be.per 0 100)),.b false,.b false,.b false,.stop]) (obs:=_) hE.2.1 (hE.nogh _) Qg (by kernel_rfl) ho hg
theorem p45_0_5 (c:Int) (l:(List Bra)) (i:Nat) {E:Env} {res:AV} (hE:Qd Try.prog 45 res E) (ho:AllP [(decide ((i:Int)<(l.length:Int)))=false])
 (hr:AvLe (.int .i64 0) res):G Try.prog E (qA Try.prog) (f45S0 c l i ) :=
 Qb (n:=400) (evs:=[.b false]) (obs:=_) hE Try.func45 Qg (by kernel_rfl) ho hr
theorem f45W0 (c:Int) (l:(List Bra)) (i:Nat) {E:Env} {rv:Int} (hE:Qd Try.prog 45 (.int .i64 rv) E)
 (h:(((i:Int)<(l.length:Int)→(∃ be:Bra,l[i]?=some be∧(((Qc be.from_ 0 1000000000)=false→rv=110)∧((Qc be.from_ 0 1000000000)=true→(((Qc be.per 0 100)=false→rv=110)∧((Qc be.per 0 100)=true→(((i:Int) > 0→((I6 ((i:Int) - 1))∧(0≤((i:Int) - 1)∧(∃ be1:Bra,l[Int.toNat ((i:Int) - 1)]?=some be1∧((be.from_≤be1.from_→rv=110)∧(¬ (be.from_≤be1.from_)→((I6 ((i:Int)+1))∧f45G0 E c l (i+1))))))))∧(¬ ((i:Int) > 0)→((I6 ((i:Int)+1))∧f45G0 E c l (i+1))))))))))∧(¬ ((i:Int)<(l.length:Int))→rv=0))):f45G0 E c l i:=by
 rcases bft (decide ((i:Int)<(l.length:Int))) with hc0 | hc0
 · have h:=h.1 (odt hc0)
   obtain ⟨be,h1,h⟩:=h
   rcases bft (!(Qc be.from_ 0 1000000000)) with hc1 | hc1
   · have h:=h.1 (bnT hc1)
     exact p45_0_0 c l i be hE ⟨hc0,(Qy h1),(rp cBr 2 0 2 h1),(by decide),(u49 (Qu be.from_ 0 1000000000)),hc1,rfl,rfl,trivial⟩ (AvLe.of_eq (by rw [h]; try rfl))
   · have h:=h.2 (bnF hc1)
     rcases bft (!(Qc be.per 0 100)) with hc2 | hc2
     · have h:=h.1 (bnT hc2)
       exact p45_0_1 c l i be hE ⟨hc0,(Qy h1),(rp cBr 2 0 2 h1),(by decide),(u49 (Qu be.from_ 0 1000000000)),hc1,(u49 (Qu be.per 0 100)),hc2,rfl,trivial⟩ (AvLe.of_eq (by rw [h]; try rfl))
     · have h:=h.2 (bnF hc2)
       rcases bft (decide ((i:Int) > 0)) with hc3 | hc3
       · have h:=h.1 (odt hc3)
         obtain ⟨q10_4,h⟩:=h
         obtain ⟨h3,h⟩:=h
         obtain ⟨be1,h2,h⟩:=h
         rcases bft (decide (be.from_≤be1.from_)) with hc4 | hc4
         · have h:=h.1 (odt hc4)
           exact p45_0_2 c l i be be1 hE ⟨hc0,(Qy h1),(rp cBr 2 0 2 h1),(by decide),(u49 (Qu be.from_ 0 1000000000)),hc1,(u49 (Qu be.per 0 100)),hc2,hc3,q10_4,(Xf h3 h2),(rp cBr 2 0 1 h2),hc4,trivial⟩ (AvLe.of_eq (by rw [h]; try rfl))
         · have h:=h.2 (odf hc4)
           obtain ⟨q15_5,h⟩:=h
           exact p45_0_3 c l i be be1 hE ⟨hc0,(Qy h1),(rp cBr 2 0 2 h1),(by decide),(u49 (Qu be.from_ 0 1000000000)),hc1,(u49 (Qu be.per 0 100)),hc2,hc3,q10_4,(Xf h3 h2),(rp cBr 2 0 1 h2),hc4,q15_5,trivial⟩ h
       · have h:=h.2 (odf hc3)
         obtain ⟨q11_4,h⟩:=h
         exact p45_0_4 c l i be hE ⟨hc0,(Qy h1),(rp cBr 2 0 2 h1),(by decide),(u49 (Qu be.from_ 0 1000000000)),hc1,(u49 (Qu be.per 0 100)),hc2,hc3,rfl,q11_4,trivial⟩ h
 · have h:=h.2 (odf hc0)
   exact p45_0_5 c l i hE ⟨hc0,trivial⟩ (AvLe.of_eq (by rw [h]; try rfl))
theorem f46b:Try.f46.body=some (Qa Try.prog 46):=by kernel_rfl
theorem u46 {a c k:List AV} {r:AV} (h:Pure Try.prog 46 (a++c++k) r):Qf Try.prog (.clos 46 a k) c r:=Qn Try.func46 (by kernel_rfl) f46b h
def f46K0 (P:Program):List Item:=kAt 400 [.code (Qa P 46)] [.stop]
def f46S0 (c:Int) (l:(List Bra)) (hundredths:Int) (i:Nat):St:=⟨([.int .i64 c,.rsl (QN l) 0 l.length,J,J,.int .i64 hundredths,J,J,J,.rsl (QN l) 0 l.length,.int .i64 (l.length:Int),.int .i64 (i:Int)]++Js 31),[]⟩
def f46G0 (E:Env) (c:Int) (l:(List Bra)) (hundredths:Int) (i:Nat):Prop:=G Try.prog E (f46K0 Try.prog) (f46S0 c l hundredths i )
theorem p46_start_0 (c:Int) (l:(List Bra)) {E:Env} {rv:AV} (hE:Qd Try.prog 46 rv E) (ho:AllP [])
 (hg:G Try.prog E (f46K0 Try.prog) ⟨([.int .i64 c,.rsl (QN l) 0 l.length,J,J,.int .i64 0,J,J,J,.rsl (QN l) 0 l.length,.int .i64 (l.length:Int),.int .i64 0]++Js 31),[]⟩):G Try.prog E [.code (Qa Try.prog 46)] ⟨[.int .i64 c,.rsl (QN l) 0 l.length]++unds (Try.f46.ntmps - 2),[]⟩ :=
 Qe (n:=400) (ds:=[]) (cs:=[]) (live:=[0,1,4,8,9,10]) (m:=0) (evs:=[.stop]) (obs:=_) hE.2.1 (hE.nogh _) Qg (by kernel_rfl) ho hg
theorem f46W (c:Int) (l:(List Bra)) {E:Env} {rv:Int} (hE:Qd Try.prog 46 (.int .i64 rv) E)
 (h:f46G0 E c l 0 0):G Try.prog E [.code (Qa Try.prog 46)] ⟨[.int .i64 c,.rsl (QN l) 0 l.length]++unds (Try.f46.ntmps - 2),[]⟩:=by
 exact p46_start_0 c l hE trivial h
theorem p46_0_0 (c:Int) (l:(List Bra)) (hundredths:Int) (i:Nat) (be:Bra) (be1:Bra) {E:Env} {rv:AV} (hE:Qd Try.prog 46 rv E) (ho:AllP [(decide ((i:Int)<(l.length:Int)))=true,0≤(i:Int)∧(i:Int)<(l.length:Int),((QN l).drop (0+(Int.toNat (i:Int))*2)).take 2=[.int .i64 be.from_,.int .i64 be.per],2≤2,InR .i64 ((i:Int)+1),(decide (((i:Int)+1)<(l.length:Int)))=true,InR .i64 ((i:Int)+1),0≤((i:Int)+1)∧((i:Int)+1)<(l.length:Int),((QN l).drop ((0+(Int.toNat ((i:Int)+1))*2)+0)).take 1=[.int .i64 be1.from_],InR .i64 ((iMin c be1.from_) - be.from_),InR .i64 ((iMax 0 ((iMin c be1.from_) - be.from_))*be.per),InR .i64 (hundredths+((iMax 0 ((iMin c be1.from_) - be.from_))*be.per)),InR .i64 ((i:Int)+1)])
 (hg:G Try.prog E (f46K0 Try.prog) ⟨([.int .i64 c,.rsl (QN l) 0 l.length,J,J,.int .i64 (hundredths+((iMax 0 ((iMin c be1.from_) - be.from_))*be.per)),J,J,J,.rsl (QN l) 0 l.length,.int .i64 (l.length:Int),.int .i64 ((i:Int)+1)]++Js 31),[]⟩):G Try.prog E (f46K0 Try.prog) (f46S0 c l hundredths i ) :=
 Qe (n:=400) (ds:=[]) (cs:=[]) (live:=[0,1,4,8,9,10]) (m:=0) (evs:=[.b true,.ld (.agg [.int .i64 be.from_,.int .i64 be.per]),.b true,.ld (.int .i64 be1.from_),.stop]) (obs:=_) hE.2.1 (hE.nogh _) Qg (by kernel_rfl) ho hg
theorem p46_0_1 (c:Int) (l:(List Bra)) (hundredths:Int) (i:Nat) (be:Bra) {E:Env} {rv:AV} (hE:Qd Try.prog 46 rv E) (ho:AllP [(decide ((i:Int)<(l.length:Int)))=true,0≤(i:Int)∧(i:Int)<(l.length:Int),((QN l).drop (0+(Int.toNat (i:Int))*2)).take 2=[.int .i64 be.from_,.int .i64 be.per],2≤2,InR .i64 ((i:Int)+1),(decide (((i:Int)+1)<(l.length:Int)))=false,InR .i64 (c - be.from_),InR .i64 ((iMax 0 (c - be.from_))*be.per),InR .i64 (hundredths+((iMax 0 (c - be.from_))*be.per)),InR .i64 ((i:Int)+1)])
 (hg:G Try.prog E (f46K0 Try.prog) ⟨([.int .i64 c,.rsl (QN l) 0 l.length,J,J,.int .i64 (hundredths+((iMax 0 (c - be.from_))*be.per)),J,J,J,.rsl (QN l) 0 l.length,.int .i64 (l.length:Int),.int .i64 ((i:Int)+1)]++Js 31),[]⟩):G Try.prog E (f46K0 Try.prog) (f46S0 c l hundredths i ) :=
 Qe (n:=400) (ds:=[]) (cs:=[]) (live:=[0,1,4,8,9,10]) (m:=0) (evs:=[.b true,.ld (.agg [.int .i64 be.from_,.int .i64 be.per]),.b false,.stop]) (obs:=_) hE.2.1 (hE.nogh _) Qg (by kernel_rfl) ho hg
theorem p46_0_2 (c:Int) (l:(List Bra)) (hundredths:Int) (i:Nat) {E:Env} {res:AV} (hE:Qd Try.prog 46 res E) (ho:AllP [(decide ((i:Int)<(l.length:Int)))=false,InR .i64 (Int.tdiv hundredths 100),(100:Int) ≠ 0])
 (hr:AvLe (.int .i64 (Int.tdiv hundredths 100)) res):G Try.prog E (f46K0 Try.prog) (f46S0 c l hundredths i ) :=
 Qb (n:=400) (evs:=[.b false]) (obs:=_) hE Try.func46 Qg (by kernel_rfl) ho hr
theorem f46W0 (c:Int) (l:(List Bra)) (hundredths:Int) (i:Nat) {E:Env} {rv:Int} (hE:Qd Try.prog 46 (.int .i64 rv) E)
 (h:(((i:Int)<(l.length:Int)→(∃ be:Bra,l[i]?=some be∧((I6 ((i:Int)+1))∧((((i:Int)+1)<(l.length:Int)→((I6 ((i:Int)+1))∧(∃ be1:Bra,l[i+1]?=some be1∧((I6 ((iMin c be1.from_) - be.from_))∧((I6 ((iMax 0 ((iMin c be1.from_) - be.from_))*be.per))∧((I6 (hundredths+((iMax 0 ((iMin c be1.from_) - be.from_))*be.per)))∧((I6 ((i:Int)+1))∧f46G0 E c l (hundredths+((iMax 0 ((iMin c be1.from_) - be.from_))*be.per)) (i+1))))))))∧(¬ (((i:Int)+1)<(l.length:Int))→((I6 (c - be.from_))∧((I6 ((iMax 0 (c - be.from_))*be.per))∧((I6 (hundredths+((iMax 0 (c - be.from_))*be.per)))∧((I6 ((i:Int)+1))∧f46G0 E c l (hundredths+((iMax 0 (c - be.from_))*be.per)) (i+1))))))))))∧(¬ ((i:Int)<(l.length:Int))→((I6 (Int.tdiv hundredths 100))∧rv=(Int.tdiv hundredths 100))))):f46G0 E c l hundredths i:=by
 rcases bft (decide ((i:Int)<(l.length:Int))) with hc0 | hc0
 · have h:=h.1 (odt hc0)
   obtain ⟨be,h1,h⟩:=h
   obtain ⟨q5_1,h⟩:=h
   rcases bft (decide (((i:Int)+1)<(l.length:Int))) with hc1 | hc1
   · have h:=h.1 (odt hc1)
     obtain ⟨q7_2,h⟩:=h
     obtain ⟨be1,h2,h⟩:=h
     obtain ⟨q11_2,h⟩:=h
     obtain ⟨q12_2,h⟩:=h
     obtain ⟨q13_2,h⟩:=h
     obtain ⟨q14_2,h⟩:=h
     exact p46_0_0 c l hundredths i be be1 hE ⟨hc0,(Qy h1),(rp cBr 2 0 2 h1),(by decide),q5_1,hc1,q7_2,(Qy h2),(rp cBr 2 0 1 h2),q11_2,q12_2,q13_2,q14_2,trivial⟩ h
   · have h:=h.2 (odf hc1)
     obtain ⟨q7_2,h⟩:=h
     obtain ⟨q8_2,h⟩:=h
     obtain ⟨q9_2,h⟩:=h
     obtain ⟨q10_2,h⟩:=h
     exact p46_0_1 c l hundredths i be hE ⟨hc0,(Qy h1),(rp cBr 2 0 2 h1),(by decide),q5_1,hc1,q7_2,q8_2,q9_2,q10_2,trivial⟩ h
 · have h:=h.2 (odf hc0)
   obtain ⟨q1_1,h⟩:=h
   exact p46_0_2 c l hundredths i hE ⟨hc0,q1_1,(by decide),trivial⟩ (AvLe.of_eq (by rw [h]; try rfl))
def bAt (l:List Bra) (i:Nat):Bra:=l.getD i ⟨0,0⟩
def yM (l:List Bra) (i:Nat):Bool:=!Qc (bAt l i).from_ 0 1000000000 || (!Qc (bAt l i).per 0 100 || (decide (i > 0) && decide ((bAt l i).from_≤(bAt l (i - 1)).from_)))
def Vl (l:List Bra):Nat→Nat→Bool
 | 0,_=>true
 | d+1,i=>!yM l i && Vl l d (i+1)
def brOk (l:List Bra):Bool:=Qc l.length 1 8 && (decide ((bAt l 0).from_=0) && Vl l l.length 0)
def Qr (c:Int) (l:List Bra):Int:=if Ql c=false then 1 else if brOk l=false then 110 else 0
theorem Yl {l:List Bra} {i:Nat} (h:i<l.length):l[i]?=some (bAt l i):=by simp [bAt,List.getD,h]
theorem qm (c:Int) (l:List Bra) (h:l.length≤9223372036854775807):Pure Try.prog 45 [.int .i64 c,.rsl (QN l) 0 l.length] (.int .i64 (Qr c l)):=Qt Try.func45 f45b fun E hE=>by
 refine f45W c l (rv:=Qr c l) hE ⟨fun h1=>by simp [Qr,h1],fun h1=>⟨fun h2=>by simp [Qr,brOk,h1,h2],fun h2=>?_⟩⟩
 have hl:=Qs.1 h2
 refine ⟨bAt l 0,Yl (by omega),fun h3=>by simp [Qr,brOk,h1,h2,h3],fun h3=>?_⟩
 have hr:Qr c l=if Vl l l.length 0=false then 110 else 0:=by simp [Qr,brOk,h1,h2,h3]
 have key:∀ (d i:Nat),i+d=l.length→(Qr c l=if Vl l d i=false then 110 else 0)→f45G0 E c l i:=by
  intro d
  induction d with
  | zero=>intro i hd hr; exact f45W0 c l i (rv:=Qr c l) hE ⟨fun h=>by omega,fun _=>by rw [hr]; rfl⟩
  | succ d ih =>
   intro i hd hr
   have hi:=Yl (l:=l) (i:=i) (by omega)
   simp only [Vl] at hr
   refine f45W0 c l i (rv:=Qr c l) hE ⟨fun _=>⟨_,hi,fun h4=>by rw [hr]; simp [yM,h4],fun h4=>⟨fun h5=>by rw [hr]; simp [yM,h4,h5],fun h5=>⟨fun h6=>⟨by omega,by omega,bAt l (i - 1),?_,fun h7=>by rw [hr]; simp [yM,h4,h5,h7,show 0<i by omega],fun h7=>⟨by omega,ih (i+1) (by omega) (by rw [hr]; simp [yM,h4,h5,h7])⟩⟩,fun h6=>⟨by omega,ih (i+1) (by omega) (by rw [hr]; simp [yM,h4,h5,show ¬ 0<i by omega])⟩⟩⟩⟩,fun h=>by omega⟩
   rw [show Int.toNat ((i:Int) - 1)=i - 1 by omega]; exact Yl (by omega)
 exact key l.length 0 (by omega) hr
/-- Brackets as they should be. -/
structure BrOk (l:List Bra):Prop where
 len1:1≤l.length
 len:l.length≤8
 f0:(bAt l 0).from_=0
 from_:∀ i,i<l.length→0≤(bAt l i).from_∧(bAt l i).from_≤1000000000
 per:∀ i,i<l.length→0≤(bAt l i).per∧(bAt l i).per≤100
 inc:∀ i,i+1<l.length→(bAt l i).from_<(bAt l (i+1)).from_
theorem chk_at {l:List Bra}:∀ {d i:Nat},Vl l d i=true→∀ j,i≤j→j<i+d→yM l j=false
 | 0,i,_,j,h1,h2=>by omega
 | d+1,i,h,j,h1,h2=>by
  simp only [Vl,Bool.and_eq_true,Bool.not_eq_true'] at h
  rcases Nat.lt_or_ge i j with h3 | h3
  · exact chk_at h.2 j (by omega) (by omega)
  · have:j=i:=by omega
    rw [this]; exact h.1
theorem br_of {l:List Bra} (h:brOk l=true):BrOk l:=by
 simp only [brOk,Bool.and_eq_true,decide_eq_true_eq] at h
 obtain ⟨h1,h2,h3⟩:=h
 have h1:=Qs.1 h1
 have hb:∀ i,i<l.length→yM l i=false:=fun i hi=>chk_at h3 i (by omega) (by omega)
 simp only [yM,Bool.or_eq_false_iff,Bool.not_eq_false',Bool.and_eq_false_iff,decide_eq_false_iff_not] at hb
 refine ⟨by omega,by omega,h2,fun i hi=>Qs.1 (hb i hi).1,fun i hi=>Qs.1 (hb i hi).2.1,fun i hi=>?_⟩
 rcases (hb (i+1) hi).2.2 with h4 | h4
 · omega
 · rw [Nat.add_sub_cancel] at h4; omega
/-- The hundredths of cents over the brackets. -/
def hunL (m:Int):List Bra→Int
 | []=>0
 | [b]=>iMax 0 (m - b.from_)*b.per
 | b :: b' :: r=>iMax 0 (iMin m b'.from_ - b.from_)*b.per+hunL m (b' :: r)
def taxI (m:Int) (l:List Bra):Int:=Int.tdiv (hunL m l) 100
/-- Sorted,in range. -/
def BrS (l:List Bra):Prop:=(∀ b ∈ l,0≤b.from_∧b.from_≤1000000000∧0≤b.per∧b.per≤100)∧l.Pairwise fun a b=>a.from_<b.from_
theorem BrOk.sorted {l:List Bra} (h:BrOk l):BrS l:=by
 refine ⟨fun b hb=>?_,?_⟩
 · obtain ⟨i,hi⟩:=List.getElem?_of_mem hb
   have hlt:=(List.getElem?_eq_some_iff.1 hi).1
   rw [Yl hlt] at hi; cases hi
   have:=h.from_ i hlt; have:=h.per i hlt; omega
 · rw [List.pairwise_iff_getElem]
   have key:∀ d i,i+d+1<l.length→(bAt l i).from_<(bAt l (i+d+1)).from_:=by
    intro d
    induction d with
    | zero=>intro i hi; exact h.inc i hi
    | succ d ih=>intro i hi; have h1:=ih i (by omega); have h2:=h.inc (i+d+1) (by omega); simp only [Nat.add_assoc] at *; omega
   intro i j hi hj hij
   have e1:l[i]=bAt l i:=by have:=Yl hi; rw [List.getElem?_eq_getElem hi] at this; exact Option.some.inj this
   have e2:l[j]=bAt l j:=by have:=Yl hj; rw [List.getElem?_eq_getElem hj] at this; exact Option.some.inj this
   rw [e1,e2]
   have:=key (j - i - 1) i (by omega)
   rw [show i+(j - i - 1)+1=j by omega] at this
   exact this
theorem yr {x p:Int} (hx:x≤1000000001) (hp:0≤p∧p≤100):0≤iMax 0 x*p∧iMax 0 x*p≤100000000100:=by
 have h0:0≤iMax 0 x∧iMax 0 x≤1000000001:=by simp only [iMax]; split <;> omega
 have h1:=Int.mul_nonneg h0.1 hp.1
 have h2:iMax 0 x*p≤1000000001*100:=Int.mul_le_mul h0.2 hp.2 hp.1 (by omega)
 omega
theorem hun_bd {m:Int} (hm:m≤1000000001):∀ {l:List Bra},BrS l→0≤hunL m l∧hunL m l≤100000000100*(l.length:Int)
 | [],_=>by simp [hunL]
 | [b],h=>by
  have:=h.1 b (by simp)
  have:=yr (x:=m - b.from_) (p:=b.per) (by omega) (by omega)
  simp only [hunL,List.length_cons,List.length_nil]; omega
 | b :: b' :: r,h=>by
  have h1:=h.1 b (by simp)
  have h2:iMin m b'.from_≤m:=by simp only [iMin]; split <;> omega
  have h3:=yr (x:=iMin m b'.from_ - b.from_) (p:=b.per) (by omega) (by omega)
  have h4:=hun_bd hm (l:=b' :: r) ⟨fun x hx=>h.1 x (by simp [hx]),(List.pairwise_cons.1 h.2).2⟩
  simp only [hunL,List.length_cons] at *; omega
theorem tax_bd {m:Int} {l:List Bra} (hm:m≤1000000001) (h:BrOk l):0≤taxI m l∧taxI m l≤1000000000000∧hunL m l≤1000000000000∧0≤hunL m l:=by
 have h1:=hun_bd hm h.sorted
 have:=h.len
 have e:taxI m l=hunL m l / 100:=Int.tdiv_eq_ediv_of_nonneg h1.1
 rw [e]
 have:100000000100*(l.length:Int)≤1000000000000:=by omega
 omega
theorem drop_hun {m:Int} {l:List Bra} {i:Nat} (h:i<l.length) :
 hunL m (l.drop i)=(if i+1<l.length then iMax 0 (iMin m (bAt l (i+1)).from_ - (bAt l i).from_)*(bAt l i).per else iMax 0 (m - (bAt l i).from_)*(bAt l i).per)+hunL m (l.drop (i+1)):=by
 have e1:l[i]=bAt l i:=by have:=Yl h; rw [List.getElem?_eq_getElem h] at this; exact Option.some.inj this
 rw [List.drop_eq_getElem_cons h,e1]
 split
 · rename_i h2
   have e2:l[i+1]=bAt l (i+1):=by have:=Yl h2; rw [List.getElem?_eq_getElem h2] at this; exact Option.some.inj this
   rw [List.drop_eq_getElem_cons h2,e2]; rfl
 · rename_i h2
   rw [List.drop_eq_nil_of_le (by omega)]
   simp [hunL]
theorem BrS.drop {l:List Bra} (h:BrS l) (i:Nat):BrS (l.drop i):=⟨fun b hb=>h.1 b (List.mem_of_mem_drop hb),h.2.sublist (List.drop_sublist _ _)⟩
theorem tax_ok (m:Int) (l:List Bra) (h:(0≤m∧m≤1000000000)∧brOk l=true):Pure Try.prog 46 [.int .i64 m,.rsl (QN l) 0 l.length] (.int .i64 (taxI m l)):=Qt Try.func46 f46b fun E hE=>by
 obtain ⟨hm,hb⟩:=h
 have hb:=br_of hb
 have hlen:=hb.len
 obtain ⟨t1,t2,t3,t4⟩:=tax_bd (m:=m) (by omega) hb
 have key:∀ (d i:Nat) (hu:Int),i+d=l.length→0≤hu→hu+hunL m (l.drop i)=hunL m l→f46G0 E m l hu i:=by
  intro d
  induction d with
  | zero =>
   intro i hu hd h0 he
   rw [List.drop_eq_nil_of_le (by omega)] at he
   simp only [hunL] at he
   have:hu=hunL m l:=by omega
   subst this
   have e:Int.tdiv (hunL m l) 100=taxI m l:=rfl
   exact f46W0 m l _ i (rv:=taxI m l) hE ⟨fun h=>by omega,fun _=>⟨by rw [e]; omega,e.symm⟩⟩
  | succ d ih =>
   intro i hu hd h0 he
   have hi:=Yl (l:=l) (i:=i) (by omega)
   have hf:=hb.from_ i (by omega)
   have hp:=hb.per i (by omega)
   have hr:=hun_bd (m:=m) (by omega) (hb.sorted.drop (i+1))
   rw [drop_hun (by omega)] at he
   refine f46W0 m l _ i (rv:=taxI m l) hE ⟨fun _=>⟨_,hi,by omega,fun h2=>?_,fun h2=>?_⟩,fun h=>by omega⟩
   · rw [if_pos (by omega)] at he
     have hm2:iMin m (bAt l (i+1)).from_≤m∧0≤iMin m (bAt l (i+1)).from_:=by have:=hb.from_ (i+1) (by omega); simp only [iMin]; split <;> omega
     have hq:=yr (x:=iMin m (bAt l (i+1)).from_ - (bAt l i).from_) (p:=(bAt l i).per) (by omega) hp
     exact ⟨by omega,_,Yl (by omega),by omega,by omega,by omega,by omega,ih (i+1) _ (by omega) (by omega) (by omega)⟩
   · rw [if_neg (by omega)] at he
     have hq:=yr (x:=m - (bAt l i).from_) (p:=(bAt l i).per) (by omega) hp
     exact ⟨by omega,by omega,by omega,by omega,ih (i+1) _ (by omega) (by omega) (by omega)⟩
 exact f46W m l hE (key l.length 0 0 (by omega) (by omega) (by simp))
end Go.Proofs.Ytmdbebbibecidaa
namespace Go.Proofs.Ytmdbebbibecidaa
open Go Ax
open Go.Proofs
theorem f24b:Try.f24.body=some (Qa Try.prog 24):=by kernel_rfl
theorem u24 {a c k:List AV} {r:AV} (h:Pure Try.prog 24 (a++c++k) r):Qf Try.prog (.clos 24 a k) c r:=Qn Try.func24 (by kernel_rfl) f24b h
def f24K0 (P:Program):List Item:=kAt 400 [.code (Qa P 24)] [.b false,.stop]
def f24S0 (c:Int) (l:(List Bra)) (high:Int) (low:Int):St:=⟨([.int .i64 c,.rsl (QN l) 0 l.length]++jj 5 ([.int .i64 low,.int .i64 high]++Js 27)),[]⟩
def f24G0 (E:Env) (c:Int) (l:(List Bra)) (high:Int) (low:Int):Prop:=G Try.prog E (f24K0 Try.prog) (f24S0 c l high low )
theorem p24_start_0 (c:Int) (l:(List Bra)) {E:Env} {res:AV} (hE:Qd Try.prog 24 res E) (ho:AllP [Qf Try.prog (.clos 45 [] []) [.int .i64 c,.rsl (QN l) 0 l.length] (.int .i64 (Qr c l)),((Qr c l) != 0)=true])
 (hr:AvLe (.tup [.int .i64 0,.int .i64 (Qr c l)]) res):G Try.prog E [.code (Qa Try.prog 24)] ⟨[.int .i64 c,.rsl (QN l) 0 l.length]++unds (Try.f24.ntmps - 2),[]⟩ :=
 Qb (n:=400) (evs:=[.v (.int .i64 (Qr c l)),.b true]) (obs:=_) hE Try.func24 Qg (by kernel_rfl) ho hr
theorem p24_start_1 (c:Int) (l:(List Bra)) {E:Env} {rv:AV} (hE:Qd Try.prog 24 rv E) (ho:AllP [Qf Try.prog (.clos 45 [] []) [.int .i64 c,.rsl (QN l) 0 l.length] (.int .i64 (Qr c l)),((Qr c l) != 0)=false])
 (hg:G Try.prog E (f24K0 Try.prog) ⟨([.int .i64 c,.rsl (QN l) 0 l.length]++jj 5 ([.int .i64 0,.int .i64 1000000001]++Js 27)),[]⟩):G Try.prog E [.code (Qa Try.prog 24)] ⟨[.int .i64 c,.rsl (QN l) 0 l.length]++unds (Try.f24.ntmps - 2),[]⟩ :=
 Qe (n:=400) (ds:=[]) (cs:=[]) (live:=[0,1,7,8]) (m:=0) (evs:=[.v (.int .i64 (Qr c l)),.b false,.stop]) (obs:=_) hE.2.1 (hE.nogh _) Qg (by kernel_rfl) ho hg
theorem f24W (c:Int) (l:(List Bra)) {E:Env} {rv:(Int × Int)} (hE:Qd Try.prog 24 (.tup [.int .i64 rv.1,.int .i64 rv.2]) E)
 (h:((l.length≤9223372036854775807)∧((¬ ((Qr c l)=0)→rv=(0,(Qr c l)))∧((Qr c l)=0→f24G0 E c l 1000000001 0)))):G Try.prog E [.code (Qa Try.prog 24)] ⟨[.int .i64 c,.rsl (QN l) 0 l.length]++unds (Try.f24.ntmps - 2),[]⟩:=by
 obtain ⟨h1,h⟩:=h
 rcases bft ((Qr c l) != 0) with hc0 | hc0
 · have h:=h.1 (bneT hc0)
   exact p24_start_0 c l hE ⟨(u45 (qm c l h1)),hc0,trivial⟩ (AvLe.of_eq (by rw [h]; try rfl))
 · have h:=h.2 (bneF hc0)
   exact p24_start_1 c l hE ⟨(u45 (qm c l h1)),hc0,trivial⟩ h
theorem p24_0_0 (c:Int) (l:(List Bra)) (high:Int) (low:Int) {E:Env} {rv:AV} (hE:Qd Try.prog 24 rv E) (ho:AllP [(decide (low<high))=true,InR .i64 (low+high),InR .i64 (Int.tdiv (low+high) 2),(2:Int) ≠ 0,Qf Try.prog (.clos 46 [] []) [.int .i64 (Int.tdiv (low+high) 2),.rsl (QN l) 0 l.length] (.int .i64 (taxI (Int.tdiv (low+high) 2) l)),InR .i64 ((Int.tdiv (low+high) 2) - (taxI (Int.tdiv (low+high) 2) l)),(decide (((Int.tdiv (low+high) 2) - (taxI (Int.tdiv (low+high) 2) l))≥c))=true])
 (hg:G Try.prog E (f24K0 Try.prog) ⟨([.int .i64 c,.rsl (QN l) 0 l.length]++jj 5 ([.int .i64 low,.int .i64 (Int.tdiv (low+high) 2)]++Js 27)),[]⟩):G Try.prog E (f24K0 Try.prog) (f24S0 c l high low ) :=
 Qe (n:=400) (ds:=[]) (cs:=[]) (live:=[0,1,7,8]) (m:=0) (evs:=[.b true,.v (.int .i64 (taxI (Int.tdiv (low+high) 2) l)),.b true,.stop]) (obs:=_) hE.2.1 (hE.nogh _) Qg (by kernel_rfl) ho hg
theorem p24_0_1 (c:Int) (l:(List Bra)) (high:Int) (low:Int) {E:Env} {rv:AV} (hE:Qd Try.prog 24 rv E) (ho:AllP [(decide (low<high))=true,InR .i64 (low+high),InR .i64 (Int.tdiv (low+high) 2),(2:Int) ≠ 0,Qf Try.prog (.clos 46 [] []) [.int .i64 (Int.tdiv (low+high) 2),.rsl (QN l) 0 l.length] (.int .i64 (taxI (Int.tdiv (low+high) 2) l)),InR .i64 ((Int.tdiv (low+high) 2) - (taxI (Int.tdiv (low+high) 2) l)),(decide (((Int.tdiv (low+high) 2) - (taxI (Int.tdiv (low+high) 2) l))≥c))=false,InR .i64 ((Int.tdiv (low+high) 2)+1)])
 (hg:G Try.prog E (f24K0 Try.prog) ⟨([.int .i64 c,.rsl (QN l) 0 l.length]++jj 5 ([.int .i64 ((Int.tdiv (low+high) 2)+1),.int .i64 high]++Js 27)),[]⟩):G Try.prog E (f24K0 Try.prog) (f24S0 c l high low ) :=
 Qe (n:=400) (ds:=[]) (cs:=[]) (live:=[0,1,7,8]) (m:=0) (evs:=[.b true,.v (.int .i64 (taxI (Int.tdiv (low+high) 2) l)),.b false,.stop]) (obs:=_) hE.2.1 (hE.nogh _) Qg (by kernel_rfl) ho hg
theorem p24_0_2 (c:Int) (l:(List Bra)) (high:Int) (low:Int) {E:Env} {res:AV} (hE:Qd Try.prog 24 res E) (ho:AllP [(decide (low<high))=false,(decide (low > 1000000000))=true])
 (hr:AvLe (.tup [.int .i64 0,.int .i64 3]) res):G Try.prog E (f24K0 Try.prog) (f24S0 c l high low ) :=
 Qb (n:=400) (evs:=[.b false,.b true]) (obs:=_) hE Try.func24 Qg (by kernel_rfl) ho hr
theorem p24_0_3 (c:Int) (l:(List Bra)) (high:Int) (low:Int) {E:Env} {res:AV} (hE:Qd Try.prog 24 res E) (ho:AllP [(decide (low<high))=false,(decide (low > 1000000000))=false])
 (hr:AvLe (.tup [.int .i64 low,.int .i64 0]) res):G Try.prog E (f24K0 Try.prog) (f24S0 c l high low ) :=
 Qb (n:=400) (evs:=[.b false,.b false]) (obs:=_) hE Try.func24 Qg (by kernel_rfl) ho hr
theorem f24W0 (c:Int) (l:(List Bra)) (high:Int) (low:Int) {E:Env} {rv:(Int × Int)} (hE:Qd Try.prog 24 (.tup [.int .i64 rv.1,.int .i64 rv.2]) E)
 (h:((low<high→((I6 (low+high))∧((I6 (Int.tdiv (low+high) 2))∧((((0:Int)≤(Int.tdiv (low+high) 2)∧((Int.tdiv (low+high) 2):Int)≤1000000000)∧brOk l=true)∧((I6 ((Int.tdiv (low+high) 2) - (taxI (Int.tdiv (low+high) 2) l)))∧((((Int.tdiv (low+high) 2) - (taxI (Int.tdiv (low+high) 2) l))≥c→f24G0 E c l (Int.tdiv (low+high) 2) low)∧(¬ (((Int.tdiv (low+high) 2) - (taxI (Int.tdiv (low+high) 2) l))≥c)→((I6 ((Int.tdiv (low+high) 2)+1))∧f24G0 E c l high ((Int.tdiv (low+high) 2)+1)))))))))∧(¬ (low<high)→((low > 1000000000→rv=(0,3))∧(¬ (low > 1000000000)→rv=(low,0)))))):f24G0 E c l high low:=by
 rcases bft (decide (low<high)) with hc0 | hc0
 · have h:=h.1 (odt hc0)
   obtain ⟨q1_1,h⟩:=h
   obtain ⟨q2_1,h⟩:=h
   obtain ⟨h1,h⟩:=h
   obtain ⟨q5_1,h⟩:=h
   rcases bft (decide (((Int.tdiv (low+high) 2) - (taxI (Int.tdiv (low+high) 2) l))≥c)) with hc1 | hc1
   · have h:=h.1 (odt hc1)
     exact p24_0_0 c l high low hE ⟨hc0,q1_1,q2_1,(by decide),(u46 (tax_ok (Int.tdiv (low+high) 2) l h1)),q5_1,hc1,trivial⟩ h
   · have h:=h.2 (odf hc1)
     obtain ⟨q7_2,h⟩:=h
     exact p24_0_1 c l high low hE ⟨hc0,q1_1,q2_1,(by decide),(u46 (tax_ok (Int.tdiv (low+high) 2) l h1)),q5_1,hc1,q7_2,trivial⟩ h
 · have h:=h.2 (odf hc0)
   rcases bft (decide (low > 1000000000)) with hc1 | hc1
   · have h:=h.1 (odt hc1)
     exact p24_0_2 c l high low hE ⟨hc0,hc1,trivial⟩ (AvLe.of_eq (by rw [h]; try rfl))
   · have h:=h.2 (odf hc1)
     exact p24_0_3 c l high low hE ⟨hc0,hc1,trivial⟩ (AvLe.of_eq (by rw [h]; try rfl))
theorem check0 {c:Int} {l:List Bra} (h:Qr c l=0):(0≤c∧c≤1000000000)∧brOk l=true:=by
 simp only [Qr] at h
 split at h
 · cases h
 · rename_i h1
   split at h
   · cases h
   · rename_i h2
     exact ⟨Qs.1 (by simpa [Ql] using h1),by simpa using h2⟩
/-- Search by halves. -/
def bsI (p:Int→Bool):Nat→Int→Int→Int
 | 0,lo,_=>lo
 | f+1,lo,hi=>if lo<hi then (if p (Int.tdiv (lo+hi) 2) then bsI p f lo (Int.tdiv (lo+hi) 2) else bsI p f (Int.tdiv (lo+hi) 2+1) hi) else lo
theorem mid {lo hi:Int} (h0:0≤lo) (h:lo<hi):lo≤Int.tdiv (lo+hi) 2∧Int.tdiv (lo+hi) 2<hi∧hi - (Int.tdiv (lo+hi) 2+1)≤(hi - lo) / 2∧Int.tdiv (lo+hi) 2 - lo≤(hi - lo) / 2:=by
 rw [Int.tdiv_eq_ediv_of_nonneg (by omega)]; omega
def netP (c:Int) (l:List Bra) (m:Int):Bool:=decide (m - taxI m l≥c)
def netOf (r:Int):Int × Int:=if r > 1000000000 then (0,3) else (r,0)
def netK (c:Int) (l:List Bra):Int × Int:=if Qr c l=0 then netOf (bsI (netP c l) 40 0 1000000001) else (0,Qr c l)
theorem yP (c:Int) (l:List Bra) (h:l.length≤9223372036854775807):Pure Try.prog 24 [.int .i64 c,.rsl (QN l) 0 l.length] (.tup [.int .i64 (netK c l).1,.int .i64 (netK c l).2]):=Qt Try.func24 f24b fun E hE=>by
 refine f24W c l (rv:=netK c l) hE ⟨h,fun h1=>by rw [netK,if_neg h1],fun h1=>?_⟩
 have hb:=check0 h1
 have hB:=br_of hb.2
 have key:∀ (f:Nat) (hi lo:Int),0≤lo→lo≤hi→hi≤1000000001→hi - lo<(2:Int) ^ f→netK c l=netOf (bsI (netP c l) f lo hi)→f24G0 E c l hi lo:=by
  intro f
  induction f with
  | zero =>
   intro hi lo h0 h2 h3 h4 hr
   have:hi=lo:=by simp at h4; omega
   subst this
   simp only [bsI] at hr
   exact f24W0 c l _ _ (rv:=netK c l) hE ⟨fun h=>by omega,fun _=>⟨fun h5=>by rw [hr,netOf,if_pos h5],fun h5=>by rw [hr,netOf,if_neg h5]⟩⟩
  | succ f ih =>
   intro hi lo h0 h2 h3 h4 hr
   rw [Int.pow_succ] at h4
   simp only [bsI] at hr
   refine f24W0 c l _ _ (rv:=netK c l) hE ⟨fun h5=>?_,fun h5=>⟨fun h6=>?_,fun h6=>?_⟩⟩
   · obtain ⟨m1,m2,m3,m4⟩:=mid h0 h5
     obtain ⟨t1,t2,-,-⟩:=tax_bd (m:=Int.tdiv (lo+hi) 2) (by omega) hB
     rw [if_pos h5] at hr
     refine ⟨by omega,by omega,⟨by omega,hb.2⟩,by omega,fun h6=>?_,fun h6=>⟨by omega,?_⟩⟩
     · rw [if_pos (by simp only [netP]; exact decide_eq_true h6)] at hr
       exact ih _ _ h0 m1 (by omega) (by omega) hr
     · rw [if_neg (by simp only [netP]; simpa using h6)] at hr
       exact ih _ _ (by omega) (by omega) h3 (by omega) hr
   · rw [if_neg h5] at hr; rw [hr,netOf,if_pos h6]
   · rw [if_neg h5] at hr; rw [hr,netOf,if_neg h6]
 exact key 40 1000000001 0 (by omega) (by omega) (by omega) (by decide) (by rw [netK,if_pos h1])
theorem f17b:Try.f17.body=some (Qa Try.prog 17):=by kernel_rfl
theorem u17 {a c k:List AV} {r:AV} (h:Pure Try.prog 17 (a++c++k) r):Qf Try.prog (.clos 17 a k) c r:=Qn Try.func17 (by kernel_rfl) f17b h
def f17K0 (P:Program):List Item:=kAt 400 [.code (Qa P 17)] [.b false,.stop]
def f17S0 (a:(List Int)) (b:(List Int)) (i:Nat):St:=⟨([.rsl (rowI a) 0 a.length,.rsl (rowI b) 0 b.length,J,J,J,.int .i64 (i:Int)]++Js 20),[]⟩
def f17G0 (E:Env) (a:(List Int)) (b:(List Int)) (i:Nat):Prop:=G Try.prog E (f17K0 Try.prog) (f17S0 a b i )
theorem p17_start_0 (a:(List Int)) (b:(List Int)) {E:Env} {res:AV} (hE:Qd Try.prog 17 res E) (ho:AllP [((a.length:Int) != (b.length:Int))=true])
 (hr:AvLe (.bool false) res):G Try.prog E [.code (Qa Try.prog 17)] ⟨[.rsl (rowI a) 0 a.length,.rsl (rowI b) 0 b.length]++unds (Try.f17.ntmps - 2),[]⟩ :=
 Qb (n:=400) (evs:=[.b true]) (obs:=_) hE Try.func17 Qg (by kernel_rfl) ho hr
theorem p17_start_1 (a:(List Int)) (b:(List Int)) {E:Env} {rv:AV} (hE:Qd Try.prog 17 rv E) (ho:AllP [((a.length:Int) != (b.length:Int))=false])
 (hg:G Try.prog E (f17K0 Try.prog) ⟨([.rsl (rowI a) 0 a.length,.rsl (rowI b) 0 b.length,J,J,J,.int .i64 0]++Js 20),[]⟩):G Try.prog E [.code (Qa Try.prog 17)] ⟨[.rsl (rowI a) 0 a.length,.rsl (rowI b) 0 b.length]++unds (Try.f17.ntmps - 2),[]⟩ :=
 Qe (n:=400) (ds:=[]) (cs:=[]) (live:=[0,1,5]) (m:=0) (evs:=[.b false,.stop]) (obs:=_) hE.2.1 (hE.nogh _) Qg (by kernel_rfl) ho hg
theorem f17W (a:(List Int)) (b:(List Int)) {E:Env} {rv:Bool} (hE:Qd Try.prog 17 (.bool rv) E)
 (h:((¬ ((a.length:Int)=(b.length:Int))→rv=false)∧((a.length:Int)=(b.length:Int)→f17G0 E a b 0))):G Try.prog E [.code (Qa Try.prog 17)] ⟨[.rsl (rowI a) 0 a.length,.rsl (rowI b) 0 b.length]++unds (Try.f17.ntmps - 2),[]⟩:=by
 rcases bft ((a.length:Int) != (b.length:Int)) with hc0 | hc0
 · have h:=h.1 (bneT hc0)
   exact p17_start_0 a b hE ⟨hc0,trivial⟩ (AvLe.of_eq (by rw [h]; try rfl))
 · have h:=h.2 (bneF hc0)
   exact p17_start_1 a b hE ⟨hc0,trivial⟩ h
theorem p17_0_0 (a:(List Int)) (b:(List Int)) (i:Nat) (e:Int) (e1:Int) {E:Env} {res:AV} (hE:Qd Try.prog 17 res E) (ho:AllP [(decide ((i:Int)<(a.length:Int)))=true,0≤(i:Int)∧(i:Int)<(a.length:Int),((rowI a).drop (0+(Int.toNat (i:Int))*1)).take 1=[.int .i64 e],0≤(i:Int)∧(i:Int)<(b.length:Int),((rowI b).drop (0+(Int.toNat (i:Int))*1)).take 1=[.int .i64 e1],(e != e1)=true])
 (hr:AvLe (.bool false) res):G Try.prog E (f17K0 Try.prog) (f17S0 a b i ) :=
 Qb (n:=400) (evs:=[.b true,.ld (.int .i64 e),.ld (.int .i64 e1),.b true]) (obs:=_) hE Try.func17 Qg (by kernel_rfl) ho hr
theorem p17_0_1 (a:(List Int)) (b:(List Int)) (i:Nat) (e:Int) (e1:Int) {E:Env} {rv:AV} (hE:Qd Try.prog 17 rv E) (ho:AllP [(decide ((i:Int)<(a.length:Int)))=true,0≤(i:Int)∧(i:Int)<(a.length:Int),((rowI a).drop (0+(Int.toNat (i:Int))*1)).take 1=[.int .i64 e],0≤(i:Int)∧(i:Int)<(b.length:Int),((rowI b).drop (0+(Int.toNat (i:Int))*1)).take 1=[.int .i64 e1],(e != e1)=false,InR .i64 ((i:Int)+1)])
 (hg:G Try.prog E (f17K0 Try.prog) ⟨([.rsl (rowI a) 0 a.length,.rsl (rowI b) 0 b.length,J,J,J,.int .i64 ((i:Int)+1)]++Js 20),[]⟩):G Try.prog E (f17K0 Try.prog) (f17S0 a b i ) :=
 Qe (n:=400) (ds:=[]) (cs:=[]) (live:=[0,1,5]) (m:=0) (evs:=[.b true,.ld (.int .i64 e),.ld (.int .i64 e1),.b false,.stop]) (obs:=_) hE.2.1 (hE.nogh _) Qg (by kernel_rfl) ho hg
theorem p17_0_2 (a:(List Int)) (b:(List Int)) (i:Nat) {E:Env} {res:AV} (hE:Qd Try.prog 17 res E) (ho:AllP [(decide ((i:Int)<(a.length:Int)))=false])
 (hr:AvLe (.bool true) res):G Try.prog E (f17K0 Try.prog) (f17S0 a b i ) :=
 Qb (n:=400) (evs:=[.b false]) (obs:=_) hE Try.func17 Qg (by kernel_rfl) ho hr
theorem f17W0 (a:(List Int)) (b:(List Int)) (i:Nat) {E:Env} {rv:Bool} (hE:Qd Try.prog 17 (.bool rv) E)
 (h:(((i:Int)<(a.length:Int)→(∃ e:Int,a[i]?=some e∧(∃ e1:Int,b[i]?=some e1∧((¬ (e=e1)→rv=false)∧(e=e1→((I6 ((i:Int)+1))∧f17G0 E a b (i+1)))))))∧(¬ ((i:Int)<(a.length:Int))→rv=true))):f17G0 E a b i:=by
 rcases bft (decide ((i:Int)<(a.length:Int))) with hc0 | hc0
 · have h:=h.1 (odt hc0)
   obtain ⟨e,h1,h⟩:=h
   obtain ⟨e1,h2,h⟩:=h
   rcases bft (e != e1) with hc1 | hc1
   · have h:=h.1 (bneT hc1)
     exact p17_0_0 a b i e e1 hE ⟨hc0,(Qy h1),(rp cI 1 0 1 h1),(Qy h2),(rp cI 1 0 1 h2),hc1,trivial⟩ (AvLe.of_eq (by rw [h]; try rfl))
   · have h:=h.2 (bneF hc1)
     obtain ⟨q8_2,h⟩:=h
     exact p17_0_1 a b i e e1 hE ⟨hc0,(Qy h1),(rp cI 1 0 1 h1),(Qy h2),(rp cI 1 0 1 h2),hc1,q8_2,trivial⟩ h
 · have h:=h.2 (odf hc0)
   exact p17_0_2 a b i hE ⟨hc0,trivial⟩ (AvLe.of_eq (by rw [h]; try rfl))
theorem Wy (a b:List Int) (h:a=b∧a.length≤1000000):Pure Try.prog 17 [.rsl (rowI a) 0 a.length,.rsl (rowI b) 0 b.length] (.bool true):=Qt Try.func17 f17b fun E hE=>by
 obtain ⟨rfl,hl⟩:=h
 have key:∀ (d i:Nat),i+d=a.length→f17G0 E a a i:=by
  intro d
  induction d with
  | zero=>intro i hd; exact f17W0 a a i (rv:=true) hE ⟨fun h=>by omega,fun _=>rfl⟩
  | succ d ih =>
   intro i hd
   have hi:a[i]?=some a[i]:=List.getElem?_eq_getElem (by omega)
   exact f17W0 a a i (rv:=true) hE ⟨fun _=>⟨_,hi,_,hi,fun h=>absurd rfl h,fun _=>⟨by omega,ih (i+1) (by omega)⟩⟩,fun h=>by omega⟩
 exact f17W a a (rv:=true) hE ⟨fun h=>absurd rfl h,fun _=>key a.length 0 (by omega)⟩
theorem f20b:Try.f20.body=some (Qa Try.prog 20):=by kernel_rfl
theorem u20 {a c k:List AV} {r:AV} (h:Pure Try.prog 20 (a++c++k) r):Qf Try.prog (.clos 20 a k) c r:=Qn Try.func20 (by kernel_rfl) f20b h
abbrev z20_4:=netK 2500 ([(⟨0,10⟩:Bra),(⟨1000,20⟩:Bra)])
abbrev z20_1:AV:=.tup [.int .i64 (z20_4.1),.int .i64 (z20_4.2)]
abbrev z20_2:AV:=.tup [.rsl (rowI ((Xm 100 ([1,1,1])).1)) 0 (((Xm 100 ([1,1,1])).1).length),.int .i64 ((Xm 100 ([1,1,1])).2)]
abbrev z20_3:List AV:=[.int .i64 2500,.rsl [.int .i64 0,.int .i64 10,.int .i64 1000,.int .i64 20] 0 2]
abbrev z20_5:List Blk:=[⟨true,0,1,true,[.int .i64 1,.int .i64 1,.int .i64 1],true⟩]
abbrev z20_6:List AV:=[.rsl (rowI ((Xm 100 ([1,1,1])).1)) 0 (((Xm 100 ([1,1,1])).1).length),.rsl [.int .i64 34,.int .i64 33,.int .i64 33] 0 3]
theorem p20_start_0 {E:Env} {res:AV} (hE:Qd Try.prog 20 res E) (ho:AllP [YZ Try.prog (.clos 15 [] []) [.int .i64 100,.sl 0 0 0 3 1] z20_5 z20_2 [⟨false,1,1,true,[],false⟩],Qf Try.prog (.clos 24 [] []) z20_3 z20_1,0=0,((Xm 100 ([1,1,1])).2 == 0)=true,(z20_4.2 == 0)=true,Qf Try.prog (.clos 17 [] []) z20_6 (.bool true),0=0,true=true])
 (hr:AvLe (.bool (z20_4.1 == 2999)) res):G Try.prog E [.code (Qa Try.prog 20)] ⟨[]++unds (Try.f20.ntmps - 0),[]⟩ :=
 Qb (n:=400) (evs:=[.lent [0] z20_2 [⟨false,1,1,true,[],false⟩],.v z20_1,.b true,.b true,.v (.bool true),.b true]) (obs:=_) hE Try.func20 Qg (by kernel_rfl) ho hr
theorem p20_start_1 {E:Env} {res:AV} (hE:Qd Try.prog 20 res E) (ho:AllP [YZ Try.prog (.clos 15 [] []) [.int .i64 100,.sl 0 0 0 3 1] z20_5 z20_2 [⟨false,1,1,true,[],false⟩],Qf Try.prog (.clos 24 [] []) z20_3 z20_1,0=0,((Xm 100 ([1,1,1])).2 == 0)=true,(z20_4.2 == 0)=true,Qf Try.prog (.clos 17 [] []) z20_6 (.bool true),0=0,true=false])
 (hr:AvLe (.bool false) res):G Try.prog E [.code (Qa Try.prog 20)] ⟨[]++unds (Try.f20.ntmps - 0),[]⟩ :=
 Qb (n:=400) (evs:=[.lent [0] z20_2 [⟨false,1,1,true,[],false⟩],.v z20_1,.b true,.b true,.v (.bool true),.b false]) (obs:=_) hE Try.func20 Qg (by kernel_rfl) ho hr
theorem p20_start_2 {E:Env} {res:AV} (hE:Qd Try.prog 20 res E) (ho:AllP [YZ Try.prog (.clos 15 [] []) [.int .i64 100,.sl 0 0 0 3 1] z20_5 z20_2 [⟨false,1,1,true,[],false⟩],Qf Try.prog (.clos 24 [] []) z20_3 z20_1,0=0,((Xm 100 ([1,1,1])).2 == 0)=true,(z20_4.2 == 0)=false,false=false])
 (hr:AvLe (.bool false) res):G Try.prog E [.code (Qa Try.prog 20)] ⟨[]++unds (Try.f20.ntmps - 0),[]⟩ :=
 Qb (n:=400) (evs:=[.lent [0] z20_2 [⟨false,1,1,true,[],false⟩],.v z20_1,.b true,.b false,.b false]) (obs:=_) hE Try.func20 Qg (by kernel_rfl) ho hr
theorem p20_start_3 {E:Env} {res:AV} (hE:Qd Try.prog 20 res E) (ho:AllP [YZ Try.prog (.clos 15 [] []) [.int .i64 100,.sl 0 0 0 3 1] z20_5 z20_2 [⟨false,1,1,true,[],false⟩],Qf Try.prog (.clos 24 [] []) z20_3 z20_1,0=0,((Xm 100 ([1,1,1])).2 == 0)=false,false=false,false=false])
 (hr:AvLe (.bool false) res):G Try.prog E [.code (Qa Try.prog 20)] ⟨[]++unds (Try.f20.ntmps - 0),[]⟩ :=
 Qb (n:=400) (evs:=[.lent [0] z20_2 [⟨false,1,1,true,[],false⟩],.v z20_1,.b false,.b false,.b false]) (obs:=_) hE Try.func20 Qg (by kernel_rfl) ho hr
theorem f20W {E:Env} {rv:Bool} (hE:Qd Try.prog 20 (.bool rv) E)
 (h:((([1,1,1]).length≤9223372036854775807)∧((([(⟨0,10⟩:Bra),(⟨1000,20⟩:Bra)]).length≤9223372036854775807)∧(((Xm 100 ([1,1,1])).2=0→(((netK 2500 ([(⟨0,10⟩:Bra),(⟨1000,20⟩:Bra)])).2=0→((((Xm 100 ([1,1,1])).1)=([34,33,33])∧((Xm 100 ([1,1,1])).1).length≤1000000)∧((true=true→rv=((netK 2500 ([(⟨0,10⟩:Bra),(⟨1000,20⟩:Bra)])).1 == 2999))∧(true=false→rv=false))))∧(¬ ((netK 2500 ([(⟨0,10⟩:Bra),(⟨1000,20⟩:Bra)])).2=0)→rv=false)))∧(¬ ((Xm 100 ([1,1,1])).2=0)→rv=false))))):G Try.prog E [.code (Qa Try.prog 20)] ⟨[]++unds (Try.f20.ntmps - 0),[]⟩:=by
 obtain ⟨h1,h⟩:=h
 obtain ⟨h2,h⟩:=h
 rcases bft ((Xm 100 ([1,1,1])).2 == 0) with hc0 | hc0
 · have h:=h.1 (eq_of_beq hc0)
   rcases bft ((netK 2500 ([(⟨0,10⟩:Bra),(⟨1000,20⟩:Bra)])).2 == 0) with hc1 | hc1
   · have h:=h.1 (eq_of_beq hc1)
     obtain ⟨h3,h⟩:=h
     rcases bft true with hc2 | hc2
     · have h:=h.1 hc2
       exact p20_start_0 hE ⟨(XS (fv':=.clos 15 [] []) (args':=[.int .i64 100,.rsl [.int .i64 1,.int .i64 1,.int .i64 1] 0 3]) (o1:=[]) (o2:=[0=0]) (by kernel_rfl) trivial (by kernel_rfl) ⟨rfl,trivial⟩ (u15 (Vx 100 ([1,1,1]) h1))),(u24 (yP 2500 ([(⟨0,10⟩:Bra),(⟨1000,20⟩:Bra)]) h2)),rfl,hc0,hc1,(u17 (Wy ((Xm 100 ([1,1,1])).1) ([34,33,33]) h3)),rfl,hc2,trivial⟩ (AvLe.of_eq (by rw [h]; try rfl))
     · have h:=h.2 hc2
       exact p20_start_1 hE ⟨(XS (fv':=.clos 15 [] []) (args':=[.int .i64 100,.rsl [.int .i64 1,.int .i64 1,.int .i64 1] 0 3]) (o1:=[]) (o2:=[0=0]) (by kernel_rfl) trivial (by kernel_rfl) ⟨rfl,trivial⟩ (u15 (Vx 100 ([1,1,1]) h1))),(u24 (yP 2500 ([(⟨0,10⟩:Bra),(⟨1000,20⟩:Bra)]) h2)),rfl,hc0,hc1,(u17 (Wy ((Xm 100 ([1,1,1])).1) ([34,33,33]) h3)),rfl,hc2,trivial⟩ (AvLe.of_eq (by rw [h]; try rfl))
   · have h:=h.2 (ne_of_beq_false hc1)
     exact p20_start_2 hE ⟨(XS (fv':=.clos 15 [] []) (args':=[.int .i64 100,.rsl [.int .i64 1,.int .i64 1,.int .i64 1] 0 3]) (o1:=[]) (o2:=[0=0]) (by kernel_rfl) trivial (by kernel_rfl) ⟨rfl,trivial⟩ (u15 (Vx 100 ([1,1,1]) h1))),(u24 (yP 2500 ([(⟨0,10⟩:Bra),(⟨1000,20⟩:Bra)]) h2)),rfl,hc0,hc1,rfl,trivial⟩ (AvLe.of_eq (by rw [h]; try rfl))
 · have h:=h.2 (ne_of_beq_false hc0)
   exact p20_start_3 hE ⟨(XS (fv':=.clos 15 [] []) (args':=[.int .i64 100,.rsl [.int .i64 1,.int .i64 1,.int .i64 1] 0 3]) (o1:=[]) (o2:=[0=0]) (by kernel_rfl) trivial (by kernel_rfl) ⟨rfl,trivial⟩ (u15 (Vx 100 ([1,1,1]) h1))),(u24 (yP 2500 ([(⟨0,10⟩:Bra),(⟨1000,20⟩:Bra)]) h2)),rfl,hc0,rfl,rfl,trivial⟩ (AvLe.of_eq (by rw [h]; try rfl))
theorem Wo:Pure Try.prog 20 [] (.bool true):=Qt Try.func20 f20b fun E hE=>by
 have h1:Xm 100 [1,1,1]=([34,33,33],0):=by decide +kernel
 have h2:netK 2500 [⟨0,10⟩,⟨1000,20⟩]=(2999,0):=by decide +kernel
 refine f20W (rv:=true) hE ⟨by decide,by decide,fun h=>⟨fun h'=>⟨⟨by rw [h1],by rw [h1]; decide⟩,fun _=>by rw [h2]; rfl,fun h=>by cases h⟩,fun h'=>absurd (by rw [h2]) h'⟩,fun h'=>absurd (by rw [h1]) h'⟩
end Go.Proofs.Ytmdbebbibecidaa
namespace Go.Proofs.Ytmdbebbibecidaa
open Go Ax
open Go.Proofs
theorem ownT:ownKnob Try.prog.godebug=none:=by kernel_rfl
theorem laidT:laidOutB Try.prog=true:=by kernel_rfl
theorem dInts (W:World):Dec Try.prog W 22 (List Int) (fun a=>[.rsl (rowI a) 0 a.length]) (fun a=>a.length≤9223372036854775807):=by
 refine Dec.map (dec_slice Try.underlying22 (n:=1) (by kernel_rfl) (by decide) (fun _=>rfl) (fun _=>rfl) (yH Try.underlying3)) (fun x=>x) ?_ ?_
 · exact fun _=>rfl
 · exact fun _ h=>h.1
end Go.Proofs.Ytmdbebbibecidaa
namespace Go.Proofs.Ytmdbebbibecidaa
open Go Ax
open Go.Proofs
structure RentA where
 p:Int
 q:Int
 m:Int
end Go.Proofs.Ytmdbebbibecidaa
namespace Go.Proofs.Ytmdbebbibecidaa
open Go Ax
open Go.Proofs
structure Pay where
 frm:Int
 to:Int
 c:Int
def cPay (b:Pay):List AV:=[.int .i64 b.frm,.int .i64 b.to,.int .i64 b.c]
def Qk (l:List Pay):List AV:=l.flatMap cPay
theorem f69b:Try.f69.body=some (Qa Try.prog 69):=by kernel_rfl
theorem u69 {a c k:List AV} {r:AV} (h:Pure Try.prog 69 (a++c++k) r):Qf Try.prog (.clos 69 a k) c r:=Qn Try.func69 (by kernel_rfl) f69b h
theorem p69_start_0 (n:Int) {E:Env} {res:AV} (hE:Qd Try.prog 69 res E) (ho:AllP [Qf Try.prog (.clos 49 [] []) [.int .i64 n,.int .i64 (-10000000000),.int .i64 10000000000] (.bool (Qc n (-10000000000) 10000000000))])
 (hr:AvLe (.bool (!(Qc n (-10000000000) 10000000000))) res):G Try.prog E [.code (Qa Try.prog 69)] ⟨[.int .i64 n]++unds (Try.f69.ntmps - 1),[]⟩ :=
 Qb (n:=400) (evs:=[.v (.bool (Qc n (-10000000000) 10000000000))]) (obs:=_) hE Try.func69 Qg (by kernel_rfl) ho hr
theorem f69W (n:Int) {E:Env} {rv:Bool} (hE:Qd Try.prog 69 (.bool rv) E)
 (h:rv=(!(Qc n (-10000000000) 10000000000))):G Try.prog E [.code (Qa Try.prog 69)] ⟨[.int .i64 n]++unds (Try.f69.ntmps - 1),[]⟩:=by
 exact p69_start_0 n hE ⟨(u49 (Qu n (-10000000000) 10000000000)),trivial⟩ (AvLe.of_eq (by rw [h]; try rfl))
def balN (n:Int):Bool:=Qc n (-10000000000) 10000000000
theorem notBal_ok (n:Int):Pure Try.prog 69 [.int .i64 n] (.bool (!balN n)):=Qt Try.func69 f69b fun E hE=>f69W n hE rfl
theorem f74cb:Try.f74.body=some (Qa Try.prog 74):=by kernel_rfl
def qS (P:Program):List Item:=kAt 400 [.code (Qa P 74)] [.stop]
def f74cS0 (l:(List Int)) (i:Nat):St:=⟨([.rsl (rowI l) 0 l.length,.clos 69 [] []]++jj 5 ([.int .i64 (l.length:Int),.int .i64 (i:Int)]++Js 10)),[]⟩
def f74cG0 (E:Env) (l:(List Int)) (i:Nat):Prop:=G Try.prog E (qS Try.prog) (f74cS0 l i )
theorem p74c_start_0 (l:(List Int)) {E:Env} {rv:AV} (hE:Qd Try.prog 74 rv E) (ho:AllP [])
 (hg:G Try.prog E (qS Try.prog) ⟨([.rsl (rowI l) 0 l.length,.clos 69 [] []]++jj 5 ([.int .i64 (l.length:Int),.int .i64 0]++Js 10)),[]⟩):G Try.prog E [.code (Qa Try.prog 74)] ⟨[.rsl (rowI l) 0 l.length,.clos 69 [] []]++unds (Try.f74.ntmps - 2),[]⟩ :=
 Qe (n:=400) (ds:=[]) (cs:=[]) (live:=[0,1,7,8]) (m:=0) (evs:=[.stop]) (obs:=_) hE.2.1 (hE.nogh _) Qg (by kernel_rfl) ho hg
theorem f74cW (l:(List Int)) {E:Env} {rv:Int} (hE:Qd Try.prog 74 (.int .i64 rv) E)
 (h:f74cG0 E l 0):G Try.prog E [.code (Qa Try.prog 74)] ⟨[.rsl (rowI l) 0 l.length,.clos 69 [] []]++unds (Try.f74.ntmps - 2),[]⟩:=by
 exact p74c_start_0 l hE trivial h
theorem p74c_0_0 (l:(List Int)) (i:Nat) (e:Int) {E:Env} {res:AV} (hE:Qd Try.prog 74 res E) (ho:AllP [(decide ((i:Int)<(l.length:Int)))=true,0≤(i:Int)∧(i:Int)<(l.length:Int),((rowI l).drop (0+(Int.toNat (i:Int))*1)).take 1=[.int .i64 e],Qf Try.prog (.clos 69 [] []) [.int .i64 e] (.bool (!balN e)),(!balN e)=true])
 (hr:AvLe (.int .i64 (i:Int)) res):G Try.prog E (qS Try.prog) (f74cS0 l i ) :=
 Qb (n:=400) (evs:=[.b true,.ld (.int .i64 e),.v (.bool (!balN e)),.b true]) (obs:=_) hE Try.func74 Qg (by kernel_rfl) ho hr
theorem p74c_0_1 (l:(List Int)) (i:Nat) (e:Int) {E:Env} {rv:AV} (hE:Qd Try.prog 74 rv E) (ho:AllP [(decide ((i:Int)<(l.length:Int)))=true,0≤(i:Int)∧(i:Int)<(l.length:Int),((rowI l).drop (0+(Int.toNat (i:Int))*1)).take 1=[.int .i64 e],Qf Try.prog (.clos 69 [] []) [.int .i64 e] (.bool (!balN e)),(!balN e)=false,InR .i64 ((i:Int)+1)])
 (hg:G Try.prog E (qS Try.prog) ⟨([.rsl (rowI l) 0 l.length,.clos 69 [] []]++jj 5 ([.int .i64 (l.length:Int),.int .i64 ((i:Int)+1)]++Js 10)),[]⟩):G Try.prog E (qS Try.prog) (f74cS0 l i ) :=
 Qe (n:=400) (ds:=[]) (cs:=[]) (live:=[0,1,7,8]) (m:=0) (evs:=[.b true,.ld (.int .i64 e),.v (.bool (!balN e)),.b false,.stop]) (obs:=_) hE.2.1 (hE.nogh _) Qg (by kernel_rfl) ho hg
theorem p74c_0_2 (l:(List Int)) (i:Nat) {E:Env} {res:AV} (hE:Qd Try.prog 74 res E) (ho:AllP [(decide ((i:Int)<(l.length:Int)))=false])
 (hr:AvLe (.int .i64 (-1)) res):G Try.prog E (qS Try.prog) (f74cS0 l i ) :=
 Qb (n:=400) (evs:=[.b false]) (obs:=_) hE Try.func74 Qg (by kernel_rfl) ho hr
theorem f74cW0 (l:(List Int)) (i:Nat) {E:Env} {rv:Int} (hE:Qd Try.prog 74 (.int .i64 rv) E)
 (h:(((i:Int)<(l.length:Int)→(∃ e:Int,l[i]?=some e∧(((!balN e)=true→rv=(i:Int))∧((!balN e)=false→((I6 ((i:Int)+1))∧f74cG0 E l (i+1))))))∧(¬ ((i:Int)<(l.length:Int))→rv=(-1)))):f74cG0 E l i:=by
 rcases bft (decide ((i:Int)<(l.length:Int))) with hc0 | hc0
 · have h:=h.1 (odt hc0)
   obtain ⟨e,h1,h⟩:=h
   rcases bft (!balN e) with hc1 | hc1
   · have h:=h.1 hc1
     exact p74c_0_0 l i e hE ⟨hc0,(Qy h1),(rp cI 1 0 1 h1),(u69 (notBal_ok e)),hc1,trivial⟩ (AvLe.of_eq (by rw [h]; try rfl))
   · have h:=h.2 hc1
     obtain ⟨q6_2,h⟩:=h
     exact p74c_0_1 l i e hE ⟨hc0,(Qy h1),(rp cI 1 0 1 h1),(u69 (notBal_ok e)),hc1,q6_2,trivial⟩ h
 · have h:=h.2 (odf hc0)
   exact p74c_0_2 l i hE ⟨hc0,trivial⟩ (AvLe.of_eq (by rw [h]; try rfl))
theorem idx69_ok (l:List Int) (h:l.length≤9223372036854775807):Pure Try.prog 74 [.rsl (rowI l) 0 l.length,.clos 69 [] []] (.int .i64 (idxI (fun x=>!balN x) l)):=Qt Try.func74 f74cb fun E hE=>by
 refine f74cW l hE (yA (fun x=>!balN x) l l.length 0 (by omega) (fun j x hj=>by omega) (fun i=>f74cG0 E l i) (fun i hi h1 h2=>?_) (fun _ h2=>?_))
 · have hx:l[i]?=some l[i]:=List.getElem?_eq_getElem hi
   exact f74cW0 l i hE ⟨fun _=>⟨_,hx,fun hp=>h1 _ hx hp,fun hp=>⟨by omega,h2 _ hx hp⟩⟩,fun h=>by omega⟩
 · exact f74cW0 l _ hE ⟨fun h=>by omega,fun _=>h2⟩
theorem f62cb:Try.f62.body=some (Qa Try.prog 62):=by kernel_rfl
theorem p62c_start_0 (l:(List Int)) {E:Env} {res:AV} (hE:Qd Try.prog 62 res E) (ho:AllP [Qf Try.prog (.clos 74 [] []) [.rsl (rowI l) 0 l.length,.clos 69 [] []] (.int .i64 (idxI (fun x=>!balN x) l))])
 (hr:AvLe (.bool (decide ((idxI (fun x=>!balN x) l)≥0))) res):G Try.prog E [.code (Qa Try.prog 62)] ⟨[.rsl (rowI l) 0 l.length,.clos 69 [] []]++unds (Try.f62.ntmps - 2),[]⟩ :=
 Qb (n:=400) (evs:=[.v (.int .i64 (idxI (fun x=>!balN x) l))]) (obs:=_) hE Try.func62 Qg (by kernel_rfl) ho hr
theorem f62cW (l:(List Int)) {E:Env} {rv:Bool} (hE:Qd Try.prog 62 (.bool rv) E)
 (h:((l.length≤9223372036854775807)∧rv=(decide ((idxI (fun x=>!balN x) l)≥0)))):G Try.prog E [.code (Qa Try.prog 62)] ⟨[.rsl (rowI l) 0 l.length,.clos 69 [] []]++unds (Try.f62.ntmps - 2),[]⟩:=by
 obtain ⟨h1,h⟩:=h
 exact p62c_start_0 l hE ⟨(Qn Try.func74 (by kernel_rfl) f74cb (idx69_ok l h1)),trivial⟩ (AvLe.of_eq (by rw [h]; try rfl))
theorem any69_ok (l:List Int) (h:l.length≤9223372036854775807):Pure Try.prog 62 [.rsl (rowI l) 0 l.length,.clos 69 [] []] (.bool (l.any fun x=>!balN x)):=Qt Try.func62 f62cb fun E hE =>
 f62cW l hE ⟨h,(idx_any _ _).symm⟩
def balB (l:List Int):Bool:=Qc l.length 1 10 && !(l.any fun x=>!balN x)
theorem f52b:Try.f52.body=some (Qa Try.prog 52):=by kernel_rfl
theorem u52 {a c k:List AV} {r:AV} (h:Pure Try.prog 52 (a++c++k) r):Qf Try.prog (.clos 52 a k) c r:=Qn Try.func52 (by kernel_rfl) f52b h
theorem p52_start_0 (l:(List Int)) {E:Env} {res:AV} (hE:Qd Try.prog 52 res E) (ho:AllP [Qf Try.prog (.clos 49 [] []) [.int .i64 (l.length:Int),.int .i64 1,.int .i64 10] (.bool (Qc (l.length:Int) 1 10)),(Qc (l.length:Int) 1 10)=true,Qf Try.prog (.clos 62 [] []) [.rsl (rowI l) 0 l.length,.clos 69 [] []] (.bool (l.any (fun x=>!balN x)))])
 (hr:AvLe (.bool (!(l.any (fun x=>!balN x)))) res):G Try.prog E [.code (Qa Try.prog 52)] ⟨[.rsl (rowI l) 0 l.length]++unds (Try.f52.ntmps - 1),[]⟩ :=
 Qb (n:=400) (evs:=[.v (.bool (Qc (l.length:Int) 1 10)),.b true,.v (.bool (l.any (fun x=>!balN x)))]) (obs:=_) hE Try.func52 Qg (by kernel_rfl) ho hr
theorem p52_start_1 (l:(List Int)) {E:Env} {res:AV} (hE:Qd Try.prog 52 res E) (ho:AllP [Qf Try.prog (.clos 49 [] []) [.int .i64 (l.length:Int),.int .i64 1,.int .i64 10] (.bool (Qc (l.length:Int) 1 10)),(Qc (l.length:Int) 1 10)=false])
 (hr:AvLe (.bool false) res):G Try.prog E [.code (Qa Try.prog 52)] ⟨[.rsl (rowI l) 0 l.length]++unds (Try.f52.ntmps - 1),[]⟩ :=
 Qb (n:=400) (evs:=[.v (.bool (Qc (l.length:Int) 1 10)),.b false]) (obs:=_) hE Try.func52 Qg (by kernel_rfl) ho hr
theorem f52W (l:(List Int)) {E:Env} {rv:Bool} (hE:Qd Try.prog 52 (.bool rv) E)
 (h:(((Qc (l.length:Int) 1 10)=true→((l.length≤9223372036854775807)∧rv=(!(l.any (fun x=>!balN x)))))∧((Qc (l.length:Int) 1 10)=false→rv=false))):G Try.prog E [.code (Qa Try.prog 52)] ⟨[.rsl (rowI l) 0 l.length]++unds (Try.f52.ntmps - 1),[]⟩:=by
 rcases bft (Qc (l.length:Int) 1 10) with hc0 | hc0
 · have h:=h.1 hc0
   obtain ⟨h1,h⟩:=h
   exact p52_start_0 l hE ⟨(u49 (Qu (l.length:Int) 1 10)),hc0,(Qn Try.func62 (by kernel_rfl) f62cb (any69_ok l h1)),trivial⟩ (AvLe.of_eq (by rw [h]; try rfl))
 · have h:=h.2 hc0
   exact p52_start_1 l hE ⟨(u49 (Qu (l.length:Int) 1 10)),hc0,trivial⟩ (AvLe.of_eq (by rw [h]; try rfl))
theorem XD (l:List Int) (h:l.length≤9223372036854775807):Pure Try.prog 52 [.rsl (rowI l) 0 l.length] (.bool (balB l)):=Qt Try.func52 f52b fun E hE=>by
 refine f52W l hE ⟨fun h1=>⟨h,by simp [balB,h1]⟩,fun h1=>by simp [balB,h1]⟩
theorem f54b:Try.f54.body=some (Qa Try.prog 54):=by kernel_rfl
theorem p54_start_0 (l:(List Int)) {E:Env} {res:AV} {bs2:List Blk} (hE:LentE Try.prog 54 [] res bs2 E) (ho:AllP [l.length ≠ 0,false=false,0=0,0=0,(0+l.length)≤2147483648,((rowI l).drop 0).take (l.length*1)=(rowI l),(rowI l).length=(l.length*1),noRefs (rowI l)=true])
 (hr:(.sl 0 1 0 (0+l.length) 1)=res) (hb:[⟨true,1,1,true,(rowI l),true⟩]=bs2):G Try.prog E [.code (Qa Try.prog 54)] ⟨[.rsl (rowI l) 0 l.length]++unds (Try.f54.ntmps - 1),[]⟩ :=
 Xo (n:=400) (live:=[2]) (m:=1) (evs:=[.b false,.cs (rowI l)]) (obs:=_) hE (hE.nogh0 _) Try.func54 Qg (by kernel_rfl) ho hr hb
theorem f54W (l:(List Int)) {E:Env} {rv:Unit} {lo:List Int} (hE:LentE Try.prog 54 [] (.sl 0 1 0 lo.length 1) [⟨true,1,1,true,(rowI lo),true⟩] E)
 (h:(l.length ≠ 0∧((0+l.length)≤2147483648∧lo=l))):G Try.prog E [.code (Qa Try.prog 54)] ⟨[.rsl (rowI l) 0 l.length]++unds (Try.f54.ntmps - 1),[]⟩:=by
 obtain ⟨q0_0,h⟩:=h
 obtain ⟨h1,h⟩:=h
 have qe0:=h
 exact p54_start_0 l hE ⟨q0_0,rfl,rfl,rfl,h1,(by exact row_all cI (fun _=>rfl) l),(by exact Yk cI (fun _=>rfl) l),(by exact row_nr cI (fun _=>rfl) l),trivial⟩ (by rw [qe0]; rw [(show (0+l.length)=l.length from by simp)]; try rfl) (by rw [qe0]; all_goals (first | rfl | (simp only [List.length_set]; done) | (simp only [List.length_set]; rfl) | (simp only [List.length_set,List.length_replicate]; done)))
theorem clone_ok (l:List Int) (h:l.length≤1000∧l.length ≠ 0):Lent Try.prog 54 [.rsl (rowI l) 0 l.length] [] (.sl 0 1 0 l.length 1) [⟨true,1,1,true,rowI l,true⟩]:=by
 refine lent_of0 Try.func54 f54b fun E hE=>?_
 exact f54W l (lo:=l) (rv:=()) hE ⟨h.2,by omega,rfl⟩
theorem f53b:Try.f53.body=some (Qa Try.prog 53):=by kernel_rfl
theorem u53 {a c k:List AV} {r:AV} (h:Pure Try.prog 53 (a++c++k) r):Qf Try.prog (.clos 53 a k) c r:=Qn Try.func53 (by kernel_rfl) f53b h
theorem p53_start_0 (n:Int) (l:List Int) {E:Env} {res:AV} (hE:Qd Try.prog 53 res E) (ho:AllP [InR .i64 ((l.length:Int) - 1),Qf Try.prog (.clos 49 [] []) [.int .i64 n,.int .i64 0,.int .i64 ((l.length:Int) - 1)] (.bool (Qc n 0 ((l.length:Int) - 1)))])
 (hr:AvLe (.bool (Qc n 0 ((l.length:Int) - 1))) res):G Try.prog E [.code (Qa Try.prog 53)] ⟨[.int .i64 n,.rptr [.rsl (rowI l) 0 l.length] 0]++unds (Try.f53.ntmps - 2),[]⟩ :=
 Qb (n:=400) (evs:=[.v (.bool (Qc n 0 ((l.length:Int) - 1)))]) (obs:=_) hE Try.func53 Qg (by kernel_rfl) ho hr
theorem f53W (n:Int) (l:List Int) {E:Env} {rv:Bool} (hE:Qd Try.prog 53 (.bool rv) E)
 (h:((I6 ((l.length:Int) - 1))∧rv=(Qc n 0 ((l.length:Int) - 1)))):G Try.prog E [.code (Qa Try.prog 53)] ⟨[.int .i64 n,.rptr [.rsl (rowI l) 0 l.length] 0]++unds (Try.f53.ntmps - 2),[]⟩:=by
 obtain ⟨q0_0,h⟩:=h
 exact p53_start_0 n l hE ⟨q0_0,(u49 (Qu n 0 ((l.length:Int) - 1))),trivial⟩ (AvLe.of_eq (by rw [h]; try rfl))
theorem Xw (n:Int) (l:List Int) (h:l.length≤1000):Pure Try.prog 53 [.int .i64 n,.rptr [.rsl (rowI l) 0 l.length] 0] (.bool (Qc n 0 ((l.length:Int) - 1))):=Qt Try.func53 f53b fun E hE =>
 f53W n l hE ⟨by omega,rfl⟩
def WF (n:Int) (x:Pay):Bool:=Qc x.frm 0 (n - 1) && (Qc x.to 0 (n - 1) && (!decide (x.frm=x.to) && Qc x.c 1 100000000000))
def yq (v:List Int) (x:Pay):List Int:=(v.set (Int.toNat x.frm) (v.getD (Int.toNat x.frm) 0+x.c)).set (Int.toNat x.to) ((v.set (Int.toNat x.frm) (v.getD (Int.toNat x.frm) 0+x.c)).getD (Int.toNat x.to) 0 - x.c)
def Xc (n:Int):List Pay→List Int→Option (List Int)
 | [],v=>some v
 | x :: l,v=>if WF n x=true then Xc n l (yq v x) else none
def payOut:Option (List Int)→List Int × Int
 | some v=>(v,0)
 | none=>([],110)
def payK (b:List Int) (l:List Pay):List Int × Int:=if balB b=false then ([],1) else if (l.length:Int) > 60 then ([],2) else payOut (Xc (b.length:Int) l b)
theorem pay_get {v:List Int} {i:Int} (h0:0≤i) (h:i<v.length):v[Int.toNat i]?=some (v.getD (Int.toNat i) 0):=by simp [List.getD,show Int.toNat i<v.length by omega]
theorem bal_of {b:List Int} (h:balB b=true):(1≤b.length∧b.length≤10)∧∀ x ∈ b,-10000000000≤x∧x≤10000000000:=by
 simp only [balB,Bool.and_eq_true,Bool.not_eq_true',List.any_eq_false] at h
 have h1:=Qs.1 h.1
 exact ⟨by omega,fun x hx=>Qs.1 (by simpa [balN] using h.2 x hx)⟩
theorem f30b:Try.f30.body=some (Qa Try.prog 30):=by kernel_rfl
theorem u30 {a c k:List AV} {r:AV} (h:Pure Try.prog 30 (a++c++k) r):Qf Try.prog (.clos 30 a k) c r:=Qn Try.func30 (by kernel_rfl) f30b h
def yG (P:Program):List Item:=kAt 400 [.code (Qa P 30)] [.b false,.b false,.stop]
def f30S0 (b:(List Int)) (l:(List Pay)) (i:Nat) (v1:List Int) (g1:Nat):St:=⟨(jj 6 ([.clos 53 [] [.ptr 0 0 0],.sl 1 g1 0 v1.length 1]++jj 11 ([.rsl (Qk l) 0 l.length,.int .i64 (l.length:Int),.int .i64 (i:Int)]++Js 48))),[⟨true,0,1,true,[.rsl (rowI b) 0 b.length],false⟩,⟨true,g1,1,true,(rowI v1),true⟩]⟩
def f30G0 (E:Env) (b:(List Int)) (l:(List Pay)) (i:Nat) (v1:List Int):Prop:=∀ g1:Nat,G Try.prog E (yG Try.prog) (f30S0 b l i v1 g1)
abbrev qt (pe:Pay):List AV:=[.int .i64 pe.frm,.int .i64 pe.to,.int .i64 pe.c]
abbrev ye (b:(List Int)):AV:=.clos 53 [] [.rptr [.rsl (rowI b) 0 b.length] 0]
abbrev qs (pe:Pay) (b:(List Int)):AV:=.bool (Qc pe.frm 0 ((b.length:Int) - 1))
theorem p30_start_0 (b:(List Int)) (l:(List Pay)) {E:Env} {res:AV} (hE:Qd Try.prog 30 res E) (ho:AllP [Qf Try.prog (.clos 52 [] []) [.rsl (rowI b) 0 b.length] (.bool (balB b)),(!(balB b))=true])
 (hr:AvLe (.tup [.nilSl,.int .i64 1]) res):G Try.prog E [.code (Qa Try.prog 30)] ⟨[.rsl (rowI b) 0 b.length,.rsl (Qk l) 0 l.length]++unds (Try.f30.ntmps - 2),[]⟩ :=
 Qb (n:=400) (evs:=[.v (.bool (balB b)),.b true]) (obs:=_) hE Try.func30 Qg (by kernel_rfl) ho hr
theorem p30_start_1 (b:(List Int)) (l:(List Pay)) {E:Env} {res:AV} (hE:Qd Try.prog 30 res E) (ho:AllP [Qf Try.prog (.clos 52 [] []) [.rsl (rowI b) 0 b.length] (.bool (balB b)),(!(balB b))=false,(decide ((l.length:Int) > 60))=true])
 (hr:AvLe (.tup [.nilSl,.int .i64 2]) res):G Try.prog E [.code (Qa Try.prog 30)] ⟨[.rsl (rowI b) 0 b.length,.rsl (Qk l) 0 l.length]++unds (Try.f30.ntmps - 2),[]⟩ :=
 Qb (n:=400) (evs:=[.v (.bool (balB b)),.b false,.b true]) (obs:=_) hE Try.func30 Qg (by kernel_rfl) ho hr
theorem p30_start_2 (b:(List Int)) (l:(List Pay)) {E:Env} {rv:AV} (hE:Qd Try.prog 30 rv E) (ho:AllP [Qf Try.prog (.clos 52 [] []) [.rsl (rowI b) 0 b.length] (.bool (balB b)),(!(balB b))=false,(decide ((l.length:Int) > 60))=false,YZ Try.prog (.clos 54 [] []) [.rsl (rowI b) 0 b.length] [] (.sl 0 1 0 b.length 1) [⟨true,1,1,true,(rowI b),true⟩]])
 (hg:G Try.prog E (yG Try.prog) ⟨(jj 6 ([.clos 53 [] [.ptr 0 0 0],.sl 1 1 0 b.length 1]++jj 11 ([.rsl (Qk l) 0 l.length,.int .i64 (l.length:Int),.int .i64 0]++Js 48))),[⟨true,0,1,true,[.rsl (rowI b) 0 b.length],false⟩,⟨true,1,1,true,(rowI b),true⟩]⟩):G Try.prog E [.code (Qa Try.prog 30)] ⟨[.rsl (rowI b) 0 b.length,.rsl (Qk l) 0 l.length]++unds (Try.f30.ntmps - 2),[]⟩ :=
 Qe (n:=400) (ds:=[]) (cs:=[]) (live:=[6,7,19,20,21]) (m:=2) (evs:=[.v (.bool (balB b)),.b false,.b false,.lent [] (.sl 0 1 0 b.length 1) [⟨true,1,1,true,(rowI b),true⟩],.stop]) (obs:=_) hE.2.1 (hE.nogh _) Qg (by kernel_rfl) ho hg
theorem f30W (b:(List Int)) (l:(List Pay)) {E:Env} {rv:((List Int) × Int)} (hE:Qd Try.prog 30 (.tup [.rsl (rowI rv.1) 0 rv.1.length,.int .i64 rv.2]) E)
 (h:((b.length≤9223372036854775807)∧(((balB b)=false→rv=(([]:List Int),1))∧((balB b)=true→(((l.length:Int) > 60→rv=(([]:List Int),2))∧(¬ ((l.length:Int) > 60)→((b.length≤1000∧b.length ≠ 0)∧f30G0 E b l 0 b))))))):G Try.prog E [.code (Qa Try.prog 30)] ⟨[.rsl (rowI b) 0 b.length,.rsl (Qk l) 0 l.length]++unds (Try.f30.ntmps - 2),[]⟩:=by
 obtain ⟨h1,h⟩:=h
 rcases bft (!(balB b)) with hc0 | hc0
 · have h:=h.1 (bnT hc0)
   exact p30_start_0 b l hE ⟨(u52 (XD b h1)),hc0,trivial⟩ (by rw [h]; exact (YA ⟨XQ,⟨AvLe.of_eq rfl,trivial⟩⟩))
 · have h:=h.2 (bnF hc0)
   rcases bft (decide ((l.length:Int) > 60)) with hc1 | hc1
   · have h:=h.1 (odt hc1)
     exact p30_start_1 b l hE ⟨(u52 (XD b h1)),hc0,hc1,trivial⟩ (by rw [h]; exact (YA ⟨XQ,⟨AvLe.of_eq rfl,trivial⟩⟩))
   · have h:=h.2 (odf hc1)
     obtain ⟨h2,h⟩:=h
     exact p30_start_2 b l hE ⟨(u52 (XD b h1)),hc0,hc1,(Xj Try.func54 (by kernel_rfl) f54b (clone_ok b h2)),trivial⟩ (h 1)
theorem p30_0_0 (b:(List Int)) (l:(List Pay)) (i:Nat) (v1:List Int) (g1:Nat) (pe:Pay) {E:Env} {res:AV} (hE:Qd Try.prog 30 res E) (ho:AllP [(decide ((i:Int)<(l.length:Int)))=true,0≤(i:Int)∧(i:Int)<(l.length:Int),((Qk l).drop (0+(Int.toNat (i:Int))*3)).take 3=(qt pe),3≤3,Qf Try.prog (ye b) [.int .i64 pe.frm] (qs pe b),(!(Qc pe.frm 0 ((b.length:Int) - 1)))=true,true=true,true=true,true=true])
 (hr:AvLe (.tup [.nilSl,.int .i64 110]) res):G Try.prog E (yG Try.prog) (f30S0 b l i v1 g1) :=
 Qb (n:=400) (evs:=[.b true,.ld (.agg (qt pe)),.v (qs pe b),.b true,.b true,.b true,.b true]) (obs:=_) hE Try.func30 Qg (by kernel_rfl) ho hr
theorem p30_0_1 (b:(List Int)) (l:(List Pay)) (i:Nat) (v1:List Int) (g1:Nat) (pe:Pay) {E:Env} {res:AV} (hE:Qd Try.prog 30 res E) (ho:AllP [(decide ((i:Int)<(l.length:Int)))=true,0≤(i:Int)∧(i:Int)<(l.length:Int),((Qk l).drop (0+(Int.toNat (i:Int))*3)).take 3=(qt pe),3≤3,Qf Try.prog (ye b) [.int .i64 pe.frm] (qs pe b),(!(Qc pe.frm 0 ((b.length:Int) - 1)))=false,Qf Try.prog (ye b) [.int .i64 pe.to] (.bool (Qc pe.to 0 ((b.length:Int) - 1))),(!(Qc pe.to 0 ((b.length:Int) - 1)))=true,true=true,true=true])
 (hr:AvLe (.tup [.nilSl,.int .i64 110]) res):G Try.prog E (yG Try.prog) (f30S0 b l i v1 g1) :=
 Qb (n:=400) (evs:=[.b true,.ld (.agg (qt pe)),.v (qs pe b),.b false,.v (.bool (Qc pe.to 0 ((b.length:Int) - 1))),.b true,.b true,.b true]) (obs:=_) hE Try.func30 Qg (by kernel_rfl) ho hr
theorem p30_0_2 (b:(List Int)) (l:(List Pay)) (i:Nat) (v1:List Int) (g1:Nat) (pe:Pay) {E:Env} {res:AV} (hE:Qd Try.prog 30 res E) (ho:AllP [(decide ((i:Int)<(l.length:Int)))=true,0≤(i:Int)∧(i:Int)<(l.length:Int),((Qk l).drop (0+(Int.toNat (i:Int))*3)).take 3=(qt pe),3≤3,Qf Try.prog (ye b) [.int .i64 pe.frm] (qs pe b),(!(Qc pe.frm 0 ((b.length:Int) - 1)))=false,Qf Try.prog (ye b) [.int .i64 pe.to] (.bool (Qc pe.to 0 ((b.length:Int) - 1))),(!(Qc pe.to 0 ((b.length:Int) - 1)))=false,(pe.frm == pe.to)=true,true=true])
 (hr:AvLe (.tup [.nilSl,.int .i64 110]) res):G Try.prog E (yG Try.prog) (f30S0 b l i v1 g1) :=
 Qb (n:=400) (evs:=[.b true,.ld (.agg (qt pe)),.v (qs pe b),.b false,.v (.bool (Qc pe.to 0 ((b.length:Int) - 1))),.b false,.b true,.b true]) (obs:=_) hE Try.func30 Qg (by kernel_rfl) ho hr
theorem p30_0_3 (b:(List Int)) (l:(List Pay)) (i:Nat) (v1:List Int) (g1:Nat) (pe:Pay) {E:Env} {res:AV} (hE:Qd Try.prog 30 res E) (ho:AllP [(decide ((i:Int)<(l.length:Int)))=true,0≤(i:Int)∧(i:Int)<(l.length:Int),((Qk l).drop (0+(Int.toNat (i:Int))*3)).take 3=(qt pe),3≤3,Qf Try.prog (ye b) [.int .i64 pe.frm] (qs pe b),(!(Qc pe.frm 0 ((b.length:Int) - 1)))=false,Qf Try.prog (ye b) [.int .i64 pe.to] (.bool (Qc pe.to 0 ((b.length:Int) - 1))),(!(Qc pe.to 0 ((b.length:Int) - 1)))=false,(pe.frm == pe.to)=false,Qf Try.prog (.clos 49 [] []) [.int .i64 pe.c,.int .i64 1,.int .i64 100000000000] (.bool (Qc pe.c 1 100000000000)),(!(Qc pe.c 1 100000000000))=true])
 (hr:AvLe (.tup [.nilSl,.int .i64 110]) res):G Try.prog E (yG Try.prog) (f30S0 b l i v1 g1) :=
 Qb (n:=400) (evs:=[.b true,.ld (.agg (qt pe)),.v (qs pe b),.b false,.v (.bool (Qc pe.to 0 ((b.length:Int) - 1))),.b false,.b false,.v (.bool (Qc pe.c 1 100000000000)),.b true]) (obs:=_) hE Try.func30 Qg (by kernel_rfl) ho hr
theorem p30_0_4 (b:(List Int)) (l:(List Pay)) (i:Nat) (v1:List Int) (g1:Nat) (pe:Pay) (e:Int) (e1:Int) {E:Env} {rv:AV} (hE:Qd Try.prog 30 rv E) (ho:AllP [(decide ((i:Int)<(l.length:Int)))=true,0≤(i:Int)∧(i:Int)<(l.length:Int),((Qk l).drop (0+(Int.toNat (i:Int))*3)).take 3=(qt pe),3≤3,Qf Try.prog (ye b) [.int .i64 pe.frm] (qs pe b),(!(Qc pe.frm 0 ((b.length:Int) - 1)))=false,Qf Try.prog (ye b) [.int .i64 pe.to] (.bool (Qc pe.to 0 ((b.length:Int) - 1))),(!(Qc pe.to 0 ((b.length:Int) - 1)))=false,(pe.frm == pe.to)=false,Qf Try.prog (.clos 49 [] []) [.int .i64 pe.c,.int .i64 1,.int .i64 100000000000] (.bool (Qc pe.c 1 100000000000)),(!(Qc pe.c 1 100000000000))=false,0≤pe.frm∧pe.frm<(v1.length:Int),g1=g1,g1=g1,((rowI v1).drop (0+(Int.toNat pe.frm)*1)).take 1=[.int .i64 e],InR .i64 (e+pe.c),0≤pe.frm∧pe.frm<(v1.length:Int),g1=g1,((0+(Int.toNat pe.frm)*1)+1)≤(rowI v1).length,g1=g1,0≤pe.to∧pe.to<(v1.length:Int),g1=g1,g1=g1,((QU (rowI v1) (0+(Int.toNat pe.frm)*1) [.int .i64 (e+pe.c)]).drop (0+(Int.toNat pe.to)*1)).take 1=[.int .i64 e1],InR .i64 (e1 - pe.c),0≤pe.to∧pe.to<(v1.length:Int),g1=g1,((0+(Int.toNat pe.to)*1)+1)≤(QU (rowI v1) (0+(Int.toNat pe.frm)*1) [.int .i64 (e+pe.c)]).length,g1=g1,InR .i64 ((i:Int)+1)])
 (hg:G Try.prog E (yG Try.prog) ⟨(jj 6 ([.clos 53 [] [.ptr 0 0 0],.sl 1 g1 0 v1.length 1]++jj 11 ([.rsl (Qk l) 0 l.length,.int .i64 (l.length:Int),.int .i64 ((i:Int)+1)]++Js 48))),[⟨true,0,1,true,[.rsl (rowI b) 0 b.length],false⟩,⟨true,g1,1,true,(QU (QU (rowI v1) (0+(Int.toNat pe.frm)*1) [.int .i64 (e+pe.c)]) (0+(Int.toNat pe.to)*1) [.int .i64 (e1 - pe.c)]),true⟩]⟩):G Try.prog E (yG Try.prog) (f30S0 b l i v1 g1) :=
 Qe (n:=400) (ds:=[]) (cs:=[]) (live:=[6,7,19,20,21]) (m:=2) (evs:=[.b true,.ld (.agg (qt pe)),.v (qs pe b),.b false,.v (.bool (Qc pe.to 0 ((b.length:Int) - 1))),.b false,.b false,.v (.bool (Qc pe.c 1 100000000000)),.b false,.auto,.ld (.int .i64 e),.auto,.auto,.ld (.int .i64 e1),.stop]) (obs:=_) hE.2.1 (hE.nogh _) Qg (by kernel_rfl) ho hg
theorem p30_0_5 (b:(List Int)) (l:(List Pay)) (i:Nat) (v1:List Int) (g1:Nat) {E:Env} {res:AV} (hE:Qd Try.prog 30 res E) (ho:AllP [(decide ((i:Int)<(l.length:Int)))=false,g1=g1])
 (hr:AvLe (.tup [.rsl (rowI v1) 0 v1.length,.int .i64 0]) res):G Try.prog E (yG Try.prog) (f30S0 b l i v1 g1) :=
 Qb (n:=400) (evs:=[.b false]) (obs:=_) hE Try.func30 Qg (by kernel_rfl) ho hr
theorem f30W0 (b:(List Int)) (l:(List Pay)) (i:Nat) (v1:List Int) {E:Env} {rv:((List Int) × Int)} (hE:Qd Try.prog 30 (.tup [.rsl (rowI rv.1) 0 rv.1.length,.int .i64 rv.2]) E)
 (h:(((i:Int)<(l.length:Int)→(∃ pe:Pay,l[i]?=some pe∧((b.length≤1000)∧(((Qc pe.frm 0 ((b.length:Int) - 1))=false→rv=(([]:List Int),110))∧((Qc pe.frm 0 ((b.length:Int) - 1))=true→((b.length≤1000)∧(((Qc pe.to 0 ((b.length:Int) - 1))=false→rv=(([]:List Int),110))∧((Qc pe.to 0 ((b.length:Int) - 1))=true→((pe.frm=pe.to→rv=(([]:List Int),110))∧(¬ (pe.frm=pe.to)→(((Qc pe.c 1 100000000000)=false→rv=(([]:List Int),110))∧((Qc pe.c 1 100000000000)=true→(0≤pe.frm∧(∃ e:Int,v1[Int.toNat pe.frm]?=some e∧((I6 (e+pe.c))∧(0≤pe.to∧(∃ e1:Int,(v1.set (Int.toNat pe.frm) (e+pe.c))[Int.toNat pe.to]?=some e1∧((I6 (e1 - pe.c))∧((I6 ((i:Int)+1))∧f30G0 E b l (i+1) ((v1.set (Int.toNat pe.frm) (e+pe.c)).set (Int.toNat pe.to) (e1 - pe.c)))))))))))))))))))))∧(¬ ((i:Int)<(l.length:Int))→rv=(v1,0)))):f30G0 E b l i v1:=by
 intro g1
 rcases bft (decide ((i:Int)<(l.length:Int))) with hc0 | hc0
 · have h:=h.1 (odt hc0)
   obtain ⟨pe,h1,h⟩:=h
   obtain ⟨h2,h⟩:=h
   rcases bft (!(Qc pe.frm 0 ((b.length:Int) - 1))) with hc1 | hc1
   · have h:=h.1 (bnT hc1)
     exact p30_0_0 b l i v1 g1 pe hE ⟨hc0,(Qy h1),(rp cPay 3 0 3 h1),(by decide),(u53 (Xw pe.frm b h2)),hc1,rfl,rfl,rfl,trivial⟩ (by rw [h]; exact (YA ⟨XQ,⟨AvLe.of_eq rfl,trivial⟩⟩))
   · have h:=h.2 (bnF hc1)
     obtain ⟨h3,h⟩:=h
     rcases bft (!(Qc pe.to 0 ((b.length:Int) - 1))) with hc2 | hc2
     · have h:=h.1 (bnT hc2)
       exact p30_0_1 b l i v1 g1 pe hE ⟨hc0,(Qy h1),(rp cPay 3 0 3 h1),(by decide),(u53 (Xw pe.frm b h2)),hc1,(u53 (Xw pe.to b h3)),hc2,rfl,rfl,trivial⟩ (by rw [h]; exact (YA ⟨XQ,⟨AvLe.of_eq rfl,trivial⟩⟩))
     · have h:=h.2 (bnF hc2)
       rcases bft (pe.frm == pe.to) with hc3 | hc3
       · have h:=h.1 (eq_of_beq hc3)
         exact p30_0_2 b l i v1 g1 pe hE ⟨hc0,(Qy h1),(rp cPay 3 0 3 h1),(by decide),(u53 (Xw pe.frm b h2)),hc1,(u53 (Xw pe.to b h3)),hc2,hc3,rfl,trivial⟩ (by rw [h]; exact (YA ⟨XQ,⟨AvLe.of_eq rfl,trivial⟩⟩))
       · have h:=h.2 (ne_of_beq_false hc3)
         rcases bft (!(Qc pe.c 1 100000000000)) with hc4 | hc4
         · have h:=h.1 (bnT hc4)
           exact p30_0_3 b l i v1 g1 pe hE ⟨hc0,(Qy h1),(rp cPay 3 0 3 h1),(by decide),(u53 (Xw pe.frm b h2)),hc1,(u53 (Xw pe.to b h3)),hc2,hc3,(u49 (Qu pe.c 1 100000000000)),hc4,trivial⟩ (by rw [h]; exact (YA ⟨XQ,⟨AvLe.of_eq rfl,trivial⟩⟩))
         · have h:=h.2 (bnF hc4)
           obtain ⟨h5,h⟩:=h
           obtain ⟨e,h4,h⟩:=h
           obtain ⟨q17_5,h⟩:=h
           obtain ⟨h7,h⟩:=h
           obtain ⟨e1,h6,h⟩:=h
           obtain ⟨q27_5,h⟩:=h
           obtain ⟨q32_5,h⟩:=h
           refine p30_0_4 b l i v1 g1 pe e e1 hE ⟨hc0,(Qy h1),(rp cPay 3 0 3 h1),(by decide),(u53 (Xw pe.frm b h2)),hc1,(u53 (Xw pe.to b h3)),hc2,hc3,(u49 (Qu pe.c 1 100000000000)),hc4,(Xf h5 h4),rfl,rfl,(rp cI 1 0 1 h4),q17_5,(Xf h5 h4),rfl,(rf cI 1 0 1 h4),rfl,(by have hx:=Xf h7 h6; simpa using hx),rfl,rfl,(by rw [(show QU (rowI v1) (0+(Int.toNat pe.frm)*1) [.int .i64 (e+pe.c)]=rowI (v1.set (Int.toNat pe.frm) (e+pe.c)) from Ya cI (s:=1) (k:=0) (fun _=>rfl) h4 rfl (by first | decide | simp))]; exact rp cI 1 0 1 h6),q27_5,(by have hx:=Xf h7 h6; simpa using hx),rfl,(by rw [(show QU (rowI v1) (0+(Int.toNat pe.frm)*1) [.int .i64 (e+pe.c)]=rowI (v1.set (Int.toNat pe.frm) (e+pe.c)) from Ya cI (s:=1) (k:=0) (fun _=>rfl) h4 rfl (by first | decide | simp))]; exact rf cI 1 0 1 h6),rfl,q32_5,trivial⟩ ?_
           have h:=(h g1)
           simp only [f30S0,List.length_set] at h
           rw [(show QU (rowI v1) (0+(Int.toNat pe.frm)*1) [.int .i64 (e+pe.c)]=rowI (v1.set (Int.toNat pe.frm) (e+pe.c)) from Ya cI (s:=1) (k:=0) (fun _=>rfl) h4 rfl (by first | decide | simp))]; rw [(show QU (rowI (v1.set (Int.toNat pe.frm) (e+pe.c))) (0+(Int.toNat pe.to)*1) [.int .i64 (e1 - pe.c)]=rowI ((v1.set (Int.toNat pe.frm) (e+pe.c)).set (Int.toNat pe.to) (e1 - pe.c)) from Ya cI (s:=1) (k:=0) (fun _=>rfl) h6 rfl (by first | decide | simp))]
           exact h
 · have h:=h.2 (odf hc0)
   exact p30_0_5 b l i v1 g1 hE ⟨hc0,rfl,trivial⟩ (AvLe.of_eq (by rw [h]; try rfl))
theorem PayP_ok (b:List Int) (l:List Pay) (h:b.length≤9223372036854775807):Pure Try.prog 30 [.rsl (rowI b) 0 b.length,.rsl (Qk l) 0 l.length] (.tup [.rsl (rowI (payK b l).1) 0 (payK b l).1.length,.int .i64 (payK b l).2]):=Qt Try.func30 f30b fun E hE=>by
 refine f30W b l (rv:=payK b l) hE ⟨h,fun h1=>by rw [payK,if_pos h1],fun h1=>⟨fun h2=>by rw [payK,if_neg (by rw [h1]; simp),if_pos h2],fun h2=>?_⟩⟩
 have hb:=bal_of h1
 have hr:payK b l=payOut (Xc (b.length:Int) l b):=by rw [payK,if_neg (by rw [h1]; simp),if_neg h2]
 have key:∀ (d i:Nat) (v:List Int),i+d=l.length→v.length=b.length→(∀ x ∈ v,-10000000000 - 200000000000*(i:Int)≤x∧x≤10000000000+200000000000*(i:Int))→payK b l=payOut (Xc (b.length:Int) (l.drop i) v)→f30G0 E b l i v:=by
  intro d
  induction d with
  | zero =>
   intro i v hd hv hbd hk
   rw [List.drop_eq_nil_of_le (by omega)] at hk
   exact f30W0 b l i v (rv:=payK b l) hE ⟨fun h=>by omega,fun _=>hk⟩
  | succ d ih =>
   intro i v hd hv hbd hk
   have hi:l[i]?=some l[i]:=List.getElem?_eq_getElem (by omega)
   rw [List.drop_eq_getElem_cons (by omega)] at hk
   simp only [Xc] at hk
   generalize l[i]=x at hi hk
   refine f30W0 b l i v (rv:=payK b l) hE ⟨fun _=>⟨x,hi,by omega,fun h3=>?qa,fun h3=>⟨by omega,fun h4=>?qb,fun h4=>⟨fun h5=>?qc,fun h5=>⟨fun h6=>?qd,fun h6=>?qe⟩⟩⟩⟩,fun h=>by omega⟩
   case qa=>rw [hk,if_neg (by simp [WF,h3])]; rfl
   case qb=>rw [hk,if_neg (by simp [WF,h4])]; rfl
   case qc=>rw [hk,if_neg (by simp [WF,h5])]; rfl
   case qd=>rw [hk,if_neg (by simp [WF,h6])]; rfl
   case qe =>
    rw [if_pos (by simp only [WF,Bool.and_eq_true,Bool.not_eq_true',decide_eq_false_iff_not]; exact ⟨h3,h4,h5,h6⟩)] at hk
    have w1:=Qs.1 h3
    have w2:=Qs.1 h4
    have w3:=Qs.1 h6
    have g1:=pay_get (v:=v) w1.1 (by omega)
    have g2:=pay_get (v:=v.set (Int.toNat x.frm) (v.getD (Int.toNat x.frm) 0+x.c)) w2.1 (by simp; omega)
    have m1:=hbd _ (List.mem_of_getElem? g1)
    have m2:∀ y ∈ v.set (Int.toNat x.frm) (v.getD (Int.toNat x.frm) 0+x.c),-10000000000 - 200000000000*(i:Int) - 100000000000≤y∧y≤10000000000+200000000000*(i:Int)+100000000000:=fun y hy=>by
     rcases List.mem_or_eq_of_mem_set hy with hy | rfl
     · have:=hbd y hy; omega
     · omega
    have m3:=m2 _ (List.mem_of_getElem? g2)
    refine ⟨w1.1,_,g1,by omega,w2.1,_,g2,by omega,by omega,ih (i+1) _ (by omega) (by simp [hv]) (fun y hy=>?_) hk⟩
    rcases List.mem_or_eq_of_mem_set hy with hy | rfl
    · have:=m2 y hy; omega
    · omega
 exact ⟨⟨by omega,by omega⟩,key l.length 0 b (by omega) rfl (fun x hx=>by have:=hb.2 x hx; omega) (by simpa using hr)⟩
end Go.Proofs.Ytmdbebbibecidaa
namespace Go.Proofs.Ytmdbebbibecidaa
open Go Ax
open Go.Proofs
theorem dPay (W:World):Dec Try.prog W 68 Pay cPay (fun a=>True):=by
 refine Dec.map (dec_struct Try.underlying68 rfl (tot:=3) (by kernel_rfl) (VQ (n:=1) (tot:=3) (by kernel_rfl) rfl (yH Try.underlying3) (VQ (n:=1) (tot:=3) (by kernel_rfl) rfl (yH Try.underlying3) (VQ (n:=1) (tot:=3) (by kernel_rfl) rfl (yH Try.underlying3) decFs_nil (by decide)) (by decide)) (by decide))) (fun x=>(⟨x.1,x.2.1,x.2.2.1⟩:Pay)) ?_ ?_
 · exact fun _=>rfl
 · exact fun _ _=>trivial
theorem dPays (W:World):Dec Try.prog W 44 (List Pay) (fun a=>[.rsl (Qk a) 0 a.length]) (fun a=>a.length≤9223372036854775807):=by
 refine Dec.map (dec_slice Try.underlying44 (n:=3) (by kernel_rfl) (by decide) (fun _=>rfl) (fun _=>rfl) (dPay W)) (fun x=>x) ?_ ?_
 · exact fun _=>rfl
 · exact fun _ h=>h.1
end Go.Proofs.Ytmdbebbibecidaa
namespace Go.Proofs.Ytmdbebbibecidaa
open Go Ax
open Go.Proofs
/-! ### bits -/
theorem Wn {n:Nat} (h:n<9223372036854775808):IntKind.i64.wrap (n:Int)=n:=wrap_small _ (by omega) (by omega)
theorem Vf {a:Nat} (h:a<18446744073709551616):(BitVec.ofInt 64 (a:Int)).toNat=a:=by
 rw [BitVec.ofInt_natCast,BitVec.toNat_ofNat]; exact Nat.mod_eq_of_lt h
theorem and_nat {a b:Nat} (ha:a<9223372036854775808) (hb:b<9223372036854775808):bits .and .i64 (a:Int) (b:Int)=((a &&& b:Nat):Int):=by
 have hx:a &&& b≤a:=Nat.and_le_left
 show IntKind.i64.wrap ((BitVec.ofInt 64 (a:Int) &&& BitVec.ofInt 64 (b:Int)).toNat:Int)=_
 rw [BitVec.toNat_and,Vf (by omega),Vf (by omega),Wn (by omega)]
theorem or_nat {a b:Nat} (ha:a<1024) (hb:b<1024):bits .or .i64 (a:Int) (b:Int)=((a ||| b:Nat):Int):=by
 have hx:a ||| b<2 ^ 10:=Nat.or_lt_two_pow (by omega) (by omega)
 show IntKind.i64.wrap ((BitVec.ofInt 64 (a:Int) ||| BitVec.ofInt 64 (b:Int)).toNat:Int)=_
 rw [BitVec.toNat_or,Vf (by omega),Vf (by omega),Wn (by omega)]
/-- What is in the first and not in the second. -/
def without (a b:Nat):Nat:=a ^^^ (a &&& b)
theorem Xe {a b i:Nat}:(without a b).testBit i=(a.testBit i && !b.testBit i):=by
 unfold without
 rw [Nat.testBit_xor,Nat.testBit_and]
 cases a.testBit i <;> cases b.testBit i <;> rfl
theorem qE {a b:Nat} {n:Nat} (h:a<2 ^ n):without a b<2 ^ n:=by
 refine Nat.lt_pow_two_of_testBit _ fun i hi=>?_
 rw [Xe,Nat.testBit_lt_two_pow (Nat.lt_of_lt_of_le h (Nat.pow_le_pow_right (by omega) hi)),Bool.false_and]
theorem yb {a b:Nat} (ha:a<9223372036854775808) (hb:b<9223372036854775808):bits .andNot .i64 (a:Int) (b:Int)=((without a b:Nat):Int):=by
 have e:(BitVec.ofInt 64 (a:Int) &&& ~~~ BitVec.ofInt 64 (b:Int)).toNat=without a b:=by
  refine Nat.eq_of_testBit_eq fun i=>?_
  rw [Xe,BitVec.testBit_toNat,BitVec.getLsbD_and,BitVec.getLsbD_not,← BitVec.testBit_toNat,← BitVec.testBit_toNat,Vf (by omega),Vf (by omega)]
  by_cases hi:i<64
  · simp [hi]
  · rw [Nat.testBit_lt_two_pow (Nat.lt_of_lt_of_le (show a<2 ^ 64 by omega) (Nat.pow_le_pow_right (by omega) (show 64≤i by omega)))]; simp
 have hw:without a b<2 ^ 63:=qE (by omega)
 show IntKind.i64.wrap ((BitVec.ofInt 64 (a:Int) &&& ~~~ BitVec.ofInt 64 (b:Int)).toNat:Int)=_
 rw [e,Wn (by omega)]
/-- Whether somebody is in a set. -/
theorem bit_nat {S i:Nat} (h:S<9223372036854775808):bits .and .i64 ((S:Int) / 2 ^ (Int.toNat (i:Int))) 1=if S.testBit i then 1 else 0:=by
 have e:(S:Int) / 2 ^ (Int.toNat (i:Int))=((S / 2 ^ i:Nat):Int):=by
  rw [Int.toNat_natCast,Int.natCast_ediv,Int.natCast_pow]; rfl
 have hd:S / 2 ^ i≤S:=Nat.div_le_self _ _
 rw [e,show (1:Int)=((1:Nat):Int) from rfl,and_nat (by omega) (by omega),Nat.and_one_is_mod,Nat.testBit_eq_decide_div_mod_eq]
 have:=Nat.mod_two_eq_zero_or_one (S / 2 ^ i)
 rcases this with h | h <;> rw [h] <;> rfl
/-- The lowest of a set. -/
def lowOk (S:Nat):Bool:=(List.range 10).any fun i=>S.testBit i && ((List.range i).all fun j=>!S.testBit j) && ((BitVec.ofInt 64 (S:Int) &&& BitVec.ofInt 64 (0 - (S:Int))).toNat == 2 ^ i)
theorem low_all:((List.range 1024).all fun S=>S == 0 || lowOk S)=true:=by kernel_rfl
theorem low_of {S:Nat} (h0:S ≠ 0) (h:S<1024):∃ i,i<10∧S.testBit i=true∧(∀ j,j<i→S.testBit j=false)∧(BitVec.ofInt 64 (S:Int) &&& BitVec.ofInt 64 (0 - (S:Int))).toNat=2 ^ i:=by
 have:=List.all_eq_true.1 low_all S (List.mem_range.2 h)
 rw [Bool.or_eq_true] at this
 rcases this with h | h
 · exact absurd (by simpa using h) h0
 · obtain ⟨i,hi,hh⟩:=List.any_eq_true.1 h
   simp only [Bool.and_eq_true,List.all_eq_true,Bool.not_eq_true',beq_iff_eq] at hh
   exact ⟨i,List.mem_range.1 hi,hh.1.1,fun j hj=>hh.1.2 j (List.mem_range.2 hj),hh.2⟩
def lowP (S q:Nat):Bool:=bits .and .i64 (bits .and .i64 (q:Int) (S:Int)) (0 - (S:Int)) != 0
theorem lowP_iff {S i q:Nat} (h:S<1024) (hq:q<1024) (hi:i<10) (hl:(BitVec.ofInt 64 (S:Int) &&& BitVec.ofInt 64 (0 - (S:Int))).toNat=2 ^ i):lowP S q=q.testBit i:=by
 have e:bits .and .i64 (bits .and .i64 (q:Int) (S:Int)) (0 - (S:Int))=((q &&& 2 ^ i:Nat):Int):=by
  rw [and_nat (by omega) (by omega)]
  have h1:BitVec.ofInt 64 ((q &&& S:Nat):Int)=BitVec.ofInt 64 (q:Int) &&& BitVec.ofInt 64 (S:Int):=by
   refine BitVec.eq_of_toNat_eq ?_
   have:=@Nat.and_le_left q S
   rw [BitVec.toNat_and,Vf (by omega),Vf (by omega),Vf (by omega)]
  show IntKind.i64.wrap ((BitVec.ofInt 64 ((q &&& S:Nat):Int) &&& BitVec.ofInt 64 (0 - (S:Int))).toNat:Int)=_
  have h2:=@Nat.and_le_left q (2 ^ i)
  rw [h1,BitVec.and_assoc,BitVec.toNat_and,hl,Vf (by omega),Wn (by omega)]
 unfold lowP
 rw [e]
 cases hb:q.testBit i with
 | true =>
  rw [bne_iff_ne]
  intro h0
  have h1:(q &&& 2 ^ i)=0:=by omega
  have h2:(q &&& 2 ^ i).testBit i=true:=by rw [Nat.testBit_and,hb,Nat.testBit_two_pow_self]; rfl
  rw [h1,Nat.zero_testBit] at h2; cases h2
 | false =>
  rw [bne_eq_false_iff_eq]
  have:(q &&& 2 ^ i)=0:=by
   refine Nat.eq_of_testBit_eq fun j=>?_
   rw [Nat.testBit_and,Nat.testBit_two_pow,Nat.zero_testBit]
   by_cases hj:i=j
   · subst hj; rw [hb]; rfl
   · simp [hj]
  rw [this]; rfl
/-! ### all parts of a set,one after the other -/
theorem sub_prev:∀ (S q p:Nat),q &&& S=q→p &&& S=p→p<q→p≤(q - 1) &&& S:=by
 intro S
 induction S using Nat.strongRecOn with
 | ind S ih =>
  intro q p hq hp hlt
  by_cases hS:S=0
  · subst hS; rw [Nat.and_zero] at hq; omega
  have q1:q / 2 &&& S / 2=q / 2:=by rw [← Nat.and_div_two,hq]
  have p1:p / 2 &&& S / 2=p / 2:=by rw [← Nat.and_div_two,hp]
  have dv:((q - 1) &&& S) / 2=(q - 1) / 2 &&& S / 2:=Nat.and_div_two
  have md:=@Nat.and_mod_two_eq_one (q - 1) S
  have pm:=@Nat.and_mod_two_eq_one p S
  rw [hp] at pm
  have e1:(q - 1) &&& S=2*(((q - 1) &&& S) / 2)+((q - 1) &&& S) % 2:=by omega
  by_cases hc:q % 2=1
  · have h2:(q - 1) / 2=q / 2:=by omega
    rw [h2,q1] at dv
    omega
  · have h2:(q - 1) / 2=q / 2 - 1:=by omega
    rw [h2] at dv
    have h3:=ih (S / 2) (by omega) (q / 2) (p / 2) q1 p1 (by omega)
    rw [← dv] at h3
    by_cases hd:p % 2=1
    · have h4:=pm.1 hd
      have h5:=md.2 ⟨by omega,h4.2⟩
      omega
    · omega
/-- The set of those for whom it is so. -/
def Wi:Nat→(Nat→Bool)→Nat
 | 0,_=>0
 | n+1,P=>2*Wi n (fun i=>P (i+1))+(if P 0 then 1 else 0)
theorem Vs:∀ {n:Nat} {P:Nat→Bool} {i:Nat},(Wi n P).testBit i=(decide (i<n) && P i)
 | 0,P,i=>by simp [Wi]
 | n+1,P,0=>by
  rw [Wi,Nat.testBit_zero]
  cases P 0 <;> simp <;> omega
 | n+1,P,i+1=>by
  rw [Wi,Nat.testBit_succ]
  have:(2*Wi n (fun i=>P (i+1))+(if P 0 then 1 else 0)) / 2=Wi n fun i=>P (i+1):=by cases P 0 <;> simp <;> omega
  rw [this,Vs]
  simp
end Go.Proofs.Ytmdbebbibecidaa
namespace Go.Proofs.Ytmdbebbibecidaa
open Go Ax
open Go.Proofs
/-- A number is a set of people,and these have right balances. -/
def Yq (b:List Int) (s:Int):Prop:=∃ S:Nat,s=(S:Int)∧S<2 ^ b.length∧b.length≤10∧∀ x ∈ b,-10000000000≤x∧x≤10000000000
theorem Vb {b:List Int} {S:Nat} (hl:b.length≤10) (h:S<2 ^ b.length):S<1024:=Nat.lt_of_lt_of_le h (Nat.pow_le_pow_right (n:=2) (by omega) hl)
/-- The sum of the balances of the first people of a set. -/
def totP (b:List Int) (S:Nat):Nat→Int
 | 0=>0
 | i+1=>totP b S i+b.getD i 0*(if S.testBit i then 1 else 0)
def totN (b:List Int) (S:Nat):Int:=totP b S b.length
theorem Vo {b:List Int} {S i:Nat} {e:Int} (h:b[i]?=some e):totP b S (i+1)=totP b S i+e*(if S.testBit i then 1 else 0):=by
 rw [totP,List.getD,h]; rfl
theorem Wx {b:List Int} {S:Nat} (hb:∀ x ∈ b,-10000000000≤x∧x≤10000000000):∀ i,i≤b.length→-(10000000000*(i:Int))≤totP b S i∧totP b S i≤10000000000*(i:Int)
 | 0,_=>by simp [totP]
 | i+1,h=>by
  have ih:=Wx (S:=S) hb i (by omega)
  have hi:b[i]?=some b[i]:=List.getElem?_eq_getElem (by omega)
  have hx:=hb _ (List.mem_of_getElem? hi)
  rw [Vo hi]
  split <;> omega
def We (S:Nat) (i:Nat) (e:Int) (s:Int × Int × List Pay):Int × Int × List Pay :=
 if S.testBit i=true then
  (s.1+e,(i:Int),if s.1<0 then s.2.2++[(⟨s.2.1,(i:Int),0 - s.1⟩:Pay)] else if s.1 > 0 then s.2.2++[(⟨(i:Int),s.2.1,s.1⟩:Pay)] else s.2.2)
 else s
def chP (b:List Int) (S:Nat):Nat→Int × Int × List Pay
 | 0=>(0,-1,[])
 | i+1=>We S i (b.getD i 0) (chP b S i)
/-- The payments of a chain. -/
def QD (b:List Int) (S:Nat):List Pay:=(chP b S b.length).2.2
theorem yI {b:List Int} {S i:Nat} {e:Int} (h:b[i]?=some e):chP b S (i+1)=We S i e (chP b S i):=by
 rw [chP,List.getD,h]; rfl
theorem yK {b:List Int} {S:Nat}:∀ i,i≤b.length→(chP b S i).1=totP b S i
 | 0,_=>rfl
 | i+1,h=>by
  have ih:=yK (b:=b) (S:=S) i (by omega)
  rw [chP,totP,We]
  cases ht:S.testBit i with
  | true=>rw [if_pos rfl,if_pos rfl,← ih]; simp
  | false=>rw [if_neg (by simp),if_neg (by simp),ih]; simp
theorem yJ {b:List Int} {S:Nat}:∀ i,(chP b S i).2.2.length≤i
 | 0=>by simp [chP]
 | i+1=>by
  have ih:=yJ (b:=b) (S:=S) i
  rw [chP,We]
  split
  · simp only
    split
    · simp; omega
    · split
      · simp; omega
      · omega
  · omega
/-! ### the parts of a set,from the greatest one on -/
def argS (x:Nat):List AV:=[.int .i64 (x:Int)]
def VI (b:List Int) (S q:Nat):Bool:=(q &&& S == q) && (decide (0<q) && (lowP S q && (totN b q == 0)))
def YE (b:List Int) (S p:Nat):List Nat:=((List.range (p+1)).filter (VI b S)).reverse
def Qw (b:List Int) (S:Nat):List Nat:=YE b S S
theorem range_cut {Q:Nat→Bool} {a:Nat}:∀ {d:Nat},(∀ q,a≤q→q<a+d→Q q=false)→(List.range (a+d)).filter Q=(List.range a).filter Q
 | 0,_=>rfl
 | d+1,h=>by
  rw [show a+(d+1)=(a+d)+1 by omega,List.range_succ,List.filter_append,range_cut fun q h1 h2=>h q h1 (by omega)]
  have:Q (a+d)=false:=h _ (by omega) (by omega)
  simp [this]
theorem partsF_zero {b:List Int} {S:Nat}:YE b S 0=[]:=by
 unfold YE
 simp [List.range_succ,VI]
theorem partsF_cut {b:List Int} {S p:Nat} (h0:p ≠ 0) (hp:p &&& S=p):YE b S p=if VI b S p=true then p :: YE b S (p - 1 &&& S) else YE b S (p - 1 &&& S):=by
 have hlt:=@Nat.and_le_left (p - 1) S
 have hc:(List.range p).filter (VI b S)=(List.range ((p - 1 &&& S)+1)).filter (VI b S):=by
  have e:p=((p - 1 &&& S)+1)+(p - ((p - 1 &&& S)+1)):=by omega
  have:=range_cut (Q:=VI b S) (a:=(p - 1 &&& S)+1) (d:=p - ((p - 1 &&& S)+1)) fun q h1 h2=>by
   unfold VI
   by_cases hq:q &&& S=q
   · have:=sub_prev S p q hp hq (by omega)
     omega
   · simp [hq]
  rw [← e] at this
  exact this
 unfold YE
 rw [List.range_succ,List.filter_append,hc]
 cases hQ:VI b S p <;> simp [hQ]
theorem drop_cons {α:Type} {L:List α} {n:Nat} {a:α} {r:List α} (h:L.drop n=a :: r):L[n]?=some a∧L.drop (n+1)=r∧n<L.length:=by
 have hn:n<L.length:=by
  rcases Nat.lt_or_ge n L.length with h1 | h1
  · exact h1
  · rw [List.drop_eq_nil_of_le h1] at h; cases h
 rw [List.drop_eq_getElem_cons hn] at h
 simp only [List.cons.injEq] at h
 exact ⟨by rw [List.getElem?_eq_getElem hn,h.1],h.2,hn⟩
theorem f78b:Try.f78.body=some (Qa Try.prog 78):=by kernel_rfl
def f78K0 (P:Program):List Item:=kAt 400 [.code (Qa P 78)] [.stop]
def f78S0 (set:Int) (b:List Int) (n:Int) (i:Nat):St:=⟨([J,.int .i64 set,J,J,.int .i64 n]++jj 5 ([.rsl (rowI b) 0 b.length,.int .i64 (b.length:Int),.int .i64 (i:Int)]++Js 14)),[]⟩
def f78G0 (E:Env) (set:Int) (b:List Int) (n:Int) (i:Nat):Prop:=G Try.prog E (f78K0 Try.prog) (f78S0 set b n i )
theorem p78_start_0 (set:Int) (b:List Int) {E:Env} {rv:AV} (hE:Qd Try.prog 78 rv E) (ho:AllP [])
 (hg:G Try.prog E (f78K0 Try.prog) ⟨([J,.int .i64 set,J,J,.int .i64 0]++jj 5 ([.rsl (rowI b) 0 b.length,.int .i64 (b.length:Int),.int .i64 0]++Js 14)),[]⟩):G Try.prog E [.code (Qa Try.prog 78)] ⟨[.rptr [.rsl (rowI b) 0 b.length] 0,.int .i64 set]++unds (Try.f78.ntmps - 2),[]⟩ :=
 Qe (n:=400) (ds:=[]) (cs:=[]) (live:=[1,4,10,11,12]) (m:=0) (evs:=[.stop]) (obs:=_) hE.2.1 (hE.nogh _) Qg (by kernel_rfl) ho hg
theorem f78W (set:Int) (b:List Int) {E:Env} {rv:Int} (hE:Qd Try.prog 78 (.int .i64 rv) E)
 (h:f78G0 E set b 0 0):G Try.prog E [.code (Qa Try.prog 78)] ⟨[.rptr [.rsl (rowI b) 0 b.length] 0,.int .i64 set]++unds (Try.f78.ntmps - 2),[]⟩:=by
 exact p78_start_0 set b hE trivial h
theorem p78_0_0 (set:Int) (b:List Int) (n:Int) (i:Nat) (e:Int) {E:Env} {rv:AV} (hE:Qd Try.prog 78 rv E) (ho:AllP [(decide ((i:Int)<(b.length:Int)))=true,0≤(i:Int)∧(i:Int)<(b.length:Int),((rowI b).drop (0+(Int.toNat (i:Int))*1)).take 1=[.int .i64 e],(0:Int)≤(i:Int)∧(i:Int)≤((IntKind.bits .i64:Nat):Int),InR .i64 (e*(bits .and .i64 (set / 2 ^ (Int.toNat (i:Int))) 1)),InR .i64 (n+(e*(bits .and .i64 (set / 2 ^ (Int.toNat (i:Int))) 1))),InR .i64 ((i:Int)+1)])
 (hg:G Try.prog E (f78K0 Try.prog) ⟨([J,.int .i64 set,J,J,.int .i64 (n+(e*(bits .and .i64 (set / 2 ^ (Int.toNat (i:Int))) 1)))]++jj 5 ([.rsl (rowI b) 0 b.length,.int .i64 (b.length:Int),.int .i64 ((i:Int)+1)]++Js 14)),[]⟩):G Try.prog E (f78K0 Try.prog) (f78S0 set b n i ) :=
 Qe (n:=400) (ds:=[]) (cs:=[]) (live:=[1,4,10,11,12]) (m:=0) (evs:=[.b true,.ld (.int .i64 e),.stop]) (obs:=_) hE.2.1 (hE.nogh _) Qg (by kernel_rfl) ho hg
theorem p78_0_1 (set:Int) (b:List Int) (n:Int) (i:Nat) {E:Env} {res:AV} (hE:Qd Try.prog 78 res E) (ho:AllP [(decide ((i:Int)<(b.length:Int)))=false])
 (hr:AvLe (.int .i64 n) res):G Try.prog E (f78K0 Try.prog) (f78S0 set b n i ) :=
 Qb (n:=400) (evs:=[.b false]) (obs:=_) hE Try.func78 Qg (by kernel_rfl) ho hr
theorem f78W0 (set:Int) (b:List Int) (n:Int) (i:Nat) {E:Env} {rv:Int} (hE:Qd Try.prog 78 (.int .i64 rv) E)
 (h:(((i:Int)<(b.length:Int)→(∃ e:Int,b[i]?=some e∧(((0:Int)≤(i:Int)∧(i:Int)≤((IntKind.bits .i64:Nat):Int))∧((I6 ((e*(bits .and .i64 (set / 2 ^ (Int.toNat (i:Int))) 1):Int)))∧((I6 ((n+(e*(bits .and .i64 (set / 2 ^ (Int.toNat (i:Int))) 1)):Int)))∧((I6 ((i:Int)+1))∧f78G0 E set b (n+(e*(bits .and .i64 (set / 2 ^ (Int.toNat (i:Int))) 1))) (i+1)))))))∧(¬ ((i:Int)<(b.length:Int))→rv=n))):f78G0 E set b n i:=by
 rcases bft (decide ((i:Int)<(b.length:Int))) with hc0 | hc0
 · have h:=h.1 (odt hc0)
   obtain ⟨e,h1,h⟩:=h
   obtain ⟨q4_1,h⟩:=h
   obtain ⟨q5_1,h⟩:=h
   obtain ⟨q6_1,h⟩:=h
   obtain ⟨q7_1,h⟩:=h
   exact p78_0_0 set b n i e hE ⟨hc0,(Qy h1),(rp cI 1 0 1 h1),q4_1,q5_1,q6_1,q7_1,trivial⟩ h
 · have h:=h.2 (odf hc0)
   exact p78_0_1 set b n i hE ⟨hc0,trivial⟩ (AvLe.of_eq (by rw [h]; try rfl))
theorem f71b:Try.f71.body=some (Qa Try.prog 71):=by kernel_rfl
theorem u71 {a c k:List AV} {r:AV} (h:Pure Try.prog 71 (a++c++k) r):Qf Try.prog (.clos 71 a k) c r:=Qn Try.func71 (by kernel_rfl) f71b h
theorem p71_start_0 (set:Int) (b:List Int) {E:Env} {res:AV} (hE:Qd Try.prog 71 res E) (ho:AllP [])
 (hr:AvLe (.clos 77 [] [.rptr [.int .i64 set] 0,.rptr [.rptr [.rsl (rowI b) 0 b.length] 0] 0]) res):G Try.prog E [.code (Qa Try.prog 71)] ⟨[.rptr [.rsl (rowI b) 0 b.length] 0,.int .i64 set]++unds (Try.f71.ntmps - 2),[]⟩ :=
 Qb (n:=400) (evs:=[]) (obs:=_) hE Try.func71 Qg (by kernel_rfl) ho hr
theorem f71W (set:Int) (b:List Int) {E:Env} {rv:AV} (hE:Qd Try.prog 71 rv E)
 (h:rv=(.clos 77 [] [.rptr [.int .i64 set] 0,.rptr [.rptr [.rsl (rowI b) 0 b.length] 0] 0])):G Try.prog E [.code (Qa Try.prog 71)] ⟨[.rptr [.rsl (rowI b) 0 b.length] 0,.int .i64 set]++unds (Try.f71.ntmps - 2),[]⟩:=by
 exact p71_start_0 set b hE trivial (AvLe.of_eq (by rw [h]; try rfl))
theorem f73b:Try.f73.body=some (Qa Try.prog 73):=by kernel_rfl
theorem u73 {a c k:List AV} {r:AV} (h:Pure Try.prog 73 (a++c++k) r):Qf Try.prog (.clos 73 a k) c r:=Qn Try.func73 (by kernel_rfl) f73b h
def qg (P:Program):List Item:=kAt 400 [.code (Qa P 73)] [.stop]
def f73S0 (set:Int) (b:List Int) (i:Nat) (due:Int) (last:Int) (v0:List Pay) (g0:Nat):St:=⟨([J,.int .i64 set,J,J,.sl 0 g0 0 v0.length 3,.int .i64 due,.int .i64 last]++jj 5 ([.rsl (rowI b) 0 b.length,.int .i64 (b.length:Int),.int .i64 (i:Int)]++Js 36)),[⟨true,g0,3,true,(Qk v0),true⟩]⟩
def f73G0 (E:Env) (set:Int) (b:List Int) (i:Nat) (due:Int) (last:Int) (v0:List Pay):Prop:=∀ g0:Nat,G Try.prog E (qg Try.prog) (f73S0 set b i due last v0 g0)
abbrev z73_1 (b:List Int) (i:Nat):List AV:=[.rsl (rowI b) 0 b.length,.int .i64 (b.length:Int),.int .i64 ((i:Int)+1)]++Js 36
theorem p73_start_0 (set:Int) (b:List Int) {E:Env} {rv:AV} (hE:Qd Try.prog 73 rv E) (ho:AllP [])
 (hg:G Try.prog E (qg Try.prog) ⟨([J,.int .i64 set,J,J,.sl 0 0 0 0 3,.int .i64 0,.int .i64 (-1)]++jj 5 ([.rsl (rowI b) 0 b.length,.int .i64 (b.length:Int),.int .i64 0]++Js 36)),[⟨true,0,3,true,[],true⟩]⟩):G Try.prog E [.code (Qa Try.prog 73)] ⟨[.rptr [.rsl (rowI b) 0 b.length] 0,.int .i64 set]++unds (Try.f73.ntmps - 2),[]⟩ :=
 Qe (n:=400) (ds:=[(4,3)]) (cs:=[]) (live:=[1,4,5,6,12,13,14]) (m:=1) (evs:=[.stop]) (obs:=_) hE.2.1 (hE.nogh _) Qg (by kernel_rfl) ho hg
theorem f73W (set:Int) (b:List Int) {E:Env} {rv:(List Pay)} (hE:Qd Try.prog 73 (.rsl (Qk rv) 0 rv.length) E)
 (h:f73G0 E set b 0 0 (-1) ([])):G Try.prog E [.code (Qa Try.prog 73)] ⟨[.rptr [.rsl (rowI b) 0 b.length] 0,.int .i64 set]++unds (Try.f73.ntmps - 2),[]⟩:=by
 exact p73_start_0 set b hE trivial (h 0)
theorem p73_0_0 (set:Int) (b:List Int) (i:Nat) (due:Int) (last:Int) (v0:List Pay) (g0:Nat) (e:Int) {E:Env} {rv:AV} (hE:Qd Try.prog 73 rv E) (ho:AllP [(decide ((i:Int)<(b.length:Int)))=true,0≤(i:Int)∧(i:Int)<(b.length:Int),((rowI b).drop (0+(Int.toNat (i:Int))*1)).take 1=[.int .i64 e],(0:Int)≤(i:Int)∧(i:Int)≤((IntKind.bits .i64:Nat):Int),((bits .and .i64 (set / 2 ^ (Int.toNat (i:Int))) 1) == 0)=true,InR .i64 ((i:Int)+1)])
 (hg:G Try.prog E (qg Try.prog) ⟨([J,.int .i64 set,J,J,.sl 0 g0 0 v0.length 3,.int .i64 due,.int .i64 last]++jj 5 (z73_1 b i)),[⟨true,g0,3,true,(Qk v0),true⟩]⟩):G Try.prog E (qg Try.prog) (f73S0 set b i due last v0 g0) :=
 Qe (n:=400) (ds:=[]) (cs:=[]) (live:=[1,4,5,6,12,13,14]) (m:=1) (evs:=[.b true,.ld (.int .i64 e),.b true,.stop]) (obs:=_) hE.2.1 (hE.nogh _) Qg (by kernel_rfl) ho hg
theorem p73_0_1 (set:Int) (b:List Int) (i:Nat) (due:Int) (last:Int) (v0:List Pay) (g0:Nat) (e:Int) {E:Env} {rv:AV} (hE:Qd Try.prog 73 rv E) (ho:AllP [(decide ((i:Int)<(b.length:Int)))=true,0≤(i:Int)∧(i:Int)<(b.length:Int),((rowI b).drop (0+(Int.toNat (i:Int))*1)).take 1=[.int .i64 e],(0:Int)≤(i:Int)∧(i:Int)≤((IntKind.bits .i64:Nat):Int),((bits .and .i64 (set / 2 ^ (Int.toNat (i:Int))) 1) == 0)=false,(decide (due<0))=true,InR .i64 (0 - due),g0=g0,(0+(v0.length*3))=(Qk v0).length,(v0.length+1)≤2147483648,0=0,InR .i64 (due+e),InR .i64 ((i:Int)+1)])
 (hg:G Try.prog E (qg Try.prog) ⟨([J,.int .i64 set,J,J,.sl 0 (g0+1) 0 (v0.length+1) 3,.int .i64 (due+e),.int .i64 (i:Int)]++jj 5 (z73_1 b i)),[⟨true,(g0+1),3,true,((Qk v0)++[.int .i64 last,.int .i64 (i:Int),.int .i64 (0 - due)]),true⟩]⟩):G Try.prog E (qg Try.prog) (f73S0 set b i due last v0 g0) :=
 Qe (n:=400) (ds:=[]) (cs:=[]) (live:=[1,4,5,6,12,13,14]) (m:=1) (evs:=[.b true,.ld (.int .i64 e),.b false,.b true,.stop]) (obs:=_) hE.2.1 (hE.nogh _) Qg (by kernel_rfl) ho hg
theorem p73_0_2 (set:Int) (b:List Int) (i:Nat) (due:Int) (last:Int) (v0:List Pay) (g0:Nat) (e:Int) {E:Env} {rv:AV} (hE:Qd Try.prog 73 rv E) (ho:AllP [(decide ((i:Int)<(b.length:Int)))=true,0≤(i:Int)∧(i:Int)<(b.length:Int),((rowI b).drop (0+(Int.toNat (i:Int))*1)).take 1=[.int .i64 e],(0:Int)≤(i:Int)∧(i:Int)≤((IntKind.bits .i64:Nat):Int),((bits .and .i64 (set / 2 ^ (Int.toNat (i:Int))) 1) == 0)=false,(decide (due<0))=false,(decide (due > 0))=true,g0=g0,(0+(v0.length*3))=(Qk v0).length,(v0.length+1)≤2147483648,0=0,InR .i64 (due+e),InR .i64 ((i:Int)+1)])
 (hg:G Try.prog E (qg Try.prog) ⟨([J,.int .i64 set,J,J,.sl 0 (g0+1) 0 (v0.length+1) 3,.int .i64 (due+e),.int .i64 (i:Int)]++jj 5 (z73_1 b i)),[⟨true,(g0+1),3,true,((Qk v0)++[.int .i64 (i:Int),.int .i64 last,.int .i64 due]),true⟩]⟩):G Try.prog E (qg Try.prog) (f73S0 set b i due last v0 g0) :=
 Qe (n:=400) (ds:=[]) (cs:=[]) (live:=[1,4,5,6,12,13,14]) (m:=1) (evs:=[.b true,.ld (.int .i64 e),.b false,.b false,.b true,.stop]) (obs:=_) hE.2.1 (hE.nogh _) Qg (by kernel_rfl) ho hg
theorem p73_0_3 (set:Int) (b:List Int) (i:Nat) (due:Int) (last:Int) (v0:List Pay) (g0:Nat) (e:Int) {E:Env} {rv:AV} (hE:Qd Try.prog 73 rv E) (ho:AllP [(decide ((i:Int)<(b.length:Int)))=true,0≤(i:Int)∧(i:Int)<(b.length:Int),((rowI b).drop (0+(Int.toNat (i:Int))*1)).take 1=[.int .i64 e],(0:Int)≤(i:Int)∧(i:Int)≤((IntKind.bits .i64:Nat):Int),((bits .and .i64 (set / 2 ^ (Int.toNat (i:Int))) 1) == 0)=false,(decide (due<0))=false,(decide (due > 0))=false,InR .i64 (due+e),InR .i64 ((i:Int)+1)])
 (hg:G Try.prog E (qg Try.prog) ⟨([J,.int .i64 set,J,J,.sl 0 g0 0 v0.length 3,.int .i64 (due+e),.int .i64 (i:Int)]++jj 5 (z73_1 b i)),[⟨true,g0,3,true,(Qk v0),true⟩]⟩):G Try.prog E (qg Try.prog) (f73S0 set b i due last v0 g0) :=
 Qe (n:=400) (ds:=[]) (cs:=[]) (live:=[1,4,5,6,12,13,14]) (m:=1) (evs:=[.b true,.ld (.int .i64 e),.b false,.b false,.b false,.stop]) (obs:=_) hE.2.1 (hE.nogh _) Qg (by kernel_rfl) ho hg
theorem p73_0_4 (set:Int) (b:List Int) (i:Nat) (due:Int) (last:Int) (v0:List Pay) (g0:Nat) {E:Env} {res:AV} (hE:Qd Try.prog 73 res E) (ho:AllP [(decide ((i:Int)<(b.length:Int)))=false,g0=g0])
 (hr:AvLe (.rsl (Qk v0) 0 v0.length) res):G Try.prog E (qg Try.prog) (f73S0 set b i due last v0 g0) :=
 Qb (n:=400) (evs:=[.b false]) (obs:=_) hE Try.func73 Qg (by kernel_rfl) ho hr
theorem f73W0 (set:Int) (b:List Int) (i:Nat) (due:Int) (last:Int) (v0:List Pay) {E:Env} {rv:(List Pay)} (hE:Qd Try.prog 73 (.rsl (Qk rv) 0 rv.length) E)
 (h:(((i:Int)<(b.length:Int)→(∃ e:Int,b[i]?=some e∧(((0:Int)≤(i:Int)∧(i:Int)≤((IntKind.bits .i64:Nat):Int))∧(((bits .and .i64 (set / 2 ^ (Int.toNat (i:Int))) 1)=0→((I6 ((i:Int)+1))∧f73G0 E set b (i+1) due last v0))∧(¬ ((bits .and .i64 (set / 2 ^ (Int.toNat (i:Int))) 1)=0)→((due<0→((I6 (0 - due))∧((v0.length+1)≤2147483648∧((I6 (due+e))∧((I6 ((i:Int)+1))∧f73G0 E set b (i+1) (due+e) (i:Int) (v0++[(⟨last,(i:Int),(0 - due)⟩:Pay)]))))))∧(¬ (due<0)→((due > 0→((v0.length+1)≤2147483648∧((I6 (due+e))∧((I6 ((i:Int)+1))∧f73G0 E set b (i+1) (due+e) (i:Int) (v0++[(⟨(i:Int),last,due⟩:Pay)])))))∧(¬ (due > 0)→((I6 (due+e))∧((I6 ((i:Int)+1))∧f73G0 E set b (i+1) (due+e) (i:Int) v0)))))))))))∧(¬ ((i:Int)<(b.length:Int))→rv=v0))):f73G0 E set b i due last v0:=by
 intro g0
 rcases bft (decide ((i:Int)<(b.length:Int))) with hc0 | hc0
 · have h:=h.1 (odt hc0)
   obtain ⟨e,h1,h⟩:=h
   obtain ⟨q4_1,h⟩:=h
   rcases bft ((bits .and .i64 (set / 2 ^ (Int.toNat (i:Int))) 1) == 0) with hc1 | hc1
   · have h:=h.1 (eq_of_beq hc1)
     obtain ⟨q6_2,h⟩:=h
     exact p73_0_0 set b i due last v0 g0 e hE ⟨hc0,(Qy h1),(rp cI 1 0 1 h1),q4_1,hc1,q6_2,trivial⟩ (h g0)
   · have h:=h.2 (ne_of_beq_false hc1)
     rcases bft (decide (due<0)) with hc2 | hc2
     · have h:=h.1 (odt hc2)
       obtain ⟨q7_3,h⟩:=h
       obtain ⟨h2,h⟩:=h
       obtain ⟨q12_3,h⟩:=h
       obtain ⟨q13_3,h⟩:=h
       refine p73_0_1 set b i due last v0 g0 e hE ⟨hc0,(Qy h1),(rp cI 1 0 1 h1),q4_1,hc1,hc2,q7_3,rfl,(by have hx:=Yk cPay (s:=3) (fun _=>rfl) v0; simp only [Qk] at hx ⊢; rw [hx]; simp),h2,rfl,q12_3,q13_3,trivial⟩ ?_
       rw [(show Qk v0++[.int .i64 last,.int .i64 (i:Int),.int .i64 (0 - due)]=Qk (v0++[(⟨last,(i:Int),(0 - due)⟩:Pay)]) from (Wz cPay v0 [(⟨last,(i:Int),(0 - due)⟩:Pay)]).symm)]; rw [(show (v0.length+1)=(v0++[(⟨last,(i:Int),(0 - due)⟩:Pay)]).length from by simp)]; exact (h (g0+1))
     · have h:=h.2 (odf hc2)
       rcases bft (decide (due > 0)) with hc3 | hc3
       · have h:=h.1 (odt hc3)
         obtain ⟨h2,h⟩:=h
         obtain ⟨q12_4,h⟩:=h
         obtain ⟨q13_4,h⟩:=h
         refine p73_0_2 set b i due last v0 g0 e hE ⟨hc0,(Qy h1),(rp cI 1 0 1 h1),q4_1,hc1,hc2,hc3,rfl,(by have hx:=Yk cPay (s:=3) (fun _=>rfl) v0; simp only [Qk] at hx ⊢; rw [hx]; simp),h2,rfl,q12_4,q13_4,trivial⟩ ?_
         rw [(show Qk v0++[.int .i64 (i:Int),.int .i64 last,.int .i64 due]=Qk (v0++[(⟨(i:Int),last,due⟩:Pay)]) from (Wz cPay v0 [(⟨(i:Int),last,due⟩:Pay)]).symm)]; rw [(show (v0.length+1)=(v0++[(⟨(i:Int),last,due⟩:Pay)]).length from by simp)]; exact (h (g0+1))
       · have h:=h.2 (odf hc3)
         obtain ⟨q8_4,h⟩:=h
         obtain ⟨q9_4,h⟩:=h
         exact p73_0_3 set b i due last v0 g0 e hE ⟨hc0,(Qy h1),(rp cI 1 0 1 h1),q4_1,hc1,hc2,hc3,q8_4,q9_4,trivial⟩ (h g0)
 · have h:=h.2 (odf hc0)
   exact p73_0_4 set b i due last v0 g0 hE ⟨hc0,rfl,trivial⟩ (AvLe.of_eq (by rw [h]; try rfl))
theorem total_ok (b:List Int) (set:Int) (h:Yq b set):Pure Try.prog 78 [.rptr [.rsl (rowI b) 0 b.length] 0,.int .i64 set] (.int .i64 (totN b (Int.toNat set))):=Qt Try.func78 f78b fun E hE=>by
 obtain ⟨S,rfl,hS,hl,hb⟩:=h
 have hS2:=Vb hl hS
 rw [Int.toNat_natCast] at hE
 have key:∀ (d i:Nat),i+d=b.length→f78G0 E (S:Int) b (totP b S i) i:=by
  intro d
  induction d with
  | zero =>
   intro i hd
   have:i=b.length:=by omega
   subst this
   exact f78W0 _ b _ _ (rv:=totN b S) hE ⟨fun h=>by omega,fun _=>rfl⟩
  | succ d ih =>
   intro i hd
   have hi:b[i]?=some b[i]:=List.getElem?_eq_getElem (by omega)
   have hx:=hb _ (List.mem_of_getElem? hi)
   have p1:=Wx (b:=b) (S:=S) hb i (by omega)
   have p2:=Wx (b:=b) (S:=S) hb (i+1) (by omega)
   have es:totP b S (i+1)=totP b S i+b[i]*(if S.testBit i then 1 else 0):=Vo hi
   have hm:b[i]*(if S.testBit i then 1 else 0)=b[i] ∨ b[i]*(if S.testBit i then 1 else 0)=0:=by split <;> simp
   refine f78W0 _ b _ _ (rv:=totN b S) hE ⟨fun _=>⟨b[i],hi,⟨by omega,by simp [IntKind.bits]; omega⟩,?_⟩,fun h=>by omega⟩
   rw [bit_nat (by omega),← es]
   exact ⟨by omega,by omega,by omega,ih (i+1) (by omega)⟩
 have:=key b.length 0 (by omega)
 exact f78W _ b (rv:=totN b S) hE this
theorem parts_ok (b:List Int) (set:Int):Pure Try.prog 71 [.rptr [.rsl (rowI b) 0 b.length] 0,.int .i64 set] (.clos 77 [] [.rptr [.int .i64 set] 0,.rptr [.rptr [.rsl (rowI b) 0 b.length] 0] 0]):=Qt Try.func71 f71b fun E hE=>f71W set b hE rfl
theorem chain_ok (b:List Int) (set:Int) (h:Yq b set):Pure Try.prog 73 [.rptr [.rsl (rowI b) 0 b.length] 0,.int .i64 set] (.rsl (Qk (QD b (Int.toNat set))) 0 (QD b (Int.toNat set)).length):=Qt Try.func73 f73b fun E hE=>by
 obtain ⟨S,rfl,hS,hl,hb⟩:=h
 have hS2:=Vb hl hS
 rw [Int.toNat_natCast] at hE
 have key:∀ (d i:Nat),i+d=b.length→f73G0 E (S:Int) b i (chP b S i).1 (chP b S i).2.1 (chP b S i).2.2:=by
  intro d
  induction d with
  | zero =>
   intro i hd
   have:i=b.length:=by omega
   subst this
   exact f73W0 _ b _ _ _ _ (rv:=QD b S) hE ⟨fun h=>by omega,fun _=>rfl⟩
  | succ d ih =>
   intro i hd
   have hi:b[i]?=some b[i]:=List.getElem?_eq_getElem (by omega)
   have hx:=hb _ (List.mem_of_getElem? hi)
   have p1:=yK (b:=b) (S:=S) i (by omega)
   have p2:=Wx (b:=b) (S:=S) hb i (by omega)
   have p3:=yJ (b:=b) (S:=S) i
   have es:=yI (S:=S) hi
   have nx:=ih (i+1) (by omega)
   rw [es] at nx
   refine f73W0 _ b _ _ _ _ (rv:=QD b S) hE ⟨fun _=>⟨b[i],hi,⟨by omega,by simp [IntKind.bits]; omega⟩,?_⟩,fun h=>by omega⟩
   rw [bit_nat (by omega)]
   unfold We at nx
   cases ht:S.testBit i with
   | false =>
    rw [ht] at nx
    exact ⟨fun _=>⟨by omega,nx⟩,fun h=>absurd rfl h⟩
   | true =>
    rw [ht] at nx
    refine ⟨fun h=>absurd h (by simp),fun _=>⟨fun h1=>?_,fun h1=>⟨fun h2=>?_,fun h2=>?_⟩⟩⟩
    · rw [if_pos rfl,if_pos h1] at nx
      exact ⟨by omega,by omega,by omega,by omega,nx⟩
    · rw [if_pos rfl,if_neg h1,if_pos h2] at nx
      exact ⟨by omega,by omega,by omega,nx⟩
    · rw [if_pos rfl,if_neg h1,if_neg h2] at nx
      exact ⟨by omega,by omega,nx⟩
 exact f73W _ b (rv:=QD b S) hE (key b.length 0 (by omega))
theorem f77b:Try.f77.body=some (Qa Try.prog 77):=by kernel_rfl
def qz (P:Program):List Item:=kAt 400 [.code (Qa P 77)] [.stop]
def qy (yv0:Value) (b:List Int) (S:Nat) (p:Int):St:=⟨([.opq yv0,.rptr [.int .i64 (S:Int)] 0,.rptr [.rptr [.rsl (rowI b) 0 b.length] 0] 0,J,.int .i64 p]++Js 26),[]⟩
theorem p77_s (yv0:Value) (b:List Int) (S:Nat) {E:Env} {xs:List (List AV)} {yv:Value} {Y:Option Nat→Sd} {cont:Nat→Bool} {e:Option Nat} {o:Option Nat} (hE:IterE Try.prog 77 xs yv Y cont e o E)
 (hg:G Try.prog E (qz Try.prog) (qy yv0 b S (S:Int))):G Try.prog E [.code (Qa Try.prog 77)] ⟨[.opq yv0,.rptr [.int .i64 (S:Int)] 0,.rptr [.rptr [.rsl (rowI b) 0 b.length] 0] 0]++unds (Try.f77.ntmps - 3),[]⟩ :=
 YD (n:=400) (ds:=[]) (live:=[0,1,2,4]) (m:=0) (evs:=[.stop]) (obs:=[]) hE.kind (hE.nogh _) Qg (by kernel_rfl) trivial hg
def f77Kh (P:Program):List Item:=toOp 16 (kReg 400 [.code (Qa P 77)] [.b true] 2)
def f77Sh (yv0:Value) (b:List Int) (S:Nat) (p:Int):St:=⟨[.opq yv0,.rptr [.int .i64 (S:Int)] 0,.rptr [.rptr [.rsl (rowI b) 0 b.length] 0] 0,J,.int .i64 p,J,.int .i64 p,.bool (decide (p > 0)),J,J,J,J,.int .i64 p,.int .i64 (S:Int),.int .i64 (bits .and .i64 p (S:Int)),.int .i64 (S:Int),.int .i64 (0 - (S:Int)),.int .i64 (bits .and .i64 (bits .and .i64 p (S:Int)) (0 - (S:Int))),.bool ((bits .and .i64 (bits .and .i64 p (S:Int)) (0 - (S:Int))) != 0),.bool true,.rptr [.rsl (rowI b) 0 b.length] 0,.int .i64 p,.int .i64 (totN b (Int.toNat p)),.bool ((totN b (Int.toNat p)) == 0),.bool ((totN b (Int.toNat p)) == 0),.bool true,.opq yv0,.int .i64 p,J,J,J],[]⟩
def f77Kha (P:Program):List Item:=toOp 17 (kReg 400 [.code (Qa P 77)] [.b true] 2)
def f77Sha (yv0:Value) (b:List Int) (S:Nat) (p:Int) (y:Bool):St:=⟨[.opq yv0,.rptr [.int .i64 (S:Int)] 0,.rptr [.rptr [.rsl (rowI b) 0 b.length] 0] 0,J,.int .i64 p,J,.int .i64 p,.bool (decide (p > 0)),J,J,J,J,.int .i64 p,.int .i64 (S:Int),.int .i64 (bits .and .i64 p (S:Int)),.int .i64 (S:Int),.int .i64 (0 - (S:Int)),.int .i64 (bits .and .i64 (bits .and .i64 p (S:Int)) (0 - (S:Int))),.bool ((bits .and .i64 (bits .and .i64 p (S:Int)) (0 - (S:Int))) != 0),.bool true,.rptr [.rsl (rowI b) 0 b.length] 0,.int .i64 p,.int .i64 (totN b (Int.toNat p)),.bool ((totN b (Int.toNat p)) == 0),.bool ((totN b (Int.toNat p)) == 0),.bool true,.opq yv0,.int .i64 p,.bool y,J,J],[]⟩
theorem f77_h (yv0:Value) (b:List Int) (S:Nat) (p:Int):yieldA (f77Kh Try.prog) (f77Sh yv0 b S p)=some (f77Kha Try.prog,some 28,yv0,[.int .i64 p]):=by kernel_rfl
theorem p77_0 (yv0:Value) (b:List Int) (S:Nat) (p:Int) {E:Env} {xs:List (List AV)} {yv:Value} {Y:Option Nat→Sd} {cont:Nat→Bool} {e:Option Nat} {o:Option Nat} (hE:IterE Try.prog 77 xs yv Y cont e o E) (h0:(decide (p > 0))=true) (h1:InR .i64 (0 - (S:Int))) (h2:((bits .and .i64 (bits .and .i64 p (S:Int)) (0 - (S:Int))) != 0)=true) (h3:Qf Try.prog (.clos 78 [] []) [.rptr [.rsl (rowI b) 0 b.length] 0,.int .i64 p] (.int .i64 (totN b (Int.toNat p)))) (h4:((totN b (Int.toNat p)) == 0)=true)
 (hg:G Try.prog E (f77Kh Try.prog) (f77Sh yv0 b S p)):G Try.prog E (qz Try.prog) (qy yv0 b S p) :=
 YD (n:=400) (ds:=[]) (live:=[0,1,2,3,4,5,6,7,8,9,10,11,12,13,14,15,16,17,18,19,20,21,22,23,24,25,26,27,28,29,30]) (m:=0) (evs:=[.b true,.b true,.v (.int .i64 (totN b (Int.toNat p))),.b true,.hold 2]) (obs:=[(decide (p > 0))=true,InR .i64 (0 - (S:Int)),((bits .and .i64 (bits .and .i64 p (S:Int)) (0 - (S:Int))) != 0)=true,Qf Try.prog (.clos 78 [] []) [.rptr [.rsl (rowI b) 0 b.length] 0,.int .i64 p] (.int .i64 (totN b (Int.toNat p))),((totN b (Int.toNat p)) == 0)=true]) hE.kind (hE.nogh _) Qg (by kernel_rfl) ⟨h0,h1,h2,h3,h4,trivial⟩ hg
theorem p77_1 (yv0:Value) (b:List Int) (S:Nat) (p:Int) {E:Env} {xs:List (List AV)} {yv:Value} {Y:Option Nat→Sd} {cont:Nat→Bool} {e:Option Nat} {o:Option Nat} (hE:IterE Try.prog 77 xs yv Y cont e o E) (h0:(decide (p > 0))=true) (h1:InR .i64 (0 - (S:Int))) (h2:((bits .and .i64 (bits .and .i64 p (S:Int)) (0 - (S:Int))) != 0)=true) (h3:Qf Try.prog (.clos 78 [] []) [.rptr [.rsl (rowI b) 0 b.length] 0,.int .i64 p] (.int .i64 (totN b (Int.toNat p)))) (h4:((totN b (Int.toNat p)) == 0)=false) (h6:InR .i64 (p - 1))
 (hg:G Try.prog E (qz Try.prog) (qy yv0 b S (bits .and .i64 (p - 1) (S:Int)))):G Try.prog E (qz Try.prog) (qy yv0 b S p) :=
 YD (n:=400) (ds:=[]) (live:=[0,1,2,4]) (m:=0) (evs:=[.b true,.b true,.v (.int .i64 (totN b (Int.toNat p))),.b false,.b false,.stop]) (obs:=[(decide (p > 0))=true,InR .i64 (0 - (S:Int)),((bits .and .i64 (bits .and .i64 p (S:Int)) (0 - (S:Int))) != 0)=true,Qf Try.prog (.clos 78 [] []) [.rptr [.rsl (rowI b) 0 b.length] 0,.int .i64 p] (.int .i64 (totN b (Int.toNat p))),((totN b (Int.toNat p)) == 0)=false,false=false,InR .i64 (p - 1)]) hE.kind (hE.nogh _) Qg (by kernel_rfl) ⟨h0,h1,h2,h3,h4,rfl,h6,trivial⟩ hg
theorem p77_2 (yv0:Value) (b:List Int) (S:Nat) (p:Int) {E:Env} {xs:List (List AV)} {yv:Value} {Y:Option Nat→Sd} {cont:Nat→Bool} {e:Option Nat} {o:Option Nat} (hE:IterE Try.prog 77 xs yv Y cont e o E) (h0:(decide (p > 0))=true) (h1:InR .i64 (0 - (S:Int))) (h2:((bits .and .i64 (bits .and .i64 p (S:Int)) (0 - (S:Int))) != 0)=false) (h5:InR .i64 (p - 1))
 (hg:G Try.prog E (qz Try.prog) (qy yv0 b S (bits .and .i64 (p - 1) (S:Int)))):G Try.prog E (qz Try.prog) (qy yv0 b S p) :=
 YD (n:=400) (ds:=[]) (live:=[0,1,2,4]) (m:=0) (evs:=[.b true,.b false,.b false,.b false,.stop]) (obs:=[(decide (p > 0))=true,InR .i64 (0 - (S:Int)),((bits .and .i64 (bits .and .i64 p (S:Int)) (0 - (S:Int))) != 0)=false,false=false,false=false,InR .i64 (p - 1)]) hE.kind (hE.nogh _) Qg (by kernel_rfl) ⟨h0,h1,h2,rfl,rfl,h5,trivial⟩ hg
theorem p77_3 (yv0:Value) (b:List Int) (S:Nat) (p:Int) {E:Env} {xs:List (List AV)} {yv:Value} {Y:Option Nat→Sd} {cont:Nat→Bool} {e:Option Nat} (hE:IterE Try.prog 77 xs yv Y cont e e E) (h0:(decide (p > 0))=false):G Try.prog E (qz Try.prog) (qy yv0 b S p) :=
 iter_end (n:=400) (evs:=[.b false]) (obs:=[(decide (p > 0))=false]) hE Try.func77 (by kernel_rfl) Qg (by kernel_rfl) ⟨h0,trivial⟩
theorem p77_a0 (yv0:Value) (b:List Int) (S:Nat) (p:Int) (y:Bool) {E:Env} {xs:List (List AV)} {yv:Value} {Y:Option Nat→Sd} {cont:Nat→Bool} {e:Option Nat} (hE:IterE Try.prog 77 xs yv Y cont e e E) (h0:(!y)=true):G Try.prog E (f77Kha Try.prog) (f77Sha yv0 b S p y) :=
 iter_end (n:=400) (evs:=[.b true]) (obs:=[(!y)=true]) hE Try.func77 (by kernel_rfl) Qg (by kernel_rfl) ⟨h0,trivial⟩
theorem p77_a1 (yv0:Value) (b:List Int) (S:Nat) (p:Int) (y:Bool) {E:Env} {xs:List (List AV)} {yv:Value} {Y:Option Nat→Sd} {cont:Nat→Bool} {e:Option Nat} {o:Option Nat} (hE:IterE Try.prog 77 xs yv Y cont e o E) (h0:(!y)=false) (h1:InR .i64 (p - 1))
 (hg:G Try.prog E (qz Try.prog) (qy yv0 b S (bits .and .i64 (p - 1) (S:Int)))):G Try.prog E (f77Kha Try.prog) (f77Sha yv0 b S p y) :=
 YD (n:=400) (ds:=[]) (live:=[0,1,2,4]) (m:=0) (evs:=[.b false,.stop]) (obs:=[(!y)=false,InR .i64 (p - 1)]) hE.kind (hE.nogh _) Qg (by kernel_rfl) ⟨h0,h1,trivial⟩ hg
section
variable {L:List Nat} {yv:Value} {Y:Option Nat→Sd} {cont:Nat→Bool} {e:Option Nat} {b:List Int} {S:Nat}
theorem it_p (hS:S<2 ^ b.length) (hl:b.length≤10) (hb:∀ x ∈ b,-10000000000≤x∧x≤10000000000):∀ (p n:Nat) (E:Env),p≤S→p &&& S=p→IterE Try.prog 77 (L.map argS) yv Y cont e (some n) E→Xl cont n (L.length - n)=e→L.drop n=YE b S p →
 G Try.prog E (qz Try.prog) (qy yv b S (p:Int)):=by
 have hS2:=Vb hl hS
 intro p
 induction p using Nat.strongRecOn with
 | ind p ih =>
  intro n E hp hps hE hi hL
  by_cases h0:p=0
  · subst h0
    have hn:L.length≤n:=List.drop_eq_nil_iff.1 (by rw [hL,partsF_zero])
    have e0:L.length - n=0:=by omega
    rw [e0] at hi
    simp only [Xl] at hi
    subst hi
    exact p77_3 yv b S _ hE (by simp)
  have hpi:Yq b (p:Int):=⟨p,rfl,by omega,hl,hb⟩
  have e1:bits .and .i64 ((p:Int) - 1) (S:Int)=(((p - 1) &&& S:Nat):Int):=by
   rw [show (p:Int) - 1=((p - 1:Nat):Int) by omega,and_nat (by omega) (by omega)]
  have hlt:=@Nat.and_le_left (p - 1) S
  have hq:(p - 1 &&& S) &&& S=p - 1 &&& S:=by rw [Nat.and_assoc,Nat.and_self]
  have hcut:=partsF_cut (b:=b) (S:=S) (p:=p) h0 hps
  have c0:decide ((p:Int) > 0)=true:=decide_eq_true (by omega)
  have c1:InR .i64 (0 - (S:Int)):=by show -9223372036854775808≤_∧_≤(9223372036854775807:Int); omega
  have c6:InR .i64 ((p:Int) - 1):=by show -9223372036854775808≤_∧_≤(9223372036854775807:Int); omega
  have go:∀ (E':Env) (n':Nat),IterE Try.prog 77 (L.map argS) yv Y cont e (some n') E'→Xl cont n' (L.length - n')=e→L.drop n'=YE b S (p - 1 &&& S)→G Try.prog E' (qz Try.prog) (qy yv b S (bits .and .i64 ((p:Int) - 1) (S:Int))):=by
   intro E' n' hE' hi' hL'
   rw [e1]
   exact ih (p - 1 &&& S) (by omega) n' E' (by omega) hq hE' hi' hL'
  have ht:Qf Try.prog (.clos 78 [] []) [.rptr [.rsl (rowI b) 0 b.length] 0,.int .i64 (p:Int)] (.int .i64 (totN b (Int.toNat (p:Int)))):=Qn Try.func78 (by kernel_rfl) f78b (total_ok b _ hpi)
  cases hlow:lowP S p with
  | false =>
   rw [hcut,if_neg (by unfold VI; rw [hlow]; simp)] at hL
   exact p77_2 yv b S _ hE c0 c1 hlow c6 (go E n hE hi hL)
  | true =>
   by_cases htot:totN b p=0
   · rw [hcut,if_pos (by unfold VI; rw [hlow,htot,hps]; simp; omega)] at hL
     obtain ⟨g1,g2,g3⟩:=drop_cons hL
     refine p77_0 yv b S _ hE c0 c1 hlow ht (by rw [Int.toNat_natCast,htot]; rfl) ?_
     refine yield_stepA (x:=argS p) hE (by simp [g1]) (f77_h yv b S _) rfl fun E' hE'=>?_
     have hst:L.length - n=(L.length - (n+1))+1:=by omega
     rw [hst] at hi
     simp only [Xl] at hi
     cases hc:cont n with
     | true =>
      simp only [nxt,hc,cond_true] at hE' hi
      exact p77_a1 yv b S _ true hE' rfl c6 (go E' (n+1) hE' hi g2)
     | false =>
      simp only [nxt,hc,cond_false] at hE' hi
      subst hi
      exact p77_a0 yv b S _ false hE' rfl
   · rw [hcut,if_neg (by unfold VI; simp [htot])] at hL
     exact p77_1 yv b S _ hE c0 c1 hlow ht (by rw [Int.toNat_natCast]; simpa using htot) c6 (go E n hE hi hL)
end
/-- The parts of a set,one after the other. -/
theorem parts_it (b:List Int) (set:Int) (h:Yq b set):IterF Try.prog (.clos 77 [] [.rptr [.int .i64 set] 0,.rptr [.rptr [.rsl (rowI b) 0 b.length] 0] 0]) ((Qw b (Int.toNat set)).map argS) :=
 iterF_of Try.func77 (by kernel_rfl) f77b fun E yv Y cont hE=>by
  obtain ⟨S,rfl,hS,hl,hb⟩:=h
  rw [Int.toNat_natCast] at hE
  have hx:((Qw b S).map argS).length=(Qw b S).length:=by simp
  rw [hx] at hE
  exact p77_s yv b S hE (it_p hS hl hb S 0 E (by omega) (Nat.and_self S) hE (by simp) rfl)
end Go.Proofs.Ytmdbebbibecidaa
namespace Go.Proofs.Ytmdbebbibecidaa
open Go Ax
open Go.Proofs
def sm (v:Nat→Int) (L:List Nat):Int:=(L.map v).sum
/-- So many groups of these people,each of somebody and together 0; 'c' says who is in which one. -/
def Grp (v:Nat→Int) (L:List Nat) (k:Nat):Prop:=∃ c:Nat→Nat,∀ j,1≤j→j≤k→(∃ i ∈ L,c i=j)∧sm v (L.filter fun i=>c i == j)=0
def IsMost (v:Nat→Int) (L:List Nat) (k:Nat):Prop:=∀ j,Grp v L j ↔ j≤k
theorem IsMost.eq {v:Nat→Int} {L:List Nat} {a b:Nat} (ha:IsMost v L a) (hb:IsMost v L b):a=b:=by
 have h1:=(hb a).1 ((ha a).2 (Nat.le_refl _))
 have h2:=(ha b).1 ((hb b).2 (Nat.le_refl _))
 omega
theorem YQ (v:Nat→Int) (P:Nat→Bool):∀ L:List Nat,sm v L=sm v (L.filter P)+sm v (L.filter fun i=>!P i)
 | []=>by simp [sm]
 | i :: L=>by
  have ih:=YQ v P L
  unfold sm at *
  cases h:P i <;> simp [List.filter_cons,h] <;> omega
theorem filt {L:List Nat} {P Q R:Nat→Bool} (h:∀ i ∈ L,(P i && Q i)=R i):(L.filter P).filter Q=L.filter R:=by
 rw [List.filter_filter]
 refine List.filter_congr fun i hi=>?_
 rw [Bool.and_comm]; exact h i hi
theorem sm_lab {v:Nat→Int} {L:List Nat} {c:Nat→Nat}:∀ {k:Nat},(∀ j,1≤j→j≤k→sm v (L.filter fun i=>c i == j)=0)→sm v (L.filter fun i=>decide (1≤c i∧c i≤k))=0
 | 0,h=>by
  have:(L.filter fun i=>decide (1≤c i∧c i≤0))=[]:=List.filter_eq_nil_iff.2 fun i _=>by simp; omega
  rw [this]; rfl
 | k+1,h=>by
  have ih:=sm_lab (k:=k) fun j h1 h2=>h j h1 (by omega)
  have h1:=h (k+1) (by omega) (by omega)
  rw [YQ v (fun i=>c i == k+1)]
  rw [filt (R:=fun i=>c i == k+1) (fun i _=>by
   by_cases e:c i=k+1
   · simp [e]
   · simp [e]),filt (R:=fun i=>decide (1≤c i∧c i≤k)) (fun i _=>by
   by_cases e:c i=k+1
   · simp [e]
   · simp only [show (c i == k+1)=false from by simpa using e,Bool.not_false,Bool.and_true]
     exact decide_eq_decide.2 ⟨fun h=>by omega,fun h=>by omega⟩),h1,ih]; rfl
theorem Ws (v:Nat→Int) (L:List Nat):Grp v L 0:=⟨fun _=>0,fun j h1 h2=>by omega⟩
theorem Grp.le {v:Nat→Int} {L:List Nat} {k j:Nat} (h:Grp v L k) (hj:j≤k):Grp v L j:=by
 obtain ⟨c,h⟩:=h
 exact ⟨c,fun j1 a b=>h j1 a (by omega)⟩
theorem grp_nil {v:Nat→Int} {k:Nat} (h:Grp v [] k):k=0:=by
 obtain ⟨c,h⟩:=h
 apply Classical.byContradiction
 intro hk
 obtain ⟨⟨i,hi,-⟩,-⟩:=h 1 (by omega) (by omega)
 simp at hi
theorem Grp.mono {v:Nat→Int} {L:List Nat} {Q:Nat→Bool} {k:Nat} (h:Grp v (L.filter Q) k):Grp v L k:=by
 obtain ⟨c,h⟩:=h
 refine ⟨fun i=>if Q i then c i else 0,fun j h1 h2=>?_⟩
 obtain ⟨⟨i,hi,hc⟩,hs⟩:=h j h1 h2
 have hi:=List.mem_filter.1 hi
 refine ⟨⟨i,hi.1,by dsimp only; rw [if_pos hi.2]; exact hc⟩,?_⟩
 rw [← hs,filt (R:=fun i=>(if Q i then c i else 0) == j)]
 intro i _
 cases hq:Q i
 · simp; omega
 · simp
/-- One group more. -/
theorem grp_add {v:Nat→Int} {L:List Nat} {P:Nat→Bool} {k:Nat} (hn:∃ i ∈ L,P i=true) (h0:sm v (L.filter P)=0) (h:Grp v (L.filter fun i=>!P i) k):Grp v L (k+1):=by
 obtain ⟨c,h⟩:=h
 obtain ⟨i0,hi0,hp0⟩:=hn
 refine ⟨fun i=>if P i then k+1 else if c i≤k then c i else 0,fun j h1 h2=>?_⟩
 by_cases hj:j=k+1
 · subst hj
   refine ⟨⟨i0,hi0,by dsimp only; rw [if_pos hp0]⟩,?_⟩
   rw [← h0]
   congr 1
   refine List.filter_congr fun i _=>?_
   dsimp only
   cases hp:P i
   · by_cases hc:c i≤k
     · simp [hc]; omega
     · simp [hc]
   · simp
 · obtain ⟨⟨i,hi,hc⟩,hs⟩:=h j h1 (by omega)
   have hi:=List.mem_filter.1 hi
   have hpi:P i=false:=by simpa using hi.2
   refine ⟨⟨i,hi.1,by dsimp only; rw [hpi,if_neg (by simp),if_pos (by omega)]; exact hc⟩,?_⟩
   rw [← hs,filt (R:=fun i=>(if P i then k+1 else if c i≤k then c i else 0) == j)]
   intro x _
   cases hp:P x
   · by_cases hc:c x≤k
     · simp [hc]
     · have h3:(c x == j)=false:=by simp; omega
       have h4:((0:Nat) == j)=false:=by simp; omega
       rw [h3,if_neg (by simp),if_neg hc,h4,Bool.and_false]
   · have h3:(k+1 == j)=false:=by simp; omega
     rw [if_pos rfl,h3]; rfl
/-- They are together 0: the group of one of them. -/
theorem grp_take {v:Nat→Int} {L:List Nat} {i0 k:Nat} (h0:sm v L=0) (hi:i0 ∈ L) (h:Grp v L (k+1)):∃ P:Nat→Bool,P i0=true∧sm v (L.filter P)=0∧Grp v (L.filter fun i=>!P i) k:=by
 obtain ⟨c,h⟩:=h
 have hlab:=sm_lab (c:=c) (k:=k+1) (L:=L) (v:=v) fun j h1 h2=>(h j h1 h2).2
 have hs:=YQ v (fun i=>decide (1≤c i∧c i≤k+1)) L
 -- those who are in no group go to the first one
 let d:Nat→Nat:=fun i=>if 1≤c i∧c i≤k+1 then c i else 1
 have hd:∀ i,1≤d i∧d i≤k+1:=fun i=>by simp only [d]; split <;> omega
 have hdj:∀ j,1≤j→j≤k+1→(∃ i ∈ L,d i=j)∧sm v (L.filter fun i=>d i == j)=0:=fun j h1 h2=>by
  obtain ⟨⟨i,hi,hc⟩,hz⟩:=h j h1 h2
  refine ⟨⟨i,hi,by show (if 1≤c i∧c i≤k+1 then c i else 1)=j; rw [if_pos (by omega)]; exact hc⟩,?_⟩
  by_cases hj:j=1
  · subst hj
    rw [YQ v (fun i=>decide (1≤c i∧c i≤k+1)),filt (R:=fun i=>c i == 1),filt (R:=fun i=>!decide (1≤c i∧c i≤k+1))]
    · omega
    · intro x _
      by_cases hx:1≤c x∧c x≤k+1
      · simp [hx]
      · simp [d,hx]
    · intro x _
      by_cases hx:1≤c x∧c x≤k+1
      · simp [d,hx]
      · simp only [d,hx,if_false,decide_false,Bool.and_false]
        have:¬ c x=1:=by omega
        simp [this]
  · rw [← hz]
    congr 1
    refine List.filter_congr fun x _=>?_
    by_cases hx:1≤c x∧c x≤k+1
    · simp [d,hx]
    · simp only [d,hx,if_false]
      rw [show (c x == j)=false from by simp; omega,show (1 == j)=false from by simp; omega]
 refine ⟨fun i=>d i == d i0,by simp,(hdj _ (hd i0).1 (hd i0).2).2,fun i=>if d i=k+1 then d i0 else d i,fun j h1 h2=>?_⟩
 by_cases hj:j=d i0
 · obtain ⟨⟨i,hi,hc⟩,hz⟩:=hdj (k+1) (by omega) (by omega)
   refine ⟨⟨i,List.mem_filter.2 ⟨hi,by simp; omega⟩,by dsimp only; rw [if_pos hc]; exact hj.symm⟩,?_⟩
   rw [← hz,filt (R:=fun i=>d i == k+1)]
   intro x _
   show (!(d x == d i0) && (if d x=k+1 then d i0 else d x) == j)=(d x == k+1)
   by_cases hx:d x=k+1
   · have h5:(d x == d i0)=false:=by simp; omega
     have h6:(d i0 == j)=true:=by simp [hj]
     have h7:(d x == k+1)=true:=by simp [hx]
     rw [if_pos hx,h5,h6,h7]; rfl
   · have h7:(d x == k+1)=false:=by simpa using hx
     rw [if_neg hx,h7]
     by_cases hy:d x=d i0
     · have h5:(d x == d i0)=true:=by simp [hy]
       rw [h5]; rfl
     · have h5:(d x == j)=false:=by simp; omega
       rw [h5,Bool.and_false]
 · obtain ⟨⟨i,hi,hc⟩,hz⟩:=hdj j h1 (by omega)
   refine ⟨⟨i,List.mem_filter.2 ⟨hi,by simp; omega⟩,by dsimp only; rw [if_neg (by omega)]; exact hc⟩,?_⟩
   rw [← hz,filt (R:=fun i=>d i == j)]
   intro x _
   show (!(d x == d i0) && (if d x=k+1 then d i0 else d x) == j)=(d x == j)
   by_cases hx:d x=k+1
   · have h3:(d i0 == j)=false:=by simp; omega
     have h4:(d x == j)=false:=by simp; omega
     rw [if_pos hx,h3,h4,Bool.and_false]
   · rw [if_neg hx]
     by_cases hy:d x=j
     · have h5:(d x == d i0)=false:=by simp; omega
       rw [h5]; rfl
     · have h5:(d x == j)=false:=by simpa using hy
       rw [h5,Bool.and_false]
end Go.Proofs.Ytmdbebbibecidaa
namespace Go.Proofs.Ytmdbebbibecidaa
open Go Ax
open Go.Proofs
theorem row_oneW {α:Type} (c:α→AV):∀ {l:List α} {i:Nat} {e:α},l[i]?=some e→(l.flatMap fun x=>[c x])[i]?=some (c e)
 | [],i,e,h=>by simp at h
 | x :: l,0,e,h=>by simp at h; subst h; rfl
 | x :: l,i+1,e,h=>by
  have:=row_oneW c (l:=l) (i:=i) (e:=e) (by simpa using h)
  simpa using this
theorem rowOne_take {α:Type} (c:α→AV) {l:List α} {i:Nat}:(l.flatMap fun x=>[c x]).take i=(l.take i).flatMap fun x=>[c x]:=by
 induction l generalizing i with
 | nil=>simp
 | cons x l ih =>
  cases i with
  | zero=>simp
  | succ i=>simp only [List.flatMap_cons,List.cons_append,List.nil_append,List.take_succ_cons,ih]
def cKnE1 (e:Int × Int):AV:=.clos 0 [.int .i64 e.1] [.int .i64 e.2]
def cKnE (e:Int × Int):List AV:=[cKnE1 e]
def Qm (l:List (Int × Int)):List AV:=l.flatMap cKnE
theorem key_kn (a b:Int):qx Try.prog 3 (.int .i64 a) (.int .i64 b)=some (a == b):=by
 have h1:Try.prog.underlying 3=some (.int .i64):=by kernel_rfl
 simp [qx,h1]
def XC (l:List (Int × Int)) (k:Int):Bool:=l.any fun e=>k == e.1
theorem knNew {l:List (Int × Int)} {k:Int} (hh:XC l k=false):Vy Try.prog 3 (.int .i64 k) (Qm l):=by
 intro c hc
 obtain ⟨e,he,hc⟩:=List.mem_flatMap.1 hc
 simp only [cKnE,List.mem_singleton] at hc
 subst hc
 refine ⟨_,_,rfl,?_⟩
 rw [key_kn]
 have:=List.any_eq_false.1 hh e he
 simpa using this
def KnAt (l:List (Int × Int)) (k:Int) (i:Nat) (e:Int × Int):Prop:=l[i]?=some e∧k=e.1∧XC (l.take i) k=false
theorem knAt {l:List (Int × Int)} {k:Int} {i:Nat} {e:Int × Int} (hh:KnAt l k i e):KeyAt Try.prog 3 (.int .i64 k) (Qm l) i (.int .i64 e.2):=by
 obtain ⟨h1,h2,h3⟩:=hh
 refine ⟨_,row_oneW cKnE1 h1,?_,?_⟩
 · rw [key_kn,h2]; simp
 · rw [show (Qm l).take i=Qm (l.take i) from rowOne_take cKnE1]; exact knNew h3
theorem knFind {k:Int}:∀ {l:List (Int × Int)},XC l k=true→∃ i e,KnAt l k i e
 | [],h=>by simp [XC] at h
 | e :: l,h=>by
  by_cases he:k=e.1
  · exact ⟨0,e,rfl,he,rfl⟩
  · have h2:XC l k=true:=by
     unfold XC at h ⊢
     rw [List.any_cons,Bool.or_eq_true] at h
     rcases h with h | h
     · exact absurd (by simpa using h) he
     · exact h
    obtain ⟨i,x,h3,h4,h5⟩:=knFind h2
    refine ⟨i+1,x,by simpa using h3,h4,?_⟩
    unfold XC at h5 ⊢
    rw [List.take_succ_cons,List.any_cons,h5]
    simpa using he
/-! ### how many groups -/
def mostF (b:List Int):Nat→Nat→Int
 | 0,_=>0
 | f+1,S=>if S=0 then 0 else (Qw b S).foldl (fun a x=>iMax a (1+mostF b f (without S x))) 0
/-- Into how many groups a set falls at the most,as the program finds it. -/
def Xd (b:List Int) (S:Nat):Int:=mostF b (S+1) S
theorem Xa {b:List Int} {S x:Nat} (h:x ∈ Qw b S):x &&& S=x∧0<x∧lowP S x=true∧totN b x=0:=by
 unfold Qw YE at h
 rw [List.mem_reverse,List.mem_filter] at h
 have h:=h.2
 unfold VI at h
 simp only [Bool.and_eq_true,beq_iff_eq,decide_eq_true_eq] at h
 exact ⟨h.1,h.2.1,h.2.2.1,h.2.2.2⟩
theorem WM {b:List Int} {S x:Nat} (h1:x &&& S=x) (h2:0<x) (h3:lowP S x=true) (h4:totN b x=0):x ∈ Qw b S:=by
 unfold Qw YE
 rw [List.mem_reverse,List.mem_filter]
 have:=@Nat.and_le_right x S
 exact ⟨List.mem_range.2 (by omega),by unfold VI; simp [h1,h2,h3,h4]⟩
theorem add_or:∀ (a b:Nat),a &&& b=0→a+b=a ||| b:=by
 intro a
 induction a using Nat.strongRecOn with
 | ind a ih =>
  intro b h
  by_cases ha:a=0
  · subst ha; rw [Nat.zero_or]; omega
  have d1:(a &&& b) / 2=a / 2 &&& b / 2:=Nat.and_div_two
  have d2:(a ||| b) / 2=a / 2 ||| b / 2:=Nat.or_div_two
  have m1:=@Nat.and_mod_two_eq_one a b
  have m2:=@Nat.or_mod_two_eq_one a b
  have:=ih (a / 2) (by omega) (b / 2) (by rw [← d1,h])
  rw [h] at m1
  omega
theorem QK {S x:Nat} (h:x &&& S=x):without S x+x=S:=by
 have hb:∀ i,(x.testBit i && S.testBit i)=x.testBit i:=fun i=>by rw [← Nat.testBit_and,h]
 have e:without S x &&& x=0:=by
  refine Nat.eq_of_testBit_eq fun i=>?_
  rw [Nat.testBit_and,Xe,Nat.zero_testBit]
  cases x.testBit i <;> simp
 rw [add_or _ _ e]
 refine Nat.eq_of_testBit_eq fun i=>?_
 have:=hb i
 rw [Nat.testBit_or,Xe]
 cases hx:x.testBit i <;> cases hs:S.testBit i <;> simp_all
theorem WZ {α β:Type} {f g:α→β→α}:∀ {l:List β} {a:α},(∀ x ∈ l,∀ a,f a x=g a x)→l.foldl f a=l.foldl g a
 | [],_,_=>rfl
 | x :: l,a,h=>by rw [List.foldl_cons,List.foldl_cons,h x (by simp),WZ fun y hy=>h y (by simp [hy])]
theorem yw {b:List Int}:∀ {f S:Nat},S<f→mostF b f S=Xd b S
 | 0,S,h=>by omega
 | f+1,S,h=>by
  rw [Xd,mostF,mostF]
  split
  · rfl
  · refine WZ fun x hx a=>?_
    have hp:=Xa hx
    have hs:=QK hp.1
    rw [yw (f:=f) (S:=without S x) (by omega),yw (f:=S) (S:=without S x) (by omega)]
theorem Wr {b:List Int} {S:Nat} (h0:S ≠ 0):Xd b S=(Qw b S).foldl (fun a x=>iMax a (1+Xd b (without S x))) 0:=by
 rw [Xd,mostF,if_neg h0]
 refine WZ fun x hx a=>?_
 have hp:=Xa hx
 have hs:=QK hp.1
 rw [yw (by omega)]
theorem VL {b:List Int}:Xd b 0=0:=rfl
theorem Wt {v:Nat→Int}:∀ {l:List Nat} {a:Int},a≤l.foldl (fun a x=>iMax a (v x)) a∧(∀ x ∈ l,v x≤l.foldl (fun a x=>iMax a (v x)) a)∧(l.foldl (fun a x=>iMax a (v x)) a=a ∨ ∃ x ∈ l,l.foldl (fun a x=>iMax a (v x)) a=v x)
 | [],a=>⟨Int.le_refl _,fun x hx=>by simp at hx,.inl rfl⟩
 | x :: l,a=>by
  obtain ⟨h1,h2,h3⟩:=Wt (v:=v) (l:=l) (a:=iMax a (v x))
  rw [List.foldl_cons]
  have hm:a≤iMax a (v x)∧v x≤iMax a (v x)∧(iMax a (v x)=a ∨ iMax a (v x)=v x):=by unfold iMax; split <;> omega
  refine ⟨by omega,fun y hy=>?_,?_⟩
  · rcases List.mem_cons.1 hy with rfl | hy
    · omega
    · exact h2 y hy
  · rcases h3 with h3 | ⟨y,hy,h3⟩
    · rcases hm.2.2 with h4 | h4
      · exact .inl (by omega)
      · exact .inr ⟨x,by simp,by omega⟩
    · exact .inr ⟨y,by simp [hy],h3⟩
theorem YS {b:List Int}:∀ (S:Nat),0≤Xd b S∧Xd b S≤(S:Int):=by
 intro S
 induction S using Nat.strongRecOn with
 | ind S ih =>
  by_cases h0:S=0
  · subst h0; rw [VL]; omega
  · rw [Wr h0]
    obtain ⟨h1,h2,h3⟩:=Wt (v:=fun x=>1+Xd b (without S x)) (l:=Qw b S) (a:=0)
    refine ⟨h1,?_⟩
    rcases h3 with h3 | ⟨x,hx,h3⟩
    · rw [h3]; omega
    · have hp:=Xa hx
      have hs:=QK hp.1
      have:=ih (without S x) (by omega)
      rw [h3]; omega
/-- What is known behind a call. -/
def mapF (b:List Int):Nat→Nat→List (Int × Int)→List (Int × Int)
 | 0,_,m=>m
 | f+1,S,m=>if S=0 then m else if XC m (S:Int)=true then m else (Qw b S).foldl (fun m x=>mapF b f (without S x) m) m++[((S:Int),Xd b S)]
def Qp (b:List Int) (f S:Nat) (m:List (Int × Int)):Int × List (Int × Int):=(Xd b S,mapF b f S m)
def KInv (b:List Int) (m:List (Int × Int)):Prop:=∀ e ∈ m,∃ S:Nat,e.1=(S:Int)∧e.2=Xd b S
theorem knHas_app {l:List (Int × Int)} {e:Int × Int} {k:Int}:XC (l++[e]) k=(XC l k || k == e.1):=by
 unfold XC; rw [List.any_append]; simp
theorem WP {b:List Int}:∀ {f S:Nat} {m:List (Int × Int)},S<f→KInv b m→KInv b (mapF b f S m)∧∀ k,XC (mapF b f S m) k=true→XC m k=true ∨ k≤(S:Int)
 | 0,S,m,h,_=>by omega
 | f+1,S,m,h,hm=>by
  rw [mapF]
  split
  · exact ⟨hm,fun k hk=>.inl hk⟩
  split
  · exact ⟨hm,fun k hk=>.inl hk⟩
  have fold:∀ (l:List Nat) (m':List (Int × Int)),(∀ x ∈ l,x ∈ Qw b S)→KInv b m'→(∀ k,XC m' k=true→XC m k=true ∨ k≤(S:Int)) →
   KInv b (l.foldl (fun m x=>mapF b f (without S x) m) m')∧∀ k,XC (l.foldl (fun m x=>mapF b f (without S x) m) m') k=true→XC m k=true ∨ k≤(S:Int):=by
   intro l
   induction l with
   | nil=>intro m' _ h1 h2; exact ⟨h1,h2⟩
   | cons x l ih =>
    intro m' hl h1 h2
    have hp:=Xa (hl x (by simp))
    have hs:=QK hp.1
    obtain ⟨q1,q2⟩:=WP (f:=f) (S:=without S x) (m:=m') (by omega) h1
    rw [List.foldl_cons]
    refine ih _ (fun y hy=>hl y (by simp [hy])) q1 fun k hk=>?_
    rcases q2 k hk with h3 | h3
    · exact h2 k h3
    · right; omega
  obtain ⟨q1,q2⟩:=fold (Qw b S) m (fun _ h=>h) hm fun k hk=>.inl hk
  refine ⟨fun e he=>?_,fun k hk=>?_⟩
  · rcases List.mem_append.1 he with he | he
    · exact q1 e he
    · rw [List.mem_singleton] at he; subst he; exact ⟨S,rfl,rfl⟩
  · rw [knHas_app,Bool.or_eq_true] at hk
    rcases hk with hk | hk
    · exact q2 k hk
    · right; have:=eq_of_beq hk; simp only at this; omega
theorem mapF_fold {b:List Int} {f S:Nat} {m:List (Int × Int)} (h:S<f+1) (hm:KInv b m) (hn:XC m (S:Int)=false):∀ (l:List Nat),(∀ x ∈ l,x ∈ Qw b S) →
 KInv b (l.foldl (fun m x=>mapF b f (without S x) m) m)∧XC (l.foldl (fun m x=>mapF b f (without S x) m) m) (S:Int)=false:=by
 have fold:∀ (l:List Nat) (m':List (Int × Int)),(∀ x ∈ l,x ∈ Qw b S)→KInv b m'→XC m' (S:Int)=false →
  KInv b (l.foldl (fun m x=>mapF b f (without S x) m) m')∧XC (l.foldl (fun m x=>mapF b f (without S x) m) m') (S:Int)=false:=by
  intro l
  induction l with
  | nil=>intro m' _ h1 h2; exact ⟨h1,h2⟩
  | cons x l ih =>
   intro m' hl h1 h2
   have hp:=Xa (hl x (by simp))
   have hs:=QK hp.1
   obtain ⟨q1,q2⟩:=WP (f:=f) (S:=without S x) (m:=m') (by omega) h1
   rw [List.foldl_cons]
   refine ih _ (fun y hy=>hl y (by simp [hy])) q1 ?_
   cases hk:XC (mapF b f (without S x) m') (S:Int) with
   | false=>rfl
   | true =>
    rcases q2 _ hk with h3 | h3
    · rw [h2] at h3; cases h3
    · omega
 intro l hl
 exact fold l m hl hm hn
theorem YO {b:List Int} {S x:Nat} (h:Yq b (S:Int)):Yq b ((without S x:Nat):Int):=by
 obtain ⟨S',h1,h2,h3,h4⟩:=h
 have:S=S':=by omega
 subst this
 exact ⟨_,rfl,qE h2,h3,h4⟩
theorem part_in {b:List Int} {S x:Nat} (h:Yq b (S:Int)) (hx:x ∈ Qw b S):Yq b (x:Int):=by
 obtain ⟨S',h1,h2,h3,h4⟩:=h
 have:S=S':=by omega
 subst this
 have hp:=Xa hx
 have:=QK hp.1
 exact ⟨_,rfl,by omega,h3,h4⟩
theorem yC {α β γ:Type} {f:α→γ→α} {g:β→γ→β}:∀ {l:List γ} {a:α} {b:β},(l.foldl (fun s x=>(f s.1 x,g s.2 x)) (a,b)).1=l.foldl f a
 | [],_,_=>rfl
 | x :: l,a,b=>by rw [List.foldl_cons,List.foldl_cons]; exact yC
theorem fold_snd {α β γ:Type} {f:α→γ→α} {g:β→γ→β}:∀ {l:List γ} {a:α} {b:β},(l.foldl (fun s x=>(f s.1 x,g s.2 x)) (a,b)).2=l.foldl g b
 | [],_,_=>rfl
 | x :: l,a,b=>by rw [List.foldl_cons,List.foldl_cons]; exact fold_snd
/-- The call of 'many' gives what is said. -/
def Yf (b:List Int) (f:Nat) (st:Int) (m:List (Int × Int)):Prop :=
 Lent Try.prog 72 [.pm [.rsl (rowI b) 0 b.length] 0 0 0,.int .i64 st] [⟨true,0,0,true,Qm m,false⟩] (.int .i64 (Qp b f (Int.toNat st) m).1) [⟨true,0,0,true,Qm (Qp b f (Int.toNat st) m).2,false⟩]
theorem Yf.lent {b:List Int} {f:Nat} {st:Int} {m:List (Int × Int)} (h:Yf b f st m) :
 Lent Try.prog 72 [.pm [.rsl (rowI b) 0 b.length] 0 0 0,.int .i64 st] [⟨true,0,0,true,Qm m,false⟩] (.int .i64 (Qp b f (Int.toNat st) m).1) [⟨true,0,0,true,Qm (Qp b f (Int.toNat st) m).2,false⟩]:=h
theorem f72b:Try.f72.body=some (Qa Try.prog 72):=by kernel_rfl
def Vu (P:Program):List Item:=kAt 400 [.code (Qa P 72)] [.b false,.b false]
def Yx (set:Int) (b:List Int) (m:List (Int × Int)) (f:Nat) (s:List (Int × Int) × Int):St:=⟨([J,J,.ptr 1 0 0,.ptr 2 0 0,J,J,J,.ptr 3 0 0]++jj 16 ([.clos 77 [] [.rptr [.int .i64 set] 0,.rptr [.rptr [.rsl (rowI b) 0 b.length] 0] 0]]++Js 16)),[⟨true,0,0,true,(Qm s.1),false⟩,⟨true,0,1,false,[.pm [.rsl (rowI b) 0 b.length] 0 0 0],false⟩,⟨true,0,1,true,[.int .i64 set],false⟩,⟨true,0,1,true,[.int .i64 s.2],false⟩]⟩
def f72Gr0 (E:Env) (set:Int) (b:List Int) (m:List (Int × Int)) (f:Nat) (s:List (Int × Int) × Int):Prop:=G Try.prog E (Vu Try.prog) (Yx set b m f s)
def f72Tr0 (set:Int) (b:List Int) (m:List (Int × Int)) (f:Nat) (s:List (Int × Int) × Int) (x:Nat):St:=⟨([J,J,.ptr 1 0 0,.ptr 2 0 0,J,J,J,.ptr 3 0 0,.int .i64 (x:Int)]++jj 15 ([.clos 77 [] [.rptr [.int .i64 set] 0,.rptr [.rptr [.rsl (rowI b) 0 b.length] 0] 0],.int .i64 (x:Int)]++Js 15)),[⟨true,0,0,true,(Qm s.1),false⟩,⟨true,0,1,false,[.pm [.rsl (rowI b) 0 b.length] 0 0 0],false⟩,⟨true,0,1,true,[.int .i64 set],false⟩,⟨true,0,1,true,[.int .i64 s.2],false⟩]⟩
theorem p72_start_0 (set:Int) (b:List Int) (m:List (Int × Int)) (f:Nat) {E:Env} {res:AV} {bs2:List Blk} (hE:LentE Try.prog 72 [.pm [.rsl (rowI b) 0 b.length] 0 0 0] res bs2 E) (ho:AllP [(set == 0)=true])
 (hr:(.int .i64 0)=res) (hb:[⟨true,0,0,true,(Qm m),false⟩]=bs2):G Try.prog E [.code (Qa Try.prog 72)] ⟨[.pm [.rsl (rowI b) 0 b.length] 0 0 0,.int .i64 set]++unds (Try.f72.ntmps - 2),[⟨true,0,0,true,(Qm m),false⟩]⟩ :=
 Xo (n:=400) (live:=[4]) (m:=1) (evs:=[.b true]) (obs:=_) hE (by rw [hE.gA]; kernel_rfl) Try.func72 Qg (by kernel_rfl) ho hr hb
theorem p72_start_1 (set:Int) (b:List Int) (m:List (Int × Int)) (f:Nat) (mi:Nat) (me:(Int × Int)) {E:Env} {res:AV} {bs2:List Blk} (hE:LentE Try.prog 72 [.pm [.rsl (rowI b) 0 b.length] 0 0 0] res bs2 E) (ho:AllP [(set == 0)=false,KeyAt Try.prog 3 (.int .i64 set) (Qm m) mi (.int .i64 me.2),true=true])
 (hr:(.int .i64 me.2)=res) (hb:[⟨true,0,0,true,(Qm m),false⟩]=bs2):G Try.prog E [.code (Qa Try.prog 72)] ⟨[.pm [.rsl (rowI b) 0 b.length] 0 0 0,.int .i64 set]++unds (Try.f72.ntmps - 2),[⟨true,0,0,true,(Qm m),false⟩]⟩ :=
 Xo (n:=400) (live:=[4]) (m:=1) (evs:=[.b false,.mfound mi (.int .i64 me.2),.b true]) (obs:=_) hE (by rw [hE.gA]; kernel_rfl) Try.func72 Qg (by kernel_rfl) ho hr hb
theorem p72_start_2 (set:Int) (b:List Int) (m:List (Int × Int)) (f:Nat) {E:Env} {rv:AV} {bs2:List Blk} (hE:LentE Try.prog 72 [.pm [.rsl (rowI b) 0 b.length] 0 0 0] rv bs2 E) (ho:AllP [(set == 0)=false,Vy Try.prog 3 (.int .i64 set) (Qm m),false=false,1≤1,Qf Try.prog (.clos 71 [] []) [.rptr [.rsl (rowI b) 0 b.length] 0,.int .i64 set] (.clos 77 [] [.rptr [.int .i64 set] 0,.rptr [.rptr [.rsl (rowI b) 0 b.length] 0] 0])])
 (hg:G Try.prog E (Vu Try.prog) ⟨([J,J,.ptr 1 0 0,.ptr 2 0 0,J,J,J,.ptr 3 0 0]++jj 16 ([.clos 77 [] [.rptr [.int .i64 set] 0,.rptr [.rptr [.rsl (rowI b) 0 b.length] 0] 0]]++Js 16)),[⟨true,0,0,true,(Qm m),false⟩,⟨true,0,1,false,[.pm [.rsl (rowI b) 0 b.length] 0 0 0],false⟩,⟨true,0,1,true,[.int .i64 set],false⟩,⟨true,0,1,true,[.int .i64 0],false⟩]⟩):G Try.prog E [.code (Qa Try.prog 72)] ⟨[.pm [.rsl (rowI b) 0 b.length] 0 0 0,.int .i64 set]++unds (Try.f72.ntmps - 2),[⟨true,0,0,true,(Qm m),false⟩]⟩ :=
 Qe (n:=400) (ds:=[]) (cs:=[]) (live:=[2,3,7,24]) (m:=4) (evs:=[.b false,.mnone,.b false,.v (.clos 77 [] [.rptr [.int .i64 set] 0,.rptr [.rptr [.rsl (rowI b) 0 b.length] 0] 0])]) (obs:=_) hE.kind (by rw [hE.gA]; kernel_rfl) Qg (by kernel_rfl) ho hg
theorem f72W (set:Int) (b:List Int) (m:List (Int × Int)) (f:Nat) {E:Env} {rv:Int} {m2:List (Int × Int)} (hE:LentE Try.prog 72 [.pm [.rsl (rowI b) 0 b.length] 0 0 0] (.int .i64 rv) [⟨true,0,0,true,(Qm m2),false⟩] E)
 (h:((set=0→rv=0∧m2=m)∧(¬ (set=0)→(((XC m set)=true→(∃ mi:Nat,True∧(∃ me:(Int × Int),KnAt m set mi me∧rv=me.2∧m2=m)))∧((XC m set)=false→f72Gr0 E set b m f (m,0)))))):G Try.prog E [.code (Qa Try.prog 72)] ⟨[.pm [.rsl (rowI b) 0 b.length] 0 0 0,.int .i64 set]++unds (Try.f72.ntmps - 2),[⟨true,0,0,true,(Qm m),false⟩]⟩:=by
 rcases bft (set == 0) with hc0 | hc0
 · have h:=h.1 (eq_of_beq hc0)
   obtain ⟨qe0,qe1⟩:=h
   exact p72_start_0 set b m f hE ⟨hc0,trivial⟩ (by rw [qe0]; try rfl) (by rw [qe1]; all_goals (first | rfl | (simp only [List.length_set]; done) | (simp only [List.length_set]; rfl) | (simp only [List.length_set,List.length_replicate]; done)))
 · have h:=h.2 (ne_of_beq_false hc0)
   rcases bft (XC m set) with hc1 | hc1
   · have h:=h.1 hc1
     obtain ⟨mi,h1,h⟩:=h
     obtain ⟨me,h2,h⟩:=h
     obtain ⟨qe0,qe1⟩:=h
     exact p72_start_1 set b m f mi me hE ⟨hc0,(knAt h2),rfl,trivial⟩ (by rw [qe0]; try rfl) (by rw [qe1]; all_goals (first | rfl | (simp only [List.length_set]; done) | (simp only [List.length_set]; rfl) | (simp only [List.length_set,List.length_replicate]; done)))
   · have h:=h.2 hc1
     exact p72_start_2 set b m f hE ⟨hc0,(knNew hc1),rfl,(by decide),(u71 (parts_ok b set)),trivial⟩ h
theorem p72_r0e_0 (set:Int) (b:List Int) (m:List (Int × Int)) (f:Nat) (s:List (Int × Int) × Int) {E:Env} {res:AV} {bs2:List Blk} (hE:LentE Try.prog 72 [.pm [.rsl (rowI b) 0 b.length] 0 0 0] res bs2 E) (ho:AllP [Vy Try.prog 3 (.int .i64 set) (Qm s.1)])
 (hr:(.int .i64 s.2)=res) (hb:[⟨true,0,0,true,((Qm s.1)++[.clos 0 [.int .i64 set] [.int .i64 s.2]]),false⟩]=bs2):G Try.prog E (Vd (Vu Try.prog)) (Yx set b m f s) :=
 Xo (n:=400) (live:=[4]) (m:=1) (evs:=[]) (obs:=_) hE (by rw [hE.gA]; kernel_rfl) Try.func72 Qg (by kernel_rfl) ho hr hb
theorem f72Wr0e (set:Int) (b:List Int) (m:List (Int × Int)) (f:Nat) (s:List (Int × Int) × Int) {E:Env} {rv:Int} {m2:List (Int × Int)} (hE:LentE Try.prog 72 [.pm [.rsl (rowI b) 0 b.length] 0 0 0] (.int .i64 rv) [⟨true,0,0,true,(Qm m2),false⟩] E)
 (h:((XC s.1 set)=false∧rv=s.2∧m2=(s.1++[(set,s.2)]))):G Try.prog E (Vd (Vu Try.prog)) (Yx set b m f s):=by
 obtain ⟨h1,h⟩:=h
 obtain ⟨qe0,qe1⟩:=h
 exact p72_r0e_0 set b m f s hE ⟨(knNew h1),trivial⟩ (by rw [qe0]; try rfl) (by rw [qe1]; rw [(show Qm s.1++[.clos 0 [.int .i64 set] [.int .i64 s.2]]=Qm (s.1++[(set,s.2)]) from (Wz cKnE s.1 [(set,s.2)]).symm)]; all_goals (first | rfl | (simp only [List.length_set]; done) | (simp only [List.length_set]; rfl) | (simp only [List.length_set,List.length_replicate]; done)))
theorem f72Ar0 (set:Int) (b:List Int) (m:List (Int × Int)) (f:Nat) (s:List (Int × Int) × Int) (x:Nat) {E:Env} (hE:RoundE ((Yx set b m f s).tmps++[.pm [.rsl (rowI b) 0 b.length] 0 0 0]) E) (hg:G Try.prog E [.beginRound,.code (XP (Vu Try.prog))] (f72Tr0 set b m f s x)):G Try.prog E [.code (Wp (Vu Try.prog)),.beginRound,.code (XP (Vu Try.prog))] ⟨Wh (Yx set b m f s).tmps [25] (argS x),(Yx set b m f s).blks⟩ :=
 Qe (n:=400) (ds:=[]) (cs:=[]) (live:=[0,1,2,3,4,5,6,7,8,9,10,11,12,13,14,15,16,17,18,19,20,21,22,23,24,25,26,27,28,29,30,31,32,33,34,35,36,37,38,39,40]) (m:=4) (evs:=[]) (obs:=[]) hE.kind (by rw [hE.gA]; kernel_rfl) Qg (by kernel_rfl) trivial hg
theorem f72Br0_0 (set:Int) (b:List Int) (m:List (Int × Int)) (f:Nat) (s:List (Int × Int) × Int) (x:Nat) {E:Env} (hE:RoundE ((Yx set b m f s).tmps++[.pm [.rsl (rowI b) 0 b.length] 0 0 0]) E) (ho:AllP [PureU Try.prog (.clos 72 [] []) [.pm [.rsl (rowI b) 0 b.length] 0 0 0,.int .i64 (bits .andNot .i64 set (x:Int))] 0 ⟨true,0,0,true,(Qm s.1),false⟩ ⟨true,0,0,true,(Qm (Qp b f (Int.toNat (bits .andNot .i64 set (x:Int))) s.1).2),false⟩ (.int .i64 ((Qp b f (Int.toNat (bits .andNot .i64 set (x:Int))) s.1).1)),InR .i64 (1+(Qp b f (Int.toNat (bits .andNot .i64 set (x:Int))) s.1).1),1≤1])
 (hg:G Try.prog E [] ⟨(Js 41),[⟨true,0,0,true,(Qm (Qp b f (Int.toNat (bits .andNot .i64 set (x:Int))) s.1).2),false⟩,⟨true,0,1,false,[.pm [.rsl (rowI b) 0 b.length] 0 0 0],false⟩,⟨true,0,1,true,[.int .i64 set],false⟩,⟨true,0,1,true,[.int .i64 (iMax s.2 (1+(Qp b f (Int.toNat (bits .andNot .i64 set (x:Int))) s.1).1))],false⟩]⟩):G Try.prog E [.code (XP (Vu Try.prog))] (f72Tr0 set b m f s x) :=
 Qe (n:=400) (ds:=[]) (cs:=[]) (live:=[]) (m:=4) (evs:=[.lent [0] (.int .i64 ((Qp b f (Int.toNat (bits .andNot .i64 set (x:Int))) s.1).1)) [⟨true,0,0,true,(Qm (Qp b f (Int.toNat (bits .andNot .i64 set (x:Int))) s.1).2),false⟩]]) (obs:=_) hE.kind (by rw [hE.gA]; kernel_rfl) Qg (by kernel_rfl) ho hg
theorem f72Br0 (set:Int) (b:List Int) (m:List (Int × Int)) (f:Nat) (s:List (Int × Int) × Int) (x:Nat) {rq:(List (Int × Int) × Int) × Bool} {E:Env} (hE:RoundE ((Yx set b m f s).tmps++[.pm [.rsl (rowI b) 0 b.length] 0 0 0]) E) (hQ:yd (fun s=>(Yx set b m f s).blks) (.ret) rq E)
 (h:((Yf b f (bits .andNot .i64 set (x:Int)) s.1)∧((I6 (1+(Qp b f (Int.toNat (bits .andNot .i64 set (x:Int))) s.1).1))∧rq=(((Qp b f (Int.toNat (bits .andNot .i64 set (x:Int))) s.1).2,(iMax s.2 (1+(Qp b f (Int.toNat (bits .andNot .i64 set (x:Int))) s.1).1))),true)))):G Try.prog E [.code (XP (Vu Try.prog))] (f72Tr0 set b m f s x):=by
 obtain ⟨h1,h⟩:=h
 obtain ⟨q1_0,h⟩:=h
 exact f72Br0_0 set b m f s x hE ⟨(Xv (Xj Try.func72 (by kernel_rfl) f72b (Yf.lent h1)) rfl rfl rfl rfl rfl rfl),q1_0,(by decide),trivial⟩ (round_go hQ h rfl)
theorem f72Rr0 (set:Int) (b:List Int) (m:List (Int × Int)) (f:Nat) (s0:List (Int × Int) × Int) {E:Env} {rv:Int} {m2:List (Int × Int)} (hE:LentE Try.prog 72 [.pm [.rsl (rowI b) 0 b.length] 0 0 0] (.int .i64 rv) [⟨true,0,0,true,(Qm m2),false⟩] E) (step:(List (Int × Int) × Int)→(Nat)→(List (Int × Int) × Int))
 (h:Yq b set∧(∀ (i:Nat) (x:Nat) (s:List (Int × Int) × Int),(Qw b (Int.toNat set))[i]?=some x→s=((Qw b (Int.toNat set)).take i).foldl step s0→((Yf b f (bits .andNot .i64 set (x:Int)) s.1)∧((I6 (1+(Qp b f (Int.toNat (bits .andNot .i64 set (x:Int))) s.1).1))∧step s x=((Qp b f (Int.toNat (bits .andNot .i64 set (x:Int))) s.1).2,(iMax s.2 (1+(Qp b f (Int.toNat (bits .andNot .i64 set (x:Int))) s.1).1))))))∧(∀ s:List (Int × Int) × Int,s=(Qw b (Int.toNat set)).foldl step s0→((XC s.1 set)=false∧rv=s.2∧m2=(s.1++[(set,s.2)])))):f72Gr0 E set b m f s0:=by
 have hT:(Yx set b m f s0).tmps++E.gA=(Yx set b m f s0).tmps++[.pm [.rsl (rowI b) 0 b.length] 0 0 0]:=by rw [hE.gA]
 refine qK (σ:=List (Int × Int) × Int) (X:=Nat) (arg:=argS) (L:=(Qw b (Int.toNat set))) (jump:=.ret) (g:=.tmp 24) (ps:=#[25]) (fun s=>(Yx set b m f s).blks) (fun s x=>(f72Tr0 set b m f s x)) (fun s x=>(step s x,true)) s0 hE.ro hE.kind (by kernel_rfl) rfl rfl (parts_it b set h.1) rfl (fun x=>rfl) (fun s x E' hR hg=>?_) (fun i x s hx hs E' hR hQ=>?_) (fun s hs=>?_) (fun s hs=>?_)
 · rw [hT] at hR; exact f72Ar0 set b m f s x hR hg
 · rw [hT] at hR; rw [Ys] at hs; simp only [Prod.mk.injEq,and_true] at hs; refine f72Br0 set b m f s x hR hQ ?_
   have h:=h.2.1 i x s hx hs.symm
   simpa only [Prod.mk.injEq,and_true] using h
 · rw [Ys] at hs; simp only [Prod.mk.injEq,and_true] at hs; exact f72Wr0e set b m f s hE (h.2.2 s hs.symm)
 · rw [Ys] at hs; simp at hs
theorem many_ok (b:List Int):∀ (f:Nat) (S:Nat) (m:List (Int × Int)),S<f→Yq b (S:Int)→KInv b m→Yf b f (S:Int) m
 | 0,S,m,h,_,_=>by omega
 | f+1,S,m,h,hin,hm=>by
  unfold Yf
  rw [Int.toNat_natCast]
  refine lent_ofA (.pm [.rsl (rowI b) 0 b.length] 0 0 0) 0 rfl (fun n h=>by simp [refsBelows,Qx] at h; exact h) Try.func72 f72b fun E hE=>?_
  refine f72W (S:Int) b m f (rv:=(Qp b (f+1) S m).1) (m2:=(Qp b (f+1) S m).2) hE ⟨fun h0=>?_,fun h0=>⟨fun hk=>?_,fun hk=>?_⟩⟩
  · have:S=0:=by omega
    subst this
    exact ⟨rfl,rfl⟩
  · obtain ⟨i,e,he⟩:=knFind hk
    refine ⟨i,trivial,e,he,?_,?_⟩
    · obtain ⟨S',h1,h2⟩:=hm e (List.mem_of_getElem? he.1)
      have:S=S':=by have:=he.2.1; omega
      subst this
      exact h2.symm
    · show mapF b (f+1) S m=m
      rw [mapF,if_neg (by omega),if_pos hk]
  · have hS0:S ≠ 0:=by omega
    have hmb:=YS (b:=b)
    have ean:∀ x:Nat,x<1024→bits .andNot .i64 (S:Int) (x:Int)=((without S x:Nat):Int):=fun x hx=>by
     obtain ⟨S',h1,h2,h3,h4⟩:=hin
     have:=Vb h3 h2
     exact yb (by omega) (by omega)
    refine f72Rr0 (S:Int) b m f (m,0) (rv:=(Qp b (f+1) S m).1) (m2:=(Qp b (f+1) S m).2) hE (fun s x=>(mapF b f (without S x) s.1,iMax s.2 (1+Xd b (without S x)))) ⟨hin,fun i x s hx hs=>?_,fun s hs=>?_⟩
    · rw [Int.toNat_natCast] at hx hs
      have hxm:=List.mem_of_getElem? hx
      have hp:=Xa hxm
      have hw:=QK hp.1
      obtain ⟨x',h1,h2,h3,h4⟩:=part_in hin hxm
      have hx':=Vb h3 h2
      have e1:s.1=((Qw b S).take i).foldl (fun m x=>mapF b f (without S x) m) m:=by
       rw [hs]; exact yC (f:=fun m x=>mapF b f (without S x) m) (g:=fun a x=>iMax a (1+Xd b (without S x)))
      obtain ⟨q1,q2⟩:=mapF_fold (f:=f) h hm hk ((Qw b S).take i) (fun y hy=>List.mem_of_mem_take hy)
      rw [← e1] at q1
      rw [ean x (by omega),Int.toNat_natCast]
      have hb:=hmb (without S x)
      obtain ⟨S',g1,g2,g3,g4⟩:=hin
      have gS:=Vb g3 g2
      exact ⟨many_ok b f (without S x) s.1 (by omega) (YO ⟨S',g1,g2,g3,g4⟩) q1,by show _≤1+Xd b (without S x)∧1+Xd b (without S x)≤_; omega,rfl⟩
    · rw [Int.toNat_natCast] at hs
      have e1:s.1=(Qw b S).foldl (fun m x=>mapF b f (without S x) m) m:=by
       rw [hs]; exact yC (f:=fun m x=>mapF b f (without S x) m) (g:=fun a x=>iMax a (1+Xd b (without S x)))
      have e2:s.2=Xd b S:=by
       rw [Wr hS0,hs]; exact fold_snd (f:=fun m x=>mapF b f (without S x) m) (g:=fun a x=>iMax a (1+Xd b (without S x)))
      obtain ⟨q1,q2⟩:=mapF_fold (f:=f) h hm hk (Qw b S) (fun _ hy=>hy)
      rw [← e1] at q1 q2
      refine ⟨q2,e2.symm,?_⟩
      show mapF b (f+1) S m=_
      rw [mapF,if_neg hS0,if_neg (by rw [hk]; simp),e1,e2]
end Go.Proofs.Ytmdbebbibecidaa
namespace Go.Proofs.Ytmdbebbibecidaa
open Go Ax
open Go.Proofs
/-- Whether a part may be the first one. -/
def Vk (b:List Int) (S x:Nat):Bool:=Xd b S == 1+Xd b (without S x)
def pickS (b:List Int) (S:Nat):Option Nat:=(Qw b S).find? (Vk b S)
/-- The payments that settle a set. -/
def QM (b:List Int):Nat→Nat→List Pay
 | 0,_=>[]
 | n+1,S=>if S=0 then [] else match pickS b S with
  | some x=>QD b x++QM b n (without S x)
  | none=>[]
def mapW (b:List Int) (f S:Nat):List (Int × Int)→List Nat→List (Int × Int)
 | m,[]=>m
 | m,x :: l=>if Vk b S x=true then mapF b f (without S x) (mapF b f S m) else mapW b f S (mapF b f (without S x) (mapF b f S m)) l
def XM (b:List Int) (f:Nat):Nat→Nat→List (Int × Int)→List (Int × Int)
 | 0,_,m=>m
 | n+1,S,m=>if S=0 then m else match pickS b S with
  | some x=>XM b f n (without S x) (mapW b f S m (Qw b S))
  | none=>m
abbrev StS:=List (Int × Int) × Int × List Pay × Nat
def stStep (b:List Int) (f S:Nat) (s:StS) (x:Nat):StS × Bool :=
 if Vk b S x=true then ((mapF b f (without S x) (mapF b f S s.1),((without S x:Nat):Int),s.2.2.1++QD b x,s.2.2.2+1),false)
 else ((mapF b f (without S x) (mapF b f S s.1),s.2.1,s.2.2.1,s.2.2.2),true)
def stRes (b:List Int) (f S:Nat) (m:List (Int × Int)) (o:List Pay) (g:Nat) (l:List Nat):Option Nat→StS × Bool
 | some x=>((mapW b f S m l,((without S x:Nat):Int),o++QD b x,g+1),false)
 | none=>((mapW b f S m l,(S:Int),o,g),true)
theorem st_fold {b:List Int} {f S:Nat} {o:List Pay} {g:Nat} {l:List Nat}:∀ {m:List (Int × Int)},Qo (stStep b f S) (m,(S:Int),o,g) l=stRes b f S m o g l (l.find? (Vk b S)):=by
 induction l with
 | nil=>intro m; rfl
 | cons x l ih =>
  intro m
  rw [Qo,stStep,List.find?_cons]
  cases hg:Vk b S x with
  | true =>
   rw [if_pos rfl]
   simp only [stRes]
   rw [mapW,if_pos hg]; rfl
  | false =>
   rw [if_neg (by simp)]
   have:=ih (m:=mapF b f (without S x) (mapF b f S m))
   simp only [cond_true]
   rw [this]
   cases l.find? (Vk b S) <;> simp only [stRes] <;> rw [mapW,if_neg (by rw [hg]; simp)]
theorem mapW_ok {b:List Int} {f S:Nat} (h:S<f):∀ {l:List Nat} {m:List (Int × Int)},(∀ x ∈ l,x ∈ Qw b S)→KInv b m→KInv b (mapW b f S m l)
 | [],m,_,hm=>hm
 | x :: l,m,hl,hm=>by
  have hp:=Xa (hl x (by simp))
  have hs:=QK hp.1
  have h1:=(WP (f:=f) h hm).1
  have h2:=(WP (f:=f) (S:=without S x) (by omega) h1).1
  rw [mapW]
  split
  · exact h2
  · exact mapW_ok h (fun y hy=>hl y (by simp [hy])) h2
theorem lowP_self {S:Nat} (h0:S ≠ 0) (h:S<1024):lowP S S=true:=by
 obtain ⟨i,h1,h2,h3,h4⟩:=low_of h0 h
 rw [lowP_iff h h h1 h4]; exact h2
/-- A set that is together 0 has a part to begin with. -/
theorem WD {b:List Int} {S:Nat} (h:Yq b (S:Int)) (h0:S ≠ 0) (ht:totN b S=0):∃ x,pickS b S=some x∧x ∈ Qw b S∧Xd b S=1+Xd b (without S x):=by
 obtain ⟨S',h1,h2,h3,h4⟩:=h
 have:S=S':=by omega
 subst this
 have hS:=Vb h3 h2
 have hself:S ∈ Qw b S:=WM (Nat.and_self S) (by omega) (lowP_self h0 hS) ht
 have he:=Wr (b:=b) h0
 obtain ⟨m1,m2,m3⟩:=Wt (v:=fun x=>1+Xd b (without S x)) (l:=Qw b S) (a:=0)
 rw [← he] at m1 m2 m3
 have m4:=m2 S hself
 have hb:=(YS (b:=b) (without S S)).1
 have hex:∃ y ∈ Qw b S,Vk b S y=true:=by
  rcases m3 with m3 | ⟨y,hy,m3⟩
  · omega
  · exact ⟨y,hy,by unfold Vk; simpa using m3⟩
 cases hp:pickS b S with
 | none =>
  obtain ⟨y,hy,hg⟩:=hex
  unfold pickS at hp
  rw [List.find?_eq_none] at hp
  exact absurd hg (hp y hy)
 | some x =>
  unfold pickS at hp
  have hg:=List.find?_some hp
  exact ⟨x,rfl,List.mem_of_find?_eq_some hp,by unfold Vk at hg; simpa using hg⟩
theorem VW {b:List Int} {S x:Nat} (h:x &&& S=x):∀ i,totP b (without S x) i+totP b x i=totP b S i
 | 0=>rfl
 | i+1=>by
  have ih:=VW (b:=b) h i
  have hb:(x.testBit i && S.testBit i)=x.testBit i:=by rw [← Nat.testBit_and,h]
  rw [totP,totP,totP,Xe]
  cases hx:x.testBit i <;> cases hs:S.testBit i <;> simp_all <;> omega
theorem Vg {b:List Int} {S x:Nat} (h:x &&& S=x) (hS:totN b S=0) (hx:totN b x=0):totN b (without S x)=0:=by
 have:=VW (b:=b) h b.length
 unfold totN at *
 omega
theorem f61b:Try.f61.body=some (Qa Try.prog 61):=by kernel_rfl
def Yn (P:Program):List Item:=kAt 400 [.code (Qa P 61)] [.b true]
def Yc (set:Int) (b:List Int) (m:List (Int × Int)) (f:Nat) (v:Int) (s:List (Int × Int) × Int × List Pay × Nat):St:=⟨([J,J,.ptr 1 0 0,.ptr 2 0 0,.ptr 3 0 0]++jj 5 ([.clos 77 [] [.rptr [.int .i64 v] 0,.rptr [.rptr [.rsl (rowI b) 0 b.length] 0] 0]]++Js 20)),[⟨true,0,0,true,(Qm s.1),false⟩,⟨true,0,1,false,[.pm [.rsl (rowI b) 0 b.length] 0 0 0],false⟩,⟨true,0,1,true,[.int .i64 s.2.1],false⟩,⟨true,0,1,false,[.sl 4 s.2.2.2 0 s.2.2.1.length 3],false⟩,⟨true,s.2.2.2,3,true,(Qk s.2.2.1),true⟩]⟩
def f61Gr0 (E:Env) (set:Int) (b:List Int) (m:List (Int × Int)) (f:Nat) (v:Int) (s:List (Int × Int) × Int × List Pay × Nat):Prop:=G Try.prog E (Yn Try.prog) (Yc set b m f v s)
def f61Tr0 (set:Int) (b:List Int) (m:List (Int × Int)) (f:Nat) (v:Int) (s:List (Int × Int) × Int × List Pay × Nat) (x:Nat):St:=⟨([J,J,.ptr 1 0 0,.ptr 2 0 0,.ptr 3 0 0,.int .i64 (x:Int),J,J,J,J,.clos 77 [] [.rptr [.int .i64 v] 0,.rptr [.rptr [.rsl (rowI b) 0 b.length] 0] 0],.int .i64 (x:Int)]++Js 19),[⟨true,0,0,true,(Qm s.1),false⟩,⟨true,0,1,false,[.pm [.rsl (rowI b) 0 b.length] 0 0 0],false⟩,⟨true,0,1,true,[.int .i64 s.2.1],false⟩,⟨true,0,1,false,[.sl 4 s.2.2.2 0 s.2.2.1.length 3],false⟩,⟨true,s.2.2.2,3,true,(Qk s.2.2.1),true⟩]⟩
def f61K0 (P:Program):List Item:=kAt 400 [.code (Qa P 61)] [.stop]
def f61S0 (set:Int) (b:List Int) (m:List (Int × Int)) (f:Nat) (v0:List (Int × Int)) (v2_0:Int) (v4:List Pay) (g4:Nat):St:=⟨([J,J,.ptr 1 0 0,.ptr 2 0 0,.ptr 3 0 0]++Js 26),[⟨true,0,0,true,(Qm v0),false⟩,⟨true,0,1,false,[.pm [.rsl (rowI b) 0 b.length] 0 0 0],false⟩,⟨true,0,1,true,[.int .i64 v2_0],false⟩,⟨true,0,1,false,[.sl 4 g4 0 v4.length 3],false⟩,⟨true,g4,3,true,(Qk v4),true⟩]⟩
def f61G0 (E:Env) (set:Int) (b:List Int) (m:List (Int × Int)) (f:Nat) (v0:List (Int × Int)) (v2_0:Int) (v4:List Pay):Prop:=∀ g4:Nat,G Try.prog E (f61K0 Try.prog) (f61S0 set b m f v0 v2_0 v4 g4)
abbrev z61_1 (s:List (Int × Int) × Int × List Pay × Nat) (b:List Int):List Blk:=[⟨true,0,0,true,(Qm s.1),false⟩,⟨true,0,1,false,[.pm [.rsl (rowI b) 0 b.length] 0 0 0],false⟩,⟨true,0,1,true,[.int .i64 s.2.1],false⟩,⟨true,0,1,false,[.sl 4 s.2.2.2 0 s.2.2.1.length 3],false⟩,⟨true,s.2.2.2,3,true,(Qk s.2.2.1),true⟩]
theorem p61_start_0 (set:Int) (b:List Int) (m:List (Int × Int)) (f:Nat) {E:Env} {rv:AV} {bs2:List Blk} (hE:LentE Try.prog 61 [.pm [.rsl (rowI b) 0 b.length] 0 0 0] rv bs2 E) (ho:AllP [])
 (hg:G Try.prog E (f61K0 Try.prog) ⟨([J,J,.ptr 1 0 0,.ptr 2 0 0,.ptr 3 0 0]++Js 26),[⟨true,0,0,true,(Qm m),false⟩,⟨true,0,1,false,[.pm [.rsl (rowI b) 0 b.length] 0 0 0],false⟩,⟨true,0,1,true,[.int .i64 set],false⟩,⟨true,0,1,false,[.sl 4 0 0 0 3],false⟩,⟨true,0,3,true,[],true⟩]⟩):G Try.prog E [.code (Qa Try.prog 61)] ⟨[.pm [.rsl (rowI b) 0 b.length] 0 0 0,.int .i64 set]++unds (Try.f61.ntmps - 2),[⟨true,0,0,true,(Qm m),false⟩]⟩ :=
 Qe (n:=400) (ds:=[]) (cs:=[(3,0,3)]) (live:=[2,3,4]) (m:=5) (evs:=[.stop]) (obs:=_) hE.kind (by rw [hE.gA]; kernel_rfl) Qg (by kernel_rfl) ho hg
theorem f61W (set:Int) (b:List Int) (m:List (Int × Int)) (f:Nat) {E:Env} {rv:(List Pay)} {m2:List (Int × Int)} (hE:LentE Try.prog 61 [.pm [.rsl (rowI b) 0 b.length] 0 0 0] (.rsl (Qk rv) 0 rv.length) [⟨true,0,0,true,(Qm m2),false⟩] E)
 (h:f61G0 E set b m f m set ([])):G Try.prog E [.code (Qa Try.prog 61)] ⟨[.pm [.rsl (rowI b) 0 b.length] 0 0 0,.int .i64 set]++unds (Try.f61.ntmps - 2),[⟨true,0,0,true,(Qm m),false⟩]⟩:=by
 exact p61_start_0 set b m f hE trivial (h 0)
theorem p61_0_0 (set:Int) (b:List Int) (m:List (Int × Int)) (f:Nat) (v0:List (Int × Int)) (v2_0:Int) (v4:List Pay) (g4:Nat) {E:Env} {rv:AV} {bs2:List Blk} (hE:LentE Try.prog 61 [.pm [.rsl (rowI b) 0 b.length] 0 0 0] rv bs2 E) (ho:AllP [(v2_0 != 0)=true,Qf Try.prog (.clos 71 [] []) [.rptr [.rsl (rowI b) 0 b.length] 0,.int .i64 v2_0] (.clos 77 [] [.rptr [.int .i64 v2_0] 0,.rptr [.rptr [.rsl (rowI b) 0 b.length] 0] 0])])
 (hg:G Try.prog E (Yn Try.prog) ⟨([J,J,.ptr 1 0 0,.ptr 2 0 0,.ptr 3 0 0]++jj 5 ([.clos 77 [] [.rptr [.int .i64 v2_0] 0,.rptr [.rptr [.rsl (rowI b) 0 b.length] 0] 0]]++Js 20)),[⟨true,0,0,true,(Qm v0),false⟩,⟨true,0,1,false,[.pm [.rsl (rowI b) 0 b.length] 0 0 0],false⟩,⟨true,0,1,true,[.int .i64 v2_0],false⟩,⟨true,0,1,false,[.sl 4 g4 0 v4.length 3],false⟩,⟨true,g4,3,true,(Qk v4),true⟩]⟩):G Try.prog E (f61K0 Try.prog) (f61S0 set b m f v0 v2_0 v4 g4) :=
 Qe (n:=400) (ds:=[]) (cs:=[]) (live:=[2,3,4,10]) (m:=5) (evs:=[.b true,.v (.clos 77 [] [.rptr [.int .i64 v2_0] 0,.rptr [.rptr [.rsl (rowI b) 0 b.length] 0] 0])]) (obs:=_) hE.kind (by rw [hE.gA]; kernel_rfl) Qg (by kernel_rfl) ho hg
theorem p61_0_1 (set:Int) (b:List Int) (m:List (Int × Int)) (f:Nat) (v0:List (Int × Int)) (v2_0:Int) (v4:List Pay) (g4:Nat) {E:Env} {res:AV} {bs2:List Blk} (hE:LentE Try.prog 61 [.pm [.rsl (rowI b) 0 b.length] 0 0 0] res bs2 E) (ho:AllP [(v2_0 != 0)=false,g4=g4,1≤1])
 (hr:AvLe (.rsl (Qk v4) 0 v4.length) res) (hb:[⟨true,0,0,true,(Qm v0),false⟩]=bs2):G Try.prog E (f61K0 Try.prog) (f61S0 set b m f v0 v2_0 v4 g4) :=
 endW_step (n:=400) (m:=1) (evs:=[.b false,.wt 30]) (obs:=_) hE (by rw [hE.gA]; kernel_rfl) Try.func61 Qg (by kernel_rfl) ho hr hb
theorem f61W0 (set:Int) (b:List Int) (m:List (Int × Int)) (f:Nat) (v0:List (Int × Int)) (v2_0:Int) (v4:List Pay) {E:Env} {rv:(List Pay)} {m2:List (Int × Int)} (hE:LentE Try.prog 61 [.pm [.rsl (rowI b) 0 b.length] 0 0 0] (.rsl (Qk rv) 0 rv.length) [⟨true,0,0,true,(Qm m2),false⟩] E)
 (h:∀ g4:Nat,((¬ (v2_0=0)→f61Gr0 E set b m f v2_0 (v0,v2_0,v4,g4))∧(v2_0=0→rv=v4∧m2=v0))):f61G0 E set b m f v0 v2_0 v4:=by
 intro g4
 have h:=h g4
 rcases bft (v2_0 != 0) with hc0 | hc0
 · have h:=h.1 (bneT hc0)
   exact p61_0_0 set b m f v0 v2_0 v4 g4 hE ⟨hc0,(u71 (parts_ok b v2_0)),trivial⟩ h
 · have h:=h.2 (bneF hc0)
   obtain ⟨qe0,qe1⟩:=h
   exact p61_0_1 set b m f v0 v2_0 v4 g4 hE ⟨hc0,rfl,(by decide),trivial⟩ (AvLe.of_eq (by rw [qe0]; try rfl)) (by rw [qe1]; all_goals (first | rfl | (simp only [List.length_set]; done) | (simp only [List.length_set]; rfl) | (simp only [List.length_set,List.length_replicate]; done)))
theorem p61_r0e_0 (set:Int) (b:List Int) (m:List (Int × Int)) (f:Nat) (v:Int) (s:List (Int × Int) × Int × List Pay × Nat) {E:Env} {rv:AV} {bs2:List Blk} (hE:LentE Try.prog 61 [.pm [.rsl (rowI b) 0 b.length] 0 0 0] rv bs2 E) (ho:AllP [])
 (hg:G Try.prog E (f61K0 Try.prog) ⟨([J,J,.ptr 1 0 0,.ptr 2 0 0,.ptr 3 0 0]++Js 26),(z61_1 s b)⟩):G Try.prog E (Vd (Yn Try.prog)) (Yc set b m f v s) :=
 Qe (n:=400) (ds:=[]) (cs:=[]) (live:=[2,3,4]) (m:=5) (evs:=[.stop]) (obs:=_) hE.kind (by rw [hE.gA]; kernel_rfl) Qg (by kernel_rfl) ho hg
theorem f61Wr0e (set:Int) (b:List Int) (m:List (Int × Int)) (f:Nat) (v:Int) (s:List (Int × Int) × Int × List Pay × Nat) {E:Env} {rv:(List Pay)} {m2:List (Int × Int)} (hE:LentE Try.prog 61 [.pm [.rsl (rowI b) 0 b.length] 0 0 0] (.rsl (Qk rv) 0 rv.length) [⟨true,0,0,true,(Qm m2),false⟩] E)
 (h:f61G0 E set b m f s.1 s.2.1 s.2.2.1):G Try.prog E (Vd (Yn Try.prog)) (Yc set b m f v s):=by
 exact p61_r0e_0 set b m f v s hE trivial (h s.2.2.2)
theorem p61_r0j_0 (set:Int) (b:List Int) (m:List (Int × Int)) (f:Nat) (v:Int) (s:List (Int × Int) × Int × List Pay × Nat) {E:Env} {rv:AV} {bs2:List Blk} (hE:LentE Try.prog 61 [.pm [.rsl (rowI b) 0 b.length] 0 0 0] rv bs2 E) (ho:AllP [])
 (hg:G Try.prog E (f61K0 Try.prog) ⟨([J,J,.ptr 1 0 0,.ptr 2 0 0,.ptr 3 0 0]++Js 26),(z61_1 s b)⟩):G Try.prog E (.code (.exit 2) :: Vd (Yn Try.prog)) (Yc set b m f v s) :=
 Qe (n:=400) (ds:=[]) (cs:=[]) (live:=[2,3,4]) (m:=5) (evs:=[.stop]) (obs:=_) hE.kind (by rw [hE.gA]; kernel_rfl) Qg (by kernel_rfl) ho hg
theorem f61Wr0j (set:Int) (b:List Int) (m:List (Int × Int)) (f:Nat) (v:Int) (s:List (Int × Int) × Int × List Pay × Nat) {E:Env} {rv:(List Pay)} {m2:List (Int × Int)} (hE:LentE Try.prog 61 [.pm [.rsl (rowI b) 0 b.length] 0 0 0] (.rsl (Qk rv) 0 rv.length) [⟨true,0,0,true,(Qm m2),false⟩] E)
 (h:f61G0 E set b m f s.1 s.2.1 s.2.2.1):G Try.prog E (.code (.exit 2) :: Vd (Yn Try.prog)) (Yc set b m f v s):=by
 exact p61_r0j_0 set b m f v s hE trivial (h s.2.2.2)
theorem f61Ar0 (set:Int) (b:List Int) (m:List (Int × Int)) (f:Nat) (v:Int) (s:List (Int × Int) × Int × List Pay × Nat) (x:Nat) {E:Env} (hE:RoundE ((Yc set b m f v s).tmps++[.pm [.rsl (rowI b) 0 b.length] 0 0 0]) E) (hg:G Try.prog E [.beginRound,.code (XP (Yn Try.prog))] (f61Tr0 set b m f v s x)):G Try.prog E [.code (Wp (Yn Try.prog)),.beginRound,.code (XP (Yn Try.prog))] ⟨Wh (Yc set b m f v s).tmps [11] (argS x),(Yc set b m f v s).blks⟩ :=
 Qe (n:=400) (ds:=[]) (cs:=[]) (live:=[0,1,2,3,4,5,6,7,8,9,10,11,12,13,14,15,16,17,18,19,20,21,22,23,24,25,26,27,28,29,30]) (m:=5) (evs:=[]) (obs:=[]) hE.kind (by rw [hE.gA]; kernel_rfl) Qg (by kernel_rfl) trivial hg
theorem f61Br0_0 (set:Int) (b:List Int) (m:List (Int × Int)) (f:Nat) (v:Int) (s:List (Int × Int) × Int × List Pay × Nat) (x:Nat) {E:Env} (hE:RoundE ((Yc set b m f v s).tmps++[.pm [.rsl (rowI b) 0 b.length] 0 0 0]) E) (ho:AllP [PureU Try.prog (.clos 72 [] []) [.pm [.rsl (rowI b) 0 b.length] 0 0 0,.int .i64 s.2.1] 0 ⟨true,0,0,true,(Qm s.1),false⟩ ⟨true,0,0,true,(Qm (Qp b f (Int.toNat s.2.1) s.1).2),false⟩ (.int .i64 ((Qp b f (Int.toNat s.2.1) s.1).1)),PureU Try.prog (.clos 72 [] []) [.pm [.rsl (rowI b) 0 b.length] 0 0 0,.int .i64 (bits .andNot .i64 s.2.1 (x:Int))] 0 ⟨true,0,0,true,(Qm (Qp b f (Int.toNat s.2.1) s.1).2),false⟩ ⟨true,0,0,true,(Qm (Qp b f (Int.toNat (bits .andNot .i64 s.2.1 (x:Int))) ((Qp b f (Int.toNat s.2.1) s.1).2)).2),false⟩ (.int .i64 ((Qp b f (Int.toNat (bits .andNot .i64 s.2.1 (x:Int))) ((Qp b f (Int.toNat s.2.1) s.1).2)).1)),InR .i64 (1+(Qp b f (Int.toNat (bits .andNot .i64 s.2.1 (x:Int))) ((Qp b f (Int.toNat s.2.1) s.1).2)).1),((Qp b f (Int.toNat s.2.1) s.1).1 != (1+(Qp b f (Int.toNat (bits .andNot .i64 s.2.1 (x:Int))) ((Qp b f (Int.toNat s.2.1) s.1).2)).1))=true])
 (hg:G Try.prog E [] ⟨(Js 31),[⟨true,0,0,true,(Qm (Qp b f (Int.toNat (bits .andNot .i64 s.2.1 (x:Int))) ((Qp b f (Int.toNat s.2.1) s.1).2)).2),false⟩,⟨true,0,1,false,[.pm [.rsl (rowI b) 0 b.length] 0 0 0],false⟩,⟨true,0,1,true,[.int .i64 s.2.1],false⟩,⟨true,0,1,false,[.sl 4 s.2.2.2 0 s.2.2.1.length 3],false⟩,⟨true,s.2.2.2,3,true,(Qk s.2.2.1),true⟩]⟩):G Try.prog E [.code (XP (Yn Try.prog))] (f61Tr0 set b m f v s x) :=
 Qe (n:=400) (ds:=[]) (cs:=[]) (live:=[]) (m:=5) (evs:=[.lent [0] (.int .i64 ((Qp b f (Int.toNat s.2.1) s.1).1)) [⟨true,0,0,true,(Qm (Qp b f (Int.toNat s.2.1) s.1).2),false⟩],.lent [0] (.int .i64 ((Qp b f (Int.toNat (bits .andNot .i64 s.2.1 (x:Int))) ((Qp b f (Int.toNat s.2.1) s.1).2)).1)) [⟨true,0,0,true,(Qm (Qp b f (Int.toNat (bits .andNot .i64 s.2.1 (x:Int))) ((Qp b f (Int.toNat s.2.1) s.1).2)).2),false⟩],.b true]) (obs:=_) hE.kind (by rw [hE.gA]; kernel_rfl) Qg (by kernel_rfl) ho hg
theorem f61Br0_1 (set:Int) (b:List Int) (m:List (Int × Int)) (f:Nat) (v:Int) (s:List (Int × Int) × Int × List Pay × Nat) (x:Nat) {E:Env} (hE:RoundE ((Yc set b m f v s).tmps++[.pm [.rsl (rowI b) 0 b.length] 0 0 0]) E) (ho:AllP [PureU Try.prog (.clos 72 [] []) [.pm [.rsl (rowI b) 0 b.length] 0 0 0,.int .i64 s.2.1] 0 ⟨true,0,0,true,(Qm s.1),false⟩ ⟨true,0,0,true,(Qm (Qp b f (Int.toNat s.2.1) s.1).2),false⟩ (.int .i64 ((Qp b f (Int.toNat s.2.1) s.1).1)),PureU Try.prog (.clos 72 [] []) [.pm [.rsl (rowI b) 0 b.length] 0 0 0,.int .i64 (bits .andNot .i64 s.2.1 (x:Int))] 0 ⟨true,0,0,true,(Qm (Qp b f (Int.toNat s.2.1) s.1).2),false⟩ ⟨true,0,0,true,(Qm (Qp b f (Int.toNat (bits .andNot .i64 s.2.1 (x:Int))) ((Qp b f (Int.toNat s.2.1) s.1).2)).2),false⟩ (.int .i64 ((Qp b f (Int.toNat (bits .andNot .i64 s.2.1 (x:Int))) ((Qp b f (Int.toNat s.2.1) s.1).2)).1)),InR .i64 (1+(Qp b f (Int.toNat (bits .andNot .i64 s.2.1 (x:Int))) ((Qp b f (Int.toNat s.2.1) s.1).2)).1),((Qp b f (Int.toNat s.2.1) s.1).1 != (1+(Qp b f (Int.toNat (bits .andNot .i64 s.2.1 (x:Int))) ((Qp b f (Int.toNat s.2.1) s.1).2)).1))=false,Qf Try.prog (.clos 73 [] []) [.rptr [.rsl (rowI b) 0 b.length] 0,.int .i64 (x:Int)] (.rsl (Qk (QD b (Int.toNat (x:Int)))) 0 ((QD b (Int.toNat (x:Int))).length)),s.2.2.2=s.2.2.2,(0+(s.2.2.1.length*3))=(Qk s.2.2.1).length,(s.2.2.1.length+(QD b (Int.toNat (x:Int))).length)≤2147483648,((Qk (QD b (Int.toNat (x:Int)))).drop 0).take ((QD b (Int.toNat (x:Int))).length*3)=(Qk (QD b (Int.toNat (x:Int)))),(Qk (QD b (Int.toNat (x:Int)))).length=((QD b (Int.toNat (x:Int))).length*3),noRefs (Qk (QD b (Int.toNat (x:Int))))=true,1≤1,1≤1])
 (hg:G Try.prog E (kAt 400 [.code (XP (Yn Try.prog))] [.b false]) ⟨(Js 31),[⟨true,0,0,true,(Qm (Qp b f (Int.toNat (bits .andNot .i64 s.2.1 (x:Int))) ((Qp b f (Int.toNat s.2.1) s.1).2)).2),false⟩,⟨true,0,1,false,[.pm [.rsl (rowI b) 0 b.length] 0 0 0],false⟩,⟨true,0,1,true,[.int .i64 (bits .andNot .i64 s.2.1 (x:Int))],false⟩,⟨true,0,1,false,[.sl 4 (s.2.2.2+1) 0 (s.2.2.1.length+(QD b (Int.toNat (x:Int))).length) 3],false⟩,⟨true,(s.2.2.2+1),3,true,((Qk s.2.2.1)++(Qk (QD b (Int.toNat (x:Int))))),true⟩]⟩):G Try.prog E [.code (XP (Yn Try.prog))] (f61Tr0 set b m f v s x) :=
 Qe (n:=400) (ds:=[]) (cs:=[]) (live:=[]) (m:=5) (evs:=[.lent [0] (.int .i64 ((Qp b f (Int.toNat s.2.1) s.1).1)) [⟨true,0,0,true,(Qm (Qp b f (Int.toNat s.2.1) s.1).2),false⟩],.lent [0] (.int .i64 ((Qp b f (Int.toNat (bits .andNot .i64 s.2.1 (x:Int))) ((Qp b f (Int.toNat s.2.1) s.1).2)).1)) [⟨true,0,0,true,(Qm (Qp b f (Int.toNat (bits .andNot .i64 s.2.1 (x:Int))) ((Qp b f (Int.toNat s.2.1) s.1).2)).2),false⟩],.b false,.v (.rsl (Qk (QD b (Int.toNat (x:Int)))) 0 ((QD b (Int.toNat (x:Int))).length)),.cs (Qk (QD b (Int.toNat (x:Int))))]) (obs:=_) hE.kind (by rw [hE.gA]; kernel_rfl) Qg (by kernel_rfl) ho hg
theorem f61Br0 (set:Int) (b:List Int) (m:List (Int × Int)) (f:Nat) (v:Int) (s:List (Int × Int) × Int × List Pay × Nat) (x:Nat) {rq:(List (Int × Int) × Int × List Pay × Nat) × Bool} {E:Env} (hE:RoundE ((Yc set b m f v s).tmps++[.pm [.rsl (rowI b) 0 b.length] 0 0 0]) E) (hQ:yd (fun s=>(Yc set b m f v s).blks) (.exit 2) rq E)
 (h:((Yf b f s.2.1 s.1)∧((Yf b f (bits .andNot .i64 s.2.1 (x:Int)) ((Qp b f (Int.toNat s.2.1) s.1).2))∧((I6 (1+(Qp b f (Int.toNat (bits .andNot .i64 s.2.1 (x:Int))) ((Qp b f (Int.toNat s.2.1) s.1).2)).1))∧((¬ ((Qp b f (Int.toNat s.2.1) s.1).1=(1+(Qp b f (Int.toNat (bits .andNot .i64 s.2.1 (x:Int))) ((Qp b f (Int.toNat s.2.1) s.1).2)).1))→rq=(((Qp b f (Int.toNat (bits .andNot .i64 s.2.1 (x:Int))) ((Qp b f (Int.toNat s.2.1) s.1).2)).2,s.2.1,s.2.2.1,s.2.2.2),true))∧((Qp b f (Int.toNat s.2.1) s.1).1=(1+(Qp b f (Int.toNat (bits .andNot .i64 s.2.1 (x:Int))) ((Qp b f (Int.toNat s.2.1) s.1).2)).1)→((Yq b (x:Int))∧((s.2.2.1.length+(QD b (Int.toNat (x:Int))).length)≤2147483648∧rq=(((Qp b f (Int.toNat (bits .andNot .i64 s.2.1 (x:Int))) ((Qp b f (Int.toNat s.2.1) s.1).2)).2,(bits .andNot .i64 s.2.1 (x:Int)),(s.2.2.1++(QD b (Int.toNat (x:Int)))),(s.2.2.2+1)),false))))))))):G Try.prog E [.code (XP (Yn Try.prog))] (f61Tr0 set b m f v s x):=by
 obtain ⟨h1,h⟩:=h
 obtain ⟨h2,h⟩:=h
 obtain ⟨q2_0,h⟩:=h
 rcases bft ((Qp b f (Int.toNat s.2.1) s.1).1 != (1+(Qp b f (Int.toNat (bits .andNot .i64 s.2.1 (x:Int))) ((Qp b f (Int.toNat s.2.1) s.1).2)).1)) with hc0 | hc0
 · have h:=h.1 (bneT hc0)
   exact f61Br0_0 set b m f v s x hE ⟨(Xv (Xj Try.func72 (by kernel_rfl) f72b (Yf.lent h1)) rfl rfl rfl rfl rfl rfl),(Xv (Xj Try.func72 (by kernel_rfl) f72b (Yf.lent h2)) rfl rfl rfl rfl rfl rfl),q2_0,hc0,trivial⟩ (round_go hQ h rfl)
 · have h:=h.2 (bneF hc0)
   obtain ⟨h3,h⟩:=h
   obtain ⟨h4,h⟩:=h
   exact f61Br0_1 set b m f v s x hE ⟨(Xv (Xj Try.func72 (by kernel_rfl) f72b (Yf.lent h1)) rfl rfl rfl rfl rfl rfl),(Xv (Xj Try.func72 (by kernel_rfl) f72b (Yf.lent h2)) rfl rfl rfl rfl rfl rfl),q2_0,hc0,(u73 (chain_ok b (x:Int) h3)),rfl,(by have hx:=Yk cPay (s:=3) (fun _=>rfl) s.2.2.1; simp only [Qk] at hx ⊢; rw [hx]; simp),h4,(by exact row_all cPay (fun _=>rfl) (QD b (Int.toNat (x:Int)))),(by exact Yk cPay (fun _=>rfl) (QD b (Int.toNat (x:Int)))),(by exact row_nr cPay (fun _=>rfl) (QD b (Int.toNat (x:Int)))),(by decide),(by decide),trivial⟩ (round_jump hQ h (by kernel_rfl) (by rw [(show Qk s.2.2.1++Qk (QD b (Int.toNat (x:Int)))=Qk (s.2.2.1++(QD b (Int.toNat (x:Int)))) from (Wz cPay s.2.2.1 (QD b (Int.toNat (x:Int)))).symm)]; rw [(show (s.2.2.1.length+(QD b (Int.toNat (x:Int))).length)=(s.2.2.1++(QD b (Int.toNat (x:Int)))).length from by simp)]; rfl))
theorem f61Rr0 (set:Int) (b:List Int) (m:List (Int × Int)) (f:Nat) (v:Int) (s0:List (Int × Int) × Int × List Pay × Nat) {E:Env} {rv:(List Pay)} {m2:List (Int × Int)} (hE:LentE Try.prog 61 [.pm [.rsl (rowI b) 0 b.length] 0 0 0] (.rsl (Qk rv) 0 rv.length) [⟨true,0,0,true,(Qm m2),false⟩] E) (step:(List (Int × Int) × Int × List Pay × Nat)→(Nat)→(List (Int × Int) × Int × List Pay × Nat) × Bool)
 (h:Yq b v∧(∀ (i:Nat) (x:Nat) (s:List (Int × Int) × Int × List Pay × Nat),(Qw b (Int.toNat v))[i]?=some x→Qo step s0 ((Qw b (Int.toNat v)).take i)=(s,true)→((Yf b f s.2.1 s.1)∧((Yf b f (bits .andNot .i64 s.2.1 (x:Int)) ((Qp b f (Int.toNat s.2.1) s.1).2))∧((I6 (1+(Qp b f (Int.toNat (bits .andNot .i64 s.2.1 (x:Int))) ((Qp b f (Int.toNat s.2.1) s.1).2)).1))∧((¬ ((Qp b f (Int.toNat s.2.1) s.1).1=(1+(Qp b f (Int.toNat (bits .andNot .i64 s.2.1 (x:Int))) ((Qp b f (Int.toNat s.2.1) s.1).2)).1))→step s x=(((Qp b f (Int.toNat (bits .andNot .i64 s.2.1 (x:Int))) ((Qp b f (Int.toNat s.2.1) s.1).2)).2,s.2.1,s.2.2.1,s.2.2.2),true))∧((Qp b f (Int.toNat s.2.1) s.1).1=(1+(Qp b f (Int.toNat (bits .andNot .i64 s.2.1 (x:Int))) ((Qp b f (Int.toNat s.2.1) s.1).2)).1)→((Yq b (x:Int))∧((s.2.2.1.length+(QD b (Int.toNat (x:Int))).length)≤2147483648∧step s x=(((Qp b f (Int.toNat (bits .andNot .i64 s.2.1 (x:Int))) ((Qp b f (Int.toNat s.2.1) s.1).2)).2,(bits .andNot .i64 s.2.1 (x:Int)),(s.2.2.1++(QD b (Int.toNat (x:Int)))),(s.2.2.2+1)),false)))))))))∧(∀ s:List (Int × Int) × Int × List Pay × Nat,Qo step s0 (Qw b (Int.toNat v))=(s,true)→f61G0 E set b m f s.1 s.2.1 s.2.2.1)∧(∀ s:List (Int × Int) × Int × List Pay × Nat,Qo step s0 (Qw b (Int.toNat v))=(s,false)→f61G0 E set b m f s.1 s.2.1 s.2.2.1)):f61Gr0 E set b m f v s0:=by
 have hT:(Yc set b m f v s0).tmps++E.gA=(Yc set b m f v s0).tmps++[.pm [.rsl (rowI b) 0 b.length] 0 0 0]:=by rw [hE.gA]
 refine qK (σ:=List (Int × Int) × Int × List Pay × Nat) (X:=Nat) (arg:=argS) (L:=(Qw b (Int.toNat v))) (jump:=.exit 2) (g:=.tmp 10) (ps:=#[11]) (fun s=>(Yc set b m f v s).blks) (fun s x=>(f61Tr0 set b m f v s x)) step s0 hE.ro hE.kind (by kernel_rfl) rfl rfl (parts_it b v h.1) rfl (fun x=>rfl) (fun s x E' hR hg=>?_) (fun i x s hx hs E' hR hQ=>?_) (fun s hs=>?_) (fun s hs=>?_)
 · rw [hT] at hR; exact f61Ar0 set b m f v s x hR hg
 · rw [hT] at hR; exact f61Br0 set b m f v s x hR hQ (h.2.1 i x s hx hs)
 · exact f61Wr0e set b m f v s hE (h.2.2.1 s hs)
 · exact f61Wr0j set b m f v s hE (h.2.2.2 s hs)
theorem settle_ok (b:List Int) (S0:Nat) (hS:Yq b (S0:Int)) (ht:totN b S0=0):Lent Try.prog 61 [.pm [.rsl (rowI b) 0 b.length] 0 0 0,.int .i64 (S0:Int)] [⟨true,0,0,true,Qm [],false⟩]
 (.rsl (Qk (QM b 1024 S0)) 0 (QM b 1024 S0).length) [⟨true,0,0,true,Qm (XM b 1024 1024 S0 []),false⟩]:=by
 refine lent_ofA (.pm [.rsl (rowI b) 0 b.length] 0 0 0) 0 rfl (fun n h=>by simp [refsBelows,Qx] at h; exact h) Try.func61 f61b fun E hE=>?_
 have key:∀ (n S:Nat) (m:List (Int × Int)) (o:List Pay),S<n→n≤1024→Yq b (S:Int)→totN b S=0→KInv b m→o.length+10*n≤20000→o++QM b n S=QM b 1024 S0→XM b 1024 n S m=XM b 1024 1024 S0 []→f61G0 E (S0:Int) b [] 1024 m (S:Int) o:=by
  intro n
  induction n with
  | zero=>intro S m o h; omega
  | succ n ih =>
   intro S m o hn hn2 hin ht hm ho hp hM
   refine f61W0 (S0:Int) b [] 1024 m (S:Int) o (rv:=QM b 1024 S0) (m2:=XM b 1024 1024 S0 []) hE fun g4=>⟨fun h0=>?_,fun h0=>?_⟩
   rotate_left
   · have:S=0:=by omega
     subst this
     rw [QM,if_pos rfl,List.append_nil] at hp
     rw [XM,if_pos rfl] at hM
     exact ⟨hp.symm,hM.symm⟩
   have hS0:S ≠ 0:=by omega
   obtain ⟨y,hy,hym,hyv⟩:=WD hin hS0 ht
   have hy2:(Qw b S).find? (Vk b S)=some y:=hy
   refine f61Rr0 (S0:Int) b [] 1024 (S:Int) (m,(S:Int),o,g4) (rv:=QM b 1024 S0) (m2:=XM b 1024 1024 S0 []) hE (stStep b 1024 S) ⟨hin,fun i x s hx hs=>?_,fun s hs=>?_,fun s hs=>?_⟩
   · rw [Int.toNat_natCast] at hx hs
     have hxm:=List.mem_of_getElem? hx
     rw [st_fold] at hs
     cases hf:((Qw b S).take i).find? (Vk b S) with
     | some z=>rw [hf] at hs; simp [stRes] at hs
     | none =>
      rw [hf] at hs
      simp only [stRes,Prod.mk.injEq,and_true] at hs
      subst hs
      have hxin:=part_in hin hxm
      have hk:=mapW_ok (b:=b) (f:=1024) (S:=S) (by omega) (l:=(Qw b S).take i) (m:=m) (fun z hz=>List.mem_of_mem_take hz) hm
      have hp':=Xa hxm
      have hw:=QK hp'.1
      have ean:bits .andNot .i64 (S:Int) (x:Int)=((without S x:Nat):Int):=yb (by omega) (by omega)
      have hb1:=YS (b:=b) (without S x)
      have hcl:=yJ (b:=b) (S:=x) b.length
      have hlen:b.length≤10:=by obtain ⟨_,_,_,h3,_⟩:=hin; exact h3
      simp only
      rw [ean,Int.toNat_natCast,Int.toNat_natCast,Int.toNat_natCast]
      refine ⟨many_ok b 1024 S _ (by omega) hin hk,many_ok b 1024 (without S x) _ (by omega) (YO hin) (WP (by omega) hk).1,?_,fun hne=>?_,fun heq=>⟨hxin,?_,?_⟩⟩
      · show _≤1+Xd b (without S x)∧1+Xd b (without S x)≤_
        omega
      · have hg:Vk b S x=false:=by unfold Vk; exact beq_eq_false_iff_ne.2 hne
        rw [stStep,if_neg (by rw [hg]; simp)]; rfl
      · unfold QD; omega
      · have hg:Vk b S x=true:=by unfold Vk; exact beq_iff_eq.2 heq
        rw [stStep,if_pos hg]; rfl
   · rw [Int.toNat_natCast,st_fold,hy2] at hs
     simp [stRes] at hs
   · rw [Int.toNat_natCast,st_fold,hy2] at hs
     simp only [stRes,Prod.mk.injEq,and_true] at hs
     subst hs
     have hp':=Xa hym
     have hw:=QK hp'.1
     rw [QM,if_neg hS0,hy] at hp
     rw [XM,if_neg hS0,hy] at hM
     have hcl:=yJ (b:=b) (S:=y) b.length
     have hlen:b.length≤10:=by obtain ⟨_,_,_,h3,_⟩:=hin; exact h3
     refine ih (without S y) _ _ (by omega) (by omega) (YO hin) (Vg hp'.1 ht hp'.2.2.2) (mapW_ok (by omega) (fun _ h=>h) hm) ?_ (by rw [List.append_assoc]; exact hp) hM
     rw [List.length_append]; unfold QD; omega
 have hlt:S0<1024:=by obtain ⟨S',h1,h2,h3,_⟩:=hS; have:=Vb h3 h2; omega
 exact f61W (S0:Int) b [] 1024 (rv:=QM b 1024 S0) (m2:=XM b 1024 1024 S0 []) hE (key 1024 S0 [] [] hlt (by omega) hS ht (fun e he=>by simp at he) (by simp) rfl rfl)
end Go.Proofs.Ytmdbebbibecidaa