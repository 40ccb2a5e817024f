/- A part of the proof: several texts, one behind the other. -/
import Derived.Test.YtemklbioijmjiaaLTopCablesC
set_option linter.unusedVariables false
set_option linter.unusedSimpArgs false
set_option maxRecDepth 100000
namespace Go.Proofs.Ytemklbioijmjiaa
open Go Ax
open Go.Proofs
theorem f60b:Try.f60.body=some (Qe Try.prog 60):=by kernel_rfl
theorem u60 {a c k:List AV} {r:AV} (h:Pure Try.prog 60 (a++c++k) r):Qf Try.prog (.clos 60 a k) c r:=Qn Try.func60 (by kernel_rfl) f60b h
abbrev z60_1 (g:Gd):List AV:=[.int .i64 g.w,.int .i64 g.h,.rsl (rowI g.cells) 0 g.cells.length,.rsl (rowI g.hts) 0 g.hts.length,.nilSl,.rsl [] 0 0,.rsl (rowI (Qt g)) 0 ((Qt g).length)]
abbrev z60_2 (c:Int) (g:Gd) (v:List Int) (a:Int):List AV:=[.int .i64 c,.rptr [.rptr (z60_1 g) 0] 0,.rptr [.rsl (rowI v) 0 v.length] 0,.rptr [.int .i64 a] 0]
theorem p60_start_0 (c:Int) (g:Gd) (v:List Int) (a:Int) (e:Int) (e1:Int) {E:Env} {res:AV} (hE:Qg Try.prog 60 res E) (ho:AllP [Qf Try.prog (.clos 54 [] []) [.rptr (z60_1 g) 0,.int .i64 c] (.bool (Qx g c)),(Qx g c)=true,0≤c∧c<(v.length:Int),((rowI v).drop (0+(Int.toNat c)*1)).take 1=[.int .i64 e],(decide (e≥0))=true,0≤c∧c<(v.length:Int),((rowI v).drop (0+(Int.toNat c)*1)).take 1=[.int .i64 e],Qf Try.prog (.clos 58 [] []) [.rptr (z60_1 g) 0,.int .i64 a,.int .i64 c] (.int .i64 (QM g a c)),InR .i64 (e+(QM g a c)),Qf Try.prog (.clos 56 [] []) [.rptr (z60_1 g) 0,.int .i64 a] (.int .i64 (Qu g a)),InR .i64 ((e+(QM g a c))+(Qu g a)),0≤a∧a<(v.length:Int),((rowI v).drop (0+(Int.toNat a)*1)).take 1=[.int .i64 e1]])
 (hr:AvLe (.bool (((e+(QM g a c))+(Qu g a)) == e1)) res):G Try.prog E [.code (Qe Try.prog 60)] ⟨(z60_2 c g v a)++unds (Try.f60.ntmps - 4),[]⟩ :=
 Qd (n:=400) (evs:=[.v (.bool (Qx g c)),.b true,.auto,.ld (.int .i64 e),.b true,.auto,.ld (.int .i64 e),.v (.int .i64 (QM g a c)),.v (.int .i64 (Qu g a)),.auto,.auto,.ld (.int .i64 e1)]) (obs:=_) hE Try.func60 Qi (by kernel_rfl) ho hr
theorem p60_start_1 (c:Int) (g:Gd) (v:List Int) (a:Int) (e:Int) {E:Env} {res:AV} (hE:Qg Try.prog 60 res E) (ho:AllP [Qf Try.prog (.clos 54 [] []) [.rptr (z60_1 g) 0,.int .i64 c] (.bool (Qx g c)),(Qx g c)=true,0≤c∧c<(v.length:Int),((rowI v).drop (0+(Int.toNat c)*1)).take 1=[.int .i64 e],(decide (e≥0))=false])
 (hr:AvLe (.bool false) res):G Try.prog E [.code (Qe Try.prog 60)] ⟨(z60_2 c g v a)++unds (Try.f60.ntmps - 4),[]⟩ :=
 Qd (n:=400) (evs:=[.v (.bool (Qx g c)),.b true,.auto,.ld (.int .i64 e),.b false]) (obs:=_) hE Try.func60 Qi (by kernel_rfl) ho hr
theorem p60_start_2 (c:Int) (g:Gd) (v:List Int) (a:Int) {E:Env} {res:AV} (hE:Qg Try.prog 60 res E) (ho:AllP [Qf Try.prog (.clos 54 [] []) [.rptr (z60_1 g) 0,.int .i64 c] (.bool (Qx g c)),(Qx g c)=false,false=false])
 (hr:AvLe (.bool false) res):G Try.prog E [.code (Qe Try.prog 60)] ⟨(z60_2 c g v a)++unds (Try.f60.ntmps - 4),[]⟩ :=
 Qd (n:=400) (evs:=[.v (.bool (Qx g c)),.b false,.b false]) (obs:=_) hE Try.func60 Qi (by kernel_rfl) ho hr
theorem f60W (c:Int) (g:Gd) (v:List Int) (a:Int) {E:Env} {rv:Bool} (hE:Qg Try.prog 60 (.bool rv) E)
 (h:((OnG g c)∧(((Qx g c)=true→(0≤c∧(∃ e:Int,v[Int.toNat c]?=some e∧((e≥0→((OnG g a∧OnG g c)∧((I6 (e+(QM g a c)))∧((OnG g a)∧((I6 ((e+(QM g a c))+(Qu g a)))∧(0≤a∧(∃ e1:Int,v[Int.toNat a]?=some e1∧rv=(((e+(QM g a c))+(Qu g a)) == e1))))))))∧(¬ (e≥0)→rv=false)))))∧((Qx g c)=false→rv=false)))):G Try.prog E [.code (Qe Try.prog 60)] ⟨[.int .i64 c,.rptr [.rptr [.int .i64 g.w,.int .i64 g.h,.rsl (rowI g.cells) 0 g.cells.length,.rsl (rowI g.hts) 0 g.hts.length,.nilSl,.rsl [] 0 0,.rsl (rowI (Qt g)) 0 ((Qt g).length)] 0] 0,.rptr [.rsl (rowI v) 0 v.length] 0,.rptr [.int .i64 a] 0]++unds (Try.f60.ntmps - 4),[]⟩:=by
 obtain ⟨h1,h⟩:=h
 rcases bft (Qx g c) with hc0 | hc0
 · have h:=h.1 hc0
   obtain ⟨h3,h⟩:=h
   obtain ⟨e,h2,h⟩:=h
   rcases bft (decide (e≥0)) with hc1 | hc1
   · have h:=h.1 (odt hc1)
     obtain ⟨h4,h⟩:=h
     obtain ⟨q9_2,h⟩:=h
     obtain ⟨h5,h⟩:=h
     obtain ⟨q11_2,h⟩:=h
     obtain ⟨h7,h⟩:=h
     obtain ⟨e1,h6,h⟩:=h
     exact p60_start_0 c g v a e e1 hE ⟨(u54 (Xx g c h1)),hc0,(Qh h3 h2),(rp cI 1 0 1 h2),hc1,(Qh h3 h2),(rp cI 1 0 1 h2),(u58 (ym g a c h4)),q9_2,(u56 (VG g a h5)),q11_2,(Qh h7 h6),(rp cI 1 0 1 h6),trivial⟩ (AvLe.of_eq (by rw [h]; try rfl))
   · have h:=h.2 (odf hc1)
     exact p60_start_1 c g v a e hE ⟨(u54 (Xx g c h1)),hc0,(Qh h3 h2),(rp cI 1 0 1 h2),hc1,trivial⟩ (AvLe.of_eq (by rw [h]; try rfl))
 · have h:=h.2 hc0
   exact p60_start_2 c g v a hE ⟨(u54 (Xx g c h1)),hc0,rfl,trivial⟩ (AvLe.of_eq (by rw [h]; try rfl))
theorem okN_ok (c:Int) (g:Gd) (v:List Int) (a:Int) (h:OnG g c∧OnG g a∧TabIn g v):Pure Try.prog 60 [.int .i64 c,.rptr [fldV g] 0,.rptr [.rsl (rowI v) 0 v.length] 0,.rptr [.int .i64 a] 0] (.bool (okN g v a c)):=Qy Try.func60 f60b fun E hE=>by
 obtain ⟨hc,ha,hv⟩:=h
 obtain ⟨e1,l1,u1⟩:=hv.at_ hc
 obtain ⟨e2,l2,u2⟩:=hv.at_ ha
 have st:=WL ha hc
 have dr:=YD g a
 refine f60W c g v a (rv:=okN g v a c) hE ⟨hc,fun h1=>⟨hc.lo,_,e1,fun h2=>⟨⟨ha,hc⟩,⟨by omega,by omega⟩,ha,⟨by omega,by omega⟩,ha.lo,_,e2,?_⟩,fun h2=>?_⟩,fun h1=>?_⟩
 · unfold okN; rw [h1,decide_eq_true h2]; rfl
 · unfold okN; rw [h1,decide_eq_false h2]; rfl
 · unfold okN; rw [h1]; rfl
theorem f59cbb:Try.f59.body=some (Qe Try.prog 59):=by kernel_rfl
def VW (P:Program):List Item:=kAt 400 [.code (Qe P 59)] [.stop]
def yV (l:(List Int)) (g:Gd) (v:List Int) (a:Int) (i:Nat):St:=⟨([.rsl (rowI l) 0 l.length,.clos 60 [] [.rptr [.rptr [.int .i64 g.w,.int .i64 g.h,.rsl (rowI g.cells) 0 g.cells.length,.rsl (rowI g.hts) 0 g.hts.length,.nilSl,.rsl [] 0 0,.rsl (rowI (Qt g)) 0 ((Qt g).length)] 0] 0,.rptr [.rsl (rowI v) 0 v.length] 0,.rptr [.int .i64 a] 0]]++jj 5 ([.int .i64 (l.length:Int),.int .i64 (i:Int)]++Js 10)),[]⟩
def yW (E:Env) (l:(List Int)) (g:Gd) (v:List Int) (a:Int) (i:Nat):Prop:=G Try.prog E (VW Try.prog) (yV l g v a i )
abbrev WC (g:Gd) (v:List Int) (a:Int):List AV:=[.rptr [.rptr [.int .i64 g.w,.int .i64 g.h,.rsl (rowI g.cells) 0 g.cells.length,.rsl (rowI g.hts) 0 g.hts.length,.nilSl,.rsl [] 0 0,.rsl (rowI (Qt g)) 0 ((Qt g).length)] 0] 0,.rptr [.rsl (rowI v) 0 v.length] 0,.rptr [.int .i64 a] 0]
theorem yA (l:(List Int)) (g:Gd) (v:List Int) (a:Int) {E:Env} {rv:AV} (hE:Qg Try.prog 59 rv E) (ho:AllP [])
 (hg:G Try.prog E (VW Try.prog) ⟨([.rsl (rowI l) 0 l.length,.clos 60 [] (WC g v a)]++jj 5 ([.int .i64 (l.length:Int),.int .i64 0]++Js 10)),[]⟩):G Try.prog E [.code (Qe Try.prog 59)] ⟨[.rsl (rowI l) 0 l.length,.clos 60 [] (WC g v a)]++unds (Try.f59.ntmps - 2),[]⟩ :=
 Qj (n:=400) (ds:=[]) (cs:=[]) (live:=[0,1,7,8]) (m:=0) (evs:=[.stop]) (obs:=_) hE.2.1 (hE.nogh _) Qi (by kernel_rfl) ho hg
theorem f59cbW (l:(List Int)) (g:Gd) (v:List Int) (a:Int) {E:Env} {rv:Int} (hE:Qg Try.prog 59 (.int .i64 rv) E)
 (h:yW E l g v a 0):G Try.prog E [.code (Qe Try.prog 59)] ⟨[.rsl (rowI l) 0 l.length,.clos 60 [] [.rptr [.rptr [.int .i64 g.w,.int .i64 g.h,.rsl (rowI g.cells) 0 g.cells.length,.rsl (rowI g.hts) 0 g.hts.length,.nilSl,.rsl [] 0 0,.rsl (rowI (Qt g)) 0 ((Qt g).length)] 0] 0,.rptr [.rsl (rowI v) 0 v.length] 0,.rptr [.int .i64 a] 0]]++unds (Try.f59.ntmps - 2),[]⟩:=by
 exact yA l g v a hE trivial h
theorem p59cb_0_0 (l:(List Int)) (g:Gd) (v:List Int) (a:Int) (i:Nat) (e:Int) {E:Env} {res:AV} (hE:Qg Try.prog 59 res E) (ho:AllP [(decide ((i:Int)<(l.length:Int)))=true,0≤(i:Int)∧(i:Int)<(l.length:Int),((rowI l).drop (0+(Int.toNat (i:Int))*1)).take 1=[.int .i64 e],Qf Try.prog (.clos 60 [] (WC g v a)) [.int .i64 e] (.bool (okN g v a e)),(okN g v a e)=true])
 (hr:AvLe (.int .i64 (i:Int)) res):G Try.prog E (VW Try.prog) (yV l g v a i ) :=
 Qd (n:=400) (evs:=[.b true,.ld (.int .i64 e),.v (.bool (okN g v a e)),.b true]) (obs:=_) hE Try.func59 Qi (by kernel_rfl) ho hr
theorem p59cb_0_1 (l:(List Int)) (g:Gd) (v:List Int) (a:Int) (i:Nat) (e:Int) {E:Env} {rv:AV} (hE:Qg Try.prog 59 rv E) (ho:AllP [(decide ((i:Int)<(l.length:Int)))=true,0≤(i:Int)∧(i:Int)<(l.length:Int),((rowI l).drop (0+(Int.toNat (i:Int))*1)).take 1=[.int .i64 e],Qf Try.prog (.clos 60 [] (WC g v a)) [.int .i64 e] (.bool (okN g v a e)),(okN g v a e)=false,InR .i64 ((i:Int)+1)])
 (hg:G Try.prog E (VW Try.prog) ⟨([.rsl (rowI l) 0 l.length,.clos 60 [] (WC g v a)]++jj 5 ([.int .i64 (l.length:Int),.int .i64 ((i:Int)+1)]++Js 10)),[]⟩):G Try.prog E (VW Try.prog) (yV l g v a i ) :=
 Qj (n:=400) (ds:=[]) (cs:=[]) (live:=[0,1,7,8]) (m:=0) (evs:=[.b true,.ld (.int .i64 e),.v (.bool (okN g v a e)),.b false,.stop]) (obs:=_) hE.2.1 (hE.nogh _) Qi (by kernel_rfl) ho hg
theorem p59cb_0_2 (l:(List Int)) (g:Gd) (v:List Int) (a:Int) (i:Nat) {E:Env} {res:AV} (hE:Qg Try.prog 59 res E) (ho:AllP [(decide ((i:Int)<(l.length:Int)))=false])
 (hr:AvLe (.int .i64 (-1)) res):G Try.prog E (VW Try.prog) (yV l g v a i ) :=
 Qd (n:=400) (evs:=[.b false]) (obs:=_) hE Try.func59 Qi (by kernel_rfl) ho hr
theorem f59cbW0 (l:(List Int)) (g:Gd) (v:List Int) (a:Int) (i:Nat) {E:Env} {rv:Int} (hE:Qg Try.prog 59 (.int .i64 rv) E)
 (h:(((i:Int)<(l.length:Int)→(∃ e:Int,l[i]?=some e∧((OnG g e∧OnG g a∧TabIn g v)∧(((okN g v a e)=true→rv=(i:Int))∧((okN g v a e)=false→((I6 ((i:Int)+1))∧yW E l g v a (i+1)))))))∧(¬ ((i:Int)<(l.length:Int))→rv=(-1)))):yW E l g v a i:=by
 rcases bft (decide ((i:Int)<(l.length:Int))) with hc0 | hc0
 · have h:=h.1 (odt hc0)
   obtain ⟨e,h1,h⟩:=h
   obtain ⟨h2,h⟩:=h
   rcases bft (okN g v a e) with hc1 | hc1
   · have h:=h.1 hc1
     exact p59cb_0_0 l g v a i e hE ⟨hc0,(Qr h1),(rp cI 1 0 1 h1),(u60 (okN_ok e g v a h2)),hc1,trivial⟩ (AvLe.of_eq (by rw [h]; try rfl))
   · have h:=h.2 hc1
     obtain ⟨q6_2,h⟩:=h
     exact p59cb_0_1 l g v a i e hE ⟨hc0,(Qr h1),(rp cI 1 0 1 h1),(u60 (okN_ok e g v a h2)),hc1,q6_2,trivial⟩ h
 · have h:=h.2 (odf hc0)
   exact p59cb_0_2 l g v a i hE ⟨hc0,trivial⟩ (AvLe.of_eq (by rw [h]; try rfl))
theorem idxNxt_ok (l:List Int) (g:Gd) (v:List Int) (a:Int) (h:(∀ x ∈ l,OnG g x∧OnG g a∧TabIn g v)∧l.length≤9223372036854775807):Pure Try.prog 59 [.rsl (rowI l) 0 l.length,.clos 60 [] [.rptr [.rptr [.int .i64 g.w,.int .i64 g.h,.rsl (rowI g.cells) 0 g.cells.length,.rsl (rowI g.hts) 0 g.hts.length,.nilSl,.rsl [] 0 0,.rsl (rowI (Qt g)) 0 ((Qt g).length)] 0] 0,.rptr [.rsl (rowI v) 0 v.length] 0,.rptr [.int .i64 a] 0]] (.int .i64 (idxG (okN g v a) l)):=Qy Try.func59 f59cbb fun E hE=>by
 have hl:=h.2
 refine f59cbW l g v a (rv:=idxG (okN g v a) l) hE (Yp (okN g v a) l l.length 0 (by omega) (fun j x hj=>by omega) (fun i=>yW E l g v a i) (fun i hi' h1 h2=>?_) (fun _ h2=>?_))
 · have hx:l[i]?=some l[i]:=List.getElem?_eq_getElem hi'
   have hm:=List.mem_of_getElem? hx
   exact f59cbW0 l g v a i (rv:=idxG (okN g v a) l) hE ⟨fun _=>⟨_,hx,h.1 _ hm,fun hp=>h1 _ hx (by simpa using hp),fun hp=>⟨by omega,h2 _ hx (by simpa using hp)⟩⟩,fun h=>by omega⟩
 · exact f59cbW0 l g v a _ (rv:=idxG (okN g v a) l) hE ⟨fun h=>by omega,fun _=>h2⟩
theorem f19b:Try.f19.body=some (Qe Try.prog 19):=by kernel_rfl
theorem u19 {a c k:List AV} {r:AV} (h:Pure Try.prog 19 (a++c++k) r):Qf Try.prog (.clos 19 a k) c r:=Qn Try.func19 (by kernel_rfl) f19b h
def f19K0 (P:Program):List Item:=kAt 400 [.code (Qe P 19)] [.b false,.b false,.stop]
def f19S0 (g:Gd) (a:Int) (b:Int) (v4:List Int) (changed:Bool) (g4:Nat):St:=⟨([J,J,J,.int .i64 a,.int .i64 b]++jj 8 ([.ptr 2 0 0,.ptr 5 0 0,.bool changed]++Js 138)),[⟨true,0,1,true,[.int .i64 g.w,.int .i64 g.h,.rsl (rowI g.cells) 0 g.cells.length,.rsl (rowI g.hts) 0 g.hts.length],false⟩,⟨false,1,1,true,[],false⟩,⟨true,0,1,true,[.rptr [.int .i64 g.w,.int .i64 g.h,.rsl (rowI g.cells) 0 g.cells.length,.rsl (rowI g.hts) 0 g.hts.length,.nilSl,.rsl [] 0 0,.rsl (rowI (Qt g)) 0 ((Qt g).length)] 0],false⟩,⟨false,1,1,true,[],false⟩,⟨true,g4,1,true,(rowI v4),true⟩,⟨true,0,1,false,[.sl 4 g4 0 v4.length 1],false⟩]⟩
def f19G0 (E:Env) (g:Gd) (a:Int) (b:Int) (v4:List Int) (changed:Bool):Prop:=∀ g4:Nat,G Try.prog E (f19K0 Try.prog) (f19S0 g a b v4 changed g4)
def f19K1 (P:Program):List Item:=kAt 400 [.code (Qe P 19)] [.b false,.b false,.b true,.stop]
def f19S1 (g:Gd) (a:Int) (b:Int) (v4:List Int) (k:Nat) (changed:Bool) (g4:Nat):St:=⟨([J,J,J,.int .i64 a,.int .i64 b]++jj 8 ([.ptr 2 0 0,.ptr 5 0 0,.bool changed]++jj 49 ([.int .i64 (g.cells.length:Int),.int .i64 (k:Int)]++Js 87))),[⟨true,0,1,true,[.int .i64 g.w,.int .i64 g.h,.rsl (rowI g.cells) 0 g.cells.length,.rsl (rowI g.hts) 0 g.hts.length],false⟩,⟨false,1,1,true,[],false⟩,⟨true,0,1,true,[.rptr [.int .i64 g.w,.int .i64 g.h,.rsl (rowI g.cells) 0 g.cells.length,.rsl (rowI g.hts) 0 g.hts.length,.nilSl,.rsl [] 0 0,.rsl (rowI (Qt g)) 0 ((Qt g).length)] 0],false⟩,⟨false,1,1,true,[],false⟩,⟨true,g4,1,true,(rowI v4),true⟩,⟨true,0,1,false,[.sl 4 g4 0 v4.length 1],false⟩]⟩
def f19G1 (E:Env) (g:Gd) (a:Int) (b:Int) (v4:List Int) (k:Nat) (changed:Bool):Prop:=∀ g4:Nat,G Try.prog E (f19K1 Try.prog) (f19S1 g a b v4 k changed g4)
def VY (P:Program):List Item:=kAt 400 [.code (Qe P 19)] [.b false,.b false,.b true,.b true,.b false,.stop]
def yZ (g:Gd) (a:Int) (b:Int) (c:Nat) (j:Nat) (j1:(List Int)) (j11:Nat) (v4:List Int) (j111:Nat) (changed:Bool) (g4:Nat):St:=⟨([J,J,J,.int .i64 a,.int .i64 b]++jj 8 ([.ptr 2 0 0,.ptr 5 0 0,.bool changed,.int .i64 (c:Int)]++jj 48 ([.int .i64 (g.cells.length:Int),.int .i64 (j:Int)]++jj 8 ([.rsl (rowI j1) 0 j1.length,.int .i64 (j11:Int),.int .i64 (j111:Int)]++Js 76)))),[⟨true,0,1,true,[.int .i64 g.w,.int .i64 g.h,.rsl (rowI g.cells) 0 g.cells.length,.rsl (rowI g.hts) 0 g.hts.length],false⟩,⟨false,1,1,true,[],false⟩,⟨true,0,1,true,[.rptr [.int .i64 g.w,.int .i64 g.h,.rsl (rowI g.cells) 0 g.cells.length,.rsl (rowI g.hts) 0 g.hts.length,.nilSl,.rsl [] 0 0,.rsl (rowI (Qt g)) 0 ((Qt g).length)] 0],false⟩,⟨false,1,1,true,[],false⟩,⟨true,g4,1,true,(rowI v4),true⟩,⟨true,0,1,false,[.sl 4 g4 0 v4.length 1],false⟩]⟩
def f19G2 (E:Env) (g:Gd) (a:Int) (b:Int) (c:Nat) (j:Nat) (j1:(List Int)) (j11:Nat) (v4:List Int) (j111:Nat) (changed:Bool):Prop:=∀ g4:Nat,G Try.prog E (VY Try.prog) (yZ g a b c j j1 j11 v4 j111 changed g4)
def f19K3 (P:Program):List Item:=kAt 400 [.code (Qe P 19)] [.b false,.b false,.b false,.b false,.stop]
def f19S3 (g:Gd) (a:Int) (b:Int) (v4:List Int) (v6:List Int) (v7_0:Int) (g4:Nat) (g6:Nat) (g7:Nat):St:=⟨([J,J,J,.int .i64 a,.int .i64 b]++jj 5 ([.sl 6 g6 0 v6.length 1,J,J,.ptr 2 0 0,.ptr 5 0 0]++jj 5 ([.ptr 7 g7 0]++Js 133))),[⟨true,0,1,true,[.int .i64 g.w,.int .i64 g.h,.rsl (rowI g.cells) 0 g.cells.length,.rsl (rowI g.hts) 0 g.hts.length],false⟩,⟨false,1,1,true,[],false⟩,⟨true,0,1,true,[.rptr [.int .i64 g.w,.int .i64 g.h,.rsl (rowI g.cells) 0 g.cells.length,.rsl (rowI g.hts) 0 g.hts.length,.nilSl,.rsl [] 0 0,.rsl (rowI (Qt g)) 0 ((Qt g).length)] 0],false⟩,⟨false,1,1,true,[],false⟩,⟨true,g4,1,true,(rowI v4),true⟩,⟨true,0,1,false,[.sl 4 g4 0 v4.length 1],false⟩,⟨true,g6,1,true,(rowI v6),true⟩,⟨true,g7,1,true,[.int .i64 v7_0],true⟩]⟩
def f19G3 (E:Env) (g:Gd) (a:Int) (b:Int) (v4:List Int) (v6:List Int) (v7_0:Int):Prop:=∀ g4 g6 g7:Nat,G Try.prog E (f19K3 Try.prog) (f19S3 g a b v4 v6 v7_0 g4 g6 g7)
abbrev Xw (g:Gd):List AV:=[.int .i64 g.w,.int .i64 g.h,.rsl (rowI g.cells) 0 g.cells.length,.rsl (rowI g.hts) 0 g.hts.length,.nilSl,.rsl [] 0 0,.rsl (rowI (Qt g)) 0 ((Qt g).length)]
abbrev WE (g:Gd):List AV:=[.int .i64 g.w,.int .i64 g.h,.rsl (rowI g.cells) 0 g.cells.length,.rsl (rowI g.hts) 0 g.hts.length]
abbrev z19_2 (g:Gd) (g4:Nat) (v4:List Int):List Blk:=[⟨true,0,1,true,(WE g),false⟩,⟨false,1,1,true,[],false⟩,⟨true,0,1,true,[.rptr (Xw g) 0],false⟩,⟨false,1,1,true,[],false⟩,⟨true,g4,1,true,(rowI v4),true⟩,⟨true,0,1,false,[.sl 4 g4 0 v4.length 1],false⟩]
abbrev z19_4 (g:Gd) (j:Nat) (j1:(List Int)) (j11:Nat) (j111:Nat):List AV:=[.int .i64 (g.cells.length:Int),.int .i64 (j:Int)]++jj 8 ([.rsl (rowI j1) 0 j1.length,.int .i64 (j11:Int),.int .i64 ((j111:Int)+1)]++Js 76)
abbrev z19_5 (a:Int) (b:Int):List Blk:=[⟨true,0,1,true,[.int .i64 a,.int .i64 b],true⟩]
abbrev z19_6 (g:Gd) (a:Int) (b:Int):List AV:=[.agg (WE g),.nilSl,.nilSl,.int .i64 a,.int .i64 b]
theorem p19_start_0 (g:Gd) (a:Int) (b:Int) {E:Env} {res:AV} (hE:Qg Try.prog 19 res E) (ho:AllP [Xo Try.prog (.clos 53 [] []) [.agg (WE g),.nilSl,.nilSl,.sl 0 0 0 2 1] (z19_5 a b) (.tup [.nilPtr,.int .i64 1]) [⟨false,1,1,true,[],false⟩],1≤1,true=true])
 (hr:AvLe (.tup [.nilSl,.int .i64 0,.int .i64 1]) res):G Try.prog E [.code (Qe Try.prog 19)] ⟨(z19_6 g a b)++unds (Try.f19.ntmps - 5),[]⟩ :=
 Qd (n:=400) (evs:=[.lent [1] (.tup [.nilPtr,.int .i64 1]) [⟨false,1,1,true,[],false⟩],.b true]) (obs:=_) hE Try.func19 Qi (by kernel_rfl) ho hr
theorem p19_start_1 (g:Gd) (a:Int) (b:Int) {E:Env} {res:AV} (hE:Qg Try.prog 19 res E) (ho:AllP [Xo Try.prog (.clos 53 [] []) [.agg (WE g),.nilSl,.nilSl,.sl 0 0 0 2 1] (z19_5 a b) (.tup [.rptr (Xw g) 0,.int .i64 0]) [⟨false,1,1,true,[],false⟩],1≤1,false=false,Qf Try.prog (.clos 54 [] []) [.rptr (Xw g) 0,.int .i64 a] (.bool (Qx g a)),(!(Qx g a))=true,true=true])
 (hr:AvLe (.tup [.nilSl,.int .i64 0,.int .i64 1]) res):G Try.prog E [.code (Qe Try.prog 19)] ⟨(z19_6 g a b)++unds (Try.f19.ntmps - 5),[]⟩ :=
 Qd (n:=400) (evs:=[.lent [1] (.tup [.rptr (Xw g) 0,.int .i64 0]) [⟨false,1,1,true,[],false⟩],.b false,.v (.bool (Qx g a)),.b true,.b true]) (obs:=_) hE Try.func19 Qi (by kernel_rfl) ho hr
theorem p19_start_2 (g:Gd) (a:Int) (b:Int) {E:Env} {res:AV} (hE:Qg Try.prog 19 res E) (ho:AllP [Xo Try.prog (.clos 53 [] []) [.agg (WE g),.nilSl,.nilSl,.sl 0 0 0 2 1] (z19_5 a b) (.tup [.rptr (Xw g) 0,.int .i64 0]) [⟨false,1,1,true,[],false⟩],1≤1,false=false,Qf Try.prog (.clos 54 [] []) [.rptr (Xw g) 0,.int .i64 a] (.bool (Qx g a)),(!(Qx g a))=false,Qf Try.prog (.clos 54 [] []) [.rptr (Xw g) 0,.int .i64 b] (.bool (Qx g b)),(!(Qx g b))=true])
 (hr:AvLe (.tup [.nilSl,.int .i64 0,.int .i64 1]) res):G Try.prog E [.code (Qe Try.prog 19)] ⟨(z19_6 g a b)++unds (Try.f19.ntmps - 5),[]⟩ :=
 Qd (n:=400) (evs:=[.lent [1] (.tup [.rptr (Xw g) 0,.int .i64 0]) [⟨false,1,1,true,[],false⟩],.b false,.v (.bool (Qx g a)),.b false,.v (.bool (Qx g b)),.b true]) (obs:=_) hE Try.func19 Qi (by kernel_rfl) ho hr
theorem p19_start_3 (g:Gd) (a:Int) (b:Int) (e:Int) {E:Env} {rv:AV} (hE:Qg Try.prog 19 rv E) (ho:AllP [Xo Try.prog (.clos 53 [] []) [.agg (WE g),.nilSl,.nilSl,.sl 0 0 0 2 1] (z19_5 a b) (.tup [.rptr (Xw g) 0,.int .i64 0]) [⟨false,1,1,true,[],false⟩],1≤1,false=false,Qf Try.prog (.clos 54 [] []) [.rptr (Xw g) 0,.int .i64 a] (.bool (Qx g a)),(!(Qx g a))=false,Qf Try.prog (.clos 54 [] []) [.rptr (Xw g) 0,.int .i64 b] (.bool (Qx g b)),(!(Qx g b))=false,(∀ k,slOf 0 k (.sl k 0 0 1 1)=true),Xo Try.prog (.clos 55 [] []) [.rsl [.int .i64 (-1)] 0 1,.int .i64 (g.cells.length:Int)] [] (.sl 0 0 0 ((List.replicate (Int.toNat ((g.cells.length:Int):Int)) ((-1):Int)).length) 1) [⟨true,0,1,true,(rowI (List.replicate (Int.toNat ((g.cells.length:Int):Int)) ((-1):Int))),true⟩],1≤1,Qf Try.prog (.clos 56 [] []) [.rptr (Xw g) 0,.int .i64 b] (.int .i64 (Qu g b)),0≤b∧b<(((List.replicate (Int.toNat ((g.cells.length:Int):Int)) ((-1):Int)).length:Nat):Int),0=0,((0+(Int.toNat b)*1)+1)≤(rowI (List.replicate (Int.toNat ((g.cells.length:Int):Int)) ((-1):Int))).length,0=0])
 (hg:G Try.prog E (f19K0 Try.prog) ⟨([J,J,J,.int .i64 a,.int .i64 b]++jj 8 ([.ptr 2 0 0,.ptr 5 0 0,.bool true]++Js 138)),[⟨true,0,1,true,(WE g),false⟩,⟨false,1,1,true,[],false⟩,⟨true,0,1,true,[.rptr (Xw g) 0],false⟩,⟨false,1,1,true,[],false⟩,⟨true,0,1,true,(QF (rowI (List.replicate (Int.toNat ((g.cells.length:Int):Int)) ((-1):Int))) (0+(Int.toNat b)*1) [.int .i64 (Qu g b)]),true⟩,⟨true,0,1,false,[.sl 4 0 0 ((List.replicate (Int.toNat ((g.cells.length:Int):Int)) ((-1):Int)).length) 1],false⟩]⟩):G Try.prog E [.code (Qe Try.prog 19)] ⟨(z19_6 g a b)++unds (Try.f19.ntmps - 5),[]⟩ :=
 Qj (n:=400) (ds:=[]) (cs:=[]) (live:=[3,4,13,14,15]) (m:=6) (evs:=[.lent [1] (.tup [.rptr (Xw g) 0,.int .i64 0]) [⟨false,1,1,true,[],false⟩],.b false,.v (.bool (Qx g a)),.b false,.v (.bool (Qx g b)),.b false,.vn .junk,.lent [] (.sl 0 0 0 ((List.replicate (Int.toNat ((g.cells.length:Int):Int)) ((-1):Int)).length) 1) [⟨true,0,1,true,(rowI (List.replicate (Int.toNat ((g.cells.length:Int):Int)) ((-1):Int))),true⟩],.v (.int .i64 (Qu g b)),.stop]) (obs:=_) hE.2.1 (hE.nogh _) Qi (by kernel_rfl) ho hg
theorem p19_start_4 (g:Gd) (a:Int) (b:Int) {E:Env} {res:AV} (hE:Qg Try.prog 19 res E) (ho:AllP [Xo Try.prog (.clos 53 [] []) [.agg (WE g),.nilSl,.nilSl,.sl 0 0 0 2 1] (z19_5 a b) (.tup [.nilPtr,.int .i64 40]) [⟨false,1,1,true,[],false⟩],1≤1,true=true])
 (hr:AvLe (.tup [.nilSl,.int .i64 0,.int .i64 40]) res):G Try.prog E [.code (Qe Try.prog 19)] ⟨(z19_6 g a b)++unds (Try.f19.ntmps - 5),[]⟩ :=
 Qd (n:=400) (evs:=[.lent [1] (.tup [.nilPtr,.int .i64 40]) [⟨false,1,1,true,[],false⟩],.b true]) (obs:=_) hE Try.func19 Qi (by kernel_rfl) ho hr
theorem f19W (g:Gd) (a:Int) (b:Int) {E:Env} {rv:((List Int) × Int × Int)} (hE:Qg Try.prog 19 (.tup [.rsl (rowI rv.1) 0 rv.1.length,.int .i64 rv.2.1,.int .i64 rv.2.2]) E)
 (h:(((QX g)=true→(((offs g a b)=true→((GdSmall g)∧rv=(([]:List Int),0,1)))∧((offs g a b)=false→((GdSmall g)∧((OnG g a)∧(((Qx g a)=false→rv=(([]:List Int),0,1))∧((Qx g a)=true→((OnG g b)∧(((Qx g b)=false→rv=(([]:List Int),0,1))∧((Qx g b)=true→(((1:Int)≤((g.cells.length:Int):Int)∧((g.cells.length:Int):Int)≤2147483648)∧((OnG g b)∧(0≤b∧(∃ e:Int,(List.replicate (Int.toNat ((g.cells.length:Int):Int)) ((-1):Int))[Int.toNat b]?=some e∧f19G0 E g a b ((List.replicate (Int.toNat ((g.cells.length:Int):Int)) ((-1):Int)).set (Int.toNat b) (Qu g b)) true))))))))))))))∧((QX g)=false→((GdSmall g)∧rv=(([]:List Int),0,40))))):G Try.prog E [.code (Qe Try.prog 19)] ⟨[.agg [.int .i64 g.w,.int .i64 g.h,.rsl (rowI g.cells) 0 g.cells.length,.rsl (rowI g.hts) 0 g.hts.length],.nilSl,.nilSl,.int .i64 a,.int .i64 b]++unds (Try.f19.ntmps - 5),[]⟩:=by
 rcases bft (QX g) with hc0 | hc0
 · have h:=h.1 hc0
   rcases bft (offs g a b) with hc1 | hc1
   · have h:=h.1 hc1
     obtain ⟨h1,h⟩:=h
     exact p19_start_0 g a b hE ⟨(Qo (fv':=.clos 53 [] []) (args':=[.agg [.int .i64 g.w,.int .i64 g.h,.rsl (rowI g.cells) 0 g.cells.length,.rsl (rowI g.hts) 0 g.hts.length],.nilSl,.nilSl,.rsl [.int .i64 a,.int .i64 b] 0 2]) (o1:=[]) (o2:=[0=0]) (by kernel_rfl) trivial (by kernel_rfl) ⟨rfl,trivial⟩ (u53 (withCell_off g a b h1 hc0 hc1))),(by decide),rfl,trivial⟩ (by rw [h]; exact (Vr ⟨Vi,⟨AvLe.of_eq rfl,⟨AvLe.of_eq rfl,trivial⟩⟩⟩))
   · have h:=h.2 hc1
     obtain ⟨h1,h⟩:=h
     obtain ⟨h2,h⟩:=h
     rcases bft (!(Qx g a)) with hc2 | hc2
     · have h:=h.1 (bnT hc2)
       exact p19_start_1 g a b hE ⟨(Qo (fv':=.clos 53 [] []) (args':=[.agg [.int .i64 g.w,.int .i64 g.h,.rsl (rowI g.cells) 0 g.cells.length,.rsl (rowI g.hts) 0 g.hts.length],.nilSl,.nilSl,.rsl [.int .i64 a,.int .i64 b] 0 2]) (o1:=[]) (o2:=[0=0]) (by kernel_rfl) trivial (by kernel_rfl) ⟨rfl,trivial⟩ (u53 (Vl g a b h1 hc0 hc1))),(by decide),rfl,(u54 (Xx g a h2)),hc2,rfl,trivial⟩ (by rw [h]; exact (Vr ⟨Vi,⟨AvLe.of_eq rfl,⟨AvLe.of_eq rfl,trivial⟩⟩⟩))
     · have h:=h.2 (bnF hc2)
       obtain ⟨h3,h⟩:=h
       rcases bft (!(Qx g b)) with hc3 | hc3
       · have h:=h.1 (bnT hc3)
         exact p19_start_2 g a b hE ⟨(Qo (fv':=.clos 53 [] []) (args':=[.agg [.int .i64 g.w,.int .i64 g.h,.rsl (rowI g.cells) 0 g.cells.length,.rsl (rowI g.hts) 0 g.hts.length],.nilSl,.nilSl,.rsl [.int .i64 a,.int .i64 b] 0 2]) (o1:=[]) (o2:=[0=0]) (by kernel_rfl) trivial (by kernel_rfl) ⟨rfl,trivial⟩ (u53 (Vl g a b h1 hc0 hc1))),(by decide),rfl,(u54 (Xx g a h2)),hc2,(u54 (Xx g b h3)),hc3,trivial⟩ (by rw [h]; exact (Vr ⟨Vi,⟨AvLe.of_eq rfl,⟨AvLe.of_eq rfl,trivial⟩⟩⟩))
       · have h:=h.2 (bnF hc3)
         obtain ⟨h4,h⟩:=h
         obtain ⟨h5,h⟩:=h
         obtain ⟨h7,h⟩:=h
         obtain ⟨e,h6,h⟩:=h
         refine p19_start_3 g a b e hE ⟨(Qo (fv':=.clos 53 [] []) (args':=[.agg [.int .i64 g.w,.int .i64 g.h,.rsl (rowI g.cells) 0 g.cells.length,.rsl (rowI g.hts) 0 g.hts.length],.nilSl,.nilSl,.rsl [.int .i64 a,.int .i64 b] 0 2]) (o1:=[]) (o2:=[0=0]) (by kernel_rfl) trivial (by kernel_rfl) ⟨rfl,trivial⟩ (u53 (Vl g a b h1 hc0 hc1))),(by decide),rfl,(u54 (Xx g a h2)),hc2,(u54 (Xx g b h3)),hc3,(fun k=>by simp [slOf]),(Vy Try.func55 (by kernel_rfl) f55b (YO ((-1):Int) ((g.cells.length:Int):Int) h4)),(by decide),(u56 (VG g b h5)),(Qh h7 h6),rfl,(rf cI 1 0 1 h6),rfl,trivial⟩ ?_
         have h:=(h 0)
         simp only [f19S0,List.length_set] at h
         rw [(show QF (rowI (List.replicate (Int.toNat ((g.cells.length:Int):Int)) ((-1):Int))) (0+(Int.toNat b)*1) [.int .i64 (Qu g b)]=rowI ((List.replicate (Int.toNat ((g.cells.length:Int):Int)) ((-1):Int)).set (Int.toNat b) (Qu g b)) from QU cI (s:=1) (k:=0) (fun _=>rfl) h6 rfl (by first | decide | simp))]
         exact h
 · have h:=h.2 hc0
   obtain ⟨h1,h⟩:=h
   exact p19_start_4 g a b hE ⟨(Qo (fv':=.clos 53 [] []) (args':=[.agg [.int .i64 g.w,.int .i64 g.h,.rsl (rowI g.cells) 0 g.cells.length,.rsl (rowI g.hts) 0 g.hts.length],.nilSl,.nilSl,.rsl [.int .i64 a,.int .i64 b] 0 2]) (o1:=[]) (o2:=[0=0]) (by kernel_rfl) trivial (by kernel_rfl) ⟨rfl,trivial⟩ (u53 (withCell_bad g a b h1 hc0))),(by decide),rfl,trivial⟩ (by rw [h]; exact (Vr ⟨Vi,⟨AvLe.of_eq rfl,⟨AvLe.of_eq rfl,trivial⟩⟩⟩))
theorem p19_0_0 (g:Gd) (a:Int) (b:Int) (v4:List Int) (changed:Bool) (g4:Nat) {E:Env} {rv:AV} (hE:Qg Try.prog 19 rv E) (ho:AllP [changed=true])
 (hg:G Try.prog E (f19K1 Try.prog) ⟨([J,J,J,.int .i64 a,.int .i64 b]++jj 8 ([.ptr 2 0 0,.ptr 5 0 0,.bool false]++jj 49 ([.int .i64 (g.cells.length:Int),.int .i64 0]++Js 87))),(z19_2 g g4 v4)⟩):G Try.prog E (f19K0 Try.prog) (f19S0 g a b v4 changed g4) :=
 Qj (n:=400) (ds:=[]) (cs:=[]) (live:=[3,4,13,14,15,65,66]) (m:=6) (evs:=[.b true,.stop]) (obs:=_) hE.2.1 (hE.nogh _) Qi (by kernel_rfl) ho hg
theorem p19_0_1 (g:Gd) (a:Int) (b:Int) (v4:List Int) (changed:Bool) (g4:Nat) (e:Int) {E:Env} {res:AV} (hE:Qg Try.prog 19 res E) (ho:AllP [changed=false,0≤a∧a<(v4.length:Int),g4=g4,g4=g4,((rowI v4).drop (0+(Int.toNat a)*1)).take 1=[.int .i64 e],(decide (e<0))=true])
 (hr:AvLe (.tup [.nilSl,.int .i64 0,.int .i64 3]) res):G Try.prog E (f19K0 Try.prog) (f19S0 g a b v4 changed g4) :=
 Qd (n:=400) (evs:=[.b false,.auto,.ld (.int .i64 e),.b true]) (obs:=_) hE Try.func19 Qi (by kernel_rfl) ho hr
theorem p19_0_2 (g:Gd) (a:Int) (b:Int) (v4:List Int) (changed:Bool) (g4:Nat) (e:Int) {E:Env} {rv:AV} (hE:Qg Try.prog 19 rv E) (ho:AllP [changed=false,0≤a∧a<(v4.length:Int),g4=g4,g4=g4,((rowI v4).drop (0+(Int.toNat a)*1)).take 1=[.int .i64 e],(decide (e<0))=false,1≤1,0=0])
 (hg:G Try.prog E (f19K3 Try.prog) ⟨([J,J,J,.int .i64 a,.int .i64 b]++jj 5 ([.sl 6 0 0 1 1,J,J,.ptr 2 0 0,.ptr 5 0 0]++jj 5 ([.ptr 7 0 0]++Js 133))),[⟨true,0,1,true,(WE g),false⟩,⟨false,1,1,true,[],false⟩,⟨true,0,1,true,[.rptr (Xw g) 0],false⟩,⟨false,1,1,true,[],false⟩,⟨true,g4,1,true,(rowI v4),true⟩,⟨true,0,1,false,[.sl 4 g4 0 v4.length 1],false⟩,⟨true,0,1,true,[.int .i64 a],true⟩,⟨true,0,1,true,[.int .i64 a],true⟩]⟩):G Try.prog E (f19K0 Try.prog) (f19S0 g a b v4 changed g4) :=
 Qj (n:=400) (ds:=[]) (cs:=[]) (live:=[3,4,10,13,14,20]) (m:=8) (evs:=[.b false,.auto,.ld (.int .i64 e),.b false,.born,.stop]) (obs:=_) hE.2.1 (hE.nogh _) Qi (by kernel_rfl) ho hg
theorem f19W0 (g:Gd) (a:Int) (b:Int) (v4:List Int) (changed:Bool) {E:Env} {rv:((List Int) × Int × Int)} (hE:Qg Try.prog 19 (.tup [.rsl (rowI rv.1) 0 rv.1.length,.int .i64 rv.2.1,.int .i64 rv.2.2]) E)
 (h:((changed=true→f19G1 E g a b v4 0 false)∧(changed=false→(0≤a∧(∃ e:Int,v4[Int.toNat a]?=some e∧((e<0→rv=(([]:List Int),0,3))∧(¬ (e<0)→f19G3 E g a b v4 ([a]) a))))))):f19G0 E g a b v4 changed:=by
 intro g4
 rcases bft changed with hc0 | hc0
 · have h:=h.1 hc0
   exact p19_0_0 g a b v4 changed g4 hE ⟨hc0,trivial⟩ (h g4)
 · have h:=h.2 hc0
   obtain ⟨h2,h⟩:=h
   obtain ⟨e,h1,h⟩:=h
   rcases bft (decide (e<0)) with hc1 | hc1
   · have h:=h.1 (odt hc1)
     exact p19_0_1 g a b v4 changed g4 e hE ⟨hc0,(Qh h2 h1),rfl,rfl,(rp cI 1 0 1 h1),hc1,trivial⟩ (by rw [h]; exact (Vr ⟨Vi,⟨AvLe.of_eq rfl,⟨AvLe.of_eq rfl,trivial⟩⟩⟩))
   · have h:=h.2 (odf hc1)
     exact p19_0_2 g a b v4 changed g4 e hE ⟨hc0,(Qh h2 h1),rfl,rfl,(rp cI 1 0 1 h1),hc1,(by decide),rfl,trivial⟩ (h g4 0 0)
theorem p19_1_0 (g:Gd) (a:Int) (b:Int) (v4:List Int) (k:Nat) (changed:Bool) (g4:Nat) {E:Env} {rv:AV} (hE:Qg Try.prog 19 rv E) (ho:AllP [(decide ((k:Int)<(g.cells.length:Int)))=true,Qf Try.prog (.clos 54 [] []) [.rptr (Xw g) 0,.int .i64 (k:Int)] (.bool (Qx g (k:Int))),(!(Qx g (k:Int)))=true,InR .i64 ((k:Int)+1)])
 (hg:G Try.prog E (f19K1 Try.prog) ⟨([J,J,J,.int .i64 a,.int .i64 b]++jj 8 ([.ptr 2 0 0,.ptr 5 0 0,.bool changed]++jj 49 ([.int .i64 (g.cells.length:Int),.int .i64 ((k:Int)+1)]++Js 87))),(z19_2 g g4 v4)⟩):G Try.prog E (f19K1 Try.prog) (f19S1 g a b v4 k changed g4) :=
 Qj (n:=400) (ds:=[]) (cs:=[]) (live:=[3,4,13,14,15,65,66]) (m:=6) (evs:=[.b true,.v (.bool (Qx g (k:Int))),.b true,.stop]) (obs:=_) hE.2.1 (hE.nogh _) Qi (by kernel_rfl) ho hg
theorem p19_1_1 (g:Gd) (a:Int) (b:Int) (v4:List Int) (k:Nat) (changed:Bool) (g4:Nat) {E:Env} {rv:AV} (hE:Qg Try.prog 19 rv E) (ho:AllP [(decide ((k:Int)<(g.cells.length:Int)))=true,Qf Try.prog (.clos 54 [] []) [.rptr (Xw g) 0,.int .i64 (k:Int)] (.bool (Qx g (k:Int))),(!(Qx g (k:Int)))=false,Qf Try.prog (.clos 57 [] []) [.rptr (Xw g) 0,.int .i64 (k:Int)] (.rsl (rowI (Qq g (k:Int))) 0 ((Qq g (k:Int)).length))])
 (hg:G Try.prog E (VY Try.prog) ⟨([J,J,J,.int .i64 a,.int .i64 b]++jj 8 ([.ptr 2 0 0,.ptr 5 0 0,.bool changed,.int .i64 (k:Int)]++jj 48 ([.int .i64 (g.cells.length:Int),.int .i64 (k:Int)]++jj 8 ([.rsl (rowI (Qq g (k:Int))) 0 ((Qq g (k:Int)).length),.int .i64 (((Qq g (k:Int)).length:Nat):Int),.int .i64 0]++Js 76)))),(z19_2 g g4 v4)⟩):G Try.prog E (f19K1 Try.prog) (f19S1 g a b v4 k changed g4) :=
 Qj (n:=400) (ds:=[]) (cs:=[]) (live:=[3,4,13,14,15,16,65,66,75,76,77]) (m:=6) (evs:=[.b true,.v (.bool (Qx g (k:Int))),.b false,.v (.rsl (rowI (Qq g (k:Int))) 0 ((Qq g (k:Int)).length)),.stop]) (obs:=_) hE.2.1 (hE.nogh _) Qi (by kernel_rfl) ho hg
theorem p19_1_2 (g:Gd) (a:Int) (b:Int) (v4:List Int) (k:Nat) (changed:Bool) (g4:Nat) {E:Env} {rv:AV} (hE:Qg Try.prog 19 rv E) (ho:AllP [(decide ((k:Int)<(g.cells.length:Int)))=false])
 (hg:G Try.prog E (f19K0 Try.prog) ⟨([J,J,J,.int .i64 a,.int .i64 b]++jj 8 ([.ptr 2 0 0,.ptr 5 0 0,.bool changed]++Js 138)),(z19_2 g g4 v4)⟩):G Try.prog E (f19K1 Try.prog) (f19S1 g a b v4 k changed g4) :=
 Qj (n:=400) (ds:=[]) (cs:=[]) (live:=[3,4,13,14,15]) (m:=6) (evs:=[.b false,.stop]) (obs:=_) hE.2.1 (hE.nogh _) Qi (by kernel_rfl) ho hg
theorem f19W1 (g:Gd) (a:Int) (b:Int) (v4:List Int) (k:Nat) (changed:Bool) {E:Env} {rv:((List Int) × Int × Int)} (hE:Qg Try.prog 19 (.tup [.rsl (rowI rv.1) 0 rv.1.length,.int .i64 rv.2.1,.int .i64 rv.2.2]) E)
 (h:(((k:Int)<(g.cells.length:Int)→((OnG g (k:Int))∧(((Qx g (k:Int))=false→((I6 ((k:Int)+1))∧f19G1 E g a b v4 (k+1) changed))∧((Qx g (k:Int))=true→((OnG g (k:Int))∧f19G2 E g a b k k (Qq g (k:Int)) ((Qq g (k:Int)).length) v4 0 changed)))))∧(¬ ((k:Int)<(g.cells.length:Int))→f19G0 E g a b v4 changed))):f19G1 E g a b v4 k changed:=by
 intro g4
 rcases bft (decide ((k:Int)<(g.cells.length:Int))) with hc0 | hc0
 · have h:=h.1 (odt hc0)
   obtain ⟨h1,h⟩:=h
   rcases bft (!(Qx g (k:Int))) with hc1 | hc1
   · have h:=h.1 (bnT hc1)
     obtain ⟨q3_2,h⟩:=h
     exact p19_1_0 g a b v4 k changed g4 hE ⟨hc0,(u54 (Xx g (k:Int) h1)),hc1,q3_2,trivial⟩ (h g4)
   · have h:=h.2 (bnF hc1)
     obtain ⟨h2,h⟩:=h
     exact p19_1_1 g a b v4 k changed g4 hE ⟨hc0,(u54 (Xx g (k:Int) h1)),hc1,(u57 (beside_ok g (k:Int) h2)),trivial⟩ (h g4)
 · have h:=h.2 (odf hc0)
   exact p19_1_2 g a b v4 k changed g4 hE ⟨hc0,trivial⟩ (h g4)
theorem p19_2_0 (g:Gd) (a:Int) (b:Int) (c:Nat) (j:Nat) (j1:(List Int)) (j11:Nat) (v4:List Int) (j111:Nat) (changed:Bool) (g4:Nat) (e:Int) (e1:Int) {E:Env} {rv:AV} (hE:Qg Try.prog 19 rv E) (ho:AllP [(decide ((j111:Int)<(j11:Int)))=true,0≤(j111:Int)∧(j111:Int)<(j1.length:Int),((rowI j1).drop (0+(Int.toNat (j111:Int))*1)).take 1=[.int .i64 e],0≤e∧e<(v4.length:Int),g4=g4,g4=g4,((rowI v4).drop (0+(Int.toNat e)*1)).take 1=[.int .i64 e1],(decide (e1<0))=true,true=true,InR .i64 ((j111:Int)+1)])
 (hg:G Try.prog E (VY Try.prog) ⟨([J,J,J,.int .i64 a,.int .i64 b]++jj 8 ([.ptr 2 0 0,.ptr 5 0 0,.bool changed,.int .i64 (c:Int)]++jj 48 (z19_4 g j j1 j11 j111))),(z19_2 g g4 v4)⟩):G Try.prog E (VY Try.prog) (yZ g a b c j j1 j11 v4 j111 changed g4) :=
 Qj (n:=400) (ds:=[]) (cs:=[]) (live:=[3,4,13,14,15,16,65,66,75,76,77]) (m:=6) (evs:=[.b true,.ld (.int .i64 e),.auto,.ld (.int .i64 e1),.b true,.b true,.stop]) (obs:=_) hE.2.1 (hE.nogh _) Qi (by kernel_rfl) ho hg
theorem p19_2_1 (g:Gd) (a:Int) (b:Int) (c:Nat) (j:Nat) (j1:(List Int)) (j11:Nat) (v4:List Int) (j111:Nat) (changed:Bool) (g4:Nat) (e:Int) (e1:Int) {E:Env} {rv:AV} (hE:Qg Try.prog 19 rv E) (ho:AllP [(decide ((j111:Int)<(j11:Int)))=true,0≤(j111:Int)∧(j111:Int)<(j1.length:Int),((rowI j1).drop (0+(Int.toNat (j111:Int))*1)).take 1=[.int .i64 e],0≤e∧e<(v4.length:Int),g4=g4,g4=g4,((rowI v4).drop (0+(Int.toNat e)*1)).take 1=[.int .i64 e1],(decide (e1<0))=false,Qf Try.prog (.clos 54 [] []) [.rptr (Xw g) 0,.int .i64 e] (.bool (Qx g e)),(!(Qx g e))=true,InR .i64 ((j111:Int)+1)])
 (hg:G Try.prog E (VY Try.prog) ⟨([J,J,J,.int .i64 a,.int .i64 b]++jj 8 ([.ptr 2 0 0,.ptr 5 0 0,.bool changed,.int .i64 (c:Int)]++jj 48 (z19_4 g j j1 j11 j111))),(z19_2 g g4 v4)⟩):G Try.prog E (VY Try.prog) (yZ g a b c j j1 j11 v4 j111 changed g4) :=
 Qj (n:=400) (ds:=[]) (cs:=[]) (live:=[3,4,13,14,15,16,65,66,75,76,77]) (m:=6) (evs:=[.b true,.ld (.int .i64 e),.auto,.ld (.int .i64 e1),.b false,.v (.bool (Qx g e)),.b true,.stop]) (obs:=_) hE.2.1 (hE.nogh _) Qi (by kernel_rfl) ho hg
theorem p19_2_2 (g:Gd) (a:Int) (b:Int) (c:Nat) (j:Nat) (j1:(List Int)) (j11:Nat) (v4:List Int) (j111:Nat) (changed:Bool) (g4:Nat) (e:Int) (e1:Int) (e2:Int) {E:Env} {rv:AV} (hE:Qg Try.prog 19 rv E) (ho:AllP [(decide ((j111:Int)<(j11:Int)))=true,0≤(j111:Int)∧(j111:Int)<(j1.length:Int),((rowI j1).drop (0+(Int.toNat (j111:Int))*1)).take 1=[.int .i64 e],0≤e∧e<(v4.length:Int),g4=g4,g4=g4,((rowI v4).drop (0+(Int.toNat e)*1)).take 1=[.int .i64 e1],(decide (e1<0))=false,Qf Try.prog (.clos 54 [] []) [.rptr (Xw g) 0,.int .i64 e] (.bool (Qx g e)),(!(Qx g e))=false,0≤e∧e<(v4.length:Int),g4=g4,g4=g4,((rowI v4).drop (0+(Int.toNat e)*1)).take 1=[.int .i64 e1],Qf Try.prog (.clos 58 [] []) [.rptr (Xw g) 0,.int .i64 (c:Int),.int .i64 e] (.int .i64 (QM g (c:Int) e)),InR .i64 (e1+(QM g (c:Int) e)),Qf Try.prog (.clos 56 [] []) [.rptr (Xw g) 0,.int .i64 (c:Int)] (.int .i64 (Qu g (c:Int))),InR .i64 ((e1+(QM g (c:Int) e))+(Qu g (c:Int))),0≤(c:Int)∧(c:Int)<(v4.length:Int),g4=g4,g4=g4,((rowI v4).drop (0+(Int.toNat (c:Int))*1)).take 1=[.int .i64 e2],(decide (e2<0))=true,true=true,0≤(c:Int)∧(c:Int)<(v4.length:Int),g4=g4,((0+(Int.toNat (c:Int))*1)+1)≤(rowI v4).length,g4=g4,InR .i64 ((j111:Int)+1)])
 (hg:G Try.prog E (VY Try.prog) ⟨([J,J,J,.int .i64 a,.int .i64 b]++jj 8 ([.ptr 2 0 0,.ptr 5 0 0,.bool true,.int .i64 (c:Int)]++jj 48 (z19_4 g j j1 j11 j111))),[⟨true,0,1,true,(WE g),false⟩,⟨false,1,1,true,[],false⟩,⟨true,0,1,true,[.rptr (Xw g) 0],false⟩,⟨false,1,1,true,[],false⟩,⟨true,g4,1,true,(QF (rowI v4) (0+(Int.toNat (c:Int))*1) [.int .i64 ((e1+(QM g (c:Int) e))+(Qu g (c:Int)))]),true⟩,⟨true,0,1,false,[.sl 4 g4 0 v4.length 1],false⟩]⟩):G Try.prog E (VY Try.prog) (yZ g a b c j j1 j11 v4 j111 changed g4) :=
 Qj (n:=400) (ds:=[]) (cs:=[]) (live:=[3,4,13,14,15,16,65,66,75,76,77]) (m:=6) (evs:=[.b true,.ld (.int .i64 e),.auto,.ld (.int .i64 e1),.b false,.v (.bool (Qx g e)),.b false,.auto,.ld (.int .i64 e1),.v (.int .i64 (QM g (c:Int) e)),.v (.int .i64 (Qu g (c:Int))),.auto,.ld (.int .i64 e2),.b true,.b true,.stop]) (obs:=_) hE.2.1 (hE.nogh _) Qi (by kernel_rfl) ho hg
theorem p19_2_3 (g:Gd) (a:Int) (b:Int) (c:Nat) (j:Nat) (j1:(List Int)) (j11:Nat) (v4:List Int) (j111:Nat) (changed:Bool) (g4:Nat) (e:Int) (e1:Int) (e2:Int) {E:Env} {rv:AV} (hE:Qg Try.prog 19 rv E) (ho:AllP [(decide ((j111:Int)<(j11:Int)))=true,0≤(j111:Int)∧(j111:Int)<(j1.length:Int),((rowI j1).drop (0+(Int.toNat (j111:Int))*1)).take 1=[.int .i64 e],0≤e∧e<(v4.length:Int),g4=g4,g4=g4,((rowI v4).drop (0+(Int.toNat e)*1)).take 1=[.int .i64 e1],(decide (e1<0))=false,Qf Try.prog (.clos 54 [] []) [.rptr (Xw g) 0,.int .i64 e] (.bool (Qx g e)),(!(Qx g e))=false,0≤e∧e<(v4.length:Int),g4=g4,g4=g4,((rowI v4).drop (0+(Int.toNat e)*1)).take 1=[.int .i64 e1],Qf Try.prog (.clos 58 [] []) [.rptr (Xw g) 0,.int .i64 (c:Int),.int .i64 e] (.int .i64 (QM g (c:Int) e)),InR .i64 (e1+(QM g (c:Int) e)),Qf Try.prog (.clos 56 [] []) [.rptr (Xw g) 0,.int .i64 (c:Int)] (.int .i64 (Qu g (c:Int))),InR .i64 ((e1+(QM g (c:Int) e))+(Qu g (c:Int))),0≤(c:Int)∧(c:Int)<(v4.length:Int),g4=g4,g4=g4,((rowI v4).drop (0+(Int.toNat (c:Int))*1)).take 1=[.int .i64 e2],(decide (e2<0))=false,0≤(c:Int)∧(c:Int)<(v4.length:Int),g4=g4,g4=g4,((rowI v4).drop (0+(Int.toNat (c:Int))*1)).take 1=[.int .i64 e2],(decide (((e1+(QM g (c:Int) e))+(Qu g (c:Int)))<e2))=true,0≤(c:Int)∧(c:Int)<(v4.length:Int),g4=g4,((0+(Int.toNat (c:Int))*1)+1)≤(rowI v4).length,g4=g4,InR .i64 ((j111:Int)+1)])
 (hg:G Try.prog E (VY Try.prog) ⟨([J,J,J,.int .i64 a,.int .i64 b]++jj 8 ([.ptr 2 0 0,.ptr 5 0 0,.bool true,.int .i64 (c:Int)]++jj 48 (z19_4 g j j1 j11 j111))),[⟨true,0,1,true,(WE g),false⟩,⟨false,1,1,true,[],false⟩,⟨true,0,1,true,[.rptr (Xw g) 0],false⟩,⟨false,1,1,true,[],false⟩,⟨true,g4,1,true,(QF (rowI v4) (0+(Int.toNat (c:Int))*1) [.int .i64 ((e1+(QM g (c:Int) e))+(Qu g (c:Int)))]),true⟩,⟨true,0,1,false,[.sl 4 g4 0 v4.length 1],false⟩]⟩):G Try.prog E (VY Try.prog) (yZ g a b c j j1 j11 v4 j111 changed g4) :=
 Qj (n:=400) (ds:=[]) (cs:=[]) (live:=[3,4,13,14,15,16,65,66,75,76,77]) (m:=6) (evs:=[.b true,.ld (.int .i64 e),.auto,.ld (.int .i64 e1),.b false,.v (.bool (Qx g e)),.b false,.auto,.ld (.int .i64 e1),.v (.int .i64 (QM g (c:Int) e)),.v (.int .i64 (Qu g (c:Int))),.auto,.ld (.int .i64 e2),.b false,.auto,.ld (.int .i64 e2),.b true,.stop]) (obs:=_) hE.2.1 (hE.nogh _) Qi (by kernel_rfl) ho hg
theorem p19_2_4 (g:Gd) (a:Int) (b:Int) (c:Nat) (j:Nat) (j1:(List Int)) (j11:Nat) (v4:List Int) (j111:Nat) (changed:Bool) (g4:Nat) (e:Int) (e1:Int) (e2:Int) {E:Env} {rv:AV} (hE:Qg Try.prog 19 rv E) (ho:AllP [(decide ((j111:Int)<(j11:Int)))=true,0≤(j111:Int)∧(j111:Int)<(j1.length:Int),((rowI j1).drop (0+(Int.toNat (j111:Int))*1)).take 1=[.int .i64 e],0≤e∧e<(v4.length:Int),g4=g4,g4=g4,((rowI v4).drop (0+(Int.toNat e)*1)).take 1=[.int .i64 e1],(decide (e1<0))=false,Qf Try.prog (.clos 54 [] []) [.rptr (Xw g) 0,.int .i64 e] (.bool (Qx g e)),(!(Qx g e))=false,0≤e∧e<(v4.length:Int),g4=g4,g4=g4,((rowI v4).drop (0+(Int.toNat e)*1)).take 1=[.int .i64 e1],Qf Try.prog (.clos 58 [] []) [.rptr (Xw g) 0,.int .i64 (c:Int),.int .i64 e] (.int .i64 (QM g (c:Int) e)),InR .i64 (e1+(QM g (c:Int) e)),Qf Try.prog (.clos 56 [] []) [.rptr (Xw g) 0,.int .i64 (c:Int)] (.int .i64 (Qu g (c:Int))),InR .i64 ((e1+(QM g (c:Int) e))+(Qu g (c:Int))),0≤(c:Int)∧(c:Int)<(v4.length:Int),g4=g4,g4=g4,((rowI v4).drop (0+(Int.toNat (c:Int))*1)).take 1=[.int .i64 e2],(decide (e2<0))=false,0≤(c:Int)∧(c:Int)<(v4.length:Int),g4=g4,g4=g4,((rowI v4).drop (0+(Int.toNat (c:Int))*1)).take 1=[.int .i64 e2],(decide (((e1+(QM g (c:Int) e))+(Qu g (c:Int)))<e2))=false,InR .i64 ((j111:Int)+1)])
 (hg:G Try.prog E (VY Try.prog) ⟨([J,J,J,.int .i64 a,.int .i64 b]++jj 8 ([.ptr 2 0 0,.ptr 5 0 0,.bool changed,.int .i64 (c:Int)]++jj 48 (z19_4 g j j1 j11 j111))),(z19_2 g g4 v4)⟩):G Try.prog E (VY Try.prog) (yZ g a b c j j1 j11 v4 j111 changed g4) :=
 Qj (n:=400) (ds:=[]) (cs:=[]) (live:=[3,4,13,14,15,16,65,66,75,76,77]) (m:=6) (evs:=[.b true,.ld (.int .i64 e),.auto,.ld (.int .i64 e1),.b false,.v (.bool (Qx g e)),.b false,.auto,.ld (.int .i64 e1),.v (.int .i64 (QM g (c:Int) e)),.v (.int .i64 (Qu g (c:Int))),.auto,.ld (.int .i64 e2),.b false,.auto,.ld (.int .i64 e2),.b false,.stop]) (obs:=_) hE.2.1 (hE.nogh _) Qi (by kernel_rfl) ho hg
theorem p19_2_5 (g:Gd) (a:Int) (b:Int) (c:Nat) (j:Nat) (j1:(List Int)) (j11:Nat) (v4:List Int) (j111:Nat) (changed:Bool) (g4:Nat) {E:Env} {rv:AV} (hE:Qg Try.prog 19 rv E) (ho:AllP [(decide ((j111:Int)<(j11:Int)))=false,InR .i64 ((j:Int)+1)])
 (hg:G Try.prog E (f19K1 Try.prog) ⟨([J,J,J,.int .i64 a,.int .i64 b]++jj 8 ([.ptr 2 0 0,.ptr 5 0 0,.bool changed]++jj 49 ([.int .i64 (g.cells.length:Int),.int .i64 ((j:Int)+1)]++Js 87))),(z19_2 g g4 v4)⟩):G Try.prog E (VY Try.prog) (yZ g a b c j j1 j11 v4 j111 changed g4) :=
 Qj (n:=400) (ds:=[]) (cs:=[]) (live:=[3,4,13,14,15,65,66]) (m:=6) (evs:=[.b false,.stop]) (obs:=_) hE.2.1 (hE.nogh _) Qi (by kernel_rfl) ho hg
theorem f19W2 (g:Gd) (a:Int) (b:Int) (c:Nat) (j:Nat) (j1:(List Int)) (j11:Nat) (v4:List Int) (j111:Nat) (changed:Bool) {E:Env} {rv:((List Int) × Int × Int)} (hE:Qg Try.prog 19 (.tup [.rsl (rowI rv.1) 0 rv.1.length,.int .i64 rv.2.1,.int .i64 rv.2.2]) E)
 (h:(((j111:Int)<(j11:Int)→(∃ e:Int,j1[j111]?=some e∧(0≤e∧(∃ e1:Int,v4[Int.toNat e]?=some e1∧((e1<0→((I6 ((j111:Int)+1))∧f19G2 E g a b c j j1 j11 v4 (j111+1) changed))∧(¬ (e1<0)→((OnG g e)∧(((Qx g e)=false→((I6 ((j111:Int)+1))∧f19G2 E g a b c j j1 j11 v4 (j111+1) changed))∧((Qx g e)=true→((OnG g (c:Int)∧OnG g e)∧((I6 (e1+(QM g (c:Int) e)))∧((OnG g (c:Int))∧((I6 ((e1+(QM g (c:Int) e))+(Qu g (c:Int))))∧(∃ e2:Int,v4[c]?=some e2∧((e2<0→((I6 ((j111:Int)+1))∧f19G2 E g a b c j j1 j11 (v4.set c ((e1+(QM g (c:Int) e))+(Qu g (c:Int)))) (j111+1) true))∧(¬ (e2<0)→((((e1+(QM g (c:Int) e))+(Qu g (c:Int)))<e2→((I6 ((j111:Int)+1))∧f19G2 E g a b c j j1 j11 (v4.set c ((e1+(QM g (c:Int) e))+(Qu g (c:Int)))) (j111+1) true))∧(¬ (((e1+(QM g (c:Int) e))+(Qu g (c:Int)))<e2)→((I6 ((j111:Int)+1))∧f19G2 E g a b c j j1 j11 v4 (j111+1) changed)))))))))))))))))))∧(¬ ((j111:Int)<(j11:Int))→((I6 ((j:Int)+1))∧f19G1 E g a b v4 (j+1) changed)))):f19G2 E g a b c j j1 j11 v4 j111 changed:=by
 intro g4
 rcases bft (decide ((j111:Int)<(j11:Int))) with hc0 | hc0
 · have h:=h.1 (odt hc0)
   obtain ⟨e,h1,h⟩:=h
   obtain ⟨h3,h⟩:=h
   obtain ⟨e1,h2,h⟩:=h
   rcases bft (decide (e1<0)) with hc1 | hc1
   · have h:=h.1 (odt hc1)
     obtain ⟨q11_2,h⟩:=h
     exact p19_2_0 g a b c j j1 j11 v4 j111 changed g4 e e1 hE ⟨hc0,(Qr h1),(rp cI 1 0 1 h1),(Qh h3 h2),rfl,rfl,(rp cI 1 0 1 h2),hc1,rfl,q11_2,trivial⟩ (h g4)
   · have h:=h.2 (odf hc1)
     obtain ⟨h4,h⟩:=h
     rcases bft (!(Qx g e)) with hc2 | hc2
     · have h:=h.1 (bnT hc2)
       obtain ⟨q12_3,h⟩:=h
       exact p19_2_1 g a b c j j1 j11 v4 j111 changed g4 e e1 hE ⟨hc0,(Qr h1),(rp cI 1 0 1 h1),(Qh h3 h2),rfl,rfl,(rp cI 1 0 1 h2),hc1,(u54 (Xx g e h4)),hc2,q12_3,trivial⟩ (h g4)
     · have h:=h.2 (bnF hc2)
       obtain ⟨h5,h⟩:=h
       obtain ⟨q17_3,h⟩:=h
       obtain ⟨h6,h⟩:=h
       obtain ⟨q19_3,h⟩:=h
       obtain ⟨e2,h7,h⟩:=h
       rcases bft (decide (e2<0)) with hc3 | hc3
       · have h:=h.1 (odt hc3)
         obtain ⟨q31_4,h⟩:=h
         refine p19_2_2 g a b c j j1 j11 v4 j111 changed g4 e e1 e2 hE ⟨hc0,(Qr h1),(rp cI 1 0 1 h1),(Qh h3 h2),rfl,rfl,(rp cI 1 0 1 h2),hc1,(u54 (Xx g e h4)),hc2,(Qh h3 h2),rfl,rfl,(rp cI 1 0 1 h2),(u58 (ym g (c:Int) e h5)),q17_3,(u56 (VG g (c:Int) h6)),q19_3,(Qr h7),rfl,rfl,(rp cI 1 0 1 h7),hc3,rfl,(Qr h7),rfl,(rf cI 1 0 1 h7),rfl,q31_4,trivial⟩ ?_
         have h:=(h g4)
         simp only [yZ,List.length_set] at h
         rw [(show QF (rowI v4) (0+(Int.toNat (c:Int))*1) [.int .i64 ((e1+(QM g (c:Int) e))+(Qu g (c:Int)))]=rowI (v4.set c ((e1+(QM g (c:Int) e))+(Qu g (c:Int)))) from QU cI (s:=1) (k:=0) (fun _=>rfl) h7 rfl (by first | decide | simp))]
         exact h
       · have h:=h.2 (odf hc3)
         rcases bft (decide (((e1+(QM g (c:Int) e))+(Qu g (c:Int)))<e2)) with hc4 | hc4
         · have h:=h.1 (odt hc4)
           obtain ⟨q35_5,h⟩:=h
           refine p19_2_3 g a b c j j1 j11 v4 j111 changed g4 e e1 e2 hE ⟨hc0,(Qr h1),(rp cI 1 0 1 h1),(Qh h3 h2),rfl,rfl,(rp cI 1 0 1 h2),hc1,(u54 (Xx g e h4)),hc2,(Qh h3 h2),rfl,rfl,(rp cI 1 0 1 h2),(u58 (ym g (c:Int) e h5)),q17_3,(u56 (VG g (c:Int) h6)),q19_3,(Qr h7),rfl,rfl,(rp cI 1 0 1 h7),hc3,(Qr h7),rfl,rfl,(rp cI 1 0 1 h7),hc4,(Qr h7),rfl,(rf cI 1 0 1 h7),rfl,q35_5,trivial⟩ ?_
           have h:=(h g4)
           simp only [yZ,List.length_set] at h
           rw [(show QF (rowI v4) (0+(Int.toNat (c:Int))*1) [.int .i64 ((e1+(QM g (c:Int) e))+(Qu g (c:Int)))]=rowI (v4.set c ((e1+(QM g (c:Int) e))+(Qu g (c:Int)))) from QU cI (s:=1) (k:=0) (fun _=>rfl) h7 rfl (by first | decide | simp))]
           exact h
         · have h:=h.2 (odf hc4)
           obtain ⟨q31_5,h⟩:=h
           exact p19_2_4 g a b c j j1 j11 v4 j111 changed g4 e e1 e2 hE ⟨hc0,(Qr h1),(rp cI 1 0 1 h1),(Qh h3 h2),rfl,rfl,(rp cI 1 0 1 h2),hc1,(u54 (Xx g e h4)),hc2,(Qh h3 h2),rfl,rfl,(rp cI 1 0 1 h2),(u58 (ym g (c:Int) e h5)),q17_3,(u56 (VG g (c:Int) h6)),q19_3,(Qr h7),rfl,rfl,(rp cI 1 0 1 h7),hc3,(Qr h7),rfl,rfl,(rp cI 1 0 1 h7),hc4,q31_5,trivial⟩ (h g4)
 · have h:=h.2 (odf hc0)
   obtain ⟨q1_1,h⟩:=h
   exact p19_2_5 g a b c j j1 j11 v4 j111 changed g4 hE ⟨hc0,q1_1,trivial⟩ (h g4)
theorem p19_3_0 (g:Gd) (a:Int) (b:Int) (v4:List Int) (v6:List Int) (v7_0:Int) (g4:Nat) (g6:Nat) (g7:Nat) (e:Int) {E:Env} {rv:AV} (hE:Qg Try.prog 19 rv E) (ho:AllP [g7=g7,(v7_0 != b)=true,g7=g7,Qf Try.prog (.clos 57 [] []) [.rptr [.int .i64 g.w,.int .i64 g.h,.rsl (rowI g.cells) 0 g.cells.length,.rsl (rowI g.hts) 0 g.hts.length,.nilSl,.rsl [] 0 0,.rsl (rowI (Qt g)) 0 ((Qt g).length)] 0,.int .i64 v7_0] (.rsl (rowI (Qq g v7_0)) 0 ((Qq g v7_0).length)),Qf Try.prog (.clos 59 [] []) [.rsl (rowI (Qq g v7_0)) 0 ((Qq g v7_0).length),.clos 60 [] [.rptr [.rptr [.int .i64 g.w,.int .i64 g.h,.rsl (rowI g.cells) 0 g.cells.length,.rsl (rowI g.hts) 0 g.hts.length,.nilSl,.rsl [] 0 0,.rsl (rowI (Qt g)) 0 ((Qt g).length)] 0] 0,.rptr [.rsl (rowI v4) 0 v4.length] 0,.rptr [.int .i64 v7_0] 0]] (.int .i64 (idxG (okN g v4 v7_0) (Qq g v7_0))),g4=g4,g7=g7,0≤(idxG (okN g v4 v7_0) (Qq g v7_0))∧(idxG (okN g v4 v7_0) (Qq g v7_0))<(((Qq g v7_0).length:Nat):Int),((rowI (Qq g v7_0)).drop (0+(Int.toNat (idxG (okN g v4 v7_0) (Qq g v7_0)))*1)).take 1=[.int .i64 e],1≤1,g7=g7,g7=g7,g6=g6,(0+(v6.length*1))=(rowI v6).length,(v6.length+1)≤2147483648,0=0,g7=g7,1≤1,(g7+1)=(g7+1)])
 (hg:G Try.prog E (f19K3 Try.prog) ⟨([J,J,J,.int .i64 a,.int .i64 b]++jj 5 ([.sl 6 (g6+1) 0 (v6.length+1) 1,J,J,.ptr 2 0 0,.ptr 5 0 0]++jj 5 ([.ptr 7 (g7+1) 0]++Js 133))),[⟨true,0,1,true,[.int .i64 g.w,.int .i64 g.h,.rsl (rowI g.cells) 0 g.cells.length,.rsl (rowI g.hts) 0 g.hts.length],false⟩,⟨false,1,1,true,[],false⟩,⟨true,0,1,true,[.rptr [.int .i64 g.w,.int .i64 g.h,.rsl (rowI g.cells) 0 g.cells.length,.rsl (rowI g.hts) 0 g.hts.length,.nilSl,.rsl [] 0 0,.rsl (rowI (Qt g)) 0 ((Qt g).length)] 0],false⟩,⟨false,1,1,true,[],false⟩,⟨true,g4,1,true,(rowI v4),true⟩,⟨true,0,1,false,[.sl 4 g4 0 v4.length 1],false⟩,⟨true,(g6+1),1,true,((rowI v6)++[.int .i64 e]),true⟩,⟨true,(g7+1),1,true,[.int .i64 e],true⟩]⟩):G Try.prog E (f19K3 Try.prog) (f19S3 g a b v4 v6 v7_0 g4 g6 g7) :=
 Qj (n:=400) (ds:=[]) (cs:=[]) (live:=[3,4,10,13,14,20]) (m:=8) (evs:=[.b true,.v (.rsl (rowI (Qq g v7_0)) 0 ((Qq g v7_0).length)),.v (.int .i64 (idxG (okN g v4 v7_0) (Qq g v7_0))),.ld (.int .i64 e),.reb 7,.stop]) (obs:=_) hE.2.1 (hE.nogh _) Qi (by kernel_rfl) ho hg
theorem p19_3_1 (g:Gd) (a:Int) (b:Int) (v4:List Int) (v6:List Int) (v7_0:Int) (g4:Nat) (g6:Nat) (g7:Nat) (e:Int) {E:Env} {res:AV} (hE:Qg Try.prog 19 res E) (ho:AllP [g7=g7,(v7_0 != b)=false,0≤a∧a<(v4.length:Int),g4=g4,g4=g4,((rowI v4).drop (0+(Int.toNat a)*1)).take 1=[.int .i64 e],g6=g6])
 (hr:AvLe (.tup [.rsl (rowI v6) 0 v6.length,.int .i64 e,.int .i64 0]) res):G Try.prog E (f19K3 Try.prog) (f19S3 g a b v4 v6 v7_0 g4 g6 g7) :=
 Qd (n:=400) (evs:=[.b false,.auto,.ld (.int .i64 e)]) (obs:=_) hE Try.func19 Qi (by kernel_rfl) ho hr
theorem f19W3 (g:Gd) (a:Int) (b:Int) (v4:List Int) (v6:List Int) (v7_0:Int) {E:Env} {rv:((List Int) × Int × Int)} (hE:Qg Try.prog 19 (.tup [.rsl (rowI rv.1) 0 rv.1.length,.int .i64 rv.2.1,.int .i64 rv.2.2]) E)
 (h:((¬ (v7_0=b)→((OnG g v7_0)∧(((∀ x ∈ (Qq g v7_0),OnG g x∧OnG g v7_0∧TabIn g v4)∧(Qq g v7_0).length≤9223372036854775807)∧(0≤(idxG (okN g v4 v7_0) (Qq g v7_0))∧(∃ e:Int,(Qq g v7_0)[Int.toNat (idxG (okN g v4 v7_0) (Qq g v7_0))]?=some e∧((v6.length+1)≤2147483648∧f19G3 E g a b v4 (v6++[e]) e))))))∧(v7_0=b→(0≤a∧(∃ e:Int,v4[Int.toNat a]?=some e∧rv=(v6,e,0)))))):f19G3 E g a b v4 v6 v7_0:=by
 intro g4 g6 g7
 rcases bft (v7_0 != b) with hc0 | hc0
 · have h:=h.1 (bneT hc0)
   obtain ⟨h1,h⟩:=h
   obtain ⟨h2,h⟩:=h
   obtain ⟨h4,h⟩:=h
   obtain ⟨e,h3,h⟩:=h
   obtain ⟨h5,h⟩:=h
   refine p19_3_0 g a b v4 v6 v7_0 g4 g6 g7 e hE ⟨rfl,hc0,rfl,(u57 (beside_ok g v7_0 h1)),(Qn Try.func59 (by kernel_rfl) f59cbb (idxNxt_ok (Qq g v7_0) g v4 v7_0 h2)),rfl,rfl,(Qh h4 h3),(rp cI 1 0 1 h3),(by decide),rfl,rfl,rfl,(by have hx:=Qs cI (s:=1) (fun _=>rfl) v6; simp only [rowI] at hx ⊢; rw [hx]; simp),h5,rfl,rfl,(by decide),rfl,trivial⟩ ?_
   rw [(show rowI v6++[.int .i64 e]=rowI (v6++[e]) from (row_app cI v6 [e]).symm)]; rw [(show (v6.length+1)=(v6++[e]).length from by simp)]; exact (h g4 (g6+1) (g7+1))
 · have h:=h.2 (bneF hc0)
   obtain ⟨h2,h⟩:=h
   obtain ⟨e,h1,h⟩:=h
   exact p19_3_1 g a b v4 v6 v7_0 g4 g6 g7 e hE ⟨rfl,hc0,(Qh h2 h1),rfl,rfl,(rp cI 1 0 1 h1),rfl,trivial⟩ (AvLe.of_eq (by rw [h]; try rfl))
theorem Qm (g:Gd) (a b:Int) (hs:GdSmall g):Pure Try.prog 19 [.agg [.int .i64 g.w,.int .i64 g.h,.rsl (rowI g.cells) 0 g.cells.length,.rsl (rowI g.hts) 0 g.hts.length],.nilSl,.nilSl,.int .i64 a,.int .i64 b] (.tup [.rsl (rowI (Qa g a b).1) 0 (Qa g a b).1.length,.int .i64 (Qa g a b).2.1,.int .i64 (Qa g a b).2.2]):=Qy Try.func19 f19b fun E hE=>by
 refine f19W g a b (rv:=Qa g a b) hE ⟨fun hg=>⟨fun ho=>⟨hs,?_⟩,fun ho=>⟨hs,?_⟩⟩,fun hg=>⟨hs,?_⟩⟩
 · unfold Qa; rw [if_pos hg,if_pos ho]
 rotate_left
 · unfold Qa; rw [if_neg (by rw [hg]; exact Bool.false_ne_true)]
 have ho2:offG g a=false∧offG g b=false:=by
  simpa [offs,List.any_cons] using ho
 have oa:OnG g a:=by
  have:=ho2.1
  simp only [offG,outB,Bool.not_eq_false'] at this
  have:=QI.1 this
  exact ⟨hg,by omega,by omega⟩
 have ob:OnG g b:=by
  have:=ho2.2
  simp only [offG,outB,Bool.not_eq_false'] at this
  have:=QI.1 this
  exact ⟨hg,by omega,by omega⟩
 have cR:Qa g a b=if Qx g a=true then (if Qx g b=true then (if Qv (XK g b) a<0 then ([],0,3) else (Vp g (XK g b) b 20000 a [a],Qv (XK g b) a,0)) else ([],0,1)) else ([],0,1):=by
  unfold Qa; rw [if_pos hg,if_neg (by rw [ho]; exact Bool.false_ne_true)]
 refine ⟨oa,fun fa=>?_,fun fa=>⟨ob,fun fb=>?_,fun fb=>?_⟩⟩
 · rw [cR,if_neg (by rw [fa]; exact Bool.false_ne_true)]
 · rw [cR,if_pos fa,if_neg (by rw [fb]; exact Bool.false_ne_true)]
 rw [if_pos fa,if_pos fb] at cR
 have np:=VT hg
 -- the way
 have way:∀ (f:Nat) (v w:List Int) (c:Int),TabI g b v→Vk g v→OnG g c→0≤Qv v c→(Qv v c).toNat<f→(w.length:Int)+Qv v c≤10000→0≤Qv v a→(Vp g v b f c w,Qv v a,(0:Int))=Qa g a b→f19G3 E g a b v w c:=by
  intro f
  induction f with
  | zero=>intro v w c _ _ _ _ hf; omega
  | succ f ih =>
   intro v w c hI hC hc h0 hf hw ha0 hr
   unfold Vp at hr
   refine f19W3 g a b v w c (rv:=Qa g a b) hE ⟨fun hne=>?_,fun he=>?_⟩
   · rw [if_neg hne] at hr
     have nx:=WW hI hC hc h0 hne
     refine ⟨hc,⟨fun x hx=>⟨YU hc hx,hc,hI.tin⟩,by have:=yg g c; omega⟩,nx.idx,WX g v c,nx.get,by omega,?_⟩
     have:=nx.lt; have:=nx.kn
     exact ih v (w++[WX g v c]) (WX g v c) hI hC nx.on nx.kn (by omega) (by simp; omega) ha0 hr
   · rw [if_pos he] at hr
     exact ⟨oa.lo,_,(hI.at_ oa).1,hr.symm⟩
 -- behind the last qB
 have fin:∀ v,XK g b=v→f19G0 E g a b v false:=by
  intro v hv
  obtain ⟨hI,hC⟩:=WJ ob fb
  rw [hv] at hI hC cR
  obtain ⟨e1,l1,u1,-⟩:=hI.at_ oa
  refine f19W0 g a b v false (rv:=Qa g a b) hE ⟨fun h=>(by cases h),fun _=>⟨oa.lo,_,e1,fun h=>?_,fun h=>?_⟩⟩
  · rw [cR,if_pos h]
  · rw [if_neg h] at cR
    exact way 20000 v [a] a hI hC oa (by omega) (by omega) (by simp; omega) (by omega) cR.symm
 -- the neighbours of a cell
 have inner:∀ (d:Nat) (c:Nat) (hc:OnG g (c:Int)) (fc:Qx g (c:Int)=true) (j:Nat) (s:List Int × Bool),j+d=(Qq g (c:Int)).length→TabI g b s.1→(∀ s',((Qq g (c:Int)).drop j).foldl (yr g (c:Int)) s=s'→TabI g b s'.1→f19G1 E g a b s'.1 (c+1) s'.2)→f19G2 E g a b c c (Qq g (c:Int)) (Qq g (c:Int)).length s.1 j s.2:=by
  intro d c hc fc
  have bl:=yg g (c:Int)
  have c64:=hc.hi
  induction d with
  | zero =>
   intro j s hj hI hP
   have:=hP s (by rw [List.drop_eq_nil_of_le (by omega)]; rfl) hI
   exact f19W2 g a b c c _ _ s.1 j s.2 (rv:=Qa g a b) hE ⟨fun h=>by omega,fun _=>⟨⟨by omega,by omega⟩,this⟩⟩
  | succ d ih =>
   intro j s hj hI hP
   have hx:(Qq g (c:Int))[j]?=some ((Qq g (c:Int))[j]'(by omega)):=List.getElem?_eq_getElem (by omega)
   rw [List.drop_eq_getElem_cons (by omega)] at hP
   generalize (Qq g (c:Int))[j]'(by omega)=k at hx hP
   have hm:=List.mem_of_getElem? hx
   have ok:=YU hc hm
   have rr:=relax_inv hI hc fc hm
   have nx:=ih (j+1) (yr g (c:Int) s k) (by omega) rr.inv (fun s' h1 h2=>hP s' h1 h2)
   obtain ⟨e1,l1,u1,-⟩:=hI.at_ hc
   obtain ⟨e2,l2,u2,-⟩:=hI.at_ ok
   have st:=WL hc ok
   have dr:=YD g (c:Int)
   rw [Int.toNat_natCast] at e1
   unfold yr at nx
   refine f19W2 g a b c c _ _ s.1 j s.2 (rv:=Qa g a b) hE ⟨fun _=>⟨k,hx,ok.lo,_,e2,fun q1=>⟨⟨by omega,by omega⟩,?_⟩,fun q1=>⟨ok,fun q2=>⟨⟨by omega,by omega⟩,?_⟩,fun q2=>⟨⟨hc,ok⟩,⟨by omega,by omega⟩,hc,⟨by omega,by omega⟩,_,e1,fun q3=>⟨⟨by omega,by omega⟩,?_⟩,fun q3=>⟨fun q4=>⟨⟨by omega,by omega⟩,?_⟩,fun q4=>⟨⟨by omega,by omega⟩,?_⟩⟩⟩⟩⟩,fun h=>by omega⟩
   · rw [if_pos (.inl q1)] at nx; exact nx
   · rw [if_pos (.inr q2)] at nx; exact nx
   · rw [if_neg (by rintro (h | h); exact q1 h; rw [q2] at h; cases h),if_pos (.inl q3),Int.toNat_natCast] at nx; exact nx
   · rw [if_neg (by rintro (h | h); exact q1 h; rw [q2] at h; cases h),if_pos (.inr q4),Int.toNat_natCast] at nx; exact nx
   · rw [if_neg (by rintro (h | h); exact q1 h; rw [q2] at h; cases h),if_neg (by rintro (h | h); exact q3 h; exact q4 h)] at nx; exact nx
 -- all cells
 have outer:∀ (d k:Nat) (s:List Int × Bool),k+d=g.cells.length→TabI g b s.1→(∀ s',sweepF g d k s=s'→TabI g b s'.1→f19G0 E g a b s'.1 s'.2)→f19G1 E g a b s.1 k s.2:=by
  intro d
  induction d with
  | zero =>
   intro k s hk hI hP
   exact f19W1 g a b s.1 k s.2 (rv:=Qa g a b) hE ⟨fun h=>by omega,fun _=>hP s rfl hI⟩
  | succ d ih =>
   intro k s hk hI hP
   have hc:OnG g (k:Int):=⟨hg,by omega,by omega⟩
   have rr:=qM hc s hI
   have nx:=ih (k+1) (Wj g s k) (by omega) rr.inv (fun s' h1 h2=>hP s' h1 h2)
   refine f19W1 g a b s.1 k s.2 (rv:=Qa g a b) hE ⟨fun _=>⟨hc,fun q=>⟨⟨by omega,by omega⟩,?_⟩,fun q=>⟨hc,?_⟩⟩,fun h=>by omega⟩
   · unfold Wj at nx; rw [if_neg (by rw [q]; exact Bool.false_ne_true)] at nx; exact nx
   · refine inner (Qq g (k:Int)).length k hc q 0 s (by omega) hI (fun s' h1 h2=>?_)
     rw [List.drop_zero] at h1
     unfold Wj at nx; rw [if_pos q,h1] at nx; exact nx
 -- all Wh
 have all:∀ (f:Nat) (v:List Int),phi v<f→TabI g b v→Wh g f v=XK g b→f19G0 E g a b v true:=by
  intro f
  induction f with
  | zero=>intro v h; omega
  | succ f ih =>
   intro v hf hI hr
   refine f19W0 g a b v true (rv:=Qa g a b) hE ⟨fun _=>outer g.cells.length 0 (v,false) (by omega) hI (fun s' h1 h2=>?_),fun h=>by cases h⟩
   obtain ⟨r1,r2,r3⟩:=sweep_inv hI
   unfold Wh at hr
   have hs:qB g v=s':=h1
   rw [hs] at hr r2
   obtain ⟨v',ch⟩:=s'
   cases ch with
   | true =>
    rw [if_pos rfl] at hr
    exact ih v' (by have:=r2 rfl; simp only at this; omega) h2 hr
   | false =>
    rw [if_neg (by simp)] at hr
    exact fin v' hr.symm
 have hst:=start_inv ob fb
 refine ⟨⟨by omega,by omega⟩,ob,ob.lo,-1,ob.tk,?_⟩
 exact all 5000000 (Wi g b) (by have:=phi_le hst; omega) hst rfl
end Go.Proofs.Ytemklbioijmjiaa
namespace Go.Proofs.Ytemklbioijmjiaa
open Go Ax
open Go.Proofs
structure Brd where
 parent:Int
 rating:Int
 delay:Int
 loop:Int
def cBrd (t:Brd):List AV:=[.int .i64 t.parent,.int .i64 t.rating,.int .i64 t.delay,.int .i64 t.loop]
def QE (l:List Brd):List AV:=l.flatMap cBrd
structure Sup where
 boards:List Brd
 power:Int
 hold:Int
 volts:Int
def parU (u:Sup) (p:Int):Int:=(u.boards.getD p.toNat ⟨-1,0,0,0⟩).parent
theorem f131b:Try.f131.body=some (Qe Try.prog 131):=by kernel_rfl
theorem u131 {a c k:List AV} {r:AV} (h:Pure Try.prog 131 (a++c++k) r):Qf Try.prog (.clos 131 a k) c r:=Qn Try.func131 (by kernel_rfl) f131b h
theorem p131_start_0 (n:Int) (lo:Int) (hi:Int) {E:Env} {res:AV} (hE:Qg Try.prog 131 res E) (ho:AllP [(decide (n≥lo))=true])
 (hr:AvLe (.bool (decide (n≤hi))) res):G Try.prog E [.code (Qe Try.prog 131)] ⟨[.int .i64 n,.int .i64 lo,.int .i64 hi]++unds (Try.f131.ntmps - 3),[]⟩ :=
 Qd (n:=400) (evs:=[.b true]) (obs:=_) hE Try.func131 Qi (by kernel_rfl) ho hr
theorem p131_start_1 (n:Int) (lo:Int) (hi:Int) {E:Env} {res:AV} (hE:Qg Try.prog 131 res E) (ho:AllP [(decide (n≥lo))=false])
 (hr:AvLe (.bool false) res):G Try.prog E [.code (Qe Try.prog 131)] ⟨[.int .i64 n,.int .i64 lo,.int .i64 hi]++unds (Try.f131.ntmps - 3),[]⟩ :=
 Qd (n:=400) (evs:=[.b false]) (obs:=_) hE Try.func131 Qi (by kernel_rfl) ho hr
theorem f131W (n:Int) (lo:Int) (hi:Int) {E:Env} {rv:Bool} (hE:Qg Try.prog 131 (.bool rv) E)
 (h:((n≥lo→rv=(decide (n≤hi)))∧(¬ (n≥lo)→rv=false))):G Try.prog E [.code (Qe Try.prog 131)] ⟨[.int .i64 n,.int .i64 lo,.int .i64 hi]++unds (Try.f131.ntmps - 3),[]⟩:=by
 rcases bft (decide (n≥lo)) with hc0 | hc0
 · have h:=h.1 (odt hc0)
   exact p131_start_0 n lo hi hE ⟨hc0,trivial⟩ (AvLe.of_eq (by rw [h]; try rfl))
 · have h:=h.2 (odf hc0)
   exact p131_start_1 n lo hi hE ⟨hc0,trivial⟩ (AvLe.of_eq (by rw [h]; try rfl))
theorem QC (n lo hi:Int):Pure Try.prog 131 [.int .i64 n,.int .i64 lo,.int .i64 hi] (.bool (Qb n lo hi)):=Qy Try.func131 f131b fun E hE=>by
 refine f131W n lo hi hE ⟨fun h=>by simp [Qb,h],fun h=>by simp [Qb,h]⟩
theorem f61b:Try.f61.body=some (Qe Try.prog 61):=by kernel_rfl
theorem u61 {a c k:List AV} {r:AV} (h:Pure Try.prog 61 (a++c++k) r):Qf Try.prog (.clos 61 a k) c r:=Qn Try.func61 (by kernel_rfl) f61b h
def yQ (P:Program):List Item:=kAt 400 [.code (Qe P 61)] [.b false,.stop]
def f61S0 (u:Sup) (i:Nat):St:=⟨([J,.ptr 0 0 0]++jj 34 ([.rsl (QE u.boards) 0 u.boards.length,.int .i64 (u.boards.length:Int),.int .i64 (i:Int)]++Js 63)),[⟨true,0,1,true,[.rsl (QE u.boards) 0 u.boards.length,.nilSl,.int .i64 u.power,.int .i64 u.hold,.int .i64 u.volts],false⟩]⟩
def f61G0 (E:Env) (u:Sup) (i:Nat):Prop:=G Try.prog E (yQ Try.prog) (f61S0 u i )
def f61K1 (P:Program):List Item:=kAt 400 [.code (Qe P 61)] [.b false,.b false,.stop]
def f61S1 (u:Sup):St:=⟨([J,.ptr 0 0 0]++jj 67 ([.nilSl,.int .i64 0,.int .i64 0]++Js 30)),[⟨true,0,1,true,[.rsl (QE u.boards) 0 u.boards.length,.nilSl,.int .i64 u.power,.int .i64 u.hold,.int .i64 u.volts],false⟩]⟩
def f61G1 (E:Env) (u:Sup):Prop:=G Try.prog E (f61K1 Try.prog) (f61S1 u )
abbrev z61_1 (u:Sup):List AV:=[.rsl (QE u.boards) 0 u.boards.length,.nilSl,.int .i64 u.power,.int .i64 u.hold,.int .i64 u.volts]
abbrev qA (be:Brd):List AV:=[.int .i64 be.parent,.int .i64 be.rating,.int .i64 be.delay,.int .i64 be.loop]
abbrev qz (be:Brd) (i:Nat):AV:=.bool (Qb be.parent (-1) ((i:Int) - 1))
abbrev z61_4 (be:Brd) (i:Nat):List AV:=[.int .i64 be.parent,.int .i64 (-1),.int .i64 ((i:Int) - 1)]
abbrev z61_5 (be:Brd):List AV:=[.int .i64 be.rating,.int .i64 1,.int .i64 1000]
abbrev z61_6 (u:Sup):List AV:=[.int .i64 u.power,.int .i64 1,.int .i64 1000]
theorem p61_start_0 (u:Sup) {E:Env} {res:AV} (hE:Qg Try.prog 61 res E) (ho:AllP [(decide ((u.boards.length:Int) > 10))=true,true=true,true=true,true=true,true=true])
 (hr:AvLe (.int .i64 50) res):G Try.prog E [.code (Qe Try.prog 61)] ⟨[.agg (z61_1 u)]++unds (Try.f61.ntmps - 1),[]⟩ :=
 Qd (n:=400) (evs:=[.b true,.b true,.b true,.b true,.b true]) (obs:=_) hE Try.func61 Qi (by kernel_rfl) ho hr
theorem p61_start_1 (u:Sup) {E:Env} {res:AV} (hE:Qg Try.prog 61 res E) (ho:AllP [(decide ((u.boards.length:Int) > 10))=false,false=false,Qf Try.prog (.clos 131 [] []) (z61_6 u) (.bool (Qb u.power 1 1000)),(!(Qb u.power 1 1000))=true,true=true,true=true])
 (hr:AvLe (.int .i64 50) res):G Try.prog E [.code (Qe Try.prog 61)] ⟨[.agg (z61_1 u)]++unds (Try.f61.ntmps - 1),[]⟩ :=
 Qd (n:=400) (evs:=[.b false,.b false,.v (.bool (Qb u.power 1 1000)),.b true,.b true,.b true]) (obs:=_) hE Try.func61 Qi (by kernel_rfl) ho hr
theorem p61_start_2 (u:Sup) {E:Env} {res:AV} (hE:Qg Try.prog 61 res E) (ho:AllP [(decide ((u.boards.length:Int) > 10))=false,false=false,Qf Try.prog (.clos 131 [] []) (z61_6 u) (.bool (Qb u.power 1 1000)),(!(Qb u.power 1 1000))=false,Qf Try.prog (.clos 131 [] []) [.int .i64 u.hold,.int .i64 0,.int .i64 20] (.bool (Qb u.hold 0 20)),(!(Qb u.hold 0 20))=true,true=true])
 (hr:AvLe (.int .i64 50) res):G Try.prog E [.code (Qe Try.prog 61)] ⟨[.agg (z61_1 u)]++unds (Try.f61.ntmps - 1),[]⟩ :=
 Qd (n:=400) (evs:=[.b false,.b false,.v (.bool (Qb u.power 1 1000)),.b false,.v (.bool (Qb u.hold 0 20)),.b true,.b true]) (obs:=_) hE Try.func61 Qi (by kernel_rfl) ho hr
theorem p61_start_3 (u:Sup) {E:Env} {res:AV} (hE:Qg Try.prog 61 res E) (ho:AllP [(decide ((u.boards.length:Int) > 10))=false,false=false,Qf Try.prog (.clos 131 [] []) (z61_6 u) (.bool (Qb u.power 1 1000)),(!(Qb u.power 1 1000))=false,Qf Try.prog (.clos 131 [] []) [.int .i64 u.hold,.int .i64 0,.int .i64 20] (.bool (Qb u.hold 0 20)),(!(Qb u.hold 0 20))=false,Qf Try.prog (.clos 131 [] []) [.int .i64 u.volts,.int .i64 1,.int .i64 1000] (.bool (Qb u.volts 1 1000)),(!(Qb u.volts 1 1000))=true])
 (hr:AvLe (.int .i64 50) res):G Try.prog E [.code (Qe Try.prog 61)] ⟨[.agg (z61_1 u)]++unds (Try.f61.ntmps - 1),[]⟩ :=
 Qd (n:=400) (evs:=[.b false,.b false,.v (.bool (Qb u.power 1 1000)),.b false,.v (.bool (Qb u.hold 0 20)),.b false,.v (.bool (Qb u.volts 1 1000)),.b true]) (obs:=_) hE Try.func61 Qi (by kernel_rfl) ho hr
theorem p61_start_4 (u:Sup) {E:Env} {rv:AV} (hE:Qg Try.prog 61 rv E) (ho:AllP [(decide ((u.boards.length:Int) > 10))=false,false=false,Qf Try.prog (.clos 131 [] []) (z61_6 u) (.bool (Qb u.power 1 1000)),(!(Qb u.power 1 1000))=false,Qf Try.prog (.clos 131 [] []) [.int .i64 u.hold,.int .i64 0,.int .i64 20] (.bool (Qb u.hold 0 20)),(!(Qb u.hold 0 20))=false,Qf Try.prog (.clos 131 [] []) [.int .i64 u.volts,.int .i64 1,.int .i64 1000] (.bool (Qb u.volts 1 1000)),(!(Qb u.volts 1 1000))=false])
 (hg:G Try.prog E (yQ Try.prog) ⟨([J,.ptr 0 0 0]++jj 34 ([.rsl (QE u.boards) 0 u.boards.length,.int .i64 (u.boards.length:Int),.int .i64 0]++Js 63)),[⟨true,0,1,true,(z61_1 u),false⟩]⟩):G Try.prog E [.code (Qe Try.prog 61)] ⟨[.agg (z61_1 u)]++unds (Try.f61.ntmps - 1),[]⟩ :=
 Qj (n:=400) (ds:=[]) (cs:=[]) (live:=[1,36,37,38]) (m:=1) (evs:=[.b false,.b false,.v (.bool (Qb u.power 1 1000)),.b false,.v (.bool (Qb u.hold 0 20)),.b false,.v (.bool (Qb u.volts 1 1000)),.b false,.stop]) (obs:=_) hE.2.1 (hE.nogh _) Qi (by kernel_rfl) ho hg
theorem f61W (u:Sup) {E:Env} {rv:Int} (hE:Qg Try.prog 61 (.int .i64 rv) E)
 (h:(((u.boards.length:Int) > 10→rv=50)∧(¬ ((u.boards.length:Int) > 10)→(((Qb u.power 1 1000)=false→rv=50)∧((Qb u.power 1 1000)=true→(((Qb u.hold 0 20)=false→rv=50)∧((Qb u.hold 0 20)=true→(((Qb u.volts 1 1000)=false→rv=50)∧((Qb u.volts 1 1000)=true→f61G0 E u 0))))))))):G Try.prog E [.code (Qe Try.prog 61)] ⟨[.agg [.rsl (QE u.boards) 0 u.boards.length,.nilSl,.int .i64 u.power,.int .i64 u.hold,.int .i64 u.volts]]++unds (Try.f61.ntmps - 1),[]⟩:=by
 rcases bft (decide ((u.boards.length:Int) > 10)) with hc0 | hc0
 · have h:=h.1 (odt hc0)
   exact p61_start_0 u hE ⟨hc0,rfl,rfl,rfl,rfl,trivial⟩ (AvLe.of_eq (by rw [h]; try rfl))
 · have h:=h.2 (odf hc0)
   rcases bft (!(Qb u.power 1 1000)) with hc1 | hc1
   · have h:=h.1 (bnT hc1)
     exact p61_start_1 u hE ⟨hc0,rfl,(u131 (QC u.power 1 1000)),hc1,rfl,rfl,trivial⟩ (AvLe.of_eq (by rw [h]; try rfl))
   · have h:=h.2 (bnF hc1)
     rcases bft (!(Qb u.hold 0 20)) with hc2 | hc2
     · have h:=h.1 (bnT hc2)
       exact p61_start_2 u hE ⟨hc0,rfl,(u131 (QC u.power 1 1000)),hc1,(u131 (QC u.hold 0 20)),hc2,rfl,trivial⟩ (AvLe.of_eq (by rw [h]; try rfl))
     · have h:=h.2 (bnF hc2)
       rcases bft (!(Qb u.volts 1 1000)) with hc3 | hc3
       · have h:=h.1 (bnT hc3)
         exact p61_start_3 u hE ⟨hc0,rfl,(u131 (QC u.power 1 1000)),hc1,(u131 (QC u.hold 0 20)),hc2,(u131 (QC u.volts 1 1000)),hc3,trivial⟩ (AvLe.of_eq (by rw [h]; try rfl))
       · have h:=h.2 (bnF hc3)
         exact p61_start_4 u hE ⟨hc0,rfl,(u131 (QC u.power 1 1000)),hc1,(u131 (QC u.hold 0 20)),hc2,(u131 (QC u.volts 1 1000)),hc3,trivial⟩ h
theorem p61_0_0 (u:Sup) (i:Nat) (be:Brd) {E:Env} {res:AV} (hE:Qg Try.prog 61 res E) (ho:AllP [(decide ((i:Int)<(u.boards.length:Int)))=true,0≤(i:Int)∧(i:Int)<(u.boards.length:Int),((QE u.boards).drop (0+(Int.toNat (i:Int))*4)).take 4=(qA be),4≤4,InR .i64 ((i:Int) - 1),Qf Try.prog (.clos 131 [] []) (z61_4 be i) (qz be i),(!(Qb be.parent (-1) ((i:Int) - 1)))=true,true=true,true=true,true=true])
 (hr:AvLe (.int .i64 50) res):G Try.prog E (yQ Try.prog) (f61S0 u i ) :=
 Qd (n:=400) (evs:=[.b true,.ld (.agg (qA be)),.v (qz be i),.b true,.b true,.b true,.b true]) (obs:=_) hE Try.func61 Qi (by kernel_rfl) ho hr
theorem p61_0_1 (u:Sup) (i:Nat) (be:Brd) {E:Env} {res:AV} (hE:Qg Try.prog 61 res E) (ho:AllP [(decide ((i:Int)<(u.boards.length:Int)))=true,0≤(i:Int)∧(i:Int)<(u.boards.length:Int),((QE u.boards).drop (0+(Int.toNat (i:Int))*4)).take 4=(qA be),4≤4,InR .i64 ((i:Int) - 1),Qf Try.prog (.clos 131 [] []) (z61_4 be i) (qz be i),(!(Qb be.parent (-1) ((i:Int) - 1)))=false,Qf Try.prog (.clos 131 [] []) (z61_5 be) (.bool (Qb be.rating 1 1000)),(!(Qb be.rating 1 1000))=true,true=true,true=true])
 (hr:AvLe (.int .i64 50) res):G Try.prog E (yQ Try.prog) (f61S0 u i ) :=
 Qd (n:=400) (evs:=[.b true,.ld (.agg (qA be)),.v (qz be i),.b false,.v (.bool (Qb be.rating 1 1000)),.b true,.b true,.b true]) (obs:=_) hE Try.func61 Qi (by kernel_rfl) ho hr
theorem p61_0_2 (u:Sup) (i:Nat) (be:Brd) {E:Env} {res:AV} (hE:Qg Try.prog 61 res E) (ho:AllP [(decide ((i:Int)<(u.boards.length:Int)))=true,0≤(i:Int)∧(i:Int)<(u.boards.length:Int),((QE u.boards).drop (0+(Int.toNat (i:Int))*4)).take 4=(qA be),4≤4,InR .i64 ((i:Int) - 1),Qf Try.prog (.clos 131 [] []) (z61_4 be i) (qz be i),(!(Qb be.parent (-1) ((i:Int) - 1)))=false,Qf Try.prog (.clos 131 [] []) (z61_5 be) (.bool (Qb be.rating 1 1000)),(!(Qb be.rating 1 1000))=false,Qf Try.prog (.clos 131 [] []) [.int .i64 be.delay,.int .i64 0,.int .i64 20] (.bool (Qb be.delay 0 20)),(!(Qb be.delay 0 20))=true,true=true])
 (hr:AvLe (.int .i64 50) res):G Try.prog E (yQ Try.prog) (f61S0 u i ) :=
 Qd (n:=400) (evs:=[.b true,.ld (.agg (qA be)),.v (qz be i),.b false,.v (.bool (Qb be.rating 1 1000)),.b false,.v (.bool (Qb be.delay 0 20)),.b true,.b true]) (obs:=_) hE Try.func61 Qi (by kernel_rfl) ho hr
theorem p61_0_3 (u:Sup) (i:Nat) (be:Brd) {E:Env} {res:AV} (hE:Qg Try.prog 61 res E) (ho:AllP [(decide ((i:Int)<(u.boards.length:Int)))=true,0≤(i:Int)∧(i:Int)<(u.boards.length:Int),((QE u.boards).drop (0+(Int.toNat (i:Int))*4)).take 4=(qA be),4≤4,InR .i64 ((i:Int) - 1),Qf Try.prog (.clos 131 [] []) (z61_4 be i) (qz be i),(!(Qb be.parent (-1) ((i:Int) - 1)))=false,Qf Try.prog (.clos 131 [] []) (z61_5 be) (.bool (Qb be.rating 1 1000)),(!(Qb be.rating 1 1000))=false,Qf Try.prog (.clos 131 [] []) [.int .i64 be.delay,.int .i64 0,.int .i64 20] (.bool (Qb be.delay 0 20)),(!(Qb be.delay 0 20))=false,Qf Try.prog (.clos 131 [] []) [.int .i64 be.loop,.int .i64 1,.int .i64 10000] (.bool (Qb be.loop 1 10000)),(!(Qb be.loop 1 10000))=true])
 (hr:AvLe (.int .i64 50) res):G Try.prog E (yQ Try.prog) (f61S0 u i ) :=
 Qd (n:=400) (evs:=[.b true,.ld (.agg (qA be)),.v (qz be i),.b false,.v (.bool (Qb be.rating 1 1000)),.b false,.v (.bool (Qb be.delay 0 20)),.b false,.v (.bool (Qb be.loop 1 10000)),.b true]) (obs:=_) hE Try.func61 Qi (by kernel_rfl) ho hr
theorem p61_0_4 (u:Sup) (i:Nat) (be:Brd) {E:Env} {rv:AV} (hE:Qg Try.prog 61 rv E) (ho:AllP [(decide ((i:Int)<(u.boards.length:Int)))=true,0≤(i:Int)∧(i:Int)<(u.boards.length:Int),((QE u.boards).drop (0+(Int.toNat (i:Int))*4)).take 4=(qA be),4≤4,InR .i64 ((i:Int) - 1),Qf Try.prog (.clos 131 [] []) (z61_4 be i) (qz be i),(!(Qb be.parent (-1) ((i:Int) - 1)))=false,Qf Try.prog (.clos 131 [] []) (z61_5 be) (.bool (Qb be.rating 1 1000)),(!(Qb be.rating 1 1000))=false,Qf Try.prog (.clos 131 [] []) [.int .i64 be.delay,.int .i64 0,.int .i64 20] (.bool (Qb be.delay 0 20)),(!(Qb be.delay 0 20))=false,Qf Try.prog (.clos 131 [] []) [.int .i64 be.loop,.int .i64 1,.int .i64 10000] (.bool (Qb be.loop 1 10000)),(!(Qb be.loop 1 10000))=false,InR .i64 ((i:Int)+1)])
 (hg:G Try.prog E (yQ Try.prog) ⟨([J,.ptr 0 0 0]++jj 34 ([.rsl (QE u.boards) 0 u.boards.length,.int .i64 (u.boards.length:Int),.int .i64 ((i:Int)+1)]++Js 63)),[⟨true,0,1,true,(z61_1 u),false⟩]⟩):G Try.prog E (yQ Try.prog) (f61S0 u i ) :=
 Qj (n:=400) (ds:=[]) (cs:=[]) (live:=[1,36,37,38]) (m:=1) (evs:=[.b true,.ld (.agg (qA be)),.v (qz be i),.b false,.v (.bool (Qb be.rating 1 1000)),.b false,.v (.bool (Qb be.delay 0 20)),.b false,.v (.bool (Qb be.loop 1 10000)),.b false,.stop]) (obs:=_) hE.2.1 (hE.nogh _) Qi (by kernel_rfl) ho hg
theorem p61_0_5 (u:Sup) (i:Nat) {E:Env} {rv:AV} (hE:Qg Try.prog 61 rv E) (ho:AllP [(decide ((i:Int)<(u.boards.length:Int)))=false])
 (hg:G Try.prog E (f61K1 Try.prog) ⟨([J,.ptr 0 0 0]++jj 67 ([.nilSl,.int .i64 0,.int .i64 0]++Js 30)),[⟨true,0,1,true,(z61_1 u),false⟩]⟩):G Try.prog E (yQ Try.prog) (f61S0 u i ) :=
 Qj (n:=400) (ds:=[]) (cs:=[]) (live:=[1,69,70,71]) (m:=1) (evs:=[.b false,.stop]) (obs:=_) hE.2.1 (hE.nogh _) Qi (by kernel_rfl) ho hg
theorem f61W0 (u:Sup) (i:Nat) {E:Env} {rv:Int} (hE:Qg Try.prog 61 (.int .i64 rv) E)
 (h:(((i:Int)<(u.boards.length:Int)→(∃ be:Brd,u.boards[i]?=some be∧((I6 ((i:Int) - 1))∧(((Qb be.parent (-1) ((i:Int) - 1))=false→rv=50)∧((Qb be.parent (-1) ((i:Int) - 1))=true→(((Qb be.rating 1 1000)=false→rv=50)∧((Qb be.rating 1 1000)=true→(((Qb be.delay 0 20)=false→rv=50)∧((Qb be.delay 0 20)=true→(((Qb be.loop 1 10000)=false→rv=50)∧((Qb be.loop 1 10000)=true→((I6 ((i:Int)+1))∧f61G0 E u (i+1)))))))))))))∧(¬ ((i:Int)<(u.boards.length:Int))→f61G1 E u ))):f61G0 E u i:=by
 rcases bft (decide ((i:Int)<(u.boards.length:Int))) with hc0 | hc0
 · have h:=h.1 (odt hc0)
   obtain ⟨be,h1,h⟩:=h
   obtain ⟨q5_1,h⟩:=h
   rcases bft (!(Qb be.parent (-1) ((i:Int) - 1))) with hc1 | hc1
   · have h:=h.1 (bnT hc1)
     exact p61_0_0 u i be hE ⟨hc0,(Qr h1),(rp cBrd 4 0 4 h1),(by decide),q5_1,(u131 (QC be.parent (-1) ((i:Int) - 1))),hc1,rfl,rfl,rfl,trivial⟩ (AvLe.of_eq (by rw [h]; try rfl))
   · have h:=h.2 (bnF hc1)
     rcases bft (!(Qb be.rating 1 1000)) with hc2 | hc2
     · have h:=h.1 (bnT hc2)
       exact p61_0_1 u i be hE ⟨hc0,(Qr h1),(rp cBrd 4 0 4 h1),(by decide),q5_1,(u131 (QC be.parent (-1) ((i:Int) - 1))),hc1,(u131 (QC be.rating 1 1000)),hc2,rfl,rfl,trivial⟩ (AvLe.of_eq (by rw [h]; try rfl))
     · have h:=h.2 (bnF hc2)
       rcases bft (!(Qb be.delay 0 20)) with hc3 | hc3
       · have h:=h.1 (bnT hc3)
         exact p61_0_2 u i be hE ⟨hc0,(Qr h1),(rp cBrd 4 0 4 h1),(by decide),q5_1,(u131 (QC be.parent (-1) ((i:Int) - 1))),hc1,(u131 (QC be.rating 1 1000)),hc2,(u131 (QC be.delay 0 20)),hc3,rfl,trivial⟩ (AvLe.of_eq (by rw [h]; try rfl))
       · have h:=h.2 (bnF hc3)
         rcases bft (!(Qb be.loop 1 10000)) with hc4 | hc4
         · have h:=h.1 (bnT hc4)
           exact p61_0_3 u i be hE ⟨hc0,(Qr h1),(rp cBrd 4 0 4 h1),(by decide),q5_1,(u131 (QC be.parent (-1) ((i:Int) - 1))),hc1,(u131 (QC be.rating 1 1000)),hc2,(u131 (QC be.delay 0 20)),hc3,(u131 (QC be.loop 1 10000)),hc4,trivial⟩ (AvLe.of_eq (by rw [h]; try rfl))
         · have h:=h.2 (bnF hc4)
           obtain ⟨q14_5,h⟩:=h
           exact p61_0_4 u i be hE ⟨hc0,(Qr h1),(rp cBrd 4 0 4 h1),(by decide),q5_1,(u131 (QC be.parent (-1) ((i:Int) - 1))),hc1,(u131 (QC be.rating 1 1000)),hc2,(u131 (QC be.delay 0 20)),hc3,(u131 (QC be.loop 1 10000)),hc4,q14_5,trivial⟩ h
 · have h:=h.2 (odf hc0)
   exact p61_0_5 u i hE ⟨hc0,trivial⟩ h
theorem p61_1_0 (u:Sup) {E:Env} {res:AV} (hE:Qg Try.prog 61 res E) (ho:AllP [false=false])
 (hr:AvLe (.int .i64 0) res):G Try.prog E (f61K1 Try.prog) (f61S1 u ) :=
 Qd (n:=400) (evs:=[.b false]) (obs:=_) hE Try.func61 Qi (by kernel_rfl) ho hr
theorem f61W1 (u:Sup) {E:Env} {rv:Int} (hE:Qg Try.prog 61 (.int .i64 rv) E)
 (h:rv=0):f61G1 E u:=by
 exact p61_1_0 u hE ⟨rfl,trivial⟩ (AvLe.of_eq (by rw [h]; try rfl))
theorem f132b:Try.f132.body=some (Qe Try.prog 132):=by kernel_rfl
def qY (P:Program):List Item:=kAt 400 [.code (Qe P 132)] [.stop]
def qX (yv0:Value) (u:Sup) (b0:Int) (p:Int):St:=⟨([.opq yv0,.ptr 1 0 0,.rptr [.rsl (QE u.boards) 0 u.boards.length,.nilSl,.int .i64 u.power,.int .i64 u.hold,.int .i64 u.volts] 0]++Js 15),[⟨false,1,1,true,[],false⟩,⟨true,0,1,true,[.int .i64 p],false⟩]⟩
theorem p132_s (yv0:Value) (u:Sup) (b0:Int) {E:Env} {xs:List (List AV)} {yv:Value} {Y:Option Nat→Sd} {cont:Nat→Bool} {e:Option Nat} {o:Option Nat} (hE:IterE Try.prog 132 xs yv Y cont e o E)
 (hg:G Try.prog E (qY Try.prog) (qX yv0 u b0 b0)):G Try.prog E [.code (Qe Try.prog 132)] ⟨[.opq yv0,.ptr 1 0 0,.rptr [.rsl (QE u.boards) 0 u.boards.length,.nilSl,.int .i64 u.power,.int .i64 u.hold,.int .i64 u.volts] 0]++unds (Try.f132.ntmps - 3),[⟨false,1,1,true,[],false⟩,⟨true,0,1,true,[.int .i64 b0],false⟩]⟩ :=
 Vt (n:=400) (ds:=[]) (live:=[0,1,2]) (m:=2) (evs:=[.stop]) (obs:=[]) hE.kind (hE.nogh _) Qi (by kernel_rfl) trivial hg
def f132Kh0 (P:Program):List Item:=toOp 2 (kReg 400 [.code (Qe P 132)] [.b true] 1)
def f132Sh0 (yv0:Value) (u:Sup) (b0:Int) (p:Int):St:=⟨([.opq yv0,.ptr 1 0 0,.rptr [.rsl (QE u.boards) 0 u.boards.length,.nilSl,.int .i64 u.power,.int .i64 u.hold,.int .i64 u.volts] 0,J,.int .i64 p,.bool (decide (p≥0))]++jj 6 ([.opq yv0,.int .i64 p,J,J,J,J])),[⟨false,1,1,true,[],false⟩,⟨true,0,1,true,[.int .i64 p],false⟩]⟩
def Ka (P:Program):List Item:=toOp 3 (kReg 400 [.code (Qe P 132)] [.b true] 1)
def f132Sh0a (yv0:Value) (u:Sup) (b0:Int) (p:Int) (y:Bool):St:=⟨([.opq yv0,.ptr 1 0 0,.rptr [.rsl (QE u.boards) 0 u.boards.length,.nilSl,.int .i64 u.power,.int .i64 u.hold,.int .i64 u.volts] 0,J,.int .i64 p,.bool (decide (p≥0))]++jj 6 ([.opq yv0,.int .i64 p,.bool y,J,J,J])),[⟨false,1,1,true,[],false⟩,⟨true,0,1,true,[.int .i64 p],false⟩]⟩
theorem f132_h0 (yv0:Value) (u:Sup) (b0:Int) (p:Int):yieldA (f132Kh0 Try.prog) (f132Sh0 yv0 u b0 p)=some (Ka Try.prog,some 14,yv0,[.int .i64 p]):=by kernel_rfl
theorem p132_0 (yv0:Value) (u:Sup) (b0:Int) (p:Int) {E:Env} {xs:List (List AV)} {yv:Value} {Y:Option Nat→Sd} {cont:Nat→Bool} {e:Option Nat} {o:Option Nat} (hE:IterE Try.prog 132 xs yv Y cont e o E) (h0:(decide (p≥0))=true)
 (hg:G Try.prog E (f132Kh0 Try.prog) (f132Sh0 yv0 u b0 p)):G Try.prog E (qY Try.prog) (qX yv0 u b0 p) :=
 Vt (n:=400) (ds:=[]) (live:=[0,1,2,3,4,5,6,7,8,9,10,11,12,13,14,15,16,17]) (m:=2) (evs:=[.b true,.hold 2]) (obs:=[(decide (p≥0))=true]) hE.kind (hE.nogh _) Qi (by kernel_rfl) ⟨h0,trivial⟩ hg
def f132Kh1 (P:Program):List Item:=toOp 1 (kReg 400 [.code (Qe P 132)] [.b false] 1)
def f132Sh1 (yv0:Value) (u:Sup) (b0:Int) (p:Int):St:=⟨([.opq yv0,.ptr 1 0 0,.rptr [.rsl (QE u.boards) 0 u.boards.length,.nilSl,.int .i64 u.power,.int .i64 u.hold,.int .i64 u.volts] 0,J,.int .i64 p,.bool (decide (p≥0))]++jj 10 ([.opq yv0,J])),[⟨false,1,1,true,[],false⟩,⟨true,0,1,true,[.int .i64 p],false⟩]⟩
def f132Kh1a (P:Program):List Item:=toOp 2 (kReg 400 [.code (Qe P 132)] [.b false] 1)
def f132Sh1a (yv0:Value) (u:Sup) (b0:Int) (p:Int) (y:Bool):St:=⟨([.opq yv0,.ptr 1 0 0,.rptr [.rsl (QE u.boards) 0 u.boards.length,.nilSl,.int .i64 u.power,.int .i64 u.hold,.int .i64 u.volts] 0,J,.int .i64 p,.bool (decide (p≥0))]++jj 10 ([.opq yv0,.bool y])),[⟨false,1,1,true,[],false⟩,⟨true,0,1,true,[.int .i64 p],false⟩]⟩
theorem f132_h1 (yv0:Value) (u:Sup) (b0:Int) (p:Int):yieldA (f132Kh1 Try.prog) (f132Sh1 yv0 u b0 p)=some (f132Kh1a Try.prog,some 17,yv0,[.int .i64 (-1)]):=by kernel_rfl
theorem p132_1 (yv0:Value) (u:Sup) (b0:Int) (p:Int) {E:Env} {xs:List (List AV)} {yv:Value} {Y:Option Nat→Sd} {cont:Nat→Bool} {e:Option Nat} {o:Option Nat} (hE:IterE Try.prog 132 xs yv Y cont e o E) (h0:(decide (p≥0))=false)
 (hg:G Try.prog E (f132Kh1 Try.prog) (f132Sh1 yv0 u b0 p)):G Try.prog E (qY Try.prog) (qX yv0 u b0 p) :=
 Vt (n:=400) (ds:=[]) (live:=[0,1,2,3,4,5,6,7,8,9,10,11,12,13,14,15,16,17]) (m:=2) (evs:=[.b false,.hold 1]) (obs:=[(decide (p≥0))=false]) hE.kind (hE.nogh _) Qi (by kernel_rfl) ⟨h0,trivial⟩ hg
theorem p132_a00 (yv0:Value) (u:Sup) (b0:Int) (p:Int) (y:Bool) {E:Env} {xs:List (List AV)} {yv:Value} {Y:Option Nat→Sd} {cont:Nat→Bool} {e:Option Nat} (hE:IterE Try.prog 132 xs yv Y cont e e E) (h0:(!y)=true):G Try.prog E (Ka Try.prog) (f132Sh0a yv0 u b0 p y) :=
 iter_end (n:=400) (evs:=[.b true]) (obs:=[(!y)=true]) hE Try.func132 (by kernel_rfl) Qi (by kernel_rfl) ⟨h0,trivial⟩
theorem p132_a01 (yv0:Value) (u:Sup) (b0:Int) (p:Int) (y:Bool) {E:Env} {xs:List (List AV)} {yv:Value} {Y:Option Nat→Sd} {cont:Nat→Bool} {e:Option Nat} {o:Option Nat} (hE:IterE Try.prog 132 xs yv Y cont e o E) (h0:(!y)=false) (h1:0≤p∧p<(u.boards.length:Int)) (h2:((QE u.boards).drop ((0+((Int.toNat p)*4))+0)).take 1=[.int .i64 (parU u p)])
 (hg:G Try.prog E (qY Try.prog) (qX yv0 u b0 (parU u p))):G Try.prog E (Ka Try.prog) (f132Sh0a yv0 u b0 p y) :=
 Vt (n:=400) (ds:=[]) (live:=[0,1,2]) (m:=2) (evs:=[.b false,.auto,.auto,.ld (.int .i64 (parU u p)),.stop]) (obs:=[(!y)=false,0≤p∧p<(u.boards.length:Int),((QE u.boards).drop ((0+((Int.toNat p)*4))+0)).take 1=[.int .i64 (parU u p)],1≤1]) hE.kind (hE.nogh _) Qi (by kernel_rfl) ⟨h0,h1,h2,(by decide),trivial⟩ hg
theorem p132_a10 (yv0:Value) (u:Sup) (b0:Int) (p:Int) (y:Bool) {E:Env} {xs:List (List AV)} {yv:Value} {Y:Option Nat→Sd} {cont:Nat→Bool} {e:Option Nat} (hE:IterE Try.prog 132 xs yv Y cont e e E):G Try.prog E (f132Kh1a Try.prog) (f132Sh1a yv0 u b0 p y) :=
 iter_end (n:=400) (evs:=[]) (obs:=[]) hE Try.func132 (by kernel_rfl) Qi (by kernel_rfl) trivial
theorem f64b:Try.f64.body=some (Qe Try.prog 64):=by kernel_rfl
def argU (x:Int):List AV:=[.int .i64 x]
def upL (u:Sup):Nat→Int→List Int
 | 0,_=>[-1]
 | f+1,p=>if p≥0 then p :: upL u f (parU u p) else [-1]
def SupUp (u:Sup):Prop:=∀ p:Int,0≤p→p<(u.boards.length:Int)→-1≤parU u p∧parU u p<p
theorem yb {α:Type} {l:List α} {n:Nat} {x:α} {r:List α} (h:l.drop n=x :: r):l[n]?=some x∧l.drop (n+1)=r∧n<l.length:=by
 have hn:n<l.length:=by
  rcases Nat.lt_or_ge n l.length with h1 | h1
  · exact h1
  · rw [List.drop_eq_nil_of_le h1] at h; cases h
 rw [List.drop_eq_getElem_cons hn] at h
 simp only [List.cons.injEq] at h
 exact ⟨by rw [List.getElem?_eq_getElem hn,h.1],h.2,hn⟩
theorem brd_ld {l:List Brd} {i:Nat} {x:Brd} (h:l[i]?=some x):((QE l).drop ((0+(i*4))+0)).take 1=[.int .i64 x.parent]:=by
 exact row_part cBrd (s:=4) (fun _=>rfl) (k:=0) (m:=1) (by decide) h
section
variable {L:List Int} {yv:Value} {Y:Option Nat→Sd} {cont:Nat→Bool} {e:Option Nat} {u:Sup} {b0:Int}
theorem it_up (hs:SupUp u):∀ (f:Nat) (p:Int) (n:Nat) (E:Env),p<(f:Int)→p<(u.boards.length:Int)→IterE Try.prog 132 (L.map argU) yv Y cont e (some n) E→Xp cont n (L.length - n)=e→L.drop n=upL u f p →
 G Try.prog E (qY Try.prog) (qX yv u b0 p):=by
 intro f
 have last:∀ (p:Int) (n:Nat) (E:Env),p<0→IterE Try.prog 132 (L.map argU) yv Y cont e (some n) E→Xp cont n (L.length - n)=e→L.drop n=[-1]→G Try.prog E (qY Try.prog) (qX yv u b0 p):=by
  intro p n E hp hE hi hL
  obtain ⟨g1,g2,g3⟩:=yb hL
  have hlen:L.length - n=1:=by
   have:=congrArg List.length hL
   simpa using this
  rw [hlen] at hi
  simp only [Xp] at hi
  refine p132_1 yv u b0 p hE (decide_eq_false (by omega)) ?_
  refine WG (x:=argU (-1)) hE (by simp [g1]) (f132_h1 yv u b0 p) rfl fun E' hE'=>?_
  have he:nxt cont n=e:=by
   unfold nxt
   cases hc:cont n with
   | true=>rw [hc] at hi; exact hi
   | false=>rw [hc] at hi; exact hi
  rw [he] at hE'
  exact p132_a10 yv u b0 p _ hE'
 induction f with
 | zero =>
  intro p n E hp hp2 hE hi hL
  exact last p n E (by omega) hE hi hL
 | succ f ih =>
  intro p n E hp hp2 hE hi hL
  unfold upL at hL
  by_cases h0:p≥0
  · rw [if_pos h0] at hL
    obtain ⟨g1,g2,g3⟩:=yb hL
    obtain ⟨q1,q2⟩:=hs p h0 hp2
    refine p132_0 yv u b0 p hE (decide_eq_true h0) ?_
    refine WG (x:=argU p) hE (by simp [g1]) (f132_h0 yv u b0 p) rfl fun E' hE'=>?_
    have hst:L.length - n=(L.length - (n+1))+1:=by omega
    rw [hst] at hi
    simp only [Xp] at hi
    have hx:u.boards[p.toNat]?=some (u.boards.getD p.toNat ⟨-1,0,0,0⟩):=by
     rw [List.getD_eq_getElem?_getD,List.getElem?_eq_getElem (show p.toNat<u.boards.length by omega)]; rfl
    cases hc:cont n with
    | true =>
     simp only [nxt,hc,cond_true] at hE' hi
     exact p132_a01 yv u b0 p true hE' rfl ⟨h0,hp2⟩ (brd_ld hx) (ih (parU u p) (n+1) E' (by omega) (by omega) hE' hi g2)
    | false =>
     simp only [nxt,hc,cond_false] at hE' hi
     subst hi
     exact p132_a00 yv u b0 p false hE' rfl
  · rw [if_neg h0] at hL
    exact last p n E (by omega) hE hi hL
end
theorem pup_ok (u:Sup) (b:Int) (h:SupUp u∧b<(u.boards.length:Int)):UpF Try.prog (.clos 64 [] []) [.agg [.rsl (QE u.boards) 0 u.boards.length,.nilSl,.int .i64 u.power,.int .i64 u.hold,.int .i64 u.volts],.int .i64 b] ((upL u (u.boards.length) b).map argU) :=
 upF_of Try.func64 (by kernel_rfl) f64b fun E hE =>
  endU_step (n:=400) (K':=[.code .ret]) (evs:=[.vn .junk]) (evs':=[]) (obs:=[]) (o2:=[]) (evs2:=[]) (f2:=132) (caps:=[.ptr 1 0 0,.rptr [.rsl (QE u.boards) 0 u.boards.length,.nilSl,.int .i64 u.power,.int .i64 u.hold,.int .i64 u.volts] 0])
   (st':=⟨[.agg [.rsl (QE u.boards) 0 u.boards.length,.nilSl,.int .i64 u.power,.int .i64 u.hold,.int .i64 u.volts],.int .i64 b,.rptr [.rsl (QE u.boards) 0 u.boards.length,.nilSl,.int .i64 u.power,.int .i64 u.hold,.int .i64 u.volts] 0,.ptr 1 0 0,.clos 132 [] [.ptr 1 0 0,.rptr [.rsl (QE u.boards) 0 u.boards.length,.nilSl,.int .i64 u.power,.int .i64 u.hold,.int .i64 u.volts] 0],.clos 132 [] [.ptr 1 0 0,.rptr [.rsl (QE u.boards) 0 u.boards.length,.nilSl,.int .i64 u.power,.int .i64 u.hold,.int .i64 u.volts] 0]],[⟨false,1,1,true,[],false⟩,⟨true,0,1,true,[.int .i64 b],false⟩]⟩)
   hE Try.func64 Qi (by kernel_rfl) rfl trivial (by kernel_rfl) trivial Try.func132 (by kernel_rfl) f132b fun E' yv Y cont hI =>
    p132_s yv u b hI (it_up h.1 u.boards.length b 0 E' h.2 h.2 hI (by simp) (by simp))
end Go.Proofs.Ytemklbioijmjiaa
namespace Go.Proofs.Ytemklbioijmjiaa
open Go Ax
open Go.Proofs
def brdU (u:Sup) (b:Int):Brd:=u.boards.getD b.toNat ⟨-1,0,0,0⟩
def addL (u:Sup) (acc:Int) (b:Int):Int:=if b=-1 then acc else acc+(brdU u b).loop
def qC (u:Sup) (b:Int):Int:=(upL u u.boards.length b).foldl (addL u) 0
def Xv (u:Sup) (b:Int):Bool:=decide (Int.tdiv (u.volts*1000) (qC u b)<5*(brdU u b).rating)
def brdOk (i:Nat) (b:Brd):Bool:=Qb b.parent (-1) ((i:Int) - 1) && (Qb b.rating 1 1000 && (Qb b.delay 0 20 && Qb b.loop 1 10000))
def VI:Nat→List Brd→Bool
 | _,[]=>true
 | i,b :: l=>brdOk i b && VI (i+1) l
def Yx (u:Sup):Bool:=decide (u.boards.length≤10) && (Qb u.power 1 1000 && (Qb u.hold 0 20 && (Qb u.volts 1 1000 && VI 0 u.boards)))
def supE (u:Sup):Int:=if Yx u=true then 0 else 50
theorem Yf {u:Sup} (h:Yx u=false):supE u=50:=by unfold supE; rw [if_neg (by rw [h]; exact Bool.false_ne_true)]
theorem yf:∀ {l:List Brd} {i:Nat},VI i l=true→∀ {j:Nat} {b:Brd},l[j]?=some b→brdOk (i+j) b=true
 | [],i,_,j,b,h=>by simp at h
 | x :: l,i,hg,0,b,h=>by
  simp only [VI,Bool.and_eq_true] at hg
  simp only [List.getElem?_cons_zero,Option.some.injEq] at h
  subst h; exact hg.1
 | x :: l,i,hg,j+1,b,h=>by
  simp only [VI,Bool.and_eq_true] at hg
  have:=yf hg.2 (j:=j) (b:=b) (by simpa using h)
  rw [show i+(j+1)=i+1+j by omega]; exact this
structure SupP (u:Sup):Prop where
 n:u.boards.length≤10
 v:1≤u.volts∧u.volts≤1000
 b:∀ (j:Nat) (b:Brd),u.boards[j]?=some b→(-1≤b.parent∧b.parent≤(j:Int) - 1)∧(1≤b.rating∧b.rating≤1000)∧(1≤b.loop∧b.loop≤10000)
theorem sup_p {u:Sup} (h:Yx u=true):SupP u:=by
 simp only [Yx,Bool.and_eq_true,decide_eq_true_eq] at h
 refine ⟨h.1,QI.1 h.2.2.2.1,fun j b hb=>?_⟩
 have:=yf h.2.2.2.2 hb
 simp only [brdOk,Bool.and_eq_true] at this
 have p:=QI.1 this.1
 exact ⟨by omega,QI.1 this.2.1,QI.1 this.2.2.2⟩
theorem SupP.at_ {u:Sup} (h:SupP u) {p:Int} (h0:0≤p) (h1:p<(u.boards.length:Int)):u.boards[p.toNat]?=some (brdU u p):=by
 rw [brdU,List.getD_eq_getElem?_getD,List.getElem?_eq_getElem (show p.toNat<u.boards.length by omega)]; rfl
theorem SupP.up {u:Sup} (h:SupP u):SupUp u:=fun p h0 h1=>by
 have:=(h.b _ _ (h.at_ h0 h1)).1
 have e:parU u p=(brdU u p).parent:=rfl
 omega
theorem upL_mem {u:Sup} (h:SupP u):∀ (f:Nat) (p:Int),p<(u.boards.length:Int)→∀ x ∈ upL u f p,x=-1 ∨ (0≤x∧x<(u.boards.length:Int))
 | 0,p,_,x,hx=>by simp only [upL,List.mem_singleton] at hx; exact .inl hx
 | f+1,p,hp,x,hx=>by
  unfold upL at hx
  split at hx
  · rename_i q
    rcases List.mem_cons.1 hx with rfl | hx
    · exact .inr ⟨q,hp⟩
    · have:=h.up p q hp
      exact upL_mem h f _ (by omega) x hx
  · simp only [List.mem_singleton] at hx; exact .inl hx
theorem upL_len (u:Sup):∀ (f:Nat) (p:Int),(upL u f p).length≤f+1
 | 0,p=>by simp [upL]
 | f+1,p=>by
  unfold upL
  split
  · have:=upL_len u f (parU u p); simp; omega
  · simp
theorem addL_bd {u:Sup} (h:SupP u):∀ (l:List Int) (a:Int),(∀ x ∈ l,x=-1 ∨ (0≤x∧x<(u.boards.length:Int)))→a≤l.foldl (addL u) a∧l.foldl (addL u) a≤a+10000*(l.length:Int)
 | [],a,_=>by simp
 | x :: l,a,hm=>by
  have ih:=addL_bd h l (addL u a x) (fun y hy=>hm y (List.mem_cons_of_mem _ hy))
  have h1:=hm x List.mem_cons_self
  simp only [List.foldl_cons,List.length_cons]
  unfold addL at ih ⊢
  split at ih
  · rename_i e; rw [if_pos e]; omega
  · rename_i e
    rw [if_neg e]
    have h2:=h1.resolve_left e
    have:=(h.b _ _ (h.at_ h2.1 h2.2)).2.2
    omega
theorem loopS_bd {u:Sup} (h:SupP u) {b:Int} (h0:0≤b) (h1:b<(u.boards.length:Int)):1≤qC u b∧qC u b≤200000:=by
 have hn:=h.n
 unfold qC
 cases hl:u.boards.length with
 | zero=>omega
 | succ n =>
  rw [hl] at h1
  have hx:=(h.b _ _ (h.at_ h0 (by rw [hl]; exact h1))).2.2
  have hm:∀ x ∈ upL u n (parU u b),x=-1 ∨ (0≤x∧x<(u.boards.length:Int)):=upL_mem h n _ (by have:=h.up b h0 (by rw [hl]; exact h1); omega)
  have hb:=addL_bd h (upL u n (parU u b)) (brdU u b).loop hm
  have hll:=upL_len u n (parU u b)
  unfold upL
  rw [if_pos h0,List.foldl_cons]
  have e:addL u 0 b=(brdU u b).loop:=by unfold addL; rw [if_neg (by omega)]; omega
  rw [e]
  omega
theorem quot_bd {a b:Int} (ha:0≤a) (hb:1≤b):0≤Int.tdiv a b∧Int.tdiv a b≤a:=by
 rw [Int.tdiv_eq_ediv_of_nonneg ha]
 exact ⟨Int.ediv_nonneg ha (by omega),Int.ediv_le_self _ ha⟩
theorem f63b:Try.f63.body=some (Qe Try.prog 63):=by kernel_rfl
theorem u63 {a c k:List AV} {r:AV} (h:Pure Try.prog 63 (a++c++k) r):Qf Try.prog (.clos 63 a k) c r:=Qn Try.func63 (by kernel_rfl) f63b h
def YR (P:Program):List Item:=kAt 400 [.code (Qe P 63)] []
def Ys (board:Int) (u:Sup) (s:Int):St:=⟨([.int .i64 board,.rptr [.rsl (QE u.boards) 0 u.boards.length,.nilSl,.int .i64 u.power,.int .i64 u.hold,.int .i64 u.volts] 0,J,J,.ptr 0 0 0,J,.agg [.rsl (QE u.boards) 0 u.boards.length,.nilSl,.int .i64 u.power,.int .i64 u.hold,.int .i64 u.volts],.int .i64 board]++Js 25),[⟨true,0,1,true,[.int .i64 s],false⟩]⟩
def f63Kur0 (P:Program):List Item:=toOp 2 (kReg 400 [.code (Qe P 63)] [] 2)
def f63Gr0 (E:Env) (board:Int) (u:Sup) (s:Int):Prop:=GX Try.prog E (YG Try.prog E (((upL u u.boards.length board)).map argU) (.tmp 8)) (YR Try.prog) (Ys board u s)
def f63Tr0 (board:Int) (u:Sup) (s:Int) (x:Int):St:=⟨([.int .i64 board,.rptr [.rsl (QE u.boards) 0 u.boards.length,.nilSl,.int .i64 u.power,.int .i64 u.hold,.int .i64 u.volts] 0,J,J,.ptr 0 0 0,.int .i64 x,.agg [.rsl (QE u.boards) 0 u.boards.length,.nilSl,.int .i64 u.power,.int .i64 u.hold,.int .i64 u.volts],.int .i64 board,J,.int .i64 x]++Js 23),[⟨true,0,1,true,[.int .i64 s],false⟩]⟩
abbrev z63_1 (u:Sup):List AV:=[.rsl (QE u.boards) 0 u.boards.length,.nilSl,.int .i64 u.power,.int .i64 u.hold,.int .i64 u.volts]
theorem p63_start_0 (board:Int) (u:Sup) {E:Env} {rv:AV} (hE:Qg Try.prog 63 rv E) (ho:AllP [1≤1]) (hup:UpF Try.prog (.clos 64 [] []) [.agg (z63_1 u),.int .i64 board] (((upL u u.boards.length board)).map argU))
 (hg:GX Try.prog E (YG Try.prog E (((upL u u.boards.length board)).map argU) (.tmp 8)) (YR Try.prog) ⟨([.int .i64 board,.rptr (z63_1 u) 0,J,J,.ptr 0 0 0,J,.agg (z63_1 u),.int .i64 board]++Js 25),[⟨true,0,1,true,[.int .i64 0],false⟩]⟩):G Try.prog E [.code (Qe Try.prog 63)] ⟨[.int .i64 board,.rptr (z63_1 u) 0]++unds (Try.f63.ntmps - 2),[]⟩:=by
 refine Qj (K':=f63Kur0 Try.prog) (st':=⟨([.int .i64 board,.rptr (z63_1 u) 0,J,J,.ptr 0 0 0,J,.agg (z63_1 u),.int .i64 board]++Js 25),[⟨true,0,1,true,[.int .i64 0],false⟩]⟩) (n:=400) (ds:=[]) (cs:=[]) (live:=[0,1,4,6,7]) (m:=1) (evs:=[.hold 5]) (obs:=_) hE.2.1 (hE.nogh _) Qi (by kernel_rfl) ho ?_
 exact upcall_stepA (fv:=(.clos 64 [] [])) (avs:=[.agg (z63_1 u),.int .i64 board]) (K2:=YR Try.prog) (d:=8) (by kernel_rfl) hup hg
theorem f63W (board:Int) (u:Sup) {E:Env} {rv:Bool} (hE:Qg Try.prog 63 (.bool rv) E)
 (h:(SupUp u∧board<(u.boards.length:Int))∧f63Gr0 E board u 0):G Try.prog E [.code (Qe Try.prog 63)] ⟨[.int .i64 board,.rptr [.rsl (QE u.boards) 0 u.boards.length,.nilSl,.int .i64 u.power,.int .i64 u.hold,.int .i64 u.volts] 0]++unds (Try.f63.ntmps - 2),[]⟩:=by
 exact p63_start_0 board u hE ⟨(by decide),trivial⟩ (pup_ok u board h.1) h.2
theorem p63_r0e_0 (board:Int) (u:Sup) (s:Int) (be:Brd) {E:Env} {res:AV} (hE:Qg Try.prog 63 res E) (ho:AllP [InR .i64 (u.volts*1000),InR .i64 (Int.tdiv (u.volts*1000) s),s ≠ 0,0≤board∧board<(u.boards.length:Int),((QE u.boards).drop ((0+(Int.toNat board)*4)+1)).take 1=[.int .i64 be.rating],InR .i64 (5*be.rating)])
 (hr:AvLe (.bool (decide ((Int.tdiv (u.volts*1000) s)<(5*be.rating)))) res):G Try.prog E (qL (YR Try.prog)) (Ys board u s) :=
 Qd (n:=400) (evs:=[.auto,.auto,.auto,.ld (.int .i64 be.rating)]) (obs:=_) hE Try.func63 Qi (by kernel_rfl) ho hr
theorem f63Wr0e (board:Int) (u:Sup) (s:Int) {E:Env} {rv:Bool} (hE:Qg Try.prog 63 (.bool rv) E)
 (h:((I6 (u.volts*1000))∧((I6 (Int.tdiv (u.volts*1000) s))∧(s ≠ 0∧(0≤board∧(∃ be:Brd,u.boards[Int.toNat board]?=some be∧((I6 (5*be.rating))∧rv=(decide ((Int.tdiv (u.volts*1000) s)<(5*be.rating)))))))))):G Try.prog E (qL (YR Try.prog)) (Ys board u s):=by
 obtain ⟨q0_0,h⟩:=h
 obtain ⟨q1_0,h⟩:=h
 obtain ⟨q2_0,h⟩:=h
 obtain ⟨h2,h⟩:=h
 obtain ⟨be,h1,h⟩:=h
 obtain ⟨q6_0,h⟩:=h
 exact p63_r0e_0 board u s be hE ⟨q0_0,q1_0,q2_0,(Qh h2 h1),(rp cBrd 4 1 1 h1),q6_0,trivial⟩ (AvLe.of_eq (by rw [h]; try rfl))
theorem f63Ar0 (board:Int) (u:Sup) (s:Int) (x:Int) {E:Env} (hE:RoundE (Ys board u s).tmps E) (hg:G Try.prog E [.beginRound,.code (YN (YR Try.prog))] (f63Tr0 board u s x)):G Try.prog E [.code (yq (YR Try.prog)),.beginRound,.code (YN (YR Try.prog))] ⟨WO (Ys board u s).tmps [9] (argU x),(Ys board u s).blks⟩ :=
 Qj (n:=400) (ds:=[]) (cs:=[]) (live:=[0,1,2,3,4,5,6,7,8,9,10,11,12,13,14,15,16,17,18,19,20,21,22,23,24,25,26,27,28,29,30,31,32]) (m:=1) (evs:=[]) (obs:=[]) hE.kind (by rw [hE.gA]; kernel_rfl) Qi (by kernel_rfl) trivial hg
theorem f63Br0_0 (board:Int) (u:Sup) (s:Int) (x:Int) (be:Brd) {E:Env} (hE:RoundE (Ys board u s).tmps E) (ho:AllP [(x != (-1))=true,0≤x∧x<(u.boards.length:Int),((QE u.boards).drop ((0+(Int.toNat x)*4)+3)).take 1=[.int .i64 be.loop],InR .i64 (s+be.loop),1≤1])
 (hg:G Try.prog E [] ⟨(Js 33),[⟨true,0,1,true,[.int .i64 (s+be.loop)],false⟩]⟩):G Try.prog E [.code (YN (YR Try.prog))] (f63Tr0 board u s x) :=
 Qj (n:=400) (ds:=[]) (cs:=[]) (live:=[]) (m:=1) (evs:=[.b true,.auto,.auto,.ld (.int .i64 be.loop)]) (obs:=_) hE.kind (by rw [hE.gA]; kernel_rfl) Qi (by kernel_rfl) ho hg
theorem f63Br0_1 (board:Int) (u:Sup) (s:Int) (x:Int) {E:Env} (hE:RoundE (Ys board u s).tmps E) (ho:AllP [(x != (-1))=false])
 (hg:G Try.prog E [] ⟨(Js 33),[⟨true,0,1,true,[.int .i64 s],false⟩]⟩):G Try.prog E [.code (YN (YR Try.prog))] (f63Tr0 board u s x) :=
 Qj (n:=400) (ds:=[]) (cs:=[]) (live:=[]) (m:=1) (evs:=[.b false]) (obs:=_) hE.kind (by rw [hE.gA]; kernel_rfl) Qi (by kernel_rfl) ho hg
theorem f63Br0 (board:Int) (u:Sup) (s:Int) (x:Int) {rq:(Int) × Bool} {E:Env} (hE:RoundE (Ys board u s).tmps E) (hQ:RoundR (fun s=>(Ys board u s).blks) (.ret) rq E)
 (h:((¬ (x=(-1))→(0≤x∧(∃ be:Brd,u.boards[Int.toNat x]?=some be∧((I6 (s+be.loop))∧rq=((s+be.loop),true)))))∧(x=(-1)→rq=(s,true)))):G Try.prog E [.code (YN (YR Try.prog))] (f63Tr0 board u s x):=by
 rcases bft (x != (-1)) with hc0 | hc0
 · have h:=h.1 (bneT hc0)
   obtain ⟨h2,h⟩:=h
   obtain ⟨be,h1,h⟩:=h
   obtain ⟨q4_1,h⟩:=h
   exact f63Br0_0 board u s x be hE ⟨hc0,(Qh h2 h1),(rp cBrd 4 3 1 h1),q4_1,(by decide),trivial⟩ (round_go hQ h rfl)
 · have h:=h.2 (bneF hc0)
   exact f63Br0_1 board u s x hE ⟨hc0,trivial⟩ (round_go hQ h rfl)
theorem f63Rr0 (board:Int) (u:Sup) (s0:Int) {E:Env} {rv:Bool} (hE:Qg Try.prog 63 (.bool rv) E) (step:(Int)→(Int)→(Int))
 (h:True∧(∀ (i:Nat) (x:Int) (s:Int),(upL u u.boards.length board)[i]?=some x→s=((upL u u.boards.length board).take i).foldl step s0→((¬ (x=(-1))→(0≤x∧(∃ be:Brd,u.boards[Int.toNat x]?=some be∧((I6 (s+be.loop))∧step s x=(s+be.loop)))))∧(x=(-1)→step s x=s)))∧(∀ s:Int,s=(upL u u.boards.length board).foldl step s0→((I6 (u.volts*1000))∧((I6 (Int.tdiv (u.volts*1000) s))∧(s ≠ 0∧(0≤board∧(∃ be:Brd,u.boards[Int.toNat board]?=some be∧((I6 (5*be.rating))∧rv=(decide ((Int.tdiv (u.volts*1000) s)<(5*be.rating))))))))))):f63Gr0 E board u s0:=by
 have hgA:E.gA=[]:=hE.2.2.2.2.1
 have hT:(Ys board u s0).tmps++E.gA=(Ys board u s0).tmps:=by rw [hgA,List.append_nil]
 refine range_foldX (σ:=Int) (X:=Int) (arg:=argU) (L:=(upL u u.boards.length board)) (jump:=.ret) (g:=.tmp 8) (ps:=#[9]) (fun s=>(Ys board u s).blks) (fun s x=>(f63Tr0 board u s x)) (fun s x=>(step s x,true)) s0 hE.1 hE.2.1 (by kernel_rfl) rfl (fun x=>rfl) (fun s x E' hR hg=>?_) (fun i x s hx hs E' hR hQ=>?_) (fun s hs=>?_) (fun s hs=>?_)
 · rw [hT] at hR; exact f63Ar0 board u s x hR hg
 · rw [hT] at hR; rw [YA] at hs; simp only [Prod.mk.injEq,and_true] at hs; refine f63Br0 board u s x hR hQ ?_
   have h:=h.2.1 i x s hx hs.symm
   simpa only [Prod.mk.injEq,and_true] using h
 · rw [YA] at hs; simp only [Prod.mk.injEq,and_true] at hs; exact f63Wr0e board u s hE (h.2.2 s hs.symm)
 · rw [YA] at hs; simp at hs
theorem pCheck_ok (u:Sup) (h:u.boards.length≤1000):Pure Try.prog 61 [.agg [.rsl (QE u.boards) 0 u.boards.length,.nilSl,.int .i64 u.power,.int .i64 u.hold,.int .i64 u.volts]] (.int .i64 (supE u)):=Qy Try.func61 f61b fun E hE=>by
 refine f61W u (rv:=supE u) hE ⟨fun h1=>Yf ?_,fun h1=>⟨fun h2=>Yf ?_,fun h2=>⟨fun h3=>Yf ?_,fun h3=>⟨fun h4=>Yf ?_,fun h4=>?_⟩⟩⟩⟩
 · unfold Yx; rw [decide_eq_false (by omega)]; rfl
 · unfold Yx; rw [h2]; simp
 · unfold Yx; rw [h3]; simp
 · unfold Yx; rw [h4]; simp
 have he:Yx u=VI 0 u.boards:=by
  unfold Yx; rw [decide_eq_true (show u.boards.length≤10 by omega),h2,h3,h4]; rfl
 have key:∀ (d i:Nat),i+d=u.boards.length→Yx u=VI i (u.boards.drop i)→f61G0 E u i:=by
  intro d
  induction d with
  | zero =>
   intro i hi hr
   rw [List.drop_eq_nil_of_le (by omega)] at hr
   exact f61W0 u i (rv:=supE u) hE ⟨fun h=>by omega,fun _=>f61W1 u (rv:=supE u) hE (by unfold supE; rw [if_pos (show Yx u=true from hr)])⟩
  | succ d ih =>
   intro i hi hr
   have hx:u.boards[i]?=some (u.boards[i]'(by omega)):=List.getElem?_eq_getElem (by omega)
   rw [List.drop_eq_getElem_cons (by omega)] at hr
   generalize u.boards[i]'(by omega)=b at hx hr
   simp only [VI,brdOk] at hr
   refine f61W0 u i (rv:=supE u) hE ⟨fun _=>⟨b,hx,⟨by omega,by omega⟩,fun q1=>Yf ?_,fun q1=>⟨fun q2=>Yf ?_,fun q2=>⟨fun q3=>Yf ?_,fun q3=>⟨fun q4=>Yf ?_,fun q4=>⟨⟨by omega,by omega⟩,?_⟩⟩⟩⟩⟩,fun h=>by omega⟩
   · rw [hr,q1]; rfl
   · rw [hr,q2]; simp
   · rw [hr,q3]; simp
   · rw [hr,q4]; simp
   · rw [q1,q2,q3,q4] at hr
     exact ih (i+1) (by omega) hr
 exact key u.boards.length 0 (by omega) he
theorem earth1_ok (b:Int) (u:Sup) (h:Yx u=true∧0≤b∧b<(u.boards.length:Int)):Pure Try.prog 63 [.int .i64 b,.rptr [.rsl (QE u.boards) 0 u.boards.length,.nilSl,.int .i64 u.power,.int .i64 u.hold,.int .i64 u.volts] 0] (.bool (Xv u b)):=Qy Try.func63 f63b fun E hE=>by
 obtain ⟨h1,h2,h3⟩:=h
 have hp:=sup_p h1
 have hb:=hp.b _ _ (hp.at_ h2 h3)
 have hl:=loopS_bd hp h2 h3
 have hv:=hp.v
 have hq:=quot_bd (a:=u.volts*1000) (b:=qC u b) (by omega) hl.1
 refine f63W b u (rv:=Xv u b) hE ⟨⟨hp.up,h3⟩,f63Rr0 b u 0 (rv:=Xv u b) hE (addL u) ⟨trivial,fun i x s hx hs=>⟨fun q=>?_,fun q=>?_⟩,fun s hs=>?_⟩⟩
 · have hm:=upL_mem hp u.boards.length b h3
   have h4:=(hm x (List.mem_of_getElem? hx)).resolve_left q
   have h5:=addL_bd hp ((upL u u.boards.length b).take i) 0 (fun y hy=>hm y (List.mem_of_mem_take hy))
   have h6:((upL u u.boards.length b).take i).length≤(upL u u.boards.length b).length:=by rw [List.length_take]; omega
   have h7:=upL_len u u.boards.length b
   have h8:=hp.n
   have h9:=(hp.b _ _ (hp.at_ h4.1 h4.2)).2.2
   rw [← hs] at h5
   refine ⟨h4.1,brdU u x,hp.at_ h4.1 h4.2,⟨by omega,by omega⟩,?_⟩
   unfold addL; rw [if_neg q]
 · unfold addL; rw [if_pos q]
 · have e:s=qC u b:=hs
   rw [e]
   exact ⟨⟨by omega,by omega⟩,⟨by omega,by omega⟩,by omega,h2,_,hp.at_ h2 h3,⟨by omega,by omega⟩,rfl⟩
theorem f62b:Try.f62.body=some (Qe Try.prog 62):=by kernel_rfl
theorem u62 {a c k:List AV} {r:AV} (h:Pure Try.prog 62 (a++c++k) r):Qf Try.prog (.clos 62 a k) c r:=Qn Try.func62 (by kernel_rfl) f62b h
def f62K0 (P:Program):List Item:=kAt 400 [.code (Qe P 62)] [.stop]
def f62S0 (u:Sup) (v1:List Int) (i:Nat) (g1:Nat):St:=⟨([J,.clos 63 [] [.rptr [.rsl (QE u.boards) 0 u.boards.length,.nilSl,.int .i64 u.power,.int .i64 u.hold,.int .i64 u.volts] 0],J,J,.sl 1 g1 0 v1.length 1,J,J,J,.int .i64 (u.boards.length:Int),.int .i64 (i:Int)]++Js 11),[⟨true,0,1,true,[.rsl (QE u.boards) 0 u.boards.length,.nilSl,.int .i64 u.power,.int .i64 u.hold,.int .i64 u.volts],false⟩,⟨true,g1,1,true,(rowI v1),true⟩]⟩
def f62G0 (E:Env) (u:Sup) (v1:List Int) (i:Nat):Prop:=∀ g1:Nat,G Try.prog E (f62K0 Try.prog) (f62S0 u v1 i g1)
abbrev z62_1 (u:Sup):List AV:=[.rsl (QE u.boards) 0 u.boards.length,.nilSl,.int .i64 u.power,.int .i64 u.hold,.int .i64 u.volts]
theorem p62_start_0 (u:Sup) {E:Env} {rv:AV} (hE:Qg Try.prog 62 rv E) (ho:AllP [])
 (hg:G Try.prog E (f62K0 Try.prog) ⟨([J,.clos 63 [] [.rptr (z62_1 u) 0],J,J,.sl 1 0 0 0 1,J,J,J,.int .i64 (u.boards.length:Int),.int .i64 0]++Js 11),[⟨true,0,1,true,(z62_1 u),false⟩,⟨true,0,1,true,[],true⟩]⟩):G Try.prog E [.code (Qe Try.prog 62)] ⟨[.agg (z62_1 u),.clos 63 [] [.rptr (z62_1 u) 0]]++unds (Try.f62.ntmps - 2),[]⟩ :=
 Qj (n:=400) (ds:=[(4,1)]) (cs:=[]) (live:=[1,4,8,9]) (m:=2) (evs:=[.stop]) (obs:=_) hE.2.1 (hE.nogh _) Qi (by kernel_rfl) ho hg
theorem f62W (u:Sup) {E:Env} {rv:(List Int)} (hE:Qg Try.prog 62 (.rsl (rowI rv) 0 rv.length) E)
 (h:f62G0 E u ([]) 0):G Try.prog E [.code (Qe Try.prog 62)] ⟨[.agg [.rsl (QE u.boards) 0 u.boards.length,.nilSl,.int .i64 u.power,.int .i64 u.hold,.int .i64 u.volts],.clos 63 [] [.rptr [.rsl (QE u.boards) 0 u.boards.length,.nilSl,.int .i64 u.power,.int .i64 u.hold,.int .i64 u.volts] 0]]++unds (Try.f62.ntmps - 2),[]⟩:=by
 exact p62_start_0 u hE trivial (h 0)
theorem p62_0_0 (u:Sup) (v1:List Int) (i:Nat) (g1:Nat) {E:Env} {rv:AV} (hE:Qg Try.prog 62 rv E) (ho:AllP [(decide ((i:Int)<(u.boards.length:Int)))=true,Qf Try.prog (.clos 63 [] [.rptr [.rsl (QE u.boards) 0 u.boards.length,.nilSl,.int .i64 u.power,.int .i64 u.hold,.int .i64 u.volts] 0]) [.int .i64 (i:Int)] (.bool (Xv u (i:Int))),(Xv u (i:Int))=true,g1=g1,(0+(v1.length*1))=(rowI v1).length,(v1.length+1)≤2147483648,0=0,InR .i64 ((i:Int)+1)])
 (hg:G Try.prog E (f62K0 Try.prog) ⟨([J,.clos 63 [] [.rptr [.rsl (QE u.boards) 0 u.boards.length,.nilSl,.int .i64 u.power,.int .i64 u.hold,.int .i64 u.volts] 0],J,J,.sl 1 (g1+1) 0 (v1.length+1) 1,J,J,J,.int .i64 (u.boards.length:Int),.int .i64 ((i:Int)+1)]++Js 11),[⟨true,0,1,true,[.rsl (QE u.boards) 0 u.boards.length,.nilSl,.int .i64 u.power,.int .i64 u.hold,.int .i64 u.volts],false⟩,⟨true,(g1+1),1,true,((rowI v1)++[.int .i64 (i:Int)]),true⟩]⟩):G Try.prog E (f62K0 Try.prog) (f62S0 u v1 i g1) :=
 Qj (n:=400) (ds:=[]) (cs:=[]) (live:=[1,4,8,9]) (m:=2) (evs:=[.b true,.v (.bool (Xv u (i:Int))),.b true,.stop]) (obs:=_) hE.2.1 (hE.nogh _) Qi (by kernel_rfl) ho hg
theorem p62_0_1 (u:Sup) (v1:List Int) (i:Nat) (g1:Nat) {E:Env} {rv:AV} (hE:Qg Try.prog 62 rv E) (ho:AllP [(decide ((i:Int)<(u.boards.length:Int)))=true,Qf Try.prog (.clos 63 [] [.rptr (z62_1 u) 0]) [.int .i64 (i:Int)] (.bool (Xv u (i:Int))),(Xv u (i:Int))=false,InR .i64 ((i:Int)+1)])
 (hg:G Try.prog E (f62K0 Try.prog) ⟨([J,.clos 63 [] [.rptr (z62_1 u) 0],J,J,.sl 1 g1 0 v1.length 1,J,J,J,.int .i64 (u.boards.length:Int),.int .i64 ((i:Int)+1)]++Js 11),[⟨true,0,1,true,(z62_1 u),false⟩,⟨true,g1,1,true,(rowI v1),true⟩]⟩):G Try.prog E (f62K0 Try.prog) (f62S0 u v1 i g1) :=
 Qj (n:=400) (ds:=[]) (cs:=[]) (live:=[1,4,8,9]) (m:=2) (evs:=[.b true,.v (.bool (Xv u (i:Int))),.b false,.stop]) (obs:=_) hE.2.1 (hE.nogh _) Qi (by kernel_rfl) ho hg
theorem p62_0_2 (u:Sup) (v1:List Int) (i:Nat) (g1:Nat) {E:Env} {res:AV} (hE:Qg Try.prog 62 res E) (ho:AllP [(decide ((i:Int)<(u.boards.length:Int)))=false,g1=g1])
 (hr:AvLe (.rsl (rowI v1) 0 v1.length) res):G Try.prog E (f62K0 Try.prog) (f62S0 u v1 i g1) :=
 Qd (n:=400) (evs:=[.b false]) (obs:=_) hE Try.func62 Qi (by kernel_rfl) ho hr
theorem f62W0 (u:Sup) (v1:List Int) (i:Nat) {E:Env} {rv:(List Int)} (hE:Qg Try.prog 62 (.rsl (rowI rv) 0 rv.length) E)
 (h:(((i:Int)<(u.boards.length:Int)→((Yx u=true∧0≤(i:Int)∧(i:Int)<(u.boards.length:Int))∧(((Xv u (i:Int))=true→((v1.length+1)≤2147483648∧((I6 ((i:Int)+1))∧f62G0 E u (v1++[(i:Int)]) (i+1))))∧((Xv u (i:Int))=false→((I6 ((i:Int)+1))∧f62G0 E u v1 (i+1))))))∧(¬ ((i:Int)<(u.boards.length:Int))→rv=v1))):f62G0 E u v1 i:=by
 intro g1
 rcases bft (decide ((i:Int)<(u.boards.length:Int))) with hc0 | hc0
 · have h:=h.1 (odt hc0)
   obtain ⟨h1,h⟩:=h
   rcases bft (Xv u (i:Int)) with hc1 | hc1
   · have h:=h.1 hc1
     obtain ⟨h2,h⟩:=h
     obtain ⟨q7_2,h⟩:=h
     refine p62_0_0 u v1 i g1 hE ⟨hc0,(u63 (earth1_ok (i:Int) u h1)),hc1,rfl,(by have hx:=Qs cI (s:=1) (fun _=>rfl) v1; simp only [rowI] at hx ⊢; rw [hx]; simp),h2,rfl,q7_2,trivial⟩ ?_
     rw [(show rowI v1++[.int .i64 (i:Int)]=rowI (v1++[(i:Int)]) from (row_app cI v1 [(i:Int)]).symm)]; rw [(show (v1.length+1)=(v1++[(i:Int)]).length from by simp)]; exact (h (g1+1))
   · have h:=h.2 hc1
     obtain ⟨q3_2,h⟩:=h
     exact p62_0_1 u v1 i g1 hE ⟨hc0,(u63 (earth1_ok (i:Int) u h1)),hc1,q3_2,trivial⟩ (h g1)
 · have h:=h.2 (odf hc0)
   exact p62_0_2 u v1 i g1 hE ⟨hc0,rfl,trivial⟩ (AvLe.of_eq (by rw [h]; try rfl))
/-- The boards of which it is so. -/
def QY (u:Sup):Nat→Nat→List Int
 | 0,_=>[]
 | d+1,i=>if Xv u (i:Int)=true then (i:Int) :: QY u d (i+1) else QY u d (i+1)
def Qc (u:Sup):List Int × Int:=if supE u=0 then (QY u u.boards.length 0,0) else ([],supE u)
theorem some_ok (u:Sup) (h:Yx u=true):Pure Try.prog 62 [.agg [.rsl (QE u.boards) 0 u.boards.length,.nilSl,.int .i64 u.power,.int .i64 u.hold,.int .i64 u.volts],.clos 63 [] [.rptr [.rsl (QE u.boards) 0 u.boards.length,.nilSl,.int .i64 u.power,.int .i64 u.hold,.int .i64 u.volts] 0]] (.rsl (rowI (QY u u.boards.length 0)) 0 (QY u u.boards.length 0).length):=Qy Try.func62 f62b fun E hE=>by
 have hp:=sup_p h
 have hn:=hp.n
 have key:∀ (d i:Nat) (v:List Int),i+d=u.boards.length→v.length≤i→v++QY u d i=QY u u.boards.length 0→f62G0 E u v i:=by
  intro d
  induction d with
  | zero =>
   intro i v hi hv hr
   simp only [QY,List.append_nil] at hr
   exact f62W0 u v i (rv:=QY u u.boards.length 0) hE ⟨fun h=>by omega,fun _=>hr.symm⟩
  | succ d ih =>
   intro i v hi hv hr
   simp only [QY] at hr
   refine f62W0 u v i (rv:=QY u u.boards.length 0) hE ⟨fun _=>⟨⟨h,by omega,by omega⟩,fun q=>⟨by omega,⟨by omega,by omega⟩,?_⟩,fun q=>⟨⟨by omega,by omega⟩,?_⟩⟩,fun h=>by omega⟩
   · rw [if_pos q] at hr
     exact ih (i+1) _ (by omega) (by simp; omega) (by rw [List.append_assoc]; exact hr)
   · rw [if_neg (by rw [q]; exact Bool.false_ne_true)] at hr
     exact ih (i+1) v (by omega) (by omega) hr
 exact f62W u (rv:=QY u u.boards.length 0) hE (key u.boards.length 0 [] (by omega) (by simp) rfl)
theorem f20b:Try.f20.body=some (Qe Try.prog 20):=by kernel_rfl
theorem u20 {a c k:List AV} {r:AV} (h:Pure Try.prog 20 (a++c++k) r):Qf Try.prog (.clos 20 a k) c r:=Qn Try.func20 (by kernel_rfl) f20b h
abbrev z20_1 (u:Sup):List AV:=[.rsl (QE u.boards) 0 u.boards.length,.nilSl,.int .i64 u.power,.int .i64 u.hold,.int .i64 u.volts]
theorem p20_start_0 (u:Sup) {E:Env} {res:AV} (hE:Qg Try.prog 20 res E) (ho:AllP [Qf Try.prog (.clos 61 [] []) [.agg (z20_1 u)] (.int .i64 (supE u)),((supE u) != 0)=true])
 (hr:AvLe (.tup [.nilSl,.int .i64 (supE u)]) res):G Try.prog E [.code (Qe Try.prog 20)] ⟨[.agg (z20_1 u)]++unds (Try.f20.ntmps - 1),[]⟩ :=
 Qd (n:=400) (evs:=[.v (.int .i64 (supE u)),.b true]) (obs:=_) hE Try.func20 Qi (by kernel_rfl) ho hr
theorem p20_start_1 (u:Sup) {E:Env} {res:AV} (hE:Qg Try.prog 20 res E) (ho:AllP [Qf Try.prog (.clos 61 [] []) [.agg (z20_1 u)] (.int .i64 (supE u)),((supE u) != 0)=false,Xo Try.prog (.clos 62 [] []) [.agg (z20_1 u),.clos 63 [] [.ptr 0 0 0]] [⟨true,0,1,true,(z20_1 u),false⟩] (.rsl (rowI (QY u u.boards.length 0)) 0 ((QY u u.boards.length 0).length)) [⟨false,1,1,true,[],false⟩]])
 (hr:AvLe (.tup [.rsl (rowI (QY u u.boards.length 0)) 0 ((QY u u.boards.length 0).length),.int .i64 0]) res):G Try.prog E [.code (Qe Try.prog 20)] ⟨[.agg (z20_1 u)]++unds (Try.f20.ntmps - 1),[]⟩ :=
 Qd (n:=400) (evs:=[.v (.int .i64 (supE u)),.b false,.lent [0] (.rsl (rowI (QY u u.boards.length 0)) 0 ((QY u u.boards.length 0).length)) [⟨false,1,1,true,[],false⟩]]) (obs:=_) hE Try.func20 Qi (by kernel_rfl) ho hr
theorem f20W (u:Sup) {E:Env} {rv:((List Int) × Int)} (hE:Qg Try.prog 20 (.tup [.rsl (rowI rv.1) 0 rv.1.length,.int .i64 rv.2]) E)
 (h:((u.boards.length≤1000)∧((¬ ((supE u)=0)→rv=(([]:List Int),(supE u)))∧((supE u)=0→((Yx u=true)∧rv=((QY u u.boards.length 0),0)))))):G Try.prog E [.code (Qe Try.prog 20)] ⟨[.agg [.rsl (QE u.boards) 0 u.boards.length,.nilSl,.int .i64 u.power,.int .i64 u.hold,.int .i64 u.volts]]++unds (Try.f20.ntmps - 1),[]⟩:=by
 obtain ⟨h1,h⟩:=h
 rcases bft ((supE u) != 0) with hc0 | hc0
 · have h:=h.1 (bneT hc0)
   exact p20_start_0 u hE ⟨(u61 (pCheck_ok u h1)),hc0,trivial⟩ (by rw [h]; exact (Vr ⟨Vi,⟨AvLe.of_eq rfl,trivial⟩⟩))
 · have h:=h.2 (bneF hc0)
   obtain ⟨h2,h⟩:=h
   exact p20_start_1 u hE ⟨(u61 (pCheck_ok u h1)),hc0,(Qo (fv':=.clos 62 [] []) (args':=[.agg [.rsl (QE u.boards) 0 u.boards.length,.nilSl,.int .i64 u.power,.int .i64 u.hold,.int .i64 u.volts],.clos 63 [] [.rptr [.rsl (QE u.boards) 0 u.boards.length,.nilSl,.int .i64 u.power,.int .i64 u.hold,.int .i64 u.volts] 0]]) (o1:=[]) (o2:=[]) (by kernel_rfl) trivial (by kernel_rfl) trivial (u62 (some_ok u h2))),trivial⟩ (AvLe.of_eq (by rw [h]; try rfl))
theorem QL (u:Sup) (h:u.boards.length≤1000):Pure Try.prog 20 [.agg [.rsl (QE u.boards) 0 u.boards.length,.nilSl,.int .i64 u.power,.int .i64 u.hold,.int .i64 u.volts]] (.tup [.rsl (rowI (Qc u).1) 0 (Qc u).1.length,.int .i64 (Qc u).2]):=Qy Try.func20 f20b fun E hE=>by
 refine f20W u (rv:=Qc u) hE ⟨h,fun q=>?_,fun q=>⟨?_,?_⟩⟩
 · unfold Qc; rw [if_neg q]
 · unfold supE at q; split at q
   · assumption
   · cases q
 · unfold Qc; rw [if_pos q]
end Go.Proofs.Ytemklbioijmjiaa