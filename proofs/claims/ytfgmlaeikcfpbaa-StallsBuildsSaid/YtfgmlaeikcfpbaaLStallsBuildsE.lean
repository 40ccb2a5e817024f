/- A part of the proof: several texts, one behind the other. -/
import Derived.Test.YtfgmlaeikcfpbaaLStallsBuildsD
set_option linter.unusedVariables false
set_option linter.unusedSimpArgs false
set_option maxRecDepth 100000
namespace Go.Proofs.Ytfgmlaeikcfpbaa
open Go Ax
open Go.Proofs
def trnF:Int→List Int→List Trn
 | _,[]=>[]
 | k,e :: w=>⟨e,k+1⟩ :: trnF (k+1) w
theorem Wi:∀ {w:List Int} {k:Int},(trnF k w).length=w.length
 | [],_=>rfl
 | e :: w,k=>by simp [trnF,Wi (w:=w)]
theorem yg:∀ {a:List Int} {k:Int} {b:List Int},trnF k (a++b)=trnF k a++trnF (k+a.length) b
 | [],k,b=>by simp [trnF]
 | e :: a,k,b=>by
  simp only [List.cons_append,trnF,yg (a:=a),List.length_cons]
  rw [show k+1+(a.length:Int)=k+((a.length+1:Nat):Int) by push_cast; omega]
def endG (e:Int):Stg:=⟨4,e,[]⟩
def whl (w p:List Int):Stl:=⟨⟨1,0,trnF 0 w⟩ :: p.map endG,List.replicate (Int.toNat (maxI p+1)) 0,0⟩
def QD (w p:List Int):Stl × Int:=if Qa (w.length:Int) 1 8=true∧p.length=w.length∧(∀ x ∈ w,Qa x 1 100=true)∧(∀ x ∈ p,Qa x (-1) 7=true) then QC (whl w p) else errS
/-- The greatest number of kinds so far. -/
def KI (l:List Int) (k:Int):Prop:=(0≤k∧k≤1000000)∧(∀ x ∈ l,x+1≤k)∧(k=0 ∨ ∃ x ∈ l,k=x+1)
theorem KI.max {p:List Int} {k:Int} (h:KI p k) (h0:0<p.length) (hp:∀ x ∈ p,Qa x (-1) 7=true):k=maxI p+1:=by
 obtain ⟨m1,m2⟩:=Wn h0
 have a1:=h.2.1 _ m1
 have a2:=Qr.1 (hp _ m1)
 rcases h.2.2 with h3 | ⟨x,hx,h3⟩
 · omega
 · have:=m2 x hx; omega
theorem KI.snoc {l:List Int} {k e:Int} (h:KI l k) (he:Qa e (-1) 7=true):KI (l++[e]) (iMax k (e+1)):=by
 have e1:=Qr.1 he
 have h1:=h.1
 unfold iMax
 split
 · rename_i c
   refine ⟨by omega,fun x hx=>?_,.inr ⟨e,by simp,rfl⟩⟩
   rcases List.mem_append.1 hx with hx | hx
   · have:=h.2.1 x hx; omega
   · simp at hx; omega
 · rename_i c
   refine ⟨h1,fun x hx=>?_,?_⟩
   · rcases List.mem_append.1 hx with hx | hx
     · exact h.2.1 x hx
     · simp at hx; omega
   · rcases h.2.2 with h3 | ⟨x,hx,h3⟩
     · exact .inl h3
     · exact .inr ⟨x,by simp [hx],h3⟩
structure SmallS (s:Stl):Prop where
 st:s.stages.length≤1000000
 wo:s.worth.length≤1000000
 tr:∀ x ∈ s.stages,x.turns.length≤1000000
theorem Vb:SmallS ⟨[],[],0⟩:=⟨by simp,by simp,by simp⟩
theorem Vs {s:Stl} (h:SmallS s):SmallS (QC s).1:=by
 unfold QC; split
 · exact h
 · exact Vb
theorem WA {op:Int→Int→Bool} {wg:Int→Int→Int × Int} {n:Nat} {need:Int} (hn:n≤9):SmallS (triesS op wg n need):=by
 have:=Yb (op:=op) hn
 refine ⟨by simp [triesS,triesL]; omega,by simp [triesS],fun x hx=>?_⟩
 simp only [triesS,triesL,List.mem_append,List.mem_map] at hx
 rcases hx with ⟨e,-,rfl⟩ | hx
 · simp only [QR,List.length_append]
   split <;> split <;> simp
 · simp at hx
   rcases hx with rfl | rfl <;> simp
theorem small_throws {n need p q:Int}:SmallS (Qn n need p q).1:=by
 unfold Qn; split
 · rename_i h; have:=Qr.1 h.1; exact Vs (WA (by omega))
 · exact Vb
theorem small_bag {t w n need:Int}:SmallS (bagK t w n need).1:=by
 unfold bagK; split
 · rename_i h
   have:=Qr.1 h.2.2.1
   have q4:iMin 9 t≤9:=by unfold iMin; split <;> omega
   exact Vs (WA (by omega))
 · exact Vb
theorem small_wheel {w p:List Int}:SmallS (QD w p).1:=by
 unfold QD; split
 · rename_i h
   have h1:=Qr.1 h.1
   have hm:=Wn (l:=p) (by omega)
   have h2:=Qr.1 (h.2.2.2 _ hm.1)
   refine Vs ⟨by simp [whl]; omega,by simp [whl]; omega,fun x hx=>?_⟩
   simp only [whl,List.mem_cons,List.mem_map] at hx
   rcases hx with rfl | ⟨e,-,rfl⟩
   · simp [Wi]; omega
   · simp [endG]
 · exact Vb
theorem f38b:Try.f38.body=some (Qd Try.prog 38):=by kernel_rfl
theorem u38 {a c k:List AV} {r:AV} (h:Pure Try.prog 38 (a++c++k) r):Qf Try.prog (.clos 38 a k) c r:=Qo Try.func38 (by kernel_rfl) f38b h
def f38K0 (P:Program):List Item:=kAt 400 [.code (Qd P 38)] [.b false,.stop]
def f38S0 (w:(List Int)) (p:(List Int)) (i:Nat) (v4:List Trn) (v2:List Stg) (g4:Nat) (g2:Nat):St:=⟨([J,.rsl (rowI p) 0 p.length,J,J,.ptr 0 0 0,J,.ptr 1 0 0,.ptr 3 0 0]++jj 18 ([.rsl (rowI w) 0 w.length,.int .i64 (w.length:Int),.int .i64 (i:Int)]++Js 49)),[⟨true,0,1,true,[.nilSl,.nilSl,.int .i64 0],false⟩,⟨true,0,1,false,[.int .i64 1,.int .i64 0,.sl 4 g4 0 v4.length 2],false⟩,⟨true,g2,3,true,(Qb v2),true⟩,⟨true,0,1,false,[.sl 2 g2 0 v2.length 3,.nilSl,.int .i64 0],false⟩,⟨true,g4,2,true,(Ql v4),true⟩]⟩
def f38G0 (E:Env) (w:(List Int)) (p:(List Int)) (i:Nat) (v4:List Trn) (v2:List Stg):Prop:=∀ g4 g2:Nat,G Try.prog E (f38K0 Try.prog) (f38S0 w p i v4 v2 g4 g2)
abbrev z38_1:AV:=.tup [.agg [.nilSl,.nilSl,.int .i64 0],.int .i64 1]
theorem p38_start_0 (w:(List Int)) (p:(List Int)) {E:Env} {res:AV} (hE:Qe Try.prog 38 res E) (ho:AllP [Qf Try.prog (.clos 65 [] []) [.int .i64 (w.length:Int),.int .i64 1,.int .i64 8] (.bool (Qa (w.length:Int) 1 8)),(!(Qa (w.length:Int) 1 8))=true,true=true,3≤3])
 (hr:AvLe z38_1 res):G Try.prog E [.code (Qd Try.prog 38)] ⟨[.rsl (rowI w) 0 w.length,.rsl (rowI p) 0 p.length]++unds (Try.f38.ntmps - 2),[]⟩ :=
 Qc (n:=400) (evs:=[.v (.bool (Qa (w.length:Int) 1 8)),.b true,.b true]) (obs:=_) hE Try.func38 Qh (by kernel_rfl) ho hr
theorem p38_start_1 (w:(List Int)) (p:(List Int)) {E:Env} {res:AV} (hE:Qe Try.prog 38 res E) (ho:AllP [Qf Try.prog (.clos 65 [] []) [.int .i64 (w.length:Int),.int .i64 1,.int .i64 8] (.bool (Qa (w.length:Int) 1 8)),(!(Qa (w.length:Int) 1 8))=false,((p.length:Int) != (w.length:Int))=true,3≤3])
 (hr:AvLe z38_1 res):G Try.prog E [.code (Qd Try.prog 38)] ⟨[.rsl (rowI w) 0 w.length,.rsl (rowI p) 0 p.length]++unds (Try.f38.ntmps - 2),[]⟩ :=
 Qc (n:=400) (evs:=[.v (.bool (Qa (w.length:Int) 1 8)),.b false,.b true]) (obs:=_) hE Try.func38 Qh (by kernel_rfl) ho hr
theorem p38_start_2 (w:(List Int)) (p:(List Int)) {E:Env} {rv:AV} (hE:Qe Try.prog 38 rv E) (ho:AllP [Qf Try.prog (.clos 65 [] []) [.int .i64 (w.length:Int),.int .i64 1,.int .i64 8] (.bool (Qa (w.length:Int) 1 8)),(!(Qa (w.length:Int) 1 8))=false,((p.length:Int) != (w.length:Int))=false,3≤3,3≤3])
 (hg:G Try.prog E (f38K0 Try.prog) ⟨([J,.rsl (rowI p) 0 p.length,J,J,.ptr 0 0 0,J,.ptr 1 0 0,.ptr 3 0 0]++jj 18 ([.rsl (rowI w) 0 w.length,.int .i64 (w.length:Int),.int .i64 0]++Js 49)),[⟨true,0,1,true,[.nilSl,.nilSl,.int .i64 0],false⟩,⟨true,0,1,false,[.int .i64 1,.int .i64 0,.sl 4 0 0 0 2],false⟩,⟨true,0,3,true,[.int .i64 0,.int .i64 0,.rsl [] 0 0],true⟩,⟨true,0,1,false,[.sl 2 0 0 1 3,.nilSl,.int .i64 0],false⟩,⟨true,0,2,true,[],true⟩]⟩):G Try.prog E [.code (Qd Try.prog 38)] ⟨[.rsl (rowI w) 0 w.length,.rsl (rowI p) 0 p.length]++unds (Try.f38.ntmps - 2),[]⟩ :=
 Qg (n:=400) (ds:=[]) (cs:=[(1,2,2)]) (live:=[1,4,6,7,26,27,28]) (m:=5) (evs:=[.v (.bool (Qa (w.length:Int) 1 8)),.b false,.b false,.wt 23,.stop]) (obs:=_) hE.2.1 (hE.nogh _) Qh (by kernel_rfl) ho hg
theorem f38W (w:(List Int)) (p:(List Int)) {E:Env} {rv:(Stl × Int)} (hE:Qe Try.prog 38 (.tup [.agg [.rsl (Qb rv.1.stages) 0 rv.1.stages.length,.rsl (rowI rv.1.worth) 0 rv.1.worth.length,.int .i64 rv.1.price],.int .i64 rv.2]) E)
 (h:(((Qa (w.length:Int) 1 8)=false→rv=((⟨([]:List Stg),([]:List Int),0⟩:Stl),1))∧((Qa (w.length:Int) 1 8)=true→((¬ ((p.length:Int)=(w.length:Int))→rv=((⟨([]:List Stg),([]:List Int),0⟩:Stl),1))∧((p.length:Int)=(w.length:Int)→f38G0 E w p 0 ([]) ([(⟨0,0,([]:List Trn)⟩:Stg)])))))):G Try.prog E [.code (Qd Try.prog 38)] ⟨[.rsl (rowI w) 0 w.length,.rsl (rowI p) 0 p.length]++unds (Try.f38.ntmps - 2),[]⟩:=by
 rcases bft (!(Qa (w.length:Int) 1 8)) with hc0 | hc0
 · have h:=h.1 (bnT hc0)
   exact p38_start_0 w p hE ⟨(u65 (Qm (w.length:Int) 1 8)),hc0,rfl,(by decide),trivial⟩ (by rw [h]; exact (QV ⟨(Xa ⟨Qx,⟨Qx,⟨AvLe.of_eq rfl,trivial⟩⟩⟩),⟨AvLe.of_eq rfl,trivial⟩⟩))
 · have h:=h.2 (bnF hc0)
   rcases bft ((p.length:Int) != (w.length:Int)) with hc1 | hc1
   · have h:=h.1 (bneT hc1)
     exact p38_start_1 w p hE ⟨(u65 (Qm (w.length:Int) 1 8)),hc0,hc1,(by decide),trivial⟩ (by rw [h]; exact (QV ⟨(Xa ⟨Qx,⟨Qx,⟨AvLe.of_eq rfl,trivial⟩⟩⟩),⟨AvLe.of_eq rfl,trivial⟩⟩))
   · have h:=h.2 (bneF hc1)
     exact p38_start_2 w p hE ⟨(u65 (Qm (w.length:Int) 1 8)),hc0,hc1,(by decide),(by decide),trivial⟩ (h 0 0)
theorem p38_0_0 (w:(List Int)) (p:(List Int)) (i:Nat) (v4:List Trn) (v2:List Stg) (g4:Nat) (g2:Nat) (e:Int) {E:Env} {res:AV} (hE:Qe Try.prog 38 res E) (ho:AllP [(decide ((i:Int)<(w.length:Int)))=true,0≤(i:Int)∧(i:Int)<(w.length:Int),((rowI w).drop (0+(Int.toNat (i:Int))*1)).take 1=[.int .i64 e],Qf Try.prog (.clos 65 [] []) [.int .i64 e,.int .i64 1,.int .i64 100] (.bool (Qa e 1 100)),(!(Qa e 1 100))=true,true=true,3≤3])
 (hr:AvLe z38_1 res):G Try.prog E (f38K0 Try.prog) (f38S0 w p i v4 v2 g4 g2) :=
 Qc (n:=400) (evs:=[.b true,.ld (.int .i64 e),.v (.bool (Qa e 1 100)),.b true,.b true]) (obs:=_) hE Try.func38 Qh (by kernel_rfl) ho hr
theorem p38_0_1 (w:(List Int)) (p:(List Int)) (i:Nat) (v4:List Trn) (v2:List Stg) (g4:Nat) (g2:Nat) (e:Int) (e1:Int) {E:Env} {res:AV} (hE:Qe Try.prog 38 res E) (ho:AllP [(decide ((i:Int)<(w.length:Int)))=true,0≤(i:Int)∧(i:Int)<(w.length:Int),((rowI w).drop (0+(Int.toNat (i:Int))*1)).take 1=[.int .i64 e],Qf Try.prog (.clos 65 [] []) [.int .i64 e,.int .i64 1,.int .i64 100] (.bool (Qa e 1 100)),(!(Qa e 1 100))=false,0≤(i:Int)∧(i:Int)<(p.length:Int),((rowI p).drop (0+(Int.toNat (i:Int))*1)).take 1=[.int .i64 e1],Qf Try.prog (.clos 65 [] []) [.int .i64 e1,.int .i64 (-1),.int .i64 7] (.bool (Qa e1 (-1) 7)),(!(Qa e1 (-1) 7))=true,3≤3])
 (hr:AvLe z38_1 res):G Try.prog E (f38K0 Try.prog) (f38S0 w p i v4 v2 g4 g2) :=
 Qc (n:=400) (evs:=[.b true,.ld (.int .i64 e),.v (.bool (Qa e 1 100)),.b false,.ld (.int .i64 e1),.v (.bool (Qa e1 (-1) 7)),.b true]) (obs:=_) hE Try.func38 Qh (by kernel_rfl) ho hr
theorem p38_0_2 (w:(List Int)) (p:(List Int)) (i:Nat) (v4:List Trn) (v2:List Stg) (g4:Nat) (g2:Nat) (e:Int) (e1:Int) {E:Env} {rv:AV} (hE:Qe Try.prog 38 rv E) (ho:AllP [(decide ((i:Int)<(w.length:Int)))=true,0≤(i:Int)∧(i:Int)<(w.length:Int),((rowI w).drop (0+(Int.toNat (i:Int))*1)).take 1=[.int .i64 e],Qf Try.prog (.clos 65 [] []) [.int .i64 e,.int .i64 1,.int .i64 100] (.bool (Qa e 1 100)),(!(Qa e 1 100))=false,0≤(i:Int)∧(i:Int)<(p.length:Int),((rowI p).drop (0+(Int.toNat (i:Int))*1)).take 1=[.int .i64 e1],Qf Try.prog (.clos 65 [] []) [.int .i64 e1,.int .i64 (-1),.int .i64 7] (.bool (Qa e1 (-1) 7)),(!(Qa e1 (-1) 7))=false,InR .i64 ((i:Int)+1),g4=g4,(0+(v4.length*2))=(Ql v4).length,(v4.length+1)≤2147483648,0=0,3≤3,0≤(i:Int)∧(i:Int)<(p.length:Int),((rowI p).drop (0+(Int.toNat (i:Int))*1)).take 1=[.int .i64 e1],g2=g2,(0+(v2.length*3))=(Qb v2).length,(v2.length+1)≤2147483648,0=0,1≤3,InR .i64 ((i:Int)+1)])
 (hg:G Try.prog E (f38K0 Try.prog) ⟨([J,.rsl (rowI p) 0 p.length,J,J,.ptr 0 0 0,J,.ptr 1 0 0,.ptr 3 0 0]++jj 18 ([.rsl (rowI w) 0 w.length,.int .i64 (w.length:Int),.int .i64 ((i:Int)+1)]++Js 49)),[⟨true,0,1,true,[.nilSl,.nilSl,.int .i64 0],false⟩,⟨true,0,1,false,[.int .i64 1,.int .i64 0,.sl 4 (g4+1) 0 (v4.length+1) 2],false⟩,⟨true,(g2+1),3,true,((Qb v2)++[.int .i64 4,.int .i64 e1,.nilSl]),true⟩,⟨true,0,1,false,[.sl 2 (g2+1) 0 (v2.length+1) 3,.nilSl,.int .i64 0],false⟩,⟨true,(g4+1),2,true,((Ql v4)++[.int .i64 e,.int .i64 ((i:Int)+1)]),true⟩]⟩):G Try.prog E (f38K0 Try.prog) (f38S0 w p i v4 v2 g4 g2) :=
 Qg (n:=400) (ds:=[]) (cs:=[]) (live:=[1,4,6,7,26,27,28]) (m:=5) (evs:=[.b true,.ld (.int .i64 e),.v (.bool (Qa e 1 100)),.b false,.ld (.int .i64 e1),.v (.bool (Qa e1 (-1) 7)),.b false,.auto,.auto,.ld (.int .i64 e1),.stop]) (obs:=_) hE.2.1 (hE.nogh _) Qh (by kernel_rfl) ho hg
theorem p38_0_3 (w:(List Int)) (p:(List Int)) (i:Nat) (v4:List Trn) (v2:List Stg) (g4:Nat) (g2:Nat) (se:Stg) {E:Env} {res:AV} (hE:Qe Try.prog 38 res E) (ho:AllP [(decide ((i:Int)<(w.length:Int)))=false,g4=g4,(0:Int)≤0∧(0:Int)<(v2.length:Int),g2=g2,((0+0*3)+3)≤(Qb v2).length,g2=g2,Qf Try.prog (.clos 90 [] []) [.rsl (rowI p) 0 p.length] (.int .i64 (maxI p)),InR .i64 ((maxI p)+1),0≤((maxI p)+1)∧((maxI p)+1)≤((maxI p)+1)∧((maxI p)+1)≤2147483648,2≤3,Wg Try.prog (.clos 91 [] []) [.agg [.sl 0 g2 0 v2.length 3,.sl 1 0 0 (Int.toNat ((maxI p)+1)) 1,.int .i64 0]] [⟨true,g2,3,true,(Qz (Qb v2) (0+0*3) [.int .i64 1,.int .i64 0,.rsl (Ql v4) 0 v4.length]),true⟩,⟨true,0,1,true,((List.replicate (Int.toNat ((maxI p)+1)) ([.int .i64 0]:List AV)).flatten),true⟩] (.tup [.agg [.rsl (Qb (((QC (⟨(v2.set 0 (⟨1,0,v4⟩:Stg)),(List.replicate (Int.toNat ((maxI p)+1)) (0:Int)),0⟩:Stl)).1).stages)) 0 ((((QC (⟨(v2.set 0 (⟨1,0,v4⟩:Stg)),(List.replicate (Int.toNat ((maxI p)+1)) (0:Int)),0⟩:Stl)).1).stages).length),.rsl (rowI (((QC (⟨(v2.set 0 (⟨1,0,v4⟩:Stg)),(List.replicate (Int.toNat ((maxI p)+1)) (0:Int)),0⟩:Stl)).1).worth)) 0 ((((QC (⟨(v2.set 0 (⟨1,0,v4⟩:Stg)),(List.replicate (Int.toNat ((maxI p)+1)) (0:Int)),0⟩:Stl)).1).worth).length),.int .i64 (((QC (⟨(v2.set 0 (⟨1,0,v4⟩:Stg)),(List.replicate (Int.toNat ((maxI p)+1)) (0:Int)),0⟩:Stl)).1).price)],.int .i64 ((QC (⟨(v2.set 0 (⟨1,0,v4⟩:Stg)),(List.replicate (Int.toNat ((maxI p)+1)) (0:Int)),0⟩:Stl)).2)]) [⟨false,(g2+1),3,true,[],false⟩,⟨false,1,1,true,[],false⟩],3≤3])
 (hr:AvLe (.tup [.agg [.rsl (Qb (((QC (⟨(v2.set 0 (⟨1,0,v4⟩:Stg)),(List.replicate (Int.toNat ((maxI p)+1)) (0:Int)),0⟩:Stl)).1).stages)) 0 ((((QC (⟨(v2.set 0 (⟨1,0,v4⟩:Stg)),(List.replicate (Int.toNat ((maxI p)+1)) (0:Int)),0⟩:Stl)).1).stages).length),.rsl (rowI (((QC (⟨(v2.set 0 (⟨1,0,v4⟩:Stg)),(List.replicate (Int.toNat ((maxI p)+1)) (0:Int)),0⟩:Stl)).1).worth)) 0 ((((QC (⟨(v2.set 0 (⟨1,0,v4⟩:Stg)),(List.replicate (Int.toNat ((maxI p)+1)) (0:Int)),0⟩:Stl)).1).worth).length),.int .i64 (((QC (⟨(v2.set 0 (⟨1,0,v4⟩:Stg)),(List.replicate (Int.toNat ((maxI p)+1)) (0:Int)),0⟩:Stl)).1).price)],.int .i64 ((QC (⟨(v2.set 0 (⟨1,0,v4⟩:Stg)),(List.replicate (Int.toNat ((maxI p)+1)) (0:Int)),0⟩:Stl)).2)]) res):G Try.prog E (f38K0 Try.prog) (f38S0 w p i v4 v2 g4 g2) :=
 Qc (n:=400) (evs:=[.b false,.frz 1 2,.v (.int .i64 (maxI p)),.lent [2,5] (.tup [.agg [.rsl (Qb (((QC (⟨(v2.set 0 (⟨1,0,v4⟩:Stg)),(List.replicate (Int.toNat ((maxI p)+1)) (0:Int)),0⟩:Stl)).1).stages)) 0 ((((QC (⟨(v2.set 0 (⟨1,0,v4⟩:Stg)),(List.replicate (Int.toNat ((maxI p)+1)) (0:Int)),0⟩:Stl)).1).stages).length),.rsl (rowI (((QC (⟨(v2.set 0 (⟨1,0,v4⟩:Stg)),(List.replicate (Int.toNat ((maxI p)+1)) (0:Int)),0⟩:Stl)).1).worth)) 0 ((((QC (⟨(v2.set 0 (⟨1,0,v4⟩:Stg)),(List.replicate (Int.toNat ((maxI p)+1)) (0:Int)),0⟩:Stl)).1).worth).length),.int .i64 (((QC (⟨(v2.set 0 (⟨1,0,v4⟩:Stg)),(List.replicate (Int.toNat ((maxI p)+1)) (0:Int)),0⟩:Stl)).1).price)],.int .i64 ((QC (⟨(v2.set 0 (⟨1,0,v4⟩:Stg)),(List.replicate (Int.toNat ((maxI p)+1)) (0:Int)),0⟩:Stl)).2)]) [⟨false,(g2+1),3,true,[],false⟩,⟨false,1,1,true,[],false⟩]]) (obs:=_) hE Try.func38 Qh (by kernel_rfl) ho hr
theorem f38W0 (w:(List Int)) (p:(List Int)) (i:Nat) (v4:List Trn) (v2:List Stg) {E:Env} {rv:(Stl × Int)} (hE:Qe Try.prog 38 (.tup [.agg [.rsl (Qb rv.1.stages) 0 rv.1.stages.length,.rsl (rowI rv.1.worth) 0 rv.1.worth.length,.int .i64 rv.1.price],.int .i64 rv.2]) E)
 (h:(((i:Int)<(w.length:Int)→(∃ e:Int,w[i]?=some e∧(((Qa e 1 100)=false→rv=((⟨([]:List Stg),([]:List Int),0⟩:Stl),1))∧((Qa e 1 100)=true→(∃ e1:Int,p[i]?=some e1∧(((Qa e1 (-1) 7)=false→rv=((⟨([]:List Stg),([]:List Int),0⟩:Stl),1))∧((Qa e1 (-1) 7)=true→((I6 ((i:Int)+1))∧((v4.length+1)≤2147483648∧((v2.length+1)≤2147483648∧((I6 ((i:Int)+1))∧f38G0 E w p (i+1) (v4++[(⟨e,((i:Int)+1)⟩:Trn)]) (v2++[(⟨4,e1,([]:List Trn)⟩:Stg)]))))))))))))∧(¬ ((i:Int)<(w.length:Int))→(∃ se:Stg,v2[0]?=some se∧((0<p.length∧p.length≤1000000)∧((I6 ((maxI p)+1))∧((0≤((maxI p)+1)∧((maxI p)+1)≤2147483648)∧(((⟨(v2.set 0 (⟨1,0,v4⟩:Stg)),(List.replicate (Int.toNat ((maxI p)+1)) (0:Int)),0⟩:Stl).stages.length≤9223372036854775807∧(⟨(v2.set 0 (⟨1,0,v4⟩:Stg)),(List.replicate (Int.toNat ((maxI p)+1)) (0:Int)),0⟩:Stl).worth.length≤9223372036854775807)∧rv=(((QC (⟨(v2.set 0 (⟨1,0,v4⟩:Stg)),(List.replicate (Int.toNat ((maxI p)+1)) (0:Int)),0⟩:Stl)).1),(QC (⟨(v2.set 0 (⟨1,0,v4⟩:Stg)),(List.replicate (Int.toNat ((maxI p)+1)) (0:Int)),0⟩:Stl)).2))))))))):f38G0 E w p i v4 v2:=by
 intro g4 g2
 rcases bft (decide ((i:Int)<(w.length:Int))) with hc0 | hc0
 · have h:=h.1 (odt hc0)
   obtain ⟨e,h1,h⟩:=h
   rcases bft (!(Qa e 1 100)) with hc1 | hc1
   · have h:=h.1 (bnT hc1)
     exact p38_0_0 w p i v4 v2 g4 g2 e hE ⟨hc0,(Qs h1),(rp cI 1 0 1 h1),(u65 (Qm e 1 100)),hc1,rfl,(by decide),trivial⟩ (by rw [h]; exact (QV ⟨(Xa ⟨Qx,⟨Qx,⟨AvLe.of_eq rfl,trivial⟩⟩⟩),⟨AvLe.of_eq rfl,trivial⟩⟩))
   · have h:=h.2 (bnF hc1)
     obtain ⟨e1,h2,h⟩:=h
     rcases bft (!(Qa e1 (-1) 7)) with hc2 | hc2
     · have h:=h.1 (bnT hc2)
       exact p38_0_1 w p i v4 v2 g4 g2 e e1 hE ⟨hc0,(Qs h1),(rp cI 1 0 1 h1),(u65 (Qm e 1 100)),hc1,(Qs h2),(rp cI 1 0 1 h2),(u65 (Qm e1 (-1) 7)),hc2,(by decide),trivial⟩ (by rw [h]; exact (QV ⟨(Xa ⟨Qx,⟨Qx,⟨AvLe.of_eq rfl,trivial⟩⟩⟩),⟨AvLe.of_eq rfl,trivial⟩⟩))
     · have h:=h.2 (bnF hc2)
       obtain ⟨q11_3,h⟩:=h
       obtain ⟨h3,h⟩:=h
       obtain ⟨h4,h⟩:=h
       obtain ⟨q24_3,h⟩:=h
       refine p38_0_2 w p i v4 v2 g4 g2 e e1 hE ⟨hc0,(Qs h1),(rp cI 1 0 1 h1),(u65 (Qm e 1 100)),hc1,(Qs h2),(rp cI 1 0 1 h2),(u65 (Qm e1 (-1) 7)),hc2,q11_3,rfl,(by have hx:=Xd cTrn (s:=2) (fun _=>rfl) v4; simp only [Ql] at hx ⊢; rw [hx]; simp),h3,rfl,(by decide),(Qs h2),(rp cI 1 0 1 h2),rfl,(by have hx:=Xd cStg (s:=3) (fun _=>rfl) v2; simp only [Qb] at hx ⊢; rw [hx]; simp),h4,rfl,(by decide),q24_3,trivial⟩ ?_
       refine qA (k:=2) (cells':=((Qb v2)++[.int .i64 4,.int .i64 e1,.rsl [] 0 0])) rfl rfl (by simp) (LeD.app (LeD.refl _) ⟨.inl rfl,⟨.inl rfl,⟨.inr ⟨rfl,rfl⟩,trivial⟩⟩⟩) ?_
       simp only [List.set_cons_succ,List.set_cons_zero]
       rw [(show Ql v4++[.int .i64 e,.int .i64 ((i:Int)+1)]=Ql (v4++[(⟨e,((i:Int)+1)⟩:Trn)]) from (Xe cTrn v4 [(⟨e,((i:Int)+1)⟩:Trn)]).symm)]; rw [(show (v4.length+1)=(v4++[(⟨e,((i:Int)+1)⟩:Trn)]).length from by simp)]; rw [(show Qb v2++[.int .i64 4,.int .i64 e1,.rsl [] 0 0]=Qb (v2++[(⟨4,e1,([]:List Trn)⟩:Stg)]) from (Xe cStg v2 [(⟨4,e1,([]:List Trn)⟩:Stg)]).symm)]; rw [(show (v2.length+1)=(v2++[(⟨4,e1,([]:List Trn)⟩:Stg)]).length from by simp)]; exact (h (g4+1) (g2+1))
 · have h:=h.2 (odf hc0)
   obtain ⟨se,h1,h⟩:=h
   obtain ⟨h2,h⟩:=h
   obtain ⟨q8_1,h⟩:=h
   obtain ⟨h3,h⟩:=h
   obtain ⟨h4,h⟩:=h
   exact p38_0_3 w p i v4 v2 g4 g2 se hE ⟨hc0,rfl,(Qs h1),rfl,(rf cStg 3 0 3 h1),rfl,(u90 (max_ok p h2)),q8_1,⟨h3.1,by omega,h3.2⟩,(by decide),(XA (fv':=.clos 91 [] []) (args':=[.agg [.rsl (Qz (Qb v2) (0+0*3) [.int .i64 1,.int .i64 0,.rsl (Ql v4) 0 v4.length]) 0 v2.length,.rsl ((List.replicate (Int.toNat ((maxI p)+1)) ([.int .i64 0]:List AV)).flatten) 0 (Int.toNat ((maxI p)+1)),.int .i64 0]]) (o1:=[]) (o2:=[g2=g2,0=0]) (by kernel_rfl) trivial (by kernel_rfl) ⟨rfl,rfl,trivial⟩ (by rw [(show AV.rsl (Qz (Qb v2) (0+0*3) [.int .i64 1,.int .i64 0,.rsl (Ql v4) 0 v4.length]) 0 v2.length=AV.rsl (Qb (v2.set 0 (⟨1,0,v4⟩:Stg))) 0 (v2.set 0 (⟨1,0,v4⟩:Stg)).length from by rw [(show Qz (Qb v2) (0+0*3) [.int .i64 1,.int .i64 0,.rsl (Ql v4) 0 v4.length]=Qb (v2.set 0 (⟨1,0,v4⟩:Stg)) from QI cStg (s:=3) (k:=0) (fun _=>rfl) h1 rfl (by first | decide | simp))]; rw [show v2.length=(v2.set 0 (⟨1,0,v4⟩:Stg)).length from by simp])]; rw [(show AV.rsl ((List.replicate (Int.toNat ((maxI p)+1)) ([.int .i64 0]:List AV)).flatten) 0 (Int.toNat ((maxI p)+1))=AV.rsl (rowI (List.replicate (Int.toNat ((maxI p)+1)) (0:Int))) 0 (List.replicate (Int.toNat ((maxI p)+1)) (0:Int)).length from by rw [(show (List.replicate (Int.toNat ((maxI p)+1)) ([.int .i64 0]:List AV)).flatten=rowI (List.replicate (Int.toNat ((maxI p)+1)) (0:Int)) from Yo cI _ _)]; exact congrArg (AV.rsl (rowI (List.replicate (Int.toNat ((maxI p)+1)) (0:Int))) 0) (by simp))]; exact (u91 (made_ok (⟨(v2.set 0 (⟨1,0,v4⟩:Stg)),(List.replicate (Int.toNat ((maxI p)+1)) (0:Int)),0⟩:Stl) h4)))),(by decide),trivial⟩ (AvLe.of_eq (by rw [h]; try rfl))
theorem f39b:Try.f39.body=some (Qd Try.prog 39):=by kernel_rfl
theorem u39 {a c k:List AV} {r:AV} (h:Pure Try.prog 39 (a++c++k) r):Qf Try.prog (.clos 39 a k) c r:=Qo Try.func39 (by kernel_rfl) f39b h
def f39K0 (P:Program):List Item:=kAt 400 [.code (Qd P 39)] [.b false,.stop]
def f39S0 (w:(List Int)) (p:(List Int)) (v1:List Stg) (kinds:Int) (i:Nat) (v3:List Trn) (g1:Nat) (g3:Nat):St:=⟨([.rsl (rowI w) 0 w.length,.rsl (rowI p) 0 p.length,J,J,.ptr 0 0 0,J,.ptr 2 0 0,.int .i64 kinds,.int .i64 (i:Int)]++Js 79),[⟨true,0,1,true,[.nilSl,.nilSl,.int .i64 0],false⟩,⟨true,g1,3,false,(([.int .i64 1,.int .i64 0,.sl 3 g3 0 v3.length 2]:List AV)++(Qb v1)),true⟩,⟨true,0,1,false,[.sl 1 g1 0 (v1.length+1) 3,.nilSl,.int .i64 0],false⟩,⟨true,g3,2,true,(Ql v3),true⟩]⟩
def f39G0 (E:Env) (w:(List Int)) (p:(List Int)) (v1:List Stg) (kinds:Int) (i:Nat) (v3:List Trn):Prop:=∀ g1 g3:Nat,G Try.prog E (f39K0 Try.prog) (f39S0 w p v1 kinds i v3 g1 g3)
abbrev z39_1:AV:=.tup [.agg [.nilSl,.nilSl,.int .i64 0],.int .i64 1]
theorem p39_start_0 (w:(List Int)) (p:(List Int)) {E:Env} {res:AV} (hE:Qe Try.prog 39 res E) (ho:AllP [Qf Try.prog (.clos 62 [] []) [.int .i64 (w.length:Int),.int .i64 1,.int .i64 8] (.bool (Qa (w.length:Int) 1 8)),(!(Qa (w.length:Int) 1 8))=true,true=true,3≤3])
 (hr:AvLe z39_1 res):G Try.prog E [.code (Qd Try.prog 39)] ⟨[.rsl (rowI w) 0 w.length,.rsl (rowI p) 0 p.length]++unds (Try.f39.ntmps - 2),[]⟩ :=
 Qc (n:=400) (evs:=[.v (.bool (Qa (w.length:Int) 1 8)),.b true,.b true]) (obs:=_) hE Try.func39 Qh (by kernel_rfl) ho hr
theorem p39_start_1 (w:(List Int)) (p:(List Int)) {E:Env} {res:AV} (hE:Qe Try.prog 39 res E) (ho:AllP [Qf Try.prog (.clos 62 [] []) [.int .i64 (w.length:Int),.int .i64 1,.int .i64 8] (.bool (Qa (w.length:Int) 1 8)),(!(Qa (w.length:Int) 1 8))=false,((p.length:Int) != (w.length:Int))=true,3≤3])
 (hr:AvLe z39_1 res):G Try.prog E [.code (Qd Try.prog 39)] ⟨[.rsl (rowI w) 0 w.length,.rsl (rowI p) 0 p.length]++unds (Try.f39.ntmps - 2),[]⟩ :=
 Qc (n:=400) (evs:=[.v (.bool (Qa (w.length:Int) 1 8)),.b false,.b true]) (obs:=_) hE Try.func39 Qh (by kernel_rfl) ho hr
theorem p39_start_2 (w:(List Int)) (p:(List Int)) {E:Env} {rv:AV} (hE:Qe Try.prog 39 rv E) (ho:AllP [Qf Try.prog (.clos 62 [] []) [.int .i64 (w.length:Int),.int .i64 1,.int .i64 8] (.bool (Qa (w.length:Int) 1 8)),(!(Qa (w.length:Int) 1 8))=false,((p.length:Int) != (w.length:Int))=false,3≤3])
 (hg:G Try.prog E (f39K0 Try.prog) ⟨([.rsl (rowI w) 0 w.length,.rsl (rowI p) 0 p.length,J,J,.ptr 0 0 0,J,.ptr 2 0 0,.int .i64 0,.int .i64 0]++Js 79),[⟨true,0,1,true,[.nilSl,.nilSl,.int .i64 0],false⟩,⟨true,0,3,false,[.int .i64 1,.int .i64 0,.sl 3 0 0 0 2],true⟩,⟨true,0,1,false,[.sl 1 0 0 1 3,.nilSl,.int .i64 0],false⟩,⟨true,0,2,true,[],true⟩]⟩):G Try.prog E [.code (Qd Try.prog 39)] ⟨[.rsl (rowI w) 0 w.length,.rsl (rowI p) 0 p.length]++unds (Try.f39.ntmps - 2),[]⟩ :=
 Qg (n:=400) (ds:=[]) (cs:=[(1,2,2)]) (live:=[0,1,4,6,7,8]) (m:=4) (evs:=[.v (.bool (Qa (w.length:Int) 1 8)),.b false,.b false,.stop]) (obs:=_) hE.2.1 (hE.nogh _) Qh (by kernel_rfl) ho hg
theorem f39W (w:(List Int)) (p:(List Int)) {E:Env} {rv:(Stl × Int)} (hE:Qe Try.prog 39 (.tup [.agg [.rsl (Qb rv.1.stages) 0 rv.1.stages.length,.rsl (rowI rv.1.worth) 0 rv.1.worth.length,.int .i64 rv.1.price],.int .i64 rv.2]) E)
 (h:(((Qa (w.length:Int) 1 8)=false→rv=((⟨([]:List Stg),([]:List Int),0⟩:Stl),1))∧((Qa (w.length:Int) 1 8)=true→((¬ ((p.length:Int)=(w.length:Int))→rv=((⟨([]:List Stg),([]:List Int),0⟩:Stl),1))∧((p.length:Int)=(w.length:Int)→f39G0 E w p ([]:List Stg) 0 0 ([])))))):G Try.prog E [.code (Qd Try.prog 39)] ⟨[.rsl (rowI w) 0 w.length,.rsl (rowI p) 0 p.length]++unds (Try.f39.ntmps - 2),[]⟩:=by
 rcases bft (!(Qa (w.length:Int) 1 8)) with hc0 | hc0
 · have h:=h.1 (bnT hc0)
   exact p39_start_0 w p hE ⟨(u62 (Qi (w.length:Int) 1 8)),hc0,rfl,(by decide),trivial⟩ (by rw [h]; exact (QV ⟨(Xa ⟨Qx,⟨Qx,⟨AvLe.of_eq rfl,trivial⟩⟩⟩),⟨AvLe.of_eq rfl,trivial⟩⟩))
 · have h:=h.2 (bnF hc0)
   rcases bft ((p.length:Int) != (w.length:Int)) with hc1 | hc1
   · have h:=h.1 (bneT hc1)
     exact p39_start_1 w p hE ⟨(u62 (Qi (w.length:Int) 1 8)),hc0,hc1,(by decide),trivial⟩ (by rw [h]; exact (QV ⟨(Xa ⟨Qx,⟨Qx,⟨AvLe.of_eq rfl,trivial⟩⟩⟩),⟨AvLe.of_eq rfl,trivial⟩⟩))
   · have h:=h.2 (bneF hc1)
     exact p39_start_2 w p hE ⟨(u62 (Qi (w.length:Int) 1 8)),hc0,hc1,(by decide),trivial⟩ (h 0 0)
theorem p39_0_0 (w:(List Int)) (p:(List Int)) (v1:List Stg) (kinds:Int) (i:Nat) (v3:List Trn) (g1:Nat) (g3:Nat) (e:Int) {E:Env} {res:AV} (hE:Qe Try.prog 39 res E) (ho:AllP [(decide ((i:Int)<(w.length:Int)))=true,0≤(i:Int)∧(i:Int)<(w.length:Int),((rowI w).drop (0+(Int.toNat (i:Int))*1)).take 1=[.int .i64 e],Qf Try.prog (.clos 62 [] []) [.int .i64 e,.int .i64 1,.int .i64 100] (.bool (Qa e 1 100)),(!(Qa e 1 100))=true,true=true,3≤3])
 (hr:AvLe z39_1 res):G Try.prog E (f39K0 Try.prog) (f39S0 w p v1 kinds i v3 g1 g3) :=
 Qc (n:=400) (evs:=[.b true,.ld (.int .i64 e),.v (.bool (Qa e 1 100)),.b true,.b true]) (obs:=_) hE Try.func39 Qh (by kernel_rfl) ho hr
theorem p39_0_1 (w:(List Int)) (p:(List Int)) (v1:List Stg) (kinds:Int) (i:Nat) (v3:List Trn) (g1:Nat) (g3:Nat) (e:Int) (e1:Int) {E:Env} {res:AV} (hE:Qe Try.prog 39 res E) (ho:AllP [(decide ((i:Int)<(w.length:Int)))=true,0≤(i:Int)∧(i:Int)<(w.length:Int),((rowI w).drop (0+(Int.toNat (i:Int))*1)).take 1=[.int .i64 e],Qf Try.prog (.clos 62 [] []) [.int .i64 e,.int .i64 1,.int .i64 100] (.bool (Qa e 1 100)),(!(Qa e 1 100))=false,0≤(i:Int)∧(i:Int)<(p.length:Int),((rowI p).drop (0+(Int.toNat (i:Int))*1)).take 1=[.int .i64 e1],Qf Try.prog (.clos 62 [] []) [.int .i64 e1,.int .i64 (-1),.int .i64 7] (.bool (Qa e1 (-1) 7)),(!(Qa e1 (-1) 7))=true,3≤3])
 (hr:AvLe z39_1 res):G Try.prog E (f39K0 Try.prog) (f39S0 w p v1 kinds i v3 g1 g3) :=
 Qc (n:=400) (evs:=[.b true,.ld (.int .i64 e),.v (.bool (Qa e 1 100)),.b false,.ld (.int .i64 e1),.v (.bool (Qa e1 (-1) 7)),.b true]) (obs:=_) hE Try.func39 Qh (by kernel_rfl) ho hr
theorem p39_0_2 (w:(List Int)) (p:(List Int)) (v1:List Stg) (kinds:Int) (i:Nat) (v3:List Trn) (g1:Nat) (g3:Nat) (e:Int) (e1:Int) {E:Env} {rv:AV} (hE:Qe Try.prog 39 rv E) (ho:AllP [(decide ((i:Int)<(w.length:Int)))=true,0≤(i:Int)∧(i:Int)<(w.length:Int),((rowI w).drop (0+(Int.toNat (i:Int))*1)).take 1=[.int .i64 e],Qf Try.prog (.clos 62 [] []) [.int .i64 e,.int .i64 1,.int .i64 100] (.bool (Qa e 1 100)),(!(Qa e 1 100))=false,0≤(i:Int)∧(i:Int)<(p.length:Int),((rowI p).drop (0+(Int.toNat (i:Int))*1)).take 1=[.int .i64 e1],Qf Try.prog (.clos 62 [] []) [.int .i64 e1,.int .i64 (-1),.int .i64 7] (.bool (Qa e1 (-1) 7)),(!(Qa e1 (-1) 7))=false,(0:Int)≤0∧(0:Int)<(((v1.length+1):Nat):Int),g1=g1,g1=g1,g1=g1,0≤(i:Int)∧(i:Int)<(w.length:Int),((rowI w).drop (0+(Int.toNat (i:Int))*1)).take 1=[.int .i64 e],InR .i64 ((i:Int)+1),g3=g3,(0+(v3.length*2))=(Ql v3).length,(v3.length+1)≤2147483648,0=0,(0:Int)≤0∧(0:Int)<(((v1.length+1):Nat):Int),g1=g1,g1=g1,3≤(([.int .i64 1,.int .i64 0,.sl 3 g3 0 v3.length 2]:List AV)++(Qb v1)).length,g1=g1,0≤(i:Int)∧(i:Int)<(p.length:Int),((rowI p).drop (0+(Int.toNat (i:Int))*1)).take 1=[.int .i64 e1],g1=g1,(0+((v1.length+1)*3))=(([.int .i64 1,.int .i64 0,.sl 3 (g3+1) 0 (v3.length+1) 2]:List AV)++(Qb v1)).length,((v1.length+1)+1)≤2147483648,0=0,1≤3,0≤(i:Int)∧(i:Int)<(p.length:Int),((rowI p).drop (0+(Int.toNat (i:Int))*1)).take 1=[.int .i64 e1],InR .i64 (e1+1),InR .i64 ((i:Int)+1),refsBelows 4 (([.int .i64 1,.int .i64 0,.sl 3 (g3+1) 0 (v3.length+1) 2]:List AV)++((Qb v1)++[.int .i64 4,.int .i64 e1,.nilSl]))=true,refsBelows 4 [.sl 1 (g1+1) 0 ((v1.length+1)+1) 3,.nilSl,.int .i64 0]=true])
 (hg:G Try.prog E (f39K0 Try.prog) ⟨([.rsl (rowI w) 0 w.length,.rsl (rowI p) 0 p.length,J,J,.ptr 0 0 0,J,.ptr 2 0 0,.int .i64 (iMax kinds (e1+1)),.int .i64 ((i:Int)+1)]++Js 79),[⟨true,0,1,true,[.nilSl,.nilSl,.int .i64 0],false⟩,⟨true,(g1+1),3,false,(([.int .i64 1,.int .i64 0,.sl 3 (g3+1) 0 (v3.length+1) 2]:List AV)++((Qb v1)++[.int .i64 4,.int .i64 e1,.nilSl])),true⟩,⟨true,0,1,false,[.sl 1 (g1+1) 0 ((v1.length+1)+1) 3,.nilSl,.int .i64 0],false⟩,⟨true,(g3+1),2,true,((Ql v3)++[.int .i64 e,.int .i64 ((i:Int)+1)]),true⟩]⟩):G Try.prog E (f39K0 Try.prog) (f39S0 w p v1 kinds i v3 g1 g3) :=
 segP_step (n:=400) (ds:=[]) (cs:=[]) (live:=[0,1,4,6,7,8]) (m:=4) (evs:=[.b true,.ld (.int .i64 e),.v (.bool (Qa e 1 100)),.b false,.ld (.int .i64 e1),.v (.bool (Qa e1 (-1) 7)),.b false,.auto,.auto,.auto,.ld (.int .i64 e),.auto,.ld (.int .i64 e1),.ld (.int .i64 e1),.stop]) (obs:=_) hE.2.1 (hE.nogh _) Qh (by kernel_rfl) ho hg
theorem p39_0_3 (w:(List Int)) (p:(List Int)) (v1:List Stg) (kinds:Int) (i:Nat) (v3:List Trn) (g1:Nat) (g3:Nat) {E:Env} {res:AV} (hE:Qe Try.prog 39 res E) (ho:AllP [(decide ((i:Int)<(w.length:Int)))=false,g3=g3,noRefs (([.int .i64 1,.int .i64 0,.rsl (Ql v3) 0 v3.length]:List AV)++(Qb v1))=true,0≤kinds∧kinds≤kinds∧kinds≤2147483648,2≤3,Qf Try.prog (.clos 19 [] []) [.agg [.rsl (([.int .i64 1,.int .i64 0,.rsl (Ql v3) 0 v3.length]:List AV)++(Qb v1)) 0 (v1.length+1),.rsl ((List.replicate (Int.toNat kinds) ([.int .i64 0]:List AV)).flatten) 0 (Int.toNat kinds),.int .i64 0]] (.int .i64 (QG (⟨((⟨1,0,v3⟩:Stg) :: v1),(List.replicate (Int.toNat kinds) (0:Int)),0⟩:Stl))),g1=g1,0=0,((QG (⟨((⟨1,0,v3⟩:Stg) :: v1),(List.replicate (Int.toNat kinds) (0:Int)),0⟩:Stl)) != 0)=true,3≤3])
 (hr:AvLe (.tup [.agg [.nilSl,.nilSl,.int .i64 0],.int .i64 2]) res):G Try.prog E (f39K0 Try.prog) (f39S0 w p v1 kinds i v3 g1 g3) :=
 Qc (n:=400) (evs:=[.b false,.frz 1 2,.flat 1,.v (.int .i64 (QG (⟨((⟨1,0,v3⟩:Stg) :: v1),(List.replicate (Int.toNat kinds) (0:Int)),0⟩:Stl))),.b true]) (obs:=_) hE Try.func39 Qh (by kernel_rfl) ho hr
theorem p39_0_4 (w:(List Int)) (p:(List Int)) (v1:List Stg) (kinds:Int) (i:Nat) (v3:List Trn) (g1:Nat) (g3:Nat) {E:Env} {res:AV} (hE:Qe Try.prog 39 res E) (ho:AllP [(decide ((i:Int)<(w.length:Int)))=false,g3=g3,noRefs (([.int .i64 1,.int .i64 0,.rsl (Ql v3) 0 v3.length]:List AV)++(Qb v1))=true,0≤kinds∧kinds≤kinds∧kinds≤2147483648,2≤3,Qf Try.prog (.clos 19 [] []) [.agg [.rsl (([.int .i64 1,.int .i64 0,.rsl (Ql v3) 0 v3.length]:List AV)++(Qb v1)) 0 (v1.length+1),.rsl ((List.replicate (Int.toNat kinds) ([.int .i64 0]:List AV)).flatten) 0 (Int.toNat kinds),.int .i64 0]] (.int .i64 (QG (⟨((⟨1,0,v3⟩:Stg) :: v1),(List.replicate (Int.toNat kinds) (0:Int)),0⟩:Stl))),g1=g1,0=0,((QG (⟨((⟨1,0,v3⟩:Stg) :: v1),(List.replicate (Int.toNat kinds) (0:Int)),0⟩:Stl)) != 0)=false,3≤3,g1=g1,0=0])
 (hr:AvLe (.tup [.agg [.rsl (([.int .i64 1,.int .i64 0,.rsl (Ql v3) 0 v3.length]:List AV)++(Qb v1)) 0 (v1.length+1),.rsl ((List.replicate (Int.toNat kinds) ([.int .i64 0]:List AV)).flatten) 0 (Int.toNat kinds),.int .i64 0],.int .i64 0]) res):G Try.prog E (f39K0 Try.prog) (f39S0 w p v1 kinds i v3 g1 g3) :=
 Qc (n:=400) (evs:=[.b false,.frz 1 2,.flat 1,.v (.int .i64 (QG (⟨((⟨1,0,v3⟩:Stg) :: v1),(List.replicate (Int.toNat kinds) (0:Int)),0⟩:Stl))),.b false]) (obs:=_) hE Try.func39 Qh (by kernel_rfl) ho hr
theorem f39W0 (w:(List Int)) (p:(List Int)) (v1:List Stg) (kinds:Int) (i:Nat) (v3:List Trn) {E:Env} {rv:(Stl × Int)} (hE:Qe Try.prog 39 (.tup [.agg [.rsl (Qb rv.1.stages) 0 rv.1.stages.length,.rsl (rowI rv.1.worth) 0 rv.1.worth.length,.int .i64 rv.1.price],.int .i64 rv.2]) E)
 (h:(((i:Int)<(w.length:Int)→(∃ e:Int,w[i]?=some e∧(((Qa e 1 100)=false→rv=((⟨([]:List Stg),([]:List Int),0⟩:Stl),1))∧((Qa e 1 100)=true→(∃ e1:Int,p[i]?=some e1∧(((Qa e1 (-1) 7)=false→rv=((⟨([]:List Stg),([]:List Int),0⟩:Stl),1))∧((Qa e1 (-1) 7)=true→((I6 ((i:Int)+1))∧((v3.length+1)≤2147483648∧(((v1.length+1)+1)≤2147483648∧((I6 (e1+1))∧((I6 ((i:Int)+1))∧f39G0 E w p (v1++[(⟨4,e1,([]:List Trn)⟩:Stg)]) (iMax kinds (e1+1)) (i+1) (v3++[(⟨e,((i:Int)+1)⟩:Trn)])))))))))))))∧(¬ ((i:Int)<(w.length:Int))→((0≤kinds∧kinds≤2147483648)∧(((⟨((⟨1,0,v3⟩:Stg) :: v1),(List.replicate (Int.toNat kinds) (0:Int)),0⟩:Stl).stages.length≤9223372036854775807∧(⟨((⟨1,0,v3⟩:Stg) :: v1),(List.replicate (Int.toNat kinds) (0:Int)),0⟩:Stl).worth.length≤9223372036854775807)∧((¬ ((QG (⟨((⟨1,0,v3⟩:Stg) :: v1),(List.replicate (Int.toNat kinds) (0:Int)),0⟩:Stl))=0)→rv=((⟨([]:List Stg),([]:List Int),0⟩:Stl),2))∧((QG (⟨((⟨1,0,v3⟩:Stg) :: v1),(List.replicate (Int.toNat kinds) (0:Int)),0⟩:Stl))=0→rv=((⟨((⟨1,0,v3⟩:Stg) :: v1),(List.replicate (Int.toNat kinds) (0:Int)),0⟩:Stl),0)))))))):f39G0 E w p v1 kinds i v3:=by
 intro g1 g3
 rcases bft (decide ((i:Int)<(w.length:Int))) with hc0 | hc0
 · have h:=h.1 (odt hc0)
   obtain ⟨e,h1,h⟩:=h
   rcases bft (!(Qa e 1 100)) with hc1 | hc1
   · have h:=h.1 (bnT hc1)
     exact p39_0_0 w p v1 kinds i v3 g1 g3 e hE ⟨hc0,(Qs h1),(rp cI 1 0 1 h1),(u62 (Qi e 1 100)),hc1,rfl,(by decide),trivial⟩ (by rw [h]; exact (QV ⟨(Xa ⟨Qx,⟨Qx,⟨AvLe.of_eq rfl,trivial⟩⟩⟩),⟨AvLe.of_eq rfl,trivial⟩⟩))
   · have h:=h.2 (bnF hc1)
     obtain ⟨e1,h2,h⟩:=h
     rcases bft (!(Qa e1 (-1) 7)) with hc2 | hc2
     · have h:=h.1 (bnT hc2)
       exact p39_0_1 w p v1 kinds i v3 g1 g3 e e1 hE ⟨hc0,(Qs h1),(rp cI 1 0 1 h1),(u62 (Qi e 1 100)),hc1,(Qs h2),(rp cI 1 0 1 h2),(u62 (Qi e1 (-1) 7)),hc2,(by decide),trivial⟩ (by rw [h]; exact (QV ⟨(Xa ⟨Qx,⟨Qx,⟨AvLe.of_eq rfl,trivial⟩⟩⟩),⟨AvLe.of_eq rfl,trivial⟩⟩))
     · have h:=h.2 (bnF hc2)
       obtain ⟨q17_3,h⟩:=h
       obtain ⟨h3,h⟩:=h
       obtain ⟨h4,h⟩:=h
       obtain ⟨q36_3,h⟩:=h
       obtain ⟨q37_3,h⟩:=h
       refine p39_0_2 w p v1 kinds i v3 g1 g3 e e1 hE ⟨hc0,(Qs h1),(rp cI 1 0 1 h1),(u62 (Qi e 1 100)),hc1,(Qs h2),(rp cI 1 0 1 h2),(u62 (Qi e1 (-1) 7)),hc2,((by omega)),rfl,rfl,rfl,(Qs h1),(rp cI 1 0 1 h1),q17_3,rfl,(by have hx:=Xd cTrn (s:=2) (fun _=>rfl) v3; simp only [Ql] at hx ⊢; rw [hx]; simp),h3,rfl,((by omega)),rfl,rfl,((by simp only [List.length_append,List.length_cons,List.length_nil]; omega)),rfl,(Qs h2),(rp cI 1 0 1 h2),rfl,(by have hx:=Xd cStg (s:=3) (fun _=>rfl) v1; simp only [Qb] at hx ⊢; simp only [List.length_append,List.length_cons,List.length_nil,hx]; omega),h4,rfl,(by decide),(Qs h2),(rp cI 1 0 1 h2),q36_3,q37_3,(qm rfl (by first | exact row_nr cStg (fun _=>rfl) _ | (rw [VA]; rw [show noRefs (Qb _)=true from row_nr cStg (fun _=>rfl) _]; rfl))),rfl,trivial⟩ ?_
       refine qA (k:=1) (cells':=(([.int .i64 1,.int .i64 0,.sl 3 (g3+1) 0 (v3.length+1) 2]:List AV)++((Qb v1)++[.int .i64 4,.int .i64 e1,.rsl [] 0 0]))) rfl rfl (by simp) (LeD.app (LeD.refl _) (LeD.app (LeD.refl _) ⟨.inl rfl,⟨.inl rfl,⟨.inr ⟨rfl,rfl⟩,trivial⟩⟩⟩)) ?_
       simp only [List.set_cons_succ,List.set_cons_zero]
       rw [(show Qb v1++[.int .i64 4,.int .i64 e1,.rsl [] 0 0]=Qb (v1++[(⟨4,e1,([]:List Trn)⟩:Stg)]) from (Xe cStg v1 [(⟨4,e1,([]:List Trn)⟩:Stg)]).symm)]; rw [(show ((v1.length+1)+1)=(v1++[(⟨4,e1,([]:List Trn)⟩:Stg)]).length+1 from by simp)]; rw [(show Ql v3++[.int .i64 e,.int .i64 ((i:Int)+1)]=Ql (v3++[(⟨e,((i:Int)+1)⟩:Trn)]) from (Xe cTrn v3 [(⟨e,((i:Int)+1)⟩:Trn)]).symm)]; rw [(show (v3.length+1)=(v3++[(⟨e,((i:Int)+1)⟩:Trn)]).length from by simp)]; exact (h (g1+1) (g3+1))
 · have h:=h.2 (odf hc0)
   obtain ⟨h1,h⟩:=h
   obtain ⟨h2,h⟩:=h
   rcases bft ((QG (⟨((⟨1,0,v3⟩:Stg) :: v1),(List.replicate (Int.toNat kinds) (0:Int)),0⟩:Stl)) != 0) with hc1 | hc1
   · have h:=h.1 (bneT hc1)
     exact p39_0_3 w p v1 kinds i v3 g1 g3 hE ⟨hc0,rfl,(by rw [(show ([.int .i64 1,.int .i64 0,.rsl (Ql v3) 0 v3.length]:List AV)++Qb v1=Qb ((⟨1,0,v3⟩:Stg) :: v1) from rfl)]; exact row_nr cStg (fun _=>rfl) ((⟨1,0,v3⟩:Stg) :: v1)),⟨h1.1,by omega,h1.2⟩,(by decide),(by rw [(show AV.rsl (([.int .i64 1,.int .i64 0,.rsl (Ql v3) 0 v3.length]:List AV)++(Qb v1)) 0 (v1.length+1)=AV.rsl (Qb ((⟨1,0,v3⟩:Stg) :: v1)) 0 ((⟨1,0,v3⟩:Stg) :: v1).length from by rw [(show ([.int .i64 1,.int .i64 0,.rsl (Ql v3) 0 v3.length]:List AV)++Qb v1=Qb ((⟨1,0,v3⟩:Stg) :: v1) from rfl)]; rw [show (v1.length+1)=((⟨1,0,v3⟩:Stg) :: v1).length from by simp])]; rw [(show AV.rsl ((List.replicate (Int.toNat kinds) ([.int .i64 0]:List AV)).flatten) 0 (Int.toNat kinds)=AV.rsl (rowI (List.replicate (Int.toNat kinds) (0:Int))) 0 (List.replicate (Int.toNat kinds) (0:Int)).length from by rw [(show (List.replicate (Int.toNat kinds) ([.int .i64 0]:List AV)).flatten=rowI (List.replicate (Int.toNat kinds) (0:Int)) from Yo cI _ _)]; exact congrArg (AV.rsl (rowI (List.replicate (Int.toNat kinds) (0:Int))) 0) (by simp))]; exact (u19 (Vn (⟨((⟨1,0,v3⟩:Stg) :: v1),(List.replicate (Int.toNat kinds) (0:Int)),0⟩:Stl) h2))),rfl,rfl,hc1,(by decide),trivial⟩ (by rw [h]; exact (QV ⟨(Xa ⟨Qx,⟨Qx,⟨AvLe.of_eq rfl,trivial⟩⟩⟩),⟨AvLe.of_eq rfl,trivial⟩⟩))
   · have h:=h.2 (bneF hc1)
     exact p39_0_4 w p v1 kinds i v3 g1 g3 hE ⟨hc0,rfl,(by rw [(show ([.int .i64 1,.int .i64 0,.rsl (Ql v3) 0 v3.length]:List AV)++Qb v1=Qb ((⟨1,0,v3⟩:Stg) :: v1) from rfl)]; exact row_nr cStg (fun _=>rfl) ((⟨1,0,v3⟩:Stg) :: v1)),⟨h1.1,by omega,h1.2⟩,(by decide),(by rw [(show AV.rsl (([.int .i64 1,.int .i64 0,.rsl (Ql v3) 0 v3.length]:List AV)++(Qb v1)) 0 (v1.length+1)=AV.rsl (Qb ((⟨1,0,v3⟩:Stg) :: v1)) 0 ((⟨1,0,v3⟩:Stg) :: v1).length from by rw [(show ([.int .i64 1,.int .i64 0,.rsl (Ql v3) 0 v3.length]:List AV)++Qb v1=Qb ((⟨1,0,v3⟩:Stg) :: v1) from rfl)]; rw [show (v1.length+1)=((⟨1,0,v3⟩:Stg) :: v1).length from by simp])]; rw [(show AV.rsl ((List.replicate (Int.toNat kinds) ([.int .i64 0]:List AV)).flatten) 0 (Int.toNat kinds)=AV.rsl (rowI (List.replicate (Int.toNat kinds) (0:Int))) 0 (List.replicate (Int.toNat kinds) (0:Int)).length from by rw [(show (List.replicate (Int.toNat kinds) ([.int .i64 0]:List AV)).flatten=rowI (List.replicate (Int.toNat kinds) (0:Int)) from Yo cI _ _)]; exact congrArg (AV.rsl (rowI (List.replicate (Int.toNat kinds) (0:Int))) 0) (by simp))]; exact (u19 (Vn (⟨((⟨1,0,v3⟩:Stg) :: v1),(List.replicate (Int.toNat kinds) (0:Int)),0⟩:Stl) h2))),rfl,rfl,hc1,(by decide),rfl,rfl,trivial⟩ (AvLe.of_eq (by rw [h]; rw [(show AV.rsl (([.int .i64 1,.int .i64 0,.rsl (Ql v3) 0 v3.length]:List AV)++(Qb v1)) 0 (v1.length+1)=AV.rsl (Qb ((⟨1,0,v3⟩:Stg) :: v1)) 0 ((⟨1,0,v3⟩:Stg) :: v1).length from by rw [(show ([.int .i64 1,.int .i64 0,.rsl (Ql v3) 0 v3.length]:List AV)++Qb v1=Qb ((⟨1,0,v3⟩:Stg) :: v1) from rfl)]; rw [show (v1.length+1)=((⟨1,0,v3⟩:Stg) :: v1).length from by simp])]; rw [(show AV.rsl ((List.replicate (Int.toNat kinds) ([.int .i64 0]:List AV)).flatten) 0 (Int.toNat kinds)=AV.rsl (rowI (List.replicate (Int.toNat kinds) (0:Int))) 0 (List.replicate (Int.toNat kinds) (0:Int)).length from by rw [(show (List.replicate (Int.toNat kinds) ([.int .i64 0]:List AV)).flatten=rowI (List.replicate (Int.toNat kinds) (0:Int)) from Yo cI _ _)]; exact congrArg (AV.rsl (rowI (List.replicate (Int.toNat kinds) (0:Int))) 0) (by simp))]; try rfl))
theorem wheel_ok (w p:List Int):Pure Try.prog 38 [.rsl (rowI w) 0 w.length,.rsl (rowI p) 0 p.length] (.tup [.agg [.rsl (Qb (QD w p).1.stages) 0 (QD w p).1.stages.length,.rsl (rowI (QD w p).1.worth) 0 (QD w p).1.worth.length,.int .i64 (QD w p).1.price],.int .i64 (QD w p).2]):=Qv Try.func38 f38b fun E hE=>by
 have no:¬ (Qa (w.length:Int) 1 8=true∧p.length=w.length∧(∀ x ∈ w,Qa x 1 100=true)∧(∀ x ∈ p,Qa x (-1) 7=true))→QD w p=errS:=fun h=>by rw [QD,if_neg h]
 refine f38W w p (rv:=QD w p) hE ⟨fun h=>no (by simp [h]),fun h1=>⟨fun h=>no fun hh=>h (by rw [hh.2.1]),fun h2'=>?_⟩⟩
 have h2:p.length=w.length:=by omega
 have b1:=Qr.1 h1
 have main:∀ (d i:Nat),i+d=w.length→(∀ x ∈ w.take i,Qa x 1 100=true)→(∀ x ∈ p.take i,Qa x (-1) 7=true)→f38G0 E w p i (trnF 0 (w.take i)) (⟨0,0,[]⟩ :: (p.take i).map endG):=by
  intro d
  induction d with
  | zero =>
   intro i hi hw hp
   rw [List.take_of_length_le (by omega)] at hw hp
   have hm:=Wn (l:=p) (by omega)
   have h3:=Qr.1 (hp _ hm.1)
   have lp:p.length≤1000000:=by omega
   have ep:p.take i=p:=List.take_of_length_le (by omega)
   have ew:w.take i=w:=List.take_of_length_le (by omega)
   rw [ep,ew]
   refine f38W0 w p i _ _ (rv:=QD w p) hE ⟨fun h=>by omega,fun _=>⟨_,rfl,⟨by omega,lp⟩,by omega,by omega,⟨by simp; omega,by simp; omega⟩,?_⟩⟩
   rw [QD,if_pos ⟨h1,h2,hw,hp⟩]; rfl
  | succ d ih =>
   intro i hi hw hp
   have e1:w[i]?=some (w[i]'(by omega)):=List.getElem?_eq_getElem (by omega)
   have e2:p[i]?=some (p[i]'(by omega)):=List.getElem?_eq_getElem (by omega)
   generalize w[i]'(by omega)=u at e1
   generalize p[i]'(by omega)=v at e2
   have mu:=List.mem_of_getElem? e1
   have mv:=List.mem_of_getElem? e2
   have t1:w.take (i+1)=w.take i++[u]:=by rw [List.take_add_one,e1]; rfl
   have t2:p.take (i+1)=p.take i++[v]:=by rw [List.take_add_one,e2]; rfl
   have lt:(w.take i).length=i:=by simp; omega
   have f1:trnF 0 (w.take (i+1))=trnF 0 (w.take i)++[⟨u,(i:Int)+1⟩]:=by
    rw [t1,yg,lt]; simp [trnF]
   have f2:(p.take (i+1)).map endG=(p.take i).map endG++[⟨4,v,[]⟩]:=by rw [t2,List.map_append]; rfl
   have l1:(trnF 0 (w.take i)).length=i:=by rw [Wi,lt]
   have l2:((p.take i).map endG).length=i:=by simp; omega
   have nu:Qa u 1 100=false→QD w p=errS:=fun h=>no fun hh=>by rw [hh.2.2.1 u mu] at h; cases h
   have nv:Qa v (-1) 7=false→QD w p=errS:=fun h=>no fun hh=>by rw [hh.2.2.2 v mv] at h; cases h
   have g1:Qa u 1 100=true→∀ x ∈ w.take (i+1),Qa x 1 100=true:=fun h x hx=>by
    rw [t1] at hx
    rcases List.mem_append.1 hx with hx | hx
    · exact hw x hx
    · simp at hx; subst hx; exact h
   have g2:Qa v (-1) 7=true→∀ x ∈ p.take (i+1),Qa x (-1) 7=true:=fun h x hx=>by
    rw [t2] at hx
    rcases List.mem_append.1 hx with hx | hx
    · exact hp x hx
    · simp at hx; subst hx; exact h
   exact f38W0 w p i _ _ (rv:=QD w p) hE ⟨fun _=>⟨u,e1,nu,fun c1=>⟨v,e2,nv,fun c2=>⟨by omega,by rw [l1]; omega,by rw [List.length_cons,l2]; omega,by omega,by
    have nx:=ih (i+1) (by omega) (g1 c1) (g2 c2)
    rw [f1,f2] at nx; exact nx⟩⟩⟩,fun h=>by omega⟩
 exact main w.length 0 (by omega) (by simp) (by simp)
theorem wheelR_ok (w p:List Int):Pure Try.prog 39 [.rsl (rowI w) 0 w.length,.rsl (rowI p) 0 p.length] (.tup [.agg [.rsl (Qb (QD w p).1.stages) 0 (QD w p).1.stages.length,.rsl (rowI (QD w p).1.worth) 0 (QD w p).1.worth.length,.int .i64 (QD w p).1.price],.int .i64 (QD w p).2]):=Qv Try.func39 f39b fun E hE=>by
 have no:¬ (Qa (w.length:Int) 1 8=true∧p.length=w.length∧(∀ x ∈ w,Qa x 1 100=true)∧(∀ x ∈ p,Qa x (-1) 7=true))→QD w p=errS:=fun h=>by rw [QD,if_neg h]
 refine f39W w p (rv:=QD w p) hE ⟨fun h=>no (by simp [h]),fun h1=>⟨fun h=>no fun hh=>h (by rw [hh.2.1]),fun h2'=>?_⟩⟩
 have h2:p.length=w.length:=by omega
 have b1:=Qr.1 h1
 have main:∀ (d i:Nat) (k:Int),i+d=w.length→KI (p.take i) k→(∀ x ∈ w.take i,Qa x 1 100=true)→(∀ x ∈ p.take i,Qa x (-1) 7=true)→f39G0 E w p ((p.take i).map endG) k i (trnF 0 (w.take i)):=by
  intro d
  induction d with
  | zero =>
   intro i k hi hk hw hp
   have ep:p.take i=p:=List.take_of_length_le (by omega)
   have ew:w.take i=w:=List.take_of_length_le (by omega)
   rw [ep] at hk hp ⊢
   rw [ew] at hw ⊢
   have ek:=hk.max (by omega) hp
   subst ek
   have hkk:=hk.1
   have ef:QD w p=QC (whl w p):=by rw [QD,if_pos ⟨h1,h2,hw,hp⟩]
   refine f39W0 w p _ _ i _ (rv:=QD w p) hE ⟨fun h=>by omega,fun _=>⟨by omega,⟨by simp; omega,by simp; omega⟩,fun hc=>?_,fun hc=>?_⟩⟩
   · rw [ef,QC,if_neg (show ¬ QG (whl w p)=0 from hc)]
   · rw [ef,QC,if_pos (show QG (whl w p)=0 from hc)]; rfl
  | succ d ih =>
   intro i k hi hk hw hp
   have hkk:=hk.1
   have e1:w[i]?=some (w[i]'(by omega)):=List.getElem?_eq_getElem (by omega)
   have e2:p[i]?=some (p[i]'(by omega)):=List.getElem?_eq_getElem (by omega)
   generalize w[i]'(by omega)=u at e1
   generalize p[i]'(by omega)=v at e2
   have mu:=List.mem_of_getElem? e1
   have mv:=List.mem_of_getElem? e2
   have t1:w.take (i+1)=w.take i++[u]:=by rw [List.take_add_one,e1]; rfl
   have t2:p.take (i+1)=p.take i++[v]:=by rw [List.take_add_one,e2]; rfl
   have lt:(w.take i).length=i:=by simp; omega
   have f1:trnF 0 (w.take (i+1))=trnF 0 (w.take i)++[⟨u,(i:Int)+1⟩]:=by
    rw [t1,yg,lt]; simp [trnF]
   have f2:(p.take (i+1)).map endG=(p.take i).map endG++[⟨4,v,[]⟩]:=by rw [t2,List.map_append]; rfl
   have l1:(trnF 0 (w.take i)).length=i:=by rw [Wi,lt]
   have l2:((p.take i).map endG).length=i:=by simp; omega
   have nu:Qa u 1 100=false→QD w p=errS:=fun h=>no fun hh=>by rw [hh.2.2.1 u mu] at h; cases h
   have nv:Qa v (-1) 7=false→QD w p=errS:=fun h=>no fun hh=>by rw [hh.2.2.2 v mv] at h; cases h
   have g1:Qa u 1 100=true→∀ x ∈ w.take (i+1),Qa x 1 100=true:=fun h x hx=>by
    rw [t1] at hx
    rcases List.mem_append.1 hx with hx | hx
    · exact hw x hx
    · simp at hx; subst hx; exact h
   have g2:Qa v (-1) 7=true→∀ x ∈ p.take (i+1),Qa x (-1) 7=true:=fun h x hx=>by
    rw [t2] at hx
    rcases List.mem_append.1 hx with hx | hx
    · exact hp x hx
    · simp at hx; subst hx; exact h
   exact f39W0 w p _ _ i _ (rv:=QD w p) hE ⟨fun _=>⟨u,e1,nu,fun c1=>⟨v,e2,nv,fun c2=>⟨by omega,by rw [l1]; omega,by rw [l2]; omega,by have:=Qr.1 c2; omega,by omega,by
    have nx:=ih (i+1) _ (by omega) (by rw [t2]; exact hk.snoc c2) (g1 c1) (g2 c2)
    rw [f1,f2] at nx; exact nx⟩⟩⟩,fun h=>by omega⟩
 exact main w.length 0 0 (by omega) ⟨by omega,by simp,.inl rfl⟩ (by simp) (by simp)
theorem f36b:Try.f36.body=some (Qd Try.prog 36):=by kernel_rfl
theorem u36 {a c k:List AV} {r:AV} (h:Pure Try.prog 36 (a++c++k) r):Qf Try.prog (.clos 36 a k) c r:=Qo Try.func36 (by kernel_rfl) f36b h
def f36K0 (P:Program):List Item:=kAt 400 [.code (Qd P 36)] [.b false,.stop]
def f36S0 (a:Stl) (b:Stl) (i:Nat):St:=⟨([J,J,.ptr 0 0 0,.ptr 1 0 0,J,.int .i64 (i:Int)]++Js 81),[⟨true,0,1,true,[.rsl (Qb a.stages) 0 a.stages.length,.rsl (rowI a.worth) 0 a.worth.length,.int .i64 a.price],false⟩,⟨true,0,1,true,[.rsl (Qb b.stages) 0 b.stages.length,.rsl (rowI b.worth) 0 b.worth.length,.int .i64 b.price],false⟩]⟩
def f36G0 (E:Env) (a:Stl) (b:Stl) (i:Nat):Prop:=G Try.prog E (f36K0 Try.prog) (f36S0 a b i )
def f36K1 (P:Program):List Item:=kAt 400 [.code (Qd P 36)] [.b false,.b true,.b false,.stop]
def f36S1 (a:Stl) (b:Stl) (v2_0:Int) (v2_1:Int) (v2_2:(List Trn)) (v3_0:Int) (v3_1:Int) (v3_2:(List Trn)) (k:Nat) (i:Nat):St:=⟨([J,J,.ptr 0 0 0,.ptr 1 0 0,J,.int .i64 (i:Int),.ptr 2 0 0,.ptr 3 0 0,.int .i64 (k:Int)]++Js 78),[⟨true,0,1,true,[.rsl (Qb a.stages) 0 a.stages.length,.rsl (rowI a.worth) 0 a.worth.length,.int .i64 a.price],false⟩,⟨true,0,1,true,[.rsl (Qb b.stages) 0 b.stages.length,.rsl (rowI b.worth) 0 b.worth.length,.int .i64 b.price],false⟩,⟨true,0,1,true,[.int .i64 v2_0,.int .i64 v2_1,.rsl (Ql v2_2) 0 v2_2.length],false⟩,⟨true,0,1,true,[.int .i64 v3_0,.int .i64 v3_1,.rsl (Ql v3_2) 0 v3_2.length],false⟩]⟩
def f36G1 (E:Env) (a:Stl) (b:Stl) (v2_0:Int) (v2_1:Int) (v2_2:(List Trn)) (v3_0:Int) (v3_1:Int) (v3_2:(List Trn)) (k:Nat) (i:Nat):Prop:=G Try.prog E (f36K1 Try.prog) (f36S1 a b v2_0 v2_1 v2_2 v3_0 v3_1 v3_2 k i )
abbrev z36_1 (a:Stl):List AV:=[.rsl (Qb a.stages) 0 a.stages.length,.rsl (rowI a.worth) 0 a.worth.length,.int .i64 a.price]
abbrev z36_2 (b:Stl):List AV:=[.rsl (Qb b.stages) 0 b.stages.length,.rsl (rowI b.worth) 0 b.worth.length,.int .i64 b.price]
abbrev yf (se1:Stg):List AV:=[.int .i64 se1.kind,.int .i64 se1.prize,.rsl (Ql se1.turns) 0 se1.turns.length]
abbrev ye (se:Stg):List AV:=[.int .i64 se.kind,.int .i64 se.prize,.rsl (Ql se.turns) 0 se.turns.length]
abbrev z36_5 (a:Stl) (b:Stl):List AV:=[.rsl (rowI a.worth) 0 a.worth.length,.rsl (rowI b.worth) 0 b.worth.length]
theorem p36_start_0 (a:Stl) (b:Stl) {E:Env} {res:AV} (hE:Qe Try.prog 36 res E) (ho:AllP [((a.stages.length:Int) != (b.stages.length:Int))=true,true=true,true=true])
 (hr:AvLe (.bool false) res):G Try.prog E [.code (Qd Try.prog 36)] ⟨[.agg (z36_1 a),.agg (z36_2 b)]++unds (Try.f36.ntmps - 2),[]⟩ :=
 Qc (n:=400) (evs:=[.b true,.b true,.b true]) (obs:=_) hE Try.func36 Qh (by kernel_rfl) ho hr
theorem p36_start_1 (a:Stl) (b:Stl) {E:Env} {res:AV} (hE:Qe Try.prog 36 res E) (ho:AllP [((a.stages.length:Int) != (b.stages.length:Int))=false,Qf Try.prog (.clos 29 [] []) (z36_5 a b) (.bool true),(!true)=true,true=true])
 (hr:AvLe (.bool false) res):G Try.prog E [.code (Qd Try.prog 36)] ⟨[.agg (z36_1 a),.agg (z36_2 b)]++unds (Try.f36.ntmps - 2),[]⟩ :=
 Qc (n:=400) (evs:=[.b false,.v (.bool true),.b true,.b true]) (obs:=_) hE Try.func36 Qh (by kernel_rfl) ho hr
theorem p36_start_2 (a:Stl) (b:Stl) {E:Env} {res:AV} (hE:Qe Try.prog 36 res E) (ho:AllP [((a.stages.length:Int) != (b.stages.length:Int))=false,Qf Try.prog (.clos 29 [] []) (z36_5 a b) (.bool true),(!true)=false,(a.price != b.price)=true])
 (hr:AvLe (.bool false) res):G Try.prog E [.code (Qd Try.prog 36)] ⟨[.agg (z36_1 a),.agg (z36_2 b)]++unds (Try.f36.ntmps - 2),[]⟩ :=
 Qc (n:=400) (evs:=[.b false,.v (.bool true),.b false,.b true]) (obs:=_) hE Try.func36 Qh (by kernel_rfl) ho hr
theorem p36_start_3 (a:Stl) (b:Stl) {E:Env} {rv:AV} (hE:Qe Try.prog 36 rv E) (ho:AllP [((a.stages.length:Int) != (b.stages.length:Int))=false,Qf Try.prog (.clos 29 [] []) (z36_5 a b) (.bool true),(!true)=false,(a.price != b.price)=false])
 (hg:G Try.prog E (f36K0 Try.prog) ⟨([J,J,.ptr 0 0 0,.ptr 1 0 0,J,.int .i64 0]++Js 81),[⟨true,0,1,true,(z36_1 a),false⟩,⟨true,0,1,true,(z36_2 b),false⟩]⟩):G Try.prog E [.code (Qd Try.prog 36)] ⟨[.agg (z36_1 a),.agg (z36_2 b)]++unds (Try.f36.ntmps - 2),[]⟩ :=
 Qg (n:=400) (ds:=[]) (cs:=[]) (live:=[2,3,5]) (m:=2) (evs:=[.b false,.v (.bool true),.b false,.b false,.stop]) (obs:=_) hE.2.1 (hE.nogh _) Qh (by kernel_rfl) ho hg
theorem f36W (a:Stl) (b:Stl) {E:Env} {rv:Bool} (hE:Qe Try.prog 36 (.bool rv) E)
 (h:((¬ ((a.stages.length:Int)=(b.stages.length:Int))→rv=false)∧((a.stages.length:Int)=(b.stages.length:Int)→((a.worth.length≤9223372036854775807∧a.worth=b.worth)∧((true=false→rv=false)∧(true=true→((¬ (a.price=b.price)→rv=false)∧(a.price=b.price→f36G0 E a b 0)))))))):G Try.prog E [.code (Qd Try.prog 36)] ⟨[.agg [.rsl (Qb a.stages) 0 a.stages.length,.rsl (rowI a.worth) 0 a.worth.length,.int .i64 a.price],.agg [.rsl (Qb b.stages) 0 b.stages.length,.rsl (rowI b.worth) 0 b.worth.length,.int .i64 b.price]]++unds (Try.f36.ntmps - 2),[]⟩:=by
 rcases bft ((a.stages.length:Int) != (b.stages.length:Int)) with hc0 | hc0
 · have h:=h.1 (bneT hc0)
   exact p36_start_0 a b hE ⟨hc0,rfl,rfl,trivial⟩ (AvLe.of_eq (by rw [h]; try rfl))
 · have h:=h.2 (bneF hc0)
   obtain ⟨h1,h⟩:=h
   rcases bft (!true) with hc1 | hc1
   · have h:=h.1 (bnT hc1)
     exact p36_start_1 a b hE ⟨hc0,(u29 (YO a.worth b.worth h1)),hc1,rfl,trivial⟩ (AvLe.of_eq (by rw [h]; try rfl))
   · have h:=h.2 (bnF hc1)
     rcases bft (a.price != b.price) with hc2 | hc2
     · have h:=h.1 (bneT hc2)
       exact p36_start_2 a b hE ⟨hc0,(u29 (YO a.worth b.worth h1)),hc1,hc2,trivial⟩ (AvLe.of_eq (by rw [h]; try rfl))
     · have h:=h.2 (bneF hc2)
       exact p36_start_3 a b hE ⟨hc0,(u29 (YO a.worth b.worth h1)),hc1,hc2,trivial⟩ h
theorem p36_0_0 (a:Stl) (b:Stl) (i:Nat) (se:Stg) (se1:Stg) {E:Env} {res:AV} (hE:Qe Try.prog 36 res E) (ho:AllP [(decide ((i:Int)<(a.stages.length:Int)))=true,0≤(i:Int)∧(i:Int)<(a.stages.length:Int),((Qb a.stages).drop (0+(Int.toNat (i:Int))*3)).take 3=(ye se),0≤(i:Int)∧(i:Int)<(b.stages.length:Int),((Qb b.stages).drop (0+(Int.toNat (i:Int))*3)).take 3=(yf se1),3≤3,3≤3,(se.kind != se1.kind)=true,true=true,true=true])
 (hr:AvLe (.bool false) res):G Try.prog E (f36K0 Try.prog) (f36S0 a b i ) :=
 Qc (n:=400) (evs:=[.b true,.auto,.ld (.agg (ye se)),.auto,.ld (.agg (yf se1)),.b true,.b true,.b true]) (obs:=_) hE Try.func36 Qh (by kernel_rfl) ho hr
theorem p36_0_1 (a:Stl) (b:Stl) (i:Nat) (se:Stg) (se1:Stg) {E:Env} {res:AV} (hE:Qe Try.prog 36 res E) (ho:AllP [(decide ((i:Int)<(a.stages.length:Int)))=true,0≤(i:Int)∧(i:Int)<(a.stages.length:Int),((Qb a.stages).drop (0+(Int.toNat (i:Int))*3)).take 3=(ye se),0≤(i:Int)∧(i:Int)<(b.stages.length:Int),((Qb b.stages).drop (0+(Int.toNat (i:Int))*3)).take 3=(yf se1),3≤3,3≤3,(se.kind != se1.kind)=false,(se.prize != se1.prize)=true,true=true])
 (hr:AvLe (.bool false) res):G Try.prog E (f36K0 Try.prog) (f36S0 a b i ) :=
 Qc (n:=400) (evs:=[.b true,.auto,.ld (.agg (ye se)),.auto,.ld (.agg (yf se1)),.b false,.b true,.b true]) (obs:=_) hE Try.func36 Qh (by kernel_rfl) ho hr
theorem p36_0_2 (a:Stl) (b:Stl) (i:Nat) (se:Stg) (se1:Stg) {E:Env} {res:AV} (hE:Qe Try.prog 36 res E) (ho:AllP [(decide ((i:Int)<(a.stages.length:Int)))=true,0≤(i:Int)∧(i:Int)<(a.stages.length:Int),((Qb a.stages).drop (0+(Int.toNat (i:Int))*3)).take 3=(ye se),0≤(i:Int)∧(i:Int)<(b.stages.length:Int),((Qb b.stages).drop (0+(Int.toNat (i:Int))*3)).take 3=(yf se1),3≤3,3≤3,(se.kind != se1.kind)=false,(se.prize != se1.prize)=false,((se.turns.length:Int) != (se1.turns.length:Int))=true])
 (hr:AvLe (.bool false) res):G Try.prog E (f36K0 Try.prog) (f36S0 a b i ) :=
 Qc (n:=400) (evs:=[.b true,.auto,.ld (.agg (ye se)),.auto,.ld (.agg (yf se1)),.b false,.b false,.b true]) (obs:=_) hE Try.func36 Qh (by kernel_rfl) ho hr
theorem p36_0_3 (a:Stl) (b:Stl) (i:Nat) (se:Stg) (se1:Stg) {E:Env} {rv:AV} (hE:Qe Try.prog 36 rv E) (ho:AllP [(decide ((i:Int)<(a.stages.length:Int)))=true,0≤(i:Int)∧(i:Int)<(a.stages.length:Int),((Qb a.stages).drop (0+(Int.toNat (i:Int))*3)).take 3=(ye se),0≤(i:Int)∧(i:Int)<(b.stages.length:Int),((Qb b.stages).drop (0+(Int.toNat (i:Int))*3)).take 3=(yf se1),3≤3,3≤3,(se.kind != se1.kind)=false,(se.prize != se1.prize)=false,((se.turns.length:Int) != (se1.turns.length:Int))=false])
 (hg:G Try.prog E (f36K1 Try.prog) ⟨([J,J,.ptr 0 0 0,.ptr 1 0 0,J,.int .i64 (i:Int),.ptr 2 0 0,.ptr 3 0 0,.int .i64 0]++Js 78),[⟨true,0,1,true,(z36_1 a),false⟩,⟨true,0,1,true,(z36_2 b),false⟩,⟨true,0,1,true,(ye se),false⟩,⟨true,0,1,true,(yf se1),false⟩]⟩):G Try.prog E (f36K0 Try.prog) (f36S0 a b i ) :=
 Qg (n:=400) (ds:=[]) (cs:=[]) (live:=[2,3,5,6,7,8]) (m:=4) (evs:=[.b true,.auto,.ld (.agg (ye se)),.auto,.ld (.agg (yf se1)),.b false,.b false,.b false,.stop]) (obs:=_) hE.2.1 (hE.nogh _) Qh (by kernel_rfl) ho hg
theorem p36_0_4 (a:Stl) (b:Stl) (i:Nat) {E:Env} {res:AV} (hE:Qe Try.prog 36 res E) (ho:AllP [(decide ((i:Int)<(a.stages.length:Int)))=false])
 (hr:AvLe (.bool true) res):G Try.prog E (f36K0 Try.prog) (f36S0 a b i ) :=
 Qc (n:=400) (evs:=[.b false]) (obs:=_) hE Try.func36 Qh (by kernel_rfl) ho hr
theorem f36W0 (a:Stl) (b:Stl) (i:Nat) {E:Env} {rv:Bool} (hE:Qe Try.prog 36 (.bool rv) E)
 (h:(((i:Int)<(a.stages.length:Int)→(∃ se:Stg,a.stages[i]?=some se∧(∃ se1:Stg,b.stages[i]?=some se1∧((¬ (se.kind=se1.kind)→rv=false)∧(se.kind=se1.kind→((¬ (se.prize=se1.prize)→rv=false)∧(se.prize=se1.prize→((¬ ((se.turns.length:Int)=(se1.turns.length:Int))→rv=false)∧((se.turns.length:Int)=(se1.turns.length:Int)→f36G1 E a b se.kind se.prize se.turns se1.kind se1.prize se1.turns 0 i)))))))))∧(¬ ((i:Int)<(a.stages.length:Int))→rv=true))):f36G0 E a b i:=by
 rcases bft (decide ((i:Int)<(a.stages.length:Int))) with hc0 | hc0
 · have h:=h.1 (odt hc0)
   obtain ⟨se,h1,h⟩:=h
   obtain ⟨se1,h2,h⟩:=h
   rcases bft (se.kind != se1.kind) with hc1 | hc1
   · have h:=h.1 (bneT hc1)
     exact p36_0_0 a b i se se1 hE ⟨hc0,(Qs h1),(rp cStg 3 0 3 h1),(Qs h2),(rp cStg 3 0 3 h2),(by decide),(by decide),hc1,rfl,rfl,trivial⟩ (AvLe.of_eq (by rw [h]; try rfl))
   · have h:=h.2 (bneF hc1)
     rcases bft (se.prize != se1.prize) with hc2 | hc2
     · have h:=h.1 (bneT hc2)
       exact p36_0_1 a b i se se1 hE ⟨hc0,(Qs h1),(rp cStg 3 0 3 h1),(Qs h2),(rp cStg 3 0 3 h2),(by decide),(by decide),hc1,hc2,rfl,trivial⟩ (AvLe.of_eq (by rw [h]; try rfl))
     · have h:=h.2 (bneF hc2)
       rcases bft ((se.turns.length:Int) != (se1.turns.length:Int)) with hc3 | hc3
       · have h:=h.1 (bneT hc3)
         exact p36_0_2 a b i se se1 hE ⟨hc0,(Qs h1),(rp cStg 3 0 3 h1),(Qs h2),(rp cStg 3 0 3 h2),(by decide),(by decide),hc1,hc2,hc3,trivial⟩ (AvLe.of_eq (by rw [h]; try rfl))
       · have h:=h.2 (bneF hc3)
         exact p36_0_3 a b i se se1 hE ⟨hc0,(Qs h1),(rp cStg 3 0 3 h1),(Qs h2),(rp cStg 3 0 3 h2),(by decide),(by decide),hc1,hc2,hc3,trivial⟩ h
 · have h:=h.2 (odf hc0)
   exact p36_0_4 a b i hE ⟨hc0,trivial⟩ (AvLe.of_eq (by rw [h]; try rfl))
theorem p36_1_0 (a:Stl) (b:Stl) (v2_0:Int) (v2_1:Int) (v2_2:(List Trn)) (v3_0:Int) (v3_1:Int) (v3_2:(List Trn)) (k:Nat) (i:Nat) (te:Trn) (te1:Trn) {E:Env} {res:AV} (hE:Qe Try.prog 36 res E) (ho:AllP [(decide ((k:Int)<(v2_2.length:Int)))=true,0≤(k:Int)∧(k:Int)<(v2_2.length:Int),((Ql v2_2).drop (0+(Int.toNat (k:Int))*2)).take 2=[.int .i64 te.w,.int .i64 te.to],0≤(k:Int)∧(k:Int)<(v3_2.length:Int),((Ql v3_2).drop (0+(Int.toNat (k:Int))*2)).take 2=[.int .i64 te1.w,.int .i64 te1.to],(!(te.w == te1.w && (te.to == te1.to && true)))=true])
 (hr:AvLe (.bool false) res):G Try.prog E (f36K1 Try.prog) (f36S1 a b v2_0 v2_1 v2_2 v3_0 v3_1 v3_2 k i ) :=
 Qc (n:=400) (evs:=[.b true,.auto,.ld (.agg [.int .i64 te.w,.int .i64 te.to]),.auto,.ld (.agg [.int .i64 te1.w,.int .i64 te1.to]),.b true]) (obs:=_) hE Try.func36 Qh (by kernel_rfl) ho hr
theorem p36_1_1 (a:Stl) (b:Stl) (v2_0:Int) (v2_1:Int) (v2_2:(List Trn)) (v3_0:Int) (v3_1:Int) (v3_2:(List Trn)) (k:Nat) (i:Nat) (te:Trn) (te1:Trn) {E:Env} {rv:AV} (hE:Qe Try.prog 36 rv E) (ho:AllP [(decide ((k:Int)<(v2_2.length:Int)))=true,0≤(k:Int)∧(k:Int)<(v2_2.length:Int),((Ql v2_2).drop (0+(Int.toNat (k:Int))*2)).take 2=[.int .i64 te.w,.int .i64 te.to],0≤(k:Int)∧(k:Int)<(v3_2.length:Int),((Ql v3_2).drop (0+(Int.toNat (k:Int))*2)).take 2=[.int .i64 te1.w,.int .i64 te1.to],(!(te.w == te1.w && (te.to == te1.to && true)))=false,InR .i64 ((k:Int)+1)])
 (hg:G Try.prog E (f36K1 Try.prog) ⟨([J,J,.ptr 0 0 0,.ptr 1 0 0,J,.int .i64 (i:Int),.ptr 2 0 0,.ptr 3 0 0,.int .i64 ((k:Int)+1)]++Js 78),[⟨true,0,1,true,(z36_1 a),false⟩,⟨true,0,1,true,(z36_2 b),false⟩,⟨true,0,1,true,[.int .i64 v2_0,.int .i64 v2_1,.rsl (Ql v2_2) 0 v2_2.length],false⟩,⟨true,0,1,true,[.int .i64 v3_0,.int .i64 v3_1,.rsl (Ql v3_2) 0 v3_2.length],false⟩]⟩):G Try.prog E (f36K1 Try.prog) (f36S1 a b v2_0 v2_1 v2_2 v3_0 v3_1 v3_2 k i ) :=
 Qg (n:=400) (ds:=[]) (cs:=[]) (live:=[2,3,5,6,7,8]) (m:=4) (evs:=[.b true,.auto,.ld (.agg [.int .i64 te.w,.int .i64 te.to]),.auto,.ld (.agg [.int .i64 te1.w,.int .i64 te1.to]),.b false,.stop]) (obs:=_) hE.2.1 (hE.nogh _) Qh (by kernel_rfl) ho hg
theorem p36_1_2 (a:Stl) (b:Stl) (v2_0:Int) (v2_1:Int) (v2_2:(List Trn)) (v3_0:Int) (v3_1:Int) (v3_2:(List Trn)) (k:Nat) (i:Nat) {E:Env} {rv:AV} (hE:Qe Try.prog 36 rv E) (ho:AllP [(decide ((k:Int)<(v2_2.length:Int)))=false,InR .i64 ((i:Int)+1)])
 (hg:G Try.prog E (f36K0 Try.prog) ⟨([J,J,.ptr 0 0 0,.ptr 1 0 0,J,.int .i64 ((i:Int)+1)]++Js 81),[⟨true,0,1,true,(z36_1 a),false⟩,⟨true,0,1,true,(z36_2 b),false⟩]⟩):G Try.prog E (f36K1 Try.prog) (f36S1 a b v2_0 v2_1 v2_2 v3_0 v3_1 v3_2 k i ) :=
 Qg (n:=400) (ds:=[]) (cs:=[]) (live:=[2,3,5]) (m:=2) (evs:=[.b false,.stop]) (obs:=_) hE.2.1 (hE.nogh _) Qh (by kernel_rfl) ho hg
theorem f36W1 (a:Stl) (b:Stl) (v2_0:Int) (v2_1:Int) (v2_2:(List Trn)) (v3_0:Int) (v3_1:Int) (v3_2:(List Trn)) (k:Nat) (i:Nat) {E:Env} {rv:Bool} (hE:Qe Try.prog 36 (.bool rv) E)
 (h:(((k:Int)<(v2_2.length:Int)→(∃ te:Trn,v2_2[k]?=some te∧(∃ te1:Trn,v3_2[k]?=some te1∧(((te.w == te1.w && (te.to == te1.to && true))=false→rv=false)∧((te.w == te1.w && (te.to == te1.to && true))=true→((I6 ((k:Int)+1))∧f36G1 E a b v2_0 v2_1 v2_2 v3_0 v3_1 v3_2 (k+1) i))))))∧(¬ ((k:Int)<(v2_2.length:Int))→((I6 ((i:Int)+1))∧f36G0 E a b (i+1))))):f36G1 E a b v2_0 v2_1 v2_2 v3_0 v3_1 v3_2 k i:=by
 rcases bft (decide ((k:Int)<(v2_2.length:Int))) with hc0 | hc0
 · have h:=h.1 (odt hc0)
   obtain ⟨te,h1,h⟩:=h
   obtain ⟨te1,h2,h⟩:=h
   rcases bft (!(te.w == te1.w && (te.to == te1.to && true))) with hc1 | hc1
   · have h:=h.1 (bnT hc1)
     exact p36_1_0 a b v2_0 v2_1 v2_2 v3_0 v3_1 v3_2 k i te te1 hE ⟨hc0,(Qs h1),(rp cTrn 2 0 2 h1),(Qs h2),(rp cTrn 2 0 2 h2),hc1,trivial⟩ (AvLe.of_eq (by rw [h]; try rfl))
   · have h:=h.2 (bnF hc1)
     obtain ⟨q8_2,h⟩:=h
     exact p36_1_1 a b v2_0 v2_1 v2_2 v3_0 v3_1 v3_2 k i te te1 hE ⟨hc0,(Qs h1),(rp cTrn 2 0 2 h1),(Qs h2),(rp cTrn 2 0 2 h2),hc1,q8_2,trivial⟩ h
 · have h:=h.2 (odf hc0)
   obtain ⟨q1_1,h⟩:=h
   exact p36_1_2 a b v2_0 v2_1 v2_2 v3_0 v3_1 v3_2 k i hE ⟨hc0,q1_1,trivial⟩ h
theorem XN (a b:Stl) (h:SmallS a∧a=b):Pure Try.prog 36 [.agg [.rsl (Qb a.stages) 0 a.stages.length,.rsl (rowI a.worth) 0 a.worth.length,.int .i64 a.price],.agg [.rsl (Qb b.stages) 0 b.stages.length,.rsl (rowI b.worth) 0 b.worth.length,.int .i64 b.price]] (.bool true):=Qv Try.func36 f36b fun E hE=>by
 obtain ⟨hs,rfl⟩:=h
 have b1:=hs.st
 have b2:=hs.wo
 have main:∀ (d i:Nat),i+d=a.stages.length→f36G0 E a a i:=by
  intro d
  induction d with
  | zero=>intro i hi; exact f36W0 a a i (rv:=true) hE ⟨fun h=>by omega,fun _=>rfl⟩
  | succ d ih =>
   intro i hi
   have hx:a.stages[i]?=some (a.stages[i]'(by omega)):=List.getElem?_eq_getElem (by omega)
   generalize a.stages[i]'(by omega)=x at hx
   have bx:=hs.tr x (List.mem_of_getElem? hx)
   have row:∀ (d k:Nat),k+d=x.turns.length→f36G1 E a a x.kind x.prize x.turns x.kind x.prize x.turns k i:=by
    intro d
    induction d with
    | zero=>intro k hk; exact f36W1 a a _ _ _ _ _ _ k i (rv:=true) hE ⟨fun h=>by omega,fun _=>⟨by omega,ih (i+1) (by omega)⟩⟩
    | succ d ih2 =>
     intro k hk
     have hy:x.turns[k]?=some (x.turns[k]'(by omega)):=List.getElem?_eq_getElem (by omega)
     exact f36W1 a a _ _ _ _ _ _ k i (rv:=true) hE ⟨fun _=>⟨_,hy,_,hy,fun h=>by simp at h,fun _=>⟨by omega,ih2 (k+1) (by omega)⟩⟩,fun h=>by omega⟩
   exact f36W0 a a i (rv:=true) hE ⟨fun _=>⟨_,hx,_,hx,fun h=>absurd rfl h,fun _=>⟨fun h=>absurd rfl h,fun _=>⟨fun h=>absurd rfl h,fun _=>row x.turns.length 0 (by omega)⟩⟩⟩,fun h=>by omega⟩
 exact f36W a a (rv:=true) hE ⟨fun h=>absurd rfl h,fun _=>⟨⟨by omega,rfl⟩,fun h=>by simp at h,fun _=>⟨fun h=>absurd rfl h,fun _=>main a.stages.length 0 (by omega)⟩⟩⟩
theorem f7b:Try.f7.body=some (Qd Try.prog 7):=by kernel_rfl
abbrev z7_1 (r:Rul):List AV:=[.rsl (Qb (((Qn r.n r.need r.hit r.miss).1).stages)) 0 ((((Qn r.n r.need r.hit r.miss).1).stages).length),.rsl (rowI (((Qn r.n r.need r.hit r.miss).1).worth)) 0 ((((Qn r.n r.need r.hit r.miss).1).worth).length),.int .i64 (((Qn r.n r.need r.hit r.miss).1).price)]
abbrev z7_2 (r:Rul):List AV:=[.rsl (Qb (((bagK r.tickets r.wins r.n r.need).1).stages)) 0 ((((bagK r.tickets r.wins r.n r.need).1).stages).length),.rsl (rowI (((bagK r.tickets r.wins r.n r.need).1).worth)) 0 ((((bagK r.tickets r.wins r.n r.need).1).worth).length),.int .i64 (((bagK r.tickets r.wins r.n r.need).1).price)]
abbrev z7_3 (w:(List Int)) (p:(List Int)):List AV:=[.rsl (Qb (((QD w p).1).stages)) 0 ((((QD w p).1).stages).length),.rsl (rowI (((QD w p).1).worth)) 0 ((((QD w p).1).worth).length),.int .i64 (((QD w p).1).price)]
abbrev z7_4 (r:Rul):AV:=.tup [.agg (z7_1 r),.int .i64 ((Qn r.n r.need r.hit r.miss).2)]
abbrev z7_5 (r:Rul):AV:=.tup [.agg (z7_2 r),.int .i64 ((bagK r.tickets r.wins r.n r.need).2)]
abbrev z7_6 (r:Rul) (w:(List Int)) (p:(List Int)):List AV:=[.agg [.int .i64 r.tickets,.int .i64 r.wins,.int .i64 r.n,.int .i64 r.need,.int .i64 r.hit,.int .i64 r.miss],.rsl (rowI w) 0 w.length,.rsl (rowI p) 0 p.length]
abbrev z7_7 (r:Rul):List AV:=[.int .i64 r.n,.int .i64 r.need,.int .i64 r.hit,.int .i64 r.miss]
abbrev z7_8 (r:Rul):List AV:=[.int .i64 r.tickets,.int .i64 r.wins,.int .i64 r.n,.int .i64 r.need]
abbrev z7_9 (w:(List Int)) (p:(List Int)):AV:=.tup [.agg (z7_3 w p),.int .i64 ((QD w p).2)]
theorem p7_start_0 (r:Rul) (w:(List Int)) (p:(List Int)) {E:Env} {res:AV} (hE:Qe Try.prog 7 res E) (ho:AllP [Qf Try.prog (.clos 21 [] []) (z7_7 r) (z7_4 r),3≤3,Qf Try.prog (.clos 35 [] []) (z7_7 r) (z7_4 r),3≤3,((Qn r.n r.need r.hit r.miss).2 != (Qn r.n r.need r.hit r.miss).2)=true,true=true])
 (hr:AvLe (.bool false) res):G Try.prog E [.code (Qd Try.prog 7)] ⟨(z7_6 r w p)++unds (Try.f7.ntmps - 3),[]⟩ :=
 Qc (n:=400) (evs:=[.v (z7_4 r),.v (z7_4 r),.b true,.b true]) (obs:=_) hE Try.func7 Qh (by kernel_rfl) ho hr
theorem p7_start_1 (r:Rul) (w:(List Int)) (p:(List Int)) {E:Env} {res:AV} (hE:Qe Try.prog 7 res E) (ho:AllP [Qf Try.prog (.clos 21 [] []) (z7_7 r) (z7_4 r),3≤3,Qf Try.prog (.clos 35 [] []) (z7_7 r) (z7_4 r),3≤3,((Qn r.n r.need r.hit r.miss).2 != (Qn r.n r.need r.hit r.miss).2)=false,Qf Try.prog (.clos 36 [] []) [.agg (z7_1 r),.agg (z7_1 r)] (.bool true),false=false,Qf Try.prog (.clos 24 [] []) (z7_8 r) (z7_5 r),3≤3,Qf Try.prog (.clos 37 [] []) (z7_8 r) (z7_5 r),3≤3,((bagK r.tickets r.wins r.n r.need).2 != (bagK r.tickets r.wins r.n r.need).2)=true,true=true])
 (hr:AvLe (.bool false) res):G Try.prog E [.code (Qd Try.prog 7)] ⟨(z7_6 r w p)++unds (Try.f7.ntmps - 3),[]⟩ :=
 Qc (n:=400) (evs:=[.v (z7_4 r),.v (z7_4 r),.b false,.v (.bool true),.b false,.v (z7_5 r),.v (z7_5 r),.b true,.b true]) (obs:=_) hE Try.func7 Qh (by kernel_rfl) ho hr
theorem p7_start_2 (r:Rul) (w:(List Int)) (p:(List Int)) {E:Env} {res:AV} (hE:Qe Try.prog 7 res E) (ho:AllP [Qf Try.prog (.clos 21 [] []) (z7_7 r) (z7_4 r),3≤3,Qf Try.prog (.clos 35 [] []) (z7_7 r) (z7_4 r),3≤3,((Qn r.n r.need r.hit r.miss).2 != (Qn r.n r.need r.hit r.miss).2)=false,Qf Try.prog (.clos 36 [] []) [.agg (z7_1 r),.agg (z7_1 r)] (.bool true),false=false,Qf Try.prog (.clos 24 [] []) (z7_8 r) (z7_5 r),3≤3,Qf Try.prog (.clos 37 [] []) (z7_8 r) (z7_5 r),3≤3,((bagK r.tickets r.wins r.n r.need).2 != (bagK r.tickets r.wins r.n r.need).2)=false,Qf Try.prog (.clos 36 [] []) [.agg (z7_2 r),.agg (z7_2 r)] (.bool true),false=false,Qf Try.prog (.clos 38 [] []) [.rsl (rowI w) 0 w.length,.rsl (rowI p) 0 p.length] (z7_9 w p),3≤3,Qf Try.prog (.clos 39 [] []) [.rsl (rowI w) 0 w.length,.rsl (rowI p) 0 p.length] (z7_9 w p),3≤3,((QD w p).2 == (QD w p).2)=true,Qf Try.prog (.clos 36 [] []) [.agg (z7_3 w p),.agg (z7_3 w p)] (.bool true),true=true,Qf Try.prog (.clos 20 [] []) [] (.bool true)])
 (hr:AvLe (.bool true) res):G Try.prog E [.code (Qd Try.prog 7)] ⟨(z7_6 r w p)++unds (Try.f7.ntmps - 3),[]⟩ :=
 Qc (n:=400) (evs:=[.v (z7_4 r),.v (z7_4 r),.b false,.v (.bool true),.b false,.v (z7_5 r),.v (z7_5 r),.b false,.v (.bool true),.b false,.v (z7_9 w p),.v (z7_9 w p),.b true,.v (.bool true),.b true,.v (.bool true)]) (obs:=_) hE Try.func7 Qh (by kernel_rfl) ho hr
theorem p7_start_3 (r:Rul) (w:(List Int)) (p:(List Int)) {E:Env} {res:AV} (hE:Qe Try.prog 7 res E) (ho:AllP [Qf Try.prog (.clos 21 [] []) (z7_7 r) (z7_4 r),3≤3,Qf Try.prog (.clos 35 [] []) (z7_7 r) (z7_4 r),3≤3,((Qn r.n r.need r.hit r.miss).2 != (Qn r.n r.need r.hit r.miss).2)=false,Qf Try.prog (.clos 36 [] []) [.agg (z7_1 r),.agg (z7_1 r)] (.bool true),false=false,Qf Try.prog (.clos 24 [] []) (z7_8 r) (z7_5 r),3≤3,Qf Try.prog (.clos 37 [] []) (z7_8 r) (z7_5 r),3≤3,((bagK r.tickets r.wins r.n r.need).2 != (bagK r.tickets r.wins r.n r.need).2)=false,Qf Try.prog (.clos 36 [] []) [.agg (z7_2 r),.agg (z7_2 r)] (.bool true),false=false,Qf Try.prog (.clos 38 [] []) [.rsl (rowI w) 0 w.length,.rsl (rowI p) 0 p.length] (z7_9 w p),3≤3,Qf Try.prog (.clos 39 [] []) [.rsl (rowI w) 0 w.length,.rsl (rowI p) 0 p.length] (z7_9 w p),3≤3,((QD w p).2 == (QD w p).2)=false,false=false])
 (hr:AvLe (.bool false) res):G Try.prog E [.code (Qd Try.prog 7)] ⟨(z7_6 r w p)++unds (Try.f7.ntmps - 3),[]⟩ :=
 Qc (n:=400) (evs:=[.v (z7_4 r),.v (z7_4 r),.b false,.v (.bool true),.b false,.v (z7_5 r),.v (z7_5 r),.b false,.v (.bool true),.b false,.v (z7_9 w p),.v (z7_9 w p),.b false,.b false]) (obs:=_) hE Try.func7 Qh (by kernel_rfl) ho hr
theorem f7W (r:Rul) (w:(List Int)) (p:(List Int)) {E:Env} {rv:Bool} (hE:Qe Try.prog 7 (.bool rv) E)
 (h:((¬ ((Qn r.n r.need r.hit r.miss).2=(Qn r.n r.need r.hit r.miss).2)→rv=false)∧((Qn r.n r.need r.hit r.miss).2=(Qn r.n r.need r.hit r.miss).2→((SmallS ((Qn r.n r.need r.hit r.miss).1)∧((Qn r.n r.need r.hit r.miss).1)=((Qn r.n r.need r.hit r.miss).1))∧((¬ ((bagK r.tickets r.wins r.n r.need).2=(bagK r.tickets r.wins r.n r.need).2)→rv=false)∧((bagK r.tickets r.wins r.n r.need).2=(bagK r.tickets r.wins r.n r.need).2→((SmallS ((bagK r.tickets r.wins r.n r.need).1)∧((bagK r.tickets r.wins r.n r.need).1)=((bagK r.tickets r.wins r.n r.need).1))∧(((QD w p).2=(QD w p).2→((SmallS ((QD w p).1)∧((QD w p).1)=((QD w p).1))∧rv=true))∧(¬ ((QD w p).2=(QD w p).2)→rv=false))))))))):G Try.prog E [.code (Qd Try.prog 7)] ⟨[.agg [.int .i64 r.tickets,.int .i64 r.wins,.int .i64 r.n,.int .i64 r.need,.int .i64 r.hit,.int .i64 r.miss],.rsl (rowI w) 0 w.length,.rsl (rowI p) 0 p.length]++unds (Try.f7.ntmps - 3),[]⟩:=by
 rcases bft ((Qn r.n r.need r.hit r.miss).2 != (Qn r.n r.need r.hit r.miss).2) with hc0 | hc0
 · have h:=h.1 (bneT hc0)
   exact p7_start_0 r w p hE ⟨(u21 (Xw r.n r.need r.hit r.miss)),(by decide),(u35 (YG r.n r.need r.hit r.miss)),(by decide),hc0,rfl,trivial⟩ (AvLe.of_eq (by rw [h]; try rfl))
 · have h:=h.2 (bneF hc0)
   obtain ⟨h1,h⟩:=h
   rcases bft ((bagK r.tickets r.wins r.n r.need).2 != (bagK r.tickets r.wins r.n r.need).2) with hc1 | hc1
   · have h:=h.1 (bneT hc1)
     exact p7_start_1 r w p hE ⟨(u21 (Xw r.n r.need r.hit r.miss)),(by decide),(u35 (YG r.n r.need r.hit r.miss)),(by decide),hc0,(u36 (XN ((Qn r.n r.need r.hit r.miss).1) ((Qn r.n r.need r.hit r.miss).1) h1)),rfl,(u24 (bag_ok r.tickets r.wins r.n r.need)),(by decide),(u37 (bagR_ok r.tickets r.wins r.n r.need)),(by decide),hc1,rfl,trivial⟩ (AvLe.of_eq (by rw [h]; try rfl))
   · have h:=h.2 (bneF hc1)
     obtain ⟨h2,h⟩:=h
     rcases bft ((QD w p).2 == (QD w p).2) with hc2 | hc2
     · have h:=h.1 (eq_of_beq hc2)
       obtain ⟨h3,h⟩:=h
       exact p7_start_2 r w p hE ⟨(u21 (Xw r.n r.need r.hit r.miss)),(by decide),(u35 (YG r.n r.need r.hit r.miss)),(by decide),hc0,(u36 (XN ((Qn r.n r.need r.hit r.miss).1) ((Qn r.n r.need r.hit r.miss).1) h1)),rfl,(u24 (bag_ok r.tickets r.wins r.n r.need)),(by decide),(u37 (bagR_ok r.tickets r.wins r.n r.need)),(by decide),hc1,(u36 (XN ((bagK r.tickets r.wins r.n r.need).1) ((bagK r.tickets r.wins r.n r.need).1) h2)),rfl,(u38 (wheel_ok w p)),(by decide),(u39 (wheelR_ok w p)),(by decide),hc2,(u36 (XN ((QD w p).1) ((QD w p).1) h3)),rfl,(u20 works_ok),trivial⟩ (AvLe.of_eq (by rw [h]; try rfl))
     · have h:=h.2 (ne_of_beq_false hc2)
       exact p7_start_3 r w p hE ⟨(u21 (Xw r.n r.need r.hit r.miss)),(by decide),(u35 (YG r.n r.need r.hit r.miss)),(by decide),hc0,(u36 (XN ((Qn r.n r.need r.hit r.miss).1) ((Qn r.n r.need r.hit r.miss).1) h1)),rfl,(u24 (bag_ok r.tickets r.wins r.n r.need)),(by decide),(u37 (bagR_ok r.tickets r.wins r.n r.need)),(by decide),hc1,(u36 (XN ((bagK r.tickets r.wins r.n r.need).1) ((bagK r.tickets r.wins r.n r.need).1) h2)),rfl,(u38 (wheel_ok w p)),(by decide),(u39 (wheelR_ok w p)),(by decide),hc2,rfl,trivial⟩ (AvLe.of_eq (by rw [h]; try rfl))
theorem law7_ok (r:Rul) (w p:List Int):Pure Try.prog 7 [.agg [.int .i64 r.tickets,.int .i64 r.wins,.int .i64 r.n,.int .i64 r.need,.int .i64 r.hit,.int .i64 r.miss],.rsl (rowI w) 0 w.length,.rsl (rowI p) 0 p.length] (.bool true):=Qv Try.func7 f7b fun E hE =>
 f7W r w p (rv:=true) hE ⟨fun h=>absurd rfl h,fun _=>⟨⟨small_throws,rfl⟩,fun h=>absurd rfl h,fun _=>⟨⟨small_bag,rfl⟩,fun _=>⟨⟨small_wheel,rfl⟩,rfl⟩,fun h=>absurd rfl h⟩⟩⟩
end Go.Proofs.Ytfgmlaeikcfpbaa