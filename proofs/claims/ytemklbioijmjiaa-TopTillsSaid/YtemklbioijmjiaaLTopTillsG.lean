/- A part of the proof: several texts, one behind the other. -/
import Derived.Test.YtemklbioijmjiaaLTopTillsF
set_option linter.unusedVariables false
set_option linter.unusedSimpArgs false
set_option maxRecDepth 100000
namespace Go.Proofs.Ytemklbioijmjiaa
open Go Ax
open Go.Proofs
def VW (b:List Int):Bool:=decide (Xv b=0)
theorem settleK_err {b:List Int} (h:¬ Xv b=0):(Qm b).2=Xv b:=by rw [Qm,if_neg h]
theorem WT {l:List Int} {i:Nat} {e:Int} (h:l[i]?=some e):sumI (l.take (i+1))=sumI (l.take i)+e:=by
 unfold sumI
 rw [List.take_add_one,h,List.sum_append]; simp
theorem le_sum {l:List Int} (h:∀ x ∈ l,0≤x):∀ x ∈ l,x≤l.sum:=by
 induction l with
 | nil=>intro x hx; simp at hx
 | cons a l ih =>
  intro x hx
  have h0:0≤l.sum:=by
   clear ih hx
   induction l with
   | nil=>simp
   | cons b l ih2 =>
    have:=h b (by simp)
    have:=ih2 fun y hy=>by
     rcases List.mem_cons.1 hy with rfl | hy
     · exact h _ (by simp)
     · exact h y (by simp [hy])
    rw [List.sum_cons]; omega
  have ha:=h a (by simp)
  rw [List.sum_cons]
  rcases List.mem_cons.1 hx with rfl | hx
  · omega
  · have:=ih (fun y hy=>h y (by simp [hy])) x hx; omega
/-! ### the money in the tills -/
def CashOk (T:Frs) (i:Nat):Prop:=∀ x ∈ T.cash,0≤x∧x≤1000000+1000000*(i:Int)
theorem cash_step {T:Frs} {d:Dl} {i:Nat} (hF:FOk T i) (hp:posT T d=true) (hc:CashOk T i):CashOk (Qv T d) (i+1)∧(Qv T d).cash.sum - (Qv T d).ncash=T.cash.sum - T.ncash:=by
 have hl:=hF.len
 have up:∀ x ∈ T.cash,0≤x∧x≤1000000+1000000*((i+1:Nat):Int):=fun x hx=>by have:=hc x hx; omega
 rcases QaV hp with k | k | k | k | k | k | k
 · obtain ⟨h1,h2,h3,h4⟩:=pos_1 hp k
   have hn:Int.toNat d.a<T.cash.length:=by rw [hl.ca]; exact h1.2
   have e2:=hc _ (Xx (d:=0) hn)
   have e4:=hF.bn _ (Xx (d:=⟨0,0⟩) h3.2)
   rw [Qv,if_pos k]
   refine ⟨XW up ?_,?_⟩
   · unfold bndT; omega
   · show (T.cash.set _ _).sum - (T.ncash+(bndT T d.n).price)=_
     rw [yN hn]; omega
 · rw [Qv,if_neg (by omega),if_pos k]
   split <;> exact ⟨up,rfl⟩
 · obtain ⟨h1,h2⟩:=pos_3 hp k
   have hn:Int.toNat d.a<T.cash.length:=by rw [hl.ca]; exact h1.2
   have e2:=hc _ (Xx (d:=0) hn)
   have e4:=hF.band
   rw [happ_3 k]
   refine ⟨XW up ?_,?_⟩
   · omega
   · show (T.cash.set _ _).sum - (T.ncash+T.f.band)=_
     rw [yN hn]; omega
 · obtain ⟨h1,h2,h3⟩:=pos_4 hp k
   have hn:Int.toNat d.a<T.cash.length:=by rw [hl.ca]; exact h1.2
   have e2:=hc _ (Xx (d:=0) hn)
   have m2:=Int.mul_nonneg (show 0≤d.n by omega) hl.rf.1
   have hm:(0 - d.n)*T.f.refund=-(d.n*T.f.refund):=by rw [Int.sub_mul,Int.zero_mul]; omega
   have hge:T.cash.getD (Int.toNat d.a) 0≥d.n*T.f.refund:=by
    have h:=(KT hp).1
    rw [posK,if_neg (by omega),if_neg (by omega),if_neg (by omega),if_pos k] at h
    simp only [Bool.and_eq_true,decide_eq_true_eq] at h
    exact h.2.2
   rw [Qv,if_neg (by omega),if_neg (by omega),if_neg (by omega),if_pos k]
   refine ⟨XW up ?_,?_⟩
   · rw [hm]; omega
   · show (T.cash.set _ _).sum - (T.ncash+(0 - d.n)*T.f.refund)=_
     rw [yN hn]; omega
 · rw [Qv,if_neg (by omega),if_neg (by omega),if_neg (by omega),if_neg (by omega),if_pos k]; exact ⟨up,rfl⟩
 · rw [Qv,if_neg (by omega),if_neg (by omega),if_neg (by omega),if_neg (by omega),if_neg (by omega),if_pos k]; exact ⟨up,rfl⟩
 · rw [Qv,if_neg (by omega),if_neg (by omega),if_neg (by omega),if_neg (by omega),if_neg (by omega),if_neg (by omega),if_pos k]; exact ⟨up,rfl⟩
theorem cash_run {l:List Dl}:∀ {T:Frs} {i j:Nat},FOk T i→Wx T l j=none→i+l.length≤300→CashOk T i→CashOk (runT T l) (i+l.length)∧(runT T l).cash.sum - (runT T l).ncash=T.cash.sum - T.ncash∧(runT T l).cash.length=T.cash.length:=by
 induction l with
 | nil=>intro T i j hF hb hk hc; exact ⟨hc,rfl,rfl⟩
 | cons d l ih =>
  intro T i j hF hb hk hc
  rw [Wx] at hb
  split at hb
  · rename_i hp
    rw [List.length_cons] at hk
    obtain ⟨q1,q2⟩:=cash_step hF hp hc
    obtain ⟨r1,r2,r3⟩:=ih (qf hF hp (by omega)) hb (by omega) q1
    rw [List.length_cons,show i+(l.length+1)=i+1+l.length by omega]
    exact ⟨r1,r2.trans q2,by rw [show runT T (d :: l)=runT (Qv T d) l from rfl,r3,happ_l2]⟩
  · cases hb
theorem f34b:Try.f34.body=some (Qd Try.prog 34):=by kernel_rfl
theorem u34 {a c k:List AV} {r:AV} (h:Pure Try.prog 34 (a++c++k) r):Qe Try.prog (.clos 34 a k) c r:=Qs Try.func34 (by kernel_rfl) f34b h
def f34K0 (P:Program):List Item:=kAt 400 [.code (Qd P 34)] [.stop]
def f34S0 (l:(List Int)) (n:Int) (i:Nat):St:=⟨([.rsl (rowI l) 0 l.length,J,J,.int .i64 n,.int .i64 (i:Int)]++Js 13),[]⟩
def f34G0 (E:Env) (l:(List Int)) (n:Int) (i:Nat):Prop:=G Try.prog E (f34K0 Try.prog) (f34S0 l n i )
theorem p34_start_0 (l:(List Int)) {E:Env} {rv:AV} (hE:Qg Try.prog 34 rv E) (ho:AllP [])
 (hg:G Try.prog E (f34K0 Try.prog) ⟨([.rsl (rowI l) 0 l.length,J,J,.int .i64 0,.int .i64 0]++Js 13),[]⟩):G Try.prog E [.code (Qd Try.prog 34)] ⟨[.rsl (rowI l) 0 l.length]++unds (Try.f34.ntmps - 1),[]⟩ :=
 Ql (n:=400) (ds:=[]) (cs:=[]) (live:=[0,3,4]) (m:=0) (evs:=[.stop]) (obs:=_) hE.2.1 (hE.nogh _) Qp (by kernel_rfl) ho hg
theorem f34W (l:(List Int)) {E:Env} {rv:Int} (hE:Qg Try.prog 34 (.int .i64 rv) E)
 (h:f34G0 E l 0 0):G Try.prog E [.code (Qd Try.prog 34)] ⟨[.rsl (rowI l) 0 l.length]++unds (Try.f34.ntmps - 1),[]⟩:=by
 exact p34_start_0 l hE trivial h
theorem p34_0_0 (l:(List Int)) (n:Int) (i:Nat) (e:Int) {E:Env} {rv:AV} (hE:Qg Try.prog 34 rv E) (ho:AllP [(decide ((i:Int)<(l.length:Int)))=true,0≤(i:Int)∧(i:Int)<(l.length:Int),((rowI l).drop (0+(Int.toNat (i:Int))*1)).take 1=[.int .i64 e],InR .i64 (n+e),InR .i64 ((i:Int)+1)])
 (hg:G Try.prog E (f34K0 Try.prog) ⟨([.rsl (rowI l) 0 l.length,J,J,.int .i64 (n+e),.int .i64 ((i:Int)+1)]++Js 13),[]⟩):G Try.prog E (f34K0 Try.prog) (f34S0 l n i ) :=
 Ql (n:=400) (ds:=[]) (cs:=[]) (live:=[0,3,4]) (m:=0) (evs:=[.b true,.ld (.int .i64 e),.stop]) (obs:=_) hE.2.1 (hE.nogh _) Qp (by kernel_rfl) ho hg
theorem p34_0_1 (l:(List Int)) (n:Int) (i:Nat) {E:Env} {res:AV} (hE:Qg Try.prog 34 res E) (ho:AllP [(decide ((i:Int)<(l.length:Int)))=false])
 (hr:AvLe (.int .i64 n) res):G Try.prog E (f34K0 Try.prog) (f34S0 l n i ) :=
 Qc (n:=400) (evs:=[.b false]) (obs:=_) hE Try.func34 Qp (by kernel_rfl) ho hr
theorem f34W0 (l:(List Int)) (n:Int) (i:Nat) {E:Env} {rv:Int} (hE:Qg Try.prog 34 (.int .i64 rv) E)
 (h:(((i:Int)<(l.length:Int)→(∃ e:Int,l[i]?=some e∧((I6 (n+e))∧((I6 ((i:Int)+1))∧f34G0 E l (n+e) (i+1)))))∧(¬ ((i:Int)<(l.length:Int))→rv=n))):f34G0 E l n i:=by
 rcases bft (decide ((i:Int)<(l.length:Int))) with hc0 | hc0
 · have h:=h.1 (odt hc0)
   obtain ⟨e,h1,h⟩:=h
   obtain ⟨q4_1,h⟩:=h
   obtain ⟨q5_1,h⟩:=h
   exact p34_0_0 l n i e hE ⟨hc0,(QF h1),(rp cI 1 0 1 h1),q4_1,q5_1,trivial⟩ h
 · have h:=h.2 (odf hc0)
   exact p34_0_1 l n i hE ⟨hc0,trivial⟩ (AvLe.of_eq (by rw [h]; try rfl))
theorem VV (l:List Int) (h:yr l):Pure Try.prog 34 [.rsl (rowI l) 0 l.length] (.int .i64 (sumI l)):=QC Try.func34 f34b fun E hE=>by
 obtain ⟨h1,h2⟩:=h
 have key:∀ (d i:Nat),i+d=l.length→f34G0 E l (sumI (l.take i)) i:=by
  intro d
  induction d with
  | zero =>
   intro i hd
   rw [List.take_of_length_le (by omega)]
   exact f34W0 l _ i (rv:=sumI l) hE ⟨fun h=>by omega,fun _=>rfl⟩
  | succ d ih =>
   intro i hd
   have hi:l[i]?=some l[i]:=List.getElem?_eq_getElem (by omega)
   have hs:=WT hi
   have b:=h2 (i+1) (by omega)
   refine f34W0 l _ i (rv:=sumI l) hE ⟨fun _=>⟨_,hi,by rw [← hs]; exact b,by omega,?_⟩,fun h=>by omega⟩
   rw [← hs]; exact ih (i+1) (by omega)
 exact f34W l (rv:=sumI l) hE (key l.length 0 (by omega))
theorem f105b:Try.f105.body=some (Qd Try.prog 105):=by kernel_rfl
theorem u105 {a c k:List AV} {r:AV} (h:Pure Try.prog 105 (a++c++k) r):Qe Try.prog (.clos 105 a k) c r:=Qs Try.func105 (by kernel_rfl) f105b h
def QaD (P:Program):List Item:=kAt 400 [.code (Qd P 105)] [.stop]
def f105S0 (l:(List Int)) (i:Nat):St:=⟨([.rsl (rowI l) 0 l.length,J,J,.int .i64 (i:Int)]++Js 11),[]⟩
def f105G0 (E:Env) (l:(List Int)) (i:Nat):Prop:=G Try.prog E (QaD Try.prog) (f105S0 l i )
theorem p105_start_0 (l:(List Int)) {E:Env} {rv:AV} (hE:Qg Try.prog 105 rv E) (ho:AllP [])
 (hg:G Try.prog E (QaD Try.prog) ⟨([.rsl (rowI l) 0 l.length,J,J,.int .i64 0]++Js 11),[]⟩):G Try.prog E [.code (Qd Try.prog 105)] ⟨[.rsl (rowI l) 0 l.length]++unds (Try.f105.ntmps - 1),[]⟩ :=
 Ql (n:=400) (ds:=[]) (cs:=[]) (live:=[0,3]) (m:=0) (evs:=[.stop]) (obs:=_) hE.2.1 (hE.nogh _) Qp (by kernel_rfl) ho hg
theorem f105W (l:(List Int)) {E:Env} {rv:Bool} (hE:Qg Try.prog 105 (.bool rv) E)
 (h:f105G0 E l 0):G Try.prog E [.code (Qd Try.prog 105)] ⟨[.rsl (rowI l) 0 l.length]++unds (Try.f105.ntmps - 1),[]⟩:=by
 exact p105_start_0 l hE trivial h
theorem p105_0_0 (l:(List Int)) (i:Nat) (e:Int) {E:Env} {res:AV} (hE:Qg Try.prog 105 res E) (ho:AllP [(decide ((i:Int)<(l.length:Int)))=true,0≤(i:Int)∧(i:Int)<(l.length:Int),((rowI l).drop (0+(Int.toNat (i:Int))*1)).take 1=[.int .i64 e],(e != 0)=true])
 (hr:AvLe (.bool false) res):G Try.prog E (QaD Try.prog) (f105S0 l i ) :=
 Qc (n:=400) (evs:=[.b true,.ld (.int .i64 e),.b true]) (obs:=_) hE Try.func105 Qp (by kernel_rfl) ho hr
theorem p105_0_1 (l:(List Int)) (i:Nat) (e:Int) {E:Env} {rv:AV} (hE:Qg Try.prog 105 rv E) (ho:AllP [(decide ((i:Int)<(l.length:Int)))=true,0≤(i:Int)∧(i:Int)<(l.length:Int),((rowI l).drop (0+(Int.toNat (i:Int))*1)).take 1=[.int .i64 e],(e != 0)=false,InR .i64 ((i:Int)+1)])
 (hg:G Try.prog E (QaD Try.prog) ⟨([.rsl (rowI l) 0 l.length,J,J,.int .i64 ((i:Int)+1)]++Js 11),[]⟩):G Try.prog E (QaD Try.prog) (f105S0 l i ) :=
 Ql (n:=400) (ds:=[]) (cs:=[]) (live:=[0,3]) (m:=0) (evs:=[.b true,.ld (.int .i64 e),.b false,.stop]) (obs:=_) hE.2.1 (hE.nogh _) Qp (by kernel_rfl) ho hg
theorem p105_0_2 (l:(List Int)) (i:Nat) {E:Env} {res:AV} (hE:Qg Try.prog 105 res E) (ho:AllP [(decide ((i:Int)<(l.length:Int)))=false])
 (hr:AvLe (.bool true) res):G Try.prog E (QaD Try.prog) (f105S0 l i ) :=
 Qc (n:=400) (evs:=[.b false]) (obs:=_) hE Try.func105 Qp (by kernel_rfl) ho hr
theorem f105W0 (l:(List Int)) (i:Nat) {E:Env} {rv:Bool} (hE:Qg Try.prog 105 (.bool rv) E)
 (h:(((i:Int)<(l.length:Int)→(∃ e:Int,l[i]?=some e∧((¬ (e=0)→rv=false)∧(e=0→((I6 ((i:Int)+1))∧f105G0 E l (i+1))))))∧(¬ ((i:Int)<(l.length:Int))→rv=true))):f105G0 E l i:=by
 rcases bft (decide ((i:Int)<(l.length:Int))) with hc0 | hc0
 · have h:=h.1 (odt hc0)
   obtain ⟨e,h1,h⟩:=h
   rcases bft (e != 0) with hc1 | hc1
   · have h:=h.1 (bneT hc1)
     exact p105_0_0 l i e hE ⟨hc0,(QF h1),(rp cI 1 0 1 h1),hc1,trivial⟩ (AvLe.of_eq (by rw [h]; try rfl))
   · have h:=h.2 (bneF hc1)
     obtain ⟨q5_2,h⟩:=h
     exact p105_0_1 l i e hE ⟨hc0,(QF h1),(rp cI 1 0 1 h1),hc1,q5_2,trivial⟩ h
 · have h:=h.2 (odf hc0)
   exact p105_0_2 l i hE ⟨hc0,trivial⟩ (AvLe.of_eq (by rw [h]; try rfl))
theorem QaM (l:List Int) (h:l.length≤9223372036854775807):Pure Try.prog 105 [.rsl (rowI l) 0 l.length] (.bool (l.all fun e=>decide (e=0))):=QC Try.func105 f105b fun E hE=>by
 have key:∀ (d i:Nat),i+d=l.length→(l.all fun e=>decide (e=0))=((l.drop i).all fun e=>decide (e=0))→f105G0 E l i:=by
  intro d
  induction d with
  | zero =>
   intro i hd hall
   rw [List.drop_eq_nil_of_le (by omega)] at hall
   exact f105W0 l i (rv:=l.all fun e=>decide (e=0)) hE ⟨fun h=>by omega,fun _=>hall⟩
  | succ d ih =>
   intro i hd hall
   have hi:l[i]?=some l[i]:=List.getElem?_eq_getElem (by omega)
   rw [List.drop_eq_getElem_cons (by omega),List.all_cons] at hall
   refine f105W0 l i (rv:=l.all fun e=>decide (e=0)) hE ⟨fun _=>⟨_,hi,fun h0=>by rw [hall,decide_eq_false h0]; rfl,fun h0=>⟨by omega,ih (i+1) (by omega) ?_⟩⟩,fun h=>by omega⟩
   rw [hall,decide_eq_true h0]; rfl
 exact f105W l (rv:=l.all fun e=>decide (e=0)) hE (key l.length 0 (by omega) rfl)
theorem f43b:Try.f43.body=some (Qd Try.prog 43):=by kernel_rfl
theorem u43 {a c k:List AV} {r:AV} (h:Pure Try.prog 43 (a++c++k) r):Qe Try.prog (.clos 43 a k) c r:=Qs Try.func43 (by kernel_rfl) f43b h
def Ky (P:Program):List Item:=kAt 400 [.code (Qd P 43)] [.b false,.stop]
def f43S0 (b:(List Int)) (open_:Nat) (i:Nat):St:=⟨([.rsl (rowI b) 0 b.length,J,J,J,J,.int .i64 ((fewK b).1),J,.rsl (rowI ((payK b ((Qm b).1)).1)) 0 (((payK b ((Qm b).1)).1).length),.int .i64 ((payK b ((Qm b).1)).2),.int .i64 (open_:Int),.int .i64 (i:Int)]++Js 75),[⟨false,2,1,true,[],false⟩,⟨false,2,1,true,[],false⟩,⟨false,2,1,true,[],false⟩,⟨false,2,3,true,[],false⟩]⟩
def f43G0 (E:Env) (b:(List Int)) (open_:Nat) (i:Nat):Prop:=G Try.prog E (Ky Try.prog) (f43S0 b open_ i )
theorem p43_start_0 (b:(List Int)) {E:Env} {res:AV} (hE:Qg Try.prog 43 res E) (ho:AllP [1=1,0=0,0=0,(0+b.length)≤2147483648,((rowI b).drop 0).take (b.length*1)=(rowI b),(rowI b).length=(b.length*1),noRefs (rowI b)=true,Qe Try.prog (.clos 102 [] []) [.rsl (rowI b) 0 (0+b.length)] (.tup [.rsl (QE ((Qm b).1)) 0 (((Qm b).1).length),.int .i64 ((Qm b).2)]),1=1,0=0,0=0,(0+b.length)≤2147483648,((rowI b).drop 0).take (b.length*1)=(rowI b),(rowI b).length=(b.length*1),noRefs (rowI b)=true,Qe Try.prog (.clos 103 [] []) [.rsl (rowI b) 0 (0+b.length)] (.tup [.int .i64 ((fewK b).1),.int .i64 ((fewK b).2)]),((Qm b).2 != 0)=true,true=true,true=true])
 (hr:AvLe (.bool false) res):G Try.prog E [.code (Qd Try.prog 43)] ⟨[.rsl (rowI b) 0 b.length]++unds (Try.f43.ntmps - 1),[]⟩ :=
 Qc (n:=400) (evs:=[.fz,.cs (rowI b),.v (.tup [.rsl (QE ((Qm b).1)) 0 (((Qm b).1).length),.int .i64 ((Qm b).2)]),.fz,.cs (rowI b),.v (.tup [.int .i64 ((fewK b).1),.int .i64 ((fewK b).2)]),.b true,.b true,.b true]) (obs:=_) hE Try.func43 Qp (by kernel_rfl) ho hr
theorem p43_start_1 (b:(List Int)) {E:Env} {res:AV} (hE:Qg Try.prog 43 res E) (ho:AllP [1=1,0=0,0=0,(0+b.length)≤2147483648,((rowI b).drop 0).take (b.length*1)=(rowI b),(rowI b).length=(b.length*1),noRefs (rowI b)=true,Qe Try.prog (.clos 102 [] []) [.rsl (rowI b) 0 (0+b.length)] (.tup [.rsl (QE ((Qm b).1)) 0 (((Qm b).1).length),.int .i64 ((Qm b).2)]),1=1,0=0,0=0,(0+b.length)≤2147483648,((rowI b).drop 0).take (b.length*1)=(rowI b),(rowI b).length=(b.length*1),noRefs (rowI b)=true,Qe Try.prog (.clos 103 [] []) [.rsl (rowI b) 0 (0+b.length)] (.tup [.int .i64 ((fewK b).1),.int .i64 ((fewK b).2)]),((Qm b).2 != 0)=false,((fewK b).2 != 0)=true,true=true])
 (hr:AvLe (.bool false) res):G Try.prog E [.code (Qd Try.prog 43)] ⟨[.rsl (rowI b) 0 b.length]++unds (Try.f43.ntmps - 1),[]⟩ :=
 Qc (n:=400) (evs:=[.fz,.cs (rowI b),.v (.tup [.rsl (QE ((Qm b).1)) 0 (((Qm b).1).length),.int .i64 ((Qm b).2)]),.fz,.cs (rowI b),.v (.tup [.int .i64 ((fewK b).1),.int .i64 ((fewK b).2)]),.b false,.b true,.b true]) (obs:=_) hE Try.func43 Qp (by kernel_rfl) ho hr
theorem p43_start_2 (b:(List Int)) {E:Env} {res:AV} (hE:Qg Try.prog 43 res E) (ho:AllP [1=1,0=0,0=0,(0+b.length)≤2147483648,((rowI b).drop 0).take (b.length*1)=(rowI b),(rowI b).length=(b.length*1),noRefs (rowI b)=true,Qe Try.prog (.clos 102 [] []) [.rsl (rowI b) 0 (0+b.length)] (.tup [.rsl (QE ((Qm b).1)) 0 (((Qm b).1).length),.int .i64 ((Qm b).2)]),1=1,0=0,0=0,(0+b.length)≤2147483648,((rowI b).drop 0).take (b.length*1)=(rowI b),(rowI b).length=(b.length*1),noRefs (rowI b)=true,Qe Try.prog (.clos 103 [] []) [.rsl (rowI b) 0 (0+b.length)] (.tup [.int .i64 ((fewK b).1),.int .i64 ((fewK b).2)]),((Qm b).2 != 0)=false,((fewK b).2 != 0)=false,(((((Qm b).1).length:Nat):Int) != (fewK b).1)=true])
 (hr:AvLe (.bool false) res):G Try.prog E [.code (Qd Try.prog 43)] ⟨[.rsl (rowI b) 0 b.length]++unds (Try.f43.ntmps - 1),[]⟩ :=
 Qc (n:=400) (evs:=[.fz,.cs (rowI b),.v (.tup [.rsl (QE ((Qm b).1)) 0 (((Qm b).1).length),.int .i64 ((Qm b).2)]),.fz,.cs (rowI b),.v (.tup [.int .i64 ((fewK b).1),.int .i64 ((fewK b).2)]),.b false,.b false,.b true]) (obs:=_) hE Try.func43 Qp (by kernel_rfl) ho hr
theorem p43_start_3 (b:(List Int)) {E:Env} {rv:AV} (hE:Qg Try.prog 43 rv E) (ho:AllP [1=1,0=0,0=0,(0+b.length)≤2147483648,((rowI b).drop 0).take (b.length*1)=(rowI b),(rowI b).length=(b.length*1),noRefs (rowI b)=true,Qe Try.prog (.clos 102 [] []) [.rsl (rowI b) 0 (0+b.length)] (.tup [.rsl (QE ((Qm b).1)) 0 (((Qm b).1).length),.int .i64 ((Qm b).2)]),1=1,0=0,0=0,(0+b.length)≤2147483648,((rowI b).drop 0).take (b.length*1)=(rowI b),(rowI b).length=(b.length*1),noRefs (rowI b)=true,Qe Try.prog (.clos 103 [] []) [.rsl (rowI b) 0 (0+b.length)] (.tup [.int .i64 ((fewK b).1),.int .i64 ((fewK b).2)]),((Qm b).2 != 0)=false,((fewK b).2 != 0)=false,(((((Qm b).1).length:Nat):Int) != (fewK b).1)=false,1=1,0=0,0=0,(0+b.length)≤2147483648,((rowI b).drop 0).take (b.length*1)=(rowI b),(rowI b).length=(b.length*1),noRefs (rowI b)=true,1=1,0=0,0=0,(0+((Qm b).1).length)≤2147483648,((QE ((Qm b).1)).drop 0).take (((Qm b).1).length*3)=(QE ((Qm b).1)),(QE ((Qm b).1)).length=(((Qm b).1).length*3),noRefs (QE ((Qm b).1))=true,Qe Try.prog (.clos 104 [] []) [.rsl (rowI b) 0 (0+b.length),.rsl (QE ((Qm b).1)) 0 (0+((Qm b).1).length)] (.tup [.rsl (rowI ((payK b ((Qm b).1)).1)) 0 (((payK b ((Qm b).1)).1).length),.int .i64 ((payK b ((Qm b).1)).2)])])
 (hg:G Try.prog E (Ky Try.prog) ⟨([.rsl (rowI b) 0 b.length,J,J,J,J,.int .i64 ((fewK b).1),J,.rsl (rowI ((payK b ((Qm b).1)).1)) 0 (((payK b ((Qm b).1)).1).length),.int .i64 ((payK b ((Qm b).1)).2),.int .i64 0,.int .i64 0]++Js 75),[⟨false,2,1,true,[],false⟩,⟨false,2,1,true,[],false⟩,⟨false,2,1,true,[],false⟩,⟨false,2,3,true,[],false⟩]⟩):G Try.prog E [.code (Qd Try.prog 43)] ⟨[.rsl (rowI b) 0 b.length]++unds (Try.f43.ntmps - 1),[]⟩ :=
 Ql (n:=400) (ds:=[]) (cs:=[]) (live:=[0,5,7,8,9,10]) (m:=4) (evs:=[.fz,.cs (rowI b),.v (.tup [.rsl (QE ((Qm b).1)) 0 (((Qm b).1).length),.int .i64 ((Qm b).2)]),.fz,.cs (rowI b),.v (.tup [.int .i64 ((fewK b).1),.int .i64 ((fewK b).2)]),.b false,.b false,.b false,.fz,.cs (rowI b),.fz,.cs (QE ((Qm b).1)),.v (.tup [.rsl (rowI ((payK b ((Qm b).1)).1)) 0 (((payK b ((Qm b).1)).1).length),.int .i64 ((payK b ((Qm b).1)).2)]),.stop]) (obs:=_) hE.2.1 (hE.nogh _) Qp (by kernel_rfl) ho hg
theorem f43W (b:(List Int)) {E:Env} {rv:Bool} (hE:Qg Try.prog 43 (.bool rv) E)
 (h:((0+b.length)≤2147483648∧((b.length≤9223372036854775807)∧((0+b.length)≤2147483648∧((b.length≤9223372036854775807)∧((¬ ((Qm b).2=0)→rv=false)∧((Qm b).2=0→((¬ ((fewK b).2=0)→rv=false)∧((fewK b).2=0→((¬ (((((Qm b).1).length:Nat):Int)=(fewK b).1)→rv=false)∧(((((Qm b).1).length:Nat):Int)=(fewK b).1→((0+b.length)≤2147483648∧((0+((Qm b).1).length)≤2147483648∧((b.length≤9223372036854775807)∧f43G0 E b 0 0)))))))))))))):G Try.prog E [.code (Qd Try.prog 43)] ⟨[.rsl (rowI b) 0 b.length]++unds (Try.f43.ntmps - 1),[]⟩:=by
 obtain ⟨h1,h⟩:=h
 obtain ⟨h2,h⟩:=h
 obtain ⟨h3,h⟩:=h
 obtain ⟨h4,h⟩:=h
 rcases bft ((Qm b).2 != 0) with hc0 | hc0
 · have h:=h.1 (bneT hc0)
   exact p43_start_0 b hE ⟨rfl,rfl,rfl,h1,(by exact QX cI (fun _=>rfl) b),(by exact QI cI (fun _=>rfl) b),(by exact Xk cI (fun _=>rfl) b),(by rw [(show AV.rsl (rowI b) 0 (0+b.length)=AV.rsl (rowI b) 0 b.length from by rw [show (0+b.length)=b.length from by simp])]; exact (u102 (Wg b h2))),rfl,rfl,rfl,h3,(by exact QX cI (fun _=>rfl) b),(by exact QI cI (fun _=>rfl) b),(by exact Xk cI (fun _=>rfl) b),(by rw [(show AV.rsl (rowI b) 0 (0+b.length)=AV.rsl (rowI b) 0 b.length from by rw [show (0+b.length)=b.length from by simp])]; exact (u103 (qo b h4))),hc0,rfl,rfl,trivial⟩ (AvLe.of_eq (by rw [h]; try rfl))
 · have h:=h.2 (bneF hc0)
   rcases bft ((fewK b).2 != 0) with hc1 | hc1
   · have h:=h.1 (bneT hc1)
     exact p43_start_1 b hE ⟨rfl,rfl,rfl,h1,(by exact QX cI (fun _=>rfl) b),(by exact QI cI (fun _=>rfl) b),(by exact Xk cI (fun _=>rfl) b),(by rw [(show AV.rsl (rowI b) 0 (0+b.length)=AV.rsl (rowI b) 0 b.length from by rw [show (0+b.length)=b.length from by simp])]; exact (u102 (Wg b h2))),rfl,rfl,rfl,h3,(by exact QX cI (fun _=>rfl) b),(by exact QI cI (fun _=>rfl) b),(by exact Xk cI (fun _=>rfl) b),(by rw [(show AV.rsl (rowI b) 0 (0+b.length)=AV.rsl (rowI b) 0 b.length from by rw [show (0+b.length)=b.length from by simp])]; exact (u103 (qo b h4))),hc0,hc1,rfl,trivial⟩ (AvLe.of_eq (by rw [h]; try rfl))
   · have h:=h.2 (bneF hc1)
     rcases bft (((((Qm b).1).length:Nat):Int) != (fewK b).1) with hc2 | hc2
     · have h:=h.1 (bneT hc2)
       exact p43_start_2 b hE ⟨rfl,rfl,rfl,h1,(by exact QX cI (fun _=>rfl) b),(by exact QI cI (fun _=>rfl) b),(by exact Xk cI (fun _=>rfl) b),(by rw [(show AV.rsl (rowI b) 0 (0+b.length)=AV.rsl (rowI b) 0 b.length from by rw [show (0+b.length)=b.length from by simp])]; exact (u102 (Wg b h2))),rfl,rfl,rfl,h3,(by exact QX cI (fun _=>rfl) b),(by exact QI cI (fun _=>rfl) b),(by exact Xk cI (fun _=>rfl) b),(by rw [(show AV.rsl (rowI b) 0 (0+b.length)=AV.rsl (rowI b) 0 b.length from by rw [show (0+b.length)=b.length from by simp])]; exact (u103 (qo b h4))),hc0,hc1,hc2,trivial⟩ (AvLe.of_eq (by rw [h]; try rfl))
     · have h:=h.2 (bneF hc2)
       obtain ⟨h5,h⟩:=h
       obtain ⟨h6,h⟩:=h
       obtain ⟨h7,h⟩:=h
       exact p43_start_3 b hE ⟨rfl,rfl,rfl,h1,(by exact QX cI (fun _=>rfl) b),(by exact QI cI (fun _=>rfl) b),(by exact Xk cI (fun _=>rfl) b),(by rw [(show AV.rsl (rowI b) 0 (0+b.length)=AV.rsl (rowI b) 0 b.length from by rw [show (0+b.length)=b.length from by simp])]; exact (u102 (Wg b h2))),rfl,rfl,rfl,h3,(by exact QX cI (fun _=>rfl) b),(by exact QI cI (fun _=>rfl) b),(by exact Xk cI (fun _=>rfl) b),(by rw [(show AV.rsl (rowI b) 0 (0+b.length)=AV.rsl (rowI b) 0 b.length from by rw [show (0+b.length)=b.length from by simp])]; exact (u103 (qo b h4))),hc0,hc1,hc2,rfl,rfl,rfl,h5,(by exact QX cI (fun _=>rfl) b),(by exact QI cI (fun _=>rfl) b),(by exact Xk cI (fun _=>rfl) b),rfl,rfl,rfl,h6,(by exact QX cPay (fun _=>rfl) ((Qm b).1)),(by exact QI cPay (fun _=>rfl) ((Qm b).1)),(by exact Xk cPay (fun _=>rfl) ((Qm b).1)),(by rw [(show AV.rsl (rowI b) 0 (0+b.length)=AV.rsl (rowI b) 0 b.length from by rw [show (0+b.length)=b.length from by simp])]; rw [(show AV.rsl (QE ((Qm b).1)) 0 (0+((Qm b).1).length)=AV.rsl (QE ((Qm b).1)) 0 ((Qm b).1).length from by rw [show (0+((Qm b).1).length)=((Qm b).1).length from by simp])]; exact (u104 (PayP_ok b ((Qm b).1) h7))),trivial⟩ h
abbrev z43_1 (b:(List Int)):List AV:=[.rsl (rowI ((payK b ((Qm b).1)).1)) 0 (((payK b ((Qm b).1)).1).length)]
abbrev z43_2:List Blk:=[⟨false,2,1,true,[],false⟩,⟨false,2,1,true,[],false⟩,⟨false,2,1,true,[],false⟩,⟨false,2,3,true,[],false⟩]
theorem p43_0_0 (b:(List Int)) (open_:Nat) (i:Nat) (e:Int) {E:Env} {rv:AV} (hE:Qg Try.prog 43 rv E) (ho:AllP [(decide ((i:Int)<(b.length:Int)))=true,0≤(i:Int)∧(i:Int)<(b.length:Int),((rowI b).drop (0+(Int.toNat (i:Int))*1)).take 1=[.int .i64 e],(e != 0)=true,InR .i64 ((open_:Int)+1),InR .i64 ((i:Int)+1)])
 (hg:G Try.prog E (Ky Try.prog) ⟨([.rsl (rowI b) 0 b.length,J,J,J,J,.int .i64 ((fewK b).1),J,.rsl (rowI ((payK b ((Qm b).1)).1)) 0 (((payK b ((Qm b).1)).1).length),.int .i64 ((payK b ((Qm b).1)).2),.int .i64 ((open_:Int)+1),.int .i64 ((i:Int)+1)]++Js 75),z43_2⟩):G Try.prog E (Ky Try.prog) (f43S0 b open_ i ) :=
 Ql (n:=400) (ds:=[]) (cs:=[]) (live:=[0,5,7,8,9,10]) (m:=4) (evs:=[.b true,.ld (.int .i64 e),.b true,.stop]) (obs:=_) hE.2.1 (hE.nogh _) Qp (by kernel_rfl) ho hg
theorem p43_0_1 (b:(List Int)) (open_:Nat) (i:Nat) (e:Int) {E:Env} {rv:AV} (hE:Qg Try.prog 43 rv E) (ho:AllP [(decide ((i:Int)<(b.length:Int)))=true,0≤(i:Int)∧(i:Int)<(b.length:Int),((rowI b).drop (0+(Int.toNat (i:Int))*1)).take 1=[.int .i64 e],(e != 0)=false,InR .i64 ((i:Int)+1)])
 (hg:G Try.prog E (Ky Try.prog) ⟨([.rsl (rowI b) 0 b.length,J,J,J,J,.int .i64 ((fewK b).1),J,.rsl (rowI ((payK b ((Qm b).1)).1)) 0 (((payK b ((Qm b).1)).1).length),.int .i64 ((payK b ((Qm b).1)).2),.int .i64 (open_:Int),.int .i64 ((i:Int)+1)]++Js 75),z43_2⟩):G Try.prog E (Ky Try.prog) (f43S0 b open_ i ) :=
 Ql (n:=400) (ds:=[]) (cs:=[]) (live:=[0,5,7,8,9,10]) (m:=4) (evs:=[.b true,.ld (.int .i64 e),.b false,.stop]) (obs:=_) hE.2.1 (hE.nogh _) Qp (by kernel_rfl) ho hg
theorem p43_0_2 (b:(List Int)) (open_:Nat) (i:Nat) {E:Env} {res:AV} (hE:Qg Try.prog 43 res E) (ho:AllP [(decide ((i:Int)<(b.length:Int)))=false,((payK b ((Qm b).1)).2 == 0)=true,(((((payK b ((Qm b).1)).1).length:Nat):Int) == (b.length:Int))=true,Qe Try.prog (.clos 105 [] []) (z43_1 b) (.bool (((payK b ((Qm b).1)).1).all fun e=>decide (e=0))),(((payK b ((Qm b).1)).1).all fun e=>decide (e=0))=true,InR .i64 ((open_:Int) - 1),(decide ((fewK b).1≤(iMax 0 ((open_:Int) - 1))))=true,InR .i64 (2*(fewK b).1)])
 (hr:AvLe (.bool (decide ((2*(fewK b).1)≥(open_:Int)))) res):G Try.prog E (Ky Try.prog) (f43S0 b open_ i ) :=
 Qc (n:=400) (evs:=[.b false,.b true,.b true,.v (.bool (((payK b ((Qm b).1)).1).all fun e=>decide (e=0))),.b true,.b true]) (obs:=_) hE Try.func43 Qp (by kernel_rfl) ho hr
theorem p43_0_3 (b:(List Int)) (open_:Nat) (i:Nat) {E:Env} {res:AV} (hE:Qg Try.prog 43 res E) (ho:AllP [(decide ((i:Int)<(b.length:Int)))=false,((payK b ((Qm b).1)).2 == 0)=true,(((((payK b ((Qm b).1)).1).length:Nat):Int) == (b.length:Int))=true,Qe Try.prog (.clos 105 [] []) (z43_1 b) (.bool (((payK b ((Qm b).1)).1).all fun e=>decide (e=0))),(((payK b ((Qm b).1)).1).all fun e=>decide (e=0))=true,InR .i64 ((open_:Int) - 1),(decide ((fewK b).1≤(iMax 0 ((open_:Int) - 1))))=false])
 (hr:AvLe (.bool false) res):G Try.prog E (Ky Try.prog) (f43S0 b open_ i ) :=
 Qc (n:=400) (evs:=[.b false,.b true,.b true,.v (.bool (((payK b ((Qm b).1)).1).all fun e=>decide (e=0))),.b true,.b false]) (obs:=_) hE Try.func43 Qp (by kernel_rfl) ho hr
theorem p43_0_4 (b:(List Int)) (open_:Nat) (i:Nat) {E:Env} {res:AV} (hE:Qg Try.prog 43 res E) (ho:AllP [(decide ((i:Int)<(b.length:Int)))=false,((payK b ((Qm b).1)).2 == 0)=true,(((((payK b ((Qm b).1)).1).length:Nat):Int) == (b.length:Int))=true,Qe Try.prog (.clos 105 [] []) (z43_1 b) (.bool (((payK b ((Qm b).1)).1).all fun e=>decide (e=0))),(((payK b ((Qm b).1)).1).all fun e=>decide (e=0))=false,false=false])
 (hr:AvLe (.bool false) res):G Try.prog E (Ky Try.prog) (f43S0 b open_ i ) :=
 Qc (n:=400) (evs:=[.b false,.b true,.b true,.v (.bool (((payK b ((Qm b).1)).1).all fun e=>decide (e=0))),.b false,.b false]) (obs:=_) hE Try.func43 Qp (by kernel_rfl) ho hr
theorem p43_0_5 (b:(List Int)) (open_:Nat) (i:Nat) {E:Env} {res:AV} (hE:Qg Try.prog 43 res E) (ho:AllP [(decide ((i:Int)<(b.length:Int)))=false,((payK b ((Qm b).1)).2 == 0)=true,(((((payK b ((Qm b).1)).1).length:Nat):Int) == (b.length:Int))=false,false=false,false=false])
 (hr:AvLe (.bool false) res):G Try.prog E (Ky Try.prog) (f43S0 b open_ i ) :=
 Qc (n:=400) (evs:=[.b false,.b true,.b false,.b false,.b false]) (obs:=_) hE Try.func43 Qp (by kernel_rfl) ho hr
theorem p43_0_6 (b:(List Int)) (open_:Nat) (i:Nat) {E:Env} {res:AV} (hE:Qg Try.prog 43 res E) (ho:AllP [(decide ((i:Int)<(b.length:Int)))=false,((payK b ((Qm b).1)).2 == 0)=false,false=false,false=false,false=false])
 (hr:AvLe (.bool false) res):G Try.prog E (Ky Try.prog) (f43S0 b open_ i ) :=
 Qc (n:=400) (evs:=[.b false,.b false,.b false,.b false,.b false]) (obs:=_) hE Try.func43 Qp (by kernel_rfl) ho hr
theorem f43W0 (b:(List Int)) (open_:Nat) (i:Nat) {E:Env} {rv:Bool} (hE:Qg Try.prog 43 (.bool rv) E)
 (h:(((i:Int)<(b.length:Int)→(∃ e:Int,b[i]?=some e∧((¬ (e=0)→((I6 ((open_:Int)+1))∧((I6 ((i:Int)+1))∧f43G0 E b (open_+1) (i+1))))∧(e=0→((I6 ((i:Int)+1))∧f43G0 E b open_ (i+1))))))∧(¬ ((i:Int)<(b.length:Int))→(((payK b ((Qm b).1)).2=0→((((((payK b ((Qm b).1)).1).length:Nat):Int)=(b.length:Int)→((((payK b ((Qm b).1)).1).length≤9223372036854775807)∧(((((payK b ((Qm b).1)).1).all fun e=>decide (e=0))=true→((I6 ((open_:Int) - 1))∧(((fewK b).1≤(iMax 0 ((open_:Int) - 1))→((I6 (2*(fewK b).1))∧rv=(decide ((2*(fewK b).1)≥(open_:Int)))))∧(¬ ((fewK b).1≤(iMax 0 ((open_:Int) - 1)))→rv=false))))∧((((payK b ((Qm b).1)).1).all fun e=>decide (e=0))=false→rv=false))))∧(¬ (((((payK b ((Qm b).1)).1).length:Nat):Int)=(b.length:Int))→rv=false)))∧(¬ ((payK b ((Qm b).1)).2=0)→rv=false))))):f43G0 E b open_ i:=by
 rcases bft (decide ((i:Int)<(b.length:Int))) with hc0 | hc0
 · have h:=h.1 (odt hc0)
   obtain ⟨e,h1,h⟩:=h
   rcases bft (e != 0) with hc1 | hc1
   · have h:=h.1 (bneT hc1)
     obtain ⟨q5_2,h⟩:=h
     obtain ⟨q6_2,h⟩:=h
     exact p43_0_0 b open_ i e hE ⟨hc0,(QF h1),(rp cI 1 0 1 h1),hc1,q5_2,q6_2,trivial⟩ h
   · have h:=h.2 (bneF hc1)
     obtain ⟨q5_2,h⟩:=h
     exact p43_0_1 b open_ i e hE ⟨hc0,(QF h1),(rp cI 1 0 1 h1),hc1,q5_2,trivial⟩ h
 · have h:=h.2 (odf hc0)
   rcases bft ((payK b ((Qm b).1)).2 == 0) with hc1 | hc1
   · have h:=h.1 (eq_of_beq hc1)
     rcases bft (((((payK b ((Qm b).1)).1).length:Nat):Int) == (b.length:Int)) with hc2 | hc2
     · have h:=h.1 (eq_of_beq hc2)
       obtain ⟨h1,h⟩:=h
       rcases bft (((payK b ((Qm b).1)).1).all fun e=>decide (e=0)) with hc3 | hc3
       · have h:=h.1 hc3
         obtain ⟨q5_4,h⟩:=h
         rcases bft (decide ((fewK b).1≤(iMax 0 ((open_:Int) - 1)))) with hc4 | hc4
         · have h:=h.1 (odt hc4)
           obtain ⟨q7_5,h⟩:=h
           exact p43_0_2 b open_ i hE ⟨hc0,hc1,hc2,(u105 (QaM ((payK b ((Qm b).1)).1) h1)),hc3,q5_4,hc4,q7_5,trivial⟩ (AvLe.of_eq (by rw [h]; try rfl))
         · have h:=h.2 (odf hc4)
           exact p43_0_3 b open_ i hE ⟨hc0,hc1,hc2,(u105 (QaM ((payK b ((Qm b).1)).1) h1)),hc3,q5_4,hc4,trivial⟩ (AvLe.of_eq (by rw [h]; try rfl))
       · have h:=h.2 hc3
         exact p43_0_4 b open_ i hE ⟨hc0,hc1,hc2,(u105 (QaM ((payK b ((Qm b).1)).1) h1)),hc3,rfl,trivial⟩ (AvLe.of_eq (by rw [h]; try rfl))
     · have h:=h.2 (ne_of_beq_false hc2)
       exact p43_0_5 b open_ i hE ⟨hc0,hc1,hc2,rfl,rfl,trivial⟩ (AvLe.of_eq (by rw [h]; try rfl))
   · have h:=h.2 (ne_of_beq_false hc1)
     exact p43_0_6 b open_ i hE ⟨hc0,hc1,rfl,rfl,rfl,trivial⟩ (AvLe.of_eq (by rw [h]; try rfl))
theorem WS (b:List Int) (h:b.length≤1000000):Pure Try.prog 43 [.rsl (rowI b) 0 b.length] (.bool (VW b)):=QC Try.func43 f43b fun E hE=>by
 by_cases he:Xv b=0
 case neg =>
  have e1:=settleK_err he
  have e2:VW b=false:=decide_eq_false he
  exact f43W b (rv:=VW b) hE ⟨by omega,by omega,by omega,by omega,fun _=>e2,fun h0=>absurd (e1 ▸ h0) he⟩
 obtain ⟨k1,k2,k3,v,v1,v2,v3⟩:=few_of he
 have hb:=(WX he).1
 have hc:=cardB_le (b:=b)
 have hl:=(bal_in hb).1
 have es:Qm b=(XC b 1024 (setB b b.length),0):=by rw [Qm,if_pos he]
 have ef:fewK b=((((XC b 1024 (setB b b.length)).length:Nat):Int),0):=by unfold fewK; rw [es]
 have ep:=payK_of hb (show (XC b 1024 (setB b b.length)).length≤60 by omega) v1
 have et:VW b=true:=decide_eq_true he
 have hz:(v.all fun e=>decide (e=0))=true:=List.all_eq_true.2 fun e hm=>by
  obtain ⟨i,hi,rfl⟩:=List.getElem_of_mem hm
  have:=v3 i (by omega)
  rw [List.getD,List.getElem?_eq_getElem hi] at this
  exact decide_eq_true this
 have key:∀ (d i:Nat),i+d=b.length→f43G0 E b (opnN b i) i:=by
  intro d
  induction d with
  | zero =>
   intro i hd
   have:i=b.length:=by omega
   subst this
   have eo:opnN b b.length=Qcp b:=rfl
   rw [eo]
   refine f43W0 b _ _ (rv:=VW b) hE ⟨fun h=>by omega,fun _=>⟨fun _=>⟨fun _=>⟨by rw [es,ep]; simp only; omega,fun _=>⟨by omega,fun _=>⟨by rw [ef]; simp only; omega,?_⟩,fun hn=>absurd ?_ hn⟩,fun hn=>?_⟩,fun hn=>absurd ?_ hn⟩,fun hn=>absurd ?_ hn⟩⟩
   · rw [et,ef]; exact (decide_eq_true (by simp only; omega)).symm
   · rw [ef]; unfold iMax; simp only; split <;> omega
   · rw [es,ep,hz] at hn; cases hn
   · rw [es,ep]; simp only; omega
   · rw [es,ep]
  | succ d ih =>
   intro i hd
   have hi:b[i]?=some b[i]:=List.getElem?_eq_getElem (by omega)
   have nx:=ih (i+1) (by omega)
   rw [opnN_step hi] at nx
   have hol:=opnN_le (b:=b) (i:=i)
   refine f43W0 b _ _ (rv:=VW b) hE ⟨fun _=>⟨_,hi,fun h0=>⟨by omega,by omega,?_⟩,fun h0=>⟨by omega,?_⟩⟩,fun h=>by omega⟩
   · rw [if_neg h0] at nx; exact nx
   · rw [if_pos h0] at nx; exact nx
 exact f43W b (rv:=VW b) hE ⟨by omega,by omega,by omega,by omega,fun hn=>absurd (by rw [es]) hn,fun _=>⟨fun hn=>absurd (by rw [ef]) hn,fun _=>⟨fun hn=>absurd (by rw [es,ef]) hn,fun _=>⟨by omega,by rw [es]; simp only; omega,by omega,key b.length 0 (by omega)⟩⟩⟩⟩
theorem f10b:Try.f10.body=some (Qd Try.prog 10):=by kernel_rfl
def f10K0 (P:Program):List Item:=kAt 400 [.code (Qd P 10)] [.b false,.b false,.b false,.b false,.b false,.stop]
def f10S0 (f:Fair) (l:(List Dl)) (ws:(List Int)) (v6:List Int) (i:Nat) (g6:Nat):St:=⟨([J,J,J,.ptr 0 0 0]++jj 5 ([.ptr 2 0 0,J,J,J,.rsl (rowI ((QG (((accK f l).1).cash) ws).1)) 0 (((QG (((accK f l).1).cash) ws).1).length),J,.sl 6 g6 0 v6.length 1,.int .i64 (i:Int)]++Js 139)),[⟨true,0,1,true,[.int .i64 f.purses,.int .i64 f.boxes,.rsl (rowI f.stock) 0 f.stock.length,.rsl (rowI f.cash) 0 f.cash.length,.rsl (Qr f.bundles) 0 f.bundles.length,.int .i64 f.refund,.int .i64 f.band,.int .i64 f.hours],false⟩,⟨false,2,5,true,[],false⟩,⟨true,0,1,true,[.rsl (rowI (((Qj f l).1).stk)) 0 ((((Qj f l).1).stk).length),.rsl (rowI (((Qj f l).1).csh)) 0 ((((Qj f l).1).csh).length),.rsl (Qf (((Qj f l).1).prs)) 0 ((((Qj f l).1).prs).length),.rsl (rowI (((Qj f l).1).bxs)) 0 ((((Qj f l).1).bxs).length),.int .i64 (((Qj f l).1).lst)],false⟩,⟨false,2,5,true,[],false⟩,⟨true,0,1,true,[.int .i64 (((accK f l).1).sold),.int .i64 (((accK f l).1).taken),.int .i64 (((accK f l).1).ret),.int .i64 (((accK f l).1).held),.int .i64 (((accK f l).1).lost),.int .i64 (((accK f l).1).cash)],false⟩,⟨false,2,1,true,[],false⟩,⟨true,g6,1,true,(rowI v6),true⟩]⟩
def f10G0 (E:Env) (f:Fair) (l:(List Dl)) (ws:(List Int)) (v6:List Int) (i:Nat):Prop:=∀ g6:Nat,G Try.prog E (f10K0 Try.prog) (f10S0 f l ws v6 i g6)
abbrev z10_2 (f:Fair):List AV:=[.int .i64 f.purses,.int .i64 f.boxes,.rsl (rowI f.stock) 0 f.stock.length,.rsl (rowI f.cash) 0 f.cash.length,.rsl (Qr f.bundles) 0 f.bundles.length,.int .i64 f.refund,.int .i64 f.band,.int .i64 f.hours]
abbrev z10_1 (f:Fair) (l:(List Dl)) (ws:(List Int)):List AV:=[.agg (z10_2 f),.rsl (Qu l) 0 l.length,.rsl (rowI ws) 0 ws.length]
theorem p10_start_0 (f:Fair) (l:(List Dl)) (ws:(List Int)) {E:Env} {res:AV} (hE:Qg Try.prog 10 res E) (ho:AllP [(decide ((f.stock.length:Int) > 10))=true,true=true,true=true,true=true,true=true,true=true,true=true,Qe Try.prog (.clos 13 [] []) [] (.bool true)])
 (hr:AvLe (.bool true) res):G Try.prog E [.code (Qd Try.prog 10)] ⟨(z10_1 f l ws)++unds (Try.f10.ntmps - 3),[]⟩ :=
 Qc (n:=400) (evs:=[.b true,.b true,.b true,.b true,.b true,.b true,.b true,.v (.bool true)]) (obs:=_) hE Try.func10 Qp (by kernel_rfl) ho hr
theorem p10_start_1 (f:Fair) (l:(List Dl)) (ws:(List Int)) {E:Env} {res:AV} (hE:Qg Try.prog 10 res E) (ho:AllP [(decide ((f.stock.length:Int) > 10))=false,(decide ((f.cash.length:Int) > 10))=true,true=true,true=true,true=true,true=true,true=true,Qe Try.prog (.clos 13 [] []) [] (.bool true)])
 (hr:AvLe (.bool true) res):G Try.prog E [.code (Qd Try.prog 10)] ⟨(z10_1 f l ws)++unds (Try.f10.ntmps - 3),[]⟩ :=
 Qc (n:=400) (evs:=[.b false,.b true,.b true,.b true,.b true,.b true,.b true,.v (.bool true)]) (obs:=_) hE Try.func10 Qp (by kernel_rfl) ho hr
theorem p10_start_2 (f:Fair) (l:(List Dl)) (ws:(List Int)) {E:Env} {res:AV} (hE:Qg Try.prog 10 res E) (ho:AllP [(decide ((f.stock.length:Int) > 10))=false,(decide ((f.cash.length:Int) > 10))=false,(decide ((l.length:Int) > 250))=true,true=true,true=true,true=true,true=true,Qe Try.prog (.clos 13 [] []) [] (.bool true)])
 (hr:AvLe (.bool true) res):G Try.prog E [.code (Qd Try.prog 10)] ⟨(z10_1 f l ws)++unds (Try.f10.ntmps - 3),[]⟩ :=
 Qc (n:=400) (evs:=[.b false,.b false,.b true,.b true,.b true,.b true,.b true,.v (.bool true)]) (obs:=_) hE Try.func10 Qp (by kernel_rfl) ho hr
theorem p10_start_3 (f:Fair) (l:(List Dl)) (ws:(List Int)) {E:Env} {res:AV} (hE:Qg Try.prog 10 res E) (ho:AllP [(decide ((f.stock.length:Int) > 10))=false,(decide ((f.cash.length:Int) > 10))=false,(decide ((l.length:Int) > 250))=false,(decide (f.purses > 50))=true,true=true,true=true,true=true,Qe Try.prog (.clos 13 [] []) [] (.bool true)])
 (hr:AvLe (.bool true) res):G Try.prog E [.code (Qd Try.prog 10)] ⟨(z10_1 f l ws)++unds (Try.f10.ntmps - 3),[]⟩ :=
 Qc (n:=400) (evs:=[.b false,.b false,.b false,.b true,.b true,.b true,.b true,.v (.bool true)]) (obs:=_) hE Try.func10 Qp (by kernel_rfl) ho hr
theorem p10_start_4 (f:Fair) (l:(List Dl)) (ws:(List Int)) {E:Env} {res:AV} (hE:Qg Try.prog 10 res E) (ho:AllP [(decide ((f.stock.length:Int) > 10))=false,(decide ((f.cash.length:Int) > 10))=false,(decide ((l.length:Int) > 250))=false,(decide (f.purses > 50))=false,(decide (f.boxes > 50))=true,true=true,true=true,Qe Try.prog (.clos 13 [] []) [] (.bool true)])
 (hr:AvLe (.bool true) res):G Try.prog E [.code (Qd Try.prog 10)] ⟨(z10_1 f l ws)++unds (Try.f10.ntmps - 3),[]⟩ :=
 Qc (n:=400) (evs:=[.b false,.b false,.b false,.b false,.b true,.b true,.b true,.v (.bool true)]) (obs:=_) hE Try.func10 Qp (by kernel_rfl) ho hr
theorem p10_start_5 (f:Fair) (l:(List Dl)) (ws:(List Int)) {E:Env} {res:AV} (hE:Qg Try.prog 10 res E) (ho:AllP [(decide ((f.stock.length:Int) > 10))=false,(decide ((f.cash.length:Int) > 10))=false,(decide ((l.length:Int) > 250))=false,(decide (f.purses > 50))=false,(decide (f.boxes > 50))=false,(decide ((f.bundles.length:Int) > 20))=true,true=true,Qe Try.prog (.clos 13 [] []) [] (.bool true)])
 (hr:AvLe (.bool true) res):G Try.prog E [.code (Qd Try.prog 10)] ⟨(z10_1 f l ws)++unds (Try.f10.ntmps - 3),[]⟩ :=
 Qc (n:=400) (evs:=[.b false,.b false,.b false,.b false,.b false,.b true,.b true,.v (.bool true)]) (obs:=_) hE Try.func10 Qp (by kernel_rfl) ho hr
theorem p10_start_6 (f:Fair) (l:(List Dl)) (ws:(List Int)) {E:Env} {res:AV} (hE:Qg Try.prog 10 res E) (ho:AllP [(decide ((f.stock.length:Int) > 10))=false,(decide ((f.cash.length:Int) > 10))=false,(decide ((l.length:Int) > 250))=false,(decide (f.purses > 50))=false,(decide (f.boxes > 50))=false,(decide ((f.bundles.length:Int) > 20))=false,((ws.length:Int) != (f.stock.length:Int))=true,Qe Try.prog (.clos 13 [] []) [] (.bool true)])
 (hr:AvLe (.bool true) res):G Try.prog E [.code (Qd Try.prog 10)] ⟨(z10_1 f l ws)++unds (Try.f10.ntmps - 3),[]⟩ :=
 Qc (n:=400) (evs:=[.b false,.b false,.b false,.b false,.b false,.b false,.b true,.v (.bool true)]) (obs:=_) hE Try.func10 Qp (by kernel_rfl) ho hr
theorem p10_start_7 (f:Fair) (l:(List Dl)) (ws:(List Int)) {E:Env} {res:AV} (hE:Qg Try.prog 10 res E) (ho:AllP [(decide ((f.stock.length:Int) > 10))=false,(decide ((f.cash.length:Int) > 10))=false,(decide ((l.length:Int) > 250))=false,(decide (f.purses > 50))=false,(decide (f.boxes > 50))=false,(decide ((f.bundles.length:Int) > 20))=false,((ws.length:Int) != (f.stock.length:Int))=false,Qe Try.prog (.clos 40 [] []) [.agg (z10_2 f),.rsl (Qu l) 0 l.length] (.tup [.int .i64 ((QH f l).1),.int .i64 ((QH f l).2)]),((QH f l).2 != 0)=true,Qe Try.prog (.clos 13 [] []) [] (.bool true)])
 (hr:AvLe (.bool true) res):G Try.prog E [.code (Qd Try.prog 10)] ⟨(z10_1 f l ws)++unds (Try.f10.ntmps - 3),[]⟩ :=
 Qc (n:=400) (evs:=[.b false,.b false,.b false,.b false,.b false,.b false,.b false,.v (.tup [.int .i64 ((QH f l).1),.int .i64 ((QH f l).2)]),.b true,.v (.bool true)]) (obs:=_) hE Try.func10 Qp (by kernel_rfl) ho hr
theorem p10_start_8 (f:Fair) (l:(List Dl)) (ws:(List Int)) {E:Env} {res:AV} (hE:Qg Try.prog 10 res E) (ho:AllP [(decide ((f.stock.length:Int) > 10))=false,(decide ((f.cash.length:Int) > 10))=false,(decide ((l.length:Int) > 250))=false,(decide (f.purses > 50))=false,(decide (f.boxes > 50))=false,(decide ((f.bundles.length:Int) > 20))=false,((ws.length:Int) != (f.stock.length:Int))=false,Qe Try.prog (.clos 40 [] []) [.agg [.int .i64 f.purses,.int .i64 f.boxes,.rsl (rowI f.stock) 0 f.stock.length,.rsl (rowI f.cash) 0 f.cash.length,.rsl (Qr f.bundles) 0 f.bundles.length,.int .i64 f.refund,.int .i64 f.band,.int .i64 f.hours],.rsl (Qu l) 0 l.length] (.tup [.int .i64 ((QH f l).1),.int .i64 ((QH f l).2)]),((QH f l).2 != 0)=false,1=1,0=0,0=0,(0+l.length)≤2147483648,((Qu l).drop 0).take (l.length*5)=(Qu l),(Qu l).length=(l.length*5),noRefs (Qu l)=true,Qe Try.prog (.clos 41 [] []) [.agg [.int .i64 f.purses,.int .i64 f.boxes,.rsl (rowI f.stock) 0 f.stock.length,.rsl (rowI f.cash) 0 f.cash.length,.rsl (Qr f.bundles) 0 f.bundles.length,.int .i64 f.refund,.int .i64 f.band,.int .i64 f.hours],.rsl (Qu l) 0 (0+l.length)] (.tup [.agg [.rsl (rowI (((Qj f l).1).stk)) 0 ((((Qj f l).1).stk).length),.rsl (rowI (((Qj f l).1).csh)) 0 ((((Qj f l).1).csh).length),.rsl (Qf (((Qj f l).1).prs)) 0 ((((Qj f l).1).prs).length),.rsl (rowI (((Qj f l).1).bxs)) 0 ((((Qj f l).1).bxs).length),.int .i64 (((Qj f l).1).lst)],.int .i64 ((Qj f l).2)]),5≤5,1=1,0=0,0=0,(0+l.length)≤2147483648,((Qu l).drop 0).take (l.length*5)=(Qu l),(Qu l).length=(l.length*5),noRefs (Qu l)=true,Qe Try.prog (.clos 23 [] []) [.agg [.int .i64 f.purses,.int .i64 f.boxes,.rsl (rowI f.stock) 0 f.stock.length,.rsl (rowI f.cash) 0 f.cash.length,.rsl (Qr f.bundles) 0 f.bundles.length,.int .i64 f.refund,.int .i64 f.band,.int .i64 f.hours],.rsl (Qu l) 0 (0+l.length)] (.tup [.agg [.int .i64 (((accK f l).1).sold),.int .i64 (((accK f l).1).taken),.int .i64 (((accK f l).1).ret),.int .i64 (((accK f l).1).held),.int .i64 (((accK f l).1).lost),.int .i64 (((accK f l).1).cash)],.int .i64 ((accK f l).2)]),6≤6,((Qj f l).2 != 0)=true,true=true,true=true])
 (hr:AvLe (.bool false) res):G Try.prog E [.code (Qd Try.prog 10)] ⟨[.agg [.int .i64 f.purses,.int .i64 f.boxes,.rsl (rowI f.stock) 0 f.stock.length,.rsl (rowI f.cash) 0 f.cash.length,.rsl (Qr f.bundles) 0 f.bundles.length,.int .i64 f.refund,.int .i64 f.band,.int .i64 f.hours],.rsl (Qu l) 0 l.length,.rsl (rowI ws) 0 ws.length]++unds (Try.f10.ntmps - 3),[]⟩ :=
 Qc (n:=400) (evs:=[.b false,.b false,.b false,.b false,.b false,.b false,.b false,.v (.tup [.int .i64 ((QH f l).1),.int .i64 ((QH f l).2)]),.b false,.fz,.cs (Qu l),.v (.tup [.agg [.rsl (rowI (((Qj f l).1).stk)) 0 ((((Qj f l).1).stk).length),.rsl (rowI (((Qj f l).1).csh)) 0 ((((Qj f l).1).csh).length),.rsl (Qf (((Qj f l).1).prs)) 0 ((((Qj f l).1).prs).length),.rsl (rowI (((Qj f l).1).bxs)) 0 ((((Qj f l).1).bxs).length),.int .i64 (((Qj f l).1).lst)],.int .i64 ((Qj f l).2)]),.fz,.cs (Qu l),.v (.tup [.agg [.int .i64 (((accK f l).1).sold),.int .i64 (((accK f l).1).taken),.int .i64 (((accK f l).1).ret),.int .i64 (((accK f l).1).held),.int .i64 (((accK f l).1).lost),.int .i64 (((accK f l).1).cash)],.int .i64 ((accK f l).2)]),.b true,.b true,.b true]) (obs:=_) hE Try.func10 Qp (by kernel_rfl) ho hr
theorem p10_start_9 (f:Fair) (l:(List Dl)) (ws:(List Int)) {E:Env} {res:AV} (hE:Qg Try.prog 10 res E) (ho:AllP [(decide ((f.stock.length:Int) > 10))=false,(decide ((f.cash.length:Int) > 10))=false,(decide ((l.length:Int) > 250))=false,(decide (f.purses > 50))=false,(decide (f.boxes > 50))=false,(decide ((f.bundles.length:Int) > 20))=false,((ws.length:Int) != (f.stock.length:Int))=false,Qe Try.prog (.clos 40 [] []) [.agg [.int .i64 f.purses,.int .i64 f.boxes,.rsl (rowI f.stock) 0 f.stock.length,.rsl (rowI f.cash) 0 f.cash.length,.rsl (Qr f.bundles) 0 f.bundles.length,.int .i64 f.refund,.int .i64 f.band,.int .i64 f.hours],.rsl (Qu l) 0 l.length] (.tup [.int .i64 ((QH f l).1),.int .i64 ((QH f l).2)]),((QH f l).2 != 0)=false,1=1,0=0,0=0,(0+l.length)≤2147483648,((Qu l).drop 0).take (l.length*5)=(Qu l),(Qu l).length=(l.length*5),noRefs (Qu l)=true,Qe Try.prog (.clos 41 [] []) [.agg [.int .i64 f.purses,.int .i64 f.boxes,.rsl (rowI f.stock) 0 f.stock.length,.rsl (rowI f.cash) 0 f.cash.length,.rsl (Qr f.bundles) 0 f.bundles.length,.int .i64 f.refund,.int .i64 f.band,.int .i64 f.hours],.rsl (Qu l) 0 (0+l.length)] (.tup [.agg [.rsl (rowI (((Qj f l).1).stk)) 0 ((((Qj f l).1).stk).length),.rsl (rowI (((Qj f l).1).csh)) 0 ((((Qj f l).1).csh).length),.rsl (Qf (((Qj f l).1).prs)) 0 ((((Qj f l).1).prs).length),.rsl (rowI (((Qj f l).1).bxs)) 0 ((((Qj f l).1).bxs).length),.int .i64 (((Qj f l).1).lst)],.int .i64 ((Qj f l).2)]),5≤5,1=1,0=0,0=0,(0+l.length)≤2147483648,((Qu l).drop 0).take (l.length*5)=(Qu l),(Qu l).length=(l.length*5),noRefs (Qu l)=true,Qe Try.prog (.clos 23 [] []) [.agg [.int .i64 f.purses,.int .i64 f.boxes,.rsl (rowI f.stock) 0 f.stock.length,.rsl (rowI f.cash) 0 f.cash.length,.rsl (Qr f.bundles) 0 f.bundles.length,.int .i64 f.refund,.int .i64 f.band,.int .i64 f.hours],.rsl (Qu l) 0 (0+l.length)] (.tup [.agg [.int .i64 (((accK f l).1).sold),.int .i64 (((accK f l).1).taken),.int .i64 (((accK f l).1).ret),.int .i64 (((accK f l).1).held),.int .i64 (((accK f l).1).lost),.int .i64 (((accK f l).1).cash)],.int .i64 ((accK f l).2)]),6≤6,((Qj f l).2 != 0)=false,((accK f l).2 != 0)=true,true=true])
 (hr:AvLe (.bool false) res):G Try.prog E [.code (Qd Try.prog 10)] ⟨[.agg [.int .i64 f.purses,.int .i64 f.boxes,.rsl (rowI f.stock) 0 f.stock.length,.rsl (rowI f.cash) 0 f.cash.length,.rsl (Qr f.bundles) 0 f.bundles.length,.int .i64 f.refund,.int .i64 f.band,.int .i64 f.hours],.rsl (Qu l) 0 l.length,.rsl (rowI ws) 0 ws.length]++unds (Try.f10.ntmps - 3),[]⟩ :=
 Qc (n:=400) (evs:=[.b false,.b false,.b false,.b false,.b false,.b false,.b false,.v (.tup [.int .i64 ((QH f l).1),.int .i64 ((QH f l).2)]),.b false,.fz,.cs (Qu l),.v (.tup [.agg [.rsl (rowI (((Qj f l).1).stk)) 0 ((((Qj f l).1).stk).length),.rsl (rowI (((Qj f l).1).csh)) 0 ((((Qj f l).1).csh).length),.rsl (Qf (((Qj f l).1).prs)) 0 ((((Qj f l).1).prs).length),.rsl (rowI (((Qj f l).1).bxs)) 0 ((((Qj f l).1).bxs).length),.int .i64 (((Qj f l).1).lst)],.int .i64 ((Qj f l).2)]),.fz,.cs (Qu l),.v (.tup [.agg [.int .i64 (((accK f l).1).sold),.int .i64 (((accK f l).1).taken),.int .i64 (((accK f l).1).ret),.int .i64 (((accK f l).1).held),.int .i64 (((accK f l).1).lost),.int .i64 (((accK f l).1).cash)],.int .i64 ((accK f l).2)]),.b false,.b true,.b true]) (obs:=_) hE Try.func10 Qp (by kernel_rfl) ho hr
theorem p10_start_10 (f:Fair) (l:(List Dl)) (ws:(List Int)) {E:Env} {res:AV} (hE:Qg Try.prog 10 res E) (ho:AllP [(decide ((f.stock.length:Int) > 10))=false,(decide ((f.cash.length:Int) > 10))=false,(decide ((l.length:Int) > 250))=false,(decide (f.purses > 50))=false,(decide (f.boxes > 50))=false,(decide ((f.bundles.length:Int) > 20))=false,((ws.length:Int) != (f.stock.length:Int))=false,Qe Try.prog (.clos 40 [] []) [.agg [.int .i64 f.purses,.int .i64 f.boxes,.rsl (rowI f.stock) 0 f.stock.length,.rsl (rowI f.cash) 0 f.cash.length,.rsl (Qr f.bundles) 0 f.bundles.length,.int .i64 f.refund,.int .i64 f.band,.int .i64 f.hours],.rsl (Qu l) 0 l.length] (.tup [.int .i64 ((QH f l).1),.int .i64 ((QH f l).2)]),((QH f l).2 != 0)=false,1=1,0=0,0=0,(0+l.length)≤2147483648,((Qu l).drop 0).take (l.length*5)=(Qu l),(Qu l).length=(l.length*5),noRefs (Qu l)=true,Qe Try.prog (.clos 41 [] []) [.agg [.int .i64 f.purses,.int .i64 f.boxes,.rsl (rowI f.stock) 0 f.stock.length,.rsl (rowI f.cash) 0 f.cash.length,.rsl (Qr f.bundles) 0 f.bundles.length,.int .i64 f.refund,.int .i64 f.band,.int .i64 f.hours],.rsl (Qu l) 0 (0+l.length)] (.tup [.agg [.rsl (rowI (((Qj f l).1).stk)) 0 ((((Qj f l).1).stk).length),.rsl (rowI (((Qj f l).1).csh)) 0 ((((Qj f l).1).csh).length),.rsl (Qf (((Qj f l).1).prs)) 0 ((((Qj f l).1).prs).length),.rsl (rowI (((Qj f l).1).bxs)) 0 ((((Qj f l).1).bxs).length),.int .i64 (((Qj f l).1).lst)],.int .i64 ((Qj f l).2)]),5≤5,1=1,0=0,0=0,(0+l.length)≤2147483648,((Qu l).drop 0).take (l.length*5)=(Qu l),(Qu l).length=(l.length*5),noRefs (Qu l)=true,Qe Try.prog (.clos 23 [] []) [.agg [.int .i64 f.purses,.int .i64 f.boxes,.rsl (rowI f.stock) 0 f.stock.length,.rsl (rowI f.cash) 0 f.cash.length,.rsl (Qr f.bundles) 0 f.bundles.length,.int .i64 f.refund,.int .i64 f.band,.int .i64 f.hours],.rsl (Qu l) 0 (0+l.length)] (.tup [.agg [.int .i64 (((accK f l).1).sold),.int .i64 (((accK f l).1).taken),.int .i64 (((accK f l).1).ret),.int .i64 (((accK f l).1).held),.int .i64 (((accK f l).1).lost),.int .i64 (((accK f l).1).cash)],.int .i64 ((accK f l).2)]),6≤6,((Qj f l).2 != 0)=false,((accK f l).2 != 0)=false,((((((Qj f l).1).csh).length:Nat):Int) != (f.cash.length:Int))=true])
 (hr:AvLe (.bool false) res):G Try.prog E [.code (Qd Try.prog 10)] ⟨[.agg [.int .i64 f.purses,.int .i64 f.boxes,.rsl (rowI f.stock) 0 f.stock.length,.rsl (rowI f.cash) 0 f.cash.length,.rsl (Qr f.bundles) 0 f.bundles.length,.int .i64 f.refund,.int .i64 f.band,.int .i64 f.hours],.rsl (Qu l) 0 l.length,.rsl (rowI ws) 0 ws.length]++unds (Try.f10.ntmps - 3),[]⟩ :=
 Qc (n:=400) (evs:=[.b false,.b false,.b false,.b false,.b false,.b false,.b false,.v (.tup [.int .i64 ((QH f l).1),.int .i64 ((QH f l).2)]),.b false,.fz,.cs (Qu l),.v (.tup [.agg [.rsl (rowI (((Qj f l).1).stk)) 0 ((((Qj f l).1).stk).length),.rsl (rowI (((Qj f l).1).csh)) 0 ((((Qj f l).1).csh).length),.rsl (Qf (((Qj f l).1).prs)) 0 ((((Qj f l).1).prs).length),.rsl (rowI (((Qj f l).1).bxs)) 0 ((((Qj f l).1).bxs).length),.int .i64 (((Qj f l).1).lst)],.int .i64 ((Qj f l).2)]),.fz,.cs (Qu l),.v (.tup [.agg [.int .i64 (((accK f l).1).sold),.int .i64 (((accK f l).1).taken),.int .i64 (((accK f l).1).ret),.int .i64 (((accK f l).1).held),.int .i64 (((accK f l).1).lost),.int .i64 (((accK f l).1).cash)],.int .i64 ((accK f l).2)]),.b false,.b false,.b true]) (obs:=_) hE Try.func10 Qp (by kernel_rfl) ho hr
theorem p10_start_11 (f:Fair) (l:(List Dl)) (ws:(List Int)) {E:Env} {res:AV} (hE:Qg Try.prog 10 res E) (ho:AllP [(decide ((f.stock.length:Int) > 10))=false,(decide ((f.cash.length:Int) > 10))=false,(decide ((l.length:Int) > 250))=false,(decide (f.purses > 50))=false,(decide (f.boxes > 50))=false,(decide ((f.bundles.length:Int) > 20))=false,((ws.length:Int) != (f.stock.length:Int))=false,Qe Try.prog (.clos 40 [] []) [.agg [.int .i64 f.purses,.int .i64 f.boxes,.rsl (rowI f.stock) 0 f.stock.length,.rsl (rowI f.cash) 0 f.cash.length,.rsl (Qr f.bundles) 0 f.bundles.length,.int .i64 f.refund,.int .i64 f.band,.int .i64 f.hours],.rsl (Qu l) 0 l.length] (.tup [.int .i64 ((QH f l).1),.int .i64 ((QH f l).2)]),((QH f l).2 != 0)=false,1=1,0=0,0=0,(0+l.length)≤2147483648,((Qu l).drop 0).take (l.length*5)=(Qu l),(Qu l).length=(l.length*5),noRefs (Qu l)=true,Qe Try.prog (.clos 41 [] []) [.agg [.int .i64 f.purses,.int .i64 f.boxes,.rsl (rowI f.stock) 0 f.stock.length,.rsl (rowI f.cash) 0 f.cash.length,.rsl (Qr f.bundles) 0 f.bundles.length,.int .i64 f.refund,.int .i64 f.band,.int .i64 f.hours],.rsl (Qu l) 0 (0+l.length)] (.tup [.agg [.rsl (rowI (((Qj f l).1).stk)) 0 ((((Qj f l).1).stk).length),.rsl (rowI (((Qj f l).1).csh)) 0 ((((Qj f l).1).csh).length),.rsl (Qf (((Qj f l).1).prs)) 0 ((((Qj f l).1).prs).length),.rsl (rowI (((Qj f l).1).bxs)) 0 ((((Qj f l).1).bxs).length),.int .i64 (((Qj f l).1).lst)],.int .i64 ((Qj f l).2)]),5≤5,1=1,0=0,0=0,(0+l.length)≤2147483648,((Qu l).drop 0).take (l.length*5)=(Qu l),(Qu l).length=(l.length*5),noRefs (Qu l)=true,Qe Try.prog (.clos 23 [] []) [.agg [.int .i64 f.purses,.int .i64 f.boxes,.rsl (rowI f.stock) 0 f.stock.length,.rsl (rowI f.cash) 0 f.cash.length,.rsl (Qr f.bundles) 0 f.bundles.length,.int .i64 f.refund,.int .i64 f.band,.int .i64 f.hours],.rsl (Qu l) 0 (0+l.length)] (.tup [.agg [.int .i64 (((accK f l).1).sold),.int .i64 (((accK f l).1).taken),.int .i64 (((accK f l).1).ret),.int .i64 (((accK f l).1).held),.int .i64 (((accK f l).1).lost),.int .i64 (((accK f l).1).cash)],.int .i64 ((accK f l).2)]),6≤6,((Qj f l).2 != 0)=false,((accK f l).2 != 0)=false,((((((Qj f l).1).csh).length:Nat):Int) != (f.cash.length:Int))=false,1=1,0=0,0=0,(0+ws.length)≤2147483648,((rowI ws).drop 0).take (ws.length*1)=(rowI ws),(rowI ws).length=(ws.length*1),noRefs (rowI ws)=true,Qe Try.prog (.clos 42 [] []) [.int .i64 (((accK f l).1).cash),.rsl (rowI ws) 0 (0+ws.length)] (.tup [.rsl (rowI ((QG (((accK f l).1).cash) ws).1)) 0 (((QG (((accK f l).1).cash) ws).1).length),.int .i64 ((QG (((accK f l).1).cash) ws).2)]),((QG (((accK f l).1).cash) ws).2 != 0)=true,Qe Try.prog (.clos 13 [] []) [] (.bool true)])
 (hr:AvLe (.bool true) res):G Try.prog E [.code (Qd Try.prog 10)] ⟨[.agg [.int .i64 f.purses,.int .i64 f.boxes,.rsl (rowI f.stock) 0 f.stock.length,.rsl (rowI f.cash) 0 f.cash.length,.rsl (Qr f.bundles) 0 f.bundles.length,.int .i64 f.refund,.int .i64 f.band,.int .i64 f.hours],.rsl (Qu l) 0 l.length,.rsl (rowI ws) 0 ws.length]++unds (Try.f10.ntmps - 3),[]⟩ :=
 Qc (n:=400) (evs:=[.b false,.b false,.b false,.b false,.b false,.b false,.b false,.v (.tup [.int .i64 ((QH f l).1),.int .i64 ((QH f l).2)]),.b false,.fz,.cs (Qu l),.v (.tup [.agg [.rsl (rowI (((Qj f l).1).stk)) 0 ((((Qj f l).1).stk).length),.rsl (rowI (((Qj f l).1).csh)) 0 ((((Qj f l).1).csh).length),.rsl (Qf (((Qj f l).1).prs)) 0 ((((Qj f l).1).prs).length),.rsl (rowI (((Qj f l).1).bxs)) 0 ((((Qj f l).1).bxs).length),.int .i64 (((Qj f l).1).lst)],.int .i64 ((Qj f l).2)]),.fz,.cs (Qu l),.v (.tup [.agg [.int .i64 (((accK f l).1).sold),.int .i64 (((accK f l).1).taken),.int .i64 (((accK f l).1).ret),.int .i64 (((accK f l).1).held),.int .i64 (((accK f l).1).lost),.int .i64 (((accK f l).1).cash)],.int .i64 ((accK f l).2)]),.b false,.b false,.b false,.fz,.cs (rowI ws),.v (.tup [.rsl (rowI ((QG (((accK f l).1).cash) ws).1)) 0 (((QG (((accK f l).1).cash) ws).1).length),.int .i64 ((QG (((accK f l).1).cash) ws).2)]),.b true,.v (.bool true)]) (obs:=_) hE Try.func10 Qp (by kernel_rfl) ho hr
theorem p10_start_12 (f:Fair) (l:(List Dl)) (ws:(List Int)) {E:Env} {res:AV} (hE:Qg Try.prog 10 res E) (ho:AllP [(decide ((f.stock.length:Int) > 10))=false,(decide ((f.cash.length:Int) > 10))=false,(decide ((l.length:Int) > 250))=false,(decide (f.purses > 50))=false,(decide (f.boxes > 50))=false,(decide ((f.bundles.length:Int) > 20))=false,((ws.length:Int) != (f.stock.length:Int))=false,Qe Try.prog (.clos 40 [] []) [.agg [.int .i64 f.purses,.int .i64 f.boxes,.rsl (rowI f.stock) 0 f.stock.length,.rsl (rowI f.cash) 0 f.cash.length,.rsl (Qr f.bundles) 0 f.bundles.length,.int .i64 f.refund,.int .i64 f.band,.int .i64 f.hours],.rsl (Qu l) 0 l.length] (.tup [.int .i64 ((QH f l).1),.int .i64 ((QH f l).2)]),((QH f l).2 != 0)=false,1=1,0=0,0=0,(0+l.length)≤2147483648,((Qu l).drop 0).take (l.length*5)=(Qu l),(Qu l).length=(l.length*5),noRefs (Qu l)=true,Qe Try.prog (.clos 41 [] []) [.agg [.int .i64 f.purses,.int .i64 f.boxes,.rsl (rowI f.stock) 0 f.stock.length,.rsl (rowI f.cash) 0 f.cash.length,.rsl (Qr f.bundles) 0 f.bundles.length,.int .i64 f.refund,.int .i64 f.band,.int .i64 f.hours],.rsl (Qu l) 0 (0+l.length)] (.tup [.agg [.rsl (rowI (((Qj f l).1).stk)) 0 ((((Qj f l).1).stk).length),.rsl (rowI (((Qj f l).1).csh)) 0 ((((Qj f l).1).csh).length),.rsl (Qf (((Qj f l).1).prs)) 0 ((((Qj f l).1).prs).length),.rsl (rowI (((Qj f l).1).bxs)) 0 ((((Qj f l).1).bxs).length),.int .i64 (((Qj f l).1).lst)],.int .i64 ((Qj f l).2)]),5≤5,1=1,0=0,0=0,(0+l.length)≤2147483648,((Qu l).drop 0).take (l.length*5)=(Qu l),(Qu l).length=(l.length*5),noRefs (Qu l)=true,Qe Try.prog (.clos 23 [] []) [.agg [.int .i64 f.purses,.int .i64 f.boxes,.rsl (rowI f.stock) 0 f.stock.length,.rsl (rowI f.cash) 0 f.cash.length,.rsl (Qr f.bundles) 0 f.bundles.length,.int .i64 f.refund,.int .i64 f.band,.int .i64 f.hours],.rsl (Qu l) 0 (0+l.length)] (.tup [.agg [.int .i64 (((accK f l).1).sold),.int .i64 (((accK f l).1).taken),.int .i64 (((accK f l).1).ret),.int .i64 (((accK f l).1).held),.int .i64 (((accK f l).1).lost),.int .i64 (((accK f l).1).cash)],.int .i64 ((accK f l).2)]),6≤6,((Qj f l).2 != 0)=false,((accK f l).2 != 0)=false,((((((Qj f l).1).csh).length:Nat):Int) != (f.cash.length:Int))=false,1=1,0=0,0=0,(0+ws.length)≤2147483648,((rowI ws).drop 0).take (ws.length*1)=(rowI ws),(rowI ws).length=(ws.length*1),noRefs (rowI ws)=true,Qe Try.prog (.clos 42 [] []) [.int .i64 (((accK f l).1).cash),.rsl (rowI ws) 0 (0+ws.length)] (.tup [.rsl (rowI ((QG (((accK f l).1).cash) ws).1)) 0 (((QG (((accK f l).1).cash) ws).1).length),.int .i64 ((QG (((accK f l).1).cash) ws).2)]),((QG (((accK f l).1).cash) ws).2 != 0)=false,(((((QG (((accK f l).1).cash) ws).1).length:Nat):Int) != (ws.length:Int))=true,true=true])
 (hr:AvLe (.bool false) res):G Try.prog E [.code (Qd Try.prog 10)] ⟨[.agg [.int .i64 f.purses,.int .i64 f.boxes,.rsl (rowI f.stock) 0 f.stock.length,.rsl (rowI f.cash) 0 f.cash.length,.rsl (Qr f.bundles) 0 f.bundles.length,.int .i64 f.refund,.int .i64 f.band,.int .i64 f.hours],.rsl (Qu l) 0 l.length,.rsl (rowI ws) 0 ws.length]++unds (Try.f10.ntmps - 3),[]⟩ :=
 Qc (n:=400) (evs:=[.b false,.b false,.b false,.b false,.b false,.b false,.b false,.v (.tup [.int .i64 ((QH f l).1),.int .i64 ((QH f l).2)]),.b false,.fz,.cs (Qu l),.v (.tup [.agg [.rsl (rowI (((Qj f l).1).stk)) 0 ((((Qj f l).1).stk).length),.rsl (rowI (((Qj f l).1).csh)) 0 ((((Qj f l).1).csh).length),.rsl (Qf (((Qj f l).1).prs)) 0 ((((Qj f l).1).prs).length),.rsl (rowI (((Qj f l).1).bxs)) 0 ((((Qj f l).1).bxs).length),.int .i64 (((Qj f l).1).lst)],.int .i64 ((Qj f l).2)]),.fz,.cs (Qu l),.v (.tup [.agg [.int .i64 (((accK f l).1).sold),.int .i64 (((accK f l).1).taken),.int .i64 (((accK f l).1).ret),.int .i64 (((accK f l).1).held),.int .i64 (((accK f l).1).lost),.int .i64 (((accK f l).1).cash)],.int .i64 ((accK f l).2)]),.b false,.b false,.b false,.fz,.cs (rowI ws),.v (.tup [.rsl (rowI ((QG (((accK f l).1).cash) ws).1)) 0 (((QG (((accK f l).1).cash) ws).1).length),.int .i64 ((QG (((accK f l).1).cash) ws).2)]),.b false,.b true,.b true]) (obs:=_) hE Try.func10 Qp (by kernel_rfl) ho hr
theorem p10_start_13 (f:Fair) (l:(List Dl)) (ws:(List Int)) {E:Env} {res:AV} (hE:Qg Try.prog 10 res E) (ho:AllP [(decide ((f.stock.length:Int) > 10))=false,(decide ((f.cash.length:Int) > 10))=false,(decide ((l.length:Int) > 250))=false,(decide (f.purses > 50))=false,(decide (f.boxes > 50))=false,(decide ((f.bundles.length:Int) > 20))=false,((ws.length:Int) != (f.stock.length:Int))=false,Qe Try.prog (.clos 40 [] []) [.agg [.int .i64 f.purses,.int .i64 f.boxes,.rsl (rowI f.stock) 0 f.stock.length,.rsl (rowI f.cash) 0 f.cash.length,.rsl (Qr f.bundles) 0 f.bundles.length,.int .i64 f.refund,.int .i64 f.band,.int .i64 f.hours],.rsl (Qu l) 0 l.length] (.tup [.int .i64 ((QH f l).1),.int .i64 ((QH f l).2)]),((QH f l).2 != 0)=false,1=1,0=0,0=0,(0+l.length)≤2147483648,((Qu l).drop 0).take (l.length*5)=(Qu l),(Qu l).length=(l.length*5),noRefs (Qu l)=true,Qe Try.prog (.clos 41 [] []) [.agg [.int .i64 f.purses,.int .i64 f.boxes,.rsl (rowI f.stock) 0 f.stock.length,.rsl (rowI f.cash) 0 f.cash.length,.rsl (Qr f.bundles) 0 f.bundles.length,.int .i64 f.refund,.int .i64 f.band,.int .i64 f.hours],.rsl (Qu l) 0 (0+l.length)] (.tup [.agg [.rsl (rowI (((Qj f l).1).stk)) 0 ((((Qj f l).1).stk).length),.rsl (rowI (((Qj f l).1).csh)) 0 ((((Qj f l).1).csh).length),.rsl (Qf (((Qj f l).1).prs)) 0 ((((Qj f l).1).prs).length),.rsl (rowI (((Qj f l).1).bxs)) 0 ((((Qj f l).1).bxs).length),.int .i64 (((Qj f l).1).lst)],.int .i64 ((Qj f l).2)]),5≤5,1=1,0=0,0=0,(0+l.length)≤2147483648,((Qu l).drop 0).take (l.length*5)=(Qu l),(Qu l).length=(l.length*5),noRefs (Qu l)=true,Qe Try.prog (.clos 23 [] []) [.agg [.int .i64 f.purses,.int .i64 f.boxes,.rsl (rowI f.stock) 0 f.stock.length,.rsl (rowI f.cash) 0 f.cash.length,.rsl (Qr f.bundles) 0 f.bundles.length,.int .i64 f.refund,.int .i64 f.band,.int .i64 f.hours],.rsl (Qu l) 0 (0+l.length)] (.tup [.agg [.int .i64 (((accK f l).1).sold),.int .i64 (((accK f l).1).taken),.int .i64 (((accK f l).1).ret),.int .i64 (((accK f l).1).held),.int .i64 (((accK f l).1).lost),.int .i64 (((accK f l).1).cash)],.int .i64 ((accK f l).2)]),6≤6,((Qj f l).2 != 0)=false,((accK f l).2 != 0)=false,((((((Qj f l).1).csh).length:Nat):Int) != (f.cash.length:Int))=false,1=1,0=0,0=0,(0+ws.length)≤2147483648,((rowI ws).drop 0).take (ws.length*1)=(rowI ws),(rowI ws).length=(ws.length*1),noRefs (rowI ws)=true,Qe Try.prog (.clos 42 [] []) [.int .i64 (((accK f l).1).cash),.rsl (rowI ws) 0 (0+ws.length)] (.tup [.rsl (rowI ((QG (((accK f l).1).cash) ws).1)) 0 (((QG (((accK f l).1).cash) ws).1).length),.int .i64 ((QG (((accK f l).1).cash) ws).2)]),((QG (((accK f l).1).cash) ws).2 != 0)=false,(((((QG (((accK f l).1).cash) ws).1).length:Nat):Int) != (ws.length:Int))=false,Qe Try.prog (.clos 34 [] []) [.rsl (rowI ((QG (((accK f l).1).cash) ws).1)) 0 (((QG (((accK f l).1).cash) ws).1).length)] (.int .i64 (sumI ((QG (((accK f l).1).cash) ws).1))),((sumI ((QG (((accK f l).1).cash) ws).1)) != ((accK f l).1).cash)=true])
 (hr:AvLe (.bool false) res):G Try.prog E [.code (Qd Try.prog 10)] ⟨[.agg [.int .i64 f.purses,.int .i64 f.boxes,.rsl (rowI f.stock) 0 f.stock.length,.rsl (rowI f.cash) 0 f.cash.length,.rsl (Qr f.bundles) 0 f.bundles.length,.int .i64 f.refund,.int .i64 f.band,.int .i64 f.hours],.rsl (Qu l) 0 l.length,.rsl (rowI ws) 0 ws.length]++unds (Try.f10.ntmps - 3),[]⟩ :=
 Qc (n:=400) (evs:=[.b false,.b false,.b false,.b false,.b false,.b false,.b false,.v (.tup [.int .i64 ((QH f l).1),.int .i64 ((QH f l).2)]),.b false,.fz,.cs (Qu l),.v (.tup [.agg [.rsl (rowI (((Qj f l).1).stk)) 0 ((((Qj f l).1).stk).length),.rsl (rowI (((Qj f l).1).csh)) 0 ((((Qj f l).1).csh).length),.rsl (Qf (((Qj f l).1).prs)) 0 ((((Qj f l).1).prs).length),.rsl (rowI (((Qj f l).1).bxs)) 0 ((((Qj f l).1).bxs).length),.int .i64 (((Qj f l).1).lst)],.int .i64 ((Qj f l).2)]),.fz,.cs (Qu l),.v (.tup [.agg [.int .i64 (((accK f l).1).sold),.int .i64 (((accK f l).1).taken),.int .i64 (((accK f l).1).ret),.int .i64 (((accK f l).1).held),.int .i64 (((accK f l).1).lost),.int .i64 (((accK f l).1).cash)],.int .i64 ((accK f l).2)]),.b false,.b false,.b false,.fz,.cs (rowI ws),.v (.tup [.rsl (rowI ((QG (((accK f l).1).cash) ws).1)) 0 (((QG (((accK f l).1).cash) ws).1).length),.int .i64 ((QG (((accK f l).1).cash) ws).2)]),.b false,.b false,.v (.int .i64 (sumI ((QG (((accK f l).1).cash) ws).1))),.b true]) (obs:=_) hE Try.func10 Qp (by kernel_rfl) ho hr
theorem p10_start_14 (f:Fair) (l:(List Dl)) (ws:(List Int)) {E:Env} {rv:AV} (hE:Qg Try.prog 10 rv E) (ho:AllP [(decide ((f.stock.length:Int) > 10))=false,(decide ((f.cash.length:Int) > 10))=false,(decide ((l.length:Int) > 250))=false,(decide (f.purses > 50))=false,(decide (f.boxes > 50))=false,(decide ((f.bundles.length:Int) > 20))=false,((ws.length:Int) != (f.stock.length:Int))=false,Qe Try.prog (.clos 40 [] []) [.agg [.int .i64 f.purses,.int .i64 f.boxes,.rsl (rowI f.stock) 0 f.stock.length,.rsl (rowI f.cash) 0 f.cash.length,.rsl (Qr f.bundles) 0 f.bundles.length,.int .i64 f.refund,.int .i64 f.band,.int .i64 f.hours],.rsl (Qu l) 0 l.length] (.tup [.int .i64 ((QH f l).1),.int .i64 ((QH f l).2)]),((QH f l).2 != 0)=false,1=1,0=0,0=0,(0+l.length)≤2147483648,((Qu l).drop 0).take (l.length*5)=(Qu l),(Qu l).length=(l.length*5),noRefs (Qu l)=true,Qe Try.prog (.clos 41 [] []) [.agg [.int .i64 f.purses,.int .i64 f.boxes,.rsl (rowI f.stock) 0 f.stock.length,.rsl (rowI f.cash) 0 f.cash.length,.rsl (Qr f.bundles) 0 f.bundles.length,.int .i64 f.refund,.int .i64 f.band,.int .i64 f.hours],.rsl (Qu l) 0 (0+l.length)] (.tup [.agg [.rsl (rowI (((Qj f l).1).stk)) 0 ((((Qj f l).1).stk).length),.rsl (rowI (((Qj f l).1).csh)) 0 ((((Qj f l).1).csh).length),.rsl (Qf (((Qj f l).1).prs)) 0 ((((Qj f l).1).prs).length),.rsl (rowI (((Qj f l).1).bxs)) 0 ((((Qj f l).1).bxs).length),.int .i64 (((Qj f l).1).lst)],.int .i64 ((Qj f l).2)]),5≤5,1=1,0=0,0=0,(0+l.length)≤2147483648,((Qu l).drop 0).take (l.length*5)=(Qu l),(Qu l).length=(l.length*5),noRefs (Qu l)=true,Qe Try.prog (.clos 23 [] []) [.agg [.int .i64 f.purses,.int .i64 f.boxes,.rsl (rowI f.stock) 0 f.stock.length,.rsl (rowI f.cash) 0 f.cash.length,.rsl (Qr f.bundles) 0 f.bundles.length,.int .i64 f.refund,.int .i64 f.band,.int .i64 f.hours],.rsl (Qu l) 0 (0+l.length)] (.tup [.agg [.int .i64 (((accK f l).1).sold),.int .i64 (((accK f l).1).taken),.int .i64 (((accK f l).1).ret),.int .i64 (((accK f l).1).held),.int .i64 (((accK f l).1).lost),.int .i64 (((accK f l).1).cash)],.int .i64 ((accK f l).2)]),6≤6,((Qj f l).2 != 0)=false,((accK f l).2 != 0)=false,((((((Qj f l).1).csh).length:Nat):Int) != (f.cash.length:Int))=false,1=1,0=0,0=0,(0+ws.length)≤2147483648,((rowI ws).drop 0).take (ws.length*1)=(rowI ws),(rowI ws).length=(ws.length*1),noRefs (rowI ws)=true,Qe Try.prog (.clos 42 [] []) [.int .i64 (((accK f l).1).cash),.rsl (rowI ws) 0 (0+ws.length)] (.tup [.rsl (rowI ((QG (((accK f l).1).cash) ws).1)) 0 (((QG (((accK f l).1).cash) ws).1).length),.int .i64 ((QG (((accK f l).1).cash) ws).2)]),((QG (((accK f l).1).cash) ws).2 != 0)=false,(((((QG (((accK f l).1).cash) ws).1).length:Nat):Int) != (ws.length:Int))=false,Qe Try.prog (.clos 34 [] []) [.rsl (rowI ((QG (((accK f l).1).cash) ws).1)) 0 (((QG (((accK f l).1).cash) ws).1).length)] (.int .i64 (sumI ((QG (((accK f l).1).cash) ws).1))),((sumI ((QG (((accK f l).1).cash) ws).1)) != ((accK f l).1).cash)=false])
 (hg:G Try.prog E (f10K0 Try.prog) ⟨([J,J,J,.ptr 0 0 0]++jj 5 ([.ptr 2 0 0,J,J,J,.rsl (rowI ((QG (((accK f l).1).cash) ws).1)) 0 (((QG (((accK f l).1).cash) ws).1).length),J,.sl 6 0 0 0 1,.int .i64 0]++Js 139)),[⟨true,0,1,true,[.int .i64 f.purses,.int .i64 f.boxes,.rsl (rowI f.stock) 0 f.stock.length,.rsl (rowI f.cash) 0 f.cash.length,.rsl (Qr f.bundles) 0 f.bundles.length,.int .i64 f.refund,.int .i64 f.band,.int .i64 f.hours],false⟩,⟨false,2,5,true,[],false⟩,⟨true,0,1,true,[.rsl (rowI (((Qj f l).1).stk)) 0 ((((Qj f l).1).stk).length),.rsl (rowI (((Qj f l).1).csh)) 0 ((((Qj f l).1).csh).length),.rsl (Qf (((Qj f l).1).prs)) 0 ((((Qj f l).1).prs).length),.rsl (rowI (((Qj f l).1).bxs)) 0 ((((Qj f l).1).bxs).length),.int .i64 (((Qj f l).1).lst)],false⟩,⟨false,2,5,true,[],false⟩,⟨true,0,1,true,[.int .i64 (((accK f l).1).sold),.int .i64 (((accK f l).1).taken),.int .i64 (((accK f l).1).ret),.int .i64 (((accK f l).1).held),.int .i64 (((accK f l).1).lost),.int .i64 (((accK f l).1).cash)],false⟩,⟨false,2,1,true,[],false⟩,⟨true,0,1,true,[],true⟩]⟩):G Try.prog E [.code (Qd Try.prog 10)] ⟨[.agg [.int .i64 f.purses,.int .i64 f.boxes,.rsl (rowI f.stock) 0 f.stock.length,.rsl (rowI f.cash) 0 f.cash.length,.rsl (Qr f.bundles) 0 f.bundles.length,.int .i64 f.refund,.int .i64 f.band,.int .i64 f.hours],.rsl (Qu l) 0 l.length,.rsl (rowI ws) 0 ws.length]++unds (Try.f10.ntmps - 3),[]⟩ :=
 Ql (n:=400) (ds:=[(15,1)]) (cs:=[]) (live:=[3,9,13,15,16]) (m:=7) (evs:=[.b false,.b false,.b false,.b false,.b false,.b false,.b false,.v (.tup [.int .i64 ((QH f l).1),.int .i64 ((QH f l).2)]),.b false,.fz,.cs (Qu l),.v (.tup [.agg [.rsl (rowI (((Qj f l).1).stk)) 0 ((((Qj f l).1).stk).length),.rsl (rowI (((Qj f l).1).csh)) 0 ((((Qj f l).1).csh).length),.rsl (Qf (((Qj f l).1).prs)) 0 ((((Qj f l).1).prs).length),.rsl (rowI (((Qj f l).1).bxs)) 0 ((((Qj f l).1).bxs).length),.int .i64 (((Qj f l).1).lst)],.int .i64 ((Qj f l).2)]),.fz,.cs (Qu l),.v (.tup [.agg [.int .i64 (((accK f l).1).sold),.int .i64 (((accK f l).1).taken),.int .i64 (((accK f l).1).ret),.int .i64 (((accK f l).1).held),.int .i64 (((accK f l).1).lost),.int .i64 (((accK f l).1).cash)],.int .i64 ((accK f l).2)]),.b false,.b false,.b false,.fz,.cs (rowI ws),.v (.tup [.rsl (rowI ((QG (((accK f l).1).cash) ws).1)) 0 (((QG (((accK f l).1).cash) ws).1).length),.int .i64 ((QG (((accK f l).1).cash) ws).2)]),.b false,.b false,.v (.int .i64 (sumI ((QG (((accK f l).1).cash) ws).1))),.b false,.stop]) (obs:=_) hE.2.1 (hE.nogh _) Qp (by kernel_rfl) ho hg
theorem f10W (f:Fair) (l:(List Dl)) (ws:(List Int)) {E:Env} {rv:Bool} (hE:Qg Try.prog 10 (.bool rv) E)
 (h:(((f.stock.length:Int) > 10→rv=true)∧(¬ ((f.stock.length:Int) > 10)→(((f.cash.length:Int) > 10→rv=true)∧(¬ ((f.cash.length:Int) > 10)→(((l.length:Int) > 250→rv=true)∧(¬ ((l.length:Int) > 250)→((f.purses > 50→rv=true)∧(¬ (f.purses > 50)→((f.boxes > 50→rv=true)∧(¬ (f.boxes > 50)→(((f.bundles.length:Int) > 20→rv=true)∧(¬ ((f.bundles.length:Int) > 20)→((¬ ((ws.length:Int)=(f.stock.length:Int))→rv=true)∧((ws.length:Int)=(f.stock.length:Int)→((Vs f l)∧((¬ ((QH f l).2=0)→rv=true)∧((QH f l).2=0→((0+l.length)≤2147483648∧((Vs f l)∧((0+l.length)≤2147483648∧((Vs f l)∧((¬ ((Qj f l).2=0)→rv=false)∧((Qj f l).2=0→((¬ ((accK f l).2=0)→rv=false)∧((accK f l).2=0→((¬ ((((((Qj f l).1).csh).length:Nat):Int)=(f.cash.length:Int))→rv=false)∧((((((Qj f l).1).csh).length:Nat):Int)=(f.cash.length:Int)→((0+ws.length)≤2147483648∧((ws.length≤9223372036854775807)∧((¬ ((QG (((accK f l).1).cash) ws).2=0)→rv=true)∧((QG (((accK f l).1).cash) ws).2=0→((¬ (((((QG (((accK f l).1).cash) ws).1).length:Nat):Int)=(ws.length:Int))→rv=false)∧(((((QG (((accK f l).1).cash) ws).1).length:Nat):Int)=(ws.length:Int)→((yr ((QG (((accK f l).1).cash) ws).1))∧((¬ ((sumI ((QG (((accK f l).1).cash) ws).1))=((accK f l).1).cash)→rv=false)∧((sumI ((QG (((accK f l).1).cash) ws).1))=((accK f l).1).cash→f10G0 E f l ws ([]) 0))))))))))))))))))))))))))))))))))))):G Try.prog E [.code (Qd Try.prog 10)] ⟨[.agg [.int .i64 f.purses,.int .i64 f.boxes,.rsl (rowI f.stock) 0 f.stock.length,.rsl (rowI f.cash) 0 f.cash.length,.rsl (Qr f.bundles) 0 f.bundles.length,.int .i64 f.refund,.int .i64 f.band,.int .i64 f.hours],.rsl (Qu l) 0 l.length,.rsl (rowI ws) 0 ws.length]++unds (Try.f10.ntmps - 3),[]⟩:=by
 rcases bft (decide ((f.stock.length:Int) > 10)) with hc0 | hc0
 · have h:=h.1 (odt hc0)
   exact p10_start_0 f l ws hE ⟨hc0,rfl,rfl,rfl,rfl,rfl,rfl,(u13 (Vv )),trivial⟩ (AvLe.of_eq (by rw [h]; try rfl))
 · have h:=h.2 (odf hc0)
   rcases bft (decide ((f.cash.length:Int) > 10)) with hc1 | hc1
   · have h:=h.1 (odt hc1)
     exact p10_start_1 f l ws hE ⟨hc0,hc1,rfl,rfl,rfl,rfl,rfl,(u13 (Vv )),trivial⟩ (AvLe.of_eq (by rw [h]; try rfl))
   · have h:=h.2 (odf hc1)
     rcases bft (decide ((l.length:Int) > 250)) with hc2 | hc2
     · have h:=h.1 (odt hc2)
       exact p10_start_2 f l ws hE ⟨hc0,hc1,hc2,rfl,rfl,rfl,rfl,(u13 (Vv )),trivial⟩ (AvLe.of_eq (by rw [h]; try rfl))
     · have h:=h.2 (odf hc2)
       rcases bft (decide (f.purses > 50)) with hc3 | hc3
       · have h:=h.1 (odt hc3)
         exact p10_start_3 f l ws hE ⟨hc0,hc1,hc2,hc3,rfl,rfl,rfl,(u13 (Vv )),trivial⟩ (AvLe.of_eq (by rw [h]; try rfl))
       · have h:=h.2 (odf hc3)
         rcases bft (decide (f.boxes > 50)) with hc4 | hc4
         · have h:=h.1 (odt hc4)
           exact p10_start_4 f l ws hE ⟨hc0,hc1,hc2,hc3,hc4,rfl,rfl,(u13 (Vv )),trivial⟩ (AvLe.of_eq (by rw [h]; try rfl))
         · have h:=h.2 (odf hc4)
           rcases bft (decide ((f.bundles.length:Int) > 20)) with hc5 | hc5
           · have h:=h.1 (odt hc5)
             exact p10_start_5 f l ws hE ⟨hc0,hc1,hc2,hc3,hc4,hc5,rfl,(u13 (Vv )),trivial⟩ (AvLe.of_eq (by rw [h]; try rfl))
           · have h:=h.2 (odf hc5)
             rcases bft ((ws.length:Int) != (f.stock.length:Int)) with hc6 | hc6
             · have h:=h.1 (bneT hc6)
               exact p10_start_6 f l ws hE ⟨hc0,hc1,hc2,hc3,hc4,hc5,hc6,(u13 (Vv )),trivial⟩ (AvLe.of_eq (by rw [h]; try rfl))
             · have h:=h.2 (bneF hc6)
               obtain ⟨h1,h⟩:=h
               rcases bft ((QH f l).2 != 0) with hc7 | hc7
               · have h:=h.1 (bneT hc7)
                 exact p10_start_7 f l ws hE ⟨hc0,hc1,hc2,hc3,hc4,hc5,hc6,(u40 (Yc f l h1)),hc7,(u13 (Vv )),trivial⟩ (AvLe.of_eq (by rw [h]; try rfl))
               · have h:=h.2 (bneF hc7)
                 obtain ⟨h2,h⟩:=h
                 obtain ⟨h3,h⟩:=h
                 obtain ⟨h4,h⟩:=h
                 obtain ⟨h5,h⟩:=h
                 rcases bft ((Qj f l).2 != 0) with hc8 | hc8
                 · have h:=h.1 (bneT hc8)
                   exact p10_start_8 f l ws hE ⟨hc0,hc1,hc2,hc3,hc4,hc5,hc6,(u40 (Yc f l h1)),hc7,rfl,rfl,rfl,h2,(by exact QX cDl (fun _=>rfl) l),(by exact QI cDl (fun _=>rfl) l),(by exact Xk cDl (fun _=>rfl) l),(by rw [(show AV.rsl (Qu l) 0 (0+l.length)=AV.rsl (Qu l) 0 l.length from by rw [show (0+l.length)=l.length from by simp])]; exact (u41 (VO f l h3))),(by decide),rfl,rfl,rfl,h4,(by exact QX cDl (fun _=>rfl) l),(by exact QI cDl (fun _=>rfl) l),(by exact Xk cDl (fun _=>rfl) l),(by rw [(show AV.rsl (Qu l) 0 (0+l.length)=AV.rsl (Qu l) 0 l.length from by rw [show (0+l.length)=l.length from by simp])]; exact (u23 (WO f l h5))),(by decide),hc8,rfl,rfl,trivial⟩ (AvLe.of_eq (by rw [h]; try rfl))
                 · have h:=h.2 (bneF hc8)
                   rcases bft ((accK f l).2 != 0) with hc9 | hc9
                   · have h:=h.1 (bneT hc9)
                     exact p10_start_9 f l ws hE ⟨hc0,hc1,hc2,hc3,hc4,hc5,hc6,(u40 (Yc f l h1)),hc7,rfl,rfl,rfl,h2,(by exact QX cDl (fun _=>rfl) l),(by exact QI cDl (fun _=>rfl) l),(by exact Xk cDl (fun _=>rfl) l),(by rw [(show AV.rsl (Qu l) 0 (0+l.length)=AV.rsl (Qu l) 0 l.length from by rw [show (0+l.length)=l.length from by simp])]; exact (u41 (VO f l h3))),(by decide),rfl,rfl,rfl,h4,(by exact QX cDl (fun _=>rfl) l),(by exact QI cDl (fun _=>rfl) l),(by exact Xk cDl (fun _=>rfl) l),(by rw [(show AV.rsl (Qu l) 0 (0+l.length)=AV.rsl (Qu l) 0 l.length from by rw [show (0+l.length)=l.length from by simp])]; exact (u23 (WO f l h5))),(by decide),hc8,hc9,rfl,trivial⟩ (AvLe.of_eq (by rw [h]; try rfl))
                   · have h:=h.2 (bneF hc9)
                     rcases bft ((((((Qj f l).1).csh).length:Nat):Int) != (f.cash.length:Int)) with hc10 | hc10
                     · have h:=h.1 (bneT hc10)
                       exact p10_start_10 f l ws hE ⟨hc0,hc1,hc2,hc3,hc4,hc5,hc6,(u40 (Yc f l h1)),hc7,rfl,rfl,rfl,h2,(by exact QX cDl (fun _=>rfl) l),(by exact QI cDl (fun _=>rfl) l),(by exact Xk cDl (fun _=>rfl) l),(by rw [(show AV.rsl (Qu l) 0 (0+l.length)=AV.rsl (Qu l) 0 l.length from by rw [show (0+l.length)=l.length from by simp])]; exact (u41 (VO f l h3))),(by decide),rfl,rfl,rfl,h4,(by exact QX cDl (fun _=>rfl) l),(by exact QI cDl (fun _=>rfl) l),(by exact Xk cDl (fun _=>rfl) l),(by rw [(show AV.rsl (Qu l) 0 (0+l.length)=AV.rsl (Qu l) 0 l.length from by rw [show (0+l.length)=l.length from by simp])]; exact (u23 (WO f l h5))),(by decide),hc8,hc9,hc10,trivial⟩ (AvLe.of_eq (by rw [h]; try rfl))
                     · have h:=h.2 (bneF hc10)
                       obtain ⟨h6,h⟩:=h
                       obtain ⟨h7,h⟩:=h
                       rcases bft ((QG (((accK f l).1).cash) ws).2 != 0) with hc11 | hc11
                       · have h:=h.1 (bneT hc11)
                         exact p10_start_11 f l ws hE ⟨hc0,hc1,hc2,hc3,hc4,hc5,hc6,(u40 (Yc f l h1)),hc7,rfl,rfl,rfl,h2,(by exact QX cDl (fun _=>rfl) l),(by exact QI cDl (fun _=>rfl) l),(by exact Xk cDl (fun _=>rfl) l),(by rw [(show AV.rsl (Qu l) 0 (0+l.length)=AV.rsl (Qu l) 0 l.length from by rw [show (0+l.length)=l.length from by simp])]; exact (u41 (VO f l h3))),(by decide),rfl,rfl,rfl,h4,(by exact QX cDl (fun _=>rfl) l),(by exact QI cDl (fun _=>rfl) l),(by exact Xk cDl (fun _=>rfl) l),(by rw [(show AV.rsl (Qu l) 0 (0+l.length)=AV.rsl (Qu l) 0 l.length from by rw [show (0+l.length)=l.length from by simp])]; exact (u23 (WO f l h5))),(by decide),hc8,hc9,hc10,rfl,rfl,rfl,h6,(by exact QX cI (fun _=>rfl) ws),(by exact QI cI (fun _=>rfl) ws),(by exact Xk cI (fun _=>rfl) ws),(by rw [(show AV.rsl (rowI ws) 0 (0+ws.length)=AV.rsl (rowI ws) 0 ws.length from by rw [show (0+ws.length)=ws.length from by simp])]; exact (u42 (qm (((accK f l).1).cash) ws h7))),hc11,(u13 (Vv )),trivial⟩ (AvLe.of_eq (by rw [h]; try rfl))
                       · have h:=h.2 (bneF hc11)
                         rcases bft (((((QG (((accK f l).1).cash) ws).1).length:Nat):Int) != (ws.length:Int)) with hc12 | hc12
                         · have h:=h.1 (bneT hc12)
                           exact p10_start_12 f l ws hE ⟨hc0,hc1,hc2,hc3,hc4,hc5,hc6,(u40 (Yc f l h1)),hc7,rfl,rfl,rfl,h2,(by exact QX cDl (fun _=>rfl) l),(by exact QI cDl (fun _=>rfl) l),(by exact Xk cDl (fun _=>rfl) l),(by rw [(show AV.rsl (Qu l) 0 (0+l.length)=AV.rsl (Qu l) 0 l.length from by rw [show (0+l.length)=l.length from by simp])]; exact (u41 (VO f l h3))),(by decide),rfl,rfl,rfl,h4,(by exact QX cDl (fun _=>rfl) l),(by exact QI cDl (fun _=>rfl) l),(by exact Xk cDl (fun _=>rfl) l),(by rw [(show AV.rsl (Qu l) 0 (0+l.length)=AV.rsl (Qu l) 0 l.length from by rw [show (0+l.length)=l.length from by simp])]; exact (u23 (WO f l h5))),(by decide),hc8,hc9,hc10,rfl,rfl,rfl,h6,(by exact QX cI (fun _=>rfl) ws),(by exact QI cI (fun _=>rfl) ws),(by exact Xk cI (fun _=>rfl) ws),(by rw [(show AV.rsl (rowI ws) 0 (0+ws.length)=AV.rsl (rowI ws) 0 ws.length from by rw [show (0+ws.length)=ws.length from by simp])]; exact (u42 (qm (((accK f l).1).cash) ws h7))),hc11,hc12,rfl,trivial⟩ (AvLe.of_eq (by rw [h]; try rfl))
                         · have h:=h.2 (bneF hc12)
                           obtain ⟨h8,h⟩:=h
                           rcases bft ((sumI ((QG (((accK f l).1).cash) ws).1)) != ((accK f l).1).cash) with hc13 | hc13
                           · have h:=h.1 (bneT hc13)
                             exact p10_start_13 f l ws hE ⟨hc0,hc1,hc2,hc3,hc4,hc5,hc6,(u40 (Yc f l h1)),hc7,rfl,rfl,rfl,h2,(by exact QX cDl (fun _=>rfl) l),(by exact QI cDl (fun _=>rfl) l),(by exact Xk cDl (fun _=>rfl) l),(by rw [(show AV.rsl (Qu l) 0 (0+l.length)=AV.rsl (Qu l) 0 l.length from by rw [show (0+l.length)=l.length from by simp])]; exact (u41 (VO f l h3))),(by decide),rfl,rfl,rfl,h4,(by exact QX cDl (fun _=>rfl) l),(by exact QI cDl (fun _=>rfl) l),(by exact Xk cDl (fun _=>rfl) l),(by rw [(show AV.rsl (Qu l) 0 (0+l.length)=AV.rsl (Qu l) 0 l.length from by rw [show (0+l.length)=l.length from by simp])]; exact (u23 (WO f l h5))),(by decide),hc8,hc9,hc10,rfl,rfl,rfl,h6,(by exact QX cI (fun _=>rfl) ws),(by exact QI cI (fun _=>rfl) ws),(by exact Xk cI (fun _=>rfl) ws),(by rw [(show AV.rsl (rowI ws) 0 (0+ws.length)=AV.rsl (rowI ws) 0 ws.length from by rw [show (0+ws.length)=ws.length from by simp])]; exact (u42 (qm (((accK f l).1).cash) ws h7))),hc11,hc12,(u34 (VV ((QG (((accK f l).1).cash) ws).1) h8)),hc13,trivial⟩ (AvLe.of_eq (by rw [h]; try rfl))
                           · have h:=h.2 (bneF hc13)
                             exact p10_start_14 f l ws hE ⟨hc0,hc1,hc2,hc3,hc4,hc5,hc6,(u40 (Yc f l h1)),hc7,rfl,rfl,rfl,h2,(by exact QX cDl (fun _=>rfl) l),(by exact QI cDl (fun _=>rfl) l),(by exact Xk cDl (fun _=>rfl) l),(by rw [(show AV.rsl (Qu l) 0 (0+l.length)=AV.rsl (Qu l) 0 l.length from by rw [show (0+l.length)=l.length from by simp])]; exact (u41 (VO f l h3))),(by decide),rfl,rfl,rfl,h4,(by exact QX cDl (fun _=>rfl) l),(by exact QI cDl (fun _=>rfl) l),(by exact Xk cDl (fun _=>rfl) l),(by rw [(show AV.rsl (Qu l) 0 (0+l.length)=AV.rsl (Qu l) 0 l.length from by rw [show (0+l.length)=l.length from by simp])]; exact (u23 (WO f l h5))),(by decide),hc8,hc9,hc10,rfl,rfl,rfl,h6,(by exact QX cI (fun _=>rfl) ws),(by exact QI cI (fun _=>rfl) ws),(by exact Xk cI (fun _=>rfl) ws),(by rw [(show AV.rsl (rowI ws) 0 (0+ws.length)=AV.rsl (rowI ws) 0 ws.length from by rw [show (0+ws.length)=ws.length from by simp])]; exact (u42 (qm (((accK f l).1).cash) ws h7))),hc11,hc12,(u34 (VV ((QG (((accK f l).1).cash) ws).1) h8)),hc13,trivial⟩ (h 0)
theorem p10_0_0 (f:Fair) (l:(List Dl)) (ws:(List Int)) (v6:List Int) (i:Nat) (g6:Nat) (e:Int) (e1:Int) (e2:Int) {E:Env} {rv:AV} (hE:Qg Try.prog 10 rv E) (ho:AllP [(decide ((i:Int)<((((QG (((accK f l).1).cash) ws).1).length:Nat):Int)))=true,0≤(i:Int)∧(i:Int)<((((QG (((accK f l).1).cash) ws).1).length:Nat):Int),((rowI ((QG (((accK f l).1).cash) ws).1)).drop (0+(Int.toNat (i:Int))*1)).take 1=[.int .i64 e],0≤(i:Int)∧(i:Int)<(((((Qj f l).1).csh).length:Nat):Int),((rowI (((Qj f l).1).csh)).drop (0+(Int.toNat (i:Int))*1)).take 1=[.int .i64 e1],0≤(i:Int)∧(i:Int)<(f.cash.length:Int),((rowI f.cash).drop (0+(Int.toNat (i:Int))*1)).take 1=[.int .i64 e2],InR .i64 (e1 - e2),InR .i64 (e - (e1 - e2)),g6=g6,(0+(v6.length*1))=(rowI v6).length,(v6.length+1)≤2147483648,0=0,InR .i64 ((i:Int)+1)])
 (hg:G Try.prog E (f10K0 Try.prog) ⟨([J,J,J,.ptr 0 0 0]++jj 5 ([.ptr 2 0 0,J,J,J,.rsl (rowI ((QG (((accK f l).1).cash) ws).1)) 0 (((QG (((accK f l).1).cash) ws).1).length),J,.sl 6 (g6+1) 0 (v6.length+1) 1,.int .i64 ((i:Int)+1)]++Js 139)),[⟨true,0,1,true,[.int .i64 f.purses,.int .i64 f.boxes,.rsl (rowI f.stock) 0 f.stock.length,.rsl (rowI f.cash) 0 f.cash.length,.rsl (Qr f.bundles) 0 f.bundles.length,.int .i64 f.refund,.int .i64 f.band,.int .i64 f.hours],false⟩,⟨false,2,5,true,[],false⟩,⟨true,0,1,true,[.rsl (rowI (((Qj f l).1).stk)) 0 ((((Qj f l).1).stk).length),.rsl (rowI (((Qj f l).1).csh)) 0 ((((Qj f l).1).csh).length),.rsl (Qf (((Qj f l).1).prs)) 0 ((((Qj f l).1).prs).length),.rsl (rowI (((Qj f l).1).bxs)) 0 ((((Qj f l).1).bxs).length),.int .i64 (((Qj f l).1).lst)],false⟩,⟨false,2,5,true,[],false⟩,⟨true,0,1,true,[.int .i64 (((accK f l).1).sold),.int .i64 (((accK f l).1).taken),.int .i64 (((accK f l).1).ret),.int .i64 (((accK f l).1).held),.int .i64 (((accK f l).1).lost),.int .i64 (((accK f l).1).cash)],false⟩,⟨false,2,1,true,[],false⟩,⟨true,(g6+1),1,true,((rowI v6)++[.int .i64 (e - (e1 - e2))]),true⟩]⟩):G Try.prog E (f10K0 Try.prog) (f10S0 f l ws v6 i g6) :=
 Ql (n:=400) (ds:=[]) (cs:=[]) (live:=[3,9,13,15,16]) (m:=7) (evs:=[.b true,.ld (.int .i64 e),.auto,.ld (.int .i64 e1),.auto,.ld (.int .i64 e2),.stop]) (obs:=_) hE.2.1 (hE.nogh _) Qp (by kernel_rfl) ho hg
theorem p10_0_1 (f:Fair) (l:(List Dl)) (ws:(List Int)) (v6:List Int) (i:Nat) (g6:Nat) {E:Env} {res:AV} (hE:Qg Try.prog 10 res E) (ho:AllP [(decide ((i:Int)<((((QG (((accK f l).1).cash) ws).1).length:Nat):Int)))=false,Qe Try.prog (.clos 34 [] []) [.rsl (rowI v6) 0 v6.length] (.int .i64 (sumI v6)),g6=g6,((sumI v6) == 0)=true,Qe Try.prog (.clos 43 [] []) [.rsl (rowI v6) 0 v6.length] (.bool (VW v6)),g6=g6,(VW v6)=true,Qe Try.prog (.clos 13 [] []) [] (.bool true)])
 (hr:AvLe (.bool true) res):G Try.prog E (f10K0 Try.prog) (f10S0 f l ws v6 i g6) :=
 Qc (n:=400) (evs:=[.b false,.v (.int .i64 (sumI v6)),.b true,.v (.bool (VW v6)),.b true,.v (.bool true)]) (obs:=_) hE Try.func10 Qp (by kernel_rfl) ho hr
theorem p10_0_2 (f:Fair) (l:(List Dl)) (ws:(List Int)) (v6:List Int) (i:Nat) (g6:Nat) {E:Env} {res:AV} (hE:Qg Try.prog 10 res E) (ho:AllP [(decide ((i:Int)<((((QG (((accK f l).1).cash) ws).1).length:Nat):Int)))=false,Qe Try.prog (.clos 34 [] []) [.rsl (rowI v6) 0 v6.length] (.int .i64 (sumI v6)),g6=g6,((sumI v6) == 0)=true,Qe Try.prog (.clos 43 [] []) [.rsl (rowI v6) 0 v6.length] (.bool (VW v6)),g6=g6,(VW v6)=false])
 (hr:AvLe (.bool false) res):G Try.prog E (f10K0 Try.prog) (f10S0 f l ws v6 i g6) :=
 Qc (n:=400) (evs:=[.b false,.v (.int .i64 (sumI v6)),.b true,.v (.bool (VW v6)),.b false]) (obs:=_) hE Try.func10 Qp (by kernel_rfl) ho hr
theorem p10_0_3 (f:Fair) (l:(List Dl)) (ws:(List Int)) (v6:List Int) (i:Nat) (g6:Nat) {E:Env} {res:AV} (hE:Qg Try.prog 10 res E) (ho:AllP [(decide ((i:Int)<((((QG (((accK f l).1).cash) ws).1).length:Nat):Int)))=false,Qe Try.prog (.clos 34 [] []) [.rsl (rowI v6) 0 v6.length] (.int .i64 (sumI v6)),g6=g6,((sumI v6) == 0)=false,false=false])
 (hr:AvLe (.bool false) res):G Try.prog E (f10K0 Try.prog) (f10S0 f l ws v6 i g6) :=
 Qc (n:=400) (evs:=[.b false,.v (.int .i64 (sumI v6)),.b false,.b false]) (obs:=_) hE Try.func10 Qp (by kernel_rfl) ho hr
theorem f10W0 (f:Fair) (l:(List Dl)) (ws:(List Int)) (v6:List Int) (i:Nat) {E:Env} {rv:Bool} (hE:Qg Try.prog 10 (.bool rv) E)
 (h:(((i:Int)<((((QG (((accK f l).1).cash) ws).1).length:Nat):Int)→(∃ e:Int,((QG (((accK f l).1).cash) ws).1)[i]?=some e∧(∃ e1:Int,(((Qj f l).1).csh)[i]?=some e1∧(∃ e2:Int,f.cash[i]?=some e2∧((I6 (e1 - e2))∧((I6 (e - (e1 - e2)))∧((v6.length+1)≤2147483648∧((I6 ((i:Int)+1))∧f10G0 E f l ws (v6++[(e - (e1 - e2))]) (i+1)))))))))∧(¬ ((i:Int)<((((QG (((accK f l).1).cash) ws).1).length:Nat):Int))→((yr v6)∧(((sumI v6)=0→((v6.length≤1000000)∧(((VW v6)=true→rv=true)∧((VW v6)=false→rv=false))))∧(¬ ((sumI v6)=0)→rv=false)))))):f10G0 E f l ws v6 i:=by
 intro g6
 rcases bft (decide ((i:Int)<((((QG (((accK f l).1).cash) ws).1).length:Nat):Int))) with hc0 | hc0
 · have h:=h.1 (odt hc0)
   obtain ⟨e,h1,h⟩:=h
   obtain ⟨e1,h2,h⟩:=h
   obtain ⟨e2,h3,h⟩:=h
   obtain ⟨q10_1,h⟩:=h
   obtain ⟨q11_1,h⟩:=h
   obtain ⟨h4,h⟩:=h
   obtain ⟨q16_1,h⟩:=h
   refine p10_0_0 f l ws v6 i g6 e e1 e2 hE ⟨hc0,(QF h1),(rp cI 1 0 1 h1),(QF h2),(rp cI 1 0 1 h2),(QF h3),(rp cI 1 0 1 h3),q10_1,q11_1,rfl,(by have hx:=QI cI (s:=1) (fun _=>rfl) v6; simp only [rowI] at hx ⊢; rw [hx]; simp),h4,rfl,q16_1,trivial⟩ ?_
   rw [(show rowI v6++[.int .i64 (e - (e1 - e2))]=rowI (v6++[(e - (e1 - e2))]) from (qw cI v6 [(e - (e1 - e2))]).symm)]; rw [(show (v6.length+1)=(v6++[(e - (e1 - e2))]).length from by simp)]; exact (h (g6+1))
 · have h:=h.2 (odf hc0)
   obtain ⟨h1,h⟩:=h
   rcases bft ((sumI v6) == 0) with hc1 | hc1
   · have h:=h.1 (eq_of_beq hc1)
     obtain ⟨h2,h⟩:=h
     rcases bft (VW v6) with hc2 | hc2
     · have h:=h.1 hc2
       exact p10_0_1 f l ws v6 i g6 hE ⟨hc0,(u34 (VV v6 h1)),rfl,hc1,(u43 (WS v6 h2)),rfl,hc2,(u13 (Vv )),trivial⟩ (AvLe.of_eq (by rw [h]; try rfl))
     · have h:=h.2 hc2
       exact p10_0_2 f l ws v6 i g6 hE ⟨hc0,(u34 (VV v6 h1)),rfl,hc1,(u43 (WS v6 h2)),rfl,hc2,trivial⟩ (AvLe.of_eq (by rw [h]; try rfl))
   · have h:=h.2 (ne_of_beq_false hc1)
     exact p10_0_3 f l ws v6 i g6 hE ⟨hc0,(u34 (VV v6 h1)),rfl,hc1,rfl,trivial⟩ (AvLe.of_eq (by rw [h]; try rfl))
theorem law10_ok (f:Fair) (l:List Dl) (ws:List Int):Pure Try.prog 10 [.agg [.int .i64 f.purses,.int .i64 f.boxes,.rsl (rowI f.stock) 0 f.stock.length,.rsl (rowI f.cash) 0 f.cash.length,.rsl (Qr f.bundles) 0 f.bundles.length,.int .i64 f.refund,.int .i64 f.band,.int .i64 f.hours],.rsl (Qu l) 0 l.length,.rsl (rowI ws) 0 ws.length] (.bool true):=QC Try.func10 f10b fun E hE=>by
 refine f10W f l ws (rv:=true) hE ⟨fun _=>rfl,fun a1=>⟨fun _=>rfl,fun a2=>⟨fun _=>rfl,fun a3=>⟨fun _=>rfl,fun a4=>⟨fun _=>rfl,fun a5=>⟨fun _=>rfl,fun a6=>⟨fun _=>rfl,fun a7=>?_⟩⟩⟩⟩⟩⟩⟩
 have hin:Vs f l:=⟨by omega,by omega,by omega⟩
 refine ⟨hin,fun _=>rfl,fun hp=>⟨by omega,hin,by omega,hin,?_⟩⟩
 obtain ⟨z1,z2,z3,z4⟩:=Qal hp
 have hv:=qG z1
 have eP:Qj f l=(cntT (runT (Qi f) l),0):=by rw [Qj,if_pos hp]
 have eA:(accK f l).1.cash=(runT (Qi f) l).ncash∧(accK f l).2=0:=by rw [accK,if_pos hp]; exact ⟨rfl,rfl⟩
 obtain ⟨c1,c2,c3⟩:=cash_run (Wu z1) z3 (by omega) (fun x hx=>by have:=hv.ca.2 x hx; omega)
 have c3:(runT (Qi f) l).cash.length=f.cash.length:=c3
 have c2:(runT (Qi f) l).cash.sum - (runT (Qi f) l).ncash=f.cash.sum - 0:=c2
 have eC:(Qj f l).1.csh=(runT (Qi f) l).cash:=by rw [eP]; rfl
 refine ⟨fun hn=>absurd (by rw [eP]) hn,fun _=>⟨fun hn=>absurd eA.2 hn,fun _=>⟨fun hn=>absurd (by rw [eC,c3]) hn,fun _=>⟨by omega,by omega,fun _=>rfl,fun hs=>?_⟩⟩⟩⟩
 obtain ⟨ok,es⟩:=splitK_zero hs
 have P:=parts_of ok
 rw [es]
 have hwl:=ok.len
 have hPl:=P.len
 have hPs:=P.sum
 have hc0:=ok.c0
 have hc1:=ok.c1
 generalize hN:(accK f l).1.cash=N at *
 generalize hp2:XQ N ws=p at *
 have es2:(QG (accK f l).1.cash ws).1=p:=by rw [hN]; exact es
 have p0:∀ x ∈ p,0≤x:=fun x hx=>by
  obtain ⟨i,hi,rfl⟩:=List.getElem_of_mem hx
  have hwi:ws[i]?=some ws[i]:=List.getElem?_eq_getElem (by omega)
  have h1:=yz ok.pos ok.c0 (ok.w _ (List.mem_of_getElem? hwi)).1
  rcases P.low i _ _ hwi (List.getElem?_eq_getElem hi) with h3 | h3 <;> omega
 have p1:=le_sum p0
 have so:yr p:=qr (B:=1000000000) (by omega) (by omega) (by omega) fun x hx=>by have:=p0 x hx; have:=p1 x hx; omega
 refine ⟨fun hn=>absurd (by omega) hn,fun _=>⟨so,fun hn=>absurd hPs hn,fun _=>?_⟩⟩
 -- the balances
 have key:∀ (d i:Nat) (v:List Int),i+d=p.length→v.length=i→(∀ x ∈ v,-1000000000≤x∧x≤2000000000)→sumI v=sumI (p.take i) - (sumI ((runT (Qi f) l).cash.take i) - sumI (f.cash.take i))→f10G0 E f l ws v i:=by
  intro d
  induction d with
  | zero =>
   intro i v hd hv2 hb hsum
   rw [List.take_of_length_le (by omega),List.take_of_length_le (by have:=hv.ca.1; omega),List.take_of_length_le (by have:=hv.ca.1; omega)] at hsum
   have hs0:sumI v=0:=by
    unfold sumI at hsum ⊢
    omega
   have hbal:balB v=true:=by
    unfold balB
    rw [show Qk (v.length:Int) 1 10=true from QU.2 (by have:=ok.len1; omega)]
    rw [Bool.true_and,Bool.not_eq_true',List.any_eq_false]
    intro x hx
    have:=hb x hx
    rw [show balN x=true from QU.2 (by omega)]; simp
   have hpe:Xv v=0:=by rw [Xv,if_neg (by rw [hbal]; simp),if_pos hs0]
   refine f10W0 f l ws v i (rv:=true) hE ⟨fun h=>by rw [es2] at h; omega,fun _=>⟨qr (B:=2000000000) (by omega) (by omega) (by omega) (fun x hx=>by have:=hb x hx; omega),fun _=>⟨by omega,fun _=>rfl,fun hf=>?_⟩,fun hn=>absurd hs0 hn⟩⟩
   rw [VW,decide_eq_true hpe] at hf; cases hf
  | succ d ih =>
   intro i v hd hv2 hb hsum
   have hca:=hv.ca.1
   have hlt2:i<(runT (Qi f) l).cash.length:=by omega
   have hlt3:i<f.cash.length:=by omega
   have hi:p[i]?=some p[i]:=List.getElem?_eq_getElem (by omega)
   have hi2:(runT (Qi f) l).cash[i]?=some (runT (Qi f) l).cash[i]:=List.getElem?_eq_getElem hlt2
   have hi3:f.cash[i]?=some f.cash[i]:=List.getElem?_eq_getElem hlt3
   have b1:=p0 _ (List.mem_of_getElem? hi)
   have b1':=p1 _ (List.mem_of_getElem? hi)
   have b2:=c1 _ (List.mem_of_getElem? hi2)
   have b3:=hv.ca.2 _ (List.mem_of_getElem? hi3)
   refine f10W0 f l ws v i (rv:=true) hE ⟨fun _=>⟨p[i],by rw [es2]; exact hi,(runT (Qi f) l).cash[i],by rw [eC]; exact hi2,f.cash[i],hi3,by omega,by omega,by omega,by omega,?_⟩,fun h=>by rw [es2] at h; omega⟩
   refine ih (i+1) _ (by omega) (by simp; omega) (fun x hx=>?_) ?_
   · rcases List.mem_append.1 hx with hx | hx
     · exact hb x hx
     · rw [List.mem_singleton] at hx; subst hx; omega
   · rw [WT hi,WT hi2,WT hi3]
     unfold sumI at hsum ⊢
     rw [List.sum_append]; simp; omega
 exact key p.length 0 [] (by omega) rfl (fun x hx=>by simp at hx) rfl
end Go.Proofs.Ytemklbioijmjiaa
namespace Go.Proofs.Ytemklbioijmjiaa
open Go Ax
open Go.Proofs
theorem ownT:ownKnob Try.prog.godebug=none:=by kernel_rfl
theorem laidT:laidOutB Try.prog=true:=by kernel_rfl
theorem kInts (W:World):Dec Try.prog W 34 (List Int) (fun a=>[.rsl (rowI a) 0 a.length]) (fun a=>a.length≤9223372036854775807):=by
 refine Dec.map (KH Try.underlying34 (n:=1) (by kernel_rfl) (by decide) (fun _=>rfl) (fun _=>rfl) (YI Try.underlying3)) (fun x=>x) ?_ ?_
 · exact fun _=>rfl
 · exact fun _ h=>h.1
theorem kBndl (W:World):Dec Try.prog W 76 Bndl cBd (fun a=>True):=by
 refine Dec.map (qL Try.underlying76 rfl (tot:=2) (by kernel_rfl) (Xn (n:=1) (tot:=2) (by kernel_rfl) rfl (YI Try.underlying3) (Xn (n:=1) (tot:=2) (by kernel_rfl) rfl (YI Try.underlying3) KI (by decide)) (by decide))) (fun x=>(⟨x.1,x.2.1⟩:Bndl)) ?_ ?_
 · exact fun _=>rfl
 · exact fun _ _=>trivial
theorem kBndls (W:World):Dec Try.prog W 70 (List Bndl) (fun a=>[.rsl (Qr a) 0 a.length]) (fun a=>a.length≤9223372036854775807):=by
 refine Dec.map (KH Try.underlying70 (n:=2) (by kernel_rfl) (by decide) (fun _=>rfl) (fun _=>rfl) (kBndl W)) (fun x=>x) ?_ ?_
 · exact fun _=>rfl
 · exact fun _ h=>h.1
theorem kFair (W:World):Dec Try.prog W 72 Fair (fun a=>[.int .i64 a.purses,.int .i64 a.boxes,.rsl (rowI a.stock) 0 a.stock.length,.rsl (rowI a.cash) 0 a.cash.length,.rsl (Qr a.bundles) 0 a.bundles.length,.int .i64 a.refund,.int .i64 a.band,.int .i64 a.hours]) (fun a=>True):=by
 refine Dec.map (qL Try.underlying72 rfl (tot:=8) (by kernel_rfl) (Xn (n:=1) (tot:=8) (by kernel_rfl) rfl (YI Try.underlying3) (Xn (n:=1) (tot:=8) (by kernel_rfl) rfl (YI Try.underlying3) (Xn (n:=1) (tot:=8) (by kernel_rfl) rfl (kInts W) (Xn (n:=1) (tot:=8) (by kernel_rfl) rfl (kInts W) (Xn (n:=1) (tot:=8) (by kernel_rfl) rfl (kBndls W) (Xn (n:=1) (tot:=8) (by kernel_rfl) rfl (YI Try.underlying3) (Xn (n:=1) (tot:=8) (by kernel_rfl) rfl (YI Try.underlying3) (Xn (n:=1) (tot:=8) (by kernel_rfl) rfl (YI Try.underlying3) KI (by decide)) (by decide)) (by decide)) (by decide)) (by decide)) (by decide)) (by decide)) (by decide))) (fun x=>(⟨x.1,x.2.1,x.2.2.1,x.2.2.2.1,x.2.2.2.2.1,x.2.2.2.2.2.1,x.2.2.2.2.2.2.1,x.2.2.2.2.2.2.2.1⟩:Fair)) ?_ ?_
 · exact fun _=>rfl
 · exact fun _ _=>trivial
theorem kDl (W:World):Dec Try.prog W 78 Dl cDl (fun a=>True):=by
 refine Dec.map (qL Try.underlying78 rfl (tot:=5) (by kernel_rfl) (Xn (n:=1) (tot:=5) (by kernel_rfl) rfl (YI Try.underlying3) (Xn (n:=1) (tot:=5) (by kernel_rfl) rfl (YI Try.underlying3) (Xn (n:=1) (tot:=5) (by kernel_rfl) rfl (YI Try.underlying3) (Xn (n:=1) (tot:=5) (by kernel_rfl) rfl (YI Try.underlying3) (Xn (n:=1) (tot:=5) (by kernel_rfl) rfl (YI Try.underlying3) KI (by decide)) (by decide)) (by decide)) (by decide)) (by decide))) (fun x=>(⟨x.1,x.2.1,x.2.2.1,x.2.2.2.1,x.2.2.2.2.1⟩:Dl)) ?_ ?_
 · exact fun _=>rfl
 · exact fun _ _=>trivial
theorem kDls (W:World):Dec Try.prog W 73 (List Dl) (fun a=>[.rsl (Qu a) 0 a.length]) (fun a=>a.length≤9223372036854775807):=by
 refine Dec.map (KH Try.underlying73 (n:=5) (by kernel_rfl) (by decide) (fun _=>rfl) (fun _=>rfl) (kDl W)) (fun x=>x) ?_ ?_
 · exact fun _=>rfl
 · exact fun _ h=>h.1
end Go.Proofs.Ytemklbioijmjiaa