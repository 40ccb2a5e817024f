/- A part of the proof: several texts, one behind the other. -/
import Derived.Test.YtfgmlaeikcfpbaaLStallsDrawsC
import Derived.Defers
set_option linter.unusedVariables false
set_option linter.unusedSimpArgs false
set_option maxRecDepth 100000
namespace Go.Proofs.Ytfgmlaeikcfpbaa
open Go Ax
open Go.Proofs
/-! ### What is so of a machine -/
structure MInv (s:Stl) (i:Nat) (me mu:List Int):Prop where
 l1:me.length=s.stages.length
 l2:mu.length=s.stages.length
 pos:∀ (j:Nat) (v:Int),i≤j→me[j]?=some v→0<v∧v≤1000000000000
 rel:∀ (j:Nat) (x:Stg),i≤j→s.stages[j]?=some x→∃ q,mu[j]?=some q∧me[j]?=some (if x.kind=1 then q*totI x else q)∧(0<q∧q≤1000000000000)∧∀ t ∈ x.turns,me.getD (Int.toNat t.to) 0∣q
theorem getD_set_ne {l:List Int} {i k:Nat} {v:Int} (h:i ≠ k):(l.set i v).getD k 0=l.getD k 0:=by
 simp [List.getD,List.getElem?_set_ne h]
theorem multI_dvd {me:List Int}:∀ {l:List Trn} {m q:Int},(∀ t ∈ l,0<me.getD (Int.toNat t.to) 0)→(0<m∧m≤1000000000000)→YB me m l=some q→(0<q∧q≤1000000000000)∧m∣q∧∀ t ∈ l,me.getD (Int.toNat t.to) 0∣q
 | [],m,q,_,hm,h=>by
  simp only [YB,Option.some.injEq] at h; subst h
  exact ⟨hm,Int.dvd_refl _,by simp⟩
 | t :: l,m,q,hp,hm,h=>by
  simp only [YB] at h
  split at h
  · cases h
  · rename_i h1
    have hv:=hp t (by simp)
    have lp:=Kg hm.1 hv
    obtain ⟨a,b,c⟩:=multI_dvd (fun t ht=>hp t (by simp [ht])) ⟨lp,by omega⟩ h
    have e1:m∣lcmI m (me.getD (Int.toNat t.to) 0):=⟨_,rfl⟩
    have e2:me.getD (Int.toNat t.to) 0∣lcmI m (me.getD (Int.toNat t.to) 0):=⟨Int.tdiv m (gcdI m (me.getD (Int.toNat t.to) 0)),by rw [lcmI,← (lcm_eq hm.1 hv).1,Int.mul_comm]⟩
    refine ⟨a,Int.dvd_trans e1 b,fun t' ht'=>?_⟩
    rcases List.mem_cons.1 ht' with rfl | ht'
    · exact Int.dvd_trans e2 b
    · exact c t' ht'
theorem XA {s:Stl} {i:Nat} {x:Stg} (hi:s.stages[i]?=some x) (hf:QP s i=true):∀ t ∈ x.turns,i<Int.toNat t.to∧Int.toNat t.to<s.stages.length∧0≤t.to:=fun t htm=>by
 rcases XC hi hf with ⟨-,h2,-⟩ | ⟨-,-,-,h4,-,-⟩
 · rw [h2] at htm; simp at htm
 · have:=h4 t htm; omega
theorem minv_step {s:Stl} {i:Nat} {x:Stg} {me mu:List Int} (hform:∀ j,j<s.stages.length→QP s j=true) (hi:s.stages[i]?=some x) (h:MInv s (i+1) me mu) (hk:(QE x i me mu).1=true) :
 MInv s i (QE x i me mu).2.1 (QE x i me mu).2.2:=by
 have hlt:=(List.getElem?_eq_some_iff.1 hi).1
 have hf:=hform i hlt
 obtain ⟨a,b,c⟩:=ql (mu:=mu) hi hf ⟨h.l1,fun j v hj=>h.pos j v hj⟩ hk
 have hto:=XA hi hf
 have hpos:∀ t ∈ x.turns,0<me.getD (Int.toNat t.to) 0:=fun t ht=>by
  have h1:=hto t ht
  have hg:me[Int.toNat t.to]?=some (me[Int.toNat t.to]'(by rw [h.l1]; exact h1.2.1)):=List.getElem?_eq_getElem _
  have:=(h.pos _ _ (by omega) hg).1
  simpa [List.getD,hg] using this
 refine ⟨a,by rw [b,h.l2],fun j v hj=>c j v hj,?_⟩
 cases hm:YB me 1 x.turns with
 | none=>simp [QE,hm] at hk
 | some m =>
  obtain ⟨m1,-,m3⟩:=multI_dvd hpos (by omega) hm
  have hto2:=YI hi hf
  have fin:∀ w:Int,w=(if x.kind=1 then m*totI x else m)→∀ (j:Nat) (y:Stg),i≤j→s.stages[j]?=some y→∃ q,(mu.set i m)[j]?=some q∧(me.set i w)[j]?=some (if y.kind=1 then q*totI y else q)∧(0<q∧q≤1000000000000)∧∀ t ∈ y.turns,(me.set i w).getD (Int.toNat t.to) 0∣q:=fun w hw j y hj hy=>by
   by_cases e:i=j
   · subst e
     rw [hi] at hy; cases hy
     refine ⟨m,by rw [List.getElem?_set_self (by rw [h.l2]; exact hlt)],by rw [List.getElem?_set_self (by rw [h.l1]; exact hlt),hw],m1,fun t ht=>?_⟩
     rw [getD_set_ne (by have:=hto t ht; omega)]
     exact m3 t ht
   · obtain ⟨q,q1,q2,q3,q4⟩:=h.rel j y (by omega) hy
     refine ⟨q,by rw [List.getElem?_set_ne e]; exact q1,by rw [List.getElem?_set_ne e]; exact q2,q3,fun t ht=>?_⟩
     have:=XA hy (hform j (List.getElem?_eq_some_iff.1 hy).1) t ht
     rw [getD_set_ne (by omega)]
     exact q4 t ht
  simp only [QE,hm] at hk ⊢
  by_cases hk1:x.kind=1
  · simp only [if_pos hk1] at hk ⊢
    refine fin _ ?_
    rcases prod_of (a:=m) (b:=totI x) (by omega) (hto2.2 hk1).1 with ⟨h1,-⟩ | ⟨h1,-⟩
    · rw [h1] at hk; cases hk
    · rw [h1,if_pos hk1]
  · simp only [if_neg hk1] at hk ⊢
    exact fin _ (by rw [if_neg hk1])
theorem minv_all {s:Stl} (hform:∀ j,j<s.stages.length→QP s j=true):∀ {n:Nat} {me mu:List Int} {r:List Int × List Int},n≤s.stages.length→MInv s n me mu→Vf s n me mu=some r→MInv s 0 r.1 r.2
 | 0,me,mu,r,_,h,hr=>by simp only [Vf,Option.some.injEq] at hr; subst hr; exact h
 | i+1,me,mu,r,hn,h,hr=>by
  have hi:s.stages[i]?=some s.stages[i]:=List.getElem?_eq_getElem (by omega)
  have hx:s.stages.getD i ⟨0,0,[]⟩=s.stages[i]:=by simp [List.getD,hi]
  simp only [Vf,hx] at hr
  split at hr
  · rename_i hk
    exact minv_all hform (by omega) (minv_step hform hi h hk) hr
  · cases hr
structure MOk (m:Mch):Prop where
 st:Yr m.s=true
 inv:MInv m.s 0 m.meas m.mult
theorem mok_of {s:Stl} {m:Mch} (h:QX s=some m):MOk m∧m.s=s:=by
 unfold QX at h
 split at h
 · rename_i hp
   obtain ⟨r,hr,e⟩:=Option.map_eq_some_iff.1 h
   subst e
   refine ⟨⟨hp,?_⟩,rfl⟩
   refine minv_all (QC hp).2.2.2.2 (Nat.le_refl _) ⟨by simp [Xu],by simp [Xu],fun j v hj hv=>?_,fun j x hj hx=>?_⟩ hr
   · have:=(List.getElem?_eq_some_iff.1 hv).1
     simp [Xu] at this; omega
   · have:=(List.getElem?_eq_some_iff.1 hx).1; omega
 · cases h
/-! ### Worths,stage by stage -/
def Xi (m:Mch) (i:Nat) (vals:List Int) (ts:List Trn):List Int:=ts.map fun t=>vals.getD (Int.toNat t.to) 0*Int.tdiv (m.mult.getD i 0) (m.meas.getD (Int.toNat t.to) 0)
def sumW:List Trn→List Int→Int
 | t :: ts,e :: es=>t.w*e+sumW ts es
 | _,_=>0
def Yf (m:Mch) (w:Int→Int) (ch:Int→List Int→Int) (i:Nat) (p:List Int × List Int):List Int × List Int :=
 if (m.s.stages.getD i ⟨0,0,[]⟩).kind=4 then (if (m.s.stages.getD i ⟨0,0,[]⟩).prize≥0 then (p.1.set i (w (m.s.stages.getD i ⟨0,0,[]⟩).prize),p.2) else p)
 else if (m.s.stages.getD i ⟨0,0,[]⟩).kind=1 then (p.1.set i (p.1.getD i 0+sumW (m.s.stages.getD i ⟨0,0,[]⟩).turns (Xi m i p.1 (m.s.stages.getD i ⟨0,0,[]⟩).turns)),p.2)
 else (p.1.set i ((Xi m i p.1 (m.s.stages.getD i ⟨0,0,[]⟩).turns).getD (Int.toNat (ch i (Xi m i p.1 (m.s.stages.getD i ⟨0,0,[]⟩).turns))) 0),p.2.set i (ch i (Xi m i p.1 (m.s.stages.getD i ⟨0,0,[]⟩).turns)))
def valN (m:Mch) (w:Int→Int) (ch:Int→List Int→Int):Nat→List Int × List Int→List Int × List Int
 | 0,p=>p
 | i+1,p=>valN m w ch i (Yf m w ch i p)
def valA (m:Mch) (w:Int→Int) (ch:Int→List Int→Int):List Int × List Int:=valN m w ch m.s.stages.length (Xu m.s.stages.length,Xu m.s.stages.length)
structure VOk (m:Mch) (i:Nat) (p:List Int × List Int):Prop where
 l1:p.1.length=m.s.stages.length
 l2:p.2.length=m.s.stages.length
 lo:∀ j,j<i→p.1.getD j 0=0
 hi:∀ j u,i≤j→m.meas[j]?=some u→0≤p.1.getD j 0∧p.1.getD j 0≤10000*u
 c0:∀ j,j<i→p.2.getD j 0=0
/-- What is won has a worth that is not too great,and who chooses names a turn. -/
structure WOk (m:Mch) (w:Int→Int) (ch:Int→List Int→Int):Prop where
 w1:∀ n:Int,0≤n→n≤(m.s.worth.length:Int) - 1→0≤w n∧w n≤10000
 c1:∀ (i:Nat) (x:Stg) (l:List Int),m.s.stages[i]?=some x→x.kind ≠ 4→x.kind ≠ 1→l.length=x.turns.length→0<l.length→0≤ch i l∧Int.toNat (ch i l)<l.length
theorem yV:∀ {ts:List Trn} {es:List Int} {B:Int},(∀ e ∈ es,0≤e∧e≤B)→(∀ t ∈ ts,0≤t.w)→ts.length=es.length→0≤sumW ts es∧sumW ts es≤B*(ts.map (·.w)).sum
 | [],es,B,_,_,_=>by simp [sumW]
 | t :: ts,[],B,_,_,h=>by simp at h
 | t :: ts,e :: es,B,he,ht,hl=>by
  have h1:=he e (by simp)
  have h2:=ht t (by simp)
  have ih:=yV (ts:=ts) (es:=es) (B:=B) (fun x hx=>he x (by simp [hx])) (fun x hx=>ht x (by simp [hx])) (by simpa using hl)
  have h3:=Int.mul_nonneg h2 h1.1
  have h4:=Int.mul_le_mul_of_nonneg_left h1.2 h2
  have h5:B*(t.w+(ts.map (·.w)).sum)=t.w*B+B*(ts.map (·.w)).sum:=by rw [Int.mul_add,Int.mul_comm B]
  simp only [sumW,List.map_cons,List.sum_cons,h5]
  omega
theorem next_bd {m:Mch} (hm:MOk m) {i:Nat} {x:Stg} {p:List Int × List Int} (hi:m.s.stages[i]?=some x) (hp:VOk m (i+1) p) {t:Trn} (ht:t ∈ x.turns) :
 ∃ q u,m.mult[i]?=some q∧m.meas[Int.toNat t.to]?=some u∧(0<q∧q≤1000000000000)∧(0<u∧u≤1000000000000)∧Int.tdiv q u*u=q∧0≤Int.tdiv q u∧Int.tdiv q u≤q ∧
  0≤p.1.getD (Int.toNat t.to) 0*Int.tdiv q u∧p.1.getD (Int.toNat t.to) 0*Int.tdiv q u≤10000*q:=by
 have hform:=(QC hm.st).2.2.2.2
 have hto:=XA hi (hform i (List.getElem?_eq_some_iff.1 hi).1) t ht
 obtain ⟨q,q1,q2,q3,q4⟩:=hm.inv.rel i x (by omega) hi
 have hg:m.meas[Int.toNat t.to]?=some (m.meas[Int.toNat t.to]'(by rw [hm.inv.l1]; exact hto.2.1)):=List.getElem?_eq_getElem _
 have hd:=q4 t ht
 have hb:=hm.inv.pos _ _ (by omega) hg
 have hv:=hp.hi _ _ (by omega) hg
 rw [show m.meas.getD (Int.toNat t.to) 0=m.meas[Int.toNat t.to]'(by rw [hm.inv.l1]; exact hto.2.1) by simp [List.getD,hg]] at hd
 generalize m.meas[Int.toNat t.to]'(by rw [hm.inv.l1]; exact hto.2.1)=u at hg hd hb hv
 generalize p.1.getD (Int.toNat t.to) 0=v at hv ⊢
 have e1:Int.tdiv q u=q / u:=Int.tdiv_eq_ediv_of_nonneg (by omega)
 have e2:=Int.ediv_le_self u (show (0:Int)≤q by omega)
 have e3:=Int.ediv_nonneg (show (0:Int)≤q by omega) (show 0≤u by omega)
 have e4:Int.tdiv q u*u=q:=by rw [e1]; exact Int.ediv_mul_cancel hd
 refine ⟨q,u,q1,hg,q3,hb,e4,by omega,by omega,Int.mul_nonneg hv.1 (by omega),?_⟩
 have h1:=Int.mul_le_mul_of_nonneg_right hv.2 (show 0≤Int.tdiv q u by omega)
 have h2:10000*u*Int.tdiv q u=10000*q:=by rw [Int.mul_assoc,Int.mul_comm u,e4]
 omega
theorem WI {m:Mch} (hm:MOk m) {i:Nat} {x:Stg} {p:List Int × List Int} (hi:m.s.stages[i]?=some x) (hp:VOk m (i+1) p) {q:Int} (hq:m.mult[i]?=some q):∀ e ∈ Xi m i p.1 x.turns,0≤e∧e≤10000*q:=fun e he=>by
 obtain ⟨t,ht,rfl⟩:=List.mem_map.1 he
 obtain ⟨q',u,h1,h2,h3,h4,h5,h6,h7,h8,h9⟩:=next_bd hm hi hp ht
 rw [hq] at h1; cases h1
 rw [show m.mult.getD i 0=q by simp [List.getD,hq],show m.meas.getD (Int.toNat t.to) 0=u by simp [List.getD,h2]]
 exact ⟨h8,h9⟩
theorem sum_bd {m:Mch} (hm:MOk m) {i:Nat} {x:Stg} {p:List Int × List Int} (hi:m.s.stages[i]?=some x) (hp:VOk m (i+1) p) (hk:x.kind=1) {u:Int} (hu:m.meas[i]?=some u) :
 0≤sumW x.turns (Xi m i p.1 x.turns)∧sumW x.turns (Xi m i p.1 x.turns)≤10000*u:=by
 have hform:=(QC hm.st).2.2.2.2
 have hto:=(YI hi (hform i (List.getElem?_eq_some_iff.1 hi).1)).1.2
 obtain ⟨q,q1,q2,q3,q4⟩:=hm.inv.rel i x (by omega) hi
 rw [hu,if_pos hk] at q2; cases q2
 have:=yV (WI hm hi hp q1) (fun t ht=>(hto t ht).1) (by simp [Xi])
 rw [Int.mul_assoc] at this
 exact this
theorem YC {l:List Int} {i:Nat} {v:Int} (h:i<l.length):(l.set i v).getD i 0=v:=by simp [List.getD,List.getElem?_set_self h]
theorem vok_set {m:Mch} {i:Nat} {p:List Int × List Int} {v c:Int} (hlt:i<m.s.stages.length) (hp:VOk m (i+1) p) (h:∀ u,m.meas[i]?=some u→0≤v∧v≤10000*u):VOk m i (p.1.set i v,p.2.set i c)∧VOk m i (p.1.set i v,p.2):=by
 have hi:∀ j u,i≤j→m.meas[j]?=some u→0≤(p.1.set i v).getD j 0∧(p.1.set i v).getD j 0≤10000*u:=fun j u hj hu=>by
  by_cases e:i=j
  · subst e; rw [YC (by rw [hp.l1]; exact hlt)]; exact h u hu
  · rw [getD_set_ne e]; exact hp.hi j u (by omega) hu
 have lo:∀ j,j<i→(p.1.set i v).getD j 0=0:=fun j hj=>by rw [getD_set_ne (by omega)]; exact hp.lo j (by omega)
 exact ⟨⟨by simp [hp.l1],by simp [hp.l2],lo,hi,fun j hj=>by rw [getD_set_ne (by omega)]; exact hp.c0 j (by omega)⟩,⟨by simp [hp.l1],hp.l2,lo,hi,fun j hj=>hp.c0 j (by omega)⟩⟩
theorem vok_same {m:Mch} (hm:MOk m) {i:Nat} {p:List Int × List Int} (hp:VOk m (i+1) p):VOk m i p:=by
 refine ⟨hp.l1,hp.l2,fun j hj=>hp.lo j (by omega),fun j u hj hu=>?_,fun j hj=>hp.c0 j (by omega)⟩
 by_cases e:i=j
 · subst e
   rw [hp.lo i (by omega)]
   have:=(hm.inv.pos i u (by omega) hu).1
   omega
 · exact hp.hi j u (by omega) hu
theorem WD {m:Mch} (hm:MOk m) {w:Int→Int} {ch:Int→List Int→Int} (hw:WOk m w ch) {i:Nat} {p:List Int × List Int} (hlt:i<m.s.stages.length) (hp:VOk m (i+1) p):VOk m i (Yf m w ch i p):=by
 have hform:=(QC hm.st).2.2.2.2
 have hi:m.s.stages[i]?=some m.s.stages[i]:=List.getElem?_eq_getElem hlt
 have hx:m.s.stages.getD i ⟨0,0,[]⟩=m.s.stages[i]:=by simp [List.getD,hi]
 unfold Yf
 rw [hx]
 have hfo:=XC hi (hform i hlt)
 generalize m.s.stages[i]=x at hi hx hfo
 split
 · rename_i h4
   split
   · rename_i hpr
     rcases hfo with ⟨-,-,h3⟩ | ⟨h1,-⟩
     · refine (vok_set (c:=0) hlt hp fun u hu=>?_).2
       have h1:=hw.w1 x.prize hpr h3.2
       have h2:=(hm.inv.pos i u (by omega) hu).1
       omega
     · omega
   · exact vok_same hm hp
 · rename_i h4
   split
   · rename_i h1
     refine (vok_set (c:=0) hlt hp fun u hu=>?_).2
     have:=sum_bd hm hi hp h1 hu
     rw [hp.lo i (by omega)]
     omega
   · rename_i h1
     refine (vok_set hlt hp fun u hu=>?_).1
     obtain ⟨q,q1,q2,q3,q4⟩:=hm.inv.rel i x (by omega) hi
     rw [hu,if_neg h1] at q2; cases q2
     have hl:(Xi m i p.1 x.turns).length=x.turns.length:=by simp [Xi]
     have hpos:0<(Xi m i p.1 x.turns).length:=by
      rcases hfo with ⟨h,-⟩ | ⟨-,-,h,-⟩
      · exact absurd h h4
      · omega
     have hc:=hw.c1 i x _ hi h4 h1 hl hpos
     generalize ch i (Xi m i p.1 x.turns)=c at hc
     have hg:(Xi m i p.1 x.turns)[Int.toNat c]?=some (Xi m i p.1 x.turns)[Int.toNat c]:=List.getElem?_eq_getElem hc.2
     have:=WI hm hi hp q1 _ (List.mem_of_getElem? hg)
     simpa [List.getD,hg] using this
theorem yS {m:Mch} (hm:MOk m):VOk m m.s.stages.length (Xu m.s.stages.length,Xu m.s.stages.length):=by
 have hz:∀ j,(Xu m.s.stages.length).getD j 0=0:=fun j=>by
  simp only [Xu,List.getD,List.getElem?_replicate]
  split <;> rfl
 refine ⟨by simp [Xu],by simp [Xu],fun j _=>hz j,fun j u hj hu=>?_,fun j _=>hz j⟩
 have:=(List.getElem?_eq_some_iff.1 hu).1
 rw [hm.inv.l1] at this; omega
theorem val_okN {m:Mch} (hm:MOk m) {w:Int→Int} {ch:Int→List Int→Int} (hw:WOk m w ch):∀ {n:Nat} {p:List Int × List Int},n≤m.s.stages.length→VOk m n p→VOk m 0 (valN m w ch n p)
 | 0,p,_,h=>h
 | i+1,p,hn,h=>(val_okN hm hw (n:=i) (by omega) (WD hm hw (by omega) h):VOk m 0 (valN m w ch i (Yf m w ch i p)))
theorem val_okA {m:Mch} (hm:MOk m) {w:Int→Int} {ch:Int→List Int→Int} (hw:WOk m w ch):VOk m 0 (valA m w ch):=val_okN hm hw (Nat.le_refl _) (yS hm)
/-! ### Choosers -/
theorem idxV_mem {l:List Int} {v:Int} (h:v ∈ l):0≤idxV l v∧Int.toNat (idxV l v)<l.length∧l[Int.toNat (idxV l v)]?=some v∧∀ j e,j<Int.toNat (idxV l v)→l[j]?=some e→e ≠ v:=by
 unfold idxV idxG
 cases hf:l.findIdx? (fun e=>decide (v=e)) with
 | none =>
  have:=List.findIdx?_eq_none_iff.1 hf v h
  simp at this
 | some k =>
  obtain ⟨h1,h2,h3⟩:=List.findIdx?_eq_some_iff_getElem.1 hf
  simp only [Int.toNat_natCast]
  refine ⟨by omega,h1,?_,fun j e hj he=>?_⟩
  · rw [List.getElem?_eq_getElem h1]
    have:=of_decide_eq_true h2
    rw [this]
  · obtain ⟨h4,h5⟩:=List.getElem?_eq_some_iff.1 he
    have:=h3 j hj
    rw [h5] at this
    intro h6
    simp [h6] at this
theorem maxF_mem:∀ {l:List Int} {m:Int},(maxF m l=m ∨ maxF m l ∈ l)∧m≤maxF m l∧∀ e ∈ l,e≤maxF m l
 | [],m=>by simp [maxF]
 | x :: l,m=>by
  obtain ⟨h1,h2,h3⟩:=maxF_mem (l:=l) (m:=iMax m x)
  have hm:iMax m x=if x > m then x else m:=rfl
  simp only [maxF]
  refine ⟨?_,by split at hm <;> omega,fun e he=>?_⟩
  · rcases h1 with h1 | h1
    · split at hm
      · right; rw [h1,hm]; simp
      · left; rw [h1,hm]
    · right; exact List.mem_cons_of_mem _ h1
  · rcases List.mem_cons.1 he with rfl | he
    · split at hm <;> omega
    · exact h3 e he
theorem minF_mem:∀ {l:List Int} {m:Int},(minF m l=m ∨ minF m l ∈ l)∧minF m l≤m∧∀ e ∈ l,minF m l≤e
 | [],m=>by simp [minF]
 | x :: l,m=>by
  obtain ⟨h1,h2,h3⟩:=minF_mem (l:=l) (m:=iMin m x)
  have hm:iMin m x=if x<m then x else m:=rfl
  simp only [minF]
  refine ⟨?_,by split at hm <;> omega,fun e he=>?_⟩
  · rcases h1 with h1 | h1
    · split at hm
      · right; rw [h1,hm]; simp
      · left; rw [h1,hm]
    · right; exact List.mem_cons_of_mem _ h1
  · rcases List.mem_cons.1 he with rfl | he
    · split at hm <;> omega
    · exact h3 e he
theorem maxI_mem {l:List Int} (h:0<l.length):maxI l ∈ l∧∀ e ∈ l,e≤maxI l:=by
 cases l with
 | nil=>simp at h
 | cons x l =>
  obtain ⟨h1,h2,h3⟩:=maxF_mem (l:=l) (m:=x)
  simp only [maxI,List.getD,List.getElem?_cons_zero,Option.getD_some,List.drop_succ_cons,List.drop_zero]
  refine ⟨?_,fun e he=>?_⟩
  · rcases h1 with h1 | h1
    · rw [h1]; simp
    · exact List.mem_cons_of_mem _ h1
  · rcases List.mem_cons.1 he with rfl | he
    · exact h2
    · exact h3 e he
theorem minI_mem {l:List Int} (h:0<l.length):minI l ∈ l∧∀ e ∈ l,minI l≤e:=by
 cases l with
 | nil=>simp at h
 | cons x l =>
  obtain ⟨h1,h2,h3⟩:=minF_mem (l:=l) (m:=x)
  simp only [minI,List.getD,List.getElem?_cons_zero,Option.getD_some,List.drop_succ_cons,List.drop_zero]
  refine ⟨?_,fun e he=>?_⟩
  · rcases h1 with h1 | h1
    · rw [h1]; simp
    · exact List.mem_cons_of_mem _ h1
  · rcases List.mem_cons.1 he with rfl | he
    · exact h2
    · exact h3 e he
theorem choose_in {m:Mch} {pa oa i:Int} {l:List Int} (h:0<l.length):0≤Qo m pa oa i l∧Int.toNat (Qo m pa oa i l)<l.length:=by
 unfold Qo
 generalize (if (m.s.stages.getD (Int.toNat i) ⟨0,0,[]⟩).kind=3 then oa else pa)=a
 split
 · have:=idxV_mem (maxI_mem h).1; exact ⟨this.1,this.2.1⟩
 · have:=idxV_mem (minI_mem h).1; exact ⟨this.1,this.2.1⟩
/-! ### Plans -/
def QH (x:Stg):Int:=if x.kind=2 ∨ x.kind=3 then (x.turns.length:Int) - 1 else 0
def Qw (s:Stl) (l:List Int):Bool:=decide (l.length=s.stages.length) && (List.range l.length).all fun i=>Qa (l.getD i 0) 0 (QH (s.stages.getD i ⟨0,0,[]⟩))
theorem YP {s:Stl} {l:List Int} (h:Qw s l=true):l.length=s.stages.length∧∀ (i:Nat) (x:Stg),s.stages[i]?=some x→∃ v,l[i]?=some v∧0≤v∧v≤QH x:=by
 simp only [Qw,Bool.and_eq_true,decide_eq_true_eq] at h
 refine ⟨h.1,fun i x hx=>?_⟩
 have hlt:=(List.getElem?_eq_some_iff.1 hx).1
 have:=List.all_eq_true.1 h.2 i (List.mem_range.2 (by omega))
 have hg:l[i]?=some (l[i]'(by omega)):=List.getElem?_eq_getElem (by omega)
 have:=Qz.1 this
 rw [show l.getD i 0=l[i]'(by omega) by simp [List.getD,hg],show s.stages.getD i ⟨0,0,[]⟩=x by simp [List.getD,hx]] at this
 exact ⟨_,hg,this.1,this.2⟩
theorem wok_only {m:Mch} {kd pa oa:Int}:WOk m (Qu kd) (Qo m pa oa) :=
 ⟨fun n _ _=>by unfold Qu; split <;> omega,fun i x l _ _ _ _ h=>choose_in h⟩
theorem worth_ok {m:Mch} (hm:MOk m):∀ n:Int,0≤n→n≤(m.s.worth.length:Int) - 1→0≤WT m n∧WT m n≤10000:=fun n h1 h2=>by
 have hg:m.s.worth[Int.toNat n]?=some (m.s.worth[Int.toNat n]'(by omega)):=List.getElem?_eq_getElem (by omega)
 rw [show WT m n=m.s.worth[Int.toNat n]'(by omega) by simp [WT,List.getD,hg]]
 exact (QC hm.st).2.2.1 _ (List.mem_of_getElem? hg)
theorem wok_worth {m:Mch} (hm:MOk m) {pa oa:Int}:WOk m (WT m) (Qo m pa oa) :=
 ⟨worth_ok hm,fun i x l _ _ _ _ h=>choose_in h⟩
theorem plan_in {m:Mch} {plan:List Int} (hp:Qw m.s plan=true):∀ (i:Nat) (x:Stg) (l:List Int),m.s.stages[i]?=some x→x.kind ≠ 4→x.kind ≠ 1→l.length=x.turns.length→0<l.length→0≤Qx plan i∧Int.toNat (Qx plan i)<l.length:=fun i x l hx h4 h1 hl h0=>by
 obtain ⟨v,hv,h2,h3⟩:=(YP hp).2 i x hx
 have e:Qx plan i=v:=by simp [Qx,List.getD,hv]
 rw [e]
 unfold QH at h3
 split at h3 <;> omega
theorem WB {m:Mch} {kd:Int} {plan:List Int} (hp:Qw m.s plan=true):WOk m (Qu kd) (fun i _=>Qx plan i) :=
 ⟨fun n _ _=>by unfold Qu; split <;> omega,plan_in hp⟩
theorem getD_some {l:List Int} {i:Nat} (h:i<l.length):l[i]?=some (l.getD i 0):=by
 have hg:l[i]?=some l[i]:=List.getElem?_eq_getElem h
 simp [List.getD,hg]
theorem Xv {l:List Int} {i:Nat} {v:Int} (h:l[i]?=some v):l.getD i 0=v:=by simp [List.getD,h]
theorem next_snoc {m:Mch} {i:Nat} {v:List Int} {l:List Trn} {k:Nat} {t:Trn} (h:l[k]?=some t) :
 Xi m i v (l.take (k+1))=Xi m i v (l.take k)++[v.getD (Int.toNat t.to) 0*Int.tdiv (m.mult.getD i 0) (m.meas.getD (Int.toNat t.to) 0)]:=by
 rw [List.take_add_one,h]
 simp [Xi]
theorem yX {l:List Int} {i:Nat} {v:Int} (h:l[i]?=some v):l.set i v=l:=by
 apply List.ext_getElem?
 intro j
 by_cases e:i=j
 · subst e; rw [List.getElem?_set_self (List.getElem?_eq_some_iff.1 h).1,h]
 · rw [List.getElem?_set_ne e]
theorem f83ob:Try.f83.body=some (Qe Try.prog 83):=by kernel_rfl
def Ve (P:Program):List Item:=kAt 400 [.code (Qe P 83)] [.stop]
def Wp (m:Mch) (kd pa oa:Int) (v0:List Int) (v1:List Int) (i:Int) (g0:Nat) (g1:Nat):St:=⟨([.rptr [.rsl (Qd m.s.stages) 0 m.s.stages.length,.rsl (rowI m.s.worth) 0 m.s.worth.length,.int .i64 m.s.price,.rsl (rowI m.meas) 0 m.meas.length,.rsl (rowI m.mult) 0 m.mult.length] 0,.clos 113 [] [.rptr [.int .i64 kd] 0],.clos 114 [] [.rptr [.int .i64 pa] 0,.rptr [.rptr [.rsl (Qd m.s.stages) 0 m.s.stages.length,.rsl (rowI m.s.worth) 0 m.s.worth.length,.int .i64 m.s.price,.rsl (rowI m.meas) 0 m.meas.length,.rsl (rowI m.mult) 0 m.mult.length] 0] 0,.rptr [.int .i64 oa] 0],J,J,J,.sl 0 g0 0 v0.length 1,.sl 1 g1 0 v1.length 1,.int .i64 i]++Js 129),[⟨true,g0,1,true,(rowI v0),true⟩,⟨true,g1,1,true,(rowI v1),true⟩]⟩
def VB (E:Env) (m:Mch) (kd pa oa:Int) (v0:List Int) (v1:List Int) (i:Int):Prop:=∀ g0 g1:Nat,G Try.prog E (Ve Try.prog) (Wp m kd pa oa v0 v1 i g0 g1)
def yF (P:Program):List Item:=kAt 400 [.code (Qe P 83)] [.b true,.b false,.stop]
def f83oS1 (m:Mch) (kd pa oa:Int) (i:Int) (k:(List Trn)) (k1:Nat) (v0:List Int) (v1:List Int) (v2_0:Int) (v2_1:Int) (v2_2:(List Trn)) (v3:List Int) (k11:Nat) (g0:Nat) (g1:Nat) (g3:Nat):St:=⟨([.rptr [.rsl (Qd m.s.stages) 0 m.s.stages.length,.rsl (rowI m.s.worth) 0 m.s.worth.length,.int .i64 m.s.price,.rsl (rowI m.meas) 0 m.meas.length,.rsl (rowI m.mult) 0 m.mult.length] 0,.clos 113 [] [.rptr [.int .i64 kd] 0],.clos 114 [] [.rptr [.int .i64 pa] 0,.rptr [.rptr [.rsl (Qd m.s.stages) 0 m.s.stages.length,.rsl (rowI m.s.worth) 0 m.s.worth.length,.int .i64 m.s.price,.rsl (rowI m.meas) 0 m.meas.length,.rsl (rowI m.mult) 0 m.mult.length] 0] 0,.rptr [.int .i64 oa] 0],J,J,J,.sl 0 g0 0 v0.length 1,.sl 1 g1 0 v1.length 1,.int .i64 i,.ptr 2 0 0,.sl 3 g3 0 v3.length 1]++jj 51 ([.rsl (Qk k) 0 k.length,.int .i64 (k1:Int),.int .i64 (k11:Int)]++Js 73)),[⟨true,g0,1,true,(rowI v0),true⟩,⟨true,g1,1,true,(rowI v1),true⟩,⟨true,0,1,true,[.int .i64 v2_0,.int .i64 v2_1,.rsl (Qk v2_2) 0 v2_2.length],false⟩,⟨true,g3,1,true,(rowI v3),true⟩]⟩
def f83oG1 (E:Env) (m:Mch) (kd pa oa:Int) (i:Int) (k:(List Trn)) (k1:Nat) (v0:List Int) (v1:List Int) (v2_0:Int) (v2_1:Int) (v2_2:(List Trn)) (v3:List Int) (k11:Nat):Prop:=∀ g0 g1 g3:Nat,G Try.prog E (yF Try.prog) (f83oS1 m kd pa oa i k k1 v0 v1 v2_0 v2_1 v2_2 v3 k11 g0 g1 g3)
def f83oK2 (P:Program):List Item:=kAt 400 [.code (Qe P 83)] [.b true,.b false,.b false,.b true,.stop]
def f83oS2 (m:Mch) (kd pa oa:Int) (i:Int) (j:(List Trn)) (j1:Nat) (v0:List Int) (v1:List Int) (v2_0:Int) (v2_1:Int) (v2_2:(List Trn)) (v3:List Int) (j11:Nat) (g0:Nat) (g1:Nat) (g3:Nat):St:=⟨([.rptr [.rsl (Qd m.s.stages) 0 m.s.stages.length,.rsl (rowI m.s.worth) 0 m.s.worth.length,.int .i64 m.s.price,.rsl (rowI m.meas) 0 m.meas.length,.rsl (rowI m.mult) 0 m.mult.length] 0,.clos 113 [] [.rptr [.int .i64 kd] 0],.clos 114 [] [.rptr [.int .i64 pa] 0,.rptr [.rptr [.rsl (Qd m.s.stages) 0 m.s.stages.length,.rsl (rowI m.s.worth) 0 m.s.worth.length,.int .i64 m.s.price,.rsl (rowI m.meas) 0 m.meas.length,.rsl (rowI m.mult) 0 m.mult.length] 0] 0,.rptr [.int .i64 oa] 0],J,J,J,.sl 0 g0 0 v0.length 1,.sl 1 g1 0 v1.length 1,.int .i64 i,J,.sl 3 g3 0 v3.length 1]++jj 87 ([.rsl (Qk j) 0 j.length,.int .i64 (j1:Int),.int .i64 (j11:Int)]++Js 37)),[⟨true,g0,1,true,(rowI v0),true⟩,⟨true,g1,1,true,(rowI v1),true⟩,⟨true,0,1,true,[.int .i64 v2_0,.int .i64 v2_1,.rsl (Qk v2_2) 0 v2_2.length],false⟩,⟨true,g3,1,true,(rowI v3),true⟩]⟩
def f83oG2 (E:Env) (m:Mch) (kd pa oa:Int) (i:Int) (j:(List Trn)) (j1:Nat) (v0:List Int) (v1:List Int) (v2_0:Int) (v2_1:Int) (v2_2:(List Trn)) (v3:List Int) (j11:Nat):Prop:=∀ g0 g1 g3:Nat,G Try.prog E (f83oK2 Try.prog) (f83oS2 m kd pa oa i j j1 v0 v1 v2_0 v2_1 v2_2 v3 j11 g0 g1 g3)
abbrev WP (m:Mch):List AV:=[.rsl (Qd m.s.stages) 0 m.s.stages.length,.rsl (rowI m.s.worth) 0 m.s.worth.length,.int .i64 m.s.price,.rsl (rowI m.meas) 0 m.meas.length,.rsl (rowI m.mult) 0 m.mult.length]
abbrev WO (se:Stg):List AV:=[.int .i64 se.kind,.int .i64 se.prize,.rsl (Qk se.turns) 0 se.turns.length]
abbrev ye (pa:Int) (m:Mch) (oa:Int):List AV:=[.rptr [.int .i64 pa] 0,.rptr [.rptr (WP m) 0] 0,.rptr [.int .i64 oa] 0]
abbrev z83o_4 (m:Mch) (kd:Int) (pa:Int) (oa:Int) (g0:Nat) (v0:List Int) (g1:Nat) (v1:List Int) (i:Int):List AV:=[.rptr (WP m) 0,.clos 113 [] [.rptr [.int .i64 kd] 0],.clos 114 [] (ye pa m oa),J,J,J,.sl 0 g0 0 v0.length 1,.sl 1 g1 0 v1.length 1,.int .i64 (i - 1)]++Js 129
theorem p83o_start_0 (m:Mch) (kd pa oa:Int) {E:Env} {rv:AV} (hE:Qf Try.prog 83 rv E) (ho:AllP [0≤(m.s.stages.length:Int)∧(m.s.stages.length:Int)≤(m.s.stages.length:Int)∧(m.s.stages.length:Int)≤2147483648,0≤(m.s.stages.length:Int)∧(m.s.stages.length:Int)≤(m.s.stages.length:Int)∧(m.s.stages.length:Int)≤2147483648,InR .i64 ((m.s.stages.length:Int) - 1)])
 (hg:G Try.prog E (Ve Try.prog) ⟨([.rptr (WP m) 0,.clos 113 [] [.rptr [.int .i64 kd] 0],.clos 114 [] (ye pa m oa),J,J,J,.sl 0 0 0 (Int.toNat (m.s.stages.length:Int)) 1,.sl 1 0 0 (Int.toNat (m.s.stages.length:Int)) 1,.int .i64 ((m.s.stages.length:Int) - 1)]++Js 129),[⟨true,0,1,true,((List.replicate (Int.toNat (m.s.stages.length:Int)) ([.int .i64 0]:List AV)).flatten),true⟩,⟨true,0,1,true,((List.replicate (Int.toNat (m.s.stages.length:Int)) ([.int .i64 0]:List AV)).flatten),true⟩]⟩):G Try.prog E [.code (Qe Try.prog 83)] ⟨[.rptr (WP m) 0,.clos 113 [] [.rptr [.int .i64 kd] 0],.clos 114 [] (ye pa m oa)]++unds (Try.f83.ntmps - 3),[]⟩ :=
 Qh (n:=400) (ds:=[]) (cs:=[]) (live:=[0,1,2,6,7,8]) (m:=2) (evs:=[.stop]) (obs:=_) hE.2.1 (hE.nogh _) Qi (by kernel_rfl) ho hg
theorem f83oW (m:Mch) (kd pa oa:Int) {E:Env} {rv:((List Int) × (List Int))} (hE:Qf Try.prog 83 (.tup [.rsl (rowI rv.1) 0 rv.1.length,.rsl (rowI rv.2) 0 rv.2.length]) E)
 (h:(m.s.stages.length≤2147483648∧(m.s.stages.length≤2147483648∧((I6 ((m.s.stages.length:Int) - 1))∧VB E m kd pa oa (List.replicate m.s.stages.length (0:Int)) (List.replicate m.s.stages.length (0:Int)) ((m.s.stages.length:Int) - 1))))):G Try.prog E [.code (Qe Try.prog 83)] ⟨[.rptr [.rsl (Qd m.s.stages) 0 m.s.stages.length,.rsl (rowI m.s.worth) 0 m.s.worth.length,.int .i64 m.s.price,.rsl (rowI m.meas) 0 m.meas.length,.rsl (rowI m.mult) 0 m.mult.length] 0,.clos 113 [] [.rptr [.int .i64 kd] 0],.clos 114 [] [.rptr [.int .i64 pa] 0,.rptr [.rptr [.rsl (Qd m.s.stages) 0 m.s.stages.length,.rsl (rowI m.s.worth) 0 m.s.worth.length,.int .i64 m.s.price,.rsl (rowI m.meas) 0 m.meas.length,.rsl (rowI m.mult) 0 m.mult.length] 0] 0,.rptr [.int .i64 oa] 0]]++unds (Try.f83.ntmps - 3),[]⟩:=by
 obtain ⟨h1,h⟩:=h
 obtain ⟨h2,h⟩:=h
 obtain ⟨q2_0,h⟩:=h
 refine p83o_start_0 m kd pa oa hE ⟨⟨by omega,by omega,by have:=h1; omega⟩,⟨by omega,by omega,by have:=h2; omega⟩,q2_0,trivial⟩ ?_
 have h:=(h 0 0)
 simp only [VB,Wp,List.length_set,List.length_replicate] at h
 rw [(show (List.replicate (Int.toNat (m.s.stages.length:Int)) ([.int .i64 0]:List AV)).flatten=rowI (List.replicate m.s.stages.length (0:Int)) from WY cI _ _)]
 exact h
theorem p83o_0_0 (m:Mch) (kd pa oa:Int) (v0:List Int) (v1:List Int) (i:Int) (g0:Nat) (g1:Nat) (se:Stg) (e:Int) {E:Env} {rv:AV} (hE:Qf Try.prog 83 rv E) (ho:AllP [(decide (i≥0))=true,0≤i∧i<(m.s.stages.length:Int),((Qd m.s.stages).drop (0+(Int.toNat i)*3)).take 3=(WO se),3≤3,(se.kind == 4)=true,(decide (se.prize≥0))=true,Qg Try.prog (.clos 113 [] [.rptr [.int .i64 kd] 0]) [.int .i64 se.prize] (.int .i64 (Qu kd se.prize)),0≤i∧i<(v0.length:Int),g0=g0,((0+(Int.toNat i)*1)+1)≤(rowI v0).length,g0=g0,InR .i64 (i - 1)])
 (hg:G Try.prog E (Ve Try.prog) ⟨(z83o_4 m kd pa oa g0 v0 g1 v1 i),[⟨true,g0,1,true,(QD (rowI v0) (0+(Int.toNat i)*1) [.int .i64 (Qu kd se.prize)]),true⟩,⟨true,g1,1,true,(rowI v1),true⟩]⟩):G Try.prog E (Ve Try.prog) (Wp m kd pa oa v0 v1 i g0 g1) :=
 Qh (n:=400) (ds:=[]) (cs:=[]) (live:=[0,1,2,6,7,8]) (m:=2) (evs:=[.b true,.auto,.ld (.agg (WO se)),.b true,.b true,.v (.int .i64 (Qu kd se.prize)),.stop]) (obs:=_) hE.2.1 (hE.nogh _) Qi (by kernel_rfl) ho hg
theorem p83o_0_1 (m:Mch) (kd pa oa:Int) (v0:List Int) (v1:List Int) (i:Int) (g0:Nat) (g1:Nat) (se:Stg) {E:Env} {rv:AV} (hE:Qf Try.prog 83 rv E) (ho:AllP [(decide (i≥0))=true,0≤i∧i<(m.s.stages.length:Int),((Qd m.s.stages).drop (0+(Int.toNat i)*3)).take 3=(WO se),3≤3,(se.kind == 4)=true,(decide (se.prize≥0))=false,InR .i64 (i - 1)])
 (hg:G Try.prog E (Ve Try.prog) ⟨(z83o_4 m kd pa oa g0 v0 g1 v1 i),[⟨true,g0,1,true,(rowI v0),true⟩,⟨true,g1,1,true,(rowI v1),true⟩]⟩):G Try.prog E (Ve Try.prog) (Wp m kd pa oa v0 v1 i g0 g1) :=
 Qh (n:=400) (ds:=[]) (cs:=[]) (live:=[0,1,2,6,7,8]) (m:=2) (evs:=[.b true,.auto,.ld (.agg (WO se)),.b true,.b false,.stop]) (obs:=_) hE.2.1 (hE.nogh _) Qi (by kernel_rfl) ho hg
theorem p83o_0_2 (m:Mch) (kd pa oa:Int) (v0:List Int) (v1:List Int) (i:Int) (g0:Nat) (g1:Nat) (se:Stg) {E:Env} {rv:AV} (hE:Qf Try.prog 83 rv E) (ho:AllP [(decide (i≥0))=true,0≤i∧i<(m.s.stages.length:Int),((Qd m.s.stages).drop (0+(Int.toNat i)*3)).take 3=(WO se),3≤3,(se.kind == 4)=false])
 (hg:G Try.prog E (yF Try.prog) ⟨([.rptr (WP m) 0,.clos 113 [] [.rptr [.int .i64 kd] 0],.clos 114 [] (ye pa m oa),J,J,J,.sl 0 g0 0 v0.length 1,.sl 1 g1 0 v1.length 1,.int .i64 i,.ptr 2 0 0,.sl 3 0 0 0 1]++jj 51 ([.rsl (Qk se.turns) 0 se.turns.length,.int .i64 (se.turns.length:Int),.int .i64 0]++Js 73)),[⟨true,g0,1,true,(rowI v0),true⟩,⟨true,g1,1,true,(rowI v1),true⟩,⟨true,0,1,true,(WO se),false⟩,⟨true,0,1,true,[],true⟩]⟩):G Try.prog E (Ve Try.prog) (Wp m kd pa oa v0 v1 i g0 g1) :=
 Qh (n:=400) (ds:=[(10,1)]) (cs:=[]) (live:=[0,1,2,6,7,8,9,10,62,63,64]) (m:=4) (evs:=[.b true,.auto,.ld (.agg (WO se)),.b false,.stop]) (obs:=_) hE.2.1 (hE.nogh _) Qi (by kernel_rfl) ho hg
theorem p83o_0_3 (m:Mch) (kd pa oa:Int) (v0:List Int) (v1:List Int) (i:Int) (g0:Nat) (g1:Nat) {E:Env} {res:AV} (hE:Qf Try.prog 83 res E) (ho:AllP [(decide (i≥0))=false,g0=g0,g1=g1])
 (hr:AvLe (.tup [.rsl (rowI v0) 0 v0.length,.rsl (rowI v1) 0 v1.length]) res):G Try.prog E (Ve Try.prog) (Wp m kd pa oa v0 v1 i g0 g1) :=
 Qc (n:=400) (evs:=[.b false]) (obs:=_) hE Try.func83 Qi (by kernel_rfl) ho hr
theorem f83oW0 (m:Mch) (kd pa oa:Int) (v0:List Int) (v1:List Int) (i:Int) {E:Env} {rv:((List Int) × (List Int))} (hE:Qf Try.prog 83 (.tup [.rsl (rowI rv.1) 0 rv.1.length,.rsl (rowI rv.2) 0 rv.2.length]) E)
 (h:((i≥0→(0≤i∧(∃ se:Stg,m.s.stages[Int.toNat i]?=some se∧((se.kind=4→((se.prize≥0→(0≤i∧(∃ e:Int,v0[Int.toNat i]?=some e∧((I6 (i - 1))∧VB E m kd pa oa (v0.set (Int.toNat i) (Qu kd se.prize)) v1 (i - 1)))))∧(¬ (se.prize≥0)→((I6 (i - 1))∧VB E m kd pa oa v0 v1 (i - 1)))))∧(¬ (se.kind=4)→f83oG1 E m kd pa oa i se.turns se.turns.length v0 v1 se.kind se.prize se.turns ([]) 0)))))∧(¬ (i≥0)→rv=(v0,v1)))):VB E m kd pa oa v0 v1 i:=by
 intro g0 g1
 rcases bft (decide (i≥0)) with hc0 | hc0
 · have h:=h.1 (odt hc0)
   obtain ⟨h2,h⟩:=h
   obtain ⟨se,h1,h⟩:=h
   rcases bft (se.kind == 4) with hc1 | hc1
   · have h:=h.1 (eq_of_beq hc1)
     rcases bft (decide (se.prize≥0)) with hc2 | hc2
     · have h:=h.1 (odt hc2)
       obtain ⟨h4,h⟩:=h
       obtain ⟨e,h3,h⟩:=h
       obtain ⟨q13_3,h⟩:=h
       refine p83o_0_0 m kd pa oa v0 v1 i g0 g1 se e hE ⟨hc0,(Qj h2 h1),(rp cStg 3 0 3 h1),(by decide),hc1,hc2,(u113 (only_ok se.prize kd)),(Qj h4 h3),rfl,(rf cI 1 0 1 h3),rfl,q13_3,trivial⟩ ?_
       have h:=(h g0 g1)
       simp only [Wp,List.length_set] at h
       rw [(show QD (rowI v0) (0+(Int.toNat i)*1) [.int .i64 (Qu kd se.prize)]=rowI (v0.set (Int.toNat i) (Qu kd se.prize)) from QT cI (s:=1) (k:=0) (fun _=>rfl) h3 rfl (by first | decide | simp))]
       exact h
     · have h:=h.2 (odf hc2)
       obtain ⟨q7_3,h⟩:=h
       exact p83o_0_1 m kd pa oa v0 v1 i g0 g1 se hE ⟨hc0,(Qj h2 h1),(rp cStg 3 0 3 h1),(by decide),hc1,hc2,q7_3,trivial⟩ (h g0 g1)
   · have h:=h.2 (ne_of_beq_false hc1)
     exact p83o_0_2 m kd pa oa v0 v1 i g0 g1 se hE ⟨hc0,(Qj h2 h1),(rp cStg 3 0 3 h1),(by decide),hc1,trivial⟩ (h g0 g1 0)
 · have h:=h.2 (odf hc0)
   exact p83o_0_3 m kd pa oa v0 v1 i g0 g1 hE ⟨hc0,rfl,rfl,trivial⟩ (AvLe.of_eq (by rw [h]; try rfl))
theorem p83o_1_0 (m:Mch) (kd pa oa:Int) (i:Int) (k:(List Trn)) (k1:Nat) (v0:List Int) (v1:List Int) (v2_0:Int) (v2_1:Int) (v2_2:(List Trn)) (v3:List Int) (k11:Nat) (g0:Nat) (g1:Nat) (g3:Nat) (te:Trn) (e:Int) (e1:Int) (e2:Int) {E:Env} {rv:AV} (hE:Qf Try.prog 83 rv E) (ho:AllP [(decide ((k11:Int)<(k1:Int)))=true,0≤(k11:Int)∧(k11:Int)<(k.length:Int),((Qk k).drop (0+(Int.toNat (k11:Int))*2)).take 2=[.int .i64 te.w,.int .i64 te.to],2≤2,0≤te.to∧te.to<(v0.length:Int),g0=g0,g0=g0,((rowI v0).drop (0+(Int.toNat te.to)*1)).take 1=[.int .i64 e],0≤i∧i<(m.mult.length:Int),((rowI m.mult).drop (0+(Int.toNat i)*1)).take 1=[.int .i64 e1],0≤te.to∧te.to<(m.meas.length:Int),((rowI m.meas).drop (0+(Int.toNat te.to)*1)).take 1=[.int .i64 e2],InR .i64 (Int.tdiv e1 e2),e2 ≠ 0,InR .i64 (e*(Int.tdiv e1 e2)),g3=g3,(0+(v3.length*1))=(rowI v3).length,(v3.length+1)≤2147483648,0=0,InR .i64 ((k11:Int)+1)])
 (hg:G Try.prog E (yF Try.prog) ⟨([.rptr [.rsl (Qd m.s.stages) 0 m.s.stages.length,.rsl (rowI m.s.worth) 0 m.s.worth.length,.int .i64 m.s.price,.rsl (rowI m.meas) 0 m.meas.length,.rsl (rowI m.mult) 0 m.mult.length] 0,.clos 113 [] [.rptr [.int .i64 kd] 0],.clos 114 [] [.rptr [.int .i64 pa] 0,.rptr [.rptr [.rsl (Qd m.s.stages) 0 m.s.stages.length,.rsl (rowI m.s.worth) 0 m.s.worth.length,.int .i64 m.s.price,.rsl (rowI m.meas) 0 m.meas.length,.rsl (rowI m.mult) 0 m.mult.length] 0] 0,.rptr [.int .i64 oa] 0],J,J,J,.sl 0 g0 0 v0.length 1,.sl 1 g1 0 v1.length 1,.int .i64 i,.ptr 2 0 0,.sl 3 (g3+1) 0 (v3.length+1) 1]++jj 51 ([.rsl (Qk k) 0 k.length,.int .i64 (k1:Int),.int .i64 ((k11:Int)+1)]++Js 73)),[⟨true,g0,1,true,(rowI v0),true⟩,⟨true,g1,1,true,(rowI v1),true⟩,⟨true,0,1,true,[.int .i64 v2_0,.int .i64 v2_1,.rsl (Qk v2_2) 0 v2_2.length],false⟩,⟨true,(g3+1),1,true,((rowI v3)++[.int .i64 (e*(Int.tdiv e1 e2))]),true⟩]⟩):G Try.prog E (yF Try.prog) (f83oS1 m kd pa oa i k k1 v0 v1 v2_0 v2_1 v2_2 v3 k11 g0 g1 g3) :=
 Qh (n:=400) (ds:=[]) (cs:=[]) (live:=[0,1,2,6,7,8,9,10,62,63,64]) (m:=4) (evs:=[.b true,.ld (.agg [.int .i64 te.w,.int .i64 te.to]),.auto,.ld (.int .i64 e),.auto,.ld (.int .i64 e1),.auto,.auto,.ld (.int .i64 e2),.stop]) (obs:=_) hE.2.1 (hE.nogh _) Qi (by kernel_rfl) ho hg
theorem p83o_1_1 (m:Mch) (kd pa oa:Int) (i:Int) (k:(List Trn)) (k1:Nat) (v0:List Int) (v1:List Int) (v2_0:Int) (v2_1:Int) (v2_2:(List Trn)) (v3:List Int) (k11:Nat) (g0:Nat) (g1:Nat) (g3:Nat) {E:Env} {rv:AV} (hE:Qf Try.prog 83 rv E) (ho:AllP [(decide ((k11:Int)<(k1:Int)))=false,(v2_0 == 1)=true])
 (hg:G Try.prog E (f83oK2 Try.prog) ⟨([.rptr (WP m) 0,.clos 113 [] [.rptr [.int .i64 kd] 0],.clos 114 [] (ye pa m oa),J,J,J,.sl 0 g0 0 v0.length 1,.sl 1 g1 0 v1.length 1,.int .i64 i,J,.sl 3 g3 0 v3.length 1]++jj 87 ([.rsl (Qk v2_2) 0 v2_2.length,.int .i64 (v2_2.length:Int),.int .i64 0]++Js 37)),[⟨true,g0,1,true,(rowI v0),true⟩,⟨true,g1,1,true,(rowI v1),true⟩,⟨true,0,1,true,[.int .i64 v2_0,.int .i64 v2_1,.rsl (Qk v2_2) 0 v2_2.length],false⟩,⟨true,g3,1,true,(rowI v3),true⟩]⟩):G Try.prog E (yF Try.prog) (f83oS1 m kd pa oa i k k1 v0 v1 v2_0 v2_1 v2_2 v3 k11 g0 g1 g3) :=
 Qh (n:=400) (ds:=[]) (cs:=[]) (live:=[0,1,2,6,7,8,10,98,99,100]) (m:=4) (evs:=[.b false,.b true,.stop]) (obs:=_) hE.2.1 (hE.nogh _) Qi (by kernel_rfl) ho hg
theorem p83o_1_2 (m:Mch) (kd pa oa:Int) (i:Int) (k:(List Trn)) (k1:Nat) (v0:List Int) (v1:List Int) (v2_0:Int) (v2_1:Int) (v2_2:(List Trn)) (v3:List Int) (k11:Nat) (g0:Nat) (g1:Nat) (g3:Nat) (e:Int) (e1:Int) (e2:Int) (e3:Int) {E:Env} {rv:AV} (hE:Qf Try.prog 83 rv E) (ho:AllP [(decide ((k11:Int)<(k1:Int)))=false,(v2_0 == 1)=false,Qg Try.prog (.clos 114 [] [.rptr [.int .i64 pa] 0,.rptr [.rptr [.rsl (Qd m.s.stages) 0 m.s.stages.length,.rsl (rowI m.s.worth) 0 m.s.worth.length,.int .i64 m.s.price,.rsl (rowI m.meas) 0 m.meas.length,.rsl (rowI m.mult) 0 m.mult.length] 0] 0,.rptr [.int .i64 oa] 0]) [.int .i64 i,.rsl (rowI v3) 0 v3.length] (.int .i64 (Qo m pa oa i v3)),g3=g3,0≤i∧i<(v1.length:Int),g1=g1,((0+(Int.toNat i)*1)+1)≤(rowI v1).length,g1=g1,0≤i∧i<(v1.length:Int),g1=g1,g1=g1,((QD (rowI v1) (0+(Int.toNat i)*1) [.int .i64 (Qo m pa oa i v3)]).drop (0+(Int.toNat i)*1)).take 1=[.int .i64 e1],0≤e1∧e1<(v3.length:Int),g3=g3,g3=g3,((rowI v3).drop (0+(Int.toNat e1)*1)).take 1=[.int .i64 e2],0≤i∧i<(v0.length:Int),g0=g0,((0+(Int.toNat i)*1)+1)≤(rowI v0).length,g0=g0,InR .i64 (i - 1)])
 (hg:G Try.prog E (Ve Try.prog) ⟨([.rptr [.rsl (Qd m.s.stages) 0 m.s.stages.length,.rsl (rowI m.s.worth) 0 m.s.worth.length,.int .i64 m.s.price,.rsl (rowI m.meas) 0 m.meas.length,.rsl (rowI m.mult) 0 m.mult.length] 0,.clos 113 [] [.rptr [.int .i64 kd] 0],.clos 114 [] [.rptr [.int .i64 pa] 0,.rptr [.rptr [.rsl (Qd m.s.stages) 0 m.s.stages.length,.rsl (rowI m.s.worth) 0 m.s.worth.length,.int .i64 m.s.price,.rsl (rowI m.meas) 0 m.meas.length,.rsl (rowI m.mult) 0 m.mult.length] 0] 0,.rptr [.int .i64 oa] 0],J,J,J,.sl 0 g0 0 v0.length 1,.sl 1 g1 0 v1.length 1,.int .i64 (i - 1)]++Js 129),[⟨true,g0,1,true,(QD (rowI v0) (0+(Int.toNat i)*1) [.int .i64 e2]),true⟩,⟨true,g1,1,true,(QD (rowI v1) (0+(Int.toNat i)*1) [.int .i64 (Qo m pa oa i v3)]),true⟩]⟩):G Try.prog E (yF Try.prog) (f83oS1 m kd pa oa i k k1 v0 v1 v2_0 v2_1 v2_2 v3 k11 g0 g1 g3) :=
 Qh (n:=400) (ds:=[]) (cs:=[]) (live:=[0,1,2,6,7,8]) (m:=2) (evs:=[.b false,.b false,.v (.int .i64 (Qo m pa oa i v3)),.ld (.int .i64 e1),.ld (.int .i64 e2),.stop]) (obs:=_) hE.2.1 (hE.nogh _) Qi (by kernel_rfl) ho hg
theorem f83oW1 (m:Mch) (kd pa oa:Int) (i:Int) (k:(List Trn)) (k1:Nat) (v0:List Int) (v1:List Int) (v2_0:Int) (v2_1:Int) (v2_2:(List Trn)) (v3:List Int) (k11:Nat) {E:Env} {rv:((List Int) × (List Int))} (hE:Qf Try.prog 83 (.tup [.rsl (rowI rv.1) 0 rv.1.length,.rsl (rowI rv.2) 0 rv.2.length]) E)
 (h:(((k11:Int)<(k1:Int)→(∃ te:Trn,k[k11]?=some te∧(0≤te.to∧(∃ e:Int,v0[Int.toNat te.to]?=some e∧(0≤i∧(∃ e1:Int,m.mult[Int.toNat i]?=some e1∧(0≤te.to∧(∃ e2:Int,m.meas[Int.toNat te.to]?=some e2∧((I6 (Int.tdiv e1 e2))∧(e2 ≠ 0∧((I6 (e*(Int.tdiv e1 e2)))∧((v3.length+1)≤2147483648∧((I6 ((k11:Int)+1))∧f83oG1 E m kd pa oa i k k1 v0 v1 v2_0 v2_1 v2_2 (v3++[(e*(Int.tdiv e1 e2))]) (k11+1))))))))))))))∧(¬ ((k11:Int)<(k1:Int))→((v2_0=1→f83oG2 E m kd pa oa i v2_2 v2_2.length v0 v1 v2_0 v2_1 v2_2 v3 0)∧(¬ (v2_0=1)→(((0≤i∧Int.toNat i<m.s.stages.length)∧0<v3.length∧v3.length≤1000000)∧(0≤i∧(∃ e:Int,v1[Int.toNat i]?=some e∧(0≤i∧(∃ e1:Int,(v1.set (Int.toNat i) (Qo m pa oa i v3))[Int.toNat i]?=some e1∧(0≤e1∧(∃ e2:Int,v3[Int.toNat e1]?=some e2∧(0≤i∧(∃ e3:Int,v0[Int.toNat i]?=some e3∧((I6 (i - 1))∧VB E m kd pa oa (v0.set (Int.toNat i) e2) (v1.set (Int.toNat i) (Qo m pa oa i v3)) (i - 1)))))))))))))))):f83oG1 E m kd pa oa i k k1 v0 v1 v2_0 v2_1 v2_2 v3 k11:=by
 intro g0 g1 g3
 rcases bft (decide ((k11:Int)<(k1:Int))) with hc0 | hc0
 · have h:=h.1 (odt hc0)
   obtain ⟨te,h1,h⟩:=h
   obtain ⟨h3,h⟩:=h
   obtain ⟨e,h2,h⟩:=h
   obtain ⟨h5,h⟩:=h
   obtain ⟨e1,h4,h⟩:=h
   obtain ⟨h7,h⟩:=h
   obtain ⟨e2,h6,h⟩:=h
   obtain ⟨q16_1,h⟩:=h
   obtain ⟨q17_1,h⟩:=h
   obtain ⟨q18_1,h⟩:=h
   obtain ⟨h8,h⟩:=h
   obtain ⟨q23_1,h⟩:=h
   refine p83o_1_0 m kd pa oa i k k1 v0 v1 v2_0 v2_1 v2_2 v3 k11 g0 g1 g3 te e e1 e2 hE ⟨hc0,(Qn h1),(rp cTrn 2 0 2 h1),(by decide),(Qj h3 h2),rfl,rfl,(rp cI 1 0 1 h2),(Qj h5 h4),(rp cI 1 0 1 h4),(Qj h7 h6),(rp cI 1 0 1 h6),q16_1,q17_1,q18_1,rfl,(by have hx:=XL cI (s:=1) (fun _=>rfl) v3; simp only [rowI] at hx ⊢; rw [hx]; simp),h8,rfl,q23_1,trivial⟩ ?_
   rw [(show rowI v3++[.int .i64 (e*(Int.tdiv e1 e2))]=rowI (v3++[(e*(Int.tdiv e1 e2))]) from (YO cI v3 [(e*(Int.tdiv e1 e2))]).symm)]; rw [(show (v3.length+1)=(v3++[(e*(Int.tdiv e1 e2))]).length from by simp)]; exact (h g0 g1 (g3+1))
 · have h:=h.2 (odf hc0)
   rcases bft (v2_0 == 1) with hc1 | hc1
   · have h:=h.1 (eq_of_beq hc1)
     exact p83o_1_1 m kd pa oa i k k1 v0 v1 v2_0 v2_1 v2_2 v3 k11 g0 g1 g3 hE ⟨hc0,hc1,trivial⟩ (h g0 g1 g3)
   · have h:=h.2 (ne_of_beq_false hc1)
     obtain ⟨h1,h⟩:=h
     obtain ⟨h3,h⟩:=h
     obtain ⟨e,h2,h⟩:=h
     obtain ⟨h5,h⟩:=h
     obtain ⟨e1,h4,h⟩:=h
     obtain ⟨h7,h⟩:=h
     obtain ⟨e2,h6,h⟩:=h
     obtain ⟨h9,h⟩:=h
     obtain ⟨e3,h8,h⟩:=h
     obtain ⟨q24_2,h⟩:=h
     refine p83o_1_2 m kd pa oa i k k1 v0 v1 v2_0 v2_1 v2_2 v3 k11 g0 g1 g3 e e1 e2 e3 hE ⟨hc0,hc1,(u114 (choose_ok i v3 m pa oa h1)),rfl,(Qj h3 h2),rfl,(rf cI 1 0 1 h2),rfl,(by have hx:=Qj h5 h4; simpa using hx),rfl,rfl,(by rw [(show QD (rowI v1) (0+(Int.toNat i)*1) [.int .i64 (Qo m pa oa i v3)]=rowI (v1.set (Int.toNat i) (Qo m pa oa i v3)) from QT cI (s:=1) (k:=0) (fun _=>rfl) h2 rfl (by first | decide | simp))]; exact rp cI 1 0 1 h4),(Qj h7 h6),rfl,rfl,(rp cI 1 0 1 h6),(Qj h9 h8),rfl,(rf cI 1 0 1 h8),rfl,q24_2,trivial⟩ ?_
     have h:=(h g0 g1)
     simp only [Wp,List.length_set] at h
     rw [(show QD (rowI v0) (0+(Int.toNat i)*1) [.int .i64 e2]=rowI (v0.set (Int.toNat i) e2) from QT cI (s:=1) (k:=0) (fun _=>rfl) h8 rfl (by first | decide | simp))]; rw [(show QD (rowI v1) (0+(Int.toNat i)*1) [.int .i64 (Qo m pa oa i v3)]=rowI (v1.set (Int.toNat i) (Qo m pa oa i v3)) from QT cI (s:=1) (k:=0) (fun _=>rfl) h2 rfl (by first | decide | simp))]
     exact h
theorem p83o_2_0 (m:Mch) (kd pa oa:Int) (i:Int) (j:(List Trn)) (j1:Nat) (v0:List Int) (v1:List Int) (v2_0:Int) (v2_1:Int) (v2_2:(List Trn)) (v3:List Int) (j11:Nat) (g0:Nat) (g1:Nat) (g3:Nat) (te:Trn) (e:Int) (e1:Int) {E:Env} {rv:AV} (hE:Qf Try.prog 83 rv E) (ho:AllP [(decide ((j11:Int)<(j1:Int)))=true,0≤(j11:Int)∧(j11:Int)<(j.length:Int),((Qk j).drop (0+(Int.toNat (j11:Int))*2)).take 2=[.int .i64 te.w,.int .i64 te.to],2≤2,0≤i∧i<(v0.length:Int),g0=g0,g0=g0,((rowI v0).drop (0+(Int.toNat i)*1)).take 1=[.int .i64 e],0≤(j11:Int)∧(j11:Int)<(v3.length:Int),g3=g3,g3=g3,((rowI v3).drop (0+(Int.toNat (j11:Int))*1)).take 1=[.int .i64 e1],InR .i64 (te.w*e1),InR .i64 (e+(te.w*e1)),0≤i∧i<(v0.length:Int),g0=g0,((0+(Int.toNat i)*1)+1)≤(rowI v0).length,g0=g0,InR .i64 ((j11:Int)+1)])
 (hg:G Try.prog E (f83oK2 Try.prog) ⟨([.rptr (WP m) 0,.clos 113 [] [.rptr [.int .i64 kd] 0],.clos 114 [] (ye pa m oa),J,J,J,.sl 0 g0 0 v0.length 1,.sl 1 g1 0 v1.length 1,.int .i64 i,J,.sl 3 g3 0 v3.length 1]++jj 87 ([.rsl (Qk j) 0 j.length,.int .i64 (j1:Int),.int .i64 ((j11:Int)+1)]++Js 37)),[⟨true,g0,1,true,(QD (rowI v0) (0+(Int.toNat i)*1) [.int .i64 (e+(te.w*e1))]),true⟩,⟨true,g1,1,true,(rowI v1),true⟩,⟨true,0,1,true,[.int .i64 v2_0,.int .i64 v2_1,.rsl (Qk v2_2) 0 v2_2.length],false⟩,⟨true,g3,1,true,(rowI v3),true⟩]⟩):G Try.prog E (f83oK2 Try.prog) (f83oS2 m kd pa oa i j j1 v0 v1 v2_0 v2_1 v2_2 v3 j11 g0 g1 g3) :=
 Qh (n:=400) (ds:=[]) (cs:=[]) (live:=[0,1,2,6,7,8,10,98,99,100]) (m:=4) (evs:=[.b true,.ld (.agg [.int .i64 te.w,.int .i64 te.to]),.ld (.int .i64 e),.auto,.ld (.int .i64 e1),.stop]) (obs:=_) hE.2.1 (hE.nogh _) Qi (by kernel_rfl) ho hg
theorem p83o_2_1 (m:Mch) (kd pa oa:Int) (i:Int) (j:(List Trn)) (j1:Nat) (v0:List Int) (v1:List Int) (v2_0:Int) (v2_1:Int) (v2_2:(List Trn)) (v3:List Int) (j11:Nat) (g0:Nat) (g1:Nat) (g3:Nat) {E:Env} {rv:AV} (hE:Qf Try.prog 83 rv E) (ho:AllP [(decide ((j11:Int)<(j1:Int)))=false,InR .i64 (i - 1)])
 (hg:G Try.prog E (Ve Try.prog) ⟨(z83o_4 m kd pa oa g0 v0 g1 v1 i),[⟨true,g0,1,true,(rowI v0),true⟩,⟨true,g1,1,true,(rowI v1),true⟩]⟩):G Try.prog E (f83oK2 Try.prog) (f83oS2 m kd pa oa i j j1 v0 v1 v2_0 v2_1 v2_2 v3 j11 g0 g1 g3) :=
 Qh (n:=400) (ds:=[]) (cs:=[]) (live:=[0,1,2,6,7,8]) (m:=2) (evs:=[.b false,.stop]) (obs:=_) hE.2.1 (hE.nogh _) Qi (by kernel_rfl) ho hg
theorem f83oW2 (m:Mch) (kd pa oa:Int) (i:Int) (j:(List Trn)) (j1:Nat) (v0:List Int) (v1:List Int) (v2_0:Int) (v2_1:Int) (v2_2:(List Trn)) (v3:List Int) (j11:Nat) {E:Env} {rv:((List Int) × (List Int))} (hE:Qf Try.prog 83 (.tup [.rsl (rowI rv.1) 0 rv.1.length,.rsl (rowI rv.2) 0 rv.2.length]) E)
 (h:(((j11:Int)<(j1:Int)→(∃ te:Trn,j[j11]?=some te∧(0≤i∧(∃ e:Int,v0[Int.toNat i]?=some e∧(∃ e1:Int,v3[j11]?=some e1∧((I6 (te.w*e1))∧((I6 (e+(te.w*e1)))∧((I6 ((j11:Int)+1))∧f83oG2 E m kd pa oa i j j1 (v0.set (Int.toNat i) (e+(te.w*e1))) v1 v2_0 v2_1 v2_2 v3 (j11+1)))))))))∧(¬ ((j11:Int)<(j1:Int))→((I6 (i - 1))∧VB E m kd pa oa v0 v1 (i - 1))))):f83oG2 E m kd pa oa i j j1 v0 v1 v2_0 v2_1 v2_2 v3 j11:=by
 intro g0 g1 g3
 rcases bft (decide ((j11:Int)<(j1:Int))) with hc0 | hc0
 · have h:=h.1 (odt hc0)
   obtain ⟨te,h1,h⟩:=h
   obtain ⟨h3,h⟩:=h
   obtain ⟨e,h2,h⟩:=h
   obtain ⟨e1,h4,h⟩:=h
   obtain ⟨q15_1,h⟩:=h
   obtain ⟨q16_1,h⟩:=h
   obtain ⟨q21_1,h⟩:=h
   refine p83o_2_0 m kd pa oa i j j1 v0 v1 v2_0 v2_1 v2_2 v3 j11 g0 g1 g3 te e e1 hE ⟨hc0,(Qn h1),(rp cTrn 2 0 2 h1),(by decide),(Qj h3 h2),rfl,rfl,(rp cI 1 0 1 h2),(Qn h4),rfl,rfl,(rp cI 1 0 1 h4),q15_1,q16_1,(Qj h3 h2),rfl,(rf cI 1 0 1 h2),rfl,q21_1,trivial⟩ ?_
   have h:=(h g0 g1 g3)
   simp only [f83oS2,List.length_set] at h
   rw [(show QD (rowI v0) (0+(Int.toNat i)*1) [.int .i64 (e+(te.w*e1))]=rowI (v0.set (Int.toNat i) (e+(te.w*e1))) from QT cI (s:=1) (k:=0) (fun _=>rfl) h2 rfl (by first | decide | simp))]
   exact h
 · have h:=h.2 (odf hc0)
   obtain ⟨q1_1,h⟩:=h
   exact p83o_2_1 m kd pa oa i j j1 v0 v1 v2_0 v2_1 v2_2 v3 j11 g0 g1 g3 hE ⟨hc0,q1_1,trivial⟩ (h g0 g1)
theorem f83pb:Try.f83.body=some (Qe Try.prog 83):=by kernel_rfl
def Vd (P:Program):List Item:=kAt 400 [.code (Qe P 83)] [.stop]
def Wo (m:Mch) (kd:Int) (plan:List Int) (v0:List Int) (v1:List Int) (i:Int) (g0:Nat) (g1:Nat):St:=⟨([.rptr [.rsl (Qd m.s.stages) 0 m.s.stages.length,.rsl (rowI m.s.worth) 0 m.s.worth.length,.int .i64 m.s.price,.rsl (rowI m.meas) 0 m.meas.length,.rsl (rowI m.mult) 0 m.mult.length] 0,.clos 113 [] [.rptr [.int .i64 kd] 0],.clos 119 [] [.rptr [.rsl (rowI plan) 0 plan.length] 0],J,J,J,.sl 0 g0 0 v0.length 1,.sl 1 g1 0 v1.length 1,.int .i64 i]++Js 129),[⟨true,g0,1,true,(rowI v0),true⟩,⟨true,g1,1,true,(rowI v1),true⟩]⟩
def VA (E:Env) (m:Mch) (kd:Int) (plan:List Int) (v0:List Int) (v1:List Int) (i:Int):Prop:=∀ g0 g1:Nat,G Try.prog E (Vd Try.prog) (Wo m kd plan v0 v1 i g0 g1)
def yE (P:Program):List Item:=kAt 400 [.code (Qe P 83)] [.b true,.b false,.stop]
def f83pS1 (m:Mch) (kd:Int) (plan:List Int) (i:Int) (k:(List Trn)) (k1:Nat) (v0:List Int) (v1:List Int) (v2_0:Int) (v2_1:Int) (v2_2:(List Trn)) (v3:List Int) (k11:Nat) (g0:Nat) (g1:Nat) (g3:Nat):St:=⟨([.rptr [.rsl (Qd m.s.stages) 0 m.s.stages.length,.rsl (rowI m.s.worth) 0 m.s.worth.length,.int .i64 m.s.price,.rsl (rowI m.meas) 0 m.meas.length,.rsl (rowI m.mult) 0 m.mult.length] 0,.clos 113 [] [.rptr [.int .i64 kd] 0],.clos 119 [] [.rptr [.rsl (rowI plan) 0 plan.length] 0],J,J,J,.sl 0 g0 0 v0.length 1,.sl 1 g1 0 v1.length 1,.int .i64 i,.ptr 2 0 0,.sl 3 g3 0 v3.length 1]++jj 51 ([.rsl (Qk k) 0 k.length,.int .i64 (k1:Int),.int .i64 (k11:Int)]++Js 73)),[⟨true,g0,1,true,(rowI v0),true⟩,⟨true,g1,1,true,(rowI v1),true⟩,⟨true,0,1,true,[.int .i64 v2_0,.int .i64 v2_1,.rsl (Qk v2_2) 0 v2_2.length],false⟩,⟨true,g3,1,true,(rowI v3),true⟩]⟩
def f83pG1 (E:Env) (m:Mch) (kd:Int) (plan:List Int) (i:Int) (k:(List Trn)) (k1:Nat) (v0:List Int) (v1:List Int) (v2_0:Int) (v2_1:Int) (v2_2:(List Trn)) (v3:List Int) (k11:Nat):Prop:=∀ g0 g1 g3:Nat,G Try.prog E (yE Try.prog) (f83pS1 m kd plan i k k1 v0 v1 v2_0 v2_1 v2_2 v3 k11 g0 g1 g3)
def f83pK2 (P:Program):List Item:=kAt 400 [.code (Qe P 83)] [.b true,.b false,.b false,.b true,.stop]
def f83pS2 (m:Mch) (kd:Int) (plan:List Int) (i:Int) (j:(List Trn)) (j1:Nat) (v0:List Int) (v1:List Int) (v2_0:Int) (v2_1:Int) (v2_2:(List Trn)) (v3:List Int) (j11:Nat) (g0:Nat) (g1:Nat) (g3:Nat):St:=⟨([.rptr [.rsl (Qd m.s.stages) 0 m.s.stages.length,.rsl (rowI m.s.worth) 0 m.s.worth.length,.int .i64 m.s.price,.rsl (rowI m.meas) 0 m.meas.length,.rsl (rowI m.mult) 0 m.mult.length] 0,.clos 113 [] [.rptr [.int .i64 kd] 0],.clos 119 [] [.rptr [.rsl (rowI plan) 0 plan.length] 0],J,J,J,.sl 0 g0 0 v0.length 1,.sl 1 g1 0 v1.length 1,.int .i64 i,J,.sl 3 g3 0 v3.length 1]++jj 87 ([.rsl (Qk j) 0 j.length,.int .i64 (j1:Int),.int .i64 (j11:Int)]++Js 37)),[⟨true,g0,1,true,(rowI v0),true⟩,⟨true,g1,1,true,(rowI v1),true⟩,⟨true,0,1,true,[.int .i64 v2_0,.int .i64 v2_1,.rsl (Qk v2_2) 0 v2_2.length],false⟩,⟨true,g3,1,true,(rowI v3),true⟩]⟩
def f83pG2 (E:Env) (m:Mch) (kd:Int) (plan:List Int) (i:Int) (j:(List Trn)) (j1:Nat) (v0:List Int) (v1:List Int) (v2_0:Int) (v2_1:Int) (v2_2:(List Trn)) (v3:List Int) (j11:Nat):Prop:=∀ g0 g1 g3:Nat,G Try.prog E (f83pK2 Try.prog) (f83pS2 m kd plan i j j1 v0 v1 v2_0 v2_1 v2_2 v3 j11 g0 g1 g3)
abbrev yd (m:Mch):List AV:=[.rsl (Qd m.s.stages) 0 m.s.stages.length,.rsl (rowI m.s.worth) 0 m.s.worth.length,.int .i64 m.s.price,.rsl (rowI m.meas) 0 m.meas.length,.rsl (rowI m.mult) 0 m.mult.length]
abbrev WN (se:Stg):List AV:=[.int .i64 se.kind,.int .i64 se.prize,.rsl (Qk se.turns) 0 se.turns.length]
abbrev z83p_3 (m:Mch) (kd:Int) (plan:List Int) (g0:Nat) (v0:List Int) (g1:Nat) (v1:List Int) (i:Int):List AV:=[.rptr (yd m) 0,.clos 113 [] [.rptr [.int .i64 kd] 0],.clos 119 [] [.rptr [.rsl (rowI plan) 0 plan.length] 0],J,J,J,.sl 0 g0 0 v0.length 1,.sl 1 g1 0 v1.length 1,.int .i64 (i - 1)]++Js 129
theorem p83p_start_0 (m:Mch) (kd:Int) (plan:List Int) {E:Env} {rv:AV} (hE:Qf Try.prog 83 rv E) (ho:AllP [0≤(m.s.stages.length:Int)∧(m.s.stages.length:Int)≤(m.s.stages.length:Int)∧(m.s.stages.length:Int)≤2147483648,0≤(m.s.stages.length:Int)∧(m.s.stages.length:Int)≤(m.s.stages.length:Int)∧(m.s.stages.length:Int)≤2147483648,InR .i64 ((m.s.stages.length:Int) - 1)])
 (hg:G Try.prog E (Vd Try.prog) ⟨([.rptr (yd m) 0,.clos 113 [] [.rptr [.int .i64 kd] 0],.clos 119 [] [.rptr [.rsl (rowI plan) 0 plan.length] 0],J,J,J,.sl 0 0 0 (Int.toNat (m.s.stages.length:Int)) 1,.sl 1 0 0 (Int.toNat (m.s.stages.length:Int)) 1,.int .i64 ((m.s.stages.length:Int) - 1)]++Js 129),[⟨true,0,1,true,((List.replicate (Int.toNat (m.s.stages.length:Int)) ([.int .i64 0]:List AV)).flatten),true⟩,⟨true,0,1,true,((List.replicate (Int.toNat (m.s.stages.length:Int)) ([.int .i64 0]:List AV)).flatten),true⟩]⟩):G Try.prog E [.code (Qe Try.prog 83)] ⟨[.rptr (yd m) 0,.clos 113 [] [.rptr [.int .i64 kd] 0],.clos 119 [] [.rptr [.rsl (rowI plan) 0 plan.length] 0]]++unds (Try.f83.ntmps - 3),[]⟩ :=
 Qh (n:=400) (ds:=[]) (cs:=[]) (live:=[0,1,2,6,7,8]) (m:=2) (evs:=[.stop]) (obs:=_) hE.2.1 (hE.nogh _) Qi (by kernel_rfl) ho hg
theorem f83pW (m:Mch) (kd:Int) (plan:List Int) {E:Env} {rv:((List Int) × (List Int))} (hE:Qf Try.prog 83 (.tup [.rsl (rowI rv.1) 0 rv.1.length,.rsl (rowI rv.2) 0 rv.2.length]) E)
 (h:(m.s.stages.length≤2147483648∧(m.s.stages.length≤2147483648∧((I6 ((m.s.stages.length:Int) - 1))∧VA E m kd plan (List.replicate m.s.stages.length (0:Int)) (List.replicate m.s.stages.length (0:Int)) ((m.s.stages.length:Int) - 1))))):G Try.prog E [.code (Qe Try.prog 83)] ⟨[.rptr [.rsl (Qd m.s.stages) 0 m.s.stages.length,.rsl (rowI m.s.worth) 0 m.s.worth.length,.int .i64 m.s.price,.rsl (rowI m.meas) 0 m.meas.length,.rsl (rowI m.mult) 0 m.mult.length] 0,.clos 113 [] [.rptr [.int .i64 kd] 0],.clos 119 [] [.rptr [.rsl (rowI plan) 0 plan.length] 0]]++unds (Try.f83.ntmps - 3),[]⟩:=by
 obtain ⟨h1,h⟩:=h
 obtain ⟨h2,h⟩:=h
 obtain ⟨q2_0,h⟩:=h
 refine p83p_start_0 m kd plan hE ⟨⟨by omega,by omega,by have:=h1; omega⟩,⟨by omega,by omega,by have:=h2; omega⟩,q2_0,trivial⟩ ?_
 have h:=(h 0 0)
 simp only [VA,Wo,List.length_set,List.length_replicate] at h
 rw [(show (List.replicate (Int.toNat (m.s.stages.length:Int)) ([.int .i64 0]:List AV)).flatten=rowI (List.replicate m.s.stages.length (0:Int)) from WY cI _ _)]
 exact h
theorem p83p_0_0 (m:Mch) (kd:Int) (plan:List Int) (v0:List Int) (v1:List Int) (i:Int) (g0:Nat) (g1:Nat) (se:Stg) (e:Int) {E:Env} {rv:AV} (hE:Qf Try.prog 83 rv E) (ho:AllP [(decide (i≥0))=true,0≤i∧i<(m.s.stages.length:Int),((Qd m.s.stages).drop (0+(Int.toNat i)*3)).take 3=(WN se),3≤3,(se.kind == 4)=true,(decide (se.prize≥0))=true,Qg Try.prog (.clos 113 [] [.rptr [.int .i64 kd] 0]) [.int .i64 se.prize] (.int .i64 (Qu kd se.prize)),0≤i∧i<(v0.length:Int),g0=g0,((0+(Int.toNat i)*1)+1)≤(rowI v0).length,g0=g0,InR .i64 (i - 1)])
 (hg:G Try.prog E (Vd Try.prog) ⟨(z83p_3 m kd plan g0 v0 g1 v1 i),[⟨true,g0,1,true,(QD (rowI v0) (0+(Int.toNat i)*1) [.int .i64 (Qu kd se.prize)]),true⟩,⟨true,g1,1,true,(rowI v1),true⟩]⟩):G Try.prog E (Vd Try.prog) (Wo m kd plan v0 v1 i g0 g1) :=
 Qh (n:=400) (ds:=[]) (cs:=[]) (live:=[0,1,2,6,7,8]) (m:=2) (evs:=[.b true,.auto,.ld (.agg (WN se)),.b true,.b true,.v (.int .i64 (Qu kd se.prize)),.stop]) (obs:=_) hE.2.1 (hE.nogh _) Qi (by kernel_rfl) ho hg
theorem p83p_0_1 (m:Mch) (kd:Int) (plan:List Int) (v0:List Int) (v1:List Int) (i:Int) (g0:Nat) (g1:Nat) (se:Stg) {E:Env} {rv:AV} (hE:Qf Try.prog 83 rv E) (ho:AllP [(decide (i≥0))=true,0≤i∧i<(m.s.stages.length:Int),((Qd m.s.stages).drop (0+(Int.toNat i)*3)).take 3=(WN se),3≤3,(se.kind == 4)=true,(decide (se.prize≥0))=false,InR .i64 (i - 1)])
 (hg:G Try.prog E (Vd Try.prog) ⟨(z83p_3 m kd plan g0 v0 g1 v1 i),[⟨true,g0,1,true,(rowI v0),true⟩,⟨true,g1,1,true,(rowI v1),true⟩]⟩):G Try.prog E (Vd Try.prog) (Wo m kd plan v0 v1 i g0 g1) :=
 Qh (n:=400) (ds:=[]) (cs:=[]) (live:=[0,1,2,6,7,8]) (m:=2) (evs:=[.b true,.auto,.ld (.agg (WN se)),.b true,.b false,.stop]) (obs:=_) hE.2.1 (hE.nogh _) Qi (by kernel_rfl) ho hg
theorem p83p_0_2 (m:Mch) (kd:Int) (plan:List Int) (v0:List Int) (v1:List Int) (i:Int) (g0:Nat) (g1:Nat) (se:Stg) {E:Env} {rv:AV} (hE:Qf Try.prog 83 rv E) (ho:AllP [(decide (i≥0))=true,0≤i∧i<(m.s.stages.length:Int),((Qd m.s.stages).drop (0+(Int.toNat i)*3)).take 3=(WN se),3≤3,(se.kind == 4)=false])
 (hg:G Try.prog E (yE Try.prog) ⟨([.rptr (yd m) 0,.clos 113 [] [.rptr [.int .i64 kd] 0],.clos 119 [] [.rptr [.rsl (rowI plan) 0 plan.length] 0],J,J,J,.sl 0 g0 0 v0.length 1,.sl 1 g1 0 v1.length 1,.int .i64 i,.ptr 2 0 0,.sl 3 0 0 0 1]++jj 51 ([.rsl (Qk se.turns) 0 se.turns.length,.int .i64 (se.turns.length:Int),.int .i64 0]++Js 73)),[⟨true,g0,1,true,(rowI v0),true⟩,⟨true,g1,1,true,(rowI v1),true⟩,⟨true,0,1,true,(WN se),false⟩,⟨true,0,1,true,[],true⟩]⟩):G Try.prog E (Vd Try.prog) (Wo m kd plan v0 v1 i g0 g1) :=
 Qh (n:=400) (ds:=[(10,1)]) (cs:=[]) (live:=[0,1,2,6,7,8,9,10,62,63,64]) (m:=4) (evs:=[.b true,.auto,.ld (.agg (WN se)),.b false,.stop]) (obs:=_) hE.2.1 (hE.nogh _) Qi (by kernel_rfl) ho hg
theorem p83p_0_3 (m:Mch) (kd:Int) (plan:List Int) (v0:List Int) (v1:List Int) (i:Int) (g0:Nat) (g1:Nat) {E:Env} {res:AV} (hE:Qf Try.prog 83 res E) (ho:AllP [(decide (i≥0))=false,g0=g0,g1=g1])
 (hr:AvLe (.tup [.rsl (rowI v0) 0 v0.length,.rsl (rowI v1) 0 v1.length]) res):G Try.prog E (Vd Try.prog) (Wo m kd plan v0 v1 i g0 g1) :=
 Qc (n:=400) (evs:=[.b false]) (obs:=_) hE Try.func83 Qi (by kernel_rfl) ho hr
theorem f83pW0 (m:Mch) (kd:Int) (plan:List Int) (v0:List Int) (v1:List Int) (i:Int) {E:Env} {rv:((List Int) × (List Int))} (hE:Qf Try.prog 83 (.tup [.rsl (rowI rv.1) 0 rv.1.length,.rsl (rowI rv.2) 0 rv.2.length]) E)
 (h:((i≥0→(0≤i∧(∃ se:Stg,m.s.stages[Int.toNat i]?=some se∧((se.kind=4→((se.prize≥0→(0≤i∧(∃ e:Int,v0[Int.toNat i]?=some e∧((I6 (i - 1))∧VA E m kd plan (v0.set (Int.toNat i) (Qu kd se.prize)) v1 (i - 1)))))∧(¬ (se.prize≥0)→((I6 (i - 1))∧VA E m kd plan v0 v1 (i - 1)))))∧(¬ (se.kind=4)→f83pG1 E m kd plan i se.turns se.turns.length v0 v1 se.kind se.prize se.turns ([]) 0)))))∧(¬ (i≥0)→rv=(v0,v1)))):VA E m kd plan v0 v1 i:=by
 intro g0 g1
 rcases bft (decide (i≥0)) with hc0 | hc0
 · have h:=h.1 (odt hc0)
   obtain ⟨h2,h⟩:=h
   obtain ⟨se,h1,h⟩:=h
   rcases bft (se.kind == 4) with hc1 | hc1
   · have h:=h.1 (eq_of_beq hc1)
     rcases bft (decide (se.prize≥0)) with hc2 | hc2
     · have h:=h.1 (odt hc2)
       obtain ⟨h4,h⟩:=h
       obtain ⟨e,h3,h⟩:=h
       obtain ⟨q13_3,h⟩:=h
       refine p83p_0_0 m kd plan v0 v1 i g0 g1 se e hE ⟨hc0,(Qj h2 h1),(rp cStg 3 0 3 h1),(by decide),hc1,hc2,(u113 (only_ok se.prize kd)),(Qj h4 h3),rfl,(rf cI 1 0 1 h3),rfl,q13_3,trivial⟩ ?_
       have h:=(h g0 g1)
       simp only [Wo,List.length_set] at h
       rw [(show QD (rowI v0) (0+(Int.toNat i)*1) [.int .i64 (Qu kd se.prize)]=rowI (v0.set (Int.toNat i) (Qu kd se.prize)) from QT cI (s:=1) (k:=0) (fun _=>rfl) h3 rfl (by first | decide | simp))]
       exact h
     · have h:=h.2 (odf hc2)
       obtain ⟨q7_3,h⟩:=h
       exact p83p_0_1 m kd plan v0 v1 i g0 g1 se hE ⟨hc0,(Qj h2 h1),(rp cStg 3 0 3 h1),(by decide),hc1,hc2,q7_3,trivial⟩ (h g0 g1)
   · have h:=h.2 (ne_of_beq_false hc1)
     exact p83p_0_2 m kd plan v0 v1 i g0 g1 se hE ⟨hc0,(Qj h2 h1),(rp cStg 3 0 3 h1),(by decide),hc1,trivial⟩ (h g0 g1 0)
 · have h:=h.2 (odf hc0)
   exact p83p_0_3 m kd plan v0 v1 i g0 g1 hE ⟨hc0,rfl,rfl,trivial⟩ (AvLe.of_eq (by rw [h]; try rfl))
theorem p83p_1_0 (m:Mch) (kd:Int) (plan:List Int) (i:Int) (k:(List Trn)) (k1:Nat) (v0:List Int) (v1:List Int) (v2_0:Int) (v2_1:Int) (v2_2:(List Trn)) (v3:List Int) (k11:Nat) (g0:Nat) (g1:Nat) (g3:Nat) (te:Trn) (e:Int) (e1:Int) (e2:Int) {E:Env} {rv:AV} (hE:Qf Try.prog 83 rv E) (ho:AllP [(decide ((k11:Int)<(k1:Int)))=true,0≤(k11:Int)∧(k11:Int)<(k.length:Int),((Qk k).drop (0+(Int.toNat (k11:Int))*2)).take 2=[.int .i64 te.w,.int .i64 te.to],2≤2,0≤te.to∧te.to<(v0.length:Int),g0=g0,g0=g0,((rowI v0).drop (0+(Int.toNat te.to)*1)).take 1=[.int .i64 e],0≤i∧i<(m.mult.length:Int),((rowI m.mult).drop (0+(Int.toNat i)*1)).take 1=[.int .i64 e1],0≤te.to∧te.to<(m.meas.length:Int),((rowI m.meas).drop (0+(Int.toNat te.to)*1)).take 1=[.int .i64 e2],InR .i64 (Int.tdiv e1 e2),e2 ≠ 0,InR .i64 (e*(Int.tdiv e1 e2)),g3=g3,(0+(v3.length*1))=(rowI v3).length,(v3.length+1)≤2147483648,0=0,InR .i64 ((k11:Int)+1)])
 (hg:G Try.prog E (yE Try.prog) ⟨([.rptr [.rsl (Qd m.s.stages) 0 m.s.stages.length,.rsl (rowI m.s.worth) 0 m.s.worth.length,.int .i64 m.s.price,.rsl (rowI m.meas) 0 m.meas.length,.rsl (rowI m.mult) 0 m.mult.length] 0,.clos 113 [] [.rptr [.int .i64 kd] 0],.clos 119 [] [.rptr [.rsl (rowI plan) 0 plan.length] 0],J,J,J,.sl 0 g0 0 v0.length 1,.sl 1 g1 0 v1.length 1,.int .i64 i,.ptr 2 0 0,.sl 3 (g3+1) 0 (v3.length+1) 1]++jj 51 ([.rsl (Qk k) 0 k.length,.int .i64 (k1:Int),.int .i64 ((k11:Int)+1)]++Js 73)),[⟨true,g0,1,true,(rowI v0),true⟩,⟨true,g1,1,true,(rowI v1),true⟩,⟨true,0,1,true,[.int .i64 v2_0,.int .i64 v2_1,.rsl (Qk v2_2) 0 v2_2.length],false⟩,⟨true,(g3+1),1,true,((rowI v3)++[.int .i64 (e*(Int.tdiv e1 e2))]),true⟩]⟩):G Try.prog E (yE Try.prog) (f83pS1 m kd plan i k k1 v0 v1 v2_0 v2_1 v2_2 v3 k11 g0 g1 g3) :=
 Qh (n:=400) (ds:=[]) (cs:=[]) (live:=[0,1,2,6,7,8,9,10,62,63,64]) (m:=4) (evs:=[.b true,.ld (.agg [.int .i64 te.w,.int .i64 te.to]),.auto,.ld (.int .i64 e),.auto,.ld (.int .i64 e1),.auto,.auto,.ld (.int .i64 e2),.stop]) (obs:=_) hE.2.1 (hE.nogh _) Qi (by kernel_rfl) ho hg
theorem p83p_1_1 (m:Mch) (kd:Int) (plan:List Int) (i:Int) (k:(List Trn)) (k1:Nat) (v0:List Int) (v1:List Int) (v2_0:Int) (v2_1:Int) (v2_2:(List Trn)) (v3:List Int) (k11:Nat) (g0:Nat) (g1:Nat) (g3:Nat) {E:Env} {rv:AV} (hE:Qf Try.prog 83 rv E) (ho:AllP [(decide ((k11:Int)<(k1:Int)))=false,(v2_0 == 1)=true])
 (hg:G Try.prog E (f83pK2 Try.prog) ⟨([.rptr (yd m) 0,.clos 113 [] [.rptr [.int .i64 kd] 0],.clos 119 [] [.rptr [.rsl (rowI plan) 0 plan.length] 0],J,J,J,.sl 0 g0 0 v0.length 1,.sl 1 g1 0 v1.length 1,.int .i64 i,J,.sl 3 g3 0 v3.length 1]++jj 87 ([.rsl (Qk v2_2) 0 v2_2.length,.int .i64 (v2_2.length:Int),.int .i64 0]++Js 37)),[⟨true,g0,1,true,(rowI v0),true⟩,⟨true,g1,1,true,(rowI v1),true⟩,⟨true,0,1,true,[.int .i64 v2_0,.int .i64 v2_1,.rsl (Qk v2_2) 0 v2_2.length],false⟩,⟨true,g3,1,true,(rowI v3),true⟩]⟩):G Try.prog E (yE Try.prog) (f83pS1 m kd plan i k k1 v0 v1 v2_0 v2_1 v2_2 v3 k11 g0 g1 g3) :=
 Qh (n:=400) (ds:=[]) (cs:=[]) (live:=[0,1,2,6,7,8,10,98,99,100]) (m:=4) (evs:=[.b false,.b true,.stop]) (obs:=_) hE.2.1 (hE.nogh _) Qi (by kernel_rfl) ho hg
theorem p83p_1_2 (m:Mch) (kd:Int) (plan:List Int) (i:Int) (k:(List Trn)) (k1:Nat) (v0:List Int) (v1:List Int) (v2_0:Int) (v2_1:Int) (v2_2:(List Trn)) (v3:List Int) (k11:Nat) (g0:Nat) (g1:Nat) (g3:Nat) (e:Int) (e1:Int) (e2:Int) (e3:Int) {E:Env} {rv:AV} (hE:Qf Try.prog 83 rv E) (ho:AllP [(decide ((k11:Int)<(k1:Int)))=false,(v2_0 == 1)=false,Qg Try.prog (.clos 119 [] [.rptr [.rsl (rowI plan) 0 plan.length] 0]) [.int .i64 i,.rsl (rowI v3) 0 v3.length] (.int .i64 (Qx plan i)),g3=g3,0≤i∧i<(v1.length:Int),g1=g1,((0+(Int.toNat i)*1)+1)≤(rowI v1).length,g1=g1,0≤i∧i<(v1.length:Int),g1=g1,g1=g1,((QD (rowI v1) (0+(Int.toNat i)*1) [.int .i64 (Qx plan i)]).drop (0+(Int.toNat i)*1)).take 1=[.int .i64 e1],0≤e1∧e1<(v3.length:Int),g3=g3,g3=g3,((rowI v3).drop (0+(Int.toNat e1)*1)).take 1=[.int .i64 e2],0≤i∧i<(v0.length:Int),g0=g0,((0+(Int.toNat i)*1)+1)≤(rowI v0).length,g0=g0,InR .i64 (i - 1)])
 (hg:G Try.prog E (Vd Try.prog) ⟨([.rptr [.rsl (Qd m.s.stages) 0 m.s.stages.length,.rsl (rowI m.s.worth) 0 m.s.worth.length,.int .i64 m.s.price,.rsl (rowI m.meas) 0 m.meas.length,.rsl (rowI m.mult) 0 m.mult.length] 0,.clos 113 [] [.rptr [.int .i64 kd] 0],.clos 119 [] [.rptr [.rsl (rowI plan) 0 plan.length] 0],J,J,J,.sl 0 g0 0 v0.length 1,.sl 1 g1 0 v1.length 1,.int .i64 (i - 1)]++Js 129),[⟨true,g0,1,true,(QD (rowI v0) (0+(Int.toNat i)*1) [.int .i64 e2]),true⟩,⟨true,g1,1,true,(QD (rowI v1) (0+(Int.toNat i)*1) [.int .i64 (Qx plan i)]),true⟩]⟩):G Try.prog E (yE Try.prog) (f83pS1 m kd plan i k k1 v0 v1 v2_0 v2_1 v2_2 v3 k11 g0 g1 g3) :=
 Qh (n:=400) (ds:=[]) (cs:=[]) (live:=[0,1,2,6,7,8]) (m:=2) (evs:=[.b false,.b false,.v (.int .i64 (Qx plan i)),.ld (.int .i64 e1),.ld (.int .i64 e2),.stop]) (obs:=_) hE.2.1 (hE.nogh _) Qi (by kernel_rfl) ho hg
theorem f83pW1 (m:Mch) (kd:Int) (plan:List Int) (i:Int) (k:(List Trn)) (k1:Nat) (v0:List Int) (v1:List Int) (v2_0:Int) (v2_1:Int) (v2_2:(List Trn)) (v3:List Int) (k11:Nat) {E:Env} {rv:((List Int) × (List Int))} (hE:Qf Try.prog 83 (.tup [.rsl (rowI rv.1) 0 rv.1.length,.rsl (rowI rv.2) 0 rv.2.length]) E)
 (h:(((k11:Int)<(k1:Int)→(∃ te:Trn,k[k11]?=some te∧(0≤te.to∧(∃ e:Int,v0[Int.toNat te.to]?=some e∧(0≤i∧(∃ e1:Int,m.mult[Int.toNat i]?=some e1∧(0≤te.to∧(∃ e2:Int,m.meas[Int.toNat te.to]?=some e2∧((I6 (Int.tdiv e1 e2))∧(e2 ≠ 0∧((I6 (e*(Int.tdiv e1 e2)))∧((v3.length+1)≤2147483648∧((I6 ((k11:Int)+1))∧f83pG1 E m kd plan i k k1 v0 v1 v2_0 v2_1 v2_2 (v3++[(e*(Int.tdiv e1 e2))]) (k11+1))))))))))))))∧(¬ ((k11:Int)<(k1:Int))→((v2_0=1→f83pG2 E m kd plan i v2_2 v2_2.length v0 v1 v2_0 v2_1 v2_2 v3 0)∧(¬ (v2_0=1)→((0≤i∧Int.toNat i<plan.length)∧(0≤i∧(∃ e:Int,v1[Int.toNat i]?=some e∧(0≤i∧(∃ e1:Int,(v1.set (Int.toNat i) (Qx plan i))[Int.toNat i]?=some e1∧(0≤e1∧(∃ e2:Int,v3[Int.toNat e1]?=some e2∧(0≤i∧(∃ e3:Int,v0[Int.toNat i]?=some e3∧((I6 (i - 1))∧VA E m kd plan (v0.set (Int.toNat i) e2) (v1.set (Int.toNat i) (Qx plan i)) (i - 1)))))))))))))))):f83pG1 E m kd plan i k k1 v0 v1 v2_0 v2_1 v2_2 v3 k11:=by
 intro g0 g1 g3
 rcases bft (decide ((k11:Int)<(k1:Int))) with hc0 | hc0
 · have h:=h.1 (odt hc0)
   obtain ⟨te,h1,h⟩:=h
   obtain ⟨h3,h⟩:=h
   obtain ⟨e,h2,h⟩:=h
   obtain ⟨h5,h⟩:=h
   obtain ⟨e1,h4,h⟩:=h
   obtain ⟨h7,h⟩:=h
   obtain ⟨e2,h6,h⟩:=h
   obtain ⟨q16_1,h⟩:=h
   obtain ⟨q17_1,h⟩:=h
   obtain ⟨q18_1,h⟩:=h
   obtain ⟨h8,h⟩:=h
   obtain ⟨q23_1,h⟩:=h
   refine p83p_1_0 m kd plan i k k1 v0 v1 v2_0 v2_1 v2_2 v3 k11 g0 g1 g3 te e e1 e2 hE ⟨hc0,(Qn h1),(rp cTrn 2 0 2 h1),(by decide),(Qj h3 h2),rfl,rfl,(rp cI 1 0 1 h2),(Qj h5 h4),(rp cI 1 0 1 h4),(Qj h7 h6),(rp cI 1 0 1 h6),q16_1,q17_1,q18_1,rfl,(by have hx:=XL cI (s:=1) (fun _=>rfl) v3; simp only [rowI] at hx ⊢; rw [hx]; simp),h8,rfl,q23_1,trivial⟩ ?_
   rw [(show rowI v3++[.int .i64 (e*(Int.tdiv e1 e2))]=rowI (v3++[(e*(Int.tdiv e1 e2))]) from (YO cI v3 [(e*(Int.tdiv e1 e2))]).symm)]; rw [(show (v3.length+1)=(v3++[(e*(Int.tdiv e1 e2))]).length from by simp)]; exact (h g0 g1 (g3+1))
 · have h:=h.2 (odf hc0)
   rcases bft (v2_0 == 1) with hc1 | hc1
   · have h:=h.1 (eq_of_beq hc1)
     exact p83p_1_1 m kd plan i k k1 v0 v1 v2_0 v2_1 v2_2 v3 k11 g0 g1 g3 hE ⟨hc0,hc1,trivial⟩ (h g0 g1 g3)
   · have h:=h.2 (ne_of_beq_false hc1)
     obtain ⟨h1,h⟩:=h
     obtain ⟨h3,h⟩:=h
     obtain ⟨e,h2,h⟩:=h
     obtain ⟨h5,h⟩:=h
     obtain ⟨e1,h4,h⟩:=h
     obtain ⟨h7,h⟩:=h
     obtain ⟨e2,h6,h⟩:=h
     obtain ⟨h9,h⟩:=h
     obtain ⟨e3,h8,h⟩:=h
     obtain ⟨q24_2,h⟩:=h
     refine p83p_1_2 m kd plan i k k1 v0 v1 v2_0 v2_1 v2_2 v3 k11 g0 g1 g3 e e1 e2 e3 hE ⟨hc0,hc1,(u119 (planned1_ok i plan v3 h1)),rfl,(Qj h3 h2),rfl,(rf cI 1 0 1 h2),rfl,(by have hx:=Qj h5 h4; simpa using hx),rfl,rfl,(by rw [(show QD (rowI v1) (0+(Int.toNat i)*1) [.int .i64 (Qx plan i)]=rowI (v1.set (Int.toNat i) (Qx plan i)) from QT cI (s:=1) (k:=0) (fun _=>rfl) h2 rfl (by first | decide | simp))]; exact rp cI 1 0 1 h4),(Qj h7 h6),rfl,rfl,(rp cI 1 0 1 h6),(Qj h9 h8),rfl,(rf cI 1 0 1 h8),rfl,q24_2,trivial⟩ ?_
     have h:=(h g0 g1)
     simp only [Wo,List.length_set] at h
     rw [(show QD (rowI v0) (0+(Int.toNat i)*1) [.int .i64 e2]=rowI (v0.set (Int.toNat i) e2) from QT cI (s:=1) (k:=0) (fun _=>rfl) h8 rfl (by first | decide | simp))]; rw [(show QD (rowI v1) (0+(Int.toNat i)*1) [.int .i64 (Qx plan i)]=rowI (v1.set (Int.toNat i) (Qx plan i)) from QT cI (s:=1) (k:=0) (fun _=>rfl) h2 rfl (by first | decide | simp))]
     exact h
theorem p83p_2_0 (m:Mch) (kd:Int) (plan:List Int) (i:Int) (j:(List Trn)) (j1:Nat) (v0:List Int) (v1:List Int) (v2_0:Int) (v2_1:Int) (v2_2:(List Trn)) (v3:List Int) (j11:Nat) (g0:Nat) (g1:Nat) (g3:Nat) (te:Trn) (e:Int) (e1:Int) {E:Env} {rv:AV} (hE:Qf Try.prog 83 rv E) (ho:AllP [(decide ((j11:Int)<(j1:Int)))=true,0≤(j11:Int)∧(j11:Int)<(j.length:Int),((Qk j).drop (0+(Int.toNat (j11:Int))*2)).take 2=[.int .i64 te.w,.int .i64 te.to],2≤2,0≤i∧i<(v0.length:Int),g0=g0,g0=g0,((rowI v0).drop (0+(Int.toNat i)*1)).take 1=[.int .i64 e],0≤(j11:Int)∧(j11:Int)<(v3.length:Int),g3=g3,g3=g3,((rowI v3).drop (0+(Int.toNat (j11:Int))*1)).take 1=[.int .i64 e1],InR .i64 (te.w*e1),InR .i64 (e+(te.w*e1)),0≤i∧i<(v0.length:Int),g0=g0,((0+(Int.toNat i)*1)+1)≤(rowI v0).length,g0=g0,InR .i64 ((j11:Int)+1)])
 (hg:G Try.prog E (f83pK2 Try.prog) ⟨([.rptr (yd m) 0,.clos 113 [] [.rptr [.int .i64 kd] 0],.clos 119 [] [.rptr [.rsl (rowI plan) 0 plan.length] 0],J,J,J,.sl 0 g0 0 v0.length 1,.sl 1 g1 0 v1.length 1,.int .i64 i,J,.sl 3 g3 0 v3.length 1]++jj 87 ([.rsl (Qk j) 0 j.length,.int .i64 (j1:Int),.int .i64 ((j11:Int)+1)]++Js 37)),[⟨true,g0,1,true,(QD (rowI v0) (0+(Int.toNat i)*1) [.int .i64 (e+(te.w*e1))]),true⟩,⟨true,g1,1,true,(rowI v1),true⟩,⟨true,0,1,true,[.int .i64 v2_0,.int .i64 v2_1,.rsl (Qk v2_2) 0 v2_2.length],false⟩,⟨true,g3,1,true,(rowI v3),true⟩]⟩):G Try.prog E (f83pK2 Try.prog) (f83pS2 m kd plan i j j1 v0 v1 v2_0 v2_1 v2_2 v3 j11 g0 g1 g3) :=
 Qh (n:=400) (ds:=[]) (cs:=[]) (live:=[0,1,2,6,7,8,10,98,99,100]) (m:=4) (evs:=[.b true,.ld (.agg [.int .i64 te.w,.int .i64 te.to]),.ld (.int .i64 e),.auto,.ld (.int .i64 e1),.stop]) (obs:=_) hE.2.1 (hE.nogh _) Qi (by kernel_rfl) ho hg
theorem p83p_2_1 (m:Mch) (kd:Int) (plan:List Int) (i:Int) (j:(List Trn)) (j1:Nat) (v0:List Int) (v1:List Int) (v2_0:Int) (v2_1:Int) (v2_2:(List Trn)) (v3:List Int) (j11:Nat) (g0:Nat) (g1:Nat) (g3:Nat) {E:Env} {rv:AV} (hE:Qf Try.prog 83 rv E) (ho:AllP [(decide ((j11:Int)<(j1:Int)))=false,InR .i64 (i - 1)])
 (hg:G Try.prog E (Vd Try.prog) ⟨(z83p_3 m kd plan g0 v0 g1 v1 i),[⟨true,g0,1,true,(rowI v0),true⟩,⟨true,g1,1,true,(rowI v1),true⟩]⟩):G Try.prog E (f83pK2 Try.prog) (f83pS2 m kd plan i j j1 v0 v1 v2_0 v2_1 v2_2 v3 j11 g0 g1 g3) :=
 Qh (n:=400) (ds:=[]) (cs:=[]) (live:=[0,1,2,6,7,8]) (m:=2) (evs:=[.b false,.stop]) (obs:=_) hE.2.1 (hE.nogh _) Qi (by kernel_rfl) ho hg
theorem f83pW2 (m:Mch) (kd:Int) (plan:List Int) (i:Int) (j:(List Trn)) (j1:Nat) (v0:List Int) (v1:List Int) (v2_0:Int) (v2_1:Int) (v2_2:(List Trn)) (v3:List Int) (j11:Nat) {E:Env} {rv:((List Int) × (List Int))} (hE:Qf Try.prog 83 (.tup [.rsl (rowI rv.1) 0 rv.1.length,.rsl (rowI rv.2) 0 rv.2.length]) E)
 (h:(((j11:Int)<(j1:Int)→(∃ te:Trn,j[j11]?=some te∧(0≤i∧(∃ e:Int,v0[Int.toNat i]?=some e∧(∃ e1:Int,v3[j11]?=some e1∧((I6 (te.w*e1))∧((I6 (e+(te.w*e1)))∧((I6 ((j11:Int)+1))∧f83pG2 E m kd plan i j j1 (v0.set (Int.toNat i) (e+(te.w*e1))) v1 v2_0 v2_1 v2_2 v3 (j11+1)))))))))∧(¬ ((j11:Int)<(j1:Int))→((I6 (i - 1))∧VA E m kd plan v0 v1 (i - 1))))):f83pG2 E m kd plan i j j1 v0 v1 v2_0 v2_1 v2_2 v3 j11:=by
 intro g0 g1 g3
 rcases bft (decide ((j11:Int)<(j1:Int))) with hc0 | hc0
 · have h:=h.1 (odt hc0)
   obtain ⟨te,h1,h⟩:=h
   obtain ⟨h3,h⟩:=h
   obtain ⟨e,h2,h⟩:=h
   obtain ⟨e1,h4,h⟩:=h
   obtain ⟨q15_1,h⟩:=h
   obtain ⟨q16_1,h⟩:=h
   obtain ⟨q21_1,h⟩:=h
   refine p83p_2_0 m kd plan i j j1 v0 v1 v2_0 v2_1 v2_2 v3 j11 g0 g1 g3 te e e1 hE ⟨hc0,(Qn h1),(rp cTrn 2 0 2 h1),(by decide),(Qj h3 h2),rfl,rfl,(rp cI 1 0 1 h2),(Qn h4),rfl,rfl,(rp cI 1 0 1 h4),q15_1,q16_1,(Qj h3 h2),rfl,(rf cI 1 0 1 h2),rfl,q21_1,trivial⟩ ?_
   have h:=(h g0 g1 g3)
   simp only [f83pS2,List.length_set] at h
   rw [(show QD (rowI v0) (0+(Int.toNat i)*1) [.int .i64 (e+(te.w*e1))]=rowI (v0.set (Int.toNat i) (e+(te.w*e1))) from QT cI (s:=1) (k:=0) (fun _=>rfl) h2 rfl (by first | decide | simp))]
   exact h
 · have h:=h.2 (odf hc0)
   obtain ⟨q1_1,h⟩:=h
   exact p83p_2_1 m kd plan i j j1 v0 v1 v2_0 v2_1 v2_2 v3 j11 g0 g1 g3 hE ⟨hc0,q1_1,trivial⟩ (h g0 g1)
theorem valueo_ok (m:Mch) (kd pa oa:Int) (hm:MOk m):Pure Try.prog 83 [.rptr (cMch m) 0,.clos 113 [] [.rptr [.int .i64 kd] 0],.clos 114 [] [.rptr [.int .i64 pa] 0,.rptr [.rptr (cMch m) 0] 0,.rptr [.int .i64 oa] 0]] (.tup [.rsl (rowI (valA m (Qu kd) (Qo m pa oa)).1) 0 (valA m (Qu kd) (Qo m pa oa)).1.length,.rsl (rowI (valA m (Qu kd) (Qo m pa oa)).2) 0 (valA m (Qu kd) (Qo m pa oa)).2.length]):=Qq Try.func83 f83ob fun E hE=>by
 have hw:WOk m (Qu kd) (Qo m pa oa):=wok_only
 have hform:=(QC hm.st).2.2.2.2
 have hn:=(QC hm.st).1
 have key:∀ (n:Nat) (p:List Int × List Int),n≤m.s.stages.length→VOk m n p→valA m (Qu kd) (Qo m pa oa)=valN m (Qu kd) (Qo m pa oa) n p→VB E m kd pa oa p.1 p.2 ((n:Int) - 1):=by
  intro n
  induction n with
  | zero =>
   intro p hn hp ha
   exact f83oW0 m kd pa oa p.1 p.2 _ (rv:=valA m (Qu kd) (Qo m pa oa)) hE ⟨fun h=>by omega,fun _=>by rw [ha,valN]⟩
  | succ i ih =>
   intro p hn' hp ha
   have hi:m.s.stages[i]?=some m.s.stages[i]:=List.getElem?_eq_getElem (by omega)
   have hx:m.s.stages.getD i ⟨0,0,[]⟩=m.s.stages[i]:=by simp [List.getD,hi]
   have en:Int.toNat (i:Int)=i:=Int.toNat_natCast i
   have e0:((i+1:Nat):Int) - 1=(i:Int):=by omega
   have hp2:=WD hm hw (by omega) hp
   have nx:=ih (Yf m (Qu kd) (Qo m pa oa) i p) (by omega) hp2 (by rw [ha,valN])
   have hfo:=XC hi (hform i (by omega))
   have hto:=XA hi (hform i (by omega))
   have htt:=YI hi (hform i (by omega))
   have hv0:p.1[i]?=some (p.1.getD i 0):=getD_some (by rw [hp.l1]; omega)
   have hv1:p.2[i]?=some (p.2.getD i 0):=getD_some (by rw [hp.l2]; omega)
   obtain ⟨q,q1,q2,q3,q4⟩:=hm.inv.rel i _ (by omega) hi
   unfold Yf at nx
   rw [hx] at nx
   generalize m.s.stages[i]=x at hi hx nx hfo hto htt q2 q4
   rw [e0]
   refine f83oW0 m kd pa oa p.1 p.2 (i:Int) (rv:=valA m (Qu kd) (Qo m pa oa)) hE ⟨fun _=>⟨by omega,x,by rw [en]; exact hi,fun h4=>⟨fun hpr=>⟨by omega,_,by rw [en]; exact hv0,by omega,?_⟩,fun hpr=>⟨by omega,?_⟩⟩,fun h4=>?_⟩,fun h=>by omega⟩
   · rw [if_pos h4,if_pos hpr] at nx
     rw [en]; exact nx
   · rw [if_pos h4,if_neg hpr] at nx
     exact nx
   rw [if_neg h4] at nx
   have hlen:1≤x.turns.length∧x.turns.length≤8:=by
    rcases hfo with ⟨h,-⟩ | ⟨-,-,h,-⟩
    · exact absurd h h4
    · exact h
   have inner:∀ (d k:Nat),k+d=x.turns.length→f83oG1 E m kd pa oa (i:Int) x.turns x.turns.length p.1 p.2 x.kind x.prize x.turns (Xi m i p.1 (x.turns.take k)) k:=by
    intro d
    induction d with
    | zero =>
     intro k hd
     rw [List.take_of_length_le (by omega)]
     have hall:=WI hm hi hp q1
     have hl:(Xi m i p.1 x.turns).length=x.turns.length:=by simp [Xi]
     have htot:=fun (h1:x.kind=1) (u:Int) (hu:m.meas[i]?=some u)=>sum_bd hm hi hp h1 hu
     have hch:=fun (h1:x.kind ≠ 1)=>hw.c1 i x _ hi h4 h1 hl (by omega)
     generalize Xi m i p.1 x.turns=N at nx hall hl htot hch
     refine f83oW1 m kd pa oa (i:Int) x.turns x.turns.length p.1 p.2 x.kind x.prize x.turns N k (rv:=valA m (Qu kd) (Qo m pa oa)) hE ⟨fun h=>by omega,fun _=>⟨fun h1=>?_,fun h1=>?_⟩⟩
     · rw [if_pos h1] at nx
       rw [if_pos h1] at q2
       have tb:=htot h1 _ q2
       have mb:=hm.inv.pos i _ (by omega) q2
       generalize q*totI x=u at q2 tb mb
       rw [hp.lo i (by omega),Int.zero_add] at nx
       have loop:∀ (d k:Nat) (vs:List Int) (a:Int),k+d=x.turns.length→vs.length=m.s.stages.length→vs[i]?=some a→0≤a→a+sumW (x.turns.drop k) (N.drop k)=sumW x.turns N→p.1.set i (sumW x.turns N)=vs.set i (sumW x.turns N)→f83oG2 E m kd pa oa (i:Int) x.turns x.turns.length vs p.2 x.kind x.prize x.turns N k:=by
        intro d
        induction d with
        | zero =>
         intro k vs a hd hvl hva ha0 hsum hset
         rw [List.drop_eq_nil_of_le (by omega),sumW,Int.add_zero] at hsum
         rw [← hsum] at hset
         rw [yX hva] at hset
         refine f83oW2 m kd pa oa (i:Int) x.turns x.turns.length vs p.2 x.kind x.prize x.turns N k (rv:=valA m (Qu kd) (Qo m pa oa)) hE ⟨fun h=>by omega,fun _=>⟨by omega,?_⟩⟩
         rw [← hset,hsum]; exact nx
         all_goals simp
        | succ d ih2 =>
         intro k vs a hd hvl hva ha0 hsum hset
         have hk:x.turns[k]?=some x.turns[k]:=List.getElem?_eq_getElem (by omega)
         have hN:N[k]?=some N[k]:=List.getElem?_eq_getElem (by omega)
         have e1:x.turns.drop k=x.turns[k] :: x.turns.drop (k+1):=List.drop_eq_getElem_cons (by omega)
         have e2:N.drop k=N[k] :: N.drop (k+1):=List.drop_eq_getElem_cons (by omega)
         rw [e1,e2,sumW] at hsum
         have rest:=yV (ts:=x.turns.drop (k+1)) (es:=N.drop (k+1)) (B:=10000*q) (fun e he=>hall e (List.mem_of_mem_drop he)) (fun t ht=>(htt.1.2 t (List.mem_of_mem_drop ht)).1) (by simp [hl])
         have b1:=(htt.1.2 _ (List.mem_of_getElem? hk)).1
         have b2:=(hall _ (List.mem_of_getElem? hN)).1
         generalize x.turns[k]=te at hk hsum b1
         generalize N[k]=e at hN hsum b2
         have b3:=Int.mul_nonneg b1 b2
         refine f83oW2 m kd pa oa (i:Int) x.turns x.turns.length vs p.2 x.kind x.prize x.turns N k (rv:=valA m (Qu kd) (Qo m pa oa)) hE ⟨fun _=>⟨te,hk,by omega,a,by rw [en]; exact hva,e,hN,by omega,by omega,by omega,?_⟩,fun h=>by omega⟩
         rw [en]
         exact ih2 (k+1) _ (a+te.w*e) (by omega) (by simp [hvl]) (by rw [List.getElem?_set_self (by omega)]) (by omega) (by omega) (by rw [List.set_set]; exact hset)
       exact loop x.turns.length 0 p.1 0 (by omega) hp.l1 (by rw [hv0,hp.lo i (by omega)]) (by omega) (by simp) rfl
     · rw [if_neg h1] at nx
       have hc:=hch h1
       have hcN:N[Int.toNat ((Qo m pa oa) (i:Int) N)]?=some (N.getD (Int.toNat ((Qo m pa oa) (i:Int) N)) 0):=getD_some hc.2
       refine ⟨⟨⟨by omega,by rw [en]; omega⟩,by omega,by omega⟩,by omega,_,by rw [en]; exact hv1,by omega,(Qo m pa oa) (i:Int) N,by rw [en,List.getElem?_set_self (by rw [hp.l2]; omega)],hc.1,_,hcN,by omega,_,by rw [en]; exact hv0,by omega,?_⟩
       rw [en]
       exact nx
    | succ d ih2 =>
     intro k hd
     have hk:x.turns[k]?=some x.turns[k]:=List.getElem?_eq_getElem (by omega)
     have nxt:=next_snoc (m:=m) (i:=i) (v:=p.1) hk
     have htm:=List.mem_of_getElem? hk
     generalize x.turns[k]=te at hk nxt htm
     obtain ⟨q',u,n1,n2,n3,n4,n5,n6,n7,n8,n9⟩:=next_bd hm hi hp htm
     have ht:=hto te htm
     have hvt:p.1[Int.toNat te.to]?=some (p.1.getD (Int.toNat te.to) 0):=getD_some (by rw [hp.l1]; omega)
     rw [Xv n1,Xv n2] at nxt
     refine f83oW1 m kd pa oa (i:Int) x.turns x.turns.length p.1 p.2 x.kind x.prize x.turns _ k (rv:=valA m (Qu kd) (Qo m pa oa)) hE ⟨fun _=>⟨te,hk,ht.2.2,_,hvt,by omega,q',by rw [en]; exact n1,ht.2.2,u,n2,by omega,by omega,by omega,?_,by omega,?_⟩,fun h=>by omega⟩
     · simp [Xi]; omega
     · rw [← nxt]; exact ih2 (k+1) (by omega)
   exact inner x.turns.length 0 (by omega)
 have e:VB E m kd pa oa (Xu m.s.stages.length) (Xu m.s.stages.length) ((m.s.stages.length:Int) - 1):=key m.s.stages.length (Xu m.s.stages.length,Xu m.s.stages.length) (Nat.le_refl _) (yS hm) rfl
 exact f83oW m kd pa oa (rv:=valA m (Qu kd) (Qo m pa oa)) hE ⟨by omega,by omega,by omega,e⟩
theorem valuep_ok (m:Mch) (kd:Int) (plan:List Int) (hm:MOk m) (hpl:Qw m.s plan=true):Pure Try.prog 83 [.rptr (cMch m) 0,.clos 113 [] [.rptr [.int .i64 kd] 0],.clos 119 [] [.rptr [.rsl (rowI plan) 0 plan.length] 0]] (.tup [.rsl (rowI (valA m (Qu kd) (fun i _=>Qx plan i)).1) 0 (valA m (Qu kd) (fun i _=>Qx plan i)).1.length,.rsl (rowI (valA m (Qu kd) (fun i _=>Qx plan i)).2) 0 (valA m (Qu kd) (fun i _=>Qx plan i)).2.length]):=Qq Try.func83 f83pb fun E hE=>by
 have hw:WOk m (Qu kd) (fun i _=>Qx plan i):=WB hpl
 have hform:=(QC hm.st).2.2.2.2
 have hn:=(QC hm.st).1
 have key:∀ (n:Nat) (p:List Int × List Int),n≤m.s.stages.length→VOk m n p→valA m (Qu kd) (fun i _=>Qx plan i)=valN m (Qu kd) (fun i _=>Qx plan i) n p→VA E m kd plan p.1 p.2 ((n:Int) - 1):=by
  intro n
  induction n with
  | zero =>
   intro p hn hp ha
   exact f83pW0 m kd plan p.1 p.2 _ (rv:=valA m (Qu kd) (fun i _=>Qx plan i)) hE ⟨fun h=>by omega,fun _=>by rw [ha,valN]⟩
  | succ i ih =>
   intro p hn' hp ha
   have hi:m.s.stages[i]?=some m.s.stages[i]:=List.getElem?_eq_getElem (by omega)
   have hx:m.s.stages.getD i ⟨0,0,[]⟩=m.s.stages[i]:=by simp [List.getD,hi]
   have en:Int.toNat (i:Int)=i:=Int.toNat_natCast i
   have e0:((i+1:Nat):Int) - 1=(i:Int):=by omega
   have hp2:=WD hm hw (by omega) hp
   have nx:=ih (Yf m (Qu kd) (fun i _=>Qx plan i) i p) (by omega) hp2 (by rw [ha,valN])
   have hfo:=XC hi (hform i (by omega))
   have hto:=XA hi (hform i (by omega))
   have htt:=YI hi (hform i (by omega))
   have hv0:p.1[i]?=some (p.1.getD i 0):=getD_some (by rw [hp.l1]; omega)
   have hv1:p.2[i]?=some (p.2.getD i 0):=getD_some (by rw [hp.l2]; omega)
   obtain ⟨q,q1,q2,q3,q4⟩:=hm.inv.rel i _ (by omega) hi
   unfold Yf at nx
   rw [hx] at nx
   generalize m.s.stages[i]=x at hi hx nx hfo hto htt q2 q4
   rw [e0]
   refine f83pW0 m kd plan p.1 p.2 (i:Int) (rv:=valA m (Qu kd) (fun i _=>Qx plan i)) hE ⟨fun _=>⟨by omega,x,by rw [en]; exact hi,fun h4=>⟨fun hpr=>⟨by omega,_,by rw [en]; exact hv0,by omega,?_⟩,fun hpr=>⟨by omega,?_⟩⟩,fun h4=>?_⟩,fun h=>by omega⟩
   · rw [if_pos h4,if_pos hpr] at nx
     rw [en]; exact nx
   · rw [if_pos h4,if_neg hpr] at nx
     exact nx
   rw [if_neg h4] at nx
   have hlen:1≤x.turns.length∧x.turns.length≤8:=by
    rcases hfo with ⟨h,-⟩ | ⟨-,-,h,-⟩
    · exact absurd h h4
    · exact h
   have inner:∀ (d k:Nat),k+d=x.turns.length→f83pG1 E m kd plan (i:Int) x.turns x.turns.length p.1 p.2 x.kind x.prize x.turns (Xi m i p.1 (x.turns.take k)) k:=by
    intro d
    induction d with
    | zero =>
     intro k hd
     rw [List.take_of_length_le (by omega)]
     have hall:=WI hm hi hp q1
     have hl:(Xi m i p.1 x.turns).length=x.turns.length:=by simp [Xi]
     have htot:=fun (h1:x.kind=1) (u:Int) (hu:m.meas[i]?=some u)=>sum_bd hm hi hp h1 hu
     have hch:=fun (h1:x.kind ≠ 1)=>hw.c1 i x _ hi h4 h1 hl (by omega)
     generalize Xi m i p.1 x.turns=N at nx hall hl htot hch
     refine f83pW1 m kd plan (i:Int) x.turns x.turns.length p.1 p.2 x.kind x.prize x.turns N k (rv:=valA m (Qu kd) (fun i _=>Qx plan i)) hE ⟨fun h=>by omega,fun _=>⟨fun h1=>?_,fun h1=>?_⟩⟩
     · rw [if_pos h1] at nx
       rw [if_pos h1] at q2
       have tb:=htot h1 _ q2
       have mb:=hm.inv.pos i _ (by omega) q2
       generalize q*totI x=u at q2 tb mb
       rw [hp.lo i (by omega),Int.zero_add] at nx
       have loop:∀ (d k:Nat) (vs:List Int) (a:Int),k+d=x.turns.length→vs.length=m.s.stages.length→vs[i]?=some a→0≤a→a+sumW (x.turns.drop k) (N.drop k)=sumW x.turns N→p.1.set i (sumW x.turns N)=vs.set i (sumW x.turns N)→f83pG2 E m kd plan (i:Int) x.turns x.turns.length vs p.2 x.kind x.prize x.turns N k:=by
        intro d
        induction d with
        | zero =>
         intro k vs a hd hvl hva ha0 hsum hset
         rw [List.drop_eq_nil_of_le (by omega),sumW,Int.add_zero] at hsum
         rw [← hsum] at hset
         rw [yX hva] at hset
         refine f83pW2 m kd plan (i:Int) x.turns x.turns.length vs p.2 x.kind x.prize x.turns N k (rv:=valA m (Qu kd) (fun i _=>Qx plan i)) hE ⟨fun h=>by omega,fun _=>⟨by omega,?_⟩⟩
         rw [← hset,hsum]; exact nx
         all_goals simp
        | succ d ih2 =>
         intro k vs a hd hvl hva ha0 hsum hset
         have hk:x.turns[k]?=some x.turns[k]:=List.getElem?_eq_getElem (by omega)
         have hN:N[k]?=some N[k]:=List.getElem?_eq_getElem (by omega)
         have e1:x.turns.drop k=x.turns[k] :: x.turns.drop (k+1):=List.drop_eq_getElem_cons (by omega)
         have e2:N.drop k=N[k] :: N.drop (k+1):=List.drop_eq_getElem_cons (by omega)
         rw [e1,e2,sumW] at hsum
         have rest:=yV (ts:=x.turns.drop (k+1)) (es:=N.drop (k+1)) (B:=10000*q) (fun e he=>hall e (List.mem_of_mem_drop he)) (fun t ht=>(htt.1.2 t (List.mem_of_mem_drop ht)).1) (by simp [hl])
         have b1:=(htt.1.2 _ (List.mem_of_getElem? hk)).1
         have b2:=(hall _ (List.mem_of_getElem? hN)).1
         generalize x.turns[k]=te at hk hsum b1
         generalize N[k]=e at hN hsum b2
         have b3:=Int.mul_nonneg b1 b2
         refine f83pW2 m kd plan (i:Int) x.turns x.turns.length vs p.2 x.kind x.prize x.turns N k (rv:=valA m (Qu kd) (fun i _=>Qx plan i)) hE ⟨fun _=>⟨te,hk,by omega,a,by rw [en]; exact hva,e,hN,by omega,by omega,by omega,?_⟩,fun h=>by omega⟩
         rw [en]
         exact ih2 (k+1) _ (a+te.w*e) (by omega) (by simp [hvl]) (by rw [List.getElem?_set_self (by omega)]) (by omega) (by omega) (by rw [List.set_set]; exact hset)
       exact loop x.turns.length 0 p.1 0 (by omega) hp.l1 (by rw [hv0,hp.lo i (by omega)]) (by omega) (by simp) rfl
     · rw [if_neg h1] at nx
       have hc:=hch h1
       have hcN:N[Int.toNat ((fun i _=>Qx plan i) (i:Int) N)]?=some (N.getD (Int.toNat ((fun i _=>Qx plan i) (i:Int) N)) 0):=getD_some hc.2
       refine ⟨⟨by omega,by rw [en,(YP hpl).1]; omega⟩,by omega,_,by rw [en]; exact hv1,by omega,(fun i _=>Qx plan i) (i:Int) N,by rw [en,List.getElem?_set_self (by rw [hp.l2]; omega)],hc.1,_,hcN,by omega,_,by rw [en]; exact hv0,by omega,?_⟩
       rw [en]
       exact nx
    | succ d ih2 =>
     intro k hd
     have hk:x.turns[k]?=some x.turns[k]:=List.getElem?_eq_getElem (by omega)
     have nxt:=next_snoc (m:=m) (i:=i) (v:=p.1) hk
     have htm:=List.mem_of_getElem? hk
     generalize x.turns[k]=te at hk nxt htm
     obtain ⟨q',u,n1,n2,n3,n4,n5,n6,n7,n8,n9⟩:=next_bd hm hi hp htm
     have ht:=hto te htm
     have hvt:p.1[Int.toNat te.to]?=some (p.1.getD (Int.toNat te.to) 0):=getD_some (by rw [hp.l1]; omega)
     rw [Xv n1,Xv n2] at nxt
     refine f83pW1 m kd plan (i:Int) x.turns x.turns.length p.1 p.2 x.kind x.prize x.turns _ k (rv:=valA m (Qu kd) (fun i _=>Qx plan i)) hE ⟨fun _=>⟨te,hk,ht.2.2,_,hvt,by omega,q',by rw [en]; exact n1,ht.2.2,u,n2,by omega,by omega,by omega,?_,by omega,?_⟩,fun h=>by omega⟩
     · simp [Xi]; omega
     · rw [← nxt]; exact ih2 (k+1) (by omega)
   exact inner x.turns.length 0 (by omega)
 have e:VA E m kd plan (Xu m.s.stages.length) (Xu m.s.stages.length) ((m.s.stages.length:Int) - 1):=key m.s.stages.length (Xu m.s.stages.length,Xu m.s.stages.length) (Nat.le_refl _) (yS hm) rfl
 exact f83pW m kd plan (rv:=valA m (Qu kd) (fun i _=>Qx plan i)) hE ⟨by omega,by omega,by omega,e⟩
end Go.Proofs.Ytfgmlaeikcfpbaa
namespace Go.Proofs.Ytfgmlaeikcfpbaa
open Go Ax
open Go.Proofs
structure Fr where
 num:Int
 den:Int
def cFr (e:Fr):List AV:=[.int .i64 e.num,.int .i64 e.den]
def YJ (l:List Fr):List AV:=l.flatMap cFr
def Xy (n d:Int):Fr:=⟨Int.tdiv n (iMax (gcdI (iMax n (0 - n)) d) 1),Int.tdiv d (iMax (gcdI (iMax n (0 - n)) d) 1)⟩
def QM (m:Mch) (w:Int→Int) (ch:Int→List Int→Int):Fr:=Xy ((valA m w ch).1.getD 0 0) (m.meas.getD 0 0)
theorem f87b:Try.f87.body=some (Qe Try.prog 87):=by kernel_rfl
theorem u87 {a c k:List AV} {r:AV} (h:Pure Try.prog 87 (a++c++k) r):Qg Try.prog (.clos 87 a k) c r:=Ql Try.func87 (by kernel_rfl) f87b h
theorem p87_start_0 (n:Int) (d:Int) {E:Env} {res:AV} (hE:Qf Try.prog 87 res E) (ho:AllP [InR .i64 (0 - n),Qg Try.prog (.clos 117 [] []) [.int .i64 (iMax n (0 - n)),.int .i64 d] (.int .i64 (iMax (gcdI (iMax n (0 - n)) d) 1)),InR .i64 (Int.tdiv n (iMax (gcdI (iMax n (0 - n)) d) 1)),(iMax (gcdI (iMax n (0 - n)) d) 1) ≠ 0,InR .i64 (Int.tdiv d (iMax (gcdI (iMax n (0 - n)) d) 1)),(iMax (gcdI (iMax n (0 - n)) d) 1) ≠ 0,2≤2])
 (hr:AvLe (.agg [.int .i64 (Int.tdiv n (iMax (gcdI (iMax n (0 - n)) d) 1)),.int .i64 (Int.tdiv d (iMax (gcdI (iMax n (0 - n)) d) 1))]) res):G Try.prog E [.code (Qe Try.prog 87)] ⟨[.int .i64 n,.int .i64 d]++unds (Try.f87.ntmps - 2),[]⟩ :=
 Qc (n:=400) (evs:=[.v (.int .i64 (iMax (gcdI (iMax n (0 - n)) d) 1))]) (obs:=_) hE Try.func87 Qi (by kernel_rfl) ho hr
theorem f87W (n:Int) (d:Int) {E:Env} {rv:Fr} (hE:Qf Try.prog 87 (.agg [.int .i64 rv.num,.int .i64 rv.den]) E)
 (h:((I6 (0 - n))∧((0≤(iMax n (0 - n))∧0≤d)∧((I6 (Int.tdiv n (iMax (gcdI (iMax n (0 - n)) d) 1)))∧((iMax (gcdI (iMax n (0 - n)) d) 1) ≠ 0∧((I6 (Int.tdiv d (iMax (gcdI (iMax n (0 - n)) d) 1)))∧((iMax (gcdI (iMax n (0 - n)) d) 1) ≠ 0∧rv=(⟨(Int.tdiv n (iMax (gcdI (iMax n (0 - n)) d) 1)),(Int.tdiv d (iMax (gcdI (iMax n (0 - n)) d) 1))⟩:Fr)))))))):G Try.prog E [.code (Qe Try.prog 87)] ⟨[.int .i64 n,.int .i64 d]++unds (Try.f87.ntmps - 2),[]⟩:=by
 obtain ⟨q0_0,h⟩:=h
 obtain ⟨h1,h⟩:=h
 obtain ⟨q2_0,h⟩:=h
 obtain ⟨q3_0,h⟩:=h
 obtain ⟨q4_0,h⟩:=h
 obtain ⟨q5_0,h⟩:=h
 exact p87_start_0 n d hE ⟨q0_0,(u117 (VY (iMax n (0 - n)) d h1)),q2_0,q3_0,q4_0,q5_0,(by decide),trivial⟩ (AvLe.of_eq (by rw [h]; try rfl))
theorem iMax_pos {a:Int}:1≤iMax a 1:=by unfold iMax; split <;> omega
theorem tdiv_bd {n g B:Int} (hg:1≤g) (h1:-B≤n) (h2:n≤B):-B≤Int.tdiv n g∧Int.tdiv n g≤B:=by
 have key:∀ a:Int,0≤a→0≤Int.tdiv a g∧Int.tdiv a g≤a:=fun a ha=>by
  rw [Int.tdiv_eq_ediv_of_nonneg ha]
  exact ⟨Int.ediv_nonneg ha (by omega),Int.ediv_le_self g ha⟩
 by_cases h:0≤n
 · have:=key n h; omega
 · have h3:=key (-n) (by omega)
   rw [Int.neg_tdiv] at h3
   omega
theorem frac_ok (n d:Int) (h:(-100000000000000000≤n∧n≤100000000000000000)∧0<d∧d≤1000000000000):Pure Try.prog 87 [.int .i64 n,.int .i64 d] (.agg [.int .i64 (Xy n d).num,.int .i64 (Xy n d).den]):=Qq Try.func87 f87b fun E hE=>by
 have h0:0≤iMax n (0 - n):=by unfold iMax; split <;> omega
 have hg:1≤iMax (gcdI (iMax n (0 - n)) d) 1:=iMax_pos
 have b1:=tdiv_bd hg h.1.1 h.1.2
 have b2:=tdiv_bd (n:=d) (B:=1000000000000) hg (by omega) (by omega)
 exact f87W n d (rv:=Xy n d) hE ⟨by omega,⟨h0,by omega⟩,by omega,by omega,by omega,by omega,rfl⟩
theorem meas0 {m:Mch} (hm:MOk m):∃ u,m.meas[0]?=some u∧0<u∧u≤1000000000000:=by
 have hn:=(QC hm.st).1
 have hg:m.meas[0]?=some (m.meas[0]'(by rw [hm.inv.l1]; omega)):=List.getElem?_eq_getElem _
 exact ⟨_,hg,hm.inv.pos 0 _ (by omega) hg⟩
theorem val0 {m:Mch} (hm:MOk m) {w:Int→Int} {ch:Int→List Int→Int} (hw:WOk m w ch):∃ v,(valA m w ch).1[0]?=some v∧(-100000000000000000≤v∧v≤100000000000000000):=by
 have hn:=(QC hm.st).1
 have hv:=val_okA hm hw
 obtain ⟨u,h1,h2⟩:=meas0 hm
 have:=hv.hi 0 u (by omega) h1
 exact ⟨_,getD_some (by rw [hv.l1]; omega),by omega,by omega⟩
theorem f75ob:Try.f75.body=some (Qe Try.prog 75):=by kernel_rfl
abbrev z75o_1 (m:Mch):List AV:=[.rsl (Qd m.s.stages) 0 m.s.stages.length,.rsl (rowI m.s.worth) 0 m.s.worth.length,.int .i64 m.s.price,.rsl (rowI m.meas) 0 m.meas.length,.rsl (rowI m.mult) 0 m.mult.length]
abbrev z75o_2 (m:Mch) (kd:Int) (pa:Int) (oa:Int):AV:=.tup [.rsl (rowI ((valA m (Qu kd) (Qo m pa oa)).1)) 0 (((valA m (Qu kd) (Qo m pa oa)).1).length),.rsl (rowI ((valA m (Qu kd) (Qo m pa oa)).2)) 0 (((valA m (Qu kd) (Qo m pa oa)).2).length)]
theorem p75o_start_0 (m:Mch) (kd pa oa:Int) (e:Int) (e1:Int) {E:Env} {res:AV} (hE:Qf Try.prog 75 res E) (ho:AllP [Qg Try.prog (.clos 83 [] []) [.rptr (z75o_1 m) 0,.clos 113 [] [.rptr [.int .i64 kd] 0],.clos 114 [] [.rptr [.int .i64 pa] 0,.rptr [.rptr (z75o_1 m) 0] 0,.rptr [.int .i64 oa] 0]] (z75o_2 m kd pa oa),(0:Int)≤0∧(0:Int)<((((valA m (Qu kd) (Qo m pa oa)).1).length:Nat):Int),((rowI ((valA m (Qu kd) (Qo m pa oa)).1)).drop (0+0*1)).take 1=[.int .i64 e],(0:Int)≤0∧(0:Int)<(m.meas.length:Int),((rowI m.meas).drop (0+0*1)).take 1=[.int .i64 e1],Qg Try.prog (.clos 87 [] []) [.int .i64 e,.int .i64 e1] (.agg [.int .i64 ((Xy e e1).num),.int .i64 ((Xy e e1).den)]),2≤2])
 (hr:AvLe (.agg [.int .i64 ((Xy e e1).num),.int .i64 ((Xy e e1).den)]) res):G Try.prog E [.code (Qe Try.prog 75)] ⟨[.rptr (z75o_1 m) 0,.clos 113 [] [.rptr [.int .i64 kd] 0],.clos 114 [] [.rptr [.int .i64 pa] 0,.rptr [.rptr (z75o_1 m) 0] 0,.rptr [.int .i64 oa] 0]]++unds (Try.f75.ntmps - 3),[]⟩ :=
 Qc (n:=400) (evs:=[.v (z75o_2 m kd pa oa),.ld (.int .i64 e),.auto,.ld (.int .i64 e1),.v (.agg [.int .i64 ((Xy e e1).num),.int .i64 ((Xy e e1).den)])]) (obs:=_) hE Try.func75 Qi (by kernel_rfl) ho hr
theorem f75oW (m:Mch) (kd pa oa:Int) {E:Env} {rv:Fr} (hE:Qf Try.prog 75 (.agg [.int .i64 rv.num,.int .i64 rv.den]) E)
 (h:((MOk m)∧(∃ e:Int,((valA m (Qu kd) (Qo m pa oa)).1)[0]?=some e∧(∃ e1:Int,m.meas[0]?=some e1∧(((-100000000000000000≤e∧e≤100000000000000000)∧0<e1∧e1≤1000000000000)∧rv=(Xy e e1)))))):G Try.prog E [.code (Qe Try.prog 75)] ⟨[.rptr [.rsl (Qd m.s.stages) 0 m.s.stages.length,.rsl (rowI m.s.worth) 0 m.s.worth.length,.int .i64 m.s.price,.rsl (rowI m.meas) 0 m.meas.length,.rsl (rowI m.mult) 0 m.mult.length] 0,.clos 113 [] [.rptr [.int .i64 kd] 0],.clos 114 [] [.rptr [.int .i64 pa] 0,.rptr [.rptr [.rsl (Qd m.s.stages) 0 m.s.stages.length,.rsl (rowI m.s.worth) 0 m.s.worth.length,.int .i64 m.s.price,.rsl (rowI m.meas) 0 m.meas.length,.rsl (rowI m.mult) 0 m.mult.length] 0] 0,.rptr [.int .i64 oa] 0]]++unds (Try.f75.ntmps - 3),[]⟩:=by
 obtain ⟨h1,h⟩:=h
 obtain ⟨e,h2,h⟩:=h
 obtain ⟨e1,h3,h⟩:=h
 obtain ⟨h4,h⟩:=h
 exact p75o_start_0 m kd pa oa e e1 hE ⟨(Ql Try.func83 (by kernel_rfl) f83ob (valueo_ok m kd pa oa h1)),(Qn h2),(rp cI 1 0 1 h2),(Qn h3),(rp cI 1 0 1 h3),(u87 (frac_ok e e1 h4)),(by decide),trivial⟩ (AvLe.of_eq (by rw [h]; try rfl))
theorem f75pb:Try.f75.body=some (Qe Try.prog 75):=by kernel_rfl
abbrev z75p_1 (m:Mch) (kd:Int) (plan:List Int):List AV:=[.rptr [.rsl (Qd m.s.stages) 0 m.s.stages.length,.rsl (rowI m.s.worth) 0 m.s.worth.length,.int .i64 m.s.price,.rsl (rowI m.meas) 0 m.meas.length,.rsl (rowI m.mult) 0 m.mult.length] 0,.clos 113 [] [.rptr [.int .i64 kd] 0],.clos 119 [] [.rptr [.rsl (rowI plan) 0 plan.length] 0]]
theorem p75p_start_0 (m:Mch) (kd:Int) (plan:List Int) (e:Int) (e1:Int) {E:Env} {res:AV} (hE:Qf Try.prog 75 res E) (ho:AllP [Qg Try.prog (.clos 83 [] []) (z75p_1 m kd plan) (.tup [.rsl (rowI ((valA m (Qu kd) (fun i _=>Qx plan i)).1)) 0 (((valA m (Qu kd) (fun i _=>Qx plan i)).1).length),.rsl (rowI ((valA m (Qu kd) (fun i _=>Qx plan i)).2)) 0 (((valA m (Qu kd) (fun i _=>Qx plan i)).2).length)]),(0:Int)≤0∧(0:Int)<((((valA m (Qu kd) (fun i _=>Qx plan i)).1).length:Nat):Int),((rowI ((valA m (Qu kd) (fun i _=>Qx plan i)).1)).drop (0+0*1)).take 1=[.int .i64 e],(0:Int)≤0∧(0:Int)<(m.meas.length:Int),((rowI m.meas).drop (0+0*1)).take 1=[.int .i64 e1],Qg Try.prog (.clos 87 [] []) [.int .i64 e,.int .i64 e1] (.agg [.int .i64 ((Xy e e1).num),.int .i64 ((Xy e e1).den)]),2≤2])
 (hr:AvLe (.agg [.int .i64 ((Xy e e1).num),.int .i64 ((Xy e e1).den)]) res):G Try.prog E [.code (Qe Try.prog 75)] ⟨(z75p_1 m kd plan)++unds (Try.f75.ntmps - 3),[]⟩ :=
 Qc (n:=400) (evs:=[.v (.tup [.rsl (rowI ((valA m (Qu kd) (fun i _=>Qx plan i)).1)) 0 (((valA m (Qu kd) (fun i _=>Qx plan i)).1).length),.rsl (rowI ((valA m (Qu kd) (fun i _=>Qx plan i)).2)) 0 (((valA m (Qu kd) (fun i _=>Qx plan i)).2).length)]),.ld (.int .i64 e),.auto,.ld (.int .i64 e1),.v (.agg [.int .i64 ((Xy e e1).num),.int .i64 ((Xy e e1).den)])]) (obs:=_) hE Try.func75 Qi (by kernel_rfl) ho hr
theorem f75pW (m:Mch) (kd:Int) (plan:List Int) {E:Env} {rv:Fr} (hE:Qf Try.prog 75 (.agg [.int .i64 rv.num,.int .i64 rv.den]) E)
 (h:((MOk m∧Qw m.s plan=true)∧(∃ e:Int,((valA m (Qu kd) (fun i _=>Qx plan i)).1)[0]?=some e∧(∃ e1:Int,m.meas[0]?=some e1∧(((-100000000000000000≤e∧e≤100000000000000000)∧0<e1∧e1≤1000000000000)∧rv=(Xy e e1)))))):G Try.prog E [.code (Qe Try.prog 75)] ⟨[.rptr [.rsl (Qd m.s.stages) 0 m.s.stages.length,.rsl (rowI m.s.worth) 0 m.s.worth.length,.int .i64 m.s.price,.rsl (rowI m.meas) 0 m.meas.length,.rsl (rowI m.mult) 0 m.mult.length] 0,.clos 113 [] [.rptr [.int .i64 kd] 0],.clos 119 [] [.rptr [.rsl (rowI plan) 0 plan.length] 0]]++unds (Try.f75.ntmps - 3),[]⟩:=by
 obtain ⟨h1,h⟩:=h
 obtain ⟨e,h2,h⟩:=h
 obtain ⟨e1,h3,h⟩:=h
 obtain ⟨h4,h⟩:=h
 exact p75p_start_0 m kd plan e e1 hE ⟨(Ql Try.func83 (by kernel_rfl) f83pb (valuep_ok m kd plan h1.1 h1.2)),(Qn h2),(rp cI 1 0 1 h2),(Qn h3),(rp cI 1 0 1 h3),(u87 (frac_ok e e1 h4)),(by decide),trivial⟩ (AvLe.of_eq (by rw [h]; try rfl))
theorem firsto_ok (m:Mch) (kd pa oa:Int) (hm:MOk m):Pure Try.prog 75 [.rptr (cMch m) 0,.clos 113 [] [.rptr [.int .i64 kd] 0],.clos 114 [] [.rptr [.int .i64 pa] 0,.rptr [.rptr (cMch m) 0] 0,.rptr [.int .i64 oa] 0]] (.agg [.int .i64 (QM m (Qu kd) (Qo m pa oa)).num,.int .i64 (QM m (Qu kd) (Qo m pa oa)).den]):=Qq Try.func75 f75ob fun E hE=>by
 obtain ⟨v,hv,hb⟩:=val0 hm (w:=(Qu kd)) (ch:=(Qo m pa oa)) (wok_only)
 obtain ⟨u,hu,hb2⟩:=meas0 hm
 exact f75oW m kd pa oa (rv:=QM m (Qu kd) (Qo m pa oa)) hE ⟨hm,v,hv,u,hu,⟨hb,hb2⟩,by rw [QM,Xv hv,Xv hu]⟩
theorem firstp_ok (m:Mch) (kd:Int) (plan:List Int) (hm:MOk m) (hpl:Qw m.s plan=true):Pure Try.prog 75 [.rptr (cMch m) 0,.clos 113 [] [.rptr [.int .i64 kd] 0],.clos 119 [] [.rptr [.rsl (rowI plan) 0 plan.length] 0]] (.agg [.int .i64 (QM m (Qu kd) (fun i _=>Qx plan i)).num,.int .i64 (QM m (Qu kd) (fun i _=>Qx plan i)).den]):=Qq Try.func75 f75pb fun E hE=>by
 obtain ⟨v,hv,hb⟩:=val0 hm (w:=(Qu kd)) (ch:=(fun i _=>Qx plan i)) (WB hpl)
 obtain ⟨u,hu,hb2⟩:=meas0 hm
 exact f75pW m kd plan (rv:=QM m (Qu kd) (fun i _=>Qx plan i)) hE ⟨⟨hm,hpl⟩,v,hv,u,hu,⟨hb,hb2⟩,by rw [QM,Xv hv,Xv hu]⟩
theorem f72b:Try.f72.body=some (Qe Try.prog 72):=by kernel_rfl
theorem u72 {a c k:List AV} {r:AV} (h:Pure Try.prog 72 (a++c++k) r):Qg Try.prog (.clos 72 a k) c r:=Ql Try.func72 (by kernel_rfl) f72b h
abbrev z72_1 (m:Mch):List AV:=[.rsl (Qd m.s.stages) 0 m.s.stages.length,.rsl (rowI m.s.worth) 0 m.s.worth.length,.int .i64 m.s.price,.rsl (rowI m.meas) 0 m.meas.length,.rsl (rowI m.mult) 0 m.mult.length]
theorem p72_start_0 (m:Mch) (kd pa oa:Int) {E:Env} {res:AV} (hE:Qf Try.prog 72 res E) (ho:AllP [Qg Try.prog (.clos 73 [] []) [.rptr (z72_1 m) 0,.int .i64 kd] (.bool (Wy m kd)),(Wy m kd)=true,Qg Try.prog (.clos 74 [] []) [.rsl [.int .i64 pa,.int .i64 oa] 0 2] (.bool (aimsI ([pa,oa]))),0=0])
 (hr:AvLe (.bool (aimsI ([pa,oa]))) res):G Try.prog E [.code (Qe Try.prog 72)] ⟨[.rptr (z72_1 m) 0,.rptr [.int .i64 kd] 0,.rptr [.int .i64 pa] 0,.rptr [.int .i64 oa] 0]++unds (Try.f72.ntmps - 4),[]⟩ :=
 Qc (n:=400) (evs:=[.v (.bool (Wy m kd)),.b true,.v (.bool (aimsI ([pa,oa])))]) (obs:=_) hE Try.func72 Qi (by kernel_rfl) ho hr
theorem p72_start_1 (m:Mch) (kd pa oa:Int) {E:Env} {res:AV} (hE:Qf Try.prog 72 res E) (ho:AllP [Qg Try.prog (.clos 73 [] []) [.rptr (z72_1 m) 0,.int .i64 kd] (.bool (Wy m kd)),(Wy m kd)=false])
 (hr:AvLe (.bool false) res):G Try.prog E [.code (Qe Try.prog 72)] ⟨[.rptr (z72_1 m) 0,.rptr [.int .i64 kd] 0,.rptr [.int .i64 pa] 0,.rptr [.int .i64 oa] 0]++unds (Try.f72.ntmps - 4),[]⟩ :=
 Qc (n:=400) (evs:=[.v (.bool (Wy m kd)),.b false]) (obs:=_) hE Try.func72 Qi (by kernel_rfl) ho hr
theorem f72W (m:Mch) (kd pa oa:Int) {E:Env} {rv:Bool} (hE:Qf Try.prog 72 (.bool rv) E)
 (h:((m.s.worth.length≤1000000)∧(((Wy m kd)=true→((([pa,oa]).length≤9223372036854775807)∧rv=(aimsI ([pa,oa]))))∧((Wy m kd)=false→rv=false)))):G Try.prog E [.code (Qe Try.prog 72)] ⟨[.rptr [.rsl (Qd m.s.stages) 0 m.s.stages.length,.rsl (rowI m.s.worth) 0 m.s.worth.length,.int .i64 m.s.price,.rsl (rowI m.meas) 0 m.meas.length,.rsl (rowI m.mult) 0 m.mult.length] 0,.rptr [.int .i64 kd] 0,.rptr [.int .i64 pa] 0,.rptr [.int .i64 oa] 0]++unds (Try.f72.ntmps - 4),[]⟩:=by
 obtain ⟨h1,h⟩:=h
 rcases bft (Wy m kd) with hc0 | hc0
 · have h:=h.1 hc0
   obtain ⟨h2,h⟩:=h
   exact p72_start_0 m kd pa oa hE ⟨(u73 (kind_ok m kd h1)),hc0,(u74 (aims_ok ([pa,oa]) h2)),rfl,trivial⟩ (AvLe.of_eq (by rw [h]; try rfl))
 · have h:=h.2 hc0
   exact p72_start_1 m kd pa oa hE ⟨(u73 (kind_ok m kd h1)),hc0,trivial⟩ (AvLe.of_eq (by rw [h]; try rfl))
theorem f93b:Try.f93.body=some (Qe Try.prog 93):=by kernel_rfl
theorem u93 {a c k:List AV} {r:AV} (h:Pure Try.prog 93 (a++c++k) r):Qg Try.prog (.clos 93 a k) c r:=Ql Try.func93 (by kernel_rfl) f93b h
def Wz (P:Program):List Item:=kAt 400 [.code (Qe P 93)] [.b false,.stop]
def f93S0 (l:(List Int)) (m:Mch) (i:Nat):St:=⟨([.rptr [.rsl (Qd m.s.stages) 0 m.s.stages.length,.rsl (rowI m.s.worth) 0 m.s.worth.length,.int .i64 m.s.price,.rsl (rowI m.meas) 0 m.meas.length,.rsl (rowI m.mult) 0 m.mult.length] 0]++jj 17 ([.rsl (rowI l) 0 l.length,.int .i64 (l.length:Int),.int .i64 (i:Int)]++Js 35)),[]⟩
def f93G0 (E:Env) (l:(List Int)) (m:Mch) (i:Nat):Prop:=G Try.prog E (Wz Try.prog) (f93S0 l m i )
abbrev z93_1 (m:Mch):List AV:=[.rsl (Qd m.s.stages) 0 m.s.stages.length,.rsl (rowI m.s.worth) 0 m.s.worth.length,.int .i64 m.s.price,.rsl (rowI m.meas) 0 m.meas.length,.rsl (rowI m.mult) 0 m.mult.length]
abbrev z93_2 (e:Int) (se:Stg):AV:=.bool (Qa e 0 ((se.turns.length:Int) - 1))
abbrev z93_3 (m:Mch) (l:(List Int)) (i:Nat):List AV:=[.rptr (z93_1 m) 0]++jj 17 ([.rsl (rowI l) 0 l.length,.int .i64 (l.length:Int),.int .i64 ((i:Int)+1)]++Js 35)
abbrev z93_4 (e:Int) (se:Stg):List AV:=[.int .i64 e,.int .i64 0,.int .i64 ((se.turns.length:Int) - 1)]
theorem p93_start_0 (l:(List Int)) (m:Mch) {E:Env} {res:AV} (hE:Qf Try.prog 93 res E) (ho:AllP [((l.length:Int) != (m.s.stages.length:Int))=true])
 (hr:AvLe (.bool false) res):G Try.prog E [.code (Qe Try.prog 93)] ⟨[.rptr (z93_1 m) 0,.rsl (rowI l) 0 l.length]++unds (Try.f93.ntmps - 2),[]⟩ :=
 Qc (n:=400) (evs:=[.b true]) (obs:=_) hE Try.func93 Qi (by kernel_rfl) ho hr
theorem p93_start_1 (l:(List Int)) (m:Mch) {E:Env} {rv:AV} (hE:Qf Try.prog 93 rv E) (ho:AllP [((l.length:Int) != (m.s.stages.length:Int))=false])
 (hg:G Try.prog E (Wz Try.prog) ⟨([.rptr (z93_1 m) 0]++jj 17 ([.rsl (rowI l) 0 l.length,.int .i64 (l.length:Int),.int .i64 0]++Js 35)),[]⟩):G Try.prog E [.code (Qe Try.prog 93)] ⟨[.rptr (z93_1 m) 0,.rsl (rowI l) 0 l.length]++unds (Try.f93.ntmps - 2),[]⟩ :=
 Qh (n:=400) (ds:=[]) (cs:=[]) (live:=[0,18,19,20]) (m:=0) (evs:=[.b false,.stop]) (obs:=_) hE.2.1 (hE.nogh _) Qi (by kernel_rfl) ho hg
theorem f93W (l:(List Int)) (m:Mch) {E:Env} {rv:Bool} (hE:Qf Try.prog 93 (.bool rv) E)
 (h:((¬ ((l.length:Int)=(m.s.stages.length:Int))→rv=false)∧((l.length:Int)=(m.s.stages.length:Int)→f93G0 E l m 0))):G Try.prog E [.code (Qe Try.prog 93)] ⟨[.rptr [.rsl (Qd m.s.stages) 0 m.s.stages.length,.rsl (rowI m.s.worth) 0 m.s.worth.length,.int .i64 m.s.price,.rsl (rowI m.meas) 0 m.meas.length,.rsl (rowI m.mult) 0 m.mult.length] 0,.rsl (rowI l) 0 l.length]++unds (Try.f93.ntmps - 2),[]⟩:=by
 rcases bft ((l.length:Int) != (m.s.stages.length:Int)) with hc0 | hc0
 · have h:=h.1 (bneT hc0)
   exact p93_start_0 l m hE ⟨hc0,trivial⟩ (AvLe.of_eq (by rw [h]; try rfl))
 · have h:=h.2 (bneF hc0)
   exact p93_start_1 l m hE ⟨hc0,trivial⟩ h
theorem p93_0_0 (l:(List Int)) (m:Mch) (i:Nat) (e:Int) (se:Stg) {E:Env} {res:AV} (hE:Qf Try.prog 93 res E) (ho:AllP [(decide ((i:Int)<(l.length:Int)))=true,0≤(i:Int)∧(i:Int)<(l.length:Int),((rowI l).drop (0+(Int.toNat (i:Int))*1)).take 1=[.int .i64 e],0≤(i:Int)∧(i:Int)<(m.s.stages.length:Int),((Qd m.s.stages).drop ((0+(Int.toNat (i:Int))*3)+0)).take 1=[.int .i64 se.kind],(se.kind == 2)=true,true=true,0≤(i:Int)∧(i:Int)<(m.s.stages.length:Int),((Qd m.s.stages).drop ((0+(Int.toNat (i:Int))*3)+2)).take 1=[.rsl (Qk se.turns) 0 se.turns.length],InR .i64 ((se.turns.length:Int) - 1),Qg Try.prog (.clos 65 [] []) (z93_4 e se) (z93_2 e se),(!(Qa e 0 ((se.turns.length:Int) - 1)))=true])
 (hr:AvLe (.bool false) res):G Try.prog E (Wz Try.prog) (f93S0 l m i ) :=
 Qc (n:=400) (evs:=[.b true,.ld (.int .i64 e),.auto,.ld (.int .i64 se.kind),.b true,.b true,.auto,.ld (.rsl (Qk se.turns) 0 se.turns.length),.v (z93_2 e se),.b true]) (obs:=_) hE Try.func93 Qi (by kernel_rfl) ho hr
theorem p93_0_1 (l:(List Int)) (m:Mch) (i:Nat) (e:Int) (se:Stg) {E:Env} {rv:AV} (hE:Qf Try.prog 93 rv E) (ho:AllP [(decide ((i:Int)<(l.length:Int)))=true,0≤(i:Int)∧(i:Int)<(l.length:Int),((rowI l).drop (0+(Int.toNat (i:Int))*1)).take 1=[.int .i64 e],0≤(i:Int)∧(i:Int)<(m.s.stages.length:Int),((Qd m.s.stages).drop ((0+(Int.toNat (i:Int))*3)+0)).take 1=[.int .i64 se.kind],(se.kind == 2)=true,true=true,0≤(i:Int)∧(i:Int)<(m.s.stages.length:Int),((Qd m.s.stages).drop ((0+(Int.toNat (i:Int))*3)+2)).take 1=[.rsl (Qk se.turns) 0 se.turns.length],InR .i64 ((se.turns.length:Int) - 1),Qg Try.prog (.clos 65 [] []) (z93_4 e se) (z93_2 e se),(!(Qa e 0 ((se.turns.length:Int) - 1)))=false,InR .i64 ((i:Int)+1)])
 (hg:G Try.prog E (Wz Try.prog) ⟨(z93_3 m l i),[]⟩):G Try.prog E (Wz Try.prog) (f93S0 l m i ) :=
 Qh (n:=400) (ds:=[]) (cs:=[]) (live:=[0,18,19,20]) (m:=0) (evs:=[.b true,.ld (.int .i64 e),.auto,.ld (.int .i64 se.kind),.b true,.b true,.auto,.ld (.rsl (Qk se.turns) 0 se.turns.length),.v (z93_2 e se),.b false,.stop]) (obs:=_) hE.2.1 (hE.nogh _) Qi (by kernel_rfl) ho hg
theorem p93_0_2 (l:(List Int)) (m:Mch) (i:Nat) (e:Int) (se:Stg) {E:Env} {res:AV} (hE:Qf Try.prog 93 res E) (ho:AllP [(decide ((i:Int)<(l.length:Int)))=true,0≤(i:Int)∧(i:Int)<(l.length:Int),((rowI l).drop (0+(Int.toNat (i:Int))*1)).take 1=[.int .i64 e],0≤(i:Int)∧(i:Int)<(m.s.stages.length:Int),((Qd m.s.stages).drop ((0+(Int.toNat (i:Int))*3)+0)).take 1=[.int .i64 se.kind],(se.kind == 2)=false,(se.kind == 3)=true,0≤(i:Int)∧(i:Int)<(m.s.stages.length:Int),((Qd m.s.stages).drop ((0+(Int.toNat (i:Int))*3)+2)).take 1=[.rsl (Qk se.turns) 0 se.turns.length],InR .i64 ((se.turns.length:Int) - 1),Qg Try.prog (.clos 65 [] []) (z93_4 e se) (z93_2 e se),(!(Qa e 0 ((se.turns.length:Int) - 1)))=true])
 (hr:AvLe (.bool false) res):G Try.prog E (Wz Try.prog) (f93S0 l m i ) :=
 Qc (n:=400) (evs:=[.b true,.ld (.int .i64 e),.auto,.ld (.int .i64 se.kind),.b false,.b true,.auto,.ld (.rsl (Qk se.turns) 0 se.turns.length),.v (z93_2 e se),.b true]) (obs:=_) hE Try.func93 Qi (by kernel_rfl) ho hr
theorem p93_0_3 (l:(List Int)) (m:Mch) (i:Nat) (e:Int) (se:Stg) {E:Env} {rv:AV} (hE:Qf Try.prog 93 rv E) (ho:AllP [(decide ((i:Int)<(l.length:Int)))=true,0≤(i:Int)∧(i:Int)<(l.length:Int),((rowI l).drop (0+(Int.toNat (i:Int))*1)).take 1=[.int .i64 e],0≤(i:Int)∧(i:Int)<(m.s.stages.length:Int),((Qd m.s.stages).drop ((0+(Int.toNat (i:Int))*3)+0)).take 1=[.int .i64 se.kind],(se.kind == 2)=false,(se.kind == 3)=true,0≤(i:Int)∧(i:Int)<(m.s.stages.length:Int),((Qd m.s.stages).drop ((0+(Int.toNat (i:Int))*3)+2)).take 1=[.rsl (Qk se.turns) 0 se.turns.length],InR .i64 ((se.turns.length:Int) - 1),Qg Try.prog (.clos 65 [] []) (z93_4 e se) (z93_2 e se),(!(Qa e 0 ((se.turns.length:Int) - 1)))=false,InR .i64 ((i:Int)+1)])
 (hg:G Try.prog E (Wz Try.prog) ⟨(z93_3 m l i),[]⟩):G Try.prog E (Wz Try.prog) (f93S0 l m i ) :=
 Qh (n:=400) (ds:=[]) (cs:=[]) (live:=[0,18,19,20]) (m:=0) (evs:=[.b true,.ld (.int .i64 e),.auto,.ld (.int .i64 se.kind),.b false,.b true,.auto,.ld (.rsl (Qk se.turns) 0 se.turns.length),.v (z93_2 e se),.b false,.stop]) (obs:=_) hE.2.1 (hE.nogh _) Qi (by kernel_rfl) ho hg
theorem p93_0_4 (l:(List Int)) (m:Mch) (i:Nat) (e:Int) (se:Stg) {E:Env} {res:AV} (hE:Qf Try.prog 93 res E) (ho:AllP [(decide ((i:Int)<(l.length:Int)))=true,0≤(i:Int)∧(i:Int)<(l.length:Int),((rowI l).drop (0+(Int.toNat (i:Int))*1)).take 1=[.int .i64 e],0≤(i:Int)∧(i:Int)<(m.s.stages.length:Int),((Qd m.s.stages).drop ((0+(Int.toNat (i:Int))*3)+0)).take 1=[.int .i64 se.kind],(se.kind == 2)=false,(se.kind == 3)=false,Qg Try.prog (.clos 65 [] []) [.int .i64 e,.int .i64 0,.int .i64 0] (.bool (Qa e 0 0)),(!(Qa e 0 0))=true])
 (hr:AvLe (.bool false) res):G Try.prog E (Wz Try.prog) (f93S0 l m i ) :=
 Qc (n:=400) (evs:=[.b true,.ld (.int .i64 e),.auto,.ld (.int .i64 se.kind),.b false,.b false,.v (.bool (Qa e 0 0)),.b true]) (obs:=_) hE Try.func93 Qi (by kernel_rfl) ho hr
theorem p93_0_5 (l:(List Int)) (m:Mch) (i:Nat) (e:Int) (se:Stg) {E:Env} {rv:AV} (hE:Qf Try.prog 93 rv E) (ho:AllP [(decide ((i:Int)<(l.length:Int)))=true,0≤(i:Int)∧(i:Int)<(l.length:Int),((rowI l).drop (0+(Int.toNat (i:Int))*1)).take 1=[.int .i64 e],0≤(i:Int)∧(i:Int)<(m.s.stages.length:Int),((Qd m.s.stages).drop ((0+(Int.toNat (i:Int))*3)+0)).take 1=[.int .i64 se.kind],(se.kind == 2)=false,(se.kind == 3)=false,Qg Try.prog (.clos 65 [] []) [.int .i64 e,.int .i64 0,.int .i64 0] (.bool (Qa e 0 0)),(!(Qa e 0 0))=false,InR .i64 ((i:Int)+1)])
 (hg:G Try.prog E (Wz Try.prog) ⟨(z93_3 m l i),[]⟩):G Try.prog E (Wz Try.prog) (f93S0 l m i ) :=
 Qh (n:=400) (ds:=[]) (cs:=[]) (live:=[0,18,19,20]) (m:=0) (evs:=[.b true,.ld (.int .i64 e),.auto,.ld (.int .i64 se.kind),.b false,.b false,.v (.bool (Qa e 0 0)),.b false,.stop]) (obs:=_) hE.2.1 (hE.nogh _) Qi (by kernel_rfl) ho hg
theorem p93_0_6 (l:(List Int)) (m:Mch) (i:Nat) {E:Env} {res:AV} (hE:Qf Try.prog 93 res E) (ho:AllP [(decide ((i:Int)<(l.length:Int)))=false])
 (hr:AvLe (.bool true) res):G Try.prog E (Wz Try.prog) (f93S0 l m i ) :=
 Qc (n:=400) (evs:=[.b false]) (obs:=_) hE Try.func93 Qi (by kernel_rfl) ho hr
theorem f93W0 (l:(List Int)) (m:Mch) (i:Nat) {E:Env} {rv:Bool} (hE:Qf Try.prog 93 (.bool rv) E)
 (h:(((i:Int)<(l.length:Int)→(∃ e:Int,l[i]?=some e∧(∃ se:Stg,m.s.stages[i]?=some se∧((se.kind=2→((I6 ((se.turns.length:Int) - 1))∧(((Qa e 0 ((se.turns.length:Int) - 1))=false→rv=false)∧((Qa e 0 ((se.turns.length:Int) - 1))=true→((I6 ((i:Int)+1))∧f93G0 E l m (i+1))))))∧(¬ (se.kind=2)→((se.kind=3→((I6 ((se.turns.length:Int) - 1))∧(((Qa e 0 ((se.turns.length:Int) - 1))=false→rv=false)∧((Qa e 0 ((se.turns.length:Int) - 1))=true→((I6 ((i:Int)+1))∧f93G0 E l m (i+1))))))∧(¬ (se.kind=3)→(((Qa e 0 0)=false→rv=false)∧((Qa e 0 0)=true→((I6 ((i:Int)+1))∧f93G0 E l m (i+1)))))))))))∧(¬ ((i:Int)<(l.length:Int))→rv=true))):f93G0 E l m i:=by
 rcases bft (decide ((i:Int)<(l.length:Int))) with hc0 | hc0
 · have h:=h.1 (odt hc0)
   obtain ⟨e,h1,h⟩:=h
   obtain ⟨se,h2,h⟩:=h
   rcases bft (se.kind == 2) with hc1 | hc1
   · have h:=h.1 (eq_of_beq hc1)
     obtain ⟨q11_2,h⟩:=h
     rcases bft (!(Qa e 0 ((se.turns.length:Int) - 1))) with hc2 | hc2
     · have h:=h.1 (bnT hc2)
       exact p93_0_0 l m i e se hE ⟨hc0,(Qn h1),(rp cI 1 0 1 h1),(Qn h2),(rp cStg 3 0 1 h2),hc1,rfl,(Qn h2),(rp cStg 3 2 1 h2),q11_2,(u65 (Qr e 0 ((se.turns.length:Int) - 1))),hc2,trivial⟩ (AvLe.of_eq (by rw [h]; try rfl))
     · have h:=h.2 (bnF hc2)
       obtain ⟨q14_3,h⟩:=h
       exact p93_0_1 l m i e se hE ⟨hc0,(Qn h1),(rp cI 1 0 1 h1),(Qn h2),(rp cStg 3 0 1 h2),hc1,rfl,(Qn h2),(rp cStg 3 2 1 h2),q11_2,(u65 (Qr e 0 ((se.turns.length:Int) - 1))),hc2,q14_3,trivial⟩ h
   · have h:=h.2 (ne_of_beq_false hc1)
     rcases bft (se.kind == 3) with hc2 | hc2
     · have h:=h.1 (eq_of_beq hc2)
       obtain ⟨q11_3,h⟩:=h
       rcases bft (!(Qa e 0 ((se.turns.length:Int) - 1))) with hc3 | hc3
       · have h:=h.1 (bnT hc3)
         exact p93_0_2 l m i e se hE ⟨hc0,(Qn h1),(rp cI 1 0 1 h1),(Qn h2),(rp cStg 3 0 1 h2),hc1,hc2,(Qn h2),(rp cStg 3 2 1 h2),q11_3,(u65 (Qr e 0 ((se.turns.length:Int) - 1))),hc3,trivial⟩ (AvLe.of_eq (by rw [h]; try rfl))
       · have h:=h.2 (bnF hc3)
         obtain ⟨q14_4,h⟩:=h
         exact p93_0_3 l m i e se hE ⟨hc0,(Qn h1),(rp cI 1 0 1 h1),(Qn h2),(rp cStg 3 0 1 h2),hc1,hc2,(Qn h2),(rp cStg 3 2 1 h2),q11_3,(u65 (Qr e 0 ((se.turns.length:Int) - 1))),hc3,q14_4,trivial⟩ h
     · have h:=h.2 (ne_of_beq_false hc2)
       rcases bft (!(Qa e 0 0)) with hc3 | hc3
       · have h:=h.1 (bnT hc3)
         exact p93_0_4 l m i e se hE ⟨hc0,(Qn h1),(rp cI 1 0 1 h1),(Qn h2),(rp cStg 3 0 1 h2),hc1,hc2,(u65 (Qr e 0 0)),hc3,trivial⟩ (AvLe.of_eq (by rw [h]; try rfl))
       · have h:=h.2 (bnF hc3)
         obtain ⟨q11_4,h⟩:=h
         exact p93_0_5 l m i e se hE ⟨hc0,(Qn h1),(rp cI 1 0 1 h1),(Qn h2),(rp cStg 3 0 1 h2),hc1,hc2,(u65 (Qr e 0 0)),hc3,q11_4,trivial⟩ h
 · have h:=h.2 (odf hc0)
   exact p93_0_6 l m i hE ⟨hc0,trivial⟩ (AvLe.of_eq (by rw [h]; try rfl))
theorem plan_ok (m:Mch) (l:List Int) (hm:MOk m):Pure Try.prog 93 [.rptr (cMch m) 0,.rsl (rowI l) 0 l.length] (.bool (Qw m.s l)):=Qq Try.func93 f93b fun E hE=>by
 have hn:=(QC hm.st).1
 have hform:=(QC hm.st).2.2.2.2
 refine f93W l m (rv:=Qw m.s l) hE ⟨fun h=>by simp [Qw,show ¬ (l.length=m.s.stages.length) by omega],fun h=>?_⟩
 have hl:l.length=m.s.stages.length:=by omega
 have key:∀ (d i:Nat),i+d=l.length→(∀ j,j<i→Qa (l.getD j 0) 0 (QH (m.s.stages.getD j ⟨0,0,[]⟩))=true)→f93G0 E l m i:=by
  intro d
  induction d with
  | zero =>
   intro i hd hall
   refine f93W0 l m i (rv:=Qw m.s l) hE ⟨fun h=>by omega,fun _=>?_⟩
   simp only [Qw,hl,decide_true,Bool.true_and]
   exact List.all_eq_true.2 fun j hj=>hall j (by have:=List.mem_range.1 hj; omega)
  | succ d ih =>
   intro i hd hall
   have hi:m.s.stages[i]?=some m.s.stages[i]:=List.getElem?_eq_getElem (by omega)
   have hx:m.s.stages.getD i ⟨0,0,[]⟩=m.s.stages[i]:=by simp [List.getD,hi]
   have hv:l[i]?=some (l.getD i 0):=getD_some (by omega)
   have ht:m.s.stages[i].turns.length≤8:=by
    rcases XC hi (hform i (by omega)) with ⟨-,h,-⟩ | ⟨-,-,h,-⟩
    · rw [h]; simp
    · exact h.2
   have nx:=ih (i+1) (by omega)
   have no:Qa (l.getD i 0) 0 (QH (m.s.stages.getD i ⟨0,0,[]⟩))=false→Qw m.s l=false:=fun h=>by
    simp only [Qw,hl,decide_true,Bool.true_and]
    exact Vr (by omega) h
   have yes:Qa (l.getD i 0) 0 (QH (m.s.stages.getD i ⟨0,0,[]⟩))=true→f93G0 E l m (i+1):=fun h=>nx fun j hj=>by
    rcases Nat.lt_or_ge j i with h1 | h1
    · exact hall j h1
    · rw [show j=i by omega]; exact h
   rw [hx] at no yes
   generalize m.s.stages[i]=x at hi no yes ht
   refine f93W0 l m i (rv:=Qw m.s l) hE ⟨fun _=>⟨_,hv,x,hi,fun h2=>⟨by omega,fun h=>no ?_,fun h=>⟨by omega,yes ?_⟩⟩,fun h2=>⟨fun h3=>⟨by omega,fun h=>no ?_,fun h=>⟨by omega,yes ?_⟩⟩,fun h3=>⟨fun h=>no ?_,fun h=>⟨by omega,yes ?_⟩⟩⟩⟩,fun h=>by omega⟩
   · rw [QH,if_pos (.inl h2)]; exact h
   · rw [QH,if_pos (.inl h2)]; exact h
   · rw [QH,if_pos (.inr h3)]; exact h
   · rw [QH,if_pos (.inr h3)]; exact h
   · rw [QH,if_neg (by omega)]; exact h
   · rw [QH,if_neg (by omega)]; exact h
 exact key l.length 0 (by omega) (fun j hj=>by omega)
theorem f92b:Try.f92.body=some (Qe Try.prog 92):=by kernel_rfl
theorem u92 {a c k:List AV} {r:AV} (h:Pure Try.prog 92 (a++c++k) r):Qg Try.prog (.clos 92 a k) c r:=Ql Try.func92 (by kernel_rfl) f92b h
abbrev z92_1 (m:Mch):List AV:=[.rsl (Qd m.s.stages) 0 m.s.stages.length,.rsl (rowI m.s.worth) 0 m.s.worth.length,.int .i64 m.s.price,.rsl (rowI m.meas) 0 m.meas.length,.rsl (rowI m.mult) 0 m.mult.length]
theorem p92_start_0 (m:Mch) (plan:List Int) {E:Env} {res:AV} (hE:Qf Try.prog 92 res E) (ho:AllP [Qg Try.prog (.clos 93 [] []) [.rptr (z92_1 m) 0,.rsl (rowI plan) 0 plan.length] (.bool (Qw m.s plan))])
 (hr:AvLe (.bool (Qw m.s plan)) res):G Try.prog E [.code (Qe Try.prog 92)] ⟨[.rptr (z92_1 m) 0,.rptr [.rsl (rowI plan) 0 plan.length] 0]++unds (Try.f92.ntmps - 2),[]⟩ :=
 Qc (n:=400) (evs:=[.v (.bool (Qw m.s plan))]) (obs:=_) hE Try.func92 Qi (by kernel_rfl) ho hr
theorem f92W (m:Mch) (plan:List Int) {E:Env} {rv:Bool} (hE:Qf Try.prog 92 (.bool rv) E)
 (h:((MOk m)∧rv=(Qw m.s plan))):G Try.prog E [.code (Qe Try.prog 92)] ⟨[.rptr [.rsl (Qd m.s.stages) 0 m.s.stages.length,.rsl (rowI m.s.worth) 0 m.s.worth.length,.int .i64 m.s.price,.rsl (rowI m.meas) 0 m.meas.length,.rsl (rowI m.mult) 0 m.mult.length] 0,.rptr [.rsl (rowI plan) 0 plan.length] 0]++unds (Try.f92.ntmps - 2),[]⟩:=by
 obtain ⟨h1,h⟩:=h
 exact p92_start_0 m plan hE ⟨(u93 (plan_ok m plan h1)),trivial⟩ (AvLe.of_eq (by rw [h]; try rfl))
theorem f98b:Try.f98.body=some (Qe Try.prog 98):=by kernel_rfl
theorem u98 {a c k:List AV} {r:AV} (h:Pure Try.prog 98 (a++c++k) r):Qg Try.prog (.clos 98 a k) c r:=Ql Try.func98 (by kernel_rfl) f98b h
abbrev z98_1 (m:Mch):List AV:=[.rsl (Qd m.s.stages) 0 m.s.stages.length,.rsl (rowI m.s.worth) 0 m.s.worth.length,.int .i64 m.s.price,.rsl (rowI m.meas) 0 m.meas.length,.rsl (rowI m.mult) 0 m.mult.length]
theorem p98_start_0 (m:Mch) (plan:List Int) {E:Env} {res:AV} (hE:Qf Try.prog 98 res E) (ho:AllP [Qg Try.prog (.clos 93 [] []) [.rptr (z98_1 m) 0,.rsl (rowI plan) 0 plan.length] (.bool (Qw m.s plan))])
 (hr:AvLe (.bool (Qw m.s plan)) res):G Try.prog E [.code (Qe Try.prog 98)] ⟨[.rptr (z98_1 m) 0,.rptr [.rsl (rowI plan) 0 plan.length] 0]++unds (Try.f98.ntmps - 2),[]⟩ :=
 Qc (n:=400) (evs:=[.v (.bool (Qw m.s plan))]) (obs:=_) hE Try.func98 Qi (by kernel_rfl) ho hr
theorem f98W (m:Mch) (plan:List Int) {E:Env} {rv:Bool} (hE:Qf Try.prog 98 (.bool rv) E)
 (h:((MOk m)∧rv=(Qw m.s plan))):G Try.prog E [.code (Qe Try.prog 98)] ⟨[.rptr [.rsl (Qd m.s.stages) 0 m.s.stages.length,.rsl (rowI m.s.worth) 0 m.s.worth.length,.int .i64 m.s.price,.rsl (rowI m.meas) 0 m.meas.length,.rsl (rowI m.mult) 0 m.mult.length] 0,.rptr [.rsl (rowI plan) 0 plan.length] 0]++unds (Try.f98.ntmps - 2),[]⟩:=by
 obtain ⟨h1,h⟩:=h
 exact p98_start_0 m plan hE ⟨(u93 (plan_ok m plan h1)),trivial⟩ (AvLe.of_eq (by rw [h]; try rfl))
def XM (m:Mch) (kd pa oa:Int):Bool:=Wy m kd && aimsI [pa,oa]
theorem yo (m:Mch) (kd pa oa:Int) (h:m.s.worth.length≤1000000):Pure Try.prog 72 [.rptr (cMch m) 0,.rptr [.int .i64 kd] 0,.rptr [.int .i64 pa] 0,.rptr [.int .i64 oa] 0] (.bool (XM m kd pa oa)):=Qq Try.func72 f72b fun E hE =>
 f72W m kd pa oa (rv:=XM m kd pa oa) hE ⟨h,fun h1=>⟨by simp,by simp [XM,h1]⟩,fun h1=>by simp [XM,h1]⟩
theorem yn (m:Mch) (plan:List Int) (h:MOk m):Pure Try.prog 92 [.rptr (cMch m) 0,.rptr [.rsl (rowI plan) 0 plan.length] 0] (.bool (Qw m.s plan)):=Qq Try.func92 f92b fun E hE=>f92W m plan (rv:=Qw m.s plan) hE ⟨h,rfl⟩
theorem ym (m:Mch) (plan:List Int) (h:MOk m):Pure Try.prog 98 [.rptr (cMch m) 0,.rptr [.rsl (rowI plan) 0 plan.length] 0] (.bool (Qw m.s plan)):=Qq Try.func98 f98b fun E hE=>f98W m plan (rv:=Qw m.s plan) hE ⟨h,rfl⟩
def begR (s:Stl) (rt:Bool):AV:=if (QX s).isSome=true then (if rt=true then .tup [.rptr (cMch (Qb s)) 0,.int .i64 0] else .tup [.nilPtr,.int .i64 1]) else .tup [.nilPtr,.int .i64 60]
theorem yP {s:Stl} {rt:Bool} (h0:(QX s).isSome=true) (h1:rt=true):begR s rt=.tup [.rptr (cMch (Qb s)) 0,.int .i64 0]:=by rw [begR,if_pos h0,if_pos h1]
theorem Wd {s:Stl} {rt:Bool} (h0:(QX s).isSome=true) (h1:rt=false):begR s rt=.tup [.nilPtr,.int .i64 1]:=by rw [begR,if_pos h0,if_neg (by rw [h1]; simp)]
theorem We {s:Stl} {rt:Bool} (h0:(QX s).isSome=false):begR s rt=.tup [.nilPtr,.int .i64 60]:=by rw [begR,if_neg (by rw [h0]; simp)]
theorem Vb {s:Stl} (h:(QX s).isSome=true):MOk (Qb s)∧(Qb s).s=s:=by
 obtain ⟨m,hm⟩:=Option.isSome_iff_exists.1 h
 rw [show Qb s=m by simp [Qb,hm]]
 exact mok_of hm
theorem Kr:Try.f71.body=some (Qe Try.prog 71):=by kernel_rfl
theorem qZ (s:Stl) (kd pa oa:Int) {E:Env} {res:AV} (hE:Qf Try.prog 71 res E) (ho:AllP [Qg Try.prog (.clos 61 [] []) [.agg [.rsl (Qd s.stages) 0 s.stages.length,.rsl (rowI s.worth) 0 s.worth.length,.int .i64 s.price]] (.tup [.rptr [.rsl (Qd (((Qb s).s).stages)) 0 ((((Qb s).s).stages).length),.rsl (rowI (((Qb s).s).worth)) 0 ((((Qb s).s).worth).length),.int .i64 (((Qb s).s).price),.rsl (rowI ((Qb s).meas)) 0 (((Qb s).meas).length),.rsl (rowI ((Qb s).mult)) 0 (((Qb s).mult).length)] 0,.bool true]),false=false,Qg Try.prog (.clos 72 [] [.rptr [.int .i64 kd] 0,.rptr [.int .i64 pa] 0,.rptr [.int .i64 oa] 0]) [.rptr [.rsl (Qd (((Qb s).s).stages)) 0 ((((Qb s).s).stages).length),.rsl (rowI (((Qb s).s).worth)) 0 ((((Qb s).s).worth).length),.int .i64 (((Qb s).s).price),.rsl (rowI ((Qb s).meas)) 0 (((Qb s).meas).length),.rsl (rowI ((Qb s).mult)) 0 (((Qb s).mult).length)] 0] (.bool (XM (Qb s) kd pa oa)),(!(XM (Qb s) kd pa oa))=true])
 (hr:AvLe (.tup [.nilPtr,.int .i64 1]) res):G Try.prog E [.code (Qe Try.prog 71)] ⟨[.agg [.rsl (Qd s.stages) 0 s.stages.length,.rsl (rowI s.worth) 0 s.worth.length,.int .i64 s.price],.clos 72 [] [.rptr [.int .i64 kd] 0,.rptr [.int .i64 pa] 0,.rptr [.int .i64 oa] 0]]++unds (Try.f71.ntmps - 2),[]⟩ :=
 Qc (n:=400) (evs:=[.v (.tup [.rptr [.rsl (Qd (((Qb s).s).stages)) 0 ((((Qb s).s).stages).length),.rsl (rowI (((Qb s).s).worth)) 0 ((((Qb s).s).worth).length),.int .i64 (((Qb s).s).price),.rsl (rowI ((Qb s).meas)) 0 (((Qb s).meas).length),.rsl (rowI ((Qb s).mult)) 0 (((Qb s).mult).length)] 0,.bool true]),.b false,.v (.bool (XM (Qb s) kd pa oa)),.b true]) (obs:=_) hE Try.func71 Qi (by kernel_rfl) ho hr
theorem qY (s:Stl) (kd pa oa:Int) {E:Env} {res:AV} (hE:Qf Try.prog 71 res E) (ho:AllP [Qg Try.prog (.clos 61 [] []) [.agg [.rsl (Qd s.stages) 0 s.stages.length,.rsl (rowI s.worth) 0 s.worth.length,.int .i64 s.price]] (.tup [.rptr [.rsl (Qd (((Qb s).s).stages)) 0 ((((Qb s).s).stages).length),.rsl (rowI (((Qb s).s).worth)) 0 ((((Qb s).s).worth).length),.int .i64 (((Qb s).s).price),.rsl (rowI ((Qb s).meas)) 0 (((Qb s).meas).length),.rsl (rowI ((Qb s).mult)) 0 (((Qb s).mult).length)] 0,.bool true]),false=false,Qg Try.prog (.clos 72 [] [.rptr [.int .i64 kd] 0,.rptr [.int .i64 pa] 0,.rptr [.int .i64 oa] 0]) [.rptr [.rsl (Qd (((Qb s).s).stages)) 0 ((((Qb s).s).stages).length),.rsl (rowI (((Qb s).s).worth)) 0 ((((Qb s).s).worth).length),.int .i64 (((Qb s).s).price),.rsl (rowI ((Qb s).meas)) 0 (((Qb s).meas).length),.rsl (rowI ((Qb s).mult)) 0 (((Qb s).mult).length)] 0] (.bool (XM (Qb s) kd pa oa)),(!(XM (Qb s) kd pa oa))=false])
 (hr:AvLe (.tup [.rptr [.rsl (Qd (((Qb s).s).stages)) 0 ((((Qb s).s).stages).length),.rsl (rowI (((Qb s).s).worth)) 0 ((((Qb s).s).worth).length),.int .i64 (((Qb s).s).price),.rsl (rowI ((Qb s).meas)) 0 (((Qb s).meas).length),.rsl (rowI ((Qb s).mult)) 0 (((Qb s).mult).length)] 0,.int .i64 0]) res):G Try.prog E [.code (Qe Try.prog 71)] ⟨[.agg [.rsl (Qd s.stages) 0 s.stages.length,.rsl (rowI s.worth) 0 s.worth.length,.int .i64 s.price],.clos 72 [] [.rptr [.int .i64 kd] 0,.rptr [.int .i64 pa] 0,.rptr [.int .i64 oa] 0]]++unds (Try.f71.ntmps - 2),[]⟩ :=
 Qc (n:=400) (evs:=[.v (.tup [.rptr [.rsl (Qd (((Qb s).s).stages)) 0 ((((Qb s).s).stages).length),.rsl (rowI (((Qb s).s).worth)) 0 ((((Qb s).s).worth).length),.int .i64 (((Qb s).s).price),.rsl (rowI ((Qb s).meas)) 0 (((Qb s).meas).length),.rsl (rowI ((Qb s).mult)) 0 (((Qb s).mult).length)] 0,.bool true]),.b false,.v (.bool (XM (Qb s) kd pa oa)),.b false]) (obs:=_) hE Try.func71 Qi (by kernel_rfl) ho hr
theorem qX (s:Stl) (kd pa oa:Int) {E:Env} {res:AV} (hE:Qf Try.prog 71 res E) (ho:AllP [Qg Try.prog (.clos 61 [] []) [.agg [.rsl (Qd s.stages) 0 s.stages.length,.rsl (rowI s.worth) 0 s.worth.length,.int .i64 s.price]] (.tup [.nilPtr,.bool false]),true=true])
 (hr:AvLe (.tup [.nilPtr,.int .i64 60]) res):G Try.prog E [.code (Qe Try.prog 71)] ⟨[.agg [.rsl (Qd s.stages) 0 s.stages.length,.rsl (rowI s.worth) 0 s.worth.length,.int .i64 s.price],.clos 72 [] [.rptr [.int .i64 kd] 0,.rptr [.int .i64 pa] 0,.rptr [.int .i64 oa] 0]]++unds (Try.f71.ntmps - 2),[]⟩ :=
 Qc (n:=400) (evs:=[.v (.tup [.nilPtr,.bool false]),.b true]) (obs:=_) hE Try.func71 Qi (by kernel_rfl) ho hr
theorem f71x72W (s:Stl) (kd pa oa:Int) {E:Env} {rv:AV} (hE:Qf Try.prog 71 rv E)
 (h:((((QX s).isSome)=true→((s.stages.length≤9223372036854775807∧s.worth.length≤9223372036854775807)∧(((Qb s).s.worth.length≤1000000)∧(((XM (Qb s) kd pa oa)=false→rv=(.tup [.nilPtr,.int .i64 1]))∧((XM (Qb s) kd pa oa)=true→rv=(.tup [.rptr [.rsl (Qd (((Qb s).s).stages)) 0 ((((Qb s).s).stages).length),.rsl (rowI (((Qb s).s).worth)) 0 ((((Qb s).s).worth).length),.int .i64 (((Qb s).s).price),.rsl (rowI ((Qb s).meas)) 0 (((Qb s).meas).length),.rsl (rowI ((Qb s).mult)) 0 (((Qb s).mult).length)] 0,.int .i64 0]))))))∧(((QX s).isSome)=false→((s.stages.length≤9223372036854775807∧s.worth.length≤9223372036854775807)∧rv=(.tup [.nilPtr,.int .i64 60]))))):G Try.prog E [.code (Qe Try.prog 71)] ⟨[.agg [.rsl (Qd s.stages) 0 s.stages.length,.rsl (rowI s.worth) 0 s.worth.length,.int .i64 s.price],.clos 72 [] [.rptr [.int .i64 kd] 0,.rptr [.int .i64 pa] 0,.rptr [.int .i64 oa] 0]]++unds (Try.f71.ntmps - 2),[]⟩:=by
 rcases bft ((QX s).isSome) with hc0 | hc0
 · have h:=h.1 hc0
   obtain ⟨h1,h⟩:=h
   obtain ⟨h2,h⟩:=h
   rcases bft (!(XM (Qb s) kd pa oa)) with hc1 | hc1
   · have h:=h.1 (bnT hc1)
     exact qZ s kd pa oa hE ⟨(u61 (XB s h1 hc0)),rfl,(u72 (yo (Qb s) kd pa oa h2)),hc1,trivial⟩ (AvLe.of_eq (by rw [h]; try rfl))
   · have h:=h.2 (bnF hc1)
     exact qY s kd pa oa hE ⟨(u61 (XB s h1 hc0)),rfl,(u72 (yo (Qb s) kd pa oa h2)),hc1,trivial⟩ (AvLe.of_eq (by rw [h]; try rfl))
 · have h:=h.2 hc0
   obtain ⟨h1,h⟩:=h
   exact qX s kd pa oa hE ⟨(u61 (YA s h1 hc0)),rfl,trivial⟩ (AvLe.of_eq (by rw [h]; try rfl))
theorem Kx (s:Stl) (kd pa oa:Int) (h:s.stages.length≤9223372036854775807∧s.worth.length≤9223372036854775807):Pure Try.prog 71 [.agg [.rsl (Qd s.stages) 0 s.stages.length,.rsl (rowI s.worth) 0 s.worth.length,.int .i64 s.price],.clos 72 [] [.rptr [.int .i64 kd] 0,.rptr [.int .i64 pa] 0,.rptr [.int .i64 oa] 0]] (begR s (XM (Qb s) kd pa oa)):=Qq Try.func71 Kr fun E hE=>by
 refine f71x72W s kd pa oa (rv:=begR s (XM (Qb s) kd pa oa)) hE ⟨fun h0=>⟨h,?_⟩,fun h0=>⟨h,We h0⟩⟩
 have hm:=(Vb h0).1
 have hw:=(QC hm.st).2.1
 have hs:=(QC hm.st).1
 exact ⟨by omega,⟨fun h1=>Wd h0 h1,fun h1=>yP h0 h1⟩⟩
theorem Kq:Try.f71.body=some (Qe Try.prog 71):=by kernel_rfl
theorem qW (s:Stl) (plan:List Int) {E:Env} {res:AV} (hE:Qf Try.prog 71 res E) (ho:AllP [Qg Try.prog (.clos 61 [] []) [.agg [.rsl (Qd s.stages) 0 s.stages.length,.rsl (rowI s.worth) 0 s.worth.length,.int .i64 s.price]] (.tup [.rptr [.rsl (Qd (((Qb s).s).stages)) 0 ((((Qb s).s).stages).length),.rsl (rowI (((Qb s).s).worth)) 0 ((((Qb s).s).worth).length),.int .i64 (((Qb s).s).price),.rsl (rowI ((Qb s).meas)) 0 (((Qb s).meas).length),.rsl (rowI ((Qb s).mult)) 0 (((Qb s).mult).length)] 0,.bool true]),false=false,Qg Try.prog (.clos 92 [] [.rptr [.rsl (rowI plan) 0 plan.length] 0]) [.rptr [.rsl (Qd (((Qb s).s).stages)) 0 ((((Qb s).s).stages).length),.rsl (rowI (((Qb s).s).worth)) 0 ((((Qb s).s).worth).length),.int .i64 (((Qb s).s).price),.rsl (rowI ((Qb s).meas)) 0 (((Qb s).meas).length),.rsl (rowI ((Qb s).mult)) 0 (((Qb s).mult).length)] 0] (.bool (Qw (Qb s).s plan)),(!(Qw (Qb s).s plan))=true])
 (hr:AvLe (.tup [.nilPtr,.int .i64 1]) res):G Try.prog E [.code (Qe Try.prog 71)] ⟨[.agg [.rsl (Qd s.stages) 0 s.stages.length,.rsl (rowI s.worth) 0 s.worth.length,.int .i64 s.price],.clos 92 [] [.rptr [.rsl (rowI plan) 0 plan.length] 0]]++unds (Try.f71.ntmps - 2),[]⟩ :=
 Qc (n:=400) (evs:=[.v (.tup [.rptr [.rsl (Qd (((Qb s).s).stages)) 0 ((((Qb s).s).stages).length),.rsl (rowI (((Qb s).s).worth)) 0 ((((Qb s).s).worth).length),.int .i64 (((Qb s).s).price),.rsl (rowI ((Qb s).meas)) 0 (((Qb s).meas).length),.rsl (rowI ((Qb s).mult)) 0 (((Qb s).mult).length)] 0,.bool true]),.b false,.v (.bool (Qw (Qb s).s plan)),.b true]) (obs:=_) hE Try.func71 Qi (by kernel_rfl) ho hr
theorem qV (s:Stl) (plan:List Int) {E:Env} {res:AV} (hE:Qf Try.prog 71 res E) (ho:AllP [Qg Try.prog (.clos 61 [] []) [.agg [.rsl (Qd s.stages) 0 s.stages.length,.rsl (rowI s.worth) 0 s.worth.length,.int .i64 s.price]] (.tup [.rptr [.rsl (Qd (((Qb s).s).stages)) 0 ((((Qb s).s).stages).length),.rsl (rowI (((Qb s).s).worth)) 0 ((((Qb s).s).worth).length),.int .i64 (((Qb s).s).price),.rsl (rowI ((Qb s).meas)) 0 (((Qb s).meas).length),.rsl (rowI ((Qb s).mult)) 0 (((Qb s).mult).length)] 0,.bool true]),false=false,Qg Try.prog (.clos 92 [] [.rptr [.rsl (rowI plan) 0 plan.length] 0]) [.rptr [.rsl (Qd (((Qb s).s).stages)) 0 ((((Qb s).s).stages).length),.rsl (rowI (((Qb s).s).worth)) 0 ((((Qb s).s).worth).length),.int .i64 (((Qb s).s).price),.rsl (rowI ((Qb s).meas)) 0 (((Qb s).meas).length),.rsl (rowI ((Qb s).mult)) 0 (((Qb s).mult).length)] 0] (.bool (Qw (Qb s).s plan)),(!(Qw (Qb s).s plan))=false])
 (hr:AvLe (.tup [.rptr [.rsl (Qd (((Qb s).s).stages)) 0 ((((Qb s).s).stages).length),.rsl (rowI (((Qb s).s).worth)) 0 ((((Qb s).s).worth).length),.int .i64 (((Qb s).s).price),.rsl (rowI ((Qb s).meas)) 0 (((Qb s).meas).length),.rsl (rowI ((Qb s).mult)) 0 (((Qb s).mult).length)] 0,.int .i64 0]) res):G Try.prog E [.code (Qe Try.prog 71)] ⟨[.agg [.rsl (Qd s.stages) 0 s.stages.length,.rsl (rowI s.worth) 0 s.worth.length,.int .i64 s.price],.clos 92 [] [.rptr [.rsl (rowI plan) 0 plan.length] 0]]++unds (Try.f71.ntmps - 2),[]⟩ :=
 Qc (n:=400) (evs:=[.v (.tup [.rptr [.rsl (Qd (((Qb s).s).stages)) 0 ((((Qb s).s).stages).length),.rsl (rowI (((Qb s).s).worth)) 0 ((((Qb s).s).worth).length),.int .i64 (((Qb s).s).price),.rsl (rowI ((Qb s).meas)) 0 (((Qb s).meas).length),.rsl (rowI ((Qb s).mult)) 0 (((Qb s).mult).length)] 0,.bool true]),.b false,.v (.bool (Qw (Qb s).s plan)),.b false]) (obs:=_) hE Try.func71 Qi (by kernel_rfl) ho hr
theorem qU (s:Stl) (plan:List Int) {E:Env} {res:AV} (hE:Qf Try.prog 71 res E) (ho:AllP [Qg Try.prog (.clos 61 [] []) [.agg [.rsl (Qd s.stages) 0 s.stages.length,.rsl (rowI s.worth) 0 s.worth.length,.int .i64 s.price]] (.tup [.nilPtr,.bool false]),true=true])
 (hr:AvLe (.tup [.nilPtr,.int .i64 60]) res):G Try.prog E [.code (Qe Try.prog 71)] ⟨[.agg [.rsl (Qd s.stages) 0 s.stages.length,.rsl (rowI s.worth) 0 s.worth.length,.int .i64 s.price],.clos 92 [] [.rptr [.rsl (rowI plan) 0 plan.length] 0]]++unds (Try.f71.ntmps - 2),[]⟩ :=
 Qc (n:=400) (evs:=[.v (.tup [.nilPtr,.bool false]),.b true]) (obs:=_) hE Try.func71 Qi (by kernel_rfl) ho hr
theorem f71x92W (s:Stl) (plan:List Int) {E:Env} {rv:AV} (hE:Qf Try.prog 71 rv E)
 (h:((((QX s).isSome)=true→((s.stages.length≤9223372036854775807∧s.worth.length≤9223372036854775807)∧((MOk (Qb s))∧(((Qw (Qb s).s plan)=false→rv=(.tup [.nilPtr,.int .i64 1]))∧((Qw (Qb s).s plan)=true→rv=(.tup [.rptr [.rsl (Qd (((Qb s).s).stages)) 0 ((((Qb s).s).stages).length),.rsl (rowI (((Qb s).s).worth)) 0 ((((Qb s).s).worth).length),.int .i64 (((Qb s).s).price),.rsl (rowI ((Qb s).meas)) 0 (((Qb s).meas).length),.rsl (rowI ((Qb s).mult)) 0 (((Qb s).mult).length)] 0,.int .i64 0]))))))∧(((QX s).isSome)=false→((s.stages.length≤9223372036854775807∧s.worth.length≤9223372036854775807)∧rv=(.tup [.nilPtr,.int .i64 60]))))):G Try.prog E [.code (Qe Try.prog 71)] ⟨[.agg [.rsl (Qd s.stages) 0 s.stages.length,.rsl (rowI s.worth) 0 s.worth.length,.int .i64 s.price],.clos 92 [] [.rptr [.rsl (rowI plan) 0 plan.length] 0]]++unds (Try.f71.ntmps - 2),[]⟩:=by
 rcases bft ((QX s).isSome) with hc0 | hc0
 · have h:=h.1 hc0
   obtain ⟨h1,h⟩:=h
   obtain ⟨h2,h⟩:=h
   rcases bft (!(Qw (Qb s).s plan)) with hc1 | hc1
   · have h:=h.1 (bnT hc1)
     exact qW s plan hE ⟨(u61 (XB s h1 hc0)),rfl,(u92 (yn (Qb s) plan h2)),hc1,trivial⟩ (AvLe.of_eq (by rw [h]; try rfl))
   · have h:=h.2 (bnF hc1)
     exact qV s plan hE ⟨(u61 (XB s h1 hc0)),rfl,(u92 (yn (Qb s) plan h2)),hc1,trivial⟩ (AvLe.of_eq (by rw [h]; try rfl))
 · have h:=h.2 hc0
   obtain ⟨h1,h⟩:=h
   exact qU s plan hE ⟨(u61 (YA s h1 hc0)),rfl,trivial⟩ (AvLe.of_eq (by rw [h]; try rfl))
theorem Kw (s:Stl) (plan:List Int) (h:s.stages.length≤9223372036854775807∧s.worth.length≤9223372036854775807):Pure Try.prog 71 [.agg [.rsl (Qd s.stages) 0 s.stages.length,.rsl (rowI s.worth) 0 s.worth.length,.int .i64 s.price],.clos 92 [] [.rptr [.rsl (rowI plan) 0 plan.length] 0]] (begR s (Qw (Qb s).s plan)):=Qq Try.func71 Kq fun E hE=>by
 refine f71x92W s plan (rv:=begR s (Qw (Qb s).s plan)) hE ⟨fun h0=>⟨h,?_⟩,fun h0=>⟨h,We h0⟩⟩
 have hm:=(Vb h0).1
 have hw:=(QC hm.st).2.1
 have hs:=(QC hm.st).1
 exact ⟨hm,⟨fun h1=>Wd h0 h1,fun h1=>yP h0 h1⟩⟩
theorem Ko:Try.f71.body=some (Qe Try.prog 71):=by kernel_rfl
theorem qT (s:Stl) (plan:List Int) {E:Env} {res:AV} (hE:Qf Try.prog 71 res E) (ho:AllP [Qg Try.prog (.clos 61 [] []) [.agg [.rsl (Qd s.stages) 0 s.stages.length,.rsl (rowI s.worth) 0 s.worth.length,.int .i64 s.price]] (.tup [.rptr [.rsl (Qd (((Qb s).s).stages)) 0 ((((Qb s).s).stages).length),.rsl (rowI (((Qb s).s).worth)) 0 ((((Qb s).s).worth).length),.int .i64 (((Qb s).s).price),.rsl (rowI ((Qb s).meas)) 0 (((Qb s).meas).length),.rsl (rowI ((Qb s).mult)) 0 (((Qb s).mult).length)] 0,.bool true]),false=false,Qg Try.prog (.clos 98 [] [.rptr [.rsl (rowI plan) 0 plan.length] 0]) [.rptr [.rsl (Qd (((Qb s).s).stages)) 0 ((((Qb s).s).stages).length),.rsl (rowI (((Qb s).s).worth)) 0 ((((Qb s).s).worth).length),.int .i64 (((Qb s).s).price),.rsl (rowI ((Qb s).meas)) 0 (((Qb s).meas).length),.rsl (rowI ((Qb s).mult)) 0 (((Qb s).mult).length)] 0] (.bool (Qw (Qb s).s plan)),(!(Qw (Qb s).s plan))=true])
 (hr:AvLe (.tup [.nilPtr,.int .i64 1]) res):G Try.prog E [.code (Qe Try.prog 71)] ⟨[.agg [.rsl (Qd s.stages) 0 s.stages.length,.rsl (rowI s.worth) 0 s.worth.length,.int .i64 s.price],.clos 98 [] [.rptr [.rsl (rowI plan) 0 plan.length] 0]]++unds (Try.f71.ntmps - 2),[]⟩ :=
 Qc (n:=400) (evs:=[.v (.tup [.rptr [.rsl (Qd (((Qb s).s).stages)) 0 ((((Qb s).s).stages).length),.rsl (rowI (((Qb s).s).worth)) 0 ((((Qb s).s).worth).length),.int .i64 (((Qb s).s).price),.rsl (rowI ((Qb s).meas)) 0 (((Qb s).meas).length),.rsl (rowI ((Qb s).mult)) 0 (((Qb s).mult).length)] 0,.bool true]),.b false,.v (.bool (Qw (Qb s).s plan)),.b true]) (obs:=_) hE Try.func71 Qi (by kernel_rfl) ho hr
theorem qS (s:Stl) (plan:List Int) {E:Env} {res:AV} (hE:Qf Try.prog 71 res E) (ho:AllP [Qg Try.prog (.clos 61 [] []) [.agg [.rsl (Qd s.stages) 0 s.stages.length,.rsl (rowI s.worth) 0 s.worth.length,.int .i64 s.price]] (.tup [.rptr [.rsl (Qd (((Qb s).s).stages)) 0 ((((Qb s).s).stages).length),.rsl (rowI (((Qb s).s).worth)) 0 ((((Qb s).s).worth).length),.int .i64 (((Qb s).s).price),.rsl (rowI ((Qb s).meas)) 0 (((Qb s).meas).length),.rsl (rowI ((Qb s).mult)) 0 (((Qb s).mult).length)] 0,.bool true]),false=false,Qg Try.prog (.clos 98 [] [.rptr [.rsl (rowI plan) 0 plan.length] 0]) [.rptr [.rsl (Qd (((Qb s).s).stages)) 0 ((((Qb s).s).stages).length),.rsl (rowI (((Qb s).s).worth)) 0 ((((Qb s).s).worth).length),.int .i64 (((Qb s).s).price),.rsl (rowI ((Qb s).meas)) 0 (((Qb s).meas).length),.rsl (rowI ((Qb s).mult)) 0 (((Qb s).mult).length)] 0] (.bool (Qw (Qb s).s plan)),(!(Qw (Qb s).s plan))=false])
 (hr:AvLe (.tup [.rptr [.rsl (Qd (((Qb s).s).stages)) 0 ((((Qb s).s).stages).length),.rsl (rowI (((Qb s).s).worth)) 0 ((((Qb s).s).worth).length),.int .i64 (((Qb s).s).price),.rsl (rowI ((Qb s).meas)) 0 (((Qb s).meas).length),.rsl (rowI ((Qb s).mult)) 0 (((Qb s).mult).length)] 0,.int .i64 0]) res):G Try.prog E [.code (Qe Try.prog 71)] ⟨[.agg [.rsl (Qd s.stages) 0 s.stages.length,.rsl (rowI s.worth) 0 s.worth.length,.int .i64 s.price],.clos 98 [] [.rptr [.rsl (rowI plan) 0 plan.length] 0]]++unds (Try.f71.ntmps - 2),[]⟩ :=
 Qc (n:=400) (evs:=[.v (.tup [.rptr [.rsl (Qd (((Qb s).s).stages)) 0 ((((Qb s).s).stages).length),.rsl (rowI (((Qb s).s).worth)) 0 ((((Qb s).s).worth).length),.int .i64 (((Qb s).s).price),.rsl (rowI ((Qb s).meas)) 0 (((Qb s).meas).length),.rsl (rowI ((Qb s).mult)) 0 (((Qb s).mult).length)] 0,.bool true]),.b false,.v (.bool (Qw (Qb s).s plan)),.b false]) (obs:=_) hE Try.func71 Qi (by kernel_rfl) ho hr
theorem qR (s:Stl) (plan:List Int) {E:Env} {res:AV} (hE:Qf Try.prog 71 res E) (ho:AllP [Qg Try.prog (.clos 61 [] []) [.agg [.rsl (Qd s.stages) 0 s.stages.length,.rsl (rowI s.worth) 0 s.worth.length,.int .i64 s.price]] (.tup [.nilPtr,.bool false]),true=true])
 (hr:AvLe (.tup [.nilPtr,.int .i64 60]) res):G Try.prog E [.code (Qe Try.prog 71)] ⟨[.agg [.rsl (Qd s.stages) 0 s.stages.length,.rsl (rowI s.worth) 0 s.worth.length,.int .i64 s.price],.clos 98 [] [.rptr [.rsl (rowI plan) 0 plan.length] 0]]++unds (Try.f71.ntmps - 2),[]⟩ :=
 Qc (n:=400) (evs:=[.v (.tup [.nilPtr,.bool false]),.b true]) (obs:=_) hE Try.func71 Qi (by kernel_rfl) ho hr
theorem f71x98W (s:Stl) (plan:List Int) {E:Env} {rv:AV} (hE:Qf Try.prog 71 rv E)
 (h:((((QX s).isSome)=true→((s.stages.length≤9223372036854775807∧s.worth.length≤9223372036854775807)∧((MOk (Qb s))∧(((Qw (Qb s).s plan)=false→rv=(.tup [.nilPtr,.int .i64 1]))∧((Qw (Qb s).s plan)=true→rv=(.tup [.rptr [.rsl (Qd (((Qb s).s).stages)) 0 ((((Qb s).s).stages).length),.rsl (rowI (((Qb s).s).worth)) 0 ((((Qb s).s).worth).length),.int .i64 (((Qb s).s).price),.rsl (rowI ((Qb s).meas)) 0 (((Qb s).meas).length),.rsl (rowI ((Qb s).mult)) 0 (((Qb s).mult).length)] 0,.int .i64 0]))))))∧(((QX s).isSome)=false→((s.stages.length≤9223372036854775807∧s.worth.length≤9223372036854775807)∧rv=(.tup [.nilPtr,.int .i64 60]))))):G Try.prog E [.code (Qe Try.prog 71)] ⟨[.agg [.rsl (Qd s.stages) 0 s.stages.length,.rsl (rowI s.worth) 0 s.worth.length,.int .i64 s.price],.clos 98 [] [.rptr [.rsl (rowI plan) 0 plan.length] 0]]++unds (Try.f71.ntmps - 2),[]⟩:=by
 rcases bft ((QX s).isSome) with hc0 | hc0
 · have h:=h.1 hc0
   obtain ⟨h1,h⟩:=h
   obtain ⟨h2,h⟩:=h
   rcases bft (!(Qw (Qb s).s plan)) with hc1 | hc1
   · have h:=h.1 (bnT hc1)
     exact qT s plan hE ⟨(u61 (XB s h1 hc0)),rfl,(u98 (ym (Qb s) plan h2)),hc1,trivial⟩ (AvLe.of_eq (by rw [h]; try rfl))
   · have h:=h.2 (bnF hc1)
     exact qS s plan hE ⟨(u61 (XB s h1 hc0)),rfl,(u98 (ym (Qb s) plan h2)),hc1,trivial⟩ (AvLe.of_eq (by rw [h]; try rfl))
 · have h:=h.2 hc0
   obtain ⟨h1,h⟩:=h
   exact qR s plan hE ⟨(u61 (YA s h1 hc0)),rfl,trivial⟩ (AvLe.of_eq (by rw [h]; try rfl))
theorem Kv (s:Stl) (plan:List Int) (h:s.stages.length≤9223372036854775807∧s.worth.length≤9223372036854775807):Pure Try.prog 71 [.agg [.rsl (Qd s.stages) 0 s.stages.length,.rsl (rowI s.worth) 0 s.worth.length,.int .i64 s.price],.clos 98 [] [.rptr [.rsl (rowI plan) 0 plan.length] 0]] (begR s (Qw (Qb s).s plan)):=Qq Try.func71 Ko fun E hE=>by
 refine f71x98W s plan (rv:=begR s (Qw (Qb s).s plan)) hE ⟨fun h0=>⟨h,?_⟩,fun h0=>⟨h,We h0⟩⟩
 have hm:=(Vb h0).1
 have hw:=(QC hm.st).2.1
 have hs:=(QC hm.st).1
 exact ⟨hm,⟨fun h1=>Wd h0 h1,fun h1=>yP h0 h1⟩⟩
theorem f25b:Try.f25.body=some (Qe Try.prog 25):=by kernel_rfl
theorem u25 {a c k:List AV} {r:AV} (h:Pure Try.prog 25 (a++c++k) r):Qg Try.prog (.clos 25 a k) c r:=Ql Try.func25 (by kernel_rfl) f25b h
abbrev z25_1 (s:Stl):List AV:=[.rsl (Qd (((Qb s).s).stages)) 0 ((((Qb s).s).stages).length),.rsl (rowI (((Qb s).s).worth)) 0 ((((Qb s).s).worth).length),.int .i64 (((Qb s).s).price),.rsl (rowI ((Qb s).meas)) 0 (((Qb s).meas).length),.rsl (rowI ((Qb s).mult)) 0 (((Qb s).mult).length)]
abbrev z25_2 (s:Stl):List AV:=[.rsl (Qd s.stages) 0 s.stages.length,.rsl (rowI s.worth) 0 s.worth.length,.int .i64 s.price]
abbrev z25_3 (s:Stl) (kd:Int) (pa:Int) (oa:Int):List AV:=[.agg (z25_2 s),.clos 72 [] [.rptr [.int .i64 kd] 0,.rptr [.int .i64 pa] 0,.rptr [.int .i64 oa] 0]]
theorem p25_start_0 (s:Stl) (kd:Int) (pa:Int) (oa:Int) {E:Env} {res:AV} (hE:Qf Try.prog 25 res E) (ho:AllP [Qg Try.prog (.clos 71 [] []) (z25_3 s kd pa oa) (.tup [.rptr (z25_1 s) 0,.int .i64 0]),false=false,Qg Try.prog (.clos 76 [] []) [.int .i64 kd] (.clos 113 [] [.rptr [.int .i64 kd] 0]),Qg Try.prog (.clos 77 [] []) [.rptr (z25_1 s) 0,.int .i64 pa,.int .i64 oa] (.clos 114 [] [.rptr [.int .i64 pa] 0,.rptr [.rptr (z25_1 s) 0] 0,.rptr [.int .i64 oa] 0]),Qg Try.prog (.clos 75 [] []) [.rptr (z25_1 s) 0,.clos 113 [] [.rptr [.int .i64 kd] 0],.clos 114 [] [.rptr [.int .i64 pa] 0,.rptr [.rptr (z25_1 s) 0] 0,.rptr [.int .i64 oa] 0]] (.agg [.int .i64 ((QM (Qb s) (Qu kd) (Qo (Qb s) pa oa)).num),.int .i64 ((QM (Qb s) (Qu kd) (Qo (Qb s) pa oa)).den)]),2≤2,(0:Int)≤0∧(0:Int)<((2:Nat):Int),(0:Int)≤1∧(1:Int)<((2:Nat):Int)])
 (hr:AvLe (.tup [.int .i64 ((QM (Qb s) (Qu kd) (Qo (Qb s) pa oa)).num),.int .i64 ((QM (Qb s) (Qu kd) (Qo (Qb s) pa oa)).den),.int .i64 0]) res):G Try.prog E [.code (Qe Try.prog 25)] ⟨[.agg (z25_2 s),.int .i64 kd,.int .i64 pa,.int .i64 oa]++unds (Try.f25.ntmps - 4),[]⟩ :=
 Qc (n:=400) (evs:=[.wt 5,.wt 6,.wt 7,.v (.tup [.rptr (z25_1 s) 0,.int .i64 0]),.b false,.v (.clos 113 [] [.rptr [.int .i64 kd] 0]),.v (.clos 114 [] [.rptr [.int .i64 pa] 0,.rptr [.rptr (z25_1 s) 0] 0,.rptr [.int .i64 oa] 0]),.v (.agg [.int .i64 ((QM (Qb s) (Qu kd) (Qo (Qb s) pa oa)).num),.int .i64 ((QM (Qb s) (Qu kd) (Qo (Qb s) pa oa)).den)])]) (obs:=_) hE Try.func25 Qi (by kernel_rfl) ho hr
theorem p25_start_1 (s:Stl) (kd:Int) (pa:Int) (oa:Int) {E:Env} {res:AV} (hE:Qf Try.prog 25 res E) (ho:AllP [Qg Try.prog (.clos 71 [] []) (z25_3 s kd pa oa) (.tup [.nilPtr,.int .i64 1]),true=true])
 (hr:AvLe (.tup [.int .i64 0,.int .i64 0,.int .i64 1]) res):G Try.prog E [.code (Qe Try.prog 25)] ⟨[.agg (z25_2 s),.int .i64 kd,.int .i64 pa,.int .i64 oa]++unds (Try.f25.ntmps - 4),[]⟩ :=
 Qc (n:=400) (evs:=[.wt 5,.wt 6,.wt 7,.v (.tup [.nilPtr,.int .i64 1]),.b true]) (obs:=_) hE Try.func25 Qi (by kernel_rfl) ho hr
theorem p25_start_2 (s:Stl) (kd:Int) (pa:Int) (oa:Int) {E:Env} {res:AV} (hE:Qf Try.prog 25 res E) (ho:AllP [Qg Try.prog (.clos 71 [] []) (z25_3 s kd pa oa) (.tup [.nilPtr,.int .i64 60]),true=true])
 (hr:AvLe (.tup [.int .i64 0,.int .i64 0,.int .i64 60]) res):G Try.prog E [.code (Qe Try.prog 25)] ⟨[.agg (z25_2 s),.int .i64 kd,.int .i64 pa,.int .i64 oa]++unds (Try.f25.ntmps - 4),[]⟩ :=
 Qc (n:=400) (evs:=[.wt 5,.wt 6,.wt 7,.v (.tup [.nilPtr,.int .i64 60]),.b true]) (obs:=_) hE Try.func25 Qi (by kernel_rfl) ho hr
theorem f25W (s:Stl) (kd:Int) (pa:Int) (oa:Int) {E:Env} {rv:(Int × Int × Int)} (hE:Qf Try.prog 25 (.tup [.int .i64 rv.1,.int .i64 rv.2.1,.int .i64 rv.2.2]) E)
 (h:((((QX s).isSome)=true→(((XM (Qb s) kd pa oa)=true→((s.stages.length≤9223372036854775807∧s.worth.length≤9223372036854775807)∧((MOk (Qb s))∧rv=((QM (Qb s) (Qu kd) (Qo (Qb s) pa oa)).num,(QM (Qb s) (Qu kd) (Qo (Qb s) pa oa)).den,0))))∧((XM (Qb s) kd pa oa)=false→((s.stages.length≤9223372036854775807∧s.worth.length≤9223372036854775807)∧rv=(0,0,1)))))∧(((QX s).isSome)=false→((s.stages.length≤9223372036854775807∧s.worth.length≤9223372036854775807)∧rv=(0,0,60))))):G Try.prog E [.code (Qe Try.prog 25)] ⟨[.agg [.rsl (Qd s.stages) 0 s.stages.length,.rsl (rowI s.worth) 0 s.worth.length,.int .i64 s.price],.int .i64 kd,.int .i64 pa,.int .i64 oa]++unds (Try.f25.ntmps - 4),[]⟩:=by
 rcases bft ((QX s).isSome) with hc0 | hc0
 · have h:=h.1 hc0
   rcases bft (XM (Qb s) kd pa oa) with hc1 | hc1
   · have h:=h.1 hc1
     obtain ⟨h1,h⟩:=h
     obtain ⟨h2,h⟩:=h
     exact p25_start_0 s kd pa oa hE ⟨(Ql Try.func71 (by kernel_rfl) Kr (yP hc0 hc1 ▸ Kx s kd pa oa h1)),rfl,(u76 (mkonly_ok kd)),(u77 (mkaims_ok (Qb s) pa oa)),(Ql Try.func75 (by kernel_rfl) f75ob (firsto_ok (Qb s) kd pa oa h2)),(by decide),(⟨by decide,by decide⟩),(⟨by decide,by decide⟩),trivial⟩ (AvLe.of_eq (by rw [h]; try rfl))
   · have h:=h.2 hc1
     obtain ⟨h1,h⟩:=h
     exact p25_start_1 s kd pa oa hE ⟨(Ql Try.func71 (by kernel_rfl) Kr (Wd hc0 hc1 ▸ Kx s kd pa oa h1)),rfl,trivial⟩ (AvLe.of_eq (by rw [h]; try rfl))
 · have h:=h.2 hc0
   obtain ⟨h1,h⟩:=h
   exact p25_start_2 s kd pa oa hE ⟨(Ql Try.func71 (by kernel_rfl) Kr (We hc0 ▸ Kx s kd pa oa h1)),rfl,trivial⟩ (AvLe.of_eq (by rw [h]; try rfl))
theorem f64b:Try.f64.body=some (Qe Try.prog 64):=by kernel_rfl
theorem u64 {a c k:List AV} {r:AV} (h:Pure Try.prog 64 (a++c++k) r):Qg Try.prog (.clos 64 a k) c r:=Ql Try.func64 (by kernel_rfl) f64b h
theorem p64_start_0 {E:Env} {res:AV} (hE:Qf Try.prog 64 res E) (ho:AllP [3≤3,0=0,0=0,0=0,0=0,0=0])
 (hr:AvLe (.agg [.rsl [.int .i64 3,.int .i64 0,.rsl [.int .i64 0,.int .i64 1,.int .i64 0,.int .i64 2] 0 2,.int .i64 1,.int .i64 0,.rsl [.int .i64 1,.int .i64 3,.int .i64 1,.int .i64 4] 0 2,.int .i64 1,.int .i64 0,.rsl [.int .i64 1,.int .i64 3,.int .i64 3,.int .i64 4] 0 2,.int .i64 4,.int .i64 0,.rsl [] 0 0,.int .i64 4,.int .i64 (-1),.rsl [] 0 0] 0 5,.rsl [.int .i64 100] 0 1,.int .i64 40]) res):G Try.prog E [.code (Qe Try.prog 64)] ⟨[]++unds (Try.f64.ntmps - 0),[]⟩ :=
 Qc (n:=400) (evs:=[.wt 13,.wt 14]) (obs:=_) hE Try.func64 Qi (by kernel_rfl) ho hr
theorem f64W {E:Env} {rv:Stl} (hE:Qf Try.prog 64 (.agg [.rsl (Qd rv.stages) 0 rv.stages.length,.rsl (rowI rv.worth) 0 rv.worth.length,.int .i64 rv.price]) E)
 (h:rv=(⟨[(⟨3,0,[(⟨0,1⟩:Trn),(⟨0,2⟩:Trn)]⟩:Stg),(⟨1,0,[(⟨1,3⟩:Trn),(⟨1,4⟩:Trn)]⟩:Stg),(⟨1,0,[(⟨1,3⟩:Trn),(⟨3,4⟩:Trn)]⟩:Stg),(⟨4,0,([]:List Trn)⟩:Stg),(⟨4,(-1),([]:List Trn)⟩:Stg)],[100],40⟩:Stl)):G Try.prog E [.code (Qe Try.prog 64)] ⟨[]++unds (Try.f64.ntmps - 0),[]⟩:=by
 exact p64_start_0 hE ⟨(by decide),rfl,rfl,rfl,rfl,rfl,trivial⟩ (AvLe.of_eq (by rw [h]; try rfl))
def XH (s:Stl) (kd pa oa:Int):Int × Int × Int:=if (QX s).isSome=true then (if XM (Qb s) kd pa oa=true then ((QM (Qb s) (Qu kd) (Qo (Qb s) pa oa)).num,(QM (Qb s) (Qu kd) (Qo (Qb s) pa oa)).den,0) else (0,0,1)) else (0,0,60)
theorem qh (s:Stl) (kd pa oa:Int) (h:s.stages.length≤9223372036854775807∧s.worth.length≤9223372036854775807):Pure Try.prog 25 [.agg [.rsl (Qd s.stages) 0 s.stages.length,.rsl (rowI s.worth) 0 s.worth.length,.int .i64 s.price],.int .i64 kd,.int .i64 pa,.int .i64 oa] (.tup [.int .i64 (XH s kd pa oa).1,.int .i64 (XH s kd pa oa).2.1,.int .i64 (XH s kd pa oa).2.2]):=Qq Try.func25 f25b fun E hE=>by
 refine f25W s kd pa oa (rv:=XH s kd pa oa) hE ⟨fun h0=>⟨fun h1=>⟨h,(Vb h0).1,?_⟩,fun h1=>⟨h,?_⟩⟩,fun h0=>⟨h,?_⟩⟩
 · rw [XH,if_pos h0,if_pos h1]
 · rw [XH,if_pos h0,if_neg (by rw [h1]; simp)]
 · rw [XH,if_neg (by rw [h0]; simp)]
def exS:Stl:=⟨[⟨3,0,[⟨0,1⟩,⟨0,2⟩]⟩,⟨1,0,[⟨1,3⟩,⟨1,4⟩]⟩,⟨1,0,[⟨1,3⟩,⟨3,4⟩]⟩,⟨4,0,[]⟩,⟨4,-1,[]⟩],[100],40⟩
theorem Yw:Pure Try.prog 64 [] (.agg [.rsl (Qd exS.stages) 0 exS.stages.length,.rsl (rowI exS.worth) 0 exS.worth.length,.int .i64 exS.price]):=Qq Try.func64 f64b fun E hE=>f64W (rv:=exS) hE rfl
theorem f20b:Try.f20.body=some (Qe Try.prog 20):=by kernel_rfl
theorem u20 {a c k:List AV} {r:AV} (h:Pure Try.prog 20 (a++c++k) r):Qg Try.prog (.clos 20 a k) c r:=Ql Try.func20 (by kernel_rfl) f20b h
abbrev qO:AV:=.tup [.agg [.rsl (Qd (((QN 3 2 1 3).1).stages)) 0 ((((QN 3 2 1 3).1).stages).length),.rsl (rowI (((QN 3 2 1 3).1).worth)) 0 ((((QN 3 2 1 3).1).worth).length),.int .i64 (((QN 3 2 1 3).1).price)],.int .i64 ((QN 3 2 1 3).2)]
abbrev WS:List AV:=[.rsl (Qd exS.stages) 0 exS.stages.length,.rsl (rowI exS.worth) 0 exS.worth.length,.int .i64 exS.price]
abbrev qN:AV:=.tup [.int .i64 ((XH exS 0 2 1).1),.int .i64 ((XH exS 0 2 1).2.1),.int .i64 ((XH exS 0 2 1).2.2)]
abbrev z20_4:List AV:=[.int .i64 3,.int .i64 2,.int .i64 1,.int .i64 3]
abbrev z20_5:List AV:=[.agg WS,.int .i64 0,.int .i64 2,.int .i64 1]
theorem p20_start_0 {E:Env} {res:AV} (hE:Qf Try.prog 20 res E) (ho:AllP [Qg Try.prog (.clos 64 [] []) [] (.agg WS),Qg Try.prog (.clos 25 [] []) z20_5 qN,Qg Try.prog (.clos 21 [] []) z20_4 qO,3≤3,((XH exS 0 2 1).2.2 == 0)=true,((QN 3 2 1 3).2 == 0)=true,((XH exS 0 2 1).1 == 1)=true,((XH exS 0 2 1).2.1 == 4)=true])
 (hr:AvLe (.bool ((((((QN 3 2 1 3).1).stages).length:Nat):Int) == 8)) res):G Try.prog E [.code (Qe Try.prog 20)] ⟨[]++unds (Try.f20.ntmps - 0),[]⟩ :=
 Qc (n:=400) (evs:=[.v (.agg WS),.v qN,.v qO,.b true,.b true,.b true,.b true]) (obs:=_) hE Try.func20 Qi (by kernel_rfl) ho hr
theorem p20_start_1 {E:Env} {res:AV} (hE:Qf Try.prog 20 res E) (ho:AllP [Qg Try.prog (.clos 64 [] []) [] (.agg WS),Qg Try.prog (.clos 25 [] []) z20_5 qN,Qg Try.prog (.clos 21 [] []) z20_4 qO,3≤3,((XH exS 0 2 1).2.2 == 0)=true,((QN 3 2 1 3).2 == 0)=true,((XH exS 0 2 1).1 == 1)=true,((XH exS 0 2 1).2.1 == 4)=false])
 (hr:AvLe (.bool false) res):G Try.prog E [.code (Qe Try.prog 20)] ⟨[]++unds (Try.f20.ntmps - 0),[]⟩ :=
 Qc (n:=400) (evs:=[.v (.agg WS),.v qN,.v qO,.b true,.b true,.b true,.b false]) (obs:=_) hE Try.func20 Qi (by kernel_rfl) ho hr
theorem p20_start_2 {E:Env} {res:AV} (hE:Qf Try.prog 20 res E) (ho:AllP [Qg Try.prog (.clos 64 [] []) [] (.agg WS),Qg Try.prog (.clos 25 [] []) z20_5 qN,Qg Try.prog (.clos 21 [] []) z20_4 qO,3≤3,((XH exS 0 2 1).2.2 == 0)=true,((QN 3 2 1 3).2 == 0)=true,((XH exS 0 2 1).1 == 1)=false,false=false])
 (hr:AvLe (.bool false) res):G Try.prog E [.code (Qe Try.prog 20)] ⟨[]++unds (Try.f20.ntmps - 0),[]⟩ :=
 Qc (n:=400) (evs:=[.v (.agg WS),.v qN,.v qO,.b true,.b true,.b false,.b false]) (obs:=_) hE Try.func20 Qi (by kernel_rfl) ho hr
theorem p20_start_3 {E:Env} {res:AV} (hE:Qf Try.prog 20 res E) (ho:AllP [Qg Try.prog (.clos 64 [] []) [] (.agg WS),Qg Try.prog (.clos 25 [] []) z20_5 qN,Qg Try.prog (.clos 21 [] []) z20_4 qO,3≤3,((XH exS 0 2 1).2.2 == 0)=true,((QN 3 2 1 3).2 == 0)=false,false=false,false=false])
 (hr:AvLe (.bool false) res):G Try.prog E [.code (Qe Try.prog 20)] ⟨[]++unds (Try.f20.ntmps - 0),[]⟩ :=
 Qc (n:=400) (evs:=[.v (.agg WS),.v qN,.v qO,.b true,.b false,.b false,.b false]) (obs:=_) hE Try.func20 Qi (by kernel_rfl) ho hr
theorem p20_start_4 {E:Env} {res:AV} (hE:Qf Try.prog 20 res E) (ho:AllP [Qg Try.prog (.clos 64 [] []) [] (.agg WS),Qg Try.prog (.clos 25 [] []) z20_5 qN,Qg Try.prog (.clos 21 [] []) z20_4 qO,3≤3,((XH exS 0 2 1).2.2 == 0)=false,false=false,false=false,false=false])
 (hr:AvLe (.bool false) res):G Try.prog E [.code (Qe Try.prog 20)] ⟨[]++unds (Try.f20.ntmps - 0),[]⟩ :=
 Qc (n:=400) (evs:=[.v (.agg WS),.v qN,.v qO,.b false,.b false,.b false,.b false]) (obs:=_) hE Try.func20 Qi (by kernel_rfl) ho hr
theorem f20W {E:Env} {rv:Bool} (hE:Qf Try.prog 20 (.bool rv) E)
 (h:((exS.stages.length≤9223372036854775807∧exS.worth.length≤9223372036854775807)∧(((XH exS 0 2 1).2.2=0→(((QN 3 2 1 3).2=0→(((XH exS 0 2 1).1=1→(((XH exS 0 2 1).2.1=4→rv=((((((QN 3 2 1 3).1).stages).length:Nat):Int) == 8))∧(¬ ((XH exS 0 2 1).2.1=4)→rv=false)))∧(¬ ((XH exS 0 2 1).1=1)→rv=false)))∧(¬ ((QN 3 2 1 3).2=0)→rv=false)))∧(¬ ((XH exS 0 2 1).2.2=0)→rv=false)))):G Try.prog E [.code (Qe Try.prog 20)] ⟨[]++unds (Try.f20.ntmps - 0),[]⟩:=by
 obtain ⟨h1,h⟩:=h
 rcases bft ((XH exS 0 2 1).2.2 == 0) with hc0 | hc0
 · have h:=h.1 (eq_of_beq hc0)
   rcases bft ((QN 3 2 1 3).2 == 0) with hc1 | hc1
   · have h:=h.1 (eq_of_beq hc1)
     rcases bft ((XH exS 0 2 1).1 == 1) with hc2 | hc2
     · have h:=h.1 (eq_of_beq hc2)
       rcases bft ((XH exS 0 2 1).2.1 == 4) with hc3 | hc3
       · have h:=h.1 (eq_of_beq hc3)
         exact p20_start_0 hE ⟨(u64 (Yw )),(u25 (qh exS 0 2 1 h1)),(u21 (YL 3 2 1 3)),(by decide),hc0,hc1,hc2,hc3,trivial⟩ (AvLe.of_eq (by rw [h]; try rfl))
       · have h:=h.2 (ne_of_beq_false hc3)
         exact p20_start_1 hE ⟨(u64 (Yw )),(u25 (qh exS 0 2 1 h1)),(u21 (YL 3 2 1 3)),(by decide),hc0,hc1,hc2,hc3,trivial⟩ (AvLe.of_eq (by rw [h]; try rfl))
     · have h:=h.2 (ne_of_beq_false hc2)
       exact p20_start_2 hE ⟨(u64 (Yw )),(u25 (qh exS 0 2 1 h1)),(u21 (YL 3 2 1 3)),(by decide),hc0,hc1,hc2,rfl,trivial⟩ (AvLe.of_eq (by rw [h]; try rfl))
   · have h:=h.2 (ne_of_beq_false hc1)
     exact p20_start_3 hE ⟨(u64 (Yw )),(u25 (qh exS 0 2 1 h1)),(u21 (YL 3 2 1 3)),(by decide),hc0,hc1,rfl,rfl,trivial⟩ (AvLe.of_eq (by rw [h]; try rfl))
 · have h:=h.2 (ne_of_beq_false hc0)
   exact p20_start_4 hE ⟨(u64 (Yw )),(u25 (qh exS 0 2 1 h1)),(u21 (YL 3 2 1 3)),(by decide),hc0,rfl,rfl,rfl,trivial⟩ (AvLe.of_eq (by rw [h]; try rfl))
theorem odds_ex:XH exS 0 2 1=(1,4,0):=by decide +kernel
theorem throws_ex:(QN 3 2 1 3).2=0∧(QN 3 2 1 3).1.stages.length=8:=by decide +kernel
theorem Vm:Pure Try.prog 20 [] (.bool true):=Qq Try.func20 f20b fun E hE=>by
 have h1:=odds_ex
 have h2:=throws_ex
 refine f20W (rv:=true) hE ⟨⟨by decide,by decide⟩,fun _=>⟨fun _=>⟨fun _=>⟨fun _=>?_,fun h=>?_⟩,fun h=>?_⟩,fun h=>?_⟩,fun h=>?_⟩
 · rw [h2.2]; rfl
 · rw [h1] at h; exact absurd rfl h
 · rw [h1] at h; exact absurd rfl h
 · exact absurd h2.1 h
 · rw [h1] at h; exact absurd rfl h
end Go.Proofs.Ytfgmlaeikcfpbaa
namespace Go.Proofs.Ytfgmlaeikcfpbaa
open Go Ax
open Go.Proofs
theorem ownT:ownKnob Try.prog.godebug=none:=by kernel_rfl
theorem laidT:laidOutB Try.prog=true:=by kernel_rfl
theorem dInts (W:World):Dec Try.prog W 23 (List Int) (fun a=>[.rsl (rowI a) 0 a.length]) (fun a=>a.length≤9223372036854775807):=by
 refine Dec.map (qC Try.underlying23 (n:=1) (by kernel_rfl) (by decide) (fun _=>rfl) (fun _=>rfl) (Vk Try.underlying3)) (fun x=>x) ?_ ?_
 · exact fun _=>rfl
 · exact fun _ h=>h.1
theorem dTrn (W:World):Dec Try.prog W 122 Trn cTrn (fun a=>True):=by
 refine Dec.map (Wa Try.underlying122 rfl (tot:=2) (by kernel_rfl) (XG (n:=1) (tot:=2) (by kernel_rfl) rfl (Vk Try.underlying3) (XG (n:=1) (tot:=2) (by kernel_rfl) rfl (Vk Try.underlying3) qD (by decide)) (by decide))) (fun x=>(⟨x.1,x.2.1⟩:Trn)) ?_ ?_
 · exact fun _=>rfl
 · exact fun _ _=>trivial
theorem dTrns (W:World):Dec Try.prog W 80 (List Trn) (fun a=>[.rsl (Qk a) 0 a.length]) (fun a=>a.length≤9223372036854775807):=by
 refine Dec.map (qC Try.underlying80 (n:=2) (by kernel_rfl) (by decide) (fun _=>rfl) (fun _=>rfl) (dTrn W)) (fun x=>x) ?_ ?_
 · exact fun _=>rfl
 · exact fun _ h=>h.1
theorem dStg (W:World):Dec Try.prog W 82 Stg cStg (fun a=>True):=by
 refine Dec.map (Wa Try.underlying82 rfl (tot:=3) (by kernel_rfl) (XG (n:=1) (tot:=3) (by kernel_rfl) rfl (Vk Try.underlying3) (XG (n:=1) (tot:=3) (by kernel_rfl) rfl (Vk Try.underlying3) (XG (n:=1) (tot:=3) (by kernel_rfl) rfl (dTrns W) qD (by decide)) (by decide)) (by decide))) (fun x=>(⟨x.1,x.2.1,x.2.2.1⟩:Stg)) ?_ ?_
 · exact fun _=>rfl
 · exact fun _ _=>trivial
theorem dStgs (W:World):Dec Try.prog W 22 (List Stg) (fun a=>[.rsl (Qd a) 0 a.length]) (fun a=>a.length≤9223372036854775807):=by
 refine Dec.map (qC Try.underlying22 (n:=3) (by kernel_rfl) (by decide) (fun _=>rfl) (fun _=>rfl) (dStg W)) (fun x=>x) ?_ ?_
 · exact fun _=>rfl
 · exact fun _ h=>h.1
theorem dStl (W:World):Dec Try.prog W 25 Stl cStl (fun a=>a.stages.length≤9223372036854775807∧a.worth.length≤9223372036854775807):=by
 refine Dec.map (Wa Try.underlying25 rfl (tot:=3) (by kernel_rfl) (XG (n:=1) (tot:=3) (by kernel_rfl) rfl (dStgs W) (XG (n:=1) (tot:=3) (by kernel_rfl) rfl (dInts W) (XG (n:=1) (tot:=3) (by kernel_rfl) rfl (Vk Try.underlying3) qD (by decide)) (by decide)) (by decide))) (fun x=>(⟨x.1,x.2.1,x.2.2.1⟩:Stl)) ?_ ?_
 · exact fun _=>rfl
 · exact fun _ h=>⟨h.1,h.2.1⟩
end Go.Proofs.Ytfgmlaeikcfpbaa
namespace Go.Proofs.Ytfgmlaeikcfpbaa
open Go Ax
open Go.Proofs
/-! ### What the values are,in the end -/
structure VFix (m:Mch) (w:Int→Int) (ch:Int→List Int→Int) (i:Nat) (p:List Int × List Int):Prop where
 fx:∀ (j:Nat) (x:Stg),i≤j→m.s.stages[j]?=some x →
  (x.kind=4→p.1.getD j 0=(if x.prize≥0 then w x.prize else 0)∧p.2.getD j 0=0) ∧
  (x.kind=1→p.1.getD j 0=sumW x.turns (Xi m j p.1 x.turns)∧p.2.getD j 0=0) ∧
  (x.kind ≠ 4→x.kind ≠ 1→p.1.getD j 0=(Xi m j p.1 x.turns).getD (Int.toNat (p.2.getD j 0)) 0∧p.2.getD j 0=ch j (Xi m j p.1 x.turns))
theorem next_set {m:Mch} {i j:Nat} {a:Int} {V:List Int} {ts:List Trn} (h:∀ t ∈ ts,i<Int.toNat t.to):Xi m j (V.set i a) ts=Xi m j V ts:=by
 unfold Xi
 apply List.map_congr_left
 intro t ht
 rw [getD_set_ne (by have:=h t ht; omega)]
theorem vfix_step {m:Mch} (hm:MOk m) {w:Int→Int} {ch:Int→List Int→Int} {i:Nat} {p:List Int × List Int} (hlt:i<m.s.stages.length) (hp:VOk m (i+1) p) (hf:VFix m w ch (i+1) p):VFix m w ch i (Yf m w ch i p):=by
 have hform:=(QC hm.st).2.2.2.2
 have hi:m.s.stages[i]?=some m.s.stages[i]:=List.getElem?_eq_getElem hlt
 have hx:m.s.stages.getD i ⟨0,0,[]⟩=m.s.stages[i]:=by simp [List.getD,hi]
 have hto:=XA hi (hform i hlt)
 have up:∀ (a:Int) (p':List Int × List Int),p'.1=p.1.set i a→(∀ j,i<j→p'.2.getD j 0=p.2.getD j 0) →
  ((m.s.stages[i].kind=4→a=(if m.s.stages[i].prize≥0 then w m.s.stages[i].prize else 0)∧p'.2.getD i 0=0) ∧
   (m.s.stages[i].kind=1→a=sumW m.s.stages[i].turns (Xi m i p.1 m.s.stages[i].turns)∧p'.2.getD i 0=0) ∧
   (m.s.stages[i].kind ≠ 4→m.s.stages[i].kind ≠ 1→a=(Xi m i p.1 m.s.stages[i].turns).getD (Int.toNat (p'.2.getD i 0)) 0∧p'.2.getD i 0=ch i (Xi m i p.1 m.s.stages[i].turns)))→VFix m w ch i p':=by
  intro a p' e1 e2 e3
  refine ⟨fun j x hj hjx=>?_⟩
  by_cases e:i=j
  · subst e
    rw [hi] at hjx; cases hjx
    rw [e1,next_set (fun t ht=>(hto t ht).1),YC (by rw [hp.l1]; exact hlt)]
    exact e3
  · have h1:=hf.fx j x (by omega) hjx
    have hto2:=XA hjx (hform j (List.getElem?_eq_some_iff.1 hjx).1)
    rw [e1,next_set (fun t ht=>by have:=(hto2 t ht).1; omega),getD_set_ne e,e2 j (by omega)]
    exact h1
 unfold Yf
 rw [hx]
 generalize hxx:m.s.stages[i]=x at *
 split
 · rename_i h4
   split
   · rename_i hpr
     refine up (w x.prize) _ rfl (fun j hj=>rfl) ⟨fun _=>⟨by rw [if_pos hpr],hp.c0 i (by omega)⟩,fun h=>by omega,fun h=>absurd h4 h⟩
   · rename_i hpr
     refine up 0 _ ?_ (fun j hj=>rfl) ⟨fun _=>⟨by rw [if_neg hpr],hp.c0 i (by omega)⟩,fun h=>by omega,fun h=>absurd h4 h⟩
     rw [yX]
     have:=getD_some (l:=p.1) (i:=i) (by rw [hp.l1]; exact hlt)
     rw [hp.lo i (by omega)] at this; exact this
 · rename_i h4
   split
   · rename_i h1
     refine up _ _ rfl (fun j hj=>rfl) ⟨fun h=>absurd h h4,fun _=>⟨by rw [hp.lo i (by omega),Int.zero_add],hp.c0 i (by omega)⟩,fun _ h=>absurd h1 h⟩
   · rename_i h1
     refine up _ _ rfl (fun j hj=>by show (p.2.set i _).getD j 0=_; rw [getD_set_ne (by omega)]) ⟨fun h=>absurd h h4,fun h=>absurd h h1,fun _ _=>?_⟩
     show _=(Xi m i p.1 x.turns).getD (Int.toNat ((p.2.set i _).getD i 0)) 0∧(p.2.set i _).getD i 0=_
     rw [YC (by rw [hp.l2]; exact hlt)]
     exact ⟨rfl,rfl⟩
theorem vfix_all {m:Mch} (hm:MOk m) {w:Int→Int} {ch:Int→List Int→Int} (hw:WOk m w ch):∀ {n:Nat} {p:List Int × List Int},n≤m.s.stages.length→VOk m n p→VFix m w ch n p→VFix m w ch 0 (valN m w ch n p)
 | 0,p,_,_,h=>h
 | i+1,p,hn,hp,h=>(vfix_all hm hw (n:=i) (by omega) (WD hm hw (by omega) hp) (vfix_step hm (by omega) hp h):VFix m w ch 0 (valN m w ch i (Yf m w ch i p)))
theorem vfixA {m:Mch} (hm:MOk m) {w:Int→Int} {ch:Int→List Int→Int} (hw:WOk m w ch):VFix m w ch 0 (valA m w ch) :=
 vfix_all hm hw (Nat.le_refl _) (yS hm) ⟨fun j x hj hx=>by have:=(List.getElem?_eq_some_iff.1 hx).1; omega⟩
/-! ### Who chooses -/
/-! ### The reference's greatest common divisor is the program's -/
theorem gcdF_int:∀ {n:Nat} {a b:Int},0≤a→0≤b→b<n→gcdF n a b=(Int.gcd a b:Int)
 | 0,a,b,_,hb,h=>by omega
 | n+1,a,b,ha,hb,h=>by
  simp only [gcdF]
  split
  · rename_i h0
    have t0:=Int.tmod_nonneg b ha
    have t1:=Int.tmod_lt_of_pos a h0
    rw [gcdF_int hb t0 (by omega),Int.tmod_eq_emod_of_nonneg ha,Int.gcd_comm a b]
    congr 1
    rw [Int.gcd_comm b (a % b),Int.gcd_comm b a]
    simp only [Int.gcd,Int.natAbs_emod_of_nonneg ha]
    rw [Nat.gcd_comm a.natAbs,Nat.gcd_rec b.natAbs a.natAbs]
  · have:b=0:=by omega
    subst this
    simp [Int.gcd]; omega
theorem gcdI_int {a b:Int} (ha:0≤a) (hb:0≤b):gcdI a b=(Int.gcd a b:Int):=gcdF_int ha hb (by omega)
theorem gcdI_comm {a b:Int} (ha:0≤a) (hb:0≤b):gcdI a b=gcdI b a:=by rw [gcdI_int ha hb,gcdI_int hb ha,Int.gcd_comm]
/-! ### What an end is worth -/
theorem Xj {s:Stl} (h:Qy s=0):(QX s).isSome=true:=by
 unfold Qy at h
 split at h
 · assumption
 · omega
theorem measR_of {s:Stl} (h:(QX s).isSome=true):QO (QL s)=((Qb s).meas,true):=by
 obtain ⟨m,hm⟩:=Option.isSome_iff_exists.1 h
 have:Qb s=m:=by simp [Qb,hm]
 rw [this]
 unfold QX at hm
 split at hm
 · obtain ⟨r,hr,e⟩:=Option.map_eq_some_iff.1 hm
   rw [hr,← e]; rfl
 · cases hm
end Go.Proofs.Ytfgmlaeikcfpbaa
namespace Go.Proofs.Ytfgmlaeikcfpbaa
open Go Ax
open Go.Proofs
abbrev avStl (s:Stl):AV:=.agg [.rsl (Qd s.stages) 0 s.stages.length,.rsl (rowI s.worth) 0 s.worth.length,.int .i64 s.price]
theorem checkK_no {s:Stl} (h:¬ (Qy s=0)):Qy s=60:=by
 unfold Qy at *
 split
 · rename_i h1; rw [if_pos h1] at h; omega
 · rfl
theorem VT {s:Stl}:(QX s).isSome=true ↔ Qy s=0:=by
 unfold Qy; split <;> simp_all
def QK (s:Stl) (plan:List Int):Int:=if Qy s=0 then (if Qw s plan=true then 0 else 1) else 60
theorem WF {s:Stl} {plan:List Int} (h:QK s plan=0):Qy s=0∧Qw s plan=true:=by
 unfold QK at h
 split at h
 · rename_i h0
   split at h
   · rename_i h1; exact ⟨h0,h1⟩
   · omega
 · omega
/-! ### The end values of a machine,turn by turn -/
structure Aims where
 kind:Int
 player:Int
 operator:Int
theorem f30b:Try.f30.body=some (Qe Try.prog 30):=by kernel_rfl
theorem u30 {a c k:List AV} {r:AV} (h:Pure Try.prog 30 (a++c++k) r):Qg Try.prog (.clos 30 a k) c r:=Ql Try.func30 (by kernel_rfl) f30b h
def WA (P:Program):List Item:=kAt 400 [.code (Qe P 30)] [.b false,.b false,.stop]
def f30S0 (s:Stl) (plan:(List Int)) (i:Nat):St:=⟨([J,.rsl (rowI plan) 0 plan.length,.ptr 0 0 0,J,J,J,.int .i64 (i:Int)]++Js 43),[⟨true,0,1,true,[.rsl (Qd s.stages) 0 s.stages.length,.rsl (rowI s.worth) 0 s.worth.length,.int .i64 s.price],false⟩]⟩
def f30G0 (E:Env) (s:Stl) (plan:(List Int)) (i:Nat):Prop:=G Try.prog E (WA Try.prog) (f30S0 s plan i )
abbrev qM (s:Stl):List AV:=[.rsl (Qd s.stages) 0 s.stages.length,.rsl (rowI s.worth) 0 s.worth.length,.int .i64 s.price]
abbrev Wu (se:Stg):List AV:=[.int .i64 se.kind,.int .i64 se.prize,.rsl (Qk se.turns) 0 se.turns.length]
abbrev z30_3 (e:Int) (se:Stg):AV:=.bool (Qa e 0 ((se.turns.length:Int) - 1))
abbrev z30_4 (e:Int) (se:Stg):List AV:=[.int .i64 e,.int .i64 0,.int .i64 ((se.turns.length:Int) - 1)]
abbrev z30_5 (plan:(List Int)) (i:Nat):List AV:=[J,.rsl (rowI plan) 0 plan.length,.ptr 0 0 0,J,J,J,.int .i64 ((i:Int)+1)]++Js 43
theorem p30_start_0 (s:Stl) (plan:(List Int)) {E:Env} {res:AV} (hE:Qf Try.prog 30 res E) (ho:AllP [Qg Try.prog (.clos 19 [] []) [.agg (qM s)] (.int .i64 (Qy s)),((Qy s) != 0)=true])
 (hr:AvLe (.int .i64 (Qy s)) res):G Try.prog E [.code (Qe Try.prog 30)] ⟨[.agg (qM s),.rsl (rowI plan) 0 plan.length]++unds (Try.f30.ntmps - 2),[]⟩ :=
 Qc (n:=400) (evs:=[.v (.int .i64 (Qy s)),.b true]) (obs:=_) hE Try.func30 Qi (by kernel_rfl) ho hr
theorem p30_start_1 (s:Stl) (plan:(List Int)) {E:Env} {res:AV} (hE:Qf Try.prog 30 res E) (ho:AllP [Qg Try.prog (.clos 19 [] []) [.agg (qM s)] (.int .i64 (Qy s)),((Qy s) != 0)=false,((plan.length:Int) != (s.stages.length:Int))=true])
 (hr:AvLe (.int .i64 1) res):G Try.prog E [.code (Qe Try.prog 30)] ⟨[.agg (qM s),.rsl (rowI plan) 0 plan.length]++unds (Try.f30.ntmps - 2),[]⟩ :=
 Qc (n:=400) (evs:=[.v (.int .i64 (Qy s)),.b false,.b true]) (obs:=_) hE Try.func30 Qi (by kernel_rfl) ho hr
theorem p30_start_2 (s:Stl) (plan:(List Int)) {E:Env} {rv:AV} (hE:Qf Try.prog 30 rv E) (ho:AllP [Qg Try.prog (.clos 19 [] []) [.agg (qM s)] (.int .i64 (Qy s)),((Qy s) != 0)=false,((plan.length:Int) != (s.stages.length:Int))=false])
 (hg:G Try.prog E (WA Try.prog) ⟨([J,.rsl (rowI plan) 0 plan.length,.ptr 0 0 0,J,J,J,.int .i64 0]++Js 43),[⟨true,0,1,true,(qM s),false⟩]⟩):G Try.prog E [.code (Qe Try.prog 30)] ⟨[.agg (qM s),.rsl (rowI plan) 0 plan.length]++unds (Try.f30.ntmps - 2),[]⟩ :=
 Qh (n:=400) (ds:=[]) (cs:=[]) (live:=[1,2,6]) (m:=1) (evs:=[.v (.int .i64 (Qy s)),.b false,.b false,.stop]) (obs:=_) hE.2.1 (hE.nogh _) Qi (by kernel_rfl) ho hg
theorem f30W (s:Stl) (plan:(List Int)) {E:Env} {rv:Int} (hE:Qf Try.prog 30 (.int .i64 rv) E)
 (h:((s.stages.length≤9223372036854775807∧s.worth.length≤9223372036854775807)∧((¬ ((Qy s)=0)→rv=(Qy s))∧((Qy s)=0→((¬ ((plan.length:Int)=(s.stages.length:Int))→rv=1)∧((plan.length:Int)=(s.stages.length:Int)→f30G0 E s plan 0)))))):G Try.prog E [.code (Qe Try.prog 30)] ⟨[.agg [.rsl (Qd s.stages) 0 s.stages.length,.rsl (rowI s.worth) 0 s.worth.length,.int .i64 s.price],.rsl (rowI plan) 0 plan.length]++unds (Try.f30.ntmps - 2),[]⟩:=by
 obtain ⟨h1,h⟩:=h
 rcases bft ((Qy s) != 0) with hc0 | hc0
 · have h:=h.1 (bneT hc0)
   exact p30_start_0 s plan hE ⟨(u19 (qG s h1)),hc0,trivial⟩ (AvLe.of_eq (by rw [h]; try rfl))
 · have h:=h.2 (bneF hc0)
   rcases bft ((plan.length:Int) != (s.stages.length:Int)) with hc1 | hc1
   · have h:=h.1 (bneT hc1)
     exact p30_start_1 s plan hE ⟨(u19 (qG s h1)),hc0,hc1,trivial⟩ (AvLe.of_eq (by rw [h]; try rfl))
   · have h:=h.2 (bneF hc1)
     exact p30_start_2 s plan hE ⟨(u19 (qG s h1)),hc0,hc1,trivial⟩ h
theorem p30_0_0 (s:Stl) (plan:(List Int)) (i:Nat) (se:Stg) (e:Int) {E:Env} {res:AV} (hE:Qf Try.prog 30 res E) (ho:AllP [(decide ((i:Int)<(plan.length:Int)))=true,0≤(i:Int)∧(i:Int)<(s.stages.length:Int),((Qd s.stages).drop (0+(Int.toNat (i:Int))*3)).take 3=(Wu se),3≤3,(se.kind == 2)=true,true=true,InR .i64 ((se.turns.length:Int) - 1),0≤(i:Int)∧(i:Int)<(plan.length:Int),((rowI plan).drop (0+(Int.toNat (i:Int))*1)).take 1=[.int .i64 e],Qg Try.prog (.clos 62 [] []) (z30_4 e se) (z30_3 e se),(!(Qa e 0 ((se.turns.length:Int) - 1)))=true])
 (hr:AvLe (.int .i64 1) res):G Try.prog E (WA Try.prog) (f30S0 s plan i ) :=
 Qc (n:=400) (evs:=[.b true,.auto,.ld (.agg (Wu se)),.b true,.b true,.auto,.ld (.int .i64 e),.v (z30_3 e se),.b true]) (obs:=_) hE Try.func30 Qi (by kernel_rfl) ho hr
theorem p30_0_1 (s:Stl) (plan:(List Int)) (i:Nat) (se:Stg) (e:Int) {E:Env} {rv:AV} (hE:Qf Try.prog 30 rv E) (ho:AllP [(decide ((i:Int)<(plan.length:Int)))=true,0≤(i:Int)∧(i:Int)<(s.stages.length:Int),((Qd s.stages).drop (0+(Int.toNat (i:Int))*3)).take 3=(Wu se),3≤3,(se.kind == 2)=true,true=true,InR .i64 ((se.turns.length:Int) - 1),0≤(i:Int)∧(i:Int)<(plan.length:Int),((rowI plan).drop (0+(Int.toNat (i:Int))*1)).take 1=[.int .i64 e],Qg Try.prog (.clos 62 [] []) (z30_4 e se) (z30_3 e se),(!(Qa e 0 ((se.turns.length:Int) - 1)))=false,InR .i64 ((i:Int)+1)])
 (hg:G Try.prog E (WA Try.prog) ⟨(z30_5 plan i),[⟨true,0,1,true,(qM s),false⟩]⟩):G Try.prog E (WA Try.prog) (f30S0 s plan i ) :=
 Qh (n:=400) (ds:=[]) (cs:=[]) (live:=[1,2,6]) (m:=1) (evs:=[.b true,.auto,.ld (.agg (Wu se)),.b true,.b true,.auto,.ld (.int .i64 e),.v (z30_3 e se),.b false,.stop]) (obs:=_) hE.2.1 (hE.nogh _) Qi (by kernel_rfl) ho hg
theorem p30_0_2 (s:Stl) (plan:(List Int)) (i:Nat) (se:Stg) (e:Int) {E:Env} {res:AV} (hE:Qf Try.prog 30 res E) (ho:AllP [(decide ((i:Int)<(plan.length:Int)))=true,0≤(i:Int)∧(i:Int)<(s.stages.length:Int),((Qd s.stages).drop (0+(Int.toNat (i:Int))*3)).take 3=(Wu se),3≤3,(se.kind == 2)=false,(se.kind == 3)=true,InR .i64 ((se.turns.length:Int) - 1),0≤(i:Int)∧(i:Int)<(plan.length:Int),((rowI plan).drop (0+(Int.toNat (i:Int))*1)).take 1=[.int .i64 e],Qg Try.prog (.clos 62 [] []) (z30_4 e se) (z30_3 e se),(!(Qa e 0 ((se.turns.length:Int) - 1)))=true])
 (hr:AvLe (.int .i64 1) res):G Try.prog E (WA Try.prog) (f30S0 s plan i ) :=
 Qc (n:=400) (evs:=[.b true,.auto,.ld (.agg (Wu se)),.b false,.b true,.auto,.ld (.int .i64 e),.v (z30_3 e se),.b true]) (obs:=_) hE Try.func30 Qi (by kernel_rfl) ho hr
theorem p30_0_3 (s:Stl) (plan:(List Int)) (i:Nat) (se:Stg) (e:Int) {E:Env} {rv:AV} (hE:Qf Try.prog 30 rv E) (ho:AllP [(decide ((i:Int)<(plan.length:Int)))=true,0≤(i:Int)∧(i:Int)<(s.stages.length:Int),((Qd s.stages).drop (0+(Int.toNat (i:Int))*3)).take 3=(Wu se),3≤3,(se.kind == 2)=false,(se.kind == 3)=true,InR .i64 ((se.turns.length:Int) - 1),0≤(i:Int)∧(i:Int)<(plan.length:Int),((rowI plan).drop (0+(Int.toNat (i:Int))*1)).take 1=[.int .i64 e],Qg Try.prog (.clos 62 [] []) (z30_4 e se) (z30_3 e se),(!(Qa e 0 ((se.turns.length:Int) - 1)))=false,InR .i64 ((i:Int)+1)])
 (hg:G Try.prog E (WA Try.prog) ⟨(z30_5 plan i),[⟨true,0,1,true,(qM s),false⟩]⟩):G Try.prog E (WA Try.prog) (f30S0 s plan i ) :=
 Qh (n:=400) (ds:=[]) (cs:=[]) (live:=[1,2,6]) (m:=1) (evs:=[.b true,.auto,.ld (.agg (Wu se)),.b false,.b true,.auto,.ld (.int .i64 e),.v (z30_3 e se),.b false,.stop]) (obs:=_) hE.2.1 (hE.nogh _) Qi (by kernel_rfl) ho hg
theorem p30_0_4 (s:Stl) (plan:(List Int)) (i:Nat) (se:Stg) (e:Int) {E:Env} {res:AV} (hE:Qf Try.prog 30 res E) (ho:AllP [(decide ((i:Int)<(plan.length:Int)))=true,0≤(i:Int)∧(i:Int)<(s.stages.length:Int),((Qd s.stages).drop (0+(Int.toNat (i:Int))*3)).take 3=(Wu se),3≤3,(se.kind == 2)=false,(se.kind == 3)=false,0≤(i:Int)∧(i:Int)<(plan.length:Int),((rowI plan).drop (0+(Int.toNat (i:Int))*1)).take 1=[.int .i64 e],Qg Try.prog (.clos 62 [] []) [.int .i64 e,.int .i64 0,.int .i64 0] (.bool (Qa e 0 0)),(!(Qa e 0 0))=true])
 (hr:AvLe (.int .i64 1) res):G Try.prog E (WA Try.prog) (f30S0 s plan i ) :=
 Qc (n:=400) (evs:=[.b true,.auto,.ld (.agg (Wu se)),.b false,.b false,.ld (.int .i64 e),.v (.bool (Qa e 0 0)),.b true]) (obs:=_) hE Try.func30 Qi (by kernel_rfl) ho hr
theorem p30_0_5 (s:Stl) (plan:(List Int)) (i:Nat) (se:Stg) (e:Int) {E:Env} {rv:AV} (hE:Qf Try.prog 30 rv E) (ho:AllP [(decide ((i:Int)<(plan.length:Int)))=true,0≤(i:Int)∧(i:Int)<(s.stages.length:Int),((Qd s.stages).drop (0+(Int.toNat (i:Int))*3)).take 3=(Wu se),3≤3,(se.kind == 2)=false,(se.kind == 3)=false,0≤(i:Int)∧(i:Int)<(plan.length:Int),((rowI plan).drop (0+(Int.toNat (i:Int))*1)).take 1=[.int .i64 e],Qg Try.prog (.clos 62 [] []) [.int .i64 e,.int .i64 0,.int .i64 0] (.bool (Qa e 0 0)),(!(Qa e 0 0))=false,InR .i64 ((i:Int)+1)])
 (hg:G Try.prog E (WA Try.prog) ⟨(z30_5 plan i),[⟨true,0,1,true,(qM s),false⟩]⟩):G Try.prog E (WA Try.prog) (f30S0 s plan i ) :=
 Qh (n:=400) (ds:=[]) (cs:=[]) (live:=[1,2,6]) (m:=1) (evs:=[.b true,.auto,.ld (.agg (Wu se)),.b false,.b false,.ld (.int .i64 e),.v (.bool (Qa e 0 0)),.b false,.stop]) (obs:=_) hE.2.1 (hE.nogh _) Qi (by kernel_rfl) ho hg
theorem p30_0_6 (s:Stl) (plan:(List Int)) (i:Nat) {E:Env} {res:AV} (hE:Qf Try.prog 30 res E) (ho:AllP [(decide ((i:Int)<(plan.length:Int)))=false])
 (hr:AvLe (.int .i64 0) res):G Try.prog E (WA Try.prog) (f30S0 s plan i ) :=
 Qc (n:=400) (evs:=[.b false]) (obs:=_) hE Try.func30 Qi (by kernel_rfl) ho hr
theorem f30W0 (s:Stl) (plan:(List Int)) (i:Nat) {E:Env} {rv:Int} (hE:Qf Try.prog 30 (.int .i64 rv) E)
 (h:(((i:Int)<(plan.length:Int)→(∃ se:Stg,s.stages[i]?=some se∧((se.kind=2→((I6 ((se.turns.length:Int) - 1))∧(∃ e:Int,plan[i]?=some e∧(((Qa e 0 ((se.turns.length:Int) - 1))=false→rv=1)∧((Qa e 0 ((se.turns.length:Int) - 1))=true→((I6 ((i:Int)+1))∧f30G0 E s plan (i+1)))))))∧(¬ (se.kind=2)→((se.kind=3→((I6 ((se.turns.length:Int) - 1))∧(∃ e:Int,plan[i]?=some e∧(((Qa e 0 ((se.turns.length:Int) - 1))=false→rv=1)∧((Qa e 0 ((se.turns.length:Int) - 1))=true→((I6 ((i:Int)+1))∧f30G0 E s plan (i+1)))))))∧(¬ (se.kind=3)→(∃ e:Int,plan[i]?=some e∧(((Qa e 0 0)=false→rv=1)∧((Qa e 0 0)=true→((I6 ((i:Int)+1))∧f30G0 E s plan (i+1)))))))))))∧(¬ ((i:Int)<(plan.length:Int))→rv=0))):f30G0 E s plan i:=by
 rcases bft (decide ((i:Int)<(plan.length:Int))) with hc0 | hc0
 · have h:=h.1 (odt hc0)
   obtain ⟨se,h1,h⟩:=h
   rcases bft (se.kind == 2) with hc1 | hc1
   · have h:=h.1 (eq_of_beq hc1)
     obtain ⟨q7_2,h⟩:=h
     obtain ⟨e,h2,h⟩:=h
     rcases bft (!(Qa e 0 ((se.turns.length:Int) - 1))) with hc2 | hc2
     · have h:=h.1 (bnT hc2)
       exact p30_0_0 s plan i se e hE ⟨hc0,(Qn h1),(rp cStg 3 0 3 h1),(by decide),hc1,rfl,q7_2,(Qn h2),(rp cI 1 0 1 h2),(u62 (Qt e 0 ((se.turns.length:Int) - 1))),hc2,trivial⟩ (AvLe.of_eq (by rw [h]; try rfl))
     · have h:=h.2 (bnF hc2)
       obtain ⟨q13_3,h⟩:=h
       exact p30_0_1 s plan i se e hE ⟨hc0,(Qn h1),(rp cStg 3 0 3 h1),(by decide),hc1,rfl,q7_2,(Qn h2),(rp cI 1 0 1 h2),(u62 (Qt e 0 ((se.turns.length:Int) - 1))),hc2,q13_3,trivial⟩ h
   · have h:=h.2 (ne_of_beq_false hc1)
     rcases bft (se.kind == 3) with hc2 | hc2
     · have h:=h.1 (eq_of_beq hc2)
       obtain ⟨q7_3,h⟩:=h
       obtain ⟨e,h2,h⟩:=h
       rcases bft (!(Qa e 0 ((se.turns.length:Int) - 1))) with hc3 | hc3
       · have h:=h.1 (bnT hc3)
         exact p30_0_2 s plan i se e hE ⟨hc0,(Qn h1),(rp cStg 3 0 3 h1),(by decide),hc1,hc2,q7_3,(Qn h2),(rp cI 1 0 1 h2),(u62 (Qt e 0 ((se.turns.length:Int) - 1))),hc3,trivial⟩ (AvLe.of_eq (by rw [h]; try rfl))
       · have h:=h.2 (bnF hc3)
         obtain ⟨q13_4,h⟩:=h
         exact p30_0_3 s plan i se e hE ⟨hc0,(Qn h1),(rp cStg 3 0 3 h1),(by decide),hc1,hc2,q7_3,(Qn h2),(rp cI 1 0 1 h2),(u62 (Qt e 0 ((se.turns.length:Int) - 1))),hc3,q13_4,trivial⟩ h
     · have h:=h.2 (ne_of_beq_false hc2)
       obtain ⟨e,h2,h⟩:=h
       rcases bft (!(Qa e 0 0)) with hc3 | hc3
       · have h:=h.1 (bnT hc3)
         exact p30_0_4 s plan i se e hE ⟨hc0,(Qn h1),(rp cStg 3 0 3 h1),(by decide),hc1,hc2,(Qn h2),(rp cI 1 0 1 h2),(u62 (Qt e 0 0)),hc3,trivial⟩ (AvLe.of_eq (by rw [h]; try rfl))
       · have h:=h.2 (bnF hc3)
         obtain ⟨q12_4,h⟩:=h
         exact p30_0_5 s plan i se e hE ⟨hc0,(Qn h1),(rp cStg 3 0 3 h1),(by decide),hc1,hc2,(Qn h2),(rp cI 1 0 1 h2),(u62 (Qt e 0 0)),hc3,q12_4,trivial⟩ h
 · have h:=h.2 (odf hc0)
   exact p30_0_6 s plan i hE ⟨hc0,trivial⟩ (AvLe.of_eq (by rw [h]; try rfl))
theorem Yo (s:Stl) (plan:List Int) (h:(s.stages.length≤9223372036854775807∧s.worth.length≤9223372036854775807)∧plan.length≤9223372036854775807):Pure Try.prog 30 [avStl s,.rsl (rowI plan) 0 plan.length] (.int .i64 (QK s plan)):=Qq Try.func30 f30b fun E hE=>by
 refine f30W s plan (rv:=QK s plan) hE ⟨h.1,fun h0=>?_,fun h0=>⟨fun h1=>?_,fun h1=>?_⟩⟩
 · rw [QK,if_neg h0,checkK_no h0]
 · rw [QK,if_pos h0,if_neg]
   simp only [Qw,Bool.and_eq_true,decide_eq_true_eq]
   intro hh; omega
 have hl:plan.length=s.stages.length:=by omega
 have ⟨hm,es⟩:=Vb (Xj h0)
 have hform:=(QC hm.st).2.2.2.2
 rw [es] at hform
 have key:∀ (d i:Nat),i+d=plan.length→(∀ j,j<i→Qa (plan.getD j 0) 0 (QH (s.stages.getD j ⟨0,0,[]⟩))=true)→f30G0 E s plan i:=by
  intro d
  induction d with
  | zero =>
   intro i hd hall
   refine f30W0 s plan i (rv:=QK s plan) hE ⟨fun h=>by omega,fun _=>?_⟩
   rw [QK,if_pos h0,if_pos]
   simp only [Qw,hl,decide_true,Bool.true_and]
   exact List.all_eq_true.2 fun j hj=>hall j (by have:=List.mem_range.1 hj; omega)
  | succ d ih =>
   intro i hd hall
   have hi:s.stages[i]?=some s.stages[i]:=List.getElem?_eq_getElem (by omega)
   have hx:s.stages.getD i ⟨0,0,[]⟩=s.stages[i]:=by simp [List.getD,hi]
   have hv:plan[i]?=some (plan.getD i 0):=getD_some (by omega)
   have ht:s.stages[i].turns.length≤8:=by
    rcases XC hi (hform i (by omega)) with ⟨-,h,-⟩ | ⟨-,-,h,-⟩
    · rw [h]; simp
    · exact h.2
   have nx:=ih (i+1) (by omega)
   have no:Qa (plan.getD i 0) 0 (QH (s.stages.getD i ⟨0,0,[]⟩))=false→QK s plan=1:=fun h=>by
    rw [QK,if_pos h0,if_neg]
    simp only [Qw,hl,decide_true,Bool.true_and,Bool.not_eq_true]
    exact Vr (by omega) h
   have yes:Qa (plan.getD i 0) 0 (QH (s.stages.getD i ⟨0,0,[]⟩))=true→f30G0 E s plan (i+1):=fun h=>nx fun j hj=>by
    rcases Nat.lt_or_ge j i with h1 | h1
    · exact hall j h1
    · rw [show j=i by omega]; exact h
   rw [hx] at no yes
   generalize s.stages[i]=x at hi no yes ht
   refine f30W0 s plan i (rv:=QK s plan) hE ⟨fun _=>⟨x,hi,fun h2=>⟨by omega,_,hv,fun h=>no ?_,fun h=>⟨by omega,yes ?_⟩⟩,fun h2=>⟨fun h3=>⟨by omega,_,hv,fun h=>no ?_,fun h=>⟨by omega,yes ?_⟩⟩,fun h3=>⟨_,hv,fun h=>no ?_,fun h=>⟨by omega,yes ?_⟩⟩⟩⟩,fun h=>by omega⟩
   · rw [QH,if_pos (.inl h2)]; exact h
   · rw [QH,if_pos (.inl h2)]; exact h
   · rw [QH,if_pos (.inr h3)]; exact h
   · rw [QH,if_pos (.inr h3)]; exact h
   · rw [QH,if_neg (by omega)]; exact h
   · rw [QH,if_neg (by omega)]; exact h
 exact key plan.length 0 (by omega) (fun j hj=>by omega)
end Go.Proofs.Ytfgmlaeikcfpbaa
namespace Go.Proofs.Ytfgmlaeikcfpbaa
open Go Ax
open Go.Proofs
structure Rul where
 tickets:Int
 wins:Int
 n:Int
 need:Int
 hit:Int
 miss:Int
structure Sup where
 kind:Int
 stock:Int
 plays:Int
structure Hnd where
 plan:List Int
 draws:List Int
/-! ### Fractions -/
theorem frac_parts {v u:Int} (hu:0<u):∃ g,0<g∧v=g*(Xy v u).num∧u=g*(Xy v u).den∧0<(Xy v u).den:=by
 have hM:0≤iMax v (0 - v):=by unfold iMax; split <;> omega
 have hM2:iMax v (0 - v)=v ∨ iMax v (0 - v)=-v:=by unfold iMax; split <;> omega
 have hg1:1≤iMax (gcdI (iMax v (0 - v)) u) 1:=iMax_pos
 have hgp:0<gcdI (iMax v (0 - v)) u:=by rw [gcdI_comm hM (by omega)]; exact qt hu hM
 have hge:iMax (gcdI (iMax v (0 - v)) u) 1=gcdI (iMax v (0 - v)) u:=by
  generalize gcdI (iMax v (0 - v)) u=c at hgp
  unfold iMax; split <;> omega
 obtain ⟨d1,d2⟩:=gcd_dvd hM (show 0≤u by omega)
 have d3:gcdI (iMax v (0 - v)) u∣v:=by
  generalize gcdI (iMax v (0 - v)) u=c at d1
  rcases hM2 with h | h
  · rw [h] at d1; exact d1
  · rw [h] at d1; exact Int.dvd_neg.1 d1
 unfold Xy
 rw [hge]
 generalize gcdI (iMax v (0 - v)) u=c at hgp d2 d3
 have e2:c*Int.tdiv u c=u:=Int.mul_tdiv_cancel' d2
 have e3:c*Int.tdiv v c=v:=Int.mul_tdiv_cancel' d3
 refine ⟨c,hgp,e3.symm,e2.symm,?_⟩
 show 0<Int.tdiv u c
 rcases Int.lt_or_le 0 (Int.tdiv u c) with h | h
 · exact h
 · have:=Int.mul_le_mul_of_nonneg_left h (show 0≤c by omega)
   rw [e2] at this; omega
/-! ### Planned -/
def planL (s:Stl) (plan:List Int) (n:Nat):List Fr:=(List.range n).map fun (k:Nat)=>QM (Qb s) (Qu (k:Int)) (fun i _=>Qx plan i)
theorem planL_snoc {s:Stl} {plan:List Int} {n:Nat}:planL s plan (n+1)=planL s plan n++[QM (Qb s) (Qu (n:Int)) (fun i _=>Qx plan i)]:=by
 rw [planL,List.range_succ,List.map_append]; rfl
theorem planL_len {s:Stl} {plan:List Int} {n:Nat}:(planL s plan n).length=n:=by simp [planL]
def Qp (s:Stl) (plan:List Int):List Fr × Int:=if QK s plan=0 then (planL s plan s.worth.length,0) else ([],QK s plan)
def gainV (s:Stl) (pa oa:Int):Int:=(valA (Qb s) (WT (Qb s)) (Qo (Qb s) pa oa)).1.getD 0 0
def Yh (s:Stl):Int:=(Qb s).meas.getD 0 0
theorem f40b:Try.f40.body=some (Qe Try.prog 40):=by kernel_rfl
theorem u40 {a c k:List AV} {r:AV} (h:Pure Try.prog 40 (a++c++k) r):Qg Try.prog (.clos 40 a k) c r:=Ql Try.func40 (by kernel_rfl) f40b h
def f40K0 (P:Program):List Item:=kAt 400 [.code (Qe P 40)] [.b false,.stop]
def f40S0 (s:Stl) (plan:(List Int)) (i:Nat) (v2:List Fr) (g2:Nat):St:=⟨([J,J,J,.rptr [.rsl (rowI plan) 0 plan.length] 0,.sl 2 g2 0 v2.length 2,J,.rptr [.rsl (Qd (((Qb s).s).stages)) 0 ((((Qb s).s).stages).length),.rsl (rowI (((Qb s).s).worth)) 0 ((((Qb s).s).worth).length),.int .i64 (((Qb s).s).price),.rsl (rowI ((Qb s).meas)) 0 (((Qb s).meas).length),.rsl (rowI ((Qb s).mult)) 0 (((Qb s).mult).length)] 0]++jj 15 ([.int .i64 (((((Qb s).s).worth).length:Nat):Int),.int .i64 (i:Int)]++Js 13)),[⟨true,0,1,true,[.rsl (Qd s.stages) 0 s.stages.length,.rsl (rowI s.worth) 0 s.worth.length,.int .i64 s.price],false⟩,⟨false,1,1,true,[],false⟩,⟨true,g2,2,true,(YJ v2),true⟩]⟩
def f40G0 (E:Env) (s:Stl) (plan:(List Int)) (i:Nat) (v2:List Fr):Prop:=∀ g2:Nat,G Try.prog E (f40K0 Try.prog) (f40S0 s plan i v2 g2)
abbrev z40_1 (s:Stl):List AV:=[.rsl (Qd (((Qb s).s).stages)) 0 ((((Qb s).s).stages).length),.rsl (rowI (((Qb s).s).worth)) 0 ((((Qb s).s).worth).length),.int .i64 (((Qb s).s).price),.rsl (rowI ((Qb s).meas)) 0 (((Qb s).meas).length),.rsl (rowI ((Qb s).mult)) 0 (((Qb s).mult).length)]
abbrev z40_2 (s:Stl):List AV:=[.rsl (Qd s.stages) 0 s.stages.length,.rsl (rowI s.worth) 0 s.worth.length,.int .i64 s.price]
theorem p40_start_0 (s:Stl) (plan:(List Int)) {E:Env} {rv:AV} (hE:Qf Try.prog 40 rv E) (ho:AllP [Qg Try.prog (.clos 71 [] []) [.agg (z40_2 s),.clos 92 [] [.rptr [.rsl (rowI plan) 0 plan.length] 0]] (.tup [.rptr (z40_1 s) 0,.int .i64 0]),false=false])
 (hg:G Try.prog E (f40K0 Try.prog) ⟨([J,J,J,.rptr [.rsl (rowI plan) 0 plan.length] 0,.sl 2 0 0 0 2,J,.rptr (z40_1 s) 0]++jj 15 ([.int .i64 (((((Qb s).s).worth).length:Nat):Int),.int .i64 0]++Js 13)),[⟨true,0,1,true,(z40_2 s),false⟩,⟨false,1,1,true,[],false⟩,⟨true,0,2,true,[],true⟩]⟩):G Try.prog E [.code (Qe Try.prog 40)] ⟨[.agg (z40_2 s),.rsl (rowI plan) 0 plan.length]++unds (Try.f40.ntmps - 2),[]⟩ :=
 Qh (n:=400) (ds:=[(4,2)]) (cs:=[]) (live:=[3,4,6,22,23]) (m:=3) (evs:=[.wt 3,.v (.tup [.rptr (z40_1 s) 0,.int .i64 0]),.b false,.stop]) (obs:=_) hE.2.1 (hE.nogh _) Qi (by kernel_rfl) ho hg
theorem p40_start_1 (s:Stl) (plan:(List Int)) {E:Env} {res:AV} (hE:Qf Try.prog 40 res E) (ho:AllP [Qg Try.prog (.clos 71 [] []) [.agg (z40_2 s),.clos 92 [] [.rptr [.rsl (rowI plan) 0 plan.length] 0]] (.tup [.nilPtr,.int .i64 1]),true=true])
 (hr:AvLe (.tup [.nilSl,.int .i64 1]) res):G Try.prog E [.code (Qe Try.prog 40)] ⟨[.agg (z40_2 s),.rsl (rowI plan) 0 plan.length]++unds (Try.f40.ntmps - 2),[]⟩ :=
 Qc (n:=400) (evs:=[.wt 3,.v (.tup [.nilPtr,.int .i64 1]),.b true]) (obs:=_) hE Try.func40 Qi (by kernel_rfl) ho hr
theorem p40_start_2 (s:Stl) (plan:(List Int)) {E:Env} {res:AV} (hE:Qf Try.prog 40 res E) (ho:AllP [Qg Try.prog (.clos 71 [] []) [.agg (z40_2 s),.clos 92 [] [.rptr [.rsl (rowI plan) 0 plan.length] 0]] (.tup [.nilPtr,.int .i64 60]),true=true])
 (hr:AvLe (.tup [.nilSl,.int .i64 60]) res):G Try.prog E [.code (Qe Try.prog 40)] ⟨[.agg (z40_2 s),.rsl (rowI plan) 0 plan.length]++unds (Try.f40.ntmps - 2),[]⟩ :=
 Qc (n:=400) (evs:=[.wt 3,.v (.tup [.nilPtr,.int .i64 60]),.b true]) (obs:=_) hE Try.func40 Qi (by kernel_rfl) ho hr
theorem f40W (s:Stl) (plan:(List Int)) {E:Env} {rv:((List Fr) × Int)} (hE:Qf Try.prog 40 (.tup [.rsl (YJ rv.1) 0 rv.1.length,.int .i64 rv.2]) E)
 (h:((((QX s).isSome)=true→(((Qw (Qb s).s plan)=true→((s.stages.length≤9223372036854775807∧s.worth.length≤9223372036854775807)∧f40G0 E s plan 0 ([])))∧((Qw (Qb s).s plan)=false→((s.stages.length≤9223372036854775807∧s.worth.length≤9223372036854775807)∧rv=(([]:List Fr),1)))))∧(((QX s).isSome)=false→((s.stages.length≤9223372036854775807∧s.worth.length≤9223372036854775807)∧rv=(([]:List Fr),60))))):G Try.prog E [.code (Qe Try.prog 40)] ⟨[.agg [.rsl (Qd s.stages) 0 s.stages.length,.rsl (rowI s.worth) 0 s.worth.length,.int .i64 s.price],.rsl (rowI plan) 0 plan.length]++unds (Try.f40.ntmps - 2),[]⟩:=by
 rcases bft ((QX s).isSome) with hc0 | hc0
 · have h:=h.1 hc0
   rcases bft (Qw (Qb s).s plan) with hc1 | hc1
   · have h:=h.1 hc1
     obtain ⟨h1,h⟩:=h
     exact p40_start_0 s plan hE ⟨(Ql Try.func71 (by kernel_rfl) Kq (yP hc0 hc1 ▸ Kw s plan h1)),rfl,trivial⟩ (h 0)
   · have h:=h.2 hc1
     obtain ⟨h1,h⟩:=h
     exact p40_start_1 s plan hE ⟨(Ql Try.func71 (by kernel_rfl) Kq (Wd hc0 hc1 ▸ Kw s plan h1)),rfl,trivial⟩ (by rw [h]; exact (Yt ⟨XN,⟨AvLe.of_eq rfl,trivial⟩⟩))
 · have h:=h.2 hc0
   obtain ⟨h1,h⟩:=h
   exact p40_start_2 s plan hE ⟨(Ql Try.func71 (by kernel_rfl) Kq (We hc0 ▸ Kw s plan h1)),rfl,trivial⟩ (by rw [h]; exact (Yt ⟨XN,⟨AvLe.of_eq rfl,trivial⟩⟩))
theorem p40_0_0 (s:Stl) (plan:(List Int)) (i:Nat) (v2:List Fr) (g2:Nat) {E:Env} {rv:AV} (hE:Qf Try.prog 40 rv E) (ho:AllP [(decide ((i:Int)<(((((Qb s).s).worth).length:Nat):Int)))=true,Qg Try.prog (.clos 76 [] []) [.int .i64 (i:Int)] (.clos 113 [] [.rptr [.int .i64 (i:Int)] 0]),Qg Try.prog (.clos 94 [] []) [.rsl (rowI plan) 0 plan.length] (.clos 119 [] [.rptr [.rsl (rowI plan) 0 plan.length] 0]),Qg Try.prog (.clos 75 [] []) [.rptr [.rsl (Qd (((Qb s).s).stages)) 0 ((((Qb s).s).stages).length),.rsl (rowI (((Qb s).s).worth)) 0 ((((Qb s).s).worth).length),.int .i64 (((Qb s).s).price),.rsl (rowI ((Qb s).meas)) 0 (((Qb s).meas).length),.rsl (rowI ((Qb s).mult)) 0 (((Qb s).mult).length)] 0,.clos 113 [] [.rptr [.int .i64 (i:Int)] 0],.clos 119 [] [.rptr [.rsl (rowI plan) 0 plan.length] 0]] (.agg [.int .i64 ((QM (Qb s) (Qu (i:Int)) (fun i _=>Qx plan i)).num),.int .i64 ((QM (Qb s) (Qu (i:Int)) (fun i _=>Qx plan i)).den)]),g2=g2,(0+(v2.length*2))=(YJ v2).length,(v2.length+1)≤2147483648,0=0,InR .i64 ((i:Int)+1)])
 (hg:G Try.prog E (f40K0 Try.prog) ⟨([J,J,J,.rptr [.rsl (rowI plan) 0 plan.length] 0,.sl 2 (g2+1) 0 (v2.length+1) 2,J,.rptr [.rsl (Qd (((Qb s).s).stages)) 0 ((((Qb s).s).stages).length),.rsl (rowI (((Qb s).s).worth)) 0 ((((Qb s).s).worth).length),.int .i64 (((Qb s).s).price),.rsl (rowI ((Qb s).meas)) 0 (((Qb s).meas).length),.rsl (rowI ((Qb s).mult)) 0 (((Qb s).mult).length)] 0]++jj 15 ([.int .i64 (((((Qb s).s).worth).length:Nat):Int),.int .i64 ((i:Int)+1)]++Js 13)),[⟨true,0,1,true,[.rsl (Qd s.stages) 0 s.stages.length,.rsl (rowI s.worth) 0 s.worth.length,.int .i64 s.price],false⟩,⟨false,1,1,true,[],false⟩,⟨true,(g2+1),2,true,((YJ v2)++[.int .i64 ((QM (Qb s) (Qu (i:Int)) (fun i _=>Qx plan i)).num),.int .i64 ((QM (Qb s) (Qu (i:Int)) (fun i _=>Qx plan i)).den)]),true⟩]⟩):G Try.prog E (f40K0 Try.prog) (f40S0 s plan i v2 g2) :=
 Qh (n:=400) (ds:=[]) (cs:=[]) (live:=[3,4,6,22,23]) (m:=3) (evs:=[.b true,.v (.clos 113 [] [.rptr [.int .i64 (i:Int)] 0]),.v (.clos 119 [] [.rptr [.rsl (rowI plan) 0 plan.length] 0]),.v (.agg [.int .i64 ((QM (Qb s) (Qu (i:Int)) (fun i _=>Qx plan i)).num),.int .i64 ((QM (Qb s) (Qu (i:Int)) (fun i _=>Qx plan i)).den)]),.stop]) (obs:=_) hE.2.1 (hE.nogh _) Qi (by kernel_rfl) ho hg
theorem p40_0_1 (s:Stl) (plan:(List Int)) (i:Nat) (v2:List Fr) (g2:Nat) {E:Env} {res:AV} (hE:Qf Try.prog 40 res E) (ho:AllP [(decide ((i:Int)<(((((Qb s).s).worth).length:Nat):Int)))=false,g2=g2])
 (hr:AvLe (.tup [.rsl (YJ v2) 0 v2.length,.int .i64 0]) res):G Try.prog E (f40K0 Try.prog) (f40S0 s plan i v2 g2) :=
 Qc (n:=400) (evs:=[.b false]) (obs:=_) hE Try.func40 Qi (by kernel_rfl) ho hr
theorem f40W0 (s:Stl) (plan:(List Int)) (i:Nat) (v2:List Fr) {E:Env} {rv:((List Fr) × Int)} (hE:Qf Try.prog 40 (.tup [.rsl (YJ rv.1) 0 rv.1.length,.int .i64 rv.2]) E)
 (h:(((i:Int)<(((((Qb s).s).worth).length:Nat):Int)→((MOk (Qb s)∧Qw (Qb s).s plan=true)∧((v2.length+1)≤2147483648∧((I6 ((i:Int)+1))∧f40G0 E s plan (i+1) (v2++[(QM (Qb s) (Qu (i:Int)) (fun i _=>Qx plan i))])))))∧(¬ ((i:Int)<(((((Qb s).s).worth).length:Nat):Int))→rv=(v2,0)))):f40G0 E s plan i v2:=by
 intro g2
 rcases bft (decide ((i:Int)<(((((Qb s).s).worth).length:Nat):Int))) with hc0 | hc0
 · have h:=h.1 (odt hc0)
   obtain ⟨h1,h⟩:=h
   obtain ⟨h2,h⟩:=h
   obtain ⟨q8_1,h⟩:=h
   refine p40_0_0 s plan i v2 g2 hE ⟨hc0,(u76 (mkonly_ok (i:Int))),(u94 (mkplanned_ok plan)),(Ql Try.func75 (by kernel_rfl) f75pb (firstp_ok (Qb s) (i:Int) plan h1.1 h1.2)),rfl,(by have hx:=XL cFr (s:=2) (fun _=>rfl) v2; simp only [YJ] at hx ⊢; rw [hx]; simp),h2,rfl,q8_1,trivial⟩ ?_
   rw [(show YJ v2++[.int .i64 ((QM (Qb s) (Qu (i:Int)) (fun i _=>Qx plan i)).num),.int .i64 ((QM (Qb s) (Qu (i:Int)) (fun i _=>Qx plan i)).den)]=YJ (v2++[(QM (Qb s) (Qu (i:Int)) (fun i _=>Qx plan i))]) from (YO cFr v2 [(QM (Qb s) (Qu (i:Int)) (fun i _=>Qx plan i))]).symm)]; rw [(show (v2.length+1)=(v2++[(QM (Qb s) (Qu (i:Int)) (fun i _=>Qx plan i))]).length from by simp)]; exact (h (g2+1))
 · have h:=h.2 (odf hc0)
   exact p40_0_1 s plan i v2 g2 hE ⟨hc0,rfl,trivial⟩ (AvLe.of_eq (by rw [h]; try rfl))
theorem WG {s:Stl} {plan:List Int} (h:(QX s).isSome=true):QK s plan=if Qw (Qb s).s plan=true then 0 else 1:=by
 rw [QK,if_pos (VT.1 h),(Vb h).2]
theorem Yu (s:Stl) (plan:List Int) (h:s.stages.length≤9223372036854775807∧s.worth.length≤9223372036854775807):Pure Try.prog 40 [avStl s,.rsl (rowI plan) 0 plan.length] (.tup [.rsl (YJ (Qp s plan).1) 0 (Qp s plan).1.length,.int .i64 (Qp s plan).2]):=Qq Try.func40 f40b fun E hE=>by
 refine f40W s plan (rv:=Qp s plan) hE ⟨fun h0=>⟨fun h1=>⟨h,?_⟩,fun h1=>⟨h,?_⟩⟩,fun h0=>⟨h,?_⟩⟩
 · obtain ⟨hm,es⟩:=Vb h0
   have hw:=(QC hm.st).2.1
   have he:QK s plan=0:=by rw [WG h0,if_pos h1]
   rw [es] at hw
   have key:∀ (d i:Nat),i+d=s.worth.length→f40G0 E s plan i (planL s plan i):=by
    intro d
    induction d with
    | zero =>
     intro i hd
     refine f40W0 s plan i _ (rv:=Qp s plan) hE ⟨fun h=>by rw [es] at h; omega,fun _=>?_⟩
     rw [Qp,if_pos he,show i=s.worth.length by omega]
    | succ d ih =>
     intro i hd
     refine f40W0 s plan i _ (rv:=Qp s plan) hE ⟨fun _=>⟨⟨hm,h1⟩,by rw [planL_len]; omega,by omega,?_⟩,fun h=>by rw [es] at h; omega⟩
     have:=ih (i+1) (by omega)
     rw [planL_snoc] at this; exact this
   exact key s.worth.length 0 (by omega)
 · have he:QK s plan=1:=by rw [WG h0,if_neg (by rw [h1]; simp)]
   rw [Qp,if_neg (by omega),he]
 · have he:QK s plan=60:=by rw [QK,if_neg (fun h=>by rw [VT.2 h] at h0; cases h0)]
   rw [Qp,if_neg (by omega),he]
theorem gainV_bd {s:Stl} {pa oa:Int} (h:Qy s=0):(0≤gainV s pa oa∧gainV s pa oa≤10000*Yh s)∧0<Yh s∧Yh s≤1000000000000:=by
 have hm:=(Vb (Xj h)).1
 obtain ⟨u,hu,h1,h2⟩:=meas0 hm
 have:=(val_okA hm (w:=WT (Qb s)) (ch:=Qo (Qb s) pa oa) (wok_worth hm)).hi 0 u (by omega) hu
 unfold gainV Yh
 rw [Xv hu]
 exact ⟨this,h1,h2⟩
end Go.Proofs.Ytfgmlaeikcfpbaa
namespace Go.Proofs.Ytfgmlaeikcfpbaa
open Go Ax
open Go.Proofs
structure Fr2 where
 lo:Fr
 hi:Fr
end Go.Proofs.Ytfgmlaeikcfpbaa
namespace Ax
open Go
theorem sub_le {row:List AV} {off len:Nat}:AvLe (.rsl row off len) (.rsl (row.drop off) 0 len):=fun Z w c h=>by
 cases h with
 | @rsl _ _ _ _ cap blk o cv hz hl hc hk hr =>
  have e:(⟨blk,o+off,none⟩:Addr)=⟨blk,o+off+0,none⟩:=rfl
  rw [e]
  refine .rsl (o:=o+off) (fun i=>cv (off+i)) hz hl (fun i hi=>?_) (fun i c hi=>?_) (fun i c hi=>?_)
  · rw [List.length_drop] at hi
    have:=hc (off+i) (by omega)
    rwa [← Nat.add_assoc] at this
  · rw [List.getElem?_drop] at hi; exact hk _ c hi
  · rw [List.getElem?_drop] at hi; exact hr _ c hi
 | rsl0=>exact .rsl0
theorem flat_drop {α:Type} (c:α→List AV) {s:Nat} (hs:∀ x,(c x).length=s):∀ {l:List α} {k:Nat},(l.flatMap c).drop (k*s)=(l.drop k).flatMap c
 | [],k=>by simp
 | x :: l,0=>by simp
 | x :: l,k+1=>by
  have:=flat_drop c hs (l:=l) (k:=k)
  rw [List.flatMap_cons,List.drop_succ_cons,← this,List.drop_append,hs x,List.drop_eq_nil_of_le (by rw [hs x,Nat.add_mul]; omega),List.nil_append]
  congr 1
  rw [Nat.add_mul]; omega
theorem rsl_drop {α:Type} (c:α→List AV) {s:Nat} (hs:∀ x,(c x).length=s) {l:List α} (k:Nat) {off len:Nat} (ho:off=k*s) (hl:len=l.length - k) :
 AvLe (.rsl (l.flatMap c) off len) (.rsl ((l.drop k).flatMap c) 0 (l.drop k).length):=by
 rw [← flat_drop c hs,ho,hl,List.length_drop]; exact sub_le
section
variable {P:Program} {E:Env} {K:List Item} {st:St}
theorem weakT_step {t:Nat} {v v':AV} (ht:st.tmps[t]?=some v) (hn:Xr v=true) (hn':Xr v'=true) (hle:AvLe v v') (hg:G P E K ⟨st.tmps.set t v',st.blks⟩):G P E K st:=by
 intro C Z a w hr
 have hlt:t<st.tmps.length:=(List.getElem?_eq_some_iff.1 ht).1
 refine hg C Z a w ⟨⟨by rw [List.length_set]; exact hr.tmp.1,fun i c x hi hx=>?_⟩,hr.mem,hr.marks,hr.gh,hr.base⟩
 by_cases e:t=i
 · subst e
   rw [List.getElem?_set_self hlt] at hi
   cases hi
   exact ((hle _ _ _ ((hr.tmp.2 t v x ht hx).ctx hn))).ctx hn'
 · rw [List.getElem?_set_ne e] at hi
   exact hr.tmp.2 i c x hi hx
end
end Ax
namespace Go.Proofs.Ytfgmlaeikcfpbaa
open Go Ax
open Go.Proofs
def Vj:List Trn→Int→Trn
 | [],_=>⟨0,0⟩
 | t :: ts,d=>if d≥t.w then Vj ts (d - t.w) else t
def Ys (s:Stl) (plan:List Int):Nat→Int→List Int→List Int→List Int × Int × Int
 | 0,_,_,_=>([],0,0)
 | n+1,at_,v,ds =>
  if (s.stages.getD (Int.toNat at_) ⟨0,0,[]⟩).kind=4 then (v++[at_],(s.stages.getD (Int.toNat at_) ⟨0,0,[]⟩).prize,0)
  else if (s.stages.getD (Int.toNat at_) ⟨0,0,[]⟩).kind=1 then
   (match ds with
   | []=>([],0,1)
   | d :: ds=>if Qa d 0 (totI (s.stages.getD (Int.toNat at_) ⟨0,0,[]⟩) - 1)=true then Ys s plan n (Vj (s.stages.getD (Int.toNat at_) ⟨0,0,[]⟩).turns d).to (v++[at_]) ds else ([],0,1))
  else Ys s plan n ((s.stages.getD (Int.toNat at_) ⟨0,0,[]⟩).turns.getD (Int.toNat (Qx plan at_)) ⟨0,0⟩).to (v++[at_]) ds
def QZ (s:Stl) (plan draws:List Int):List Int × Int × Int:=if QK s plan=0 then Ys s plan s.stages.length 0 [] draws else ([],0,QK s plan)
theorem VE:∀ {ts:List Trn} {d:Int},0≤d→d<(ts.map (·.w)).sum→Vj ts d ∈ ts
 | [],d,h0,h1=>by simp at h1; omega
 | t :: ts,d,h0,h1=>by
  simp only [Vj]
  simp only [List.map_cons,List.sum_cons] at h1
  split
  · exact List.mem_cons_of_mem _ (VE (by omega) (by omega))
  · simp
theorem f45b:Try.f45.body=some (Qe Try.prog 45):=by kernel_rfl
theorem u45 {a c k:List AV} {r:AV} (h:Pure Try.prog 45 (a++c++k) r):Qg Try.prog (.clos 45 a k) c r:=Ql Try.func45 (by kernel_rfl) f45b h
def Ks (P:Program):List Item:=kAt 400 [.code (Qe P 45)] [.b false,.stop]
def f45S0 (s:Stl) (plan:(List Int)) (draws:(List Int)) (at_:Int) (v2:List Int) (draws1:(List Int)) (g2:Nat):St:=⟨([J,J,.rsl (rowI draws1) 0 draws1.length,J,.rptr [.rsl (rowI plan) 0 plan.length] 0,J,.sl 2 g2 0 v2.length 1,J,J,.rptr [.rsl (Qd (((Qb s).s).stages)) 0 ((((Qb s).s).stages).length),.rsl (rowI (((Qb s).s).worth)) 0 ((((Qb s).s).worth).length),.int .i64 (((Qb s).s).price),.rsl (rowI ((Qb s).meas)) 0 (((Qb s).meas).length),.rsl (rowI ((Qb s).mult)) 0 (((Qb s).mult).length)] 0,.int .i64 at_]++Js 96),[⟨true,0,1,true,[.rsl (Qd s.stages) 0 s.stages.length,.rsl (rowI s.worth) 0 s.worth.length,.int .i64 s.price],false⟩,⟨false,1,1,true,[],false⟩,⟨true,g2,1,true,(rowI v2),true⟩]⟩
def f45G0 (E:Env) (s:Stl) (plan:(List Int)) (draws:(List Int)) (at_:Int) (v2:List Int) (draws1:(List Int)):Prop:=∀ g2:Nat,G Try.prog E (Ks Try.prog) (f45S0 s plan draws at_ v2 draws1 g2)
def f45K1 (P:Program):List Item:=kAt 400 [.code (Qe P 45)] [.b false,.b true,.b true,.b false,.stop]
def f45S1 (s:Stl) (plan:(List Int)) (draws:(List Int)) (turn:Int) (left:Int) (v4_0:Int) (v4_1:Int) (v4_2:(List Trn)) (v3_0:Int) (v2:List Int) (draws1:(List Int)) (g2:Nat):St:=⟨([J,J,.rsl (rowI draws1) 0 draws1.length,J,.rptr [.rsl (rowI plan) 0 plan.length] 0,J,.sl 2 g2 0 v2.length 1,J,J,.rptr [.rsl (Qd (((Qb s).s).stages)) 0 ((((Qb s).s).stages).length),.rsl (rowI (((Qb s).s).worth)) 0 ((((Qb s).s).worth).length),.int .i64 (((Qb s).s).price),.rsl (rowI ((Qb s).meas)) 0 (((Qb s).meas).length),.rsl (rowI ((Qb s).mult)) 0 (((Qb s).mult).length)] 0,J,.ptr 4 0 0,.int .i64 turn,.int .i64 left]++Js 93),[⟨true,0,1,true,[.rsl (Qd s.stages) 0 s.stages.length,.rsl (rowI s.worth) 0 s.worth.length,.int .i64 s.price],false⟩,⟨false,1,1,true,[],false⟩,⟨true,g2,1,true,(rowI v2),true⟩,⟨true,0,1,true,[.int .i64 v3_0],true⟩,⟨true,0,1,true,[.int .i64 v4_0,.int .i64 v4_1,.rsl (Qk v4_2) 0 v4_2.length],false⟩]⟩
def f45G1 (E:Env) (s:Stl) (plan:(List Int)) (draws:(List Int)) (turn:Int) (left:Int) (v4_0:Int) (v4_1:Int) (v4_2:(List Trn)) (v3_0:Int) (v2:List Int) (draws1:(List Int)):Prop:=∀ g2:Nat,G Try.prog E (f45K1 Try.prog) (f45S1 s plan draws turn left v4_0 v4_1 v4_2 v3_0 v2 draws1 g2)
abbrev z45_1 (s:Stl):List AV:=[.rsl (Qd (((Qb s).s).stages)) 0 ((((Qb s).s).stages).length),.rsl (rowI (((Qb s).s).worth)) 0 ((((Qb s).s).worth).length),.int .i64 (((Qb s).s).price),.rsl (rowI ((Qb s).meas)) 0 (((Qb s).meas).length),.rsl (rowI ((Qb s).mult)) 0 (((Qb s).mult).length)]
abbrev yR (s:Stl):List AV:=[.rsl (Qd s.stages) 0 s.stages.length,.rsl (rowI s.worth) 0 s.worth.length,.int .i64 s.price]
abbrev z45_3 (se:Stg):List AV:=[.int .i64 se.kind,.int .i64 se.prize,.rsl (Qk se.turns) 0 se.turns.length]
theorem p45_start_0 (s:Stl) (plan:(List Int)) (draws:(List Int)) {E:Env} {rv:AV} (hE:Qf Try.prog 45 rv E) (ho:AllP [Qg Try.prog (.clos 71 [] []) [.agg (yR s),.clos 98 [] [.rptr [.rsl (rowI plan) 0 plan.length] 0]] (.tup [.rptr (z45_1 s) 0,.int .i64 0]),false=false])
 (hg:G Try.prog E (Ks Try.prog) ⟨([J,J,.rsl (rowI draws) 0 draws.length,J,.rptr [.rsl (rowI plan) 0 plan.length] 0,J,.sl 2 0 0 0 1,J,J,.rptr (z45_1 s) 0,.int .i64 0]++Js 96),[⟨true,0,1,true,(yR s),false⟩,⟨false,1,1,true,[],false⟩,⟨true,0,1,true,[],true⟩]⟩):G Try.prog E [.code (Qe Try.prog 45)] ⟨[.agg (yR s),.rsl (rowI plan) 0 plan.length,.rsl (rowI draws) 0 draws.length]++unds (Try.f45.ntmps - 3),[]⟩ :=
 Qh (n:=400) (ds:=[(6,1)]) (cs:=[]) (live:=[2,4,6,9,10]) (m:=3) (evs:=[.wt 4,.v (.tup [.rptr (z45_1 s) 0,.int .i64 0]),.b false,.stop]) (obs:=_) hE.2.1 (hE.nogh _) Qi (by kernel_rfl) ho hg
theorem p45_start_1 (s:Stl) (plan:(List Int)) (draws:(List Int)) {E:Env} {res:AV} (hE:Qf Try.prog 45 res E) (ho:AllP [Qg Try.prog (.clos 71 [] []) [.agg (yR s),.clos 98 [] [.rptr [.rsl (rowI plan) 0 plan.length] 0]] (.tup [.nilPtr,.int .i64 1]),true=true])
 (hr:AvLe (.tup [.nilSl,.int .i64 0,.int .i64 1]) res):G Try.prog E [.code (Qe Try.prog 45)] ⟨[.agg (yR s),.rsl (rowI plan) 0 plan.length,.rsl (rowI draws) 0 draws.length]++unds (Try.f45.ntmps - 3),[]⟩ :=
 Qc (n:=400) (evs:=[.wt 4,.v (.tup [.nilPtr,.int .i64 1]),.b true]) (obs:=_) hE Try.func45 Qi (by kernel_rfl) ho hr
theorem p45_start_2 (s:Stl) (plan:(List Int)) (draws:(List Int)) {E:Env} {res:AV} (hE:Qf Try.prog 45 res E) (ho:AllP [Qg Try.prog (.clos 71 [] []) [.agg (yR s),.clos 98 [] [.rptr [.rsl (rowI plan) 0 plan.length] 0]] (.tup [.nilPtr,.int .i64 60]),true=true])
 (hr:AvLe (.tup [.nilSl,.int .i64 0,.int .i64 60]) res):G Try.prog E [.code (Qe Try.prog 45)] ⟨[.agg (yR s),.rsl (rowI plan) 0 plan.length,.rsl (rowI draws) 0 draws.length]++unds (Try.f45.ntmps - 3),[]⟩ :=
 Qc (n:=400) (evs:=[.wt 4,.v (.tup [.nilPtr,.int .i64 60]),.b true]) (obs:=_) hE Try.func45 Qi (by kernel_rfl) ho hr
theorem f45W (s:Stl) (plan:(List Int)) (draws:(List Int)) {E:Env} {rv:((List Int) × Int × Int)} (hE:Qf Try.prog 45 (.tup [.rsl (rowI rv.1) 0 rv.1.length,.int .i64 rv.2.1,.int .i64 rv.2.2]) E)
 (h:((((QX s).isSome)=true→(((Qw (Qb s).s plan)=true→((s.stages.length≤9223372036854775807∧s.worth.length≤9223372036854775807)∧f45G0 E s plan draws 0 ([]) draws))∧((Qw (Qb s).s plan)=false→((s.stages.length≤9223372036854775807∧s.worth.length≤9223372036854775807)∧rv=(([]:List Int),0,1)))))∧(((QX s).isSome)=false→((s.stages.length≤9223372036854775807∧s.worth.length≤9223372036854775807)∧rv=(([]:List Int),0,60))))):G Try.prog E [.code (Qe Try.prog 45)] ⟨[.agg [.rsl (Qd s.stages) 0 s.stages.length,.rsl (rowI s.worth) 0 s.worth.length,.int .i64 s.price],.rsl (rowI plan) 0 plan.length,.rsl (rowI draws) 0 draws.length]++unds (Try.f45.ntmps - 3),[]⟩:=by
 rcases bft ((QX s).isSome) with hc0 | hc0
 · have h:=h.1 hc0
   rcases bft (Qw (Qb s).s plan) with hc1 | hc1
   · have h:=h.1 hc1
     obtain ⟨h1,h⟩:=h
     exact p45_start_0 s plan draws hE ⟨(Ql Try.func71 (by kernel_rfl) Ko (yP hc0 hc1 ▸ Kv s plan h1)),rfl,trivial⟩ (h 0)
   · have h:=h.2 hc1
     obtain ⟨h1,h⟩:=h
     exact p45_start_1 s plan draws hE ⟨(Ql Try.func71 (by kernel_rfl) Ko (Wd hc0 hc1 ▸ Kv s plan h1)),rfl,trivial⟩ (by rw [h]; exact (Yt ⟨XN,⟨AvLe.of_eq rfl,⟨AvLe.of_eq rfl,trivial⟩⟩⟩))
 · have h:=h.2 hc0
   obtain ⟨h1,h⟩:=h
   exact p45_start_2 s plan draws hE ⟨(Ql Try.func71 (by kernel_rfl) Ko (We hc0 ▸ Kv s plan h1)),rfl,trivial⟩ (by rw [h]; exact (Yt ⟨XN,⟨AvLe.of_eq rfl,⟨AvLe.of_eq rfl,trivial⟩⟩⟩))
theorem p45_0_0 (s:Stl) (plan:(List Int)) (draws:(List Int)) (at_:Int) (v2:List Int) (draws1:(List Int)) (g2:Nat) (se:Stg) (e:Int) {E:Env} {res:AV} (hE:Qf Try.prog 45 res E) (ho:AllP [0≤at_∧at_<(((((Qb s).s).stages).length:Nat):Int),((Qd (((Qb s).s).stages)).drop ((0+(Int.toNat at_)*3)+0)).take 1=[.int .i64 se.kind],(se.kind != 4)=true,g2=g2,(0+(v2.length*1))=(rowI v2).length,(v2.length+1)≤2147483648,0=0,0≤at_∧at_<(((((Qb s).s).stages).length:Nat):Int),((Qd (((Qb s).s).stages)).drop (0+(Int.toNat at_)*3)).take 3=(z45_3 se),3≤3,0≤at_∧at_<(plan.length:Int),((rowI plan).drop (0+(Int.toNat at_)*1)).take 1=[.int .i64 e],(se.kind == 1)=true,((draws1.length:Int) == 0)=true,true=true])
 (hr:AvLe (.tup [.nilSl,.int .i64 0,.int .i64 1]) res):G Try.prog E (Ks Try.prog) (f45S0 s plan draws at_ v2 draws1 g2) :=
 Qc (n:=400) (evs:=[.auto,.ld (.int .i64 se.kind),.b true,.auto,.ld (.agg (z45_3 se)),.auto,.ld (.int .i64 e),.b true,.b true,.b true]) (obs:=_) hE Try.func45 Qi (by kernel_rfl) ho hr
theorem p45_0_1 (s:Stl) (plan:(List Int)) (draws:(List Int)) (at_:Int) (v2:List Int) (draws1:(List Int)) (g2:Nat) (se:Stg) (e:Int) (e1:Int) {E:Env} {res:AV} (hE:Qf Try.prog 45 res E) (ho:AllP [0≤at_∧at_<(((((Qb s).s).stages).length:Nat):Int),((Qd (((Qb s).s).stages)).drop ((0+(Int.toNat at_)*3)+0)).take 1=[.int .i64 se.kind],(se.kind != 4)=true,g2=g2,(0+(v2.length*1))=(rowI v2).length,(v2.length+1)≤2147483648,0=0,0≤at_∧at_<(((((Qb s).s).stages).length:Nat):Int),((Qd (((Qb s).s).stages)).drop (0+(Int.toNat at_)*3)).take 3=(z45_3 se),3≤3,0≤at_∧at_<(plan.length:Int),((rowI plan).drop (0+(Int.toNat at_)*1)).take 1=[.int .i64 e],(se.kind == 1)=true,((draws1.length:Int) == 0)=false,(0:Int)≤0∧(0:Int)<(draws1.length:Int),((rowI draws1).drop (0+0*1)).take 1=[.int .i64 e1],Qg Try.prog (.clos 99 [] []) [.agg (z45_3 se)] (.int .i64 (totI se)),InR .i64 ((totI se) - 1),Qg Try.prog (.clos 65 [] []) [.int .i64 e1,.int .i64 0,.int .i64 ((totI se) - 1)] (.bool (Qa e1 0 ((totI se) - 1))),(!(Qa e1 0 ((totI se) - 1)))=true])
 (hr:AvLe (.tup [.nilSl,.int .i64 0,.int .i64 1]) res):G Try.prog E (Ks Try.prog) (f45S0 s plan draws at_ v2 draws1 g2) :=
 Qc (n:=400) (evs:=[.auto,.ld (.int .i64 se.kind),.b true,.auto,.ld (.agg (z45_3 se)),.auto,.ld (.int .i64 e),.b true,.b false,.ld (.int .i64 e1),.v (.int .i64 (totI se)),.v (.bool (Qa e1 0 ((totI se) - 1))),.b true]) (obs:=_) hE Try.func45 Qi (by kernel_rfl) ho hr
theorem p45_0_2 (s:Stl) (plan:(List Int)) (draws:(List Int)) (at_:Int) (v2:List Int) (draws1:(List Int)) (g2:Nat) (se:Stg) (e:Int) (e1:Int) {E:Env} {rv:AV} (hE:Qf Try.prog 45 rv E) (ho:AllP [0≤at_∧at_<(((((Qb s).s).stages).length:Nat):Int),((Qd (((Qb s).s).stages)).drop ((0+(Int.toNat at_)*3)+0)).take 1=[.int .i64 se.kind],(se.kind != 4)=true,g2=g2,(0+(v2.length*1))=(rowI v2).length,(v2.length+1)≤2147483648,0=0,0≤at_∧at_<(((((Qb s).s).stages).length:Nat):Int),((Qd (((Qb s).s).stages)).drop (0+(Int.toNat at_)*3)).take 3=[.int .i64 se.kind,.int .i64 se.prize,.rsl (Qk se.turns) 0 se.turns.length],3≤3,0≤at_∧at_<(plan.length:Int),((rowI plan).drop (0+(Int.toNat at_)*1)).take 1=[.int .i64 e],(se.kind == 1)=true,((draws1.length:Int) == 0)=false,(0:Int)≤0∧(0:Int)<(draws1.length:Int),((rowI draws1).drop (0+0*1)).take 1=[.int .i64 e1],Qg Try.prog (.clos 99 [] []) [.agg [.int .i64 se.kind,.int .i64 se.prize,.rsl (Qk se.turns) 0 se.turns.length]] (.int .i64 (totI se)),InR .i64 ((totI se) - 1),Qg Try.prog (.clos 65 [] []) [.int .i64 e1,.int .i64 0,.int .i64 ((totI se) - 1)] (.bool (Qa e1 0 ((totI se) - 1))),(!(Qa e1 0 ((totI se) - 1)))=false,(0:Int)≤0∧(0:Int)<(draws1.length:Int),((rowI draws1).drop (0+0*1)).take 1=[.int .i64 e1]])
 (hg:G Try.prog E (f45K1 Try.prog) ⟨([J,J,.rsl (rowI draws1) 0 draws1.length,J,.rptr [.rsl (rowI plan) 0 plan.length] 0,J,.sl 2 (g2+1) 0 (v2.length+1) 1,J,J,.rptr [.rsl (Qd (((Qb s).s).stages)) 0 ((((Qb s).s).stages).length),.rsl (rowI (((Qb s).s).worth)) 0 ((((Qb s).s).worth).length),.int .i64 (((Qb s).s).price),.rsl (rowI ((Qb s).meas)) 0 (((Qb s).meas).length),.rsl (rowI ((Qb s).mult)) 0 (((Qb s).mult).length)] 0,J,.ptr 4 0 0,.int .i64 e,.int .i64 e1]++Js 93),[⟨true,0,1,true,[.rsl (Qd s.stages) 0 s.stages.length,.rsl (rowI s.worth) 0 s.worth.length,.int .i64 s.price],false⟩,⟨false,1,1,true,[],false⟩,⟨true,(g2+1),1,true,((rowI v2)++[.int .i64 at_]),true⟩,⟨true,0,1,true,[.int .i64 at_],true⟩,⟨true,0,1,true,[.int .i64 se.kind,.int .i64 se.prize,.rsl (Qk se.turns) 0 se.turns.length],false⟩]⟩):G Try.prog E (Ks Try.prog) (f45S0 s plan draws at_ v2 draws1 g2) :=
 Qh (n:=400) (ds:=[]) (cs:=[]) (live:=[2,4,6,9,11,12,13]) (m:=5) (evs:=[.auto,.ld (.int .i64 se.kind),.b true,.auto,.ld (.agg [.int .i64 se.kind,.int .i64 se.prize,.rsl (Qk se.turns) 0 se.turns.length]),.auto,.ld (.int .i64 e),.b true,.b false,.ld (.int .i64 e1),.v (.int .i64 (totI se)),.v (.bool (Qa e1 0 ((totI se) - 1))),.b false,.ld (.int .i64 e1),.stop]) (obs:=_) hE.2.1 (hE.nogh _) Qi (by kernel_rfl) ho hg
theorem p45_0_3 (s:Stl) (plan:(List Int)) (draws:(List Int)) (at_:Int) (v2:List Int) (draws1:(List Int)) (g2:Nat) (se:Stg) (e:Int) (te:Trn) {E:Env} {rv:AV} (hE:Qf Try.prog 45 rv E) (ho:AllP [0≤at_∧at_<(((((Qb s).s).stages).length:Nat):Int),((Qd (((Qb s).s).stages)).drop ((0+(Int.toNat at_)*3)+0)).take 1=[.int .i64 se.kind],(se.kind != 4)=true,g2=g2,(0+(v2.length*1))=(rowI v2).length,(v2.length+1)≤2147483648,0=0,0≤at_∧at_<(((((Qb s).s).stages).length:Nat):Int),((Qd (((Qb s).s).stages)).drop (0+(Int.toNat at_)*3)).take 3=[.int .i64 se.kind,.int .i64 se.prize,.rsl (Qk se.turns) 0 se.turns.length],3≤3,0≤at_∧at_<(plan.length:Int),((rowI plan).drop (0+(Int.toNat at_)*1)).take 1=[.int .i64 e],(se.kind == 1)=false,0≤e∧e<(se.turns.length:Int),((Qk se.turns).drop ((0+(Int.toNat e)*2)+1)).take 1=[.int .i64 te.to]])
 (hg:G Try.prog E (Ks Try.prog) ⟨([J,J,.rsl (rowI draws1) 0 draws1.length,J,.rptr [.rsl (rowI plan) 0 plan.length] 0,J,.sl 2 (g2+1) 0 (v2.length+1) 1,J,J,.rptr [.rsl (Qd (((Qb s).s).stages)) 0 ((((Qb s).s).stages).length),.rsl (rowI (((Qb s).s).worth)) 0 ((((Qb s).s).worth).length),.int .i64 (((Qb s).s).price),.rsl (rowI ((Qb s).meas)) 0 (((Qb s).meas).length),.rsl (rowI ((Qb s).mult)) 0 (((Qb s).mult).length)] 0,.int .i64 te.to]++Js 96),[⟨true,0,1,true,[.rsl (Qd s.stages) 0 s.stages.length,.rsl (rowI s.worth) 0 s.worth.length,.int .i64 s.price],false⟩,⟨false,1,1,true,[],false⟩,⟨true,(g2+1),1,true,((rowI v2)++[.int .i64 at_]),true⟩]⟩):G Try.prog E (Ks Try.prog) (f45S0 s plan draws at_ v2 draws1 g2) :=
 Qh (n:=400) (ds:=[]) (cs:=[]) (live:=[2,4,6,9,10]) (m:=3) (evs:=[.auto,.ld (.int .i64 se.kind),.b true,.auto,.ld (.agg [.int .i64 se.kind,.int .i64 se.prize,.rsl (Qk se.turns) 0 se.turns.length]),.auto,.ld (.int .i64 e),.b false,.auto,.ld (.int .i64 te.to),.stop]) (obs:=_) hE.2.1 (hE.nogh _) Qi (by kernel_rfl) ho hg
theorem p45_0_4 (s:Stl) (plan:(List Int)) (draws:(List Int)) (at_:Int) (v2:List Int) (draws1:(List Int)) (g2:Nat) (se:Stg) {E:Env} {res:AV} (hE:Qf Try.prog 45 res E) (ho:AllP [0≤at_∧at_<(((((Qb s).s).stages).length:Nat):Int),((Qd (((Qb s).s).stages)).drop ((0+(Int.toNat at_)*3)+0)).take 1=[.int .i64 se.kind],(se.kind != 4)=false,g2=g2,(0+(v2.length*1))=(rowI v2).length,(v2.length+1)≤2147483648,0=0,0≤at_∧at_<(((((Qb s).s).stages).length:Nat):Int),((Qd (((Qb s).s).stages)).drop ((0+(Int.toNat at_)*3)+1)).take 1=[.int .i64 se.prize],(g2+1)=(g2+1)])
 (hr:AvLe (.tup [.rsl ((rowI v2)++[.int .i64 at_]) 0 (v2.length+1),.int .i64 se.prize,.int .i64 0]) res):G Try.prog E (Ks Try.prog) (f45S0 s plan draws at_ v2 draws1 g2) :=
 Qc (n:=400) (evs:=[.auto,.ld (.int .i64 se.kind),.b false,.auto,.ld (.int .i64 se.prize)]) (obs:=_) hE Try.func45 Qi (by kernel_rfl) ho hr
theorem f45W0 (s:Stl) (plan:(List Int)) (draws:(List Int)) (at_:Int) (v2:List Int) (draws1:(List Int)) {E:Env} {rv:((List Int) × Int × Int)} (hE:Qf Try.prog 45 (.tup [.rsl (rowI rv.1) 0 rv.1.length,.int .i64 rv.2.1,.int .i64 rv.2.2]) E)
 (h:(0≤at_∧(∃ se:Stg,(((Qb s).s).stages)[Int.toNat at_]?=some se∧((¬ (se.kind=4)→((v2.length+1)≤2147483648∧(0≤at_∧(∃ e:Int,plan[Int.toNat at_]?=some e∧((se.kind=1→(((draws1.length:Int)=0→rv=(([]:List Int),0,1))∧(¬ ((draws1.length:Int)=0)→(∃ e1:Int,draws1[0]?=some e1∧((TotOk se)∧((I6 ((totI se) - 1))∧(((Qa e1 0 ((totI se) - 1))=false→rv=(([]:List Int),0,1))∧((Qa e1 0 ((totI se) - 1))=true→f45G1 E s plan draws e e1 se.kind se.prize se.turns at_ (v2++[at_]) draws1))))))))∧(¬ (se.kind=1)→(0≤e∧(∃ te:Trn,se.turns[Int.toNat e]?=some te∧f45G0 E s plan draws te.to (v2++[at_]) draws1))))))))∧(se.kind=4→((v2.length+1)≤2147483648∧rv=((v2++[at_]),se.prize,0))))))):f45G0 E s plan draws at_ v2 draws1:=by
 intro g2
 obtain ⟨h2,h⟩:=h
 obtain ⟨se,h1,h⟩:=h
 rcases bft (se.kind != 4) with hc0 | hc0
 · have h:=h.1 (bneT hc0)
   obtain ⟨h3,h⟩:=h
   obtain ⟨h5,h⟩:=h
   obtain ⟨e,h4,h⟩:=h
   rcases bft (se.kind == 1) with hc1 | hc1
   · have h:=h.1 (eq_of_beq hc1)
     rcases bft ((draws1.length:Int) == 0) with hc2 | hc2
     · have h:=h.1 (eq_of_beq hc2)
       exact p45_0_0 s plan draws at_ v2 draws1 g2 se e hE ⟨(Qj h2 h1),(rp cStg 3 0 1 h1),hc0,rfl,(by have hx:=XL cI (s:=1) (fun _=>rfl) v2; simp only [rowI] at hx ⊢; rw [hx]; simp),h3,rfl,(Qj h2 h1),(rp cStg 3 0 3 h1),(by decide),(Qj h5 h4),(rp cI 1 0 1 h4),hc1,hc2,rfl,trivial⟩ (by rw [h]; exact (Yt ⟨XN,⟨AvLe.of_eq rfl,⟨AvLe.of_eq rfl,trivial⟩⟩⟩))
     · have h:=h.2 (ne_of_beq_false hc2)
       obtain ⟨e1,h6,h⟩:=h
       obtain ⟨h7,h⟩:=h
       obtain ⟨q20_3,h⟩:=h
       rcases bft (!(Qa e1 0 ((totI se) - 1))) with hc3 | hc3
       · have h:=h.1 (bnT hc3)
         exact p45_0_1 s plan draws at_ v2 draws1 g2 se e e1 hE ⟨(Qj h2 h1),(rp cStg 3 0 1 h1),hc0,rfl,(by have hx:=XL cI (s:=1) (fun _=>rfl) v2; simp only [rowI] at hx ⊢; rw [hx]; simp),h3,rfl,(Qj h2 h1),(rp cStg 3 0 3 h1),(by decide),(Qj h5 h4),(rp cI 1 0 1 h4),hc1,hc2,(Qn h6),(rp cI 1 0 1 h6),(u99 (yT se h7)),q20_3,(u65 (Qr e1 0 ((totI se) - 1))),hc3,trivial⟩ (by rw [h]; exact (Yt ⟨XN,⟨AvLe.of_eq rfl,⟨AvLe.of_eq rfl,trivial⟩⟩⟩))
       · have h:=h.2 (bnF hc3)
         refine p45_0_2 s plan draws at_ v2 draws1 g2 se e e1 hE ⟨(Qj h2 h1),(rp cStg 3 0 1 h1),hc0,rfl,(by have hx:=XL cI (s:=1) (fun _=>rfl) v2; simp only [rowI] at hx ⊢; rw [hx]; simp),h3,rfl,(Qj h2 h1),(rp cStg 3 0 3 h1),(by decide),(Qj h5 h4),(rp cI 1 0 1 h4),hc1,hc2,(Qn h6),(rp cI 1 0 1 h6),(u99 (yT se h7)),q20_3,(u65 (Qr e1 0 ((totI se) - 1))),hc3,(Qn h6),(rp cI 1 0 1 h6),trivial⟩ ?_
         rw [(show rowI v2++[.int .i64 at_]=rowI (v2++[at_]) from (YO cI v2 [at_]).symm)]; rw [(show (v2.length+1)=(v2++[at_]).length from by simp)]; exact (h (g2+1))
   · have h:=h.2 (ne_of_beq_false hc1)
     obtain ⟨h7,h⟩:=h
     obtain ⟨te,h6,h⟩:=h
     refine p45_0_3 s plan draws at_ v2 draws1 g2 se e te hE ⟨(Qj h2 h1),(rp cStg 3 0 1 h1),hc0,rfl,(by have hx:=XL cI (s:=1) (fun _=>rfl) v2; simp only [rowI] at hx ⊢; rw [hx]; simp),h3,rfl,(Qj h2 h1),(rp cStg 3 0 3 h1),(by decide),(Qj h5 h4),(rp cI 1 0 1 h4),hc1,(Qj h7 h6),(rp cTrn 2 1 1 h6),trivial⟩ ?_
     rw [(show rowI v2++[.int .i64 at_]=rowI (v2++[at_]) from (YO cI v2 [at_]).symm)]; rw [(show (v2.length+1)=(v2++[at_]).length from by simp)]; exact (h (g2+1))
 · have h:=h.2 (bneF hc0)
   obtain ⟨h3,h⟩:=h
   exact p45_0_4 s plan draws at_ v2 draws1 g2 se hE ⟨(Qj h2 h1),(rp cStg 3 0 1 h1),hc0,rfl,(by have hx:=XL cI (s:=1) (fun _=>rfl) v2; simp only [rowI] at hx ⊢; rw [hx]; simp),h3,rfl,(Qj h2 h1),(rp cStg 3 1 1 h1),rfl,trivial⟩ (AvLe.of_eq (by rw [h]; rw [(show AV.rsl ((rowI v2)++[.int .i64 at_]) 0 (v2.length+1)=AV.rsl (rowI (v2++[at_])) 0 (v2++[at_]).length from by rw [(show rowI v2++[.int .i64 at_]=rowI (v2++[at_]) from (YO cI v2 [at_]).symm)]; rw [show (v2.length+1)=(v2++[at_]).length from by simp])]; try rfl))
theorem p45_1_0 (s:Stl) (plan:(List Int)) (draws:(List Int)) (turn:Int) (left:Int) (v4_0:Int) (v4_1:Int) (v4_2:(List Trn)) (v3_0:Int) (v2:List Int) (draws1:(List Int)) (g2:Nat) (te:Trn) {E:Env} {rv:AV} (hE:Qf Try.prog 45 rv E) (ho:AllP [0≤turn∧turn<(v4_2.length:Int),((Qk v4_2).drop ((0+(Int.toNat turn)*2)+0)).take 1=[.int .i64 te.w],(decide (left≥te.w))=true,0≤turn∧turn<(v4_2.length:Int),((Qk v4_2).drop ((0+(Int.toNat turn)*2)+0)).take 1=[.int .i64 te.w],InR .i64 (left - te.w),InR .i64 (turn+1)])
 (hg:G Try.prog E (f45K1 Try.prog) ⟨([J,J,.rsl (rowI draws1) 0 draws1.length,J,.rptr [.rsl (rowI plan) 0 plan.length] 0,J,.sl 2 g2 0 v2.length 1,J,J,.rptr (z45_1 s) 0,J,.ptr 4 0 0,.int .i64 (turn+1),.int .i64 (left - te.w)]++Js 93),[⟨true,0,1,true,(yR s),false⟩,⟨false,1,1,true,[],false⟩,⟨true,g2,1,true,(rowI v2),true⟩,⟨true,0,1,true,[.int .i64 v3_0],true⟩,⟨true,0,1,true,[.int .i64 v4_0,.int .i64 v4_1,.rsl (Qk v4_2) 0 v4_2.length],false⟩]⟩):G Try.prog E (f45K1 Try.prog) (f45S1 s plan draws turn left v4_0 v4_1 v4_2 v3_0 v2 draws1 g2) :=
 Qh (n:=400) (ds:=[]) (cs:=[]) (live:=[2,4,6,9,11,12,13]) (m:=5) (evs:=[.auto,.ld (.int .i64 te.w),.b true,.auto,.ld (.int .i64 te.w),.stop]) (obs:=_) hE.2.1 (hE.nogh _) Qi (by kernel_rfl) ho hg
theorem p45_1_1 (s:Stl) (plan:(List Int)) (draws:(List Int)) (turn:Int) (left:Int) (v4_0:Int) (v4_1:Int) (v4_2:(List Trn)) (v3_0:Int) (v2:List Int) (draws1:(List Int)) (g2:Nat) (te:Trn) {E:Env} {rv:AV} (hE:Qf Try.prog 45 rv E) (ho:AllP [0≤turn∧turn<(v4_2.length:Int),((Qk v4_2).drop ((0+(Int.toNat turn)*2)+0)).take 1=[.int .i64 te.w],(decide (left≥te.w))=false,1≤draws1.length,draws1.length≤draws1.length,(0:Int)≤1,0≤turn∧turn<(v4_2.length:Int),((Qk v4_2).drop ((0+(Int.toNat turn)*2)+1)).take 1=[.int .i64 te.to]])
 (hg:G Try.prog E (Ks Try.prog) ⟨([J,J,.rsl (rowI draws1) 1 (draws1.length - 1),J,.rptr [.rsl (rowI plan) 0 plan.length] 0,J,.sl 2 g2 0 v2.length 1,J,J,.rptr (z45_1 s) 0,.int .i64 te.to]++Js 96),[⟨true,0,1,true,(yR s),false⟩,⟨false,1,1,true,[],false⟩,⟨true,g2,1,true,(rowI v2),true⟩]⟩):G Try.prog E (f45K1 Try.prog) (f45S1 s plan draws turn left v4_0 v4_1 v4_2 v3_0 v2 draws1 g2) :=
 Qh (n:=400) (ds:=[]) (cs:=[]) (live:=[2,4,6,9,10]) (m:=3) (evs:=[.auto,.ld (.int .i64 te.w),.b false,.auto,.ld (.int .i64 te.to),.stop]) (obs:=_) hE.2.1 (hE.nogh _) Qi (by kernel_rfl) ho hg
theorem f45W1 (s:Stl) (plan:(List Int)) (draws:(List Int)) (turn:Int) (left:Int) (v4_0:Int) (v4_1:Int) (v4_2:(List Trn)) (v3_0:Int) (v2:List Int) (draws1:(List Int)) {E:Env} {rv:((List Int) × Int × Int)} (hE:Qf Try.prog 45 (.tup [.rsl (rowI rv.1) 0 rv.1.length,.int .i64 rv.2.1,.int .i64 rv.2.2]) E)
 (h:(0≤turn∧(∃ te:Trn,v4_2[Int.toNat turn]?=some te∧((left≥te.w→((I6 (left - te.w))∧((I6 (turn+1))∧f45G1 E s plan draws (turn+1) (left - te.w) v4_0 v4_1 v4_2 v3_0 v2 draws1)))∧(¬ (left≥te.w)→(1≤draws1.length∧f45G0 E s plan draws te.to v2 (draws1.drop 1))))))):f45G1 E s plan draws turn left v4_0 v4_1 v4_2 v3_0 v2 draws1:=by
 intro g2
 obtain ⟨h2,h⟩:=h
 obtain ⟨te,h1,h⟩:=h
 rcases bft (decide (left≥te.w)) with hc0 | hc0
 · have h:=h.1 (odt hc0)
   obtain ⟨q6_1,h⟩:=h
   obtain ⟨q7_1,h⟩:=h
   exact p45_1_0 s plan draws turn left v4_0 v4_1 v4_2 v3_0 v2 draws1 g2 te hE ⟨(Qj h2 h1),(rp cTrn 2 0 1 h1),hc0,(Qj h2 h1),(rp cTrn 2 0 1 h1),q6_1,q7_1,trivial⟩ (h g2)
 · have h:=h.2 (odf hc0)
   obtain ⟨q4_1,h⟩:=h
   refine p45_1_1 s plan draws turn left v4_0 v4_1 v4_2 v3_0 v2 draws1 g2 te hE ⟨(Qj h2 h1),(rp cTrn 2 0 1 h1),hc0,q4_1,(Nat.le_refl _),(by decide),(Qj h2 h1),(rp cTrn 2 1 1 h1),trivial⟩ ?_
   refine weakT_step (t:=2) (v':=.rsl (rowI (draws1.drop 1)) 0 ((draws1.drop 1).length)) rfl rfl rfl (by exact rsl_drop cI (s:=1) (fun _=>rfl) 1 (by omega) (by first | rfl | omega | simp)) ?_
   simp only [List.set_cons_succ,List.set_cons_zero]
   skip; exact (h g2)
theorem qc (s:Stl) (plan draws:List Int) (h:(s.stages.length≤9223372036854775807∧s.worth.length≤9223372036854775807)):Pure Try.prog 45 [avStl s,.rsl (rowI plan) 0 plan.length,.rsl (rowI draws) 0 draws.length] (.tup [.rsl (rowI (QZ s plan draws).1) 0 (QZ s plan draws).1.length,.int .i64 (QZ s plan draws).2.1,.int .i64 (QZ s plan draws).2.2]):=Qq Try.func45 f45b fun E hE=>by
 have main:QK s plan=0→f45G0 E s plan draws 0 [] draws:=by
  intro he
  obtain ⟨hc,hpl⟩:=WF he
  obtain ⟨hm,es⟩:=Vb (Xj hc)
  have hform:=(QC hm.st).2.2.2.2
  have hn:=(QC hm.st).1
  rw [es] at hform hn
  have hrv:QZ s plan draws=Ys s plan s.stages.length 0 [] draws:=by rw [QZ,if_pos he]
  have key:∀ (n:Nat) (at_:Int) (v ds:List Int) ,0≤at_→at_<(s.stages.length:Int)→(s.stages.length:Int)≤at_+n→(v.length:Int)≤at_→QZ s plan draws=Ys s plan n at_ v ds→f45G0 E s plan draws at_ v ds:=by
   intro n
   induction n with
   | zero=>intro at_ v ds h0 h1 h2 h3 h4; omega
   | succ n ih =>
    intro at_ v ds h0 h1 h2 h3 h4
    have hi:s.stages[Int.toNat at_]?=some s.stages[Int.toNat at_]:=List.getElem?_eq_getElem (by omega)
    have hx:s.stages.getD (Int.toNat at_) ⟨0,0,[]⟩=s.stages[Int.toNat at_]:=by simp [List.getD,hi]
    have hto:=XA hi (hform _ (by omega))
    have htt:=YI hi (hform _ (by omega))
    have hfo:=XC hi (hform _ (by omega))
    obtain ⟨e,hpe,he0,he1⟩:=(YP hpl).2 _ _ hi
    have hpi:Qx plan at_=e:=by simp [Qx,List.getD,hpe]
    unfold Ys at h4
    rw [hx,hpi] at h4
    generalize s.stages[Int.toNat at_]=x at hi hto htt hfo he1 h4
    have nx:=fun (t:Trn) (ht:t ∈ x.turns) (ds':List Int) (h5:QZ s plan draws=Ys s plan n t.to (v++[at_]) ds')=>ih t.to (v++[at_]) ds' (by have:=hto t ht; omega) (by have:=hto t ht; omega) (by have:=hto t ht; omega) (by have:=hto t ht; simp; omega) h5
    refine f45W0 s plan draws at_ v ds (rv:=QZ s plan draws) hE ⟨h0,x,by rw [es]; exact hi,fun k4=>?_,fun h4'=>⟨by omega,?_⟩⟩
    · rw [if_neg k4] at h4
      refine ⟨by omega,h0,e,hpe,fun k1=>?_,fun k1=>?_⟩
      · rw [if_pos k1] at h4
        have hz:e=0:=by rw [QH,if_neg (by omega)] at he1; omega
        have hto2:=htt.2 k1
        cases ds with
        | nil=>exact ⟨fun _=>h4,fun h=>absurd rfl h⟩
        | cons d ds =>
        simp only at h4
        refine ⟨fun h=>by simp at h; omega,fun _=>⟨d,rfl,htt.1,by omega,fun hw=>?_,fun hw=>?_⟩⟩
        · rw [hw] at h4; exact h4
        rw [if_pos hw] at h4
        have hwd:=Qz.1 hw
        have hmem:=VE (ts:=x.turns) (d:=d) hwd.1 (by have:=hwd.2; rw [totI] at this; omega)
        have loop:∀ (m k:Nat) (left:Int),k+m=x.turns.length→0≤left→left<((x.turns.drop k).map (·.w)).sum→Vj (x.turns.drop k) left=Vj x.turns d→f45G1 E s plan draws (k:Int) left x.kind x.prize x.turns at_ (v++[at_]) (d :: ds):=by
         intro m
         induction m with
         | zero =>
          intro k left hk hl0 hl1 hd
          rw [List.drop_eq_nil_of_le (by omega)] at hl1; simp at hl1; omega
         | succ m ih2 =>
          intro k left hk hl0 hl1 hd
          have hkk:x.turns[k]?=some x.turns[k]:=List.getElem?_eq_getElem (by omega)
          have htm:=List.mem_of_getElem? hkk
          rw [List.drop_eq_getElem_cons (by omega)] at hl1 hd
          simp only [List.map_cons,List.sum_cons,Vj] at hl1 hd
          generalize x.turns[k]=te at hkk htm hl1 hd
          have hw:=htt.1.2 te htm
          have htl:=htt.1.1
          have hlb:left≤1000000000:=by
           have:=WX (l:=x.turns.drop (k+1)) (B:=1000000) fun t ht=>htt.1.2 t (List.mem_of_mem_drop ht)
           have h9:((x.turns.drop (k+1)).length:Int)≤998:=by rw [List.length_drop]; rcases hfo with ⟨q,-⟩ | ⟨-,-,q,-⟩ <;> omega
           omega
          refine f45W1 s plan draws (k:Int) left x.kind x.prize x.turns at_ (v++[at_]) (d :: ds) (rv:=QZ s plan draws) hE ⟨by omega,te,by rw [Int.toNat_natCast]; exact hkk,fun hge=>⟨by omega,by omega,?_⟩,fun hge=>⟨by simp,?_⟩⟩
          · rw [if_pos hge] at hd
            exact ih2 (k+1) (left - te.w) (by omega) (by omega) (by omega) hd
          · rw [if_neg hge] at hd
            rw [← hd] at h4
            exact nx te htm ds h4
        rw [hz]
        exact loop x.turns.length 0 d (by omega) hwd.1 (by have:=hwd.2; rw [totI] at this; simpa using (by omega:d<(x.turns.map (·.w)).sum)) (by simp)
      · rw [if_neg k1] at h4
        have hel:Int.toNat e<x.turns.length:=by
         rcases hfo with ⟨q,-⟩ | ⟨q0,-,q,-⟩
         · exact absurd q k4
         · rw [QH,if_pos (by omega)] at he1; omega
        have hte:x.turns[Int.toNat e]?=some x.turns[Int.toNat e]:=List.getElem?_eq_getElem hel
        rw [show x.turns.getD (Int.toNat e) ⟨0,0⟩=x.turns[Int.toNat e] by simp [List.getD,hte]] at h4
        have htm:=List.mem_of_getElem? hte
        generalize x.turns[Int.toNat e]=te at hte htm h4
        exact ⟨he0,te,hte,nx te htm ds h4⟩
    · rw [if_pos h4'] at h4
      exact h4
  exact key s.stages.length 0 [] draws (by omega) (by omega) (by omega) (by simp) hrv
 refine f45W s plan draws (rv:=QZ s plan draws) hE ⟨fun h0=>⟨fun h1=>⟨h,main ?_⟩,fun h1=>⟨h,?_⟩⟩,fun h0=>⟨h,?_⟩⟩
 · rw [WG h0,if_pos h1]
 · have he:QK s plan=1:=by rw [WG h0,if_neg (by rw [h1]; simp)]
   rw [QZ,if_neg (by omega),he]
 · have he:QK s plan=60:=by rw [QK,if_neg (fun h=>by rw [VT.2 h] at h0; cases h0)]
   rw [QZ,if_neg (by omega),he]
end Go.Proofs.Ytfgmlaeikcfpbaa
namespace Go.Proofs.Ytfgmlaeikcfpbaa
open Go Ax
open Go.Proofs
/-! ### What a stage is worth at most -/
/-! ### Ways -/
def wGo (a b:Int):Int→List Int→List Int
 | c,[]=>[c]
 | c,x :: xs=>(c+x*b) :: wGo a b (x*a) xs
def waysN (a b:Int):Nat→List Int
 | 0=>[1]
 | n+1=>wGo a b 0 (waysN a b n)
def powN (d:Int):Nat→Int
 | 0=>1
 | n+1=>powN d n*d
theorem yx:∀ {w:List Int},(∀ x ∈ w,0≤x)→0≤w.sum∧∀ x ∈ w,x≤w.sum
 | [],_=>by simp
 | y :: ys,h=>by
  have h0:=h y (by simp)
  obtain ⟨h1,h2⟩:=yx (w:=ys) fun z hz=>h z (by simp [hz])
  simp only [List.sum_cons]
  refine ⟨by omega,fun x hx=>?_⟩
  rcases List.mem_cons.1 hx with rfl | hx
  · omega
  · have:=h2 x hx; omega
/-! ### Enough -/
def enF (s:Stl) (plan:List Int) (kd:Int):Fr:=QM (Qb s) (Qu kd) (fun i _=>Qx plan i)
def enN (f:Fr) (st:Int) (n:Nat):Int:=((waysN f.num (f.den - f.num) n).take (Int.toNat (st+1))).sum
def enoughF (f:Fr) (st:Int) (n:Nat):Int × Int × Int:=if powN f.den n≤1000000000000 then ((Xy (enN f st n) (powN f.den n)).num,(Xy (enN f st n) (powN f.den n)).den,0) else (0,0,2)
def enoughK (s:Stl) (plan:List Int) (kd st ps:Int):Int × Int × Int :=
 if QK s plan=0 then (if (Qa kd 0 ((s.worth.length:Int) - 1) && (Qa st 0 1000 && Qa ps 0 1000))=true then enoughF (enF s plan kd) st (Int.toNat ps) else (0,0,1)) else (0,0,QK s plan)
/-- What lies in the new list after 'k' rounds. -/
structure WInv (a b:Int) (w:List Int) (k:Nat) (v:List Int):Prop where
 len:v.length=w.length+1
 eq:∃ c,v[k]?=some c∧0≤c∧wGo a b 0 w=v.take k++wGo a b c (w.drop k)
 z:∀ j,k<j→j<v.length→v[j]?=some 0
end Go.Proofs.Ytfgmlaeikcfpbaa
namespace Go.Proofs.Ytfgmlaeikcfpbaa
open Go Ax
open Go.Proofs
/-! ### Fractions in parts of the measure -/
def FrV (s:Stl) (a:Fr):Int:=a.num*Int.tdiv (Yh s) a.den
structure FrOk (s:Stl) (a:Fr):Prop where
 pos:0<a.den
 dvd:a.den∣Yh s
 bd:-100000000000000000≤FrV s a∧FrV s a≤100000000000000000
theorem fr_of {s:Stl} (hc:Qy s=0) {v:Int} (hv:-100000000000000000≤v∧v≤100000000000000000):FrOk s (Xy v (Yh s))∧FrV s (Xy v (Yh s))=v:=by
 have hu:=(gainV_bd (pa:=1) (oa:=1) hc).2
 obtain ⟨g,hg,e1,e2,e3⟩:=frac_parts (v:=v) hu.1
 have e4:Int.tdiv (Yh s) (Xy v (Yh s)).den=g:=by
  have:Int.tdiv (g*(Xy v (Yh s)).den) (Xy v (Yh s)).den=g:=Int.mul_tdiv_cancel _ (by omega)
  rwa [← e2] at this
 have e5:FrV s (Xy v (Yh s))=v:=by rw [FrV,e4,Int.mul_comm,← e1]
 exact ⟨⟨e3,⟨g,by rw [Int.mul_comm]; exact e2⟩,by rw [e5]; exact hv⟩,e5⟩
theorem first_fr {s:Stl} (hc:Qy s=0) {w:Int→Int} {ch:Int→List Int→Int} (hw:WOk (Qb s) w ch):FrOk s (QM (Qb s) w ch)∧FrV s (QM (Qb s) w ch)=(valA (Qb s) w ch).1.getD 0 0:=by
 obtain ⟨v,hv,hb⟩:=val0 (Vb (Xj hc)).1 hw
 have:=fr_of hc (v:=v) (by omega)
 rw [QM,Xv hv]
 exact this
theorem f32b:Try.f32.body=some (Qe Try.prog 32):=by kernel_rfl
theorem u32 {a c k:List AV} {r:AV} (h:Pure Try.prog 32 (a++c++k) r):Qg Try.prog (.clos 32 a k) c r:=Ql Try.func32 (by kernel_rfl) f32b h
abbrev z32_1 (s:Stl):AV:=.tup [.rsl (rowI ((QO (QL s)).1)) 0 (((QO (QL s)).1).length),.bool ((QO (QL s)).2)]
abbrev z32_2 (s:Stl):List AV:=[.rsl (Qd s.stages) 0 s.stages.length,.rsl (rowI s.worth) 0 s.worth.length,.int .i64 s.price]
abbrev z32_3 (s:Stl) (a:Fr):List AV:=[.agg (z32_2 s),.agg [.int .i64 a.num,.int .i64 a.den]]
theorem p32_start_0 (s:Stl) (a:Fr) (e:Int) {E:Env} {res:AV} (hE:Qf Try.prog 32 res E) (ho:AllP [Qg Try.prog (.clos 51 [] []) [.agg (z32_2 s)] (z32_1 s),((QO (QL s)).2)=true,(decide (((((QO (QL s)).1).length:Nat):Int) > 0))=true,(0:Int)≤1∧(1:Int)<((2:Nat):Int),(decide (a.den > 0))=true,(0:Int)≤0∧(0:Int)<((((QO (QL s)).1).length:Nat):Int),((rowI ((QO (QL s)).1)).drop (0+0*1)).take 1=[.int .i64 e],(0:Int)≤1∧(1:Int)<((2:Nat):Int),a.den ≠ 0])
 (hr:AvLe (.bool ((Int.tmod e a.den) == 0)) res):G Try.prog E [.code (Qe Try.prog 32)] ⟨(z32_3 s a)++unds (Try.f32.ntmps - 2),[]⟩ :=
 Qc (n:=400) (evs:=[.v (z32_1 s),.b true,.b true,.b true,.ld (.int .i64 e)]) (obs:=_) hE Try.func32 Qi (by kernel_rfl) ho hr
theorem p32_start_1 (s:Stl) (a:Fr) {E:Env} {res:AV} (hE:Qf Try.prog 32 res E) (ho:AllP [Qg Try.prog (.clos 51 [] []) [.agg (z32_2 s)] (z32_1 s),((QO (QL s)).2)=true,(decide (((((QO (QL s)).1).length:Nat):Int) > 0))=true,(0:Int)≤1∧(1:Int)<((2:Nat):Int),(decide (a.den > 0))=false])
 (hr:AvLe (.bool false) res):G Try.prog E [.code (Qe Try.prog 32)] ⟨(z32_3 s a)++unds (Try.f32.ntmps - 2),[]⟩ :=
 Qc (n:=400) (evs:=[.v (z32_1 s),.b true,.b true,.b false]) (obs:=_) hE Try.func32 Qi (by kernel_rfl) ho hr
theorem p32_start_2 (s:Stl) (a:Fr) {E:Env} {res:AV} (hE:Qf Try.prog 32 res E) (ho:AllP [Qg Try.prog (.clos 51 [] []) [.agg (z32_2 s)] (z32_1 s),((QO (QL s)).2)=true,(decide (((((QO (QL s)).1).length:Nat):Int) > 0))=false,false=false])
 (hr:AvLe (.bool false) res):G Try.prog E [.code (Qe Try.prog 32)] ⟨(z32_3 s a)++unds (Try.f32.ntmps - 2),[]⟩ :=
 Qc (n:=400) (evs:=[.v (z32_1 s),.b true,.b false,.b false]) (obs:=_) hE Try.func32 Qi (by kernel_rfl) ho hr
theorem p32_start_3 (s:Stl) (a:Fr) {E:Env} {res:AV} (hE:Qf Try.prog 32 res E) (ho:AllP [Qg Try.prog (.clos 51 [] []) [.agg (z32_2 s)] (z32_1 s),((QO (QL s)).2)=false,false=false,false=false])
 (hr:AvLe (.bool false) res):G Try.prog E [.code (Qe Try.prog 32)] ⟨(z32_3 s a)++unds (Try.f32.ntmps - 2),[]⟩ :=
 Qc (n:=400) (evs:=[.v (z32_1 s),.b false,.b false,.b false]) (obs:=_) hE Try.func32 Qi (by kernel_rfl) ho hr
theorem f32W (s:Stl) (a:Fr) {E:Env} {rv:Bool} (hE:Qf Try.prog 32 (.bool rv) E)
 (h:((s.stages.length≤1000000∧∀ i,i<s.stages.length→QP s i=true)∧((((QO (QL s)).2)=true→((((((QO (QL s)).1).length:Nat):Int) > 0→((a.den > 0→(∃ e:Int,((QO (QL s)).1)[0]?=some e∧(a.den ≠ 0∧rv=((Int.tmod e a.den) == 0))))∧(¬ (a.den > 0)→rv=false)))∧(¬ (((((QO (QL s)).1).length:Nat):Int) > 0)→rv=false)))∧(((QO (QL s)).2)=false→rv=false)))):G Try.prog E [.code (Qe Try.prog 32)] ⟨[.agg [.rsl (Qd s.stages) 0 s.stages.length,.rsl (rowI s.worth) 0 s.worth.length,.int .i64 s.price],.agg [.int .i64 a.num,.int .i64 a.den]]++unds (Try.f32.ntmps - 2),[]⟩:=by
 obtain ⟨h1,h⟩:=h
 rcases bft ((QO (QL s)).2) with hc0 | hc0
 · have h:=h.1 hc0
   rcases bft (decide (((((QO (QL s)).1).length:Nat):Int) > 0)) with hc1 | hc1
   · have h:=h.1 (odt hc1)
     rcases bft (decide (a.den > 0)) with hc2 | hc2
     · have h:=h.1 (odt hc2)
       obtain ⟨e,h2,h⟩:=h
       obtain ⟨q9_3,h⟩:=h
       exact p32_start_0 s a e hE ⟨(u51 (Xa s h1)),hc0,hc1,(⟨by decide,by decide⟩),hc2,(Qn h2),(rp cI 1 0 1 h2),(⟨by decide,by decide⟩),q9_3,trivial⟩ (AvLe.of_eq (by rw [h]; try rfl))
     · have h:=h.2 (odf hc2)
       exact p32_start_1 s a hE ⟨(u51 (Xa s h1)),hc0,hc1,(⟨by decide,by decide⟩),hc2,trivial⟩ (AvLe.of_eq (by rw [h]; try rfl))
   · have h:=h.2 (odf hc1)
     exact p32_start_2 s a hE ⟨(u51 (Xa s h1)),hc0,hc1,rfl,trivial⟩ (AvLe.of_eq (by rw [h]; try rfl))
 · have h:=h.2 hc0
   exact p32_start_3 s a hE ⟨(u51 (Xa s h1)),hc0,rfl,rfl,trivial⟩ (AvLe.of_eq (by rw [h]; try rfl))
theorem VZ (s:Stl) (a:Fr) (h:Qy s=0∧FrOk s a):Pure Try.prog 32 [avStl s,.agg [.int .i64 a.num,.int .i64 a.den]] (.bool true):=Qq Try.func32 f32b fun E hE=>by
 obtain ⟨hc,ha⟩:=h
 obtain ⟨hm,es⟩:=Vb (Xj hc)
 have hform:=(QC hm.st).2.2.2.2
 have hn:=(QC hm.st).1
 rw [es] at hform hn
 have hme:=measR_of (Xj hc)
 obtain ⟨u,hu,hu1,hu2⟩:=meas0 hm
 have eu:Yh s=u:=Xv hu
 have p1:=ha.pos
 have hd:=ha.dvd
 rw [eu] at hd
 have hl:((QO (QL s)).1.length:Int) > 0:=by
  rw [hme]
  have:=(List.getElem?_eq_some_iff.1 hu).1
  show ((Qb s).meas.length:Int) > 0
  omega
 refine f32W s a (rv:=true) hE ⟨⟨by omega,hform⟩,fun _=>⟨fun _=>⟨fun _=>⟨u,by rw [hme]; exact hu,by omega,?_⟩,fun h=>absurd p1 h⟩,fun h=>absurd hl h⟩,fun h=>by rw [hme] at h; cases h⟩
 rw [Int.tmod_eq_zero_of_dvd hd]; rfl
theorem planned_at {s:Stl} {plan:List Int} (he:QK s plan=0) {k:Int} (h0:0≤k) (h1:k<(s.worth.length:Int)):(Qp s plan).1[Int.toNat k]?=some (QM (Qb s) (Qu k) (fun i _=>Qx plan i)):=by
 rw [Qp,if_pos he,planL,List.getElem?_map,List.getElem?_range (by omega)]
 simp only [Option.map_some,Int.toNat_of_nonneg h0]
end Go.Proofs.Ytfgmlaeikcfpbaa
namespace Go.Proofs.Ytfgmlaeikcfpbaa
open Go Ax
open Go.Proofs
structure WideOk (a b m n q:Int):Prop where
 q0:0<q
 qb:q∣b
 qn:q∣n
 a0:0≤a∧a≤b
 m0:0≤m∧m≤n
 b0:b≤1000000000000
 n0:n≤1000000000000
 le:a*n≤m*b
structure EnOk (s:Stl) (plan:List Int) (kd st ps D N:Int):Prop where
 d0:0<D∧D≤1000000000000
 n0:0≤N∧N≤D
 k:enoughK s plan kd st ps=((Xy N D).num,(Xy N D).den,0)
/-! ### All kinds together -/
end Go.Proofs.Ytfgmlaeikcfpbaa
namespace Go.Proofs.Ytfgmlaeikcfpbaa
open Go Ax
open Go.Proofs
/-! ### The stages of throws and bags -/
theorem stg_getD {s:Stl} {j:Nat} {x d:Stg} (h:s.stages[j]?=some x):s.stages.getD j d=x:=by simp [List.getD,h]
/-! ### Their measures -/
theorem measN_hi {s:Stl}:∀ {n:Nat} {me mu:List Int} {r:List Int × List Int},Vf s n me mu=some r→∀ j,n≤j→r.1.getD j 0=me.getD j 0
 | 0,me,mu,r,h,j,_=>by simp only [Vf,Option.some.injEq] at h; rw [← h]
 | n+1,me,mu,r,h,j,hj=>by
  simp only [Vf] at h
  split at h
  · rw [measN_hi h j (by omega)]
    unfold QE
    split
    · rfl
    · split
      · exact getD_set_ne (by omega)
      · exact getD_set_ne (by omega)
  · cases h
theorem measK_len {x:Stg} {i:Nat} {me mu:List Int}:(QE x i me mu).2.1.length=me.length:=by
 unfold QE
 split
 · rfl
 · split <;> simp
theorem mach_meas {s:Stl} (hc:Qy s=0):QL s=some ((Qb s).meas,(Qb s).mult):=by
 have h:=Xj hc
 have hg:QX s=some (Qb s):=by
  rw [Qb]
  cases hm:QX s with
  | none=>rw [hm] at h; cases h
  | some m=>rfl
 unfold QX at hg
 split at hg
 · obtain ⟨r,hr,e⟩:=Option.map_eq_some_iff.1 hg
   rw [hr,← e]
 · cases hg
/-! ### Their values -/
section Vals
variable {op:Int→Int→Bool} {wg:Int→Int→Int × Int} {n:Nat} {need:Int} {pa oa:Int}
def vals (s:Stl) (pa oa:Int):List Int:=(valA (Qb s) (Qu 0) (Qo (Qb s) pa oa)).1
end Vals
end Go.Proofs.Ytfgmlaeikcfpbaa
namespace Go.Proofs.Ytfgmlaeikcfpbaa
open Go Ax
open Go.Proofs
/-! ### Where draws lead -/
def stgA (s:Stl) (a:Int):Stg:=s.stages.getD (Int.toNat a) ⟨0,0,[]⟩
def nxtP (s:Stl) (plan:List Int) (a:Int):Int:=((stgA s a).turns.getD (Int.toNat (Qx plan a)) ⟨0,0⟩).to
def nxtD (s:Stl) (a d:Int):Int:=(Vj (stgA s a).turns d).to
def QI (s:Stl) (plan:List Int):Nat→Int→List Int→Int
 | 0,a,_=>a
 | n+1,a,ds=>if (stgA s a).kind=4 then a else if (stgA s a).kind=1 then (match ds with
  | []=>a
  | d :: ds=>QI s plan n (nxtD s a d) ds) else QI s plan n (nxtP s plan a) ds
def XX (s:Stl) (plan:List Int):Nat→Int→List Int→Prop
 | 0,_,_=>False
 | n+1,a,ds=>if (stgA s a).kind=4 then ds=[] else if (stgA s a).kind=1 then (match ds with
  | []=>True
  | d :: ds=>(0≤d∧d<totI (stgA s a))∧XX s plan n (nxtD s a d) ds) else XX s plan n (nxtP s plan a) ds
section
variable {s:Stl} {plan:List Int} {n:Nat} {a:Int} {v ds:List Int}
theorem where4 (k4:(stgA s a).kind=4):QI s plan (n+1) a ds=a:=by
 conv=>lhs; unfold QI
 rw [if_pos k4]
theorem whereC0 (k4:¬ (stgA s a).kind=4) (k1:(stgA s a).kind=1):QI s plan (n+1) a []=a:=by rw [QI,if_neg k4,if_pos k1]
theorem whereC {d:Int} (k4:¬ (stgA s a).kind=4) (k1:(stgA s a).kind=1):QI s plan (n+1) a (d :: ds)=QI s plan n (nxtD s a d) ds:=by rw [QI,if_neg k4,if_pos k1]
theorem whereP (k4:¬ (stgA s a).kind=4) (k1:¬ (stgA s a).kind=1):QI s plan (n+1) a ds=QI s plan n (nxtP s plan a) ds:=by
 conv=>lhs; unfold QI
 rw [if_neg k4,if_neg k1]
theorem goodC {d:Int} (k4:¬ (stgA s a).kind=4) (k1:(stgA s a).kind=1):XX s plan (n+1) a (d :: ds)=((0≤d∧d<totI (stgA s a))∧XX s plan n (nxtD s a d) ds):=by rw [XX,if_neg k4,if_pos k1]
theorem goodP (k4:¬ (stgA s a).kind=4) (k1:¬ (stgA s a).kind=1):XX s plan (n+1) a ds=XX s plan n (nxtP s plan a) ds:=by
 conv=>lhs; unfold XX
 rw [if_neg k4,if_neg k1]
theorem play4 (k4:(stgA s a).kind=4):Ys s plan (n+1) a v ds=(v++[a],(stgA s a).prize,0):=by
 conv=>lhs; unfold Ys
 rw [if_pos (show (s.stages.getD (Int.toNat a) ⟨0,0,[]⟩).kind=4 from k4)]; rfl
theorem playC0 (k4:¬ (stgA s a).kind=4) (k1:(stgA s a).kind=1):Ys s plan (n+1) a v []=([],0,1):=by rw [Ys,if_neg (show ¬ (s.stages.getD (Int.toNat a) ⟨0,0,[]⟩).kind=4 from k4),if_pos (show (s.stages.getD (Int.toNat a) ⟨0,0,[]⟩).kind=1 from k1)]
theorem playC {d:Int} (k4:¬ (stgA s a).kind=4) (k1:(stgA s a).kind=1) (hd:0≤d∧d<totI (stgA s a)):Ys s plan (n+1) a v (d :: ds)=Ys s plan n (nxtD s a d) (v++[a]) ds:=by
 rw [Ys,if_neg (show ¬ (s.stages.getD (Int.toNat a) ⟨0,0,[]⟩).kind=4 from k4),if_pos (show (s.stages.getD (Int.toNat a) ⟨0,0,[]⟩).kind=1 from k1)]
 rw [if_pos (Qz.2 ⟨hd.1,by have:=hd.2; show d≤totI (stgA s a) - 1; omega⟩)]; rfl
theorem playP (k4:¬ (stgA s a).kind=4) (k1:¬ (stgA s a).kind=1):Ys s plan (n+1) a v ds=Ys s plan n (nxtP s plan a) (v++[a]) ds:=by
 conv=>lhs; unfold Ys
 rw [if_neg (show ¬ (s.stages.getD (Int.toNat a) ⟨0,0,[]⟩).kind=4 from k4),if_neg (show ¬ (s.stages.getD (Int.toNat a) ⟨0,0,[]⟩).kind=1 from k1)]; rfl
end
structure DOk (s:Stl) (plan:List Int):Prop where
 hc:Qy s=0
 hp:Qw s plan=true
section
variable {s:Stl} {plan:List Int}
theorem DOk.forms (h:DOk s plan):∀ i,i<s.stages.length→QP s i=true:=by
 obtain ⟨hm,es⟩:=Vb (Xj h.hc)
 have:=(QC hm.st).2.2.2.2
 rw [es] at this; exact this
theorem DOk.len (h:DOk s plan):1≤s.stages.length∧s.stages.length≤60:=by
 obtain ⟨hm,es⟩:=Vb (Xj h.hc)
 have:=(QC hm.st).1
 rw [es] at this; exact this
theorem Vp {a:Int} (h0:0≤a) (h1:a<(s.stages.length:Int)):s.stages[Int.toNat a]?=some (stgA s a):=by
 have:s.stages[Int.toNat a]?=some (s.stages[Int.toNat a]'(by omega)):=List.getElem?_eq_getElem (by omega)
 rw [this]; simp [stgA,List.getD,this]
theorem DOk.kinds (h:DOk s plan) {a:Int} (h0:0≤a) (h1:a<(s.stages.length:Int)):(stgA s a).kind=4 ∨ (1≤(stgA s a).kind∧(stgA s a).kind≤3):=by
 rcases XC (Vp h0 h1) (h.forms _ (by omega)) with ⟨q,-⟩ | ⟨q,-⟩
 · exact .inl q
 · exact .inr q
theorem DOk.tot (h:DOk s plan) {a:Int} (h0:0≤a) (h1:a<(s.stages.length:Int)) (hk:(stgA s a).kind=1):0<totI (stgA s a)∧totI (stgA s a)≤800 :=
 (YI (Vp h0 h1) (h.forms _ (by omega))).2 hk
theorem DOk.nD (h:DOk s plan) {a d:Int} (h0:0≤a) (h1:a<(s.stages.length:Int)) (hd0:0≤d) (hd1:d<totI (stgA s a)):a<nxtD s a d∧nxtD s a d<(s.stages.length:Int):=by
 have:=XA (Vp h0 h1) (h.forms _ (by omega)) _ (VE hd0 hd1)
 unfold nxtD; omega
theorem DOk.nP (h:DOk s plan) {a:Int} (h0:0≤a) (h1:a<(s.stages.length:Int)) (k4:(stgA s a).kind ≠ 4) (k1:(stgA s a).kind ≠ 1) :
 ∃ t,(stgA s a).turns[Int.toNat (Qx plan a)]?=some t∧nxtP s plan a=t.to∧a<t.to∧t.to<(s.stages.length:Int):=by
 have hi:=Vp h0 h1
 obtain ⟨e,hpe,he0,he1⟩:=(YP h.hp).2 _ _ hi
 have hpi:Qx plan a=e:=by simp [Qx,List.getD,hpe]
 rcases XC hi (h.forms _ (by omega)) with ⟨q,-⟩ | ⟨q0,-,q,-⟩
 · exact absurd q k4
 · rw [QH,if_pos (by omega)] at he1
   have hg:(stgA s a).turns[Int.toNat e]?=some ((stgA s a).turns[Int.toNat e]'(by omega)):=List.getElem?_eq_getElem (by omega)
   have ht:=XA hi (h.forms _ (by omega)) _ (List.mem_of_getElem? hg)
   refine ⟨_,by rw [hpi]; exact hg,?_,?_⟩
   · rw [nxtP,hpi]; simp [List.getD,hg]
   · omega
theorem DOk.nP' (h:DOk s plan) {a:Int} (h0:0≤a) (h1:a<(s.stages.length:Int)) (k4:(stgA s a).kind ≠ 4) (k1:(stgA s a).kind ≠ 1):a<nxtP s plan a∧nxtP s plan a<(s.stages.length:Int):=by
 obtain ⟨t,-,e,h2,h3⟩:=h.nP h0 h1 k4 k1
 rw [e]; exact ⟨h2,h3⟩
theorem WK (h:DOk s plan):∀ {n:Nat} {a:Int},0≤a→a<(s.stages.length:Int)→(s.stages.length:Int)≤a+n→XX s plan n a []
 | 0,a,h0,h1,h2=>by omega
 | n+1,a,h0,h1,h2=>by
  unfold XX
  split
  · rfl
  · split
    · trivial
    · rename_i k4 k1
      have:=h.nP' h0 h1 k4 k1
      exact WK h (by omega) (by omega) (by omega)
theorem where_nil (h:DOk s plan):∀ {n m:Nat} {a:Int},0≤a→a<(s.stages.length:Int)→(s.stages.length:Int)≤a+n→(s.stages.length:Int)≤a+m→QI s plan n a []=QI s plan m a []
 | 0,m,a,h0,h1,h2,_=>by omega
 | n+1,0,a,h0,h1,_,h2=>by omega
 | n+1,m+1,a,h0,h1,h2,h3=>by
  unfold QI
  split
  · rfl
  · split
    · rfl
    · rename_i k4 k1
      have:=h.nP' h0 h1 k4 k1
      exact where_nil h (by omega) (by omega) (by omega) (by omega)
theorem WC (h:DOk s plan):∀ {n:Nat} {a:Int} {ds:List Int},0≤a→a<(s.stages.length:Int)→XX s plan n a ds →
 (0≤QI s plan n a ds∧QI s plan n a ds<(s.stages.length:Int))∧((stgA s (QI s plan n a ds)).kind=4 ∨ (stgA s (QI s plan n a ds)).kind=1)
 | 0,a,ds,h0,h1,hg=>hg.elim
 | n+1,a,ds,h0,h1,hg=>by
  unfold XX at hg
  unfold QI
  by_cases k4:(stgA s a).kind=4
  · rw [if_pos k4] at *; exact ⟨⟨h0,h1⟩,.inl k4⟩
  · by_cases k1:(stgA s a).kind=1
    · rw [if_neg k4,if_pos k1] at *
      cases ds with
      | nil=>exact ⟨⟨h0,h1⟩,.inr k1⟩
      | cons d ds =>
       simp only at hg ⊢
       have:=h.nD h0 h1 hg.1.1 hg.1.2
       exact WC h (by omega) (by omega) hg.2
    · rw [if_neg k4,if_neg k1] at *
      have:=h.nP' h0 h1 k4 k1
      exact WC h (by omega) (by omega) hg
/-- One draw more. -/
theorem YU (h:DOk s plan):∀ {n m:Nat} {a:Int} {ds:List Int} {d:Int},0≤a→a<(s.stages.length:Int)→(s.stages.length:Int)≤a+n→XX s plan n a ds→(stgA s (QI s plan n a ds)).kind=1 →
 0≤d→d<totI (stgA s (QI s plan n a ds))→(s.stages.length:Int)≤nxtD s (QI s plan n a ds) d+m →
 XX s plan n a (ds++[d])∧QI s plan n a (ds++[d])=QI s plan m (nxtD s (QI s plan n a ds) d) []
 | 0,m,a,ds,d,h0,h1,h2,hg,hk,hd0,hd1,hm=>hg.elim
 | n+1,m,a,ds,d,h0,h1,h2,hg,hk,hd0,hd1,hm=>by
  by_cases k4:(stgA s a).kind=4
  · rw [where4 k4] at hk; omega
  · by_cases k1:(stgA s a).kind=1
    · cases ds with
      | nil =>
       rw [whereC0 k4 k1] at hd1 hm ⊢
       rw [List.nil_append,goodC k4 k1,whereC k4 k1]
       have:=h.nD h0 h1 hd0 hd1
       exact ⟨⟨⟨hd0,hd1⟩,WK h (by omega) (by omega) (by omega)⟩,where_nil h (by omega) (by omega) (by omega) hm⟩
      | cons d' ds =>
       rw [goodC k4 k1] at hg
       rw [whereC k4 k1] at hk hd1 hm ⊢
       rw [List.cons_append,goodC k4 k1,whereC k4 k1]
       have:=h.nD h0 h1 hg.1.1 hg.1.2
       obtain ⟨q1,q2⟩:=YU h (n:=n) (m:=m) (d:=d) (by omega) (by omega) (by omega) hg.2 hk hd0 hd1 hm
       exact ⟨⟨hg.1,q1⟩,q2⟩
    · rw [goodP k4 k1] at hg
      rw [whereP k4 k1] at hk hd1 hm ⊢
      rw [goodP k4 k1,whereP k4 k1]
      have:=h.nP' h0 h1 k4 k1
      exact YU h (by omega) (by omega) (by omega) hg hk hd0 hd1 hm
theorem qd (h:DOk s plan):∀ {n:Nat} {a:Int} {v ds:List Int},0≤a→a<(s.stages.length:Int)→XX s plan n a ds →
 ((stgA s (QI s plan n a ds)).kind=4→(Ys s plan n a v ds).2=((stgA s (QI s plan n a ds)).prize,0)∧∃ r,(Ys s plan n a v ds).1=v++a :: r) ∧
 ((stgA s (QI s plan n a ds)).kind ≠ 4→Ys s plan n a v ds=([],0,1))
 | 0,a,v,ds,h0,h1,hg=>hg.elim
 | n+1,a,v,ds,h0,h1,hg=>by
  by_cases k4:(stgA s a).kind=4
  · rw [where4 k4,play4 k4]
    exact ⟨fun _=>⟨rfl,[],rfl⟩,fun h=>absurd k4 h⟩
  · by_cases k1:(stgA s a).kind=1
    · cases ds with
      | nil=>rw [whereC0 k4 k1,playC0 k4 k1]; exact ⟨fun h=>absurd h k4,fun _=>rfl⟩
      | cons d ds =>
       rw [goodC k4 k1] at hg
       rw [whereC k4 k1,playC k4 k1 hg.1]
       have:=h.nD h0 h1 hg.1.1 hg.1.2
       obtain ⟨q1,q2⟩:=qd h (n:=n) (a:=nxtD s a d) (v:=v++[a]) (ds:=ds) (by omega) (by omega) hg.2
       refine ⟨fun hk=>?_,q2⟩
       obtain ⟨e1,r,e2⟩:=q1 hk
       exact ⟨e1,nxtD s a d :: r,by rw [e2]; simp⟩
    · rw [goodP k4 k1] at hg
      rw [whereP k4 k1,playP k4 k1]
      have:=h.nP' h0 h1 k4 k1
      obtain ⟨q1,q2⟩:=qd h (n:=n) (a:=nxtP s plan a) (v:=v++[a]) (ds:=ds) (by omega) (by omega) hg
      refine ⟨fun hk=>?_,q2⟩
      obtain ⟨e1,r,e2⟩:=q1 hk
      exact ⟨e1,nxtP s plan a :: r,by rw [e2]; simp⟩
end
/-! ### What a stage is worth,in parts -/
def Mea (s:Stl) (a:Int):Int:=(Qb s).meas.getD (Int.toNat a) 0
def Mul (s:Stl) (a:Int):Int:=(Qb s).mult.getD (Int.toNat a) 0
def Vof (s:Stl) (plan:List Int) (kd a:Int):Int:=(valA (Qb s) (Qu kd) (fun i _=>Qx plan i)).1.getD (Int.toNat a) 0
section
variable {s:Stl} {plan:List Int} {kd:Int}
theorem DOk.rel (h:DOk s plan) {a:Int} (h0:0≤a) (h1:a<(s.stages.length:Int)):Mea s a=(if (stgA s a).kind=1 then Mul s a*totI (stgA s a) else Mul s a)∧0<Mul s a∧∀ t ∈ (stgA s a).turns,Mea s t.to∣Mul s a:=by
 obtain ⟨hm,es⟩:=Vb (Xj h.hc)
 obtain ⟨q,q1,q2,q3,q4⟩:=hm.inv.rel (Int.toNat a) (stgA s a) (by omega) (by rw [es]; exact Vp h0 h1)
 unfold Mea Mul
 rw [Xv q1,Xv q2]
 exact ⟨rfl,q3.1,q4⟩
theorem DOk.mpos (h:DOk s plan) {a:Int} (h0:0≤a) (h1:a<(s.stages.length:Int)):0<Mea s a:=by
 have:=h.rel h0 h1
 rw [this.1]
 split
 · rename_i hk; exact Int.mul_pos this.2.1 (h.tot h0 h1 hk).1
 · exact this.2.1
theorem end_meas {j:Nat} {x:Stg} (hj:s.stages[j]?=some x) (ht:x.turns=[]) (hk:x.kind=4):∀ {n:Nat} {me mu:List Int} {r:List Int × List Int},j<n→me.length=s.stages.length→Vf s n me mu=some r→r.1.getD j 0=1
 | 0,me,mu,r,h,_,_=>by omega
 | n+1,me,mu,r,h,hl,hr=>by
  simp only [Vf] at hr
  split at hr
  · by_cases e:j=n
    · subst e
      rw [measN_hi hr j (Nat.le_refl _),stg_getD hj]
      have hlt:=(List.getElem?_eq_some_iff.1 hj).1
      simp only [QE,ht,YB]
      rw [if_neg (by omega)]
      simp [List.getD,hl,hlt]
    · exact end_meas hj ht hk (by omega) (by rw [measK_len]; exact hl) hr
  · cases hr
theorem DOk.mend (h:DOk s plan) {a:Int} (h0:0≤a) (h1:a<(s.stages.length:Int)) (hk:(stgA s a).kind=4):Mea s a=1:=by
 have hi:=Vp h0 h1
 have hf:=XC hi (h.forms _ (by omega))
 have ht:(stgA s a).turns=[]:=by
  rcases hf with ⟨-,q,-⟩ | ⟨q,-⟩
  · exact q
  · omega
 have:=mach_meas h.hc
 exact end_meas hi ht hk (n:=s.stages.length) (by omega) (by simp [Xu]) this
theorem DOk.fix (h:DOk s plan) {a:Int} (h0:0≤a) (h1:a<(s.stages.length:Int)) (hkd:0≤kd) :
 ((stgA s a).kind=4→Vof s plan kd a=if (stgA s a).prize=kd then 1 else 0) ∧
 ((stgA s a).kind=1→Vof s plan kd a=((stgA s a).turns.map fun t=>t.w*(Vof s plan kd t.to*(Mul s a / Mea s t.to))).sum) ∧
 ((stgA s a).kind ≠ 4→(stgA s a).kind ≠ 1→Vof s plan kd a=Vof s plan kd (nxtP s plan a)*(Mul s a / Mea s (nxtP s plan a))):=by
 obtain ⟨hm,es⟩:=Vb (Xj h.hc)
 have hi:=Vp h0 h1
 have hp':Qw (Qb s).s plan=true:=by rw [es]; exact h.hp
 have hfx:=(vfixA hm (w:=Qu kd) (ch:=fun i _=>Qx plan i) (WB hp')).fx (Int.toNat a) (stgA s a) (by omega) (by rw [es]; exact hi)
 have hrel:=h.rel h0 h1
 have hto:=XA hi (h.forms _ (by omega))
 have td:∀ t ∈ (stgA s a).turns,Int.tdiv (Mul s a) (Mea s t.to)=Mul s a / Mea s t.to:=fun t _=>Int.tdiv_eq_ediv_of_nonneg (by omega)
 refine ⟨fun hk=>?_,fun hk=>?_,fun k4 k1=>?_⟩
 · have:=(hfx.1 hk).1
   rw [Vof,this]
   unfold Qu
   by_cases e:(stgA s a).prize=kd
   · rw [if_pos (by omega),if_pos e]
   · rw [if_neg e]; split <;> rfl
 · have:=(hfx.2.1 hk).1
   rw [Vof,this]
   have hs:∀ ts:List Trn,(∀ t ∈ ts,t ∈ (stgA s a).turns)→sumW ts (Xi (Qb s) (Int.toNat a) (valA (Qb s) (Qu kd) fun i _=>Qx plan i).1 ts)=(ts.map fun t=>t.w*(Vof s plan kd t.to*(Mul s a / Mea s t.to))).sum:=by
    intro ts
    induction ts with
    | nil=>intro _; rfl
    | cons t ts ih =>
     intro hin
     have e:=td t (hin t (by simp))
     rw [List.map_cons,List.sum_cons,← ih (fun t ht=>hin t (by simp [ht])),← e]
     rfl
   exact hs _ fun t ht=>ht
 · obtain ⟨t,ht,e,-,-⟩:=h.nP h0 h1 k4 k1
   obtain ⟨q1,q2⟩:=hfx.2.2 k4 k1
   rw [Vof,q1,q2]
   have ea:((Int.toNat a:Nat):Int)=a:=by omega
   show (Xi _ _ _ _).getD (Int.toNat (Qx plan ((Int.toNat a:Nat):Int))) 0=_
   rw [ea,e,← td t (List.mem_of_getElem? ht)]
   have:(Xi (Qb s) (Int.toNat a) (valA (Qb s) (Qu kd) fun i _=>Qx plan i).1 (stgA s a).turns)[Int.toNat (Qx plan a)]?=some (Vof s plan kd t.to*Int.tdiv (Mul s a) (Mea s t.to)):=by
    rw [Xi,List.getElem?_map,ht]; rfl
   exact Xv this
theorem part_mul {V M c e:Int} (hM:0<M) (hc:M∣c) (he:e∣M) (hpos:0<e):V*(M / e)*(c / M)=V*(c / e)∧e∣c:=by
 obtain ⟨x,rfl⟩:=hc
 obtain ⟨y,rfl⟩:=he
 rw [Int.mul_ediv_cancel_left _ (by omega),Int.mul_ediv_cancel_left _ (by omega),Int.mul_assoc e y x,Int.mul_ediv_cancel_left _ (by omega),Int.mul_assoc]
 exact ⟨rfl,⟨y*x,rfl⟩⟩
theorem WU (h:DOk s plan) (hkd:0≤kd):∀ {n:Nat} {a P:Int},0≤a→a<(s.stages.length:Int)→(s.stages.length:Int)≤a+n→Mea s a∣P →
 Mea s (QI s plan n a [])∣P∧Vof s plan kd a*(P / Mea s a)=Vof s plan kd (QI s plan n a [])*(P / Mea s (QI s plan n a []))
 | 0,a,P,h0,h1,h2,hP=>by omega
 | n+1,a,P,h0,h1,h2,hP=>by
  unfold QI
  by_cases k4:(stgA s a).kind=4
  · rw [if_pos k4]; exact ⟨hP,rfl⟩
  · by_cases k1:(stgA s a).kind=1
    · rw [if_neg k4,if_pos k1]; exact ⟨hP,rfl⟩
    · rw [if_neg k4,if_neg k1]
      have hn:=h.nP' h0 h1 k4 k1
      obtain ⟨t,ht,e,-,-⟩:=h.nP h0 h1 k4 k1
      obtain ⟨r1,r2,r3⟩:=h.rel h0 h1
      rw [if_neg k1] at r1
      have hd:=r3 t (List.mem_of_getElem? ht)
      rw [← e] at hd
      rw [r1] at hP ⊢
      obtain ⟨p1,p2⟩:=part_mul (V:=Vof s plan kd (nxtP s plan a)) r2 hP hd (h.mpos (by omega) hn.2)
      obtain ⟨q1,q2⟩:=WU h hkd (n:=n) (a:=nxtP s plan a) (P:=P) (by omega) hn.2 (by omega) p2
      refine ⟨q1,?_⟩
      rw [(h.fix h0 h1 hkd).2.2 k4 k1,p1,q2]
theorem draw_sum {F:Trn→Int}:∀ {ts:List Trn},(∀ t ∈ ts,0≤t.w)→((List.range (Int.toNat (ts.map (·.w)).sum)).map fun (d:Nat)=>F (Vj ts (d:Int))).sum=(ts.map fun t=>t.w*F t).sum
 | [],_=>rfl
 | t :: ts,h=>by
  have hw:=h t (by simp)
  have ih:=draw_sum (F:=F) (ts:=ts) fun t ht=>h t (by simp [ht])
  have hs:0≤(ts.map (·.w)).sum:=(yx (w:=ts.map (·.w)) fun x hx=>by
   obtain ⟨t',ht',rfl⟩:=List.mem_map.1 hx
   exact h t' (by simp [ht'])).1
  rw [List.map_cons,List.sum_cons,show Int.toNat (t.w+(ts.map (·.w)).sum)=Int.toNat t.w+Int.toNat (ts.map (·.w)).sum by omega,List.range_add,List.map_append,List.sum_append,List.map_cons,List.sum_cons]
  congr 1
  · have:∀ n:Nat,n≤Int.toNat t.w→((List.range n).map fun (d:Nat)=>F (Vj (t :: ts) (d:Int))).sum=(n:Int)*F t:=by
     intro n
     induction n with
     | zero=>intro _; simp
     | succ n ihn =>
      intro hn
      rw [List.range_succ,List.map_append,List.sum_append,ihn (by omega)]
      simp only [List.map_cons,List.map_nil,List.sum_cons,List.sum_nil]
      rw [Vj,if_neg (by omega),show ((n+1:Nat):Int)=(n:Int)+1 by omega,Int.add_mul]; omega
    rw [this _ (Nat.le_refl _),Int.toNat_of_nonneg hw]
  · rw [List.map_map,← ih]
    congr 1
    refine List.map_congr_left fun d _=>?_
    simp only [Function.comp]
    rw [Vj,if_pos (by omega)]
    congr 2; omega
theorem val_draw (h:DOk s plan) (hkd:0≤kd) {a P:Int} (h0:0≤a) (h1:a<(s.stages.length:Int)) (hk:(stgA s a).kind=1) (hP:Mea s a∣P) :
 Vof s plan kd a*(P / Mea s a)=((List.range (Int.toNat (totI (stgA s a)))).map fun (d:Nat)=>Vof s plan kd (nxtD s a (d:Int))*((P / totI (stgA s a)) / Mea s (nxtD s a (d:Int)))).sum ∧
 (∀ d:Int,0≤d→d<totI (stgA s a)→Mea s (nxtD s a d)∣P / totI (stgA s a)):=by
 obtain ⟨r1,r2,r3⟩:=h.rel h0 h1
 rw [if_pos hk] at r1
 have ht:=h.tot h0 h1 hk
 have hi:=Vp h0 h1
 have hto:=XA hi (h.forms _ (by omega))
 have hw:∀ t ∈ (stgA s a).turns,0≤t.w:=fun t htm=>((YI hi (h.forms _ (by omega))).1.2 t htm).1
 rw [r1] at hP ⊢
 obtain ⟨c,rfl⟩:=hP
 have e1:Mul s a*totI (stgA s a)*c / (Mul s a*totI (stgA s a))=c:=Int.mul_ediv_cancel_left _ (by have:=Int.mul_pos r2 ht.1; omega)
 have e2:Mul s a*totI (stgA s a)*c / totI (stgA s a)=Mul s a*c:=by
  rw [Int.mul_comm (Mul s a),Int.mul_assoc,Int.mul_ediv_cancel_left _ (by omega)]
 rw [e1,e2]
 refine ⟨?_,fun d hd0 hd1=>?_⟩
 · have:=draw_sum (F:=fun t=>Vof s plan kd t.to*(Mul s a*c / Mea s t.to)) hw
   have e3:((List.range (Int.toNat (totI (stgA s a)))).map fun (d:Nat)=>Vof s plan kd (nxtD s a (d:Int))*(Mul s a*c / Mea s (nxtD s a (d:Int)))).sum=((stgA s a).turns.map fun t=>t.w*(Vof s plan kd t.to*(Mul s a*c / Mea s t.to))).sum:=this
   rw [e3,(h.fix h0 h1 hkd).2.1 hk]
   have:∀ ts:List Trn,(∀ t ∈ ts,t ∈ (stgA s a).turns)→(ts.map fun t=>t.w*(Vof s plan kd t.to*(Mul s a / Mea s t.to))).sum*c=(ts.map fun t=>t.w*(Vof s plan kd t.to*(Mul s a*c / Mea s t.to))).sum:=by
    intro ts
    induction ts with
    | nil=>intro _; simp
    | cons t ts ih =>
     intro hin
     rw [List.map_cons,List.sum_cons,Int.add_mul,ih (fun t ht=>hin t (by simp [ht])),List.map_cons,List.sum_cons]
     congr 1
     have htm:=hin t (by simp)
     have hp:=h.mpos (a:=t.to) (hto t htm).2.2 (by have:=(hto t htm).2.1; omega)
     obtain ⟨y,hy⟩:=r3 t htm
     rw [hy,Int.mul_ediv_cancel_left _ (by omega),Int.mul_assoc (Mea s t.to),Int.mul_ediv_cancel_left _ (by omega)]
     simp only [Int.mul_assoc]
   exact this _ fun t ht=>ht
 · have hm:=VE hd0 hd1
   exact Int.dvd_trans (r3 _ hm) ⟨c,rfl⟩
end
/-! ### What 'lists' counts -/
def LS (L:List Int→Int→Int→Int × Int) (ds:List Int) (q b:Int):Nat→Int × Int
 | 0=>(0,b)
 | k+1=>((LS L ds q b k).1+(L (ds++[(k:Int)]) q (LS L ds q b k).2).1,(L (ds++[(k:Int)]) q (LS L ds q b k).2).2)
def QQ (s:Stl) (plan ds:List Int):Int:=QI s plan s.stages.length 0 ds
def LF (s:Stl) (plan:List Int) (kd:Int):Nat→List Int→Int→Int→Int × Int
 | 0,_,_,b=>(0,b - 1)
 | f+1,ds,part,b=>if b - 1<0 then (0,b - 1) else
  if (stgA s (QQ s plan ds)).kind=4 then (if (stgA s (QQ s plan ds)).prize=kd then part else 0,b - 1)
  else LS (LF s plan kd f) ds (Int.tdiv part (totI (stgA s (QQ s plan ds)))) (b - 1) (Int.toNat (totI (stgA s (QQ s plan ds))))
theorem LS_bd {L:List Int→Int→Int→Int × Int} {ds:List Int} {q b:Int} (hq:0≤q) (hL:∀ ds' b',(L ds' q b').2≤b' - 1∧0≤(L ds' q b').1∧(L ds' q b').1≤q) :
 ∀ k:Nat,(LS L ds q b k).2≤b - k∧0≤(LS L ds q b k).1∧(LS L ds q b k).1≤(k:Int)*q
 | 0=>by simp [LS]
 | k+1=>by
  have ih:=LS_bd hq hL (ds:=ds) (b:=b) k
  have hl:=hL (ds++[(k:Int)]) (LS L ds q b k).2
  simp only [LS]
  have:((k+1:Nat):Int)*q=(k:Int)*q+q:=by rw [show ((k+1:Nat):Int)=(k:Int)+1 by omega,Int.add_mul]; omega
  omega
theorem LF_bd {s:Stl} {plan:List Int} {kd:Int}:∀ (f:Nat) (ds:List Int) (part b:Int),0≤part→(LF s plan kd f ds part b).2≤b - 1∧0≤(LF s plan kd f ds part b).1∧(LF s plan kd f ds part b).1≤part
 | 0,ds,part,b,hp=>by simp [LF]; omega
 | f+1,ds,part,b,hp=>by
  unfold LF
  split
  · simp; omega
  · split
    · split <;> simp <;> omega
    · by_cases ht:0<totI (stgA s (QQ s plan ds))
      · have hq:0≤Int.tdiv part (totI (stgA s (QQ s plan ds))):=Int.tdiv_nonneg hp (by omega)
        have:=LS_bd hq (L:=LF s plan kd f) (ds:=ds) (b:=b - 1) (fun ds' b'=>LF_bd f ds' _ b' hq) (Int.toNat (totI (stgA s (QQ s plan ds))))
        have e:((Int.toNat (totI (stgA s (QQ s plan ds))):Nat):Int)*Int.tdiv part (totI (stgA s (QQ s plan ds)))≤part:=by
         rw [Int.toNat_of_nonneg (by omega),Int.tdiv_eq_ediv_of_nonneg hp]
         exact Int.mul_ediv_self_le (by omega)
        omega
      · rw [show Int.toNat (totI (stgA s (QQ s plan ds)))=0 by omega]
        simp [LS]; omega
theorem LS_lo {L:List Int→Int→Int→Int × Int} {ds:List Int} {q b c:Int} (hb:0≤b) (hc:0≤c) (hL:∀ ds' b',(0≤b'→-1 - c≤(L ds' q b').2)∧(b'<0→b' - 1≤(L ds' q b').2)) :
 ∀ k:Nat,-1 - c - k≤(LS L ds q b k).2
 | 0=>by simp [LS]; omega
 | k+1=>by
  have ih:=LS_lo hb hc hL (ds:=ds) k
  have hl:=hL (ds++[(k:Int)]) (LS L ds q b k).2
  simp only [LS]
  by_cases h:0≤(LS L ds q b k).2
  · have:=hl.1 h; omega
  · have:=hl.2 (by omega); omega
theorem LF_lo {s:Stl} {plan:List Int} {kd:Int} (ht:∀ a,totI (stgA s a)≤800):∀ (f:Nat) (ds:List Int) (part b:Int),(0≤b→-1 - 801*(f:Int)≤(LF s plan kd f ds part b).2)∧(b<0→b - 1≤(LF s plan kd f ds part b).2)
 | 0,ds,part,b=>by simp [LF]; omega
 | f+1,ds,part,b=>by
  unfold LF
  refine ⟨fun hb=>?_,fun hb=>?_⟩
  · split
    · simp; omega
    · split
      · split <;> simp <;> omega
      · have:=LS_lo (L:=LF s plan kd f) (ds:=ds) (q:=Int.tdiv part (totI (stgA s (QQ s plan ds)))) (b:=b - 1) (c:=801*(f:Int)) (by omega) (by omega) (fun ds' b'=>LF_lo ht f ds' _ b') (Int.toNat (totI (stgA s (QQ s plan ds))))
        have h8:=ht (QQ s plan ds)
        omega
  · rw [if_pos (by omega)]; exact Int.le_refl _
theorem DOk.tot8 {s:Stl} {plan:List Int} (h:DOk s plan) (a:Int):totI (stgA s a)≤800:=by
 by_cases hl:Int.toNat a<s.stages.length
 · have hi:s.stages[Int.toNat a]?=some (stgA s a):=by
    have:s.stages[Int.toNat a]?=some (s.stages[Int.toNat a]'hl):=List.getElem?_eq_getElem hl
    rw [this]; simp [stgA,List.getD,this]
   rcases XC hi (h.forms _ hl) with ⟨-,q,-⟩ | ⟨-,-,-,-,q5,q6⟩
   · simp [totI,q]
   · by_cases hk:(stgA s a).kind=1
     · exact ((YI hi (h.forms _ hl)).2 hk).2
     · have:∀ ts:List Trn,(∀ t ∈ ts,t.w=0)→(ts.map (·.w)).sum=0:=by
        intro ts
        induction ts with
        | nil=>intro _; rfl
        | cons t ts ih=>intro hh; rw [List.map_cons,List.sum_cons,hh t (by simp),ih (fun t ht=>hh t (by simp [ht]))]; rfl
       rw [totI,this _ (q6 hk)]; omega
 · rw [stgA,List.getD,List.getElem?_eq_none (by omega)]; simp [totI]
/-- If the budget was enough,the lists of draws have together what the stage is worth. -/
theorem LF_val {s:Stl} {plan:List Int} {kd:Int} (h:DOk s plan) (hkd:0≤kd):∀ (f:Nat) (ds:List Int) (part b:Int),XX s plan s.stages.length 0 ds→Mea s (QQ s plan ds)∣part→0≤part→b≤f→0≤(LF s plan kd f ds part b).2 →
 (LF s plan kd f ds part b).1=Vof s plan kd (QQ s plan ds)*(part / Mea s (QQ s plan ds))
 | 0,ds,part,b,hg,hP,hp,hb,h2=>by simp [LF] at h2; omega
 | f+1,ds,part,b,hg,hP,hp,hb,h2=>by
  have hlen:=h.len
  obtain ⟨⟨w0,w1⟩,wk⟩:=WC h (by omega) (by omega) hg
  rw [show QI s plan s.stages.length 0 ds=QQ s plan ds from rfl] at w0 w1 wk
  unfold LF at h2 ⊢
  by_cases hb1:b - 1<0
  · rw [if_pos hb1] at h2; simp at h2; omega
  · rw [if_neg hb1] at h2 ⊢
    by_cases k4:(stgA s (QQ s plan ds)).kind=4
    · rw [if_pos k4,(h.fix w0 w1 hkd).1 k4,h.mend w0 w1 k4]
      split <;> simp
    · rw [if_neg k4] at h2 ⊢
      have k1:=wk.resolve_left k4
      have ht:=h.tot w0 w1 k1
      obtain ⟨v1,v2⟩:=val_draw h hkd w0 w1 k1 hP
      have hq:Int.tdiv part (totI (stgA s (QQ s plan ds)))=part / totI (stgA s (QQ s plan ds)):=Int.tdiv_eq_ediv_of_nonneg hp
      have hq0:0≤part / totI (stgA s (QQ s plan ds)):=Int.ediv_nonneg hp (by omega)
      rw [hq] at h2 ⊢
      rw [v1]
      have mono:∀ k:Nat,(LS (LF s plan kd f) ds (part / totI (stgA s (QQ s plan ds))) (b - 1) (k+1)).2<(LS (LF s plan kd f) ds (part / totI (stgA s (QQ s plan ds))) (b - 1) k).2:=fun k=>by
       have:=(LF_bd (s:=s) (plan:=plan) (kd:=kd) f (ds++[(k:Int)]) (part / totI (stgA s (QQ s plan ds))) (LS (LF s plan kd f) ds (part / totI (stgA s (QQ s plan ds))) (b - 1) k).2 hq0).1
       simp only [LS]; omega
      have all:∀ k:Nat,k≤Int.toNat (totI (stgA s (QQ s plan ds)))→0≤(LS (LF s plan kd f) ds (part / totI (stgA s (QQ s plan ds))) (b - 1) k).2 →
       (LS (LF s plan kd f) ds (part / totI (stgA s (QQ s plan ds))) (b - 1) k).1=((List.range k).map fun (d:Nat)=>Vof s plan kd (nxtD s (QQ s plan ds) (d:Int))*((part / totI (stgA s (QQ s plan ds))) / Mea s (nxtD s (QQ s plan ds) (d:Int)))).sum:=by
       intro k
       induction k with
       | zero=>intro _ _; simp [LS]
       | succ k ih =>
        intro hk h0
        have hm:=mono k
        rw [List.range_succ,List.map_append,List.sum_append,← ih (by omega) (by omega)]
        simp only [List.map_cons,List.map_nil,List.sum_cons,List.sum_nil]
        have hd1:(k:Int)<totI (stgA s (QQ s plan ds)):=by omega
        have hn:=h.nD w0 w1 (by omega) hd1
        obtain ⟨g1,g2⟩:=YU h (n:=s.stages.length) (m:=s.stages.length) (a:=0) (ds:=ds) (d:=(k:Int)) (by omega) (by omega) (by omega) hg k1 (by omega) hd1 (by
         show (s.stages.length:Int)≤nxtD s (QQ s plan ds) _+_; omega)
        have g2:QQ s plan (ds++[(k:Int)])=QI s plan s.stages.length (nxtD s (QQ s plan ds) (k:Int)) []:=g2
        obtain ⟨u1,u2⟩:=WU h hkd (n:=s.stages.length) (a:=nxtD s (QQ s plan ds) (k:Int)) (P:=part / totI (stgA s (QQ s plan ds))) (by omega) hn.2 (by omega) (v2 _ (by omega) hd1)
        rw [← g2] at u1 u2
        have hb':=(LS_bd hq0 (L:=LF s plan kd f) (ds:=ds) (b:=b - 1) (fun ds' b'=>LF_bd f ds' _ b' hq0) k).1
        have:=LF_val h hkd f (ds++[(k:Int)]) (part / totI (stgA s (QQ s plan ds))) _ g1 u1 hq0 (by omega) h0
        rw [u2]
        simp only [LS]
        rw [this]; omega
      exact all _ (Nat.le_refl _) h2
end Go.Proofs.Ytfgmlaeikcfpbaa
namespace Ax
open Go
section
variable {P:Program} {E:Env} {K K':List Item} {st st':St}
/-! ### The frame of a deferred closure -/
def EndedK (P:Program) (f:FuncId) (cs:List Frame) (Post:Value→World→Prop) (m:Machine):Prop :=
 ∃ v w' fr,m=lone fr cs w'∧fr.kind=.deferred∧fr.going P w' (.returned v)∧Post v w'
structure LentKE (P:Program) (f:FuncId) (gA:List AV) (res:AV) (bs2:List Blk) (E:Env):Prop where
 ro:E.b.roundOf=none
 kind:E.b.kind=.deferred
 fn:E.b.fn=f
 gA:E.gA=gA
 df:E.df=[]
 fin:E.Fin=EndedK P f E.cs (Left E.Z0 E.M E.w0 E.Cb res bs2)
theorem LentKE.nogh {f:FuncId} {k g:Nat} {res:AV} {bs2:List Blk} (hE:LentKE P f [.sl k g 0 0 1] res bs2 E) {m:Nat} (h:Nat.ble (k+1) m=true):refsBelows m E.gA=true:=by
 rw [hE.gA]
 have:=Nat.le_of_ble_eq_true h
 simp [refsBelows,QU]; omega
/-! ### The frame that has deferred -/
structure LentDE (P:Program) (f:FuncId) (g0:List AV) (clo:AV) (res:AV) (bs2:List Blk) (E:Env):Prop where
 ro:E.b.roundOf=none
 kind:E.b.kind=.normal
 fn:E.b.fn=f
 gA:E.gA=g0++[clo]
 df:∃ cf d,E.gV.getLast?=some cf∧(∀ w,(Deferred.ofValue cf #[]).run P w=.ok d w)∧E.df=[d]
 fin:E.Fin=Wh P f E.cs (Left E.Z0 E.M E.w0 E.Cb res bs2)
 low:∀ n,refsBelows n g0=true→∀ k,n≤k→E.Cb.β k=.absent∧E.Cb.γ k=0
theorem LentDE.nogh {f:FuncId} {k g fi k2 g2 o2:Nat} {res:AV} {bs2:List Blk} (hE:LentDE P f [.sl k g 0 0 1] (.clos fi [] [.ptr k2 g2 o2]) res bs2 E) {m:Nat} (h:(Nat.ble (k+1) m && Nat.ble (k2+1) m)=true):refsBelows m E.gA=true:=by
 rw [hE.gA]
 rw [Bool.and_eq_true] at h
 have h1:=Nat.le_of_ble_eq_true h.1
 have h2:=Nat.le_of_ble_eq_true h.2
 simp [refsBelows,QU]; omega
/-! ### What comes back in new memory -/
structure PureNE (P:Program) (f:FuncId) (res:AV) (E:Env):Prop where
 ro:E.b.roundOf=none
 kind:E.b.kind=.normal
 fn:E.b.fn=f
 nm:∀ b,¬ E.M b
 gA:E.gA=[]
 fin:E.Fin=(Wh P f E.cs fun v w'=>VR (Zn E.w0 w') w' C0 res v∧Fr E.w0 (fun _=>False) w')
 cb:E.Cb=C0
 df:E.df=[]
theorem PureNE.nogh {f:FuncId} {res:AV} (hE:PureNE P f res E) (m:Nat):refsBelows m E.gA=true:=by rw [hE.gA]; rfl
theorem VR.layN {Z Z0 M:Nat→Prop} {w0 w:World} {C:Ctx} {blks:List Blk} (hm:Mem Z0 M w0 C Z blks w) {k g off len sz:Nat} {b:Blk} {c:Value} (hb:blks[k]?=some b) (hl:b.live=true) (hz:b.sz ≠ 0) (hf:b.flat=true) (hg:g=b.gen) (hsc:∀ x ∈ b.cells,Yn x=true)
 (h:VR Z w C (.sl k g off len sz) c) {C':Ctx}:VR (fun c=>∃ o,C.β k=.loc c o) w C' (.rsl b.cells off len) c:=by
 have hok:=sl_at hm hb hg h
 obtain ⟨hk,h1⟩:=hm.blk k b hb hl
 unfold SlOk at hok
 split at hok
 · rename_i bl o hβ
   obtain ⟨a,cap,rfl,hlc,ha,-⟩:=hok
   simp only [hβ] at h1
   obtain ⟨arr,e,hh,hsz,hc⟩:=h1.cells hz
   by_cases hlen:len=0
   · subst hlen; exact .rsl0
   · obtain rfl:=ha (by omega)
     refine .rsl (fun i=>arr.getD (o+i) undef) ⟨o,hβ⟩ hlc (fun i hi=>?_) hk (fun i c hi=>?_)
     · rw [Yi hh]; simp [Array.getD,show o+i<arr.size by omega]
     · obtain ⟨v,h2,h3⟩:=hc i c hi
       simp only [hf,if_true] at h3
       have:arr.getD (o+i) undef=v:=by
        have hlt:=(Array.getElem?_eq_some_iff.1 h2).1
        simp [Array.getD,hlt]; exact (Array.getElem?_eq_some_iff.1 h2).2
       show VR _ w C0 c (arr.getD (o+i) undef)
       rw [this]
       exact VL (hsc c (List.mem_of_getElem? hi)) h3
 · obtain ⟨rfl,a,rfl⟩:=hok
   exact .rsl0
 · exact hok.elim
end
end Ax
namespace Ax
open Go
section
variable {P:Program} {E:Env} {K K':List Item} {st st':St}
def cutOk (n:Nat) (blks:List Blk):Bool:=(blks.take n).all fun b=>!b.live || b.flat || refsBelows n (bif b.sz == 0 then b.cells.take 1 else b.cells)
theorem Mem.cut {Z0 M Z:Nat→Prop} {w0 w:World} {C:Ctx} {blks:List Blk} {n:Nat} (hm:Mem Z0 M w0 C Z blks w) (h2:cutOk n blks=true):Mem Z0 M w0 (C.cut n) Z (blks.take n) w:=by
 have hget:∀ {k:Nat} {b:Blk},(blks.take n)[k]?=some b→k<n∧blks[k]?=some b:=by
  intro k b hb
  rw [List.getElem?_take] at hb
  split at hb
  · exact ⟨‹_›,hb⟩
  · cases hb
 refine ⟨fun k b hb hl=>?_,fun k b hb=>?_,fun k b hb hd=>?_,fun k hk=>?_,fun k k' c o o' e1 e2=>?_,fun k c o e1=>?_,hm.zlt,hm.z0,hm.zsub,hm.frame⟩
 · obtain ⟨hkn,hb'⟩:=hget hb
   obtain ⟨q1,q2⟩:=hm.blk k b hb' hl
   refine ⟨q1,?_⟩
   simp only [Ctx.cut,hkn,if_true]
   cases hs:C.β k with
   | absent=>simp [hs] at q2
   | unborn=>simp only [hs] at q2 ⊢; exact q2
   | loc blk o =>
    simp only [hs] at q2 ⊢
    refine q2.next1 rfl (fun c v h=>h) fun hf c v hc s2=>?_
    have:=List.all_eq_true.1 h2 b (List.mem_of_getElem? hb)
    simp only [hl,hf,Bool.not_true,Bool.false_or] at this
    obtain ⟨i,hi⟩:=List.getElem?_of_mem hc
    exact s2.cut (QS this hi)
 · obtain ⟨hkn,hb'⟩:=hget hb
   simp only [Ctx.cut,hkn,if_true]; exact hm.gen k b hb'
 · obtain ⟨hkn,hb'⟩:=hget hb
   simp only [Ctx.cut,hkn,if_true]; exact hm.dd k b hb' hd
 · simp only [List.length_take] at hk
   simp only [Ctx.cut]
   by_cases hkn:k<n
   · simp only [hkn,if_true]; exact hm.dom k (by omega)
   · simp [hkn]
 · simp only [Ctx.cut] at e1 e2
   split at e1 <;> split at e2 <;> first | exact hm.inj k k' c o o' e1 e2 | cases e1 | cases e2
 · simp only [Ctx.cut] at e1
   split at e1
   · exact hm.own k c o e1
   · cases e1
/-! ### Nil slices in a block's cells,seen as empty ones -/
def LeD:List AV→List AV→Prop
 | [],[]=>True
 | x :: xs,y :: ys=>(x=y ∨ (x=.nilSl∧y=.rsl [] 0 0))∧LeD xs ys
 | _,_=>False
theorem LeD.refl:∀ (a:List AV),LeD a a
 | []=>trivial
 | _ :: a=>⟨.inl rfl,LeD.refl a⟩
theorem LeD.app:∀ {a b c d:List AV},LeD a b→LeD c d→LeD (a++c) (b++d)
 | [],[],_,_,_,h=>h
 | _ :: _,_ :: _,_,_,h1,h2=>⟨h1.1,LeD.app h1.2 h2⟩
theorem LeD.length:∀ {a b:List AV},LeD a b→b.length=a.length
 | [],[],_=>rfl
 | _ :: _,_ :: _,h=>by simp [LeD.length h.2]
theorem LeD.get:∀ {a b:List AV} {i:Nat} {y:AV},LeD a b→b[i]?=some y→∃ x,a[i]?=some x∧(x=y ∨ (x=.nilSl∧y=.rsl [] 0 0))
 | [],[],i,y,_,h=>by simp at h
 | x :: a,z :: b,0,y,h,hi=>by simp at hi; subst hi; exact ⟨x,rfl,h.1⟩
 | x :: a,z :: b,i+1,y,h,hi=>by
  obtain ⟨x',h1,h2⟩:=LeD.get h.2 (by simpa using hi)
  exact ⟨x',by simpa using h1,h2⟩
/-! ### A segment whose blocks hold symbolic rows beside references -/
mutual
theorem refsBelow_nr {n:Nat}:∀ {v:AV},Xr v=true→QU n v=true
 | .ptr ..,h=>by simp [Xr] at h
 | .sl ..,h=>by simp [Xr] at h
 | .mp ..,h=>by simp [Xr] at h
 | .agg cs,h=>by simp only [Xr,QU] at h ⊢; exact refsBelows_nr h
 | .tup cs,h=>by simp only [Xr,QU] at h ⊢; exact refsBelows_nr h
 | .clos _ a b,h=>by
  simp only [Xr,QU,Bool.and_eq_true] at h ⊢
  exact ⟨refsBelows_nr h.1,refsBelows_nr h.2⟩
 | .bool ..,_=>rfl
 | .int ..,_=>rfl
 | .nilPtr,_=>rfl
 | .rptr ..,_=>rfl
 | .nilSl,_=>rfl
 | .rsl ..,_=>rfl
 | .nilFunc,_=>rfl
 | .rmap ..,_=>rfl
 | .opq ..,_=>rfl
 | .junk,_=>rfl
theorem refsBelows_nr {n:Nat}:∀ {cs:List AV},noRefs cs=true→refsBelows n cs=true
 | [],_=>rfl
 | c :: cs,h=>by
  simp only [noRefs,refsBelows,Bool.and_eq_true] at h ⊢
  exact ⟨refsBelow_nr h.1,refsBelows_nr h.2⟩
end
/-! ### A call that turns one block of the caller's,in a region whose order is drawn -/
theorem Yc {fv:AV} {args:List AV} {k:Nat} {b b':Blk} {res:AV} (h:LentF P (ren (fun j=>[k].idxOf j) fv) (rens (fun j=>[k].idxOf j) args) [b] res [b'])
 (hrf:Ya (fun j=>[k].contains j) fv=true) (hra:refsIns (fun j=>[k].contains j) args=true) (hfl:b.flat=true) (hfl':b'.flat=true) (hg:b'.gen=b.gen) (hres:Xr res=true):PureU P fv args k b b' res:=by
 intro Z0 M w0 w C Z blks cf cargs hm hb hf ha
 have hl:Ax.lend (fun j=>[k].idxOf j) (fun j=>[k].contains j) blks [k]=some [b]:=by simp [lend,hb,hfl,renB]
 obtain ⟨hm1,hρ,hcon⟩:=hm.lend (ρ:=[k]) rfl hl
 have hargs:VRs Z w (subC C [k]) (rens (fun j=>[k].idxOf j) args) cargs.toList:=by
  refine ⟨by rw [Xn]; exact ha.1,fun j c v p q=>?_⟩
  rw [Yb,Option.map_eq_some_iff] at p
  obtain ⟨c0,p,rfl⟩:=p
  exact (ha.2 j c0 v p q).ren hcon (XO hra p)
 obtain ⟨d,f,args',r1,r2,r3⟩:=h Z w (subC C [k]) cf cargs hm1 (hf.ren hcon hrf) hargs
 refine ⟨d,f,args',r1,r2,r3.mono ?_⟩
 rintro e w' ⟨v,C1,Z1,rfl,hbase,hm2,hv⟩
 obtain ⟨hm3,hevo,hout⟩:=hm.given (ρ:=[k]) rfl hρ (by simp) hbase hm2
 have e1:Xf blks [k] ([b'].map (renB (outN blks.length [k])))++([b'].drop [k].length).map (renB (outN blks.length [k]))=blks.set k b':=by simp [Xf,renB,hfl']
 rw [e1] at hm3
 refine ⟨v,rfl,XY C C1 blks.length [k],Z1,hevo.le,⟨hevo.zsub,hevo.same,fun j blk o arr e hb' ha'=>hevo.rows j blk o arr e hb' ?_ ha'⟩,hm3,hv.ctx hres⟩
 have hkl:=(List.getElem?_eq_some_iff.1 hb).1
 by_cases hj:j=k
 · subst hj
   rw [hm3.gen j b' (by simp [hkl]),hm.gen j b hb,hg]
 · simp only [XY,inN]
   by_cases hjl:j<blks.length
   · simp [hjl,hj]
   · rw [(hm.dom j (by omega)).1] at hb'; cases hb'
end
end Ax