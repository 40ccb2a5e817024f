/- A part of the proof: several texts, one behind the other. -/
import Derived.Test.YtemklbioijmjiaaLTopBlockedE
set_option linter.unusedVariables false
set_option linter.unusedSimpArgs false
set_option maxRecDepth 100000
namespace Go.Proofs.Ytemklbioijmjiaa
open Go Ax
open Go.Proofs
theorem yI {k q:K2}:eqK2 k q=true ↔ k=q:=by
 cases k; cases q; simp [eqK2]
theorem KW (k:K2):eqK2 k k=true:=yI.2 rfl
theorem eqK2_ne {k q:K2} (h:k ≠ q):eqK2 k q=false:=by
 cases hh:eqK2 k q with
 | false=>rfl
 | true=>exact absurd (yI.1 hh) h
instance:DecidableEq K2:=fun a b=>decidable_of_iff (eqK2 a b=true) yI
/-- What stands under a key; 0: nothing does. -/
def nv:List (K2 × Int)→K2→Int
 | [],_=>0
 | e :: l,k=>bif eqK2 k e.1 then e.2 else nv l k
def cutE (S:Int→Bool) (e:K2 × Int):Int:=bif S e.1.a && !S e.1.b then e.2 else 0
/-- All that leads out of a set. -/
def cut (S:Int→Bool):List (K2 × Int)→Int
 | []=>0
 | e :: l=>cutE S e+cut S l
theorem Yz {e:K2 × Int} {l:List (K2 × Int)} {k:K2}:Yq (e :: l) k=(eqK2 k e.1 || Yq l k):=rfl
theorem Qcc:∀ {l:List (K2 × Int)} {k:K2},Yq l k=false→nv l k=0
 | [],k,h=>rfl
 | e :: l,k,h=>by
  rw [Yz,Bool.or_eq_false_iff] at h
  simp only [nv,h.1,cond_false]
  exact Qcc h.2
theorem nv_at:∀ {l:List (K2 × Int)} {k:K2} {i:Nat} {e:K2 × Int},NtAt l k i e→nv l k=e.2
 | [],k,i,e,h=>by have:=h.1; simp at this
 | x :: l,k,0,e,h=>by
  obtain ⟨h1,h2,h3⟩:=h
  simp at h1; subst h1; subst h2
  simp only [nv,KW,cond_true]
 | x :: l,k,i+1,e,h=>by
  obtain ⟨h1,h2,h3⟩:=h
  rw [List.take_succ_cons,Yz,Bool.or_eq_false_iff] at h3
  simp only [nv,h3.1,cond_false]
  exact nv_at ⟨by simpa using h1,h2,h3.2⟩
theorem nt_get:∀ {l:List (K2 × Int)} {k:K2},Yq l k=true→∃ i e,NtAt l k i e
 | [],k,h=>by simp [Yq] at h
 | x :: l,k,h=>by
  rw [Yz,Bool.or_eq_true] at h
  by_cases e:eqK2 k x.1=true
  · exact ⟨0,x,by simp,(yI.1 e).symm,by simp [Yq]⟩
  · obtain ⟨i,y,h1,h2,h3⟩:=nt_get (h.resolve_left e)
    refine ⟨i+1,y,by simpa using h1,h2,?_⟩
    rw [List.take_succ_cons,Yz,h3,Bool.or_false]
    simpa using e
theorem nv_pos {l:List (K2 × Int)} {k:K2} (h:0<nv l k):Yq l k=true:=by
 cases hh:Yq l k with
 | true=>rfl
 | false=>rw [Qcc hh] at h; omega
theorem set_nv:∀ {l:List (K2 × Int)} {k:K2} {i:Nat} {e:K2 × Int} (v:Int) (q:K2),NtAt l k i e→nv (l.set i (k,v)) q=if q=k then v else nv l q
 | [],k,i,e,v,q,h=>by have:=h.1; simp at this
 | x :: l,k,0,e,v,q,h=>by
  obtain ⟨h1,h2,h3⟩:=h
  simp at h1; subst h1; subst h2
  simp only [List.set_cons_zero,nv]
  by_cases hq:q=x.1
  · subst hq; rw [KW,cond_true,if_pos rfl]
  · rw [eqK2_ne hq,cond_false,cond_false,if_neg hq]
 | x :: l,k,i+1,e,v,q,h=>by
  obtain ⟨h1,h2,h3⟩:=h
  rw [List.take_succ_cons,Yz,Bool.or_eq_false_iff] at h3
  have ih:=set_nv (l:=l) (k:=k) (i:=i) (e:=e) v q ⟨by simpa using h1,h2,h3.2⟩
  simp only [List.set_cons_succ,nv,ih]
  by_cases hq:q=k
  · subst hq; rw [h3.1,cond_false,if_pos rfl,if_pos rfl]
  · rw [if_neg hq,if_neg hq]
theorem app_nv:∀ {l:List (K2 × Int)} {k:K2} (v:Int) (q:K2),Yq l k=false→nv (l++[(k,v)]) q=if q=k then v else nv l q
 | [],k,v,q,h=>by
  simp only [List.nil_append,nv]
  by_cases hq:q=k
  · subst hq; rw [KW,cond_true,if_pos rfl]
  · rw [eqK2_ne hq,cond_false,if_neg hq]
 | x :: l,k,v,q,h=>by
  rw [Yz,Bool.or_eq_false_iff] at h
  have ih:=app_nv (l:=l) (k:=k) v q h.2
  simp only [List.cons_append,nv,ih]
  by_cases hq:q=k
  · subst hq; rw [h.1,cond_false,if_pos rfl,if_pos rfl]
  · rw [if_neg hq,if_neg hq]
theorem set_cut (S:Int→Bool):∀ {l:List (K2 × Int)} {i:Nat} {e y:K2 × Int},l[i]?=some e→cut S (l.set i y)=cut S l - cutE S e+cutE S y
 | [],i,e,y,h=>by simp at h
 | x :: l,0,e,y,h=>by
  simp at h; subst h
  simp only [List.set_cons_zero,cut]; omega
 | x :: l,i+1,e,y,h=>by
  have ih:=set_cut S (l:=l) (i:=i) (e:=e) (y:=y) (by simpa using h)
  simp only [List.set_cons_succ,cut,ih]; omega
theorem QcF (S:Int→Bool):∀ {l l':List (K2 × Int)},cut S (l++l')=cut S l+cut S l'
 | [],l'=>by simp [cut]
 | x :: l,l'=>by
  simp only [List.cons_append,cut,QcF S (l:=l)]; omega
def NetI (V:Int) (n:List (K2 × Int)):Prop:=∀ e ∈ n,0≤e.2∧e.2≤V
theorem NetI.cut0 {S:Int→Bool} {V:Int}:∀ {n:List (K2 × Int)},NetI V n→0≤cut S n
 | [],h=>by simp [cut]
 | x :: l,h=>by
  have ih:=NetI.cut0 (S:=S) (n:=l) fun e he=>h e (List.mem_cons_of_mem _ he)
  have h0:=h x List.mem_cons_self
  have:0≤cutE S x:=by
   unfold cutE
   cases (S x.1.a && !S x.1.b) with
   | true=>exact h0.1
   | false=>exact Int.le_refl _
  simp only [cut]; omega
theorem NetI.nv {V:Int} (hV:0≤V):∀ {n:List (K2 × Int)},NetI V n→∀ k,0≤nv n k∧nv n k≤V
 | [],h,k=>⟨Int.le_refl _,hV⟩
 | x :: l,h,k=>by
  have ih:=NetI.nv hV (n:=l) (fun e he=>h e (List.mem_cons_of_mem _ he)) k
  have h0:=h x List.mem_cons_self
  show 0≤(bif eqK2 k x.1 then x.2 else Ytemklbioijmjiaa.nv l k)∧(bif eqK2 k x.1 then x.2 else Ytemklbioijmjiaa.nv l k)≤V
  cases eqK2 k x.1 with
  | true=>exact h0
  | false=>exact ih
theorem NetI.set {V V':Int} {n:List (K2 × Int)} {i:Nat} {y:K2 × Int} (h:NetI V n) (hv:V≤V') (hy:0≤y.2∧y.2≤V'):NetI V' (n.set i y):=by
 intro e he
 rcases List.mem_or_eq_of_mem_set he with he | he
 · have:=h e he; omega
 · subst he; exact hy
theorem NetI.app {V V':Int} {n:List (K2 × Int)} {y:K2 × Int} (h:NetI V n) (hv:V≤V') (hy:0≤y.2∧y.2≤V'):NetI V' (n++[y]):=by
 intro e he
 rcases List.mem_append.1 he with he | he
 · have:=h e he; omega
 · rw [List.mem_singleton] at he; subst he; exact hy
theorem end_set {α:Type}:∀ (l:List α) (x y:α),(l++[x]).set l.length y=l++[y]
 | [],x,y=>rfl
 | a :: l,x,y=>by simp only [List.cons_append,List.length_cons,List.set_cons_succ,end_set l x y]
/-- One entry is turned. -/
structure Turn (n:List (K2 × Int)) (k:K2) (v:Int) (n':List (K2 × Int)):Prop where
 nv:∀ q,nv n' q=if q=k then v else nv n q
 cut:∀ S,cut S n'=cut S n+bif S k.a && !S k.b then v - Ytemklbioijmjiaa.nv n k else 0
 net:∀ V V',NetI V n→V≤V'→0≤v→v≤V'→NetI V' n'
theorem turn_set {n:List (K2 × Int)} {k:K2} {i:Nat} {e:K2 × Int} (v:Int) (h:NtAt n k i e):Turn n k v (n.set i (k,v)):=by
 refine ⟨fun q=>set_nv v q h,fun S=>?_,fun V V' h1 h2 h3 h4=>h1.set h2 ⟨h3,h4⟩⟩
 rw [set_cut S h.1,nv_at h]
 have h2:=h.2.1
 subst h2
 simp only [cutE]
 cases (S e.1.a && !S e.1.b) <;> simp only [cond_true,cond_false] <;> omega
theorem turn_app {n:List (K2 × Int)} {k:K2} (x v:Int) (h:Yq n k=false):Turn n k v ((n++[(k,x)]).set n.length (k,v)):=by
 rw [end_set]
 refine ⟨fun q=>app_nv v q h,fun S=>?_,fun V V' h1 h2 h3 h4=>h1.app h2 ⟨h3,h4⟩⟩
 rw [QcF,Qcc h]
 simp only [Ytemklbioijmjiaa.cut,cutE]
 cases (S k.a && !S k.b) <;> simp only [cond_true,cond_false] <;> omega
/-! ### the search's list -/
structure ByI (n0:List (K2 × Int)) (fr:Int) (L:List (Int × Int)):Prop where
 first:L[0]?=some (fr,fr)
 nd:(L.map Prod.fst).Nodup
 rng:∀ e ∈ L,0≤e.1∧e.1≤128
 pre:∀ (j:Nat) (e:Int × Int),0<j→L[j]?=some e→(∃ (i:Nat) (e':Int × Int),i<j∧L[i]?=some e'∧e'.1=e.2)∧0<nv n0 ⟨e.2,e.1⟩
theorem knHas_iff {L:List (Int × Int)} {k:Int}:YS L k=true ↔ k ∈ L.map Prod.fst:=by
 simp only [YS,List.any_eq_true,List.mem_map,beq_iff_eq]
 constructor
 · rintro ⟨e,h1,h2⟩; exact ⟨e,h1,h2.symm⟩
 · rintro ⟨e,h1,h2⟩; exact ⟨e,h1,h2.symm⟩
theorem kn_get:∀ {L:List (Int × Int)} {k:Int},YS L k=true→∃ i e,KnAt L k i e
 | [],k,h=>by simp [YS] at h
 | x :: l,k,h=>by
  have hc:∀ l:List (Int × Int),YS (x :: l) k=((k == x.1) || YS l k):=fun _=>rfl
  rw [hc,Bool.or_eq_true] at h
  by_cases e:(k == x.1)=true
  · exact ⟨0,x,by simp,by simpa using e,by simp [YS]⟩
  · obtain ⟨i,y,h1,h2,h3⟩:=kn_get (h.resolve_left e)
    refine ⟨i+1,y,by simpa using h1,h2,?_⟩
    rw [List.take_succ_cons,hc,h3,Bool.or_false]
    simpa using e
/-- Where keys differ,a key's place is its own. -/
theorem yD {L:List (Int × Int)} (nd:(L.map Prod.fst).Nodup) {i j:Nat} {e e':Int × Int} (hi:L[i]?=some e) (hj:L[j]?=some e') (h:e.1=e'.1):i=j:=by
 have h1:(L.map Prod.fst)[i]?=some e.1:=by rw [List.getElem?_map,hi]; rfl
 have h2:(L.map Prod.fst)[j]?=some e'.1:=by rw [List.getElem?_map,hj]; rfl
 obtain ⟨l1,g1⟩:=List.getElem?_eq_some_iff.1 h1
 obtain ⟨l2,g2⟩:=List.getElem?_eq_some_iff.1 h2
 have pw:=List.pairwise_iff_getElem.1 nd
 rcases Nat.lt_trichotomy i j with q | q | q
 · exact absurd (by rw [g1,g2,h]) (pw i j l1 l2 q)
 · exact q
 · exact absurd (by rw [g1,g2,h]) (pw j i l2 l1 q)
theorem kn_at {L:List (Int × Int)} (nd:(L.map Prod.fst).Nodup) {i:Nat} {e:Int × Int} (hi:L[i]?=some e):KnAt L e.1 i e:=by
 refine ⟨hi,rfl,?_⟩
 cases hh:YS (L.take i) e.1 with
 | false=>rfl
 | true =>
  obtain ⟨j,e',h1,h2,-⟩:=kn_get hh
  have hj:j<i:=by
   have:=(List.getElem?_eq_some_iff.1 h1).1
   rw [List.length_take] at this; omega
  rw [List.getElem?_take,if_pos hj] at h1
  have:=yD nd h1 hi h2.symm
  omega
theorem ByI.one {n0:List (K2 × Int)} {fr:Int} (h0:0≤fr) (h1:fr≤128):ByI n0 fr [(fr,fr)]:=by
 refine ⟨rfl,by simp,fun e he=>?_,fun j e hj he=>?_⟩
 · rw [List.mem_singleton] at he; subst he; exact ⟨h0,h1⟩
 · cases j with
   | zero=>omega
   | succ j=>simp at he
theorem ByI.push {n0:List (K2 × Int)} {fr:Int} {L:List (Int × Int)} (h:ByI n0 fr L) {i:Nat} {u p to:Int} (hu:L[i]?=some (u,p)) (hk:YS L to=false) (h0:0≤to) (h1:to≤128) (hp:0<nv n0 ⟨u,to⟩) :
 ByI n0 fr (L++[(to,u)]):=by
 have hl:0<L.length:=by have:=(List.getElem?_eq_some_iff.1 h.first).1; omega
 have hil:=(List.getElem?_eq_some_iff.1 hu).1
 have hn:to ∉ L.map Prod.fst:=fun hm=>by rw [knHas_iff.2 hm] at hk; cases hk
 refine ⟨by rw [List.getElem?_append_left hl]; exact h.first,?_,fun e he=>?_,fun j e hj he=>?_⟩
 · rw [List.map_append,List.nodup_append]
   refine ⟨h.nd,by simp,fun a ha b hb=>?_⟩
   simp only [List.map_cons,List.map_nil,List.mem_singleton] at hb
   subst hb; exact fun e=>hn (by rw [← e]; exact ha)
 · rcases List.mem_append.1 he with he | he
   · exact h.rng e he
   · rw [List.mem_singleton] at he; subst he; exact ⟨h0,h1⟩
 · by_cases hjl:j<L.length
   · rw [List.getElem?_append_left hjl] at he
     obtain ⟨⟨i',e',a1,a2,a3⟩,a4⟩:=h.pre j e hj he
     exact ⟨⟨i',e',a1,by rw [List.getElem?_append_left (by omega)]; exact a2,a3⟩,a4⟩
   · rw [List.getElem?_append_right (by omega)] at he
     have:j - L.length=0:=by
      cases hq:j - L.length with
      | zero=>rfl
      | succ q=>rw [hq] at he; simp at he
     rw [this] at he
     simp only [List.getElem?_cons_zero,Option.some.injEq] at he
     subst he
     exact ⟨⟨i,(u,p),by omega,by rw [List.getElem?_append_left hil]; exact hu,rfl⟩,hp⟩
theorem ByI.card {n0:List (K2 × Int)} {fr:Int} {L:List (Int × Int)} (h:ByI n0 fr L):L.length≤129:=by
 have:=nodup_leI (n:=129) h.nd fun s hs=>by
  obtain ⟨e,he,rfl⟩:=List.mem_map.1 hs
  have:=h.rng e he
  exact ⟨this.1,by omega⟩
 simpa using this
/-- On the way back: what is not yet gone can still be gone; what the cut has lost. -/
structure BackI (n0:List (K2 × Int)) (L:List (Int × Int)) (V:Int) (j:Nat) (to:Int) (n:List (K2 × Int)):Prop where
 here:∃ p,L[j]?=some (to,p)
 net:NetI (V+1) n
 pos:∀ (i:Nat) (e:Int × Int),0<i→i≤j→L[i]?=some e→0<nv n ⟨e.2,e.1⟩
 top:∀ (i:Nat) (e:Int × Int),i≤j→L[i]?=some e→∀ x,nv n ⟨e.1,x⟩≤V
 cut:∀ S:Int→Bool,cut S n=Ytemklbioijmjiaa.cut S n0+(bif S 128 then 1 else 0) - bif S to then 1 else 0
theorem BackI.start {n0:List (K2 × Int)} {fr p:Int} {L:List (Int × Int)} {V:Int} {j:Nat} (hB:ByI n0 fr L) (hV:0≤V) (hN:NetI V n0) (hj:L[j]?=some (128,p)):BackI n0 L V j 128 n0 :=
 ⟨⟨p,hj⟩,fun e he=>by have:=hN e he; omega,fun i e h0 _ he=>(hB.pre i e h0 he).2,fun i e _ _ x=>(hN.nv hV _).2,fun S=>by omega⟩
theorem BackI.step {n0 n:List (K2 × Int)} {fr to:Int} {L:List (Int × Int)} {V:Int} {j:Nat} (hB:ByI n0 fr L) (hV:0≤V) (h:BackI n0 L V j to n) (hne:¬ to=fr) :
 ∃ (p:Int) (i:Nat) (e':Int × Int),i<j∧L[j]?=some (to,p)∧L[i]?=some e'∧e'.1=p∧¬ p=to∧0<nv n ⟨p,to⟩∧nv n ⟨p,to⟩≤V+1 ∧
  ∀ n1 n2,Turn n ⟨p,to⟩ (nv n ⟨p,to⟩ - 1) n1→(0≤nv n1 ⟨to,p⟩∧nv n1 ⟨to,p⟩≤V)∧(Turn n1 ⟨to,p⟩ (nv n1 ⟨to,p⟩+1) n2→BackI n0 L V i p n2):=by
 obtain ⟨p,hj⟩:=h.here
 have hj0:0<j:=by
  cases j with
  | zero=>rw [hB.first] at hj; simp only [Option.some.injEq,Prod.mk.injEq] at hj; exact absurd hj.1.symm hne
  | succ j=>omega
 obtain ⟨⟨i,e',hij,hi,he⟩,-⟩:=hB.pre j _ hj0 hj
 have he:e'.1=p:=he
 have hp:¬ p=to:=fun q=>by
  have:=yD hB.nd hi hj (by rw [he]; exact q)
  omega
 have hpos:0<nv n ⟨p,to⟩:=h.pos j _ hj0 (Nat.le_refl _) hj
 refine ⟨p,i,e',hij,hj,hi,he,hp,hpos,((h.net.nv (by omega)) _).2,fun n1 n2 t1=>?_⟩
 have hq:(⟨to,p⟩:K2) ≠ ⟨p,to⟩:=fun q=>by cases q; exact hp rfl
 have htp:nv n1 ⟨to,p⟩=nv n ⟨to,p⟩:=by rw [t1.nv,if_neg hq]
 have hn1:NetI (V+1) n1:=t1.net _ _ h.net (Int.le_refl _) (by omega) (by have:=(h.net.nv (by omega) ⟨p,to⟩).2; omega)
 have htop:=h.top j _ (Nat.le_refl _) hj p
 have h0:=(hn1.nv (by omega) ⟨to,p⟩).1
 refine ⟨⟨h0,by rw [htp]; exact htop⟩,fun t2=>⟨⟨e'.2,by rw [hi,← he]⟩,t2.net _ _ hn1 (Int.le_refl _) (by omega) (by rw [htp]; show _≤_; have:nv n ⟨to,p⟩≤V:=htop; omega),fun k e hk0 hki hk=>?_,fun k e hki hk x=>?_,?_⟩⟩
 · have hkj:¬ e.1=to:=fun q=>by
    have:=yD hB.nd hk hj q
    omega
   have hpk:=h.pos k e hk0 (by omega) hk
   rw [t2.nv]
   split
   · omega
   · rw [t1.nv,if_neg (fun q=>by cases q; exact hkj rfl)]; exact hpk
 · have hkj:¬ e.1=to:=fun q=>by
    have:=yD hB.nd hk hj q
    omega
   have hpk:=h.top k e (by omega) hk x
   rw [t2.nv,if_neg (fun q=>by cases q; exact hkj rfl),t1.nv]
   split
   · rename_i q; rw [q] at hpk; omega
   · exact hpk
 · intro S
   have c1:=t1.cut S
   have c2:=t2.cut S
   have c0:=h.cut S
   rw [c2,c1,c0]
   simp only
   cases hSp:S p <;> cases hSt:S to <;> simp <;> omega
/-- What 'augment' makes of a net,and whether it has found a way. -/
def augI (V:Int) (n:List (K2 × Int)) (fr:Int) (p:Bool × List (K2 × Int)):Prop :=
 (p.1=true→NetI (V+1) p.2∧∀ S:Int→Bool,cut S p.2=cut S n+(bif S 128 then 1 else 0) - bif S fr then 1 else 0)∧(p.1=false→p.2=n)
theorem BackI.done {n0 n:List (K2 × Int)} {L:List (Int × Int)} {V:Int} {j:Nat} {fr:Int} (h:BackI n0 L V j fr n):augI V n0 fr (true,n) :=
 ⟨fun _=>⟨h.net,h.cut⟩,fun e=>(by cases e)⟩
theorem augI_no {V:Int} {n:List (K2 × Int)} {fr:Int}:augI V n fr (false,n):=⟨fun e=>(by cases e),fun _=>rfl⟩
structure AugIn (V:Int) (n:List (K2 × Int)) (fr:Int):Prop where
 net:NetI V n
 v0:0≤V
 v1:V≤1000
 lo:0≤fr
 hi:fr≤128
theorem f93b:Try.f93.body=some (Qd Try.prog 93):=by kernel_rfl
def f93K0 (P:Program):List Item:=kAt 400 [.code (Qd P 93)] [.stop]
def f93S0 (fr:Int) (n:List (K2 × Int)) (queue:Nat) (v2:List Int) (v1:List (Int × Int)) (g2:Nat):St:=⟨([.mp 0 0 false,.int .i64 fr,J,J,J,.mp 1 0 false,.sl 2 g2 (queue*1) (v2.length - queue) 1]++Js 81),[⟨true,0,0,true,(Qo n),false⟩,⟨true,0,0,true,(Xj v1),false⟩,⟨true,g2,1,true,(rowI v2),true⟩]⟩
def f93G0 (E:Env) (fr:Int) (n:List (K2 × Int)) (queue:Nat) (v2:List Int) (v1:List (Int × Int)):Prop:=∀ g2:Nat,G Try.prog E (f93K0 Try.prog) (f93S0 fr n queue v2 v1 g2)
def KG (P:Program):List Item:=kAt 400 [.code (Qd P 93)] [.b true,.stop]
def f93S1 (fr:Int) (n:List (K2 × Int)) (queue:Nat) (v2:List Int) (k:Nat) (v1:List (Int × Int)) (g2:Nat):St:=⟨([.mp 0 0 false,.int .i64 fr,J,J,J,.mp 1 0 false,.sl 2 g2 (queue*1) (v2.length - queue) 1]++jj 17 ([.int .i64 (k:Int)]++Js 63)),[⟨true,0,0,true,(Qo n),false⟩,⟨true,0,0,true,(Xj v1),false⟩,⟨true,g2,1,true,(rowI v2),true⟩]⟩
def Qcq (E:Env) (fr:Int) (n:List (K2 × Int)) (queue:Nat) (v2:List Int) (k:Nat) (v1:List (Int × Int)):Prop:=∀ g2:Nat,G Try.prog E (KG Try.prog) (f93S1 fr n queue v2 k v1 g2)
def f93K2 (P:Program):List Item:=kAt 400 [.code (Qd P 93)] [.b false,.b false,.stop]
def f93S2 (fr:Int) (n:List (K2 × Int)) (v2:List Int) (v1:List (Int × Int)) (to:Int) (v0:List (K2 × Int)) (g2:Nat):St:=⟨([.mp 0 0 false,.int .i64 fr,J,J,J,.mp 1 0 false]++jj 6 ([.int .i64 to]++Js 75)),[⟨true,0,0,true,(Qo v0),false⟩,⟨true,0,0,true,(Xj v1),false⟩,⟨true,g2,1,true,(rowI v2),true⟩]⟩
def f93G2 (E:Env) (fr:Int) (n:List (K2 × Int)) (v2:List Int) (v1:List (Int × Int)) (to:Int) (v0:List (K2 × Int)):Prop:=∀ g2:Nat,G Try.prog E (f93K2 Try.prog) (f93S2 fr n v2 v1 to v0 g2)
theorem p93_start_0 (fr:Int) (n:List (K2 × Int)) {E:Env} {rv:AV} {bs2:List Blk} (hE:LentE Try.prog 93 [.mp 0 0 false] rv bs2 E) (ho:AllP [XK Try.prog 3 (.int .i64 fr) (Xj ([]:List (Int × Int)))])
 (hg:G Try.prog E (f93K0 Try.prog) ⟨([.mp 0 0 false,.int .i64 fr,J,J,J,.mp 1 0 false,.sl 2 0 0 1 1]++Js 81),[⟨true,0,0,true,(Qo n),false⟩,⟨true,0,0,true,((Xj ([]:List (Int × Int)))++[.clos 0 [.int .i64 fr] [.int .i64 fr]]),false⟩,⟨true,0,1,true,[.int .i64 fr],true⟩]⟩):G Try.prog E [.code (Qd Try.prog 93)] ⟨[.mp 0 0 false,.int .i64 fr]++unds (Try.f93.ntmps - 2),[⟨true,0,0,true,(Qo n),false⟩]⟩ :=
 Qe (n:=400) (ds:=[]) (cs:=[]) (live:=[0,1,5,6]) (m:=3) (evs:=[.stop]) (obs:=_) hE.kind (by rw [hE.gA]; kernel_rfl) Qg (by kernel_rfl) ho hg
theorem f93W (fr:Int) (n:List (K2 × Int)) {E:Env} {rv:Bool} {n2:List (K2 × Int)} (hE:LentE Try.prog 93 [.mp 0 0 false] (.bool rv) [⟨true,0,0,true,(Qo n2),false⟩] E)
 (h:((YS ([]:List (Int × Int)) fr)=false∧f93G0 E fr n 0 ([fr]) (([]:List (Int × Int))++[(fr,fr)]))):G Try.prog E [.code (Qd Try.prog 93)] ⟨[.mp 0 0 false,.int .i64 fr]++unds (Try.f93.ntmps - 2),[⟨true,0,0,true,(Qo n),false⟩]⟩:=by
 obtain ⟨h1,h⟩:=h
 refine p93_start_0 fr n hE ⟨(knNew h1),trivial⟩ ?_
 rw [(show AV.sl 2 0 0 1 1=AV.sl 2 0 (0*1) (([fr]).length - 0) 1 from sl_eq (by omega) (by first | rfl | omega | (simp; done) | (simp; omega)))]; rw [(show Xj ([]:List (Int × Int))++[.clos 0 [.int .i64 fr] [.int .i64 fr]]=Xj (([]:List (Int × Int))++[(fr,fr)]) from (XD cKnE ([]:List (Int × Int)) [(fr,fr)]).symm)]; exact (h 0)
abbrev z93_1 (n:List (K2 × Int)) (v1:List (Int × Int)) (g2:Nat) (v2:List Int):List Blk:=[⟨true,0,0,true,(Qo n),false⟩,⟨true,0,0,true,(Xj v1),false⟩,⟨true,g2,1,true,(rowI v2),true⟩]
abbrev z93_2 (fr:Int) (g2:Nat) (queue:Nat) (v2:List Int) (k:Nat):List AV:=[.mp 0 0 false,.int .i64 fr,J,J,J,.mp 1 0 false,.sl 2 g2 (queue*1) (v2.length - queue) 1]++jj 17 ([.int .i64 ((k:Int)+1)]++Js 63)
theorem p93_0_0 (fr:Int) (n:List (K2 × Int)) (queue:Nat) (v2:List Int) (v1:List (Int × Int)) (g2:Nat) {E:Env} {rv:AV} {bs2:List Blk} (hE:LentE Try.prog 93 [.mp 0 0 false] rv bs2 E) (ho:AllP [g2=g2,(decide ((((v2.length - queue):Nat):Int) > 0))=true])
 (hg:G Try.prog E (KG Try.prog) ⟨([.mp 0 0 false,.int .i64 fr,J,J,J,.mp 1 0 false,.sl 2 g2 (queue*1) (v2.length - queue) 1]++jj 17 ([.int .i64 0]++Js 63)),(z93_1 n v1 g2 v2)⟩):G Try.prog E (f93K0 Try.prog) (f93S0 fr n queue v2 v1 g2) :=
 Qe (n:=400) (ds:=[]) (cs:=[]) (live:=[0,1,5,6,24]) (m:=3) (evs:=[.b true,.stop]) (obs:=_) hE.kind (by rw [hE.gA]; kernel_rfl) Qg (by kernel_rfl) ho hg
theorem p93_0_1 (fr:Int) (n:List (K2 × Int)) (queue:Nat) (v2:List Int) (v1:List (Int × Int)) (g2:Nat) (mi:Nat) (me:(Int × Int)) {E:Env} {rv:AV} {bs2:List Blk} (hE:LentE Try.prog 93 [.mp 0 0 false] rv bs2 E) (ho:AllP [g2=g2,(decide ((((v2.length - queue):Nat):Int) > 0))=false,YR Try.prog 3 (.int .i64 128) (Xj v1) mi (.int .i64 me.2),false=false])
 (hg:G Try.prog E (f93K2 Try.prog) ⟨([.mp 0 0 false,.int .i64 fr,J,J,J,.mp 1 0 false]++jj 6 ([.int .i64 128]++Js 75)),(z93_1 n v1 g2 v2)⟩):G Try.prog E (f93K0 Try.prog) (f93S0 fr n queue v2 v1 g2) :=
 Qe (n:=400) (ds:=[]) (cs:=[]) (live:=[0,1,5,12]) (m:=3) (evs:=[.b false,.mfound mi (.int .i64 me.2),.b false,.stop]) (obs:=_) hE.kind (by rw [hE.gA]; kernel_rfl) Qg (by kernel_rfl) ho hg
theorem p93_0_2 (fr:Int) (n:List (K2 × Int)) (queue:Nat) (v2:List Int) (v1:List (Int × Int)) (g2:Nat) {E:Env} {res:AV} {bs2:List Blk} (hE:LentE Try.prog 93 [.mp 0 0 false] res bs2 E) (ho:AllP [g2=g2,(decide ((((v2.length - queue):Nat):Int) > 0))=false,XK Try.prog 3 (.int .i64 128) (Xj v1),true=true])
 (hr:(.bool false)=res) (hb:[⟨true,0,0,true,(Qo n),false⟩]=bs2):G Try.prog E (f93K0 Try.prog) (f93S0 fr n queue v2 v1 g2) :=
 Qr (n:=400) (live:=[4]) (m:=1) (evs:=[.b false,.mnone,.b true]) (obs:=_) hE (by rw [hE.gA]; kernel_rfl) Try.func93 Qg (by kernel_rfl) ho hr hb
theorem f93W0 (fr:Int) (n:List (K2 × Int)) (queue:Nat) (v2:List Int) (v1:List (Int × Int)) {E:Env} {rv:Bool} {n2:List (K2 × Int)} (hE:LentE Try.prog 93 [.mp 0 0 false] (.bool rv) [⟨true,0,0,true,(Qo n2),false⟩] E)
 (h:(((((v2.length - queue):Nat):Int) > 0→Qcq E fr n queue v2 0 v1)∧(¬ ((((v2.length - queue):Nat):Int) > 0)→(((YS v1 128)=true→(∃ mi:Nat,True∧(∃ me:(Int × Int),KnAt v1 128 mi me∧f93G2 E fr n v2 v1 128 n)))∧((YS v1 128)=false→rv=false∧n2=n))))):f93G0 E fr n queue v2 v1:=by
 intro g2
 rcases bft (decide ((((v2.length - queue):Nat):Int) > 0)) with hc0 | hc0
 · have h:=h.1 (odt hc0)
   exact p93_0_0 fr n queue v2 v1 g2 hE ⟨rfl,hc0,trivial⟩ (h g2)
 · have h:=h.2 (odf hc0)
   rcases bft (YS v1 128) with hc1 | hc1
   · have h:=h.1 hc1
     obtain ⟨mi,h1,h⟩:=h
     obtain ⟨me,h2,h⟩:=h
     exact p93_0_1 fr n queue v2 v1 g2 mi me hE ⟨rfl,hc0,(knAt h2),rfl,trivial⟩ (h g2)
   · have h:=h.2 hc1
     obtain ⟨qe0,qe1⟩:=h
     exact p93_0_2 fr n queue v2 v1 g2 hE ⟨rfl,hc0,(knNew hc1),rfl,trivial⟩ (by rw [qe0]; try rfl) (by rw [qe1]; all_goals (first | rfl | (simp only [List.length_set]; done) | (simp only [List.length_set]; rfl) | (simp only [List.length_set,List.length_replicate]; done)))
theorem p93_1_0 (fr:Int) (n:List (K2 × Int)) (queue:Nat) (v2:List Int) (k:Nat) (v1:List (Int × Int)) (g2:Nat) (mi:Nat) (me:(Int × Int)) {E:Env} {rv:AV} {bs2:List Blk} (hE:LentE Try.prog 93 [.mp 0 0 false] rv bs2 E) (ho:AllP [(decide ((k:Int)<129))=true,YR Try.prog 3 (.int .i64 (k:Int)) (Xj v1) mi (.int .i64 me.2),false=false,false=false,InR .i64 ((k:Int)+1)])
 (hg:G Try.prog E (KG Try.prog) ⟨(z93_2 fr g2 queue v2 k),(z93_1 n v1 g2 v2)⟩):G Try.prog E (KG Try.prog) (f93S1 fr n queue v2 k v1 g2) :=
 Qe (n:=400) (ds:=[]) (cs:=[]) (live:=[0,1,5,6,24]) (m:=3) (evs:=[.b true,.mfound mi (.int .i64 me.2),.b false,.b false,.stop]) (obs:=_) hE.kind (by rw [hE.gA]; kernel_rfl) Qg (by kernel_rfl) ho hg
theorem p93_1_1 (fr:Int) (n:List (K2 × Int)) (queue:Nat) (v2:List Int) (k:Nat) (v1:List (Int × Int)) (g2:Nat) (e:Int) (mi:Nat) (me:(K2 × Int)) {E:Env} {rv:AV} {bs2:List Blk} (hE:LentE Try.prog 93 [.mp 0 0 false] rv bs2 E) (ho:AllP [(decide ((k:Int)<129))=true,XK Try.prog 3 (.int .i64 (k:Int)) (Xj v1),true=true,(0:Int)≤0∧(0:Int)<(((v2.length - queue):Nat):Int),g2=g2,g2=g2,((rowI v2).drop ((queue*1)+0*1)).take 1=[.int .i64 e],YR Try.prog 177 (.agg [.int .i64 e,.int .i64 (k:Int)]) (Qo n) mi (.int .i64 me.2),(decide (me.2 > 0))=true,(0:Int)≤0∧(0:Int)<(((v2.length - queue):Nat):Int),g2=g2,g2=g2,((rowI v2).drop ((queue*1)+0*1)).take 1=[.int .i64 e],XK Try.prog 3 (.int .i64 (k:Int)) (Xj v1),g2=g2,((queue*1)+((v2.length - queue)*1))=(rowI v2).length,((v2.length - queue)+1)≤2147483648,0=0,InR .i64 ((k:Int)+1)])
 (hg:G Try.prog E (KG Try.prog) ⟨([.mp 0 0 false,.int .i64 fr,J,J,J,.mp 1 0 false,.sl 2 (g2+1) 0 ((v2.length - queue)+1) 1]++jj 17 ([.int .i64 ((k:Int)+1)]++Js 63)),[⟨true,0,0,true,(Qo n),false⟩,⟨true,0,0,true,((Xj v1)++[.clos 0 [.int .i64 (k:Int)] [.int .i64 e]]),false⟩,⟨true,(g2+1),1,true,(((rowI v2).drop (queue*1))++[.int .i64 (k:Int)]),true⟩]⟩):G Try.prog E (KG Try.prog) (f93S1 fr n queue v2 k v1 g2) :=
 Qe (n:=400) (ds:=[]) (cs:=[]) (live:=[0,1,5,6,24]) (m:=3) (evs:=[.b true,.mnone,.b true,.ld (.int .i64 e),.mfound mi (.int .i64 me.2),.b true,.ld (.int .i64 e),.stop]) (obs:=_) hE.kind (by rw [hE.gA]; kernel_rfl) Qg (by kernel_rfl) ho hg
theorem p93_1_2 (fr:Int) (n:List (K2 × Int)) (queue:Nat) (v2:List Int) (k:Nat) (v1:List (Int × Int)) (g2:Nat) (e:Int) (mi:Nat) (me:(K2 × Int)) {E:Env} {rv:AV} {bs2:List Blk} (hE:LentE Try.prog 93 [.mp 0 0 false] rv bs2 E) (ho:AllP [(decide ((k:Int)<129))=true,XK Try.prog 3 (.int .i64 (k:Int)) (Xj v1),true=true,(0:Int)≤0∧(0:Int)<(((v2.length - queue):Nat):Int),g2=g2,g2=g2,((rowI v2).drop ((queue*1)+0*1)).take 1=[.int .i64 e],YR Try.prog 177 (.agg [.int .i64 e,.int .i64 (k:Int)]) (Qo n) mi (.int .i64 me.2),(decide (me.2 > 0))=false,InR .i64 ((k:Int)+1)])
 (hg:G Try.prog E (KG Try.prog) ⟨(z93_2 fr g2 queue v2 k),(z93_1 n v1 g2 v2)⟩):G Try.prog E (KG Try.prog) (f93S1 fr n queue v2 k v1 g2) :=
 Qe (n:=400) (ds:=[]) (cs:=[]) (live:=[0,1,5,6,24]) (m:=3) (evs:=[.b true,.mnone,.b true,.ld (.int .i64 e),.mfound mi (.int .i64 me.2),.b false,.stop]) (obs:=_) hE.kind (by rw [hE.gA]; kernel_rfl) Qg (by kernel_rfl) ho hg
theorem p93_1_3 (fr:Int) (n:List (K2 × Int)) (queue:Nat) (v2:List Int) (k:Nat) (v1:List (Int × Int)) (g2:Nat) (e:Int) {E:Env} {rv:AV} {bs2:List Blk} (hE:LentE Try.prog 93 [.mp 0 0 false] rv bs2 E) (ho:AllP [(decide ((k:Int)<129))=true,XK Try.prog 3 (.int .i64 (k:Int)) (Xj v1),true=true,(0:Int)≤0∧(0:Int)<(((v2.length - queue):Nat):Int),g2=g2,g2=g2,((rowI v2).drop ((queue*1)+0*1)).take 1=[.int .i64 e],XK Try.prog 177 (.agg [.int .i64 e,.int .i64 (k:Int)]) (Qo n),false=false,InR .i64 ((k:Int)+1)])
 (hg:G Try.prog E (KG Try.prog) ⟨(z93_2 fr g2 queue v2 k),(z93_1 n v1 g2 v2)⟩):G Try.prog E (KG Try.prog) (f93S1 fr n queue v2 k v1 g2) :=
 Qe (n:=400) (ds:=[]) (cs:=[]) (live:=[0,1,5,6,24]) (m:=3) (evs:=[.b true,.mnone,.b true,.ld (.int .i64 e),.mnone,.b false,.stop]) (obs:=_) hE.kind (by rw [hE.gA]; kernel_rfl) Qg (by kernel_rfl) ho hg
theorem p93_1_4 (fr:Int) (n:List (K2 × Int)) (queue:Nat) (v2:List Int) (k:Nat) (v1:List (Int × Int)) (g2:Nat) {E:Env} {rv:AV} {bs2:List Blk} (hE:LentE Try.prog 93 [.mp 0 0 false] rv bs2 E) (ho:AllP [(decide ((k:Int)<129))=false,1≤(v2.length - queue),(v2.length - queue)≤(v2.length - queue),(0:Int)≤1,g2=g2])
 (hg:G Try.prog E (f93K0 Try.prog) ⟨([.mp 0 0 false,.int .i64 fr,J,J,J,.mp 1 0 false,.sl 2 g2 ((queue*1)+1) ((v2.length - queue) - 1) 1]++Js 81),[⟨true,0,0,true,(Qo n),false⟩,⟨true,0,0,true,(Xj v1),false⟩,⟨true,g2,1,true,(rowI v2),true⟩]⟩):G Try.prog E (KG Try.prog) (f93S1 fr n queue v2 k v1 g2) :=
 Qe (n:=400) (ds:=[]) (cs:=[]) (live:=[0,1,5,6]) (m:=3) (evs:=[.b false,.stop]) (obs:=_) hE.kind (by rw [hE.gA]; kernel_rfl) Qg (by kernel_rfl) ho hg
theorem f93W1 (fr:Int) (n:List (K2 × Int)) (queue:Nat) (v2:List Int) (k:Nat) (v1:List (Int × Int)) {E:Env} {rv:Bool} {n2:List (K2 × Int)} (hE:LentE Try.prog 93 [.mp 0 0 false] (.bool rv) [⟨true,0,0,true,(Qo n2),false⟩] E)
 (h:(((k:Int)<129→(((YS v1 (k:Int))=true→(∃ mi:Nat,True∧(∃ me:(Int × Int),KnAt v1 (k:Int) mi me∧((I6 ((k:Int)+1))∧Qcq E fr n queue v2 (k+1) v1))))∧((YS v1 (k:Int))=false→(∃ e:Int,v2[queue]?=some e∧(((Yq n (⟨e,(k:Int)⟩:K2))=true→(∃ mi:Nat,True∧(∃ me:(K2 × Int),NtAt n (⟨e,(k:Int)⟩:K2) mi me∧((me.2 > 0→((YS v1 (k:Int))=false∧(queue≤v2.length∧(((v2.length - queue)+1)≤2147483648∧((I6 ((k:Int)+1))∧Qcq E fr n 0 ((v2.drop queue)++[(k:Int)]) (k+1) (v1++[((k:Int),e)]))))))∧(¬ (me.2 > 0)→((I6 ((k:Int)+1))∧Qcq E fr n queue v2 (k+1) v1))))))∧((Yq n (⟨e,(k:Int)⟩:K2))=false→((I6 ((k:Int)+1))∧Qcq E fr n queue v2 (k+1) v1)))))))∧(¬ ((k:Int)<129)→(1≤(v2.length - queue)∧f93G0 E fr n (queue+1) v2 v1)))):Qcq E fr n queue v2 k v1:=by
 intro g2
 rcases bft (decide ((k:Int)<129)) with hc0 | hc0
 · have h:=h.1 (odt hc0)
   rcases bft (YS v1 (k:Int)) with hc1 | hc1
   · have h:=h.1 hc1
     obtain ⟨mi,h1,h⟩:=h
     obtain ⟨me,h2,h⟩:=h
     obtain ⟨q6_2,h⟩:=h
     exact p93_1_0 fr n queue v2 k v1 g2 mi me hE ⟨hc0,(knAt h2),rfl,rfl,q6_2,trivial⟩ (h g2)
   · have h:=h.2 hc1
     obtain ⟨e,h1,h⟩:=h
     rcases bft (Yq n (⟨e,(k:Int)⟩:K2)) with hc2 | hc2
     · have h:=h.1 hc2
       obtain ⟨mi,h2,h⟩:=h
       obtain ⟨me,h3,h⟩:=h
       rcases bft (decide (me.2 > 0)) with hc3 | hc3
       · have h:=h.1 (odt hc3)
         obtain ⟨h4,h⟩:=h
         obtain ⟨h5,h⟩:=h
         obtain ⟨h6,h⟩:=h
         obtain ⟨q22_4,h⟩:=h
         refine p93_1_1 fr n queue v2 k v1 g2 e mi me hE ⟨hc0,(knNew hc1),rfl,(qI h1 rfl),rfl,rfl,(qC cI (s:=1) (fun _=>rfl) h1),(ntAt h3),hc3,(qI h1 rfl),rfl,rfl,(qC cI (s:=1) (fun _=>rfl) h1),(knNew h4),rfl,(by have hx:=QC cI (s:=1) (fun _=>rfl) v2; simp only [rowI] at hx ⊢; rw [hx]; omega),h6,rfl,q22_4,trivial⟩ ?_
         rw [(show AV.sl 2 (g2+1) 0 ((v2.length - queue)+1) 1=AV.sl 2 (g2+1) (0*1) (((v2.drop queue)++[(k:Int)]).length - 0) 1 from sl_eq (by omega) (by first | rfl | omega | (simp; done) | (simp; omega)))]; rw [(show (rowI v2).drop (queue*1)=rowI (v2.drop queue) from Ka cI (fun _=>rfl) v2 queue)]; rw [(show rowI (v2.drop queue)++[.int .i64 (k:Int)]=rowI ((v2.drop queue)++[(k:Int)]) from (XD cI (v2.drop queue) [(k:Int)]).symm)]; rw [(show Xj v1++[.clos 0 [.int .i64 (k:Int)] [.int .i64 e]]=Xj (v1++[((k:Int),e)]) from (XD cKnE v1 [((k:Int),e)]).symm)]; exact (h (g2+1))
       · have h:=h.2 (odf hc3)
         obtain ⟨q13_4,h⟩:=h
         exact p93_1_2 fr n queue v2 k v1 g2 e mi me hE ⟨hc0,(knNew hc1),rfl,(qI h1 rfl),rfl,rfl,(qC cI (s:=1) (fun _=>rfl) h1),(ntAt h3),hc3,q13_4,trivial⟩ (h g2)
     · have h:=h.2 hc2
       obtain ⟨q12_3,h⟩:=h
       exact p93_1_3 fr n queue v2 k v1 g2 e hE ⟨hc0,(knNew hc1),rfl,(qI h1 rfl),rfl,rfl,(qC cI (s:=1) (fun _=>rfl) h1),(ntNew hc2),rfl,q12_3,trivial⟩ (h g2)
 · have h:=h.2 (odf hc0)
   obtain ⟨q1_1,h⟩:=h
   refine p93_1_4 fr n queue v2 k v1 g2 hE ⟨hc0,q1_1,(Nat.le_refl _),(by decide),rfl,trivial⟩ ?_
   rw [(show AV.sl 2 g2 ((queue*1)+1) ((v2.length - queue) - 1) 1=AV.sl 2 g2 ((queue+1)*1) (v2.length - (queue+1)) 1 from sl_eq (by omega) (by first | rfl | omega | (simp; done) | (simp; omega)))]; exact (h g2)
theorem p93_2_0 (fr:Int) (n:List (K2 × Int)) (v2:List Int) (v1:List (Int × Int)) (to:Int) (v0:List (K2 × Int)) (g2:Nat) (mi:Nat) (me:(Int × Int)) (mi1:Nat) (me1:(K2 × Int)) (mi2:Nat) (me2:(K2 × Int)) (mi3:Nat) (me3:(Int × Int)) (mi4:Nat) (me4:(K2 × Int)) (mi5:Nat) (me5:(K2 × Int)) (mi6:Nat) (me6:(Int × Int)) {E:Env} {rv:AV} {bs2:List Blk} (hE:LentE Try.prog 93 [.mp 0 0 false] rv bs2 E) (ho:AllP [(to != fr)=true,YR Try.prog 3 (.int .i64 to) (Xj v1) mi (.int .i64 me.2),YR Try.prog 177 (.agg [.int .i64 me.2,.int .i64 to]) (Qo v0) mi1 (.int .i64 me1.2),InR .i64 (me1.2 - 1),YR Try.prog 177 (.agg [.int .i64 me.2,.int .i64 to]) (Qo v0) mi2 (.int .i64 me2.2),(mi2:Int)=(mi2:Int),((Qo v0):List AV)[mi2]?=some (.clos 0 [.agg [.int .i64 me.2,.int .i64 to]] [.int .i64 me2.2]),YR Try.prog 3 (.int .i64 to) (Xj v1) mi3 (.int .i64 me3.2),YR Try.prog 177 (.agg [.int .i64 to,.int .i64 me3.2]) (((Qo v0):List AV).set mi2 (.clos 0 [.agg [.int .i64 me.2,.int .i64 to]] [.int .i64 (me1.2 - 1)])) mi4 (.int .i64 me4.2),InR .i64 (me4.2+1),YR Try.prog 177 (.agg [.int .i64 to,.int .i64 me3.2]) (((Qo v0):List AV).set mi2 (.clos 0 [.agg [.int .i64 me.2,.int .i64 to]] [.int .i64 (me1.2 - 1)])) mi5 (.int .i64 me5.2),(mi5:Int)=(mi5:Int),((((Qo v0):List AV).set mi2 (.clos 0 [.agg [.int .i64 me.2,.int .i64 to]] [.int .i64 (me1.2 - 1)])):List AV)[mi5]?=some (.clos 0 [.agg [.int .i64 to,.int .i64 me3.2]] [.int .i64 me5.2]),YR Try.prog 3 (.int .i64 to) (Xj v1) mi6 (.int .i64 me6.2)])
 (hg:G Try.prog E (f93K2 Try.prog) ⟨([.mp 0 0 false,.int .i64 fr,J,J,J,.mp 1 0 false]++jj 6 ([.int .i64 me6.2]++Js 75)),[⟨true,0,0,true,(((((Qo v0):List AV).set mi2 (.clos 0 [.agg [.int .i64 me.2,.int .i64 to]] [.int .i64 (me1.2 - 1)])):List AV).set mi5 (.clos 0 [.agg [.int .i64 to,.int .i64 me3.2]] [.int .i64 (me4.2+1)])),false⟩,⟨true,0,0,true,(Xj v1),false⟩,⟨true,g2,1,true,(rowI v2),true⟩]⟩):G Try.prog E (f93K2 Try.prog) (f93S2 fr n v2 v1 to v0 g2) :=
 Qe (n:=400) (ds:=[]) (cs:=[]) (live:=[0,1,5,12]) (m:=3) (evs:=[.b true,.mfound mi (.int .i64 me.2),.mfound mi1 (.int .i64 me1.2),.mfound mi2 (.int .i64 me2.2),.mfound mi2 (.clos 0 [.agg [.int .i64 me.2,.int .i64 to]] [.int .i64 me2.2]),.mfound mi3 (.int .i64 me3.2),.mfound mi4 (.int .i64 me4.2),.mfound mi5 (.int .i64 me5.2),.mfound mi5 (.clos 0 [.agg [.int .i64 to,.int .i64 me3.2]] [.int .i64 me5.2]),.mfound mi6 (.int .i64 me6.2),.stop]) (obs:=_) hE.kind (by rw [hE.gA]; kernel_rfl) Qg (by kernel_rfl) ho hg
theorem p93_2_1 (fr:Int) (n:List (K2 × Int)) (v2:List Int) (v1:List (Int × Int)) (to:Int) (v0:List (K2 × Int)) (g2:Nat) (mi:Nat) (me:(Int × Int)) (mi1:Nat) (me1:(K2 × Int)) (mi2:Nat) (me2:(K2 × Int)) (mi3:Nat) (me3:(Int × Int)) (mi4:Nat) (me4:(Int × Int)) {E:Env} {rv:AV} {bs2:List Blk} (hE:LentE Try.prog 93 [.mp 0 0 false] rv bs2 E) (ho:AllP [(to != fr)=true,YR Try.prog 3 (.int .i64 to) (Xj v1) mi (.int .i64 me.2),YR Try.prog 177 (.agg [.int .i64 me.2,.int .i64 to]) (Qo v0) mi1 (.int .i64 me1.2),InR .i64 (me1.2 - 1),YR Try.prog 177 (.agg [.int .i64 me.2,.int .i64 to]) (Qo v0) mi2 (.int .i64 me2.2),(mi2:Int)=(mi2:Int),((Qo v0):List AV)[mi2]?=some (.clos 0 [.agg [.int .i64 me.2,.int .i64 to]] [.int .i64 me2.2]),YR Try.prog 3 (.int .i64 to) (Xj v1) mi3 (.int .i64 me3.2),XK Try.prog 177 (.agg [.int .i64 to,.int .i64 me3.2]) (((Qo v0):List AV).set mi2 (.clos 0 [.agg [.int .i64 me.2,.int .i64 to]] [.int .i64 (me1.2 - 1)])),InR .i64 1,XK Try.prog 177 (.agg [.int .i64 to,.int .i64 me3.2]) (((Qo v0):List AV).set mi2 (.clos 0 [.agg [.int .i64 me.2,.int .i64 to]] [.int .i64 (me1.2 - 1)])),(((((Qo v0):List AV).set mi2 (.clos 0 [.agg [.int .i64 me.2,.int .i64 to]] [.int .i64 (me1.2 - 1)])).length:Nat):Int)=((((v0.set mi2 ((⟨me.2,to⟩:K2),me1.2 - 1)).length):Nat):Int),(((((Qo v0):List AV).set mi2 (.clos 0 [.agg [.int .i64 me.2,.int .i64 to]] [.int .i64 (me1.2 - 1)]))++[.clos 0 [.agg [.int .i64 to,.int .i64 me3.2]] [.int .i64 0]]):List AV)[(v0.set mi2 ((⟨me.2,to⟩:K2),me1.2 - 1)).length]?=some (.clos 0 [.agg [.int .i64 to,.int .i64 me3.2]] [.int .i64 0]),(.int .i64 0:AV)=.int .i64 0,YR Try.prog 177 (.agg [.int .i64 to,.int .i64 me3.2]) ((((Qo v0):List AV).set mi2 (.clos 0 [.agg [.int .i64 me.2,.int .i64 to]] [.int .i64 (me1.2 - 1)]))++[.clos 0 [.agg [.int .i64 to,.int .i64 me3.2]] [.int .i64 0]]) (v0.set mi2 ((⟨me.2,to⟩:K2),me1.2 - 1)).length (.int .i64 0),YR Try.prog 3 (.int .i64 to) (Xj v1) mi4 (.int .i64 me4.2)])
 (hg:G Try.prog E (f93K2 Try.prog) ⟨([.mp 0 0 false,.int .i64 fr,J,J,J,.mp 1 0 false]++jj 6 ([.int .i64 me4.2]++Js 75)),[⟨true,0,0,true,((((((Qo v0):List AV).set mi2 (.clos 0 [.agg [.int .i64 me.2,.int .i64 to]] [.int .i64 (me1.2 - 1)]))++[.clos 0 [.agg [.int .i64 to,.int .i64 me3.2]] [.int .i64 0]]):List AV).set ((v0.set mi2 ((⟨me.2,to⟩:K2),me1.2 - 1)).length) (.clos 0 [.agg [.int .i64 to,.int .i64 me3.2]] [.int .i64 1])),false⟩,⟨true,0,0,true,(Xj v1),false⟩,⟨true,g2,1,true,(rowI v2),true⟩]⟩):G Try.prog E (f93K2 Try.prog) (f93S2 fr n v2 v1 to v0 g2) :=
 Qe (n:=400) (ds:=[]) (cs:=[]) (live:=[0,1,5,12]) (m:=3) (evs:=[.b true,.mfound mi (.int .i64 me.2),.mfound mi1 (.int .i64 me1.2),.mfound mi2 (.int .i64 me2.2),.mfound mi2 (.clos 0 [.agg [.int .i64 me.2,.int .i64 to]] [.int .i64 me2.2]),.soft 0 6 8,.mfound (v0.set mi2 ((⟨me.2,to⟩:K2),me1.2 - 1)).length (.int .i64 0),.mfound mi3 (.int .i64 me3.2),.mnone,.mnone,.mfound ((v0.set mi2 ((⟨me.2,to⟩:K2),me1.2 - 1)).length) (.clos 0 [.agg [.int .i64 to,.int .i64 me3.2]] [.int .i64 0]),.mfound mi4 (.int .i64 me4.2),.stop]) (obs:=_) hE.kind (by rw [hE.gA]; kernel_rfl) Qg (by kernel_rfl) ho hg
theorem p93_2_2 (fr:Int) (n:List (K2 × Int)) (v2:List Int) (v1:List (Int × Int)) (to:Int) (v0:List (K2 × Int)) (g2:Nat) {E:Env} {res:AV} {bs2:List Blk} (hE:LentE Try.prog 93 [.mp 0 0 false] res bs2 E) (ho:AllP [(to != fr)=false])
 (hr:(.bool true)=res) (hb:[⟨true,0,0,true,(Qo v0),false⟩]=bs2):G Try.prog E (f93K2 Try.prog) (f93S2 fr n v2 v1 to v0 g2) :=
 Qr (n:=400) (live:=[4]) (m:=1) (evs:=[.b false]) (obs:=_) hE (by rw [hE.gA]; kernel_rfl) Try.func93 Qg (by kernel_rfl) ho hr hb
theorem f93W2 (fr:Int) (n:List (K2 × Int)) (v2:List Int) (v1:List (Int × Int)) (to:Int) (v0:List (K2 × Int)) {E:Env} {rv:Bool} {n2:List (K2 × Int)} (hE:LentE Try.prog 93 [.mp 0 0 false] (.bool rv) [⟨true,0,0,true,(Qo n2),false⟩] E)
 (h:((¬ (to=fr)→(∃ mi:Nat,True∧(∃ me:(Int × Int),KnAt v1 to mi me∧(∃ mi1:Nat,True∧(∃ me1:(K2 × Int),NtAt v0 (⟨me.2,to⟩:K2) mi1 me1∧((I6 (me1.2 - 1))∧(∃ mi2:Nat,True∧(∃ me2:(K2 × Int),NtAt v0 (⟨me.2,to⟩:K2) mi2 me2∧(∃ mi3:Nat,True∧(∃ me3:(Int × Int),KnAt v1 to mi3 me3∧(((Yq (v0.set mi2 ((⟨me.2,to⟩:K2),me1.2 - 1)) (⟨to,me3.2⟩:K2))=true→(∃ mi4:Nat,True∧(∃ me4:(K2 × Int),NtAt (v0.set mi2 ((⟨me.2,to⟩:K2),me1.2 - 1)) (⟨to,me3.2⟩:K2) mi4 me4∧((I6 (me4.2+1))∧(∃ mi5:Nat,True∧(∃ me5:(K2 × Int),NtAt (v0.set mi2 ((⟨me.2,to⟩:K2),me1.2 - 1)) (⟨to,me3.2⟩:K2) mi5 me5∧(∃ mi6:Nat,True∧(∃ me6:(Int × Int),KnAt v1 to mi6 me6∧f93G2 E fr n v2 v1 me6.2 ((v0.set mi2 ((⟨me.2,to⟩:K2),me1.2 - 1)).set mi5 ((⟨to,me3.2⟩:K2),me4.2+1))))))))))∧((Yq (v0.set mi2 ((⟨me.2,to⟩:K2),me1.2 - 1)) (⟨to,me3.2⟩:K2))=false→(∃ mi4:Nat,True∧(∃ me4:(Int × Int),KnAt v1 to mi4 me4∧f93G2 E fr n v2 v1 me4.2 (((v0.set mi2 ((⟨me.2,to⟩:K2),me1.2 - 1))++[((⟨to,me3.2⟩:K2),0)]).set ((v0.set mi2 ((⟨me.2,to⟩:K2),me1.2 - 1)).length) ((⟨to,me3.2⟩:K2),1))))))))))))))))∧(to=fr→rv=true∧n2=v0))):f93G2 E fr n v2 v1 to v0:=by
 intro g2
 rcases bft (to != fr) with hc0 | hc0
 · have h:=h.1 (bneT hc0)
   obtain ⟨mi,h1,h⟩:=h
   obtain ⟨me,h2,h⟩:=h
   obtain ⟨mi1,h3,h⟩:=h
   obtain ⟨me1,h4,h⟩:=h
   obtain ⟨q5_1,h⟩:=h
   obtain ⟨mi2,h5,h⟩:=h
   obtain ⟨me2,h6,h⟩:=h
   obtain ⟨mi3,h7,h⟩:=h
   obtain ⟨me3,h8,h⟩:=h
   rcases bft (Yq (v0.set mi2 ((⟨me.2,to⟩:K2),me1.2 - 1)) (⟨to,me3.2⟩:K2)) with hc1 | hc1
   · have h:=h.1 hc1
     obtain ⟨mi4,h9,h⟩:=h
     obtain ⟨me4,h10,h⟩:=h
     obtain ⟨q15_2,h⟩:=h
     obtain ⟨mi5,h11,h⟩:=h
     obtain ⟨me5,h12,h⟩:=h
     obtain ⟨mi6,h13,h⟩:=h
     obtain ⟨me6,h14,h⟩:=h
     refine p93_2_0 fr n v2 v1 to v0 g2 mi me mi1 me1 mi2 me2 mi3 me3 mi4 me4 mi5 me5 mi6 me6 hE ⟨hc0,(knAt h2),(ntAt h4),q5_1,(ntAt h6),rfl,(by exact ntEnt h6),(knAt h8),(by rw [(show (Qo v0).set mi2 (.clos 0 [.agg [.int .i64 me.2,.int .i64 to]] [.int .i64 (me1.2 - 1)])=Qo (v0.set mi2 ((⟨me.2,to⟩:K2),me1.2 - 1)) from Kl v0 mi2 ((⟨me.2,to⟩:K2),me1.2 - 1))]; exact (ntAt h10)),q15_2,(by rw [(show (Qo v0).set mi2 (.clos 0 [.agg [.int .i64 me.2,.int .i64 to]] [.int .i64 (me1.2 - 1)])=Qo (v0.set mi2 ((⟨me.2,to⟩:K2),me1.2 - 1)) from Kl v0 mi2 ((⟨me.2,to⟩:K2),me1.2 - 1))]; exact (ntAt h12)),rfl,(by rw [(show (Qo v0).set mi2 (.clos 0 [.agg [.int .i64 me.2,.int .i64 to]] [.int .i64 (me1.2 - 1)])=Qo (v0.set mi2 ((⟨me.2,to⟩:K2),me1.2 - 1)) from Kl v0 mi2 ((⟨me.2,to⟩:K2),me1.2 - 1))]; exact ntEnt h12),(knAt h14),trivial⟩ ?_
     rw [(show (Qo v0).set mi2 (.clos 0 [.agg [.int .i64 me.2,.int .i64 to]] [.int .i64 (me1.2 - 1)])=Qo (v0.set mi2 ((⟨me.2,to⟩:K2),me1.2 - 1)) from Kl v0 mi2 ((⟨me.2,to⟩:K2),me1.2 - 1))]; rw [(show (Qo (v0.set mi2 ((⟨me.2,to⟩:K2),me1.2 - 1))).set mi5 (.clos 0 [.agg [.int .i64 to,.int .i64 me3.2]] [.int .i64 (me4.2+1)])=Qo ((v0.set mi2 ((⟨me.2,to⟩:K2),me1.2 - 1)).set mi5 ((⟨to,me3.2⟩:K2),me4.2+1)) from Kl (v0.set mi2 ((⟨me.2,to⟩:K2),me1.2 - 1)) mi5 ((⟨to,me3.2⟩:K2),me4.2+1))]; exact (h g2)
   · have h:=h.2 hc1
     obtain ⟨mi4,h9,h⟩:=h
     obtain ⟨me4,h10,h⟩:=h
     refine p93_2_1 fr n v2 v1 to v0 g2 mi me mi1 me1 mi2 me2 mi3 me3 mi4 me4 hE ⟨hc0,(knAt h2),(ntAt h4),q5_1,(ntAt h6),rfl,(by exact ntEnt h6),(knAt h8),(by rw [(show (Qo v0).set mi2 (.clos 0 [.agg [.int .i64 me.2,.int .i64 to]] [.int .i64 (me1.2 - 1)])=Qo (v0.set mi2 ((⟨me.2,to⟩:K2),me1.2 - 1)) from Kl v0 mi2 ((⟨me.2,to⟩:K2),me1.2 - 1))]; exact (ntNew hc1)),(⟨by decide,by decide⟩),(by rw [(show (Qo v0).set mi2 (.clos 0 [.agg [.int .i64 me.2,.int .i64 to]] [.int .i64 (me1.2 - 1)])=Qo (v0.set mi2 ((⟨me.2,to⟩:K2),me1.2 - 1)) from Kl v0 mi2 ((⟨me.2,to⟩:K2),me1.2 - 1))]; exact (ntNew hc1)),(by first | rfl | (simp; done)),(by rw [(show (Qo v0).set mi2 (.clos 0 [.agg [.int .i64 me.2,.int .i64 to]] [.int .i64 (me1.2 - 1)])=Qo (v0.set mi2 ((⟨me.2,to⟩:K2),me1.2 - 1)) from Kl v0 mi2 ((⟨me.2,to⟩:K2),me1.2 - 1))]; rw [(show Qo (v0.set mi2 ((⟨me.2,to⟩:K2),me1.2 - 1))++[.clos 0 [.agg [.int .i64 to,.int .i64 me3.2]] [.int .i64 0]]=Qo ((v0.set mi2 ((⟨me.2,to⟩:K2),me1.2 - 1))++[((⟨to,me3.2⟩:K2),0)]) from (XD cNtE (v0.set mi2 ((⟨me.2,to⟩:K2),me1.2 - 1)) [((⟨to,me3.2⟩:K2),0)]).symm)]; exact ntEnd _ ((⟨to,me3.2⟩:K2),0)),rfl,(by rw [(show (Qo v0).set mi2 (.clos 0 [.agg [.int .i64 me.2,.int .i64 to]] [.int .i64 (me1.2 - 1)])=Qo (v0.set mi2 ((⟨me.2,to⟩:K2),me1.2 - 1)) from Kl v0 mi2 ((⟨me.2,to⟩:K2),me1.2 - 1))]; rw [(show Qo (v0.set mi2 ((⟨me.2,to⟩:K2),me1.2 - 1))++[.clos 0 [.agg [.int .i64 to,.int .i64 me3.2]] [.int .i64 0]]=Qo ((v0.set mi2 ((⟨me.2,to⟩:K2),me1.2 - 1))++[((⟨to,me3.2⟩:K2),0)]) from (XD cNtE (v0.set mi2 ((⟨me.2,to⟩:K2),me1.2 - 1)) [((⟨to,me3.2⟩:K2),0)]).symm)]; exact (ntAt (ntAtEnd hc1))),(knAt h10),trivial⟩ ?_
     rw [(show (Qo v0).set mi2 (.clos 0 [.agg [.int .i64 me.2,.int .i64 to]] [.int .i64 (me1.2 - 1)])=Qo (v0.set mi2 ((⟨me.2,to⟩:K2),me1.2 - 1)) from Kl v0 mi2 ((⟨me.2,to⟩:K2),me1.2 - 1))]; rw [(show Qo (v0.set mi2 ((⟨me.2,to⟩:K2),me1.2 - 1))++[.clos 0 [.agg [.int .i64 to,.int .i64 me3.2]] [.int .i64 0]]=Qo ((v0.set mi2 ((⟨me.2,to⟩:K2),me1.2 - 1))++[((⟨to,me3.2⟩:K2),0)]) from (XD cNtE (v0.set mi2 ((⟨me.2,to⟩:K2),me1.2 - 1)) [((⟨to,me3.2⟩:K2),0)]).symm)]; rw [(show (Qo ((v0.set mi2 ((⟨me.2,to⟩:K2),me1.2 - 1))++[((⟨to,me3.2⟩:K2),0)])).set ((v0.set mi2 ((⟨me.2,to⟩:K2),me1.2 - 1)).length) (.clos 0 [.agg [.int .i64 to,.int .i64 me3.2]] [.int .i64 1])=Qo (((v0.set mi2 ((⟨me.2,to⟩:K2),me1.2 - 1))++[((⟨to,me3.2⟩:K2),0)]).set ((v0.set mi2 ((⟨me.2,to⟩:K2),me1.2 - 1)).length) ((⟨to,me3.2⟩:K2),1)) from Kl ((v0.set mi2 ((⟨me.2,to⟩:K2),me1.2 - 1))++[((⟨to,me3.2⟩:K2),0)]) ((v0.set mi2 ((⟨me.2,to⟩:K2),me1.2 - 1)).length) ((⟨to,me3.2⟩:K2),1))]; exact (h g2)
 · have h:=h.2 (bneF hc0)
   obtain ⟨qe0,qe1⟩:=h
   exact p93_2_2 fr n v2 v1 to v0 g2 hE ⟨hc0,trivial⟩ (by rw [qe0]; try rfl) (by rw [qe1]; all_goals (first | rfl | (simp only [List.length_set]; done) | (simp only [List.length_set]; rfl) | (simp only [List.length_set,List.length_replicate]; done)))
def augL (n:List (K2 × Int)) (fr:Int) (p:Bool × List (K2 × Int)):Prop:=Lent Try.prog 93 [.mp 0 0 false,.int .i64 fr] [⟨true,0,0,true,Qo n,false⟩] (.bool p.1) [⟨true,0,0,true,Qo p.2,false⟩]
theorem aug_ex {V:Int} {n:List (K2 × Int)} {fr:Int} (hI:AugIn V n fr):∃ p,augI V n fr p∧augL n fr p:=by
 obtain ⟨hN,hV,hV1,hf0,hf1⟩:=hI
 have back:∀ (j:Nat) (L:List (Int × Int)) (v2:List Int) (to:Int) (m:List (K2 × Int)),ByI n fr L→BackI n L V j to m→∃ m2,augI V n fr (true,m2)∧∀ E,LentE Try.prog 93 [.mp 0 0 false] (.bool true) [⟨true,0,0,true,(Qo m2),false⟩] E→f93G2 E fr n v2 L to m:=by
  intro j
  induction j using Nat.strongRecOn with
  | ind j ih =>
   intro L v2 to m hB h
   by_cases hne:to=fr
   · subst hne
     exact ⟨m,h.done,fun E hE=>f93W2 to n v2 L to m (rv:=true) hE ⟨fun q=>absurd rfl q,fun _=>⟨rfl,rfl⟩⟩⟩
   · obtain ⟨p,i,e',hij,hj,hi,he,hp,hpos,htop,hst⟩:=h.step hB hV hne
     obtain ⟨i1,x,hx⟩:=nt_get (nv_pos hpos)
     have hxv:x.2=nv m ⟨p,to⟩:=(nv_at hx).symm
     have hkn:KnAt L to j (to,p):=kn_at hB.nd hj
     have t1:Turn m ⟨p,to⟩ (nv m ⟨p,to⟩ - 1) (m.set i1 (⟨p,to⟩,x.2 - 1)):=by
      have:=turn_set (x.2 - 1) hx
      rw [hxv] at this ⊢; exact this
     cases hh:Yq (m.set i1 ((⟨p,to⟩:K2),x.2 - 1)) ⟨to,p⟩ with
     | true =>
      obtain ⟨i2,y,hy⟩:=nt_get hh
      have hyv:y.2=nv (m.set i1 ((⟨p,to⟩:K2),x.2 - 1)) ⟨to,p⟩:=(nv_at hy).symm
      have t2:=turn_set (y.2+1) hy
      obtain ⟨hb,nx⟩:=hst _ ((m.set i1 ((⟨p,to⟩:K2),x.2 - 1)).set i2 (⟨to,p⟩,y.2+1)) t1
      rw [← hyv] at hb nx
      obtain ⟨m2,a1,a2⟩:=ih i hij L v2 p _ hB (nx t2)
      exact ⟨m2,a1,fun E hE=>f93W2 fr n v2 L to m (rv:=true) hE ⟨fun _=>⟨j,trivial,(to,p),hkn,i1,trivial,x,hx,⟨by omega,by omega⟩,i1,trivial,x,hx,j,trivial,(to,p),hkn,fun _=>⟨i2,trivial,y,hy,⟨by omega,by omega⟩,i2,trivial,y,hy,j,trivial,(to,p),hkn,a2 E hE⟩,fun q=>(by rw [hh] at q; cases q)⟩,fun q=>absurd q hne⟩⟩
     | false =>
      have t2:=turn_app 0 1 hh
      obtain ⟨hb,nx⟩:=hst _ (((m.set i1 ((⟨p,to⟩:K2),x.2 - 1))++[((⟨to,p⟩:K2),(0:Int))]).set (m.set i1 ((⟨p,to⟩:K2),x.2 - 1)).length (⟨to,p⟩,1)) t1
      rw [Qcc hh] at hb nx
      obtain ⟨m2,a1,a2⟩:=ih i hij L v2 p _ hB (nx t2)
      exact ⟨m2,a1,fun E hE=>f93W2 fr n v2 L to m (rv:=true) hE ⟨fun _=>⟨j,trivial,(to,p),hkn,i1,trivial,x,hx,⟨by omega,by omega⟩,i1,trivial,x,hx,j,trivial,(to,p),hkn,fun q=>(by rw [hh] at q; cases q),fun _=>⟨j,trivial,(to,p),hkn,a2 E hE⟩⟩,fun q=>absurd q hne⟩⟩
 have outer:∀ (d q:Nat) (L:List (Int × Int)) (v2:List Int) (k:Nat),129≤q+d→ByI n fr L→v2.drop k=(L.map Prod.fst).drop q→∃ p,augI V n fr p∧∀ E,LentE Try.prog 93 [.mp 0 0 false] (.bool p.1) [⟨true,0,0,true,(Qo p.2),false⟩] E→f93G0 E fr n k v2 L:=by
  intro d
  induction d with
  | zero =>
   intro q L v2 k hd hB hq
   have:=hB.card
   have hl:v2.length - k=0:=by have:=congrArg List.length hq; simp at this; omega
   cases hh:YS L 128 with
   | true =>
    obtain ⟨i,e,he⟩:=kn_get hh
    obtain ⟨m2,a1,a2⟩:=back i L v2 128 n hB (BackI.start hB hV hN (p:=e.2) (by rw [he.2.1]; exact he.1))
    exact ⟨(true,m2),a1,fun E hE=>f93W0 fr n k v2 L (rv:=true) hE ⟨fun h=>by omega,fun _=>⟨fun _=>⟨i,trivial,e,he,a2 E hE⟩,fun q=>(by rw [hh] at q; cases q)⟩⟩⟩
   | false=>exact ⟨(false,n),augI_no,fun E hE=>f93W0 fr n k v2 L (rv:=false) hE ⟨fun h=>by omega,fun _=>⟨fun q=>(by rw [hh] at q; cases q),fun _=>⟨rfl,rfl⟩⟩⟩⟩
  | succ d ih =>
   intro q L v2 k hd hB hq
   by_cases hl:v2.length - k=0
   · cases hh:YS L 128 with
     | true =>
      obtain ⟨i,e,he⟩:=kn_get hh
      obtain ⟨m2,a1,a2⟩:=back i L v2 128 n hB (BackI.start hB hV hN (p:=e.2) (by rw [he.2.1]; exact he.1))
      exact ⟨(true,m2),a1,fun E hE=>f93W0 fr n k v2 L (rv:=true) hE ⟨fun h=>by omega,fun _=>⟨fun _=>⟨i,trivial,e,he,a2 E hE⟩,fun q=>(by rw [hh] at q; cases q)⟩⟩⟩
     | false=>exact ⟨(false,n),augI_no,fun E hE=>f93W0 fr n k v2 L (rv:=false) hE ⟨fun h=>by omega,fun _=>⟨fun q=>(by rw [hh] at q; cases q),fun _=>⟨rfl,rfl⟩⟩⟩⟩
   · have inner:∀ (c t:Nat) (L:List (Int × Int)) (v2:List Int) (k:Nat),t+c=129→ByI n fr L→v2.drop k=(L.map Prod.fst).drop q→q<L.length→∃ p,augI V n fr p∧∀ E,LentE Try.prog 93 [.mp 0 0 false] (.bool p.1) [⟨true,0,0,true,(Qo p.2),false⟩] E→Qcq E fr n k v2 t L:=by
      intro c
      induction c with
      | zero =>
       intro t L v2 k ht hB hq hql
       have hln:=congrArg List.length hq
       simp only [List.length_drop,List.length_map] at hln
       obtain ⟨p,a1,a2⟩:=ih (q+1) L v2 (k+1) (by omega) hB (by rw [← List.drop_drop,hq,List.drop_drop])
       exact ⟨p,a1,fun E hE=>f93W1 fr n k v2 t L (rv:=p.1) hE ⟨fun h=>by omega,fun _=>⟨by omega,a2 E hE⟩⟩⟩
      | succ c ic =>
       intro t L v2 k ht hB hq hql
       have hln:=congrArg List.length hq
       simp only [List.length_drop,List.length_map] at hln
       have hcd:=hB.card
       cases hh:YS L (t:Int) with
       | true =>
        obtain ⟨i,e,he⟩:=kn_get hh
        obtain ⟨p,a1,a2⟩:=ic (t+1) L v2 k (by omega) hB hq hql
        exact ⟨p,a1,fun E hE=>f93W1 fr n k v2 t L (rv:=p.1) hE ⟨fun _=>⟨fun _=>⟨i,trivial,e,he,⟨by omega,by omega⟩,a2 E hE⟩,fun q=>(by rw [hh] at q; cases q)⟩,fun h=>by omega⟩⟩
       | false =>
        have hu0:L[q]?=some (L[q]'hql):=List.getElem?_eq_getElem hql
        rcases hue:L[q]'hql with ⟨u,pu⟩
        rw [hue] at hu0
        have hu:v2[k]?=some u:=by
         have h0:=congrArg (·[0]?) hq
         simpa [hu0] using h0
        have no:∀ (E:Env) (p:Bool × List (K2 × Int)),LentE Try.prog 93 [.mp 0 0 false] (.bool p.1) [⟨true,0,0,true,(Qo p.2),false⟩] E→Qcq E fr n k v2 (t+1) L→(∀ (i:Nat) (x:K2 × Int),NtAt n ⟨u,(t:Int)⟩ i x→¬ x.2 > 0)→Qcq E fr n k v2 t L:=fun E p hE hg hx=>f93W1 fr n k v2 t L (rv:=p.1) hE ⟨fun _=>⟨fun q=>by (rw [hh] at q; cases q),fun _=>⟨u,hu,fun r=>by
         obtain ⟨i,x,hi⟩:=nt_get r
         exact ⟨i,trivial,x,hi,fun q=>absurd q (hx i x hi),fun _=>⟨⟨by omega,by omega⟩,hg⟩⟩,fun _=>⟨⟨by omega,by omega⟩,hg⟩⟩⟩,fun h=>by omega⟩
        by_cases hp:0<nv n ⟨u,(t:Int)⟩
        · obtain ⟨i,x,hi⟩:=nt_get (nv_pos hp)
          have hx:=nv_at hi
          obtain ⟨p,a1,a2⟩:=ic (t+1) (L++[((t:Int),u)]) (v2.drop k++[(t:Int)]) 0 (by omega) (hB.push hu0 hh (by omega) (by omega) hp) (by
           rw [List.drop_zero,hq,List.map_append,List.drop_append_of_le_length (by simp; omega)]; rfl) (by simp; omega)
          exact ⟨p,a1,fun E hE=>f93W1 fr n k v2 t L (rv:=p.1) hE ⟨fun _=>⟨fun q=>by (rw [hh] at q; cases q),fun _=>⟨u,hu,fun _=>⟨i,trivial,x,hi,fun _=>⟨hh,by omega,by omega,⟨by omega,by omega⟩,a2 E hE⟩,fun q=>absurd (by omega) q⟩,fun r=>(by rw [nv_pos hp] at r; cases r)⟩⟩,fun h=>by omega⟩⟩
        · obtain ⟨p,a1,a2⟩:=ic (t+1) L v2 k (by omega) hB hq hql
          exact ⟨p,a1,fun E hE=>no E p hE (a2 E hE) (fun i x hi=>by have:=nv_at hi; omega)⟩
     have hln:=congrArg List.length hq
     simp only [List.length_drop,List.length_map] at hln
     obtain ⟨p,a1,a2⟩:=inner 129 0 L v2 k (by omega) hB hq (by omega)
     exact ⟨p,a1,fun E hE=>f93W0 fr n k v2 L (rv:=p.1) hE ⟨fun _=>a2 E hE,fun h=>absurd (by omega) h⟩⟩
 obtain ⟨p,a1,a2⟩:=outer 129 0 [(fr,fr)] [fr] 0 (by omega) (ByI.one hf0 hf1) rfl
 exact ⟨p,a1,lent_ofA (.mp 0 0 false) 0 rfl (fun n h=>by simp [refsBelows,QW] at h; exact h) Try.func93 f93b fun E hE=>f93W fr n (rv:=p.1) hE ⟨rfl,a2 E hE⟩⟩
/-- The same,chosen once for all. -/
noncomputable def augX (V:Int) (n:List (K2 × Int)) (fr:Int):Bool × List (K2 × Int):=@dite _ (∃ p,augI V n fr p∧augL n fr p) (Classical.propDecidable _) (fun h=>Classical.choose h) (fun _=>(false,n))
theorem augX_ok {V:Int} {n:List (K2 × Int)} {fr:Int} (hI:AugIn V n fr):augI V n fr (augX V n fr)∧augL n fr (augX V n fr):=by
 have h:=aug_ex hI
 unfold augX
 rw [dif_pos h]
 exact Classical.choose_spec h
/-- Where a set has no way out,none is found. -/
def AugNo (n:List (K2 × Int)) (fr:Int):Prop:=∃ (V:Int) (S:Int→Bool),AugIn V n fr∧cut S n≤0∧S fr=true∧S 128=false
theorem augNo_ok {n:List (K2 × Int)} {fr:Int} (h:AugNo n fr):Lent Try.prog 93 [.mp 0 0 false,.int .i64 fr] [⟨true,0,0,true,Qo n,false⟩] (.bool false) [⟨true,0,0,true,Qo n,false⟩]:=by
 obtain ⟨V,S,hI,hc,h1,h2⟩:=h
 obtain ⟨⟨b,m⟩,⟨a1,a2⟩,a3⟩:=aug_ex hI
 cases b with
 | true =>
  obtain ⟨n1,n2⟩:=a1 rfl
  have h3:cut S m=cut S n+(bif S 128 then 1 else 0) - bif S fr then 1 else 0:=n2 S
  have h0:0≤cut S m:=NetI.cut0 (V:=V+1) n1
  rw [h1,h2] at h3
  simp only [cond_true,cond_false] at h3
  omega
 | false =>
  have:=a2 rfl
  simp only at this
  subst this
  exact a3
end Go.Proofs.Ytemklbioijmjiaa
namespace Go.Proofs.Ytemklbioijmjiaa
open Go Ax
open Go.Proofs
def WaysPre (g:Gd) (l:List Ptc) (t:List Sit) (c:Int):Prop:=(GdSmall g∧l.length≤1000∧t.length≤1000)∧(newF g l t).2.2=0∧∃ b:Int,(0≤b∧b<(g.cells.length:Int))∧c ∈ Qv (newF g l t).1 b
/-- The nodes that a blocked cell traps,and the way into it. -/
def WT (f:Fld) (b:Int) (v:Int):Bool:=decide (0≤v∧v<2*(f.g.cells.length:Int)) && (decide (v=2*b) || QR f b (farK f b) (v / 2))
theorem VN {f:Fld} {b c:Int} (h:OnF f c):WT f b (2*c+1)=QR f b (farK f b) c:=by
 have h0:=h.lo; have h1:=h.hi
 unfold WT
 rw [decide_eq_true (show 0≤2*c+1∧2*c+1<2*(f.g.cells.length:Int) by omega),decide_eq_false (show ¬ 2*c+1=2*b by omega),show (2*c+1) / 2=c by omega]
 rfl
theorem trapS_in {f:Fld} {b c:Int} (h:OnF f c):WT f b (2*c)=(decide (c=b) || QR f b (farK f b) c):=by
 have h0:=h.lo; have h1:=h.hi
 unfold WT
 rw [decide_eq_true (show 0≤2*c∧2*c<2*(f.g.cells.length:Int) by omega),show (2*c) / 2=c by omega,Bool.true_and]
 congr 1
 by_cases e:c=b
 · rw [decide_eq_true e,decide_eq_true (by omega)]
 · rw [decide_eq_false e,decide_eq_false (by omega)]
theorem trapS_end {f:Fld} {b:Int} (hf:FldOk f):WT f b 128=false:=by
 have hg:=XF hf.g
 unfold WT
 rw [decide_eq_false (show ¬ (0≤(128:Int)∧(128:Int)<2*(f.g.cells.length:Int)) by omega)]
 rfl
theorem WU {f:Fld} {b c:Int} {far:List Int}:QR f b far c=true ↔ QF f c=true∧¬ c=b∧atI far c<0:=by
 simp only [QR,Bool.and_eq_true,Bool.not_eq_true',decide_eq_false_iff_not,decide_eq_true_eq]
theorem Qay {f:Fld} {b c:Int} (h:OnF f c) (hc:Va f.g c=3):QR f b (farK f b) c=false:=by
 cases hh:QR f b (farK f b) c with
 | false=>rfl
 | true =>
  obtain ⟨-,h2,h3⟩:=WU.1 hh
  obtain ⟨d,hd⟩:=Qco (b:=b) h.ok
  have:=hd.gate c h hc h2
  omega
theorem trapB_near {f:Fld} {b c k:Int} (h:OnF f c) (hk:k ∈ Ql f.g c) (hc:QR f b (farK f b) c=true) (hf:QF f k=true):k=b ∨ QR f b (farK f b) k=true:=by
 by_cases e:k=b
 · exact .inl e
 · right
   obtain ⟨c1,c2,c3⟩:=WU.1 hc
   refine WU.2 ⟨hf,e,?_⟩
   obtain ⟨d,hd⟩:=Qco (b:=b) h.ok
   have hK:=Yi h hk
   rcases Int.lt_or_le (atI (farK f b) k) 0 with q | q
   · exact q
   · exfalso
     have hm:=hd.vis k hK q
     rw [List.append_nil] at hm
     have:=hd.cl k hm c (Qaf h.on hk) c1 c2
     omega
theorem cut_cons (S:Int→Bool) (e:K2 × Int) (l:List (K2 × Int)):cut S (e :: l)=cutE S e+cut S l:=rfl
theorem side_cut {f:Fld} {b c:Int} (h:OnF f c):∀ (l:List Int),(∀ k ∈ l,k ∈ Ql f.g c)→cut (WT f b) (Qbw f c l)=0
 | [],_=>rfl
 | k :: l,hl=>by
  have ih:=side_cut (b:=b) h l fun x hx=>hl x (List.mem_cons_of_mem _ hx)
  have hk:=hl k List.mem_cons_self
  rw [QaA,QcF,ih]
  split
  · rename_i hf
    show cutE _ _+0+0=0
    unfold cutE
    simp only
    rw [VN h,trapS_in (Yi h hk)]
    cases hc:QR f b (farK f b) c with
    | false=>rfl
    | true =>
     rcases trapB_near h hk hc hf with e | e
     · rw [decide_eq_true e]; rfl
     · rw [e,Bool.or_true]; rfl
  · rfl
theorem chunk_cut {f:Fld} {b c:Int} (h:OnF f c):cut (WT f b) (yo f c)≤if c=b then 1 else 0:=by
 unfold yo
 split
 · rename_i hf
   have hrest:cut (WT f b) (if Va f.g c=3 then [((⟨2*c+1,128⟩:K2),(1:Int))] else Qbw f c (Ql f.g c))=0:=by
    split
    · rename_i hc
      show cutE _ _+0=0
      unfold cutE
      simp only
      rw [VN h,Qay h hc]; rfl
    · exact side_cut h _ fun _ h=>h
   rw [cut_cons,hrest]
   unfold cutE
   simp only
   rw [VN h,trapS_in h]
   by_cases e:c=b
   · rw [if_pos e]
     cases (decide (c=b) || QR f b (farK f b) c) && !QR f b (farK f b) c <;> simp
   · rw [if_neg e,decide_eq_false e]
     cases QR f b (farK f b) c <;> simp
 · show (0:Int)≤_
   split <;> omega
theorem netGo_cut {f:Fld} {b:Int} (hf:FldOk f):∀ (d i:Nat) (n:List (K2 × Int)),i+d=f.g.cells.length→cut (WT f b) (Qao f d i n)≤cut (WT f b) n+if (i:Int)≤b then 1 else 0
 | 0,i,n,hd=>by
  unfold Qao
  split <;> omega
 | d+1,i,n,hd=>by
  have ih:=netGo_cut (b:=b) hf d (i+1) (n++yo f (i:Int)) (by omega)
  have hc:=chunk_cut (b:=b) (c:=(i:Int)) (f:=f) ⟨hf,by omega,by omega⟩
  rw [QcF] at ih
  unfold Qao
  refine Int.le_trans ih ?_
  split <;> split at hc <;> split <;> omega
theorem netGo_val {f:Fld}:∀ (d i:Nat) (n:List (K2 × Int)),NetI 1 n→NetI 1 (Qao f d i n)
 | 0,i,n,h=>h
 | d+1,i,n,h=>by
  unfold Qao
  refine netGo_val d (i+1) _ fun e he=>?_
  rcases List.mem_append.1 he with he | he
  · exact h e he
  · have one:e.2=1:=by
     unfold yo at he
     split at he
     · rcases List.mem_cons.1 he with rfl | he
       · rfl
       · split at he
         · rw [List.mem_singleton] at he; subst he; rfl
         · unfold Qbw at he
           obtain ⟨k,-,rfl⟩:=List.mem_map.1 he; rfl
     · cases he
    omega
theorem netK_in {f:Fld} {c:Int} (h:OnF f c):AugIn 1 (netK f) (2*c+1):=by
 have hg:=XF h.ok.g
 have h0:=h.lo; have h1:=h.hi
 exact ⟨netGo_val _ _ _ (fun e he=>by cases he),by omega,by omega,by omega,by omega⟩
theorem netK_no {f:Fld} {b c:Int} (h:OnF f c) (hc:QR f b (farK f b) c=true) (ht:(augX 1 (netK f) (2*c+1)).1=true):AugNo (augX 1 (netK f) (2*c+1)).2 (2*c+1):=by
 have hI:=netK_in h
 obtain ⟨a1,a2⟩:=(augX_ok hI).1.1 ht
 refine ⟨2,WT f b,⟨a1,by omega,by omega,hI.lo,hI.hi⟩,?_,by rw [VN h]; exact hc,trapS_end h.ok⟩
 have h1:=a2 (WT f b)
 have h2:=netGo_cut (b:=b) h.ok f.g.cells.length 0 [] (by omega)
 rw [VN h,hc,trapS_end h.ok] at h1
 simp only [cond_true,cond_false] at h1
 have h3:cut (WT f b) (netK f)≤1:=by
  refine Int.le_trans h2 ?_
  show (0:Int)+_≤1
  split <;> omega
 omega
theorem f39b:Try.f39.body=some (Qd Try.prog 39):=by kernel_rfl
abbrev qu (g:Gd) (l:(List Ptc)) (t:(List Sit)):List AV:=[.int .i64 ((((newF g l t).1).g).w),.int .i64 ((((newF g l t).1).g).h),.rsl (rowI ((((newF g l t).1).g).cells)) 0 (((((newF g l t).1).g).cells).length),.rsl (rowI ((((newF g l t).1).g).hts)) 0 (((((newF g l t).1).g).hts).length),.rsl (Qc (((newF g l t).1).ps)) 0 ((((newF g l t).1).ps).length),.rsl (Qb (((newF g l t).1).ss)) 0 ((((newF g l t).1).ss).length),.rsl (rowI (((newF g l t).1).tk)) 0 ((((newF g l t).1).tk).length)]
abbrev z39_2 (g:Gd):List AV:=[.int .i64 g.w,.int .i64 g.h,.rsl (rowI g.cells) 0 g.cells.length,.rsl (rowI g.hts) 0 g.hts.length]
abbrev z39_3 (g:Gd) (l:(List Ptc)) (t:(List Sit)):List Blk:=[⟨true,0,0,true,(Qo (netK ((newF g l t).1))),false⟩]
abbrev z39_4 (g:Gd) (l:(List Ptc)) (t:(List Sit)):List AV:=[.agg (z39_2 g),.rsl (Qc l) 0 l.length,.rsl (Qb t) 0 t.length,.sl 0 0 0 1 1]
abbrev z39_5 (g:Gd) (l:(List Ptc)) (t:(List Sit)) (c:Int):List AV:=[.agg (z39_2 g),.rsl (Qc l) 0 l.length,.rsl (Qb t) 0 t.length,.int .i64 c]
noncomputable abbrev z39_6 (g:Gd) (l:(List Ptc)) (t:(List Sit)) (c:Int):=Qo (augX 1 (netK ((newF g l t).1)) (2*c+1)).2
theorem p39_start_0 (g:Gd) (l:(List Ptc)) (t:(List Sit)) (c:Int) {E:Env} {res:AV} (hE:PureNE Try.prog 39 res E) (ho:AllP [QO Try.prog (.clos 53 [] []) (z39_4 g l t) [⟨true,0,1,true,[.int .i64 c],true⟩] (.tup [.nilPtr,.int .i64 1]) [⟨false,1,1,true,[],false⟩],true=true])
 (hr:(.tup [.nilSl,.nilSl,.int .i64 1])=res):G Try.prog E [.code (Qd Try.prog 39)] ⟨(z39_5 g l t c)++unds (Try.f39.ntmps - 4),[]⟩ :=
 Xg (n:=400) (evs:=[.lent [1] (.tup [.nilPtr,.int .i64 1]) [⟨false,1,1,true,[],false⟩],.b true]) (obs:=_) hE Try.func39 Qg (by kernel_rfl) ho hr
theorem p39_start_1 (g:Gd) (l:(List Ptc)) (t:(List Sit)) (c:Int) {E:Env} {res:AV} (hE:PureNE Try.prog 39 res E) (ho:AllP [QO Try.prog (.clos 53 [] []) (z39_4 g l t) [⟨true,0,1,true,[.int .i64 c],true⟩] (.tup [.rptr (qu g l t) 0,.int .i64 0]) [⟨false,1,1,true,[],false⟩],false=false,Qi Try.prog (.clos 54 [] []) [.rptr (qu g l t) 0,.int .i64 c] (.bool (QF ((newF g l t).1) c)),(!(QF ((newF g l t).1) c))=true])
 (hr:(.tup [.nilSl,.nilSl,.int .i64 1])=res):G Try.prog E [.code (Qd Try.prog 39)] ⟨(z39_5 g l t c)++unds (Try.f39.ntmps - 4),[]⟩ :=
 Xg (n:=400) (evs:=[.lent [1] (.tup [.rptr (qu g l t) 0,.int .i64 0]) [⟨false,1,1,true,[],false⟩],.b false,.v (.bool (QF ((newF g l t).1) c)),.b true]) (obs:=_) hE Try.func39 Qg (by kernel_rfl) ho hr
theorem p39_start_3 (g:Gd) (l:(List Ptc)) (t:(List Sit)) (c:Int) (e:Int) {E:Env} {res:AV} (hE:PureNE Try.prog 39 res E) (ho:AllP [QO Try.prog (.clos 53 [] []) (z39_4 g l t) [⟨true,0,1,true,[.int .i64 c],true⟩] (.tup [.rptr (qu g l t) 0,.int .i64 0]) [⟨false,1,1,true,[],false⟩],false=false,Qi Try.prog (.clos 54 [] []) [.rptr (qu g l t) 0,.int .i64 c] (.bool (QF ((newF g l t).1) c)),(!(QF ((newF g l t).1) c))=false,0≤c∧c<((((((newF g l t).1).g).cells).length:Nat):Int),((rowI ((((newF g l t).1).g).cells)).drop (0+(Int.toNat c)*1)).take 1=[.int .i64 e],(e == 3)=false,QO Try.prog (.clos 92 [] []) [.rptr (qu g l t) 0] [] (.mp 0 0 false) (z39_3 g l t),QO Try.prog (.clos 92 [] []) [.rptr (qu g l t) 0] [] (.mp 0 0 false) (z39_3 g l t),1≤1,1≤1,Qi Try.prog (.clos 94 [] []) [.int .i64 c] (.int .i64 (2*c+1)),PureU Try.prog (.clos 93 [] []) [.mp 3 0 false,.int .i64 (2*c+1)] 3 ⟨true,0,0,true,(Qo (netK ((newF g l t).1))),false⟩ ⟨true,0,0,true,(z39_6 g l t c),false⟩ (.bool ((augX 1 (netK ((newF g l t).1)) (2*c+1)).1)),(!(augX 1 (netK ((newF g l t).1)) (2*c+1)).1)=true,true=true])
 (hr:(.tup [.nilSl,.nilSl,.int .i64 3])=res):G Try.prog E [.code (Qd Try.prog 39)] ⟨(z39_5 g l t c)++unds (Try.f39.ntmps - 4),[]⟩ :=
 Xg (n:=400) (evs:=[.lent [1] (.tup [.rptr (qu g l t) 0,.int .i64 0]) [⟨false,1,1,true,[],false⟩],.b false,.v (.bool (QF ((newF g l t).1) c)),.b false,.auto,.ld (.int .i64 e),.b false,.lent [] (.mp 0 0 false) (z39_3 g l t),.lent [] (.mp 0 0 false) (z39_3 g l t),.v (.int .i64 (2*c+1)),.lent [3] (.bool ((augX 1 (netK ((newF g l t).1)) (2*c+1)).1)) [⟨true,0,0,true,(z39_6 g l t c),false⟩],.b true,.b true]) (obs:=_) hE Try.func39 Qg (by kernel_rfl) ho hr
theorem p39_start_4 (g:Gd) (l:(List Ptc)) (t:(List Sit)) (c:Int) (e:Int) {E:Env} {res:AV} (hE:PureNE Try.prog 39 res E) (ho:AllP [QO Try.prog (.clos 53 [] []) (z39_4 g l t) [⟨true,0,1,true,[.int .i64 c],true⟩] (.tup [.rptr (qu g l t) 0,.int .i64 0]) [⟨false,1,1,true,[],false⟩],false=false,Qi Try.prog (.clos 54 [] []) [.rptr (qu g l t) 0,.int .i64 c] (.bool (QF ((newF g l t).1) c)),(!(QF ((newF g l t).1) c))=false,0≤c∧c<((((((newF g l t).1).g).cells).length:Nat):Int),((rowI ((((newF g l t).1).g).cells)).drop (0+(Int.toNat c)*1)).take 1=[.int .i64 e],(e == 3)=false,QO Try.prog (.clos 92 [] []) [.rptr (qu g l t) 0] [] (.mp 0 0 false) (z39_3 g l t),QO Try.prog (.clos 92 [] []) [.rptr (qu g l t) 0] [] (.mp 0 0 false) (z39_3 g l t),1≤1,1≤1,Qi Try.prog (.clos 94 [] []) [.int .i64 c] (.int .i64 (2*c+1)),PureU Try.prog (.clos 93 [] []) [.mp 3 0 false,.int .i64 (2*c+1)] 3 ⟨true,0,0,true,(Qo (netK ((newF g l t).1))),false⟩ ⟨true,0,0,true,(z39_6 g l t c),false⟩ (.bool ((augX 1 (netK ((newF g l t).1)) (2*c+1)).1)),(!(augX 1 (netK ((newF g l t).1)) (2*c+1)).1)=false,Qi Try.prog (.clos 94 [] []) [.int .i64 c] (.int .i64 (2*c+1)),PureU Try.prog (.clos 93 [] []) [.mp 3 0 false,.int .i64 (2*c+1)] 3 ⟨true,0,0,true,(z39_6 g l t c),false⟩ ⟨true,0,0,true,(z39_6 g l t c),false⟩ (.bool false),true=true])
 (hr:(.tup [.nilSl,.nilSl,.int .i64 3])=res):G Try.prog E [.code (Qd Try.prog 39)] ⟨(z39_5 g l t c)++unds (Try.f39.ntmps - 4),[]⟩ :=
 Xg (n:=400) (evs:=[.lent [1] (.tup [.rptr (qu g l t) 0,.int .i64 0]) [⟨false,1,1,true,[],false⟩],.b false,.v (.bool (QF ((newF g l t).1) c)),.b false,.auto,.ld (.int .i64 e),.b false,.lent [] (.mp 0 0 false) (z39_3 g l t),.lent [] (.mp 0 0 false) (z39_3 g l t),.v (.int .i64 (2*c+1)),.lent [3] (.bool ((augX 1 (netK ((newF g l t).1)) (2*c+1)).1)) [⟨true,0,0,true,(z39_6 g l t c),false⟩],.b false,.v (.int .i64 (2*c+1)),.lent [3] (.bool false) [⟨true,0,0,true,(z39_6 g l t c),false⟩],.b true]) (obs:=_) hE Try.func39 Qg (by kernel_rfl) ho hr
theorem p39_start_5 (g:Gd) (l:(List Ptc)) (t:(List Sit)) (c:Int) {E:Env} {res:AV} (hE:PureNE Try.prog 39 res E) (ho:AllP [QO Try.prog (.clos 53 [] []) (z39_4 g l t) [⟨true,0,1,true,[.int .i64 c],true⟩] (.tup [.nilPtr,.int .i64 ((newF g l t).2.2)]) [⟨false,1,1,true,[],false⟩],((newF g l t).2.2 != 0)=true])
 (hr:(.tup [.nilSl,.nilSl,.int .i64 ((newF g l t).2.2)])=res):G Try.prog E [.code (Qd Try.prog 39)] ⟨(z39_5 g l t c)++unds (Try.f39.ntmps - 4),[]⟩ :=
 Xg (n:=400) (evs:=[.lent [1] (.tup [.nilPtr,.int .i64 ((newF g l t).2.2)]) [⟨false,1,1,true,[],false⟩],.b true]) (obs:=_) hE Try.func39 Qg (by kernel_rfl) ho hr
theorem f39W (g:Gd) (l:(List Ptc)) (t:(List Sit)) (c:Int) {E:Env} {rv:AV} (hE:PureNE Try.prog 39 rv E)
 (h:(((newF g l t).2.2=0→((([c].any (offG g))=true→((GdSmall g∧l.length≤1000∧t.length≤1000)∧rv=(.tup [.nilSl,.nilSl,.int .i64 1])))∧(([c].any (offG g))=false→((GdSmall g∧l.length≤1000∧t.length≤1000)∧((OnF ((newF g l t).1) c)∧(((QF ((newF g l t).1) c)=false→rv=(.tup [.nilSl,.nilSl,.int .i64 1]))∧((QF ((newF g l t).1) c)=true→(0≤c∧(∃ e:Int,((((newF g l t).1).g).cells)[Int.toNat c]?=some e∧((e=3→False)∧(¬ (e=3)→((FldOk ((newF g l t).1))∧((FldOk ((newF g l t).1))∧((0≤c∧c≤1000)∧((AugIn 1 (netK ((newF g l t).1)) (2*c+1))∧(((!(augX 1 (netK ((newF g l t).1)) (2*c+1)).1)=true→rv=(.tup [.nilSl,.nilSl,.int .i64 3]))∧((!(augX 1 (netK ((newF g l t).1)) (2*c+1)).1)=false→((0≤c∧c≤1000)∧((AugNo ((augX 1 (netK ((newF g l t).1)) (2*c+1)).2) (2*c+1))∧rv=(.tup [.nilSl,.nilSl,.int .i64 3]))))))))))))))))))))∧(¬ ((newF g l t).2.2=0)→((GdSmall g∧l.length≤1000∧t.length≤1000)∧rv=(.tup [.nilSl,.nilSl,.int .i64 ((newF g l t).2.2)]))))):G Try.prog E [.code (Qd Try.prog 39)] ⟨[.agg [.int .i64 g.w,.int .i64 g.h,.rsl (rowI g.cells) 0 g.cells.length,.rsl (rowI g.hts) 0 g.hts.length],.rsl (Qc l) 0 l.length,.rsl (Qb t) 0 t.length,.int .i64 c]++unds (Try.f39.ntmps - 4),[]⟩:=by
 rcases bft (decide ((newF g l t).2.2=0)) with hc0 | hc0
 · have h:=h.1 (odt hc0)
   rcases bft ([c].any (offG g)) with hc1 | hc1
   · have h:=h.1 hc1
     obtain ⟨h1,h⟩:=h
     exact p39_start_0 g l t c hE ⟨(Xb (fv':=.clos 53 [] []) (args':=[.agg [.int .i64 g.w,.int .i64 g.h,.rsl (rowI g.cells) 0 g.cells.length,.rsl (rowI g.hts) 0 g.hts.length],.rsl (Qc l) 0 l.length,.rsl (Qb t) 0 t.length,.rsl [.int .i64 c] 0 1]) (o1:=[]) (o2:=[0=0]) (by kernel_rfl) trivial (by kernel_rfl) ⟨rfl,trivial⟩ (Qk Try.func53 (by kernel_rfl) Qcz (wc1_off g l t c h1 hc0 hc1))),rfl,trivial⟩ (by rw [h]; try rfl)
   · have h:=h.2 hc1
     obtain ⟨h1,h⟩:=h
     obtain ⟨h2,h⟩:=h
     rcases bft (!(QF ((newF g l t).1) c)) with hc2 | hc2
     · have h:=h.1 (bnT hc2)
       exact p39_start_1 g l t c hE ⟨(Xb (fv':=.clos 53 [] []) (args':=[.agg [.int .i64 g.w,.int .i64 g.h,.rsl (rowI g.cells) 0 g.cells.length,.rsl (rowI g.hts) 0 g.hts.length],.rsl (Qc l) 0 l.length,.rsl (Qb t) 0 t.length,.rsl [.int .i64 c] 0 1]) (o1:=[]) (o2:=[0=0]) (by kernel_rfl) trivial (by kernel_rfl) ⟨rfl,trivial⟩ (Qk Try.func53 (by kernel_rfl) Qcz (wc1_in g l t c h1 hc0 hc1))),rfl,(Qk Try.func54 (by kernel_rfl) VI (Xp ((newF g l t).1) c h2)),hc2,trivial⟩ (by rw [h]; try rfl)
     · have h:=h.2 (bnF hc2)
       obtain ⟨h4,h⟩:=h
       obtain ⟨e,h3,h⟩:=h
       rcases bft (e == 3) with hc3 | hc3
       · have h:=h.1 (eq_of_beq hc3)
         exact h.elim
       · have h:=h.2 (ne_of_beq_false hc3)
         obtain ⟨h5,h⟩:=h
         obtain ⟨h6,h⟩:=h
         obtain ⟨h7,h⟩:=h
         obtain ⟨h8,h⟩:=h
         rcases bft (!(augX 1 (netK ((newF g l t).1)) (2*c+1)).1) with hc4 | hc4
         · have h:=h.1 hc4
           exact p39_start_3 g l t c e hE ⟨(Xb (fv':=.clos 53 [] []) (args':=[.agg [.int .i64 g.w,.int .i64 g.h,.rsl (rowI g.cells) 0 g.cells.length,.rsl (rowI g.hts) 0 g.hts.length],.rsl (Qc l) 0 l.length,.rsl (Qb t) 0 t.length,.rsl [.int .i64 c] 0 1]) (o1:=[]) (o2:=[0=0]) (by kernel_rfl) trivial (by kernel_rfl) ⟨rfl,trivial⟩ (Qk Try.func53 (by kernel_rfl) Qcz (wc1_in g l t c h1 hc0 hc1))),rfl,(Qk Try.func54 (by kernel_rfl) VI (Xp ((newF g l t).1) c h2)),hc2,(Qj h4 h3),(rp cI 1 0 1 h3),hc3,(Qt Try.func92 (by kernel_rfl) f92b (qf ((newF g l t).1) h5)),(Qt Try.func92 (by kernel_rfl) f92b (qf ((newF g l t).1) h6)),(by decide),(by decide),(u94 (Vx c h7)),(Vu (Qt Try.func93 (by kernel_rfl) f93b (augX_ok h8).2) rfl rfl rfl rfl rfl rfl),hc4,rfl,trivial⟩ (by rw [h]; try rfl)
         · have h:=h.2 hc4
           obtain ⟨h9,h⟩:=h
           obtain ⟨h10,h⟩:=h
           exact p39_start_4 g l t c e hE ⟨(Xb (fv':=.clos 53 [] []) (args':=[.agg [.int .i64 g.w,.int .i64 g.h,.rsl (rowI g.cells) 0 g.cells.length,.rsl (rowI g.hts) 0 g.hts.length],.rsl (Qc l) 0 l.length,.rsl (Qb t) 0 t.length,.rsl [.int .i64 c] 0 1]) (o1:=[]) (o2:=[0=0]) (by kernel_rfl) trivial (by kernel_rfl) ⟨rfl,trivial⟩ (Qk Try.func53 (by kernel_rfl) Qcz (wc1_in g l t c h1 hc0 hc1))),rfl,(Qk Try.func54 (by kernel_rfl) VI (Xp ((newF g l t).1) c h2)),hc2,(Qj h4 h3),(rp cI 1 0 1 h3),hc3,(Qt Try.func92 (by kernel_rfl) f92b (qf ((newF g l t).1) h5)),(Qt Try.func92 (by kernel_rfl) f92b (qf ((newF g l t).1) h6)),(by decide),(by decide),(u94 (Vx c h7)),(Vu (Qt Try.func93 (by kernel_rfl) f93b (augX_ok h8).2) rfl rfl rfl rfl rfl rfl),hc4,(u94 (Vx c h9)),(Vu (Qt Try.func93 (by kernel_rfl) f93b (augNo_ok h10)) rfl rfl rfl rfl rfl rfl),rfl,trivial⟩ (by rw [h]; try rfl)
 · have h:=h.2 (odf hc0)
   obtain ⟨h1,h⟩:=h
   exact p39_start_5 g l t c hE ⟨(Xb (fv':=.clos 53 [] []) (args':=[.agg [.int .i64 g.w,.int .i64 g.h,.rsl (rowI g.cells) 0 g.cells.length,.rsl (rowI g.hts) 0 g.hts.length],.rsl (Qc l) 0 l.length,.rsl (Qb t) 0 t.length,.rsl [.int .i64 c] 0 1]) (o1:=[]) (o2:=[0=0]) (by kernel_rfl) trivial (by kernel_rfl) ⟨rfl,trivial⟩ (Qk Try.func53 (by kernel_rfl) Qcz (wc1_bad g l t c h1 hc0))),(by have hq:=hc0; simpa using hq),trivial⟩ (by rw [h]; try rfl)
theorem Ways_ok (g:Gd) (l:List Ptc) (t:List Sit) (c:Int) (h:WaysPre g l t c):qt Try.prog 39 [.agg [.int .i64 g.w,.int .i64 g.h,.rsl (rowI g.cells) 0 g.cells.length,.rsl (rowI g.hts) 0 g.hts.length],.rsl (Qc l) 0 l.length,.rsl (Qb t) 0 t.length,.int .i64 c] (.tup [.nilSl,.nilSl,.int .i64 3]):=yB Try.func39 f39b fun E hE=>by
 obtain ⟨hs,h0,b,hb,hc⟩:=h
 obtain ⟨hF,hG,-⟩:=YH h0
 obtain ⟨⟨c1,c2,c3⟩,c4,c5⟩:=Vi.1 hc
 have hO:OnF (newF g l t).1 c:=⟨hF,c4,c5⟩
 have hT:QR (newF g l t).1 b (farK (newF g l t).1 b) c=true:=WU.2 ⟨c1,c2,c3⟩
 have hg:=XF hF.g
 have hcell:=hO.on.cell
 refine f39W g l t c hE ⟨fun _=>⟨fun q=>?_,fun _=>⟨hs,hO,fun q=>(by rw [c1] at q; cases q),fun _=>⟨c4,_,hcell,fun q=>?_,fun q=>⟨hF,hF,⟨by omega,by omega⟩,netK_in hO,fun _=>rfl,fun q=>⟨⟨by omega,by omega⟩,netK_no hO hT (by simpa using q),rfl⟩⟩⟩⟩⟩,fun q=>absurd h0 q⟩
 · have hoff:offG g c=false:=by
    simp only [offG,outB,Bool.not_eq_false']
    exact QI.2 ⟨c4,by rw [← hG]; omega⟩
   rw [List.any_cons,hoff] at q
   cases q
 · have:=Qay (b:=b) hO q
   rw [hT] at this; cases this
end Go.Proofs.Ytemklbioijmjiaa
namespace Go.Proofs.Ytemklbioijmjiaa
open Go Ax
open Go.Proofs
structure Fie where
 ps:List Ptc
 ss:List Sit
 cr:List Int
theorem qN:Try.f36.body=some (Qd Try.prog 36):=by kernel_rfl
theorem p36n_start_0 (g:Gd) {E:Env} {res:AV} (hE:PureNE Try.prog 36 res E) (ho:AllP [0=0,0=0,(0+g.cells.length)≤2147483648,((rowI g.cells).drop 0).take (g.cells.length*1)=(rowI g.cells),(rowI g.cells).length=(g.cells.length*1),noRefs (rowI g.cells)=true,0=0,0=0,(0+g.hts.length)≤2147483648,((rowI g.hts).drop 0).take (g.hts.length*1)=(rowI g.hts),(rowI g.hts).length=(g.hts.length*1),noRefs (rowI g.hts)=true,4≤4,1=1,∀ x ∈ (rowI g.cells),Xt x=true,1=1,∀ x ∈ (rowI g.hts),Xt x=true])
 (hr:(.agg [.int .i64 g.w,.int .i64 g.h,.rsl (rowI g.cells) 0 (0+g.cells.length),.rsl (rowI g.hts) 0 (0+g.hts.length)])=res):G Try.prog E [.code (Qd Try.prog 36)] ⟨[.agg [.int .i64 g.w,.int .i64 g.h,.rsl (rowI g.cells) 0 g.cells.length,.rsl (rowI g.hts) 0 g.hts.length]]++unds (Try.f36.ntmps - 1),[]⟩ :=
 Xg (n:=400) (evs:=[.cs (rowI g.cells),.cs (rowI g.hts)]) (obs:=_) hE Try.func36 Qg (by kernel_rfl) ho hr
theorem f36nW (g:Gd) {E:Env} {rv:AV} (hE:PureNE Try.prog 36 rv E)
 (h:((0+g.cells.length)≤2147483648∧((0+g.hts.length)≤2147483648∧rv=(.agg [.int .i64 g.w,.int .i64 g.h,.rsl (rowI g.cells) 0 (0+g.cells.length),.rsl (rowI g.hts) 0 (0+g.hts.length)])))):G Try.prog E [.code (Qd Try.prog 36)] ⟨[.agg [.int .i64 g.w,.int .i64 g.h,.rsl (rowI g.cells) 0 g.cells.length,.rsl (rowI g.hts) 0 g.hts.length]]++unds (Try.f36.ntmps - 1),[]⟩:=by
 obtain ⟨h1,h⟩:=h
 obtain ⟨h2,h⟩:=h
 exact p36n_start_0 g hE ⟨rfl,rfl,h1,(by exact QM cI (fun _=>rfl) g.cells),(by exact QC cI (fun _=>rfl) g.cells),(by exact QV cI (fun _=>rfl) g.cells),rfl,rfl,h2,(by exact QM cI (fun _=>rfl) g.hts),(by exact QC cI (fun _=>rfl) g.hts),(by exact QV cI (fun _=>rfl) g.hts),(by decide),rfl,(Yw _),rfl,(Yw _),trivial⟩ (by rw [h]; all_goals (try rw [(show AV.rsl (rowI g.cells) 0 (0+g.cells.length)=AV.rsl (rowI g.cells) 0 g.cells.length from by rw [show (0+g.cells.length)=g.cells.length from by simp])]); all_goals (try rw [(show AV.rsl (rowI g.hts) 0 (0+g.hts.length)=AV.rsl (rowI g.hts) 0 g.hts.length from by rw [show (0+g.hts.length)=g.hts.length from by simp])]); try rfl)
theorem f36lb:Try.f36.body=some (Qd Try.prog 36):=by kernel_rfl
theorem p36l_start_0 (g:Gd) {E:Env} {res:AV} {bs2:List Blk} (hE:LentE Try.prog 36 [] res bs2 E) (ho:AllP [0=0,0=0,(0+g.cells.length)≤2147483648,((rowI g.cells).drop 0).take (g.cells.length*1)=(rowI g.cells),(rowI g.cells).length=(g.cells.length*1),noRefs (rowI g.cells)=true,0=0,0=0,(0+g.hts.length)≤2147483648,((rowI g.hts).drop 0).take (g.hts.length*1)=(rowI g.hts),(rowI g.hts).length=(g.hts.length*1),noRefs (rowI g.hts)=true,4≤4])
 (hr:(.agg [.int .i64 g.w,.int .i64 g.h,.sl 2 1 0 (0+g.cells.length) 1,.sl 3 1 0 (0+g.hts.length) 1])=res) (hb:[⟨true,0,1,true,[.int .i64 g.w,.int .i64 g.h,.rsl (rowI g.cells) 0 g.cells.length,.rsl (rowI g.hts) 0 g.hts.length],false⟩,⟨true,0,1,false,[.int .i64 g.w,.int .i64 g.h,.sl 2 1 0 (0+g.cells.length) 1,.sl 3 1 0 (0+g.hts.length) 1],false⟩,⟨true,1,1,true,(rowI g.cells),true⟩,⟨true,1,1,true,(rowI g.hts),true⟩]=bs2):G Try.prog E [.code (Qd Try.prog 36)] ⟨[.agg [.int .i64 g.w,.int .i64 g.h,.rsl (rowI g.cells) 0 g.cells.length,.rsl (rowI g.hts) 0 g.hts.length]]++unds (Try.f36.ntmps - 1),[]⟩ :=
 Qr (n:=400) (live:=[2]) (m:=4) (evs:=[.cs (rowI g.cells),.cs (rowI g.hts)]) (obs:=_) hE (hE.nogh0 _) Try.func36 Qg (by kernel_rfl) ho hr hb
theorem f36lW (g:Gd) {E:Env} {res:AV} {bs2:List Blk} (hE:LentE Try.prog 36 [] res bs2 E)
 (h:((0+g.cells.length)≤2147483648∧((0+g.hts.length)≤2147483648∧((.agg [.int .i64 g.w,.int .i64 g.h,.sl 2 1 0 (0+g.cells.length) 1,.sl 3 1 0 (0+g.hts.length) 1])=res∧[⟨true,0,1,true,[.int .i64 g.w,.int .i64 g.h,.rsl (rowI g.cells) 0 g.cells.length,.rsl (rowI g.hts) 0 g.hts.length],false⟩,⟨true,0,1,false,[.int .i64 g.w,.int .i64 g.h,.sl 2 1 0 (0+g.cells.length) 1,.sl 3 1 0 (0+g.hts.length) 1],false⟩,⟨true,1,1,true,(rowI g.cells),true⟩,⟨true,1,1,true,(rowI g.hts),true⟩]=bs2)))):G Try.prog E [.code (Qd Try.prog 36)] ⟨[.agg [.int .i64 g.w,.int .i64 g.h,.rsl (rowI g.cells) 0 g.cells.length,.rsl (rowI g.hts) 0 g.hts.length]]++unds (Try.f36.ntmps - 1),[]⟩:=by
 obtain ⟨h1,h⟩:=h
 obtain ⟨h2,h⟩:=h
 exact p36l_start_0 g hE ⟨rfl,rfl,h1,(by exact QM cI (fun _=>rfl) g.cells),(by exact QC cI (fun _=>rfl) g.cells),(by exact QV cI (fun _=>rfl) g.cells),rfl,rfl,h2,(by exact QM cI (fun _=>rfl) g.hts),(by exact QC cI (fun _=>rfl) g.hts),(by exact QV cI (fun _=>rfl) g.hts),(by decide),trivial⟩ h.1 h.2
theorem VF (g:Gd) (h:GdSmall g):qt Try.prog 36 [.agg [.int .i64 g.w,.int .i64 g.h,.rsl (rowI g.cells) 0 g.cells.length,.rsl (rowI g.hts) 0 g.hts.length]] (.agg [.int .i64 g.w,.int .i64 g.h,.rsl (rowI g.cells) 0 g.cells.length,.rsl (rowI g.hts) 0 g.hts.length]):=yB Try.func36 qN fun E hE=>by
 have h1:=h.cells; have h2:=h.hts
 exact f36nW g hE ⟨by omega,by omega,by simp only [Nat.zero_add]⟩
theorem gdL_ok (g:Gd) (h:GdSmall g):Lent Try.prog 36 [.agg [.int .i64 g.w,.int .i64 g.h,.rsl (rowI g.cells) 0 g.cells.length,.rsl (rowI g.hts) 0 g.hts.length]] [] (.agg [.int .i64 g.w,.int .i64 g.h,.sl 2 1 0 g.cells.length 1,.sl 3 1 0 g.hts.length 1]) [⟨true,0,1,true,[.int .i64 g.w,.int .i64 g.h,.rsl (rowI g.cells) 0 g.cells.length,.rsl (rowI g.hts) 0 g.hts.length],false⟩,⟨true,0,1,false,[.int .i64 g.w,.int .i64 g.h,.sl 2 1 0 g.cells.length 1,.sl 3 1 0 g.hts.length 1],false⟩,⟨true,1,1,true,(rowI g.cells),true⟩,⟨true,1,1,true,(rowI g.hts),true⟩]:=YX Try.func36 f36lb fun E hE=>by
 have h1:=h.cells; have h2:=h.hts
 refine f36lW g hE ⟨by omega,by omega,?_,?_⟩
 all_goals simp only [Nat.zero_add]
theorem f34b:Try.f34.body=some (Qd Try.prog 34):=by kernel_rfl
theorem u34 {a c k:List AV} {r:AV} (h:Pure Try.prog 34 (a++c++k) r):Qi Try.prog (.clos 34 a k) c r:=Qk Try.func34 (by kernel_rfl) f34b h
def f34K0 (P:Program):List Item:=kAt 400 [.code (Qd P 34)] [.stop]
def f34S0 (l:(List Int)) (n:Int) (i:Nat):St:=⟨([.rsl (rowI l) 0 l.length,J,J,.int .i64 n,.int .i64 (i:Int)]++Js 13),[]⟩
def f34G0 (E:Env) (l:(List Int)) (n:Int) (i:Nat):Prop:=G Try.prog E (f34K0 Try.prog) (f34S0 l n i )
theorem p34_start_0 (l:(List Int)) {E:Env} {rv:AV} (hE:Qh Try.prog 34 rv E) (ho:AllP [])
 (hg:G Try.prog E (f34K0 Try.prog) ⟨([.rsl (rowI l) 0 l.length,J,J,.int .i64 0,.int .i64 0]++Js 13),[]⟩):G Try.prog E [.code (Qd Try.prog 34)] ⟨[.rsl (rowI l) 0 l.length]++unds (Try.f34.ntmps - 1),[]⟩ :=
 Qe (n:=400) (ds:=[]) (cs:=[]) (live:=[0,3,4]) (m:=0) (evs:=[.stop]) (obs:=_) hE.2.1 (hE.nogh _) Qg (by kernel_rfl) ho hg
theorem f34W (l:(List Int)) {E:Env} {rv:Int} (hE:Qh Try.prog 34 (.int .i64 rv) E)
 (h:f34G0 E l 0 0):G Try.prog E [.code (Qd Try.prog 34)] ⟨[.rsl (rowI l) 0 l.length]++unds (Try.f34.ntmps - 1),[]⟩:=by
 exact p34_start_0 l hE trivial h
theorem p34_0_0 (l:(List Int)) (n:Int) (i:Nat) (e:Int) {E:Env} {rv:AV} (hE:Qh Try.prog 34 rv E) (ho:AllP [(decide ((i:Int)<(l.length:Int)))=true,0≤(i:Int)∧(i:Int)<(l.length:Int),((rowI l).drop (0+(Int.toNat (i:Int))*1)).take 1=[.int .i64 e],InR .i64 (n+e),InR .i64 ((i:Int)+1)])
 (hg:G Try.prog E (f34K0 Try.prog) ⟨([.rsl (rowI l) 0 l.length,J,J,.int .i64 (n+e),.int .i64 ((i:Int)+1)]++Js 13),[]⟩):G Try.prog E (f34K0 Try.prog) (f34S0 l n i ) :=
 Qe (n:=400) (ds:=[]) (cs:=[]) (live:=[0,3,4]) (m:=0) (evs:=[.b true,.ld (.int .i64 e),.stop]) (obs:=_) hE.2.1 (hE.nogh _) Qg (by kernel_rfl) ho hg
theorem p34_0_1 (l:(List Int)) (n:Int) (i:Nat) {E:Env} {res:AV} (hE:Qh Try.prog 34 res E) (ho:AllP [(decide ((i:Int)<(l.length:Int)))=false])
 (hr:AvLe (.int .i64 n) res):G Try.prog E (f34K0 Try.prog) (f34S0 l n i ) :=
 Qf (n:=400) (evs:=[.b false]) (obs:=_) hE Try.func34 Qg (by kernel_rfl) ho hr
theorem f34W0 (l:(List Int)) (n:Int) (i:Nat) {E:Env} {rv:Int} (hE:Qh Try.prog 34 (.int .i64 rv) E)
 (h:(((i:Int)<(l.length:Int)→(∃ e:Int,l[i]?=some e∧((I6 (n+e))∧((I6 ((i:Int)+1))∧f34G0 E l (n+e) (i+1)))))∧(¬ ((i:Int)<(l.length:Int))→rv=n))):f34G0 E l n i:=by
 rcases bft (decide ((i:Int)<(l.length:Int))) with hc0 | hc0
 · have h:=h.1 (odt hc0)
   obtain ⟨e,h1,h⟩:=h
   obtain ⟨q4_1,h⟩:=h
   obtain ⟨q5_1,h⟩:=h
   exact p34_0_0 l n i e hE ⟨hc0,(Qs h1),(rp cI 1 0 1 h1),q4_1,q5_1,trivial⟩ h
 · have h:=h.2 (odf hc0)
   exact p34_0_1 l n i hE ⟨hc0,trivial⟩ (AvLe.of_eq (by rw [h]; try rfl))
theorem sumI_ok (l:List Int) (h:∀ x ∈ l,0≤x∧x≤1000000) (hl:l.length≤1000):Pure Try.prog 34 [.rsl (rowI l) 0 l.length] (.int .i64 l.sum):=Qy Try.func34 f34b fun E hE=>by
 have key:∀ (d i:Nat) (s:Int),i+d=l.length→0≤s→s≤1000000*(i:Int)→s+(l.drop i).sum=l.sum→f34G0 E l s i:=by
  intro d
  induction d with
  | zero =>
   intro i s hd h0 h1 hr
   rw [List.drop_eq_nil_of_le (by omega)] at hr
   exact f34W0 l s i (rv:=l.sum) hE ⟨fun q=>by omega,fun _=>by simpa using hr.symm⟩
  | succ d ih =>
   intro i s hd h0 h1 hr
   have hx:l[i]?=some (l[i]'(by omega)):=List.getElem?_eq_getElem (by omega)
   rw [List.drop_eq_getElem_cons (by omega),List.sum_cons] at hr
   generalize l[i]'(by omega)=x at hx hr
   have b:=h x (List.mem_of_getElem? hx)
   exact f34W0 l s i (rv:=l.sum) hE ⟨fun _=>⟨x,hx,⟨by omega,by omega⟩,⟨by omega,by omega⟩,ih (i+1) _ (by omega) (by omega) (by omega) (by omega)⟩,fun q=>by omega⟩
 exact f34W l (rv:=l.sum) hE (key l.length 0 0 (by omega) (by omega) (by omega) (by rw [List.drop_zero]; omega))
theorem yz (l:List Int) (h:(∀ x ∈ l,0≤x∧x≤1000000)∧l.length≤1000):Pure Try.prog 34 [.rsl (rowI l) 0 l.length] (.int .i64 l.sum):=sumI_ok l h.1 h.2
theorem Clear_ok2 (g:Gd) (l:List Ptc) (t:List Sit) (crowd:List Int) (h:((GdSmall g∧l.length≤1000∧t.length≤1000)∧crowd.length≤1000)∧(leaveR g l t crowd 500).1.length≤1000):Pure Try.prog 37 [.agg [.int .i64 g.w,.int .i64 g.h,.rsl (rowI g.cells) 0 g.cells.length,.rsl (rowI g.hts) 0 g.hts.length],.rsl (Qc l) 0 l.length,.rsl (Qb t) 0 t.length,.rsl (rowI crowd) 0 crowd.length] (.tup [.int .i64 (clearR g l t crowd).1,.int .i64 (clearR g l t crowd).2]):=Clear_ok g l t crowd h.1 h.2
theorem f9b:Try.f9.body=some (Qd Try.prog 9):=by kernel_rfl
def YK (P:Program):List Item:=toOp 0 (kReg 400 [.code (Qd P 9)] [.b false,.b false,.b true] 10)
def Vd (f:Gd) (x:Fie) (b:Int) (v9:List Int) (v6:List Int) (g1:Int) (g9:Nat) (g6:Nat):St:=⟨([J,J,.int .i64 b,.ptr 0 0 0,.ptr 1 0 0,J,J,J,J,.bool ((QJ f x.ps x.ss).2.2.1),J,J,.sl 9 g9 0 v9.length 1,J,.int .i64 g1]++Js 187),[⟨true,0,1,true,[.int .i64 f.w,.int .i64 f.h,.rsl (rowI f.cells) 0 f.cells.length,.rsl (rowI f.hts) 0 f.hts.length],false⟩,⟨true,0,1,true,[.rsl (Qc x.ps) 0 x.ps.length,.rsl (Qb x.ss) 0 x.ss.length,.rsl (rowI x.cr) 0 x.cr.length],false⟩,⟨true,1,5,true,(Qc x.ps),true⟩,⟨true,1,2,true,(Qb x.ss),true⟩,⟨true,0,1,true,[.int .i64 f.w,.int .i64 f.h,.rsl (rowI f.cells) 0 f.cells.length,.rsl (rowI f.hts) 0 f.hts.length],false⟩,⟨true,0,1,false,[.int .i64 f.w,.int .i64 f.h,.sl 6 g6 0 v6.length 1,.sl 7 1 0 f.hts.length 1],false⟩,⟨true,g6,1,true,(rowI v6),true⟩,⟨true,1,1,true,(rowI f.hts),true⟩,⟨true,0,1,false,[.int .i64 f.w,.int .i64 f.h,.sl 6 g6 0 v6.length 1,.sl 7 1 0 f.hts.length 1],false⟩,⟨true,g9,1,true,(rowI v9),true⟩,⟨true,1,5,true,(Qc x.ps),true⟩,⟨true,1,2,true,(Qb x.ss),true⟩]⟩
def f9G5111 (E:Env) (f:Gd) (x:Fie) (b:Int) (v9:List Int) (v6:List Int) (g1:Int):Prop:=∀ g9 g6:Nat,G Try.prog E (YK Try.prog) (Vd f x b v9 v6 g1 g9 g6)
def f9K0 (P:Program):List Item:=kAt 400 (YK P) [.b false,.b false,.b false,.stop]
def f9S0 (f:Gd) (x:Fie) (b:Int) (g1:Int) (v6:List Int) (v9:List Int) (i:Nat) (g6:Nat) (g9:Nat):St:=⟨([J,J,J,.ptr 0 0 0,.ptr 1 0 0]++jj 7 ([.sl 9 g9 0 v9.length 1,J,.int .i64 g1,.rsl (rowI (Qv (newF f x.ps x.ss).1 b)) 0 ((Qv (newF f x.ps x.ss).1 b).length),J,.int .i64 (i:Int)]++Js 184)),[⟨true,0,1,true,[.int .i64 f.w,.int .i64 f.h,.rsl (rowI f.cells) 0 f.cells.length,.rsl (rowI f.hts) 0 f.hts.length],false⟩,⟨true,0,1,true,[.rsl (Qc x.ps) 0 x.ps.length,.rsl (Qb x.ss) 0 x.ss.length,.rsl (rowI x.cr) 0 x.cr.length],false⟩,⟨true,1,5,true,(Qc x.ps),true⟩,⟨true,1,2,true,(Qb x.ss),true⟩,⟨true,0,1,true,[.int .i64 f.w,.int .i64 f.h,.rsl (rowI f.cells) 0 f.cells.length,.rsl (rowI f.hts) 0 f.hts.length],false⟩,⟨true,0,1,false,[.int .i64 f.w,.int .i64 f.h,.sl 6 g6 0 v6.length 1,.sl 7 1 0 f.hts.length 1],false⟩,⟨true,g6,1,true,(rowI v6),true⟩,⟨true,1,1,true,(rowI f.hts),true⟩,⟨true,0,1,false,[.int .i64 f.w,.int .i64 f.h,.sl 6 g6 0 v6.length 1,.sl 7 1 0 f.hts.length 1],false⟩,⟨true,g9,1,true,(rowI v9),true⟩,⟨true,1,5,true,(Qc x.ps),true⟩,⟨true,1,2,true,(Qb x.ss),true⟩,⟨true,1,5,true,(Qc x.ps),true⟩,⟨true,1,2,true,(Qb x.ss),true⟩]⟩
def f9G0 (E:Env) (f:Gd) (x:Fie) (b:Int) (g1:Int) (v6:List Int) (v9:List Int) (i:Nat):Prop:=∀ g6 g9:Nat,G Try.prog E (f9K0 Try.prog) (f9S0 f x b g1 v6 v9 i g6 g9)
abbrev z9_1 (f:Gd) (x:Fie) (b:Int):List AV:=[.agg [.int .i64 f.w,.int .i64 f.h,.rsl (rowI f.cells) 0 f.cells.length,.rsl (rowI f.hts) 0 f.hts.length],.agg [.rsl (Qc x.ps) 0 x.ps.length,.rsl (Qb x.ss) 0 x.ss.length,.rsl (rowI x.cr) 0 x.cr.length],.int .i64 b]
theorem p9_start_0 (f:Gd) (x:Fie) (b:Int) {E:Env} {res:AV} (hE:Qh Try.prog 9 res E) (ho:AllP [(decide ((f.cells.length:Int) > 80))=true,true=true,true=true,true=true,true=true,Qi Try.prog (.clos 13 [] []) [] (.bool true)])
 (hr:AvLe (.bool true) res):G Try.prog E [.code (Qd Try.prog 9)] ⟨(z9_1 f x b)++unds (Try.f9.ntmps - 3),[]⟩ :=
 Qf (n:=400) (evs:=[.b true,.b true,.b true,.b true,.b true,.v (.bool true)]) (obs:=_) hE Try.func9 Qg (by kernel_rfl) ho hr
theorem p9_start_1 (f:Gd) (x:Fie) (b:Int) {E:Env} {res:AV} (hE:Qh Try.prog 9 res E) (ho:AllP [(decide ((f.cells.length:Int) > 80))=false,(decide ((f.hts.length:Int) > 80))=true,true=true,true=true,true=true,Qi Try.prog (.clos 13 [] []) [] (.bool true)])
 (hr:AvLe (.bool true) res):G Try.prog E [.code (Qd Try.prog 9)] ⟨(z9_1 f x b)++unds (Try.f9.ntmps - 3),[]⟩ :=
 Qf (n:=400) (evs:=[.b false,.b true,.b true,.b true,.b true,.v (.bool true)]) (obs:=_) hE Try.func9 Qg (by kernel_rfl) ho hr
theorem p9_start_2 (f:Gd) (x:Fie) (b:Int) {E:Env} {res:AV} (hE:Qh Try.prog 9 res E) (ho:AllP [(decide ((f.cells.length:Int) > 80))=false,(decide ((f.hts.length:Int) > 80))=false,(decide ((x.ps.length:Int) > 12))=true,true=true,true=true,Qi Try.prog (.clos 13 [] []) [] (.bool true)])
 (hr:AvLe (.bool true) res):G Try.prog E [.code (Qd Try.prog 9)] ⟨(z9_1 f x b)++unds (Try.f9.ntmps - 3),[]⟩ :=
 Qf (n:=400) (evs:=[.b false,.b false,.b true,.b true,.b true,.v (.bool true)]) (obs:=_) hE Try.func9 Qg (by kernel_rfl) ho hr
theorem p9_start_3 (f:Gd) (x:Fie) (b:Int) {E:Env} {res:AV} (hE:Qh Try.prog 9 res E) (ho:AllP [(decide ((f.cells.length:Int) > 80))=false,(decide ((f.hts.length:Int) > 80))=false,(decide ((x.ps.length:Int) > 12))=false,(decide ((x.ss.length:Int) > 12))=true,true=true,Qi Try.prog (.clos 13 [] []) [] (.bool true)])
 (hr:AvLe (.bool true) res):G Try.prog E [.code (Qd Try.prog 9)] ⟨(z9_1 f x b)++unds (Try.f9.ntmps - 3),[]⟩ :=
 Qf (n:=400) (evs:=[.b false,.b false,.b false,.b true,.b true,.v (.bool true)]) (obs:=_) hE Try.func9 Qg (by kernel_rfl) ho hr
theorem p9_start_4 (f:Gd) (x:Fie) (b:Int) {E:Env} {res:AV} (hE:Qh Try.prog 9 res E) (ho:AllP [(decide ((f.cells.length:Int) > 80))=false,(decide ((f.hts.length:Int) > 80))=false,(decide ((x.ps.length:Int) > 12))=false,(decide ((x.ss.length:Int) > 12))=false,(decide ((x.cr.length:Int) > 80))=true,Qi Try.prog (.clos 13 [] []) [] (.bool true)])
 (hr:AvLe (.bool true) res):G Try.prog E [.code (Qd Try.prog 9)] ⟨(z9_1 f x b)++unds (Try.f9.ntmps - 3),[]⟩ :=
 Qf (n:=400) (evs:=[.b false,.b false,.b false,.b false,.b true,.v (.bool true)]) (obs:=_) hE Try.func9 Qg (by kernel_rfl) ho hr
theorem p9_start_5 (f:Gd) (x:Fie) (b:Int) {E:Env} {res:AV} (hE:Qh Try.prog 9 res E) (ho:AllP [(decide ((f.cells.length:Int) > 80))=false,(decide ((f.hts.length:Int) > 80))=false,(decide ((x.ps.length:Int) > 12))=false,(decide ((x.ss.length:Int) > 12))=false,(decide ((x.cr.length:Int) > 80))=false,Yp Try.prog (.clos 36 [] []) [.agg [.int .i64 f.w,.int .i64 f.h,.rsl (rowI f.cells) 0 f.cells.length,.rsl (rowI f.hts) 0 f.hts.length]] (.agg [.int .i64 f.w,.int .i64 f.h,.rsl (rowI f.cells) 0 f.cells.length,.rsl (rowI f.hts) 0 f.hts.length]),0=0,0=0,(0+x.ps.length)≤2147483648,((Qc x.ps).drop 0).take (x.ps.length*5)=(Qc x.ps),(Qc x.ps).length=(x.ps.length*5),noRefs (Qc x.ps)=true,0=0,0=0,(0+x.ss.length)≤2147483648,((Qb x.ss).drop 0).take (x.ss.length*2)=(Qb x.ss),(Qb x.ss).length=(x.ss.length*2),noRefs (Qb x.ss)=true,Qi Try.prog (.clos 35 [] []) [.agg [.int .i64 f.w,.int .i64 f.h,.rsl (rowI f.cells) 0 f.cells.length,.rsl (rowI f.hts) 0 f.hts.length],.rsl (Qc x.ps) 0 (0+x.ps.length),.rsl (Qb x.ss) 0 (0+x.ss.length)] (.tup [.int .i64 ((QJ f x.ps x.ss).1),.int .i64 ((QJ f x.ps x.ss).2.1),.bool ((QJ f x.ps x.ss).2.2.1),.int .i64 ((QJ f x.ps x.ss).2.2.2)]),1=1,1=1,((QJ f x.ps x.ss).2.2.2 != 0)=true,true=true,true=true,Qi Try.prog (.clos 13 [] []) [] (.bool true)])
 (hr:AvLe (.bool true) res):G Try.prog E [.code (Qd Try.prog 9)] ⟨[.agg [.int .i64 f.w,.int .i64 f.h,.rsl (rowI f.cells) 0 f.cells.length,.rsl (rowI f.hts) 0 f.hts.length],.agg [.rsl (Qc x.ps) 0 x.ps.length,.rsl (Qb x.ss) 0 x.ss.length,.rsl (rowI x.cr) 0 x.cr.length],.int .i64 b]++unds (Try.f9.ntmps - 3),[]⟩ :=
 Qf (n:=400) (evs:=[.b false,.b false,.b false,.b false,.b false,.vn (.agg [.int .i64 f.w,.int .i64 f.h,.rsl (rowI f.cells) 0 f.cells.length,.rsl (rowI f.hts) 0 f.hts.length]),.cs (Qc x.ps),.cs (Qb x.ss),.v (.tup [.int .i64 ((QJ f x.ps x.ss).1),.int .i64 ((QJ f x.ps x.ss).2.1),.bool ((QJ f x.ps x.ss).2.2.1),.int .i64 ((QJ f x.ps x.ss).2.2.2)]),.b true,.b true,.b true,.v (.bool true)]) (obs:=_) hE Try.func9 Qg (by kernel_rfl) ho hr
theorem p9_start_6 (f:Gd) (x:Fie) (b:Int) {E:Env} {res:AV} (hE:Qh Try.prog 9 res E) (ho:AllP [(decide ((f.cells.length:Int) > 80))=false,(decide ((f.hts.length:Int) > 80))=false,(decide ((x.ps.length:Int) > 12))=false,(decide ((x.ss.length:Int) > 12))=false,(decide ((x.cr.length:Int) > 80))=false,Yp Try.prog (.clos 36 [] []) [.agg [.int .i64 f.w,.int .i64 f.h,.rsl (rowI f.cells) 0 f.cells.length,.rsl (rowI f.hts) 0 f.hts.length]] (.agg [.int .i64 f.w,.int .i64 f.h,.rsl (rowI f.cells) 0 f.cells.length,.rsl (rowI f.hts) 0 f.hts.length]),0=0,0=0,(0+x.ps.length)≤2147483648,((Qc x.ps).drop 0).take (x.ps.length*5)=(Qc x.ps),(Qc x.ps).length=(x.ps.length*5),noRefs (Qc x.ps)=true,0=0,0=0,(0+x.ss.length)≤2147483648,((Qb x.ss).drop 0).take (x.ss.length*2)=(Qb x.ss),(Qb x.ss).length=(x.ss.length*2),noRefs (Qb x.ss)=true,Qi Try.prog (.clos 35 [] []) [.agg [.int .i64 f.w,.int .i64 f.h,.rsl (rowI f.cells) 0 f.cells.length,.rsl (rowI f.hts) 0 f.hts.length],.rsl (Qc x.ps) 0 (0+x.ps.length),.rsl (Qb x.ss) 0 (0+x.ss.length)] (.tup [.int .i64 ((QJ f x.ps x.ss).1),.int .i64 ((QJ f x.ps x.ss).2.1),.bool ((QJ f x.ps x.ss).2.2.1),.int .i64 ((QJ f x.ps x.ss).2.2.2)]),1=1,1=1,((QJ f x.ps x.ss).2.2.2 != 0)=false,(decide (b<0))=true,true=true,Qi Try.prog (.clos 13 [] []) [] (.bool true)])
 (hr:AvLe (.bool true) res):G Try.prog E [.code (Qd Try.prog 9)] ⟨[.agg [.int .i64 f.w,.int .i64 f.h,.rsl (rowI f.cells) 0 f.cells.length,.rsl (rowI f.hts) 0 f.hts.length],.agg [.rsl (Qc x.ps) 0 x.ps.length,.rsl (Qb x.ss) 0 x.ss.length,.rsl (rowI x.cr) 0 x.cr.length],.int .i64 b]++unds (Try.f9.ntmps - 3),[]⟩ :=
 Qf (n:=400) (evs:=[.b false,.b false,.b false,.b false,.b false,.vn (.agg [.int .i64 f.w,.int .i64 f.h,.rsl (rowI f.cells) 0 f.cells.length,.rsl (rowI f.hts) 0 f.hts.length]),.cs (Qc x.ps),.cs (Qb x.ss),.v (.tup [.int .i64 ((QJ f x.ps x.ss).1),.int .i64 ((QJ f x.ps x.ss).2.1),.bool ((QJ f x.ps x.ss).2.2.1),.int .i64 ((QJ f x.ps x.ss).2.2.2)]),.b false,.b true,.b true,.v (.bool true)]) (obs:=_) hE Try.func9 Qg (by kernel_rfl) ho hr
theorem p9_start_7 (f:Gd) (x:Fie) (b:Int) {E:Env} {res:AV} (hE:Qh Try.prog 9 res E) (ho:AllP [(decide ((f.cells.length:Int) > 80))=false,(decide ((f.hts.length:Int) > 80))=false,(decide ((x.ps.length:Int) > 12))=false,(decide ((x.ss.length:Int) > 12))=false,(decide ((x.cr.length:Int) > 80))=false,Yp Try.prog (.clos 36 [] []) [.agg [.int .i64 f.w,.int .i64 f.h,.rsl (rowI f.cells) 0 f.cells.length,.rsl (rowI f.hts) 0 f.hts.length]] (.agg [.int .i64 f.w,.int .i64 f.h,.rsl (rowI f.cells) 0 f.cells.length,.rsl (rowI f.hts) 0 f.hts.length]),0=0,0=0,(0+x.ps.length)≤2147483648,((Qc x.ps).drop 0).take (x.ps.length*5)=(Qc x.ps),(Qc x.ps).length=(x.ps.length*5),noRefs (Qc x.ps)=true,0=0,0=0,(0+x.ss.length)≤2147483648,((Qb x.ss).drop 0).take (x.ss.length*2)=(Qb x.ss),(Qb x.ss).length=(x.ss.length*2),noRefs (Qb x.ss)=true,Qi Try.prog (.clos 35 [] []) [.agg [.int .i64 f.w,.int .i64 f.h,.rsl (rowI f.cells) 0 f.cells.length,.rsl (rowI f.hts) 0 f.hts.length],.rsl (Qc x.ps) 0 (0+x.ps.length),.rsl (Qb x.ss) 0 (0+x.ss.length)] (.tup [.int .i64 ((QJ f x.ps x.ss).1),.int .i64 ((QJ f x.ps x.ss).2.1),.bool ((QJ f x.ps x.ss).2.2.1),.int .i64 ((QJ f x.ps x.ss).2.2.2)]),1=1,1=1,((QJ f x.ps x.ss).2.2.2 != 0)=false,(decide (b<0))=false,(decide (b≥(f.cells.length:Int)))=true,Qi Try.prog (.clos 13 [] []) [] (.bool true)])
 (hr:AvLe (.bool true) res):G Try.prog E [.code (Qd Try.prog 9)] ⟨[.agg [.int .i64 f.w,.int .i64 f.h,.rsl (rowI f.cells) 0 f.cells.length,.rsl (rowI f.hts) 0 f.hts.length],.agg [.rsl (Qc x.ps) 0 x.ps.length,.rsl (Qb x.ss) 0 x.ss.length,.rsl (rowI x.cr) 0 x.cr.length],.int .i64 b]++unds (Try.f9.ntmps - 3),[]⟩ :=
 Qf (n:=400) (evs:=[.b false,.b false,.b false,.b false,.b false,.vn (.agg [.int .i64 f.w,.int .i64 f.h,.rsl (rowI f.cells) 0 f.cells.length,.rsl (rowI f.hts) 0 f.hts.length]),.cs (Qc x.ps),.cs (Qb x.ss),.v (.tup [.int .i64 ((QJ f x.ps x.ss).1),.int .i64 ((QJ f x.ps x.ss).2.1),.bool ((QJ f x.ps x.ss).2.2.1),.int .i64 ((QJ f x.ps x.ss).2.2.2)]),.b false,.b false,.b true,.v (.bool true)]) (obs:=_) hE Try.func9 Qg (by kernel_rfl) ho hr
theorem p9_start_8 (f:Gd) (x:Fie) (b:Int) (e:Int) (e1:Int) {E:Env} {rv:AV} (hE:Qh Try.prog 9 rv E) (ho:AllP [(decide ((f.cells.length:Int) > 80))=false,(decide ((f.hts.length:Int) > 80))=false,(decide ((x.ps.length:Int) > 12))=false,(decide ((x.ss.length:Int) > 12))=false,(decide ((x.cr.length:Int) > 80))=false,Yp Try.prog (.clos 36 [] []) [.agg [.int .i64 f.w,.int .i64 f.h,.rsl (rowI f.cells) 0 f.cells.length,.rsl (rowI f.hts) 0 f.hts.length]] (.agg [.int .i64 f.w,.int .i64 f.h,.rsl (rowI f.cells) 0 f.cells.length,.rsl (rowI f.hts) 0 f.hts.length]),0=0,0=0,(0+x.ps.length)≤2147483648,((Qc x.ps).drop 0).take (x.ps.length*5)=(Qc x.ps),(Qc x.ps).length=(x.ps.length*5),noRefs (Qc x.ps)=true,0=0,0=0,(0+x.ss.length)≤2147483648,((Qb x.ss).drop 0).take (x.ss.length*2)=(Qb x.ss),(Qb x.ss).length=(x.ss.length*2),noRefs (Qb x.ss)=true,Qi Try.prog (.clos 35 [] []) [.agg [.int .i64 f.w,.int .i64 f.h,.rsl (rowI f.cells) 0 f.cells.length,.rsl (rowI f.hts) 0 f.hts.length],.rsl (Qc x.ps) 0 (0+x.ps.length),.rsl (Qb x.ss) 0 (0+x.ss.length)] (.tup [.int .i64 ((QJ f x.ps x.ss).1),.int .i64 ((QJ f x.ps x.ss).2.1),.bool ((QJ f x.ps x.ss).2.2.1),.int .i64 ((QJ f x.ps x.ss).2.2.2)]),1=1,1=1,((QJ f x.ps x.ss).2.2.2 != 0)=false,(decide (b<0))=false,(decide (b≥(f.cells.length:Int)))=false,QO Try.prog (.clos 36 [] []) [.agg [.int .i64 f.w,.int .i64 f.h,.rsl (rowI f.cells) 0 f.cells.length,.rsl (rowI f.hts) 0 f.hts.length]] [] (.agg [.int .i64 f.w,.int .i64 f.h,.sl 2 1 0 f.cells.length 1,.sl 3 1 0 f.hts.length 1]) [⟨true,0,1,true,[.int .i64 f.w,.int .i64 f.h,.rsl (rowI f.cells) 0 f.cells.length,.rsl (rowI f.hts) 0 f.hts.length],false⟩,⟨true,0,1,false,[.int .i64 f.w,.int .i64 f.h,.sl 2 1 0 f.cells.length 1,.sl 3 1 0 f.hts.length 1],false⟩,⟨true,1,1,true,(rowI f.cells),true⟩,⟨true,1,1,true,(rowI f.hts),true⟩],4≤4,0≤b∧b<(f.cells.length:Int),1=1,((0+(Int.toNat b)*1)+1)≤(rowI f.cells).length,1=1,0=0,0=0,(0+x.cr.length)≤2147483648,((rowI x.cr).drop 0).take (x.cr.length*1)=(rowI x.cr),(rowI x.cr).length=(x.cr.length*1),noRefs (rowI x.cr)=true,1=1,(decide (b<(((0+x.cr.length):Nat):Int)))=true,0≤b∧b<(((0+x.cr.length):Nat):Int),1=1,((0+(Int.toNat b)*1)+1)≤(rowI x.cr).length,1=1,0=0,0=0,(0+x.ps.length)≤2147483648,((Qc x.ps).drop 0).take (x.ps.length*5)=(Qc x.ps),(Qc x.ps).length=(x.ps.length*5),noRefs (Qc x.ps)=true,0=0,0=0,(0+x.ss.length)≤2147483648,((Qb x.ss).drop 0).take (x.ss.length*2)=(Qb x.ss),(Qb x.ss).length=(x.ss.length*2),noRefs (Qb x.ss)=true,Qi Try.prog (.clos 37 [] []) [.agg [.int .i64 f.w,.int .i64 f.h,.rsl (Qu (rowI f.cells) (0+(Int.toNat b)*1) [.int .i64 1]) 0 f.cells.length,.rsl (rowI f.hts) 0 f.hts.length],.rsl (Qc x.ps) 0 (0+x.ps.length),.rsl (Qb x.ss) 0 (0+x.ss.length),.rsl (Qu (rowI x.cr) (0+(Int.toNat b)*1) [.int .i64 0]) 0 (0+x.cr.length)] (.tup [.int .i64 ((clearR (⟨f.w,f.h,(f.cells.set (Int.toNat b) 1),f.hts⟩:Gd) x.ps x.ss (x.cr.set (Int.toNat b) 0)).1),.int .i64 ((clearR (⟨f.w,f.h,(f.cells.set (Int.toNat b) 1),f.hts⟩:Gd) x.ps x.ss (x.cr.set (Int.toNat b) 0)).2)]),1=1,1=1,1=1,1=1,1=1])
 (hg:G Try.prog E (YK Try.prog) ⟨([J,J,.int .i64 b,.ptr 0 0 0,.ptr 1 0 0,J,J,J,J,.bool ((QJ f x.ps x.ss).2.2.1),J,J,.sl 9 1 0 (0+x.cr.length) 1,J,.int .i64 ((clearR (⟨f.w,f.h,(f.cells.set (Int.toNat b) 1),f.hts⟩:Gd) x.ps x.ss (x.cr.set (Int.toNat b) 0)).2)]++Js 187),[⟨true,0,1,true,[.int .i64 f.w,.int .i64 f.h,.rsl (rowI f.cells) 0 f.cells.length,.rsl (rowI f.hts) 0 f.hts.length],false⟩,⟨true,0,1,true,[.rsl (Qc x.ps) 0 x.ps.length,.rsl (Qb x.ss) 0 x.ss.length,.rsl (rowI x.cr) 0 x.cr.length],false⟩,⟨true,1,5,true,(Qc x.ps),true⟩,⟨true,1,2,true,(Qb x.ss),true⟩,⟨true,0,1,true,[.int .i64 f.w,.int .i64 f.h,.rsl (rowI f.cells) 0 f.cells.length,.rsl (rowI f.hts) 0 f.hts.length],false⟩,⟨true,0,1,false,[.int .i64 f.w,.int .i64 f.h,.sl 6 1 0 f.cells.length 1,.sl 7 1 0 f.hts.length 1],false⟩,⟨true,1,1,true,(Qu (rowI f.cells) (0+(Int.toNat b)*1) [.int .i64 1]),true⟩,⟨true,1,1,true,(rowI f.hts),true⟩,⟨true,0,1,false,[.int .i64 f.w,.int .i64 f.h,.sl 6 1 0 f.cells.length 1,.sl 7 1 0 f.hts.length 1],false⟩,⟨true,1,1,true,(Qu (rowI x.cr) (0+(Int.toNat b)*1) [.int .i64 0]),true⟩,⟨true,1,5,true,(Qc x.ps),true⟩,⟨true,1,2,true,(Qb x.ss),true⟩]⟩):G Try.prog E [.code (Qd Try.prog 9)] ⟨[.agg [.int .i64 f.w,.int .i64 f.h,.rsl (rowI f.cells) 0 f.cells.length,.rsl (rowI f.hts) 0 f.hts.length],.agg [.rsl (Qc x.ps) 0 x.ps.length,.rsl (Qb x.ss) 0 x.ss.length,.rsl (rowI x.cr) 0 x.cr.length],.int .i64 b]++unds (Try.f9.ntmps - 3),[]⟩ :=
 Qe (n:=400) (ds:=[]) (cs:=[]) (live:=[2,3,4,9,12,14]) (m:=12) (evs:=[.b false,.b false,.b false,.b false,.b false,.vn (.agg [.int .i64 f.w,.int .i64 f.h,.rsl (rowI f.cells) 0 f.cells.length,.rsl (rowI f.hts) 0 f.hts.length]),.cs (Qc x.ps),.cs (Qb x.ss),.v (.tup [.int .i64 ((QJ f x.ps x.ss).1),.int .i64 ((QJ f x.ps x.ss).2.1),.bool ((QJ f x.ps x.ss).2.2.1),.int .i64 ((QJ f x.ps x.ss).2.2.2)]),.b false,.b false,.b false,.lent [] (.agg [.int .i64 f.w,.int .i64 f.h,.sl 2 1 0 f.cells.length 1,.sl 3 1 0 f.hts.length 1]) [⟨true,0,1,true,[.int .i64 f.w,.int .i64 f.h,.rsl (rowI f.cells) 0 f.cells.length,.rsl (rowI f.hts) 0 f.hts.length],false⟩,⟨true,0,1,false,[.int .i64 f.w,.int .i64 f.h,.sl 2 1 0 f.cells.length 1,.sl 3 1 0 f.hts.length 1],false⟩,⟨true,1,1,true,(rowI f.cells),true⟩,⟨true,1,1,true,(rowI f.hts),true⟩],.cs (rowI x.cr),.b true,.cs (Qc x.ps),.cs (Qb x.ss),.v (.tup [.int .i64 ((clearR (⟨f.w,f.h,(f.cells.set (Int.toNat b) 1),f.hts⟩:Gd) x.ps x.ss (x.cr.set (Int.toNat b) 0)).1),.int .i64 ((clearR (⟨f.w,f.h,(f.cells.set (Int.toNat b) 1),f.hts⟩:Gd) x.ps x.ss (x.cr.set (Int.toNat b) 0)).2)]),.hold 0]) (obs:=_) hE.2.1 (hE.nogh _) Qg (by kernel_rfl) ho hg
theorem p9_start_9 (f:Gd) (x:Fie) (b:Int) (e:Int) {E:Env} {rv:AV} (hE:Qh Try.prog 9 rv E) (ho:AllP [(decide ((f.cells.length:Int) > 80))=false,(decide ((f.hts.length:Int) > 80))=false,(decide ((x.ps.length:Int) > 12))=false,(decide ((x.ss.length:Int) > 12))=false,(decide ((x.cr.length:Int) > 80))=false,Yp Try.prog (.clos 36 [] []) [.agg [.int .i64 f.w,.int .i64 f.h,.rsl (rowI f.cells) 0 f.cells.length,.rsl (rowI f.hts) 0 f.hts.length]] (.agg [.int .i64 f.w,.int .i64 f.h,.rsl (rowI f.cells) 0 f.cells.length,.rsl (rowI f.hts) 0 f.hts.length]),0=0,0=0,(0+x.ps.length)≤2147483648,((Qc x.ps).drop 0).take (x.ps.length*5)=(Qc x.ps),(Qc x.ps).length=(x.ps.length*5),noRefs (Qc x.ps)=true,0=0,0=0,(0+x.ss.length)≤2147483648,((Qb x.ss).drop 0).take (x.ss.length*2)=(Qb x.ss),(Qb x.ss).length=(x.ss.length*2),noRefs (Qb x.ss)=true,Qi Try.prog (.clos 35 [] []) [.agg [.int .i64 f.w,.int .i64 f.h,.rsl (rowI f.cells) 0 f.cells.length,.rsl (rowI f.hts) 0 f.hts.length],.rsl (Qc x.ps) 0 (0+x.ps.length),.rsl (Qb x.ss) 0 (0+x.ss.length)] (.tup [.int .i64 ((QJ f x.ps x.ss).1),.int .i64 ((QJ f x.ps x.ss).2.1),.bool ((QJ f x.ps x.ss).2.2.1),.int .i64 ((QJ f x.ps x.ss).2.2.2)]),1=1,1=1,((QJ f x.ps x.ss).2.2.2 != 0)=false,(decide (b<0))=false,(decide (b≥(f.cells.length:Int)))=false,QO Try.prog (.clos 36 [] []) [.agg [.int .i64 f.w,.int .i64 f.h,.rsl (rowI f.cells) 0 f.cells.length,.rsl (rowI f.hts) 0 f.hts.length]] [] (.agg [.int .i64 f.w,.int .i64 f.h,.sl 2 1 0 f.cells.length 1,.sl 3 1 0 f.hts.length 1]) [⟨true,0,1,true,[.int .i64 f.w,.int .i64 f.h,.rsl (rowI f.cells) 0 f.cells.length,.rsl (rowI f.hts) 0 f.hts.length],false⟩,⟨true,0,1,false,[.int .i64 f.w,.int .i64 f.h,.sl 2 1 0 f.cells.length 1,.sl 3 1 0 f.hts.length 1],false⟩,⟨true,1,1,true,(rowI f.cells),true⟩,⟨true,1,1,true,(rowI f.hts),true⟩],4≤4,0≤b∧b<(f.cells.length:Int),1=1,((0+(Int.toNat b)*1)+1)≤(rowI f.cells).length,1=1,0=0,0=0,(0+x.cr.length)≤2147483648,((rowI x.cr).drop 0).take (x.cr.length*1)=(rowI x.cr),(rowI x.cr).length=(x.cr.length*1),noRefs (rowI x.cr)=true,1=1,(decide (b<(((0+x.cr.length):Nat):Int)))=false,0=0,0=0,(0+x.ps.length)≤2147483648,((Qc x.ps).drop 0).take (x.ps.length*5)=(Qc x.ps),(Qc x.ps).length=(x.ps.length*5),noRefs (Qc x.ps)=true,0=0,0=0,(0+x.ss.length)≤2147483648,((Qb x.ss).drop 0).take (x.ss.length*2)=(Qb x.ss),(Qb x.ss).length=(x.ss.length*2),noRefs (Qb x.ss)=true,Qi Try.prog (.clos 37 [] []) [.agg [.int .i64 f.w,.int .i64 f.h,.rsl (Qu (rowI f.cells) (0+(Int.toNat b)*1) [.int .i64 1]) 0 f.cells.length,.rsl (rowI f.hts) 0 f.hts.length],.rsl (Qc x.ps) 0 (0+x.ps.length),.rsl (Qb x.ss) 0 (0+x.ss.length),.rsl (rowI x.cr) 0 (0+x.cr.length)] (.tup [.int .i64 ((clearR (⟨f.w,f.h,(f.cells.set (Int.toNat b) 1),f.hts⟩:Gd) x.ps x.ss x.cr).1),.int .i64 ((clearR (⟨f.w,f.h,(f.cells.set (Int.toNat b) 1),f.hts⟩:Gd) x.ps x.ss x.cr).2)]),1=1,1=1,1=1,1=1,1=1])
 (hg:G Try.prog E (YK Try.prog) ⟨([J,J,.int .i64 b,.ptr 0 0 0,.ptr 1 0 0,J,J,J,J,.bool ((QJ f x.ps x.ss).2.2.1),J,J,.sl 9 1 0 (0+x.cr.length) 1,J,.int .i64 ((clearR (⟨f.w,f.h,(f.cells.set (Int.toNat b) 1),f.hts⟩:Gd) x.ps x.ss x.cr).2)]++Js 187),[⟨true,0,1,true,[.int .i64 f.w,.int .i64 f.h,.rsl (rowI f.cells) 0 f.cells.length,.rsl (rowI f.hts) 0 f.hts.length],false⟩,⟨true,0,1,true,[.rsl (Qc x.ps) 0 x.ps.length,.rsl (Qb x.ss) 0 x.ss.length,.rsl (rowI x.cr) 0 x.cr.length],false⟩,⟨true,1,5,true,(Qc x.ps),true⟩,⟨true,1,2,true,(Qb x.ss),true⟩,⟨true,0,1,true,[.int .i64 f.w,.int .i64 f.h,.rsl (rowI f.cells) 0 f.cells.length,.rsl (rowI f.hts) 0 f.hts.length],false⟩,⟨true,0,1,false,[.int .i64 f.w,.int .i64 f.h,.sl 6 1 0 f.cells.length 1,.sl 7 1 0 f.hts.length 1],false⟩,⟨true,1,1,true,(Qu (rowI f.cells) (0+(Int.toNat b)*1) [.int .i64 1]),true⟩,⟨true,1,1,true,(rowI f.hts),true⟩,⟨true,0,1,false,[.int .i64 f.w,.int .i64 f.h,.sl 6 1 0 f.cells.length 1,.sl 7 1 0 f.hts.length 1],false⟩,⟨true,1,1,true,(rowI x.cr),true⟩,⟨true,1,5,true,(Qc x.ps),true⟩,⟨true,1,2,true,(Qb x.ss),true⟩]⟩):G Try.prog E [.code (Qd Try.prog 9)] ⟨[.agg [.int .i64 f.w,.int .i64 f.h,.rsl (rowI f.cells) 0 f.cells.length,.rsl (rowI f.hts) 0 f.hts.length],.agg [.rsl (Qc x.ps) 0 x.ps.length,.rsl (Qb x.ss) 0 x.ss.length,.rsl (rowI x.cr) 0 x.cr.length],.int .i64 b]++unds (Try.f9.ntmps - 3),[]⟩ :=
 Qe (n:=400) (ds:=[]) (cs:=[]) (live:=[2,3,4,9,12,14]) (m:=12) (evs:=[.b false,.b false,.b false,.b false,.b false,.vn (.agg [.int .i64 f.w,.int .i64 f.h,.rsl (rowI f.cells) 0 f.cells.length,.rsl (rowI f.hts) 0 f.hts.length]),.cs (Qc x.ps),.cs (Qb x.ss),.v (.tup [.int .i64 ((QJ f x.ps x.ss).1),.int .i64 ((QJ f x.ps x.ss).2.1),.bool ((QJ f x.ps x.ss).2.2.1),.int .i64 ((QJ f x.ps x.ss).2.2.2)]),.b false,.b false,.b false,.lent [] (.agg [.int .i64 f.w,.int .i64 f.h,.sl 2 1 0 f.cells.length 1,.sl 3 1 0 f.hts.length 1]) [⟨true,0,1,true,[.int .i64 f.w,.int .i64 f.h,.rsl (rowI f.cells) 0 f.cells.length,.rsl (rowI f.hts) 0 f.hts.length],false⟩,⟨true,0,1,false,[.int .i64 f.w,.int .i64 f.h,.sl 2 1 0 f.cells.length 1,.sl 3 1 0 f.hts.length 1],false⟩,⟨true,1,1,true,(rowI f.cells),true⟩,⟨true,1,1,true,(rowI f.hts),true⟩],.cs (rowI x.cr),.b false,.cs (Qc x.ps),.cs (Qb x.ss),.v (.tup [.int .i64 ((clearR (⟨f.w,f.h,(f.cells.set (Int.toNat b) 1),f.hts⟩:Gd) x.ps x.ss x.cr).1),.int .i64 ((clearR (⟨f.w,f.h,(f.cells.set (Int.toNat b) 1),f.hts⟩:Gd) x.ps x.ss x.cr).2)]),.hold 0]) (obs:=_) hE.2.1 (hE.nogh _) Qg (by kernel_rfl) ho hg
theorem f9W (f:Gd) (x:Fie) (b:Int) {E:Env} {rv:Bool} (hE:Qh Try.prog 9 (.bool rv) E)
 (h:(((f.cells.length:Int) > 80→rv=true)∧(¬ ((f.cells.length:Int) > 80)→(((f.hts.length:Int) > 80→rv=true)∧(¬ ((f.hts.length:Int) > 80)→(((x.ps.length:Int) > 12→rv=true)∧(¬ ((x.ps.length:Int) > 12)→(((x.ss.length:Int) > 12→rv=true)∧(¬ ((x.ss.length:Int) > 12)→(((x.cr.length:Int) > 80→rv=true)∧(¬ ((x.cr.length:Int) > 80)→((GdSmall f)∧((0+x.ps.length)≤2147483648∧((0+x.ss.length)≤2147483648∧((GdSmall f∧x.ps.length≤1000∧x.ss.length≤1000)∧((¬ ((QJ f x.ps x.ss).2.2.2=0)→rv=true)∧((QJ f x.ps x.ss).2.2.2=0→((b<0→rv=true)∧(¬ (b<0)→((b≥(f.cells.length:Int)→rv=true)∧(¬ (b≥(f.cells.length:Int))→((GdSmall f)∧(0≤b∧(∃ e:Int,f.cells[Int.toNat b]?=some e∧((0+x.cr.length)≤2147483648∧((b<(((0+x.cr.length):Nat):Int)→(0≤b∧(∃ e1:Int,x.cr[Int.toNat b]?=some e1∧((0+x.ps.length)≤2147483648∧((0+x.ss.length)≤2147483648∧((((GdSmall (⟨f.w,f.h,(f.cells.set (Int.toNat b) 1),f.hts⟩:Gd)∧x.ps.length≤1000∧x.ss.length≤1000)∧(x.cr.set (Int.toNat b) 0).length≤1000)∧(leaveR (⟨f.w,f.h,(f.cells.set (Int.toNat b) 1),f.hts⟩:Gd) x.ps x.ss (x.cr.set (Int.toNat b) 0) 500).1.length≤1000)∧f9G5111 E f x b (x.cr.set (Int.toNat b) 0) (f.cells.set (Int.toNat b) 1) ((clearR (⟨f.w,f.h,(f.cells.set (Int.toNat b) 1),f.hts⟩:Gd) x.ps x.ss (x.cr.set (Int.toNat b) 0)).2)))))))∧(¬ (b<(((0+x.cr.length):Nat):Int))→((0+x.ps.length)≤2147483648∧((0+x.ss.length)≤2147483648∧((((GdSmall (⟨f.w,f.h,(f.cells.set (Int.toNat b) 1),f.hts⟩:Gd)∧x.ps.length≤1000∧x.ss.length≤1000)∧x.cr.length≤1000)∧(leaveR (⟨f.w,f.h,(f.cells.set (Int.toNat b) 1),f.hts⟩:Gd) x.ps x.ss x.cr 500).1.length≤1000)∧f9G5111 E f x b x.cr (f.cells.set (Int.toNat b) 1) ((clearR (⟨f.w,f.h,(f.cells.set (Int.toNat b) 1),f.hts⟩:Gd) x.ps x.ss x.cr).2))))))))))))))))))))))))))))))):G Try.prog E [.code (Qd Try.prog 9)] ⟨[.agg [.int .i64 f.w,.int .i64 f.h,.rsl (rowI f.cells) 0 f.cells.length,.rsl (rowI f.hts) 0 f.hts.length],.agg [.rsl (Qc x.ps) 0 x.ps.length,.rsl (Qb x.ss) 0 x.ss.length,.rsl (rowI x.cr) 0 x.cr.length],.int .i64 b]++unds (Try.f9.ntmps - 3),[]⟩:=by
 rcases bft (decide ((f.cells.length:Int) > 80)) with hc0 | hc0
 · have h:=h.1 (odt hc0)
   exact p9_start_0 f x b hE ⟨hc0,rfl,rfl,rfl,rfl,(u13 (YO )),trivial⟩ (AvLe.of_eq (by rw [h]; try rfl))
 · have h:=h.2 (odf hc0)
   rcases bft (decide ((f.hts.length:Int) > 80)) with hc1 | hc1
   · have h:=h.1 (odt hc1)
     exact p9_start_1 f x b hE ⟨hc0,hc1,rfl,rfl,rfl,(u13 (YO )),trivial⟩ (AvLe.of_eq (by rw [h]; try rfl))
   · have h:=h.2 (odf hc1)
     rcases bft (decide ((x.ps.length:Int) > 12)) with hc2 | hc2
     · have h:=h.1 (odt hc2)
       exact p9_start_2 f x b hE ⟨hc0,hc1,hc2,rfl,rfl,(u13 (YO )),trivial⟩ (AvLe.of_eq (by rw [h]; try rfl))
     · have h:=h.2 (odf hc2)
       rcases bft (decide ((x.ss.length:Int) > 12)) with hc3 | hc3
       · have h:=h.1 (odt hc3)
         exact p9_start_3 f x b hE ⟨hc0,hc1,hc2,hc3,rfl,(u13 (YO )),trivial⟩ (AvLe.of_eq (by rw [h]; try rfl))
       · have h:=h.2 (odf hc3)
         rcases bft (decide ((x.cr.length:Int) > 80)) with hc4 | hc4
         · have h:=h.1 (odt hc4)
           exact p9_start_4 f x b hE ⟨hc0,hc1,hc2,hc3,hc4,(u13 (YO )),trivial⟩ (AvLe.of_eq (by rw [h]; try rfl))
         · have h:=h.2 (odf hc4)
           obtain ⟨h1,h⟩:=h
           obtain ⟨h2,h⟩:=h
           obtain ⟨h3,h⟩:=h
           obtain ⟨h4,h⟩:=h
           rcases bft ((QJ f x.ps x.ss).2.2.2 != 0) with hc5 | hc5
           · have h:=h.1 (bneT hc5)
             exact p9_start_5 f x b hE ⟨hc0,hc1,hc2,hc3,hc4,(QK Try.func36 (by kernel_rfl) qN (VF f h1)),rfl,rfl,h2,(by exact QM cPtc (fun _=>rfl) x.ps),(by exact QC cPtc (fun _=>rfl) x.ps),(by exact QV cPtc (fun _=>rfl) x.ps),rfl,rfl,h3,(by exact QM cSit (fun _=>rfl) x.ss),(by exact QC cSit (fun _=>rfl) x.ss),(by exact QV cSit (fun _=>rfl) x.ss),(by rw [(show AV.rsl (Qc x.ps) 0 (0+x.ps.length)=AV.rsl (Qc x.ps) 0 x.ps.length from by rw [show (0+x.ps.length)=x.ps.length from by simp])]; rw [(show AV.rsl (Qb x.ss) 0 (0+x.ss.length)=AV.rsl (Qb x.ss) 0 x.ss.length from by rw [show (0+x.ss.length)=x.ss.length from by simp])]; exact (u35 (Qaj f x.ps x.ss h4))),rfl,rfl,hc5,rfl,rfl,(u13 (YO )),trivial⟩ (AvLe.of_eq (by rw [h]; try rfl))
           · have h:=h.2 (bneF hc5)
             rcases bft (decide (b<0)) with hc6 | hc6
             · have h:=h.1 (odt hc6)
               exact p9_start_6 f x b hE ⟨hc0,hc1,hc2,hc3,hc4,(QK Try.func36 (by kernel_rfl) qN (VF f h1)),rfl,rfl,h2,(by exact QM cPtc (fun _=>rfl) x.ps),(by exact QC cPtc (fun _=>rfl) x.ps),(by exact QV cPtc (fun _=>rfl) x.ps),rfl,rfl,h3,(by exact QM cSit (fun _=>rfl) x.ss),(by exact QC cSit (fun _=>rfl) x.ss),(by exact QV cSit (fun _=>rfl) x.ss),(by rw [(show AV.rsl (Qc x.ps) 0 (0+x.ps.length)=AV.rsl (Qc x.ps) 0 x.ps.length from by rw [show (0+x.ps.length)=x.ps.length from by simp])]; rw [(show AV.rsl (Qb x.ss) 0 (0+x.ss.length)=AV.rsl (Qb x.ss) 0 x.ss.length from by rw [show (0+x.ss.length)=x.ss.length from by simp])]; exact (u35 (Qaj f x.ps x.ss h4))),rfl,rfl,hc5,hc6,rfl,(u13 (YO )),trivial⟩ (AvLe.of_eq (by rw [h]; try rfl))
             · have h:=h.2 (odf hc6)
               rcases bft (decide (b≥(f.cells.length:Int))) with hc7 | hc7
               · have h:=h.1 (odt hc7)
                 exact p9_start_7 f x b hE ⟨hc0,hc1,hc2,hc3,hc4,(QK Try.func36 (by kernel_rfl) qN (VF f h1)),rfl,rfl,h2,(by exact QM cPtc (fun _=>rfl) x.ps),(by exact QC cPtc (fun _=>rfl) x.ps),(by exact QV cPtc (fun _=>rfl) x.ps),rfl,rfl,h3,(by exact QM cSit (fun _=>rfl) x.ss),(by exact QC cSit (fun _=>rfl) x.ss),(by exact QV cSit (fun _=>rfl) x.ss),(by rw [(show AV.rsl (Qc x.ps) 0 (0+x.ps.length)=AV.rsl (Qc x.ps) 0 x.ps.length from by rw [show (0+x.ps.length)=x.ps.length from by simp])]; rw [(show AV.rsl (Qb x.ss) 0 (0+x.ss.length)=AV.rsl (Qb x.ss) 0 x.ss.length from by rw [show (0+x.ss.length)=x.ss.length from by simp])]; exact (u35 (Qaj f x.ps x.ss h4))),rfl,rfl,hc5,hc6,hc7,(u13 (YO )),trivial⟩ (AvLe.of_eq (by rw [h]; try rfl))
               · have h:=h.2 (odf hc7)
                 obtain ⟨h5,h⟩:=h
                 obtain ⟨h7,h⟩:=h
                 obtain ⟨e,h6,h⟩:=h
                 obtain ⟨h8,h⟩:=h
                 rcases bft (decide (b<(((0+x.cr.length):Nat):Int))) with hc8 | hc8
                 · have h:=h.1 (odt hc8)
                   obtain ⟨h10,h⟩:=h
                   obtain ⟨e1,h9,h⟩:=h
                   obtain ⟨h11,h⟩:=h
                   obtain ⟨h12,h⟩:=h
                   obtain ⟨h13,h⟩:=h
                   refine p9_start_8 f x b e e1 hE ⟨hc0,hc1,hc2,hc3,hc4,(QK Try.func36 (by kernel_rfl) qN (VF f h1)),rfl,rfl,h2,(by exact QM cPtc (fun _=>rfl) x.ps),(by exact QC cPtc (fun _=>rfl) x.ps),(by exact QV cPtc (fun _=>rfl) x.ps),rfl,rfl,h3,(by exact QM cSit (fun _=>rfl) x.ss),(by exact QC cSit (fun _=>rfl) x.ss),(by exact QV cSit (fun _=>rfl) x.ss),(by rw [(show AV.rsl (Qc x.ps) 0 (0+x.ps.length)=AV.rsl (Qc x.ps) 0 x.ps.length from by rw [show (0+x.ps.length)=x.ps.length from by simp])]; rw [(show AV.rsl (Qb x.ss) 0 (0+x.ss.length)=AV.rsl (Qb x.ss) 0 x.ss.length from by rw [show (0+x.ss.length)=x.ss.length from by simp])]; exact (u35 (Qaj f x.ps x.ss h4))),rfl,rfl,hc5,hc6,hc7,(Qt Try.func36 (by kernel_rfl) f36lb (gdL_ok f h5)),(by decide),(Qj h7 h6),rfl,(rf cI 1 0 1 h6),rfl,rfl,rfl,h8,(by exact QM cI (fun _=>rfl) x.cr),(by exact QC cI (fun _=>rfl) x.cr),(by exact QV cI (fun _=>rfl) x.cr),rfl,hc8,(by have hx:=Qj h10 h9; simpa using hx),rfl,(rf cI 1 0 1 h9),rfl,rfl,rfl,h11,(by exact QM cPtc (fun _=>rfl) x.ps),(by exact QC cPtc (fun _=>rfl) x.ps),(by exact QV cPtc (fun _=>rfl) x.ps),rfl,rfl,h12,(by exact QM cSit (fun _=>rfl) x.ss),(by exact QC cSit (fun _=>rfl) x.ss),(by exact QV cSit (fun _=>rfl) x.ss),(by rw [(show AV.rsl (Qu (rowI f.cells) (0+(Int.toNat b)*1) [.int .i64 1]) 0 f.cells.length=AV.rsl (rowI (f.cells.set (Int.toNat b) 1)) 0 (f.cells.set (Int.toNat b) 1).length from by rw [(show Qu (rowI f.cells) (0+(Int.toNat b)*1) [.int .i64 1]=rowI (f.cells.set (Int.toNat b) 1) from Qz cI (s:=1) (k:=0) (fun _=>rfl) h6 rfl (by first | decide | simp))]; rw [show f.cells.length=(f.cells.set (Int.toNat b) 1).length from by simp])]; rw [(show AV.rsl (Qc x.ps) 0 (0+x.ps.length)=AV.rsl (Qc x.ps) 0 x.ps.length from by rw [show (0+x.ps.length)=x.ps.length from by simp])]; rw [(show AV.rsl (Qb x.ss) 0 (0+x.ss.length)=AV.rsl (Qb x.ss) 0 x.ss.length from by rw [show (0+x.ss.length)=x.ss.length from by simp])]; rw [(show AV.rsl (Qu (rowI x.cr) (0+(Int.toNat b)*1) [.int .i64 0]) 0 (0+x.cr.length)=AV.rsl (rowI (x.cr.set (Int.toNat b) 0)) 0 (x.cr.set (Int.toNat b) 0).length from by rw [(show Qu (rowI x.cr) (0+(Int.toNat b)*1) [.int .i64 0]=rowI (x.cr.set (Int.toNat b) 0) from Qz cI (s:=1) (k:=0) (fun _=>rfl) h9 rfl (by first | decide | simp))]; rw [show (0+x.cr.length)=(x.cr.set (Int.toNat b) 0).length from by simp])]; exact (u37 (Clear_ok2 (⟨f.w,f.h,(f.cells.set (Int.toNat b) 1),f.hts⟩:Gd) x.ps x.ss (x.cr.set (Int.toNat b) 0) h13))),rfl,rfl,rfl,rfl,rfl,trivial⟩ ?_
                   have h:=(h 1 1)
                   simp only [Vd,List.length_set] at h
                   rw [(show Qu (rowI x.cr) (0+(Int.toNat b)*1) [.int .i64 0]=rowI (x.cr.set (Int.toNat b) 0) from Qz cI (s:=1) (k:=0) (fun _=>rfl) h9 rfl (by first | decide | simp))]; (try rw [(show (0+x.cr.length)=x.cr.length from by simp)]); rw [(show Qu (rowI f.cells) (0+(Int.toNat b)*1) [.int .i64 1]=rowI (f.cells.set (Int.toNat b) 1) from Qz cI (s:=1) (k:=0) (fun _=>rfl) h6 rfl (by first | decide | simp))]
                   exact h
                 · have h:=h.2 (odf hc8)
                   obtain ⟨h9,h⟩:=h
                   obtain ⟨h10,h⟩:=h
                   obtain ⟨h11,h⟩:=h
                   refine p9_start_9 f x b e hE ⟨hc0,hc1,hc2,hc3,hc4,(QK Try.func36 (by kernel_rfl) qN (VF f h1)),rfl,rfl,h2,(by exact QM cPtc (fun _=>rfl) x.ps),(by exact QC cPtc (fun _=>rfl) x.ps),(by exact QV cPtc (fun _=>rfl) x.ps),rfl,rfl,h3,(by exact QM cSit (fun _=>rfl) x.ss),(by exact QC cSit (fun _=>rfl) x.ss),(by exact QV cSit (fun _=>rfl) x.ss),(by rw [(show AV.rsl (Qc x.ps) 0 (0+x.ps.length)=AV.rsl (Qc x.ps) 0 x.ps.length from by rw [show (0+x.ps.length)=x.ps.length from by simp])]; rw [(show AV.rsl (Qb x.ss) 0 (0+x.ss.length)=AV.rsl (Qb x.ss) 0 x.ss.length from by rw [show (0+x.ss.length)=x.ss.length from by simp])]; exact (u35 (Qaj f x.ps x.ss h4))),rfl,rfl,hc5,hc6,hc7,(Qt Try.func36 (by kernel_rfl) f36lb (gdL_ok f h5)),(by decide),(Qj h7 h6),rfl,(rf cI 1 0 1 h6),rfl,rfl,rfl,h8,(by exact QM cI (fun _=>rfl) x.cr),(by exact QC cI (fun _=>rfl) x.cr),(by exact QV cI (fun _=>rfl) x.cr),rfl,hc8,rfl,rfl,h9,(by exact QM cPtc (fun _=>rfl) x.ps),(by exact QC cPtc (fun _=>rfl) x.ps),(by exact QV cPtc (fun _=>rfl) x.ps),rfl,rfl,h10,(by exact QM cSit (fun _=>rfl) x.ss),(by exact QC cSit (fun _=>rfl) x.ss),(by exact QV cSit (fun _=>rfl) x.ss),(by rw [(show AV.rsl (Qu (rowI f.cells) (0+(Int.toNat b)*1) [.int .i64 1]) 0 f.cells.length=AV.rsl (rowI (f.cells.set (Int.toNat b) 1)) 0 (f.cells.set (Int.toNat b) 1).length from by rw [(show Qu (rowI f.cells) (0+(Int.toNat b)*1) [.int .i64 1]=rowI (f.cells.set (Int.toNat b) 1) from Qz cI (s:=1) (k:=0) (fun _=>rfl) h6 rfl (by first | decide | simp))]; rw [show f.cells.length=(f.cells.set (Int.toNat b) 1).length from by simp])]; rw [(show AV.rsl (Qc x.ps) 0 (0+x.ps.length)=AV.rsl (Qc x.ps) 0 x.ps.length from by rw [show (0+x.ps.length)=x.ps.length from by simp])]; rw [(show AV.rsl (Qb x.ss) 0 (0+x.ss.length)=AV.rsl (Qb x.ss) 0 x.ss.length from by rw [show (0+x.ss.length)=x.ss.length from by simp])]; rw [(show AV.rsl (rowI x.cr) 0 (0+x.cr.length)=AV.rsl (rowI x.cr) 0 x.cr.length from by rw [show (0+x.cr.length)=x.cr.length from by simp])]; exact (u37 (Clear_ok2 (⟨f.w,f.h,(f.cells.set (Int.toNat b) 1),f.hts⟩:Gd) x.ps x.ss x.cr h11))),rfl,rfl,rfl,rfl,rfl,trivial⟩ ?_
                   have h:=(h 1 1)
                   simp only [Vd,List.length_set] at h
                   (try rw [(show (0+x.cr.length)=x.cr.length from by simp)]); rw [(show Qu (rowI f.cells) (0+(Int.toNat b)*1) [.int .i64 1]=rowI (f.cells.set (Int.toNat b) 1) from Qz cI (s:=1) (k:=0) (fun _=>rfl) h6 rfl (by first | decide | simp))]
                   exact h
theorem p9_0_0 (f:Gd) (x:Fie) (b:Int) (g1:Int) (v6:List Int) (v9:List Int) (i:Nat) (g6:Nat) (g9:Nat) (e:Int) {E:Env} {res:AV} (hE:Qh Try.prog 9 res E) (ho:AllP [(decide ((i:Int)<(((Qv (newF f x.ps x.ss).1 b).length:Nat):Int)))=true,0≤(i:Int)∧(i:Int)<(((Qv (newF f x.ps x.ss).1 b).length:Nat):Int),((rowI (Qv (newF f x.ps x.ss).1 b)).drop (0+(Int.toNat (i:Int))*1)).take 1=[.int .i64 e],(decide (e<0))=true,true=true])
 (hr:AvLe (.bool false) res):G Try.prog E (f9K0 Try.prog) (f9S0 f x b g1 v6 v9 i g6 g9) :=
 Qf (n:=400) (evs:=[.b true,.ld (.int .i64 e),.b true,.b true]) (obs:=_) hE Try.func9 Qg (by kernel_rfl) ho hr
theorem p9_0_1 (f:Gd) (x:Fie) (b:Int) (g1:Int) (v6:List Int) (v9:List Int) (i:Nat) (g6:Nat) (g9:Nat) (e:Int) {E:Env} {res:AV} (hE:Qh Try.prog 9 res E) (ho:AllP [(decide ((i:Int)<(((Qv (newF f x.ps x.ss).1 b).length:Nat):Int)))=true,0≤(i:Int)∧(i:Int)<(((Qv (newF f x.ps x.ss).1 b).length:Nat):Int),((rowI (Qv (newF f x.ps x.ss).1 b)).drop (0+(Int.toNat (i:Int))*1)).take 1=[.int .i64 e],(decide (e<0))=false,0≤(i:Int)∧(i:Int)<(((Qv (newF f x.ps x.ss).1 b).length:Nat):Int),((rowI (Qv (newF f x.ps x.ss).1 b)).drop (0+(Int.toNat (i:Int))*1)).take 1=[.int .i64 e],g9=g9,(decide (e≥(v9.length:Int)))=true])
 (hr:AvLe (.bool false) res):G Try.prog E (f9K0 Try.prog) (f9S0 f x b g1 v6 v9 i g6 g9) :=
 Qf (n:=400) (evs:=[.b true,.ld (.int .i64 e),.b false,.ld (.int .i64 e),.b true]) (obs:=_) hE Try.func9 Qg (by kernel_rfl) ho hr
theorem p9_0_2 (f:Gd) (x:Fie) (b:Int) (g1:Int) (v6:List Int) (v9:List Int) (i:Nat) (g6:Nat) (g9:Nat) (e:Int) (e1:Int) {E:Env} {res:AV} (hE:Qh Try.prog 9 res E) (ho:AllP [(decide ((i:Int)<(((Qv (newF f x.ps x.ss).1 b).length:Nat):Int)))=true,0≤(i:Int)∧(i:Int)<(((Qv (newF f x.ps x.ss).1 b).length:Nat):Int),((rowI (Qv (newF f x.ps x.ss).1 b)).drop (0+(Int.toNat (i:Int))*1)).take 1=[.int .i64 e],(decide (e<0))=false,0≤(i:Int)∧(i:Int)<(((Qv (newF f x.ps x.ss).1 b).length:Nat):Int),((rowI (Qv (newF f x.ps x.ss).1 b)).drop (0+(Int.toNat (i:Int))*1)).take 1=[.int .i64 e],g9=g9,(decide (e≥(v9.length:Int)))=false,Yp Try.prog (.clos 36 [] []) [.agg [.int .i64 f.w,.int .i64 f.h,.rsl (rowI f.cells) 0 f.cells.length,.rsl (rowI f.hts) 0 f.hts.length]] (.agg [.int .i64 f.w,.int .i64 f.h,.rsl (rowI f.cells) 0 f.cells.length,.rsl (rowI f.hts) 0 f.hts.length]),0=0,0=0,(0+x.ps.length)≤2147483648,((Qc x.ps).drop 0).take (x.ps.length*5)=(Qc x.ps),(Qc x.ps).length=(x.ps.length*5),noRefs (Qc x.ps)=true,0=0,0=0,(0+x.ss.length)≤2147483648,((Qb x.ss).drop 0).take (x.ss.length*2)=(Qb x.ss),(Qb x.ss).length=(x.ss.length*2),noRefs (Qb x.ss)=true,0≤(i:Int)∧(i:Int)<(((Qv (newF f x.ps x.ss).1 b).length:Nat):Int),((rowI (Qv (newF f x.ps x.ss).1 b)).drop (0+(Int.toNat (i:Int))*1)).take 1=[.int .i64 e],Yp Try.prog (.clos 39 [] []) [.agg [.int .i64 f.w,.int .i64 f.h,.rsl (rowI f.cells) 0 f.cells.length,.rsl (rowI f.hts) 0 f.hts.length],.rsl (Qc x.ps) 0 (0+x.ps.length),.rsl (Qb x.ss) 0 (0+x.ss.length),.int .i64 e] (.tup [.nilSl,.nilSl,.int .i64 3]),1=1,1=1,0≤(i:Int)∧(i:Int)<(((Qv (newF f x.ps x.ss).1 b).length:Nat):Int),((rowI (Qv (newF f x.ps x.ss).1 b)).drop (0+(Int.toNat (i:Int))*1)).take 1=[.int .i64 e],0≤e∧e<(v9.length:Int),g9=g9,g9=g9,((rowI v9).drop (0+(Int.toNat e)*1)).take 1=[.int .i64 e1],(decide (e1 > 0))=true,(g1 != 3)=true,true=true])
 (hr:AvLe (.bool false) res):G Try.prog E (f9K0 Try.prog) (f9S0 f x b g1 v6 v9 i g6 g9) :=
 Qf (n:=400) (evs:=[.b true,.ld (.int .i64 e),.b false,.ld (.int .i64 e),.b false,.vn (.agg [.int .i64 f.w,.int .i64 f.h,.rsl (rowI f.cells) 0 f.cells.length,.rsl (rowI f.hts) 0 f.hts.length]),.cs (Qc x.ps),.cs (Qb x.ss),.ld (.int .i64 e),.vn (.tup [.nilSl,.nilSl,.int .i64 3]),.ld (.int .i64 e),.ld (.int .i64 e1),.b true,.b true,.b true]) (obs:=_) hE Try.func9 Qg (by kernel_rfl) ho hr
theorem p9_0_3 (f:Gd) (x:Fie) (b:Int) (g1:Int) (v6:List Int) (v9:List Int) (i:Nat) (g6:Nat) (g9:Nat) (e:Int) (e1:Int) {E:Env} {rv:AV} (hE:Qh Try.prog 9 rv E) (ho:AllP [(decide ((i:Int)<(((Qv (newF f x.ps x.ss).1 b).length:Nat):Int)))=true,0≤(i:Int)∧(i:Int)<(((Qv (newF f x.ps x.ss).1 b).length:Nat):Int),((rowI (Qv (newF f x.ps x.ss).1 b)).drop (0+(Int.toNat (i:Int))*1)).take 1=[.int .i64 e],(decide (e<0))=false,0≤(i:Int)∧(i:Int)<(((Qv (newF f x.ps x.ss).1 b).length:Nat):Int),((rowI (Qv (newF f x.ps x.ss).1 b)).drop (0+(Int.toNat (i:Int))*1)).take 1=[.int .i64 e],g9=g9,(decide (e≥(v9.length:Int)))=false,Yp Try.prog (.clos 36 [] []) [.agg [.int .i64 f.w,.int .i64 f.h,.rsl (rowI f.cells) 0 f.cells.length,.rsl (rowI f.hts) 0 f.hts.length]] (.agg [.int .i64 f.w,.int .i64 f.h,.rsl (rowI f.cells) 0 f.cells.length,.rsl (rowI f.hts) 0 f.hts.length]),0=0,0=0,(0+x.ps.length)≤2147483648,((Qc x.ps).drop 0).take (x.ps.length*5)=(Qc x.ps),(Qc x.ps).length=(x.ps.length*5),noRefs (Qc x.ps)=true,0=0,0=0,(0+x.ss.length)≤2147483648,((Qb x.ss).drop 0).take (x.ss.length*2)=(Qb x.ss),(Qb x.ss).length=(x.ss.length*2),noRefs (Qb x.ss)=true,0≤(i:Int)∧(i:Int)<(((Qv (newF f x.ps x.ss).1 b).length:Nat):Int),((rowI (Qv (newF f x.ps x.ss).1 b)).drop (0+(Int.toNat (i:Int))*1)).take 1=[.int .i64 e],Yp Try.prog (.clos 39 [] []) [.agg [.int .i64 f.w,.int .i64 f.h,.rsl (rowI f.cells) 0 f.cells.length,.rsl (rowI f.hts) 0 f.hts.length],.rsl (Qc x.ps) 0 (0+x.ps.length),.rsl (Qb x.ss) 0 (0+x.ss.length),.int .i64 e] (.tup [.nilSl,.nilSl,.int .i64 3]),1=1,1=1,0≤(i:Int)∧(i:Int)<(((Qv (newF f x.ps x.ss).1 b).length:Nat):Int),((rowI (Qv (newF f x.ps x.ss).1 b)).drop (0+(Int.toNat (i:Int))*1)).take 1=[.int .i64 e],0≤e∧e<(v9.length:Int),g9=g9,g9=g9,((rowI v9).drop (0+(Int.toNat e)*1)).take 1=[.int .i64 e1],(decide (e1 > 0))=true,(g1 != 3)=false,false=false,InR .i64 ((i:Int)+1)])
 (hg:G Try.prog E (f9K0 Try.prog) ⟨([J,J,J,.ptr 0 0 0,.ptr 1 0 0]++jj 7 ([.sl 9 g9 0 v9.length 1,J,.int .i64 g1,.rsl (rowI (Qv (newF f x.ps x.ss).1 b)) 0 ((Qv (newF f x.ps x.ss).1 b).length),J,.int .i64 ((i:Int)+1)]++Js 184)),[⟨true,0,1,true,[.int .i64 f.w,.int .i64 f.h,.rsl (rowI f.cells) 0 f.cells.length,.rsl (rowI f.hts) 0 f.hts.length],false⟩,⟨true,0,1,true,[.rsl (Qc x.ps) 0 x.ps.length,.rsl (Qb x.ss) 0 x.ss.length,.rsl (rowI x.cr) 0 x.cr.length],false⟩,⟨true,1,5,true,(Qc x.ps),true⟩,⟨true,1,2,true,(Qb x.ss),true⟩,⟨true,0,1,true,[.int .i64 f.w,.int .i64 f.h,.rsl (rowI f.cells) 0 f.cells.length,.rsl (rowI f.hts) 0 f.hts.length],false⟩,⟨true,0,1,false,[.int .i64 f.w,.int .i64 f.h,.sl 6 g6 0 v6.length 1,.sl 7 1 0 f.hts.length 1],false⟩,⟨true,g6,1,true,(rowI v6),true⟩,⟨true,1,1,true,(rowI f.hts),true⟩,⟨true,0,1,false,[.int .i64 f.w,.int .i64 f.h,.sl 6 g6 0 v6.length 1,.sl 7 1 0 f.hts.length 1],false⟩,⟨true,g9,1,true,(rowI v9),true⟩,⟨true,1,5,true,(Qc x.ps),true⟩,⟨true,1,2,true,(Qb x.ss),true⟩,⟨true,1,5,true,(Qc x.ps),true⟩,⟨true,1,2,true,(Qb x.ss),true⟩]⟩):G Try.prog E (f9K0 Try.prog) (f9S0 f x b g1 v6 v9 i g6 g9) :=
 Qe (n:=400) (ds:=[]) (cs:=[]) (live:=[3,4,12,14,15,17]) (m:=14) (evs:=[.b true,.ld (.int .i64 e),.b false,.ld (.int .i64 e),.b false,.vn (.agg [.int .i64 f.w,.int .i64 f.h,.rsl (rowI f.cells) 0 f.cells.length,.rsl (rowI f.hts) 0 f.hts.length]),.cs (Qc x.ps),.cs (Qb x.ss),.ld (.int .i64 e),.vn (.tup [.nilSl,.nilSl,.int .i64 3]),.ld (.int .i64 e),.ld (.int .i64 e1),.b true,.b false,.b false,.stop]) (obs:=_) hE.2.1 (hE.nogh _) Qg (by kernel_rfl) ho hg
theorem p9_0_4 (f:Gd) (x:Fie) (b:Int) (g1:Int) (v6:List Int) (v9:List Int) (i:Nat) (g6:Nat) (g9:Nat) (e:Int) (e1:Int) {E:Env} {rv:AV} (hE:Qh Try.prog 9 rv E) (ho:AllP [(decide ((i:Int)<(((Qv (newF f x.ps x.ss).1 b).length:Nat):Int)))=true,0≤(i:Int)∧(i:Int)<(((Qv (newF f x.ps x.ss).1 b).length:Nat):Int),((rowI (Qv (newF f x.ps x.ss).1 b)).drop (0+(Int.toNat (i:Int))*1)).take 1=[.int .i64 e],(decide (e<0))=false,0≤(i:Int)∧(i:Int)<(((Qv (newF f x.ps x.ss).1 b).length:Nat):Int),((rowI (Qv (newF f x.ps x.ss).1 b)).drop (0+(Int.toNat (i:Int))*1)).take 1=[.int .i64 e],g9=g9,(decide (e≥(v9.length:Int)))=false,Yp Try.prog (.clos 36 [] []) [.agg [.int .i64 f.w,.int .i64 f.h,.rsl (rowI f.cells) 0 f.cells.length,.rsl (rowI f.hts) 0 f.hts.length]] (.agg [.int .i64 f.w,.int .i64 f.h,.rsl (rowI f.cells) 0 f.cells.length,.rsl (rowI f.hts) 0 f.hts.length]),0=0,0=0,(0+x.ps.length)≤2147483648,((Qc x.ps).drop 0).take (x.ps.length*5)=(Qc x.ps),(Qc x.ps).length=(x.ps.length*5),noRefs (Qc x.ps)=true,0=0,0=0,(0+x.ss.length)≤2147483648,((Qb x.ss).drop 0).take (x.ss.length*2)=(Qb x.ss),(Qb x.ss).length=(x.ss.length*2),noRefs (Qb x.ss)=true,0≤(i:Int)∧(i:Int)<(((Qv (newF f x.ps x.ss).1 b).length:Nat):Int),((rowI (Qv (newF f x.ps x.ss).1 b)).drop (0+(Int.toNat (i:Int))*1)).take 1=[.int .i64 e],Yp Try.prog (.clos 39 [] []) [.agg [.int .i64 f.w,.int .i64 f.h,.rsl (rowI f.cells) 0 f.cells.length,.rsl (rowI f.hts) 0 f.hts.length],.rsl (Qc x.ps) 0 (0+x.ps.length),.rsl (Qb x.ss) 0 (0+x.ss.length),.int .i64 e] (.tup [.nilSl,.nilSl,.int .i64 3]),1=1,1=1,0≤(i:Int)∧(i:Int)<(((Qv (newF f x.ps x.ss).1 b).length:Nat):Int),((rowI (Qv (newF f x.ps x.ss).1 b)).drop (0+(Int.toNat (i:Int))*1)).take 1=[.int .i64 e],0≤e∧e<(v9.length:Int),g9=g9,g9=g9,((rowI v9).drop (0+(Int.toNat e)*1)).take 1=[.int .i64 e1],(decide (e1 > 0))=false,false=false,false=false,InR .i64 ((i:Int)+1)])
 (hg:G Try.prog E (f9K0 Try.prog) ⟨([J,J,J,.ptr 0 0 0,.ptr 1 0 0]++jj 7 ([.sl 9 g9 0 v9.length 1,J,.int .i64 g1,.rsl (rowI (Qv (newF f x.ps x.ss).1 b)) 0 ((Qv (newF f x.ps x.ss).1 b).length),J,.int .i64 ((i:Int)+1)]++Js 184)),[⟨true,0,1,true,[.int .i64 f.w,.int .i64 f.h,.rsl (rowI f.cells) 0 f.cells.length,.rsl (rowI f.hts) 0 f.hts.length],false⟩,⟨true,0,1,true,[.rsl (Qc x.ps) 0 x.ps.length,.rsl (Qb x.ss) 0 x.ss.length,.rsl (rowI x.cr) 0 x.cr.length],false⟩,⟨true,1,5,true,(Qc x.ps),true⟩,⟨true,1,2,true,(Qb x.ss),true⟩,⟨true,0,1,true,[.int .i64 f.w,.int .i64 f.h,.rsl (rowI f.cells) 0 f.cells.length,.rsl (rowI f.hts) 0 f.hts.length],false⟩,⟨true,0,1,false,[.int .i64 f.w,.int .i64 f.h,.sl 6 g6 0 v6.length 1,.sl 7 1 0 f.hts.length 1],false⟩,⟨true,g6,1,true,(rowI v6),true⟩,⟨true,1,1,true,(rowI f.hts),true⟩,⟨true,0,1,false,[.int .i64 f.w,.int .i64 f.h,.sl 6 g6 0 v6.length 1,.sl 7 1 0 f.hts.length 1],false⟩,⟨true,g9,1,true,(rowI v9),true⟩,⟨true,1,5,true,(Qc x.ps),true⟩,⟨true,1,2,true,(Qb x.ss),true⟩,⟨true,1,5,true,(Qc x.ps),true⟩,⟨true,1,2,true,(Qb x.ss),true⟩]⟩):G Try.prog E (f9K0 Try.prog) (f9S0 f x b g1 v6 v9 i g6 g9) :=
 Qe (n:=400) (ds:=[]) (cs:=[]) (live:=[3,4,12,14,15,17]) (m:=14) (evs:=[.b true,.ld (.int .i64 e),.b false,.ld (.int .i64 e),.b false,.vn (.agg [.int .i64 f.w,.int .i64 f.h,.rsl (rowI f.cells) 0 f.cells.length,.rsl (rowI f.hts) 0 f.hts.length]),.cs (Qc x.ps),.cs (Qb x.ss),.ld (.int .i64 e),.vn (.tup [.nilSl,.nilSl,.int .i64 3]),.ld (.int .i64 e),.ld (.int .i64 e1),.b false,.b false,.b false,.stop]) (obs:=_) hE.2.1 (hE.nogh _) Qg (by kernel_rfl) ho hg
theorem p9_0_5 (f:Gd) (x:Fie) (b:Int) (g1:Int) (v6:List Int) (v9:List Int) (i:Nat) (g6:Nat) (g9:Nat) {E:Env} {res:AV} (hE:Qh Try.prog 9 res E) (ho:AllP [(decide ((i:Int)<(((Qv (newF f x.ps x.ss).1 b).length:Nat):Int)))=false,Qi Try.prog (.clos 13 [] []) [] (.bool true)])
 (hr:AvLe (.bool true) res):G Try.prog E (f9K0 Try.prog) (f9S0 f x b g1 v6 v9 i g6 g9) :=
 Qf (n:=400) (evs:=[.b false,.v (.bool true)]) (obs:=_) hE Try.func9 Qg (by kernel_rfl) ho hr
theorem f9W0 (f:Gd) (x:Fie) (b:Int) (g1:Int) (v6:List Int) (v9:List Int) (i:Nat) {E:Env} {rv:Bool} (hE:Qh Try.prog 9 (.bool rv) E)
 (h:(((i:Int)<(((Qv (newF f x.ps x.ss).1 b).length:Nat):Int)→(∃ e:Int,(Qv (newF f x.ps x.ss).1 b)[i]?=some e∧((e<0→rv=false)∧(¬ (e<0)→((e≥(v9.length:Int)→rv=false)∧(¬ (e≥(v9.length:Int))→((GdSmall f)∧((0+x.ps.length)≤2147483648∧((0+x.ss.length)≤2147483648∧((WaysPre f x.ps x.ss e)∧(0≤e∧(∃ e1:Int,v9[Int.toNat e]?=some e1∧((e1 > 0→((¬ (g1=3)→rv=false)∧(g1=3→((I6 ((i:Int)+1))∧f9G0 E f x b g1 v6 v9 (i+1)))))∧(¬ (e1 > 0)→((I6 ((i:Int)+1))∧f9G0 E f x b g1 v6 v9 (i+1))))))))))))))))∧(¬ ((i:Int)<(((Qv (newF f x.ps x.ss).1 b).length:Nat):Int))→rv=true))):f9G0 E f x b g1 v6 v9 i:=by
 intro g6 g9
 rcases bft (decide ((i:Int)<(((Qv (newF f x.ps x.ss).1 b).length:Nat):Int))) with hc0 | hc0
 · have h:=h.1 (odt hc0)
   obtain ⟨e,h1,h⟩:=h
   rcases bft (decide (e<0)) with hc1 | hc1
   · have h:=h.1 (odt hc1)
     exact p9_0_0 f x b g1 v6 v9 i g6 g9 e hE ⟨hc0,(Qs h1),(rp cI 1 0 1 h1),hc1,rfl,trivial⟩ (AvLe.of_eq (by rw [h]; try rfl))
   · have h:=h.2 (odf hc1)
     rcases bft (decide (e≥(v9.length:Int))) with hc2 | hc2
     · have h:=h.1 (odt hc2)
       exact p9_0_1 f x b g1 v6 v9 i g6 g9 e hE ⟨hc0,(Qs h1),(rp cI 1 0 1 h1),hc1,(Qs h1),(rp cI 1 0 1 h1),rfl,hc2,trivial⟩ (AvLe.of_eq (by rw [h]; try rfl))
     · have h:=h.2 (odf hc2)
       obtain ⟨h2,h⟩:=h
       obtain ⟨h3,h⟩:=h
       obtain ⟨h4,h⟩:=h
       obtain ⟨h5,h⟩:=h
       obtain ⟨h7,h⟩:=h
       obtain ⟨e1,h6,h⟩:=h
       rcases bft (decide (e1 > 0)) with hc3 | hc3
       · have h:=h.1 (odt hc3)
         rcases bft (g1 != 3) with hc4 | hc4
         · have h:=h.1 (bneT hc4)
           exact p9_0_2 f x b g1 v6 v9 i g6 g9 e e1 hE ⟨hc0,(Qs h1),(rp cI 1 0 1 h1),hc1,(Qs h1),(rp cI 1 0 1 h1),rfl,hc2,(QK Try.func36 (by kernel_rfl) qN (VF f h2)),rfl,rfl,h3,(by exact QM cPtc (fun _=>rfl) x.ps),(by exact QC cPtc (fun _=>rfl) x.ps),(by exact QV cPtc (fun _=>rfl) x.ps),rfl,rfl,h4,(by exact QM cSit (fun _=>rfl) x.ss),(by exact QC cSit (fun _=>rfl) x.ss),(by exact QV cSit (fun _=>rfl) x.ss),(Qs h1),(rp cI 1 0 1 h1),(by rw [(show AV.rsl (Qc x.ps) 0 (0+x.ps.length)=AV.rsl (Qc x.ps) 0 x.ps.length from by rw [show (0+x.ps.length)=x.ps.length from by simp])]; rw [(show AV.rsl (Qb x.ss) 0 (0+x.ss.length)=AV.rsl (Qb x.ss) 0 x.ss.length from by rw [show (0+x.ss.length)=x.ss.length from by simp])]; exact (QK Try.func39 (by kernel_rfl) f39b (Ways_ok f x.ps x.ss e h5))),rfl,rfl,(Qs h1),(rp cI 1 0 1 h1),(Qj h7 h6),rfl,rfl,(rp cI 1 0 1 h6),hc3,hc4,rfl,trivial⟩ (AvLe.of_eq (by rw [h]; try rfl))
         · have h:=h.2 (bneF hc4)
           obtain ⟨q37_5,h⟩:=h
           exact p9_0_3 f x b g1 v6 v9 i g6 g9 e e1 hE ⟨hc0,(Qs h1),(rp cI 1 0 1 h1),hc1,(Qs h1),(rp cI 1 0 1 h1),rfl,hc2,(QK Try.func36 (by kernel_rfl) qN (VF f h2)),rfl,rfl,h3,(by exact QM cPtc (fun _=>rfl) x.ps),(by exact QC cPtc (fun _=>rfl) x.ps),(by exact QV cPtc (fun _=>rfl) x.ps),rfl,rfl,h4,(by exact QM cSit (fun _=>rfl) x.ss),(by exact QC cSit (fun _=>rfl) x.ss),(by exact QV cSit (fun _=>rfl) x.ss),(Qs h1),(rp cI 1 0 1 h1),(by rw [(show AV.rsl (Qc x.ps) 0 (0+x.ps.length)=AV.rsl (Qc x.ps) 0 x.ps.length from by rw [show (0+x.ps.length)=x.ps.length from by simp])]; rw [(show AV.rsl (Qb x.ss) 0 (0+x.ss.length)=AV.rsl (Qb x.ss) 0 x.ss.length from by rw [show (0+x.ss.length)=x.ss.length from by simp])]; exact (QK Try.func39 (by kernel_rfl) f39b (Ways_ok f x.ps x.ss e h5))),rfl,rfl,(Qs h1),(rp cI 1 0 1 h1),(Qj h7 h6),rfl,rfl,(rp cI 1 0 1 h6),hc3,hc4,rfl,q37_5,trivial⟩ (h g6 g9)
       · have h:=h.2 (odf hc3)
         obtain ⟨q37_4,h⟩:=h
         exact p9_0_4 f x b g1 v6 v9 i g6 g9 e e1 hE ⟨hc0,(Qs h1),(rp cI 1 0 1 h1),hc1,(Qs h1),(rp cI 1 0 1 h1),rfl,hc2,(QK Try.func36 (by kernel_rfl) qN (VF f h2)),rfl,rfl,h3,(by exact QM cPtc (fun _=>rfl) x.ps),(by exact QC cPtc (fun _=>rfl) x.ps),(by exact QV cPtc (fun _=>rfl) x.ps),rfl,rfl,h4,(by exact QM cSit (fun _=>rfl) x.ss),(by exact QC cSit (fun _=>rfl) x.ss),(by exact QV cSit (fun _=>rfl) x.ss),(Qs h1),(rp cI 1 0 1 h1),(by rw [(show AV.rsl (Qc x.ps) 0 (0+x.ps.length)=AV.rsl (Qc x.ps) 0 x.ps.length from by rw [show (0+x.ps.length)=x.ps.length from by simp])]; rw [(show AV.rsl (Qb x.ss) 0 (0+x.ss.length)=AV.rsl (Qb x.ss) 0 x.ss.length from by rw [show (0+x.ss.length)=x.ss.length from by simp])]; exact (QK Try.func39 (by kernel_rfl) f39b (Ways_ok f x.ps x.ss e h5))),rfl,rfl,(Qs h1),(rp cI 1 0 1 h1),(Qj h7 h6),rfl,rfl,(rp cI 1 0 1 h6),hc3,rfl,rfl,q37_4,trivial⟩ (h g6 g9)
 · have h:=h.2 (odf hc0)
   exact p9_0_5 f x b g1 v6 v9 i g6 g9 hE ⟨hc0,(u13 (YO )),trivial⟩ (AvLe.of_eq (by rw [h]; try rfl))
theorem p9_5111_0 (f:Gd) (x:Fie) (b:Int) (v9:List Int) (v6:List Int) (g1:Int) (g9:Nat) (g6:Nat) {E:Env} {res:AV} (hE:Qh Try.prog 9 res E) (ho:AllP [(g1 != 0)=true,(g1 != 3)=true,Qi Try.prog (.clos 13 [] []) [] (.bool true)])
 (hr:AvLe (.bool true) res):G Try.prog E (YK Try.prog) (Vd f x b v9 v6 g1 g9 g6) :=
 Qf (n:=400) (evs:=[.b true,.b true,.v (.bool true)]) (obs:=_) hE Try.func9 Qg (by kernel_rfl) ho hr
theorem p9_5111_1 (f:Gd) (x:Fie) (b:Int) (v9:List Int) (v6:List Int) (g1:Int) (g9:Nat) (g6:Nat) {E:Env} {res:AV} (hE:Qh Try.prog 9 res E) (ho:AllP [(g1 != 0)=true,(g1 != 3)=false,((QJ f x.ps x.ss).2.2.1)=true,Qi Try.prog (.clos 34 [] []) [.rsl (rowI v9) 0 v9.length] (.int .i64 v9.sum),g9=g9,(decide (v9.sum≤7))=true,(g1 == 0)=false])
 (hr:AvLe (.bool false) res):G Try.prog E (YK Try.prog) (Vd f x b v9 v6 g1 g9 g6) :=
 Qf (n:=400) (evs:=[.b true,.b false,.b true,.v (.int .i64 v9.sum),.b true,.b false]) (obs:=_) hE Try.func9 Qg (by kernel_rfl) ho hr
theorem p9_5111_2 (f:Gd) (x:Fie) (b:Int) (v9:List Int) (v6:List Int) (g1:Int) (g9:Nat) (g6:Nat) {E:Env} {rv:AV} (hE:Qh Try.prog 9 rv E) (ho:AllP [(g1 != 0)=true,(g1 != 3)=false,((QJ f x.ps x.ss).2.2.1)=true,Qi Try.prog (.clos 34 [] []) [.rsl (rowI v9) 0 v9.length] (.int .i64 v9.sum),g9=g9,(decide (v9.sum≤7))=false,Yp Try.prog (.clos 36 [] []) [.agg [.int .i64 f.w,.int .i64 f.h,.rsl (rowI f.cells) 0 f.cells.length,.rsl (rowI f.hts) 0 f.hts.length]] (.agg [.int .i64 f.w,.int .i64 f.h,.rsl (rowI f.cells) 0 f.cells.length,.rsl (rowI f.hts) 0 f.hts.length]),0=0,0=0,(0+x.ps.length)≤2147483648,((Qc x.ps).drop 0).take (x.ps.length*5)=(Qc x.ps),(Qc x.ps).length=(x.ps.length*5),noRefs (Qc x.ps)=true,0=0,0=0,(0+x.ss.length)≤2147483648,((Qb x.ss).drop 0).take (x.ss.length*2)=(Qb x.ss),(Qb x.ss).length=(x.ss.length*2),noRefs (Qb x.ss)=true,Yp Try.prog (.clos 38 [] []) [.agg [.int .i64 f.w,.int .i64 f.h,.rsl (rowI f.cells) 0 f.cells.length,.rsl (rowI f.hts) 0 f.hts.length],.rsl (Qc x.ps) 0 (0+x.ps.length),.rsl (Qb x.ss) 0 (0+x.ss.length),.int .i64 b] (.tup [.rsl (rowI (Qv (newF f x.ps x.ss).1 b)) 0 ((Qv (newF f x.ps x.ss).1 b).length),.int .i64 0]),1=1,1=1,false=false])
 (hg:G Try.prog E (f9K0 Try.prog) ⟨([J,J,J,.ptr 0 0 0,.ptr 1 0 0]++jj 7 ([.sl 9 g9 0 v9.length 1,J,.int .i64 g1,.rsl (rowI (Qv (newF f x.ps x.ss).1 b)) 0 ((Qv (newF f x.ps x.ss).1 b).length),J,.int .i64 0]++Js 184)),[⟨true,0,1,true,[.int .i64 f.w,.int .i64 f.h,.rsl (rowI f.cells) 0 f.cells.length,.rsl (rowI f.hts) 0 f.hts.length],false⟩,⟨true,0,1,true,[.rsl (Qc x.ps) 0 x.ps.length,.rsl (Qb x.ss) 0 x.ss.length,.rsl (rowI x.cr) 0 x.cr.length],false⟩,⟨true,1,5,true,(Qc x.ps),true⟩,⟨true,1,2,true,(Qb x.ss),true⟩,⟨true,0,1,true,[.int .i64 f.w,.int .i64 f.h,.rsl (rowI f.cells) 0 f.cells.length,.rsl (rowI f.hts) 0 f.hts.length],false⟩,⟨true,0,1,false,[.int .i64 f.w,.int .i64 f.h,.sl 6 g6 0 v6.length 1,.sl 7 1 0 f.hts.length 1],false⟩,⟨true,g6,1,true,(rowI v6),true⟩,⟨true,1,1,true,(rowI f.hts),true⟩,⟨true,0,1,false,[.int .i64 f.w,.int .i64 f.h,.sl 6 g6 0 v6.length 1,.sl 7 1 0 f.hts.length 1],false⟩,⟨true,g9,1,true,(rowI v9),true⟩,⟨true,1,5,true,(Qc x.ps),true⟩,⟨true,1,2,true,(Qb x.ss),true⟩,⟨true,1,5,true,(Qc x.ps),true⟩,⟨true,1,2,true,(Qb x.ss),true⟩]⟩):G Try.prog E (YK Try.prog) (Vd f x b v9 v6 g1 g9 g6) :=
 Qe (n:=400) (ds:=[]) (cs:=[]) (live:=[3,4,12,14,15,17]) (m:=14) (evs:=[.b true,.b false,.b true,.v (.int .i64 v9.sum),.b false,.vn (.agg [.int .i64 f.w,.int .i64 f.h,.rsl (rowI f.cells) 0 f.cells.length,.rsl (rowI f.hts) 0 f.hts.length]),.cs (Qc x.ps),.cs (Qb x.ss),.vn (.tup [.rsl (rowI (Qv (newF f x.ps x.ss).1 b)) 0 ((Qv (newF f x.ps x.ss).1 b).length),.int .i64 0]),.b false,.stop]) (obs:=_) hE.2.1 (hE.nogh _) Qg (by kernel_rfl) ho hg
theorem p9_5111_3 (f:Gd) (x:Fie) (b:Int) (v9:List Int) (v6:List Int) (g1:Int) (g9:Nat) (g6:Nat) {E:Env} {rv:AV} (hE:Qh Try.prog 9 rv E) (ho:AllP [(g1 != 0)=true,(g1 != 3)=false,((QJ f x.ps x.ss).2.2.1)=false,false=false,Yp Try.prog (.clos 36 [] []) [.agg [.int .i64 f.w,.int .i64 f.h,.rsl (rowI f.cells) 0 f.cells.length,.rsl (rowI f.hts) 0 f.hts.length]] (.agg [.int .i64 f.w,.int .i64 f.h,.rsl (rowI f.cells) 0 f.cells.length,.rsl (rowI f.hts) 0 f.hts.length]),0=0,0=0,(0+x.ps.length)≤2147483648,((Qc x.ps).drop 0).take (x.ps.length*5)=(Qc x.ps),(Qc x.ps).length=(x.ps.length*5),noRefs (Qc x.ps)=true,0=0,0=0,(0+x.ss.length)≤2147483648,((Qb x.ss).drop 0).take (x.ss.length*2)=(Qb x.ss),(Qb x.ss).length=(x.ss.length*2),noRefs (Qb x.ss)=true,Yp Try.prog (.clos 38 [] []) [.agg [.int .i64 f.w,.int .i64 f.h,.rsl (rowI f.cells) 0 f.cells.length,.rsl (rowI f.hts) 0 f.hts.length],.rsl (Qc x.ps) 0 (0+x.ps.length),.rsl (Qb x.ss) 0 (0+x.ss.length),.int .i64 b] (.tup [.rsl (rowI (Qv (newF f x.ps x.ss).1 b)) 0 ((Qv (newF f x.ps x.ss).1 b).length),.int .i64 0]),1=1,1=1,false=false])
 (hg:G Try.prog E (f9K0 Try.prog) ⟨([J,J,J,.ptr 0 0 0,.ptr 1 0 0]++jj 7 ([.sl 9 g9 0 v9.length 1,J,.int .i64 g1,.rsl (rowI (Qv (newF f x.ps x.ss).1 b)) 0 ((Qv (newF f x.ps x.ss).1 b).length),J,.int .i64 0]++Js 184)),[⟨true,0,1,true,[.int .i64 f.w,.int .i64 f.h,.rsl (rowI f.cells) 0 f.cells.length,.rsl (rowI f.hts) 0 f.hts.length],false⟩,⟨true,0,1,true,[.rsl (Qc x.ps) 0 x.ps.length,.rsl (Qb x.ss) 0 x.ss.length,.rsl (rowI x.cr) 0 x.cr.length],false⟩,⟨true,1,5,true,(Qc x.ps),true⟩,⟨true,1,2,true,(Qb x.ss),true⟩,⟨true,0,1,true,[.int .i64 f.w,.int .i64 f.h,.rsl (rowI f.cells) 0 f.cells.length,.rsl (rowI f.hts) 0 f.hts.length],false⟩,⟨true,0,1,false,[.int .i64 f.w,.int .i64 f.h,.sl 6 g6 0 v6.length 1,.sl 7 1 0 f.hts.length 1],false⟩,⟨true,g6,1,true,(rowI v6),true⟩,⟨true,1,1,true,(rowI f.hts),true⟩,⟨true,0,1,false,[.int .i64 f.w,.int .i64 f.h,.sl 6 g6 0 v6.length 1,.sl 7 1 0 f.hts.length 1],false⟩,⟨true,g9,1,true,(rowI v9),true⟩,⟨true,1,5,true,(Qc x.ps),true⟩,⟨true,1,2,true,(Qb x.ss),true⟩,⟨true,1,5,true,(Qc x.ps),true⟩,⟨true,1,2,true,(Qb x.ss),true⟩]⟩):G Try.prog E (YK Try.prog) (Vd f x b v9 v6 g1 g9 g6) :=
 Qe (n:=400) (ds:=[]) (cs:=[]) (live:=[3,4,12,14,15,17]) (m:=14) (evs:=[.b true,.b false,.b false,.b false,.vn (.agg [.int .i64 f.w,.int .i64 f.h,.rsl (rowI f.cells) 0 f.cells.length,.rsl (rowI f.hts) 0 f.hts.length]),.cs (Qc x.ps),.cs (Qb x.ss),.vn (.tup [.rsl (rowI (Qv (newF f x.ps x.ss).1 b)) 0 ((Qv (newF f x.ps x.ss).1 b).length),.int .i64 0]),.b false,.stop]) (obs:=_) hE.2.1 (hE.nogh _) Qg (by kernel_rfl) ho hg
theorem p9_5111_4 (f:Gd) (x:Fie) (b:Int) (v9:List Int) (v6:List Int) (g1:Int) (g9:Nat) (g6:Nat) {E:Env} {res:AV} (hE:Qh Try.prog 9 res E) (ho:AllP [(g1 != 0)=false,false=false,((QJ f x.ps x.ss).2.2.1)=true,Qi Try.prog (.clos 34 [] []) [.rsl (rowI v9) 0 v9.length] (.int .i64 v9.sum),g9=g9,(decide (v9.sum≤7))=true,(g1 == 0)=true,Qi Try.prog (.clos 13 [] []) [] (.bool true)])
 (hr:AvLe (.bool true) res):G Try.prog E (YK Try.prog) (Vd f x b v9 v6 g1 g9 g6) :=
 Qf (n:=400) (evs:=[.b false,.b false,.b true,.v (.int .i64 v9.sum),.b true,.b true,.v (.bool true)]) (obs:=_) hE Try.func9 Qg (by kernel_rfl) ho hr
theorem p9_5111_5 (f:Gd) (x:Fie) (b:Int) (v9:List Int) (v6:List Int) (g1:Int) (g9:Nat) (g6:Nat) {E:Env} {rv:AV} (hE:Qh Try.prog 9 rv E) (ho:AllP [(g1 != 0)=false,false=false,((QJ f x.ps x.ss).2.2.1)=true,Qi Try.prog (.clos 34 [] []) [.rsl (rowI v9) 0 v9.length] (.int .i64 v9.sum),g9=g9,(decide (v9.sum≤7))=false,Yp Try.prog (.clos 36 [] []) [.agg [.int .i64 f.w,.int .i64 f.h,.rsl (rowI f.cells) 0 f.cells.length,.rsl (rowI f.hts) 0 f.hts.length]] (.agg [.int .i64 f.w,.int .i64 f.h,.rsl (rowI f.cells) 0 f.cells.length,.rsl (rowI f.hts) 0 f.hts.length]),0=0,0=0,(0+x.ps.length)≤2147483648,((Qc x.ps).drop 0).take (x.ps.length*5)=(Qc x.ps),(Qc x.ps).length=(x.ps.length*5),noRefs (Qc x.ps)=true,0=0,0=0,(0+x.ss.length)≤2147483648,((Qb x.ss).drop 0).take (x.ss.length*2)=(Qb x.ss),(Qb x.ss).length=(x.ss.length*2),noRefs (Qb x.ss)=true,Yp Try.prog (.clos 38 [] []) [.agg [.int .i64 f.w,.int .i64 f.h,.rsl (rowI f.cells) 0 f.cells.length,.rsl (rowI f.hts) 0 f.hts.length],.rsl (Qc x.ps) 0 (0+x.ps.length),.rsl (Qb x.ss) 0 (0+x.ss.length),.int .i64 b] (.tup [.rsl (rowI (Qv (newF f x.ps x.ss).1 b)) 0 ((Qv (newF f x.ps x.ss).1 b).length),.int .i64 0]),1=1,1=1,false=false])
 (hg:G Try.prog E (f9K0 Try.prog) ⟨([J,J,J,.ptr 0 0 0,.ptr 1 0 0]++jj 7 ([.sl 9 g9 0 v9.length 1,J,.int .i64 g1,.rsl (rowI (Qv (newF f x.ps x.ss).1 b)) 0 ((Qv (newF f x.ps x.ss).1 b).length),J,.int .i64 0]++Js 184)),[⟨true,0,1,true,[.int .i64 f.w,.int .i64 f.h,.rsl (rowI f.cells) 0 f.cells.length,.rsl (rowI f.hts) 0 f.hts.length],false⟩,⟨true,0,1,true,[.rsl (Qc x.ps) 0 x.ps.length,.rsl (Qb x.ss) 0 x.ss.length,.rsl (rowI x.cr) 0 x.cr.length],false⟩,⟨true,1,5,true,(Qc x.ps),true⟩,⟨true,1,2,true,(Qb x.ss),true⟩,⟨true,0,1,true,[.int .i64 f.w,.int .i64 f.h,.rsl (rowI f.cells) 0 f.cells.length,.rsl (rowI f.hts) 0 f.hts.length],false⟩,⟨true,0,1,false,[.int .i64 f.w,.int .i64 f.h,.sl 6 g6 0 v6.length 1,.sl 7 1 0 f.hts.length 1],false⟩,⟨true,g6,1,true,(rowI v6),true⟩,⟨true,1,1,true,(rowI f.hts),true⟩,⟨true,0,1,false,[.int .i64 f.w,.int .i64 f.h,.sl 6 g6 0 v6.length 1,.sl 7 1 0 f.hts.length 1],false⟩,⟨true,g9,1,true,(rowI v9),true⟩,⟨true,1,5,true,(Qc x.ps),true⟩,⟨true,1,2,true,(Qb x.ss),true⟩,⟨true,1,5,true,(Qc x.ps),true⟩,⟨true,1,2,true,(Qb x.ss),true⟩]⟩):G Try.prog E (YK Try.prog) (Vd f x b v9 v6 g1 g9 g6) :=
 Qe (n:=400) (ds:=[]) (cs:=[]) (live:=[3,4,12,14,15,17]) (m:=14) (evs:=[.b false,.b false,.b true,.v (.int .i64 v9.sum),.b false,.vn (.agg [.int .i64 f.w,.int .i64 f.h,.rsl (rowI f.cells) 0 f.cells.length,.rsl (rowI f.hts) 0 f.hts.length]),.cs (Qc x.ps),.cs (Qb x.ss),.vn (.tup [.rsl (rowI (Qv (newF f x.ps x.ss).1 b)) 0 ((Qv (newF f x.ps x.ss).1 b).length),.int .i64 0]),.b false,.stop]) (obs:=_) hE.2.1 (hE.nogh _) Qg (by kernel_rfl) ho hg
theorem p9_5111_6 (f:Gd) (x:Fie) (b:Int) (v9:List Int) (v6:List Int) (g1:Int) (g9:Nat) (g6:Nat) {E:Env} {rv:AV} (hE:Qh Try.prog 9 rv E) (ho:AllP [(g1 != 0)=false,false=false,((QJ f x.ps x.ss).2.2.1)=false,false=false,Yp Try.prog (.clos 36 [] []) [.agg [.int .i64 f.w,.int .i64 f.h,.rsl (rowI f.cells) 0 f.cells.length,.rsl (rowI f.hts) 0 f.hts.length]] (.agg [.int .i64 f.w,.int .i64 f.h,.rsl (rowI f.cells) 0 f.cells.length,.rsl (rowI f.hts) 0 f.hts.length]),0=0,0=0,(0+x.ps.length)≤2147483648,((Qc x.ps).drop 0).take (x.ps.length*5)=(Qc x.ps),(Qc x.ps).length=(x.ps.length*5),noRefs (Qc x.ps)=true,0=0,0=0,(0+x.ss.length)≤2147483648,((Qb x.ss).drop 0).take (x.ss.length*2)=(Qb x.ss),(Qb x.ss).length=(x.ss.length*2),noRefs (Qb x.ss)=true,Yp Try.prog (.clos 38 [] []) [.agg [.int .i64 f.w,.int .i64 f.h,.rsl (rowI f.cells) 0 f.cells.length,.rsl (rowI f.hts) 0 f.hts.length],.rsl (Qc x.ps) 0 (0+x.ps.length),.rsl (Qb x.ss) 0 (0+x.ss.length),.int .i64 b] (.tup [.rsl (rowI (Qv (newF f x.ps x.ss).1 b)) 0 ((Qv (newF f x.ps x.ss).1 b).length),.int .i64 0]),1=1,1=1,false=false])
 (hg:G Try.prog E (f9K0 Try.prog) ⟨([J,J,J,.ptr 0 0 0,.ptr 1 0 0]++jj 7 ([.sl 9 g9 0 v9.length 1,J,.int .i64 g1,.rsl (rowI (Qv (newF f x.ps x.ss).1 b)) 0 ((Qv (newF f x.ps x.ss).1 b).length),J,.int .i64 0]++Js 184)),[⟨true,0,1,true,[.int .i64 f.w,.int .i64 f.h,.rsl (rowI f.cells) 0 f.cells.length,.rsl (rowI f.hts) 0 f.hts.length],false⟩,⟨true,0,1,true,[.rsl (Qc x.ps) 0 x.ps.length,.rsl (Qb x.ss) 0 x.ss.length,.rsl (rowI x.cr) 0 x.cr.length],false⟩,⟨true,1,5,true,(Qc x.ps),true⟩,⟨true,1,2,true,(Qb x.ss),true⟩,⟨true,0,1,true,[.int .i64 f.w,.int .i64 f.h,.rsl (rowI f.cells) 0 f.cells.length,.rsl (rowI f.hts) 0 f.hts.length],false⟩,⟨true,0,1,false,[.int .i64 f.w,.int .i64 f.h,.sl 6 g6 0 v6.length 1,.sl 7 1 0 f.hts.length 1],false⟩,⟨true,g6,1,true,(rowI v6),true⟩,⟨true,1,1,true,(rowI f.hts),true⟩,⟨true,0,1,false,[.int .i64 f.w,.int .i64 f.h,.sl 6 g6 0 v6.length 1,.sl 7 1 0 f.hts.length 1],false⟩,⟨true,g9,1,true,(rowI v9),true⟩,⟨true,1,5,true,(Qc x.ps),true⟩,⟨true,1,2,true,(Qb x.ss),true⟩,⟨true,1,5,true,(Qc x.ps),true⟩,⟨true,1,2,true,(Qb x.ss),true⟩]⟩):G Try.prog E (YK Try.prog) (Vd f x b v9 v6 g1 g9 g6) :=
 Qe (n:=400) (ds:=[]) (cs:=[]) (live:=[3,4,12,14,15,17]) (m:=14) (evs:=[.b false,.b false,.b false,.b false,.vn (.agg [.int .i64 f.w,.int .i64 f.h,.rsl (rowI f.cells) 0 f.cells.length,.rsl (rowI f.hts) 0 f.hts.length]),.cs (Qc x.ps),.cs (Qb x.ss),.vn (.tup [.rsl (rowI (Qv (newF f x.ps x.ss).1 b)) 0 ((Qv (newF f x.ps x.ss).1 b).length),.int .i64 0]),.b false,.stop]) (obs:=_) hE.2.1 (hE.nogh _) Qg (by kernel_rfl) ho hg
theorem f9W5111 (f:Gd) (x:Fie) (b:Int) (v9:List Int) (v6:List Int) (g1:Int) {E:Env} {rv:Bool} (hE:Qh Try.prog 9 (.bool rv) E)
 (h:((¬ (g1=0)→((¬ (g1=3)→rv=true)∧(g1=3→((((QJ f x.ps x.ss).2.2.1)=true→(((∀ zz ∈ v9,0≤zz∧zz≤1000000)∧v9.length≤1000)∧((v9.sum≤7→rv=false)∧(¬ (v9.sum≤7)→((GdSmall f)∧((0+x.ps.length)≤2147483648∧((0+x.ss.length)≤2147483648∧(((GdSmall f∧x.ps.length≤1000∧x.ss.length≤1000)∧(newF f x.ps x.ss).2.2=0∧[b].any (offG f)=false)∧f9G0 E f x b g1 v6 v9 0))))))))∧(((QJ f x.ps x.ss).2.2.1)=false→((GdSmall f)∧((0+x.ps.length)≤2147483648∧((0+x.ss.length)≤2147483648∧(((GdSmall f∧x.ps.length≤1000∧x.ss.length≤1000)∧(newF f x.ps x.ss).2.2=0∧[b].any (offG f)=false)∧f9G0 E f x b g1 v6 v9 0)))))))))∧(g1=0→((((QJ f x.ps x.ss).2.2.1)=true→(((∀ zz ∈ v9,0≤zz∧zz≤1000000)∧v9.length≤1000)∧((v9.sum≤7→rv=true)∧(¬ (v9.sum≤7)→((GdSmall f)∧((0+x.ps.length)≤2147483648∧((0+x.ss.length)≤2147483648∧(((GdSmall f∧x.ps.length≤1000∧x.ss.length≤1000)∧(newF f x.ps x.ss).2.2=0∧[b].any (offG f)=false)∧f9G0 E f x b g1 v6 v9 0))))))))∧(((QJ f x.ps x.ss).2.2.1)=false→((GdSmall f)∧((0+x.ps.length)≤2147483648∧((0+x.ss.length)≤2147483648∧(((GdSmall f∧x.ps.length≤1000∧x.ss.length≤1000)∧(newF f x.ps x.ss).2.2=0∧[b].any (offG f)=false)∧f9G0 E f x b g1 v6 v9 0))))))))):f9G5111 E f x b v9 v6 g1:=by
 intro g9 g6
 rcases bft (g1 != 0) with hc0 | hc0
 · have h:=h.1 (bneT hc0)
   rcases bft (g1 != 3) with hc1 | hc1
   · have h:=h.1 (bneT hc1)
     exact p9_5111_0 f x b v9 v6 g1 g9 g6 hE ⟨hc0,hc1,(u13 (YO )),trivial⟩ (AvLe.of_eq (by rw [h]; try rfl))
   · have h:=h.2 (bneF hc1)
     rcases bft ((QJ f x.ps x.ss).2.2.1) with hc2 | hc2
     · have h:=h.1 hc2
       obtain ⟨h1,h⟩:=h
       rcases bft (decide (v9.sum≤7)) with hc3 | hc3
       · have h:=h.1 (odt hc3)
         exact p9_5111_1 f x b v9 v6 g1 g9 g6 hE ⟨hc0,hc1,hc2,(u34 (yz v9 h1)),rfl,hc3,(by have hq:=hc0; simpa using hq),trivial⟩ (AvLe.of_eq (by rw [h]; try rfl))
       · have h:=h.2 (odf hc3)
         obtain ⟨h2,h⟩:=h
         obtain ⟨h3,h⟩:=h
         obtain ⟨h4,h⟩:=h
         obtain ⟨h5,h⟩:=h
         exact p9_5111_2 f x b v9 v6 g1 g9 g6 hE ⟨hc0,hc1,hc2,(u34 (yz v9 h1)),rfl,hc3,(QK Try.func36 (by kernel_rfl) qN (VF f h2)),rfl,rfl,h3,(by exact QM cPtc (fun _=>rfl) x.ps),(by exact QC cPtc (fun _=>rfl) x.ps),(by exact QV cPtc (fun _=>rfl) x.ps),rfl,rfl,h4,(by exact QM cSit (fun _=>rfl) x.ss),(by exact QC cSit (fun _=>rfl) x.ss),(by exact QV cSit (fun _=>rfl) x.ss),(by rw [(show AV.rsl (Qc x.ps) 0 (0+x.ps.length)=AV.rsl (Qc x.ps) 0 x.ps.length from by rw [show (0+x.ps.length)=x.ps.length from by simp])]; rw [(show AV.rsl (Qb x.ss) 0 (0+x.ss.length)=AV.rsl (Qb x.ss) 0 x.ss.length from by rw [show (0+x.ss.length)=x.ss.length from by simp])]; exact (QK Try.func38 (by kernel_rfl) f38b (Ww f x.ps x.ss b h5.1 h5.2.1 h5.2.2))),rfl,rfl,rfl,trivial⟩ (h g6 g9)
     · have h:=h.2 hc2
       obtain ⟨h1,h⟩:=h
       obtain ⟨h2,h⟩:=h
       obtain ⟨h3,h⟩:=h
       obtain ⟨h4,h⟩:=h
       exact p9_5111_3 f x b v9 v6 g1 g9 g6 hE ⟨hc0,hc1,hc2,rfl,(QK Try.func36 (by kernel_rfl) qN (VF f h1)),rfl,rfl,h2,(by exact QM cPtc (fun _=>rfl) x.ps),(by exact QC cPtc (fun _=>rfl) x.ps),(by exact QV cPtc (fun _=>rfl) x.ps),rfl,rfl,h3,(by exact QM cSit (fun _=>rfl) x.ss),(by exact QC cSit (fun _=>rfl) x.ss),(by exact QV cSit (fun _=>rfl) x.ss),(by rw [(show AV.rsl (Qc x.ps) 0 (0+x.ps.length)=AV.rsl (Qc x.ps) 0 x.ps.length from by rw [show (0+x.ps.length)=x.ps.length from by simp])]; rw [(show AV.rsl (Qb x.ss) 0 (0+x.ss.length)=AV.rsl (Qb x.ss) 0 x.ss.length from by rw [show (0+x.ss.length)=x.ss.length from by simp])]; exact (QK Try.func38 (by kernel_rfl) f38b (Ww f x.ps x.ss b h4.1 h4.2.1 h4.2.2))),rfl,rfl,rfl,trivial⟩ (h g6 g9)
 · have h:=h.2 (bneF hc0)
   rcases bft ((QJ f x.ps x.ss).2.2.1) with hc1 | hc1
   · have h:=h.1 hc1
     obtain ⟨h1,h⟩:=h
     rcases bft (decide (v9.sum≤7)) with hc2 | hc2
     · have h:=h.1 (odt hc2)
       exact p9_5111_4 f x b v9 v6 g1 g9 g6 hE ⟨hc0,rfl,hc1,(u34 (yz v9 h1)),rfl,hc2,(by have hq:=hc0; simpa using hq),(u13 (YO )),trivial⟩ (AvLe.of_eq (by rw [h]; try rfl))
     · have h:=h.2 (odf hc2)
       obtain ⟨h2,h⟩:=h
       obtain ⟨h3,h⟩:=h
       obtain ⟨h4,h⟩:=h
       obtain ⟨h5,h⟩:=h
       exact p9_5111_5 f x b v9 v6 g1 g9 g6 hE ⟨hc0,rfl,hc1,(u34 (yz v9 h1)),rfl,hc2,(QK Try.func36 (by kernel_rfl) qN (VF f h2)),rfl,rfl,h3,(by exact QM cPtc (fun _=>rfl) x.ps),(by exact QC cPtc (fun _=>rfl) x.ps),(by exact QV cPtc (fun _=>rfl) x.ps),rfl,rfl,h4,(by exact QM cSit (fun _=>rfl) x.ss),(by exact QC cSit (fun _=>rfl) x.ss),(by exact QV cSit (fun _=>rfl) x.ss),(by rw [(show AV.rsl (Qc x.ps) 0 (0+x.ps.length)=AV.rsl (Qc x.ps) 0 x.ps.length from by rw [show (0+x.ps.length)=x.ps.length from by simp])]; rw [(show AV.rsl (Qb x.ss) 0 (0+x.ss.length)=AV.rsl (Qb x.ss) 0 x.ss.length from by rw [show (0+x.ss.length)=x.ss.length from by simp])]; exact (QK Try.func38 (by kernel_rfl) f38b (Ww f x.ps x.ss b h5.1 h5.2.1 h5.2.2))),rfl,rfl,rfl,trivial⟩ (h g6 g9)
   · have h:=h.2 hc1
     obtain ⟨h1,h⟩:=h
     obtain ⟨h2,h⟩:=h
     obtain ⟨h3,h⟩:=h
     obtain ⟨h4,h⟩:=h
     exact p9_5111_6 f x b v9 v6 g1 g9 g6 hE ⟨hc0,rfl,hc1,rfl,(QK Try.func36 (by kernel_rfl) qN (VF f h1)),rfl,rfl,h2,(by exact QM cPtc (fun _=>rfl) x.ps),(by exact QC cPtc (fun _=>rfl) x.ps),(by exact QV cPtc (fun _=>rfl) x.ps),rfl,rfl,h3,(by exact QM cSit (fun _=>rfl) x.ss),(by exact QC cSit (fun _=>rfl) x.ss),(by exact QV cSit (fun _=>rfl) x.ss),(by rw [(show AV.rsl (Qc x.ps) 0 (0+x.ps.length)=AV.rsl (Qc x.ps) 0 x.ps.length from by rw [show (0+x.ps.length)=x.ps.length from by simp])]; rw [(show AV.rsl (Qb x.ss) 0 (0+x.ss.length)=AV.rsl (Qb x.ss) 0 x.ss.length from by rw [show (0+x.ss.length)=x.ss.length from by simp])]; exact (QK Try.func38 (by kernel_rfl) f38b (Ww f x.ps x.ss b h4.1 h4.2.1 h4.2.2))),rfl,rfl,rfl,trivial⟩ (h g6 g9)
end Go.Proofs.Ytemklbioijmjiaa
namespace Go.Proofs.Ytemklbioijmjiaa
open Go Ax
open Go.Proofs
/-! ### with one cell more that is blocked -/
theorem QaE {g g':Gd} (hw:g'.w=g.w) {c:Int} {y:Nat}:∀ (d x:Nat),WY g' c y d x=WY g c y d x
 | 0,_=>rfl
 | d+1,x=>by simp only [WY,hw,QaE hw d]
theorem Kc {g g':Gd} (hw:g'.w=g.w) {c:Int} {w:Nat}:∀ (d y:Nat),XW g' c w d y=XW g c w d y
 | 0,_=>rfl
 | d+1,y=>by simp only [XW,QaE hw,Kc hw d]
theorem cellsF_same {F F':Fld} (hp:F'.ps=F.ps) (hw:F'.g.w=F.g.w) (hh:F'.g.h=F.g.h) (hl:F'.g.cells.length=F.g.cells.length) (i:Int) (s:Sit):Qp F' i s=Qp F i s:=by
 unfold Qp Qbl onB pAt
 rw [hp,hw,hh,hl,Kc hw]
theorem qF:∀ (r:List Sit) (i:Nat) (F F':Fld),F'.ps=F.ps→F'.g.w=F.g.w→F'.g.h=F.g.h→F'.g.cells.length=F.g.cells.length→F'.tk=F.tk→(VH r i F).2.2=0→(VH r i F').2.2=0→(VH r i F').1.tk=(VH r i F).1.tk
 | [],_,_,_,_,_,_,_,ht,_,_=>ht
 | s :: r,i,F,F',hp,hw,hh,hl,ht,h,h'=>by
  unfold VH at h h' ⊢
  by_cases c:isNo s=true
  · rw [if_pos c] at h h' ⊢
    rw [if_pos c]
    exact qF r (i+1) F F' hp hw hh hl ht h h'
  · rw [if_neg c] at h h' ⊢
    rw [if_neg c]
    split at h
    · rename_i c1
      split at h'
      · rename_i c2
        rw [if_pos c1,if_pos c2]
        refine qF r (i+1) _ _ hp hw hh hl ?_ h h'
        show (Qp F' _ s).1.foldl _ F'.tk=(Qp F _ s).1.foldl _ F.tk
        rw [cellsF_same hp hw hh hl,ht]
      · cases h'
    · cases h
structure Shut (F Q:Fld) (b:Int):Prop where
 ok:FldOk F
 okq:FldOk Q
 w:Q.g.w=F.g.w
 h:Q.g.h=F.g.h
 cells:Q.g.cells=F.g.cells.set b.toNat 1
 tk:Q.tk=F.tk
 lo:0≤b
 hi:b<(F.g.cells.length:Int)
theorem shut {f:Gd} {l:List Ptc} {t:List Sit} {b:Int} (h:(newF f l t).2.2=0) (hq:(newF ⟨f.w,f.h,f.cells.set b.toNat 1,f.hts⟩ l t).2.2=0) (h0:0≤b) (h1:b<(f.cells.length:Int)) :
 Shut (newF f l t).1 (newF ⟨f.w,f.h,f.cells.set b.toNat 1,f.hts⟩ l t).1 b:=by
 obtain ⟨a1,a2,a3,a4,a5,a6⟩:=YH h
 obtain ⟨b1,b2,b3,b4,b5,b6⟩:=YH hq
 refine ⟨a1,b1,by rw [a2,b2],by rw [a2,b2],by rw [a2,b2],?_,h0,by rw [a2]; exact h1⟩
 rw [a6] at h ⊢
 rw [b6] at hq ⊢
 exact qF t 0 _ _ rfl rfl rfl (by simp [VG]) (by simp [VG]) h hq
theorem seed_shut {b:Int}:∀ (l l':List Int) (i:Nat) (s:List Int × List Int),l'.length=l.length→(∀ j,l'[j]?=if ((i+j:Nat):Int)=b then (l[j]?).map (fun _=>1) else l[j]?)→VE (-1) l' i s=VE b l i s
 | [],l',i,s,hl,_=>by
  have:l'=[]:=List.length_eq_zero_iff.1 hl
  subst this; rfl
 | e :: l,[],i,s,hl,_=>by simp at hl
 | e :: l,e' :: l',i,s,hl,h=>by
  have h0:=h 0
  simp only [List.getElem?_cons_zero,Option.map_some,Nat.add_zero] at h0
  have ih:=fun s=>seed_shut l l' (i+1) s (by simpa using hl) (fun j=>by
   have:=h (j+1)
   simp only [List.getElem?_cons_succ] at this
   rw [show i+1+j=i+(j+1) by omega]; exact this)
  unfold VE
  rw [ih,ih]
  by_cases c:(i:Int)=b
  · rw [if_pos c] at h0
    rw [if_neg (fun q=>by rw [Option.some.inj h0] at q; cases q.1),if_neg (fun q=>q.2 c)]
  · rw [if_neg c] at h0
    have he:=Option.some.inj h0
    subst he
    by_cases p:e'=3
    · rw [if_pos ⟨p,by omega⟩,if_pos ⟨p,c⟩]
    · rw [if_neg (fun q=>p q.1),if_neg (fun q=>p q.1)]
section
variable {F Q:Fld} {b:Int} (S:Shut F Q b)
include S
theorem Shut.len:Q.g.cells.length=F.g.cells.length:=by rw [S.cells]; simp
theorem Shut.cell {c:Int} (h0:0≤c):Va Q.g c=if c=b then 1 else Va F.g c:=by
 have l0:=S.lo; have l1:=S.hi
 unfold Va
 rw [S.cells,List.getD_eq_getElem?_getD,List.getD_eq_getElem?_getD,List.getElem?_set]
 by_cases e:c=b
 · subst e; rw [if_pos rfl,if_pos (by omega),if_pos rfl]; rfl
 · rw [if_neg (by omega),if_neg e]
theorem Shut.free {c:Int} (h0:0≤c):QF Q c=true ↔ QF F c=true∧¬ c=b:=by
 unfold QF
 rw [S.cell h0,S.tk]
 by_cases e:c=b
 · simp [e]
 · simp [e]
theorem Shut.beside (c:Int):Ql Q.g c=Ql F.g c:=by unfold Ql; rw [S.w,S.h]
theorem Shut.on {c:Int}:OnF Q c ↔ OnF F c:=⟨fun h=>⟨S.ok,h.lo,by rw [← S.len]; exact h.hi⟩,fun h=>⟨S.okq,h.lo,by rw [S.len]; exact h.hi⟩⟩
theorem Shut.step {u c:Int} (h0:0≤c) (s:List Int × List Int):QS Q (-1) u s c=QS F b u s c:=by
 unfold QS
 by_cases p:QF F c=true∧¬ c=b∧atI s.1 c<0
 · rw [if_pos p,if_pos ⟨(S.free h0).2 ⟨p.1,p.2.1⟩,by omega,p.2.2⟩]
 · rw [if_neg p,if_neg (fun h=>p ⟨((S.free h0).1 h.1).1,((S.free h0).1 h.1).2,h.2.2⟩)]
theorem Shut.fold {u:Int}:∀ (L:List Int) (s:List Int × List Int),(∀ c ∈ L,0≤c)→L.foldl (QS Q (-1) u) s=L.foldl (QS F b u) s
 | [],_,_=>rfl
 | c :: L,s,h=>by
  simp only [List.foldl_cons,S.step (h c List.mem_cons_self)]
  exact Shut.fold L _ (fun x hx=>h x (List.mem_cons_of_mem _ hx))
theorem Shut.go:∀ (n:Nat) (done q out:List Int),FarI F b done q out→Qcp Q (-1) n out q=Qcp F b n out q
 | n,done,[],out,_=>by cases n <;> rfl
 | 0,done,u :: q,out,_=>rfl
 | n+1,done,u :: q,out,h=>by
  have hu:=h.mem u (by simp)
  unfold Qcp
  rw [S.beside u,S.fold _ _ (fun c hc=>(Yi hu.1 hc).lo)]
  exact Shut.go n (done++[u]) _ _ (KF h)
theorem Shut.far:farK Q (-1)=farK F b:=by
 have l0:=S.lo; have l1:=S.hi
 have hs:seedK Q (-1)=seedK F b:=by
  unfold seedK
  rw [S.len]
  refine seed_shut _ _ 0 _ S.len (fun j=>?_)
  rw [S.cells,List.getElem?_set]
  by_cases c:((0+j:Nat):Int)=b
  · rw [if_pos c,if_pos (by omega),if_pos (by omega),List.getElem?_eq_getElem (by omega)]; rfl
  · rw [if_neg c,if_neg (by omega)]
 unfold farK
 rw [hs,S.len]
 exact S.go _ [] _ _ (Qbx S.ok)
end
/-! ### everybody gets out -/
theorem pot_le {f:Fld} {far:List Int} (hf:FarP f far):∀ (L:List Int) (s:List Int × Int),(∀ c ∈ L,OnF f c∧0≤atI far c)→LvI f s →
 (∀ c ∈ L,YI f far s c=s) ∨ wsum (L.foldl (YI f far) s).1 (far.map (·+1))≤wsum s.1 (far.map (·+1)) - 1
 | [],s,_,_=>.inl (by simp)
 | c :: L,s,hL,h=>by
  obtain ⟨m1,m2⟩:=VT hf h (hL c List.mem_cons_self).1 (hL c List.mem_cons_self).2
  have ih:=pot_le hf L (YI f far s c) (fun x hx=>hL x (List.mem_cons_of_mem _ hx)) m1
  simp only [List.foldl_cons]
  rcases m2 with m2 | m2
  · rw [m2] at ih ⊢
    rcases ih with ih | ih
    · exact .inl (fun x hx=>by
       rcases List.mem_cons.1 hx with rfl | hx
       · exact m2
       · exact ih x hx)
    · exact .inr ih
  · right
    have:=m2.pot
    rcases ih with ih | ih
    · have e:∀ (L:List Int) (s:List Int × Int),(∀ c ∈ L,YI f far s c=s)→L.foldl (YI f far) s=s:=by
       intro L
       induction L with
       | nil=>intro s _; rfl
       | cons x L ih=>intro s hx; rw [List.foldl_cons,hx x List.mem_cons_self]; exact ih s (fun y hy=>hx y (List.mem_cons_of_mem _ hy))
      rw [e L _ ih]; omega
    · omega
theorem no_stop {f:Fld} {far:List Int} (hf:FarP f far) {s:List Int × Int} (h:LvI f s) {L:List Int} (hL:∀ c,OnF f c→0≤atI far c→c ∈ L) (hst:∀ c ∈ L,YI f far s c=s) :
 ∀ (d:Nat) (c:Int),OnF f c→atI far c=(d:Int)→0<atI s.1 c→False:=by
 intro d
 induction d with
 | zero =>
  intro c hc hd hp
  have hm:=(VT hf h hc (by omega)).2
  have e:=hst c (hL c hc (by omega))
  unfold YI at e
  rw [if_neg (by omega),if_pos (by omega)] at e
  have:=congrArg Prod.snd e
  simp at this; omega
 | succ d ih =>
  intro c hc hd hp
  obtain ⟨k,k1,k2⟩:=hf.step c hc (by omega)
  have hk:=Yi hc k1
  have hz:atI s.1 k=0:=by
   have:=(h.at_ hk).2.1
   rcases Int.lt_or_le 0 (atI s.1 k) with q | q
   · exact absurd q (fun q=>ih k hk (by omega) q)
   · omega
  have e:=hst c (hL c hc (by omega))
  have hi:idxG (Xy far s.1 c) (Ql f.g c)≥0:=idxG_some k1 (by
   unfold Xy
   rw [decide_eq_true (show atI far k=atI far c - 1 by omega),decide_eq_true (show atI s.1 k<4 by omega)]; rfl)
  rcases (VT hf h hc (by omega)).2 with m | m
  · unfold YI at m
    rw [if_neg (by omega),if_neg (by omega),if_pos hi] at m
    obtain ⟨-,g2,g3,-⟩:=goK_ok hc hi
    have hck:¬ goK f far s.1 c=c:=fun e=>by rw [e] at g3; omega
    have hl:c<(s.1.length:Int):=by rw [h.len]; exact hc.hi
    have:=congrArg (fun u:List Int × Int=>atI u.1 c) m
    simp only at this
    rw [Yc g2.lo hc.lo (by rw [List.length_set,h.len]; exact g2.hi),if_neg hck,Yc hc.lo hc.lo hl,if_pos rfl] at this
    omega
  · have:=m.at_c
    rw [e] at this; omega
/-- Nobody stands where no way leads out. -/
def Qak (f:Fld) (far now:List Int):Prop:=∀ c,OnF f c→0<atI now c→0≤atI far c
theorem allOut_move {f:Fld} {far:List Int} (hf:FarP f far) {s:List Int × Int} (h:LvI f s) {c:Int} (hc:OnF f c) (h0:0≤atI far c) (ha:Qak f far s.1):Qak f far (YI f far s c).1:=by
 intro k hk hp
 rcases (VT hf h hc h0).2 with m | m
 · rw [m] at hp; exact ha k hk hp
 · by_cases e:c=k
   · subst e; exact h0
   · rcases m.oth k hk e with o | o
     · rw [o] at hp; exact ha k hk hp
     · exact o.1
theorem Qai {f:Fld} {far:List Int} (hf:FarP f far):∀ (L:List Int) (s:List Int × Int),(∀ c ∈ L,OnF f c∧0≤atI far c)→LvI f s→Qak f far s.1→Qak f far (L.foldl (YI f far) s).1
 | [],_,_,_,h=>h
 | c :: L,s,hL,hs,h=>Qai hf L _ (fun x hx=>hL x (List.mem_cons_of_mem _ hx)) (VT hf hs (hL c List.mem_cons_self).1 (hL c List.mem_cons_self).2).1 (allOut_move hf hs (hL c List.mem_cons_self).1 (hL c List.mem_cons_self).2 h)
theorem wsum_at {f:Fld} {far:List Int} (hf:FarP f far) {s:List Int × Int} (h:LvI f s) (ha:Qak f far s.1):s.2≤wsum s.1 (far.map (·+1))∧wsum s.1 (far.map (·+1))≤64*s.2:=by
 have key:∀ (i:Nat) (x y:Int),s.1[i]?=some x→(far.map (·+1))[i]?=some y→0≤x∧(0<x→1≤y∧y≤64):=by
  intro i x y hx hy
  have hi:=(List.getElem?_eq_some_iff.1 hx).1
  rw [h.len] at hi
  have hO:OnF f (i:Int):=⟨hf.ok,by omega,by omega⟩
  have g:=h.at_ hO
  rw [show Int.toNat (i:Int)=i by omega,hx] at g
  have ex:=Option.some.inj g.1
  rw [List.getElem?_map] at hy
  have gf:=XE (l:=far) hO.lo (by rw [hf.len]; exact hO.hi)
  rw [show Int.toNat (i:Int)=i by omega] at gf
  rw [gf] at hy
  simp only [Option.map_some,Option.some.injEq] at hy
  have:=hf.hi _ hO
  exact ⟨by omega,fun hp=>by have:=ha _ hO (by omega); omega⟩
 have hl:(far.map (·+1)).length=s.1.length:=by rw [List.length_map,hf.len,h.len]
 constructor
 · have:=wsum_le (l:=s.1) (w:=List.replicate s.1.length 1) (w':=far.map (·+1)) (by simp) (by omega) (fun i x y y' hx hy hy'=>by
    obtain ⟨k1,k2⟩:=key i x y' hx hy'
    rw [List.getElem?_replicate,if_pos (List.getElem?_eq_some_iff.1 hx).1] at hy
    have:=Option.some.inj hy; subst this
    rcases Int.lt_or_le 0 x with q | q
    · exact Int.mul_le_mul_of_nonneg_left (k2 q).1 (by omega)
    · rw [show x=0 by omega]; simp)
   rw [Qbp _ _ (Nat.le_refl _),h.sm] at this; exact this
 · have w64:∀ (l:List Int) n,l.length≤n→wsum l (List.replicate n 64)=64*l.sum:=by
    intro l
    induction l with
    | nil=>intro n _; simp [wsum]
    | cons a l ih =>
     intro n hn
     cases n with
     | zero=>simp at hn
     | succ n=>simp only [List.replicate_succ,wsum,ih n (by simpa using hn),List.sum_cons]; omega
   have:=wsum_le (l:=s.1) (w:=far.map (·+1)) (w':=List.replicate s.1.length 64) (by omega) (by simp) (fun i x y y' hx hy hy'=>by
    obtain ⟨k1,k2⟩:=key i x y hx hy
    rw [List.getElem?_replicate,if_pos (List.getElem?_eq_some_iff.1 hx).1] at hy'
    have:=Option.some.inj hy'; subst this
    rcases Int.lt_or_le 0 x with q | q
    · exact Int.mul_le_mul_of_nonneg_left (k2 q).2 (by omega)
    · rw [show x=0 by omega]; simp)
   rw [w64 _ _ (Nat.le_refl _),h.sm] at this; exact this
theorem Kw {f:Fld} {far order:List Int}:∀ (n:Nat) (s:List Int × Int) (left:List Int),(Xn f far order n s left).length≤left.length+n
 | 0,s,left=>by simp [Xn]
 | n+1,s,left=>by
  unfold Xn
  split
  · have:=Kw (f:=f) (far:=far) (order:=order) n (order.foldl (YI f far) s) (left++[(order.foldl (YI f far) s).2])
    simp only [List.length_append,List.length_cons,List.length_nil] at this; omega
  · omega
theorem leave_out {f:Fld} {far order:List Int} (hf:FarP f far) (hord:∀ c,c ∈ order ↔ OnF f c∧0≤atI far c):∀ (n:Nat) (s:List Int × Int) (left:List Int),LvI f s→Qak f far s.1→wsum s.1 (far.map (·+1))≤(n:Int)→(left=[] ∨ left.getD (left.length - 1) 0=s.2) →
 ¬ (0<(Xn f far order n s left).length∧(Xn f far order n s left).getD ((Xn f far order n s left).length - 1) 0 > 0)
 | 0,s,left,h,ha,hp,hl=>by
  have:=(wsum_at hf h ha).1
  unfold Xn
  rintro ⟨q1,q2⟩
  rcases hl with rfl | hl
  · simp at q1
  · omega
 | n+1,s,left,h,ha,hp,hl=>by
  unfold Xn
  split
  · rename_i hpos
    have hL:∀ c ∈ order,OnF f c∧0≤atI far c:=fun c hc=>(hord c).1 hc
    have h':=tick_lv hf order s hL h
    have ha':=Qai hf order s hL h ha
    refine leave_out hf hord n _ _ h' ha' ?_ (.inr (by simp))
    rcases pot_le hf order s hL h with q | q
    · exfalso
      have w:=wsum_at hf h ha
      -- somebody is there
      obtain ⟨x,hx,hx0⟩:∃ x ∈ s.1,0<x:=by
       apply Classical.byContradiction
       intro hn
       have:∀ (l:List Int),(∀ x ∈ l,¬ 0<x)→l.sum≤0:=by
        intro l
        induction l with
        | nil=>intro _; simp
        | cons a l ih=>intro hh; rw [List.sum_cons]; have:=hh a List.mem_cons_self; have:=ih (fun x hx=>hh x (List.mem_cons_of_mem _ hx)); omega
       have:=this s.1 (fun x hx hx0=>hn ⟨x,hx,hx0⟩)
       rw [h.sm] at this; omega
      obtain ⟨i,hi,rfl⟩:=List.getElem_of_mem hx
      have hO:OnF f (i:Int):=⟨hf.ok,by omega,by rw [h.len] at hi; omega⟩
      have e:atI s.1 (i:Int)=s.1[i]:=by
       unfold atI; rw [List.getD_eq_getElem?_getD,show Int.toNat (i:Int)=i by omega,List.getElem?_eq_getElem hi]; rfl
      have h0:=ha _ hO (by rw [e]; exact hx0)
      exact no_stop hf h (fun c hc hc0=>(hord c).2 ⟨hc,hc0⟩) q (atI far (i:Int)).toNat (i:Int) hO (by omega) (by rw [e]; exact hx0)
    · omega
  · rename_i hpos
    have:=(le_sum h.nn).1
    rw [h.sm] at this
    rintro ⟨q1,q2⟩
    rcases hl with rfl | hl
    · simp at q1
    · omega
/-! ### who is trapped stays -/
theorem stay_tick {f:Fld} {far:List Int} (hf:FarP f far) {t:Int} (ht:OnF f t) (ht0:atI far t<0):∀ (L:List Int) (s:List Int × Int),(∀ c ∈ L,OnF f c∧0≤atI far c)→LvI f s→atI (L.foldl (YI f far) s).1 t=atI s.1 t
 | [],_,_,_=>rfl
 | c :: L,s,hL,h=>by
  obtain ⟨m1,m2⟩:=VT hf h (hL c List.mem_cons_self).1 (hL c List.mem_cons_self).2
  simp only [List.foldl_cons]
  rw [stay_tick hf ht ht0 L _ (fun x hx=>hL x (List.mem_cons_of_mem _ hx)) m1]
  have hne:¬ c=t:=fun e=>by subst e; have:=(hL c List.mem_cons_self).2; omega
  rcases m2 with m2 | m2
  · rw [m2]
  · rcases m2.oth t ht hne with o | o
    · exact o
    · omega
theorem QaL {f:Fld} {far order:List Int} (hf:FarP f far) (hord:∀ c,c ∈ order ↔ OnF f c∧0≤atI far c) {t:Int} (ht:OnF f t) (ht0:atI far t<0):∀ (n:Nat) (s:List Int × Int) (left:List Int),LvI f s→0<atI s.1 t→(n=0→0<left.length∧left.getD (left.length - 1) 0=s.2) →
 0<(Xn f far order n s left).length∧(Xn f far order n s left).getD ((Xn f far order n s left).length - 1) 0 > 0
 | 0,s,left,h,hp,hl=>by
  have:=(h.at_ ht).2.2
  unfold Xn
  have:=hl rfl
  omega
 | n+1,s,left,h,hp,hl=>by
  have h1:=(h.at_ ht).2.2
  have hL:∀ c ∈ order,OnF f c∧0≤atI far c:=fun c hc=>(hord c).1 hc
  unfold Xn
  rw [if_pos (by omega)]
  exact QaL hf hord ht ht0 n _ _ (tick_lv hf order s hL h) (by rw [stay_tick hf ht ht0 order s hL h]; exact hp) (fun _=>by simp)
/-! ### a ground that is safe -/
theorem yZ (f:Fld):∀ (d b:Nat) (s:Int × Int),0≤s.1→0≤(WW f d b s).1
 | 0,_,_,h=>h
 | d+1,b,s,h=>by
  unfold WW
  split
  · rename_i c
    refine yZ f d _ _ ?_
    have:=XQ (l:=Qv f (b:Int)) 0 (i:=0) (by omega)
    exact (Vi.1 (List.mem_of_getElem? this)).2.1
  · exact yZ f d _ _ h
theorem QaC (f:Fld):∀ (d b:Nat) (s:Int × Int),s.1<0→(WW f d b s).1<0→∀ k:Nat,b≤k→k<b+d→Qv f (k:Int)=[]
 | 0,b,s,_,_,k,h1,h2=>by omega
 | d+1,b,s,hs,h,k,h1,h2=>by
  unfold WW at h
  split at h
  · rename_i c
    exfalso
    have:=XQ (l:=Qv f (b:Int)) 0 (i:=0) (by omega)
    have h0:=(Vi.1 (List.mem_of_getElem? this)).2.1
    have:=yZ f d (b+1) ((Qv f (b:Int)).getD 0 0,(b:Int)) h0
    omega
  · rename_i c
    by_cases e:k=b
    · subst e
      rcases Nat.eq_zero_or_pos (Qv f (k:Int)).length with q | q
      · exact List.length_eq_zero_iff.1 q
      · exact absurd ⟨q,.inl hs⟩ c
    · exact QaC f d (b+1) s hs h k (by omega) (by omega)
theorem safe_nil {g:Gd} {l:List Ptc} {t:List Sit} (h:(QJ g l t).2.2.1=true):(newF g l t).2.2=0∧∀ b:Int,0≤b→b<(g.cells.length:Int)→Qv (newF g l t).1 b=[]:=by
 unfold QJ at h
 split at h
 · rename_i c
   refine ⟨c,fun b h0 h1=>?_⟩
   have:=QaC (newF g l t).1 _ 0 (-1,-1) (by decide) (of_decide_eq_true h) b.toNat (by omega) (by rw [(YH c).2.1]; omega)
   rwa [show (b.toNat:Int)=b by omega] at this
 · cases h
end Go.Proofs.Ytemklbioijmjiaa
namespace Go.Proofs.Ytemklbioijmjiaa
open Go Ax
open Go.Proofs
theorem Kq:∀ (r:List Sit) (i:Nat) (f:Fld),(VH r i f).2.2=0 ∨ (VH r i f).2.2=41
 | [],_,_=>.inl rfl
 | s :: r,i,f=>by
  unfold VH
  split
  · exact Kq r (i+1) f
  · split
    · exact Kq r (i+1) _
    · exact .inr rfl
theorem newF_err (g:Gd) (l:List Ptc) (t:List Sit):(newF g l t).2.2=0 ∨ (newF g l t).2.2=40 ∨ (newF g l t).2.2=2 ∨ (newF g l t).2.2=41:=by
 unfold newF Xk
 repeat' split
 all_goals first
  | (rcases Kq t 0 (VG g l) with h | h <;> simp [h]; done)
  | simp_all
theorem leaveR_len (g:Gd) (l:List Ptc) (t:List Sit) (crowd:List Int):(leaveR g l t crowd 500).1.length≤500:=by
 unfold leaveR
 split
 · split
   · unfold leaveF
     split
     · simp
     · rename_i p _
       have:=Kw (f:=(newF g l t).1) (far:=farK (newF g l t).1 (-1)) (order:=orderK (newF g l t).1) (Int.toNat 500) (crowd,p) []
       simpa using this
   · simp
 · simp
structure ClearIs (g:Gd) (l:List Ptc) (t:List Sit) (crowd:List Int):Prop where
 ok:(newF g l t).2.2=0
 len:crowd.length=g.cells.length
 go:∃ p,YM (newF g l t).1 crowd 0 0=some p∧leaveR g l t crowd 500=(Xn (newF g l t).1 (farK (newF g l t).1 (-1)) (orderK (newF g l t).1) 500 (crowd,p) [],0)
theorem QcG {g:Gd} {l:List Ptc} {t:List Sit} {crowd:List Int} (h:(clearR g l t crowd).2=0 ∨ (clearR g l t crowd).2=3):ClearIs g l t crowd:=by
 have h0:(leaveR g l t crowd 500).2=0 ∨ (leaveR g l t crowd 500).2=3:=by
  unfold clearR at h
  split at h
  · rename_i c; exact .inl c
  · exact h
 unfold leaveR at h0
 split at h0
 · rename_i c
   split at h0
   · rename_i c2
     unfold leaveF at h0
     cases e:YM (newF g l t).1 crowd 0 0 with
     | none=>rw [e] at h0; rcases h0 with h0 | h0 <;> cases h0
     | some p =>
      refine ⟨c,c2.1,p,e,?_⟩
      unfold leaveR leaveF
      rw [if_pos c,if_pos c2,e]; rfl
   · rcases h0 with h0 | h0 <;> cases h0
 · rename_i c
   exfalso
   rcases newF_err g l t with q | q | q | q <;> rw [q] at h0 c <;> rcases h0 with h0 | h0 <;> first | exact c rfl | cases h0
/-- The ground on which one cell more is blocked. -/
def XL (f:Gd) (b:Int):Gd:=⟨f.w,f.h,f.cells.set (Int.toNat b) 1,f.hts⟩
theorem clear_out {f:Gd} {l:List Ptc} {t:List Sit} {b:Int} {crowd:List Int} (h:(clearR (XL f b) l t crowd).2=0 ∨ (clearR (XL f b) l t crowd).2=3) (hb0:0≤b) (hb1:b<(f.cells.length:Int)) (hz:atI crowd b=0) :
 (∀ x ∈ crowd,0≤x∧x≤20)∧((QJ f l t).2.2.1=true→crowd.sum≤7→(clearR (XL f b) l t crowd).2=0) ∧
   ((newF f l t).2.2=0→∀ c ∈ Qv (newF f l t).1 b,0<atI crowd c→(clearR (XL f b) l t crowd).2=3):=by
 obtain ⟨q1,q2,p,q3,q4⟩:=QcG h
 obtain ⟨w1,w2,w3⟩:=qT crowd 0 0 p q3
 have okq:=(YH q1).1
 have gq:=(YH q1).2.1
 have fp:=farP (-1) okq
 have lv:=crowd_lv okq (by rw [gq]; exact q2) q3
 have ord:=order_on okq
 have cR:(clearR (XL f b) l t crowd).2=if 0<(Xn (newF (XL f b) l t).1 (farK (newF (XL f b) l t).1 (-1)) (orderK (newF (XL f b) l t).1) 500 (crowd,p) []).length∧(Xn (newF (XL f b) l t).1 (farK (newF (XL f b) l t).1 (-1)) (orderK (newF (XL f b) l t).1) 500 (crowd,p) []).getD ((Xn (newF (XL f b) l t).1 (farK (newF (XL f b) l t).1 (-1)) (orderK (newF (XL f b) l t).1) 500 (crowd,p) []).length - 1) 0 > 0 then 3 else 0:=by
  unfold clearR
  rw [q4,if_pos rfl]
  split <;> rfl
 refine ⟨w2,fun hs h7=>?_,fun hN c hc hp=>?_⟩
 · obtain ⟨hN,hn⟩:=safe_nil hs
   have S:=shut (b:=b) hN q1 hb0 hb1
   rw [cR,if_neg]
   have ha:Qak (newF (XL f b) l t).1 (farK (newF (XL f b) l t).1 (-1)) crowd:=by
    intro c hc hp
    have hO:=S.on.1 hc
    rcases Int.lt_or_le (atI (farK (newF (XL f b) l t).1 (-1)) c) 0 with q | q
    · exfalso
      have hx:=XE (l:=crowd) hc.lo (by rw [q2,← gq]; exact hc.hi)
      have fr:=w3 c.toNat _ hx hp
      rw [show ((0+c.toNat:Nat):Int)=c by have:=hc.lo; omega] at fr
      have fr2:=(S.free hc.lo).1 fr
      have e:farK (newF (XL f b) l t).1 (-1)=farK (newF f l t).1 b:=S.far
      rw [e] at q
      have:c ∈ Qv (newF f l t).1 b:=Vi.2 ⟨⟨fr2.1,fr2.2,q⟩,hO.lo,hO.hi⟩
      rw [hn b hb0 hb1] at this; simp at this
    · exact q
   have hw:=(wsum_at fp lv ha).2
   exact leave_out fp ord 500 (crowd,p) [] lv ha (by have:((crowd,p):List Int × Int).2=p:=rfl; omega) (.inl rfl)
 · have S:=shut (b:=b) hN q1 hb0 hb1
   obtain ⟨⟨c1,c2,c3⟩,c4,c5⟩:=Vi.1 hc
   have hO:OnF (newF (XL f b) l t).1 c:=S.on.2 ⟨S.ok,c4,c5⟩
   have e:farK (newF (XL f b) l t).1 (-1)=farK (newF f l t).1 b:=S.far
   rw [cR,if_pos]
   exact QaL fp ord hO (by rw [e]; exact c3) 500 (crowd,p) [] lv hp (fun q=>by cases q)
theorem law9_ok (f:Gd) (x:Fie) (b:Int):Pure Try.prog 9 [.agg [.int .i64 f.w,.int .i64 f.h,.rsl (rowI f.cells) 0 f.cells.length,.rsl (rowI f.hts) 0 f.hts.length],.agg [.rsl (Qc x.ps) 0 x.ps.length,.rsl (Qb x.ss) 0 x.ss.length,.rsl (rowI x.cr) 0 x.cr.length],.int .i64 b] (.bool true):=Qy Try.func9 f9b fun E hE=>by
 refine f9W f x b (rv:=true) hE ⟨fun _=>rfl,fun a1=>⟨fun _=>rfl,fun a2=>⟨fun _=>rfl,fun a3=>⟨fun _=>rfl,fun a4=>⟨fun _=>rfl,fun a5=>?_⟩⟩⟩⟩⟩
 have hs:GdSmall f:=⟨by omega,by omega⟩
 have hsq:GdSmall (XL f b):=⟨by show (f.cells.set _ _).length≤100; simp; omega,hs.hts⟩
 have p3:GdSmall f∧x.ps.length≤1000∧x.ss.length≤1000:=⟨hs,by omega,by omega⟩
 have p3q:GdSmall (XL f b)∧x.ps.length≤1000∧x.ss.length≤1000:=⟨hsq,by omega,by omega⟩
 have lr:∀ cr,(leaveR (XL f b) x.ps x.ss cr 500).1.length≤1000:=fun cr=>by have:=leaveR_len (XL f b) x.ps x.ss cr; omega
 refine ⟨hs,by omega,by omega,p3,fun _=>rfl,fun he=>⟨fun _=>rfl,fun b0=>⟨fun _=>rfl,fun b1=>?_⟩⟩⟩
 have hN:(newF f x.ps x.ss).2.2=0:=by
  unfold QJ at he
  split at he
  · assumption
  · rename_i c; exact absurd he c
 have hoff:[b].any (offG f)=false:=by
  simp only [List.any_cons,List.any_nil,Bool.or_false,offG,outB,Bool.not_eq_false']
  exact QI.2 ⟨by omega,by omega⟩
 refine ⟨hs,by omega,_,XQ 0 (by omega),by omega,fun c1=>⟨by omega,_,XQ 0 (by omega),by omega,by omega,⟨⟨p3q,by simp; omega⟩,lr _⟩,?_⟩,fun c1=>⟨by omega,by omega,⟨⟨p3q,by omega⟩,lr _⟩,?_⟩⟩
 · generalize hcr:x.cr.set (Int.toNat b) 0=cr
   have hz:atI cr b=0:=by rw [← hcr,Yc (by omega) (by omega) (by omega),if_pos rfl]
   have hcl:cr.length=x.cr.length:=by rw [← hcr]; simp
   have main:((clearR (XL f b) x.ps x.ss cr).2=0 ∨ (clearR (XL f b) x.ps x.ss cr).2=3)→(∀ zz ∈ cr,0≤zz∧zz≤1000000)∧cr.length≤1000∧((QJ f x.ps x.ss).2.2.1=true→cr.sum≤7→(clearR (XL f b) x.ps x.ss cr).2=0)∧f9G0 E f x b (clearR (XL f b) x.ps x.ss cr).2 (f.cells.set (Int.toNat b) 1) cr 0:=by
    intro h
    obtain ⟨m1,m2,m3⟩:=clear_out h (by omega) (by omega) hz
    have hci:=QcG h
    have hlen:cr.length=f.cells.length:=by rw [hci.len]; simp [XL]
    refine ⟨fun z hz=>by have:=m1 z hz; omega,by omega,m2,?_⟩
    have key:∀ (d i:Nat),i+d=(Qv (newF f x.ps x.ss).1 b).length→f9G0 E f x b (clearR (XL f b) x.ps x.ss cr).2 (f.cells.set (Int.toNat b) 1) cr i:=by
     intro d
     induction d with
     | zero =>
      intro i hd
      exact f9W0 f x b _ _ cr i (rv:=true) hE ⟨fun q=>by omega,fun _=>rfl⟩
     | succ d ih =>
      intro i hd
      have tl:=trapK_len (newF f x.ps x.ss).1 b
      have hg:=XF (YH hN).1.g
      have hx:(Qv (newF f x.ps x.ss).1 b)[i]?=some ((Qv (newF f x.ps x.ss).1 b)[i]'(by omega)):=List.getElem?_eq_getElem (by omega)
      generalize (Qv (newF f x.ps x.ss).1 b)[i]'(by omega)=c at hx
      have hm:=List.mem_of_getElem? hx
      obtain ⟨-,c4,c5⟩:=Vi.1 hm
      rw [(YH hN).2.1] at c5
      refine f9W0 f x b _ _ cr i (rv:=true) hE ⟨fun _=>⟨c,hx,fun q=>by omega,fun _=>⟨fun q=>by omega,fun _=>⟨hs,by omega,by omega,⟨p3,hN,b,⟨by omega,by omega⟩,hm⟩,c4,_,XE c4 (by omega),fun q=>⟨fun q2=>absurd (m3 hN c hm q) q2,fun _=>⟨⟨by omega,by omega⟩,ih (i+1) (by omega)⟩⟩,fun q=>⟨⟨by omega,by omega⟩,ih (i+1) (by omega)⟩⟩⟩⟩,fun q=>by omega⟩
    exact key _ 0 (Nat.zero_add _)
   refine f9W5111 f x b cr _ _ (rv:=true) hE ⟨fun g0=>⟨fun _=>rfl,fun g3=>?_⟩,fun g0=>?_⟩
   · obtain ⟨n1,n2,n3,n4⟩:=main (.inr g3)
     exact ⟨fun hsafe=>⟨⟨n1,n2⟩,fun q=>absurd (n3 hsafe q) g0,fun _=>⟨hs,by omega,by omega,⟨p3,hN,hoff⟩,n4⟩⟩,fun _=>⟨hs,by omega,by omega,⟨p3,hN,hoff⟩,n4⟩⟩
   · obtain ⟨n1,n2,n3,n4⟩:=main (.inl g0)
     exact ⟨fun hsafe=>⟨⟨n1,n2⟩,fun _=>rfl,fun _=>⟨hs,by omega,by omega,⟨p3,hN,hoff⟩,n4⟩⟩,fun _=>⟨hs,by omega,by omega,⟨p3,hN,hoff⟩,n4⟩⟩
 · have no:¬ ((clearR (XL f b) x.ps x.ss x.cr).2=0 ∨ (clearR (XL f b) x.ps x.ss x.cr).2=3):=fun h=>by
    have:=(QcG h).len
    simp only [XL,List.length_set] at this
    omega
   exact f9W5111 f x b x.cr _ _ (rv:=true) hE ⟨fun g0=>⟨fun _=>rfl,fun g3=>absurd (.inr g3) no⟩,fun g0=>absurd (.inl g0) no⟩
end Go.Proofs.Ytemklbioijmjiaa
namespace Go.Proofs.Ytemklbioijmjiaa
open Go Ax
open Go.Proofs
theorem ownT:ownKnob Try.prog.godebug=none:=by kernel_rfl
theorem laidT:laidOutB Try.prog=true:=by kernel_rfl
theorem wInts (W:World):Dec Try.prog W 34 (List Int) (fun a=>[.rsl (rowI a) 0 a.length]) (fun a=>a.length≤9223372036854775807):=by
 refine Dec.map (Qaa Try.underlying34 (n:=1) (by kernel_rfl) (by decide) (fun _=>rfl) (fun _=>rfl) (Vf Try.underlying3)) (fun x=>x) ?_ ?_
 · exact fun _=>rfl
 · exact fun _ h=>h.1
theorem wGnd (W:World):Dec Try.prog W 48 Gd (fun a=>[.int .i64 a.w,.int .i64 a.h,.rsl (rowI a.cells) 0 a.cells.length,.rsl (rowI a.hts) 0 a.hts.length]) (fun a=>True):=by
 refine Dec.map (Wt Try.underlying48 rfl (tot:=4) (by kernel_rfl) (Xf (n:=1) (tot:=4) (by kernel_rfl) rfl (Vf Try.underlying3) (Xf (n:=1) (tot:=4) (by kernel_rfl) rfl (Vf Try.underlying3) (Xf (n:=1) (tot:=4) (by kernel_rfl) rfl (wInts W) (Xf (n:=1) (tot:=4) (by kernel_rfl) rfl (wInts W) qq (by decide)) (by decide)) (by decide)) (by decide))) (fun x=>(⟨x.1,x.2.1,x.2.2.1,x.2.2.2.1⟩:Gd)) ?_ ?_
 · exact fun _=>rfl
 · exact fun _ _=>trivial
theorem wPtc (W:World):Dec Try.prog W 350 Ptc (fun a=>[.int .i64 a.wide,.int .i64 a.high,.int .i64 a.slope,.int .i64 a.years,.int .i64 a.wish]) (fun a=>True):=by
 refine Dec.map (Wt Try.underlying350 rfl (tot:=5) (by kernel_rfl) (Xf (n:=1) (tot:=5) (by kernel_rfl) rfl (Vf Try.underlying3) (Xf (n:=1) (tot:=5) (by kernel_rfl) rfl (Vf Try.underlying3) (Xf (n:=1) (tot:=5) (by kernel_rfl) rfl (Vf Try.underlying3) (Xf (n:=1) (tot:=5) (by kernel_rfl) rfl (Vf Try.underlying3) (Xf (n:=1) (tot:=5) (by kernel_rfl) rfl (Vf Try.underlying3) qq (by decide)) (by decide)) (by decide)) (by decide)) (by decide))) (fun x=>(⟨x.1,x.2.1,x.2.2.1,x.2.2.2.1,x.2.2.2.2.1⟩:Ptc)) ?_ ?_
 · exact fun _=>rfl
 · exact fun _ _=>trivial
theorem wPtcs (W:World):Dec Try.prog W 124 (List Ptc) (fun a=>[.rsl (Qc a) 0 a.length]) (fun a=>a.length≤9223372036854775807):=by
 refine Dec.map (Qaa Try.underlying124 (n:=5) (by kernel_rfl) (by decide) (fun _=>rfl) (fun _=>rfl) (wPtc W)) (fun x=>x) ?_ ?_
 · exact fun _=>rfl
 · exact fun _ h=>h.1
theorem wSit (W:World):Dec Try.prog W 289 Sit (fun a=>[.int .i64 a.cell,.bool a.turned]) (fun a=>True):=by
 refine Dec.map (Wt Try.underlying289 rfl (tot:=2) (by kernel_rfl) (Xf (n:=1) (tot:=2) (by kernel_rfl) rfl (Vf Try.underlying3) (Xf (n:=1) (tot:=2) (by kernel_rfl) rfl (dec_bool Try.underlying4) qq (by decide)) (by decide))) (fun x=>(⟨x.1,x.2.1⟩:Sit)) ?_ ?_
 · exact fun _=>rfl
 · exact fun _ _=>trivial
theorem wSits (W:World):Dec Try.prog W 125 (List Sit) (fun a=>[.rsl (Qb a) 0 a.length]) (fun a=>a.length≤9223372036854775807):=by
 refine Dec.map (Qaa Try.underlying125 (n:=2) (by kernel_rfl) (by decide) (fun _=>rfl) (fun _=>rfl) (wSit W)) (fun x=>x) ?_ ?_
 · exact fun _=>rfl
 · exact fun _ h=>h.1
theorem wFie (W:World):Dec Try.prog W 127 Fie (fun a=>[.rsl (Qc a.ps) 0 a.ps.length,.rsl (Qb a.ss) 0 a.ss.length,.rsl (rowI a.cr) 0 a.cr.length]) (fun a=>True):=by
 refine Dec.map (Wt Try.underlying127 rfl (tot:=3) (by kernel_rfl) (Xf (n:=1) (tot:=3) (by kernel_rfl) rfl (wPtcs W) (Xf (n:=1) (tot:=3) (by kernel_rfl) rfl (wSits W) (Xf (n:=1) (tot:=3) (by kernel_rfl) rfl (wInts W) qq (by decide)) (by decide)) (by decide))) (fun x=>(⟨x.1,x.2.1,x.2.2.1⟩:Fie)) ?_ ?_
 · exact fun _=>rfl
 · exact fun _ _=>trivial
end Go.Proofs.Ytemklbioijmjiaa