/- A part of the proof: several texts, one behind the other. -/
import Derived.Test.YtgdfkjjgdkejfaaLRideEmptiedE
set_option linter.unusedVariables false
set_option linter.unusedSimpArgs false
set_option maxRecDepth 100000
namespace Go.Proofs.Ytgdfkjjgdkejfaa
open Go Ax
open Go.Proofs
/-! ### Places -/
structure Plc (N L:Nat) (p:List Int):Prop where
 len:p.length=L
 rng:∀ i,i<L→0≤p.getD i 0∧p.getD i 0<N
 ne:∀ i j,i<L→j<L→i ≠ j→p.getD i 0 ≠ p.getD j 0
theorem VD {l:List Int} {x:Int}:x ∈ l ↔ ∃ i,i<l.length∧l.getD i 0=x:=by
 constructor
 · intro h
   obtain ⟨i,hi⟩:=List.getElem?_of_mem h
   exact ⟨i,(List.getElem?_eq_some_iff.1 hi).1,Wd hi⟩
 · rintro ⟨i,hi,rfl⟩
   exact List.mem_of_getElem? (getD_some (d:=0) hi)
theorem apartN_of {nb:Nat} {l:List Int} (hr:∀ i,i<l.length→0≤l.getD i 0∧l.getD i 0<nb) (hn:∀ i j,i<l.length→j<l.length→i ≠ j→l.getD i 0 ≠ l.getD j 0):∀ {n:Nat},n≤l.length→YD nb l n=true
 | 0,_=>rfl
 | n+1,h=>by
  simp only [YD,Bool.and_eq_true,Bool.not_eq_true']
  have:=hr n (by omega)
  refine ⟨⟨apartN_of hr hn (by omega),Xi.2 (by omega)⟩,List.any_eq_false.2 fun x hx=>?_⟩
  obtain ⟨i,hi⟩:=List.getElem?_of_mem hx
  rw [List.getElem?_take] at hi
  split at hi
  · rename_i hlt
    have e:l.getD i 0=x:=Wd hi
    have:=hn n i (by omega) (by omega) (by omega)
    rw [e] at this
    simpa using this
  · cases hi
theorem YB {N L:Nat} {p:List Int} (hl:p.length=L):QY N p=true ↔ Plc N L p:=by
 subst hl
 constructor
 · intro h
   obtain ⟨a,b⟩:=qq (Nat.le_refl _) h
   refine ⟨rfl,a,fun i j hi hj hne=>?_⟩
   rcases Nat.lt_or_ge i j with w | w
   · exact b i j w hj
   · exact (b j i (by omega) hi).symm
 · intro h; exact apartN_of h.rng h.ne (Nat.le_refl _)
def nxtV (N:Nat) (p:List Int) (k:Nat):Int:=Int.tmod (p.getD k 0+1) (N:Int)
def nxtP (N:Nat) (p:List Int) (k:Nat):List Int:=p.set k (nxtV N p k)
theorem qB {N L:Nat} {p:List Int} (h:Plc N L p) {k:Nat} (hk:k<L) (hN:2≤N):0≤nxtV N p k∧nxtV N p k<N∧nxtV N p k ≠ p.getD k 0∧((nxtV N p k=p.getD k 0+1∧p.getD k 0+1<N) ∨ (nxtV N p k=0∧p.getD k 0+1=N)):=by
 have hr:=h.rng k hk
 unfold nxtV
 generalize p.getD k 0=x at *
 rw [Int.tmod_eq_emod_of_nonneg (by omega)]
 rcases Int.lt_or_le (x+1) N with w | w
 · rw [Int.emod_eq_of_lt (by omega) w]; omega
 · rw [show x+1=(N:Int) by omega,Int.emod_self]; omega
theorem Kl {N:Nat} {p:List Int} {k:Nat}:(nxtP N p k).length=p.length:=by simp [nxtP]
theorem WB {N:Nat} {p:List Int} {k j:Nat} (hk:k<p.length):(nxtP N p k).getD j 0=if j=k then nxtV N p k else p.getD j 0:=by
 unfold nxtP
 rw [List.getD_eq_getElem?_getD,List.getElem?_set]
 by_cases e:k=j
 · subst e; rw [if_pos rfl,if_pos hk,if_pos rfl]; rfl
 · rw [if_neg e,if_neg (fun h=>e h.symm),← List.getD_eq_getElem?_getD]
theorem WH {N L:Nat} {p:List Int} (h:Plc N L p) {k:Nat} (hk:k<L) (hN:2≤N):Plc N L (nxtP N p k) ↔ p.any (fun x=>nxtV N p k == x)=false:=by
 have hv:=qB h hk hN
 have hkl:k<p.length:=by rw [h.len]; exact hk
 constructor
 · intro hq
   refine List.any_eq_false.2 fun x hx=>?_
   obtain ⟨j,hj,rfl⟩:=VD.1 hx
   rw [h.len] at hj
   simp only [beq_iff_eq]
   intro e
   by_cases ejk:j=k
   · subst ejk; exact hv.2.2.1 e
   · have:=hq.ne k j hk hj (fun e=>ejk e.symm)
     rw [WB hkl,WB hkl,if_pos rfl,if_neg ejk] at this
     exact this e
 · intro ha
   have hne:∀ j,j<L→nxtV N p k ≠ p.getD j 0:=fun j hj e=>by
    have:=List.any_eq_false.1 ha _ (List.mem_of_getElem? (getD_some (d:=0) (show j<p.length by rw [h.len]; exact hj)))
    simp only [beq_iff_eq] at this
    exact this e
   refine ⟨by rw [Kl]; exact h.len,fun i hi=>?_,fun i j hi hj hij=>?_⟩
   · rw [WB hkl]; split
     · omega
     · exact h.rng i hi
   · rw [WB hkl,WB hkl]
     split
     · rename_i e1
       rw [if_neg (fun e2=>hij (e1.trans e2.symm))]; exact hne j hj
     · rename_i e1
       split
       · exact fun e=>hne i hi e.symm
       · exact h.ne i j hi hj hij
/-! ### The order of the cars is kept -/
def Ord (N L:Nat) (b p:List Int):Prop:=∀ j k,0<j→j<L→0<k→k<L→j ≠ k→((cyc N (p.getD 0 0) (p.getD j 0)<cyc N (p.getD 0 0) (p.getD k 0)) ↔ (cyc N (b.getD 0 0) (b.getD j 0)<cyc N (b.getD 0 0) (b.getD k 0)))
theorem ord_next {N L:Nat} {b p:List Int} (h:Plc N L p) (hN:2≤N) {m:Nat} (hm:m<L) (hq:Plc N L (nxtP N p m)) (ho:Ord N L b p):Ord N L b (nxtP N p m):=by
 intro j k hj0 hj hk0 hk hjk
 rw [← ho j k hj0 hj hk0 hk hjk]
 have hml:m<p.length:=by rw [h.len]; exact hm
 have hv:=qB h hm hN
 have ha:=(WH h hm hN).1 hq
 have hne:∀ j,j<L→nxtV N p m ≠ p.getD j 0:=fun j hj e=>by
  have:=List.any_eq_false.1 ha _ (List.mem_of_getElem? (getD_some (d:=0) (show j<p.length by rw [h.len]; exact hj)))
  simp only [beq_iff_eq] at this
  exact this e
 have mv:∀ i,i<L→Mv N (p.getD i 0) ((nxtP N p m).getD i 0) (if i=m then 1 else 0):=fun i hi=>by
  rw [WB hml]
  by_cases e:i=m
  · subst e; rw [if_pos rfl,if_pos rfl]
    exact .inr ⟨rfl,hv.2.2.2⟩
  · rw [if_neg e,if_neg e]; exact .inl ⟨rfl,rfl⟩
 have fr:∀ i,i<L→(if i=m then (1:Int) else 0)=1→∀ j,j<L→(nxtP N p m).getD i 0 ≠ p.getD j 0:=fun i hi e j hj=>by
  by_cases eim:i=m
  · subst eim; rw [WB hml,if_pos rfl]; exact hne j hj
  · rw [if_neg eim] at e; omega
 have h0:0<L:=by omega
 have d1:=dist_step (YC (h.rng 0 h0) (h.rng j hj)) (YC (hq.rng 0 h0) (hq.rng j hj)) (mv 0 h0) (mv j hj) (h.rng 0 h0) (h.rng j hj) (h.ne 0 j h0 hj (by omega)) (fun e=>fr 0 h0 e j hj) (fun e=>fr j hj e 0 h0)
 have d2:=dist_step (YC (h.rng 0 h0) (h.rng k hk)) (YC (hq.rng 0 h0) (hq.rng k hk)) (mv 0 h0) (mv k hk) (h.rng 0 h0) (h.rng k hk) (h.ne 0 k h0 hk (by omega)) (fun e=>fr 0 h0 e k hk) (fun e=>fr k hk e 0 h0)
 rw [d1,d2]
 exact (order_step (YC (h.rng 0 h0) (h.rng j hj)) (YC (h.rng 0 h0) (h.rng k hk)) (mv j hj) (mv k hk) (h.ne j k hj hk hjk) (fun e=>fr j hj e k hk) (fun e=>fr k hk e j hj) (h.rng j hj) (h.rng k hk)).symm
theorem cyc_inj {N:Nat} {z x y:Int} (hz:0≤z∧z<N) (hx:0≤x∧x<N) (hy:0≤y∧y<N) (h:cyc N z x=cyc N z y):x=y:=by
 have a:=YC hz hx
 have b:=YC hz hy
 rw [h] at a
 unfold Cyc at a b
 omega
theorem place_one {N L:Nat} {b p q:List Int} (hp:Plc N L p) (hq:Plc N L q) (op:Ord N L b p) (oq:Ord N L b q) (h0:p.getD 0 0=q.getD 0 0) (hs:∀ x:Int,x ∈ p→x ∈ q) {d:Int}
 (ih:∀ j,j<L→(cyc N (p.getD 0 0) (p.getD j 0)<d ∨ cyc N (p.getD 0 0) (q.getD j 0)<d)→p.getD j 0=q.getD j 0) {j:Nat} (hj:j<L) (hd:cyc N (p.getD 0 0) (p.getD j 0)=d):p.getD j 0=q.getD j 0:=by
 refine Classical.byContradiction fun hne=>?_
 have hL:0<L:=by omega
 have hj0:0<j:=by
  rcases Nat.eq_zero_or_pos j with e | e
  · subst e; exact absurd h0 hne
  · exact e
 obtain ⟨k,hk,ek⟩:=VD.1 (hs _ (List.mem_of_getElem? (getD_some (d:=0) (show j<p.length by rw [hp.len]; exact hj))))
 rw [hq.len] at hk
 have hkj:k ≠ j:=fun e=>hne (by rw [← ek,e])
 have hk0:0<k:=by
  rcases Nat.eq_zero_or_pos k with e | e
  · subst e; exact absurd (ek.symm.trans h0.symm) (hp.ne j 0 hj hL (by omega))
  · exact e
 have hck:cyc N (p.getD 0 0) (q.getD k 0)=d:=by rw [ek,hd]
 have hcne:cyc N (p.getD 0 0) (q.getD j 0) ≠ d:=fun e=>hq.ne j k hj hk (fun e=>hkj e.symm) (cyc_inj (hp.rng 0 hL) (hq.rng j hj) (hq.rng k hk) (e.trans hck.symm))
 rcases Int.lt_or_le (cyc N (p.getD 0 0) (q.getD j 0)) d with w | w
 · exact hne (ih j hj (.inr w))
 · have h1:cyc N (q.getD 0 0) (q.getD k 0)<cyc N (q.getD 0 0) (q.getD j 0):=by rw [← h0,hck]; omega
   have h2:=(op k j hk0 hk hj0 hj hkj).2 ((oq k j hk0 hk hj0 hj hkj).1 h1)
   rw [hd] at h2
   have h3:=ih k hk (.inl h2)
   exact hp.ne k j hk hj hkj (h3.trans ek)
theorem place_eq {N L:Nat} {b p q:List Int} (hp:Plc N L p) (hq:Plc N L q) (op:Ord N L b p) (oq:Ord N L b q) (h0:p.getD 0 0=q.getD 0 0) (hs:∀ x:Int,x ∈ p ↔ x ∈ q):p=q:=by
 have key:∀ (n:Nat) (j:Nat),j<L→(cyc N (p.getD 0 0) (p.getD j 0)<n ∨ cyc N (p.getD 0 0) (q.getD j 0)<n)→p.getD j 0=q.getD j 0:=by
  intro n
  induction n with
  | zero =>
   intro j hj h
   have a:=YC (hp.rng 0 (by omega)) (hp.rng j hj)
   have b:=YC (hp.rng 0 (by omega)) (hq.rng j hj)
   unfold Cyc at a b
   omega
  | succ n ih =>
   intro j hj h
   rcases h with h | h
   · rcases Int.lt_or_le (cyc N (p.getD 0 0) (p.getD j 0)) n with w | w
     · exact ih j hj (.inl w)
     · exact place_one hp hq op oq h0 (fun x hx=>(hs x).1 hx) (d:=n) (fun j hj h=>ih j hj h) hj (by omega)
   · rcases Int.lt_or_le (cyc N (p.getD 0 0) (q.getD j 0)) n with w | w
     · exact ih j hj (.inr w)
     · exact (place_one hq hp oq op h0.symm (fun x hx=>(hs x).2 hx) (d:=n) (fun j hj h=>(ih j hj (by rw [h0]; exact h.symm)).symm) hj (by rw [← h0]; omega)).symm
 apply List.ext_getElem?
 intro j
 rcases Nat.lt_or_ge j L with hj | hj
 · have a:=YC (hp.rng 0 (by omega)) (hp.rng j hj)
   unfold Cyc at a
   rw [getD_some (d:=0) (by rw [hp.len]; exact hj),getD_some (d:=0) (by rw [hq.len]; exact hj),key N j hj (.inl (by omega))]
 · rw [List.getElem?_eq_none (by rw [hp.len]; exact hj),List.getElem?_eq_none (by rw [hq.len]; exact hj)]
/-! ### How many places there are -/
def occN (p:List Int):Nat→Nat
 | 0=>0
 | b+1=>occN p b+(if (b:Int) ∈ p then 2 ^ b else 0)
theorem Qae {p:List Int}:∀ {n:Nat},occN p n<2 ^ n
 | 0=>by simp [occN]
 | n+1=>by
  have:=Qae (p:=p) (n:=n)
  simp only [occN,Nat.pow_succ]; split <;> omega
theorem occ_eq {p q:List Int}:∀ {n:Nat},occN p n=occN q n→∀ b,b<n→((b:Int) ∈ p ↔ (b:Int) ∈ q)
 | 0,_,b,hb=>by omega
 | n+1,h,b,hb=>by
  have h1:=Qae (p:=p) (n:=n)
  have h2:=Qae (p:=q) (n:=n)
  simp only [occN] at h
  have hh:((n:Int) ∈ p ↔ (n:Int) ∈ q)∧occN p n=occN q n:=by
   split at h <;> split at h
   · rename_i a b; exact ⟨⟨fun _=>b,fun _=>a⟩,by omega⟩
   · omega
   · omega
   · rename_i a b; exact ⟨⟨fun h=>absurd h a,fun h=>absurd h b⟩,by omega⟩
  rcases Nat.lt_or_ge b n with w | w
  · exact occ_eq hh.2 b w
  · rw [show b=n by omega]; exact hh.1
def codeP (N:Nat) (p:List Int):Nat:=Int.toNat (p.getD 0 0)*2 ^ N+occN p N
theorem code_inj {N L:Nat} {b p q:List Int} (hp:Plc N L p) (hq:Plc N L q) (op:Ord N L b p) (oq:Ord N L b q) (h:codeP N p=codeP N q):p=q:=by
 have h1:=Qae (p:=p) (n:=N)
 have h2:=Qae (p:=q) (n:=N)
 unfold codeP at h
 have hx:Int.toNat (p.getD 0 0)=Int.toNat (q.getD 0 0):=by
  have e1:(Int.toNat (p.getD 0 0)*2 ^ N+occN p N) / 2 ^ N=Int.toNat (p.getD 0 0):=by
   rw [Nat.add_comm,Nat.add_mul_div_right _ _ (Nat.two_pow_pos N),Nat.div_eq_of_lt h1,Nat.zero_add]
  have e2:(Int.toNat (q.getD 0 0)*2 ^ N+occN q N) / 2 ^ N=Int.toNat (q.getD 0 0):=by
   rw [Nat.add_comm,Nat.add_mul_div_right _ _ (Nat.two_pow_pos N),Nat.div_eq_of_lt h2,Nat.zero_add]
  rw [← e1,← e2,h]
 have ho:occN p N=occN q N:=by rw [hx] at h; omega
 rcases Nat.eq_zero_or_pos L with e | hL
 · subst e
   rw [List.length_eq_zero_iff.1 hp.len,List.length_eq_zero_iff.1 hq.len]
 · have a:=hp.rng 0 hL
   have c:=hq.rng 0 hL
   refine place_eq hp hq op oq (by omega) fun x=>?_
   have hin:∀ {l:List Int},Plc N L l→x ∈ l→0≤x∧x<N:=fun hl hx=>by
    obtain ⟨i,hi,rfl⟩:=VD.1 hx
    exact hl.rng i (by rw [← hl.len]; exact hi)
   constructor
   · intro hxp
     have:=hin hp hxp
     have:=(occ_eq ho (Int.toNat x) (by omega)).1
     rw [Int.toNat_of_nonneg (by omega)] at this
     exact this hxp
   · intro hxq
     have:=hin hq hxq
     have:=(occ_eq ho (Int.toNat x) (by omega)).2
     rw [Int.toNat_of_nonneg (by omega)] at this
     exact this hxq
theorem code_lt {N L:Nat} {p:List Int} (hp:Plc N L p) (hN:2≤N∧N≤12):codeP N p<49152:=by
 have h1:=Qae (p:=p) (n:=N)
 have h2:2 ^ N≤2 ^ 12:=Nat.pow_le_pow_right (by omega) hN.2
 have h3:Int.toNat (p.getD 0 0)<N:=by
  rcases Nat.eq_zero_or_pos L with e | hL
  · subst e
    rw [List.length_eq_zero_iff.1 hp.len]
    show (0:Nat)<N; omega
  · have:=hp.rng 0 hL; omega
 have h4:(Int.toNat (p.getD 0 0)+1)*2 ^ N≤12*2 ^ 12:=Nat.mul_le_mul (by omega) h2
 unfold codeP
 rw [Nat.add_mul] at h4
 omega
theorem inj_le':∀ {N L:Nat} {f:Nat→Nat},(∀ i,i<L→f i<N)→(∀ i j,i<L→j<L→f i=f j→i=j)→L≤N
 | 0,L,f,h,_=>by
  rcases Nat.eq_zero_or_pos L with h0 | h0
  · omega
  · have:=h 0 h0; omega
 | N+1,L,f,h,hj=>by
  by_cases hx:∃ i0,i0<L∧f i0=N
  · obtain ⟨i0,h0,e0⟩:=hx
    have:=inj_le' (N:=N) (L:=L - 1) (f:=fun i=>f (if i<i0 then i else i+1)) (fun i hi=>by
     have hlt:(if i<i0 then i else i+1)<L:=by split <;> omega
     have h1:=h _ hlt
     have h2:f (if i<i0 then i else i+1) ≠ N:=fun e=>by
      have:=hj _ _ hlt h0 (by rw [e,e0])
      split at this <;> omega
     omega) (fun i j hi hj' e=>by
     have:=hj _ _ (by split <;> omega) (by split <;> omega) e
     split at this <;> split at this <;> omega)
    omega
  · have:=inj_le' (N:=N) (L:=L) (f:=f) (fun i hi=>by
     have h1:=h i hi
     have h2:f i ≠ N:=fun e=>hx ⟨i,hi,e⟩
     omega) hj
    omega
theorem places_le {N L:Nat} {b:List Int} {ps:List (List Int)} (hN:2≤N∧N≤12) (hp:∀ p ∈ ps,Plc N L p∧Ord N L b p) (hn:∀ i j,i<ps.length→j<ps.length→ps.getD i []=ps.getD j []→i=j):ps.length≤49152 :=
 inj_le' (f:=fun i=>codeP N (ps.getD i [])) (fun i hi=>code_lt (hp _ (List.mem_of_getElem? (getD_some (d:=[]) hi))).1 hN) fun i j hi hj e=>by
  have a:=hp _ (List.mem_of_getElem? (getD_some (d:=[]) hi))
  have b:=hp _ (List.mem_of_getElem? (getD_some (d:=[]) hj))
  exact hn i j hi hj (code_inj a.1 b.1 a.2 b.2 e)
/-! ### Looking for them -/
abbrev PL:=List (List Int) × List (List Int)
def qf (N i:Nat) (s:PL) (k:Nat):PL :=
 if QY N (nxtP N (s.1.getD i []) k)=true∧nxtP N (s.1.getD i []) k ∉ s.1 then (s.1++[nxtP N (s.1.getD i []) k],s.2++[s.2.getD i []++[(k:Int)]]) else s
def YQ (N i:Nat) (s:PL):Nat→PL
 | 0=>s
 | k+1=>qf N i (YQ N i s k) k
def Qy (c:Cir) (p:List Int):Bool:=p.all fun b=>(bkAt c b).walk
def bfsK (c:Cir) (L:Nat):Nat→PL→Nat→List Int × Int
 | 0,_,_=>([],3)
 | f+1,s,i=>if i<s.1.length then (if Qy c (s.1.getD i [])=true then (s.2.getD i [],0) else bfsK c L f (YQ c.blocks.length i s L) (i+1)) else ([],3)
def Qa (c:Cir) (row:List Spt):List Int × Int :=
 if QK c=0 then (if row.length=c.cars.length∧QY c.blocks.length (row.map Spt.block)=true then bfsK c row.length 50000 ([row.map Spt.block],[[]]) 0 else ([],1)) else ([],QK c)
def VN (N:Nat) (p:List Int) (k:Int):Option (List Int):=if (0≤k∧Int.toNat k<p.length)∧p.any (fun x=>nxtV N p (Int.toNat k) == x)=false then some (nxtP N p (Int.toNat k)) else none
def runP (N:Nat) (p:List Int) (l:List Int):Option (List Int):=l.foldl (fun o k=>o.bind fun q=>VN N q k) (some p)
theorem runP_snoc {N:Nat} {p:List Int} {l:List Int} {k:Int}:runP N p (l++[k])=(runP N p l).bind fun q=>VN N q k:=by
 unfold runP; rw [List.foldl_append]; rfl
structure BInv (N L:Nat) (b0:List Int) (s:PL):Prop where
 ll:s.2.length=s.1.length
 first:0<s.1.length∧s.1.getD 0 []=b0∧s.2.getD 0 []=[]
 plc:∀ p ∈ s.1,Plc N L p∧Ord N L b0 p
 nd:∀ i j,i<s.1.length→j<s.1.length→s.1.getD i []=s.1.getD j []→i=j
 wl:∀ j,j<s.1.length→(s.2.getD j []).length≤j∧(0<j→s.2.getD j [] ≠ [])
 path:∀ j,j<s.1.length→runP N b0 (s.2.getD j [])=some (s.1.getD j [])
 ks:∀ j,j<s.1.length→∀ x ∈ s.2.getD j [],0≤x∧x<(L:Int)
theorem XC {α:Type} {l:List α} {x d:α} {j:Nat}:(l++[x]).getD j d=if j<l.length then l.getD j d else if j=l.length then x else d:=by
 rw [List.getD_eq_getElem?_getD,List.getElem?_append]
 split
 · rw [← List.getD_eq_getElem?_getD]
 · split
   · rename_i e; subst e; simp
   · rw [List.getElem?_eq_none (by simp; omega)]; rfl
theorem BInv.push {N L:Nat} {b0:List Int} {s:PL} (h:BInv N L b0 s) (hN:2≤N) {i k:Nat} (hi:i<s.1.length) (hk:k<L):BInv N L b0 (qf N i s k):=by
 unfold qf
 split
 · rename_i hc
   obtain ⟨hc1,hc2⟩:=hc
   obtain ⟨hp,ho⟩:=h.plc _ (List.mem_of_getElem? (getD_some (d:=[]) hi))
   have hl:(nxtP N (s.1.getD i []) k).length=L:=by rw [Kl]; exact hp.len
   have hq:=(YB hl).1 hc1
   have hoq:=ord_next hp hN hk hq ho
   have hfree:=(WH hp hk hN).1 hq
   have h0:=h.first
   have hll:=h.ll
   have hj:∀ j,j<(s.1++[nxtP N (s.1.getD i []) k]).length→j<s.1.length ∨ j=s.1.length:=fun j hj=>by simp at hj; omega
   have e1:∀ j,j<s.1.length→(s.1++[nxtP N (s.1.getD i []) k]).getD j []=s.1.getD j []:=fun j hj=>by rw [XC,if_pos hj]
   have e2:(s.1++[nxtP N (s.1.getD i []) k]).getD s.1.length []=nxtP N (s.1.getD i []) k:=by rw [XC,if_neg (by omega),if_pos rfl]
   have e3:∀ j,j<s.1.length→(s.2++[s.2.getD i []++[(k:Int)]]).getD j []=s.2.getD j []:=fun j hj=>by rw [XC,if_pos (by omega)]
   have e4:(s.2++[s.2.getD i []++[(k:Int)]]).getD s.1.length []=s.2.getD i []++[(k:Int)]:=by rw [XC,if_neg (by omega),if_pos hll.symm]
   refine ⟨by simp [hll],⟨by simp,?_,?_⟩,fun p hp2=>?_,fun a b ha hb e=>?_,fun j hjl=>?_,fun j hjl=>?_,fun j hjl=>?_⟩
   · show (s.1++_).getD 0 []=b0
     rw [e1 0 h0.1]; exact h0.2.1
   · show (s.2++_).getD 0 []=[]
     rw [e3 0 h0.1]; exact h0.2.2
   · rcases List.mem_append.1 hp2 with w | w
     · exact h.plc p w
     · simp only [List.mem_singleton] at w; subst w; exact ⟨hq,hoq⟩
   · dsimp only at e ha hb
     rcases hj a ha with wa | wa <;> rcases hj b hb with wb | wb
     · rw [e1 a wa,e1 b wb] at e; exact h.nd a b wa wb e
     · subst wb
       rw [e1 a wa,e2] at e
       exact absurd (List.mem_of_getElem? (getD_some (d:=[]) wa)) (by rw [e]; exact hc2)
     · subst wa
       rw [e2,e1 b wb] at e
       exact absurd (List.mem_of_getElem? (getD_some (d:=[]) wb)) (by rw [← e]; exact hc2)
     · omega
   · dsimp only at hjl ⊢
     rcases hj j hjl with w | w
     · rw [e3 j w]; exact h.wl j w
     · subst w
       rw [e4]
       have:=(h.wl i hi).1
       refine ⟨by rw [List.length_append]; simp only [List.length_cons,List.length_nil]; omega,fun _=>by simp⟩
   · dsimp only at hjl ⊢
     rcases hj j hjl with w | w
     · rw [e3 j w,e1 j w]; exact h.path j w
     · subst w
       rw [e4,e2,runP_snoc,h.path i hi]
       show VN N (s.1.getD i []) (k:Int)=_
       rw [VN,Int.toNat_natCast,if_pos ⟨⟨by omega,by rw [hp.len]; exact hk⟩,hfree⟩]
   · dsimp only at hjl ⊢
     rcases hj j hjl with w | w
     · rw [e3 j w]; exact h.ks j w
     · subst w
       rw [e4]
       intro x hx
       rcases List.mem_append.1 hx with w | w
       · exact h.ks i hi x w
       · simp only [List.mem_singleton] at w; subst w; omega
 · exact h
theorem push_pre {N i k:Nat} {s:PL}:∃ a b,qf N i s k=(s.1++a,s.2++b):=by
 unfold qf
 split
 · exact ⟨_,_,rfl⟩
 · exact ⟨[],[],by simp⟩
theorem push_len {N i k:Nat} {s:PL}:s.1.length≤(qf N i s k).1.length:=by
 obtain ⟨a,b,e⟩:=push_pre (N:=N) (i:=i) (k:=k) (s:=s)
 rw [e]; simp
theorem push_get {N i k:Nat} {s:PL} {j:Nat} (hj:j<s.1.length) (hl:s.2.length=s.1.length):(qf N i s k).1.getD j []=s.1.getD j []∧(qf N i s k).2.getD j []=s.2.getD j []:=by
 obtain ⟨a,b,e⟩:=push_pre (N:=N) (i:=i) (k:=k) (s:=s)
 rw [e]
 simp only [List.getD_eq_getElem?_getD]
 rw [List.getElem?_append_left hj,List.getElem?_append_left (by omega)]
 exact ⟨rfl,rfl⟩
theorem BInv.expd {N L:Nat} {b0:List Int} {s:PL} (h:BInv N L b0 s) (hN:2≤N) {i:Nat} (hi:i<s.1.length):∀ {k:Nat},k≤L→BInv N L b0 (YQ N i s k)∧s.1.length≤(YQ N i s k).1.length∧∀ j,j<s.1.length→(YQ N i s k).1.getD j []=s.1.getD j []∧(YQ N i s k).2.getD j []=s.2.getD j []
 | 0,_=>⟨h,Nat.le_refl _,fun j _=>⟨rfl,rfl⟩⟩
 | k+1,hk=>by
  obtain ⟨h1,h2,h3⟩:=h.expd hN hi (k:=k) (by omega)
  refine ⟨h1.push hN (by omega) (by omega),Nat.le_trans h2 push_len,fun j hj=>?_⟩
  have:=push_get (N:=N) (i:=i) (k:=k) (s:=YQ N i s k) (j:=j) (by omega) h1.ll
  simp only [YQ]
  rw [this.1,this.2]
  exact h3 j hj
theorem BInv.le {N L:Nat} {b0:List Int} {s:PL} (h:BInv N L b0 s) (hN:2≤N∧N≤12):s.1.length≤49152:=places_le hN h.plc h.nd
theorem ord_refl {N L:Nat} {b:List Int}:Ord N L b b:=fun _ _ _ _ _ _ _=>Iff.rfl
theorem BInv.init {N L:Nat} {b0:List Int} (h:Plc N L b0):BInv N L b0 ([b0],[[]]):=by
 refine ⟨rfl,⟨by simp,rfl,rfl⟩,fun p hp=>?_,fun i j hi hj _=>?_,fun j hj=>?_,fun j hj=>?_,fun j hj=>?_⟩
 · simp only [List.mem_singleton] at hp; subst hp; exact ⟨h,ord_refl⟩
 · simp at hi hj; omega
 · have:j=0:=by simp at hj; omega
   subst this; exact ⟨by simp,fun h=>by omega⟩
 · have:j=0:=by simp at hj; omega
   subst this; rfl
 · have:j=0:=by simp at hj; omega
   subst this; intro x hx; simp at hx
end Go.Proofs.Ytgdfkjjgdkejfaa
namespace Go.Proofs.Ytgdfkjjgdkejfaa
open Go Ax
open Go.Proofs
def kcI (l:List Int):List AV:=[.int .i64 (l.getD 0 0),.int .i64 (l.getD 1 0),.int .i64 (l.getD 2 0),.int .i64 (l.getD 3 0),.int .i64 (l.getD 4 0),.int .i64 (l.getD 5 0),.int .i64 (l.getD 6 0),.int .i64 (l.getD 7 0),.int .i64 (l.getD 8 0),.int .i64 (l.getD 9 0)]
def rowY (l:List (List Int)):List AV:=l.flatMap kcI
theorem Xh {l:List Int} (h:l.length=10):kcI l=rowI l:=by
 match l,h with
 | [a0,a1,a2,a3,a4,a5,a6,a7,a8,a9],_=>rfl
theorem Yd {l:List Int} (h:l.length=10):((rowI l).drop 0).take 10=kcI l:=by
 match l,h with
 | [a0,a1,a2,a3,a4,a5,a6,a7,a8,a9],_=>rfl
theorem sl_eq {k g o o' l l' s:Nat} (h1:o=o') (h2:l=l'):AV.sl k g o l s=AV.sl k g o' l' s:=by subst h1; subst h2; rfl
theorem QaO {α:Type} {l:List α} {o m:Nat} {a:α} (h:l[o]?=some a) (hm:m=l.length - o):(0:Int)≤0∧(0:Int)<(m:Int):=by
 have:=(List.getElem?_eq_some_iff.1 h).1
 subst hm; omega
theorem QaF {α:Type} (f:α→List AV) {s:Nat} (hf:∀ a,(f a).length=s) {l:List α} {o:Nat} {a:α} (h:l[o]?=some a):((l.flatMap f).drop (o*s+0*s)).take s=f a:=by
 have:=row_part f hf (k:=0) (m:=s) (by omega) h
 rw [show 0+o*s+0=o*s+0*s by omega] at this
 rw [this,List.drop_zero,List.take_of_length_le (by rw [hf]; exact Nat.le_refl _)]
theorem qw {α:Type} (f:α→List AV) {s:Nat} (hf:∀ a,(f a).length=s) (l:List α):∀ (o:Nat),(l.flatMap f).drop (o*s)=(l.drop o).flatMap f
 | 0=>by simp
 | o+1=>by
  cases l with
  | nil=>simp
  | cons x l =>
   rw [List.flatMap_cons,Nat.succ_mul,List.drop_append,hf,List.drop_of_length_le (by rw [hf]; omega),List.nil_append,show o*s+s - s=o*s by omega,qw f hf l o]
   rfl
theorem scal_Int (l:List Int):∀ x ∈ rowI l,XU x=true:=fun x hx=>by
 obtain ⟨y,-,h⟩:=List.mem_flatMap.1 hx
 simp only [cI,List.mem_singleton] at h
 subst h; rfl
def cWyE1 (e:List Int × Option (List Int)):AV:=.clos 0 [.agg (kcI e.1)] [cOI1 e.2]
def cWyE (e:List Int × Option (List Int)):List AV:=[cWyE1 e]
def Xo (l:List (List Int × Option (List Int))):List AV:=l.flatMap cWyE
def eqKI (a b:List Int):Bool:=(a.getD 0 0 == b.getD 0 0) && ((a.getD 1 0 == b.getD 1 0) && ((a.getD 2 0 == b.getD 2 0) && ((a.getD 3 0 == b.getD 3 0) && ((a.getD 4 0 == b.getD 4 0) && ((a.getD 5 0 == b.getD 5 0) && ((a.getD 6 0 == b.getD 6 0) && ((a.getD 7 0 == b.getD 7 0) && ((a.getD 8 0 == b.getD 8 0) && (a.getD 9 0 == b.getD 9 0)))))))))
theorem key_wy (a b:List Int):yG Try.prog 110 (.agg (kcI a)) (.agg (kcI b))=some (eqKI a b):=by
 have h2:XN Try.prog 20 110=some [some .i64,some .i64,some .i64,some .i64,some .i64,some .i64,some .i64,some .i64,some .i64,some .i64]:=by kernel_rfl
 have h1:Try.prog.underlying 110=some (.array 10 3):=by kernel_rfl
 simp only [yG,h1,h2,Option.bind_some,kcI,XX,beq_self_eq_true,Bool.and_true,if_true,Option.map_some]
 rfl
theorem QaT {a b:List Int} (ha:a.length=10) (hb:b.length=10):eqKI a b=true ↔ a=b:=by
 match a,ha,b,hb with
 | [a0,a1,a2,a3,a4,a5,a6,a7,a8,a9],_,[b0,b1,b2,b3,b4,b5,b6,b7,b8,b9],_=>simp [eqKI]
def Ws (l:List (List Int × Option (List Int))) (k:List Int):Bool:=l.any fun e=>eqKI k e.1
theorem QaE {α:Type} (c:α→AV):∀ {l:List α} {i:Nat} {e:α},l[i]?=some e→(l.flatMap fun x=>[c x])[i]?=some (c e)
 | [],i,e,h=>by simp at h
 | x :: l,0,e,h=>by simp at h; subst h; rfl
 | x :: l,i+1,e,h=>by
  have:=QaE c (l:=l) (i:=i) (e:=e) (by simpa using h)
  simpa using this
theorem Kf {α:Type} (c:α→AV) {l:List α} {i:Nat}:(l.flatMap fun x=>[c x]).take i=(l.take i).flatMap fun x=>[c x]:=by
 induction l generalizing i with
 | nil=>simp
 | cons x l ih =>
  cases i with
  | zero=>simp
  | succ i=>simp only [List.flatMap_cons,List.cons_append,List.nil_append,List.take_succ_cons,ih]
theorem Ka {l:List (List Int × Option (List Int))} {k:List Int} (hh:Ws l k=false):Ym Try.prog 110 (.agg (kcI k)) (Xo l):=by
 intro c hc
 obtain ⟨e,he,hc⟩:=List.mem_flatMap.1 hc
 simp only [cWyE,List.mem_singleton] at hc
 subst hc
 refine ⟨_,_,rfl,?_⟩
 rw [key_wy]
 have:=List.any_eq_false.1 hh e he
 simpa using this
def WyAt (l:List (List Int × Option (List Int))) (k:List Int) (i:Nat) (e:List Int × Option (List Int)):Prop:=l[i]?=some e∧eqKI k e.1=true∧Ws (l.take i) k=false
theorem wyAt {l:List (List Int × Option (List Int))} {k:List Int} {i:Nat} {e:List Int × Option (List Int)} (hh:WyAt l k i e):yh Try.prog 110 (.agg (kcI k)) (Xo l) i (cOI1 e.2):=by
 obtain ⟨h1,h2,h3⟩:=hh
 refine ⟨_,QaE cWyE1 h1,?_,?_⟩
 · rw [key_wy,h2]
 · rw [show (Xo l).take i=Xo (l.take i) from Kf cWyE1]; exact Ka h3
def cKnE1 (e:Int × Int):AV:=.clos 0 [.int .i64 e.1] [.int .i64 e.2]
def cKnE (e:Int × Int):List AV:=[cKnE1 e]
def Yb (l:List (Int × Int)):List AV:=l.flatMap cKnE
theorem key_kn (a b:Int):yG Try.prog 3 (.int .i64 a) (.int .i64 b)=some (a == b):=by
 have h1:Try.prog.underlying 3=some (.int .i64):=by kernel_rfl
 simp [yG,h1]
def KU (l:List (Int × Int)) (k:Int):Bool:=l.any fun e=>k == e.1
theorem knNew {l:List (Int × Int)} {k:Int} (hh:KU l k=false):Ym Try.prog 3 (.int .i64 k) (Yb l):=by
 intro c hc
 obtain ⟨e,he,hc⟩:=List.mem_flatMap.1 hc
 simp only [cKnE,List.mem_singleton] at hc
 subst hc
 refine ⟨_,_,rfl,?_⟩
 rw [key_kn]
 have:=List.any_eq_false.1 hh e he
 simpa using this
def KnAt (l:List (Int × Int)) (k:Int) (i:Nat) (e:Int × Int):Prop:=l[i]?=some e∧k=e.1∧KU (l.take i) k=false
theorem knAt {l:List (Int × Int)} {k:Int} {i:Nat} {e:Int × Int} (hh:KnAt l k i e):yh Try.prog 3 (.int .i64 k) (Yb l) i (.int .i64 e.2):=by
 obtain ⟨h1,h2,h3⟩:=hh
 refine ⟨_,QaE cKnE1 h1,?_,?_⟩
 · rw [key_kn,h2]; simp
 · rw [show (Yb l).take i=Yb (l.take i) from Kf cKnE1]; exact knNew h3
theorem f63b:Try.f63.body=some (Qh Try.prog 63):=by kernel_rfl
theorem u63 {a c k:List AV} {r:AV} (h:Pure Try.prog 63 (a++c++k) r):Qd Try.prog (.clos 63 a k) c r:=QQ Try.func63 (by kernel_rfl) f63b h
theorem p63_start_0 (b:Int) (c:Cir) (be:Bk) {E:Env} {res:AV} (hE:Qn Try.prog 63 res E) (ho:AllP [0≤b∧b<(c.blocks.length:Int),((Qk c.blocks).drop ((0+(Int.toNat b)*4)+3)).take 1=[.bool be.walk]])
 (hr:AvLe (.bool (!be.walk)) res):G Try.prog E [.code (Qh Try.prog 63)] ⟨[.int .i64 b,.rptr [.rsl (Qk c.blocks) 0 c.blocks.length,.rsl (rowI c.cars) 0 c.cars.length] 0]++unds (Try.f63.ntmps - 2),[]⟩ :=
 Qf (n:=400) (evs:=[.auto,.ld (.bool be.walk)]) (obs:=_) hE Try.func63 Ql (by kernel_rfl) ho hr
theorem f63W (b:Int) (c:Cir) {E:Env} {rv:Bool} (hE:Qn Try.prog 63 (.bool rv) E)
 (h:(0≤b∧(∃ be:Bk,c.blocks[Int.toNat b]?=some be∧rv=(!be.walk)))):G Try.prog E [.code (Qh Try.prog 63)] ⟨[.int .i64 b,.rptr [.rsl (Qk c.blocks) 0 c.blocks.length,.rsl (rowI c.cars) 0 c.cars.length] 0]++unds (Try.f63.ntmps - 2),[]⟩:=by
 obtain ⟨h2,h⟩:=h
 obtain ⟨be,h1,h⟩:=h
 exact p63_start_0 b c be hE ⟨(QG h2 h1),(rp cBk 4 3 1 h1),trivial⟩ (AvLe.of_eq (by rw [h]; try rfl))
theorem noWalk_ok (b:Int) (c:Cir) (h:InC c b):Pure Try.prog 63 [.int .i64 b,.rptr [.rsl (Qk c.blocks) 0 c.blocks.length,.rsl (rowI c.cars) 0 c.cars.length] 0] (.bool (!((bkAt c b).walk))):=QT Try.func63 f63b fun E hE =>
 f63W b c (rv:=!((bkAt c b).walk)) hE ⟨h.1,_,QaW h,rfl⟩
theorem f86b:Try.f86.body=some (Qh Try.prog 86):=by kernel_rfl
theorem u86 {a c k:List AV} {r:AV} (h:Pure Try.prog 86 (a++c++k) r):Qd Try.prog (.clos 86 a k) c r:=QQ Try.func86 (by kernel_rfl) f86b h
def f86K0 (P:Program):List Item:=kAt 400 [.code (Qh P 86)] [.stop]
def f86S0 (l:(List Int)) (c:Cir) (i:Nat):St:=⟨([.rsl (rowI l) 0 l.length,.clos 63 [] [.rptr [.rsl (Qk c.blocks) 0 c.blocks.length,.rsl (rowI c.cars) 0 c.cars.length] 0]]++jj 5 ([.int .i64 (l.length:Int),.int .i64 (i:Int)]++Js 10)),[]⟩
def f86G0 (E:Env) (l:(List Int)) (c:Cir) (i:Nat):Prop:=G Try.prog E (f86K0 Try.prog) (f86S0 l c i )
abbrev z86_1 (c:Cir):List AV:=[.rptr [.rsl (Qk c.blocks) 0 c.blocks.length,.rsl (rowI c.cars) 0 c.cars.length] 0]
theorem p86_start_0 (l:(List Int)) (c:Cir) {E:Env} {rv:AV} (hE:Qn Try.prog 86 rv E) (ho:AllP [])
 (hg:G Try.prog E (f86K0 Try.prog) ⟨([.rsl (rowI l) 0 l.length,.clos 63 [] (z86_1 c)]++jj 5 ([.int .i64 (l.length:Int),.int .i64 0]++Js 10)),[]⟩):G Try.prog E [.code (Qh Try.prog 86)] ⟨[.rsl (rowI l) 0 l.length,.clos 63 [] (z86_1 c)]++unds (Try.f86.ntmps - 2),[]⟩ :=
 Qg (n:=400) (ds:=[]) (cs:=[]) (live:=[0,1,7,8]) (m:=0) (evs:=[.stop]) (obs:=_) hE.2.1 (hE.nogh _) Ql (by kernel_rfl) ho hg
theorem f86W (l:(List Int)) (c:Cir) {E:Env} {rv:Int} (hE:Qn Try.prog 86 (.int .i64 rv) E)
 (h:f86G0 E l c 0):G Try.prog E [.code (Qh Try.prog 86)] ⟨[.rsl (rowI l) 0 l.length,.clos 63 [] [.rptr [.rsl (Qk c.blocks) 0 c.blocks.length,.rsl (rowI c.cars) 0 c.cars.length] 0]]++unds (Try.f86.ntmps - 2),[]⟩:=by
 exact p86_start_0 l c hE trivial h
theorem p86_0_0 (l:(List Int)) (c:Cir) (i:Nat) (e:Int) {E:Env} {res:AV} (hE:Qn Try.prog 86 res E) (ho:AllP [(decide ((i:Int)<(l.length:Int)))=true,0≤(i:Int)∧(i:Int)<(l.length:Int),((rowI l).drop (0+(Int.toNat (i:Int))*1)).take 1=[.int .i64 e],Qd Try.prog (.clos 63 [] (z86_1 c)) [.int .i64 e] (.bool (!((bkAt c e).walk))),(!((bkAt c e).walk))=true])
 (hr:AvLe (.int .i64 (i:Int)) res):G Try.prog E (f86K0 Try.prog) (f86S0 l c i ) :=
 Qf (n:=400) (evs:=[.b true,.ld (.int .i64 e),.v (.bool (!((bkAt c e).walk))),.b true]) (obs:=_) hE Try.func86 Ql (by kernel_rfl) ho hr
theorem p86_0_1 (l:(List Int)) (c:Cir) (i:Nat) (e:Int) {E:Env} {rv:AV} (hE:Qn Try.prog 86 rv E) (ho:AllP [(decide ((i:Int)<(l.length:Int)))=true,0≤(i:Int)∧(i:Int)<(l.length:Int),((rowI l).drop (0+(Int.toNat (i:Int))*1)).take 1=[.int .i64 e],Qd Try.prog (.clos 63 [] (z86_1 c)) [.int .i64 e] (.bool (!((bkAt c e).walk))),(!((bkAt c e).walk))=false,InR .i64 ((i:Int)+1)])
 (hg:G Try.prog E (f86K0 Try.prog) ⟨([.rsl (rowI l) 0 l.length,.clos 63 [] (z86_1 c)]++jj 5 ([.int .i64 (l.length:Int),.int .i64 ((i:Int)+1)]++Js 10)),[]⟩):G Try.prog E (f86K0 Try.prog) (f86S0 l c i ) :=
 Qg (n:=400) (ds:=[]) (cs:=[]) (live:=[0,1,7,8]) (m:=0) (evs:=[.b true,.ld (.int .i64 e),.v (.bool (!((bkAt c e).walk))),.b false,.stop]) (obs:=_) hE.2.1 (hE.nogh _) Ql (by kernel_rfl) ho hg
theorem p86_0_2 (l:(List Int)) (c:Cir) (i:Nat) {E:Env} {res:AV} (hE:Qn Try.prog 86 res E) (ho:AllP [(decide ((i:Int)<(l.length:Int)))=false])
 (hr:AvLe (.int .i64 (-1)) res):G Try.prog E (f86K0 Try.prog) (f86S0 l c i ) :=
 Qf (n:=400) (evs:=[.b false]) (obs:=_) hE Try.func86 Ql (by kernel_rfl) ho hr
theorem f86W0 (l:(List Int)) (c:Cir) (i:Nat) {E:Env} {rv:Int} (hE:Qn Try.prog 86 (.int .i64 rv) E)
 (h:(((i:Int)<(l.length:Int)→(∃ e:Int,l[i]?=some e∧((InC c e)∧((((bkAt c e).walk)=false→rv=(i:Int))∧(((bkAt c e).walk)=true→((I6 ((i:Int)+1))∧f86G0 E l c (i+1)))))))∧(¬ ((i:Int)<(l.length:Int))→rv=(-1)))):f86G0 E l c i:=by
 rcases bft (decide ((i:Int)<(l.length:Int))) with hc0 | hc0
 · have h:=h.1 (odt hc0)
   obtain ⟨e,h1,h⟩:=h
   obtain ⟨h2,h⟩:=h
   rcases bft (!((bkAt c e).walk)) with hc1 | hc1
   · have h:=h.1 (bnT hc1)
     exact p86_0_0 l c i e hE ⟨hc0,(Qp h1),(rp cI 1 0 1 h1),(u63 (noWalk_ok e c h2)),hc1,trivial⟩ (AvLe.of_eq (by rw [h]; try rfl))
   · have h:=h.2 (bnF hc1)
     obtain ⟨q6_2,h⟩:=h
     exact p86_0_1 l c i e hE ⟨hc0,(Qp h1),(rp cI 1 0 1 h1),(u63 (noWalk_ok e c h2)),hc1,q6_2,trivial⟩ h
 · have h:=h.2 (odf hc0)
   exact p86_0_2 l c i hE ⟨hc0,trivial⟩ (AvLe.of_eq (by rw [h]; try rfl))
theorem idxW_ok (l:List Int) (c:Cir) (h:(∀ b ∈ l,InC c b)∧l.length≤9223372036854775807):Pure Try.prog 86 [.rsl (rowI l) 0 l.length,.clos 63 [] [.rptr [.rsl (Qk c.blocks) 0 c.blocks.length,.rsl (rowI c.cars) 0 c.cars.length] 0]] (.int .i64 (idxG (fun b=>!((bkAt c b).walk)) l)):=QT Try.func86 f86b fun E hE=>by
 have key:=VW (fun b=>!((bkAt c b).walk)) l l.length 0 (by omega) (fun j x hj=>by omega) (fun i=>f86G0 E l c i) (fun i hi h1 h2=>by
  have hx:=getD_some (d:=0) hi
  refine f86W0 l c i (rv:=idxG (fun b=>!((bkAt c b).walk)) l) hE ⟨fun _=>⟨_,hx,h.1 _ (List.mem_of_getElem? hx),fun hw=>h1 _ hx (by rw [hw]; rfl),fun hw=>⟨by omega,h2 _ hx (by rw [hw]; rfl)⟩⟩,fun hn=>by omega⟩) (fun _ hi=>f86W0 l c l.length (rv:=idxG (fun b=>!((bkAt c b).walk)) l) hE ⟨fun h=>by omega,fun _=>hi⟩)
 exact f86W l c (rv:=idxG (fun b=>!((bkAt c b).walk)) l) hE key
theorem f62b:Try.f62.body=some (Qh Try.prog 62):=by kernel_rfl
theorem u62 {a c k:List AV} {r:AV} (h:Pure Try.prog 62 (a++c++k) r):Qd Try.prog (.clos 62 a k) c r:=QQ Try.func62 (by kernel_rfl) f62b h
theorem p62_start_0 (l:(List Int)) (c:Cir) {E:Env} {res:AV} (hE:Qn Try.prog 62 res E) (ho:AllP [Qd Try.prog (.clos 86 [] []) [.rsl (rowI l) 0 l.length,.clos 63 [] [.rptr [.rsl (Qk c.blocks) 0 c.blocks.length,.rsl (rowI c.cars) 0 c.cars.length] 0]] (.int .i64 (idxG (fun b=>!((bkAt c b).walk)) l))])
 (hr:AvLe (.bool (decide ((idxG (fun b=>!((bkAt c b).walk)) l)≥0))) res):G Try.prog E [.code (Qh Try.prog 62)] ⟨[.rsl (rowI l) 0 l.length,.clos 63 [] [.rptr [.rsl (Qk c.blocks) 0 c.blocks.length,.rsl (rowI c.cars) 0 c.cars.length] 0]]++unds (Try.f62.ntmps - 2),[]⟩ :=
 Qf (n:=400) (evs:=[.v (.int .i64 (idxG (fun b=>!((bkAt c b).walk)) l))]) (obs:=_) hE Try.func62 Ql (by kernel_rfl) ho hr
theorem f62W (l:(List Int)) (c:Cir) {E:Env} {rv:Bool} (hE:Qn Try.prog 62 (.bool rv) E)
 (h:(((∀ b ∈ l,InC c b)∧l.length≤9223372036854775807)∧rv=(decide ((idxG (fun b=>!((bkAt c b).walk)) l)≥0)))):G Try.prog E [.code (Qh Try.prog 62)] ⟨[.rsl (rowI l) 0 l.length,.clos 63 [] [.rptr [.rsl (Qk c.blocks) 0 c.blocks.length,.rsl (rowI c.cars) 0 c.cars.length] 0]]++unds (Try.f62.ntmps - 2),[]⟩:=by
 obtain ⟨h1,h⟩:=h
 exact p62_start_0 l c hE ⟨(u86 (idxW_ok l c h1)),trivial⟩ (AvLe.of_eq (by rw [h]; try rfl))
theorem QaZ (l:List Int) (c:Cir) (h:(∀ b ∈ l,InC c b)∧l.length≤9223372036854775807):Pure Try.prog 62 [.rsl (rowI l) 0 l.length,.clos 63 [] [.rptr [.rsl (Qk c.blocks) 0 c.blocks.length,.rsl (rowI c.cars) 0 c.cars.length] 0]] (.bool (l.any (fun b=>!((bkAt c b).walk)))):=QT Try.func62 f62b fun E hE =>
 f62W l c (rv:=l.any (fun b=>!((bkAt c b).walk))) hE ⟨h,(WJ _ l).symm⟩
theorem p64n_start_0 {E:Env} {res:AV} (hE:Qn Try.prog 64 res E) (ho:AllP [true=true])
 (hr:AvLe (.nilSl) res):G Try.prog E [.code (Qh Try.prog 64)] ⟨[.nilSl]++unds (Try.f64.ntmps - 1),[]⟩ :=
 Qf (n:=400) (evs:=[.b true]) (obs:=_) hE Try.func64 Ql (by kernel_rfl) ho hr
theorem f64nW {E:Env} {rv:AV} (hE:Qn Try.prog 64 rv E)
 (h:rv=.nilSl):G Try.prog E [.code (Qh Try.prog 64)] ⟨[.nilSl]++unds (Try.f64.ntmps - 1),[]⟩:=by
 exact p64n_start_0 hE ⟨rfl,trivial⟩ (AvLe.of_eq (by rw [h]; try rfl))
theorem f64b:Try.f64.body=some (Qh Try.prog 64):=by kernel_rfl
theorem u64 {a c k:List AV} {r:AV} (h:Pure Try.prog 64 (a++c++k) r):Qd Try.prog (.clos 64 a k) c r:=QQ Try.func64 (by kernel_rfl) f64b h
theorem p64_start_0 (l:(List Int)) {E:Env} {res:AV} {bs2:List Blk} (hE:LentE Try.prog 64 [] res bs2 E) (ho:AllP [l.length ≠ 0,false=false,0=0,0=0,(0+l.length)≤2147483648,((rowI l).drop 0).take (l.length*1)=(rowI l),(rowI l).length=(l.length*1),noRefs (rowI l)=true])
 (hr:(.sl 0 1 0 (0+l.length) 1)=res) (hb:[⟨true,1,1,true,(rowI l),true⟩]=bs2):G Try.prog E [.code (Qh Try.prog 64)] ⟨[.rsl (rowI l) 0 l.length]++unds (Try.f64.ntmps - 1),[]⟩ :=
 XK (n:=400) (live:=[2]) (m:=1) (evs:=[.b false,.cs (rowI l)]) (obs:=_) hE (hE.nogh0 _) Try.func64 Ql (by kernel_rfl) ho hr hb
theorem f64W (l:(List Int)) {E:Env} {rv:Unit} {l2:List Int} (hE:LentE Try.prog 64 [] (.sl 0 1 0 l2.length 1) [⟨true,1,1,true,(rowI l2),true⟩] E)
 (h:(l.length ≠ 0∧((0+l.length)≤2147483648∧l2=l))):G Try.prog E [.code (Qh Try.prog 64)] ⟨[.rsl (rowI l) 0 l.length]++unds (Try.f64.ntmps - 1),[]⟩:=by
 obtain ⟨q0_0,h⟩:=h
 obtain ⟨h1,h⟩:=h
 have qe0:=h
 exact p64_start_0 l hE ⟨q0_0,rfl,rfl,rfl,h1,(by exact QL cI (fun _=>rfl) l),(by exact Qv cI (fun _=>rfl) l),(by exact QS cI (fun _=>rfl) l),trivial⟩ (by rw [qe0]; rw [(show (0+l.length)=l.length from by simp)]; try rfl) (by rw [qe0]; all_goals (first | rfl | (simp only [List.length_set]; done) | (simp only [List.length_set]; rfl)))
theorem f65b:Try.f65.body=some (Qh Try.prog 65):=by kernel_rfl
theorem u65 {a c k:List AV} {r:AV} (h:Pure Try.prog 65 (a++c++k) r):Qd Try.prog (.clos 65 a k) c r:=QQ Try.func65 (by kernel_rfl) f65b h
def f65K0 (P:Program):List Item:=kAt 400 [.code (Qh P 65)] [.stop]
def f65S0 (l:(List Int)) (n:Int) (i:Nat):St:=⟨([.rsl (rowI l) 0 l.length,J,J,.int .i64 n,.int .i64 (i:Int)]++Js 14),[]⟩
def f65G0 (E:Env) (l:(List Int)) (n:Int) (i:Nat):Prop:=G Try.prog E (f65K0 Try.prog) (f65S0 l n i )
theorem p65_start_0 (l:(List Int)) {E:Env} {rv:AV} (hE:Qn Try.prog 65 rv E) (ho:AllP [])
 (hg:G Try.prog E (f65K0 Try.prog) ⟨([.rsl (rowI l) 0 l.length,J,J,.int .i64 0,.int .i64 0]++Js 14),[]⟩):G Try.prog E [.code (Qh Try.prog 65)] ⟨[.rsl (rowI l) 0 l.length]++unds (Try.f65.ntmps - 1),[]⟩ :=
 Qg (n:=400) (ds:=[]) (cs:=[]) (live:=[0,3,4]) (m:=0) (evs:=[.stop]) (obs:=_) hE.2.1 (hE.nogh _) Ql (by kernel_rfl) ho hg
theorem f65W (l:(List Int)) {E:Env} {rv:Int} (hE:Qn Try.prog 65 (.int .i64 rv) E)
 (h:f65G0 E l 0 0):G Try.prog E [.code (Qh Try.prog 65)] ⟨[.rsl (rowI l) 0 l.length]++unds (Try.f65.ntmps - 1),[]⟩:=by
 exact p65_start_0 l hE trivial h
theorem p65_0_0 (l:(List Int)) (n:Int) (i:Nat) (e:Int) {E:Env} {rv:AV} (hE:Qn Try.prog 65 rv E) (ho:AllP [(decide ((i:Int)<(l.length:Int)))=true,InR .i64 (n*12),0≤(i:Int)∧(i:Int)<(l.length:Int),((rowI l).drop (0+(Int.toNat (i:Int))*1)).take 1=[.int .i64 e],InR .i64 ((n*12)+e),InR .i64 ((i:Int)+1)])
 (hg:G Try.prog E (f65K0 Try.prog) ⟨([.rsl (rowI l) 0 l.length,J,J,.int .i64 ((n*12)+e),.int .i64 ((i:Int)+1)]++Js 14),[]⟩):G Try.prog E (f65K0 Try.prog) (f65S0 l n i ) :=
 Qg (n:=400) (ds:=[]) (cs:=[]) (live:=[0,3,4]) (m:=0) (evs:=[.b true,.ld (.int .i64 e),.stop]) (obs:=_) hE.2.1 (hE.nogh _) Ql (by kernel_rfl) ho hg
theorem p65_0_1 (l:(List Int)) (n:Int) (i:Nat) {E:Env} {res:AV} (hE:Qn Try.prog 65 res E) (ho:AllP [(decide ((i:Int)<(l.length:Int)))=false])
 (hr:AvLe (.int .i64 n) res):G Try.prog E (f65K0 Try.prog) (f65S0 l n i ) :=
 Qf (n:=400) (evs:=[.b false]) (obs:=_) hE Try.func65 Ql (by kernel_rfl) ho hr
theorem f65W0 (l:(List Int)) (n:Int) (i:Nat) {E:Env} {rv:Int} (hE:Qn Try.prog 65 (.int .i64 rv) E)
 (h:(((i:Int)<(l.length:Int)→((I6 (n*12))∧(∃ e:Int,l[i]?=some e∧((I6 ((n*12)+e))∧((I6 ((i:Int)+1))∧f65G0 E l ((n*12)+e) (i+1))))))∧(¬ ((i:Int)<(l.length:Int))→rv=n))):f65G0 E l n i:=by
 rcases bft (decide ((i:Int)<(l.length:Int))) with hc0 | hc0
 · have h:=h.1 (odt hc0)
   obtain ⟨q1_1,h⟩:=h
   obtain ⟨e,h1,h⟩:=h
   obtain ⟨q5_1,h⟩:=h
   obtain ⟨q6_1,h⟩:=h
   exact p65_0_0 l n i e hE ⟨hc0,q1_1,(Qp h1),(rp cI 1 0 1 h1),q5_1,q6_1,trivial⟩ h
 · have h:=h.2 (odf hc0)
   exact p65_0_1 l n i hE ⟨hc0,trivial⟩ (AvLe.of_eq (by rw [h]; try rfl))
theorem cloneN_ok:Pure Try.prog 64 [.nilSl] .nilSl:=QT Try.func64 f64b fun E hE=>f64nW (rv:=.nilSl) hE rfl
theorem clone_ok (l:List Int) (h:l ≠ []∧l.length≤2147483648):Lent Try.prog 64 [.rsl (rowI l) 0 l.length] [] (.sl 0 1 0 l.length 1) [⟨true,1,1,true,(rowI l),true⟩]:=lent_of0 Try.func64 f64b fun E hE =>
 f64W l (rv:=()) hE ⟨fun e=>h.1 (List.length_eq_zero_iff.1 e),by omega,rfl⟩
def keyF (n x:Int):Int:=n*12+x
def keyI (l:List Int):Int:=l.foldl keyF 0
theorem keyF_bd {l:List Int}:∀ {m:Nat} {n:Int},(∀ x ∈ l,0≤x∧x≤11)→0≤n→n<12 ^ m→0≤l.foldl keyF n∧l.foldl keyF n<12 ^ (m+l.length):=by
 induction l with
 | nil=>intro m n _ h1 h2; exact ⟨h1,h2⟩
 | cons x l ih =>
  intro m n hx h1 h2
  have h3:=hx x (by simp)
  have:=ih (m:=m+1) (n:=keyF n x) (fun y hy=>hx y (by simp [hy])) (by unfold keyF; omega) (by unfold keyF; rw [Int.pow_succ]; omega)
  rw [List.foldl_cons,List.length_cons,show m+(l.length+1)=m+1+l.length by omega]
  exact this
theorem qW (l:List Int) (h:l.length≤12∧∀ x ∈ l,0≤x∧x≤11):Pure Try.prog 65 [.rsl (rowI l) 0 l.length] (.int .i64 (keyI l)):=QT Try.func65 f65b fun E hE=>by
 have key:∀ (d i:Nat),i+d=l.length→f65G0 E l ((l.take i).foldl keyF 0) i:=by
  intro d
  induction d with
  | zero=>intro i hi; exact f65W0 l _ i (rv:=keyI l) hE ⟨fun h=>by omega,fun _=>by rw [keyI,List.take_of_length_le (by omega)]⟩
  | succ d ih =>
   intro i hi
   have hx:=getD_some (d:=0) (show i<l.length by omega)
   have nx:=ih (i+1) (by omega)
   rw [Vh hx] at nx
   have b1:=keyF_bd (l:=l.take i) (m:=0) (n:=0) (fun x hx=>h.2 x (List.mem_of_mem_take hx)) (by omega) (by decide)
   have b2:(12:Int) ^ (0+(l.take i).length)≤743008370688:=by
    have:(l.take i).length<12:=by rw [List.length_take]; omega
    rw [Nat.zero_add]
    exact (show ∀ m:Nat,m<12→(12:Int) ^ m≤743008370688 by decide) _ this
   have b4:=h.2 _ (List.mem_of_getElem? hx)
   exact f65W0 l _ i (rv:=keyI l) hE ⟨fun _=>⟨by omega,_,hx,by omega,by omega,nx⟩,fun h=>by omega⟩
 exact f65W l (rv:=keyI l) hE (key l.length 0 (by omega))
theorem keyF_inj:∀ {a b:List Int} {n m:Int},a.length=b.length→(∀ x ∈ a,0≤x∧x≤11)→(∀ x ∈ b,0≤x∧x≤11)→a.foldl keyF n=b.foldl keyF m→a=b∧n=m
 | [],[],n,m,_,_,_,h=>⟨rfl,h⟩
 | x :: a,y :: b,n,m,hl,ha,hb,h=>by
  simp only [List.foldl_cons] at h
  obtain ⟨e1,e2⟩:=keyF_inj (by simpa using hl) (fun z hz=>ha z (by simp [hz])) (fun z hz=>hb z (by simp [hz])) h
  have h1:=ha x (by simp)
  have h2:=hb y (by simp)
  unfold keyF at e2
  exact ⟨by rw [e1,show x=y by omega],by omega⟩
 | [],y :: b,_,_,hl,_,_,_=>by simp at hl
 | x :: a,[],_,_,hl,_,_,_=>by simp at hl
end Go.Proofs.Ytgdfkjjgdkejfaa
namespace Go.Proofs.Ytgdfkjjgdkejfaa
open Go Ax
open Go.Proofs
theorem keyI_inj {N L:Nat} {p q:List Int} (hp:Plc N L p) (hq:Plc N L q) (hN:N≤12) (h:keyI p=keyI q):p=q :=
 (keyF_inj (by rw [hp.len,hq.len]) (fun x hx=>by obtain ⟨i,hi,rfl⟩:=VD.1 hx; have:=hp.rng i (by rw [← hp.len]; exact hi); omega) (fun x hx=>by obtain ⟨i,hi,rfl⟩:=VD.1 hx; have:=hq.rng i (by rw [← hq.len]; exact hi); omega) h).1
theorem plc_bd {N L:Nat} {p:List Int} (hp:Plc N L p) (hN:N≤12) (hL:L≤10):p.length≤12∧∀ x ∈ p,0≤x∧x≤11:=⟨by rw [hp.len]; omega,fun x hx=>by
 obtain ⟨i,hi,rfl⟩:=VD.1 hx
 have:=hp.rng i (by rw [← hp.len]; exact hi); omega⟩
/-- Ten places. -/
def padI (l:List Int):List Int:=l++List.replicate (10 - l.length) 0
theorem YI {l:List Int} (h:l.length≤10):(padI l).length=10:=by simp [padI]; omega
theorem padI_inj {a b:List Int} (hl:a.length=b.length) (h:padI a=padI b):a=b:=by
 unfold padI at h
 exact (List.append_inj h hl).1
theorem padI_get {l:List Int} {k:Nat} (h:k<l.length):(padI l)[k]?=some (l.getD k 0):=by
 rw [padI,List.getElem?_append_left h]; exact getD_some h
theorem padI_set {l:List Int} {k:Nat} {x:Int} (h:k<l.length):(padI l).set k x=padI (l.set k x):=by
 unfold padI
 rw [List.set_append_left _ _ h,List.length_set]
theorem Kj {l:List Int} {k:Nat} (h:l.length=k):(padI l).take k=l:=by
 subst h; simp [padI]
theorem padI_at {l:List Int} {k:Nat} (h:k<l.length) (h10:l.length≤10):(padI (l.take k))[k]?=some 0:=by
 rw [padI,List.getElem?_append_right (by simp; omega),List.getElem?_replicate,if_pos (by simp; omega)]
theorem padI_next {l:List Int} {k:Nat} {x:Int} (hx:l[k]?=some x) (h10:l.length≤10):(padI (l.take k)).set k x=padI (l.take (k+1)):=by
 have hk:=(List.getElem?_eq_some_iff.1 hx).1
 have e1:(l.take k).length=k:=by simp; omega
 have e2:(l.take (k+1)).length=k+1:=by simp; omega
 unfold padI
 rw [List.set_append_right _ _ (by omega),e1,e2,Nat.sub_self,show 10 - k=(10 - (k+1))+1 by omega,List.replicate_succ,List.set_cons_zero,List.take_add_one,hx]
 simp
/-- The program's map,and the reference's. -/
def wayO (j:Nat) (l:List Int):Option (List Int):=if j=0 then none else some l
def VS (s:PL) (n:Nat):List (List Int × Option (List Int)):=(List.range n).map fun j=>(padI (s.1.getD j []),wayO j (s.2.getD j []))
def knK (s:PL) (n:Nat):List (Int × Int):=(List.range n).map fun j=>(keyI (s.1.getD j []),1)
theorem ways_succ {s:PL} {n:Nat}:VS s (n+1)=VS s n++[(padI (s.1.getD n []),wayO n (s.2.getD n []))]:=by rw [VS,List.range_succ]; simp [VS]
theorem kn_succ {s:PL} {n:Nat}:knK s (n+1)=knK s n++[(keyI (s.1.getD n []),1)]:=by rw [knK,List.range_succ]; simp [knK]
theorem ways_congr {s s':PL} {n:Nat} (h:∀ j,j<n→s.1.getD j []=s'.1.getD j []∧s.2.getD j []=s'.2.getD j []):VS s n=VS s' n:=by
 unfold VS
 refine List.map_congr_left fun j hj=>?_
 rw [List.mem_range] at hj
 rw [(h j hj).1,(h j hj).2]
theorem kn_congr {s s':PL} {n:Nat} (h:∀ j,j<n→s.1.getD j []=s'.1.getD j []∧s.2.getD j []=s'.2.getD j []):knK s n=knK s' n:=by
 unfold knK
 refine List.map_congr_left fun j hj=>?_
 rw [List.mem_range] at hj
 rw [(h j hj).1]
theorem mem_ps {ps:List (List Int)} {q:List Int}:q ∈ ps ↔ ∃ j,j<ps.length∧ps.getD j []=q:=by
 constructor
 · intro h
   obtain ⟨i,hi⟩:=List.getElem?_of_mem h
   exact ⟨i,(List.getElem?_eq_some_iff.1 hi).1,Wd hi⟩
 · rintro ⟨i,hi,rfl⟩
   exact List.mem_of_getElem? (getD_some (d:=[]) hi)
theorem yK {N L:Nat} {b0:List Int} {s:PL} (h:BInv N L b0 s) (hL:L≤10) {q:List Int} (hq:q.length=L) {n:Nat} (hn:n≤s.1.length):Ws (VS s n) (padI q)=true ↔ ∃ j,j<n∧s.1.getD j []=q:=by
 rw [Ws,List.any_eq_true]
 have hpl:∀ j,j<n→(s.1.getD j []).length=L:=fun j hj=>(h.plc _ (List.mem_of_getElem? (getD_some (d:=[]) (show j<s.1.length by omega)))).1.len
 constructor
 · rintro ⟨e,he,hk⟩
   obtain ⟨j,hj,rfl⟩:=List.mem_map.1 he
   rw [List.mem_range] at hj
   have:=(QaT (YI (by omega)) (YI (by rw [hpl j hj]; exact hL))).1 hk
   exact ⟨j,hj,(padI_inj (by rw [hq,hpl j hj]) this).symm⟩
 · rintro ⟨j,hj,rfl⟩
   exact ⟨_,List.mem_map.2 ⟨j,List.mem_range.2 hj,rfl⟩,(QaT (YI (by omega)) (YI (by omega))).2 rfl⟩
theorem ways_at {N L:Nat} {b0:List Int} {s:PL} (h:BInv N L b0 s) (hL:L≤10) {j:Nat} (hj:j<s.1.length):WyAt (VS s s.1.length) (padI (s.1.getD j [])) j (padI (s.1.getD j []),wayO j (s.2.getD j [])):=by
 have hlen:(s.1.getD j []).length=L:=(h.plc _ (List.mem_of_getElem? (getD_some (d:=[]) hj))).1.len
 refine ⟨?_,(QaT (YI (by omega)) (YI (by omega))).2 rfl,?_⟩
 · rw [VS,List.getElem?_map,List.getElem?_range hj]; rfl
 · have e:(VS s s.1.length).take j=VS s j:=by
    rw [VS,VS,← List.map_take,List.take_range,Nat.min_eq_left (by omega)]
   rw [e,Bool.eq_false_iff]
   intro hh
   obtain ⟨i,hi,e2⟩:=(yK h hL hlen (n:=j) (by omega)).1 hh
   have:=h.nd i j (by omega) hj e2
   omega
theorem kn_has {N L:Nat} {b0:List Int} {s:PL} (h:BInv N L b0 s) (hN:N≤12) {q:List Int} (hq:Plc N L q):KU (knK s s.1.length) (keyI q)=true ↔ q ∈ s.1:=by
 rw [KU,List.any_eq_true,mem_ps]
 constructor
 · rintro ⟨e,he,hk⟩
   obtain ⟨j,hj,rfl⟩:=List.mem_map.1 he
   rw [List.mem_range] at hj
   simp only [beq_iff_eq] at hk
   exact ⟨j,hj,(keyI_inj hq (h.plc _ (List.mem_of_getElem? (getD_some (d:=[]) hj))).1 hN hk).symm⟩
 · rintro ⟨j,hj,rfl⟩
   exact ⟨_,List.mem_map.2 ⟨j,List.mem_range.2 hj,rfl⟩,by simp⟩
theorem kn_at {N L:Nat} {b0:List Int} {s:PL} (h:BInv N L b0 s) (hN:N≤12) {j:Nat} (hj:j<s.1.length):KnAt (knK s s.1.length) (keyI (s.1.getD j [])) j (keyI (s.1.getD j []),1):=by
 have hp:=(h.plc _ (List.mem_of_getElem? (getD_some (d:=[]) hj))).1
 refine ⟨?_,rfl,?_⟩
 · rw [knK,List.getElem?_map,List.getElem?_range hj]; rfl
 · have e:(knK s s.1.length).take j=knK s j:=by
    rw [knK,knK,← List.map_take,List.take_range,Nat.min_eq_left (by omega)]
   rw [e,Bool.eq_false_iff]
   intro hh
   obtain ⟨e,he,hk⟩:=List.any_eq_true.1 hh
   obtain ⟨i,hi,rfl⟩:=List.mem_map.1 he
   rw [List.mem_range] at hi
   simp only [beq_iff_eq] at hk
   have:=keyI_inj hp (h.plc _ (List.mem_of_getElem? (getD_some (d:=[]) (show i<s.1.length by omega)))).1 hN hk
   have:=h.nd i j (by omega) hj this.symm
   omega
theorem drop_snoc {α:Type} {l:List α} {x:α} {i:Nat} (h:i≤l.length):(l++[x]).drop i=l.drop i++[x]:=by
 rw [List.drop_append,show i - l.length=0 by omega]; rfl
theorem Qay {c:Cir} {p:List Int}:(p.any (fun b=>!((bkAt c b).walk))=false) ↔ Qy c p=true:=by
 simp only [Qy,List.all_eq_true,List.any_eq_false,Bool.not_eq_true',Bool.not_eq_true,Bool.not_eq_false']
 exact ⟨fun h x hx=>by have:=h x hx; simpa using this,fun h x hx=>by have:=h x hx; simpa using this⟩
theorem push_in {N i k:Nat} {s:PL} (h1:QY N (nxtP N (s.1.getD i []) k)=true) (h2:nxtP N (s.1.getD i []) k ∉ s.1):qf N i s k=(s.1++[nxtP N (s.1.getD i []) k],s.2++[s.2.getD i []++[(k:Int)]]):=by
 rw [qf,if_pos ⟨h1,h2⟩]
theorem QaH {N i k:Nat} {s:PL} (h:¬ (QY N (nxtP N (s.1.getD i []) k)=true∧nxtP N (s.1.getD i []) k ∉ s.1)):qf N i s k=s:=by rw [qf,if_neg h]
theorem f37b:Try.f37.body=some (Qh Try.prog 37):=by kernel_rfl
theorem u37 {a c k:List AV} {r:AV} (h:Pure Try.prog 37 (a++c++k) r):Qd Try.prog (.clos 37 a k) c r:=QQ Try.func37 (by kernel_rfl) f37b h
def f37K0 (P:Program):List Item:=kAt 400 [.code (Qh P 37)] [.b false,.b false,.stop]
def f37S0 (c:Cir) (row:(List Spt)) (i:Nat) (v1:List Int):St:=⟨([J,.rsl (Qb row) 0 row.length,.ptr 0 0 0,J,J,J,J,.ptr 1 0 0]++jj 21 ([.rsl (Qb row) 0 row.length,.int .i64 (row.length:Int),.int .i64 (i:Int)]++Js 88)),[⟨true,0,1,true,[.rsl (Qk c.blocks) 0 c.blocks.length,.rsl (rowI c.cars) 0 c.cars.length],false⟩,⟨true,0,1,true,(rowI v1),false⟩]⟩
def f37G0 (E:Env) (c:Cir) (row:(List Spt)) (i:Nat) (v1:List Int):Prop:=G Try.prog E (f37K0 Try.prog) (f37S0 c row i v1 )
def f37K1 (P:Program):List Item:=kAt 400 [.code (Qh P 37)] [.b false,.b false,.b false,.stop]
def f37S1 (c:Cir) (row:(List Spt)) (v1:List Int) (v2:List ((List Int) × (Option (List Int)))) (queue:Nat) (v3:List (List Int)) (g3:Nat):St:=⟨([J,J,.ptr 0 0 0]++jj 7 ([.int .i64 (row.length:Int),.mp 2 0 false,.sl 3 g3 (queue*10) (v3.length - queue) 10]++Js 107)),[⟨true,0,1,true,[.rsl (Qk c.blocks) 0 c.blocks.length,.rsl (rowI c.cars) 0 c.cars.length],false⟩,⟨true,0,1,true,(rowI v1),false⟩,⟨true,0,0,true,(Xo v2),false⟩,⟨true,g3,10,true,(rowY v3),true⟩]⟩
def f37G1 (E:Env) (c:Cir) (row:(List Spt)) (v1:List Int) (v2:List ((List Int) × (Option (List Int)))) (queue:Nat) (v3:List (List Int)):Prop:=∀ g3:Nat,G Try.prog E (f37K1 Try.prog) (f37S1 c row v1 v2 queue v3 g3)
def qo (P:Program):List Item:=kAt 400 [.code (Qh P 37)] [.b false,.b false,.b false,.b true,.b false,.stop]
def f37S2 (c:Cir) (row:(List Spt)) (queue:Nat) (v1:List Int) (v2:List ((List Int) × (Option (List Int)))) (v3:List (List Int)) (v4:List Int) (j:Nat) (g3:Nat):St:=⟨([J,J,.ptr 0 0 0]++jj 7 ([.int .i64 (row.length:Int),.mp 2 0 false,.sl 3 g3 (queue*10) (v3.length - queue) 10,.ptr 4 0 0]++jj 62 ([.int .i64 (row.length:Int),.int .i64 (j:Int)]++Js 42))),[⟨true,0,1,true,[.rsl (Qk c.blocks) 0 c.blocks.length,.rsl (rowI c.cars) 0 c.cars.length],false⟩,⟨true,0,1,true,(rowI v1),false⟩,⟨true,0,0,true,(Xo v2),false⟩,⟨true,g3,10,true,(rowY v3),true⟩,⟨true,0,1,true,(rowI v4),false⟩]⟩
def KA (E:Env) (c:Cir) (row:(List Spt)) (queue:Nat) (v1:List Int) (v2:List ((List Int) × (Option (List Int)))) (v3:List (List Int)) (v4:List Int) (j:Nat):Prop:=∀ g3:Nat,G Try.prog E (qo Try.prog) (f37S2 c row queue v1 v2 v3 v4 j g3)
abbrev qs (c:Cir):List AV:=[.rsl (Qk c.blocks) 0 c.blocks.length,.rsl (rowI c.cars) 0 c.cars.length]
abbrev z37_2 (row:(List Spt)) (g3:Nat) (queue:Nat) (v3:List (List Int)) (j:Nat):List AV:=[J,J,.ptr 0 0 0]++jj 7 ([.int .i64 (row.length:Int),.mp 2 0 false,.sl 3 g3 (queue*10) (v3.length - queue) 10,.ptr 4 0 0]++jj 62 ([.int .i64 (row.length:Int),.int .i64 ((j:Int)+1)]++Js 42))
abbrev Qax (v4:List Int) (j:Nat) (e:Int) (c:Cir):=kcI (v4.set j (Int.tmod (e+1) (c.blocks.length:Int)))
abbrev z37_4 (c:Cir) (v1:List Int) (v2:List ((List Int) × (Option (List Int)))) (g3:Nat) (v3:List (List Int)) (v4:List Int):List Blk:=[⟨true,0,1,true,(qs c),false⟩,⟨true,0,1,true,(rowI v1),false⟩,⟨true,0,0,true,(Xo v2),false⟩,⟨true,g3,10,true,(rowY v3),true⟩,⟨true,0,1,true,(rowI v4),false⟩]
abbrev z37_5 (se:Spt):List AV:=[.int .i64 se.block,.int .i64 se.ran,.bool se.opn]
abbrev z37_6 (se:Spt) (c:Cir):AV:=.bool (Qj se.block 0 (c.blocks.length - 1))
abbrev z37_7 (le:(List Int)) (row:(List Spt)) (c:Cir):List AV:=[.rsl (kcI le) 0 (Int.toNat (row.length:Int)),.clos 63 [] [.rptr (qs c) 0]]
abbrev z37_8 (e:Int) (c:Cir):List AV:=[.int .i64 (Int.tmod (e+1) (c.blocks.length:Int))]
theorem p37_start_0 (c:Cir) (row:(List Spt)) {E:Env} {res:AV} (hE:Qn Try.prog 37 res E) (ho:AllP [Qd Try.prog (.clos 30 [] []) [.agg (qs c)] (.int .i64 (QK c)),((QK c) != 0)=true])
 (hr:AvLe (.tup [.nilSl,.int .i64 (QK c)]) res):G Try.prog E [.code (Qh Try.prog 37)] ⟨[.agg (qs c),.rsl (Qb row) 0 row.length]++unds (Try.f37.ntmps - 2),[]⟩ :=
 Qf (n:=400) (evs:=[.v (.int .i64 (QK c)),.b true]) (obs:=_) hE Try.func37 Ql (by kernel_rfl) ho hr
theorem p37_start_1 (c:Cir) (row:(List Spt)) {E:Env} {res:AV} (hE:Qn Try.prog 37 res E) (ho:AllP [Qd Try.prog (.clos 30 [] []) [.agg (qs c)] (.int .i64 (QK c)),((QK c) != 0)=false,((row.length:Int) != (c.cars.length:Int))=true])
 (hr:AvLe (.tup [.nilSl,.int .i64 1]) res):G Try.prog E [.code (Qh Try.prog 37)] ⟨[.agg (qs c),.rsl (Qb row) 0 row.length]++unds (Try.f37.ntmps - 2),[]⟩ :=
 Qf (n:=400) (evs:=[.v (.int .i64 (QK c)),.b false,.b true]) (obs:=_) hE Try.func37 Ql (by kernel_rfl) ho hr
theorem p37_start_2 (c:Cir) (row:(List Spt)) {E:Env} {rv:AV} (hE:Qn Try.prog 37 rv E) (ho:AllP [Qd Try.prog (.clos 30 [] []) [.agg (qs c)] (.int .i64 (QK c)),((QK c) != 0)=false,((row.length:Int) != (c.cars.length:Int))=false])
 (hg:G Try.prog E (f37K0 Try.prog) ⟨([J,.rsl (Qb row) 0 row.length,.ptr 0 0 0,J,J,J,J,.ptr 1 0 0]++jj 21 ([.rsl (Qb row) 0 row.length,.int .i64 (row.length:Int),.int .i64 0]++Js 88)),[⟨true,0,1,true,(qs c),false⟩,⟨true,0,1,true,[.int .i64 0,.int .i64 0,.int .i64 0,.int .i64 0,.int .i64 0,.int .i64 0,.int .i64 0,.int .i64 0,.int .i64 0,.int .i64 0],false⟩]⟩):G Try.prog E [.code (Qh Try.prog 37)] ⟨[.agg (qs c),.rsl (Qb row) 0 row.length]++unds (Try.f37.ntmps - 2),[]⟩ :=
 Qg (n:=400) (ds:=[]) (cs:=[]) (live:=[1,2,7,29,30,31]) (m:=2) (evs:=[.v (.int .i64 (QK c)),.b false,.b false,.stop]) (obs:=_) hE.2.1 (hE.nogh _) Ql (by kernel_rfl) ho hg
theorem f37W (c:Cir) (row:(List Spt)) {E:Env} {rv:((List Int) × Int)} (hE:Qn Try.prog 37 (.tup [.rsl (rowI rv.1) 0 rv.1.length,.int .i64 rv.2]) E)
 (h:((c.blocks.length≤9223372036854775807∧c.cars.length≤9223372036854775807)∧((¬ ((QK c)=0)→rv=(([]:List Int),(QK c)))∧((QK c)=0→((¬ ((row.length:Int)=(c.cars.length:Int))→rv=(([]:List Int),1))∧((row.length:Int)=(c.cars.length:Int)→f37G0 E c row 0 ([0,0,0,0,0,0,0,0,0,0]))))))):G Try.prog E [.code (Qh Try.prog 37)] ⟨[.agg [.rsl (Qk c.blocks) 0 c.blocks.length,.rsl (rowI c.cars) 0 c.cars.length],.rsl (Qb row) 0 row.length]++unds (Try.f37.ntmps - 2),[]⟩:=by
 obtain ⟨h1,h⟩:=h
 rcases bft ((QK c) != 0) with hc0 | hc0
 · have h:=h.1 (bneT hc0)
   exact p37_start_0 c row hE ⟨(u30 (YK c h1)),hc0,trivial⟩ (by rw [h]; exact (Vk ⟨Xr,⟨AvLe.of_eq rfl,trivial⟩⟩))
 · have h:=h.2 (bneF hc0)
   rcases bft ((row.length:Int) != (c.cars.length:Int)) with hc1 | hc1
   · have h:=h.1 (bneT hc1)
     exact p37_start_1 c row hE ⟨(u30 (YK c h1)),hc0,hc1,trivial⟩ (by rw [h]; exact (Vk ⟨Xr,⟨AvLe.of_eq rfl,trivial⟩⟩))
   · have h:=h.2 (bneF hc1)
     exact p37_start_2 c row hE ⟨(u30 (YK c h1)),hc0,hc1,trivial⟩ h
theorem p37_0_0 (c:Cir) (row:(List Spt)) (i:Nat) (v1:List Int) (se:Spt) {E:Env} {res:AV} (hE:Qn Try.prog 37 res E) (ho:AllP [(decide ((i:Int)<(row.length:Int)))=true,0≤(i:Int)∧(i:Int)<(row.length:Int),((Qb row).drop (0+(Int.toNat (i:Int))*3)).take 3=(z37_5 se),3≤3,Qd Try.prog (.clos 53 [] []) [.agg (qs c),.int .i64 se.block] (z37_6 se c),(!(Qj se.block 0 (c.blocks.length - 1)))=true,true=true])
 (hr:AvLe (.tup [.nilSl,.int .i64 1]) res):G Try.prog E (f37K0 Try.prog) (f37S0 c row i v1 ) :=
 Qf (n:=400) (evs:=[.b true,.ld (.agg (z37_5 se)),.v (z37_6 se c),.b true,.b true]) (obs:=_) hE Try.func37 Ql (by kernel_rfl) ho hr
theorem p37_0_1 (c:Cir) (row:(List Spt)) (i:Nat) (v1:List Int) (se:Spt) {E:Env} {res:AV} (hE:Qn Try.prog 37 res E) (ho:AllP [(decide ((i:Int)<(row.length:Int)))=true,0≤(i:Int)∧(i:Int)<(row.length:Int),((Qb row).drop (0+(Int.toNat (i:Int))*3)).take 3=(z37_5 se),3≤3,Qd Try.prog (.clos 53 [] []) [.agg (qs c),.int .i64 se.block] (z37_6 se c),(!(Qj se.block 0 (c.blocks.length - 1)))=false,0≤(Int.toNat (i:Int)),(Int.toNat (i:Int))≤10,10≤(rowI v1).length,0≤(i:Int),Qd Try.prog (.clos 54 [] []) [.rsl (rowI v1) 0 (Int.toNat (i:Int)),.int .i64 se.block] (.bool ((v1.take (Int.toNat (i:Int))).any (fun x=>se.block == x))),((v1.take (Int.toNat (i:Int))).any (fun x=>se.block == x))=true])
 (hr:AvLe (.tup [.nilSl,.int .i64 1]) res):G Try.prog E (f37K0 Try.prog) (f37S0 c row i v1 ) :=
 Qf (n:=400) (evs:=[.b true,.ld (.agg (z37_5 se)),.v (z37_6 se c),.b false,.v (.bool ((v1.take (Int.toNat (i:Int))).any (fun x=>se.block == x))),.b true]) (obs:=_) hE Try.func37 Ql (by kernel_rfl) ho hr
theorem p37_0_2 (c:Cir) (row:(List Spt)) (i:Nat) (v1:List Int) (se:Spt) (e:Int) {E:Env} {rv:AV} (hE:Qn Try.prog 37 rv E) (ho:AllP [(decide ((i:Int)<(row.length:Int)))=true,0≤(i:Int)∧(i:Int)<(row.length:Int),((Qb row).drop (0+(Int.toNat (i:Int))*3)).take 3=(z37_5 se),3≤3,Qd Try.prog (.clos 53 [] []) [.agg (qs c),.int .i64 se.block] (z37_6 se c),(!(Qj se.block 0 (c.blocks.length - 1)))=false,0≤(Int.toNat (i:Int)),(Int.toNat (i:Int))≤10,10≤(rowI v1).length,0≤(i:Int),Qd Try.prog (.clos 54 [] []) [.rsl (rowI v1) 0 (Int.toNat (i:Int)),.int .i64 se.block] (.bool ((v1.take (Int.toNat (i:Int))).any (fun x=>se.block == x))),((v1.take (Int.toNat (i:Int))).any (fun x=>se.block == x))=false,0≤(i:Int)∧(i:Int)<((10:Nat):Int),((0+(Int.toNat (i:Int))*1)+1)≤(rowI v1).length,InR .i64 ((i:Int)+1)])
 (hg:G Try.prog E (f37K0 Try.prog) ⟨([J,.rsl (Qb row) 0 row.length,.ptr 0 0 0,J,J,J,J,.ptr 1 0 0]++jj 21 ([.rsl (Qb row) 0 row.length,.int .i64 (row.length:Int),.int .i64 ((i:Int)+1)]++Js 88)),[⟨true,0,1,true,(qs c),false⟩,⟨true,0,1,true,(Qx (rowI v1) (0+(Int.toNat (i:Int))*1) [.int .i64 se.block]),false⟩]⟩):G Try.prog E (f37K0 Try.prog) (f37S0 c row i v1 ) :=
 Qg (n:=400) (ds:=[]) (cs:=[]) (live:=[1,2,7,29,30,31]) (m:=2) (evs:=[.b true,.ld (.agg (z37_5 se)),.v (z37_6 se c),.b false,.v (.bool ((v1.take (Int.toNat (i:Int))).any (fun x=>se.block == x))),.b false,.stop]) (obs:=_) hE.2.1 (hE.nogh _) Ql (by kernel_rfl) ho hg
theorem p37_0_3 (c:Cir) (row:(List Spt)) (i:Nat) (v1:List Int) {E:Env} {rv:AV} (hE:Qn Try.prog 37 rv E) (ho:AllP [(decide ((i:Int)<(row.length:Int)))=false,((rowI v1).drop 0).take 10=(kcI v1),Ym Try.prog 110 (.agg (kcI v1)) (Xo ([]:List ((List Int) × (Option (List Int))))),((rowI v1).drop 0).take 10=(kcI v1)])
 (hg:G Try.prog E (f37K1 Try.prog) ⟨([J,J,.ptr 0 0 0]++jj 7 ([.int .i64 (row.length:Int),.mp 2 0 false,.sl 3 0 0 1 10]++Js 107)),[⟨true,0,1,true,[.rsl (Qk c.blocks) 0 c.blocks.length,.rsl (rowI c.cars) 0 c.cars.length],false⟩,⟨true,0,1,true,(rowI v1),false⟩,⟨true,0,0,true,((Xo ([]:List ((List Int) × (Option (List Int)))))++[.clos 0 [.agg (kcI v1)] [.nilSl]]),false⟩,⟨true,0,10,true,[.int .i64 (v1.getD 0 0),.int .i64 (v1.getD 1 0),.int .i64 (v1.getD 2 0),.int .i64 (v1.getD 3 0),.int .i64 (v1.getD 4 0),.int .i64 (v1.getD 5 0),.int .i64 (v1.getD 6 0),.int .i64 (v1.getD 7 0),.int .i64 (v1.getD 8 0),.int .i64 (v1.getD 9 0)],true⟩]⟩):G Try.prog E (f37K0 Try.prog) (f37S0 c row i v1 ) :=
 Qg (n:=400) (ds:=[]) (cs:=[]) (live:=[2,10,11,12]) (m:=4) (evs:=[.b false,.ld (.agg (kcI v1)),.ld (.agg (kcI v1)),.stop]) (obs:=_) hE.2.1 (hE.nogh _) Ql (by kernel_rfl) ho hg
theorem f37W0 (c:Cir) (row:(List Spt)) (i:Nat) (v1:List Int) {E:Env} {rv:((List Int) × Int)} (hE:Qn Try.prog 37 (.tup [.rsl (rowI rv.1) 0 rv.1.length,.int .i64 rv.2]) E)
 (h:(((i:Int)<(row.length:Int)→(∃ se:Spt,row[i]?=some se∧((c.blocks.length≤9223372036854775807)∧(((Qj se.block 0 (c.blocks.length - 1))=false→rv=(([]:List Int),1))∧((Qj se.block 0 (c.blocks.length - 1))=true→((Int.toNat (i:Int))≤10∧(v1.length=10∧(((v1.take (Int.toNat (i:Int))).length≤9223372036854775807)∧((((v1.take (Int.toNat (i:Int))).any (fun x=>se.block == x))=true→rv=(([]:List Int),1))∧(((v1.take (Int.toNat (i:Int))).any (fun x=>se.block == x))=false→(∃ e:Int,v1[i]?=some e∧((0≤(i:Int)∧(i:Int)<((10:Nat):Int))∧((I6 ((i:Int)+1))∧f37G0 E c row (i+1) (v1.set i se.block))))))))))))))∧(¬ ((i:Int)<(row.length:Int))→(v1.length=10∧((Ws ([]:List ((List Int) × (Option (List Int)))) v1)=false∧(v1.length=10∧f37G1 E c row v1 (([]:List ((List Int) × (Option (List Int))))++[(v1,(none:(Option (List Int))))]) 0 ([v1]))))))):f37G0 E c row i v1:=by
 rcases bft (decide ((i:Int)<(row.length:Int))) with hc0 | hc0
 · have h:=h.1 (odt hc0)
   obtain ⟨se,h1,h⟩:=h
   obtain ⟨h2,h⟩:=h
   rcases bft (!(Qj se.block 0 (c.blocks.length - 1))) with hc1 | hc1
   · have h:=h.1 (bnT hc1)
     exact p37_0_0 c row i v1 se hE ⟨hc0,(Qp h1),(rp cSpt 3 0 3 h1),(by decide),(u53 (Vg c se.block h2)),hc1,rfl,trivial⟩ (by rw [h]; exact (Vk ⟨Xr,⟨AvLe.of_eq rfl,trivial⟩⟩))
   · have h:=h.2 (bnF hc1)
     obtain ⟨h3,h⟩:=h
     obtain ⟨h4,h⟩:=h
     obtain ⟨h5,h⟩:=h
     rcases bft ((v1.take (Int.toNat (i:Int))).any (fun x=>se.block == x)) with hc2 | hc2
     · have h:=h.1 hc2
       exact p37_0_1 c row i v1 se hE ⟨hc0,(Qp h1),(rp cSpt 3 0 3 h1),(by decide),(u53 (Vg c se.block h2)),hc1,(Nat.zero_le _),h3,(by have hx:=Qv cI (s:=1) (fun _=>rfl) v1; simp only [rowI] at hx ⊢; rw [hx,h4]; decide),(by omega),(Qd.le (args:=[.rsl (rowI (v1.take (Int.toNat (i:Int)))) 0 ((v1.take (Int.toNat (i:Int))).length),.int .i64 se.block]) (u54 (Yg (v1.take (Int.toNat (i:Int))) se.block h5)) ⟨(by exact Yq cI (s:=1) (fun _=>rfl) (by omega)),⟨AvLe.of_eq rfl,trivial⟩⟩),hc2,trivial⟩ (by rw [h]; exact (Vk ⟨Xr,⟨AvLe.of_eq rfl,trivial⟩⟩))
     · have h:=h.2 hc2
       obtain ⟨e,h6,h⟩:=h
       obtain ⟨q14_3,h⟩:=h
       obtain ⟨q16_3,h⟩:=h
       refine p37_0_2 c row i v1 se e hE ⟨hc0,(Qp h1),(rp cSpt 3 0 3 h1),(by decide),(u53 (Vg c se.block h2)),hc1,(Nat.zero_le _),h3,(by have hx:=Qv cI (s:=1) (fun _=>rfl) v1; simp only [rowI] at hx ⊢; rw [hx,h4]; decide),(by omega),(Qd.le (args:=[.rsl (rowI (v1.take (Int.toNat (i:Int)))) 0 ((v1.take (Int.toNat (i:Int))).length),.int .i64 se.block]) (u54 (Yg (v1.take (Int.toNat (i:Int))) se.block h5)) ⟨(by exact Yq cI (s:=1) (fun _=>rfl) (by omega)),⟨AvLe.of_eq rfl,trivial⟩⟩),hc2,q14_3,(rf cI 1 0 1 h6),q16_3,trivial⟩ ?_
       have h:=h
       simp only [f37G0,f37S0,List.length_set] at h
       rw [(show Qx (rowI v1) (0+(Int.toNat (i:Int))*1) [.int .i64 se.block]=rowI (v1.set i se.block) from QD cI (s:=1) (k:=0) (fun _=>rfl) h6 rfl (by first | decide | simp))]
       exact h
 · have h:=h.2 (odf hc0)
   obtain ⟨h1,h⟩:=h
   obtain ⟨h2,h⟩:=h
   obtain ⟨h3,h⟩:=h
   refine p37_0_3 c row i v1 hE ⟨hc0,(Yd h1),(Ka h2),(Yd h3),trivial⟩ ?_
   rw [(show AV.sl 3 0 0 1 10=AV.sl 3 0 (0*10) (([v1]).length - 0) 10 from sl_eq (by omega) (by first | rfl | omega | (simp; done) | (simp; omega)))]; rw [(show Xo ([]:List ((List Int) × (Option (List Int))))++[.clos 0 [.agg (kcI v1)] [.nilSl]]=Xo (([]:List ((List Int) × (Option (List Int))))++[(v1,(none:(Option (List Int))))]) from (Xw cWyE ([]:List ((List Int) × (Option (List Int)))) [(v1,(none:(Option (List Int))))]).symm)]; exact (h 0)
theorem p37_1_0 (c:Cir) (row:(List Spt)) (v1:List Int) (v2:List ((List Int) × (Option (List Int)))) (queue:Nat) (v3:List (List Int)) (g3:Nat) (le:(List Int)) (mi:Nat) (me:((List Int) × (Option (List Int)))) {E:Env} {res:AV} (hE:Qn Try.prog 37 res E) (ho:AllP [g3=g3,(decide ((((v3.length - queue):Nat):Int) > 0))=true,(0:Int)≤0∧(0:Int)<(((v3.length - queue):Nat):Int),g3=g3,g3=g3,((rowY v3).drop ((queue*10)+0*10)).take 10=(kcI le),10≤10,0≤(Int.toNat (row.length:Int)),(Int.toNat (row.length:Int))≤10,10≤(kcI le).length,0≤(row.length:Int),Qd Try.prog (.clos 62 [] []) (z37_7 le row c) (.bool ((le.take (Int.toNat (row.length:Int))).any (fun b=>!((bkAt c b).walk)))),(!((le.take (Int.toNat (row.length:Int))).any (fun b=>!((bkAt c b).walk))))=true,((kcI le).drop 0).take 10=(kcI le),yh Try.prog 110 (.agg (kcI le)) (Xo v2) mi (.rsl (rowI (me.2.getD [])) 0 ((me.2.getD []).length))])
 (hr:AvLe (.tup [.rsl (rowI (me.2.getD [])) 0 ((me.2.getD []).length),.int .i64 0]) res):G Try.prog E (f37K1 Try.prog) (f37S1 c row v1 v2 queue v3 g3) :=
 Qf (n:=400) (evs:=[.b true,.ld (.agg (kcI le)),.v (.bool ((le.take (Int.toNat (row.length:Int))).any (fun b=>!((bkAt c b).walk)))),.b true,.ld (.agg (kcI le)),.mfound mi (.rsl (rowI (me.2.getD [])) 0 ((me.2.getD []).length))]) (obs:=_) hE Try.func37 Ql (by kernel_rfl) ho hr
theorem p37_1_1 (c:Cir) (row:(List Spt)) (v1:List Int) (v2:List ((List Int) × (Option (List Int)))) (queue:Nat) (v3:List (List Int)) (g3:Nat) (le:(List Int)) (mi:Nat) (me:((List Int) × (Option (List Int)))) {E:Env} {res:AV} (hE:Qn Try.prog 37 res E) (ho:AllP [g3=g3,(decide ((((v3.length - queue):Nat):Int) > 0))=true,(0:Int)≤0∧(0:Int)<(((v3.length - queue):Nat):Int),g3=g3,g3=g3,((rowY v3).drop ((queue*10)+0*10)).take 10=(kcI le),10≤10,0≤(Int.toNat (row.length:Int)),(Int.toNat (row.length:Int))≤10,10≤(kcI le).length,0≤(row.length:Int),Qd Try.prog (.clos 62 [] []) (z37_7 le row c) (.bool ((le.take (Int.toNat (row.length:Int))).any (fun b=>!((bkAt c b).walk)))),(!((le.take (Int.toNat (row.length:Int))).any (fun b=>!((bkAt c b).walk))))=true,((kcI le).drop 0).take 10=(kcI le),yh Try.prog 110 (.agg (kcI le)) (Xo v2) mi .nilSl])
 (hr:AvLe (.tup [.nilSl,.int .i64 0]) res):G Try.prog E (f37K1 Try.prog) (f37S1 c row v1 v2 queue v3 g3) :=
 Qf (n:=400) (evs:=[.b true,.ld (.agg (kcI le)),.v (.bool ((le.take (Int.toNat (row.length:Int))).any (fun b=>!((bkAt c b).walk)))),.b true,.ld (.agg (kcI le)),.mfound mi .nilSl]) (obs:=_) hE Try.func37 Ql (by kernel_rfl) ho hr
theorem p37_1_2 (c:Cir) (row:(List Spt)) (v1:List Int) (v2:List ((List Int) × (Option (List Int)))) (queue:Nat) (v3:List (List Int)) (g3:Nat) (le:(List Int)) {E:Env} {res:AV} (hE:Qn Try.prog 37 res E) (ho:AllP [g3=g3,(decide ((((v3.length - queue):Nat):Int) > 0))=true,(0:Int)≤0∧(0:Int)<(((v3.length - queue):Nat):Int),g3=g3,g3=g3,((rowY v3).drop ((queue*10)+0*10)).take 10=(kcI le),10≤10,0≤(Int.toNat (row.length:Int)),(Int.toNat (row.length:Int))≤10,10≤(kcI le).length,0≤(row.length:Int),Qd Try.prog (.clos 62 [] []) (z37_7 le row c) (.bool ((le.take (Int.toNat (row.length:Int))).any (fun b=>!((bkAt c b).walk)))),(!((le.take (Int.toNat (row.length:Int))).any (fun b=>!((bkAt c b).walk))))=true,((kcI le).drop 0).take 10=(kcI le),Ym Try.prog 110 (.agg (kcI le)) (Xo v2)])
 (hr:AvLe (.tup [.nilSl,.int .i64 0]) res):G Try.prog E (f37K1 Try.prog) (f37S1 c row v1 v2 queue v3 g3) :=
 Qf (n:=400) (evs:=[.b true,.ld (.agg (kcI le)),.v (.bool ((le.take (Int.toNat (row.length:Int))).any (fun b=>!((bkAt c b).walk)))),.b true,.ld (.agg (kcI le)),.mnone]) (obs:=_) hE Try.func37 Ql (by kernel_rfl) ho hr
theorem p37_1_3 (c:Cir) (row:(List Spt)) (v1:List Int) (v2:List ((List Int) × (Option (List Int)))) (queue:Nat) (v3:List (List Int)) (g3:Nat) (le:(List Int)) {E:Env} {rv:AV} (hE:Qn Try.prog 37 rv E) (ho:AllP [g3=g3,(decide ((((v3.length - queue):Nat):Int) > 0))=true,(0:Int)≤0∧(0:Int)<(((v3.length - queue):Nat):Int),g3=g3,g3=g3,((rowY v3).drop ((queue*10)+0*10)).take 10=(kcI le),10≤10,0≤(Int.toNat (row.length:Int)),(Int.toNat (row.length:Int))≤10,10≤(kcI le).length,0≤(row.length:Int),Qd Try.prog (.clos 62 [] []) (z37_7 le row c) (.bool ((le.take (Int.toNat (row.length:Int))).any (fun b=>!((bkAt c b).walk)))),(!((le.take (Int.toNat (row.length:Int))).any (fun b=>!((bkAt c b).walk))))=false])
 (hg:G Try.prog E (qo Try.prog) ⟨([J,J,.ptr 0 0 0]++jj 7 ([.int .i64 (row.length:Int),.mp 2 0 false,.sl 3 g3 (queue*10) (v3.length - queue) 10,.ptr 4 0 0]++jj 62 ([.int .i64 (row.length:Int),.int .i64 0]++Js 42))),[⟨true,0,1,true,(qs c),false⟩,⟨true,0,1,true,(rowI v1),false⟩,⟨true,0,0,true,(Xo v2),false⟩,⟨true,g3,10,true,(rowY v3),true⟩,⟨true,0,1,true,(kcI le),false⟩]⟩):G Try.prog E (f37K1 Try.prog) (f37S1 c row v1 v2 queue v3 g3) :=
 Qg (n:=400) (ds:=[]) (cs:=[]) (live:=[2,10,11,12,13,76,77]) (m:=5) (evs:=[.b true,.ld (.agg (kcI le)),.v (.bool ((le.take (Int.toNat (row.length:Int))).any (fun b=>!((bkAt c b).walk)))),.b false,.stop]) (obs:=_) hE.2.1 (hE.nogh _) Ql (by kernel_rfl) ho hg
theorem p37_1_4 (c:Cir) (row:(List Spt)) (v1:List Int) (v2:List ((List Int) × (Option (List Int)))) (queue:Nat) (v3:List (List Int)) (g3:Nat) {E:Env} {res:AV} (hE:Qn Try.prog 37 res E) (ho:AllP [g3=g3,(decide ((((v3.length - queue):Nat):Int) > 0))=false])
 (hr:AvLe (.tup [.nilSl,.int .i64 3]) res):G Try.prog E (f37K1 Try.prog) (f37S1 c row v1 v2 queue v3 g3) :=
 Qf (n:=400) (evs:=[.b false]) (obs:=_) hE Try.func37 Ql (by kernel_rfl) ho hr
theorem f37W1 (c:Cir) (row:(List Spt)) (v1:List Int) (v2:List ((List Int) × (Option (List Int)))) (queue:Nat) (v3:List (List Int)) {E:Env} {rv:((List Int) × Int)} (hE:Qn Try.prog 37 (.tup [.rsl (rowI rv.1) 0 rv.1.length,.int .i64 rv.2]) E)
 (h:(((((v3.length - queue):Nat):Int) > 0→(∃ le:(List Int),v3[queue]?=some le∧(le.length=10∧((Int.toNat (row.length:Int))≤10∧(le.length=10∧(((∀ b ∈ (le.take (Int.toNat (row.length:Int))),InC c b)∧(le.take (Int.toNat (row.length:Int))).length≤9223372036854775807)∧((((le.take (Int.toNat (row.length:Int))).any (fun b=>!((bkAt c b).walk)))=false→(((Ws v2 le)=true→(∃ mi:Nat,True∧(∃ me:((List Int) × (Option (List Int))),WyAt v2 le mi me∧((me.2.isSome=true→rv=((me.2.getD []),0))∧(me.2.isSome=false→rv=(([]:List Int),0))))))∧((Ws v2 le)=false→rv=(([]:List Int),0))))∧(((le.take (Int.toNat (row.length:Int))).any (fun b=>!((bkAt c b).walk)))=true→KA E c row queue v1 v2 v3 le 0))))))))∧(¬ ((((v3.length - queue):Nat):Int) > 0)→rv=(([]:List Int),3)))):f37G1 E c row v1 v2 queue v3:=by
 intro g3
 rcases bft (decide ((((v3.length - queue):Nat):Int) > 0)) with hc0 | hc0
 · have h:=h.1 (odt hc0)
   obtain ⟨le,h1,h⟩:=h
   obtain ⟨h2,h⟩:=h
   obtain ⟨h3,h⟩:=h
   obtain ⟨h4,h⟩:=h
   obtain ⟨h5,h⟩:=h
   rcases bft (!((le.take (Int.toNat (row.length:Int))).any (fun b=>!((bkAt c b).walk)))) with hc1 | hc1
   · have h:=h.1 (bnT hc1)
     rcases bft (Ws v2 le) with hc2 | hc2
     · have h:=h.1 hc2
       obtain ⟨mi,h6,h⟩:=h
       obtain ⟨me,h7,h⟩:=h
       rcases bft me.2.isSome with hc3 | hc3
       · have h:=h.1 hc3
         exact p37_1_0 c row v1 v2 queue v3 g3 le mi me hE ⟨rfl,hc0,(QaO h1 rfl),rfl,rfl,(QaF kcI (s:=10) (fun _=>rfl) h1),(by decide),(Nat.zero_le _),h3,(by rw [(show (kcI le)=rowI le from Xh h2)]; have hx:=Qv cI (s:=1) (fun _=>rfl) le; simp only [rowI] at hx ⊢; rw [hx,h4]; decide),(by omega),(Qd.le (args:=[.rsl (rowI (le.take (Int.toNat (row.length:Int)))) 0 ((le.take (Int.toNat (row.length:Int))).length),.clos 63 [] [.rptr [.rsl (Qk c.blocks) 0 c.blocks.length,.rsl (rowI c.cars) 0 c.cars.length] 0]]) (u62 (QaZ (le.take (Int.toNat (row.length:Int))) c h5)) ⟨(by rw [(show (kcI le)=rowI le from Xh h2)]; exact Yq cI (s:=1) (fun _=>rfl) (by omega)),⟨AvLe.of_eq rfl,trivial⟩⟩),hc1,rfl,(by have hx:=wyAt h7; rw [Ya hc3] at hx; exact hx),trivial⟩ (AvLe.of_eq (by rw [h]; try rfl))
       · have h:=h.2 hc3
         exact p37_1_1 c row v1 v2 queue v3 g3 le mi me hE ⟨rfl,hc0,(QaO h1 rfl),rfl,rfl,(QaF kcI (s:=10) (fun _=>rfl) h1),(by decide),(Nat.zero_le _),h3,(by rw [(show (kcI le)=rowI le from Xh h2)]; have hx:=Qv cI (s:=1) (fun _=>rfl) le; simp only [rowI] at hx ⊢; rw [hx,h4]; decide),(by omega),(Qd.le (args:=[.rsl (rowI (le.take (Int.toNat (row.length:Int)))) 0 ((le.take (Int.toNat (row.length:Int))).length),.clos 63 [] [.rptr [.rsl (Qk c.blocks) 0 c.blocks.length,.rsl (rowI c.cars) 0 c.cars.length] 0]]) (u62 (QaZ (le.take (Int.toNat (row.length:Int))) c h5)) ⟨(by rw [(show (kcI le)=rowI le from Xh h2)]; exact Yq cI (s:=1) (fun _=>rfl) (by omega)),⟨AvLe.of_eq rfl,trivial⟩⟩),hc1,rfl,(by have hx:=wyAt h7; rw [VC hc3] at hx; exact hx),trivial⟩ (by rw [h]; exact (Vk ⟨Xr,⟨AvLe.of_eq rfl,trivial⟩⟩))
     · have h:=h.2 hc2
       exact p37_1_2 c row v1 v2 queue v3 g3 le hE ⟨rfl,hc0,(QaO h1 rfl),rfl,rfl,(QaF kcI (s:=10) (fun _=>rfl) h1),(by decide),(Nat.zero_le _),h3,(by rw [(show (kcI le)=rowI le from Xh h2)]; have hx:=Qv cI (s:=1) (fun _=>rfl) le; simp only [rowI] at hx ⊢; rw [hx,h4]; decide),(by omega),(Qd.le (args:=[.rsl (rowI (le.take (Int.toNat (row.length:Int)))) 0 ((le.take (Int.toNat (row.length:Int))).length),.clos 63 [] [.rptr [.rsl (Qk c.blocks) 0 c.blocks.length,.rsl (rowI c.cars) 0 c.cars.length] 0]]) (u62 (QaZ (le.take (Int.toNat (row.length:Int))) c h5)) ⟨(by rw [(show (kcI le)=rowI le from Xh h2)]; exact Yq cI (s:=1) (fun _=>rfl) (by omega)),⟨AvLe.of_eq rfl,trivial⟩⟩),hc1,rfl,(Ka hc2),trivial⟩ (by rw [h]; exact (Vk ⟨Xr,⟨AvLe.of_eq rfl,trivial⟩⟩))
   · have h:=h.2 (bnF hc1)
     refine p37_1_3 c row v1 v2 queue v3 g3 le hE ⟨rfl,hc0,(QaO h1 rfl),rfl,rfl,(QaF kcI (s:=10) (fun _=>rfl) h1),(by decide),(Nat.zero_le _),h3,(by rw [(show (kcI le)=rowI le from Xh h2)]; have hx:=Qv cI (s:=1) (fun _=>rfl) le; simp only [rowI] at hx ⊢; rw [hx,h4]; decide),(by omega),(Qd.le (args:=[.rsl (rowI (le.take (Int.toNat (row.length:Int)))) 0 ((le.take (Int.toNat (row.length:Int))).length),.clos 63 [] [.rptr [.rsl (Qk c.blocks) 0 c.blocks.length,.rsl (rowI c.cars) 0 c.cars.length] 0]]) (u62 (QaZ (le.take (Int.toNat (row.length:Int))) c h5)) ⟨(by rw [(show (kcI le)=rowI le from Xh h2)]; exact Yq cI (s:=1) (fun _=>rfl) (by omega)),⟨AvLe.of_eq rfl,trivial⟩⟩),hc1,trivial⟩ ?_
     rw [(show (kcI le)=rowI le from Xh h2)]; exact (h g3)
 · have h:=h.2 (odf hc0)
   exact p37_1_4 c row v1 v2 queue v3 g3 hE ⟨rfl,hc0,trivial⟩ (by rw [h]; exact (Vk ⟨Xr,⟨AvLe.of_eq rfl,trivial⟩⟩))
theorem p37_2_0 (c:Cir) (row:(List Spt)) (queue:Nat) (v1:List Int) (v2:List ((List Int) × (Option (List Int)))) (v3:List (List Int)) (v4:List Int) (j:Nat) (g3:Nat) (e:Int) (mi:Nat) (me:((List Int) × (Option (List Int)))) {E:Env} {rv:AV} (hE:Qn Try.prog 37 rv E) (ho:AllP [(decide ((j:Int)<(row.length:Int)))=true,((rowI v4).drop 0).take 10=(kcI v4),10≤10,0≤(j:Int)∧(j:Int)<((10:Nat):Int),((rowI v4).drop (0+(Int.toNat (j:Int))*1)).take 1=[.int .i64 e],InR .i64 (e+1),(c.blocks.length:Int) ≠ 0,0≤(j:Int)∧(j:Int)<((10:Nat):Int),((0+(Int.toNat (j:Int))*1)+1)≤(kcI v4).length,((Qx (kcI v4) (0+(Int.toNat (j:Int))*1) (z37_8 e c)).drop 0).take 10=(Qax v4 j e c),yh Try.prog 110 (.agg (Qax v4 j e c)) (Xo v2) mi (.rsl (rowI (me.2.getD [])) 0 ((me.2.getD []).length)),true=true,true=true,InR .i64 ((j:Int)+1)])
 (hg:G Try.prog E (qo Try.prog) ⟨(z37_2 row g3 queue v3 j),(z37_4 c v1 v2 g3 v3 v4)⟩):G Try.prog E (qo Try.prog) (f37S2 c row queue v1 v2 v3 v4 j g3) :=
 Qg (n:=400) (ds:=[]) (cs:=[]) (live:=[2,10,11,12,13,76,77]) (m:=5) (evs:=[.b true,.ld (.agg (kcI v4)),.ld (.int .i64 e),.auto,.ld (.agg (Qax v4 j e c)),.mfound mi (.rsl (rowI (me.2.getD [])) 0 ((me.2.getD []).length)),.b true,.b true,.stop]) (obs:=_) hE.2.1 (hE.nogh _) Ql (by kernel_rfl) ho hg
theorem p37_2_1 (c:Cir) (row:(List Spt)) (queue:Nat) (v1:List Int) (v2:List ((List Int) × (Option (List Int)))) (v3:List (List Int)) (v4:List Int) (j:Nat) (g3:Nat) (e:Int) (mi:Nat) (me:((List Int) × (Option (List Int)))) {E:Env} {rv:AV} (hE:Qn Try.prog 37 rv E) (ho:AllP [(decide ((j:Int)<(row.length:Int)))=true,((rowI v4).drop 0).take 10=(kcI v4),10≤10,0≤(j:Int)∧(j:Int)<((10:Nat):Int),((rowI v4).drop (0+(Int.toNat (j:Int))*1)).take 1=[.int .i64 e],InR .i64 (e+1),(c.blocks.length:Int) ≠ 0,0≤(j:Int)∧(j:Int)<((10:Nat):Int),((0+(Int.toNat (j:Int))*1)+1)≤(kcI v4).length,((Qx (kcI v4) (0+(Int.toNat (j:Int))*1) (z37_8 e c)).drop 0).take 10=(Qax v4 j e c),yh Try.prog 110 (.agg (Qax v4 j e c)) (Xo v2) mi .nilSl,true=true,true=true,InR .i64 ((j:Int)+1)])
 (hg:G Try.prog E (qo Try.prog) ⟨(z37_2 row g3 queue v3 j),(z37_4 c v1 v2 g3 v3 v4)⟩):G Try.prog E (qo Try.prog) (f37S2 c row queue v1 v2 v3 v4 j g3) :=
 Qg (n:=400) (ds:=[]) (cs:=[]) (live:=[2,10,11,12,13,76,77]) (m:=5) (evs:=[.b true,.ld (.agg (kcI v4)),.ld (.int .i64 e),.auto,.ld (.agg (Qax v4 j e c)),.mfound mi .nilSl,.b true,.b true,.stop]) (obs:=_) hE.2.1 (hE.nogh _) Ql (by kernel_rfl) ho hg
theorem p37_2_2 (c:Cir) (row:(List Spt)) (queue:Nat) (v1:List Int) (v2:List ((List Int) × (Option (List Int)))) (v3:List (List Int)) (v4:List Int) (j:Nat) (g3:Nat) (e:Int) (e1:Int) {E:Env} {rv:AV} (hE:Qn Try.prog 37 rv E) (ho:AllP [(decide ((j:Int)<(row.length:Int)))=true,((rowI v4).drop 0).take 10=(kcI v4),10≤10,0≤(j:Int)∧(j:Int)<((10:Nat):Int),((rowI v4).drop (0+(Int.toNat (j:Int))*1)).take 1=[.int .i64 e],InR .i64 (e+1),(c.blocks.length:Int) ≠ 0,0≤(j:Int)∧(j:Int)<((10:Nat):Int),((0+(Int.toNat (j:Int))*1)+1)≤(kcI v4).length,((Qx (kcI v4) (0+(Int.toNat (j:Int))*1) (z37_8 e c)).drop 0).take 10=(Qax v4 j e c),Ym Try.prog 110 (.agg (Qax v4 j e c)) (Xo v2),false=false,0≤(Int.toNat (row.length:Int)),(Int.toNat (row.length:Int))≤10,10≤(rowI v4).length,0≤(row.length:Int),0≤(j:Int)∧(j:Int)<((10:Nat):Int),((Qx (kcI v4) (0+(Int.toNat (j:Int))*1) (z37_8 e c)).drop (0+(Int.toNat (j:Int))*1)).take 1=[.int .i64 e1],Qd Try.prog (.clos 54 [] []) [.rsl (rowI v4) 0 (Int.toNat (row.length:Int)),.int .i64 e1] (.bool ((v4.take (Int.toNat (row.length:Int))).any (fun x=>e1 == x))),((v4.take (Int.toNat (row.length:Int))).any (fun x=>e1 == x))=true,InR .i64 ((j:Int)+1)])
 (hg:G Try.prog E (qo Try.prog) ⟨(z37_2 row g3 queue v3 j),(z37_4 c v1 v2 g3 v3 v4)⟩):G Try.prog E (qo Try.prog) (f37S2 c row queue v1 v2 v3 v4 j g3) :=
 Qg (n:=400) (ds:=[]) (cs:=[]) (live:=[2,10,11,12,13,76,77]) (m:=5) (evs:=[.b true,.ld (.agg (kcI v4)),.ld (.int .i64 e),.auto,.ld (.agg (Qax v4 j e c)),.mnone,.b false,.ld (.int .i64 e1),.v (.bool ((v4.take (Int.toNat (row.length:Int))).any (fun x=>e1 == x))),.b true,.stop]) (obs:=_) hE.2.1 (hE.nogh _) Ql (by kernel_rfl) ho hg
theorem p37_2_3 (c:Cir) (row:(List Spt)) (queue:Nat) (v1:List Int) (v2:List ((List Int) × (Option (List Int)))) (v3:List (List Int)) (v4:List Int) (j:Nat) (g3:Nat) (e:Int) (e1:Int) (mi:Nat) (me:((List Int) × (Option (List Int)))) {E:Env} {rv:AV} (hE:Qn Try.prog 37 rv E) (ho:AllP [(decide ((j:Int)<(row.length:Int)))=true,((rowI v4).drop 0).take 10=(kcI v4),10≤10,0≤(j:Int)∧(j:Int)<((10:Nat):Int),((rowI v4).drop (0+(Int.toNat (j:Int))*1)).take 1=[.int .i64 e],InR .i64 (e+1),(c.blocks.length:Int) ≠ 0,0≤(j:Int)∧(j:Int)<((10:Nat):Int),((0+(Int.toNat (j:Int))*1)+1)≤(kcI v4).length,((Qx (kcI v4) (0+(Int.toNat (j:Int))*1) [.int .i64 (Int.tmod (e+1) (c.blocks.length:Int))]).drop 0).take 10=(kcI (v4.set j (Int.tmod (e+1) (c.blocks.length:Int)))),Ym Try.prog 110 (.agg (kcI (v4.set j (Int.tmod (e+1) (c.blocks.length:Int))))) (Xo v2),false=false,0≤(Int.toNat (row.length:Int)),(Int.toNat (row.length:Int))≤10,10≤(rowI v4).length,0≤(row.length:Int),0≤(j:Int)∧(j:Int)<((10:Nat):Int),((Qx (kcI v4) (0+(Int.toNat (j:Int))*1) [.int .i64 (Int.tmod (e+1) (c.blocks.length:Int))]).drop (0+(Int.toNat (j:Int))*1)).take 1=[.int .i64 e1],Qd Try.prog (.clos 54 [] []) [.rsl (rowI v4) 0 (Int.toNat (row.length:Int)),.int .i64 e1] (.bool ((v4.take (Int.toNat (row.length:Int))).any (fun x=>e1 == x))),((v4.take (Int.toNat (row.length:Int))).any (fun x=>e1 == x))=false,((Qx (kcI v4) (0+(Int.toNat (j:Int))*1) [.int .i64 (Int.tmod (e+1) (c.blocks.length:Int))]).drop 0).take 10=(kcI (v4.set j (Int.tmod (e+1) (c.blocks.length:Int)))),((rowI v4).drop 0).take 10=(kcI v4),yh Try.prog 110 (.agg (kcI v4)) (Xo v2) mi (.rsl (rowI (me.2.getD [])) 0 ((me.2.getD []).length)),PureO Try.prog (.clos 64 [] []) [.rsl (rowI (me.2.getD [])) 0 ((me.2.getD []).length)] ((me.2.getD []).length) 1 (rowI (me.2.getD [])),1=1,0=0,(0+((me.2.getD []).length*1))=(rowI (me.2.getD [])).length,((me.2.getD []).length+1)≤2147483648,0=0,Ym Try.prog 110 (.agg (kcI (v4.set j (Int.tmod (e+1) (c.blocks.length:Int))))) (Xo v2),((Qx (kcI v4) (0+(Int.toNat (j:Int))*1) [.int .i64 (Int.tmod (e+1) (c.blocks.length:Int))]).drop 0).take 10=(kcI (v4.set j (Int.tmod (e+1) (c.blocks.length:Int)))),g3=g3,((queue*10)+((v3.length - queue)*10))=(rowY v3).length,((v3.length - queue)+1)≤2147483648,0=0,InR .i64 ((j:Int)+1)])
 (hg:G Try.prog E (qo Try.prog) ⟨([J,J,.ptr 0 0 0]++jj 7 ([.int .i64 (row.length:Int),.mp 2 0 false,.sl 3 (g3+1) 0 ((v3.length - queue)+1) 10,.ptr 4 0 0]++jj 62 ([.int .i64 (row.length:Int),.int .i64 ((j:Int)+1)]++Js 42))),[⟨true,0,1,true,[.rsl (Qk c.blocks) 0 c.blocks.length,.rsl (rowI c.cars) 0 c.cars.length],false⟩,⟨true,0,1,true,(rowI v1),false⟩,⟨true,0,0,true,((Xo v2)++[.clos 0 [.agg (kcI (v4.set j (Int.tmod (e+1) (c.blocks.length:Int))))] [.rsl ((rowI (me.2.getD []))++[.int .i64 (j:Int)]) 0 ((me.2.getD []).length+1)]]),false⟩,⟨true,(g3+1),10,true,(((rowY v3).drop (queue*10))++[.int .i64 ((v4.set j (Int.tmod (e+1) (c.blocks.length:Int))).getD 0 0),.int .i64 ((v4.set j (Int.tmod (e+1) (c.blocks.length:Int))).getD 1 0),.int .i64 ((v4.set j (Int.tmod (e+1) (c.blocks.length:Int))).getD 2 0),.int .i64 ((v4.set j (Int.tmod (e+1) (c.blocks.length:Int))).getD 3 0),.int .i64 ((v4.set j (Int.tmod (e+1) (c.blocks.length:Int))).getD 4 0),.int .i64 ((v4.set j (Int.tmod (e+1) (c.blocks.length:Int))).getD 5 0),.int .i64 ((v4.set j (Int.tmod (e+1) (c.blocks.length:Int))).getD 6 0),.int .i64 ((v4.set j (Int.tmod (e+1) (c.blocks.length:Int))).getD 7 0),.int .i64 ((v4.set j (Int.tmod (e+1) (c.blocks.length:Int))).getD 8 0),.int .i64 ((v4.set j (Int.tmod (e+1) (c.blocks.length:Int))).getD 9 0)]),true⟩,⟨true,0,1,true,(rowI v4),false⟩]⟩):G Try.prog E (qo Try.prog) (f37S2 c row queue v1 v2 v3 v4 j g3) :=
 Qg (n:=400) (ds:=[]) (cs:=[]) (live:=[2,10,11,12,13,76,77]) (m:=5) (evs:=[.b true,.ld (.agg (kcI v4)),.ld (.int .i64 e),.auto,.ld (.agg (kcI (v4.set j (Int.tmod (e+1) (c.blocks.length:Int))))),.mnone,.b false,.ld (.int .i64 e1),.v (.bool ((v4.take (Int.toNat (row.length:Int))).any (fun x=>e1 == x))),.b false,.ld (.agg (kcI (v4.set j (Int.tmod (e+1) (c.blocks.length:Int))))),.ld (.agg (kcI v4)),.mfound mi (.rsl (rowI (me.2.getD [])) 0 ((me.2.getD []).length)),.lent [] (.sl 0 0 0 ((me.2.getD []).length) 1) [⟨true,0,1,true,(rowI (me.2.getD [])),true⟩],.fz,.ld (.agg (kcI (v4.set j (Int.tmod (e+1) (c.blocks.length:Int))))),.stop]) (obs:=_) hE.2.1 (hE.nogh _) Ql (by kernel_rfl) ho hg
theorem p37_2_4 (c:Cir) (row:(List Spt)) (queue:Nat) (v1:List Int) (v2:List ((List Int) × (Option (List Int)))) (v3:List (List Int)) (v4:List Int) (j:Nat) (g3:Nat) (e:Int) (e1:Int) (mi:Nat) (me:((List Int) × (Option (List Int)))) {E:Env} {rv:AV} (hE:Qn Try.prog 37 rv E) (ho:AllP [(decide ((j:Int)<(row.length:Int)))=true,((rowI v4).drop 0).take 10=(kcI v4),10≤10,0≤(j:Int)∧(j:Int)<((10:Nat):Int),((rowI v4).drop (0+(Int.toNat (j:Int))*1)).take 1=[.int .i64 e],InR .i64 (e+1),(c.blocks.length:Int) ≠ 0,0≤(j:Int)∧(j:Int)<((10:Nat):Int),((0+(Int.toNat (j:Int))*1)+1)≤(kcI v4).length,((Qx (kcI v4) (0+(Int.toNat (j:Int))*1) [.int .i64 (Int.tmod (e+1) (c.blocks.length:Int))]).drop 0).take 10=(kcI (v4.set j (Int.tmod (e+1) (c.blocks.length:Int)))),Ym Try.prog 110 (.agg (kcI (v4.set j (Int.tmod (e+1) (c.blocks.length:Int))))) (Xo v2),false=false,0≤(Int.toNat (row.length:Int)),(Int.toNat (row.length:Int))≤10,10≤(rowI v4).length,0≤(row.length:Int),0≤(j:Int)∧(j:Int)<((10:Nat):Int),((Qx (kcI v4) (0+(Int.toNat (j:Int))*1) [.int .i64 (Int.tmod (e+1) (c.blocks.length:Int))]).drop (0+(Int.toNat (j:Int))*1)).take 1=[.int .i64 e1],Qd Try.prog (.clos 54 [] []) [.rsl (rowI v4) 0 (Int.toNat (row.length:Int)),.int .i64 e1] (.bool ((v4.take (Int.toNat (row.length:Int))).any (fun x=>e1 == x))),((v4.take (Int.toNat (row.length:Int))).any (fun x=>e1 == x))=false,((Qx (kcI v4) (0+(Int.toNat (j:Int))*1) [.int .i64 (Int.tmod (e+1) (c.blocks.length:Int))]).drop 0).take 10=(kcI (v4.set j (Int.tmod (e+1) (c.blocks.length:Int)))),((rowI v4).drop 0).take 10=(kcI v4),yh Try.prog 110 (.agg (kcI v4)) (Xo v2) mi .nilSl,Qd Try.prog (.clos 64 [] []) [.nilSl] .nilSl,(∀ k,slOf 0 k (.sl k 0 0 1 1)=true),1≤2147483648,0=0,Ym Try.prog 110 (.agg (kcI (v4.set j (Int.tmod (e+1) (c.blocks.length:Int))))) (Xo v2),((Qx (kcI v4) (0+(Int.toNat (j:Int))*1) [.int .i64 (Int.tmod (e+1) (c.blocks.length:Int))]).drop 0).take 10=(kcI (v4.set j (Int.tmod (e+1) (c.blocks.length:Int)))),g3=g3,((queue*10)+((v3.length - queue)*10))=(rowY v3).length,((v3.length - queue)+1)≤2147483648,0=0,InR .i64 ((j:Int)+1)])
 (hg:G Try.prog E (qo Try.prog) ⟨([J,J,.ptr 0 0 0]++jj 7 ([.int .i64 (row.length:Int),.mp 2 0 false,.sl 3 (g3+1) 0 ((v3.length - queue)+1) 10,.ptr 4 0 0]++jj 62 ([.int .i64 (row.length:Int),.int .i64 ((j:Int)+1)]++Js 42))),[⟨true,0,1,true,[.rsl (Qk c.blocks) 0 c.blocks.length,.rsl (rowI c.cars) 0 c.cars.length],false⟩,⟨true,0,1,true,(rowI v1),false⟩,⟨true,0,0,true,((Xo v2)++[.clos 0 [.agg (kcI (v4.set j (Int.tmod (e+1) (c.blocks.length:Int))))] [.rsl [.int .i64 (j:Int)] 0 1]]),false⟩,⟨true,(g3+1),10,true,(((rowY v3).drop (queue*10))++[.int .i64 ((v4.set j (Int.tmod (e+1) (c.blocks.length:Int))).getD 0 0),.int .i64 ((v4.set j (Int.tmod (e+1) (c.blocks.length:Int))).getD 1 0),.int .i64 ((v4.set j (Int.tmod (e+1) (c.blocks.length:Int))).getD 2 0),.int .i64 ((v4.set j (Int.tmod (e+1) (c.blocks.length:Int))).getD 3 0),.int .i64 ((v4.set j (Int.tmod (e+1) (c.blocks.length:Int))).getD 4 0),.int .i64 ((v4.set j (Int.tmod (e+1) (c.blocks.length:Int))).getD 5 0),.int .i64 ((v4.set j (Int.tmod (e+1) (c.blocks.length:Int))).getD 6 0),.int .i64 ((v4.set j (Int.tmod (e+1) (c.blocks.length:Int))).getD 7 0),.int .i64 ((v4.set j (Int.tmod (e+1) (c.blocks.length:Int))).getD 8 0),.int .i64 ((v4.set j (Int.tmod (e+1) (c.blocks.length:Int))).getD 9 0)]),true⟩,⟨true,0,1,true,(rowI v4),false⟩]⟩):G Try.prog E (qo Try.prog) (f37S2 c row queue v1 v2 v3 v4 j g3) :=
 Qg (n:=400) (ds:=[]) (cs:=[]) (live:=[2,10,11,12,13,76,77]) (m:=5) (evs:=[.b true,.ld (.agg (kcI v4)),.ld (.int .i64 e),.auto,.ld (.agg (kcI (v4.set j (Int.tmod (e+1) (c.blocks.length:Int))))),.mnone,.b false,.ld (.int .i64 e1),.v (.bool ((v4.take (Int.toNat (row.length:Int))).any (fun x=>e1 == x))),.b false,.ld (.agg (kcI (v4.set j (Int.tmod (e+1) (c.blocks.length:Int))))),.ld (.agg (kcI v4)),.mfound mi .nilSl,.v .nilSl,.fz,.ld (.agg (kcI (v4.set j (Int.tmod (e+1) (c.blocks.length:Int))))),.stop]) (obs:=_) hE.2.1 (hE.nogh _) Ql (by kernel_rfl) ho hg
theorem p37_2_5 (c:Cir) (row:(List Spt)) (queue:Nat) (v1:List Int) (v2:List ((List Int) × (Option (List Int)))) (v3:List (List Int)) (v4:List Int) (j:Nat) (g3:Nat) (e:Int) (e1:Int) {E:Env} {rv:AV} (hE:Qn Try.prog 37 rv E) (ho:AllP [(decide ((j:Int)<(row.length:Int)))=true,((rowI v4).drop 0).take 10=(kcI v4),10≤10,0≤(j:Int)∧(j:Int)<((10:Nat):Int),((rowI v4).drop (0+(Int.toNat (j:Int))*1)).take 1=[.int .i64 e],InR .i64 (e+1),(c.blocks.length:Int) ≠ 0,0≤(j:Int)∧(j:Int)<((10:Nat):Int),((0+(Int.toNat (j:Int))*1)+1)≤(kcI v4).length,((Qx (kcI v4) (0+(Int.toNat (j:Int))*1) [.int .i64 (Int.tmod (e+1) (c.blocks.length:Int))]).drop 0).take 10=(kcI (v4.set j (Int.tmod (e+1) (c.blocks.length:Int)))),Ym Try.prog 110 (.agg (kcI (v4.set j (Int.tmod (e+1) (c.blocks.length:Int))))) (Xo v2),false=false,0≤(Int.toNat (row.length:Int)),(Int.toNat (row.length:Int))≤10,10≤(rowI v4).length,0≤(row.length:Int),0≤(j:Int)∧(j:Int)<((10:Nat):Int),((Qx (kcI v4) (0+(Int.toNat (j:Int))*1) [.int .i64 (Int.tmod (e+1) (c.blocks.length:Int))]).drop (0+(Int.toNat (j:Int))*1)).take 1=[.int .i64 e1],Qd Try.prog (.clos 54 [] []) [.rsl (rowI v4) 0 (Int.toNat (row.length:Int)),.int .i64 e1] (.bool ((v4.take (Int.toNat (row.length:Int))).any (fun x=>e1 == x))),((v4.take (Int.toNat (row.length:Int))).any (fun x=>e1 == x))=false,((Qx (kcI v4) (0+(Int.toNat (j:Int))*1) [.int .i64 (Int.tmod (e+1) (c.blocks.length:Int))]).drop 0).take 10=(kcI (v4.set j (Int.tmod (e+1) (c.blocks.length:Int)))),((rowI v4).drop 0).take 10=(kcI v4),Ym Try.prog 110 (.agg (kcI v4)) (Xo v2),Qd Try.prog (.clos 64 [] []) [.nilSl] .nilSl,(∀ k,slOf 0 k (.sl k 0 0 1 1)=true),1≤2147483648,0=0,Ym Try.prog 110 (.agg (kcI (v4.set j (Int.tmod (e+1) (c.blocks.length:Int))))) (Xo v2),((Qx (kcI v4) (0+(Int.toNat (j:Int))*1) [.int .i64 (Int.tmod (e+1) (c.blocks.length:Int))]).drop 0).take 10=(kcI (v4.set j (Int.tmod (e+1) (c.blocks.length:Int)))),g3=g3,((queue*10)+((v3.length - queue)*10))=(rowY v3).length,((v3.length - queue)+1)≤2147483648,0=0,InR .i64 ((j:Int)+1)])
 (hg:G Try.prog E (qo Try.prog) ⟨([J,J,.ptr 0 0 0]++jj 7 ([.int .i64 (row.length:Int),.mp 2 0 false,.sl 3 (g3+1) 0 ((v3.length - queue)+1) 10,.ptr 4 0 0]++jj 62 ([.int .i64 (row.length:Int),.int .i64 ((j:Int)+1)]++Js 42))),[⟨true,0,1,true,[.rsl (Qk c.blocks) 0 c.blocks.length,.rsl (rowI c.cars) 0 c.cars.length],false⟩,⟨true,0,1,true,(rowI v1),false⟩,⟨true,0,0,true,((Xo v2)++[.clos 0 [.agg (kcI (v4.set j (Int.tmod (e+1) (c.blocks.length:Int))))] [.rsl [.int .i64 (j:Int)] 0 1]]),false⟩,⟨true,(g3+1),10,true,(((rowY v3).drop (queue*10))++[.int .i64 ((v4.set j (Int.tmod (e+1) (c.blocks.length:Int))).getD 0 0),.int .i64 ((v4.set j (Int.tmod (e+1) (c.blocks.length:Int))).getD 1 0),.int .i64 ((v4.set j (Int.tmod (e+1) (c.blocks.length:Int))).getD 2 0),.int .i64 ((v4.set j (Int.tmod (e+1) (c.blocks.length:Int))).getD 3 0),.int .i64 ((v4.set j (Int.tmod (e+1) (c.blocks.length:Int))).getD 4 0),.int .i64 ((v4.set j (Int.tmod (e+1) (c.blocks.length:Int))).getD 5 0),.int .i64 ((v4.set j (Int.tmod (e+1) (c.blocks.length:Int))).getD 6 0),.int .i64 ((v4.set j (Int.tmod (e+1) (c.blocks.length:Int))).getD 7 0),.int .i64 ((v4.set j (Int.tmod (e+1) (c.blocks.length:Int))).getD 8 0),.int .i64 ((v4.set j (Int.tmod (e+1) (c.blocks.length:Int))).getD 9 0)]),true⟩,⟨true,0,1,true,(rowI v4),false⟩]⟩):G Try.prog E (qo Try.prog) (f37S2 c row queue v1 v2 v3 v4 j g3) :=
 Qg (n:=400) (ds:=[]) (cs:=[]) (live:=[2,10,11,12,13,76,77]) (m:=5) (evs:=[.b true,.ld (.agg (kcI v4)),.ld (.int .i64 e),.auto,.ld (.agg (kcI (v4.set j (Int.tmod (e+1) (c.blocks.length:Int))))),.mnone,.b false,.ld (.int .i64 e1),.v (.bool ((v4.take (Int.toNat (row.length:Int))).any (fun x=>e1 == x))),.b false,.ld (.agg (kcI (v4.set j (Int.tmod (e+1) (c.blocks.length:Int))))),.ld (.agg (kcI v4)),.mnone,.v .nilSl,.fz,.ld (.agg (kcI (v4.set j (Int.tmod (e+1) (c.blocks.length:Int))))),.stop]) (obs:=_) hE.2.1 (hE.nogh _) Ql (by kernel_rfl) ho hg
theorem p37_2_6 (c:Cir) (row:(List Spt)) (queue:Nat) (v1:List Int) (v2:List ((List Int) × (Option (List Int)))) (v3:List (List Int)) (v4:List Int) (j:Nat) (g3:Nat) {E:Env} {rv:AV} (hE:Qn Try.prog 37 rv E) (ho:AllP [(decide ((j:Int)<(row.length:Int)))=false,1≤(v3.length - queue),(v3.length - queue)≤(v3.length - queue),(0:Int)≤1,g3=g3])
 (hg:G Try.prog E (f37K1 Try.prog) ⟨([J,J,.ptr 0 0 0]++jj 7 ([.int .i64 (row.length:Int),.mp 2 0 false,.sl 3 g3 ((queue*10)+10) ((v3.length - queue) - 1) 10]++Js 107)),[⟨true,0,1,true,[.rsl (Qk c.blocks) 0 c.blocks.length,.rsl (rowI c.cars) 0 c.cars.length],false⟩,⟨true,0,1,true,(rowI v1),false⟩,⟨true,0,0,true,(Xo v2),false⟩,⟨true,g3,10,true,(rowY v3),true⟩]⟩):G Try.prog E (qo Try.prog) (f37S2 c row queue v1 v2 v3 v4 j g3) :=
 Qg (n:=400) (ds:=[]) (cs:=[]) (live:=[2,10,11,12]) (m:=4) (evs:=[.b false,.stop]) (obs:=_) hE.2.1 (hE.nogh _) Ql (by kernel_rfl) ho hg
theorem f37W2 (c:Cir) (row:(List Spt)) (queue:Nat) (v1:List Int) (v2:List ((List Int) × (Option (List Int)))) (v3:List (List Int)) (v4:List Int) (j:Nat) {E:Env} {rv:((List Int) × Int)} (hE:Qn Try.prog 37 (.tup [.rsl (rowI rv.1) 0 rv.1.length,.int .i64 rv.2]) E)
 (h:(((j:Int)<(row.length:Int)→(v4.length=10∧(∃ e:Int,v4[j]?=some e∧((0≤(j:Int)∧(j:Int)<((10:Nat):Int))∧((I6 (e+1))∧((c.blocks.length:Int) ≠ 0∧(v4.length=10∧((0≤(j:Int)∧(j:Int)<((10:Nat):Int))∧((v4.set j (Int.tmod (e+1) (c.blocks.length:Int))).length=10∧(((Ws v2 (v4.set j (Int.tmod (e+1) (c.blocks.length:Int))))=true→(∃ mi:Nat,True∧(∃ me:((List Int) × (Option (List Int))),WyAt v2 (v4.set j (Int.tmod (e+1) (c.blocks.length:Int))) mi me∧((me.2.isSome=true→((I6 ((j:Int)+1))∧KA E c row queue v1 v2 v3 v4 (j+1)))∧(me.2.isSome=false→((I6 ((j:Int)+1))∧KA E c row queue v1 v2 v3 v4 (j+1)))))))∧((Ws v2 (v4.set j (Int.tmod (e+1) (c.blocks.length:Int))))=false→((Int.toNat (row.length:Int))≤10∧(v4.length=10∧(∃ e1:Int,(v4.set j (Int.tmod (e+1) (c.blocks.length:Int)))[j]?=some e1∧((0≤(j:Int)∧(j:Int)<((10:Nat):Int))∧(((v4.take (Int.toNat (row.length:Int))).length≤9223372036854775807)∧((((v4.take (Int.toNat (row.length:Int))).any (fun x=>e1 == x))=true→((I6 ((j:Int)+1))∧KA E c row queue v1 v2 v3 v4 (j+1)))∧(((v4.take (Int.toNat (row.length:Int))).any (fun x=>e1 == x))=false→((v4.set j (Int.tmod (e+1) (c.blocks.length:Int))).length=10∧(v4.length=10∧(((Ws v2 v4)=true→(∃ mi:Nat,True∧(∃ me:((List Int) × (Option (List Int))),WyAt v2 v4 mi me∧((me.2.isSome=true→(((me.2.getD []) ≠ []∧(me.2.getD []).length≤2147483648)∧(((me.2.getD []).length+1)≤2147483648∧((Ws v2 (v4.set j (Int.tmod (e+1) (c.blocks.length:Int))))=false∧((v4.set j (Int.tmod (e+1) (c.blocks.length:Int))).length=10∧(queue≤v3.length∧(((v3.length - queue)+1)≤2147483648∧((I6 ((j:Int)+1))∧KA E c row 0 v1 (v2++[((v4.set j (Int.tmod (e+1) (c.blocks.length:Int))),(some ((me.2.getD [])++[(j:Int)])))]) ((v3.drop queue)++[(v4.set j (Int.tmod (e+1) (c.blocks.length:Int)))]) v4 (j+1)))))))))∧(me.2.isSome=false→((Ws v2 (v4.set j (Int.tmod (e+1) (c.blocks.length:Int))))=false∧((v4.set j (Int.tmod (e+1) (c.blocks.length:Int))).length=10∧(queue≤v3.length∧(((v3.length - queue)+1)≤2147483648∧((I6 ((j:Int)+1))∧KA E c row 0 v1 (v2++[((v4.set j (Int.tmod (e+1) (c.blocks.length:Int))),(some ([(j:Int)])))]) ((v3.drop queue)++[(v4.set j (Int.tmod (e+1) (c.blocks.length:Int)))]) v4 (j+1)))))))))))∧((Ws v2 v4)=false→((Ws v2 (v4.set j (Int.tmod (e+1) (c.blocks.length:Int))))=false∧((v4.set j (Int.tmod (e+1) (c.blocks.length:Int))).length=10∧(queue≤v3.length∧(((v3.length - queue)+1)≤2147483648∧((I6 ((j:Int)+1))∧KA E c row 0 v1 (v2++[((v4.set j (Int.tmod (e+1) (c.blocks.length:Int))),(some ([(j:Int)])))]) ((v3.drop queue)++[(v4.set j (Int.tmod (e+1) (c.blocks.length:Int)))]) v4 (j+1))))))))))))))))))))))))))))∧(¬ ((j:Int)<(row.length:Int))→(1≤(v3.length - queue)∧f37G1 E c row v1 v2 (queue+1) v3)))):KA E c row queue v1 v2 v3 v4 j:=by
 intro g3
 rcases bft (decide ((j:Int)<(row.length:Int))) with hc0 | hc0
 · have h:=h.1 (odt hc0)
   obtain ⟨h1,h⟩:=h
   obtain ⟨e,h2,h⟩:=h
   obtain ⟨q4_1,h⟩:=h
   obtain ⟨q6_1,h⟩:=h
   obtain ⟨q7_1,h⟩:=h
   obtain ⟨h3,h⟩:=h
   obtain ⟨q9_1,h⟩:=h
   obtain ⟨h4,h⟩:=h
   rcases bft (Ws v2 (v4.set j (Int.tmod (e+1) (c.blocks.length:Int)))) with hc1 | hc1
   · have h:=h.1 hc1
     obtain ⟨mi,h5,h⟩:=h
     obtain ⟨me,h6,h⟩:=h
     rcases bft me.2.isSome with hc2 | hc2
     · have h:=h.1 hc2
       obtain ⟨q18_3,h⟩:=h
       exact p37_2_0 c row queue v1 v2 v3 v4 j g3 e mi me hE ⟨hc0,(Yd h1),(by decide),q4_1,(rp cI 1 0 1 h2),q6_1,q7_1,q9_1,(by rw [(show (kcI v4)=rowI v4 from Xh h3)]; exact rf cI 1 0 1 h2),(by rw [(show (kcI v4)=rowI v4 from Xh h3)]; rw [(show Qx (rowI v4) (0+(Int.toNat (j:Int))*1) [.int .i64 (Int.tmod (e+1) (c.blocks.length:Int))]=rowI (v4.set j (Int.tmod (e+1) (c.blocks.length:Int))) from QD cI (s:=1) (k:=0) (fun _=>rfl) h2 rfl (by first | decide | simp))]; exact (Yd h4)),(by have hx:=wyAt h6; rw [Ya hc2] at hx; exact hx),rfl,rfl,q18_3,trivial⟩ (h g3)
     · have h:=h.2 hc2
       obtain ⟨q18_3,h⟩:=h
       exact p37_2_1 c row queue v1 v2 v3 v4 j g3 e mi me hE ⟨hc0,(Yd h1),(by decide),q4_1,(rp cI 1 0 1 h2),q6_1,q7_1,q9_1,(by rw [(show (kcI v4)=rowI v4 from Xh h3)]; exact rf cI 1 0 1 h2),(by rw [(show (kcI v4)=rowI v4 from Xh h3)]; rw [(show Qx (rowI v4) (0+(Int.toNat (j:Int))*1) [.int .i64 (Int.tmod (e+1) (c.blocks.length:Int))]=rowI (v4.set j (Int.tmod (e+1) (c.blocks.length:Int))) from QD cI (s:=1) (k:=0) (fun _=>rfl) h2 rfl (by first | decide | simp))]; exact (Yd h4)),(by have hx:=wyAt h6; rw [VC hc2] at hx; exact hx),rfl,rfl,q18_3,trivial⟩ (h g3)
   · have h:=h.2 hc1
     obtain ⟨h5,h⟩:=h
     obtain ⟨h6,h⟩:=h
     obtain ⟨e1,h7,h⟩:=h
     obtain ⟨q20_2,h⟩:=h
     obtain ⟨h8,h⟩:=h
     rcases bft ((v4.take (Int.toNat (row.length:Int))).any (fun x=>e1 == x)) with hc2 | hc2
     · have h:=h.1 hc2
       obtain ⟨q24_3,h⟩:=h
       exact p37_2_2 c row queue v1 v2 v3 v4 j g3 e e1 hE ⟨hc0,(Yd h1),(by decide),q4_1,(rp cI 1 0 1 h2),q6_1,q7_1,q9_1,(by rw [(show (kcI v4)=rowI v4 from Xh h3)]; exact rf cI 1 0 1 h2),(by rw [(show (kcI v4)=rowI v4 from Xh h3)]; rw [(show Qx (rowI v4) (0+(Int.toNat (j:Int))*1) [.int .i64 (Int.tmod (e+1) (c.blocks.length:Int))]=rowI (v4.set j (Int.tmod (e+1) (c.blocks.length:Int))) from QD cI (s:=1) (k:=0) (fun _=>rfl) h2 rfl (by first | decide | simp))]; exact (Yd h4)),(Ka hc1),rfl,(Nat.zero_le _),h5,(by have hx:=Qv cI (s:=1) (fun _=>rfl) v4; simp only [rowI] at hx ⊢; rw [hx,h6]; decide),(by omega),q20_2,(by rw [(show (kcI v4)=rowI v4 from Xh h3)]; rw [(show Qx (rowI v4) (0+(Int.toNat (j:Int))*1) [.int .i64 (Int.tmod (e+1) (c.blocks.length:Int))]=rowI (v4.set j (Int.tmod (e+1) (c.blocks.length:Int))) from QD cI (s:=1) (k:=0) (fun _=>rfl) h2 rfl (by first | decide | simp))]; exact rp cI 1 0 1 h7),(Qd.le (args:=[.rsl (rowI (v4.take (Int.toNat (row.length:Int)))) 0 ((v4.take (Int.toNat (row.length:Int))).length),.int .i64 e1]) (u54 (Yg (v4.take (Int.toNat (row.length:Int))) e1 h8)) ⟨(by exact Yq cI (s:=1) (fun _=>rfl) (by omega)),⟨AvLe.of_eq rfl,trivial⟩⟩),hc2,q24_3,trivial⟩ (h g3)
     · have h:=h.2 hc2
       obtain ⟨h9,h⟩:=h
       obtain ⟨h10,h⟩:=h
       rcases bft (Ws v2 v4) with hc3 | hc3
       · have h:=h.1 hc3
         obtain ⟨mi,h11,h⟩:=h
         obtain ⟨me,h12,h⟩:=h
         rcases bft me.2.isSome with hc4 | hc4
         · have h:=h.1 hc4
           obtain ⟨h13,h⟩:=h
           obtain ⟨h14,h⟩:=h
           obtain ⟨h15,h⟩:=h
           obtain ⟨h16,h⟩:=h
           obtain ⟨h17,h⟩:=h
           obtain ⟨h18,h⟩:=h
           obtain ⟨q42_5,h⟩:=h
           refine p37_2_3 c row queue v1 v2 v3 v4 j g3 e e1 mi me hE ⟨hc0,(Yd h1),(by decide),q4_1,(rp cI 1 0 1 h2),q6_1,q7_1,q9_1,(by rw [(show (kcI v4)=rowI v4 from Xh h3)]; exact rf cI 1 0 1 h2),(by rw [(show (kcI v4)=rowI v4 from Xh h3)]; rw [(show Qx (rowI v4) (0+(Int.toNat (j:Int))*1) [.int .i64 (Int.tmod (e+1) (c.blocks.length:Int))]=rowI (v4.set j (Int.tmod (e+1) (c.blocks.length:Int))) from QD cI (s:=1) (k:=0) (fun _=>rfl) h2 rfl (by first | decide | simp))]; exact (Yd h4)),(Ka hc1),rfl,(Nat.zero_le _),h5,(by have hx:=Qv cI (s:=1) (fun _=>rfl) v4; simp only [rowI] at hx ⊢; rw [hx,h6]; decide),(by omega),q20_2,(by rw [(show (kcI v4)=rowI v4 from Xh h3)]; rw [(show Qx (rowI v4) (0+(Int.toNat (j:Int))*1) [.int .i64 (Int.tmod (e+1) (c.blocks.length:Int))]=rowI (v4.set j (Int.tmod (e+1) (c.blocks.length:Int))) from QD cI (s:=1) (k:=0) (fun _=>rfl) h2 rfl (by first | decide | simp))]; exact rp cI 1 0 1 h7),(Qd.le (args:=[.rsl (rowI (v4.take (Int.toNat (row.length:Int)))) 0 ((v4.take (Int.toNat (row.length:Int))).length),.int .i64 e1]) (u54 (Yg (v4.take (Int.toNat (row.length:Int))) e1 h8)) ⟨(by exact Yq cI (s:=1) (fun _=>rfl) (by omega)),⟨AvLe.of_eq rfl,trivial⟩⟩),hc2,(by rw [(show (kcI v4)=rowI v4 from Xh h3)]; rw [(show Qx (rowI v4) (0+(Int.toNat (j:Int))*1) [.int .i64 (Int.tmod (e+1) (c.blocks.length:Int))]=rowI (v4.set j (Int.tmod (e+1) (c.blocks.length:Int))) from QD cI (s:=1) (k:=0) (fun _=>rfl) h2 rfl (by first | decide | simp))]; exact (Yd h9)),(Yd h10),(by have hx:=wyAt h12; rw [Ya hc4] at hx; exact hx),(QaI Try.func64 (by kernel_rfl) f64b (clone_ok (me.2.getD []) h13) (by decide) (scal_Int (me.2.getD []))),rfl,rfl,(by have hx:=Qv cI (s:=1) (fun _=>rfl) (me.2.getD []); simp only [rowI] at hx ⊢; rw [hx]; simp),h14,rfl,(Ka h15),(by rw [(show (kcI v4)=rowI v4 from Xh h3)]; rw [(show Qx (rowI v4) (0+(Int.toNat (j:Int))*1) [.int .i64 (Int.tmod (e+1) (c.blocks.length:Int))]=rowI (v4.set j (Int.tmod (e+1) (c.blocks.length:Int))) from QD cI (s:=1) (k:=0) (fun _=>rfl) h2 rfl (by first | decide | simp))]; exact (Yd h16)),rfl,(by have hx:=Qv kcI (s:=10) (fun _=>rfl) v3; simp only [rowY] at hx ⊢; rw [hx]; omega),h18,rfl,q42_5,trivial⟩ ?_
           rw [(show AV.sl 3 (g3+1) 0 ((v3.length - queue)+1) 10=AV.sl 3 (g3+1) (0*10) (((v3.drop queue)++[(v4.set j (Int.tmod (e+1) (c.blocks.length:Int)))]).length - 0) 10 from sl_eq (by omega) (by first | rfl | omega | (simp; done) | (simp; omega)))]; rw [(show Xo v2++[.clos 0 [.agg (kcI (v4.set j (Int.tmod (e+1) (c.blocks.length:Int))))] [.rsl ((rowI (me.2.getD []))++[.int .i64 (j:Int)]) 0 ((me.2.getD []).length+1)]]=Xo (v2++[((v4.set j (Int.tmod (e+1) (c.blocks.length:Int))),(some ((me.2.getD [])++[(j:Int)])))]) from (by rw [(show AV.rsl ((rowI (me.2.getD []))++[.int .i64 (j:Int)]) 0 ((me.2.getD []).length+1)=AV.rsl (rowI ((me.2.getD [])++[(j:Int)])) 0 ((me.2.getD [])++[(j:Int)]).length from by rw [(show rowI (me.2.getD [])++[.int .i64 (j:Int)]=rowI ((me.2.getD [])++[(j:Int)]) from (Xw cI (me.2.getD []) [(j:Int)]).symm)]; rw [show ((me.2.getD []).length+1)=((me.2.getD [])++[(j:Int)]).length from by simp])]; exact (Xw cWyE v2 [((v4.set j (Int.tmod (e+1) (c.blocks.length:Int))),(some ((me.2.getD [])++[(j:Int)])))]).symm))]; rw [(show (rowY v3).drop (queue*10)=rowY (v3.drop queue) from qw kcI (fun _=>rfl) v3 queue)]; rw [(show rowY (v3.drop queue)++[.int .i64 ((v4.set j (Int.tmod (e+1) (c.blocks.length:Int))).getD 0 0),.int .i64 ((v4.set j (Int.tmod (e+1) (c.blocks.length:Int))).getD 1 0),.int .i64 ((v4.set j (Int.tmod (e+1) (c.blocks.length:Int))).getD 2 0),.int .i64 ((v4.set j (Int.tmod (e+1) (c.blocks.length:Int))).getD 3 0),.int .i64 ((v4.set j (Int.tmod (e+1) (c.blocks.length:Int))).getD 4 0),.int .i64 ((v4.set j (Int.tmod (e+1) (c.blocks.length:Int))).getD 5 0),.int .i64 ((v4.set j (Int.tmod (e+1) (c.blocks.length:Int))).getD 6 0),.int .i64 ((v4.set j (Int.tmod (e+1) (c.blocks.length:Int))).getD 7 0),.int .i64 ((v4.set j (Int.tmod (e+1) (c.blocks.length:Int))).getD 8 0),.int .i64 ((v4.set j (Int.tmod (e+1) (c.blocks.length:Int))).getD 9 0)]=rowY ((v3.drop queue)++[(v4.set j (Int.tmod (e+1) (c.blocks.length:Int)))]) from (Xw kcI (v3.drop queue) [(v4.set j (Int.tmod (e+1) (c.blocks.length:Int)))]).symm)]; exact (h (g3+1))
         · have h:=h.2 hc4
           obtain ⟨h13,h⟩:=h
           obtain ⟨h14,h⟩:=h
           obtain ⟨h15,h⟩:=h
           obtain ⟨h16,h⟩:=h
           obtain ⟨q40_5,h⟩:=h
           refine p37_2_4 c row queue v1 v2 v3 v4 j g3 e e1 mi me hE ⟨hc0,(Yd h1),(by decide),q4_1,(rp cI 1 0 1 h2),q6_1,q7_1,q9_1,(by rw [(show (kcI v4)=rowI v4 from Xh h3)]; exact rf cI 1 0 1 h2),(by rw [(show (kcI v4)=rowI v4 from Xh h3)]; rw [(show Qx (rowI v4) (0+(Int.toNat (j:Int))*1) [.int .i64 (Int.tmod (e+1) (c.blocks.length:Int))]=rowI (v4.set j (Int.tmod (e+1) (c.blocks.length:Int))) from QD cI (s:=1) (k:=0) (fun _=>rfl) h2 rfl (by first | decide | simp))]; exact (Yd h4)),(Ka hc1),rfl,(Nat.zero_le _),h5,(by have hx:=Qv cI (s:=1) (fun _=>rfl) v4; simp only [rowI] at hx ⊢; rw [hx,h6]; decide),(by omega),q20_2,(by rw [(show (kcI v4)=rowI v4 from Xh h3)]; rw [(show Qx (rowI v4) (0+(Int.toNat (j:Int))*1) [.int .i64 (Int.tmod (e+1) (c.blocks.length:Int))]=rowI (v4.set j (Int.tmod (e+1) (c.blocks.length:Int))) from QD cI (s:=1) (k:=0) (fun _=>rfl) h2 rfl (by first | decide | simp))]; exact rp cI 1 0 1 h7),(Qd.le (args:=[.rsl (rowI (v4.take (Int.toNat (row.length:Int)))) 0 ((v4.take (Int.toNat (row.length:Int))).length),.int .i64 e1]) (u54 (Yg (v4.take (Int.toNat (row.length:Int))) e1 h8)) ⟨(by exact Yq cI (s:=1) (fun _=>rfl) (by omega)),⟨AvLe.of_eq rfl,trivial⟩⟩),hc2,(by rw [(show (kcI v4)=rowI v4 from Xh h3)]; rw [(show Qx (rowI v4) (0+(Int.toNat (j:Int))*1) [.int .i64 (Int.tmod (e+1) (c.blocks.length:Int))]=rowI (v4.set j (Int.tmod (e+1) (c.blocks.length:Int))) from QD cI (s:=1) (k:=0) (fun _=>rfl) h2 rfl (by first | decide | simp))]; exact (Yd h9)),(Yd h10),(by have hx:=wyAt h12; rw [VC hc4] at hx; exact hx),(u64 cloneN_ok),(fun k=>by simp [slOf]),(by decide),rfl,(Ka h13),(by rw [(show (kcI v4)=rowI v4 from Xh h3)]; rw [(show Qx (rowI v4) (0+(Int.toNat (j:Int))*1) [.int .i64 (Int.tmod (e+1) (c.blocks.length:Int))]=rowI (v4.set j (Int.tmod (e+1) (c.blocks.length:Int))) from QD cI (s:=1) (k:=0) (fun _=>rfl) h2 rfl (by first | decide | simp))]; exact (Yd h14)),rfl,(by have hx:=Qv kcI (s:=10) (fun _=>rfl) v3; simp only [rowY] at hx ⊢; rw [hx]; omega),h16,rfl,q40_5,trivial⟩ ?_
           rw [(show AV.sl 3 (g3+1) 0 ((v3.length - queue)+1) 10=AV.sl 3 (g3+1) (0*10) (((v3.drop queue)++[(v4.set j (Int.tmod (e+1) (c.blocks.length:Int)))]).length - 0) 10 from sl_eq (by omega) (by first | rfl | omega | (simp; done) | (simp; omega)))]; rw [(show Xo v2++[.clos 0 [.agg (kcI (v4.set j (Int.tmod (e+1) (c.blocks.length:Int))))] [.rsl [.int .i64 (j:Int)] 0 1]]=Xo (v2++[((v4.set j (Int.tmod (e+1) (c.blocks.length:Int))),(some ([(j:Int)])))]) from (Xw cWyE v2 [((v4.set j (Int.tmod (e+1) (c.blocks.length:Int))),(some ([(j:Int)])))]).symm)]; rw [(show (rowY v3).drop (queue*10)=rowY (v3.drop queue) from qw kcI (fun _=>rfl) v3 queue)]; rw [(show rowY (v3.drop queue)++[.int .i64 ((v4.set j (Int.tmod (e+1) (c.blocks.length:Int))).getD 0 0),.int .i64 ((v4.set j (Int.tmod (e+1) (c.blocks.length:Int))).getD 1 0),.int .i64 ((v4.set j (Int.tmod (e+1) (c.blocks.length:Int))).getD 2 0),.int .i64 ((v4.set j (Int.tmod (e+1) (c.blocks.length:Int))).getD 3 0),.int .i64 ((v4.set j (Int.tmod (e+1) (c.blocks.length:Int))).getD 4 0),.int .i64 ((v4.set j (Int.tmod (e+1) (c.blocks.length:Int))).getD 5 0),.int .i64 ((v4.set j (Int.tmod (e+1) (c.blocks.length:Int))).getD 6 0),.int .i64 ((v4.set j (Int.tmod (e+1) (c.blocks.length:Int))).getD 7 0),.int .i64 ((v4.set j (Int.tmod (e+1) (c.blocks.length:Int))).getD 8 0),.int .i64 ((v4.set j (Int.tmod (e+1) (c.blocks.length:Int))).getD 9 0)]=rowY ((v3.drop queue)++[(v4.set j (Int.tmod (e+1) (c.blocks.length:Int)))]) from (Xw kcI (v3.drop queue) [(v4.set j (Int.tmod (e+1) (c.blocks.length:Int)))]).symm)]; exact (h (g3+1))
       · have h:=h.2 hc3
         obtain ⟨h11,h⟩:=h
         obtain ⟨h12,h⟩:=h
         obtain ⟨h13,h⟩:=h
         obtain ⟨h14,h⟩:=h
         obtain ⟨q38_4,h⟩:=h
         refine p37_2_5 c row queue v1 v2 v3 v4 j g3 e e1 hE ⟨hc0,(Yd h1),(by decide),q4_1,(rp cI 1 0 1 h2),q6_1,q7_1,q9_1,(by rw [(show (kcI v4)=rowI v4 from Xh h3)]; exact rf cI 1 0 1 h2),(by rw [(show (kcI v4)=rowI v4 from Xh h3)]; rw [(show Qx (rowI v4) (0+(Int.toNat (j:Int))*1) [.int .i64 (Int.tmod (e+1) (c.blocks.length:Int))]=rowI (v4.set j (Int.tmod (e+1) (c.blocks.length:Int))) from QD cI (s:=1) (k:=0) (fun _=>rfl) h2 rfl (by first | decide | simp))]; exact (Yd h4)),(Ka hc1),rfl,(Nat.zero_le _),h5,(by have hx:=Qv cI (s:=1) (fun _=>rfl) v4; simp only [rowI] at hx ⊢; rw [hx,h6]; decide),(by omega),q20_2,(by rw [(show (kcI v4)=rowI v4 from Xh h3)]; rw [(show Qx (rowI v4) (0+(Int.toNat (j:Int))*1) [.int .i64 (Int.tmod (e+1) (c.blocks.length:Int))]=rowI (v4.set j (Int.tmod (e+1) (c.blocks.length:Int))) from QD cI (s:=1) (k:=0) (fun _=>rfl) h2 rfl (by first | decide | simp))]; exact rp cI 1 0 1 h7),(Qd.le (args:=[.rsl (rowI (v4.take (Int.toNat (row.length:Int)))) 0 ((v4.take (Int.toNat (row.length:Int))).length),.int .i64 e1]) (u54 (Yg (v4.take (Int.toNat (row.length:Int))) e1 h8)) ⟨(by exact Yq cI (s:=1) (fun _=>rfl) (by omega)),⟨AvLe.of_eq rfl,trivial⟩⟩),hc2,(by rw [(show (kcI v4)=rowI v4 from Xh h3)]; rw [(show Qx (rowI v4) (0+(Int.toNat (j:Int))*1) [.int .i64 (Int.tmod (e+1) (c.blocks.length:Int))]=rowI (v4.set j (Int.tmod (e+1) (c.blocks.length:Int))) from QD cI (s:=1) (k:=0) (fun _=>rfl) h2 rfl (by first | decide | simp))]; exact (Yd h9)),(Yd h10),(Ka hc3),(u64 cloneN_ok),(fun k=>by simp [slOf]),(by decide),rfl,(Ka h11),(by rw [(show (kcI v4)=rowI v4 from Xh h3)]; rw [(show Qx (rowI v4) (0+(Int.toNat (j:Int))*1) [.int .i64 (Int.tmod (e+1) (c.blocks.length:Int))]=rowI (v4.set j (Int.tmod (e+1) (c.blocks.length:Int))) from QD cI (s:=1) (k:=0) (fun _=>rfl) h2 rfl (by first | decide | simp))]; exact (Yd h12)),rfl,(by have hx:=Qv kcI (s:=10) (fun _=>rfl) v3; simp only [rowY] at hx ⊢; rw [hx]; omega),h14,rfl,q38_4,trivial⟩ ?_
         rw [(show AV.sl 3 (g3+1) 0 ((v3.length - queue)+1) 10=AV.sl 3 (g3+1) (0*10) (((v3.drop queue)++[(v4.set j (Int.tmod (e+1) (c.blocks.length:Int)))]).length - 0) 10 from sl_eq (by omega) (by first | rfl | omega | (simp; done) | (simp; omega)))]; rw [(show Xo v2++[.clos 0 [.agg (kcI (v4.set j (Int.tmod (e+1) (c.blocks.length:Int))))] [.rsl [.int .i64 (j:Int)] 0 1]]=Xo (v2++[((v4.set j (Int.tmod (e+1) (c.blocks.length:Int))),(some ([(j:Int)])))]) from (Xw cWyE v2 [((v4.set j (Int.tmod (e+1) (c.blocks.length:Int))),(some ([(j:Int)])))]).symm)]; rw [(show (rowY v3).drop (queue*10)=rowY (v3.drop queue) from qw kcI (fun _=>rfl) v3 queue)]; rw [(show rowY (v3.drop queue)++[.int .i64 ((v4.set j (Int.tmod (e+1) (c.blocks.length:Int))).getD 0 0),.int .i64 ((v4.set j (Int.tmod (e+1) (c.blocks.length:Int))).getD 1 0),.int .i64 ((v4.set j (Int.tmod (e+1) (c.blocks.length:Int))).getD 2 0),.int .i64 ((v4.set j (Int.tmod (e+1) (c.blocks.length:Int))).getD 3 0),.int .i64 ((v4.set j (Int.tmod (e+1) (c.blocks.length:Int))).getD 4 0),.int .i64 ((v4.set j (Int.tmod (e+1) (c.blocks.length:Int))).getD 5 0),.int .i64 ((v4.set j (Int.tmod (e+1) (c.blocks.length:Int))).getD 6 0),.int .i64 ((v4.set j (Int.tmod (e+1) (c.blocks.length:Int))).getD 7 0),.int .i64 ((v4.set j (Int.tmod (e+1) (c.blocks.length:Int))).getD 8 0),.int .i64 ((v4.set j (Int.tmod (e+1) (c.blocks.length:Int))).getD 9 0)]=rowY ((v3.drop queue)++[(v4.set j (Int.tmod (e+1) (c.blocks.length:Int)))]) from (Xw kcI (v3.drop queue) [(v4.set j (Int.tmod (e+1) (c.blocks.length:Int)))]).symm)]; exact (h (g3+1))
 · have h:=h.2 (odf hc0)
   obtain ⟨q1_1,h⟩:=h
   refine p37_2_6 c row queue v1 v2 v3 v4 j g3 hE ⟨hc0,q1_1,(Nat.le_refl _),(by decide),rfl,trivial⟩ ?_
   rw [(show AV.sl 3 g3 ((queue*10)+10) ((v3.length - queue) - 1) 10=AV.sl 3 g3 ((queue+1)*10) (v3.length - (queue+1)) 10 from sl_eq (by omega) (by first | rfl | omega | (simp; done) | (simp; omega)))]; exact (h g3)
theorem f38b:Try.f38.body=some (Qh Try.prog 38):=by kernel_rfl
theorem u38 {a c k:List AV} {r:AV} (h:Pure Try.prog 38 (a++c++k) r):Qd Try.prog (.clos 38 a k) c r:=QQ Try.func38 (by kernel_rfl) f38b h
def f38K0 (P:Program):List Item:=kAt 400 [.code (Qh P 38)] [.b false,.b false,.stop]
def f38S0 (c:Cir) (row:(List Spt)) (v1:List Int) (i:Nat) (g1:Nat):St:=⟨([J,.rsl (Qb row) 0 row.length,.ptr 0 0 0,J,J,J,J,.sl 1 g1 0 v1.length 1,.int .i64 (i:Int)]++Js 129),[⟨true,0,1,true,[.rsl (Qk c.blocks) 0 c.blocks.length,.rsl (rowI c.cars) 0 c.cars.length],false⟩,⟨true,g1,1,true,(rowI v1),true⟩]⟩
def f38G0 (E:Env) (c:Cir) (row:(List Spt)) (v1:List Int) (i:Nat):Prop:=∀ g1:Nat,G Try.prog E (f38K0 Try.prog) (f38S0 c row v1 i g1)
def f38K1 (P:Program):List Item:=kAt 400 [.code (Qh P 38)] [.b false,.b false,.b false,.b false,.stop]
def f38S1 (c:Cir) (row:(List Spt)) (begin:(List Int)) (v4:List (Int × Int)) (v2:List (List Int)) (v3:List (List Int)) (i:Nat) (g2:Nat) (g3:Nat) (g1:Nat):St:=⟨([J,J,.ptr 0 0 0,J,J,J,J,.rsl (rowI begin) 0 begin.length,J,.sl 2 g2 0 v2.length 1,.sl 3 g3 0 v3.length 1,.mp 4 0 false,.int .i64 (i:Int)]++Js 125),[⟨true,0,1,true,[.rsl (Qk c.blocks) 0 c.blocks.length,.rsl (rowI c.cars) 0 c.cars.length],false⟩,⟨false,g1,1,true,[],false⟩,⟨true,g2,1,true,((Xc rowI) v2),true⟩,⟨true,g3,1,true,((Xc rowI) v3),true⟩,⟨true,0,0,true,(Yb v4),false⟩]⟩
def f38G1 (E:Env) (c:Cir) (row:(List Spt)) (begin:(List Int)) (v4:List (Int × Int)) (v2:List (List Int)) (v3:List (List Int)) (i:Nat):Prop:=∀ g2 g3 g1:Nat,G Try.prog E (f38K1 Try.prog) (f38S1 c row begin v4 v2 v3 i g2 g3 g1)
def f38K2 (P:Program):List Item:=kAt 400 [.code (Qh P 38)] [.b false,.b false,.b false,.b false,.b true,.stop]
def f38S2 (c:Cir) (row:(List Spt)) (begin:(List Int)) (v4:List (Int × Int)) (walk:Bool) (k:Nat) (i:Nat) (v2:List (List Int)) (v3:List (List Int)) (g2:Nat) (g3:Nat) (g1:Nat):St:=⟨([J,J,.ptr 0 0 0,J,J,J,J,.rsl (rowI begin) 0 begin.length,J,.sl 2 g2 0 v2.length 1,.sl 3 g3 0 v3.length 1,.mp 4 0 false,.int .i64 (i:Int),.bool walk,.int .i64 (k:Int)]++Js 123),[⟨true,0,1,true,[.rsl (Qk c.blocks) 0 c.blocks.length,.rsl (rowI c.cars) 0 c.cars.length],false⟩,⟨false,g1,1,true,[],false⟩,⟨true,g2,1,true,((Xc rowI) v2),true⟩,⟨true,g3,1,true,((Xc rowI) v3),true⟩,⟨true,0,0,true,(Yb v4),false⟩]⟩
def f38G2 (E:Env) (c:Cir) (row:(List Spt)) (begin:(List Int)) (v4:List (Int × Int)) (walk:Bool) (k:Nat) (i:Nat) (v2:List (List Int)) (v3:List (List Int)):Prop:=∀ g2 g3 g1:Nat,G Try.prog E (f38K2 Try.prog) (f38S2 c row begin v4 walk k i v2 v3 g2 g3 g1)
def Kz (P:Program):List Item:=kAt 400 [.code (Qh P 38)] [.b false,.b false,.b false,.b false,.b true,.b false,.b false,.stop]
def f38S3 (c:Cir) (row:(List Spt)) (begin:(List Int)) (v4:List (Int × Int)) (v2:List (List Int)) (v3:List (List Int)) (k:Nat) (i:Nat) (g2:Nat) (g3:Nat) (g1:Nat):St:=⟨([J,J,.ptr 0 0 0,J,J,J,J,.rsl (rowI begin) 0 begin.length,J,.sl 2 g2 0 v2.length 1,.sl 3 g3 0 v3.length 1,.mp 4 0 false,.int .i64 (i:Int),J,J,.int .i64 (k:Int)]++Js 122),[⟨true,0,1,true,[.rsl (Qk c.blocks) 0 c.blocks.length,.rsl (rowI c.cars) 0 c.cars.length],false⟩,⟨false,g1,1,true,[],false⟩,⟨true,g2,1,true,((Xc rowI) v2),true⟩,⟨true,g3,1,true,((Xc rowI) v3),true⟩,⟨true,0,0,true,(Yb v4),false⟩]⟩
def f38G3 (E:Env) (c:Cir) (row:(List Spt)) (begin:(List Int)) (v4:List (Int × Int)) (v2:List (List Int)) (v3:List (List Int)) (k:Nat) (i:Nat):Prop:=∀ g2 g3 g1:Nat,G Try.prog E (Kz Try.prog) (f38S3 c row begin v4 v2 v3 k i g2 g3 g1)
abbrev Wp (c:Cir):List AV:=[.rsl (Qk c.blocks) 0 c.blocks.length,.rsl (rowI c.cars) 0 c.cars.length]
abbrev z38_2 (c:Cir) (g1:Nat) (g2:Nat) (v2:List (List Int)) (g3:Nat) (v3:List (List Int)) (v4:List (Int × Int)):List Blk:=[⟨true,0,1,true,(Wp c),false⟩,⟨false,g1,1,true,[],false⟩,⟨true,g2,1,true,((Xc rowI) v2),true⟩,⟨true,g3,1,true,((Xc rowI) v3),true⟩,⟨true,0,0,true,(Yb v4),false⟩]
abbrev qd (le:(List Int)) (k:Nat) (e:Int) (c:Cir):AV:=.int .i64 (keyI (le.set k (Int.tmod (e+1) (c.blocks.length:Int))))
abbrev z38_4 (c:Cir) (le:(List Int)) (k:Nat) (e:Int):AV:=.bool (QY c.blocks.length (le.set k (Int.tmod (e+1) (c.blocks.length:Int))))
abbrev yX (e:Int) (c:Cir):List AV:=[.int .i64 (Int.tmod (e+1) (c.blocks.length:Int))]
theorem p38_start_0 (c:Cir) (row:(List Spt)) {E:Env} {res:AV} (hE:Qn Try.prog 38 res E) (ho:AllP [Qd Try.prog (.clos 26 [] []) [.agg (Wp c)] (.int .i64 (QK c)),((QK c) != 0)=true])
 (hr:AvLe (.tup [.nilSl,.int .i64 (QK c)]) res):G Try.prog E [.code (Qh Try.prog 38)] ⟨[.agg (Wp c),.rsl (Qb row) 0 row.length]++unds (Try.f38.ntmps - 2),[]⟩ :=
 Qf (n:=400) (evs:=[.v (.int .i64 (QK c)),.b true]) (obs:=_) hE Try.func38 Ql (by kernel_rfl) ho hr
theorem p38_start_1 (c:Cir) (row:(List Spt)) {E:Env} {res:AV} (hE:Qn Try.prog 38 res E) (ho:AllP [Qd Try.prog (.clos 26 [] []) [.agg (Wp c)] (.int .i64 (QK c)),((QK c) != 0)=false,((row.length:Int) != (c.cars.length:Int))=true])
 (hr:AvLe (.tup [.nilSl,.int .i64 1]) res):G Try.prog E [.code (Qh Try.prog 38)] ⟨[.agg (Wp c),.rsl (Qb row) 0 row.length]++unds (Try.f38.ntmps - 2),[]⟩ :=
 Qf (n:=400) (evs:=[.v (.int .i64 (QK c)),.b false,.b true]) (obs:=_) hE Try.func38 Ql (by kernel_rfl) ho hr
theorem p38_start_2 (c:Cir) (row:(List Spt)) {E:Env} {rv:AV} (hE:Qn Try.prog 38 rv E) (ho:AllP [Qd Try.prog (.clos 26 [] []) [.agg (Wp c)] (.int .i64 (QK c)),((QK c) != 0)=false,((row.length:Int) != (c.cars.length:Int))=false])
 (hg:G Try.prog E (f38K0 Try.prog) ⟨([J,.rsl (Qb row) 0 row.length,.ptr 0 0 0,J,J,J,J,.sl 1 0 0 0 1,.int .i64 0]++Js 129),[⟨true,0,1,true,(Wp c),false⟩,⟨true,0,1,true,[],true⟩]⟩):G Try.prog E [.code (Qh Try.prog 38)] ⟨[.agg (Wp c),.rsl (Qb row) 0 row.length]++unds (Try.f38.ntmps - 2),[]⟩ :=
 Qg (n:=400) (ds:=[(7,1)]) (cs:=[]) (live:=[1,2,7,8]) (m:=2) (evs:=[.v (.int .i64 (QK c)),.b false,.b false,.stop]) (obs:=_) hE.2.1 (hE.nogh _) Ql (by kernel_rfl) ho hg
theorem f38W (c:Cir) (row:(List Spt)) {E:Env} {rv:((List Int) × Int)} (hE:Qn Try.prog 38 (.tup [.rsl (rowI rv.1) 0 rv.1.length,.int .i64 rv.2]) E)
 (h:((c.blocks.length≤9223372036854775807∧c.cars.length≤9223372036854775807)∧((¬ ((QK c)=0)→rv=(([]:List Int),(QK c)))∧((QK c)=0→((¬ ((row.length:Int)=(c.cars.length:Int))→rv=(([]:List Int),1))∧((row.length:Int)=(c.cars.length:Int)→f38G0 E c row ([]) 0)))))):G Try.prog E [.code (Qh Try.prog 38)] ⟨[.agg [.rsl (Qk c.blocks) 0 c.blocks.length,.rsl (rowI c.cars) 0 c.cars.length],.rsl (Qb row) 0 row.length]++unds (Try.f38.ntmps - 2),[]⟩:=by
 obtain ⟨h1,h⟩:=h
 rcases bft ((QK c) != 0) with hc0 | hc0
 · have h:=h.1 (bneT hc0)
   exact p38_start_0 c row hE ⟨(u26 (KJ c h1)),hc0,trivial⟩ (by rw [h]; exact (Vk ⟨Xr,⟨AvLe.of_eq rfl,trivial⟩⟩))
 · have h:=h.2 (bneF hc0)
   rcases bft ((row.length:Int) != (c.cars.length:Int)) with hc1 | hc1
   · have h:=h.1 (bneT hc1)
     exact p38_start_1 c row hE ⟨(u26 (KJ c h1)),hc0,hc1,trivial⟩ (by rw [h]; exact (Vk ⟨Xr,⟨AvLe.of_eq rfl,trivial⟩⟩))
   · have h:=h.2 (bneF hc1)
     exact p38_start_2 c row hE ⟨(u26 (KJ c h1)),hc0,hc1,trivial⟩ (h 0)
theorem p38_0_0 (c:Cir) (row:(List Spt)) (v1:List Int) (i:Nat) (g1:Nat) (se:Spt) {E:Env} {rv:AV} (hE:Qn Try.prog 38 rv E) (ho:AllP [(decide ((i:Int)<(row.length:Int)))=true,0≤(i:Int)∧(i:Int)<(row.length:Int),((Qb row).drop ((0+(Int.toNat (i:Int))*3)+0)).take 1=[.int .i64 se.block],g1=g1,(0+(v1.length*1))=(rowI v1).length,(v1.length+1)≤2147483648,0=0,InR .i64 ((i:Int)+1)])
 (hg:G Try.prog E (f38K0 Try.prog) ⟨([J,.rsl (Qb row) 0 row.length,.ptr 0 0 0,J,J,J,J,.sl 1 (g1+1) 0 (v1.length+1) 1,.int .i64 ((i:Int)+1)]++Js 129),[⟨true,0,1,true,(Wp c),false⟩,⟨true,(g1+1),1,true,((rowI v1)++[.int .i64 se.block]),true⟩]⟩):G Try.prog E (f38K0 Try.prog) (f38S0 c row v1 i g1) :=
 Qg (n:=400) (ds:=[]) (cs:=[]) (live:=[1,2,7,8]) (m:=2) (evs:=[.b true,.ld (.int .i64 se.block),.stop]) (obs:=_) hE.2.1 (hE.nogh _) Ql (by kernel_rfl) ho hg
theorem p38_0_1 (c:Cir) (row:(List Spt)) (v1:List Int) (i:Nat) (g1:Nat) {E:Env} {res:AV} (hE:Qn Try.prog 38 res E) (ho:AllP [(decide ((i:Int)<(row.length:Int)))=false,Qd Try.prog (.clos 51 [] []) [.agg (Wp c),.rsl (rowI v1) 0 v1.length] (.bool (QY c.blocks.length v1)),g1=g1,(!(QY c.blocks.length v1))=true])
 (hr:AvLe (.tup [.nilSl,.int .i64 1]) res):G Try.prog E (f38K0 Try.prog) (f38S0 c row v1 i g1) :=
 Qf (n:=400) (evs:=[.b false,.v (.bool (QY c.blocks.length v1)),.b true]) (obs:=_) hE Try.func38 Ql (by kernel_rfl) ho hr
theorem p38_0_2 (c:Cir) (row:(List Spt)) (v1:List Int) (i:Nat) (g1:Nat) {E:Env} {rv:AV} (hE:Qn Try.prog 38 rv E) (ho:AllP [(decide ((i:Int)<(row.length:Int)))=false,Qd Try.prog (.clos 51 [] []) [.agg (Wp c),.rsl (rowI v1) 0 v1.length] (.bool (QY c.blocks.length v1)),g1=g1,(!(QY c.blocks.length v1))=false,g1=g1,Qd Try.prog (.clos 65 [] []) [.rsl (rowI v1) 0 v1.length] (.int .i64 (keyI v1)),Ym Try.prog 3 (.int .i64 (keyI v1)) (Yb ([]:List (Int × Int)))])
 (hg:G Try.prog E (f38K1 Try.prog) ⟨([J,J,.ptr 0 0 0,J,J,J,J,.rsl (rowI v1) 0 v1.length,J,.sl 2 0 0 1 1,.sl 3 0 0 1 1,.mp 4 0 false,.int .i64 0]++Js 125),[⟨true,0,1,true,(Wp c),false⟩,⟨false,(g1+1),1,true,[],false⟩,⟨true,0,1,true,[.rsl (rowI v1) 0 v1.length],true⟩,⟨true,0,1,true,[.nilSl],true⟩,⟨true,0,0,true,((Yb ([]:List (Int × Int)))++[.clos 0 [.int .i64 (keyI v1)] [.int .i64 1]]),false⟩]⟩):G Try.prog E (f38K0 Try.prog) (f38S0 c row v1 i g1) :=
 Qg (n:=400) (ds:=[]) (cs:=[]) (live:=[2,7,9,10,11,12]) (m:=5) (evs:=[.b false,.v (.bool (QY c.blocks.length v1)),.b false,.wt 7,.v (.int .i64 (keyI v1)),.stop]) (obs:=_) hE.2.1 (hE.nogh _) Ql (by kernel_rfl) ho hg
theorem f38W0 (c:Cir) (row:(List Spt)) (v1:List Int) (i:Nat) {E:Env} {rv:((List Int) × Int)} (hE:Qn Try.prog 38 (.tup [.rsl (rowI rv.1) 0 rv.1.length,.int .i64 rv.2]) E)
 (h:(((i:Int)<(row.length:Int)→(∃ se:Spt,row[i]?=some se∧((v1.length+1)≤2147483648∧((I6 ((i:Int)+1))∧f38G0 E c row (v1++[se.block]) (i+1)))))∧(¬ ((i:Int)<(row.length:Int))→((c.blocks.length≤9223372036854775807∧v1.length≤9223372036854775807)∧(((QY c.blocks.length v1)=false→rv=(([]:List Int),1))∧((QY c.blocks.length v1)=true→((v1.length≤12∧∀ x ∈ v1,0≤x∧x≤11)∧((KU ([]:List (Int × Int)) (keyI v1))=false∧f38G1 E c row v1 (([]:List (Int × Int))++[(keyI v1,1)]) ([v1]) ([([]:List Int)]) 0)))))))):f38G0 E c row v1 i:=by
 intro g1
 rcases bft (decide ((i:Int)<(row.length:Int))) with hc0 | hc0
 · have h:=h.1 (odt hc0)
   obtain ⟨se,h1,h⟩:=h
   obtain ⟨h2,h⟩:=h
   obtain ⟨q8_1,h⟩:=h
   refine p38_0_0 c row v1 i g1 se hE ⟨hc0,(Qp h1),(rp cSpt 3 0 1 h1),rfl,(by have hx:=Qv cI (s:=1) (fun _=>rfl) v1; simp only [rowI] at hx ⊢; rw [hx]; simp),h2,rfl,q8_1,trivial⟩ ?_
   rw [(show rowI v1++[.int .i64 se.block]=rowI (v1++[se.block]) from (Xw cI v1 [se.block]).symm)]; rw [(show (v1.length+1)=(v1++[se.block]).length from by simp)]; exact (h (g1+1))
 · have h:=h.2 (odf hc0)
   obtain ⟨h1,h⟩:=h
   rcases bft (!(QY c.blocks.length v1)) with hc1 | hc1
   · have h:=h.1 (bnT hc1)
     exact p38_0_1 c row v1 i g1 hE ⟨hc0,(u51 (YU c v1 h1)),rfl,hc1,trivial⟩ (by rw [h]; exact (Vk ⟨Xr,⟨AvLe.of_eq rfl,trivial⟩⟩))
   · have h:=h.2 (bnF hc1)
     obtain ⟨h2,h⟩:=h
     obtain ⟨h3,h⟩:=h
     refine p38_0_2 c row v1 i g1 hE ⟨hc0,(u51 (YU c v1 h1)),rfl,hc1,rfl,(u65 (qW v1 h2)),(knNew h3),trivial⟩ ?_
     refine weakB_step (k:=3) (cells':=((Xc rowI) [([]:List Int)])) rfl rfl (by simp) rfl ⟨Xr,rfl,rfl,trivial⟩ ?_
     simp only [List.set_cons_succ,List.set_cons_zero]
     rw [(show Yb ([]:List (Int × Int))++[.clos 0 [.int .i64 (keyI v1)] [.int .i64 1]]=Yb (([]:List (Int × Int))++[(keyI v1,1)]) from (Xw cKnE ([]:List (Int × Int)) [(keyI v1,1)]).symm)]; exact (h 0 0 (g1+1))
theorem p38_1_0 (c:Cir) (row:(List Spt)) (begin:(List Int)) (v4:List (Int × Int)) (v2:List (List Int)) (v3:List (List Int)) (i:Nat) (g2:Nat) (g3:Nat) (g1:Nat) {E:Env} {rv:AV} (hE:Qn Try.prog 38 rv E) (ho:AllP [g2=g2,(decide ((i:Int)<(v2.length:Int)))=true])
 (hg:G Try.prog E (f38K2 Try.prog) ⟨([J,J,.ptr 0 0 0,J,J,J,J,.rsl (rowI begin) 0 begin.length,J,.sl 2 g2 0 v2.length 1,.sl 3 g3 0 v3.length 1,.mp 4 0 false,.int .i64 (i:Int),.bool true,.int .i64 0]++Js 123),(z38_2 c g1 g2 v2 g3 v3 v4)⟩):G Try.prog E (f38K1 Try.prog) (f38S1 c row begin v4 v2 v3 i g2 g3 g1) :=
 Qg (n:=400) (ds:=[]) (cs:=[]) (live:=[2,7,9,10,11,12,13,14]) (m:=5) (evs:=[.b true,.stop]) (obs:=_) hE.2.1 (hE.nogh _) Ql (by kernel_rfl) ho hg
theorem p38_1_1 (c:Cir) (row:(List Spt)) (begin:(List Int)) (v4:List (Int × Int)) (v2:List (List Int)) (v3:List (List Int)) (i:Nat) (g2:Nat) (g3:Nat) (g1:Nat) {E:Env} {res:AV} (hE:Qn Try.prog 38 res E) (ho:AllP [g2=g2,(decide ((i:Int)<(v2.length:Int)))=false])
 (hr:AvLe (.tup [.nilSl,.int .i64 3]) res):G Try.prog E (f38K1 Try.prog) (f38S1 c row begin v4 v2 v3 i g2 g3 g1) :=
 Qf (n:=400) (evs:=[.b false]) (obs:=_) hE Try.func38 Ql (by kernel_rfl) ho hr
theorem f38W1 (c:Cir) (row:(List Spt)) (begin:(List Int)) (v4:List (Int × Int)) (v2:List (List Int)) (v3:List (List Int)) (i:Nat) {E:Env} {rv:((List Int) × Int)} (hE:Qn Try.prog 38 (.tup [.rsl (rowI rv.1) 0 rv.1.length,.int .i64 rv.2]) E)
 (h:(((i:Int)<(v2.length:Int)→f38G2 E c row begin v4 true 0 i v2 v3)∧(¬ ((i:Int)<(v2.length:Int))→rv=(([]:List Int),3)))):f38G1 E c row begin v4 v2 v3 i:=by
 intro g2 g3 g1
 rcases bft (decide ((i:Int)<(v2.length:Int))) with hc0 | hc0
 · have h:=h.1 (odt hc0)
   exact p38_1_0 c row begin v4 v2 v3 i g2 g3 g1 hE ⟨rfl,hc0,trivial⟩ (h g2 g3 g1)
 · have h:=h.2 (odf hc0)
   exact p38_1_1 c row begin v4 v2 v3 i g2 g3 g1 hE ⟨rfl,hc0,trivial⟩ (by rw [h]; exact (Vk ⟨Xr,⟨AvLe.of_eq rfl,trivial⟩⟩))
theorem p38_2_0 (c:Cir) (row:(List Spt)) (begin:(List Int)) (v4:List (Int × Int)) (walk:Bool) (k:Nat) (i:Nat) (v2:List (List Int)) (v3:List (List Int)) (g2:Nat) (g3:Nat) (g1:Nat) (le:(List Int)) (e:Int) (be:Bk) {E:Env} {rv:AV} (hE:Qn Try.prog 38 rv E) (ho:AllP [(decide ((k:Int)<(begin.length:Int)))=true,walk=true,0≤(i:Int)∧(i:Int)<(v2.length:Int),g2=g2,g2=g2,(((Xc rowI) v2).drop (0+(Int.toNat (i:Int))*1)).take 1=[.rsl (rowI le) 0 le.length],0≤(k:Int)∧(k:Int)<(le.length:Int),((rowI le).drop (0+(Int.toNat (k:Int))*1)).take 1=[.int .i64 e],0≤e∧e<(c.blocks.length:Int),((Qk c.blocks).drop ((0+(Int.toNat e)*4)+3)).take 1=[.bool be.walk],InR .i64 ((k:Int)+1)])
 (hg:G Try.prog E (f38K2 Try.prog) ⟨([J,J,.ptr 0 0 0,J,J,J,J,.rsl (rowI begin) 0 begin.length,J,.sl 2 g2 0 v2.length 1,.sl 3 g3 0 v3.length 1,.mp 4 0 false,.int .i64 (i:Int),.bool be.walk,.int .i64 ((k:Int)+1)]++Js 123),(z38_2 c g1 g2 v2 g3 v3 v4)⟩):G Try.prog E (f38K2 Try.prog) (f38S2 c row begin v4 walk k i v2 v3 g2 g3 g1) :=
 Qg (n:=400) (ds:=[]) (cs:=[]) (live:=[2,7,9,10,11,12,13,14]) (m:=5) (evs:=[.b true,.b true,.auto,.ld (.rsl (rowI le) 0 le.length),.ld (.int .i64 e),.ld (.bool be.walk),.stop]) (obs:=_) hE.2.1 (hE.nogh _) Ql (by kernel_rfl) ho hg
theorem p38_2_1 (c:Cir) (row:(List Spt)) (begin:(List Int)) (v4:List (Int × Int)) (walk:Bool) (k:Nat) (i:Nat) (v2:List (List Int)) (v3:List (List Int)) (g2:Nat) (g3:Nat) (g1:Nat) {E:Env} {rv:AV} (hE:Qn Try.prog 38 rv E) (ho:AllP [(decide ((k:Int)<(begin.length:Int)))=true,walk=false,InR .i64 ((k:Int)+1)])
 (hg:G Try.prog E (f38K2 Try.prog) ⟨([J,J,.ptr 0 0 0,J,J,J,J,.rsl (rowI begin) 0 begin.length,J,.sl 2 g2 0 v2.length 1,.sl 3 g3 0 v3.length 1,.mp 4 0 false,.int .i64 (i:Int),.bool false,.int .i64 ((k:Int)+1)]++Js 123),(z38_2 c g1 g2 v2 g3 v3 v4)⟩):G Try.prog E (f38K2 Try.prog) (f38S2 c row begin v4 walk k i v2 v3 g2 g3 g1) :=
 Qg (n:=400) (ds:=[]) (cs:=[]) (live:=[2,7,9,10,11,12,13,14]) (m:=5) (evs:=[.b true,.b false,.stop]) (obs:=_) hE.2.1 (hE.nogh _) Ql (by kernel_rfl) ho hg
theorem p38_2_2 (c:Cir) (row:(List Spt)) (begin:(List Int)) (v4:List (Int × Int)) (walk:Bool) (k:Nat) (i:Nat) (v2:List (List Int)) (v3:List (List Int)) (g2:Nat) (g3:Nat) (g1:Nat) (le:(List Int)) {E:Env} {res:AV} (hE:Qn Try.prog 38 res E) (ho:AllP [(decide ((k:Int)<(begin.length:Int)))=false,walk=true,0≤(i:Int)∧(i:Int)<(v3.length:Int),g3=g3,g3=g3,(((Xc rowI) v3).drop (0+(Int.toNat (i:Int))*1)).take 1=[.rsl (rowI le) 0 le.length]])
 (hr:AvLe (.tup [.rsl (rowI le) 0 le.length,.int .i64 0]) res):G Try.prog E (f38K2 Try.prog) (f38S2 c row begin v4 walk k i v2 v3 g2 g3 g1) :=
 Qf (n:=400) (evs:=[.b false,.b true,.ld (.rsl (rowI le) 0 le.length)]) (obs:=_) hE Try.func38 Ql (by kernel_rfl) ho hr
theorem p38_2_3 (c:Cir) (row:(List Spt)) (begin:(List Int)) (v4:List (Int × Int)) (walk:Bool) (k:Nat) (i:Nat) (v2:List (List Int)) (v3:List (List Int)) (g2:Nat) (g3:Nat) (g1:Nat) {E:Env} {rv:AV} (hE:Qn Try.prog 38 rv E) (ho:AllP [(decide ((k:Int)<(begin.length:Int)))=false,walk=false])
 (hg:G Try.prog E (Kz Try.prog) ⟨([J,J,.ptr 0 0 0,J,J,J,J,.rsl (rowI begin) 0 begin.length,J,.sl 2 g2 0 v2.length 1,.sl 3 g3 0 v3.length 1,.mp 4 0 false,.int .i64 (i:Int),J,J,.int .i64 0]++Js 122),(z38_2 c g1 g2 v2 g3 v3 v4)⟩):G Try.prog E (f38K2 Try.prog) (f38S2 c row begin v4 walk k i v2 v3 g2 g3 g1) :=
 Qg (n:=400) (ds:=[]) (cs:=[]) (live:=[2,7,9,10,11,12,15]) (m:=5) (evs:=[.b false,.b false,.stop]) (obs:=_) hE.2.1 (hE.nogh _) Ql (by kernel_rfl) ho hg
theorem f38W2 (c:Cir) (row:(List Spt)) (begin:(List Int)) (v4:List (Int × Int)) (walk:Bool) (k:Nat) (i:Nat) (v2:List (List Int)) (v3:List (List Int)) {E:Env} {rv:((List Int) × Int)} (hE:Qn Try.prog 38 (.tup [.rsl (rowI rv.1) 0 rv.1.length,.int .i64 rv.2]) E)
 (h:(((k:Int)<(begin.length:Int)→((walk=true→(∃ le:(List Int),v2[i]?=some le∧(∃ e:Int,le[k]?=some e∧(0≤e∧(∃ be:Bk,c.blocks[Int.toNat e]?=some be∧((I6 ((k:Int)+1))∧f38G2 E c row begin v4 be.walk (k+1) i v2 v3))))))∧(walk=false→((I6 ((k:Int)+1))∧f38G2 E c row begin v4 false (k+1) i v2 v3))))∧(¬ ((k:Int)<(begin.length:Int))→((walk=true→(∃ le:(List Int),v3[i]?=some le∧rv=(le,0)))∧(walk=false→f38G3 E c row begin v4 v2 v3 0 i))))):f38G2 E c row begin v4 walk k i v2 v3:=by
 intro g2 g3 g1
 rcases bft (decide ((k:Int)<(begin.length:Int))) with hc0 | hc0
 · have h:=h.1 (odt hc0)
   rcases bft walk with hc1 | hc1
   · have h:=h.1 hc1
     obtain ⟨le,h1,h⟩:=h
     obtain ⟨e,h2,h⟩:=h
     obtain ⟨h4,h⟩:=h
     obtain ⟨be,h3,h⟩:=h
     obtain ⟨q13_2,h⟩:=h
     exact p38_2_0 c row begin v4 walk k i v2 v3 g2 g3 g1 le e be hE ⟨hc0,hc1,(Qp h1),rfl,rfl,(rp (cLs rowI) 1 0 1 h1),(Qp h2),(rp cI 1 0 1 h2),(QG h4 h3),(rp cBk 4 3 1 h3),q13_2,trivial⟩ (h g2 g3 g1)
   · have h:=h.2 hc1
     obtain ⟨q2_2,h⟩:=h
     exact p38_2_1 c row begin v4 walk k i v2 v3 g2 g3 g1 hE ⟨hc0,hc1,q2_2,trivial⟩ (h g2 g3 g1)
 · have h:=h.2 (odf hc0)
   rcases bft walk with hc1 | hc1
   · have h:=h.1 hc1
     obtain ⟨le,h1,h⟩:=h
     exact p38_2_2 c row begin v4 walk k i v2 v3 g2 g3 g1 le hE ⟨hc0,hc1,(Qp h1),rfl,rfl,(rp (cLs rowI) 1 0 1 h1),trivial⟩ (AvLe.of_eq (by rw [h]; try rfl))
   · have h:=h.2 hc1
     exact p38_2_3 c row begin v4 walk k i v2 v3 g2 g3 g1 hE ⟨hc0,hc1,trivial⟩ (h g2 g3 g1)
theorem p38_3_0 (c:Cir) (row:(List Spt)) (begin:(List Int)) (v4:List (Int × Int)) (v2:List (List Int)) (v3:List (List Int)) (k:Nat) (i:Nat) (g2:Nat) (g3:Nat) (g1:Nat) (le:(List Int)) (e:Int) (mi:Nat) (me:(Int × Int)) (le1:(List Int)) {E:Env} {rv:AV} (hE:Qn Try.prog 38 rv E) (ho:AllP [(decide ((k:Int)<(begin.length:Int)))=true,0≤(i:Int)∧(i:Int)<(v2.length:Int),g2=g2,g2=g2,(((Xc rowI) v2).drop (0+(Int.toNat (i:Int))*1)).take 1=[.rsl (rowI le) 0 le.length],0=0,0=0,(0+le.length)≤2147483648,((rowI le).drop 0).take (le.length*1)=(rowI le),(rowI le).length=(le.length*1),noRefs (rowI le)=true,0≤(k:Int)∧(k:Int)<(((0+le.length):Nat):Int),1=1,1=1,((rowI le).drop (0+(Int.toNat (k:Int))*1)).take 1=[.int .i64 e],InR .i64 (e+1),(c.blocks.length:Int) ≠ 0,0≤(k:Int)∧(k:Int)<(((0+le.length):Nat):Int),1=1,((0+(Int.toNat (k:Int))*1)+1)≤(rowI le).length,1=1,Qd Try.prog (.clos 51 [] []) [.agg (Wp c),.rsl (Qx (rowI le) (0+(Int.toNat (k:Int))*1) (yX e c)) 0 (0+le.length)] (z38_4 c le k e),1=1,(QY c.blocks.length (le.set k (Int.tmod (e+1) (c.blocks.length:Int))))=true,Qd Try.prog (.clos 65 [] []) [.rsl (Qx (rowI le) (0+(Int.toNat (k:Int))*1) (yX e c)) 0 (0+le.length)] (qd le k e c),1=1,yh Try.prog 3 (qd le k e c) (Yb v4) mi (.int .i64 me.2),(me.2 == 0)=true,Qd Try.prog (.clos 65 [] []) [.rsl (Qx (rowI le) (0+(Int.toNat (k:Int))*1) (yX e c)) 0 (0+le.length)] (qd le k e c),1=1,1=1,Ym Try.prog 3 (qd le k e c) (Yb v4),g2=g2,(0+(v2.length*1))=((Xc rowI) v2).length,(v2.length+1)≤2147483648,0=0,0≤(i:Int)∧(i:Int)<(v3.length:Int),g3=g3,g3=g3,(((Xc rowI) v3).drop (0+(Int.toNat (i:Int))*1)).take 1=[.rsl (rowI le1) 0 le1.length],0=0,0=0,(0+le1.length)≤2147483648,((rowI le1).drop 0).take (le1.length*1)=(rowI le1),(rowI le1).length=(le1.length*1),noRefs (rowI le1)=true,1=1,(0+((0+le1.length)*1))=(rowI le1).length,((0+le1.length)+1)≤2147483648,0=0,2=2,g3=g3,(0+(v3.length*1))=((Xc rowI) v3).length,(v3.length+1)≤2147483648,0=0,InR .i64 ((k:Int)+1)])
 (hg:G Try.prog E (Kz Try.prog) ⟨([J,J,.ptr 0 0 0,J,J,J,J,.rsl (rowI begin) 0 begin.length,J,.sl 2 (g2+1) 0 (v2.length+1) 1,.sl 3 (g3+1) 0 (v3.length+1) 1,.mp 4 0 false,.int .i64 (i:Int),J,J,.int .i64 ((k:Int)+1)]++Js 122),[⟨true,0,1,true,(Wp c),false⟩,⟨false,g1,1,true,[],false⟩,⟨true,(g2+1),1,true,(((Xc rowI) v2)++[.rsl (Qx (rowI le) (0+(Int.toNat (k:Int))*1) (yX e c)) 0 (0+le.length)]),true⟩,⟨true,(g3+1),1,true,(((Xc rowI) v3)++[.rsl ((rowI le1)++[.int .i64 (k:Int)]) 0 ((0+le1.length)+1)]),true⟩,⟨true,0,0,true,((Yb v4)++[.clos 0 [.int .i64 (keyI (le.set k (Int.tmod (e+1) (c.blocks.length:Int))))] [.int .i64 1]]),false⟩]⟩):G Try.prog E (Kz Try.prog) (f38S3 c row begin v4 v2 v3 k i g2 g3 g1) :=
 Qg (n:=400) (ds:=[]) (cs:=[]) (live:=[2,7,9,10,11,12,15]) (m:=5) (evs:=[.b true,.ld (.rsl (rowI le) 0 le.length),.cs (rowI le),.ld (.int .i64 e),.v (z38_4 c le k e),.b true,.v (qd le k e c),.mfound mi (.int .i64 me.2),.b true,.v (qd le k e c),.wt 16,.ld (.rsl (rowI le1) 0 le1.length),.cs (rowI le1),.wt 135,.stop]) (obs:=_) hE.2.1 (hE.nogh _) Ql (by kernel_rfl) ho hg
theorem p38_3_1 (c:Cir) (row:(List Spt)) (begin:(List Int)) (v4:List (Int × Int)) (v2:List (List Int)) (v3:List (List Int)) (k:Nat) (i:Nat) (g2:Nat) (g3:Nat) (g1:Nat) (le:(List Int)) (e:Int) (mi:Nat) (me:(Int × Int)) {E:Env} {rv:AV} (hE:Qn Try.prog 38 rv E) (ho:AllP [(decide ((k:Int)<(begin.length:Int)))=true,0≤(i:Int)∧(i:Int)<(v2.length:Int),g2=g2,g2=g2,(((Xc rowI) v2).drop (0+(Int.toNat (i:Int))*1)).take 1=[.rsl (rowI le) 0 le.length],0=0,0=0,(0+le.length)≤2147483648,((rowI le).drop 0).take (le.length*1)=(rowI le),(rowI le).length=(le.length*1),noRefs (rowI le)=true,0≤(k:Int)∧(k:Int)<(((0+le.length):Nat):Int),1=1,1=1,((rowI le).drop (0+(Int.toNat (k:Int))*1)).take 1=[.int .i64 e],InR .i64 (e+1),(c.blocks.length:Int) ≠ 0,0≤(k:Int)∧(k:Int)<(((0+le.length):Nat):Int),1=1,((0+(Int.toNat (k:Int))*1)+1)≤(rowI le).length,1=1,Qd Try.prog (.clos 51 [] []) [.agg (Wp c),.rsl (Qx (rowI le) (0+(Int.toNat (k:Int))*1) (yX e c)) 0 (0+le.length)] (z38_4 c le k e),1=1,(QY c.blocks.length (le.set k (Int.tmod (e+1) (c.blocks.length:Int))))=true,Qd Try.prog (.clos 65 [] []) [.rsl (Qx (rowI le) (0+(Int.toNat (k:Int))*1) (yX e c)) 0 (0+le.length)] (qd le k e c),1=1,yh Try.prog 3 (qd le k e c) (Yb v4) mi (.int .i64 me.2),(me.2 == 0)=false,InR .i64 ((k:Int)+1)])
 (hg:G Try.prog E (Kz Try.prog) ⟨([J,J,.ptr 0 0 0,J,J,J,J,.rsl (rowI begin) 0 begin.length,J,.sl 2 g2 0 v2.length 1,.sl 3 g3 0 v3.length 1,.mp 4 0 false,.int .i64 (i:Int),J,J,.int .i64 ((k:Int)+1)]++Js 122),(z38_2 c g1 g2 v2 g3 v3 v4)⟩):G Try.prog E (Kz Try.prog) (f38S3 c row begin v4 v2 v3 k i g2 g3 g1) :=
 Qg (n:=400) (ds:=[]) (cs:=[]) (live:=[2,7,9,10,11,12,15]) (m:=5) (evs:=[.b true,.ld (.rsl (rowI le) 0 le.length),.cs (rowI le),.ld (.int .i64 e),.v (z38_4 c le k e),.b true,.v (qd le k e c),.mfound mi (.int .i64 me.2),.b false,.stop]) (obs:=_) hE.2.1 (hE.nogh _) Ql (by kernel_rfl) ho hg
theorem p38_3_2 (c:Cir) (row:(List Spt)) (begin:(List Int)) (v4:List (Int × Int)) (v2:List (List Int)) (v3:List (List Int)) (k:Nat) (i:Nat) (g2:Nat) (g3:Nat) (g1:Nat) (le:(List Int)) (e:Int) (le1:(List Int)) {E:Env} {rv:AV} (hE:Qn Try.prog 38 rv E) (ho:AllP [(decide ((k:Int)<(begin.length:Int)))=true,0≤(i:Int)∧(i:Int)<(v2.length:Int),g2=g2,g2=g2,(((Xc rowI) v2).drop (0+(Int.toNat (i:Int))*1)).take 1=[.rsl (rowI le) 0 le.length],0=0,0=0,(0+le.length)≤2147483648,((rowI le).drop 0).take (le.length*1)=(rowI le),(rowI le).length=(le.length*1),noRefs (rowI le)=true,0≤(k:Int)∧(k:Int)<(((0+le.length):Nat):Int),1=1,1=1,((rowI le).drop (0+(Int.toNat (k:Int))*1)).take 1=[.int .i64 e],InR .i64 (e+1),(c.blocks.length:Int) ≠ 0,0≤(k:Int)∧(k:Int)<(((0+le.length):Nat):Int),1=1,((0+(Int.toNat (k:Int))*1)+1)≤(rowI le).length,1=1,Qd Try.prog (.clos 51 [] []) [.agg (Wp c),.rsl (Qx (rowI le) (0+(Int.toNat (k:Int))*1) (yX e c)) 0 (0+le.length)] (z38_4 c le k e),1=1,(QY c.blocks.length (le.set k (Int.tmod (e+1) (c.blocks.length:Int))))=true,Qd Try.prog (.clos 65 [] []) [.rsl (Qx (rowI le) (0+(Int.toNat (k:Int))*1) (yX e c)) 0 (0+le.length)] (qd le k e c),1=1,Ym Try.prog 3 (qd le k e c) (Yb v4),true=true,Qd Try.prog (.clos 65 [] []) [.rsl (Qx (rowI le) (0+(Int.toNat (k:Int))*1) (yX e c)) 0 (0+le.length)] (qd le k e c),1=1,1=1,Ym Try.prog 3 (qd le k e c) (Yb v4),g2=g2,(0+(v2.length*1))=((Xc rowI) v2).length,(v2.length+1)≤2147483648,0=0,0≤(i:Int)∧(i:Int)<(v3.length:Int),g3=g3,g3=g3,(((Xc rowI) v3).drop (0+(Int.toNat (i:Int))*1)).take 1=[.rsl (rowI le1) 0 le1.length],0=0,0=0,(0+le1.length)≤2147483648,((rowI le1).drop 0).take (le1.length*1)=(rowI le1),(rowI le1).length=(le1.length*1),noRefs (rowI le1)=true,1=1,(0+((0+le1.length)*1))=(rowI le1).length,((0+le1.length)+1)≤2147483648,0=0,2=2,g3=g3,(0+(v3.length*1))=((Xc rowI) v3).length,(v3.length+1)≤2147483648,0=0,InR .i64 ((k:Int)+1)])
 (hg:G Try.prog E (Kz Try.prog) ⟨([J,J,.ptr 0 0 0,J,J,J,J,.rsl (rowI begin) 0 begin.length,J,.sl 2 (g2+1) 0 (v2.length+1) 1,.sl 3 (g3+1) 0 (v3.length+1) 1,.mp 4 0 false,.int .i64 (i:Int),J,J,.int .i64 ((k:Int)+1)]++Js 122),[⟨true,0,1,true,(Wp c),false⟩,⟨false,g1,1,true,[],false⟩,⟨true,(g2+1),1,true,(((Xc rowI) v2)++[.rsl (Qx (rowI le) (0+(Int.toNat (k:Int))*1) (yX e c)) 0 (0+le.length)]),true⟩,⟨true,(g3+1),1,true,(((Xc rowI) v3)++[.rsl ((rowI le1)++[.int .i64 (k:Int)]) 0 ((0+le1.length)+1)]),true⟩,⟨true,0,0,true,((Yb v4)++[.clos 0 [.int .i64 (keyI (le.set k (Int.tmod (e+1) (c.blocks.length:Int))))] [.int .i64 1]]),false⟩]⟩):G Try.prog E (Kz Try.prog) (f38S3 c row begin v4 v2 v3 k i g2 g3 g1) :=
 Qg (n:=400) (ds:=[]) (cs:=[]) (live:=[2,7,9,10,11,12,15]) (m:=5) (evs:=[.b true,.ld (.rsl (rowI le) 0 le.length),.cs (rowI le),.ld (.int .i64 e),.v (z38_4 c le k e),.b true,.v (qd le k e c),.mnone,.b true,.v (qd le k e c),.wt 16,.ld (.rsl (rowI le1) 0 le1.length),.cs (rowI le1),.wt 135,.stop]) (obs:=_) hE.2.1 (hE.nogh _) Ql (by kernel_rfl) ho hg
theorem p38_3_3 (c:Cir) (row:(List Spt)) (begin:(List Int)) (v4:List (Int × Int)) (v2:List (List Int)) (v3:List (List Int)) (k:Nat) (i:Nat) (g2:Nat) (g3:Nat) (g1:Nat) (le:(List Int)) (e:Int) {E:Env} {rv:AV} (hE:Qn Try.prog 38 rv E) (ho:AllP [(decide ((k:Int)<(begin.length:Int)))=true,0≤(i:Int)∧(i:Int)<(v2.length:Int),g2=g2,g2=g2,(((Xc rowI) v2).drop (0+(Int.toNat (i:Int))*1)).take 1=[.rsl (rowI le) 0 le.length],0=0,0=0,(0+le.length)≤2147483648,((rowI le).drop 0).take (le.length*1)=(rowI le),(rowI le).length=(le.length*1),noRefs (rowI le)=true,0≤(k:Int)∧(k:Int)<(((0+le.length):Nat):Int),1=1,1=1,((rowI le).drop (0+(Int.toNat (k:Int))*1)).take 1=[.int .i64 e],InR .i64 (e+1),(c.blocks.length:Int) ≠ 0,0≤(k:Int)∧(k:Int)<(((0+le.length):Nat):Int),1=1,((0+(Int.toNat (k:Int))*1)+1)≤(rowI le).length,1=1,Qd Try.prog (.clos 51 [] []) [.agg (Wp c),.rsl (Qx (rowI le) (0+(Int.toNat (k:Int))*1) (yX e c)) 0 (0+le.length)] (z38_4 c le k e),1=1,(QY c.blocks.length (le.set k (Int.tmod (e+1) (c.blocks.length:Int))))=false,false=false,InR .i64 ((k:Int)+1)])
 (hg:G Try.prog E (Kz Try.prog) ⟨([J,J,.ptr 0 0 0,J,J,J,J,.rsl (rowI begin) 0 begin.length,J,.sl 2 g2 0 v2.length 1,.sl 3 g3 0 v3.length 1,.mp 4 0 false,.int .i64 (i:Int),J,J,.int .i64 ((k:Int)+1)]++Js 122),(z38_2 c g1 g2 v2 g3 v3 v4)⟩):G Try.prog E (Kz Try.prog) (f38S3 c row begin v4 v2 v3 k i g2 g3 g1) :=
 Qg (n:=400) (ds:=[]) (cs:=[]) (live:=[2,7,9,10,11,12,15]) (m:=5) (evs:=[.b true,.ld (.rsl (rowI le) 0 le.length),.cs (rowI le),.ld (.int .i64 e),.v (z38_4 c le k e),.b false,.b false,.stop]) (obs:=_) hE.2.1 (hE.nogh _) Ql (by kernel_rfl) ho hg
theorem p38_3_4 (c:Cir) (row:(List Spt)) (begin:(List Int)) (v4:List (Int × Int)) (v2:List (List Int)) (v3:List (List Int)) (k:Nat) (i:Nat) (g2:Nat) (g3:Nat) (g1:Nat) {E:Env} {rv:AV} (hE:Qn Try.prog 38 rv E) (ho:AllP [(decide ((k:Int)<(begin.length:Int)))=false,InR .i64 ((i:Int)+1)])
 (hg:G Try.prog E (f38K1 Try.prog) ⟨([J,J,.ptr 0 0 0,J,J,J,J,.rsl (rowI begin) 0 begin.length,J,.sl 2 g2 0 v2.length 1,.sl 3 g3 0 v3.length 1,.mp 4 0 false,.int .i64 ((i:Int)+1)]++Js 125),(z38_2 c g1 g2 v2 g3 v3 v4)⟩):G Try.prog E (Kz Try.prog) (f38S3 c row begin v4 v2 v3 k i g2 g3 g1) :=
 Qg (n:=400) (ds:=[]) (cs:=[]) (live:=[2,7,9,10,11,12]) (m:=5) (evs:=[.b false,.stop]) (obs:=_) hE.2.1 (hE.nogh _) Ql (by kernel_rfl) ho hg
theorem f38W3 (c:Cir) (row:(List Spt)) (begin:(List Int)) (v4:List (Int × Int)) (v2:List (List Int)) (v3:List (List Int)) (k:Nat) (i:Nat) {E:Env} {rv:((List Int) × Int)} (hE:Qn Try.prog 38 (.tup [.rsl (rowI rv.1) 0 rv.1.length,.int .i64 rv.2]) E)
 (h:(((k:Int)<(begin.length:Int)→(∃ le:(List Int),v2[i]?=some le∧((0+le.length)≤2147483648∧(∃ e:Int,le[k]?=some e∧((I6 (e+1))∧((c.blocks.length:Int) ≠ 0∧((c.blocks.length≤9223372036854775807∧(le.set k (Int.tmod (e+1) (c.blocks.length:Int))).length≤9223372036854775807)∧(((QY c.blocks.length (le.set k (Int.tmod (e+1) (c.blocks.length:Int))))=true→(((le.set k (Int.tmod (e+1) (c.blocks.length:Int))).length≤12∧∀ x ∈ (le.set k (Int.tmod (e+1) (c.blocks.length:Int))),0≤x∧x≤11)∧(((KU v4 (keyI (le.set k (Int.tmod (e+1) (c.blocks.length:Int)))))=true→(∃ mi:Nat,True∧(∃ me:(Int × Int),KnAt v4 (keyI (le.set k (Int.tmod (e+1) (c.blocks.length:Int)))) mi me∧((me.2=0→(((le.set k (Int.tmod (e+1) (c.blocks.length:Int))).length≤12∧∀ x ∈ (le.set k (Int.tmod (e+1) (c.blocks.length:Int))),0≤x∧x≤11)∧((KU v4 (keyI (le.set k (Int.tmod (e+1) (c.blocks.length:Int)))))=false∧((v2.length+1)≤2147483648∧(∃ le1:(List Int),v3[i]?=some le1∧((0+le1.length)≤2147483648∧(((0+le1.length)+1)≤2147483648∧((v3.length+1)≤2147483648∧((I6 ((k:Int)+1))∧f38G3 E c row begin (v4++[((keyI (le.set k (Int.tmod (e+1) (c.blocks.length:Int)))),1)]) (v2++[(le.set k (Int.tmod (e+1) (c.blocks.length:Int)))]) (v3++[(le1++[(k:Int)])]) (k+1) i)))))))))∧(¬ (me.2=0)→((I6 ((k:Int)+1))∧f38G3 E c row begin v4 v2 v3 (k+1) i))))))∧((KU v4 (keyI (le.set k (Int.tmod (e+1) (c.blocks.length:Int)))))=false→(((le.set k (Int.tmod (e+1) (c.blocks.length:Int))).length≤12∧∀ x ∈ (le.set k (Int.tmod (e+1) (c.blocks.length:Int))),0≤x∧x≤11)∧((KU v4 (keyI (le.set k (Int.tmod (e+1) (c.blocks.length:Int)))))=false∧((v2.length+1)≤2147483648∧(∃ le1:(List Int),v3[i]?=some le1∧((0+le1.length)≤2147483648∧(((0+le1.length)+1)≤2147483648∧((v3.length+1)≤2147483648∧((I6 ((k:Int)+1))∧f38G3 E c row begin (v4++[((keyI (le.set k (Int.tmod (e+1) (c.blocks.length:Int)))),1)]) (v2++[(le.set k (Int.tmod (e+1) (c.blocks.length:Int)))]) (v3++[(le1++[(k:Int)])]) (k+1) i))))))))))))∧((QY c.blocks.length (le.set k (Int.tmod (e+1) (c.blocks.length:Int))))=false→((I6 ((k:Int)+1))∧f38G3 E c row begin v4 v2 v3 (k+1) i))))))))))∧(¬ ((k:Int)<(begin.length:Int))→((I6 ((i:Int)+1))∧f38G1 E c row begin v4 v2 v3 (i+1))))):f38G3 E c row begin v4 v2 v3 k i:=by
 intro g2 g3 g1
 rcases bft (decide ((k:Int)<(begin.length:Int))) with hc0 | hc0
 · have h:=h.1 (odt hc0)
   obtain ⟨le,h1,h⟩:=h
   obtain ⟨h2,h⟩:=h
   obtain ⟨e,h3,h⟩:=h
   obtain ⟨q17_1,h⟩:=h
   obtain ⟨q18_1,h⟩:=h
   obtain ⟨h4,h⟩:=h
   rcases bft (QY c.blocks.length (le.set k (Int.tmod (e+1) (c.blocks.length:Int)))) with hc1 | hc1
   · have h:=h.1 hc1
     obtain ⟨h5,h⟩:=h
     rcases bft (KU v4 (keyI (le.set k (Int.tmod (e+1) (c.blocks.length:Int))))) with hc2 | hc2
     · have h:=h.1 hc2
       obtain ⟨mi,h6,h⟩:=h
       obtain ⟨me,h7,h⟩:=h
       rcases bft (me.2 == 0) with hc3 | hc3
       · have h:=h.1 (eq_of_beq hc3)
         obtain ⟨h8,h⟩:=h
         obtain ⟨h9,h⟩:=h
         obtain ⟨h10,h⟩:=h
         obtain ⟨le1,h11,h⟩:=h
         obtain ⟨h12,h⟩:=h
         obtain ⟨h13,h⟩:=h
         obtain ⟨h14,h⟩:=h
         obtain ⟨q60_4,h⟩:=h
         refine p38_3_0 c row begin v4 v2 v3 k i g2 g3 g1 le e mi me le1 hE ⟨hc0,(Qp h1),rfl,rfl,(rp (cLs rowI) 1 0 1 h1),rfl,rfl,h2,(by exact QL cI (fun _=>rfl) le),(by exact Qv cI (fun _=>rfl) le),(by exact QS cI (fun _=>rfl) le),(by have hx:=Qp h3; simpa using hx),rfl,rfl,(rp cI 1 0 1 h3),q17_1,q18_1,(by have hx:=Qp h3; simpa using hx),rfl,(rf cI 1 0 1 h3),rfl,(by rw [(show AV.rsl (Qx (rowI le) (0+(Int.toNat (k:Int))*1) [.int .i64 (Int.tmod (e+1) (c.blocks.length:Int))]) 0 (0+le.length)=AV.rsl (rowI (le.set k (Int.tmod (e+1) (c.blocks.length:Int)))) 0 (le.set k (Int.tmod (e+1) (c.blocks.length:Int))).length from by rw [(show Qx (rowI le) (0+(Int.toNat (k:Int))*1) [.int .i64 (Int.tmod (e+1) (c.blocks.length:Int))]=rowI (le.set k (Int.tmod (e+1) (c.blocks.length:Int))) from QD cI (s:=1) (k:=0) (fun _=>rfl) h3 rfl (by first | decide | simp))]; rw [show (0+le.length)=(le.set k (Int.tmod (e+1) (c.blocks.length:Int))).length from by simp])]; exact (u51 (YU c (le.set k (Int.tmod (e+1) (c.blocks.length:Int))) h4))),rfl,hc1,(by rw [(show AV.rsl (Qx (rowI le) (0+(Int.toNat (k:Int))*1) [.int .i64 (Int.tmod (e+1) (c.blocks.length:Int))]) 0 (0+le.length)=AV.rsl (rowI (le.set k (Int.tmod (e+1) (c.blocks.length:Int)))) 0 (le.set k (Int.tmod (e+1) (c.blocks.length:Int))).length from by rw [(show Qx (rowI le) (0+(Int.toNat (k:Int))*1) [.int .i64 (Int.tmod (e+1) (c.blocks.length:Int))]=rowI (le.set k (Int.tmod (e+1) (c.blocks.length:Int))) from QD cI (s:=1) (k:=0) (fun _=>rfl) h3 rfl (by first | decide | simp))]; rw [show (0+le.length)=(le.set k (Int.tmod (e+1) (c.blocks.length:Int))).length from by simp])]; exact (u65 (qW (le.set k (Int.tmod (e+1) (c.blocks.length:Int))) h5))),rfl,(knAt h7),hc3,(by rw [(show AV.rsl (Qx (rowI le) (0+(Int.toNat (k:Int))*1) [.int .i64 (Int.tmod (e+1) (c.blocks.length:Int))]) 0 (0+le.length)=AV.rsl (rowI (le.set k (Int.tmod (e+1) (c.blocks.length:Int)))) 0 (le.set k (Int.tmod (e+1) (c.blocks.length:Int))).length from by rw [(show Qx (rowI le) (0+(Int.toNat (k:Int))*1) [.int .i64 (Int.tmod (e+1) (c.blocks.length:Int))]=rowI (le.set k (Int.tmod (e+1) (c.blocks.length:Int))) from QD cI (s:=1) (k:=0) (fun _=>rfl) h3 rfl (by first | decide | simp))]; rw [show (0+le.length)=(le.set k (Int.tmod (e+1) (c.blocks.length:Int))).length from by simp])]; exact (u65 (qW (le.set k (Int.tmod (e+1) (c.blocks.length:Int))) h8))),rfl,rfl,(knNew h9),rfl,(by have hx:=Qv (cLs rowI) (s:=1) (fun _=>rfl) v2; simp only [Xc] at hx ⊢; rw [hx]; simp),h10,rfl,(Qp h11),rfl,rfl,(rp (cLs rowI) 1 0 1 h11),rfl,rfl,h12,(by exact QL cI (fun _=>rfl) le1),(by exact Qv cI (fun _=>rfl) le1),(by exact QS cI (fun _=>rfl) le1),rfl,(by have hx:=Qv cI (s:=1) (fun _=>rfl) le1; simp only [rowI] at hx ⊢; rw [hx]; simp),h13,rfl,rfl,rfl,(by have hx:=Qv (cLs rowI) (s:=1) (fun _=>rfl) v3; simp only [Xc] at hx ⊢; rw [hx]; simp),h14,rfl,q60_4,trivial⟩ ?_
         rw [(show Yb v4++[.clos 0 [.int .i64 (keyI (le.set k (Int.tmod (e+1) (c.blocks.length:Int))))] [.int .i64 1]]=Yb (v4++[((keyI (le.set k (Int.tmod (e+1) (c.blocks.length:Int)))),1)]) from (Xw cKnE v4 [((keyI (le.set k (Int.tmod (e+1) (c.blocks.length:Int)))),1)]).symm)]; rw [(show (Xc rowI) v2++[.rsl (Qx (rowI le) (0+(Int.toNat (k:Int))*1) [.int .i64 (Int.tmod (e+1) (c.blocks.length:Int))]) 0 (0+le.length)]=(Xc rowI) (v2++[(le.set k (Int.tmod (e+1) (c.blocks.length:Int)))]) from (by rw [(show AV.rsl (Qx (rowI le) (0+(Int.toNat (k:Int))*1) [.int .i64 (Int.tmod (e+1) (c.blocks.length:Int))]) 0 (0+le.length)=AV.rsl (rowI (le.set k (Int.tmod (e+1) (c.blocks.length:Int)))) 0 (le.set k (Int.tmod (e+1) (c.blocks.length:Int))).length from by rw [(show Qx (rowI le) (0+(Int.toNat (k:Int))*1) [.int .i64 (Int.tmod (e+1) (c.blocks.length:Int))]=rowI (le.set k (Int.tmod (e+1) (c.blocks.length:Int))) from QD cI (s:=1) (k:=0) (fun _=>rfl) h3 rfl (by first | decide | simp))]; rw [show (0+le.length)=(le.set k (Int.tmod (e+1) (c.blocks.length:Int))).length from by simp])]; exact (Xw (cLs rowI) v2 [(le.set k (Int.tmod (e+1) (c.blocks.length:Int)))]).symm))]; rw [(show (v2.length+1)=(v2++[(le.set k (Int.tmod (e+1) (c.blocks.length:Int)))]).length from by simp)]; rw [(show (Xc rowI) v3++[.rsl ((rowI le1)++[.int .i64 (k:Int)]) 0 ((0+le1.length)+1)]=(Xc rowI) (v3++[(le1++[(k:Int)])]) from (by rw [(show AV.rsl ((rowI le1)++[.int .i64 (k:Int)]) 0 ((0+le1.length)+1)=AV.rsl (rowI (le1++[(k:Int)])) 0 (le1++[(k:Int)]).length from by rw [(show rowI le1++[.int .i64 (k:Int)]=rowI (le1++[(k:Int)]) from (Xw cI le1 [(k:Int)]).symm)]; rw [show ((0+le1.length)+1)=(le1++[(k:Int)]).length from by simp])]; exact (Xw (cLs rowI) v3 [(le1++[(k:Int)])]).symm))]; rw [(show (v3.length+1)=(v3++[(le1++[(k:Int)])]).length from by simp)]; exact (h (g2+1) (g3+1) g1)
       · have h:=h.2 (ne_of_beq_false hc3)
         obtain ⟨q32_4,h⟩:=h
         exact p38_3_1 c row begin v4 v2 v3 k i g2 g3 g1 le e mi me hE ⟨hc0,(Qp h1),rfl,rfl,(rp (cLs rowI) 1 0 1 h1),rfl,rfl,h2,(by exact QL cI (fun _=>rfl) le),(by exact Qv cI (fun _=>rfl) le),(by exact QS cI (fun _=>rfl) le),(by have hx:=Qp h3; simpa using hx),rfl,rfl,(rp cI 1 0 1 h3),q17_1,q18_1,(by have hx:=Qp h3; simpa using hx),rfl,(rf cI 1 0 1 h3),rfl,(by rw [(show AV.rsl (Qx (rowI le) (0+(Int.toNat (k:Int))*1) [.int .i64 (Int.tmod (e+1) (c.blocks.length:Int))]) 0 (0+le.length)=AV.rsl (rowI (le.set k (Int.tmod (e+1) (c.blocks.length:Int)))) 0 (le.set k (Int.tmod (e+1) (c.blocks.length:Int))).length from by rw [(show Qx (rowI le) (0+(Int.toNat (k:Int))*1) [.int .i64 (Int.tmod (e+1) (c.blocks.length:Int))]=rowI (le.set k (Int.tmod (e+1) (c.blocks.length:Int))) from QD cI (s:=1) (k:=0) (fun _=>rfl) h3 rfl (by first | decide | simp))]; rw [show (0+le.length)=(le.set k (Int.tmod (e+1) (c.blocks.length:Int))).length from by simp])]; exact (u51 (YU c (le.set k (Int.tmod (e+1) (c.blocks.length:Int))) h4))),rfl,hc1,(by rw [(show AV.rsl (Qx (rowI le) (0+(Int.toNat (k:Int))*1) [.int .i64 (Int.tmod (e+1) (c.blocks.length:Int))]) 0 (0+le.length)=AV.rsl (rowI (le.set k (Int.tmod (e+1) (c.blocks.length:Int)))) 0 (le.set k (Int.tmod (e+1) (c.blocks.length:Int))).length from by rw [(show Qx (rowI le) (0+(Int.toNat (k:Int))*1) [.int .i64 (Int.tmod (e+1) (c.blocks.length:Int))]=rowI (le.set k (Int.tmod (e+1) (c.blocks.length:Int))) from QD cI (s:=1) (k:=0) (fun _=>rfl) h3 rfl (by first | decide | simp))]; rw [show (0+le.length)=(le.set k (Int.tmod (e+1) (c.blocks.length:Int))).length from by simp])]; exact (u65 (qW (le.set k (Int.tmod (e+1) (c.blocks.length:Int))) h5))),rfl,(knAt h7),hc3,q32_4,trivial⟩ (h g2 g3 g1)
     · have h:=h.2 hc2
       obtain ⟨h6,h⟩:=h
       obtain ⟨h7,h⟩:=h
       obtain ⟨h8,h⟩:=h
       obtain ⟨le1,h9,h⟩:=h
       obtain ⟨h10,h⟩:=h
       obtain ⟨h11,h⟩:=h
       obtain ⟨h12,h⟩:=h
       obtain ⟨q59_3,h⟩:=h
       refine p38_3_2 c row begin v4 v2 v3 k i g2 g3 g1 le e le1 hE ⟨hc0,(Qp h1),rfl,rfl,(rp (cLs rowI) 1 0 1 h1),rfl,rfl,h2,(by exact QL cI (fun _=>rfl) le),(by exact Qv cI (fun _=>rfl) le),(by exact QS cI (fun _=>rfl) le),(by have hx:=Qp h3; simpa using hx),rfl,rfl,(rp cI 1 0 1 h3),q17_1,q18_1,(by have hx:=Qp h3; simpa using hx),rfl,(rf cI 1 0 1 h3),rfl,(by rw [(show AV.rsl (Qx (rowI le) (0+(Int.toNat (k:Int))*1) [.int .i64 (Int.tmod (e+1) (c.blocks.length:Int))]) 0 (0+le.length)=AV.rsl (rowI (le.set k (Int.tmod (e+1) (c.blocks.length:Int)))) 0 (le.set k (Int.tmod (e+1) (c.blocks.length:Int))).length from by rw [(show Qx (rowI le) (0+(Int.toNat (k:Int))*1) [.int .i64 (Int.tmod (e+1) (c.blocks.length:Int))]=rowI (le.set k (Int.tmod (e+1) (c.blocks.length:Int))) from QD cI (s:=1) (k:=0) (fun _=>rfl) h3 rfl (by first | decide | simp))]; rw [show (0+le.length)=(le.set k (Int.tmod (e+1) (c.blocks.length:Int))).length from by simp])]; exact (u51 (YU c (le.set k (Int.tmod (e+1) (c.blocks.length:Int))) h4))),rfl,hc1,(by rw [(show AV.rsl (Qx (rowI le) (0+(Int.toNat (k:Int))*1) [.int .i64 (Int.tmod (e+1) (c.blocks.length:Int))]) 0 (0+le.length)=AV.rsl (rowI (le.set k (Int.tmod (e+1) (c.blocks.length:Int)))) 0 (le.set k (Int.tmod (e+1) (c.blocks.length:Int))).length from by rw [(show Qx (rowI le) (0+(Int.toNat (k:Int))*1) [.int .i64 (Int.tmod (e+1) (c.blocks.length:Int))]=rowI (le.set k (Int.tmod (e+1) (c.blocks.length:Int))) from QD cI (s:=1) (k:=0) (fun _=>rfl) h3 rfl (by first | decide | simp))]; rw [show (0+le.length)=(le.set k (Int.tmod (e+1) (c.blocks.length:Int))).length from by simp])]; exact (u65 (qW (le.set k (Int.tmod (e+1) (c.blocks.length:Int))) h5))),rfl,(knNew hc2),rfl,(by rw [(show AV.rsl (Qx (rowI le) (0+(Int.toNat (k:Int))*1) [.int .i64 (Int.tmod (e+1) (c.blocks.length:Int))]) 0 (0+le.length)=AV.rsl (rowI (le.set k (Int.tmod (e+1) (c.blocks.length:Int)))) 0 (le.set k (Int.tmod (e+1) (c.blocks.length:Int))).length from by rw [(show Qx (rowI le) (0+(Int.toNat (k:Int))*1) [.int .i64 (Int.tmod (e+1) (c.blocks.length:Int))]=rowI (le.set k (Int.tmod (e+1) (c.blocks.length:Int))) from QD cI (s:=1) (k:=0) (fun _=>rfl) h3 rfl (by first | decide | simp))]; rw [show (0+le.length)=(le.set k (Int.tmod (e+1) (c.blocks.length:Int))).length from by simp])]; exact (u65 (qW (le.set k (Int.tmod (e+1) (c.blocks.length:Int))) h6))),rfl,rfl,(knNew h7),rfl,(by have hx:=Qv (cLs rowI) (s:=1) (fun _=>rfl) v2; simp only [Xc] at hx ⊢; rw [hx]; simp),h8,rfl,(Qp h9),rfl,rfl,(rp (cLs rowI) 1 0 1 h9),rfl,rfl,h10,(by exact QL cI (fun _=>rfl) le1),(by exact Qv cI (fun _=>rfl) le1),(by exact QS cI (fun _=>rfl) le1),rfl,(by have hx:=Qv cI (s:=1) (fun _=>rfl) le1; simp only [rowI] at hx ⊢; rw [hx]; simp),h11,rfl,rfl,rfl,(by have hx:=Qv (cLs rowI) (s:=1) (fun _=>rfl) v3; simp only [Xc] at hx ⊢; rw [hx]; simp),h12,rfl,q59_3,trivial⟩ ?_
       rw [(show Yb v4++[.clos 0 [.int .i64 (keyI (le.set k (Int.tmod (e+1) (c.blocks.length:Int))))] [.int .i64 1]]=Yb (v4++[((keyI (le.set k (Int.tmod (e+1) (c.blocks.length:Int)))),1)]) from (Xw cKnE v4 [((keyI (le.set k (Int.tmod (e+1) (c.blocks.length:Int)))),1)]).symm)]; rw [(show (Xc rowI) v2++[.rsl (Qx (rowI le) (0+(Int.toNat (k:Int))*1) [.int .i64 (Int.tmod (e+1) (c.blocks.length:Int))]) 0 (0+le.length)]=(Xc rowI) (v2++[(le.set k (Int.tmod (e+1) (c.blocks.length:Int)))]) from (by rw [(show AV.rsl (Qx (rowI le) (0+(Int.toNat (k:Int))*1) [.int .i64 (Int.tmod (e+1) (c.blocks.length:Int))]) 0 (0+le.length)=AV.rsl (rowI (le.set k (Int.tmod (e+1) (c.blocks.length:Int)))) 0 (le.set k (Int.tmod (e+1) (c.blocks.length:Int))).length from by rw [(show Qx (rowI le) (0+(Int.toNat (k:Int))*1) [.int .i64 (Int.tmod (e+1) (c.blocks.length:Int))]=rowI (le.set k (Int.tmod (e+1) (c.blocks.length:Int))) from QD cI (s:=1) (k:=0) (fun _=>rfl) h3 rfl (by first | decide | simp))]; rw [show (0+le.length)=(le.set k (Int.tmod (e+1) (c.blocks.length:Int))).length from by simp])]; exact (Xw (cLs rowI) v2 [(le.set k (Int.tmod (e+1) (c.blocks.length:Int)))]).symm))]; rw [(show (v2.length+1)=(v2++[(le.set k (Int.tmod (e+1) (c.blocks.length:Int)))]).length from by simp)]; rw [(show (Xc rowI) v3++[.rsl ((rowI le1)++[.int .i64 (k:Int)]) 0 ((0+le1.length)+1)]=(Xc rowI) (v3++[(le1++[(k:Int)])]) from (by rw [(show AV.rsl ((rowI le1)++[.int .i64 (k:Int)]) 0 ((0+le1.length)+1)=AV.rsl (rowI (le1++[(k:Int)])) 0 (le1++[(k:Int)]).length from by rw [(show rowI le1++[.int .i64 (k:Int)]=rowI (le1++[(k:Int)]) from (Xw cI le1 [(k:Int)]).symm)]; rw [show ((0+le1.length)+1)=(le1++[(k:Int)]).length from by simp])]; exact (Xw (cLs rowI) v3 [(le1++[(k:Int)])]).symm))]; rw [(show (v3.length+1)=(v3++[(le1++[(k:Int)])]).length from by simp)]; exact (h (g2+1) (g3+1) g1)
   · have h:=h.2 hc1
     obtain ⟨q27_2,h⟩:=h
     exact p38_3_3 c row begin v4 v2 v3 k i g2 g3 g1 le e hE ⟨hc0,(Qp h1),rfl,rfl,(rp (cLs rowI) 1 0 1 h1),rfl,rfl,h2,(by exact QL cI (fun _=>rfl) le),(by exact Qv cI (fun _=>rfl) le),(by exact QS cI (fun _=>rfl) le),(by have hx:=Qp h3; simpa using hx),rfl,rfl,(rp cI 1 0 1 h3),q17_1,q18_1,(by have hx:=Qp h3; simpa using hx),rfl,(rf cI 1 0 1 h3),rfl,(by rw [(show AV.rsl (Qx (rowI le) (0+(Int.toNat (k:Int))*1) [.int .i64 (Int.tmod (e+1) (c.blocks.length:Int))]) 0 (0+le.length)=AV.rsl (rowI (le.set k (Int.tmod (e+1) (c.blocks.length:Int)))) 0 (le.set k (Int.tmod (e+1) (c.blocks.length:Int))).length from by rw [(show Qx (rowI le) (0+(Int.toNat (k:Int))*1) [.int .i64 (Int.tmod (e+1) (c.blocks.length:Int))]=rowI (le.set k (Int.tmod (e+1) (c.blocks.length:Int))) from QD cI (s:=1) (k:=0) (fun _=>rfl) h3 rfl (by first | decide | simp))]; rw [show (0+le.length)=(le.set k (Int.tmod (e+1) (c.blocks.length:Int))).length from by simp])]; exact (u51 (YU c (le.set k (Int.tmod (e+1) (c.blocks.length:Int))) h4))),rfl,hc1,rfl,q27_2,trivial⟩ (h g2 g3 g1)
 · have h:=h.2 (odf hc0)
   obtain ⟨q1_1,h⟩:=h
   exact p38_3_4 c row begin v4 v2 v3 k i g2 g3 g1 hE ⟨hc0,q1_1,trivial⟩ (h g2 g3 g1)
theorem Qz (c:Cir) (row:List Spt) (h:(c.blocks.length≤9223372036854775807∧c.cars.length≤9223372036854775807)∧row.length≤9223372036854775807):Pure Try.prog 37 [.agg [.rsl (Qk c.blocks) 0 c.blocks.length,.rsl (rowI c.cars) 0 c.cars.length],.rsl (Qb row) 0 row.length] (.tup [.rsl (rowI (Qa c row).1) 0 (Qa c row).1.length,.int .i64 (Qa c row).2]):=QT Try.func37 f37b fun E hE=>by
 refine f37W c row (rv:=Qa c row) hE ⟨h.1,fun h0=>by rw [Qa,if_neg h0],fun h0=>⟨fun hl=>by rw [Qa,if_pos h0,if_neg (fun hh=>hl (by omega))],fun hl=>?_⟩⟩
 have hk:=chk_in h0
 have hnb:=hk.nb
 have hnc:=hk.nc
 have hl:row.length=c.cars.length:=by omega
 have hL10:row.length≤10:=by omega
 have hbl:(row.map Spt.block).length=row.length:=by simp
 have hget:∀ i,i<row.length→(row.map Spt.block)[i]?=some (row.getD i dS).block:=fun i hi=>by rw [List.getElem?_map,getD_some (d:=dS) hi]; rfl
 -- the queue
 have main:Plc c.blocks.length row.length (row.map Spt.block)→∀ (v1:List Int) (f i:Nat) (s:PL) (v3:List (List Int)) (q:Nat),i+f=50000→i≤s.1.length→BInv c.blocks.length row.length (row.map Spt.block) s→v3.drop q=(s.1.drop i).map padI→q≤v3.length →
  Qa c row=bfsK c row.length f s i→f37G1 E c row v1 (VS s s.1.length) q v3:=by
  intro hplc v1 f
  induction f with
  | zero =>
   intro i s v3 q hif his hs hv hq hrv
   have hle:=hs.le hnb
   omega
  | succ f ih =>
   intro i s v3 q hif his hs hv hq hrv
   have hle:=hs.le hnb
   have hlv:v3.length - q=s.1.length - i:=by
    have:=congrArg List.length hv
    simpa using this
   refine f37W1 c row v1 _ q v3 (rv:=Qa c row) hE ⟨fun hgt=>?_,fun hgt=>?_⟩
   · have hi:i<s.1.length:=by omega
     have hp:=(hs.plc _ (List.mem_of_getElem? (getD_some (d:=[]) hi))).1
     have hx:v3[q]?=some (padI (s.1.getD i [])):=by
      have h1:(v3.drop q)[0]?=some (padI (s.1.getD i [])):=by
       rw [hv,List.getElem?_map,List.getElem?_drop,Nat.add_zero,getD_some (d:=[]) hi]; rfl
      rw [List.getElem?_drop,Nat.add_zero] at h1
      exact h1
     have hp10:(padI (s.1.getD i [])).length=10:=YI (by rw [hp.len]; exact hL10)
     have et:(padI (s.1.getD i [])).take (Int.toNat (row.length:Int))=s.1.getD i []:=by rw [Int.toNat_natCast]; exact Kj hp.len
     refine ⟨_,hx,hp10,by rw [Int.toNat_natCast]; exact hL10,hp10,?_⟩
     rw [et]
     refine ⟨⟨fun b hb=>?_,by rw [hp.len]; omega⟩,fun hw=>⟨fun hh=>⟨i,trivial,_,ways_at hs hL10 hi,fun hso=>?_,fun hso=>?_⟩,fun hh=>?_⟩,fun hw=>?_⟩
     · obtain ⟨j,hj,rfl⟩:=VD.1 hb
       have:=hp.rng j (by rw [← hp.len]; exact hj)
       exact ⟨this.1,by omega⟩
     · rw [hrv,bfsK,if_pos hi,if_pos (Qay.1 hw)]
       have hi0:i ≠ 0:=fun e=>by subst e; simp [wayO] at hso
       simp only [wayO,if_neg hi0]; rfl
     · rw [hrv,bfsK,if_pos hi,if_pos (Qay.1 hw)]
       have hi0:i=0:=by
        refine Classical.byContradiction fun e=>?_
        simp [wayO,if_neg e] at hso
       subst hi0
       rw [hs.first.2.2]
     · have:=(yK hs hL10 hp.len (Nat.le_refl _)).2 ⟨i,hi,rfl⟩
       rw [this] at hh; cases hh
     · have hnw:¬ Qy c (s.1.getD i [])=true:=fun hh=>by rw [Qay.2 hh] at hw; cases hw
       rw [bfsK,if_pos hi,if_neg hnw] at hrv
       have inner:∀ (d k:Nat),k+d=row.length→∀ (v3:List (List Int)) (q:Nat),v3.drop q=((YQ c.blocks.length i s k).1.drop i).map padI→q≤v3.length →
        KA E c row q v1 (VS (YQ c.blocks.length i s k) (YQ c.blocks.length i s k).1.length) v3 (padI (s.1.getD i [])) k:=by
        intro d
        induction d with
        | zero =>
         intro k hk2 v3 q hv hq
         have ek:k=row.length:=by omega
         subst ek
         obtain ⟨e1,e2,e3⟩:=hs.expd hnb.1 hi (Nat.le_refl row.length)
         have hlv:v3.length - q=(YQ c.blocks.length i s row.length).1.length - i:=by
          have:=congrArg List.length hv
          simpa using this
         refine f37W2 c row q v1 _ v3 _ row.length (rv:=Qa c row) hE ⟨fun h=>by omega,fun _=>⟨by omega,?_⟩⟩
         refine ih (i+1) _ v3 (q+1) (by omega) (by omega) e1 ?_ (by omega) hrv
         rw [show v3.drop (q+1)=(v3.drop q).drop 1 by rw [List.drop_drop],hv,← List.map_drop,List.drop_drop]
        | succ d ihd =>
         intro k hk2 v3 q hv hq
         obtain ⟨e1,e2,e3⟩:=hs.expd hnb.1 hi (k:=k) (by omega)
         have e4:YQ c.blocks.length i s (k+1)=qf c.blocks.length i (YQ c.blocks.length i s k) k:=rfl
         have nx:=ihd (k+1) (by omega)
         rw [e4] at nx
         obtain ⟨g1,g2⟩:=e3 i hi
         generalize YQ c.blocks.length i s k=S at e1 e2 e3 hv nx g1 g2
         have hSi:i<S.1.length:=by omega
         have hSl:=e1.le hnb
         rw [← g1] at hp hp10 et nx ⊢
         have hkp:k<(S.1.getD i []).length:=by rw [hp.len]; omega
         have hv0:=qB hp (show k<row.length by omega) hnb.1
         have hpk:=hp.rng k (by omega)
         have hqlen:(nxtP c.blocks.length (S.1.getD i []) k).length=row.length:=by rw [Kl]; exact hp.len
         have eset:(padI (S.1.getD i [])).set k (Int.tmod ((S.1.getD i []).getD k 0+1) (c.blocks.length:Int))=padI (nxtP c.blocks.length (S.1.getD i []) k):=padI_set hkp
         have hn10:(padI (nxtP c.blocks.length (S.1.getD i []) k)).length=10:=YI (by omega)
         have hlv:v3.length - q=S.1.length - i:=by
          have:=congrArg List.length hv
          simpa using this
         have hhas:=yK e1 hL10 hqlen (Nat.le_refl S.1.length)
         have hhas0:=yK e1 hL10 hp.len (Nat.le_refl S.1.length)
         -- nothing new
         have old:¬ (QY c.blocks.length (nxtP c.blocks.length (S.1.getD i []) k)=true∧nxtP c.blocks.length (S.1.getD i []) k ∉ S.1)→KA E c row q v1 (VS S S.1.length) v3 (padI (S.1.getD i [])) (k+1):=fun hno=>by
          rw [QaH hno] at nx
          exact nx v3 q hv hq
         -- a new place
         have new:QY c.blocks.length (nxtP c.blocks.length (S.1.getD i []) k)=true→nxtP c.blocks.length (S.1.getD i []) k ∉ S.1→KA E c row 0 v1 (VS S S.1.length++[(padI (nxtP c.blocks.length (S.1.getD i []) k),some (S.2.getD i []++[(k:Int)]))]) (v3.drop q++[padI (nxtP c.blocks.length (S.1.getD i []) k)]) (padI (S.1.getD i [])) (k+1):=fun ha hm=>by
          rw [push_in ha hm] at nx
          have hll:=e1.ll
          have ew:VS (S.1++[nxtP c.blocks.length (S.1.getD i []) k],S.2++[S.2.getD i []++[(k:Int)]]) (S.1++[nxtP c.blocks.length (S.1.getD i []) k]).length=VS S S.1.length++[(padI (nxtP c.blocks.length (S.1.getD i []) k),some (S.2.getD i []++[(k:Int)]))]:=by
           rw [List.length_append,List.length_singleton,ways_succ]
           congr 1
           · exact ways_congr fun j hj=>⟨by rw [XC,if_pos hj],by rw [XC,if_pos (by omega)]⟩
           · rw [XC,if_neg (by omega),if_pos rfl,XC,if_neg (by omega),if_pos hll.symm,wayO,if_neg (by omega)]
          have:=nx (v3.drop q++[padI (nxtP c.blocks.length (S.1.getD i []) k)]) 0 (by rw [List.drop_zero,hv,drop_snoc (by omega),List.map_append]; rfl) (by omega)
          rw [ew] at this
          exact this
         have hwl:=e1.wl i hSi
         have B0:(S.2.getD i []).length≤2147483648:=by omega
         have B1:(S.2.getD i []).length+1≤2147483648:=by omega
         have B2:v3.length - q+1≤2147483648:=by rw [hlv]; exact Nat.le_trans (Nat.succ_le_succ (Nat.le_trans (Nat.sub_le _ _) hSl)) (by decide)
         have B3:(-9223372036854775808:Int)≤(k:Int)+1∧(k:Int)+1≤9223372036854775807:=by omega
         have et2:(padI (S.1.getD i [])).take (Int.toNat (row.length:Int))=S.1.getD i []:=by rw [Int.toNat_natCast]; exact Kj hp.len
         refine f37W2 c row q v1 _ v3 _ k (rv:=Qa c row) hE ⟨fun _=>⟨hp10,_,padI_get hkp,by omega,by omega,by omega,hp10,by omega,?_⟩,fun h=>by omega⟩
         rw [eset]
         refine ⟨hn10,fun hh=>?_,fun hh=>?_⟩
         · obtain ⟨j,hj,ej⟩:=hhas.1 hh
           have hmem:¬ (QY c.blocks.length (nxtP c.blocks.length (S.1.getD i []) k)=true∧nxtP c.blocks.length (S.1.getD i []) k ∉ S.1):=fun hc=>hc.2 (mem_ps.2 ⟨j,hj,ej⟩)
           have hat:=ways_at e1 hL10 hj
           rw [ej] at hat
           exact ⟨j,trivial,_,hat,fun _=>⟨by omega,old hmem⟩,fun _=>⟨by omega,old hmem⟩⟩
         · have hnm:nxtP c.blocks.length (S.1.getD i []) k ∉ S.1:=fun hm=>by
            obtain ⟨j,hj,ej⟩:=mem_ps.1 hm
            rw [hhas.2 ⟨j,hj,ej⟩] at hh; cases hh
           have hge:(padI (nxtP c.blocks.length (S.1.getD i []) k))[k]?=some (nxtV c.blocks.length (S.1.getD i []) k):=by
            rw [padI_get (by omega),WB hkp,if_pos rfl]
           refine ⟨by rw [Int.toNat_natCast]; exact hL10,hp10,_,hge,by omega,?_⟩
           rw [et2]
           refine ⟨by rw [hp.len]; omega,fun hc=>⟨by omega,old fun hcc=>?_⟩,fun hc=>?_⟩
           · have:=(WH hp (show k<row.length by omega) hnb.1).1 ((YB hqlen).1 hcc.1)
             rw [this] at hc; cases hc
           · have hap:=(YB hqlen).2 ((WH hp (show k<row.length by omega) hnb.1).2 hc)
             refine ⟨hn10,hp10,fun hh2=>⟨i,trivial,_,ways_at e1 hL10 hSi,fun hso=>?_,fun hso=>?_⟩,fun hh2=>?_⟩
             · have hi0:i ≠ 0:=fun e=>by subst e; simp [wayO] at hso
               have ewo:(wayO i (S.2.getD i [])).getD []=S.2.getD i []:=by rw [wayO,if_neg hi0]; rfl
               simp only [ewo]
               exact ⟨⟨hwl.2 (by omega),B0⟩,B1,hh,hn10,hq,B2,B3,new hap hnm⟩
             · have hi0:i=0:=by
                refine Classical.byContradiction fun e=>?_
                simp [wayO,if_neg e] at hso
               have ew:S.2.getD i []=[]:=by rw [hi0]; exact e1.first.2.2
               have nw:=new hap hnm
               rw [ew] at nw
               exact ⟨hh,hn10,hq,B2,B3,nw⟩
             · rw [hhas0.2 ⟨i,hSi,rfl⟩] at hh2; cases hh2
       exact inner row.length 0 (by omega) v3 q hv hq
   · have hi:¬ i<s.1.length:=by omega
     rw [hrv,bfsK,if_neg hi]
 -- the first place
 have key:∀ (d i:Nat),i+d=row.length→(∀ j k,j<k→k<i→(row.map Spt.block).getD j 0 ≠ (row.map Spt.block).getD k 0)→(∀ j,j<i→0≤(row.map Spt.block).getD j 0∧(row.map Spt.block).getD j 0<c.blocks.length)→f37G0 E c row i (padI ((row.map Spt.block).take i)):=by
  intro d
  induction d with
  | zero =>
   intro i hi hne hr
   have hplc:Plc c.blocks.length row.length (row.map Spt.block):=⟨hbl,fun j hj=>hr j (by omega),fun j k hj hk hjk=>by
    rcases Nat.lt_or_ge j k with w | w
    · exact hne j k w (by omega)
    · exact (hne k j (by omega) (by omega)).symm⟩
   have hap:QY c.blocks.length (row.map Spt.block)=true:=(YB hbl).2 hplc
   rw [List.take_of_length_le (by omega)]
   have h10:(padI (row.map Spt.block)).length=10:=YI (by omega)
   refine f37W0 c row i _ (rv:=Qa c row) hE ⟨fun h=>by omega,fun _=>⟨h10,rfl,h10,?_⟩⟩
   have:=main hplc (padI (row.map Spt.block)) 50000 0 ([row.map Spt.block],[[]]) [padI (row.map Spt.block)] 0 (by omega) (by omega) (.init hplc) rfl (by omega) (by rw [Qa,if_pos h0,if_pos ⟨hl,hap⟩])
   exact this
  | succ d ih =>
   intro i hi hne hr
   have hx:=getD_some (d:=dS) (show i<row.length by omega)
   have hb:=hget i (by omega)
   have ebd:(row.map Spt.block).getD i 0=(row.getD i dS).block:=Wd hb
   have no:¬ Plc c.blocks.length row.length (row.map Spt.block)→Qa c row=([],1):=fun hn=>by
    rw [Qa,if_pos h0,if_neg (fun hh=>hn ((YB hbl).1 hh.2))]
   have h10:(padI ((row.map Spt.block).take i)).length=10:=YI (by rw [List.length_take]; omega)
   have et:(padI ((row.map Spt.block).take i)).take (Int.toNat (i:Int))=(row.map Spt.block).take i:=by rw [Int.toNat_natCast]; exact Kj (by rw [List.length_take]; omega)
   refine f37W0 c row i _ (rv:=Qa c row) hE ⟨fun _=>⟨_,hx,by omega,fun hw=>no fun hp=>?_,fun hw=>⟨by omega,h10,?_⟩⟩,fun h=>by omega⟩
   · have:=hp.rng i (by omega)
     rw [ebd] at this
     have:=within_not.1 hw
     omega
   · rw [et]
     have hwi:=Xi.1 hw
     refine ⟨by rw [List.length_take]; omega,fun ha=>no fun hp=>?_,fun ha=>⟨_,padI_at (by omega) (by omega),by omega,by omega,?_⟩⟩
     · obtain ⟨x,hx2,he⟩:=List.any_eq_true.1 ha
       obtain ⟨j,hj⟩:=List.getElem?_of_mem hx2
       rw [List.getElem?_take] at hj
       split at hj
       · rename_i hji
         have e:(row.map Spt.block).getD j 0=x:=Wd hj
         have:=hp.ne i j (by omega) (by omega) (by omega)
         rw [ebd,e] at this
         simp only [beq_iff_eq] at he
         exact this he
       · cases hj
     · rw [padI_next hb (by omega)]
       refine ih (i+1) (by omega) (fun j k hjk hk2=>?_) (fun j hj=>?_)
       · rcases Nat.lt_or_ge k i with w | w
         · exact hne j k hjk w
         · have:k=i:=by omega
           subst this
           rw [ebd]
           intro e
           have:=List.any_eq_false.1 ha ((row.map Spt.block).getD j 0) (List.mem_of_getElem? (i:=j) (by rw [List.getElem?_take,if_pos hjk]; exact getD_some (by omega)))
           simp only [beq_iff_eq] at this
           exact this e.symm
       · rcases Nat.lt_or_ge j i with w | w
         · exact hr j w
         · rw [show j=i by omega,ebd]; omega
 exact key row.length 0 (by omega) (fun j k _ hk=>by omega) (fun j hj=>by omega)
theorem Qw (c:Cir) (row:List Spt) (h:(c.blocks.length≤9223372036854775807∧c.cars.length≤9223372036854775807)∧row.length≤9223372036854775807):Pure Try.prog 38 [.agg [.rsl (Qk c.blocks) 0 c.blocks.length,.rsl (rowI c.cars) 0 c.cars.length],.rsl (Qb row) 0 row.length] (.tup [.rsl (rowI (Qa c row).1) 0 (Qa c row).1.length,.int .i64 (Qa c row).2]):=QT Try.func38 f38b fun E hE=>by
 refine f38W c row (rv:=Qa c row) hE ⟨h.1,fun h0=>by rw [Qa,if_neg h0],fun h0=>⟨fun hl=>by rw [Qa,if_pos h0,if_neg (fun hh=>hl (by omega))],fun hl=>?_⟩⟩
 have hk:=chk_in h0
 have hnb:=hk.nb
 have hnc:=hk.nc
 have hl:row.length=c.cars.length:=by omega
 have hL10:row.length≤10:=by omega
 have hbl:(row.map Spt.block).length=row.length:=by simp
 have hget:∀ i,i<row.length→(row.map Spt.block)[i]?=some (row.getD i dS).block:=fun i hi=>by rw [List.getElem?_map,getD_some (d:=dS) hi]; rfl
 have main:∀ (f i:Nat) (s:PL),i+f=50000→i≤s.1.length→BInv c.blocks.length row.length (row.map Spt.block) s→Qa c row=bfsK c row.length f s i→f38G1 E c row (row.map Spt.block) (knK s s.1.length) s.1 s.2 i:=by
  intro f
  induction f with
  | zero =>
   intro i s hif his hs hrv
   have hle:=hs.le hnb
   omega
  | succ f ih =>
   intro i s hif his hs hrv
   have hle:=hs.le hnb
   refine f38W1 c row _ _ _ _ i (rv:=Qa c row) hE ⟨fun hi=>?_,fun hi=>?_⟩
   · have hi:i<s.1.length:=by omega
     have hp:=(hs.plc _ (List.mem_of_getElem? (getD_some (d:=[]) hi))).1
     rw [bfsK,if_pos hi] at hrv
     have hx:=getD_some (d:=([]:List Int)) hi
     have hy:=getD_some (d:=([]:List Int)) (show i<s.2.length by rw [hs.ll]; exact hi)
     -- the cars are pushed
     have inner:∀ (d k:Nat),k+d=row.length→Qa c row=bfsK c row.length f (YQ c.blocks.length i s row.length) (i+1)→f38G3 E c row (row.map Spt.block) (knK (YQ c.blocks.length i s k) (YQ c.blocks.length i s k).1.length) (YQ c.blocks.length i s k).1 (YQ c.blocks.length i s k).2 k i:=by
      intro d
      induction d with
      | zero =>
       intro k hk2 hrv
       have ek:k=row.length:=by omega
       subst ek
       obtain ⟨e1,e2,e3⟩:=hs.expd hnb.1 hi (Nat.le_refl row.length)
       refine f38W3 c row _ _ _ _ row.length i (rv:=Qa c row) hE ⟨fun h=>by omega,fun _=>⟨by omega,?_⟩⟩
       exact ih (i+1) _ (by omega) (by omega) e1 hrv
      | succ d ihd =>
       intro k hk2 hrv
       obtain ⟨e1,e2,e3⟩:=hs.expd hnb.1 hi (k:=k) (by omega)
       have nx:=ihd (k+1) (by omega) hrv
       rw [show YQ c.blocks.length i s (k+1)=qf c.blocks.length i (YQ c.blocks.length i s k) k from rfl] at nx
       obtain ⟨g1,g2⟩:=e3 i hi
       generalize YQ c.blocks.length i s k=S at e1 e2 e3 nx g1 g2
       have hSi:i<S.1.length:=by omega
       have hSl:=e1.le hnb
       have hll:=e1.ll
       rw [← g1] at hp
       have hxS:=getD_some (d:=([]:List Int)) hSi
       have hyS:=getD_some (d:=([]:List Int)) (show i<S.2.length by omega)
       have hkp:k<(S.1.getD i []).length:=by rw [hp.len]; omega
       have hv0:=qB hp (show k<row.length by omega) hnb.1
       have hpk:=hp.rng k (by omega)
       have hqlen:(nxtP c.blocks.length (S.1.getD i []) k).length=row.length:=by rw [Kl]; exact hp.len
       have eset:(S.1.getD i []).set k (Int.tmod ((S.1.getD i []).getD k 0+1) (c.blocks.length:Int))=nxtP c.blocks.length (S.1.getD i []) k:=rfl
       have hwl:=e1.wl i hSi
       have hplen:=hp.len
       have B1:0+(S.2.getD i []).length+1≤2147483648:=by omega
       have B3:(-9223372036854775808:Int)≤(k:Int)+1∧(k:Int)+1≤9223372036854775807:=by omega
       have old:¬ (QY c.blocks.length (nxtP c.blocks.length (S.1.getD i []) k)=true∧nxtP c.blocks.length (S.1.getD i []) k ∉ S.1)→f38G3 E c row (row.map Spt.block) (knK S S.1.length) S.1 S.2 (k+1) i:=fun hno=>by
        rw [QaH hno] at nx; exact nx
       refine f38W3 c row _ _ _ _ k i (rv:=Qa c row) hE ⟨fun _=>⟨_,hxS,by omega,_,getD_some (d:=0) hkp,by omega,by omega,?_⟩,fun h=>by omega⟩
       rw [eset]
       refine ⟨⟨by omega,by omega⟩,fun ha=>?_,fun ha=>⟨B3,old fun hc=>by rw [hc.1] at ha; cases ha⟩⟩
       have hq:=(YB hqlen).1 ha
       have hbd:=plc_bd hq hnb.2 hL10
       refine ⟨hbd,fun hh=>?_,fun hh=>?_⟩
       · have hm:=(kn_has e1 hnb.2 hq).1 hh
         obtain ⟨j,hj,ej⟩:=mem_ps.1 hm
         have hat:=kn_at e1 hnb.2 hj
         rw [ej] at hat
         exact ⟨j,trivial,_,hat,fun h10=>absurd h10 (by simp),fun _=>⟨B3,old fun hc=>hc.2 hm⟩⟩
       · have hnm:nxtP c.blocks.length (S.1.getD i []) k ∉ S.1:=fun hm=>by rw [(kn_has e1 hnb.2 hq).2 hm] at hh; cases hh
         rw [push_in ha hnm] at nx
         have ew:knK (S.1++[nxtP c.blocks.length (S.1.getD i []) k],S.2++[S.2.getD i []++[(k:Int)]]) (S.1++[nxtP c.blocks.length (S.1.getD i []) k]).length=knK S S.1.length++[(keyI (nxtP c.blocks.length (S.1.getD i []) k),1)]:=by
          rw [List.length_append,List.length_singleton,kn_succ]
          congr 1
          · exact kn_congr fun j hj=>⟨by rw [XC,if_pos hj],by rw [XC,if_pos (by omega)]⟩
          · rw [XC,if_neg (by omega),if_pos rfl]
         rw [ew] at nx
         exact ⟨hbd,hh,by omega,_,hyS,by omega,B1,by omega,B3,nx⟩
     have outer:∀ (d k:Nat),k+d=row.length→∀ w:Bool,w=((s.1.getD i []).take k).all (fun b=>(bkAt c b).walk)→f38G2 E c row (row.map Spt.block) (knK s s.1.length) w k i s.1 s.2:=by
      intro d
      induction d with
      | zero =>
       intro k hk2 w hw
       rw [List.take_of_length_le (by rw [hp.len]; omega)] at hw
       refine f38W2 c row _ _ w k i _ _ (rv:=Qa c row) hE ⟨fun h=>by omega,fun _=>⟨fun hwt=>⟨_,hy,?_⟩,fun hwf=>?_⟩⟩
       · have hwp:Qy c (s.1.getD i [])=true:=hw.symm.trans hwt
         rw [hrv,if_pos hwp]
       · have hnw:¬ Qy c (s.1.getD i [])=true:=fun hh=>by rw [show w=Qy c (s.1.getD i []) from hw,hh] at hwf; cases hwf
         rw [if_neg hnw] at hrv
         exact inner row.length 0 (by omega) hrv
      | succ d ihd =>
       intro k hk2 w hw
       have hkp:k<(s.1.getD i []).length:=by rw [hp.len]; omega
       have hg:=getD_some (d:=0) hkp
       have hr:=hp.rng k (by omega)
       have hin:InC c ((s.1.getD i []).getD k 0):=⟨hr.1,by omega⟩
       have nx:=ihd (k+1) (by omega)
       rw [List.take_add_one,hg] at nx
       simp only [List.all_append,← hw,Option.toList,List.all_cons,List.all_nil,Bool.and_true] at nx
       refine f38W2 c row _ _ w k i _ _ (rv:=Qa c row) hE ⟨fun _=>⟨fun hwt=>⟨_,hx,_,hg,hr.1,_,QaW hin,by omega,?_⟩,fun hwf=>⟨by omega,?_⟩⟩,fun h=>by omega⟩
       · exact nx _ (by rw [hwt]; rfl)
       · exact nx _ (by rw [hwf]; rfl)
     exact outer row.length 0 (by omega) true rfl
   · have hi:¬ i<s.1.length:=by omega
     rw [hrv,bfsK,if_neg hi]
 have key:∀ (d i:Nat),i+d=row.length→f38G0 E c row ((row.map Spt.block).take i) i:=by
  intro d
  induction d with
  | zero =>
   intro i hi
   rw [List.take_of_length_le (by omega)]
   refine f38W0 c row _ i (rv:=Qa c row) hE ⟨fun h=>by omega,fun _=>⟨⟨h.1.1,by omega⟩,fun ha=>by rw [Qa,if_pos h0,if_neg (fun hh=>by rw [hh.2] at ha; cases ha)],fun ha=>?_⟩⟩
   have hplc:=(YB hbl).1 ha
   refine ⟨plc_bd hplc hnb.2 hL10,rfl,?_⟩
   exact main 50000 0 ([row.map Spt.block],[[]]) (by omega) (by omega) (.init hplc) (by rw [Qa,if_pos h0,if_pos ⟨hl,ha⟩])
  | succ d ih =>
   intro i hi
   have hx:=getD_some (d:=dS) (show i<row.length by omega)
   have nx:=ih (i+1) (by omega)
   rw [List.take_add_one,hget i (by omega)] at nx
   exact f38W0 c row _ i (rv:=Qa c row) hE ⟨fun _=>⟨_,hx,by rw [List.length_take]; omega,by omega,nx⟩,fun h=>by omega⟩
 exact key row.length 0 (by omega)
end Go.Proofs.Ytgdfkjjgdkejfaa