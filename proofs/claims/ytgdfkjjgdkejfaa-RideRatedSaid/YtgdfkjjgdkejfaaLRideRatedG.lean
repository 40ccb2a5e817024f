/- A part of the proof: several texts, one behind the other. -/
import Derived.Test.YtgdfkjjgdkejfaaLRideRatedF
set_option linter.unusedVariables false
set_option linter.unusedSimpArgs false
set_option maxRecDepth 100000
namespace Go.Proofs.Ytgdfkjjgdkejfaa
open Go Ax
open Go.Proofs
/-! ### Counting -/
theorem QaT:∀ {N L:Nat} {f:Nat→Nat},(∀ i,i<L→f i<N)→(∀ i j,i<L→j<L→f i=f j→i=j)→L≤N
 | 0,L,f,h,_=>by
  rcases Nat.eq_zero_or_pos L with h0 | h0
  · omega
  · have:=h 0 h0; omega
 | N+1,L,f,h,hj=>by
  by_cases hx:∃ i0,i0<L∧f i0=N
  · obtain ⟨i0,h0,e0⟩:=hx
    have:=QaT (N:=N) (L:=L - 1) (f:=fun i=>f (if i<i0 then i else i+1)) (fun i hi=>by
     have hlt:(if i<i0 then i else i+1)<L:=by split <;> omega
     have h1:=h _ hlt
     have h2:f (if i<i0 then i else i+1) ≠ N:=fun e=>by
      have:=hj _ _ hlt h0 (by rw [e,e0])
      split at this <;> omega
     omega) (fun i j hi hj' e=>by
     have:=hj _ _ (by split <;> omega) (by split <;> omega) e
     split at this <;> split at this <;> omega)
    omega
  · have:=QaT (N:=N) (L:=L) (f:=f) (fun i hi=>by
     have h1:=h i hi
     have h2:f i ≠ N:=fun e=>hx ⟨i,hi,e⟩
     omega) hj
    omega
theorem surj_le {N L:Nat} {f:Nat→Nat} (h:∀ b,b<N→∃ i,i<L∧f i=b):N≤L:=by
 have hch:∃ g:Nat→Nat,∀ b,b<N→g b<L∧f (g b)=b:=by
  refine ⟨fun b=>if hb:b<N then Classical.choose (h b hb) else 0,fun b hb=>?_⟩
  simp only [dif_pos hb]
  exact Classical.choose_spec (h b hb)
 obtain ⟨g,hg⟩:=hch
 exact QaT (f:=g) (fun b hb=>(hg b hb).1) (fun a b ha hb e=>by rw [← (hg a ha).2,← (hg b hb).2,e])
theorem inj_all {N:Nat} {f:Nat→Nat} (h:∀ i,i<N→f i<N) (hj:∀ i j,i<N→j<N→f i=f j→i=j) {b:Nat} (hb:b<N):∃ i,i<N∧f i=b:=by
 refine Classical.byContradiction fun hn=>?_
 have hne:∀ i,i<N→f i ≠ b:=fun i hi e=>hn ⟨i,hi,e⟩
 have:=QaT (N:=N - 1) (L:=N) (f:=fun i=>if f i<b then f i else f i - 1) (fun i hi=>by
  have h1:=h i hi
  have h2:=hne i hi
  split <;> omega) (fun i j hi hj' e=>by
  have h1:=hne i hi
  have h2:=hne j hj'
  refine hj i j hi hj' ?_
  split at e <;> split at e <;> omega)
 omega
def sumN (f:Nat→Int):Nat→Int
 | 0=>0
 | n+1=>sumN f n+f n
theorem Qbt {f g:Nat→Int}:∀ {n:Nat},sumN (fun i=>f i+g i) n=sumN f n+sumN g n
 | 0=>rfl
 | n+1=>by simp only [sumN,Qbt (n:=n)]; omega
theorem QaI {f g:Nat→Int}:∀ {n:Nat},(∀ i,i<n→f i=g i)→sumN f n=sumN g n
 | 0,_=>rfl
 | n+1,h=>by simp only [sumN,QaI (n:=n) fun i hi=>h i (by omega),h n (by omega)]
theorem KG {f:Nat→Int} {n:Nat} (h:∀ i,i<n→f i=0):sumN f n=0:=by
 induction n with
 | zero=>rfl
 | succ n ih=>simp only [sumN,ih fun i hi=>h i (by omega),h n (by omega)]; rfl
theorem sumN_one {f:Nat→Int} {n k:Nat} (hk:k<n) (h:∀ i,i<n→i ≠ k→f i=0):sumN f n=f k:=by
 induction n with
 | zero=>omega
 | succ n ih =>
  simp only [sumN]
  by_cases e:k=n
  · subst e; rw [KG fun i hi=>h i (by omega) (by omega)]; omega
  · rw [ih (by omega) fun i hi hne=>h i (by omega) hne,h n (by omega) (fun e'=>e e'.symm)]; omega
theorem QaH {f:Nat→Int} {r:Int}:∀ {n:Nat},(∀ i,i<n→f i=r)→sumN f n=(n:Int)*r
 | 0,_=>by simp [sumN]
 | n+1,h=>by
  simp only [sumN,QaH (n:=n) fun i hi=>h i (by omega),h n (by omega)]
  rw [show ((n+1:Nat):Int)=(n:Int)+1 by omega,Int.add_mul,Int.one_mul]
/-! ### A tick in which Go is pressed for all stations -/
theorem prs_fold {c:Cir} {rd:Rd4} {tick:Int}:∀ {l:List Prs} {r:List Car} {g o:List Bool},(∀ p ∈ l,p.at_=tick∧p.kind=3) →
 l.foldl (Xs c rd tick) (r,g,o)=(r,l.foldl (fun g p=>g.set (Int.toNat p.block) true) g,o)
 | [],r,g,o,_=>rfl
 | p :: l,r,g,o,h=>by
  have hp:=h p (by simp)
  simp only [List.foldl_cons]
  rw [show Xs c rd tick (r,g,o) p=(r,g.set (Int.toNat p.block) true,o) by rw [Xs,if_pos hp.1,QT,if_pos hp.2]]
  exact prs_fold fun q hq=>h q (by simp [hq])
theorem set_fold {l:List Prs}:∀ {g:List Bool},(l.foldl (fun g p=>g.set (Int.toNat p.block) true) g).length=g.length∧∀ b,b<g.length→(g.getD b false=true ∨ ∃ p ∈ l,Int.toNat p.block=b)→(l.foldl (fun g p=>g.set (Int.toNat p.block) true) g).getD b false=true:=by
 induction l with
 | nil=>exact fun {g}=>⟨rfl,fun b _ h=>by
  rcases h with h | ⟨p,hp,-⟩
  · exact h
  · cases hp⟩
 | cons p l ih =>
  intro g
  simp only [List.foldl_cons]
  obtain ⟨h1,h2⟩:=ih (g:=g.set (Int.toNat p.block) true)
  refine ⟨by rw [h1]; simp,fun b hb h=>h2 b (by simpa using hb) ?_⟩
  by_cases e:Int.toNat p.block=b
  · left; rw [List.getD_eq_getElem?_getD,List.getElem?_set,if_pos e,if_pos (by omega)]; rfl
  · rcases h with h | ⟨q,hq,hqb⟩
    · left; rw [List.getD_eq_getElem?_getD,List.getElem?_set,if_neg e,← List.getD_eq_getElem?_getD]; exact h
    · rcases List.mem_cons.1 hq with rfl | hq
      · exact absurd hqb e
      · exact .inr ⟨q,hq,hqb⟩
theorem prsN_all {c:Cir} {tick:Int}:∀ {b:Nat},∀ p ∈ prsN c tick b,p.at_=tick∧p.kind=3
 | 0,p,hp=>by cases hp
 | b+1,p,hp=>by
  simp only [prsN] at hp
  rcases List.mem_append.1 hp with hp | hp
  · exact prsN_all p hp
  · split at hp
    · simp only [List.mem_singleton] at hp; subst hp; exact ⟨rfl,rfl⟩
    · cases hp
theorem prsN_has {c:Cir} {tick:Int} {k:Nat} (hs:(bkAt c (k:Int)).station=true):∀ {b:Nat},k<b→∃ p ∈ prsN c tick b,Int.toNat p.block=k
 | 0,h=>by omega
 | b+1,h=>by
  simp only [prsN]
  by_cases e:k=b
  · subst e; exact ⟨_,List.mem_append_right _ (by rw [if_pos hs]; exact List.mem_singleton.2 rfl),by simp⟩
  · obtain ⟨p,hp,hb⟩:=prsN_has hs (b:=b) (by omega)
    exact ⟨p,List.mem_append_left _ hp,hb⟩
theorem full_stop {c:Cir}:∀ {n:Nat},(Qp c n).stopped=-1
 | 0=>rfl
 | n+1=>by
  show (Qu (Qp c n) (prsI c (n:Int))).stopped=-1
  unfold Qu
  have ih:=full_stop (c:=c) (n:=n)
  split
  · exact ih
  · show Yf (Qp c n)=-1
    have hns:QL (Qj (midT (Qp c n)))=false:=nosplit_none (show (midT (Qp c n)).faults=[] from full_f)
    unfold Yf
    rw [if_pos (by rw [ih]; decide),hns,if_neg (by simp)]; exact ih
/-- How the cars go. -/
structure Go1 (c:Cir) (r r':List Car) (go:Nat→Bool):Prop where
 len:r'.length=r.length
 each:∀ i,i<r.length→r'.getD i dC=if go i=true then mvC c (r.getD i dC) else r.getD i dC
 iff:∀ i,i<r.length→(go i=true ↔ (isI c r 2 (r.getD i dC).spot.block=true∧isI c r 3 (r.getD i dC).spot.block=true∧isI c r 1 (Xg c (Int.toNat (r.getD i dC).spot.block):Nat)=false)∧((bkAt c (r.getD i dC).spot.block).station=true→(bkAt c (r.getD i dC).spot.block).hold≤(r.getD i dC).stood))
theorem Qbf {c:Cir} {rd:Rd4} {ops:List Bool} {s0:Brk} (hn:QP s0.cars) (hin:∀ x ∈ s0.cars,InC c x.spot.block) (hg:s0.gos.length=c.blocks.length):∀ {b:Nat},b≤c.blocks.length →
 s0.gone≤(Qw c rd ops s0.cars b s0).gone∧((∃ i,i<s0.cars.length∧Int.toNat (s0.cars.getD i dC).spot.block<b∧goS c rd ops s0 i=true) ↔ s0.gone<(Qw c rd ops s0.cars b s0).gone)
 | 0,_=>⟨Int.le_refl _,⟨fun ⟨i,_,h,_⟩=>by omega,fun h=>by simp only [Qw] at h; omega⟩⟩
 | b+1,hb=>by
  obtain ⟨g1,g2⟩:=Qbf hn hin hg (rd:=rd) (ops:=ops) (b:=b) (by omega)
  obtain ⟨h1,h2,h3⟩:=Vj hn hin hg (rd:=rd) (ops:=ops) (b:=b) (by omega)
  simp only [Qw]
  generalize Qw c rd ops s0.cars b s0=s at h1 h2 h3 g1 g2
  have inI:∀ i,i<s0.cars.length→((Int.toNat (s0.cars.getD i dC).spot.block:Nat):Int)=(s0.cars.getD i dC).spot.block:=fun i hi=>by
   have:=(hin _ (List.mem_of_getElem? (getD_some (d:=dC) hi))).1
   omega
  have same:(∀ i,i<s0.cars.length→Int.toNat (s0.cars.getD i dC).spot.block=b→goS c rd ops s0 i=false)→s0.gone≤s.gone∧((∃ i,i<s0.cars.length∧Int.toNat (s0.cars.getD i dC).spot.block<b+1∧goS c rd ops s0 i=true) ↔ s0.gone<s.gone):=fun hh=>by
   refine ⟨g1,⟨fun ⟨i,hi,hlt,hgo⟩=>g2.1 ⟨i,hi,?_,hgo⟩,fun h=>?_⟩⟩
   · rcases Nat.lt_or_ge (Int.toNat (s0.cars.getD i dC).spot.block) b with w | w
     · exact w
     · rw [hh i hi (by omega)] at hgo; cases hgo
   · obtain ⟨i,hi,hlt,hgo⟩:=g2.2 h
     exact ⟨i,hi,by omega,hgo⟩
  unfold Xz
  split
  · rename_i hfree
    cases hc:Vv s0.cars b s0.cars.length with
    | none =>
     simp only
     refine same fun i hi hbi=>?_
     have:=Qbe hn hi (b:=b) (by rw [← inI i hi,hbi])
     rw [hc] at this; cases this
    | some i =>
     simp only
     obtain ⟨hi,hib,-⟩:=QS hc
     have hib:(s0.cars.getD i dC).spot.block=(b:Int):=by simpa using hib
     have hibn:Int.toNat (s0.cars.getD i dC).spot.block=b:=by omega
     have hsi:s.cars.getD i dC=s0.cars.getD i dC:=by rw [h2 i hi,if_neg (by omega)]
     have hw:YF c s b i=YF c s0 b i:=by simp only [YF,hsi,h3 b (Nat.le_refl b)]
     have only:∀ k,k<s0.cars.length→Int.toNat (s0.cars.getD k dC).spot.block=b→k=i:=fun k hk hkb=>hn.uniq hk hi (by rw [← inI k hk,hkb,hib])
     split
     · rename_i hwt
       refine same fun k hk hkb=>?_
       have:=only k hk hkb
       subst this
       rw [goS,hkb,← hw,hwt]; simp
     · rename_i hwt
       have hgo:goS c rd ops s0 i=true:=by rw [goS,hibn,hfree,← hw,Bool.eq_false_iff.2 hwt]; rfl
       simp only [goB]
       exact ⟨by omega,⟨fun _=>by omega,fun _=>⟨i,hi,by omega,hgo⟩⟩⟩
  · rename_i hfree
    refine same fun i hi hbi=>?_
    rw [goS,hbi,Bool.eq_false_iff.2 hfree]; rfl
theorem Qaa {c:Cir} (h:ChkIn c) (n:Nat):∃ go,Go1 c (QM (Qp c n)) (Qp c (n+1)).cars go∧(Qp c n).gone≤(Qp c (n+1)).gone∧((∃ i,i<(Qp c n).cars.length∧go i=true) ↔ (Qp c n).gone<(Qp c (n+1)).gone):=by
 have hinv:=Yp h (n:=n)
 have hc:(Qp c n).c=c:=YI
 have hs:Yf (Qp c n)<0:=by
  have:=full_stop (c:=c) (n:=n+1)
  rw [show Qp c (n+1)=Qu (Qp c n) (prsI c (n:Int)) from rfl,hinv.eq] at this
  have:Yf (Qp c n)=-1:=this
  omega
 have hsp:=hinv.nosplit hs
 have hn:=YN hinv.ns
 have hcar:=Yi hinv.tok
 have hp:=qx (l:=prsI c (n:Int)) hinv.tok hinv.w
 have e:actT (Qp c n) (prsI c (n:Int))=Ve (Qp c n) (prsI c (n:Int)):=by unfold actT; rw [if_pos hs]
 have epr:QI (Qp c n) (prsI c (n:Int))=(QM (Qp c n),(prsI c (n:Int)).foldl (fun g p=>g.set (Int.toNat p.block) true) (Qp c n).gos,List.replicate c.blocks.length false):=by
  unfold QI
  rw [prs_fold (fun p hp=>by rw [qQ]; exact prsN_all p hp),hc]
 have hgl:=hinv.tok.lg
 rw [hc] at hgl
 have hset:=set_fold (l:=prsI c (n:Int)) (g:=(Qp c n).gos)
 have est:Qp c (n+1)=Qu (Qp c n) (prsI c (n:Int)):=rfl
 have hns:QP (⟨(QI (Qp c n) (prsI c (n:Int))).1,(QI (Qp c n) (prsI c (n:Int))).2.1,(Qp c n).rounds,(Qp c n).gone⟩:Brk).cars:=hp.ns
 have hin:∀ x ∈ (⟨(QI (Qp c n) (prsI c (n:Int))).1,(QI (Qp c n) (prsI c (n:Int))).2.1,(Qp c n).rounds,(Qp c n).gone⟩:Brk).cars,InC (Qp c n).c x.spot.block:=fun x hx=>(hp.car x hx).inC
 have hbr:=Vj (c:=(Qp c n).c) (rd:=Qj (midT (Qp c n))) (ops:=(QI (Qp c n) (prsI c (n:Int))).2.2) hns hin hp.lg (b:=(Qp c n).c.blocks.length) (Nat.le_refl _)
 have hgn:=Qbf (c:=(Qp c n).c) (rd:=Qj (midT (Qp c n))) (ops:=(QI (Qp c n) (prsI c (n:Int))).2.2) hns hin hp.lg (b:=(Qp c n).c.blocks.length) (Nat.le_refl _)
 have hlt:∀ i,i<(QM (Qp c n)).length→Int.toNat ((QM (Qp c n)).getD i dC).spot.block<c.blocks.length:=fun i hi=>by
  have:=(hcar _ (List.mem_of_getElem? (getD_some (d:=dC) hi))).inC.2
  rw [hc] at this; exact this
 dsimp only at hbr hgn
 rw [epr] at hbr hgn
 dsimp only at hbr hgn
 have ecars:(Qp c (n+1)).cars=(Ve (Qp c n) (prsI c (n:Int))).cars:=by rw [est,hinv.eq,e]
 have egone:(Qp c (n+1)).gone=(Ve (Qp c n) (prsI c (n:Int))).gone:=by rw [est,hinv.eq,e]
 unfold Ve at ecars egone
 rw [epr] at ecars egone
 dsimp only at ecars egone
 rw [hc] at hbr hgn ecars egone
 refine ⟨goS c (Qj (midT (Qp c n))) (List.replicate c.blocks.length false) ⟨QM (Qp c n),(prsI c (n:Int)).foldl (fun g p=>g.set (Int.toNat p.block) true) (Qp c n).gos,(Qp c n).rounds,(Qp c n).gone⟩,⟨?_,fun i hi=>?_,fun i hi=>?_⟩,?_,?_⟩
 · rw [ecars]; exact hbr.1
 · rw [ecars,hbr.2.1 i hi]
   have:=hlt i hi
   by_cases hg:goS c (Qj (midT (Qp c n))) (List.replicate c.blocks.length false) ⟨QM (Qp c n),(prsI c (n:Int)).foldl (fun g p=>g.set (Int.toNat p.block) true) (Qp c n).gos,(Qp c n).rounds,(Qp c n).gone⟩ i=true
   · rw [if_pos ⟨this,hg⟩,if_pos hg]
   · rw [if_neg (fun h=>hg h.2),if_neg hg]
 · have hb:=hlt i hi
   have hf1:(midT (Qp c n)).faults.length≤1:=hinv.f1
   have hfr:=free_true (T:=midT (Qp c n)) hf1 hsp (by show 0<(Qp c n).c.blocks.length; rw [hc]; omega) (ops:=List.replicate c.blocks.length false) (b:=Int.toNat ((QM (Qp c n)).getD i dC).spot.block) (by show _<(Qp c n).c.blocks.length; rw [hc]; exact hb)
   have hfr:VX c (Qj (midT (Qp c n))) (List.replicate c.blocks.length false) (Int.toNat ((QM (Qp c n)).getD i dC).spot.block)=(isI c (QM (Qp c n)) 2 (Int.toNat ((QM (Qp c n)).getD i dC).spot.block:Nat) && isI c (QM (Qp c n)) 3 (Int.toNat ((QM (Qp c n)).getD i dC).spot.block:Nat) && !((List.replicate c.blocks.length false).getD (Int.toNat ((QM (Qp c n)).getD i dC).spot.block) false) && !(isI c (QM (Qp c n)) 1 (Xg c (Int.toNat ((QM (Qp c n)).getD i dC).spot.block):Nat))):=by
    have e0:(midT (Qp c n)).c=c:=hc
    rw [e0] at hfr
    exact hfr
   have hbi:((Int.toNat ((QM (Qp c n)).getD i dC).spot.block:Nat):Int)=((QM (Qp c n)).getD i dC).spot.block:=by
    have:=(hcar _ (List.mem_of_getElem? (getD_some (d:=dC) hi))).inC.1; omega
   have hrep:(List.replicate c.blocks.length false).getD (Int.toNat ((QM (Qp c n)).getD i dC).spot.block) false=false:=by
    rw [List.getD_eq_getElem?_getD,List.getElem?_replicate,if_pos hb]; rfl
   rw [hrep,hbi] at hfr
   have hbk:c.blocks.getD (Int.toNat ((QM (Qp c n)).getD i dC).spot.block) ⟨0,false,0,false⟩=bkAt c ((QM (Qp c n)).getD i dC).spot.block:=rfl
   have hgo:(bkAt c ((QM (Qp c n)).getD i dC).spot.block).station=true→((prsI c (n:Int)).foldl (fun g p=>g.set (Int.toNat p.block) true) (Qp c n).gos).getD (Int.toNat ((QM (Qp c n)).getD i dC).spot.block) false=true:=fun hst =>
    hset.2 _ (by rw [hgl]; exact hb) (.inr (prsN_has (by rw [hbi]; exact hst) hb))
   rw [goS,hfr]
   simp only [YF,hbk]
   generalize bkAt c ((QM (Qp c n)).getD i dC).spot.block=bk at hgo
   generalize ((prsI c (n:Int)).foldl (fun g p=>g.set (Int.toNat p.block) true) (Qp c n).gos).getD (Int.toNat ((QM (Qp c n)).getD i dC).spot.block) false=gb at hgo
   cases h2:isI c (QM (Qp c n)) 2 ((QM (Qp c n)).getD i dC).spot.block <;> cases h3:isI c (QM (Qp c n)) 3 ((QM (Qp c n)).getD i dC).spot.block <;> cases h1:isI c (QM (Qp c n)) 1 (Xg c (Int.toNat ((QM (Qp c n)).getD i dC).spot.block):Nat) <;> simp
   cases hst:bk.station with
   | false=>simp
   | true=>rw [hgo hst]; simp
 · rw [egone]; exact hgn.1
 · rw [egone,← hgn.2]
   rw [QX]
   constructor
   · rintro ⟨i,hi,hg⟩
     exact ⟨i,hi,hlt i (by rw [QX]; exact hi),hg⟩
   · rintro ⟨i,hi,-,hg⟩
     exact ⟨i,hi,hg⟩
/-! ### Car by car -/
def crA (c:Cir) (n i:Nat):Car:=(Qp c n).cars.getD i dC
theorem XF {c:Cir} (h:ChkIn c):∀ {n:Nat},(Qp c n).cars.length=c.cars.length
 | 0=>by simp [Qp,runT,newT]
 | n+1=>by
  obtain ⟨go,hg,-⟩:=Qaa h n
  rw [hg.len,QX,XF h]
theorem roll_get {c:Cir} {n i:Nat} (hi:i<(Qp c n).cars.length):(QM (Qp c n)).getD i dC=if 0<n then Qo c (crA c n i) else crA c n i:=by
 unfold QM
 rw [qQ]
 by_cases hn:0<n
 · rw [if_pos hn,if_pos (by omega),Xe (d:=dC) hi,YI]; rfl
 · rw [if_neg hn,if_neg (by omega)]; rfl
theorem rollC_opn {c:Cir} (x:Car):(Qo c x).spot.opn=x.spot.opn:=by unfold Qo; split <;> rfl
theorem qR {c:Cir} (h:ChkIn c):∀ {n i:Nat},i<c.cars.length→(crA c n i).spot.opn=false
 | 0,i,hi=>by
  show ((newT c []).cars.getD i dC).spot.opn=false
  simp only [newT]
  rw [Xe (d:=0) hi]
 | n+1,i,hi=>by
  obtain ⟨go,hg,-⟩:=Qaa h n
  have hl:i<(Qp c n).cars.length:=by rw [XF h]; exact hi
  have hr:((QM (Qp c n)).getD i dC).spot.opn=false:=by
   rw [roll_get hl]
   split
   · rw [rollC_opn]; exact qR h hi
   · exact qR h hi
  unfold crA
  rw [hg.each i (by rw [QX]; exact hl)]
  split
  · exact hr
  · exact hr
theorem crA_in {c:Cir} (h:ChkIn c) {n i:Nat} (hi:i<c.cars.length):InC c (crA c n i).spot.block∧0≤(crA c n i).spot.ran∧0≤(crA c n i).stood:=by
 have:=(Yp h (n:=n)).tok.car _ (List.mem_of_getElem? (getD_some (d:=dC) (show i<(Qp c n).cars.length by rw [XF h]; exact hi)))
 have h1:=this.inC
 rw [YI] at h1
 exact ⟨h1,this.ran.1,this.stood.1⟩
/-- A car before the brakes are read. -/
def rdy (c:Cir) (n i:Nat):Car:=if 0<n then Qo c (crA c n i) else crA c n i
theorem Yj {c:Cir} {n i:Nat}:(rdy c n i).spot.block=(crA c n i).spot.block:=by
 unfold rdy; split
 · exact yg _
 · rfl
/-- A tick,car by car. -/
theorem Wk {c:Cir} (h:ChkIn c) (n:Nat):∃ go:Nat→Bool,(∀ i,i<c.cars.length→crA c (n+1) i=if go i=true then mvC c (rdy c n i) else rdy c n i) ∧
 (∀ i,i<c.cars.length→(go i=true ↔ Xp c (rdy c n i)=true∧(∀ j,j<c.cars.length→(crA c n j).spot.block ≠ (Xg c (Int.toNat (crA c n i).spot.block):Nat))∧((bkAt c (crA c n i).spot.block).station=true→(bkAt c (crA c n i).spot.block).hold≤(rdy c n i).stood))) ∧
 (Qp c n).gone≤(Qp c (n+1)).gone∧((∃ i,i<c.cars.length∧go i=true) ↔ (Qp c n).gone<(Qp c (n+1)).gone):=by
 obtain ⟨go,hg,hg1,hg2⟩:=Qaa h n
 have hl:=XF h (n:=n)
 have hrd:∀ i,i<c.cars.length→(QM (Qp c n)).getD i dC=rdy c n i:=fun i hi=>roll_get (by rw [hl]; exact hi)
 have hns:=YN (Yp h (n:=n)).ns
 rw [hl] at hg2
 refine ⟨go,fun i hi=>?_,fun i hi=>?_,hg1,hg2⟩
 · rw [← hrd i hi]
   exact hg.each i (by rw [QX,hl]; exact hi)
 · have hi':i<(QM (Qp c n)).length:=by rw [QX,hl]; exact hi
   rw [hg.iff i hi',isI_car hns hi',hrd i hi,Yj]
   have h3:isI c (QM (Qp c n)) 3 (crA c n i).spot.block=true:=by
    rw [isI,if_neg (by omega),if_neg (by omega),Bool.not_eq_true',Bool.eq_false_iff]
    intro hh
    obtain ⟨j,hj,hp⟩:=Wu.1 hh
    rw [QX,hl] at hj
    rw [hrd j hj] at hp
    simp only [Bool.and_eq_true] at hp
    have:(rdy c n j).spot.opn=false:=by
     unfold rdy; split
     · rw [rollC_opn]; exact qR h hj
     · exact qR h hj
    rw [this] at hp; cases hp.2
   have h1:isI c (QM (Qp c n)) 1 (Xg c (Int.toNat (crA c n i).spot.block):Nat)=false ↔ ∀ j,j<c.cars.length→(crA c n j).spot.block ≠ (Xg c (Int.toNat (crA c n i).spot.block):Nat):=by
    rw [isI,if_pos rfl,Bool.eq_false_iff,ne_eq,Wu]
    constructor
    · intro hh j hj e
      exact hh ⟨j,by rw [QX,hl]; exact hj,by rw [hrd j hj,Yj]; simpa using e⟩
    · rintro hh ⟨j,hj,hp⟩
      rw [QX,hl] at hj
      rw [hrd j hj,Yj] at hp
      exact hh j hj (by simpa using hp)
   rw [h1,h3]
   exact ⟨fun ⟨⟨a,_,b⟩,c⟩=>⟨a,b,c⟩,fun ⟨a,b,c⟩=>⟨⟨a,rfl,b⟩,c⟩⟩
/-! ### How far a car has come -/
def bkTm (c:Cir) (b:Nat):Int:=(bkAt c (b:Int)).time+(bkAt c (b:Int)).hold
def preN (c:Cir):Nat→Int
 | 0=>0
 | b+1=>preN c b+bkTm c b
def lapN (c:Cir) (i:Nat):Nat→Int
 | 0=>0
 | n+1=>lapN c i n+(if (crA c n i).spot.block=((c.blocks.length - 1:Nat):Int)∧(crA c (n+1) i).spot.block=0 then 1 else 0)
def stdC (c:Cir) (x:Car):Car:=⟨x.spot,iMin x.stood (bkAt c x.spot.block).hold⟩
def farC (c:Cir) (lap:Int) (x:Car):Int:=lap*preN c c.blocks.length+preN c (Int.toNat x.spot.block)+(stdC c x).spot.ran+(stdC c x).stood
theorem bk_mem {c:Cir} {b:Int} (hb:InC c b):bkAt c b ∈ c.blocks:=List.mem_of_getElem? (yC hb)
theorem next_in {c:Cir} (h:ChkIn c) {b:Nat}:InC c ((Xg c b:Nat):Int):=⟨by omega,by
 have:=h.nb
 rw [Int.toNat_natCast]; exact Nat.mod_lt _ (by omega)⟩
theorem far_roll {c:Cir} {lap:Int} {x:Car} (hh:0≤(bkAt c x.spot.block).hold):farC c lap (Qo c x)≤farC c lap x+1:=by
 unfold Qo
 split
 · simp only [farC,stdC,iMin]; split <;> split <;> omega
 · simp only [farC,stdC,iMin]; omega
theorem far_move {c:Cir} (h:ChkIn c) {lap:Int} {x:Car} (hx:InC c x.spot.block) (hr:Xp c x=true) (hs:(bkAt c x.spot.block).hold≤x.stood) :
 farC c (lap+(if x.spot.block=((c.blocks.length - 1:Nat):Int)∧(mvC c x).spot.block=0 then 1 else 0)) (mvC c x)=farC c lap x:=by
 have hb1:=h.nb
 obtain ⟨b,hb⟩:∃ b:Nat,x.spot.block=(b:Int):=⟨Int.toNat x.spot.block,by have:=hx.1; omega⟩
 have hlt:b<c.blocks.length:=by have:=hx.2; rw [hb] at this; simpa using this
 have hr:x.spot.ran=(bkAt c x.spot.block).time:=by simpa [Xp] using hr
 have hh:=(h.bk _ (bk_mem (next_in h (b:=b)))).2.1.1
 have e1:iMin x.stood (bkAt c x.spot.block).hold=(bkAt c x.spot.block).hold:=by unfold iMin; split <;> omega
 have e2:iMin 0 (bkAt c ((Xg c b:Nat):Int)).hold=0:=by unfold iMin; split <;> omega
 have e0:Int.toNat x.spot.block=b:=by omega
 simp only [farC,stdC,mvC,e1,hr,e0,e2]
 rw [hb]
 rcases Nat.lt_or_ge (b+1) c.blocks.length with w | w
 · have en:Xg c b=b+1:=Nat.mod_eq_of_lt w
   rw [if_neg (by omega),en]
   have e3:preN c (Int.toNat ((b+1:Nat):Int))=preN c b+((bkAt c (b:Int)).time+(bkAt c (b:Int)).hold):=by rw [Int.toNat_natCast]; rfl
   rw [e3]; simp only [Int.add_zero]; omega
 · have eb:c.blocks.length=b+1:=by omega
   have en:Xg c b=0:=by rw [Xg,eb,Nat.mod_self]
   rw [if_pos ⟨by omega,by rw [en]; rfl⟩,en,eb]
   rw [show preN c (Int.toNat ((0:Nat):Int))=0 from rfl]
   simp only [preN,bkTm,Int.add_mul,Int.one_mul]; omega
theorem far_step {c:Cir} (h:ChkIn c) {n i:Nat} (hi:i<c.cars.length):farC c (lapN c i (n+1)) (crA c (n+1) i)≤farC c (lapN c i n) (crA c n i)+1:=by
 obtain ⟨go,h1,h2,-⟩:=Wk h n
 obtain ⟨hin,-,hst⟩:=crA_in h (n:=n) hi
 have hh:=h.bk _ (bk_mem hin)
 have hr:farC c (lapN c i n) (rdy c n i)≤farC c (lapN c i n) (crA c n i)+1:=by
  unfold rdy
  split
  · exact far_roll hh.2.1.1
  · omega
 rw [h1 i hi]
 by_cases hg:go i=true
 · rw [if_pos hg]
   obtain ⟨a1,-,a3⟩:=(h2 i hi).1 hg
   have hstd:0≤(rdy c n i).stood:=by
    unfold rdy; split
    · unfold Qo; split
      · simp only; omega
      · exact hst
    · exact hst
   have hhold:(bkAt c (rdy c n i).spot.block).hold≤(rdy c n i).stood:=by
    rw [Yj]
    cases hs:(bkAt c (crA c n i).spot.block).station with
    | true=>exact a3 hs
    | false=>rw [hh.2.2 hs]; exact hstd
   have:=far_move h (lap:=lapN c i n) (x:=rdy c n i) (by rw [Yj]; exact hin) a1 hhold
   have e:lapN c i (n+1)=lapN c i n+(if (rdy c n i).spot.block=((c.blocks.length - 1:Nat):Int)∧(mvC c (rdy c n i)).spot.block=0 then 1 else 0):=by
    simp only [lapN,h1 i hi,if_pos hg,Yj]
   rw [e,this]; exact hr
 · rw [if_neg hg]
   have e:lapN c i (n+1)=lapN c i n:=by
    have hb1:=h.nb
    simp only [lapN,h1 i hi,if_neg hg,Yj]
    rw [if_neg (by omega)]; omega
   rw [e]; exact hr
theorem far_run {c:Cir} (h:ChkIn c) {a i:Nat} (hi:i<c.cars.length):∀ {m:Nat},farC c (lapN c i (a+m)) (crA c (a+m) i)≤farC c (lapN c i a) (crA c a i)+m
 | 0=>by simp
 | m+1=>by
  have h1:=far_run h (a:=a) hi (m:=m)
  have h2:=far_step h (n:=a+m) hi
  rw [show a+(m+1)=a+m+1 by omega]; omega
/-! ### Moves,and laps -/
def mvsN (c:Cir) (i:Nat):Nat→Int
 | 0=>0
 | n+1=>mvsN c i n+(if (crA c (n+1) i).spot.block=(crA c n i).spot.block then 0 else 1)
theorem mv_one {c:Cir} (h:ChkIn c) (n:Nat) {i:Nat} (hi:i<c.cars.length):Mv c.blocks.length (crA c n i).spot.block (crA c (n+1) i).spot.block (if (crA c (n+1) i).spot.block=(crA c n i).spot.block then 0 else 1) ∧
 ((crA c (n+1) i).spot.block ≠ (crA c n i).spot.block→∀ j,j<c.cars.length→(crA c (n+1) i).spot.block ≠ (crA c n j).spot.block):=by
 obtain ⟨go,h1,h2,-⟩:=Wk h n
 obtain ⟨hin,-,-⟩:=crA_in h (n:=n) hi
 have hb1:=h.nb
 obtain ⟨b,hb⟩:∃ b:Nat,(crA c n i).spot.block=(b:Int):=⟨Int.toNat (crA c n i).spot.block,by have:=hin.1; omega⟩
 have hlt:b<c.blocks.length:=by have:=hin.2; rw [hb] at this; simpa using this
 by_cases hg:go i=true
 · have e:(crA c (n+1) i).spot.block=((Xg c b:Nat):Int):=by rw [h1 i hi,if_pos hg]; simp only [mvC,Yj,hb,Int.toNat_natCast]
   have hfree:=((h2 i hi).1 hg).2.1
   rw [hb,Int.toNat_natCast] at hfree
   rw [e,hb]
   refine ⟨?_,fun _ j hj he=>hfree j hj he.symm⟩
   unfold Mv
   rcases Nat.lt_or_ge (b+1) c.blocks.length with w | w
   · rw [show Xg c b=b+1 from Nat.mod_eq_of_lt w,if_neg (by omega)]; exact .inr ⟨rfl,.inl ⟨by omega,by omega⟩⟩
   · rw [show Xg c b=0 by rw [Xg,show b+1=c.blocks.length by omega,Nat.mod_self],if_neg (by omega)]; exact .inr ⟨rfl,.inr ⟨rfl,by omega⟩⟩
 · have e:(crA c (n+1) i).spot.block=(crA c n i).spot.block:=by rw [h1 i hi,if_neg hg,Yj]
   rw [if_pos e]
   exact ⟨.inl ⟨rfl,e⟩,fun hne=>absurd e hne⟩
theorem XK {c:Cir} (h:ChkIn c) {n i:Nat} (hi:i<c.cars.length):0≤(crA c n i).spot.block∧(crA c n i).spot.block<c.blocks.length:=by
 have h0:=(crA_in h (n:=n) hi).1
 exact ⟨h0.1,by have h1:=h0.1; have h2:=h0.2; omega⟩
theorem crA_ne {c:Cir} (h:ChkIn c) {n i j:Nat} (hi:i<c.cars.length) (hj:j<c.cars.length) (hne:i ≠ j):(crA c n i).spot.block ≠ (crA c n j).spot.block:=fun e =>
 hne ((Yp h (n:=n)).ns.uniq (by rw [XF h]; exact hi) (by rw [XF h]; exact hj) e)
theorem lap_mvs {c:Cir} (h:ChkIn c) {i:Nat} (hi:i<c.cars.length):∀ {n:Nat},(crA c n i).spot.block+c.blocks.length*lapN c i n=(crA c 0 i).spot.block+mvsN c i n
 | 0=>by simp [lapN,mvsN]
 | n+1=>by
  have ih:=lap_mvs h hi (n:=n)
  obtain ⟨hm,-⟩:=mv_one h n hi
  have hb:=XK h (n:=n) hi
  have hb':=XK h (n:=n+1) hi
  have h2:=h.nb
  simp only [lapN,mvsN]
  generalize (crA c (n+1) i).spot.block=q at *
  generalize (crA c n i).spot.block=p at *
  generalize lapN c i n=L at *
  generalize mvsN c i n=M at *
  unfold Mv at hm
  rw [Int.mul_add]
  by_cases e:q=p
  · rw [if_pos e,if_neg (by omega)]; omega
  · rw [if_neg e] at hm ⊢
    rcases hm with ⟨h0,_⟩ | ⟨_,h0⟩
    · omega
    · rcases h0 with ⟨h3,h4⟩ | ⟨h3,h4⟩
      · rw [if_neg (by omega)]; omega
      · rw [if_pos (by omega)]; omega
theorem cyc_mvs {c:Cir} (h:ChkIn c) {i k:Nat} (hi:i<c.cars.length) (hk:k<c.cars.length) (hne:i ≠ k):∀ {n:Nat},
 cyc c.blocks.length (crA c n i).spot.block (crA c n k).spot.block=cyc c.blocks.length (crA c 0 i).spot.block (crA c 0 k).spot.block+mvsN c k n - mvsN c i n
 | 0=>by simp [mvsN]
 | n+1=>by
  have ih:=cyc_mvs h hi hk hne (n:=n)
  obtain ⟨mi,fi⟩:=mv_one h n hi
  obtain ⟨mk,fk⟩:=mv_one h n hk
  have:=dist_step (cyc_spec (XK h (n:=n) hi) (XK h (n:=n) hk)) (cyc_spec (XK h (n:=n+1) hi) (XK h (n:=n+1) hk)) mi mk (XK h hi) (XK h hk) (crA_ne h hi hk hne)
   (fun e=>fi (fun e2=>by rw [if_pos e2] at e; omega) k hk) (fun e=>fk (fun e2=>by rw [if_pos e2] at e; omega) i hi)
  rw [this,ih]
  simp only [mvsN]; omega
/-! ### Rounds are the laps of all cars -/
theorem qv {c:Cir} (h:ChkIn c):∀ {n:Nat},(Qp c n).rounds=sumN (fun i=>lapN c i n) c.cars.length
 | 0=>by
  rw [KG (f:=fun i=>lapN c i 0) fun i hi=>rfl]; rfl
 | n+1=>by
  have hinv:=Yp h (n:=n)
  have hrs:=KL (l:=prsI c (n:Int)) hinv (by rw [YI]; exact yh (Nat.le_refl _)) (by rw [YI]; exact h.nb.1)
  rw [show Qp c (n+1)=Qu (Qp c n) (prsI c (n:Int)) from rfl,hrs,qv h,YI]
  simp only [lapN]
  rw [Qbt]
  congr 1
  have hl:=XF h (n:=n)
  unfold rndO
  cases hc:Vv (Qp c n).cars (c.blocks.length - 1) (Qp c n).cars.length with
  | none =>
   simp only
   symm
   refine KG fun i hi=>if_neg fun hh=>?_
   have:=VY hc i (by rw [hl]; exact hi)
   exact beq_eq_false_iff_ne.1 this hh.1
  | some i0 =>
   obtain ⟨hi0,hb0,-⟩:=QS hc
   rw [hl] at hi0
   have hb0:(crA c n i0).spot.block=((c.blocks.length - 1:Nat):Int):=eq_of_beq hb0
   simp only
   rw [sumN_one hi0 fun i hi hne=>if_neg fun hh=>crA_ne h hi hi0 hne (by rw [hh.1,hb0])]
   by_cases e:(crA c (n+1) i0).spot.block=0
   · rw [if_pos (show (((Qu (Qp c n) (prsI c (n:Int))).cars.getD i0 dC).spot.block == 0)=true from beq_iff_eq.2 e),if_pos ⟨hb0,e⟩]
   · rw [if_neg (show ¬ (((Qu (Qp c n) (prsI c (n:Int))).cars.getD i0 dC).spot.block == 0)=true from fun hh=>e (beq_iff_eq.1 hh)),if_neg (fun hh=>e hh.2)]
/-! ### Some car goes,before all comes again -/
theorem free_next {c:Cir} (h:ChkIn c) {n:Nat} (h0:0<c.cars.length) (hl:c.cars.length<c.blocks.length):∃ i,i<c.cars.length∧∀ j,j<c.cars.length→(crA c n j).spot.block ≠ (Xg c (Int.toNat (crA c n i).spot.block):Nat):=by
 refine Classical.byContradiction fun hn=>?_
 have hex:∀ i,i<c.cars.length→∃ j,j<c.cars.length∧(crA c n j).spot.block=(Xg c (Int.toNat (crA c n i).spot.block):Nat):=fun i hi =>
  Classical.byContradiction fun hn2=>hn ⟨i,hi,fun j hj e=>hn2 ⟨j,hj,e⟩⟩
 have hN:0<c.blocks.length:=by omega
 have hb0:=XK h (n:=n) h0
 have hall:∀ m:Nat,∃ i,i<c.cars.length∧Int.toNat (crA c n i).spot.block=(Int.toNat (crA c n 0).spot.block+m) % c.blocks.length:=by
  intro m
  induction m with
  | zero=>exact ⟨0,h0,by rw [Nat.add_zero,Nat.mod_eq_of_lt (by omega)]⟩
  | succ m ih =>
   obtain ⟨i,hi,e⟩:=ih
   obtain ⟨j,hj,e2⟩:=hex i hi
   refine ⟨j,hj,?_⟩
   rw [e2,e,Int.toNat_natCast,Xg,Nat.mod_add_mod]; rfl
 have:=surj_le (N:=c.blocks.length) (L:=c.cars.length) (f:=fun i=>Int.toNat (crA c n i).spot.block) fun b hb=>by
  obtain ⟨i,hi,e⟩:=hall (c.blocks.length+b - Int.toNat (crA c n 0).spot.block)
  refine ⟨i,hi,?_⟩
  rw [e,show Int.toNat (crA c n 0).spot.block+(c.blocks.length+b - Int.toNat (crA c n 0).spot.block)=b+c.blocks.length by omega,Nat.add_mod_right,Nat.mod_eq_of_lt hb]
 omega
theorem VV {c:Cir} (h:ChkIn c) {a:Nat}:∀ {m:Nat},(Qp c a).gone≤(Qp c (a+m)).gone
 | 0=>Int.le_refl _
 | m+1=>by
  obtain ⟨go,-,-,h3,-⟩:=Wk h (a+m)
  exact Int.le_trans (VV h (a:=a) (m:=m)) h3
theorem QaJ {c:Cir} (h:ChkIn c) {n:Nat} (hn:0<n) (hg:¬ (Qp c n).gone<(Qp c (n+1)).gone) {i:Nat} (hi:i<c.cars.length):crA c (n+1) i=Qo c (crA c n i):=by
 obtain ⟨go,h1,-,-,h4⟩:=Wk h n
 rw [h1 i hi,if_neg (fun e=>hg (h4.1 ⟨i,hi,e⟩)),rdy,if_pos hn]
theorem still_run {c:Cir} (h:ChkIn c) {a:Nat} (ha:0<a) {i:Nat} (hi:i<c.cars.length):∀ {m:Nat},¬ (Qp c a).gone<(Qp c (a+(m+1))).gone →
 (Xp c (crA c a i)=true∧(crA c (a+(m+1)) i)=⟨(crA c a i).spot,(crA c a i).stood+(m+1:Nat)⟩) ∨ (crA c a i).spot.ran<(crA c (a+(m+1)) i).spot.ran
 | 0,hg=>by
  have e:=QaJ h ha hg hi
  rw [show a+(0+1)=a+1 by omega,e]
  unfold Qo
  split
  · rename_i hr; exact .inl ⟨hr,rfl⟩
  · right; simp only; omega
 | m+1,hg=>by
  have m1:=VV h (a:=a) (m:=m+1)
  have m2:=VV h (a:=a+(m+1)) (m:=1)
  rw [show a+(m+1)+1=a+(m+1+1) by omega] at m2
  have e:=QaJ h (n:=a+(m+1)) (by omega) (by rw [show a+(m+1)+1=a+(m+1+1) by omega]; omega) hi
  rw [show a+(m+1)+1=a+(m+1+1) by omega] at e
  rcases still_run h ha hi (m:=m) (by omega) with ⟨hr,e2⟩ | hlt
  · left
    refine ⟨hr,?_⟩
    rw [e,e2]
    have hr2:Xp c (⟨(crA c a i).spot,(crA c a i).stood+((m+1:Nat):Int)⟩:Car)=true:=hr
    rw [Qo,if_pos hr2]
    simp only [Car.mk.injEq,true_and]; omega
  · right
    rw [e]
    unfold Qo
    split
    · exact hlt
    · simp only; omega
theorem some_go {c:Cir} (h:ChkIn c) {a b:Nat} (ha:0<a) (hab:a<b) (h0:0<c.cars.length) (hl:c.cars.length<c.blocks.length) (he:∀ i,i<c.cars.length→stdC c (crA c a i)=stdC c (crA c b i)):(Qp c a).gone<(Qp c b).gone:=by
 refine Classical.byContradiction fun hg=>?_
 obtain ⟨m,rfl⟩:∃ m,b=a+(m+1):=⟨b - a - 1,by omega⟩
 have hrest:∀ i,i<c.cars.length→Xp c (crA c a i)=true∧(bkAt c (crA c a i).spot.block).hold≤(crA c a i).stood:=fun i hi=>by
  have hs:=he i hi
  rcases still_run h ha hi hg with ⟨hr,e2⟩ | hlt
  · refine ⟨hr,?_⟩
    have e3:=congrArg Car.stood hs
    rw [e2] at e3
    simp only [stdC,iMin] at e3
    split at e3 <;> split at e3 <;> omega
  · have e3:=congrArg (fun x:Car=>x.spot.ran) hs
    simp only [stdC] at e3
    omega
 obtain ⟨go,h1,h2,h3,h4⟩:=Wk h a
 obtain ⟨i,hi,hf⟩:=free_next h (n:=a) h0 hl
 obtain ⟨r1,r2⟩:=hrest i hi
 have er:rdy c a i=⟨(crA c a i).spot,(crA c a i).stood+1⟩:=by rw [rdy,if_pos ha,Qo,if_pos r1]
 have hgo:go i=true:=(h2 i hi).2 ⟨by rw [er]; exact r1,hf,fun _=>by rw [er]; simp only; omega⟩
 have:=h4.1 ⟨i,hi,hgo⟩
 have m2:=VV h (a:=a+1) (m:=m)
 rw [show a+1+m=a+(m+1) by omega] at m2
 omega
/-! ### What Rated finds -/
theorem rated_main {c:Cir} (h:ChkIn c) {a b:Nat} (ha:0<a) (hab:a<b) (h0:0<c.cars.length) (hl:c.cars.length<c.blocks.length) (he:∀ i,i<c.cars.length→stdC c (crA c a i)=stdC c (crA c b i)) :
 ∃ r:Int,0<r∧(Qp c b).rounds - (Qp c a).rounds=c.cars.length*r∧r*preN c c.blocks.length≤(b:Int) - a:=by
 have hgo:=some_go h ha hab h0 hl he
 have hblk:∀ i,i<c.cars.length→(crA c a i).spot.block=(crA c b i).spot.block:=fun i hi=>by
  have:=congrArg (fun x:Car=>x.spot.block) (he i hi)
  exact this
 have hmv:∀ i,i<c.cars.length→mvsN c i b - mvsN c i a=mvsN c 0 b - mvsN c 0 a:=fun i hi=>by
  by_cases e:i=0
  · subst e; rfl
  · have h1:=cyc_mvs h hi h0 e (n:=a)
    have h2:=cyc_mvs h hi h0 e (n:=b)
    rw [hblk i hi,hblk 0 h0,h2] at h1
    omega
 have hlap:∀ i,i<c.cars.length→c.blocks.length*(lapN c i b - lapN c i a)=mvsN c i b - mvsN c i a:=fun i hi=>by
  have h1:=lap_mvs h hi (n:=a)
  have h2:=lap_mvs h hi (n:=b)
  rw [hblk i hi] at h1
  rw [Int.mul_sub]; omega
 have hN:(0:Int)<c.blocks.length:=by omega
 have heq:∀ i,i<c.cars.length→lapN c i b - lapN c i a=lapN c 0 b - lapN c 0 a:=fun i hi=>by
  have h1:=hlap i hi
  have h2:=hlap 0 h0
  rw [hmv i hi] at h1
  exact Int.eq_of_mul_eq_mul_left (by omega) (h1.trans h2.symm)
 have hmono:∀ i,i<c.cars.length→∀ n m,mvsN c i n≤mvsN c i (n+m):=fun i hi n m=>by
  induction m with
  | zero=>exact Int.le_refl _
  | succ m ih =>
   have:mvsN c i (n+(m+1))=mvsN c i (n+m)+(if (crA c (n+m+1) i).spot.block=(crA c (n+m) i).spot.block then 0 else 1):=rfl
   split at this <;> omega
 -- some car moves
 have hsome:∃ i,i<c.cars.length∧mvsN c i a<mvsN c i b:=by
  have key:∀ m,(Qp c a).gone<(Qp c (a+m)).gone→∃ i,i<c.cars.length∧mvsN c i a<mvsN c i (a+m):=by
   intro m
   induction m with
   | zero=>intro h; simp at h
   | succ m ih =>
    intro hlt
    by_cases h5:(Qp c a).gone<(Qp c (a+m)).gone
    · obtain ⟨i,hi,hm⟩:=ih h5
      have:=hmono i hi (a+m) 1
      exact ⟨i,hi,by rw [show a+(m+1)=a+m+1 by omega]; omega⟩
    · obtain ⟨go,h1,h2,h3,h4⟩:=Wk h (a+m)
      obtain ⟨i,hi,hg⟩:=h4.2 (by rw [show a+m+1=a+(m+1) by omega]; have:=VV h (a:=a) (m:=m); omega)
      refine ⟨i,hi,?_⟩
      have e:(crA c (a+m+1) i).spot.block=((Xg c (Int.toNat (crA c (a+m) i).spot.block):Nat):Int):=by rw [h1 i hi,if_pos hg]; simp only [mvC,Yj]
      have hne:=((h2 i hi).1 hg).2.1 i hi
      have e2:mvsN c i (a+(m+1))=mvsN c i (a+m)+(if (crA c (a+m+1) i).spot.block=(crA c (a+m) i).spot.block then 0 else 1):=rfl
      rw [if_neg (by rw [e]; exact fun q=>hne q.symm)] at e2
      have:=hmono i hi a m
      omega
  obtain ⟨m,rfl⟩:∃ m,b=a+m:=⟨b - a,by omega⟩
  exact key m hgo
 obtain ⟨i,hi,hlt⟩:=hsome
 have hpos:0<lapN c 0 b - lapN c 0 a:=by
  have h1:=hlap 0 h0
  have h2:=hmv i hi
  have:0<(lapN c 0 b - lapN c 0 a)*c.blocks.length:=by rw [Int.mul_comm]; omega
  exact Int.pos_of_mul_pos_left this hN
 refine ⟨lapN c 0 b - lapN c 0 a,hpos,?_,?_⟩
 · rw [qv h,qv h]
   have e1:sumN (fun i=>lapN c i b) c.cars.length=sumN (fun i=>lapN c i a+(lapN c i b - lapN c i a)) c.cars.length:=QaI fun i hi=>by omega
   rw [e1,Qbt,QaH heq]; omega
 · obtain ⟨m,rfl⟩:∃ m,b=a+m:=⟨b - a,by omega⟩
   have:=far_run h (a:=a) (i:=0) h0 (m:=m)
   simp only [farC] at this
   rw [he 0 h0,hblk 0 h0] at this
   rw [Int.sub_mul]
   omega
/-! ### A ride that is full -/
theorem QbH {c:Cir} (h:ChkIn c) (hl:c.cars.length=c.blocks.length) (n:Nat):(Qp c (n+1)).gone=(Qp c n).gone∧∀ i,i<c.cars.length→crA c (n+1) i=rdy c n i:=by
 obtain ⟨go,h1,h2,h3,h4⟩:=Wk h n
 have hno:∀ i,i<c.cars.length→¬ go i=true:=fun i hi hg=>by
  have hf:=((h2 i hi).1 hg).2.1
  have hb:=XK h (n:=n) hi
  obtain ⟨j,hj,e⟩:=inj_all (N:=c.blocks.length) (f:=fun i=>Int.toNat (crA c n i).spot.block) (fun i hi=>by have:=XK h (n:=n) (i:=i) (by omega); omega) (fun i j hi hj e=>by
   refine Classical.byContradiction fun hne=>?_
   have:=crA_ne h (n:=n) (show i<c.cars.length by omega) (show j<c.cars.length by omega) hne
   have a:=XK h (n:=n) (show i<c.cars.length by omega)
   have b:=XK h (n:=n) (show j<c.cars.length by omega)
   omega) (b:=Xg c (Int.toNat (crA c n i).spot.block)) (Nat.mod_lt _ (by have:=h.nb; omega))
  have a:=XK h (n:=n) (i:=j) (by omega)
  exact hf j (by omega) (by omega)
 refine ⟨?_,fun i hi=>by rw [h1 i hi,if_neg (hno i hi)]⟩
 have:¬ (Qp c n).gone<(Qp c (n+1)).gone:=fun hh=>by
  obtain ⟨i,hi,hg⟩:=h4.2 hh
  exact hno i hi hg
 omega
theorem jam_gone {c:Cir} (h:ChkIn c) (hl:c.cars.length=c.blocks.length):∀ {n:Nat},(Qp c n).gone=0
 | 0=>rfl
 | n+1=>by rw [(QbH h hl n).1,jam_gone h hl]
theorem jam_car {c:Cir} (h:ChkIn c) (hl:c.cars.length=c.blocks.length) {i:Nat} (hi:i<c.cars.length):∀ {n:Nat},(crA c (n+1) i).spot=(crA c 0 i).spot∧(crA c (n+1) i).stood=(n:Int)
 | 0=>by
  have:=(QbH h hl 0).2 i hi
  rw [this]
  refine ⟨rfl,?_⟩
  show ((newT c []).cars.getD i dC).stood=0
  simp only [newT]
  rw [Xe (d:=0) hi]
 | n+1=>by
  obtain ⟨e1,e2⟩:=jam_car h hl hi (n:=n)
  have hr:Xp c (crA c (n+1) i)=true:=by
   have e0:crA c 0 i=⟨⟨c.cars.getD i 0,(bkAt c (c.cars.getD i 0)).time,false⟩,0⟩:=by
    show (newT c []).cars.getD i dC=_
    simp only [newT]
    rw [Xe (d:=0) hi]
   rw [Xp,e1,e0]; simp
  rw [(QbH h hl (n+1)).2 i hi,rdy,if_pos (by omega),Qo,if_pos hr]
  exact ⟨e1,by simp only [e2]; omega⟩
/-! ### The specification of Rated -/
def eqSpt (a b:Spt):Bool:=a.block == b.block && (a.ran == b.ran && a.opn == b.opn)
def qC (a b:Car):Bool:=eqSpt a.spot b.spot && a.stood == b.stood
def Vd:List Car→List Car→Bool
 | [],[]=>true
 | x :: l,y :: m=>qC x y && Vd l m
 | _,_=>false
theorem eqCar_iff {a b:Car}:qC a b=true ↔ a=b:=by
 obtain ⟨⟨a1,a2,a3⟩,a4⟩:=a
 obtain ⟨⟨b1,b2,b3⟩,b4⟩:=b
 simp only [qC,eqSpt,Bool.and_eq_true,beq_iff_eq,Car.mk.injEq,Spt.mk.injEq]
theorem Wa:∀ {a b:List Car},Vd a b=true ↔ a=b
 | [],[]=>by simp [Vd]
 | x :: l,[]=>by simp [Vd]
 | [],y :: m=>by simp [Vd]
 | x :: l,y :: m=>by simp only [Vd,Bool.and_eq_true,eqCar_iff,Wa,List.cons.injEq]
def stdL (c:Cir) (n:Nat):List Car:=(Qp c n).cars.map (stdC c)
/-- Before the tick 'i' all was so behind the tick 'k'. -/
def VE (c:Cir) (i:Nat):Option Nat:=XE (fun k=>Vd (stdL c (k+1)) (stdL c (i+1))) i
def hitK (c:Cir):Option Nat:=XE (fun i=>(VE c i).isSome) 20000
def Qt (c:Cir):Int × Int × Int :=
 if QE c=0 then
  if c.cars.length=0 ∨ c.cars.length=c.blocks.length then (0,0,3) else
  match hitK c with
  | none=>(0,0,2)
  | some i=>match VE c i with
   | none=>(0,0,2)
   | some k=>((Qp c (i+1)).rounds - (Qp c (k+1)).rounds,(i:Int) - (k:Int),0)
 else (0,0,QE c)
theorem Ki {c:Cir} (h:ChkIn c) {n i:Nat} (hi:i<c.cars.length):(stdL c n).getD i dC=stdC c (crA c n i):=by
 unfold stdL
 rw [Xe (d:=dC) (by rw [XF h]; exact hi)]; rfl
theorem Wf {c:Cir} (h:ChkIn c) {n:Nat}:(stdL c n).length=c.cars.length:=by unfold stdL; rw [List.length_map,XF h]
theorem stdL_eq {c:Cir} (h:ChkIn c) {n m:Nat} (he:stdL c n=stdL c m) {i:Nat} (hi:i<c.cars.length):stdC c (crA c n i)=stdC c (crA c m i):=by
 rw [← Ki h hi,← Ki h hi,he]
theorem stdL_of {c:Cir} (h:ChkIn c) {n m:Nat} (he:∀ i,i<c.cars.length→stdC c (crA c n i)=stdC c (crA c m i)):stdL c n=stdL c m:=by
 apply List.ext_getElem?
 intro j
 rcases Nat.lt_or_ge j c.cars.length with hj | hj
 · rw [getD_some (d:=dC) (by rw [Wf h]; exact hj),getD_some (d:=dC) (by rw [Wf h]; exact hj),Ki h hj,Ki h hj,he j hj]
 · rw [List.getElem?_eq_none (by rw [Wf h]; exact hj),List.getElem?_eq_none (by rw [Wf h]; exact hj)]
theorem yp {c:Cir} {i k:Nat} (hf:VE c i=some k):k<i∧stdL c (k+1)=stdL c (i+1):=by
 obtain ⟨h1,h2,-⟩:=QS hf
 exact ⟨h1,Wa.1 h2⟩
theorem jam_hit {c:Cir} (h:ChkIn c) (hl:c.cars.length=c.blocks.length):(VE c 31).isSome=true:=by
 cases hc:VE c 31 with
 | some k=>rfl
 | none =>
  have:=VY hc 30 (by omega)
  have he:Vd (stdL c (30+1)) (stdL c (31+1))=true:=Wa.2 (stdL_of h fun i hi=>by
   obtain ⟨a1,a2⟩:=jam_car h hl hi (n:=30)
   obtain ⟨b1,b2⟩:=jam_car h hl hi (n:=31)
   have hb:=(h.bk _ (bk_mem (crA_in h (n:=31+1) hi).1)).2.1.2
   unfold stdC
   have e:(crA c (30+1) i).spot=(crA c (31+1) i).spot:=by rw [a1,b1]
   rw [e,a2,b2]
   congr 1
   unfold iMin; split <;> split <;> omega)
  rw [he] at this; cases this
theorem found_go {c:Cir} (h:ChkIn c) (h0:c.cars.length ≠ 0) {i k:Nat} (hf:VE c i=some k):(Qp c (i+1)).gone=0 ↔ c.cars.length=c.blocks.length:=by
 obtain ⟨h1,h2⟩:=yp hf
 have hle:c.cars.length≤c.blocks.length:=QaT (f:=fun i=>Int.toNat (crA c 0 i).spot.block) (fun i hi=>by have:=XK h (n:=0) hi; omega) fun i j hi hj e=>by
  refine Classical.byContradiction fun hne=>?_
  have:=crA_ne h (n:=0) hi hj hne
  have a:=XK h (n:=0) hi
  have b:=XK h (n:=0) hj
  omega
 constructor
 · intro hg
   refine Classical.byContradiction fun hne=>?_
   have:=some_go h (a:=k+1) (b:=i+1) (by omega) (by omega) (by omega) (by omega) fun j hj=>stdL_eq h h2 hj
   have m:=VV h (a:=0) (m:=k+1)
   rw [Nat.zero_add] at m
   have:(Qp c 0).gone=0:=rfl
   omega
 · intro hl; exact jam_gone h hl
/-- What Rated says,where it says something. -/
theorem rated_law {c:Cir} (h0:(Qt c).2.2=0):∃ r:Int,0<r∧(Qt c).1=c.cars.length*r∧r*preN c c.blocks.length≤(Qt c).2.1∧0<c.cars.length∧ChkIn c∧(Qt c).2.1≤20000:=by
 unfold Qt at h0 ⊢
 split at h0
 · rename_i hc
   have hk:=chk_in hc
   rw [if_pos hc]
   split at h0
   · cases h0
   · rename_i hne
     rw [if_neg hne]
     cases hh:hitK c with
     | none=>rw [hh] at h0; cases h0
     | some i =>
      simp only [hh] at h0 ⊢
      cases hf:VE c i with
      | none=>rw [hf] at h0; cases h0
      | some k =>
       simp only
       obtain ⟨h1,h2⟩:=yp hf
       obtain ⟨h3,-,-⟩:=QS hh
       have hgo:=found_go hk (fun e=>hne (.inl e)) hf
       have hle:c.cars.length<c.blocks.length:=by
        have:=QaT (N:=c.blocks.length) (L:=c.cars.length) (f:=fun i=>Int.toNat (crA c 0 i).spot.block) (fun i hi=>by have:=XK hk (n:=0) hi; omega) fun i j hi hj e=>by
         refine Classical.byContradiction fun hne=>?_
         have:=crA_ne hk (n:=0) hi hj hne
         have a:=XK hk (n:=0) hi
         have b:=XK hk (n:=0) hj
         omega
        omega
       obtain ⟨r,r1,r2,r3⟩:=rated_main hk (a:=k+1) (b:=i+1) (by omega) (by omega) (by omega) hle fun j hj=>stdL_eq hk h2 hj
       exact ⟨r,r1,r2,by omega,by omega,hk,by omega⟩
 · rename_i hc; simp only at h0; exact absurd h0 hc
end Go.Proofs.Ytgdfkjjgdkejfaa
namespace Go.Proofs.Ytgdfkjjgdkejfaa
open Go Ax
open Go.Proofs
structure Sn where
 tick:Int
 rounds:Int
 gone:Int
def cSn (t:Sn):List AV:=[.int .i64 t.tick,.int .i64 t.rounds,.int .i64 t.gone]
structure Pst where
 c:Cir
 spots:List Spt
 stood:List Int
def cPst (t:Pst):List AV:=[.rsl (Qc t.c.blocks) 0 t.c.blocks.length,.rsl (rowI t.c.cars) 0 t.c.cars.length,.rsl (Qg t.spots) 0 t.spots.length,.rsl (rowI t.stood) 0 t.stood.length,.nilSl,.bool false]
def cPP (t:Pst):List AV:=[.rptr (cPst t) 0]
def KK (l:List Pst):List AV:=l.flatMap cPP
/-! ### The reference's look: two runs are the same -/
def smAt (A:Pst) (R:Rn) (i:Nat):Bool:=eqSpt (A.spots.getD i dS) (R.spots.getD i dS) && decide (iMin (A.stood.getD i 0) (bkAt A.c (A.spots.getD i dS).block).hold=iMin (R.stood.getD i 0) (bkAt A.c (A.spots.getD i dS).block).hold)
def YG (A:Pst) (R:Rn):Bool:=(List.range A.spots.length).all (smAt A R)
structure PstIn (A:Pst) (R:Rn):Prop where
 l1:A.spots.length=R.spots.length
 l2:A.stood.length=A.spots.length
 l3:R.stood.length=A.spots.length
 bk:∀ x ∈ A.spots,InC A.c x.block
 le:A.spots.length≤1000000
theorem eqSpt_iff {a b:Spt}:eqSpt a b=true ↔ a=b:=by
 obtain ⟨a1,a2,a3⟩:=a
 obtain ⟨b1,b2,b3⟩:=b
 simp only [eqSpt,Bool.and_eq_true,beq_iff_eq,Spt.mk.injEq]
def qg (T:Trk):Pst:=⟨T.c,T.cars.map Car.spot,T.cars.map Car.stood⟩
theorem car_eq {c:Cir} {x y:Car}:stdC c x=stdC c y ↔ x.spot=y.spot∧iMin x.stood (bkAt c x.spot.block).hold=iMin y.stood (bkAt c x.spot.block).hold:=by
 simp only [stdC,Car.mk.injEq]
 constructor
 · rintro ⟨h1,h2⟩; exact ⟨h1,by rw [h2,h1]⟩
 · rintro ⟨h1,h2⟩; exact ⟨h1,by rw [h2,h1]⟩
theorem same_std {c:Cir} (h:ChkIn c) {n m:Nat}:YG (qg (Qp c n)) (Xd (Qp c m))=Vd (stdL c n) (stdL c m):=by
 have hl:=XF h (n:=n)
 have hm:=XF h (n:=m)
 rw [Bool.eq_iff_iff,Wa,YG,List.all_eq_true]
 have hat:∀ i,i<c.cars.length→(smAt (qg (Qp c n)) (Xd (Qp c m)) i=true ↔ stdC c (crA c n i)=stdC c (crA c m i)):=fun i hi=>by
  have e1:(qg (Qp c n)).spots.getD i dS=(crA c n i).spot:=by simp only [qg]; exact Xe (by rw [hl]; exact hi)
  have e2:(Xd (Qp c m)).spots.getD i dS=(crA c m i).spot:=by simp only [Xd]; exact Xe (by rw [hm]; exact hi)
  have e3:(qg (Qp c n)).stood.getD i 0=(crA c n i).stood:=by simp only [qg]; exact Xe (by rw [hl]; exact hi)
  have e4:(Xd (Qp c m)).stood.getD i 0=(crA c m i).stood:=by simp only [Xd]; exact Xe (by rw [hm]; exact hi)
  rw [smAt,e1,e2,e3,e4,Bool.and_eq_true,eqSpt_iff,decide_eq_true_eq,show (qg (Qp c n)).c=c from YI,car_eq]
 have hr:(qg (Qp c n)).spots.length=c.cars.length:=by simp [qg,hl]
 rw [hr]
 constructor
 · intro hh
   exact stdL_of h fun i hi=>(hat i hi).1 (hh i (List.mem_range.2 hi))
 · intro he i hi
   rw [List.mem_range] at hi
   exact (hat i hi).2 (stdL_eq h he hi)
theorem pst_in {c:Cir} (h:ChkIn c) {n m:Nat}:PstIn (qg (Qp c n)) (Xd (Qp c m)):=by
 have hl:=XF h (n:=n)
 have hm:=XF h (n:=m)
 have hc:=h.nc
 refine ⟨by simp [qg,Xd,hl,hm],by simp [qg],by simp [qg,Xd,hl,hm],fun x hx=>?_,by simp [qg,hl]; omega⟩
 obtain ⟨y,hy,rfl⟩:=List.mem_map.1 hx
 exact ((Yp h (n:=n)).tok.car y hy).inC
/-! ### The program's key: ten places -/
def padL (l:List Car):List Car:=l++List.replicate (10 - l.length) dC
theorem QbB {l:List Car} (h:l.length≤10):(padL l).length=10:=by simp [padL]; omega
theorem padL_inj {a b:List Car} (hl:a.length=b.length) (h:padL a=padL b):a=b:=by
 unfold padL at h
 exact (List.append_inj h hl).1
theorem padL_at {l:List Car} {k:Nat} (h:k<l.length) (h10:l.length≤10):(padL (l.take k))[k]?=some dC:=by
 rw [padL,List.getElem?_append_right (by simp; omega),List.getElem?_replicate,if_pos (by simp; omega)]
theorem padL_set {l:List Car} {k:Nat} {x:Car} (hx:l[k]?=some x) (h10:l.length≤10):(padL (l.take k)).set k x=padL (l.take (k+1)):=by
 have hk:=(List.getElem?_eq_some_iff.1 hx).1
 have e1:(l.take k).length=k:=by simp; omega
 have e2:(l.take (k+1)).length=k+1:=by simp; omega
 unfold padL
 rw [List.set_append_right _ _ (by omega),e1,e2,Nat.sub_self,show 10 - k=(10 - (k+1))+1 by omega,List.replicate_succ,List.set_cons_zero,List.take_add_one,hx]
 simp
def yx (c:Cir) (i:Nat):List (List Car × Sn):=(List.range i).map fun k=>(padL (stdL c (k+1)),⟨(k:Int),(Qp c (k+1)).rounds,(Qp c (k+1)).gone⟩)
theorem entsK_succ {c:Cir} {i:Nat}:yx c (i+1)=yx c i++[(padL (stdL c (i+1)),⟨(i:Int),(Qp c (i+1)).rounds,(Qp c (i+1)).gone⟩)]:=by
 rw [yx,List.range_succ]; simp [yx]
def kc (l:List Car):List AV:=[.int .i64 (((l.getD 0 dC).spot).block),.int .i64 (((l.getD 0 dC).spot).ran),.bool (((l.getD 0 dC).spot).opn),.int .i64 ((l.getD 0 dC).stood),.int .i64 (((l.getD 1 dC).spot).block),.int .i64 (((l.getD 1 dC).spot).ran),.bool (((l.getD 1 dC).spot).opn),.int .i64 ((l.getD 1 dC).stood),.int .i64 (((l.getD 2 dC).spot).block),.int .i64 (((l.getD 2 dC).spot).ran),.bool (((l.getD 2 dC).spot).opn),.int .i64 ((l.getD 2 dC).stood),.int .i64 (((l.getD 3 dC).spot).block),.int .i64 (((l.getD 3 dC).spot).ran),.bool (((l.getD 3 dC).spot).opn),.int .i64 ((l.getD 3 dC).stood),.int .i64 (((l.getD 4 dC).spot).block),.int .i64 (((l.getD 4 dC).spot).ran),.bool (((l.getD 4 dC).spot).opn),.int .i64 ((l.getD 4 dC).stood),.int .i64 (((l.getD 5 dC).spot).block),.int .i64 (((l.getD 5 dC).spot).ran),.bool (((l.getD 5 dC).spot).opn),.int .i64 ((l.getD 5 dC).stood),.int .i64 (((l.getD 6 dC).spot).block),.int .i64 (((l.getD 6 dC).spot).ran),.bool (((l.getD 6 dC).spot).opn),.int .i64 ((l.getD 6 dC).stood),.int .i64 (((l.getD 7 dC).spot).block),.int .i64 (((l.getD 7 dC).spot).ran),.bool (((l.getD 7 dC).spot).opn),.int .i64 ((l.getD 7 dC).stood),.int .i64 (((l.getD 8 dC).spot).block),.int .i64 (((l.getD 8 dC).spot).ran),.bool (((l.getD 8 dC).spot).opn),.int .i64 ((l.getD 8 dC).stood),.int .i64 (((l.getD 9 dC).spot).block),.int .i64 (((l.getD 9 dC).spot).ran),.bool (((l.getD 9 dC).spot).opn),.int .i64 ((l.getD 9 dC).stood)]
theorem kc_ld {l:List Car} (h:l.length=10):((Qd l).drop 0).take 40=kc l:=by
 match l,h with
 | [a0,a1,a2,a3,a4,a5,a6,a7,a8,a9],_=>rfl
def cStE1 (e:List Car × Sn):AV:=.clos 0 [.agg (kc e.1)] [.agg (cSn e.2)]
def cStE (e:List Car × Sn):List AV:=[cStE1 e]
def YH (l:List (List Car × Sn)):List AV:=l.flatMap cStE
def eqKc (a b:List Car):Bool:=qC (a.getD 0 dC) (b.getD 0 dC) && (qC (a.getD 1 dC) (b.getD 1 dC) && (qC (a.getD 2 dC) (b.getD 2 dC) && (qC (a.getD 3 dC) (b.getD 3 dC) && (qC (a.getD 4 dC) (b.getD 4 dC) && (qC (a.getD 5 dC) (b.getD 5 dC) && (qC (a.getD 6 dC) (b.getD 6 dC) && (qC (a.getD 7 dC) (b.getD 7 dC) && (qC (a.getD 8 dC) (b.getD 8 dC) && (qC (a.getD 9 dC) (b.getD 9 dC) && true)))))))))
theorem XB {ts:List (Option IntKind)} {xs ys:List AV} (a b:Car):Xt (some .i64 :: some .i64 :: none :: some .i64 :: ts) (.int .i64 a.spot.block :: .int .i64 a.spot.ran :: .bool a.spot.opn :: .int .i64 a.stood :: xs) (.int .i64 b.spot.block :: .int .i64 b.spot.ran :: .bool b.spot.opn :: .int .i64 b.stood :: ys)=(Xt ts xs ys).map fun r=>qC a b && r:=by
 simp only [Xt,beq_self_eq_true,Bool.and_true,if_true]
 cases Xt ts xs ys with
 | none=>rfl
 | some r=>simp [qC,eqSpt,Bool.and_assoc]
def KF:List (Option IntKind):=[some .i64,some .i64,none,some .i64]
def tsK:List (Option IntKind):=KF++(KF++(KF++(KF++(KF++(KF++(KF++(KF++(KF++(KF++[])))))))))
theorem eqCells_kc (a b:List Car):Xt tsK (kc a) (kc b)=some (eqKc a b):=by
 simp only [tsK,KF,List.cons_append,List.nil_append,kc]
 rw [XB,XB,XB,XB,XB,XB,XB,XB,XB,XB]
 rfl
theorem key_st (a b:List Car):QaB Try.prog 101 (.agg (kc a)) (.agg (kc b))=some (eqKc a b):=by
 have h2:XD Try.prog 20 101=some tsK:=by kernel_rfl
 have h1:Try.prog.underlying 101=some (.array 10 99):=by kernel_rfl
 simp only [QaB,h1,h2,Option.bind_some]
 exact eqCells_kc a b
def stHas (l:List (List Car × Sn)) (k:List Car):Bool:=l.any fun e=>eqKc k e.1
theorem stNew {l:List (List Car × Sn)} {k:List Car} (hh:stHas l k=false):qY Try.prog 101 (.agg (kc k)) (YH l):=by
 intro c hc
 obtain ⟨e,he,hc⟩:=List.mem_flatMap.1 hc
 simp only [cStE,List.mem_singleton] at hc
 subst hc
 refine ⟨_,_,rfl,?_⟩
 rw [key_st]
 have:=List.any_eq_false.1 hh e he
 simpa using this
def StAt (l:List (List Car × Sn)) (k:List Car) (i:Nat) (e:List Car × Sn):Prop:=l[i]?=some e∧eqKc k e.1=true∧stHas (l.take i) k=false
theorem row_one {α:Type} (c:α→AV):∀ {l:List α} {i:Nat} {e:α},l[i]?=some e→(l.flatMap fun x=>[c x])[i]?=some (c e)
 | [],i,e,h=>by simp at h
 | x :: l,0,e,h=>by simp at h; subst h; rfl
 | x :: l,i+1,e,h=>by
  have:=row_one c (l:=l) (i:=i) (e:=e) (by simpa using h)
  simpa using this
theorem rowStE_take {l:List (List Car × Sn)} {i:Nat}:(YH l).take i=YH (l.take i):=by
 induction l generalizing i with
 | nil=>simp [YH]
 | cons x l ih =>
  cases i with
  | zero=>simp [YH]
  | succ i =>
   have:=ih (i:=i)
   simp only [YH,List.flatMap_cons,cStE,List.cons_append,List.nil_append,List.take_succ_cons] at *
   rw [this]
theorem stAt {l:List (List Car × Sn)} {k:List Car} {i:Nat} {e:List Car × Sn} (hh:StAt l k i e):KeyAt Try.prog 101 (.agg (kc k)) (YH l) i (.agg (cSn e.2)):=by
 obtain ⟨h1,h2,h3⟩:=hh
 refine ⟨_,row_one cStE1 h1,?_,?_⟩
 · rw [key_st,h2]
 · rw [rowStE_take]; exact stNew h3
theorem eqKc_iff {a b:List Car} (ha:a.length=10) (hb:b.length=10):eqKc a b=true ↔ a=b:=by
 match a,ha,b,hb with
 | [a0,a1,a2,a3,a4,a5,a6,a7,a8,a9],_,[b0,b1,b2,b3,b4,b5,b6,b7,b8,b9],_=>simp [eqKc,eqCar_iff]
theorem QbM {c:Cir} (h:ChkIn c) {n m:Nat}:eqKc (padL (stdL c n)) (padL (stdL c m))=Vd (stdL c m) (stdL c n):=by
 have hn:=Wf h (n:=n)
 have hm:=Wf h (n:=m)
 have:=h.nc
 rw [Bool.eq_iff_iff,eqKc_iff (QbB (by omega)) (QbB (by omega)),Wa]
 exact ⟨fun e=>(padL_inj (by omega) e).symm,fun e=>by rw [e]⟩
theorem stHas_K {c:Cir} (h:ChkIn c) {i n:Nat}:stHas (yx c n) (padL (stdL c (i+1)))=(XE (fun k=>Vd (stdL c (k+1)) (stdL c (i+1))) n).isSome:=by
 rw [Bool.eq_iff_iff,stHas,List.any_eq_true]
 constructor
 · rintro ⟨e,he,hk⟩
   obtain ⟨k,hk2,rfl⟩:=List.mem_map.1 he
   rw [List.mem_range] at hk2
   rw [QbM h] at hk
   cases hf:XE (fun k=>Vd (stdL c (k+1)) (stdL c (i+1))) n with
   | some k=>rfl
   | none=>rw [VY hf k hk2] at hk; cases hk
 · intro hs
   cases hf:XE (fun k=>Vd (stdL c (k+1)) (stdL c (i+1))) n with
   | none=>rw [hf] at hs; cases hs
   | some k =>
    obtain ⟨h1,h2,-⟩:=QS hf
    exact ⟨_,List.mem_map.2 ⟨k,List.mem_range.2 h1,rfl⟩,by rw [QbM h]; exact h2⟩
theorem stAt_K {c:Cir} (h:ChkIn c) {i k:Nat} (hf:VE c i=some k):StAt (yx c i) (padL (stdL c (i+1))) k (padL (stdL c (k+1)),⟨(k:Int),(Qp c (k+1)).rounds,(Qp c (k+1)).gone⟩):=by
 obtain ⟨h1,h2,h3⟩:=QS hf
 refine ⟨?_,?_,?_⟩
 · rw [yx,List.getElem?_map,List.getElem?_range h1]; rfl
 · rw [QbM h]; exact h2
 · have e:(yx c i).take k=yx c k:=by
    rw [yx,yx,← List.map_take,List.take_range,Nat.min_eq_left (by omega)]
   rw [e,stHas_K h,XP h3]; rfl
theorem f61b:Try.f61.body=some (Qf Try.prog 61):=by kernel_rfl
theorem u61 {a c k:List AV} {r:AV} (h:Pure Try.prog 61 (a++c++k) r):Ql Try.prog (.clos 61 a k) c r:=QJ Try.func61 (by kernel_rfl) f61b h
def f61K0 (P:Program):List Item:=kAt 400 [.code (Qf P 61)] [.stop]
def f61S0 (A:Pst) (R:Rn) (i:Nat):St:=⟨([.rptr [.rsl (Qc A.c.blocks) 0 A.c.blocks.length,.rsl (rowI A.c.cars) 0 A.c.cars.length,.rsl (Qg A.spots) 0 A.spots.length,.rsl (rowI A.stood) 0 A.stood.length,.nilSl,.bool false] 0,.rptr [.rsl (Qc R.c.blocks) 0 R.c.blocks.length,.rsl (rowI R.c.cars) 0 R.c.cars.length,.rsl (Qg R.spots) 0 R.spots.length,.rsl (rowI R.stood) 0 R.stood.length,.rsl (rowB R.go) 0 R.go.length,.bool R.stp] 0,J,J,J,.int .i64 (i:Int)]++Js 62),[]⟩
def f61G0 (E:Env) (A:Pst) (R:Rn) (i:Nat):Prop:=G Try.prog E (f61K0 Try.prog) (f61S0 A R i )
abbrev z61_1 (R:Rn):List AV:=[.rsl (Qc R.c.blocks) 0 R.c.blocks.length,.rsl (rowI R.c.cars) 0 R.c.cars.length,.rsl (Qg R.spots) 0 R.spots.length,.rsl (rowI R.stood) 0 R.stood.length,.rsl (rowB R.go) 0 R.go.length,.bool R.stp]
abbrev z61_2 (A:Pst):List AV:=[.rsl (Qc A.c.blocks) 0 A.c.blocks.length,.rsl (rowI A.c.cars) 0 A.c.cars.length,.rsl (Qg A.spots) 0 A.spots.length,.rsl (rowI A.stood) 0 A.stood.length,.nilSl,.bool false]
abbrev z61_3 (se1:Spt):List AV:=[.int .i64 se1.block,.int .i64 se1.ran,.bool se1.opn]
abbrev z61_4 (se:Spt):List AV:=[.int .i64 se.block,.int .i64 se.ran,.bool se.opn]
theorem p61_start_0 (A:Pst) (R:Rn) {E:Env} {rv:AV} (hE:Qn Try.prog 61 rv E) (ho:AllP [])
 (hg:G Try.prog E (f61K0 Try.prog) ⟨([.rptr (z61_2 A) 0,.rptr (z61_1 R) 0,J,J,J,.int .i64 0]++Js 62),[]⟩):G Try.prog E [.code (Qf Try.prog 61)] ⟨[.rptr (z61_2 A) 0,.rptr (z61_1 R) 0]++unds (Try.f61.ntmps - 2),[]⟩ :=
 Qa (n:=400) (ds:=[]) (cs:=[]) (live:=[0,1,5]) (m:=0) (evs:=[.stop]) (obs:=_) hE.2.1 (hE.nogh _) Qm (by kernel_rfl) ho hg
theorem f61W (A:Pst) (R:Rn) {E:Env} {rv:Bool} (hE:Qn Try.prog 61 (.bool rv) E)
 (h:f61G0 E A R 0):G Try.prog E [.code (Qf Try.prog 61)] ⟨[.rptr [.rsl (Qc A.c.blocks) 0 A.c.blocks.length,.rsl (rowI A.c.cars) 0 A.c.cars.length,.rsl (Qg A.spots) 0 A.spots.length,.rsl (rowI A.stood) 0 A.stood.length,.nilSl,.bool false] 0,.rptr [.rsl (Qc R.c.blocks) 0 R.c.blocks.length,.rsl (rowI R.c.cars) 0 R.c.cars.length,.rsl (Qg R.spots) 0 R.spots.length,.rsl (rowI R.stood) 0 R.stood.length,.rsl (rowB R.go) 0 R.go.length,.bool R.stp] 0]++unds (Try.f61.ntmps - 2),[]⟩:=by
 exact p61_start_0 A R hE trivial h
theorem p61_0_0 (A:Pst) (R:Rn) (i:Nat) (se:Spt) (be:Bk) (se1:Spt) {E:Env} {res:AV} (hE:Qn Try.prog 61 res E) (ho:AllP [(decide ((i:Int)<(A.spots.length:Int)))=true,0≤(i:Int)∧(i:Int)<(A.spots.length:Int),((Qg A.spots).drop ((0+(Int.toNat (i:Int))*3)+0)).take 1=[.int .i64 se.block],0≤se.block∧se.block<(A.c.blocks.length:Int),((Qc A.c.blocks).drop ((0+(Int.toNat se.block)*4)+2)).take 1=[.int .i64 be.hold],0≤(i:Int)∧(i:Int)<(A.spots.length:Int),((Qg A.spots).drop (0+(Int.toNat (i:Int))*3)).take 3=(z61_4 se),0≤(i:Int)∧(i:Int)<(R.spots.length:Int),((Qg R.spots).drop (0+(Int.toNat (i:Int))*3)).take 3=(z61_3 se1),(!(se.block == se1.block && (se.ran == se1.ran && (se.opn == se1.opn && true))))=true,true=true])
 (hr:AvLe (.bool false) res):G Try.prog E (f61K0 Try.prog) (f61S0 A R i ) :=
 Qk (n:=400) (evs:=[.b true,.auto,.auto,.ld (.int .i64 se.block),.ld (.int .i64 be.hold),.auto,.ld (.agg (z61_4 se)),.auto,.ld (.agg (z61_3 se1)),.b true,.b true]) (obs:=_) hE Try.func61 Qm (by kernel_rfl) ho hr
theorem p61_0_1 (A:Pst) (R:Rn) (i:Nat) (se:Spt) (be:Bk) (se1:Spt) (e:Int) (e1:Int) {E:Env} {res:AV} (hE:Qn Try.prog 61 res E) (ho:AllP [(decide ((i:Int)<(A.spots.length:Int)))=true,0≤(i:Int)∧(i:Int)<(A.spots.length:Int),((Qg A.spots).drop ((0+(Int.toNat (i:Int))*3)+0)).take 1=[.int .i64 se.block],0≤se.block∧se.block<(A.c.blocks.length:Int),((Qc A.c.blocks).drop ((0+(Int.toNat se.block)*4)+2)).take 1=[.int .i64 be.hold],0≤(i:Int)∧(i:Int)<(A.spots.length:Int),((Qg A.spots).drop (0+(Int.toNat (i:Int))*3)).take 3=(z61_4 se),0≤(i:Int)∧(i:Int)<(R.spots.length:Int),((Qg R.spots).drop (0+(Int.toNat (i:Int))*3)).take 3=(z61_3 se1),(!(se.block == se1.block && (se.ran == se1.ran && (se.opn == se1.opn && true))))=false,0≤(i:Int)∧(i:Int)<(A.stood.length:Int),((rowI A.stood).drop (0+(Int.toNat (i:Int))*1)).take 1=[.int .i64 e],0≤(i:Int)∧(i:Int)<(R.stood.length:Int),((rowI R.stood).drop (0+(Int.toNat (i:Int))*1)).take 1=[.int .i64 e1],((iMin e be.hold) != (iMin e1 be.hold))=true])
 (hr:AvLe (.bool false) res):G Try.prog E (f61K0 Try.prog) (f61S0 A R i ) :=
 Qk (n:=400) (evs:=[.b true,.auto,.auto,.ld (.int .i64 se.block),.ld (.int .i64 be.hold),.auto,.ld (.agg (z61_4 se)),.auto,.ld (.agg (z61_3 se1)),.b false,.auto,.ld (.int .i64 e),.auto,.ld (.int .i64 e1),.b true]) (obs:=_) hE Try.func61 Qm (by kernel_rfl) ho hr
theorem p61_0_2 (A:Pst) (R:Rn) (i:Nat) (se:Spt) (be:Bk) (se1:Spt) (e:Int) (e1:Int) {E:Env} {rv:AV} (hE:Qn Try.prog 61 rv E) (ho:AllP [(decide ((i:Int)<(A.spots.length:Int)))=true,0≤(i:Int)∧(i:Int)<(A.spots.length:Int),((Qg A.spots).drop ((0+(Int.toNat (i:Int))*3)+0)).take 1=[.int .i64 se.block],0≤se.block∧se.block<(A.c.blocks.length:Int),((Qc A.c.blocks).drop ((0+(Int.toNat se.block)*4)+2)).take 1=[.int .i64 be.hold],0≤(i:Int)∧(i:Int)<(A.spots.length:Int),((Qg A.spots).drop (0+(Int.toNat (i:Int))*3)).take 3=(z61_4 se),0≤(i:Int)∧(i:Int)<(R.spots.length:Int),((Qg R.spots).drop (0+(Int.toNat (i:Int))*3)).take 3=(z61_3 se1),(!(se.block == se1.block && (se.ran == se1.ran && (se.opn == se1.opn && true))))=false,0≤(i:Int)∧(i:Int)<(A.stood.length:Int),((rowI A.stood).drop (0+(Int.toNat (i:Int))*1)).take 1=[.int .i64 e],0≤(i:Int)∧(i:Int)<(R.stood.length:Int),((rowI R.stood).drop (0+(Int.toNat (i:Int))*1)).take 1=[.int .i64 e1],((iMin e be.hold) != (iMin e1 be.hold))=false,InR .i64 ((i:Int)+1)])
 (hg:G Try.prog E (f61K0 Try.prog) ⟨([.rptr (z61_2 A) 0,.rptr (z61_1 R) 0,J,J,J,.int .i64 ((i:Int)+1)]++Js 62),[]⟩):G Try.prog E (f61K0 Try.prog) (f61S0 A R i ) :=
 Qa (n:=400) (ds:=[]) (cs:=[]) (live:=[0,1,5]) (m:=0) (evs:=[.b true,.auto,.auto,.ld (.int .i64 se.block),.ld (.int .i64 be.hold),.auto,.ld (.agg (z61_4 se)),.auto,.ld (.agg (z61_3 se1)),.b false,.auto,.ld (.int .i64 e),.auto,.ld (.int .i64 e1),.b false,.stop]) (obs:=_) hE.2.1 (hE.nogh _) Qm (by kernel_rfl) ho hg
theorem p61_0_3 (A:Pst) (R:Rn) (i:Nat) {E:Env} {res:AV} (hE:Qn Try.prog 61 res E) (ho:AllP [(decide ((i:Int)<(A.spots.length:Int)))=false])
 (hr:AvLe (.bool true) res):G Try.prog E (f61K0 Try.prog) (f61S0 A R i ) :=
 Qk (n:=400) (evs:=[.b false]) (obs:=_) hE Try.func61 Qm (by kernel_rfl) ho hr
theorem f61W0 (A:Pst) (R:Rn) (i:Nat) {E:Env} {rv:Bool} (hE:Qn Try.prog 61 (.bool rv) E)
 (h:(((i:Int)<(A.spots.length:Int)→(∃ se:Spt,A.spots[i]?=some se∧(0≤se.block∧(∃ be:Bk,A.c.blocks[Int.toNat se.block]?=some be∧(∃ se1:Spt,R.spots[i]?=some se1∧(((se.block == se1.block && (se.ran == se1.ran && (se.opn == se1.opn && true)))=false→rv=false)∧((se.block == se1.block && (se.ran == se1.ran && (se.opn == se1.opn && true)))=true→(∃ e:Int,A.stood[i]?=some e∧(∃ e1:Int,R.stood[i]?=some e1∧((¬ ((iMin e be.hold)=(iMin e1 be.hold))→rv=false)∧((iMin e be.hold)=(iMin e1 be.hold)→((I6 ((i:Int)+1))∧f61G0 E A R (i+1)))))))))))))∧(¬ ((i:Int)<(A.spots.length:Int))→rv=true))):f61G0 E A R i:=by
 rcases bft (decide ((i:Int)<(A.spots.length:Int))) with hc0 | hc0
 · have h:=h.1 (odt hc0)
   obtain ⟨se,h1,h⟩:=h
   obtain ⟨h3,h⟩:=h
   obtain ⟨be,h2,h⟩:=h
   obtain ⟨se1,h4,h⟩:=h
   rcases bft (!(se.block == se1.block && (se.ran == se1.ran && (se.opn == se1.opn && true)))) with hc1 | hc1
   · have h:=h.1 (bnT hc1)
     exact p61_0_0 A R i se be se1 hE ⟨hc0,(Qe h1),(rp cSpt 3 0 1 h1),(Qq h3 h2),(rp cBk 4 2 1 h2),(Qe h1),(rp cSpt 3 0 3 h1),(Qe h4),(rp cSpt 3 0 3 h4),hc1,rfl,trivial⟩ (AvLe.of_eq (by rw [h]; try rfl))
   · have h:=h.2 (bnF hc1)
     obtain ⟨e,h5,h⟩:=h
     obtain ⟨e1,h6,h⟩:=h
     rcases bft ((iMin e be.hold) != (iMin e1 be.hold)) with hc2 | hc2
     · have h:=h.1 (bneT hc2)
       exact p61_0_1 A R i se be se1 e e1 hE ⟨hc0,(Qe h1),(rp cSpt 3 0 1 h1),(Qq h3 h2),(rp cBk 4 2 1 h2),(Qe h1),(rp cSpt 3 0 3 h1),(Qe h4),(rp cSpt 3 0 3 h4),hc1,(Qe h5),(rp cI 1 0 1 h5),(Qe h6),(rp cI 1 0 1 h6),hc2,trivial⟩ (AvLe.of_eq (by rw [h]; try rfl))
     · have h:=h.2 (bneF hc2)
       obtain ⟨q20_3,h⟩:=h
       exact p61_0_2 A R i se be se1 e e1 hE ⟨hc0,(Qe h1),(rp cSpt 3 0 1 h1),(Qq h3 h2),(rp cBk 4 2 1 h2),(Qe h1),(rp cSpt 3 0 3 h1),(Qe h4),(rp cSpt 3 0 3 h4),hc1,(Qe h5),(rp cI 1 0 1 h5),(Qe h6),(rp cI 1 0 1 h6),hc2,q20_3,trivial⟩ h
 · have h:=h.2 (odf hc0)
   exact p61_0_3 A R i hE ⟨hc0,trivial⟩ (AvLe.of_eq (by rw [h]; try rfl))
theorem samePR_ok (A:Pst) (R:Rn) (h:PstIn A R):Pure Try.prog 61 [.rptr [.rsl (Qc A.c.blocks) 0 A.c.blocks.length,.rsl (rowI A.c.cars) 0 A.c.cars.length,.rsl (Qg A.spots) 0 A.spots.length,.rsl (rowI A.stood) 0 A.stood.length,.nilSl,.bool false] 0,.rptr [.rsl (Qc R.c.blocks) 0 R.c.blocks.length,.rsl (rowI R.c.cars) 0 R.c.cars.length,.rsl (Qg R.spots) 0 R.spots.length,.rsl (rowI R.stood) 0 R.stood.length,.rsl (rowB R.go) 0 R.go.length,.bool R.stp] 0] (.bool (YG A R)):=QN Try.func61 f61b fun E hE=>by
 obtain ⟨l1,l2,l3,hbk,hle⟩:=h
 have key:∀ (d i:Nat),i+d=A.spots.length→(∀ j,j<i→smAt A R j=true)→f61G0 E A R i:=by
  intro d
  induction d with
  | zero =>
   intro i hi hall
   refine f61W0 A R i (rv:=YG A R) hE ⟨fun h=>by omega,fun _=>?_⟩
   rw [YG,List.all_eq_true]
   exact fun j hj=>hall j (by rw [List.mem_range] at hj; omega)
  | succ d ih =>
   intro i hi hall
   have hx:=getD_some (d:=dS) (show i<A.spots.length by omega)
   have hin:=hbk _ (List.mem_of_getElem? hx)
   have hno:smAt A R i=false→YG A R=false:=fun hf=>by
    rw [YG,List.all_eq_false]
    exact ⟨i,List.mem_range.2 (by omega),by rw [hf]; simp⟩
   refine f61W0 A R i (rv:=YG A R) hE ⟨fun _=>⟨_,hx,hin.1,_,yC hin,_,getD_some (d:=dS) (by omega),fun hf=>?_,fun ht=>⟨_,getD_some (d:=0) (by omega),_,getD_some (d:=0) (by omega),fun hf=>?_,fun he=>⟨by omega,ih (i+1) (by omega) fun j hj=>?_⟩⟩⟩,fun h=>by omega⟩
   · refine hno ?_
     rw [smAt,eqSpt,Bool.and_eq_false_iff]
     left; simpa using hf
   · refine hno ?_
     rw [smAt,Bool.and_eq_false_iff]
     right; exact decide_eq_false hf
   · rcases Nat.lt_or_ge j i with w | w
     · exact hall j w
     · have:j=i:=by omega
       subst this
       rw [smAt,Bool.and_eq_true]
       exact ⟨by simpa [eqSpt] using ht,decide_eq_true he⟩
 exact f61W A R (rv:=YG A R) hE (key A.spots.length 0 (by omega) fun j hj=>by omega)
theorem f35b:Try.f35.body=some (Qf Try.prog 35):=by kernel_rfl
theorem u35 {a c k:List AV} {r:AV} (h:Pure Try.prog 35 (a++c++k) r):Ql Try.prog (.clos 35 a k) c r:=QJ Try.func35 (by kernel_rfl) f35b h
def f35K0 (P:Program):List Item:=kAt 400 [.code (Qf P 35)] [.b false,.b false,.stop]
def f35S0 (c:Cir) (v5:List Car) (v3:List Bool) (i:Nat) (v1:List ((List Car) × Sn)) (v4_5:Int) (v4_6:Int) (v4_7:Bool) (v4_8:Int) (v4_9:Int) (g5:Nat) (g3:Nat):St:=⟨([J,.ptr 0 0 0,J,J,J,J,.mp 1 0 false,.ptr 4 0 0]++jj 20 ([.int .i64 (i:Int)]++Js 73)),[⟨true,0,1,true,[.rsl (Qc c.blocks) 0 c.blocks.length,.rsl (rowI c.cars) 0 c.cars.length],false⟩,⟨true,0,0,true,(YH v1),false⟩,⟨true,0,1,true,[.rsl (Qc c.blocks) 0 c.blocks.length,.rsl (rowI c.cars) 0 c.cars.length],false⟩,⟨true,g3,1,true,(rowB v3),true⟩,⟨true,0,1,false,[.rsl (Qc c.blocks) 0 c.blocks.length,.rsl (rowI c.cars) 0 c.cars.length,.rsl (Qi ([]:List Flt)) 0 (([]:List Flt).length),.sl 5 g5 0 v5.length 4,.sl 3 g3 0 v3.length 1,.int .i64 v4_5,.int .i64 v4_6,.bool v4_7,.int .i64 v4_8,.int .i64 v4_9],false⟩,⟨true,g5,4,true,(Qd v5),true⟩]⟩
def f35G0 (E:Env) (c:Cir) (v5:List Car) (v3:List Bool) (i:Nat) (v1:List ((List Car) × Sn)) (v4_5:Int) (v4_6:Int) (v4_7:Bool) (v4_8:Int) (v4_9:Int):Prop:=∀ g5 g3:Nat,G Try.prog E (f35K0 Try.prog) (f35S0 c v5 v3 i v1 v4_5 v4_6 v4_7 v4_8 v4_9 g5 g3)
def f35K1 (P:Program):List Item:=kAt 400 [.code (Qf P 35)] [.b false,.b false,.b true,.stop]
def f35S1 (c:Cir) (k:Nat) (v3:List Bool) (v4_5:Int) (v4_6:Int) (v4_7:Bool) (v4_8:Int) (v4_9:Int) (v5:List Car) (k1:Nat) (v6:List Car) (i:Nat) (k11:Nat) (v1:List ((List Car) × Sn)) (g3:Nat) (g5:Nat):St:=⟨([J,.ptr 0 0 0,J,J,J,J,.mp 1 0 false,.ptr 4 0 0,.int .i64 (i:Int),.ptr 6 0 0]++jj 18 ([.int .i64 (k11:Int)]++jj 10 ([.sl 5 g5 0 v5.length 4,.int .i64 (k:Int),.int .i64 (k1:Int)]++Js 60))),[⟨true,0,1,true,[.rsl (Qc c.blocks) 0 c.blocks.length,.rsl (rowI c.cars) 0 c.cars.length],false⟩,⟨true,0,0,true,(YH v1),false⟩,⟨true,0,1,true,[.rsl (Qc c.blocks) 0 c.blocks.length,.rsl (rowI c.cars) 0 c.cars.length],false⟩,⟨true,g3,1,true,(rowB v3),true⟩,⟨true,0,1,false,[.rsl (Qc c.blocks) 0 c.blocks.length,.rsl (rowI c.cars) 0 c.cars.length,.rsl (Qi ([]:List Flt)) 0 (([]:List Flt).length),.sl 5 g5 0 v5.length 4,.sl 3 g3 0 v3.length 1,.int .i64 v4_5,.int .i64 v4_6,.bool v4_7,.int .i64 v4_8,.int .i64 v4_9],false⟩,⟨true,g5,4,true,(Qd v5),true⟩,⟨true,0,1,true,(Qd v6),false⟩]⟩
def f35G1 (E:Env) (c:Cir) (k:Nat) (v3:List Bool) (v4_5:Int) (v4_6:Int) (v4_7:Bool) (v4_8:Int) (v4_9:Int) (v5:List Car) (k1:Nat) (v6:List Car) (i:Nat) (k11:Nat) (v1:List ((List Car) × Sn)):Prop:=∀ g3 g5:Nat,G Try.prog E (f35K1 Try.prog) (f35S1 c k v3 v4_5 v4_6 v4_7 v4_8 v4_9 v5 k1 v6 i k11 v1 g3 g5)
abbrev Wy (c:Cir):List AV:=[.rsl (Qc c.blocks) 0 c.blocks.length,.rsl (rowI c.cars) 0 c.cars.length]
abbrev z35_1 (c:Cir):List Blk:=[⟨true,0,1,true,(Wy c),false⟩,⟨true,0,1,true,(rowB (newT c ([]:List Flt)).gos),true⟩,⟨true,0,1,false,[.rsl (Qc c.blocks) 0 c.blocks.length,.rsl (rowI c.cars) 0 c.cars.length,.rsl (Qi ([]:List Flt)) 0 (([]:List Flt).length),.sl 3 c.cars.length 0 ((newT c ([]:List Flt)).cars.length) 4,.sl 1 0 0 ((newT c ([]:List Flt)).gos.length) 1,.int .i64 0,.int .i64 (-1),.bool false,.int .i64 0,.int .i64 0],false⟩,⟨true,c.cars.length,4,true,(Qd (newT c ([]:List Flt)).cars),true⟩]
abbrev VQ (c:Cir) (v5:List Car) (v3:List Bool) (v4_5:Int) (v4_6:Int) (v4_7:Bool) (v4_8:Int) (v4_9:Int) (i:Nat):=Qu (⟨c,([]:List Flt),v5,v3,v4_5,v4_6,v4_7,v4_8,v4_9⟩:Trk) (prsI c (i:Int))
abbrev z35_4 (c:Cir) (g5:Nat) (v5:List Car) (v3:List Bool) (v4_5:Int) (v4_6:Int) (v4_7:Bool) (v4_8:Int) (v4_9:Int) (i:Nat) (g3:Nat):List Blk:=[⟨true,0,1,false,[.rsl (Qc c.blocks) 0 c.blocks.length,.rsl (rowI c.cars) 0 c.cars.length,.rsl (Qi ([]:List Flt)) 0 (([]:List Flt).length),.sl 1 g5 0 ((VQ c v5 v3 v4_5 v4_6 v4_7 v4_8 v4_9 i).cars.length) 4,.sl 2 g3 0 ((VQ c v5 v3 v4_5 v4_6 v4_7 v4_8 v4_9 i).gos.length) 1,.int .i64 ((VQ c v5 v3 v4_5 v4_6 v4_7 v4_8 v4_9 i).tick),.int .i64 ((VQ c v5 v3 v4_5 v4_6 v4_7 v4_8 v4_9 i).stopped),.bool ((VQ c v5 v3 v4_5 v4_6 v4_7 v4_8 v4_9 i).wrecked),.int .i64 ((VQ c v5 v3 v4_5 v4_6 v4_7 v4_8 v4_9 i).rounds),.int .i64 ((VQ c v5 v3 v4_5 v4_6 v4_7 v4_8 v4_9 i).gone)],false⟩,⟨true,g5,4,true,(Qd (VQ c v5 v3 v4_5 v4_6 v4_7 v4_8 v4_9 i).cars),true⟩,⟨true,g3,1,true,(rowB (VQ c v5 v3 v4_5 v4_6 v4_7 v4_8 v4_9 i).gos),true⟩]
abbrev z35_5 (me:((List Car) × Sn)):AV:=.agg [.int .i64 me.2.tick,.int .i64 me.2.rounds,.int .i64 me.2.gone]
theorem p35_start_0 (c:Cir) {E:Env} {res:AV} (hE:Qn Try.prog 35 res E) (ho:AllP [Ql Try.prog (.clos 30 [] []) [.agg (Wy c)] (.int .i64 (QE c)),((QE c) != 0)=true])
 (hr:AvLe (.tup [.int .i64 0,.int .i64 0,.int .i64 (QE c)]) res):G Try.prog E [.code (Qf Try.prog 35)] ⟨[.agg (Wy c)]++unds (Try.f35.ntmps - 1),[]⟩ :=
 Qk (n:=400) (evs:=[.v (.int .i64 (QE c)),.b true]) (obs:=_) hE Try.func35 Qm (by kernel_rfl) ho hr
theorem p35_start_1 (c:Cir) {E:Env} {res:AV} (hE:Qn Try.prog 35 res E) (ho:AllP [Ql Try.prog (.clos 30 [] []) [.agg (Wy c)] (.int .i64 (QE c)),((QE c) != 0)=false,XT Try.prog (.clos 44 [] []) [.agg (Wy c),.nilSl] [] (.ptr 2 0 0) (z35_1 c),c.cars.length=c.cars.length,((((newT c ([]:List Flt)).cars.length:Nat):Int) == 0)=true])
 (hr:AvLe (.tup [.int .i64 0,.int .i64 0,.int .i64 3]) res):G Try.prog E [.code (Qf Try.prog 35)] ⟨[.agg (Wy c)]++unds (Try.f35.ntmps - 1),[]⟩ :=
 Qk (n:=400) (evs:=[.v (.int .i64 (QE c)),.b false,.lent [] (.ptr 2 0 0) (z35_1 c),.b true]) (obs:=_) hE Try.func35 Qm (by kernel_rfl) ho hr
theorem p35_start_2 (c:Cir) {E:Env} {rv:AV} (hE:Qn Try.prog 35 rv E) (ho:AllP [Ql Try.prog (.clos 30 [] []) [.agg (Wy c)] (.int .i64 (QE c)),((QE c) != 0)=false,XT Try.prog (.clos 44 [] []) [.agg (Wy c),.nilSl] [] (.ptr 2 0 0) (z35_1 c),c.cars.length=c.cars.length,((((newT c ([]:List Flt)).cars.length:Nat):Int) == 0)=false])
 (hg:G Try.prog E (f35K0 Try.prog) ⟨([J,.ptr 0 0 0,J,J,J,J,.mp 1 0 false,.ptr 4 0 0]++jj 20 ([.int .i64 0]++Js 73)),[⟨true,0,1,true,(Wy c),false⟩,⟨true,0,0,true,[],false⟩,⟨true,0,1,true,(Wy c),false⟩,⟨true,0,1,true,(rowB (newT c ([]:List Flt)).gos),true⟩,⟨true,0,1,false,[.rsl (Qc c.blocks) 0 c.blocks.length,.rsl (rowI c.cars) 0 c.cars.length,.rsl (Qi ([]:List Flt)) 0 (([]:List Flt).length),.sl 5 c.cars.length 0 ((newT c ([]:List Flt)).cars.length) 4,.sl 3 0 0 ((newT c ([]:List Flt)).gos.length) 1,.int .i64 0,.int .i64 (-1),.bool false,.int .i64 0,.int .i64 0],false⟩,⟨true,c.cars.length,4,true,(Qd (newT c ([]:List Flt)).cars),true⟩]⟩):G Try.prog E [.code (Qf Try.prog 35)] ⟨[.agg (Wy c)]++unds (Try.f35.ntmps - 1),[]⟩ :=
 Qa (n:=400) (ds:=[]) (cs:=[]) (live:=[1,6,7,28]) (m:=6) (evs:=[.v (.int .i64 (QE c)),.b false,.lent [] (.ptr 2 0 0) (z35_1 c),.b false,.stop]) (obs:=_) hE.2.1 (hE.nogh _) Qm (by kernel_rfl) ho hg
theorem f35W (c:Cir) {E:Env} {rv:(Int × Int × Int)} (hE:Qn Try.prog 35 (.tup [.int .i64 rv.1,.int .i64 rv.2.1,.int .i64 rv.2.2]) E)
 (h:((c.blocks.length≤9223372036854775807∧c.cars.length≤9223372036854775807)∧((¬ ((QE c)=0)→rv=(0,0,(QE c)))∧((QE c)=0→((NewIn c)∧(((((newT c ([]:List Flt)).cars.length:Nat):Int)=0→rv=(0,0,3))∧(¬ ((((newT c ([]:List Flt)).cars.length:Nat):Int)=0)→f35G0 E c ((newT c ([]:List Flt)).cars) ((newT c ([]:List Flt)).gos) 0 ([]) 0 (-1) false 0 0))))))):G Try.prog E [.code (Qf Try.prog 35)] ⟨[.agg [.rsl (Qc c.blocks) 0 c.blocks.length,.rsl (rowI c.cars) 0 c.cars.length]]++unds (Try.f35.ntmps - 1),[]⟩:=by
 obtain ⟨h1,h⟩:=h
 rcases bft ((QE c) != 0) with hc0 | hc0
 · have h:=h.1 (bneT hc0)
   exact p35_start_0 c hE ⟨(u30 (YP c h1)),hc0,trivial⟩ (AvLe.of_eq (by rw [h]; try rfl))
 · have h:=h.2 (bneF hc0)
   obtain ⟨h2,h⟩:=h
   rcases bft ((((newT c ([]:List Flt)).cars.length:Nat):Int) == 0) with hc1 | hc1
   · have h:=h.1 (eq_of_beq hc1)
     exact p35_start_1 c hE ⟨(u30 (YP c h1)),hc0,(XT.leC (args:=[.agg [.rsl (Qc c.blocks) 0 c.blocks.length,.rsl (rowI c.cars) 0 c.cars.length],.rsl (Qi ([]:List Flt)) 0 (([]:List Flt).length)]) (Xl Try.func44 (by kernel_rfl) f44b (Wi c ([]:List Flt) h2)) ⟨WH,⟨QbD,trivial⟩⟩),rfl,hc1,trivial⟩ (AvLe.of_eq (by rw [h]; try rfl))
   · have h:=h.2 (ne_of_beq_false hc1)
     exact p35_start_2 c hE ⟨(u30 (YP c h1)),hc0,(XT.leC (args:=[.agg [.rsl (Qc c.blocks) 0 c.blocks.length,.rsl (rowI c.cars) 0 c.cars.length],.rsl (Qi ([]:List Flt)) 0 (([]:List Flt).length)]) (Xl Try.func44 (by kernel_rfl) f44b (Wi c ([]:List Flt) h2)) ⟨WH,⟨QbD,trivial⟩⟩),rfl,hc1,trivial⟩ (h c.cars.length 0)
theorem p35_0_0 (c:Cir) (v5:List Car) (v3:List Bool) (i:Nat) (v1:List ((List Car) × Sn)) (v4_5:Int) (v4_6:Int) (v4_7:Bool) (v4_8:Int) (v4_9:Int) (g5:Nat) (g3:Nat) {E:Env} {rv:AV} (hE:Qn Try.prog 35 rv E) (ho:AllP [(decide ((i:Int)<20000))=true,Ql Try.prog (.clos 55 [] []) [.agg (Wy c),.int .i64 (i:Int)] (.rsl (Qs (prsI c (i:Int))) 0 ((prsI c (i:Int)).length)),XT Try.prog (.clos 45 [] []) [.ptr 0 0 0,.rsl (Qs (prsI c (i:Int))) 0 ((prsI c (i:Int)).length)] [⟨true,0,1,false,[.rsl (Qc c.blocks) 0 c.blocks.length,.rsl (rowI c.cars) 0 c.cars.length,.rsl (Qi ([]:List Flt)) 0 (([]:List Flt).length),.sl 1 g5 0 v5.length 4,.sl 2 g3 0 v3.length 1,.int .i64 v4_5,.int .i64 v4_6,.bool v4_7,.int .i64 v4_8,.int .i64 v4_9],false⟩,⟨true,g5,4,true,(Qd v5),true⟩,⟨true,g3,1,true,(rowB v3),true⟩] (.tup []) (z35_4 c g5 v5 v3 v4_5 v4_6 v4_7 v4_8 v4_9 i g3),g5=g5])
 (hg:G Try.prog E (f35K1 Try.prog) ⟨([J,.ptr 0 0 0,J,J,J,J,.mp 1 0 false,.ptr 4 0 0,.int .i64 (i:Int),.ptr 6 0 0]++jj 18 ([.int .i64 (i:Int)]++jj 10 ([.sl 5 g5 0 ((VQ c v5 v3 v4_5 v4_6 v4_7 v4_8 v4_9 i).cars.length) 4,.int .i64 (((VQ c v5 v3 v4_5 v4_6 v4_7 v4_8 v4_9 i).cars.length:Nat):Int),.int .i64 0]++Js 60))),[⟨true,0,1,true,(Wy c),false⟩,⟨true,0,0,true,(YH v1),false⟩,⟨true,0,1,true,(Wy c),false⟩,⟨true,g3,1,true,(rowB (VQ c v5 v3 v4_5 v4_6 v4_7 v4_8 v4_9 i).gos),true⟩,⟨true,0,1,false,[.rsl (Qc c.blocks) 0 c.blocks.length,.rsl (rowI c.cars) 0 c.cars.length,.rsl (Qi ([]:List Flt)) 0 (([]:List Flt).length),.sl 5 g5 0 ((VQ c v5 v3 v4_5 v4_6 v4_7 v4_8 v4_9 i).cars.length) 4,.sl 3 g3 0 ((VQ c v5 v3 v4_5 v4_6 v4_7 v4_8 v4_9 i).gos.length) 1,.int .i64 ((VQ c v5 v3 v4_5 v4_6 v4_7 v4_8 v4_9 i).tick),.int .i64 ((VQ c v5 v3 v4_5 v4_6 v4_7 v4_8 v4_9 i).stopped),.bool ((VQ c v5 v3 v4_5 v4_6 v4_7 v4_8 v4_9 i).wrecked),.int .i64 ((VQ c v5 v3 v4_5 v4_6 v4_7 v4_8 v4_9 i).rounds),.int .i64 ((VQ c v5 v3 v4_5 v4_6 v4_7 v4_8 v4_9 i).gone)],false⟩,⟨true,g5,4,true,(Qd (VQ c v5 v3 v4_5 v4_6 v4_7 v4_8 v4_9 i).cars),true⟩,⟨true,0,1,true,[.int .i64 0,.int .i64 0,.bool false,.int .i64 0,.int .i64 0,.int .i64 0,.bool false,.int .i64 0,.int .i64 0,.int .i64 0,.bool false,.int .i64 0,.int .i64 0,.int .i64 0,.bool false,.int .i64 0,.int .i64 0,.int .i64 0,.bool false,.int .i64 0,.int .i64 0,.int .i64 0,.bool false,.int .i64 0,.int .i64 0,.int .i64 0,.bool false,.int .i64 0,.int .i64 0,.int .i64 0,.bool false,.int .i64 0,.int .i64 0,.int .i64 0,.bool false,.int .i64 0,.int .i64 0,.int .i64 0,.bool false,.int .i64 0],false⟩]⟩):G Try.prog E (f35K0 Try.prog) (f35S0 c v5 v3 i v1 v4_5 v4_6 v4_7 v4_8 v4_9 g5 g3) :=
 Qa (n:=400) (ds:=[]) (cs:=[]) (live:=[1,6,7,8,9,28,39,40,41]) (m:=7) (evs:=[.b true,.v (.rsl (Qs (prsI c (i:Int))) 0 ((prsI c (i:Int)).length)),.lent [4,5,3] (.tup []) (z35_4 c g5 v5 v3 v4_5 v4_6 v4_7 v4_8 v4_9 i g3),.stop]) (obs:=_) hE.2.1 (hE.nogh _) Qm (by kernel_rfl) ho hg
theorem p35_0_1 (c:Cir) (v5:List Car) (v3:List Bool) (i:Nat) (v1:List ((List Car) × Sn)) (v4_5:Int) (v4_6:Int) (v4_7:Bool) (v4_8:Int) (v4_9:Int) (g5:Nat) (g3:Nat) {E:Env} {res:AV} (hE:Qn Try.prog 35 res E) (ho:AllP [(decide ((i:Int)<20000))=false])
 (hr:AvLe (.tup [.int .i64 0,.int .i64 0,.int .i64 2]) res):G Try.prog E (f35K0 Try.prog) (f35S0 c v5 v3 i v1 v4_5 v4_6 v4_7 v4_8 v4_9 g5 g3) :=
 Qk (n:=400) (evs:=[.b false]) (obs:=_) hE Try.func35 Qm (by kernel_rfl) ho hr
theorem f35W0 (c:Cir) (v5:List Car) (v3:List Bool) (i:Nat) (v1:List ((List Car) × Sn)) (v4_5:Int) (v4_6:Int) (v4_7:Bool) (v4_8:Int) (v4_9:Int) {E:Env} {rv:(Int × Int × Int)} (hE:Qn Try.prog 35 (.tup [.int .i64 rv.1,.int .i64 rv.2.1,.int .i64 rv.2.2]) E)
 (h:(((i:Int)<20000→((c.blocks.length≤1000000)∧((qp (⟨c,([]:List Flt),v5,v3,v4_5,v4_6,v4_7,v4_8,v4_9⟩:Trk) (prsI c (i:Int)))∧f35G1 E c ((Qu (⟨c,([]:List Flt),v5,v3,v4_5,v4_6,v4_7,v4_8,v4_9⟩:Trk) (prsI c (i:Int))).cars.length) ((Qu (⟨c,([]:List Flt),v5,v3,v4_5,v4_6,v4_7,v4_8,v4_9⟩:Trk) (prsI c (i:Int))).gos) ((Qu (⟨c,([]:List Flt),v5,v3,v4_5,v4_6,v4_7,v4_8,v4_9⟩:Trk) (prsI c (i:Int))).tick) ((Qu (⟨c,([]:List Flt),v5,v3,v4_5,v4_6,v4_7,v4_8,v4_9⟩:Trk) (prsI c (i:Int))).stopped) ((Qu (⟨c,([]:List Flt),v5,v3,v4_5,v4_6,v4_7,v4_8,v4_9⟩:Trk) (prsI c (i:Int))).wrecked) ((Qu (⟨c,([]:List Flt),v5,v3,v4_5,v4_6,v4_7,v4_8,v4_9⟩:Trk) (prsI c (i:Int))).rounds) ((Qu (⟨c,([]:List Flt),v5,v3,v4_5,v4_6,v4_7,v4_8,v4_9⟩:Trk) (prsI c (i:Int))).gone) ((Qu (⟨c,([]:List Flt),v5,v3,v4_5,v4_6,v4_7,v4_8,v4_9⟩:Trk) (prsI c (i:Int))).cars) 0 ([(⟨(⟨0,0,false⟩:Spt),0⟩:Car),(⟨(⟨0,0,false⟩:Spt),0⟩:Car),(⟨(⟨0,0,false⟩:Spt),0⟩:Car),(⟨(⟨0,0,false⟩:Spt),0⟩:Car),(⟨(⟨0,0,false⟩:Spt),0⟩:Car),(⟨(⟨0,0,false⟩:Spt),0⟩:Car),(⟨(⟨0,0,false⟩:Spt),0⟩:Car),(⟨(⟨0,0,false⟩:Spt),0⟩:Car),(⟨(⟨0,0,false⟩:Spt),0⟩:Car),(⟨(⟨0,0,false⟩:Spt),0⟩:Car)]) i i v1)))∧(¬ ((i:Int)<20000)→rv=(0,0,2)))):f35G0 E c v5 v3 i v1 v4_5 v4_6 v4_7 v4_8 v4_9:=by
 intro g5 g3
 rcases bft (decide ((i:Int)<20000)) with hc0 | hc0
 · have h:=h.1 (odt hc0)
   obtain ⟨h1,h⟩:=h
   obtain ⟨h2,h⟩:=h
   exact p35_0_0 c v5 v3 i v1 v4_5 v4_6 v4_7 v4_8 v4_9 g5 g3 hE ⟨hc0,(u55 (pressed_ok c (i:Int) h1)),(Xl Try.func45 (by kernel_rfl) f45b (Qbu (prsI c (i:Int)) c ([]:List Flt) v5 v3 v4_5 v4_6 v4_7 v4_8 v4_9 g5 g3 h2)),rfl,trivial⟩ (h g3 g5)
 · have h:=h.2 (odf hc0)
   exact p35_0_1 c v5 v3 i v1 v4_5 v4_6 v4_7 v4_8 v4_9 g5 g3 hE ⟨hc0,trivial⟩ (AvLe.of_eq (by rw [h]; try rfl))
theorem p35_1_0 (c:Cir) (k:Nat) (v3:List Bool) (v4_5:Int) (v4_6:Int) (v4_7:Bool) (v4_8:Int) (v4_9:Int) (v5:List Car) (k1:Nat) (v6:List Car) (i:Nat) (k11:Nat) (v1:List ((List Car) × Sn)) (g3:Nat) (g5:Nat) (ce:Car) (be:Bk) (ce1:Car) (ce2:Car) {E:Env} {rv:AV} (hE:Qn Try.prog 35 rv E) (ho:AllP [(decide ((k1:Int)<(k:Int)))=true,0≤(k1:Int)∧(k1:Int)<(v5.length:Int),g5=g5,g5=g5,((Qd v5).drop (0+(Int.toNat (k1:Int))*4)).take 4=[.int .i64 ce.spot.block,.int .i64 ce.spot.ran,.bool ce.spot.opn,.int .i64 ce.stood],4≤4,0≤ce.spot.block∧ce.spot.block<(c.blocks.length:Int),((Qc c.blocks).drop ((0+(Int.toNat ce.spot.block)*4)+2)).take 1=[.int .i64 be.hold],0≤(k1:Int)∧(k1:Int)<((10:Nat):Int),(((0+(Int.toNat (k1:Int))*4)+0)+3)≤(Qd v6).length,0≤(k1:Int)∧(k1:Int)<((10:Nat):Int),(((0+(Int.toNat (k1:Int))*4)+3)+1)≤(Qv (Qd v6) ((0+(Int.toNat (k1:Int))*4)+0) [.int .i64 ce.spot.block,.int .i64 ce.spot.ran,.bool ce.spot.opn]).length,InR .i64 ((k1:Int)+1)])
 (hg:G Try.prog E (f35K1 Try.prog) ⟨([J,.ptr 0 0 0,J,J,J,J,.mp 1 0 false,.ptr 4 0 0,.int .i64 (i:Int),.ptr 6 0 0]++jj 18 ([.int .i64 (k11:Int)]++jj 10 ([.sl 5 g5 0 v5.length 4,.int .i64 (k:Int),.int .i64 ((k1:Int)+1)]++Js 60))),[⟨true,0,1,true,(Wy c),false⟩,⟨true,0,0,true,(YH v1),false⟩,⟨true,0,1,true,(Wy c),false⟩,⟨true,g3,1,true,(rowB v3),true⟩,⟨true,0,1,false,[.rsl (Qc c.blocks) 0 c.blocks.length,.rsl (rowI c.cars) 0 c.cars.length,.rsl (Qi ([]:List Flt)) 0 (([]:List Flt).length),.sl 5 g5 0 v5.length 4,.sl 3 g3 0 v3.length 1,.int .i64 v4_5,.int .i64 v4_6,.bool v4_7,.int .i64 v4_8,.int .i64 v4_9],false⟩,⟨true,g5,4,true,(Qd v5),true⟩,⟨true,0,1,true,(Qv (Qv (Qd v6) ((0+(Int.toNat (k1:Int))*4)+0) [.int .i64 ce.spot.block,.int .i64 ce.spot.ran,.bool ce.spot.opn]) ((0+(Int.toNat (k1:Int))*4)+3) [.int .i64 (iMin ce.stood be.hold)]),false⟩]⟩):G Try.prog E (f35K1 Try.prog) (f35S1 c k v3 v4_5 v4_6 v4_7 v4_8 v4_9 v5 k1 v6 i k11 v1 g3 g5) :=
 Qa (n:=400) (ds:=[]) (cs:=[]) (live:=[1,6,7,8,9,28,39,40,41]) (m:=7) (evs:=[.b true,.ld (.agg [.int .i64 ce.spot.block,.int .i64 ce.spot.ran,.bool ce.spot.opn,.int .i64 ce.stood]),.auto,.auto,.auto,.auto,.ld (.int .i64 be.hold),.stop]) (obs:=_) hE.2.1 (hE.nogh _) Qm (by kernel_rfl) ho hg
theorem p35_1_1 (c:Cir) (k:Nat) (v3:List Bool) (v4_5:Int) (v4_6:Int) (v4_7:Bool) (v4_8:Int) (v4_9:Int) (v5:List Car) (k1:Nat) (v6:List Car) (i:Nat) (k11:Nat) (v1:List ((List Car) × Sn)) (g3:Nat) (g5:Nat) (mi:Nat) (me:((List Car) × Sn)) {E:Env} {res:AV} (hE:Qn Try.prog 35 res E) (ho:AllP [(decide ((k1:Int)<(k:Int)))=false,((Qd v6).drop 0).take 40=(kc v6),KeyAt Try.prog 101 (.agg (kc v6)) (YH v1) mi (z35_5 me),3≤3,true=true,(v4_9 == 0)=true])
 (hr:AvLe (.tup [.int .i64 0,.int .i64 0,.int .i64 3]) res):G Try.prog E (f35K1 Try.prog) (f35S1 c k v3 v4_5 v4_6 v4_7 v4_8 v4_9 v5 k1 v6 i k11 v1 g3 g5) :=
 Qk (n:=400) (evs:=[.b false,.ld (.agg (kc v6)),.mfound mi (z35_5 me),.b true,.b true]) (obs:=_) hE Try.func35 Qm (by kernel_rfl) ho hr
theorem p35_1_2 (c:Cir) (k:Nat) (v3:List Bool) (v4_5:Int) (v4_6:Int) (v4_7:Bool) (v4_8:Int) (v4_9:Int) (v5:List Car) (k1:Nat) (v6:List Car) (i:Nat) (k11:Nat) (v1:List ((List Car) × Sn)) (g3:Nat) (g5:Nat) (mi:Nat) (me:((List Car) × Sn)) {E:Env} {res:AV} (hE:Qn Try.prog 35 res E) (ho:AllP [(decide ((k1:Int)<(k:Int)))=false,((Qd v6).drop 0).take 40=(kc v6),KeyAt Try.prog 101 (.agg (kc v6)) (YH v1) mi (z35_5 me),3≤3,true=true,(v4_9 == 0)=false,InR .i64 (v4_8 - me.2.rounds),InR .i64 ((i:Int) - me.2.tick)])
 (hr:AvLe (.tup [.int .i64 (v4_8 - me.2.rounds),.int .i64 ((i:Int) - me.2.tick),.int .i64 0]) res):G Try.prog E (f35K1 Try.prog) (f35S1 c k v3 v4_5 v4_6 v4_7 v4_8 v4_9 v5 k1 v6 i k11 v1 g3 g5) :=
 Qk (n:=400) (evs:=[.b false,.ld (.agg (kc v6)),.mfound mi (z35_5 me),.b true,.b false]) (obs:=_) hE Try.func35 Qm (by kernel_rfl) ho hr
theorem p35_1_3 (c:Cir) (k:Nat) (v3:List Bool) (v4_5:Int) (v4_6:Int) (v4_7:Bool) (v4_8:Int) (v4_9:Int) (v5:List Car) (k1:Nat) (v6:List Car) (i:Nat) (k11:Nat) (v1:List ((List Car) × Sn)) (g3:Nat) (g5:Nat) {E:Env} {rv:AV} (hE:Qn Try.prog 35 rv E) (ho:AllP [(decide ((k1:Int)<(k:Int)))=false,((Qd v6).drop 0).take 40=(kc v6),qY Try.prog 101 (.agg (kc v6)) (YH v1),3≤3,false=false,((Qd v6).drop 0).take 40=(kc v6),qY Try.prog 101 (.agg (kc v6)) (YH v1),InR .i64 ((k11:Int)+1)])
 (hg:G Try.prog E (f35K0 Try.prog) ⟨([J,.ptr 0 0 0,J,J,J,J,.mp 1 0 false,.ptr 4 0 0]++jj 20 ([.int .i64 ((k11:Int)+1)]++Js 73)),[⟨true,0,1,true,(Wy c),false⟩,⟨true,0,0,true,((YH v1)++[.clos 0 [.agg (kc v6)] [.agg [.int .i64 (i:Int),.int .i64 v4_8,.int .i64 v4_9]]]),false⟩,⟨true,0,1,true,(Wy c),false⟩,⟨true,g3,1,true,(rowB v3),true⟩,⟨true,0,1,false,[.rsl (Qc c.blocks) 0 c.blocks.length,.rsl (rowI c.cars) 0 c.cars.length,.rsl (Qi ([]:List Flt)) 0 (([]:List Flt).length),.sl 5 g5 0 v5.length 4,.sl 3 g3 0 v3.length 1,.int .i64 v4_5,.int .i64 v4_6,.bool v4_7,.int .i64 v4_8,.int .i64 v4_9],false⟩,⟨true,g5,4,true,(Qd v5),true⟩]⟩):G Try.prog E (f35K1 Try.prog) (f35S1 c k v3 v4_5 v4_6 v4_7 v4_8 v4_9 v5 k1 v6 i k11 v1 g3 g5) :=
 Qa (n:=400) (ds:=[]) (cs:=[]) (live:=[1,6,7,28]) (m:=6) (evs:=[.b false,.ld (.agg (kc v6)),.mnone,.b false,.ld (.agg (kc v6)),.stop]) (obs:=_) hE.2.1 (hE.nogh _) Qm (by kernel_rfl) ho hg
theorem f35W1 (c:Cir) (k:Nat) (v3:List Bool) (v4_5:Int) (v4_6:Int) (v4_7:Bool) (v4_8:Int) (v4_9:Int) (v5:List Car) (k1:Nat) (v6:List Car) (i:Nat) (k11:Nat) (v1:List ((List Car) × Sn)) {E:Env} {rv:(Int × Int × Int)} (hE:Qn Try.prog 35 (.tup [.int .i64 rv.1,.int .i64 rv.2.1,.int .i64 rv.2.2]) E)
 (h:(((k1:Int)<(k:Int)→(∃ ce:Car,v5[k1]?=some ce∧(0≤ce.spot.block∧(∃ be:Bk,c.blocks[Int.toNat ce.spot.block]?=some be∧(∃ ce1:Car,v6[k1]?=some ce1∧((0≤(k1:Int)∧(k1:Int)<((10:Nat):Int))∧(∃ ce2:Car,(v6.set k1 (⟨ce.spot,ce1.stood⟩:Car))[k1]?=some ce2∧((0≤(k1:Int)∧(k1:Int)<((10:Nat):Int))∧((I6 ((k1:Int)+1))∧f35G1 E c k v3 v4_5 v4_6 v4_7 v4_8 v4_9 v5 (k1+1) ((v6.set k1 (⟨ce.spot,ce1.stood⟩:Car)).set k1 (⟨ce2.spot,(iMin ce.stood be.hold)⟩:Car)) i k11 v1)))))))))∧(¬ ((k1:Int)<(k:Int))→(v6.length=10∧(((stHas v1 v6)=true→(∃ mi:Nat,True∧(∃ me:((List Car) × Sn),StAt v1 v6 mi me∧((v4_9=0→rv=(0,0,3))∧(¬ (v4_9=0)→((I6 (v4_8 - me.2.rounds))∧((I6 ((i:Int) - me.2.tick))∧rv=((v4_8 - me.2.rounds),((i:Int) - me.2.tick),0))))))))∧((stHas v1 v6)=false→(v6.length=10∧((stHas v1 v6)=false∧((I6 ((k11:Int)+1))∧f35G0 E c v5 v3 (k11+1) (v1++[(v6,(⟨(i:Int),v4_8,v4_9⟩:Sn))]) v4_5 v4_6 v4_7 v4_8 v4_9))))))))):f35G1 E c k v3 v4_5 v4_6 v4_7 v4_8 v4_9 v5 k1 v6 i k11 v1:=by
 intro g3 g5
 rcases bft (decide ((k1:Int)<(k:Int))) with hc0 | hc0
 · have h:=h.1 (odt hc0)
   obtain ⟨ce,h1,h⟩:=h
   obtain ⟨h3,h⟩:=h
   obtain ⟨be,h2,h⟩:=h
   obtain ⟨ce1,h4,h⟩:=h
   obtain ⟨q11_1,h⟩:=h
   obtain ⟨ce2,h5,h⟩:=h
   obtain ⟨q14_1,h⟩:=h
   obtain ⟨q16_1,h⟩:=h
   refine p35_1_0 c k v3 v4_5 v4_6 v4_7 v4_8 v4_9 v5 k1 v6 i k11 v1 g3 g5 ce be ce1 ce2 hE ⟨hc0,(Qe h1),rfl,rfl,(rp cCar 4 0 4 h1),(by decide),(Qq h3 h2),(rp cBk 4 2 1 h2),q11_1,(rf cCar 4 0 3 h4),q14_1,(by rw [(show Qv (Qd v6) ((0+(Int.toNat (k1:Int))*4)+0) [.int .i64 ce.spot.block,.int .i64 ce.spot.ran,.bool ce.spot.opn]=Qd (v6.set k1 (⟨ce.spot,ce1.stood⟩:Car)) from Qx cCar (s:=4) (k:=0) (fun _=>rfl) h4 rfl (by first | decide | simp))]; exact rf cCar 4 3 1 h5),q16_1,trivial⟩ ?_
   have h:=(h g3 g5)
   simp only [f35S1,List.length_set] at h
   rw [(show Qv (Qd v6) ((0+(Int.toNat (k1:Int))*4)+0) [.int .i64 ce.spot.block,.int .i64 ce.spot.ran,.bool ce.spot.opn]=Qd (v6.set k1 (⟨ce.spot,ce1.stood⟩:Car)) from Qx cCar (s:=4) (k:=0) (fun _=>rfl) h4 rfl (by first | decide | simp))]; rw [(show Qv (Qd (v6.set k1 (⟨ce.spot,ce1.stood⟩:Car))) ((0+(Int.toNat (k1:Int))*4)+3) [.int .i64 (iMin ce.stood be.hold)]=Qd ((v6.set k1 (⟨ce.spot,ce1.stood⟩:Car)).set k1 (⟨ce2.spot,(iMin ce.stood be.hold)⟩:Car)) from Qx cCar (s:=4) (k:=3) (fun _=>rfl) h5 rfl (by first | decide | simp))]
   exact h
 · have h:=h.2 (odf hc0)
   obtain ⟨h1,h⟩:=h
   rcases bft (stHas v1 v6) with hc1 | hc1
   · have h:=h.1 hc1
     obtain ⟨mi,h2,h⟩:=h
     obtain ⟨me,h3,h⟩:=h
     rcases bft (v4_9 == 0) with hc2 | hc2
     · have h:=h.1 (eq_of_beq hc2)
       exact p35_1_1 c k v3 v4_5 v4_6 v4_7 v4_8 v4_9 v5 k1 v6 i k11 v1 g3 g5 mi me hE ⟨hc0,(kc_ld h1),(stAt h3),(by decide),rfl,hc2,trivial⟩ (AvLe.of_eq (by rw [h]; try rfl))
     · have h:=h.2 (ne_of_beq_false hc2)
       obtain ⟨q8_3,h⟩:=h
       obtain ⟨q9_3,h⟩:=h
       exact p35_1_2 c k v3 v4_5 v4_6 v4_7 v4_8 v4_9 v5 k1 v6 i k11 v1 g3 g5 mi me hE ⟨hc0,(kc_ld h1),(stAt h3),(by decide),rfl,hc2,q8_3,q9_3,trivial⟩ (AvLe.of_eq (by rw [h]; try rfl))
   · have h:=h.2 hc1
     obtain ⟨h2,h⟩:=h
     obtain ⟨h3,h⟩:=h
     obtain ⟨q8_2,h⟩:=h
     refine p35_1_3 c k v3 v4_5 v4_6 v4_7 v4_8 v4_9 v5 k1 v6 i k11 v1 g3 g5 hE ⟨hc0,(kc_ld h1),(stNew hc1),(by decide),rfl,(kc_ld h2),(stNew h3),q8_2,trivial⟩ ?_
     rw [(show YH v1++[.clos 0 [.agg (kc v6)] [.agg [.int .i64 (i:Int),.int .i64 v4_8,.int .i64 v4_9]]]=YH (v1++[(v6,(⟨(i:Int),v4_8,v4_9⟩:Sn))]) from (YV cStE v1 [(v6,(⟨(i:Int),v4_8,v4_9⟩:Sn))]).symm)]; exact (h g5 g3)
theorem qI (c:Cir) (h:c.blocks.length≤9223372036854775807∧c.cars.length≤9223372036854775807):Pure Try.prog 35 [.agg [.rsl (Qc c.blocks) 0 c.blocks.length,.rsl (rowI c.cars) 0 c.cars.length]] (.tup [.int .i64 (Qt c).1,.int .i64 (Qt c).2.1,.int .i64 (Qt c).2.2]):=QN Try.func35 f35b fun E hE=>by
 refine f35W c (rv:=Qt c) hE ⟨h,fun h0=>by rw [Qt,if_neg h0],fun h0=>?_⟩
 have hk:=chk_in h0
 have hnc:=hk.nc
 have hnb:=hk.nb
 refine ⟨hk.new,fun hl=>?_,fun hl=>?_⟩
 · have e:c.cars.length=0:=by simp [newT] at hl; rw [hl]; rfl
   rw [Qt,if_pos h0,if_pos (.inl e)]
 have hl0:c.cars.length ≠ 0:=fun e=>hl (by simp [newT,e])
 have key:∀ (d i:Nat),i+d=20000→(∀ j,j<i→VE c j=none)→f35G0 E c (Qp c i).cars (Qp c i).gos i (yx c i) (Qp c i).tick (Qp c i).stopped (Qp c i).wrecked (Qp c i).rounds (Qp c i).gone:=by
  intro d
  induction d with
  | zero =>
   intro i hi hno
   refine f35W0 c _ _ i _ _ _ _ _ _ (rv:=Qt c) hE ⟨fun h=>by omega,fun _=>?_⟩
   have hh:hitK c=none:=XP fun j hj=>by rw [hno j (by omega)]; rfl
   rw [Qt,if_pos h0,if_neg ?_,hh]
   rintro (e | e)
   · exact hl0 e
   · have:=jam_hit hk e
     rw [hno 31 (by omega)] at this; cases this
  | succ d ih =>
   intro i hi hno
   have e1:(⟨c,[],(Qp c i).cars,(Qp c i).gos,(Qp c i).tick,(Qp c i).stopped,(Qp c i).wrecked,(Qp c i).rounds,(Qp c i).gone⟩:Trk)=Qp c i:=Qbr YI full_f
   refine f35W0 c _ _ i _ _ _ _ _ _ (rv:=Qt c) hE ⟨fun _=>⟨by omega,?_⟩,fun h=>by omega⟩
   rw [e1]
   refine ⟨KZ hk (by omega),?_⟩
   have e2:Qu (Qp c i) (prsI c (i:Int))=Qp c (i+1):=rfl
   rw [e2]
   have hlen:=XF hk (n:=i+1)
   have hsl:=Wf hk (n:=i+1)
   have hfull:=Yp hk (n:=i+1)
   rw [XF hk]
   have inner:∀ (d k:Nat),k+d=c.cars.length→f35G1 E c c.cars.length (Qp c (i+1)).gos (Qp c (i+1)).tick (Qp c (i+1)).stopped (Qp c (i+1)).wrecked (Qp c (i+1)).rounds (Qp c (i+1)).gone (Qp c (i+1)).cars k (padL ((stdL c (i+1)).take k)) i i (yx c i):=by
    intro d
    induction d with
    | zero =>
     intro k hk2
     have e3:(stdL c (i+1)).take k=stdL c (i+1):=List.take_of_length_le (by omega)
     rw [e3]
     have hp10:(padL (stdL c (i+1))).length=10:=QbB (by omega)
     have hhas:=stHas_K hk (i:=i) (n:=i)
     refine f35W1 c _ _ _ _ _ _ _ _ k _ i i _ (rv:=Qt c) hE ⟨fun h=>by omega,fun _=>⟨hp10,fun hs=>?_,fun hs=>⟨hp10,hs,by omega,?_⟩⟩⟩
     · rw [hhas] at hs
       cases hf:VE c i with
       | none=>rw [show XE (fun k=>Vd (stdL c (k+1)) (stdL c (i+1))) i=none from hf] at hs; cases hs
       | some k0 =>
        have hgo:=found_go hk hl0 hf
        obtain ⟨q1,q2⟩:=yp hf
        refine ⟨k0,trivial,_,stAt_K hk hf,fun hg=>?_,fun hg=>?_⟩
        · rw [Qt,if_pos h0,if_pos (.inr (hgo.1 hg))]
        · have hh:hitK c=some i:=Yu (by omega) (by rw [hf]; rfl) fun j hj=>by rw [hno j hj]; rfl
          have b1:=(Yp hk (n:=i+1)).tok.rd
          have b2:=(Yp hk (n:=k0+1)).tok.rd
          refine ⟨by simp only; omega,by simp only; omega,?_⟩
          have hne:¬ (c.cars.length=0 ∨ c.cars.length=c.blocks.length):=by
           rintro (e | e)
           · exact hl0 e
           · exact hg (hgo.2 e)
          unfold Qt
          rw [if_pos h0,if_neg hne]
          simp only [hh,hf]
     · have hf:VE c i=none:=by
        rw [hhas] at hs
        cases hf:VE c i with
        | none=>rfl
        | some k0=>rw [show XE (fun k=>Vd (stdL c (k+1)) (stdL c (i+1))) i=some k0 from hf] at hs; cases hs
       have nx:=ih (i+1) (by omega) fun j hj=>by
        rcases Nat.lt_or_ge j i with w | w
        · exact hno j w
        · rw [show j=i by omega]; exact hf
       rw [entsK_succ] at nx
       exact nx
    | succ d ihd =>
     intro k hk2
     have hx:=getD_some (d:=dC) (show k<(Qp c (i+1)).cars.length by omega)
     have hin:=(hfull.tok.car _ (List.mem_of_getElem? hx)).inC
     rw [YI] at hin
     have hst:(stdL c (i+1))[k]?=some (stdC c ((Qp c (i+1)).cars.getD k dC)):=by rw [stdL,List.getElem?_map,hx]; rfl
     have hat:=padL_at (l:=stdL c (i+1)) (k:=k) (by omega) (by omega)
     have hlt:k<(padL ((stdL c (i+1)).take k)).length:=(List.getElem?_eq_some_iff.1 hat).1
     refine f35W1 c _ _ _ _ _ _ _ _ k _ i i _ (rv:=Qt c) hE ⟨fun _=>⟨_,hx,hin.1,_,yC hin,_,hat,by omega,_,by rw [List.getElem?_set,if_pos rfl,if_pos hlt],by omega,by omega,?_⟩,fun h=>by omega⟩
     have nx:=ihd (k+1) (by omega)
     rw [List.set_set]
     rw [← padL_set hst (by omega)] at nx
     exact nx
   have:=inner c.cars.length 0 (by omega)
   exact this
 exact key 20000 0 (by omega) fun j hj=>by omega
theorem f36b:Try.f36.body=some (Qf Try.prog 36):=by kernel_rfl
theorem u36 {a c k:List AV} {r:AV} (h:Pure Try.prog 36 (a++c++k) r):Ql Try.prog (.clos 36 a k) c r:=QJ Try.func36 (by kernel_rfl) f36b h
def f36K0 (P:Program):List Item:=kAt 400 [.code (Qf P 36)] [.b false,.b false,.stop]
def f36S0 (c:Cir) (v5:List Spt) (v3:List Int) (v2:List Bool) (v6:List Pst) (v7:List Int) (n:Nat) (t:Nat) (v4_5:Bool) (g6:Nat) (g7:Nat):St:=⟨([J,.ptr 0 0 0,J,J,J,J,.sl 6 g6 0 v6.length 1,.sl 7 g7 0 v7.length 1,.int .i64 (n:Int),.ptr 4 0 0,.int .i64 (t:Int)]++Js 73),[⟨true,0,1,true,[.rsl (Qc c.blocks) 0 c.blocks.length,.rsl (rowI c.cars) 0 c.cars.length],false⟩,⟨true,0,1,true,[.rsl (Qc c.blocks) 0 c.blocks.length,.rsl (rowI c.cars) 0 c.cars.length],false⟩,⟨true,0,1,true,(rowB v2),true⟩,⟨true,0,1,true,(rowI v3),true⟩,⟨true,0,1,false,[.rsl (Qc c.blocks) 0 c.blocks.length,.rsl (rowI c.cars) 0 c.cars.length,.sl 5 c.cars.length 0 v5.length 3,.sl 3 0 0 v3.length 1,.sl 2 0 0 v2.length 1,.bool v4_5],false⟩,⟨true,c.cars.length,3,true,(Qg v5),true⟩,⟨true,g6,1,true,(KK v6),true⟩,⟨true,g7,1,true,(rowI v7),true⟩]⟩
def f36G0 (E:Env) (c:Cir) (v5:List Spt) (v3:List Int) (v2:List Bool) (v6:List Pst) (v7:List Int) (n:Nat) (t:Nat) (v4_5:Bool):Prop:=∀ g6 g7:Nat,G Try.prog E (f36K0 Try.prog) (f36S0 c v5 v3 v2 v6 v7 n t v4_5 g6 g7)
def f36K1 (P:Program):List Item:=kAt 400 [.code (Qf P 36)] [.b false,.b false,.b true,.b true,.stop]
def f36S1 (c:Cir) (v2:List Bool) (v3:List Int) (v4_5:Bool) (v5:List Spt) (n:Nat) (t:Nat) (v6:List Pst) (v7:List Int) (k:Nat) (g6:Nat) (g7:Nat):St:=⟨([J,.ptr 0 0 0,J,J,J,J,.sl 6 g6 0 v6.length 1,.sl 7 g7 0 v7.length 1,.int .i64 (n:Int),.ptr 4 0 0,.int .i64 (t:Int),.int .i64 (k:Int)]++Js 72),[⟨true,0,1,true,[.rsl (Qc c.blocks) 0 c.blocks.length,.rsl (rowI c.cars) 0 c.cars.length],false⟩,⟨true,0,1,true,[.rsl (Qc c.blocks) 0 c.blocks.length,.rsl (rowI c.cars) 0 c.cars.length],false⟩,⟨true,0,1,true,(rowB v2),true⟩,⟨true,0,1,true,(rowI v3),true⟩,⟨true,0,1,false,[.rsl (Qc c.blocks) 0 c.blocks.length,.rsl (rowI c.cars) 0 c.cars.length,.sl 5 c.cars.length 0 v5.length 3,.sl 3 0 0 v3.length 1,.sl 2 0 0 v2.length 1,.bool v4_5],false⟩,⟨true,c.cars.length,3,true,(Qg v5),true⟩,⟨true,g6,1,true,(KK v6),true⟩,⟨true,g7,1,true,(rowI v7),true⟩]⟩
def f36G1 (E:Env) (c:Cir) (v2:List Bool) (v3:List Int) (v4_5:Bool) (v5:List Spt) (n:Nat) (t:Nat) (v6:List Pst) (v7:List Int) (k:Nat):Prop:=∀ g6 g7:Nat,G Try.prog E (f36K1 Try.prog) (f36S1 c v2 v3 v4_5 v5 n t v6 v7 k g6 g7)
abbrev z36_1 (c:Cir) (v5:List Spt) (v3:List Int) (v2:List Bool) (v4_5:Bool) (t:Nat):List Blk:=[⟨true,0,1,false,[.rsl (Qc c.blocks) 0 c.blocks.length,.rsl (rowI c.cars) 0 c.cars.length,.sl 1 c.cars.length 0 ((Yg (⟨c,v5,v3,v2,v4_5⟩:Rn) (t:Int)).spots.length) 3,.sl 2 0 0 ((Yg (⟨c,v5,v3,v2,v4_5⟩:Rn) (t:Int)).stood.length) 1,.sl 3 0 0 ((Yg (⟨c,v5,v3,v2,v4_5⟩:Rn) (t:Int)).go.length) 1,.bool ((Yg (⟨c,v5,v3,v2,v4_5⟩:Rn) (t:Int)).stp)],false⟩,⟨true,c.cars.length,3,true,(Qg (Yg (⟨c,v5,v3,v2,v4_5⟩:Rn) (t:Int)).spots),true⟩,⟨true,0,1,true,(rowI (Yg (⟨c,v5,v3,v2,v4_5⟩:Rn) (t:Int)).stood),true⟩,⟨true,0,1,true,(rowB (Yg (⟨c,v5,v3,v2,v4_5⟩:Rn) (t:Int)).go),true⟩]
abbrev Wx (c:Cir):List AV:=[.rsl (Qc c.blocks) 0 c.blocks.length,.rsl (rowI c.cars) 0 c.cars.length]
abbrev z36_3 (pe:Pst):List AV:=[.rsl (Qc pe.c.blocks) 0 pe.c.blocks.length,.rsl (rowI pe.c.cars) 0 pe.c.cars.length,.rsl (Qg pe.spots) 0 pe.spots.length,.rsl (rowI pe.stood) 0 pe.stood.length,.nilSl,.bool false]
abbrev z36_4 (c:Cir) (v5:List Spt) (v3:List Int) (v2:List Bool) (v4_5:Bool) (t:Nat) (g6:Nat) (v6:List Pst) (g7:Nat) (v7:List Int):List Blk:=[⟨true,0,1,true,(Wx c),false⟩,⟨true,0,1,true,(Wx c),false⟩,⟨true,0,1,true,(rowB (Yg (⟨c,v5,v3,v2,v4_5⟩:Rn) (t:Int)).go),true⟩,⟨true,0,1,true,(rowI (Yg (⟨c,v5,v3,v2,v4_5⟩:Rn) (t:Int)).stood),true⟩,⟨true,0,1,false,[.rsl (Qc c.blocks) 0 c.blocks.length,.rsl (rowI c.cars) 0 c.cars.length,.sl 5 c.cars.length 0 ((Yg (⟨c,v5,v3,v2,v4_5⟩:Rn) (t:Int)).spots.length) 3,.sl 3 0 0 ((Yg (⟨c,v5,v3,v2,v4_5⟩:Rn) (t:Int)).stood.length) 1,.sl 2 0 0 ((Yg (⟨c,v5,v3,v2,v4_5⟩:Rn) (t:Int)).go.length) 1,.bool ((Yg (⟨c,v5,v3,v2,v4_5⟩:Rn) (t:Int)).stp)],false⟩,⟨true,c.cars.length,3,true,(Qg (Yg (⟨c,v5,v3,v2,v4_5⟩:Rn) (t:Int)).spots),true⟩,⟨true,g6,1,true,(KK v6),true⟩,⟨true,g7,1,true,(rowI v7),true⟩]
abbrev z36_5 (c:Cir):List Blk:=[⟨true,0,1,true,(Wx c),false⟩,⟨true,0,1,true,(rowB (Xr c).go),true⟩,⟨true,0,1,true,(rowI (Xr c).stood),true⟩,⟨true,0,1,false,[.rsl (Qc c.blocks) 0 c.blocks.length,.rsl (rowI c.cars) 0 c.cars.length,.sl 4 c.cars.length 0 ((Xr c).spots.length) 3,.sl 2 0 0 ((Xr c).stood.length) 1,.sl 1 0 0 ((Xr c).go.length) 1,.bool false],false⟩,⟨true,c.cars.length,3,true,(Qg (Xr c).spots),true⟩]
abbrev z36_6 (c:Cir) (v5:List Spt) (v3:List Int) (v2:List Bool) (v4_5:Bool):List Blk:=[⟨true,0,1,false,[.rsl (Qc c.blocks) 0 c.blocks.length,.rsl (rowI c.cars) 0 c.cars.length,.sl 1 c.cars.length 0 v5.length 3,.sl 2 0 0 v3.length 1,.sl 3 0 0 v2.length 1,.bool v4_5],false⟩,⟨true,c.cars.length,3,true,(Qg v5),true⟩,⟨true,0,1,true,(rowI v3),true⟩,⟨true,0,1,true,(rowB v2),true⟩]
theorem p36_start_0 (c:Cir) {E:Env} {res:AV} (hE:Qn Try.prog 36 res E) (ho:AllP [Ql Try.prog (.clos 26 [] []) [.agg (Wx c)] (.int .i64 (QE c)),((QE c) != 0)=true])
 (hr:AvLe (.tup [.int .i64 0,.int .i64 0,.int .i64 (QE c)]) res):G Try.prog E [.code (Qf Try.prog 36)] ⟨[.agg (Wx c)]++unds (Try.f36.ntmps - 1),[]⟩ :=
 Qk (n:=400) (evs:=[.v (.int .i64 (QE c)),.b true]) (obs:=_) hE Try.func36 Qm (by kernel_rfl) ho hr
theorem p36_start_1 (c:Cir) {E:Env} {res:AV} (hE:Qn Try.prog 36 res E) (ho:AllP [Ql Try.prog (.clos 26 [] []) [.agg (Wx c)] (.int .i64 (QE c)),((QE c) != 0)=false,((c.cars.length:Int) == 0)=true,true=true])
 (hr:AvLe (.tup [.int .i64 0,.int .i64 0,.int .i64 3]) res):G Try.prog E [.code (Qf Try.prog 36)] ⟨[.agg (Wx c)]++unds (Try.f36.ntmps - 1),[]⟩ :=
 Qk (n:=400) (evs:=[.v (.int .i64 (QE c)),.b false,.b true,.b true]) (obs:=_) hE Try.func36 Qm (by kernel_rfl) ho hr
theorem p36_start_2 (c:Cir) {E:Env} {res:AV} (hE:Qn Try.prog 36 res E) (ho:AllP [Ql Try.prog (.clos 26 [] []) [.agg (Wx c)] (.int .i64 (QE c)),((QE c) != 0)=false,((c.cars.length:Int) == 0)=false,((c.cars.length:Int) == (c.blocks.length:Int))=true])
 (hr:AvLe (.tup [.int .i64 0,.int .i64 0,.int .i64 3]) res):G Try.prog E [.code (Qf Try.prog 36)] ⟨[.agg (Wx c)]++unds (Try.f36.ntmps - 1),[]⟩ :=
 Qk (n:=400) (evs:=[.v (.int .i64 (QE c)),.b false,.b false,.b true]) (obs:=_) hE Try.func36 Qm (by kernel_rfl) ho hr
theorem p36_start_3 (c:Cir) {E:Env} {rv:AV} (hE:Qn Try.prog 36 rv E) (ho:AllP [Ql Try.prog (.clos 26 [] []) [.agg (Wx c)] (.int .i64 (QE c)),((QE c) != 0)=false,((c.cars.length:Int) == 0)=false,((c.cars.length:Int) == (c.blocks.length:Int))=false,XT Try.prog (.clos 48 [] []) [.agg (Wx c)] [] (.ptr 3 0 0) (z36_5 c)])
 (hg:G Try.prog E (f36K0 Try.prog) ⟨([J,.ptr 0 0 0,J,J,J,J,.sl 6 0 0 0 1,.sl 7 0 0 0 1,.int .i64 0,.ptr 4 0 0,.int .i64 0]++Js 73),[⟨true,0,1,true,(Wx c),false⟩,⟨true,0,1,true,(Wx c),false⟩,⟨true,0,1,true,(rowB (Xr c).go),true⟩,⟨true,0,1,true,(rowI (Xr c).stood),true⟩,⟨true,0,1,false,[.rsl (Qc c.blocks) 0 c.blocks.length,.rsl (rowI c.cars) 0 c.cars.length,.sl 5 c.cars.length 0 ((Xr c).spots.length) 3,.sl 3 0 0 ((Xr c).stood.length) 1,.sl 2 0 0 ((Xr c).go.length) 1,.bool false],false⟩,⟨true,c.cars.length,3,true,(Qg (Xr c).spots),true⟩,⟨true,0,1,true,[],true⟩,⟨true,0,1,true,[],true⟩]⟩):G Try.prog E [.code (Qf Try.prog 36)] ⟨[.agg (Wx c)]++unds (Try.f36.ntmps - 1),[]⟩ :=
 Qa (n:=400) (ds:=[(6,1),(7,1)]) (cs:=[]) (live:=[1,6,7,8,9,10]) (m:=8) (evs:=[.v (.int .i64 (QE c)),.b false,.b false,.b false,.lent [] (.ptr 3 0 0) (z36_5 c),.stop]) (obs:=_) hE.2.1 (hE.nogh _) Qm (by kernel_rfl) ho hg
theorem f36W (c:Cir) {E:Env} {rv:(Int × Int × Int)} (hE:Qn Try.prog 36 (.tup [.int .i64 rv.1,.int .i64 rv.2.1,.int .i64 rv.2.2]) E)
 (h:((c.blocks.length≤9223372036854775807∧c.cars.length≤9223372036854775807)∧((¬ ((QE c)=0)→rv=(0,0,(QE c)))∧((QE c)=0→(((c.cars.length:Int)=0→rv=(0,0,3))∧(¬ ((c.cars.length:Int)=0)→(((c.cars.length:Int)=(c.blocks.length:Int)→rv=(0,0,3))∧(¬ ((c.cars.length:Int)=(c.blocks.length:Int))→((NewIn c)∧f36G0 E c ((Xr c).spots) ((Xr c).stood) ((Xr c).go) ([]) ([]) 0 0 false))))))))):G Try.prog E [.code (Qf Try.prog 36)] ⟨[.agg [.rsl (Qc c.blocks) 0 c.blocks.length,.rsl (rowI c.cars) 0 c.cars.length]]++unds (Try.f36.ntmps - 1),[]⟩:=by
 obtain ⟨h1,h⟩:=h
 rcases bft ((QE c) != 0) with hc0 | hc0
 · have h:=h.1 (bneT hc0)
   exact p36_start_0 c hE ⟨(u26 (qV c h1)),hc0,trivial⟩ (AvLe.of_eq (by rw [h]; try rfl))
 · have h:=h.2 (bneF hc0)
   rcases bft ((c.cars.length:Int) == 0) with hc1 | hc1
   · have h:=h.1 (eq_of_beq hc1)
     exact p36_start_1 c hE ⟨(u26 (qV c h1)),hc0,hc1,rfl,trivial⟩ (AvLe.of_eq (by rw [h]; try rfl))
   · have h:=h.2 (ne_of_beq_false hc1)
     rcases bft ((c.cars.length:Int) == (c.blocks.length:Int)) with hc2 | hc2
     · have h:=h.1 (eq_of_beq hc2)
       exact p36_start_2 c hE ⟨(u26 (qV c h1)),hc0,hc1,hc2,trivial⟩ (AvLe.of_eq (by rw [h]; try rfl))
     · have h:=h.2 (ne_of_beq_false hc2)
       obtain ⟨h2,h⟩:=h
       exact p36_start_3 c hE ⟨(u26 (qV c h1)),hc0,hc1,hc2,(Xl Try.func48 (by kernel_rfl) f48b (begin_ok c h2)),trivial⟩ (h 0 0)
theorem p36_0_0 (c:Cir) (v5:List Spt) (v3:List Int) (v2:List Bool) (v6:List Pst) (v7:List Int) (n:Nat) (t:Nat) (v4_5:Bool) (g6:Nat) (g7:Nat) {E:Env} {rv:AV} (hE:Qn Try.prog 36 rv E) (ho:AllP [(decide ((t:Int)<20000))=true,XT Try.prog (.clos 57 [] []) [.ptr 0 0 0,.int .i64 (t:Int)] (z36_6 c v5 v3 v2 v4_5) (.bool (qA (⟨c,v5,v3,v2,v4_5⟩:Rn) (t:Int))) (z36_1 c v5 v3 v2 v4_5 t),(qA (⟨c,v5,v3,v2,v4_5⟩:Rn) (t:Int))=true,InR .i64 ((n:Int)+1)])
 (hg:G Try.prog E (f36K1 Try.prog) ⟨([J,.ptr 0 0 0,J,J,J,J,.sl 6 g6 0 v6.length 1,.sl 7 g7 0 v7.length 1,.int .i64 ((n:Int)+1),.ptr 4 0 0,.int .i64 (t:Int),.int .i64 0]++Js 72),(z36_4 c v5 v3 v2 v4_5 t g6 v6 g7 v7)⟩):G Try.prog E (f36K0 Try.prog) (f36S0 c v5 v3 v2 v6 v7 n t v4_5 g6 g7) :=
 Qa (n:=400) (ds:=[]) (cs:=[]) (live:=[1,6,7,8,9,10,11]) (m:=8) (evs:=[.b true,.lent [4,5,3,2] (.bool (qA (⟨c,v5,v3,v2,v4_5⟩:Rn) (t:Int))) (z36_1 c v5 v3 v2 v4_5 t),.b true,.stop]) (obs:=_) hE.2.1 (hE.nogh _) Qm (by kernel_rfl) ho hg
theorem p36_0_1 (c:Cir) (v5:List Spt) (v3:List Int) (v2:List Bool) (v6:List Pst) (v7:List Int) (n:Nat) (t:Nat) (v4_5:Bool) (g6:Nat) (g7:Nat) {E:Env} {rv:AV} (hE:Qn Try.prog 36 rv E) (ho:AllP [(decide ((t:Int)<20000))=true,XT Try.prog (.clos 57 [] []) [.ptr 0 0 0,.int .i64 (t:Int)] (z36_6 c v5 v3 v2 v4_5) (.bool (qA (⟨c,v5,v3,v2,v4_5⟩:Rn) (t:Int))) (z36_1 c v5 v3 v2 v4_5 t),(qA (⟨c,v5,v3,v2,v4_5⟩:Rn) (t:Int))=false])
 (hg:G Try.prog E (f36K1 Try.prog) ⟨([J,.ptr 0 0 0,J,J,J,J,.sl 6 g6 0 v6.length 1,.sl 7 g7 0 v7.length 1,.int .i64 (n:Int),.ptr 4 0 0,.int .i64 (t:Int),.int .i64 0]++Js 72),(z36_4 c v5 v3 v2 v4_5 t g6 v6 g7 v7)⟩):G Try.prog E (f36K0 Try.prog) (f36S0 c v5 v3 v2 v6 v7 n t v4_5 g6 g7) :=
 Qa (n:=400) (ds:=[]) (cs:=[]) (live:=[1,6,7,8,9,10,11]) (m:=8) (evs:=[.b true,.lent [4,5,3,2] (.bool (qA (⟨c,v5,v3,v2,v4_5⟩:Rn) (t:Int))) (z36_1 c v5 v3 v2 v4_5 t),.b false,.stop]) (obs:=_) hE.2.1 (hE.nogh _) Qm (by kernel_rfl) ho hg
theorem p36_0_2 (c:Cir) (v5:List Spt) (v3:List Int) (v2:List Bool) (v6:List Pst) (v7:List Int) (n:Nat) (t:Nat) (v4_5:Bool) (g6:Nat) (g7:Nat) {E:Env} {res:AV} (hE:Qn Try.prog 36 res E) (ho:AllP [(decide ((t:Int)<20000))=false])
 (hr:AvLe (.tup [.int .i64 0,.int .i64 0,.int .i64 2]) res):G Try.prog E (f36K0 Try.prog) (f36S0 c v5 v3 v2 v6 v7 n t v4_5 g6 g7) :=
 Qk (n:=400) (evs:=[.b false]) (obs:=_) hE Try.func36 Qm (by kernel_rfl) ho hr
theorem f36W0 (c:Cir) (v5:List Spt) (v3:List Int) (v2:List Bool) (v6:List Pst) (v7:List Int) (n:Nat) (t:Nat) (v4_5:Bool) {E:Env} {rv:(Int × Int × Int)} (hE:Qn Try.prog 36 (.tup [.int .i64 rv.1,.int .i64 rv.2.1,.int .i64 rv.2.2]) E)
 (h:(((t:Int)<20000→((FullIn (⟨c,v5,v3,v2,v4_5⟩:Rn) (t:Int))∧(((qA (⟨c,v5,v3,v2,v4_5⟩:Rn) (t:Int))=true→((I6 ((n:Int)+1))∧f36G1 E c ((Yg (⟨c,v5,v3,v2,v4_5⟩:Rn) (t:Int)).go) ((Yg (⟨c,v5,v3,v2,v4_5⟩:Rn) (t:Int)).stood) ((Yg (⟨c,v5,v3,v2,v4_5⟩:Rn) (t:Int)).stp) ((Yg (⟨c,v5,v3,v2,v4_5⟩:Rn) (t:Int)).spots) (n+1) t v6 v7 0))∧((qA (⟨c,v5,v3,v2,v4_5⟩:Rn) (t:Int))=false→f36G1 E c ((Yg (⟨c,v5,v3,v2,v4_5⟩:Rn) (t:Int)).go) ((Yg (⟨c,v5,v3,v2,v4_5⟩:Rn) (t:Int)).stood) ((Yg (⟨c,v5,v3,v2,v4_5⟩:Rn) (t:Int)).stp) ((Yg (⟨c,v5,v3,v2,v4_5⟩:Rn) (t:Int)).spots) n t v6 v7 0))))∧(¬ ((t:Int)<20000)→rv=(0,0,2)))):f36G0 E c v5 v3 v2 v6 v7 n t v4_5:=by
 intro g6 g7
 rcases bft (decide ((t:Int)<20000)) with hc0 | hc0
 · have h:=h.1 (odt hc0)
   obtain ⟨h1,h⟩:=h
   rcases bft (qA (⟨c,v5,v3,v2,v4_5⟩:Rn) (t:Int)) with hc1 | hc1
   · have h:=h.1 hc1
     obtain ⟨q3_2,h⟩:=h
     exact p36_0_0 c v5 v3 v2 v6 v7 n t v4_5 g6 g7 hE ⟨hc0,(Xl Try.func57 (by kernel_rfl) f57b (full_ok (t:Int) c v5 v3 v2 v4_5 c.cars.length 0 0 h1)),hc1,q3_2,trivial⟩ (h g6 g7)
   · have h:=h.2 hc1
     exact p36_0_1 c v5 v3 v2 v6 v7 n t v4_5 g6 g7 hE ⟨hc0,(Xl Try.func57 (by kernel_rfl) f57b (full_ok (t:Int) c v5 v3 v2 v4_5 c.cars.length 0 0 h1)),hc1,trivial⟩ (h g6 g7)
 · have h:=h.2 (odf hc0)
   exact p36_0_2 c v5 v3 v2 v6 v7 n t v4_5 g6 g7 hE ⟨hc0,trivial⟩ (AvLe.of_eq (by rw [h]; try rfl))
theorem p36_1_0 (c:Cir) (v2:List Bool) (v3:List Int) (v4_5:Bool) (v5:List Spt) (n:Nat) (t:Nat) (v6:List Pst) (v7:List Int) (k:Nat) (g6:Nat) (g7:Nat) (pe:Pst) (e:Int) {E:Env} {res:AV} (hE:Qn Try.prog 36 res E) (ho:AllP [g6=g6,(decide ((k:Int)<(v6.length:Int)))=true,0≤(k:Int)∧(k:Int)<(v6.length:Int),g6=g6,g6=g6,((KK v6).drop (0+(Int.toNat (k:Int))*1)).take 1=[.rptr (z36_3 pe) 0],Ql Try.prog (.clos 61 [] []) [.rptr (z36_3 pe) 0,.rptr [.rsl (Qc c.blocks) 0 c.blocks.length,.rsl (rowI c.cars) 0 c.cars.length,.rsl (Qg v5) 0 v5.length,.rsl (rowI v3) 0 v3.length,.rsl (rowB v2) 0 v2.length,.bool v4_5] 0] (.bool (YG pe (⟨c,v5,v3,v2,v4_5⟩:Rn))),c.cars.length=c.cars.length,0=0,0=0,(YG pe (⟨c,v5,v3,v2,v4_5⟩:Rn))=true,0≤(k:Int)∧(k:Int)<(v7.length:Int),g7=g7,g7=g7,((rowI v7).drop (0+(Int.toNat (k:Int))*1)).take 1=[.int .i64 e],InR .i64 ((n:Int) - e),InR .i64 ((t:Int) - (k:Int))])
 (hr:AvLe (.tup [.int .i64 ((n:Int) - e),.int .i64 ((t:Int) - (k:Int)),.int .i64 0]) res):G Try.prog E (f36K1 Try.prog) (f36S1 c v2 v3 v4_5 v5 n t v6 v7 k g6 g7) :=
 Qk (n:=400) (evs:=[.b true,.ld (.rptr (z36_3 pe) 0),.v (.bool (YG pe (⟨c,v5,v3,v2,v4_5⟩:Rn))),.b true,.ld (.int .i64 e)]) (obs:=_) hE Try.func36 Qm (by kernel_rfl) ho hr
theorem p36_1_1 (c:Cir) (v2:List Bool) (v3:List Int) (v4_5:Bool) (v5:List Spt) (n:Nat) (t:Nat) (v6:List Pst) (v7:List Int) (k:Nat) (g6:Nat) (g7:Nat) (pe:Pst) {E:Env} {rv:AV} (hE:Qn Try.prog 36 rv E) (ho:AllP [g6=g6,(decide ((k:Int)<(v6.length:Int)))=true,0≤(k:Int)∧(k:Int)<(v6.length:Int),g6=g6,g6=g6,((KK v6).drop (0+(Int.toNat (k:Int))*1)).take 1=[.rptr (z36_3 pe) 0],Ql Try.prog (.clos 61 [] []) [.rptr (z36_3 pe) 0,.rptr [.rsl (Qc c.blocks) 0 c.blocks.length,.rsl (rowI c.cars) 0 c.cars.length,.rsl (Qg v5) 0 v5.length,.rsl (rowI v3) 0 v3.length,.rsl (rowB v2) 0 v2.length,.bool v4_5] 0] (.bool (YG pe (⟨c,v5,v3,v2,v4_5⟩:Rn))),c.cars.length=c.cars.length,0=0,0=0,(YG pe (⟨c,v5,v3,v2,v4_5⟩:Rn))=false,InR .i64 ((k:Int)+1)])
 (hg:G Try.prog E (f36K1 Try.prog) ⟨([J,.ptr 0 0 0,J,J,J,J,.sl 6 g6 0 v6.length 1,.sl 7 g7 0 v7.length 1,.int .i64 (n:Int),.ptr 4 0 0,.int .i64 (t:Int),.int .i64 ((k:Int)+1)]++Js 72),[⟨true,0,1,true,(Wx c),false⟩,⟨true,0,1,true,(Wx c),false⟩,⟨true,0,1,true,(rowB v2),true⟩,⟨true,0,1,true,(rowI v3),true⟩,⟨true,0,1,false,[.rsl (Qc c.blocks) 0 c.blocks.length,.rsl (rowI c.cars) 0 c.cars.length,.sl 5 c.cars.length 0 v5.length 3,.sl 3 0 0 v3.length 1,.sl 2 0 0 v2.length 1,.bool v4_5],false⟩,⟨true,c.cars.length,3,true,(Qg v5),true⟩,⟨true,g6,1,true,(KK v6),true⟩,⟨true,g7,1,true,(rowI v7),true⟩]⟩):G Try.prog E (f36K1 Try.prog) (f36S1 c v2 v3 v4_5 v5 n t v6 v7 k g6 g7) :=
 Qa (n:=400) (ds:=[]) (cs:=[]) (live:=[1,6,7,8,9,10,11]) (m:=8) (evs:=[.b true,.ld (.rptr (z36_3 pe) 0),.v (.bool (YG pe (⟨c,v5,v3,v2,v4_5⟩:Rn))),.b false,.stop]) (obs:=_) hE.2.1 (hE.nogh _) Qm (by kernel_rfl) ho hg
theorem p36_1_2 (c:Cir) (v2:List Bool) (v3:List Int) (v4_5:Bool) (v5:List Spt) (n:Nat) (t:Nat) (v6:List Pst) (v7:List Int) (k:Nat) (g6:Nat) (g7:Nat) {E:Env} {rv:AV} (hE:Qn Try.prog 36 rv E) (ho:AllP [g6=g6,(decide ((k:Int)<(v6.length:Int)))=false,1=1,0=0,0=0,(0+v5.length)≤2147483648,c.cars.length=c.cars.length,((Qg v5).drop 0).take (v5.length*3)=(Qg v5),(Qg v5).length=(v5.length*3),QQ (Qg v5)=true,1=1,0=0,0=0,(0+v3.length)≤2147483648,0=0,((rowI v3).drop 0).take (v3.length*1)=(rowI v3),(rowI v3).length=(v3.length*1),QQ (rowI v3)=true,g6=g6,(0+(v6.length*1))=(KK v6).length,(v6.length+1)≤2147483648,0=0,g7=g7,(0+(v7.length*1))=(rowI v7).length,(v7.length+1)≤2147483648,0=0,InR .i64 ((t:Int)+1)])
 (hg:G Try.prog E (f36K0 Try.prog) ⟨([J,.ptr 0 0 0,J,J,J,J,.sl 6 (g6+1) 0 (v6.length+1) 1,.sl 7 (g7+1) 0 (v7.length+1) 1,.int .i64 (n:Int),.ptr 4 0 0,.int .i64 ((t:Int)+1)]++Js 73),[⟨true,0,1,true,(Wx c),false⟩,⟨true,0,1,true,(Wx c),false⟩,⟨true,0,1,true,(rowB v2),true⟩,⟨true,0,1,true,(rowI v3),true⟩,⟨true,0,1,false,[.rsl (Qc c.blocks) 0 c.blocks.length,.rsl (rowI c.cars) 0 c.cars.length,.sl 5 c.cars.length 0 v5.length 3,.sl 3 0 0 v3.length 1,.sl 2 0 0 v2.length 1,.bool v4_5],false⟩,⟨true,c.cars.length,3,true,(Qg v5),true⟩,⟨true,(g6+1),1,true,((KK v6)++[.rptr [.rsl (Qc c.blocks) 0 c.blocks.length,.rsl (rowI c.cars) 0 c.cars.length,.rsl (Qg v5) 0 (0+v5.length),.rsl (rowI v3) 0 (0+v3.length),.nilSl,.bool false] 0]),true⟩,⟨true,(g7+1),1,true,((rowI v7)++[.int .i64 (n:Int)]),true⟩]⟩):G Try.prog E (f36K1 Try.prog) (f36S1 c v2 v3 v4_5 v5 n t v6 v7 k g6 g7) :=
 Qa (n:=400) (ds:=[]) (cs:=[]) (live:=[1,6,7,8,9,10]) (m:=8) (evs:=[.b false,.fz,.cs (Qg v5),.fz,.cs (rowI v3),.vn .junk,.stop]) (obs:=_) hE.2.1 (hE.nogh _) Qm (by kernel_rfl) ho hg
theorem f36W1 (c:Cir) (v2:List Bool) (v3:List Int) (v4_5:Bool) (v5:List Spt) (n:Nat) (t:Nat) (v6:List Pst) (v7:List Int) (k:Nat) {E:Env} {rv:(Int × Int × Int)} (hE:Qn Try.prog 36 (.tup [.int .i64 rv.1,.int .i64 rv.2.1,.int .i64 rv.2.2]) E)
 (h:(((k:Int)<(v6.length:Int)→(∃ pe:Pst,v6[k]?=some pe∧((PstIn pe (⟨c,v5,v3,v2,v4_5⟩:Rn))∧(((YG pe (⟨c,v5,v3,v2,v4_5⟩:Rn))=true→(∃ e:Int,v7[k]?=some e∧((I6 ((n:Int) - e))∧((I6 ((t:Int) - (k:Int)))∧rv=(((n:Int) - e),((t:Int) - (k:Int)),0)))))∧((YG pe (⟨c,v5,v3,v2,v4_5⟩:Rn))=false→((I6 ((k:Int)+1))∧f36G1 E c v2 v3 v4_5 v5 n t v6 v7 (k+1)))))))∧(¬ ((k:Int)<(v6.length:Int))→((0+v5.length)≤2147483648∧((0+v3.length)≤2147483648∧((v6.length+1)≤2147483648∧((v7.length+1)≤2147483648∧((I6 ((t:Int)+1))∧f36G0 E c v5 v3 v2 (v6++[(⟨c,v5,v3⟩:Pst)]) (v7++[(n:Int)]) n (t+1) v4_5)))))))):f36G1 E c v2 v3 v4_5 v5 n t v6 v7 k:=by
 intro g6 g7
 rcases bft (decide ((k:Int)<(v6.length:Int))) with hc0 | hc0
 · have h:=h.1 (odt hc0)
   obtain ⟨pe,h1,h⟩:=h
   obtain ⟨h2,h⟩:=h
   rcases bft (YG pe (⟨c,v5,v3,v2,v4_5⟩:Rn)) with hc1 | hc1
   · have h:=h.1 hc1
     obtain ⟨e,h3,h⟩:=h
     obtain ⟨q17_2,h⟩:=h
     obtain ⟨q18_2,h⟩:=h
     exact p36_1_0 c v2 v3 v4_5 v5 n t v6 v7 k g6 g7 pe e hE ⟨rfl,hc0,(Qe h1),rfl,rfl,(rp cPP 1 0 1 h1),(u61 (samePR_ok pe (⟨c,v5,v3,v2,v4_5⟩:Rn) h2)),rfl,rfl,rfl,hc1,(Qe h3),rfl,rfl,(rp cI 1 0 1 h3),q17_2,q18_2,trivial⟩ (AvLe.of_eq (by rw [h]; try rfl))
   · have h:=h.2 hc1
     obtain ⟨q12_2,h⟩:=h
     exact p36_1_1 c v2 v3 v4_5 v5 n t v6 v7 k g6 g7 pe hE ⟨rfl,hc0,(Qe h1),rfl,rfl,(rp cPP 1 0 1 h1),(u61 (samePR_ok pe (⟨c,v5,v3,v2,v4_5⟩:Rn) h2)),rfl,rfl,rfl,hc1,q12_2,trivial⟩ (h g6 g7)
 · have h:=h.2 (odf hc0)
   obtain ⟨h1,h⟩:=h
   obtain ⟨h2,h⟩:=h
   obtain ⟨h3,h⟩:=h
   obtain ⟨h4,h⟩:=h
   obtain ⟨q26_1,h⟩:=h
   refine p36_1_2 c v2 v3 v4_5 v5 n t v6 v7 k g6 g7 hE ⟨rfl,hc0,rfl,rfl,rfl,h1,rfl,(by exact QbA cSpt (fun _=>rfl) v5),(by exact XO cSpt (fun _=>rfl) v5),(by exact row_nr cSpt (fun _=>rfl) v5),rfl,rfl,rfl,h2,rfl,(by exact QbA cI (fun _=>rfl) v3),(by exact XO cI (fun _=>rfl) v3),(by exact row_nr cI (fun _=>rfl) v3),rfl,(by have hx:=XO cPP (s:=1) (fun _=>rfl) v6; simp only [KK] at hx ⊢; rw [hx]; simp),h3,rfl,rfl,(by have hx:=XO cI (s:=1) (fun _=>rfl) v7; simp only [rowI] at hx ⊢; rw [hx]; simp),h4,rfl,q26_1,trivial⟩ ?_
   rw [(show KK v6++[.rptr [.rsl (Qc c.blocks) 0 c.blocks.length,.rsl (rowI c.cars) 0 c.cars.length,.rsl (Qg v5) 0 (0+v5.length),.rsl (rowI v3) 0 (0+v3.length),.nilSl,.bool false] 0]=KK (v6++[(⟨c,v5,v3⟩:Pst)]) from (by rw [(show AV.rsl (Qg v5) 0 (0+v5.length)=AV.rsl (Qg v5) 0 v5.length from by rw [show (0+v5.length)=v5.length from by simp])]; rw [(show AV.rsl (rowI v3) 0 (0+v3.length)=AV.rsl (rowI v3) 0 v3.length from by rw [show (0+v3.length)=v3.length from by simp])]; exact (YV cPP v6 [(⟨c,v5,v3⟩:Pst)]).symm))]; rw [(show (v6.length+1)=(v6++[(⟨c,v5,v3⟩:Pst)]).length from by simp)]; rw [(show rowI v7++[.int .i64 (n:Int)]=rowI (v7++[(n:Int)]) from (YV cI v7 [(n:Int)]).symm)]; rw [(show (v7.length+1)=(v7++[(n:Int)]).length from by simp)]; exact (h (g6+1) (g7+1))
def Kc (c:Cir) (t:Nat):List Pst:=(List.range t).map fun k=>⟨c,(Xd (Qp c (k+1))).spots,(Xd (Qp c (k+1))).stood⟩
def Qaz (c:Cir) (t:Nat):List Int:=(List.range t).map fun k=>(Qp c (k+1)).rounds
theorem pst_eq {c:Cir} {n:Nat}:(⟨c,(Xd (Qp c n)).spots,(Xd (Qp c n)).stood⟩:Pst)=qg (Qp c n):=by
 simp only [qg,Xd,YI]
theorem WF (c:Cir) (h:c.blocks.length≤9223372036854775807∧c.cars.length≤9223372036854775807):Pure Try.prog 36 [.agg [.rsl (Qc c.blocks) 0 c.blocks.length,.rsl (rowI c.cars) 0 c.cars.length]] (.tup [.int .i64 (Qt c).1,.int .i64 (Qt c).2.1,.int .i64 (Qt c).2.2]):=QN Try.func36 f36b fun E hE=>by
 refine f36W c (rv:=Qt c) hE ⟨h,fun h0=>by rw [Qt,if_neg h0],fun h0=>⟨fun hl=>by rw [Qt,if_pos h0,if_pos (.inl (by omega))],fun hl=>⟨fun hj=>by rw [Qt,if_pos h0,if_pos (.inr (by omega))],fun hj=>?_⟩⟩⟩
 have hk:=chk_in h0
 have hnc:=hk.nc
 have hnb:=hk.nb
 have hne:¬ (c.cars.length=0 ∨ c.cars.length=c.blocks.length):=by omega
 refine ⟨hk.new,?_⟩
 have key:∀ (d t n:Nat),t+d=20000→(Qp c t).rounds=(n:Int)→n≤t→(∀ j,j<t→VE c j=none)→f36G0 E c (Xd (Qp c t)).spots (Xd (Qp c t)).stood (Xd (Qp c t)).go (Kc c t) (Qaz c t) n t (Xd (Qp c t)).stp:=by
  intro d
  induction d with
  | zero =>
   intro t n ht hr hn hno
   refine f36W0 c _ _ _ _ _ n t _ (rv:=Qt c) hE ⟨fun h=>by omega,fun _=>?_⟩
   have hh:hitK c=none:=XP fun j hj=>by rw [hno j (by omega)]; rfl
   unfold Qt
   rw [if_pos h0,if_neg hne,hh]
  | succ d ih =>
   intro t n ht hr hn hno
   obtain ⟨n1,n2,n3⟩:=full_next hk (n:=t) (by omega)
   refine f36W0 c _ _ _ _ _ n t _ (rv:=Qt c) hE ⟨fun _=>?_,fun h=>by omega⟩
   rw [rn_eta (show (Xd (Qp c t)).c=c from YI),n2]
   have hlen:=XF hk (n:=t+1)
   have inner:∀ (n':Nat),(Qp c (t+1)).rounds=(n':Int)→n'≤t+1→∀ (d k:Nat),k+d=t→(∀ j,j<k→Vd (stdL c (j+1)) (stdL c (t+1))=false)→f36G1 E c (Xd (Qp c (t+1))).go (Xd (Qp c (t+1))).stood (Xd (Qp c (t+1))).stp (Xd (Qp c (t+1))).spots n' t (Kc c t) (Qaz c t) k:=by
    intro n' hr' hn' d
    induction d with
    | zero =>
     intro k hk2 hnk
     have hl6:(Kc c t).length=t:=by simp [Kc]
     have hl7:(Qaz c t).length=t:=by simp [Qaz]
     refine f36W1 c _ _ _ _ n' t _ _ k (rv:=Qt c) hE ⟨fun h=>by omega,fun _=>⟨?_,?_,by omega,by omega,by omega,?_⟩⟩
     · simp only [Xd,List.length_map]; omega
     · simp only [Xd,List.length_map]; omega
     · have nx:=ih (t+1) n' (by omega) hr' hn' fun j hj=>by
        rcases Nat.lt_or_ge j t with w | w
        · exact hno j w
        · rw [show j=t by omega]; exact XP fun j' hj'=>hnk j' (by omega)
       rw [show Kc c (t+1)=Kc c t++[(⟨c,(Xd (Qp c (t+1))).spots,(Xd (Qp c (t+1))).stood⟩:Pst)] by rw [Kc,List.range_succ]; simp [Kc],
        show Qaz c (t+1)=Qaz c t++[(n':Int)] by rw [Qaz,List.range_succ]; simp [Qaz,hr']] at nx
       exact nx
    | succ d ihd =>
     intro k hk2 hnk
     have hl6:(Kc c t).length=t:=by simp [Kc]
     have hx:(Kc c t)[k]?=some (⟨c,(Xd (Qp c (k+1))).spots,(Xd (Qp c (k+1))).stood⟩:Pst):=by rw [Kc,List.getElem?_map,List.getElem?_range (by omega)]; rfl
     have hy:(Qaz c t)[k]?=some (Qp c (k+1)).rounds:=by rw [Qaz,List.getElem?_map,List.getElem?_range (by omega)]; rfl
     refine f36W1 c _ _ _ _ n' t _ _ k (rv:=Qt c) hE ⟨fun _=>⟨_,hx,?_⟩,fun h=>by omega⟩
     rw [rn_eta (show (Xd (Qp c (t+1))).c=c from YI),pst_eq,same_std hk]
     refine ⟨pst_in hk,fun hs=>⟨_,hy,?_⟩,fun hs=>⟨by omega,ihd (k+1) (by omega) fun j hj=>?_⟩⟩
     · have hf:VE c t=some k:=Yu (by omega) hs hnk
       have hh:hitK c=some t:=Yu (by omega) (by rw [hf]; rfl) fun j hj=>by rw [hno j hj]; rfl
       have b2:=(Yp hk (n:=k+1)).tok.rd
       refine ⟨by omega,by omega,?_⟩
       unfold Qt
       rw [if_pos h0,if_neg hne]
       simp only [hh,hf,hr']
     · rcases Nat.lt_or_ge j k with w | w
       · exact hnk j w
       · rw [show j=k by omega]; exact hs
   refine ⟨n1,fun hb=>⟨by omega,?_⟩,fun hb=>?_⟩
   · rw [hb,if_pos rfl] at n3
     exact inner (n+1) (by omega) (by omega) t 0 (by omega) fun j hj=>by omega
   · rw [hb,if_neg (by simp)] at n3
     exact inner n (by omega) (by omega) t 0 (by omega) fun j hj=>by omega
 exact key 20000 0 0 (by omega) rfl (by omega) fun j hj=>by omega
end Go.Proofs.Ytgdfkjjgdkejfaa
namespace Go.Proofs.Ytgdfkjjgdkejfaa
open Go Ax
open Go.Proofs
theorem f12b:Try.f12.body=some (Qf Try.prog 12):=by kernel_rfl
def f12K0 (P:Program):List Item:=kAt 400 [.code (Qf P 12)] [.b false,.b false,.b false,.stop]
def f12S0 (c:Cir) (need:Int) (i:Nat):St:=⟨([J,.ptr 0 0 0,J,.int .i64 ((Qt c).1),.int .i64 ((Qt c).2.1),J,J,J,J,.int .i64 need,.int .i64 (i:Int)]++Js 78),[⟨true,0,1,true,[.rsl (Qc c.blocks) 0 c.blocks.length,.rsl (rowI c.cars) 0 c.cars.length],false⟩]⟩
def f12G0 (E:Env) (c:Cir) (need:Int) (i:Nat):Prop:=G Try.prog E (f12K0 Try.prog) (f12S0 c need i )
abbrev XM (c:Cir):List AV:=[.rsl (Qc c.blocks) 0 c.blocks.length,.rsl (rowI c.cars) 0 c.cars.length]
abbrev VS (c:Cir):AV:=.tup [.int .i64 ((Qt c).1),.int .i64 ((Qt c).2.1),.int .i64 ((Qt c).2.2)]
theorem p12_start_0 (c:Cir) {E:Env} {res:AV} (hE:Qn Try.prog 12 res E) (ho:AllP [Ql Try.prog (.clos 15 [] []) [.agg (XM c)] (.bool (farB c)),(farB c)=true,Ql Try.prog (.clos 17 [] []) [] (.bool true)])
 (hr:AvLe (.bool true) res):G Try.prog E [.code (Qf Try.prog 12)] ⟨[.agg (XM c)]++unds (Try.f12.ntmps - 1),[]⟩ :=
 Qk (n:=400) (evs:=[.v (.bool (farB c)),.b true,.v (.bool true)]) (obs:=_) hE Try.func12 Qm (by kernel_rfl) ho hr
theorem p12_start_1 (c:Cir) {E:Env} {res:AV} (hE:Qn Try.prog 12 res E) (ho:AllP [Ql Try.prog (.clos 15 [] []) [.agg (XM c)] (.bool (farB c)),(farB c)=false,Ql Try.prog (.clos 18 [] []) [.agg (XM c)] (.agg (XM c)),Ql Try.prog (.clos 35 [] []) [.agg (XM c)] (VS c),Ql Try.prog (.clos 36 [] []) [.agg (XM c)] (VS c),((Qt c).1 != (Qt c).1)=true,true=true,true=true])
 (hr:AvLe (.bool false) res):G Try.prog E [.code (Qf Try.prog 12)] ⟨[.agg (XM c)]++unds (Try.f12.ntmps - 1),[]⟩ :=
 Qk (n:=400) (evs:=[.v (.bool (farB c)),.b false,.v (.agg (XM c)),.v (VS c),.v (VS c),.b true,.b true,.b true]) (obs:=_) hE Try.func12 Qm (by kernel_rfl) ho hr
theorem p12_start_2 (c:Cir) {E:Env} {res:AV} (hE:Qn Try.prog 12 res E) (ho:AllP [Ql Try.prog (.clos 15 [] []) [.agg (XM c)] (.bool (farB c)),(farB c)=false,Ql Try.prog (.clos 18 [] []) [.agg (XM c)] (.agg (XM c)),Ql Try.prog (.clos 35 [] []) [.agg (XM c)] (VS c),Ql Try.prog (.clos 36 [] []) [.agg (XM c)] (VS c),((Qt c).1 != (Qt c).1)=false,((Qt c).2.1 != (Qt c).2.1)=true,true=true])
 (hr:AvLe (.bool false) res):G Try.prog E [.code (Qf Try.prog 12)] ⟨[.agg (XM c)]++unds (Try.f12.ntmps - 1),[]⟩ :=
 Qk (n:=400) (evs:=[.v (.bool (farB c)),.b false,.v (.agg (XM c)),.v (VS c),.v (VS c),.b false,.b true,.b true]) (obs:=_) hE Try.func12 Qm (by kernel_rfl) ho hr
theorem p12_start_3 (c:Cir) {E:Env} {res:AV} (hE:Qn Try.prog 12 res E) (ho:AllP [Ql Try.prog (.clos 15 [] []) [.agg (XM c)] (.bool (farB c)),(farB c)=false,Ql Try.prog (.clos 18 [] []) [.agg (XM c)] (.agg (XM c)),Ql Try.prog (.clos 35 [] []) [.agg (XM c)] (VS c),Ql Try.prog (.clos 36 [] []) [.agg (XM c)] (VS c),((Qt c).1 != (Qt c).1)=false,((Qt c).2.1 != (Qt c).2.1)=false,((Qt c).2.2 != (Qt c).2.2)=true])
 (hr:AvLe (.bool false) res):G Try.prog E [.code (Qf Try.prog 12)] ⟨[.agg (XM c)]++unds (Try.f12.ntmps - 1),[]⟩ :=
 Qk (n:=400) (evs:=[.v (.bool (farB c)),.b false,.v (.agg (XM c)),.v (VS c),.v (VS c),.b false,.b false,.b true]) (obs:=_) hE Try.func12 Qm (by kernel_rfl) ho hr
theorem p12_start_4 (c:Cir) {E:Env} {res:AV} (hE:Qn Try.prog 12 res E) (ho:AllP [Ql Try.prog (.clos 15 [] []) [.agg (XM c)] (.bool (farB c)),(farB c)=false,Ql Try.prog (.clos 18 [] []) [.agg (XM c)] (.agg (XM c)),Ql Try.prog (.clos 35 [] []) [.agg (XM c)] (VS c),Ql Try.prog (.clos 36 [] []) [.agg (XM c)] (VS c),((Qt c).1 != (Qt c).1)=false,((Qt c).2.1 != (Qt c).2.1)=false,((Qt c).2.2 != (Qt c).2.2)=false,((Qt c).2.2 != 0)=true,Ql Try.prog (.clos 17 [] []) [] (.bool true)])
 (hr:AvLe (.bool true) res):G Try.prog E [.code (Qf Try.prog 12)] ⟨[.agg (XM c)]++unds (Try.f12.ntmps - 1),[]⟩ :=
 Qk (n:=400) (evs:=[.v (.bool (farB c)),.b false,.v (.agg (XM c)),.v (VS c),.v (VS c),.b false,.b false,.b false,.b true,.v (.bool true)]) (obs:=_) hE Try.func12 Qm (by kernel_rfl) ho hr
theorem p12_start_5 (c:Cir) {E:Env} {rv:AV} (hE:Qn Try.prog 12 rv E) (ho:AllP [Ql Try.prog (.clos 15 [] []) [.agg (XM c)] (.bool (farB c)),(farB c)=false,Ql Try.prog (.clos 18 [] []) [.agg (XM c)] (.agg (XM c)),Ql Try.prog (.clos 35 [] []) [.agg (XM c)] (VS c),Ql Try.prog (.clos 36 [] []) [.agg (XM c)] (VS c),((Qt c).1 != (Qt c).1)=false,((Qt c).2.1 != (Qt c).2.1)=false,((Qt c).2.2 != (Qt c).2.2)=false,((Qt c).2.2 != 0)=false])
 (hg:G Try.prog E (f12K0 Try.prog) ⟨([J,.ptr 0 0 0,J,.int .i64 ((Qt c).1),.int .i64 ((Qt c).2.1),J,J,J,J,.int .i64 0,.int .i64 0]++Js 78),[⟨true,0,1,true,(XM c),false⟩]⟩):G Try.prog E [.code (Qf Try.prog 12)] ⟨[.agg (XM c)]++unds (Try.f12.ntmps - 1),[]⟩ :=
 Qa (n:=400) (ds:=[]) (cs:=[]) (live:=[1,3,4,9,10]) (m:=1) (evs:=[.v (.bool (farB c)),.b false,.v (.agg (XM c)),.v (VS c),.v (VS c),.b false,.b false,.b false,.b false,.stop]) (obs:=_) hE.2.1 (hE.nogh _) Qm (by kernel_rfl) ho hg
theorem f12W (c:Cir) {E:Env} {rv:Bool} (hE:Qn Try.prog 12 (.bool rv) E)
 (h:(((farB c)=true→rv=true)∧((farB c)=false→((c.blocks.length≤2147483648∧c.cars.length≤2147483648)∧((c.blocks.length≤9223372036854775807∧c.cars.length≤9223372036854775807)∧((c.blocks.length≤9223372036854775807∧c.cars.length≤9223372036854775807)∧((¬ ((Qt c).1=(Qt c).1)→rv=false)∧((Qt c).1=(Qt c).1→((¬ ((Qt c).2.1=(Qt c).2.1)→rv=false)∧((Qt c).2.1=(Qt c).2.1→((¬ ((Qt c).2.2=(Qt c).2.2)→rv=false)∧((Qt c).2.2=(Qt c).2.2→((¬ ((Qt c).2.2=0)→rv=true)∧((Qt c).2.2=0→f12G0 E c 0 0)))))))))))))):G Try.prog E [.code (Qf Try.prog 12)] ⟨[.agg [.rsl (Qc c.blocks) 0 c.blocks.length,.rsl (rowI c.cars) 0 c.cars.length]]++unds (Try.f12.ntmps - 1),[]⟩:=by
 rcases bft (farB c) with hc0 | hc0
 · have h:=h.1 hc0
   exact p12_start_0 c hE ⟨(u15 (QaY c)),hc0,(u17 Qbn),trivial⟩ (AvLe.of_eq (by rw [h]; try rfl))
 · have h:=h.2 hc0
   obtain ⟨h1,h⟩:=h
   obtain ⟨h2,h⟩:=h
   obtain ⟨h3,h⟩:=h
   rcases bft ((Qt c).1 != (Qt c).1) with hc1 | hc1
   · have h:=h.1 (bneT hc1)
     exact p12_start_1 c hE ⟨(u15 (QaY c)),hc0,(u18 (WL c h1)),(u35 (qI c h2)),(u36 (WF c h3)),hc1,rfl,rfl,trivial⟩ (AvLe.of_eq (by rw [h]; try rfl))
   · have h:=h.2 (bneF hc1)
     rcases bft ((Qt c).2.1 != (Qt c).2.1) with hc2 | hc2
     · have h:=h.1 (bneT hc2)
       exact p12_start_2 c hE ⟨(u15 (QaY c)),hc0,(u18 (WL c h1)),(u35 (qI c h2)),(u36 (WF c h3)),hc1,hc2,rfl,trivial⟩ (AvLe.of_eq (by rw [h]; try rfl))
     · have h:=h.2 (bneF hc2)
       rcases bft ((Qt c).2.2 != (Qt c).2.2) with hc3 | hc3
       · have h:=h.1 (bneT hc3)
         exact p12_start_3 c hE ⟨(u15 (QaY c)),hc0,(u18 (WL c h1)),(u35 (qI c h2)),(u36 (WF c h3)),hc1,hc2,hc3,trivial⟩ (AvLe.of_eq (by rw [h]; try rfl))
       · have h:=h.2 (bneF hc3)
         rcases bft ((Qt c).2.2 != 0) with hc4 | hc4
         · have h:=h.1 (bneT hc4)
           exact p12_start_4 c hE ⟨(u15 (QaY c)),hc0,(u18 (WL c h1)),(u35 (qI c h2)),(u36 (WF c h3)),hc1,hc2,hc3,hc4,(u17 Qbn),trivial⟩ (AvLe.of_eq (by rw [h]; try rfl))
         · have h:=h.2 (bneF hc4)
           exact p12_start_5 c hE ⟨(u15 (QaY c)),hc0,(u18 (WL c h1)),(u35 (qI c h2)),(u36 (WF c h3)),hc1,hc2,hc3,hc4,trivial⟩ h
theorem p12_0_0 (c:Cir) (need:Int) (i:Nat) (be:Bk) {E:Env} {rv:AV} (hE:Qn Try.prog 12 rv E) (ho:AllP [(decide ((i:Int)<(c.blocks.length:Int)))=true,0≤(i:Int)∧(i:Int)<(c.blocks.length:Int),((Qc c.blocks).drop ((0+(Int.toNat (i:Int))*4)+0)).take 1=[.int .i64 be.time],0≤(i:Int)∧(i:Int)<(c.blocks.length:Int),((Qc c.blocks).drop ((0+(Int.toNat (i:Int))*4)+2)).take 1=[.int .i64 be.hold],InR .i64 (be.time+be.hold),InR .i64 (need+(be.time+be.hold)),InR .i64 ((i:Int)+1)])
 (hg:G Try.prog E (f12K0 Try.prog) ⟨([J,.ptr 0 0 0,J,.int .i64 ((Qt c).1),.int .i64 ((Qt c).2.1),J,J,J,J,.int .i64 (need+(be.time+be.hold)),.int .i64 ((i:Int)+1)]++Js 78),[⟨true,0,1,true,(XM c),false⟩]⟩):G Try.prog E (f12K0 Try.prog) (f12S0 c need i ) :=
 Qa (n:=400) (ds:=[]) (cs:=[]) (live:=[1,3,4,9,10]) (m:=1) (evs:=[.b true,.auto,.ld (.int .i64 be.time),.auto,.ld (.int .i64 be.hold),.stop]) (obs:=_) hE.2.1 (hE.nogh _) Qm (by kernel_rfl) ho hg
theorem p12_0_1 (c:Cir) (need:Int) (i:Nat) {E:Env} {res:AV} (hE:Qn Try.prog 12 res E) (ho:AllP [(decide ((i:Int)<(c.blocks.length:Int)))=false,(decide ((Qt c).1 > 0))=true,(c.cars.length:Int) ≠ 0,((Int.tmod ((Qt c).1) (c.cars.length:Int)) == 0)=true,InR .i64 ((Qt c).1*need),InR .i64 ((c.cars.length:Int)*(Qt c).2.1),(decide (((Qt c).1*need)≤((c.cars.length:Int)*(Qt c).2.1)))=true,Ql Try.prog (.clos 17 [] []) [] (.bool true)])
 (hr:AvLe (.bool true) res):G Try.prog E (f12K0 Try.prog) (f12S0 c need i ) :=
 Qk (n:=400) (evs:=[.b false,.b true,.b true,.b true,.v (.bool true)]) (obs:=_) hE Try.func12 Qm (by kernel_rfl) ho hr
theorem p12_0_2 (c:Cir) (need:Int) (i:Nat) {E:Env} {res:AV} (hE:Qn Try.prog 12 res E) (ho:AllP [(decide ((i:Int)<(c.blocks.length:Int)))=false,(decide ((Qt c).1 > 0))=true,(c.cars.length:Int) ≠ 0,((Int.tmod ((Qt c).1) (c.cars.length:Int)) == 0)=true,InR .i64 ((Qt c).1*need),InR .i64 ((c.cars.length:Int)*(Qt c).2.1),(decide (((Qt c).1*need)≤((c.cars.length:Int)*(Qt c).2.1)))=false])
 (hr:AvLe (.bool false) res):G Try.prog E (f12K0 Try.prog) (f12S0 c need i ) :=
 Qk (n:=400) (evs:=[.b false,.b true,.b true,.b false]) (obs:=_) hE Try.func12 Qm (by kernel_rfl) ho hr
theorem p12_0_3 (c:Cir) (need:Int) (i:Nat) {E:Env} {res:AV} (hE:Qn Try.prog 12 res E) (ho:AllP [(decide ((i:Int)<(c.blocks.length:Int)))=false,(decide ((Qt c).1 > 0))=true,(c.cars.length:Int) ≠ 0,((Int.tmod ((Qt c).1) (c.cars.length:Int)) == 0)=false,false=false])
 (hr:AvLe (.bool false) res):G Try.prog E (f12K0 Try.prog) (f12S0 c need i ) :=
 Qk (n:=400) (evs:=[.b false,.b true,.b false,.b false]) (obs:=_) hE Try.func12 Qm (by kernel_rfl) ho hr
theorem p12_0_4 (c:Cir) (need:Int) (i:Nat) {E:Env} {res:AV} (hE:Qn Try.prog 12 res E) (ho:AllP [(decide ((i:Int)<(c.blocks.length:Int)))=false,(decide ((Qt c).1 > 0))=false,false=false,false=false])
 (hr:AvLe (.bool false) res):G Try.prog E (f12K0 Try.prog) (f12S0 c need i ) :=
 Qk (n:=400) (evs:=[.b false,.b false,.b false,.b false]) (obs:=_) hE Try.func12 Qm (by kernel_rfl) ho hr
theorem f12W0 (c:Cir) (need:Int) (i:Nat) {E:Env} {rv:Bool} (hE:Qn Try.prog 12 (.bool rv) E)
 (h:(((i:Int)<(c.blocks.length:Int)→(∃ be:Bk,c.blocks[i]?=some be∧((I6 (be.time+be.hold))∧((I6 (need+(be.time+be.hold)))∧((I6 ((i:Int)+1))∧f12G0 E c (need+(be.time+be.hold)) (i+1))))))∧(¬ ((i:Int)<(c.blocks.length:Int))→(((Qt c).1 > 0→((c.cars.length:Int) ≠ 0∧(((Int.tmod ((Qt c).1) (c.cars.length:Int))=0→((I6 ((Qt c).1*need))∧((I6 ((c.cars.length:Int)*(Qt c).2.1))∧((((Qt c).1*need)≤((c.cars.length:Int)*(Qt c).2.1)→rv=true)∧(¬ (((Qt c).1*need)≤((c.cars.length:Int)*(Qt c).2.1))→rv=false)))))∧(¬ ((Int.tmod ((Qt c).1) (c.cars.length:Int))=0)→rv=false))))∧(¬ ((Qt c).1 > 0)→rv=false))))):f12G0 E c need i:=by
 rcases bft (decide ((i:Int)<(c.blocks.length:Int))) with hc0 | hc0
 · have h:=h.1 (odt hc0)
   obtain ⟨be,h1,h⟩:=h
   obtain ⟨q6_1,h⟩:=h
   obtain ⟨q7_1,h⟩:=h
   obtain ⟨q8_1,h⟩:=h
   exact p12_0_0 c need i be hE ⟨hc0,(Qe h1),(rp cBk 4 0 1 h1),(Qe h1),(rp cBk 4 2 1 h1),q6_1,q7_1,q8_1,trivial⟩ h
 · have h:=h.2 (odf hc0)
   rcases bft (decide ((Qt c).1 > 0)) with hc1 | hc1
   · have h:=h.1 (odt hc1)
     obtain ⟨q2_2,h⟩:=h
     rcases bft ((Int.tmod ((Qt c).1) (c.cars.length:Int)) == 0) with hc2 | hc2
     · have h:=h.1 (eq_of_beq hc2)
       obtain ⟨q4_3,h⟩:=h
       obtain ⟨q5_3,h⟩:=h
       rcases bft (decide (((Qt c).1*need)≤((c.cars.length:Int)*(Qt c).2.1))) with hc3 | hc3
       · have h:=h.1 (odt hc3)
         exact p12_0_1 c need i hE ⟨hc0,hc1,q2_2,hc2,q4_3,q5_3,hc3,(u17 Qbn),trivial⟩ (AvLe.of_eq (by rw [h]; try rfl))
       · have h:=h.2 (odf hc3)
         exact p12_0_2 c need i hE ⟨hc0,hc1,q2_2,hc2,q4_3,q5_3,hc3,trivial⟩ (AvLe.of_eq (by rw [h]; try rfl))
     · have h:=h.2 (ne_of_beq_false hc2)
       exact p12_0_3 c need i hE ⟨hc0,hc1,q2_2,hc2,rfl,trivial⟩ (AvLe.of_eq (by rw [h]; try rfl))
   · have h:=h.2 (odf hc1)
     exact p12_0_4 c need i hE ⟨hc0,hc1,rfl,rfl,trivial⟩ (AvLe.of_eq (by rw [h]; try rfl))
theorem KO {c:Cir} (h:ChkIn c):∀ {b:Nat},b≤c.blocks.length→0≤preN c b∧preN c b≤60*b
 | 0,_=>by simp [preN]
 | b+1,hb=>by
  have ih:=KO h (b:=b) (by omega)
  have hbk:=h.bk _ (List.mem_of_getElem? (bk_nat (c:=c) (b:=b) (by omega)))
  simp only [preN,bkTm]; omega
theorem law12_ok (c:Cir) (h:CirQ c):Pure Try.prog 12 [.agg [.rsl (Qc c.blocks) 0 c.blocks.length,.rsl (rowI c.cars) 0 c.cars.length]] (.bool true):=QN Try.func12 f12b fun E hE=>by
 refine f12W c (rv:=true) hE ⟨fun _=>rfl,fun hf=>?_⟩
 have hb:=far_in hf
 refine ⟨by omega,h,h,fun e=>absurd rfl e,fun _=>⟨fun e=>absurd rfl e,fun _=>⟨fun e=>absurd rfl e,fun _=>⟨fun _=>rfl,fun h0=>?_⟩⟩⟩⟩
 obtain ⟨r,r1,r2,r3,r4,hk,r5⟩:=rated_law h0
 have hnb:=hk.nb
 have hnc:=hk.nc
 have hpos:=KO hk (b:=c.blocks.length) (Nat.le_refl _)
 have key:∀ (d i:Nat),i+d=c.blocks.length→f12G0 E c (preN c i) i:=by
  intro d
  induction d with
  | zero =>
   intro i hi
   have ei:i=c.blocks.length:=by omega
   subst ei
   have hL:(1:Int)≤c.cars.length:=by omega
   have hL2:(c.cars.length:Int)≤10:=by omega
   have hm0:0≤r*preN c c.blocks.length:=Int.mul_nonneg (by omega) hpos.1
   have e1:(Qt c).1*preN c c.blocks.length=(c.cars.length:Int)*(r*preN c c.blocks.length):=by rw [r2,Int.mul_assoc]
   have hle:(c.cars.length:Int)*(r*preN c c.blocks.length)≤(c.cars.length:Int)*(Qt c).2.1:=Int.mul_le_mul_of_nonneg_left r3 (by omega)
   have hz1:0≤(c.cars.length:Int)*(r*preN c c.blocks.length):=Int.mul_nonneg (by omega) hm0
   have hz2:(c.cars.length:Int)*(Qt c).2.1≤10*20000:=Int.mul_le_mul hL2 r5 (by omega) (by omega)
   have hgt:(Qt c).1 > 0:=by rw [r2]; exact Int.mul_pos (by omega) r1
   refine f12W0 c _ _ (rv:=true) hE ⟨fun h=>by omega,fun _=>⟨fun _=>⟨by omega,fun hm=>⟨by rw [e1]; omega,by omega,fun _=>rfl,fun hn=>absurd (by rw [e1]; exact hle) hn⟩,fun hm=>?_⟩,fun hn=>absurd hgt hn⟩⟩
   exfalso
   refine hm ?_
   rw [r2]
   exact Int.mul_tmod_right _ _
  | succ d ih =>
   intro i hi
   have hx:=bk_nat (c:=c) (b:=i) (by omega)
   have hbk:=hk.bk _ (List.mem_of_getElem? hx)
   have hp:=KO hk (b:=i) (by omega)
   exact f12W0 c _ i (rv:=true) hE ⟨fun _=>⟨_,hx,by omega,by omega,by omega,ih (i+1) (by omega)⟩,fun h=>by omega⟩
 exact key c.blocks.length 0 (by omega)
end Go.Proofs.Ytgdfkjjgdkejfaa