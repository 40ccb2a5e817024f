/- A part of the proof: several texts, one behind the other. -/
import Derived.Test.YtgdfkjjgdkejfaaLRideOrderedE
set_option linter.unusedVariables false
set_option linter.unusedSimpArgs false
set_option maxRecDepth 100000
namespace Go.Proofs.Ytgdfkjjgdkejfaa
open Go Ax
open Go.Proofs
/-! ### What the switches say,if nothing is split -/
theorem b2i_one {b:Bool}:(b2i b == 1)=b:=by cases b <;> rfl
theorem b2i_zero {b:Bool}:(b2i b == 0)=!b:=by cases b <;> rfl
theorem said_true {T:Trk} (h1:T.faults.length≤1) {k b:Int} (hs:splitI (saidV T k b)=false):(saidV T k b).a=b2i (isI T.c T.cars k b)∧(saidV T k b).b=b2i (isI T.c T.cars k b):=by
 simp only [saidV,saysV] at hs ⊢
 cases hf:T.faults with
 | nil=>simp
 | cons f l =>
  have:l=[]:=by rw [hf] at h1; exact List.eq_nil_of_length_eq_zero (by simpa using h1)
  subst this
  rw [hf] at hs
  simp only [List.foldl_cons,List.foldl_nil,fltStep,splitI] at hs ⊢
  split at hs
  · rename_i h
    rw [if_pos h]
    split at hs
    · rename_i hc; rw [if_pos hc]; simp only at hs ⊢; exact ⟨by simpa using hs,trivial⟩
    · rename_i hc; rw [if_neg hc]; simp only at hs ⊢; exact ⟨trivial,(show b2i (isI T.c T.cars k b)=f.val by simpa using hs).symm⟩
  · rename_i h; rw [if_neg h]; exact ⟨rfl,rfl⟩
theorem split_at {T:Trk} (h:anySplit (readI T)=false) {k b:Nat} (hk:k<3) (hb:b<T.c.blocks.length):splitI (saidV T ((k+1:Nat):Int) (b:Int))=false:=by
 rw [splitI,no_split h hk hb]; simp
theorem true_at {T:Trk} (h1:T.faults.length≤1) (h:anySplit (readI T)=false) {k b:Nat} (hk:k<3) (hb:b<T.c.blocks.length):(saidV T ((k+1:Nat):Int) (b:Int)).a=b2i (isI T.c T.cars ((k+1:Nat):Int) (b:Int)) :=
 (said_true h1 (split_at h hk hb)).1
theorem free_true {T:Trk} (h1:T.faults.length≤1) (hsp:anySplit (readI T)=false) (hn:0<T.c.blocks.length) {ops:List Bool} {b:Nat} (hb:b<T.c.blocks.length) :
 freeB T.c (readI T) ops b=(isI T.c T.cars 2 b && isI T.c T.cars 3 b && !(ops.getD b false) && !(isI T.c T.cars 1 (nextB T.c b:Nat))):=by
 have e1:(saidV T 2 b).a=b2i (isI T.c T.cars 2 b):=true_at h1 hsp (k:=1) (by omega) hb
 have e2:(saidV T 3 b).a=b2i (isI T.c T.cars 3 b):=true_at h1 hsp (k:=2) (by omega) hb
 have e3:(saidV T 1 (nextB T.c b:Nat)).a=b2i (isI T.c T.cars 1 (nextB T.c b:Nat)):=true_at h1 hsp (k:=0) (by omega) (Nat.mod_lt _ hn)
 rw [free_a hsp hn hb,e1,e2,e3,b2i_one,b2i_one,b2i_zero]
theorem open_true {T:Trk} (h1:T.faults.length≤1) (hsp:anySplit (readI T)=false) {p:Prs} (hp:InC T.c p.block) (ho:openP T.c (readI T) p=true):isI T.c T.cars 2 p.block=true:=by
 have e:((Int.toNat p.block:Nat):Int)=p.block:=by have:=hp.1; omega
 have e1:=true_at h1 hsp (k:=1) (by omega) hp.2
 rw [e] at e1
 have e1:(saidV T 2 p.block).a=b2i (isI T.c T.cars 2 p.block):=e1
 rw [open_a hsp hp,e1,b2i_one] at ho
 simp only [Bool.and_eq_true] at ho
 exact ho.1.2
/-! ### The brake,car by car -/
def mvC (c:Cir) (x:Car):Car:=⟨⟨(nextB c (Int.toNat x.spot.block):Nat),0,x.spot.opn⟩,0⟩
def goS (c:Cir) (rd:Rd4) (ops:List Bool) (s0:Brk) (i:Nat):Bool:=freeB c rd ops (Int.toNat (s0.cars.getD i dC).spot.block) && !(waitB c s0 (Int.toNat (s0.cars.getD i dC).spot.block) i)
theorem carAt_some {cars:List Car} (hn:NoShare cars) {i b:Nat} (hi:i<cars.length) (hb:(cars.getD i dC).spot.block=(b:Int)):carAt cars b cars.length=some i :=
 firstN_some hi (by simpa using hb) fun j hj=>by
  have:=hn j i hj hi
  rw [hb] at this
  exact beq_eq_false_iff_ne.2 this
theorem brake_each {c:Cir} {rd:Rd4} {ops:List Bool} {s0:Brk} (hn:NoShare s0.cars) (hin:∀ x ∈ s0.cars,InC c x.spot.block) (hg:s0.gos.length=c.blocks.length):∀ {b:Nat},b≤c.blocks.length →
 ((brakeN c rd ops s0.cars b s0).cars.length=s0.cars.length∧(∀ i,i<s0.cars.length→(brakeN c rd ops s0.cars b s0).cars.getD i dC=if Int.toNat (s0.cars.getD i dC).spot.block<b∧goS c rd ops s0 i=true then mvC c (s0.cars.getD i dC) else s0.cars.getD i dC) ∧
   (∀ j,b≤j→(brakeN c rd ops s0.cars b s0).gos.getD j false=s0.gos.getD j false))
 | 0,_=>⟨rfl,fun i hi=>by rw [if_neg (by omega)]; rfl,fun j _=>rfl⟩
 | b+1,hb=>by
  obtain ⟨h1,h2,h3⟩:=brake_each hn hin hg (rd:=rd) (ops:=ops) (b:=b) (by omega)
  simp only [brakeN]
  generalize brakeN c rd ops s0.cars b s0=s at h1 h2 h3
  have same:(∀ i,i<s0.cars.length→Int.toNat (s0.cars.getD i dC).spot.block=b→goS c rd ops s0 i=false)→s.cars.length=s0.cars.length∧(∀ i,i<s0.cars.length→s.cars.getD i dC=if Int.toNat (s0.cars.getD i dC).spot.block<b+1∧goS c rd ops s0 i=true then mvC c (s0.cars.getD i dC) else s0.cars.getD i dC)∧(∀ j,b+1≤j→s.gos.getD j false=s0.gos.getD j false):=fun hh=>by
   refine ⟨h1,fun i hi=>?_,fun j hj=>h3 j (by omega)⟩
   rw [h2 i hi]
   by_cases hbi:Int.toNat (s0.cars.getD i dC).spot.block=b
   · rw [if_neg (by omega),if_neg (by rw [hh i hi hbi]; simp)]
   · by_cases hlt:Int.toNat (s0.cars.getD i dC).spot.block<b∧goS c rd ops s0 i=true
     · rw [if_pos hlt,if_pos ⟨by omega,hlt.2⟩]
     · rw [if_neg hlt,if_neg fun h=>hlt ⟨by omega,h.2⟩]
  have inI:∀ i,i<s0.cars.length→((Int.toNat (s0.cars.getD i dC).spot.block:Nat):Int)=(s0.cars.getD i dC).spot.block:=fun i hi=>by
   have:=(hin _ (List.mem_of_getElem? (getD_some (d:=dC) hi))).1
   omega
  unfold brakeB
  split
  · rename_i hfree
    cases hc:carAt s0.cars b s0.cars.length with
    | none =>
     simp only
     refine same fun i hi hbi=>?_
     have:=carAt_some hn hi (b:=b) (by rw [← inI i hi,hbi])
     rw [hc] at this; cases this
    | some i =>
     simp only
     obtain ⟨hi,hib,-⟩:=firstN_spec hc
     have hib:(s0.cars.getD i dC).spot.block=(b:Int):=by simpa using hib
     have hibn:Int.toNat (s0.cars.getD i dC).spot.block=b:=by omega
     have hsi:s.cars.getD i dC=s0.cars.getD i dC:=by rw [h2 i hi,if_neg (by omega)]
     have hw:waitB c s b i=waitB c s0 b i:=by simp only [waitB,hsi,h3 b (Nat.le_refl b)]
     have only:∀ k,k<s0.cars.length→Int.toNat (s0.cars.getD k dC).spot.block=b→k=i:=fun k hk hkb=>hn.uniq hk hi (by rw [← inI k hk,hkb,hib])
     split
     · rename_i hwt
       refine same fun k hk hkb=>?_
       have:=only k hk hkb
       subst this
       rw [goS,hkb,← hw,hwt]; simp
     · rename_i hwt
       have hgo:goS c rd ops s0 i=true:=by rw [goS,hibn,hfree,← hw,Bool.eq_false_iff.2 hwt]; rfl
       refine ⟨by simp [goB,h1],fun k hk=>?_,fun j hj=>?_⟩
       · simp only [goB]
         rw [List.getD_eq_getElem?_getD,List.getElem?_set]
         by_cases hki:i=k
         · subst hki
           rw [if_pos rfl,if_pos (by rw [h1]; exact hk),if_pos ⟨by omega,hgo⟩,hsi]
           simp only [mvC,hibn,Option.getD_some]
         · rw [if_neg hki,← List.getD_eq_getElem?_getD,h2 k hk]
           have hne:Int.toNat (s0.cars.getD k dC).spot.block ≠ b:=fun h=>hki (only k hk h).symm
           by_cases hlt:Int.toNat (s0.cars.getD k dC).spot.block<b∧goS c rd ops s0 k=true
           · rw [if_pos hlt,if_pos ⟨by omega,hlt.2⟩]
           · rw [if_neg hlt,if_neg fun h=>hlt ⟨by omega,h.2⟩]
       · simp only [goB]
         rw [List.getD_eq_getElem?_getD,List.getElem?_set,if_neg (by omega),← List.getD_eq_getElem?_getD]
         exact h3 j (by omega)
  · rename_i hfree
    refine same fun i hi hbi=>?_
    rw [goS,hbi,Bool.eq_false_iff.2 hfree]; rfl
/-! ### What is pressed,car by car -/
structure Prd (c:Cir) (r:List Car) (s:List Car × List Bool × List Bool):Prop where
 len:s.1.length=r.length
 same:∀ i,i<r.length→(s.1.getD i dC).spot.block=(r.getD i dC).spot.block∧(s.1.getD i dC).spot.ran=(r.getD i dC).spot.ran∧(s.1.getD i dC).stood=(r.getD i dC).stood
 opn:∀ i,i<r.length→(s.1.getD i dC).spot.opn=true→(r.getD i dC).spot.opn=true ∨ (s.2.2.getD (Int.toNat (r.getD i dC).spot.block) false=true∧restI c (r.getD i dC)=true)
theorem isI_car {c:Cir} {cars:List Car} (hn:NoShare cars) {i:Nat} (hi:i<cars.length):isI c cars 2 (cars.getD i dC).spot.block=restI c (cars.getD i dC):=by
 have hm:=List.mem_of_getElem? (getD_some (d:=dC) hi)
 rw [isI,if_neg (by omega),if_pos rfl,Bool.eq_iff_iff,any_iff]
 constructor
 · rintro ⟨j,hj,hp⟩
   simp only [Bool.and_eq_true,beq_iff_eq] at hp
   have:=hn.uniq hj hi hp.1
   rw [← this]; exact hp.2
 · intro h
   exact ⟨i,hi,by rw [beq_self_eq_true,h]; rfl⟩
theorem Prd.press {T:Trk} (h1:T.faults.length≤1) (hsp:anySplit (readI T)=false) (hn:NoShare T.cars) {s:List Car × List Bool × List Bool} {p:Prs} (hp:InC T.c p.block) (h:Prd T.c T.cars s) (hlo:s.2.2.length=T.c.blocks.length):Prd T.c T.cars (pressS T.c (readI T) p s):=by
 unfold pressS
 split
 · exact ⟨h.len,h.same,h.opn⟩
 · refine ⟨by simp [h.len],fun i hi=>?_,fun i hi ho=>?_⟩
   · rw [getD_map (d:=dC) (by rw [h.len]; exact hi)]
     have:=h.same i hi
     unfold pressC
     split
     · exact this
     · exact this
   · rw [getD_map (d:=dC) (by rw [h.len]; exact hi)] at ho
     have hsm:=h.same i hi
     have grow:∀ j,s.2.2.getD j false=true→(opsP (openP T.c (readI T) p) p s.1 s.2.2).getD j false=true:=fun j hj=>by
      have hjl:j<s.2.2.length:=by
       rcases Nat.lt_or_ge j s.2.2.length with q | q
       · exact q
       · rw [List.getD_eq_getElem?_getD,List.getElem?_eq_none q] at hj; cases hj
      rw [opsP,List.getD_eq_getElem?_getD,List.getElem?_set]
      split
      · rename_i e; subst e; rw [if_pos hjl,hj]; rfl
      · rw [← List.getD_eq_getElem?_getD]; exact hj
     unfold pressC at ho
     split at ho
     · rename_i hh
       simp only at ho
       have hk:p.kind=1:=by simpa using ho
       have hhit:=hh
       simp only [hitP,Bool.and_eq_true,beq_iff_eq,Bool.or_eq_true] at hh
       have hop:openP T.c (readI T) p=true:=by rcases hh.2 with h | h; omega; exact h
       have hrest:=open_true h1 hsp hp hop
       have hb:(T.cars.getD i dC).spot.block=p.block:=by rw [← hsm.1]; exact hh.1
       rw [← hb,isI_car hn hi] at hrest
       refine .inr ⟨?_,hrest⟩
       have hany:s.1.any (hitP (openP T.c (readI T) p) p)=true:=any_iff.2 ⟨i,by rw [h.len]; exact hi,hhit⟩
       rw [hb,opsP,List.getD_eq_getElem?_getD,List.getElem?_set,if_pos rfl,if_pos (by rw [hlo]; exact hp.2),hany,show (p.kind == 1)=true by simpa using hk]
       simp
     · rcases h.opn i hi ho with q | ⟨q1,q2⟩
       · exact .inl q
       · exact .inr ⟨grow _ q1,q2⟩
theorem Prd.fold {T:Trk} (h1:T.faults.length≤1) (hsp:anySplit (readI T)=false) (hn:NoShare T.cars):∀ {l:List Prs} {s:List Car × List Bool × List Bool},PrsIn T.c l→Prd T.c T.cars s→s.2.2.length=T.c.blocks.length→Prd T.c T.cars (l.foldl (pressIf T.c (readI T) T.tick) s)
 | [],s,_,h,_=>h
 | p :: l,s,hp,h,hl=>by
  simp only [List.foldl_cons]
  have hpp:=hp p (by simp)
  refine Prd.fold h1 hsp hn (fun q hq=>hp q (by simp [hq])) ?_ ?_
  · unfold pressIf
    split
    · exact Prd.press h1 hsp hn hpp.1 h hl
    · exact h
  · unfold pressIf
    split
    · rw [press_len3]; exact hl
    · exact hl
end Go.Proofs.Ytgdfkjjgdkejfaa
namespace Go.Proofs.Ytgdfkjjgdkejfaa
open Go Ax
open Go.Proofs
theorem wreck_no {c:Cir} {cars:List Car} (hn:NoShare cars) (hr:∀ x ∈ cars,x.spot.opn=true→restI c x=true):wreckS c (cars.map Car.spot)=false:=by
 rw [wreckS]
 refine range_any_false fun i hi=>?_
 rw [List.length_map] at hi
 rw [Bool.or_eq_false_iff]
 refine ⟨?_,range_any_false fun k hk=>?_⟩
 · rw [wreckA,spot_getD hi]
   have:=hr _ (List.mem_of_getElem? (getD_some (d:=dC) hi))
   cases ho:(cars.getD i dC).spot.opn with
   | false=>rfl
   | true =>
    have:=this ho
    have e:restS c (cars.getD i dC).spot=true:=this
    rw [e]; rfl
 · rw [spot_getD hi,spot_getD (by omega)]
   exact beq_eq_false_iff_ne.2 (hn k i hk hi)
theorem next_inj {n a b:Nat} (ha:a<n) (hb:b<n) (h:(a+1) % n=(b+1) % n):a=b:=by
 rcases Nat.lt_or_ge (a+1) n with h1 | h1 <;> rcases Nat.lt_or_ge (b+1) n with h2 | h2
 · rw [Nat.mod_eq_of_lt h1,Nat.mod_eq_of_lt h2] at h; omega
 · rw [Nat.mod_eq_of_lt h1,show b+1=n by omega,Nat.mod_self] at h; omega
 · rw [Nat.mod_eq_of_lt h2,show a+1=n by omega,Nat.mod_self] at h; omega
 · omega
structure Inv (T:Trk) (B:Int):Prop where
 tok:TOk T B
 tt:TT T
 w:T.wrecked=false
 rest:∀ x ∈ T.cars,x.spot.opn=true→restI T.c x=true
 f1:T.faults.length≤1
theorem Inv.ns {T:Trk} {B:Int} (h:Inv T B):NoShare T.cars:=h.tok.ns h.w
theorem roll_rest {T:Trk} (h:∀ x ∈ T.cars,x.spot.opn=true→restI T.c x=true):∀ x ∈ rollT T,x.spot.opn=true→restI T.c x=true:=by
 unfold rollT
 split
 · intro x hx
   obtain ⟨y,hy,rfl⟩:=List.mem_map.1 hx
   have:=h y hy
   unfold rollC
   split
   · rename_i hr; exact fun _=>hr
   · rename_i hr; exact fun ho=>absurd (this ho) hr
 · exact h
theorem Inv.nosplit {T:Trk} {B:Int} (h:Inv T B) (hs:stopT T<0):anySplit (readI (midT T))=false:=by
 have:=h.tok.tk
 unfold stopT at hs
 split at hs
 · split at hs
   · omega
   · rename_i hh; exact Bool.eq_false_iff.2 hh
 · rename_i h0; exact absurd hs h0
/-- Cars that move: each into a block that was free. -/
structure Moved (c:Cir) (r s r':List Car) (go:Nat→Bool):Prop where
 len:s.length=r.length
 len':r'.length=r.length
 each:∀ i,i<r.length→r'.getD i dC=if go i=true then mvC c (s.getD i dC) else s.getD i dC
 same:∀ i,i<r.length→(s.getD i dC).spot.block=(r.getD i dC).spot.block∧(s.getD i dC).spot.ran=(r.getD i dC).spot.ran
 free:∀ i,i<r.length→go i=true→(∀ j,j<r.length→(r.getD j dC).spot.block ≠ (nextB c (Int.toNat (r.getD i dC).spot.block):Nat))∧(s.getD i dC).spot.opn=false
 opn:∀ i,i<r.length→(s.getD i dC).spot.opn=true→(r.getD i dC).spot.opn=true ∨ restI c (r.getD i dC)=true
theorem act_moved {T:Trk} {B:Int} {l:List Prs} (h:Inv T B) (hpr:PrsIn T.c l) (hs:stopT T<0):∃ s go,Moved T.c (rollT T) s (actT T l).cars go:=by
 have hsp:=h.nosplit hs
 have hn:=rollT_ns h.ns
 have hcar:=rollT_car h.tok
 have hf1:(midT T).faults.length≤1:=h.f1
 have hprd:Prd T.c (rollT T) (pressT T l):=Prd.fold (T:=midT T) hf1 hsp hn hpr ⟨rfl,fun i hi=>⟨rfl,rfl,rfl⟩,fun i hi ho=>.inl ho⟩ (by simp [midT])
 have hp:=pres_ok (l:=l) h.tok h.w
 have e:actT T l=brakeT T l:=by unfold actT; rw [if_pos hs]
 have hbr:=brake_each (c:=T.c) (rd:=readI (midT T)) (ops:=(pressT T l).2.2) (s0:=⟨(pressT T l).1,(pressT T l).2.1,T.rounds,T.gone⟩) hp.ns (fun x hx=>(hp.car x hx).inC) hp.lg (b:=T.c.blocks.length) (Nat.le_refl _)
 simp only at hbr
 have hl:=hprd.len
 refine ⟨(pressT T l).1,fun i=>goS T.c (readI (midT T)) (pressT T l).2.2 ⟨(pressT T l).1,(pressT T l).2.1,T.rounds,T.gone⟩ i,hl,?_,fun i hi=>?_,fun i hi=>⟨(hprd.same i hi).1,(hprd.same i hi).2.1⟩,fun i hi hgo=>?_,fun i hi ho=>?_⟩
 · rw [e]; show (brakeN _ _ _ _ _ _).cars.length=_; rw [hbr.1]; exact hl
 · rw [e]
   show (brakeN _ _ _ _ _ _).cars.getD i dC=_
   rw [hbr.2.1 i (by rw [hl]; exact hi)]
   have hb:Int.toNat ((pressT T l).1.getD i dC).spot.block<T.c.blocks.length:=(hp.car _ (List.mem_of_getElem? (getD_some (d:=dC) (by rw [hl]; exact hi)))).inC.2
   by_cases hg:goS T.c (readI (midT T)) (pressT T l).2.2 ⟨(pressT T l).1,(pressT T l).2.1,T.rounds,T.gone⟩ i=true
   · rw [if_pos ⟨hb,hg⟩,if_pos hg]
   · rw [if_neg (fun h=>hg h.2),if_neg hg]
 · have hb:=(hcar _ (List.mem_of_getElem? (getD_some (d:=dC) hi))).inC
   rw [goS] at hgo
   simp only [(hprd.same i hi).1] at hgo
   have hfr:=free_true (T:=midT T) hf1 hsp h.tok.nb.1 (ops:=(pressT T l).2.2) hb.2
   have hfr':freeB T.c (readI (midT T)) (pressT T l).2.2 (Int.toNat ((rollT T).getD i dC).spot.block)=true:=by
    simp only [Bool.and_eq_true] at hgo; exact hgo.1
   have hfr:freeB T.c (readI (midT T)) (pressT T l).2.2 (Int.toNat ((rollT T).getD i dC).spot.block)=(isI T.c (rollT T) 2 (Int.toNat ((rollT T).getD i dC).spot.block:Nat) && isI T.c (rollT T) 3 (Int.toNat ((rollT T).getD i dC).spot.block:Nat) && !((pressT T l).2.2.getD (Int.toNat ((rollT T).getD i dC).spot.block) false) && !(isI T.c (rollT T) 1 (nextB T.c (Int.toNat ((rollT T).getD i dC).spot.block):Nat))):=hfr
   rw [hfr'] at hfr
   have hfr:=hfr.symm
   simp only [Bool.and_eq_true,Bool.not_eq_true'] at hfr
   obtain ⟨⟨⟨-,q2⟩,q3⟩,q4⟩:=hfr
   have hbi:((Int.toNat ((rollT T).getD i dC).spot.block:Nat):Int)=((rollT T).getD i dC).spot.block:=by have:=hb.1; omega
   refine ⟨fun j hj hjb=>?_,?_⟩
   · rw [isI,if_pos rfl] at q4
     have:=(any_iff (p:=fun x:Car=>x.spot.block == ((nextB T.c (Int.toNat ((rollT T).getD i dC).spot.block):Nat):Int))).2 ⟨j,hj,by simp only [beq_iff_eq]; exact hjb⟩
     rw [q4] at this; cases this
   · rw [Bool.eq_false_iff]
     intro ho
     rcases hprd.opn i hi ho with w | ⟨w,-⟩
     · rw [isI,if_neg (by omega),if_neg (by omega),hbi,Bool.not_eq_true'] at q2
       have:=(any_iff (p:=fun x:Car=>x.spot.block == ((rollT T).getD i dC).spot.block && x.spot.opn)).2 ⟨i,hi,by simp only [beq_self_eq_true,w]; rfl⟩
       rw [q2] at this; cases this
     · rw [q3] at w; cases w
 · rcases hprd.opn i hi ho with w | w
   · exact .inl w
   · exact .inr w.2
theorem Moved.ns {c:Cir} {r s r':List Car} {go:Nat→Bool} (h:Moved c r s r' go) (hn:NoShare r) (hin:∀ x ∈ r,InC c x.spot.block):NoShare r':=by
 have blk:∀ i,i<r.length→(r'.getD i dC).spot.block=if go i=true then ((nextB c (Int.toNat (r.getD i dC).spot.block):Nat):Int) else (r.getD i dC).spot.block:=fun i hi=>by
  rw [h.each i hi]
  split
  · simp only [mvC,(h.same i hi).1]
  · exact (h.same i hi).1
 intro i j hij hj
 rw [h.len'] at hj
 have hi:i<r.length:=by omega
 rw [blk i hi,blk j hj]
 have h1:=hin _ (List.mem_of_getElem? (getD_some (d:=dC) hi))
 have h2:=hin _ (List.mem_of_getElem? (getD_some (d:=dC) hj))
 split
 · rename_i gi
   split
   · intro e
     have:=next_inj h1.2 h2.2 (by simp only [nextB] at e; omega)
     exact hn i j hij hj (by have:=h1.1; have:=h2.1; omega)
   · exact fun e=>(h.free i hi gi).1 j hj e.symm
 · split
   · rename_i gj
     exact (h.free j hj gj).1 i hi
   · exact hn i j hij hj
theorem Moved.rest {c:Cir} {r s r':List Car} {go:Nat→Bool} (h:Moved c r s r' go) (hr:∀ x ∈ r,x.spot.opn=true→restI c x=true):∀ x ∈ r',x.spot.opn=true→restI c x=true:=fun x hx ho=>by
 obtain ⟨i,hi⟩:=List.getElem?_of_mem hx
 have hil:i<r.length:=by rw [← h.len']; exact (List.getElem?_eq_some_iff.1 hi).1
 have e:r'.getD i dC=x:=getD_of hi
 rw [← e,h.each i hil] at ho ⊢
 split at ho
 · rename_i hg
   have:=(h.free i hil hg).2
   simp only [mvC,this] at ho; cases ho
 · rename_i hg
   rw [if_neg hg]
   have hs:=h.same i hil
   have:restI c (s.getD i dC)=restI c (r.getD i dC):=by simp only [restI,hs.1,hs.2]
   rw [this]
   rcases h.opn i hil ho with w | w
   · exact hr _ (List.mem_of_getElem? (getD_some (d:=dC) hil)) w
   · exact w
theorem Inv.act {T:Trk} {B:Int} {l:List Prs} (h:Inv T B) (hpr:PrsIn T.c l):NoShare (actT T l).cars∧(∀ x ∈ (actT T l).cars,x.spot.opn=true→restI T.c x=true)∧(actT T l).cars.length=T.cars.length:=by
 by_cases hs:stopT T<0
 · obtain ⟨s,go,hm⟩:=act_moved h hpr hs
   exact ⟨hm.ns (rollT_ns h.ns) fun x hx=>(rollT_car h.tok x hx).inC,hm.rest (roll_rest h.rest),by rw [hm.len',rollT_len]⟩
 · have e:actT T l=⟨rollT T,T.gos,T.rounds,T.gone⟩:=by unfold actT; rw [if_neg hs]
   rw [e]
   exact ⟨rollT_ns h.ns,roll_rest h.rest,rollT_len⟩
theorem Inv.eq {T:Trk} {B:Int} {l:List Prs} (h:Inv T B):stepT T l=⟨T.c,T.faults,(actT T l).cars,(actT T l).gos,T.tick+1,stopT T,crashed T.c (actT T l).cars,(actT T l).rounds,(actT T l).gone⟩:=by
 unfold stepT; rw [if_neg (by rw [h.w]; simp)]
theorem Inv.step {T:Trk} {B:Int} {l:List Prs} (h:Inv T B) (hpr:PrsIn T.c l):Inv (stepT T l) (B+1):=by
 obtain ⟨a1,a2,a3⟩:=h.act hpr
 have htt:=step_tt (l:=l) h.tt h.tok
 refine ⟨step_tok h.tok,htt,?_,?_,by rw [step_f]; exact h.f1⟩
 · rw [htt.wr,crash_wreck htt.ct]
   refine wreck_no ?_ ?_
   · rw [h.eq]; exact a1
   · rw [h.eq]; exact a2
 · rw [h.eq]; exact a2
theorem Inv.run {T:Trk} {B:Int} {l:Nat→List Prs} (h:Inv T B) (hpr:∀ n,PrsIn T.c (l n)):∀ {n:Nat},Inv (runT T l n) (B+n)
 | 0=>by rw [show B+((0:Nat):Int)=B by omega]; exact h
 | n+1=>by
  have:=(Inv.run h hpr (n:=n)).step (l:=l n) (by rw [run_c]; exact hpr n)
  rw [show B+((n+1:Nat):Int)=B+n+1 by omega]
  exact this
theorem Inv.run_len {T:Trk} {B:Int} {l:Nat→List Prs} (h:Inv T B) (hpr:∀ n,PrsIn T.c (l n)):∀ {n:Nat},(runT T l n).cars.length=T.cars.length
 | 0=>rfl
 | n+1=>by
  have hi:=h.run hpr (n:=n)
  have:=(hi.act (l:=l n) (by rw [run_c]; exact hpr n)).2.2
  show (stepT (runT T l n) (l n)).cars.length=_
  rw [hi.eq]
  exact this.trans (Inv.run_len h hpr)
theorem new_inv {c:Cir} {f:List Flt} (hk:ChkIn c) (hf:f.length≤1) (hc:∀ x ∈ f,x.chan=0 ∨ x.chan=1):Inv (newT c f) 30:=by
 refine ⟨new_tok hk (by omega) hc,new_tt hk (new_ns hk),rfl,fun x hx ho=>?_,hf⟩
 obtain ⟨b,hb,rfl⟩:=List.mem_map.1 hx
 cases ho
theorem play_inv {c:Cir} {ticks:Int} {l:List Prs} {f:List Flt} (h:PlayIn c ticks l f) (hf:f.length≤1) {n:Nat}:Inv (playT c f l n) (30+n) :=
 (new_inv h.chk hf fun x hx=>by have:=(h.fl x hx).2.2.1; omega).run fun _=>h.prs
theorem play_len {c:Cir} {ticks:Int} {l:List Prs} {f:List Flt} (h:PlayIn c ticks l f) (hf:f.length≤1) {n:Nat}:(playT c f l n).cars.length=c.cars.length:=by
 have:=(new_inv h.chk hf fun x hx=>by have:=(h.fl x hx).2.2.1; omega).run_len (l:=fun _=>l) (fun _=>h.prs) (n:=n)
 rw [show (playT c f l n).cars.length=(newT c f).cars.length from this]
 simp [newT]
end Go.Proofs.Ytgdfkjjgdkejfaa
namespace Go.Proofs.Ytgdfkjjgdkejfaa
open Go Ax
open Go.Proofs
theorem playK_zero {c:Cir} {ticks:Int} {l:List Prs} {f:List Flt} (h:(playK c ticks l f).2=0):checkP c ticks l f=0:=by
 unfold playK at h
 split at h
 · assumption
 · exact h
theorem rows_eq {c:Cir} {ticks:Int} {l:List Prs} {f:List Flt} (h:checkP c ticks l f=0):(playK c ticks l f).1=(List.range (Int.toNat ticks)).map fun i=>(playT c f l (i+1)).cars.map Car.spot:=by rw [playK,if_pos h]
theorem rows_len {c:Cir} {ticks:Int} {l:List Prs} {f:List Flt} (h:checkP c ticks l f=0):(playK c ticks l f).1.length=Int.toNat ticks:=by rw [rows_eq h]; simp
theorem rows_at {c:Cir} {ticks:Int} {l:List Prs} {f:List Flt} (h:checkP c ticks l f=0) {t:Nat} (ht:t<Int.toNat ticks):(playK c ticks l f).1[t]?=some ((playT c f l (t+1)).cars.map Car.spot):=by
 rw [rows_eq h,List.getElem?_map,List.getElem?_range ht]; rfl
/-- A row of a safe ride. -/
structure RowOk (c:Cir) (r:List Spt):Prop where
 len:r.length=c.cars.length
 ok:∀ x ∈ r,spotOk c x=true
 rest:∀ x ∈ r,x.opn=true→x.ran=(bkAt c x.block).time
 ns:∀ i j,i<j→j<r.length→(r.getD i dS).block ≠ (r.getD j dS).block
/-! ### When the ride is stopped -/
/-! ### A fault that is never seen -/
structure Sim (T T':Trk):Prop where
 c:T.c=T'.c
 cars:T.cars=T'.cars
 gos:T.gos=T'.gos
 tick:T.tick=T'.tick
 wr:T.wrecked=T'.wrecked
 s:T.stopped<0
 s':T'.stopped<0
theorem said_val {T:Trk} (h1:T.faults.length≤1) {k b:Int} (hs:splitI (saidV T k b)=false):saidV T k b=⟨b2i (isI T.c T.cars k b),b2i (isI T.c T.cars k b)⟩:=by
 have a:=said_true h1 hs
 cases h:saidV T k b with
 | mk x y=>rw [h] at a; simp only at a; rw [a.1,a.2]
theorem said_sound {T T':Trk} (h1:T.faults.length≤1) (h1':T'.faults.length≤1) (hs:anySplit (readI T)=false) (hs':anySplit (readI T')=false) (hc:T.c=T'.c) (hx:T.cars=T'.cars):readI T=readI T':=by
 have key:∀ k,k<3→saidsI T ((k+1:Nat):Int)=saidsI T' ((k+1:Nat):Int):=fun k hk=>by
  rw [saidsI,saidsI,← hc]
  refine List.map_congr_left fun b hb=>?_
  have hb:=List.mem_range.1 hb
  rw [said_val h1 (split_at hs hk hb),said_val h1' (split_at hs' hk (b:=b) (by rw [← hc]; exact hb)),hc,hx]
 rw [readI,readI]
 have k1:=key 0 (by omega)
 have k2:=key 1 (by omega)
 have k3:=key 2 (by omega)
 have k1:saidsI T 1=saidsI T' 1:=k1
 have k2:saidsI T 2=saidsI T' 2:=k2
 have k3:saidsI T 3=saidsI T' 3:=k3
 rw [k1,k2,k3]
theorem Sim.step {T T':Trk} {l:List Prs} (h:Sim T T') (h1:T.faults.length≤1) (h1':T'.faults.length≤1) (ht:0≤T.tick) (hs:(stepT T l).stopped<0) (hs':(stepT T' l).stopped<0):Sim (stepT T l) (stepT T' l):=by
 have ht':0≤T'.tick:=by rw [← h.tick]; exact ht
 by_cases hw:T.wrecked=true
 · have e:stepT T l=⟨T.c,T.faults,T.cars,T.gos,T.tick+1,T.stopped,T.wrecked,T.rounds,T.gone⟩:=by unfold stepT; rw [if_pos hw]
   have e':stepT T' l=⟨T'.c,T'.faults,T'.cars,T'.gos,T'.tick+1,T'.stopped,T'.wrecked,T'.rounds,T'.gone⟩:=by unfold stepT; rw [if_pos (by rw [← h.wr]; exact hw)]
   rw [e,e']
   exact ⟨h.c,h.cars,h.gos,by simp only; rw [h.tick],h.wr,h.s,h.s'⟩
 · have e:stepT T l=⟨T.c,T.faults,(actT T l).cars,(actT T l).gos,T.tick+1,stopT T,crashed T.c (actT T l).cars,(actT T l).rounds,(actT T l).gone⟩:=by unfold stepT; rw [if_neg hw]
   have e':stepT T' l=⟨T'.c,T'.faults,(actT T' l).cars,(actT T' l).gos,T'.tick+1,stopT T',crashed T'.c (actT T' l).cars,(actT T' l).rounds,(actT T' l).gone⟩:=by unfold stepT; rw [if_neg (by rw [← h.wr]; exact hw)]
   have s1:stopT T<0:=by rw [e] at hs; exact hs
   have s2:stopT T'<0:=by rw [e'] at hs'; exact hs'
   have sp:∀ {T:Trk},stopT T<0→0≤T.tick→anySplit (readI (midT T))=false:=fun {T} q q'=>by
    unfold stopT at q
    split at q
    · split at q
      · omega
      · rename_i hh; exact Bool.eq_false_iff.2 hh
    · rename_i h0; exact absurd q h0
   have hr:rollT T=rollT T':=by simp only [rollT,h.c,h.cars,h.tick]
   have hrd:readI (midT T)=readI (midT T'):=said_sound (T:=midT T) (T':=midT T') h1 h1' (sp s1 ht) (sp s2 ht') h.c hr
   have hp:pressT T l=pressT T' l:=by unfold pressT; rw [hrd,hr,h.c,h.tick,h.gos]
   have hact:(actT T l).cars=(actT T' l).cars∧(actT T l).gos=(actT T' l).gos:=by
    unfold actT
    rw [if_pos s1,if_pos s2]
    unfold brakeT
    rw [hrd,hp,h.c]
    exact brake_like (s:=⟨(pressT T' l).1,(pressT T' l).2.1,T.rounds,T.gone⟩) (s':=⟨(pressT T' l).1,(pressT T' l).2.1,T'.rounds,T'.gone⟩) rfl rfl
   rw [e,e']
   exact ⟨h.c,hact.1,hact.2,by simp only; rw [h.tick],by simp only; rw [hact.1,h.c],s1,s2⟩
end Go.Proofs.Ytgdfkjjgdkejfaa
namespace Go.Proofs.Ytgdfkjjgdkejfaa
open Go Ax
open Go.Proofs
def cyc (n x y:Int):Int:=Int.tmod ((y - x)+n) n
def Cyc (n x y D:Int):Prop:=0≤D∧D<n∧(D=y - x ∨ D=y - x+n)
theorem cyc_spec {n x y:Int} (hx:0≤x∧x<n) (hy:0≤y∧y<n):Cyc n x y (cyc n x y):=by
 unfold cyc Cyc
 rw [Int.tmod_eq_emod_of_nonneg (by omega)]
 refine ⟨Int.emod_nonneg _ (by omega),Int.emod_lt_of_pos _ (by omega),?_⟩
 rcases Int.lt_or_le y x with h | h
 · right; rw [Int.emod_eq_of_lt (by omega) (by omega)]
 · left; rw [Int.add_emod_right,Int.emod_eq_of_lt (by omega) (by omega)]
def Mv (n p q m:Int):Prop:=(m=0∧q=p) ∨ (m=1∧((q=p+1∧p+1<n) ∨ (q=0∧p+1=n)))
theorem dist_step {n pi pk qi qk mi mk D D':Int} (hD:Cyc n pi pk D) (hD':Cyc n qi qk D') (hi:Mv n pi qi mi) (hk:Mv n pk qk mk) (ri:0≤pi∧pi<n) (rk:0≤pk∧pk<n) (ne:pi ≠ pk) (fi:mi=1→qi ≠ pk) (fk:mk=1→qk ≠ pi):D'=D+mk - mi:=by
 unfold Cyc at hD hD'
 unfold Mv at hi hk
 rcases hi with ⟨rfl,rfl⟩ | ⟨rfl,hi⟩ <;> rcases hk with ⟨rfl,rfl⟩ | ⟨rfl,hk⟩
 · omega
 · have:=fk rfl; omega
 · have:=fi rfl; omega
 · have:=fk rfl; have:=fi rfl; omega
theorem order_step {n pi pk pm qk qm mi mk mm D D2:Int} (hD:Cyc n pi pk D) (hD2:Cyc n pi pm D2) (hk:Mv n pk qk mk) (hm:Mv n pm qm mm) (ne:pk ≠ pm) (fk:mk=1→qk ≠ pm) (fm:mm=1→qm ≠ pk) (rk:0≤pk∧pk<n) (rm:0≤pm∧pm<n):(D<D2) ↔ (D+mk - mi<D2+mm - mi):=by
 unfold Cyc at hD hD2
 unfold Mv at hk hm
 rcases hk with ⟨rfl,rfl⟩ | ⟨rfl,hk⟩ <;> rcases hm with ⟨rfl,rfl⟩ | ⟨rfl,hm⟩
 · omega
 · have:=fm rfl; omega
 · have:=fk rfl; omega
 · have:=fk rfl; have:=fm rfl; omega
def blkA (T:Trk) (i:Nat):Int:=(T.cars.getD i dC).spot.block
theorem blocks_step {T:Trk} {B:Int} {l:List Prs} (h:Inv T B) (hpr:PrsIn T.c l):∃ m:Nat→Int,∀ i,i<T.cars.length →
 Mv T.c.blocks.length (blkA T i) (blkA (stepT T l) i) (m i)∧(m i=1→∀ j,j<T.cars.length→blkA (stepT T l) i ≠ blkA T j):=by
 have hrb:∀ i,i<T.cars.length→((rollT T).getD i dC).spot.block=blkA T i:=fun i hi=>by
  unfold rollT blkA
  split
  · rw [getD_map (d:=dC) hi,roll_block]
  · rfl
 have hbl:∀ i,blkA (stepT T l) i=((actT T l).cars.getD i dC).spot.block:=fun i=>by rw [h.eq]; rfl
 by_cases hs:stopT T<0
 · obtain ⟨s,go,hm⟩:=act_moved h hpr hs
   refine ⟨fun i=>if go i=true then 1 else 0,fun i hi=>?_⟩
   have hi':i<(rollT T).length:=by rw [rollT_len]; exact hi
   have hin:=(rollT_car h.tok _ (List.mem_of_getElem? (getD_some (d:=dC) hi'))).inC
   rw [hbl,hm.each i hi']
   have hsm:=(hm.same i hi').1
   by_cases hg:go i=true
   · dsimp only
     rw [if_pos hg,if_pos hg]
     have hb:((mvC T.c (s.getD i dC)).spot.block)=((nextB T.c (Int.toNat ((rollT T).getD i dC).spot.block):Nat):Int):=by simp only [mvC,hsm]
     refine ⟨.inr ⟨rfl,?_⟩,fun _ j hj=>?_⟩
     · rw [hb,← hrb i hi]
       unfold nextB
       have a:=hin.1
       have b:=hin.2
       rcases Nat.lt_or_ge (Int.toNat ((rollT T).getD i dC).spot.block+1) T.c.blocks.length with w | w
       · rw [Nat.mod_eq_of_lt w]; left; omega
       · rw [show Int.toNat ((rollT T).getD i dC).spot.block+1=T.c.blocks.length by omega,Nat.mod_self]; right; omega
     · rw [hb,← hrb j hj]
       exact fun e=>(hm.free i hi' hg).1 j (by rw [rollT_len]; exact hj) e.symm
   · dsimp only
     rw [if_neg hg,if_neg hg]
     exact ⟨.inl ⟨rfl,by rw [hsm,hrb i hi]⟩,fun e=>by omega⟩
 · have e:actT T l=⟨rollT T,T.gos,T.rounds,T.gone⟩:=by unfold actT; rw [if_neg hs]
   refine ⟨fun _=>0,fun i hi=>⟨.inl ⟨rfl,?_⟩,fun e=>absurd (show (0:Int)=1 from e) (by decide)⟩⟩
   rw [hbl,e]; exact hrb i hi
theorem blk_in {T:Trk} {B:Int} (h:Inv T B) {i:Nat} (hi:i<T.cars.length):0≤blkA T i∧blkA T i<T.c.blocks.length:=by
 have:=(h.tok.car _ (List.mem_of_getElem? (getD_some (d:=dC) hi))).inC
 have a:=this.1
 have b:=this.2
 exact ⟨a,by unfold blkA; omega⟩
theorem blk_ne {T:Trk} {B:Int} (h:Inv T B) {i j:Nat} (hi:i<T.cars.length) (hj:j<T.cars.length) (hne:i ≠ j):blkA T i ≠ blkA T j:=fun e=>hne (h.ns.uniq hi hj e)
theorem order_one {T:Trk} {B:Int} {l:List Prs} (h:Inv T B) (hpr:PrsIn T.c l) {i k m:Nat} (hi:i<T.cars.length) (hk:k<T.cars.length) (hm:m<T.cars.length) (ik:i ≠ k) (im:i ≠ m) (km:k ≠ m) :
 (cyc T.c.blocks.length (blkA T i) (blkA T k)<cyc T.c.blocks.length (blkA T i) (blkA T m)) ↔ (cyc T.c.blocks.length (blkA (stepT T l) i) (blkA (stepT T l) k)<cyc T.c.blocks.length (blkA (stepT T l) i) (blkA (stepT T l) m)):=by
 obtain ⟨mv,hmv⟩:=blocks_step h hpr
 have hn:=h.step hpr
 have hl:(stepT T l).cars.length=T.cars.length:=by rw [h.eq]; exact (h.act hpr).2.2
 have bi:=blk_in h hi
 have bk:=blk_in h hk
 have bm:=blk_in h hm
 have ci:=blk_in hn (by rw [hl]; exact hi)
 have ck:=blk_in hn (by rw [hl]; exact hk)
 have cm:=blk_in hn (by rw [hl]; exact hm)
 rw [step_c] at ci ck cm
 have d1:=dist_step (cyc_spec bi bk) (cyc_spec ci ck) (hmv i hi).1 (hmv k hk).1 bi bk (blk_ne h hi hk ik) (fun q=>(hmv i hi).2 q k hk) (fun q=>(hmv k hk).2 q i hi)
 have d2:=dist_step (cyc_spec bi bm) (cyc_spec ci cm) (hmv i hi).1 (hmv m hm).1 bi bm (blk_ne h hi hm im) (fun q=>(hmv i hi).2 q m hm) (fun q=>(hmv m hm).2 q i hi)
 rw [d1,d2]
 exact order_step (cyc_spec bi bk) (cyc_spec bi bm) (hmv k hk).1 (hmv m hm).1 (blk_ne h hk hm km) (fun q=>(hmv k hk).2 q m hm) (fun q=>(hmv m hm).2 q k hk) bk bm
theorem order_run {c:Cir} {ticks:Int} {l:List Prs} {f:List Flt} (h:PlayIn c ticks l f) (hf:f.length≤1) {i k m:Nat} (hi:i<c.cars.length) (hk:k<c.cars.length) (hm:m<c.cars.length) (ik:i ≠ k) (im:i ≠ m) (km:k ≠ m):∀ {n:Nat},
 (cyc c.blocks.length (blkA (playT c f l 0) i) (blkA (playT c f l 0) k)<cyc c.blocks.length (blkA (playT c f l 0) i) (blkA (playT c f l 0) m)) ↔ (cyc c.blocks.length (blkA (playT c f l n) i) (blkA (playT c f l n) k)<cyc c.blocks.length (blkA (playT c f l n) i) (blkA (playT c f l n) m))
 | 0=>Iff.rfl
 | n+1=>by
  have hl:=play_len h hf (n:=n)
  have:=order_one (play_inv h hf (n:=n)) (l:=l) (by rw [play_c]; exact h.prs) (i:=i) (k:=k) (m:=m) (by omega) (by omega) (by omega) ik im km
  rw [play_c] at this
  exact (order_run h hf hi hk hm ik im km).trans this
theorem blk_zero {c:Cir} {f:List Flt} {l:List Prs} {i:Nat} (hi:i<c.cars.length):blkA (playT c f l 0) i=c.cars.getD i 0:=by
 show ((newT c f).cars.getD i dC).spot.block=_
 simp only [newT]
 rw [getD_map (d:=0) hi]
theorem later_step {T:Trk} {l:List Prs} {p:Prs} (h:T.tick<p.at_):stepT T (l++[p])=stepT T l:=by
 have:pressT T (l++[p])=pressT T l:=by
  unfold pressT
  rw [List.foldl_append]
  simp only [List.foldl_cons,List.foldl_nil]
  rw [pressIf,if_neg (by omega)]
 unfold stepT actT brakeT
 rw [this]
theorem later_run {c:Cir} {f:List Flt} {l:List Prs} {p:Prs}:∀ {n:Nat},(n:Int)≤p.at_→playT c f (l++[p]) n=playT c f l n
 | 0,_=>rfl
 | n+1,h=>by
  have ih:=later_run (c:=c) (f:=f) (l:=l) (p:=p) (n:=n) (by omega)
  show stepT (playT c f (l++[p]) n) (l++[p])=stepT (playT c f l n) l
  rw [ih,later_step]
  rw [play_tick]; omega
theorem f7b:Try.f7.body=some (bodyAt Try.prog 7):=by kernel_rfl
def f7K0 (P:Program):List Item:=kAt 400 [.code (bodyAt P 7)] [.b false,.b false,.stop]
def f7S0 (c:Cir) (s:Scr) (p:Prs) (t:Nat):St:=⟨([J,J,J,.ptr 0 0 0,.ptr 1 0 0,.ptr 2 0 0,J,.rsl ((rowLs rowSpt) ((playK c s.ticks s.presses s.faults).1)) 0 (((playK c s.ticks s.presses s.faults).1).length),J,.int .i64 (c.blocks.length:Int),.int .i64 (t:Int)]++Js 214),[⟨true,0,1,true,[.rsl (rowBk c.blocks) 0 c.blocks.length,.rsl (rowI c.cars) 0 c.cars.length],false⟩,⟨true,0,1,true,[.int .i64 s.ticks,.rsl (rowPrs s.presses) 0 s.presses.length,.rsl (rowFlt s.faults) 0 s.faults.length],false⟩,⟨true,0,1,true,[.int .i64 p.at_,.int .i64 p.kind,.int .i64 p.block],false⟩]⟩
def f7G0 (E:Env) (c:Cir) (s:Scr) (p:Prs) (t:Nat):Prop:=G Try.prog E (f7K0 Try.prog) (f7S0 c s p t )
def f7K1 (P:Program):List Item:=kAt 400 [.code (bodyAt P 7)] [.b false,.b false,.b true,.b false,.stop]
def f7S1 (c:Cir) (s:Scr) (p:Prs) (t:Nat) (i:Nat):St:=⟨([J,J,J,.ptr 0 0 0,.ptr 1 0 0,.ptr 2 0 0,J,.rsl ((rowLs rowSpt) ((playK c s.ticks s.presses s.faults).1)) 0 (((playK c s.ticks s.presses s.faults).1).length),J,.int .i64 (c.blocks.length:Int),.int .i64 (t:Int),.int .i64 (i:Int)]++Js 213),[⟨true,0,1,true,[.rsl (rowBk c.blocks) 0 c.blocks.length,.rsl (rowI c.cars) 0 c.cars.length],false⟩,⟨true,0,1,true,[.int .i64 s.ticks,.rsl (rowPrs s.presses) 0 s.presses.length,.rsl (rowFlt s.faults) 0 s.faults.length],false⟩,⟨true,0,1,true,[.int .i64 p.at_,.int .i64 p.kind,.int .i64 p.block],false⟩]⟩
def f7G1 (E:Env) (c:Cir) (s:Scr) (p:Prs) (t:Nat) (i:Nat):Prop:=G Try.prog E (f7K1 Try.prog) (f7S1 c s p t i )
def f7K2 (P:Program):List Item:=kAt 400 [.code (bodyAt P 7)] [.b false,.b false,.b true,.b false,.b true,.stop]
def f7S2 (c:Cir) (s:Scr) (p:Prs) (t:Nat) (i:Nat) (k:Nat):St:=⟨([J,J,J,.ptr 0 0 0,.ptr 1 0 0,.ptr 2 0 0,J,.rsl ((rowLs rowSpt) ((playK c s.ticks s.presses s.faults).1)) 0 (((playK c s.ticks s.presses s.faults).1).length),J,.int .i64 (c.blocks.length:Int),.int .i64 (t:Int),.int .i64 (i:Int),.int .i64 (k:Int)]++Js 212),[⟨true,0,1,true,[.rsl (rowBk c.blocks) 0 c.blocks.length,.rsl (rowI c.cars) 0 c.cars.length],false⟩,⟨true,0,1,true,[.int .i64 s.ticks,.rsl (rowPrs s.presses) 0 s.presses.length,.rsl (rowFlt s.faults) 0 s.faults.length],false⟩,⟨true,0,1,true,[.int .i64 p.at_,.int .i64 p.kind,.int .i64 p.block],false⟩]⟩
def f7G2 (E:Env) (c:Cir) (s:Scr) (p:Prs) (t:Nat) (i:Nat) (k:Nat):Prop:=G Try.prog E (f7K2 Try.prog) (f7S2 c s p t i k )
def f7K3 (P:Program):List Item:=kAt 400 [.code (bodyAt P 7)] [.b false,.b false,.b true,.b false,.b true,.b true,.stop]
def f7S3 (c:Cir) (s:Scr) (p:Prs) (t:Nat) (i:Nat) (m:Nat) (k:Nat):St:=⟨([J,J,J,.ptr 0 0 0,.ptr 1 0 0,.ptr 2 0 0,J,.rsl ((rowLs rowSpt) ((playK c s.ticks s.presses s.faults).1)) 0 (((playK c s.ticks s.presses s.faults).1).length),J,.int .i64 (c.blocks.length:Int),.int .i64 (t:Int),.int .i64 (i:Int),.int .i64 (k:Int),.int .i64 (m:Int)]++Js 211),[⟨true,0,1,true,[.rsl (rowBk c.blocks) 0 c.blocks.length,.rsl (rowI c.cars) 0 c.cars.length],false⟩,⟨true,0,1,true,[.int .i64 s.ticks,.rsl (rowPrs s.presses) 0 s.presses.length,.rsl (rowFlt s.faults) 0 s.faults.length],false⟩,⟨true,0,1,true,[.int .i64 p.at_,.int .i64 p.kind,.int .i64 p.block],false⟩]⟩
def f7G3 (E:Env) (c:Cir) (s:Scr) (p:Prs) (t:Nat) (i:Nat) (m:Nat) (k:Nat):Prop:=G Try.prog E (f7K3 Try.prog) (f7S3 c s p t i m k )
def f7K4 (P:Program):List Item:=kAt 400 [.code (bodyAt P 7)] [.b false,.b false,.b false,.b false,.b false,.stop]
def f7S4 (c:Cir) (s:Scr) (p:Prs) (t:Nat):St:=⟨(jj 5 ([.ptr 2 0 0,J,.rsl ((rowLs rowSpt) ((playK c s.ticks s.presses s.faults).1)) 0 (((playK c s.ticks s.presses s.faults).1).length)]++jj 9 ([.rsl ((rowLs rowSpt) ((playK c (⟨s.ticks,(s.presses++[p]),s.faults⟩:Scr).ticks (⟨s.ticks,(s.presses++[p]),s.faults⟩:Scr).presses (⟨s.ticks,(s.presses++[p]),s.faults⟩:Scr).faults).1)) 0 (((playK c (⟨s.ticks,(s.presses++[p]),s.faults⟩:Scr).ticks (⟨s.ticks,(s.presses++[p]),s.faults⟩:Scr).presses (⟨s.ticks,(s.presses++[p]),s.faults⟩:Scr).faults).1).length),J,.int .i64 (t:Int)]++Js 205))),[⟨true,0,1,true,[.rsl (rowBk c.blocks) 0 c.blocks.length,.rsl (rowI c.cars) 0 c.cars.length],false⟩,⟨true,0,1,true,[.int .i64 s.ticks,.rsl (rowPrs s.presses) 0 s.presses.length,.rsl (rowFlt s.faults) 0 s.faults.length],false⟩,⟨true,0,1,true,[.int .i64 p.at_,.int .i64 p.kind,.int .i64 p.block],false⟩,⟨false,3,3,true,[],false⟩,⟨true,0,3,true,[.int .i64 p.at_,.int .i64 p.kind,.int .i64 p.block],true⟩,⟨true,0,1,false,[.int .i64 s.ticks,.sl 3 2 0 ((0+s.presses.length)+1) 3,.rsl (rowFlt s.faults) 0 s.faults.length],false⟩]⟩
def f7G4 (E:Env) (c:Cir) (s:Scr) (p:Prs) (t:Nat):Prop:=G Try.prog E (f7K4 Try.prog) (f7S4 c s p t )
abbrev z7_2 (c:Cir):List AV:=[.rsl (rowBk c.blocks) 0 c.blocks.length,.rsl (rowI c.cars) 0 c.cars.length]
abbrev z7_3 (s:Scr):List AV:=[.int .i64 s.ticks,.rsl (rowPrs s.presses) 0 s.presses.length,.rsl (rowFlt s.faults) 0 s.faults.length]
abbrev z7_6 (p:Prs):List AV:=[.int .i64 p.at_,.int .i64 p.kind,.int .i64 p.block]
abbrev z7_1 (c:Cir) (s:Scr) (p:Prs):List Blk:=[⟨true,0,1,true,(z7_2 c),false⟩,⟨true,0,1,true,(z7_3 s),false⟩,⟨true,0,1,true,(z7_6 p),false⟩]
abbrev z7_4 (c:Cir) (s:Scr) (p:Prs):AV:=.tup [.rsl ((rowLs rowSpt) ((playK c (⟨s.ticks,(s.presses++[p]),s.faults⟩:Scr).ticks (⟨s.ticks,(s.presses++[p]),s.faults⟩:Scr).presses (⟨s.ticks,(s.presses++[p]),s.faults⟩:Scr).faults).1)) 0 (((playK c (⟨s.ticks,(s.presses++[p]),s.faults⟩:Scr).ticks (⟨s.ticks,(s.presses++[p]),s.faults⟩:Scr).presses (⟨s.ticks,(s.presses++[p]),s.faults⟩:Scr).faults).1).length),.int .i64 ((playK c (⟨s.ticks,(s.presses++[p]),s.faults⟩:Scr).ticks (⟨s.ticks,(s.presses++[p]),s.faults⟩:Scr).presses (⟨s.ticks,(s.presses++[p]),s.faults⟩:Scr).faults).2)]
abbrev z7_5 (c:Cir) (s:Scr) (t:Nat) (i:Nat) (k:Nat) (m:Nat):List AV:=[J,J,J,.ptr 0 0 0,.ptr 1 0 0,.ptr 2 0 0,J,.rsl ((rowLs rowSpt) ((playK c s.ticks s.presses s.faults).1)) 0 (((playK c s.ticks s.presses s.faults).1).length),J,.int .i64 (c.blocks.length:Int),.int .i64 (t:Int),.int .i64 (i:Int),.int .i64 (k:Int),.int .i64 ((m:Int)+1)]++Js 211
abbrev z7_7 (c:Cir) (s:Scr):AV:=.tup [.rsl ((rowLs rowSpt) ((playK c s.ticks s.presses s.faults).1)) 0 (((playK c s.ticks s.presses s.faults).1).length),.int .i64 ((playK c s.ticks s.presses s.faults).2)]
abbrev z7_8 (c:Cir) (s:Scr):List AV:=[.ptr 2 0 0,J,.rsl ((rowLs rowSpt) ((playK c s.ticks s.presses s.faults).1)) 0 (((playK c s.ticks s.presses s.faults).1).length)]
theorem p7_start_0 (c:Cir) (s:Scr) (p:Prs) {E:Env} {res:AV} (hE:PureE Try.prog 7 res E) (ho:AllP [PureF Try.prog (.clos 15 [] []) [.agg (z7_2 c)] (.bool (farB c)),(farB c)=true,true=true,true=true,true=true,PureF Try.prog (.clos 17 [] []) [] (.bool true)])
 (hr:AvLe (.bool true) res):G Try.prog E [.code (bodyAt Try.prog 7)] ⟨[.agg (z7_2 c),.agg (z7_3 s),.agg (z7_6 p)]++unds (Try.f7.ntmps - 3),[]⟩ :=
 end_stepL (n:=400) (evs:=[.v (.bool (farB c)),.b true,.b true,.b true,.b true,.v (.bool true)]) (obs:=_) hE Try.func7 mixed (by kernel_rfl) ho hr
theorem p7_start_1 (c:Cir) (s:Scr) (p:Prs) {E:Env} {res:AV} (hE:PureE Try.prog 7 res E) (ho:AllP [PureF Try.prog (.clos 15 [] []) [.agg (z7_2 c)] (.bool (farB c)),(farB c)=false,PureF Try.prog (.clos 16 [] []) [.agg (z7_3 s)] (.bool (longB s)),(longB s)=true,true=true,true=true,PureF Try.prog (.clos 17 [] []) [] (.bool true)])
 (hr:AvLe (.bool true) res):G Try.prog E [.code (bodyAt Try.prog 7)] ⟨[.agg (z7_2 c),.agg (z7_3 s),.agg (z7_6 p)]++unds (Try.f7.ntmps - 3),[]⟩ :=
 end_stepL (n:=400) (evs:=[.v (.bool (farB c)),.b false,.v (.bool (longB s)),.b true,.b true,.b true,.v (.bool true)]) (obs:=_) hE Try.func7 mixed (by kernel_rfl) ho hr
theorem p7_start_2 (c:Cir) (s:Scr) (p:Prs) {E:Env} {res:AV} (hE:PureE Try.prog 7 res E) (ho:AllP [PureF Try.prog (.clos 15 [] []) [.agg (z7_2 c)] (.bool (farB c)),(farB c)=false,PureF Try.prog (.clos 16 [] []) [.agg (z7_3 s)] (.bool (longB s)),(longB s)=false,(decide ((s.faults.length:Int) > 1))=true,true=true,PureF Try.prog (.clos 17 [] []) [] (.bool true)])
 (hr:AvLe (.bool true) res):G Try.prog E [.code (bodyAt Try.prog 7)] ⟨[.agg (z7_2 c),.agg (z7_3 s),.agg (z7_6 p)]++unds (Try.f7.ntmps - 3),[]⟩ :=
 end_stepL (n:=400) (evs:=[.v (.bool (farB c)),.b false,.v (.bool (longB s)),.b false,.b true,.b true,.v (.bool true)]) (obs:=_) hE Try.func7 mixed (by kernel_rfl) ho hr
theorem p7_start_3 (c:Cir) (s:Scr) (p:Prs) {E:Env} {res:AV} (hE:PureE Try.prog 7 res E) (ho:AllP [PureF Try.prog (.clos 15 [] []) [.agg (z7_2 c)] (.bool (farB c)),(farB c)=false,PureF Try.prog (.clos 16 [] []) [.agg (z7_3 s)] (.bool (longB s)),(longB s)=false,(decide ((s.faults.length:Int) > 1))=false,PureF Try.prog (.clos 26 [] []) [.agg (z7_2 c)] (.int .i64 (checkC c)),((checkC c) != 0)=true,PureF Try.prog (.clos 17 [] []) [] (.bool true)])
 (hr:AvLe (.bool true) res):G Try.prog E [.code (bodyAt Try.prog 7)] ⟨[.agg (z7_2 c),.agg (z7_3 s),.agg (z7_6 p)]++unds (Try.f7.ntmps - 3),[]⟩ :=
 end_stepL (n:=400) (evs:=[.v (.bool (farB c)),.b false,.v (.bool (longB s)),.b false,.b false,.v (.int .i64 (checkC c)),.b true,.v (.bool true)]) (obs:=_) hE Try.func7 mixed (by kernel_rfl) ho hr
theorem p7_start_4 (c:Cir) (s:Scr) (p:Prs) {E:Env} {res:AV} (hE:PureE Try.prog 7 res E) (ho:AllP [PureF Try.prog (.clos 15 [] []) [.agg (z7_2 c)] (.bool (farB c)),(farB c)=false,PureF Try.prog (.clos 16 [] []) [.agg (z7_3 s)] (.bool (longB s)),(longB s)=false,(decide ((s.faults.length:Int) > 1))=false,PureF Try.prog (.clos 26 [] []) [.agg (z7_2 c)] (.int .i64 (checkC c)),((checkC c) != 0)=false,PureF Try.prog (.clos 25 [] []) [.agg (z7_2 c),.agg (z7_3 s)] (z7_7 c s),((playK c s.ticks s.presses s.faults).2 != 0)=true,PureF Try.prog (.clos 17 [] []) [] (.bool true)])
 (hr:AvLe (.bool true) res):G Try.prog E [.code (bodyAt Try.prog 7)] ⟨[.agg (z7_2 c),.agg (z7_3 s),.agg (z7_6 p)]++unds (Try.f7.ntmps - 3),[]⟩ :=
 end_stepL (n:=400) (evs:=[.v (.bool (farB c)),.b false,.v (.bool (longB s)),.b false,.b false,.v (.int .i64 (checkC c)),.b false,.v (.tup [.rsl ((rowLs rowSpt) ((playK c s.ticks s.presses s.faults).1)) 0 (((playK c s.ticks s.presses s.faults).1).length),.int .i64 ((playK c s.ticks s.presses s.faults).2)]),.b true,.v (.bool true)]) (obs:=_) hE Try.func7 mixed (by kernel_rfl) ho hr
theorem p7_start_5 (c:Cir) (s:Scr) (p:Prs) {E:Env} {rv:AV} (hE:PureE Try.prog 7 rv E) (ho:AllP [PureF Try.prog (.clos 15 [] []) [.agg (z7_2 c)] (.bool (farB c)),(farB c)=false,PureF Try.prog (.clos 16 [] []) [.agg (z7_3 s)] (.bool (longB s)),(longB s)=false,(decide ((s.faults.length:Int) > 1))=false,PureF Try.prog (.clos 26 [] []) [.agg (z7_2 c)] (.int .i64 (checkC c)),((checkC c) != 0)=false,PureF Try.prog (.clos 25 [] []) [.agg (z7_2 c),.agg (z7_3 s)] (z7_7 c s),((playK c s.ticks s.presses s.faults).2 != 0)=false])
 (hg:G Try.prog E (f7K0 Try.prog) ⟨([J,J,J,.ptr 0 0 0,.ptr 1 0 0,.ptr 2 0 0,J,.rsl ((rowLs rowSpt) ((playK c s.ticks s.presses s.faults).1)) 0 (((playK c s.ticks s.presses s.faults).1).length),J,.int .i64 (c.blocks.length:Int),.int .i64 0]++Js 214),(z7_1 c s p)⟩):G Try.prog E [.code (bodyAt Try.prog 7)] ⟨[.agg (z7_2 c),.agg (z7_3 s),.agg (z7_6 p)]++unds (Try.f7.ntmps - 3),[]⟩ :=
 segC_step (n:=400) (ds:=[]) (cs:=[]) (live:=[3,4,5,7,9,10]) (m:=3) (evs:=[.v (.bool (farB c)),.b false,.v (.bool (longB s)),.b false,.b false,.v (.int .i64 (checkC c)),.b false,.v (.tup [.rsl ((rowLs rowSpt) ((playK c s.ticks s.presses s.faults).1)) 0 (((playK c s.ticks s.presses s.faults).1).length),.int .i64 ((playK c s.ticks s.presses s.faults).2)]),.b false,.stop]) (obs:=_) hE.2.1 (hE.nogh _) mixed (by kernel_rfl) ho hg
theorem f7W (c:Cir) (s:Scr) (p:Prs) {E:Env} {rv:Bool} (hE:PureE Try.prog 7 (.bool rv) E)
 (h:(((farB c)=true→rv=true)∧((farB c)=false→(((longB s)=true→rv=true)∧((longB s)=false→(((s.faults.length:Int) > 1→rv=true)∧(¬ ((s.faults.length:Int) > 1)→((c.blocks.length≤9223372036854775807∧c.cars.length≤9223372036854775807)∧((¬ ((checkC c)=0)→rv=true)∧((checkC c)=0→(((c.blocks.length≤2147483648∧c.cars.length≤2147483648)∧s.presses.length≤2147483648∧s.faults.length≤2147483648)∧((¬ ((playK c s.ticks s.presses s.faults).2=0)→rv=true)∧((playK c s.ticks s.presses s.faults).2=0→f7G0 E c s p 0))))))))))))):G Try.prog E [.code (bodyAt Try.prog 7)] ⟨[.agg [.rsl (rowBk c.blocks) 0 c.blocks.length,.rsl (rowI c.cars) 0 c.cars.length],.agg [.int .i64 s.ticks,.rsl (rowPrs s.presses) 0 s.presses.length,.rsl (rowFlt s.faults) 0 s.faults.length],.agg [.int .i64 p.at_,.int .i64 p.kind,.int .i64 p.block]]++unds (Try.f7.ntmps - 3),[]⟩:=by
 rcases Bool.eq_false_or_eq_true (farB c) with hc0 | hc0
 · have h:=h.1 hc0
   exact p7_start_0 c s p hE ⟨(pureF_of Try.func15 (by kernel_rfl) f15b (far_ok c)),hc0,rfl,rfl,rfl,(pureF_of Try.func17 (by kernel_rfl) f17b works_ok),trivial⟩ (AvLe.of_eq (by rw [h]; try rfl))
 · have h:=h.2 hc0
   rcases Bool.eq_false_or_eq_true (longB s) with hc1 | hc1
   · have h:=h.1 hc1
     exact p7_start_1 c s p hE ⟨(pureF_of Try.func15 (by kernel_rfl) f15b (far_ok c)),hc0,(pureF_of Try.func16 (by kernel_rfl) f16b (long_ok s)),hc1,rfl,rfl,(pureF_of Try.func17 (by kernel_rfl) f17b works_ok),trivial⟩ (AvLe.of_eq (by rw [h]; try rfl))
   · have h:=h.2 hc1
     rcases Bool.eq_false_or_eq_true (decide ((s.faults.length:Int) > 1)) with hc2 | hc2
     · have h:=h.1 (of_decide_eq_true hc2)
       exact p7_start_2 c s p hE ⟨(pureF_of Try.func15 (by kernel_rfl) f15b (far_ok c)),hc0,(pureF_of Try.func16 (by kernel_rfl) f16b (long_ok s)),hc1,hc2,rfl,(pureF_of Try.func17 (by kernel_rfl) f17b works_ok),trivial⟩ (AvLe.of_eq (by rw [h]; try rfl))
     · have h:=h.2 (of_decide_eq_false hc2)
       obtain ⟨h1,h⟩:=h
       rcases Bool.eq_false_or_eq_true ((checkC c) != 0) with hc3 | hc3
       · have h:=h.1 (bneT hc3)
         exact p7_start_3 c s p hE ⟨(pureF_of Try.func15 (by kernel_rfl) f15b (far_ok c)),hc0,(pureF_of Try.func16 (by kernel_rfl) f16b (long_ok s)),hc1,hc2,(pureF_of Try.func26 (by kernel_rfl) f26b (checkR_ok c h1)),hc3,(pureF_of Try.func17 (by kernel_rfl) f17b works_ok),trivial⟩ (AvLe.of_eq (by rw [h]; try rfl))
       · have h:=h.2 (bneF hc3)
         obtain ⟨h2,h⟩:=h
         rcases Bool.eq_false_or_eq_true ((playK c s.ticks s.presses s.faults).2 != 0) with hc4 | hc4
         · have h:=h.1 (bneT hc4)
           exact p7_start_4 c s p hE ⟨(pureF_of Try.func15 (by kernel_rfl) f15b (far_ok c)),hc0,(pureF_of Try.func16 (by kernel_rfl) f16b (long_ok s)),hc1,hc2,(pureF_of Try.func26 (by kernel_rfl) f26b (checkR_ok c h1)),hc3,(pureF_of Try.func25 (by kernel_rfl) f25b (play25_ok c s h2)),hc4,(pureF_of Try.func17 (by kernel_rfl) f17b works_ok),trivial⟩ (AvLe.of_eq (by rw [h]; try rfl))
         · have h:=h.2 (bneF hc4)
           exact p7_start_5 c s p hE ⟨(pureF_of Try.func15 (by kernel_rfl) f15b (far_ok c)),hc0,(pureF_of Try.func16 (by kernel_rfl) f16b (long_ok s)),hc1,hc2,(pureF_of Try.func26 (by kernel_rfl) f26b (checkR_ok c h1)),hc3,(pureF_of Try.func25 (by kernel_rfl) f25b (play25_ok c s h2)),hc4,trivial⟩ h
theorem p7_0_0 (c:Cir) (s:Scr) (p:Prs) (t:Nat) (le:(List Spt)) {E:Env} {res:AV} (hE:PureE Try.prog 7 res E) (ho:AllP [(decide ((t:Int)<((((playK c s.ticks s.presses s.faults).1).length:Nat):Int)))=true,0≤(t:Int)∧(t:Int)<((((playK c s.ticks s.presses s.faults).1).length:Nat):Int),(((rowLs rowSpt) ((playK c s.ticks s.presses s.faults).1)).drop (0+(Int.toNat (t:Int))*1)).take 1=[.rsl (rowSpt le) 0 le.length],((le.length:Int) != (c.cars.length:Int))=true])
 (hr:AvLe (.bool false) res):G Try.prog E (f7K0 Try.prog) (f7S0 c s p t ) :=
 end_stepL (n:=400) (evs:=[.b true,.ld (.rsl (rowSpt le) 0 le.length),.b true]) (obs:=_) hE Try.func7 mixed (by kernel_rfl) ho hr
theorem p7_0_1 (c:Cir) (s:Scr) (p:Prs) (t:Nat) (le:(List Spt)) {E:Env} {rv:AV} (hE:PureE Try.prog 7 rv E) (ho:AllP [(decide ((t:Int)<((((playK c s.ticks s.presses s.faults).1).length:Nat):Int)))=true,0≤(t:Int)∧(t:Int)<((((playK c s.ticks s.presses s.faults).1).length:Nat):Int),(((rowLs rowSpt) ((playK c s.ticks s.presses s.faults).1)).drop (0+(Int.toNat (t:Int))*1)).take 1=[.rsl (rowSpt le) 0 le.length],((le.length:Int) != (c.cars.length:Int))=false])
 (hg:G Try.prog E (f7K1 Try.prog) ⟨([J,J,J,.ptr 0 0 0,.ptr 1 0 0,.ptr 2 0 0,J,.rsl ((rowLs rowSpt) ((playK c s.ticks s.presses s.faults).1)) 0 (((playK c s.ticks s.presses s.faults).1).length),J,.int .i64 (c.blocks.length:Int),.int .i64 (t:Int),.int .i64 0]++Js 213),(z7_1 c s p)⟩):G Try.prog E (f7K0 Try.prog) (f7S0 c s p t ) :=
 segC_step (n:=400) (ds:=[]) (cs:=[]) (live:=[3,4,5,7,9,10,11]) (m:=3) (evs:=[.b true,.ld (.rsl (rowSpt le) 0 le.length),.b false,.stop]) (obs:=_) hE.2.1 (hE.nogh _) mixed (by kernel_rfl) ho hg
theorem p7_0_2 (c:Cir) (s:Scr) (p:Prs) (t:Nat) {E:Env} {res:AV} (hE:PureE Try.prog 7 res E) (ho:AllP [(decide ((t:Int)<((((playK c s.ticks s.presses s.faults).1).length:Nat):Int)))=false,0=0,0=0,(0+s.presses.length)≤2147483648,((rowPrs s.presses).drop 0).take (s.presses.length*3)=(rowPrs s.presses),(rowPrs s.presses).length=(s.presses.length*3),noRefs (rowPrs s.presses)=true,1=1,(0+((0+s.presses.length)*3))=(rowPrs s.presses).length,((0+s.presses.length)+1)≤2147483648,0=0,3≤3,LentF Try.prog (.clos 25 [] []) [.agg (z7_2 c),.agg [.int .i64 s.ticks,.sl 0 2 0 ((0+s.presses.length)+1) 3,.rsl (rowFlt s.faults) 0 s.faults.length]] [⟨true,2,3,true,((rowPrs s.presses)++(z7_6 p)),true⟩] (z7_4 c s p) [⟨false,3,3,true,[],false⟩],((playK c (⟨s.ticks,(s.presses++[p]),s.faults⟩:Scr).ticks (⟨s.ticks,(s.presses++[p]),s.faults⟩:Scr).presses (⟨s.ticks,(s.presses++[p]),s.faults⟩:Scr).faults).2 != 0)=true,PureF Try.prog (.clos 17 [] []) [] (.bool true)])
 (hr:AvLe (.bool true) res):G Try.prog E (f7K0 Try.prog) (f7S0 c s p t ) :=
 end_stepL (n:=400) (evs:=[.b false,.cs (rowPrs s.presses),.lent [3] (.tup [.rsl ((rowLs rowSpt) ((playK c (⟨s.ticks,(s.presses++[p]),s.faults⟩:Scr).ticks (⟨s.ticks,(s.presses++[p]),s.faults⟩:Scr).presses (⟨s.ticks,(s.presses++[p]),s.faults⟩:Scr).faults).1)) 0 (((playK c (⟨s.ticks,(s.presses++[p]),s.faults⟩:Scr).ticks (⟨s.ticks,(s.presses++[p]),s.faults⟩:Scr).presses (⟨s.ticks,(s.presses++[p]),s.faults⟩:Scr).faults).1).length),.int .i64 ((playK c (⟨s.ticks,(s.presses++[p]),s.faults⟩:Scr).ticks (⟨s.ticks,(s.presses++[p]),s.faults⟩:Scr).presses (⟨s.ticks,(s.presses++[p]),s.faults⟩:Scr).faults).2)]) [⟨false,3,3,true,[],false⟩],.b true,.v (.bool true)]) (obs:=_) hE Try.func7 mixed (by kernel_rfl) ho hr
theorem p7_0_3 (c:Cir) (s:Scr) (p:Prs) (t:Nat) {E:Env} {res:AV} (hE:PureE Try.prog 7 res E) (ho:AllP [(decide ((t:Int)<((((playK c s.ticks s.presses s.faults).1).length:Nat):Int)))=false,0=0,0=0,(0+s.presses.length)≤2147483648,((rowPrs s.presses).drop 0).take (s.presses.length*3)=(rowPrs s.presses),(rowPrs s.presses).length=(s.presses.length*3),noRefs (rowPrs s.presses)=true,1=1,(0+((0+s.presses.length)*3))=(rowPrs s.presses).length,((0+s.presses.length)+1)≤2147483648,0=0,3≤3,LentF Try.prog (.clos 25 [] []) [.agg (z7_2 c),.agg [.int .i64 s.ticks,.sl 0 2 0 ((0+s.presses.length)+1) 3,.rsl (rowFlt s.faults) 0 s.faults.length]] [⟨true,2,3,true,((rowPrs s.presses)++(z7_6 p)),true⟩] (z7_4 c s p) [⟨false,3,3,true,[],false⟩],((playK c (⟨s.ticks,(s.presses++[p]),s.faults⟩:Scr).ticks (⟨s.ticks,(s.presses++[p]),s.faults⟩:Scr).presses (⟨s.ticks,(s.presses++[p]),s.faults⟩:Scr).faults).2 != 0)=false,(((((playK c (⟨s.ticks,(s.presses++[p]),s.faults⟩:Scr).ticks (⟨s.ticks,(s.presses++[p]),s.faults⟩:Scr).presses (⟨s.ticks,(s.presses++[p]),s.faults⟩:Scr).faults).1).length:Nat):Int) != ((((playK c s.ticks s.presses s.faults).1).length:Nat):Int))=true])
 (hr:AvLe (.bool false) res):G Try.prog E (f7K0 Try.prog) (f7S0 c s p t ) :=
 end_stepL (n:=400) (evs:=[.b false,.cs (rowPrs s.presses),.lent [3] (.tup [.rsl ((rowLs rowSpt) ((playK c (⟨s.ticks,(s.presses++[p]),s.faults⟩:Scr).ticks (⟨s.ticks,(s.presses++[p]),s.faults⟩:Scr).presses (⟨s.ticks,(s.presses++[p]),s.faults⟩:Scr).faults).1)) 0 (((playK c (⟨s.ticks,(s.presses++[p]),s.faults⟩:Scr).ticks (⟨s.ticks,(s.presses++[p]),s.faults⟩:Scr).presses (⟨s.ticks,(s.presses++[p]),s.faults⟩:Scr).faults).1).length),.int .i64 ((playK c (⟨s.ticks,(s.presses++[p]),s.faults⟩:Scr).ticks (⟨s.ticks,(s.presses++[p]),s.faults⟩:Scr).presses (⟨s.ticks,(s.presses++[p]),s.faults⟩:Scr).faults).2)]) [⟨false,3,3,true,[],false⟩],.b false,.b true]) (obs:=_) hE Try.func7 mixed (by kernel_rfl) ho hr
theorem p7_0_4 (c:Cir) (s:Scr) (p:Prs) (t:Nat) {E:Env} {rv:AV} (hE:PureE Try.prog 7 rv E) (ho:AllP [(decide ((t:Int)<((((playK c s.ticks s.presses s.faults).1).length:Nat):Int)))=false,0=0,0=0,(0+s.presses.length)≤2147483648,((rowPrs s.presses).drop 0).take (s.presses.length*3)=(rowPrs s.presses),(rowPrs s.presses).length=(s.presses.length*3),noRefs (rowPrs s.presses)=true,1=1,(0+((0+s.presses.length)*3))=(rowPrs s.presses).length,((0+s.presses.length)+1)≤2147483648,0=0,3≤3,LentF Try.prog (.clos 25 [] []) [.agg (z7_2 c),.agg [.int .i64 s.ticks,.sl 0 2 0 ((0+s.presses.length)+1) 3,.rsl (rowFlt s.faults) 0 s.faults.length]] [⟨true,2,3,true,((rowPrs s.presses)++(z7_6 p)),true⟩] (z7_4 c s p) [⟨false,3,3,true,[],false⟩],((playK c (⟨s.ticks,(s.presses++[p]),s.faults⟩:Scr).ticks (⟨s.ticks,(s.presses++[p]),s.faults⟩:Scr).presses (⟨s.ticks,(s.presses++[p]),s.faults⟩:Scr).faults).2 != 0)=false,(((((playK c (⟨s.ticks,(s.presses++[p]),s.faults⟩:Scr).ticks (⟨s.ticks,(s.presses++[p]),s.faults⟩:Scr).presses (⟨s.ticks,(s.presses++[p]),s.faults⟩:Scr).faults).1).length:Nat):Int) != ((((playK c s.ticks s.presses s.faults).1).length:Nat):Int))=false])
 (hg:G Try.prog E (f7K4 Try.prog) ⟨(jj 5 ((z7_8 c s)++jj 9 ([.rsl ((rowLs rowSpt) ((playK c (⟨s.ticks,(s.presses++[p]),s.faults⟩:Scr).ticks (⟨s.ticks,(s.presses++[p]),s.faults⟩:Scr).presses (⟨s.ticks,(s.presses++[p]),s.faults⟩:Scr).faults).1)) 0 (((playK c (⟨s.ticks,(s.presses++[p]),s.faults⟩:Scr).ticks (⟨s.ticks,(s.presses++[p]),s.faults⟩:Scr).presses (⟨s.ticks,(s.presses++[p]),s.faults⟩:Scr).faults).1).length),J,.int .i64 0]++Js 205))),[⟨true,0,1,true,(z7_2 c),false⟩,⟨true,0,1,true,(z7_3 s),false⟩,⟨true,0,1,true,(z7_6 p),false⟩,⟨false,3,3,true,[],false⟩,⟨true,0,3,true,(z7_6 p),true⟩,⟨true,0,1,false,[.int .i64 s.ticks,.sl 3 2 0 ((0+s.presses.length)+1) 3,.rsl (rowFlt s.faults) 0 s.faults.length],false⟩]⟩):G Try.prog E (f7K0 Try.prog) (f7S0 c s p t ) :=
 segC_step (n:=400) (ds:=[]) (cs:=[]) (live:=[5,7,17,19]) (m:=6) (evs:=[.b false,.cs (rowPrs s.presses),.lent [3] (.tup [.rsl ((rowLs rowSpt) ((playK c (⟨s.ticks,(s.presses++[p]),s.faults⟩:Scr).ticks (⟨s.ticks,(s.presses++[p]),s.faults⟩:Scr).presses (⟨s.ticks,(s.presses++[p]),s.faults⟩:Scr).faults).1)) 0 (((playK c (⟨s.ticks,(s.presses++[p]),s.faults⟩:Scr).ticks (⟨s.ticks,(s.presses++[p]),s.faults⟩:Scr).presses (⟨s.ticks,(s.presses++[p]),s.faults⟩:Scr).faults).1).length),.int .i64 ((playK c (⟨s.ticks,(s.presses++[p]),s.faults⟩:Scr).ticks (⟨s.ticks,(s.presses++[p]),s.faults⟩:Scr).presses (⟨s.ticks,(s.presses++[p]),s.faults⟩:Scr).faults).2)]) [⟨false,3,3,true,[],false⟩],.b false,.b false,.stop]) (obs:=_) hE.2.1 (hE.nogh _) mixed (by kernel_rfl) ho hg
theorem f7W0 (c:Cir) (s:Scr) (p:Prs) (t:Nat) {E:Env} {rv:Bool} (hE:PureE Try.prog 7 (.bool rv) E)
 (h:(((t:Int)<((((playK c s.ticks s.presses s.faults).1).length:Nat):Int)→(∃ le:(List Spt),((playK c s.ticks s.presses s.faults).1)[t]?=some le∧((¬ ((le.length:Int)=(c.cars.length:Int))→rv=false)∧((le.length:Int)=(c.cars.length:Int)→f7G1 E c s p t 0))))∧(¬ ((t:Int)<((((playK c s.ticks s.presses s.faults).1).length:Nat):Int))→((0+s.presses.length)≤2147483648∧(((0+s.presses.length)+1)≤2147483648∧(((c.blocks.length≤2147483648∧c.cars.length≤2147483648)∧(⟨s.ticks,(s.presses++[p]),s.faults⟩:Scr).presses.length≤2147483648∧(⟨s.ticks,(s.presses++[p]),s.faults⟩:Scr).faults.length≤2147483648)∧((¬ ((playK c (⟨s.ticks,(s.presses++[p]),s.faults⟩:Scr).ticks (⟨s.ticks,(s.presses++[p]),s.faults⟩:Scr).presses (⟨s.ticks,(s.presses++[p]),s.faults⟩:Scr).faults).2=0)→rv=true)∧((playK c (⟨s.ticks,(s.presses++[p]),s.faults⟩:Scr).ticks (⟨s.ticks,(s.presses++[p]),s.faults⟩:Scr).presses (⟨s.ticks,(s.presses++[p]),s.faults⟩:Scr).faults).2=0→((¬ (((((playK c (⟨s.ticks,(s.presses++[p]),s.faults⟩:Scr).ticks (⟨s.ticks,(s.presses++[p]),s.faults⟩:Scr).presses (⟨s.ticks,(s.presses++[p]),s.faults⟩:Scr).faults).1).length:Nat):Int)=((((playK c s.ticks s.presses s.faults).1).length:Nat):Int))→rv=false)∧(((((playK c (⟨s.ticks,(s.presses++[p]),s.faults⟩:Scr).ticks (⟨s.ticks,(s.presses++[p]),s.faults⟩:Scr).presses (⟨s.ticks,(s.presses++[p]),s.faults⟩:Scr).faults).1).length:Nat):Int)=((((playK c s.ticks s.presses s.faults).1).length:Nat):Int)→f7G4 E c s p 0)))))))))):f7G0 E c s p t:=by
 rcases Bool.eq_false_or_eq_true (decide ((t:Int)<((((playK c s.ticks s.presses s.faults).1).length:Nat):Int))) with hc0 | hc0
 · have h:=h.1 (of_decide_eq_true hc0)
   obtain ⟨le,h1,h⟩:=h
   rcases Bool.eq_false_or_eq_true ((le.length:Int) != (c.cars.length:Int)) with hc1 | hc1
   · have h:=h.1 (bneT hc1)
     exact p7_0_0 c s p t le hE ⟨hc0,(idx_ok h1),(row_part (cLs rowSpt) (s:=1) (k:=0) (m:=1) (fun _=>rfl) (by decide) h1),hc1,trivial⟩ (AvLe.of_eq (by rw [h]; try rfl))
   · have h:=h.2 (bneF hc1)
     exact p7_0_1 c s p t le hE ⟨hc0,(idx_ok h1),(row_part (cLs rowSpt) (s:=1) (k:=0) (m:=1) (fun _=>rfl) (by decide) h1),hc1,trivial⟩ h
 · have h:=h.2 (of_decide_eq_false hc0)
   obtain ⟨h1,h⟩:=h
   obtain ⟨h2,h⟩:=h
   obtain ⟨h3,h⟩:=h
   rcases Bool.eq_false_or_eq_true ((playK c (⟨s.ticks,(s.presses++[p]),s.faults⟩:Scr).ticks (⟨s.ticks,(s.presses++[p]),s.faults⟩:Scr).presses (⟨s.ticks,(s.presses++[p]),s.faults⟩:Scr).faults).2 != 0) with hc1 | hc1
   · have h:=h.1 (bneT hc1)
     exact p7_0_2 c s p t hE ⟨hc0,rfl,rfl,h1,(by exact row_all cPrs (fun _=>rfl) s.presses),(by exact row_len cPrs (fun _=>rfl) s.presses),(by exact row_nr cPrs (fun _=>rfl) s.presses),rfl,(by have hx:=row_len cPrs (s:=3) (fun _=>rfl) s.presses; simp only [rowPrs] at hx ⊢; rw [hx]; simp),h2,rfl,(by decide),(lentF_of_pure (fv':=.clos 25 [] []) (args':=[.agg [.rsl (rowBk c.blocks) 0 c.blocks.length,.rsl (rowI c.cars) 0 c.cars.length],.agg [.int .i64 s.ticks,.rsl ((rowPrs s.presses)++[.int .i64 p.at_,.int .i64 p.kind,.int .i64 p.block]) 0 ((0+s.presses.length)+1),.rsl (rowFlt s.faults) 0 s.faults.length]]) (o1:=[]) (o2:=[2=2]) (by kernel_rfl) trivial (by kernel_rfl) ⟨rfl,trivial⟩ (by rw [(show AV.rsl ((rowPrs s.presses)++[.int .i64 p.at_,.int .i64 p.kind,.int .i64 p.block]) 0 ((0+s.presses.length)+1)=AV.rsl (rowPrs (s.presses++[p])) 0 (s.presses++[p]).length from by rw [(show rowPrs s.presses++[.int .i64 p.at_,.int .i64 p.kind,.int .i64 p.block]=rowPrs (s.presses++[p]) from (row_app cPrs s.presses [p]).symm)]; rw [show ((0+s.presses.length)+1)=(s.presses++[p]).length from by simp])]; exact (pureF_of Try.func25 (by kernel_rfl) f25b (play25_ok c (⟨s.ticks,(s.presses++[p]),s.faults⟩:Scr) h3)))),hc1,(pureF_of Try.func17 (by kernel_rfl) f17b works_ok),trivial⟩ (AvLe.of_eq (by rw [h]; try rfl))
   · have h:=h.2 (bneF hc1)
     rcases Bool.eq_false_or_eq_true (((((playK c (⟨s.ticks,(s.presses++[p]),s.faults⟩:Scr).ticks (⟨s.ticks,(s.presses++[p]),s.faults⟩:Scr).presses (⟨s.ticks,(s.presses++[p]),s.faults⟩:Scr).faults).1).length:Nat):Int) != ((((playK c s.ticks s.presses s.faults).1).length:Nat):Int)) with hc2 | hc2
     · have h:=h.1 (bneT hc2)
       exact p7_0_3 c s p t hE ⟨hc0,rfl,rfl,h1,(by exact row_all cPrs (fun _=>rfl) s.presses),(by exact row_len cPrs (fun _=>rfl) s.presses),(by exact row_nr cPrs (fun _=>rfl) s.presses),rfl,(by have hx:=row_len cPrs (s:=3) (fun _=>rfl) s.presses; simp only [rowPrs] at hx ⊢; rw [hx]; simp),h2,rfl,(by decide),(lentF_of_pure (fv':=.clos 25 [] []) (args':=[.agg [.rsl (rowBk c.blocks) 0 c.blocks.length,.rsl (rowI c.cars) 0 c.cars.length],.agg [.int .i64 s.ticks,.rsl ((rowPrs s.presses)++[.int .i64 p.at_,.int .i64 p.kind,.int .i64 p.block]) 0 ((0+s.presses.length)+1),.rsl (rowFlt s.faults) 0 s.faults.length]]) (o1:=[]) (o2:=[2=2]) (by kernel_rfl) trivial (by kernel_rfl) ⟨rfl,trivial⟩ (by rw [(show AV.rsl ((rowPrs s.presses)++[.int .i64 p.at_,.int .i64 p.kind,.int .i64 p.block]) 0 ((0+s.presses.length)+1)=AV.rsl (rowPrs (s.presses++[p])) 0 (s.presses++[p]).length from by rw [(show rowPrs s.presses++[.int .i64 p.at_,.int .i64 p.kind,.int .i64 p.block]=rowPrs (s.presses++[p]) from (row_app cPrs s.presses [p]).symm)]; rw [show ((0+s.presses.length)+1)=(s.presses++[p]).length from by simp])]; exact (pureF_of Try.func25 (by kernel_rfl) f25b (play25_ok c (⟨s.ticks,(s.presses++[p]),s.faults⟩:Scr) h3)))),hc1,hc2,trivial⟩ (AvLe.of_eq (by rw [h]; try rfl))
     · have h:=h.2 (bneF hc2)
       exact p7_0_4 c s p t hE ⟨hc0,rfl,rfl,h1,(by exact row_all cPrs (fun _=>rfl) s.presses),(by exact row_len cPrs (fun _=>rfl) s.presses),(by exact row_nr cPrs (fun _=>rfl) s.presses),rfl,(by have hx:=row_len cPrs (s:=3) (fun _=>rfl) s.presses; simp only [rowPrs] at hx ⊢; rw [hx]; simp),h2,rfl,(by decide),(lentF_of_pure (fv':=.clos 25 [] []) (args':=[.agg [.rsl (rowBk c.blocks) 0 c.blocks.length,.rsl (rowI c.cars) 0 c.cars.length],.agg [.int .i64 s.ticks,.rsl ((rowPrs s.presses)++[.int .i64 p.at_,.int .i64 p.kind,.int .i64 p.block]) 0 ((0+s.presses.length)+1),.rsl (rowFlt s.faults) 0 s.faults.length]]) (o1:=[]) (o2:=[2=2]) (by kernel_rfl) trivial (by kernel_rfl) ⟨rfl,trivial⟩ (by rw [(show AV.rsl ((rowPrs s.presses)++[.int .i64 p.at_,.int .i64 p.kind,.int .i64 p.block]) 0 ((0+s.presses.length)+1)=AV.rsl (rowPrs (s.presses++[p])) 0 (s.presses++[p]).length from by rw [(show rowPrs s.presses++[.int .i64 p.at_,.int .i64 p.kind,.int .i64 p.block]=rowPrs (s.presses++[p]) from (row_app cPrs s.presses [p]).symm)]; rw [show ((0+s.presses.length)+1)=(s.presses++[p]).length from by simp])]; exact (pureF_of Try.func25 (by kernel_rfl) f25b (play25_ok c (⟨s.ticks,(s.presses++[p]),s.faults⟩:Scr) h3)))),hc1,hc2,trivial⟩ h
theorem p7_1_0 (c:Cir) (s:Scr) (p:Prs) (t:Nat) (i:Nat) {E:Env} {rv:AV} (hE:PureE Try.prog 7 rv E) (ho:AllP [(decide ((i:Int)<(c.cars.length:Int)))=true])
 (hg:G Try.prog E (f7K2 Try.prog) ⟨([J,J,J,.ptr 0 0 0,.ptr 1 0 0,.ptr 2 0 0,J,.rsl ((rowLs rowSpt) ((playK c s.ticks s.presses s.faults).1)) 0 (((playK c s.ticks s.presses s.faults).1).length),J,.int .i64 (c.blocks.length:Int),.int .i64 (t:Int),.int .i64 (i:Int),.int .i64 0]++Js 212),(z7_1 c s p)⟩):G Try.prog E (f7K1 Try.prog) (f7S1 c s p t i ) :=
 segC_step (n:=400) (ds:=[]) (cs:=[]) (live:=[3,4,5,7,9,10,11,12]) (m:=3) (evs:=[.b true,.stop]) (obs:=_) hE.2.1 (hE.nogh _) mixed (by kernel_rfl) ho hg
theorem p7_1_1 (c:Cir) (s:Scr) (p:Prs) (t:Nat) (i:Nat) {E:Env} {rv:AV} (hE:PureE Try.prog 7 rv E) (ho:AllP [(decide ((i:Int)<(c.cars.length:Int)))=false,InR .i64 ((t:Int)+1)])
 (hg:G Try.prog E (f7K0 Try.prog) ⟨([J,J,J,.ptr 0 0 0,.ptr 1 0 0,.ptr 2 0 0,J,.rsl ((rowLs rowSpt) ((playK c s.ticks s.presses s.faults).1)) 0 (((playK c s.ticks s.presses s.faults).1).length),J,.int .i64 (c.blocks.length:Int),.int .i64 ((t:Int)+1)]++Js 214),(z7_1 c s p)⟩):G Try.prog E (f7K1 Try.prog) (f7S1 c s p t i ) :=
 segC_step (n:=400) (ds:=[]) (cs:=[]) (live:=[3,4,5,7,9,10]) (m:=3) (evs:=[.b false,.stop]) (obs:=_) hE.2.1 (hE.nogh _) mixed (by kernel_rfl) ho hg
theorem f7W1 (c:Cir) (s:Scr) (p:Prs) (t:Nat) (i:Nat) {E:Env} {rv:Bool} (hE:PureE Try.prog 7 (.bool rv) E)
 (h:(((i:Int)<(c.cars.length:Int)→f7G2 E c s p t i 0)∧(¬ ((i:Int)<(c.cars.length:Int))→((-9223372036854775808≤(t:Int)+1∧(t:Int)+1≤9223372036854775807)∧f7G0 E c s p (t+1))))):f7G1 E c s p t i:=by
 rcases Bool.eq_false_or_eq_true (decide ((i:Int)<(c.cars.length:Int))) with hc0 | hc0
 · have h:=h.1 (of_decide_eq_true hc0)
   exact p7_1_0 c s p t i hE ⟨hc0,trivial⟩ h
 · have h:=h.2 (of_decide_eq_false hc0)
   obtain ⟨q1_1,h⟩:=h
   exact p7_1_1 c s p t i hE ⟨hc0,q1_1,trivial⟩ h
theorem p7_2_0 (c:Cir) (s:Scr) (p:Prs) (t:Nat) (i:Nat) (k:Nat) {E:Env} {rv:AV} (hE:PureE Try.prog 7 rv E) (ho:AllP [(decide ((k:Int)<(c.cars.length:Int)))=true])
 (hg:G Try.prog E (f7K3 Try.prog) ⟨([J,J,J,.ptr 0 0 0,.ptr 1 0 0,.ptr 2 0 0,J,.rsl ((rowLs rowSpt) ((playK c s.ticks s.presses s.faults).1)) 0 (((playK c s.ticks s.presses s.faults).1).length),J,.int .i64 (c.blocks.length:Int),.int .i64 (t:Int),.int .i64 (i:Int),.int .i64 (k:Int),.int .i64 0]++Js 211),(z7_1 c s p)⟩):G Try.prog E (f7K2 Try.prog) (f7S2 c s p t i k ) :=
 segC_step (n:=400) (ds:=[]) (cs:=[]) (live:=[3,4,5,7,9,10,11,12,13]) (m:=3) (evs:=[.b true,.stop]) (obs:=_) hE.2.1 (hE.nogh _) mixed (by kernel_rfl) ho hg
theorem p7_2_1 (c:Cir) (s:Scr) (p:Prs) (t:Nat) (i:Nat) (k:Nat) {E:Env} {rv:AV} (hE:PureE Try.prog 7 rv E) (ho:AllP [(decide ((k:Int)<(c.cars.length:Int)))=false,InR .i64 ((i:Int)+1)])
 (hg:G Try.prog E (f7K1 Try.prog) ⟨([J,J,J,.ptr 0 0 0,.ptr 1 0 0,.ptr 2 0 0,J,.rsl ((rowLs rowSpt) ((playK c s.ticks s.presses s.faults).1)) 0 (((playK c s.ticks s.presses s.faults).1).length),J,.int .i64 (c.blocks.length:Int),.int .i64 (t:Int),.int .i64 ((i:Int)+1)]++Js 213),(z7_1 c s p)⟩):G Try.prog E (f7K2 Try.prog) (f7S2 c s p t i k ) :=
 segC_step (n:=400) (ds:=[]) (cs:=[]) (live:=[3,4,5,7,9,10,11]) (m:=3) (evs:=[.b false,.stop]) (obs:=_) hE.2.1 (hE.nogh _) mixed (by kernel_rfl) ho hg
theorem f7W2 (c:Cir) (s:Scr) (p:Prs) (t:Nat) (i:Nat) (k:Nat) {E:Env} {rv:Bool} (hE:PureE Try.prog 7 (.bool rv) E)
 (h:(((k:Int)<(c.cars.length:Int)→f7G3 E c s p t i 0 k)∧(¬ ((k:Int)<(c.cars.length:Int))→((-9223372036854775808≤(i:Int)+1∧(i:Int)+1≤9223372036854775807)∧f7G1 E c s p t (i+1))))):f7G2 E c s p t i k:=by
 rcases Bool.eq_false_or_eq_true (decide ((k:Int)<(c.cars.length:Int))) with hc0 | hc0
 · have h:=h.1 (of_decide_eq_true hc0)
   exact p7_2_0 c s p t i k hE ⟨hc0,trivial⟩ h
 · have h:=h.2 (of_decide_eq_false hc0)
   obtain ⟨q1_1,h⟩:=h
   exact p7_2_1 c s p t i k hE ⟨hc0,q1_1,trivial⟩ h
theorem p7_3_0 (c:Cir) (s:Scr) (p:Prs) (t:Nat) (i:Nat) (m:Nat) (k:Nat) {E:Env} {rv:AV} (hE:PureE Try.prog 7 rv E) (ho:AllP [(decide ((m:Int)<(c.cars.length:Int)))=true,((i:Int) == (k:Int))=true,true=true,true=true,InR .i64 ((m:Int)+1)])
 (hg:G Try.prog E (f7K3 Try.prog) ⟨(z7_5 c s t i k m),(z7_1 c s p)⟩):G Try.prog E (f7K3 Try.prog) (f7S3 c s p t i m k ) :=
 segC_step (n:=400) (ds:=[]) (cs:=[]) (live:=[3,4,5,7,9,10,11,12,13]) (m:=3) (evs:=[.b true,.b true,.b true,.b true,.stop]) (obs:=_) hE.2.1 (hE.nogh _) mixed (by kernel_rfl) ho hg
theorem p7_3_1 (c:Cir) (s:Scr) (p:Prs) (t:Nat) (i:Nat) (m:Nat) (k:Nat) {E:Env} {rv:AV} (hE:PureE Try.prog 7 rv E) (ho:AllP [(decide ((m:Int)<(c.cars.length:Int)))=true,((i:Int) == (k:Int))=false,((i:Int) == (m:Int))=true,true=true,InR .i64 ((m:Int)+1)])
 (hg:G Try.prog E (f7K3 Try.prog) ⟨(z7_5 c s t i k m),(z7_1 c s p)⟩):G Try.prog E (f7K3 Try.prog) (f7S3 c s p t i m k ) :=
 segC_step (n:=400) (ds:=[]) (cs:=[]) (live:=[3,4,5,7,9,10,11,12,13]) (m:=3) (evs:=[.b true,.b false,.b true,.b true,.stop]) (obs:=_) hE.2.1 (hE.nogh _) mixed (by kernel_rfl) ho hg
theorem p7_3_2 (c:Cir) (s:Scr) (p:Prs) (t:Nat) (i:Nat) (m:Nat) (k:Nat) {E:Env} {rv:AV} (hE:PureE Try.prog 7 rv E) (ho:AllP [(decide ((m:Int)<(c.cars.length:Int)))=true,((i:Int) == (k:Int))=false,((i:Int) == (m:Int))=false,((k:Int) == (m:Int))=true,InR .i64 ((m:Int)+1)])
 (hg:G Try.prog E (f7K3 Try.prog) ⟨(z7_5 c s t i k m),(z7_1 c s p)⟩):G Try.prog E (f7K3 Try.prog) (f7S3 c s p t i m k ) :=
 segC_step (n:=400) (ds:=[]) (cs:=[]) (live:=[3,4,5,7,9,10,11,12,13]) (m:=3) (evs:=[.b true,.b false,.b false,.b true,.stop]) (obs:=_) hE.2.1 (hE.nogh _) mixed (by kernel_rfl) ho hg
theorem p7_3_3 (c:Cir) (s:Scr) (p:Prs) (t:Nat) (i:Nat) (m:Nat) (k:Nat) (e:Int) (e1:Int) (e2:Int) (le:(List Spt)) (se:Spt) (se1:Spt) (se2:Spt) {E:Env} {res:AV} (hE:PureE Try.prog 7 res E) (ho:AllP [(decide ((m:Int)<(c.cars.length:Int)))=true,((i:Int) == (k:Int))=false,((i:Int) == (m:Int))=false,((k:Int) == (m:Int))=false,0≤(k:Int)∧(k:Int)<(c.cars.length:Int),((rowI c.cars).drop (0+(Int.toNat (k:Int))*1)).take 1=[.int .i64 e],0≤(i:Int)∧(i:Int)<(c.cars.length:Int),((rowI c.cars).drop (0+(Int.toNat (i:Int))*1)).take 1=[.int .i64 e1],InR .i64 (e - e1),InR .i64 ((e - e1)+(c.blocks.length:Int)),(c.blocks.length:Int) ≠ 0,0≤(m:Int)∧(m:Int)<(c.cars.length:Int),((rowI c.cars).drop (0+(Int.toNat (m:Int))*1)).take 1=[.int .i64 e2],0≤(i:Int)∧(i:Int)<(c.cars.length:Int),((rowI c.cars).drop (0+(Int.toNat (i:Int))*1)).take 1=[.int .i64 e1],InR .i64 (e2 - e1),InR .i64 ((e2 - e1)+(c.blocks.length:Int)),(c.blocks.length:Int) ≠ 0,0≤(t:Int)∧(t:Int)<((((playK c s.ticks s.presses s.faults).1).length:Nat):Int),(((rowLs rowSpt) ((playK c s.ticks s.presses s.faults).1)).drop (0+(Int.toNat (t:Int))*1)).take 1=[.rsl (rowSpt le) 0 le.length],0≤(k:Int)∧(k:Int)<(le.length:Int),((rowSpt le).drop ((0+(Int.toNat (k:Int))*3)+0)).take 1=[.int .i64 se.block],0≤(t:Int)∧(t:Int)<((((playK c s.ticks s.presses s.faults).1).length:Nat):Int),(((rowLs rowSpt) ((playK c s.ticks s.presses s.faults).1)).drop (0+(Int.toNat (t:Int))*1)).take 1=[.rsl (rowSpt le) 0 le.length],0≤(i:Int)∧(i:Int)<(le.length:Int),((rowSpt le).drop ((0+(Int.toNat (i:Int))*3)+0)).take 1=[.int .i64 se1.block],InR .i64 (se.block - se1.block),InR .i64 ((se.block - se1.block)+(c.blocks.length:Int)),(c.blocks.length:Int) ≠ 0,0≤(t:Int)∧(t:Int)<((((playK c s.ticks s.presses s.faults).1).length:Nat):Int),(((rowLs rowSpt) ((playK c s.ticks s.presses s.faults).1)).drop (0+(Int.toNat (t:Int))*1)).take 1=[.rsl (rowSpt le) 0 le.length],0≤(m:Int)∧(m:Int)<(le.length:Int),((rowSpt le).drop ((0+(Int.toNat (m:Int))*3)+0)).take 1=[.int .i64 se2.block],0≤(t:Int)∧(t:Int)<((((playK c s.ticks s.presses s.faults).1).length:Nat):Int),(((rowLs rowSpt) ((playK c s.ticks s.presses s.faults).1)).drop (0+(Int.toNat (t:Int))*1)).take 1=[.rsl (rowSpt le) 0 le.length],0≤(i:Int)∧(i:Int)<(le.length:Int),((rowSpt le).drop ((0+(Int.toNat (i:Int))*3)+0)).take 1=[.int .i64 se1.block],InR .i64 (se2.block - se1.block),InR .i64 ((se2.block - se1.block)+(c.blocks.length:Int)),(c.blocks.length:Int) ≠ 0,(!((decide ((Int.tmod ((e - e1)+(c.blocks.length:Int)) (c.blocks.length:Int))<(Int.tmod ((e2 - e1)+(c.blocks.length:Int)) (c.blocks.length:Int)))) == (decide ((Int.tmod ((se.block - se1.block)+(c.blocks.length:Int)) (c.blocks.length:Int))<(Int.tmod ((se2.block - se1.block)+(c.blocks.length:Int)) (c.blocks.length:Int))))))=true])
 (hr:AvLe (.bool false) res):G Try.prog E (f7K3 Try.prog) (f7S3 c s p t i m k ) :=
 end_stepL (n:=400) (evs:=[.b true,.b false,.b false,.b false,.auto,.ld (.int .i64 e),.auto,.ld (.int .i64 e1),.auto,.ld (.int .i64 e2),.auto,.ld (.int .i64 e1),.ld (.rsl (rowSpt le) 0 le.length),.ld (.int .i64 se.block),.ld (.rsl (rowSpt le) 0 le.length),.ld (.int .i64 se1.block),.ld (.rsl (rowSpt le) 0 le.length),.ld (.int .i64 se2.block),.ld (.rsl (rowSpt le) 0 le.length),.ld (.int .i64 se1.block),.b true]) (obs:=_) hE Try.func7 mixed (by kernel_rfl) ho hr
theorem p7_3_4 (c:Cir) (s:Scr) (p:Prs) (t:Nat) (i:Nat) (m:Nat) (k:Nat) (e:Int) (e1:Int) (e2:Int) (le:(List Spt)) (se:Spt) (se1:Spt) (se2:Spt) {E:Env} {rv:AV} (hE:PureE Try.prog 7 rv E) (ho:AllP [(decide ((m:Int)<(c.cars.length:Int)))=true,((i:Int) == (k:Int))=false,((i:Int) == (m:Int))=false,((k:Int) == (m:Int))=false,0≤(k:Int)∧(k:Int)<(c.cars.length:Int),((rowI c.cars).drop (0+(Int.toNat (k:Int))*1)).take 1=[.int .i64 e],0≤(i:Int)∧(i:Int)<(c.cars.length:Int),((rowI c.cars).drop (0+(Int.toNat (i:Int))*1)).take 1=[.int .i64 e1],InR .i64 (e - e1),InR .i64 ((e - e1)+(c.blocks.length:Int)),(c.blocks.length:Int) ≠ 0,0≤(m:Int)∧(m:Int)<(c.cars.length:Int),((rowI c.cars).drop (0+(Int.toNat (m:Int))*1)).take 1=[.int .i64 e2],0≤(i:Int)∧(i:Int)<(c.cars.length:Int),((rowI c.cars).drop (0+(Int.toNat (i:Int))*1)).take 1=[.int .i64 e1],InR .i64 (e2 - e1),InR .i64 ((e2 - e1)+(c.blocks.length:Int)),(c.blocks.length:Int) ≠ 0,0≤(t:Int)∧(t:Int)<((((playK c s.ticks s.presses s.faults).1).length:Nat):Int),(((rowLs rowSpt) ((playK c s.ticks s.presses s.faults).1)).drop (0+(Int.toNat (t:Int))*1)).take 1=[.rsl (rowSpt le) 0 le.length],0≤(k:Int)∧(k:Int)<(le.length:Int),((rowSpt le).drop ((0+(Int.toNat (k:Int))*3)+0)).take 1=[.int .i64 se.block],0≤(t:Int)∧(t:Int)<((((playK c s.ticks s.presses s.faults).1).length:Nat):Int),(((rowLs rowSpt) ((playK c s.ticks s.presses s.faults).1)).drop (0+(Int.toNat (t:Int))*1)).take 1=[.rsl (rowSpt le) 0 le.length],0≤(i:Int)∧(i:Int)<(le.length:Int),((rowSpt le).drop ((0+(Int.toNat (i:Int))*3)+0)).take 1=[.int .i64 se1.block],InR .i64 (se.block - se1.block),InR .i64 ((se.block - se1.block)+(c.blocks.length:Int)),(c.blocks.length:Int) ≠ 0,0≤(t:Int)∧(t:Int)<((((playK c s.ticks s.presses s.faults).1).length:Nat):Int),(((rowLs rowSpt) ((playK c s.ticks s.presses s.faults).1)).drop (0+(Int.toNat (t:Int))*1)).take 1=[.rsl (rowSpt le) 0 le.length],0≤(m:Int)∧(m:Int)<(le.length:Int),((rowSpt le).drop ((0+(Int.toNat (m:Int))*3)+0)).take 1=[.int .i64 se2.block],0≤(t:Int)∧(t:Int)<((((playK c s.ticks s.presses s.faults).1).length:Nat):Int),(((rowLs rowSpt) ((playK c s.ticks s.presses s.faults).1)).drop (0+(Int.toNat (t:Int))*1)).take 1=[.rsl (rowSpt le) 0 le.length],0≤(i:Int)∧(i:Int)<(le.length:Int),((rowSpt le).drop ((0+(Int.toNat (i:Int))*3)+0)).take 1=[.int .i64 se1.block],InR .i64 (se2.block - se1.block),InR .i64 ((se2.block - se1.block)+(c.blocks.length:Int)),(c.blocks.length:Int) ≠ 0,(!((decide ((Int.tmod ((e - e1)+(c.blocks.length:Int)) (c.blocks.length:Int))<(Int.tmod ((e2 - e1)+(c.blocks.length:Int)) (c.blocks.length:Int)))) == (decide ((Int.tmod ((se.block - se1.block)+(c.blocks.length:Int)) (c.blocks.length:Int))<(Int.tmod ((se2.block - se1.block)+(c.blocks.length:Int)) (c.blocks.length:Int))))))=false,InR .i64 ((m:Int)+1)])
 (hg:G Try.prog E (f7K3 Try.prog) ⟨(z7_5 c s t i k m),(z7_1 c s p)⟩):G Try.prog E (f7K3 Try.prog) (f7S3 c s p t i m k ) :=
 segC_step (n:=400) (ds:=[]) (cs:=[]) (live:=[3,4,5,7,9,10,11,12,13]) (m:=3) (evs:=[.b true,.b false,.b false,.b false,.auto,.ld (.int .i64 e),.auto,.ld (.int .i64 e1),.auto,.ld (.int .i64 e2),.auto,.ld (.int .i64 e1),.ld (.rsl (rowSpt le) 0 le.length),.ld (.int .i64 se.block),.ld (.rsl (rowSpt le) 0 le.length),.ld (.int .i64 se1.block),.ld (.rsl (rowSpt le) 0 le.length),.ld (.int .i64 se2.block),.ld (.rsl (rowSpt le) 0 le.length),.ld (.int .i64 se1.block),.b false,.stop]) (obs:=_) hE.2.1 (hE.nogh _) mixed (by kernel_rfl) ho hg
theorem p7_3_5 (c:Cir) (s:Scr) (p:Prs) (t:Nat) (i:Nat) (m:Nat) (k:Nat) {E:Env} {rv:AV} (hE:PureE Try.prog 7 rv E) (ho:AllP [(decide ((m:Int)<(c.cars.length:Int)))=false,InR .i64 ((k:Int)+1)])
 (hg:G Try.prog E (f7K2 Try.prog) ⟨([J,J,J,.ptr 0 0 0,.ptr 1 0 0,.ptr 2 0 0,J,.rsl ((rowLs rowSpt) ((playK c s.ticks s.presses s.faults).1)) 0 (((playK c s.ticks s.presses s.faults).1).length),J,.int .i64 (c.blocks.length:Int),.int .i64 (t:Int),.int .i64 (i:Int),.int .i64 ((k:Int)+1)]++Js 212),(z7_1 c s p)⟩):G Try.prog E (f7K3 Try.prog) (f7S3 c s p t i m k ) :=
 segC_step (n:=400) (ds:=[]) (cs:=[]) (live:=[3,4,5,7,9,10,11,12]) (m:=3) (evs:=[.b false,.stop]) (obs:=_) hE.2.1 (hE.nogh _) mixed (by kernel_rfl) ho hg
theorem f7W3 (c:Cir) (s:Scr) (p:Prs) (t:Nat) (i:Nat) (m:Nat) (k:Nat) {E:Env} {rv:Bool} (hE:PureE Try.prog 7 (.bool rv) E)
 (h:(((m:Int)<(c.cars.length:Int)→(((i:Int)=(k:Int)→((-9223372036854775808≤(m:Int)+1∧(m:Int)+1≤9223372036854775807)∧f7G3 E c s p t i (m+1) k))∧(¬ ((i:Int)=(k:Int))→(((i:Int)=(m:Int)→((-9223372036854775808≤(m:Int)+1∧(m:Int)+1≤9223372036854775807)∧f7G3 E c s p t i (m+1) k))∧(¬ ((i:Int)=(m:Int))→(((k:Int)=(m:Int)→((-9223372036854775808≤(m:Int)+1∧(m:Int)+1≤9223372036854775807)∧f7G3 E c s p t i (m+1) k))∧(¬ ((k:Int)=(m:Int))→(∃ e:Int,c.cars[k]?=some e∧(∃ e1:Int,c.cars[i]?=some e1∧((-9223372036854775808≤e - e1∧e - e1≤9223372036854775807)∧((-9223372036854775808≤(e - e1)+(c.blocks.length:Int)∧(e - e1)+(c.blocks.length:Int)≤9223372036854775807)∧((c.blocks.length:Int) ≠ 0∧(∃ e2:Int,c.cars[m]?=some e2∧((-9223372036854775808≤e2 - e1∧e2 - e1≤9223372036854775807)∧((-9223372036854775808≤(e2 - e1)+(c.blocks.length:Int)∧(e2 - e1)+(c.blocks.length:Int)≤9223372036854775807)∧((c.blocks.length:Int) ≠ 0∧(∃ le:(List Spt),((playK c s.ticks s.presses s.faults).1)[t]?=some le∧(∃ se:Spt,le[k]?=some se∧(∃ se1:Spt,le[i]?=some se1∧((-9223372036854775808≤se.block - se1.block∧se.block - se1.block≤9223372036854775807)∧((-9223372036854775808≤(se.block - se1.block)+(c.blocks.length:Int)∧(se.block - se1.block)+(c.blocks.length:Int)≤9223372036854775807)∧((c.blocks.length:Int) ≠ 0∧(∃ se2:Spt,le[m]?=some se2∧((-9223372036854775808≤se2.block - se1.block∧se2.block - se1.block≤9223372036854775807)∧((-9223372036854775808≤(se2.block - se1.block)+(c.blocks.length:Int)∧(se2.block - se1.block)+(c.blocks.length:Int)≤9223372036854775807)∧((c.blocks.length:Int) ≠ 0∧((¬ ((decide ((Int.tmod ((e - e1)+(c.blocks.length:Int)) (c.blocks.length:Int))<(Int.tmod ((e2 - e1)+(c.blocks.length:Int)) (c.blocks.length:Int))))=(decide ((Int.tmod ((se.block - se1.block)+(c.blocks.length:Int)) (c.blocks.length:Int))<(Int.tmod ((se2.block - se1.block)+(c.blocks.length:Int)) (c.blocks.length:Int)))))→rv=false)∧((decide ((Int.tmod ((e - e1)+(c.blocks.length:Int)) (c.blocks.length:Int))<(Int.tmod ((e2 - e1)+(c.blocks.length:Int)) (c.blocks.length:Int))))=(decide ((Int.tmod ((se.block - se1.block)+(c.blocks.length:Int)) (c.blocks.length:Int))<(Int.tmod ((se2.block - se1.block)+(c.blocks.length:Int)) (c.blocks.length:Int))))→((-9223372036854775808≤(m:Int)+1∧(m:Int)+1≤9223372036854775807)∧f7G3 E c s p t i (m+1) k)))))))))))))))))))))))))))))∧(¬ ((m:Int)<(c.cars.length:Int))→((-9223372036854775808≤(k:Int)+1∧(k:Int)+1≤9223372036854775807)∧f7G2 E c s p t i (k+1))))):f7G3 E c s p t i m k:=by
 rcases Bool.eq_false_or_eq_true (decide ((m:Int)<(c.cars.length:Int))) with hc0 | hc0
 · have h:=h.1 (of_decide_eq_true hc0)
   rcases Bool.eq_false_or_eq_true ((i:Int) == (k:Int)) with hc1 | hc1
   · have h:=h.1 (eq_of_beq hc1)
     obtain ⟨q4_2,h⟩:=h
     exact p7_3_0 c s p t i m k hE ⟨hc0,hc1,rfl,rfl,q4_2,trivial⟩ h
   · have h:=h.2 (ne_of_beq_false hc1)
     rcases Bool.eq_false_or_eq_true ((i:Int) == (m:Int)) with hc2 | hc2
     · have h:=h.1 (eq_of_beq hc2)
       obtain ⟨q4_3,h⟩:=h
       exact p7_3_1 c s p t i m k hE ⟨hc0,hc1,hc2,rfl,q4_3,trivial⟩ h
     · have h:=h.2 (ne_of_beq_false hc2)
       rcases Bool.eq_false_or_eq_true ((k:Int) == (m:Int)) with hc3 | hc3
       · have h:=h.1 (eq_of_beq hc3)
         obtain ⟨q4_4,h⟩:=h
         exact p7_3_2 c s p t i m k hE ⟨hc0,hc1,hc2,hc3,q4_4,trivial⟩ h
       · have h:=h.2 (ne_of_beq_false hc3)
         obtain ⟨e,h1,h⟩:=h
         obtain ⟨e1,h2,h⟩:=h
         obtain ⟨q10_4,h⟩:=h
         obtain ⟨q11_4,h⟩:=h
         obtain ⟨q12_4,h⟩:=h
         obtain ⟨e2,h3,h⟩:=h
         obtain ⟨q18_4,h⟩:=h
         obtain ⟨q19_4,h⟩:=h
         obtain ⟨q20_4,h⟩:=h
         obtain ⟨le,h4,h⟩:=h
         obtain ⟨se,h5,h⟩:=h
         obtain ⟨se1,h6,h⟩:=h
         obtain ⟨q32_4,h⟩:=h
         obtain ⟨q33_4,h⟩:=h
         obtain ⟨q34_4,h⟩:=h
         obtain ⟨se2,h7,h⟩:=h
         obtain ⟨q44_4,h⟩:=h
         obtain ⟨q45_4,h⟩:=h
         obtain ⟨q46_4,h⟩:=h
         rcases Bool.eq_false_or_eq_true (!((decide ((Int.tmod ((e - e1)+(c.blocks.length:Int)) (c.blocks.length:Int))<(Int.tmod ((e2 - e1)+(c.blocks.length:Int)) (c.blocks.length:Int)))) == (decide ((Int.tmod ((se.block - se1.block)+(c.blocks.length:Int)) (c.blocks.length:Int))<(Int.tmod ((se2.block - se1.block)+(c.blocks.length:Int)) (c.blocks.length:Int)))))) with hc4 | hc4
         · have h:=h.1 (ne_of_beq_false (bnT hc4))
           exact p7_3_3 c s p t i m k e e1 e2 le se se1 se2 hE ⟨hc0,hc1,hc2,hc3,(idx_ok h1),(row_part cI (s:=1) (k:=0) (m:=1) (fun _=>rfl) (by decide) h1),(idx_ok h2),(row_part cI (s:=1) (k:=0) (m:=1) (fun _=>rfl) (by decide) h2),q10_4,q11_4,q12_4,(idx_ok h3),(row_part cI (s:=1) (k:=0) (m:=1) (fun _=>rfl) (by decide) h3),(idx_ok h2),(row_part cI (s:=1) (k:=0) (m:=1) (fun _=>rfl) (by decide) h2),q18_4,q19_4,q20_4,(idx_ok h4),(row_part (cLs rowSpt) (s:=1) (k:=0) (m:=1) (fun _=>rfl) (by decide) h4),(idx_ok h5),(row_part cSpt (s:=3) (k:=0) (m:=1) (fun _=>rfl) (by decide) h5),(idx_ok h4),(row_part (cLs rowSpt) (s:=1) (k:=0) (m:=1) (fun _=>rfl) (by decide) h4),(idx_ok h6),(row_part cSpt (s:=3) (k:=0) (m:=1) (fun _=>rfl) (by decide) h6),q32_4,q33_4,q34_4,(idx_ok h4),(row_part (cLs rowSpt) (s:=1) (k:=0) (m:=1) (fun _=>rfl) (by decide) h4),(idx_ok h7),(row_part cSpt (s:=3) (k:=0) (m:=1) (fun _=>rfl) (by decide) h7),(idx_ok h4),(row_part (cLs rowSpt) (s:=1) (k:=0) (m:=1) (fun _=>rfl) (by decide) h4),(idx_ok h6),(row_part cSpt (s:=3) (k:=0) (m:=1) (fun _=>rfl) (by decide) h6),q44_4,q45_4,q46_4,hc4,trivial⟩ (AvLe.of_eq (by rw [h]; try rfl))
         · have h:=h.2 (eq_of_beq (bnF hc4))
           obtain ⟨q48_5,h⟩:=h
           exact p7_3_4 c s p t i m k e e1 e2 le se se1 se2 hE ⟨hc0,hc1,hc2,hc3,(idx_ok h1),(row_part cI (s:=1) (k:=0) (m:=1) (fun _=>rfl) (by decide) h1),(idx_ok h2),(row_part cI (s:=1) (k:=0) (m:=1) (fun _=>rfl) (by decide) h2),q10_4,q11_4,q12_4,(idx_ok h3),(row_part cI (s:=1) (k:=0) (m:=1) (fun _=>rfl) (by decide) h3),(idx_ok h2),(row_part cI (s:=1) (k:=0) (m:=1) (fun _=>rfl) (by decide) h2),q18_4,q19_4,q20_4,(idx_ok h4),(row_part (cLs rowSpt) (s:=1) (k:=0) (m:=1) (fun _=>rfl) (by decide) h4),(idx_ok h5),(row_part cSpt (s:=3) (k:=0) (m:=1) (fun _=>rfl) (by decide) h5),(idx_ok h4),(row_part (cLs rowSpt) (s:=1) (k:=0) (m:=1) (fun _=>rfl) (by decide) h4),(idx_ok h6),(row_part cSpt (s:=3) (k:=0) (m:=1) (fun _=>rfl) (by decide) h6),q32_4,q33_4,q34_4,(idx_ok h4),(row_part (cLs rowSpt) (s:=1) (k:=0) (m:=1) (fun _=>rfl) (by decide) h4),(idx_ok h7),(row_part cSpt (s:=3) (k:=0) (m:=1) (fun _=>rfl) (by decide) h7),(idx_ok h4),(row_part (cLs rowSpt) (s:=1) (k:=0) (m:=1) (fun _=>rfl) (by decide) h4),(idx_ok h6),(row_part cSpt (s:=3) (k:=0) (m:=1) (fun _=>rfl) (by decide) h6),q44_4,q45_4,q46_4,hc4,q48_5,trivial⟩ h
 · have h:=h.2 (of_decide_eq_false hc0)
   obtain ⟨q1_1,h⟩:=h
   exact p7_3_5 c s p t i m k hE ⟨hc0,q1_1,trivial⟩ h
theorem p7_4_0 (c:Cir) (s:Scr) (p:Prs) (t:Nat) (le:(List Spt)) (le1:(List Spt)) {E:Env} {rv:AV} (hE:PureE Try.prog 7 rv E) (ho:AllP [(decide ((t:Int)<((((playK c s.ticks s.presses s.faults).1).length:Nat):Int)))=true,(decide ((t:Int)<p.at_))=true,0≤(t:Int)∧(t:Int)<((((playK c s.ticks s.presses s.faults).1).length:Nat):Int),(((rowLs rowSpt) ((playK c s.ticks s.presses s.faults).1)).drop (0+(Int.toNat (t:Int))*1)).take 1=[.rsl (rowSpt le) 0 le.length],0≤(t:Int)∧(t:Int)<((((playK c (⟨s.ticks,(s.presses++[p]),s.faults⟩:Scr).ticks (⟨s.ticks,(s.presses++[p]),s.faults⟩:Scr).presses (⟨s.ticks,(s.presses++[p]),s.faults⟩:Scr).faults).1).length:Nat):Int),(((rowLs rowSpt) ((playK c (⟨s.ticks,(s.presses++[p]),s.faults⟩:Scr).ticks (⟨s.ticks,(s.presses++[p]),s.faults⟩:Scr).presses (⟨s.ticks,(s.presses++[p]),s.faults⟩:Scr).faults).1)).drop (0+(Int.toNat (t:Int))*1)).take 1=[.rsl (rowSpt le1) 0 le1.length],PureF Try.prog (.clos 27 [] []) [.rsl (rowSpt le) 0 le.length,.rsl (rowSpt le1) 0 le1.length] (.bool true),false=false,InR .i64 ((t:Int)+1)])
 (hg:G Try.prog E (f7K4 Try.prog) ⟨(jj 5 ((z7_8 c s)++jj 9 ([.rsl ((rowLs rowSpt) ((playK c (⟨s.ticks,(s.presses++[p]),s.faults⟩:Scr).ticks (⟨s.ticks,(s.presses++[p]),s.faults⟩:Scr).presses (⟨s.ticks,(s.presses++[p]),s.faults⟩:Scr).faults).1)) 0 (((playK c (⟨s.ticks,(s.presses++[p]),s.faults⟩:Scr).ticks (⟨s.ticks,(s.presses++[p]),s.faults⟩:Scr).presses (⟨s.ticks,(s.presses++[p]),s.faults⟩:Scr).faults).1).length),J,.int .i64 ((t:Int)+1)]++Js 205))),[⟨true,0,1,true,(z7_2 c),false⟩,⟨true,0,1,true,(z7_3 s),false⟩,⟨true,0,1,true,(z7_6 p),false⟩,⟨false,3,3,true,[],false⟩,⟨true,0,3,true,(z7_6 p),true⟩,⟨true,0,1,false,[.int .i64 s.ticks,.sl 3 2 0 ((0+s.presses.length)+1) 3,.rsl (rowFlt s.faults) 0 s.faults.length],false⟩]⟩):G Try.prog E (f7K4 Try.prog) (f7S4 c s p t ) :=
 segC_step (n:=400) (ds:=[]) (cs:=[]) (live:=[5,7,17,19]) (m:=6) (evs:=[.b true,.b true,.ld (.rsl (rowSpt le) 0 le.length),.ld (.rsl (rowSpt le1) 0 le1.length),.v (.bool true),.b false,.stop]) (obs:=_) hE.2.1 (hE.nogh _) mixed (by kernel_rfl) ho hg
theorem p7_4_1 (c:Cir) (s:Scr) (p:Prs) (t:Nat) {E:Env} {res:AV} (hE:PureE Try.prog 7 res E) (ho:AllP [(decide ((t:Int)<((((playK c s.ticks s.presses s.faults).1).length:Nat):Int)))=true,(decide ((t:Int)<p.at_))=false,PureF Try.prog (.clos 17 [] []) [] (.bool true)])
 (hr:AvLe (.bool true) res):G Try.prog E (f7K4 Try.prog) (f7S4 c s p t ) :=
 end_stepL (n:=400) (evs:=[.b true,.b false,.v (.bool true)]) (obs:=_) hE Try.func7 mixed (by kernel_rfl) ho hr
theorem p7_4_2 (c:Cir) (s:Scr) (p:Prs) (t:Nat) {E:Env} {res:AV} (hE:PureE Try.prog 7 res E) (ho:AllP [(decide ((t:Int)<((((playK c s.ticks s.presses s.faults).1).length:Nat):Int)))=false,false=false,PureF Try.prog (.clos 17 [] []) [] (.bool true)])
 (hr:AvLe (.bool true) res):G Try.prog E (f7K4 Try.prog) (f7S4 c s p t ) :=
 end_stepL (n:=400) (evs:=[.b false,.b false,.v (.bool true)]) (obs:=_) hE Try.func7 mixed (by kernel_rfl) ho hr
theorem f7W4 (c:Cir) (s:Scr) (p:Prs) (t:Nat) {E:Env} {rv:Bool} (hE:PureE Try.prog 7 (.bool rv) E)
 (h:(((t:Int)<((((playK c s.ticks s.presses s.faults).1).length:Nat):Int)→(((t:Int)<p.at_→(∃ le:(List Spt),((playK c s.ticks s.presses s.faults).1)[t]?=some le∧(∃ le1:(List Spt),((playK c (⟨s.ticks,(s.presses++[p]),s.faults⟩:Scr).ticks (⟨s.ticks,(s.presses++[p]),s.faults⟩:Scr).presses (⟨s.ticks,(s.presses++[p]),s.faults⟩:Scr).faults).1)[t]?=some le1∧((le.length≤9223372036854775807∧le=le1)∧((-9223372036854775808≤(t:Int)+1∧(t:Int)+1≤9223372036854775807)∧f7G4 E c s p (t+1))))))∧(¬ ((t:Int)<p.at_)→rv=true)))∧(¬ ((t:Int)<((((playK c s.ticks s.presses s.faults).1).length:Nat):Int))→rv=true))):f7G4 E c s p t:=by
 rcases Bool.eq_false_or_eq_true (decide ((t:Int)<((((playK c s.ticks s.presses s.faults).1).length:Nat):Int))) with hc0 | hc0
 · have h:=h.1 (of_decide_eq_true hc0)
   rcases Bool.eq_false_or_eq_true (decide ((t:Int)<p.at_)) with hc1 | hc1
   · have h:=h.1 (of_decide_eq_true hc1)
     obtain ⟨le,h1,h⟩:=h
     obtain ⟨le1,h2,h⟩:=h
     obtain ⟨h3,h⟩:=h
     obtain ⟨q10_2,h⟩:=h
     exact p7_4_0 c s p t le le1 hE ⟨hc0,hc1,(idx_ok h1),(row_part (cLs rowSpt) (s:=1) (k:=0) (m:=1) (fun _=>rfl) (by decide) h1),(idx_ok h2),(row_part (cLs rowSpt) (s:=1) (k:=0) (m:=1) (fun _=>rfl) (by decide) h2),(pureF_of Try.func27 (by kernel_rfl) f27b (sameRow_ok le le1 h3)),rfl,q10_2,trivial⟩ h
   · have h:=h.2 (of_decide_eq_false hc1)
     exact p7_4_1 c s p t hE ⟨hc0,hc1,(pureF_of Try.func17 (by kernel_rfl) f17b works_ok),trivial⟩ (AvLe.of_eq (by rw [h]; try rfl))
 · have h:=h.2 (of_decide_eq_false hc0)
   exact p7_4_2 c s p t hE ⟨hc0,rfl,(pureF_of Try.func17 (by kernel_rfl) f17b works_ok),trivial⟩ (AvLe.of_eq (by rw [h]; try rfl))
theorem law7_ok (c:Cir) (s:Scr) (p:Prs) (h:CirQ c) (hs:ScrQ s):Pure Try.prog 7 [.agg [.rsl (rowBk c.blocks) 0 c.blocks.length,.rsl (rowI c.cars) 0 c.cars.length],.agg [.int .i64 s.ticks,.rsl (rowPrs s.presses) 0 s.presses.length,.rsl (rowFlt s.faults) 0 s.faults.length],.agg [.int .i64 p.at_,.int .i64 p.kind,.int .i64 p.block]] (.bool true):=pure_of Try.func7 f7b fun E hE=>by
 refine f7W c s p (rv:=true) hE ⟨fun _=>rfl,fun hf=>⟨fun _=>rfl,fun hl=>⟨fun _=>rfl,fun h1=>⟨h,fun _=>rfl,fun hck=>?_⟩⟩⟩⟩
 have hb:=far_in hf
 have hb2:=long_in hl
 refine ⟨⟨⟨by omega,by omega⟩,by omega,by omega⟩,fun _=>rfl,fun hz=>?_⟩
 have h0:=playK_zero hz
 obtain ⟨hc,hp⟩:=play_in h0
 have ht:=hp.tk
 have hlen:=rows_len h0
 have hf1:s.faults.length≤1:=by omega
 have hnb:=hp.chk.nb
 -- what is pressed later
 have later:(playK c s.ticks (s.presses++[p]) s.faults).2=0→∀ (d t:Nat),t+d=Int.toNat s.ticks→f7G4 E c s p t:=fun hz2=>by
  have h2:=playK_zero hz2
  intro d
  induction d with
  | zero=>intro t hd; exact f7W4 c s p t (rv:=true) hE ⟨fun h=>by omega,fun _=>rfl⟩
  | succ d ih =>
   intro t hd
   have hr:=rows_at h0 (t:=t) (by omega)
   have hr2:=rows_at h2 (t:=t) (by omega)
   refine f7W4 c s p t (rv:=true) hE ⟨fun _=>⟨fun ha=>⟨_,hr,_,hr2,⟨?_,?_⟩,by omega,ih (t+1) (by omega)⟩,fun _=>rfl⟩,fun h=>by omega⟩
   · rw [List.length_map,play_len hp hf1]; omega
   · rw [later_run (by omega)]
 have fin:f7G0 E c s p (Int.toNat s.ticks):=by
  refine f7W0 c s p _ (rv:=true) hE ⟨fun h=>by omega,fun _=>?_⟩
  dsimp only
  refine ⟨by omega,by omega,⟨⟨by omega,by omega⟩,by simp; omega,by omega⟩,fun _=>rfl,fun hz2=>⟨fun e=>?_,fun _=>later hz2 (Int.toNat s.ticks) 0 (by omega)⟩⟩
  rw [rows_len (playK_zero hz2),hlen] at e
  exact absurd rfl e
 have key:∀ (d t:Nat),t+d=Int.toNat s.ticks→f7G0 E c s p t:=by
  intro d
  induction d with
  | zero=>intro t hd; rw [show t=Int.toNat s.ticks by omega]; exact fin
  | succ d ih =>
   intro t hd
   have hr:=rows_at h0 (t:=t) (by omega)
   have nx:=ih (t+1) (by omega)
   have hl:=play_len hp hf1 (n:=t+1)
   have hinv:=play_inv hp hf1 (n:=t+1)
   have hpos:∀ i,i<c.cars.length→((playT c s.faults s.presses (t+1)).cars.map Car.spot)[i]?=some ((playT c s.faults s.presses (t+1)).cars.getD i dC).spot:=fun i hi=>by rw [List.getElem?_map,getD_some (d:=dC) (by omega)]; rfl
   have hbin:∀ i,i<c.cars.length→0≤((playT c s.faults s.presses (t+1)).cars.getD i dC).spot.block∧((playT c s.faults s.presses (t+1)).cars.getD i dC).spot.block<c.blocks.length:=fun i hi=>by
    have:=blk_in hinv (i:=i) (by omega)
    rw [play_c] at this; exact this
   have hcin:=hp.chk.cin
   have hx:∀ i,i<c.cars.length→c.cars[i]?=some (c.cars.getD i 0):=fun i hi=>getD_some hi
   have one:∀ (i:Nat),i<c.cars.length→f7G1 E c s p t (i+1)→f7G1 E c s p t i:=fun i hi n1=>by
    have two:∀ (e k:Nat),k+e=c.cars.length→f7G2 E c s p t i k:=by
     intro e
     induction e with
     | zero=>intro k hk; exact f7W2 c s p t i k (rv:=true) hE ⟨fun h=>by omega,fun _=>⟨by omega,n1⟩⟩
     | succ e ihe =>
      intro k hk
      have n2:=ihe (k+1) (by omega)
      have three:∀ (f m:Nat),m+f=c.cars.length→f7G3 E c s p t i m k:=by
       intro f
       induction f with
       | zero=>intro m hm; exact f7W3 c s p t i m k (rv:=true) hE ⟨fun h=>by omega,fun _=>⟨by omega,n2⟩⟩
       | succ f ihf =>
        intro m hm
        have n3:=ihf (m+1) (by omega)
        have a1:=hbin i hi
        have a2:=hbin k (by omega)
        have a3:=hbin m (by omega)
        have c1:=hcin i hi
        have c2:=hcin k (by omega)
        have c3:=hcin m (by omega)
        refine f7W3 c s p t i m k (rv:=true) hE ⟨fun _=>⟨fun _=>⟨by omega,n3⟩,fun ik=>⟨fun _=>⟨by omega,n3⟩,fun im=>⟨fun _=>⟨by omega,n3⟩,fun km=>⟨_,hx k (by omega),_,hx i hi,by omega,by omega,by omega,_,hx m (by omega),by omega,by omega,by omega,_,hr,_,hpos k (by omega),_,hpos i hi,by omega,by omega,by omega,_,hpos m (by omega),by omega,by omega,by omega,fun e=>?_,fun _=>⟨by omega,n3⟩⟩⟩⟩⟩,fun h=>by omega⟩
        refine absurd ?_ e
        rw [decide_eq_decide]
        have:=order_run hp hf1 (i:=i) (k:=k) (m:=m) hi (by omega) (by omega) (fun q=>ik (by omega)) (fun q=>im (by omega)) (fun q=>km (by omega)) (n:=t+1)
        rw [blk_zero hi,blk_zero (show k<c.cars.length by omega),blk_zero (show m<c.cars.length by omega)] at this
        exact this
      exact f7W2 c s p t i k (rv:=true) hE ⟨fun _=>three c.cars.length 0 (by omega),fun h=>by omega⟩
    exact f7W1 c s p t i (rv:=true) hE ⟨fun _=>two c.cars.length 0 (by omega),fun h=>by omega⟩
   have all:∀ (e i:Nat),i+e=c.cars.length→f7G1 E c s p t i:=by
    intro e
    induction e with
    | zero=>intro i hi; exact f7W1 c s p t i (rv:=true) hE ⟨fun h=>by omega,fun _=>⟨by omega,nx⟩⟩
    | succ e ihe=>intro i hi; exact one i (by omega) (ihe (i+1) (by omega))
   exact f7W0 c s p t (rv:=true) hE ⟨fun _=>⟨_,hr,fun e=>absurd (by rw [List.length_map,hl]) e,fun _=>all c.cars.length 0 (by omega)⟩,fun h=>by omega⟩
 exact key (Int.toNat s.ticks) 0 (by omega)
end Go.Proofs.Ytgdfkjjgdkejfaa