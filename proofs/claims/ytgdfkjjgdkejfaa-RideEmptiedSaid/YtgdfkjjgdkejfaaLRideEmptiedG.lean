/- A part of the proof: several texts, one behind the other. -/
import Derived.Test.YtgdfkjjgdkejfaaLRideEmptiedF
set_option linter.unusedVariables false
set_option linter.unusedSimpArgs false
set_option maxRecDepth 100000
namespace Go.Proofs.Ytgdfkjjgdkejfaa
open Go Ax
open Go.Proofs
structure Psg where
 row:List Spt
 cars:List Int
def Qc (c:Cir) (row:List Spt) (l:List Int):List Int × Bool:=match runP c.blocks.length (row.map Spt.block) l with
 | some q=>(q,true)
 | none=>([],false)
/-! ### The fewest pushes -/
def lenA (s:PL) (j:Nat):Nat:=(s.2.getD j []).length
structure OInv (c:Cir) (s:PL) (i:Nat):Prop where
 mono:∀ a b,a≤b→b<s.1.length→lenA s a≤lenA s b
 near:∀ b,b<s.1.length→i<s.1.length→lenA s b≤lenA s i+1
 expd:∀ j,j<i→∀ q k,VN c.blocks.length (s.1.getD j []) k=some q→∃ m,m<s.1.length∧s.1.getD m []=q∧lenA s m≤lenA s j+1
 noW:∀ j,j<i→Qy c (s.1.getD j [])=false
structure EInv (c:Cir) (s:PL) (i k:Nat):Prop where
 o:OInv c s i
 ex:∀ k',k'<k→∀ q,VN c.blocks.length (s.1.getD i []) (k':Int)=some q→∃ m,m<s.1.length∧s.1.getD m []=q∧lenA s m≤lenA s i+1
theorem EInv.push {c:Cir} {L:Nat} {b0:List Int} {s:PL} (hN:2≤c.blocks.length) (hb:BInv c.blocks.length L b0 s) {i k:Nat} (hi:i<s.1.length) (hk:k<L) (h:EInv c s i k):EInv c (qf c.blocks.length i s k) i (k+1):=by
 have hp:=(hb.plc _ (List.mem_of_getElem? (getD_some (d:=[]) hi))).1
 by_cases hc:QY c.blocks.length (nxtP c.blocks.length (s.1.getD i []) k)=true∧nxtP c.blocks.length (s.1.getD i []) k ∉ s.1
 · rw [push_in hc.1 hc.2]
   have hll:=hb.ll
   have e1:∀ j,j<s.1.length→(s.1++[nxtP c.blocks.length (s.1.getD i []) k]).getD j []=s.1.getD j []:=fun j hj=>by rw [XC,if_pos hj]
   have e2:(s.1++[nxtP c.blocks.length (s.1.getD i []) k]).getD s.1.length []=nxtP c.blocks.length (s.1.getD i []) k:=by rw [XC,if_neg (by omega),if_pos rfl]
   have e3:∀ j,j<s.1.length→lenA (s.1++[nxtP c.blocks.length (s.1.getD i []) k],s.2++[s.2.getD i []++[(k:Int)]]) j=lenA s j:=fun j hj=>by
    unfold lenA; simp only; rw [XC,if_pos (by omega)]
   have e4:lenA (s.1++[nxtP c.blocks.length (s.1.getD i []) k],s.2++[s.2.getD i []++[(k:Int)]]) s.1.length=lenA s i+1:=by
    unfold lenA; simp only; rw [XC,if_neg (by omega),if_pos hll.symm,List.length_append]; rfl
   have hlen:(s.1++[nxtP c.blocks.length (s.1.getD i []) k]).length=s.1.length+1:=by simp
   have keep:∀ {j:Nat} {q:List Int},j<s.1.length→(∃ m,m<s.1.length∧s.1.getD m []=q∧lenA s m≤lenA s j+1)→∃ m,m<(s.1++[nxtP c.blocks.length (s.1.getD i []) k]).length∧(s.1++[nxtP c.blocks.length (s.1.getD i []) k]).getD m []=q∧lenA (s.1++[nxtP c.blocks.length (s.1.getD i []) k],s.2++[s.2.getD i []++[(k:Int)]]) m≤lenA (s.1++[nxtP c.blocks.length (s.1.getD i []) k],s.2++[s.2.getD i []++[(k:Int)]]) j+1:=fun {j q} hj ⟨m,m1,m2,m3⟩ =>
    ⟨m,by omega,by rw [e1 m m1]; exact m2,by rw [e3 m m1,e3 j hj]; exact m3⟩
   refine ⟨⟨fun a b hab hb2=>?_,fun b hb2 _=>?_,fun j hj q k' hq=>?_,fun j hj=>?_⟩,fun k' hk' q hq=>?_⟩
   · simp only at hb2
     rcases Nat.lt_or_ge b s.1.length with w | w
     · rw [e3 a (by omega),e3 b w]; exact h.o.mono a b hab w
     · have eb:b=s.1.length:=by omega
       subst eb
       rw [e4]
       rcases Nat.lt_or_ge a s.1.length with w2 | w2
       · rw [e3 a w2]; exact h.o.near a w2 hi
       · rw [show a=s.1.length by omega,e4]; exact Nat.le_refl _
   · simp only at hb2
     rw [e3 i hi]
     rcases Nat.lt_or_ge b s.1.length with w | w
     · rw [e3 b w]; exact h.o.near b w hi
     · rw [show b=s.1.length by omega,e4]; exact Nat.le_refl _
   · simp only at hq ⊢
     rw [e1 j (by omega)] at hq
     exact keep (by omega) (h.o.expd j hj q k' hq)
   · simp only
     rw [e1 j (by omega)]; exact h.o.noW j hj
   · simp only at hq ⊢
     rw [e1 i hi] at hq
     rcases Nat.lt_or_ge k' k with w | w
     · exact keep hi (h.ex k' w q hq)
     · have ek:k'=k:=by omega
       subst ek
       unfold VN at hq
       split at hq
       · simp only [Option.some.injEq,Int.toNat_natCast] at hq
         exact ⟨s.1.length,by omega,by rw [e2]; exact hq,by rw [e4,e3 i hi]; exact Nat.le_refl _⟩
       · cases hq
 · rw [QaH hc]
   refine ⟨h.o,fun k' hk' q hq=>?_⟩
   rcases Nat.lt_or_ge k' k with w | w
   · exact h.ex k' w q hq
   · have ek:k'=k:=by omega
     subst ek
     have hq0:=hq
     unfold VN at hq
     split at hq
     · rename_i hcond
       simp only [Option.some.injEq,Int.toNat_natCast] at hq hcond
       have hap:QY c.blocks.length (nxtP c.blocks.length (s.1.getD i []) k')=true:=(YB (by rw [Kl]; exact hp.len)).2 ((WH hp hk hN).2 hcond.2)
       have hm:nxtP c.blocks.length (s.1.getD i []) k' ∈ s.1:=Classical.byContradiction fun hn=>hc ⟨hap,hn⟩
       obtain ⟨m,m1,m2⟩:=mem_ps.1 hm
       exact ⟨m,m1,m2.trans hq,h.o.near m m1 hi⟩
     · cases hq
theorem EInv.expd {c:Cir} {L:Nat} {b0:List Int} {s:PL} (hN:2≤c.blocks.length) (hb:BInv c.blocks.length L b0 s) {i:Nat} (hi:i<s.1.length) (h:OInv c s i):∀ {k:Nat},k≤L→EInv c (YQ c.blocks.length i s k) i k
 | 0,_=>⟨h,fun k' hk'=>by omega⟩
 | k+1,hk=>by
  obtain ⟨e1,e2,-⟩:=hb.expd hN hi (k:=k) (by omega)
  exact (EInv.expd hN hb hi h (k:=k) (by omega)).push hN e1 (by omega) (by omega)
theorem OInv.next {c:Cir} {L:Nat} {b0:List Int} {s:PL} (hN:2≤c.blocks.length) (hb:BInv c.blocks.length L b0 s) {i:Nat} (hi:i<s.1.length) (h:OInv c s i) (hw:Qy c (s.1.getD i [])=false):OInv c (YQ c.blocks.length i s L) (i+1):=by
 have he:=EInv.expd hN hb hi h (Nat.le_refl L)
 obtain ⟨e1,e2,e3⟩:=hb.expd hN hi (Nat.le_refl L)
 have hp:=(hb.plc _ (List.mem_of_getElem? (getD_some (d:=[]) hi))).1
 have hpi:=(e3 i hi).1
 refine ⟨he.o.mono,fun b hb2 hi2=>?_,fun j hj q k hq=>?_,fun j hj=>?_⟩
 · have a1:=he.o.near b hb2 (by omega)
   have a2:=he.o.mono i (i+1) (by omega) hi2
   omega
 · rcases Nat.lt_or_ge j i with w | w
   · exact he.o.expd j w q k hq
   · have:j=i:=by omega
     subst this
     have hq2:=hq
     unfold VN at hq2
     split at hq2
     · rename_i hcond
       have hlen:((YQ c.blocks.length j s L).1.getD j []).length=L:=by rw [hpi]; exact hp.len
       have ek:((Int.toNat k:Nat):Int)=k:=by omega
       exact he.ex (Int.toNat k) (by omega) q (by rw [ek]; exact hq)
     · cases hq2
 · rcases Nat.lt_or_ge j i with w | w
   · exact he.o.noW j w
   · have:j=i:=by omega
     subst this
     rw [hpi]; exact hw
theorem reach {c:Cir} {L:Nat} {b0:List Int} {s:PL} (hb:BInv c.blocks.length L b0 s) {i:Nat} (h:OInv c s i) {B:Nat} (hB:∀ m,m<s.1.length→lenA s m≤B→m<i):∀ (n:Nat) (w:List Int) (q:List Int),w.length=n→n≤B→runP c.blocks.length b0 w=some q→∃ m,m<s.1.length∧s.1.getD m []=q∧lenA s m≤n
 | 0,w,q,hn,_,hr=>by
  have:w=[]:=List.length_eq_zero_iff.1 hn
  subst this
  simp only [runP,List.foldl_nil,Option.some.injEq] at hr
  subst hr
  exact ⟨0,hb.first.1,hb.first.2.1,by unfold lenA; rw [hb.first.2.2]; simp⟩
 | n+1,w,q,hn,hB2,hr=>by
  have hne:w ≠ []:=fun e=>by subst e; simp at hn
  have ew:=List.dropLast_concat_getLast hne
  rw [← ew,runP_snoc] at hr
  cases hp:runP c.blocks.length b0 w.dropLast with
  | none=>rw [hp] at hr; cases hr
  | some p =>
   rw [hp] at hr
   have hr:VN c.blocks.length p (w.getLast hne)=some q:=hr
   obtain ⟨m,m1,m2,m3⟩:=reach hb h hB n w.dropLast p (by rw [List.length_dropLast]; omega) (by omega) hp
   have hmi:=hB m m1 (by omega)
   obtain ⟨m',a1,a2,a3⟩:=h.expd m hmi q (w.getLast hne) (by rw [m2]; exact hr)
   exact ⟨m',a1,a2,by omega⟩
theorem bfs_opt {c:Cir} {L:Nat} {b0:List Int} (hN:2≤c.blocks.length∧c.blocks.length≤12):∀ (f i:Nat) (s:PL),i+f=50000→i≤s.1.length→BInv c.blocks.length L b0 s→OInv c s i →
 ((bfsK c L f s i).2=0 ∨ (bfsK c L f s i).2=3)∧((bfsK c L f s i).2=0→∃ q,runP c.blocks.length b0 (bfsK c L f s i).1=some q∧Qy c q=true∧Plc c.blocks.length L q∧(bfsK c L f s i).1.length≤50000) ∧
   (∀ w q,runP c.blocks.length b0 w=some q→Qy c q=true→(bfsK c L f s i).2=0∧(bfsK c L f s i).1.length≤w.length)
 | 0,i,s,hif,his,hb,ho=>by
  have:=hb.le hN
  omega
 | f+1,i,s,hif,his,hb,ho=>by
  by_cases hi:i<s.1.length
  · by_cases hw:Qy c (s.1.getD i [])=true
    · rw [bfsK,if_pos hi,if_pos hw]
      have hle:=hb.le hN
      refine ⟨.inl rfl,fun _=>⟨_,hb.path i hi,hw,(hb.plc _ (List.mem_of_getElem? (getD_some (d:=[]) hi))).1,Nat.le_trans (hb.wl i hi).1 (by omega)⟩,fun w q hr hq=>⟨rfl,?_⟩⟩
      refine Nat.le_of_not_lt fun hlt=>?_
      have hB:∀ m,m<s.1.length→lenA s m≤w.length→m<i:=fun m hm hl=>Nat.lt_of_not_le fun hle=>by
       have h1:(s.2.getD i []).length≤lenA s m:=ho.mono i m hle hm
       exact absurd (Nat.lt_of_lt_of_le hlt (Nat.le_trans h1 hl)) (Nat.lt_irrefl _)
      obtain ⟨m,m1,m2,m3⟩:=reach hb ho hB w.length w q rfl (Nat.le_refl _) hr
      have:=ho.noW m (hB m m1 m3)
      rw [m2,hq] at this; cases this
    · rw [bfsK,if_pos hi,if_neg hw]
      obtain ⟨e1,e2,-⟩:=hb.expd hN.1 hi (Nat.le_refl L)
      exact bfs_opt hN f (i+1) _ (by omega) (by omega) e1 (ho.next hN.1 hb hi (Bool.eq_false_iff.2 hw))
  · rw [bfsK,if_neg hi]
    refine ⟨.inr rfl,fun h=>absurd (show (3:Int)=0 from h) (by decide),fun w q hr hq=>?_⟩
    obtain ⟨m,m1,m2,m3⟩:=reach hb ho (B:=w.length) (fun m hm _=>by omega) w.length w q rfl (Nat.le_refl _) hr
    have:=ho.noW m (by omega)
    rw [m2,hq] at this; cases this
theorem OInv.init {c:Cir} {b0:List Int}:OInv c ([b0],[[]]) 0:=⟨fun a b hab hb=>by
 have:a=0∧b=0:=by simp at hb; omega
 rw [this.1,this.2]; exact Nat.le_refl _,fun b hb _=>by
 have:b=0:=by simp at hb; omega
 rw [this]; omega,fun j hj=>by omega,fun j hj=>by omega⟩
/-- What Pushes says,where the row is right. -/
theorem Qab {c:Cir} {row:List Spt} (h:(Qa c row).2=0 ∨ (Qa c row).2=3):ChkIn c∧row.length=c.cars.length∧Plc c.blocks.length row.length (row.map Spt.block) ∧
 ((Qa c row).2=0→∃ q,runP c.blocks.length (row.map Spt.block) (Qa c row).1=some q∧Qy c q=true∧Plc c.blocks.length row.length q∧(Qa c row).1.length≤50000) ∧
 (∀ w q,runP c.blocks.length (row.map Spt.block) w=some q→Qy c q=true→(Qa c row).2=0∧(Qa c row).1.length≤w.length):=by
 unfold Qa at h ⊢
 by_cases h0:QK c=0
 · rw [if_pos h0] at h ⊢
   by_cases h1:row.length=c.cars.length∧QY c.blocks.length (row.map Spt.block)=true
   · rw [if_pos h1] at h ⊢
     have hk:=chk_in h0
     have hp:=(YB (show (row.map Spt.block).length=row.length by simp)).1 h1.2
     have:=bfs_opt (L:=row.length) (b0:=row.map Spt.block) hk.nb 50000 0 ([row.map Spt.block],[[]]) (by omega) (by omega) (.init hp) OInv.init
     exact ⟨hk,h1.1,hp,this.2.1,this.2.2⟩
   · rw [if_neg h1] at h
     simp at h
 · rw [if_neg h0] at h
   rcases h with h | h
   · exact absurd h h0
   · have:QK c=20:=by
      unfold QK at h0 ⊢
      split at h0
      · exact absurd rfl h0
      · rw [if_neg (by assumption)]
     simp only at h; omega
theorem run_none {N:Nat}:∀ {l:List Int},l.foldl (fun o k=>o.bind fun q=>VN N q k) (none:Option (List Int))=none
 | []=>rfl
 | x :: l=>by simp only [List.foldl_cons,Option.bind_none]; exact run_none
theorem run_take {N:Nat} {p:List Int} {l:List Int} {i:Nat} {x:Int} (hx:l[i]?=some x):runP N p (l.take (i+1))=(runP N p (l.take i)).bind fun q=>VN N q x:=by
 unfold runP; exact Vh hx
theorem run_stop {N:Nat} {p:List Int} {l:List Int} {i:Nat} (h:runP N p (l.take i)=none):runP N p l=none:=by
 have e:l=l.take i++l.drop i:=(List.take_append_drop i l).symm
 unfold runP at h ⊢
 rw [e,List.foldl_append,h,run_none]
theorem step_plc {N L:Nat} {p q:List Int} {k:Int} (hN:2≤N) (hp:Plc N L p) (h:VN N p k=some q):Plc N L q:=by
 unfold VN at h
 split at h
 · rename_i hc
   simp only [Option.some.injEq] at h
   subst h
   exact (WH hp (by rw [← hp.len]; exact hc.1.2) hN).2 hc.2
 · cases h
theorem run_plc {N L:Nat} {p:List Int} (hN:2≤N) (hp:Plc N L p):∀ {l q:List Int},runP N p l=some q→Plc N L q:=by
 intro l
 have key:∀ (i:Nat) (q:List Int),i≤l.length→runP N p (l.take i)=some q→Plc N L q:=by
  intro i
  induction i with
  | zero=>intro q _ h; simp only [List.take_zero,runP,List.foldl_nil,Option.some.injEq] at h; subst h; exact hp
  | succ i ih =>
   intro q hi h
   rw [run_take (getD_some (d:=0) (show i<l.length by omega))] at h
   cases hr:runP N p (l.take i) with
   | none=>rw [hr] at h; cases h
   | some v=>rw [hr] at h; exact step_plc hN (ih v (by omega) hr) h
 intro q h
 exact key l.length q (Nat.le_refl _) (by rw [List.take_length]; exact h)
theorem nxtV_rng {N:Nat} {p:List Int} (hN:0<N) (h:∀ x ∈ p,0≤x∧x<(N:Int)) {k:Nat} (hk:k<p.length):0≤nxtV N p k∧nxtV N p k<N:=by
 have:=h _ (List.mem_of_getElem? (getD_some (d:=0) hk))
 unfold nxtV
 rw [Int.tmod_eq_emod_of_nonneg (by omega)]
 exact ⟨Int.emod_nonneg _ (by omega),Int.emod_lt_of_pos _ (by omega)⟩
theorem f40b:Try.f40.body=some (Qh Try.prog 40):=by kernel_rfl
theorem u40 {a c k:List AV} {r:AV} (h:Pure Try.prog 40 (a++c++k) r):Qd Try.prog (.clos 40 a k) c r:=QQ Try.func40 (by kernel_rfl) f40b h
def f40K0 (P:Program):List Item:=kAt 400 [.code (Qh P 40)] [.stop]
def f40S0 (c:Cir) (row:(List Spt)) (l:(List Int)) (v1:List Int) (i:Nat) (g1:Nat):St:=⟨([J,.rsl (Qb row) 0 row.length,.rsl (rowI l) 0 l.length,.ptr 0 0 0,J,J,J,J,.sl 1 g1 0 v1.length 1,.int .i64 (i:Int)]++Js 69),[⟨true,0,1,true,[.rsl (Qk c.blocks) 0 c.blocks.length,.rsl (rowI c.cars) 0 c.cars.length],false⟩,⟨true,g1,1,true,(rowI v1),true⟩]⟩
def f40G0 (E:Env) (c:Cir) (row:(List Spt)) (l:(List Int)) (v1:List Int) (i:Nat):Prop:=∀ g1:Nat,G Try.prog E (f40K0 Try.prog) (f40S0 c row l v1 i g1)
def f40K1 (P:Program):List Item:=kAt 400 [.code (Qh P 40)] [.b false,.stop]
def f40S1 (c:Cir) (row:(List Spt)) (l:(List Int)) (v1:List Int) (i:Nat) (g1:Nat):St:=⟨([J,J,.rsl (rowI l) 0 l.length,.ptr 0 0 0,J,J,J,J,.sl 1 g1 0 v1.length 1,J,.int .i64 (i:Int)]++Js 68),[⟨true,0,1,true,[.rsl (Qk c.blocks) 0 c.blocks.length,.rsl (rowI c.cars) 0 c.cars.length],false⟩,⟨true,g1,1,true,(rowI v1),true⟩]⟩
def f40G1 (E:Env) (c:Cir) (row:(List Spt)) (l:(List Int)) (v1:List Int) (i:Nat):Prop:=∀ g1:Nat,G Try.prog E (f40K1 Try.prog) (f40S1 c row l v1 i g1)
def f40K2 (P:Program):List Item:=kAt 400 [.code (Qh P 40)] [.b false,.b true,.b false,.stop]
def f40S2 (c:Cir) (row:(List Spt)) (l:(List Int)) (next_:Int) (v1:List Int) (k:Nat) (i:Nat) (g1:Nat):St:=⟨([J,J,.rsl (rowI l) 0 l.length,.ptr 0 0 0,J,J,J,J,.sl 1 g1 0 v1.length 1,J,.int .i64 (i:Int),.int .i64 next_,.int .i64 (k:Int)]++Js 66),[⟨true,0,1,true,[.rsl (Qk c.blocks) 0 c.blocks.length,.rsl (rowI c.cars) 0 c.cars.length],false⟩,⟨true,g1,1,true,(rowI v1),true⟩]⟩
def f40G2 (E:Env) (c:Cir) (row:(List Spt)) (l:(List Int)) (next_:Int) (v1:List Int) (k:Nat) (i:Nat):Prop:=∀ g1:Nat,G Try.prog E (f40K2 Try.prog) (f40S2 c row l next_ v1 k i g1)
abbrev z40_1 (c:Cir):List AV:=[.rsl (Qk c.blocks) 0 c.blocks.length,.rsl (rowI c.cars) 0 c.cars.length]
theorem p40_start_0 (c:Cir) (row:(List Spt)) (l:(List Int)) {E:Env} {rv:AV} (hE:Qn Try.prog 40 rv E) (ho:AllP [])
 (hg:G Try.prog E (f40K0 Try.prog) ⟨([J,.rsl (Qb row) 0 row.length,.rsl (rowI l) 0 l.length,.ptr 0 0 0,J,J,J,J,.sl 1 0 0 0 1,.int .i64 0]++Js 69),[⟨true,0,1,true,(z40_1 c),false⟩,⟨true,0,1,true,[],true⟩]⟩):G Try.prog E [.code (Qh Try.prog 40)] ⟨[.agg (z40_1 c),.rsl (Qb row) 0 row.length,.rsl (rowI l) 0 l.length]++unds (Try.f40.ntmps - 3),[]⟩ :=
 Qg (n:=400) (ds:=[(8,1)]) (cs:=[]) (live:=[1,2,3,8,9]) (m:=2) (evs:=[.stop]) (obs:=_) hE.2.1 (hE.nogh _) Ql (by kernel_rfl) ho hg
theorem f40W (c:Cir) (row:(List Spt)) (l:(List Int)) {E:Env} {rv:((List Int) × Bool)} (hE:Qn Try.prog 40 (.tup [.rsl (rowI rv.1) 0 rv.1.length,.bool rv.2]) E)
 (h:f40G0 E c row l ([]) 0):G Try.prog E [.code (Qh Try.prog 40)] ⟨[.agg [.rsl (Qk c.blocks) 0 c.blocks.length,.rsl (rowI c.cars) 0 c.cars.length],.rsl (Qb row) 0 row.length,.rsl (rowI l) 0 l.length]++unds (Try.f40.ntmps - 3),[]⟩:=by
 exact p40_start_0 c row l hE trivial (h 0)
theorem p40_0_0 (c:Cir) (row:(List Spt)) (l:(List Int)) (v1:List Int) (i:Nat) (g1:Nat) (se:Spt) {E:Env} {rv:AV} (hE:Qn Try.prog 40 rv E) (ho:AllP [(decide ((i:Int)<(row.length:Int)))=true,0≤(i:Int)∧(i:Int)<(row.length:Int),((Qb row).drop ((0+(Int.toNat (i:Int))*3)+0)).take 1=[.int .i64 se.block],g1=g1,(0+(v1.length*1))=(rowI v1).length,(v1.length+1)≤2147483648,0=0,InR .i64 ((i:Int)+1)])
 (hg:G Try.prog E (f40K0 Try.prog) ⟨([J,.rsl (Qb row) 0 row.length,.rsl (rowI l) 0 l.length,.ptr 0 0 0,J,J,J,J,.sl 1 (g1+1) 0 (v1.length+1) 1,.int .i64 ((i:Int)+1)]++Js 69),[⟨true,0,1,true,(z40_1 c),false⟩,⟨true,(g1+1),1,true,((rowI v1)++[.int .i64 se.block]),true⟩]⟩):G Try.prog E (f40K0 Try.prog) (f40S0 c row l v1 i g1) :=
 Qg (n:=400) (ds:=[]) (cs:=[]) (live:=[1,2,3,8,9]) (m:=2) (evs:=[.b true,.ld (.int .i64 se.block),.stop]) (obs:=_) hE.2.1 (hE.nogh _) Ql (by kernel_rfl) ho hg
theorem p40_0_1 (c:Cir) (row:(List Spt)) (l:(List Int)) (v1:List Int) (i:Nat) (g1:Nat) {E:Env} {rv:AV} (hE:Qn Try.prog 40 rv E) (ho:AllP [(decide ((i:Int)<(row.length:Int)))=false])
 (hg:G Try.prog E (f40K1 Try.prog) ⟨([J,J,.rsl (rowI l) 0 l.length,.ptr 0 0 0,J,J,J,J,.sl 1 g1 0 v1.length 1,J,.int .i64 0]++Js 68),[⟨true,0,1,true,(z40_1 c),false⟩,⟨true,g1,1,true,(rowI v1),true⟩]⟩):G Try.prog E (f40K0 Try.prog) (f40S0 c row l v1 i g1) :=
 Qg (n:=400) (ds:=[]) (cs:=[]) (live:=[2,3,8,10]) (m:=2) (evs:=[.b false,.stop]) (obs:=_) hE.2.1 (hE.nogh _) Ql (by kernel_rfl) ho hg
theorem f40W0 (c:Cir) (row:(List Spt)) (l:(List Int)) (v1:List Int) (i:Nat) {E:Env} {rv:((List Int) × Bool)} (hE:Qn Try.prog 40 (.tup [.rsl (rowI rv.1) 0 rv.1.length,.bool rv.2]) E)
 (h:(((i:Int)<(row.length:Int)→(∃ se:Spt,row[i]?=some se∧((v1.length+1)≤2147483648∧((I6 ((i:Int)+1))∧f40G0 E c row l (v1++[se.block]) (i+1)))))∧(¬ ((i:Int)<(row.length:Int))→f40G1 E c row l v1 0))):f40G0 E c row l v1 i:=by
 intro g1
 rcases bft (decide ((i:Int)<(row.length:Int))) with hc0 | hc0
 · have h:=h.1 (odt hc0)
   obtain ⟨se,h1,h⟩:=h
   obtain ⟨h2,h⟩:=h
   obtain ⟨q8_1,h⟩:=h
   refine p40_0_0 c row l v1 i g1 se hE ⟨hc0,(Qp h1),(rp cSpt 3 0 1 h1),rfl,(by have hx:=Qv cI (s:=1) (fun _=>rfl) v1; simp only [rowI] at hx ⊢; rw [hx]; simp),h2,rfl,q8_1,trivial⟩ ?_
   rw [(show rowI v1++[.int .i64 se.block]=rowI (v1++[se.block]) from (Xw cI v1 [se.block]).symm)]; rw [(show (v1.length+1)=(v1++[se.block]).length from by simp)]; exact (h (g1+1))
 · have h:=h.2 (odf hc0)
   exact p40_0_1 c row l v1 i g1 hE ⟨hc0,trivial⟩ (h g1)
theorem p40_1_0 (c:Cir) (row:(List Spt)) (l:(List Int)) (v1:List Int) (i:Nat) (g1:Nat) (e:Int) {E:Env} {res:AV} (hE:Qn Try.prog 40 res E) (ho:AllP [(decide ((i:Int)<(l.length:Int)))=true,0≤(i:Int)∧(i:Int)<(l.length:Int),((rowI l).drop (0+(Int.toNat (i:Int))*1)).take 1=[.int .i64 e],(decide (e<0))=true,true=true])
 (hr:AvLe (.tup [.nilSl,.bool false]) res):G Try.prog E (f40K1 Try.prog) (f40S1 c row l v1 i g1) :=
 Qf (n:=400) (evs:=[.b true,.ld (.int .i64 e),.b true,.b true]) (obs:=_) hE Try.func40 Ql (by kernel_rfl) ho hr
theorem p40_1_1 (c:Cir) (row:(List Spt)) (l:(List Int)) (v1:List Int) (i:Nat) (g1:Nat) (e:Int) {E:Env} {res:AV} (hE:Qn Try.prog 40 res E) (ho:AllP [(decide ((i:Int)<(l.length:Int)))=true,0≤(i:Int)∧(i:Int)<(l.length:Int),((rowI l).drop (0+(Int.toNat (i:Int))*1)).take 1=[.int .i64 e],(decide (e<0))=false,0≤(i:Int)∧(i:Int)<(l.length:Int),((rowI l).drop (0+(Int.toNat (i:Int))*1)).take 1=[.int .i64 e],g1=g1,(decide (e≥(v1.length:Int)))=true])
 (hr:AvLe (.tup [.nilSl,.bool false]) res):G Try.prog E (f40K1 Try.prog) (f40S1 c row l v1 i g1) :=
 Qf (n:=400) (evs:=[.b true,.ld (.int .i64 e),.b false,.ld (.int .i64 e),.b true]) (obs:=_) hE Try.func40 Ql (by kernel_rfl) ho hr
theorem p40_1_2 (c:Cir) (row:(List Spt)) (l:(List Int)) (v1:List Int) (i:Nat) (g1:Nat) (e:Int) (e1:Int) {E:Env} {rv:AV} (hE:Qn Try.prog 40 rv E) (ho:AllP [(decide ((i:Int)<(l.length:Int)))=true,0≤(i:Int)∧(i:Int)<(l.length:Int),((rowI l).drop (0+(Int.toNat (i:Int))*1)).take 1=[.int .i64 e],(decide (e<0))=false,0≤(i:Int)∧(i:Int)<(l.length:Int),((rowI l).drop (0+(Int.toNat (i:Int))*1)).take 1=[.int .i64 e],g1=g1,(decide (e≥(v1.length:Int)))=false,0≤(i:Int)∧(i:Int)<(l.length:Int),((rowI l).drop (0+(Int.toNat (i:Int))*1)).take 1=[.int .i64 e],0≤e∧e<(v1.length:Int),g1=g1,g1=g1,((rowI v1).drop (0+(Int.toNat e)*1)).take 1=[.int .i64 e1],InR .i64 (e1+1),(c.blocks.length:Int) ≠ 0])
 (hg:G Try.prog E (f40K2 Try.prog) ⟨([J,J,.rsl (rowI l) 0 l.length,.ptr 0 0 0,J,J,J,J,.sl 1 g1 0 v1.length 1,J,.int .i64 (i:Int),.int .i64 (Int.tmod (e1+1) (c.blocks.length:Int)),.int .i64 0]++Js 66),[⟨true,0,1,true,(z40_1 c),false⟩,⟨true,g1,1,true,(rowI v1),true⟩]⟩):G Try.prog E (f40K1 Try.prog) (f40S1 c row l v1 i g1) :=
 Qg (n:=400) (ds:=[]) (cs:=[]) (live:=[2,3,8,10,11,12]) (m:=2) (evs:=[.b true,.ld (.int .i64 e),.b false,.ld (.int .i64 e),.b false,.ld (.int .i64 e),.ld (.int .i64 e1),.stop]) (obs:=_) hE.2.1 (hE.nogh _) Ql (by kernel_rfl) ho hg
theorem p40_1_3 (c:Cir) (row:(List Spt)) (l:(List Int)) (v1:List Int) (i:Nat) (g1:Nat) {E:Env} {res:AV} (hE:Qn Try.prog 40 res E) (ho:AllP [(decide ((i:Int)<(l.length:Int)))=false,g1=g1])
 (hr:AvLe (.tup [.rsl (rowI v1) 0 v1.length,.bool true]) res):G Try.prog E (f40K1 Try.prog) (f40S1 c row l v1 i g1) :=
 Qf (n:=400) (evs:=[.b false]) (obs:=_) hE Try.func40 Ql (by kernel_rfl) ho hr
theorem f40W1 (c:Cir) (row:(List Spt)) (l:(List Int)) (v1:List Int) (i:Nat) {E:Env} {rv:((List Int) × Bool)} (hE:Qn Try.prog 40 (.tup [.rsl (rowI rv.1) 0 rv.1.length,.bool rv.2]) E)
 (h:(((i:Int)<(l.length:Int)→(∃ e:Int,l[i]?=some e∧((e<0→rv=(([]:List Int),false))∧(¬ (e<0)→((e≥(v1.length:Int)→rv=(([]:List Int),false))∧(¬ (e≥(v1.length:Int))→(0≤e∧(∃ e1:Int,v1[Int.toNat e]?=some e1∧((I6 (e1+1))∧((c.blocks.length:Int) ≠ 0∧f40G2 E c row l (Int.tmod (e1+1) (c.blocks.length:Int)) v1 0 i))))))))))∧(¬ ((i:Int)<(l.length:Int))→rv=(v1,true)))):f40G1 E c row l v1 i:=by
 intro g1
 rcases bft (decide ((i:Int)<(l.length:Int))) with hc0 | hc0
 · have h:=h.1 (odt hc0)
   obtain ⟨e,h1,h⟩:=h
   rcases bft (decide (e<0)) with hc1 | hc1
   · have h:=h.1 (odt hc1)
     exact p40_1_0 c row l v1 i g1 e hE ⟨hc0,(Qp h1),(rp cI 1 0 1 h1),hc1,rfl,trivial⟩ (by rw [h]; exact (Vk ⟨Xr,⟨AvLe.of_eq rfl,trivial⟩⟩))
   · have h:=h.2 (odf hc1)
     rcases bft (decide (e≥(v1.length:Int))) with hc2 | hc2
     · have h:=h.1 (odt hc2)
       exact p40_1_1 c row l v1 i g1 e hE ⟨hc0,(Qp h1),(rp cI 1 0 1 h1),hc1,(Qp h1),(rp cI 1 0 1 h1),rfl,hc2,trivial⟩ (by rw [h]; exact (Vk ⟨Xr,⟨AvLe.of_eq rfl,trivial⟩⟩))
     · have h:=h.2 (odf hc2)
       obtain ⟨h3,h⟩:=h
       obtain ⟨e1,h2,h⟩:=h
       obtain ⟨q16_3,h⟩:=h
       obtain ⟨q17_3,h⟩:=h
       exact p40_1_2 c row l v1 i g1 e e1 hE ⟨hc0,(Qp h1),(rp cI 1 0 1 h1),hc1,(Qp h1),(rp cI 1 0 1 h1),rfl,hc2,(Qp h1),(rp cI 1 0 1 h1),(QG h3 h2),rfl,rfl,(rp cI 1 0 1 h2),q16_3,q17_3,trivial⟩ (h g1)
 · have h:=h.2 (odf hc0)
   exact p40_1_3 c row l v1 i g1 hE ⟨hc0,rfl,trivial⟩ (AvLe.of_eq (by rw [h]; try rfl))
theorem p40_2_0 (c:Cir) (row:(List Spt)) (l:(List Int)) (next_:Int) (v1:List Int) (k:Nat) (i:Nat) (g1:Nat) (e:Int) {E:Env} {res:AV} (hE:Qn Try.prog 40 res E) (ho:AllP [g1=g1,(decide ((k:Int)<(v1.length:Int)))=true,0≤(k:Int)∧(k:Int)<(v1.length:Int),g1=g1,g1=g1,((rowI v1).drop (0+(Int.toNat (k:Int))*1)).take 1=[.int .i64 e],(e == next_)=true])
 (hr:AvLe (.tup [.nilSl,.bool false]) res):G Try.prog E (f40K2 Try.prog) (f40S2 c row l next_ v1 k i g1) :=
 Qf (n:=400) (evs:=[.b true,.ld (.int .i64 e),.b true]) (obs:=_) hE Try.func40 Ql (by kernel_rfl) ho hr
theorem p40_2_1 (c:Cir) (row:(List Spt)) (l:(List Int)) (next_:Int) (v1:List Int) (k:Nat) (i:Nat) (g1:Nat) (e:Int) {E:Env} {rv:AV} (hE:Qn Try.prog 40 rv E) (ho:AllP [g1=g1,(decide ((k:Int)<(v1.length:Int)))=true,0≤(k:Int)∧(k:Int)<(v1.length:Int),g1=g1,g1=g1,((rowI v1).drop (0+(Int.toNat (k:Int))*1)).take 1=[.int .i64 e],(e == next_)=false,InR .i64 ((k:Int)+1)])
 (hg:G Try.prog E (f40K2 Try.prog) ⟨([J,J,.rsl (rowI l) 0 l.length,.ptr 0 0 0,J,J,J,J,.sl 1 g1 0 v1.length 1,J,.int .i64 (i:Int),.int .i64 next_,.int .i64 ((k:Int)+1)]++Js 66),[⟨true,0,1,true,(z40_1 c),false⟩,⟨true,g1,1,true,(rowI v1),true⟩]⟩):G Try.prog E (f40K2 Try.prog) (f40S2 c row l next_ v1 k i g1) :=
 Qg (n:=400) (ds:=[]) (cs:=[]) (live:=[2,3,8,10,11,12]) (m:=2) (evs:=[.b true,.ld (.int .i64 e),.b false,.stop]) (obs:=_) hE.2.1 (hE.nogh _) Ql (by kernel_rfl) ho hg
theorem p40_2_2 (c:Cir) (row:(List Spt)) (l:(List Int)) (next_:Int) (v1:List Int) (k:Nat) (i:Nat) (g1:Nat) (e:Int) (e1:Int) {E:Env} {rv:AV} (hE:Qn Try.prog 40 rv E) (ho:AllP [g1=g1,(decide ((k:Int)<(v1.length:Int)))=false,0≤(i:Int)∧(i:Int)<(l.length:Int),((rowI l).drop (0+(Int.toNat (i:Int))*1)).take 1=[.int .i64 e],0≤e∧e<(v1.length:Int),g1=g1,((0+(Int.toNat e)*1)+1)≤(rowI v1).length,g1=g1,InR .i64 ((i:Int)+1)])
 (hg:G Try.prog E (f40K1 Try.prog) ⟨([J,J,.rsl (rowI l) 0 l.length,.ptr 0 0 0,J,J,J,J,.sl 1 g1 0 v1.length 1,J,.int .i64 ((i:Int)+1)]++Js 68),[⟨true,0,1,true,(z40_1 c),false⟩,⟨true,g1,1,true,(Qx (rowI v1) (0+(Int.toNat e)*1) [.int .i64 next_]),true⟩]⟩):G Try.prog E (f40K2 Try.prog) (f40S2 c row l next_ v1 k i g1) :=
 Qg (n:=400) (ds:=[]) (cs:=[]) (live:=[2,3,8,10]) (m:=2) (evs:=[.b false,.ld (.int .i64 e),.stop]) (obs:=_) hE.2.1 (hE.nogh _) Ql (by kernel_rfl) ho hg
theorem f40W2 (c:Cir) (row:(List Spt)) (l:(List Int)) (next_:Int) (v1:List Int) (k:Nat) (i:Nat) {E:Env} {rv:((List Int) × Bool)} (hE:Qn Try.prog 40 (.tup [.rsl (rowI rv.1) 0 rv.1.length,.bool rv.2]) E)
 (h:(((k:Int)<(v1.length:Int)→(∃ e:Int,v1[k]?=some e∧((e=next_→rv=(([]:List Int),false))∧(¬ (e=next_)→((I6 ((k:Int)+1))∧f40G2 E c row l next_ v1 (k+1) i)))))∧(¬ ((k:Int)<(v1.length:Int))→(∃ e:Int,l[i]?=some e∧(0≤e∧(∃ e1:Int,v1[Int.toNat e]?=some e1∧((I6 ((i:Int)+1))∧f40G1 E c row l (v1.set (Int.toNat e) next_) (i+1)))))))):f40G2 E c row l next_ v1 k i:=by
 intro g1
 rcases bft (decide ((k:Int)<(v1.length:Int))) with hc0 | hc0
 · have h:=h.1 (odt hc0)
   obtain ⟨e,h1,h⟩:=h
   rcases bft (e == next_) with hc1 | hc1
   · have h:=h.1 (eq_of_beq hc1)
     exact p40_2_0 c row l next_ v1 k i g1 e hE ⟨rfl,hc0,(Qp h1),rfl,rfl,(rp cI 1 0 1 h1),hc1,trivial⟩ (by rw [h]; exact (Vk ⟨Xr,⟨AvLe.of_eq rfl,trivial⟩⟩))
   · have h:=h.2 (ne_of_beq_false hc1)
     obtain ⟨q8_2,h⟩:=h
     exact p40_2_1 c row l next_ v1 k i g1 e hE ⟨rfl,hc0,(Qp h1),rfl,rfl,(rp cI 1 0 1 h1),hc1,q8_2,trivial⟩ (h g1)
 · have h:=h.2 (odf hc0)
   obtain ⟨e,h1,h⟩:=h
   obtain ⟨h3,h⟩:=h
   obtain ⟨e1,h2,h⟩:=h
   obtain ⟨q10_1,h⟩:=h
   refine p40_2_2 c row l next_ v1 k i g1 e e1 hE ⟨rfl,hc0,(Qp h1),(rp cI 1 0 1 h1),(QG h3 h2),rfl,(rf cI 1 0 1 h2),rfl,q10_1,trivial⟩ ?_
   have h:=(h g1)
   simp only [f40S1,List.length_set] at h
   rw [(show Qx (rowI v1) (0+(Int.toNat e)*1) [.int .i64 next_]=rowI (v1.set (Int.toNat e) next_) from QD cI (s:=1) (k:=0) (fun _=>rfl) h2 rfl (by first | decide | simp))]
   exact h
theorem f41b:Try.f41.body=some (Qh Try.prog 41):=by kernel_rfl
theorem u41 {a c k:List AV} {r:AV} (h:Pure Try.prog 41 (a++c++k) r):Qd Try.prog (.clos 41 a k) c r:=QQ Try.func41 (by kernel_rfl) f41b h
def f41K0 (P:Program):List Item:=kAt 400 [.code (Qh P 41)] [.stop]
def f41S0 (c:Cir) (l:(List Int)) (i:Nat):St:=⟨([J,.rsl (rowI l) 0 l.length,.ptr 0 0 0,J,J,.int .i64 (i:Int)]++Js 16),[⟨true,0,1,true,[.rsl (Qk c.blocks) 0 c.blocks.length,.rsl (rowI c.cars) 0 c.cars.length],false⟩]⟩
def f41G0 (E:Env) (c:Cir) (l:(List Int)) (i:Nat):Prop:=G Try.prog E (f41K0 Try.prog) (f41S0 c l i )
abbrev z41_1 (c:Cir):List AV:=[.rsl (Qk c.blocks) 0 c.blocks.length,.rsl (rowI c.cars) 0 c.cars.length]
theorem p41_start_0 (c:Cir) (l:(List Int)) {E:Env} {rv:AV} (hE:Qn Try.prog 41 rv E) (ho:AllP [])
 (hg:G Try.prog E (f41K0 Try.prog) ⟨([J,.rsl (rowI l) 0 l.length,.ptr 0 0 0,J,J,.int .i64 0]++Js 16),[⟨true,0,1,true,(z41_1 c),false⟩]⟩):G Try.prog E [.code (Qh Try.prog 41)] ⟨[.agg (z41_1 c),.rsl (rowI l) 0 l.length]++unds (Try.f41.ntmps - 2),[]⟩ :=
 Qg (n:=400) (ds:=[]) (cs:=[]) (live:=[1,2,5]) (m:=1) (evs:=[.stop]) (obs:=_) hE.2.1 (hE.nogh _) Ql (by kernel_rfl) ho hg
theorem f41W (c:Cir) (l:(List Int)) {E:Env} {rv:Bool} (hE:Qn Try.prog 41 (.bool rv) E)
 (h:f41G0 E c l 0):G Try.prog E [.code (Qh Try.prog 41)] ⟨[.agg [.rsl (Qk c.blocks) 0 c.blocks.length,.rsl (rowI c.cars) 0 c.cars.length],.rsl (rowI l) 0 l.length]++unds (Try.f41.ntmps - 2),[]⟩:=by
 exact p41_start_0 c l hE trivial h
theorem p41_0_0 (c:Cir) (l:(List Int)) (i:Nat) (e:Int) (be:Bk) {E:Env} {res:AV} (hE:Qn Try.prog 41 res E) (ho:AllP [(decide ((i:Int)<(l.length:Int)))=true,0≤(i:Int)∧(i:Int)<(l.length:Int),((rowI l).drop (0+(Int.toNat (i:Int))*1)).take 1=[.int .i64 e],0≤e∧e<(c.blocks.length:Int),((Qk c.blocks).drop ((0+(Int.toNat e)*4)+3)).take 1=[.bool be.walk],(!be.walk)=true])
 (hr:AvLe (.bool false) res):G Try.prog E (f41K0 Try.prog) (f41S0 c l i ) :=
 Qf (n:=400) (evs:=[.b true,.auto,.ld (.int .i64 e),.ld (.bool be.walk),.b true]) (obs:=_) hE Try.func41 Ql (by kernel_rfl) ho hr
theorem p41_0_1 (c:Cir) (l:(List Int)) (i:Nat) (e:Int) (be:Bk) {E:Env} {rv:AV} (hE:Qn Try.prog 41 rv E) (ho:AllP [(decide ((i:Int)<(l.length:Int)))=true,0≤(i:Int)∧(i:Int)<(l.length:Int),((rowI l).drop (0+(Int.toNat (i:Int))*1)).take 1=[.int .i64 e],0≤e∧e<(c.blocks.length:Int),((Qk c.blocks).drop ((0+(Int.toNat e)*4)+3)).take 1=[.bool be.walk],(!be.walk)=false,InR .i64 ((i:Int)+1)])
 (hg:G Try.prog E (f41K0 Try.prog) ⟨([J,.rsl (rowI l) 0 l.length,.ptr 0 0 0,J,J,.int .i64 ((i:Int)+1)]++Js 16),[⟨true,0,1,true,(z41_1 c),false⟩]⟩):G Try.prog E (f41K0 Try.prog) (f41S0 c l i ) :=
 Qg (n:=400) (ds:=[]) (cs:=[]) (live:=[1,2,5]) (m:=1) (evs:=[.b true,.auto,.ld (.int .i64 e),.ld (.bool be.walk),.b false,.stop]) (obs:=_) hE.2.1 (hE.nogh _) Ql (by kernel_rfl) ho hg
theorem p41_0_2 (c:Cir) (l:(List Int)) (i:Nat) {E:Env} {res:AV} (hE:Qn Try.prog 41 res E) (ho:AllP [(decide ((i:Int)<(l.length:Int)))=false])
 (hr:AvLe (.bool true) res):G Try.prog E (f41K0 Try.prog) (f41S0 c l i ) :=
 Qf (n:=400) (evs:=[.b false]) (obs:=_) hE Try.func41 Ql (by kernel_rfl) ho hr
theorem f41W0 (c:Cir) (l:(List Int)) (i:Nat) {E:Env} {rv:Bool} (hE:Qn Try.prog 41 (.bool rv) E)
 (h:(((i:Int)<(l.length:Int)→(∃ e:Int,l[i]?=some e∧(0≤e∧(∃ be:Bk,c.blocks[Int.toNat e]?=some be∧((be.walk=false→rv=false)∧(be.walk=true→((I6 ((i:Int)+1))∧f41G0 E c l (i+1))))))))∧(¬ ((i:Int)<(l.length:Int))→rv=true))):f41G0 E c l i:=by
 rcases bft (decide ((i:Int)<(l.length:Int))) with hc0 | hc0
 · have h:=h.1 (odt hc0)
   obtain ⟨e,h1,h⟩:=h
   obtain ⟨h3,h⟩:=h
   obtain ⟨be,h2,h⟩:=h
   rcases bft (!be.walk) with hc1 | hc1
   · have h:=h.1 (bnT hc1)
     exact p41_0_0 c l i e be hE ⟨hc0,(Qp h1),(rp cI 1 0 1 h1),(QG h3 h2),(rp cBk 4 3 1 h2),hc1,trivial⟩ (AvLe.of_eq (by rw [h]; try rfl))
   · have h:=h.2 (bnF hc1)
     obtain ⟨q8_2,h⟩:=h
     exact p41_0_1 c l i e be hE ⟨hc0,(Qp h1),(rp cI 1 0 1 h1),(QG h3 h2),(rp cBk 4 3 1 h2),hc1,q8_2,trivial⟩ h
 · have h:=h.2 (odf hc0)
   exact p41_0_2 c l i hE ⟨hc0,trivial⟩ (AvLe.of_eq (by rw [h]; try rfl))
theorem Qt (c:Cir) (row:List Spt) (l:List Int) (h:(c.blocks.length ≠ 0∧c.blocks.length≤1000000)∧(row.length≤1000000∧(∀ x ∈ row,0≤x.block∧x.block<c.blocks.length))∧l.length≤9223372036854775807):Pure Try.prog 40 [.agg [.rsl (Qk c.blocks) 0 c.blocks.length,.rsl (rowI c.cars) 0 c.cars.length],.rsl (Qb row) 0 row.length,.rsl (rowI l) 0 l.length] (.tup [.rsl (rowI (Qc c row l).1) 0 (Qc c row l).1.length,.bool (Qc c row l).2]):=QT Try.func40 f40b fun E hE=>by
 obtain ⟨⟨hN0,hN1⟩,⟨hr1,hr2⟩,hl⟩:=h
 have hbl:(row.map Spt.block).length=row.length:=by simp
 have hget:∀ i,i<row.length→(row.map Spt.block)[i]?=some (row.getD i dS).block:=fun i hi=>by rw [List.getElem?_map,getD_some (d:=dS) hi]; rfl
 have hno:runP c.blocks.length (row.map Spt.block) l=none→Qc c row l=([],false):=fun h=>by simp only [Qc,h]
 have main:∀ (d i:Nat) (v:List Int),i+d=l.length→runP c.blocks.length (row.map Spt.block) (l.take i)=some v→v.length=row.length→(∀ x ∈ v,0≤x∧x<(c.blocks.length:Int))→f40G1 E c row l v i:=by
  intro d
  induction d with
  | zero =>
   intro i v hi hr hv hx
   rw [List.take_of_length_le (by omega)] at hr
   exact f40W1 c row l v i (rv:=Qc c row l) hE ⟨fun h=>by omega,fun _=>by simp only [Qc,hr]⟩
  | succ d ih =>
   intro i v hi hr hv hx
   have hg:=getD_some (d:=0) (show i<l.length by omega)
   have hst:=run_take (N:=c.blocks.length) (p:=row.map Spt.block) hg
   rw [hr] at hst
   have hst:runP c.blocks.length (row.map Spt.block) (l.take (i+1))=VN c.blocks.length v (l.getD i 0):=hst
   have hstop:VN c.blocks.length v (l.getD i 0)=none→Qc c row l=([],false):=fun h=>hno (run_stop (hst.trans h))
   refine f40W1 c row l v i (rv:=Qc c row l) hE ⟨fun _=>⟨_,hg,fun h1=>hstop (by rw [VN,if_neg (fun h=>by omega)]),fun h1=>⟨fun h2=>hstop (by rw [VN,if_neg (fun h=>by omega)]),fun h2=>?_⟩⟩,fun h=>by omega⟩
   have hk:Int.toNat (l.getD i 0)<v.length:=by omega
   have hvk:=hx _ (List.mem_of_getElem? (getD_some (d:=0) hk))
   refine ⟨by omega,_,getD_some (d:=0) hk,by omega,by omega,?_⟩
   have inner:∀ (d k:Nat),k+d=v.length→((v.take k).any (fun x=>nxtV c.blocks.length v (Int.toNat (l.getD i 0)) == x))=false→f40G2 E c row l (nxtV c.blocks.length v (Int.toNat (l.getD i 0))) v k i:=by
    intro d
    induction d with
    | zero =>
     intro k hk2 ha
     rw [List.take_of_length_le (by omega)] at ha
     have hstep:VN c.blocks.length v (l.getD i 0)=some (nxtP c.blocks.length v (Int.toNat (l.getD i 0))):=by rw [VN,if_pos ⟨⟨by omega,hk⟩,ha⟩]
     refine f40W2 c row l _ v k i (rv:=Qc c row l) hE ⟨fun h=>by omega,fun _=>⟨_,hg,by omega,_,getD_some (d:=0) hk,by omega,?_⟩⟩
     refine ih (i+1) _ (by omega) (hst.trans hstep) (by rw [List.length_set]; exact hv) fun x hx2=>?_
     rcases List.mem_or_eq_of_mem_set hx2 with w | w
     · exact hx x w
     · rw [w]; exact nxtV_rng (by omega) hx hk
    | succ d ihd =>
     intro k hk2 ha
     have hgk:=getD_some (d:=0) (show k<v.length by omega)
     refine f40W2 c row l _ v k i (rv:=Qc c row l) hE ⟨fun _=>⟨_,hgk,fun he=>hstop ?_,fun he=>⟨by omega,ihd (k+1) (by omega) ?_⟩⟩,fun h=>by omega⟩
     · rw [VN,if_neg]
       rintro ⟨-,hh⟩
       have:=List.any_eq_false.1 hh _ (List.mem_of_getElem? hgk)
       simp only [beq_iff_eq] at this
       exact this he.symm
     · rw [qI hgk,ha,Bool.false_or]
       exact beq_eq_false_iff_ne.2 fun e=>he e.symm
   exact inner v.length 0 (by omega) rfl
 have key:∀ (d i:Nat),i+d=row.length→f40G0 E c row l ((row.map Spt.block).take i) i:=by
  intro d
  induction d with
  | zero =>
   intro i hi
   rw [List.take_of_length_le (by omega)]
   refine f40W0 c row l _ i (rv:=Qc c row l) hE ⟨fun h=>by omega,fun _=>main l.length 0 _ (by omega) rfl hbl fun x hx=>?_⟩
   obtain ⟨y,hy,rfl⟩:=List.mem_map.1 hx
   exact hr2 y hy
  | succ d ih =>
   intro i hi
   have hx:=getD_some (d:=dS) (show i<row.length by omega)
   have nx:=ih (i+1) (by omega)
   rw [List.take_add_one,hget i (by omega)] at nx
   exact f40W0 c row l _ i (rv:=Qc c row l) hE ⟨fun _=>⟨_,hx,by rw [List.length_take]; omega,by omega,nx⟩,fun h=>by omega⟩
 exact f40W c row l (rv:=Qc c row l) hE (key row.length 0 (by omega))
theorem QF (c:Cir) (l:List Int) (h:(∀ b ∈ l,InC c b)∧l.length≤9223372036854775807):Pure Try.prog 41 [.agg [.rsl (Qk c.blocks) 0 c.blocks.length,.rsl (rowI c.cars) 0 c.cars.length],.rsl (rowI l) 0 l.length] (.bool (Qy c l)):=QT Try.func41 f41b fun E hE=>by
 have key:∀ (d i:Nat),i+d=l.length→((l.take i).all fun b=>(bkAt c b).walk)=true→f41G0 E c l i:=by
  intro d
  induction d with
  | zero =>
   intro i hi ha
   rw [List.take_of_length_le (by omega)] at ha
   exact f41W0 c l i (rv:=Qy c l) hE ⟨fun h=>by omega,fun _=>ha⟩
  | succ d ih =>
   intro i hi ha
   have hx:=getD_some (d:=0) (show i<l.length by omega)
   have hin:=h.1 _ (List.mem_of_getElem? hx)
   refine f41W0 c l i (rv:=Qy c l) hE ⟨fun _=>⟨_,hx,hin.1,_,QaW hin,fun hw=>?_,fun hw=>⟨by omega,ih (i+1) (by omega) ?_⟩⟩,fun h=>by omega⟩
   · rw [Qy,List.all_eq_false]
     exact ⟨_,List.mem_of_getElem? hx,by rw [hw]; simp⟩
   · rw [List.take_add_one,hx]; simp only [List.all_append,ha,Option.toList,List.all_cons,hw,List.all_nil]; rfl
 exact f41W c l (rv:=Qy c l) hE (key l.length 0 (by omega) rfl)
theorem f14b:Try.f14.body=some (Qh Try.prog 14):=by kernel_rfl
abbrev Qq (c:Cir):List AV:=[.rsl (Qk c.blocks) 0 c.blocks.length,.rsl (rowI c.cars) 0 c.cars.length]
abbrev Qs (c:Cir) (p:Psg):AV:=.tup [.rsl (rowI ((Qa c p.row).1)) 0 (((Qa c p.row).1).length),.int .i64 ((Qa c p.row).2)]
abbrev QW (c:Cir) (p:Psg):AV:=.tup [.rsl (rowI ((Qc c p.row p.cars).1)) 0 (((Qc c p.row p.cars).1).length),.bool ((Qc c p.row p.cars).2)]
abbrev Xn (c:Cir) (p:Psg):AV:=.tup [.rsl (rowI ((Qc c p.row ((Qa c p.row).1)).1)) 0 (((Qc c p.row ((Qa c p.row).1)).1).length),.bool ((Qc c p.row ((Qa c p.row).1)).2)]
abbrev Xq (c:Cir) (p:Psg):List AV:=[.agg (Qq c),.agg [.rsl (Qb p.row) 0 p.row.length,.rsl (rowI p.cars) 0 p.cars.length]]
abbrev XR (c:Cir) (p:Psg):List AV:=[.agg (Qq c),.rsl (Qb p.row) 0 p.row.length,.rsl (rowI p.cars) 0 p.cars.length]
abbrev YE (c:Cir) (p:Psg):List AV:=[.agg (Qq c),.rsl (Qb p.row) 0 p.row.length,.rsl (rowI ((Qa c p.row).1)) 0 (((Qa c p.row).1).length)]
abbrev Vd (c:Cir) (p:Psg):List AV:=[.agg (Qq c),.rsl (rowI ((Qc c p.row ((Qa c p.row).1)).1)) 0 (((Qc c p.row ((Qa c p.row).1)).1).length)]
abbrev Yn (c:Cir) (p:Psg):List AV:=[.agg (Qq c),.rsl (rowI ((Qc c p.row p.cars).1)) 0 (((Qc c p.row p.cars).1).length)]
abbrev QZ (c:Cir) (p:Psg):AV:=.bool (Qy c ((Qc c p.row ((Qa c p.row).1)).1))
abbrev QX (c:Cir) (p:Psg):List AV:=[.agg (Qq c),.rsl (Qb p.row) 0 p.row.length]
theorem p14_start_0 (c:Cir) (p:Psg) {E:Env} {res:AV} (hE:Qn Try.prog 14 res E) (ho:AllP [Qd Try.prog (.clos 15 [] []) [.agg (Qq c)] (.bool (farB c)),(farB c)=true,true=true,true=true,Qd Try.prog (.clos 17 [] []) [] (.bool true)])
 (hr:AvLe (.bool true) res):G Try.prog E [.code (Qh Try.prog 14)] ⟨(Xq c p)++unds (Try.f14.ntmps - 2),[]⟩ :=
 Qf (n:=400) (evs:=[.v (.bool (farB c)),.b true,.b true,.b true,.v (.bool true)]) (obs:=_) hE Try.func14 Ql (by kernel_rfl) ho hr
theorem p14_start_1 (c:Cir) (p:Psg) {E:Env} {res:AV} (hE:Qn Try.prog 14 res E) (ho:AllP [Qd Try.prog (.clos 15 [] []) [.agg (Qq c)] (.bool (farB c)),(farB c)=false,(decide ((p.row.length:Int) > 20))=true,true=true,Qd Try.prog (.clos 17 [] []) [] (.bool true)])
 (hr:AvLe (.bool true) res):G Try.prog E [.code (Qh Try.prog 14)] ⟨(Xq c p)++unds (Try.f14.ntmps - 2),[]⟩ :=
 Qf (n:=400) (evs:=[.v (.bool (farB c)),.b false,.b true,.b true,.v (.bool true)]) (obs:=_) hE Try.func14 Ql (by kernel_rfl) ho hr
theorem p14_start_2 (c:Cir) (p:Psg) {E:Env} {res:AV} (hE:Qn Try.prog 14 res E) (ho:AllP [Qd Try.prog (.clos 15 [] []) [.agg (Qq c)] (.bool (farB c)),(farB c)=false,(decide ((p.row.length:Int) > 20))=false,(decide ((p.cars.length:Int) > 60))=true,Qd Try.prog (.clos 17 [] []) [] (.bool true)])
 (hr:AvLe (.bool true) res):G Try.prog E [.code (Qh Try.prog 14)] ⟨(Xq c p)++unds (Try.f14.ntmps - 2),[]⟩ :=
 Qf (n:=400) (evs:=[.v (.bool (farB c)),.b false,.b false,.b true,.v (.bool true)]) (obs:=_) hE Try.func14 Ql (by kernel_rfl) ho hr
theorem p14_start_3 (c:Cir) (p:Psg) {E:Env} {res:AV} (hE:Qn Try.prog 14 res E) (ho:AllP [Qd Try.prog (.clos 15 [] []) [.agg (Qq c)] (.bool (farB c)),(farB c)=false,(decide ((p.row.length:Int) > 20))=false,(decide ((p.cars.length:Int) > 60))=false,Qd Try.prog (.clos 18 [] []) [.agg (Qq c)] (.agg (Qq c)),1=1,0=0,0=0,(0+p.row.length)≤2147483648,((Qb p.row).drop 0).take (p.row.length*3)=(Qb p.row),(Qb p.row).length=(p.row.length*3),noRefs (Qb p.row)=true,Qd Try.prog (.clos 37 [] []) [.agg (Qq c),.rsl (Qb p.row) 0 (0+p.row.length)] (Qs c p),Qd Try.prog (.clos 38 [] []) (QX c p) (Qs c p),((Qa c p.row).2 != 0)=true,((Qa c p.row).2 != 3)=true,((Qa c p.row).2 == (Qa c p.row).2)=true,Qd Try.prog (.clos 17 [] []) [] (.bool true)])
 (hr:AvLe (.bool true) res):G Try.prog E [.code (Qh Try.prog 14)] ⟨(Xq c p)++unds (Try.f14.ntmps - 2),[]⟩ :=
 Qf (n:=400) (evs:=[.v (.bool (farB c)),.b false,.b false,.b false,.v (.agg (Qq c)),.fz,.cs (Qb p.row),.v (Qs c p),.v (Qs c p),.b true,.b true,.b true,.v (.bool true)]) (obs:=_) hE Try.func14 Ql (by kernel_rfl) ho hr
theorem p14_start_4 (c:Cir) (p:Psg) {E:Env} {res:AV} (hE:Qn Try.prog 14 res E) (ho:AllP [Qd Try.prog (.clos 15 [] []) [.agg (Qq c)] (.bool (farB c)),(farB c)=false,(decide ((p.row.length:Int) > 20))=false,(decide ((p.cars.length:Int) > 60))=false,Qd Try.prog (.clos 18 [] []) [.agg (Qq c)] (.agg (Qq c)),1=1,0=0,0=0,(0+p.row.length)≤2147483648,((Qb p.row).drop 0).take (p.row.length*3)=(Qb p.row),(Qb p.row).length=(p.row.length*3),noRefs (Qb p.row)=true,Qd Try.prog (.clos 37 [] []) [.agg (Qq c),.rsl (Qb p.row) 0 (0+p.row.length)] (Qs c p),Qd Try.prog (.clos 38 [] []) (QX c p) (Qs c p),((Qa c p.row).2 != 0)=true,((Qa c p.row).2 != 3)=true,((Qa c p.row).2 == (Qa c p.row).2)=false])
 (hr:AvLe (.bool false) res):G Try.prog E [.code (Qh Try.prog 14)] ⟨(Xq c p)++unds (Try.f14.ntmps - 2),[]⟩ :=
 Qf (n:=400) (evs:=[.v (.bool (farB c)),.b false,.b false,.b false,.v (.agg (Qq c)),.fz,.cs (Qb p.row),.v (Qs c p),.v (Qs c p),.b true,.b true,.b false]) (obs:=_) hE Try.func14 Ql (by kernel_rfl) ho hr
theorem p14_start_5 (c:Cir) (p:Psg) {E:Env} {res:AV} (hE:Qn Try.prog 14 res E) (ho:AllP [Qd Try.prog (.clos 15 [] []) [.agg (Qq c)] (.bool (farB c)),(farB c)=false,(decide ((p.row.length:Int) > 20))=false,(decide ((p.cars.length:Int) > 60))=false,Qd Try.prog (.clos 18 [] []) [.agg (Qq c)] (.agg (Qq c)),1=1,0=0,0=0,(0+p.row.length)≤2147483648,((Qb p.row).drop 0).take (p.row.length*3)=(Qb p.row),(Qb p.row).length=(p.row.length*3),noRefs (Qb p.row)=true,Qd Try.prog (.clos 37 [] []) [.agg (Qq c),.rsl (Qb p.row) 0 (0+p.row.length)] (Qs c p),Qd Try.prog (.clos 38 [] []) (QX c p) (Qs c p),((Qa c p.row).2 != 0)=true,((Qa c p.row).2 != 3)=false,((Qa c p.row).2 != 0)=true,((Qa c p.row).2 != 3)=true])
 (hr:AvLe (.bool false) res):G Try.prog E [.code (Qh Try.prog 14)] ⟨(Xq c p)++unds (Try.f14.ntmps - 2),[]⟩ :=
 Qf (n:=400) (evs:=[.v (.bool (farB c)),.b false,.b false,.b false,.v (.agg (Qq c)),.fz,.cs (Qb p.row),.v (Qs c p),.v (Qs c p),.b true,.b false,.b true,.b true]) (obs:=_) hE Try.func14 Ql (by kernel_rfl) ho hr
theorem p14_start_6 (c:Cir) (p:Psg) {E:Env} {res:AV} (hE:Qn Try.prog 14 res E) (ho:AllP [Qd Try.prog (.clos 15 [] []) [.agg (Qq c)] (.bool (farB c)),(farB c)=false,(decide ((p.row.length:Int) > 20))=false,(decide ((p.cars.length:Int) > 60))=false,Qd Try.prog (.clos 18 [] []) [.agg (Qq c)] (.agg (Qq c)),1=1,0=0,0=0,(0+p.row.length)≤2147483648,((Qb p.row).drop 0).take (p.row.length*3)=(Qb p.row),(Qb p.row).length=(p.row.length*3),noRefs (Qb p.row)=true,Qd Try.prog (.clos 37 [] []) [.agg (Qq c),.rsl (Qb p.row) 0 (0+p.row.length)] (Qs c p),Qd Try.prog (.clos 38 [] []) (QX c p) (Qs c p),((Qa c p.row).2 != 0)=true,((Qa c p.row).2 != 3)=false,((Qa c p.row).2 != 0)=true,((Qa c p.row).2 != 3)=false,((Qa c p.row).2 == 0)=true,Qd Try.prog (.clos 40 [] []) (YE c p) (Xn c p),(!(Qc c p.row ((Qa c p.row).1)).2)=true,true=true])
 (hr:AvLe (.bool false) res):G Try.prog E [.code (Qh Try.prog 14)] ⟨(Xq c p)++unds (Try.f14.ntmps - 2),[]⟩ :=
 Qf (n:=400) (evs:=[.v (.bool (farB c)),.b false,.b false,.b false,.v (.agg (Qq c)),.fz,.cs (Qb p.row),.v (Qs c p),.v (Qs c p),.b true,.b false,.b true,.b false,.b true,.v (Xn c p),.b true,.b true]) (obs:=_) hE Try.func14 Ql (by kernel_rfl) ho hr
theorem p14_start_7 (c:Cir) (p:Psg) {E:Env} {res:AV} (hE:Qn Try.prog 14 res E) (ho:AllP [Qd Try.prog (.clos 15 [] []) [.agg (Qq c)] (.bool (farB c)),(farB c)=false,(decide ((p.row.length:Int) > 20))=false,(decide ((p.cars.length:Int) > 60))=false,Qd Try.prog (.clos 18 [] []) [.agg (Qq c)] (.agg (Qq c)),1=1,0=0,0=0,(0+p.row.length)≤2147483648,((Qb p.row).drop 0).take (p.row.length*3)=(Qb p.row),(Qb p.row).length=(p.row.length*3),noRefs (Qb p.row)=true,Qd Try.prog (.clos 37 [] []) [.agg (Qq c),.rsl (Qb p.row) 0 (0+p.row.length)] (Qs c p),Qd Try.prog (.clos 38 [] []) (QX c p) (Qs c p),((Qa c p.row).2 != 0)=true,((Qa c p.row).2 != 3)=false,((Qa c p.row).2 != 0)=true,((Qa c p.row).2 != 3)=false,((Qa c p.row).2 == 0)=true,Qd Try.prog (.clos 40 [] []) (YE c p) (Xn c p),(!(Qc c p.row ((Qa c p.row).1)).2)=false,Qd Try.prog (.clos 41 [] []) (Vd c p) (QZ c p),(!(Qy c ((Qc c p.row ((Qa c p.row).1)).1)))=true])
 (hr:AvLe (.bool false) res):G Try.prog E [.code (Qh Try.prog 14)] ⟨(Xq c p)++unds (Try.f14.ntmps - 2),[]⟩ :=
 Qf (n:=400) (evs:=[.v (.bool (farB c)),.b false,.b false,.b false,.v (.agg (Qq c)),.fz,.cs (Qb p.row),.v (Qs c p),.v (Qs c p),.b true,.b false,.b true,.b false,.b true,.v (Xn c p),.b false,.v (QZ c p),.b true]) (obs:=_) hE Try.func14 Ql (by kernel_rfl) ho hr
theorem p14_start_8 (c:Cir) (p:Psg) {E:Env} {res:AV} (hE:Qn Try.prog 14 res E) (ho:AllP [Qd Try.prog (.clos 15 [] []) [.agg (Qq c)] (.bool (farB c)),(farB c)=false,(decide ((p.row.length:Int) > 20))=false,(decide ((p.cars.length:Int) > 60))=false,Qd Try.prog (.clos 18 [] []) [.agg (Qq c)] (.agg (Qq c)),1=1,0=0,0=0,(0+p.row.length)≤2147483648,((Qb p.row).drop 0).take (p.row.length*3)=(Qb p.row),(Qb p.row).length=(p.row.length*3),noRefs (Qb p.row)=true,Qd Try.prog (.clos 37 [] []) [.agg (Qq c),.rsl (Qb p.row) 0 (0+p.row.length)] (Qs c p),Qd Try.prog (.clos 38 [] []) (QX c p) (Qs c p),((Qa c p.row).2 != 0)=true,((Qa c p.row).2 != 3)=false,((Qa c p.row).2 != 0)=true,((Qa c p.row).2 != 3)=false,((Qa c p.row).2 == 0)=true,Qd Try.prog (.clos 40 [] []) (YE c p) (Xn c p),(!(Qc c p.row ((Qa c p.row).1)).2)=false,Qd Try.prog (.clos 41 [] []) (Vd c p) (QZ c p),(!(Qy c ((Qc c p.row ((Qa c p.row).1)).1)))=false,Qd Try.prog (.clos 40 [] []) (XR c p) (QW c p),(!(Qc c p.row p.cars).2)=true,true=true,Qd Try.prog (.clos 17 [] []) [] (.bool true)])
 (hr:AvLe (.bool true) res):G Try.prog E [.code (Qh Try.prog 14)] ⟨(Xq c p)++unds (Try.f14.ntmps - 2),[]⟩ :=
 Qf (n:=400) (evs:=[.v (.bool (farB c)),.b false,.b false,.b false,.v (.agg (Qq c)),.fz,.cs (Qb p.row),.v (Qs c p),.v (Qs c p),.b true,.b false,.b true,.b false,.b true,.v (Xn c p),.b false,.v (QZ c p),.b false,.v (QW c p),.b true,.b true,.v (.bool true)]) (obs:=_) hE Try.func14 Ql (by kernel_rfl) ho hr
theorem p14_start_9 (c:Cir) (p:Psg) {E:Env} {res:AV} (hE:Qn Try.prog 14 res E) (ho:AllP [Qd Try.prog (.clos 15 [] []) [.agg (Qq c)] (.bool (farB c)),(farB c)=false,(decide ((p.row.length:Int) > 20))=false,(decide ((p.cars.length:Int) > 60))=false,Qd Try.prog (.clos 18 [] []) [.agg (Qq c)] (.agg (Qq c)),1=1,0=0,0=0,(0+p.row.length)≤2147483648,((Qb p.row).drop 0).take (p.row.length*3)=(Qb p.row),(Qb p.row).length=(p.row.length*3),noRefs (Qb p.row)=true,Qd Try.prog (.clos 37 [] []) [.agg (Qq c),.rsl (Qb p.row) 0 (0+p.row.length)] (Qs c p),Qd Try.prog (.clos 38 [] []) (QX c p) (Qs c p),((Qa c p.row).2 != 0)=true,((Qa c p.row).2 != 3)=false,((Qa c p.row).2 != 0)=true,((Qa c p.row).2 != 3)=false,((Qa c p.row).2 == 0)=true,Qd Try.prog (.clos 40 [] []) (YE c p) (Xn c p),(!(Qc c p.row ((Qa c p.row).1)).2)=false,Qd Try.prog (.clos 41 [] []) (Vd c p) (QZ c p),(!(Qy c ((Qc c p.row ((Qa c p.row).1)).1)))=false,Qd Try.prog (.clos 40 [] []) (XR c p) (QW c p),(!(Qc c p.row p.cars).2)=false,Qd Try.prog (.clos 41 [] []) (Yn c p) (.bool (Qy c ((Qc c p.row p.cars).1))),(!(Qy c ((Qc c p.row p.cars).1)))=true,Qd Try.prog (.clos 17 [] []) [] (.bool true)])
 (hr:AvLe (.bool true) res):G Try.prog E [.code (Qh Try.prog 14)] ⟨(Xq c p)++unds (Try.f14.ntmps - 2),[]⟩ :=
 Qf (n:=400) (evs:=[.v (.bool (farB c)),.b false,.b false,.b false,.v (.agg (Qq c)),.fz,.cs (Qb p.row),.v (Qs c p),.v (Qs c p),.b true,.b false,.b true,.b false,.b true,.v (Xn c p),.b false,.v (QZ c p),.b false,.v (QW c p),.b false,.v (.bool (Qy c ((Qc c p.row p.cars).1))),.b true,.v (.bool true)]) (obs:=_) hE Try.func14 Ql (by kernel_rfl) ho hr
theorem p14_start_10 (c:Cir) (p:Psg) {E:Env} {res:AV} (hE:Qn Try.prog 14 res E) (ho:AllP [Qd Try.prog (.clos 15 [] []) [.agg (Qq c)] (.bool (farB c)),(farB c)=false,(decide ((p.row.length:Int) > 20))=false,(decide ((p.cars.length:Int) > 60))=false,Qd Try.prog (.clos 18 [] []) [.agg (Qq c)] (.agg (Qq c)),1=1,0=0,0=0,(0+p.row.length)≤2147483648,((Qb p.row).drop 0).take (p.row.length*3)=(Qb p.row),(Qb p.row).length=(p.row.length*3),noRefs (Qb p.row)=true,Qd Try.prog (.clos 37 [] []) [.agg (Qq c),.rsl (Qb p.row) 0 (0+p.row.length)] (Qs c p),Qd Try.prog (.clos 38 [] []) (QX c p) (Qs c p),((Qa c p.row).2 != 0)=true,((Qa c p.row).2 != 3)=false,((Qa c p.row).2 != 0)=true,((Qa c p.row).2 != 3)=false,((Qa c p.row).2 == 0)=true,Qd Try.prog (.clos 40 [] []) (YE c p) (Xn c p),(!(Qc c p.row ((Qa c p.row).1)).2)=false,Qd Try.prog (.clos 41 [] []) (Vd c p) (QZ c p),(!(Qy c ((Qc c p.row ((Qa c p.row).1)).1)))=false,Qd Try.prog (.clos 40 [] []) (XR c p) (QW c p),(!(Qc c p.row p.cars).2)=false,Qd Try.prog (.clos 41 [] []) (Yn c p) (.bool (Qy c ((Qc c p.row p.cars).1))),(!(Qy c ((Qc c p.row p.cars).1)))=false,((Qa c p.row).2 == 0)=true,(decide (((((Qa c p.row).1).length:Nat):Int)≤(p.cars.length:Int)))=true,Qd Try.prog (.clos 17 [] []) [] (.bool true)])
 (hr:AvLe (.bool true) res):G Try.prog E [.code (Qh Try.prog 14)] ⟨(Xq c p)++unds (Try.f14.ntmps - 2),[]⟩ :=
 Qf (n:=400) (evs:=[.v (.bool (farB c)),.b false,.b false,.b false,.v (.agg (Qq c)),.fz,.cs (Qb p.row),.v (Qs c p),.v (Qs c p),.b true,.b false,.b true,.b false,.b true,.v (Xn c p),.b false,.v (QZ c p),.b false,.v (QW c p),.b false,.v (.bool (Qy c ((Qc c p.row p.cars).1))),.b false,.b true,.b true,.v (.bool true)]) (obs:=_) hE Try.func14 Ql (by kernel_rfl) ho hr
theorem p14_start_11 (c:Cir) (p:Psg) {E:Env} {res:AV} (hE:Qn Try.prog 14 res E) (ho:AllP [Qd Try.prog (.clos 15 [] []) [.agg (Qq c)] (.bool (farB c)),(farB c)=false,(decide ((p.row.length:Int) > 20))=false,(decide ((p.cars.length:Int) > 60))=false,Qd Try.prog (.clos 18 [] []) [.agg (Qq c)] (.agg (Qq c)),1=1,0=0,0=0,(0+p.row.length)≤2147483648,((Qb p.row).drop 0).take (p.row.length*3)=(Qb p.row),(Qb p.row).length=(p.row.length*3),noRefs (Qb p.row)=true,Qd Try.prog (.clos 37 [] []) [.agg (Qq c),.rsl (Qb p.row) 0 (0+p.row.length)] (Qs c p),Qd Try.prog (.clos 38 [] []) (QX c p) (Qs c p),((Qa c p.row).2 != 0)=true,((Qa c p.row).2 != 3)=false,((Qa c p.row).2 != 0)=true,((Qa c p.row).2 != 3)=false,((Qa c p.row).2 == 0)=true,Qd Try.prog (.clos 40 [] []) (YE c p) (Xn c p),(!(Qc c p.row ((Qa c p.row).1)).2)=false,Qd Try.prog (.clos 41 [] []) (Vd c p) (QZ c p),(!(Qy c ((Qc c p.row ((Qa c p.row).1)).1)))=false,Qd Try.prog (.clos 40 [] []) (XR c p) (QW c p),(!(Qc c p.row p.cars).2)=false,Qd Try.prog (.clos 41 [] []) (Yn c p) (.bool (Qy c ((Qc c p.row p.cars).1))),(!(Qy c ((Qc c p.row p.cars).1)))=false,((Qa c p.row).2 == 0)=true,(decide (((((Qa c p.row).1).length:Nat):Int)≤(p.cars.length:Int)))=false])
 (hr:AvLe (.bool false) res):G Try.prog E [.code (Qh Try.prog 14)] ⟨(Xq c p)++unds (Try.f14.ntmps - 2),[]⟩ :=
 Qf (n:=400) (evs:=[.v (.bool (farB c)),.b false,.b false,.b false,.v (.agg (Qq c)),.fz,.cs (Qb p.row),.v (Qs c p),.v (Qs c p),.b true,.b false,.b true,.b false,.b true,.v (Xn c p),.b false,.v (QZ c p),.b false,.v (QW c p),.b false,.v (.bool (Qy c ((Qc c p.row p.cars).1))),.b false,.b true,.b false]) (obs:=_) hE Try.func14 Ql (by kernel_rfl) ho hr
theorem p14_start_12 (c:Cir) (p:Psg) {E:Env} {res:AV} (hE:Qn Try.prog 14 res E) (ho:AllP [Qd Try.prog (.clos 15 [] []) [.agg (Qq c)] (.bool (farB c)),(farB c)=false,(decide ((p.row.length:Int) > 20))=false,(decide ((p.cars.length:Int) > 60))=false,Qd Try.prog (.clos 18 [] []) [.agg (Qq c)] (.agg (Qq c)),1=1,0=0,0=0,(0+p.row.length)≤2147483648,((Qb p.row).drop 0).take (p.row.length*3)=(Qb p.row),(Qb p.row).length=(p.row.length*3),noRefs (Qb p.row)=true,Qd Try.prog (.clos 37 [] []) [.agg (Qq c),.rsl (Qb p.row) 0 (0+p.row.length)] (Qs c p),Qd Try.prog (.clos 38 [] []) (QX c p) (Qs c p),((Qa c p.row).2 != 0)=true,((Qa c p.row).2 != 3)=false,((Qa c p.row).2 != 0)=true,((Qa c p.row).2 != 3)=false,((Qa c p.row).2 == 0)=true,Qd Try.prog (.clos 40 [] []) (YE c p) (Xn c p),(!(Qc c p.row ((Qa c p.row).1)).2)=false,Qd Try.prog (.clos 41 [] []) (Vd c p) (QZ c p),(!(Qy c ((Qc c p.row ((Qa c p.row).1)).1)))=false,Qd Try.prog (.clos 40 [] []) (XR c p) (QW c p),(!(Qc c p.row p.cars).2)=false,Qd Try.prog (.clos 41 [] []) (Yn c p) (.bool (Qy c ((Qc c p.row p.cars).1))),(!(Qy c ((Qc c p.row p.cars).1)))=false,((Qa c p.row).2 == 0)=false,false=false])
 (hr:AvLe (.bool false) res):G Try.prog E [.code (Qh Try.prog 14)] ⟨(Xq c p)++unds (Try.f14.ntmps - 2),[]⟩ :=
 Qf (n:=400) (evs:=[.v (.bool (farB c)),.b false,.b false,.b false,.v (.agg (Qq c)),.fz,.cs (Qb p.row),.v (Qs c p),.v (Qs c p),.b true,.b false,.b true,.b false,.b true,.v (Xn c p),.b false,.v (QZ c p),.b false,.v (QW c p),.b false,.v (.bool (Qy c ((Qc c p.row p.cars).1))),.b false,.b false,.b false]) (obs:=_) hE Try.func14 Ql (by kernel_rfl) ho hr
theorem p14_start_13 (c:Cir) (p:Psg) {E:Env} {res:AV} (hE:Qn Try.prog 14 res E) (ho:AllP [Qd Try.prog (.clos 15 [] []) [.agg (Qq c)] (.bool (farB c)),(farB c)=false,(decide ((p.row.length:Int) > 20))=false,(decide ((p.cars.length:Int) > 60))=false,Qd Try.prog (.clos 18 [] []) [.agg (Qq c)] (.agg (Qq c)),1=1,0=0,0=0,(0+p.row.length)≤2147483648,((Qb p.row).drop 0).take (p.row.length*3)=(Qb p.row),(Qb p.row).length=(p.row.length*3),noRefs (Qb p.row)=true,Qd Try.prog (.clos 37 [] []) [.agg (Qq c),.rsl (Qb p.row) 0 (0+p.row.length)] (Qs c p),Qd Try.prog (.clos 38 [] []) (QX c p) (Qs c p),((Qa c p.row).2 != 0)=true,((Qa c p.row).2 != 3)=false,((Qa c p.row).2 != 0)=true,((Qa c p.row).2 != 3)=false,((Qa c p.row).2 == 0)=false,Qd Try.prog (.clos 40 [] []) (XR c p) (QW c p),(!(Qc c p.row p.cars).2)=true,true=true,Qd Try.prog (.clos 17 [] []) [] (.bool true)])
 (hr:AvLe (.bool true) res):G Try.prog E [.code (Qh Try.prog 14)] ⟨(Xq c p)++unds (Try.f14.ntmps - 2),[]⟩ :=
 Qf (n:=400) (evs:=[.v (.bool (farB c)),.b false,.b false,.b false,.v (.agg (Qq c)),.fz,.cs (Qb p.row),.v (Qs c p),.v (Qs c p),.b true,.b false,.b true,.b false,.b false,.v (QW c p),.b true,.b true,.v (.bool true)]) (obs:=_) hE Try.func14 Ql (by kernel_rfl) ho hr
theorem p14_start_14 (c:Cir) (p:Psg) {E:Env} {res:AV} (hE:Qn Try.prog 14 res E) (ho:AllP [Qd Try.prog (.clos 15 [] []) [.agg (Qq c)] (.bool (farB c)),(farB c)=false,(decide ((p.row.length:Int) > 20))=false,(decide ((p.cars.length:Int) > 60))=false,Qd Try.prog (.clos 18 [] []) [.agg (Qq c)] (.agg (Qq c)),1=1,0=0,0=0,(0+p.row.length)≤2147483648,((Qb p.row).drop 0).take (p.row.length*3)=(Qb p.row),(Qb p.row).length=(p.row.length*3),noRefs (Qb p.row)=true,Qd Try.prog (.clos 37 [] []) [.agg (Qq c),.rsl (Qb p.row) 0 (0+p.row.length)] (Qs c p),Qd Try.prog (.clos 38 [] []) (QX c p) (Qs c p),((Qa c p.row).2 != 0)=true,((Qa c p.row).2 != 3)=false,((Qa c p.row).2 != 0)=true,((Qa c p.row).2 != 3)=false,((Qa c p.row).2 == 0)=false,Qd Try.prog (.clos 40 [] []) (XR c p) (QW c p),(!(Qc c p.row p.cars).2)=false,Qd Try.prog (.clos 41 [] []) (Yn c p) (.bool (Qy c ((Qc c p.row p.cars).1))),(!(Qy c ((Qc c p.row p.cars).1)))=true,Qd Try.prog (.clos 17 [] []) [] (.bool true)])
 (hr:AvLe (.bool true) res):G Try.prog E [.code (Qh Try.prog 14)] ⟨(Xq c p)++unds (Try.f14.ntmps - 2),[]⟩ :=
 Qf (n:=400) (evs:=[.v (.bool (farB c)),.b false,.b false,.b false,.v (.agg (Qq c)),.fz,.cs (Qb p.row),.v (Qs c p),.v (Qs c p),.b true,.b false,.b true,.b false,.b false,.v (QW c p),.b false,.v (.bool (Qy c ((Qc c p.row p.cars).1))),.b true,.v (.bool true)]) (obs:=_) hE Try.func14 Ql (by kernel_rfl) ho hr
theorem p14_start_15 (c:Cir) (p:Psg) {E:Env} {res:AV} (hE:Qn Try.prog 14 res E) (ho:AllP [Qd Try.prog (.clos 15 [] []) [.agg (Qq c)] (.bool (farB c)),(farB c)=false,(decide ((p.row.length:Int) > 20))=false,(decide ((p.cars.length:Int) > 60))=false,Qd Try.prog (.clos 18 [] []) [.agg (Qq c)] (.agg (Qq c)),1=1,0=0,0=0,(0+p.row.length)≤2147483648,((Qb p.row).drop 0).take (p.row.length*3)=(Qb p.row),(Qb p.row).length=(p.row.length*3),noRefs (Qb p.row)=true,Qd Try.prog (.clos 37 [] []) [.agg (Qq c),.rsl (Qb p.row) 0 (0+p.row.length)] (Qs c p),Qd Try.prog (.clos 38 [] []) (QX c p) (Qs c p),((Qa c p.row).2 != 0)=true,((Qa c p.row).2 != 3)=false,((Qa c p.row).2 != 0)=true,((Qa c p.row).2 != 3)=false,((Qa c p.row).2 == 0)=false,Qd Try.prog (.clos 40 [] []) (XR c p) (QW c p),(!(Qc c p.row p.cars).2)=false,Qd Try.prog (.clos 41 [] []) (Yn c p) (.bool (Qy c ((Qc c p.row p.cars).1))),(!(Qy c ((Qc c p.row p.cars).1)))=false,((Qa c p.row).2 == 0)=true,(decide (((((Qa c p.row).1).length:Nat):Int)≤(p.cars.length:Int)))=true,Qd Try.prog (.clos 17 [] []) [] (.bool true)])
 (hr:AvLe (.bool true) res):G Try.prog E [.code (Qh Try.prog 14)] ⟨(Xq c p)++unds (Try.f14.ntmps - 2),[]⟩ :=
 Qf (n:=400) (evs:=[.v (.bool (farB c)),.b false,.b false,.b false,.v (.agg (Qq c)),.fz,.cs (Qb p.row),.v (Qs c p),.v (Qs c p),.b true,.b false,.b true,.b false,.b false,.v (QW c p),.b false,.v (.bool (Qy c ((Qc c p.row p.cars).1))),.b false,.b true,.b true,.v (.bool true)]) (obs:=_) hE Try.func14 Ql (by kernel_rfl) ho hr
theorem p14_start_16 (c:Cir) (p:Psg) {E:Env} {res:AV} (hE:Qn Try.prog 14 res E) (ho:AllP [Qd Try.prog (.clos 15 [] []) [.agg (Qq c)] (.bool (farB c)),(farB c)=false,(decide ((p.row.length:Int) > 20))=false,(decide ((p.cars.length:Int) > 60))=false,Qd Try.prog (.clos 18 [] []) [.agg (Qq c)] (.agg (Qq c)),1=1,0=0,0=0,(0+p.row.length)≤2147483648,((Qb p.row).drop 0).take (p.row.length*3)=(Qb p.row),(Qb p.row).length=(p.row.length*3),noRefs (Qb p.row)=true,Qd Try.prog (.clos 37 [] []) [.agg (Qq c),.rsl (Qb p.row) 0 (0+p.row.length)] (Qs c p),Qd Try.prog (.clos 38 [] []) (QX c p) (Qs c p),((Qa c p.row).2 != 0)=true,((Qa c p.row).2 != 3)=false,((Qa c p.row).2 != 0)=true,((Qa c p.row).2 != 3)=false,((Qa c p.row).2 == 0)=false,Qd Try.prog (.clos 40 [] []) (XR c p) (QW c p),(!(Qc c p.row p.cars).2)=false,Qd Try.prog (.clos 41 [] []) (Yn c p) (.bool (Qy c ((Qc c p.row p.cars).1))),(!(Qy c ((Qc c p.row p.cars).1)))=false,((Qa c p.row).2 == 0)=true,(decide (((((Qa c p.row).1).length:Nat):Int)≤(p.cars.length:Int)))=false])
 (hr:AvLe (.bool false) res):G Try.prog E [.code (Qh Try.prog 14)] ⟨(Xq c p)++unds (Try.f14.ntmps - 2),[]⟩ :=
 Qf (n:=400) (evs:=[.v (.bool (farB c)),.b false,.b false,.b false,.v (.agg (Qq c)),.fz,.cs (Qb p.row),.v (Qs c p),.v (Qs c p),.b true,.b false,.b true,.b false,.b false,.v (QW c p),.b false,.v (.bool (Qy c ((Qc c p.row p.cars).1))),.b false,.b true,.b false]) (obs:=_) hE Try.func14 Ql (by kernel_rfl) ho hr
theorem p14_start_17 (c:Cir) (p:Psg) {E:Env} {res:AV} (hE:Qn Try.prog 14 res E) (ho:AllP [Qd Try.prog (.clos 15 [] []) [.agg (Qq c)] (.bool (farB c)),(farB c)=false,(decide ((p.row.length:Int) > 20))=false,(decide ((p.cars.length:Int) > 60))=false,Qd Try.prog (.clos 18 [] []) [.agg (Qq c)] (.agg (Qq c)),1=1,0=0,0=0,(0+p.row.length)≤2147483648,((Qb p.row).drop 0).take (p.row.length*3)=(Qb p.row),(Qb p.row).length=(p.row.length*3),noRefs (Qb p.row)=true,Qd Try.prog (.clos 37 [] []) [.agg (Qq c),.rsl (Qb p.row) 0 (0+p.row.length)] (Qs c p),Qd Try.prog (.clos 38 [] []) (QX c p) (Qs c p),((Qa c p.row).2 != 0)=true,((Qa c p.row).2 != 3)=false,((Qa c p.row).2 != 0)=true,((Qa c p.row).2 != 3)=false,((Qa c p.row).2 == 0)=false,Qd Try.prog (.clos 40 [] []) (XR c p) (QW c p),(!(Qc c p.row p.cars).2)=false,Qd Try.prog (.clos 41 [] []) (Yn c p) (.bool (Qy c ((Qc c p.row p.cars).1))),(!(Qy c ((Qc c p.row p.cars).1)))=false,((Qa c p.row).2 == 0)=false,false=false])
 (hr:AvLe (.bool false) res):G Try.prog E [.code (Qh Try.prog 14)] ⟨(Xq c p)++unds (Try.f14.ntmps - 2),[]⟩ :=
 Qf (n:=400) (evs:=[.v (.bool (farB c)),.b false,.b false,.b false,.v (.agg (Qq c)),.fz,.cs (Qb p.row),.v (Qs c p),.v (Qs c p),.b true,.b false,.b true,.b false,.b false,.v (QW c p),.b false,.v (.bool (Qy c ((Qc c p.row p.cars).1))),.b false,.b false,.b false]) (obs:=_) hE Try.func14 Ql (by kernel_rfl) ho hr
theorem p14_start_18 (c:Cir) (p:Psg) {E:Env} {res:AV} (hE:Qn Try.prog 14 res E) (ho:AllP [Qd Try.prog (.clos 15 [] []) [.agg (Qq c)] (.bool (farB c)),(farB c)=false,(decide ((p.row.length:Int) > 20))=false,(decide ((p.cars.length:Int) > 60))=false,Qd Try.prog (.clos 18 [] []) [.agg (Qq c)] (.agg (Qq c)),1=1,0=0,0=0,(0+p.row.length)≤2147483648,((Qb p.row).drop 0).take (p.row.length*3)=(Qb p.row),(Qb p.row).length=(p.row.length*3),noRefs (Qb p.row)=true,Qd Try.prog (.clos 37 [] []) [.agg (Qq c),.rsl (Qb p.row) 0 (0+p.row.length)] (Qs c p),Qd Try.prog (.clos 38 [] []) (QX c p) (Qs c p),((Qa c p.row).2 != 0)=true,((Qa c p.row).2 != 3)=false,((Qa c p.row).2 != 0)=false,false=false,((Qa c p.row).2 == 0)=true,Qd Try.prog (.clos 40 [] []) (YE c p) (Xn c p),(!(Qc c p.row ((Qa c p.row).1)).2)=true,true=true])
 (hr:AvLe (.bool false) res):G Try.prog E [.code (Qh Try.prog 14)] ⟨(Xq c p)++unds (Try.f14.ntmps - 2),[]⟩ :=
 Qf (n:=400) (evs:=[.v (.bool (farB c)),.b false,.b false,.b false,.v (.agg (Qq c)),.fz,.cs (Qb p.row),.v (Qs c p),.v (Qs c p),.b true,.b false,.b false,.b false,.b true,.v (Xn c p),.b true,.b true]) (obs:=_) hE Try.func14 Ql (by kernel_rfl) ho hr
theorem p14_start_19 (c:Cir) (p:Psg) {E:Env} {res:AV} (hE:Qn Try.prog 14 res E) (ho:AllP [Qd Try.prog (.clos 15 [] []) [.agg (Qq c)] (.bool (farB c)),(farB c)=false,(decide ((p.row.length:Int) > 20))=false,(decide ((p.cars.length:Int) > 60))=false,Qd Try.prog (.clos 18 [] []) [.agg (Qq c)] (.agg (Qq c)),1=1,0=0,0=0,(0+p.row.length)≤2147483648,((Qb p.row).drop 0).take (p.row.length*3)=(Qb p.row),(Qb p.row).length=(p.row.length*3),noRefs (Qb p.row)=true,Qd Try.prog (.clos 37 [] []) [.agg (Qq c),.rsl (Qb p.row) 0 (0+p.row.length)] (Qs c p),Qd Try.prog (.clos 38 [] []) (QX c p) (Qs c p),((Qa c p.row).2 != 0)=true,((Qa c p.row).2 != 3)=false,((Qa c p.row).2 != 0)=false,false=false,((Qa c p.row).2 == 0)=true,Qd Try.prog (.clos 40 [] []) (YE c p) (Xn c p),(!(Qc c p.row ((Qa c p.row).1)).2)=false,Qd Try.prog (.clos 41 [] []) (Vd c p) (QZ c p),(!(Qy c ((Qc c p.row ((Qa c p.row).1)).1)))=true])
 (hr:AvLe (.bool false) res):G Try.prog E [.code (Qh Try.prog 14)] ⟨(Xq c p)++unds (Try.f14.ntmps - 2),[]⟩ :=
 Qf (n:=400) (evs:=[.v (.bool (farB c)),.b false,.b false,.b false,.v (.agg (Qq c)),.fz,.cs (Qb p.row),.v (Qs c p),.v (Qs c p),.b true,.b false,.b false,.b false,.b true,.v (Xn c p),.b false,.v (QZ c p),.b true]) (obs:=_) hE Try.func14 Ql (by kernel_rfl) ho hr
theorem p14_start_20 (c:Cir) (p:Psg) {E:Env} {res:AV} (hE:Qn Try.prog 14 res E) (ho:AllP [Qd Try.prog (.clos 15 [] []) [.agg (Qq c)] (.bool (farB c)),(farB c)=false,(decide ((p.row.length:Int) > 20))=false,(decide ((p.cars.length:Int) > 60))=false,Qd Try.prog (.clos 18 [] []) [.agg (Qq c)] (.agg (Qq c)),1=1,0=0,0=0,(0+p.row.length)≤2147483648,((Qb p.row).drop 0).take (p.row.length*3)=(Qb p.row),(Qb p.row).length=(p.row.length*3),noRefs (Qb p.row)=true,Qd Try.prog (.clos 37 [] []) [.agg (Qq c),.rsl (Qb p.row) 0 (0+p.row.length)] (Qs c p),Qd Try.prog (.clos 38 [] []) (QX c p) (Qs c p),((Qa c p.row).2 != 0)=true,((Qa c p.row).2 != 3)=false,((Qa c p.row).2 != 0)=false,false=false,((Qa c p.row).2 == 0)=true,Qd Try.prog (.clos 40 [] []) (YE c p) (Xn c p),(!(Qc c p.row ((Qa c p.row).1)).2)=false,Qd Try.prog (.clos 41 [] []) (Vd c p) (QZ c p),(!(Qy c ((Qc c p.row ((Qa c p.row).1)).1)))=false,Qd Try.prog (.clos 40 [] []) (XR c p) (QW c p),(!(Qc c p.row p.cars).2)=true,true=true,Qd Try.prog (.clos 17 [] []) [] (.bool true)])
 (hr:AvLe (.bool true) res):G Try.prog E [.code (Qh Try.prog 14)] ⟨(Xq c p)++unds (Try.f14.ntmps - 2),[]⟩ :=
 Qf (n:=400) (evs:=[.v (.bool (farB c)),.b false,.b false,.b false,.v (.agg (Qq c)),.fz,.cs (Qb p.row),.v (Qs c p),.v (Qs c p),.b true,.b false,.b false,.b false,.b true,.v (Xn c p),.b false,.v (QZ c p),.b false,.v (QW c p),.b true,.b true,.v (.bool true)]) (obs:=_) hE Try.func14 Ql (by kernel_rfl) ho hr
theorem p14_start_21 (c:Cir) (p:Psg) {E:Env} {res:AV} (hE:Qn Try.prog 14 res E) (ho:AllP [Qd Try.prog (.clos 15 [] []) [.agg (Qq c)] (.bool (farB c)),(farB c)=false,(decide ((p.row.length:Int) > 20))=false,(decide ((p.cars.length:Int) > 60))=false,Qd Try.prog (.clos 18 [] []) [.agg (Qq c)] (.agg (Qq c)),1=1,0=0,0=0,(0+p.row.length)≤2147483648,((Qb p.row).drop 0).take (p.row.length*3)=(Qb p.row),(Qb p.row).length=(p.row.length*3),noRefs (Qb p.row)=true,Qd Try.prog (.clos 37 [] []) [.agg (Qq c),.rsl (Qb p.row) 0 (0+p.row.length)] (Qs c p),Qd Try.prog (.clos 38 [] []) (QX c p) (Qs c p),((Qa c p.row).2 != 0)=true,((Qa c p.row).2 != 3)=false,((Qa c p.row).2 != 0)=false,false=false,((Qa c p.row).2 == 0)=true,Qd Try.prog (.clos 40 [] []) (YE c p) (Xn c p),(!(Qc c p.row ((Qa c p.row).1)).2)=false,Qd Try.prog (.clos 41 [] []) (Vd c p) (QZ c p),(!(Qy c ((Qc c p.row ((Qa c p.row).1)).1)))=false,Qd Try.prog (.clos 40 [] []) (XR c p) (QW c p),(!(Qc c p.row p.cars).2)=false,Qd Try.prog (.clos 41 [] []) (Yn c p) (.bool (Qy c ((Qc c p.row p.cars).1))),(!(Qy c ((Qc c p.row p.cars).1)))=true,Qd Try.prog (.clos 17 [] []) [] (.bool true)])
 (hr:AvLe (.bool true) res):G Try.prog E [.code (Qh Try.prog 14)] ⟨(Xq c p)++unds (Try.f14.ntmps - 2),[]⟩ :=
 Qf (n:=400) (evs:=[.v (.bool (farB c)),.b false,.b false,.b false,.v (.agg (Qq c)),.fz,.cs (Qb p.row),.v (Qs c p),.v (Qs c p),.b true,.b false,.b false,.b false,.b true,.v (Xn c p),.b false,.v (QZ c p),.b false,.v (QW c p),.b false,.v (.bool (Qy c ((Qc c p.row p.cars).1))),.b true,.v (.bool true)]) (obs:=_) hE Try.func14 Ql (by kernel_rfl) ho hr
theorem p14_start_22 (c:Cir) (p:Psg) {E:Env} {res:AV} (hE:Qn Try.prog 14 res E) (ho:AllP [Qd Try.prog (.clos 15 [] []) [.agg (Qq c)] (.bool (farB c)),(farB c)=false,(decide ((p.row.length:Int) > 20))=false,(decide ((p.cars.length:Int) > 60))=false,Qd Try.prog (.clos 18 [] []) [.agg (Qq c)] (.agg (Qq c)),1=1,0=0,0=0,(0+p.row.length)≤2147483648,((Qb p.row).drop 0).take (p.row.length*3)=(Qb p.row),(Qb p.row).length=(p.row.length*3),noRefs (Qb p.row)=true,Qd Try.prog (.clos 37 [] []) [.agg (Qq c),.rsl (Qb p.row) 0 (0+p.row.length)] (Qs c p),Qd Try.prog (.clos 38 [] []) (QX c p) (Qs c p),((Qa c p.row).2 != 0)=true,((Qa c p.row).2 != 3)=false,((Qa c p.row).2 != 0)=false,false=false,((Qa c p.row).2 == 0)=true,Qd Try.prog (.clos 40 [] []) (YE c p) (Xn c p),(!(Qc c p.row ((Qa c p.row).1)).2)=false,Qd Try.prog (.clos 41 [] []) (Vd c p) (QZ c p),(!(Qy c ((Qc c p.row ((Qa c p.row).1)).1)))=false,Qd Try.prog (.clos 40 [] []) (XR c p) (QW c p),(!(Qc c p.row p.cars).2)=false,Qd Try.prog (.clos 41 [] []) (Yn c p) (.bool (Qy c ((Qc c p.row p.cars).1))),(!(Qy c ((Qc c p.row p.cars).1)))=false,((Qa c p.row).2 == 0)=true,(decide (((((Qa c p.row).1).length:Nat):Int)≤(p.cars.length:Int)))=true,Qd Try.prog (.clos 17 [] []) [] (.bool true)])
 (hr:AvLe (.bool true) res):G Try.prog E [.code (Qh Try.prog 14)] ⟨(Xq c p)++unds (Try.f14.ntmps - 2),[]⟩ :=
 Qf (n:=400) (evs:=[.v (.bool (farB c)),.b false,.b false,.b false,.v (.agg (Qq c)),.fz,.cs (Qb p.row),.v (Qs c p),.v (Qs c p),.b true,.b false,.b false,.b false,.b true,.v (Xn c p),.b false,.v (QZ c p),.b false,.v (QW c p),.b false,.v (.bool (Qy c ((Qc c p.row p.cars).1))),.b false,.b true,.b true,.v (.bool true)]) (obs:=_) hE Try.func14 Ql (by kernel_rfl) ho hr
theorem p14_start_23 (c:Cir) (p:Psg) {E:Env} {res:AV} (hE:Qn Try.prog 14 res E) (ho:AllP [Qd Try.prog (.clos 15 [] []) [.agg (Qq c)] (.bool (farB c)),(farB c)=false,(decide ((p.row.length:Int) > 20))=false,(decide ((p.cars.length:Int) > 60))=false,Qd Try.prog (.clos 18 [] []) [.agg (Qq c)] (.agg (Qq c)),1=1,0=0,0=0,(0+p.row.length)≤2147483648,((Qb p.row).drop 0).take (p.row.length*3)=(Qb p.row),(Qb p.row).length=(p.row.length*3),noRefs (Qb p.row)=true,Qd Try.prog (.clos 37 [] []) [.agg (Qq c),.rsl (Qb p.row) 0 (0+p.row.length)] (Qs c p),Qd Try.prog (.clos 38 [] []) (QX c p) (Qs c p),((Qa c p.row).2 != 0)=true,((Qa c p.row).2 != 3)=false,((Qa c p.row).2 != 0)=false,false=false,((Qa c p.row).2 == 0)=true,Qd Try.prog (.clos 40 [] []) (YE c p) (Xn c p),(!(Qc c p.row ((Qa c p.row).1)).2)=false,Qd Try.prog (.clos 41 [] []) (Vd c p) (QZ c p),(!(Qy c ((Qc c p.row ((Qa c p.row).1)).1)))=false,Qd Try.prog (.clos 40 [] []) (XR c p) (QW c p),(!(Qc c p.row p.cars).2)=false,Qd Try.prog (.clos 41 [] []) (Yn c p) (.bool (Qy c ((Qc c p.row p.cars).1))),(!(Qy c ((Qc c p.row p.cars).1)))=false,((Qa c p.row).2 == 0)=true,(decide (((((Qa c p.row).1).length:Nat):Int)≤(p.cars.length:Int)))=false])
 (hr:AvLe (.bool false) res):G Try.prog E [.code (Qh Try.prog 14)] ⟨(Xq c p)++unds (Try.f14.ntmps - 2),[]⟩ :=
 Qf (n:=400) (evs:=[.v (.bool (farB c)),.b false,.b false,.b false,.v (.agg (Qq c)),.fz,.cs (Qb p.row),.v (Qs c p),.v (Qs c p),.b true,.b false,.b false,.b false,.b true,.v (Xn c p),.b false,.v (QZ c p),.b false,.v (QW c p),.b false,.v (.bool (Qy c ((Qc c p.row p.cars).1))),.b false,.b true,.b false]) (obs:=_) hE Try.func14 Ql (by kernel_rfl) ho hr
theorem p14_start_24 (c:Cir) (p:Psg) {E:Env} {res:AV} (hE:Qn Try.prog 14 res E) (ho:AllP [Qd Try.prog (.clos 15 [] []) [.agg (Qq c)] (.bool (farB c)),(farB c)=false,(decide ((p.row.length:Int) > 20))=false,(decide ((p.cars.length:Int) > 60))=false,Qd Try.prog (.clos 18 [] []) [.agg (Qq c)] (.agg (Qq c)),1=1,0=0,0=0,(0+p.row.length)≤2147483648,((Qb p.row).drop 0).take (p.row.length*3)=(Qb p.row),(Qb p.row).length=(p.row.length*3),noRefs (Qb p.row)=true,Qd Try.prog (.clos 37 [] []) [.agg (Qq c),.rsl (Qb p.row) 0 (0+p.row.length)] (Qs c p),Qd Try.prog (.clos 38 [] []) (QX c p) (Qs c p),((Qa c p.row).2 != 0)=true,((Qa c p.row).2 != 3)=false,((Qa c p.row).2 != 0)=false,false=false,((Qa c p.row).2 == 0)=true,Qd Try.prog (.clos 40 [] []) (YE c p) (Xn c p),(!(Qc c p.row ((Qa c p.row).1)).2)=false,Qd Try.prog (.clos 41 [] []) (Vd c p) (QZ c p),(!(Qy c ((Qc c p.row ((Qa c p.row).1)).1)))=false,Qd Try.prog (.clos 40 [] []) (XR c p) (QW c p),(!(Qc c p.row p.cars).2)=false,Qd Try.prog (.clos 41 [] []) (Yn c p) (.bool (Qy c ((Qc c p.row p.cars).1))),(!(Qy c ((Qc c p.row p.cars).1)))=false,((Qa c p.row).2 == 0)=false,false=false])
 (hr:AvLe (.bool false) res):G Try.prog E [.code (Qh Try.prog 14)] ⟨(Xq c p)++unds (Try.f14.ntmps - 2),[]⟩ :=
 Qf (n:=400) (evs:=[.v (.bool (farB c)),.b false,.b false,.b false,.v (.agg (Qq c)),.fz,.cs (Qb p.row),.v (Qs c p),.v (Qs c p),.b true,.b false,.b false,.b false,.b true,.v (Xn c p),.b false,.v (QZ c p),.b false,.v (QW c p),.b false,.v (.bool (Qy c ((Qc c p.row p.cars).1))),.b false,.b false,.b false]) (obs:=_) hE Try.func14 Ql (by kernel_rfl) ho hr
theorem p14_start_25 (c:Cir) (p:Psg) {E:Env} {res:AV} (hE:Qn Try.prog 14 res E) (ho:AllP [Qd Try.prog (.clos 15 [] []) [.agg (Qq c)] (.bool (farB c)),(farB c)=false,(decide ((p.row.length:Int) > 20))=false,(decide ((p.cars.length:Int) > 60))=false,Qd Try.prog (.clos 18 [] []) [.agg (Qq c)] (.agg (Qq c)),1=1,0=0,0=0,(0+p.row.length)≤2147483648,((Qb p.row).drop 0).take (p.row.length*3)=(Qb p.row),(Qb p.row).length=(p.row.length*3),noRefs (Qb p.row)=true,Qd Try.prog (.clos 37 [] []) [.agg (Qq c),.rsl (Qb p.row) 0 (0+p.row.length)] (Qs c p),Qd Try.prog (.clos 38 [] []) (QX c p) (Qs c p),((Qa c p.row).2 != 0)=true,((Qa c p.row).2 != 3)=false,((Qa c p.row).2 != 0)=false,false=false,((Qa c p.row).2 == 0)=false,Qd Try.prog (.clos 40 [] []) (XR c p) (QW c p),(!(Qc c p.row p.cars).2)=true,true=true,Qd Try.prog (.clos 17 [] []) [] (.bool true)])
 (hr:AvLe (.bool true) res):G Try.prog E [.code (Qh Try.prog 14)] ⟨(Xq c p)++unds (Try.f14.ntmps - 2),[]⟩ :=
 Qf (n:=400) (evs:=[.v (.bool (farB c)),.b false,.b false,.b false,.v (.agg (Qq c)),.fz,.cs (Qb p.row),.v (Qs c p),.v (Qs c p),.b true,.b false,.b false,.b false,.b false,.v (QW c p),.b true,.b true,.v (.bool true)]) (obs:=_) hE Try.func14 Ql (by kernel_rfl) ho hr
theorem p14_start_26 (c:Cir) (p:Psg) {E:Env} {res:AV} (hE:Qn Try.prog 14 res E) (ho:AllP [Qd Try.prog (.clos 15 [] []) [.agg (Qq c)] (.bool (farB c)),(farB c)=false,(decide ((p.row.length:Int) > 20))=false,(decide ((p.cars.length:Int) > 60))=false,Qd Try.prog (.clos 18 [] []) [.agg (Qq c)] (.agg (Qq c)),1=1,0=0,0=0,(0+p.row.length)≤2147483648,((Qb p.row).drop 0).take (p.row.length*3)=(Qb p.row),(Qb p.row).length=(p.row.length*3),noRefs (Qb p.row)=true,Qd Try.prog (.clos 37 [] []) [.agg (Qq c),.rsl (Qb p.row) 0 (0+p.row.length)] (Qs c p),Qd Try.prog (.clos 38 [] []) (QX c p) (Qs c p),((Qa c p.row).2 != 0)=true,((Qa c p.row).2 != 3)=false,((Qa c p.row).2 != 0)=false,false=false,((Qa c p.row).2 == 0)=false,Qd Try.prog (.clos 40 [] []) (XR c p) (QW c p),(!(Qc c p.row p.cars).2)=false,Qd Try.prog (.clos 41 [] []) (Yn c p) (.bool (Qy c ((Qc c p.row p.cars).1))),(!(Qy c ((Qc c p.row p.cars).1)))=true,Qd Try.prog (.clos 17 [] []) [] (.bool true)])
 (hr:AvLe (.bool true) res):G Try.prog E [.code (Qh Try.prog 14)] ⟨(Xq c p)++unds (Try.f14.ntmps - 2),[]⟩ :=
 Qf (n:=400) (evs:=[.v (.bool (farB c)),.b false,.b false,.b false,.v (.agg (Qq c)),.fz,.cs (Qb p.row),.v (Qs c p),.v (Qs c p),.b true,.b false,.b false,.b false,.b false,.v (QW c p),.b false,.v (.bool (Qy c ((Qc c p.row p.cars).1))),.b true,.v (.bool true)]) (obs:=_) hE Try.func14 Ql (by kernel_rfl) ho hr
theorem p14_start_27 (c:Cir) (p:Psg) {E:Env} {res:AV} (hE:Qn Try.prog 14 res E) (ho:AllP [Qd Try.prog (.clos 15 [] []) [.agg (Qq c)] (.bool (farB c)),(farB c)=false,(decide ((p.row.length:Int) > 20))=false,(decide ((p.cars.length:Int) > 60))=false,Qd Try.prog (.clos 18 [] []) [.agg (Qq c)] (.agg (Qq c)),1=1,0=0,0=0,(0+p.row.length)≤2147483648,((Qb p.row).drop 0).take (p.row.length*3)=(Qb p.row),(Qb p.row).length=(p.row.length*3),noRefs (Qb p.row)=true,Qd Try.prog (.clos 37 [] []) [.agg (Qq c),.rsl (Qb p.row) 0 (0+p.row.length)] (Qs c p),Qd Try.prog (.clos 38 [] []) (QX c p) (Qs c p),((Qa c p.row).2 != 0)=true,((Qa c p.row).2 != 3)=false,((Qa c p.row).2 != 0)=false,false=false,((Qa c p.row).2 == 0)=false,Qd Try.prog (.clos 40 [] []) (XR c p) (QW c p),(!(Qc c p.row p.cars).2)=false,Qd Try.prog (.clos 41 [] []) (Yn c p) (.bool (Qy c ((Qc c p.row p.cars).1))),(!(Qy c ((Qc c p.row p.cars).1)))=false,((Qa c p.row).2 == 0)=true,(decide (((((Qa c p.row).1).length:Nat):Int)≤(p.cars.length:Int)))=true,Qd Try.prog (.clos 17 [] []) [] (.bool true)])
 (hr:AvLe (.bool true) res):G Try.prog E [.code (Qh Try.prog 14)] ⟨(Xq c p)++unds (Try.f14.ntmps - 2),[]⟩ :=
 Qf (n:=400) (evs:=[.v (.bool (farB c)),.b false,.b false,.b false,.v (.agg (Qq c)),.fz,.cs (Qb p.row),.v (Qs c p),.v (Qs c p),.b true,.b false,.b false,.b false,.b false,.v (QW c p),.b false,.v (.bool (Qy c ((Qc c p.row p.cars).1))),.b false,.b true,.b true,.v (.bool true)]) (obs:=_) hE Try.func14 Ql (by kernel_rfl) ho hr
theorem p14_start_28 (c:Cir) (p:Psg) {E:Env} {res:AV} (hE:Qn Try.prog 14 res E) (ho:AllP [Qd Try.prog (.clos 15 [] []) [.agg (Qq c)] (.bool (farB c)),(farB c)=false,(decide ((p.row.length:Int) > 20))=false,(decide ((p.cars.length:Int) > 60))=false,Qd Try.prog (.clos 18 [] []) [.agg (Qq c)] (.agg (Qq c)),1=1,0=0,0=0,(0+p.row.length)≤2147483648,((Qb p.row).drop 0).take (p.row.length*3)=(Qb p.row),(Qb p.row).length=(p.row.length*3),noRefs (Qb p.row)=true,Qd Try.prog (.clos 37 [] []) [.agg (Qq c),.rsl (Qb p.row) 0 (0+p.row.length)] (Qs c p),Qd Try.prog (.clos 38 [] []) (QX c p) (Qs c p),((Qa c p.row).2 != 0)=true,((Qa c p.row).2 != 3)=false,((Qa c p.row).2 != 0)=false,false=false,((Qa c p.row).2 == 0)=false,Qd Try.prog (.clos 40 [] []) (XR c p) (QW c p),(!(Qc c p.row p.cars).2)=false,Qd Try.prog (.clos 41 [] []) (Yn c p) (.bool (Qy c ((Qc c p.row p.cars).1))),(!(Qy c ((Qc c p.row p.cars).1)))=false,((Qa c p.row).2 == 0)=true,(decide (((((Qa c p.row).1).length:Nat):Int)≤(p.cars.length:Int)))=false])
 (hr:AvLe (.bool false) res):G Try.prog E [.code (Qh Try.prog 14)] ⟨(Xq c p)++unds (Try.f14.ntmps - 2),[]⟩ :=
 Qf (n:=400) (evs:=[.v (.bool (farB c)),.b false,.b false,.b false,.v (.agg (Qq c)),.fz,.cs (Qb p.row),.v (Qs c p),.v (Qs c p),.b true,.b false,.b false,.b false,.b false,.v (QW c p),.b false,.v (.bool (Qy c ((Qc c p.row p.cars).1))),.b false,.b true,.b false]) (obs:=_) hE Try.func14 Ql (by kernel_rfl) ho hr
theorem p14_start_29 (c:Cir) (p:Psg) {E:Env} {res:AV} (hE:Qn Try.prog 14 res E) (ho:AllP [Qd Try.prog (.clos 15 [] []) [.agg (Qq c)] (.bool (farB c)),(farB c)=false,(decide ((p.row.length:Int) > 20))=false,(decide ((p.cars.length:Int) > 60))=false,Qd Try.prog (.clos 18 [] []) [.agg (Qq c)] (.agg (Qq c)),1=1,0=0,0=0,(0+p.row.length)≤2147483648,((Qb p.row).drop 0).take (p.row.length*3)=(Qb p.row),(Qb p.row).length=(p.row.length*3),noRefs (Qb p.row)=true,Qd Try.prog (.clos 37 [] []) [.agg (Qq c),.rsl (Qb p.row) 0 (0+p.row.length)] (Qs c p),Qd Try.prog (.clos 38 [] []) (QX c p) (Qs c p),((Qa c p.row).2 != 0)=true,((Qa c p.row).2 != 3)=false,((Qa c p.row).2 != 0)=false,false=false,((Qa c p.row).2 == 0)=false,Qd Try.prog (.clos 40 [] []) (XR c p) (QW c p),(!(Qc c p.row p.cars).2)=false,Qd Try.prog (.clos 41 [] []) (Yn c p) (.bool (Qy c ((Qc c p.row p.cars).1))),(!(Qy c ((Qc c p.row p.cars).1)))=false,((Qa c p.row).2 == 0)=false,false=false])
 (hr:AvLe (.bool false) res):G Try.prog E [.code (Qh Try.prog 14)] ⟨(Xq c p)++unds (Try.f14.ntmps - 2),[]⟩ :=
 Qf (n:=400) (evs:=[.v (.bool (farB c)),.b false,.b false,.b false,.v (.agg (Qq c)),.fz,.cs (Qb p.row),.v (Qs c p),.v (Qs c p),.b true,.b false,.b false,.b false,.b false,.v (QW c p),.b false,.v (.bool (Qy c ((Qc c p.row p.cars).1))),.b false,.b false,.b false]) (obs:=_) hE Try.func14 Ql (by kernel_rfl) ho hr
theorem p14_start_30 (c:Cir) (p:Psg) {E:Env} {res:AV} (hE:Qn Try.prog 14 res E) (ho:AllP [Qd Try.prog (.clos 15 [] []) [.agg (Qq c)] (.bool (farB c)),(farB c)=false,(decide ((p.row.length:Int) > 20))=false,(decide ((p.cars.length:Int) > 60))=false,Qd Try.prog (.clos 18 [] []) [.agg (Qq c)] (.agg (Qq c)),1=1,0=0,0=0,(0+p.row.length)≤2147483648,((Qb p.row).drop 0).take (p.row.length*3)=(Qb p.row),(Qb p.row).length=(p.row.length*3),noRefs (Qb p.row)=true,Qd Try.prog (.clos 37 [] []) [.agg (Qq c),.rsl (Qb p.row) 0 (0+p.row.length)] (Qs c p),Qd Try.prog (.clos 38 [] []) (QX c p) (Qs c p),((Qa c p.row).2 != 0)=false,false=false,((Qa c p.row).2 != 0)=true,((Qa c p.row).2 != 3)=true])
 (hr:AvLe (.bool false) res):G Try.prog E [.code (Qh Try.prog 14)] ⟨(Xq c p)++unds (Try.f14.ntmps - 2),[]⟩ :=
 Qf (n:=400) (evs:=[.v (.bool (farB c)),.b false,.b false,.b false,.v (.agg (Qq c)),.fz,.cs (Qb p.row),.v (Qs c p),.v (Qs c p),.b false,.b false,.b true,.b true]) (obs:=_) hE Try.func14 Ql (by kernel_rfl) ho hr
theorem p14_start_31 (c:Cir) (p:Psg) {E:Env} {res:AV} (hE:Qn Try.prog 14 res E) (ho:AllP [Qd Try.prog (.clos 15 [] []) [.agg (Qq c)] (.bool (farB c)),(farB c)=false,(decide ((p.row.length:Int) > 20))=false,(decide ((p.cars.length:Int) > 60))=false,Qd Try.prog (.clos 18 [] []) [.agg (Qq c)] (.agg (Qq c)),1=1,0=0,0=0,(0+p.row.length)≤2147483648,((Qb p.row).drop 0).take (p.row.length*3)=(Qb p.row),(Qb p.row).length=(p.row.length*3),noRefs (Qb p.row)=true,Qd Try.prog (.clos 37 [] []) [.agg (Qq c),.rsl (Qb p.row) 0 (0+p.row.length)] (Qs c p),Qd Try.prog (.clos 38 [] []) (QX c p) (Qs c p),((Qa c p.row).2 != 0)=false,false=false,((Qa c p.row).2 != 0)=true,((Qa c p.row).2 != 3)=false,((Qa c p.row).2 == 0)=true,Qd Try.prog (.clos 40 [] []) (YE c p) (Xn c p),(!(Qc c p.row ((Qa c p.row).1)).2)=true,true=true])
 (hr:AvLe (.bool false) res):G Try.prog E [.code (Qh Try.prog 14)] ⟨(Xq c p)++unds (Try.f14.ntmps - 2),[]⟩ :=
 Qf (n:=400) (evs:=[.v (.bool (farB c)),.b false,.b false,.b false,.v (.agg (Qq c)),.fz,.cs (Qb p.row),.v (Qs c p),.v (Qs c p),.b false,.b false,.b true,.b false,.b true,.v (Xn c p),.b true,.b true]) (obs:=_) hE Try.func14 Ql (by kernel_rfl) ho hr
theorem p14_start_32 (c:Cir) (p:Psg) {E:Env} {res:AV} (hE:Qn Try.prog 14 res E) (ho:AllP [Qd Try.prog (.clos 15 [] []) [.agg (Qq c)] (.bool (farB c)),(farB c)=false,(decide ((p.row.length:Int) > 20))=false,(decide ((p.cars.length:Int) > 60))=false,Qd Try.prog (.clos 18 [] []) [.agg (Qq c)] (.agg (Qq c)),1=1,0=0,0=0,(0+p.row.length)≤2147483648,((Qb p.row).drop 0).take (p.row.length*3)=(Qb p.row),(Qb p.row).length=(p.row.length*3),noRefs (Qb p.row)=true,Qd Try.prog (.clos 37 [] []) [.agg (Qq c),.rsl (Qb p.row) 0 (0+p.row.length)] (Qs c p),Qd Try.prog (.clos 38 [] []) (QX c p) (Qs c p),((Qa c p.row).2 != 0)=false,false=false,((Qa c p.row).2 != 0)=true,((Qa c p.row).2 != 3)=false,((Qa c p.row).2 == 0)=true,Qd Try.prog (.clos 40 [] []) (YE c p) (Xn c p),(!(Qc c p.row ((Qa c p.row).1)).2)=false,Qd Try.prog (.clos 41 [] []) (Vd c p) (QZ c p),(!(Qy c ((Qc c p.row ((Qa c p.row).1)).1)))=true])
 (hr:AvLe (.bool false) res):G Try.prog E [.code (Qh Try.prog 14)] ⟨(Xq c p)++unds (Try.f14.ntmps - 2),[]⟩ :=
 Qf (n:=400) (evs:=[.v (.bool (farB c)),.b false,.b false,.b false,.v (.agg (Qq c)),.fz,.cs (Qb p.row),.v (Qs c p),.v (Qs c p),.b false,.b false,.b true,.b false,.b true,.v (Xn c p),.b false,.v (QZ c p),.b true]) (obs:=_) hE Try.func14 Ql (by kernel_rfl) ho hr
theorem p14_start_33 (c:Cir) (p:Psg) {E:Env} {res:AV} (hE:Qn Try.prog 14 res E) (ho:AllP [Qd Try.prog (.clos 15 [] []) [.agg (Qq c)] (.bool (farB c)),(farB c)=false,(decide ((p.row.length:Int) > 20))=false,(decide ((p.cars.length:Int) > 60))=false,Qd Try.prog (.clos 18 [] []) [.agg (Qq c)] (.agg (Qq c)),1=1,0=0,0=0,(0+p.row.length)≤2147483648,((Qb p.row).drop 0).take (p.row.length*3)=(Qb p.row),(Qb p.row).length=(p.row.length*3),noRefs (Qb p.row)=true,Qd Try.prog (.clos 37 [] []) [.agg (Qq c),.rsl (Qb p.row) 0 (0+p.row.length)] (Qs c p),Qd Try.prog (.clos 38 [] []) (QX c p) (Qs c p),((Qa c p.row).2 != 0)=false,false=false,((Qa c p.row).2 != 0)=true,((Qa c p.row).2 != 3)=false,((Qa c p.row).2 == 0)=true,Qd Try.prog (.clos 40 [] []) (YE c p) (Xn c p),(!(Qc c p.row ((Qa c p.row).1)).2)=false,Qd Try.prog (.clos 41 [] []) (Vd c p) (QZ c p),(!(Qy c ((Qc c p.row ((Qa c p.row).1)).1)))=false,Qd Try.prog (.clos 40 [] []) (XR c p) (QW c p),(!(Qc c p.row p.cars).2)=true,true=true,Qd Try.prog (.clos 17 [] []) [] (.bool true)])
 (hr:AvLe (.bool true) res):G Try.prog E [.code (Qh Try.prog 14)] ⟨(Xq c p)++unds (Try.f14.ntmps - 2),[]⟩ :=
 Qf (n:=400) (evs:=[.v (.bool (farB c)),.b false,.b false,.b false,.v (.agg (Qq c)),.fz,.cs (Qb p.row),.v (Qs c p),.v (Qs c p),.b false,.b false,.b true,.b false,.b true,.v (Xn c p),.b false,.v (QZ c p),.b false,.v (QW c p),.b true,.b true,.v (.bool true)]) (obs:=_) hE Try.func14 Ql (by kernel_rfl) ho hr
theorem p14_start_34 (c:Cir) (p:Psg) {E:Env} {res:AV} (hE:Qn Try.prog 14 res E) (ho:AllP [Qd Try.prog (.clos 15 [] []) [.agg (Qq c)] (.bool (farB c)),(farB c)=false,(decide ((p.row.length:Int) > 20))=false,(decide ((p.cars.length:Int) > 60))=false,Qd Try.prog (.clos 18 [] []) [.agg (Qq c)] (.agg (Qq c)),1=1,0=0,0=0,(0+p.row.length)≤2147483648,((Qb p.row).drop 0).take (p.row.length*3)=(Qb p.row),(Qb p.row).length=(p.row.length*3),noRefs (Qb p.row)=true,Qd Try.prog (.clos 37 [] []) [.agg (Qq c),.rsl (Qb p.row) 0 (0+p.row.length)] (Qs c p),Qd Try.prog (.clos 38 [] []) (QX c p) (Qs c p),((Qa c p.row).2 != 0)=false,false=false,((Qa c p.row).2 != 0)=true,((Qa c p.row).2 != 3)=false,((Qa c p.row).2 == 0)=true,Qd Try.prog (.clos 40 [] []) (YE c p) (Xn c p),(!(Qc c p.row ((Qa c p.row).1)).2)=false,Qd Try.prog (.clos 41 [] []) (Vd c p) (QZ c p),(!(Qy c ((Qc c p.row ((Qa c p.row).1)).1)))=false,Qd Try.prog (.clos 40 [] []) (XR c p) (QW c p),(!(Qc c p.row p.cars).2)=false,Qd Try.prog (.clos 41 [] []) (Yn c p) (.bool (Qy c ((Qc c p.row p.cars).1))),(!(Qy c ((Qc c p.row p.cars).1)))=true,Qd Try.prog (.clos 17 [] []) [] (.bool true)])
 (hr:AvLe (.bool true) res):G Try.prog E [.code (Qh Try.prog 14)] ⟨(Xq c p)++unds (Try.f14.ntmps - 2),[]⟩ :=
 Qf (n:=400) (evs:=[.v (.bool (farB c)),.b false,.b false,.b false,.v (.agg (Qq c)),.fz,.cs (Qb p.row),.v (Qs c p),.v (Qs c p),.b false,.b false,.b true,.b false,.b true,.v (Xn c p),.b false,.v (QZ c p),.b false,.v (QW c p),.b false,.v (.bool (Qy c ((Qc c p.row p.cars).1))),.b true,.v (.bool true)]) (obs:=_) hE Try.func14 Ql (by kernel_rfl) ho hr
theorem p14_start_35 (c:Cir) (p:Psg) {E:Env} {res:AV} (hE:Qn Try.prog 14 res E) (ho:AllP [Qd Try.prog (.clos 15 [] []) [.agg (Qq c)] (.bool (farB c)),(farB c)=false,(decide ((p.row.length:Int) > 20))=false,(decide ((p.cars.length:Int) > 60))=false,Qd Try.prog (.clos 18 [] []) [.agg (Qq c)] (.agg (Qq c)),1=1,0=0,0=0,(0+p.row.length)≤2147483648,((Qb p.row).drop 0).take (p.row.length*3)=(Qb p.row),(Qb p.row).length=(p.row.length*3),noRefs (Qb p.row)=true,Qd Try.prog (.clos 37 [] []) [.agg (Qq c),.rsl (Qb p.row) 0 (0+p.row.length)] (Qs c p),Qd Try.prog (.clos 38 [] []) (QX c p) (Qs c p),((Qa c p.row).2 != 0)=false,false=false,((Qa c p.row).2 != 0)=true,((Qa c p.row).2 != 3)=false,((Qa c p.row).2 == 0)=true,Qd Try.prog (.clos 40 [] []) (YE c p) (Xn c p),(!(Qc c p.row ((Qa c p.row).1)).2)=false,Qd Try.prog (.clos 41 [] []) (Vd c p) (QZ c p),(!(Qy c ((Qc c p.row ((Qa c p.row).1)).1)))=false,Qd Try.prog (.clos 40 [] []) (XR c p) (QW c p),(!(Qc c p.row p.cars).2)=false,Qd Try.prog (.clos 41 [] []) (Yn c p) (.bool (Qy c ((Qc c p.row p.cars).1))),(!(Qy c ((Qc c p.row p.cars).1)))=false,((Qa c p.row).2 == 0)=true,(decide (((((Qa c p.row).1).length:Nat):Int)≤(p.cars.length:Int)))=true,Qd Try.prog (.clos 17 [] []) [] (.bool true)])
 (hr:AvLe (.bool true) res):G Try.prog E [.code (Qh Try.prog 14)] ⟨(Xq c p)++unds (Try.f14.ntmps - 2),[]⟩ :=
 Qf (n:=400) (evs:=[.v (.bool (farB c)),.b false,.b false,.b false,.v (.agg (Qq c)),.fz,.cs (Qb p.row),.v (Qs c p),.v (Qs c p),.b false,.b false,.b true,.b false,.b true,.v (Xn c p),.b false,.v (QZ c p),.b false,.v (QW c p),.b false,.v (.bool (Qy c ((Qc c p.row p.cars).1))),.b false,.b true,.b true,.v (.bool true)]) (obs:=_) hE Try.func14 Ql (by kernel_rfl) ho hr
theorem p14_start_36 (c:Cir) (p:Psg) {E:Env} {res:AV} (hE:Qn Try.prog 14 res E) (ho:AllP [Qd Try.prog (.clos 15 [] []) [.agg (Qq c)] (.bool (farB c)),(farB c)=false,(decide ((p.row.length:Int) > 20))=false,(decide ((p.cars.length:Int) > 60))=false,Qd Try.prog (.clos 18 [] []) [.agg (Qq c)] (.agg (Qq c)),1=1,0=0,0=0,(0+p.row.length)≤2147483648,((Qb p.row).drop 0).take (p.row.length*3)=(Qb p.row),(Qb p.row).length=(p.row.length*3),noRefs (Qb p.row)=true,Qd Try.prog (.clos 37 [] []) [.agg (Qq c),.rsl (Qb p.row) 0 (0+p.row.length)] (Qs c p),Qd Try.prog (.clos 38 [] []) (QX c p) (Qs c p),((Qa c p.row).2 != 0)=false,false=false,((Qa c p.row).2 != 0)=true,((Qa c p.row).2 != 3)=false,((Qa c p.row).2 == 0)=true,Qd Try.prog (.clos 40 [] []) (YE c p) (Xn c p),(!(Qc c p.row ((Qa c p.row).1)).2)=false,Qd Try.prog (.clos 41 [] []) (Vd c p) (QZ c p),(!(Qy c ((Qc c p.row ((Qa c p.row).1)).1)))=false,Qd Try.prog (.clos 40 [] []) (XR c p) (QW c p),(!(Qc c p.row p.cars).2)=false,Qd Try.prog (.clos 41 [] []) (Yn c p) (.bool (Qy c ((Qc c p.row p.cars).1))),(!(Qy c ((Qc c p.row p.cars).1)))=false,((Qa c p.row).2 == 0)=true,(decide (((((Qa c p.row).1).length:Nat):Int)≤(p.cars.length:Int)))=false])
 (hr:AvLe (.bool false) res):G Try.prog E [.code (Qh Try.prog 14)] ⟨(Xq c p)++unds (Try.f14.ntmps - 2),[]⟩ :=
 Qf (n:=400) (evs:=[.v (.bool (farB c)),.b false,.b false,.b false,.v (.agg (Qq c)),.fz,.cs (Qb p.row),.v (Qs c p),.v (Qs c p),.b false,.b false,.b true,.b false,.b true,.v (Xn c p),.b false,.v (QZ c p),.b false,.v (QW c p),.b false,.v (.bool (Qy c ((Qc c p.row p.cars).1))),.b false,.b true,.b false]) (obs:=_) hE Try.func14 Ql (by kernel_rfl) ho hr
theorem p14_start_37 (c:Cir) (p:Psg) {E:Env} {res:AV} (hE:Qn Try.prog 14 res E) (ho:AllP [Qd Try.prog (.clos 15 [] []) [.agg (Qq c)] (.bool (farB c)),(farB c)=false,(decide ((p.row.length:Int) > 20))=false,(decide ((p.cars.length:Int) > 60))=false,Qd Try.prog (.clos 18 [] []) [.agg (Qq c)] (.agg (Qq c)),1=1,0=0,0=0,(0+p.row.length)≤2147483648,((Qb p.row).drop 0).take (p.row.length*3)=(Qb p.row),(Qb p.row).length=(p.row.length*3),noRefs (Qb p.row)=true,Qd Try.prog (.clos 37 [] []) [.agg (Qq c),.rsl (Qb p.row) 0 (0+p.row.length)] (Qs c p),Qd Try.prog (.clos 38 [] []) (QX c p) (Qs c p),((Qa c p.row).2 != 0)=false,false=false,((Qa c p.row).2 != 0)=true,((Qa c p.row).2 != 3)=false,((Qa c p.row).2 == 0)=true,Qd Try.prog (.clos 40 [] []) (YE c p) (Xn c p),(!(Qc c p.row ((Qa c p.row).1)).2)=false,Qd Try.prog (.clos 41 [] []) (Vd c p) (QZ c p),(!(Qy c ((Qc c p.row ((Qa c p.row).1)).1)))=false,Qd Try.prog (.clos 40 [] []) (XR c p) (QW c p),(!(Qc c p.row p.cars).2)=false,Qd Try.prog (.clos 41 [] []) (Yn c p) (.bool (Qy c ((Qc c p.row p.cars).1))),(!(Qy c ((Qc c p.row p.cars).1)))=false,((Qa c p.row).2 == 0)=false,false=false])
 (hr:AvLe (.bool false) res):G Try.prog E [.code (Qh Try.prog 14)] ⟨(Xq c p)++unds (Try.f14.ntmps - 2),[]⟩ :=
 Qf (n:=400) (evs:=[.v (.bool (farB c)),.b false,.b false,.b false,.v (.agg (Qq c)),.fz,.cs (Qb p.row),.v (Qs c p),.v (Qs c p),.b false,.b false,.b true,.b false,.b true,.v (Xn c p),.b false,.v (QZ c p),.b false,.v (QW c p),.b false,.v (.bool (Qy c ((Qc c p.row p.cars).1))),.b false,.b false,.b false]) (obs:=_) hE Try.func14 Ql (by kernel_rfl) ho hr
theorem p14_start_38 (c:Cir) (p:Psg) {E:Env} {res:AV} (hE:Qn Try.prog 14 res E) (ho:AllP [Qd Try.prog (.clos 15 [] []) [.agg (Qq c)] (.bool (farB c)),(farB c)=false,(decide ((p.row.length:Int) > 20))=false,(decide ((p.cars.length:Int) > 60))=false,Qd Try.prog (.clos 18 [] []) [.agg (Qq c)] (.agg (Qq c)),1=1,0=0,0=0,(0+p.row.length)≤2147483648,((Qb p.row).drop 0).take (p.row.length*3)=(Qb p.row),(Qb p.row).length=(p.row.length*3),noRefs (Qb p.row)=true,Qd Try.prog (.clos 37 [] []) [.agg (Qq c),.rsl (Qb p.row) 0 (0+p.row.length)] (Qs c p),Qd Try.prog (.clos 38 [] []) (QX c p) (Qs c p),((Qa c p.row).2 != 0)=false,false=false,((Qa c p.row).2 != 0)=true,((Qa c p.row).2 != 3)=false,((Qa c p.row).2 == 0)=false,Qd Try.prog (.clos 40 [] []) (XR c p) (QW c p),(!(Qc c p.row p.cars).2)=true,true=true,Qd Try.prog (.clos 17 [] []) [] (.bool true)])
 (hr:AvLe (.bool true) res):G Try.prog E [.code (Qh Try.prog 14)] ⟨(Xq c p)++unds (Try.f14.ntmps - 2),[]⟩ :=
 Qf (n:=400) (evs:=[.v (.bool (farB c)),.b false,.b false,.b false,.v (.agg (Qq c)),.fz,.cs (Qb p.row),.v (Qs c p),.v (Qs c p),.b false,.b false,.b true,.b false,.b false,.v (QW c p),.b true,.b true,.v (.bool true)]) (obs:=_) hE Try.func14 Ql (by kernel_rfl) ho hr
theorem p14_start_39 (c:Cir) (p:Psg) {E:Env} {res:AV} (hE:Qn Try.prog 14 res E) (ho:AllP [Qd Try.prog (.clos 15 [] []) [.agg (Qq c)] (.bool (farB c)),(farB c)=false,(decide ((p.row.length:Int) > 20))=false,(decide ((p.cars.length:Int) > 60))=false,Qd Try.prog (.clos 18 [] []) [.agg (Qq c)] (.agg (Qq c)),1=1,0=0,0=0,(0+p.row.length)≤2147483648,((Qb p.row).drop 0).take (p.row.length*3)=(Qb p.row),(Qb p.row).length=(p.row.length*3),noRefs (Qb p.row)=true,Qd Try.prog (.clos 37 [] []) [.agg (Qq c),.rsl (Qb p.row) 0 (0+p.row.length)] (Qs c p),Qd Try.prog (.clos 38 [] []) (QX c p) (Qs c p),((Qa c p.row).2 != 0)=false,false=false,((Qa c p.row).2 != 0)=true,((Qa c p.row).2 != 3)=false,((Qa c p.row).2 == 0)=false,Qd Try.prog (.clos 40 [] []) (XR c p) (QW c p),(!(Qc c p.row p.cars).2)=false,Qd Try.prog (.clos 41 [] []) (Yn c p) (.bool (Qy c ((Qc c p.row p.cars).1))),(!(Qy c ((Qc c p.row p.cars).1)))=true,Qd Try.prog (.clos 17 [] []) [] (.bool true)])
 (hr:AvLe (.bool true) res):G Try.prog E [.code (Qh Try.prog 14)] ⟨(Xq c p)++unds (Try.f14.ntmps - 2),[]⟩ :=
 Qf (n:=400) (evs:=[.v (.bool (farB c)),.b false,.b false,.b false,.v (.agg (Qq c)),.fz,.cs (Qb p.row),.v (Qs c p),.v (Qs c p),.b false,.b false,.b true,.b false,.b false,.v (QW c p),.b false,.v (.bool (Qy c ((Qc c p.row p.cars).1))),.b true,.v (.bool true)]) (obs:=_) hE Try.func14 Ql (by kernel_rfl) ho hr
theorem p14_start_40 (c:Cir) (p:Psg) {E:Env} {res:AV} (hE:Qn Try.prog 14 res E) (ho:AllP [Qd Try.prog (.clos 15 [] []) [.agg (Qq c)] (.bool (farB c)),(farB c)=false,(decide ((p.row.length:Int) > 20))=false,(decide ((p.cars.length:Int) > 60))=false,Qd Try.prog (.clos 18 [] []) [.agg (Qq c)] (.agg (Qq c)),1=1,0=0,0=0,(0+p.row.length)≤2147483648,((Qb p.row).drop 0).take (p.row.length*3)=(Qb p.row),(Qb p.row).length=(p.row.length*3),noRefs (Qb p.row)=true,Qd Try.prog (.clos 37 [] []) [.agg (Qq c),.rsl (Qb p.row) 0 (0+p.row.length)] (Qs c p),Qd Try.prog (.clos 38 [] []) (QX c p) (Qs c p),((Qa c p.row).2 != 0)=false,false=false,((Qa c p.row).2 != 0)=true,((Qa c p.row).2 != 3)=false,((Qa c p.row).2 == 0)=false,Qd Try.prog (.clos 40 [] []) (XR c p) (QW c p),(!(Qc c p.row p.cars).2)=false,Qd Try.prog (.clos 41 [] []) (Yn c p) (.bool (Qy c ((Qc c p.row p.cars).1))),(!(Qy c ((Qc c p.row p.cars).1)))=false,((Qa c p.row).2 == 0)=true,(decide (((((Qa c p.row).1).length:Nat):Int)≤(p.cars.length:Int)))=true,Qd Try.prog (.clos 17 [] []) [] (.bool true)])
 (hr:AvLe (.bool true) res):G Try.prog E [.code (Qh Try.prog 14)] ⟨(Xq c p)++unds (Try.f14.ntmps - 2),[]⟩ :=
 Qf (n:=400) (evs:=[.v (.bool (farB c)),.b false,.b false,.b false,.v (.agg (Qq c)),.fz,.cs (Qb p.row),.v (Qs c p),.v (Qs c p),.b false,.b false,.b true,.b false,.b false,.v (QW c p),.b false,.v (.bool (Qy c ((Qc c p.row p.cars).1))),.b false,.b true,.b true,.v (.bool true)]) (obs:=_) hE Try.func14 Ql (by kernel_rfl) ho hr
theorem p14_start_41 (c:Cir) (p:Psg) {E:Env} {res:AV} (hE:Qn Try.prog 14 res E) (ho:AllP [Qd Try.prog (.clos 15 [] []) [.agg (Qq c)] (.bool (farB c)),(farB c)=false,(decide ((p.row.length:Int) > 20))=false,(decide ((p.cars.length:Int) > 60))=false,Qd Try.prog (.clos 18 [] []) [.agg (Qq c)] (.agg (Qq c)),1=1,0=0,0=0,(0+p.row.length)≤2147483648,((Qb p.row).drop 0).take (p.row.length*3)=(Qb p.row),(Qb p.row).length=(p.row.length*3),noRefs (Qb p.row)=true,Qd Try.prog (.clos 37 [] []) [.agg (Qq c),.rsl (Qb p.row) 0 (0+p.row.length)] (Qs c p),Qd Try.prog (.clos 38 [] []) (QX c p) (Qs c p),((Qa c p.row).2 != 0)=false,false=false,((Qa c p.row).2 != 0)=true,((Qa c p.row).2 != 3)=false,((Qa c p.row).2 == 0)=false,Qd Try.prog (.clos 40 [] []) (XR c p) (QW c p),(!(Qc c p.row p.cars).2)=false,Qd Try.prog (.clos 41 [] []) (Yn c p) (.bool (Qy c ((Qc c p.row p.cars).1))),(!(Qy c ((Qc c p.row p.cars).1)))=false,((Qa c p.row).2 == 0)=true,(decide (((((Qa c p.row).1).length:Nat):Int)≤(p.cars.length:Int)))=false])
 (hr:AvLe (.bool false) res):G Try.prog E [.code (Qh Try.prog 14)] ⟨(Xq c p)++unds (Try.f14.ntmps - 2),[]⟩ :=
 Qf (n:=400) (evs:=[.v (.bool (farB c)),.b false,.b false,.b false,.v (.agg (Qq c)),.fz,.cs (Qb p.row),.v (Qs c p),.v (Qs c p),.b false,.b false,.b true,.b false,.b false,.v (QW c p),.b false,.v (.bool (Qy c ((Qc c p.row p.cars).1))),.b false,.b true,.b false]) (obs:=_) hE Try.func14 Ql (by kernel_rfl) ho hr
theorem p14_start_42 (c:Cir) (p:Psg) {E:Env} {res:AV} (hE:Qn Try.prog 14 res E) (ho:AllP [Qd Try.prog (.clos 15 [] []) [.agg (Qq c)] (.bool (farB c)),(farB c)=false,(decide ((p.row.length:Int) > 20))=false,(decide ((p.cars.length:Int) > 60))=false,Qd Try.prog (.clos 18 [] []) [.agg (Qq c)] (.agg (Qq c)),1=1,0=0,0=0,(0+p.row.length)≤2147483648,((Qb p.row).drop 0).take (p.row.length*3)=(Qb p.row),(Qb p.row).length=(p.row.length*3),noRefs (Qb p.row)=true,Qd Try.prog (.clos 37 [] []) [.agg (Qq c),.rsl (Qb p.row) 0 (0+p.row.length)] (Qs c p),Qd Try.prog (.clos 38 [] []) (QX c p) (Qs c p),((Qa c p.row).2 != 0)=false,false=false,((Qa c p.row).2 != 0)=true,((Qa c p.row).2 != 3)=false,((Qa c p.row).2 == 0)=false,Qd Try.prog (.clos 40 [] []) (XR c p) (QW c p),(!(Qc c p.row p.cars).2)=false,Qd Try.prog (.clos 41 [] []) (Yn c p) (.bool (Qy c ((Qc c p.row p.cars).1))),(!(Qy c ((Qc c p.row p.cars).1)))=false,((Qa c p.row).2 == 0)=false,false=false])
 (hr:AvLe (.bool false) res):G Try.prog E [.code (Qh Try.prog 14)] ⟨(Xq c p)++unds (Try.f14.ntmps - 2),[]⟩ :=
 Qf (n:=400) (evs:=[.v (.bool (farB c)),.b false,.b false,.b false,.v (.agg (Qq c)),.fz,.cs (Qb p.row),.v (Qs c p),.v (Qs c p),.b false,.b false,.b true,.b false,.b false,.v (QW c p),.b false,.v (.bool (Qy c ((Qc c p.row p.cars).1))),.b false,.b false,.b false]) (obs:=_) hE Try.func14 Ql (by kernel_rfl) ho hr
theorem p14_start_43 (c:Cir) (p:Psg) {E:Env} {res:AV} (hE:Qn Try.prog 14 res E) (ho:AllP [Qd Try.prog (.clos 15 [] []) [.agg (Qq c)] (.bool (farB c)),(farB c)=false,(decide ((p.row.length:Int) > 20))=false,(decide ((p.cars.length:Int) > 60))=false,Qd Try.prog (.clos 18 [] []) [.agg (Qq c)] (.agg (Qq c)),1=1,0=0,0=0,(0+p.row.length)≤2147483648,((Qb p.row).drop 0).take (p.row.length*3)=(Qb p.row),(Qb p.row).length=(p.row.length*3),noRefs (Qb p.row)=true,Qd Try.prog (.clos 37 [] []) [.agg (Qq c),.rsl (Qb p.row) 0 (0+p.row.length)] (Qs c p),Qd Try.prog (.clos 38 [] []) (QX c p) (Qs c p),((Qa c p.row).2 != 0)=false,false=false,((Qa c p.row).2 != 0)=false,false=false,((Qa c p.row).2 == 0)=true,Qd Try.prog (.clos 40 [] []) (YE c p) (Xn c p),(!(Qc c p.row ((Qa c p.row).1)).2)=true,true=true])
 (hr:AvLe (.bool false) res):G Try.prog E [.code (Qh Try.prog 14)] ⟨(Xq c p)++unds (Try.f14.ntmps - 2),[]⟩ :=
 Qf (n:=400) (evs:=[.v (.bool (farB c)),.b false,.b false,.b false,.v (.agg (Qq c)),.fz,.cs (Qb p.row),.v (Qs c p),.v (Qs c p),.b false,.b false,.b false,.b false,.b true,.v (Xn c p),.b true,.b true]) (obs:=_) hE Try.func14 Ql (by kernel_rfl) ho hr
theorem p14_start_44 (c:Cir) (p:Psg) {E:Env} {res:AV} (hE:Qn Try.prog 14 res E) (ho:AllP [Qd Try.prog (.clos 15 [] []) [.agg (Qq c)] (.bool (farB c)),(farB c)=false,(decide ((p.row.length:Int) > 20))=false,(decide ((p.cars.length:Int) > 60))=false,Qd Try.prog (.clos 18 [] []) [.agg (Qq c)] (.agg (Qq c)),1=1,0=0,0=0,(0+p.row.length)≤2147483648,((Qb p.row).drop 0).take (p.row.length*3)=(Qb p.row),(Qb p.row).length=(p.row.length*3),noRefs (Qb p.row)=true,Qd Try.prog (.clos 37 [] []) [.agg (Qq c),.rsl (Qb p.row) 0 (0+p.row.length)] (Qs c p),Qd Try.prog (.clos 38 [] []) (QX c p) (Qs c p),((Qa c p.row).2 != 0)=false,false=false,((Qa c p.row).2 != 0)=false,false=false,((Qa c p.row).2 == 0)=true,Qd Try.prog (.clos 40 [] []) (YE c p) (Xn c p),(!(Qc c p.row ((Qa c p.row).1)).2)=false,Qd Try.prog (.clos 41 [] []) (Vd c p) (QZ c p),(!(Qy c ((Qc c p.row ((Qa c p.row).1)).1)))=true])
 (hr:AvLe (.bool false) res):G Try.prog E [.code (Qh Try.prog 14)] ⟨(Xq c p)++unds (Try.f14.ntmps - 2),[]⟩ :=
 Qf (n:=400) (evs:=[.v (.bool (farB c)),.b false,.b false,.b false,.v (.agg (Qq c)),.fz,.cs (Qb p.row),.v (Qs c p),.v (Qs c p),.b false,.b false,.b false,.b false,.b true,.v (Xn c p),.b false,.v (QZ c p),.b true]) (obs:=_) hE Try.func14 Ql (by kernel_rfl) ho hr
theorem p14_start_45 (c:Cir) (p:Psg) {E:Env} {res:AV} (hE:Qn Try.prog 14 res E) (ho:AllP [Qd Try.prog (.clos 15 [] []) [.agg (Qq c)] (.bool (farB c)),(farB c)=false,(decide ((p.row.length:Int) > 20))=false,(decide ((p.cars.length:Int) > 60))=false,Qd Try.prog (.clos 18 [] []) [.agg (Qq c)] (.agg (Qq c)),1=1,0=0,0=0,(0+p.row.length)≤2147483648,((Qb p.row).drop 0).take (p.row.length*3)=(Qb p.row),(Qb p.row).length=(p.row.length*3),noRefs (Qb p.row)=true,Qd Try.prog (.clos 37 [] []) [.agg (Qq c),.rsl (Qb p.row) 0 (0+p.row.length)] (Qs c p),Qd Try.prog (.clos 38 [] []) (QX c p) (Qs c p),((Qa c p.row).2 != 0)=false,false=false,((Qa c p.row).2 != 0)=false,false=false,((Qa c p.row).2 == 0)=true,Qd Try.prog (.clos 40 [] []) (YE c p) (Xn c p),(!(Qc c p.row ((Qa c p.row).1)).2)=false,Qd Try.prog (.clos 41 [] []) (Vd c p) (QZ c p),(!(Qy c ((Qc c p.row ((Qa c p.row).1)).1)))=false,Qd Try.prog (.clos 40 [] []) (XR c p) (QW c p),(!(Qc c p.row p.cars).2)=true,true=true,Qd Try.prog (.clos 17 [] []) [] (.bool true)])
 (hr:AvLe (.bool true) res):G Try.prog E [.code (Qh Try.prog 14)] ⟨(Xq c p)++unds (Try.f14.ntmps - 2),[]⟩ :=
 Qf (n:=400) (evs:=[.v (.bool (farB c)),.b false,.b false,.b false,.v (.agg (Qq c)),.fz,.cs (Qb p.row),.v (Qs c p),.v (Qs c p),.b false,.b false,.b false,.b false,.b true,.v (Xn c p),.b false,.v (QZ c p),.b false,.v (QW c p),.b true,.b true,.v (.bool true)]) (obs:=_) hE Try.func14 Ql (by kernel_rfl) ho hr
theorem p14_start_46 (c:Cir) (p:Psg) {E:Env} {res:AV} (hE:Qn Try.prog 14 res E) (ho:AllP [Qd Try.prog (.clos 15 [] []) [.agg (Qq c)] (.bool (farB c)),(farB c)=false,(decide ((p.row.length:Int) > 20))=false,(decide ((p.cars.length:Int) > 60))=false,Qd Try.prog (.clos 18 [] []) [.agg (Qq c)] (.agg (Qq c)),1=1,0=0,0=0,(0+p.row.length)≤2147483648,((Qb p.row).drop 0).take (p.row.length*3)=(Qb p.row),(Qb p.row).length=(p.row.length*3),noRefs (Qb p.row)=true,Qd Try.prog (.clos 37 [] []) [.agg (Qq c),.rsl (Qb p.row) 0 (0+p.row.length)] (Qs c p),Qd Try.prog (.clos 38 [] []) (QX c p) (Qs c p),((Qa c p.row).2 != 0)=false,false=false,((Qa c p.row).2 != 0)=false,false=false,((Qa c p.row).2 == 0)=true,Qd Try.prog (.clos 40 [] []) (YE c p) (Xn c p),(!(Qc c p.row ((Qa c p.row).1)).2)=false,Qd Try.prog (.clos 41 [] []) (Vd c p) (QZ c p),(!(Qy c ((Qc c p.row ((Qa c p.row).1)).1)))=false,Qd Try.prog (.clos 40 [] []) (XR c p) (QW c p),(!(Qc c p.row p.cars).2)=false,Qd Try.prog (.clos 41 [] []) (Yn c p) (.bool (Qy c ((Qc c p.row p.cars).1))),(!(Qy c ((Qc c p.row p.cars).1)))=true,Qd Try.prog (.clos 17 [] []) [] (.bool true)])
 (hr:AvLe (.bool true) res):G Try.prog E [.code (Qh Try.prog 14)] ⟨(Xq c p)++unds (Try.f14.ntmps - 2),[]⟩ :=
 Qf (n:=400) (evs:=[.v (.bool (farB c)),.b false,.b false,.b false,.v (.agg (Qq c)),.fz,.cs (Qb p.row),.v (Qs c p),.v (Qs c p),.b false,.b false,.b false,.b false,.b true,.v (Xn c p),.b false,.v (QZ c p),.b false,.v (QW c p),.b false,.v (.bool (Qy c ((Qc c p.row p.cars).1))),.b true,.v (.bool true)]) (obs:=_) hE Try.func14 Ql (by kernel_rfl) ho hr
theorem p14_start_47 (c:Cir) (p:Psg) {E:Env} {res:AV} (hE:Qn Try.prog 14 res E) (ho:AllP [Qd Try.prog (.clos 15 [] []) [.agg (Qq c)] (.bool (farB c)),(farB c)=false,(decide ((p.row.length:Int) > 20))=false,(decide ((p.cars.length:Int) > 60))=false,Qd Try.prog (.clos 18 [] []) [.agg (Qq c)] (.agg (Qq c)),1=1,0=0,0=0,(0+p.row.length)≤2147483648,((Qb p.row).drop 0).take (p.row.length*3)=(Qb p.row),(Qb p.row).length=(p.row.length*3),noRefs (Qb p.row)=true,Qd Try.prog (.clos 37 [] []) [.agg (Qq c),.rsl (Qb p.row) 0 (0+p.row.length)] (Qs c p),Qd Try.prog (.clos 38 [] []) (QX c p) (Qs c p),((Qa c p.row).2 != 0)=false,false=false,((Qa c p.row).2 != 0)=false,false=false,((Qa c p.row).2 == 0)=true,Qd Try.prog (.clos 40 [] []) (YE c p) (Xn c p),(!(Qc c p.row ((Qa c p.row).1)).2)=false,Qd Try.prog (.clos 41 [] []) (Vd c p) (QZ c p),(!(Qy c ((Qc c p.row ((Qa c p.row).1)).1)))=false,Qd Try.prog (.clos 40 [] []) (XR c p) (QW c p),(!(Qc c p.row p.cars).2)=false,Qd Try.prog (.clos 41 [] []) (Yn c p) (.bool (Qy c ((Qc c p.row p.cars).1))),(!(Qy c ((Qc c p.row p.cars).1)))=false,((Qa c p.row).2 == 0)=true,(decide (((((Qa c p.row).1).length:Nat):Int)≤(p.cars.length:Int)))=true,Qd Try.prog (.clos 17 [] []) [] (.bool true)])
 (hr:AvLe (.bool true) res):G Try.prog E [.code (Qh Try.prog 14)] ⟨(Xq c p)++unds (Try.f14.ntmps - 2),[]⟩ :=
 Qf (n:=400) (evs:=[.v (.bool (farB c)),.b false,.b false,.b false,.v (.agg (Qq c)),.fz,.cs (Qb p.row),.v (Qs c p),.v (Qs c p),.b false,.b false,.b false,.b false,.b true,.v (Xn c p),.b false,.v (QZ c p),.b false,.v (QW c p),.b false,.v (.bool (Qy c ((Qc c p.row p.cars).1))),.b false,.b true,.b true,.v (.bool true)]) (obs:=_) hE Try.func14 Ql (by kernel_rfl) ho hr
theorem p14_start_48 (c:Cir) (p:Psg) {E:Env} {res:AV} (hE:Qn Try.prog 14 res E) (ho:AllP [Qd Try.prog (.clos 15 [] []) [.agg (Qq c)] (.bool (farB c)),(farB c)=false,(decide ((p.row.length:Int) > 20))=false,(decide ((p.cars.length:Int) > 60))=false,Qd Try.prog (.clos 18 [] []) [.agg (Qq c)] (.agg (Qq c)),1=1,0=0,0=0,(0+p.row.length)≤2147483648,((Qb p.row).drop 0).take (p.row.length*3)=(Qb p.row),(Qb p.row).length=(p.row.length*3),noRefs (Qb p.row)=true,Qd Try.prog (.clos 37 [] []) [.agg (Qq c),.rsl (Qb p.row) 0 (0+p.row.length)] (Qs c p),Qd Try.prog (.clos 38 [] []) (QX c p) (Qs c p),((Qa c p.row).2 != 0)=false,false=false,((Qa c p.row).2 != 0)=false,false=false,((Qa c p.row).2 == 0)=true,Qd Try.prog (.clos 40 [] []) (YE c p) (Xn c p),(!(Qc c p.row ((Qa c p.row).1)).2)=false,Qd Try.prog (.clos 41 [] []) (Vd c p) (QZ c p),(!(Qy c ((Qc c p.row ((Qa c p.row).1)).1)))=false,Qd Try.prog (.clos 40 [] []) (XR c p) (QW c p),(!(Qc c p.row p.cars).2)=false,Qd Try.prog (.clos 41 [] []) (Yn c p) (.bool (Qy c ((Qc c p.row p.cars).1))),(!(Qy c ((Qc c p.row p.cars).1)))=false,((Qa c p.row).2 == 0)=true,(decide (((((Qa c p.row).1).length:Nat):Int)≤(p.cars.length:Int)))=false])
 (hr:AvLe (.bool false) res):G Try.prog E [.code (Qh Try.prog 14)] ⟨(Xq c p)++unds (Try.f14.ntmps - 2),[]⟩ :=
 Qf (n:=400) (evs:=[.v (.bool (farB c)),.b false,.b false,.b false,.v (.agg (Qq c)),.fz,.cs (Qb p.row),.v (Qs c p),.v (Qs c p),.b false,.b false,.b false,.b false,.b true,.v (Xn c p),.b false,.v (QZ c p),.b false,.v (QW c p),.b false,.v (.bool (Qy c ((Qc c p.row p.cars).1))),.b false,.b true,.b false]) (obs:=_) hE Try.func14 Ql (by kernel_rfl) ho hr
theorem p14_start_49 (c:Cir) (p:Psg) {E:Env} {res:AV} (hE:Qn Try.prog 14 res E) (ho:AllP [Qd Try.prog (.clos 15 [] []) [.agg (Qq c)] (.bool (farB c)),(farB c)=false,(decide ((p.row.length:Int) > 20))=false,(decide ((p.cars.length:Int) > 60))=false,Qd Try.prog (.clos 18 [] []) [.agg (Qq c)] (.agg (Qq c)),1=1,0=0,0=0,(0+p.row.length)≤2147483648,((Qb p.row).drop 0).take (p.row.length*3)=(Qb p.row),(Qb p.row).length=(p.row.length*3),noRefs (Qb p.row)=true,Qd Try.prog (.clos 37 [] []) [.agg (Qq c),.rsl (Qb p.row) 0 (0+p.row.length)] (Qs c p),Qd Try.prog (.clos 38 [] []) (QX c p) (Qs c p),((Qa c p.row).2 != 0)=false,false=false,((Qa c p.row).2 != 0)=false,false=false,((Qa c p.row).2 == 0)=true,Qd Try.prog (.clos 40 [] []) (YE c p) (Xn c p),(!(Qc c p.row ((Qa c p.row).1)).2)=false,Qd Try.prog (.clos 41 [] []) (Vd c p) (QZ c p),(!(Qy c ((Qc c p.row ((Qa c p.row).1)).1)))=false,Qd Try.prog (.clos 40 [] []) (XR c p) (QW c p),(!(Qc c p.row p.cars).2)=false,Qd Try.prog (.clos 41 [] []) (Yn c p) (.bool (Qy c ((Qc c p.row p.cars).1))),(!(Qy c ((Qc c p.row p.cars).1)))=false,((Qa c p.row).2 == 0)=false,false=false])
 (hr:AvLe (.bool false) res):G Try.prog E [.code (Qh Try.prog 14)] ⟨(Xq c p)++unds (Try.f14.ntmps - 2),[]⟩ :=
 Qf (n:=400) (evs:=[.v (.bool (farB c)),.b false,.b false,.b false,.v (.agg (Qq c)),.fz,.cs (Qb p.row),.v (Qs c p),.v (Qs c p),.b false,.b false,.b false,.b false,.b true,.v (Xn c p),.b false,.v (QZ c p),.b false,.v (QW c p),.b false,.v (.bool (Qy c ((Qc c p.row p.cars).1))),.b false,.b false,.b false]) (obs:=_) hE Try.func14 Ql (by kernel_rfl) ho hr
theorem p14_start_50 (c:Cir) (p:Psg) {E:Env} {res:AV} (hE:Qn Try.prog 14 res E) (ho:AllP [Qd Try.prog (.clos 15 [] []) [.agg (Qq c)] (.bool (farB c)),(farB c)=false,(decide ((p.row.length:Int) > 20))=false,(decide ((p.cars.length:Int) > 60))=false,Qd Try.prog (.clos 18 [] []) [.agg (Qq c)] (.agg (Qq c)),1=1,0=0,0=0,(0+p.row.length)≤2147483648,((Qb p.row).drop 0).take (p.row.length*3)=(Qb p.row),(Qb p.row).length=(p.row.length*3),noRefs (Qb p.row)=true,Qd Try.prog (.clos 37 [] []) [.agg (Qq c),.rsl (Qb p.row) 0 (0+p.row.length)] (Qs c p),Qd Try.prog (.clos 38 [] []) (QX c p) (Qs c p),((Qa c p.row).2 != 0)=false,false=false,((Qa c p.row).2 != 0)=false,false=false,((Qa c p.row).2 == 0)=false,Qd Try.prog (.clos 40 [] []) (XR c p) (QW c p),(!(Qc c p.row p.cars).2)=true,true=true,Qd Try.prog (.clos 17 [] []) [] (.bool true)])
 (hr:AvLe (.bool true) res):G Try.prog E [.code (Qh Try.prog 14)] ⟨(Xq c p)++unds (Try.f14.ntmps - 2),[]⟩ :=
 Qf (n:=400) (evs:=[.v (.bool (farB c)),.b false,.b false,.b false,.v (.agg (Qq c)),.fz,.cs (Qb p.row),.v (Qs c p),.v (Qs c p),.b false,.b false,.b false,.b false,.b false,.v (QW c p),.b true,.b true,.v (.bool true)]) (obs:=_) hE Try.func14 Ql (by kernel_rfl) ho hr
theorem p14_start_51 (c:Cir) (p:Psg) {E:Env} {res:AV} (hE:Qn Try.prog 14 res E) (ho:AllP [Qd Try.prog (.clos 15 [] []) [.agg (Qq c)] (.bool (farB c)),(farB c)=false,(decide ((p.row.length:Int) > 20))=false,(decide ((p.cars.length:Int) > 60))=false,Qd Try.prog (.clos 18 [] []) [.agg (Qq c)] (.agg (Qq c)),1=1,0=0,0=0,(0+p.row.length)≤2147483648,((Qb p.row).drop 0).take (p.row.length*3)=(Qb p.row),(Qb p.row).length=(p.row.length*3),noRefs (Qb p.row)=true,Qd Try.prog (.clos 37 [] []) [.agg (Qq c),.rsl (Qb p.row) 0 (0+p.row.length)] (Qs c p),Qd Try.prog (.clos 38 [] []) (QX c p) (Qs c p),((Qa c p.row).2 != 0)=false,false=false,((Qa c p.row).2 != 0)=false,false=false,((Qa c p.row).2 == 0)=false,Qd Try.prog (.clos 40 [] []) (XR c p) (QW c p),(!(Qc c p.row p.cars).2)=false,Qd Try.prog (.clos 41 [] []) (Yn c p) (.bool (Qy c ((Qc c p.row p.cars).1))),(!(Qy c ((Qc c p.row p.cars).1)))=true,Qd Try.prog (.clos 17 [] []) [] (.bool true)])
 (hr:AvLe (.bool true) res):G Try.prog E [.code (Qh Try.prog 14)] ⟨(Xq c p)++unds (Try.f14.ntmps - 2),[]⟩ :=
 Qf (n:=400) (evs:=[.v (.bool (farB c)),.b false,.b false,.b false,.v (.agg (Qq c)),.fz,.cs (Qb p.row),.v (Qs c p),.v (Qs c p),.b false,.b false,.b false,.b false,.b false,.v (QW c p),.b false,.v (.bool (Qy c ((Qc c p.row p.cars).1))),.b true,.v (.bool true)]) (obs:=_) hE Try.func14 Ql (by kernel_rfl) ho hr
theorem p14_start_52 (c:Cir) (p:Psg) {E:Env} {res:AV} (hE:Qn Try.prog 14 res E) (ho:AllP [Qd Try.prog (.clos 15 [] []) [.agg (Qq c)] (.bool (farB c)),(farB c)=false,(decide ((p.row.length:Int) > 20))=false,(decide ((p.cars.length:Int) > 60))=false,Qd Try.prog (.clos 18 [] []) [.agg (Qq c)] (.agg (Qq c)),1=1,0=0,0=0,(0+p.row.length)≤2147483648,((Qb p.row).drop 0).take (p.row.length*3)=(Qb p.row),(Qb p.row).length=(p.row.length*3),noRefs (Qb p.row)=true,Qd Try.prog (.clos 37 [] []) [.agg (Qq c),.rsl (Qb p.row) 0 (0+p.row.length)] (Qs c p),Qd Try.prog (.clos 38 [] []) (QX c p) (Qs c p),((Qa c p.row).2 != 0)=false,false=false,((Qa c p.row).2 != 0)=false,false=false,((Qa c p.row).2 == 0)=false,Qd Try.prog (.clos 40 [] []) (XR c p) (QW c p),(!(Qc c p.row p.cars).2)=false,Qd Try.prog (.clos 41 [] []) (Yn c p) (.bool (Qy c ((Qc c p.row p.cars).1))),(!(Qy c ((Qc c p.row p.cars).1)))=false,((Qa c p.row).2 == 0)=true,(decide (((((Qa c p.row).1).length:Nat):Int)≤(p.cars.length:Int)))=true,Qd Try.prog (.clos 17 [] []) [] (.bool true)])
 (hr:AvLe (.bool true) res):G Try.prog E [.code (Qh Try.prog 14)] ⟨(Xq c p)++unds (Try.f14.ntmps - 2),[]⟩ :=
 Qf (n:=400) (evs:=[.v (.bool (farB c)),.b false,.b false,.b false,.v (.agg (Qq c)),.fz,.cs (Qb p.row),.v (Qs c p),.v (Qs c p),.b false,.b false,.b false,.b false,.b false,.v (QW c p),.b false,.v (.bool (Qy c ((Qc c p.row p.cars).1))),.b false,.b true,.b true,.v (.bool true)]) (obs:=_) hE Try.func14 Ql (by kernel_rfl) ho hr
theorem p14_start_53 (c:Cir) (p:Psg) {E:Env} {res:AV} (hE:Qn Try.prog 14 res E) (ho:AllP [Qd Try.prog (.clos 15 [] []) [.agg (Qq c)] (.bool (farB c)),(farB c)=false,(decide ((p.row.length:Int) > 20))=false,(decide ((p.cars.length:Int) > 60))=false,Qd Try.prog (.clos 18 [] []) [.agg (Qq c)] (.agg (Qq c)),1=1,0=0,0=0,(0+p.row.length)≤2147483648,((Qb p.row).drop 0).take (p.row.length*3)=(Qb p.row),(Qb p.row).length=(p.row.length*3),noRefs (Qb p.row)=true,Qd Try.prog (.clos 37 [] []) [.agg (Qq c),.rsl (Qb p.row) 0 (0+p.row.length)] (Qs c p),Qd Try.prog (.clos 38 [] []) (QX c p) (Qs c p),((Qa c p.row).2 != 0)=false,false=false,((Qa c p.row).2 != 0)=false,false=false,((Qa c p.row).2 == 0)=false,Qd Try.prog (.clos 40 [] []) (XR c p) (QW c p),(!(Qc c p.row p.cars).2)=false,Qd Try.prog (.clos 41 [] []) (Yn c p) (.bool (Qy c ((Qc c p.row p.cars).1))),(!(Qy c ((Qc c p.row p.cars).1)))=false,((Qa c p.row).2 == 0)=true,(decide (((((Qa c p.row).1).length:Nat):Int)≤(p.cars.length:Int)))=false])
 (hr:AvLe (.bool false) res):G Try.prog E [.code (Qh Try.prog 14)] ⟨(Xq c p)++unds (Try.f14.ntmps - 2),[]⟩ :=
 Qf (n:=400) (evs:=[.v (.bool (farB c)),.b false,.b false,.b false,.v (.agg (Qq c)),.fz,.cs (Qb p.row),.v (Qs c p),.v (Qs c p),.b false,.b false,.b false,.b false,.b false,.v (QW c p),.b false,.v (.bool (Qy c ((Qc c p.row p.cars).1))),.b false,.b true,.b false]) (obs:=_) hE Try.func14 Ql (by kernel_rfl) ho hr
theorem p14_start_54 (c:Cir) (p:Psg) {E:Env} {res:AV} (hE:Qn Try.prog 14 res E) (ho:AllP [Qd Try.prog (.clos 15 [] []) [.agg (Qq c)] (.bool (farB c)),(farB c)=false,(decide ((p.row.length:Int) > 20))=false,(decide ((p.cars.length:Int) > 60))=false,Qd Try.prog (.clos 18 [] []) [.agg (Qq c)] (.agg (Qq c)),1=1,0=0,0=0,(0+p.row.length)≤2147483648,((Qb p.row).drop 0).take (p.row.length*3)=(Qb p.row),(Qb p.row).length=(p.row.length*3),noRefs (Qb p.row)=true,Qd Try.prog (.clos 37 [] []) [.agg (Qq c),.rsl (Qb p.row) 0 (0+p.row.length)] (Qs c p),Qd Try.prog (.clos 38 [] []) (QX c p) (Qs c p),((Qa c p.row).2 != 0)=false,false=false,((Qa c p.row).2 != 0)=false,false=false,((Qa c p.row).2 == 0)=false,Qd Try.prog (.clos 40 [] []) (XR c p) (QW c p),(!(Qc c p.row p.cars).2)=false,Qd Try.prog (.clos 41 [] []) (Yn c p) (.bool (Qy c ((Qc c p.row p.cars).1))),(!(Qy c ((Qc c p.row p.cars).1)))=false,((Qa c p.row).2 == 0)=false,false=false])
 (hr:AvLe (.bool false) res):G Try.prog E [.code (Qh Try.prog 14)] ⟨(Xq c p)++unds (Try.f14.ntmps - 2),[]⟩ :=
 Qf (n:=400) (evs:=[.v (.bool (farB c)),.b false,.b false,.b false,.v (.agg (Qq c)),.fz,.cs (Qb p.row),.v (Qs c p),.v (Qs c p),.b false,.b false,.b false,.b false,.b false,.v (QW c p),.b false,.v (.bool (Qy c ((Qc c p.row p.cars).1))),.b false,.b false,.b false]) (obs:=_) hE Try.func14 Ql (by kernel_rfl) ho hr
theorem f14W (c:Cir) (p:Psg) {E:Env} {rv:Bool} (hE:Qn Try.prog 14 (.bool rv) E)
 (h:(((farB c)=true→rv=true)∧((farB c)=false→(((p.row.length:Int) > 20→rv=true)∧(¬ ((p.row.length:Int) > 20)→(((p.cars.length:Int) > 60→rv=true)∧(¬ ((p.cars.length:Int) > 60)→((c.blocks.length≤2147483648∧c.cars.length≤2147483648)∧((0+p.row.length)≤2147483648∧(((c.blocks.length≤9223372036854775807∧c.cars.length≤9223372036854775807)∧p.row.length≤9223372036854775807)∧(((c.blocks.length≤9223372036854775807∧c.cars.length≤9223372036854775807)∧p.row.length≤9223372036854775807)∧((¬ ((Qa c p.row).2=0)→((¬ ((Qa c p.row).2=3)→(((Qa c p.row).2=(Qa c p.row).2→rv=true)∧(¬ ((Qa c p.row).2=(Qa c p.row).2)→rv=false)))∧((Qa c p.row).2=3→((¬ ((Qa c p.row).2=0)→((¬ ((Qa c p.row).2=3)→rv=false)∧((Qa c p.row).2=3→(((Qa c p.row).2=0→(((c.blocks.length ≠ 0∧c.blocks.length≤1000000)∧(p.row.length≤1000000∧(∀ x ∈ p.row,0≤x.block∧x.block<c.blocks.length))∧((Qa c p.row).1).length≤9223372036854775807)∧(((!(Qc c p.row ((Qa c p.row).1)).2)=true→rv=false)∧((!(Qc c p.row ((Qa c p.row).1)).2)=false→(((∀ b ∈ ((Qc c p.row ((Qa c p.row).1)).1),InC c b)∧((Qc c p.row ((Qa c p.row).1)).1).length≤9223372036854775807)∧(((Qy c ((Qc c p.row ((Qa c p.row).1)).1))=false→rv=false)∧((Qy c ((Qc c p.row ((Qa c p.row).1)).1))=true→(((c.blocks.length ≠ 0∧c.blocks.length≤1000000)∧(p.row.length≤1000000∧(∀ x ∈ p.row,0≤x.block∧x.block<c.blocks.length))∧p.cars.length≤9223372036854775807)∧(((!(Qc c p.row p.cars).2)=true→rv=true)∧((!(Qc c p.row p.cars).2)=false→(((∀ b ∈ ((Qc c p.row p.cars).1),InC c b)∧((Qc c p.row p.cars).1).length≤9223372036854775807)∧(((Qy c ((Qc c p.row p.cars).1))=false→rv=true)∧((Qy c ((Qc c p.row p.cars).1))=true→(((Qa c p.row).2=0→((((((Qa c p.row).1).length:Nat):Int)≤(p.cars.length:Int)→rv=true)∧(¬ (((((Qa c p.row).1).length:Nat):Int)≤(p.cars.length:Int))→rv=false)))∧(¬ ((Qa c p.row).2=0)→rv=false)))))))))))))))∧(¬ ((Qa c p.row).2=0)→(((c.blocks.length ≠ 0∧c.blocks.length≤1000000)∧(p.row.length≤1000000∧(∀ x ∈ p.row,0≤x.block∧x.block<c.blocks.length))∧p.cars.length≤9223372036854775807)∧(((!(Qc c p.row p.cars).2)=true→rv=true)∧((!(Qc c p.row p.cars).2)=false→(((∀ b ∈ ((Qc c p.row p.cars).1),InC c b)∧((Qc c p.row p.cars).1).length≤9223372036854775807)∧(((Qy c ((Qc c p.row p.cars).1))=false→rv=true)∧((Qy c ((Qc c p.row p.cars).1))=true→(((Qa c p.row).2=0→((((((Qa c p.row).1).length:Nat):Int)≤(p.cars.length:Int)→rv=true)∧(¬ (((((Qa c p.row).1).length:Nat):Int)≤(p.cars.length:Int))→rv=false)))∧(¬ ((Qa c p.row).2=0)→rv=false)))))))))))))∧((Qa c p.row).2=0→(((Qa c p.row).2=0→(((c.blocks.length ≠ 0∧c.blocks.length≤1000000)∧(p.row.length≤1000000∧(∀ x ∈ p.row,0≤x.block∧x.block<c.blocks.length))∧((Qa c p.row).1).length≤9223372036854775807)∧(((!(Qc c p.row ((Qa c p.row).1)).2)=true→rv=false)∧((!(Qc c p.row ((Qa c p.row).1)).2)=false→(((∀ b ∈ ((Qc c p.row ((Qa c p.row).1)).1),InC c b)∧((Qc c p.row ((Qa c p.row).1)).1).length≤9223372036854775807)∧(((Qy c ((Qc c p.row ((Qa c p.row).1)).1))=false→rv=false)∧((Qy c ((Qc c p.row ((Qa c p.row).1)).1))=true→(((c.blocks.length ≠ 0∧c.blocks.length≤1000000)∧(p.row.length≤1000000∧(∀ x ∈ p.row,0≤x.block∧x.block<c.blocks.length))∧p.cars.length≤9223372036854775807)∧(((!(Qc c p.row p.cars).2)=true→rv=true)∧((!(Qc c p.row p.cars).2)=false→(((∀ b ∈ ((Qc c p.row p.cars).1),InC c b)∧((Qc c p.row p.cars).1).length≤9223372036854775807)∧(((Qy c ((Qc c p.row p.cars).1))=false→rv=true)∧((Qy c ((Qc c p.row p.cars).1))=true→(((Qa c p.row).2=0→((((((Qa c p.row).1).length:Nat):Int)≤(p.cars.length:Int)→rv=true)∧(¬ (((((Qa c p.row).1).length:Nat):Int)≤(p.cars.length:Int))→rv=false)))∧(¬ ((Qa c p.row).2=0)→rv=false)))))))))))))))∧(¬ ((Qa c p.row).2=0)→(((c.blocks.length ≠ 0∧c.blocks.length≤1000000)∧(p.row.length≤1000000∧(∀ x ∈ p.row,0≤x.block∧x.block<c.blocks.length))∧p.cars.length≤9223372036854775807)∧(((!(Qc c p.row p.cars).2)=true→rv=true)∧((!(Qc c p.row p.cars).2)=false→(((∀ b ∈ ((Qc c p.row p.cars).1),InC c b)∧((Qc c p.row p.cars).1).length≤9223372036854775807)∧(((Qy c ((Qc c p.row p.cars).1))=false→rv=true)∧((Qy c ((Qc c p.row p.cars).1))=true→(((Qa c p.row).2=0→((((((Qa c p.row).1).length:Nat):Int)≤(p.cars.length:Int)→rv=true)∧(¬ (((((Qa c p.row).1).length:Nat):Int)≤(p.cars.length:Int))→rv=false)))∧(¬ ((Qa c p.row).2=0)→rv=false)))))))))))))))∧((Qa c p.row).2=0→((¬ ((Qa c p.row).2=0)→((¬ ((Qa c p.row).2=3)→rv=false)∧((Qa c p.row).2=3→(((Qa c p.row).2=0→(((c.blocks.length ≠ 0∧c.blocks.length≤1000000)∧(p.row.length≤1000000∧(∀ x ∈ p.row,0≤x.block∧x.block<c.blocks.length))∧((Qa c p.row).1).length≤9223372036854775807)∧(((!(Qc c p.row ((Qa c p.row).1)).2)=true→rv=false)∧((!(Qc c p.row ((Qa c p.row).1)).2)=false→(((∀ b ∈ ((Qc c p.row ((Qa c p.row).1)).1),InC c b)∧((Qc c p.row ((Qa c p.row).1)).1).length≤9223372036854775807)∧(((Qy c ((Qc c p.row ((Qa c p.row).1)).1))=false→rv=false)∧((Qy c ((Qc c p.row ((Qa c p.row).1)).1))=true→(((c.blocks.length ≠ 0∧c.blocks.length≤1000000)∧(p.row.length≤1000000∧(∀ x ∈ p.row,0≤x.block∧x.block<c.blocks.length))∧p.cars.length≤9223372036854775807)∧(((!(Qc c p.row p.cars).2)=true→rv=true)∧((!(Qc c p.row p.cars).2)=false→(((∀ b ∈ ((Qc c p.row p.cars).1),InC c b)∧((Qc c p.row p.cars).1).length≤9223372036854775807)∧(((Qy c ((Qc c p.row p.cars).1))=false→rv=true)∧((Qy c ((Qc c p.row p.cars).1))=true→(((Qa c p.row).2=0→((((((Qa c p.row).1).length:Nat):Int)≤(p.cars.length:Int)→rv=true)∧(¬ (((((Qa c p.row).1).length:Nat):Int)≤(p.cars.length:Int))→rv=false)))∧(¬ ((Qa c p.row).2=0)→rv=false)))))))))))))))∧(¬ ((Qa c p.row).2=0)→(((c.blocks.length ≠ 0∧c.blocks.length≤1000000)∧(p.row.length≤1000000∧(∀ x ∈ p.row,0≤x.block∧x.block<c.blocks.length))∧p.cars.length≤9223372036854775807)∧(((!(Qc c p.row p.cars).2)=true→rv=true)∧((!(Qc c p.row p.cars).2)=false→(((∀ b ∈ ((Qc c p.row p.cars).1),InC c b)∧((Qc c p.row p.cars).1).length≤9223372036854775807)∧(((Qy c ((Qc c p.row p.cars).1))=false→rv=true)∧((Qy c ((Qc c p.row p.cars).1))=true→(((Qa c p.row).2=0→((((((Qa c p.row).1).length:Nat):Int)≤(p.cars.length:Int)→rv=true)∧(¬ (((((Qa c p.row).1).length:Nat):Int)≤(p.cars.length:Int))→rv=false)))∧(¬ ((Qa c p.row).2=0)→rv=false)))))))))))))∧((Qa c p.row).2=0→(((Qa c p.row).2=0→(((c.blocks.length ≠ 0∧c.blocks.length≤1000000)∧(p.row.length≤1000000∧(∀ x ∈ p.row,0≤x.block∧x.block<c.blocks.length))∧((Qa c p.row).1).length≤9223372036854775807)∧(((!(Qc c p.row ((Qa c p.row).1)).2)=true→rv=false)∧((!(Qc c p.row ((Qa c p.row).1)).2)=false→(((∀ b ∈ ((Qc c p.row ((Qa c p.row).1)).1),InC c b)∧((Qc c p.row ((Qa c p.row).1)).1).length≤9223372036854775807)∧(((Qy c ((Qc c p.row ((Qa c p.row).1)).1))=false→rv=false)∧((Qy c ((Qc c p.row ((Qa c p.row).1)).1))=true→(((c.blocks.length ≠ 0∧c.blocks.length≤1000000)∧(p.row.length≤1000000∧(∀ x ∈ p.row,0≤x.block∧x.block<c.blocks.length))∧p.cars.length≤9223372036854775807)∧(((!(Qc c p.row p.cars).2)=true→rv=true)∧((!(Qc c p.row p.cars).2)=false→(((∀ b ∈ ((Qc c p.row p.cars).1),InC c b)∧((Qc c p.row p.cars).1).length≤9223372036854775807)∧(((Qy c ((Qc c p.row p.cars).1))=false→rv=true)∧((Qy c ((Qc c p.row p.cars).1))=true→(((Qa c p.row).2=0→((((((Qa c p.row).1).length:Nat):Int)≤(p.cars.length:Int)→rv=true)∧(¬ (((((Qa c p.row).1).length:Nat):Int)≤(p.cars.length:Int))→rv=false)))∧(¬ ((Qa c p.row).2=0)→rv=false)))))))))))))))∧(¬ ((Qa c p.row).2=0)→(((c.blocks.length ≠ 0∧c.blocks.length≤1000000)∧(p.row.length≤1000000∧(∀ x ∈ p.row,0≤x.block∧x.block<c.blocks.length))∧p.cars.length≤9223372036854775807)∧(((!(Qc c p.row p.cars).2)=true→rv=true)∧((!(Qc c p.row p.cars).2)=false→(((∀ b ∈ ((Qc c p.row p.cars).1),InC c b)∧((Qc c p.row p.cars).1).length≤9223372036854775807)∧(((Qy c ((Qc c p.row p.cars).1))=false→rv=true)∧((Qy c ((Qc c p.row p.cars).1))=true→(((Qa c p.row).2=0→((((((Qa c p.row).1).length:Nat):Int)≤(p.cars.length:Int)→rv=true)∧(¬ (((((Qa c p.row).1).length:Nat):Int)≤(p.cars.length:Int))→rv=false)))∧(¬ ((Qa c p.row).2=0)→rv=false))))))))))))))))))))))))):G Try.prog E [.code (Qh Try.prog 14)] ⟨[.agg [.rsl (Qk c.blocks) 0 c.blocks.length,.rsl (rowI c.cars) 0 c.cars.length],.agg [.rsl (Qb p.row) 0 p.row.length,.rsl (rowI p.cars) 0 p.cars.length]]++unds (Try.f14.ntmps - 2),[]⟩:=by
 rcases bft (farB c) with hc0 | hc0
 · have h:=h.1 hc0
   exact p14_start_0 c p hE ⟨(u15 (QU c)),hc0,rfl,rfl,(u17 Xa),trivial⟩ (AvLe.of_eq (by rw [h]; try rfl))
 · have h:=h.2 hc0
   rcases bft (decide ((p.row.length:Int) > 20)) with hc1 | hc1
   · have h:=h.1 (odt hc1)
     exact p14_start_1 c p hE ⟨(u15 (QU c)),hc0,hc1,rfl,(u17 Xa),trivial⟩ (AvLe.of_eq (by rw [h]; try rfl))
   · have h:=h.2 (odf hc1)
     rcases bft (decide ((p.cars.length:Int) > 60)) with hc2 | hc2
     · have h:=h.1 (odt hc2)
       exact p14_start_2 c p hE ⟨(u15 (QU c)),hc0,hc1,hc2,(u17 Xa),trivial⟩ (AvLe.of_eq (by rw [h]; try rfl))
     · have h:=h.2 (odf hc2)
       obtain ⟨h1,h⟩:=h
       obtain ⟨h2,h⟩:=h
       obtain ⟨h3,h⟩:=h
       obtain ⟨h4,h⟩:=h
       rcases bft ((Qa c p.row).2 != 0) with hc3 | hc3
       · have h:=h.1 (bneT hc3)
         rcases bft ((Qa c p.row).2 != 3) with hc4 | hc4
         · have h:=h.1 (bneT hc4)
           rcases bft ((Qa c p.row).2 == (Qa c p.row).2) with hc5 | hc5
           · have h:=h.1 (eq_of_beq hc5)
             exact p14_start_3 c p hE ⟨(u15 (QU c)),hc0,hc1,hc2,(u18 (QC c h1)),rfl,rfl,rfl,h2,(by exact QL cSpt (fun _=>rfl) p.row),(by exact Qv cSpt (fun _=>rfl) p.row),(by exact QS cSpt (fun _=>rfl) p.row),(by rw [(show AV.rsl (Qb p.row) 0 (0+p.row.length)=AV.rsl (Qb p.row) 0 p.row.length from by rw [show (0+p.row.length)=p.row.length from by simp])]; exact (u37 (Qz c p.row h3))),(u38 (Qw c p.row h4)),hc3,hc4,hc5,(u17 Xa),trivial⟩ (AvLe.of_eq (by rw [h]; try rfl))
           · have h:=h.2 (ne_of_beq_false hc5)
             exact p14_start_4 c p hE ⟨(u15 (QU c)),hc0,hc1,hc2,(u18 (QC c h1)),rfl,rfl,rfl,h2,(by exact QL cSpt (fun _=>rfl) p.row),(by exact Qv cSpt (fun _=>rfl) p.row),(by exact QS cSpt (fun _=>rfl) p.row),(by rw [(show AV.rsl (Qb p.row) 0 (0+p.row.length)=AV.rsl (Qb p.row) 0 p.row.length from by rw [show (0+p.row.length)=p.row.length from by simp])]; exact (u37 (Qz c p.row h3))),(u38 (Qw c p.row h4)),hc3,hc4,hc5,trivial⟩ (AvLe.of_eq (by rw [h]; try rfl))
         · have h:=h.2 (bneF hc4)
           rcases bft ((Qa c p.row).2 != 0) with hc5 | hc5
           · have h:=h.1 (bneT hc5)
             rcases bft ((Qa c p.row).2 != 3) with hc6 | hc6
             · have h:=h.1 (bneT hc6)
               exact p14_start_5 c p hE ⟨(u15 (QU c)),hc0,hc1,hc2,(u18 (QC c h1)),rfl,rfl,rfl,h2,(by exact QL cSpt (fun _=>rfl) p.row),(by exact Qv cSpt (fun _=>rfl) p.row),(by exact QS cSpt (fun _=>rfl) p.row),(by rw [(show AV.rsl (Qb p.row) 0 (0+p.row.length)=AV.rsl (Qb p.row) 0 p.row.length from by rw [show (0+p.row.length)=p.row.length from by simp])]; exact (u37 (Qz c p.row h3))),(u38 (Qw c p.row h4)),hc3,hc4,hc5,hc6,trivial⟩ (AvLe.of_eq (by rw [h]; try rfl))
             · have h:=h.2 (bneF hc6)
               rcases bft ((Qa c p.row).2 == 0) with hc7 | hc7
               · have h:=h.1 (eq_of_beq hc7)
                 obtain ⟨h5,h⟩:=h
                 rcases bft (!(Qc c p.row ((Qa c p.row).1)).2) with hc8 | hc8
                 · have h:=h.1 hc8
                   exact p14_start_6 c p hE ⟨(u15 (QU c)),hc0,hc1,hc2,(u18 (QC c h1)),rfl,rfl,rfl,h2,(by exact QL cSpt (fun _=>rfl) p.row),(by exact Qv cSpt (fun _=>rfl) p.row),(by exact QS cSpt (fun _=>rfl) p.row),(by rw [(show AV.rsl (Qb p.row) 0 (0+p.row.length)=AV.rsl (Qb p.row) 0 p.row.length from by rw [show (0+p.row.length)=p.row.length from by simp])]; exact (u37 (Qz c p.row h3))),(u38 (Qw c p.row h4)),hc3,hc4,hc5,hc6,hc7,(u40 (Qt c p.row ((Qa c p.row).1) h5)),hc8,rfl,trivial⟩ (AvLe.of_eq (by rw [h]; try rfl))
                 · have h:=h.2 hc8
                   obtain ⟨h6,h⟩:=h
                   rcases bft (!(Qy c ((Qc c p.row ((Qa c p.row).1)).1))) with hc9 | hc9
                   · have h:=h.1 (bnT hc9)
                     exact p14_start_7 c p hE ⟨(u15 (QU c)),hc0,hc1,hc2,(u18 (QC c h1)),rfl,rfl,rfl,h2,(by exact QL cSpt (fun _=>rfl) p.row),(by exact Qv cSpt (fun _=>rfl) p.row),(by exact QS cSpt (fun _=>rfl) p.row),(by rw [(show AV.rsl (Qb p.row) 0 (0+p.row.length)=AV.rsl (Qb p.row) 0 p.row.length from by rw [show (0+p.row.length)=p.row.length from by simp])]; exact (u37 (Qz c p.row h3))),(u38 (Qw c p.row h4)),hc3,hc4,hc5,hc6,hc7,(u40 (Qt c p.row ((Qa c p.row).1) h5)),hc8,(u41 (QF c ((Qc c p.row ((Qa c p.row).1)).1) h6)),hc9,trivial⟩ (AvLe.of_eq (by rw [h]; try rfl))
                   · have h:=h.2 (bnF hc9)
                     obtain ⟨h7,h⟩:=h
                     rcases bft (!(Qc c p.row p.cars).2) with hc10 | hc10
                     · have h:=h.1 hc10
                       exact p14_start_8 c p hE ⟨(u15 (QU c)),hc0,hc1,hc2,(u18 (QC c h1)),rfl,rfl,rfl,h2,(by exact QL cSpt (fun _=>rfl) p.row),(by exact Qv cSpt (fun _=>rfl) p.row),(by exact QS cSpt (fun _=>rfl) p.row),(by rw [(show AV.rsl (Qb p.row) 0 (0+p.row.length)=AV.rsl (Qb p.row) 0 p.row.length from by rw [show (0+p.row.length)=p.row.length from by simp])]; exact (u37 (Qz c p.row h3))),(u38 (Qw c p.row h4)),hc3,hc4,hc5,hc6,hc7,(u40 (Qt c p.row ((Qa c p.row).1) h5)),hc8,(u41 (QF c ((Qc c p.row ((Qa c p.row).1)).1) h6)),hc9,(u40 (Qt c p.row p.cars h7)),hc10,rfl,(u17 Xa),trivial⟩ (AvLe.of_eq (by rw [h]; try rfl))
                     · have h:=h.2 hc10
                       obtain ⟨h8,h⟩:=h
                       rcases bft (!(Qy c ((Qc c p.row p.cars).1))) with hc11 | hc11
                       · have h:=h.1 (bnT hc11)
                         exact p14_start_9 c p hE ⟨(u15 (QU c)),hc0,hc1,hc2,(u18 (QC c h1)),rfl,rfl,rfl,h2,(by exact QL cSpt (fun _=>rfl) p.row),(by exact Qv cSpt (fun _=>rfl) p.row),(by exact QS cSpt (fun _=>rfl) p.row),(by rw [(show AV.rsl (Qb p.row) 0 (0+p.row.length)=AV.rsl (Qb p.row) 0 p.row.length from by rw [show (0+p.row.length)=p.row.length from by simp])]; exact (u37 (Qz c p.row h3))),(u38 (Qw c p.row h4)),hc3,hc4,hc5,hc6,hc7,(u40 (Qt c p.row ((Qa c p.row).1) h5)),hc8,(u41 (QF c ((Qc c p.row ((Qa c p.row).1)).1) h6)),hc9,(u40 (Qt c p.row p.cars h7)),hc10,(u41 (QF c ((Qc c p.row p.cars).1) h8)),hc11,(u17 Xa),trivial⟩ (AvLe.of_eq (by rw [h]; try rfl))
                       · have h:=h.2 (bnF hc11)
                         rcases bft ((Qa c p.row).2 == 0) with hc12 | hc12
                         · have h:=h.1 (eq_of_beq hc12)
                           rcases bft (decide (((((Qa c p.row).1).length:Nat):Int)≤(p.cars.length:Int))) with hc13 | hc13
                           · have h:=h.1 (odt hc13)
                             exact p14_start_10 c p hE ⟨(u15 (QU c)),hc0,hc1,hc2,(u18 (QC c h1)),rfl,rfl,rfl,h2,(by exact QL cSpt (fun _=>rfl) p.row),(by exact Qv cSpt (fun _=>rfl) p.row),(by exact QS cSpt (fun _=>rfl) p.row),(by rw [(show AV.rsl (Qb p.row) 0 (0+p.row.length)=AV.rsl (Qb p.row) 0 p.row.length from by rw [show (0+p.row.length)=p.row.length from by simp])]; exact (u37 (Qz c p.row h3))),(u38 (Qw c p.row h4)),hc3,hc4,hc5,hc6,hc7,(u40 (Qt c p.row ((Qa c p.row).1) h5)),hc8,(u41 (QF c ((Qc c p.row ((Qa c p.row).1)).1) h6)),hc9,(u40 (Qt c p.row p.cars h7)),hc10,(u41 (QF c ((Qc c p.row p.cars).1) h8)),hc11,hc12,hc13,(u17 Xa),trivial⟩ (AvLe.of_eq (by rw [h]; try rfl))
                           · have h:=h.2 (odf hc13)
                             exact p14_start_11 c p hE ⟨(u15 (QU c)),hc0,hc1,hc2,(u18 (QC c h1)),rfl,rfl,rfl,h2,(by exact QL cSpt (fun _=>rfl) p.row),(by exact Qv cSpt (fun _=>rfl) p.row),(by exact QS cSpt (fun _=>rfl) p.row),(by rw [(show AV.rsl (Qb p.row) 0 (0+p.row.length)=AV.rsl (Qb p.row) 0 p.row.length from by rw [show (0+p.row.length)=p.row.length from by simp])]; exact (u37 (Qz c p.row h3))),(u38 (Qw c p.row h4)),hc3,hc4,hc5,hc6,hc7,(u40 (Qt c p.row ((Qa c p.row).1) h5)),hc8,(u41 (QF c ((Qc c p.row ((Qa c p.row).1)).1) h6)),hc9,(u40 (Qt c p.row p.cars h7)),hc10,(u41 (QF c ((Qc c p.row p.cars).1) h8)),hc11,hc12,hc13,trivial⟩ (AvLe.of_eq (by rw [h]; try rfl))
                         · have h:=h.2 (ne_of_beq_false hc12)
                           exact p14_start_12 c p hE ⟨(u15 (QU c)),hc0,hc1,hc2,(u18 (QC c h1)),rfl,rfl,rfl,h2,(by exact QL cSpt (fun _=>rfl) p.row),(by exact Qv cSpt (fun _=>rfl) p.row),(by exact QS cSpt (fun _=>rfl) p.row),(by rw [(show AV.rsl (Qb p.row) 0 (0+p.row.length)=AV.rsl (Qb p.row) 0 p.row.length from by rw [show (0+p.row.length)=p.row.length from by simp])]; exact (u37 (Qz c p.row h3))),(u38 (Qw c p.row h4)),hc3,hc4,hc5,hc6,hc7,(u40 (Qt c p.row ((Qa c p.row).1) h5)),hc8,(u41 (QF c ((Qc c p.row ((Qa c p.row).1)).1) h6)),hc9,(u40 (Qt c p.row p.cars h7)),hc10,(u41 (QF c ((Qc c p.row p.cars).1) h8)),hc11,hc12,rfl,trivial⟩ (AvLe.of_eq (by rw [h]; try rfl))
               · have h:=h.2 (ne_of_beq_false hc7)
                 obtain ⟨h5,h⟩:=h
                 rcases bft (!(Qc c p.row p.cars).2) with hc8 | hc8
                 · have h:=h.1 hc8
                   exact p14_start_13 c p hE ⟨(u15 (QU c)),hc0,hc1,hc2,(u18 (QC c h1)),rfl,rfl,rfl,h2,(by exact QL cSpt (fun _=>rfl) p.row),(by exact Qv cSpt (fun _=>rfl) p.row),(by exact QS cSpt (fun _=>rfl) p.row),(by rw [(show AV.rsl (Qb p.row) 0 (0+p.row.length)=AV.rsl (Qb p.row) 0 p.row.length from by rw [show (0+p.row.length)=p.row.length from by simp])]; exact (u37 (Qz c p.row h3))),(u38 (Qw c p.row h4)),hc3,hc4,hc5,hc6,hc7,(u40 (Qt c p.row p.cars h5)),hc8,rfl,(u17 Xa),trivial⟩ (AvLe.of_eq (by rw [h]; try rfl))
                 · have h:=h.2 hc8
                   obtain ⟨h6,h⟩:=h
                   rcases bft (!(Qy c ((Qc c p.row p.cars).1))) with hc9 | hc9
                   · have h:=h.1 (bnT hc9)
                     exact p14_start_14 c p hE ⟨(u15 (QU c)),hc0,hc1,hc2,(u18 (QC c h1)),rfl,rfl,rfl,h2,(by exact QL cSpt (fun _=>rfl) p.row),(by exact Qv cSpt (fun _=>rfl) p.row),(by exact QS cSpt (fun _=>rfl) p.row),(by rw [(show AV.rsl (Qb p.row) 0 (0+p.row.length)=AV.rsl (Qb p.row) 0 p.row.length from by rw [show (0+p.row.length)=p.row.length from by simp])]; exact (u37 (Qz c p.row h3))),(u38 (Qw c p.row h4)),hc3,hc4,hc5,hc6,hc7,(u40 (Qt c p.row p.cars h5)),hc8,(u41 (QF c ((Qc c p.row p.cars).1) h6)),hc9,(u17 Xa),trivial⟩ (AvLe.of_eq (by rw [h]; try rfl))
                   · have h:=h.2 (bnF hc9)
                     rcases bft ((Qa c p.row).2 == 0) with hc10 | hc10
                     · have h:=h.1 (eq_of_beq hc10)
                       rcases bft (decide (((((Qa c p.row).1).length:Nat):Int)≤(p.cars.length:Int))) with hc11 | hc11
                       · have h:=h.1 (odt hc11)
                         exact p14_start_15 c p hE ⟨(u15 (QU c)),hc0,hc1,hc2,(u18 (QC c h1)),rfl,rfl,rfl,h2,(by exact QL cSpt (fun _=>rfl) p.row),(by exact Qv cSpt (fun _=>rfl) p.row),(by exact QS cSpt (fun _=>rfl) p.row),(by rw [(show AV.rsl (Qb p.row) 0 (0+p.row.length)=AV.rsl (Qb p.row) 0 p.row.length from by rw [show (0+p.row.length)=p.row.length from by simp])]; exact (u37 (Qz c p.row h3))),(u38 (Qw c p.row h4)),hc3,hc4,hc5,hc6,hc7,(u40 (Qt c p.row p.cars h5)),hc8,(u41 (QF c ((Qc c p.row p.cars).1) h6)),hc9,hc10,hc11,(u17 Xa),trivial⟩ (AvLe.of_eq (by rw [h]; try rfl))
                       · have h:=h.2 (odf hc11)
                         exact p14_start_16 c p hE ⟨(u15 (QU c)),hc0,hc1,hc2,(u18 (QC c h1)),rfl,rfl,rfl,h2,(by exact QL cSpt (fun _=>rfl) p.row),(by exact Qv cSpt (fun _=>rfl) p.row),(by exact QS cSpt (fun _=>rfl) p.row),(by rw [(show AV.rsl (Qb p.row) 0 (0+p.row.length)=AV.rsl (Qb p.row) 0 p.row.length from by rw [show (0+p.row.length)=p.row.length from by simp])]; exact (u37 (Qz c p.row h3))),(u38 (Qw c p.row h4)),hc3,hc4,hc5,hc6,hc7,(u40 (Qt c p.row p.cars h5)),hc8,(u41 (QF c ((Qc c p.row p.cars).1) h6)),hc9,hc10,hc11,trivial⟩ (AvLe.of_eq (by rw [h]; try rfl))
                     · have h:=h.2 (ne_of_beq_false hc10)
                       exact p14_start_17 c p hE ⟨(u15 (QU c)),hc0,hc1,hc2,(u18 (QC c h1)),rfl,rfl,rfl,h2,(by exact QL cSpt (fun _=>rfl) p.row),(by exact Qv cSpt (fun _=>rfl) p.row),(by exact QS cSpt (fun _=>rfl) p.row),(by rw [(show AV.rsl (Qb p.row) 0 (0+p.row.length)=AV.rsl (Qb p.row) 0 p.row.length from by rw [show (0+p.row.length)=p.row.length from by simp])]; exact (u37 (Qz c p.row h3))),(u38 (Qw c p.row h4)),hc3,hc4,hc5,hc6,hc7,(u40 (Qt c p.row p.cars h5)),hc8,(u41 (QF c ((Qc c p.row p.cars).1) h6)),hc9,hc10,rfl,trivial⟩ (AvLe.of_eq (by rw [h]; try rfl))
           · have h:=h.2 (bneF hc5)
             rcases bft ((Qa c p.row).2 == 0) with hc6 | hc6
             · have h:=h.1 (eq_of_beq hc6)
               obtain ⟨h5,h⟩:=h
               rcases bft (!(Qc c p.row ((Qa c p.row).1)).2) with hc7 | hc7
               · have h:=h.1 hc7
                 exact p14_start_18 c p hE ⟨(u15 (QU c)),hc0,hc1,hc2,(u18 (QC c h1)),rfl,rfl,rfl,h2,(by exact QL cSpt (fun _=>rfl) p.row),(by exact Qv cSpt (fun _=>rfl) p.row),(by exact QS cSpt (fun _=>rfl) p.row),(by rw [(show AV.rsl (Qb p.row) 0 (0+p.row.length)=AV.rsl (Qb p.row) 0 p.row.length from by rw [show (0+p.row.length)=p.row.length from by simp])]; exact (u37 (Qz c p.row h3))),(u38 (Qw c p.row h4)),hc3,hc4,hc5,rfl,hc6,(u40 (Qt c p.row ((Qa c p.row).1) h5)),hc7,rfl,trivial⟩ (AvLe.of_eq (by rw [h]; try rfl))
               · have h:=h.2 hc7
                 obtain ⟨h6,h⟩:=h
                 rcases bft (!(Qy c ((Qc c p.row ((Qa c p.row).1)).1))) with hc8 | hc8
                 · have h:=h.1 (bnT hc8)
                   exact p14_start_19 c p hE ⟨(u15 (QU c)),hc0,hc1,hc2,(u18 (QC c h1)),rfl,rfl,rfl,h2,(by exact QL cSpt (fun _=>rfl) p.row),(by exact Qv cSpt (fun _=>rfl) p.row),(by exact QS cSpt (fun _=>rfl) p.row),(by rw [(show AV.rsl (Qb p.row) 0 (0+p.row.length)=AV.rsl (Qb p.row) 0 p.row.length from by rw [show (0+p.row.length)=p.row.length from by simp])]; exact (u37 (Qz c p.row h3))),(u38 (Qw c p.row h4)),hc3,hc4,hc5,rfl,hc6,(u40 (Qt c p.row ((Qa c p.row).1) h5)),hc7,(u41 (QF c ((Qc c p.row ((Qa c p.row).1)).1) h6)),hc8,trivial⟩ (AvLe.of_eq (by rw [h]; try rfl))
                 · have h:=h.2 (bnF hc8)
                   obtain ⟨h7,h⟩:=h
                   rcases bft (!(Qc c p.row p.cars).2) with hc9 | hc9
                   · have h:=h.1 hc9
                     exact p14_start_20 c p hE ⟨(u15 (QU c)),hc0,hc1,hc2,(u18 (QC c h1)),rfl,rfl,rfl,h2,(by exact QL cSpt (fun _=>rfl) p.row),(by exact Qv cSpt (fun _=>rfl) p.row),(by exact QS cSpt (fun _=>rfl) p.row),(by rw [(show AV.rsl (Qb p.row) 0 (0+p.row.length)=AV.rsl (Qb p.row) 0 p.row.length from by rw [show (0+p.row.length)=p.row.length from by simp])]; exact (u37 (Qz c p.row h3))),(u38 (Qw c p.row h4)),hc3,hc4,hc5,rfl,hc6,(u40 (Qt c p.row ((Qa c p.row).1) h5)),hc7,(u41 (QF c ((Qc c p.row ((Qa c p.row).1)).1) h6)),hc8,(u40 (Qt c p.row p.cars h7)),hc9,rfl,(u17 Xa),trivial⟩ (AvLe.of_eq (by rw [h]; try rfl))
                   · have h:=h.2 hc9
                     obtain ⟨h8,h⟩:=h
                     rcases bft (!(Qy c ((Qc c p.row p.cars).1))) with hc10 | hc10
                     · have h:=h.1 (bnT hc10)
                       exact p14_start_21 c p hE ⟨(u15 (QU c)),hc0,hc1,hc2,(u18 (QC c h1)),rfl,rfl,rfl,h2,(by exact QL cSpt (fun _=>rfl) p.row),(by exact Qv cSpt (fun _=>rfl) p.row),(by exact QS cSpt (fun _=>rfl) p.row),(by rw [(show AV.rsl (Qb p.row) 0 (0+p.row.length)=AV.rsl (Qb p.row) 0 p.row.length from by rw [show (0+p.row.length)=p.row.length from by simp])]; exact (u37 (Qz c p.row h3))),(u38 (Qw c p.row h4)),hc3,hc4,hc5,rfl,hc6,(u40 (Qt c p.row ((Qa c p.row).1) h5)),hc7,(u41 (QF c ((Qc c p.row ((Qa c p.row).1)).1) h6)),hc8,(u40 (Qt c p.row p.cars h7)),hc9,(u41 (QF c ((Qc c p.row p.cars).1) h8)),hc10,(u17 Xa),trivial⟩ (AvLe.of_eq (by rw [h]; try rfl))
                     · have h:=h.2 (bnF hc10)
                       rcases bft ((Qa c p.row).2 == 0) with hc11 | hc11
                       · have h:=h.1 (eq_of_beq hc11)
                         rcases bft (decide (((((Qa c p.row).1).length:Nat):Int)≤(p.cars.length:Int))) with hc12 | hc12
                         · have h:=h.1 (odt hc12)
                           exact p14_start_22 c p hE ⟨(u15 (QU c)),hc0,hc1,hc2,(u18 (QC c h1)),rfl,rfl,rfl,h2,(by exact QL cSpt (fun _=>rfl) p.row),(by exact Qv cSpt (fun _=>rfl) p.row),(by exact QS cSpt (fun _=>rfl) p.row),(by rw [(show AV.rsl (Qb p.row) 0 (0+p.row.length)=AV.rsl (Qb p.row) 0 p.row.length from by rw [show (0+p.row.length)=p.row.length from by simp])]; exact (u37 (Qz c p.row h3))),(u38 (Qw c p.row h4)),hc3,hc4,hc5,rfl,hc6,(u40 (Qt c p.row ((Qa c p.row).1) h5)),hc7,(u41 (QF c ((Qc c p.row ((Qa c p.row).1)).1) h6)),hc8,(u40 (Qt c p.row p.cars h7)),hc9,(u41 (QF c ((Qc c p.row p.cars).1) h8)),hc10,hc11,hc12,(u17 Xa),trivial⟩ (AvLe.of_eq (by rw [h]; try rfl))
                         · have h:=h.2 (odf hc12)
                           exact p14_start_23 c p hE ⟨(u15 (QU c)),hc0,hc1,hc2,(u18 (QC c h1)),rfl,rfl,rfl,h2,(by exact QL cSpt (fun _=>rfl) p.row),(by exact Qv cSpt (fun _=>rfl) p.row),(by exact QS cSpt (fun _=>rfl) p.row),(by rw [(show AV.rsl (Qb p.row) 0 (0+p.row.length)=AV.rsl (Qb p.row) 0 p.row.length from by rw [show (0+p.row.length)=p.row.length from by simp])]; exact (u37 (Qz c p.row h3))),(u38 (Qw c p.row h4)),hc3,hc4,hc5,rfl,hc6,(u40 (Qt c p.row ((Qa c p.row).1) h5)),hc7,(u41 (QF c ((Qc c p.row ((Qa c p.row).1)).1) h6)),hc8,(u40 (Qt c p.row p.cars h7)),hc9,(u41 (QF c ((Qc c p.row p.cars).1) h8)),hc10,hc11,hc12,trivial⟩ (AvLe.of_eq (by rw [h]; try rfl))
                       · have h:=h.2 (ne_of_beq_false hc11)
                         exact p14_start_24 c p hE ⟨(u15 (QU c)),hc0,hc1,hc2,(u18 (QC c h1)),rfl,rfl,rfl,h2,(by exact QL cSpt (fun _=>rfl) p.row),(by exact Qv cSpt (fun _=>rfl) p.row),(by exact QS cSpt (fun _=>rfl) p.row),(by rw [(show AV.rsl (Qb p.row) 0 (0+p.row.length)=AV.rsl (Qb p.row) 0 p.row.length from by rw [show (0+p.row.length)=p.row.length from by simp])]; exact (u37 (Qz c p.row h3))),(u38 (Qw c p.row h4)),hc3,hc4,hc5,rfl,hc6,(u40 (Qt c p.row ((Qa c p.row).1) h5)),hc7,(u41 (QF c ((Qc c p.row ((Qa c p.row).1)).1) h6)),hc8,(u40 (Qt c p.row p.cars h7)),hc9,(u41 (QF c ((Qc c p.row p.cars).1) h8)),hc10,hc11,rfl,trivial⟩ (AvLe.of_eq (by rw [h]; try rfl))
             · have h:=h.2 (ne_of_beq_false hc6)
               obtain ⟨h5,h⟩:=h
               rcases bft (!(Qc c p.row p.cars).2) with hc7 | hc7
               · have h:=h.1 hc7
                 exact p14_start_25 c p hE ⟨(u15 (QU c)),hc0,hc1,hc2,(u18 (QC c h1)),rfl,rfl,rfl,h2,(by exact QL cSpt (fun _=>rfl) p.row),(by exact Qv cSpt (fun _=>rfl) p.row),(by exact QS cSpt (fun _=>rfl) p.row),(by rw [(show AV.rsl (Qb p.row) 0 (0+p.row.length)=AV.rsl (Qb p.row) 0 p.row.length from by rw [show (0+p.row.length)=p.row.length from by simp])]; exact (u37 (Qz c p.row h3))),(u38 (Qw c p.row h4)),hc3,hc4,hc5,rfl,hc6,(u40 (Qt c p.row p.cars h5)),hc7,rfl,(u17 Xa),trivial⟩ (AvLe.of_eq (by rw [h]; try rfl))
               · have h:=h.2 hc7
                 obtain ⟨h6,h⟩:=h
                 rcases bft (!(Qy c ((Qc c p.row p.cars).1))) with hc8 | hc8
                 · have h:=h.1 (bnT hc8)
                   exact p14_start_26 c p hE ⟨(u15 (QU c)),hc0,hc1,hc2,(u18 (QC c h1)),rfl,rfl,rfl,h2,(by exact QL cSpt (fun _=>rfl) p.row),(by exact Qv cSpt (fun _=>rfl) p.row),(by exact QS cSpt (fun _=>rfl) p.row),(by rw [(show AV.rsl (Qb p.row) 0 (0+p.row.length)=AV.rsl (Qb p.row) 0 p.row.length from by rw [show (0+p.row.length)=p.row.length from by simp])]; exact (u37 (Qz c p.row h3))),(u38 (Qw c p.row h4)),hc3,hc4,hc5,rfl,hc6,(u40 (Qt c p.row p.cars h5)),hc7,(u41 (QF c ((Qc c p.row p.cars).1) h6)),hc8,(u17 Xa),trivial⟩ (AvLe.of_eq (by rw [h]; try rfl))
                 · have h:=h.2 (bnF hc8)
                   rcases bft ((Qa c p.row).2 == 0) with hc9 | hc9
                   · have h:=h.1 (eq_of_beq hc9)
                     rcases bft (decide (((((Qa c p.row).1).length:Nat):Int)≤(p.cars.length:Int))) with hc10 | hc10
                     · have h:=h.1 (odt hc10)
                       exact p14_start_27 c p hE ⟨(u15 (QU c)),hc0,hc1,hc2,(u18 (QC c h1)),rfl,rfl,rfl,h2,(by exact QL cSpt (fun _=>rfl) p.row),(by exact Qv cSpt (fun _=>rfl) p.row),(by exact QS cSpt (fun _=>rfl) p.row),(by rw [(show AV.rsl (Qb p.row) 0 (0+p.row.length)=AV.rsl (Qb p.row) 0 p.row.length from by rw [show (0+p.row.length)=p.row.length from by simp])]; exact (u37 (Qz c p.row h3))),(u38 (Qw c p.row h4)),hc3,hc4,hc5,rfl,hc6,(u40 (Qt c p.row p.cars h5)),hc7,(u41 (QF c ((Qc c p.row p.cars).1) h6)),hc8,hc9,hc10,(u17 Xa),trivial⟩ (AvLe.of_eq (by rw [h]; try rfl))
                     · have h:=h.2 (odf hc10)
                       exact p14_start_28 c p hE ⟨(u15 (QU c)),hc0,hc1,hc2,(u18 (QC c h1)),rfl,rfl,rfl,h2,(by exact QL cSpt (fun _=>rfl) p.row),(by exact Qv cSpt (fun _=>rfl) p.row),(by exact QS cSpt (fun _=>rfl) p.row),(by rw [(show AV.rsl (Qb p.row) 0 (0+p.row.length)=AV.rsl (Qb p.row) 0 p.row.length from by rw [show (0+p.row.length)=p.row.length from by simp])]; exact (u37 (Qz c p.row h3))),(u38 (Qw c p.row h4)),hc3,hc4,hc5,rfl,hc6,(u40 (Qt c p.row p.cars h5)),hc7,(u41 (QF c ((Qc c p.row p.cars).1) h6)),hc8,hc9,hc10,trivial⟩ (AvLe.of_eq (by rw [h]; try rfl))
                   · have h:=h.2 (ne_of_beq_false hc9)
                     exact p14_start_29 c p hE ⟨(u15 (QU c)),hc0,hc1,hc2,(u18 (QC c h1)),rfl,rfl,rfl,h2,(by exact QL cSpt (fun _=>rfl) p.row),(by exact Qv cSpt (fun _=>rfl) p.row),(by exact QS cSpt (fun _=>rfl) p.row),(by rw [(show AV.rsl (Qb p.row) 0 (0+p.row.length)=AV.rsl (Qb p.row) 0 p.row.length from by rw [show (0+p.row.length)=p.row.length from by simp])]; exact (u37 (Qz c p.row h3))),(u38 (Qw c p.row h4)),hc3,hc4,hc5,rfl,hc6,(u40 (Qt c p.row p.cars h5)),hc7,(u41 (QF c ((Qc c p.row p.cars).1) h6)),hc8,hc9,rfl,trivial⟩ (AvLe.of_eq (by rw [h]; try rfl))
       · have h:=h.2 (bneF hc3)
         rcases bft ((Qa c p.row).2 != 0) with hc4 | hc4
         · have h:=h.1 (bneT hc4)
           rcases bft ((Qa c p.row).2 != 3) with hc5 | hc5
           · have h:=h.1 (bneT hc5)
             exact p14_start_30 c p hE ⟨(u15 (QU c)),hc0,hc1,hc2,(u18 (QC c h1)),rfl,rfl,rfl,h2,(by exact QL cSpt (fun _=>rfl) p.row),(by exact Qv cSpt (fun _=>rfl) p.row),(by exact QS cSpt (fun _=>rfl) p.row),(by rw [(show AV.rsl (Qb p.row) 0 (0+p.row.length)=AV.rsl (Qb p.row) 0 p.row.length from by rw [show (0+p.row.length)=p.row.length from by simp])]; exact (u37 (Qz c p.row h3))),(u38 (Qw c p.row h4)),hc3,rfl,hc4,hc5,trivial⟩ (AvLe.of_eq (by rw [h]; try rfl))
           · have h:=h.2 (bneF hc5)
             rcases bft ((Qa c p.row).2 == 0) with hc6 | hc6
             · have h:=h.1 (eq_of_beq hc6)
               obtain ⟨h5,h⟩:=h
               rcases bft (!(Qc c p.row ((Qa c p.row).1)).2) with hc7 | hc7
               · have h:=h.1 hc7
                 exact p14_start_31 c p hE ⟨(u15 (QU c)),hc0,hc1,hc2,(u18 (QC c h1)),rfl,rfl,rfl,h2,(by exact QL cSpt (fun _=>rfl) p.row),(by exact Qv cSpt (fun _=>rfl) p.row),(by exact QS cSpt (fun _=>rfl) p.row),(by rw [(show AV.rsl (Qb p.row) 0 (0+p.row.length)=AV.rsl (Qb p.row) 0 p.row.length from by rw [show (0+p.row.length)=p.row.length from by simp])]; exact (u37 (Qz c p.row h3))),(u38 (Qw c p.row h4)),hc3,rfl,hc4,hc5,hc6,(u40 (Qt c p.row ((Qa c p.row).1) h5)),hc7,rfl,trivial⟩ (AvLe.of_eq (by rw [h]; try rfl))
               · have h:=h.2 hc7
                 obtain ⟨h6,h⟩:=h
                 rcases bft (!(Qy c ((Qc c p.row ((Qa c p.row).1)).1))) with hc8 | hc8
                 · have h:=h.1 (bnT hc8)
                   exact p14_start_32 c p hE ⟨(u15 (QU c)),hc0,hc1,hc2,(u18 (QC c h1)),rfl,rfl,rfl,h2,(by exact QL cSpt (fun _=>rfl) p.row),(by exact Qv cSpt (fun _=>rfl) p.row),(by exact QS cSpt (fun _=>rfl) p.row),(by rw [(show AV.rsl (Qb p.row) 0 (0+p.row.length)=AV.rsl (Qb p.row) 0 p.row.length from by rw [show (0+p.row.length)=p.row.length from by simp])]; exact (u37 (Qz c p.row h3))),(u38 (Qw c p.row h4)),hc3,rfl,hc4,hc5,hc6,(u40 (Qt c p.row ((Qa c p.row).1) h5)),hc7,(u41 (QF c ((Qc c p.row ((Qa c p.row).1)).1) h6)),hc8,trivial⟩ (AvLe.of_eq (by rw [h]; try rfl))
                 · have h:=h.2 (bnF hc8)
                   obtain ⟨h7,h⟩:=h
                   rcases bft (!(Qc c p.row p.cars).2) with hc9 | hc9
                   · have h:=h.1 hc9
                     exact p14_start_33 c p hE ⟨(u15 (QU c)),hc0,hc1,hc2,(u18 (QC c h1)),rfl,rfl,rfl,h2,(by exact QL cSpt (fun _=>rfl) p.row),(by exact Qv cSpt (fun _=>rfl) p.row),(by exact QS cSpt (fun _=>rfl) p.row),(by rw [(show AV.rsl (Qb p.row) 0 (0+p.row.length)=AV.rsl (Qb p.row) 0 p.row.length from by rw [show (0+p.row.length)=p.row.length from by simp])]; exact (u37 (Qz c p.row h3))),(u38 (Qw c p.row h4)),hc3,rfl,hc4,hc5,hc6,(u40 (Qt c p.row ((Qa c p.row).1) h5)),hc7,(u41 (QF c ((Qc c p.row ((Qa c p.row).1)).1) h6)),hc8,(u40 (Qt c p.row p.cars h7)),hc9,rfl,(u17 Xa),trivial⟩ (AvLe.of_eq (by rw [h]; try rfl))
                   · have h:=h.2 hc9
                     obtain ⟨h8,h⟩:=h
                     rcases bft (!(Qy c ((Qc c p.row p.cars).1))) with hc10 | hc10
                     · have h:=h.1 (bnT hc10)
                       exact p14_start_34 c p hE ⟨(u15 (QU c)),hc0,hc1,hc2,(u18 (QC c h1)),rfl,rfl,rfl,h2,(by exact QL cSpt (fun _=>rfl) p.row),(by exact Qv cSpt (fun _=>rfl) p.row),(by exact QS cSpt (fun _=>rfl) p.row),(by rw [(show AV.rsl (Qb p.row) 0 (0+p.row.length)=AV.rsl (Qb p.row) 0 p.row.length from by rw [show (0+p.row.length)=p.row.length from by simp])]; exact (u37 (Qz c p.row h3))),(u38 (Qw c p.row h4)),hc3,rfl,hc4,hc5,hc6,(u40 (Qt c p.row ((Qa c p.row).1) h5)),hc7,(u41 (QF c ((Qc c p.row ((Qa c p.row).1)).1) h6)),hc8,(u40 (Qt c p.row p.cars h7)),hc9,(u41 (QF c ((Qc c p.row p.cars).1) h8)),hc10,(u17 Xa),trivial⟩ (AvLe.of_eq (by rw [h]; try rfl))
                     · have h:=h.2 (bnF hc10)
                       rcases bft ((Qa c p.row).2 == 0) with hc11 | hc11
                       · have h:=h.1 (eq_of_beq hc11)
                         rcases bft (decide (((((Qa c p.row).1).length:Nat):Int)≤(p.cars.length:Int))) with hc12 | hc12
                         · have h:=h.1 (odt hc12)
                           exact p14_start_35 c p hE ⟨(u15 (QU c)),hc0,hc1,hc2,(u18 (QC c h1)),rfl,rfl,rfl,h2,(by exact QL cSpt (fun _=>rfl) p.row),(by exact Qv cSpt (fun _=>rfl) p.row),(by exact QS cSpt (fun _=>rfl) p.row),(by rw [(show AV.rsl (Qb p.row) 0 (0+p.row.length)=AV.rsl (Qb p.row) 0 p.row.length from by rw [show (0+p.row.length)=p.row.length from by simp])]; exact (u37 (Qz c p.row h3))),(u38 (Qw c p.row h4)),hc3,rfl,hc4,hc5,hc6,(u40 (Qt c p.row ((Qa c p.row).1) h5)),hc7,(u41 (QF c ((Qc c p.row ((Qa c p.row).1)).1) h6)),hc8,(u40 (Qt c p.row p.cars h7)),hc9,(u41 (QF c ((Qc c p.row p.cars).1) h8)),hc10,hc11,hc12,(u17 Xa),trivial⟩ (AvLe.of_eq (by rw [h]; try rfl))
                         · have h:=h.2 (odf hc12)
                           exact p14_start_36 c p hE ⟨(u15 (QU c)),hc0,hc1,hc2,(u18 (QC c h1)),rfl,rfl,rfl,h2,(by exact QL cSpt (fun _=>rfl) p.row),(by exact Qv cSpt (fun _=>rfl) p.row),(by exact QS cSpt (fun _=>rfl) p.row),(by rw [(show AV.rsl (Qb p.row) 0 (0+p.row.length)=AV.rsl (Qb p.row) 0 p.row.length from by rw [show (0+p.row.length)=p.row.length from by simp])]; exact (u37 (Qz c p.row h3))),(u38 (Qw c p.row h4)),hc3,rfl,hc4,hc5,hc6,(u40 (Qt c p.row ((Qa c p.row).1) h5)),hc7,(u41 (QF c ((Qc c p.row ((Qa c p.row).1)).1) h6)),hc8,(u40 (Qt c p.row p.cars h7)),hc9,(u41 (QF c ((Qc c p.row p.cars).1) h8)),hc10,hc11,hc12,trivial⟩ (AvLe.of_eq (by rw [h]; try rfl))
                       · have h:=h.2 (ne_of_beq_false hc11)
                         exact p14_start_37 c p hE ⟨(u15 (QU c)),hc0,hc1,hc2,(u18 (QC c h1)),rfl,rfl,rfl,h2,(by exact QL cSpt (fun _=>rfl) p.row),(by exact Qv cSpt (fun _=>rfl) p.row),(by exact QS cSpt (fun _=>rfl) p.row),(by rw [(show AV.rsl (Qb p.row) 0 (0+p.row.length)=AV.rsl (Qb p.row) 0 p.row.length from by rw [show (0+p.row.length)=p.row.length from by simp])]; exact (u37 (Qz c p.row h3))),(u38 (Qw c p.row h4)),hc3,rfl,hc4,hc5,hc6,(u40 (Qt c p.row ((Qa c p.row).1) h5)),hc7,(u41 (QF c ((Qc c p.row ((Qa c p.row).1)).1) h6)),hc8,(u40 (Qt c p.row p.cars h7)),hc9,(u41 (QF c ((Qc c p.row p.cars).1) h8)),hc10,hc11,rfl,trivial⟩ (AvLe.of_eq (by rw [h]; try rfl))
             · have h:=h.2 (ne_of_beq_false hc6)
               obtain ⟨h5,h⟩:=h
               rcases bft (!(Qc c p.row p.cars).2) with hc7 | hc7
               · have h:=h.1 hc7
                 exact p14_start_38 c p hE ⟨(u15 (QU c)),hc0,hc1,hc2,(u18 (QC c h1)),rfl,rfl,rfl,h2,(by exact QL cSpt (fun _=>rfl) p.row),(by exact Qv cSpt (fun _=>rfl) p.row),(by exact QS cSpt (fun _=>rfl) p.row),(by rw [(show AV.rsl (Qb p.row) 0 (0+p.row.length)=AV.rsl (Qb p.row) 0 p.row.length from by rw [show (0+p.row.length)=p.row.length from by simp])]; exact (u37 (Qz c p.row h3))),(u38 (Qw c p.row h4)),hc3,rfl,hc4,hc5,hc6,(u40 (Qt c p.row p.cars h5)),hc7,rfl,(u17 Xa),trivial⟩ (AvLe.of_eq (by rw [h]; try rfl))
               · have h:=h.2 hc7
                 obtain ⟨h6,h⟩:=h
                 rcases bft (!(Qy c ((Qc c p.row p.cars).1))) with hc8 | hc8
                 · have h:=h.1 (bnT hc8)
                   exact p14_start_39 c p hE ⟨(u15 (QU c)),hc0,hc1,hc2,(u18 (QC c h1)),rfl,rfl,rfl,h2,(by exact QL cSpt (fun _=>rfl) p.row),(by exact Qv cSpt (fun _=>rfl) p.row),(by exact QS cSpt (fun _=>rfl) p.row),(by rw [(show AV.rsl (Qb p.row) 0 (0+p.row.length)=AV.rsl (Qb p.row) 0 p.row.length from by rw [show (0+p.row.length)=p.row.length from by simp])]; exact (u37 (Qz c p.row h3))),(u38 (Qw c p.row h4)),hc3,rfl,hc4,hc5,hc6,(u40 (Qt c p.row p.cars h5)),hc7,(u41 (QF c ((Qc c p.row p.cars).1) h6)),hc8,(u17 Xa),trivial⟩ (AvLe.of_eq (by rw [h]; try rfl))
                 · have h:=h.2 (bnF hc8)
                   rcases bft ((Qa c p.row).2 == 0) with hc9 | hc9
                   · have h:=h.1 (eq_of_beq hc9)
                     rcases bft (decide (((((Qa c p.row).1).length:Nat):Int)≤(p.cars.length:Int))) with hc10 | hc10
                     · have h:=h.1 (odt hc10)
                       exact p14_start_40 c p hE ⟨(u15 (QU c)),hc0,hc1,hc2,(u18 (QC c h1)),rfl,rfl,rfl,h2,(by exact QL cSpt (fun _=>rfl) p.row),(by exact Qv cSpt (fun _=>rfl) p.row),(by exact QS cSpt (fun _=>rfl) p.row),(by rw [(show AV.rsl (Qb p.row) 0 (0+p.row.length)=AV.rsl (Qb p.row) 0 p.row.length from by rw [show (0+p.row.length)=p.row.length from by simp])]; exact (u37 (Qz c p.row h3))),(u38 (Qw c p.row h4)),hc3,rfl,hc4,hc5,hc6,(u40 (Qt c p.row p.cars h5)),hc7,(u41 (QF c ((Qc c p.row p.cars).1) h6)),hc8,hc9,hc10,(u17 Xa),trivial⟩ (AvLe.of_eq (by rw [h]; try rfl))
                     · have h:=h.2 (odf hc10)
                       exact p14_start_41 c p hE ⟨(u15 (QU c)),hc0,hc1,hc2,(u18 (QC c h1)),rfl,rfl,rfl,h2,(by exact QL cSpt (fun _=>rfl) p.row),(by exact Qv cSpt (fun _=>rfl) p.row),(by exact QS cSpt (fun _=>rfl) p.row),(by rw [(show AV.rsl (Qb p.row) 0 (0+p.row.length)=AV.rsl (Qb p.row) 0 p.row.length from by rw [show (0+p.row.length)=p.row.length from by simp])]; exact (u37 (Qz c p.row h3))),(u38 (Qw c p.row h4)),hc3,rfl,hc4,hc5,hc6,(u40 (Qt c p.row p.cars h5)),hc7,(u41 (QF c ((Qc c p.row p.cars).1) h6)),hc8,hc9,hc10,trivial⟩ (AvLe.of_eq (by rw [h]; try rfl))
                   · have h:=h.2 (ne_of_beq_false hc9)
                     exact p14_start_42 c p hE ⟨(u15 (QU c)),hc0,hc1,hc2,(u18 (QC c h1)),rfl,rfl,rfl,h2,(by exact QL cSpt (fun _=>rfl) p.row),(by exact Qv cSpt (fun _=>rfl) p.row),(by exact QS cSpt (fun _=>rfl) p.row),(by rw [(show AV.rsl (Qb p.row) 0 (0+p.row.length)=AV.rsl (Qb p.row) 0 p.row.length from by rw [show (0+p.row.length)=p.row.length from by simp])]; exact (u37 (Qz c p.row h3))),(u38 (Qw c p.row h4)),hc3,rfl,hc4,hc5,hc6,(u40 (Qt c p.row p.cars h5)),hc7,(u41 (QF c ((Qc c p.row p.cars).1) h6)),hc8,hc9,rfl,trivial⟩ (AvLe.of_eq (by rw [h]; try rfl))
         · have h:=h.2 (bneF hc4)
           rcases bft ((Qa c p.row).2 == 0) with hc5 | hc5
           · have h:=h.1 (eq_of_beq hc5)
             obtain ⟨h5,h⟩:=h
             rcases bft (!(Qc c p.row ((Qa c p.row).1)).2) with hc6 | hc6
             · have h:=h.1 hc6
               exact p14_start_43 c p hE ⟨(u15 (QU c)),hc0,hc1,hc2,(u18 (QC c h1)),rfl,rfl,rfl,h2,(by exact QL cSpt (fun _=>rfl) p.row),(by exact Qv cSpt (fun _=>rfl) p.row),(by exact QS cSpt (fun _=>rfl) p.row),(by rw [(show AV.rsl (Qb p.row) 0 (0+p.row.length)=AV.rsl (Qb p.row) 0 p.row.length from by rw [show (0+p.row.length)=p.row.length from by simp])]; exact (u37 (Qz c p.row h3))),(u38 (Qw c p.row h4)),hc3,rfl,hc4,rfl,hc5,(u40 (Qt c p.row ((Qa c p.row).1) h5)),hc6,rfl,trivial⟩ (AvLe.of_eq (by rw [h]; try rfl))
             · have h:=h.2 hc6
               obtain ⟨h6,h⟩:=h
               rcases bft (!(Qy c ((Qc c p.row ((Qa c p.row).1)).1))) with hc7 | hc7
               · have h:=h.1 (bnT hc7)
                 exact p14_start_44 c p hE ⟨(u15 (QU c)),hc0,hc1,hc2,(u18 (QC c h1)),rfl,rfl,rfl,h2,(by exact QL cSpt (fun _=>rfl) p.row),(by exact Qv cSpt (fun _=>rfl) p.row),(by exact QS cSpt (fun _=>rfl) p.row),(by rw [(show AV.rsl (Qb p.row) 0 (0+p.row.length)=AV.rsl (Qb p.row) 0 p.row.length from by rw [show (0+p.row.length)=p.row.length from by simp])]; exact (u37 (Qz c p.row h3))),(u38 (Qw c p.row h4)),hc3,rfl,hc4,rfl,hc5,(u40 (Qt c p.row ((Qa c p.row).1) h5)),hc6,(u41 (QF c ((Qc c p.row ((Qa c p.row).1)).1) h6)),hc7,trivial⟩ (AvLe.of_eq (by rw [h]; try rfl))
               · have h:=h.2 (bnF hc7)
                 obtain ⟨h7,h⟩:=h
                 rcases bft (!(Qc c p.row p.cars).2) with hc8 | hc8
                 · have h:=h.1 hc8
                   exact p14_start_45 c p hE ⟨(u15 (QU c)),hc0,hc1,hc2,(u18 (QC c h1)),rfl,rfl,rfl,h2,(by exact QL cSpt (fun _=>rfl) p.row),(by exact Qv cSpt (fun _=>rfl) p.row),(by exact QS cSpt (fun _=>rfl) p.row),(by rw [(show AV.rsl (Qb p.row) 0 (0+p.row.length)=AV.rsl (Qb p.row) 0 p.row.length from by rw [show (0+p.row.length)=p.row.length from by simp])]; exact (u37 (Qz c p.row h3))),(u38 (Qw c p.row h4)),hc3,rfl,hc4,rfl,hc5,(u40 (Qt c p.row ((Qa c p.row).1) h5)),hc6,(u41 (QF c ((Qc c p.row ((Qa c p.row).1)).1) h6)),hc7,(u40 (Qt c p.row p.cars h7)),hc8,rfl,(u17 Xa),trivial⟩ (AvLe.of_eq (by rw [h]; try rfl))
                 · have h:=h.2 hc8
                   obtain ⟨h8,h⟩:=h
                   rcases bft (!(Qy c ((Qc c p.row p.cars).1))) with hc9 | hc9
                   · have h:=h.1 (bnT hc9)
                     exact p14_start_46 c p hE ⟨(u15 (QU c)),hc0,hc1,hc2,(u18 (QC c h1)),rfl,rfl,rfl,h2,(by exact QL cSpt (fun _=>rfl) p.row),(by exact Qv cSpt (fun _=>rfl) p.row),(by exact QS cSpt (fun _=>rfl) p.row),(by rw [(show AV.rsl (Qb p.row) 0 (0+p.row.length)=AV.rsl (Qb p.row) 0 p.row.length from by rw [show (0+p.row.length)=p.row.length from by simp])]; exact (u37 (Qz c p.row h3))),(u38 (Qw c p.row h4)),hc3,rfl,hc4,rfl,hc5,(u40 (Qt c p.row ((Qa c p.row).1) h5)),hc6,(u41 (QF c ((Qc c p.row ((Qa c p.row).1)).1) h6)),hc7,(u40 (Qt c p.row p.cars h7)),hc8,(u41 (QF c ((Qc c p.row p.cars).1) h8)),hc9,(u17 Xa),trivial⟩ (AvLe.of_eq (by rw [h]; try rfl))
                   · have h:=h.2 (bnF hc9)
                     rcases bft ((Qa c p.row).2 == 0) with hc10 | hc10
                     · have h:=h.1 (eq_of_beq hc10)
                       rcases bft (decide (((((Qa c p.row).1).length:Nat):Int)≤(p.cars.length:Int))) with hc11 | hc11
                       · have h:=h.1 (odt hc11)
                         exact p14_start_47 c p hE ⟨(u15 (QU c)),hc0,hc1,hc2,(u18 (QC c h1)),rfl,rfl,rfl,h2,(by exact QL cSpt (fun _=>rfl) p.row),(by exact Qv cSpt (fun _=>rfl) p.row),(by exact QS cSpt (fun _=>rfl) p.row),(by rw [(show AV.rsl (Qb p.row) 0 (0+p.row.length)=AV.rsl (Qb p.row) 0 p.row.length from by rw [show (0+p.row.length)=p.row.length from by simp])]; exact (u37 (Qz c p.row h3))),(u38 (Qw c p.row h4)),hc3,rfl,hc4,rfl,hc5,(u40 (Qt c p.row ((Qa c p.row).1) h5)),hc6,(u41 (QF c ((Qc c p.row ((Qa c p.row).1)).1) h6)),hc7,(u40 (Qt c p.row p.cars h7)),hc8,(u41 (QF c ((Qc c p.row p.cars).1) h8)),hc9,hc10,hc11,(u17 Xa),trivial⟩ (AvLe.of_eq (by rw [h]; try rfl))
                       · have h:=h.2 (odf hc11)
                         exact p14_start_48 c p hE ⟨(u15 (QU c)),hc0,hc1,hc2,(u18 (QC c h1)),rfl,rfl,rfl,h2,(by exact QL cSpt (fun _=>rfl) p.row),(by exact Qv cSpt (fun _=>rfl) p.row),(by exact QS cSpt (fun _=>rfl) p.row),(by rw [(show AV.rsl (Qb p.row) 0 (0+p.row.length)=AV.rsl (Qb p.row) 0 p.row.length from by rw [show (0+p.row.length)=p.row.length from by simp])]; exact (u37 (Qz c p.row h3))),(u38 (Qw c p.row h4)),hc3,rfl,hc4,rfl,hc5,(u40 (Qt c p.row ((Qa c p.row).1) h5)),hc6,(u41 (QF c ((Qc c p.row ((Qa c p.row).1)).1) h6)),hc7,(u40 (Qt c p.row p.cars h7)),hc8,(u41 (QF c ((Qc c p.row p.cars).1) h8)),hc9,hc10,hc11,trivial⟩ (AvLe.of_eq (by rw [h]; try rfl))
                     · have h:=h.2 (ne_of_beq_false hc10)
                       exact p14_start_49 c p hE ⟨(u15 (QU c)),hc0,hc1,hc2,(u18 (QC c h1)),rfl,rfl,rfl,h2,(by exact QL cSpt (fun _=>rfl) p.row),(by exact Qv cSpt (fun _=>rfl) p.row),(by exact QS cSpt (fun _=>rfl) p.row),(by rw [(show AV.rsl (Qb p.row) 0 (0+p.row.length)=AV.rsl (Qb p.row) 0 p.row.length from by rw [show (0+p.row.length)=p.row.length from by simp])]; exact (u37 (Qz c p.row h3))),(u38 (Qw c p.row h4)),hc3,rfl,hc4,rfl,hc5,(u40 (Qt c p.row ((Qa c p.row).1) h5)),hc6,(u41 (QF c ((Qc c p.row ((Qa c p.row).1)).1) h6)),hc7,(u40 (Qt c p.row p.cars h7)),hc8,(u41 (QF c ((Qc c p.row p.cars).1) h8)),hc9,hc10,rfl,trivial⟩ (AvLe.of_eq (by rw [h]; try rfl))
           · have h:=h.2 (ne_of_beq_false hc5)
             obtain ⟨h5,h⟩:=h
             rcases bft (!(Qc c p.row p.cars).2) with hc6 | hc6
             · have h:=h.1 hc6
               exact p14_start_50 c p hE ⟨(u15 (QU c)),hc0,hc1,hc2,(u18 (QC c h1)),rfl,rfl,rfl,h2,(by exact QL cSpt (fun _=>rfl) p.row),(by exact Qv cSpt (fun _=>rfl) p.row),(by exact QS cSpt (fun _=>rfl) p.row),(by rw [(show AV.rsl (Qb p.row) 0 (0+p.row.length)=AV.rsl (Qb p.row) 0 p.row.length from by rw [show (0+p.row.length)=p.row.length from by simp])]; exact (u37 (Qz c p.row h3))),(u38 (Qw c p.row h4)),hc3,rfl,hc4,rfl,hc5,(u40 (Qt c p.row p.cars h5)),hc6,rfl,(u17 Xa),trivial⟩ (AvLe.of_eq (by rw [h]; try rfl))
             · have h:=h.2 hc6
               obtain ⟨h6,h⟩:=h
               rcases bft (!(Qy c ((Qc c p.row p.cars).1))) with hc7 | hc7
               · have h:=h.1 (bnT hc7)
                 exact p14_start_51 c p hE ⟨(u15 (QU c)),hc0,hc1,hc2,(u18 (QC c h1)),rfl,rfl,rfl,h2,(by exact QL cSpt (fun _=>rfl) p.row),(by exact Qv cSpt (fun _=>rfl) p.row),(by exact QS cSpt (fun _=>rfl) p.row),(by rw [(show AV.rsl (Qb p.row) 0 (0+p.row.length)=AV.rsl (Qb p.row) 0 p.row.length from by rw [show (0+p.row.length)=p.row.length from by simp])]; exact (u37 (Qz c p.row h3))),(u38 (Qw c p.row h4)),hc3,rfl,hc4,rfl,hc5,(u40 (Qt c p.row p.cars h5)),hc6,(u41 (QF c ((Qc c p.row p.cars).1) h6)),hc7,(u17 Xa),trivial⟩ (AvLe.of_eq (by rw [h]; try rfl))
               · have h:=h.2 (bnF hc7)
                 rcases bft ((Qa c p.row).2 == 0) with hc8 | hc8
                 · have h:=h.1 (eq_of_beq hc8)
                   rcases bft (decide (((((Qa c p.row).1).length:Nat):Int)≤(p.cars.length:Int))) with hc9 | hc9
                   · have h:=h.1 (odt hc9)
                     exact p14_start_52 c p hE ⟨(u15 (QU c)),hc0,hc1,hc2,(u18 (QC c h1)),rfl,rfl,rfl,h2,(by exact QL cSpt (fun _=>rfl) p.row),(by exact Qv cSpt (fun _=>rfl) p.row),(by exact QS cSpt (fun _=>rfl) p.row),(by rw [(show AV.rsl (Qb p.row) 0 (0+p.row.length)=AV.rsl (Qb p.row) 0 p.row.length from by rw [show (0+p.row.length)=p.row.length from by simp])]; exact (u37 (Qz c p.row h3))),(u38 (Qw c p.row h4)),hc3,rfl,hc4,rfl,hc5,(u40 (Qt c p.row p.cars h5)),hc6,(u41 (QF c ((Qc c p.row p.cars).1) h6)),hc7,hc8,hc9,(u17 Xa),trivial⟩ (AvLe.of_eq (by rw [h]; try rfl))
                   · have h:=h.2 (odf hc9)
                     exact p14_start_53 c p hE ⟨(u15 (QU c)),hc0,hc1,hc2,(u18 (QC c h1)),rfl,rfl,rfl,h2,(by exact QL cSpt (fun _=>rfl) p.row),(by exact Qv cSpt (fun _=>rfl) p.row),(by exact QS cSpt (fun _=>rfl) p.row),(by rw [(show AV.rsl (Qb p.row) 0 (0+p.row.length)=AV.rsl (Qb p.row) 0 p.row.length from by rw [show (0+p.row.length)=p.row.length from by simp])]; exact (u37 (Qz c p.row h3))),(u38 (Qw c p.row h4)),hc3,rfl,hc4,rfl,hc5,(u40 (Qt c p.row p.cars h5)),hc6,(u41 (QF c ((Qc c p.row p.cars).1) h6)),hc7,hc8,hc9,trivial⟩ (AvLe.of_eq (by rw [h]; try rfl))
                 · have h:=h.2 (ne_of_beq_false hc8)
                   exact p14_start_54 c p hE ⟨(u15 (QU c)),hc0,hc1,hc2,(u18 (QC c h1)),rfl,rfl,rfl,h2,(by exact QL cSpt (fun _=>rfl) p.row),(by exact Qv cSpt (fun _=>rfl) p.row),(by exact QS cSpt (fun _=>rfl) p.row),(by rw [(show AV.rsl (Qb p.row) 0 (0+p.row.length)=AV.rsl (Qb p.row) 0 p.row.length from by rw [show (0+p.row.length)=p.row.length from by simp])]; exact (u37 (Qz c p.row h3))),(u38 (Qw c p.row h4)),hc3,rfl,hc4,rfl,hc5,(u40 (Qt c p.row p.cars h5)),hc6,(u41 (QF c ((Qc c p.row p.cars).1) h6)),hc7,hc8,rfl,trivial⟩ (AvLe.of_eq (by rw [h]; try rfl))
theorem pushes_len {c:Cir} {row:List Spt}:(Qa c row).1.length≤50000:=by
 by_cases h:(Qa c row).2=0
 · obtain ⟨q,-,-,-,h2⟩:=(Qab (.inl h)).2.2.2.1 h
   exact h2
 · have key:∀ (f i:Nat) (s:PL) (L:Nat),(bfsK c L f s i).2 ≠ 0→(bfsK c L f s i).1=[]:=by
    intro f
    induction f with
    | zero=>intro i s L _; rfl
    | succ f ih =>
     intro i s L h
     unfold bfsK at h ⊢
     split
     · rename_i hi
       rw [if_pos hi] at h
       split
       · rename_i hw; rw [if_pos hw] at h; exact absurd rfl h
       · rename_i hw; rw [if_neg hw] at h; exact ih _ _ _ h
     · rfl
   have:(Qa c row).1=[]:=by
    unfold Qa at h ⊢
    split
    · rename_i h1
      rw [if_pos h1] at h
      split
      · rename_i h2; rw [if_pos h2] at h; exact key _ _ _ _ h
      · rfl
    · rfl
   rw [this]; simp
theorem law14_ok (c:Cir) (p:Psg) (h:CirQ c):Pure Try.prog 14 [.agg [.rsl (Qk c.blocks) 0 c.blocks.length,.rsl (rowI c.cars) 0 c.cars.length],.agg [.rsl (Qb p.row) 0 p.row.length,.rsl (rowI p.cars) 0 p.cars.length]] (.bool true):=QT Try.func14 f14b fun E hE=>by
 refine f14W c p (rv:=true) hE ⟨fun _=>rfl,fun hf=>⟨fun _=>rfl,fun hl=>⟨fun _=>rfl,fun hl2=>?_⟩⟩⟩
 have hb:=far_in hf
 have hlaw:=@Qab c p.row
 have hP:(Qa c p.row).2=0 ∨ (Qa c p.row).2=3→(c.blocks.length ≠ 0∧c.blocks.length≤1000000)∧(p.row.length≤1000000∧(∀ x ∈ p.row,0≤x.block∧x.block<c.blocks.length)):=fun hr=>by
  obtain ⟨hk,h1,hp,-⟩:=hlaw hr
  have:=hk.nb
  refine ⟨by omega,by omega,fun x hx=>?_⟩
  obtain ⟨i,hi⟩:=List.getElem?_of_mem hx
  have hlt:=(List.getElem?_eq_some_iff.1 hi).1
  have:=hp.rng i hlt
  rw [Wd (show (p.row.map Spt.block)[i]?=some x.block by rw [List.getElem?_map,hi]; rfl)] at this
  exact this
 have hR:∀ l,(Qa c p.row).2=0 ∨ (Qa c p.row).2=3→(!(Qc c p.row l).2)=false→∃ q,runP c.blocks.length (p.row.map Spt.block) l=some q∧Qc c p.row l=(q,true)∧((∀ b ∈ q,InC c b)∧q.length≤9223372036854775807):=fun l hr hs=>by
  obtain ⟨hk,h1,hp,-⟩:=hlaw hr
  have hnb:=hk.nb
  cases hq:runP c.blocks.length (p.row.map Spt.block) l with
  | none=>simp [Qc,hq] at hs
  | some q =>
   have hpq:=run_plc hnb.1 hp hq
   refine ⟨q,rfl,by simp only [Qc,hq],fun b hb=>?_,by rw [hpq.len]; omega⟩
   obtain ⟨i,hi,rfl⟩:=VD.1 hb
   have:=hpq.rng i (by rw [← hpq.len]; exact hi)
   exact ⟨this.1,by omega⟩
 have hlen:=pushes_len (c:=c) (row:=p.row)
 have hB:(Qa c p.row).2=0→(!(Qc c p.row (Qa c p.row).1).2)=false∧Qy c (Qc c p.row (Qa c p.row).1).1=true:=fun hr=>by
  obtain ⟨-,-,-,h4,-⟩:=hlaw (.inl hr)
  obtain ⟨q,hq,hw,-,-⟩:=h4 hr
  simp only [Qc,hq]
  exact ⟨rfl,hw⟩
 have hO:(Qa c p.row).2=0 ∨ (Qa c p.row).2=3→(!(Qc c p.row p.cars).2)=false→Qy c (Qc c p.row p.cars).1=true→(Qa c p.row).2=0∧(Qa c p.row).1.length≤p.cars.length:=fun hr hs hw=>by
  obtain ⟨q,hq,he,-⟩:=hR p.cars hr hs
  rw [he] at hw
  exact (hlaw hr).2.2.2.2 p.cars q hq hw
 generalize Qa c p.row=K at hP hR hlen hB hO ⊢
 clear hlaw
 refine ⟨by omega,by omega,⟨h,by omega⟩,⟨h,by omega⟩,?_⟩
 have X1:K.2=0→(c.blocks.length ≠ 0∧c.blocks.length≤1000000)∧(p.row.length≤1000000∧(∀ x ∈ p.row,0≤x.block∧x.block<c.blocks.length))∧K.1.length≤9223372036854775807:=fun h0=>⟨(hP (.inl h0)).1,(hP (.inl h0)).2,by omega⟩
 have X2:K.2=0→(c.blocks.length ≠ 0∧c.blocks.length≤1000000)∧(p.row.length≤1000000∧(∀ x ∈ p.row,0≤x.block∧x.block<c.blocks.length))∧p.cars.length≤9223372036854775807:=fun h0=>⟨(hP (.inl h0)).1,(hP (.inl h0)).2,by omega⟩
 have X3:K.2=3→(c.blocks.length ≠ 0∧c.blocks.length≤1000000)∧(p.row.length≤1000000∧(∀ x ∈ p.row,0≤x.block∧x.block<c.blocks.length))∧p.cars.length≤9223372036854775807:=fun h0=>⟨(hP (.inr h0)).1,(hP (.inr h0)).2,by omega⟩
 have Y1:K.2=0→(∀ b ∈ (Qc c p.row K.1).1,InC c b)∧(Qc c p.row K.1).1.length≤9223372036854775807:=fun h0=>by
  obtain ⟨q,-,he,hin⟩:=hR K.1 (.inl h0) (hB h0).1
  rw [he]; exact hin
 have Y2:K.2=0→(!(Qc c p.row p.cars).2)=false→(∀ b ∈ (Qc c p.row p.cars).1,InC c b)∧(Qc c p.row p.cars).1.length≤9223372036854775807:=fun h0 hs=>by
  obtain ⟨q,-,he,hin⟩:=hR p.cars (.inl h0) hs
  rw [he]; exact hin
 have Y3:K.2=3→(!(Qc c p.row p.cars).2)=false→(∀ b ∈ (Qc c p.row p.cars).1,InC c b)∧(Qc c p.row p.cars).1.length≤9223372036854775807:=fun h0 hs=>by
  obtain ⟨q,-,he,hin⟩:=hR p.cars (.inr h0) hs
  rw [he]; exact hin
 have Z1:K.2=0→(!(Qc c p.row K.1).2)=true→False:=fun h0 hs=>by rw [(hB h0).1] at hs; cases hs
 have Z2:K.2=0→Qy c (Qc c p.row K.1).1=false→False:=fun h0 hs=>by rw [(hB h0).2] at hs; cases hs
 have Z3:K.2=0→(!(Qc c p.row p.cars).2)=false→Qy c (Qc c p.row p.cars).1=true→¬ ((K.1.length:Int)≤(p.cars.length:Int))→False:=fun h0 hs hw hn=>by
  have:=(hO (.inl h0) hs hw).2; omega
 have Z4:K.2=3→(!(Qc c p.row p.cars).2)=false→Qy c (Qc c p.row p.cars).1=true→False:=fun h0 hs hw=>by
  have:=(hO (.inr h0) hs hw).1; omega
 have Z5:K.2=0→¬ K.2=0→False:=fun a b=>b a
 have Z6:K.2=3→¬ K.2=3→False:=fun a b=>b a
 have Z7:¬ K.2=K.2→False:=fun a=>a rfl
 have Z8:K.2=0→K.2=3→False:=fun a b=>by omega
 clear hP hR hB hO hlen
 repeat' (first
  | with_reducible rfl
  | exact X1 (by assumption)
  | exact X2 (by assumption)
  | exact X3 (by assumption)
  | exact Y1 (by assumption)
  | exact Y2 (by assumption) (by assumption)
  | exact Y3 (by assumption) (by assumption)
  | exact (Z1 (by assumption) (by assumption)).elim
  | exact (Z2 (by assumption) (by assumption)).elim
  | exact (Z3 (by assumption) (by assumption) (by assumption) (by assumption)).elim
  | exact (Z4 (by assumption) (by assumption) (by assumption)).elim
  | exact (Z5 (by assumption) (by assumption)).elim
  | exact (Z6 (by assumption) (by assumption)).elim
  | exact (Z7 (by assumption)).elim
  | exact (Z8 (by assumption) (by assumption)).elim
  | with_reducible apply And.intro
  | intro _)
theorem dPsg (W:World):Dec Try.prog W 67 Psg (fun a=>[.rsl (Qb a.row) 0 a.row.length,.rsl (rowI a.cars) 0 a.cars.length]) (fun a=>a.row.length≤9223372036854775807∧a.cars.length≤9223372036854775807):=by
 refine Dec.map (WS Try.underlying67 rfl (tot:=2) (by kernel_rfl) (XQ (n:=1) (tot:=2) (by kernel_rfl) rfl (dSpts W) (XQ (n:=1) (tot:=2) (by kernel_rfl) rfl (dInts W) qG (by decide)) (by decide))) (fun x=>(⟨x.1,x.2.1⟩:Psg)) ?_ ?_
 · exact fun _=>rfl
 · exact fun _ h=>⟨h.1,h.2.1⟩
end Go.Proofs.Ytgdfkjjgdkejfaa