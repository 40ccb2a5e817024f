/- A part of the proof: several texts, one behind the other. -/
import Derived.Test.YtideokfbnegkjaaLForceChecksA
import Derived.Shelf.Abstract
import Derived.ProofKit
import Derived.OpenShut
import Derived.WideShapes
import Derived.WideKeyArgs
import Derived.ChangeSame
import Derived.Test.YtideokfbnegkjaaChecked
set_option linter.unusedVariables false
set_option linter.unusedSimpArgs false
set_option maxRecDepth 100000
namespace Ax
open Go

section
variable {P : Program} {E : Env} {K K' : List Item} {st st' : St}

theorem binds_any {e : Edge} : Region.binds .any e = hard e := by
  unfold hard; unfold Region.binds
  cases hg : e.ground <;> simp [hg]

structure Draw (P : Program) (ops : Array Oper) (st0 : St) (rs : List Rec) (ms : List Nat) : Prop where
  len : rs.length = ops.size
  mlen : ms.length = ops.size
  rec' : ∀ j r, rs[j]? = some r → ∃ o idx' evs1 evs2 obs1, ops[j]? = some o ∧ recA P ops idx' j o ((rs.take j).foldl app1 st0) evs1 = some (r, evs2, obs1) ∧ AllP obs1
  anc : ∀ j o, ops[j]? = some o → ∃ m, ms[j]? = some m ∧ (∀ e ∈ o.after, hard e = true → e.on < j) ∧ ∀ p, m.testBit p = true → ∃ e ∈ o.after, hard e = true ∧ (p = e.on ∨ (ms.getD e.on 0).testBit p = true)
  pairs : pairsOk 0 rs ms = true

/-- Downwards closed. -/
def Down (ops : Array Oper) (D : Nat → Bool) : Prop := ∀ i o, ops[i]? = some o → D i = true → ∀ e ∈ o.after, hard e = true → D e.on = true

theorem Draw.down {ops : Array Oper} {st0 : St} {rs : List Rec} {ms : List Nat} (h : Draw P ops st0 rs ms) {D : Nat → Bool} (hd : Down ops D) :
    ∀ (i : Nat) (o : Oper) (m : Nat), ops[i]? = some o → ms[i]? = some m → D i = true → ∀ p, m.testBit p = true → D p = true := by
  intro i
  induction i using Nat.strongRecOn with
  | ind i ih =>
    intro o m ho hm hD p hp
    obtain ⟨m', q1, q2, q3⟩ := h.anc i o ho
    rw [hm] at q1; cases q1
    obtain ⟨e, e1, e2, e3⟩ := q3 p hp
    have hDe := hd i o ho hD e e1 e2
    rcases e3 with rfl | e3
    · exact hDe
    · have hlt := q2 e e1 e2
      have hs : i < ops.size := (Array.getElem?_eq_some_iff.1 ho).1
      have ho' : ops[e.on]? = some ops[e.on] := by simp
      have hm' : ms[e.on]? = some (ms.getD e.on 0) := by
        have : e.on < ms.length := by rw [h.mlen]; omega
        simp [List.getD, List.getElem?_eq_getElem this]
      exact ih e.on hlt _ _ ho' hm' hDe p e3

theorem draw_one {ops : Array Oper} {st0 : St} {rs : List Rec} {ms : List Nat} (h : Draw P ops st0 rs ms) (hk : E.b.kind = .normal) {D D' : Nat → Bool} (hd : Down ops D) {i : Nat} {o : Oper} {rest : List Nat} {k : List Item}
    (ho : ops[i]? = some o) (hi : D i = false) (hpre : ∀ e ∈ o.after, hard e = true → D e.on = true) (hD' : ∀ j, D' j = (D j || Nat.beq j i))
    (hlt : ∀ j, D j = true → j < ops.size)
    (hg : G P E (.inRegion ops rest :: k) (mix D' 0 rs st0)) : G P E (.inRegion ops (i :: rest) :: k) (mix D 0 rs st0) := by
  have his : i < ops.size := (Array.getElem?_eq_some_iff.1 ho).1
  have hir : i < rs.length := by rw [h.len]; exact his
  obtain ⟨r, hr⟩ : ∃ r, rs[i]? = some r := ⟨rs[i], by simp [hir]⟩
  obtain ⟨o', idx', evs1, evs2, obs1, q1, q2, q3⟩ := h.rec' i r hr
  rw [ho] at q1; cases q1
  obtain ⟨m, m1, m2, m3⟩ := h.anc i o ho
  have anc : ∀ p, m.testBit p = true → D p = true := by
    intro p hp
    obtain ⟨e, e1, e2, e3⟩ := m3 p hp
    have hDe := hpre e e1 e2
    rcases e3 with rfl | e3
    · exact hDe
    · have hl := m2 e e1 e2
      have ho' : ops[e.on]? = some ops[e.on] := by simp
      have hm' : ms[e.on]? = some (ms.getD e.on 0) := by
        have : e.on < ms.length := by rw [h.mlen]; omega
        simp [List.getD, List.getElem?_eq_getElem this]
      exact h.down hd e.on _ _ ho' hm' hDe p e3
  -- who clashes with 'i'
  have clsh : ∀ j r', rs[j]? = some r' → clash r' r = true → (j < i → D j = true) ∧ (i < j → D j = false) := by
    intro j r' hj hc
    refine ⟨fun hji => ?_, fun hij => ?_⟩
    · exact anc j (by simpa using pairsOk_spec h.pairs hji hj hr m1 hc)
    · cases hDj : D j with
      | false => rfl
      | true =>
        have hjs := hlt j hDj
        have hm' : ms[j]? = some (ms.getD j 0) := by
          have : j < ms.length := by rw [h.mlen]; omega
          simp [List.getD, List.getElem?_eq_getElem this]
        have := pairsOk_spec h.pairs hij hr hj hm' (by rw [clash_symm]; exact hc)
        have h2 := h.down hd j ops[j] _ (by simp [hjs]) hm' hDj i (by simpa using this)
        rw [hi] at h2; cases h2
  have blt : ∀ {a b : Nat}, Nat.blt a b = decide (a < b) := fun {a b} => by
    rw [Bool.eq_iff_iff, Nat.blt_eq]; simp
  have same : ∀ j r', rs[j]? = some r' → (clash r' r = true ∨ j = i) → D j = Nat.blt j i := by
    intro j r' hj hc
    rcases Nat.lt_trichotomy j i with hlt' | rfl | hgt
    · rw [(clsh j r' hj (hc.resolve_right (by omega))).1 hlt', blt]; simp [hlt']
    · rw [hi, blt]; simp
    · rw [(clsh j r' hj (hc.resolve_right (by omega))).2 hgt, blt]; simp; omega
  have hrec : recA P ops idx' i o (mix D 0 rs st0) evs1 = some (r, evs2, obs1) := by
    refine recA_congr q2 (fun t ht => ?_) (fun kk hk => ?_)
    · have := mix_pre (a := 0) (i := i) (rs := rs) (s := st0)
      simp only [Nat.zero_add] at this
      rw [← this]
      refine mix_tmps (fun j r' hj hd => ?_) rfl
      simp only [Nat.zero_add]
      refine same j r' hj (.inl ?_)
      have hw : wrd r' r = true := by
        simp only [wrd, hd, Bool.or_eq_true, List.any_eq_true]
        exact .inl ⟨t, ht, by simp⟩
      simp [clash, hw]
    · have := mix_pre (a := 0) (i := i) (rs := rs) (s := st0)
      simp only [Nat.zero_add] at this
      rw [← this]
      refine mix_blks (fun j r' b hj hd => ?_) rfl
      simp only [Nat.zero_add]
      refine same j r' hj (.inl ?_)
      have hw : wrd r' r = true := by
        simp only [wrd, hd, Bool.or_eq_true, List.any_eq_true]
        exact .inr ⟨kk, hk, by simp⟩
      simp [clash, hw]
  refine rec_step ho hk hrec q3 ?_
  rw [← mix_insert hi hD' (Nat.zero_le i) (by simpa using hr) fun j r' hj hlt' hDj => ?_]
  · exact hg
  · simp only [Nat.zero_add] at hlt' hDj
    cases hw : wr2 r r' with
    | false => rfl
    | true =>
      have := (clsh j r' hj (by rw [clash_symm]; simp [clash, hw])).2 hlt'
      rw [this] at hDj; cases hDj

def unl (n : Nat) (listed : Array Bool) : List Nat := (List.range n).filter fun i => !listed.getD i true

theorem draw_go {ops : Array Oper} {st0 : St} {rs : List Rec} {ms : List Nat} (h : Draw P ops st0 rs ms) (hk : E.b.kind = .normal) {k : List Item} (hg : G P E k (rs.foldl app1 st0)) :
    ∀ (fuel t : Nat) (listed : Array Bool), listed.size = ops.size → (unl ops.size listed).length ≤ fuel → Down ops (fun i => listed.getD i false) →
      G P E (.inRegion ops (Region.linearise.go .any ops fuel t listed []) :: k) (mix (fun i => listed.getD i false) 0 rs st0) := by
  have fin : ∀ listed : Array Bool, listed.size = ops.size → (∀ i, i < ops.size → listed.getD i false = true) → G P E (.inRegion ops [] :: k) (mix (fun i => listed.getD i false) 0 rs st0) := by
    intro listed hs hall
    rw [mix_all fun j hj => by rw [Nat.zero_add]; exact hall j (by rw [← h.len]; exact hj)]
    exact .of_step (fun a w => stepR_region_end) hg
  have gd : ∀ (listed : Array Bool) (i : Nat), listed.size = ops.size → i < ops.size → listed.getD i true = listed.getD i false := by
    intro listed i hs hi
    have : i < listed.size := by omega
    simp [Array.getD, this]
  intro fuel
  induction fuel with
  | zero =>
    intro t listed hs hf hd
    simp only [Region.linearise.go, List.reverse_nil]
    refine fin listed hs fun i hi => ?_
    have h0 : unl ops.size listed = [] := List.length_eq_zero_iff.1 (by omega)
    cases hc : listed.getD i false with
    | true => rfl
    | false =>
      have : i ∈ unl ops.size listed := by
        unfold unl; rw [List.mem_filter, List.mem_range]
        exact ⟨hi, by rw [gd listed i hs hi, hc]; rfl⟩
      rw [h0] at this; cases this
  | succ fuel ih =>
    intro t listed hs hf hd
    simp only [Region.linearise.go]
    change G P E (.inRegion ops (match (Region.ready .any ops listed)[t % (Region.ready .any ops listed).length]? with
      | some i => Region.linearise.go .any ops fuel (t / (Region.ready .any ops listed).length) (listed.setIfInBounds i true) [i]
      | none => [].reverse) :: k) _
    cases hi : (Region.ready .any ops listed)[t % (Region.ready .any ops listed).length]? with
    | none =>
      have hnil : Region.ready .any ops listed = [] := by
        cases hr : Region.ready .any ops listed with
        | nil => rfl
        | cons x xs =>
          rw [hr] at hi
          have hlt : t % (x :: xs).length < (x :: xs).length := Nat.mod_lt _ (by simp)
          simp at hi
          simp at hlt
          omega
      simp only [List.reverse_nil]
      refine fin listed hs fun i => ?_
      induction i using Nat.strongRecOn with
      | ind i ihi =>
        intro hi'
        cases hc : listed.getD i false with
        | true => rfl
        | false =>
          have hop : ops[i]? = some ops[i] := by simp [hi']
          have : i ∈ Region.ready .any ops listed := by
            rw [mem_ready]
            refine ⟨by rw [gd listed i hs hi', hc], ops[i], hop, fun e he hb => ?_⟩
            rw [binds_any] at hb
            obtain ⟨m, m1, m2, m3⟩ := h.anc i _ hop
            have := m2 e he hb
            exact ihi e.on this (by omega)
          rw [hnil] at this; cases this
    | some i =>
      simp only
      rw [linearise_go_acc, List.reverse_singleton, List.singleton_append]
      have hmem := List.mem_of_getElem? hi
      obtain ⟨h0, o, ho, hpre⟩ := mem_ready.1 hmem
      have his : i < ops.size := (Array.getElem?_eq_some_iff.1 ho).1
      have h0' : listed.getD i false = false := by rw [← gd listed i hs his]; exact h0
      have hset : ∀ j, (listed.setIfInBounds i true).getD j false = (listed.getD j false || Nat.beq j i) := by
        intro j
        by_cases e : j = i
        · subst e
          have : j < listed.size := by omega
          simp [Array.getD, this]
        · have : Nat.beq j i = false := by rw [← Bool.not_eq_true, Nat.beq_eq]; exact e
          rw [getD_set_ne false (Ne.symm e), this, Bool.or_false]
      refine draw_one h hk hd ho h0' (fun e he hh => hpre e he (by rw [binds_any]; exact hh)) hset (fun j hj => ?_) ?_
      · rcases Nat.lt_or_ge j ops.size with h1 | h1
        · exact h1
        · have h1' : listed.size ≤ j := by omega
          simp [Array.getD, Nat.not_lt.2 h1'] at hj
      · refine ih _ _ (by simpa using hs) ?_ ?_
        · have hsub : (unl ops.size (listed.setIfInBounds i true)) = (unl ops.size listed).filter fun j => !Nat.beq j i := by
            unfold unl
            rw [List.filter_filter]
            refine List.filter_congr fun j hj => ?_
            have hj' := List.mem_range.1 hj
            rw [gd _ j (by simpa using hs) hj', hset j, gd listed j hs hj']
            cases listed.getD j false <;> cases Nat.beq j i <;> rfl
          have hlt : ((unl ops.size listed).filter fun j => !Nat.beq j i).length < (unl ops.size listed).length := by
            rw [List.length_filter_lt_length_iff_exists]
            refine ⟨i, ?_, by simp⟩
            unfold unl; rw [List.mem_filter, List.mem_range]
            exact ⟨his, by rw [h0]; rfl⟩
          rw [hsub]; omega
        · intro j oj hoj hDj e he hh
          simp only [hset] at hDj ⊢
          rw [Bool.or_eq_true] at hDj ⊢
          rcases hDj with hDj | hDj
          · exact .inl (hd j oj hoj hDj e he hh)
          · rw [Nat.beq_eq] at hDj; subst hDj
            rw [ho] at hoj; cases hoj
            exact .inl (hpre e he (by rw [binds_any]; exact hh))

/-- A region whose order is drawn. -/
theorem draw_step {ops : Array Oper} {id : Nat} {k : List Item} {evs evs' : List EV} {obs : List Prop} (hk : E.b.kind = .normal) (hmx : P.follows .mixedOrders = true)
    (h : drawA P ops st evs = some (st', evs', obs)) (ho : AllP obs) (hg : G P E k st') : G P E (.code (.region id ops true) :: k) st := by
  unfold drawA at h
  split at h
  · cases h
  · rename_i rs st1 evs1 obs1 h1
    split at h
    · cases h
    · rename_i ms hms
      cases hp : pairsOk 0 rs ms with
      | false => simp [hp] at h
      | true =>
        simp only [hp, cond_true, Option.some.injEq, Prod.mk.injEq] at h
        obtain ⟨rfl, -, rfl⟩ := h
        obtain ⟨l, e, f⟩ := recsA_spec h1 ho
        obtain ⟨a1, a2, a3⟩ := ancsA_spec (i := 0) (acc := []) rfl hms
        have hD : Draw P ops ⟨st.tmps, st.blks ++ List.replicate (ops.toList.countP mayNew) dead⟩ rs ms :=
          ⟨l, by simpa using a2, fun j r hj => by simpa using f j r hj, fun j o hj => by simpa using a3 j o (by simpa using hj), hp⟩
        have hg2 : G P E k (rs.foldl app1 ⟨st.tmps, st.blks ++ List.replicate (ops.toList.countP mayNew) dead⟩) := by
          rw [← e]
          obtain ⟨m, hm⟩ := trim_spec st1.blks
          have : st1 = ⟨st1.tmps, trim st1.blks ++ List.replicate m dead⟩ := by cases st1; simp only at hm ⊢; rw [← hm]
          rw [this]; exact G_pop hg
        intro C Z a w hr
        have hstep := stepR_region_draw (P := P) (b := E.b) (a := a) (k := k) (cs := E.cs) (w := w) (ops := ops) (id := id)
        refine .step (.one hstep) ?_
        have hrep : ∀ j, (Array.replicate ops.size false).getD j false = false := by
          intro j
          by_cases hj : j < ops.size <;> simp [Array.getD, hj]
        have hgo := draw_go hD hk hg2 ops.size (w.tape w.drawn (.order E.b.fn id)) (Array.replicate ops.size false) (by simp) (by
          unfold unl; exact Nat.le_trans (List.length_filter_le _ _) (by simp)) (by intro i o hio hDi; have := (hrep i).symm.trans hDi; cases this)
        simp only [Region.schedule, hmx, Bool.true_or, if_true]
        rw [mix_none (fun j => hrep j)] at hgo
        have ev : EvoC w { w with drawn := w.drawn + 1 } := ⟨fun _ _ _ _ h => h, rfl⟩
        have hfr := hr.mem.frame
        exact hgo C Z a { w with drawn := w.drawn + 1 } ⟨⟨hr.tmp.1, fun i c v p q => (hr.tmp.2 i c v p q).evoC ev⟩,
          (hr.mem.evoC ev ⟨hfr.os, hfr.tape, hfr.output, hfr.size, hfr.same⟩).pushN _, hr.marks, ⟨hr.gh.1, fun i c v p q => (hr.gh.2 i c v p q).evoC ev⟩⟩

end
end Ax

namespace Ax
open Go

section
variable {P : Program} {E : Env} {K K' : List Item} {st st' : St}

def tick : List EV → List EV
  | .hold (j + 1) :: evs => .hold j :: evs
  | evs => evs

/-- What comes next, in text order, up to where 'stop' is told: a loop's body, a range over a function, a return, a jump out of a round, or the end. -/
def walk (P : Program) : Nat → List Item → St → List EV → Option (List Item × St × List EV × List Prop)
  | 0, K, st, evs => some (K, st, evs, [])
  | n + 1, K, st, evs =>
    match K with
    | .code .skip :: k => walk P n k st evs
    | .inBlock _ :: k => walk P n k st evs
    | .code (.seq x y) :: k => walk P n (.code x :: .code y :: k) st evs
    | .code (.block id body) :: k => walk P n (.code body :: .inBlock id :: k) st evs
    | .code (.cond c x y) :: k =>
      (match evalO st.tmps c, evs with
      | .bool t, .b u :: evs => (match walk P n (.code (bif u then x else y) :: k) st evs with
        | some (K', st', evs', obs) => some (K', st', evs', (t = u) :: obs)
        | none => none)
      | _, _ => none)
    | .code (.region _ ops false) :: k => walk P n (.inRegion ops (List.range' 0 ops.size) :: k) st evs
    | .code (.region _ ops true) :: k =>
      (match drawA P ops st evs with
      | some (st1, evs1, o1) => (match walk P n k st1 evs1 with
        | some (K', st', evs', obs) => some (K', st', evs', o1 ++ obs)
        | none => none)
      | none => none)
    | .inRegion ops [] :: k => walk P n k st evs
    | .inRegion ops (i :: is) :: k =>
      (match evs with
      | .hold 0 :: evs => some (.inRegion ops (i :: is) :: k, st, evs, [])
      | evs => (match ops[i]? with
        | none => none
        | some o => (match opA P ops i o st (tick evs) with
          | none => none
          | some (st1, evs1, o1) => (match walk P n (.inRegion ops is :: k) st1 evs1 with
            | some (K', st', evs', obs) => some (K', st', evs', o1 ++ obs)
            | none => none))))
    | .code (.exit id) :: k => (match exitTo id k with
      | some k' => walk P n k' st evs
      | none => some (.code (.exit id) :: k, st, evs, []))
    | .code (.loop body) :: k => (match evs with
      | .stop :: evs => some (.code body :: .inLoop body :: k, st, evs, [])
      | evs => walk P n (.code body :: .inLoop body :: k) st evs)
    | .inLoop body :: k => (match evs with
      | .stop :: evs => some (.code body :: .inLoop body :: k, st, evs, [])
      | evs => walk P n (.code body :: .inLoop body :: k) st evs)
    | K => some (K, st, evs, [])

theorem walk_step (hk : E.b.kind = .normal) (hmx : P.follows .mixedOrders = true) : ∀ {n : Nat} {K K' : List Item} {st st' : St} {evs evs' : List EV} {obs : List Prop},
    walk P n K st evs = some (K', st', evs', obs) → AllP obs → G P E K' st' → G P E K st
  | 0, K, K', st, st', evs, evs', obs, h, ho, hg => by
    simp only [walk, Option.some.injEq, Prod.mk.injEq] at h
    obtain ⟨rfl, rfl, -, -⟩ := h
    exact hg
  | n + 1, K, K', st, st', evs, evs', obs, h, ho, hg => by
    unfold walk at h
    split at h
    · exact .of_step (fun a w => stepR_skip) (walk_step hk hmx h ho hg)
    · exact .of_step (fun a w => stepR_inBlock) (walk_step hk hmx h ho hg)
    · exact .of_step (fun a w => stepR_seq) (walk_step hk hmx h ho hg)
    · exact .of_step (fun a w => stepR_block) (walk_step hk hmx h ho hg)
    · rename_i c x y k
      split at h
      · rename_i t u evs1 hc
        split at h
        · rename_i K1 st1 evs2 obs1 h1
          simp only [Option.some.injEq, Prod.mk.injEq] at h
          obtain ⟨rfl, rfl, rfl, rfl⟩ := h
          obtain ⟨rfl, ho⟩ := ho
          have h2 := walk_step hk hmx h1 ho hg
          intro C Z a w hr
          have hv := evalO_sound hr.tmp c
          rw [hc] at hv
          generalize hcv : a.eval c = cv at hv
          cases hv
          refine .step (.one (stepR_cond hcv)) ?_
          have := h2 C Z a w hr
          cases t <;> exact this
        · cases h
      · cases h
    · rename_i id ops k
      have := walk_step hk hmx h ho hg
      rw [← List.range_eq_range'] at this
      exact .of_step (fun a w => stepR_region) this
    · rename_i id ops k
      split at h
      · rename_i st1 evs1 o1 h1
        split at h
        · rename_i K2 st2 evs2 obs2 h2
          simp only [Option.some.injEq, Prod.mk.injEq] at h
          obtain ⟨rfl, rfl, rfl, rfl⟩ := h
          obtain ⟨a1, a2⟩ := AllP_append.1 ho
          exact draw_step hk hmx h1 a1 (walk_step hk hmx h2 a2 hg)
        · cases h
      · cases h
    · exact .of_step (fun a w => stepR_region_end) (walk_step hk hmx h ho hg)
    · rename_i ops i is k
      split at h
      · simp only [Option.some.injEq, Prod.mk.injEq] at h
        obtain ⟨rfl, rfl, -, -⟩ := h
        exact hg
      · split at h
        · cases h
        · rename_i o hoi
          split at h
          · cases h
          · rename_i st1 evs1 o1 h1
            split at h
            · rename_i K2 st2 evs2 obs2 h2
              simp only [Option.some.injEq, Prod.mk.injEq] at h
              obtain ⟨rfl, rfl, rfl, rfl⟩ := h
              obtain ⟨a1, a2⟩ := AllP_append.1 ho
              exact op_step hoi hk h1 a1 (walk_step hk hmx h2 a2 hg)
            · cases h
    · rename_i id k
      split at h
      · rename_i k' hx
        exact .of_step (fun a w => stepR_exit hx) (walk_step hk hmx h ho hg)
      · simp only [Option.some.injEq, Prod.mk.injEq] at h
        obtain ⟨rfl, rfl, -, -⟩ := h
        exact hg
    · split at h
      · simp only [Option.some.injEq, Prod.mk.injEq] at h
        obtain ⟨rfl, rfl, -, -⟩ := h
        exact .of_step (fun a w => stepR_loop) hg
      · exact .of_step (fun a w => stepR_loop) (walk_step hk hmx h ho hg)
    · split at h
      · simp only [Option.some.injEq, Prod.mk.injEq] at h
        obtain ⟨rfl, rfl, -, -⟩ := h
        exact .of_step (fun a w => stepR_inLoop) hg
      · exact .of_step (fun a w => stepR_inLoop) (walk_step hk hmx h ho hg)
    · simp only [Option.some.injEq, Prod.mk.injEq] at h
      obtain ⟨rfl, rfl, -, -⟩ := h
      exact hg

/-- A function that only reads, called by its value. -/
theorem pureF_of {f : FuncId} {fn : Func} {c : Code} {first args cap : List AV} {res : AV} (hf : P.funcs[f]? = some fn) (hname : (fn.name == "runtime.NumGoroutine") = false) (hb : fn.body = some c)
    (h : Pure P f (first ++ args ++ cap) res) : PureF P (.clos f first cap) args res := by
  intro Z w cf cargs hz hcf ha
  cases hcf with
  | @clos _ _ _ _ fa ca hl h1 hl' h2 =>
    refine ⟨{ target := .fn (.func f) ca, args := fa ++ cargs }, f, fa ++ cargs ++ ca, rfl, ?_, ?_⟩
    · have := Go.Proofs.enters_of (P := P) hf hname hb (fa ++ cargs ++ ca) w
      simpa [invoke] using this
    · refine h Z w _ hz ⟨by have := ha.1; simp at this; simp [hl, hl', this], fun i x y p q => ?_⟩
      have hal : args.length = cargs.size := by simpa using ha.1
      simp only [Array.toList_append] at q
      rw [List.append_assoc] at p q
      by_cases i1 : i < first.length
      · rw [List.getElem?_append_left i1] at p
        rw [List.getElem?_append_left (by simpa [← hl] using i1)] at q
        exact h1 i x y p (by simpa using q)
      · rw [List.getElem?_append_right (by omega)] at p
        rw [List.getElem?_append_right (by simp; omega)] at q
        have e1 : fa.toList.length = first.length := by simp [hl]
        rw [e1] at q
        by_cases i2 : i - first.length < args.length
        · rw [List.getElem?_append_left i2] at p
          rw [List.getElem?_append_left (by simpa [← hal] using i2)] at q
          exact ha.2 _ x y p q
        · rw [List.getElem?_append_right (by omega)] at p
          rw [List.getElem?_append_right (by simp; omega)] at q
          have e2 : cargs.toList.length = args.length := by simp [hal]
          rw [e2] at q
          exact h2 _ x y p (by simpa using q)

end
end Ax

namespace Ax
open Go

/-- The place in the code, by the tests' outcomes. -/
def kAt : Nat → List Item → List EV → List Item
  | 0, K, _ => K
  | n + 1, K, evs =>
    match K with
    | .code .skip :: k => kAt n k evs
    | .inBlock _ :: k => kAt n k evs
    | .code (.seq x y) :: k => kAt n (.code x :: .code y :: k) evs
    | .code (.block id body) :: k => kAt n (.code body :: .inBlock id :: k) evs
    | .code (.cond _ x y) :: k => (match evs with
      | .b u :: evs => kAt n (.code (bif u then x else y) :: k) evs
      | _ => K)
    | .code (.region ..) :: k => kAt n k evs
    | .inRegion .. :: k => kAt n k evs
    | .code (.exit id) :: k => (match exitTo id k with
      | some k' => kAt n k' evs
      | none => K)
    | .code (.loop body) :: k => (match evs with
      | .stop :: _ => .code body :: .inLoop body :: k
      | evs => kAt n (.code body :: .inLoop body :: k) evs)
    | .inLoop body :: k => (match evs with
      | .stop :: _ => .code body :: .inLoop body :: k
      | evs => kAt n (.code body :: .inLoop body :: k) evs)
    | K => K

def bodyAt (P : Program) (f : FuncId) : Code := ((P.funcs[f]?).bind (·.body)).getD .skip

section
variable {P : Program} {E : Env} {K K' : List Item} {st st' : St}

def isEnd : List Item → Bool
  | [] => true
  | .code .ret :: _ => true
  | _ => false

theorem isEnd_spec {K : List Item} (h : isEnd K = true) : K = [] ∨ ∃ k, K = .code .ret :: k := by
  unfold isEnd at h
  split at h
  · exact .inl rfl
  · exact .inr ⟨_, rfl⟩
  · cases h

/-- To the end: the result, laid down. -/
def endA (P : Program) (fn : Func) (n : Nat) (K : List Item) (st : St) (evs : List EV) : Option (AV × List Prop) :=
  match walk P n K st evs with
  | some (K', st', evs', o1) =>
    (match isEnd K', resA P st' fn.results.toList evs' with
    | true, some (vs, _, o2) =>
      (match (frz 8 (tupA vs)).run (st'.blks[·]?) with
      | some (r, o3) => some (r, o1 ++ (o2 ++ o3))
      | none => none)
    | _, _ => none)
  | none => none

theorem end_step {n : Nat} {f : FuncId} {fn : Func} {evs : List EV} {r res : AV} {obs : List Prop} (hE : PureE P f res E) (hf : P.funcs[f]? = some fn) (hmx : P.follows .mixedOrders = true)
    (h : endA P fn n K st evs = some (r, obs)) (ho : AllP obs) (hr : r = res) : G P E K st := by
  subst hr
  unfold endA at h
  split at h
  · rename_i K' st' evs' o1 h1
    split at h
    · rename_i vs evs2 o2 hK h2
      split at h
      · rename_i r' o3 h3
        simp only [Option.some.injEq, Prod.mk.injEq] at h
        obtain ⟨rfl, rfl⟩ := h
        obtain ⟨a1, a2⟩ := AllP_append.1 ho
        obtain ⟨a2, a3⟩ := AllP_append.1 a2
        exact walk_step hE.2.1 hmx h1 a1 (G_pure hE hf h2 a2 h3 a3 (isEnd_spec hK))
      · cases h
    · cases h
  · cases h

end
end Ax

namespace Ax
open Go

def Own (C : Ctx) (b : Nat) : Prop := ∃ k o, C.β k = .loc b o

section
variable {P : Program} {Z0 M Z F M' : Nat → Prop} {w0 w w' : World} {C C' : Ctx} {blks blks' : List Blk}

theorem Mem.apart (hm : Mem Z0 M w0 C Z blks w) (hf : Fr w F w') (h1 : ∀ b, Own C b → ¬ F b) (h2 : ∀ b, Z b → ¬ F b) (hM' : ∀ b, Own C b → M' b) : Mem Z M' w' C Z blks w' ∧ Evo C Z Z w w' := by
  have hevo : Evo C Z Z w w' := ⟨fun b h => h, fun b hz => hf.same b (hm.zlt b hz) (h2 b hz), fun k blk o arr e hb h => ⟨arr, by rw [hf.same blk (hm.own k blk o hb).1 (h1 blk ⟨k, o, hb⟩)]; exact h, rfl⟩⟩
  refine ⟨⟨fun k b hb hl => ?_, hm.gen, hm.dd, hm.dom, hm.inj, fun k b o h => ⟨Nat.lt_of_lt_of_le (hm.own k b o h).1 hf.size, (hm.own k b o h).2.1, .inl (hM' b ⟨k, o, h⟩)⟩,
    fun b hz => Nat.lt_of_lt_of_le (hm.zlt b hz) hf.size, fun b hz => hz, fun b hz => .inl hz, Fr.refl _ _⟩, hevo⟩
  obtain ⟨q1, q2⟩ := hm.blk k b hb hl
  refine ⟨q1, ?_⟩
  cases hs : C.β k with
  | absent => simp [hs] at q2
  | unborn => simp only [hs] at q2 ⊢; exact q2
  | loc blk o =>
    simp only [hs] at q2 ⊢
    obtain ⟨arr, e, h3, h4, h5⟩ := q2
    refine ⟨arr, e, by rw [hf.same blk (hm.own k blk o hs).1 (h1 blk ⟨k, o, hs⟩)]; exact h3, h4, fun i c hi => ?_⟩
    obtain ⟨v, h6, h7⟩ := h5 i c hi
    refine ⟨v, h6, ?_⟩
    cases hfl : b.flat with
    | true => simp only [hfl, if_true] at h7 ⊢; exact h7.mono hevo.zero
    | false => simp only [hfl, Bool.false_eq_true, if_false] at h7 ⊢; exact h7.mono hevo

theorem Fr.trans {w0 w w' : World} {M F : Nat → Prop} (h : Fr w0 M w) (h' : Fr w F w') (hF : ∀ b, b < w0.heap.size → ¬ M b → ¬ F b) : Fr w0 M w' :=
  ⟨h'.os.trans h.os, h'.tape.trans h.tape, h'.output.trans h.output, Nat.le_trans h.size h'.size, fun b hb hM => by
    rw [h'.same b (Nat.lt_of_lt_of_le hb h.size) (hF b hb hM)]; exact h.same b hb hM⟩

theorem Mem.keep (hm : Mem Z0 M w0 C Z blks w) (hf : Fr w F w') (h1 : ∀ b, Own C b → ¬ F b) (h2 : ∀ b, Z b → ¬ F b) (h3 : ∀ b, b < w0.heap.size → ¬ M b → ¬ F b) : Mem Z0 M w0 C Z blks w' ∧ Evo C Z Z w w' := by
  obtain ⟨a, e⟩ := hm.apart (M' := Own C) hf h1 h2 (fun _ h => h)
  exact ⟨⟨a.blk, hm.gen, hm.dd, hm.dom, hm.inj, fun k b o h => ⟨(a.own k b o h).1, (hm.own k b o h).2⟩, a.zlt, hm.z0, hm.zsub, hm.frame.trans hf h3⟩, e⟩

theorem Mem.rebase (hm : Mem Z0 M w0 C Z blks w) (hM' : ∀ b, Own C b → M' b) : Mem Z M' w C Z blks w :=
  ⟨hm.blk, hm.gen, hm.dd, hm.dom, hm.inj, fun k b o h => ⟨(hm.own k b o h).1, (hm.own k b o h).2.1, .inl (hM' b ⟨k, o, h⟩)⟩, hm.zlt, fun _ h => h, fun _ h => .inl h, Fr.refl _ _⟩

theorem Mem.back {Z' : Nat → Prop} (hm : Mem Z0 M w0 C Z blks w) (h : Mem Z M' w C' Z' blks' w') (hM : ∀ b, M' b → M b ∨ w0.heap.size ≤ b) : Mem Z0 M w0 C' Z' blks' w' := by
  have hs := hm.frame.size
  refine ⟨h.blk, h.gen, h.dd, h.dom, h.inj, fun k b o ho => ?_, h.zlt, fun b hz => h.z0 b (hm.z0 b hz), fun b hz => ?_, ?_⟩
  · obtain ⟨a, b', c⟩ := h.own k b o ho
    refine ⟨a, b', ?_⟩
    rcases c with c | c
    · exact hM b c
    · exact .inr (by omega)
  · rcases h.zsub b hz with h1 | h1 | h1
    · exact hm.zsub b h1
    · exact .inr (hM b h1)
    · exact .inr (.inr (by omega))
  · exact hm.frame.trans h.frame fun b hb hnM hm' => by
      rcases hM b hm' with h1 | h1
      · exact hnM h1
      · omega

/-! ### Whoever ranges: 'F' is what a round may turn, 'Kp' what it must find again -/
abbrev Sd := (Nat → Prop) → (Nat → Prop) → World → Prop

structure Stable (Y : Sd) : Prop where
  lt : ∀ F Kp w, Y F Kp w → ∀ b, F b ∨ Kp b → b < w.heap.size
  mv : ∀ F Kp w Mi w', Y F Kp w → Fr w Mi w' → (∀ b, Mi b → ¬ F b ∧ ¬ Kp b) → Y F Kp w'

def YCall (P : Program) (yv : Value) (cargs : Array Value) (w : World) (Q : Bool → World → Prop) : Prop :=
  ∃ l fn tm asg bd, yv = .func (.yield l) #[] #[] ∧ (Instr.yield l cargs).run P w = .ok (.round l fn tm asg bd) w ∧
    ∀ (c : Frame) (cs : List Frame), ∃ t w', Q t w' ∧ Steps P (lone (Frame.round l fn tm asg bd .normal) (c :: cs) w) (lone (c.finish (.bool t)) cs w')

def nxt (cont : Nat → Bool) (n : Nat) : Option Nat := bif cont n then some (n + 1) else none

def Yields (P : Program) (yv : Value) (Y : Option Nat → Sd) (cont : Nat → Bool) (xs : List (List AV)) : Prop :=
  ∀ i x, xs[i]? = some x → ∀ F Kp w, Y (some i) F Kp w → ∀ cargs : Array Value, VRs (fun _ => False) w C0 x cargs.toList →
    YCall P yv cargs w fun t w' => t = cont i ∧ ∃ F' Kp', Y (nxt cont i) F' Kp' w' ∧ Fr w F w' ∧ (∀ b, F' b → F b ∨ w.heap.size ≤ b) ∧ (∀ b, Kp' b → F b ∨ Kp b ∨ w.heap.size ≤ b)

def stopAt (cont : Nat → Bool) : Nat → Nat → Option Nat
  | i, 0 => some i
  | i, n + 1 => bif cont i then stopAt cont (i + 1) n else none

/-- A function value that yields these, one after the other. -/
def IterF (P : Program) (fv : AV) (xs : List (List AV)) : Prop :=
  ∀ (Z : Nat → Prop) (w : World) (cf yv : Value) (Y : Option Nat → Sd) (cont : Nat → Bool), (∀ o, Stable (Y o)) → Yields P yv Y cont xs → ∀ F Kp, (∀ b, Z b → b < w.heap.size ∧ ¬ F b) → VR Z w C0 fv cf → Y (some 0) F Kp w →
    ∃ (d : Deferred) (f : FuncId) (args' : Array Value), (Deferred.ofValue cf #[yv]).run P w = .ok d w ∧ (invoke d.target d.args).run P w = .ok (.enter f args') w ∧
      Calls P f args' w fun e w' => ∃ v, e = .returned v ∧ ∃ F' Kp', Y (stopAt cont 0 xs.length) F' Kp' w'

def At (Y : Sd) (E : Env) : Prop := ∃ F Kp, Y F Kp E.w0 ∧ (∀ b, E.M b → ¬ F b ∧ ¬ Kp b) ∧ (∀ b, E.Z0 b → ¬ F b)

/-- The iterator's own frame, 'o' the side's state. -/
structure IterE (P : Program) (f : FuncId) (xs : List (List AV)) (yv : Value) (Y : Option Nat → Sd) (cont : Nat → Bool) (e o : Option Nat) (E : Env) : Prop where
  ro : E.b.roundOf = none
  kind : E.b.kind = .normal
  fn : E.b.fn = f
  gA : E.gA = []
  stab : ∀ o, Stable (Y o)
  ylds : Yields P yv Y cont xs
  at' : At (Y o) E
  fin : E.Fin = Ended P f E.cs fun _ w' => ∃ F Kp, Y e F Kp w'

variable {E : Env} {K K' : List Item} {st st' : St}

theorem scalars_nil {Z : Nat → Prop} {w : World} {C : Ctx} {x : List AV} {cs : List Value} (hs : scalars x = true) (h : VRs Z w C x cs) : VRs (fun _ => False) w C0 x cs :=
  ⟨h.1, fun i c v a b => scalars_any (arr := cs.toArray) hs (fun i c v a b => h.2 i c v a (by simpa using b)) i c v a (by simpa using b)⟩

theorem yield_step {f : FuncId} {xs : List (List AV)} {yv : Value} {Y : Option Nat → Sd} {cont : Nat → Bool} {e : Option Nat} {n : Nat} {x : List AV} {ops : Array Oper} {i : Nat} {o : Oper} {rest : List Nat} {k : List Item}
    {fop : Operand} {args : Array Operand} {ats : Array TypeId} (hE : IterE P f xs yv Y cont e (some n) E) (hx : xs[n]? = some x) (ho : ops[i]? = some o) (hop : o.op = .call ⟨.value fop, args, ats⟩)
    (hw : wantedA ops st.tmps o = some true) (hf : evalO st.tmps fop = .opq yv) (ha : args.toList.map (evalO st.tmps) = x) (hs : scalars x = true)
    (hg : ∀ E', IterE P f xs yv Y cont e (nxt cont n) E' → G P E' (.inRegion ops rest :: k) ⟨putA st.tmps o.dst (.bool (cont n)), st.blks⟩) : G P E (.inRegion ops (i :: rest) :: k) st := by
  intro C Z a w hr
  have hwc := wantedA_sound hr.tmp hw
  have hgo := stepGR_op (P := P) (b := E.b) (k := k) (cs := E.cs) (w := w) (rest := rest) ho hwc
  rw [Oper.semAt_eq _ _ _ (by intro c hc; rw [hop] at hc; cases hc)] at hgo
  have hfin : ∀ v, (E.b.atR a (.inRegion ops (i :: rest) :: k)).finish v = E.b.atR (a.put o.dst v) (.inRegion ops rest :: k) := by
    intro v; rw [Frame.finish_atR, ho]; rfl
  have hfv := evalO_sound hr.tmp fop
  rw [hf] at hfv
  generalize hyv : a.eval fop = yv' at hfv
  cases hfv
  obtain ⟨F, Kp, hY, hM, hZ⟩ := hE.at'
  have hlt := (hE.stab _).lt F Kp E.w0 hY
  have hYw := (hE.stab _).mv F Kp E.w0 E.M w hY hr.mem.frame hM
  have hargs : VRs Z w C x (args.map a.eval).toList := by
    rw [← ha]
    refine ⟨by simp, fun j c v p q => ?_⟩
    simp only [List.getElem?_map, Option.map_eq_some_iff] at p
    obtain ⟨y, p1, p2⟩ := p
    simp only [Array.toList_map, List.getElem?_map, p1, Option.map_some, Option.some.injEq] at q
    rw [← p2, ← q]
    exact evalO_sound hr.tmp y
  obtain ⟨l, fn, tm, asg, bd, hyl, hrun, hst⟩ := hE.ylds n x hx F Kp w hYw _ (scalars_nil hs hargs)
  obtain ⟨t, w', ⟨rfl, F', Kp', hY', hfr, hF', hKp'⟩, hsteps⟩ := hst (E.b.atR a (.inRegion ops (i :: rest) :: k)) E.cs
  have hexec : (execOp a.eval o).run P w = .ok (.round l fn tm asg bd) w := by
    obtain ⟨dst, op, ty, pos, after, guard⟩ := o
    simp only at hop
    subst hop
    simp only [execOp, resolve, hyv, hyl, Deferred.ofValue, Sem.run_bind, Sem.run_pure, Result.andThen_ok, invoke]
    simpa using hrun
  have henter : step P (lone (E.b.atR a (.inRegion ops (i :: rest) :: k)) E.cs w) =
      .next (lone (Frame.round l fn tm asg bd .normal) (E.b.atR a (.inRegion ops (i :: rest) :: k) :: E.cs) w) :=
    step_lone_go (by rw [hgo]; simp [stepG.apply, hexec])
  refine .step (Steps.head henter hsteps) ?_
  rw [hfin]
  -- behind the round
  have ownF : ∀ b, Own C b → ¬ F b ∧ ¬ Kp b := by
    rintro b ⟨k', o', hb⟩
    rcases (hr.mem.own k' b o' hb).2.2 with h | h
    · exact hM b h
    · exact ⟨fun h' => by have := hlt b (.inl h'); omega, fun h' => by have := hlt b (.inr h'); omega⟩
  have zF : ∀ b, Z b → ¬ F b := by
    intro b hb hF
    rcases hr.mem.zsub b hb with h | h | h
    · exact hZ b h hF
    · exact (hM b h).1 hF
    · have := hlt b (.inl hF); omega
  obtain ⟨Ds, d1, d2, d3⟩ := hr.marks
  have mkF : ∀ D ∈ Ds, ¬ F D ∧ ¬ Kp D := by
    intro D hD
    rcases (d3 D hD).2.1 with h | h
    · exact hM D h
    · exact ⟨fun h' => by have := hlt D (.inl h'); omega, fun h' => by have := hlt D (.inr h'); omega⟩
  obtain ⟨hmem, hevo⟩ := hr.mem.apart (M' := fun b => Own C b ∨ b ∈ Ds) hfr (fun b hb => (ownF b hb).1) zF (fun b hb => .inl hb)
  have hM' : ∀ b, Own C b ∨ b ∈ Ds → b < w.heap.size ∧ ¬ F b ∧ ¬ Kp b := by
    rintro b (h | h)
    · obtain ⟨k', o', hb⟩ := h
      exact ⟨(hr.mem.own k' b o' hb).1, ownF b ⟨k', o', hb⟩⟩
    · exact ⟨hr.mem.zlt b (d3 b h).1, mkF b h⟩
  refine hg { E with Z0 := Z, M := fun b => Own C b ∨ b ∈ Ds, w0 := w' } ⟨hE.ro, hE.kind, hE.fn, hE.gA, hE.stab, hE.ylds, ⟨F', Kp', hY', fun b hb => ?_, fun b hb => ?_⟩, hE.fin⟩ C Z _ w' ⟨?_, hmem, ?_, ?_⟩
  · obtain ⟨h1, h2, h3⟩ := hM' b hb
    exact ⟨fun h => by rcases hF' b h with h | h; exact h2 h; omega, fun h => by rcases hKp' b h with h | h | h; exact h2 h; exact h3 h; omega⟩
  · intro h
    have := hr.mem.zlt b hb
    rcases hF' b h with h | h
    · exact zF b hb h
    · omega
  · refine VRs.put ⟨hr.tmp.1, fun j c v p q => (hr.tmp.2 j c v p q).mono hevo⟩ (.bool _) o.dst
  · have : (a.put o.dst (.bool (cont n))).defers = a.defers := by cases o.dst <;> rfl
    rw [this]
    refine ⟨Ds, d1, d2, fun D hD => ⟨(d3 D hD).1, .inl (.inr hD), ?_⟩⟩
    rw [hfr.same D (hr.mem.zlt D (d3 D hD).1) (mkF D hD).1]; exact (d3 D hD).2.2
  · show VRs Z w' C E.gA E.gV
    exact ⟨hr.gh.1, fun j c v p q => (hr.gh.2 j c v p q).mono hevo⟩

/-- The iterator's end. -/
theorem iter_end {f : FuncId} {fn : Func} {xs : List (List AV)} {yv : Value} {Y : Option Nat → Sd} {cont : Nat → Bool} {e : Option Nat} {n : Nat} {evs : List EV} {obs : List Prop} (hE : IterE P f xs yv Y cont e e E) (hf : P.funcs[f]? = some fn)
    (hres : fn.results = #[]) (hmx : P.follows .mixedOrders = true)
    (h : (walk P n K st evs).map (fun r => (isEnd r.1, r.2.2.2)) = some (true, obs)) (ho : AllP obs) : G P E K st := by
  cases hw : walk P n K st evs with
  | none => simp [hw] at h
  | some r =>
    obtain ⟨K', st', evs', o1⟩ := r
    simp only [hw, Option.map_some, Option.some.injEq, Prod.mk.injEq] at h
    obtain ⟨hK, rfl⟩ := h
    obtain ⟨F, Kp, hY, hM, hZ⟩ := hE.at'
    have hfn := hE.fn
    refine walk_step hE.kind hmx hw ho (G_end (vs := []) (evs := []) (evs' := []) (obs := []) (Post := fun _ w' => ∃ F Kp, Y e F Kp w') hE.ro hE.kind (by rw [hfn]; exact hf) (by rw [hE.fin, hfn]) (by rw [hres]; rfl) trivial (fun C Z w v hm hv => ?_) (isEnd_spec hK))
    exact ⟨F, Kp, (hE.stab _).mv F Kp E.w0 E.M w hY hm.frame hM⟩

theorem iterF_of {f : FuncId} {fn : Func} {c : Code} {first cap : List AV} {xs : List (List AV)} (hf : P.funcs[f]? = some fn) (hname : (fn.name == "runtime.NumGoroutine") = false) (hb : fn.body = some c)
    (h : ∀ E yv Y cont, IterE P f xs yv Y cont (stopAt cont 0 xs.length) (some 0) E → G P E [.code c] ⟨first ++ [.opq yv] ++ cap ++ unds (fn.ntmps - (first ++ [AV.opq yv] ++ cap).length), []⟩) : IterF P (.clos f first cap) xs := by
  intro Z w cf yv Y cont hst hy F Kp hZ hcf hY
  cases hcf with
  | @clos _ _ _ _ fa ca hl h1 hl' h2 =>
    refine ⟨{ target := .fn (.func f) ca, args := fa ++ #[yv] }, f, fa ++ #[yv] ++ ca, rfl, ?_, fun cs => ?_⟩
    · have := Go.Proofs.enters_of (P := P) hf hname hb (fa ++ #[yv] ++ ca) w
      simpa [invoke] using this
    · let E : Env := ⟨Z, fun _ => False, w, { (default : Frame) with fn := f, kind := .normal }, cs, Ended P f cs fun _ w' => ∃ F Kp, Y (stopAt cont 0 xs.length) F Kp w', [], []⟩
      have hE : IterE P f xs yv Y cont (stopAt cont 0 xs.length) (some 0) E := ⟨rfl, rfl, rfl, rfl, hst, hy, ⟨F, Kp, hY, fun _ h => h.elim, fun b hb => (hZ b hb).2⟩, rfl⟩
      have hargs : VRs Z w C0 (first ++ [.opq yv] ++ cap) (fa ++ #[yv] ++ ca).toList := by
        refine ⟨by simp [hl, hl'], fun i x y p q => ?_⟩
        simp only [Array.toList_append] at q
        rw [List.append_assoc] at p q
        by_cases i1 : i < first.length
        · rw [List.getElem?_append_left i1] at p
          rw [List.getElem?_append_left (by simpa [← hl] using i1)] at q
          exact h1 i x y p (by simpa using q)
        · rw [List.getElem?_append_right (by omega)] at p
          rw [List.getElem?_append_right (by simp; omega)] at q
          have e1 : fa.toList.length = first.length := by simp [hl]
          rw [e1] at q
          by_cases i2 : i - first.length = 0
          · rw [i2] at p q; simp at p q; rw [← p, ← q]; exact .opq _
          · obtain ⟨j, hj⟩ : ∃ j, i - first.length = j + 1 := ⟨i - first.length - 1, by omega⟩
            rw [hj] at p q
            simp at p q
            exact h2 _ x y p (by simpa using q)
      have henter : Frame.enter P f (fa ++ #[yv] ++ ca) .normal = ({ (default : Frame) with fn := f, kind := .normal } : Frame).atR { tmps := (fa ++ #[yv] ++ ca) ++ Array.replicate (fn.ntmps - (fa ++ #[yv] ++ ca).size) undef, defers := [] } [.code c] := by
        simp only [Frame.enter, Frame.atR, hf, hb, Option.map_some, Option.getD_some, Option.bind_some]; rfl
      have hl2 : (first ++ [AV.opq yv] ++ cap).length = (fa ++ #[yv] ++ ca).size := by simp [hl, hl']; omega
      obtain ⟨m', s, v, w', fr, rfl, r1, r2, r3⟩ := h E yv Y cont hE C0 Z { tmps := (fa ++ #[yv] ++ ca) ++ Array.replicate (fn.ntmps - (fa ++ #[yv] ++ ca).size) undef, defers := [] } w
        ⟨⟨by rw [unds_eq, List.length_append, hl2]; simp; omega, fun i x y p q => by
            simp only [Array.toList_append (xs := fa ++ #[yv] ++ ca), Array.toList_replicate] at q
            rw [unds_eq] at p
            by_cases hi : i < (first ++ [AV.opq yv] ++ cap).length
            · rw [List.getElem?_append_left hi] at p
              rw [List.getElem?_append_left (by rw [Array.length_toList, ← hl2]; exact hi)] at q
              exact hargs.2 i x y p q
            · rw [List.getElem?_append_right (by omega)] at p
              rw [List.getElem?_append_right (by rw [Array.length_toList, ← hl2]; omega)] at q
              have p' := List.mem_replicate.1 (List.mem_of_getElem? p)
              have q' := List.mem_replicate.1 (List.mem_of_getElem? q)
              rw [p'.2, q'.2]
              exact .tup rfl (by simp)⟩, mem_nil (fun b hb => (hZ b hb).1), ⟨[], .nil, rfl, by simp⟩, ⟨rfl, fun _ _ _ h _ => by cases h⟩⟩
      rw [henter]
      exact ⟨.returned v, w', fr, ⟨v, rfl, r3⟩, s, r1, r2⟩

end
end Ax

namespace Ax
open Go

structure RoundE (gA : List AV) (E : Env) : Prop where
  ro : ∃ l, E.b.roundOf = some l
  kind : E.b.kind = .normal
  gA : E.gA = gA

/-- To have come to a place. -/
def ToCfg (KP : List Item → Prop) (SP : St → Prop) (E : Env) (m : Machine) : Prop :=
  ∃ C Z a w K st, KP K ∧ SP st ∧ Rel E.Z0 E.M E.w0 E.gA E.gV C Z st a w ∧ m = lone (E.b.atR a K) E.cs w

def isJump (jump : Code) (K : List Item) : Prop := ∃ k, K = .code jump :: k ∧ (jump = .ret ∨ ∃ id, jump = .exit id ∧ exitTo id k = none)

def putPs : List AV → List Nat → List AV → List AV
  | T, p :: ps, x :: xs => putPs (T.set p x) ps xs
  | T, _, _ => T

section
variable {P : Program} {E : Env} {K K' : List Item} {st st' : St}

theorem G_here {KP : List Item → Prop} {SP : St → Prop} (h : E.Fin = ToCfg KP SP E) (hK : KP K) (hS : SP st) : G P E K st :=
  fun C Z a w hr => ⟨_, .refl _ _, by rw [h]; exact ⟨C, Z, a, w, K, st, hK, hS, hr, rfl⟩⟩

theorem putPs_sound {Z : Nat → Prop} {w : World} {C : Ctx} : ∀ {ps : List Nat} {T x : List AV} {us : List Value} {tm : Array Value}, VRs Z w C T tm.toList → VRs Z w C x us →
    VRs Z w C (putPs T ps x) ((ps.zip us).foldl (fun tm p => tm.setIfInBounds p.1 p.2) tm).toList
  | [], T, x, us, tm, h, hx => by simpa [putPs] using h
  | p :: ps, T, [], [], tm, h, hx => by simpa [putPs] using h
  | p :: ps, T, [], a :: us, tm, h, hx => by have := hx.1; simp at this
  | p :: ps, T, b :: x, [], tm, h, hx => by have := hx.1; simp at this
  | p :: ps, T, b :: x, a :: us, tm, h, hx => by
    simp only [putPs, List.zip_cons_cons, List.foldl_cons]
    refine putPs_sound ?_ ⟨by have := hx.1; simpa using this, fun i c v p q => hx.2 (i + 1) c v (by simpa using p) (by simpa using q)⟩
    exact VRs.put (a := ⟨tm, []⟩) h (hx.2 0 b a rfl rfl) (some p)

theorem VRs.app {Z : Nat → Prop} {w : World} {C : Ctx} {a b : List AV} {c d : List Value} (h : VRs Z w C a c) (h' : VRs Z w C b d) : VRs Z w C (a ++ b) (c ++ d) := by
  refine ⟨by simp [h.1, h'.1], fun i x y p q => ?_⟩
  by_cases hi : i < a.length
  · rw [List.getElem?_append_left hi] at p
    rw [List.getElem?_append_left (by rw [← h.1]; exact hi)] at q
    exact h.2 i x y p q
  · rw [List.getElem?_append_right (by omega)] at p
    rw [List.getElem?_append_right (by rw [← h.1]; omega), ← h.1] at q
    exact h'.2 _ x y p q

theorem VRs.unapp {Z : Nat → Prop} {w : World} {C : Ctx} {a b : List AV} {c d : List Value} (hl : a.length = c.length) (h : VRs Z w C (a ++ b) (c ++ d)) : VRs Z w C a c ∧ VRs Z w C b d := by
  have h1 := h.1
  simp only [List.length_append] at h1
  refine ⟨⟨hl, fun i x y p q => ?_⟩, ⟨by omega, fun i x y p q => ?_⟩⟩
  · exact h.2 i x y (by rw [List.getElem?_append_left (List.getElem?_eq_some_iff.1 p).1]; exact p) (by rw [List.getElem?_append_left (List.getElem?_eq_some_iff.1 q).1]; exact q)
  · exact h.2 (a.length + i) x y (by rw [List.getElem?_append_right (by omega)]; simpa using p) (by rw [List.getElem?_append_right (by omega), hl]; simpa using q)

theorem VRs.mono {Z Z' : Nat → Prop} {w w' : World} {C : Ctx} {a : List AV} {c : List Value} (h : VRs Z w C a c) (he : Evo C Z Z' w w') : VRs Z' w' C a c :=
  ⟨h.1, fun i x y p q => (h.2 i x y p q).mono he⟩

theorem fr_put {w : World} {l : Nat} {o : Obj} : Fr w (· = l) (w.putObj l o) :=
  ⟨rfl, rfl, rfl, by simp, fun b hb h => World.putObj_heap_other h⟩

theorem fr_alloc {w : World} {o : Obj} {M : Nat → Prop} : Fr w M (w.alloc o) :=
  ⟨rfl, rfl, rfl, by simp, fun b hb _ => by
    show (w.heap.push o)[b]? = _
    rw [Array.getElem?_push]; rw [if_neg (by omega)]⟩

theorem Fr.weaken {w0 w : World} {M M' : Nat → Prop} (h : Fr w0 M w) (hM : ∀ b, M b → M' b) : Fr w0 M' w :=
  ⟨h.os, h.tape, h.output, h.size, fun b hb hn => h.same b hb fun hm => hn (hM b hm)⟩

/-- The side of whoever ranges: its memory, its temporaries and marks, the loop's record. -/
def RY (E : Env) (l : Nat) (tv : Array Value) (ds : List Deferred) (T : List AV) (rec : Option Nat → Loop) (Bl : Option Nat → List Blk) (o : Option Nat) : Sd := fun F Kp w =>
  ∃ C Z, Mem E.Z0 E.M E.w0 C Z (Bl o) w ∧ VRs Z w C (T ++ E.gA) (tv.toList ++ E.gV) ∧ Marks Z E.M E.w0 ds w ∧ w.heap[l]? = some (.loop (rec o)) ∧ ¬ Z l ∧ ¬ Own C l ∧ E.w0.heap.size ≤ l ∧
    (∀ b, F b ↔ (Own C b ∨ b = l)) ∧ ∀ b, Kp b ↔ (Z b ∨ b < E.w0.heap.size)

theorem lt_of_heap {w : World} {l : Nat} {o : Obj} (h : w.heap[l]? = some o) : l < w.heap.size := (Array.getElem?_eq_some_iff.1 h).1

theorem RY.stable {E : Env} {l : Nat} {tv : Array Value} {ds : List Deferred} {T : List AV} {rec : Option Nat → Loop} {Bl : Option Nat → List Blk} {o : Option Nat} : Stable (RY E l tv ds T rec Bl o) := by
  constructor
  · rintro F Kp w ⟨C, Z, hm, hv, hd, hl, hzl, hol, hwl, hF, hK⟩ b hb
    rw [hF, hK] at hb
    rcases hb with (⟨k, o', hb⟩ | rfl) | hb | hb
    · exact (hm.own k b o' hb).1
    · exact lt_of_heap hl
    · exact hm.zlt b hb
    · exact Nat.lt_of_lt_of_le hb hm.frame.size
  · rintro F Kp w Mi w' ⟨C, Z, hm, hv, hd, hl, hzl, hol, hwl, hF, hK⟩ hf hMi
    have h1 : ∀ b, Own C b → ¬ Mi b := fun b hb h => (hMi b h).1 ((hF b).2 (.inl hb))
    have h2 : ∀ b, Z b → ¬ Mi b := fun b hb h => (hMi b h).2 ((hK b).2 (.inl hb))
    obtain ⟨hm', he⟩ := hm.keep hf h1 h2 (fun b hb _ h => (hMi b h).2 ((hK b).2 (.inr hb)))
    exact ⟨C, Z, hm', hv.mono he, hd.evo he, by rw [hf.same l (lt_of_heap hl) (fun h => (hMi l h).1 ((hF l).2 (.inr rfl)))]; exact hl, hzl, hol, hwl, hF, hK⟩

/-- One round. -/
theorem round_ok {fn : FuncId} {l : Nat} {tv : Array Value} {ds : List Deferred} {T : List AV} {rec : Option Nat → Loop} {Bl : Option Nat → List Blk} {ps : Array Tmp} {assign body : Code} {D : Nat} {jump : Code} {cont : Nat → Bool}
    {i : Nat} {x : List AV} {S1 : St} (hT : T.length = tv.size) (hps : x.length = ps.size)
    (hrec : ∀ n, rec (some n) = { state := .ready, pending := none, fn, tmps := tv, params := ps, assign, body, defers := D })
    (hrecN : rec none = { state := .done, pending := some jump, fn, tmps := tv, params := ps, assign, body, defers := D })
    (hA : ∀ E', RoundE (T ++ E.gA) E' → E'.Fin = ToCfg (· = [.beginRound, .code body]) (· = S1) E' → G P E' [.code assign, .beginRound, .code body] ⟨putPs T ps.toList x, Bl (some i)⟩)
    (hB : ∀ E', RoundE (T ++ E.gA) E' → E'.Fin = ToCfg (fun K => if cont i = true then K = [] else isJump jump K) (fun st => st.blks = Bl (nxt cont i)) E' → G P E' [.code body] S1)
    {F Kp : Nat → Prop} {w : World} (hY : RY E l tv ds T rec Bl (some i) F Kp w) {cargs : Array Value} (hx : VRs (fun _ => False) w C0 x cargs.toList) :
    YCall P (.func (.yield l) #[] #[]) cargs w fun t w' => t = cont i ∧ ∃ F' Kp', RY E l tv ds T rec Bl (nxt cont i) F' Kp' w' ∧ Fr w F w' ∧ (∀ b, F' b → F b ∨ w.heap.size ≤ b) ∧ (∀ b, Kp' b → F b ∨ Kp b ∨ w.heap.size ≤ b) := by
  obtain ⟨C, Z, hm, hv, hd, hl, hzl, hol, hwl, hF, hK⟩ := hY
  have hcs : cargs.size = ps.size := by have := hx.1; simp at this; omega
  rw [hrec] at hl
  have hlw := lt_of_heap hl
  refine ⟨l, fn, _, assign, body, rfl, run_yield hl hcs, fun c cs => ?_⟩
  have hv2 := hv.unapp (by simpa using hT)
  -- the frame of the round
  let br : Frame := { (default : Frame) with fn := fn, kind := .normal, roundOf := some l }
  let tm : Array Value := (ps.zip cargs).foldl (fun tmps (t, a) => tmps.setIfInBounds t a) tv
  have hround : Frame.round l fn tm assign body .normal = br.atR { tmps := tm, defers := [] } [.code assign, .beginRound, .code body] := by
    simp [Frame.round, Frame.atR, br]
  have htm : VRs Z w C (putPs T ps.toList x) tm.toList := by
    have := putPs_sound (ps := ps.toList) (T := T) (x := x) (us := cargs.toList) (tm := tv) hv2.1 ⟨hx.1, fun i c v p q => ((hx.2 i c v p q).zmono (fun b h => h.elim)).of0⟩
    have e : tm = (ps.toList.zip cargs.toList).foldl (fun tm p => tm.setIfInBounds p.1 p.2) tv := by
      show (ps.zip cargs).foldl _ tv = _
      rw [← Array.foldl_toList, Array.toList_zip]
    rw [e]; exact this
  -- the assignment
  let E1b : Env := ⟨Z, Own C, w, br, c :: cs, fun _ => True, T ++ E.gA, tv.toList ++ E.gV⟩
  let E1 : Env := { E1b with Fin := ToCfg (· = [.beginRound, .code body]) (· = S1) E1b }
  obtain ⟨m1, s1, C1, Z1, a1, w1, K1, st1, rfl, rfl, hr1, rfl⟩ := hA E1 ⟨⟨l, rfl⟩, rfl, rfl⟩ rfl C Z { tmps := tm, defers := [] } w ⟨htm, hm.rebase (fun _ h => h), ⟨[], .nil, rfl, by simp⟩, hv⟩
  have f1 : Fr w (Own C) w1 := hr1.mem.frame
  have ownM : ∀ b, Own C b → E.M b ∨ E.w0.heap.size ≤ b := fun b ⟨k, o, h⟩ => (hm.own k b o h).2.2
  have hm1 := hm.back hr1.mem ownM
  have own1 : ∀ b, Own C1 b → Own C b ∨ w.heap.size ≤ b := fun b ⟨k, o, h⟩ => (hr1.mem.own k b o h).2.2
  have z1 : ∀ b, Z1 b → Z b ∨ Own C b ∨ w.heap.size ≤ b := fun b h => hr1.mem.zsub b h
  have hol1 : ¬ Own C1 l := fun h => by rcases own1 l h with h | h; exact hol h; omega
  have hzl1 : ¬ Z1 l := fun h => by rcases z1 l h with h | h | h; exact hzl h; exact hol h; omega
  have hl1 : w1.heap[l]? = some (.loop { state := .ready, pending := none, fn, tmps := tv, params := ps, assign, body, defers := D }) := by rw [f1.same l hlw hol]; exact hl
  -- the round begins
  have hbeg := stepR_beginRound (P := P) (b := br) (a := a1) (k := [.code body]) (cs := c :: cs) (w := w1) (l := l) rfl (run_beginRound hl1 rfl)
  obtain ⟨hm2, he2⟩ := hm1.keep (fr_put (w := w1) (l := l) (o := .loop { state := .busy, pending := none, fn, tmps := tv, params := ps, assign, body, defers := D })) (fun b hb e => hol1 (e ▸ hb)) (fun b hb e => hzl1 (e ▸ hb)) (fun b hb _ e => by omega)
  generalize hw2 : w1.putObj l (.loop { state := .busy, pending := none, fn, tmps := tv, params := ps, assign, body, defers := D }) = w2 at hbeg hm2 he2
  have f2 : Fr w1 (· = l) w2 := hw2 ▸ fr_put
  have hl2 : w2.heap[l]? = some (.loop { state := .busy, pending := none, fn, tmps := tv, params := ps, assign, body, defers := D }) := by rw [← hw2]; exact World.putObj_heap_same (Nat.lt_of_lt_of_le hlw f1.size)
  obtain ⟨Ds, d1, d2, d3⟩ := hr1.marks
  let E2b : Env := ⟨Z1, fun b => Own C1 b ∨ b ∈ Ds, w2, br, c :: cs, fun _ => True, T ++ E.gA, tv.toList ++ E.gV⟩
  let E2 : Env := { E2b with Fin := ToCfg (fun K => if cont i = true then K = [] else isJump jump K) (fun st => st.blks = Bl (nxt cont i)) E2b }
  obtain ⟨m2, s2, C2, Z2, a2, w3, K2, st2, hK2, hS2, hr2, rfl⟩ := hB E2 ⟨⟨l, rfl⟩, rfl, rfl⟩ rfl C1 Z1 a1 w2
    ⟨hr1.tmp.mono he2, hm2.rebase (fun _ h => .inl h), ⟨Ds, d1, d2, fun D' hD => ⟨(d3 D' hD).1, .inl (.inr hD), by rw [he2.same D' (d3 D' hD).1]; exact (d3 D' hD).2.2⟩⟩, hr1.gh.mono he2⟩
  have f3 : Fr w2 (fun b => Own C1 b ∨ b ∈ Ds) w3 := hr2.mem.frame
  have dsM : ∀ b, b ∈ Ds → Own C b ∨ w.heap.size ≤ b := fun b h => (d3 b h).2.1
  have m2M : ∀ b, (Own C1 b ∨ b ∈ Ds) → Own C b ∨ w.heap.size ≤ b := fun b h => h.elim (own1 b) (dsM b)
  have hs0 := hm.frame.size
  have hm3 := hm2.back hr2.mem fun b h => by
    rcases m2M b h with h | h
    · exact ownM b h
    · exact .inr (by omega)
  have own2 : ∀ b, Own C2 b → Own C b ∨ w.heap.size ≤ b := fun b ⟨k, o, h⟩ => by
    rcases (hr2.mem.own k b o h).2.2 with h | h
    · exact m2M b h
    · have e1 := f1.size; have e2 := f2.size; exact .inr (Nat.le_trans (Nat.le_trans e1 e2) h)
  have z2 : ∀ b, Z2 b → Z b ∨ Own C b ∨ w.heap.size ≤ b := fun b h => by
    rcases hr2.mem.zsub b h with h | h | h
    · exact z1 b h
    · exact .inr (m2M b h)
    · have e1 := f1.size; have e2 := f2.size; exact .inr (.inr (Nat.le_trans (Nat.le_trans e1 e2) h))
  have hol2 : ¬ Own C2 l := fun h => by rcases own2 l h with h | h; exact hol h; omega
  have hzl2 : ¬ Z2 l := fun h => by rcases z2 l h with h | h | h; exact hzl h; exact hol h; omega
  have hlw2 : l < w2.heap.size := lt_of_heap hl2
  have hl3 : w3.heap[l]? = some (.loop { state := .busy, pending := none, fn, tmps := tv, params := ps, assign, body, defers := D }) := by
    rw [f3.same l hlw2 (fun h => by rcases m2M l h with h | h; exact hol h; omega)]; exact hl2
  have hds2 : Marks Z2 E.M E.w0 ds w3 := by
    obtain ⟨Ds0, q1, q2, q3⟩ := hd
    refine ⟨Ds0, q1, q2, fun D' hD => ⟨hr2.mem.z0 D' (hr1.mem.z0 D' (q3 D' hD).1), (q3 D' hD).2.1, ?_⟩⟩
    have hz := (q3 D' hD).1
    have hlt := hm.zlt D' hz
    have hno : ¬ Own C D' := fun ⟨k, o, h⟩ => (hm.own k D' o h).2.1 hz
    have hne : D' ≠ l := fun e => hzl (e ▸ hz)
    have e1 := f1.size; have e2 := f2.size
    rw [f3.same D' (by omega) (fun h => by rcases m2M D' h with h | h; exact hno h; omega), f2.same D' (by omega) hne, f1.same D' hlt hno]
    exact (q3 D' hD).2.2
  -- the round ends
  have fin : ∀ (r' : Loop) (t : Bool), (∃ v, step P (lone (br.atR a2 K2) (c :: cs) w3) = .next (lone (c.finish v) cs (w3.putObj l (.loop r'))) ∧ v = .bool t) → t = cont i → r' = rec (nxt cont i) →
      ∃ t w', (t = cont i ∧ ∃ F' Kp', RY E l tv ds T rec Bl (nxt cont i) F' Kp' w' ∧ Fr w F w' ∧ (∀ b, F' b → F b ∨ w.heap.size ≤ b) ∧ (∀ b, Kp' b → F b ∨ Kp b ∨ w.heap.size ≤ b)) ∧
        Steps P (lone (Frame.round l fn tm assign body .normal) (c :: cs) w) (lone (c.finish (.bool t)) cs w') := by
    rintro r' t ⟨v, hstep, rfl⟩ ht hr'
    obtain ⟨hm4, he4⟩ := hm3.keep (fr_put (w := w3) (l := l) (o := .loop r')) (fun b hb e => hol2 (e ▸ hb)) (fun b hb e => hzl2 (e ▸ hb)) (fun b hb _ e => by omega)
    refine ⟨t, w3.putObj l (.loop r'), ⟨ht, fun b => Own C2 b ∨ b = l, fun b => Z2 b ∨ b < E.w0.heap.size, ⟨C2, Z2, by rw [← hS2]; exact hm4, hr2.gh.mono he4, hds2.evo he4, by rw [← hr']; exact World.putObj_heap_same (lt_of_heap hl3), hzl2, hol2, hwl, fun _ => .rfl, fun _ => .rfl⟩, ?_, ?_, ?_⟩, ?_⟩
    · have g1 : Fr w F w1 := f1.weaken fun b h => (hF b).2 (.inl h)
      have g2 : Fr w F w2 := g1.trans f2 fun b _ hn e => hn ((hF b).2 (.inr e))
      have g3 : Fr w F w3 := g2.trans f3 fun b hb hn h => by
        rcases m2M b h with h | h
        · exact hn ((hF b).2 (.inl h))
        · omega
      exact g3.trans fr_put fun b _ hn e => hn ((hF b).2 (.inr e))
    · rintro b (h | h)
      · rcases own2 b h with h | h
        · exact .inl ((hF b).2 (.inl h))
        · exact .inr h
      · exact .inl ((hF b).2 (.inr h))
    · rintro b (h | h)
      · rcases z2 b h with h | h | h
        · exact .inr (.inl ((hK b).2 (.inl h)))
        · exact .inl ((hF b).2 (.inl h))
        · exact .inr (.inr h)
      · exact .inr (.inl ((hK b).2 (.inr h)))
    · rw [hround]
      exact s1.trans (Steps.head hbeg (s2.trans (.one hstep)))
  cases hc : cont i with
  | true =>
    simp only [hc, if_true] at hK2
    subst hK2
    exact hc ▸ fin _ true ⟨_, stepR_round_end (P := P) (b := br) (a := a2) (cs := cs) (w := w3) (c := c) (l := l) rfl rfl (run_endRound none hl3), rfl⟩ hc.symm (by simp [nxt, hc, hrec])
  | false =>
    simp only [hc, Bool.false_eq_true, if_false] at hK2
    obtain ⟨k2, rfl, hj⟩ := hK2
    refine hc ▸ fin _ false ⟨_, ?_, rfl⟩ hc.symm (by simp only [nxt, hc, cond_false, hrecN]; rfl)
    rcases hj with rfl | ⟨id, rfl, hx⟩
    · exact stepR_round_ret (P := P) (b := br) (a := a2) (cs := cs) (w := w3) (c := c) (l := l) rfl rfl (run_endRound (some .ret) hl3)
    · exact stepR_round_exit (P := P) (b := br) (a := a2) (cs := cs) (w := w3) (c := c) (l := l) rfl rfl hx (run_endRound (some (.exit id)) hl3)

end
end Ax

namespace Ax
open Go

section
variable {P : Program} {E : Env} {K K' : List Item} {st st' : St}

theorem stopAt_none {cont : Nat → Bool} : ∀ {n i : Nat}, stopAt cont i n = none ∨ stopAt cont i n = some (i + n)
  | 0, i => .inr rfl
  | n + 1, i => by
    simp only [stopAt]
    cases cont i with
    | true => simpa [Nat.add_comm 1 n, Nat.add_assoc] using stopAt_none (cont := cont) (n := n) (i := i + 1)
    | false => exact .inl rfl

theorem range_step {g : Operand} {ps : Array Tmp} {assign body : Code} {k : List Item} {fv : AV} {xs : List (List AV)} {cont : Nat → Bool} {jump : Code} (Bl : Option Nat → List Blk) (S1 : Nat → St)
    (hro : E.b.roundOf = none) (hk : E.b.kind = .normal) (hfv : evalO st.tmps g = fv) (hnr : noRef fv = true) (hit : IterF P fv xs) (hB0 : Bl (some 0) = st.blks) (hps : ∀ (i : Nat) x, xs[i]? = some x → x.length = ps.size)
    (hA : ∀ i x, xs[i]? = some x → (∀ j, j < i → cont j = true) → ∀ E', RoundE (st.tmps ++ E.gA) E' → E'.Fin = ToCfg (· = [.beginRound, .code body]) (· = S1 i) E' → G P E' [.code assign, .beginRound, .code body] ⟨putPs st.tmps ps.toList x, Bl (some i)⟩)
    (hB : ∀ i x, xs[i]? = some x → (∀ j, j < i → cont j = true) → ∀ E', RoundE (st.tmps ++ E.gA) E' → E'.Fin = ToCfg (fun K => if cont i = true then K = [] else isJump jump K) (fun st => st.blks = Bl (nxt cont i)) E' → G P E' [.code body] (S1 i))
    (hend : G P E (match stopAt cont 0 xs.length with | some _ => k | none => .code jump :: k) ⟨st.tmps, Bl (stopAt cont 0 xs.length)⟩) : G P E (.code (.rangeFunc g ps assign body) :: k) st := by
  intro C Z a w hr
  have hcf := evalO_sound hr.tmp g
  rw [hfv] at hcf
  have hTl : st.tmps.length = a.tmps.size := by simpa using hr.tmp.1
  obtain ⟨Ds, d1, d2, d3⟩ := hr.marks
  have hs0 := hr.mem.frame.size
  -- the record is laid
  have hen := run_enterLoop_outer (P := P) (w := w) E.b.fn a.tmps ps assign body
  generalize hW : (w.alloc (.deferred (some []))) = wa at hen
  have fa : Fr w (fun _ => False) wa := hW ▸ fr_alloc
  have sza : wa.heap.size = w.heap.size + 1 := by rw [← hW]; simp
  have hDa : wa.heap[w.heap.size]? = some (.deferred (some [])) := by rw [← hW]; exact World.alloc_heap_new w _
  obtain ⟨hma, hea⟩ := hr.mem.call fa
  generalize hL : ({ state := .ready, pending := none, fn := E.b.fn, tmps := a.tmps, params := ps, assign, body, defers := w.heap.size } : Loop) = r0 at hen
  generalize hWb : wa.alloc (.loop r0) = wb at hen
  have fb : Fr wa (fun _ => False) wb := hWb ▸ fr_alloc
  have hlb : wb.heap[w.heap.size + 1]? = some (.loop r0) := by rw [← hWb, ← sza]; exact World.alloc_heap_new wa _
  obtain ⟨hmb, heb⟩ := hma.keep fb (fun _ _ h => h) (fun _ _ h => h) (fun _ _ _ h => h)
  have zx : ∀ b, Zx Z w wa b ↔ (Z b ∨ b = w.heap.size) := fun b => by 
    unfold Zx; rw [sza]
    exact ⟨fun h => h.imp id (fun h => by omega), fun h => h.imp id (fun h => by omega)⟩
  have hlo : ∀ b, Own C b → b < w.heap.size := fun b ⟨k', o, h⟩ => (hr.mem.own k' b o h).1
  -- the sides
  let rec' : Option Nat → Loop := fun o => match o with
    | some _ => r0
    | none => { state := .done, pending := some jump, fn := E.b.fn, tmps := a.tmps, params := ps, assign, body, defers := w.heap.size }
  let ds : List Deferred := mark w.heap.size :: a.defers
  let Y : Option Nat → Sd := fun o F Kp w1 => RY E (w.heap.size + 1) a.tmps ds st.tmps rec' Bl o F Kp w1 ∧ ∀ i, o = some i → ∀ j, j < i → cont j = true
  have hY0 : Y (some 0) (fun b => Own C b ∨ b = w.heap.size + 1) (fun b => Zx Z w wa b ∨ b < E.w0.heap.size) wb := by
    refine ⟨⟨C, Zx Z w wa, by rw [hB0]; exact hmb, ((hr.tmp.app hr.gh).mono hea).mono heb, ⟨w.heap.size :: Ds, ?_, ?_, ?_⟩, hlb, ?_, ?_, by omega, fun _ => .rfl, fun _ => .rfl⟩, fun i hi j hj => by cases hi; omega⟩
    · refine List.nodup_cons.2 ⟨fun h => ?_, d1⟩
      have := hr.mem.zlt _ (d3 _ h).1
      omega
    · simp [ds, d2]
    · intro D hD
      rcases List.mem_cons.1 hD with rfl | hD
      · exact ⟨(zx _).2 (.inr rfl), .inr hs0, by rw [fb.same _ (by omega) (fun h => h)]; exact hDa⟩
      · have hlt := hr.mem.zlt _ (d3 _ hD).1
        exact ⟨(zx _).2 (.inl (d3 _ hD).1), (d3 _ hD).2.1, by rw [fb.same _ (by omega) (fun h => h), fa.same _ hlt (fun h => h)]; exact (d3 _ hD).2.2⟩
    · rw [zx]; rintro (h | h)
      · have := hr.mem.zlt _ h; omega
      · omega
    · intro h; have := hlo _ h; omega
  have hyl : Yields P (.func (.yield (w.heap.size + 1)) #[] #[]) Y cont xs := by
    intro i x hx F Kp w' hY cargs hca
    obtain ⟨hY, hpre⟩ := hY
    have hpre := hpre i rfl
    obtain ⟨l', fn', tm', asg', bd', q1, q2, q3⟩ := round_ok (E := E) (fn := E.b.fn) (tv := a.tmps) (T := st.tmps) (ps := ps) (assign := assign) (body := body) (D := w.heap.size) (jump := jump) (S1 := S1 i) hTl (hps i x hx) (fun _ => hL.symm) rfl (hA i x hx hpre) (hB i x hx hpre) hY hca
    refine ⟨l', fn', tm', asg', bd', q1, q2, fun c cs => ?_⟩
    obtain ⟨t, w2, ⟨h1, F', Kp', h2, h3⟩, h4⟩ := q3 c cs
    refine ⟨t, w2, ⟨h1, F', Kp', ⟨h2, fun i' hi' j hj => ?_⟩, h3⟩, h4⟩
    unfold nxt at hi'
    cases hc : cont i with
    | true =>
      rw [hc] at hi'; simp only [cond_true, Option.some.injEq] at hi'
      rcases Nat.lt_or_ge j i with h | h
      · exact hpre j h
      · have : j = i := by omega
        rw [this]; exact hc
    | false => rw [hc] at hi'; cases hi'
  -- the call
  have hcf0 : VR (Zx Z w wa) wb C0 fv (a.eval g) := ((hcf.mono hea).mono heb).ctx hnr
  obtain ⟨d, f, args', hd1, hd2, hcalls⟩ := hit (Zx Z w wa) wb (a.eval g) (.func (.yield (w.heap.size + 1)) #[] #[]) Y cont (fun _ => ⟨fun F Kp w h => RY.stable.lt F Kp w h.1, fun F Kp w Mi w' h h2 h3 => ⟨RY.stable.mv F Kp w Mi w' h.1 h2 h3, h.2⟩⟩) hyl (fun b => Own C b ∨ b = w.heap.size + 1) (fun b => Zx Z w wa b ∨ b < E.w0.heap.size)
    (fun b hb => ⟨hmb.zlt b hb, by
      rw [zx] at hb
      rintro (⟨k', o, h⟩ | h)
      · rcases hb with hb | hb
        · exact (hr.mem.own k' b o h).2.1 hb
        · have := (hr.mem.own k' b o h).1; omega
      · rcases hb with hb | hb
        · have := hr.mem.zlt b hb; omega
        · omega⟩) hcf0 hY0
  have hstep := stepR_rangeFunc (P := P) (b := E.b) (a := a) (k := k) (cs := E.cs) (w := w) (g := g) (ps := ps) (assign := assign) (body := body) (l := w.heap.size + 1) (mark := [{ target := .collected w.heap.size, args := #[] }]) (w₁ := wb) (w₁' := wb) (w₂ := wb) (d := d) (f := f) (args := args')
    (by rw [hro]; exact hen) (by
      have : a.eval (.const (.func (.yield (w.heap.size + 1)) #[] #[])) = .func (.yield (w.heap.size + 1)) #[] #[] := rfl
      simp only [rangeCall, resolve, List.map_toArray, List.map_cons, List.map_nil, this]; exact hd1) hd2
  obtain ⟨e, w', fr, ⟨v, rfl, F', Kp', ⟨C', Z', hm', hv', hds', hl', hzl', hol', hwl', hF', hK'⟩, -⟩, hsteps, -, hleave⟩ := hcalls (E.b.atR { a with defers := [{ target := .collected w.heap.size, args := #[] }] ++ a.defers } (.inRangeFunc (w.heap.size + 1) :: k) :: E.cs)
  refine .step (Steps.head hstep (hsteps.trans (.one (step_leave_returned hleave)))) ?_
  rw [finish_atR_inRangeFunc]
  -- the loop is left
  obtain ⟨hm2, he2⟩ := hm'.keep (fr_put (w := w') (l := w.heap.size + 1) (o := .loop { rec' (stopAt cont 0 xs.length) with state := .exhausted })) (fun b hb e => hol' (e ▸ hb)) (fun b hb e => hzl' (e ▸ hb)) (fun b hb _ e => by omega)
  have hleft := stepR_endRangeFunc (P := P) (b := E.b) (a := { a with defers := [{ target := .collected w.heap.size, args := #[] }] ++ a.defers }) (k := k) (cs := E.cs) (run_endLoop (P := P) hl' (by
    rcases stopAt_none (cont := cont) (n := xs.length) (i := 0) with h | h
    · rw [h]; show LoopState.done ≠ _; decide
    · rw [h]; show r0.state ≠ _; rw [← hL]; show LoopState.ready ≠ _; decide))
  refine .step (.one hleft) ?_
  have hsp := hv'.unapp (by simpa using hTl)
  have hgo := hend C' Z' { a with defers := [{ target := .collected w.heap.size, args := #[] }] ++ a.defers } _ ⟨hsp.1.mono he2, hm2, hds'.evo he2, hsp.2.mono he2⟩
  rcases stopAt_none (cont := cont) (n := xs.length) (i := 0) with h | h
  · rw [h] at hgo ⊢; exact hgo
  · rw [h] at hgo ⊢
    have hpend : (rec' (some (0 + xs.length))).pending = none := by show r0.pending = none; rw [← hL]
    have hnil : ((rec' (some (0 + xs.length))).pending.map Item.code).toList ++ k = k := by rw [hpend]; rfl
    rw [hnil]; exact hgo

end
end Ax

namespace Ax
open Go

section
variable {P : Program} {E : Env} {K K' : List Item} {st st' : St}

def denil (st : St) : List (Nat × Nat) → Option St
  | [] => some st
  | (t, sz) :: r => match st.tmps[t]? with
    | some .nilSl => denil ⟨st.tmps.set t (.sl st.blks.length 0 0 0 sz), st.blks ++ [⟨true, 0, sz, true, [], true⟩]⟩ r
    | _ => none

theorem denil_step : ∀ {ds : List (Nat × Nat)} {st st' : St}, denil st ds = some st' → G P E K st' → G P E K st
  | [], st, st', h, hg => by simp only [denil, Option.some.injEq] at h; subst h; exact hg
  | (t, sz) :: r, st, st', h, hg => by
    simp only [denil] at h
    split at h
    · rename_i ht
      have h1 := denil_step h hg
      intro C Z a w hr
      have hlt : t < a.tmps.size := by
        have := (List.getElem?_eq_some_iff.1 ht).1
        have h2 := hr.tmp.1
        simp at h2; omega
      have hv := hr.tmp.2 t .nilSl a.tmps[t] ht (by simp [hlt])
      generalize hc : a.tmps[t] = c at hv
      cases hv
      obtain ⟨C', Z', hle, hevo, hm, hv'⟩ := unborn_sl (a := none) (sz := sz) (fl := true) (idx := st.blks.length) hr.mem.push (by simp)
      have e : (Eff.new ⟨true, 0, sz, true, [], true⟩ (fun k => AV.sl k 0 0 0 sz)).blks st.blks.length (st.blks ++ [dead]) = st.blks ++ [⟨true, 0, sz, true, [], true⟩] := by simp [Eff.blks]
      rw [e] at hm
      have ht2 := hr.tmp.next hle hevo
      refine h1 C' Z' a w ⟨⟨by simpa using ht2.1, fun i x y p q => ?_⟩, hm, hr.marks.evo hevo, hr.gh.next hle hevo⟩
      rw [List.getElem?_set] at p
      split at p
      · rename_i e
        subst e
        split at p
        · cases p
          simp only [Array.getElem?_toList] at q
          rw [Array.getElem?_eq_getElem hlt, hc] at q
          cases q
          exact hv'
        · cases p
      · exact ht2.2 i x y p q
    · cases h

/-- To a loop's head: nil slices taken for slices, what is no more needed forgotten. -/
def segN (P : Program) (ds : List (Nat × Nat)) (live : List Nat) (m n : Nat) (K : List Item) (st : St) (evs : List EV) : Option (List Item × St × List Prop) :=
  match walk P n K st evs with
  | some (K', st', _, o1) => (match denil st' ds with
    | some st1 => (match weak live m st1 with
      | some st2 => some (K', st2, o1)
      | none => none)
    | none => none)
  | none => none

theorem segN_step {n m : Nat} {ds : List (Nat × Nat)} {live : List Nat} {evs : List EV} {obs : List Prop} (hk : E.b.kind = .normal) (hgh : refsBelows m E.gA = true) (hmx : P.follows .mixedOrders = true)
    (h : segN P ds live m n K st evs = some (K', st', obs)) (ho : AllP obs) (hg : G P E K' st') : G P E K st := by
  unfold segN at h
  split at h
  · rename_i K1 st1 evs1 o1 h1
    split at h
    · rename_i st2 h2
      split at h
      · rename_i st3 h3
        simp only [Option.some.injEq, Prod.mk.injEq] at h
        obtain ⟨rfl, rfl, rfl⟩ := h
        exact walk_step hk hmx h1 ho (denil_step h2 (weak_step hgh h3 hg))
      · cases h
    · cases h
  · cases h

theorem PureE.nogh {f : FuncId} {res : AV} (hE : PureE P f res E) (m : Nat) : refsBelows m E.gA = true := by rw [hE.2.2.2.2.1]; rfl
theorem IterE.nogh {f : FuncId} {xs : List (List AV)} {yv : Value} {Y : Option Nat → Sd} {cont : Nat → Bool} {e o : Option Nat} (hE : IterE P f xs yv Y cont e o E) (m : Nat) : refsBelows m E.gA = true := by rw [hE.gA]; rfl

end
end Ax

namespace Ax
open Go

/-- The place at the region behind 'r' others, by the tests' outcomes. -/
def kReg : Nat → List Item → List EV → Nat → List Item
  | 0, K, _, _ => K
  | n + 1, K, evs, r =>
    match K with
    | .code .skip :: k => kReg n k evs r
    | .inBlock _ :: k => kReg n k evs r
    | .code (.seq x y) :: k => kReg n (.code x :: .code y :: k) evs r
    | .code (.block id body) :: k => kReg n (.code body :: .inBlock id :: k) evs r
    | .code (.cond _ x y) :: k => (match evs with
      | .b u :: evs => kReg n (.code (bif u then x else y) :: k) evs r
      | _ => K)
    | .code (.region id ops d) :: k => (match r with
      | 0 => .code (.region id ops d) :: k
      | r + 1 => kReg n k evs r)
    | .inRegion .. :: k => kReg n k evs r
    | .code (.exit id) :: k => (match exitTo id k with
      | some k' => kReg n k' evs r
      | none => K)
    | .code (.loop body) :: k => kReg n (.code body :: .inLoop body :: k) evs r
    | .inLoop body :: k => kReg n (.code body :: .inLoop body :: k) evs r
    | K => K

def toOp (i : Nat) : List Item → List Item
  | .code (.region _ ops _) :: k => .inRegion ops (List.range' i (ops.size - i)) :: k
  | K => K

/-- A call of what was handed in. -/
def yieldA (K : List Item) (st : St) : Option (List Item × Option Nat × Value × List AV) :=
  match K with
  | .inRegion ops (i :: rest) :: k =>
    (match ops[i]? with
    | some o => (match o.op, wantedA ops st.tmps o with
      | .call { callee := .value f, args, argTypes := _ }, some true => (match evalO st.tmps f with
        | .opq v => some (.inRegion ops rest :: k, o.dst, v, args.toList.map (evalO st.tmps))
        | _ => none)
      | _, _ => none)
    | none => none)
  | _ => none

section
variable {P : Program} {E : Env} {K K' : List Item} {st st' : St}

theorem yield_stepA {f : FuncId} {xs : List (List AV)} {yv : Value} {Y : Option Nat → Sd} {cont : Nat → Bool} {e : Option Nat} {n : Nat} {x : List AV} {dst : Option Nat}
    (hE : IterE P f xs yv Y cont e (some n) E) (hx : xs[n]? = some x) (h : yieldA K st = some (K', dst, yv, x)) (hs : scalars x = true)
    (hg : ∀ E', IterE P f xs yv Y cont e (nxt cont n) E' → G P E' K' ⟨putA st.tmps dst (.bool (cont n)), st.blks⟩) : G P E K st := by
  unfold yieldA at h
  split at h
  · rename_i ops i rest k
    split at h
    · rename_i o ho
      split at h
      · rename_i fop args ats hop hw
        split at h
        · rename_i v hf
          simp only [Option.some.injEq, Prod.mk.injEq] at h
          obtain ⟨rfl, rfl, rfl, rfl⟩ := h
          exact yield_step hE hx ho hop hw hf rfl hs hg
        · cases h
      · cases h
    · cases h
  · cases h

def rfParts : List Item → Option (Operand × Array Tmp × Code × Code × List Item)
  | .code (.rangeFunc g ps assign body) :: k => some (g, ps, assign, body, k)
  | _ => none

def rfAssign (K : List Item) : Code := match rfParts K with
  | some (_, _, a, _, _) => a
  | none => .skip
def rfBody (K : List Item) : Code := match rfParts K with
  | some (_, _, _, b, _) => b
  | none => .skip
def rfRest (K : List Item) : List Item := match rfParts K with
  | some (_, _, _, _, k) => k
  | none => []

theorem range_stepA {fv : AV} {xs : List (List AV)} {cont : Nat → Bool} {jump : Code} {g : Operand} {ps : Array Tmp} (Bl : Option Nat → List Blk) (S1 : Nat → St)
    (hro : E.b.roundOf = none) (hk : E.b.kind = .normal) (hK : (rfParts K).map (fun r => (r.1, r.2.1)) = some (g, ps)) (hfv : evalO st.tmps g = fv) (hnr : noRef fv = true) (hit : IterF P fv xs) (hB0 : Bl (some 0) = st.blks)
    (hps : ∀ (i : Nat) x, xs[i]? = some x → x.length = ps.size)
    (hA : ∀ i x, xs[i]? = some x → (∀ j, j < i → cont j = true) → ∀ E', RoundE (st.tmps ++ E.gA) E' → E'.Fin = ToCfg (· = [.beginRound, .code (rfBody K)]) (· = S1 i) E' → G P E' [.code (rfAssign K), .beginRound, .code (rfBody K)] ⟨putPs st.tmps ps.toList x, Bl (some i)⟩)
    (hB : ∀ i x, xs[i]? = some x → (∀ j, j < i → cont j = true) → ∀ E', RoundE (st.tmps ++ E.gA) E' → E'.Fin = ToCfg (fun K => if cont i = true then K = [] else isJump jump K) (fun st => st.blks = Bl (nxt cont i)) E' → G P E' [.code (rfBody K)] (S1 i))
    (hend : G P E (match stopAt cont 0 xs.length with | some _ => rfRest K | none => .code jump :: rfRest K) ⟨st.tmps, Bl (stopAt cont 0 xs.length)⟩) : G P E K st := by
  unfold rfParts at hK
  split at hK
  · rename_i g' ps' assign body k
    simp only [Option.map_some, Option.some.injEq, Prod.mk.injEq] at hK
    obtain ⟨rfl, rfl⟩ := hK
    exact range_step Bl S1 hro hk hfv hnr hit hB0 hps hA hB hend
  · simp at hK

end
end Ax

namespace Ax
open Go

section
variable {P : Program} {E : Env} {K K' : List Item} {st st' : St}

theorem Ctx.put_same (C : Ctx) (k : Nat) : C.put k (C.β k) (C.γ k) = C := by
  cases C with
  | mk β γ =>
    unfold Ctx.put
    congr 1 <;> funext j <;> by_cases e : j = k <;> simp [e]

theorem denilC_step {k j sz : Nat} {b : Blk} (hk : st.blks[k]? = some b) (hl : b.live = true) (hj : b.cells[j]? = some .nilSl)
    (hg : G P E K ⟨st.tmps, (st.blks ++ [(⟨true, 0, sz, true, [], true⟩ : Blk)]).set k { b with flat := false, cells := b.cells.set j (.sl st.blks.length 0 0 0 sz) }⟩) : G P E K st := by
  intro C Z a w hr
  obtain ⟨C', Z', hle, hevo, hm, hv'⟩ := unborn_sl (a := none) (sz := sz) (fl := true) (idx := st.blks.length) hr.mem.push (by simp)
  have e : (Eff.new ⟨true, 0, sz, true, [], true⟩ (fun k => AV.sl k 0 0 0 sz)).blks st.blks.length (st.blks ++ [dead]) = st.blks ++ [⟨true, 0, sz, true, [], true⟩] := by simp [Eff.blks]
  rw [e] at hm
  have hkl : k < st.blks.length := (List.getElem?_eq_some_iff.1 hk).1
  have hk' : (st.blks ++ [(⟨true, 0, sz, true, [], true⟩ : Blk)])[k]? = some b := by rw [List.getElem?_append_left hkl]; exact hk
  have hgen := hm.gen k b hk'
  have hbk := hm.blk k b hk' hl
  have hc := hm.change (b' := { b with flat := false, cells := b.cells.set j (.sl st.blks.length 0 0 0 sz) }) (w' := w) (s := C'.β k) (g := C'.γ k) hk' rfl rfl rfl (Nat.le_refl _) (fun _ _ _ => rfl)
    (fun blk o arr e _ h => ⟨arr, h, rfl⟩) (Nat.le_refl _) (fun _ _ => rfl) hl hgen.symm (fun blk o h => .inl ⟨o, h⟩) (fun hle' hevo' _ => by
      obtain ⟨q1, q2⟩ := hbk
      refine ⟨fun i c hi => ?_, ?_⟩
      · rw [List.getElem?_set] at hi
        split at hi
        · split at hi
          · cases hi; rfl
          · cases hi
        · exact q1 i c hi
      · rw [Ctx.put_same]
        cases hs : C'.β k with
        | absent => simp [hs] at q2
        | unborn => simp only [hs] at q2; rw [q2] at hj; simp at hj
        | loc blk o =>
          simp only [hs] at q2 ⊢
          obtain ⟨arr, te, r1, r2, r3⟩ := q2
          refine ⟨arr, te, r1, by simpa using r2, fun i c hi => ?_⟩
          simp only [Bool.false_eq_true, if_false]
          rw [List.getElem?_set] at hi
          split at hi
          · rename_i eij
            subst eij
            split at hi
            · cases hi
              obtain ⟨v, s1, s2⟩ := r3 j .nilSl hj
              refine ⟨v, s1, ?_⟩
              have : v = .slice none 0 0 := by
                cases hf : b.flat with
                | true => rw [hf] at s2; simp only [if_true] at s2; cases s2; rfl
                | false => rw [hf] at s2; simp only [Bool.false_eq_true, if_false] at s2; cases s2; rfl
              rw [this]
              exact hv'.mono ⟨fun _ h => h, fun _ _ => rfl, fun _ _ _ arr _ _ h => ⟨arr, h, rfl⟩⟩
            · cases hi
          · obtain ⟨v, s1, s2⟩ := r3 i c hi
            refine ⟨v, s1, ?_⟩
            cases hf : b.flat with
            | true => rw [hf] at s2; simp only [if_true] at s2; exact s2.of0
            | false => rw [hf] at s2; simpa using s2)
  rw [Ctx.put_same] at hc
  exact hg C' Z' a w ⟨hr.tmp.next hle hevo, hc.1, hr.marks.evo hevo, hr.gh.next hle hevo⟩

end
end Ax

namespace Ax
open Go

theorem bnT {e : Bool} (h : (!e) = true) : e = false := by cases e <;> simp_all
theorem bnF {e : Bool} (h : (!e) = false) : e = true := by cases e <;> simp_all
theorem bneT {a b : Int} (h : (a != b) = true) : ¬ (a = b) := by simpa using h
theorem bneF {a b : Int} (h : (a != b) = false) : a = b := by simpa using h

def cI (n : Int) : List AV := [.int .i64 n]
section
variable {α : Type} (f : α → List AV) {s : Nat}

theorem row_len (hf : ∀ a, (f a).length = s) : ∀ l : List α, (l.flatMap f).length = l.length * s
  | [] => by simp
  | a :: l => by rw [List.flatMap_cons, List.length_append, row_len hf l, hf, List.length_cons, Nat.add_mul]; omega

theorem row_drop (hf : ∀ a, (f a).length = s) : ∀ {l : List α} {i : Nat} {a : α} {k : Nat}, l[i]? = some a → k ≤ s →
    (l.flatMap f).drop (0 + i * s + k) = (f a).drop k ++ (l.drop (i + 1)).flatMap f
  | [], i, a, k, h, _ => by simp at h
  | b :: l, 0, a, k, h, hk => by
    simp only [List.getElem?_cons_zero, Option.some.injEq] at h
    subst h
    rw [List.flatMap_cons, List.drop_append_of_le_length (by rw [hf]; omega)]
    simp
  | b :: l, i + 1, a, k, h, hk => by
    simp only [List.getElem?_cons_succ] at h
    rw [List.flatMap_cons, show 0 + (i + 1) * s + k = (f b).length + (0 + i * s + k) by rw [hf b, Nat.add_mul]; omega, List.drop_length_add_append]
    exact row_drop hf h hk

theorem row_part (hf : ∀ a, (f a).length = s) {k m : Nat} (hk : k + m ≤ s) {l : List α} {i : Nat} {a : α} (h : l[i]? = some a) :
    ((l.flatMap f).drop (0 + i * s + k)).take m = ((f a).drop k).take m := by
  rw [row_drop f hf h (by omega), List.take_append_of_le_length (by rw [List.length_drop, hf]; omega)]

theorem row_app (a b : List α) : (a ++ b).flatMap f = a.flatMap f ++ b.flatMap f := by simp

end

theorem idx_ok {α : Type} {l : List α} {i : Nat} {a : α} (h : l[i]? = some a) : (0 : Int) ≤ (i : Int) ∧ (i : Int) < (l.length : Int) := by
  have := (List.getElem?_eq_some_iff.1 h).1; omega
theorem idx_ok' {α : Type} {l : List α} {i : Int} {a : α} (h0 : 0 ≤ i) (h : l[Int.toNat i]? = some a) : 0 ≤ i ∧ i < (l.length : Int) := by
  have := (List.getElem?_eq_some_iff.1 h).1; omega

section
variable {P : Program} {E : Env} {K K' : List Item} {st st' : St}

def denilC (st : St) : List (Nat × Nat × Nat) → Option St
  | [] => some st
  | (k, j, sz) :: r => match st.blks[k]? with
    | some b => (match b.live, b.cells[j]? with
      | true, some .nilSl => denilC ⟨st.tmps, (st.blks ++ [(⟨true, 0, sz, true, [], true⟩ : Blk)]).set k { b with flat := false, cells := b.cells.set j (.sl st.blks.length 0 0 0 sz) }⟩ r
      | _, _ => none)
    | none => none

theorem denilCs_step : ∀ {ds : List (Nat × Nat × Nat)} {st st' : St}, denilC st ds = some st' → G P E K st' → G P E K st
  | [], st, st', h, hg => by simp only [denilC, Option.some.injEq] at h; subst h; exact hg
  | (k, j, sz) :: r, st, st', h, hg => by
    simp only [denilC] at h
    split at h
    · rename_i b hb
      split at h
      · rename_i hl hj
        exact denilC_step hb hl hj (denilCs_step h hg)
      · cases h
    · cases h

def segC (P : Program) (ds : List (Nat × Nat)) (cs : List (Nat × Nat × Nat)) (live : List Nat) (m n : Nat) (K : List Item) (st : St) (evs : List EV) : Option (List Item × St × List Prop) :=
  match walk P n K st evs with
  | some (K', st', _, o1) => (match denil st' ds with
    | some st1 => (match denilC st1 cs with
      | some st1 => (match weak live m st1 with
        | some st2 => some (K', st2, o1)
        | none => none)
      | none => none)
    | none => none)
  | none => none

theorem segC_step {n m : Nat} {ds : List (Nat × Nat)} {cs : List (Nat × Nat × Nat)} {live : List Nat} {evs : List EV} {obs : List Prop} (hk : E.b.kind = .normal) (hgh : refsBelows m E.gA = true) (hmx : P.follows .mixedOrders = true)
    (h : segC P ds cs live m n K st evs = some (K', st', obs)) (ho : AllP obs) (hg : G P E K' st') : G P E K st := by
  unfold segC at h
  split at h
  · rename_i K1 st1 evs1 o1 h1
    split at h
    · rename_i st2 h2
      split at h
      · rename_i st3 h3
        split at h
        · rename_i st4 h4
          simp only [Option.some.injEq, Prod.mk.injEq] at h
          obtain ⟨rfl, rfl, rfl⟩ := h
          exact walk_step hk hmx h1 ho (denil_step h2 (denilCs_step h3 (weak_step hgh h4 hg)))
        · cases h
      · cases h
    · cases h
  · cases h

end
end Ax

namespace Ax
open Go

/-- Goes through a list until a step says to stop. -/
def foldStop {σ X : Type} (step : σ → X → σ × Bool) : σ → List X → σ × Bool
  | s, [] => (s, true)
  | s, x :: xs => bif (step s x).2 then foldStop step (step s x).1 xs else ((step s x).1, false)

section
variable {σ X : Type} (step : σ → X → σ × Bool)

theorem foldStop_app : ∀ (s : σ) (a b : List X), foldStop step s (a ++ b) = bif (foldStop step s a).2 then foldStop step (foldStop step s a).1 b else foldStop step s a
  | s, [], b => rfl
  | s, x :: a, b => by
    simp only [List.cons_append, foldStop]
    cases (step s x).2 with
    | true => simpa using foldStop_app _ a b
    | false => rfl

theorem foldStop_take {s : σ} {L : List X} {i : Nat} {x : X} (h : L[i]? = some x) : foldStop step s (L.take (i + 1)) = bif (foldStop step s (L.take i)).2 then step (foldStop step s (L.take i)).1 x else foldStop step s (L.take i) := by
  rw [List.take_add_one, h, Option.toList, foldStop_app]
  cases (foldStop step s (L.take i)).2 with
  | false => rfl
  | true =>
    simp only [cond_true, foldStop]
    generalize step (foldStop step s (L.take i)).1 x = r
    obtain ⟨a, b⟩ := r
    cases b <;> rfl

def stAt (s : σ) (L : List X) (i : Nat) : σ := (foldStop step s (L.take i)).1
def contAt (s : σ) (L : List X) (i : Nat) : Bool := match L[i]? with
  | some x => (step (stAt step s L i) x).2
  | none => true

theorem all_cont {s : σ} {L : List X} : ∀ {i : Nat}, i ≤ L.length → (∀ j, j < i → contAt step s L j = true) → (foldStop step s (L.take i)).2 = true
  | 0, _, _ => rfl
  | i + 1, hi, h => by
    have ih := all_cont (i := i) (by omega) (fun j hj => h j (by omega))
    have hx : L[i]? = some L[i] := by simp [show i < L.length by omega]
    rw [foldStop_take step hx, ih, cond_true]
    have := h i (by omega)
    unfold contAt at this
    rw [hx] at this
    exact this

theorem stop_fold {s : σ} {L : List X} : ∀ (d i : Nat), i + d = L.length → (foldStop step s (L.take i)).2 = true →
    (stopAt (contAt step s L) i d = some L.length ∧ (foldStop step s L).2 = true) ∨ (stopAt (contAt step s L) i d = none ∧ (foldStop step s L).2 = false)
  | 0, i, h, h2 => .inl ⟨by simp only [stopAt]; rw [show i = L.length by omega], by rw [List.take_of_length_le (by omega)] at h2; exact h2⟩
  | d + 1, i, h, h2 => by
    have hx : L[i]? = some L[i] := by simp [show i < L.length by omega]
    have h3 := foldStop_take step (s := s) hx
    rw [h2, cond_true] at h3
    have hc : contAt step s L i = (step (stAt step s L i) L[i]).2 := by unfold contAt; rw [hx]
    simp only [stopAt]
    cases h4 : contAt step s L i with
    | true =>
      simp only [cond_true]
      exact stop_fold d (i + 1) (by omega) (by rw [h3]; rw [hc] at h4; exact h4)
    | false =>
      refine .inr ⟨rfl, ?_⟩
      rw [hc] at h4
      have h5 : foldStop step s L = foldStop step s (L.take (i + 1)) := by
        have : L = L.take (i + 1) ++ L.drop (i + 1) := (List.take_append_drop _ _).symm
        rw [this, foldStop_app]
        have e : (L.take (i + 1) ++ L.drop (i + 1)).take (i + 1) = L.take (i + 1) := by rw [List.take_append_drop]
        rw [e, h3]
        unfold stAt at h4
        rw [h4]; rfl
      rw [h5, h3]; exact h4

end

theorem foldStop_go {σ X : Type} (f : σ → X → σ) : ∀ (L : List X) (s : σ), foldStop (fun s x => (f s x, true)) s L = (L.foldl f s, true)
  | [], s => rfl
  | x :: L, s => by simp only [foldStop, cond_true, List.foldl_cons]; exact foldStop_go f L _

/-- The end of a round: what comes of it. -/
def RoundR {σ : Type} (Bl : σ → List Blk) (jump : Code) (r : σ × Bool) (E : Env) : Prop :=
  E.Fin = ToCfg (fun K => if r.2 = true then K = [] else isJump jump K) (fun st => st.blks = Bl r.1) E

section
variable {P : Program} {E : Env} {K K' : List Item} {st st' : St}

theorem round_go {σ : Type} {Bl : σ → List Blk} {jump : Code} {r : σ × Bool} {s' : σ} (hQ : RoundR Bl jump r E) (hr : r = (s', true)) (hs : st.blks = Bl s') : G P E [] st := by
  subst hr
  exact G_here hQ (by simp) hs

theorem range_fold {σ X : Type} {fv : AV} {arg : X → List AV} {L : List X} {jump : Code} {g : Operand} {ps : Array Tmp} (Bl : σ → List Blk) (S1 : σ → X → St) (step : σ → X → σ × Bool) (s0 : σ)
    (hro : E.b.roundOf = none) (hk : E.b.kind = .normal) (hK : (rfParts K).map (fun r => (r.1, r.2.1)) = some (g, ps)) (hfv : evalO st.tmps g = fv) (hnr : noRef fv = true) (hit : IterF P fv (L.map arg)) (hB0 : Bl s0 = st.blks)
    (hps : ∀ x, (arg x).length = ps.size)
    (hA : ∀ s x, ∀ E', RoundE (st.tmps ++ E.gA) E' → G P E' [.beginRound, .code (rfBody K)] (S1 s x) → G P E' [.code (rfAssign K), .beginRound, .code (rfBody K)] ⟨putPs st.tmps ps.toList (arg x), Bl s⟩)
    (hB : ∀ i x s, L[i]? = some x → foldStop step s0 (L.take i) = (s, true) → ∀ E', RoundE (st.tmps ++ E.gA) E' → RoundR Bl jump (step s x) E' → G P E' [.code (rfBody K)] (S1 s x))
    (hend : ∀ s, foldStop step s0 L = (s, true) → G P E (rfRest K) ⟨st.tmps, Bl s⟩)
    (hjmp : ∀ s, foldStop step s0 L = (s, false) → G P E (.code jump :: rfRest K) ⟨st.tmps, Bl s⟩) : G P E K st := by
  have hget : ∀ {i : Nat} {a : List AV}, (L.map arg)[i]? = some a → ∃ x, L[i]? = some x ∧ a = arg x := by
    intro i a h
    simp only [List.getElem?_map, Option.map_eq_some_iff] at h
    obtain ⟨c, h1, h2⟩ := h
    exact ⟨c, h1, h2.symm⟩
  refine range_stepA (cont := contAt step s0 L) (jump := jump) (g := g) (ps := ps) (fun o => match o with
      | some i => Bl (stAt step s0 L i)
      | none => Bl (foldStop step s0 L).1) (fun i => match L[i]? with
      | some x => S1 (stAt step s0 L i) x
      | none => st) hro hk hK hfv hnr hit hB0 (fun i a h => ?_) (fun i a h hpre E' hR hfin => ?_) (fun i a h hpre E' hR hfin => ?_) ?_
  · obtain ⟨x, h1, rfl⟩ := hget h; exact hps x
  · obtain ⟨x, h1, rfl⟩ := hget h
    simp only [h1] at hfin
    exact hA _ x E' hR (G_here hfin rfl rfl)
  · obtain ⟨x, h1, rfl⟩ := hget h
    simp only [h1]
    have hi : i ≤ L.length := Nat.le_of_lt (List.getElem?_eq_some_iff.1 h1).1
    have hall := all_cont step hi hpre
    have hst : foldStop step s0 (L.take i) = (stAt step s0 L i, true) := by
      unfold stAt
      rw [← hall]
    have hc : contAt step s0 L i = (step (stAt step s0 L i) x).2 := by unfold contAt; rw [h1]
    have h3 := foldStop_take step (s := s0) h1
    rw [hall, cond_true] at h3
    refine hB i x _ h1 hst E' hR ?_
    unfold RoundR
    rw [hfin, hc]
    congr 1
    funext st1
    congr 1
    unfold nxt
    rw [hc]
    cases h4 : (step (stAt step s0 L i) x).2 with
    | true => simp only [cond_true]; unfold stAt; rw [h3]
    | false =>
      simp only [cond_false]
      have h5 : foldStop step s0 L = foldStop step s0 (L.take (i + 1)) := by
        have : L = L.take (i + 1) ++ L.drop (i + 1) := (List.take_append_drop _ _).symm
        rw [this, foldStop_app]
        have e : (L.take (i + 1) ++ L.drop (i + 1)).take (i + 1) = L.take (i + 1) := by rw [List.take_append_drop]
        rw [e, h3]
        unfold stAt at h4
        rw [h4]; rfl
      rw [h5, h3]; rfl
  · have hlen : (L.map arg).length = L.length := by simp
    rw [hlen]
    rcases stop_fold step (s := s0) (L := L) L.length 0 (by omega) rfl with ⟨h1, h2⟩ | ⟨h1, h2⟩
    · rw [h1]
      have : stAt step s0 L L.length = (foldStop step s0 L).1 := by unfold stAt; rw [List.take_of_length_le (Nat.le_refl _)]
      simp only [this]
      exact hend _ (by rw [← h2])
    · rw [h1]; exact hjmp _ (by rw [← h2])

end
end Ax

namespace Ax
open Go Go.ChangeShapes Go.WideShapes Go.RowKit

abbrev Old (W : World) (b : Nat) : Prop := b < W.heap.size

/-- What is read as of this type stands for typed data. -/
def Dec (P : Program) (W : World) (t : TypeId) (T : Type) (F : T → List AV) (Q : T → Prop) : Prop :=
  ∀ (H : Type) (enc : TypeId × Value → H) (sp : Nat → Bool) (held : Bool) (fuel : Nat) (cs : List Value) (x : DataW H × List MemPlace),
    DataW.trod enc P W 0 sp held fuel t cs = some x → ∃ a, Q a ∧ VRs (Old W) W C0 (F a) cs

/-- The same for the fields from one on; 'off' is where they begin. -/
def DecFs (P : Program) (W : World) (fs : List Field) (off : Nat) (T : Type) (F : T → List AV) (Q : T → Prop) (tot : Nat) : Prop :=
  ∀ (H : Type) (enc : TypeId × Value → H) (sp : Nat → Bool) (held : Bool) (fuel : Nat) (cs : List Value), cs.length = tot →
    (∀ f ∈ fs, ∃ x, DataW.trod enc P W 0 sp held fuel f.type ((cs.drop f.offset).take (P.cellsOf f.type)) = some x) → ∃ a, Q a ∧ VRs (Old W) W C0 (F a) (cs.drop off)

section
variable {P : Program} {W : World} {t e : TypeId}

theorem VRs.one1 {Z : Nat → Prop} {w : World} {C : Ctx} {a : AV} {c : Value} (h : VR Z w C a c) : VRs Z w C [a] [c] :=
  ⟨rfl, fun i x y p q => by
    cases i with
    | zero => simp at p q; subst p; subst q; exact h
    | succ i => simp at p⟩

theorem dec_int {k : IntKind} (ht : P.underlying t = some (.int k)) : Dec P W t Int (fun n => [.int k n]) (fun n => k.min ≤ n ∧ n ≤ k.max) := by
  intro H enc sp held fuel cs x h
  obtain ⟨n, rfl, -, hw⟩ := DataW.trod_int ht h
  simp only [Lit.wf, Bool.and_eq_true, decide_eq_true_eq] at hw
  exact ⟨n, hw, VRs.one1 (.int _ _)⟩

theorem dec_i64 (ht : P.underlying t = some (.int .i64)) : Dec P W t Int cI (fun n => InR .i64 n) := by
  intro H enc sp held fuel cs x h
  obtain ⟨n, hn, hv⟩ := dec_int ht H enc sp held fuel cs x h
  exact ⟨n, by simpa [InR, IntKind.min, IntKind.max, IntKind.signed, IntKind.bits] using hn, hv⟩

theorem Dec.map {T S : Type} {F : T → List AV} {Q : T → Prop} {F' : S → List AV} {Q' : S → Prop} (h : Dec P W t T F Q) (g : T → S) (hF : ∀ a, F' (g a) = F a) (hQ : ∀ a, Q a → Q' (g a)) : Dec P W t S F' Q' := by
  intro H enc sp held fuel cs x hx
  obtain ⟨a, q, v⟩ := h H enc sp held fuel cs x hx
  exact ⟨g a, hQ a q, by rw [hF]; exact v⟩

theorem decFs_nil {tot : Nat} : DecFs P W [] tot Unit (fun _ => []) (fun _ => True) tot := by
  intro H enc sp held fuel cs hl _
  exact ⟨(), trivial, by rw [List.drop_of_length_le (by omega)]; exact ⟨rfl, fun i x y p q => by simp at p⟩⟩

theorem decFs_cons {f : Field} {fs : List Field} {off n tot : Nat} {A B : Type} {FA : A → List AV} {QA : A → Prop} {FB : B → List AV} {QB : B → Prop} (hn : P.cellsOf f.type = n) (ho : f.offset = off)
    (D : Dec P W f.type A FA QA) (R : DecFs P W fs (off + n) B FB QB tot) (hle : off + n ≤ tot) : DecFs P W (f :: fs) off (A × B) (fun p => FA p.1 ++ FB p.2) (fun p => QA p.1 ∧ QB p.2) tot := by
  intro H enc sp held fuel cs hl h
  obtain ⟨x, hx⟩ := h f (by simp)
  obtain ⟨a, qa, va⟩ := D H enc sp held fuel _ x hx
  obtain ⟨b, qb, vb⟩ := R H enc sp held fuel cs hl fun g hg => h g (by simp [hg])
  rw [hn, ho] at va
  refine ⟨(a, b), ⟨qa, qb⟩, ?_⟩
  have e : cs.drop off = (cs.drop off).take n ++ cs.drop (off + n) := by
    rw [← List.drop_drop]; exact (List.take_append_drop _ _).symm
  rw [e]
  exact va.app vb

theorem dec_struct {fs : Array Field} {T : Type} {F : T → List AV} {Q : T → Prop} {l : List Field} {tot : Nat} (ht : P.underlying t = some (.struct fs)) (hl : fs.toList = l) (hc : P.cellsOf t = tot) (h : DecFs P W l 0 T F Q tot) : Dec P W t T F Q := by
  intro H enc sp held fuel cs x hx
  obtain ⟨xs, n, -, -, h1, h2, h3⟩ := DataW.trod_struct ht hx
  obtain ⟨a, q, v⟩ := h H enc sp held n cs (by rw [h1, hc]) fun f hf => by
    rw [← hl] at hf
    obtain ⟨i, hi⟩ := List.mem_iff_getElem?.1 hf
    have := h3 i f (by simpa using hi)
    have hlt : i < xs.length := by rw [h2]; have := (List.getElem?_eq_some_iff.1 hi).1; simpa using this
    exact ⟨xs[i], by rw [this]; simp [hlt]⟩
  exact ⟨a, q, by simpa using v⟩

theorem cells_get {W : World} {a : Addr} {n : Nat} {cs : List Value} (h : W.cells? 0 a n = some cs) : cs.length = n ∧ ∀ i, i < n → W.cell? (a.add i) = cs[i]? := by
  unfold World.cells? at h
  rw [if_pos (Nat.zero_le _)] at h
  have key : ∀ (n k : Nat) (cs : List Value), ((List.range' k n).mapM fun i => W.cell? (a.add i)) = some cs → cs.length = n ∧ ∀ i, i < n → W.cell? (a.add (k + i)) = cs[i]? := by
    intro n
    induction n with
    | zero => intro k cs h; simp at h; subst h; simp
    | succ n ih =>
      intro k cs h
      rw [List.range'_succ, List.mapM_cons] at h
      simp only [Option.bind_eq_bind, Option.bind_eq_some_iff, Option.pure_def, Option.some.injEq] at h
      obtain ⟨c, h1, cs', h2, rfl⟩ := h
      obtain ⟨i1, i2⟩ := ih (k + 1) cs' h2
      refine ⟨by simp [i1], fun i hi => ?_⟩
      cases i with
      | zero => simpa using h1
      | succ i => rw [show k + (i + 1) = k + 1 + i by omega, i2 i (by omega)]; simp
  have := key n 0 cs (by rw [← List.range_eq_range']; exact h)
  simpa using this

theorem list_of {T : Type} {Q : Nat → T → Prop} : ∀ (n k : Nat), (∀ i, k ≤ i → i < k + n → ∃ a, Q i a) → ∃ l : List T, l.length = n ∧ ∀ i a, l[i]? = some a → Q (k + i) a
  | 0, k, _ => ⟨[], rfl, by simp⟩
  | n + 1, k, h => by
    obtain ⟨a, ha⟩ := h k (Nat.le_refl _) (by omega)
    obtain ⟨l, hl, hq⟩ := list_of n (k + 1) fun i h1 h2 => h i (by omega) (by omega)
    refine ⟨a :: l, by simp [hl], fun i b hb => ?_⟩
    cases i with
    | zero => simp at hb; subst hb; exact ha
    | succ i => simp at hb; have := hq i b hb; rw [show k + (i + 1) = k + 1 + i by omega]; exact this

theorem dec_slice {T : Type} {F : T → List AV} {Q : T → Prop} {n : Nat} (ht : P.underlying t = some (.slice e)) (hc : P.cellsOf e = n) (hn : 0 < n) (hF : ∀ a, (F a).length = n) (hk : ∀ a, cellsOk (F a) = true) (D : Dec P W e T F Q) :
    Dec P W t (List T) (fun l => [.rsl (l.flatMap F) 0 l.length]) (fun l => l.length ≤ 9223372036854775807 ∧ ∀ a ∈ l, Q a) := by
  intro H enc sp held fuel cs x h
  rcases DataW.trod_slice ht h with ⟨rfl, -⟩ | ⟨a, len, cap, elems, rest, m, -, rfl, -, -, h1, h2, h3, h4, -, -⟩
  · exact ⟨[], ⟨by simp, by simp⟩, VRs.one1 .rsl0⟩
  have hel : ∀ i, i < len → ∃ b, Q b ∧ ∃ vs, W.cells? 0 (a.add (i * n)) n = some vs ∧ VRs (Old W) W C0 (F b) vs := by
    intro i hi
    have := h4 i hi
    rw [hc, List.getElem?_eq_getElem (by omega)] at this
    obtain ⟨vs, g1, g2⟩ := Option.bind_eq_some_iff.1 this
    obtain ⟨b, qb, vb⟩ := D H enc sp held m vs _ g2
    exact ⟨b, qb, vs, g1, vb⟩
  obtain ⟨l, hl, hq⟩ := list_of (Q := fun i b => Q b ∧ ∃ vs, W.cells? 0 (a.add (i * n)) n = some vs ∧ VRs (Old W) W C0 (F b) vs) len 0 fun i _ hi => hel i (by omega)
  refine ⟨l, ⟨by rw [hl]; unfold maxLen at h2; omega, fun b hb => ?_⟩, VRs.one1 ?_⟩
  · obtain ⟨i, hi⟩ := List.mem_iff_getElem?.1 hb
    exact (hq i b hi).1
  rcases Nat.eq_zero_or_pos len with h0 | h0
  · subst h0
    obtain rfl : l = [] := List.length_eq_zero_iff.1 hl
    exact .rsl0
  have hcell : ∀ j, j < len * n → ∃ v, W.cell? ⟨a.block, a.off + j, none⟩ = some v ∧ ∃ c, (l.flatMap F)[j]? = some c ∧ VR (Old W) W C0 c v ∧ isCell c = true ∧ a.spot = none := by
    intro j hj
    have hi : j / n < len := by rw [Nat.div_lt_iff_lt_mul hn]; exact hj
    have hm : j % n < n := Nat.mod_lt _ hn
    have hb : l[j / n]? = some l[j / n] := by simp [hl, hi]
    obtain ⟨-, vs, g1, g2⟩ := hq _ _ hb
    rw [Nat.zero_add] at g1
    obtain ⟨g3, g4⟩ := cells_get g1
    have g5 := g4 (j % n) hm
    have hv : vs[j % n]? = some vs[j % n] := by simp [g3, hm]
    rw [hv] at g5
    have hdm : j / n * n + j % n = j := by rw [Nat.mul_comm]; exact Nat.div_add_mod j n
    have hspot : a.spot = none := by
      have g6 := g4 0 hn
      rw [List.getElem?_eq_getElem (by omega)] at g6
      have hfirst : ∃ v0, W.cell? a = some v0 := by
        have hb0 : l[0]? = some l[0] := by simp [hl, h0]
        obtain ⟨-, vs0, k1, -⟩ := hq _ _ hb0
        obtain ⟨k3, k4⟩ := cells_get k1
        have k5 := k4 0 hn
        rw [List.getElem?_eq_getElem (by omega)] at k5
        exact ⟨_, by simpa [Addr.add] using k5⟩
      obtain ⟨v0, hv0⟩ := hfirst
      unfold World.cell? at hv0
      split at hv0
      · split at hv0
        · cases hv0
        · rename_i hsp; simpa using hsp
      · cases hv0
    have haddr : (a.add (j / n * n)).add (j % n) = ⟨a.block, a.off + j, none⟩ := by
      obtain ⟨ab, ao, asp⟩ := a
      simp only at hspot
      subst hspot
      unfold Addr.add
      split <;> split <;> simp_all <;> omega
    rw [haddr] at g5
    refine ⟨_, g5, ?_⟩
    have hrow := row_drop F hF (k := j % n) hb (by omega)
    have e1 : (l.flatMap F)[j]? = (F l[j / n])[j % n]? := by
      have := congrArg (fun l => l[0]?) hrow
      simp only [List.getElem?_drop, Nat.add_zero] at this
      rw [show 0 + j / n * n + j % n = j by omega] at this
      rw [this, List.getElem?_append_left (by rw [List.length_drop, hF]; omega), List.getElem?_drop, Nat.add_zero]
    have hF1 : (F l[j / n])[j % n]? = some ((F l[j / n])[j % n]'(by rw [hF]; exact hm)) := by simp [hF, hm]
    refine ⟨_, e1.trans hF1, g2.2 _ _ _ hF1 hv, cellsOk_get (hk _) hF1, hspot⟩
  have hrl : (l.flatMap F).length = len * n := by rw [row_len F hF, hl]
  obtain ⟨v0, c0, -, -, -, -, hspot⟩ := hcell 0 (Nat.mul_pos h0 hn)
  have haa : a = ⟨a.block, 0 + a.off, none⟩ := by
    obtain ⟨ab, ao, asp⟩ := a
    simp only at hspot ⊢
    subst hspot; simp
  have hblk : a.block < W.heap.size := by
    unfold World.cell? at c0
    split at c0
    · rename_i heq; exact (Array.getElem?_eq_some_iff.1 heq).1
    · cases c0
  rw [← hl]
  have hval : Value.slice (some a) l.length cap = Value.slice (some ⟨a.block, a.off + 0, none⟩) l.length cap := by
    congr 2
    rw [haa]; simp
  rw [hval]
  refine .rsl (o := a.off) (fun i => (W.cell? ⟨a.block, a.off + i, none⟩).getD undef) hblk (by omega) (fun i hi => ?_) (fun i c hc => ?_) (fun i c hc => ?_)
  · obtain ⟨v, h5, -⟩ := hcell i (by omega)
    rw [h5]; rfl
  · obtain ⟨v, -, c', h6, -, h7, -⟩ := hcell i (by have := (List.getElem?_eq_some_iff.1 hc).1; omega)
    rw [hc] at h6; cases h6; exact h7
  · obtain ⟨v, h5, c', h6, h7, -, -⟩ := hcell i (by have := (List.getElem?_eq_some_iff.1 hc).1; omega)
    rw [hc] at h6; cases h6; rw [h5]; exact h7

/-! ### A law's arguments -/
/-- One argument. -/
def DecA (P : Program) (W : World) (t : TypeId) (T : Type) (F : T → AV) (Q : T → Prop) : Prop :=
  ∀ (H : Type) (enc : TypeId × Value → H) (base : Nat) (v : Value) (d : DataW H) (ps : List MemPlace), Value.okWide P W .any base t v → DataW.Trod enc P W 0 (fun _ => true) true t v d ps →
    ∃ a, Q a ∧ VR (Old W) W C0 (F a) v

theorem VRs.one' {Z : Nat → Prop} {w : World} {C : Ctx} {a : AV} {c : Value} (h : VRs Z w C [a] [c]) : VR Z w C a c := h.2 0 a c rfl rfl

theorem decA_int (ht : P.underlying t = some (.int .i64)) : DecA P W t Int (fun n => .int .i64 n) (fun n => InR .i64 n) := by
  intro H enc base v d ps hok ⟨fuel, h⟩
  obtain ⟨n, rfl⟩ := okWide_int ht hok
  obtain ⟨a, q, hv⟩ := dec_i64 ht H enc _ _ fuel _ _ h
  exact ⟨a, q, hv.one'⟩

theorem decA_struct {T : Type} {F : T → List AV} {Q : T → Prop} {fs : Array Field} (ht : P.underlying t = some (.struct fs)) (D : Dec P W t T F Q) : DecA P W t T (fun a => .agg (F a)) Q := by
  intro H enc base v d ps hok ⟨fuel, h⟩
  obtain ⟨cs, rfl, -⟩ := okWide_struct ht hok
  obtain ⟨a, q, hv⟩ := D H enc _ _ fuel _ _ h
  exact ⟨a, q, .agg (by have := hv.1; simpa [Value.cells] using this) fun i c x p r => hv.2 i c x p (by simpa [Value.cells] using r)⟩

/-- All arguments; 'K': what holds of them together. -/
def DecAs (P : Program) (W : World) (ts : List TypeId) (K : List AV → Prop) : Prop :=
  ∀ (H : Type) (enc : TypeId × Value → H) (base : Nat) (vs : List Value) (ds : List (DataW H)) (ps : List MemPlace),
    (∀ (j : Nat) t v, ts[j]? = some t → vs[j]? = some v → Value.okWide P W .any base t v) → DataW.TrodAll enc P W 0 (fun _ => true) true ts vs ds ps → ∃ al, K al ∧ VRs (Old W) W C0 al vs

theorem decAs_nil {K : List AV → Prop} (h : K []) : DecAs P W [] K := by
  intro H enc base vs ds ps _ hT
  obtain ⟨rfl, rfl, rfl⟩ := trodAll_nil hT
  exact ⟨[], h, rfl, fun i x y p q => by simp at p⟩

theorem decAs_cons {ts : List TypeId} {T : Type} {F : T → AV} {Q : T → Prop} {K : List AV → Prop} (D : DecA P W t T F Q) (R : ∀ a, Q a → DecAs P W ts fun al => K (F a :: al)) : DecAs P W (t :: ts) K := by
  intro H enc base vs ds ps hok hT
  obtain ⟨v, vs', d, ds', p, q, rfl, rfl, rfl, h1, h2⟩ := trodAll_cons hT
  obtain ⟨a, qa, va⟩ := D H enc base v d p (hok 0 t v rfl rfl) h1
  obtain ⟨al, ka, vas⟩ := R a qa H enc base vs' ds' q (fun j t v ht hv => hok (j + 1) t v (by simpa using ht) (by simpa using hv)) h2
  exact ⟨_, ka, by simpa using (VRs.one1 va).app vas⟩

theorem Fr.same_at {W W' : World} (h : Fr W (fun _ => False) W') (p : MemPlace) (hp : p.block < W.heap.size) : W.sameAt W' p := by
  have := h.same p.block hp (fun h => h)
  cases p with
  | cell b off => exact cell_of_heap this
  | map b => exact this

theorem trodAll_stays {H : Type} {enc : TypeId × Value → H} {W' : World} (hl : laidOutB P = true) (h : Fr W (fun _ => False) W') {sp : Nat → Bool} : ∀ {ts : List TypeId} {vs : List Value} {ds : List (DataW H)} {ps : List MemPlace},
    (∀ t ∈ ts, P.readableRec t = true ∧ t < P.types.size) → DataW.TrodAll enc P W 0 (fun _ => true) true ts vs ds ps → (∀ p ∈ ps, sp p.block = true) → DataW.TrodAll enc P W' 0 sp true ts vs ds ps
  | [], vs, ds, ps, _, hT, _ => by
    obtain ⟨rfl, rfl, rfl⟩ := trodAll_nil hT
    rfl
  | t :: ts, vs, ds, ps, hr, hT, hs => by
    have hlt := DataW.TrodAll.lt hT
    obtain ⟨v, vs', d, ds', p, q, rfl, rfl, rfl, h1, h2⟩ := trodAll_cons hT
    refine ⟨p, q, WideElems.Trod_stays hl (hr t (by simp)).1 (hr t (by simp)).2 h1 (fun x hx => h.same_at x (hlt x (by simp [hx]))) (fun x hx => hs x (by simp [hx])),
      trodAll_stays hl h (fun t ht => hr t (by simp [ht])) h2 (fun x hx => hs x (by simp [hx])), rfl⟩

theorem Fr.keptBut {W W' : World} (h : Fr W (fun _ => False) W') (may : MemPlace → Prop) : W.keptBut W' may := by
  refine ⟨h.os, h.output, fun i hi => ?_⟩
  rw [h.same i hi (fun h => h)]
  cases hx : W.heap[i]? with
  | none => simp
  | some o => cases o <;> simp

theorem law_post {H : Type} {enc : TypeId × Value → H} {W' : World} {f : Func} {s : ChangeSpec} {args : Array Value} {ds gs : List (DataW H)} {before : List MemPlace} {tb : TypeId}
    (hW : DataW.Whole enc P f.params.toList s.vars false W args.toList ds gs before) (hv : s.vars = []) (hr : f.resultTypes = #[tb]) (hb : P.underlying tb = some .bool)
    (h1 : (s.fn H (ds ++ gs)).results = [.lit (.bool true)]) (h2 : (s.fn H (ds ++ gs)).args = ds) (h3 : (s.fn H (ds ++ gs)).vars = []) (hl : laidOutB P = true)
    (hread : ∀ t ∈ f.params.toList, P.readableRec t = true ∧ t < P.types.size) (hf : Fr W (fun _ => False) W') : s.post enc P f false true false false W args (.bool true) W' := by
  have hW' := hW
  obtain ⟨p, q, hA, hV, hpq, -, -⟩ := hW
  refine ⟨ds, gs, before, [], p, [], hW', ?_, ?_, ?_, hf.keptBut _, fun h => by cases h⟩
  · rw [h1, hr]
    exact trodAll_mk1 ⟨1, by simp [DataW.trod, Value.cells, hb]⟩
  · rw [h2]
    exact trodAll_stays hl hf hread hA fun x hx => by simpa using DataW.TrodAll.lt hA x hx
  · rw [h3, hv]; rfl

theorem Fr.frozen {W W' : World} (h : Fr W (fun _ => False) W') (a : Addr) (ha : a.block < W.heap.size) : W'.frozen? a = W.frozen? a := by
  unfold World.frozen?; rw [h.same a.block ha (fun h => h)]

end
end Ax

namespace Go.Proofs.Ytideokfbnegkjaa
open Go Ax
open Go.Proofs

theorem mixed : Try.prog.follows .mixedOrders = true := by kernel_rfl

structure Pt where
  x : Int
  y : Int
  z : Int
structure Mot where
  top : Int
  ease : Int
  jerk : Int
structure Lim where
  side : Int
  low : Int
  high : Int

def within (n lo hi : Int) : Bool := decide (lo ≤ n) && decide (n ≤ hi)
def spanned (p : Pt) : Bool := within p.x (-10000) 10000 && within p.y (-10000) 10000 && within p.z (-10000) 10000
def ease (m : Mot) (fails : Bool) : Int := bif fails then m.jerk else m.ease
def arm (a b p : Pt) : Int := (b.x - a.x) * (p.y - a.y) - (b.y - a.y) * (p.x - a.x)
def armOk (a b p : Pt) : Prop := InR .i64 (b.x - a.x) ∧ InR .i64 (p.y - a.y) ∧ InR .i64 ((b.x - a.x) * (p.y - a.y)) ∧ InR .i64 (b.y - a.y) ∧ InR .i64 (p.x - a.x) ∧
  InR .i64 ((b.y - a.y) * (p.x - a.x)) ∧ InR .i64 ((b.x - a.x) * (p.y - a.y) - (b.y - a.y) * (p.x - a.x))

theorem f51b : Try.f51.body = some (bodyAt Try.prog 51) := by kernel_rfl
theorem p51_0 (n lo hi : Int)  {E : Env} {res : AV} (hE : PureE Try.prog 51 res E) (h0 : (decide (n ≥ lo)) = true)
    (hr : .bool (decide (n ≤ hi)) = res) : G Try.prog E [.code (bodyAt Try.prog 51)] ⟨[.int .i64 n, .int .i64 lo, .int .i64 hi] ++ unds (Try.f51.ntmps - 3), []⟩ :=
  end_step (n := 400) (evs := [.b true]) (obs := [(decide (n ≥ lo)) = true]) hE Try.func51 mixed (by kernel_rfl) ⟨h0, trivial⟩ hr
theorem p51_1 (n lo hi : Int)  {E : Env} {res : AV} (hE : PureE Try.prog 51 res E) (h0 : (decide (n ≥ lo)) = false)
    (hr : .bool false = res) : G Try.prog E [.code (bodyAt Try.prog 51)] ⟨[.int .i64 n, .int .i64 lo, .int .i64 hi] ++ unds (Try.f51.ntmps - 3), []⟩ :=
  end_step (n := 400) (evs := [.b false]) (obs := [(decide (n ≥ lo)) = false]) hE Try.func51 mixed (by kernel_rfl) ⟨h0, trivial⟩ hr
theorem within_ok (n lo hi : Int)  : Pure Try.prog 51 [.int .i64 n, .int .i64 lo, .int .i64 hi] (.bool (within n lo hi)) := pure_of Try.func51 f51b fun E hE => by
  rcases Bool.eq_false_or_eq_true (decide (n ≥ lo)) with hc0 | hc0
  · exact p51_0 n lo hi  hE hc0 (by simp_all [within] <;> omega)
  · exact p51_1 n lo hi  hE hc0 (by simp_all [within] <;> omega)
theorem within_F (n lo hi : Int)  : PureF Try.prog (.clos 51 [] []) [.int .i64 n, .int .i64 lo, .int .i64 hi] (.bool (within n lo hi)) := pureF_of Try.func51 (by kernel_rfl) f51b (by simpa using within_ok n lo hi )
theorem f82b : Try.f82.body = some (bodyAt Try.prog 82) := by kernel_rfl
theorem p82_0 (p : Pt)  {E : Env} {res : AV} (hE : PureE Try.prog 82 res E) (h1 : (within p.x (-10000) 10000) = true) (h3 : (within p.y (-10000) 10000) = true)
    (hr : .bool (within p.z (-10000) 10000) = res) : G Try.prog E [.code (bodyAt Try.prog 82)] ⟨[.agg [.int .i64 p.x, .int .i64 p.y, .int .i64 p.z]] ++ unds (Try.f82.ntmps - 1), []⟩ :=
  end_step (n := 400) (evs := [.v (.bool (within p.x (-10000) 10000)), .b true, .v (.bool (within p.y (-10000) 10000)), .b true, .v (.bool (within p.z (-10000) 10000))]) (obs := [PureF Try.prog (.clos 51 [] []) [.int .i64 p.x, .int .i64 (-10000), .int .i64 10000] (.bool (within p.x (-10000) 10000)), (within p.x (-10000) 10000) = true, PureF Try.prog (.clos 51 [] []) [.int .i64 p.y, .int .i64 (-10000), .int .i64 10000] (.bool (within p.y (-10000) 10000)), (within p.y (-10000) 10000) = true, PureF Try.prog (.clos 51 [] []) [.int .i64 p.z, .int .i64 (-10000), .int .i64 10000] (.bool (within p.z (-10000) 10000))]) hE Try.func82 mixed (by kernel_rfl) ⟨(within_F _ _ _), h1, (within_F _ _ _), h3, (within_F _ _ _), trivial⟩ hr
theorem p82_1 (p : Pt)  {E : Env} {res : AV} (hE : PureE Try.prog 82 res E) (h1 : (within p.x (-10000) 10000) = true) (h3 : (within p.y (-10000) 10000) = false)
    (hr : .bool false = res) : G Try.prog E [.code (bodyAt Try.prog 82)] ⟨[.agg [.int .i64 p.x, .int .i64 p.y, .int .i64 p.z]] ++ unds (Try.f82.ntmps - 1), []⟩ :=
  end_step (n := 400) (evs := [.v (.bool (within p.x (-10000) 10000)), .b true, .v (.bool (within p.y (-10000) 10000)), .b false]) (obs := [PureF Try.prog (.clos 51 [] []) [.int .i64 p.x, .int .i64 (-10000), .int .i64 10000] (.bool (within p.x (-10000) 10000)), (within p.x (-10000) 10000) = true, PureF Try.prog (.clos 51 [] []) [.int .i64 p.y, .int .i64 (-10000), .int .i64 10000] (.bool (within p.y (-10000) 10000)), (within p.y (-10000) 10000) = false]) hE Try.func82 mixed (by kernel_rfl) ⟨(within_F _ _ _), h1, (within_F _ _ _), h3, trivial⟩ hr
theorem p82_2 (p : Pt)  {E : Env} {res : AV} (hE : PureE Try.prog 82 res E) (h1 : (within p.x (-10000) 10000) = false)
    (hr : .bool false = res) : G Try.prog E [.code (bodyAt Try.prog 82)] ⟨[.agg [.int .i64 p.x, .int .i64 p.y, .int .i64 p.z]] ++ unds (Try.f82.ntmps - 1), []⟩ :=
  end_step (n := 400) (evs := [.v (.bool (within p.x (-10000) 10000)), .b false, .b false]) (obs := [PureF Try.prog (.clos 51 [] []) [.int .i64 p.x, .int .i64 (-10000), .int .i64 10000] (.bool (within p.x (-10000) 10000)), (within p.x (-10000) 10000) = false, false = false]) hE Try.func82 mixed (by kernel_rfl) ⟨(within_F _ _ _), h1, (rfl), trivial⟩ hr
theorem spanned_ok (p : Pt)  : Pure Try.prog 82 [.agg [.int .i64 p.x, .int .i64 p.y, .int .i64 p.z]] (.bool (spanned p)) := pure_of Try.func82 f82b fun E hE => by
  rcases Bool.eq_false_or_eq_true (within p.x (-10000) 10000) with hc0 | hc0
  · rcases Bool.eq_false_or_eq_true (within p.y (-10000) 10000) with hc1 | hc1
    · exact p82_0 p  hE hc0 hc1 (by simp_all [spanned])
    · exact p82_1 p  hE hc0 hc1 (by simp_all [spanned])
  · exact p82_2 p  hE hc0 (by simp_all [spanned])
theorem spanned_F (p : Pt)  : PureF Try.prog (.clos 82 [] []) [.agg [.int .i64 p.x, .int .i64 p.y, .int .i64 p.z]] (.bool (spanned p)) := pureF_of Try.func82 (by kernel_rfl) f82b (by simpa using spanned_ok p )
theorem f81b : Try.f81.body = some (bodyAt Try.prog 81) := by kernel_rfl
theorem p81_0 (p : Pt)  {E : Env} {res : AV} (hE : PureE Try.prog 81 res E) 
    (hr : .bool (!(spanned ⟨p.x, p.y, p.z⟩)) = res) : G Try.prog E [.code (bodyAt Try.prog 81)] ⟨[.agg [.int .i64 p.x, .int .i64 p.y, .int .i64 p.z]] ++ unds (Try.f81.ntmps - 1), []⟩ :=
  end_step (n := 400) (evs := [.v (.bool (spanned ⟨p.x, p.y, p.z⟩))]) (obs := [PureF Try.prog (.clos 82 [] []) [.agg [.int .i64 p.x, .int .i64 p.y, .int .i64 p.z]] (.bool (spanned ⟨p.x, p.y, p.z⟩))]) hE Try.func81 mixed (by kernel_rfl) ⟨(spanned_F _), trivial⟩ hr
theorem valid1_ok (p : Pt)  : Pure Try.prog 81 [.agg [.int .i64 p.x, .int .i64 p.y, .int .i64 p.z]] (.bool (!spanned p)) := pure_of Try.func81 f81b fun E hE => by
  exact p81_0 p  hE  (rfl)
theorem valid1_F (p : Pt)  : PureF Try.prog (.clos 81 [] []) [.agg [.int .i64 p.x, .int .i64 p.y, .int .i64 p.z]] (.bool (!spanned p)) := pureF_of Try.func81 (by kernel_rfl) f81b (by simpa using valid1_ok p )
theorem f91b : Try.f91.body = some (bodyAt Try.prog 91) := by kernel_rfl
theorem p91_0 (m : Mot) (fails : Bool)  {E : Env} {res : AV} (hE : PureE Try.prog 91 res E) (h0 : fails = true)
    (hr : .int .i64 m.jerk = res) : G Try.prog E [.code (bodyAt Try.prog 91)] ⟨[.agg [.int .i64 m.top, .int .i64 m.ease, .int .i64 m.jerk], .bool fails] ++ unds (Try.f91.ntmps - 2), []⟩ :=
  end_step (n := 400) (evs := [.b true]) (obs := [fails = true]) hE Try.func91 mixed (by kernel_rfl) ⟨h0, trivial⟩ hr
theorem p91_1 (m : Mot) (fails : Bool)  {E : Env} {res : AV} (hE : PureE Try.prog 91 res E) (h0 : fails = false)
    (hr : .int .i64 m.ease = res) : G Try.prog E [.code (bodyAt Try.prog 91)] ⟨[.agg [.int .i64 m.top, .int .i64 m.ease, .int .i64 m.jerk], .bool fails] ++ unds (Try.f91.ntmps - 2), []⟩ :=
  end_step (n := 400) (evs := [.b false]) (obs := [fails = false]) hE Try.func91 mixed (by kernel_rfl) ⟨h0, trivial⟩ hr
theorem ease_ok (m : Mot) (fails : Bool)  : Pure Try.prog 91 [.agg [.int .i64 m.top, .int .i64 m.ease, .int .i64 m.jerk], .bool fails] (.int .i64 (ease m fails)) := pure_of Try.func91 f91b fun E hE => by
  rcases Bool.eq_false_or_eq_true fails with hc0 | hc0
  · exact p91_0 m fails  hE hc0 (by simp_all [ease])
  · exact p91_1 m fails  hE hc0 (by simp_all [ease])
theorem ease_F (m : Mot) (fails : Bool)  : PureF Try.prog (.clos 91 [] []) [.agg [.int .i64 m.top, .int .i64 m.ease, .int .i64 m.jerk], .bool fails] (.int .i64 (ease m fails)) := pureF_of Try.func91 (by kernel_rfl) f91b (by simpa using ease_ok m fails )
theorem f87b : Try.f87.body = some (bodyAt Try.prog 87) := by kernel_rfl
theorem p87_0 (a b p : Pt)  {E : Env} {res : AV} (hE : PureE Try.prog 87 res E) (h0 : InR .i64 (b.x - a.x)) (h1 : InR .i64 (p.y - a.y)) (h2 : InR .i64 ((b.x - a.x) * (p.y - a.y))) (h3 : InR .i64 (b.y - a.y)) (h4 : InR .i64 (p.x - a.x)) (h5 : InR .i64 ((b.y - a.y) * (p.x - a.x))) (h6 : InR .i64 (((b.x - a.x) * (p.y - a.y)) - ((b.y - a.y) * (p.x - a.x))))
    (hr : .int .i64 (((b.x - a.x) * (p.y - a.y)) - ((b.y - a.y) * (p.x - a.x))) = res) : G Try.prog E [.code (bodyAt Try.prog 87)] ⟨[.agg [.int .i64 a.x, .int .i64 a.y, .int .i64 a.z, .int .i64 b.x, .int .i64 b.y, .int .i64 b.z], .agg [.int .i64 p.x, .int .i64 p.y, .int .i64 p.z]] ++ unds (Try.f87.ntmps - 2), []⟩ :=
  end_step (n := 400) (evs := []) (obs := [InR .i64 (b.x - a.x), InR .i64 (p.y - a.y), InR .i64 ((b.x - a.x) * (p.y - a.y)), InR .i64 (b.y - a.y), InR .i64 (p.x - a.x), InR .i64 ((b.y - a.y) * (p.x - a.x)), InR .i64 (((b.x - a.x) * (p.y - a.y)) - ((b.y - a.y) * (p.x - a.x)))]) hE Try.func87 mixed (by kernel_rfl) ⟨h0, h1, h2, h3, h4, h5, h6, trivial⟩ hr
theorem arm_ok (a b p : Pt) (hb : armOk a b p) : Pure Try.prog 87 [.agg [.int .i64 a.x, .int .i64 a.y, .int .i64 a.z, .int .i64 b.x, .int .i64 b.y, .int .i64 b.z], .agg [.int .i64 p.x, .int .i64 p.y, .int .i64 p.z]] (.int .i64 (arm a b p)) := pure_of Try.func87 f87b fun E hE => by
  exact p87_0 a b p  hE (by unfold armOk at hb; obtain ⟨h0, h1, h2, h3, h4, h5, h6⟩ := hb; assumption) (by unfold armOk at hb; obtain ⟨h0, h1, h2, h3, h4, h5, h6⟩ := hb; assumption) (by unfold armOk at hb; obtain ⟨h0, h1, h2, h3, h4, h5, h6⟩ := hb; assumption) (by unfold armOk at hb; obtain ⟨h0, h1, h2, h3, h4, h5, h6⟩ := hb; assumption) (by unfold armOk at hb; obtain ⟨h0, h1, h2, h3, h4, h5, h6⟩ := hb; assumption) (by unfold armOk at hb; obtain ⟨h0, h1, h2, h3, h4, h5, h6⟩ := hb; assumption) (by unfold armOk at hb; obtain ⟨h0, h1, h2, h3, h4, h5, h6⟩ := hb; assumption) (rfl)
theorem arm_F (a b p : Pt) (hb : armOk a b p) : PureF Try.prog (.clos 87 [] []) [.agg [.int .i64 a.x, .int .i64 a.y, .int .i64 a.z, .int .i64 b.x, .int .i64 b.y, .int .i64 b.z], .agg [.int .i64 p.x, .int .i64 p.y, .int .i64 p.z]] (.int .i64 (arm a b p)) := pureF_of Try.func87 (by kernel_rfl) f87b (by simpa using arm_ok a b p hb)
end Go.Proofs.Ytideokfbnegkjaa

namespace Go.Proofs.Ytideokfbnegkjaa
open Go Ax
open Go.Proofs

theorem get_lt {α : Type} {l : List α} {i : Nat} {a : α} (h : l[i]? = some a) : i < l.length := (List.getElem?_eq_some_iff.1 h).1

theorem row_get {α : Type} (f : α → List AV) {s : Nat} (hf : ∀ a, (f a).length = s) : ∀ (l : List α) (i : Nat) (a : α), l[i]? = some a → ((l.flatMap f).drop (0 + i * s)).take s = f a
  | [], i, a, h => by simp at h
  | b :: l, 0, a, h => by
    simp only [List.getElem?_cons_zero, Option.some.injEq] at h
    subst h
    simp [List.flatMap_cons, ← hf b]
  | b :: l, i + 1, a, h => by
    simp only [List.getElem?_cons_succ] at h
    have := row_get f hf l i a h
    rw [List.flatMap_cons, show 0 + (i + 1) * s = (f b).length + (0 + i * s) by rw [hf b, Nat.add_mul]; omega, List.drop_length_add_append]
    exact this

def cP (p : Pt) : List AV := [.int .i64 p.x, .int .i64 p.y, .int .i64 p.z]
def cL (x : Lim) : List AV := [.int .i64 x.side, .int .i64 x.low, .int .i64 x.high]
def rowP (l : List Pt) : List AV := l.flatMap cP
def rowL (l : List Lim) : List AV := l.flatMap cL

def idxFrom {α : Type} (p : α → Bool) : List α → Nat → Int
  | [], _ => -1
  | a :: r, i => bif p a then i else idxFrom p r (i + 1)

theorem idxFrom_ge {α : Type} {p : α → Bool} : ∀ {l : List α} {i : Nat}, decide (idxFrom p l i ≥ 0) = l.any p
  | [], i => rfl
  | a :: r, i => by
    simp only [idxFrom, List.any_cons]
    rcases Bool.eq_false_or_eq_true (p a) with h | h
    · simp [h]
    · simpa [h] using idxFrom_ge (p := p) (l := r) (i := i + 1)

theorem search_ind {α : Type} {p : α → Bool} {l : List α} {Gi : Nat → Prop} {v : Int} (hit : ∀ (i : Nat) a, l[i]? = some a → p a = true → (i : Int) = v → Gi i)
    (next : ∀ i a, l[i]? = some a → p a = false → Gi (i + 1) → Gi i) (out : ∀ i, l.length ≤ i → (-1 : Int) = v → Gi i) : ∀ d i, i + d = l.length → idxFrom p (l.drop i) i = v → Gi i
  | 0, i, h, hv => out i (by omega) (by rw [List.drop_eq_nil_of_le (by omega)] at hv; exact hv)
  | d + 1, i, h, hv => by
    have hi : i < l.length := by omega
    have hg : l[i]? = some l[i] := by simp [hi]
    rw [List.drop_eq_getElem_cons hi] at hv
    simp only [idxFrom] at hv
    cases hp : p l[i] with
    | true => rw [hp] at hv; exact hit i _ hg hp hv
    | false => rw [hp] at hv; exact next i _ hg hp (search_ind hit next out d (i + 1) (by omega) hv)

def validP (l : List Pt) : Bool := within l.length 3 60 && !l.any (fun p => !spanned p)
def motorOk (m : Mot) : Bool := within m.top 1 10 && within m.jerk 1 10 && within m.ease 1 m.jerk
def limitOk (x : Lim) : Bool := within x.side 0 200000 && within x.low (-200000) 200000 && within x.high x.low 200000
def checkE (l : List Pt) (m : Mot) (xs : List Lim) : Int := bif !validP l then 30 else bif !motorOk m then 31 else bif xs.any (fun x => !limitOk x) then 32 else 0

theorem f98b : Try.f98.body = some (bodyAt Try.prog 98) := by kernel_rfl
def f98K0 (P : Program) : List Item := kAt 400 [.code (bodyAt P 98)] [.stop]
def f98S0 (l : List Pt) (i : Nat) : St := ⟨[.rsl (rowP l) 0 l.length, .clos 81 [] [], .junk, .junk, .junk, .junk, .junk, .int .i64 ((l.length : Nat) : Int), .int .i64 ((i : Nat) : Int), .junk, .junk, .junk, .junk, .junk, .junk, .junk, .junk, .junk, .junk], []⟩
theorem p98_s (l : List Pt)  {E : Env} {res : AV} (hE : PureE Try.prog 98 res E) 
    (hg : G Try.prog E (f98K0 Try.prog) (f98S0 l 0)) : G Try.prog E [.code (bodyAt Try.prog 98)] ⟨[.rsl (rowP l) 0 l.length, .clos 81 [] []] ++ unds (Try.f98.ntmps - 2), []⟩ :=
  segN_step (n := 400) (ds := []) (live := [0, 1, 7, 8]) (m := 0) (evs := [.stop]) (obs := []) hE.2.1 (hE.nogh _) mixed (by kernel_rfl) trivial hg
theorem p98_0 (l : List Pt) (i : Nat) (p : Pt) {E : Env} {res : AV} (hE : PureE Try.prog 98 res E) (h0 : (decide (((i : Nat) : Int) < ((l.length : Nat) : Int))) = true) (h1 : 0 ≤ ((i : Nat) : Int) ∧ ((i : Nat) : Int) < ((l.length : Nat) : Int)) (h2 : ((rowP l).drop (0 + ((Int.toNat ((i : Nat) : Int)) * 3))).take 3 = [.int .i64 p.x, .int .i64 p.y, .int .i64 p.z]) (h4 : (!spanned p) = true)
    (hr : .int .i64 ((i : Nat) : Int) = res) : G Try.prog E (f98K0 Try.prog) (f98S0 l i) :=
  end_step (n := 400) (evs := [.b true, .ld (.agg [.int .i64 p.x, .int .i64 p.y, .int .i64 p.z]), .v (.bool (!spanned p)), .b true]) (obs := [(decide (((i : Nat) : Int) < ((l.length : Nat) : Int))) = true, 0 ≤ ((i : Nat) : Int) ∧ ((i : Nat) : Int) < ((l.length : Nat) : Int), ((rowP l).drop (0 + ((Int.toNat ((i : Nat) : Int)) * 3))).take 3 = [.int .i64 p.x, .int .i64 p.y, .int .i64 p.z], PureF Try.prog (.clos 81 [] []) [.agg [.int .i64 p.x, .int .i64 p.y, .int .i64 p.z]] (.bool (!spanned p)), (!spanned p) = true]) hE Try.func98 mixed (by kernel_rfl) ⟨h0, h1, h2, (valid1_F _), h4, trivial⟩ hr
theorem p98_1 (l : List Pt) (i : Nat) (p : Pt) {E : Env} {res : AV} (hE : PureE Try.prog 98 res E) (h0 : (decide (((i : Nat) : Int) < ((l.length : Nat) : Int))) = true) (h1 : 0 ≤ ((i : Nat) : Int) ∧ ((i : Nat) : Int) < ((l.length : Nat) : Int)) (h2 : ((rowP l).drop (0 + ((Int.toNat ((i : Nat) : Int)) * 3))).take 3 = [.int .i64 p.x, .int .i64 p.y, .int .i64 p.z]) (h4 : (!spanned p) = false) (h5 : InR .i64 (((i : Nat) : Int) + 1))
    (hg : G Try.prog E (f98K0 Try.prog) (f98S0 l (i + 1))) : G Try.prog E (f98K0 Try.prog) (f98S0 l i) :=
  segN_step (n := 400) (ds := []) (live := [0, 1, 7, 8]) (m := 0) (evs := [.b true, .ld (.agg [.int .i64 p.x, .int .i64 p.y, .int .i64 p.z]), .v (.bool (!spanned p)), .b false, .stop]) (obs := [(decide (((i : Nat) : Int) < ((l.length : Nat) : Int))) = true, 0 ≤ ((i : Nat) : Int) ∧ ((i : Nat) : Int) < ((l.length : Nat) : Int), ((rowP l).drop (0 + ((Int.toNat ((i : Nat) : Int)) * 3))).take 3 = [.int .i64 p.x, .int .i64 p.y, .int .i64 p.z], PureF Try.prog (.clos 81 [] []) [.agg [.int .i64 p.x, .int .i64 p.y, .int .i64 p.z]] (.bool (!spanned p)), (!spanned p) = false, InR .i64 (((i : Nat) : Int) + 1)]) hE.2.1 (hE.nogh _) mixed (by kernel_rfl) ⟨h0, h1, h2, (valid1_F _), h4, h5, trivial⟩ hg
theorem p98_2 (l : List Pt) (i : Nat)  {E : Env} {res : AV} (hE : PureE Try.prog 98 res E) (h0 : (decide (((i : Nat) : Int) < ((l.length : Nat) : Int))) = false)
    (hr : .int .i64 (-1) = res) : G Try.prog E (f98K0 Try.prog) (f98S0 l i) :=
  end_step (n := 400) (evs := [.b false]) (obs := [(decide (((i : Nat) : Int) < ((l.length : Nat) : Int))) = false]) hE Try.func98 mixed (by kernel_rfl) ⟨h0, trivial⟩ hr
theorem idx98_ok (l : List Pt) (hl : l.length ≤ 1000) : Pure Try.prog 98 [.rsl (rowP l) 0 l.length, .clos 81 [] []] (.int .i64 (idxFrom (fun p => !spanned p) l 0)) := pure_of Try.func98 f98b fun E hE =>
  p98_s l hE (search_ind (Gi := fun i => G Try.prog E (f98K0 Try.prog) (f98S0 l i)) (p := (fun p => !spanned p)) (l := l) (v := idxFrom (fun p => !spanned p) l 0)
    (fun i a h hp hv => have hi := get_lt h; p98_0 l i a hE (by simpa using hi) (by omega) (row_get cP (fun _ => rfl) _ _ _ h) hp (by rw [hv]))
    (fun i a h hp hg => have hi := get_lt h; p98_1 l i a hE (by simpa using hi) (by omega) (row_get cP (fun _ => rfl) _ _ _ h) hp (by unfold InR; omega) hg)
    (fun i h hv => p98_2 l i hE (by simpa using h) (by rw [hv])) l.length 0 (by omega) rfl)
theorem idx98_F (l : List Pt) (hl : l.length ≤ 1000) : PureF Try.prog (.clos 98 [] []) [.rsl (rowP l) 0 l.length, .clos 81 [] []] (.int .i64 (idxFrom (fun p => !spanned p) l 0)) := pureF_of Try.func98 (by kernel_rfl) f98b (by simpa using idx98_ok l hl)
theorem f80b : Try.f80.body = some (bodyAt Try.prog 80) := by kernel_rfl
theorem p80_0 (l : List Pt) (hl : l.length ≤ 1000) {E : Env} {res : AV} (hE : PureE Try.prog 80 res E) 
    (hr : .bool (decide ((idxFrom (fun p => !spanned p) l 0) ≥ 0)) = res) : G Try.prog E [.code (bodyAt Try.prog 80)] ⟨[.rsl (rowP l) 0 l.length, .clos 81 [] []] ++ unds (Try.f80.ntmps - 2), []⟩ :=
  end_step (n := 400) (evs := [.v (.int .i64 (idxFrom (fun p => !spanned p) l 0))]) (obs := [PureF Try.prog (.clos 98 [] []) [.rsl (rowP l) 0 l.length, .clos 81 [] []] (.int .i64 (idxFrom (fun p => !spanned p) l 0))]) hE Try.func80 mixed (by kernel_rfl) ⟨(idx98_F l hl), trivial⟩ hr
theorem any80_ok (l : List Pt) (hl : l.length ≤ 1000) : Pure Try.prog 80 [.rsl (rowP l) 0 l.length, .clos 81 [] []] (.bool (l.any (fun p => !spanned p))) := pure_of Try.func80 f80b fun E hE =>
  p80_0 l hl hE (by rw [idxFrom_ge])
theorem any80_F (l : List Pt) (hl : l.length ≤ 1000) : PureF Try.prog (.clos 80 [] []) [.rsl (rowP l) 0 l.length, .clos 81 [] []] (.bool (l.any (fun p => !spanned p))) := pureF_of Try.func80 (by kernel_rfl) f80b (by simpa using any80_ok l hl)
theorem f50b : Try.f50.body = some (bodyAt Try.prog 50) := by kernel_rfl
theorem p50_0 (l : List Pt) (hl : l.length ≤ 1000) {E : Env} {res : AV} (hE : PureE Try.prog 50 res E) (h1 : (within ((l.length : Nat) : Int) 3 60) = true)
    (hr : .bool (!(l.any (fun p => !spanned p))) = res) : G Try.prog E [.code (bodyAt Try.prog 50)] ⟨[.rsl (rowP l) 0 l.length] ++ unds (Try.f50.ntmps - 1), []⟩ :=
  end_step (n := 400) (evs := [.v (.bool (within ((l.length : Nat) : Int) 3 60)), .b true, .v (.bool (l.any (fun p => !spanned p)))]) (obs := [PureF Try.prog (.clos 51 [] []) [.int .i64 ((l.length : Nat) : Int), .int .i64 3, .int .i64 60] (.bool (within ((l.length : Nat) : Int) 3 60)), (within ((l.length : Nat) : Int) 3 60) = true, PureF Try.prog (.clos 80 [] []) [.rsl (rowP l) 0 l.length, .clos 81 [] []] (.bool (l.any (fun p => !spanned p)))]) hE Try.func50 mixed (by kernel_rfl) ⟨(within_F _ _ _), h1, (any80_F l hl), trivial⟩ hr
theorem p50_1 (l : List Pt) (hl : l.length ≤ 1000) {E : Env} {res : AV} (hE : PureE Try.prog 50 res E) (h1 : (within ((l.length : Nat) : Int) 3 60) = false)
    (hr : .bool false = res) : G Try.prog E [.code (bodyAt Try.prog 50)] ⟨[.rsl (rowP l) 0 l.length] ++ unds (Try.f50.ntmps - 1), []⟩ :=
  end_step (n := 400) (evs := [.v (.bool (within ((l.length : Nat) : Int) 3 60)), .b false]) (obs := [PureF Try.prog (.clos 51 [] []) [.int .i64 ((l.length : Nat) : Int), .int .i64 3, .int .i64 60] (.bool (within ((l.length : Nat) : Int) 3 60)), (within ((l.length : Nat) : Int) 3 60) = false]) hE Try.func50 mixed (by kernel_rfl) ⟨(within_F _ _ _), h1, trivial⟩ hr
theorem valid_ok (l : List Pt) (hl : l.length ≤ 1000) : Pure Try.prog 50 [.rsl (rowP l) 0 l.length] (.bool (validP l)) := pure_of Try.func50 f50b fun E hE => by
  rcases Bool.eq_false_or_eq_true (within ((l.length : Nat) : Int) 3 60) with hc0 | hc0
  · exact p50_0 l hl hE hc0 (by simp_all [validP])
  · exact p50_1 l hl hE hc0 (by simp_all [validP])
theorem valid_F (l : List Pt) (hl : l.length ≤ 1000) : PureF Try.prog (.clos 50 [] []) [.rsl (rowP l) 0 l.length] (.bool (validP l)) := pureF_of Try.func50 (by kernel_rfl) f50b (by simpa using valid_ok l hl)
theorem f63b : Try.f63.body = some (bodyAt Try.prog 63) := by kernel_rfl
theorem p63_0 (m : Mot)  {E : Env} {res : AV} (hE : PureE Try.prog 63 res E) (h1 : (within m.top 1 10) = true) (h3 : (within m.jerk 1 10) = true)
    (hr : .bool (within m.ease 1 m.jerk) = res) : G Try.prog E [.code (bodyAt Try.prog 63)] ⟨[.agg [.int .i64 m.top, .int .i64 m.ease, .int .i64 m.jerk]] ++ unds (Try.f63.ntmps - 1), []⟩ :=
  end_step (n := 400) (evs := [.v (.bool (within m.top 1 10)), .b true, .v (.bool (within m.jerk 1 10)), .b true, .v (.bool (within m.ease 1 m.jerk))]) (obs := [PureF Try.prog (.clos 51 [] []) [.int .i64 m.top, .int .i64 1, .int .i64 10] (.bool (within m.top 1 10)), (within m.top 1 10) = true, PureF Try.prog (.clos 51 [] []) [.int .i64 m.jerk, .int .i64 1, .int .i64 10] (.bool (within m.jerk 1 10)), (within m.jerk 1 10) = true, PureF Try.prog (.clos 51 [] []) [.int .i64 m.ease, .int .i64 1, .int .i64 m.jerk] (.bool (within m.ease 1 m.jerk))]) hE Try.func63 mixed (by kernel_rfl) ⟨(within_F _ _ _), h1, (within_F _ _ _), h3, (within_F _ _ _), trivial⟩ hr
theorem p63_1 (m : Mot)  {E : Env} {res : AV} (hE : PureE Try.prog 63 res E) (h1 : (within m.top 1 10) = true) (h3 : (within m.jerk 1 10) = false)
    (hr : .bool false = res) : G Try.prog E [.code (bodyAt Try.prog 63)] ⟨[.agg [.int .i64 m.top, .int .i64 m.ease, .int .i64 m.jerk]] ++ unds (Try.f63.ntmps - 1), []⟩ :=
  end_step (n := 400) (evs := [.v (.bool (within m.top 1 10)), .b true, .v (.bool (within m.jerk 1 10)), .b false]) (obs := [PureF Try.prog (.clos 51 [] []) [.int .i64 m.top, .int .i64 1, .int .i64 10] (.bool (within m.top 1 10)), (within m.top 1 10) = true, PureF Try.prog (.clos 51 [] []) [.int .i64 m.jerk, .int .i64 1, .int .i64 10] (.bool (within m.jerk 1 10)), (within m.jerk 1 10) = false]) hE Try.func63 mixed (by kernel_rfl) ⟨(within_F _ _ _), h1, (within_F _ _ _), h3, trivial⟩ hr
theorem p63_2 (m : Mot)  {E : Env} {res : AV} (hE : PureE Try.prog 63 res E) (h1 : (within m.top 1 10) = false)
    (hr : .bool false = res) : G Try.prog E [.code (bodyAt Try.prog 63)] ⟨[.agg [.int .i64 m.top, .int .i64 m.ease, .int .i64 m.jerk]] ++ unds (Try.f63.ntmps - 1), []⟩ :=
  end_step (n := 400) (evs := [.v (.bool (within m.top 1 10)), .b false, .b false]) (obs := [PureF Try.prog (.clos 51 [] []) [.int .i64 m.top, .int .i64 1, .int .i64 10] (.bool (within m.top 1 10)), (within m.top 1 10) = false, false = false]) hE Try.func63 mixed (by kernel_rfl) ⟨(within_F _ _ _), h1, (rfl), trivial⟩ hr
theorem motor_ok (m : Mot)  : Pure Try.prog 63 [.agg [.int .i64 m.top, .int .i64 m.ease, .int .i64 m.jerk]] (.bool (motorOk m)) := pure_of Try.func63 f63b fun E hE => by
  rcases Bool.eq_false_or_eq_true (within m.top 1 10) with hc0 | hc0
  · rcases Bool.eq_false_or_eq_true (within m.jerk 1 10) with hc1 | hc1
    · exact p63_0 m  hE hc0 hc1 (by simp_all [motorOk])
    · exact p63_1 m  hE hc0 hc1 (by simp_all [motorOk])
  · exact p63_2 m  hE hc0 (by simp_all [motorOk])
theorem motor_F (m : Mot)  : PureF Try.prog (.clos 63 [] []) [.agg [.int .i64 m.top, .int .i64 m.ease, .int .i64 m.jerk]] (.bool (motorOk m)) := pureF_of Try.func63 (by kernel_rfl) f63b (by simpa using motor_ok m )
theorem f78b : Try.f78.body = some (bodyAt Try.prog 78) := by kernel_rfl
theorem p78_0 (x : Lim)  {E : Env} {res : AV} (hE : PureE Try.prog 78 res E) (h1 : (within x.side 0 200000) = true) (h3 : (within x.low (-200000) 200000) = true)
    (hr : .bool (within x.high x.low 200000) = res) : G Try.prog E [.code (bodyAt Try.prog 78)] ⟨[.agg [.int .i64 x.side, .int .i64 x.low, .int .i64 x.high]] ++ unds (Try.f78.ntmps - 1), []⟩ :=
  end_step (n := 400) (evs := [.v (.bool (within x.side 0 200000)), .b true, .v (.bool (within x.low (-200000) 200000)), .b true, .v (.bool (within x.high x.low 200000))]) (obs := [PureF Try.prog (.clos 51 [] []) [.int .i64 x.side, .int .i64 0, .int .i64 200000] (.bool (within x.side 0 200000)), (within x.side 0 200000) = true, PureF Try.prog (.clos 51 [] []) [.int .i64 x.low, .int .i64 (-200000), .int .i64 200000] (.bool (within x.low (-200000) 200000)), (within x.low (-200000) 200000) = true, PureF Try.prog (.clos 51 [] []) [.int .i64 x.high, .int .i64 x.low, .int .i64 200000] (.bool (within x.high x.low 200000))]) hE Try.func78 mixed (by kernel_rfl) ⟨(within_F _ _ _), h1, (within_F _ _ _), h3, (within_F _ _ _), trivial⟩ hr
theorem p78_1 (x : Lim)  {E : Env} {res : AV} (hE : PureE Try.prog 78 res E) (h1 : (within x.side 0 200000) = true) (h3 : (within x.low (-200000) 200000) = false)
    (hr : .bool false = res) : G Try.prog E [.code (bodyAt Try.prog 78)] ⟨[.agg [.int .i64 x.side, .int .i64 x.low, .int .i64 x.high]] ++ unds (Try.f78.ntmps - 1), []⟩ :=
  end_step (n := 400) (evs := [.v (.bool (within x.side 0 200000)), .b true, .v (.bool (within x.low (-200000) 200000)), .b false]) (obs := [PureF Try.prog (.clos 51 [] []) [.int .i64 x.side, .int .i64 0, .int .i64 200000] (.bool (within x.side 0 200000)), (within x.side 0 200000) = true, PureF Try.prog (.clos 51 [] []) [.int .i64 x.low, .int .i64 (-200000), .int .i64 200000] (.bool (within x.low (-200000) 200000)), (within x.low (-200000) 200000) = false]) hE Try.func78 mixed (by kernel_rfl) ⟨(within_F _ _ _), h1, (within_F _ _ _), h3, trivial⟩ hr
theorem p78_2 (x : Lim)  {E : Env} {res : AV} (hE : PureE Try.prog 78 res E) (h1 : (within x.side 0 200000) = false)
    (hr : .bool false = res) : G Try.prog E [.code (bodyAt Try.prog 78)] ⟨[.agg [.int .i64 x.side, .int .i64 x.low, .int .i64 x.high]] ++ unds (Try.f78.ntmps - 1), []⟩ :=
  end_step (n := 400) (evs := [.v (.bool (within x.side 0 200000)), .b false, .b false]) (obs := [PureF Try.prog (.clos 51 [] []) [.int .i64 x.side, .int .i64 0, .int .i64 200000] (.bool (within x.side 0 200000)), (within x.side 0 200000) = false, false = false]) hE Try.func78 mixed (by kernel_rfl) ⟨(within_F _ _ _), h1, (rfl), trivial⟩ hr
theorem limit_ok (x : Lim)  : Pure Try.prog 78 [.agg [.int .i64 x.side, .int .i64 x.low, .int .i64 x.high]] (.bool (limitOk x)) := pure_of Try.func78 f78b fun E hE => by
  rcases Bool.eq_false_or_eq_true (within x.side 0 200000) with hc0 | hc0
  · rcases Bool.eq_false_or_eq_true (within x.low (-200000) 200000) with hc1 | hc1
    · exact p78_0 x  hE hc0 hc1 (by simp_all [limitOk])
    · exact p78_1 x  hE hc0 hc1 (by simp_all [limitOk])
  · exact p78_2 x  hE hc0 (by simp_all [limitOk])
theorem limit_F (x : Lim)  : PureF Try.prog (.clos 78 [] []) [.agg [.int .i64 x.side, .int .i64 x.low, .int .i64 x.high]] (.bool (limitOk x)) := pureF_of Try.func78 (by kernel_rfl) f78b (by simpa using limit_ok x )
theorem f77b : Try.f77.body = some (bodyAt Try.prog 77) := by kernel_rfl
theorem p77_0 (x : Lim)  {E : Env} {res : AV} (hE : PureE Try.prog 77 res E) 
    (hr : .bool (!(limitOk x)) = res) : G Try.prog E [.code (bodyAt Try.prog 77)] ⟨[.agg [.int .i64 x.side, .int .i64 x.low, .int .i64 x.high]] ++ unds (Try.f77.ntmps - 1), []⟩ :=
  end_step (n := 400) (evs := [.v (.bool (limitOk x))]) (obs := [PureF Try.prog (.clos 78 [] []) [.agg [.int .i64 x.side, .int .i64 x.low, .int .i64 x.high]] (.bool (limitOk x))]) hE Try.func77 mixed (by kernel_rfl) ⟨(limit_F _), trivial⟩ hr
theorem limit1_ok (x : Lim)  : Pure Try.prog 77 [.agg [.int .i64 x.side, .int .i64 x.low, .int .i64 x.high]] (.bool (!limitOk x)) := pure_of Try.func77 f77b fun E hE => by
  exact p77_0 x  hE  (rfl)
theorem limit1_F (x : Lim)  : PureF Try.prog (.clos 77 [] []) [.agg [.int .i64 x.side, .int .i64 x.low, .int .i64 x.high]] (.bool (!limitOk x)) := pureF_of Try.func77 (by kernel_rfl) f77b (by simpa using limit1_ok x )
theorem f97b : Try.f97.body = some (bodyAt Try.prog 97) := by kernel_rfl
def f97K0 (P : Program) : List Item := kAt 400 [.code (bodyAt P 97)] [.stop]
def f97S0 (l : List Lim) (i : Nat) : St := ⟨[.rsl (rowL l) 0 l.length, .clos 77 [] [], .junk, .junk, .junk, .junk, .junk, .int .i64 ((l.length : Nat) : Int), .int .i64 ((i : Nat) : Int), .junk, .junk, .junk, .junk, .junk, .junk, .junk, .junk, .junk, .junk], []⟩
theorem p97_s (l : List Lim)  {E : Env} {res : AV} (hE : PureE Try.prog 97 res E) 
    (hg : G Try.prog E (f97K0 Try.prog) (f97S0 l 0)) : G Try.prog E [.code (bodyAt Try.prog 97)] ⟨[.rsl (rowL l) 0 l.length, .clos 77 [] []] ++ unds (Try.f97.ntmps - 2), []⟩ :=
  segN_step (n := 400) (ds := []) (live := [0, 1, 7, 8]) (m := 0) (evs := [.stop]) (obs := []) hE.2.1 (hE.nogh _) mixed (by kernel_rfl) trivial hg
theorem p97_0 (l : List Lim) (i : Nat) (p : Lim) {E : Env} {res : AV} (hE : PureE Try.prog 97 res E) (h0 : (decide (((i : Nat) : Int) < ((l.length : Nat) : Int))) = true) (h1 : 0 ≤ ((i : Nat) : Int) ∧ ((i : Nat) : Int) < ((l.length : Nat) : Int)) (h2 : ((rowL l).drop (0 + ((Int.toNat ((i : Nat) : Int)) * 3))).take 3 = [.int .i64 p.side, .int .i64 p.low, .int .i64 p.high]) (h4 : (!limitOk p) = true)
    (hr : .int .i64 ((i : Nat) : Int) = res) : G Try.prog E (f97K0 Try.prog) (f97S0 l i) :=
  end_step (n := 400) (evs := [.b true, .ld (.agg [.int .i64 p.side, .int .i64 p.low, .int .i64 p.high]), .v (.bool (!limitOk p)), .b true]) (obs := [(decide (((i : Nat) : Int) < ((l.length : Nat) : Int))) = true, 0 ≤ ((i : Nat) : Int) ∧ ((i : Nat) : Int) < ((l.length : Nat) : Int), ((rowL l).drop (0 + ((Int.toNat ((i : Nat) : Int)) * 3))).take 3 = [.int .i64 p.side, .int .i64 p.low, .int .i64 p.high], PureF Try.prog (.clos 77 [] []) [.agg [.int .i64 p.side, .int .i64 p.low, .int .i64 p.high]] (.bool (!limitOk p)), (!limitOk p) = true]) hE Try.func97 mixed (by kernel_rfl) ⟨h0, h1, h2, (limit1_F _), h4, trivial⟩ hr
theorem p97_1 (l : List Lim) (i : Nat) (p : Lim) {E : Env} {res : AV} (hE : PureE Try.prog 97 res E) (h0 : (decide (((i : Nat) : Int) < ((l.length : Nat) : Int))) = true) (h1 : 0 ≤ ((i : Nat) : Int) ∧ ((i : Nat) : Int) < ((l.length : Nat) : Int)) (h2 : ((rowL l).drop (0 + ((Int.toNat ((i : Nat) : Int)) * 3))).take 3 = [.int .i64 p.side, .int .i64 p.low, .int .i64 p.high]) (h4 : (!limitOk p) = false) (h5 : InR .i64 (((i : Nat) : Int) + 1))
    (hg : G Try.prog E (f97K0 Try.prog) (f97S0 l (i + 1))) : G Try.prog E (f97K0 Try.prog) (f97S0 l i) :=
  segN_step (n := 400) (ds := []) (live := [0, 1, 7, 8]) (m := 0) (evs := [.b true, .ld (.agg [.int .i64 p.side, .int .i64 p.low, .int .i64 p.high]), .v (.bool (!limitOk p)), .b false, .stop]) (obs := [(decide (((i : Nat) : Int) < ((l.length : Nat) : Int))) = true, 0 ≤ ((i : Nat) : Int) ∧ ((i : Nat) : Int) < ((l.length : Nat) : Int), ((rowL l).drop (0 + ((Int.toNat ((i : Nat) : Int)) * 3))).take 3 = [.int .i64 p.side, .int .i64 p.low, .int .i64 p.high], PureF Try.prog (.clos 77 [] []) [.agg [.int .i64 p.side, .int .i64 p.low, .int .i64 p.high]] (.bool (!limitOk p)), (!limitOk p) = false, InR .i64 (((i : Nat) : Int) + 1)]) hE.2.1 (hE.nogh _) mixed (by kernel_rfl) ⟨h0, h1, h2, (limit1_F _), h4, h5, trivial⟩ hg
theorem p97_2 (l : List Lim) (i : Nat)  {E : Env} {res : AV} (hE : PureE Try.prog 97 res E) (h0 : (decide (((i : Nat) : Int) < ((l.length : Nat) : Int))) = false)
    (hr : .int .i64 (-1) = res) : G Try.prog E (f97K0 Try.prog) (f97S0 l i) :=
  end_step (n := 400) (evs := [.b false]) (obs := [(decide (((i : Nat) : Int) < ((l.length : Nat) : Int))) = false]) hE Try.func97 mixed (by kernel_rfl) ⟨h0, trivial⟩ hr
theorem idx97_ok (l : List Lim) (hl : l.length ≤ 1000) : Pure Try.prog 97 [.rsl (rowL l) 0 l.length, .clos 77 [] []] (.int .i64 (idxFrom (fun x => !limitOk x) l 0)) := pure_of Try.func97 f97b fun E hE =>
  p97_s l hE (search_ind (Gi := fun i => G Try.prog E (f97K0 Try.prog) (f97S0 l i)) (p := (fun x => !limitOk x)) (l := l) (v := idxFrom (fun x => !limitOk x) l 0)
    (fun i a h hp hv => have hi := get_lt h; p97_0 l i a hE (by simpa using hi) (by omega) (row_get cL (fun _ => rfl) _ _ _ h) hp (by rw [hv]))
    (fun i a h hp hg => have hi := get_lt h; p97_1 l i a hE (by simpa using hi) (by omega) (row_get cL (fun _ => rfl) _ _ _ h) hp (by unfold InR; omega) hg)
    (fun i h hv => p97_2 l i hE (by simpa using h) (by rw [hv])) l.length 0 (by omega) rfl)
theorem idx97_F (l : List Lim) (hl : l.length ≤ 1000) : PureF Try.prog (.clos 97 [] []) [.rsl (rowL l) 0 l.length, .clos 77 [] []] (.int .i64 (idxFrom (fun x => !limitOk x) l 0)) := pureF_of Try.func97 (by kernel_rfl) f97b (by simpa using idx97_ok l hl)
theorem f76b : Try.f76.body = some (bodyAt Try.prog 76) := by kernel_rfl
theorem p76_0 (l : List Lim) (hl : l.length ≤ 1000) {E : Env} {res : AV} (hE : PureE Try.prog 76 res E) 
    (hr : .bool (decide ((idxFrom (fun x => !limitOk x) l 0) ≥ 0)) = res) : G Try.prog E [.code (bodyAt Try.prog 76)] ⟨[.rsl (rowL l) 0 l.length, .clos 77 [] []] ++ unds (Try.f76.ntmps - 2), []⟩ :=
  end_step (n := 400) (evs := [.v (.int .i64 (idxFrom (fun x => !limitOk x) l 0))]) (obs := [PureF Try.prog (.clos 97 [] []) [.rsl (rowL l) 0 l.length, .clos 77 [] []] (.int .i64 (idxFrom (fun x => !limitOk x) l 0))]) hE Try.func76 mixed (by kernel_rfl) ⟨(idx97_F l hl), trivial⟩ hr
theorem any76_ok (l : List Lim) (hl : l.length ≤ 1000) : Pure Try.prog 76 [.rsl (rowL l) 0 l.length, .clos 77 [] []] (.bool (l.any (fun x => !limitOk x))) := pure_of Try.func76 f76b fun E hE =>
  p76_0 l hl hE (by rw [idxFrom_ge])
theorem any76_F (l : List Lim) (hl : l.length ≤ 1000) : PureF Try.prog (.clos 76 [] []) [.rsl (rowL l) 0 l.length, .clos 77 [] []] (.bool (l.any (fun x => !limitOk x))) := pureF_of Try.func76 (by kernel_rfl) f76b (by simpa using any76_ok l hl)
theorem f46b : Try.f46.body = some (bodyAt Try.prog 46) := by kernel_rfl
theorem p46_0 (l : List Pt) (m : Mot) (xs : List Lim) (hl : l.length ≤ 1000) (hx : xs.length ≤ 1000) {E : Env} {res : AV} (hE : PureE Try.prog 46 res E) (h1 : (!(validP l)) = true)
    (hr : .int .i64 30 = res) : G Try.prog E [.code (bodyAt Try.prog 46)] ⟨[.rsl (rowP l) 0 l.length, .agg [.int .i64 m.top, .int .i64 m.ease, .int .i64 m.jerk], .rsl (rowL xs) 0 xs.length] ++ unds (Try.f46.ntmps - 3), []⟩ :=
  end_step (n := 400) (evs := [.v (.bool (validP l)), .b true]) (obs := [PureF Try.prog (.clos 50 [] []) [.rsl (rowP l) 0 l.length] (.bool (validP l)), (!(validP l)) = true]) hE Try.func46 mixed (by kernel_rfl) ⟨(valid_F l hl), h1, trivial⟩ hr
theorem p46_1 (l : List Pt) (m : Mot) (xs : List Lim) (hl : l.length ≤ 1000) (hx : xs.length ≤ 1000) {E : Env} {res : AV} (hE : PureE Try.prog 46 res E) (h1 : (!(validP l)) = false) (h3 : (!(motorOk m)) = true)
    (hr : .int .i64 31 = res) : G Try.prog E [.code (bodyAt Try.prog 46)] ⟨[.rsl (rowP l) 0 l.length, .agg [.int .i64 m.top, .int .i64 m.ease, .int .i64 m.jerk], .rsl (rowL xs) 0 xs.length] ++ unds (Try.f46.ntmps - 3), []⟩ :=
  end_step (n := 400) (evs := [.v (.bool (validP l)), .b false, .v (.bool (motorOk m)), .b true]) (obs := [PureF Try.prog (.clos 50 [] []) [.rsl (rowP l) 0 l.length] (.bool (validP l)), (!(validP l)) = false, PureF Try.prog (.clos 63 [] []) [.agg [.int .i64 m.top, .int .i64 m.ease, .int .i64 m.jerk]] (.bool (motorOk m)), (!(motorOk m)) = true]) hE Try.func46 mixed (by kernel_rfl) ⟨(valid_F l hl), h1, (motor_F _), h3, trivial⟩ hr
theorem p46_2 (l : List Pt) (m : Mot) (xs : List Lim) (hl : l.length ≤ 1000) (hx : xs.length ≤ 1000) {E : Env} {res : AV} (hE : PureE Try.prog 46 res E) (h1 : (!(validP l)) = false) (h3 : (!(motorOk m)) = false) (h5 : (xs.any (fun x => !limitOk x)) = true)
    (hr : .int .i64 32 = res) : G Try.prog E [.code (bodyAt Try.prog 46)] ⟨[.rsl (rowP l) 0 l.length, .agg [.int .i64 m.top, .int .i64 m.ease, .int .i64 m.jerk], .rsl (rowL xs) 0 xs.length] ++ unds (Try.f46.ntmps - 3), []⟩ :=
  end_step (n := 400) (evs := [.v (.bool (validP l)), .b false, .v (.bool (motorOk m)), .b false, .v (.bool (xs.any (fun x => !limitOk x))), .b true]) (obs := [PureF Try.prog (.clos 50 [] []) [.rsl (rowP l) 0 l.length] (.bool (validP l)), (!(validP l)) = false, PureF Try.prog (.clos 63 [] []) [.agg [.int .i64 m.top, .int .i64 m.ease, .int .i64 m.jerk]] (.bool (motorOk m)), (!(motorOk m)) = false, PureF Try.prog (.clos 76 [] []) [.rsl (rowL xs) 0 xs.length, .clos 77 [] []] (.bool (xs.any (fun x => !limitOk x))), (xs.any (fun x => !limitOk x)) = true]) hE Try.func46 mixed (by kernel_rfl) ⟨(valid_F l hl), h1, (motor_F _), h3, (any76_F xs hx), h5, trivial⟩ hr
theorem p46_3 (l : List Pt) (m : Mot) (xs : List Lim) (hl : l.length ≤ 1000) (hx : xs.length ≤ 1000) {E : Env} {res : AV} (hE : PureE Try.prog 46 res E) (h1 : (!(validP l)) = false) (h3 : (!(motorOk m)) = false) (h5 : (xs.any (fun x => !limitOk x)) = false)
    (hr : .int .i64 0 = res) : G Try.prog E [.code (bodyAt Try.prog 46)] ⟨[.rsl (rowP l) 0 l.length, .agg [.int .i64 m.top, .int .i64 m.ease, .int .i64 m.jerk], .rsl (rowL xs) 0 xs.length] ++ unds (Try.f46.ntmps - 3), []⟩ :=
  end_step (n := 400) (evs := [.v (.bool (validP l)), .b false, .v (.bool (motorOk m)), .b false, .v (.bool (xs.any (fun x => !limitOk x))), .b false]) (obs := [PureF Try.prog (.clos 50 [] []) [.rsl (rowP l) 0 l.length] (.bool (validP l)), (!(validP l)) = false, PureF Try.prog (.clos 63 [] []) [.agg [.int .i64 m.top, .int .i64 m.ease, .int .i64 m.jerk]] (.bool (motorOk m)), (!(motorOk m)) = false, PureF Try.prog (.clos 76 [] []) [.rsl (rowL xs) 0 xs.length, .clos 77 [] []] (.bool (xs.any (fun x => !limitOk x))), (xs.any (fun x => !limitOk x)) = false]) hE Try.func46 mixed (by kernel_rfl) ⟨(valid_F l hl), h1, (motor_F _), h3, (any76_F xs hx), h5, trivial⟩ hr
theorem check_ok (l : List Pt) (m : Mot) (xs : List Lim) (hl : l.length ≤ 1000) (hx : xs.length ≤ 1000) : Pure Try.prog 46 [.rsl (rowP l) 0 l.length, .agg [.int .i64 m.top, .int .i64 m.ease, .int .i64 m.jerk], .rsl (rowL xs) 0 xs.length] (.int .i64 (checkE l m xs)) := pure_of Try.func46 f46b fun E hE => by
  rcases Bool.eq_false_or_eq_true (!(validP l)) with hc0 | hc0
  · exact p46_0 l m xs hl hx hE hc0 (by simp only [checkE, *, Bool.not_true, Bool.not_false, cond_true, cond_false])
  · rcases Bool.eq_false_or_eq_true (!(motorOk m)) with hc1 | hc1
    · exact p46_1 l m xs hl hx hE hc0 hc1 (by simp only [checkE, *, Bool.not_true, Bool.not_false, cond_true, cond_false])
    · rcases Bool.eq_false_or_eq_true (xs.any (fun x => !limitOk x)) with hc2 | hc2
      · exact p46_2 l m xs hl hx hE hc0 hc1 hc2 (by simp only [checkE, *, Bool.not_true, Bool.not_false, cond_true, cond_false])
      · exact p46_3 l m xs hl hx hE hc0 hc1 hc2 (by simp only [checkE, *, Bool.not_true, Bool.not_false, cond_true, cond_false])
theorem check_F (l : List Pt) (m : Mot) (xs : List Lim) (hl : l.length ≤ 1000) (hx : xs.length ≤ 1000) : PureF Try.prog (.clos 46 [] []) [.rsl (rowP l) 0 l.length, .agg [.int .i64 m.top, .int .i64 m.ease, .int .i64 m.jerk], .rsl (rowL xs) 0 xs.length] (.int .i64 (checkE l m xs)) := pureF_of Try.func46 (by kernel_rfl) f46b (by simpa using check_ok l m xs hl hx)
end Go.Proofs.Ytideokfbnegkjaa

namespace Go.Proofs.Ytideokfbnegkjaa
open Go Ax
open Go.Proofs

structure Chg where
  phase : Int
  before : Int
  after : Int

def checkP (l : List Pt) : Int := bif !within l.length 3 60 then 30 else bif l.any (fun p => !spanned p) then 30 else 0
def wrapI (ph : Int) (n : Nat) : Nat := (Int.tmod (Int.tmod ph n + n) n).toNat
def atP (l : List Pt) (ph : Int) : Pt := l.getD (wrapI ph l.length) ⟨0, 0, 0⟩
def side (p : Pt) : Int := p.x * p.x + p.y * p.y
def sideOk (p : Pt) : Prop := InR .i64 (p.x * p.x) ∧ InR .i64 (p.y * p.y) ∧ InR .i64 (p.x * p.x + p.y * p.y)
def keptP (p : Pt) (x : Lim) : Bool := decide (side p ≤ x.side * x.side) && within p.z x.low x.high

theorem limOk_sq {x : Lim} (h : limitOk x = true) : InR .i64 (x.side * x.side) := by
  simp only [limitOk, within, Bool.and_eq_true, decide_eq_true_eq] at h
  obtain ⟨⟨⟨h1, h2⟩, -⟩, -⟩ := h
  have h3 : 0 ≤ x.side * x.side := Int.mul_nonneg h1 h1
  have h4 : x.side * x.side ≤ 200000 * 200000 := Int.mul_le_mul h2 h2 h1 (by decide)
  unfold InR; omega

theorem f54b : Try.f54.body = some (bodyAt Try.prog 54) := by kernel_rfl
theorem p54_0 (n lo hi : Int)  {E : Env} {res : AV} (hE : PureE Try.prog 54 res E) (h0 : (decide (n ≥ lo)) = true)
    (hr : .bool (decide (n ≤ hi)) = res) : G Try.prog E [.code (bodyAt Try.prog 54)] ⟨[.int .i64 n, .int .i64 lo, .int .i64 hi] ++ unds (Try.f54.ntmps - 3), []⟩ :=
  end_step (n := 400) (evs := [.b true]) (obs := [(decide (n ≥ lo)) = true]) hE Try.func54 mixed (by kernel_rfl) ⟨h0, trivial⟩ hr
theorem p54_1 (n lo hi : Int)  {E : Env} {res : AV} (hE : PureE Try.prog 54 res E) (h0 : (decide (n ≥ lo)) = false)
    (hr : .bool false = res) : G Try.prog E [.code (bodyAt Try.prog 54)] ⟨[.int .i64 n, .int .i64 lo, .int .i64 hi] ++ unds (Try.f54.ntmps - 3), []⟩ :=
  end_step (n := 400) (evs := [.b false]) (obs := [(decide (n ≥ lo)) = false]) hE Try.func54 mixed (by kernel_rfl) ⟨h0, trivial⟩ hr
theorem from_ok (n lo hi : Int)  : Pure Try.prog 54 [.int .i64 n, .int .i64 lo, .int .i64 hi] (.bool (within n lo hi)) := pure_of Try.func54 f54b fun E hE => by
  rcases Bool.eq_false_or_eq_true (decide (n ≥ lo)) with hc0 | hc0
  · exact p54_0 n lo hi  hE hc0 (by simp_all [within] <;> omega)
  · exact p54_1 n lo hi  hE hc0 (by simp_all [within] <;> omega)
theorem from_F (n lo hi : Int)  : PureF Try.prog (.clos 54 [] []) [.int .i64 n, .int .i64 lo, .int .i64 hi] (.bool (within n lo hi)) := pureF_of Try.func54 (by kernel_rfl) f54b (by simpa using from_ok n lo hi )
theorem f65b : Try.f65.body = some (bodyAt Try.prog 65) := by kernel_rfl
theorem p65_0 (p : Pt)  {E : Env} {res : AV} (hE : PureE Try.prog 65 res E) (h1 : (within p.x (-10000) 10000) = true) (h3 : (within p.y (-10000) 10000) = true)
    (hr : .bool (within p.z (-10000) 10000) = res) : G Try.prog E [.code (bodyAt Try.prog 65)] ⟨[.agg [.int .i64 p.x, .int .i64 p.y, .int .i64 p.z]] ++ unds (Try.f65.ntmps - 1), []⟩ :=
  end_step (n := 400) (evs := [.v (.bool (within p.x (-10000) 10000)), .b true, .v (.bool (within p.y (-10000) 10000)), .b true, .v (.bool (within p.z (-10000) 10000))]) (obs := [PureF Try.prog (.clos 54 [] []) [.int .i64 p.x, .int .i64 (-10000), .int .i64 10000] (.bool (within p.x (-10000) 10000)), (within p.x (-10000) 10000) = true, PureF Try.prog (.clos 54 [] []) [.int .i64 p.y, .int .i64 (-10000), .int .i64 10000] (.bool (within p.y (-10000) 10000)), (within p.y (-10000) 10000) = true, PureF Try.prog (.clos 54 [] []) [.int .i64 p.z, .int .i64 (-10000), .int .i64 10000] (.bool (within p.z (-10000) 10000))]) hE Try.func65 mixed (by kernel_rfl) ⟨(from_F _ _ _), h1, (from_F _ _ _), h3, (from_F _ _ _), trivial⟩ hr
theorem p65_1 (p : Pt)  {E : Env} {res : AV} (hE : PureE Try.prog 65 res E) (h1 : (within p.x (-10000) 10000) = true) (h3 : (within p.y (-10000) 10000) = false)
    (hr : .bool false = res) : G Try.prog E [.code (bodyAt Try.prog 65)] ⟨[.agg [.int .i64 p.x, .int .i64 p.y, .int .i64 p.z]] ++ unds (Try.f65.ntmps - 1), []⟩ :=
  end_step (n := 400) (evs := [.v (.bool (within p.x (-10000) 10000)), .b true, .v (.bool (within p.y (-10000) 10000)), .b false]) (obs := [PureF Try.prog (.clos 54 [] []) [.int .i64 p.x, .int .i64 (-10000), .int .i64 10000] (.bool (within p.x (-10000) 10000)), (within p.x (-10000) 10000) = true, PureF Try.prog (.clos 54 [] []) [.int .i64 p.y, .int .i64 (-10000), .int .i64 10000] (.bool (within p.y (-10000) 10000)), (within p.y (-10000) 10000) = false]) hE Try.func65 mixed (by kernel_rfl) ⟨(from_F _ _ _), h1, (from_F _ _ _), h3, trivial⟩ hr
theorem p65_2 (p : Pt)  {E : Env} {res : AV} (hE : PureE Try.prog 65 res E) (h1 : (within p.x (-10000) 10000) = false)
    (hr : .bool false = res) : G Try.prog E [.code (bodyAt Try.prog 65)] ⟨[.agg [.int .i64 p.x, .int .i64 p.y, .int .i64 p.z]] ++ unds (Try.f65.ntmps - 1), []⟩ :=
  end_step (n := 400) (evs := [.v (.bool (within p.x (-10000) 10000)), .b false, .b false]) (obs := [PureF Try.prog (.clos 54 [] []) [.int .i64 p.x, .int .i64 (-10000), .int .i64 10000] (.bool (within p.x (-10000) 10000)), (within p.x (-10000) 10000) = false, false = false]) hE Try.func65 mixed (by kernel_rfl) ⟨(from_F _ _ _), h1, (rfl), trivial⟩ hr
theorem pointed_ok (p : Pt)  : Pure Try.prog 65 [.agg [.int .i64 p.x, .int .i64 p.y, .int .i64 p.z]] (.bool (spanned p)) := pure_of Try.func65 f65b fun E hE => by
  rcases Bool.eq_false_or_eq_true (within p.x (-10000) 10000) with hc0 | hc0
  · rcases Bool.eq_false_or_eq_true (within p.y (-10000) 10000) with hc1 | hc1
    · exact p65_0 p  hE hc0 hc1 (by simp_all [spanned])
    · exact p65_1 p  hE hc0 hc1 (by simp_all [spanned])
  · exact p65_2 p  hE hc0 (by simp_all [spanned])
theorem pointed_F (p : Pt)  : PureF Try.prog (.clos 65 [] []) [.agg [.int .i64 p.x, .int .i64 p.y, .int .i64 p.z]] (.bool (spanned p)) := pureF_of Try.func65 (by kernel_rfl) f65b (by simpa using pointed_ok p )
theorem f53b : Try.f53.body = some (bodyAt Try.prog 53) := by kernel_rfl
theorem p53_e (l : List Pt)  {E : Env} {res : AV} (hE : PureE Try.prog 53 res E) (h1 : (!(within ((l.length : Nat) : Int) 3 60)) = true)
    (hr : .int .i64 30 = res) : G Try.prog E [.code (bodyAt Try.prog 53)] ⟨[.rsl (rowP l) 0 l.length] ++ unds (Try.f53.ntmps - 1), []⟩ :=
  end_step (n := 400) (evs := [.v (.bool (within ((l.length : Nat) : Int) 3 60)), .b true]) (obs := [PureF Try.prog (.clos 54 [] []) [.int .i64 ((l.length : Nat) : Int), .int .i64 3, .int .i64 60] (.bool (within ((l.length : Nat) : Int) 3 60)), (!(within ((l.length : Nat) : Int) 3 60)) = true]) hE Try.func53 mixed (by kernel_rfl) ⟨(from_F _ _ _), h1, trivial⟩ hr
def f53K0 (P : Program) : List Item := kAt 400 [.code (bodyAt P 53)] [.b false, .stop]
def f53S0 (l : List Pt) (i : Nat) : St := ⟨[.rsl (rowP l) 0 l.length, .junk, .junk, .int .i64 ((i : Nat) : Int), .junk, .junk, .junk, .junk, .junk, .junk, .junk, .junk, .junk, .junk, .junk, .junk, .junk, .junk, .junk, .junk], []⟩
theorem p53_s (l : List Pt)  {E : Env} {res : AV} (hE : PureE Try.prog 53 res E) (h1 : (!(within ((l.length : Nat) : Int) 3 60)) = false)
    (hg : G Try.prog E (f53K0 Try.prog) (f53S0 l 0)) : G Try.prog E [.code (bodyAt Try.prog 53)] ⟨[.rsl (rowP l) 0 l.length] ++ unds (Try.f53.ntmps - 1), []⟩ :=
  segN_step (n := 400) (ds := []) (live := [0, 3]) (m := 0) (evs := [.v (.bool (within ((l.length : Nat) : Int) 3 60)), .b false, .stop]) (obs := [PureF Try.prog (.clos 54 [] []) [.int .i64 ((l.length : Nat) : Int), .int .i64 3, .int .i64 60] (.bool (within ((l.length : Nat) : Int) 3 60)), (!(within ((l.length : Nat) : Int) 3 60)) = false]) hE.2.1 (hE.nogh _) mixed (by kernel_rfl) ⟨(from_F _ _ _), h1, trivial⟩ hg
theorem p53_0 (l : List Pt) (i : Nat) (p : Pt) {E : Env} {res : AV} (hE : PureE Try.prog 53 res E) (h0 : (decide (((i : Nat) : Int) < ((l.length : Nat) : Int))) = true) (h1 : 0 ≤ ((i : Nat) : Int) ∧ ((i : Nat) : Int) < ((l.length : Nat) : Int)) (h2 : ((rowP l).drop (0 + ((Int.toNat ((i : Nat) : Int)) * 3))).take 3 = [.int .i64 p.x, .int .i64 p.y, .int .i64 p.z]) (h4 : (!(spanned p)) = true)
    (hr : .int .i64 30 = res) : G Try.prog E (f53K0 Try.prog) (f53S0 l i) :=
  end_step (n := 400) (evs := [.b true, .ld (.agg [.int .i64 p.x, .int .i64 p.y, .int .i64 p.z]), .v (.bool (spanned p)), .b true]) (obs := [(decide (((i : Nat) : Int) < ((l.length : Nat) : Int))) = true, 0 ≤ ((i : Nat) : Int) ∧ ((i : Nat) : Int) < ((l.length : Nat) : Int), ((rowP l).drop (0 + ((Int.toNat ((i : Nat) : Int)) * 3))).take 3 = [.int .i64 p.x, .int .i64 p.y, .int .i64 p.z], PureF Try.prog (.clos 65 [] []) [.agg [.int .i64 p.x, .int .i64 p.y, .int .i64 p.z]] (.bool (spanned p)), (!(spanned p)) = true]) hE Try.func53 mixed (by kernel_rfl) ⟨h0, h1, h2, (pointed_F _), h4, trivial⟩ hr
theorem p53_1 (l : List Pt) (i : Nat) (p : Pt) {E : Env} {res : AV} (hE : PureE Try.prog 53 res E) (h0 : (decide (((i : Nat) : Int) < ((l.length : Nat) : Int))) = true) (h1 : 0 ≤ ((i : Nat) : Int) ∧ ((i : Nat) : Int) < ((l.length : Nat) : Int)) (h2 : ((rowP l).drop (0 + ((Int.toNat ((i : Nat) : Int)) * 3))).take 3 = [.int .i64 p.x, .int .i64 p.y, .int .i64 p.z]) (h4 : (!(spanned p)) = false) (h5 : InR .i64 (((i : Nat) : Int) + 1))
    (hg : G Try.prog E (f53K0 Try.prog) (f53S0 l (i + 1))) : G Try.prog E (f53K0 Try.prog) (f53S0 l i) :=
  segN_step (n := 400) (ds := []) (live := [0, 3]) (m := 0) (evs := [.b true, .ld (.agg [.int .i64 p.x, .int .i64 p.y, .int .i64 p.z]), .v (.bool (spanned p)), .b false, .stop]) (obs := [(decide (((i : Nat) : Int) < ((l.length : Nat) : Int))) = true, 0 ≤ ((i : Nat) : Int) ∧ ((i : Nat) : Int) < ((l.length : Nat) : Int), ((rowP l).drop (0 + ((Int.toNat ((i : Nat) : Int)) * 3))).take 3 = [.int .i64 p.x, .int .i64 p.y, .int .i64 p.z], PureF Try.prog (.clos 65 [] []) [.agg [.int .i64 p.x, .int .i64 p.y, .int .i64 p.z]] (.bool (spanned p)), (!(spanned p)) = false, InR .i64 (((i : Nat) : Int) + 1)]) hE.2.1 (hE.nogh _) mixed (by kernel_rfl) ⟨h0, h1, h2, (pointed_F _), h4, h5, trivial⟩ hg
theorem p53_2 (l : List Pt) (i : Nat)  {E : Env} {res : AV} (hE : PureE Try.prog 53 res E) (h0 : (decide (((i : Nat) : Int) < ((l.length : Nat) : Int))) = false)
    (hr : .int .i64 0 = res) : G Try.prog E (f53K0 Try.prog) (f53S0 l i) :=
  end_step (n := 400) (evs := [.b false]) (obs := [(decide (((i : Nat) : Int) < ((l.length : Nat) : Int))) = false]) hE Try.func53 mixed (by kernel_rfl) ⟨h0, trivial⟩ hr
theorem checkPath_ok (l : List Pt) (hl : l.length ≤ 1000) : Pure Try.prog 53 [.rsl (rowP l) 0 l.length] (.int .i64 (checkP l)) := pure_of Try.func53 f53b fun E hE => by
  rcases Bool.eq_false_or_eq_true (!(within ((l.length : Nat) : Int) 3 60)) with h | h
  · exact p53_e l hE h (by have h' : within (l.length : Int) 3 60 = false := by simpa using h
                           simp [checkP, h'])
  · have h' : within (l.length : Int) 3 60 = true := by simpa using h
    refine p53_s l hE h (search_ind (Gi := fun i => G Try.prog E (f53K0 Try.prog) (f53S0 l i)) (p := fun p => !spanned p) (l := l) (v := idxFrom (fun p => !spanned p) l 0)
      (fun i a h1 hp hv => have hi := get_lt h1; p53_0 l i a hE (by simpa using hi) (by omega) (row_get cP (fun _ => rfl) _ _ _ h1) hp ?_)
      (fun i a h1 hp hg => have hi := get_lt h1; p53_1 l i a hE (by simpa using hi) (by omega) (row_get cP (fun _ => rfl) _ _ _ h1) hp (by unfold InR; omega) hg)
      (fun i h1 hv => p53_2 l i hE (by simpa using h1) ?_) l.length 0 (by omega) rfl)
    · have h2 : l.any (fun p => !spanned p) = true := by rw [← idxFrom_ge (i := 0), ← hv]; simp
      simp only [checkP, h', h2, Bool.not_true, cond_true, cond_false]
    · have h2 : l.any (fun p => !spanned p) = false := by rw [← idxFrom_ge (i := 0), ← hv]; rfl
      simp only [checkP, h', h2, Bool.not_true, cond_true, cond_false]
theorem f83b : Try.f83.body = some (bodyAt Try.prog 83) := by kernel_rfl
theorem p83_0 (l : List Pt) (ph : Int) (p : Pt) {E : Env} {res : AV} (hE : PureE Try.prog 83 res E) (h0 : ((l.length : Nat) : Int) ≠ 0) (h1 : InR .i64 ((Int.tmod ph ((l.length : Nat) : Int)) + ((l.length : Nat) : Int))) (h2 : ((l.length : Nat) : Int) ≠ 0) (h3 : 0 ≤ (Int.tmod ((Int.tmod ph ((l.length : Nat) : Int)) + ((l.length : Nat) : Int)) ((l.length : Nat) : Int)) ∧ (Int.tmod ((Int.tmod ph ((l.length : Nat) : Int)) + ((l.length : Nat) : Int)) ((l.length : Nat) : Int)) < ((l.length : Nat) : Int)) (h4 : ((rowP l).drop (0 + ((Int.toNat (Int.tmod ((Int.tmod ph ((l.length : Nat) : Int)) + ((l.length : Nat) : Int)) ((l.length : Nat) : Int))) * 3))).take 3 = [.int .i64 p.x, .int .i64 p.y, .int .i64 p.z])
    (hr : .agg [.int .i64 p.x, .int .i64 p.y, .int .i64 p.z] = res) : G Try.prog E [.code (bodyAt Try.prog 83)] ⟨[.rsl (rowP l) 0 l.length, .int .i64 ph] ++ unds (Try.f83.ntmps - 2), []⟩ :=
  end_step (n := 400) (evs := [.ld (.agg [.int .i64 p.x, .int .i64 p.y, .int .i64 p.z])]) (obs := [((l.length : Nat) : Int) ≠ 0, InR .i64 ((Int.tmod ph ((l.length : Nat) : Int)) + ((l.length : Nat) : Int)), ((l.length : Nat) : Int) ≠ 0, 0 ≤ (Int.tmod ((Int.tmod ph ((l.length : Nat) : Int)) + ((l.length : Nat) : Int)) ((l.length : Nat) : Int)) ∧ (Int.tmod ((Int.tmod ph ((l.length : Nat) : Int)) + ((l.length : Nat) : Int)) ((l.length : Nat) : Int)) < ((l.length : Nat) : Int), ((rowP l).drop (0 + ((Int.toNat (Int.tmod ((Int.tmod ph ((l.length : Nat) : Int)) + ((l.length : Nat) : Int)) ((l.length : Nat) : Int))) * 3))).take 3 = [.int .i64 p.x, .int .i64 p.y, .int .i64 p.z], 3 ≤ 3]) hE Try.func83 mixed (by kernel_rfl) ⟨h0, h1, h2, h3, h4, (by decide), trivial⟩ hr
theorem f68b : Try.f68.body = some (bodyAt Try.prog 68) := by kernel_rfl
theorem p68_0 (p : Pt)  {E : Env} {res : AV} (hE : PureE Try.prog 68 res E) (h0 : InR .i64 (p.x * p.x)) (h1 : InR .i64 (p.y * p.y)) (h2 : InR .i64 ((p.x * p.x) + (p.y * p.y)))
    (hr : .int .i64 ((p.x * p.x) + (p.y * p.y)) = res) : G Try.prog E [.code (bodyAt Try.prog 68)] ⟨[.agg [.int .i64 p.x, .int .i64 p.y, .int .i64 p.z]] ++ unds (Try.f68.ntmps - 1), []⟩ :=
  end_step (n := 400) (evs := []) (obs := [InR .i64 (p.x * p.x), InR .i64 (p.y * p.y), InR .i64 ((p.x * p.x) + (p.y * p.y))]) hE Try.func68 mixed (by kernel_rfl) ⟨h0, h1, h2, trivial⟩ hr
theorem side_ok (p : Pt) (hp : sideOk p) : Pure Try.prog 68 [.agg [.int .i64 p.x, .int .i64 p.y, .int .i64 p.z]] (.int .i64 (side p)) := pure_of Try.func68 f68b fun E hE => by
  exact p68_0 p  hE (by unfold sideOk at hp; obtain ⟨h0, h1, h2⟩ := hp; assumption) (by unfold sideOk at hp; obtain ⟨h0, h1, h2⟩ := hp; assumption) (by unfold sideOk at hp; obtain ⟨h0, h1, h2⟩ := hp; assumption) (rfl)
theorem side_F (p : Pt) (hp : sideOk p) : PureF Try.prog (.clos 68 [] []) [.agg [.int .i64 p.x, .int .i64 p.y, .int .i64 p.z]] (.int .i64 (side p)) := pureF_of Try.func68 (by kernel_rfl) f68b (by simpa using side_ok p hp)
theorem f72b : Try.f72.body = some (bodyAt Try.prog 72) := by kernel_rfl
theorem p72_0 (p : Pt) (x : Lim)  {E : Env} {res : AV} (hE : PureE Try.prog 72 res E) (h0 : PureF Try.prog (.clos 68 [] []) [.agg [.int .i64 p.x, .int .i64 p.y, .int .i64 p.z]] (.int .i64 (side p))) (h1 : InR .i64 (x.side * x.side)) (h2 : (decide ((side p) ≤ (x.side * x.side))) = true)
    (hr : .bool (within p.z x.low x.high) = res) : G Try.prog E [.code (bodyAt Try.prog 72)] ⟨[.agg [.int .i64 p.x, .int .i64 p.y, .int .i64 p.z], .agg [.int .i64 x.side, .int .i64 x.low, .int .i64 x.high]] ++ unds (Try.f72.ntmps - 2), []⟩ :=
  end_step (n := 400) (evs := [.v (.int .i64 (side p)), .b true, .v (.bool (within p.z x.low x.high))]) (obs := [PureF Try.prog (.clos 68 [] []) [.agg [.int .i64 p.x, .int .i64 p.y, .int .i64 p.z]] (.int .i64 (side p)), InR .i64 (x.side * x.side), (decide ((side p) ≤ (x.side * x.side))) = true, PureF Try.prog (.clos 51 [] []) [.int .i64 p.z, .int .i64 x.low, .int .i64 x.high] (.bool (within p.z x.low x.high))]) hE Try.func72 mixed (by kernel_rfl) ⟨h0, h1, h2, (within_F _ _ _), trivial⟩ hr
theorem p72_1 (p : Pt) (x : Lim)  {E : Env} {res : AV} (hE : PureE Try.prog 72 res E) (h0 : PureF Try.prog (.clos 68 [] []) [.agg [.int .i64 p.x, .int .i64 p.y, .int .i64 p.z]] (.int .i64 (side p))) (h1 : InR .i64 (x.side * x.side)) (h2 : (decide ((side p) ≤ (x.side * x.side))) = false)
    (hr : .bool false = res) : G Try.prog E [.code (bodyAt Try.prog 72)] ⟨[.agg [.int .i64 p.x, .int .i64 p.y, .int .i64 p.z], .agg [.int .i64 x.side, .int .i64 x.low, .int .i64 x.high]] ++ unds (Try.f72.ntmps - 2), []⟩ :=
  end_step (n := 400) (evs := [.v (.int .i64 (side p)), .b false]) (obs := [PureF Try.prog (.clos 68 [] []) [.agg [.int .i64 p.x, .int .i64 p.y, .int .i64 p.z]] (.int .i64 (side p)), InR .i64 (x.side * x.side), (decide ((side p) ≤ (x.side * x.side))) = false]) hE Try.func72 mixed (by kernel_rfl) ⟨h0, h1, h2, trivial⟩ hr
theorem keeps_ok (p : Pt) (x : Lim) (hp : sideOk p) (hx : limitOk x = true) : Pure Try.prog 72 [.agg [.int .i64 p.x, .int .i64 p.y, .int .i64 p.z], .agg [.int .i64 x.side, .int .i64 x.low, .int .i64 x.high]] (.bool (keptP p x)) := pure_of Try.func72 f72b fun E hE => by
  rcases Bool.eq_false_or_eq_true (decide ((side p) ≤ (x.side * x.side))) with hc0 | hc0
  · exact p72_0 p x  hE (side_F _ hp) (limOk_sq hx) hc0 (by simp only [keptP, *, Bool.not_true, Bool.not_false, Bool.true_and, Bool.false_and, Bool.true_or, Bool.false_or, cond_true, cond_false])
  · exact p72_1 p x  hE (side_F _ hp) (limOk_sq hx) hc0 (by simp only [keptP, *, Bool.not_true, Bool.not_false, Bool.true_and, Bool.false_and, Bool.true_or, Bool.false_or, cond_true, cond_false])
theorem keeps_F (p : Pt) (x : Lim) (hp : sideOk p) (hx : limitOk x = true) : PureF Try.prog (.clos 72 [] []) [.agg [.int .i64 p.x, .int .i64 p.y, .int .i64 p.z], .agg [.int .i64 x.side, .int .i64 x.low, .int .i64 x.high]] (.bool (keptP p x)) := pureF_of Try.func72 (by kernel_rfl) f72b (by simpa using keeps_ok p x hp hx)
theorem f52b : Try.f52.body = some (bodyAt Try.prog 52) := by kernel_rfl
theorem p52_0 (l : List Pt) (c : Chg)  {E : Env} {res : AV} (hE : PureE Try.prog 52 res E) (h0 : InR .i64 (c.phase + c.after)) (h1 : PureF Try.prog (.clos 83 [] []) [.rsl (rowP l) 0 l.length, .int .i64 (c.phase + c.after)] (.agg [.int .i64 ((atP l (c.phase + c.after)).x), .int .i64 ((atP l (c.phase + c.after)).y), .int .i64 ((atP l (c.phase + c.after)).z)])) (h2 : PureF Try.prog (.clos 83 [] []) [.rsl (rowP l) 0 l.length, .int .i64 c.phase] (.agg [.int .i64 ((atP l c.phase).x), .int .i64 ((atP l c.phase).y), .int .i64 ((atP l c.phase).z)])) (h3 : InR .i64 (c.phase - c.before)) (h4 : PureF Try.prog (.clos 83 [] []) [.rsl (rowP l) 0 l.length, .int .i64 (c.phase - c.before)] (.agg [.int .i64 ((atP l (c.phase - c.before)).x), .int .i64 ((atP l (c.phase - c.before)).y), .int .i64 ((atP l (c.phase - c.before)).z)])) (h8 : InR .i64 (2 * (atP l c.phase).x)) (h9 : InR .i64 ((atP l (c.phase + c.after)).x - (2 * (atP l c.phase).x))) (h10 : InR .i64 (((atP l (c.phase + c.after)).x - (2 * (atP l c.phase).x)) + (atP l (c.phase - c.before)).x)) (h11 : InR .i64 (2 * (atP l c.phase).y)) (h12 : InR .i64 ((atP l (c.phase + c.after)).y - (2 * (atP l c.phase).y))) (h13 : InR .i64 (((atP l (c.phase + c.after)).y - (2 * (atP l c.phase).y)) + (atP l (c.phase - c.before)).y)) (h14 : InR .i64 (2 * (atP l c.phase).z)) (h15 : InR .i64 ((atP l (c.phase + c.after)).z - (2 * (atP l c.phase).z))) (h16 : InR .i64 (((atP l (c.phase + c.after)).z - (2 * (atP l c.phase).z)) + (atP l (c.phase - c.before)).z)) (h17 : InR .i64 ((((atP l (c.phase + c.after)).z - (2 * (atP l c.phase).z)) + (atP l (c.phase - c.before)).z) + 1000))
    (hr : .agg [.int .i64 (((atP l (c.phase + c.after)).x - (2 * (atP l c.phase).x)) + (atP l (c.phase - c.before)).x), .int .i64 (((atP l (c.phase + c.after)).y - (2 * (atP l c.phase).y)) + (atP l (c.phase - c.before)).y), .int .i64 ((((atP l (c.phase + c.after)).z - (2 * (atP l c.phase).z)) + (atP l (c.phase - c.before)).z) + 1000)] = res) : G Try.prog E [.code (bodyAt Try.prog 52)] ⟨[.rsl (rowP l) 0 l.length, .agg [.int .i64 c.phase, .int .i64 c.before, .int .i64 c.after]] ++ unds (Try.f52.ntmps - 2), []⟩ :=
  end_step (n := 400) (evs := [.v (.agg [.int .i64 ((atP l (c.phase + c.after)).x), .int .i64 ((atP l (c.phase + c.after)).y), .int .i64 ((atP l (c.phase + c.after)).z)]), .v (.agg [.int .i64 ((atP l c.phase).x), .int .i64 ((atP l c.phase).y), .int .i64 ((atP l c.phase).z)]), .v (.agg [.int .i64 ((atP l (c.phase - c.before)).x), .int .i64 ((atP l (c.phase - c.before)).y), .int .i64 ((atP l (c.phase - c.before)).z)])]) (obs := [InR .i64 (c.phase + c.after), PureF Try.prog (.clos 83 [] []) [.rsl (rowP l) 0 l.length, .int .i64 (c.phase + c.after)] (.agg [.int .i64 ((atP l (c.phase + c.after)).x), .int .i64 ((atP l (c.phase + c.after)).y), .int .i64 ((atP l (c.phase + c.after)).z)]), PureF Try.prog (.clos 83 [] []) [.rsl (rowP l) 0 l.length, .int .i64 c.phase] (.agg [.int .i64 ((atP l c.phase).x), .int .i64 ((atP l c.phase).y), .int .i64 ((atP l c.phase).z)]), InR .i64 (c.phase - c.before), PureF Try.prog (.clos 83 [] []) [.rsl (rowP l) 0 l.length, .int .i64 (c.phase - c.before)] (.agg [.int .i64 ((atP l (c.phase - c.before)).x), .int .i64 ((atP l (c.phase - c.before)).y), .int .i64 ((atP l (c.phase - c.before)).z)]), 3 ≤ 3, 3 ≤ 3, 3 ≤ 3, InR .i64 (2 * (atP l c.phase).x), InR .i64 ((atP l (c.phase + c.after)).x - (2 * (atP l c.phase).x)), InR .i64 (((atP l (c.phase + c.after)).x - (2 * (atP l c.phase).x)) + (atP l (c.phase - c.before)).x), InR .i64 (2 * (atP l c.phase).y), InR .i64 ((atP l (c.phase + c.after)).y - (2 * (atP l c.phase).y)), InR .i64 (((atP l (c.phase + c.after)).y - (2 * (atP l c.phase).y)) + (atP l (c.phase - c.before)).y), InR .i64 (2 * (atP l c.phase).z), InR .i64 ((atP l (c.phase + c.after)).z - (2 * (atP l c.phase).z)), InR .i64 (((atP l (c.phase + c.after)).z - (2 * (atP l c.phase).z)) + (atP l (c.phase - c.before)).z), InR .i64 ((((atP l (c.phase + c.after)).z - (2 * (atP l c.phase).z)) + (atP l (c.phase - c.before)).z) + 1000), 3 ≤ 3]) hE Try.func52 mixed (by kernel_rfl) ⟨h0, h1, h2, h3, h4, (by decide), (by decide), (by decide), h8, h9, h10, h11, h12, h13, h14, h15, h16, h17, (by decide), trivial⟩ hr
end Go.Proofs.Ytideokfbnegkjaa

namespace Go.Proofs.Ytideokfbnegkjaa
open Go Ax
open Go.Proofs

theorem valid_len {l : List Pt} (h : validP l = true) : 3 ≤ l.length ∧ l.length ≤ 60 := by
  simp only [validP, within, Bool.and_eq_true, decide_eq_true_eq] at h
  omega

theorem valid_pt {l : List Pt} (h : validP l = true) {p : Pt} (hp : p ∈ l) : spanned p = true := by
  simp only [validP, Bool.and_eq_true, Bool.not_eq_true'] at h
  have := h.2
  simp only [List.any_eq_false, Bool.not_eq_true', Bool.not_eq_false] at this
  exact this p hp

theorem spanned_bd {p : Pt} (h : spanned p = true) : -10000 ≤ p.x ∧ p.x ≤ 10000 ∧ -10000 ≤ p.y ∧ p.y ≤ 10000 ∧ -10000 ≤ p.z ∧ p.z ≤ 10000 := by
  simp only [spanned, within, Bool.and_eq_true, decide_eq_true_eq] at h
  omega

theorem wrap_bd {ph : Int} {n : Nat} (hn : 0 < n) : 0 ≤ Int.tmod (Int.tmod ph n + n) n ∧ Int.tmod (Int.tmod ph n + n) n < n ∧ -(n : Int) < Int.tmod ph n ∧ Int.tmod ph n < n := by
  have h0 : (0 : Int) < n := by omega
  have h1 := Int.lt_tmod_of_pos ph h0
  have h2 := Int.tmod_lt_of_pos ph h0
  exact ⟨Int.tmod_nonneg _ (by omega), Int.tmod_lt_of_pos _ h0, h1, h2⟩

theorem wrapI_lt {ph : Int} {n : Nat} (hn : 0 < n) : wrapI ph n < n := by
  have := wrap_bd (ph := ph) hn
  unfold wrapI; omega

theorem atP_get {l : List Pt} {ph : Int} (hn : 0 < l.length) : l[wrapI ph l.length]? = some (atP l ph) := by
  have := wrapI_lt (ph := ph) hn
  simp [atP, List.getD, this]

theorem atP_bd {l : List Pt} (h : validP l = true) (ph : Int) : -10000 ≤ (atP l ph).x ∧ (atP l ph).x ≤ 10000 ∧ -10000 ≤ (atP l ph).y ∧ (atP l ph).y ≤ 10000 ∧ -10000 ≤ (atP l ph).z ∧ (atP l ph).z ≤ 10000 := by
  have hl := valid_len h
  exact spanned_bd (valid_pt h (List.mem_of_getElem? (atP_get (ph := ph) (by omega))))

theorem at_ok (l : List Pt) (ph : Int) (hn : 0 < l.length) (hl : l.length ≤ 1000) : Pure Try.prog 83 [.rsl (rowP l) 0 l.length, .int .i64 ph] (.agg [.int .i64 (atP l ph).x, .int .i64 (atP l ph).y, .int .i64 (atP l ph).z]) := pure_of Try.func83 f83b fun E hE => by
  have hw := wrap_bd (ph := ph) hn
  exact p83_0 l ph (atP l ph) hE (by omega) (by unfold InR; omega) (by omega) ⟨hw.1, hw.2.1⟩ (row_get cP (fun _ => rfl) _ _ _ (atP_get hn)) rfl

theorem at_F (l : List Pt) (ph : Int) (hn : 0 < l.length) (hl : l.length ≤ 1000) : PureF Try.prog (.clos 83 [] []) [.rsl (rowP l) 0 l.length, .int .i64 ph] (.agg [.int .i64 (atP l ph).x, .int .i64 (atP l ph).y, .int .i64 (atP l ph).z]) :=
  pureF_of Try.func83 (by kernel_rfl) f83b (by simpa using at_ok l ph hn hl)

/-- What is felt at a change. -/
def diff2 (a b d : Pt) : Pt := ⟨a.x - 2 * b.x + d.x, a.y - 2 * b.y + d.y, a.z - 2 * b.z + d.z + 1000⟩
def feltP (l : List Pt) (c : Chg) : Pt := diff2 (atP l (c.phase + c.after)) (atP l c.phase) (atP l (c.phase - c.before))
def chgOk (n : Nat) (c : Chg) : Prop := 0 ≤ c.phase ∧ c.phase < n ∧ 0 ≤ c.before ∧ c.before ≤ 10 ∧ 0 ≤ c.after ∧ c.after ≤ 10

theorem feltP_bd {l : List Pt} (h : validP l = true) (c : Chg) : -40000 ≤ (feltP l c).x ∧ (feltP l c).x ≤ 40000 ∧ -40000 ≤ (feltP l c).y ∧ (feltP l c).y ≤ 40000 ∧ -39000 ≤ (feltP l c).z ∧ (feltP l c).z ≤ 41000 := by
  have h1 := atP_bd h (c.phase + c.after)
  have h2 := atP_bd h c.phase
  have h3 := atP_bd h (c.phase - c.before)
  simp only [feltP, diff2]
  omega

theorem sq_bd {x : Int} (h : -40000 ≤ x) (h' : x ≤ 40000) : 0 ≤ x * x ∧ x * x ≤ 1600000000 := by
  rcases Int.le_total 0 x with h0 | h0
  · exact ⟨Int.mul_nonneg h0 h0, Int.mul_le_mul h' h' h0 (by decide)⟩
  · have : x * x = (-x) * (-x) := by rw [Int.neg_mul_neg]
    rw [this]
    exact ⟨Int.mul_nonneg (by omega) (by omega), Int.mul_le_mul (by omega : -x ≤ 40000) (by omega : -x ≤ 40000) (by omega) (by decide)⟩

theorem felt_side {l : List Pt} (h : validP l = true) (c : Chg) : sideOk (feltP l c) := by
  obtain ⟨h1, h2, h3, h4, -⟩ := feltP_bd h c
  have a := sq_bd h1 h2
  have b := sq_bd h3 h4
  unfold sideOk InR; omega

theorem felt_ok (l : List Pt) (c : Chg) (h : validP l = true) (hc : chgOk l.length c) : Pure Try.prog 52 [.rsl (rowP l) 0 l.length, .agg [.int .i64 c.phase, .int .i64 c.before, .int .i64 c.after]]
    (.agg [.int .i64 (feltP l c).x, .int .i64 (feltP l c).y, .int .i64 (feltP l c).z]) := pure_of Try.func52 f52b fun E hE => by
  have hl := valid_len h
  have h1 := atP_bd h (c.phase + c.after)
  have h2 := atP_bd h c.phase
  have h3 := atP_bd h (c.phase - c.before)
  obtain ⟨c1, c2, c3, c4, c5, c6⟩ := hc
  refine p52_0 l c hE ?_ (at_F _ _ (by omega) (by omega)) (at_F _ _ (by omega) (by omega)) ?_ (at_F _ _ (by omega) (by omega)) ?_ ?_ ?_ ?_ ?_ ?_ ?_ ?_ ?_ ?_ rfl <;> (unfold InR; omega)

theorem felt_F (l : List Pt) (c : Chg) (h : validP l = true) (hc : chgOk l.length c) : PureF Try.prog (.clos 52 [] []) [.rsl (rowP l) 0 l.length, .agg [.int .i64 c.phase, .int .i64 c.before, .int .i64 c.after]]
    (.agg [.int .i64 (feltP l c).x, .int .i64 (feltP l c).y, .int .i64 (feltP l c).z]) := pureF_of Try.func52 (by kernel_rfl) f52b (by simpa using felt_ok l c h hc)

end Go.Proofs.Ytideokfbnegkjaa

namespace Go.Proofs.Ytideokfbnegkjaa
open Go Ax
open Go.Proofs

def nearC (st : Int) (v w : Nat) : Bool := decide ((v : Int) - w ≤ st) && decide ((w : Int) - v ≤ st)
def wsL (st : Int) (p v w d : Nat) : List Chg := (List.range' w d).flatMap fun w => bif nearC st v w then [⟨p, v, w⟩] else []
def vsL (st : Int) (T p v d : Nat) : List Chg := (List.range' v d).flatMap fun v => wsL st p v 0 (T + 1)
def psL (st : Int) (T p d : Nat) : List Chg := (List.range' p d).flatMap fun p => vsL st T p 0 (T + 1)
def chgs (st : Int) (T n : Nat) : List Chg := psL st T 0 n

end Go.Proofs.Ytideokfbnegkjaa

namespace Go.Proofs.Ytideokfbnegkjaa
open Go Ax
open Go.Proofs

theorem mem_chgs {st : Int} {T n : Nat} {c : Chg} : c ∈ chgs st T n ↔ ∃ p v w : Nat, p < n ∧ v ≤ T ∧ w ≤ T ∧ nearC st v w = true ∧ c = ⟨p, v, w⟩ := by
  simp only [chgs, psL, vsL, wsL, List.mem_flatMap, List.mem_range'_1]
  constructor
  · rintro ⟨p, hp, v, hv, w, hw, h⟩
    cases hn : nearC st v w with
    | true => rw [hn] at h; simp at h; exact ⟨p, v, w, by omega, by omega, by omega, hn, h⟩
    | false => rw [hn] at h; simp at h
  · rintro ⟨p, v, w, hp, hv, hw, hn, rfl⟩
    exact ⟨p, by omega, v, by omega, w, by omega, by rw [hn]; simp⟩

theorem chgs_ok {st : Int} {T n : Nat} {c : Chg} (hT : T ≤ 10) (h : c ∈ chgs st T n) : chgOk n c := by
  obtain ⟨p, v, w, h1, h2, h3, -, rfl⟩ := mem_chgs.1 h
  unfold chgOk; simp only; omega

def badC (l : List Pt) (x : Lim) (cs : List Chg) : Option Chg := cs.find? fun c => !keptP (feltP l c) x
def keepB (l : List Pt) (x : Lim) (st : Int) (T : Nat) : Bool := (badC l x (chgs st T l.length)).isNone

def bad0 (b : Option Chg) : Chg := b.getD ⟨0, 0, 0⟩
structure MotW (m : Mot) (fails : Bool) (T : Nat) : Prop where
  top : m.top = T
  le : T ≤ 10
  e0 : 0 ≤ ease m fails
  e1 : ease m fails ≤ 10

def fastR (K : Nat → Bool) : Nat → Int × Int
  | 0 => (0, 3)
  | t + 1 => bif K (t + 1) then ((t + 1 : Nat), 0) else fastR K t

theorem motorOk_bd {m : Mot} (h : motorOk m = true) : 1 ≤ m.top ∧ m.top ≤ 10 ∧ 1 ≤ m.jerk ∧ m.jerk ≤ 10 ∧ 1 ≤ m.ease ∧ m.ease ≤ m.jerk := by
  simp only [motorOk, within, Bool.and_eq_true, decide_eq_true_eq] at h; omega

theorem ease_bd {m : Mot} (h : motorOk m = true) (fails : Bool) : 0 ≤ ease m fails ∧ ease m fails ≤ 10 := by
  have := motorOk_bd h
  cases fails <;> simp only [ease, cond_true, cond_false] <;> omega

end Go.Proofs.Ytideokfbnegkjaa

namespace Go.Proofs.Ytideokfbnegkjaa
open Go Ax
open Go.Proofs

def changesV (l : List Pt) (m : Mot) (fails : Bool) : AV := .clos 90 [] [.rptr [.int .i64 m.top, .int .i64 m.ease, .int .i64 m.jerk] 0, .rptr [.bool fails] 0, .rptr [.rsl (rowP l) 0 l.length] 0]

theorem f67b : Try.f67.body = some (bodyAt Try.prog 67) := by kernel_rfl
theorem p67_0 (l : List Pt) (m : Mot) (fails : Bool)  {E : Env} {res : AV} (hE : PureE Try.prog 67 res E) 
    (hr : .clos 90 [] [.rptr [.int .i64 m.top, .int .i64 m.ease, .int .i64 m.jerk] 0, .rptr [.bool fails] 0, .rptr [.rsl (rowP l) 0 l.length] 0] = res) : G Try.prog E [.code (bodyAt Try.prog 67)] ⟨[.rsl (rowP l) 0 l.length, .agg [.int .i64 m.top, .int .i64 m.ease, .int .i64 m.jerk], .bool fails] ++ unds (Try.f67.ntmps - 3), []⟩ :=
  end_step (n := 400) (evs := []) (obs := []) hE Try.func67 mixed (by kernel_rfl) trivial hr
theorem changesP_ok (l : List Pt) (m : Mot) (fails : Bool)  : Pure Try.prog 67 [.rsl (rowP l) 0 l.length, .agg [.int .i64 m.top, .int .i64 m.ease, .int .i64 m.jerk], .bool fails] (changesV l m fails) := pure_of Try.func67 f67b fun E hE => by
  exact p67_0 l m fails  hE  (rfl)
theorem changesP_F (l : List Pt) (m : Mot) (fails : Bool)  : PureF Try.prog (.clos 67 [] []) [.rsl (rowP l) 0 l.length, .agg [.int .i64 m.top, .int .i64 m.ease, .int .i64 m.jerk], .bool fails] (changesV l m fails) := pureF_of Try.func67 (by kernel_rfl) f67b (by simpa using changesP_ok l m fails )
theorem f90b : Try.f90.body = some (bodyAt Try.prog 90) := by kernel_rfl
def f90K0 (P : Program) : List Item := kAt 400 [.code (bodyAt P 90)] [.stop]
def f90S0 (yv0 : Value) (m : Mot) (fails : Bool) (l : List Pt) (p : Nat) : St := ⟨[.opq yv0, .rptr [.int .i64 m.top, .int .i64 m.ease, .int .i64 m.jerk] 0, .junk, .junk, .junk, .int .i64 (ease m fails), .junk, .junk, .junk, .junk, .junk, .junk, .junk, .int .i64 ((l.length : Nat) : Int), .int .i64 ((p : Nat) : Int), .junk, .junk, .junk, .junk, .junk, .junk, .junk, .junk, .junk, .junk, .junk, .junk, .junk, .junk, .junk, .junk, .junk, .junk, .junk, .junk, .junk, .junk, .junk, .junk, .junk, .junk, .junk, .junk, .junk, .junk, .junk], []⟩
theorem p90_s (yv0 : Value) (m : Mot) (fails : Bool) (l : List Pt)  {E : Env} {xs : List (List AV)} {yv : Value} {Y : Option Nat → Sd} {cont : Nat → Bool} {e : Option Nat} {o : Option Nat} (hE : IterE Try.prog 90 xs yv Y cont e o E) 
    (hg : G Try.prog E (f90K0 Try.prog) (f90S0 yv0 m fails l 0)) : G Try.prog E [.code (bodyAt Try.prog 90)] ⟨[.opq yv0, .rptr [.int .i64 m.top, .int .i64 m.ease, .int .i64 m.jerk] 0, .rptr [.bool fails] 0, .rptr [.rsl (rowP l) 0 l.length] 0] ++ unds (Try.f90.ntmps - 4), []⟩ :=
  segN_step (n := 400) (ds := []) (live := [0, 1, 5, 13, 14]) (m := 0) (evs := [.v (.int .i64 (ease m fails)), .stop]) (obs := [PureF Try.prog (.clos 91 [] []) [.agg [.int .i64 m.top, .int .i64 m.ease, .int .i64 m.jerk], .bool fails] (.int .i64 (ease m fails))]) hE.kind (hE.nogh _) mixed (by kernel_rfl) ⟨(ease_F _ _), trivial⟩ hg
def f90K1 (P : Program) : List Item := kAt 400 [.code (bodyAt P 90)] [.b true, .stop]
def f90S1 (yv0 : Value) (m : Mot) (fails : Bool) (l : List Pt) (p v : Nat) : St := ⟨[.opq yv0, .rptr [.int .i64 m.top, .int .i64 m.ease, .int .i64 m.jerk] 0, .junk, .junk, .junk, .int .i64 (ease m fails), .int .i64 ((p : Nat) : Int), .junk, .junk, .junk, .junk, .junk, .junk, .int .i64 ((l.length : Nat) : Int), .int .i64 ((p : Nat) : Int), .junk, .junk, .junk, .junk, .int .i64 (m.top + 1), .int .i64 ((v : Nat) : Int), .junk, .junk, .junk, .junk, .junk, .junk, .junk, .junk, .junk, .junk, .junk, .junk, .junk, .junk, .junk, .junk, .junk, .junk, .junk, .junk, .junk, .junk, .junk, .junk, .junk], []⟩
theorem p90_0n (yv0 : Value) (m : Mot) (fails : Bool) (l : List Pt) (p : Nat)  {E : Env} {xs : List (List AV)} {yv : Value} {Y : Option Nat → Sd} {cont : Nat → Bool} {e : Option Nat} {o : Option Nat} (hE : IterE Try.prog 90 xs yv Y cont e o E) (h0 : (decide (((p : Nat) : Int) < ((l.length : Nat) : Int))) = true) (h1 : InR .i64 (m.top + 1))
    (hg : G Try.prog E (f90K1 Try.prog) (f90S1 yv0 m fails l p 0)) : G Try.prog E (f90K0 Try.prog) (f90S0 yv0 m fails l p) :=
  segN_step (n := 400) (ds := []) (live := [0, 1, 5, 6, 13, 14, 19, 20]) (m := 0) (evs := [.b true, .stop]) (obs := [(decide (((p : Nat) : Int) < ((l.length : Nat) : Int))) = true, InR .i64 (m.top + 1)]) hE.kind (hE.nogh _) mixed (by kernel_rfl) ⟨h0, h1, trivial⟩ hg
theorem p90_0e (yv0 : Value) (m : Mot) (fails : Bool) (l : List Pt) (p : Nat)  {E : Env} {xs : List (List AV)} {yv : Value} {Y : Option Nat → Sd} {cont : Nat → Bool} {e : Option Nat}  (hE : IterE Try.prog 90 xs yv Y cont e e E) (h0 : (decide (((p : Nat) : Int) < ((l.length : Nat) : Int))) = false) : G Try.prog E (f90K0 Try.prog) (f90S0 yv0 m fails l p) :=
  iter_end (n := 400) (evs := [.b false]) (obs := [(decide (((p : Nat) : Int) < ((l.length : Nat) : Int))) = false]) hE Try.func90 (by kernel_rfl) mixed (by kernel_rfl) ⟨h0, trivial⟩
def f90K2 (P : Program) : List Item := kAt 400 [.code (bodyAt P 90)] [.b true, .b true, .stop]
def f90S2 (yv0 : Value) (m : Mot) (fails : Bool) (l : List Pt) (p v : Nat) (w : Int) : St := ⟨[.opq yv0, .rptr [.int .i64 m.top, .int .i64 m.ease, .int .i64 m.jerk] 0, .junk, .junk, .junk, .int .i64 (ease m fails), .int .i64 ((p : Nat) : Int), .int .i64 ((v : Nat) : Int), .int .i64 w, .junk, .junk, .junk, .junk, .int .i64 ((l.length : Nat) : Int), .int .i64 ((p : Nat) : Int), .junk, .junk, .junk, .junk, .int .i64 (m.top + 1), .int .i64 ((v : Nat) : Int), .junk, .junk, .junk, .junk, .junk, .junk, .junk, .junk, .junk, .junk, .junk, .junk, .junk, .junk, .junk, .junk, .junk, .junk, .junk, .junk, .junk, .junk, .junk, .junk, .junk], []⟩
theorem p90_1n (yv0 : Value) (m : Mot) (fails : Bool) (l : List Pt) (p v : Nat)  {E : Env} {xs : List (List AV)} {yv : Value} {Y : Option Nat → Sd} {cont : Nat → Bool} {e : Option Nat} {o : Option Nat} (hE : IterE Try.prog 90 xs yv Y cont e o E) (h0 : (decide (((v : Nat) : Int) < (m.top + 1))) = true) (h1 : InR .i64 (((v : Nat) : Int) - (ease m fails)))
    (hg : G Try.prog E (f90K2 Try.prog) (f90S2 yv0 m fails l p v (iMax 0 (((v : Nat) : Int) - (ease m fails))))) : G Try.prog E (f90K1 Try.prog) (f90S1 yv0 m fails l p v) :=
  segN_step (n := 400) (ds := []) (live := [0, 1, 5, 6, 7, 8, 13, 14, 19, 20]) (m := 0) (evs := [.b true, .stop]) (obs := [(decide (((v : Nat) : Int) < (m.top + 1))) = true, InR .i64 (((v : Nat) : Int) - (ease m fails))]) hE.kind (hE.nogh _) mixed (by kernel_rfl) ⟨h0, h1, trivial⟩ hg
theorem p90_1e (yv0 : Value) (m : Mot) (fails : Bool) (l : List Pt) (p v : Nat)  {E : Env} {xs : List (List AV)} {yv : Value} {Y : Option Nat → Sd} {cont : Nat → Bool} {e : Option Nat} {o : Option Nat} (hE : IterE Try.prog 90 xs yv Y cont e o E) (h0 : (decide (((v : Nat) : Int) < (m.top + 1))) = false) (h1 : InR .i64 (((p : Nat) : Int) + 1))
    (hg : G Try.prog E (f90K0 Try.prog) (f90S0 yv0 m fails l (p + 1))) : G Try.prog E (f90K1 Try.prog) (f90S1 yv0 m fails l p v) :=
  segN_step (n := 400) (ds := []) (live := [0, 1, 5, 13, 14]) (m := 0) (evs := [.b false, .stop]) (obs := [(decide (((v : Nat) : Int) < (m.top + 1))) = false, InR .i64 (((p : Nat) : Int) + 1)]) hE.kind (hE.nogh _) mixed (by kernel_rfl) ⟨h0, h1, trivial⟩ hg
def f90Kh (P : Program) : List Item := toOp 5 (kReg 400 [.code (bodyAt P 90)] [.b true, .b true, .b true] 9)
def f90Sh (yv0 : Value) (m : Mot) (fails : Bool) (l : List Pt) (p v : Nat) (w : Int) : St := ⟨[.opq yv0, .rptr [.int .i64 m.top, .int .i64 m.ease, .int .i64 m.jerk] 0, .junk, .junk, .junk, .int .i64 (ease m fails), .int .i64 ((p : Nat) : Int), .int .i64 ((v : Nat) : Int), .int .i64 w, .junk, .junk, .junk, .junk, .int .i64 ((l.length : Nat) : Int), .int .i64 ((p : Nat) : Int), .junk, .junk, .junk, .junk, .int .i64 (m.top + 1), .int .i64 ((v : Nat) : Int), .junk, .junk, .junk, .junk, .junk, .junk, .int .i64 w, .rptr [.int .i64 m.top, .int .i64 m.ease, .int .i64 m.jerk] 0, .int .i64 m.top, .int .i64 ((v : Nat) : Int), .int .i64 (ease m fails), .int .i64 (((v : Nat) : Int) + (ease m fails)), .int .i64 (iMin m.top (((v : Nat) : Int) + (ease m fails))), .bool (decide (w ≤ (iMin m.top (((v : Nat) : Int) + (ease m fails))))), .junk, .junk, .opq yv0, .int .i64 ((p : Nat) : Int), .int .i64 ((v : Nat) : Int), .int .i64 w, .agg [.int .i64 ((p : Nat) : Int), .int .i64 ((v : Nat) : Int), .int .i64 w], .junk, .junk, .junk, .junk], []⟩
def f90Kha (P : Program) : List Item := toOp 6 (kReg 400 [.code (bodyAt P 90)] [.b true, .b true, .b true] 9)
def f90Sha (yv0 : Value) (m : Mot) (fails : Bool) (l : List Pt) (p v : Nat) (w : Int) (b : Bool) : St := ⟨[.opq yv0, .rptr [.int .i64 m.top, .int .i64 m.ease, .int .i64 m.jerk] 0, .junk, .junk, .junk, .int .i64 (ease m fails), .int .i64 ((p : Nat) : Int), .int .i64 ((v : Nat) : Int), .int .i64 w, .junk, .junk, .junk, .junk, .int .i64 ((l.length : Nat) : Int), .int .i64 ((p : Nat) : Int), .junk, .junk, .junk, .junk, .int .i64 (m.top + 1), .int .i64 ((v : Nat) : Int), .junk, .junk, .junk, .junk, .junk, .junk, .int .i64 w, .rptr [.int .i64 m.top, .int .i64 m.ease, .int .i64 m.jerk] 0, .int .i64 m.top, .int .i64 ((v : Nat) : Int), .int .i64 (ease m fails), .int .i64 (((v : Nat) : Int) + (ease m fails)), .int .i64 (iMin m.top (((v : Nat) : Int) + (ease m fails))), .bool (decide (w ≤ (iMin m.top (((v : Nat) : Int) + (ease m fails))))), .junk, .junk, .opq yv0, .int .i64 ((p : Nat) : Int), .int .i64 ((v : Nat) : Int), .int .i64 w, .agg [.int .i64 ((p : Nat) : Int), .int .i64 ((v : Nat) : Int), .int .i64 w], .bool b, .junk, .junk, .junk], []⟩
theorem f90_h (yv0 : Value) (m : Mot) (fails : Bool) (l : List Pt) (p v : Nat) (w : Int) : yieldA (f90Kh Try.prog) (f90Sh yv0 m fails l p v w) = some (f90Kha Try.prog, some 42, yv0, [.agg [.int .i64 ((p : Nat) : Int), .int .i64 ((v : Nat) : Int), .int .i64 w]]) := by kernel_rfl
theorem p90_2h (yv0 : Value) (m : Mot) (fails : Bool) (l : List Pt) (p v : Nat) (w : Int)  {E : Env} {xs : List (List AV)} {yv : Value} {Y : Option Nat → Sd} {cont : Nat → Bool} {e : Option Nat} {o : Option Nat} (hE : IterE Try.prog 90 xs yv Y cont e o E) (h0 : InR .i64 (((v : Nat) : Int) + (ease m fails))) (h1 : (decide (w ≤ (iMin m.top (((v : Nat) : Int) + (ease m fails))))) = true)
    (hg : G Try.prog E (f90Kh Try.prog) (f90Sh yv0 m fails l p v w)) : G Try.prog E (f90K2 Try.prog) (f90S2 yv0 m fails l p v w) :=
  segN_step (n := 400) (ds := []) (live := [0, 1, 2, 3, 4, 5, 6, 7, 8, 9, 10, 11, 12, 13, 14, 15, 16, 17, 18, 19, 20, 21, 22, 23, 24, 25, 26, 27, 28, 29, 30, 31, 32, 33, 34, 35, 36, 37, 38, 39, 40, 41, 42, 43, 44, 45]) (m := 0) (evs := [.b true, .hold 5]) (obs := [InR .i64 (((v : Nat) : Int) + (ease m fails)), (decide (w ≤ (iMin m.top (((v : Nat) : Int) + (ease m fails))))) = true]) hE.kind (hE.nogh _) mixed (by kernel_rfl) ⟨h0, h1, trivial⟩ hg
theorem p90_2e (yv0 : Value) (m : Mot) (fails : Bool) (l : List Pt) (p v : Nat) (w : Int)  {E : Env} {xs : List (List AV)} {yv : Value} {Y : Option Nat → Sd} {cont : Nat → Bool} {e : Option Nat} {o : Option Nat} (hE : IterE Try.prog 90 xs yv Y cont e o E) (h0 : InR .i64 (((v : Nat) : Int) + (ease m fails))) (h1 : (decide (w ≤ (iMin m.top (((v : Nat) : Int) + (ease m fails))))) = false) (h2 : InR .i64 (((v : Nat) : Int) + 1))
    (hg : G Try.prog E (f90K1 Try.prog) (f90S1 yv0 m fails l p (v + 1))) : G Try.prog E (f90K2 Try.prog) (f90S2 yv0 m fails l p v w) :=
  segN_step (n := 400) (ds := []) (live := [0, 1, 5, 6, 13, 14, 19, 20]) (m := 0) (evs := [.b false, .stop]) (obs := [InR .i64 (((v : Nat) : Int) + (ease m fails)), (decide (w ≤ (iMin m.top (((v : Nat) : Int) + (ease m fails))))) = false, InR .i64 (((v : Nat) : Int) + 1)]) hE.kind (hE.nogh _) mixed (by kernel_rfl) ⟨h0, h1, h2, trivial⟩ hg
theorem p90_a0 (yv0 : Value) (m : Mot) (fails : Bool) (l : List Pt) (p v : Nat) (w : Int) (b : Bool)  {E : Env} {xs : List (List AV)} {yv : Value} {Y : Option Nat → Sd} {cont : Nat → Bool} {e : Option Nat}  (hE : IterE Try.prog 90 xs yv Y cont e e E) (h0 : (!b) = true) : G Try.prog E (f90Kha Try.prog) (f90Sha yv0 m fails l p v w b) :=
  iter_end (n := 400) (evs := [.b true]) (obs := [(!b) = true]) hE Try.func90 (by kernel_rfl) mixed (by kernel_rfl) ⟨h0, trivial⟩
theorem p90_a1 (yv0 : Value) (m : Mot) (fails : Bool) (l : List Pt) (p v : Nat) (w : Int) (b : Bool)  {E : Env} {xs : List (List AV)} {yv : Value} {Y : Option Nat → Sd} {cont : Nat → Bool} {e : Option Nat} {o : Option Nat} (hE : IterE Try.prog 90 xs yv Y cont e o E) (h0 : (!b) = false) (h1 : InR .i64 (w + 1))
    (hg : G Try.prog E (f90K2 Try.prog) (f90S2 yv0 m fails l p v (w + 1))) : G Try.prog E (f90Kha Try.prog) (f90Sha yv0 m fails l p v w b) :=
  segN_step (n := 400) (ds := []) (live := [0, 1, 5, 6, 7, 8, 13, 14, 19, 20]) (m := 0) (evs := [.b false, .stop]) (obs := [(!b) = false, InR .i64 (w + 1)]) hE.kind (hE.nogh _) mixed (by kernel_rfl) ⟨h0, h1, trivial⟩ hg
end Go.Proofs.Ytideokfbnegkjaa

namespace Go.Proofs.Ytideokfbnegkjaa
open Go Ax
open Go.Proofs

def argC (c : Chg) : List AV := [.agg [.int .i64 c.phase, .int .i64 c.before, .int .i64 c.after]]

theorem wsL_nil {st : Int} {p v w : Nat} : ∀ {d : Nat}, (∀ w', w ≤ w' → w' < w + d → nearC st v w' = false) → wsL st p v w d = []
  | 0, h => rfl
  | d + 1, h => by
    have h0 := h w (Nat.le_refl _) (by omega)
    have ih := wsL_nil (st := st) (p := p) (v := v) (w := w + 1) (d := d) fun w' a b => h w' (by omega) (by omega)
    unfold wsL at ih ⊢
    rw [List.range'_succ, List.flatMap_cons, h0, ih]; rfl

theorem wsL_add {st : Int} {p v w a b : Nat} : wsL st p v w (a + b) = wsL st p v w a ++ wsL st p v (w + a) b := by
  unfold wsL
  rw [← List.flatMap_append, List.range'_append_1]

theorem near_iff {st : Int} {v w : Nat} : nearC st v w = true ↔ (v : Int) - w ≤ st ∧ (w : Int) - v ≤ st := by
  simp [nearC]

theorem drop_cons {α : Type} {L : List α} {n : Nat} {a : α} {r : List α} (h : L.drop n = a :: r) : L[n]? = some a ∧ L.drop (n + 1) = r ∧ n < L.length := by
  have hn : n < L.length := by
    rcases Nat.lt_or_ge n L.length with h1 | h1
    · exact h1
    · rw [List.drop_eq_nil_of_le h1] at h; cases h
  rw [List.drop_eq_getElem_cons hn] at h
  simp only [List.cons.injEq] at h
  exact ⟨by rw [List.getElem?_eq_getElem hn, h.1], h.2, hn⟩

section
variable {L : List Chg} {yv : Value} {Y : Option Nat → Sd} {cont : Nat → Bool} {e : Option Nat} {m : Mot} {fails : Bool} {l : List Pt} {T : Nat}

theorem it_w (hT : m.top = T) (hT' : T ≤ 10) (h0 : 0 ≤ ease m fails) (h1 : ease m fails ≤ 10) {p v : Nat} (hv : v ≤ 10) {R : List Chg} :
    ∀ (d w n : Nat) (E : Env), w + d = T + 1 → (v : Int) - w ≤ ease m fails → IterE Try.prog 90 (L.map argC) yv Y cont e (some n) E → stopAt cont n (L.length - n) = e → L.drop n = wsL (ease m fails) p v w d ++ R →
      (∀ (E' : Env) (n' : Nat), IterE Try.prog 90 (L.map argC) yv Y cont e (some n') E' → stopAt cont n' (L.length - n') = e → L.drop n' = R → G Try.prog E' (f90K1 Try.prog) (f90S1 yv m fails l p (v + 1))) →
      G Try.prog E (f90K2 Try.prog) (f90S2 yv m fails l p v w)
  | 0, w, n, E, hd, hlo, hE, hi, hL, hg => by
    refine p90_2e yv m fails l p v w hE (by unfold InR; omega) (by unfold iMin; simp; split <;> omega) (by unfold InR; omega) (hg E n hE hi ?_)
    simpa [wsL] using hL
  | d + 1, w, n, E, hd, hlo, hE, hi, hL, hg => by
    by_cases hw : (w : Int) - v ≤ ease m fails
    · have hn : nearC (ease m fails) v w = true := near_iff.2 ⟨hlo, hw⟩
      have hcons : wsL (ease m fails) p v w (d + 1) = (⟨p, v, w⟩ : Chg) :: wsL (ease m fails) p v (w + 1) d := by simp [wsL, List.range'_succ, List.flatMap_cons, hn]
      rw [hcons, List.cons_append] at hL
      obtain ⟨g1, g2, g3⟩ := drop_cons hL
      refine p90_2h yv m fails l p v w hE (by unfold InR; omega) (by unfold iMin; simp; split <;> omega) ?_
      refine yield_stepA (x := argC ⟨p, v, w⟩) hE (by simp [g1]) (f90_h yv m fails l p v w) rfl fun E' hE' => ?_
      have hst : L.length - n = (L.length - (n + 1)) + 1 := by omega
      rw [hst] at hi
      simp only [stopAt] at hi
      cases hc : cont n with
      | true =>
        simp only [nxt, hc, cond_true] at hE' hi
        refine p90_a1 yv m fails l p v w true hE' rfl (by unfold InR; omega) ?_
        exact it_w hT hT' h0 h1 hv d (w + 1) (n + 1) E' (by omega) (by omega) hE' hi g2 hg
      | false =>
        simp only [nxt, hc, cond_false] at hE' hi
        subst hi
        exact p90_a0 yv m fails l p v w false hE' rfl
    · have hnil : wsL (ease m fails) p v w (d + 1) = [] := wsL_nil fun w' a b => by
        rw [← Bool.not_eq_true, near_iff]; omega
      rw [hnil, List.nil_append] at hL
      exact p90_2e yv m fails l p v w hE (by unfold InR; omega) (by unfold iMin; simp; split <;> omega) (by unfold InR; omega) (hg E n hE hi hL)

theorem it_v (hT : m.top = T) (hT' : T ≤ 10) (h0 : 0 ≤ ease m fails) (h1 : ease m fails ≤ 10) {p : Nat} (hp : p ≤ 1000) {R : List Chg} :
    ∀ (d v n : Nat) (E : Env), v + d = T + 1 → IterE Try.prog 90 (L.map argC) yv Y cont e (some n) E → stopAt cont n (L.length - n) = e → L.drop n = vsL (ease m fails) T p v d ++ R →
      (∀ (E' : Env) (n' : Nat), IterE Try.prog 90 (L.map argC) yv Y cont e (some n') E' → stopAt cont n' (L.length - n') = e → L.drop n' = R → G Try.prog E' (f90K0 Try.prog) (f90S0 yv m fails l (p + 1))) →
      G Try.prog E (f90K1 Try.prog) (f90S1 yv m fails l p v)
  | 0, v, n, E, hd, hE, hi, hL, hg => by
    refine p90_1e yv m fails l p v hE (by simp; omega) (by unfold InR; omega) (hg E n hE hi ?_)
    simpa [vsL] using hL
  | d + 1, v, n, E, hd, hE, hi, hL, hg => by
    have hcons : vsL (ease m fails) T p v (d + 1) = wsL (ease m fails) p v 0 (T + 1) ++ vsL (ease m fails) T p (v + 1) d := by simp [vsL, List.range'_succ, List.flatMap_cons]
    have hB : ease m fails = ((ease m fails).toNat : Int) := by omega
    have hlo : v - (ease m fails).toNat ≤ T := by omega
    have hsplit : wsL (ease m fails) p v 0 (T + 1) = wsL (ease m fails) p v (v - (ease m fails).toNat) (T + 1 - (v - (ease m fails).toNat)) := by
      have e1 : T + 1 = (v - (ease m fails).toNat) + (T + 1 - (v - (ease m fails).toNat)) := by omega
      rw [e1, wsL_add, wsL_nil (w := 0) (d := v - (ease m fails).toNat) fun w' a b => by rw [← Bool.not_eq_true, near_iff]; omega]
      simp only [List.nil_append, Nat.zero_add]
      congr 1; omega
    rw [hcons, List.append_assoc, hsplit] at hL
    refine p90_1n yv m fails l p v hE (by simp; omega) (by unfold InR; omega) ?_
    have ew : iMax 0 ((v : Int) - ease m fails) = ((v - (ease m fails).toNat : Nat) : Int) := by unfold iMax; split <;> omega
    rw [ew]
    exact it_w hT hT' h0 h1 (by omega) _ _ n E (by omega) (by omega) hE hi hL fun E' n' hE' hi' hL' => it_v hT hT' h0 h1 hp d (v + 1) n' E' (by omega) hE' hi' hL' hg

theorem it_p (hT : m.top = T) (hT' : T ≤ 10) (h0 : 0 ≤ ease m fails) (h1 : ease m fails ≤ 10) (hl : l.length ≤ 1000) :
    ∀ (d p n : Nat) (E : Env), p + d = l.length → IterE Try.prog 90 (L.map argC) yv Y cont e (some n) E → stopAt cont n (L.length - n) = e → L.drop n = psL (ease m fails) T p d →
      G Try.prog E (f90K0 Try.prog) (f90S0 yv m fails l p)
  | 0, p, n, E, hd, hE, hi, hL => by
    have hn : L.length ≤ n := by
      have : L.drop n = [] := by rw [hL]; rfl
      exact List.drop_eq_nil_iff.1 this
    have e0 : L.length - n = 0 := by omega
    rw [e0] at hi
    simp only [stopAt] at hi
    subst hi
    exact p90_0e yv m fails l p hE (by simp; omega)
  | d + 1, p, n, E, hd, hE, hi, hL => by
    have hcons : psL (ease m fails) T p (d + 1) = vsL (ease m fails) T p 0 (T + 1) ++ psL (ease m fails) T (p + 1) d := by simp [psL, List.range'_succ, List.flatMap_cons]
    rw [hcons] at hL
    refine p90_0n yv m fails l p hE (by simp; omega) (by unfold InR; omega) ?_
    exact it_v hT hT' h0 h1 (by omega) (T + 1) 0 n E (by omega) hE hi hL fun E' n' hE' hi' hL' => it_p hT hT' h0 h1 hl d (p + 1) n' E' (by omega) hE' hi' hL'

end

/-- The program's changes: the reference's, one after the other. -/
theorem changesP_iter (l : List Pt) (m : Mot) (fails : Bool) (T : Nat) (hm : MotW m fails T) (hl : l.length ≤ 1000) : IterF Try.prog (changesV l m fails) ((chgs (ease m fails) T l.length).map argC) :=
  iterF_of Try.func90 (by kernel_rfl) f90b fun E yv Y cont hE => by
    have hx : ((chgs (ease m fails) T l.length).map argC).length = (chgs (ease m fails) T l.length).length := by simp
    rw [hx] at hE
    exact p90_s yv m fails l hE (it_p (T := T) hm.top hm.le hm.e0 hm.e1 hl l.length 0 0 E (by omega) hE (by simp) rfl)


end Go.Proofs.Ytideokfbnegkjaa

namespace Go.Proofs.Ytideokfbnegkjaa
open Go Ax
open Go.Proofs

theorem f47b : Try.f47.body = some (bodyAt Try.prog 47) := by kernel_rfl
def f47Kr (P : Program) : List Item := kAt 400 [.code (bodyAt P 47)] []
def f47Sr (l : List Pt) (m : Mot) (x : Lim) (fails : Bool) : St := ⟨[.rsl (rowP l) 0 l.length, .agg [.int .i64 m.top, .int .i64 m.ease, .int .i64 m.jerk], .agg [.int .i64 x.side, .int .i64 x.low, .int .i64 x.high], .bool fails, .ptr 0 0 0, .ptr 1 0 0, .ptr 2 0 0, .tup [], .ptr 3 0 0, .ptr 4 0 0, .tup [], .rsl (rowP l) 0 l.length, .agg [.int .i64 m.top, .int .i64 m.ease, .int .i64 m.jerk], .bool fails, .clos 90 [] [.rptr [.int .i64 m.top, .int .i64 m.ease, .int .i64 m.jerk] 0, .rptr [.bool fails] 0, .rptr [.rsl (rowP l) 0 l.length] 0], .tup [], .tup [], .tup [], .tup [], .tup [], .tup [], .tup [], .tup [], .tup []], [⟨true, 0, 1, true, [.rsl (rowP l) 0 l.length], false⟩, ⟨true, 0, 1, true, [.int .i64 m.top, .int .i64 m.ease, .int .i64 m.jerk], false⟩, ⟨true, 0, 1, true, [.int .i64 x.side, .int .i64 x.low, .int .i64 x.high], false⟩, ⟨true, 0, 1, true, [.int .i64 0, .int .i64 0, .int .i64 0], false⟩, ⟨true, 0, 1, true, [.bool false], false⟩]⟩
theorem p47_s (l : List Pt) (m : Mot) (x : Lim) (fails : Bool)  {E : Env} {res : AV} (hE : PureE Try.prog 47 res E) 
    (hg : G Try.prog E (f47Kr Try.prog) (f47Sr l m x fails )) : G Try.prog E [.code (bodyAt Try.prog 47)] ⟨[.rsl (rowP l) 0 l.length, .agg [.int .i64 m.top, .int .i64 m.ease, .int .i64 m.jerk], .agg [.int .i64 x.side, .int .i64 x.low, .int .i64 x.high], .bool fails] ++ unds (Try.f47.ntmps - 4), []⟩ :=
  segN_step (n := 400) (ds := []) (live := [0, 1, 2, 3, 4, 5, 6, 7, 8, 9, 10, 11, 12, 13, 14, 15, 16, 17, 18, 19, 20, 21, 22, 23]) (m := 5) (evs := [.v (.clos 90 [] [.rptr [.int .i64 m.top, .int .i64 m.ease, .int .i64 m.jerk] 0, .rptr [.bool fails] 0, .rptr [.rsl (rowP l) 0 l.length] 0])]) (obs := [PureF Try.prog (.clos 67 [] []) [.rsl (rowP l) 0 l.length, .agg [.int .i64 m.top, .int .i64 m.ease, .int .i64 m.jerk], .bool fails] (.clos 90 [] [.rptr [.int .i64 m.top, .int .i64 m.ease, .int .i64 m.jerk] 0, .rptr [.bool fails] 0, .rptr [.rsl (rowP l) 0 l.length] 0])]) hE.2.1 (hE.nogh _) mixed (by kernel_rfl) ⟨(changesP_F l m fails), trivial⟩ hg
def f47S1 (l : List Pt) (m : Mot) (x : Lim) (fails : Bool) (c : Chg) : St := ⟨[.rsl (rowP l) 0 l.length, .agg [.int .i64 m.top, .int .i64 m.ease, .int .i64 m.jerk], .agg [.int .i64 x.side, .int .i64 x.low, .int .i64 x.high], .bool fails, .ptr 0 0 0, .ptr 1 0 0, .ptr 2 0 0, .tup [], .ptr 3 0 0, .ptr 4 0 0, .ptr 5 0 0, .rsl (rowP l) 0 l.length, .agg [.int .i64 m.top, .int .i64 m.ease, .int .i64 m.jerk], .bool fails, .clos 90 [] [.rptr [.int .i64 m.top, .int .i64 m.ease, .int .i64 m.jerk] 0, .rptr [.bool fails] 0, .rptr [.rsl (rowP l) 0 l.length] 0], .agg [.int .i64 c.phase, .int .i64 c.before, .int .i64 c.after], .tup [], .tup [], .tup [], .tup [], .tup [], .tup [], .tup [], .tup []], [⟨true, 0, 1, true, [.rsl (rowP l) 0 l.length], false⟩, ⟨true, 0, 1, true, [.int .i64 m.top, .int .i64 m.ease, .int .i64 m.jerk], false⟩, ⟨true, 0, 1, true, [.int .i64 x.side, .int .i64 x.low, .int .i64 x.high], false⟩, ⟨true, 0, 1, true, [.int .i64 0, .int .i64 0, .int .i64 0], false⟩, ⟨true, 0, 1, true, [.bool false], false⟩, ⟨true, 0, 1, true, [.int .i64 c.phase, .int .i64 c.before, .int .i64 c.after], false⟩]⟩
theorem r47_a (l : List Pt) (m : Mot) (x : Lim) (fails : Bool) (c : Chg) {E : Env} (hE : RoundE (f47Sr l m x fails).tmps E) 
    (hg : G Try.prog E [.beginRound, .code (rfBody (f47Kr Try.prog))] (f47S1 l m x fails c)) : G Try.prog E [.code (rfAssign (f47Kr Try.prog)), .beginRound, .code (rfBody (f47Kr Try.prog))] ⟨putPs (f47Sr l m x fails).tmps [15] (argC c), (f47Sr l m x fails).blks⟩ :=
  segN_step (n := 400) (ds := []) (live := [0, 1, 2, 3, 4, 5, 6, 7, 8, 9, 10, 11, 12, 13, 14, 15, 16, 17, 18, 19, 20, 21, 22, 23]) (m := 6) (evs := []) (obs := [3 ≤ 3]) hE.kind (by rw [hE.gA]; kernel_rfl) mixed (by kernel_rfl) ⟨(by decide), trivial⟩ hg
def f47E0 (l : List Pt) (m : Mot) (x : Lim) (fails : Bool) (c : Chg) : St := ⟨[.junk, .junk, .junk, .junk, .junk, .junk, .junk, .junk, .junk, .junk, .junk, .junk, .junk, .junk, .junk, .junk, .junk, .junk, .junk, .junk, .junk, .junk, .junk, .junk], [⟨true, 0, 1, true, [.rsl (rowP l) 0 l.length], false⟩, ⟨true, 0, 1, true, [.int .i64 m.top, .int .i64 m.ease, .int .i64 m.jerk], false⟩, ⟨true, 0, 1, true, [.int .i64 x.side, .int .i64 x.low, .int .i64 x.high], false⟩, ⟨true, 0, 1, true, [.int .i64 c.phase, .int .i64 c.before, .int .i64 c.after], false⟩, ⟨true, 0, 1, true, [.bool true], false⟩]⟩
theorem r47_b0 (l : List Pt) (m : Mot) (x : Lim) (fails : Bool) (c : Chg) {E : Env} (hE : RoundE (f47Sr l m x fails).tmps E) (h0 : PureF Try.prog (.clos 52 [] []) [.rsl (rowP l) 0 l.length, .agg [.int .i64 c.phase, .int .i64 c.before, .int .i64 c.after]] (.agg [.int .i64 ((feltP l c).x), .int .i64 ((feltP l c).y), .int .i64 ((feltP l c).z)])) (h1 : PureF Try.prog (.clos 72 [] []) [.agg [.int .i64 ((feltP l c).x), .int .i64 ((feltP l c).y), .int .i64 ((feltP l c).z)], .agg [.int .i64 x.side, .int .i64 x.low, .int .i64 x.high]] (.bool (keptP (feltP l c) x))) (h2 : (!(keptP (feltP l c) x)) = true)
    (hg : G Try.prog E (kAt 400 [.code (rfBody (f47Kr Try.prog))] [.b true]) (f47E0 l m x fails c)) : G Try.prog E [.code (rfBody (f47Kr Try.prog))] (f47S1 l m x fails c) :=
  segN_step (n := 400) (ds := []) (live := []) (m := 5) (evs := [.v (.agg [.int .i64 ((feltP l c).x), .int .i64 ((feltP l c).y), .int .i64 ((feltP l c).z)]), .v (.bool (keptP (feltP l c) x)), .b true]) (obs := [PureF Try.prog (.clos 52 [] []) [.rsl (rowP l) 0 l.length, .agg [.int .i64 c.phase, .int .i64 c.before, .int .i64 c.after]] (.agg [.int .i64 ((feltP l c).x), .int .i64 ((feltP l c).y), .int .i64 ((feltP l c).z)]), PureF Try.prog (.clos 72 [] []) [.agg [.int .i64 ((feltP l c).x), .int .i64 ((feltP l c).y), .int .i64 ((feltP l c).z)], .agg [.int .i64 x.side, .int .i64 x.low, .int .i64 x.high]] (.bool (keptP (feltP l c) x)), (!(keptP (feltP l c) x)) = true, 3 ≤ 3, 1 ≤ 1]) hE.kind (by rw [hE.gA]; kernel_rfl) mixed (by kernel_rfl) ⟨h0, h1, h2, (by decide), (by decide), trivial⟩ hg
def f47E1 (l : List Pt) (m : Mot) (x : Lim) (fails : Bool) (c : Chg) : St := ⟨[.junk, .junk, .junk, .junk, .junk, .junk, .junk, .junk, .junk, .junk, .junk, .junk, .junk, .junk, .junk, .junk, .junk, .junk, .junk, .junk, .junk, .junk, .junk, .junk], [⟨true, 0, 1, true, [.rsl (rowP l) 0 l.length], false⟩, ⟨true, 0, 1, true, [.int .i64 m.top, .int .i64 m.ease, .int .i64 m.jerk], false⟩, ⟨true, 0, 1, true, [.int .i64 x.side, .int .i64 x.low, .int .i64 x.high], false⟩, ⟨true, 0, 1, true, [.int .i64 0, .int .i64 0, .int .i64 0], false⟩, ⟨true, 0, 1, true, [.bool false], false⟩]⟩
theorem r47_b1 (l : List Pt) (m : Mot) (x : Lim) (fails : Bool) (c : Chg) {E : Env} (hE : RoundE (f47Sr l m x fails).tmps E) (h0 : PureF Try.prog (.clos 52 [] []) [.rsl (rowP l) 0 l.length, .agg [.int .i64 c.phase, .int .i64 c.before, .int .i64 c.after]] (.agg [.int .i64 ((feltP l c).x), .int .i64 ((feltP l c).y), .int .i64 ((feltP l c).z)])) (h1 : PureF Try.prog (.clos 72 [] []) [.agg [.int .i64 ((feltP l c).x), .int .i64 ((feltP l c).y), .int .i64 ((feltP l c).z)], .agg [.int .i64 x.side, .int .i64 x.low, .int .i64 x.high]] (.bool (keptP (feltP l c) x))) (h2 : (!(keptP (feltP l c) x)) = false)
    (hg : G Try.prog E [] (f47E1 l m x fails c)) : G Try.prog E [.code (rfBody (f47Kr Try.prog))] (f47S1 l m x fails c) :=
  segN_step (n := 400) (ds := []) (live := []) (m := 5) (evs := [.v (.agg [.int .i64 ((feltP l c).x), .int .i64 ((feltP l c).y), .int .i64 ((feltP l c).z)]), .v (.bool (keptP (feltP l c) x)), .b false]) (obs := [PureF Try.prog (.clos 52 [] []) [.rsl (rowP l) 0 l.length, .agg [.int .i64 c.phase, .int .i64 c.before, .int .i64 c.after]] (.agg [.int .i64 ((feltP l c).x), .int .i64 ((feltP l c).y), .int .i64 ((feltP l c).z)]), PureF Try.prog (.clos 72 [] []) [.agg [.int .i64 ((feltP l c).x), .int .i64 ((feltP l c).y), .int .i64 ((feltP l c).z)], .agg [.int .i64 x.side, .int .i64 x.low, .int .i64 x.high]] (.bool (keptP (feltP l c) x)), (!(keptP (feltP l c) x)) = false]) hE.kind (by rw [hE.gA]; kernel_rfl) mixed (by kernel_rfl) ⟨h0, h1, h2, trivial⟩ hg
theorem p47_e (l : List Pt) (m : Mot) (x : Lim) (fails : Bool)  {E : Env} {res : AV} (hE : PureE Try.prog 47 res E)  (hr : .tup [.agg [.int .i64 0, .int .i64 0, .int .i64 0], .bool false] = res) : G Try.prog E (rfRest (f47Kr Try.prog)) ⟨(f47Sr l m x fails).tmps, (f47Sr l m x fails).blks⟩ :=
  end_step (n := 400) (evs := []) (obs := [3 ≤ 3, 1 ≤ 1]) hE Try.func47 mixed (by kernel_rfl) ⟨(by decide), (by decide), trivial⟩ hr
theorem p47_r (l : List Pt) (m : Mot) (x : Lim) (fails : Bool) (c : Chg) {E : Env} {res : AV} (hE : PureE Try.prog 47 res E)  (hr : .tup [.agg [.int .i64 c.phase, .int .i64 c.before, .int .i64 c.after], .bool true] = res) : G Try.prog E (.code .ret :: rfRest (f47Kr Try.prog)) ⟨(f47Sr l m x fails).tmps, (f47E0 l m x fails c).blks⟩ :=
  end_step (n := 400) (evs := []) (obs := []) hE Try.func47 mixed (by kernel_rfl) trivial hr
end Go.Proofs.Ytideokfbnegkjaa

namespace Go.Proofs.Ytideokfbnegkjaa
open Go Ax
open Go.Proofs

def firstRes (b : Option Chg) : AV := .tup [.agg [.int .i64 (bad0 b).phase, .int .i64 (bad0 b).before, .int .i64 (bad0 b).after], .bool b.isSome]

def keptAt (l : List Pt) (x : Lim) (L : List Chg) (i : Nat) : Bool := match L[i]? with
  | some c => keptP (feltP l c) x
  | none => true

theorem stop_find {l : List Pt} {x : Lim} {L : List Chg} : ∀ (d i : Nat), i + d = L.length →
    (stopAt (keptAt l x L) i d = none ∧ ∃ c, badC l x (L.drop i) = some c) ∨ (stopAt (keptAt l x L) i d = some L.length ∧ badC l x (L.drop i) = none)
  | 0, i, h => .inr ⟨by simp only [stopAt]; rw [show i = L.length by omega], by rw [List.drop_eq_nil_of_le (by omega)]; rfl⟩
  | d + 1, i, h => by
    have hi : i < L.length := by omega
    have hk : keptAt l x L i = keptP (feltP l L[i]) x := by simp [keptAt, hi]
    simp only [stopAt, hk, badC]
    rw [List.drop_eq_getElem_cons hi, List.find?_cons]
    cases hc : keptP (feltP l L[i]) x with
    | true => simpa [hc, badC] using stop_find (l := l) (x := x) d (i + 1) (by omega)
    | false => exact .inl ⟨rfl, L[i], by simp⟩

theorem bad_at {l : List Pt} {x : Lim} {L : List Chg} {i : Nat} {c : Chg} (h : L[i]? = some c) (hpre : ∀ j, j < i → keptAt l x L j = true) (hc : keptP (feltP l c) x = false) : badC l x L = some c := by
  have hi := get_lt h
  have h2 : L[i] = c := by rw [List.getElem?_eq_getElem hi] at h; simpa using h
  unfold badC
  rw [List.find?_eq_some_iff_getElem]
  refine ⟨by simp [hc], i, hi, h2, fun j hj => ?_⟩
  have := hpre j hj
  simp only [keptAt, List.getElem?_eq_getElem (Nat.lt_trans hj hi)] at this
  simp [this]

theorem changesP_get {L : List Chg} {i : Nat} {a : List AV} (h : (L.map argC)[i]? = some a) : ∃ c, L[i]? = some c ∧ a = argC c := by
  simp only [List.getElem?_map, Option.map_eq_some_iff] at h
  obtain ⟨c, h1, h2⟩ := h
  exact ⟨c, h1, h2.symm⟩

theorem first_ok (l : List Pt) (m : Mot) (x : Lim) (fails : Bool) (T : Nat) (hv : validP l = true) (hm : MotW m fails T) (hx : limitOk x = true) :
    Pure Try.prog 47 [.rsl (rowP l) 0 l.length, .agg [.int .i64 m.top, .int .i64 m.ease, .int .i64 m.jerk], .agg [.int .i64 x.side, .int .i64 x.low, .int .i64 x.high], .bool fails]
      (firstRes (badC l x (chgs (ease m fails) T l.length))) := pure_of Try.func47 f47b fun E hE => by
  have hl := valid_len hv
  refine p47_s l m x fails hE ?_
  have hit := changesP_iter l m fails T hm (by omega)
  have hok : ∀ c ∈ chgs (ease m fails) T l.length, chgOk l.length c := fun c h => chgs_ok hm.le h
  generalize chgs (ease m fails) T l.length = L at hE hit hok
  have hgA : E.gA = [] := hE.2.2.2.2.1
  have hT : (f47Sr l m x fails).tmps ++ E.gA = (f47Sr l m x fails).tmps := by rw [hgA, List.append_nil]
  refine range_stepA (cont := keptAt l x L) (jump := .ret) (g := .tmp 14) (ps := #[15]) (fun o => match o with
      | some _ => (f47Sr l m x fails).blks
      | none => (f47E0 l m x fails (bad0 (badC l x L))).blks) (fun i => f47S1 l m x fails (L.getD i ⟨0, 0, 0⟩)) hE.1 hE.2.1 (by kernel_rfl) rfl rfl hit rfl (fun i a h => ?_) (fun i a h hpre E' hR hfin => ?_) (fun i a h hpre E' hR hfin => ?_) ?_
  · obtain ⟨c, h1, rfl⟩ := changesP_get h; rfl
  · obtain ⟨c, h1, rfl⟩ := changesP_get h
    rw [hT] at hR
    have e : L.getD i ⟨0, 0, 0⟩ = c := by simp [List.getD, h1]
    simp only [e] at hfin
    exact r47_a l m x fails c hR (G_here hfin rfl rfl)
  · obtain ⟨c, h1, rfl⟩ := changesP_get h
    rw [hT] at hR
    have e : L.getD i ⟨0, 0, 0⟩ = c := by simp [List.getD, h1]
    simp only [e]
    have hco := hok c (List.mem_of_getElem? h1)
    have hk : keptAt l x L i = keptP (feltP l c) x := by simp [keptAt, h1]
    rcases Bool.eq_false_or_eq_true (keptP (feltP l c) x) with hc | hc
    · refine r47_b1 l m x fails c hR (felt_F l c hv hco) (keeps_F _ x (felt_side hv c) hx) (by rw [hc]; rfl) (G_here hfin ?_ ?_)
      · simp [hk, hc]
      · simp only [nxt, hk, hc, cond_true]; rfl
    · have hb : badC l x L = some c := bad_at h1 hpre hc
      refine r47_b0 l m x fails c hR (felt_F l c hv hco) (keeps_F _ x (felt_side hv c) hx) (by rw [hc]; rfl) (G_here hfin ?_ ?_)
      · rw [hk, hc]; simp only [Bool.false_eq_true, if_false]
        have hj : ((kAt 400 [.code (rfBody (f47Kr Try.prog))] [.b true]).head?.map fun i => match i with | .code .ret => true | _ => false) = some true := by kernel_rfl
        revert hj
        generalize kAt 400 [.code (rfBody (f47Kr Try.prog))] [.b true] = KK
        intro hj
        match KK, hj with
        | .code .ret :: k, _ => exact ⟨k, rfl, .inl rfl⟩
      · simp only [nxt, hk, hc, cond_false, hb]; rfl
  · have hlen : (L.map argC).length = L.length := by simp
    rw [hlen]
    rcases stop_find (l := l) (x := x) (L := L) L.length 0 (by omega) with ⟨hs, c, hb⟩ | ⟨hs, hb⟩
    · rw [hs]
      rw [List.drop_zero] at hb
      refine p47_r l m x fails (bad0 (badC l x L)) hE ?_
      rw [hb]; rfl
    · rw [hs]
      rw [List.drop_zero] at hb
      refine p47_e l m x fails hE ?_
      rw [hb]; rfl

theorem first_F (l : List Pt) (m : Mot) (x : Lim) (fails : Bool) (T : Nat) (hv : validP l = true) (hm : MotW m fails T) (hx : limitOk x = true) :
    PureF Try.prog (.clos 47 [] []) [.rsl (rowP l) 0 l.length, .agg [.int .i64 m.top, .int .i64 m.ease, .int .i64 m.jerk], .agg [.int .i64 x.side, .int .i64 x.low, .int .i64 x.high], .bool fails]
      (firstRes (badC l x (chgs (ease m fails) T l.length))) := pureF_of Try.func47 (by kernel_rfl) f47b (by simpa using first_ok l m x fails T hv hm hx)


end Go.Proofs.Ytideokfbnegkjaa

namespace Go.Proofs.Ytideokfbnegkjaa
open Go Ax
open Go.Proofs

theorem f16b : Try.f16.body = some (bodyAt Try.prog 16) := by kernel_rfl
theorem p16_e (l : List Pt) (m : Mot) (x : Lim) (fails : Bool) (hl : l.length ≤ 1000) {E : Env} {res : AV} (hE : PureE Try.prog 16 res E) (h2 : ((checkE l m [x]) != 0) = true)
    (hr : .tup [.int .i64 0, .int .i64 (checkE l m [x])] = res) : G Try.prog E [.code (bodyAt Try.prog 16)] ⟨[.rsl (rowP l) 0 l.length, .agg [.int .i64 m.top, .int .i64 m.ease, .int .i64 m.jerk], .agg [.int .i64 x.side, .int .i64 x.low, .int .i64 x.high], .bool fails] ++ unds (Try.f16.ntmps - 4), []⟩ :=
  end_step (n := 400) (evs := [.v (.int .i64 (checkE l m [x])), .b true]) (obs := [PureF Try.prog (.clos 46 [] []) [.rsl (rowP l) 0 l.length, .agg [.int .i64 m.top, .int .i64 m.ease, .int .i64 m.jerk], .rsl [.int .i64 x.side, .int .i64 x.low, .int .i64 x.high] 0 1] (.int .i64 (checkE l m [x])), 0 = 0, ((checkE l m [x]) != 0) = true]) hE Try.func16 mixed (by kernel_rfl) ⟨(check_F l _ [x] hl (by simp)), (rfl), h2, trivial⟩ hr
def f16K0 (P : Program) : List Item := kAt 400 [.code (bodyAt P 16)] [.b false, .stop]
def f16S0 (l : List Pt) (m : Mot) (x : Lim) (fails : Bool) (t : Int) : St := ⟨[.rsl (rowP l) 0 l.length, .junk, .junk, .bool fails, .junk, .ptr 0 0 0, .ptr 1 0 0, .junk, .junk, .junk, .junk, .junk, .junk, .junk, .junk, .junk, .junk, .junk, .junk, .junk, .junk, .junk, .junk, .junk, .junk, .junk, .junk, .junk, .junk, .junk, .junk, .junk, .junk, .junk, .junk, .junk, .junk, .junk, .junk, .junk], [⟨true, 0, 1, true, [.int .i64 t, .int .i64 m.ease, .int .i64 m.jerk], false⟩, ⟨true, 0, 1, true, [.int .i64 x.side, .int .i64 x.low, .int .i64 x.high], false⟩]⟩
theorem p16_s (l : List Pt) (m : Mot) (x : Lim) (fails : Bool) (hl : l.length ≤ 1000) {E : Env} {res : AV} (hE : PureE Try.prog 16 res E) (h2 : ((checkE l m [x]) != 0) = false)
    (hg : G Try.prog E (f16K0 Try.prog) (f16S0 l m x fails m.top)) : G Try.prog E [.code (bodyAt Try.prog 16)] ⟨[.rsl (rowP l) 0 l.length, .agg [.int .i64 m.top, .int .i64 m.ease, .int .i64 m.jerk], .agg [.int .i64 x.side, .int .i64 x.low, .int .i64 x.high], .bool fails] ++ unds (Try.f16.ntmps - 4), []⟩ :=
  segN_step (n := 400) (ds := []) (live := [0, 3, 5, 6]) (m := 2) (evs := [.v (.int .i64 (checkE l m [x])), .b false, .stop]) (obs := [PureF Try.prog (.clos 46 [] []) [.rsl (rowP l) 0 l.length, .agg [.int .i64 m.top, .int .i64 m.ease, .int .i64 m.jerk], .rsl [.int .i64 x.side, .int .i64 x.low, .int .i64 x.high] 0 1] (.int .i64 (checkE l m [x])), 0 = 0, ((checkE l m [x]) != 0) = false]) hE.2.1 (hE.nogh _) mixed (by kernel_rfl) ⟨(check_F l _ [x] hl (by simp)), (rfl), h2, trivial⟩ hg
theorem p16_0 (l : List Pt) (m : Mot) (x : Lim) (fails : Bool) (t : Int) (bc : Chg) (kb : Bool) {E : Env} {res : AV} (hE : PureE Try.prog 16 res E) (h0 : (decide (t > 0)) = true) (h1 : PureF Try.prog (.clos 47 [] []) [.rsl (rowP l) 0 l.length, .agg [.int .i64 t, .int .i64 m.ease, .int .i64 m.jerk], .agg [.int .i64 x.side, .int .i64 x.low, .int .i64 x.high], .bool fails] (.tup [.agg [.int .i64 bc.phase, .int .i64 bc.before, .int .i64 bc.after], .bool kb])) (h3 : (!kb) = true)
    (hr : .tup [.int .i64 t, .int .i64 0] = res) : G Try.prog E (f16K0 Try.prog) (f16S0 l m x fails t) :=
  end_step (n := 400) (evs := [.b true, .v (.tup [.agg [.int .i64 bc.phase, .int .i64 bc.before, .int .i64 bc.after], .bool kb]), .b true]) (obs := [(decide (t > 0)) = true, PureF Try.prog (.clos 47 [] []) [.rsl (rowP l) 0 l.length, .agg [.int .i64 t, .int .i64 m.ease, .int .i64 m.jerk], .agg [.int .i64 x.side, .int .i64 x.low, .int .i64 x.high], .bool fails] (.tup [.agg [.int .i64 bc.phase, .int .i64 bc.before, .int .i64 bc.after], .bool kb]), 3 ≤ 3, (!kb) = true]) hE Try.func16 mixed (by kernel_rfl) ⟨h0, h1, (by decide), h3, trivial⟩ hr
theorem p16_1 (l : List Pt) (m : Mot) (x : Lim) (fails : Bool) (t : Int) (bc : Chg) (kb : Bool) {E : Env} {res : AV} (hE : PureE Try.prog 16 res E) (h0 : (decide (t > 0)) = true) (h1 : PureF Try.prog (.clos 47 [] []) [.rsl (rowP l) 0 l.length, .agg [.int .i64 t, .int .i64 m.ease, .int .i64 m.jerk], .agg [.int .i64 x.side, .int .i64 x.low, .int .i64 x.high], .bool fails] (.tup [.agg [.int .i64 bc.phase, .int .i64 bc.before, .int .i64 bc.after], .bool kb])) (h3 : (!kb) = false) (h4 : InR .i64 (t - 1))
    (hg : G Try.prog E (f16K0 Try.prog) (f16S0 l m x fails (t - 1))) : G Try.prog E (f16K0 Try.prog) (f16S0 l m x fails t) :=
  segN_step (n := 400) (ds := []) (live := [0, 3, 5, 6]) (m := 2) (evs := [.b true, .v (.tup [.agg [.int .i64 bc.phase, .int .i64 bc.before, .int .i64 bc.after], .bool kb]), .b false, .stop]) (obs := [(decide (t > 0)) = true, PureF Try.prog (.clos 47 [] []) [.rsl (rowP l) 0 l.length, .agg [.int .i64 t, .int .i64 m.ease, .int .i64 m.jerk], .agg [.int .i64 x.side, .int .i64 x.low, .int .i64 x.high], .bool fails] (.tup [.agg [.int .i64 bc.phase, .int .i64 bc.before, .int .i64 bc.after], .bool kb]), 3 ≤ 3, (!kb) = false, InR .i64 (t - 1), 1 ≤ 3]) hE.2.1 (hE.nogh _) mixed (by kernel_rfl) ⟨h0, h1, (by decide), h3, h4, (by decide), trivial⟩ hg
theorem p16_2 (l : List Pt) (m : Mot) (x : Lim) (fails : Bool) (t : Int)  {E : Env} {res : AV} (hE : PureE Try.prog 16 res E) (h0 : (decide (t > 0)) = false)
    (hr : .tup [.int .i64 0, .int .i64 3] = res) : G Try.prog E (f16K0 Try.prog) (f16S0 l m x fails t) :=
  end_step (n := 400) (evs := [.b false]) (obs := [(decide (t > 0)) = false]) hE Try.func16 mixed (by kernel_rfl) ⟨h0, trivial⟩ hr

theorem keepB_first (l : List Pt) (x : Lim) (st : Int) (T : Nat) : (badC l x (chgs st T l.length)).isSome = !keepB l x st T := by
  unfold keepB; cases badC l x (chgs st T l.length) <;> rfl

def fastP (l : List Pt) (m : Mot) (x : Lim) (fails : Bool) : Int × Int :=
  bif checkE l m [x] != 0 then (0, checkE l m [x]) else fastR (keepB l x (ease m fails)) m.top.toNat

theorem checkE_zero {l : List Pt} {m : Mot} {x : Lim} (h : (checkE l m [x] != 0) = false) : validP l = true ∧ motorOk m = true ∧ limitOk x = true := by
  simp only [checkE, List.any_cons, List.any_nil, Bool.or_false] at h
  rcases Bool.eq_false_or_eq_true (validP l) with a | a <;> rcases Bool.eq_false_or_eq_true (motorOk m) with b | b <;> rcases Bool.eq_false_or_eq_true (limitOk x) with c | c <;>
    rw [a, b, c] at h <;> first | exact ⟨a, b, c⟩ | (exfalso; revert h; decide)

theorem fastest_ok (l : List Pt) (m : Mot) (x : Lim) (fails : Bool) (hl : l.length ≤ 1000) :
    Pure Try.prog 16 [.rsl (rowP l) 0 l.length, .agg [.int .i64 m.top, .int .i64 m.ease, .int .i64 m.jerk], .agg [.int .i64 x.side, .int .i64 x.low, .int .i64 x.high], .bool fails]
      (.tup [.int .i64 (fastP l m x fails).1, .int .i64 (fastP l m x fails).2]) := pure_of Try.func16 f16b fun E hE => by
  rcases Bool.eq_false_or_eq_true (checkE l m [x] != 0) with hc | hc
  · exact p16_e l m x fails hl hE hc (by simp only [fastP, hc, cond_true])
  · obtain ⟨hv, hm, hx⟩ := checkE_zero hc
    have hb := motorOk_bd hm
    have he := ease_bd hm fails
    have key : ∀ t : Nat, t ≤ 10 → fastR (keepB l x (ease m fails)) t = fastP l m x fails → G Try.prog E (f16K0 Try.prog) (f16S0 l m x fails t) := by
      intro t
      induction t with
      | zero =>
        intro _ hr
        exact p16_2 l m x fails _ hE (by simp) (by rw [← hr]; rfl)
      | succ t ih =>
        intro ht hr
        have hK := first_F l ⟨((t + 1 : Nat) : Int), m.ease, m.jerk⟩ x fails (t + 1) hv ⟨rfl, ht, he.1, he.2⟩ hx
        have hs := keepB_first l x (ease m fails) (t + 1)
        rcases Bool.eq_false_or_eq_true (keepB l x (ease m fails) (t + 1)) with hk | hk
        · refine p16_0 l m x fails _ _ _ hE (by simp <;> omega) hK (by show (!Option.isSome _) = true; rw [show ease ⟨((t + 1 : Nat) : Int), m.ease, m.jerk⟩ fails = ease m fails from rfl, hs, hk]; rfl) ?_
          rw [← hr]; simp only [fastR, hk, cond_true]
        · refine p16_1 l m x fails _ _ _ hE (by simp <;> omega) hK (by show (!Option.isSome _) = false; rw [show ease ⟨((t + 1 : Nat) : Int), m.ease, m.jerk⟩ fails = ease m fails from rfl, hs, hk]; rfl) (by unfold InR; omega) ?_
          have e : ((t + 1 : Nat) : Int) - 1 = (t : Nat) := by omega
          rw [e]
          refine ih (by omega) ?_
          rw [← hr]; simp only [fastR, hk, cond_false]
    refine p16_s l m x fails hl hE hc ?_
    have e : m.top = (m.top.toNat : Int) := by omega
    rw [e]
    exact key m.top.toNat (by omega) (by simp only [fastP, hc, cond_false])

end Go.Proofs.Ytideokfbnegkjaa

namespace Go.Proofs.Ytideokfbnegkjaa
open Go Ax
open Go.Proofs

def footBad (p : Pt) : Bool := !spanned p || p.z != 0

theorem f85b : Try.f85.body = some (bodyAt Try.prog 85) := by kernel_rfl
theorem p85_0 (p : Pt)  {E : Env} {res : AV} (hE : PureE Try.prog 85 res E) (h1 : (!(spanned p)) = true)
    (hr : .bool true = res) : G Try.prog E [.code (bodyAt Try.prog 85)] ⟨[.agg [.int .i64 p.x, .int .i64 p.y, .int .i64 p.z]] ++ unds (Try.f85.ntmps - 1), []⟩ :=
  end_step (n := 400) (evs := [.v (.bool (spanned p)), .b true]) (obs := [PureF Try.prog (.clos 82 [] []) [.agg [.int .i64 p.x, .int .i64 p.y, .int .i64 p.z]] (.bool (spanned p)), (!(spanned p)) = true]) hE Try.func85 mixed (by kernel_rfl) ⟨(spanned_F _), h1, trivial⟩ hr
theorem p85_1 (p : Pt)  {E : Env} {res : AV} (hE : PureE Try.prog 85 res E) (h1 : (!(spanned p)) = false)
    (hr : .bool (p.z != 0) = res) : G Try.prog E [.code (bodyAt Try.prog 85)] ⟨[.agg [.int .i64 p.x, .int .i64 p.y, .int .i64 p.z]] ++ unds (Try.f85.ntmps - 1), []⟩ :=
  end_step (n := 400) (evs := [.v (.bool (spanned p)), .b false]) (obs := [PureF Try.prog (.clos 82 [] []) [.agg [.int .i64 p.x, .int .i64 p.y, .int .i64 p.z]] (.bool (spanned p)), (!(spanned p)) = false]) hE Try.func85 mixed (by kernel_rfl) ⟨(spanned_F _), h1, trivial⟩ hr
theorem foot1_ok (p : Pt)  : Pure Try.prog 85 [.agg [.int .i64 p.x, .int .i64 p.y, .int .i64 p.z]] (.bool (footBad p)) := pure_of Try.func85 f85b fun E hE => by
  rcases Bool.eq_false_or_eq_true (!(spanned p)) with hc0 | hc0
  · exact p85_0 p  hE hc0 (by simp [footBad, *])
  · exact p85_1 p  hE hc0 (by simp [footBad, *])
theorem foot1_F (p : Pt)  : PureF Try.prog (.clos 85 [] []) [.agg [.int .i64 p.x, .int .i64 p.y, .int .i64 p.z]] (.bool (footBad p)) := pureF_of Try.func85 (by kernel_rfl) f85b (by simpa using foot1_ok p )
theorem f99b : Try.f99.body = some (bodyAt Try.prog 99) := by kernel_rfl
def f99K0 (P : Program) : List Item := kAt 400 [.code (bodyAt P 99)] [.stop]
def f99S0 (l : List Pt) (i : Nat) : St := ⟨[.rsl (rowP l) 0 l.length, .clos 85 [] [], .junk, .junk, .junk, .junk, .junk, .int .i64 ((l.length : Nat) : Int), .int .i64 ((i : Nat) : Int), .junk, .junk, .junk, .junk, .junk, .junk, .junk, .junk, .junk, .junk], []⟩
theorem p99_s (l : List Pt)  {E : Env} {res : AV} (hE : PureE Try.prog 99 res E) 
    (hg : G Try.prog E (f99K0 Try.prog) (f99S0 l 0)) : G Try.prog E [.code (bodyAt Try.prog 99)] ⟨[.rsl (rowP l) 0 l.length, .clos 85 [] []] ++ unds (Try.f99.ntmps - 2), []⟩ :=
  segN_step (n := 400) (ds := []) (live := [0, 1, 7, 8]) (m := 0) (evs := [.stop]) (obs := []) hE.2.1 (hE.nogh _) mixed (by kernel_rfl) trivial hg
theorem p99_0 (l : List Pt) (i : Nat) (p : Pt) {E : Env} {res : AV} (hE : PureE Try.prog 99 res E) (h0 : (decide (((i : Nat) : Int) < ((l.length : Nat) : Int))) = true) (h1 : 0 ≤ ((i : Nat) : Int) ∧ ((i : Nat) : Int) < ((l.length : Nat) : Int)) (h2 : ((rowP l).drop (0 + ((Int.toNat ((i : Nat) : Int)) * 3))).take 3 = [.int .i64 p.x, .int .i64 p.y, .int .i64 p.z]) (h4 : (footBad p) = true)
    (hr : .int .i64 ((i : Nat) : Int) = res) : G Try.prog E (f99K0 Try.prog) (f99S0 l i) :=
  end_step (n := 400) (evs := [.b true, .ld (.agg [.int .i64 p.x, .int .i64 p.y, .int .i64 p.z]), .v (.bool (footBad p)), .b true]) (obs := [(decide (((i : Nat) : Int) < ((l.length : Nat) : Int))) = true, 0 ≤ ((i : Nat) : Int) ∧ ((i : Nat) : Int) < ((l.length : Nat) : Int), ((rowP l).drop (0 + ((Int.toNat ((i : Nat) : Int)) * 3))).take 3 = [.int .i64 p.x, .int .i64 p.y, .int .i64 p.z], PureF Try.prog (.clos 85 [] []) [.agg [.int .i64 p.x, .int .i64 p.y, .int .i64 p.z]] (.bool (footBad p)), (footBad p) = true]) hE Try.func99 mixed (by kernel_rfl) ⟨h0, h1, h2, (foot1_F _), h4, trivial⟩ hr
theorem p99_1 (l : List Pt) (i : Nat) (p : Pt) {E : Env} {res : AV} (hE : PureE Try.prog 99 res E) (h0 : (decide (((i : Nat) : Int) < ((l.length : Nat) : Int))) = true) (h1 : 0 ≤ ((i : Nat) : Int) ∧ ((i : Nat) : Int) < ((l.length : Nat) : Int)) (h2 : ((rowP l).drop (0 + ((Int.toNat ((i : Nat) : Int)) * 3))).take 3 = [.int .i64 p.x, .int .i64 p.y, .int .i64 p.z]) (h4 : (footBad p) = false) (h5 : InR .i64 (((i : Nat) : Int) + 1))
    (hg : G Try.prog E (f99K0 Try.prog) (f99S0 l (i + 1))) : G Try.prog E (f99K0 Try.prog) (f99S0 l i) :=
  segN_step (n := 400) (ds := []) (live := [0, 1, 7, 8]) (m := 0) (evs := [.b true, .ld (.agg [.int .i64 p.x, .int .i64 p.y, .int .i64 p.z]), .v (.bool (footBad p)), .b false, .stop]) (obs := [(decide (((i : Nat) : Int) < ((l.length : Nat) : Int))) = true, 0 ≤ ((i : Nat) : Int) ∧ ((i : Nat) : Int) < ((l.length : Nat) : Int), ((rowP l).drop (0 + ((Int.toNat ((i : Nat) : Int)) * 3))).take 3 = [.int .i64 p.x, .int .i64 p.y, .int .i64 p.z], PureF Try.prog (.clos 85 [] []) [.agg [.int .i64 p.x, .int .i64 p.y, .int .i64 p.z]] (.bool (footBad p)), (footBad p) = false, InR .i64 (((i : Nat) : Int) + 1)]) hE.2.1 (hE.nogh _) mixed (by kernel_rfl) ⟨h0, h1, h2, (foot1_F _), h4, h5, trivial⟩ hg
theorem p99_2 (l : List Pt) (i : Nat)  {E : Env} {res : AV} (hE : PureE Try.prog 99 res E) (h0 : (decide (((i : Nat) : Int) < ((l.length : Nat) : Int))) = false)
    (hr : .int .i64 (-1) = res) : G Try.prog E (f99K0 Try.prog) (f99S0 l i) :=
  end_step (n := 400) (evs := [.b false]) (obs := [(decide (((i : Nat) : Int) < ((l.length : Nat) : Int))) = false]) hE Try.func99 mixed (by kernel_rfl) ⟨h0, trivial⟩ hr
theorem idx99_ok (l : List Pt) (hl : l.length ≤ 1000) : Pure Try.prog 99 [.rsl (rowP l) 0 l.length, .clos 85 [] []] (.int .i64 (idxFrom footBad l 0)) := pure_of Try.func99 f99b fun E hE =>
  p99_s l hE (search_ind (Gi := fun i => G Try.prog E (f99K0 Try.prog) (f99S0 l i)) (p := footBad) (l := l) (v := idxFrom footBad l 0)
    (fun i a h hp hv => have hi := get_lt h; p99_0 l i a hE (by simpa using hi) (by omega) (row_get cP (fun _ => rfl) _ _ _ h) hp (by rw [hv]))
    (fun i a h hp hg => have hi := get_lt h; p99_1 l i a hE (by simpa using hi) (by omega) (row_get cP (fun _ => rfl) _ _ _ h) hp (by unfold InR; omega) hg)
    (fun i h hv => p99_2 l i hE (by simpa using h) (by rw [hv])) l.length 0 (by omega) rfl)
theorem idx99_F (l : List Pt) (hl : l.length ≤ 1000) : PureF Try.prog (.clos 99 [] []) [.rsl (rowP l) 0 l.length, .clos 85 [] []] (.int .i64 (idxFrom footBad l 0)) := pureF_of Try.func99 (by kernel_rfl) f99b (by simpa using idx99_ok l hl)
theorem f84b : Try.f84.body = some (bodyAt Try.prog 84) := by kernel_rfl
theorem p84_0 (l : List Pt) (hl : l.length ≤ 1000) {E : Env} {res : AV} (hE : PureE Try.prog 84 res E) 
    (hr : .bool (decide ((idxFrom footBad l 0) ≥ 0)) = res) : G Try.prog E [.code (bodyAt Try.prog 84)] ⟨[.rsl (rowP l) 0 l.length, .clos 85 [] []] ++ unds (Try.f84.ntmps - 2), []⟩ :=
  end_step (n := 400) (evs := [.v (.int .i64 (idxFrom footBad l 0))]) (obs := [PureF Try.prog (.clos 99 [] []) [.rsl (rowP l) 0 l.length, .clos 85 [] []] (.int .i64 (idxFrom footBad l 0))]) hE Try.func84 mixed (by kernel_rfl) ⟨(idx99_F l hl), trivial⟩ hr
theorem any84_ok (l : List Pt) (hl : l.length ≤ 1000) : Pure Try.prog 84 [.rsl (rowP l) 0 l.length, .clos 85 [] []] (.bool (l.any footBad)) := pure_of Try.func84 f84b fun E hE =>
  p84_0 l hl hE (by rw [idxFrom_ge])
theorem f89b : Try.f89.body = some (bodyAt Try.prog 89) := by kernel_rfl
theorem p89_0 (n a : Int)  {E : Env} {res : AV} (hE : PureE Try.prog 89 res E) 
    (hr : .bool (decide (a < 0)) = res) : G Try.prog E [.code (bodyAt Try.prog 89)] ⟨[.int .i64 n, .int .i64 a] ++ unds (Try.f89.ntmps - 2), []⟩ :=
  end_step (n := 400) (evs := []) (obs := []) hE Try.func89 mixed (by kernel_rfl) trivial hr
theorem outside_ok (n a : Int)  : Pure Try.prog 89 [.int .i64 n, .int .i64 a] (.bool (decide (a < 0))) := pure_of Try.func89 f89b fun E hE => by
  exact p89_0 n a  hE  (rfl)
theorem outside_F (n a : Int)  : PureF Try.prog (.clos 89 [] []) [.int .i64 n, .int .i64 a] (.bool (decide (a < 0))) := pureF_of Try.func89 (by kernel_rfl) f89b (by simpa using outside_ok n a )
end Go.Proofs.Ytideokfbnegkjaa

namespace Go.Proofs.Ytideokfbnegkjaa
open Go Ax
open Go.Proofs

structure Rg where
  seats : List (List Pt)
  feet : List Pt
  frame : Int
  c : Pt
  empty : Int
  full : Int

def rowS (l : List (List Pt)) : List AV := l.flatMap fun s => [.rsl (rowP s) 0 s.length]
def rowLn (l : List (Pt × Pt)) : List AV := l.flatMap fun s => cP s.1 ++ cP s.2
def linesOf (f : List Pt) : List (Pt × Pt) := (List.range' 0 f.length).map fun i => (f.getD i ⟨0, 0, 0⟩, f.getD ((i + 1) % f.length) ⟨0, 0, 0⟩)
def phasesOf (r : Rg) : Int := match r.seats.getLast? with
  | some s => s.length
  | none => 1

theorem f57b : Try.f57.body = some (bodyAt Try.prog 57) := by kernel_rfl
def f57K0 (P : Program) : List Item := kAt 400 [.code (bodyAt P 57)] [.stop]
def f57S0 (r : Rg) (ph ln : Nat) (a b : Pt) (i : Nat) (sum : Int) : St := ⟨[.rptr [.rsl (rowS r.seats) 0 r.seats.length, .rsl (rowP r.feet) 0 r.feet.length, .int .i64 r.frame, .int .i64 r.c.x, .int .i64 r.c.y, .int .i64 r.c.z, .int .i64 r.empty, .int .i64 r.full, .rsl (rowLn (linesOf r.feet)) 0 ((linesOf r.feet).length), .int .i64 (phasesOf r)] 0, .int .i64 ((ph : Nat) : Int), .junk, .clos 89 [] [], .junk, .junk, .junk, .junk, .junk, .ptr 0 0 0, .int .i64 sum, .junk, .junk, .junk, .junk, .junk, .junk, .junk, .junk, .junk, .junk, .junk, .junk, .junk, .junk, .junk, .junk, .junk, .junk, .junk, .junk, .junk, .junk, .junk, .junk, .junk, .junk, .junk, .junk, .rsl (rowS r.seats) 0 r.seats.length, .int .i64 ((r.seats.length : Nat) : Int), .int .i64 ((i : Nat) : Int), .junk, .junk, .junk, .junk, .junk, .junk, .junk, .junk, .junk, .junk, .junk, .junk, .junk, .junk, .junk, .junk, .junk, .junk, .junk, .junk, .junk, .junk, .junk, .junk, .junk, .junk, .junk, .junk, .junk, .junk, .junk], [⟨true, 0, 1, true, [.int .i64 a.x, .int .i64 a.y, .int .i64 a.z, .int .i64 b.x, .int .i64 b.y, .int .i64 b.z], false⟩]⟩
theorem p57_s (r : Rg) (ph ln : Nat) (a b : Pt) {E : Env} {res : AV} (hE : PureE Try.prog 57 res E) (h0 : 0 ≤ ((ln : Nat) : Int) ∧ ((ln : Nat) : Int) < (((linesOf r.feet).length : Nat) : Int)) (h1 : ((rowLn (linesOf r.feet)).drop (0 + ((Int.toNat ((ln : Nat) : Int)) * 6))).take 6 = [.int .i64 a.x, .int .i64 a.y, .int .i64 a.z, .int .i64 b.x, .int .i64 b.y, .int .i64 b.z]) (h3 : PureF Try.prog (.clos 87 [] []) [.agg [.int .i64 a.x, .int .i64 a.y, .int .i64 a.z, .int .i64 b.x, .int .i64 b.y, .int .i64 b.z], .agg [.int .i64 r.c.x, .int .i64 r.c.y, .int .i64 r.c.z]] (.int .i64 (arm a b r.c))) (h4 : InR .i64 (r.frame * (arm a b r.c)))
    (hg : G Try.prog E (f57K0 Try.prog) (f57S0 r ph ln a b 0 (r.frame * (arm a b r.c)))) : G Try.prog E [.code (bodyAt Try.prog 57)] ⟨[.rptr [.rsl (rowS r.seats) 0 r.seats.length, .rsl (rowP r.feet) 0 r.feet.length, .int .i64 r.frame, .int .i64 r.c.x, .int .i64 r.c.y, .int .i64 r.c.z, .int .i64 r.empty, .int .i64 r.full, .rsl (rowLn (linesOf r.feet)) 0 ((linesOf r.feet).length), .int .i64 (phasesOf r)] 0, .int .i64 ((ph : Nat) : Int), .int .i64 ((ln : Nat) : Int), .clos 89 [] []] ++ unds (Try.f57.ntmps - 4), []⟩ :=
  segN_step (n := 400) (ds := []) (live := [0, 1, 3, 9, 10, 39, 40, 41]) (m := 1) (evs := [.auto, .ld (.agg [.int .i64 a.x, .int .i64 a.y, .int .i64 a.z, .int .i64 b.x, .int .i64 b.y, .int .i64 b.z]), .v (.int .i64 (arm a b r.c)), .stop]) (obs := [0 ≤ ((ln : Nat) : Int) ∧ ((ln : Nat) : Int) < (((linesOf r.feet).length : Nat) : Int), ((rowLn (linesOf r.feet)).drop (0 + ((Int.toNat ((ln : Nat) : Int)) * 6))).take 6 = [.int .i64 a.x, .int .i64 a.y, .int .i64 a.z, .int .i64 b.x, .int .i64 b.y, .int .i64 b.z], 6 ≤ 6, PureF Try.prog (.clos 87 [] []) [.agg [.int .i64 a.x, .int .i64 a.y, .int .i64 a.z, .int .i64 b.x, .int .i64 b.y, .int .i64 b.z], .agg [.int .i64 r.c.x, .int .i64 r.c.y, .int .i64 r.c.z]] (.int .i64 (arm a b r.c)), InR .i64 (r.frame * (arm a b r.c))]) hE.2.1 (hE.nogh _) mixed (by kernel_rfl) ⟨h0, h1, (by decide), h3, h4, trivial⟩ hg
theorem p57_0 (r : Rg) (ph ln : Nat) (a b : Pt) (i : Nat) (sum : Int) (s : List Pt) (q : Pt) {E : Env} {res : AV} (hE : PureE Try.prog 57 res E) (h0 : (decide (((i : Nat) : Int) < ((r.seats.length : Nat) : Int))) = true) (h1 : 0 ≤ ((i : Nat) : Int) ∧ ((i : Nat) : Int) < ((r.seats.length : Nat) : Int)) (h2 : ((rowS r.seats).drop (0 + ((Int.toNat ((i : Nat) : Int)) * 1))).take 1 = [.rsl (rowP s) 0 s.length]) (h3 : 0 ≤ ((ph : Nat) : Int) ∧ ((ph : Nat) : Int) < ((s.length : Nat) : Int)) (h4 : ((rowP s).drop (0 + ((Int.toNat ((ph : Nat) : Int)) * 3))).take 3 = [.int .i64 q.x, .int .i64 q.y, .int .i64 q.z]) (h5 : PureF Try.prog (.clos 87 [] []) [.agg [.int .i64 a.x, .int .i64 a.y, .int .i64 a.z, .int .i64 b.x, .int .i64 b.y, .int .i64 b.z], .agg [.int .i64 q.x, .int .i64 q.y, .int .i64 q.z]] (.int .i64 (arm a b q))) (h7 : (decide ((arm a b q) < 0)) = true) (h8 : InR .i64 (r.full * (arm a b q))) (h9 : InR .i64 (sum + (r.full * (arm a b q)))) (h10 : InR .i64 (((i : Nat) : Int) + 1))
    (hg : G Try.prog E (f57K0 Try.prog) (f57S0 r ph ln a b (i + 1) (sum + (r.full * (arm a b q))))) : G Try.prog E (f57K0 Try.prog) (f57S0 r ph ln a b i sum) :=
  segN_step (n := 400) (ds := []) (live := [0, 1, 3, 9, 10, 39, 40, 41]) (m := 1) (evs := [.b true, .ld (.rsl (rowP s) 0 s.length), .auto, .ld (.agg [.int .i64 q.x, .int .i64 q.y, .int .i64 q.z]), .v (.int .i64 (arm a b q)), .v (.bool (decide ((arm a b q) < 0))), .b true, .stop]) (obs := [(decide (((i : Nat) : Int) < ((r.seats.length : Nat) : Int))) = true, 0 ≤ ((i : Nat) : Int) ∧ ((i : Nat) : Int) < ((r.seats.length : Nat) : Int), ((rowS r.seats).drop (0 + ((Int.toNat ((i : Nat) : Int)) * 1))).take 1 = [.rsl (rowP s) 0 s.length], 0 ≤ ((ph : Nat) : Int) ∧ ((ph : Nat) : Int) < ((s.length : Nat) : Int), ((rowP s).drop (0 + ((Int.toNat ((ph : Nat) : Int)) * 3))).take 3 = [.int .i64 q.x, .int .i64 q.y, .int .i64 q.z], PureF Try.prog (.clos 87 [] []) [.agg [.int .i64 a.x, .int .i64 a.y, .int .i64 a.z, .int .i64 b.x, .int .i64 b.y, .int .i64 b.z], .agg [.int .i64 q.x, .int .i64 q.y, .int .i64 q.z]] (.int .i64 (arm a b q)), PureF Try.prog (.clos 89 [] []) [.int .i64 ((i : Nat) : Int), .int .i64 (arm a b q)] (.bool (decide ((arm a b q) < 0))), (decide ((arm a b q) < 0)) = true, InR .i64 (r.full * (arm a b q)), InR .i64 (sum + (r.full * (arm a b q))), InR .i64 (((i : Nat) : Int) + 1)]) hE.2.1 (hE.nogh _) mixed (by kernel_rfl) ⟨h0, h1, h2, h3, h4, h5, (outside_F _ _), h7, h8, h9, h10, trivial⟩ hg
theorem p57_1 (r : Rg) (ph ln : Nat) (a b : Pt) (i : Nat) (sum : Int) (s : List Pt) (q : Pt) {E : Env} {res : AV} (hE : PureE Try.prog 57 res E) (h0 : (decide (((i : Nat) : Int) < ((r.seats.length : Nat) : Int))) = true) (h1 : 0 ≤ ((i : Nat) : Int) ∧ ((i : Nat) : Int) < ((r.seats.length : Nat) : Int)) (h2 : ((rowS r.seats).drop (0 + ((Int.toNat ((i : Nat) : Int)) * 1))).take 1 = [.rsl (rowP s) 0 s.length]) (h3 : 0 ≤ ((ph : Nat) : Int) ∧ ((ph : Nat) : Int) < ((s.length : Nat) : Int)) (h4 : ((rowP s).drop (0 + ((Int.toNat ((ph : Nat) : Int)) * 3))).take 3 = [.int .i64 q.x, .int .i64 q.y, .int .i64 q.z]) (h5 : PureF Try.prog (.clos 87 [] []) [.agg [.int .i64 a.x, .int .i64 a.y, .int .i64 a.z, .int .i64 b.x, .int .i64 b.y, .int .i64 b.z], .agg [.int .i64 q.x, .int .i64 q.y, .int .i64 q.z]] (.int .i64 (arm a b q))) (h7 : (decide ((arm a b q) < 0)) = false) (h8 : InR .i64 (r.empty * (arm a b q))) (h9 : InR .i64 (sum + (r.empty * (arm a b q)))) (h10 : InR .i64 (((i : Nat) : Int) + 1))
    (hg : G Try.prog E (f57K0 Try.prog) (f57S0 r ph ln a b (i + 1) (sum + (r.empty * (arm a b q))))) : G Try.prog E (f57K0 Try.prog) (f57S0 r ph ln a b i sum) :=
  segN_step (n := 400) (ds := []) (live := [0, 1, 3, 9, 10, 39, 40, 41]) (m := 1) (evs := [.b true, .ld (.rsl (rowP s) 0 s.length), .auto, .ld (.agg [.int .i64 q.x, .int .i64 q.y, .int .i64 q.z]), .v (.int .i64 (arm a b q)), .v (.bool (decide ((arm a b q) < 0))), .b false, .stop]) (obs := [(decide (((i : Nat) : Int) < ((r.seats.length : Nat) : Int))) = true, 0 ≤ ((i : Nat) : Int) ∧ ((i : Nat) : Int) < ((r.seats.length : Nat) : Int), ((rowS r.seats).drop (0 + ((Int.toNat ((i : Nat) : Int)) * 1))).take 1 = [.rsl (rowP s) 0 s.length], 0 ≤ ((ph : Nat) : Int) ∧ ((ph : Nat) : Int) < ((s.length : Nat) : Int), ((rowP s).drop (0 + ((Int.toNat ((ph : Nat) : Int)) * 3))).take 3 = [.int .i64 q.x, .int .i64 q.y, .int .i64 q.z], PureF Try.prog (.clos 87 [] []) [.agg [.int .i64 a.x, .int .i64 a.y, .int .i64 a.z, .int .i64 b.x, .int .i64 b.y, .int .i64 b.z], .agg [.int .i64 q.x, .int .i64 q.y, .int .i64 q.z]] (.int .i64 (arm a b q)), PureF Try.prog (.clos 89 [] []) [.int .i64 ((i : Nat) : Int), .int .i64 (arm a b q)] (.bool (decide ((arm a b q) < 0))), (decide ((arm a b q) < 0)) = false, InR .i64 (r.empty * (arm a b q)), InR .i64 (sum + (r.empty * (arm a b q))), InR .i64 (((i : Nat) : Int) + 1)]) hE.2.1 (hE.nogh _) mixed (by kernel_rfl) ⟨h0, h1, h2, h3, h4, h5, (outside_F _ _), h7, h8, h9, h10, trivial⟩ hg
theorem p57_2 (r : Rg) (ph ln : Nat) (a b : Pt) (i : Nat) (sum : Int)  {E : Env} {res : AV} (hE : PureE Try.prog 57 res E) (h0 : (decide (((i : Nat) : Int) < ((r.seats.length : Nat) : Int))) = false)
    (hr : .int .i64 sum = res) : G Try.prog E (f57K0 Try.prog) (f57S0 r ph ln a b i sum) :=
  end_step (n := 400) (evs := [.b false]) (obs := [(decide (((i : Nat) : Int) < ((r.seats.length : Nat) : Int))) = false]) hE Try.func57 mixed (by kernel_rfl) ⟨h0, trivial⟩ hr
end Go.Proofs.Ytideokfbnegkjaa

namespace Go.Proofs.Ytideokfbnegkjaa
open Go Ax
open Go.Proofs

/-- What the seats add to a moment; 'fl': which are full. -/
def seatsM (r : Rg) (a b : Pt) (ph : Nat) (fl : Nat → Int → Bool) : List (List Pt) → Nat → Int → Int
  | [], _, sum => sum
  | s :: ss, i, sum => seatsM r a b ph fl ss (i + 1) (sum + (bif fl i (arm a b (s.getD ph ⟨0, 0, 0⟩)) then r.full else r.empty) * arm a b (s.getD ph ⟨0, 0, 0⟩))

def momentV (r : Rg) (ph : Nat) (ab : Pt × Pt) (fl : Nat → Int → Bool) : Int := seatsM r ab.1 ab.2 ph fl r.seats 0 (r.frame * arm ab.1 ab.2 r.c)

def outF (_ : Nat) (a : Int) : Bool := decide (a < 0)

structure RgOk (r : Rg) (n : Nat) : Prop where
  seats : r.seats.length ≤ 20
  each : ∀ s ∈ r.seats, s.length = n ∧ validP s = true
  feet0 : 3 ≤ r.feet.length
  feet1 : r.feet.length ≤ 8
  foot : ∀ p ∈ r.feet, spanned p = true
  center : spanned r.c = true
  frame0 : 0 ≤ r.frame
  frame1 : r.frame ≤ 1000000
  empty0 : 0 ≤ r.empty
  empty1 : r.empty ≤ r.full
  full1 : r.full ≤ 1000000

theorem mul_bd {x y A B : Int} (hx : -A ≤ x) (hx' : x ≤ A) (hy : -B ≤ y) (hy' : y ≤ B) (hA : 0 ≤ A) (hB : 0 ≤ B) : -(A * B) ≤ x * y ∧ x * y ≤ A * B := by
  have h1 : (A - x) * (B - y) ≥ 0 := Int.mul_nonneg (by omega) (by omega)
  have h2 : (A + x) * (B + y) ≥ 0 := Int.mul_nonneg (by omega) (by omega)
  have h3 : (A - x) * (B + y) ≥ 0 := Int.mul_nonneg (by omega) (by omega)
  have h4 : (A + x) * (B - y) ≥ 0 := Int.mul_nonneg (by omega) (by omega)
  simp only [Int.sub_mul, Int.mul_sub, Int.add_mul, Int.mul_add] at h1 h2 h3 h4
  constructor <;> omega

theorem arm_bd {a b p : Pt} (ha : spanned a = true) (hb : spanned b = true) (hp : spanned p = true) : armOk a b p ∧ -800000000 ≤ arm a b p ∧ arm a b p ≤ 800000000 := by
  have a1 := spanned_bd ha
  have b1 := spanned_bd hb
  have p1 := spanned_bd hp
  have m1 := mul_bd (x := b.x - a.x) (y := p.y - a.y) (A := 20000) (B := 20000) (by omega) (by omega) (by omega) (by omega) (by omega) (by omega)
  have m2 := mul_bd (x := b.y - a.y) (y := p.x - a.x) (A := 20000) (B := 20000) (by omega) (by omega) (by omega) (by omega) (by omega) (by omega)
  unfold armOk arm InR
  omega

theorem moment_ok (r : Rg) (n ph ln : Nat) (h : RgOk r n) (hph : ph < n) (a b : Pt) (hl : (linesOf r.feet)[ln]? = some (a, b)) (ha : spanned a = true) (hb : spanned b = true) :
    Pure Try.prog 57 [.rptr [.rsl (rowS r.seats) 0 r.seats.length, .rsl (rowP r.feet) 0 r.feet.length, .int .i64 r.frame, .int .i64 r.c.x, .int .i64 r.c.y, .int .i64 r.c.z, .int .i64 r.empty, .int .i64 r.full, .rsl (rowLn (linesOf r.feet)) 0 ((linesOf r.feet).length), .int .i64 (phasesOf r)] 0, .int .i64 ((ph : Nat) : Int), .int .i64 ((ln : Nat) : Int), .clos 89 [] []]
      (.int .i64 (momentV r ph (a, b) outF)) := pure_of Try.func57 f57b fun E hE => by
  have hli := get_lt hl
  obtain ⟨k1, k2, k3⟩ := arm_bd ha hb h.center
  have hf := h.frame0
  have hf' := h.frame1
  have hfr := mul_bd (x := r.frame) (y := arm a b r.c) (A := 1000000) (B := 800000000) (by omega) hf' k2 k3 (by omega) (by omega)
  have he0 := h.empty0
  have he1 := h.empty1
  have hfu := h.full1
  refine p57_s r ph ln a b hE (by omega) (row_get (fun s : Pt × Pt => cP s.1 ++ cP s.2) (fun _ => rfl) _ _ _ hl) (arm_F _ _ _ k1) (by unfold InR; omega) ?_
  have key : ∀ (d i : Nat) (sum : Int), i + d = r.seats.length → -(800000000000000 * (i + 1)) ≤ sum → sum ≤ 800000000000000 * (i + 1) → seatsM r a b ph outF (r.seats.drop i) i sum = momentV r ph (a, b) outF →
      G Try.prog E (f57K0 Try.prog) (f57S0 r ph ln a b i sum) := by
    intro d
    induction d with
    | zero =>
      intro i sum hd _ _ hs
      rw [List.drop_eq_nil_of_le (by omega)] at hs
      exact p57_2 r ph ln a b i sum hE (by simp; omega) (by rw [← hs]; rfl)
    | succ d ih =>
      intro i sum hd hs1 hs2 hs
      have hi : i < r.seats.length := by omega
      have hg : r.seats[i]? = some r.seats[i] := by simp [hi]
      obtain ⟨hsl, hsv⟩ := h.each _ (List.mem_of_getElem? hg)
      generalize hse : r.seats[i] = s at hg hsl hsv
      have hq : s[ph]? = some (s.getD ph ⟨0, 0, 0⟩) := by simp [List.getD, hsl, hph]
      generalize hqe : s.getD ph ⟨0, 0, 0⟩ = q at hq
      obtain ⟨q1, q2, q3⟩ := arm_bd ha hb (valid_pt hsv (List.mem_of_getElem? hq))
      rw [List.drop_eq_getElem_cons hi, hse] at hs
      simp only [seatsM, hqe, outF] at hs
      have me := mul_bd (x := r.empty) (y := arm a b q) (A := 1000000) (B := 800000000) (by omega) (by omega) q2 q3 (by omega) (by omega)
      have mf := mul_bd (x := r.full) (y := arm a b q) (A := 1000000) (B := 800000000) (by omega) (by omega) q2 q3 (by omega) (by omega)
      have hb20 := h.seats
      rcases Bool.eq_false_or_eq_true (decide (arm a b q < 0)) with hc | hc
      · rw [hc] at hs
        refine p57_0 r ph ln a b i sum s q hE (by simpa using hi) (by omega) (row_get (fun s : List Pt => [AV.rsl (rowP s) 0 s.length]) (fun _ => rfl) _ _ _ hg) (by omega) (row_get cP (fun _ => rfl) _ _ _ hq) (arm_F _ _ _ q1) hc (by unfold InR; omega) (by unfold InR; omega) (by unfold InR; omega) ?_
        exact ih (i + 1) _ (by omega) (by omega) (by omega) hs
      · rw [hc] at hs
        refine p57_1 r ph ln a b i sum s q hE (by simpa using hi) (by omega) (row_get (fun s : List Pt => [AV.rsl (rowP s) 0 s.length]) (fun _ => rfl) _ _ _ hg) (by omega) (row_get cP (fun _ => rfl) _ _ _ hq) (arm_F _ _ _ q1) hc (by unfold InR; omega) (by unfold InR; omega) (by unfold InR; omega) ?_
        exact ih (i + 1) _ (by omega) (by omega) (by omega) hs
  exact key r.seats.length 0 _ (by omega) (by omega) (by omega) rfl


end Go.Proofs.Ytideokfbnegkjaa

namespace Go.Proofs.Ytideokfbnegkjaa
open Go Ax
open Go.Proofs

theorem f61b : Try.f61.body = some (bodyAt Try.prog 61) := by kernel_rfl
def f61K0 (P : Program) : List Item := kAt 400 [.code (bodyAt P 61)] [.stop]
def f61S0 (r : Rg) (yv0 : Value) (p : Nat) : St := ⟨[.rptr [.rsl (rowS r.seats) 0 r.seats.length, .rsl (rowP r.feet) 0 r.feet.length, .int .i64 r.frame, .int .i64 r.c.x, .int .i64 r.c.y, .int .i64 r.c.z, .int .i64 r.empty, .int .i64 r.full, .rsl (rowLn (linesOf r.feet)) 0 ((linesOf r.feet).length), .int .i64 (phasesOf r)] 0, .opq yv0, .junk, .junk, .junk, .junk, .junk, .junk, .junk, .int .i64 (phasesOf r), .int .i64 ((p : Nat) : Int), .junk, .junk, .junk, .junk, .junk, .junk, .junk, .junk, .junk, .junk, .junk, .junk, .junk, .junk, .junk, .junk, .junk, .junk, .junk, .junk, .junk, .junk], []⟩
theorem p61_s (r : Rg) (yv0 : Value)  {E : Env} {xs : List (List AV)} {yv : Value} {Y : Option Nat → Sd} {cont : Nat → Bool} {e : Option Nat} {o : Option Nat} (hE : IterE Try.prog 61 xs yv Y cont e o E) 
    (hg : G Try.prog E (f61K0 Try.prog) (f61S0 r yv0 0)) : G Try.prog E [.code (bodyAt Try.prog 61)] ⟨[.rptr [.rsl (rowS r.seats) 0 r.seats.length, .rsl (rowP r.feet) 0 r.feet.length, .int .i64 r.frame, .int .i64 r.c.x, .int .i64 r.c.y, .int .i64 r.c.z, .int .i64 r.empty, .int .i64 r.full, .rsl (rowLn (linesOf r.feet)) 0 ((linesOf r.feet).length), .int .i64 (phasesOf r)] 0, .opq yv0] ++ unds (Try.f61.ntmps - 2), []⟩ :=
  segN_step (n := 400) (ds := []) (live := [0, 1, 9, 10]) (m := 0) (evs := [.stop]) (obs := []) hE.kind (hE.nogh _) mixed (by kernel_rfl) trivial hg
def f61K1 (P : Program) : List Item := kAt 400 [.code (bodyAt P 61)] [.b true, .stop]
def f61S1 (r : Rg) (yv0 : Value) (p v : Nat) : St := ⟨[.rptr [.rsl (rowS r.seats) 0 r.seats.length, .rsl (rowP r.feet) 0 r.feet.length, .int .i64 r.frame, .int .i64 r.c.x, .int .i64 r.c.y, .int .i64 r.c.z, .int .i64 r.empty, .int .i64 r.full, .rsl (rowLn (linesOf r.feet)) 0 ((linesOf r.feet).length), .int .i64 (phasesOf r)] 0, .opq yv0, .junk, .junk, .int .i64 ((p : Nat) : Int), .junk, .junk, .junk, .junk, .int .i64 (phasesOf r), .int .i64 ((p : Nat) : Int), .junk, .junk, .junk, .junk, .junk, .junk, .int .i64 (((linesOf r.feet).length : Nat) : Int), .int .i64 ((v : Nat) : Int), .junk, .junk, .junk, .junk, .junk, .junk, .junk, .junk, .junk, .junk, .junk, .junk, .junk, .junk], []⟩
theorem p61_0n (r : Rg) (yv0 : Value) (p : Nat)  {E : Env} {xs : List (List AV)} {yv : Value} {Y : Option Nat → Sd} {cont : Nat → Bool} {e : Option Nat} {o : Option Nat} (hE : IterE Try.prog 61 xs yv Y cont e o E) (h0 : (decide (((p : Nat) : Int) < (phasesOf r))) = true)
    (hg : G Try.prog E (f61K1 Try.prog) (f61S1 r yv0 p 0)) : G Try.prog E (f61K0 Try.prog) (f61S0 r yv0 p) :=
  segN_step (n := 400) (ds := []) (live := [0, 1, 4, 9, 10, 17, 18]) (m := 0) (evs := [.b true, .stop]) (obs := [(decide (((p : Nat) : Int) < (phasesOf r))) = true]) hE.kind (hE.nogh _) mixed (by kernel_rfl) ⟨h0, trivial⟩ hg
theorem p61_0e (r : Rg) (yv0 : Value) (p : Nat)  {E : Env} {xs : List (List AV)} {yv : Value} {Y : Option Nat → Sd} {cont : Nat → Bool} {e : Option Nat}  (hE : IterE Try.prog 61 xs yv Y cont e e E) (h0 : (decide (((p : Nat) : Int) < (phasesOf r))) = false) : G Try.prog E (f61K0 Try.prog) (f61S0 r yv0 p) :=
  iter_end (n := 400) (evs := [.b false]) (obs := [(decide (((p : Nat) : Int) < (phasesOf r))) = false]) hE Try.func61 (by kernel_rfl) mixed (by kernel_rfl) ⟨h0, trivial⟩
def f61Kh (P : Program) : List Item := toOp 8 (kReg 400 [.code (bodyAt P 61)] [.b true, .b true] 6)
def f61Sh (r : Rg) (yv0 : Value) (p v : Nat) (mv : Int) : St := ⟨[.rptr [.rsl (rowS r.seats) 0 r.seats.length, .rsl (rowP r.feet) 0 r.feet.length, .int .i64 r.frame, .int .i64 r.c.x, .int .i64 r.c.y, .int .i64 r.c.z, .int .i64 r.empty, .int .i64 r.full, .rsl (rowLn (linesOf r.feet)) 0 ((linesOf r.feet).length), .int .i64 (phasesOf r)] 0, .opq yv0, .junk, .junk, .int .i64 ((p : Nat) : Int), .int .i64 ((v : Nat) : Int), .junk, .junk, .junk, .int .i64 (phasesOf r), .int .i64 ((p : Nat) : Int), .junk, .junk, .junk, .junk, .junk, .junk, .int .i64 (((linesOf r.feet).length : Nat) : Int), .int .i64 ((v : Nat) : Int), .bool (decide (((v : Nat) : Int) < (((linesOf r.feet).length : Nat) : Int))), .int .i64 ((v : Nat) : Int), .opq yv0, .int .i64 ((p : Nat) : Int), .int .i64 ((v : Nat) : Int), .agg [.int .i64 ((p : Nat) : Int), .int .i64 ((v : Nat) : Int)], .rptr [.rsl (rowS r.seats) 0 r.seats.length, .rsl (rowP r.feet) 0 r.feet.length, .int .i64 r.frame, .int .i64 r.c.x, .int .i64 r.c.y, .int .i64 r.c.z, .int .i64 r.empty, .int .i64 r.full, .rsl (rowLn (linesOf r.feet)) 0 ((linesOf r.feet).length), .int .i64 (phasesOf r)] 0, .int .i64 ((p : Nat) : Int), .int .i64 ((v : Nat) : Int), .int .i64 mv, .junk, .junk, .junk, .junk], []⟩
def f61Kha (P : Program) : List Item := toOp 9 (kReg 400 [.code (bodyAt P 61)] [.b true, .b true] 6)
def f61Sha (r : Rg) (yv0 : Value) (p v : Nat) (mv : Int) (b : Bool) : St := ⟨[.rptr [.rsl (rowS r.seats) 0 r.seats.length, .rsl (rowP r.feet) 0 r.feet.length, .int .i64 r.frame, .int .i64 r.c.x, .int .i64 r.c.y, .int .i64 r.c.z, .int .i64 r.empty, .int .i64 r.full, .rsl (rowLn (linesOf r.feet)) 0 ((linesOf r.feet).length), .int .i64 (phasesOf r)] 0, .opq yv0, .junk, .junk, .int .i64 ((p : Nat) : Int), .int .i64 ((v : Nat) : Int), .junk, .junk, .junk, .int .i64 (phasesOf r), .int .i64 ((p : Nat) : Int), .junk, .junk, .junk, .junk, .junk, .junk, .int .i64 (((linesOf r.feet).length : Nat) : Int), .int .i64 ((v : Nat) : Int), .bool (decide (((v : Nat) : Int) < (((linesOf r.feet).length : Nat) : Int))), .int .i64 ((v : Nat) : Int), .opq yv0, .int .i64 ((p : Nat) : Int), .int .i64 ((v : Nat) : Int), .agg [.int .i64 ((p : Nat) : Int), .int .i64 ((v : Nat) : Int)], .rptr [.rsl (rowS r.seats) 0 r.seats.length, .rsl (rowP r.feet) 0 r.feet.length, .int .i64 r.frame, .int .i64 r.c.x, .int .i64 r.c.y, .int .i64 r.c.z, .int .i64 r.empty, .int .i64 r.full, .rsl (rowLn (linesOf r.feet)) 0 ((linesOf r.feet).length), .int .i64 (phasesOf r)] 0, .int .i64 ((p : Nat) : Int), .int .i64 ((v : Nat) : Int), .int .i64 mv, .bool b, .junk, .junk, .junk], []⟩
theorem f61_h (r : Rg) (yv0 : Value) (p v : Nat) (mv : Int) : yieldA (f61Kh Try.prog) (f61Sh r yv0 p v mv) = some (f61Kha Try.prog, some 29, yv0, [.agg [.int .i64 ((p : Nat) : Int), .int .i64 ((v : Nat) : Int)], .int .i64 mv]) := by kernel_rfl
theorem p61_1h (r : Rg) (yv0 : Value) (p v : Nat) (mv : Int) {E : Env} {xs : List (List AV)} {yv : Value} {Y : Option Nat → Sd} {cont : Nat → Bool} {e : Option Nat} {o : Option Nat} (hE : IterE Try.prog 61 xs yv Y cont e o E) (h0 : (decide (((v : Nat) : Int) < (((linesOf r.feet).length : Nat) : Int))) = true) (h1 : PureF Try.prog (.clos 57 [] []) [.rptr [.rsl (rowS r.seats) 0 r.seats.length, .rsl (rowP r.feet) 0 r.feet.length, .int .i64 r.frame, .int .i64 r.c.x, .int .i64 r.c.y, .int .i64 r.c.z, .int .i64 r.empty, .int .i64 r.full, .rsl (rowLn (linesOf r.feet)) 0 ((linesOf r.feet).length), .int .i64 (phasesOf r)] 0, .int .i64 ((p : Nat) : Int), .int .i64 ((v : Nat) : Int), .clos 89 [] []] (.int .i64 mv))
    (hg : G Try.prog E (f61Kh Try.prog) (f61Sh r yv0 p v mv)) : G Try.prog E (f61K1 Try.prog) (f61S1 r yv0 p v) :=
  segN_step (n := 400) (ds := []) (live := [0, 1, 2, 3, 4, 5, 6, 7, 8, 9, 10, 11, 12, 13, 14, 15, 16, 17, 18, 19, 20, 21, 22, 23, 24, 25, 26, 27, 28, 29, 30, 31, 32]) (m := 0) (evs := [.b true, .v (.int .i64 mv), .hold 0]) (obs := [(decide (((v : Nat) : Int) < (((linesOf r.feet).length : Nat) : Int))) = true, PureF Try.prog (.clos 57 [] []) [.rptr [.rsl (rowS r.seats) 0 r.seats.length, .rsl (rowP r.feet) 0 r.feet.length, .int .i64 r.frame, .int .i64 r.c.x, .int .i64 r.c.y, .int .i64 r.c.z, .int .i64 r.empty, .int .i64 r.full, .rsl (rowLn (linesOf r.feet)) 0 ((linesOf r.feet).length), .int .i64 (phasesOf r)] 0, .int .i64 ((p : Nat) : Int), .int .i64 ((v : Nat) : Int), .clos 89 [] []] (.int .i64 mv)]) hE.kind (hE.nogh _) mixed (by kernel_rfl) ⟨h0, h1, trivial⟩ hg
theorem p61_1e (r : Rg) (yv0 : Value) (p v : Nat)  {E : Env} {xs : List (List AV)} {yv : Value} {Y : Option Nat → Sd} {cont : Nat → Bool} {e : Option Nat} {o : Option Nat} (hE : IterE Try.prog 61 xs yv Y cont e o E) (h0 : (decide (((v : Nat) : Int) < (((linesOf r.feet).length : Nat) : Int))) = false) (h1 : InR .i64 (((p : Nat) : Int) + 1))
    (hg : G Try.prog E (f61K0 Try.prog) (f61S0 r yv0 (p + 1))) : G Try.prog E (f61K1 Try.prog) (f61S1 r yv0 p v) :=
  segN_step (n := 400) (ds := []) (live := [0, 1, 9, 10]) (m := 0) (evs := [.b false, .stop]) (obs := [(decide (((v : Nat) : Int) < (((linesOf r.feet).length : Nat) : Int))) = false, InR .i64 (((p : Nat) : Int) + 1)]) hE.kind (hE.nogh _) mixed (by kernel_rfl) ⟨h0, h1, trivial⟩ hg
theorem p61_a0 (r : Rg) (yv0 : Value) (p v : Nat) (mv : Int) (b : Bool)  {E : Env} {xs : List (List AV)} {yv : Value} {Y : Option Nat → Sd} {cont : Nat → Bool} {e : Option Nat}  (hE : IterE Try.prog 61 xs yv Y cont e e E) (h0 : (!b) = true) : G Try.prog E (f61Kha Try.prog) (f61Sha r yv0 p v mv b) :=
  iter_end (n := 400) (evs := [.b true]) (obs := [(!b) = true]) hE Try.func61 (by kernel_rfl) mixed (by kernel_rfl) ⟨h0, trivial⟩
theorem p61_a1 (r : Rg) (yv0 : Value) (p v : Nat) (mv : Int) (b : Bool)  {E : Env} {xs : List (List AV)} {yv : Value} {Y : Option Nat → Sd} {cont : Nat → Bool} {e : Option Nat} {o : Option Nat} (hE : IterE Try.prog 61 xs yv Y cont e o E) (h0 : (!b) = false) (h1 : InR .i64 (((v : Nat) : Int) + 1))
    (hg : G Try.prog E (f61K1 Try.prog) (f61S1 r yv0 p (v + 1))) : G Try.prog E (f61Kha Try.prog) (f61Sha r yv0 p v mv b) :=
  segN_step (n := 400) (ds := []) (live := [0, 1, 4, 9, 10, 17, 18]) (m := 0) (evs := [.b false, .stop]) (obs := [(!b) = false, InR .i64 (((v : Nat) : Int) + 1)]) hE.kind (hE.nogh _) mixed (by kernel_rfl) ⟨h0, h1, trivial⟩ hg
end Go.Proofs.Ytideokfbnegkjaa

namespace Go.Proofs.Ytideokfbnegkjaa
open Go Ax
open Go.Proofs

def lineAt (r : Rg) (v : Nat) : Pt × Pt := (linesOf r.feet).getD v (⟨0, 0, 0⟩, ⟨0, 0, 0⟩)
def worstV (r : Rg) (pv : Nat × Nat) : Int := momentV r pv.1 (lineAt r pv.2) outF
def argW (r : Rg) (pv : Nat × Nat) : List AV := [.agg [.int .i64 ((pv.1 : Nat) : Int), .int .i64 ((pv.2 : Nat) : Int)], .int .i64 (worstV r pv)]
def wlV (k p v d : Nat) : List (Nat × Nat) := (List.range' v d).map fun v => (p, v)
def wlP (k p d : Nat) : List (Nat × Nat) := (List.range' p d).flatMap fun p => wlV k p 0 k

theorem linesOf_len (f : List Pt) : (linesOf f).length = f.length := by simp [linesOf]

theorem lineAt_get {r : Rg} {v : Nat} (h : v < r.feet.length) : (linesOf r.feet)[v]? = some (lineAt r v) := by
  have : v < (linesOf r.feet).length := by rw [linesOf_len]; exact h
  simp [lineAt, List.getD, this]

theorem lineAt_ok {r : Rg} {n v : Nat} (hr : RgOk r n) (h : v < r.feet.length) : spanned (lineAt r v).1 = true ∧ spanned (lineAt r v).2 = true := by
  have hg := lineAt_get h
  unfold linesOf at hg
  rw [List.getElem?_map] at hg
  have e : (List.range' 0 r.feet.length)[v]? = some v := by simp [h]
  rw [e] at hg
  simp only [Option.map_some, Option.some.injEq] at hg
  have h2 : (v + 1) % r.feet.length < r.feet.length := Nat.mod_lt _ (by omega)
  rw [← hg]
  constructor
  · refine hr.foot _ ?_
    simp only [List.getD_eq_getElem?_getD, List.getElem?_eq_getElem h, Option.getD_some]; exact List.getElem_mem h
  · refine hr.foot _ ?_
    simp only [List.getD_eq_getElem?_getD, List.getElem?_eq_getElem h2, Option.getD_some]; exact List.getElem_mem h2

section
variable {L : List (Nat × Nat)} {yv : Value} {Y : Option Nat → Sd} {cont : Nat → Bool} {e : Option Nat} {r : Rg} {nn : Nat}

theorem iw_v (hr : RgOk r nn) {p : Nat} (hp : p < nn) (hn : nn ≤ 1000) {R : List (Nat × Nat)} :
    ∀ (d v n : Nat) (E : Env), v + d = r.feet.length → IterE Try.prog 61 (L.map (argW r)) yv Y cont e (some n) E → stopAt cont n (L.length - n) = e → L.drop n = wlV r.feet.length p v d ++ R →
      (∀ (E' : Env) (n' : Nat), IterE Try.prog 61 (L.map (argW r)) yv Y cont e (some n') E' → stopAt cont n' (L.length - n') = e → L.drop n' = R → G Try.prog E' (f61K0 Try.prog) (f61S0 r yv (p + 1))) →
      G Try.prog E (f61K1 Try.prog) (f61S1 r yv p v)
  | 0, v, n, E, hd, hE, hi, hL, hg => by
    refine p61_1e r yv p v hE (by simp [linesOf_len]; omega) (by unfold InR; omega) (hg E n hE hi ?_)
    simpa [wlV] using hL
  | d + 1, v, n, E, hd, hE, hi, hL, hg => by
    have hcons : wlV r.feet.length p v (d + 1) = (p, v) :: wlV r.feet.length p (v + 1) d := by simp [wlV, List.range'_succ]
    rw [hcons, List.cons_append] at hL
    obtain ⟨g1, g2, g3⟩ := drop_cons hL
    have hv : v < r.feet.length := by omega
    obtain ⟨l1, l2⟩ := lineAt_ok hr hv
    have hm := moment_ok r nn p v hr hp (lineAt r v).1 (lineAt r v).2 (lineAt_get hv) l1 l2
    refine p61_1h r yv p v (worstV r (p, v)) hE (by simp [linesOf_len]; omega) (pureF_of Try.func57 (by kernel_rfl) f57b hm) ?_
    refine yield_stepA (x := argW r (p, v)) hE (by simp [g1]) (f61_h r yv p v _) rfl fun E' hE' => ?_
    have hst : L.length - n = (L.length - (n + 1)) + 1 := by omega
    rw [hst] at hi
    simp only [stopAt] at hi
    have hf8 := hr.feet1
    cases hc : cont n with
    | true =>
      simp only [nxt, hc, cond_true] at hE' hi
      refine p61_a1 r yv p v _ true hE' rfl (by unfold InR; omega) ?_
      exact iw_v hr hp hn d (v + 1) (n + 1) E' (by omega) hE' hi g2 hg
    | false =>
      simp only [nxt, hc, cond_false] at hE' hi
      subst hi
      exact p61_a0 r yv p v _ false hE' rfl

theorem iw_p (hr : RgOk r nn) (hph : phasesOf r = nn) (hn : nn ≤ 1000) :
    ∀ (d p n : Nat) (E : Env), p + d = nn → IterE Try.prog 61 (L.map (argW r)) yv Y cont e (some n) E → stopAt cont n (L.length - n) = e → L.drop n = wlP r.feet.length p d → G Try.prog E (f61K0 Try.prog) (f61S0 r yv p)
  | 0, p, n, E, hd, hE, hi, hL => by
    have hn : L.length ≤ n := by
      have : L.drop n = [] := by rw [hL]; rfl
      exact List.drop_eq_nil_iff.1 this
    have e0 : L.length - n = 0 := by omega
    rw [e0] at hi
    simp only [stopAt] at hi
    subst hi
    exact p61_0e r yv p hE (by rw [hph]; simp; omega)
  | d + 1, p, n, E, hd, hE, hi, hL => by
    have hcons : wlP r.feet.length p (d + 1) = wlV r.feet.length p 0 r.feet.length ++ wlP r.feet.length (p + 1) d := by simp [wlP, List.range'_succ, List.flatMap_cons]
    rw [hcons] at hL
    refine p61_0n r yv p hE (by rw [hph]; simp; omega) ?_
    exact iw_v hr (by omega) hn r.feet.length 0 n E (by omega) hE hi hL fun E' n' hE' hi' hL' => iw_p hr hph hn d (p + 1) n' E' (by omega) hE' hi' hL'

end

theorem worst_iter (r : Rg) (n : Nat) (hr : RgOk r n) (hph : phasesOf r = n) (hn : n ≤ 1000) :
    IterF Try.prog (.clos 61 [.rptr [.rsl (rowS r.seats) 0 r.seats.length, .rsl (rowP r.feet) 0 r.feet.length, .int .i64 r.frame, .int .i64 r.c.x, .int .i64 r.c.y, .int .i64 r.c.z, .int .i64 r.empty, .int .i64 r.full, .rsl (rowLn (linesOf r.feet)) 0 ((linesOf r.feet).length), .int .i64 (phasesOf r)] 0] [])
      ((wlP r.feet.length 0 n).map (argW r)) :=
  iterF_of Try.func61 (by kernel_rfl) f61b fun E yv Y cont hE => by
    have hx : ((wlP r.feet.length 0 n).map (argW r)).length = (wlP r.feet.length 0 n).length := by simp
    rw [hx] at hE
    exact p61_s r yv hE (iw_p hr hph hn n 0 0 E (by omega) hE (by simp) rfl)


end Go.Proofs.Ytideokfbnegkjaa

namespace Go.Proofs.Ytideokfbnegkjaa
open Go Ax
open Go.Proofs

theorem f86b : Try.f86.body = some (bodyAt Try.prog 86) := by kernel_rfl
def f86K0 (P : Program) : List Item := kAt 400 [.code (bodyAt P 86)] [.stop]
def f86S0 (r : Rg) (i : Nat) : St := ⟨[.rptr [.rsl (rowS r.seats) 0 r.seats.length, .rsl (rowP r.feet) 0 r.feet.length, .int .i64 r.frame, .int .i64 r.c.x, .int .i64 r.c.y, .int .i64 r.c.z, .int .i64 r.empty, .int .i64 r.full, .rsl (rowLn (linesOf r.feet)) 0 ((linesOf r.feet).length), .int .i64 (phasesOf r)] 0, .junk, .junk, .int .i64 ((r.feet.length : Nat) : Int), .junk, .junk, .junk, .junk, .junk, .junk, .junk, .junk, .junk, .junk, .junk, .junk, .junk, .rsl (rowLn (linesOf r.feet)) 0 ((linesOf r.feet).length), .int .i64 (((linesOf r.feet).length : Nat) : Int), .int .i64 ((i : Nat) : Int), .junk, .junk, .junk, .junk, .junk, .junk, .junk, .junk, .junk, .junk, .junk, .junk, .junk, .junk, .junk, .junk, .junk, .junk, .junk, .junk, .junk, .junk, .junk, .junk, .junk, .junk, .junk, .junk, .junk, .junk, .junk, .junk, .junk, .junk], []⟩
theorem p86_s (r : Rg)  {E : Env} {res : AV} (hE : PureE Try.prog 86 res E) 
    (hg : G Try.prog E (f86K0 Try.prog) (f86S0 r 0)) : G Try.prog E [.code (bodyAt Try.prog 86)] ⟨[.rptr [.rsl (rowS r.seats) 0 r.seats.length, .rsl (rowP r.feet) 0 r.feet.length, .int .i64 r.frame, .int .i64 r.c.x, .int .i64 r.c.y, .int .i64 r.c.z, .int .i64 r.empty, .int .i64 r.full, .rsl (rowLn (linesOf r.feet)) 0 ((linesOf r.feet).length), .int .i64 (phasesOf r)] 0] ++ unds (Try.f86.ntmps - 1), []⟩ :=
  segN_step (n := 400) (ds := []) (live := [0, 3, 17, 18, 19]) (m := 0) (evs := [.stop]) (obs := []) hE.2.1 (hE.nogh _) mixed (by kernel_rfl) trivial hg
def f86K1 (P : Program) : List Item := kAt 400 [.code (bodyAt P 86)] [.b true, .stop]
def f86S1 (r : Rg) (i k : Nat) (a b : Pt) : St := ⟨[.rptr [.rsl (rowS r.seats) 0 r.seats.length, .rsl (rowP r.feet) 0 r.feet.length, .int .i64 r.frame, .int .i64 r.c.x, .int .i64 r.c.y, .int .i64 r.c.z, .int .i64 r.empty, .int .i64 r.full, .rsl (rowLn (linesOf r.feet)) 0 ((linesOf r.feet).length), .int .i64 (phasesOf r)] 0, .junk, .junk, .int .i64 ((r.feet.length : Nat) : Int), .int .i64 ((i : Nat) : Int), .ptr 0 0 0, .junk, .junk, .junk, .junk, .junk, .junk, .junk, .junk, .junk, .junk, .junk, .rsl (rowLn (linesOf r.feet)) 0 ((linesOf r.feet).length), .int .i64 (((linesOf r.feet).length : Nat) : Int), .int .i64 ((i : Nat) : Int), .junk, .junk, .junk, .junk, .junk, .junk, .junk, .junk, .rsl (rowP r.feet) 0 r.feet.length, .int .i64 ((r.feet.length : Nat) : Int), .int .i64 ((k : Nat) : Int), .junk, .junk, .junk, .junk, .junk, .junk, .junk, .junk, .junk, .junk, .junk, .junk, .junk, .junk, .junk, .junk, .junk, .junk, .junk, .junk, .junk, .junk, .junk], [⟨true, 0, 1, true, [.int .i64 a.x, .int .i64 a.y, .int .i64 a.z, .int .i64 b.x, .int .i64 b.y, .int .i64 b.z], false⟩]⟩
theorem p86_0n (r : Rg) (i : Nat) (a b : Pt) {E : Env} {res : AV} (hE : PureE Try.prog 86 res E) (h0 : (decide (((i : Nat) : Int) < (((linesOf r.feet).length : Nat) : Int))) = true) (h1 : 0 ≤ ((i : Nat) : Int) ∧ ((i : Nat) : Int) < (((linesOf r.feet).length : Nat) : Int)) (h2 : ((rowLn (linesOf r.feet)).drop (0 + ((Int.toNat ((i : Nat) : Int)) * 6))).take 6 = [.int .i64 a.x, .int .i64 a.y, .int .i64 a.z, .int .i64 b.x, .int .i64 b.y, .int .i64 b.z])
    (hg : G Try.prog E (f86K1 Try.prog) (f86S1 r i 0 a b)) : G Try.prog E (f86K0 Try.prog) (f86S0 r i) :=
  segN_step (n := 400) (ds := []) (live := [0, 3, 4, 5, 17, 18, 19, 28, 29, 30]) (m := 1) (evs := [.b true, .ld (.agg [.int .i64 a.x, .int .i64 a.y, .int .i64 a.z, .int .i64 b.x, .int .i64 b.y, .int .i64 b.z]), .stop]) (obs := [(decide (((i : Nat) : Int) < (((linesOf r.feet).length : Nat) : Int))) = true, 0 ≤ ((i : Nat) : Int) ∧ ((i : Nat) : Int) < (((linesOf r.feet).length : Nat) : Int), ((rowLn (linesOf r.feet)).drop (0 + ((Int.toNat ((i : Nat) : Int)) * 6))).take 6 = [.int .i64 a.x, .int .i64 a.y, .int .i64 a.z, .int .i64 b.x, .int .i64 b.y, .int .i64 b.z], 6 ≤ 6]) hE.2.1 (hE.nogh _) mixed (by kernel_rfl) ⟨h0, h1, h2, (by decide), trivial⟩ hg
theorem p86_0e (r : Rg) (i : Nat)  {E : Env} {res : AV} (hE : PureE Try.prog 86 res E) (h0 : (decide (((i : Nat) : Int) < (((linesOf r.feet).length : Nat) : Int))) = false)
    (hr : .bool true = res) : G Try.prog E (f86K0 Try.prog) (f86S0 r i) :=
  end_step (n := 400) (evs := [.b false]) (obs := [(decide (((i : Nat) : Int) < (((linesOf r.feet).length : Nat) : Int))) = false]) hE Try.func86 mixed (by kernel_rfl) ⟨h0, trivial⟩ hr
theorem p86_1_0 (r : Rg) (i k : Nat) (a b : Pt) (q : Pt) {E : Env} {res : AV} (hE : PureE Try.prog 86 res E) (h0 : (decide (((k : Nat) : Int) < ((r.feet.length : Nat) : Int))) = true) (h1 : 0 ≤ ((k : Nat) : Int) ∧ ((k : Nat) : Int) < ((r.feet.length : Nat) : Int)) (h2 : ((rowP r.feet).drop (0 + ((Int.toNat ((k : Nat) : Int)) * 3))).take 3 = [.int .i64 q.x, .int .i64 q.y, .int .i64 q.z]) (h4 : (((k : Nat) : Int) != ((i : Nat) : Int)) = true) (h5 : InR .i64 (((i : Nat) : Int) + 1)) (h6 : ((r.feet.length : Nat) : Int) ≠ 0) (h7 : (((k : Nat) : Int) != (Int.tmod (((i : Nat) : Int) + 1) ((r.feet.length : Nat) : Int))) = true) (h8 : PureF Try.prog (.clos 87 [] []) [.agg [.int .i64 a.x, .int .i64 a.y, .int .i64 a.z, .int .i64 b.x, .int .i64 b.y, .int .i64 b.z], .agg [.int .i64 q.x, .int .i64 q.y, .int .i64 q.z]] (.int .i64 (arm a b q))) (h9 : (decide ((arm a b q) ≤ 0)) = true)
    (hr : .bool false = res) : G Try.prog E (f86K1 Try.prog) (f86S1 r i k a b) :=
  end_step (n := 400) (evs := [.b true, .ld (.agg [.int .i64 q.x, .int .i64 q.y, .int .i64 q.z]), .b true, .b true, .v (.int .i64 (arm a b q)), .b true]) (obs := [(decide (((k : Nat) : Int) < ((r.feet.length : Nat) : Int))) = true, 0 ≤ ((k : Nat) : Int) ∧ ((k : Nat) : Int) < ((r.feet.length : Nat) : Int), ((rowP r.feet).drop (0 + ((Int.toNat ((k : Nat) : Int)) * 3))).take 3 = [.int .i64 q.x, .int .i64 q.y, .int .i64 q.z], 3 ≤ 3, (((k : Nat) : Int) != ((i : Nat) : Int)) = true, InR .i64 (((i : Nat) : Int) + 1), ((r.feet.length : Nat) : Int) ≠ 0, (((k : Nat) : Int) != (Int.tmod (((i : Nat) : Int) + 1) ((r.feet.length : Nat) : Int))) = true, PureF Try.prog (.clos 87 [] []) [.agg [.int .i64 a.x, .int .i64 a.y, .int .i64 a.z, .int .i64 b.x, .int .i64 b.y, .int .i64 b.z], .agg [.int .i64 q.x, .int .i64 q.y, .int .i64 q.z]] (.int .i64 (arm a b q)), (decide ((arm a b q) ≤ 0)) = true]) hE Try.func86 mixed (by kernel_rfl) ⟨h0, h1, h2, (by decide), h4, h5, h6, h7, h8, h9, trivial⟩ hr
theorem p86_1_1 (r : Rg) (i k : Nat) (a b : Pt) (q : Pt) {E : Env} {res : AV} (hE : PureE Try.prog 86 res E) (h0 : (decide (((k : Nat) : Int) < ((r.feet.length : Nat) : Int))) = true) (h1 : 0 ≤ ((k : Nat) : Int) ∧ ((k : Nat) : Int) < ((r.feet.length : Nat) : Int)) (h2 : ((rowP r.feet).drop (0 + ((Int.toNat ((k : Nat) : Int)) * 3))).take 3 = [.int .i64 q.x, .int .i64 q.y, .int .i64 q.z]) (h4 : (((k : Nat) : Int) != ((i : Nat) : Int)) = true) (h5 : InR .i64 (((i : Nat) : Int) + 1)) (h6 : ((r.feet.length : Nat) : Int) ≠ 0) (h7 : (((k : Nat) : Int) != (Int.tmod (((i : Nat) : Int) + 1) ((r.feet.length : Nat) : Int))) = true) (h8 : PureF Try.prog (.clos 87 [] []) [.agg [.int .i64 a.x, .int .i64 a.y, .int .i64 a.z, .int .i64 b.x, .int .i64 b.y, .int .i64 b.z], .agg [.int .i64 q.x, .int .i64 q.y, .int .i64 q.z]] (.int .i64 (arm a b q))) (h9 : (decide ((arm a b q) ≤ 0)) = false) (h10 : InR .i64 (((k : Nat) : Int) + 1))
    (hg : G Try.prog E (f86K1 Try.prog) (f86S1 r i (k + 1) a b)) : G Try.prog E (f86K1 Try.prog) (f86S1 r i k a b) :=
  segN_step (n := 400) (ds := []) (live := [0, 3, 4, 5, 17, 18, 19, 28, 29, 30]) (m := 1) (evs := [.b true, .ld (.agg [.int .i64 q.x, .int .i64 q.y, .int .i64 q.z]), .b true, .b true, .v (.int .i64 (arm a b q)), .b false, .stop]) (obs := [(decide (((k : Nat) : Int) < ((r.feet.length : Nat) : Int))) = true, 0 ≤ ((k : Nat) : Int) ∧ ((k : Nat) : Int) < ((r.feet.length : Nat) : Int), ((rowP r.feet).drop (0 + ((Int.toNat ((k : Nat) : Int)) * 3))).take 3 = [.int .i64 q.x, .int .i64 q.y, .int .i64 q.z], 3 ≤ 3, (((k : Nat) : Int) != ((i : Nat) : Int)) = true, InR .i64 (((i : Nat) : Int) + 1), ((r.feet.length : Nat) : Int) ≠ 0, (((k : Nat) : Int) != (Int.tmod (((i : Nat) : Int) + 1) ((r.feet.length : Nat) : Int))) = true, PureF Try.prog (.clos 87 [] []) [.agg [.int .i64 a.x, .int .i64 a.y, .int .i64 a.z, .int .i64 b.x, .int .i64 b.y, .int .i64 b.z], .agg [.int .i64 q.x, .int .i64 q.y, .int .i64 q.z]] (.int .i64 (arm a b q)), (decide ((arm a b q) ≤ 0)) = false, InR .i64 (((k : Nat) : Int) + 1)]) hE.2.1 (hE.nogh _) mixed (by kernel_rfl) ⟨h0, h1, h2, (by decide), h4, h5, h6, h7, h8, h9, h10, trivial⟩ hg
theorem p86_1_2 (r : Rg) (i k : Nat) (a b : Pt) (q : Pt) {E : Env} {res : AV} (hE : PureE Try.prog 86 res E) (h0 : (decide (((k : Nat) : Int) < ((r.feet.length : Nat) : Int))) = true) (h1 : 0 ≤ ((k : Nat) : Int) ∧ ((k : Nat) : Int) < ((r.feet.length : Nat) : Int)) (h2 : ((rowP r.feet).drop (0 + ((Int.toNat ((k : Nat) : Int)) * 3))).take 3 = [.int .i64 q.x, .int .i64 q.y, .int .i64 q.z]) (h4 : (((k : Nat) : Int) != ((i : Nat) : Int)) = true) (h5 : InR .i64 (((i : Nat) : Int) + 1)) (h6 : ((r.feet.length : Nat) : Int) ≠ 0) (h7 : (((k : Nat) : Int) != (Int.tmod (((i : Nat) : Int) + 1) ((r.feet.length : Nat) : Int))) = false) (h9 : InR .i64 (((k : Nat) : Int) + 1))
    (hg : G Try.prog E (f86K1 Try.prog) (f86S1 r i (k + 1) a b)) : G Try.prog E (f86K1 Try.prog) (f86S1 r i k a b) :=
  segN_step (n := 400) (ds := []) (live := [0, 3, 4, 5, 17, 18, 19, 28, 29, 30]) (m := 1) (evs := [.b true, .ld (.agg [.int .i64 q.x, .int .i64 q.y, .int .i64 q.z]), .b true, .b false, .b false, .stop]) (obs := [(decide (((k : Nat) : Int) < ((r.feet.length : Nat) : Int))) = true, 0 ≤ ((k : Nat) : Int) ∧ ((k : Nat) : Int) < ((r.feet.length : Nat) : Int), ((rowP r.feet).drop (0 + ((Int.toNat ((k : Nat) : Int)) * 3))).take 3 = [.int .i64 q.x, .int .i64 q.y, .int .i64 q.z], 3 ≤ 3, (((k : Nat) : Int) != ((i : Nat) : Int)) = true, InR .i64 (((i : Nat) : Int) + 1), ((r.feet.length : Nat) : Int) ≠ 0, (((k : Nat) : Int) != (Int.tmod (((i : Nat) : Int) + 1) ((r.feet.length : Nat) : Int))) = false, false = false, InR .i64 (((k : Nat) : Int) + 1)]) hE.2.1 (hE.nogh _) mixed (by kernel_rfl) ⟨h0, h1, h2, (by decide), h4, h5, h6, h7, (rfl), h9, trivial⟩ hg
theorem p86_1_3 (r : Rg) (i k : Nat) (a b : Pt) (q : Pt) {E : Env} {res : AV} (hE : PureE Try.prog 86 res E) (h0 : (decide (((k : Nat) : Int) < ((r.feet.length : Nat) : Int))) = true) (h1 : 0 ≤ ((k : Nat) : Int) ∧ ((k : Nat) : Int) < ((r.feet.length : Nat) : Int)) (h2 : ((rowP r.feet).drop (0 + ((Int.toNat ((k : Nat) : Int)) * 3))).take 3 = [.int .i64 q.x, .int .i64 q.y, .int .i64 q.z]) (h4 : (((k : Nat) : Int) != ((i : Nat) : Int)) = false) (h7 : InR .i64 (((k : Nat) : Int) + 1))
    (hg : G Try.prog E (f86K1 Try.prog) (f86S1 r i (k + 1) a b)) : G Try.prog E (f86K1 Try.prog) (f86S1 r i k a b) :=
  segN_step (n := 400) (ds := []) (live := [0, 3, 4, 5, 17, 18, 19, 28, 29, 30]) (m := 1) (evs := [.b true, .ld (.agg [.int .i64 q.x, .int .i64 q.y, .int .i64 q.z]), .b false, .b false, .b false, .stop]) (obs := [(decide (((k : Nat) : Int) < ((r.feet.length : Nat) : Int))) = true, 0 ≤ ((k : Nat) : Int) ∧ ((k : Nat) : Int) < ((r.feet.length : Nat) : Int), ((rowP r.feet).drop (0 + ((Int.toNat ((k : Nat) : Int)) * 3))).take 3 = [.int .i64 q.x, .int .i64 q.y, .int .i64 q.z], 3 ≤ 3, (((k : Nat) : Int) != ((i : Nat) : Int)) = false, false = false, false = false, InR .i64 (((k : Nat) : Int) + 1)]) hE.2.1 (hE.nogh _) mixed (by kernel_rfl) ⟨h0, h1, h2, (by decide), h4, (rfl), (rfl), h7, trivial⟩ hg
theorem p86_1_4 (r : Rg) (i k : Nat) (a b : Pt)  {E : Env} {res : AV} (hE : PureE Try.prog 86 res E) (h0 : (decide (((k : Nat) : Int) < ((r.feet.length : Nat) : Int))) = false) (h1 : InR .i64 (((i : Nat) : Int) + 1))
    (hg : G Try.prog E (f86K0 Try.prog) (f86S0 r (i + 1))) : G Try.prog E (f86K1 Try.prog) (f86S1 r i k a b) :=
  segN_step (n := 400) (ds := []) (live := [0, 3, 17, 18, 19]) (m := 0) (evs := [.b false, .stop]) (obs := [(decide (((k : Nat) : Int) < ((r.feet.length : Nat) : Int))) = false, InR .i64 (((i : Nat) : Int) + 1)]) hE.2.1 (hE.nogh _) mixed (by kernel_rfl) ⟨h0, h1, trivial⟩ hg
end Go.Proofs.Ytideokfbnegkjaa

namespace Go.Proofs.Ytideokfbnegkjaa
open Go Ax
open Go.Proofs

def footAt (r : Rg) (k : Nat) : Pt := r.feet.getD k ⟨0, 0, 0⟩
def badF (r : Rg) (i k : Nat) : Bool := ((k : Int) != (i : Int)) && (((k : Int) != Int.tmod ((i : Int) + 1) (r.feet.length : Int)) && decide (arm (lineAt r i).1 (lineAt r i).2 (footAt r k) ≤ 0))
def convR (r : Rg) (i : Nat) : Nat → Nat → Bool
  | _, 0 => true
  | k, d + 1 => !badF r i k && convR r i (k + 1) d
def convP (r : Rg) : Nat → Nat → Bool
  | _, 0 => true
  | i, d + 1 => convR r i 0 r.feet.length && convP r (i + 1) d
def convexV (r : Rg) : Bool := convP r 0 r.feet.length

structure FeetOk (r : Rg) : Prop where
  feet0 : 3 ≤ r.feet.length
  feet1 : r.feet.length ≤ 8
  foot : ∀ p ∈ r.feet, spanned p = true

theorem lineAt_ok' {r : Rg} {v : Nat} (hr : FeetOk r) (h : v < r.feet.length) : spanned (lineAt r v).1 = true ∧ spanned (lineAt r v).2 = true := by
  have hg := lineAt_get h
  unfold linesOf at hg
  rw [List.getElem?_map] at hg
  have e : (List.range' 0 r.feet.length)[v]? = some v := by simp [h]
  rw [e] at hg
  simp only [Option.map_some, Option.some.injEq] at hg
  have h2 : (v + 1) % r.feet.length < r.feet.length := Nat.mod_lt _ (by omega)
  rw [← hg]
  constructor
  · refine hr.foot _ ?_
    simp only [List.getD_eq_getElem?_getD, List.getElem?_eq_getElem h, Option.getD_some]; exact List.getElem_mem h
  · refine hr.foot _ ?_
    simp only [List.getD_eq_getElem?_getD, List.getElem?_eq_getElem h2, Option.getD_some]; exact List.getElem_mem h2

theorem conv_k {E : Env} {res : AV} {r : Rg} (hE : PureE Try.prog 86 res E) (hr : FeetOk r) {i : Nat} (hi : i < r.feet.length) {cont : Bool}
    (hg : res = .bool cont → G Try.prog E (f86K0 Try.prog) (f86S0 r (i + 1))) : ∀ (d k : Nat), k + d = r.feet.length → res = .bool (convR r i k d && cont) →
      G Try.prog E (f86K1 Try.prog) (f86S1 r i k (lineAt r i).1 (lineAt r i).2)
  | 0, k, hd, hr' => p86_1_4 r i k _ _ hE (by simp; omega) (by have := hr.feet1; unfold InR; omega) (hg (by rw [hr']; rfl))
  | d + 1, k, hd, hr' => by
    have hk : k < r.feet.length := by omega
    have hq : r.feet[k]? = some (footAt r k) := by simp [footAt, List.getD, hk]
    obtain ⟨l1, l2⟩ := lineAt_ok' hr hi
    obtain ⟨q1, -, -⟩ := arm_bd l1 l2 (hr.foot _ (List.mem_of_getElem? hq))
    have h8 := hr.feet1
    simp only [convR] at hr'
    have row := row_get cP (s := 3) (fun _ => rfl) _ _ _ hq
    rcases Bool.eq_false_or_eq_true ((k : Int) != (i : Int)) with h1 | h1
    · rcases Bool.eq_false_or_eq_true ((k : Int) != Int.tmod ((i : Int) + 1) (r.feet.length : Int)) with h2 | h2
      · rcases Bool.eq_false_or_eq_true (decide (arm (lineAt r i).1 (lineAt r i).2 (footAt r k) ≤ 0)) with h3 | h3
        · refine p86_1_0 r i k _ _ (footAt r k) hE (by simpa using hk) (by omega) row h1 (by unfold InR; omega) (by omega) h2 (arm_F _ _ _ q1) h3 ?_
          rw [hr']; simp only [badF, h1, h2, h3]; rfl
        · refine p86_1_1 r i k _ _ (footAt r k) hE (by simpa using hk) (by omega) row h1 (by unfold InR; omega) (by omega) h2 (arm_F _ _ _ q1) h3 (by unfold InR; omega) ?_
          exact conv_k hE hr hi hg d (k + 1) (by omega) (by rw [hr']; simp only [badF, h1, h2, h3]; rfl)
      · refine p86_1_2 r i k _ _ (footAt r k) hE (by simpa using hk) (by omega) row h1 (by unfold InR; omega) (by omega) h2 (by unfold InR; omega) ?_
        exact conv_k hE hr hi hg d (k + 1) (by omega) (by rw [hr']; simp only [badF, h1, h2]; rfl)
    · refine p86_1_3 r i k _ _ (footAt r k) hE (by simpa using hk) (by omega) row h1 (by unfold InR; omega) ?_
      exact conv_k hE hr hi hg d (k + 1) (by omega) (by rw [hr']; simp only [badF, h1]; rfl)

theorem conv_i {E : Env} {res : AV} {r : Rg} (hE : PureE Try.prog 86 res E) (hr : FeetOk r) : ∀ (d i : Nat), i + d = r.feet.length → res = .bool (convP r i d) → G Try.prog E (f86K0 Try.prog) (f86S0 r i)
  | 0, i, hd, hr' => p86_0e r i hE (by simp [linesOf_len]; omega) (by rw [hr']; rfl)
  | d + 1, i, hd, hr' => by
    have hi : i < r.feet.length := by omega
    refine p86_0n r i (lineAt r i).1 (lineAt r i).2 hE (by simp [linesOf_len]; omega) (by rw [linesOf_len]; omega) (row_get (fun s : Pt × Pt => cP s.1 ++ cP s.2) (fun _ => rfl) _ _ _ (lineAt_get hi)) ?_
    exact conv_k hE hr hi (cont := convP r (i + 1) d) (fun h => conv_i hE hr d (i + 1) (by omega) h) r.feet.length 0 (by omega) hr'

theorem convex_ok (r : Rg) (hr : FeetOk r) : Pure Try.prog 86 [.rptr [.rsl (rowS r.seats) 0 r.seats.length, .rsl (rowP r.feet) 0 r.feet.length, .int .i64 r.frame, .int .i64 r.c.x, .int .i64 r.c.y, .int .i64 r.c.z, .int .i64 r.empty, .int .i64 r.full, .rsl (rowLn (linesOf r.feet)) 0 ((linesOf r.feet).length), .int .i64 (phasesOf r)] 0]
    (.bool (convexV r)) := pure_of Try.func86 f86b fun E hE => p86_s r hE (conv_i hE hr r.feet.length 0 (by omega) rfl)


end Go.Proofs.Ytideokfbnegkjaa

namespace Ax
open Go

def AvLe (a b : AV) : Prop := ∀ (Z : Nat → Prop) (w : World) (c : Value), VR Z w C0 a c → VR Z w C0 b c
def AvLes : List AV → List AV → Prop
  | [], [] => True
  | a :: as', b :: bs => AvLe a b ∧ AvLes as' bs
  | _, _ => False

theorem AvLe.refl (a : AV) : AvLe a a := fun _ _ _ h => h
theorem AvLe.of_eq {a b : AV} (h : a = b) : AvLe a b := h ▸ AvLe.refl a
theorem AvLes.vrs {Z : Nat → Prop} {w : World} : ∀ {as' bs : List AV} {vs : List Value}, AvLes as' bs → VRs Z w C0 as' vs → VRs Z w C0 bs vs
  | [], [], vs, _, h => h
  | a :: as', b :: bs, [], _, h => by have := h.1; simp at this
  | a :: as', b :: bs, v :: vs, hl, h => by
    have h1 : VR Z w C0 a v := h.2 0 a v rfl rfl
    have h2 : VRs Z w C0 as' vs := ⟨by have := h.1; simpa using this, fun i c v p q => h.2 (i + 1) c v (by simpa using p) (by simpa using q)⟩
    have h3 := AvLes.vrs hl.2 h2
    refine ⟨by simp [h3.1], fun i c x p q => ?_⟩
    cases i with
    | zero => simp at p q; subst p; subst q; exact hl.1 _ _ _ h1
    | succ i => exact h3.2 i c x (by simpa using p) (by simpa using q)
  | [], b :: bs, _, hl, _ => hl.elim
  | a :: as', [], _, hl, _ => hl.elim

section
variable {P : Program} {E : Env} {K K' : List Item} {st st' : St}

theorem Pure.le {f : FuncId} {args args' : List AV} {res : AV} (h : Pure P f args res) (hl : AvLes args' args) : Pure P f args' res :=
  fun Z w cargs hz ha => h Z w cargs hz (hl.vrs ha)

theorem PureF.le {fv : AV} {args args' : List AV} {res : AV} (h : PureF P fv args res) (hl : AvLes args' args) : PureF P fv args' res :=
  fun Z w cf cargs hz hf ha => h Z w cf cargs hz hf (hl.vrs ha)

theorem G.fin {F' : Machine → Prop} (h : G P { E with Fin := F' } K st) (hm : ∀ m, F' m → E.Fin m) : G P E K st := fun C Z a w hr =>
  let ⟨m', hs, hf⟩ := h C Z a w hr
  ⟨m', hs, hm m' hf⟩

theorem Ended.mono {f : FuncId} {cs : List Frame} {Q Q' : Value → World → Prop} (hq : ∀ v w, Q v w → Q' v w) {m : Machine} (h : Ended P f cs Q m) : Ended P f cs Q' m := by
  obtain ⟨v, w, fr, e, a, b, c⟩ := h
  exact ⟨v, w, fr, e, a, b, hq _ _ c⟩

theorem end_stepL {n : Nat} {f : FuncId} {fn : Func} {evs : List EV} {r res : AV} {obs : List Prop} (hE : PureE P f res E) (hf : P.funcs[f]? = some fn) (hmx : P.follows .mixedOrders = true)
    (h : endA P fn n K st evs = some (r, obs)) (ho : AllP obs) (hr : AvLe r res) : G P E K st := by
  obtain ⟨e1, e2, e3, e4, e5, e6⟩ := hE
  refine G.fin (F' := Ended P f E.cs fun v w' => VR (Zx E.Z0 E.w0 w') w' C0 r v ∧ Fr E.w0 (fun _ => False) w') (end_step ⟨e1, e2, e3, e4, e5, rfl⟩ hf hmx h ho rfl) fun m hm => ?_
  rw [e6]
  exact Ended.mono (fun v w hq => ⟨hr _ _ _ hq.1, hq.2⟩) hm

end
end Ax
