/- A part of the proof: several texts, one behind the other. -/
import Derived.Test.YtmdbebbibecidaaLTakingsNightsA
import Derived.Shelf.Abstract
import Derived.ProofKit
import Derived.OpenShut
import Derived.WideShapes
import Derived.WideKeyArgs
import Derived.ChangeSame
import Derived.Test.YtmdbebbibecidaaChecked
set_option linter.unusedVariables false
set_option linter.unusedSimpArgs false
set_option maxRecDepth 100000
namespace Ax
open Go

section
variable {P : Program} {E : Env} {K K' : List Item} {st st' : St}

theorem binds_any {e : Edge} : Region.binds .any e = hard e := by
  unfold hard; unfold Region.binds
  cases hg : e.ground <;> simp [hg]

structure Draw (P : Program) (ops : Array Oper) (st0 : St) (rs : List Rec) (ms : List Nat) : Prop where
  len : rs.length = ops.size
  mlen : ms.length = ops.size
  rec' : ∀ j r, rs[j]? = some r → ∃ o idx' evs1 evs2 obs1, ops[j]? = some o ∧ recA P ops idx' j o ((rs.take j).foldl app1 st0) evs1 = some (r, evs2, obs1) ∧ AllP obs1
  anc : ∀ j o, ops[j]? = some o → ∃ m, ms[j]? = some m ∧ (∀ e ∈ o.after, hard e = true → e.on < j) ∧ ∀ p, m.testBit p = true → ∃ e ∈ o.after, hard e = true ∧ (p = e.on ∨ (ms.getD e.on 0).testBit p = true)
  pairs : pairsOk 0 rs ms = true

/-- Downwards closed. -/
def Down (ops : Array Oper) (D : Nat → Bool) : Prop := ∀ i o, ops[i]? = some o → D i = true → ∀ e ∈ o.after, hard e = true → D e.on = true

theorem Draw.down {ops : Array Oper} {st0 : St} {rs : List Rec} {ms : List Nat} (h : Draw P ops st0 rs ms) {D : Nat → Bool} (hd : Down ops D) :
    ∀ (i : Nat) (o : Oper) (m : Nat), ops[i]? = some o → ms[i]? = some m → D i = true → ∀ p, m.testBit p = true → D p = true := by
  intro i
  induction i using Nat.strongRecOn with
  | ind i ih =>
    intro o m ho hm hD p hp
    obtain ⟨m', q1, q2, q3⟩ := h.anc i o ho
    rw [hm] at q1; cases q1
    obtain ⟨e, e1, e2, e3⟩ := q3 p hp
    have hDe := hd i o ho hD e e1 e2
    rcases e3 with rfl | e3
    · exact hDe
    · have hlt := q2 e e1 e2
      have hs : i < ops.size := (Array.getElem?_eq_some_iff.1 ho).1
      have ho' : ops[e.on]? = some ops[e.on] := by simp
      have hm' : ms[e.on]? = some (ms.getD e.on 0) := by
        have : e.on < ms.length := by rw [h.mlen]; omega
        simp [List.getD, List.getElem?_eq_getElem this]
      exact ih e.on hlt _ _ ho' hm' hDe p e3

theorem draw_one {ops : Array Oper} {st0 : St} {rs : List Rec} {ms : List Nat} (h : Draw P ops st0 rs ms) (hk : E.b.kind = .normal) {D D' : Nat → Bool} (hd : Down ops D) {i : Nat} {o : Oper} {rest : List Nat} {k : List Item}
    (ho : ops[i]? = some o) (hi : D i = false) (hpre : ∀ e ∈ o.after, hard e = true → D e.on = true) (hD' : ∀ j, D' j = (D j || Nat.beq j i))
    (hlt : ∀ j, D j = true → j < ops.size)
    (hg : G P E (.inRegion ops rest :: k) (mix D' 0 rs st0)) : G P E (.inRegion ops (i :: rest) :: k) (mix D 0 rs st0) := by
  have his : i < ops.size := (Array.getElem?_eq_some_iff.1 ho).1
  have hir : i < rs.length := by rw [h.len]; exact his
  obtain ⟨r, hr⟩ : ∃ r, rs[i]? = some r := ⟨rs[i], by simp [hir]⟩
  obtain ⟨o', idx', evs1, evs2, obs1, q1, q2, q3⟩ := h.rec' i r hr
  rw [ho] at q1; cases q1
  obtain ⟨m, m1, m2, m3⟩ := h.anc i o ho
  have anc : ∀ p, m.testBit p = true → D p = true := by
    intro p hp
    obtain ⟨e, e1, e2, e3⟩ := m3 p hp
    have hDe := hpre e e1 e2
    rcases e3 with rfl | e3
    · exact hDe
    · have hl := m2 e e1 e2
      have ho' : ops[e.on]? = some ops[e.on] := by simp
      have hm' : ms[e.on]? = some (ms.getD e.on 0) := by
        have : e.on < ms.length := by rw [h.mlen]; omega
        simp [List.getD, List.getElem?_eq_getElem this]
      exact h.down hd e.on _ _ ho' hm' hDe p e3
  -- who clashes with 'i'
  have clsh : ∀ j r', rs[j]? = some r' → clash r' r = true → (j < i → D j = true) ∧ (i < j → D j = false) := by
    intro j r' hj hc
    refine ⟨fun hji => ?_, fun hij => ?_⟩
    · exact anc j (by simpa using pairsOk_spec h.pairs hji hj hr m1 hc)
    · cases hDj : D j with
      | false => rfl
      | true =>
        have hjs := hlt j hDj
        have hm' : ms[j]? = some (ms.getD j 0) := by
          have : j < ms.length := by rw [h.mlen]; omega
          simp [List.getD, List.getElem?_eq_getElem this]
        have := pairsOk_spec h.pairs hij hr hj hm' (by rw [clash_symm]; exact hc)
        have h2 := h.down hd j ops[j] _ (by simp [hjs]) hm' hDj i (by simpa using this)
        rw [hi] at h2; cases h2
  have blt : ∀ {a b : Nat}, Nat.blt a b = decide (a < b) := fun {a b} => by
    rw [Bool.eq_iff_iff, Nat.blt_eq]; simp
  have same : ∀ j r', rs[j]? = some r' → (clash r' r = true ∨ j = i) → D j = Nat.blt j i := by
    intro j r' hj hc
    rcases Nat.lt_trichotomy j i with hlt' | rfl | hgt
    · rw [(clsh j r' hj (hc.resolve_right (by omega))).1 hlt', blt]; simp [hlt']
    · rw [hi, blt]; simp
    · rw [(clsh j r' hj (hc.resolve_right (by omega))).2 hgt, blt]; simp; omega
  have hrec : recA P ops idx' i o (mix D 0 rs st0) evs1 = some (r, evs2, obs1) := by
    refine recA_congr q2 (fun t ht => ?_) (fun kk hk => ?_)
    · have := mix_pre (a := 0) (i := i) (rs := rs) (s := st0)
      simp only [Nat.zero_add] at this
      rw [← this]
      refine mix_tmps (fun j r' hj hd => ?_) rfl
      simp only [Nat.zero_add]
      refine same j r' hj (.inl ?_)
      have hw : wrd r' r = true := by
        simp only [wrd, hd, Bool.or_eq_true, List.any_eq_true]
        exact .inl ⟨t, ht, by simp⟩
      simp [clash, hw]
    · have := mix_pre (a := 0) (i := i) (rs := rs) (s := st0)
      simp only [Nat.zero_add] at this
      rw [← this]
      refine mix_blks (fun j r' b hj hd => ?_) rfl
      simp only [Nat.zero_add]
      refine same j r' hj (.inl ?_)
      have hw : wrd r' r = true := by
        simp only [wrd, hd, Bool.or_eq_true, List.any_eq_true]
        exact .inr ⟨kk, hk, by simp⟩
      simp [clash, hw]
  refine rec_step ho hk hrec q3 ?_
  rw [← mix_insert hi hD' (Nat.zero_le i) (by simpa using hr) fun j r' hj hlt' hDj => ?_]
  · exact hg
  · simp only [Nat.zero_add] at hlt' hDj
    cases hw : wr2 r r' with
    | false => rfl
    | true =>
      have := (clsh j r' hj (by rw [clash_symm]; simp [clash, hw])).2 hlt'
      rw [this] at hDj; cases hDj

def unl (n : Nat) (listed : Array Bool) : List Nat := (List.range n).filter fun i => !listed.getD i true

theorem draw_go {ops : Array Oper} {st0 : St} {rs : List Rec} {ms : List Nat} (h : Draw P ops st0 rs ms) (hk : E.b.kind = .normal) {k : List Item} (hg : G P E k (rs.foldl app1 st0)) :
    ∀ (fuel t : Nat) (listed : Array Bool), listed.size = ops.size → (unl ops.size listed).length ≤ fuel → Down ops (fun i => listed.getD i false) →
      G P E (.inRegion ops (Region.linearise.go .any ops fuel t listed []) :: k) (mix (fun i => listed.getD i false) 0 rs st0) := by
  have fin : ∀ listed : Array Bool, listed.size = ops.size → (∀ i, i < ops.size → listed.getD i false = true) → G P E (.inRegion ops [] :: k) (mix (fun i => listed.getD i false) 0 rs st0) := by
    intro listed hs hall
    rw [mix_all fun j hj => by rw [Nat.zero_add]; exact hall j (by rw [← h.len]; exact hj)]
    exact .of_step (fun a w => stepR_region_end) hg
  have gd : ∀ (listed : Array Bool) (i : Nat), listed.size = ops.size → i < ops.size → listed.getD i true = listed.getD i false := by
    intro listed i hs hi
    have : i < listed.size := by omega
    simp [Array.getD, this]
  intro fuel
  induction fuel with
  | zero =>
    intro t listed hs hf hd
    simp only [Region.linearise.go, List.reverse_nil]
    refine fin listed hs fun i hi => ?_
    have h0 : unl ops.size listed = [] := List.length_eq_zero_iff.1 (by omega)
    cases hc : listed.getD i false with
    | true => rfl
    | false =>
      have : i ∈ unl ops.size listed := by
        unfold unl; rw [List.mem_filter, List.mem_range]
        exact ⟨hi, by rw [gd listed i hs hi, hc]; rfl⟩
      rw [h0] at this; cases this
  | succ fuel ih =>
    intro t listed hs hf hd
    simp only [Region.linearise.go]
    change G P E (.inRegion ops (match (Region.ready .any ops listed)[t % (Region.ready .any ops listed).length]? with
      | some i => Region.linearise.go .any ops fuel (t / (Region.ready .any ops listed).length) (listed.setIfInBounds i true) [i]
      | none => [].reverse) :: k) _
    cases hi : (Region.ready .any ops listed)[t % (Region.ready .any ops listed).length]? with
    | none =>
      have hnil : Region.ready .any ops listed = [] := by
        cases hr : Region.ready .any ops listed with
        | nil => rfl
        | cons x xs =>
          rw [hr] at hi
          have hlt : t % (x :: xs).length < (x :: xs).length := Nat.mod_lt _ (by simp)
          simp at hi
          simp at hlt
          omega
      simp only [List.reverse_nil]
      refine fin listed hs fun i => ?_
      induction i using Nat.strongRecOn with
      | ind i ihi =>
        intro hi'
        cases hc : listed.getD i false with
        | true => rfl
        | false =>
          have hop : ops[i]? = some ops[i] := by simp [hi']
          have : i ∈ Region.ready .any ops listed := by
            rw [mem_ready]
            refine ⟨by rw [gd listed i hs hi', hc], ops[i], hop, fun e he hb => ?_⟩
            rw [binds_any] at hb
            obtain ⟨m, m1, m2, m3⟩ := h.anc i _ hop
            have := m2 e he hb
            exact ihi e.on this (by omega)
          rw [hnil] at this; cases this
    | some i =>
      simp only
      rw [linearise_go_acc, List.reverse_singleton, List.singleton_append]
      have hmem := List.mem_of_getElem? hi
      obtain ⟨h0, o, ho, hpre⟩ := mem_ready.1 hmem
      have his : i < ops.size := (Array.getElem?_eq_some_iff.1 ho).1
      have h0' : listed.getD i false = false := by rw [← gd listed i hs his]; exact h0
      have hset : ∀ j, (listed.setIfInBounds i true).getD j false = (listed.getD j false || Nat.beq j i) := by
        intro j
        by_cases e : j = i
        · subst e
          have : j < listed.size := by omega
          simp [Array.getD, this]
        · have : Nat.beq j i = false := by rw [← Bool.not_eq_true, Nat.beq_eq]; exact e
          rw [getD_set_ne false (Ne.symm e), this, Bool.or_false]
      refine draw_one h hk hd ho h0' (fun e he hh => hpre e he (by rw [binds_any]; exact hh)) hset (fun j hj => ?_) ?_
      · rcases Nat.lt_or_ge j ops.size with h1 | h1
        · exact h1
        · have h1' : listed.size ≤ j := by omega
          simp [Array.getD, Nat.not_lt.2 h1'] at hj
      · refine ih _ _ (by simpa using hs) ?_ ?_
        · have hsub : (unl ops.size (listed.setIfInBounds i true)) = (unl ops.size listed).filter fun j => !Nat.beq j i := by
            unfold unl
            rw [List.filter_filter]
            refine List.filter_congr fun j hj => ?_
            have hj' := List.mem_range.1 hj
            rw [gd _ j (by simpa using hs) hj', hset j, gd listed j hs hj']
            cases listed.getD j false <;> cases Nat.beq j i <;> rfl
          have hlt : ((unl ops.size listed).filter fun j => !Nat.beq j i).length < (unl ops.size listed).length := by
            rw [List.length_filter_lt_length_iff_exists]
            refine ⟨i, ?_, by simp⟩
            unfold unl; rw [List.mem_filter, List.mem_range]
            exact ⟨his, by rw [h0]; rfl⟩
          rw [hsub]; omega
        · intro j oj hoj hDj e he hh
          simp only [hset] at hDj ⊢
          rw [Bool.or_eq_true] at hDj ⊢
          rcases hDj with hDj | hDj
          · exact .inl (hd j oj hoj hDj e he hh)
          · rw [Nat.beq_eq] at hDj; subst hDj
            rw [ho] at hoj; cases hoj
            exact .inl (hpre e he (by rw [binds_any]; exact hh))

/-- A region whose order is drawn. -/
theorem draw_step {ops : Array Oper} {id : Nat} {k : List Item} {evs evs' : List EV} {obs : List Prop} (hk : E.b.kind = .normal) (hmx : P.follows .mixedOrders = true)
    (h : drawA P ops st evs = some (st', evs', obs)) (ho : AllP obs) (hg : G P E k st') : G P E (.code (.region id ops true) :: k) st := by
  unfold drawA at h
  split at h
  · cases h
  · rename_i rs st1 evs1 obs1 h1
    split at h
    · cases h
    · rename_i ms hms
      cases hp : pairsOk 0 rs ms with
      | false => simp [hp] at h
      | true =>
        simp only [hp, cond_true, Option.some.injEq, Prod.mk.injEq] at h
        obtain ⟨rfl, -, rfl⟩ := h
        obtain ⟨l, e, f⟩ := recsA_spec h1 ho
        obtain ⟨a1, a2, a3⟩ := ancsA_spec (i := 0) (acc := []) rfl hms
        have hD : Draw P ops ⟨st.tmps, st.blks ++ List.replicate (ops.toList.countP mayNew) dead⟩ rs ms :=
          ⟨l, by simpa using a2, fun j r hj => by simpa using f j r hj, fun j o hj => by simpa using a3 j o (by simpa using hj), hp⟩
        have hg2 : G P E k (rs.foldl app1 ⟨st.tmps, st.blks ++ List.replicate (ops.toList.countP mayNew) dead⟩) := by
          rw [← e]
          obtain ⟨m, hm⟩ := trim_spec st1.blks
          have : st1 = ⟨st1.tmps, trim st1.blks ++ List.replicate m dead⟩ := by cases st1; simp only at hm ⊢; rw [← hm]
          rw [this]; exact G_pop hg
        intro C Z a w hr
        have hstep := stepR_region_draw (P := P) (b := E.b) (a := a) (k := k) (cs := E.cs) (w := w) (ops := ops) (id := id)
        refine .step (.one hstep) ?_
        have hrep : ∀ j, (Array.replicate ops.size false).getD j false = false := by
          intro j
          by_cases hj : j < ops.size <;> simp [Array.getD, hj]
        have hgo := draw_go hD hk hg2 ops.size (w.tape w.drawn (.order E.b.fn id)) (Array.replicate ops.size false) (by simp) (by
          unfold unl; exact Nat.le_trans (List.length_filter_le _ _) (by simp)) (by intro i o hio hDi; have := (hrep i).symm.trans hDi; cases this)
        simp only [Region.schedule, hmx, Bool.true_or, if_true]
        rw [mix_none (fun j => hrep j)] at hgo
        have ev : EvoC w { w with drawn := w.drawn + 1 } := ⟨fun _ _ _ _ h => h, rfl⟩
        have hfr := hr.mem.frame
        exact hgo C Z a { w with drawn := w.drawn + 1 } ⟨⟨hr.tmp.1, fun i c v p q => (hr.tmp.2 i c v p q).evoC ev⟩,
          (hr.mem.evoC ev ⟨hfr.os, hfr.tape, hfr.output, hfr.size, hfr.same⟩).pushN _, hr.marks, ⟨hr.gh.1, fun i c v p q => (hr.gh.2 i c v p q).evoC ev⟩, hr.base.evoC ev⟩

end
end Ax

namespace Ax
open Go

/-! ### Calls that turn blocks of the caller -/
def Own (C : Ctx) (b : Nat) : Prop := ∃ k o, C.β k = .loc b o

mutual
def ren (f : Nat → Nat) : AV → AV
  | .ptr k g off => .ptr (f k) g off
  | .sl k g off len sz => .sl (f k) g off len sz
  | .agg cs => .agg (rens f cs)
  | .tup cs => .tup (rens f cs)
  | .clos g a b => .clos g (rens f a) (rens f b)
  | v => v
def rens (f : Nat → Nat) : List AV → List AV
  | [] => []
  | c :: cs => ren f c :: rens f cs
end

mutual
def refsIn (p : Nat → Bool) : AV → Bool
  | .ptr k _ _ => p k
  | .sl k _ _ _ _ => p k
  | .agg cs => refsIns p cs
  | .tup cs => refsIns p cs
  | .clos _ a b => refsIns p a && refsIns p b
  | _ => true
def refsIns (p : Nat → Bool) : List AV → Bool
  | [] => true
  | c :: cs => refsIn p c && refsIns p cs
end

theorem rens_get {f : Nat → Nat} : ∀ {cs : List AV} {i : Nat}, (rens f cs)[i]? = (cs[i]?).map (ren f)
  | [], i => by simp [rens]
  | c :: cs, 0 => by simp [rens]
  | c :: cs, i + 1 => by simp [rens, rens_get (cs := cs)]

theorem rens_length {f : Nat → Nat} : ∀ {cs : List AV}, (rens f cs).length = cs.length
  | [] => rfl
  | c :: cs => by simp [rens, rens_length (cs := cs)]

theorem refsIns_get {p : Nat → Bool} : ∀ {cs : List AV} {i : Nat} {c : AV}, refsIns p cs = true → cs[i]? = some c → refsIn p c = true
  | [], _, _, _, h => by simp at h
  | d :: cs, 0, c, hn, h => by simp [refsIns] at hn h; rw [← h]; exact hn.1
  | d :: cs, i + 1, c, hn, h => by simp [refsIns] at hn h; exact refsIns_get hn.2 h

mutual
theorem refsIn_all (v : AV) : refsIn (fun _ => true) v = true := by
  cases v <;> simp only [refsIn]
  case agg cs => exact refsIns_all cs
  case tup cs => exact refsIns_all cs
  case clos f a b => rw [refsIns_all a, refsIns_all b]; rfl
theorem refsIns_all (cs : List AV) : refsIns (fun _ => true) cs = true := by
  cases cs with
  | nil => rfl
  | cons c cs => simp only [refsIns]; rw [refsIn_all c, refsIns_all cs]; rfl
end

theorem isCell_ren {f : Nat → Nat} (v : AV) : isCell (ren f v) = isCell v := by
  cases v <;> rfl

theorem VR.ren {f : Nat → Nat} {p : Nat → Bool} {C C' : Ctx} {Z : Nat → Prop} {w : World} {v : AV} {c : Value} (hf : ∀ k, p k = true → C'.β (f k) = C.β k ∧ C'.γ (f k) = C.γ k)
    (h : VR Z w C v c) (hp : refsIn p v = true) : VR Z w C' (Ax.ren f v) c := by
  have key : ∀ {C₁ v c}, VR Z w C₁ v c → C₁ = C → refsIn p v = true → VR Z w C' (Ax.ren f v) c := by
    intro C₁ v c h
    have lst : ∀ {cs : List AV} {arr : Array Value}, (∀ (i : Nat) (c : AV) (v : Value), cs[i]? = some c → arr[i]? = some v → refsIn p c = true → VR Z w C' (Ax.ren f c) v) → refsIns p cs = true →
        ∀ (i : Nat) (c : AV) (v : Value), (rens f cs)[i]? = some c → arr[i]? = some v → VR Z w C' c v := by
      intro cs arr h hp i c v h1 h2
      rw [rens_get, Option.map_eq_some_iff] at h1
      obtain ⟨c0, h1, rfl⟩ := h1
      exact h i c0 v h1 h2 (refsIns_get hp h1)
    induction h with
    | bool b => exact fun _ _ => .bool b
    | int k n => exact fun _ _ => .int k n
    | nilPtr => exact fun _ _ => .nilPtr
    | @ptr C₁ k g off c hg ho hh =>
      rintro rfl hp
      obtain ⟨e1, e2⟩ := hf k (by simpa [refsIn] using hp)
      exact .ptr (by rw [e2]; exact hg) ho (by rw [e1, e2]; exact hh)
    | rptr cv hz hc hk hr ih => exact fun _ _ => .rptr cv hz hc hk hr
    | nilSl => exact fun _ _ => .nilSl
    | @sl C₁ k g off len sz c hg ho hh =>
      rintro rfl hp
      obtain ⟨e1, e2⟩ := hf k (by simpa [refsIn] using hp)
      exact .sl (by rw [e2]; exact hg) ho (by unfold SlOk at hh ⊢; rw [e1, e2]; exact hh)
    | rsl cv hz hl hc hk hr ih => exact fun _ _ => .rsl cv hz hl hc hk hr
    | rsl0 => exact fun _ _ => .rsl0
    | agg hl h ih =>
      intro e hp
      exact .agg (by rw [rens_length]; exact hl) (lst (fun i c v h1 h2 h3 => ih i c v h1 h2 e h3) (by simpa [refsIn] using hp))
    | tup hl h ih =>
      intro e hp
      exact .tup (by rw [rens_length]; exact hl) (lst (fun i c v h1 h2 h3 => ih i c v h1 h2 e h3) (by simpa [refsIn] using hp))
    | clos hl h hl' h' ih ih' =>
      intro e hp
      simp only [refsIn, Bool.and_eq_true] at hp
      exact .clos (by rw [rens_length]; exact hl) (lst (fun i c v h1 h2 h3 => ih i c v h1 h2 e h3) hp.1) (by rw [rens_length]; exact hl') (lst (fun i c v h1 h2 h3 => ih' i c v h1 h2 e h3) hp.2)
    | nilFunc => exact fun _ _ => .nilFunc
    | opq v => exact fun _ _ => .opq v
    | junk v => exact fun _ _ => .junk v
  exact key h rfl hp

/-- As 'Evo' and 'CtxLe' together; a row may have turned whose generation is gone. -/
structure EvoG (C C' : Ctx) (Z Z' : Nat → Prop) (w w' : World) : Prop where
  zsub : ∀ b, Z b → Z' b
  same : ∀ b, Z b → w'.heap[b]? = w.heap[b]?
  le : CtxLe C C'
  rows : ∀ k blk o arr e, C.β k = .loc blk o → C'.γ k = C.γ k → w.heap[blk]? = some (.cells arr e (0, 0)) → ∃ arr', w'.heap[blk]? = some (.cells arr' e (0, 0)) ∧ arr'.size = arr.size

theorem VR.evoG {C C' : Ctx} {Z Z' : Nat → Prop} {w w' : World} {v : AV} {c : Value} (h : VR Z w C v c) (he : EvoG C C' Z Z' w w') : VR Z' w' C' v c := by
  have he0 : Evo C0 Z Z' w w' := ⟨he.zsub, he.same, fun k blk o arr e h => by simp [C0] at h⟩
  have key : ∀ {C₁ v c}, VR Z w C₁ v c → C₁ = C → VR Z' w' C' v c := by
    intro C₁ v c h
    induction h with
    | bool b => exact fun _ => .bool b
    | int k n => exact fun _ => .int k n
    | nilPtr => exact fun _ => .nilPtr
    | @ptr C₁ k g off c hg ho hh =>
      rintro rfl
      refine .ptr (Nat.le_trans hg (he.le.gen k)) ho fun e => ?_
      have e1 : g = C₁.γ k := by have := he.le.gen k; omega
      obtain ⟨blk, o, hb, hv⟩ := hh e1
      exact ⟨blk, o, by rw [he.le.pos k (by rw [hb]; simp) (by omega), hb], hv⟩
    | rptr cv hz hc hk hr ih => exact fun _ => .rptr cv (he.zsub _ hz) (fun i hi => (cell_of_heap (he.same _ hz)).trans (hc i hi)) hk fun i c hi => (hr i c hi).mono he0
    | nilSl => exact fun _ => .nilSl
    | @sl C₁ k g off len sz c hg ho hh =>
      rintro rfl
      refine .sl (Nat.le_trans hg (he.le.gen k)) ho fun e => ?_
      have e1 : g = C₁.γ k := by have := he.le.gen k; omega
      have h1 := hh e1
      unfold SlOk at h1 ⊢
      rw [he.le.pos k (by intro hb; simp [hb] at h1) (by omega)]
      cases hb : C₁.β k with
      | absent => simp [hb] at h1
      | unborn => simp only [hb] at h1 ⊢; exact h1
      | loc blk o =>
        simp only [hb] at h1 ⊢
        obtain ⟨a, cap, h2, h3, h4, arr, e', h5, h6⟩ := h1
        obtain ⟨arr', h7, h8⟩ := he.rows k blk o arr e' hb (by omega) h5
        exact ⟨a, cap, h2, h3, h4, arr', e', h7, by omega⟩
    | rsl cv hz hl hc hk hr ih => exact fun _ => .rsl cv (he.zsub _ hz) hl (fun i hi => (cell_of_heap (he.same _ hz)).trans (hc i hi)) hk fun i c hi => (hr i c hi).mono he0
    | rsl0 => exact fun _ => .rsl0
    | agg hl h ih => exact fun e => .agg hl fun i c v h1 h2 => ih i c v h1 h2 e
    | tup hl h ih => exact fun e => .tup hl fun i c v h1 h2 => ih i c v h1 h2 e
    | clos hl h hl' h' ih ih' => exact fun e => .clos hl (fun i c v h1 h2 => ih i c v h1 h2 e) hl' (fun i c v h1 h2 => ih' i c v h1 h2 e)
    | nilFunc => exact fun _ => .nilFunc
    | opq v => exact fun _ => .opq v
    | junk v => exact fun _ => .junk v
  exact key h rfl

theorem VRs.evoG {C C' : Ctx} {Z Z' : Nat → Prop} {w w' : World} {cs : List AV} {vs : List Value} (h : VRs Z w C cs vs) (he : EvoG C C' Z Z' w w') : VRs Z' w' C' cs vs :=
  ⟨h.1, fun i c v a b => (h.2 i c v a b).evoG he⟩

theorem Marks.evoG {C C' : Ctx} {Z Z' M : Nat → Prop} {w0 w w' : World} {ds : List Deferred} (h : Marks Z M w0 ds w) (he : EvoG C C' Z Z' w w') : Marks Z' M w0 ds w' := by
  obtain ⟨Ds, h1, h2, h3⟩ := h
  exact ⟨Ds, h1, h2, fun D hD => ⟨he.zsub D (h3 D hD).1, (h3 D hD).2.1, by rw [he.same D (h3 D hD).1]; exact (h3 D hD).2.2⟩⟩

theorem Base.nextG {Cb C C' : Ctx} {w0 w w' : World} {Z Z' : Nat → Prop} (h : Base Cb w0 C w) (he : EvoG C C' Z Z' w w') : Base Cb w0 C' w' := by
  refine ⟨⟨fun k => Nat.le_trans (h.le.gen k) (he.le.gen k), fun k p q => ?_⟩, fun k blk o arr e p q r => ?_⟩
  · have e1 := h.le.gen k
    have e2 := he.le.gen k
    have e3 : C.γ k = Cb.γ k := by omega
    rw [he.le.pos k (by rw [h.le.pos k p e3]; exact p) (by omega), h.le.pos k p e3]
  · have e1 := h.le.gen k
    have e2 := he.le.gen k
    have e3 : C.γ k = Cb.γ k := by omega
    obtain ⟨arr1, a1, a2⟩ := h.rows k blk o arr e p e3 r
    have hb : C.β k = .loc blk o := by rw [h.le.pos k (by rw [p]; simp) e3, p]
    obtain ⟨arr2, b1, b2⟩ := he.rows k blk o arr1 e hb (by omega) a1
    exact ⟨arr2, b1, by omega⟩

/-- A function value that turns what it is handed: blocks 'bs' become 'bs2' (and what is new lies behind them). -/
def LentF (P : Program) (fv : AV) (args : List AV) (bs : List Blk) (res : AV) (bs2 : List Blk) : Prop :=
  ∀ (Z : Nat → Prop) (w : World) (C : Ctx) (cf : Value) (cargs : Array Value), Mem Z (Own C) w C Z bs w → VR Z w C fv cf → VRs Z w C args cargs.toList →
    ∃ (d : Deferred) (f : FuncId) (args' : Array Value), (Deferred.ofValue cf cargs).run P w = .ok d w ∧ (invoke d.target d.args).run P w = .ok (.enter f args') w ∧
      Calls P f args' w fun e w' => ∃ v C' Z', e = .returned v ∧ Base C w C' w' ∧ Mem Z (Own C) w C' Z' bs2 w' ∧ VR Z' w' C' res v

def renB (f : Nat → Nat) (b : Blk) : Blk := bif b.flat then b else { b with cells := rens f b.cells }

def nodupB : List Nat → Bool
  | [] => true
  | j :: js => !js.contains j && nodupB js

def lend (f : Nat → Nat) (p : Nat → Bool) (blks : List Blk) : List Nat → Option (List Blk)
  | [] => some []
  | j :: js => match blks[j]?, lend f p blks js with
    | some b, some bs => bif b.flat || refsIns p b.cells then some (renB f b :: bs) else none
    | _, _ => none

def giveBack (blks : List Blk) : List Nat → List Blk → List Blk
  | j :: js, b :: bs => giveBack (blks.set j b) js bs
  | _, _ => blks

/-- From the callee's numbers to the caller's. -/
def outN (N : Nat) (ρ : List Nat) (k : Nat) : Nat := bif Nat.ble ρ.length k then N + (k - ρ.length) else ρ.getD k 0

def lentA (P : Program) (fv : AV) (args : List AV) (blks : List Blk) (ρ : List Nat) (res : AV) (bs2 : List Blk) : Option (AV × List Blk × List Prop) :=
  bif nodupB ρ && Nat.ble ρ.length bs2.length && refsIn (fun j => ρ.contains j) fv && refsIns (fun j => ρ.contains j) args then
    match lend (fun j => ρ.idxOf j) (fun j => ρ.contains j) blks ρ with
    | some bs => some (ren (outN blks.length ρ) res, giveBack blks ρ (bs2.map (renB (outN blks.length ρ))) ++ (bs2.drop ρ.length).map (renB (outN blks.length ρ)),
        [LentF P (ren (fun j => ρ.idxOf j) fv) (rens (fun j => ρ.idxOf j) args) bs res bs2])
    | none => none
  else none

theorem Fr.trans {w0 w w' : World} {M F : Nat → Prop} (h : Fr w0 M w) (h' : Fr w F w') (hF : ∀ b, b < w0.heap.size → ¬ M b → ¬ F b) : Fr w0 M w' :=
  ⟨h'.os.trans h.os, h'.tape.trans h.tape, h'.output.trans h.output, Nat.le_trans h.size h'.size, fun b hb hM => by
    rw [h'.same b (Nat.lt_of_lt_of_le hb h.size) (hF b hb hM)]; exact h.same b hb hM⟩


theorem lend_get {f : Nat → Nat} {p : Nat → Bool} {blks : List Blk} : ∀ {ρ : List Nat} {bs : List Blk}, lend f p blks ρ = some bs → bs.length = ρ.length ∧
    ∀ (k : Nat) (b' : Blk), bs[k]? = some b' → ∃ j b, ρ[k]? = some j ∧ blks[j]? = some b ∧ b' = renB f b ∧ (b.flat = true ∨ refsIns p b.cells = true)
  | [], bs, h => by simp only [lend, Option.some.injEq] at h; subst h; exact ⟨rfl, by simp⟩
  | j :: js, bs, h => by
    simp only [lend] at h
    split at h
    · rename_i b bs1 hb hl
      obtain ⟨q1, q2⟩ := lend_get hl
      cases hc : (b.flat || refsIns p b.cells) with
      | false => simp [hc] at h
      | true =>
        simp only [hc, cond_true, Option.some.injEq] at h
        subst h
        refine ⟨by simp [q1], fun k b' hk => ?_⟩
        cases k with
        | zero => simp only [List.getElem?_cons_zero, Option.some.injEq] at hk; exact ⟨j, b, rfl, hb, hk.symm, by simpa using hc⟩
        | succ k => exact q2 k b' (by simpa using hk)
    · cases h

theorem giveBack_length : ∀ {ρ : List Nat} {bs blks : List Blk}, (giveBack blks ρ bs).length = blks.length
  | [], _, _ => by simp [giveBack]
  | j :: js, [], _ => by simp [giveBack]
  | j :: js, b :: bs, blks => by simp [giveBack, giveBack_length (ρ := js)]

theorem giveBack_out : ∀ {ρ : List Nat} {bs blks : List Blk} {j : Nat}, j ∉ ρ → (giveBack blks ρ bs)[j]? = blks[j]?
  | [], _, _, _, _ => by simp [giveBack]
  | i :: js, [], _, _, _ => by simp [giveBack]
  | i :: js, b :: bs, blks, j, h => by
    simp only [List.mem_cons, not_or] at h
    simp only [giveBack]
    rw [giveBack_out h.2, List.getElem?_set_ne (by omega)]

theorem giveBack_in : ∀ {ρ : List Nat} {bs blks : List Blk} {j k : Nat} {b : Blk}, nodupB ρ = true → ρ[k]? = some j → bs[k]? = some b → j < blks.length → (giveBack blks ρ bs)[j]? = some b
  | [], _, _, _, _, _, _, h, _, _ => by simp at h
  | i :: js, [], _, _, _, _, _, _, h, _ => by simp at h
  | i :: js, b0 :: bs, blks, j, 0, b, hn, h1, h2, h3 => by
    simp only [List.getElem?_cons_zero, Option.some.injEq] at h1 h2
    subst h1; subst h2
    simp only [nodupB, Bool.and_eq_true, Bool.not_eq_true', List.contains_eq_mem, decide_eq_false_iff_not] at hn
    simp only [giveBack]
    rw [giveBack_out hn.1]; simp [h3]
  | i :: js, b0 :: bs, blks, j, k + 1, b, hn, h1, h2, h3 => by
    simp only [nodupB, Bool.and_eq_true] at hn
    simp only [giveBack]
    exact giveBack_in hn.2 (by simpa using h1) (by simpa using h2) (by simpa using h3)

theorem nodup_inj : ∀ {ρ : List Nat} {k k' j : Nat}, nodupB ρ = true → ρ[k]? = some j → ρ[k']? = some j → k = k'
  | [], _, _, _, _, h, _ => by simp at h
  | i :: js, 0, 0, _, _, _, _ => rfl
  | i :: js, 0, k' + 1, j, hn, h1, h2 => by
    simp only [nodupB, Bool.and_eq_true, Bool.not_eq_true', List.contains_eq_mem, decide_eq_false_iff_not] at hn
    simp only [List.getElem?_cons_zero, Option.some.injEq, List.getElem?_cons_succ] at h1 h2
    exact absurd (h1 ▸ List.mem_of_getElem? h2) hn.1
  | i :: js, k + 1, 0, j, hn, h1, h2 => by
    simp only [nodupB, Bool.and_eq_true, Bool.not_eq_true', List.contains_eq_mem, decide_eq_false_iff_not] at hn
    simp only [List.getElem?_cons_zero, Option.some.injEq, List.getElem?_cons_succ] at h1 h2
    exact absurd (h2 ▸ List.mem_of_getElem? h1) hn.1
  | i :: js, k + 1, k' + 1, j, hn, h1, h2 => by
    simp only [nodupB, Bool.and_eq_true] at hn
    have e := nodup_inj (k := k) (k' := k') (j := j) hn.2 (by simpa using h1) (by simpa using h2)
    rw [e]

theorem idx_get {ρ : List Nat} {k j : Nat} (hn : nodupB ρ = true) (h : ρ[k]? = some j) : ρ.idxOf j = k := by
  have hm : j ∈ ρ := List.mem_of_getElem? h
  have hlt : ρ.idxOf j < ρ.length := List.idxOf_lt_length_iff.2 hm
  refine nodup_inj hn (j := j) ?_ h
  rw [List.getElem?_eq_getElem hlt, List.getElem_idxOf hlt]

/-- From the caller's numbers to the callee's. -/
def inN (N : Nat) (ρ : List Nat) (j : Nat) : Option Nat := if j < N then (if j ∈ ρ then some (ρ.idxOf j) else none) else some (j - N + ρ.length)

def subC (C : Ctx) (ρ : List Nat) : Ctx := ⟨fun k => match ρ[k]? with | some j => C.β j | none => .absent, fun k => match ρ[k]? with | some j => C.γ j | none => 0⟩

def backC (C C1 : Ctx) (N : Nat) (ρ : List Nat) : Ctx :=
  ⟨fun j => match inN N ρ j with | some k => C1.β k | none => C.β j, fun j => match inN N ρ j with | some k => C1.γ k | none => C.γ j⟩

theorem inN_out {N : Nat} {ρ : List Nat} {k : Nat} (hn : nodupB ρ = true) (hρ : ∀ j ∈ ρ, j < N) : inN N ρ (outN N ρ k) = some k := by
  unfold inN outN
  by_cases hk : ρ.length ≤ k
  · rw [Nat.ble_eq_true_of_le hk]
    simp only [cond_true]
    rw [if_neg (by omega)]
    congr 1; omega
  · have hb : Nat.ble ρ.length k = false := by
      cases h : Nat.ble ρ.length k with
      | false => rfl
      | true => exact absurd (Nat.le_of_ble_eq_true h) hk
    have hg : ρ[k]? = some ρ[k] := List.getElem?_eq_getElem (by omega)
    have hgd : ρ.getD k 0 = ρ[k] := by simp [List.getD, hg]
    rw [hb]
    simp only [cond_false]
    rw [hgd, if_pos (hρ _ (List.getElem_mem _)), if_pos (List.getElem_mem _), idx_get hn hg]

theorem out_inN {N : Nat} {ρ : List Nat} {j k : Nat} (h : inN N ρ j = some k) : outN N ρ k = j ∧ (j < N → ρ[k]? = some j) ∧ (N ≤ j → ρ.length ≤ k) := by
  unfold inN at h
  unfold outN
  split at h
  · rename_i hj
    split at h
    · rename_i hm
      simp only [Option.some.injEq] at h
      subst h
      have hlt : ρ.idxOf j < ρ.length := List.idxOf_lt_length_iff.2 hm
      have hg : ρ[ρ.idxOf j]? = some j := by rw [List.getElem?_eq_getElem hlt, List.getElem_idxOf hlt]
      have hb : Nat.ble ρ.length (ρ.idxOf j) = false := by
        cases h : Nat.ble ρ.length (ρ.idxOf j) with
        | false => rfl
        | true => exact absurd (Nat.le_of_ble_eq_true h) (by omega)
      exact ⟨by rw [hb]; simp [List.getD, hg], fun _ => hg, fun h => by omega⟩
    · cases h
  · rename_i hj
    simp only [Option.some.injEq] at h
    subst h
    exact ⟨by rw [Nat.ble_eq_true_of_le (by omega)]; simp only [cond_true]; omega, fun h => by omega, fun _ => by omega⟩

theorem BlkOk.ren {C C' : Ctx} {Z : Nat → Prop} {w : World} {k k' : Nat} {b : Blk} {f : Nat → Nat} {p : Nat → Bool} (hf : ∀ k, p k = true → C'.β (f k) = C.β k ∧ C'.γ (f k) = C.γ k)
    (hk : C'.β k' = C.β k) (hp : b.flat = true ∨ refsIns p b.cells = true) (h : BlkOk C Z w k b) : BlkOk C' Z w k' (renB f b) := by
  intro hl
  unfold renB at hl ⊢
  cases hfl : b.flat with
  | true =>
    rw [hfl] at hl
    simp only [cond_true] at hl ⊢
    obtain ⟨q1, q2⟩ := h hl
    refine ⟨q1, ?_⟩
    rw [hk]
    cases hs : C.β k with
    | absent => simp [hs] at q2
    | unborn => simp only [hs] at q2 ⊢; exact q2
    | loc blk o => simp only [hs, hfl, if_true] at q2 ⊢; exact q2
  | false =>
    rw [hfl] at hl
    simp only [cond_false] at hl ⊢
    have hp := hp.resolve_left (by rw [hfl]; simp)
    obtain ⟨q1, q2⟩ := h hl
    refine ⟨fun i c hi => ?_, ?_⟩
    · rw [rens_get, Option.map_eq_some_iff] at hi
      obtain ⟨c0, hi, rfl⟩ := hi
      rw [isCell_ren]; exact q1 i c0 hi
    rw [hk]
    cases hs : C.β k with
    | absent => simp [hs] at q2
    | unborn => simp only [hs] at q2 ⊢; rw [q2]; rfl
    | loc blk o =>
      simp only [hs, hfl, Bool.false_eq_true, if_false] at q2 ⊢
      obtain ⟨arr, e, r1, r2, r3⟩ := q2
      refine ⟨arr, e, r1, by rw [rens_length]; exact r2, fun i c hi => ?_⟩
      rw [rens_get, Option.map_eq_some_iff] at hi
      obtain ⟨c0, hi, rfl⟩ := hi
      obtain ⟨v, s1, s2⟩ := r3 i c0 hi
      exact ⟨v, s1, s2.ren hf (refsIns_get hp hi)⟩

theorem BlkOk.evoG {C C' : Ctx} {Z Z' : Nat → Prop} {w w' : World} {k : Nat} {b : Blk} (h : BlkOk C Z w k b) (he : EvoG C C' Z Z' w w') (hk : C'.β k = C.β k) (hh : ∀ blk o, C.β k = .loc blk o → w'.heap[blk]? = w.heap[blk]?) : BlkOk C' Z' w' k b := by
  intro hl
  obtain ⟨q1, q2⟩ := h hl
  refine ⟨q1, ?_⟩
  rw [hk]
  cases hs : C.β k with
  | absent => simp [hs] at q2
  | unborn => simp only [hs] at q2 ⊢; exact q2
  | loc blk o =>
    simp only [hs] at q2 ⊢
    obtain ⟨arr, e, r1, r2, r3⟩ := q2
    refine ⟨arr, e, by rw [hh blk o hs]; exact r1, r2, fun i c hi => ?_⟩
    obtain ⟨v, s1, s2⟩ := r3 i c hi
    refine ⟨v, s1, ?_⟩
    cases hf : b.flat with
    | true => simp only [hf, if_true] at s2 ⊢; exact s2.mono ⟨he.zsub, he.same, fun k blk o arr e h => by simp [C0] at h⟩
    | false => simp only [hf, Bool.false_eq_true, if_false] at s2 ⊢; exact s2.evoG he

section
variable {P : Program} {Z0 M Z Z1 : Nat → Prop} {w0 w w1 : World} {C C1 : Ctx} {blks bs bs2 : List Blk} {ρ : List Nat}

/-- The memory that is lent. -/
theorem Mem.lend (hm : Mem Z0 M w0 C Z blks w) (hn : nodupB ρ = true) (h : Ax.lend (fun j => ρ.idxOf j) (fun j => ρ.contains j) blks ρ = some bs) :
    Mem Z (Own (subC C ρ)) w (subC C ρ) Z bs w ∧ (∀ j ∈ ρ, j < blks.length) ∧ ∀ j, ρ.contains j = true → (subC C ρ).β (ρ.idxOf j) = C.β j ∧ (subC C ρ).γ (ρ.idxOf j) = C.γ j := by
  obtain ⟨hlen, hget⟩ := lend_get h
  have hcon : ∀ j, ρ.contains j = true → (subC C ρ).β (ρ.idxOf j) = C.β j ∧ (subC C ρ).γ (ρ.idxOf j) = C.γ j := by
    intro j hj
    have hm : j ∈ ρ := by simpa using hj
    have hlt : ρ.idxOf j < ρ.length := List.idxOf_lt_length_iff.2 hm
    have hg : ρ[ρ.idxOf j]? = some j := by rw [List.getElem?_eq_getElem hlt, List.getElem_idxOf hlt]
    simp only [subC, hg, and_self]
  have hρ : ∀ j ∈ ρ, j < blks.length := by
    intro j hj
    obtain ⟨k, hk⟩ := List.getElem?_of_mem hj
    have hkl : k < bs.length := by rw [hlen]; exact (List.getElem?_eq_some_iff.1 hk).1
    obtain ⟨j', b, e1, e2, -⟩ := hget k bs[k] (List.getElem?_eq_getElem hkl)
    rw [hk] at e1; cases e1
    exact (List.getElem?_eq_some_iff.1 e2).1
  have hβ : ∀ {k b o}, (subC C ρ).β k = .loc b o → ∃ j, ρ[k]? = some j ∧ C.β j = .loc b o := by
    intro k b o h
    simp only [subC] at h
    cases hk : ρ[k]? with
    | none => simp [hk] at h
    | some j => simp only [hk] at h; exact ⟨j, rfl, h⟩
  have renB_eq : ∀ (f : Nat → Nat) (b : Blk), (renB f b).gen = b.gen ∧ (renB f b).live = b.live := by
    intro f b; unfold renB; cases b.flat <;> exact ⟨rfl, rfl⟩
  refine ⟨⟨fun k b' hb => ?_, fun k b' hb => ?_, fun k b' hb hd => ?_, fun k hk => ?_, fun k k' b o o' h1 h2 => ?_, fun k b o h1 => ?_, hm.zlt, fun _ h => h, fun _ h => .inl h, Fr.refl _ _⟩, hρ, hcon⟩
  · obtain ⟨j, b, e1, e2, rfl, e4⟩ := hget k b' hb
    exact (hm.blk j b e2).ren hcon (by simp only [subC, e1]) e4
  · obtain ⟨j, b, e1, e2, rfl, e4⟩ := hget k b' hb
    rw [(renB_eq _ b).1, ← hm.gen j b e2]; simp only [subC, e1]
  · obtain ⟨j, b, e1, e2, rfl, e4⟩ := hget k b' hb
    rw [(renB_eq _ b).2] at hd
    have := hm.dd j b e2 hd
    simp only [subC, e1]; exact this
  · have : ρ[k]? = none := List.getElem?_eq_none (by omega)
    simp only [subC, this, and_self]
  · obtain ⟨j, e1, e2⟩ := hβ h1
    obtain ⟨j', e3, e4⟩ := hβ h2
    have := hm.inj j j' b o o' e2 e4
    subst this
    exact nodup_inj hn e1 e3
  · obtain ⟨j, e1, e2⟩ := hβ h1
    obtain ⟨a, b', c⟩ := hm.own j b o e2
    exact ⟨a, b', .inl ⟨k, o, h1⟩⟩

/-- The memory behind the call. -/
theorem Mem.given (hm : Mem Z0 M w0 C Z blks w) (hn : nodupB ρ = true) (hρ : ∀ j ∈ ρ, j < blks.length) (hl : ρ.length ≤ bs2.length) (hb : Base (subC C ρ) w C1 w1) (h1 : Mem Z (Own (subC C ρ)) w C1 Z1 bs2 w1) :
    Mem Z0 M w0 (backC C C1 blks.length ρ) Z1 (giveBack blks ρ (bs2.map (renB (outN blks.length ρ))) ++ (bs2.drop ρ.length).map (renB (outN blks.length ρ))) w1 ∧
    EvoG C (backC C C1 blks.length ρ) Z Z1 w w1 ∧ ∀ k, (backC C C1 blks.length ρ).β (outN blks.length ρ k) = C1.β k ∧ (backC C C1 blks.length ρ).γ (outN blks.length ρ k) = C1.γ k := by
  have hout : ∀ k, (backC C C1 blks.length ρ).β (outN blks.length ρ k) = C1.β k ∧ (backC C C1 blks.length ρ).γ (outN blks.length ρ k) = C1.γ k := by
    intro k; simp only [backC, inN_out hn hρ, and_self]
  have hout' : ∀ k, (fun _ : Nat => true) k = true → (backC C C1 blks.length ρ).β (outN blks.length ρ k) = C1.β k ∧ (backC C C1 blks.length ρ).γ (outN blks.length ρ k) = C1.γ k := fun k _ => hout k
  have hβ : ∀ {k b o}, (subC C ρ).β k = .loc b o → ∃ j, ρ[k]? = some j ∧ C.β j = .loc b o := by
    intro k b o h
    simp only [subC] at h
    cases hk : ρ[k]? with
    | none => simp [hk] at h
    | some j => simp only [hk] at h; exact ⟨j, rfl, h⟩
  have hOwn : ∀ b, Own (subC C ρ) b → ∃ j o, j ∈ ρ ∧ C.β j = .loc b o := fun b ⟨k, o, h⟩ => by
    obtain ⟨j, e1, e2⟩ := hβ h
    exact ⟨j, o, List.mem_of_getElem? e1, e2⟩
  have hfs := h1.frame.size
  have hs0 := hm.frame.size
  -- an old block that is not lent
  have hfree : ∀ j b o, j ∉ ρ → C.β j = .loc b o → ¬ Own (subC C ρ) b := fun j b o hj h ho => by
    obtain ⟨j', o', e1, e2⟩ := hOwn b ho
    exact hj (hm.inj j j' b o o' h e2 ▸ e1)
  have hnone : ∀ j, inN blks.length ρ j = none → j < blks.length ∧ j ∉ ρ := by
    intro j h
    unfold inN at h
    split at h
    · split at h
      · cases h
      · exact ⟨‹_›, ‹_›⟩
    · cases h
  have hle : CtxLe C (backC C C1 blks.length ρ) := by
    refine ⟨fun j => ?_, fun j hp hg => ?_⟩
    · simp only [backC]
      cases hi : inN blks.length ρ j with
      | none => exact Nat.le_refl _
      | some k =>
        obtain ⟨a, b, c⟩ := out_inN hi
        by_cases hj : j < blks.length
        · have := hb.le.gen k
          simp only [subC, b hj] at this
          exact this
        · rw [(hm.dom j (by omega)).2]; exact Nat.zero_le _
    · simp only [backC] at hg ⊢
      cases hi : inN blks.length ρ j with
      | none => rfl
      | some k =>
        rw [hi] at hg
        simp only at hg ⊢
        obtain ⟨a, b, c⟩ := out_inN hi
        by_cases hj : j < blks.length
        · have := hb.le.pos k
          simp only [subC, b hj] at this
          exact this hp hg
        · exact absurd (hm.dom j (by omega)).1 hp
  have hevo : EvoG C (backC C C1 blks.length ρ) Z Z1 w w1 := by
    refine ⟨fun b hz => h1.z0 b hz, fun b hz => h1.frame.same b (hm.zlt b hz) fun ho => ?_, hle, fun j blk o arr e hj hg hw => ?_⟩
    · obtain ⟨j, o, -, e2⟩ := hOwn b ho
      exact (hm.own j b o e2).2.1 hz
    · simp only [backC] at hg
      cases hi : inN blks.length ρ j with
      | none =>
        exact ⟨arr, by rw [h1.frame.same blk (hm.own j blk o hj).1 (hfree j blk o (hnone j hi).2 hj)]; exact hw, rfl⟩
      | some k =>
        rw [hi] at hg
        simp only at hg
        obtain ⟨a, b, c⟩ := out_inN hi
        by_cases hjl : j < blks.length
        · have h2 := hb.rows k blk o arr e
          simp only [subC, b hjl] at h2
          exact h2 hj hg hw
        · have := (hm.dom j (by omega)).1
          rw [this] at hj; cases hj
  have hget : ∀ (j : Nat) (b : Blk), (giveBack blks ρ (bs2.map (renB (outN blks.length ρ))) ++ (bs2.drop ρ.length).map (renB (outN blks.length ρ)))[j]? = some b →
      (∃ k b0, inN blks.length ρ j = some k ∧ bs2[k]? = some b0 ∧ b = renB (outN blks.length ρ) b0) ∨ (inN blks.length ρ j = none ∧ blks[j]? = some b) := by
    intro j b h
    by_cases hj : j < blks.length
    · rw [List.getElem?_append_left (by rw [giveBack_length]; exact hj)] at h
      by_cases hm' : j ∈ ρ
      · have hlt : ρ.idxOf j < ρ.length := List.idxOf_lt_length_iff.2 hm'
        have hg : ρ[ρ.idxOf j]? = some j := by rw [List.getElem?_eq_getElem hlt, List.getElem_idxOf hlt]
        have hb2 : bs2[ρ.idxOf j]? = some bs2[ρ.idxOf j] := List.getElem?_eq_getElem (by omega)
        rw [giveBack_in (b := renB (outN blks.length ρ) bs2[ρ.idxOf j]) hn hg (by rw [List.getElem?_map, hb2]; rfl) hj] at h
        simp only [Option.some.injEq] at h
        exact .inl ⟨ρ.idxOf j, _, by simp only [inN, if_pos hj, if_pos hm'], hb2, h.symm⟩
      · rw [giveBack_out hm'] at h
        exact .inr ⟨by simp only [inN, if_pos hj, if_neg hm'], h⟩
    · rw [List.getElem?_append_right (by rw [giveBack_length]; omega), giveBack_length, List.getElem?_map, List.getElem?_drop, Option.map_eq_some_iff] at h
      obtain ⟨b0, h2, h3⟩ := h
      exact .inl ⟨j - blks.length + ρ.length, b0, by simp only [inN, if_neg hj], by rw [← h2]; congr 1; omega, h3.symm⟩
  have renB_eq : ∀ (f : Nat → Nat) (b : Blk), (renB f b).gen = b.gen ∧ (renB f b).live = b.live := by
    intro f b; unfold renB; cases b.flat <;> exact ⟨rfl, rfl⟩
  refine ⟨⟨fun j b hj => ?_, fun j b hj => ?_, fun j b hj hd => ?_, fun j hj => ?_, fun j j' b o o' e1 e2 => ?_, fun j b o e1 => ?_, h1.zlt, fun b hz => h1.z0 b (hm.z0 b hz), fun b hz => ?_, ?_⟩, hevo, hout⟩
  · rcases hget j b hj with ⟨k, b0, q1, q2, rfl⟩ | ⟨q1, q2⟩
    · exact (h1.blk k b0 q2).ren hout' (by simp only [backC, q1]) (.inr (refsIns_all _))
    · refine (hm.blk j b q2).evoG hevo (by simp only [backC, q1]) fun blk o hbl => ?_
      exact h1.frame.same blk (hm.own j blk o hbl).1 (hfree j blk o (hnone j q1).2 hbl)
  · rcases hget j b hj with ⟨k, b0, q1, q2, rfl⟩ | ⟨q1, q2⟩
    · rw [(renB_eq _ b0).1, ← h1.gen k b0 q2]; simp only [backC, q1]
    · rw [← hm.gen j b q2]; simp only [backC, q1]
  · rcases hget j b hj with ⟨k, b0, q1, q2, rfl⟩ | ⟨q1, q2⟩
    · rw [(renB_eq _ b0).2] at hd
      have := h1.dd k b0 q2 hd
      simp only [backC, q1]; exact this
    · have := hm.dd j b q2 hd
      simp only [backC, q1]; exact this
  · simp only [List.length_append, giveBack_length, List.length_map, List.length_drop] at hj
    have e : inN blks.length ρ j = some (j - blks.length + ρ.length) := by simp only [inN, if_neg (show ¬ j < blks.length by omega)]
    simp only [backC, e]
    exact h1.dom _ (by omega)
  · simp only [backC] at e1 e2
    have mix : ∀ {i k c o1 i' o2}, inN blks.length ρ i = some k → C1.β k = .loc c o1 → inN blks.length ρ i' = none → C.β i' = .loc c o2 → False := by
      intro i k c o1 i' o2 q1 q2 q3 q4
      rcases (h1.own k c o1 q2).2.2 with h | h
      · exact hfree i' c o2 (hnone i' q3).2 q4 h
      · have := (hm.own i' c o2 q4).1; omega
    cases hi : inN blks.length ρ j with
    | none =>
      cases hi' : inN blks.length ρ j' with
      | none => rw [hi] at e1; rw [hi'] at e2; exact hm.inj j j' b o o' e1 e2
      | some k' => rw [hi] at e1; rw [hi'] at e2; exact (mix hi' e2 hi e1).elim
    | some k =>
      cases hi' : inN blks.length ρ j' with
      | none => rw [hi] at e1; rw [hi'] at e2; exact (mix hi e1 hi' e2).elim
      | some k' =>
        rw [hi] at e1; rw [hi'] at e2
        have := h1.inj k k' b o o' e1 e2
        subst this
        rw [← (out_inN hi).1, ← (out_inN hi').1]
  · simp only [backC] at e1
    cases hi : inN blks.length ρ j with
    | none =>
      rw [hi] at e1
      obtain ⟨a, b', c⟩ := hm.own j b o e1
      refine ⟨by omega, fun hz => ?_, c⟩
      rcases h1.zsub b hz with h | h | h
      · exact b' h
      · exact hfree j b o (hnone j hi).2 e1 h
      · omega
    | some k =>
      rw [hi] at e1
      obtain ⟨a, b', c⟩ := h1.own k b o e1
      refine ⟨a, b', ?_⟩
      rcases c with c | c
      · obtain ⟨j', o', -, e2⟩ := hOwn b c
        exact (hm.own j' b o' e2).2.2
      · exact .inr (by omega)
  · rcases h1.zsub b hz with h | h | h
    · exact hm.zsub b h
    · obtain ⟨j', o', -, e2⟩ := hOwn b h
      exact .inr (hm.own j' b o' e2).2.2
    · exact .inr (.inr (by omega))
  · refine hm.frame.trans h1.frame fun b hb hnM ho => ?_
    obtain ⟨j', o', -, e2⟩ := hOwn b ho
    rcases (hm.own j' b o' e2).2.2 with h | h
    · exact hnM h
    · omega

variable {E : Env} {K K' : List Item} {st st' : St}

/-- One operation: as 'opA', or a call that turns blocks. -/
def opL (P : Program) (ops : Array Oper) (i : Nat) (o : Oper) (st : St) (evs : List EV) : Option (St × List EV × List Prop) :=
  match evs with
  | .lent ρ res bs2 :: evs =>
    (match o.op, wantedA ops st.tmps o with
    | .call ⟨.value fop, args, _⟩, some true =>
      (match lentA P (evalO st.tmps fop) (args.toList.map (evalO st.tmps)) st.blks ρ res bs2 with
      | none => none
      | some (v, blks, obs) => (match conc (putA st.tmps o.dst v) (isGuard ops i) o.dst evs with
        | none => none
        | some (tmps, evs, obs2) => some (⟨tmps, blks⟩, evs, obs ++ obs2)))
    | _, _ => opA P ops i o st (.lent ρ res bs2 :: evs))
  | evs => opA P ops i o st evs

theorem opL_step {ops : Array Oper} {i : Nat} {o : Oper} {rest : List Nat} {k : List Item} {evs evs' : List EV} {obs : List Prop} (ho : ops[i]? = some o) (hk : E.b.kind = .normal)
    (h : opL P ops i o st evs = some (st', evs', obs)) (hob : AllP obs) (hg : G P E (.inRegion ops rest :: k) st') : G P E (.inRegion ops (i :: rest) :: k) st := by
  unfold opL at h
  split at h
  · rename_i ρ res bs2 evs0
    split at h
    · rename_i fop args ats hop hw
      split at h
      · cases h
      · rename_i v blks obs1 hl
        split at h
        · cases h
        · rename_i tmps evs2 obs2 hc
          simp only [Option.some.injEq, Prod.mk.injEq] at h
          obtain ⟨rfl, -, rfl⟩ := h
          obtain ⟨ob1, ob2⟩ := AllP_append.1 hob
          unfold lentA at hl
          cases hcd : (nodupB ρ && Nat.ble ρ.length bs2.length && refsIn (fun j => ρ.contains j) (evalO st.tmps fop) && refsIns (fun j => ρ.contains j) (args.toList.map (evalO st.tmps))) with
          | false => rw [hcd] at hl; simp only [cond_false] at hl; cases hl
          | true =>
            rw [hcd] at hl
            simp only [cond_true] at hl
            simp only [Bool.and_eq_true] at hcd
            obtain ⟨⟨⟨hn, hle⟩, hrf⟩, hra⟩ := hcd
            have hle := Nat.le_of_ble_eq_true hle
            split at hl
            · rename_i bs hlend
              simp only [Option.some.injEq, Prod.mk.injEq] at hl
              obtain ⟨rfl, rfl, rfl⟩ := hl
              intro C Z a w hr
              have hwc := wantedA_sound hr.tmp hw
              have hgo := stepGR_op (P := P) (b := E.b) (k := k) (cs := E.cs) (w := w) (rest := rest) ho hwc
              rw [Oper.semAt_eq _ _ _ (by intro c hc; rw [hop] at hc; cases hc)] at hgo
              have hfin : ∀ v, (E.b.atR a (.inRegion ops (i :: rest) :: k)).finish v = E.b.atR (a.put o.dst v) (.inRegion ops rest :: k) := by
                intro v; rw [Frame.finish_atR, ho]; rfl
              obtain ⟨hm1, hρ, hcon⟩ := hr.mem.lend hn hlend
              have hfv := (evalO_sound hr.tmp fop).ren hcon hrf
              have hargs : VRs Z w (subC C ρ) (rens (fun j => ρ.idxOf j) (args.toList.map (evalO st.tmps))) (args.map a.eval).toList := by
                refine ⟨by simp [rens_length], fun j c v p q => ?_⟩
                rw [rens_get, Option.map_eq_some_iff] at p
                obtain ⟨c0, p, rfl⟩ := p
                have hin := refsIns_get hra p
                simp only [List.getElem?_map, Option.map_eq_some_iff] at p
                obtain ⟨y, p1, p2⟩ := p
                simp only [Array.toList_map, List.getElem?_map, p1, Option.map_some, Option.some.injEq] at q
                rw [← q]
                exact (p2 ▸ evalO_sound hr.tmp y).ren hcon hin
              obtain ⟨d, f, args', r1, r2, r3⟩ := ob1.1 Z w (subC C ρ) (a.eval fop) (args.map a.eval) hm1 hfv hargs
              obtain ⟨e, w1, fr, ⟨v, C1, Z1, rfl, hb, hm2, hv⟩, hsteps, -, hleave⟩ := r3 (E.b.atR a (.inRegion ops (i :: rest) :: k) :: E.cs)
              have hexec : (execOp a.eval o).run P w = .ok (.enter f args') w := by
                obtain ⟨dst, op, ty, pos, after, guard⟩ := o
                simp only at hop
                subst hop
                simp only [execOp, resolve, Sem.run_bind, r1, Result.andThen_ok, r2]
              have henter : step P (lone (E.b.atR a (.inRegion ops (i :: rest) :: k)) E.cs w) =
                  .next (lone (Frame.enter P f args' .normal) (E.b.atR a (.inRegion ops (i :: rest) :: k) :: E.cs) w) :=
                step_lone_go (by rw [hgo]; simp [stepG.apply, hexec, Frame.atR])
              obtain ⟨hm3, hevo, hout⟩ := hr.mem.given hn hρ hle hb hm2
              refine .step (Steps.head henter (hsteps.trans (.one ?_))) (hg _ Z1 (a.put o.dst v) w1 ⟨conc_sound ((hr.tmp.evoG hevo).put (hv.ren (p := fun _ => true) (fun k _ => hout k) (refsIn_all _)) o.dst) hc ob2, hm3, ?_, hr.gh.evoG hevo, hr.base.nextG hevo⟩)
              · rw [← hfin]; exact step_leave_returned hleave
              · have : (a.put o.dst v).defers = a.defers := by cases o.dst <;> rfl
                rw [this]; exact hr.marks.evoG hevo
            · cases hl
    · exact op_step ho hk h hob hg
  · exact op_step ho hk h hob hg

end
end Ax

namespace Ax
open Go

section
variable {P : Program} {E : Env} {K K' : List Item} {st st' : St}

def tick : List EV → List EV
  | .hold (j + 1) :: evs => .hold j :: evs
  | evs => evs

/-- What comes next, in text order, up to where 'stop' is told: a loop's body, a range over a function, a return, a jump out of a round, or the end. -/
def walk (P : Program) : Nat → List Item → St → List EV → Option (List Item × St × List EV × List Prop)
  | 0, K, st, evs => some (K, st, evs, [])
  | n + 1, K, st, evs =>
    match K with
    | .code .skip :: k => walk P n k st evs
    | .inBlock _ :: k => walk P n k st evs
    | .code (.seq x y) :: k => walk P n (.code x :: .code y :: k) st evs
    | .code (.block id body) :: k => walk P n (.code body :: .inBlock id :: k) st evs
    | .code (.cond c x y) :: k =>
      (match evalO st.tmps c, evs with
      | .bool t, .b u :: evs => (match walk P n (.code (bif u then x else y) :: k) st evs with
        | some (K', st', evs', obs) => some (K', st', evs', (t = u) :: obs)
        | none => none)
      | _, _ => none)
    | .code (.region _ ops false) :: k => walk P n (.inRegion ops (List.range' 0 ops.size) :: k) st evs
    | .code (.region _ ops true) :: k =>
      (match drawA P ops st evs with
      | some (st1, evs1, o1) => (match walk P n k st1 evs1 with
        | some (K', st', evs', obs) => some (K', st', evs', o1 ++ obs)
        | none => none)
      | none => none)
    | .inRegion ops [] :: k => walk P n k st evs
    | .inRegion ops (i :: is) :: k =>
      (match evs with
      | .hold 0 :: evs => some (.inRegion ops (i :: is) :: k, st, evs, [])
      | evs => (match ops[i]? with
        | none => none
        | some o => (match opL P ops i o st (tick evs) with
          | none => none
          | some (st1, evs1, o1) => (match walk P n (.inRegion ops is :: k) st1 evs1 with
            | some (K', st', evs', obs) => some (K', st', evs', o1 ++ obs)
            | none => none))))
    | .code (.exit id) :: k => (match exitTo id k with
      | some k' => walk P n k' st evs
      | none => some (.code (.exit id) :: k, st, evs, []))
    | .code (.loop body) :: k => (match evs with
      | .stop :: evs => some (.code body :: .inLoop body :: k, st, evs, [])
      | evs => walk P n (.code body :: .inLoop body :: k) st evs)
    | .inLoop body :: k => (match evs with
      | .stop :: evs => some (.code body :: .inLoop body :: k, st, evs, [])
      | evs => walk P n (.code body :: .inLoop body :: k) st evs)
    | K => some (K, st, evs, [])

theorem walk_step (hk : E.b.kind = .normal) (hmx : P.follows .mixedOrders = true) : ∀ {n : Nat} {K K' : List Item} {st st' : St} {evs evs' : List EV} {obs : List Prop},
    walk P n K st evs = some (K', st', evs', obs) → AllP obs → G P E K' st' → G P E K st
  | 0, K, K', st, st', evs, evs', obs, h, ho, hg => by
    simp only [walk, Option.some.injEq, Prod.mk.injEq] at h
    obtain ⟨rfl, rfl, -, -⟩ := h
    exact hg
  | n + 1, K, K', st, st', evs, evs', obs, h, ho, hg => by
    unfold walk at h
    split at h
    · exact .of_step (fun a w => stepR_skip) (walk_step hk hmx h ho hg)
    · exact .of_step (fun a w => stepR_inBlock) (walk_step hk hmx h ho hg)
    · exact .of_step (fun a w => stepR_seq) (walk_step hk hmx h ho hg)
    · exact .of_step (fun a w => stepR_block) (walk_step hk hmx h ho hg)
    · rename_i c x y k
      split at h
      · rename_i t u evs1 hc
        split at h
        · rename_i K1 st1 evs2 obs1 h1
          simp only [Option.some.injEq, Prod.mk.injEq] at h
          obtain ⟨rfl, rfl, rfl, rfl⟩ := h
          obtain ⟨rfl, ho⟩ := ho
          have h2 := walk_step hk hmx h1 ho hg
          intro C Z a w hr
          have hv := evalO_sound hr.tmp c
          rw [hc] at hv
          generalize hcv : a.eval c = cv at hv
          cases hv
          refine .step (.one (stepR_cond hcv)) ?_
          have := h2 C Z a w hr
          cases t <;> exact this
        · cases h
      · cases h
    · rename_i id ops k
      have := walk_step hk hmx h ho hg
      rw [← List.range_eq_range'] at this
      exact .of_step (fun a w => stepR_region) this
    · rename_i id ops k
      split at h
      · rename_i st1 evs1 o1 h1
        split at h
        · rename_i K2 st2 evs2 obs2 h2
          simp only [Option.some.injEq, Prod.mk.injEq] at h
          obtain ⟨rfl, rfl, rfl, rfl⟩ := h
          obtain ⟨a1, a2⟩ := AllP_append.1 ho
          exact draw_step hk hmx h1 a1 (walk_step hk hmx h2 a2 hg)
        · cases h
      · cases h
    · exact .of_step (fun a w => stepR_region_end) (walk_step hk hmx h ho hg)
    · rename_i ops i is k
      split at h
      · simp only [Option.some.injEq, Prod.mk.injEq] at h
        obtain ⟨rfl, rfl, -, -⟩ := h
        exact hg
      · split at h
        · cases h
        · rename_i o hoi
          split at h
          · cases h
          · rename_i st1 evs1 o1 h1
            split at h
            · rename_i K2 st2 evs2 obs2 h2
              simp only [Option.some.injEq, Prod.mk.injEq] at h
              obtain ⟨rfl, rfl, rfl, rfl⟩ := h
              obtain ⟨a1, a2⟩ := AllP_append.1 ho
              exact opL_step hoi hk h1 a1 (walk_step hk hmx h2 a2 hg)
            · cases h
    · rename_i id k
      split at h
      · rename_i k' hx
        exact .of_step (fun a w => stepR_exit hx) (walk_step hk hmx h ho hg)
      · simp only [Option.some.injEq, Prod.mk.injEq] at h
        obtain ⟨rfl, rfl, -, -⟩ := h
        exact hg
    · split at h
      · simp only [Option.some.injEq, Prod.mk.injEq] at h
        obtain ⟨rfl, rfl, -, -⟩ := h
        exact .of_step (fun a w => stepR_loop) hg
      · exact .of_step (fun a w => stepR_loop) (walk_step hk hmx h ho hg)
    · split at h
      · simp only [Option.some.injEq, Prod.mk.injEq] at h
        obtain ⟨rfl, rfl, -, -⟩ := h
        exact .of_step (fun a w => stepR_inLoop) hg
      · exact .of_step (fun a w => stepR_inLoop) (walk_step hk hmx h ho hg)
    · simp only [Option.some.injEq, Prod.mk.injEq] at h
      obtain ⟨rfl, rfl, -, -⟩ := h
      exact hg

/-- A function that only reads, called by its value. -/
theorem pureF_of {f : FuncId} {fn : Func} {c : Code} {first args cap : List AV} {res : AV} (hf : P.funcs[f]? = some fn) (hname : (fn.name == "runtime.NumGoroutine") = false) (hb : fn.body = some c)
    (h : Pure P f (first ++ args ++ cap) res) : PureF P (.clos f first cap) args res := by
  intro Z w cf cargs hz hcf ha
  cases hcf with
  | @clos _ _ _ _ fa ca hl h1 hl' h2 =>
    refine ⟨{ target := .fn (.func f) ca, args := fa ++ cargs }, f, fa ++ cargs ++ ca, rfl, ?_, ?_⟩
    · have := Go.Proofs.enters_of (P := P) hf hname hb (fa ++ cargs ++ ca) w
      simpa [invoke] using this
    · refine h Z w _ hz ⟨by have := ha.1; simp at this; simp [hl, hl', this], fun i x y p q => ?_⟩
      have hal : args.length = cargs.size := by simpa using ha.1
      simp only [Array.toList_append] at q
      rw [List.append_assoc] at p q
      by_cases i1 : i < first.length
      · rw [List.getElem?_append_left i1] at p
        rw [List.getElem?_append_left (by simpa [← hl] using i1)] at q
        exact h1 i x y p (by simpa using q)
      · rw [List.getElem?_append_right (by omega)] at p
        rw [List.getElem?_append_right (by simp; omega)] at q
        have e1 : fa.toList.length = first.length := by simp [hl]
        rw [e1] at q
        by_cases i2 : i - first.length < args.length
        · rw [List.getElem?_append_left i2] at p
          rw [List.getElem?_append_left (by simpa [← hal] using i2)] at q
          exact ha.2 _ x y p q
        · rw [List.getElem?_append_right (by omega)] at p
          rw [List.getElem?_append_right (by simp; omega)] at q
          have e2 : cargs.toList.length = args.length := by simp [hal]
          rw [e2] at q
          exact h2 _ x y p (by simpa using q)

end
end Ax

namespace Ax
open Go

/-- The place in the code, by the tests' outcomes. -/
def kAt : Nat → List Item → List EV → List Item
  | 0, K, _ => K
  | n + 1, K, evs =>
    match K with
    | .code .skip :: k => kAt n k evs
    | .inBlock _ :: k => kAt n k evs
    | .code (.seq x y) :: k => kAt n (.code x :: .code y :: k) evs
    | .code (.block id body) :: k => kAt n (.code body :: .inBlock id :: k) evs
    | .code (.cond _ x y) :: k => (match evs with
      | .b u :: evs => kAt n (.code (bif u then x else y) :: k) evs
      | _ => K)
    | .code (.region ..) :: k => kAt n k evs
    | .inRegion .. :: k => kAt n k evs
    | .code (.exit id) :: k => (match exitTo id k with
      | some k' => kAt n k' evs
      | none => K)
    | .code (.loop body) :: k => (match evs with
      | .stop :: _ => .code body :: .inLoop body :: k
      | evs => kAt n (.code body :: .inLoop body :: k) evs)
    | .inLoop body :: k => (match evs with
      | .stop :: _ => .code body :: .inLoop body :: k
      | evs => kAt n (.code body :: .inLoop body :: k) evs)
    | K => K

def bodyAt (P : Program) (f : FuncId) : Code := ((P.funcs[f]?).bind (·.body)).getD .skip

section
variable {P : Program} {E : Env} {K K' : List Item} {st st' : St}

def isEnd : List Item → Bool
  | [] => true
  | .code .ret :: _ => true
  | _ => false

theorem isEnd_spec {K : List Item} (h : isEnd K = true) : K = [] ∨ ∃ k, K = .code .ret :: k := by
  unfold isEnd at h
  split at h
  · exact .inl rfl
  · exact .inr ⟨_, rfl⟩
  · cases h

/-- To the end: the result, laid down. -/
def endA (P : Program) (fn : Func) (n : Nat) (K : List Item) (st : St) (evs : List EV) : Option (AV × List Prop) :=
  match walk P n K st evs with
  | some (K', st', evs', o1) =>
    (match isEnd K', resA P st' fn.results.toList evs' with
    | true, some (vs, _, o2) =>
      (match (frz 8 (tupA vs)).run (st'.blks[·]?) with
      | some (r, o3) => some (r, o1 ++ (o2 ++ o3))
      | none => none)
    | _, _ => none)
  | none => none

theorem end_step {n : Nat} {f : FuncId} {fn : Func} {evs : List EV} {r res : AV} {obs : List Prop} (hE : PureE P f res E) (hf : P.funcs[f]? = some fn) (hmx : P.follows .mixedOrders = true)
    (h : endA P fn n K st evs = some (r, obs)) (ho : AllP obs) (hr : r = res) : G P E K st := by
  subst hr
  unfold endA at h
  split at h
  · rename_i K' st' evs' o1 h1
    split at h
    · rename_i vs evs2 o2 hK h2
      split at h
      · rename_i r' o3 h3
        simp only [Option.some.injEq, Prod.mk.injEq] at h
        obtain ⟨rfl, rfl⟩ := h
        obtain ⟨a1, a2⟩ := AllP_append.1 ho
        obtain ⟨a2, a3⟩ := AllP_append.1 a2
        exact walk_step hE.2.1 hmx h1 a1 (G_pure hE hf h2 a2 h3 a3 (isEnd_spec hK))
      · cases h
    · cases h
  · cases h

end
end Ax

namespace Ax
open Go

section
variable {P : Program} {Z0 M Z F M' : Nat → Prop} {w0 w w' : World} {C C' : Ctx} {blks blks' : List Blk}

/-! ### Whoever ranges: 'F' is what a round may turn, 'Kp' what it must find again -/
abbrev Sd := (Nat → Prop) → (Nat → Prop) → World → Prop

structure Stable (Y : Sd) : Prop where
  lt : ∀ F Kp w, Y F Kp w → ∀ b, F b ∨ Kp b → b < w.heap.size
  mv : ∀ F Kp w Mi w', Y F Kp w → Fr w Mi w' → (∀ b, Mi b → ¬ F b ∧ ¬ Kp b) → Y F Kp w'

def YCall (P : Program) (yv : Value) (cargs : Array Value) (w : World) (Q : Bool → World → Prop) : Prop :=
  ∃ l fn tm asg bd, yv = .func (.yield l) #[] #[] ∧ (Instr.yield l cargs).run P w = .ok (.round l fn tm asg bd) w ∧
    ∀ (c : Frame) (cs : List Frame), ∃ t w', Q t w' ∧ Steps P (lone (Frame.round l fn tm asg bd .normal) (c :: cs) w) (lone (c.finish (.bool t)) cs w')

def nxt (cont : Nat → Bool) (n : Nat) : Option Nat := bif cont n then some (n + 1) else none

def Yields (P : Program) (yv : Value) (Y : Option Nat → Sd) (cont : Nat → Bool) (xs : List (List AV)) : Prop :=
  ∀ i x, xs[i]? = some x → ∀ F Kp w, Y (some i) F Kp w → ∀ cargs : Array Value, VRs (fun _ => False) w C0 x cargs.toList →
    YCall P yv cargs w fun t w' => t = cont i ∧ ∃ F' Kp', Y (nxt cont i) F' Kp' w' ∧ Fr w F w' ∧ (∀ b, F' b → F b ∨ w.heap.size ≤ b) ∧ (∀ b, Kp' b → F b ∨ Kp b ∨ w.heap.size ≤ b)

def At (Y : Sd) (E : Env) : Prop := ∃ F Kp, Y F Kp E.w0 ∧ (∀ b, E.M b → ¬ F b ∧ ¬ Kp b) ∧ (∀ b, E.Z0 b → ¬ F b)

/-- The iterator's own frame, 'o' the side's state. -/
structure IterE (P : Program) (f : FuncId) (xs : List (List AV)) (yv : Value) (Y : Option Nat → Sd) (cont : Nat → Bool) (e o : Option Nat) (E : Env) : Prop where
  ro : E.b.roundOf = none
  kind : E.b.kind = .normal
  fn : E.b.fn = f
  gA : E.gA = []
  cb : E.Cb = C0
  stab : ∀ o, Stable (Y o)
  ylds : Yields P yv Y cont xs
  at' : At (Y o) E
  fin : E.Fin = Ended P f E.cs fun _ w' => ∃ F Kp, Y e F Kp w'

variable {E : Env} {K K' : List Item} {st st' : St}

end
end Ax

namespace Ax
open Go

structure RoundE (gA : List AV) (E : Env) : Prop where
  ro : ∃ l, E.b.roundOf = some l
  kind : E.b.kind = .normal
  gA : E.gA = gA
  cb : E.Cb = C0

section
variable {P : Program} {E : Env} {K K' : List Item} {st st' : St}

theorem VRs.app {Z : Nat → Prop} {w : World} {C : Ctx} {a b : List AV} {c d : List Value} (h : VRs Z w C a c) (h' : VRs Z w C b d) : VRs Z w C (a ++ b) (c ++ d) := by
  refine ⟨by simp [h.1, h'.1], fun i x y p q => ?_⟩
  by_cases hi : i < a.length
  · rw [List.getElem?_append_left hi] at p
    rw [List.getElem?_append_left (by rw [← h.1]; exact hi)] at q
    exact h.2 i x y p q
  · rw [List.getElem?_append_right (by omega)] at p
    rw [List.getElem?_append_right (by rw [← h.1]; omega), ← h.1] at q
    exact h'.2 _ x y p q

theorem VRs.mono {Z Z' : Nat → Prop} {w w' : World} {C : Ctx} {a : List AV} {c : List Value} (h : VRs Z w C a c) (he : Evo C Z Z' w w') : VRs Z' w' C a c :=
  ⟨h.1, fun i x y p q => (h.2 i x y p q).mono he⟩

theorem Fr.weaken {w0 w : World} {M M' : Nat → Prop} (h : Fr w0 M w) (hM : ∀ b, M b → M' b) : Fr w0 M' w :=
  ⟨h.os, h.tape, h.output, h.size, fun b hb hn => h.same b hb fun hm => hn (hM b hm)⟩

end
end Ax

namespace Ax
open Go

section
variable {P : Program} {E : Env} {K K' : List Item} {st st' : St}

end
end Ax

namespace Ax
open Go

section
variable {P : Program} {E : Env} {K K' : List Item} {st st' : St}

def denil (st : St) : List (Nat × Nat) → Option St
  | [] => some st
  | (t, sz) :: r => match st.tmps[t]? with
    | some .nilSl => denil ⟨st.tmps.set t (.sl st.blks.length 0 0 0 sz), st.blks ++ [⟨true, 0, sz, true, [], true⟩]⟩ r
    | _ => none

theorem denil_step : ∀ {ds : List (Nat × Nat)} {st st' : St}, denil st ds = some st' → G P E K st' → G P E K st
  | [], st, st', h, hg => by simp only [denil, Option.some.injEq] at h; subst h; exact hg
  | (t, sz) :: r, st, st', h, hg => by
    simp only [denil] at h
    split at h
    · rename_i ht
      have h1 := denil_step h hg
      intro C Z a w hr
      have hlt : t < a.tmps.size := by
        have := (List.getElem?_eq_some_iff.1 ht).1
        have h2 := hr.tmp.1
        simp at h2; omega
      have hv := hr.tmp.2 t .nilSl a.tmps[t] ht (by simp [hlt])
      generalize hc : a.tmps[t] = c at hv
      cases hv
      obtain ⟨C', Z', hle, hevo, hm, hv'⟩ := unborn_sl (a := none) (sz := sz) (fl := true) (idx := st.blks.length) hr.mem.push (by simp)
      have e : (Eff.new ⟨true, 0, sz, true, [], true⟩ (fun k => AV.sl k 0 0 0 sz)).blks st.blks.length (st.blks ++ [dead]) = st.blks ++ [⟨true, 0, sz, true, [], true⟩] := by simp [Eff.blks]
      rw [e] at hm
      have ht2 := hr.tmp.next hle hevo
      refine h1 C' Z' a w ⟨⟨by simpa using ht2.1, fun i x y p q => ?_⟩, hm, hr.marks.evo hevo, hr.gh.next hle hevo, hr.base.next hle hevo⟩
      rw [List.getElem?_set] at p
      split at p
      · rename_i e
        subst e
        split at p
        · cases p
          simp only [Array.getElem?_toList] at q
          rw [Array.getElem?_eq_getElem hlt, hc] at q
          cases q
          exact hv'
        · cases p
      · exact ht2.2 i x y p q
    · cases h

theorem PureE.nogh {f : FuncId} {res : AV} (hE : PureE P f res E) (m : Nat) : refsBelows m E.gA = true := by rw [hE.2.2.2.2.1]; rfl
theorem IterE.nogh {f : FuncId} {xs : List (List AV)} {yv : Value} {Y : Option Nat → Sd} {cont : Nat → Bool} {e o : Option Nat} (hE : IterE P f xs yv Y cont e o E) (m : Nat) : refsBelows m E.gA = true := by rw [hE.gA]; rfl

end
end Ax

namespace Ax
open Go

section
variable {P : Program} {E : Env} {K K' : List Item} {st st' : St}

end
end Ax

namespace Ax
open Go

section
variable {P : Program} {E : Env} {K K' : List Item} {st st' : St}

theorem Ctx.put_same (C : Ctx) (k : Nat) : C.put k (C.β k) (C.γ k) = C := by
  cases C with
  | mk β γ =>
    unfold Ctx.put
    congr 1 <;> funext j <;> by_cases e : j = k <;> simp [e]

theorem denilC_step {k j sz : Nat} {b : Blk} (hk : st.blks[k]? = some b) (hl : b.live = true) (hj : b.cells[j]? = some .nilSl)
    (hg : G P E K ⟨st.tmps, (st.blks ++ [(⟨true, 0, sz, true, [], true⟩ : Blk)]).set k { b with flat := false, cells := b.cells.set j (.sl st.blks.length 0 0 0 sz) }⟩) : G P E K st := by
  intro C Z a w hr
  obtain ⟨C', Z', hle, hevo, hm, hv'⟩ := unborn_sl (a := none) (sz := sz) (fl := true) (idx := st.blks.length) hr.mem.push (by simp)
  have e : (Eff.new ⟨true, 0, sz, true, [], true⟩ (fun k => AV.sl k 0 0 0 sz)).blks st.blks.length (st.blks ++ [dead]) = st.blks ++ [⟨true, 0, sz, true, [], true⟩] := by simp [Eff.blks]
  rw [e] at hm
  have hkl : k < st.blks.length := (List.getElem?_eq_some_iff.1 hk).1
  have hk' : (st.blks ++ [(⟨true, 0, sz, true, [], true⟩ : Blk)])[k]? = some b := by rw [List.getElem?_append_left hkl]; exact hk
  have hgen := hm.gen k b hk'
  have hbk := hm.blk k b hk' hl
  have hc := hm.change (b' := { b with flat := false, cells := b.cells.set j (.sl st.blks.length 0 0 0 sz) }) (w' := w) (s := C'.β k) (g := C'.γ k) hk' rfl rfl rfl (Nat.le_refl _) (fun _ _ _ => rfl)
    (fun blk o arr e _ h => ⟨arr, h, rfl⟩) (Nat.le_refl _) (fun _ _ => rfl) hl hgen.symm (fun blk o h => .inl ⟨o, h⟩) (fun hle' hevo' _ => by
      obtain ⟨q1, q2⟩ := hbk
      refine ⟨fun i c hi => ?_, ?_⟩
      · rw [List.getElem?_set] at hi
        split at hi
        · split at hi
          · cases hi; rfl
          · cases hi
        · exact q1 i c hi
      · rw [Ctx.put_same]
        cases hs : C'.β k with
        | absent => simp [hs] at q2
        | unborn => simp only [hs] at q2; rw [q2] at hj; simp at hj
        | loc blk o =>
          simp only [hs] at q2 ⊢
          obtain ⟨arr, te, r1, r2, r3⟩ := q2
          refine ⟨arr, te, r1, by simpa using r2, fun i c hi => ?_⟩
          simp only [Bool.false_eq_true, if_false]
          rw [List.getElem?_set] at hi
          split at hi
          · rename_i eij
            subst eij
            split at hi
            · cases hi
              obtain ⟨v, s1, s2⟩ := r3 j .nilSl hj
              refine ⟨v, s1, ?_⟩
              have : v = .slice none 0 0 := by
                cases hf : b.flat with
                | true => rw [hf] at s2; simp only [if_true] at s2; cases s2; rfl
                | false => rw [hf] at s2; simp only [Bool.false_eq_true, if_false] at s2; cases s2; rfl
              rw [this]
              exact hv'.mono ⟨fun _ h => h, fun _ _ => rfl, fun _ _ _ arr _ _ h => ⟨arr, h, rfl⟩⟩
            · cases hi
          · obtain ⟨v, s1, s2⟩ := r3 i c hi
            refine ⟨v, s1, ?_⟩
            cases hf : b.flat with
            | true => rw [hf] at s2; simp only [if_true] at s2; exact s2.of0
            | false => rw [hf] at s2; simpa using s2)
  rw [Ctx.put_same] at hc
  exact hg C' Z' a w ⟨hr.tmp.next hle hevo, hc.1, hr.marks.evo hevo, hr.gh.next hle hevo, hr.base.next hle hevo⟩

end
end Ax

namespace Ax
open Go

theorem bnT {e : Bool} (h : (!e) = true) : e = false := by cases e <;> simp_all
theorem bnF {e : Bool} (h : (!e) = false) : e = true := by cases e <;> simp_all
theorem bneT {a b : Int} (h : (a != b) = true) : ¬ (a = b) := by simpa using h
theorem bneF {a b : Int} (h : (a != b) = false) : a = b := by simpa using h

def cI (n : Int) : List AV := [.int .i64 n]
def cB (b : Bool) : List AV := [.bool b]
def rowI (l : List Int) : List AV := l.flatMap cI
def rowB (l : List Bool) : List AV := l.flatMap cB
section
variable {α : Type} (f : α → List AV) {s : Nat}

theorem row_len (hf : ∀ a, (f a).length = s) : ∀ l : List α, (l.flatMap f).length = l.length * s
  | [] => by simp
  | a :: l => by rw [List.flatMap_cons, List.length_append, row_len hf l, hf, List.length_cons, Nat.add_mul]; omega

theorem row_drop (hf : ∀ a, (f a).length = s) : ∀ {l : List α} {i : Nat} {a : α} {k : Nat}, l[i]? = some a → k ≤ s →
    (l.flatMap f).drop (0 + i * s + k) = (f a).drop k ++ (l.drop (i + 1)).flatMap f
  | [], i, a, k, h, _ => by simp at h
  | b :: l, 0, a, k, h, hk => by
    simp only [List.getElem?_cons_zero, Option.some.injEq] at h
    subst h
    rw [List.flatMap_cons, List.drop_append_of_le_length (by rw [hf]; omega)]
    simp
  | b :: l, i + 1, a, k, h, hk => by
    simp only [List.getElem?_cons_succ] at h
    rw [List.flatMap_cons, show 0 + (i + 1) * s + k = (f b).length + (0 + i * s + k) by rw [hf b, Nat.add_mul]; omega, List.drop_length_add_append]
    exact row_drop hf h hk

theorem row_part (hf : ∀ a, (f a).length = s) {k m : Nat} (hk : k + m ≤ s) {l : List α} {i : Nat} {a : α} (h : l[i]? = some a) :
    ((l.flatMap f).drop (0 + i * s + k)).take m = ((f a).drop k).take m := by
  rw [row_drop f hf h (by omega), List.take_append_of_le_length (by rw [List.length_drop, hf]; omega)]

theorem row_fits (hf : ∀ a, (f a).length = s) {k m : Nat} (hk : k + m ≤ s) {l : List α} {i : Nat} {a : α} (h : l[i]? = some a) : 0 + i * s + k + m ≤ (l.flatMap f).length := by
  rw [row_len f hf]
  have hi := (List.getElem?_eq_some_iff.1 h).1
  have : (i + 1) * s ≤ l.length * s := Nat.mul_le_mul_right s hi
  rw [Nat.add_mul] at this; omega

theorem setAt_app_left : ∀ {xs A B : List AV} {o : Nat}, o + xs.length ≤ A.length → setAt (A ++ B) o xs = setAt A o xs ++ B
  | [], A, B, o, _ => rfl
  | x :: xs, A, B, o, h => by
    simp only [List.length_cons] at h
    simp only [setAt]
    rw [List.set_append_left (h := by omega)]
    exact setAt_app_left (by simp; omega)

theorem setAt_app_right : ∀ {xs A B : List AV} {o : Nat}, setAt (A ++ B) (A.length + o) xs = A ++ setAt B o xs
  | [], A, B, o => rfl
  | x :: xs, A, B, o => by
    simp only [setAt]
    rw [List.set_append_right (h := by omega), show A.length + o - A.length = o by omega, show A.length + o + 1 = A.length + (o + 1) by omega]
    exact setAt_app_right

theorem row_set (hf : ∀ a, (f a).length = s) {k : Nat} {xs : List AV} : ∀ {l : List α} {i : Nat} {a a' : α}, l[i]? = some a → setAt (f a) k xs = f a' → k + xs.length ≤ s →
    setAt (l.flatMap f) (0 + i * s + k) xs = (l.set i a').flatMap f
  | [], i, a, a', h, _, _ => by simp at h
  | b :: l, 0, a, a', h, he, hk => by
    simp only [List.getElem?_cons_zero, Option.some.injEq] at h
    subst h
    rw [List.flatMap_cons, List.set_cons_zero, List.flatMap_cons, ← he, show 0 + 0 * s + k = k by omega, setAt_app_left (by rw [hf]; omega)]
  | b :: l, i + 1, a, a', h, he, hk => by
    simp only [List.getElem?_cons_succ] at h
    rw [List.flatMap_cons, List.set_cons_succ, List.flatMap_cons, show 0 + (i + 1) * s + k = (f b).length + (0 + i * s + k) by rw [hf b, Nat.add_mul]; omega, setAt_app_right]
    rw [row_set hf h he hk]

theorem row_app (a b : List α) : (a ++ b).flatMap f = a.flatMap f ++ b.flatMap f := by simp

end

theorem idx_ok {α : Type} {l : List α} {i : Nat} {a : α} (h : l[i]? = some a) : (0 : Int) ≤ (i : Int) ∧ (i : Int) < (l.length : Int) := by
  have := (List.getElem?_eq_some_iff.1 h).1; omega
theorem idx_ok' {α : Type} {l : List α} {i : Int} {a : α} (h0 : 0 ≤ i) (h : l[Int.toNat i]? = some a) : 0 ≤ i ∧ i < (l.length : Int) := by
  have := (List.getElem?_eq_some_iff.1 h).1; omega

section
variable {P : Program} {E : Env} {K K' : List Item} {st st' : St}

def denilC (st : St) : List (Nat × Nat × Nat) → Option St
  | [] => some st
  | (k, j, sz) :: r => match st.blks[k]? with
    | some b => (match b.live, b.cells[j]? with
      | true, some .nilSl => denilC ⟨st.tmps, (st.blks ++ [(⟨true, 0, sz, true, [], true⟩ : Blk)]).set k { b with flat := false, cells := b.cells.set j (.sl st.blks.length 0 0 0 sz) }⟩ r
      | _, _ => none)
    | none => none

theorem denilCs_step : ∀ {ds : List (Nat × Nat × Nat)} {st st' : St}, denilC st ds = some st' → G P E K st' → G P E K st
  | [], st, st', h, hg => by simp only [denilC, Option.some.injEq] at h; subst h; exact hg
  | (k, j, sz) :: r, st, st', h, hg => by
    simp only [denilC] at h
    split at h
    · rename_i b hb
      split at h
      · rename_i hl hj
        exact denilC_step hb hl hj (denilCs_step h hg)
      · cases h
    · cases h

def segC (P : Program) (ds : List (Nat × Nat)) (cs : List (Nat × Nat × Nat)) (live : List Nat) (m n : Nat) (K : List Item) (st : St) (evs : List EV) : Option (List Item × St × List Prop) :=
  match walk P n K st evs with
  | some (K', st', _, o1) => (match denil st' ds with
    | some st1 => (match denilC st1 cs with
      | some st1 => (match weak live m st1 with
        | some st2 => some (K', st2, o1)
        | none => none)
      | none => none)
    | none => none)
  | none => none

theorem segC_step {n m : Nat} {ds : List (Nat × Nat)} {cs : List (Nat × Nat × Nat)} {live : List Nat} {evs : List EV} {obs : List Prop} (hk : E.b.kind = .normal) (hgh : refsBelows m E.gA = true) (hmx : P.follows .mixedOrders = true)
    (h : segC P ds cs live m n K st evs = some (K', st', obs)) (ho : AllP obs) (hg : G P E K' st') : G P E K st := by
  unfold segC at h
  split at h
  · rename_i K1 st1 evs1 o1 h1
    split at h
    · rename_i st2 h2
      split at h
      · rename_i st3 h3
        split at h
        · rename_i st4 h4
          simp only [Option.some.injEq, Prod.mk.injEq] at h
          obtain ⟨rfl, rfl, rfl⟩ := h
          exact walk_step hk hmx h1 ho (denil_step h2 (denilCs_step h3 (weak_step hgh h4 hg)))
        · cases h
      · cases h
    · cases h
  · cases h

end
end Ax

namespace Ax
open Go

section
variable {σ X : Type} (step : σ → X → σ × Bool)

end

section
variable {P : Program} {E : Env} {K K' : List Item} {st st' : St}

end
end Ax

namespace Ax
open Go Go.ChangeShapes Go.WideShapes Go.RowKit

abbrev Old (W : World) (b : Nat) : Prop := b < W.heap.size

/-- What is read as of this type stands for typed data. -/
def Dec (P : Program) (W : World) (t : TypeId) (T : Type) (F : T → List AV) (Q : T → Prop) : Prop :=
  ∀ (H : Type) (enc : TypeId × Value → H) (sp : Nat → Bool) (held : Bool) (fuel : Nat) (cs : List Value) (x : DataW H × List MemPlace),
    DataW.trod enc P W 0 sp held fuel t cs = some x → ∃ a, Q a ∧ VRs (Old W) W C0 (F a) cs

section
variable {P : Program} {W : World} {t e : TypeId}

theorem VRs.one1 {Z : Nat → Prop} {w : World} {C : Ctx} {a : AV} {c : Value} (h : VR Z w C a c) : VRs Z w C [a] [c] :=
  ⟨rfl, fun i x y p q => by
    cases i with
    | zero => simp at p q; subst p; subst q; exact h
    | succ i => simp at p⟩

theorem dec_int {k : IntKind} (ht : P.underlying t = some (.int k)) : Dec P W t Int (fun n => [.int k n]) (fun n => k.min ≤ n ∧ n ≤ k.max) := by
  intro H enc sp held fuel cs x h
  obtain ⟨n, rfl, -, hw⟩ := DataW.trod_int ht h
  simp only [Lit.wf, Bool.and_eq_true, decide_eq_true_eq] at hw
  exact ⟨n, hw, VRs.one1 (.int _ _)⟩

theorem dec_i64 (ht : P.underlying t = some (.int .i64)) : Dec P W t Int cI (fun n => InR .i64 n) := by
  intro H enc sp held fuel cs x h
  obtain ⟨n, hn, hv⟩ := dec_int ht H enc sp held fuel cs x h
  exact ⟨n, by simpa [InR, IntKind.min, IntKind.max, IntKind.signed, IntKind.bits] using hn, hv⟩

theorem Dec.map {T S : Type} {F : T → List AV} {Q : T → Prop} {F' : S → List AV} {Q' : S → Prop} (h : Dec P W t T F Q) (g : T → S) (hF : ∀ a, F' (g a) = F a) (hQ : ∀ a, Q a → Q' (g a)) : Dec P W t S F' Q' := by
  intro H enc sp held fuel cs x hx
  obtain ⟨a, q, v⟩ := h H enc sp held fuel cs x hx
  exact ⟨g a, hQ a q, by rw [hF]; exact v⟩

theorem cells_get {W : World} {a : Addr} {n : Nat} {cs : List Value} (h : W.cells? 0 a n = some cs) : cs.length = n ∧ ∀ i, i < n → W.cell? (a.add i) = cs[i]? := by
  unfold World.cells? at h
  rw [if_pos (Nat.zero_le _)] at h
  have key : ∀ (n k : Nat) (cs : List Value), ((List.range' k n).mapM fun i => W.cell? (a.add i)) = some cs → cs.length = n ∧ ∀ i, i < n → W.cell? (a.add (k + i)) = cs[i]? := by
    intro n
    induction n with
    | zero => intro k cs h; simp at h; subst h; simp
    | succ n ih =>
      intro k cs h
      rw [List.range'_succ, List.mapM_cons] at h
      simp only [Option.bind_eq_bind, Option.bind_eq_some_iff, Option.pure_def, Option.some.injEq] at h
      obtain ⟨c, h1, cs', h2, rfl⟩ := h
      obtain ⟨i1, i2⟩ := ih (k + 1) cs' h2
      refine ⟨by simp [i1], fun i hi => ?_⟩
      cases i with
      | zero => simpa using h1
      | succ i => rw [show k + (i + 1) = k + 1 + i by omega, i2 i (by omega)]; simp
  have := key n 0 cs (by rw [← List.range_eq_range']; exact h)
  simpa using this

theorem list_of {T : Type} {Q : Nat → T → Prop} : ∀ (n k : Nat), (∀ i, k ≤ i → i < k + n → ∃ a, Q i a) → ∃ l : List T, l.length = n ∧ ∀ i a, l[i]? = some a → Q (k + i) a
  | 0, k, _ => ⟨[], rfl, by simp⟩
  | n + 1, k, h => by
    obtain ⟨a, ha⟩ := h k (Nat.le_refl _) (by omega)
    obtain ⟨l, hl, hq⟩ := list_of n (k + 1) fun i h1 h2 => h i (by omega) (by omega)
    refine ⟨a :: l, by simp [hl], fun i b hb => ?_⟩
    cases i with
    | zero => simp at hb; subst hb; exact ha
    | succ i => simp at hb; have := hq i b hb; rw [show k + (i + 1) = k + 1 + i by omega]; exact this

theorem dec_slice {T : Type} {F : T → List AV} {Q : T → Prop} {n : Nat} (ht : P.underlying t = some (.slice e)) (hc : P.cellsOf e = n) (hn : 0 < n) (hF : ∀ a, (F a).length = n) (hk : ∀ a, cellsOk (F a) = true) (D : Dec P W e T F Q) :
    Dec P W t (List T) (fun l => [.rsl (l.flatMap F) 0 l.length]) (fun l => l.length ≤ 9223372036854775807 ∧ ∀ a ∈ l, Q a) := by
  intro H enc sp held fuel cs x h
  rcases DataW.trod_slice ht h with ⟨rfl, -⟩ | ⟨a, len, cap, elems, rest, m, -, rfl, -, -, h1, h2, h3, h4, -, -⟩
  · exact ⟨[], ⟨by simp, by simp⟩, VRs.one1 .rsl0⟩
  have hel : ∀ i, i < len → ∃ b, Q b ∧ ∃ vs, W.cells? 0 (a.add (i * n)) n = some vs ∧ VRs (Old W) W C0 (F b) vs := by
    intro i hi
    have := h4 i hi
    rw [hc, List.getElem?_eq_getElem (by omega)] at this
    obtain ⟨vs, g1, g2⟩ := Option.bind_eq_some_iff.1 this
    obtain ⟨b, qb, vb⟩ := D H enc sp held m vs _ g2
    exact ⟨b, qb, vs, g1, vb⟩
  obtain ⟨l, hl, hq⟩ := list_of (Q := fun i b => Q b ∧ ∃ vs, W.cells? 0 (a.add (i * n)) n = some vs ∧ VRs (Old W) W C0 (F b) vs) len 0 fun i _ hi => hel i (by omega)
  refine ⟨l, ⟨by rw [hl]; unfold maxLen at h2; omega, fun b hb => ?_⟩, VRs.one1 ?_⟩
  · obtain ⟨i, hi⟩ := List.mem_iff_getElem?.1 hb
    exact (hq i b hi).1
  rcases Nat.eq_zero_or_pos len with h0 | h0
  · subst h0
    obtain rfl : l = [] := List.length_eq_zero_iff.1 hl
    exact .rsl0
  have hcell : ∀ j, j < len * n → ∃ v, W.cell? ⟨a.block, a.off + j, none⟩ = some v ∧ ∃ c, (l.flatMap F)[j]? = some c ∧ VR (Old W) W C0 c v ∧ isCell c = true ∧ a.spot = none := by
    intro j hj
    have hi : j / n < len := by rw [Nat.div_lt_iff_lt_mul hn]; exact hj
    have hm : j % n < n := Nat.mod_lt _ hn
    have hb : l[j / n]? = some l[j / n] := by simp [hl, hi]
    obtain ⟨-, vs, g1, g2⟩ := hq _ _ hb
    rw [Nat.zero_add] at g1
    obtain ⟨g3, g4⟩ := cells_get g1
    have g5 := g4 (j % n) hm
    have hv : vs[j % n]? = some vs[j % n] := by simp [g3, hm]
    rw [hv] at g5
    have hdm : j / n * n + j % n = j := by rw [Nat.mul_comm]; exact Nat.div_add_mod j n
    have hspot : a.spot = none := by
      have g6 := g4 0 hn
      rw [List.getElem?_eq_getElem (by omega)] at g6
      have hfirst : ∃ v0, W.cell? a = some v0 := by
        have hb0 : l[0]? = some l[0] := by simp [hl, h0]
        obtain ⟨-, vs0, k1, -⟩ := hq _ _ hb0
        obtain ⟨k3, k4⟩ := cells_get k1
        have k5 := k4 0 hn
        rw [List.getElem?_eq_getElem (by omega)] at k5
        exact ⟨_, by simpa [Addr.add] using k5⟩
      obtain ⟨v0, hv0⟩ := hfirst
      unfold World.cell? at hv0
      split at hv0
      · split at hv0
        · cases hv0
        · rename_i hsp; simpa using hsp
      · cases hv0
    have haddr : (a.add (j / n * n)).add (j % n) = ⟨a.block, a.off + j, none⟩ := by
      obtain ⟨ab, ao, asp⟩ := a
      simp only at hspot
      subst hspot
      unfold Addr.add
      split <;> split <;> simp_all <;> omega
    rw [haddr] at g5
    refine ⟨_, g5, ?_⟩
    have hrow := row_drop F hF (k := j % n) hb (by omega)
    have e1 : (l.flatMap F)[j]? = (F l[j / n])[j % n]? := by
      have := congrArg (fun l => l[0]?) hrow
      simp only [List.getElem?_drop, Nat.add_zero] at this
      rw [show 0 + j / n * n + j % n = j by omega] at this
      rw [this, List.getElem?_append_left (by rw [List.length_drop, hF]; omega), List.getElem?_drop, Nat.add_zero]
    have hF1 : (F l[j / n])[j % n]? = some ((F l[j / n])[j % n]'(by rw [hF]; exact hm)) := by simp [hF, hm]
    refine ⟨_, e1.trans hF1, g2.2 _ _ _ hF1 hv, cellsOk_get (hk _) hF1, hspot⟩
  have hrl : (l.flatMap F).length = len * n := by rw [row_len F hF, hl]
  obtain ⟨v0, c0, -, -, -, -, hspot⟩ := hcell 0 (Nat.mul_pos h0 hn)
  have haa : a = ⟨a.block, 0 + a.off, none⟩ := by
    obtain ⟨ab, ao, asp⟩ := a
    simp only at hspot ⊢
    subst hspot; simp
  have hblk : a.block < W.heap.size := by
    unfold World.cell? at c0
    split at c0
    · rename_i heq; exact (Array.getElem?_eq_some_iff.1 heq).1
    · cases c0
  rw [← hl]
  have hval : Value.slice (some a) l.length cap = Value.slice (some ⟨a.block, a.off + 0, none⟩) l.length cap := by
    congr 2
    rw [haa]; simp
  rw [hval]
  refine .rsl (o := a.off) (fun i => (W.cell? ⟨a.block, a.off + i, none⟩).getD undef) hblk (by omega) (fun i hi => ?_) (fun i c hc => ?_) (fun i c hc => ?_)
  · obtain ⟨v, h5, -⟩ := hcell i (by omega)
    rw [h5]; rfl
  · obtain ⟨v, -, c', h6, -, h7, -⟩ := hcell i (by have := (List.getElem?_eq_some_iff.1 hc).1; omega)
    rw [hc] at h6; cases h6; exact h7
  · obtain ⟨v, h5, c', h6, h7, -, -⟩ := hcell i (by have := (List.getElem?_eq_some_iff.1 hc).1; omega)
    rw [hc] at h6; cases h6; rw [h5]; exact h7

/-! ### A law's arguments -/
/-- One argument. -/
def DecA (P : Program) (W : World) (t : TypeId) (T : Type) (F : T → AV) (Q : T → Prop) : Prop :=
  ∀ (H : Type) (enc : TypeId × Value → H) (base : Nat) (v : Value) (d : DataW H) (ps : List MemPlace), Value.okWide P W .any base t v → DataW.Trod enc P W 0 (fun _ => true) true t v d ps →
    ∃ a, Q a ∧ VR (Old W) W C0 (F a) v

theorem VRs.one' {Z : Nat → Prop} {w : World} {C : Ctx} {a : AV} {c : Value} (h : VRs Z w C [a] [c]) : VR Z w C a c := h.2 0 a c rfl rfl

theorem decA_slice {T : Type} {F : T → AV} {Q : T → Prop} (ht : P.underlying t = some (.slice e)) (D : Dec P W t T (fun a => [F a]) Q) : DecA P W t T F Q := by
  intro H enc base v d ps hok ⟨fuel, h⟩
  obtain ⟨a, len, cap, rfl⟩ := okWide_slice ht hok
  obtain ⟨a, q, hv⟩ := D H enc _ _ fuel _ _ h
  exact ⟨a, q, hv.one'⟩

theorem Fr.same_at {W W' : World} (h : Fr W (fun _ => False) W') (p : MemPlace) (hp : p.block < W.heap.size) : W.sameAt W' p := by
  have := h.same p.block hp (fun h => h)
  cases p with
  | cell b off => exact cell_of_heap this
  | map b => exact this

theorem trodAll_stays {H : Type} {enc : TypeId × Value → H} {W' : World} (hl : laidOutB P = true) (h : Fr W (fun _ => False) W') {sp : Nat → Bool} : ∀ {ts : List TypeId} {vs : List Value} {ds : List (DataW H)} {ps : List MemPlace},
    (∀ t ∈ ts, P.readableRec t = true ∧ t < P.types.size) → DataW.TrodAll enc P W 0 (fun _ => true) true ts vs ds ps → (∀ p ∈ ps, sp p.block = true) → DataW.TrodAll enc P W' 0 sp true ts vs ds ps
  | [], vs, ds, ps, _, hT, _ => by
    obtain ⟨rfl, rfl, rfl⟩ := trodAll_nil hT
    rfl
  | t :: ts, vs, ds, ps, hr, hT, hs => by
    have hlt := DataW.TrodAll.lt hT
    obtain ⟨v, vs', d, ds', p, q, rfl, rfl, rfl, h1, h2⟩ := trodAll_cons hT
    refine ⟨p, q, WideElems.Trod_stays hl (hr t (by simp)).1 (hr t (by simp)).2 h1 (fun x hx => h.same_at x (hlt x (by simp [hx]))) (fun x hx => hs x (by simp [hx])),
      trodAll_stays hl h (fun t ht => hr t (by simp [ht])) h2 (fun x hx => hs x (by simp [hx])), rfl⟩

theorem Fr.keptBut {W W' : World} (h : Fr W (fun _ => False) W') (may : MemPlace → Prop) : W.keptBut W' may := by
  refine ⟨h.os, h.output, fun i hi => ?_⟩
  rw [h.same i hi (fun h => h)]
  cases hx : W.heap[i]? with
  | none => simp
  | some o => cases o <;> simp

theorem law_post {H : Type} {enc : TypeId × Value → H} {W' : World} {f : Func} {s : ChangeSpec} {args : Array Value} {ds gs : List (DataW H)} {before : List MemPlace} {tb : TypeId}
    (hW : DataW.Whole enc P f.params.toList s.vars false W args.toList ds gs before) (hv : s.vars = []) (hr : f.resultTypes = #[tb]) (hb : P.underlying tb = some .bool)
    (h1 : (s.fn H (ds ++ gs)).results = [.lit (.bool true)]) (h2 : (s.fn H (ds ++ gs)).args = ds) (h3 : (s.fn H (ds ++ gs)).vars = []) (hl : laidOutB P = true)
    (hread : ∀ t ∈ f.params.toList, P.readableRec t = true ∧ t < P.types.size) (hf : Fr W (fun _ => False) W') : s.post enc P f false true false false W args (.bool true) W' := by
  have hW' := hW
  obtain ⟨p, q, hA, hV, hpq, -, -⟩ := hW
  refine ⟨ds, gs, before, [], p, [], hW', ?_, ?_, ?_, hf.keptBut _, fun h => by cases h⟩
  · rw [h1, hr]
    exact trodAll_mk1 ⟨1, by simp [DataW.trod, Value.cells, hb]⟩
  · rw [h2]
    exact trodAll_stays hl hf hread hA fun x hx => by simpa using DataW.TrodAll.lt hA x hx
  · rw [h3, hv]; rfl

theorem Fr.frozen {W W' : World} (h : Fr W (fun _ => False) W') (a : Addr) (ha : a.block < W.heap.size) : W'.frozen? a = W.frozen? a := by
  unfold World.frozen?; rw [h.same a.block ha (fun h => h)]

end
end Ax

namespace Ax
open Go

def AvLe (a b : AV) : Prop := ∀ (Z : Nat → Prop) (w : World) (c : Value), VR Z w C0 a c → VR Z w C0 b c
def AvLes : List AV → List AV → Prop
  | [], [] => True
  | a :: as', b :: bs => AvLe a b ∧ AvLes as' bs
  | _, _ => False

theorem AvLe.refl (a : AV) : AvLe a a := fun _ _ _ h => h
theorem AvLe.of_eq {a b : AV} (h : a = b) : AvLe a b := h ▸ AvLe.refl a
theorem nil_le {row : List AV} {off : Nat} : AvLe .nilSl (.rsl row off 0) := fun _ _ _ h => by cases h; exact .rsl0

theorem AvLes.vrs {Z : Nat → Prop} {w : World} : ∀ {as' bs : List AV} {vs : List Value}, AvLes as' bs → VRs Z w C0 as' vs → VRs Z w C0 bs vs
  | [], [], vs, _, h => h
  | a :: as', b :: bs, [], _, h => by have := h.1; simp at this
  | a :: as', b :: bs, v :: vs, hl, h => by
    have h1 : VR Z w C0 a v := h.2 0 a v rfl rfl
    have h2 : VRs Z w C0 as' vs := ⟨by have := h.1; simpa using this, fun i c v p q => h.2 (i + 1) c v (by simpa using p) (by simpa using q)⟩
    have h3 := AvLes.vrs hl.2 h2
    refine ⟨by simp [h3.1], fun i c x p q => ?_⟩
    cases i with
    | zero => simp at p q; subst p; subst q; exact hl.1 _ _ _ h1
    | succ i => exact h3.2 i c x (by simpa using p) (by simpa using q)
  | [], b :: bs, _, hl, _ => hl.elim
  | a :: as', [], _, hl, _ => hl.elim

theorem tup_le {xs ys : List AV} (h : AvLes xs ys) : AvLe (.tup xs) (.tup ys) := fun Z w c hc => by
  cases hc with
  | @tup _ _ arr hl h1 =>
    have := h.vrs (vs := arr.toList) ⟨by simpa using hl, fun i c v p q => h1 i c v p (by simpa using q)⟩
    exact .tup (by simpa using this.1) fun i c v p q => this.2 i c v p (by simpa using q)

section
variable {P : Program} {E : Env} {K K' : List Item} {st st' : St}

theorem Pure.le {f : FuncId} {args args' : List AV} {res : AV} (h : Pure P f args res) (hl : AvLes args' args) : Pure P f args' res :=
  fun Z w cargs hz ha => h Z w cargs hz (hl.vrs ha)

theorem PureF.le {fv : AV} {args args' : List AV} {res : AV} (h : PureF P fv args res) (hl : AvLes args' args) : PureF P fv args' res :=
  fun Z w cf cargs hz hf ha => h Z w cf cargs hz hf (hl.vrs ha)

theorem G.fin {F' : Machine → Prop} (h : G P { E with Fin := F' } K st) (hm : ∀ m, F' m → E.Fin m) : G P E K st := fun C Z a w hr =>
  let ⟨m', hs, hf⟩ := h C Z a w hr
  ⟨m', hs, hm m' hf⟩

theorem Ended.mono {f : FuncId} {cs : List Frame} {Q Q' : Value → World → Prop} (hq : ∀ v w, Q v w → Q' v w) {m : Machine} (h : Ended P f cs Q m) : Ended P f cs Q' m := by
  obtain ⟨v, w, fr, e, a, b, c⟩ := h
  exact ⟨v, w, fr, e, a, b, hq _ _ c⟩

theorem end_stepL {n : Nat} {f : FuncId} {fn : Func} {evs : List EV} {r res : AV} {obs : List Prop} (hE : PureE P f res E) (hf : P.funcs[f]? = some fn) (hmx : P.follows .mixedOrders = true)
    (h : endA P fn n K st evs = some (r, obs)) (ho : AllP obs) (hr : AvLe r res) : G P E K st := by
  obtain ⟨e1, e2, e3, e4, e5, e6, e7⟩ := hE
  refine G.fin (F' := Ended P f E.cs fun v w' => VR (Zx E.Z0 E.w0 w') w' C0 r v ∧ Fr E.w0 (fun _ => False) w') (end_step ⟨e1, e2, e3, e4, e5, rfl, e7⟩ hf hmx h ho rfl) fun m hm => ?_
  rw [e6]
  exact Ended.mono (fun v w hq => ⟨hr _ _ _ hq.1, hq.2⟩) hm

end
end Ax

namespace Ax
open Go

theorem row_rep {α : Type} (f : α → List AV) (n : Nat) (a : α) : (List.replicate n (f a)).flatten = (List.replicate n a).flatMap f := by
  induction n with
  | zero => rfl
  | succ n ih => rw [List.replicate_succ, List.flatten_cons, ih, List.replicate_succ, List.flatMap_cons]

end Ax

namespace Ax
open Go

section
variable {P : Program} {E : Env} {K K' : List Item} {st st' : St}

/-- What a call leaves: its result, and the blocks. -/
def Left (Z M : Nat → Prop) (w : World) (C : Ctx) (res : AV) (bs2 : List Blk) (v : Value) (w' : World) : Prop :=
  ∃ C' Z', Base C w C' w' ∧ Mem Z M w C' Z' bs2 w' ∧ VR Z' w' C' res v

/-- A function that turns blocks 'bs' to 'bs2' (new ones behind them). -/
def Lent (P : Program) (f : FuncId) (args : List AV) (bs : List Blk) (res : AV) (bs2 : List Blk) : Prop :=
  ∀ (Z : Nat → Prop) (w : World) (C : Ctx) (cargs : Array Value), Mem Z (Own C) w C Z bs w → VRs Z w C args cargs.toList →
    Calls P f cargs w fun e w' => ∃ v, e = .returned v ∧ Left Z (Own C) w C res bs2 v w'

structure LentE (P : Program) (f : FuncId) (gA : List AV) (res : AV) (bs2 : List Blk) (E : Env) : Prop where
  ro : E.b.roundOf = none
  kind : E.b.kind = .normal
  fn : E.b.fn = f
  gA : E.gA = gA
  fin : E.Fin = Ended P f E.cs (Left E.Z0 E.M E.w0 E.Cb res bs2)

theorem LentE.nogh {f : FuncId} {k g : Nat} {res : AV} {bs2 : List Blk} (hE : LentE P f [.sl k g 0 0 1] res bs2 E) {m : Nat} (h : Nat.ble (k + 1) m = true) : refsBelows m E.gA = true := by
  rw [hE.gA]
  have := Nat.le_of_ble_eq_true h
  simp [refsBelows, refsBelow]; omega

theorem lent_of {f : FuncId} {fn : Func} {c : Code} {args : List AV} {bs bs2 : List Blk} {res : AV} (b : Blk) (hf : P.funcs[f]? = some fn) (hb : fn.body = some c) (hl : bs.getLast? = some b) (hlv : b.live = true)
    (h : ∀ E, LentE P f [.sl (bs.length - 1) b.gen 0 0 1] res bs2 E → G P E [.code c] ⟨args ++ unds (fn.ntmps - args.length), bs⟩) : Lent P f args bs res bs2 := by
  intro Z w C cargs hm ha cs
  have hn : bs ≠ [] := by rintro rfl; simp at hl
  have hlen : 0 < bs.length := List.length_pos_iff.2 hn
  have hk : bs[bs.length - 1]? = some b := by rw [List.getLast?_eq_getElem?] at hl; exact hl
  have hgh : VR Z w C (.sl (bs.length - 1) b.gen 0 0 1) (.slice none 0 0) := by
    have hg := hm.gen _ _ hk
    refine .sl (by rw [hg]; exact Nat.le_refl _) rfl fun _ => ?_
    obtain ⟨q1, q2⟩ := hm.blk _ _ hk hlv
    unfold SlOk
    cases hs : C.β (bs.length - 1) with
    | absent => simp [hs] at q2
    | unborn => exact ⟨rfl, none, rfl⟩
    | loc blk o =>
      simp only [hs] at q2
      obtain ⟨arr, e, r1, r2, r3⟩ := q2
      exact ⟨none, 0, rfl, Nat.le_refl _, fun h => absurd rfl h, arr, e, r1, by omega⟩
  have hlow : ∀ n, refsBelows n [AV.sl (bs.length - 1) b.gen 0 0 1] = true → ∀ k, n ≤ k → C.β k = .absent ∧ C.γ k = 0 := fun n h1 k h2 => hm.dom k (by
    simp [refsBelows, refsBelow] at h1; omega)
  let E : Env := ⟨Z, Own C, w, { (default : Frame) with fn := f, kind := .normal }, cs, Ended P f cs (Left Z (Own C) w C res bs2), [.sl (bs.length - 1) b.gen 0 0 1], [.slice none 0 0], C, hlow⟩
  have hE : LentE P f [.sl (bs.length - 1) b.gen 0 0 1] res bs2 E := ⟨rfl, rfl, rfl, rfl, rfl⟩
  have henter : Frame.enter P f cargs .normal = ({ (default : Frame) with fn := f, kind := .normal } : Frame).atR { tmps := cargs ++ Array.replicate (fn.ntmps - cargs.size) undef, defers := [] } [.code c] := by
    simp only [Frame.enter, Frame.atR, hf, hb, Option.map_some, Option.getD_some, Option.bind_some]; rfl
  have hl2 : args.length = cargs.size := by simpa using ha.1
  obtain ⟨m', s, v, w', fr, rfl, r1, r2, r3⟩ := h _ hE C Z { tmps := cargs ++ Array.replicate (fn.ntmps - cargs.size) undef, defers := [] } w
    ⟨⟨by simp [unds_eq, hl2], fun i x y p q => by
        simp only [Array.toList_append, Array.toList_replicate] at q
        rw [unds_eq] at p
        by_cases hi : i < args.length
        · rw [List.getElem?_append_left hi] at p
          rw [List.getElem?_append_left (by simpa [← hl2] using hi)] at q
          exact ha.2 i x y p q
        · rw [List.getElem?_append_right (by omega)] at p
          rw [List.getElem?_append_right (by simp; omega)] at q
          have p' := List.mem_replicate.1 (List.mem_of_getElem? p)
          have q' := List.mem_replicate.1 (List.mem_of_getElem? q)
          rw [p'.2, q'.2]
          exact .tup rfl (by simp)⟩, hm, ⟨[], .nil, rfl, by simp⟩, ⟨rfl, fun i x y p q => by
        cases i with
        | zero => simp [E] at p q; rw [← p, ← q]; exact hgh
        | succ i => simp [E] at p⟩, .refl⟩
  rw [henter]
  exact ⟨.returned v, w', fr, ⟨v, rfl, r3⟩, s, r1, r2⟩

/-- Called by its value. -/
theorem lentF_of {f : FuncId} {fn : Func} {c : Code} {first args cap : List AV} {bs bs2 : List Blk} {res : AV} (hf : P.funcs[f]? = some fn) (hname : (fn.name == "runtime.NumGoroutine") = false) (hb : fn.body = some c)
    (h : Lent P f (first ++ args ++ cap) bs res bs2) : LentF P (.clos f first cap) args bs res bs2 := by
  intro Z w C cf cargs hm hcf ha
  cases hcf with
  | @clos _ _ _ _ fa ca hl h1 hl' h2 =>
    refine ⟨{ target := .fn (.func f) ca, args := fa ++ cargs }, f, fa ++ cargs ++ ca, rfl, ?_, ?_⟩
    · have := Go.Proofs.enters_of (P := P) hf hname hb (fa ++ cargs ++ ca) w
      simpa [invoke] using this
    · refine (h Z w C _ hm ⟨by have := ha.1; simp at this; simp [hl, hl', this], fun i x y p q => ?_⟩).mono ?_
      · have hal : args.length = cargs.size := by simpa using ha.1
        simp only [Array.toList_append] at q
        rw [List.append_assoc] at p q
        by_cases i1 : i < first.length
        · rw [List.getElem?_append_left i1] at p
          rw [List.getElem?_append_left (by simpa [← hl] using i1)] at q
          exact h1 i x y p (by simpa using q)
        · rw [List.getElem?_append_right (by omega)] at p
          rw [List.getElem?_append_right (by simp; omega)] at q
          have e1 : fa.toList.length = first.length := by simp [hl]
          rw [e1] at q
          by_cases i2 : i - first.length < args.length
          · rw [List.getElem?_append_left i2] at p
            rw [List.getElem?_append_left (by simpa [← hal] using i2)] at q
            exact ha.2 _ x y p q
          · rw [List.getElem?_append_right (by omega)] at p
            rw [List.getElem?_append_right (by simp; omega)] at q
            have e2 : cargs.toList.length = args.length := by simp [hal]
            rw [e2] at q
            exact h2 _ x y p (by simpa using q)
      · rintro e w' ⟨v, rfl, C', Z', q1, q2, q3⟩
        exact ⟨v, C', Z', rfl, q1, q2, q3⟩

/-- A block that is handed over for good: it lies frozen from here on. -/
def kill (b : Blk) : Blk := ⟨false, b.gen + 1, b.sz, true, [], false⟩

/-- A call of what only reads: what it is handed is handed over for good. -/
theorem lentF_of_pure {fv fv' : AV} {args args' : List AV} {bs : List Blk} {res : AV} {o1 o2 : List Prop} (hf : (frz 8 fv).run (bs[·]?) = some (fv', o1)) (h1 : AllP o1)
    (ha : (frzL (frz 8) args).run (bs[·]?) = some (args', o2)) (h2 : AllP o2) (hp : PureF P fv' args' res) : LentF P fv args bs res (bs.map kill) := by
  intro Z w C cf cargs hm hcf hca
  obtain ⟨d, f, as', r1, r2, r3⟩ := hp (ZL C Z) w cf cargs (fun b hz => by
    rcases hz with hz | ⟨k, o, hb⟩
    · exact hm.zlt b hz
    · exact (hm.own k b o hb).1) (frz_sound hm hf h1 hcf) (frzL_sound hm ha h2 hca)
  refine ⟨d, f, as', r1, r2, r3.mono ?_⟩
  rintro e w' ⟨v, rfl, hv, hfr⟩
  have hs := hfr.size
  have lt_of : ∀ k, C.β k ≠ .absent → k < bs.length := fun k h => by
    rcases Nat.lt_or_ge k bs.length with h' | h'
    · exact h'
    · exact absurd (hm.dom k h').1 h
  refine ⟨v, ⟨fun _ => .absent, fun k => if k < bs.length then C.γ k + 1 else 0⟩, Zx (ZL C Z) w w', rfl, ⟨⟨fun k => ?_, fun k hb hg => ?_⟩, fun k blk o arr e hb hg => ?_⟩,
    ⟨fun k b hb hl => ?_, fun k b hb => ?_, fun k b hb hd => rfl, fun k hk => ?_, fun k k' b o o' h => ?_, fun k b o h => ?_, fun b hz => ?_, fun b hz => .inl (.inl hz), fun b hz => ?_, ?_⟩, hv.of0⟩
  · simp only
    split
    · omega
    · rw [(hm.dom k (by omega)).2]; exact Nat.le_refl _
  · simp only at hg
    rw [if_pos (lt_of k hb)] at hg; omega
  · simp only at hg
    rw [if_pos (lt_of k (by rw [hb]; simp))] at hg; omega
  · rw [List.getElem?_map, Option.map_eq_some_iff] at hb
    obtain ⟨b0, -, rfl⟩ := hb
    simp [kill] at hl
  · rw [List.getElem?_map, Option.map_eq_some_iff] at hb
    obtain ⟨b0, hb, rfl⟩ := hb
    have := (List.getElem?_eq_some_iff.1 hb).1
    simp only [if_pos this, kill]
    rw [hm.gen k b0 hb]
  · simp only [List.length_map] at hk
    simp only [if_neg (show ¬ k < bs.length by omega), and_self]
  · cases h
  · cases h
  · rcases hz with (hz | ⟨k, o, hb⟩) | hz
    · have := hm.zlt b hz; omega
    · have := (hm.own k b o hb).1; omega
    · exact hz.2
  · rcases hz with (hz | hz) | hz
    · exact .inl hz
    · exact .inr (.inl hz)
    · exact .inr (.inr hz.1)
  · exact hfr.weaken fun _ h => h.elim

/-- To the end of a function that turns what it was handed: the first 'm' blocks are left. -/
def endB (P : Program) (fn : Func) (live : List Nat) (m n : Nat) (K : List Item) (st : St) (evs : List EV) : Option (AV × List Blk × List Prop) :=
  match walk P n K st evs with
  | some (K', st1, evs1, o1) =>
    (match isEnd K', weak live m st1 with
    | true, some st2 =>
      (match resA P st2 fn.results.toList evs1 with
      | some (vs, _, o2) => some (tupA vs, st2.blks, o1 ++ o2)
      | none => none)
    | _, _ => none)
  | none => none

theorem endB_step {n m : Nat} {live : List Nat} {f : FuncId} {fn : Func} {evs : List EV} {r res : AV} {gA : List AV} {bs2 bs3 : List Blk} {obs : List Prop} (hE : LentE P f gA res bs2 E) (hgh : refsBelows m E.gA = true) (hf : P.funcs[f]? = some fn) (hmx : P.follows .mixedOrders = true)
    (h : endB P fn live m n K st evs = some (r, bs3, obs)) (ho : AllP obs) (hr : r = res) (hb : bs3 = bs2) : G P E K st := by
  subst hr
  subst hb
  unfold endB at h
  split at h
  · rename_i K' st1 evs1 o1 h1
    split at h
    · rename_i st2 hK h2
      split at h
      · rename_i vs evs2 o2 h3
        simp only [Option.some.injEq, Prod.mk.injEq] at h
        obtain ⟨rfl, rfl, rfl⟩ := h
        obtain ⟨a1, a2⟩ := AllP_append.1 ho
        have hfn := hE.fn
        refine walk_step hE.kind hmx h1 a1 (weak_step hgh h2 (G_end (Post := Left E.Z0 E.M E.w0 E.Cb (tupA vs) st2.blks) hE.ro hE.kind (by rw [hfn]; exact hf) (by rw [hE.fin, hfn]) h3 a2 (fun C Z w v hm hv hbs => ⟨C, Z, hbs, hm, hv⟩) (isEnd_spec hK)))
      · cases h
    · cases h
  · cases h

end
end Ax

namespace Go.Proofs.Ytmdbebbibecidaa
open Go Ax
open Go.Proofs

theorem mixed : Try.prog.follows .mixedOrders = true := by kernel_rfl
theorem f76b : Try.f76.body = some (bodyAt Try.prog 76) := by kernel_rfl
theorem p76_start_0 (n : Int)   {E : Env} {res : AV} (hE : PureE Try.prog 76 res E) 
    (hr : AvLe (.bool (n != n)) res) : G Try.prog E [.code (bodyAt Try.prog 76)] ⟨[.int .i64 n] ++ unds (Try.f76.ntmps - 1), []⟩ :=
  end_stepL (n := 400) (evs := []) (obs := []) hE Try.func76 mixed (by kernel_rfl) trivial hr
theorem f76W (n : Int) {E : Env} {rv : Bool} (hE : PureE Try.prog 76 (.bool rv) E)
    (h : rv = (n != n)) : G Try.prog E [.code (bodyAt Try.prog 76)] ⟨[.int .i64 n] ++ unds (Try.f76.ntmps - 1), []⟩ := by
  exact p76_start_0 n    hE  (AvLe.of_eq (by rw [h]; try rfl))

theorem isNaN_ok (n : Int) : Pure Try.prog 76 [.int .i64 n] (.bool false) := pure_of Try.func76 f76b fun E hE => by
  exact f76W n hE (by simp)

theorem f68b : Try.f68.body = some (bodyAt Try.prog 68) := by kernel_rfl
theorem p68_start_0 (x : Int) (y : Int)   {E : Env} {res : AV} (hE : PureE Try.prog 68 res E) (o0 : PureF Try.prog (.clos 76 [] []) [.int .i64 x] (.bool false)) (o1 : PureF Try.prog (.clos 76 [] []) [.int .i64 y] (.bool false)) (o2 : false = true) (o3 : false = true)
    (hr : AvLe (.int .i64 0) res) : G Try.prog E [.code (bodyAt Try.prog 68)] ⟨[.int .i64 x, .int .i64 y] ++ unds (Try.f68.ntmps - 2), []⟩ :=
  end_stepL (n := 400) (evs := [.v (.bool false), .v (.bool false), .b true, .b true]) (obs := [PureF Try.prog (.clos 76 [] []) [.int .i64 x] (.bool false), PureF Try.prog (.clos 76 [] []) [.int .i64 y] (.bool false), false = true, false = true]) hE Try.func68 mixed (by kernel_rfl) ⟨o0, o1, o2, o3, trivial⟩ hr
theorem p68_start_1 (x : Int) (y : Int)   {E : Env} {res : AV} (hE : PureE Try.prog 68 res E) (o0 : PureF Try.prog (.clos 76 [] []) [.int .i64 x] (.bool false)) (o1 : PureF Try.prog (.clos 76 [] []) [.int .i64 y] (.bool false)) (o2 : false = true) (o3 : false = false)
    (hr : AvLe (.int .i64 (-1)) res) : G Try.prog E [.code (bodyAt Try.prog 68)] ⟨[.int .i64 x, .int .i64 y] ++ unds (Try.f68.ntmps - 2), []⟩ :=
  end_stepL (n := 400) (evs := [.v (.bool false), .v (.bool false), .b true, .b false]) (obs := [PureF Try.prog (.clos 76 [] []) [.int .i64 x] (.bool false), PureF Try.prog (.clos 76 [] []) [.int .i64 y] (.bool false), false = true, false = false]) hE Try.func68 mixed (by kernel_rfl) ⟨o0, o1, o2, o3, trivial⟩ hr
theorem p68_start_2 (x : Int) (y : Int)   {E : Env} {res : AV} (hE : PureE Try.prog 68 res E) (o0 : PureF Try.prog (.clos 76 [] []) [.int .i64 x] (.bool false)) (o1 : PureF Try.prog (.clos 76 [] []) [.int .i64 y] (.bool false)) (o2 : false = false) (o3 : false = true)
    (hr : AvLe (.int .i64 1) res) : G Try.prog E [.code (bodyAt Try.prog 68)] ⟨[.int .i64 x, .int .i64 y] ++ unds (Try.f68.ntmps - 2), []⟩ :=
  end_stepL (n := 400) (evs := [.v (.bool false), .v (.bool false), .b false, .b true]) (obs := [PureF Try.prog (.clos 76 [] []) [.int .i64 x] (.bool false), PureF Try.prog (.clos 76 [] []) [.int .i64 y] (.bool false), false = false, false = true]) hE Try.func68 mixed (by kernel_rfl) ⟨o0, o1, o2, o3, trivial⟩ hr
theorem p68_start_3 (x : Int) (y : Int)   {E : Env} {res : AV} (hE : PureE Try.prog 68 res E) (o0 : PureF Try.prog (.clos 76 [] []) [.int .i64 x] (.bool false)) (o1 : PureF Try.prog (.clos 76 [] []) [.int .i64 y] (.bool false)) (o2 : false = false) (o3 : false = false) (o4 : (decide (x < y)) = true)
    (hr : AvLe (.int .i64 (-1)) res) : G Try.prog E [.code (bodyAt Try.prog 68)] ⟨[.int .i64 x, .int .i64 y] ++ unds (Try.f68.ntmps - 2), []⟩ :=
  end_stepL (n := 400) (evs := [.v (.bool false), .v (.bool false), .b false, .b false, .b true]) (obs := [PureF Try.prog (.clos 76 [] []) [.int .i64 x] (.bool false), PureF Try.prog (.clos 76 [] []) [.int .i64 y] (.bool false), false = false, false = false, (decide (x < y)) = true]) hE Try.func68 mixed (by kernel_rfl) ⟨o0, o1, o2, o3, o4, trivial⟩ hr
theorem p68_start_4 (x : Int) (y : Int)   {E : Env} {res : AV} (hE : PureE Try.prog 68 res E) (o0 : PureF Try.prog (.clos 76 [] []) [.int .i64 x] (.bool false)) (o1 : PureF Try.prog (.clos 76 [] []) [.int .i64 y] (.bool false)) (o2 : false = false) (o3 : false = false) (o4 : (decide (x < y)) = false) (o5 : (decide (x > y)) = true)
    (hr : AvLe (.int .i64 1) res) : G Try.prog E [.code (bodyAt Try.prog 68)] ⟨[.int .i64 x, .int .i64 y] ++ unds (Try.f68.ntmps - 2), []⟩ :=
  end_stepL (n := 400) (evs := [.v (.bool false), .v (.bool false), .b false, .b false, .b false, .b true]) (obs := [PureF Try.prog (.clos 76 [] []) [.int .i64 x] (.bool false), PureF Try.prog (.clos 76 [] []) [.int .i64 y] (.bool false), false = false, false = false, (decide (x < y)) = false, (decide (x > y)) = true]) hE Try.func68 mixed (by kernel_rfl) ⟨o0, o1, o2, o3, o4, o5, trivial⟩ hr
theorem p68_start_5 (x : Int) (y : Int)   {E : Env} {res : AV} (hE : PureE Try.prog 68 res E) (o0 : PureF Try.prog (.clos 76 [] []) [.int .i64 x] (.bool false)) (o1 : PureF Try.prog (.clos 76 [] []) [.int .i64 y] (.bool false)) (o2 : false = false) (o3 : false = false) (o4 : (decide (x < y)) = false) (o5 : (decide (x > y)) = false)
    (hr : AvLe (.int .i64 0) res) : G Try.prog E [.code (bodyAt Try.prog 68)] ⟨[.int .i64 x, .int .i64 y] ++ unds (Try.f68.ntmps - 2), []⟩ :=
  end_stepL (n := 400) (evs := [.v (.bool false), .v (.bool false), .b false, .b false, .b false, .b false]) (obs := [PureF Try.prog (.clos 76 [] []) [.int .i64 x] (.bool false), PureF Try.prog (.clos 76 [] []) [.int .i64 y] (.bool false), false = false, false = false, (decide (x < y)) = false, (decide (x > y)) = false]) hE Try.func68 mixed (by kernel_rfl) ⟨o0, o1, o2, o3, o4, o5, trivial⟩ hr
theorem f68W (x : Int) (y : Int) {E : Env} {rv : Int} (hE : PureE Try.prog 68 (.int .i64 rv) E)
    (h : ((false = true → ((false = true → rv = 0) ∧ (false = false → rv = (-1)))) ∧ (false = false → ((false = true → rv = 1) ∧ (false = false → ((x < y → rv = (-1)) ∧ (¬ (x < y) → ((x > y → rv = 1) ∧ (¬ (x > y) → rv = 0))))))))) : G Try.prog E [.code (bodyAt Try.prog 68)] ⟨[.int .i64 x, .int .i64 y] ++ unds (Try.f68.ntmps - 2), []⟩ := by
  rcases Bool.eq_false_or_eq_true false with hc0 | hc0
  · have h := h.1 hc0
    rcases Bool.eq_false_or_eq_true false with hc1 | hc1
    · have h := h.1 hc1
      exact p68_start_0 x y    hE (pureF_of Try.func76 (by kernel_rfl) f76b (isNaN_ok x)) (pureF_of Try.func76 (by kernel_rfl) f76b (isNaN_ok y)) hc0 hc1 (AvLe.of_eq (by rw [h]; try rfl))
    · have h := h.2 hc1
      exact p68_start_1 x y    hE (pureF_of Try.func76 (by kernel_rfl) f76b (isNaN_ok x)) (pureF_of Try.func76 (by kernel_rfl) f76b (isNaN_ok y)) hc0 hc1 (AvLe.of_eq (by rw [h]; try rfl))
  · have h := h.2 hc0
    rcases Bool.eq_false_or_eq_true false with hc1 | hc1
    · have h := h.1 hc1
      exact p68_start_2 x y    hE (pureF_of Try.func76 (by kernel_rfl) f76b (isNaN_ok x)) (pureF_of Try.func76 (by kernel_rfl) f76b (isNaN_ok y)) hc0 hc1 (AvLe.of_eq (by rw [h]; try rfl))
    · have h := h.2 hc1
      rcases Bool.eq_false_or_eq_true (decide (x < y)) with hc2 | hc2
      · have h := h.1 (of_decide_eq_true hc2)
        exact p68_start_3 x y    hE (pureF_of Try.func76 (by kernel_rfl) f76b (isNaN_ok x)) (pureF_of Try.func76 (by kernel_rfl) f76b (isNaN_ok y)) hc0 hc1 hc2 (AvLe.of_eq (by rw [h]; try rfl))
      · have h := h.2 (of_decide_eq_false hc2)
        rcases Bool.eq_false_or_eq_true (decide (x > y)) with hc3 | hc3
        · have h := h.1 (of_decide_eq_true hc3)
          exact p68_start_4 x y    hE (pureF_of Try.func76 (by kernel_rfl) f76b (isNaN_ok x)) (pureF_of Try.func76 (by kernel_rfl) f76b (isNaN_ok y)) hc0 hc1 hc2 hc3 (AvLe.of_eq (by rw [h]; try rfl))
        · have h := h.2 (of_decide_eq_false hc3)
          exact p68_start_5 x y    hE (pureF_of Try.func76 (by kernel_rfl) f76b (isNaN_ok x)) (pureF_of Try.func76 (by kernel_rfl) f76b (isNaN_ok y)) hc0 hc1 hc2 hc3 (AvLe.of_eq (by rw [h]; try rfl))

def cmpI (x y : Int) : Int := if x < y then -1 else if x > y then 1 else 0
theorem cmp_ok (x y : Int) : Pure Try.prog 68 [.int .i64 x, .int .i64 y] (.int .i64 (cmpI x y)) := pure_of Try.func68 f68b fun E hE => by
  exact f68W x y hE ⟨by simp, fun _ => ⟨by simp, fun _ => ⟨fun h => by simp [cmpI, h], fun h => ⟨fun h' => by simp [cmpI, h, h'], fun h' => by simp [cmpI, h, h']⟩⟩⟩⟩

theorem f65b : Try.f65.body = some (bodyAt Try.prog 65) := by kernel_rfl
theorem p65_start_0 (i : Int) (c : Int) (ws : List Int) (al : Int)  (e : Int)  {E : Env} {res : AV} (hE : PureE Try.prog 65 res E) (o1 : 0 ≤ i ∧ i < ((ws.length : Nat) : Int)) (o2 : ((rowI ws).drop (0 + (Int.toNat i) * 1)).take 1 = [.int .i64 e]) (o3 : InR .i64 (c * e)) (o4 : al ≠ 0)
    (hr : AvLe (.int .i64 (Int.tmod (c * e) al)) res) : G Try.prog E [.code (bodyAt Try.prog 65)] ⟨[.int .i64 i, .rptr [.int .i64 c] 0, .rptr [.rsl (rowI ws) 0 ws.length] 0, .rptr [.int .i64 al] 0] ++ unds (Try.f65.ntmps - 4), []⟩ :=
  end_stepL (n := 400) (evs := [.auto, .auto, .ld (.int .i64 e)]) (obs := [0 ≤ i ∧ i < ((ws.length : Nat) : Int), ((rowI ws).drop (0 + (Int.toNat i) * 1)).take 1 = [.int .i64 e], InR .i64 (c * e), al ≠ 0]) hE Try.func65 mixed (by kernel_rfl) ⟨o1, o2, o3, o4, trivial⟩ hr
theorem f65W (i : Int) (c : Int) (ws : List Int) (al : Int) {E : Env} {rv : Int} (hE : PureE Try.prog 65 (.int .i64 rv) E)
    (h : (0 ≤ i ∧ (∃ e : Int, ws[Int.toNat i]? = some e ∧ ((-9223372036854775808 ≤ c * e ∧ c * e ≤ 9223372036854775807) ∧ (al ≠ 0 ∧ rv = (Int.tmod (c * e) al)))))) : G Try.prog E [.code (bodyAt Try.prog 65)] ⟨[.int .i64 i, .rptr [.int .i64 c] 0, .rptr [.rsl (rowI ws) 0 ws.length] 0, .rptr [.int .i64 al] 0] ++ unds (Try.f65.ntmps - 4), []⟩ := by
  obtain ⟨h2, h⟩ := h
  obtain ⟨e, h1, h⟩ := h
  obtain ⟨q3_0, h⟩ := h
  obtain ⟨q4_0, h⟩ := h
  exact p65_start_0 i c ws al   e hE (idx_ok' h2 h1) (row_part cI (s := 1) (k := 0) (m := 1) (fun _ => rfl) (by decide) h1) q3_0 q4_0 (AvLe.of_eq (by rw [h]; try rfl))
theorem f49b : Try.f49.body = some (bodyAt Try.prog 49) := by kernel_rfl
theorem p49_start_0 (n : Int) (lo : Int) (hi : Int)   {E : Env} {res : AV} (hE : PureE Try.prog 49 res E) (o0 : (decide (n ≥ lo)) = true)
    (hr : AvLe (.bool (decide (n ≤ hi))) res) : G Try.prog E [.code (bodyAt Try.prog 49)] ⟨[.int .i64 n, .int .i64 lo, .int .i64 hi] ++ unds (Try.f49.ntmps - 3), []⟩ :=
  end_stepL (n := 400) (evs := [.b true]) (obs := [(decide (n ≥ lo)) = true]) hE Try.func49 mixed (by kernel_rfl) ⟨o0, trivial⟩ hr
theorem p49_start_1 (n : Int) (lo : Int) (hi : Int)   {E : Env} {res : AV} (hE : PureE Try.prog 49 res E) (o0 : (decide (n ≥ lo)) = false)
    (hr : AvLe (.bool false) res) : G Try.prog E [.code (bodyAt Try.prog 49)] ⟨[.int .i64 n, .int .i64 lo, .int .i64 hi] ++ unds (Try.f49.ntmps - 3), []⟩ :=
  end_stepL (n := 400) (evs := [.b false]) (obs := [(decide (n ≥ lo)) = false]) hE Try.func49 mixed (by kernel_rfl) ⟨o0, trivial⟩ hr
theorem f49W (n : Int) (lo : Int) (hi : Int) {E : Env} {rv : Bool} (hE : PureE Try.prog 49 (.bool rv) E)
    (h : ((n ≥ lo → rv = (decide (n ≤ hi))) ∧ (¬ (n ≥ lo) → rv = false))) : G Try.prog E [.code (bodyAt Try.prog 49)] ⟨[.int .i64 n, .int .i64 lo, .int .i64 hi] ++ unds (Try.f49.ntmps - 3), []⟩ := by
  rcases Bool.eq_false_or_eq_true (decide (n ≥ lo)) with hc0 | hc0
  · have h := h.1 (of_decide_eq_true hc0)
    exact p49_start_0 n lo hi    hE hc0 (AvLe.of_eq (by rw [h]; try rfl))
  · have h := h.2 (of_decide_eq_false hc0)
    exact p49_start_1 n lo hi    hE hc0 (AvLe.of_eq (by rw [h]; try rfl))

def within (n lo hi : Int) : Bool := decide (n ≥ lo) && decide (n ≤ hi)
theorem within_ok (n lo hi : Int) : Pure Try.prog 49 [.int .i64 n, .int .i64 lo, .int .i64 hi] (.bool (within n lo hi)) := pure_of Try.func49 f49b fun E hE => by
  refine f49W n lo hi hE ⟨fun h => by simp [within, h], fun h => by simp only [within]; rw [decide_eq_false h]; rfl⟩

/-- The remainder by which the cents are handed out. -/
def keyI (c : Int) (ws : List Int) (al i : Int) : Int := Int.tmod (c * ws.getD (Int.toNat i) 0) al
def KeyOk (c : Int) (ws : List Int) (al i : Int) : Prop := 0 ≤ i ∧ i < ws.length ∧ (-9223372036854775808 ≤ c * ws.getD (Int.toNat i) 0 ∧ c * ws.getD (Int.toNat i) 0 ≤ 9223372036854775807) ∧ al ≠ 0
theorem key_ok (c : Int) (ws : List Int) (al i : Int) (h : KeyOk c ws al i) : Pure Try.prog 65 [.int .i64 i, .rptr [.int .i64 c] 0, .rptr [.rsl (rowI ws) 0 ws.length] 0, .rptr [.int .i64 al] 0] (.int .i64 (keyI c ws al i)) := pure_of Try.func65 f65b fun E hE => by
  obtain ⟨h0, h1, h2, h3⟩ := h
  have hi : ws[Int.toNat i]? = some (ws.getD (Int.toNat i) 0) := by simp [List.getD, show Int.toNat i < ws.length by omega]
  exact f65W i c ws al hE ⟨h0, _, hi, h2, h3, rfl⟩

theorem f67b : Try.f67.body = some (bodyAt Try.prog 67) := by kernel_rfl
theorem p67_start_0 (a : Int) (b : Int) (c : Int) (ws : List Int) (al : Int)   {E : Env} {res : AV} (hE : PureE Try.prog 67 res E) (o0 : PureF Try.prog (.clos 65 [] [.rptr [.int .i64 c] 0, .rptr [.rsl (rowI ws) 0 ws.length] 0, .rptr [.int .i64 al] 0]) [.int .i64 b] (.int .i64 (keyI c ws al b))) (o1 : PureF Try.prog (.clos 65 [] [.rptr [.int .i64 c] 0, .rptr [.rsl (rowI ws) 0 ws.length] 0, .rptr [.int .i64 al] 0]) [.int .i64 a] (.int .i64 (keyI c ws al a))) (o2 : PureF Try.prog (.clos 68 [] []) [.int .i64 (keyI c ws al b), .int .i64 (keyI c ws al a)] (.int .i64 (cmpI (keyI c ws al b) (keyI c ws al a))))
    (hr : AvLe (.int .i64 (cmpI (keyI c ws al b) (keyI c ws al a))) res) : G Try.prog E [.code (bodyAt Try.prog 67)] ⟨[.int .i64 a, .int .i64 b, .rptr [.clos 65 [] [.rptr [.int .i64 c] 0, .rptr [.rsl (rowI ws) 0 ws.length] 0, .rptr [.int .i64 al] 0]] 0] ++ unds (Try.f67.ntmps - 3), []⟩ :=
  end_stepL (n := 400) (evs := [.v (.int .i64 (keyI c ws al b)), .v (.int .i64 (keyI c ws al a)), .v (.int .i64 (cmpI (keyI c ws al b) (keyI c ws al a)))]) (obs := [PureF Try.prog (.clos 65 [] [.rptr [.int .i64 c] 0, .rptr [.rsl (rowI ws) 0 ws.length] 0, .rptr [.int .i64 al] 0]) [.int .i64 b] (.int .i64 (keyI c ws al b)), PureF Try.prog (.clos 65 [] [.rptr [.int .i64 c] 0, .rptr [.rsl (rowI ws) 0 ws.length] 0, .rptr [.int .i64 al] 0]) [.int .i64 a] (.int .i64 (keyI c ws al a)), PureF Try.prog (.clos 68 [] []) [.int .i64 (keyI c ws al b), .int .i64 (keyI c ws al a)] (.int .i64 (cmpI (keyI c ws al b) (keyI c ws al a)))]) hE Try.func67 mixed (by kernel_rfl) ⟨o0, o1, o2, trivial⟩ hr
theorem f67W (a : Int) (b : Int) (c : Int) (ws : List Int) (al : Int) {E : Env} {rv : Int} (hE : PureE Try.prog 67 (.int .i64 rv) E)
    (h : ((KeyOk c ws al b) ∧ ((KeyOk c ws al a) ∧ rv = (cmpI (keyI c ws al b) (keyI c ws al a))))) : G Try.prog E [.code (bodyAt Try.prog 67)] ⟨[.int .i64 a, .int .i64 b, .rptr [.clos 65 [] [.rptr [.int .i64 c] 0, .rptr [.rsl (rowI ws) 0 ws.length] 0, .rptr [.int .i64 al] 0]] 0] ++ unds (Try.f67.ntmps - 3), []⟩ := by
  obtain ⟨h1, h⟩ := h
  obtain ⟨h2, h⟩ := h
  exact p67_start_0 a b c ws al    hE (pureF_of Try.func65 (by kernel_rfl) f65b (key_ok c ws al b h1)) (pureF_of Try.func65 (by kernel_rfl) f65b (key_ok c ws al a h2)) (pureF_of Try.func68 (by kernel_rfl) f68b (cmp_ok (keyI c ws al b) (keyI c ws al a))) (AvLe.of_eq (by rw [h]; try rfl))

def lessI (c : Int) (ws : List Int) (al a b : Int) : Int := cmpI (keyI c ws al b) (keyI c ws al a)
theorem less_ok (c : Int) (ws : List Int) (al a b : Int) (h : KeyOk c ws al b ∧ KeyOk c ws al a) : Pure Try.prog 67 [.int .i64 a, .int .i64 b, .rptr [.clos 65 [] [.rptr [.int .i64 c] 0, .rptr [.rsl (rowI ws) 0 ws.length] 0, .rptr [.int .i64 al] 0]] 0] (.int .i64 (lessI c ws al a b)) := pure_of Try.func67 f67b fun E hE =>
  f67W a b c ws al hE ⟨h.1, h.2, rfl⟩

end Go.Proofs.Ytmdbebbibecidaa

namespace Go.Proofs.Ytmdbebbibecidaa
open Go Ax
open Go.Proofs
theorem f79b : Try.f79.body = some (bodyAt Try.prog 79) := by kernel_rfl
def f79K0 (P : Program) : List Item := kAt 400 [.code (bodyAt P 79)] [.stop]
def f79S0 (a : Int) (b : Int) (l : List Int) (c : Int) (ws : List Int) (al : Int) (n0 : Nat) (v0 : List Int) (i : Int)  : St := ⟨[.sl 0 n0 0 v0.length 1, .int .i64 a, .int .i64 b, .clos 67 [] [.ptr 1 0 0], .junk, .junk, .junk, .junk, .int .i64 i, .junk, .junk, .junk, .junk, .junk, .junk, .junk, .junk, .junk, .junk, .junk, .junk, .junk, .junk, .junk, .junk, .junk, .junk, .junk, .junk, .junk, .junk, .junk, .junk, .junk, .junk, .junk, .junk, .junk, .junk, .junk, .junk, .junk, .junk, .junk, .junk, .junk, .junk, .junk, .junk, .junk, .junk, .junk, .junk], [⟨true, n0, 1, true, (rowI v0), true⟩, ⟨true, 0, 1, false, [.clos 65 [] [.ptr 2 0 0, .ptr 3 0 0, .ptr 4 0 0]], false⟩, ⟨true, 0, 1, true, [.int .i64 c], false⟩, ⟨true, 0, 1, true, [.rsl (rowI ws) 0 ws.length], false⟩, ⟨true, 0, 1, true, [.int .i64 al], false⟩]⟩
def f79G0 (E : Env) (a : Int) (b : Int) (l : List Int) (c : Int) (ws : List Int) (al : Int) (n0 : Nat) (v0 : List Int) (i : Int) : Prop := G Try.prog E (f79K0 Try.prog) (f79S0 a b l c ws al n0 v0 i )
def f79K1 (P : Program) : List Item := kAt 400 [.code (bodyAt P 79)] [.b true, .stop]
def f79S1 (a : Int) (b : Int) (l : List Int) (c : Int) (ws : List Int) (al : Int) (n0 : Nat) (j : Int) (v0 : List Int) (i : Int)  : St := ⟨[.sl 0 n0 0 v0.length 1, .int .i64 a, .int .i64 b, .clos 67 [] [.ptr 1 0 0], .junk, .junk, .junk, .junk, .int .i64 i, .int .i64 j, .junk, .junk, .junk, .junk, .junk, .junk, .junk, .junk, .junk, .junk, .junk, .junk, .junk, .junk, .junk, .junk, .junk, .junk, .junk, .junk, .junk, .junk, .junk, .junk, .junk, .junk, .junk, .junk, .junk, .junk, .junk, .junk, .junk, .junk, .junk, .junk, .junk, .junk, .junk, .junk, .junk, .junk, .junk], [⟨true, n0, 1, true, (rowI v0), true⟩, ⟨true, 0, 1, false, [.clos 65 [] [.ptr 2 0 0, .ptr 3 0 0, .ptr 4 0 0]], false⟩, ⟨true, 0, 1, true, [.int .i64 c], false⟩, ⟨true, 0, 1, true, [.rsl (rowI ws) 0 ws.length], false⟩, ⟨true, 0, 1, true, [.int .i64 al], false⟩]⟩
def f79G1 (E : Env) (a : Int) (b : Int) (l : List Int) (c : Int) (ws : List Int) (al : Int) (n0 : Nat) (j : Int) (v0 : List Int) (i : Int) : Prop := G Try.prog E (f79K1 Try.prog) (f79S1 a b l c ws al n0 j v0 i )
theorem p79_start_0 (a : Int) (b : Int) (l : List Int) (c : Int) (ws : List Int) (al : Int) (n0 : Nat)   {E : Env} {rv : AV} {bs2 : List Blk} (hE : LentE Try.prog 79 [.sl 4 0 0 0 1] rv bs2 E) (o0 : InR .i64 (a + 1))
    (hg : G Try.prog E (f79K0 Try.prog) ⟨[.sl 0 n0 0 l.length 1, .int .i64 a, .int .i64 b, .clos 67 [] [.ptr 1 0 0], .junk, .junk, .junk, .junk, .int .i64 (a + 1), .junk, .junk, .junk, .junk, .junk, .junk, .junk, .junk, .junk, .junk, .junk, .junk, .junk, .junk, .junk, .junk, .junk, .junk, .junk, .junk, .junk, .junk, .junk, .junk, .junk, .junk, .junk, .junk, .junk, .junk, .junk, .junk, .junk, .junk, .junk, .junk, .junk, .junk, .junk, .junk, .junk, .junk, .junk, .junk], [⟨true, n0, 1, true, (rowI l), true⟩, ⟨true, 0, 1, false, [.clos 65 [] [.ptr 2 0 0, .ptr 3 0 0, .ptr 4 0 0]], false⟩, ⟨true, 0, 1, true, [.int .i64 c], false⟩, ⟨true, 0, 1, true, [.rsl (rowI ws) 0 ws.length], false⟩, ⟨true, 0, 1, true, [.int .i64 al], false⟩]⟩) : G Try.prog E [.code (bodyAt Try.prog 79)] ⟨[.sl 0 n0 0 l.length 1, .int .i64 a, .int .i64 b, .clos 67 [] [.ptr 1 0 0]] ++ unds (Try.f79.ntmps - 4), [⟨true, n0, 1, true, (rowI l), true⟩, ⟨true, 0, 1, false, [.clos 65 [] [.ptr 2 0 0, .ptr 3 0 0, .ptr 4 0 0]], false⟩, ⟨true, 0, 1, true, [.int .i64 c], false⟩, ⟨true, 0, 1, true, [.rsl (rowI ws) 0 ws.length], false⟩, ⟨true, 0, 1, true, [.int .i64 al], false⟩]⟩ :=
  segC_step (n := 400) (ds := []) (cs := []) (live := [0, 1, 2, 3, 8]) (m := 5) (evs := [.stop]) (obs := [InR .i64 (a + 1)]) hE.kind (hE.nogh (by kernel_rfl)) mixed (by kernel_rfl) ⟨o0, trivial⟩ hg
theorem f79W (a : Int) (b : Int) (l : List Int) (c : Int) (ws : List Int) (al : Int) (n0 : Nat) {E : Env} {rv : Unit} {lo : List Int} (hE : LentE Try.prog 79 [.sl 4 0 0 0 1] (.tup []) [⟨true, n0, 1, true, (rowI lo), true⟩, ⟨true, 0, 1, false, [.clos 65 [] [.ptr 2 0 0, .ptr 3 0 0, .ptr 4 0 0]], false⟩, ⟨true, 0, 1, true, [.int .i64 c], false⟩, ⟨true, 0, 1, true, [.rsl (rowI ws) 0 ws.length], false⟩, ⟨true, 0, 1, true, [.int .i64 al], false⟩] E)
    (h : ((-9223372036854775808 ≤ a + 1 ∧ a + 1 ≤ 9223372036854775807) ∧ f79G0 E a b l c ws al n0 l (a + 1))) : G Try.prog E [.code (bodyAt Try.prog 79)] ⟨[.sl 0 n0 0 l.length 1, .int .i64 a, .int .i64 b, .clos 67 [] [.ptr 1 0 0]] ++ unds (Try.f79.ntmps - 4), [⟨true, n0, 1, true, (rowI l), true⟩, ⟨true, 0, 1, false, [.clos 65 [] [.ptr 2 0 0, .ptr 3 0 0, .ptr 4 0 0]], false⟩, ⟨true, 0, 1, true, [.int .i64 c], false⟩, ⟨true, 0, 1, true, [.rsl (rowI ws) 0 ws.length], false⟩, ⟨true, 0, 1, true, [.int .i64 al], false⟩]⟩ := by
  obtain ⟨q0_0, h⟩ := h
  exact p79_start_0 a b l c ws al n0    hE q0_0 h
theorem p79_0_0 (a : Int) (b : Int) (l : List Int) (c : Int) (ws : List Int) (al : Int) (n0 : Nat) (v0 : List Int) (i : Int)   {E : Env} {rv : AV} {bs2 : List Blk} (hE : LentE Try.prog 79 [.sl 4 0 0 0 1] rv bs2 E) (o0 : (decide (i < b)) = true)
    (hg : G Try.prog E (f79K1 Try.prog) ⟨[.sl 0 n0 0 v0.length 1, .int .i64 a, .int .i64 b, .clos 67 [] [.ptr 1 0 0], .junk, .junk, .junk, .junk, .int .i64 i, .int .i64 i, .junk, .junk, .junk, .junk, .junk, .junk, .junk, .junk, .junk, .junk, .junk, .junk, .junk, .junk, .junk, .junk, .junk, .junk, .junk, .junk, .junk, .junk, .junk, .junk, .junk, .junk, .junk, .junk, .junk, .junk, .junk, .junk, .junk, .junk, .junk, .junk, .junk, .junk, .junk, .junk, .junk, .junk, .junk], [⟨true, n0, 1, true, (rowI v0), true⟩, ⟨true, 0, 1, false, [.clos 65 [] [.ptr 2 0 0, .ptr 3 0 0, .ptr 4 0 0]], false⟩, ⟨true, 0, 1, true, [.int .i64 c], false⟩, ⟨true, 0, 1, true, [.rsl (rowI ws) 0 ws.length], false⟩, ⟨true, 0, 1, true, [.int .i64 al], false⟩]⟩) : G Try.prog E (f79K0 Try.prog) (f79S0 a b l c ws al n0 v0 i ) :=
  segC_step (n := 400) (ds := []) (cs := []) (live := [0, 1, 2, 3, 8, 9]) (m := 5) (evs := [.b true, .stop]) (obs := [(decide (i < b)) = true]) hE.kind (hE.nogh (by kernel_rfl)) mixed (by kernel_rfl) ⟨o0, trivial⟩ hg
theorem p79_0_1 (a : Int) (b : Int) (l : List Int) (c : Int) (ws : List Int) (al : Int) (n0 : Nat) (v0 : List Int) (i : Int)   {E : Env} {res : AV} {bs2 : List Blk} (hE : LentE Try.prog 79 [.sl 4 0 0 0 1] res bs2 E) (o0 : (decide (i < b)) = false)
    (hr : (.tup []) = res) (hb : [⟨true, n0, 1, true, (rowI v0), true⟩, ⟨true, 0, 1, false, [.clos 65 [] [.ptr 2 0 0, .ptr 3 0 0, .ptr 4 0 0]], false⟩, ⟨true, 0, 1, true, [.int .i64 c], false⟩, ⟨true, 0, 1, true, [.rsl (rowI ws) 0 ws.length], false⟩, ⟨true, 0, 1, true, [.int .i64 al], false⟩] = bs2) : G Try.prog E (f79K0 Try.prog) (f79S0 a b l c ws al n0 v0 i ) :=
  endB_step (n := 400) (live := []) (m := 5) (evs := [.b false]) (obs := [(decide (i < b)) = false]) hE (hE.nogh (by kernel_rfl)) Try.func79 mixed (by kernel_rfl) ⟨o0, trivial⟩ hr hb
theorem f79W0 (a : Int) (b : Int) (l : List Int) (c : Int) (ws : List Int) (al : Int) (n0 : Nat) (v0 : List Int) (i : Int) {E : Env} {rv : Unit} {lo : List Int} (hE : LentE Try.prog 79 [.sl 4 0 0 0 1] (.tup []) [⟨true, n0, 1, true, (rowI lo), true⟩, ⟨true, 0, 1, false, [.clos 65 [] [.ptr 2 0 0, .ptr 3 0 0, .ptr 4 0 0]], false⟩, ⟨true, 0, 1, true, [.int .i64 c], false⟩, ⟨true, 0, 1, true, [.rsl (rowI ws) 0 ws.length], false⟩, ⟨true, 0, 1, true, [.int .i64 al], false⟩] E)
    (h : ((i < b → f79G1 E a b l c ws al n0 i v0 i) ∧ (¬ (i < b) → lo = v0))) : f79G0 E a b l c ws al n0 v0 i := by
  rcases Bool.eq_false_or_eq_true (decide (i < b)) with hc0 | hc0
  · have h := h.1 (of_decide_eq_true hc0)
    exact p79_0_0 a b l c ws al n0 v0 i   hE hc0 h
  · have h := h.2 (of_decide_eq_false hc0)
    have e0 := h
    exact p79_0_1 a b l c ws al n0 v0 i   hE hc0 (by try rfl) (by rw [e0]; try rfl)
theorem p79_1_0 (a : Int) (b : Int) (l : List Int) (c : Int) (ws : List Int) (al : Int) (n0 : Nat) (j : Int) (v0 : List Int) (i : Int)  (e : Int) (e1 : Int) (e2 : Int)  {E : Env} {rv : AV} {bs2 : List Blk} (hE : LentE Try.prog 79 [.sl 4 0 0 0 1] rv bs2 E) (o0 : (decide (j > a)) = true) (o2 : 0 ≤ j ∧ j < ((v0.length : Nat) : Int)) (o5 : ((rowI v0).drop (0 + (Int.toNat j) * 1)).take 1 = [.int .i64 e]) (o6 : InR .i64 (j - 1)) (o8 : 0 ≤ (j - 1) ∧ (j - 1) < ((v0.length : Nat) : Int)) (o11 : ((rowI v0).drop (0 + (Int.toNat (j - 1)) * 1)).take 1 = [.int .i64 e1]) (o12 : PureF Try.prog (.clos 67 [] [.rptr [.clos 65 [] [.rptr [.int .i64 c] 0, .rptr [.rsl (rowI ws) 0 ws.length] 0, .rptr [.int .i64 al] 0]] 0]) [.int .i64 e, .int .i64 e1] (.int .i64 (lessI c ws al e e1))) (o13 : (decide ((lessI c ws al e e1) < 0)) = true) (o14 : InR .i64 (j - 1)) (o15 : InR .i64 (j - 1)) (o16 : 0 ≤ (j - 1) ∧ (j - 1) < ((v0.length : Nat) : Int)) (o19 : ((rowI v0).drop (0 + (Int.toNat (j - 1)) * 1)).take 1 = [.int .i64 e1]) (o20 : 0 ≤ j ∧ j < ((v0.length : Nat) : Int)) (o23 : ((rowI v0).drop (0 + (Int.toNat j) * 1)).take 1 = [.int .i64 e]) (o24 : 0 ≤ j ∧ j < ((v0.length : Nat) : Int)) (o26 : ((0 + (Int.toNat j) * 1) + 1) ≤ (rowI v0).length) (o29 : 0 ≤ (j - 1) ∧ (j - 1) < ((v0.length : Nat) : Int)) (o31 : ((0 + (Int.toNat (j - 1)) * 1) + 1) ≤ (setAt (rowI v0) (0 + (Int.toNat j) * 1) [.int .i64 e1]).length) (o33 : InR .i64 (j - 1))
    (hg : G Try.prog E (f79K1 Try.prog) ⟨[.sl 0 n0 0 v0.length 1, .int .i64 a, .int .i64 b, .clos 67 [] [.ptr 1 0 0], .junk, .junk, .junk, .junk, .int .i64 i, .int .i64 (j - 1), .junk, .junk, .junk, .junk, .junk, .junk, .junk, .junk, .junk, .junk, .junk, .junk, .junk, .junk, .junk, .junk, .junk, .junk, .junk, .junk, .junk, .junk, .junk, .junk, .junk, .junk, .junk, .junk, .junk, .junk, .junk, .junk, .junk, .junk, .junk, .junk, .junk, .junk, .junk, .junk, .junk, .junk, .junk], [⟨true, n0, 1, true, (setAt (setAt (rowI v0) (0 + (Int.toNat j) * 1) [.int .i64 e1]) (0 + (Int.toNat (j - 1)) * 1) [.int .i64 e]), true⟩, ⟨true, 0, 1, false, [.clos 65 [] [.ptr 2 0 0, .ptr 3 0 0, .ptr 4 0 0]], false⟩, ⟨true, 0, 1, true, [.int .i64 c], false⟩, ⟨true, 0, 1, true, [.rsl (rowI ws) 0 ws.length], false⟩, ⟨true, 0, 1, true, [.int .i64 al], false⟩]⟩) : G Try.prog E (f79K1 Try.prog) (f79S1 a b l c ws al n0 j v0 i ) :=
  segC_step (n := 400) (ds := []) (cs := []) (live := [0, 1, 2, 3, 8, 9]) (m := 5) (evs := [.b true, .ld (.int .i64 e), .ld (.int .i64 e1), .v (.int .i64 (lessI c ws al e e1)), .b true, .ld (.int .i64 e1), .ld (.int .i64 e), .stop]) (obs := [(decide (j > a)) = true, 0 ≤ j ∧ j < ((v0.length : Nat) : Int), n0 = n0, n0 = n0, ((rowI v0).drop (0 + (Int.toNat j) * 1)).take 1 = [.int .i64 e], InR .i64 (j - 1), 0 ≤ (j - 1) ∧ (j - 1) < ((v0.length : Nat) : Int), n0 = n0, n0 = n0, ((rowI v0).drop (0 + (Int.toNat (j - 1)) * 1)).take 1 = [.int .i64 e1], PureF Try.prog (.clos 67 [] [.rptr [.clos 65 [] [.rptr [.int .i64 c] 0, .rptr [.rsl (rowI ws) 0 ws.length] 0, .rptr [.int .i64 al] 0]] 0]) [.int .i64 e, .int .i64 e1] (.int .i64 (lessI c ws al e e1)), (decide ((lessI c ws al e e1) < 0)) = true, InR .i64 (j - 1), InR .i64 (j - 1), 0 ≤ (j - 1) ∧ (j - 1) < ((v0.length : Nat) : Int), n0 = n0, n0 = n0, ((rowI v0).drop (0 + (Int.toNat (j - 1)) * 1)).take 1 = [.int .i64 e1], 0 ≤ j ∧ j < ((v0.length : Nat) : Int), n0 = n0, n0 = n0, ((rowI v0).drop (0 + (Int.toNat j) * 1)).take 1 = [.int .i64 e], 0 ≤ j ∧ j < ((v0.length : Nat) : Int), n0 = n0, ((0 + (Int.toNat j) * 1) + 1) ≤ (rowI v0).length, n0 = n0, 0 ≤ (j - 1) ∧ (j - 1) < ((v0.length : Nat) : Int), n0 = n0, ((0 + (Int.toNat (j - 1)) * 1) + 1) ≤ (setAt (rowI v0) (0 + (Int.toNat j) * 1) [.int .i64 e1]).length, n0 = n0, InR .i64 (j - 1)]) hE.kind (hE.nogh (by kernel_rfl)) mixed (by kernel_rfl) ⟨o0, o2, (rfl), (rfl), o5, o6, o8, (rfl), (rfl), o11, o12, o13, o14, o15, o16, (rfl), (rfl), o19, o20, (rfl), (rfl), o23, o24, (rfl), o26, (rfl), o29, (rfl), o31, (rfl), o33, trivial⟩ hg
theorem p79_1_1 (a : Int) (b : Int) (l : List Int) (c : Int) (ws : List Int) (al : Int) (n0 : Nat) (j : Int) (v0 : List Int) (i : Int)  (e : Int) (e1 : Int)  {E : Env} {rv : AV} {bs2 : List Blk} (hE : LentE Try.prog 79 [.sl 4 0 0 0 1] rv bs2 E) (o0 : (decide (j > a)) = true) (o2 : 0 ≤ j ∧ j < ((v0.length : Nat) : Int)) (o5 : ((rowI v0).drop (0 + (Int.toNat j) * 1)).take 1 = [.int .i64 e]) (o6 : InR .i64 (j - 1)) (o8 : 0 ≤ (j - 1) ∧ (j - 1) < ((v0.length : Nat) : Int)) (o11 : ((rowI v0).drop (0 + (Int.toNat (j - 1)) * 1)).take 1 = [.int .i64 e1]) (o12 : PureF Try.prog (.clos 67 [] [.rptr [.clos 65 [] [.rptr [.int .i64 c] 0, .rptr [.rsl (rowI ws) 0 ws.length] 0, .rptr [.int .i64 al] 0]] 0]) [.int .i64 e, .int .i64 e1] (.int .i64 (lessI c ws al e e1))) (o13 : (decide ((lessI c ws al e e1) < 0)) = false) (o14 : InR .i64 (i + 1))
    (hg : G Try.prog E (f79K0 Try.prog) ⟨[.sl 0 n0 0 v0.length 1, .int .i64 a, .int .i64 b, .clos 67 [] [.ptr 1 0 0], .junk, .junk, .junk, .junk, .int .i64 (i + 1), .junk, .junk, .junk, .junk, .junk, .junk, .junk, .junk, .junk, .junk, .junk, .junk, .junk, .junk, .junk, .junk, .junk, .junk, .junk, .junk, .junk, .junk, .junk, .junk, .junk, .junk, .junk, .junk, .junk, .junk, .junk, .junk, .junk, .junk, .junk, .junk, .junk, .junk, .junk, .junk, .junk, .junk, .junk, .junk], [⟨true, n0, 1, true, (rowI v0), true⟩, ⟨true, 0, 1, false, [.clos 65 [] [.ptr 2 0 0, .ptr 3 0 0, .ptr 4 0 0]], false⟩, ⟨true, 0, 1, true, [.int .i64 c], false⟩, ⟨true, 0, 1, true, [.rsl (rowI ws) 0 ws.length], false⟩, ⟨true, 0, 1, true, [.int .i64 al], false⟩]⟩) : G Try.prog E (f79K1 Try.prog) (f79S1 a b l c ws al n0 j v0 i ) :=
  segC_step (n := 400) (ds := []) (cs := []) (live := [0, 1, 2, 3, 8]) (m := 5) (evs := [.b true, .ld (.int .i64 e), .ld (.int .i64 e1), .v (.int .i64 (lessI c ws al e e1)), .b false, .stop]) (obs := [(decide (j > a)) = true, 0 ≤ j ∧ j < ((v0.length : Nat) : Int), n0 = n0, n0 = n0, ((rowI v0).drop (0 + (Int.toNat j) * 1)).take 1 = [.int .i64 e], InR .i64 (j - 1), 0 ≤ (j - 1) ∧ (j - 1) < ((v0.length : Nat) : Int), n0 = n0, n0 = n0, ((rowI v0).drop (0 + (Int.toNat (j - 1)) * 1)).take 1 = [.int .i64 e1], PureF Try.prog (.clos 67 [] [.rptr [.clos 65 [] [.rptr [.int .i64 c] 0, .rptr [.rsl (rowI ws) 0 ws.length] 0, .rptr [.int .i64 al] 0]] 0]) [.int .i64 e, .int .i64 e1] (.int .i64 (lessI c ws al e e1)), (decide ((lessI c ws al e e1) < 0)) = false, InR .i64 (i + 1)]) hE.kind (hE.nogh (by kernel_rfl)) mixed (by kernel_rfl) ⟨o0, o2, (rfl), (rfl), o5, o6, o8, (rfl), (rfl), o11, o12, o13, o14, trivial⟩ hg
theorem p79_1_2 (a : Int) (b : Int) (l : List Int) (c : Int) (ws : List Int) (al : Int) (n0 : Nat) (j : Int) (v0 : List Int) (i : Int)   {E : Env} {rv : AV} {bs2 : List Blk} (hE : LentE Try.prog 79 [.sl 4 0 0 0 1] rv bs2 E) (o0 : (decide (j > a)) = false) (o2 : InR .i64 (i + 1))
    (hg : G Try.prog E (f79K0 Try.prog) ⟨[.sl 0 n0 0 v0.length 1, .int .i64 a, .int .i64 b, .clos 67 [] [.ptr 1 0 0], .junk, .junk, .junk, .junk, .int .i64 (i + 1), .junk, .junk, .junk, .junk, .junk, .junk, .junk, .junk, .junk, .junk, .junk, .junk, .junk, .junk, .junk, .junk, .junk, .junk, .junk, .junk, .junk, .junk, .junk, .junk, .junk, .junk, .junk, .junk, .junk, .junk, .junk, .junk, .junk, .junk, .junk, .junk, .junk, .junk, .junk, .junk, .junk, .junk, .junk, .junk], [⟨true, n0, 1, true, (rowI v0), true⟩, ⟨true, 0, 1, false, [.clos 65 [] [.ptr 2 0 0, .ptr 3 0 0, .ptr 4 0 0]], false⟩, ⟨true, 0, 1, true, [.int .i64 c], false⟩, ⟨true, 0, 1, true, [.rsl (rowI ws) 0 ws.length], false⟩, ⟨true, 0, 1, true, [.int .i64 al], false⟩]⟩) : G Try.prog E (f79K1 Try.prog) (f79S1 a b l c ws al n0 j v0 i ) :=
  segC_step (n := 400) (ds := []) (cs := []) (live := [0, 1, 2, 3, 8]) (m := 5) (evs := [.b false, .b false, .stop]) (obs := [(decide (j > a)) = false, false = false, InR .i64 (i + 1)]) hE.kind (hE.nogh (by kernel_rfl)) mixed (by kernel_rfl) ⟨o0, (rfl), o2, trivial⟩ hg
theorem f79W1 (a : Int) (b : Int) (l : List Int) (c : Int) (ws : List Int) (al : Int) (n0 : Nat) (j : Int) (v0 : List Int) (i : Int) {E : Env} {rv : Unit} {lo : List Int} (hE : LentE Try.prog 79 [.sl 4 0 0 0 1] (.tup []) [⟨true, n0, 1, true, (rowI lo), true⟩, ⟨true, 0, 1, false, [.clos 65 [] [.ptr 2 0 0, .ptr 3 0 0, .ptr 4 0 0]], false⟩, ⟨true, 0, 1, true, [.int .i64 c], false⟩, ⟨true, 0, 1, true, [.rsl (rowI ws) 0 ws.length], false⟩, ⟨true, 0, 1, true, [.int .i64 al], false⟩] E)
    (h : ((j > a → (0 ≤ j ∧ (∃ e : Int, v0[Int.toNat j]? = some e ∧ ((-9223372036854775808 ≤ j - 1 ∧ j - 1 ≤ 9223372036854775807) ∧ (0 ≤ (j - 1) ∧ (∃ e1 : Int, v0[Int.toNat (j - 1)]? = some e1 ∧ ((KeyOk c ws al e1 ∧ KeyOk c ws al e) ∧ (((lessI c ws al e e1) < 0 → ((-9223372036854775808 ≤ j - 1 ∧ j - 1 ≤ 9223372036854775807) ∧ ((-9223372036854775808 ≤ j - 1 ∧ j - 1 ≤ 9223372036854775807) ∧ (0 ≤ (j - 1) ∧ (∃ e2 : Int, (v0.set (Int.toNat j) e1)[Int.toNat (j - 1)]? = some e2 ∧ ((-9223372036854775808 ≤ j - 1 ∧ j - 1 ≤ 9223372036854775807) ∧ f79G1 E a b l c ws al n0 (j - 1) ((v0.set (Int.toNat j) e1).set (Int.toNat (j - 1)) e) i)))))) ∧ (¬ ((lessI c ws al e e1) < 0) → ((-9223372036854775808 ≤ i + 1 ∧ i + 1 ≤ 9223372036854775807) ∧ f79G0 E a b l c ws al n0 v0 (i + 1))))))))))) ∧ (¬ (j > a) → ((-9223372036854775808 ≤ i + 1 ∧ i + 1 ≤ 9223372036854775807) ∧ f79G0 E a b l c ws al n0 v0 (i + 1))))) : f79G1 E a b l c ws al n0 j v0 i := by
  rcases Bool.eq_false_or_eq_true (decide (j > a)) with hc0 | hc0
  · have h := h.1 (of_decide_eq_true hc0)
    obtain ⟨h2, h⟩ := h
    obtain ⟨e, h1, h⟩ := h
    obtain ⟨q6_1, h⟩ := h
    obtain ⟨h4, h⟩ := h
    obtain ⟨e1, h3, h⟩ := h
    obtain ⟨h5, h⟩ := h
    rcases Bool.eq_false_or_eq_true (decide ((lessI c ws al e e1) < 0)) with hc1 | hc1
    · have h := h.1 (of_decide_eq_true hc1)
      obtain ⟨q14_2, h⟩ := h
      obtain ⟨q15_2, h⟩ := h
      obtain ⟨h7, h⟩ := h
      obtain ⟨e2, h6, h⟩ := h
      obtain ⟨q33_2, h⟩ := h
      refine p79_1_0 a b l c ws al n0 j v0 i  e e1 e2 hE hc0 (idx_ok' h2 h1) (row_part cI (s := 1) (k := 0) (m := 1) (fun _ => rfl) (by decide) h1) q6_1 (idx_ok' h4 h3) (row_part cI (s := 1) (k := 0) (m := 1) (fun _ => rfl) (by decide) h3) (pureF_of Try.func67 (by kernel_rfl) f67b (less_ok c ws al e e1 h5)) hc1 q14_2 q15_2 (idx_ok' h4 h3) (row_part cI (s := 1) (k := 0) (m := 1) (fun _ => rfl) (by decide) h3) (idx_ok' h2 h1) (row_part cI (s := 1) (k := 0) (m := 1) (fun _ => rfl) (by decide) h1) (idx_ok' h2 h1) (row_fits cI (s := 1) (k := 0) (m := 1) (fun _ => rfl) (by decide) h1) (by have hx := idx_ok' h7 h6; simpa using hx) (by rw [(show setAt (rowI v0) (0 + (Int.toNat j) * 1) [.int .i64 e1] = rowI (v0.set (Int.toNat j) e1) from row_set cI (s := 1) (k := 0) (fun _ => rfl) h1 rfl (by first | decide | simp))]; exact row_fits cI (s := 1) (k := 0) (m := 1) (fun _ => rfl) (by decide) h6) q33_2 ?_
      have h := h
      simp only [f79G1, f79S1, List.length_set] at h
      rw [(show setAt (rowI v0) (0 + (Int.toNat j) * 1) [.int .i64 e1] = rowI (v0.set (Int.toNat j) e1) from row_set cI (s := 1) (k := 0) (fun _ => rfl) h1 rfl (by first | decide | simp))]; rw [(show setAt (rowI (v0.set (Int.toNat j) e1)) (0 + (Int.toNat (j - 1)) * 1) [.int .i64 e] = rowI ((v0.set (Int.toNat j) e1).set (Int.toNat (j - 1)) e) from row_set cI (s := 1) (k := 0) (fun _ => rfl) h6 rfl (by first | decide | simp))]
      exact h
    · have h := h.2 (of_decide_eq_false hc1)
      obtain ⟨q14_2, h⟩ := h
      exact p79_1_1 a b l c ws al n0 j v0 i  e e1 hE hc0 (idx_ok' h2 h1) (row_part cI (s := 1) (k := 0) (m := 1) (fun _ => rfl) (by decide) h1) q6_1 (idx_ok' h4 h3) (row_part cI (s := 1) (k := 0) (m := 1) (fun _ => rfl) (by decide) h3) (pureF_of Try.func67 (by kernel_rfl) f67b (less_ok c ws al e e1 h5)) hc1 q14_2 h
  · have h := h.2 (of_decide_eq_false hc0)
    obtain ⟨q2_1, h⟩ := h
    exact p79_1_2 a b l c ws al n0 j v0 i   hE hc0 q2_1 h

/-- One element sinks to its place. -/
def sink (lt : Int → Int → Bool) : Nat → List Int → List Int
  | 0, l => l
  | d + 1, l => match l[d + 1]?, l[d]? with
    | some e, some e1 => if lt e e1 then sink lt d ((l.set (d + 1) e1).set d e) else l
    | _, _ => l
def sortI (lt : Int → Int → Bool) (l : List Int) : List Int := (List.range (l.length - 1)).foldl (fun l k => sink lt (k + 1) l) l

theorem sink_len {lt : Int → Int → Bool} : ∀ {d : Nat} {l : List Int}, (sink lt d l).length = l.length
  | 0, l => rfl
  | d + 1, l => by
    simp only [sink]
    split
    · split
      · rw [sink_len]; simp
      · rfl
    · rfl

theorem sortI_len {lt : Int → Int → Bool} {l : List Int} : (sortI lt l).length = l.length := by
  have : ∀ (xs : List Nat) (l : List Int), (xs.foldl (fun l k => sink lt (k + 1) l) l).length = l.length := by
    intro xs
    induction xs with
    | nil => intro l; rfl
    | cons x xs ih => intro l; rw [List.foldl_cons, ih, sink_len]
  exact this _ _

theorem swap_mem {l : List Int} {d : Nat} {e e1 x : Int} (h1 : l[d + 1]? = some e) (h2 : l[d]? = some e1) (h : x ∈ (l.set (d + 1) e1).set d e) : x ∈ l := by
  rcases List.mem_or_eq_of_mem_set h with h | rfl
  · rcases List.mem_or_eq_of_mem_set h with h | rfl
    · exact h
    · exact List.mem_of_getElem? h2
  · exact List.mem_of_getElem? h1

theorem sink_mem {lt : Int → Int → Bool} : ∀ {d : Nat} {l : List Int} {x : Int}, x ∈ sink lt d l → x ∈ l
  | 0, l, x, h => h
  | d + 1, l, x, h => by
    simp only [sink] at h
    split at h
    · rename_i e e1 h1 h2
      split at h
      · exact swap_mem h1 h2 (sink_mem h)
      · exact h
    · exact h

def ltI (c : Int) (ws : List Int) (al : Int) (x y : Int) : Bool := decide (lessI c ws al x y < 0)

theorem ins_ok (l : List Int) (c : Int) (ws : List Int) (al : Int) (n0 : Nat) (hk : ∀ x ∈ l, KeyOk c ws al x) (hl : l.length ≤ 1000) :
    Lent Try.prog 79 [.sl 0 n0 0 l.length 1, .int .i64 0, .int .i64 ((l.length : Nat) : Int), .clos 67 [] [.ptr 1 0 0]] [⟨true, n0, 1, true, rowI l, true⟩, ⟨true, 0, 1, false, [.clos 65 [] [.ptr 2 0 0, .ptr 3 0 0, .ptr 4 0 0]], false⟩, ⟨true, 0, 1, true, [.int .i64 c], false⟩, ⟨true, 0, 1, true, [.rsl (rowI ws) 0 ws.length], false⟩, ⟨true, 0, 1, true, [.int .i64 al], false⟩]
      (.tup []) [⟨true, n0, 1, true, rowI (sortI (ltI c ws al) l), true⟩, ⟨true, 0, 1, false, [.clos 65 [] [.ptr 2 0 0, .ptr 3 0 0, .ptr 4 0 0]], false⟩, ⟨true, 0, 1, true, [.int .i64 c], false⟩, ⟨true, 0, 1, true, [.rsl (rowI ws) 0 ws.length], false⟩, ⟨true, 0, 1, true, [.int .i64 al], false⟩] := by
  refine lent_of _ Try.func79 f79b rfl rfl fun E hE => ?_
  have inner : ∀ (d : Nat) (l' : List Int) (j i : Int), j = d → (∀ x ∈ l', KeyOk c ws al x) → d < l'.length → l'.length ≤ 1000 → (0 ≤ i ∧ i ≤ 1000) → f79G0 E 0 ((l.length : Nat) : Int) l c ws al n0 (sink (ltI c ws al) d l') (i + 1) → f79G1 E 0 ((l.length : Nat) : Int) l c ws al n0 j l' i := by
    intro d
    induction d with
    | zero =>
      intro l' j i hj hk hd hl hi hg
      exact f79W1 0 _ l c ws al n0 j l' i (rv := ()) hE ⟨fun h => by omega, fun _ => ⟨by omega, hg⟩⟩
    | succ d ih =>
      intro l' j i hj hk hd hl hi hg
      have h1 : l'[d + 1]? = some l'[d + 1] := List.getElem?_eq_getElem hd
      have h2 : l'[d]? = some l'[d] := List.getElem?_eq_getElem (by omega)
      have e1 : Int.toNat j = d + 1 := by omega
      have e2 : Int.toNat (j - 1) = d := by omega
      have k1 := hk _ (List.mem_of_getElem? h1)
      have k2 := hk _ (List.mem_of_getElem? h2)
      simp only [sink, h1, h2] at hg
      refine f79W1 0 _ l c ws al n0 j l' i (rv := ()) hE ⟨fun _ => ⟨by omega, l'[d + 1], by rw [e1]; exact h1, by omega, by omega, l'[d], by rw [e2]; exact h2, ⟨k2, k1⟩, fun h => ⟨by omega, by omega, by omega, l'[d], ?_, by omega, ?_⟩, fun h => ⟨by omega, ?_⟩⟩, fun h => by omega⟩
      · rw [e1, e2, List.getElem?_set_ne (by omega)]; exact h2
      · rw [e1, e2]
        rw [if_pos (by simp only [ltI]; exact decide_eq_true h)] at hg
        refine ih _ _ i (by omega) (fun x hx => hk x (swap_mem h1 h2 hx)) (by simp; omega) (by simp; omega) hi hg
      · rw [if_neg (by simp only [ltI]; simpa using h)] at hg
        exact hg
  have outer : ∀ (m k : Nat) (l' : List Int), (k + 1) + m = l.length → l' = (List.range k).foldl (fun l k => sink (ltI c ws al) (k + 1) l) l → l'.length = l.length → (∀ x ∈ l', KeyOk c ws al x) → f79G0 E 0 ((l.length : Nat) : Int) l c ws al n0 l' (0 + 1 + k) := by
    intro m
    induction m with
    | zero =>
      intro k l' hkm hl' hlen hk'
      refine f79W0 0 _ l c ws al n0 l' _ (rv := ()) hE ⟨fun h => by omega, fun _ => ?_⟩
      rw [hl', sortI]; congr 2; omega
    | succ m ih =>
      intro k l' hkm hl' hlen hk'
      refine f79W0 0 _ l c ws al n0 l' _ (rv := ()) hE ⟨fun _ => inner (k + 1) l' _ _ (by omega) hk' (by omega) (by omega) (by omega) ?_, fun h => by omega⟩
      have := ih (k + 1) (sink (ltI c ws al) (k + 1) l') (by omega) (by rw [List.range_succ, List.foldl_append, ← hl']; rfl) (by rw [sink_len]; exact hlen) (fun x hx => hk' x (sink_mem hx))
      have e : (0 + 1 + (k : Int) + 1) = 0 + 1 + ((k + 1 : Nat) : Int) := by omega
      rw [e]; exact this
  refine f79W 0 _ l c ws al n0 (rv := ()) hE ⟨by omega, ?_⟩
  by_cases h0 : l.length = 0
  · refine f79W0 0 _ l c ws al n0 l _ (rv := ()) hE ⟨fun h => by omega, fun _ => ?_⟩
    rw [sortI, h0]; rfl
  · exact outer (l.length - 1) 0 l (by omega) rfl rfl hk


theorem ins15_ok (l : List Int) (c : Int) (ws : List Int) (al : Int) (n0 : Nat) (a b : Int) (h : (∀ x ∈ l, KeyOk c ws al x) ∧ l.length ≤ 15 ∧ a = 0 ∧ b = ((l.length : Nat) : Int)) :
    Lent Try.prog 79 [.sl 0 n0 0 l.length 1, .int .i64 a, .int .i64 b, .clos 67 [] [.ptr 1 0 0]] [⟨true, n0, 1, true, rowI l, true⟩, ⟨true, 0, 1, false, [.clos 65 [] [.ptr 2 0 0, .ptr 3 0 0, .ptr 4 0 0]], false⟩, ⟨true, 0, 1, true, [.int .i64 c], false⟩, ⟨true, 0, 1, true, [.rsl (rowI ws) 0 ws.length], false⟩, ⟨true, 0, 1, true, [.int .i64 al], false⟩] (.tup []) [⟨true, n0, 1, true, rowI (sortI (ltI c ws al) l), true⟩, ⟨true, 0, 1, false, [.clos 65 [] [.ptr 2 0 0, .ptr 3 0 0, .ptr 4 0 0]], false⟩, ⟨true, 0, 1, true, [.int .i64 c], false⟩, ⟨true, 0, 1, true, [.rsl (rowI ws) 0 ws.length], false⟩, ⟨true, 0, 1, true, [.int .i64 al], false⟩] := by
  obtain ⟨h1, h2, rfl, rfl⟩ := h
  exact ins_ok l c ws al n0 h1 (by omega)

theorem f75b : Try.f75.body = some (bodyAt Try.prog 75) := by kernel_rfl
def f75K0 (P : Program) : List Item := kAt 400 [.code (bodyAt P 75)] [.stop]
def f75S0 (n : Int) (l : List Int) (c : Int) (ws : List Int) (al : Int) (n0 : Nat) (a : Nat) (b : Nat) (v0 : List Int)  : St := ⟨[.sl 0 n0 0 v0.length 1, .int .i64 n, .clos 67 [] [.ptr 1 0 0], .junk, .junk, .junk, .int .i64 20, .int .i64 ((a : Nat) : Int), .int .i64 ((b : Nat) : Int), .junk, .junk, .junk, .junk, .junk, .junk, .junk, .junk, .junk, .junk, .junk, .junk, .junk, .junk, .junk, .junk, .junk, .junk, .junk, .junk, .junk, .junk, .junk, .junk, .junk, .junk, .junk, .junk, .junk, .junk, .junk, .junk, .junk, .junk, .junk, .junk, .junk, .junk, .junk, .junk, .junk, .junk, .junk, .junk, .junk, .junk, .junk, .junk, .junk, .junk, .junk, .junk, .junk, .junk], [⟨true, n0, 1, true, (rowI v0), true⟩, ⟨true, 0, 1, false, [.clos 65 [] [.ptr 2 0 0, .ptr 3 0 0, .ptr 4 0 0]], false⟩, ⟨true, 0, 1, true, [.int .i64 c], false⟩, ⟨true, 0, 1, true, [.rsl (rowI ws) 0 ws.length], false⟩, ⟨true, 0, 1, true, [.int .i64 al], false⟩]⟩
def f75G0 (E : Env) (n : Int) (l : List Int) (c : Int) (ws : List Int) (al : Int) (n0 : Nat) (a : Nat) (b : Nat) (v0 : List Int) : Prop := G Try.prog E (f75K0 Try.prog) (f75S0 n l c ws al n0 a b v0 )
def f75K1 (P : Program) : List Item := kAt 400 [.code (bodyAt P 75)] [.b false, .stop]
def f75S1 (n : Int) (l : List Int) (c : Int) (ws : List Int) (al : Int) (n0 : Nat) (v0 : List Int) (blockSize : Int)  : St := ⟨[.sl 0 n0 0 v0.length 1, .int .i64 n, .clos 67 [] [.ptr 1 0 0], .junk, .junk, .junk, .int .i64 blockSize, .junk, .junk, .junk, .junk, .junk, .junk, .junk, .junk, .junk, .junk, .junk, .junk, .junk, .junk, .junk, .junk, .junk, .junk, .junk, .junk, .junk, .junk, .junk, .junk, .junk, .junk, .junk, .junk, .junk, .junk, .junk, .junk, .junk, .junk, .junk, .junk, .junk, .junk, .junk, .junk, .junk, .junk, .junk, .junk, .junk, .junk, .junk, .junk, .junk, .junk, .junk, .junk, .junk, .junk, .junk, .junk], [⟨true, n0, 1, true, (rowI v0), true⟩, ⟨true, 0, 1, false, [.clos 65 [] [.ptr 2 0 0, .ptr 3 0 0, .ptr 4 0 0]], false⟩, ⟨true, 0, 1, true, [.int .i64 c], false⟩, ⟨true, 0, 1, true, [.rsl (rowI ws) 0 ws.length], false⟩, ⟨true, 0, 1, true, [.int .i64 al], false⟩]⟩
def f75G1 (E : Env) (n : Int) (l : List Int) (c : Int) (ws : List Int) (al : Int) (n0 : Nat) (v0 : List Int) (blockSize : Int) : Prop := G Try.prog E (f75K1 Try.prog) (f75S1 n l c ws al n0 v0 blockSize )
def f75K2 (P : Program) : List Item := kAt 400 [.code (bodyAt P 75)] [.b false, .b true, .stop]
def f75S2 (n : Int) (l : List Int) (c : Int) (ws : List Int) (al : Int) (n0 : Nat) (v0 : List Int) (blockSize : Int) (b : Int)  : St := ⟨[.sl 0 n0 0 v0.length 1, .int .i64 n, .clos 67 [] [.ptr 1 0 0], .junk, .junk, .junk, .int .i64 blockSize, .int .i64 0, .int .i64 b, .junk, .junk, .junk, .junk, .junk, .junk, .junk, .junk, .junk, .junk, .junk, .junk, .junk, .junk, .junk, .junk, .junk, .junk, .junk, .junk, .junk, .junk, .junk, .junk, .junk, .junk, .junk, .junk, .junk, .junk, .junk, .junk, .junk, .junk, .junk, .junk, .junk, .junk, .junk, .junk, .junk, .junk, .junk, .junk, .junk, .junk, .junk, .junk, .junk, .junk, .junk, .junk, .junk, .junk], [⟨true, n0, 1, true, (rowI v0), true⟩, ⟨true, 0, 1, false, [.clos 65 [] [.ptr 2 0 0, .ptr 3 0 0, .ptr 4 0 0]], false⟩, ⟨true, 0, 1, true, [.int .i64 c], false⟩, ⟨true, 0, 1, true, [.rsl (rowI ws) 0 ws.length], false⟩, ⟨true, 0, 1, true, [.int .i64 al], false⟩]⟩
def f75G2 (E : Env) (n : Int) (l : List Int) (c : Int) (ws : List Int) (al : Int) (n0 : Nat) (v0 : List Int) (blockSize : Int) (b : Int) : Prop := G Try.prog E (f75K2 Try.prog) (f75S2 n l c ws al n0 v0 blockSize b )
theorem p75_start_0 (n : Int) (l : List Int) (c : Int) (ws : List Int) (al : Int) (n0 : Nat)   {E : Env} {rv : AV} {bs2 : List Blk} (hE : LentE Try.prog 75 [.sl 4 0 0 0 1] rv bs2 E) 
    (hg : G Try.prog E (f75K0 Try.prog) ⟨[.sl 0 n0 0 l.length 1, .int .i64 n, .clos 67 [] [.ptr 1 0 0], .junk, .junk, .junk, .int .i64 20, .int .i64 0, .int .i64 20, .junk, .junk, .junk, .junk, .junk, .junk, .junk, .junk, .junk, .junk, .junk, .junk, .junk, .junk, .junk, .junk, .junk, .junk, .junk, .junk, .junk, .junk, .junk, .junk, .junk, .junk, .junk, .junk, .junk, .junk, .junk, .junk, .junk, .junk, .junk, .junk, .junk, .junk, .junk, .junk, .junk, .junk, .junk, .junk, .junk, .junk, .junk, .junk, .junk, .junk, .junk, .junk, .junk, .junk], [⟨true, n0, 1, true, (rowI l), true⟩, ⟨true, 0, 1, false, [.clos 65 [] [.ptr 2 0 0, .ptr 3 0 0, .ptr 4 0 0]], false⟩, ⟨true, 0, 1, true, [.int .i64 c], false⟩, ⟨true, 0, 1, true, [.rsl (rowI ws) 0 ws.length], false⟩, ⟨true, 0, 1, true, [.int .i64 al], false⟩]⟩) : G Try.prog E [.code (bodyAt Try.prog 75)] ⟨[.sl 0 n0 0 l.length 1, .int .i64 n, .clos 67 [] [.ptr 1 0 0]] ++ unds (Try.f75.ntmps - 3), [⟨true, n0, 1, true, (rowI l), true⟩, ⟨true, 0, 1, false, [.clos 65 [] [.ptr 2 0 0, .ptr 3 0 0, .ptr 4 0 0]], false⟩, ⟨true, 0, 1, true, [.int .i64 c], false⟩, ⟨true, 0, 1, true, [.rsl (rowI ws) 0 ws.length], false⟩, ⟨true, 0, 1, true, [.int .i64 al], false⟩]⟩ :=
  segC_step (n := 400) (ds := []) (cs := []) (live := [0, 1, 2, 6, 7, 8]) (m := 5) (evs := [.stop]) (obs := []) hE.kind (hE.nogh (by kernel_rfl)) mixed (by kernel_rfl) trivial hg
theorem f75W (n : Int) (l : List Int) (c : Int) (ws : List Int) (al : Int) (n0 : Nat) {E : Env} {rv : Unit} {lo : List Int} (hE : LentE Try.prog 75 [.sl 4 0 0 0 1] (.tup []) [⟨true, n0, 1, true, (rowI lo), true⟩, ⟨true, 0, 1, false, [.clos 65 [] [.ptr 2 0 0, .ptr 3 0 0, .ptr 4 0 0]], false⟩, ⟨true, 0, 1, true, [.int .i64 c], false⟩, ⟨true, 0, 1, true, [.rsl (rowI ws) 0 ws.length], false⟩, ⟨true, 0, 1, true, [.int .i64 al], false⟩] E)
    (h : f75G0 E n l c ws al n0 0 20 l) : G Try.prog E [.code (bodyAt Try.prog 75)] ⟨[.sl 0 n0 0 l.length 1, .int .i64 n, .clos 67 [] [.ptr 1 0 0]] ++ unds (Try.f75.ntmps - 3), [⟨true, n0, 1, true, (rowI l), true⟩, ⟨true, 0, 1, false, [.clos 65 [] [.ptr 2 0 0, .ptr 3 0 0, .ptr 4 0 0]], false⟩, ⟨true, 0, 1, true, [.int .i64 c], false⟩, ⟨true, 0, 1, true, [.rsl (rowI ws) 0 ws.length], false⟩, ⟨true, 0, 1, true, [.int .i64 al], false⟩]⟩ := by
  exact p75_start_0 n l c ws al n0    hE  h
theorem p75_0_0 (n : Int) (l : List Int) (c : Int) (ws : List Int) (al : Int) (n0 : Nat) (a : Nat) (b : Nat) (v0 : List Int)   {E : Env} {rv : AV} {bs2 : List Blk} (hE : LentE Try.prog 75 [.sl 4 0 0 0 1] rv bs2 E) (o0 : (decide (((b : Nat) : Int) ≤ n)) = true) (o1 : LentF Try.prog (.clos 79 [] []) [.sl 0 n0 0 v0.length 1, .int .i64 ((a : Nat) : Int), .int .i64 ((b : Nat) : Int), .clos 67 [] [.ptr 1 0 0]] [⟨true, n0, 1, true, (rowI v0), true⟩, ⟨true, 0, 1, false, [.clos 65 [] [.ptr 2 0 0, .ptr 3 0 0, .ptr 4 0 0]], false⟩, ⟨true, 0, 1, true, [.int .i64 c], false⟩, ⟨true, 0, 1, true, [.rsl (rowI ws) 0 ws.length], false⟩, ⟨true, 0, 1, true, [.int .i64 al], false⟩] (.tup []) [⟨true, n0, 1, true, (rowI (sortI (ltI c ws al) v0)), true⟩, ⟨true, 0, 1, false, [.clos 65 [] [.ptr 2 0 0, .ptr 3 0 0, .ptr 4 0 0]], false⟩, ⟨true, 0, 1, true, [.int .i64 c], false⟩, ⟨true, 0, 1, true, [.rsl (rowI ws) 0 ws.length], false⟩, ⟨true, 0, 1, true, [.int .i64 al], false⟩]) (o2 : InR .i64 (((b : Nat) : Int) + 20))
    (hg : G Try.prog E (f75K0 Try.prog) ⟨[.sl 0 n0 0 v0.length 1, .int .i64 n, .clos 67 [] [.ptr 1 0 0], .junk, .junk, .junk, .int .i64 20, .int .i64 ((b : Nat) : Int), .int .i64 (((b : Nat) : Int) + 20), .junk, .junk, .junk, .junk, .junk, .junk, .junk, .junk, .junk, .junk, .junk, .junk, .junk, .junk, .junk, .junk, .junk, .junk, .junk, .junk, .junk, .junk, .junk, .junk, .junk, .junk, .junk, .junk, .junk, .junk, .junk, .junk, .junk, .junk, .junk, .junk, .junk, .junk, .junk, .junk, .junk, .junk, .junk, .junk, .junk, .junk, .junk, .junk, .junk, .junk, .junk, .junk, .junk, .junk], [⟨true, n0, 1, true, (rowI (sortI (ltI c ws al) v0)), true⟩, ⟨true, 0, 1, false, [.clos 65 [] [.ptr 2 0 0, .ptr 3 0 0, .ptr 4 0 0]], false⟩, ⟨true, 0, 1, true, [.int .i64 c], false⟩, ⟨true, 0, 1, true, [.rsl (rowI ws) 0 ws.length], false⟩, ⟨true, 0, 1, true, [.int .i64 al], false⟩]⟩) : G Try.prog E (f75K0 Try.prog) (f75S0 n l c ws al n0 a b v0 ) :=
  segC_step (n := 400) (ds := []) (cs := []) (live := [0, 1, 2, 6, 7, 8]) (m := 5) (evs := [.b true, .lent [0, 1, 2, 3, 4] (.tup []) [⟨true, n0, 1, true, (rowI (sortI (ltI c ws al) v0)), true⟩, ⟨true, 0, 1, false, [.clos 65 [] [.ptr 2 0 0, .ptr 3 0 0, .ptr 4 0 0]], false⟩, ⟨true, 0, 1, true, [.int .i64 c], false⟩, ⟨true, 0, 1, true, [.rsl (rowI ws) 0 ws.length], false⟩, ⟨true, 0, 1, true, [.int .i64 al], false⟩], .stop]) (obs := [(decide (((b : Nat) : Int) ≤ n)) = true, LentF Try.prog (.clos 79 [] []) [.sl 0 n0 0 v0.length 1, .int .i64 ((a : Nat) : Int), .int .i64 ((b : Nat) : Int), .clos 67 [] [.ptr 1 0 0]] [⟨true, n0, 1, true, (rowI v0), true⟩, ⟨true, 0, 1, false, [.clos 65 [] [.ptr 2 0 0, .ptr 3 0 0, .ptr 4 0 0]], false⟩, ⟨true, 0, 1, true, [.int .i64 c], false⟩, ⟨true, 0, 1, true, [.rsl (rowI ws) 0 ws.length], false⟩, ⟨true, 0, 1, true, [.int .i64 al], false⟩] (.tup []) [⟨true, n0, 1, true, (rowI (sortI (ltI c ws al) v0)), true⟩, ⟨true, 0, 1, false, [.clos 65 [] [.ptr 2 0 0, .ptr 3 0 0, .ptr 4 0 0]], false⟩, ⟨true, 0, 1, true, [.int .i64 c], false⟩, ⟨true, 0, 1, true, [.rsl (rowI ws) 0 ws.length], false⟩, ⟨true, 0, 1, true, [.int .i64 al], false⟩], InR .i64 (((b : Nat) : Int) + 20)]) hE.kind (hE.nogh (by kernel_rfl)) mixed (by kernel_rfl) ⟨o0, o1, o2, trivial⟩ hg
theorem p75_0_1 (n : Int) (l : List Int) (c : Int) (ws : List Int) (al : Int) (n0 : Nat) (a : Nat) (b : Nat) (v0 : List Int)   {E : Env} {rv : AV} {bs2 : List Blk} (hE : LentE Try.prog 75 [.sl 4 0 0 0 1] rv bs2 E) (o0 : (decide (((b : Nat) : Int) ≤ n)) = false) (o1 : LentF Try.prog (.clos 79 [] []) [.sl 0 n0 0 v0.length 1, .int .i64 ((a : Nat) : Int), .int .i64 n, .clos 67 [] [.ptr 1 0 0]] [⟨true, n0, 1, true, (rowI v0), true⟩, ⟨true, 0, 1, false, [.clos 65 [] [.ptr 2 0 0, .ptr 3 0 0, .ptr 4 0 0]], false⟩, ⟨true, 0, 1, true, [.int .i64 c], false⟩, ⟨true, 0, 1, true, [.rsl (rowI ws) 0 ws.length], false⟩, ⟨true, 0, 1, true, [.int .i64 al], false⟩] (.tup []) [⟨true, n0, 1, true, (rowI (sortI (ltI c ws al) v0)), true⟩, ⟨true, 0, 1, false, [.clos 65 [] [.ptr 2 0 0, .ptr 3 0 0, .ptr 4 0 0]], false⟩, ⟨true, 0, 1, true, [.int .i64 c], false⟩, ⟨true, 0, 1, true, [.rsl (rowI ws) 0 ws.length], false⟩, ⟨true, 0, 1, true, [.int .i64 al], false⟩])
    (hg : G Try.prog E (f75K1 Try.prog) ⟨[.sl 0 n0 0 v0.length 1, .int .i64 n, .clos 67 [] [.ptr 1 0 0], .junk, .junk, .junk, .int .i64 20, .junk, .junk, .junk, .junk, .junk, .junk, .junk, .junk, .junk, .junk, .junk, .junk, .junk, .junk, .junk, .junk, .junk, .junk, .junk, .junk, .junk, .junk, .junk, .junk, .junk, .junk, .junk, .junk, .junk, .junk, .junk, .junk, .junk, .junk, .junk, .junk, .junk, .junk, .junk, .junk, .junk, .junk, .junk, .junk, .junk, .junk, .junk, .junk, .junk, .junk, .junk, .junk, .junk, .junk, .junk, .junk], [⟨true, n0, 1, true, (rowI (sortI (ltI c ws al) v0)), true⟩, ⟨true, 0, 1, false, [.clos 65 [] [.ptr 2 0 0, .ptr 3 0 0, .ptr 4 0 0]], false⟩, ⟨true, 0, 1, true, [.int .i64 c], false⟩, ⟨true, 0, 1, true, [.rsl (rowI ws) 0 ws.length], false⟩, ⟨true, 0, 1, true, [.int .i64 al], false⟩]⟩) : G Try.prog E (f75K0 Try.prog) (f75S0 n l c ws al n0 a b v0 ) :=
  segC_step (n := 400) (ds := []) (cs := []) (live := [0, 1, 2, 6]) (m := 5) (evs := [.b false, .lent [0, 1, 2, 3, 4] (.tup []) [⟨true, n0, 1, true, (rowI (sortI (ltI c ws al) v0)), true⟩, ⟨true, 0, 1, false, [.clos 65 [] [.ptr 2 0 0, .ptr 3 0 0, .ptr 4 0 0]], false⟩, ⟨true, 0, 1, true, [.int .i64 c], false⟩, ⟨true, 0, 1, true, [.rsl (rowI ws) 0 ws.length], false⟩, ⟨true, 0, 1, true, [.int .i64 al], false⟩], .stop]) (obs := [(decide (((b : Nat) : Int) ≤ n)) = false, LentF Try.prog (.clos 79 [] []) [.sl 0 n0 0 v0.length 1, .int .i64 ((a : Nat) : Int), .int .i64 n, .clos 67 [] [.ptr 1 0 0]] [⟨true, n0, 1, true, (rowI v0), true⟩, ⟨true, 0, 1, false, [.clos 65 [] [.ptr 2 0 0, .ptr 3 0 0, .ptr 4 0 0]], false⟩, ⟨true, 0, 1, true, [.int .i64 c], false⟩, ⟨true, 0, 1, true, [.rsl (rowI ws) 0 ws.length], false⟩, ⟨true, 0, 1, true, [.int .i64 al], false⟩] (.tup []) [⟨true, n0, 1, true, (rowI (sortI (ltI c ws al) v0)), true⟩, ⟨true, 0, 1, false, [.clos 65 [] [.ptr 2 0 0, .ptr 3 0 0, .ptr 4 0 0]], false⟩, ⟨true, 0, 1, true, [.int .i64 c], false⟩, ⟨true, 0, 1, true, [.rsl (rowI ws) 0 ws.length], false⟩, ⟨true, 0, 1, true, [.int .i64 al], false⟩]]) hE.kind (hE.nogh (by kernel_rfl)) mixed (by kernel_rfl) ⟨o0, o1, trivial⟩ hg
theorem f75W0 (n : Int) (l : List Int) (c : Int) (ws : List Int) (al : Int) (n0 : Nat) (a : Nat) (b : Nat) (v0 : List Int) {E : Env} {rv : Unit} {lo : List Int} (hE : LentE Try.prog 75 [.sl 4 0 0 0 1] (.tup []) [⟨true, n0, 1, true, (rowI lo), true⟩, ⟨true, 0, 1, false, [.clos 65 [] [.ptr 2 0 0, .ptr 3 0 0, .ptr 4 0 0]], false⟩, ⟨true, 0, 1, true, [.int .i64 c], false⟩, ⟨true, 0, 1, true, [.rsl (rowI ws) 0 ws.length], false⟩, ⟨true, 0, 1, true, [.int .i64 al], false⟩] E)
    (h : ((((b : Nat) : Int) ≤ n → (((∀ x ∈ v0, KeyOk c ws al x) ∧ v0.length ≤ 15 ∧ ((a : Nat) : Int) = 0 ∧ ((b : Nat) : Int) = ((v0.length : Nat) : Int)) ∧ ((-9223372036854775808 ≤ ((b : Nat) : Int) + 20 ∧ ((b : Nat) : Int) + 20 ≤ 9223372036854775807) ∧ f75G0 E n l c ws al n0 b (b + 20) (sortI (ltI c ws al) v0)))) ∧ (¬ (((b : Nat) : Int) ≤ n) → (((∀ x ∈ v0, KeyOk c ws al x) ∧ v0.length ≤ 15 ∧ ((a : Nat) : Int) = 0 ∧ n = ((v0.length : Nat) : Int)) ∧ f75G1 E n l c ws al n0 (sortI (ltI c ws al) v0) 20)))) : f75G0 E n l c ws al n0 a b v0 := by
  rcases Bool.eq_false_or_eq_true (decide (((b : Nat) : Int) ≤ n)) with hc0 | hc0
  · have h := h.1 (of_decide_eq_true hc0)
    obtain ⟨h1, h⟩ := h
    obtain ⟨q2_1, h⟩ := h
    refine p75_0_0 n l c ws al n0 a b v0   hE hc0 (lentF_of Try.func79 (by kernel_rfl) f79b (ins15_ok v0 c ws al n0 ((a : Nat) : Int) ((b : Nat) : Int) h1)) q2_1 ?_
    have h := h
    simp only [f75G0, f75S0, List.length_set, sortI_len] at h
    skip
    exact h
  · have h := h.2 (of_decide_eq_false hc0)
    obtain ⟨h1, h⟩ := h
    refine p75_0_1 n l c ws al n0 a b v0   hE hc0 (lentF_of Try.func79 (by kernel_rfl) f79b (ins15_ok v0 c ws al n0 ((a : Nat) : Int) n h1)) ?_
    have h := h
    simp only [f75G1, f75S1, List.length_set, sortI_len] at h
    skip
    exact h
theorem p75_1_0 (n : Int) (l : List Int) (c : Int) (ws : List Int) (al : Int) (n0 : Nat) (v0 : List Int) (blockSize : Int)   {E : Env} {rv : AV} {bs2 : List Blk} (hE : LentE Try.prog 75 [.sl 4 0 0 0 1] rv bs2 E) (o0 : (decide (blockSize < n)) = true) (o1 : InR .i64 (2 * blockSize))
    (hg : G Try.prog E (f75K2 Try.prog) ⟨[.sl 0 n0 0 v0.length 1, .int .i64 n, .clos 67 [] [.ptr 1 0 0], .junk, .junk, .junk, .int .i64 blockSize, .int .i64 0, .int .i64 (2 * blockSize), .junk, .junk, .junk, .junk, .junk, .junk, .junk, .junk, .junk, .junk, .junk, .junk, .junk, .junk, .junk, .junk, .junk, .junk, .junk, .junk, .junk, .junk, .junk, .junk, .junk, .junk, .junk, .junk, .junk, .junk, .junk, .junk, .junk, .junk, .junk, .junk, .junk, .junk, .junk, .junk, .junk, .junk, .junk, .junk, .junk, .junk, .junk, .junk, .junk, .junk, .junk, .junk, .junk, .junk], [⟨true, n0, 1, true, (rowI v0), true⟩, ⟨true, 0, 1, false, [.clos 65 [] [.ptr 2 0 0, .ptr 3 0 0, .ptr 4 0 0]], false⟩, ⟨true, 0, 1, true, [.int .i64 c], false⟩, ⟨true, 0, 1, true, [.rsl (rowI ws) 0 ws.length], false⟩, ⟨true, 0, 1, true, [.int .i64 al], false⟩]⟩) : G Try.prog E (f75K1 Try.prog) (f75S1 n l c ws al n0 v0 blockSize ) :=
  segC_step (n := 400) (ds := []) (cs := []) (live := [0, 1, 2, 6, 7, 8]) (m := 5) (evs := [.b true, .stop]) (obs := [(decide (blockSize < n)) = true, InR .i64 (2 * blockSize)]) hE.kind (hE.nogh (by kernel_rfl)) mixed (by kernel_rfl) ⟨o0, o1, trivial⟩ hg
theorem p75_1_1 (n : Int) (l : List Int) (c : Int) (ws : List Int) (al : Int) (n0 : Nat) (v0 : List Int) (blockSize : Int)   {E : Env} {res : AV} {bs2 : List Blk} (hE : LentE Try.prog 75 [.sl 4 0 0 0 1] res bs2 E) (o0 : (decide (blockSize < n)) = false)
    (hr : (.tup []) = res) (hb : [⟨true, n0, 1, true, (rowI v0), true⟩, ⟨true, 0, 1, false, [.clos 65 [] [.ptr 2 0 0, .ptr 3 0 0, .ptr 4 0 0]], false⟩, ⟨true, 0, 1, true, [.int .i64 c], false⟩, ⟨true, 0, 1, true, [.rsl (rowI ws) 0 ws.length], false⟩, ⟨true, 0, 1, true, [.int .i64 al], false⟩] = bs2) : G Try.prog E (f75K1 Try.prog) (f75S1 n l c ws al n0 v0 blockSize ) :=
  endB_step (n := 400) (live := []) (m := 5) (evs := [.b false]) (obs := [(decide (blockSize < n)) = false]) hE (hE.nogh (by kernel_rfl)) Try.func75 mixed (by kernel_rfl) ⟨o0, trivial⟩ hr hb
theorem f75W1 (n : Int) (l : List Int) (c : Int) (ws : List Int) (al : Int) (n0 : Nat) (v0 : List Int) (blockSize : Int) {E : Env} {rv : Unit} {lo : List Int} (hE : LentE Try.prog 75 [.sl 4 0 0 0 1] (.tup []) [⟨true, n0, 1, true, (rowI lo), true⟩, ⟨true, 0, 1, false, [.clos 65 [] [.ptr 2 0 0, .ptr 3 0 0, .ptr 4 0 0]], false⟩, ⟨true, 0, 1, true, [.int .i64 c], false⟩, ⟨true, 0, 1, true, [.rsl (rowI ws) 0 ws.length], false⟩, ⟨true, 0, 1, true, [.int .i64 al], false⟩] E)
    (h : ((blockSize < n → ((-9223372036854775808 ≤ 2 * blockSize ∧ 2 * blockSize ≤ 9223372036854775807) ∧ f75G2 E n l c ws al n0 v0 blockSize (2 * blockSize))) ∧ (¬ (blockSize < n) → lo = v0))) : f75G1 E n l c ws al n0 v0 blockSize := by
  rcases Bool.eq_false_or_eq_true (decide (blockSize < n)) with hc0 | hc0
  · have h := h.1 (of_decide_eq_true hc0)
    obtain ⟨q1_1, h⟩ := h
    exact p75_1_0 n l c ws al n0 v0 blockSize   hE hc0 q1_1 h
  · have h := h.2 (of_decide_eq_false hc0)
    have e0 := h
    exact p75_1_1 n l c ws al n0 v0 blockSize   hE hc0 (by try rfl) (by rw [e0]; try rfl)
theorem stable_ok (l : List Int) (c : Int) (ws : List Int) (al : Int) (n0 : Nat) (n : Int) (h : (∀ x ∈ l, KeyOk c ws al x) ∧ l.length ≤ 15 ∧ n = ((l.length : Nat) : Int)) :
    Lent Try.prog 75 [.sl 0 n0 0 l.length 1, .int .i64 n, .clos 67 [] [.ptr 1 0 0]] [⟨true, n0, 1, true, rowI l, true⟩, ⟨true, 0, 1, false, [.clos 65 [] [.ptr 2 0 0, .ptr 3 0 0, .ptr 4 0 0]], false⟩, ⟨true, 0, 1, true, [.int .i64 c], false⟩, ⟨true, 0, 1, true, [.rsl (rowI ws) 0 ws.length], false⟩, ⟨true, 0, 1, true, [.int .i64 al], false⟩] (.tup []) [⟨true, n0, 1, true, rowI (sortI (ltI c ws al) l), true⟩, ⟨true, 0, 1, false, [.clos 65 [] [.ptr 2 0 0, .ptr 3 0 0, .ptr 4 0 0]], false⟩, ⟨true, 0, 1, true, [.int .i64 c], false⟩, ⟨true, 0, 1, true, [.rsl (rowI ws) 0 ws.length], false⟩, ⟨true, 0, 1, true, [.int .i64 al], false⟩] := by
  obtain ⟨h1, h2, rfl⟩ := h
  refine lent_of _ Try.func75 f75b rfl rfl fun E hE => ?_
  refine f75W _ l c ws al n0 (rv := ()) hE ?_
  refine f75W0 _ l c ws al n0 _ _ _ (rv := ()) hE ⟨fun h => by omega, fun _ => ⟨⟨h1, h2, rfl, rfl⟩, ?_⟩⟩
  exact f75W1 _ l c ws al n0 _ _ (rv := ()) hE ⟨fun h => by omega, fun _ => rfl⟩

theorem f66b : Try.f66.body = some (bodyAt Try.prog 66) := by kernel_rfl
theorem p66_start_0  (l : List Int) (c : Int) (ws : List Int) (al : Int) (n0 : Nat)   {E : Env} {res : AV} {bs2 : List Blk} (hE : LentE Try.prog 66 [.sl 4 0 0 0 1] res bs2 E) (o1 : LentF Try.prog (.clos 75 [] []) [.sl 0 n0 0 l.length 1, .int .i64 ((l.length : Nat) : Int), .clos 67 [] [.ptr 1 0 0]] [⟨true, n0, 1, true, (rowI l), true⟩, ⟨true, 0, 1, false, [.clos 65 [] [.ptr 2 0 0, .ptr 3 0 0, .ptr 4 0 0]], false⟩, ⟨true, 0, 1, true, [.int .i64 c], false⟩, ⟨true, 0, 1, true, [.rsl (rowI ws) 0 ws.length], false⟩, ⟨true, 0, 1, true, [.int .i64 al], false⟩] (.tup []) [⟨true, n0, 1, true, (rowI (sortI (ltI c ws al) l)), true⟩, ⟨true, 0, 1, false, [.clos 65 [] [.ptr 2 0 0, .ptr 3 0 0, .ptr 4 0 0]], false⟩, ⟨true, 0, 1, true, [.int .i64 c], false⟩, ⟨true, 0, 1, true, [.rsl (rowI ws) 0 ws.length], false⟩, ⟨true, 0, 1, true, [.int .i64 al], false⟩])
    (hr : (.tup []) = res) (hb : [⟨true, n0, 1, true, (rowI (sortI (ltI c ws al) l)), true⟩, ⟨true, 0, 1, false, [.clos 65 [] [.ptr 2 0 0, .ptr 3 0 0, .ptr 4 0 0]], false⟩, ⟨true, 0, 1, true, [.int .i64 c], false⟩, ⟨true, 0, 1, true, [.rsl (rowI ws) 0 ws.length], false⟩, ⟨true, 0, 1, true, [.int .i64 al], false⟩] = bs2) : G Try.prog E [.code (bodyAt Try.prog 66)] ⟨[.sl 0 n0 0 l.length 1, .clos 67 [] [.ptr 1 0 0]] ++ unds (Try.f66.ntmps - 2), [⟨true, n0, 1, true, (rowI l), true⟩, ⟨true, 0, 1, false, [.clos 65 [] [.ptr 2 0 0, .ptr 3 0 0, .ptr 4 0 0]], false⟩, ⟨true, 0, 1, true, [.int .i64 c], false⟩, ⟨true, 0, 1, true, [.rsl (rowI ws) 0 ws.length], false⟩, ⟨true, 0, 1, true, [.int .i64 al], false⟩]⟩ :=
  endB_step (n := 400) (live := []) (m := 5) (evs := [.lent [0, 1, 2, 3, 4] (.tup []) [⟨true, n0, 1, true, (rowI (sortI (ltI c ws al) l)), true⟩, ⟨true, 0, 1, false, [.clos 65 [] [.ptr 2 0 0, .ptr 3 0 0, .ptr 4 0 0]], false⟩, ⟨true, 0, 1, true, [.int .i64 c], false⟩, ⟨true, 0, 1, true, [.rsl (rowI ws) 0 ws.length], false⟩, ⟨true, 0, 1, true, [.int .i64 al], false⟩]]) (obs := [n0 = n0, LentF Try.prog (.clos 75 [] []) [.sl 0 n0 0 l.length 1, .int .i64 ((l.length : Nat) : Int), .clos 67 [] [.ptr 1 0 0]] [⟨true, n0, 1, true, (rowI l), true⟩, ⟨true, 0, 1, false, [.clos 65 [] [.ptr 2 0 0, .ptr 3 0 0, .ptr 4 0 0]], false⟩, ⟨true, 0, 1, true, [.int .i64 c], false⟩, ⟨true, 0, 1, true, [.rsl (rowI ws) 0 ws.length], false⟩, ⟨true, 0, 1, true, [.int .i64 al], false⟩] (.tup []) [⟨true, n0, 1, true, (rowI (sortI (ltI c ws al) l)), true⟩, ⟨true, 0, 1, false, [.clos 65 [] [.ptr 2 0 0, .ptr 3 0 0, .ptr 4 0 0]], false⟩, ⟨true, 0, 1, true, [.int .i64 c], false⟩, ⟨true, 0, 1, true, [.rsl (rowI ws) 0 ws.length], false⟩, ⟨true, 0, 1, true, [.int .i64 al], false⟩]]) hE (hE.nogh (by kernel_rfl)) Try.func66 mixed (by kernel_rfl) ⟨(rfl), o1, trivial⟩ hr hb
theorem f66W  (l : List Int) (c : Int) (ws : List Int) (al : Int) (n0 : Nat) {E : Env} {rv : Unit} {lo : List Int} (hE : LentE Try.prog 66 [.sl 4 0 0 0 1] (.tup []) [⟨true, n0, 1, true, (rowI lo), true⟩, ⟨true, 0, 1, false, [.clos 65 [] [.ptr 2 0 0, .ptr 3 0 0, .ptr 4 0 0]], false⟩, ⟨true, 0, 1, true, [.int .i64 c], false⟩, ⟨true, 0, 1, true, [.rsl (rowI ws) 0 ws.length], false⟩, ⟨true, 0, 1, true, [.int .i64 al], false⟩] E)
    (h : (((∀ x ∈ l, KeyOk c ws al x) ∧ l.length ≤ 15 ∧ ((l.length : Nat) : Int) = ((l.length : Nat) : Int)) ∧ lo = (sortI (ltI c ws al) l))) : G Try.prog E [.code (bodyAt Try.prog 66)] ⟨[.sl 0 n0 0 l.length 1, .clos 67 [] [.ptr 1 0 0]] ++ unds (Try.f66.ntmps - 2), [⟨true, n0, 1, true, (rowI l), true⟩, ⟨true, 0, 1, false, [.clos 65 [] [.ptr 2 0 0, .ptr 3 0 0, .ptr 4 0 0]], false⟩, ⟨true, 0, 1, true, [.int .i64 c], false⟩, ⟨true, 0, 1, true, [.rsl (rowI ws) 0 ws.length], false⟩, ⟨true, 0, 1, true, [.int .i64 al], false⟩]⟩ := by
  obtain ⟨h1, h⟩ := h
  have e0 := h
  exact p66_start_0 l c ws al n0    hE (lentF_of Try.func75 (by kernel_rfl) f75b (stable_ok l c ws al n0 ((l.length : Nat) : Int) h1)) (by try rfl) (by rw [e0]; try rfl)

theorem sort_ok (l : List Int) (c : Int) (ws : List Int) (al : Int) (n0 : Nat) (h : (∀ x ∈ l, KeyOk c ws al x) ∧ l.length ≤ 15) :
    Lent Try.prog 66 [.sl 0 n0 0 l.length 1, .clos 67 [] [.ptr 1 0 0]] [⟨true, n0, 1, true, rowI l, true⟩, ⟨true, 0, 1, false, [.clos 65 [] [.ptr 2 0 0, .ptr 3 0 0, .ptr 4 0 0]], false⟩, ⟨true, 0, 1, true, [.int .i64 c], false⟩, ⟨true, 0, 1, true, [.rsl (rowI ws) 0 ws.length], false⟩, ⟨true, 0, 1, true, [.int .i64 al], false⟩] (.tup []) [⟨true, n0, 1, true, rowI (sortI (ltI c ws al) l), true⟩, ⟨true, 0, 1, false, [.clos 65 [] [.ptr 2 0 0, .ptr 3 0 0, .ptr 4 0 0]], false⟩, ⟨true, 0, 1, true, [.int .i64 c], false⟩, ⟨true, 0, 1, true, [.rsl (rowI ws) 0 ws.length], false⟩, ⟨true, 0, 1, true, [.int .i64 al], false⟩] := by
  refine lent_of _ Try.func66 f66b rfl rfl fun E hE => ?_
  exact f66W l c ws al n0 (rv := ()) hE ⟨⟨h.1, h.2, rfl⟩, rfl⟩

end Go.Proofs.Ytmdbebbibecidaa

namespace Go.Proofs.Ytmdbebbibecidaa
open Go Ax
open Go.Proofs
theorem f50b : Try.f50.body = some (bodyAt Try.prog 50) := by kernel_rfl
def f50K0 (P : Program) : List Item := kAt 400 [.code (bodyAt P 50)] [.stop]
def f50S0 (l : (List Int)) (n : Int) (i : Nat)  : St := ⟨[.junk, .junk, .int .i64 n, .junk, .junk, .rsl (rowI l) 0 l.length, .int .i64 ((l.length : Nat) : Int), .int .i64 ((i : Nat) : Int), .junk, .junk, .junk, .junk, .junk, .junk, .junk, .junk], []⟩
def f50G0 (E : Env) (l : (List Int)) (n : Int) (i : Nat) : Prop := G Try.prog E (f50K0 Try.prog) (f50S0 l n i )
theorem p50_start_0 (l : (List Int))   {E : Env} {rv : AV} (hE : PureE Try.prog 50 rv E) 
    (hg : G Try.prog E (f50K0 Try.prog) ⟨[.junk, .junk, .int .i64 0, .junk, .junk, .rsl (rowI l) 0 l.length, .int .i64 ((l.length : Nat) : Int), .int .i64 0, .junk, .junk, .junk, .junk, .junk, .junk, .junk, .junk], []⟩) : G Try.prog E [.code (bodyAt Try.prog 50)] ⟨[.rsl (rowI l) 0 l.length] ++ unds (Try.f50.ntmps - 1), []⟩ :=
  segC_step (n := 400) (ds := []) (cs := []) (live := [2, 5, 6, 7]) (m := 0) (evs := [.stop]) (obs := []) hE.2.1 (hE.nogh _) mixed (by kernel_rfl) trivial hg
theorem f50W (l : (List Int)) {E : Env} {rv : Int} (hE : PureE Try.prog 50 (.int .i64 rv) E)
    (h : f50G0 E l 0 0) : G Try.prog E [.code (bodyAt Try.prog 50)] ⟨[.rsl (rowI l) 0 l.length] ++ unds (Try.f50.ntmps - 1), []⟩ := by
  exact p50_start_0 l    hE  h
theorem p50_0_0 (l : (List Int)) (n : Int) (i : Nat)  (e : Int)  {E : Env} {rv : AV} (hE : PureE Try.prog 50 rv E) (o0 : (decide (((i : Nat) : Int) < ((l.length : Nat) : Int))) = true) (o2 : 0 ≤ ((i : Nat) : Int) ∧ ((i : Nat) : Int) < ((l.length : Nat) : Int)) (o3 : ((rowI l).drop (0 + (Int.toNat ((i : Nat) : Int)) * 1)).take 1 = [.int .i64 e]) (o4 : InR .i64 (n + e)) (o5 : InR .i64 (((i : Nat) : Int) + 1))
    (hg : G Try.prog E (f50K0 Try.prog) ⟨[.junk, .junk, .int .i64 (n + e), .junk, .junk, .rsl (rowI l) 0 l.length, .int .i64 ((l.length : Nat) : Int), .int .i64 (((i : Nat) : Int) + 1), .junk, .junk, .junk, .junk, .junk, .junk, .junk, .junk], []⟩) : G Try.prog E (f50K0 Try.prog) (f50S0 l n i ) :=
  segC_step (n := 400) (ds := []) (cs := []) (live := [2, 5, 6, 7]) (m := 0) (evs := [.b true, .ld (.int .i64 e), .stop]) (obs := [(decide (((i : Nat) : Int) < ((l.length : Nat) : Int))) = true, 0 ≤ ((i : Nat) : Int) ∧ ((i : Nat) : Int) < ((l.length : Nat) : Int), ((rowI l).drop (0 + (Int.toNat ((i : Nat) : Int)) * 1)).take 1 = [.int .i64 e], InR .i64 (n + e), InR .i64 (((i : Nat) : Int) + 1)]) hE.2.1 (hE.nogh _) mixed (by kernel_rfl) ⟨o0, o2, o3, o4, o5, trivial⟩ hg
theorem p50_0_1 (l : (List Int)) (n : Int) (i : Nat)   {E : Env} {res : AV} (hE : PureE Try.prog 50 res E) (o0 : (decide (((i : Nat) : Int) < ((l.length : Nat) : Int))) = false)
    (hr : AvLe (.int .i64 n) res) : G Try.prog E (f50K0 Try.prog) (f50S0 l n i ) :=
  end_stepL (n := 400) (evs := [.b false]) (obs := [(decide (((i : Nat) : Int) < ((l.length : Nat) : Int))) = false]) hE Try.func50 mixed (by kernel_rfl) ⟨o0, trivial⟩ hr
theorem f50W0 (l : (List Int)) (n : Int) (i : Nat) {E : Env} {rv : Int} (hE : PureE Try.prog 50 (.int .i64 rv) E)
    (h : ((((i : Nat) : Int) < ((l.length : Nat) : Int) → (∃ e : Int, l[i]? = some e ∧ ((-9223372036854775808 ≤ n + e ∧ n + e ≤ 9223372036854775807) ∧ ((-9223372036854775808 ≤ ((i : Nat) : Int) + 1 ∧ ((i : Nat) : Int) + 1 ≤ 9223372036854775807) ∧ f50G0 E l (n + e) (i + 1))))) ∧ (¬ (((i : Nat) : Int) < ((l.length : Nat) : Int)) → rv = n))) : f50G0 E l n i := by
  rcases Bool.eq_false_or_eq_true (decide (((i : Nat) : Int) < ((l.length : Nat) : Int))) with hc0 | hc0
  · have h := h.1 (of_decide_eq_true hc0)
    obtain ⟨e, h1, h⟩ := h
    obtain ⟨q4_1, h⟩ := h
    obtain ⟨q5_1, h⟩ := h
    exact p50_0_0 l n i  e hE hc0 (idx_ok h1) (row_part cI (s := 1) (k := 0) (m := 1) (fun _ => rfl) (by decide) h1) q4_1 q5_1 h
  · have h := h.2 (of_decide_eq_false hc0)
    exact p50_0_1 l n i   hE hc0 (AvLe.of_eq (by rw [h]; try rfl))
theorem f21b : Try.f21.body = some (bodyAt Try.prog 21) := by kernel_rfl
def f21K0 (P : Program) : List Item := kAt 400 [.code (bodyAt P 21)] [.stop]
def f21S0 (l : (List Int)) (n : Int) (i : Nat)  : St := ⟨[.rsl (rowI l) 0 l.length, .junk, .junk, .int .i64 n, .int .i64 ((i : Nat) : Int), .junk, .junk, .junk, .junk, .junk, .junk, .junk, .junk, .junk, .junk, .junk, .junk, .junk], []⟩
def f21G0 (E : Env) (l : (List Int)) (n : Int) (i : Nat) : Prop := G Try.prog E (f21K0 Try.prog) (f21S0 l n i )
theorem p21_start_0 (l : (List Int))   {E : Env} {rv : AV} (hE : PureE Try.prog 21 rv E) 
    (hg : G Try.prog E (f21K0 Try.prog) ⟨[.rsl (rowI l) 0 l.length, .junk, .junk, .int .i64 0, .int .i64 0, .junk, .junk, .junk, .junk, .junk, .junk, .junk, .junk, .junk, .junk, .junk, .junk, .junk], []⟩) : G Try.prog E [.code (bodyAt Try.prog 21)] ⟨[.rsl (rowI l) 0 l.length] ++ unds (Try.f21.ntmps - 1), []⟩ :=
  segC_step (n := 400) (ds := []) (cs := []) (live := [0, 3, 4]) (m := 0) (evs := [.stop]) (obs := []) hE.2.1 (hE.nogh _) mixed (by kernel_rfl) trivial hg
theorem f21W (l : (List Int)) {E : Env} {rv : Int} (hE : PureE Try.prog 21 (.int .i64 rv) E)
    (h : f21G0 E l 0 0) : G Try.prog E [.code (bodyAt Try.prog 21)] ⟨[.rsl (rowI l) 0 l.length] ++ unds (Try.f21.ntmps - 1), []⟩ := by
  exact p21_start_0 l    hE  h
theorem p21_0_0 (l : (List Int)) (n : Int) (i : Nat)  (e : Int)  {E : Env} {rv : AV} (hE : PureE Try.prog 21 rv E) (o0 : (decide (((i : Nat) : Int) < ((l.length : Nat) : Int))) = true) (o2 : 0 ≤ ((i : Nat) : Int) ∧ ((i : Nat) : Int) < ((l.length : Nat) : Int)) (o3 : ((rowI l).drop (0 + (Int.toNat ((i : Nat) : Int)) * 1)).take 1 = [.int .i64 e]) (o4 : InR .i64 (n + e)) (o5 : InR .i64 (((i : Nat) : Int) + 1))
    (hg : G Try.prog E (f21K0 Try.prog) ⟨[.rsl (rowI l) 0 l.length, .junk, .junk, .int .i64 (n + e), .int .i64 (((i : Nat) : Int) + 1), .junk, .junk, .junk, .junk, .junk, .junk, .junk, .junk, .junk, .junk, .junk, .junk, .junk], []⟩) : G Try.prog E (f21K0 Try.prog) (f21S0 l n i ) :=
  segC_step (n := 400) (ds := []) (cs := []) (live := [0, 3, 4]) (m := 0) (evs := [.b true, .ld (.int .i64 e), .stop]) (obs := [(decide (((i : Nat) : Int) < ((l.length : Nat) : Int))) = true, 0 ≤ ((i : Nat) : Int) ∧ ((i : Nat) : Int) < ((l.length : Nat) : Int), ((rowI l).drop (0 + (Int.toNat ((i : Nat) : Int)) * 1)).take 1 = [.int .i64 e], InR .i64 (n + e), InR .i64 (((i : Nat) : Int) + 1)]) hE.2.1 (hE.nogh _) mixed (by kernel_rfl) ⟨o0, o2, o3, o4, o5, trivial⟩ hg
theorem p21_0_1 (l : (List Int)) (n : Int) (i : Nat)   {E : Env} {res : AV} (hE : PureE Try.prog 21 res E) (o0 : (decide (((i : Nat) : Int) < ((l.length : Nat) : Int))) = false)
    (hr : AvLe (.int .i64 n) res) : G Try.prog E (f21K0 Try.prog) (f21S0 l n i ) :=
  end_stepL (n := 400) (evs := [.b false]) (obs := [(decide (((i : Nat) : Int) < ((l.length : Nat) : Int))) = false]) hE Try.func21 mixed (by kernel_rfl) ⟨o0, trivial⟩ hr
theorem f21W0 (l : (List Int)) (n : Int) (i : Nat) {E : Env} {rv : Int} (hE : PureE Try.prog 21 (.int .i64 rv) E)
    (h : ((((i : Nat) : Int) < ((l.length : Nat) : Int) → (∃ e : Int, l[i]? = some e ∧ ((-9223372036854775808 ≤ n + e ∧ n + e ≤ 9223372036854775807) ∧ ((-9223372036854775808 ≤ ((i : Nat) : Int) + 1 ∧ ((i : Nat) : Int) + 1 ≤ 9223372036854775807) ∧ f21G0 E l (n + e) (i + 1))))) ∧ (¬ (((i : Nat) : Int) < ((l.length : Nat) : Int)) → rv = n))) : f21G0 E l n i := by
  rcases Bool.eq_false_or_eq_true (decide (((i : Nat) : Int) < ((l.length : Nat) : Int))) with hc0 | hc0
  · have h := h.1 (of_decide_eq_true hc0)
    obtain ⟨e, h1, h⟩ := h
    obtain ⟨q4_1, h⟩ := h
    obtain ⟨q5_1, h⟩ := h
    exact p21_0_0 l n i  e hE hc0 (idx_ok h1) (row_part cI (s := 1) (k := 0) (m := 1) (fun _ => rfl) (by decide) h1) q4_1 q5_1 h
  · have h := h.2 (of_decide_eq_false hc0)
    exact p21_0_1 l n i   hE hc0 (AvLe.of_eq (by rw [h]; try rfl))

def sumI (l : List Int) : Int := l.sum
def SumOk (l : List Int) : Prop := l.length ≤ 9223372036854775807 ∧ ∀ k, k ≤ l.length → -9223372036854775808 ≤ (l.take k).sum ∧ (l.take k).sum ≤ 9223372036854775807
theorem sum_take {l : List Int} {i : Nat} {e : Int} (h : l[i]? = some e) : (l.take (i + 1)).sum = (l.take i).sum + e := by
  rw [List.take_add_one, h, List.sum_append]; simp


theorem sum_ok (l : List Int) (h : SumOk l) : Pure Try.prog 50 [.rsl (rowI l) 0 l.length] (.int .i64 (sumI l)) := pure_of Try.func50 f50b fun E hE => by
  have key : ∀ (d i : Nat), i + d = l.length → f50G0 E l (l.take i).sum i := by
    intro d
    induction d with
    | zero =>
      intro i hd
      refine f50W0 l _ i (rv := sumI l) hE ⟨fun h => by omega, fun _ => ?_⟩
      rw [List.take_of_length_le (by omega)]; rfl
    | succ d ih =>
      intro i hd
      have hi : l[i]? = some l[i] := List.getElem?_eq_getElem (by omega)
      have h1 := h.2 (i + 1) (by omega)
      have h2 := ih (i + 1) (by omega)
      rw [sum_take hi] at h1 h2
      have h3 := h.1
      exact f50W0 l _ i (rv := sumI l) hE ⟨fun _ => ⟨_, hi, h1, by omega, h2⟩, fun h => by omega⟩
  exact f50W l hE (key l.length 0 (by omega))


theorem sumR_ok (l : List Int) (h : SumOk l) : Pure Try.prog 21 [.rsl (rowI l) 0 l.length] (.int .i64 (sumI l)) := pure_of Try.func21 f21b fun E hE => by
  have key : ∀ (d i : Nat), i + d = l.length → f21G0 E l (l.take i).sum i := by
    intro d
    induction d with
    | zero =>
      intro i hd
      refine f21W0 l _ i (rv := sumI l) hE ⟨fun h => by omega, fun _ => ?_⟩
      rw [List.take_of_length_le (by omega)]; rfl
    | succ d ih =>
      intro i hd
      have hi : l[i]? = some l[i] := List.getElem?_eq_getElem (by omega)
      have h1 := h.2 (i + 1) (by omega)
      have h2 := ih (i + 1) (by omega)
      rw [sum_take hi] at h1 h2
      have h3 := h.1
      exact f21W0 l _ i (rv := sumI l) hE ⟨fun _ => ⟨_, hi, h1, by omega, h2⟩, fun h => by omega⟩
  exact f21W l hE (key l.length 0 (by omega))

theorem f51b : Try.f51.body = some (bodyAt Try.prog 51) := by kernel_rfl
theorem p51_start_0 (n : Int) (lo : Int) (hi : Int)   {E : Env} {res : AV} (hE : PureE Try.prog 51 res E) (o0 : (decide (n ≥ lo)) = true)
    (hr : AvLe (.bool (decide (n ≤ hi))) res) : G Try.prog E [.code (bodyAt Try.prog 51)] ⟨[.int .i64 n, .int .i64 lo, .int .i64 hi] ++ unds (Try.f51.ntmps - 3), []⟩ :=
  end_stepL (n := 400) (evs := [.b true]) (obs := [(decide (n ≥ lo)) = true]) hE Try.func51 mixed (by kernel_rfl) ⟨o0, trivial⟩ hr
theorem p51_start_1 (n : Int) (lo : Int) (hi : Int)   {E : Env} {res : AV} (hE : PureE Try.prog 51 res E) (o0 : (decide (n ≥ lo)) = false)
    (hr : AvLe (.bool false) res) : G Try.prog E [.code (bodyAt Try.prog 51)] ⟨[.int .i64 n, .int .i64 lo, .int .i64 hi] ++ unds (Try.f51.ntmps - 3), []⟩ :=
  end_stepL (n := 400) (evs := [.b false]) (obs := [(decide (n ≥ lo)) = false]) hE Try.func51 mixed (by kernel_rfl) ⟨o0, trivial⟩ hr
theorem f51W (n : Int) (lo : Int) (hi : Int) {E : Env} {rv : Bool} (hE : PureE Try.prog 51 (.bool rv) E)
    (h : ((n ≥ lo → rv = (decide (n ≤ hi))) ∧ (¬ (n ≥ lo) → rv = false))) : G Try.prog E [.code (bodyAt Try.prog 51)] ⟨[.int .i64 n, .int .i64 lo, .int .i64 hi] ++ unds (Try.f51.ntmps - 3), []⟩ := by
  rcases Bool.eq_false_or_eq_true (decide (n ≥ lo)) with hc0 | hc0
  · have h := h.1 (of_decide_eq_true hc0)
    exact p51_start_0 n lo hi    hE hc0 (AvLe.of_eq (by rw [h]; try rfl))
  · have h := h.2 (of_decide_eq_false hc0)
    exact p51_start_1 n lo hi    hE hc0 (AvLe.of_eq (by rw [h]; try rfl))

def amount (n : Int) : Bool := within n 0 1000000000
theorem withinR_ok (n lo hi : Int) : Pure Try.prog 51 [.int .i64 n, .int .i64 lo, .int .i64 hi] (.bool (within n lo hi)) := pure_of Try.func51 f51b fun E hE => by
  refine f51W n lo hi hE ⟨fun h => by simp [within, h], fun h => by simp only [within]; rw [decide_eq_false h]; rfl⟩

theorem f41b : Try.f41.body = some (bodyAt Try.prog 41) := by kernel_rfl
theorem p41_start_0 (n : Int)   {E : Env} {res : AV} (hE : PureE Try.prog 41 res E) (o0 : PureF Try.prog (.clos 49 [] []) [.int .i64 n, .int .i64 0, .int .i64 1000000000] (.bool (within n 0 1000000000)))
    (hr : AvLe (.bool (within n 0 1000000000)) res) : G Try.prog E [.code (bodyAt Try.prog 41)] ⟨[.int .i64 n] ++ unds (Try.f41.ntmps - 1), []⟩ :=
  end_stepL (n := 400) (evs := [.v (.bool (within n 0 1000000000))]) (obs := [PureF Try.prog (.clos 49 [] []) [.int .i64 n, .int .i64 0, .int .i64 1000000000] (.bool (within n 0 1000000000))]) hE Try.func41 mixed (by kernel_rfl) ⟨o0, trivial⟩ hr
theorem f41W (n : Int) {E : Env} {rv : Bool} (hE : PureE Try.prog 41 (.bool rv) E)
    (h : rv = (within n 0 1000000000)) : G Try.prog E [.code (bodyAt Try.prog 41)] ⟨[.int .i64 n] ++ unds (Try.f41.ntmps - 1), []⟩ := by
  exact p41_start_0 n    hE (pureF_of Try.func49 (by kernel_rfl) f49b (within_ok n 0 1000000000)) (AvLe.of_eq (by rw [h]; try rfl))
theorem f38b : Try.f38.body = some (bodyAt Try.prog 38) := by kernel_rfl
theorem p38_start_0 (n : Int)   {E : Env} {res : AV} (hE : PureE Try.prog 38 res E) (o0 : PureF Try.prog (.clos 51 [] []) [.int .i64 n, .int .i64 0, .int .i64 1000000000] (.bool (within n 0 1000000000)))
    (hr : AvLe (.bool (within n 0 1000000000)) res) : G Try.prog E [.code (bodyAt Try.prog 38)] ⟨[.int .i64 n] ++ unds (Try.f38.ntmps - 1), []⟩ :=
  end_stepL (n := 400) (evs := [.v (.bool (within n 0 1000000000))]) (obs := [PureF Try.prog (.clos 51 [] []) [.int .i64 n, .int .i64 0, .int .i64 1000000000] (.bool (within n 0 1000000000))]) hE Try.func38 mixed (by kernel_rfl) ⟨o0, trivial⟩ hr
theorem f38W (n : Int) {E : Env} {rv : Bool} (hE : PureE Try.prog 38 (.bool rv) E)
    (h : rv = (within n 0 1000000000)) : G Try.prog E [.code (bodyAt Try.prog 38)] ⟨[.int .i64 n] ++ unds (Try.f38.ntmps - 1), []⟩ := by
  exact p38_start_0 n    hE (pureF_of Try.func51 (by kernel_rfl) f51b (withinR_ok n 0 1000000000)) (AvLe.of_eq (by rw [h]; try rfl))
theorem f64b : Try.f64.body = some (bodyAt Try.prog 64) := by kernel_rfl
theorem p64_start_0 (n : Int)   {E : Env} {res : AV} (hE : PureE Try.prog 64 res E) (o0 : PureF Try.prog (.clos 49 [] []) [.int .i64 n, .int .i64 0, .int .i64 1000] (.bool (within n 0 1000)))
    (hr : AvLe (.bool (!(within n 0 1000))) res) : G Try.prog E [.code (bodyAt Try.prog 64)] ⟨[.int .i64 n] ++ unds (Try.f64.ntmps - 1), []⟩ :=
  end_stepL (n := 400) (evs := [.v (.bool (within n 0 1000))]) (obs := [PureF Try.prog (.clos 49 [] []) [.int .i64 n, .int .i64 0, .int .i64 1000] (.bool (within n 0 1000))]) hE Try.func64 mixed (by kernel_rfl) ⟨o0, trivial⟩ hr
theorem f64W (n : Int) {E : Env} {rv : Bool} (hE : PureE Try.prog 64 (.bool rv) E)
    (h : rv = (!(within n 0 1000))) : G Try.prog E [.code (bodyAt Try.prog 64)] ⟨[.int .i64 n] ++ unds (Try.f64.ntmps - 1), []⟩ := by
  exact p64_start_0 n    hE (pureF_of Try.func49 (by kernel_rfl) f49b (within_ok n 0 1000)) (AvLe.of_eq (by rw [h]; try rfl))

theorem amount_ok (n : Int) : Pure Try.prog 41 [.int .i64 n] (.bool (amount n)) := pure_of Try.func41 f41b fun E hE => f41W n hE rfl
theorem amountR_ok (n : Int) : Pure Try.prog 38 [.int .i64 n] (.bool (amount n)) := pure_of Try.func38 f38b fun E hE => f38W n hE rfl
theorem notWeight_ok (n : Int) : Pure Try.prog 64 [.int .i64 n] (.bool (!within n 0 1000)) := pure_of Try.func64 f64b fun E hE => f64W n hE rfl

/-- The first place where it holds; -1 if there is none. -/
def idxI (p : Int → Bool) (l : List Int) : Int := match l.findIdx? p with
  | some i => (i : Int)
  | none => -1
theorem idx_from (p : Int → Bool) (l : List Int) : ∀ (d i : Nat), i + d = l.length → (∀ j x, j < i → l[j]? = some x → p x = false) → ∀ (Q : Nat → Prop), (∀ i, i < l.length → (∀ x, l[i]? = some x → (p x = true → idxI p l = i)) → (∀ x, l[i]? = some x → p x = false → Q (i + 1)) → Q i) →
    ((∀ x ∈ l, p x = false) → idxI p l = -1 → Q l.length) → Q i := by
  intro d
  induction d with
  | zero =>
    intro i hi hp Q h1 h2
    have : i = l.length := by omega
    subst this
    have hall : ∀ x ∈ l, p x = false := fun x hx => by
      obtain ⟨j, hj⟩ := List.getElem?_of_mem hx
      exact hp j x (List.getElem?_eq_some_iff.1 hj).1 hj
    exact h2 hall (by simp only [idxI]; rw [List.findIdx?_eq_none_iff.2 hall])
  | succ d ih =>
    intro i hi hp Q h1 h2
    refine h1 i (by omega) (fun x hx hpx => ?_) (fun x hx hpx => ih (i + 1) (by omega) (fun j y hj hy => ?_) Q h1 h2)
    · have : l.findIdx? p = some i := by
        rw [List.findIdx?_eq_some_iff_getElem]
        have hlt := (List.getElem?_eq_some_iff.1 hx).1
        have he := (List.getElem?_eq_some_iff.1 hx).2
        refine ⟨hlt, by rw [he]; exact hpx, fun j hj => ?_⟩
        have := hp j _ hj (List.getElem?_eq_getElem (by omega))
        simp [this]
      simp only [idxI, this]
    · rcases Nat.lt_or_ge j i with h | h
      · exact hp j y h hy
      · have : j = i := by omega
        subst this
        rw [hx] at hy; cases hy; exact hpx
theorem idx_any (p : Int → Bool) (l : List Int) : decide (idxI p l ≥ 0) = l.any p := by
  cases h : l.findIdx? p with
  | none =>
    have e : idxI p l = -1 := by simp only [idxI, h]
    rw [e]
    rw [List.findIdx?_eq_none_iff] at h
    rw [show l.any p = false from by simpa using fun x hx => by simpa using h x hx]; rfl
  | some i =>
    have e : idxI p l = (i : Int) := by simp only [idxI, h]
    rw [e]
    have := List.findIdx?_eq_some_iff_getElem.1 h
    obtain ⟨h1, h2, -⟩ := this
    have : l.any p = true := by rw [List.any_eq_true]; exact ⟨l[i], List.getElem_mem _, h2⟩
    rw [this]; simp

theorem f63b : Try.f63.body = some (bodyAt Try.prog 63) := by kernel_rfl
theorem p63_start_0 (n : Int)   {E : Env} {res : AV} (hE : PureE Try.prog 63 res E) (o0 : PureF Try.prog (.clos 41 [] []) [.int .i64 n] (.bool (amount n)))
    (hr : AvLe (.bool (!(amount n))) res) : G Try.prog E [.code (bodyAt Try.prog 63)] ⟨[.int .i64 n] ++ unds (Try.f63.ntmps - 1), []⟩ :=
  end_stepL (n := 400) (evs := [.v (.bool (amount n))]) (obs := [PureF Try.prog (.clos 41 [] []) [.int .i64 n] (.bool (amount n))]) hE Try.func63 mixed (by kernel_rfl) ⟨o0, trivial⟩ hr
theorem f63W (n : Int) {E : Env} {rv : Bool} (hE : PureE Try.prog 63 (.bool rv) E)
    (h : rv = (!(amount n))) : G Try.prog E [.code (bodyAt Try.prog 63)] ⟨[.int .i64 n] ++ unds (Try.f63.ntmps - 1), []⟩ := by
  exact p63_start_0 n    hE (pureF_of Try.func41 (by kernel_rfl) f41b (amount_ok n)) (AvLe.of_eq (by rw [h]; try rfl))

theorem notAmount_ok (n : Int) : Pure Try.prog 63 [.int .i64 n] (.bool (!amount n)) := pure_of Try.func63 f63b fun E hE => f63W n hE rfl

theorem f74ab : Try.f74.body = some (bodyAt Try.prog 74) := by kernel_rfl
def f74aK0 (P : Program) : List Item := kAt 400 [.code (bodyAt P 74)] [.stop]
def f74aS0 (l : (List Int)) (i : Nat)  : St := ⟨[.rsl (rowI l) 0 l.length, .clos 63 [] [], .junk, .junk, .junk, .junk, .junk, .int .i64 ((l.length : Nat) : Int), .int .i64 ((i : Nat) : Int), .junk, .junk, .junk, .junk, .junk, .junk, .junk, .junk, .junk, .junk], []⟩
def f74aG0 (E : Env) (l : (List Int)) (i : Nat) : Prop := G Try.prog E (f74aK0 Try.prog) (f74aS0 l i )
theorem p74a_start_0 (l : (List Int))   {E : Env} {rv : AV} (hE : PureE Try.prog 74 rv E) 
    (hg : G Try.prog E (f74aK0 Try.prog) ⟨[.rsl (rowI l) 0 l.length, .clos 63 [] [], .junk, .junk, .junk, .junk, .junk, .int .i64 ((l.length : Nat) : Int), .int .i64 0, .junk, .junk, .junk, .junk, .junk, .junk, .junk, .junk, .junk, .junk], []⟩) : G Try.prog E [.code (bodyAt Try.prog 74)] ⟨[.rsl (rowI l) 0 l.length, .clos 63 [] []] ++ unds (Try.f74.ntmps - 2), []⟩ :=
  segC_step (n := 400) (ds := []) (cs := []) (live := [0, 1, 7, 8]) (m := 0) (evs := [.stop]) (obs := []) hE.2.1 (hE.nogh _) mixed (by kernel_rfl) trivial hg
theorem f74aW (l : (List Int)) {E : Env} {rv : Int} (hE : PureE Try.prog 74 (.int .i64 rv) E)
    (h : f74aG0 E l 0) : G Try.prog E [.code (bodyAt Try.prog 74)] ⟨[.rsl (rowI l) 0 l.length, .clos 63 [] []] ++ unds (Try.f74.ntmps - 2), []⟩ := by
  exact p74a_start_0 l    hE  h
theorem p74a_0_0 (l : (List Int)) (i : Nat)  (e : Int)  {E : Env} {res : AV} (hE : PureE Try.prog 74 res E) (o0 : (decide (((i : Nat) : Int) < ((l.length : Nat) : Int))) = true) (o2 : 0 ≤ ((i : Nat) : Int) ∧ ((i : Nat) : Int) < ((l.length : Nat) : Int)) (o3 : ((rowI l).drop (0 + (Int.toNat ((i : Nat) : Int)) * 1)).take 1 = [.int .i64 e]) (o4 : PureF Try.prog (.clos 63 [] []) [.int .i64 e] (.bool (!amount e))) (o5 : (!amount e) = true)
    (hr : AvLe (.int .i64 ((i : Nat) : Int)) res) : G Try.prog E (f74aK0 Try.prog) (f74aS0 l i ) :=
  end_stepL (n := 400) (evs := [.b true, .ld (.int .i64 e), .v (.bool (!amount e)), .b true]) (obs := [(decide (((i : Nat) : Int) < ((l.length : Nat) : Int))) = true, 0 ≤ ((i : Nat) : Int) ∧ ((i : Nat) : Int) < ((l.length : Nat) : Int), ((rowI l).drop (0 + (Int.toNat ((i : Nat) : Int)) * 1)).take 1 = [.int .i64 e], PureF Try.prog (.clos 63 [] []) [.int .i64 e] (.bool (!amount e)), (!amount e) = true]) hE Try.func74 mixed (by kernel_rfl) ⟨o0, o2, o3, o4, o5, trivial⟩ hr
theorem p74a_0_1 (l : (List Int)) (i : Nat)  (e : Int)  {E : Env} {rv : AV} (hE : PureE Try.prog 74 rv E) (o0 : (decide (((i : Nat) : Int) < ((l.length : Nat) : Int))) = true) (o2 : 0 ≤ ((i : Nat) : Int) ∧ ((i : Nat) : Int) < ((l.length : Nat) : Int)) (o3 : ((rowI l).drop (0 + (Int.toNat ((i : Nat) : Int)) * 1)).take 1 = [.int .i64 e]) (o4 : PureF Try.prog (.clos 63 [] []) [.int .i64 e] (.bool (!amount e))) (o5 : (!amount e) = false) (o6 : InR .i64 (((i : Nat) : Int) + 1))
    (hg : G Try.prog E (f74aK0 Try.prog) ⟨[.rsl (rowI l) 0 l.length, .clos 63 [] [], .junk, .junk, .junk, .junk, .junk, .int .i64 ((l.length : Nat) : Int), .int .i64 (((i : Nat) : Int) + 1), .junk, .junk, .junk, .junk, .junk, .junk, .junk, .junk, .junk, .junk], []⟩) : G Try.prog E (f74aK0 Try.prog) (f74aS0 l i ) :=
  segC_step (n := 400) (ds := []) (cs := []) (live := [0, 1, 7, 8]) (m := 0) (evs := [.b true, .ld (.int .i64 e), .v (.bool (!amount e)), .b false, .stop]) (obs := [(decide (((i : Nat) : Int) < ((l.length : Nat) : Int))) = true, 0 ≤ ((i : Nat) : Int) ∧ ((i : Nat) : Int) < ((l.length : Nat) : Int), ((rowI l).drop (0 + (Int.toNat ((i : Nat) : Int)) * 1)).take 1 = [.int .i64 e], PureF Try.prog (.clos 63 [] []) [.int .i64 e] (.bool (!amount e)), (!amount e) = false, InR .i64 (((i : Nat) : Int) + 1)]) hE.2.1 (hE.nogh _) mixed (by kernel_rfl) ⟨o0, o2, o3, o4, o5, o6, trivial⟩ hg
theorem p74a_0_2 (l : (List Int)) (i : Nat)   {E : Env} {res : AV} (hE : PureE Try.prog 74 res E) (o0 : (decide (((i : Nat) : Int) < ((l.length : Nat) : Int))) = false)
    (hr : AvLe (.int .i64 (-1)) res) : G Try.prog E (f74aK0 Try.prog) (f74aS0 l i ) :=
  end_stepL (n := 400) (evs := [.b false]) (obs := [(decide (((i : Nat) : Int) < ((l.length : Nat) : Int))) = false]) hE Try.func74 mixed (by kernel_rfl) ⟨o0, trivial⟩ hr
theorem f74aW0 (l : (List Int)) (i : Nat) {E : Env} {rv : Int} (hE : PureE Try.prog 74 (.int .i64 rv) E)
    (h : ((((i : Nat) : Int) < ((l.length : Nat) : Int) → (∃ e : Int, l[i]? = some e ∧ (((!amount e) = true → rv = ((i : Nat) : Int)) ∧ ((!amount e) = false → ((-9223372036854775808 ≤ ((i : Nat) : Int) + 1 ∧ ((i : Nat) : Int) + 1 ≤ 9223372036854775807) ∧ f74aG0 E l (i + 1)))))) ∧ (¬ (((i : Nat) : Int) < ((l.length : Nat) : Int)) → rv = (-1)))) : f74aG0 E l i := by
  rcases Bool.eq_false_or_eq_true (decide (((i : Nat) : Int) < ((l.length : Nat) : Int))) with hc0 | hc0
  · have h := h.1 (of_decide_eq_true hc0)
    obtain ⟨e, h1, h⟩ := h
    rcases Bool.eq_false_or_eq_true (!amount e) with hc1 | hc1
    · have h := h.1 hc1
      exact p74a_0_0 l i  e hE hc0 (idx_ok h1) (row_part cI (s := 1) (k := 0) (m := 1) (fun _ => rfl) (by decide) h1) (pureF_of Try.func63 (by kernel_rfl) f63b (notAmount_ok e)) hc1 (AvLe.of_eq (by rw [h]; try rfl))
    · have h := h.2 hc1
      obtain ⟨q6_2, h⟩ := h
      exact p74a_0_1 l i  e hE hc0 (idx_ok h1) (row_part cI (s := 1) (k := 0) (m := 1) (fun _ => rfl) (by decide) h1) (pureF_of Try.func63 (by kernel_rfl) f63b (notAmount_ok e)) hc1 q6_2 h
  · have h := h.2 (of_decide_eq_false hc0)
    exact p74a_0_2 l i   hE hc0 (AvLe.of_eq (by rw [h]; try rfl))

theorem idx63_ok (l : List Int) (h : l.length ≤ 9223372036854775807) : Pure Try.prog 74 [.rsl (rowI l) 0 l.length, .clos 63 [] []] (.int .i64 (idxI (fun x => !amount x) l)) := pure_of Try.func74 f74ab fun E hE => by
  refine f74aW l hE (idx_from (fun x => !amount x) l l.length 0 (by omega) (fun j x hj => by omega) (fun i => f74aG0 E l i) (fun i hi h1 h2 => ?_) (fun _ h2 => ?_))
  · have hx : l[i]? = some l[i] := List.getElem?_eq_getElem hi
    exact f74aW0 l i hE ⟨fun _ => ⟨_, hx, fun hp => h1 _ hx hp, fun hp => ⟨by omega, h2 _ hx hp⟩⟩, fun h => by omega⟩
  · exact f74aW0 l _ hE ⟨fun h => by omega, fun _ => h2⟩

theorem f62ab : Try.f62.body = some (bodyAt Try.prog 62) := by kernel_rfl
theorem p62a_start_0 (l : (List Int))   {E : Env} {res : AV} (hE : PureE Try.prog 62 res E) (o0 : PureF Try.prog (.clos 74 [] []) [.rsl (rowI l) 0 l.length, .clos 63 [] []] (.int .i64 (idxI (fun x => !amount x) l)))
    (hr : AvLe (.bool (decide ((idxI (fun x => !amount x) l) ≥ 0))) res) : G Try.prog E [.code (bodyAt Try.prog 62)] ⟨[.rsl (rowI l) 0 l.length, .clos 63 [] []] ++ unds (Try.f62.ntmps - 2), []⟩ :=
  end_stepL (n := 400) (evs := [.v (.int .i64 (idxI (fun x => !amount x) l))]) (obs := [PureF Try.prog (.clos 74 [] []) [.rsl (rowI l) 0 l.length, .clos 63 [] []] (.int .i64 (idxI (fun x => !amount x) l))]) hE Try.func62 mixed (by kernel_rfl) ⟨o0, trivial⟩ hr
theorem f62aW (l : (List Int)) {E : Env} {rv : Bool} (hE : PureE Try.prog 62 (.bool rv) E)
    (h : ((l.length ≤ 9223372036854775807) ∧ rv = (decide ((idxI (fun x => !amount x) l) ≥ 0)))) : G Try.prog E [.code (bodyAt Try.prog 62)] ⟨[.rsl (rowI l) 0 l.length, .clos 63 [] []] ++ unds (Try.f62.ntmps - 2), []⟩ := by
  obtain ⟨h1, h⟩ := h
  exact p62a_start_0 l    hE (pureF_of Try.func74 (by kernel_rfl) f74ab (idx63_ok l h1)) (AvLe.of_eq (by rw [h]; try rfl))

theorem any63_ok (l : List Int) (h : l.length ≤ 9223372036854775807) : Pure Try.prog 62 [.rsl (rowI l) 0 l.length, .clos 63 [] []] (.bool (l.any (fun x => !amount x))) := pure_of Try.func62 f62ab fun E hE =>
  f62aW l hE ⟨h, (idx_any _ _).symm⟩

theorem f74bb : Try.f74.body = some (bodyAt Try.prog 74) := by kernel_rfl
def f74bK0 (P : Program) : List Item := kAt 400 [.code (bodyAt P 74)] [.stop]
def f74bS0 (l : (List Int)) (i : Nat)  : St := ⟨[.rsl (rowI l) 0 l.length, .clos 64 [] [], .junk, .junk, .junk, .junk, .junk, .int .i64 ((l.length : Nat) : Int), .int .i64 ((i : Nat) : Int), .junk, .junk, .junk, .junk, .junk, .junk, .junk, .junk, .junk, .junk], []⟩
def f74bG0 (E : Env) (l : (List Int)) (i : Nat) : Prop := G Try.prog E (f74bK0 Try.prog) (f74bS0 l i )
theorem p74b_start_0 (l : (List Int))   {E : Env} {rv : AV} (hE : PureE Try.prog 74 rv E) 
    (hg : G Try.prog E (f74bK0 Try.prog) ⟨[.rsl (rowI l) 0 l.length, .clos 64 [] [], .junk, .junk, .junk, .junk, .junk, .int .i64 ((l.length : Nat) : Int), .int .i64 0, .junk, .junk, .junk, .junk, .junk, .junk, .junk, .junk, .junk, .junk], []⟩) : G Try.prog E [.code (bodyAt Try.prog 74)] ⟨[.rsl (rowI l) 0 l.length, .clos 64 [] []] ++ unds (Try.f74.ntmps - 2), []⟩ :=
  segC_step (n := 400) (ds := []) (cs := []) (live := [0, 1, 7, 8]) (m := 0) (evs := [.stop]) (obs := []) hE.2.1 (hE.nogh _) mixed (by kernel_rfl) trivial hg
theorem f74bW (l : (List Int)) {E : Env} {rv : Int} (hE : PureE Try.prog 74 (.int .i64 rv) E)
    (h : f74bG0 E l 0) : G Try.prog E [.code (bodyAt Try.prog 74)] ⟨[.rsl (rowI l) 0 l.length, .clos 64 [] []] ++ unds (Try.f74.ntmps - 2), []⟩ := by
  exact p74b_start_0 l    hE  h
theorem p74b_0_0 (l : (List Int)) (i : Nat)  (e : Int)  {E : Env} {res : AV} (hE : PureE Try.prog 74 res E) (o0 : (decide (((i : Nat) : Int) < ((l.length : Nat) : Int))) = true) (o2 : 0 ≤ ((i : Nat) : Int) ∧ ((i : Nat) : Int) < ((l.length : Nat) : Int)) (o3 : ((rowI l).drop (0 + (Int.toNat ((i : Nat) : Int)) * 1)).take 1 = [.int .i64 e]) (o4 : PureF Try.prog (.clos 64 [] []) [.int .i64 e] (.bool (!within e 0 1000))) (o5 : (!within e 0 1000) = true)
    (hr : AvLe (.int .i64 ((i : Nat) : Int)) res) : G Try.prog E (f74bK0 Try.prog) (f74bS0 l i ) :=
  end_stepL (n := 400) (evs := [.b true, .ld (.int .i64 e), .v (.bool (!within e 0 1000)), .b true]) (obs := [(decide (((i : Nat) : Int) < ((l.length : Nat) : Int))) = true, 0 ≤ ((i : Nat) : Int) ∧ ((i : Nat) : Int) < ((l.length : Nat) : Int), ((rowI l).drop (0 + (Int.toNat ((i : Nat) : Int)) * 1)).take 1 = [.int .i64 e], PureF Try.prog (.clos 64 [] []) [.int .i64 e] (.bool (!within e 0 1000)), (!within e 0 1000) = true]) hE Try.func74 mixed (by kernel_rfl) ⟨o0, o2, o3, o4, o5, trivial⟩ hr
theorem p74b_0_1 (l : (List Int)) (i : Nat)  (e : Int)  {E : Env} {rv : AV} (hE : PureE Try.prog 74 rv E) (o0 : (decide (((i : Nat) : Int) < ((l.length : Nat) : Int))) = true) (o2 : 0 ≤ ((i : Nat) : Int) ∧ ((i : Nat) : Int) < ((l.length : Nat) : Int)) (o3 : ((rowI l).drop (0 + (Int.toNat ((i : Nat) : Int)) * 1)).take 1 = [.int .i64 e]) (o4 : PureF Try.prog (.clos 64 [] []) [.int .i64 e] (.bool (!within e 0 1000))) (o5 : (!within e 0 1000) = false) (o6 : InR .i64 (((i : Nat) : Int) + 1))
    (hg : G Try.prog E (f74bK0 Try.prog) ⟨[.rsl (rowI l) 0 l.length, .clos 64 [] [], .junk, .junk, .junk, .junk, .junk, .int .i64 ((l.length : Nat) : Int), .int .i64 (((i : Nat) : Int) + 1), .junk, .junk, .junk, .junk, .junk, .junk, .junk, .junk, .junk, .junk], []⟩) : G Try.prog E (f74bK0 Try.prog) (f74bS0 l i ) :=
  segC_step (n := 400) (ds := []) (cs := []) (live := [0, 1, 7, 8]) (m := 0) (evs := [.b true, .ld (.int .i64 e), .v (.bool (!within e 0 1000)), .b false, .stop]) (obs := [(decide (((i : Nat) : Int) < ((l.length : Nat) : Int))) = true, 0 ≤ ((i : Nat) : Int) ∧ ((i : Nat) : Int) < ((l.length : Nat) : Int), ((rowI l).drop (0 + (Int.toNat ((i : Nat) : Int)) * 1)).take 1 = [.int .i64 e], PureF Try.prog (.clos 64 [] []) [.int .i64 e] (.bool (!within e 0 1000)), (!within e 0 1000) = false, InR .i64 (((i : Nat) : Int) + 1)]) hE.2.1 (hE.nogh _) mixed (by kernel_rfl) ⟨o0, o2, o3, o4, o5, o6, trivial⟩ hg
theorem p74b_0_2 (l : (List Int)) (i : Nat)   {E : Env} {res : AV} (hE : PureE Try.prog 74 res E) (o0 : (decide (((i : Nat) : Int) < ((l.length : Nat) : Int))) = false)
    (hr : AvLe (.int .i64 (-1)) res) : G Try.prog E (f74bK0 Try.prog) (f74bS0 l i ) :=
  end_stepL (n := 400) (evs := [.b false]) (obs := [(decide (((i : Nat) : Int) < ((l.length : Nat) : Int))) = false]) hE Try.func74 mixed (by kernel_rfl) ⟨o0, trivial⟩ hr
theorem f74bW0 (l : (List Int)) (i : Nat) {E : Env} {rv : Int} (hE : PureE Try.prog 74 (.int .i64 rv) E)
    (h : ((((i : Nat) : Int) < ((l.length : Nat) : Int) → (∃ e : Int, l[i]? = some e ∧ (((!within e 0 1000) = true → rv = ((i : Nat) : Int)) ∧ ((!within e 0 1000) = false → ((-9223372036854775808 ≤ ((i : Nat) : Int) + 1 ∧ ((i : Nat) : Int) + 1 ≤ 9223372036854775807) ∧ f74bG0 E l (i + 1)))))) ∧ (¬ (((i : Nat) : Int) < ((l.length : Nat) : Int)) → rv = (-1)))) : f74bG0 E l i := by
  rcases Bool.eq_false_or_eq_true (decide (((i : Nat) : Int) < ((l.length : Nat) : Int))) with hc0 | hc0
  · have h := h.1 (of_decide_eq_true hc0)
    obtain ⟨e, h1, h⟩ := h
    rcases Bool.eq_false_or_eq_true (!within e 0 1000) with hc1 | hc1
    · have h := h.1 hc1
      exact p74b_0_0 l i  e hE hc0 (idx_ok h1) (row_part cI (s := 1) (k := 0) (m := 1) (fun _ => rfl) (by decide) h1) (pureF_of Try.func64 (by kernel_rfl) f64b (notWeight_ok e)) hc1 (AvLe.of_eq (by rw [h]; try rfl))
    · have h := h.2 hc1
      obtain ⟨q6_2, h⟩ := h
      exact p74b_0_1 l i  e hE hc0 (idx_ok h1) (row_part cI (s := 1) (k := 0) (m := 1) (fun _ => rfl) (by decide) h1) (pureF_of Try.func64 (by kernel_rfl) f64b (notWeight_ok e)) hc1 q6_2 h
  · have h := h.2 (of_decide_eq_false hc0)
    exact p74b_0_2 l i   hE hc0 (AvLe.of_eq (by rw [h]; try rfl))

theorem idx64_ok (l : List Int) (h : l.length ≤ 9223372036854775807) : Pure Try.prog 74 [.rsl (rowI l) 0 l.length, .clos 64 [] []] (.int .i64 (idxI (fun x => !within x 0 1000) l)) := pure_of Try.func74 f74bb fun E hE => by
  refine f74bW l hE (idx_from (fun x => !within x 0 1000) l l.length 0 (by omega) (fun j x hj => by omega) (fun i => f74bG0 E l i) (fun i hi h1 h2 => ?_) (fun _ h2 => ?_))
  · have hx : l[i]? = some l[i] := List.getElem?_eq_getElem hi
    exact f74bW0 l i hE ⟨fun _ => ⟨_, hx, fun hp => h1 _ hx hp, fun hp => ⟨by omega, h2 _ hx hp⟩⟩, fun h => by omega⟩
  · exact f74bW0 l _ hE ⟨fun h => by omega, fun _ => h2⟩

theorem f62bb : Try.f62.body = some (bodyAt Try.prog 62) := by kernel_rfl
theorem p62b_start_0 (l : (List Int))   {E : Env} {res : AV} (hE : PureE Try.prog 62 res E) (o0 : PureF Try.prog (.clos 74 [] []) [.rsl (rowI l) 0 l.length, .clos 64 [] []] (.int .i64 (idxI (fun x => !within x 0 1000) l)))
    (hr : AvLe (.bool (decide ((idxI (fun x => !within x 0 1000) l) ≥ 0))) res) : G Try.prog E [.code (bodyAt Try.prog 62)] ⟨[.rsl (rowI l) 0 l.length, .clos 64 [] []] ++ unds (Try.f62.ntmps - 2), []⟩ :=
  end_stepL (n := 400) (evs := [.v (.int .i64 (idxI (fun x => !within x 0 1000) l))]) (obs := [PureF Try.prog (.clos 74 [] []) [.rsl (rowI l) 0 l.length, .clos 64 [] []] (.int .i64 (idxI (fun x => !within x 0 1000) l))]) hE Try.func62 mixed (by kernel_rfl) ⟨o0, trivial⟩ hr
theorem f62bW (l : (List Int)) {E : Env} {rv : Bool} (hE : PureE Try.prog 62 (.bool rv) E)
    (h : ((l.length ≤ 9223372036854775807) ∧ rv = (decide ((idxI (fun x => !within x 0 1000) l) ≥ 0)))) : G Try.prog E [.code (bodyAt Try.prog 62)] ⟨[.rsl (rowI l) 0 l.length, .clos 64 [] []] ++ unds (Try.f62.ntmps - 2), []⟩ := by
  obtain ⟨h1, h⟩ := h
  exact p62b_start_0 l    hE (pureF_of Try.func74 (by kernel_rfl) f74bb (idx64_ok l h1)) (AvLe.of_eq (by rw [h]; try rfl))

theorem any64_ok (l : List Int) (h : l.length ≤ 9223372036854775807) : Pure Try.prog 62 [.rsl (rowI l) 0 l.length, .clos 64 [] []] (.bool (l.any (fun x => !within x 0 1000))) := pure_of Try.func62 f62bb fun E hE =>
  f62bW l hE ⟨h, (idx_any _ _).symm⟩

end Go.Proofs.Ytmdbebbibecidaa

namespace Go.Proofs.Ytmdbebbibecidaa
open Go Ax
open Go.Proofs
theorem f43b : Try.f43.body = some (bodyAt Try.prog 43) := by kernel_rfl
theorem p43_start_0 (l : (List Int))   {E : Env} {res : AV} (hE : PureE Try.prog 43 res E) (o0 : PureF Try.prog (.clos 49 [] []) [.int .i64 ((l.length : Nat) : Int), .int .i64 1, .int .i64 10] (.bool (within ((l.length : Nat) : Int) 1 10))) (o1 : (within ((l.length : Nat) : Int) 1 10) = true) (o2 : PureF Try.prog (.clos 62 [] []) [.rsl (rowI l) 0 l.length, .clos 64 [] []] (.bool (l.any (fun x => !within x 0 1000)))) (o3 : (!(l.any (fun x => !within x 0 1000))) = true) (o4 : PureF Try.prog (.clos 50 [] []) [.rsl (rowI l) 0 l.length] (.int .i64 (sumI l)))
    (hr : AvLe (.bool (decide ((sumI l) > 0))) res) : G Try.prog E [.code (bodyAt Try.prog 43)] ⟨[.rsl (rowI l) 0 l.length] ++ unds (Try.f43.ntmps - 1), []⟩ :=
  end_stepL (n := 400) (evs := [.v (.bool (within ((l.length : Nat) : Int) 1 10)), .b true, .v (.bool (l.any (fun x => !within x 0 1000))), .b true, .v (.int .i64 (sumI l))]) (obs := [PureF Try.prog (.clos 49 [] []) [.int .i64 ((l.length : Nat) : Int), .int .i64 1, .int .i64 10] (.bool (within ((l.length : Nat) : Int) 1 10)), (within ((l.length : Nat) : Int) 1 10) = true, PureF Try.prog (.clos 62 [] []) [.rsl (rowI l) 0 l.length, .clos 64 [] []] (.bool (l.any (fun x => !within x 0 1000))), (!(l.any (fun x => !within x 0 1000))) = true, PureF Try.prog (.clos 50 [] []) [.rsl (rowI l) 0 l.length] (.int .i64 (sumI l))]) hE Try.func43 mixed (by kernel_rfl) ⟨o0, o1, o2, o3, o4, trivial⟩ hr
theorem p43_start_1 (l : (List Int))   {E : Env} {res : AV} (hE : PureE Try.prog 43 res E) (o0 : PureF Try.prog (.clos 49 [] []) [.int .i64 ((l.length : Nat) : Int), .int .i64 1, .int .i64 10] (.bool (within ((l.length : Nat) : Int) 1 10))) (o1 : (within ((l.length : Nat) : Int) 1 10) = true) (o2 : PureF Try.prog (.clos 62 [] []) [.rsl (rowI l) 0 l.length, .clos 64 [] []] (.bool (l.any (fun x => !within x 0 1000)))) (o3 : (!(l.any (fun x => !within x 0 1000))) = false)
    (hr : AvLe (.bool false) res) : G Try.prog E [.code (bodyAt Try.prog 43)] ⟨[.rsl (rowI l) 0 l.length] ++ unds (Try.f43.ntmps - 1), []⟩ :=
  end_stepL (n := 400) (evs := [.v (.bool (within ((l.length : Nat) : Int) 1 10)), .b true, .v (.bool (l.any (fun x => !within x 0 1000))), .b false]) (obs := [PureF Try.prog (.clos 49 [] []) [.int .i64 ((l.length : Nat) : Int), .int .i64 1, .int .i64 10] (.bool (within ((l.length : Nat) : Int) 1 10)), (within ((l.length : Nat) : Int) 1 10) = true, PureF Try.prog (.clos 62 [] []) [.rsl (rowI l) 0 l.length, .clos 64 [] []] (.bool (l.any (fun x => !within x 0 1000))), (!(l.any (fun x => !within x 0 1000))) = false]) hE Try.func43 mixed (by kernel_rfl) ⟨o0, o1, o2, o3, trivial⟩ hr
theorem p43_start_2 (l : (List Int))   {E : Env} {res : AV} (hE : PureE Try.prog 43 res E) (o0 : PureF Try.prog (.clos 49 [] []) [.int .i64 ((l.length : Nat) : Int), .int .i64 1, .int .i64 10] (.bool (within ((l.length : Nat) : Int) 1 10))) (o1 : (within ((l.length : Nat) : Int) 1 10) = false)
    (hr : AvLe (.bool false) res) : G Try.prog E [.code (bodyAt Try.prog 43)] ⟨[.rsl (rowI l) 0 l.length] ++ unds (Try.f43.ntmps - 1), []⟩ :=
  end_stepL (n := 400) (evs := [.v (.bool (within ((l.length : Nat) : Int) 1 10)), .b false, .b false]) (obs := [PureF Try.prog (.clos 49 [] []) [.int .i64 ((l.length : Nat) : Int), .int .i64 1, .int .i64 10] (.bool (within ((l.length : Nat) : Int) 1 10)), (within ((l.length : Nat) : Int) 1 10) = false, false = false]) hE Try.func43 mixed (by kernel_rfl) ⟨o0, o1, (rfl), trivial⟩ hr
theorem f43W (l : (List Int)) {E : Env} {rv : Bool} (hE : PureE Try.prog 43 (.bool rv) E)
    (h : (((within ((l.length : Nat) : Int) 1 10) = true → ((l.length ≤ 9223372036854775807) ∧ (((l.any (fun x => !within x 0 1000)) = false → ((SumOk l) ∧ rv = (decide ((sumI l) > 0)))) ∧ ((l.any (fun x => !within x 0 1000)) = true → rv = false)))) ∧ ((within ((l.length : Nat) : Int) 1 10) = false → rv = false))) : G Try.prog E [.code (bodyAt Try.prog 43)] ⟨[.rsl (rowI l) 0 l.length] ++ unds (Try.f43.ntmps - 1), []⟩ := by
  rcases Bool.eq_false_or_eq_true (within ((l.length : Nat) : Int) 1 10) with hc0 | hc0
  · have h := h.1 hc0
    obtain ⟨h1, h⟩ := h
    rcases Bool.eq_false_or_eq_true (!(l.any (fun x => !within x 0 1000))) with hc1 | hc1
    · have h := h.1 (bnT hc1)
      obtain ⟨h2, h⟩ := h
      exact p43_start_0 l    hE (pureF_of Try.func49 (by kernel_rfl) f49b (within_ok ((l.length : Nat) : Int) 1 10)) hc0 (pureF_of Try.func62 (by kernel_rfl) f62bb (any64_ok l h1)) hc1 (pureF_of Try.func50 (by kernel_rfl) f50b (sum_ok l h2)) (AvLe.of_eq (by rw [h]; try rfl))
    · have h := h.2 (bnF hc1)
      exact p43_start_1 l    hE (pureF_of Try.func49 (by kernel_rfl) f49b (within_ok ((l.length : Nat) : Int) 1 10)) hc0 (pureF_of Try.func62 (by kernel_rfl) f62bb (any64_ok l h1)) hc1 (AvLe.of_eq (by rw [h]; try rfl))
  · have h := h.2 hc0
    exact p43_start_2 l    hE (pureF_of Try.func49 (by kernel_rfl) f49b (within_ok ((l.length : Nat) : Int) 1 10)) hc0 (AvLe.of_eq (by rw [h]; try rfl))
theorem f42b : Try.f42.body = some (bodyAt Try.prog 42) := by kernel_rfl
theorem p42_start_0 (l : (List Int))   {E : Env} {res : AV} (hE : PureE Try.prog 42 res E) (o0 : PureF Try.prog (.clos 62 [] []) [.rsl (rowI l) 0 l.length, .clos 63 [] []] (.bool (l.any (fun x => !amount x))))
    (hr : AvLe (.bool (!(l.any (fun x => !amount x)))) res) : G Try.prog E [.code (bodyAt Try.prog 42)] ⟨[.rsl (rowI l) 0 l.length] ++ unds (Try.f42.ntmps - 1), []⟩ :=
  end_stepL (n := 400) (evs := [.v (.bool (l.any (fun x => !amount x)))]) (obs := [PureF Try.prog (.clos 62 [] []) [.rsl (rowI l) 0 l.length, .clos 63 [] []] (.bool (l.any (fun x => !amount x)))]) hE Try.func42 mixed (by kernel_rfl) ⟨o0, trivial⟩ hr
theorem f42W (l : (List Int)) {E : Env} {rv : Bool} (hE : PureE Try.prog 42 (.bool rv) E)
    (h : ((l.length ≤ 9223372036854775807) ∧ rv = (!(l.any (fun x => !amount x))))) : G Try.prog E [.code (bodyAt Try.prog 42)] ⟨[.rsl (rowI l) 0 l.length] ++ unds (Try.f42.ntmps - 1), []⟩ := by
  obtain ⟨h1, h⟩ := h
  exact p42_start_0 l    hE (pureF_of Try.func62 (by kernel_rfl) f62ab (any63_ok l h1)) (AvLe.of_eq (by rw [h]; try rfl))
theorem f44b : Try.f44.body = some (bodyAt Try.prog 44) := by kernel_rfl
def f44K0 (P : Program) : List Item := kAt 400 [.code (bodyAt P 44)] [.stop]
def f44S0 (c : Int) (ws : (List Int)) (v3 : List Int) (v4 : List Int) (i : Nat) (g3 : Nat) (g4 : Nat) : St := ⟨[.junk, .junk, .ptr 0 0 0, .junk, .junk, .ptr 2 0 0, .sl 3 g3 0 v3.length 1, .sl 4 g4 0 v4.length 1, .ptr 5 0 0, .junk, .junk, .junk, .junk, .junk, .junk, .junk, .junk, .junk, .junk, .junk, .junk, .junk, .rsl (rowI ws) 0 ws.length, .int .i64 ((ws.length : Nat) : Int), .int .i64 ((i : Nat) : Int), .junk, .junk, .junk, .junk, .junk, .junk, .junk, .junk, .junk, .junk, .junk, .junk, .junk, .junk, .junk, .junk, .junk, .junk, .junk, .junk, .junk, .junk, .junk, .junk, .junk, .junk, .junk, .junk, .junk, .junk, .junk, .junk, .junk, .junk, .junk, .junk, .junk, .junk, .junk], [⟨true, 0, 1, true, [.int .i64 c], false⟩, ⟨true, 0, 1, true, [.rsl (rowI ws) 0 ws.length], false⟩, ⟨true, 0, 1, true, [.int .i64 (sumI ws)], false⟩, ⟨true, g3, 1, true, (rowI v3), true⟩, ⟨true, g4, 1, true, (rowI v4), true⟩, ⟨true, 0, 1, false, [.clos 65 [] [.ptr 0 0 0, .ptr 1 0 0, .ptr 2 0 0]], false⟩]⟩
def f44G0 (E : Env) (c : Int) (ws : (List Int)) (v3 : List Int) (v4 : List Int) (i : Nat) : Prop := ∀ g3 g4 : Nat, G Try.prog E (f44K0 Try.prog) (f44S0 c ws v3 v4 i g3 g4)
def f44K1 (P : Program) : List Item := kAt 400 [.code (bodyAt P 44)] [.b false, .stop]
def f44S1 (c : Int) (ws : (List Int)) (k : Nat) (k1 : Nat) (v3 : List Int) (v4 : List Int) (k11 : Nat) (g3 : Nat) (g4 : Nat) : St := ⟨[.junk, .junk, .junk, .junk, .junk, .junk, .sl 3 g3 0 v3.length 1, .junk, .junk, .junk, .junk, .junk, .junk, .junk, .junk, .junk, .junk, .junk, .junk, .junk, .junk, .junk, .junk, .junk, .junk, .junk, .junk, .junk, .junk, .junk, .junk, .junk, .junk, .junk, .junk, .junk, .junk, .junk, .junk, .junk, .junk, .junk, .junk, .junk, .junk, .junk, .junk, .junk, .junk, .junk, .sl 4 g4 0 k 1, .int .i64 ((k1 : Nat) : Int), .int .i64 ((k11 : Nat) : Int), .junk, .junk, .junk, .junk, .junk, .junk, .junk, .junk, .junk, .junk, .junk], [⟨true, 0, 1, true, [.int .i64 c], false⟩, ⟨true, 0, 1, true, [.rsl (rowI ws) 0 ws.length], false⟩, ⟨true, 0, 1, true, [.int .i64 (sumI ws)], false⟩, ⟨true, g3, 1, true, (rowI v3), true⟩, ⟨true, g4, 1, true, (rowI v4), true⟩, ⟨true, 0, 1, false, [.clos 65 [] [.ptr 0 0 0, .ptr 1 0 0, .ptr 2 0 0]], false⟩]⟩
def f44G1 (E : Env) (c : Int) (ws : (List Int)) (k : Nat) (k1 : Nat) (v3 : List Int) (v4 : List Int) (k11 : Nat) : Prop := ∀ g3 g4 : Nat, G Try.prog E (f44K1 Try.prog) (f44S1 c ws k k1 v3 v4 k11 g3 g4)
theorem p44_start_0 (c : Int) (ws : (List Int))   {E : Env} {rv : AV} (hE : PureE Try.prog 44 rv E) (o0 : PureF Try.prog (.clos 50 [] []) [.rsl (rowI ws) 0 ws.length] (.int .i64 (sumI ws))) (o2 : 0 ≤ ((ws.length : Nat) : Int) ∧ ((ws.length : Nat) : Int) ≤ ((ws.length : Nat) : Int) ∧ ((ws.length : Nat) : Int) ≤ 2147483648) (o3 : 0 ≤ ((ws.length : Nat) : Int) ∧ ((ws.length : Nat) : Int) ≤ ((ws.length : Nat) : Int) ∧ ((ws.length : Nat) : Int) ≤ 2147483648)
    (hg : G Try.prog E (f44K0 Try.prog) ⟨[.junk, .junk, .ptr 0 0 0, .junk, .junk, .ptr 2 0 0, .sl 3 0 0 (Int.toNat ((ws.length : Nat) : Int)) 1, .sl 4 0 0 (Int.toNat ((ws.length : Nat) : Int)) 1, .ptr 5 0 0, .junk, .junk, .junk, .junk, .junk, .junk, .junk, .junk, .junk, .junk, .junk, .junk, .junk, .rsl (rowI ws) 0 ws.length, .int .i64 ((ws.length : Nat) : Int), .int .i64 0, .junk, .junk, .junk, .junk, .junk, .junk, .junk, .junk, .junk, .junk, .junk, .junk, .junk, .junk, .junk, .junk, .junk, .junk, .junk, .junk, .junk, .junk, .junk, .junk, .junk, .junk, .junk, .junk, .junk, .junk, .junk, .junk, .junk, .junk, .junk, .junk, .junk, .junk, .junk], [⟨true, 0, 1, true, [.int .i64 c], false⟩, ⟨true, 0, 1, true, [.rsl (rowI ws) 0 ws.length], false⟩, ⟨true, 0, 1, true, [.int .i64 (sumI ws)], false⟩, ⟨true, 0, 1, true, ((List.replicate (Int.toNat ((ws.length : Nat) : Int)) ([.int .i64 0] : List AV)).flatten), true⟩, ⟨true, 0, 1, true, ((List.replicate (Int.toNat ((ws.length : Nat) : Int)) ([.int .i64 0] : List AV)).flatten), true⟩, ⟨true, 0, 1, false, [.clos 65 [] [.ptr 0 0 0, .ptr 1 0 0, .ptr 2 0 0]], false⟩]⟩) : G Try.prog E [.code (bodyAt Try.prog 44)] ⟨[.int .i64 c, .rsl (rowI ws) 0 ws.length] ++ unds (Try.f44.ntmps - 2), []⟩ :=
  segC_step (n := 400) (ds := []) (cs := []) (live := [2, 5, 6, 7, 8, 22, 23, 24]) (m := 6) (evs := [.v (.int .i64 (sumI ws)), .stop]) (obs := [PureF Try.prog (.clos 50 [] []) [.rsl (rowI ws) 0 ws.length] (.int .i64 (sumI ws)), 1 ≤ 1, 0 ≤ ((ws.length : Nat) : Int) ∧ ((ws.length : Nat) : Int) ≤ ((ws.length : Nat) : Int) ∧ ((ws.length : Nat) : Int) ≤ 2147483648, 0 ≤ ((ws.length : Nat) : Int) ∧ ((ws.length : Nat) : Int) ≤ ((ws.length : Nat) : Int) ∧ ((ws.length : Nat) : Int) ≤ 2147483648, 1 ≤ 1]) hE.2.1 (hE.nogh _) mixed (by kernel_rfl) ⟨o0, (by decide), o2, o3, (by decide), trivial⟩ hg
theorem f44W (c : Int) (ws : (List Int)) {E : Env} {rv : (List Int)} (hE : PureE Try.prog 44 (.rsl (rowI rv) 0 rv.length) E)
    (h : ((SumOk ws) ∧ (ws.length ≤ 2147483648 ∧ (ws.length ≤ 2147483648 ∧ f44G0 E c ws (List.replicate ws.length (0 : Int)) (List.replicate ws.length (0 : Int)) 0)))) : G Try.prog E [.code (bodyAt Try.prog 44)] ⟨[.int .i64 c, .rsl (rowI ws) 0 ws.length] ++ unds (Try.f44.ntmps - 2), []⟩ := by
  obtain ⟨h1, h⟩ := h
  obtain ⟨h2, h⟩ := h
  obtain ⟨h3, h⟩ := h
  refine p44_start_0 c ws    hE (pureF_of Try.func50 (by kernel_rfl) f50b (sum_ok ws h1)) ⟨by omega, by omega, by have := h2; omega⟩ ⟨by omega, by omega, by have := h3; omega⟩ ?_
  have h := (h 0 0)
  simp only [f44G0, f44S0, List.length_set, List.length_replicate] at h
  rw [(show (List.replicate (Int.toNat ((ws.length : Nat) : Int)) ([.int .i64 0] : List AV)).flatten = rowI (List.replicate ws.length (0 : Int)) from row_rep cI _ _)]
  exact h
theorem p44_0_0 (c : Int) (ws : (List Int)) (v3 : List Int) (v4 : List Int) (i : Nat) (g3 : Nat) (g4 : Nat) (e : Int) (e1 : Int) (e2 : Int)  {E : Env} {rv : AV} (hE : PureE Try.prog 44 rv E) (o0 : (decide (((i : Nat) : Int) < ((ws.length : Nat) : Int))) = true) (o2 : 0 ≤ ((i : Nat) : Int) ∧ ((i : Nat) : Int) < ((ws.length : Nat) : Int)) (o3 : ((rowI ws).drop (0 + (Int.toNat ((i : Nat) : Int)) * 1)).take 1 = [.int .i64 e]) (o4 : InR .i64 (c * e)) (o5 : InR .i64 (Int.tdiv (c * e) (sumI ws))) (o6 : (sumI ws) ≠ 0) (o8 : 0 ≤ ((i : Nat) : Int) ∧ ((i : Nat) : Int) < ((v3.length : Nat) : Int)) (o10 : ((0 + (Int.toNat ((i : Nat) : Int)) * 1) + 1) ≤ (rowI v3).length) (o13 : 0 ≤ ((i : Nat) : Int) ∧ ((i : Nat) : Int) < ((v4.length : Nat) : Int)) (o15 : ((0 + (Int.toNat ((i : Nat) : Int)) * 1) + 1) ≤ (rowI v4).length) (o17 : InR .i64 (((i : Nat) : Int) + 1))
    (hg : G Try.prog E (f44K0 Try.prog) ⟨[.junk, .junk, .ptr 0 0 0, .junk, .junk, .ptr 2 0 0, .sl 3 g3 0 v3.length 1, .sl 4 g4 0 v4.length 1, .ptr 5 0 0, .junk, .junk, .junk, .junk, .junk, .junk, .junk, .junk, .junk, .junk, .junk, .junk, .junk, .rsl (rowI ws) 0 ws.length, .int .i64 ((ws.length : Nat) : Int), .int .i64 (((i : Nat) : Int) + 1), .junk, .junk, .junk, .junk, .junk, .junk, .junk, .junk, .junk, .junk, .junk, .junk, .junk, .junk, .junk, .junk, .junk, .junk, .junk, .junk, .junk, .junk, .junk, .junk, .junk, .junk, .junk, .junk, .junk, .junk, .junk, .junk, .junk, .junk, .junk, .junk, .junk, .junk, .junk], [⟨true, 0, 1, true, [.int .i64 c], false⟩, ⟨true, 0, 1, true, [.rsl (rowI ws) 0 ws.length], false⟩, ⟨true, 0, 1, true, [.int .i64 (sumI ws)], false⟩, ⟨true, g3, 1, true, (setAt (rowI v3) (0 + (Int.toNat ((i : Nat) : Int)) * 1) [.int .i64 (Int.tdiv (c * e) (sumI ws))]), true⟩, ⟨true, g4, 1, true, (setAt (rowI v4) (0 + (Int.toNat ((i : Nat) : Int)) * 1) [.int .i64 ((i : Nat) : Int)]), true⟩, ⟨true, 0, 1, false, [.clos 65 [] [.ptr 0 0 0, .ptr 1 0 0, .ptr 2 0 0]], false⟩]⟩) : G Try.prog E (f44K0 Try.prog) (f44S0 c ws v3 v4 i g3 g4) :=
  segC_step (n := 400) (ds := []) (cs := []) (live := [2, 5, 6, 7, 8, 22, 23, 24]) (m := 6) (evs := [.b true, .ld (.int .i64 e), .stop]) (obs := [(decide (((i : Nat) : Int) < ((ws.length : Nat) : Int))) = true, 0 ≤ ((i : Nat) : Int) ∧ ((i : Nat) : Int) < ((ws.length : Nat) : Int), ((rowI ws).drop (0 + (Int.toNat ((i : Nat) : Int)) * 1)).take 1 = [.int .i64 e], InR .i64 (c * e), InR .i64 (Int.tdiv (c * e) (sumI ws)), (sumI ws) ≠ 0, 0 ≤ ((i : Nat) : Int) ∧ ((i : Nat) : Int) < ((v3.length : Nat) : Int), g3 = g3, ((0 + (Int.toNat ((i : Nat) : Int)) * 1) + 1) ≤ (rowI v3).length, g3 = g3, 0 ≤ ((i : Nat) : Int) ∧ ((i : Nat) : Int) < ((v4.length : Nat) : Int), g4 = g4, ((0 + (Int.toNat ((i : Nat) : Int)) * 1) + 1) ≤ (rowI v4).length, g4 = g4, InR .i64 (((i : Nat) : Int) + 1)]) hE.2.1 (hE.nogh _) mixed (by kernel_rfl) ⟨o0, o2, o3, o4, o5, o6, o8, (rfl), o10, (rfl), o13, (rfl), o15, (rfl), o17, trivial⟩ hg
theorem p44_0_1 (c : Int) (ws : (List Int)) (v3 : List Int) (v4 : List Int) (i : Nat) (g3 : Nat) (g4 : Nat)  {E : Env} {rv : AV} (hE : PureE Try.prog 44 rv E) (o0 : (decide (((i : Nat) : Int) < ((ws.length : Nat) : Int))) = false) (o1 : LentF Try.prog (.clos 66 [] []) [.sl 0 g4 0 v4.length 1, .clos 67 [] [.ptr 1 0 0]] [⟨true, g4, 1, true, (rowI v4), true⟩, ⟨true, 0, 1, false, [.clos 65 [] [.ptr 2 0 0, .ptr 3 0 0, .ptr 4 0 0]], false⟩, ⟨true, 0, 1, true, [.int .i64 c], false⟩, ⟨true, 0, 1, true, [.rsl (rowI ws) 0 ws.length], false⟩, ⟨true, 0, 1, true, [.int .i64 (sumI ws)], false⟩] (.tup []) [⟨true, g4, 1, true, (rowI (sortI (ltI c ws (sumI ws)) v4)), true⟩, ⟨true, 0, 1, false, [.clos 65 [] [.ptr 2 0 0, .ptr 3 0 0, .ptr 4 0 0]], false⟩, ⟨true, 0, 1, true, [.int .i64 c], false⟩, ⟨true, 0, 1, true, [.rsl (rowI ws) 0 ws.length], false⟩, ⟨true, 0, 1, true, [.int .i64 (sumI ws)], false⟩]) (o2 : PureF Try.prog (.clos 50 [] []) [.rsl (rowI v3) 0 v3.length] (.int .i64 (sumI v3))) (o4 : InR .i64 (c - (sumI v3))) (o6 : (Int.toNat (c - (sumI v3))) ≤ v4.length) (o7 : 0 ≤ (c - (sumI v3)))
    (hg : G Try.prog E (f44K1 Try.prog) ⟨[.junk, .junk, .junk, .junk, .junk, .junk, .sl 3 g3 0 v3.length 1, .junk, .junk, .junk, .junk, .junk, .junk, .junk, .junk, .junk, .junk, .junk, .junk, .junk, .junk, .junk, .junk, .junk, .junk, .junk, .junk, .junk, .junk, .junk, .junk, .junk, .junk, .junk, .junk, .junk, .junk, .junk, .junk, .junk, .junk, .junk, .junk, .junk, .junk, .junk, .junk, .junk, .junk, .junk, .sl 4 g4 0 (Int.toNat (c - (sumI v3))) 1, .int .i64 (((Int.toNat (c - (sumI v3))) : Nat) : Int), .int .i64 0, .junk, .junk, .junk, .junk, .junk, .junk, .junk, .junk, .junk, .junk, .junk], [⟨true, 0, 1, true, [.int .i64 c], false⟩, ⟨true, 0, 1, true, [.rsl (rowI ws) 0 ws.length], false⟩, ⟨true, 0, 1, true, [.int .i64 (sumI ws)], false⟩, ⟨true, g3, 1, true, (rowI v3), true⟩, ⟨true, g4, 1, true, (rowI (sortI (ltI c ws (sumI ws)) v4)), true⟩, ⟨true, 0, 1, false, [.clos 65 [] [.ptr 0 0 0, .ptr 1 0 0, .ptr 2 0 0]], false⟩]⟩) : G Try.prog E (f44K0 Try.prog) (f44S0 c ws v3 v4 i g3 g4) :=
  segC_step (n := 400) (ds := []) (cs := []) (live := [6, 50, 51, 52]) (m := 6) (evs := [.b false, .lent [4, 5, 0, 1, 2] (.tup []) [⟨true, g4, 1, true, (rowI (sortI (ltI c ws (sumI ws)) v4)), true⟩, ⟨true, 0, 1, false, [.clos 65 [] [.ptr 2 0 0, .ptr 3 0 0, .ptr 4 0 0]], false⟩, ⟨true, 0, 1, true, [.int .i64 c], false⟩, ⟨true, 0, 1, true, [.rsl (rowI ws) 0 ws.length], false⟩, ⟨true, 0, 1, true, [.int .i64 (sumI ws)], false⟩], .v (.int .i64 (sumI v3)), .stop]) (obs := [(decide (((i : Nat) : Int) < ((ws.length : Nat) : Int))) = false, LentF Try.prog (.clos 66 [] []) [.sl 0 g4 0 v4.length 1, .clos 67 [] [.ptr 1 0 0]] [⟨true, g4, 1, true, (rowI v4), true⟩, ⟨true, 0, 1, false, [.clos 65 [] [.ptr 2 0 0, .ptr 3 0 0, .ptr 4 0 0]], false⟩, ⟨true, 0, 1, true, [.int .i64 c], false⟩, ⟨true, 0, 1, true, [.rsl (rowI ws) 0 ws.length], false⟩, ⟨true, 0, 1, true, [.int .i64 (sumI ws)], false⟩] (.tup []) [⟨true, g4, 1, true, (rowI (sortI (ltI c ws (sumI ws)) v4)), true⟩, ⟨true, 0, 1, false, [.clos 65 [] [.ptr 2 0 0, .ptr 3 0 0, .ptr 4 0 0]], false⟩, ⟨true, 0, 1, true, [.int .i64 c], false⟩, ⟨true, 0, 1, true, [.rsl (rowI ws) 0 ws.length], false⟩, ⟨true, 0, 1, true, [.int .i64 (sumI ws)], false⟩], PureF Try.prog (.clos 50 [] []) [.rsl (rowI v3) 0 v3.length] (.int .i64 (sumI v3)), g3 = g3, InR .i64 (c - (sumI v3)), 0 ≤ (Int.toNat (c - (sumI v3))), (Int.toNat (c - (sumI v3))) ≤ v4.length, 0 ≤ (c - (sumI v3)), g4 = g4, g4 = g4]) hE.2.1 (hE.nogh _) mixed (by kernel_rfl) ⟨o0, o1, o2, (rfl), o4, (Nat.zero_le _), o6, o7, (rfl), (rfl), trivial⟩ hg
theorem f44W0 (c : Int) (ws : (List Int)) (v3 : List Int) (v4 : List Int) (i : Nat) {E : Env} {rv : (List Int)} (hE : PureE Try.prog 44 (.rsl (rowI rv) 0 rv.length) E)
    (h : ((((i : Nat) : Int) < ((ws.length : Nat) : Int) → (∃ e : Int, ws[i]? = some e ∧ ((-9223372036854775808 ≤ c * e ∧ c * e ≤ 9223372036854775807) ∧ ((-9223372036854775808 ≤ Int.tdiv (c * e) (sumI ws) ∧ Int.tdiv (c * e) (sumI ws) ≤ 9223372036854775807) ∧ ((sumI ws) ≠ 0 ∧ (∃ e1 : Int, v3[i]? = some e1 ∧ (∃ e2 : Int, v4[i]? = some e2 ∧ ((-9223372036854775808 ≤ ((i : Nat) : Int) + 1 ∧ ((i : Nat) : Int) + 1 ≤ 9223372036854775807) ∧ f44G0 E c ws (v3.set i (Int.tdiv (c * e) (sumI ws))) (v4.set i ((i : Nat) : Int)) (i + 1))))))))) ∧ (¬ (((i : Nat) : Int) < ((ws.length : Nat) : Int)) → (((∀ x ∈ v4, KeyOk c ws (sumI ws) x) ∧ v4.length ≤ 15) ∧ ((SumOk v3) ∧ ((-9223372036854775808 ≤ c - (sumI v3) ∧ c - (sumI v3) ≤ 9223372036854775807) ∧ ((Int.toNat (c - (sumI v3))) ≤ v4.length ∧ (0 ≤ (c - (sumI v3)) ∧ f44G1 E c ws (Int.toNat (c - (sumI v3))) (Int.toNat (c - (sumI v3))) v3 (sortI (ltI c ws (sumI ws)) v4) 0)))))))) : f44G0 E c ws v3 v4 i := by
  intro g3 g4
  rcases Bool.eq_false_or_eq_true (decide (((i : Nat) : Int) < ((ws.length : Nat) : Int))) with hc0 | hc0
  · have h := h.1 (of_decide_eq_true hc0)
    obtain ⟨e, h1, h⟩ := h
    obtain ⟨q4_1, h⟩ := h
    obtain ⟨q5_1, h⟩ := h
    obtain ⟨q6_1, h⟩ := h
    obtain ⟨e1, h2, h⟩ := h
    obtain ⟨e2, h3, h⟩ := h
    obtain ⟨q17_1, h⟩ := h
    refine p44_0_0 c ws v3 v4 i g3 g4 e e1 e2 hE hc0 (idx_ok h1) (row_part cI (s := 1) (k := 0) (m := 1) (fun _ => rfl) (by decide) h1) q4_1 q5_1 q6_1 (idx_ok h2) (row_fits cI (s := 1) (k := 0) (m := 1) (fun _ => rfl) (by decide) h2) (idx_ok h3) (row_fits cI (s := 1) (k := 0) (m := 1) (fun _ => rfl) (by decide) h3) q17_1 ?_
    have h := (h g3 g4)
    simp only [f44S0, List.length_set] at h
    rw [(show setAt (rowI v3) (0 + (Int.toNat ((i : Nat) : Int)) * 1) [.int .i64 (Int.tdiv (c * e) (sumI ws))] = rowI (v3.set i (Int.tdiv (c * e) (sumI ws))) from row_set cI (s := 1) (k := 0) (fun _ => rfl) h2 rfl (by first | decide | simp))]; rw [(show setAt (rowI v4) (0 + (Int.toNat ((i : Nat) : Int)) * 1) [.int .i64 ((i : Nat) : Int)] = rowI (v4.set i ((i : Nat) : Int)) from row_set cI (s := 1) (k := 0) (fun _ => rfl) h3 rfl (by first | decide | simp))]
    exact h
  · have h := h.2 (of_decide_eq_false hc0)
    obtain ⟨h1, h⟩ := h
    obtain ⟨h2, h⟩ := h
    obtain ⟨q4_1, h⟩ := h
    obtain ⟨q6_1, h⟩ := h
    obtain ⟨q7_1, h⟩ := h
    refine p44_0_1 c ws v3 v4 i g3 g4  hE hc0 (lentF_of Try.func66 (by kernel_rfl) f66b (sort_ok v4 c ws (sumI ws) g4  h1)) (pureF_of Try.func50 (by kernel_rfl) f50b (sum_ok v3 h2)) q4_1 q6_1 q7_1 ?_
    have h := (h g3 g4)
    simp only [f44G1, f44S1, List.length_set, sortI_len] at h
    skip
    exact h
theorem p44_1_0 (c : Int) (ws : (List Int)) (k : Nat) (k1 : Nat) (v3 : List Int) (v4 : List Int) (k11 : Nat) (g3 : Nat) (g4 : Nat) (e : Int) (e1 : Int)  {E : Env} {rv : AV} (hE : PureE Try.prog 44 rv E) (o0 : (decide (((k11 : Nat) : Int) < ((k1 : Nat) : Int))) = true) (o3 : 0 ≤ ((k11 : Nat) : Int) ∧ ((k11 : Nat) : Int) < ((k : Nat) : Int)) (o6 : ((rowI v4).drop (0 + (Int.toNat ((k11 : Nat) : Int)) * 1)).take 1 = [.int .i64 e]) (o8 : 0 ≤ e ∧ e < ((v3.length : Nat) : Int)) (o11 : ((rowI v3).drop (0 + (Int.toNat e) * 1)).take 1 = [.int .i64 e1]) (o12 : InR .i64 (e1 + 1)) (o13 : 0 ≤ e ∧ e < ((v3.length : Nat) : Int)) (o15 : ((0 + (Int.toNat e) * 1) + 1) ≤ (rowI v3).length) (o17 : InR .i64 (((k11 : Nat) : Int) + 1))
    (hg : G Try.prog E (f44K1 Try.prog) ⟨[.junk, .junk, .junk, .junk, .junk, .junk, .sl 3 g3 0 v3.length 1, .junk, .junk, .junk, .junk, .junk, .junk, .junk, .junk, .junk, .junk, .junk, .junk, .junk, .junk, .junk, .junk, .junk, .junk, .junk, .junk, .junk, .junk, .junk, .junk, .junk, .junk, .junk, .junk, .junk, .junk, .junk, .junk, .junk, .junk, .junk, .junk, .junk, .junk, .junk, .junk, .junk, .junk, .junk, .sl 4 g4 0 k 1, .int .i64 ((k1 : Nat) : Int), .int .i64 (((k11 : Nat) : Int) + 1), .junk, .junk, .junk, .junk, .junk, .junk, .junk, .junk, .junk, .junk, .junk], [⟨true, 0, 1, true, [.int .i64 c], false⟩, ⟨true, 0, 1, true, [.rsl (rowI ws) 0 ws.length], false⟩, ⟨true, 0, 1, true, [.int .i64 (sumI ws)], false⟩, ⟨true, g3, 1, true, (setAt (rowI v3) (0 + (Int.toNat e) * 1) [.int .i64 (e1 + 1)]), true⟩, ⟨true, g4, 1, true, (rowI v4), true⟩, ⟨true, 0, 1, false, [.clos 65 [] [.ptr 0 0 0, .ptr 1 0 0, .ptr 2 0 0]], false⟩]⟩) : G Try.prog E (f44K1 Try.prog) (f44S1 c ws k k1 v3 v4 k11 g3 g4) :=
  segC_step (n := 400) (ds := []) (cs := []) (live := [6, 50, 51, 52]) (m := 6) (evs := [.b true, .ld (.int .i64 e), .ld (.int .i64 e1), .stop]) (obs := [(decide (((k11 : Nat) : Int) < ((k1 : Nat) : Int))) = true, 0 ≤ ((k11 : Nat) : Int) ∧ ((k11 : Nat) : Int) < ((k : Nat) : Int), g4 = g4, g4 = g4, ((rowI v4).drop (0 + (Int.toNat ((k11 : Nat) : Int)) * 1)).take 1 = [.int .i64 e], 0 ≤ e ∧ e < ((v3.length : Nat) : Int), g3 = g3, g3 = g3, ((rowI v3).drop (0 + (Int.toNat e) * 1)).take 1 = [.int .i64 e1], InR .i64 (e1 + 1), 0 ≤ e ∧ e < ((v3.length : Nat) : Int), g3 = g3, ((0 + (Int.toNat e) * 1) + 1) ≤ (rowI v3).length, g3 = g3, InR .i64 (((k11 : Nat) : Int) + 1)]) hE.2.1 (hE.nogh _) mixed (by kernel_rfl) ⟨o0, o3, (rfl), (rfl), o6, o8, (rfl), (rfl), o11, o12, o13, (rfl), o15, (rfl), o17, trivial⟩ hg
theorem p44_1_1 (c : Int) (ws : (List Int)) (k : Nat) (k1 : Nat) (v3 : List Int) (v4 : List Int) (k11 : Nat) (g3 : Nat) (g4 : Nat)  {E : Env} {res : AV} (hE : PureE Try.prog 44 res E) (o0 : (decide (((k11 : Nat) : Int) < ((k1 : Nat) : Int))) = false)
    (hr : AvLe (.rsl (rowI v3) 0 v3.length) res) : G Try.prog E (f44K1 Try.prog) (f44S1 c ws k k1 v3 v4 k11 g3 g4) :=
  end_stepL (n := 400) (evs := [.b false]) (obs := [(decide (((k11 : Nat) : Int) < ((k1 : Nat) : Int))) = false, g3 = g3]) hE Try.func44 mixed (by kernel_rfl) ⟨o0, (rfl), trivial⟩ hr
theorem f44W1 (c : Int) (ws : (List Int)) (k : Nat) (k1 : Nat) (v3 : List Int) (v4 : List Int) (k11 : Nat) {E : Env} {rv : (List Int)} (hE : PureE Try.prog 44 (.rsl (rowI rv) 0 rv.length) E)
    (h : ((((k11 : Nat) : Int) < ((k1 : Nat) : Int) → (∃ e : Int, v4[k11]? = some e ∧ (((k11 : Nat) : Int) < ((k : Nat) : Int) ∧ (0 ≤ e ∧ (∃ e1 : Int, v3[Int.toNat e]? = some e1 ∧ ((-9223372036854775808 ≤ e1 + 1 ∧ e1 + 1 ≤ 9223372036854775807) ∧ ((-9223372036854775808 ≤ ((k11 : Nat) : Int) + 1 ∧ ((k11 : Nat) : Int) + 1 ≤ 9223372036854775807) ∧ f44G1 E c ws k k1 (v3.set (Int.toNat e) (e1 + 1)) v4 (k11 + 1)))))))) ∧ (¬ (((k11 : Nat) : Int) < ((k1 : Nat) : Int)) → rv = v3))) : f44G1 E c ws k k1 v3 v4 k11 := by
  intro g3 g4
  rcases Bool.eq_false_or_eq_true (decide (((k11 : Nat) : Int) < ((k1 : Nat) : Int))) with hc0 | hc0
  · have h := h.1 (of_decide_eq_true hc0)
    obtain ⟨e, h1, h⟩ := h
    obtain ⟨h2, h⟩ := h
    obtain ⟨h4, h⟩ := h
    obtain ⟨e1, h3, h⟩ := h
    obtain ⟨q12_1, h⟩ := h
    obtain ⟨q17_1, h⟩ := h
    refine p44_1_0 c ws k k1 v3 v4 k11 g3 g4 e e1 hE hc0 ⟨by omega, h2⟩ (row_part cI (s := 1) (k := 0) (m := 1) (fun _ => rfl) (by decide) h1) (idx_ok' h4 h3) (row_part cI (s := 1) (k := 0) (m := 1) (fun _ => rfl) (by decide) h3) q12_1 (idx_ok' h4 h3) (row_fits cI (s := 1) (k := 0) (m := 1) (fun _ => rfl) (by decide) h3) q17_1 ?_
    have h := (h g3 g4)
    simp only [f44S1, List.length_set] at h
    rw [(show setAt (rowI v3) (0 + (Int.toNat e) * 1) [.int .i64 (e1 + 1)] = rowI (v3.set (Int.toNat e) (e1 + 1)) from row_set cI (s := 1) (k := 0) (fun _ => rfl) h3 rfl (by first | decide | simp))]
    exact h
  · have h := h.2 (of_decide_eq_false hc0)
    exact p44_1_1 c ws k k1 v3 v4 k11 g3 g4  hE hc0 (AvLe.of_eq (by rw [h]; try rfl))

theorem sortI_mem {lt : Int → Int → Bool} {l : List Int} {x : Int} (h : x ∈ sortI lt l) : x ∈ l := by
  have : ∀ (xs : List Nat) (l : List Int) (x : Int), x ∈ xs.foldl (fun l k => sink lt (k + 1) l) l → x ∈ l := by
    intro xs
    induction xs with
    | nil => intro l x h; exact h
    | cons y xs ih => intro l x h; rw [List.foldl_cons] at h; exact sink_mem (ih _ _ h)
  exact this _ _ _ h

def shareI (c S w : Int) : Int := Int.tdiv (c * w) S
def baseI (c : Int) (ws : List Int) : List Int := ws.map (shareI c (sumI ws))
def orderI (c : Int) (ws : List Int) : List Int := sortI (ltI c ws (sumI ws)) ((List.range ws.length).map fun i : Nat => (i : Int))
def bump (l : List Int) (e : Int) : List Int := l.set (Int.toNat e) (l.getD (Int.toNat e) 0 + 1)
/-- The program's split: the shares rounded down, and a cent more for those first in the order. -/
def splitI (c : Int) (ws : List Int) : List Int := ((orderI c ws).take (Int.toNat (c - sumI (baseI c ws)))).foldl bump (baseI c ws)

structure SplitOk (c : Int) (ws : List Int) : Prop where
  len1 : 1 ≤ ws.length
  len : ws.length ≤ 10
  w : ∀ x ∈ ws, 0 ≤ x ∧ x ≤ 1000
  pos : 0 < sumI ws
  c0 : 0 ≤ c
  c1 : c ≤ 1000000000

theorem sum_bd {B : Int} (hB : 0 ≤ B) : ∀ {l : List Int}, (∀ x ∈ l, 0 ≤ x ∧ x ≤ B) → 0 ≤ l.sum ∧ l.sum ≤ B * (l.length : Int)
  | [], _ => by simp
  | x :: l, h => by
    have h1 := h x (by simp)
    have h2 := sum_bd hB (l := l) (fun y hy => h y (by simp [hy]))
    rw [List.sum_cons, List.length_cons, Int.natCast_add, Int.mul_add]
    omega

theorem sumOk_bd {B : Int} {l : List Int} (hB : 0 ≤ B) (hB2 : B ≤ 1000000000000000) (hl : l.length ≤ 1000) (h : ∀ x ∈ l, 0 ≤ x ∧ x ≤ B) : SumOk l := by
  refine ⟨by omega, fun k hk => ?_⟩
  have h1 := sum_bd hB (l := l.take k) (fun x hx => h x (List.mem_of_mem_take hx))
  have h2 : (((l.take k).length : Nat) : Int) ≤ 1000 := by rw [List.length_take]; omega
  have h3 : B * (((l.take k).length : Nat) : Int) ≤ 1000000000000000 * 1000 := Int.mul_le_mul hB2 h2 (by omega) (by omega)
  omega

theorem share_bd {c S w : Int} (hS : 0 < S) (hc : 0 ≤ c) (hw : 0 ≤ w) : 0 ≤ shareI c S w ∧ S * shareI c S w ≤ c * w ∧ c * w ≤ S * shareI c S w + S ∧ shareI c S w ≤ c * w := by
  have h0 : 0 ≤ c * w := Int.mul_nonneg hc hw
  have e : shareI c S w = (c * w) / S := Int.tdiv_eq_ediv_of_nonneg h0
  have h1 := Int.ediv_nonneg h0 (Int.le_of_lt hS)
  have h2 := Int.mul_ediv_self_le (x := c * w) (k := S) (by omega)
  have h3 := Int.lt_mul_ediv_self_add (x := c * w) hS
  have h4 := Int.ediv_le_self S h0
  rw [e]
  exact ⟨h1, h2, by omega, h4⟩

theorem share_sum {c S : Int} (hS : 0 < S) (hc : 0 ≤ c) : ∀ {l : List Int}, (∀ w ∈ l, 0 ≤ w) → S * (l.map (shareI c S)).sum ≤ c * l.sum ∧ c * l.sum ≤ S * (l.map (shareI c S)).sum + S * (l.length : Int)
  | [], _ => by simp
  | w :: l, h => by
    obtain ⟨-, h1, h2, -⟩ := share_bd hS hc (h w (by simp))
    have h3 := share_sum hS hc (l := l) (fun y hy => h y (by simp [hy]))
    rw [List.map_cons, List.sum_cons, List.sum_cons, List.length_cons, Int.natCast_add, Int.mul_add, Int.mul_add, Int.mul_add]
    omega

theorem mul_le_of {c w : Int} (hc : 0 ≤ c ∧ c ≤ 1000000000) (hw : 0 ≤ w ∧ w ≤ 1000) : 0 ≤ c * w ∧ c * w ≤ 1000000000000 := by
  have h1 := Int.mul_nonneg hc.1 hw.1
  have h2 : c * w ≤ 1000000000 * 1000 := Int.mul_le_mul hc.2 hw.2 hw.1 (by omega)
  omega

theorem base_left {c : Int} {ws : List Int} (h : SplitOk c ws) : sumI (baseI c ws) ≤ c ∧ c ≤ sumI (baseI c ws) + ws.length := by
  have h1 := share_sum h.pos h.c0 (l := ws) (fun w hw => (h.w w hw).1)
  have hS := h.pos
  simp only [sumI, baseI] at *
  constructor
  · have : ws.sum * (ws.map (shareI c ws.sum)).sum ≤ ws.sum * c := by rw [Int.mul_comm ws.sum c]; exact h1.1
    exact Int.le_of_mul_le_mul_left this hS
  · have : ws.sum * c ≤ ws.sum * ((ws.map (shareI c ws.sum)).sum + ws.length) := by rw [Int.mul_comm ws.sum c, Int.mul_add]; exact h1.2
    exact Int.le_of_mul_le_mul_left this hS

theorem fill_set {α : Type} (xs : List α) (z y : α) (m n : Nat) (hn : n = m + 1) {i : Nat} (hi : i = xs.length) : (xs ++ List.replicate n z).set i y = (xs ++ [y]) ++ List.replicate m z := by
  subst hn; subst hi
  rw [List.set_append_right _ _ (Nat.le_refl _), Nat.sub_self, List.replicate_succ, List.set_cons_zero, List.append_assoc]; rfl

theorem fill_get {α : Type} (xs : List α) (z : α) (m n : Nat) (hn : n = m + 1) {i : Nat} (hi : i = xs.length) : (xs ++ List.replicate n z)[i]? = some z := by
  subst hn; subst hi
  rw [List.getElem?_append_right (Nat.le_refl _), Nat.sub_self, List.replicate_succ]; rfl

theorem key_ok_of {c : Int} {ws : List Int} (h : SplitOk c ws) {x : Int} (h0 : 0 ≤ x) (h1 : x < ws.length) : KeyOk c ws (sumI ws) x := by
  have hg : ws[Int.toNat x]? = some (ws.getD (Int.toNat x) 0) := by simp [List.getD, show Int.toNat x < ws.length by omega]
  have hw := h.w _ (List.mem_of_getElem? hg)
  have := mul_le_of ⟨h.c0, h.c1⟩ hw
  have := h.pos
  exact ⟨h0, h1, by omega, by omega⟩

theorem split_ok (c : Int) (ws : List Int) (h : SplitOk c ws) : Pure Try.prog 44 [.int .i64 c, .rsl (rowI ws) 0 ws.length] (.rsl (rowI (splitI c ws)) 0 (splitI c ws).length) := pure_of Try.func44 f44b fun E hE => by
  have hS := h.pos
  have hlen := h.len
  have hb := base_left h
  have bd : ∀ x ∈ baseI c ws, 0 ≤ x ∧ x ≤ 1000000000000 := by
    intro x hx
    obtain ⟨w, hw, rfl⟩ := List.mem_map.1 hx
    have h1 := share_bd hS h.c0 (h.w w hw).1
    have h2 := mul_le_of ⟨h.c0, h.c1⟩ (h.w w hw)
    omega
  have hbl : (baseI c ws).length = ws.length := by simp [baseI]
  have hol : (orderI c ws).length = ws.length := by simp [orderI, sortI_len]
  have hom : ∀ x ∈ orderI c ws, 0 ≤ x ∧ x < ws.length := by
    intro x hx
    obtain ⟨i, hi, rfl⟩ := List.mem_map.1 (sortI_mem hx)
    have := List.mem_range.1 hi
    omega
  -- the cents that are left
  have last : ∀ (d i : Nat) (v : List Int), i + d = Int.toNat (c - sumI (baseI c ws)) → v = ((orderI c ws).take i).foldl bump (baseI c ws) → v.length = ws.length → (∀ x ∈ v, 0 ≤ x ∧ x ≤ 1000000000000 + i) →
      f44G1 E c ws (Int.toNat (c - sumI (baseI c ws))) (Int.toNat (c - sumI (baseI c ws))) v (orderI c ws) i := by
    intro d
    induction d with
    | zero =>
      intro i v hd hv hvl hvb
      refine f44W1 c ws _ _ v _ i (rv := splitI c ws) hE ⟨fun h => by omega, fun _ => ?_⟩
      rw [hv, splitI, ← hd]; rfl
    | succ d ih =>
      intro i v hd hv hvl hvb
      have hi : (orderI c ws)[i]? = some (orderI c ws)[i] := List.getElem?_eq_getElem (by omega)
      have h1 := hom _ (List.mem_of_getElem? hi)
      have h2 : v[Int.toNat (orderI c ws)[i]]? = some (v.getD (Int.toNat (orderI c ws)[i]) 0) := by simp [List.getD, show Int.toNat (orderI c ws)[i] < v.length by omega]
      have h3 := hvb _ (List.mem_of_getElem? h2)
      refine f44W1 c ws _ _ v _ i (rv := splitI c ws) hE ⟨fun _ => ⟨_, hi, by omega, h1.1, _, h2, by omega, by omega, ih (i + 1) _ (by omega) ?_ (by simp [hvl]) (fun x hx => ?_)⟩, fun h => by omega⟩
      · rw [List.take_add_one, hi, List.foldl_append, ← hv]; rfl
      · rcases List.mem_or_eq_of_mem_set hx with hx | rfl
        · have := hvb x hx; omega
        · omega
  -- the shares
  have first : ∀ (d i : Nat), i + d = ws.length → f44G0 E c ws ((ws.take i).map (shareI c (sumI ws)) ++ List.replicate d 0) ((List.range i).map (fun i : Nat => (i : Int)) ++ List.replicate d 0) i := by
    intro d
    induction d with
    | zero =>
      intro i hd
      have e1 : (ws.take i).map (shareI c (sumI ws)) = baseI c ws := by rw [List.take_of_length_le (by omega)]; rfl
      have e2 : i = ws.length := by omega
      rw [e1, List.replicate_zero, List.append_nil, List.append_nil, e2]
      refine f44W0 c ws _ _ _ (rv := splitI c ws) hE ⟨fun h => by omega, fun _ => ⟨⟨fun x hx => ?_, by simp; omega⟩, sumOk_bd (B := 1000000000000) (by omega) (by omega) (by omega) bd, by omega, by simp; omega, by omega, ?_⟩⟩
      · obtain ⟨j, hj, rfl⟩ := List.mem_map.1 hx
        have := List.mem_range.1 hj
        exact key_ok_of h (by omega) (by omega)
      · exact last (Int.toNat (c - sumI (baseI c ws))) 0 _ (by omega) rfl hbl (fun x hx => by have := bd x hx; omega)
    | succ d ih =>
      intro i hd
      have hi : ws[i]? = some ws[i] := List.getElem?_eq_getElem (by omega)
      have hw := h.w _ (List.mem_of_getElem? hi)
      have h1 := share_bd hS h.c0 hw.1
      have h2 := mul_le_of ⟨h.c0, h.c1⟩ hw
      have h3 := ih (i + 1) (by omega)
      have l1 : i = ((ws.take i).map (shareI c (sumI ws))).length := by simp; omega
      have l2 : i = ((List.range i).map (fun i : Nat => (i : Int))).length := by simp
      have g1 : ((ws.take i).map (shareI c (sumI ws)) ++ List.replicate (d + 1) 0)[i]? = some 0 := fill_get _ _ d _ rfl l1
      have g2 : ((List.range i).map (fun i : Nat => (i : Int)) ++ List.replicate (d + 1) 0)[i]? = some 0 := fill_get _ _ d _ rfl l2
      refine f44W0 c ws _ _ i (rv := splitI c ws) hE ⟨fun _ => ⟨_, hi, by omega, ?_, by omega, _, g1, _, g2, by omega, ?_⟩, fun h => by omega⟩
      · simp only [shareI] at h1; omega
      · rw [fill_set _ _ _ d _ rfl l1, fill_set _ _ _ d _ rfl l2]
        rw [List.take_add_one, hi, List.map_append, List.range_succ, List.map_append] at h3
        exact h3
  refine f44W c ws (rv := splitI c ws) hE ⟨sumOk_bd (B := 1000) (by omega) (by omega) (by omega) h.w, by omega, by omega, first ws.length 0 (by omega)⟩

end Go.Proofs.Ytmdbebbibecidaa

namespace Go.Proofs.Ytmdbebbibecidaa
open Go Ax
open Go.Proofs

def weightedB (ws : List Int) : Bool := within ws.length 1 10 && (!(ws.any fun x => !within x 0 1000) && decide (sumI ws > 0))

theorem within_iff {n lo hi : Int} : within n lo hi = true ↔ lo ≤ n ∧ n ≤ hi := by simp [within]

theorem weights_of {ws : List Int} (h : (ws.any fun x => !within x 0 1000) = false) : ∀ x ∈ ws, 0 ≤ x ∧ x ≤ 1000 := by
  intro x hx
  rw [List.any_eq_false] at h
  have := h x hx
  simp only [Bool.not_eq_true', Bool.not_eq_false] at this
  exact within_iff.1 (by simpa using this)

theorem weighted_ok (l : List Int) (h : l.length ≤ 9223372036854775807) : Pure Try.prog 43 [.rsl (rowI l) 0 l.length] (.bool (weightedB l)) := pure_of Try.func43 f43b fun E hE => by
  refine f43W l hE ⟨fun h1 => ⟨h, fun h2 => ⟨?_, ?_⟩, fun h2 => ?_⟩, fun h1 => ?_⟩
  · have := within_iff.1 h1
    exact sumOk_bd (B := 1000) (by omega) (by omega) (by omega) (weights_of h2)
  · simp [weightedB, h1, h2]
  · simp [weightedB, h2]
  · simp [weightedB, h1]

theorem amounts_ok (l : List Int) (h : l.length ≤ 9223372036854775807) : Pure Try.prog 42 [.rsl (rowI l) 0 l.length] (.bool (!(l.any fun x => !amount x))) := pure_of Try.func42 f42b fun E hE =>
  f42W l hE ⟨h, rfl⟩

theorem split_of {c : Int} {ws : List Int} (hc : 0 ≤ c ∧ c ≤ 1000000000) (h : weightedB ws = true) : SplitOk c ws := by
  simp only [weightedB, Bool.and_eq_true, Bool.not_eq_true', decide_eq_true_eq] at h
  obtain ⟨h1, h2, h3⟩ := h
  have h1 := within_iff.1 h1
  exact ⟨by omega, by omega, weights_of h2, h3, hc.1, hc.2⟩

def payStep (s : List Int × Int) (x : Int) : List Int × Int := (s.1 ++ [iMin x s.2], s.2 - iMin x s.2)
def payI (c : Int) (cl : List Int) : List Int × Int := cl.foldl payStep ([], c)
def claimsK (c : Int) (cl ws : List Int) : List Int × List Int × Int :=
  if amount c = false then ([], [], 1) else if ((cl.length : Nat) : Int) > 10 then ([], [], 1) else if (!cl.any fun x => !amount x) = false then ([], [], 1) else
  if weightedB ws = false then ([], [], 110) else ((payI c cl).1, splitI (payI c cl).2 ws, 0)

theorem f18b : Try.f18.body = some (bodyAt Try.prog 18) := by kernel_rfl
def f18K0 (P : Program) : List Item := kAt 400 [.code (bodyAt P 18)] [.b false, .b false, .stop]
def f18S0 (c : Int) (cl : (List Int)) (ws : (List Int)) (cents : Int) (i : Nat) (v0 : List Int) (g0 : Nat) : St := ⟨[.int .i64 cents, .junk, .rsl (rowI ws) 0 ws.length, .junk, .junk, .junk, .sl 0 g0 0 v0.length 1, .junk, .junk, .junk, .junk, .junk, .junk, .junk, .junk, .junk, .junk, .junk, .junk, .junk, .junk, .junk, .junk, .junk, .junk, .junk, .junk, .junk, .rsl (rowI cl) 0 cl.length, .int .i64 ((cl.length : Nat) : Int), .int .i64 ((i : Nat) : Int), .junk, .junk, .junk, .junk, .junk, .junk, .junk, .junk, .junk, .junk, .junk, .junk, .junk, .junk, .junk, .junk, .junk, .junk], [⟨true, g0, 1, true, (rowI v0), true⟩]⟩
def f18G0 (E : Env) (c : Int) (cl : (List Int)) (ws : (List Int)) (cents : Int) (i : Nat) (v0 : List Int) : Prop := ∀ g0 : Nat, G Try.prog E (f18K0 Try.prog) (f18S0 c cl ws cents i v0 g0)
theorem p18_start_0 (c : Int) (cl : (List Int)) (ws : (List Int))   {E : Env} {res : AV} (hE : PureE Try.prog 18 res E) (o0 : PureF Try.prog (.clos 41 [] []) [.int .i64 c] (.bool (amount c))) (o1 : (!(amount c)) = true)
    (hr : AvLe (.tup [.nilSl, .nilSl, .int .i64 1]) res) : G Try.prog E [.code (bodyAt Try.prog 18)] ⟨[.int .i64 c, .rsl (rowI cl) 0 cl.length, .rsl (rowI ws) 0 ws.length] ++ unds (Try.f18.ntmps - 3), []⟩ :=
  end_stepL (n := 400) (evs := [.v (.bool (amount c)), .b true, .b true, .b true]) (obs := [PureF Try.prog (.clos 41 [] []) [.int .i64 c] (.bool (amount c)), (!(amount c)) = true, true = true, true = true]) hE Try.func18 mixed (by kernel_rfl) ⟨o0, o1, (rfl), (rfl), trivial⟩ hr
theorem p18_start_1 (c : Int) (cl : (List Int)) (ws : (List Int))   {E : Env} {res : AV} (hE : PureE Try.prog 18 res E) (o0 : PureF Try.prog (.clos 41 [] []) [.int .i64 c] (.bool (amount c))) (o1 : (!(amount c)) = false) (o2 : (decide (((cl.length : Nat) : Int) > 10)) = true)
    (hr : AvLe (.tup [.nilSl, .nilSl, .int .i64 1]) res) : G Try.prog E [.code (bodyAt Try.prog 18)] ⟨[.int .i64 c, .rsl (rowI cl) 0 cl.length, .rsl (rowI ws) 0 ws.length] ++ unds (Try.f18.ntmps - 3), []⟩ :=
  end_stepL (n := 400) (evs := [.v (.bool (amount c)), .b false, .b true, .b true]) (obs := [PureF Try.prog (.clos 41 [] []) [.int .i64 c] (.bool (amount c)), (!(amount c)) = false, (decide (((cl.length : Nat) : Int) > 10)) = true, true = true]) hE Try.func18 mixed (by kernel_rfl) ⟨o0, o1, o2, (rfl), trivial⟩ hr
theorem p18_start_2 (c : Int) (cl : (List Int)) (ws : (List Int))   {E : Env} {res : AV} (hE : PureE Try.prog 18 res E) (o0 : PureF Try.prog (.clos 41 [] []) [.int .i64 c] (.bool (amount c))) (o1 : (!(amount c)) = false) (o2 : (decide (((cl.length : Nat) : Int) > 10)) = false) (o3 : PureF Try.prog (.clos 42 [] []) [.rsl (rowI cl) 0 cl.length] (.bool (!cl.any (fun x => !amount x)))) (o4 : (!(!cl.any (fun x => !amount x))) = true)
    (hr : AvLe (.tup [.nilSl, .nilSl, .int .i64 1]) res) : G Try.prog E [.code (bodyAt Try.prog 18)] ⟨[.int .i64 c, .rsl (rowI cl) 0 cl.length, .rsl (rowI ws) 0 ws.length] ++ unds (Try.f18.ntmps - 3), []⟩ :=
  end_stepL (n := 400) (evs := [.v (.bool (amount c)), .b false, .b false, .v (.bool (!cl.any (fun x => !amount x))), .b true]) (obs := [PureF Try.prog (.clos 41 [] []) [.int .i64 c] (.bool (amount c)), (!(amount c)) = false, (decide (((cl.length : Nat) : Int) > 10)) = false, PureF Try.prog (.clos 42 [] []) [.rsl (rowI cl) 0 cl.length] (.bool (!cl.any (fun x => !amount x))), (!(!cl.any (fun x => !amount x))) = true]) hE Try.func18 mixed (by kernel_rfl) ⟨o0, o1, o2, o3, o4, trivial⟩ hr
theorem p18_start_3 (c : Int) (cl : (List Int)) (ws : (List Int))   {E : Env} {res : AV} (hE : PureE Try.prog 18 res E) (o0 : PureF Try.prog (.clos 41 [] []) [.int .i64 c] (.bool (amount c))) (o1 : (!(amount c)) = false) (o2 : (decide (((cl.length : Nat) : Int) > 10)) = false) (o3 : PureF Try.prog (.clos 42 [] []) [.rsl (rowI cl) 0 cl.length] (.bool (!cl.any (fun x => !amount x)))) (o4 : (!(!cl.any (fun x => !amount x))) = false) (o5 : PureF Try.prog (.clos 43 [] []) [.rsl (rowI ws) 0 ws.length] (.bool (weightedB ws))) (o6 : (!(weightedB ws)) = true)
    (hr : AvLe (.tup [.nilSl, .nilSl, .int .i64 110]) res) : G Try.prog E [.code (bodyAt Try.prog 18)] ⟨[.int .i64 c, .rsl (rowI cl) 0 cl.length, .rsl (rowI ws) 0 ws.length] ++ unds (Try.f18.ntmps - 3), []⟩ :=
  end_stepL (n := 400) (evs := [.v (.bool (amount c)), .b false, .b false, .v (.bool (!cl.any (fun x => !amount x))), .b false, .v (.bool (weightedB ws)), .b true]) (obs := [PureF Try.prog (.clos 41 [] []) [.int .i64 c] (.bool (amount c)), (!(amount c)) = false, (decide (((cl.length : Nat) : Int) > 10)) = false, PureF Try.prog (.clos 42 [] []) [.rsl (rowI cl) 0 cl.length] (.bool (!cl.any (fun x => !amount x))), (!(!cl.any (fun x => !amount x))) = false, PureF Try.prog (.clos 43 [] []) [.rsl (rowI ws) 0 ws.length] (.bool (weightedB ws)), (!(weightedB ws)) = true]) hE Try.func18 mixed (by kernel_rfl) ⟨o0, o1, o2, o3, o4, o5, o6, trivial⟩ hr
theorem p18_start_4 (c : Int) (cl : (List Int)) (ws : (List Int))   {E : Env} {rv : AV} (hE : PureE Try.prog 18 rv E) (o0 : PureF Try.prog (.clos 41 [] []) [.int .i64 c] (.bool (amount c))) (o1 : (!(amount c)) = false) (o2 : (decide (((cl.length : Nat) : Int) > 10)) = false) (o3 : PureF Try.prog (.clos 42 [] []) [.rsl (rowI cl) 0 cl.length] (.bool (!cl.any (fun x => !amount x)))) (o4 : (!(!cl.any (fun x => !amount x))) = false) (o5 : PureF Try.prog (.clos 43 [] []) [.rsl (rowI ws) 0 ws.length] (.bool (weightedB ws))) (o6 : (!(weightedB ws)) = false)
    (hg : G Try.prog E (f18K0 Try.prog) ⟨[.int .i64 c, .junk, .rsl (rowI ws) 0 ws.length, .junk, .junk, .junk, .sl 0 0 0 0 1, .junk, .junk, .junk, .junk, .junk, .junk, .junk, .junk, .junk, .junk, .junk, .junk, .junk, .junk, .junk, .junk, .junk, .junk, .junk, .junk, .junk, .rsl (rowI cl) 0 cl.length, .int .i64 ((cl.length : Nat) : Int), .int .i64 0, .junk, .junk, .junk, .junk, .junk, .junk, .junk, .junk, .junk, .junk, .junk, .junk, .junk, .junk, .junk, .junk, .junk, .junk], [⟨true, 0, 1, true, [], true⟩]⟩) : G Try.prog E [.code (bodyAt Try.prog 18)] ⟨[.int .i64 c, .rsl (rowI cl) 0 cl.length, .rsl (rowI ws) 0 ws.length] ++ unds (Try.f18.ntmps - 3), []⟩ :=
  segC_step (n := 400) (ds := [(6, 1)]) (cs := []) (live := [0, 2, 6, 28, 29, 30]) (m := 1) (evs := [.v (.bool (amount c)), .b false, .b false, .v (.bool (!cl.any (fun x => !amount x))), .b false, .v (.bool (weightedB ws)), .b false, .stop]) (obs := [PureF Try.prog (.clos 41 [] []) [.int .i64 c] (.bool (amount c)), (!(amount c)) = false, (decide (((cl.length : Nat) : Int) > 10)) = false, PureF Try.prog (.clos 42 [] []) [.rsl (rowI cl) 0 cl.length] (.bool (!cl.any (fun x => !amount x))), (!(!cl.any (fun x => !amount x))) = false, PureF Try.prog (.clos 43 [] []) [.rsl (rowI ws) 0 ws.length] (.bool (weightedB ws)), (!(weightedB ws)) = false]) hE.2.1 (hE.nogh _) mixed (by kernel_rfl) ⟨o0, o1, o2, o3, o4, o5, o6, trivial⟩ hg
theorem f18W (c : Int) (cl : (List Int)) (ws : (List Int)) {E : Env} {rv : ((List Int) × (List Int) × Int)} (hE : PureE Try.prog 18 (.tup [.rsl (rowI rv.1) 0 rv.1.length, .rsl (rowI rv.2.1) 0 rv.2.1.length, .int .i64 rv.2.2]) E)
    (h : (((amount c) = false → rv = (([] : List Int), ([] : List Int), 1)) ∧ ((amount c) = true → ((((cl.length : Nat) : Int) > 10 → rv = (([] : List Int), ([] : List Int), 1)) ∧ (¬ (((cl.length : Nat) : Int) > 10) → ((cl.length ≤ 9223372036854775807) ∧ (((!cl.any (fun x => !amount x)) = false → rv = (([] : List Int), ([] : List Int), 1)) ∧ ((!cl.any (fun x => !amount x)) = true → ((ws.length ≤ 9223372036854775807) ∧ (((weightedB ws) = false → rv = (([] : List Int), ([] : List Int), 110)) ∧ ((weightedB ws) = true → f18G0 E c cl ws c 0 ([])))))))))))) : G Try.prog E [.code (bodyAt Try.prog 18)] ⟨[.int .i64 c, .rsl (rowI cl) 0 cl.length, .rsl (rowI ws) 0 ws.length] ++ unds (Try.f18.ntmps - 3), []⟩ := by
  rcases Bool.eq_false_or_eq_true (!(amount c)) with hc0 | hc0
  · have h := h.1 (bnT hc0)
    exact p18_start_0 c cl ws    hE (pureF_of Try.func41 (by kernel_rfl) f41b (amount_ok c)) hc0 (by rw [h]; exact (tup_le ⟨nil_le, ⟨nil_le, ⟨AvLe.of_eq rfl, trivial⟩⟩⟩))
  · have h := h.2 (bnF hc0)
    rcases Bool.eq_false_or_eq_true (decide (((cl.length : Nat) : Int) > 10)) with hc1 | hc1
    · have h := h.1 (of_decide_eq_true hc1)
      exact p18_start_1 c cl ws    hE (pureF_of Try.func41 (by kernel_rfl) f41b (amount_ok c)) hc0 hc1 (by rw [h]; exact (tup_le ⟨nil_le, ⟨nil_le, ⟨AvLe.of_eq rfl, trivial⟩⟩⟩))
    · have h := h.2 (of_decide_eq_false hc1)
      obtain ⟨h1, h⟩ := h
      rcases Bool.eq_false_or_eq_true (!(!cl.any (fun x => !amount x))) with hc2 | hc2
      · have h := h.1 (bnT hc2)
        exact p18_start_2 c cl ws    hE (pureF_of Try.func41 (by kernel_rfl) f41b (amount_ok c)) hc0 hc1 (pureF_of Try.func42 (by kernel_rfl) f42b (amounts_ok cl h1)) hc2 (by rw [h]; exact (tup_le ⟨nil_le, ⟨nil_le, ⟨AvLe.of_eq rfl, trivial⟩⟩⟩))
      · have h := h.2 (bnF hc2)
        obtain ⟨h2, h⟩ := h
        rcases Bool.eq_false_or_eq_true (!(weightedB ws)) with hc3 | hc3
        · have h := h.1 (bnT hc3)
          exact p18_start_3 c cl ws    hE (pureF_of Try.func41 (by kernel_rfl) f41b (amount_ok c)) hc0 hc1 (pureF_of Try.func42 (by kernel_rfl) f42b (amounts_ok cl h1)) hc2 (pureF_of Try.func43 (by kernel_rfl) f43b (weighted_ok ws h2)) hc3 (by rw [h]; exact (tup_le ⟨nil_le, ⟨nil_le, ⟨AvLe.of_eq rfl, trivial⟩⟩⟩))
        · have h := h.2 (bnF hc3)
          exact p18_start_4 c cl ws    hE (pureF_of Try.func41 (by kernel_rfl) f41b (amount_ok c)) hc0 hc1 (pureF_of Try.func42 (by kernel_rfl) f42b (amounts_ok cl h1)) hc2 (pureF_of Try.func43 (by kernel_rfl) f43b (weighted_ok ws h2)) hc3 (h 0)
theorem p18_0_0 (c : Int) (cl : (List Int)) (ws : (List Int)) (cents : Int) (i : Nat) (v0 : List Int) (g0 : Nat) (e : Int)  {E : Env} {rv : AV} (hE : PureE Try.prog 18 rv E) (o0 : (decide (((i : Nat) : Int) < ((cl.length : Nat) : Int))) = true) (o2 : 0 ≤ ((i : Nat) : Int) ∧ ((i : Nat) : Int) < ((cl.length : Nat) : Int)) (o3 : ((rowI cl).drop (0 + (Int.toNat ((i : Nat) : Int)) * 1)).take 1 = [.int .i64 e]) (o5 : (0 + (v0.length * 1)) = (rowI v0).length) (o6 : (v0.length + 1) ≤ 2147483648) (o8 : InR .i64 (cents - (iMin e cents))) (o9 : InR .i64 (((i : Nat) : Int) + 1))
    (hg : G Try.prog E (f18K0 Try.prog) ⟨[.int .i64 (cents - (iMin e cents)), .junk, .rsl (rowI ws) 0 ws.length, .junk, .junk, .junk, .sl 0 (g0 + 1) 0 (v0.length + 1) 1, .junk, .junk, .junk, .junk, .junk, .junk, .junk, .junk, .junk, .junk, .junk, .junk, .junk, .junk, .junk, .junk, .junk, .junk, .junk, .junk, .junk, .rsl (rowI cl) 0 cl.length, .int .i64 ((cl.length : Nat) : Int), .int .i64 (((i : Nat) : Int) + 1), .junk, .junk, .junk, .junk, .junk, .junk, .junk, .junk, .junk, .junk, .junk, .junk, .junk, .junk, .junk, .junk, .junk, .junk], [⟨true, (g0 + 1), 1, true, ((rowI v0) ++ [.int .i64 (iMin e cents)]), true⟩]⟩) : G Try.prog E (f18K0 Try.prog) (f18S0 c cl ws cents i v0 g0) :=
  segC_step (n := 400) (ds := []) (cs := []) (live := [0, 2, 6, 28, 29, 30]) (m := 1) (evs := [.b true, .ld (.int .i64 e), .stop]) (obs := [(decide (((i : Nat) : Int) < ((cl.length : Nat) : Int))) = true, 0 ≤ ((i : Nat) : Int) ∧ ((i : Nat) : Int) < ((cl.length : Nat) : Int), ((rowI cl).drop (0 + (Int.toNat ((i : Nat) : Int)) * 1)).take 1 = [.int .i64 e], g0 = g0, (0 + (v0.length * 1)) = (rowI v0).length, (v0.length + 1) ≤ 2147483648, 0 = 0, InR .i64 (cents - (iMin e cents)), InR .i64 (((i : Nat) : Int) + 1)]) hE.2.1 (hE.nogh _) mixed (by kernel_rfl) ⟨o0, o2, o3, (rfl), o5, o6, (rfl), o8, o9, trivial⟩ hg
theorem p18_0_1 (c : Int) (cl : (List Int)) (ws : (List Int)) (cents : Int) (i : Nat) (v0 : List Int) (g0 : Nat)  {E : Env} {res : AV} (hE : PureE Try.prog 18 res E) (o0 : (decide (((i : Nat) : Int) < ((cl.length : Nat) : Int))) = false) (o1 : PureF Try.prog (.clos 44 [] []) [.int .i64 cents, .rsl (rowI ws) 0 ws.length] (.rsl (rowI (splitI cents ws)) 0 ((splitI cents ws).length)))
    (hr : AvLe (.tup [.rsl (rowI v0) 0 v0.length, .rsl (rowI (splitI cents ws)) 0 ((splitI cents ws).length), .int .i64 0]) res) : G Try.prog E (f18K0 Try.prog) (f18S0 c cl ws cents i v0 g0) :=
  end_stepL (n := 400) (evs := [.b false, .v (.rsl (rowI (splitI cents ws)) 0 ((splitI cents ws).length))]) (obs := [(decide (((i : Nat) : Int) < ((cl.length : Nat) : Int))) = false, PureF Try.prog (.clos 44 [] []) [.int .i64 cents, .rsl (rowI ws) 0 ws.length] (.rsl (rowI (splitI cents ws)) 0 ((splitI cents ws).length)), g0 = g0]) hE Try.func18 mixed (by kernel_rfl) ⟨o0, o1, (rfl), trivial⟩ hr
theorem f18W0 (c : Int) (cl : (List Int)) (ws : (List Int)) (cents : Int) (i : Nat) (v0 : List Int) {E : Env} {rv : ((List Int) × (List Int) × Int)} (hE : PureE Try.prog 18 (.tup [.rsl (rowI rv.1) 0 rv.1.length, .rsl (rowI rv.2.1) 0 rv.2.1.length, .int .i64 rv.2.2]) E)
    (h : ((((i : Nat) : Int) < ((cl.length : Nat) : Int) → (∃ e : Int, cl[i]? = some e ∧ ((v0.length + 1) ≤ 2147483648 ∧ ((-9223372036854775808 ≤ cents - (iMin e cents) ∧ cents - (iMin e cents) ≤ 9223372036854775807) ∧ ((-9223372036854775808 ≤ ((i : Nat) : Int) + 1 ∧ ((i : Nat) : Int) + 1 ≤ 9223372036854775807) ∧ f18G0 E c cl ws (cents - (iMin e cents)) (i + 1) (v0 ++ [(iMin e cents)])))))) ∧ (¬ (((i : Nat) : Int) < ((cl.length : Nat) : Int)) → ((SplitOk cents ws) ∧ rv = (v0, (splitI cents ws), 0))))) : f18G0 E c cl ws cents i v0 := by
  intro g0
  rcases Bool.eq_false_or_eq_true (decide (((i : Nat) : Int) < ((cl.length : Nat) : Int))) with hc0 | hc0
  · have h := h.1 (of_decide_eq_true hc0)
    obtain ⟨e, h1, h⟩ := h
    obtain ⟨h2, h⟩ := h
    obtain ⟨q8_1, h⟩ := h
    obtain ⟨q9_1, h⟩ := h
    refine p18_0_0 c cl ws cents i v0 g0 e hE hc0 (idx_ok h1) (row_part cI (s := 1) (k := 0) (m := 1) (fun _ => rfl) (by decide) h1) (by have hx := row_len cI (s := 1) (fun _ => rfl) v0; simp only [rowI] at hx ⊢; rw [hx]; simp) h2 q8_1 q9_1 ?_
    rw [(show rowI v0 ++ [.int .i64 (iMin e cents)] = rowI (v0 ++ [(iMin e cents)]) from (row_app cI v0 [(iMin e cents)]).symm)]; rw [(show (v0.length + 1) = (v0 ++ [(iMin e cents)]).length from by simp)]; exact (h (g0 + 1))
  · have h := h.2 (of_decide_eq_false hc0)
    obtain ⟨h1, h⟩ := h
    exact p18_0_1 c cl ws cents i v0 g0  hE hc0 (pureF_of Try.func44 (by kernel_rfl) f44b (split_ok cents ws h1)) (AvLe.of_eq (by rw [h]; try rfl))

theorem claims_ok (c : Int) (cl ws : List Int) (h : cl.length ≤ 9223372036854775807 ∧ ws.length ≤ 9223372036854775807) : Pure Try.prog 18 [.int .i64 c, .rsl (rowI cl) 0 cl.length, .rsl (rowI ws) 0 ws.length]
    (.tup [.rsl (rowI (claimsK c cl ws).1) 0 (claimsK c cl ws).1.length, .rsl (rowI (claimsK c cl ws).2.1) 0 (claimsK c cl ws).2.1.length, .int .i64 (claimsK c cl ws).2.2]) := pure_of Try.func18 f18b fun E hE => by
  refine f18W c cl ws (rv := claimsK c cl ws) hE ⟨fun h1 => by simp [claimsK, h1], fun h1 => ⟨fun h2 => by simp only [claimsK]; rw [if_neg (by rw [h1]; simp), if_pos h2], fun h2 => ⟨h.1, fun h3 => ?_, fun h3 => ⟨h.2, fun h4 => ?_, fun h4 => ?_⟩⟩⟩⟩
  · simp only [claimsK]; rw [if_neg (by rw [h1]; simp), if_neg h2, if_pos h3]
  · simp only [claimsK]; rw [if_neg (by rw [h1]; simp), if_neg h2, if_neg (by rw [h3]; simp), if_pos h4]
  · have he : claimsK c cl ws = ((payI c cl).1, splitI (payI c cl).2 ws, 0) := by
      simp only [claimsK]; rw [if_neg (by rw [h1]; simp), if_neg h2, if_neg (by rw [h3]; simp), if_neg (by rw [h4]; simp)]
    have ha : ∀ x ∈ cl, 0 ≤ x ∧ x ≤ 1000000000 := by
      intro x hx
      have : (cl.any fun x => !amount x) = false := by simpa using h3
      rw [List.any_eq_false] at this
      have := this x hx
      exact within_iff.1 (by simpa [amount] using this)
    have hc : 0 ≤ c ∧ c ≤ 1000000000 := within_iff.1 h1
    have key : ∀ (d i : Nat) (p : List Int × Int), i + d = cl.length → p = (cl.take i).foldl payStep ([], c) → p.1.length = i → (0 ≤ p.2 ∧ p.2 ≤ 1000000000) → f18G0 E c cl ws p.2 i p.1 := by
      intro d
      induction d with
      | zero =>
        intro i p hd hp hl hb
        refine f18W0 c cl ws _ i _ (rv := claimsK c cl ws) hE ⟨fun h => by omega, fun _ => ⟨split_of hb h4, ?_⟩⟩
        rw [he, payI, hp, List.take_of_length_le (by omega)]
      | succ d ih =>
        intro i p hd hp hl hb
        have hi : cl[i]? = some cl[i] := List.getElem?_eq_getElem (by omega)
        have hx := ha _ (List.mem_of_getElem? hi)
        have hm : 0 ≤ iMin cl[i] p.2 ∧ iMin cl[i] p.2 ≤ p.2 := by simp only [iMin]; split <;> omega
        refine f18W0 c cl ws _ i _ (rv := claimsK c cl ws) hE ⟨fun _ => ⟨_, hi, by omega, by omega, by omega, ?_⟩, fun h => by omega⟩
        refine ih (i + 1) (payStep p cl[i]) (by omega) ?_ (by simp [payStep, hl]) (by simp only [payStep]; omega)
        rw [List.take_add_one, hi, List.foldl_append, ← hp]; rfl
    exact key cl.length 0 ([], c) (by omega) rfl rfl hc

theorem f15b : Try.f15.body = some (bodyAt Try.prog 15) := by kernel_rfl
theorem p15_start_0 (c : Int) (ws : (List Int))   {E : Env} {res : AV} (hE : PureE Try.prog 15 res E) (o0 : PureF Try.prog (.clos 18 [] []) [.int .i64 c, .nilSl, .rsl (rowI ws) 0 ws.length] (.tup [.rsl (rowI ((claimsK c ([] : List Int) ws).1)) 0 (((claimsK c ([] : List Int) ws).1).length), .rsl (rowI ((claimsK c ([] : List Int) ws).2.1)) 0 (((claimsK c ([] : List Int) ws).2.1).length), .int .i64 ((claimsK c ([] : List Int) ws).2.2)]))
    (hr : AvLe (.tup [.rsl (rowI ((claimsK c ([] : List Int) ws).2.1)) 0 (((claimsK c ([] : List Int) ws).2.1).length), .int .i64 ((claimsK c ([] : List Int) ws).2.2)]) res) : G Try.prog E [.code (bodyAt Try.prog 15)] ⟨[.int .i64 c, .rsl (rowI ws) 0 ws.length] ++ unds (Try.f15.ntmps - 2), []⟩ :=
  end_stepL (n := 400) (evs := [.v (.tup [.rsl (rowI ((claimsK c ([] : List Int) ws).1)) 0 (((claimsK c ([] : List Int) ws).1).length), .rsl (rowI ((claimsK c ([] : List Int) ws).2.1)) 0 (((claimsK c ([] : List Int) ws).2.1).length), .int .i64 ((claimsK c ([] : List Int) ws).2.2)])]) (obs := [PureF Try.prog (.clos 18 [] []) [.int .i64 c, .nilSl, .rsl (rowI ws) 0 ws.length] (.tup [.rsl (rowI ((claimsK c ([] : List Int) ws).1)) 0 (((claimsK c ([] : List Int) ws).1).length), .rsl (rowI ((claimsK c ([] : List Int) ws).2.1)) 0 (((claimsK c ([] : List Int) ws).2.1).length), .int .i64 ((claimsK c ([] : List Int) ws).2.2)])]) hE Try.func15 mixed (by kernel_rfl) ⟨o0, trivial⟩ hr
theorem f15W (c : Int) (ws : (List Int)) {E : Env} {rv : ((List Int) × Int)} (hE : PureE Try.prog 15 (.tup [.rsl (rowI rv.1) 0 rv.1.length, .int .i64 rv.2]) E)
    (h : ((([] : List Int).length ≤ 9223372036854775807 ∧ ws.length ≤ 9223372036854775807) ∧ rv = (((claimsK c ([] : List Int) ws).2.1), (claimsK c ([] : List Int) ws).2.2))) : G Try.prog E [.code (bodyAt Try.prog 15)] ⟨[.int .i64 c, .rsl (rowI ws) 0 ws.length] ++ unds (Try.f15.ntmps - 2), []⟩ := by
  obtain ⟨h1, h⟩ := h
  exact p15_start_0 c ws    hE (PureF.le (args := [.int .i64 c, .rsl (rowI ([] : List Int)) 0 (([] : List Int).length), .rsl (rowI ws) 0 ws.length]) (pureF_of Try.func18 (by kernel_rfl) f18b (claims_ok c ([] : List Int) ws h1)) ⟨AvLe.of_eq rfl, ⟨nil_le, ⟨AvLe.of_eq rfl, trivial⟩⟩⟩) (AvLe.of_eq (by rw [h]; try rfl))

def splitK (c : Int) (ws : List Int) : List Int × Int := ((claimsK c [] ws).2.1, (claimsK c [] ws).2.2)
theorem SplitP_ok (c : Int) (ws : List Int) (h : ws.length ≤ 9223372036854775807) : Pure Try.prog 15 [.int .i64 c, .rsl (rowI ws) 0 ws.length] (.tup [.rsl (rowI (splitK c ws).1) 0 (splitK c ws).1.length, .int .i64 (splitK c ws).2]) := pure_of Try.func15 f15b fun E hE =>
  f15W c ws (rv := splitK c ws) hE ⟨⟨by simp, h⟩, rfl⟩

end Go.Proofs.Ytmdbebbibecidaa
