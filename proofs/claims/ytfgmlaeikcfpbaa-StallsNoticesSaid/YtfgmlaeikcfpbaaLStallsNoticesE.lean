/- A part of the proof: several texts, one behind the other. -/
import Derived.Test.YtfgmlaeikcfpbaaLStallsNoticesD
set_option linter.unusedVariables false
set_option linter.unusedSimpArgs false
set_option maxRecDepth 100000
namespace Go.Proofs.Ytfgmlaeikcfpbaa
open Go Ax
open Go.Proofs

/-! ### What the values are, in the end -/
structure VFix (m : Mch) (w : Int → Int) (ch : Int → List Int → Int) (i : Nat) (p : List Int × List Int) : Prop where
  fx : ∀ (j : Nat) (x : Stg), i ≤ j → m.s.stages[j]? = some x →
    (x.kind = 4 → p.1.getD j 0 = (if x.prize ≥ 0 then w x.prize else 0) ∧ p.2.getD j 0 = 0) ∧
    (x.kind = 1 → p.1.getD j 0 = sumW x.turns (nextI m j p.1 x.turns) ∧ p.2.getD j 0 = 0) ∧
    (x.kind ≠ 4 → x.kind ≠ 1 → p.1.getD j 0 = (nextI m j p.1 x.turns).getD (Int.toNat (p.2.getD j 0)) 0 ∧ p.2.getD j 0 = ch j (nextI m j p.1 x.turns))

/-! ### Who chooses -/
def pickF (a : Int) (l : List Int) : Int := if a = 2 then maxI l else minI l
def aimAt (m : Mch) (pa oa : Int) (i : Nat) : Int := if (m.s.stages.getD i ⟨0, 0, []⟩).kind = 3 then oa else pa
theorem choose_val {m : Mch} {pa oa : Int} {i : Nat} {l : List Int} (h : 0 < l.length) : l.getD (Int.toNat (chooseI m pa oa i l)) 0 = pickF (aimAt m pa oa i) l := by
  unfold chooseI pickF aimAt
  rw [Int.toNat_natCast]
  generalize (if (m.s.stages.getD i ⟨0, 0, []⟩).kind = 3 then oa else pa) = a
  split
  · exact getD_of (idxV_mem (maxI_mem h).1).2.2.1
  · exact getD_of (idxV_mem (minI_mem h).1).2.2.1
theorem maxF_snoc {x : Int} : ∀ {l : List Int} {m : Int}, maxF m (l ++ [x]) = iMax (maxF m l) x
  | [], m => rfl
  | y :: l, m => by simp only [List.cons_append, maxF]; exact maxF_snoc
theorem minF_snoc {x : Int} : ∀ {l : List Int} {m : Int}, minF m (l ++ [x]) = iMin (minF m l) x
  | [], m => rfl
  | y :: l, m => by simp only [List.cons_append, minF]; exact minF_snoc
theorem pick_one {a x : Int} : pickF a [x] = x := by unfold pickF; split <;> rfl
theorem pick_snoc {a x : Int} {l : List Int} (h : 0 < l.length) : pickF a (l ++ [x]) = if a = 2 then (if x > pickF a l then x else pickF a l) else (if x < pickF a l then x else pickF a l) := by
  cases l with
  | nil => simp at h
  | cons y l =>
    unfold pickF
    by_cases h2 : a = 2
    · simp only [if_pos h2]
      have : maxI ((y :: l) ++ [x]) = maxF y (l ++ [x]) := rfl
      rw [this, maxF_snoc]; rfl
    · simp only [if_neg h2]
      have : minI ((y :: l) ++ [x]) = minF y (l ++ [x]) := rfl
      rw [this, minF_snoc]; rfl

/-! ### The reference's greatest common divisor is the program's -/
theorem gcdF_int : ∀ {n : Nat} {a b : Int}, 0 ≤ a → 0 ≤ b → b < n → gcdF n a b = (Int.gcd a b : Int)
  | 0, a, b, _, hb, h => by omega
  | n + 1, a, b, ha, hb, h => by
    simp only [gcdF]
    split
    · rename_i h0
      have t0 := Int.tmod_nonneg b ha
      have t1 := Int.tmod_lt_of_pos a h0
      rw [gcdF_int hb t0 (by omega), Int.tmod_eq_emod_of_nonneg ha, Int.gcd_comm a b]
      congr 1
      rw [Int.gcd_comm b (a % b), Int.gcd_comm b a]
      simp only [Int.gcd, Int.natAbs_emod_of_nonneg ha]
      rw [Nat.gcd_comm a.natAbs, Nat.gcd_rec b.natAbs a.natAbs]
    · have : b = 0 := by omega
      subst this
      simp [Int.gcd]; omega
theorem gcdI_int {a b : Int} (ha : 0 ≤ a) (hb : 0 ≤ b) : gcdI a b = (Int.gcd a b : Int) := gcdF_int ha hb (by omega)
theorem gcdI_comm {a b : Int} (ha : 0 ≤ a) (hb : 0 ≤ b) : gcdI a b = gcdI b a := by rw [gcdI_int ha hb, gcdI_int hb ha, Int.gcd_comm]
theorem low_eq {n d : Int} (hd : 0 < d) : (⟨Int.tdiv n (gcdI d (iMax n (0 - n))), Int.tdiv d (gcdI d (iMax n (0 - n)))⟩ : Fr) = fracI n d := by
  have h0 : 0 ≤ iMax n (0 - n) := by unfold iMax; split <;> omega
  have h1 := gcd_pos hd h0
  have e : iMax (gcdI (iMax n (0 - n)) d) 1 = gcdI d (iMax n (0 - n)) := by
    rw [gcdI_comm h0 (by omega)]
    generalize gcdI d (iMax n (0 - n)) = c at h1
    unfold iMax; split <;> omega
  rw [fracI, e]

/-! ### What an end is worth -/
def endsI (s : Stl) (w : Int → Int) : List Int := s.stages.map fun x => if x.kind = 4 ∧ x.prize ≥ 0 then w x.prize else 0
theorem ends_len {s : Stl} {w : Int → Int} : (endsI s w).length = s.stages.length := by rw [endsI, List.length_map]
theorem ends_at {s : Stl} {w : Int → Int} {i : Nat} {x : Stg} (h : s.stages[i]? = some x) : (endsI s w)[i]? = some (if x.kind = 4 ∧ x.prize ≥ 0 then w x.prize else 0) := by
  rw [endsI, List.getElem?_map, h]; rfl
def valuesI (s : Stl) (w : Int → Int) (pa oa : Int) : List Int := (valA (machG s) w (chooseI (machG s) pa oa)).1
theorem isSome_of {s : Stl} (h : checkK s = 0) : (machI s).isSome = true := by
  unfold checkK at h
  split at h
  · assumption
  · omega
theorem measR_of {s : Stl} (h : (machI s).isSome = true) : measR (measA s) = ((machG s).meas, true) := by
  obtain ⟨m, hm⟩ := Option.isSome_iff_exists.1 h
  have : machG s = m := by simp [machG, hm]
  rw [this]
  unfold machI at hm
  split at hm
  · obtain ⟨r, hr, e⟩ := Option.map_eq_some_iff.1 hm
    rw [hr, ← e]; rfl
  · cases hm
theorem f81b : Try.f81.body = some (bodyAt Try.prog 81) := by kernel_rfl
def f81K0 (P : Program) : List Item := kAt 400 [.code (bodyAt P 81)] [.stop]
def f81S0 (s : Stl) (kd : Int) (v1 : List Int) (i : Nat) (g1 : Nat) : St := ⟨[J, .int .i64 kd, .ptr 0 0 0, J, J, .sl 1 g1 0 v1.length 1, .int .i64 (i : Int), J, J, J, J, J, J, J, J, J, J, J, J, J, J, J, J, J, J, J, J, J, J, J, J, J, J, J, J, J, J, J], [⟨true, 0, 1, true, [.rsl (rowStg s.stages) 0 s.stages.length, .rsl (rowI s.worth) 0 s.worth.length, .int .i64 s.price], false⟩, ⟨true, g1, 1, true, (rowI v1), true⟩]⟩
def f81G0 (E : Env) (s : Stl) (kd : Int) (v1 : List Int) (i : Nat) : Prop := ∀ g1 : Nat, G Try.prog E (f81K0 Try.prog) (f81S0 s kd v1 i g1)
theorem p81_start_0 (s : Stl) (kd : Int)   {E : Env} {rv : AV} (hE : PureE Try.prog 81 rv E) (ho : AllP [0 ≤ (s.stages.length : Int) ∧ (s.stages.length : Int) ≤ (s.stages.length : Int) ∧ (s.stages.length : Int) ≤ 2147483648])
    (hg : G Try.prog E (f81K0 Try.prog) ⟨[J, .int .i64 kd, .ptr 0 0 0, J, J, .sl 1 0 0 (Int.toNat (s.stages.length : Int)) 1, .int .i64 0, J, J, J, J, J, J, J, J, J, J, J, J, J, J, J, J, J, J, J, J, J, J, J, J, J, J, J, J, J, J, J], [⟨true, 0, 1, true, [.rsl (rowStg s.stages) 0 s.stages.length, .rsl (rowI s.worth) 0 s.worth.length, .int .i64 s.price], false⟩, ⟨true, 0, 1, true, ((List.replicate (Int.toNat (s.stages.length : Int)) ([.int .i64 0] : List AV)).flatten), true⟩]⟩) : G Try.prog E [.code (bodyAt Try.prog 81)] ⟨[.agg [.rsl (rowStg s.stages) 0 s.stages.length, .rsl (rowI s.worth) 0 s.worth.length, .int .i64 s.price], .int .i64 kd] ++ unds (Try.f81.ntmps - 2), []⟩ :=
  segC_step (n := 400) (ds := []) (cs := []) (live := [1, 2, 5, 6]) (m := 2) (evs := [.stop]) (obs := _) hE.2.1 (hE.nogh _) mixed (by kernel_rfl) ho hg
theorem f81W (s : Stl) (kd : Int) {E : Env} {rv : (List Int)} (hE : PureE Try.prog 81 (.rsl (rowI rv) 0 rv.length) E)
    (h : (s.stages.length ≤ 2147483648 ∧ f81G0 E s kd (List.replicate s.stages.length (0 : Int)) 0)) : G Try.prog E [.code (bodyAt Try.prog 81)] ⟨[.agg [.rsl (rowStg s.stages) 0 s.stages.length, .rsl (rowI s.worth) 0 s.worth.length, .int .i64 s.price], .int .i64 kd] ++ unds (Try.f81.ntmps - 2), []⟩ := by
  obtain ⟨h1, h⟩ := h
  refine p81_start_0 s kd    hE ⟨⟨by omega, by omega, by have := h1; omega⟩, trivial⟩ ?_
  have h := (h 0)
  simp only [f81G0, f81S0, List.length_set, List.length_replicate] at h
  rw [(show (List.replicate (Int.toNat (s.stages.length : Int)) ([.int .i64 0] : List AV)).flatten = rowI (List.replicate s.stages.length (0 : Int)) from row_rep cI _ _)]
  exact h
theorem p81_0_0 (s : Stl) (kd : Int) (v1 : List Int) (i : Nat) (g1 : Nat) (se : Stg) (e : Int)  {E : Env} {rv : AV} (hE : PureE Try.prog 81 rv E) (ho : AllP [g1 = g1, (decide ((i : Int) < (v1.length : Int))) = true, 0 ≤ (i : Int) ∧ (i : Int) < (s.stages.length : Int), ((rowStg s.stages).drop ((0 + (Int.toNat (i : Int)) * 3) + 0)).take 1 = [.int .i64 se.kind], (se.kind == 4) = true, 0 ≤ (i : Int) ∧ (i : Int) < (s.stages.length : Int), ((rowStg s.stages).drop ((0 + (Int.toNat (i : Int)) * 3) + 1)).take 1 = [.int .i64 se.prize], (se.prize == kd) = true, 0 ≤ (i : Int) ∧ (i : Int) < (v1.length : Int), g1 = g1, ((0 + (Int.toNat (i : Int)) * 1) + 1) ≤ (rowI v1).length, g1 = g1, InR .i64 ((i : Int) + 1)])
    (hg : G Try.prog E (f81K0 Try.prog) ⟨[J, .int .i64 kd, .ptr 0 0 0, J, J, .sl 1 g1 0 v1.length 1, .int .i64 ((i : Int) + 1), J, J, J, J, J, J, J, J, J, J, J, J, J, J, J, J, J, J, J, J, J, J, J, J, J, J, J, J, J, J, J], [⟨true, 0, 1, true, [.rsl (rowStg s.stages) 0 s.stages.length, .rsl (rowI s.worth) 0 s.worth.length, .int .i64 s.price], false⟩, ⟨true, g1, 1, true, (setAt (rowI v1) (0 + (Int.toNat (i : Int)) * 1) [.int .i64 1]), true⟩]⟩) : G Try.prog E (f81K0 Try.prog) (f81S0 s kd v1 i g1) :=
  segC_step (n := 400) (ds := []) (cs := []) (live := [1, 2, 5, 6]) (m := 2) (evs := [.b true, .auto, .ld (.int .i64 se.kind), .b true, .auto, .ld (.int .i64 se.prize), .b true, .stop]) (obs := _) hE.2.1 (hE.nogh _) mixed (by kernel_rfl) ho hg
theorem p81_0_1 (s : Stl) (kd : Int) (v1 : List Int) (i : Nat) (g1 : Nat) (se : Stg)  {E : Env} {rv : AV} (hE : PureE Try.prog 81 rv E) (ho : AllP [g1 = g1, (decide ((i : Int) < (v1.length : Int))) = true, 0 ≤ (i : Int) ∧ (i : Int) < (s.stages.length : Int), ((rowStg s.stages).drop ((0 + (Int.toNat (i : Int)) * 3) + 0)).take 1 = [.int .i64 se.kind], (se.kind == 4) = true, 0 ≤ (i : Int) ∧ (i : Int) < (s.stages.length : Int), ((rowStg s.stages).drop ((0 + (Int.toNat (i : Int)) * 3) + 1)).take 1 = [.int .i64 se.prize], (se.prize == kd) = false, InR .i64 ((i : Int) + 1)])
    (hg : G Try.prog E (f81K0 Try.prog) ⟨[J, .int .i64 kd, .ptr 0 0 0, J, J, .sl 1 g1 0 v1.length 1, .int .i64 ((i : Int) + 1), J, J, J, J, J, J, J, J, J, J, J, J, J, J, J, J, J, J, J, J, J, J, J, J, J, J, J, J, J, J, J], [⟨true, 0, 1, true, [.rsl (rowStg s.stages) 0 s.stages.length, .rsl (rowI s.worth) 0 s.worth.length, .int .i64 s.price], false⟩, ⟨true, g1, 1, true, (rowI v1), true⟩]⟩) : G Try.prog E (f81K0 Try.prog) (f81S0 s kd v1 i g1) :=
  segC_step (n := 400) (ds := []) (cs := []) (live := [1, 2, 5, 6]) (m := 2) (evs := [.b true, .auto, .ld (.int .i64 se.kind), .b true, .auto, .ld (.int .i64 se.prize), .b false, .stop]) (obs := _) hE.2.1 (hE.nogh _) mixed (by kernel_rfl) ho hg
theorem p81_0_2 (s : Stl) (kd : Int) (v1 : List Int) (i : Nat) (g1 : Nat) (se : Stg)  {E : Env} {rv : AV} (hE : PureE Try.prog 81 rv E) (ho : AllP [g1 = g1, (decide ((i : Int) < (v1.length : Int))) = true, 0 ≤ (i : Int) ∧ (i : Int) < (s.stages.length : Int), ((rowStg s.stages).drop ((0 + (Int.toNat (i : Int)) * 3) + 0)).take 1 = [.int .i64 se.kind], (se.kind == 4) = false, false = false, InR .i64 ((i : Int) + 1)])
    (hg : G Try.prog E (f81K0 Try.prog) ⟨[J, .int .i64 kd, .ptr 0 0 0, J, J, .sl 1 g1 0 v1.length 1, .int .i64 ((i : Int) + 1), J, J, J, J, J, J, J, J, J, J, J, J, J, J, J, J, J, J, J, J, J, J, J, J, J, J, J, J, J, J, J], [⟨true, 0, 1, true, [.rsl (rowStg s.stages) 0 s.stages.length, .rsl (rowI s.worth) 0 s.worth.length, .int .i64 s.price], false⟩, ⟨true, g1, 1, true, (rowI v1), true⟩]⟩) : G Try.prog E (f81K0 Try.prog) (f81S0 s kd v1 i g1) :=
  segC_step (n := 400) (ds := []) (cs := []) (live := [1, 2, 5, 6]) (m := 2) (evs := [.b true, .auto, .ld (.int .i64 se.kind), .b false, .b false, .stop]) (obs := _) hE.2.1 (hE.nogh _) mixed (by kernel_rfl) ho hg
theorem p81_0_3 (s : Stl) (kd : Int) (v1 : List Int) (i : Nat) (g1 : Nat)  {E : Env} {res : AV} (hE : PureE Try.prog 81 res E) (ho : AllP [g1 = g1, (decide ((i : Int) < (v1.length : Int))) = false, g1 = g1])
    (hr : AvLe (.rsl (rowI v1) 0 v1.length) res) : G Try.prog E (f81K0 Try.prog) (f81S0 s kd v1 i g1) :=
  end_stepL (n := 400) (evs := [.b false]) (obs := _) hE Try.func81 mixed (by kernel_rfl) ho hr
theorem f81W0 (s : Stl) (kd : Int) (v1 : List Int) (i : Nat) {E : Env} {rv : (List Int)} (hE : PureE Try.prog 81 (.rsl (rowI rv) 0 rv.length) E)
    (h : (((i : Int) < (v1.length : Int) → (∃ se : Stg, s.stages[i]? = some se ∧ ((se.kind = 4 → ((se.prize = kd → (∃ e : Int, v1[i]? = some e ∧ ((-9223372036854775808 ≤ (i : Int) + 1 ∧ (i : Int) + 1 ≤ 9223372036854775807) ∧ f81G0 E s kd (v1.set i 1) (i + 1)))) ∧ (¬ (se.prize = kd) → ((-9223372036854775808 ≤ (i : Int) + 1 ∧ (i : Int) + 1 ≤ 9223372036854775807) ∧ f81G0 E s kd v1 (i + 1))))) ∧ (¬ (se.kind = 4) → ((-9223372036854775808 ≤ (i : Int) + 1 ∧ (i : Int) + 1 ≤ 9223372036854775807) ∧ f81G0 E s kd v1 (i + 1)))))) ∧ (¬ ((i : Int) < (v1.length : Int)) → rv = v1))) : f81G0 E s kd v1 i := by
  intro g1
  rcases Bool.eq_false_or_eq_true (decide ((i : Int) < (v1.length : Int))) with hc0 | hc0
  · have h := h.1 (of_decide_eq_true hc0)
    obtain ⟨se, h1, h⟩ := h
    rcases Bool.eq_false_or_eq_true (se.kind == 4) with hc1 | hc1
    · have h := h.1 (eq_of_beq hc1)
      rcases Bool.eq_false_or_eq_true (se.prize == kd) with hc2 | hc2
      · have h := h.1 (eq_of_beq hc2)
        obtain ⟨e, h2, h⟩ := h
        obtain ⟨q14_3, h⟩ := h
        refine p81_0_0 s kd v1 i g1 se e hE ⟨rfl, hc0, (idx_ok h1), (row_part cStg (s := 3) (k := 0) (m := 1) (fun _ => rfl) (by decide) h1), hc1, (idx_ok h1), (row_part cStg (s := 3) (k := 1) (m := 1) (fun _ => rfl) (by decide) h1), hc2, (idx_ok h2), rfl, (row_fits cI (s := 1) (k := 0) (m := 1) (fun _ => rfl) (by decide) h2), rfl, q14_3, trivial⟩ ?_
        have h := (h g1)
        simp only [f81S0, List.length_set] at h
        rw [(show setAt (rowI v1) (0 + (Int.toNat (i : Int)) * 1) [.int .i64 1] = rowI (v1.set i 1) from row_set cI (s := 1) (k := 0) (fun _ => rfl) h2 rfl (by first | decide | simp))]
        exact h
      · have h := h.2 (ne_of_beq_false hc2)
        obtain ⟨q9_3, h⟩ := h
        exact p81_0_1 s kd v1 i g1 se hE ⟨rfl, hc0, (idx_ok h1), (row_part cStg (s := 3) (k := 0) (m := 1) (fun _ => rfl) (by decide) h1), hc1, (idx_ok h1), (row_part cStg (s := 3) (k := 1) (m := 1) (fun _ => rfl) (by decide) h1), hc2, q9_3, trivial⟩ (h g1)
    · have h := h.2 (ne_of_beq_false hc1)
      obtain ⟨q7_2, h⟩ := h
      exact p81_0_2 s kd v1 i g1 se hE ⟨rfl, hc0, (idx_ok h1), (row_part cStg (s := 3) (k := 0) (m := 1) (fun _ => rfl) (by decide) h1), hc1, rfl, q7_2, trivial⟩ (h g1)
  · have h := h.2 (of_decide_eq_false hc0)
    exact p81_0_3 s kd v1 i g1  hE ⟨rfl, hc0, rfl, trivial⟩ (AvLe.of_eq (by rw [h]; try rfl))
theorem f86b : Try.f86.body = some (bodyAt Try.prog 86) := by kernel_rfl
def f86K0 (P : Program) : List Item := kAt 400 [.code (bodyAt P 86)] [.stop]
def f86S0 (s : Stl) (v1 : List Int) (i : Nat) (g1 : Nat) : St := ⟨[J, .ptr 0 0 0, J, .sl 1 g1 0 v1.length 1, .int .i64 (i : Int), J, J, J, J, J, J, J, J, J, J, J, J, J, J, J, J, J, J, J, J, J, J, J, J, J, J, J, J, J, J, J, J, J, J, J, J, J, J, J, J], [⟨true, 0, 1, true, [.rsl (rowStg s.stages) 0 s.stages.length, .rsl (rowI s.worth) 0 s.worth.length, .int .i64 s.price], false⟩, ⟨true, g1, 1, true, (rowI v1), true⟩]⟩
def f86G0 (E : Env) (s : Stl) (v1 : List Int) (i : Nat) : Prop := ∀ g1 : Nat, G Try.prog E (f86K0 Try.prog) (f86S0 s v1 i g1)
theorem p86_start_0 (s : Stl)   {E : Env} {rv : AV} (hE : PureE Try.prog 86 rv E) (ho : AllP [0 ≤ (s.stages.length : Int) ∧ (s.stages.length : Int) ≤ (s.stages.length : Int) ∧ (s.stages.length : Int) ≤ 2147483648])
    (hg : G Try.prog E (f86K0 Try.prog) ⟨[J, .ptr 0 0 0, J, .sl 1 0 0 (Int.toNat (s.stages.length : Int)) 1, .int .i64 0, J, J, J, J, J, J, J, J, J, J, J, J, J, J, J, J, J, J, J, J, J, J, J, J, J, J, J, J, J, J, J, J, J, J, J, J, J, J, J, J], [⟨true, 0, 1, true, [.rsl (rowStg s.stages) 0 s.stages.length, .rsl (rowI s.worth) 0 s.worth.length, .int .i64 s.price], false⟩, ⟨true, 0, 1, true, ((List.replicate (Int.toNat (s.stages.length : Int)) ([.int .i64 0] : List AV)).flatten), true⟩]⟩) : G Try.prog E [.code (bodyAt Try.prog 86)] ⟨[.agg [.rsl (rowStg s.stages) 0 s.stages.length, .rsl (rowI s.worth) 0 s.worth.length, .int .i64 s.price]] ++ unds (Try.f86.ntmps - 1), []⟩ :=
  segC_step (n := 400) (ds := []) (cs := []) (live := [1, 3, 4]) (m := 2) (evs := [.stop]) (obs := _) hE.2.1 (hE.nogh _) mixed (by kernel_rfl) ho hg
theorem f86W (s : Stl) {E : Env} {rv : (List Int)} (hE : PureE Try.prog 86 (.rsl (rowI rv) 0 rv.length) E)
    (h : (s.stages.length ≤ 2147483648 ∧ f86G0 E s (List.replicate s.stages.length (0 : Int)) 0)) : G Try.prog E [.code (bodyAt Try.prog 86)] ⟨[.agg [.rsl (rowStg s.stages) 0 s.stages.length, .rsl (rowI s.worth) 0 s.worth.length, .int .i64 s.price]] ++ unds (Try.f86.ntmps - 1), []⟩ := by
  obtain ⟨h1, h⟩ := h
  refine p86_start_0 s    hE ⟨⟨by omega, by omega, by have := h1; omega⟩, trivial⟩ ?_
  have h := (h 0)
  simp only [f86G0, f86S0, List.length_set, List.length_replicate] at h
  rw [(show (List.replicate (Int.toNat (s.stages.length : Int)) ([.int .i64 0] : List AV)).flatten = rowI (List.replicate s.stages.length (0 : Int)) from row_rep cI _ _)]
  exact h
theorem p86_0_0 (s : Stl) (v1 : List Int) (i : Nat) (g1 : Nat) (se : Stg) (e : Int) (e1 : Int)  {E : Env} {rv : AV} (hE : PureE Try.prog 86 rv E) (ho : AllP [g1 = g1, (decide ((i : Int) < (v1.length : Int))) = true, 0 ≤ (i : Int) ∧ (i : Int) < (s.stages.length : Int), ((rowStg s.stages).drop ((0 + (Int.toNat (i : Int)) * 3) + 0)).take 1 = [.int .i64 se.kind], (se.kind == 4) = true, 0 ≤ (i : Int) ∧ (i : Int) < (s.stages.length : Int), ((rowStg s.stages).drop ((0 + (Int.toNat (i : Int)) * 3) + 1)).take 1 = [.int .i64 se.prize], (decide (se.prize ≥ 0)) = true, 0 ≤ (i : Int) ∧ (i : Int) < (s.stages.length : Int), ((rowStg s.stages).drop ((0 + (Int.toNat (i : Int)) * 3) + 1)).take 1 = [.int .i64 se.prize], 0 ≤ se.prize ∧ se.prize < (s.worth.length : Int), ((rowI s.worth).drop (0 + (Int.toNat se.prize) * 1)).take 1 = [.int .i64 e], 0 ≤ (i : Int) ∧ (i : Int) < (v1.length : Int), g1 = g1, ((0 + (Int.toNat (i : Int)) * 1) + 1) ≤ (rowI v1).length, g1 = g1, InR .i64 ((i : Int) + 1)])
    (hg : G Try.prog E (f86K0 Try.prog) ⟨[J, .ptr 0 0 0, J, .sl 1 g1 0 v1.length 1, .int .i64 ((i : Int) + 1), J, J, J, J, J, J, J, J, J, J, J, J, J, J, J, J, J, J, J, J, J, J, J, J, J, J, J, J, J, J, J, J, J, J, J, J, J, J, J, J], [⟨true, 0, 1, true, [.rsl (rowStg s.stages) 0 s.stages.length, .rsl (rowI s.worth) 0 s.worth.length, .int .i64 s.price], false⟩, ⟨true, g1, 1, true, (setAt (rowI v1) (0 + (Int.toNat (i : Int)) * 1) [.int .i64 e]), true⟩]⟩) : G Try.prog E (f86K0 Try.prog) (f86S0 s v1 i g1) :=
  segC_step (n := 400) (ds := []) (cs := []) (live := [1, 3, 4]) (m := 2) (evs := [.b true, .auto, .ld (.int .i64 se.kind), .b true, .auto, .ld (.int .i64 se.prize), .b true, .auto, .auto, .ld (.int .i64 se.prize), .ld (.int .i64 e), .stop]) (obs := _) hE.2.1 (hE.nogh _) mixed (by kernel_rfl) ho hg
theorem p86_0_1 (s : Stl) (v1 : List Int) (i : Nat) (g1 : Nat) (se : Stg)  {E : Env} {rv : AV} (hE : PureE Try.prog 86 rv E) (ho : AllP [g1 = g1, (decide ((i : Int) < (v1.length : Int))) = true, 0 ≤ (i : Int) ∧ (i : Int) < (s.stages.length : Int), ((rowStg s.stages).drop ((0 + (Int.toNat (i : Int)) * 3) + 0)).take 1 = [.int .i64 se.kind], (se.kind == 4) = true, 0 ≤ (i : Int) ∧ (i : Int) < (s.stages.length : Int), ((rowStg s.stages).drop ((0 + (Int.toNat (i : Int)) * 3) + 1)).take 1 = [.int .i64 se.prize], (decide (se.prize ≥ 0)) = false, InR .i64 ((i : Int) + 1)])
    (hg : G Try.prog E (f86K0 Try.prog) ⟨[J, .ptr 0 0 0, J, .sl 1 g1 0 v1.length 1, .int .i64 ((i : Int) + 1), J, J, J, J, J, J, J, J, J, J, J, J, J, J, J, J, J, J, J, J, J, J, J, J, J, J, J, J, J, J, J, J, J, J, J, J, J, J, J, J], [⟨true, 0, 1, true, [.rsl (rowStg s.stages) 0 s.stages.length, .rsl (rowI s.worth) 0 s.worth.length, .int .i64 s.price], false⟩, ⟨true, g1, 1, true, (rowI v1), true⟩]⟩) : G Try.prog E (f86K0 Try.prog) (f86S0 s v1 i g1) :=
  segC_step (n := 400) (ds := []) (cs := []) (live := [1, 3, 4]) (m := 2) (evs := [.b true, .auto, .ld (.int .i64 se.kind), .b true, .auto, .ld (.int .i64 se.prize), .b false, .stop]) (obs := _) hE.2.1 (hE.nogh _) mixed (by kernel_rfl) ho hg
theorem p86_0_2 (s : Stl) (v1 : List Int) (i : Nat) (g1 : Nat) (se : Stg)  {E : Env} {rv : AV} (hE : PureE Try.prog 86 rv E) (ho : AllP [g1 = g1, (decide ((i : Int) < (v1.length : Int))) = true, 0 ≤ (i : Int) ∧ (i : Int) < (s.stages.length : Int), ((rowStg s.stages).drop ((0 + (Int.toNat (i : Int)) * 3) + 0)).take 1 = [.int .i64 se.kind], (se.kind == 4) = false, false = false, InR .i64 ((i : Int) + 1)])
    (hg : G Try.prog E (f86K0 Try.prog) ⟨[J, .ptr 0 0 0, J, .sl 1 g1 0 v1.length 1, .int .i64 ((i : Int) + 1), J, J, J, J, J, J, J, J, J, J, J, J, J, J, J, J, J, J, J, J, J, J, J, J, J, J, J, J, J, J, J, J, J, J, J, J, J, J, J, J], [⟨true, 0, 1, true, [.rsl (rowStg s.stages) 0 s.stages.length, .rsl (rowI s.worth) 0 s.worth.length, .int .i64 s.price], false⟩, ⟨true, g1, 1, true, (rowI v1), true⟩]⟩) : G Try.prog E (f86K0 Try.prog) (f86S0 s v1 i g1) :=
  segC_step (n := 400) (ds := []) (cs := []) (live := [1, 3, 4]) (m := 2) (evs := [.b true, .auto, .ld (.int .i64 se.kind), .b false, .b false, .stop]) (obs := _) hE.2.1 (hE.nogh _) mixed (by kernel_rfl) ho hg
theorem p86_0_3 (s : Stl) (v1 : List Int) (i : Nat) (g1 : Nat)  {E : Env} {res : AV} (hE : PureE Try.prog 86 res E) (ho : AllP [g1 = g1, (decide ((i : Int) < (v1.length : Int))) = false, g1 = g1])
    (hr : AvLe (.rsl (rowI v1) 0 v1.length) res) : G Try.prog E (f86K0 Try.prog) (f86S0 s v1 i g1) :=
  end_stepL (n := 400) (evs := [.b false]) (obs := _) hE Try.func86 mixed (by kernel_rfl) ho hr
theorem f86W0 (s : Stl) (v1 : List Int) (i : Nat) {E : Env} {rv : (List Int)} (hE : PureE Try.prog 86 (.rsl (rowI rv) 0 rv.length) E)
    (h : (((i : Int) < (v1.length : Int) → (∃ se : Stg, s.stages[i]? = some se ∧ ((se.kind = 4 → ((se.prize ≥ 0 → (0 ≤ se.prize ∧ (∃ e : Int, s.worth[Int.toNat se.prize]? = some e ∧ (∃ e1 : Int, v1[i]? = some e1 ∧ ((-9223372036854775808 ≤ (i : Int) + 1 ∧ (i : Int) + 1 ≤ 9223372036854775807) ∧ f86G0 E s (v1.set i e) (i + 1)))))) ∧ (¬ (se.prize ≥ 0) → ((-9223372036854775808 ≤ (i : Int) + 1 ∧ (i : Int) + 1 ≤ 9223372036854775807) ∧ f86G0 E s v1 (i + 1))))) ∧ (¬ (se.kind = 4) → ((-9223372036854775808 ≤ (i : Int) + 1 ∧ (i : Int) + 1 ≤ 9223372036854775807) ∧ f86G0 E s v1 (i + 1)))))) ∧ (¬ ((i : Int) < (v1.length : Int)) → rv = v1))) : f86G0 E s v1 i := by
  intro g1
  rcases Bool.eq_false_or_eq_true (decide ((i : Int) < (v1.length : Int))) with hc0 | hc0
  · have h := h.1 (of_decide_eq_true hc0)
    obtain ⟨se, h1, h⟩ := h
    rcases Bool.eq_false_or_eq_true (se.kind == 4) with hc1 | hc1
    · have h := h.1 (eq_of_beq hc1)
      rcases Bool.eq_false_or_eq_true (decide (se.prize ≥ 0)) with hc2 | hc2
      · have h := h.1 (of_decide_eq_true hc2)
        obtain ⟨h3, h⟩ := h
        obtain ⟨e, h2, h⟩ := h
        obtain ⟨e1, h4, h⟩ := h
        obtain ⟨q19_3, h⟩ := h
        refine p86_0_0 s v1 i g1 se e e1 hE ⟨rfl, hc0, (idx_ok h1), (row_part cStg (s := 3) (k := 0) (m := 1) (fun _ => rfl) (by decide) h1), hc1, (idx_ok h1), (row_part cStg (s := 3) (k := 1) (m := 1) (fun _ => rfl) (by decide) h1), hc2, (idx_ok h1), (row_part cStg (s := 3) (k := 1) (m := 1) (fun _ => rfl) (by decide) h1), (idx_ok' h3 h2), (row_part cI (s := 1) (k := 0) (m := 1) (fun _ => rfl) (by decide) h2), (idx_ok h4), rfl, (row_fits cI (s := 1) (k := 0) (m := 1) (fun _ => rfl) (by decide) h4), rfl, q19_3, trivial⟩ ?_
        have h := (h g1)
        simp only [f86S0, List.length_set] at h
        rw [(show setAt (rowI v1) (0 + (Int.toNat (i : Int)) * 1) [.int .i64 e] = rowI (v1.set i e) from row_set cI (s := 1) (k := 0) (fun _ => rfl) h4 rfl (by first | decide | simp))]
        exact h
      · have h := h.2 (of_decide_eq_false hc2)
        obtain ⟨q9_3, h⟩ := h
        exact p86_0_1 s v1 i g1 se hE ⟨rfl, hc0, (idx_ok h1), (row_part cStg (s := 3) (k := 0) (m := 1) (fun _ => rfl) (by decide) h1), hc1, (idx_ok h1), (row_part cStg (s := 3) (k := 1) (m := 1) (fun _ => rfl) (by decide) h1), hc2, q9_3, trivial⟩ (h g1)
    · have h := h.2 (ne_of_beq_false hc1)
      obtain ⟨q7_2, h⟩ := h
      exact p86_0_2 s v1 i g1 se hE ⟨rfl, hc0, (idx_ok h1), (row_part cStg (s := 3) (k := 0) (m := 1) (fun _ => rfl) (by decide) h1), hc1, rfl, q7_2, trivial⟩ (h g1)
  · have h := h.2 (of_decide_eq_false hc0)
    exact p86_0_3 s v1 i g1  hE ⟨rfl, hc0, rfl, trivial⟩ (AvLe.of_eq (by rw [h]; try rfl))
theorem f107b : Try.f107.body = some (bodyAt Try.prog 107) := by kernel_rfl
theorem p107_start_0 (a : Int) (b : Int)   {E : Env} {res : AV} (hE : PureE Try.prog 107 res E) (ho : AllP [PureF Try.prog (.clos 62 [] []) [.int .i64 a, .int .i64 1, .int .i64 2] (.bool (within a 1 2)), (within a 1 2) = true, PureF Try.prog (.clos 62 [] []) [.int .i64 b, .int .i64 1, .int .i64 2] (.bool (within b 1 2))])
    (hr : AvLe (.bool (within b 1 2)) res) : G Try.prog E [.code (bodyAt Try.prog 107)] ⟨[.int .i64 a, .int .i64 b] ++ unds (Try.f107.ntmps - 2), []⟩ :=
  end_stepL (n := 400) (evs := [.v (.bool (within a 1 2)), .b true, .v (.bool (within b 1 2))]) (obs := _) hE Try.func107 mixed (by kernel_rfl) ho hr
theorem p107_start_1 (a : Int) (b : Int)   {E : Env} {res : AV} (hE : PureE Try.prog 107 res E) (ho : AllP [PureF Try.prog (.clos 62 [] []) [.int .i64 a, .int .i64 1, .int .i64 2] (.bool (within a 1 2)), (within a 1 2) = false])
    (hr : AvLe (.bool false) res) : G Try.prog E [.code (bodyAt Try.prog 107)] ⟨[.int .i64 a, .int .i64 b] ++ unds (Try.f107.ntmps - 2), []⟩ :=
  end_stepL (n := 400) (evs := [.v (.bool (within a 1 2)), .b false]) (obs := _) hE Try.func107 mixed (by kernel_rfl) ho hr
theorem f107W (a : Int) (b : Int) {E : Env} {rv : Bool} (hE : PureE Try.prog 107 (.bool rv) E)
    (h : (((within a 1 2) = true → rv = (within b 1 2)) ∧ ((within a 1 2) = false → rv = false))) : G Try.prog E [.code (bodyAt Try.prog 107)] ⟨[.int .i64 a, .int .i64 b] ++ unds (Try.f107.ntmps - 2), []⟩ := by
  rcases Bool.eq_false_or_eq_true (within a 1 2) with hc0 | hc0
  · have h := h.1 hc0
    exact p107_start_0 a b    hE ⟨(pureF_of Try.func62 (by kernel_rfl) f62b (withinR_ok a 1 2)), hc0, (pureF_of Try.func62 (by kernel_rfl) f62b (withinR_ok b 1 2)), trivial⟩ (AvLe.of_eq (by rw [h]; try rfl))
  · have h := h.2 hc0
    exact p107_start_1 a b    hE ⟨(pureF_of Try.func62 (by kernel_rfl) f62b (withinR_ok a 1 2)), hc0, trivial⟩ (AvLe.of_eq (by rw [h]; try rfl))
theorem f79b : Try.f79.body = some (bodyAt Try.prog 79) := by kernel_rfl
theorem p79_start_0 (s : Stl) (n : Int)  (e : Int)  {E : Env} {res : AV} (hE : PureE Try.prog 79 res E) (ho : AllP [PureF Try.prog (.clos 51 [] []) [.agg [.rsl (rowStg s.stages) 0 s.stages.length, .rsl (rowI s.worth) 0 s.worth.length, .int .i64 s.price]] (.tup [.rsl (rowI ((measR (measA s)).1)) 0 (((measR (measA s)).1).length), .bool ((measR (measA s)).2)]), (0 : Int) ≤ 0 ∧ (0 : Int) < ((((measR (measA s)).1).length : Nat) : Int), ((rowI ((measR (measA s)).1)).drop (0 + 0 * 1)).take 1 = [.int .i64 e], InR .i64 (0 - n), PureF Try.prog (.clos 49 [] []) [.int .i64 e, .int .i64 (iMax n (0 - n))] (.int .i64 (gcdI e (iMax n (0 - n)))), InR .i64 (Int.tdiv n (gcdI e (iMax n (0 - n)))), (gcdI e (iMax n (0 - n))) ≠ 0, (0 : Int) ≤ 0 ∧ (0 : Int) < ((((measR (measA s)).1).length : Nat) : Int), ((rowI ((measR (measA s)).1)).drop (0 + 0 * 1)).take 1 = [.int .i64 e], InR .i64 (Int.tdiv e (gcdI e (iMax n (0 - n)))), (gcdI e (iMax n (0 - n))) ≠ 0, 2 ≤ 2])
    (hr : AvLe (.agg [.int .i64 (Int.tdiv n (gcdI e (iMax n (0 - n)))), .int .i64 (Int.tdiv e (gcdI e (iMax n (0 - n))))]) res) : G Try.prog E [.code (bodyAt Try.prog 79)] ⟨[.agg [.rsl (rowStg s.stages) 0 s.stages.length, .rsl (rowI s.worth) 0 s.worth.length, .int .i64 s.price], .int .i64 n] ++ unds (Try.f79.ntmps - 2), []⟩ :=
  end_stepL (n := 400) (evs := [.v (.tup [.rsl (rowI ((measR (measA s)).1)) 0 (((measR (measA s)).1).length), .bool ((measR (measA s)).2)]), .ld (.int .i64 e), .v (.int .i64 (gcdI e (iMax n (0 - n)))), .ld (.int .i64 e)]) (obs := _) hE Try.func79 mixed (by kernel_rfl) ho hr
theorem f79W (s : Stl) (n : Int) {E : Env} {rv : Fr} (hE : PureE Try.prog 79 (.agg [.int .i64 rv.num, .int .i64 rv.den]) E)
    (h : ((s.stages.length ≤ 1000000 ∧ ∀ i, i < s.stages.length → formI s i = true) ∧ (∃ e : Int, ((measR (measA s)).1)[0]? = some e ∧ ((-9223372036854775808 ≤ 0 - n ∧ 0 - n ≤ 9223372036854775807) ∧ ((0 ≤ e ∧ 0 ≤ (iMax n (0 - n))) ∧ ((-9223372036854775808 ≤ Int.tdiv n (gcdI e (iMax n (0 - n))) ∧ Int.tdiv n (gcdI e (iMax n (0 - n))) ≤ 9223372036854775807) ∧ ((gcdI e (iMax n (0 - n))) ≠ 0 ∧ ((-9223372036854775808 ≤ Int.tdiv e (gcdI e (iMax n (0 - n))) ∧ Int.tdiv e (gcdI e (iMax n (0 - n))) ≤ 9223372036854775807) ∧ ((gcdI e (iMax n (0 - n))) ≠ 0 ∧ rv = (⟨(Int.tdiv n (gcdI e (iMax n (0 - n)))), (Int.tdiv e (gcdI e (iMax n (0 - n))))⟩ : Fr)))))))))) : G Try.prog E [.code (bodyAt Try.prog 79)] ⟨[.agg [.rsl (rowStg s.stages) 0 s.stages.length, .rsl (rowI s.worth) 0 s.worth.length, .int .i64 s.price], .int .i64 n] ++ unds (Try.f79.ntmps - 2), []⟩ := by
  obtain ⟨h1, h⟩ := h
  obtain ⟨e, h2, h⟩ := h
  obtain ⟨q4_0, h⟩ := h
  obtain ⟨h3, h⟩ := h
  obtain ⟨q6_0, h⟩ := h
  obtain ⟨q7_0, h⟩ := h
  obtain ⟨q10_0, h⟩ := h
  obtain ⟨q11_0, h⟩ := h
  exact p79_start_0 s n   e hE ⟨(pureF_of Try.func51 (by kernel_rfl) f51b (measures_ok s h1)), (idx_ok h2), (row_part cI (s := 1) (k := 0) (m := 1) (fun _ => rfl) (by decide) h2), q4_0, (pureF_of Try.func49 (by kernel_rfl) f49b (gcd_ok e (iMax n (0 - n)) h3)), q6_0, q7_0, (idx_ok h2), (row_part cI (s := 1) (k := 0) (m := 1) (fun _ => rfl) (by decide) h2), q10_0, q11_0, (by decide), trivial⟩ (AvLe.of_eq (by rw [h]; try rfl))

theorem won_ok (s : Stl) (kd : Int) (h : checkK s = 0 ∧ 0 ≤ kd) : Pure Try.prog 81 [.agg [.rsl (rowStg s.stages) 0 s.stages.length, .rsl (rowI s.worth) 0 s.worth.length, .int .i64 s.price], .int .i64 kd] (.rsl (rowI (endsI s (onlyI kd))) 0 (endsI s (onlyI kd)).length) := pure_of Try.func81 f81b fun E hE => by
  obtain ⟨hm, es⟩ := mok_G (isSome_of h.1)
  have hn := (stPre_of hm.st).1
  rw [es] at hn
  have key : ∀ (d i : Nat) (v : List Int), i + d = s.stages.length → v.length = s.stages.length → (∀ j, j < i → v[j]? = (endsI s (onlyI kd))[j]?) → (∀ j, i ≤ j → j < s.stages.length → v[j]? = some 0) → f81G0 E s kd v i := by
    intro d
    induction d with
    | zero =>
      intro i v hd hl h1 h2
      refine f81W0 s kd v i (rv := endsI s (onlyI kd)) hE ⟨fun h => by omega, fun _ => ?_⟩
      apply List.ext_getElem?
      intro j
      by_cases hj : j < i
      · exact (h1 j hj).symm
      · rw [List.getElem?_eq_none (by rw [ends_len]; omega), List.getElem?_eq_none (by omega)]
    | succ d ih =>
      intro i v hd hl h1 h2
      have hi : s.stages[i]? = some s.stages[i] := List.getElem?_eq_getElem (by omega)
      have he := ends_at (w := onlyI kd) hi
      generalize s.stages[i] = x at hi he
      have hv := h2 i (Nat.le_refl _) (by omega)
      have nx := fun (v' : List Int) (e : v' = v.set i (if x.kind = 4 ∧ x.prize ≥ 0 then onlyI kd x.prize else 0)) => ih (i + 1) v' (by omega) (by rw [e]; simp [hl]) (fun j hj => by
        rw [e]
        by_cases e2 : i = j
        · subst e2; rw [List.getElem?_set_self (by omega), he]
        · rw [List.getElem?_set_ne e2]; exact h1 j (by omega)) (fun j hj hj2 => by rw [e, List.getElem?_set_ne (by omega)]; exact h2 j (by omega) hj2)
      refine f81W0 s kd v i (rv := endsI s (onlyI kd)) hE ⟨fun _ => ⟨x, hi, fun h4 => ⟨fun hk => ⟨0, hv, by omega, nx _ ?_⟩, fun hk => ⟨by omega, nx _ ?_⟩⟩, fun h4 => ⟨by omega, nx _ ?_⟩⟩, fun h => by omega⟩
      · rw [if_pos ⟨h4, by omega⟩, onlyI, if_pos hk]
      · rw [onlyI, if_neg hk]; simp [set_same hv]
      · rw [if_neg (fun h => h4 h.1), set_same hv]
  exact f81W s kd (rv := endsI s (onlyI kd)) hE ⟨by omega, key s.stages.length 0 _ (by omega) (by simp) (fun j hj => by omega) (fun j _ hj => by rw [List.getElem?_replicate, if_pos hj])⟩
theorem worths2_ok (s : Stl) (h : checkK s = 0) : Pure Try.prog 86 [.agg [.rsl (rowStg s.stages) 0 s.stages.length, .rsl (rowI s.worth) 0 s.worth.length, .int .i64 s.price]] (.rsl (rowI (endsI s (worthI (machG s)))) 0 (endsI s (worthI (machG s))).length) := pure_of Try.func86 f86b fun E hE => by
  obtain ⟨hm, es⟩ := mok_G (isSome_of h)
  have hn := (stPre_of hm.st).1
  have hform := (stPre_of hm.st).2.2.2.2
  rw [es] at hn hform
  have key : ∀ (d i : Nat) (v : List Int), i + d = s.stages.length → v.length = s.stages.length → (∀ j, j < i → v[j]? = (endsI s (worthI (machG s)))[j]?) → (∀ j, i ≤ j → j < s.stages.length → v[j]? = some 0) → f86G0 E s v i := by
    intro d
    induction d with
    | zero =>
      intro i v hd hl h1 h2
      refine f86W0 s v i (rv := endsI s (worthI (machG s))) hE ⟨fun h => by omega, fun _ => ?_⟩
      apply List.ext_getElem?
      intro j
      by_cases hj : j < i
      · exact (h1 j hj).symm
      · rw [List.getElem?_eq_none (by rw [ends_len]; omega), List.getElem?_eq_none (by omega)]
    | succ d ih =>
      intro i v hd hl h1 h2
      have hi : s.stages[i]? = some s.stages[i] := List.getElem?_eq_getElem (by omega)
      have he := ends_at (w := worthI (machG s)) hi
      have hfo := form_of hi (hform i (by omega))
      generalize s.stages[i] = x at hi he hfo
      have hv := h2 i (Nat.le_refl _) (by omega)
      have nx := fun (v' : List Int) (e : v' = v.set i (if x.kind = 4 ∧ x.prize ≥ 0 then worthI (machG s) x.prize else 0)) => ih (i + 1) v' (by omega) (by rw [e]; simp [hl]) (fun j hj => by
        rw [e]
        by_cases e2 : i = j
        · subst e2; rw [List.getElem?_set_self (by omega), he]
        · rw [List.getElem?_set_ne e2]; exact h1 j (by omega)) (fun j hj hj2 => by rw [e, List.getElem?_set_ne (by omega)]; exact h2 j (by omega) hj2)
      refine f86W0 s v i (rv := endsI s (worthI (machG s))) hE ⟨fun _ => ⟨x, hi, fun h4 => ⟨fun hk => ⟨hk, _, getD_some (l := s.worth) ?_, 0, hv, by omega, nx _ ?_⟩, fun hk => ⟨by omega, nx _ ?_⟩⟩, fun h4 => ⟨by omega, nx _ ?_⟩⟩, fun h => by omega⟩
      · rcases hfo with ⟨-, -, h⟩ | ⟨h, -⟩ <;> omega
      · rw [if_pos ⟨h4, hk⟩, worthI, es]
      · rw [if_neg (fun h => hk h.2), set_same hv]
      · rw [if_neg (fun h => h4 h.1), set_same hv]
  exact f86W s (rv := endsI s (worthI (machG s))) hE ⟨by omega, key s.stages.length 0 _ (by omega) (by simp) (fun j hj => by omega) (fun j _ hj => by rw [List.getElem?_replicate, if_pos hj])⟩
def aims2 (a b : Int) : Bool := within a 1 2 && within b 1 2
theorem aims2_ok (a b : Int) : Pure Try.prog 107 [.int .i64 a, .int .i64 b] (.bool (aims2 a b)) := pure_of Try.func107 f107b fun E hE => f107W a b (rv := aims2 a b) hE ⟨fun h => by simp [aims2, h], fun h => by simp [aims2, h]⟩
theorem aims_iff {a b : Int} : aimsI [a, b] = true ↔ (a = 1 ∨ a = 2) ∧ (b = 1 ∨ b = 2) := by
  simp only [aimsI, List.any_cons, List.any_nil, Bool.or_false, Bool.not_eq_true', Bool.or_eq_false_iff, Bool.not_eq_false', aimOk, Bool.or_eq_true, decide_eq_true_eq]
theorem aims2_iff {a b : Int} : aims2 a b = true ↔ (a = 1 ∨ a = 2) ∧ (b = 1 ∨ b = 2) := by
  simp only [aims2, Bool.and_eq_true, within_iff]; omega
theorem aims_eq {a b : Int} : aims2 a b = aimsI [a, b] := by rw [Bool.eq_iff_iff, aims2_iff, aims_iff]
theorem lowest_ok (s : Stl) (n : Int) (h : checkK s = 0 ∧ -100000000000000000 ≤ n ∧ n ≤ 100000000000000000) : Pure Try.prog 79 [.agg [.rsl (rowStg s.stages) 0 s.stages.length, .rsl (rowI s.worth) 0 s.worth.length, .int .i64 s.price], .int .i64 n] (.agg [.int .i64 (fracI n ((machG s).meas.getD 0 0)).num, .int .i64 (fracI n ((machG s).meas.getD 0 0)).den]) := pure_of Try.func79 f79b fun E hE => by
  obtain ⟨hm, es⟩ := mok_G (isSome_of h.1)
  have hn := (stPre_of hm.st).1
  have hform := (stPre_of hm.st).2.2.2.2
  rw [es] at hn hform
  obtain ⟨u, hu, hu1, hu2⟩ := meas0 hm
  have h0 : 0 ≤ iMax n (0 - n) := by unfold iMax; split <;> omega
  have hg := gcd_pos hu1 h0
  have b1 := tdiv_bd (g := gcdI u (iMax n (0 - n))) (by omega) h.2.1 h.2.2
  have b2 := tdiv_bd (n := u) (B := 1000000000000) (g := gcdI u (iMax n (0 - n))) (by omega) (by omega) (by omega)
  refine f79W s n (rv := fracI n ((machG s).meas.getD 0 0)) hE ⟨⟨by omega, hform⟩, u, by rw [measR_of (isSome_of h.1)]; exact hu, by omega, ⟨by omega, h0⟩, by omega, by omega, by omega, by omega, ?_⟩
  rw [getD_of hu]; exact (low_eq hu1).symm

theorem f80nb : Try.f80.body = some (bodyAt Try.prog 80) := by kernel_rfl
def f80nK0 (P : Program) : List Item := kAt 400 [.code (bodyAt P 80)] [.stop]
def f80nS0 (s : Stl) (ends : (List Int)) (pa : Int) (oa : Int) (v1 : List Int) (i : Int) (g1 : Nat) : St := ⟨[J, .rsl (rowI ends) 0 ends.length, .int .i64 pa, .int .i64 oa, .nilSl, .ptr 0 0 0, J, J, J, J, J, .rsl (rowI ((measR (measA s)).1)) 0 (((measR (measA s)).1).length), J, .sl 1 g1 0 v1.length 1, .int .i64 i, J, J, J, J, J, J, J, J, J, J, J, J, J, J, J, J, J, J, J, J, J, J, J, J, J, J, J, J, J, J, J, J, J, J, J, J, J, J, J, J, J, J, J, J, J, J, J, J, J, J, J, J, J, J, J, J, J, J, J, J, J, J, J, J, J, J, J, J, J, J, J, J, J, J, J, J, J, J, J, J, J, J, J, J, J, J, J, J, J, J, J, J, J, J, J, J, J, J, J, J, J, J, J, J, J, J, J, J, J, J, J, J, J, J, J, J, J, J, J, J, J, J, J, J, J, J, J, J, J, J, J, J, J, J, J, J, J], [⟨true, 0, 1, true, [.rsl (rowStg s.stages) 0 s.stages.length, .rsl (rowI s.worth) 0 s.worth.length, .int .i64 s.price], false⟩, ⟨true, g1, 1, true, (rowI v1), true⟩]⟩
def f80nG0 (E : Env) (s : Stl) (ends : (List Int)) (pa : Int) (oa : Int) (v1 : List Int) (i : Int) : Prop := ∀ g1 : Nat, G Try.prog E (f80nK0 Try.prog) (f80nS0 s ends pa oa v1 i g1)
def f80nK1 (P : Program) : List Item := kAt 400 [.code (bodyAt P 80)] [.b true, .b false, .b true, .stop]
def f80nS1 (s : Stl) (ends : (List Int)) (pa : Int) (oa : Int) (i : Int) (all : Int) (v1 : List Int) (v2_0 : Int) (v2_1 : Int) (v2_2 : (List Trn)) (k : Nat) (g1 : Nat) : St := ⟨[J, .rsl (rowI ends) 0 ends.length, .int .i64 pa, .int .i64 oa, .nilSl, .ptr 0 0 0, J, J, J, J, J, .rsl (rowI ((measR (measA s)).1)) 0 (((measR (measA s)).1).length), J, .sl 1 g1 0 v1.length 1, .int .i64 i, .ptr 2 0 0, .int .i64 all, .int .i64 (k : Int), J, J, J, J, J, J, J, J, J, J, J, J, J, J, J, J, J, J, J, J, J, J, J, J, J, J, J, J, J, J, J, J, J, J, J, J, J, J, J, J, J, J, J, J, J, J, J, J, J, J, J, J, J, J, J, J, J, J, J, J, J, J, J, J, J, J, J, J, J, J, J, J, J, J, J, J, J, J, J, J, J, J, J, J, J, J, J, J, J, J, J, J, J, J, J, J, J, J, J, J, J, J, J, J, J, J, J, J, J, J, J, J, J, J, J, J, J, J, J, J, J, J, J, J, J, J, J, J, J, J, J, J, J, J], [⟨true, 0, 1, true, [.rsl (rowStg s.stages) 0 s.stages.length, .rsl (rowI s.worth) 0 s.worth.length, .int .i64 s.price], false⟩, ⟨true, g1, 1, true, (rowI v1), true⟩, ⟨true, 0, 1, true, [.int .i64 v2_0, .int .i64 v2_1, .rsl (rowTrn v2_2) 0 v2_2.length], false⟩]⟩
def f80nG1 (E : Env) (s : Stl) (ends : (List Int)) (pa : Int) (oa : Int) (i : Int) (all : Int) (v1 : List Int) (v2_0 : Int) (v2_1 : Int) (v2_2 : (List Trn)) (k : Nat) : Prop := ∀ g1 : Nat, G Try.prog E (f80nK1 Try.prog) (f80nS1 s ends pa oa i all v1 v2_0 v2_1 v2_2 k g1)
theorem p80n_start_0 (s : Stl) (ends : (List Int)) (pa : Int) (oa : Int)   {E : Env} {rv : AV} (hE : PureE Try.prog 80 rv E) (ho : AllP [PureF Try.prog (.clos 51 [] []) [.agg [.rsl (rowStg s.stages) 0 s.stages.length, .rsl (rowI s.worth) 0 s.worth.length, .int .i64 s.price]] (.tup [.rsl (rowI ((measR (measA s)).1)) 0 (((measR (measA s)).1).length), .bool ((measR (measA s)).2)]), 0 ≤ (s.stages.length : Int) ∧ (s.stages.length : Int) ≤ (s.stages.length : Int) ∧ (s.stages.length : Int) ≤ 2147483648, 0 = 0, InR .i64 ((((Int.toNat (s.stages.length : Int)) : Nat) : Int) - 1)])
    (hg : G Try.prog E (f80nK0 Try.prog) ⟨[J, .rsl (rowI ends) 0 ends.length, .int .i64 pa, .int .i64 oa, .nilSl, .ptr 0 0 0, J, J, J, J, J, .rsl (rowI ((measR (measA s)).1)) 0 (((measR (measA s)).1).length), J, .sl 1 0 0 (Int.toNat (s.stages.length : Int)) 1, .int .i64 ((((Int.toNat (s.stages.length : Int)) : Nat) : Int) - 1), J, J, J, J, J, J, J, J, J, J, J, J, J, J, J, J, J, J, J, J, J, J, J, J, J, J, J, J, J, J, J, J, J, J, J, J, J, J, J, J, J, J, J, J, J, J, J, J, J, J, J, J, J, J, J, J, J, J, J, J, J, J, J, J, J, J, J, J, J, J, J, J, J, J, J, J, J, J, J, J, J, J, J, J, J, J, J, J, J, J, J, J, J, J, J, J, J, J, J, J, J, J, J, J, J, J, J, J, J, J, J, J, J, J, J, J, J, J, J, J, J, J, J, J, J, J, J, J, J, J, J, J, J, J, J, J, J], [⟨true, 0, 1, true, [.rsl (rowStg s.stages) 0 s.stages.length, .rsl (rowI s.worth) 0 s.worth.length, .int .i64 s.price], false⟩, ⟨true, 0, 1, true, ((List.replicate (Int.toNat (s.stages.length : Int)) ([.int .i64 0] : List AV)).flatten), true⟩]⟩) : G Try.prog E [.code (bodyAt Try.prog 80)] ⟨[.agg [.rsl (rowStg s.stages) 0 s.stages.length, .rsl (rowI s.worth) 0 s.worth.length, .int .i64 s.price], .rsl (rowI ends) 0 ends.length, .int .i64 pa, .int .i64 oa, .nilSl] ++ unds (Try.f80.ntmps - 5), []⟩ :=
  segC_step (n := 400) (ds := []) (cs := []) (live := [1, 2, 3, 4, 5, 11, 13, 14]) (m := 2) (evs := [.v (.tup [.rsl (rowI ((measR (measA s)).1)) 0 (((measR (measA s)).1).length), .bool ((measR (measA s)).2)]), .stop]) (obs := _) hE.2.1 (hE.nogh _) mixed (by kernel_rfl) ho hg
theorem f80nW (s : Stl) (ends : (List Int)) (pa : Int) (oa : Int) {E : Env} {rv : (List Int)} (hE : PureE Try.prog 80 (.rsl (rowI rv) 0 rv.length) E)
    (h : ((s.stages.length ≤ 1000000 ∧ ∀ i, i < s.stages.length → formI s i = true) ∧ (s.stages.length ≤ 2147483648 ∧ ((-9223372036854775808 ≤ (((Int.toNat (s.stages.length : Int)) : Nat) : Int) - 1 ∧ (((Int.toNat (s.stages.length : Int)) : Nat) : Int) - 1 ≤ 9223372036854775807) ∧ f80nG0 E s ends pa oa (List.replicate s.stages.length (0 : Int)) ((((Int.toNat (s.stages.length : Int)) : Nat) : Int) - 1))))) : G Try.prog E [.code (bodyAt Try.prog 80)] ⟨[.agg [.rsl (rowStg s.stages) 0 s.stages.length, .rsl (rowI s.worth) 0 s.worth.length, .int .i64 s.price], .rsl (rowI ends) 0 ends.length, .int .i64 pa, .int .i64 oa, .nilSl] ++ unds (Try.f80.ntmps - 5), []⟩ := by
  obtain ⟨h1, h⟩ := h
  obtain ⟨h2, h⟩ := h
  obtain ⟨q3_0, h⟩ := h
  refine p80n_start_0 s ends pa oa    hE ⟨(pureF_of Try.func51 (by kernel_rfl) f51b (measures_ok s h1)), ⟨by omega, by omega, by have := h2; omega⟩, rfl, q3_0, trivial⟩ ?_
  have h := (h 0)
  simp only [f80nG0, f80nS0, List.length_set, List.length_replicate] at h
  rw [(show (List.replicate (Int.toNat (s.stages.length : Int)) ([.int .i64 0] : List AV)).flatten = rowI (List.replicate s.stages.length (0 : Int)) from row_rep cI _ _)]
  exact h
theorem p80n_0_0 (s : Stl) (ends : (List Int)) (pa : Int) (oa : Int) (v1 : List Int) (i : Int) (g1 : Nat) (se : Stg) (e : Int) (e1 : Int)  {E : Env} {rv : AV} (hE : PureE Try.prog 80 rv E) (ho : AllP [(decide (i ≥ 0)) = true, 0 ≤ i ∧ i < (s.stages.length : Int), ((rowStg s.stages).drop (0 + (Int.toNat i) * 3)).take 3 = [.int .i64 se.kind, .int .i64 se.prize, .rsl (rowTrn se.turns) 0 se.turns.length], 3 ≤ 3, (se.kind == 4) = true, 0 ≤ i ∧ i < (ends.length : Int), ((rowI ends).drop (0 + (Int.toNat i) * 1)).take 1 = [.int .i64 e], 0 ≤ i ∧ i < (v1.length : Int), g1 = g1, ((0 + (Int.toNat i) * 1) + 1) ≤ (rowI v1).length, g1 = g1, InR .i64 (i - 1)])
    (hg : G Try.prog E (f80nK0 Try.prog) ⟨[J, .rsl (rowI ends) 0 ends.length, .int .i64 pa, .int .i64 oa, .nilSl, .ptr 0 0 0, J, J, J, J, J, .rsl (rowI ((measR (measA s)).1)) 0 (((measR (measA s)).1).length), J, .sl 1 g1 0 v1.length 1, .int .i64 (i - 1), J, J, J, J, J, J, J, J, J, J, J, J, J, J, J, J, J, J, J, J, J, J, J, J, J, J, J, J, J, J, J, J, J, J, J, J, J, J, J, J, J, J, J, J, J, J, J, J, J, J, J, J, J, J, J, J, J, J, J, J, J, J, J, J, J, J, J, J, J, J, J, J, J, J, J, J, J, J, J, J, J, J, J, J, J, J, J, J, J, J, J, J, J, J, J, J, J, J, J, J, J, J, J, J, J, J, J, J, J, J, J, J, J, J, J, J, J, J, J, J, J, J, J, J, J, J, J, J, J, J, J, J, J, J, J, J, J], [⟨true, 0, 1, true, [.rsl (rowStg s.stages) 0 s.stages.length, .rsl (rowI s.worth) 0 s.worth.length, .int .i64 s.price], false⟩, ⟨true, g1, 1, true, (setAt (rowI v1) (0 + (Int.toNat i) * 1) [.int .i64 e]), true⟩]⟩) : G Try.prog E (f80nK0 Try.prog) (f80nS0 s ends pa oa v1 i g1) :=
  segC_step (n := 400) (ds := []) (cs := []) (live := [1, 2, 3, 4, 5, 11, 13, 14]) (m := 2) (evs := [.b true, .auto, .ld (.agg [.int .i64 se.kind, .int .i64 se.prize, .rsl (rowTrn se.turns) 0 se.turns.length]), .b true, .ld (.int .i64 e), .stop]) (obs := _) hE.2.1 (hE.nogh _) mixed (by kernel_rfl) ho hg
theorem p80n_0_1 (s : Stl) (ends : (List Int)) (pa : Int) (oa : Int) (v1 : List Int) (i : Int) (g1 : Nat) (se : Stg) (e : Int)  {E : Env} {rv : AV} (hE : PureE Try.prog 80 rv E) (ho : AllP [(decide (i ≥ 0)) = true, 0 ≤ i ∧ i < (s.stages.length : Int), ((rowStg s.stages).drop (0 + (Int.toNat i) * 3)).take 3 = [.int .i64 se.kind, .int .i64 se.prize, .rsl (rowTrn se.turns) 0 se.turns.length], 3 ≤ 3, (se.kind == 4) = false, 0 ≤ i ∧ i < ((((measR (measA s)).1).length : Nat) : Int), ((rowI ((measR (measA s)).1)).drop (0 + (Int.toNat i) * 1)).take 1 = [.int .i64 e], (se.kind == 1) = true, PureF Try.prog (.clos 100 [] []) [.agg [.int .i64 se.kind, .int .i64 se.prize, .rsl (rowTrn se.turns) 0 se.turns.length]] (.int .i64 (totI se)), InR .i64 (Int.tdiv e (totI se)), (totI se) ≠ 0])
    (hg : G Try.prog E (f80nK1 Try.prog) ⟨[J, .rsl (rowI ends) 0 ends.length, .int .i64 pa, .int .i64 oa, .nilSl, .ptr 0 0 0, J, J, J, J, J, .rsl (rowI ((measR (measA s)).1)) 0 (((measR (measA s)).1).length), J, .sl 1 g1 0 v1.length 1, .int .i64 i, .ptr 2 0 0, .int .i64 (Int.tdiv e (totI se)), .int .i64 0, J, J, J, J, J, J, J, J, J, J, J, J, J, J, J, J, J, J, J, J, J, J, J, J, J, J, J, J, J, J, J, J, J, J, J, J, J, J, J, J, J, J, J, J, J, J, J, J, J, J, J, J, J, J, J, J, J, J, J, J, J, J, J, J, J, J, J, J, J, J, J, J, J, J, J, J, J, J, J, J, J, J, J, J, J, J, J, J, J, J, J, J, J, J, J, J, J, J, J, J, J, J, J, J, J, J, J, J, J, J, J, J, J, J, J, J, J, J, J, J, J, J, J, J, J, J, J, J, J, J, J, J, J, J], [⟨true, 0, 1, true, [.rsl (rowStg s.stages) 0 s.stages.length, .rsl (rowI s.worth) 0 s.worth.length, .int .i64 s.price], false⟩, ⟨true, g1, 1, true, (rowI v1), true⟩, ⟨true, 0, 1, true, [.int .i64 se.kind, .int .i64 se.prize, .rsl (rowTrn se.turns) 0 se.turns.length], false⟩]⟩) : G Try.prog E (f80nK0 Try.prog) (f80nS0 s ends pa oa v1 i g1) :=
  segC_step (n := 400) (ds := []) (cs := []) (live := [1, 2, 3, 4, 5, 11, 13, 14, 15, 16, 17]) (m := 3) (evs := [.b true, .auto, .ld (.agg [.int .i64 se.kind, .int .i64 se.prize, .rsl (rowTrn se.turns) 0 se.turns.length]), .b false, .ld (.int .i64 e), .b true, .v (.int .i64 (totI se)), .stop]) (obs := _) hE.2.1 (hE.nogh _) mixed (by kernel_rfl) ho hg
theorem p80n_0_2 (s : Stl) (ends : (List Int)) (pa : Int) (oa : Int) (v1 : List Int) (i : Int) (g1 : Nat) (se : Stg) (e : Int)  {E : Env} {rv : AV} (hE : PureE Try.prog 80 rv E) (ho : AllP [(decide (i ≥ 0)) = true, 0 ≤ i ∧ i < (s.stages.length : Int), ((rowStg s.stages).drop (0 + (Int.toNat i) * 3)).take 3 = [.int .i64 se.kind, .int .i64 se.prize, .rsl (rowTrn se.turns) 0 se.turns.length], 3 ≤ 3, (se.kind == 4) = false, 0 ≤ i ∧ i < ((((measR (measA s)).1).length : Nat) : Int), ((rowI ((measR (measA s)).1)).drop (0 + (Int.toNat i) * 1)).take 1 = [.int .i64 e], (se.kind == 1) = false])
    (hg : G Try.prog E (f80nK1 Try.prog) ⟨[J, .rsl (rowI ends) 0 ends.length, .int .i64 pa, .int .i64 oa, .nilSl, .ptr 0 0 0, J, J, J, J, J, .rsl (rowI ((measR (measA s)).1)) 0 (((measR (measA s)).1).length), J, .sl 1 g1 0 v1.length 1, .int .i64 i, .ptr 2 0 0, .int .i64 e, .int .i64 0, J, J, J, J, J, J, J, J, J, J, J, J, J, J, J, J, J, J, J, J, J, J, J, J, J, J, J, J, J, J, J, J, J, J, J, J, J, J, J, J, J, J, J, J, J, J, J, J, J, J, J, J, J, J, J, J, J, J, J, J, J, J, J, J, J, J, J, J, J, J, J, J, J, J, J, J, J, J, J, J, J, J, J, J, J, J, J, J, J, J, J, J, J, J, J, J, J, J, J, J, J, J, J, J, J, J, J, J, J, J, J, J, J, J, J, J, J, J, J, J, J, J, J, J, J, J, J, J, J, J, J, J, J, J], [⟨true, 0, 1, true, [.rsl (rowStg s.stages) 0 s.stages.length, .rsl (rowI s.worth) 0 s.worth.length, .int .i64 s.price], false⟩, ⟨true, g1, 1, true, (rowI v1), true⟩, ⟨true, 0, 1, true, [.int .i64 se.kind, .int .i64 se.prize, .rsl (rowTrn se.turns) 0 se.turns.length], false⟩]⟩) : G Try.prog E (f80nK0 Try.prog) (f80nS0 s ends pa oa v1 i g1) :=
  segC_step (n := 400) (ds := []) (cs := []) (live := [1, 2, 3, 4, 5, 11, 13, 14, 15, 16, 17]) (m := 3) (evs := [.b true, .auto, .ld (.agg [.int .i64 se.kind, .int .i64 se.prize, .rsl (rowTrn se.turns) 0 se.turns.length]), .b false, .ld (.int .i64 e), .b false, .stop]) (obs := _) hE.2.1 (hE.nogh _) mixed (by kernel_rfl) ho hg
theorem p80n_0_3 (s : Stl) (ends : (List Int)) (pa : Int) (oa : Int) (v1 : List Int) (i : Int) (g1 : Nat)  {E : Env} {res : AV} (hE : PureE Try.prog 80 res E) (ho : AllP [(decide (i ≥ 0)) = false, g1 = g1])
    (hr : AvLe (.rsl (rowI v1) 0 v1.length) res) : G Try.prog E (f80nK0 Try.prog) (f80nS0 s ends pa oa v1 i g1) :=
  end_stepL (n := 400) (evs := [.b false]) (obs := _) hE Try.func80 mixed (by kernel_rfl) ho hr
theorem f80nW0 (s : Stl) (ends : (List Int)) (pa : Int) (oa : Int) (v1 : List Int) (i : Int) {E : Env} {rv : (List Int)} (hE : PureE Try.prog 80 (.rsl (rowI rv) 0 rv.length) E)
    (h : ((i ≥ 0 → (0 ≤ i ∧ (∃ se : Stg, s.stages[Int.toNat i]? = some se ∧ ((se.kind = 4 → (0 ≤ i ∧ (∃ e : Int, ends[Int.toNat i]? = some e ∧ (0 ≤ i ∧ (∃ e1 : Int, v1[Int.toNat i]? = some e1 ∧ ((-9223372036854775808 ≤ i - 1 ∧ i - 1 ≤ 9223372036854775807) ∧ f80nG0 E s ends pa oa (v1.set (Int.toNat i) e) (i - 1))))))) ∧ (¬ (se.kind = 4) → (0 ≤ i ∧ (∃ e : Int, ((measR (measA s)).1)[Int.toNat i]? = some e ∧ ((se.kind = 1 → ((TotOk se) ∧ ((-9223372036854775808 ≤ Int.tdiv e (totI se) ∧ Int.tdiv e (totI se) ≤ 9223372036854775807) ∧ ((totI se) ≠ 0 ∧ f80nG1 E s ends pa oa i (Int.tdiv e (totI se)) v1 se.kind se.prize se.turns 0)))) ∧ (¬ (se.kind = 1) → f80nG1 E s ends pa oa i e v1 se.kind se.prize se.turns 0))))))))) ∧ (¬ (i ≥ 0) → rv = v1))) : f80nG0 E s ends pa oa v1 i := by
  intro g1
  rcases Bool.eq_false_or_eq_true (decide (i ≥ 0)) with hc0 | hc0
  · have h := h.1 (of_decide_eq_true hc0)
    obtain ⟨h2, h⟩ := h
    obtain ⟨se, h1, h⟩ := h
    rcases Bool.eq_false_or_eq_true (se.kind == 4) with hc1 | hc1
    · have h := h.1 (eq_of_beq hc1)
      obtain ⟨h4, h⟩ := h
      obtain ⟨e, h3, h⟩ := h
      obtain ⟨h6, h⟩ := h
      obtain ⟨e1, h5, h⟩ := h
      obtain ⟨q14_2, h⟩ := h
      refine p80n_0_0 s ends pa oa v1 i g1 se e e1 hE ⟨hc0, (idx_ok' h2 h1), (row_part cStg (s := 3) (k := 0) (m := 3) (fun _ => rfl) (by decide) h1), (by decide), hc1, (idx_ok' h4 h3), (row_part cI (s := 1) (k := 0) (m := 1) (fun _ => rfl) (by decide) h3), (idx_ok' h6 h5), rfl, (row_fits cI (s := 1) (k := 0) (m := 1) (fun _ => rfl) (by decide) h5), rfl, q14_2, trivial⟩ ?_
      have h := (h g1)
      simp only [f80nS0, List.length_set] at h
      rw [(show setAt (rowI v1) (0 + (Int.toNat i) * 1) [.int .i64 e] = rowI (v1.set (Int.toNat i) e) from row_set cI (s := 1) (k := 0) (fun _ => rfl) h5 rfl (by first | decide | simp))]
      exact h
    · have h := h.2 (ne_of_beq_false hc1)
      obtain ⟨h4, h⟩ := h
      obtain ⟨e, h3, h⟩ := h
      rcases Bool.eq_false_or_eq_true (se.kind == 1) with hc2 | hc2
      · have h := h.1 (eq_of_beq hc2)
        obtain ⟨h5, h⟩ := h
        obtain ⟨q11_3, h⟩ := h
        obtain ⟨q12_3, h⟩ := h
        exact p80n_0_1 s ends pa oa v1 i g1 se e hE ⟨hc0, (idx_ok' h2 h1), (row_part cStg (s := 3) (k := 0) (m := 3) (fun _ => rfl) (by decide) h1), (by decide), hc1, (idx_ok' h4 h3), (row_part cI (s := 1) (k := 0) (m := 1) (fun _ => rfl) (by decide) h3), hc2, (pureF_of Try.func100 (by kernel_rfl) f100b (totalR_ok se h5)), q11_3, q12_3, trivial⟩ (h g1)
      · have h := h.2 (ne_of_beq_false hc2)
        exact p80n_0_2 s ends pa oa v1 i g1 se e hE ⟨hc0, (idx_ok' h2 h1), (row_part cStg (s := 3) (k := 0) (m := 3) (fun _ => rfl) (by decide) h1), (by decide), hc1, (idx_ok' h4 h3), (row_part cI (s := 1) (k := 0) (m := 1) (fun _ => rfl) (by decide) h3), hc2, trivial⟩ (h g1)
  · have h := h.2 (of_decide_eq_false hc0)
    exact p80n_0_3 s ends pa oa v1 i g1  hE ⟨hc0, rfl, trivial⟩ (AvLe.of_eq (by rw [h]; try rfl))
theorem p80n_1_0 (s : Stl) (ends : (List Int)) (pa : Int) (oa : Int) (i : Int) (all : Int) (v1 : List Int) (v2_0 : Int) (v2_1 : Int) (v2_2 : (List Trn)) (k : Nat) (g1 : Nat) (te : Trn) (e : Int) (e1 : Int) (e2 : Int)  {E : Env} {rv : AV} (hE : PureE Try.prog 80 rv E) (ho : AllP [(decide ((k : Int) < (v2_2.length : Int))) = true, 0 ≤ (k : Int) ∧ (k : Int) < (v2_2.length : Int), ((rowTrn v2_2).drop (0 + (Int.toNat (k : Int)) * 2)).take 2 = [.int .i64 te.w, .int .i64 te.to], 2 ≤ 2, 0 ≤ te.to ∧ te.to < (v1.length : Int), g1 = g1, g1 = g1, ((rowI v1).drop (0 + (Int.toNat te.to) * 1)).take 1 = [.int .i64 e], 0 ≤ te.to ∧ te.to < ((((measR (measA s)).1).length : Nat) : Int), ((rowI ((measR (measA s)).1)).drop (0 + (Int.toNat te.to) * 1)).take 1 = [.int .i64 e1], InR .i64 (Int.tdiv all e1), e1 ≠ 0, InR .i64 (e * (Int.tdiv all e1)), (v2_0 == 3) = true, (v2_0 == 1) = true, 0 ≤ i ∧ i < (v1.length : Int), g1 = g1, g1 = g1, ((rowI v1).drop (0 + (Int.toNat i) * 1)).take 1 = [.int .i64 e2], InR .i64 ((e * (Int.tdiv all e1)) * te.w), InR .i64 (e2 + ((e * (Int.tdiv all e1)) * te.w)), 0 ≤ i ∧ i < (v1.length : Int), g1 = g1, ((0 + (Int.toNat i) * 1) + 1) ≤ (rowI v1).length, g1 = g1, InR .i64 ((k : Int) + 1)])
    (hg : G Try.prog E (f80nK1 Try.prog) ⟨[J, .rsl (rowI ends) 0 ends.length, .int .i64 pa, .int .i64 oa, .nilSl, .ptr 0 0 0, J, J, J, J, J, .rsl (rowI ((measR (measA s)).1)) 0 (((measR (measA s)).1).length), J, .sl 1 g1 0 v1.length 1, .int .i64 i, .ptr 2 0 0, .int .i64 all, .int .i64 ((k : Int) + 1), J, J, J, J, J, J, J, J, J, J, J, J, J, J, J, J, J, J, J, J, J, J, J, J, J, J, J, J, J, J, J, J, J, J, J, J, J, J, J, J, J, J, J, J, J, J, J, J, J, J, J, J, J, J, J, J, J, J, J, J, J, J, J, J, J, J, J, J, J, J, J, J, J, J, J, J, J, J, J, J, J, J, J, J, J, J, J, J, J, J, J, J, J, J, J, J, J, J, J, J, J, J, J, J, J, J, J, J, J, J, J, J, J, J, J, J, J, J, J, J, J, J, J, J, J, J, J, J, J, J, J, J, J, J], [⟨true, 0, 1, true, [.rsl (rowStg s.stages) 0 s.stages.length, .rsl (rowI s.worth) 0 s.worth.length, .int .i64 s.price], false⟩, ⟨true, g1, 1, true, (setAt (rowI v1) (0 + (Int.toNat i) * 1) [.int .i64 (e2 + ((e * (Int.tdiv all e1)) * te.w))]), true⟩, ⟨true, 0, 1, true, [.int .i64 v2_0, .int .i64 v2_1, .rsl (rowTrn v2_2) 0 v2_2.length], false⟩]⟩) : G Try.prog E (f80nK1 Try.prog) (f80nS1 s ends pa oa i all v1 v2_0 v2_1 v2_2 k g1) :=
  segC_step (n := 400) (ds := []) (cs := []) (live := [1, 2, 3, 4, 5, 11, 13, 14, 15, 16, 17]) (m := 3) (evs := [.b true, .auto, .ld (.agg [.int .i64 te.w, .int .i64 te.to]), .auto, .ld (.int .i64 e), .auto, .ld (.int .i64 e1), .b true, .b true, .ld (.int .i64 e2), .stop]) (obs := _) hE.2.1 (hE.nogh _) mixed (by kernel_rfl) ho hg
theorem p80n_1_1 (s : Stl) (ends : (List Int)) (pa : Int) (oa : Int) (i : Int) (all : Int) (v1 : List Int) (v2_0 : Int) (v2_1 : Int) (v2_2 : (List Trn)) (k : Nat) (g1 : Nat) (te : Trn) (e : Int) (e1 : Int) (e2 : Int)  {E : Env} {rv : AV} (hE : PureE Try.prog 80 rv E) (ho : AllP [(decide ((k : Int) < (v2_2.length : Int))) = true, 0 ≤ (k : Int) ∧ (k : Int) < (v2_2.length : Int), ((rowTrn v2_2).drop (0 + (Int.toNat (k : Int)) * 2)).take 2 = [.int .i64 te.w, .int .i64 te.to], 2 ≤ 2, 0 ≤ te.to ∧ te.to < (v1.length : Int), g1 = g1, g1 = g1, ((rowI v1).drop (0 + (Int.toNat te.to) * 1)).take 1 = [.int .i64 e], 0 ≤ te.to ∧ te.to < ((((measR (measA s)).1).length : Nat) : Int), ((rowI ((measR (measA s)).1)).drop (0 + (Int.toNat te.to) * 1)).take 1 = [.int .i64 e1], InR .i64 (Int.tdiv all e1), e1 ≠ 0, InR .i64 (e * (Int.tdiv all e1)), (v2_0 == 3) = true, (v2_0 == 1) = false, false = false, ((k : Int) == 0) = true, true = true, true = true, 0 ≤ i ∧ i < (v1.length : Int), g1 = g1, ((0 + (Int.toNat i) * 1) + 1) ≤ (rowI v1).length, g1 = g1, InR .i64 ((k : Int) + 1)])
    (hg : G Try.prog E (f80nK1 Try.prog) ⟨[J, .rsl (rowI ends) 0 ends.length, .int .i64 pa, .int .i64 oa, .nilSl, .ptr 0 0 0, J, J, J, J, J, .rsl (rowI ((measR (measA s)).1)) 0 (((measR (measA s)).1).length), J, .sl 1 g1 0 v1.length 1, .int .i64 i, .ptr 2 0 0, .int .i64 all, .int .i64 ((k : Int) + 1), J, J, J, J, J, J, J, J, J, J, J, J, J, J, J, J, J, J, J, J, J, J, J, J, J, J, J, J, J, J, J, J, J, J, J, J, J, J, J, J, J, J, J, J, J, J, J, J, J, J, J, J, J, J, J, J, J, J, J, J, J, J, J, J, J, J, J, J, J, J, J, J, J, J, J, J, J, J, J, J, J, J, J, J, J, J, J, J, J, J, J, J, J, J, J, J, J, J, J, J, J, J, J, J, J, J, J, J, J, J, J, J, J, J, J, J, J, J, J, J, J, J, J, J, J, J, J, J, J, J, J, J, J, J], [⟨true, 0, 1, true, [.rsl (rowStg s.stages) 0 s.stages.length, .rsl (rowI s.worth) 0 s.worth.length, .int .i64 s.price], false⟩, ⟨true, g1, 1, true, (setAt (rowI v1) (0 + (Int.toNat i) * 1) [.int .i64 (e * (Int.tdiv all e1))]), true⟩, ⟨true, 0, 1, true, [.int .i64 v2_0, .int .i64 v2_1, .rsl (rowTrn v2_2) 0 v2_2.length], false⟩]⟩) : G Try.prog E (f80nK1 Try.prog) (f80nS1 s ends pa oa i all v1 v2_0 v2_1 v2_2 k g1) :=
  segC_step (n := 400) (ds := []) (cs := []) (live := [1, 2, 3, 4, 5, 11, 13, 14, 15, 16, 17]) (m := 3) (evs := [.b true, .auto, .ld (.agg [.int .i64 te.w, .int .i64 te.to]), .auto, .ld (.int .i64 e), .auto, .ld (.int .i64 e1), .b true, .b false, .b false, .b true, .b true, .b true, .stop]) (obs := _) hE.2.1 (hE.nogh _) mixed (by kernel_rfl) ho hg
theorem p80n_1_2 (s : Stl) (ends : (List Int)) (pa : Int) (oa : Int) (i : Int) (all : Int) (v1 : List Int) (v2_0 : Int) (v2_1 : Int) (v2_2 : (List Trn)) (k : Nat) (g1 : Nat) (te : Trn) (e : Int) (e1 : Int) (e2 : Int)  {E : Env} {rv : AV} (hE : PureE Try.prog 80 rv E) (ho : AllP [(decide ((k : Int) < (v2_2.length : Int))) = true, 0 ≤ (k : Int) ∧ (k : Int) < (v2_2.length : Int), ((rowTrn v2_2).drop (0 + (Int.toNat (k : Int)) * 2)).take 2 = [.int .i64 te.w, .int .i64 te.to], 2 ≤ 2, 0 ≤ te.to ∧ te.to < (v1.length : Int), g1 = g1, g1 = g1, ((rowI v1).drop (0 + (Int.toNat te.to) * 1)).take 1 = [.int .i64 e], 0 ≤ te.to ∧ te.to < ((((measR (measA s)).1).length : Nat) : Int), ((rowI ((measR (measA s)).1)).drop (0 + (Int.toNat te.to) * 1)).take 1 = [.int .i64 e1], InR .i64 (Int.tdiv all e1), e1 ≠ 0, InR .i64 (e * (Int.tdiv all e1)), (v2_0 == 3) = true, (v2_0 == 1) = false, false = false, ((k : Int) == 0) = false, (oa == 2) = true, 0 ≤ i ∧ i < (v1.length : Int), g1 = g1, g1 = g1, ((rowI v1).drop (0 + (Int.toNat i) * 1)).take 1 = [.int .i64 e2], (decide ((e * (Int.tdiv all e1)) > e2)) = true, true = true, 0 ≤ i ∧ i < (v1.length : Int), g1 = g1, ((0 + (Int.toNat i) * 1) + 1) ≤ (rowI v1).length, g1 = g1, InR .i64 ((k : Int) + 1)])
    (hg : G Try.prog E (f80nK1 Try.prog) ⟨[J, .rsl (rowI ends) 0 ends.length, .int .i64 pa, .int .i64 oa, .nilSl, .ptr 0 0 0, J, J, J, J, J, .rsl (rowI ((measR (measA s)).1)) 0 (((measR (measA s)).1).length), J, .sl 1 g1 0 v1.length 1, .int .i64 i, .ptr 2 0 0, .int .i64 all, .int .i64 ((k : Int) + 1), J, J, J, J, J, J, J, J, J, J, J, J, J, J, J, J, J, J, J, J, J, J, J, J, J, J, J, J, J, J, J, J, J, J, J, J, J, J, J, J, J, J, J, J, J, J, J, J, J, J, J, J, J, J, J, J, J, J, J, J, J, J, J, J, J, J, J, J, J, J, J, J, J, J, J, J, J, J, J, J, J, J, J, J, J, J, J, J, J, J, J, J, J, J, J, J, J, J, J, J, J, J, J, J, J, J, J, J, J, J, J, J, J, J, J, J, J, J, J, J, J, J, J, J, J, J, J, J, J, J, J, J, J, J], [⟨true, 0, 1, true, [.rsl (rowStg s.stages) 0 s.stages.length, .rsl (rowI s.worth) 0 s.worth.length, .int .i64 s.price], false⟩, ⟨true, g1, 1, true, (setAt (rowI v1) (0 + (Int.toNat i) * 1) [.int .i64 (e * (Int.tdiv all e1))]), true⟩, ⟨true, 0, 1, true, [.int .i64 v2_0, .int .i64 v2_1, .rsl (rowTrn v2_2) 0 v2_2.length], false⟩]⟩) : G Try.prog E (f80nK1 Try.prog) (f80nS1 s ends pa oa i all v1 v2_0 v2_1 v2_2 k g1) :=
  segC_step (n := 400) (ds := []) (cs := []) (live := [1, 2, 3, 4, 5, 11, 13, 14, 15, 16, 17]) (m := 3) (evs := [.b true, .auto, .ld (.agg [.int .i64 te.w, .int .i64 te.to]), .auto, .ld (.int .i64 e), .auto, .ld (.int .i64 e1), .b true, .b false, .b false, .b false, .b true, .ld (.int .i64 e2), .b true, .b true, .stop]) (obs := _) hE.2.1 (hE.nogh _) mixed (by kernel_rfl) ho hg
theorem p80n_1_3 (s : Stl) (ends : (List Int)) (pa : Int) (oa : Int) (i : Int) (all : Int) (v1 : List Int) (v2_0 : Int) (v2_1 : Int) (v2_2 : (List Trn)) (k : Nat) (g1 : Nat) (te : Trn) (e : Int) (e1 : Int) (e2 : Int)  {E : Env} {rv : AV} (hE : PureE Try.prog 80 rv E) (ho : AllP [(decide ((k : Int) < (v2_2.length : Int))) = true, 0 ≤ (k : Int) ∧ (k : Int) < (v2_2.length : Int), ((rowTrn v2_2).drop (0 + (Int.toNat (k : Int)) * 2)).take 2 = [.int .i64 te.w, .int .i64 te.to], 2 ≤ 2, 0 ≤ te.to ∧ te.to < (v1.length : Int), g1 = g1, g1 = g1, ((rowI v1).drop (0 + (Int.toNat te.to) * 1)).take 1 = [.int .i64 e], 0 ≤ te.to ∧ te.to < ((((measR (measA s)).1).length : Nat) : Int), ((rowI ((measR (measA s)).1)).drop (0 + (Int.toNat te.to) * 1)).take 1 = [.int .i64 e1], InR .i64 (Int.tdiv all e1), e1 ≠ 0, InR .i64 (e * (Int.tdiv all e1)), (v2_0 == 3) = true, (v2_0 == 1) = false, false = false, ((k : Int) == 0) = false, (oa == 2) = true, 0 ≤ i ∧ i < (v1.length : Int), g1 = g1, g1 = g1, ((rowI v1).drop (0 + (Int.toNat i) * 1)).take 1 = [.int .i64 e2], (decide ((e * (Int.tdiv all e1)) > e2)) = false, (oa == 1) = true, 0 ≤ i ∧ i < (v1.length : Int), g1 = g1, g1 = g1, ((rowI v1).drop (0 + (Int.toNat i) * 1)).take 1 = [.int .i64 e2], (decide ((e * (Int.tdiv all e1)) < e2)) = true, 0 ≤ i ∧ i < (v1.length : Int), g1 = g1, ((0 + (Int.toNat i) * 1) + 1) ≤ (rowI v1).length, g1 = g1, InR .i64 ((k : Int) + 1)])
    (hg : G Try.prog E (f80nK1 Try.prog) ⟨[J, .rsl (rowI ends) 0 ends.length, .int .i64 pa, .int .i64 oa, .nilSl, .ptr 0 0 0, J, J, J, J, J, .rsl (rowI ((measR (measA s)).1)) 0 (((measR (measA s)).1).length), J, .sl 1 g1 0 v1.length 1, .int .i64 i, .ptr 2 0 0, .int .i64 all, .int .i64 ((k : Int) + 1), J, J, J, J, J, J, J, J, J, J, J, J, J, J, J, J, J, J, J, J, J, J, J, J, J, J, J, J, J, J, J, J, J, J, J, J, J, J, J, J, J, J, J, J, J, J, J, J, J, J, J, J, J, J, J, J, J, J, J, J, J, J, J, J, J, J, J, J, J, J, J, J, J, J, J, J, J, J, J, J, J, J, J, J, J, J, J, J, J, J, J, J, J, J, J, J, J, J, J, J, J, J, J, J, J, J, J, J, J, J, J, J, J, J, J, J, J, J, J, J, J, J, J, J, J, J, J, J, J, J, J, J, J, J], [⟨true, 0, 1, true, [.rsl (rowStg s.stages) 0 s.stages.length, .rsl (rowI s.worth) 0 s.worth.length, .int .i64 s.price], false⟩, ⟨true, g1, 1, true, (setAt (rowI v1) (0 + (Int.toNat i) * 1) [.int .i64 (e * (Int.tdiv all e1))]), true⟩, ⟨true, 0, 1, true, [.int .i64 v2_0, .int .i64 v2_1, .rsl (rowTrn v2_2) 0 v2_2.length], false⟩]⟩) : G Try.prog E (f80nK1 Try.prog) (f80nS1 s ends pa oa i all v1 v2_0 v2_1 v2_2 k g1) :=
  segC_step (n := 400) (ds := []) (cs := []) (live := [1, 2, 3, 4, 5, 11, 13, 14, 15, 16, 17]) (m := 3) (evs := [.b true, .auto, .ld (.agg [.int .i64 te.w, .int .i64 te.to]), .auto, .ld (.int .i64 e), .auto, .ld (.int .i64 e1), .b true, .b false, .b false, .b false, .b true, .ld (.int .i64 e2), .b false, .b true, .ld (.int .i64 e2), .b true, .stop]) (obs := _) hE.2.1 (hE.nogh _) mixed (by kernel_rfl) ho hg
theorem p80n_1_4 (s : Stl) (ends : (List Int)) (pa : Int) (oa : Int) (i : Int) (all : Int) (v1 : List Int) (v2_0 : Int) (v2_1 : Int) (v2_2 : (List Trn)) (k : Nat) (g1 : Nat) (te : Trn) (e : Int) (e1 : Int) (e2 : Int)  {E : Env} {rv : AV} (hE : PureE Try.prog 80 rv E) (ho : AllP [(decide ((k : Int) < (v2_2.length : Int))) = true, 0 ≤ (k : Int) ∧ (k : Int) < (v2_2.length : Int), ((rowTrn v2_2).drop (0 + (Int.toNat (k : Int)) * 2)).take 2 = [.int .i64 te.w, .int .i64 te.to], 2 ≤ 2, 0 ≤ te.to ∧ te.to < (v1.length : Int), g1 = g1, g1 = g1, ((rowI v1).drop (0 + (Int.toNat te.to) * 1)).take 1 = [.int .i64 e], 0 ≤ te.to ∧ te.to < ((((measR (measA s)).1).length : Nat) : Int), ((rowI ((measR (measA s)).1)).drop (0 + (Int.toNat te.to) * 1)).take 1 = [.int .i64 e1], InR .i64 (Int.tdiv all e1), e1 ≠ 0, InR .i64 (e * (Int.tdiv all e1)), (v2_0 == 3) = true, (v2_0 == 1) = false, false = false, ((k : Int) == 0) = false, (oa == 2) = true, 0 ≤ i ∧ i < (v1.length : Int), g1 = g1, g1 = g1, ((rowI v1).drop (0 + (Int.toNat i) * 1)).take 1 = [.int .i64 e2], (decide ((e * (Int.tdiv all e1)) > e2)) = false, (oa == 1) = true, 0 ≤ i ∧ i < (v1.length : Int), g1 = g1, g1 = g1, ((rowI v1).drop (0 + (Int.toNat i) * 1)).take 1 = [.int .i64 e2], (decide ((e * (Int.tdiv all e1)) < e2)) = false, InR .i64 ((k : Int) + 1)])
    (hg : G Try.prog E (f80nK1 Try.prog) ⟨[J, .rsl (rowI ends) 0 ends.length, .int .i64 pa, .int .i64 oa, .nilSl, .ptr 0 0 0, J, J, J, J, J, .rsl (rowI ((measR (measA s)).1)) 0 (((measR (measA s)).1).length), J, .sl 1 g1 0 v1.length 1, .int .i64 i, .ptr 2 0 0, .int .i64 all, .int .i64 ((k : Int) + 1), J, J, J, J, J, J, J, J, J, J, J, J, J, J, J, J, J, J, J, J, J, J, J, J, J, J, J, J, J, J, J, J, J, J, J, J, J, J, J, J, J, J, J, J, J, J, J, J, J, J, J, J, J, J, J, J, J, J, J, J, J, J, J, J, J, J, J, J, J, J, J, J, J, J, J, J, J, J, J, J, J, J, J, J, J, J, J, J, J, J, J, J, J, J, J, J, J, J, J, J, J, J, J, J, J, J, J, J, J, J, J, J, J, J, J, J, J, J, J, J, J, J, J, J, J, J, J, J, J, J, J, J, J, J], [⟨true, 0, 1, true, [.rsl (rowStg s.stages) 0 s.stages.length, .rsl (rowI s.worth) 0 s.worth.length, .int .i64 s.price], false⟩, ⟨true, g1, 1, true, (rowI v1), true⟩, ⟨true, 0, 1, true, [.int .i64 v2_0, .int .i64 v2_1, .rsl (rowTrn v2_2) 0 v2_2.length], false⟩]⟩) : G Try.prog E (f80nK1 Try.prog) (f80nS1 s ends pa oa i all v1 v2_0 v2_1 v2_2 k g1) :=
  segC_step (n := 400) (ds := []) (cs := []) (live := [1, 2, 3, 4, 5, 11, 13, 14, 15, 16, 17]) (m := 3) (evs := [.b true, .auto, .ld (.agg [.int .i64 te.w, .int .i64 te.to]), .auto, .ld (.int .i64 e), .auto, .ld (.int .i64 e1), .b true, .b false, .b false, .b false, .b true, .ld (.int .i64 e2), .b false, .b true, .ld (.int .i64 e2), .b false, .stop]) (obs := _) hE.2.1 (hE.nogh _) mixed (by kernel_rfl) ho hg
theorem p80n_1_5 (s : Stl) (ends : (List Int)) (pa : Int) (oa : Int) (i : Int) (all : Int) (v1 : List Int) (v2_0 : Int) (v2_1 : Int) (v2_2 : (List Trn)) (k : Nat) (g1 : Nat) (te : Trn) (e : Int) (e1 : Int) (e2 : Int)  {E : Env} {rv : AV} (hE : PureE Try.prog 80 rv E) (ho : AllP [(decide ((k : Int) < (v2_2.length : Int))) = true, 0 ≤ (k : Int) ∧ (k : Int) < (v2_2.length : Int), ((rowTrn v2_2).drop (0 + (Int.toNat (k : Int)) * 2)).take 2 = [.int .i64 te.w, .int .i64 te.to], 2 ≤ 2, 0 ≤ te.to ∧ te.to < (v1.length : Int), g1 = g1, g1 = g1, ((rowI v1).drop (0 + (Int.toNat te.to) * 1)).take 1 = [.int .i64 e], 0 ≤ te.to ∧ te.to < ((((measR (measA s)).1).length : Nat) : Int), ((rowI ((measR (measA s)).1)).drop (0 + (Int.toNat te.to) * 1)).take 1 = [.int .i64 e1], InR .i64 (Int.tdiv all e1), e1 ≠ 0, InR .i64 (e * (Int.tdiv all e1)), (v2_0 == 3) = true, (v2_0 == 1) = false, false = false, ((k : Int) == 0) = false, (oa == 2) = true, 0 ≤ i ∧ i < (v1.length : Int), g1 = g1, g1 = g1, ((rowI v1).drop (0 + (Int.toNat i) * 1)).take 1 = [.int .i64 e2], (decide ((e * (Int.tdiv all e1)) > e2)) = false, (oa == 1) = false, false = false, InR .i64 ((k : Int) + 1)])
    (hg : G Try.prog E (f80nK1 Try.prog) ⟨[J, .rsl (rowI ends) 0 ends.length, .int .i64 pa, .int .i64 oa, .nilSl, .ptr 0 0 0, J, J, J, J, J, .rsl (rowI ((measR (measA s)).1)) 0 (((measR (measA s)).1).length), J, .sl 1 g1 0 v1.length 1, .int .i64 i, .ptr 2 0 0, .int .i64 all, .int .i64 ((k : Int) + 1), J, J, J, J, J, J, J, J, J, J, J, J, J, J, J, J, J, J, J, J, J, J, J, J, J, J, J, J, J, J, J, J, J, J, J, J, J, J, J, J, J, J, J, J, J, J, J, J, J, J, J, J, J, J, J, J, J, J, J, J, J, J, J, J, J, J, J, J, J, J, J, J, J, J, J, J, J, J, J, J, J, J, J, J, J, J, J, J, J, J, J, J, J, J, J, J, J, J, J, J, J, J, J, J, J, J, J, J, J, J, J, J, J, J, J, J, J, J, J, J, J, J, J, J, J, J, J, J, J, J, J, J, J, J], [⟨true, 0, 1, true, [.rsl (rowStg s.stages) 0 s.stages.length, .rsl (rowI s.worth) 0 s.worth.length, .int .i64 s.price], false⟩, ⟨true, g1, 1, true, (rowI v1), true⟩, ⟨true, 0, 1, true, [.int .i64 v2_0, .int .i64 v2_1, .rsl (rowTrn v2_2) 0 v2_2.length], false⟩]⟩) : G Try.prog E (f80nK1 Try.prog) (f80nS1 s ends pa oa i all v1 v2_0 v2_1 v2_2 k g1) :=
  segC_step (n := 400) (ds := []) (cs := []) (live := [1, 2, 3, 4, 5, 11, 13, 14, 15, 16, 17]) (m := 3) (evs := [.b true, .auto, .ld (.agg [.int .i64 te.w, .int .i64 te.to]), .auto, .ld (.int .i64 e), .auto, .ld (.int .i64 e1), .b true, .b false, .b false, .b false, .b true, .ld (.int .i64 e2), .b false, .b false, .b false, .stop]) (obs := _) hE.2.1 (hE.nogh _) mixed (by kernel_rfl) ho hg
theorem p80n_1_6 (s : Stl) (ends : (List Int)) (pa : Int) (oa : Int) (i : Int) (all : Int) (v1 : List Int) (v2_0 : Int) (v2_1 : Int) (v2_2 : (List Trn)) (k : Nat) (g1 : Nat) (te : Trn) (e : Int) (e1 : Int) (e2 : Int)  {E : Env} {rv : AV} (hE : PureE Try.prog 80 rv E) (ho : AllP [(decide ((k : Int) < (v2_2.length : Int))) = true, 0 ≤ (k : Int) ∧ (k : Int) < (v2_2.length : Int), ((rowTrn v2_2).drop (0 + (Int.toNat (k : Int)) * 2)).take 2 = [.int .i64 te.w, .int .i64 te.to], 2 ≤ 2, 0 ≤ te.to ∧ te.to < (v1.length : Int), g1 = g1, g1 = g1, ((rowI v1).drop (0 + (Int.toNat te.to) * 1)).take 1 = [.int .i64 e], 0 ≤ te.to ∧ te.to < ((((measR (measA s)).1).length : Nat) : Int), ((rowI ((measR (measA s)).1)).drop (0 + (Int.toNat te.to) * 1)).take 1 = [.int .i64 e1], InR .i64 (Int.tdiv all e1), e1 ≠ 0, InR .i64 (e * (Int.tdiv all e1)), (v2_0 == 3) = true, (v2_0 == 1) = false, false = false, ((k : Int) == 0) = false, (oa == 2) = false, false = false, (oa == 1) = true, 0 ≤ i ∧ i < (v1.length : Int), g1 = g1, g1 = g1, ((rowI v1).drop (0 + (Int.toNat i) * 1)).take 1 = [.int .i64 e2], (decide ((e * (Int.tdiv all e1)) < e2)) = true, 0 ≤ i ∧ i < (v1.length : Int), g1 = g1, ((0 + (Int.toNat i) * 1) + 1) ≤ (rowI v1).length, g1 = g1, InR .i64 ((k : Int) + 1)])
    (hg : G Try.prog E (f80nK1 Try.prog) ⟨[J, .rsl (rowI ends) 0 ends.length, .int .i64 pa, .int .i64 oa, .nilSl, .ptr 0 0 0, J, J, J, J, J, .rsl (rowI ((measR (measA s)).1)) 0 (((measR (measA s)).1).length), J, .sl 1 g1 0 v1.length 1, .int .i64 i, .ptr 2 0 0, .int .i64 all, .int .i64 ((k : Int) + 1), J, J, J, J, J, J, J, J, J, J, J, J, J, J, J, J, J, J, J, J, J, J, J, J, J, J, J, J, J, J, J, J, J, J, J, J, J, J, J, J, J, J, J, J, J, J, J, J, J, J, J, J, J, J, J, J, J, J, J, J, J, J, J, J, J, J, J, J, J, J, J, J, J, J, J, J, J, J, J, J, J, J, J, J, J, J, J, J, J, J, J, J, J, J, J, J, J, J, J, J, J, J, J, J, J, J, J, J, J, J, J, J, J, J, J, J, J, J, J, J, J, J, J, J, J, J, J, J, J, J, J, J, J, J], [⟨true, 0, 1, true, [.rsl (rowStg s.stages) 0 s.stages.length, .rsl (rowI s.worth) 0 s.worth.length, .int .i64 s.price], false⟩, ⟨true, g1, 1, true, (setAt (rowI v1) (0 + (Int.toNat i) * 1) [.int .i64 (e * (Int.tdiv all e1))]), true⟩, ⟨true, 0, 1, true, [.int .i64 v2_0, .int .i64 v2_1, .rsl (rowTrn v2_2) 0 v2_2.length], false⟩]⟩) : G Try.prog E (f80nK1 Try.prog) (f80nS1 s ends pa oa i all v1 v2_0 v2_1 v2_2 k g1) :=
  segC_step (n := 400) (ds := []) (cs := []) (live := [1, 2, 3, 4, 5, 11, 13, 14, 15, 16, 17]) (m := 3) (evs := [.b true, .auto, .ld (.agg [.int .i64 te.w, .int .i64 te.to]), .auto, .ld (.int .i64 e), .auto, .ld (.int .i64 e1), .b true, .b false, .b false, .b false, .b false, .b false, .b true, .ld (.int .i64 e2), .b true, .stop]) (obs := _) hE.2.1 (hE.nogh _) mixed (by kernel_rfl) ho hg
theorem p80n_1_7 (s : Stl) (ends : (List Int)) (pa : Int) (oa : Int) (i : Int) (all : Int) (v1 : List Int) (v2_0 : Int) (v2_1 : Int) (v2_2 : (List Trn)) (k : Nat) (g1 : Nat) (te : Trn) (e : Int) (e1 : Int) (e2 : Int)  {E : Env} {rv : AV} (hE : PureE Try.prog 80 rv E) (ho : AllP [(decide ((k : Int) < (v2_2.length : Int))) = true, 0 ≤ (k : Int) ∧ (k : Int) < (v2_2.length : Int), ((rowTrn v2_2).drop (0 + (Int.toNat (k : Int)) * 2)).take 2 = [.int .i64 te.w, .int .i64 te.to], 2 ≤ 2, 0 ≤ te.to ∧ te.to < (v1.length : Int), g1 = g1, g1 = g1, ((rowI v1).drop (0 + (Int.toNat te.to) * 1)).take 1 = [.int .i64 e], 0 ≤ te.to ∧ te.to < ((((measR (measA s)).1).length : Nat) : Int), ((rowI ((measR (measA s)).1)).drop (0 + (Int.toNat te.to) * 1)).take 1 = [.int .i64 e1], InR .i64 (Int.tdiv all e1), e1 ≠ 0, InR .i64 (e * (Int.tdiv all e1)), (v2_0 == 3) = true, (v2_0 == 1) = false, false = false, ((k : Int) == 0) = false, (oa == 2) = false, false = false, (oa == 1) = true, 0 ≤ i ∧ i < (v1.length : Int), g1 = g1, g1 = g1, ((rowI v1).drop (0 + (Int.toNat i) * 1)).take 1 = [.int .i64 e2], (decide ((e * (Int.tdiv all e1)) < e2)) = false, InR .i64 ((k : Int) + 1)])
    (hg : G Try.prog E (f80nK1 Try.prog) ⟨[J, .rsl (rowI ends) 0 ends.length, .int .i64 pa, .int .i64 oa, .nilSl, .ptr 0 0 0, J, J, J, J, J, .rsl (rowI ((measR (measA s)).1)) 0 (((measR (measA s)).1).length), J, .sl 1 g1 0 v1.length 1, .int .i64 i, .ptr 2 0 0, .int .i64 all, .int .i64 ((k : Int) + 1), J, J, J, J, J, J, J, J, J, J, J, J, J, J, J, J, J, J, J, J, J, J, J, J, J, J, J, J, J, J, J, J, J, J, J, J, J, J, J, J, J, J, J, J, J, J, J, J, J, J, J, J, J, J, J, J, J, J, J, J, J, J, J, J, J, J, J, J, J, J, J, J, J, J, J, J, J, J, J, J, J, J, J, J, J, J, J, J, J, J, J, J, J, J, J, J, J, J, J, J, J, J, J, J, J, J, J, J, J, J, J, J, J, J, J, J, J, J, J, J, J, J, J, J, J, J, J, J, J, J, J, J, J, J], [⟨true, 0, 1, true, [.rsl (rowStg s.stages) 0 s.stages.length, .rsl (rowI s.worth) 0 s.worth.length, .int .i64 s.price], false⟩, ⟨true, g1, 1, true, (rowI v1), true⟩, ⟨true, 0, 1, true, [.int .i64 v2_0, .int .i64 v2_1, .rsl (rowTrn v2_2) 0 v2_2.length], false⟩]⟩) : G Try.prog E (f80nK1 Try.prog) (f80nS1 s ends pa oa i all v1 v2_0 v2_1 v2_2 k g1) :=
  segC_step (n := 400) (ds := []) (cs := []) (live := [1, 2, 3, 4, 5, 11, 13, 14, 15, 16, 17]) (m := 3) (evs := [.b true, .auto, .ld (.agg [.int .i64 te.w, .int .i64 te.to]), .auto, .ld (.int .i64 e), .auto, .ld (.int .i64 e1), .b true, .b false, .b false, .b false, .b false, .b false, .b true, .ld (.int .i64 e2), .b false, .stop]) (obs := _) hE.2.1 (hE.nogh _) mixed (by kernel_rfl) ho hg
theorem p80n_1_8 (s : Stl) (ends : (List Int)) (pa : Int) (oa : Int) (i : Int) (all : Int) (v1 : List Int) (v2_0 : Int) (v2_1 : Int) (v2_2 : (List Trn)) (k : Nat) (g1 : Nat) (te : Trn) (e : Int) (e1 : Int)  {E : Env} {rv : AV} (hE : PureE Try.prog 80 rv E) (ho : AllP [(decide ((k : Int) < (v2_2.length : Int))) = true, 0 ≤ (k : Int) ∧ (k : Int) < (v2_2.length : Int), ((rowTrn v2_2).drop (0 + (Int.toNat (k : Int)) * 2)).take 2 = [.int .i64 te.w, .int .i64 te.to], 2 ≤ 2, 0 ≤ te.to ∧ te.to < (v1.length : Int), g1 = g1, g1 = g1, ((rowI v1).drop (0 + (Int.toNat te.to) * 1)).take 1 = [.int .i64 e], 0 ≤ te.to ∧ te.to < ((((measR (measA s)).1).length : Nat) : Int), ((rowI ((measR (measA s)).1)).drop (0 + (Int.toNat te.to) * 1)).take 1 = [.int .i64 e1], InR .i64 (Int.tdiv all e1), e1 ≠ 0, InR .i64 (e * (Int.tdiv all e1)), (v2_0 == 3) = true, (v2_0 == 1) = false, false = false, ((k : Int) == 0) = false, (oa == 2) = false, false = false, (oa == 1) = false, false = false, InR .i64 ((k : Int) + 1)])
    (hg : G Try.prog E (f80nK1 Try.prog) ⟨[J, .rsl (rowI ends) 0 ends.length, .int .i64 pa, .int .i64 oa, .nilSl, .ptr 0 0 0, J, J, J, J, J, .rsl (rowI ((measR (measA s)).1)) 0 (((measR (measA s)).1).length), J, .sl 1 g1 0 v1.length 1, .int .i64 i, .ptr 2 0 0, .int .i64 all, .int .i64 ((k : Int) + 1), J, J, J, J, J, J, J, J, J, J, J, J, J, J, J, J, J, J, J, J, J, J, J, J, J, J, J, J, J, J, J, J, J, J, J, J, J, J, J, J, J, J, J, J, J, J, J, J, J, J, J, J, J, J, J, J, J, J, J, J, J, J, J, J, J, J, J, J, J, J, J, J, J, J, J, J, J, J, J, J, J, J, J, J, J, J, J, J, J, J, J, J, J, J, J, J, J, J, J, J, J, J, J, J, J, J, J, J, J, J, J, J, J, J, J, J, J, J, J, J, J, J, J, J, J, J, J, J, J, J, J, J, J, J], [⟨true, 0, 1, true, [.rsl (rowStg s.stages) 0 s.stages.length, .rsl (rowI s.worth) 0 s.worth.length, .int .i64 s.price], false⟩, ⟨true, g1, 1, true, (rowI v1), true⟩, ⟨true, 0, 1, true, [.int .i64 v2_0, .int .i64 v2_1, .rsl (rowTrn v2_2) 0 v2_2.length], false⟩]⟩) : G Try.prog E (f80nK1 Try.prog) (f80nS1 s ends pa oa i all v1 v2_0 v2_1 v2_2 k g1) :=
  segC_step (n := 400) (ds := []) (cs := []) (live := [1, 2, 3, 4, 5, 11, 13, 14, 15, 16, 17]) (m := 3) (evs := [.b true, .auto, .ld (.agg [.int .i64 te.w, .int .i64 te.to]), .auto, .ld (.int .i64 e), .auto, .ld (.int .i64 e1), .b true, .b false, .b false, .b false, .b false, .b false, .b false, .b false, .stop]) (obs := _) hE.2.1 (hE.nogh _) mixed (by kernel_rfl) ho hg
theorem p80n_1_9 (s : Stl) (ends : (List Int)) (pa : Int) (oa : Int) (i : Int) (all : Int) (v1 : List Int) (v2_0 : Int) (v2_1 : Int) (v2_2 : (List Trn)) (k : Nat) (g1 : Nat) (te : Trn) (e : Int) (e1 : Int) (e2 : Int)  {E : Env} {rv : AV} (hE : PureE Try.prog 80 rv E) (ho : AllP [(decide ((k : Int) < (v2_2.length : Int))) = true, 0 ≤ (k : Int) ∧ (k : Int) < (v2_2.length : Int), ((rowTrn v2_2).drop (0 + (Int.toNat (k : Int)) * 2)).take 2 = [.int .i64 te.w, .int .i64 te.to], 2 ≤ 2, 0 ≤ te.to ∧ te.to < (v1.length : Int), g1 = g1, g1 = g1, ((rowI v1).drop (0 + (Int.toNat te.to) * 1)).take 1 = [.int .i64 e], 0 ≤ te.to ∧ te.to < ((((measR (measA s)).1).length : Nat) : Int), ((rowI ((measR (measA s)).1)).drop (0 + (Int.toNat te.to) * 1)).take 1 = [.int .i64 e1], InR .i64 (Int.tdiv all e1), e1 ≠ 0, InR .i64 (e * (Int.tdiv all e1)), (v2_0 == 3) = false, (v2_0 == 1) = true, 0 ≤ i ∧ i < (v1.length : Int), g1 = g1, g1 = g1, ((rowI v1).drop (0 + (Int.toNat i) * 1)).take 1 = [.int .i64 e2], InR .i64 ((e * (Int.tdiv all e1)) * te.w), InR .i64 (e2 + ((e * (Int.tdiv all e1)) * te.w)), 0 ≤ i ∧ i < (v1.length : Int), g1 = g1, ((0 + (Int.toNat i) * 1) + 1) ≤ (rowI v1).length, g1 = g1, InR .i64 ((k : Int) + 1)])
    (hg : G Try.prog E (f80nK1 Try.prog) ⟨[J, .rsl (rowI ends) 0 ends.length, .int .i64 pa, .int .i64 oa, .nilSl, .ptr 0 0 0, J, J, J, J, J, .rsl (rowI ((measR (measA s)).1)) 0 (((measR (measA s)).1).length), J, .sl 1 g1 0 v1.length 1, .int .i64 i, .ptr 2 0 0, .int .i64 all, .int .i64 ((k : Int) + 1), J, J, J, J, J, J, J, J, J, J, J, J, J, J, J, J, J, J, J, J, J, J, J, J, J, J, J, J, J, J, J, J, J, J, J, J, J, J, J, J, J, J, J, J, J, J, J, J, J, J, J, J, J, J, J, J, J, J, J, J, J, J, J, J, J, J, J, J, J, J, J, J, J, J, J, J, J, J, J, J, J, J, J, J, J, J, J, J, J, J, J, J, J, J, J, J, J, J, J, J, J, J, J, J, J, J, J, J, J, J, J, J, J, J, J, J, J, J, J, J, J, J, J, J, J, J, J, J, J, J, J, J, J, J], [⟨true, 0, 1, true, [.rsl (rowStg s.stages) 0 s.stages.length, .rsl (rowI s.worth) 0 s.worth.length, .int .i64 s.price], false⟩, ⟨true, g1, 1, true, (setAt (rowI v1) (0 + (Int.toNat i) * 1) [.int .i64 (e2 + ((e * (Int.tdiv all e1)) * te.w))]), true⟩, ⟨true, 0, 1, true, [.int .i64 v2_0, .int .i64 v2_1, .rsl (rowTrn v2_2) 0 v2_2.length], false⟩]⟩) : G Try.prog E (f80nK1 Try.prog) (f80nS1 s ends pa oa i all v1 v2_0 v2_1 v2_2 k g1) :=
  segC_step (n := 400) (ds := []) (cs := []) (live := [1, 2, 3, 4, 5, 11, 13, 14, 15, 16, 17]) (m := 3) (evs := [.b true, .auto, .ld (.agg [.int .i64 te.w, .int .i64 te.to]), .auto, .ld (.int .i64 e), .auto, .ld (.int .i64 e1), .b false, .b true, .ld (.int .i64 e2), .stop]) (obs := _) hE.2.1 (hE.nogh _) mixed (by kernel_rfl) ho hg
theorem p80n_1_10 (s : Stl) (ends : (List Int)) (pa : Int) (oa : Int) (i : Int) (all : Int) (v1 : List Int) (v2_0 : Int) (v2_1 : Int) (v2_2 : (List Trn)) (k : Nat) (g1 : Nat) (te : Trn) (e : Int) (e1 : Int) (e2 : Int)  {E : Env} {rv : AV} (hE : PureE Try.prog 80 rv E) (ho : AllP [(decide ((k : Int) < (v2_2.length : Int))) = true, 0 ≤ (k : Int) ∧ (k : Int) < (v2_2.length : Int), ((rowTrn v2_2).drop (0 + (Int.toNat (k : Int)) * 2)).take 2 = [.int .i64 te.w, .int .i64 te.to], 2 ≤ 2, 0 ≤ te.to ∧ te.to < (v1.length : Int), g1 = g1, g1 = g1, ((rowI v1).drop (0 + (Int.toNat te.to) * 1)).take 1 = [.int .i64 e], 0 ≤ te.to ∧ te.to < ((((measR (measA s)).1).length : Nat) : Int), ((rowI ((measR (measA s)).1)).drop (0 + (Int.toNat te.to) * 1)).take 1 = [.int .i64 e1], InR .i64 (Int.tdiv all e1), e1 ≠ 0, InR .i64 (e * (Int.tdiv all e1)), (v2_0 == 3) = false, (v2_0 == 1) = false, false = false, ((k : Int) == 0) = true, true = true, true = true, 0 ≤ i ∧ i < (v1.length : Int), g1 = g1, ((0 + (Int.toNat i) * 1) + 1) ≤ (rowI v1).length, g1 = g1, InR .i64 ((k : Int) + 1)])
    (hg : G Try.prog E (f80nK1 Try.prog) ⟨[J, .rsl (rowI ends) 0 ends.length, .int .i64 pa, .int .i64 oa, .nilSl, .ptr 0 0 0, J, J, J, J, J, .rsl (rowI ((measR (measA s)).1)) 0 (((measR (measA s)).1).length), J, .sl 1 g1 0 v1.length 1, .int .i64 i, .ptr 2 0 0, .int .i64 all, .int .i64 ((k : Int) + 1), J, J, J, J, J, J, J, J, J, J, J, J, J, J, J, J, J, J, J, J, J, J, J, J, J, J, J, J, J, J, J, J, J, J, J, J, J, J, J, J, J, J, J, J, J, J, J, J, J, J, J, J, J, J, J, J, J, J, J, J, J, J, J, J, J, J, J, J, J, J, J, J, J, J, J, J, J, J, J, J, J, J, J, J, J, J, J, J, J, J, J, J, J, J, J, J, J, J, J, J, J, J, J, J, J, J, J, J, J, J, J, J, J, J, J, J, J, J, J, J, J, J, J, J, J, J, J, J, J, J, J, J, J, J], [⟨true, 0, 1, true, [.rsl (rowStg s.stages) 0 s.stages.length, .rsl (rowI s.worth) 0 s.worth.length, .int .i64 s.price], false⟩, ⟨true, g1, 1, true, (setAt (rowI v1) (0 + (Int.toNat i) * 1) [.int .i64 (e * (Int.tdiv all e1))]), true⟩, ⟨true, 0, 1, true, [.int .i64 v2_0, .int .i64 v2_1, .rsl (rowTrn v2_2) 0 v2_2.length], false⟩]⟩) : G Try.prog E (f80nK1 Try.prog) (f80nS1 s ends pa oa i all v1 v2_0 v2_1 v2_2 k g1) :=
  segC_step (n := 400) (ds := []) (cs := []) (live := [1, 2, 3, 4, 5, 11, 13, 14, 15, 16, 17]) (m := 3) (evs := [.b true, .auto, .ld (.agg [.int .i64 te.w, .int .i64 te.to]), .auto, .ld (.int .i64 e), .auto, .ld (.int .i64 e1), .b false, .b false, .b false, .b true, .b true, .b true, .stop]) (obs := _) hE.2.1 (hE.nogh _) mixed (by kernel_rfl) ho hg
theorem p80n_1_11 (s : Stl) (ends : (List Int)) (pa : Int) (oa : Int) (i : Int) (all : Int) (v1 : List Int) (v2_0 : Int) (v2_1 : Int) (v2_2 : (List Trn)) (k : Nat) (g1 : Nat) (te : Trn) (e : Int) (e1 : Int) (e2 : Int)  {E : Env} {rv : AV} (hE : PureE Try.prog 80 rv E) (ho : AllP [(decide ((k : Int) < (v2_2.length : Int))) = true, 0 ≤ (k : Int) ∧ (k : Int) < (v2_2.length : Int), ((rowTrn v2_2).drop (0 + (Int.toNat (k : Int)) * 2)).take 2 = [.int .i64 te.w, .int .i64 te.to], 2 ≤ 2, 0 ≤ te.to ∧ te.to < (v1.length : Int), g1 = g1, g1 = g1, ((rowI v1).drop (0 + (Int.toNat te.to) * 1)).take 1 = [.int .i64 e], 0 ≤ te.to ∧ te.to < ((((measR (measA s)).1).length : Nat) : Int), ((rowI ((measR (measA s)).1)).drop (0 + (Int.toNat te.to) * 1)).take 1 = [.int .i64 e1], InR .i64 (Int.tdiv all e1), e1 ≠ 0, InR .i64 (e * (Int.tdiv all e1)), (v2_0 == 3) = false, (v2_0 == 1) = false, false = false, ((k : Int) == 0) = false, (pa == 2) = true, 0 ≤ i ∧ i < (v1.length : Int), g1 = g1, g1 = g1, ((rowI v1).drop (0 + (Int.toNat i) * 1)).take 1 = [.int .i64 e2], (decide ((e * (Int.tdiv all e1)) > e2)) = true, true = true, 0 ≤ i ∧ i < (v1.length : Int), g1 = g1, ((0 + (Int.toNat i) * 1) + 1) ≤ (rowI v1).length, g1 = g1, InR .i64 ((k : Int) + 1)])
    (hg : G Try.prog E (f80nK1 Try.prog) ⟨[J, .rsl (rowI ends) 0 ends.length, .int .i64 pa, .int .i64 oa, .nilSl, .ptr 0 0 0, J, J, J, J, J, .rsl (rowI ((measR (measA s)).1)) 0 (((measR (measA s)).1).length), J, .sl 1 g1 0 v1.length 1, .int .i64 i, .ptr 2 0 0, .int .i64 all, .int .i64 ((k : Int) + 1), J, J, J, J, J, J, J, J, J, J, J, J, J, J, J, J, J, J, J, J, J, J, J, J, J, J, J, J, J, J, J, J, J, J, J, J, J, J, J, J, J, J, J, J, J, J, J, J, J, J, J, J, J, J, J, J, J, J, J, J, J, J, J, J, J, J, J, J, J, J, J, J, J, J, J, J, J, J, J, J, J, J, J, J, J, J, J, J, J, J, J, J, J, J, J, J, J, J, J, J, J, J, J, J, J, J, J, J, J, J, J, J, J, J, J, J, J, J, J, J, J, J, J, J, J, J, J, J, J, J, J, J, J, J], [⟨true, 0, 1, true, [.rsl (rowStg s.stages) 0 s.stages.length, .rsl (rowI s.worth) 0 s.worth.length, .int .i64 s.price], false⟩, ⟨true, g1, 1, true, (setAt (rowI v1) (0 + (Int.toNat i) * 1) [.int .i64 (e * (Int.tdiv all e1))]), true⟩, ⟨true, 0, 1, true, [.int .i64 v2_0, .int .i64 v2_1, .rsl (rowTrn v2_2) 0 v2_2.length], false⟩]⟩) : G Try.prog E (f80nK1 Try.prog) (f80nS1 s ends pa oa i all v1 v2_0 v2_1 v2_2 k g1) :=
  segC_step (n := 400) (ds := []) (cs := []) (live := [1, 2, 3, 4, 5, 11, 13, 14, 15, 16, 17]) (m := 3) (evs := [.b true, .auto, .ld (.agg [.int .i64 te.w, .int .i64 te.to]), .auto, .ld (.int .i64 e), .auto, .ld (.int .i64 e1), .b false, .b false, .b false, .b false, .b true, .ld (.int .i64 e2), .b true, .b true, .stop]) (obs := _) hE.2.1 (hE.nogh _) mixed (by kernel_rfl) ho hg
theorem p80n_1_12 (s : Stl) (ends : (List Int)) (pa : Int) (oa : Int) (i : Int) (all : Int) (v1 : List Int) (v2_0 : Int) (v2_1 : Int) (v2_2 : (List Trn)) (k : Nat) (g1 : Nat) (te : Trn) (e : Int) (e1 : Int) (e2 : Int)  {E : Env} {rv : AV} (hE : PureE Try.prog 80 rv E) (ho : AllP [(decide ((k : Int) < (v2_2.length : Int))) = true, 0 ≤ (k : Int) ∧ (k : Int) < (v2_2.length : Int), ((rowTrn v2_2).drop (0 + (Int.toNat (k : Int)) * 2)).take 2 = [.int .i64 te.w, .int .i64 te.to], 2 ≤ 2, 0 ≤ te.to ∧ te.to < (v1.length : Int), g1 = g1, g1 = g1, ((rowI v1).drop (0 + (Int.toNat te.to) * 1)).take 1 = [.int .i64 e], 0 ≤ te.to ∧ te.to < ((((measR (measA s)).1).length : Nat) : Int), ((rowI ((measR (measA s)).1)).drop (0 + (Int.toNat te.to) * 1)).take 1 = [.int .i64 e1], InR .i64 (Int.tdiv all e1), e1 ≠ 0, InR .i64 (e * (Int.tdiv all e1)), (v2_0 == 3) = false, (v2_0 == 1) = false, false = false, ((k : Int) == 0) = false, (pa == 2) = true, 0 ≤ i ∧ i < (v1.length : Int), g1 = g1, g1 = g1, ((rowI v1).drop (0 + (Int.toNat i) * 1)).take 1 = [.int .i64 e2], (decide ((e * (Int.tdiv all e1)) > e2)) = false, (pa == 1) = true, 0 ≤ i ∧ i < (v1.length : Int), g1 = g1, g1 = g1, ((rowI v1).drop (0 + (Int.toNat i) * 1)).take 1 = [.int .i64 e2], (decide ((e * (Int.tdiv all e1)) < e2)) = true, 0 ≤ i ∧ i < (v1.length : Int), g1 = g1, ((0 + (Int.toNat i) * 1) + 1) ≤ (rowI v1).length, g1 = g1, InR .i64 ((k : Int) + 1)])
    (hg : G Try.prog E (f80nK1 Try.prog) ⟨[J, .rsl (rowI ends) 0 ends.length, .int .i64 pa, .int .i64 oa, .nilSl, .ptr 0 0 0, J, J, J, J, J, .rsl (rowI ((measR (measA s)).1)) 0 (((measR (measA s)).1).length), J, .sl 1 g1 0 v1.length 1, .int .i64 i, .ptr 2 0 0, .int .i64 all, .int .i64 ((k : Int) + 1), J, J, J, J, J, J, J, J, J, J, J, J, J, J, J, J, J, J, J, J, J, J, J, J, J, J, J, J, J, J, J, J, J, J, J, J, J, J, J, J, J, J, J, J, J, J, J, J, J, J, J, J, J, J, J, J, J, J, J, J, J, J, J, J, J, J, J, J, J, J, J, J, J, J, J, J, J, J, J, J, J, J, J, J, J, J, J, J, J, J, J, J, J, J, J, J, J, J, J, J, J, J, J, J, J, J, J, J, J, J, J, J, J, J, J, J, J, J, J, J, J, J, J, J, J, J, J, J, J, J, J, J, J, J], [⟨true, 0, 1, true, [.rsl (rowStg s.stages) 0 s.stages.length, .rsl (rowI s.worth) 0 s.worth.length, .int .i64 s.price], false⟩, ⟨true, g1, 1, true, (setAt (rowI v1) (0 + (Int.toNat i) * 1) [.int .i64 (e * (Int.tdiv all e1))]), true⟩, ⟨true, 0, 1, true, [.int .i64 v2_0, .int .i64 v2_1, .rsl (rowTrn v2_2) 0 v2_2.length], false⟩]⟩) : G Try.prog E (f80nK1 Try.prog) (f80nS1 s ends pa oa i all v1 v2_0 v2_1 v2_2 k g1) :=
  segC_step (n := 400) (ds := []) (cs := []) (live := [1, 2, 3, 4, 5, 11, 13, 14, 15, 16, 17]) (m := 3) (evs := [.b true, .auto, .ld (.agg [.int .i64 te.w, .int .i64 te.to]), .auto, .ld (.int .i64 e), .auto, .ld (.int .i64 e1), .b false, .b false, .b false, .b false, .b true, .ld (.int .i64 e2), .b false, .b true, .ld (.int .i64 e2), .b true, .stop]) (obs := _) hE.2.1 (hE.nogh _) mixed (by kernel_rfl) ho hg
theorem p80n_1_13 (s : Stl) (ends : (List Int)) (pa : Int) (oa : Int) (i : Int) (all : Int) (v1 : List Int) (v2_0 : Int) (v2_1 : Int) (v2_2 : (List Trn)) (k : Nat) (g1 : Nat) (te : Trn) (e : Int) (e1 : Int) (e2 : Int)  {E : Env} {rv : AV} (hE : PureE Try.prog 80 rv E) (ho : AllP [(decide ((k : Int) < (v2_2.length : Int))) = true, 0 ≤ (k : Int) ∧ (k : Int) < (v2_2.length : Int), ((rowTrn v2_2).drop (0 + (Int.toNat (k : Int)) * 2)).take 2 = [.int .i64 te.w, .int .i64 te.to], 2 ≤ 2, 0 ≤ te.to ∧ te.to < (v1.length : Int), g1 = g1, g1 = g1, ((rowI v1).drop (0 + (Int.toNat te.to) * 1)).take 1 = [.int .i64 e], 0 ≤ te.to ∧ te.to < ((((measR (measA s)).1).length : Nat) : Int), ((rowI ((measR (measA s)).1)).drop (0 + (Int.toNat te.to) * 1)).take 1 = [.int .i64 e1], InR .i64 (Int.tdiv all e1), e1 ≠ 0, InR .i64 (e * (Int.tdiv all e1)), (v2_0 == 3) = false, (v2_0 == 1) = false, false = false, ((k : Int) == 0) = false, (pa == 2) = true, 0 ≤ i ∧ i < (v1.length : Int), g1 = g1, g1 = g1, ((rowI v1).drop (0 + (Int.toNat i) * 1)).take 1 = [.int .i64 e2], (decide ((e * (Int.tdiv all e1)) > e2)) = false, (pa == 1) = true, 0 ≤ i ∧ i < (v1.length : Int), g1 = g1, g1 = g1, ((rowI v1).drop (0 + (Int.toNat i) * 1)).take 1 = [.int .i64 e2], (decide ((e * (Int.tdiv all e1)) < e2)) = false, InR .i64 ((k : Int) + 1)])
    (hg : G Try.prog E (f80nK1 Try.prog) ⟨[J, .rsl (rowI ends) 0 ends.length, .int .i64 pa, .int .i64 oa, .nilSl, .ptr 0 0 0, J, J, J, J, J, .rsl (rowI ((measR (measA s)).1)) 0 (((measR (measA s)).1).length), J, .sl 1 g1 0 v1.length 1, .int .i64 i, .ptr 2 0 0, .int .i64 all, .int .i64 ((k : Int) + 1), J, J, J, J, J, J, J, J, J, J, J, J, J, J, J, J, J, J, J, J, J, J, J, J, J, J, J, J, J, J, J, J, J, J, J, J, J, J, J, J, J, J, J, J, J, J, J, J, J, J, J, J, J, J, J, J, J, J, J, J, J, J, J, J, J, J, J, J, J, J, J, J, J, J, J, J, J, J, J, J, J, J, J, J, J, J, J, J, J, J, J, J, J, J, J, J, J, J, J, J, J, J, J, J, J, J, J, J, J, J, J, J, J, J, J, J, J, J, J, J, J, J, J, J, J, J, J, J, J, J, J, J, J, J], [⟨true, 0, 1, true, [.rsl (rowStg s.stages) 0 s.stages.length, .rsl (rowI s.worth) 0 s.worth.length, .int .i64 s.price], false⟩, ⟨true, g1, 1, true, (rowI v1), true⟩, ⟨true, 0, 1, true, [.int .i64 v2_0, .int .i64 v2_1, .rsl (rowTrn v2_2) 0 v2_2.length], false⟩]⟩) : G Try.prog E (f80nK1 Try.prog) (f80nS1 s ends pa oa i all v1 v2_0 v2_1 v2_2 k g1) :=
  segC_step (n := 400) (ds := []) (cs := []) (live := [1, 2, 3, 4, 5, 11, 13, 14, 15, 16, 17]) (m := 3) (evs := [.b true, .auto, .ld (.agg [.int .i64 te.w, .int .i64 te.to]), .auto, .ld (.int .i64 e), .auto, .ld (.int .i64 e1), .b false, .b false, .b false, .b false, .b true, .ld (.int .i64 e2), .b false, .b true, .ld (.int .i64 e2), .b false, .stop]) (obs := _) hE.2.1 (hE.nogh _) mixed (by kernel_rfl) ho hg
theorem p80n_1_14 (s : Stl) (ends : (List Int)) (pa : Int) (oa : Int) (i : Int) (all : Int) (v1 : List Int) (v2_0 : Int) (v2_1 : Int) (v2_2 : (List Trn)) (k : Nat) (g1 : Nat) (te : Trn) (e : Int) (e1 : Int) (e2 : Int)  {E : Env} {rv : AV} (hE : PureE Try.prog 80 rv E) (ho : AllP [(decide ((k : Int) < (v2_2.length : Int))) = true, 0 ≤ (k : Int) ∧ (k : Int) < (v2_2.length : Int), ((rowTrn v2_2).drop (0 + (Int.toNat (k : Int)) * 2)).take 2 = [.int .i64 te.w, .int .i64 te.to], 2 ≤ 2, 0 ≤ te.to ∧ te.to < (v1.length : Int), g1 = g1, g1 = g1, ((rowI v1).drop (0 + (Int.toNat te.to) * 1)).take 1 = [.int .i64 e], 0 ≤ te.to ∧ te.to < ((((measR (measA s)).1).length : Nat) : Int), ((rowI ((measR (measA s)).1)).drop (0 + (Int.toNat te.to) * 1)).take 1 = [.int .i64 e1], InR .i64 (Int.tdiv all e1), e1 ≠ 0, InR .i64 (e * (Int.tdiv all e1)), (v2_0 == 3) = false, (v2_0 == 1) = false, false = false, ((k : Int) == 0) = false, (pa == 2) = true, 0 ≤ i ∧ i < (v1.length : Int), g1 = g1, g1 = g1, ((rowI v1).drop (0 + (Int.toNat i) * 1)).take 1 = [.int .i64 e2], (decide ((e * (Int.tdiv all e1)) > e2)) = false, (pa == 1) = false, false = false, InR .i64 ((k : Int) + 1)])
    (hg : G Try.prog E (f80nK1 Try.prog) ⟨[J, .rsl (rowI ends) 0 ends.length, .int .i64 pa, .int .i64 oa, .nilSl, .ptr 0 0 0, J, J, J, J, J, .rsl (rowI ((measR (measA s)).1)) 0 (((measR (measA s)).1).length), J, .sl 1 g1 0 v1.length 1, .int .i64 i, .ptr 2 0 0, .int .i64 all, .int .i64 ((k : Int) + 1), J, J, J, J, J, J, J, J, J, J, J, J, J, J, J, J, J, J, J, J, J, J, J, J, J, J, J, J, J, J, J, J, J, J, J, J, J, J, J, J, J, J, J, J, J, J, J, J, J, J, J, J, J, J, J, J, J, J, J, J, J, J, J, J, J, J, J, J, J, J, J, J, J, J, J, J, J, J, J, J, J, J, J, J, J, J, J, J, J, J, J, J, J, J, J, J, J, J, J, J, J, J, J, J, J, J, J, J, J, J, J, J, J, J, J, J, J, J, J, J, J, J, J, J, J, J, J, J, J, J, J, J, J, J], [⟨true, 0, 1, true, [.rsl (rowStg s.stages) 0 s.stages.length, .rsl (rowI s.worth) 0 s.worth.length, .int .i64 s.price], false⟩, ⟨true, g1, 1, true, (rowI v1), true⟩, ⟨true, 0, 1, true, [.int .i64 v2_0, .int .i64 v2_1, .rsl (rowTrn v2_2) 0 v2_2.length], false⟩]⟩) : G Try.prog E (f80nK1 Try.prog) (f80nS1 s ends pa oa i all v1 v2_0 v2_1 v2_2 k g1) :=
  segC_step (n := 400) (ds := []) (cs := []) (live := [1, 2, 3, 4, 5, 11, 13, 14, 15, 16, 17]) (m := 3) (evs := [.b true, .auto, .ld (.agg [.int .i64 te.w, .int .i64 te.to]), .auto, .ld (.int .i64 e), .auto, .ld (.int .i64 e1), .b false, .b false, .b false, .b false, .b true, .ld (.int .i64 e2), .b false, .b false, .b false, .stop]) (obs := _) hE.2.1 (hE.nogh _) mixed (by kernel_rfl) ho hg
theorem p80n_1_15 (s : Stl) (ends : (List Int)) (pa : Int) (oa : Int) (i : Int) (all : Int) (v1 : List Int) (v2_0 : Int) (v2_1 : Int) (v2_2 : (List Trn)) (k : Nat) (g1 : Nat) (te : Trn) (e : Int) (e1 : Int) (e2 : Int)  {E : Env} {rv : AV} (hE : PureE Try.prog 80 rv E) (ho : AllP [(decide ((k : Int) < (v2_2.length : Int))) = true, 0 ≤ (k : Int) ∧ (k : Int) < (v2_2.length : Int), ((rowTrn v2_2).drop (0 + (Int.toNat (k : Int)) * 2)).take 2 = [.int .i64 te.w, .int .i64 te.to], 2 ≤ 2, 0 ≤ te.to ∧ te.to < (v1.length : Int), g1 = g1, g1 = g1, ((rowI v1).drop (0 + (Int.toNat te.to) * 1)).take 1 = [.int .i64 e], 0 ≤ te.to ∧ te.to < ((((measR (measA s)).1).length : Nat) : Int), ((rowI ((measR (measA s)).1)).drop (0 + (Int.toNat te.to) * 1)).take 1 = [.int .i64 e1], InR .i64 (Int.tdiv all e1), e1 ≠ 0, InR .i64 (e * (Int.tdiv all e1)), (v2_0 == 3) = false, (v2_0 == 1) = false, false = false, ((k : Int) == 0) = false, (pa == 2) = false, false = false, (pa == 1) = true, 0 ≤ i ∧ i < (v1.length : Int), g1 = g1, g1 = g1, ((rowI v1).drop (0 + (Int.toNat i) * 1)).take 1 = [.int .i64 e2], (decide ((e * (Int.tdiv all e1)) < e2)) = true, 0 ≤ i ∧ i < (v1.length : Int), g1 = g1, ((0 + (Int.toNat i) * 1) + 1) ≤ (rowI v1).length, g1 = g1, InR .i64 ((k : Int) + 1)])
    (hg : G Try.prog E (f80nK1 Try.prog) ⟨[J, .rsl (rowI ends) 0 ends.length, .int .i64 pa, .int .i64 oa, .nilSl, .ptr 0 0 0, J, J, J, J, J, .rsl (rowI ((measR (measA s)).1)) 0 (((measR (measA s)).1).length), J, .sl 1 g1 0 v1.length 1, .int .i64 i, .ptr 2 0 0, .int .i64 all, .int .i64 ((k : Int) + 1), J, J, J, J, J, J, J, J, J, J, J, J, J, J, J, J, J, J, J, J, J, J, J, J, J, J, J, J, J, J, J, J, J, J, J, J, J, J, J, J, J, J, J, J, J, J, J, J, J, J, J, J, J, J, J, J, J, J, J, J, J, J, J, J, J, J, J, J, J, J, J, J, J, J, J, J, J, J, J, J, J, J, J, J, J, J, J, J, J, J, J, J, J, J, J, J, J, J, J, J, J, J, J, J, J, J, J, J, J, J, J, J, J, J, J, J, J, J, J, J, J, J, J, J, J, J, J, J, J, J, J, J, J, J], [⟨true, 0, 1, true, [.rsl (rowStg s.stages) 0 s.stages.length, .rsl (rowI s.worth) 0 s.worth.length, .int .i64 s.price], false⟩, ⟨true, g1, 1, true, (setAt (rowI v1) (0 + (Int.toNat i) * 1) [.int .i64 (e * (Int.tdiv all e1))]), true⟩, ⟨true, 0, 1, true, [.int .i64 v2_0, .int .i64 v2_1, .rsl (rowTrn v2_2) 0 v2_2.length], false⟩]⟩) : G Try.prog E (f80nK1 Try.prog) (f80nS1 s ends pa oa i all v1 v2_0 v2_1 v2_2 k g1) :=
  segC_step (n := 400) (ds := []) (cs := []) (live := [1, 2, 3, 4, 5, 11, 13, 14, 15, 16, 17]) (m := 3) (evs := [.b true, .auto, .ld (.agg [.int .i64 te.w, .int .i64 te.to]), .auto, .ld (.int .i64 e), .auto, .ld (.int .i64 e1), .b false, .b false, .b false, .b false, .b false, .b false, .b true, .ld (.int .i64 e2), .b true, .stop]) (obs := _) hE.2.1 (hE.nogh _) mixed (by kernel_rfl) ho hg
theorem p80n_1_16 (s : Stl) (ends : (List Int)) (pa : Int) (oa : Int) (i : Int) (all : Int) (v1 : List Int) (v2_0 : Int) (v2_1 : Int) (v2_2 : (List Trn)) (k : Nat) (g1 : Nat) (te : Trn) (e : Int) (e1 : Int) (e2 : Int)  {E : Env} {rv : AV} (hE : PureE Try.prog 80 rv E) (ho : AllP [(decide ((k : Int) < (v2_2.length : Int))) = true, 0 ≤ (k : Int) ∧ (k : Int) < (v2_2.length : Int), ((rowTrn v2_2).drop (0 + (Int.toNat (k : Int)) * 2)).take 2 = [.int .i64 te.w, .int .i64 te.to], 2 ≤ 2, 0 ≤ te.to ∧ te.to < (v1.length : Int), g1 = g1, g1 = g1, ((rowI v1).drop (0 + (Int.toNat te.to) * 1)).take 1 = [.int .i64 e], 0 ≤ te.to ∧ te.to < ((((measR (measA s)).1).length : Nat) : Int), ((rowI ((measR (measA s)).1)).drop (0 + (Int.toNat te.to) * 1)).take 1 = [.int .i64 e1], InR .i64 (Int.tdiv all e1), e1 ≠ 0, InR .i64 (e * (Int.tdiv all e1)), (v2_0 == 3) = false, (v2_0 == 1) = false, false = false, ((k : Int) == 0) = false, (pa == 2) = false, false = false, (pa == 1) = true, 0 ≤ i ∧ i < (v1.length : Int), g1 = g1, g1 = g1, ((rowI v1).drop (0 + (Int.toNat i) * 1)).take 1 = [.int .i64 e2], (decide ((e * (Int.tdiv all e1)) < e2)) = false, InR .i64 ((k : Int) + 1)])
    (hg : G Try.prog E (f80nK1 Try.prog) ⟨[J, .rsl (rowI ends) 0 ends.length, .int .i64 pa, .int .i64 oa, .nilSl, .ptr 0 0 0, J, J, J, J, J, .rsl (rowI ((measR (measA s)).1)) 0 (((measR (measA s)).1).length), J, .sl 1 g1 0 v1.length 1, .int .i64 i, .ptr 2 0 0, .int .i64 all, .int .i64 ((k : Int) + 1), J, J, J, J, J, J, J, J, J, J, J, J, J, J, J, J, J, J, J, J, J, J, J, J, J, J, J, J, J, J, J, J, J, J, J, J, J, J, J, J, J, J, J, J, J, J, J, J, J, J, J, J, J, J, J, J, J, J, J, J, J, J, J, J, J, J, J, J, J, J, J, J, J, J, J, J, J, J, J, J, J, J, J, J, J, J, J, J, J, J, J, J, J, J, J, J, J, J, J, J, J, J, J, J, J, J, J, J, J, J, J, J, J, J, J, J, J, J, J, J, J, J, J, J, J, J, J, J, J, J, J, J, J, J], [⟨true, 0, 1, true, [.rsl (rowStg s.stages) 0 s.stages.length, .rsl (rowI s.worth) 0 s.worth.length, .int .i64 s.price], false⟩, ⟨true, g1, 1, true, (rowI v1), true⟩, ⟨true, 0, 1, true, [.int .i64 v2_0, .int .i64 v2_1, .rsl (rowTrn v2_2) 0 v2_2.length], false⟩]⟩) : G Try.prog E (f80nK1 Try.prog) (f80nS1 s ends pa oa i all v1 v2_0 v2_1 v2_2 k g1) :=
  segC_step (n := 400) (ds := []) (cs := []) (live := [1, 2, 3, 4, 5, 11, 13, 14, 15, 16, 17]) (m := 3) (evs := [.b true, .auto, .ld (.agg [.int .i64 te.w, .int .i64 te.to]), .auto, .ld (.int .i64 e), .auto, .ld (.int .i64 e1), .b false, .b false, .b false, .b false, .b false, .b false, .b true, .ld (.int .i64 e2), .b false, .stop]) (obs := _) hE.2.1 (hE.nogh _) mixed (by kernel_rfl) ho hg
theorem p80n_1_17 (s : Stl) (ends : (List Int)) (pa : Int) (oa : Int) (i : Int) (all : Int) (v1 : List Int) (v2_0 : Int) (v2_1 : Int) (v2_2 : (List Trn)) (k : Nat) (g1 : Nat) (te : Trn) (e : Int) (e1 : Int)  {E : Env} {rv : AV} (hE : PureE Try.prog 80 rv E) (ho : AllP [(decide ((k : Int) < (v2_2.length : Int))) = true, 0 ≤ (k : Int) ∧ (k : Int) < (v2_2.length : Int), ((rowTrn v2_2).drop (0 + (Int.toNat (k : Int)) * 2)).take 2 = [.int .i64 te.w, .int .i64 te.to], 2 ≤ 2, 0 ≤ te.to ∧ te.to < (v1.length : Int), g1 = g1, g1 = g1, ((rowI v1).drop (0 + (Int.toNat te.to) * 1)).take 1 = [.int .i64 e], 0 ≤ te.to ∧ te.to < ((((measR (measA s)).1).length : Nat) : Int), ((rowI ((measR (measA s)).1)).drop (0 + (Int.toNat te.to) * 1)).take 1 = [.int .i64 e1], InR .i64 (Int.tdiv all e1), e1 ≠ 0, InR .i64 (e * (Int.tdiv all e1)), (v2_0 == 3) = false, (v2_0 == 1) = false, false = false, ((k : Int) == 0) = false, (pa == 2) = false, false = false, (pa == 1) = false, false = false, InR .i64 ((k : Int) + 1)])
    (hg : G Try.prog E (f80nK1 Try.prog) ⟨[J, .rsl (rowI ends) 0 ends.length, .int .i64 pa, .int .i64 oa, .nilSl, .ptr 0 0 0, J, J, J, J, J, .rsl (rowI ((measR (measA s)).1)) 0 (((measR (measA s)).1).length), J, .sl 1 g1 0 v1.length 1, .int .i64 i, .ptr 2 0 0, .int .i64 all, .int .i64 ((k : Int) + 1), J, J, J, J, J, J, J, J, J, J, J, J, J, J, J, J, J, J, J, J, J, J, J, J, J, J, J, J, J, J, J, J, J, J, J, J, J, J, J, J, J, J, J, J, J, J, J, J, J, J, J, J, J, J, J, J, J, J, J, J, J, J, J, J, J, J, J, J, J, J, J, J, J, J, J, J, J, J, J, J, J, J, J, J, J, J, J, J, J, J, J, J, J, J, J, J, J, J, J, J, J, J, J, J, J, J, J, J, J, J, J, J, J, J, J, J, J, J, J, J, J, J, J, J, J, J, J, J, J, J, J, J, J, J], [⟨true, 0, 1, true, [.rsl (rowStg s.stages) 0 s.stages.length, .rsl (rowI s.worth) 0 s.worth.length, .int .i64 s.price], false⟩, ⟨true, g1, 1, true, (rowI v1), true⟩, ⟨true, 0, 1, true, [.int .i64 v2_0, .int .i64 v2_1, .rsl (rowTrn v2_2) 0 v2_2.length], false⟩]⟩) : G Try.prog E (f80nK1 Try.prog) (f80nS1 s ends pa oa i all v1 v2_0 v2_1 v2_2 k g1) :=
  segC_step (n := 400) (ds := []) (cs := []) (live := [1, 2, 3, 4, 5, 11, 13, 14, 15, 16, 17]) (m := 3) (evs := [.b true, .auto, .ld (.agg [.int .i64 te.w, .int .i64 te.to]), .auto, .ld (.int .i64 e), .auto, .ld (.int .i64 e1), .b false, .b false, .b false, .b false, .b false, .b false, .b false, .b false, .stop]) (obs := _) hE.2.1 (hE.nogh _) mixed (by kernel_rfl) ho hg
theorem p80n_1_18 (s : Stl) (ends : (List Int)) (pa : Int) (oa : Int) (i : Int) (all : Int) (v1 : List Int) (v2_0 : Int) (v2_1 : Int) (v2_2 : (List Trn)) (k : Nat) (g1 : Nat)  {E : Env} {rv : AV} (hE : PureE Try.prog 80 rv E) (ho : AllP [(decide ((k : Int) < (v2_2.length : Int))) = false, InR .i64 (i - 1)])
    (hg : G Try.prog E (f80nK0 Try.prog) ⟨[J, .rsl (rowI ends) 0 ends.length, .int .i64 pa, .int .i64 oa, .nilSl, .ptr 0 0 0, J, J, J, J, J, .rsl (rowI ((measR (measA s)).1)) 0 (((measR (measA s)).1).length), J, .sl 1 g1 0 v1.length 1, .int .i64 (i - 1), J, J, J, J, J, J, J, J, J, J, J, J, J, J, J, J, J, J, J, J, J, J, J, J, J, J, J, J, J, J, J, J, J, J, J, J, J, J, J, J, J, J, J, J, J, J, J, J, J, J, J, J, J, J, J, J, J, J, J, J, J, J, J, J, J, J, J, J, J, J, J, J, J, J, J, J, J, J, J, J, J, J, J, J, J, J, J, J, J, J, J, J, J, J, J, J, J, J, J, J, J, J, J, J, J, J, J, J, J, J, J, J, J, J, J, J, J, J, J, J, J, J, J, J, J, J, J, J, J, J, J, J, J, J, J, J, J], [⟨true, 0, 1, true, [.rsl (rowStg s.stages) 0 s.stages.length, .rsl (rowI s.worth) 0 s.worth.length, .int .i64 s.price], false⟩, ⟨true, g1, 1, true, (rowI v1), true⟩]⟩) : G Try.prog E (f80nK1 Try.prog) (f80nS1 s ends pa oa i all v1 v2_0 v2_1 v2_2 k g1) :=
  segC_step (n := 400) (ds := []) (cs := []) (live := [1, 2, 3, 4, 5, 11, 13, 14]) (m := 2) (evs := [.b false, .stop]) (obs := _) hE.2.1 (hE.nogh _) mixed (by kernel_rfl) ho hg
theorem f80nW1 (s : Stl) (ends : (List Int)) (pa : Int) (oa : Int) (i : Int) (all : Int) (v1 : List Int) (v2_0 : Int) (v2_1 : Int) (v2_2 : (List Trn)) (k : Nat) {E : Env} {rv : (List Int)} (hE : PureE Try.prog 80 (.rsl (rowI rv) 0 rv.length) E)
    (h : (((k : Int) < (v2_2.length : Int) → (∃ te : Trn, v2_2[k]? = some te ∧ (0 ≤ te.to ∧ (∃ e : Int, v1[Int.toNat te.to]? = some e ∧ (0 ≤ te.to ∧ (∃ e1 : Int, ((measR (measA s)).1)[Int.toNat te.to]? = some e1 ∧ ((-9223372036854775808 ≤ Int.tdiv all e1 ∧ Int.tdiv all e1 ≤ 9223372036854775807) ∧ (e1 ≠ 0 ∧ ((-9223372036854775808 ≤ e * (Int.tdiv all e1) ∧ e * (Int.tdiv all e1) ≤ 9223372036854775807) ∧ ((v2_0 = 3 → ((v2_0 = 1 → (0 ≤ i ∧ (∃ e2 : Int, v1[Int.toNat i]? = some e2 ∧ ((-9223372036854775808 ≤ (e * (Int.tdiv all e1)) * te.w ∧ (e * (Int.tdiv all e1)) * te.w ≤ 9223372036854775807) ∧ ((-9223372036854775808 ≤ e2 + ((e * (Int.tdiv all e1)) * te.w) ∧ e2 + ((e * (Int.tdiv all e1)) * te.w) ≤ 9223372036854775807) ∧ ((-9223372036854775808 ≤ (k : Int) + 1 ∧ (k : Int) + 1 ≤ 9223372036854775807) ∧ f80nG1 E s ends pa oa i all (v1.set (Int.toNat i) (e2 + ((e * (Int.tdiv all e1)) * te.w))) v2_0 v2_1 v2_2 (k + 1))))))) ∧ (¬ (v2_0 = 1) → (((k : Int) = 0 → (0 ≤ i ∧ (∃ e2 : Int, v1[Int.toNat i]? = some e2 ∧ ((-9223372036854775808 ≤ (k : Int) + 1 ∧ (k : Int) + 1 ≤ 9223372036854775807) ∧ f80nG1 E s ends pa oa i all (v1.set (Int.toNat i) (e * (Int.tdiv all e1))) v2_0 v2_1 v2_2 (k + 1))))) ∧ (¬ ((k : Int) = 0) → ((oa = 2 → (0 ≤ i ∧ (∃ e2 : Int, v1[Int.toNat i]? = some e2 ∧ (((e * (Int.tdiv all e1)) > e2 → ((-9223372036854775808 ≤ (k : Int) + 1 ∧ (k : Int) + 1 ≤ 9223372036854775807) ∧ f80nG1 E s ends pa oa i all (v1.set (Int.toNat i) (e * (Int.tdiv all e1))) v2_0 v2_1 v2_2 (k + 1))) ∧ (¬ ((e * (Int.tdiv all e1)) > e2) → ((oa = 1 → (((e * (Int.tdiv all e1)) < e2 → ((-9223372036854775808 ≤ (k : Int) + 1 ∧ (k : Int) + 1 ≤ 9223372036854775807) ∧ f80nG1 E s ends pa oa i all (v1.set (Int.toNat i) (e * (Int.tdiv all e1))) v2_0 v2_1 v2_2 (k + 1))) ∧ (¬ ((e * (Int.tdiv all e1)) < e2) → ((-9223372036854775808 ≤ (k : Int) + 1 ∧ (k : Int) + 1 ≤ 9223372036854775807) ∧ f80nG1 E s ends pa oa i all v1 v2_0 v2_1 v2_2 (k + 1))))) ∧ (¬ (oa = 1) → ((-9223372036854775808 ≤ (k : Int) + 1 ∧ (k : Int) + 1 ≤ 9223372036854775807) ∧ f80nG1 E s ends pa oa i all v1 v2_0 v2_1 v2_2 (k + 1))))))))) ∧ (¬ (oa = 2) → ((oa = 1 → (0 ≤ i ∧ (∃ e2 : Int, v1[Int.toNat i]? = some e2 ∧ (((e * (Int.tdiv all e1)) < e2 → ((-9223372036854775808 ≤ (k : Int) + 1 ∧ (k : Int) + 1 ≤ 9223372036854775807) ∧ f80nG1 E s ends pa oa i all (v1.set (Int.toNat i) (e * (Int.tdiv all e1))) v2_0 v2_1 v2_2 (k + 1))) ∧ (¬ ((e * (Int.tdiv all e1)) < e2) → ((-9223372036854775808 ≤ (k : Int) + 1 ∧ (k : Int) + 1 ≤ 9223372036854775807) ∧ f80nG1 E s ends pa oa i all v1 v2_0 v2_1 v2_2 (k + 1))))))) ∧ (¬ (oa = 1) → ((-9223372036854775808 ≤ (k : Int) + 1 ∧ (k : Int) + 1 ≤ 9223372036854775807) ∧ f80nG1 E s ends pa oa i all v1 v2_0 v2_1 v2_2 (k + 1))))))))))) ∧ (¬ (v2_0 = 3) → ((v2_0 = 1 → (0 ≤ i ∧ (∃ e2 : Int, v1[Int.toNat i]? = some e2 ∧ ((-9223372036854775808 ≤ (e * (Int.tdiv all e1)) * te.w ∧ (e * (Int.tdiv all e1)) * te.w ≤ 9223372036854775807) ∧ ((-9223372036854775808 ≤ e2 + ((e * (Int.tdiv all e1)) * te.w) ∧ e2 + ((e * (Int.tdiv all e1)) * te.w) ≤ 9223372036854775807) ∧ ((-9223372036854775808 ≤ (k : Int) + 1 ∧ (k : Int) + 1 ≤ 9223372036854775807) ∧ f80nG1 E s ends pa oa i all (v1.set (Int.toNat i) (e2 + ((e * (Int.tdiv all e1)) * te.w))) v2_0 v2_1 v2_2 (k + 1))))))) ∧ (¬ (v2_0 = 1) → (((k : Int) = 0 → (0 ≤ i ∧ (∃ e2 : Int, v1[Int.toNat i]? = some e2 ∧ ((-9223372036854775808 ≤ (k : Int) + 1 ∧ (k : Int) + 1 ≤ 9223372036854775807) ∧ f80nG1 E s ends pa oa i all (v1.set (Int.toNat i) (e * (Int.tdiv all e1))) v2_0 v2_1 v2_2 (k + 1))))) ∧ (¬ ((k : Int) = 0) → ((pa = 2 → (0 ≤ i ∧ (∃ e2 : Int, v1[Int.toNat i]? = some e2 ∧ (((e * (Int.tdiv all e1)) > e2 → ((-9223372036854775808 ≤ (k : Int) + 1 ∧ (k : Int) + 1 ≤ 9223372036854775807) ∧ f80nG1 E s ends pa oa i all (v1.set (Int.toNat i) (e * (Int.tdiv all e1))) v2_0 v2_1 v2_2 (k + 1))) ∧ (¬ ((e * (Int.tdiv all e1)) > e2) → ((pa = 1 → (((e * (Int.tdiv all e1)) < e2 → ((-9223372036854775808 ≤ (k : Int) + 1 ∧ (k : Int) + 1 ≤ 9223372036854775807) ∧ f80nG1 E s ends pa oa i all (v1.set (Int.toNat i) (e * (Int.tdiv all e1))) v2_0 v2_1 v2_2 (k + 1))) ∧ (¬ ((e * (Int.tdiv all e1)) < e2) → ((-9223372036854775808 ≤ (k : Int) + 1 ∧ (k : Int) + 1 ≤ 9223372036854775807) ∧ f80nG1 E s ends pa oa i all v1 v2_0 v2_1 v2_2 (k + 1))))) ∧ (¬ (pa = 1) → ((-9223372036854775808 ≤ (k : Int) + 1 ∧ (k : Int) + 1 ≤ 9223372036854775807) ∧ f80nG1 E s ends pa oa i all v1 v2_0 v2_1 v2_2 (k + 1))))))))) ∧ (¬ (pa = 2) → ((pa = 1 → (0 ≤ i ∧ (∃ e2 : Int, v1[Int.toNat i]? = some e2 ∧ (((e * (Int.tdiv all e1)) < e2 → ((-9223372036854775808 ≤ (k : Int) + 1 ∧ (k : Int) + 1 ≤ 9223372036854775807) ∧ f80nG1 E s ends pa oa i all (v1.set (Int.toNat i) (e * (Int.tdiv all e1))) v2_0 v2_1 v2_2 (k + 1))) ∧ (¬ ((e * (Int.tdiv all e1)) < e2) → ((-9223372036854775808 ≤ (k : Int) + 1 ∧ (k : Int) + 1 ≤ 9223372036854775807) ∧ f80nG1 E s ends pa oa i all v1 v2_0 v2_1 v2_2 (k + 1))))))) ∧ (¬ (pa = 1) → ((-9223372036854775808 ≤ (k : Int) + 1 ∧ (k : Int) + 1 ≤ 9223372036854775807) ∧ f80nG1 E s ends pa oa i all v1 v2_0 v2_1 v2_2 (k + 1))))))))))))))))))))) ∧ (¬ ((k : Int) < (v2_2.length : Int)) → ((-9223372036854775808 ≤ i - 1 ∧ i - 1 ≤ 9223372036854775807) ∧ f80nG0 E s ends pa oa v1 (i - 1))))) : f80nG1 E s ends pa oa i all v1 v2_0 v2_1 v2_2 k := by
  intro g1
  rcases Bool.eq_false_or_eq_true (decide ((k : Int) < (v2_2.length : Int))) with hc0 | hc0
  · have h := h.1 (of_decide_eq_true hc0)
    obtain ⟨te, h1, h⟩ := h
    obtain ⟨h3, h⟩ := h
    obtain ⟨e, h2, h⟩ := h
    obtain ⟨h5, h⟩ := h
    obtain ⟨e1, h4, h⟩ := h
    obtain ⟨q13_1, h⟩ := h
    obtain ⟨q14_1, h⟩ := h
    obtain ⟨q15_1, h⟩ := h
    rcases Bool.eq_false_or_eq_true (v2_0 == 3) with hc1 | hc1
    · have h := h.1 (eq_of_beq hc1)
      rcases Bool.eq_false_or_eq_true (v2_0 == 1) with hc2 | hc2
      · have h := h.1 (eq_of_beq hc2)
        obtain ⟨h7, h⟩ := h
        obtain ⟨e2, h6, h⟩ := h
        obtain ⟨q23_3, h⟩ := h
        obtain ⟨q24_3, h⟩ := h
        obtain ⟨q29_3, h⟩ := h
        refine p80n_1_0 s ends pa oa i all v1 v2_0 v2_1 v2_2 k g1 te e e1 e2 hE ⟨hc0, (idx_ok h1), (row_part cTrn (s := 2) (k := 0) (m := 2) (fun _ => rfl) (by decide) h1), (by decide), (idx_ok' h3 h2), rfl, rfl, (row_part cI (s := 1) (k := 0) (m := 1) (fun _ => rfl) (by decide) h2), (idx_ok' h5 h4), (row_part cI (s := 1) (k := 0) (m := 1) (fun _ => rfl) (by decide) h4), q13_1, q14_1, q15_1, hc1, hc2, (idx_ok' h7 h6), rfl, rfl, (row_part cI (s := 1) (k := 0) (m := 1) (fun _ => rfl) (by decide) h6), q23_3, q24_3, (idx_ok' h7 h6), rfl, (row_fits cI (s := 1) (k := 0) (m := 1) (fun _ => rfl) (by decide) h6), rfl, q29_3, trivial⟩ ?_
        have h := (h g1)
        simp only [f80nS1, List.length_set] at h
        rw [(show setAt (rowI v1) (0 + (Int.toNat i) * 1) [.int .i64 (e2 + ((e * (Int.tdiv all e1)) * te.w))] = rowI (v1.set (Int.toNat i) (e2 + ((e * (Int.tdiv all e1)) * te.w))) from row_set cI (s := 1) (k := 0) (fun _ => rfl) h6 rfl (by first | decide | simp))]
        exact h
      · have h := h.2 (ne_of_beq_false hc2)
        rcases Bool.eq_false_or_eq_true ((k : Int) == 0) with hc3 | hc3
        · have h := h.1 (eq_of_beq hc3)
          obtain ⟨h7, h⟩ := h
          obtain ⟨e2, h6, h⟩ := h
          obtain ⟨q27_4, h⟩ := h
          refine p80n_1_1 s ends pa oa i all v1 v2_0 v2_1 v2_2 k g1 te e e1 e2 hE ⟨hc0, (idx_ok h1), (row_part cTrn (s := 2) (k := 0) (m := 2) (fun _ => rfl) (by decide) h1), (by decide), (idx_ok' h3 h2), rfl, rfl, (row_part cI (s := 1) (k := 0) (m := 1) (fun _ => rfl) (by decide) h2), (idx_ok' h5 h4), (row_part cI (s := 1) (k := 0) (m := 1) (fun _ => rfl) (by decide) h4), q13_1, q14_1, q15_1, hc1, hc2, rfl, hc3, rfl, rfl, (idx_ok' h7 h6), rfl, (row_fits cI (s := 1) (k := 0) (m := 1) (fun _ => rfl) (by decide) h6), rfl, q27_4, trivial⟩ ?_
          have h := (h g1)
          simp only [f80nS1, List.length_set] at h
          rw [(show setAt (rowI v1) (0 + (Int.toNat i) * 1) [.int .i64 (e * (Int.tdiv all e1))] = rowI (v1.set (Int.toNat i) (e * (Int.tdiv all e1))) from row_set cI (s := 1) (k := 0) (fun _ => rfl) h6 rfl (by first | decide | simp))]
          exact h
        · have h := h.2 (ne_of_beq_false hc3)
          rcases Bool.eq_false_or_eq_true (oa == 2) with hc4 | hc4
          · have h := h.1 (eq_of_beq hc4)
            obtain ⟨h7, h⟩ := h
            obtain ⟨e2, h6, h⟩ := h
            rcases Bool.eq_false_or_eq_true (decide ((e * (Int.tdiv all e1)) > e2)) with hc5 | hc5
            · have h := h.1 (of_decide_eq_true hc5)
              obtain ⟨q32_6, h⟩ := h
              refine p80n_1_2 s ends pa oa i all v1 v2_0 v2_1 v2_2 k g1 te e e1 e2 hE ⟨hc0, (idx_ok h1), (row_part cTrn (s := 2) (k := 0) (m := 2) (fun _ => rfl) (by decide) h1), (by decide), (idx_ok' h3 h2), rfl, rfl, (row_part cI (s := 1) (k := 0) (m := 1) (fun _ => rfl) (by decide) h2), (idx_ok' h5 h4), (row_part cI (s := 1) (k := 0) (m := 1) (fun _ => rfl) (by decide) h4), q13_1, q14_1, q15_1, hc1, hc2, rfl, hc3, hc4, (idx_ok' h7 h6), rfl, rfl, (row_part cI (s := 1) (k := 0) (m := 1) (fun _ => rfl) (by decide) h6), hc5, rfl, (idx_ok' h7 h6), rfl, (row_fits cI (s := 1) (k := 0) (m := 1) (fun _ => rfl) (by decide) h6), rfl, q32_6, trivial⟩ ?_
              have h := (h g1)
              simp only [f80nS1, List.length_set] at h
              rw [(show setAt (rowI v1) (0 + (Int.toNat i) * 1) [.int .i64 (e * (Int.tdiv all e1))] = rowI (v1.set (Int.toNat i) (e * (Int.tdiv all e1))) from row_set cI (s := 1) (k := 0) (fun _ => rfl) h6 rfl (by first | decide | simp))]
              exact h
            · have h := h.2 (of_decide_eq_false hc5)
              rcases Bool.eq_false_or_eq_true (oa == 1) with hc6 | hc6
              · have h := h.1 (eq_of_beq hc6)
                rcases Bool.eq_false_or_eq_true (decide ((e * (Int.tdiv all e1)) < e2)) with hc7 | hc7
                · have h := h.1 (of_decide_eq_true hc7)
                  obtain ⟨q37_8, h⟩ := h
                  refine p80n_1_3 s ends pa oa i all v1 v2_0 v2_1 v2_2 k g1 te e e1 e2 hE ⟨hc0, (idx_ok h1), (row_part cTrn (s := 2) (k := 0) (m := 2) (fun _ => rfl) (by decide) h1), (by decide), (idx_ok' h3 h2), rfl, rfl, (row_part cI (s := 1) (k := 0) (m := 1) (fun _ => rfl) (by decide) h2), (idx_ok' h5 h4), (row_part cI (s := 1) (k := 0) (m := 1) (fun _ => rfl) (by decide) h4), q13_1, q14_1, q15_1, hc1, hc2, rfl, hc3, hc4, (idx_ok' h7 h6), rfl, rfl, (row_part cI (s := 1) (k := 0) (m := 1) (fun _ => rfl) (by decide) h6), hc5, hc6, (idx_ok' h7 h6), rfl, rfl, (row_part cI (s := 1) (k := 0) (m := 1) (fun _ => rfl) (by decide) h6), hc7, (idx_ok' h7 h6), rfl, (row_fits cI (s := 1) (k := 0) (m := 1) (fun _ => rfl) (by decide) h6), rfl, q37_8, trivial⟩ ?_
                  have h := (h g1)
                  simp only [f80nS1, List.length_set] at h
                  rw [(show setAt (rowI v1) (0 + (Int.toNat i) * 1) [.int .i64 (e * (Int.tdiv all e1))] = rowI (v1.set (Int.toNat i) (e * (Int.tdiv all e1))) from row_set cI (s := 1) (k := 0) (fun _ => rfl) h6 rfl (by first | decide | simp))]
                  exact h
                · have h := h.2 (of_decide_eq_false hc7)
                  obtain ⟨q33_8, h⟩ := h
                  exact p80n_1_4 s ends pa oa i all v1 v2_0 v2_1 v2_2 k g1 te e e1 e2 hE ⟨hc0, (idx_ok h1), (row_part cTrn (s := 2) (k := 0) (m := 2) (fun _ => rfl) (by decide) h1), (by decide), (idx_ok' h3 h2), rfl, rfl, (row_part cI (s := 1) (k := 0) (m := 1) (fun _ => rfl) (by decide) h2), (idx_ok' h5 h4), (row_part cI (s := 1) (k := 0) (m := 1) (fun _ => rfl) (by decide) h4), q13_1, q14_1, q15_1, hc1, hc2, rfl, hc3, hc4, (idx_ok' h7 h6), rfl, rfl, (row_part cI (s := 1) (k := 0) (m := 1) (fun _ => rfl) (by decide) h6), hc5, hc6, (idx_ok' h7 h6), rfl, rfl, (row_part cI (s := 1) (k := 0) (m := 1) (fun _ => rfl) (by decide) h6), hc7, q33_8, trivial⟩ (h g1)
              · have h := h.2 (ne_of_beq_false hc6)
                obtain ⟨q29_7, h⟩ := h
                exact p80n_1_5 s ends pa oa i all v1 v2_0 v2_1 v2_2 k g1 te e e1 e2 hE ⟨hc0, (idx_ok h1), (row_part cTrn (s := 2) (k := 0) (m := 2) (fun _ => rfl) (by decide) h1), (by decide), (idx_ok' h3 h2), rfl, rfl, (row_part cI (s := 1) (k := 0) (m := 1) (fun _ => rfl) (by decide) h2), (idx_ok' h5 h4), (row_part cI (s := 1) (k := 0) (m := 1) (fun _ => rfl) (by decide) h4), q13_1, q14_1, q15_1, hc1, hc2, rfl, hc3, hc4, (idx_ok' h7 h6), rfl, rfl, (row_part cI (s := 1) (k := 0) (m := 1) (fun _ => rfl) (by decide) h6), hc5, hc6, rfl, q29_7, trivial⟩ (h g1)
          · have h := h.2 (ne_of_beq_false hc4)
            rcases Bool.eq_false_or_eq_true (oa == 1) with hc5 | hc5
            · have h := h.1 (eq_of_beq hc5)
              obtain ⟨h7, h⟩ := h
              obtain ⟨e2, h6, h⟩ := h
              rcases Bool.eq_false_or_eq_true (decide ((e * (Int.tdiv all e1)) < e2)) with hc6 | hc6
              · have h := h.1 (of_decide_eq_true hc6)
                obtain ⟨q33_7, h⟩ := h
                refine p80n_1_6 s ends pa oa i all v1 v2_0 v2_1 v2_2 k g1 te e e1 e2 hE ⟨hc0, (idx_ok h1), (row_part cTrn (s := 2) (k := 0) (m := 2) (fun _ => rfl) (by decide) h1), (by decide), (idx_ok' h3 h2), rfl, rfl, (row_part cI (s := 1) (k := 0) (m := 1) (fun _ => rfl) (by decide) h2), (idx_ok' h5 h4), (row_part cI (s := 1) (k := 0) (m := 1) (fun _ => rfl) (by decide) h4), q13_1, q14_1, q15_1, hc1, hc2, rfl, hc3, hc4, rfl, hc5, (idx_ok' h7 h6), rfl, rfl, (row_part cI (s := 1) (k := 0) (m := 1) (fun _ => rfl) (by decide) h6), hc6, (idx_ok' h7 h6), rfl, (row_fits cI (s := 1) (k := 0) (m := 1) (fun _ => rfl) (by decide) h6), rfl, q33_7, trivial⟩ ?_
                have h := (h g1)
                simp only [f80nS1, List.length_set] at h
                rw [(show setAt (rowI v1) (0 + (Int.toNat i) * 1) [.int .i64 (e * (Int.tdiv all e1))] = rowI (v1.set (Int.toNat i) (e * (Int.tdiv all e1))) from row_set cI (s := 1) (k := 0) (fun _ => rfl) h6 rfl (by first | decide | simp))]
                exact h
              · have h := h.2 (of_decide_eq_false hc6)
                obtain ⟨q29_7, h⟩ := h
                exact p80n_1_7 s ends pa oa i all v1 v2_0 v2_1 v2_2 k g1 te e e1 e2 hE ⟨hc0, (idx_ok h1), (row_part cTrn (s := 2) (k := 0) (m := 2) (fun _ => rfl) (by decide) h1), (by decide), (idx_ok' h3 h2), rfl, rfl, (row_part cI (s := 1) (k := 0) (m := 1) (fun _ => rfl) (by decide) h2), (idx_ok' h5 h4), (row_part cI (s := 1) (k := 0) (m := 1) (fun _ => rfl) (by decide) h4), q13_1, q14_1, q15_1, hc1, hc2, rfl, hc3, hc4, rfl, hc5, (idx_ok' h7 h6), rfl, rfl, (row_part cI (s := 1) (k := 0) (m := 1) (fun _ => rfl) (by decide) h6), hc6, q29_7, trivial⟩ (h g1)
            · have h := h.2 (ne_of_beq_false hc5)
              obtain ⟨q24_6, h⟩ := h
              exact p80n_1_8 s ends pa oa i all v1 v2_0 v2_1 v2_2 k g1 te e e1 hE ⟨hc0, (idx_ok h1), (row_part cTrn (s := 2) (k := 0) (m := 2) (fun _ => rfl) (by decide) h1), (by decide), (idx_ok' h3 h2), rfl, rfl, (row_part cI (s := 1) (k := 0) (m := 1) (fun _ => rfl) (by decide) h2), (idx_ok' h5 h4), (row_part cI (s := 1) (k := 0) (m := 1) (fun _ => rfl) (by decide) h4), q13_1, q14_1, q15_1, hc1, hc2, rfl, hc3, hc4, rfl, hc5, rfl, q24_6, trivial⟩ (h g1)
    · have h := h.2 (ne_of_beq_false hc1)
      rcases Bool.eq_false_or_eq_true (v2_0 == 1) with hc2 | hc2
      · have h := h.1 (eq_of_beq hc2)
        obtain ⟨h7, h⟩ := h
        obtain ⟨e2, h6, h⟩ := h
        obtain ⟨q23_3, h⟩ := h
        obtain ⟨q24_3, h⟩ := h
        obtain ⟨q29_3, h⟩ := h
        refine p80n_1_9 s ends pa oa i all v1 v2_0 v2_1 v2_2 k g1 te e e1 e2 hE ⟨hc0, (idx_ok h1), (row_part cTrn (s := 2) (k := 0) (m := 2) (fun _ => rfl) (by decide) h1), (by decide), (idx_ok' h3 h2), rfl, rfl, (row_part cI (s := 1) (k := 0) (m := 1) (fun _ => rfl) (by decide) h2), (idx_ok' h5 h4), (row_part cI (s := 1) (k := 0) (m := 1) (fun _ => rfl) (by decide) h4), q13_1, q14_1, q15_1, hc1, hc2, (idx_ok' h7 h6), rfl, rfl, (row_part cI (s := 1) (k := 0) (m := 1) (fun _ => rfl) (by decide) h6), q23_3, q24_3, (idx_ok' h7 h6), rfl, (row_fits cI (s := 1) (k := 0) (m := 1) (fun _ => rfl) (by decide) h6), rfl, q29_3, trivial⟩ ?_
        have h := (h g1)
        simp only [f80nS1, List.length_set] at h
        rw [(show setAt (rowI v1) (0 + (Int.toNat i) * 1) [.int .i64 (e2 + ((e * (Int.tdiv all e1)) * te.w))] = rowI (v1.set (Int.toNat i) (e2 + ((e * (Int.tdiv all e1)) * te.w))) from row_set cI (s := 1) (k := 0) (fun _ => rfl) h6 rfl (by first | decide | simp))]
        exact h
      · have h := h.2 (ne_of_beq_false hc2)
        rcases Bool.eq_false_or_eq_true ((k : Int) == 0) with hc3 | hc3
        · have h := h.1 (eq_of_beq hc3)
          obtain ⟨h7, h⟩ := h
          obtain ⟨e2, h6, h⟩ := h
          obtain ⟨q27_4, h⟩ := h
          refine p80n_1_10 s ends pa oa i all v1 v2_0 v2_1 v2_2 k g1 te e e1 e2 hE ⟨hc0, (idx_ok h1), (row_part cTrn (s := 2) (k := 0) (m := 2) (fun _ => rfl) (by decide) h1), (by decide), (idx_ok' h3 h2), rfl, rfl, (row_part cI (s := 1) (k := 0) (m := 1) (fun _ => rfl) (by decide) h2), (idx_ok' h5 h4), (row_part cI (s := 1) (k := 0) (m := 1) (fun _ => rfl) (by decide) h4), q13_1, q14_1, q15_1, hc1, hc2, rfl, hc3, rfl, rfl, (idx_ok' h7 h6), rfl, (row_fits cI (s := 1) (k := 0) (m := 1) (fun _ => rfl) (by decide) h6), rfl, q27_4, trivial⟩ ?_
          have h := (h g1)
          simp only [f80nS1, List.length_set] at h
          rw [(show setAt (rowI v1) (0 + (Int.toNat i) * 1) [.int .i64 (e * (Int.tdiv all e1))] = rowI (v1.set (Int.toNat i) (e * (Int.tdiv all e1))) from row_set cI (s := 1) (k := 0) (fun _ => rfl) h6 rfl (by first | decide | simp))]
          exact h
        · have h := h.2 (ne_of_beq_false hc3)
          rcases Bool.eq_false_or_eq_true (pa == 2) with hc4 | hc4
          · have h := h.1 (eq_of_beq hc4)
            obtain ⟨h7, h⟩ := h
            obtain ⟨e2, h6, h⟩ := h
            rcases Bool.eq_false_or_eq_true (decide ((e * (Int.tdiv all e1)) > e2)) with hc5 | hc5
            · have h := h.1 (of_decide_eq_true hc5)
              obtain ⟨q32_6, h⟩ := h
              refine p80n_1_11 s ends pa oa i all v1 v2_0 v2_1 v2_2 k g1 te e e1 e2 hE ⟨hc0, (idx_ok h1), (row_part cTrn (s := 2) (k := 0) (m := 2) (fun _ => rfl) (by decide) h1), (by decide), (idx_ok' h3 h2), rfl, rfl, (row_part cI (s := 1) (k := 0) (m := 1) (fun _ => rfl) (by decide) h2), (idx_ok' h5 h4), (row_part cI (s := 1) (k := 0) (m := 1) (fun _ => rfl) (by decide) h4), q13_1, q14_1, q15_1, hc1, hc2, rfl, hc3, hc4, (idx_ok' h7 h6), rfl, rfl, (row_part cI (s := 1) (k := 0) (m := 1) (fun _ => rfl) (by decide) h6), hc5, rfl, (idx_ok' h7 h6), rfl, (row_fits cI (s := 1) (k := 0) (m := 1) (fun _ => rfl) (by decide) h6), rfl, q32_6, trivial⟩ ?_
              have h := (h g1)
              simp only [f80nS1, List.length_set] at h
              rw [(show setAt (rowI v1) (0 + (Int.toNat i) * 1) [.int .i64 (e * (Int.tdiv all e1))] = rowI (v1.set (Int.toNat i) (e * (Int.tdiv all e1))) from row_set cI (s := 1) (k := 0) (fun _ => rfl) h6 rfl (by first | decide | simp))]
              exact h
            · have h := h.2 (of_decide_eq_false hc5)
              rcases Bool.eq_false_or_eq_true (pa == 1) with hc6 | hc6
              · have h := h.1 (eq_of_beq hc6)
                rcases Bool.eq_false_or_eq_true (decide ((e * (Int.tdiv all e1)) < e2)) with hc7 | hc7
                · have h := h.1 (of_decide_eq_true hc7)
                  obtain ⟨q37_8, h⟩ := h
                  refine p80n_1_12 s ends pa oa i all v1 v2_0 v2_1 v2_2 k g1 te e e1 e2 hE ⟨hc0, (idx_ok h1), (row_part cTrn (s := 2) (k := 0) (m := 2) (fun _ => rfl) (by decide) h1), (by decide), (idx_ok' h3 h2), rfl, rfl, (row_part cI (s := 1) (k := 0) (m := 1) (fun _ => rfl) (by decide) h2), (idx_ok' h5 h4), (row_part cI (s := 1) (k := 0) (m := 1) (fun _ => rfl) (by decide) h4), q13_1, q14_1, q15_1, hc1, hc2, rfl, hc3, hc4, (idx_ok' h7 h6), rfl, rfl, (row_part cI (s := 1) (k := 0) (m := 1) (fun _ => rfl) (by decide) h6), hc5, hc6, (idx_ok' h7 h6), rfl, rfl, (row_part cI (s := 1) (k := 0) (m := 1) (fun _ => rfl) (by decide) h6), hc7, (idx_ok' h7 h6), rfl, (row_fits cI (s := 1) (k := 0) (m := 1) (fun _ => rfl) (by decide) h6), rfl, q37_8, trivial⟩ ?_
                  have h := (h g1)
                  simp only [f80nS1, List.length_set] at h
                  rw [(show setAt (rowI v1) (0 + (Int.toNat i) * 1) [.int .i64 (e * (Int.tdiv all e1))] = rowI (v1.set (Int.toNat i) (e * (Int.tdiv all e1))) from row_set cI (s := 1) (k := 0) (fun _ => rfl) h6 rfl (by first | decide | simp))]
                  exact h
                · have h := h.2 (of_decide_eq_false hc7)
                  obtain ⟨q33_8, h⟩ := h
                  exact p80n_1_13 s ends pa oa i all v1 v2_0 v2_1 v2_2 k g1 te e e1 e2 hE ⟨hc0, (idx_ok h1), (row_part cTrn (s := 2) (k := 0) (m := 2) (fun _ => rfl) (by decide) h1), (by decide), (idx_ok' h3 h2), rfl, rfl, (row_part cI (s := 1) (k := 0) (m := 1) (fun _ => rfl) (by decide) h2), (idx_ok' h5 h4), (row_part cI (s := 1) (k := 0) (m := 1) (fun _ => rfl) (by decide) h4), q13_1, q14_1, q15_1, hc1, hc2, rfl, hc3, hc4, (idx_ok' h7 h6), rfl, rfl, (row_part cI (s := 1) (k := 0) (m := 1) (fun _ => rfl) (by decide) h6), hc5, hc6, (idx_ok' h7 h6), rfl, rfl, (row_part cI (s := 1) (k := 0) (m := 1) (fun _ => rfl) (by decide) h6), hc7, q33_8, trivial⟩ (h g1)
              · have h := h.2 (ne_of_beq_false hc6)
                obtain ⟨q29_7, h⟩ := h
                exact p80n_1_14 s ends pa oa i all v1 v2_0 v2_1 v2_2 k g1 te e e1 e2 hE ⟨hc0, (idx_ok h1), (row_part cTrn (s := 2) (k := 0) (m := 2) (fun _ => rfl) (by decide) h1), (by decide), (idx_ok' h3 h2), rfl, rfl, (row_part cI (s := 1) (k := 0) (m := 1) (fun _ => rfl) (by decide) h2), (idx_ok' h5 h4), (row_part cI (s := 1) (k := 0) (m := 1) (fun _ => rfl) (by decide) h4), q13_1, q14_1, q15_1, hc1, hc2, rfl, hc3, hc4, (idx_ok' h7 h6), rfl, rfl, (row_part cI (s := 1) (k := 0) (m := 1) (fun _ => rfl) (by decide) h6), hc5, hc6, rfl, q29_7, trivial⟩ (h g1)
          · have h := h.2 (ne_of_beq_false hc4)
            rcases Bool.eq_false_or_eq_true (pa == 1) with hc5 | hc5
            · have h := h.1 (eq_of_beq hc5)
              obtain ⟨h7, h⟩ := h
              obtain ⟨e2, h6, h⟩ := h
              rcases Bool.eq_false_or_eq_true (decide ((e * (Int.tdiv all e1)) < e2)) with hc6 | hc6
              · have h := h.1 (of_decide_eq_true hc6)
                obtain ⟨q33_7, h⟩ := h
                refine p80n_1_15 s ends pa oa i all v1 v2_0 v2_1 v2_2 k g1 te e e1 e2 hE ⟨hc0, (idx_ok h1), (row_part cTrn (s := 2) (k := 0) (m := 2) (fun _ => rfl) (by decide) h1), (by decide), (idx_ok' h3 h2), rfl, rfl, (row_part cI (s := 1) (k := 0) (m := 1) (fun _ => rfl) (by decide) h2), (idx_ok' h5 h4), (row_part cI (s := 1) (k := 0) (m := 1) (fun _ => rfl) (by decide) h4), q13_1, q14_1, q15_1, hc1, hc2, rfl, hc3, hc4, rfl, hc5, (idx_ok' h7 h6), rfl, rfl, (row_part cI (s := 1) (k := 0) (m := 1) (fun _ => rfl) (by decide) h6), hc6, (idx_ok' h7 h6), rfl, (row_fits cI (s := 1) (k := 0) (m := 1) (fun _ => rfl) (by decide) h6), rfl, q33_7, trivial⟩ ?_
                have h := (h g1)
                simp only [f80nS1, List.length_set] at h
                rw [(show setAt (rowI v1) (0 + (Int.toNat i) * 1) [.int .i64 (e * (Int.tdiv all e1))] = rowI (v1.set (Int.toNat i) (e * (Int.tdiv all e1))) from row_set cI (s := 1) (k := 0) (fun _ => rfl) h6 rfl (by first | decide | simp))]
                exact h
              · have h := h.2 (of_decide_eq_false hc6)
                obtain ⟨q29_7, h⟩ := h
                exact p80n_1_16 s ends pa oa i all v1 v2_0 v2_1 v2_2 k g1 te e e1 e2 hE ⟨hc0, (idx_ok h1), (row_part cTrn (s := 2) (k := 0) (m := 2) (fun _ => rfl) (by decide) h1), (by decide), (idx_ok' h3 h2), rfl, rfl, (row_part cI (s := 1) (k := 0) (m := 1) (fun _ => rfl) (by decide) h2), (idx_ok' h5 h4), (row_part cI (s := 1) (k := 0) (m := 1) (fun _ => rfl) (by decide) h4), q13_1, q14_1, q15_1, hc1, hc2, rfl, hc3, hc4, rfl, hc5, (idx_ok' h7 h6), rfl, rfl, (row_part cI (s := 1) (k := 0) (m := 1) (fun _ => rfl) (by decide) h6), hc6, q29_7, trivial⟩ (h g1)
            · have h := h.2 (ne_of_beq_false hc5)
              obtain ⟨q24_6, h⟩ := h
              exact p80n_1_17 s ends pa oa i all v1 v2_0 v2_1 v2_2 k g1 te e e1 hE ⟨hc0, (idx_ok h1), (row_part cTrn (s := 2) (k := 0) (m := 2) (fun _ => rfl) (by decide) h1), (by decide), (idx_ok' h3 h2), rfl, rfl, (row_part cI (s := 1) (k := 0) (m := 1) (fun _ => rfl) (by decide) h2), (idx_ok' h5 h4), (row_part cI (s := 1) (k := 0) (m := 1) (fun _ => rfl) (by decide) h4), q13_1, q14_1, q15_1, hc1, hc2, rfl, hc3, hc4, rfl, hc5, rfl, q24_6, trivial⟩ (h g1)
  · have h := h.2 (of_decide_eq_false hc0)
    obtain ⟨q1_1, h⟩ := h
    exact p80n_1_18 s ends pa oa i all v1 v2_0 v2_1 v2_2 k g1  hE ⟨hc0, q1_1, trivial⟩ (h g1)
set_option maxHeartbeats 2000000 in
theorem valuesn_ok (s : Stl) (w : Int → Int) (pa oa : Int) (h : checkK s = 0 ∧ (pa = 1 ∨ pa = 2) ∧ (oa = 1 ∨ oa = 2)) (hw : WOk (machG s) w (chooseI (machG s) pa oa)) : Pure Try.prog 80 [.agg [.rsl (rowStg s.stages) 0 s.stages.length, .rsl (rowI s.worth) 0 s.worth.length, .int .i64 s.price], .rsl (rowI (endsI s w)) 0 (endsI s w).length, .int .i64 pa, .int .i64 oa, .nilSl] (.rsl (rowI (valuesI s w pa oa)) 0 (valuesI s w pa oa).length) := pure_of Try.func80 f80nb fun E hE => by
  obtain ⟨hm, es⟩ := mok_G (isSome_of h.1)
  have hme := measR_of (isSome_of h.1)
  have hrv : (valuesI s w pa oa) = (valA (machG s) w (chooseI (machG s) pa oa)).1 := rfl
  have hlen := h.2
  have hz : valA (machG s) w (chooseI (machG s) pa oa) = valN (machG s) w (chooseI (machG s) pa oa) s.stages.length (zeros s.stages.length, zeros s.stages.length) := by rw [valA, es]
  have hp0 := val_ok0 hm
  generalize hmm : machG s = m at *
  have hform := (stPre_of hm.st).2.2.2.2
  have hn := (stPre_of hm.st).1
  rw [es] at hform hn hp0
  have key : ∀ (n : Nat) (p : List Int × List Int), n ≤ s.stages.length → VOk m n p → valA m w (chooseI m pa oa) = valN m w (chooseI m pa oa) n p → f80nG0 E s (endsI s w) pa oa  p.1 ((n : Int) - 1) := by
    intro n
    induction n with
    | zero =>
      intro p hn hp ha
      exact f80nW0 s (endsI s w) pa oa  p.1 _ (rv := (valuesI s w pa oa)) hE ⟨fun h => by omega, fun _ => by rw [hrv, ha, valN]⟩
    | succ i ih =>
      intro p hn' hp ha
      have hi : s.stages[i]? = some s.stages[i] := List.getElem?_eq_getElem (by omega)
      have hx : s.stages.getD i ⟨0, 0, []⟩ = s.stages[i] := by simp [List.getD, hi]
      have en : Int.toNat (i : Int) = i := Int.toNat_natCast i
      have e0 : ((i + 1 : Nat) : Int) - 1 = (i : Int) := by omega
      have hp2 := val_step hm hw (by rw [es]; omega) hp
      have nx := ih (valStep m w (chooseI m pa oa) i p) (by omega) hp2 (by rw [ha, valN])
      have hfo := form_of hi (hform i (by omega))
      have hto := turns_to hi (hform i (by omega))
      have htt := tot_of hi (hform i (by omega))
      have hv0 : p.1[i]? = some 0 := by
        have := getD_some (l := p.1) (i := i) (by rw [hp.l1, es]; omega)
        rw [hp.lo i (by omega)] at this; exact this
      have hi' : m.s.stages[i]? = some s.stages[i] := by rw [es]; exact hi
      obtain ⟨q, q1, q2, q3, q4⟩ := hm.inv.rel i _ (by omega) hi'
      have hend := ends_at (w := w) hi
      have hch := fun (l : List Int) (h4 : s.stages[i].kind ≠ 4) (h1 : s.stages[i].kind ≠ 1) (hl : l.length = s.stages[i].turns.length) (h0 : 0 < l.length) => hw.c1 i _ l hi' h4 h1 hl h0
      skip
      unfold valStep at nx
      rw [es, hx] at nx
      generalize s.stages[i] = x at hi hi' hx nx hfo hto htt q2 q4 hend hch 
      rw [e0]
      have hme2 : ((measR (measA s)).1)[Int.toNat (i : Int)]? = some (if x.kind = 1 then q * totI x else q) := by rw [hme, en]; exact q2
      have htail : x.kind ≠ 4 → f80nG1 E s (endsI s w) pa oa  (i : Int) q p.1 x.kind x.prize x.turns 0 := by
        intro h4
        rw [if_neg h4] at nx
        have hlen : 1 ≤ x.turns.length ∧ x.turns.length ≤ 8 := by
          rcases hfo with ⟨h, -⟩ | ⟨-, -, h, -⟩
          · exact absurd h h4
          · exact h
        have hall := next_all hm hi' hp q1
        have hl : (nextI m i p.1 x.turns).length = x.turns.length := by simp [nextI]
        have htot := fun (h1 : x.kind = 1) (u : Int) (hu : m.meas[i]? = some u) => sum_bd hm hi' hp h1 hu
        -- what a turn is worth
        have turn : ∀ (k : Nat), k < x.turns.length → ∃ te e e1, x.turns[k]? = some te ∧ 0 ≤ te.to ∧ i < Int.toNat te.to ∧ p.1[Int.toNat te.to]? = some e ∧ m.meas[Int.toNat te.to]? = some e1 ∧ (nextI m i p.1 x.turns)[k]? = some (e * Int.tdiv q e1) ∧ (0 < e1 ∧ e1 ≤ 1000000000000) ∧ (0 ≤ Int.tdiv q e1 ∧ Int.tdiv q e1 ≤ 1000000000000) ∧ 0 ≤ e * Int.tdiv q e1 ∧ e * Int.tdiv q e1 ≤ 10000 * q := by
          intro k hk
          have hkk : x.turns[k]? = some x.turns[k] := List.getElem?_eq_getElem hk
          have htm := List.mem_of_getElem? hkk
          have hN : (nextI m i p.1 x.turns)[k]? = some (p.1.getD (Int.toNat x.turns[k].to) 0 * Int.tdiv (m.mult.getD i 0) (m.meas.getD (Int.toNat x.turns[k].to) 0)) := by rw [nextI, List.getElem?_map, hkk]; rfl
          generalize x.turns[k] = te at hkk htm hN
          obtain ⟨q', u, n1, n2, n3, n4, n5, n6, n7, n8, n9⟩ := next_bd hm hi' hp htm
          rw [q1] at n1; cases n1
          have ht := hto te htm
          rw [getD_of q1, getD_of n2] at hN
          exact ⟨te, _, u, hkk, ht.2.2, ht.1, getD_some (by rw [hp.l1, es]; exact ht.2.1), n2, hN, n4, ⟨n6, by omega⟩, n8, n9⟩
        generalize nextI m i p.1 x.turns = N at nx hall hl htot turn
        by_cases h1 : x.kind = 1
        · -- a chance
          rw [if_pos h1] at nx
          rw [if_pos h1] at q2
          have tb := htot h1 _ q2
          have mb := hm.inv.pos i _ (by omega) q2
          generalize q * totI x = u at q2 tb mb
          rw [hp.lo i (by omega), Int.zero_add] at nx
          have loop : ∀ (d k : Nat) (vs : List Int) (a : Int), k + d = x.turns.length → vs.length = s.stages.length → vs[i]? = some a → 0 ≤ a → a + sumW (x.turns.drop k) (N.drop k) = sumW x.turns N → p.1.set i (sumW x.turns N) = vs.set i (sumW x.turns N) → (∀ j, i < j → vs[j]? = p.1[j]?) → f80nG1 E s (endsI s w) pa oa  (i : Int) q vs x.kind x.prize x.turns k := by
            intro d
            induction d with
            | zero =>
              intro k vs a hd hvl hva ha0 hsum hset hge
              rw [List.drop_eq_nil_of_le (by omega), sumW, Int.add_zero] at hsum
              rw [← hsum] at hset
              rw [set_same hva] at hset
              refine f80nW1 s (endsI s w) pa oa  (i : Int) q vs x.kind x.prize x.turns k (rv := (valuesI s w pa oa)) hE ⟨fun h => by omega, fun _ => ⟨by omega, ?_⟩⟩
              rw [← hset, hsum]; exact nx
              all_goals simp
            | succ d ih2 =>
              intro k vs a hd hvl hva ha0 hsum hset hge
              obtain ⟨te, e, e1, hk, t0, t1, t2, t3, hN, t4, t5, t6, t7⟩ := turn k (by omega)
              have ek : x.turns.drop k = te :: x.turns.drop (k + 1) := by
                rw [List.drop_eq_getElem_cons (by omega)]; congr 1
                have := List.getElem?_eq_getElem (l := x.turns) (i := k) (by omega)
                rw [hk] at this; exact (Option.some.inj this).symm
              have eN : N.drop k = (e * Int.tdiv q e1) :: N.drop (k + 1) := by
                rw [List.drop_eq_getElem_cons (by omega)]; congr 1
                have := List.getElem?_eq_getElem (l := N) (i := k) (by omega)
                rw [hN] at this; exact (Option.some.inj this).symm
              rw [ek, eN, sumW] at hsum
              have rest := sumW_bd (ts := x.turns.drop (k + 1)) (es := N.drop (k + 1)) (B := 10000 * q) (fun e he => hall e (List.mem_of_mem_drop he)) (fun t ht => (htt.1.2 t (List.mem_of_mem_drop ht)).1) (by simp [hl])
              have b1 := (htt.1.2 _ (List.mem_of_getElem? hk)).1
              have b3 := Int.mul_nonneg b1 t6
              have nxt := ih2 (k + 1) (vs.set i (a + e * Int.tdiv q e1 * te.w)) (a + e * Int.tdiv q e1 * te.w) (by omega) (by simp [hvl]) (by rw [List.getElem?_set_self (by omega)]) (by rw [Int.mul_comm]; omega) (by rw [Int.mul_comm _ te.w]; omega) (by rw [List.set_set]; exact hset) (fun j hj => by rw [List.getElem?_set_ne (by omega)]; exact hge j hj)
              have b4 : te.w * (e * Int.tdiv q e1) = e * Int.tdiv q e1 * te.w := Int.mul_comm _ _
              rw [b4] at hsum b3
              refine f80nW1 s (endsI s w) pa oa  (i : Int) q vs x.kind x.prize x.turns k (rv := (valuesI s w pa oa)) hE ⟨fun _ => ⟨te, hk, t0, e, by rw [hge _ t1]; exact t2, t0, e1, by rw [hme]; exact t3, by omega, by omega, by omega, fun h3 => by omega, fun _ => ⟨fun _ => ⟨by omega, a, by rw [en]; exact hva, by omega, by omega, by omega, by rw [en]; exact nxt⟩, fun h => absurd h1 h⟩⟩, fun h => by omega⟩
          exact loop x.turns.length 0 p.1 0 (by omega) (by rw [hp.l1, es]) hv0 (by omega) (by simp) rfl (fun j hj => rfl)
        · -- who chooses
          rw [if_neg h1] at nx

          have hpk := choose_val (m := m) (pa := pa) (oa := oa) (i := i) (l := N) (by omega)
          have ham : aimAt m pa oa i = if x.kind = 3 then oa else pa := by rw [aimAt, es, hx]
          have ha12 : (aimAt m pa oa i = 1 ∨ aimAt m pa oa i = 2) := by rw [ham]; split <;> omega
          rw [hpk] at nx
          have loop : ∀ (d k : Nat) (vs : List Int), k + d = x.turns.length → (k = 0 → vs = p.1) → (0 < k → vs = p.1.set i (pickF (aimAt m pa oa i) (N.take k))) → f80nG1 E s (endsI s w) pa oa (i : Int) q vs x.kind x.prize x.turns k := by
            intro d
            induction d with
            | zero =>
              intro k vs hd hv1 hv2
              refine f80nW1 s (endsI s w) pa oa (i : Int) q vs x.kind x.prize x.turns k (rv := valuesI s w pa oa) hE ⟨fun h => by omega, fun _ => ⟨by omega, ?_⟩⟩
              rw [hv2 (by omega), List.take_of_length_le (by omega)]; exact nx
            | succ d ih2 =>
              intro k vs hd hv1 hv2
              obtain ⟨te, e, e1, hk, t0, t1, t2, t3, hN, t4, t5, t6, t7⟩ := turn k (by omega)
              have hvi : ∃ e2, vs[i]? = some e2 ∧ (0 < k → e2 = pickF (aimAt m pa oa i) (N.take k)) := by
                rcases Nat.eq_zero_or_pos k with h0 | h0
                · exact ⟨0, by rw [hv1 h0]; exact hv0, fun h => by omega⟩
                · exact ⟨_, by rw [hv2 h0, List.getElem?_set_self (by rw [hp.l1, es]; omega)], fun _ => rfl⟩
              have hvt : vs[Int.toNat te.to]? = some e := by
                rcases Nat.eq_zero_or_pos k with h0 | h0
                · rw [hv1 h0]; exact t2
                · rw [hv2 h0, List.getElem?_set_ne (by omega)]; exact t2
              have htk : N.take (k + 1) = N.take k ++ [e * Int.tdiv q e1] := by rw [List.take_add_one, hN]; rfl
              have hset : ∀ c, vs.set i c = p.1.set i c := fun c => by
                rcases Nat.eq_zero_or_pos k with h0 | h0
                · rw [hv1 h0]
                · rw [hv2 h0, List.set_set]
              have yes : pickF (aimAt m pa oa i) (N.take (k + 1)) = e * Int.tdiv q e1 → f80nG1 E s (endsI s w) pa oa (i : Int) q (vs.set i (e * Int.tdiv q e1)) x.kind x.prize x.turns (k + 1) := fun h => ih2 (k + 1) _ (by omega) (fun h => by omega) (fun _ => by rw [hset, h])
              obtain ⟨e2, hv, hpe⟩ := hvi
              have no : 0 < k → pickF (aimAt m pa oa i) (N.take (k + 1)) = e2 → f80nG1 E s (endsI s w) pa oa (i : Int) q vs x.kind x.prize x.turns (k + 1) := fun h0 h => ih2 (k + 1) _ (by omega) (fun h => by omega) (fun _ => by rw [h, hpe h0]; exact hv2 h0)
              have first : k = 0 → pickF (aimAt m pa oa i) (N.take (k + 1)) = e * Int.tdiv q e1 := fun h => by rw [htk, h, List.take_zero, List.nil_append, pick_one]
              have step : 0 < k → pickF (aimAt m pa oa i) (N.take (k + 1)) = if aimAt m pa oa i = 2 then (if e * Int.tdiv q e1 > e2 then e * Int.tdiv q e1 else e2) else (if e * Int.tdiv q e1 < e2 then e * Int.tdiv q e1 else e2) := fun h0 => by
                rw [htk, pick_snoc (by rw [List.length_take]; omega), ← hpe h0]
              have pick : ∀ a : Int, (aimAt m pa oa i = a) → 0 < k → (a = 2 → (e * Int.tdiv q e1 > e2 → f80nG1 E s (endsI s w) pa oa (i : Int) q (vs.set i (e * Int.tdiv q e1)) x.kind x.prize x.turns (k + 1)) ∧ (¬ (e * Int.tdiv q e1 > e2) → f80nG1 E s (endsI s w) pa oa (i : Int) q vs x.kind x.prize x.turns (k + 1))) ∧
                  (a = 1 → (e * Int.tdiv q e1 < e2 → f80nG1 E s (endsI s w) pa oa (i : Int) q (vs.set i (e * Int.tdiv q e1)) x.kind x.prize x.turns (k + 1)) ∧ (¬ (e * Int.tdiv q e1 < e2) → f80nG1 E s (endsI s w) pa oa (i : Int) q vs x.kind x.prize x.turns (k + 1))) := by
                intro a ha h0
                rw [step h0, ha] at yes no
                refine ⟨fun h2 => ⟨fun h => yes (by rw [if_pos h2, if_pos h]), fun h => no h0 (by rw [if_pos h2, if_neg h])⟩, fun h2 => ⟨fun h => yes (by rw [if_neg (by omega), if_pos h]), fun h => no h0 (by rw [if_neg (by omega), if_neg h])⟩⟩
              refine f80nW1 s (endsI s w) pa oa (i : Int) q vs x.kind x.prize x.turns k (rv := valuesI s w pa oa) hE ⟨fun _ => ⟨te, hk, t0, e, hvt, t0, e1, by rw [hme]; exact t3, by omega, by omega, by omega, fun h3 => ⟨fun h => absurd h h1, fun _ => ⟨fun h0 => ⟨by omega, e2, by rw [en]; exact hv, by omega, by rw [en]; exact yes (first (by omega))⟩, fun h0 => ?_⟩⟩, fun h3 => ⟨fun h => absurd h h1, fun _ => ⟨fun h0 => ⟨by omega, e2, by rw [en]; exact hv, by omega, by rw [en]; exact yes (first (by omega))⟩, fun h0 => ?_⟩⟩⟩, fun h => by omega⟩
              · rw [if_pos h3] at ham
                have pk := pick oa ham (by omega)
                rw [en]
                exact ⟨fun h2 => ⟨by omega, e2, hv, fun h => ⟨by omega, (pk.1 h2).1 h⟩, fun h => ⟨fun h => by omega, fun _ => ⟨by omega, (pk.1 h2).2 h⟩⟩⟩, fun h2 => ⟨fun h2 => ⟨by omega, e2, hv, fun h => ⟨by omega, (pk.2 h2).1 h⟩, fun h => ⟨by omega, (pk.2 h2).2 h⟩⟩, fun h => by omega⟩⟩
              · rw [if_neg h3] at ham
                have pk := pick pa ham (by omega)
                rw [en]
                exact ⟨fun h2 => ⟨by omega, e2, hv, fun h => ⟨by omega, (pk.1 h2).1 h⟩, fun h => ⟨fun h => by omega, fun _ => ⟨by omega, (pk.1 h2).2 h⟩⟩⟩, fun h2 => ⟨fun h2 => ⟨by omega, e2, hv, fun h => ⟨by omega, (pk.2 h2).1 h⟩, fun h => ⟨by omega, (pk.2 h2).2 h⟩⟩, fun h => by omega⟩⟩
          exact loop x.turns.length 0 p.1 (by omega) (fun _ => rfl) (fun h => by omega)
      refine f80nW0 s (endsI s w) pa oa  p.1 (i : Int) (rv := (valuesI s w pa oa)) hE ⟨fun _ => ⟨by omega, x, by rw [en]; exact hi, fun h4 => ⟨by omega, _, by rw [en]; exact hend, by omega, _, by rw [en]; exact hv0, by omega, ?_⟩, fun h4 => ⟨by omega, _, hme2, fun h1 => ⟨htt.1, ?_⟩, fun h1 => ?_⟩⟩, fun h => by omega⟩
      · rw [en]
        by_cases hpr : x.prize ≥ 0
        · rw [if_pos h4, if_pos hpr] at nx
          rw [if_pos ⟨h4, hpr⟩]; exact nx
        · rw [if_pos h4, if_neg hpr] at nx
          rw [if_neg (fun h => hpr h.2), set_same hv0]; exact nx
      · have h0 := htt.2 h1
        rw [if_pos h1]
        have : Int.tdiv (q * totI x) (totI x) = q := Int.mul_tdiv_cancel _ (by omega)
        rw [this]
        exact ⟨by omega, by omega, htail h4⟩
      · rw [if_neg h1]; exact htail h4
  have e : f80nG0 E s (endsI s w) pa oa  (zeros s.stages.length) ((s.stages.length : Int) - 1) := key s.stages.length (zeros s.stages.length, zeros s.stages.length) (Nat.le_refl _) hp0 hz
  exact f80nW s (endsI s w) pa oa  (rv := (valuesI s w pa oa)) hE ⟨⟨by omega, hform⟩, by omega, by omega, by rw [Int.toNat_natCast]; exact e⟩


end Go.Proofs.Ytfgmlaeikcfpbaa

namespace Go.Proofs.Ytfgmlaeikcfpbaa
open Go Ax
open Go.Proofs

abbrev avStl (s : Stl) : AV := .agg [.rsl (rowStg s.stages) 0 s.stages.length, .rsl (rowI s.worth) 0 s.worth.length, .int .i64 s.price]
theorem valuesNO_ok (s : Stl) (kd pa oa : Int) (h : checkK s = 0 ∧ (pa = 1 ∨ pa = 2) ∧ (oa = 1 ∨ oa = 2)) : Pure Try.prog 80 [avStl s, .rsl (rowI (endsI s (onlyI kd))) 0 (endsI s (onlyI kd)).length, .int .i64 pa, .int .i64 oa, .nilSl] (.rsl (rowI (valuesI s (onlyI kd) pa oa)) 0 (valuesI s (onlyI kd) pa oa).length) :=
  valuesn_ok s (onlyI kd) pa oa h wok_only
theorem valuesNW_ok (s : Stl) (pa oa : Int) (h : checkK s = 0 ∧ (pa = 1 ∨ pa = 2) ∧ (oa = 1 ∨ oa = 2)) : Pure Try.prog 80 [avStl s, .rsl (rowI (endsI s (worthI (machG s)))) 0 (endsI s (worthI (machG s))).length, .int .i64 pa, .int .i64 oa, .nilSl] (.rsl (rowI (valuesI s (worthI (machG s)) pa oa)) 0 (valuesI s (worthI (machG s)) pa oa).length) :=
  valuesn_ok s (worthI (machG s)) pa oa h (wok_worth (mok_G (isSome_of h.1)).1)
theorem checkK_no {s : Stl} (h : ¬ (checkK s = 0)) : checkK s = 60 := by
  unfold checkK at *
  split
  · rename_i h1; rw [if_pos h1] at h; omega
  · rfl
theorem isSome_iff {s : Stl} : (machI s).isSome = true ↔ checkK s = 0 := by
  unfold checkK; split <;> simp_all
/-! ### The end values of a machine, turn by turn -/
structure Aims where
  kind : Int
  player : Int
  operator : Int
def cAims (a : Aims) : List AV := [.int .i64 a.kind, .int .i64 a.player, .int .i64 a.operator]
theorem f29b : Try.f29.body = some (bodyAt Try.prog 29) := by kernel_rfl
def f29K0 (P : Program) : List Item := kAt 400 [.code (bodyAt P 29)] [.b false, .stop]
def f29S0 (a : (List Int)) (b : (List Int)) (i : Nat)  : St := ⟨[.rsl (rowI a) 0 a.length, .rsl (rowI b) 0 b.length, J, J, J, .int .i64 (i : Int), J, J, J, J, J, J, J, J, J, J, J, J, J, J, J, J, J, J, J, J], []⟩
def f29G0 (E : Env) (a : (List Int)) (b : (List Int)) (i : Nat) : Prop := G Try.prog E (f29K0 Try.prog) (f29S0 a b i )
theorem p29_start_0 (a : (List Int)) (b : (List Int))   {E : Env} {res : AV} (hE : PureE Try.prog 29 res E) (ho : AllP [((a.length : Int) != (b.length : Int)) = true])
    (hr : AvLe (.bool false) res) : G Try.prog E [.code (bodyAt Try.prog 29)] ⟨[.rsl (rowI a) 0 a.length, .rsl (rowI b) 0 b.length] ++ unds (Try.f29.ntmps - 2), []⟩ :=
  end_stepL (n := 400) (evs := [.b true]) (obs := _) hE Try.func29 mixed (by kernel_rfl) ho hr
theorem p29_start_1 (a : (List Int)) (b : (List Int))   {E : Env} {rv : AV} (hE : PureE Try.prog 29 rv E) (ho : AllP [((a.length : Int) != (b.length : Int)) = false])
    (hg : G Try.prog E (f29K0 Try.prog) ⟨[.rsl (rowI a) 0 a.length, .rsl (rowI b) 0 b.length, J, J, J, .int .i64 0, J, J, J, J, J, J, J, J, J, J, J, J, J, J, J, J, J, J, J, J], []⟩) : G Try.prog E [.code (bodyAt Try.prog 29)] ⟨[.rsl (rowI a) 0 a.length, .rsl (rowI b) 0 b.length] ++ unds (Try.f29.ntmps - 2), []⟩ :=
  segC_step (n := 400) (ds := []) (cs := []) (live := [0, 1, 5]) (m := 0) (evs := [.b false, .stop]) (obs := _) hE.2.1 (hE.nogh _) mixed (by kernel_rfl) ho hg
theorem f29W (a : (List Int)) (b : (List Int)) {E : Env} {rv : Bool} (hE : PureE Try.prog 29 (.bool rv) E)
    (h : ((¬ ((a.length : Int) = (b.length : Int)) → rv = false) ∧ ((a.length : Int) = (b.length : Int) → f29G0 E a b 0))) : G Try.prog E [.code (bodyAt Try.prog 29)] ⟨[.rsl (rowI a) 0 a.length, .rsl (rowI b) 0 b.length] ++ unds (Try.f29.ntmps - 2), []⟩ := by
  rcases Bool.eq_false_or_eq_true ((a.length : Int) != (b.length : Int)) with hc0 | hc0
  · have h := h.1 (bneT hc0)
    exact p29_start_0 a b    hE ⟨hc0, trivial⟩ (AvLe.of_eq (by rw [h]; try rfl))
  · have h := h.2 (bneF hc0)
    exact p29_start_1 a b    hE ⟨hc0, trivial⟩ h
theorem p29_0_0 (a : (List Int)) (b : (List Int)) (i : Nat)  (e : Int) (e1 : Int)  {E : Env} {res : AV} (hE : PureE Try.prog 29 res E) (ho : AllP [(decide ((i : Int) < (a.length : Int))) = true, 0 ≤ (i : Int) ∧ (i : Int) < (a.length : Int), ((rowI a).drop (0 + (Int.toNat (i : Int)) * 1)).take 1 = [.int .i64 e], 0 ≤ (i : Int) ∧ (i : Int) < (b.length : Int), ((rowI b).drop (0 + (Int.toNat (i : Int)) * 1)).take 1 = [.int .i64 e1], (e != e1) = true])
    (hr : AvLe (.bool false) res) : G Try.prog E (f29K0 Try.prog) (f29S0 a b i ) :=
  end_stepL (n := 400) (evs := [.b true, .ld (.int .i64 e), .ld (.int .i64 e1), .b true]) (obs := _) hE Try.func29 mixed (by kernel_rfl) ho hr
theorem p29_0_1 (a : (List Int)) (b : (List Int)) (i : Nat)  (e : Int) (e1 : Int)  {E : Env} {rv : AV} (hE : PureE Try.prog 29 rv E) (ho : AllP [(decide ((i : Int) < (a.length : Int))) = true, 0 ≤ (i : Int) ∧ (i : Int) < (a.length : Int), ((rowI a).drop (0 + (Int.toNat (i : Int)) * 1)).take 1 = [.int .i64 e], 0 ≤ (i : Int) ∧ (i : Int) < (b.length : Int), ((rowI b).drop (0 + (Int.toNat (i : Int)) * 1)).take 1 = [.int .i64 e1], (e != e1) = false, InR .i64 ((i : Int) + 1)])
    (hg : G Try.prog E (f29K0 Try.prog) ⟨[.rsl (rowI a) 0 a.length, .rsl (rowI b) 0 b.length, J, J, J, .int .i64 ((i : Int) + 1), J, J, J, J, J, J, J, J, J, J, J, J, J, J, J, J, J, J, J, J], []⟩) : G Try.prog E (f29K0 Try.prog) (f29S0 a b i ) :=
  segC_step (n := 400) (ds := []) (cs := []) (live := [0, 1, 5]) (m := 0) (evs := [.b true, .ld (.int .i64 e), .ld (.int .i64 e1), .b false, .stop]) (obs := _) hE.2.1 (hE.nogh _) mixed (by kernel_rfl) ho hg
theorem p29_0_2 (a : (List Int)) (b : (List Int)) (i : Nat)   {E : Env} {res : AV} (hE : PureE Try.prog 29 res E) (ho : AllP [(decide ((i : Int) < (a.length : Int))) = false])
    (hr : AvLe (.bool true) res) : G Try.prog E (f29K0 Try.prog) (f29S0 a b i ) :=
  end_stepL (n := 400) (evs := [.b false]) (obs := _) hE Try.func29 mixed (by kernel_rfl) ho hr
theorem f29W0 (a : (List Int)) (b : (List Int)) (i : Nat) {E : Env} {rv : Bool} (hE : PureE Try.prog 29 (.bool rv) E)
    (h : (((i : Int) < (a.length : Int) → (∃ e : Int, a[i]? = some e ∧ (∃ e1 : Int, b[i]? = some e1 ∧ ((¬ (e = e1) → rv = false) ∧ (e = e1 → ((-9223372036854775808 ≤ (i : Int) + 1 ∧ (i : Int) + 1 ≤ 9223372036854775807) ∧ f29G0 E a b (i + 1))))))) ∧ (¬ ((i : Int) < (a.length : Int)) → rv = true))) : f29G0 E a b i := by
  rcases Bool.eq_false_or_eq_true (decide ((i : Int) < (a.length : Int))) with hc0 | hc0
  · have h := h.1 (of_decide_eq_true hc0)
    obtain ⟨e, h1, h⟩ := h
    obtain ⟨e1, h2, h⟩ := h
    rcases Bool.eq_false_or_eq_true (e != e1) with hc1 | hc1
    · have h := h.1 (bneT hc1)
      exact p29_0_0 a b i  e e1 hE ⟨hc0, (idx_ok h1), (row_part cI (s := 1) (k := 0) (m := 1) (fun _ => rfl) (by decide) h1), (idx_ok h2), (row_part cI (s := 1) (k := 0) (m := 1) (fun _ => rfl) (by decide) h2), hc1, trivial⟩ (AvLe.of_eq (by rw [h]; try rfl))
    · have h := h.2 (bneF hc1)
      obtain ⟨q8_2, h⟩ := h
      exact p29_0_1 a b i  e e1 hE ⟨hc0, (idx_ok h1), (row_part cI (s := 1) (k := 0) (m := 1) (fun _ => rfl) (by decide) h1), (idx_ok h2), (row_part cI (s := 1) (k := 0) (m := 1) (fun _ => rfl) (by decide) h2), hc1, q8_2, trivial⟩ h
  · have h := h.2 (of_decide_eq_false hc0)
    exact p29_0_2 a b i   hE ⟨hc0, trivial⟩ (AvLe.of_eq (by rw [h]; try rfl))

theorem sameInts_ok (a b : List Int) (h : a.length ≤ 9223372036854775807 ∧ a = b) : Pure Try.prog 29 [.rsl (rowI a) 0 a.length, .rsl (rowI b) 0 b.length] (.bool true) := pure_of Try.func29 f29b fun E hE => by
  obtain ⟨h, rfl⟩ := h
  refine f29W a a (rv := true) hE ⟨fun h => absurd rfl h, fun _ => ?_⟩
  have key : ∀ (d i : Nat), i + d = a.length → f29G0 E a a i := by
    intro d
    induction d with
    | zero => intro i hd; exact f29W0 a a i (rv := true) hE ⟨fun h => by omega, fun _ => rfl⟩
    | succ d ih =>
      intro i hd
      have hi : a[i]? = some a[i] := List.getElem?_eq_getElem (by omega)
      exact f29W0 a a i (rv := true) hE ⟨fun _ => ⟨_, hi, _, hi, fun h => absurd rfl h, fun _ => ⟨by omega, ih (i + 1) (by omega)⟩⟩, fun h => by omega⟩
  exact key a.length 0 (by omega)

end Go.Proofs.Ytfgmlaeikcfpbaa

namespace Go.Proofs.Ytfgmlaeikcfpbaa
open Go Ax
open Go.Proofs

structure Rul where
  tickets : Int
  wins : Int
  n : Int
  need : Int
  hit : Int
  miss : Int
structure Sup where
  kind : Int
  stock : Int
  plays : Int
structure Hnd where
  plan : List Int
  draws : List Int
/-! ### Fractions -/
theorem frac_parts {v u : Int} (hu : 0 < u) : ∃ g, 0 < g ∧ v = g * (fracI v u).num ∧ u = g * (fracI v u).den ∧ 0 < (fracI v u).den := by
  have hM : 0 ≤ iMax v (0 - v) := by unfold iMax; split <;> omega
  have hM2 : iMax v (0 - v) = v ∨ iMax v (0 - v) = -v := by unfold iMax; split <;> omega
  have hg1 : 1 ≤ iMax (gcdI (iMax v (0 - v)) u) 1 := iMax_pos
  have hgp : 0 < gcdI (iMax v (0 - v)) u := by rw [gcdI_comm hM (by omega)]; exact gcd_pos hu hM
  have hge : iMax (gcdI (iMax v (0 - v)) u) 1 = gcdI (iMax v (0 - v)) u := by
    generalize gcdI (iMax v (0 - v)) u = c at hgp
    unfold iMax; split <;> omega
  obtain ⟨d1, d2⟩ := gcd_dvd hM (show 0 ≤ u by omega)
  have d3 : gcdI (iMax v (0 - v)) u ∣ v := by
    generalize gcdI (iMax v (0 - v)) u = c at d1
    rcases hM2 with h | h
    · rw [h] at d1; exact d1
    · rw [h] at d1; exact Int.dvd_neg.1 d1
  unfold fracI
  rw [hge]
  generalize gcdI (iMax v (0 - v)) u = c at hgp d2 d3
  have e2 : c * Int.tdiv u c = u := Int.mul_tdiv_cancel' d2
  have e3 : c * Int.tdiv v c = v := Int.mul_tdiv_cancel' d3
  refine ⟨c, hgp, e3.symm, e2.symm, ?_⟩
  show 0 < Int.tdiv u c
  rcases Int.lt_or_le 0 (Int.tdiv u c) with h | h
  · exact h
  · have := Int.mul_le_mul_of_nonneg_left h (show 0 ≤ c by omega)
    rw [e2] at this; omega
theorem frac_scale {g a b : Int} (hg : 0 < g) (hb : 0 < b) : fracI (g * a) (g * b) = fracI a b := by
  have hM : 0 ≤ iMax a (0 - a) := by unfold iMax; split <;> omega
  have e1 : iMax (g * a) (0 - g * a) = g * iMax a (0 - a) := by
    have hn : 0 - g * a = g * (0 - a) := by rw [Int.mul_sub]; omega
    rw [hn]
    unfold iMax
    by_cases h : 0 - a > a
    · rw [if_pos h, if_pos (Int.mul_lt_mul_of_pos_left h hg)]
    · rw [if_neg h, if_neg (by have := Int.mul_le_mul_of_nonneg_left (show 0 - a ≤ a by omega) (show 0 ≤ g by omega); omega)]
  have hgM := Int.mul_nonneg (show 0 ≤ g by omega) hM
  have hgb := Int.mul_pos hg hb
  have e2 : gcdI (g * iMax a (0 - a)) (g * b) = g * gcdI (iMax a (0 - a)) b := by
    rw [gcdI_int hgM (by omega), gcdI_int hM (by omega), Int.gcd_mul_left]
    rw [Int.natCast_mul, Int.natAbs_of_nonneg (by omega)]
  have hgp : 0 < gcdI (iMax a (0 - a)) b := by rw [gcdI_comm hM (by omega)]; exact gcd_pos hb hM
  have e3 : iMax (g * gcdI (iMax a (0 - a)) b) 1 = g * iMax (gcdI (iMax a (0 - a)) b) 1 := by
    generalize gcdI (iMax a (0 - a)) b = c at hgp
    have := Int.mul_pos hg hgp
    have h1 : iMax c 1 = c := by unfold iMax; split <;> omega
    rw [h1]
    generalize g * c = q at this
    unfold iMax; split <;> omega
  unfold fracI
  rw [e1, e2, e3, Int.mul_tdiv_mul_of_pos _ _ hg, Int.mul_tdiv_mul_of_pos _ _ hg]
theorem frac_cross {v u : Int} (hu : 0 < u) : v * (fracI v u).den = (fracI v u).num * u := by
  obtain ⟨g, hg, e1, e2, e3⟩ := frac_parts (v := v) hu
  generalize (fracI v u).num = n at *
  generalize (fracI v u).den = d at *
  rw [e1, e2, Int.mul_comm n (g * d), Int.mul_assoc, Int.mul_assoc, Int.mul_comm n d]
theorem frac_inj {a b u : Int} (hu : 0 < u) (h : fracI a u = fracI b u) : a = b := by
  have h1 := frac_cross (v := a) hu
  have h2 := frac_cross (v := b) hu
  obtain ⟨g, hg, -, -, e3⟩ := frac_parts (v := a) hu
  rw [← h] at h2
  rw [← h1] at h2
  exact (Int.eq_of_mul_eq_mul_right (by omega) h2).symm
theorem frac_bd {v u B : Int} (hv : -B ≤ v ∧ v ≤ B) (hu : 0 < u) : (-B ≤ (fracI v u).num ∧ (fracI v u).num ≤ B) ∧ 0 < (fracI v u).den ∧ (fracI v u).den ≤ u := by
  obtain ⟨g, hg, -, -, e3⟩ := frac_parts (v := v) hu
  exact ⟨tdiv_bd iMax_pos hv.1 hv.2, e3, (tdiv_bd (n := u) (B := u) iMax_pos (by omega) (by omega)).2⟩
theorem frac_nonneg {v u : Int} (hv : 0 ≤ v) (hu : 0 < u) : 0 ≤ (fracI v u).num := by
  obtain ⟨g, hg, e1, -, -⟩ := frac_parts (v := v) hu
  rcases Int.lt_or_le (fracI v u).num 0 with h | h
  · have := Int.mul_neg_of_pos_of_neg hg h; omega
  · exact h

/-! ### Planned -/
def gainK (s : Stl) (pa oa : Int) : Int × Int × Int := if checkK s = 0 then (if aimsI [pa, oa] = true then ((firstI (machG s) (worthI (machG s)) (chooseI (machG s) pa oa)).num, (firstI (machG s) (worthI (machG s)) (chooseI (machG s) pa oa)).den, 0) else (0, 0, 1)) else (0, 0, 60)
def gainV (s : Stl) (pa oa : Int) : Int := (valA (machG s) (worthI (machG s)) (chooseI (machG s) pa oa)).1.getD 0 0
def meas0I (s : Stl) : Int := (machG s).meas.getD 0 0
def houseF (s : Stl) : Fr := fracI (s.price * meas0I s - gainV s 2 1) (meas0I s)
def houseK (s : Stl) : Int × Int × Int := if checkK s = 0 then ((houseF s).num, (houseF s).den, 0) else (0, 0, 60)
theorem dAims (W : World) : Dec Try.prog W 40 Aims cAims (fun a => True) := by
  refine Dec.map (dec_struct Try.underlying40 rfl (tot := 3) (by kernel_rfl) (decFs_cons (n := 1) (tot := 3) (by kernel_rfl) rfl (dec_i64 Try.underlying3) (decFs_cons (n := 1) (tot := 3) (by kernel_rfl) rfl (dec_i64 Try.underlying3) (decFs_cons (n := 1) (tot := 3) (by kernel_rfl) rfl (dec_i64 Try.underlying3) decFs_nil (by decide)) (by decide)) (by decide))) (fun x => (⟨x.1, x.2.1, x.2.2.1⟩ : Aims)) ?_ ?_
  · exact fun _ => rfl
  · exact fun _ _ => trivial
theorem f31b : Try.f31.body = some (bodyAt Try.prog 31) := by kernel_rfl
theorem p31_start_0 (s : Stl) (pa : Int) (oa : Int)   {E : Env} {res : AV} (hE : PureE Try.prog 31 res E) (ho : AllP [PureF Try.prog (.clos 71 [] []) [.agg [.rsl (rowStg s.stages) 0 s.stages.length, .rsl (rowI s.worth) 0 s.worth.length, .int .i64 s.price], .clos 84 [] [.rptr [.int .i64 pa] 0, .rptr [.int .i64 oa] 0]] (.tup [.rptr [.rsl (rowStg (((machG s).s).stages)) 0 ((((machG s).s).stages).length), .rsl (rowI (((machG s).s).worth)) 0 ((((machG s).s).worth).length), .int .i64 (((machG s).s).price), .rsl (rowI ((machG s).meas)) 0 (((machG s).meas).length), .rsl (rowI ((machG s).mult)) 0 (((machG s).mult).length)] 0, .int .i64 0]), false = false, PureF Try.prog (.clos 77 [] []) [.rptr [.rsl (rowStg (((machG s).s).stages)) 0 ((((machG s).s).stages).length), .rsl (rowI (((machG s).s).worth)) 0 ((((machG s).s).worth).length), .int .i64 (((machG s).s).price), .rsl (rowI ((machG s).meas)) 0 (((machG s).meas).length), .rsl (rowI ((machG s).mult)) 0 (((machG s).mult).length)] 0, .int .i64 pa, .int .i64 oa] (.clos 114 [] [.rptr [.int .i64 pa] 0, .rptr [.rptr [.rsl (rowStg (((machG s).s).stages)) 0 ((((machG s).s).stages).length), .rsl (rowI (((machG s).s).worth)) 0 ((((machG s).s).worth).length), .int .i64 (((machG s).s).price), .rsl (rowI ((machG s).meas)) 0 (((machG s).meas).length), .rsl (rowI ((machG s).mult)) 0 (((machG s).mult).length)] 0] 0, .rptr [.int .i64 oa] 0]), PureF Try.prog (.clos 75 [] []) [.rptr [.rsl (rowStg (((machG s).s).stages)) 0 ((((machG s).s).stages).length), .rsl (rowI (((machG s).s).worth)) 0 ((((machG s).s).worth).length), .int .i64 (((machG s).s).price), .rsl (rowI ((machG s).meas)) 0 (((machG s).meas).length), .rsl (rowI ((machG s).mult)) 0 (((machG s).mult).length)] 0, .clos 85 [.rptr [.rsl (rowStg (((machG s).s).stages)) 0 ((((machG s).s).stages).length), .rsl (rowI (((machG s).s).worth)) 0 ((((machG s).s).worth).length), .int .i64 (((machG s).s).price), .rsl (rowI ((machG s).meas)) 0 (((machG s).meas).length), .rsl (rowI ((machG s).mult)) 0 (((machG s).mult).length)] 0] [], .clos 114 [] [.rptr [.int .i64 pa] 0, .rptr [.rptr [.rsl (rowStg (((machG s).s).stages)) 0 ((((machG s).s).stages).length), .rsl (rowI (((machG s).s).worth)) 0 ((((machG s).s).worth).length), .int .i64 (((machG s).s).price), .rsl (rowI ((machG s).meas)) 0 (((machG s).meas).length), .rsl (rowI ((machG s).mult)) 0 (((machG s).mult).length)] 0] 0, .rptr [.int .i64 oa] 0]] (.agg [.int .i64 ((firstI (machG s) (worthI (machG s)) (chooseI (machG s) pa oa)).num), .int .i64 ((firstI (machG s) (worthI (machG s)) (chooseI (machG s) pa oa)).den)]), 2 ≤ 2, (0 : Int) ≤ 0 ∧ (0 : Int) < ((2 : Nat) : Int), (0 : Int) ≤ 1 ∧ (1 : Int) < ((2 : Nat) : Int)])
    (hr : AvLe (.tup [.int .i64 ((firstI (machG s) (worthI (machG s)) (chooseI (machG s) pa oa)).num), .int .i64 ((firstI (machG s) (worthI (machG s)) (chooseI (machG s) pa oa)).den), .int .i64 0]) res) : G Try.prog E [.code (bodyAt Try.prog 31)] ⟨[.agg [.rsl (rowStg s.stages) 0 s.stages.length, .rsl (rowI s.worth) 0 s.worth.length, .int .i64 s.price], .int .i64 pa, .int .i64 oa] ++ unds (Try.f31.ntmps - 3), []⟩ :=
  end_stepL (n := 400) (evs := [.wt 4, .wt 5, .v (.tup [.rptr [.rsl (rowStg (((machG s).s).stages)) 0 ((((machG s).s).stages).length), .rsl (rowI (((machG s).s).worth)) 0 ((((machG s).s).worth).length), .int .i64 (((machG s).s).price), .rsl (rowI ((machG s).meas)) 0 (((machG s).meas).length), .rsl (rowI ((machG s).mult)) 0 (((machG s).mult).length)] 0, .int .i64 0]), .b false, .v (.clos 114 [] [.rptr [.int .i64 pa] 0, .rptr [.rptr [.rsl (rowStg (((machG s).s).stages)) 0 ((((machG s).s).stages).length), .rsl (rowI (((machG s).s).worth)) 0 ((((machG s).s).worth).length), .int .i64 (((machG s).s).price), .rsl (rowI ((machG s).meas)) 0 (((machG s).meas).length), .rsl (rowI ((machG s).mult)) 0 (((machG s).mult).length)] 0] 0, .rptr [.int .i64 oa] 0]), .v (.agg [.int .i64 ((firstI (machG s) (worthI (machG s)) (chooseI (machG s) pa oa)).num), .int .i64 ((firstI (machG s) (worthI (machG s)) (chooseI (machG s) pa oa)).den)])]) (obs := _) hE Try.func31 mixed (by kernel_rfl) ho hr
theorem p31_start_1 (s : Stl) (pa : Int) (oa : Int)   {E : Env} {res : AV} (hE : PureE Try.prog 31 res E) (ho : AllP [PureF Try.prog (.clos 71 [] []) [.agg [.rsl (rowStg s.stages) 0 s.stages.length, .rsl (rowI s.worth) 0 s.worth.length, .int .i64 s.price], .clos 84 [] [.rptr [.int .i64 pa] 0, .rptr [.int .i64 oa] 0]] (.tup [.nilPtr, .int .i64 1]), true = true])
    (hr : AvLe (.tup [.int .i64 0, .int .i64 0, .int .i64 1]) res) : G Try.prog E [.code (bodyAt Try.prog 31)] ⟨[.agg [.rsl (rowStg s.stages) 0 s.stages.length, .rsl (rowI s.worth) 0 s.worth.length, .int .i64 s.price], .int .i64 pa, .int .i64 oa] ++ unds (Try.f31.ntmps - 3), []⟩ :=
  end_stepL (n := 400) (evs := [.wt 4, .wt 5, .v (.tup [.nilPtr, .int .i64 1]), .b true]) (obs := _) hE Try.func31 mixed (by kernel_rfl) ho hr
theorem p31_start_2 (s : Stl) (pa : Int) (oa : Int)   {E : Env} {res : AV} (hE : PureE Try.prog 31 res E) (ho : AllP [PureF Try.prog (.clos 71 [] []) [.agg [.rsl (rowStg s.stages) 0 s.stages.length, .rsl (rowI s.worth) 0 s.worth.length, .int .i64 s.price], .clos 84 [] [.rptr [.int .i64 pa] 0, .rptr [.int .i64 oa] 0]] (.tup [.nilPtr, .int .i64 60]), true = true])
    (hr : AvLe (.tup [.int .i64 0, .int .i64 0, .int .i64 60]) res) : G Try.prog E [.code (bodyAt Try.prog 31)] ⟨[.agg [.rsl (rowStg s.stages) 0 s.stages.length, .rsl (rowI s.worth) 0 s.worth.length, .int .i64 s.price], .int .i64 pa, .int .i64 oa] ++ unds (Try.f31.ntmps - 3), []⟩ :=
  end_stepL (n := 400) (evs := [.wt 4, .wt 5, .v (.tup [.nilPtr, .int .i64 60]), .b true]) (obs := _) hE Try.func31 mixed (by kernel_rfl) ho hr
theorem f31W (s : Stl) (pa : Int) (oa : Int) {E : Env} {rv : (Int × Int × Int)} (hE : PureE Try.prog 31 (.tup [.int .i64 rv.1, .int .i64 rv.2.1, .int .i64 rv.2.2]) E)
    (h : ((((machI s).isSome) = true → (((aimsI [pa, oa]) = true → ((s.stages.length ≤ 9223372036854775807 ∧ s.worth.length ≤ 9223372036854775807) ∧ ((MOk (machG s)) ∧ rv = ((firstI (machG s) (worthI (machG s)) (chooseI (machG s) pa oa)).num, (firstI (machG s) (worthI (machG s)) (chooseI (machG s) pa oa)).den, 0)))) ∧ ((aimsI [pa, oa]) = false → ((s.stages.length ≤ 9223372036854775807 ∧ s.worth.length ≤ 9223372036854775807) ∧ rv = (0, 0, 1))))) ∧ (((machI s).isSome) = false → ((s.stages.length ≤ 9223372036854775807 ∧ s.worth.length ≤ 9223372036854775807) ∧ rv = (0, 0, 60))))) : G Try.prog E [.code (bodyAt Try.prog 31)] ⟨[.agg [.rsl (rowStg s.stages) 0 s.stages.length, .rsl (rowI s.worth) 0 s.worth.length, .int .i64 s.price], .int .i64 pa, .int .i64 oa] ++ unds (Try.f31.ntmps - 3), []⟩ := by
  rcases Bool.eq_false_or_eq_true ((machI s).isSome) with hc0 | hc0
  · have h := h.1 hc0
    rcases Bool.eq_false_or_eq_true (aimsI [pa, oa]) with hc1 | hc1
    · have h := h.1 hc1
      obtain ⟨h1, h⟩ := h
      obtain ⟨h2, h⟩ := h
      exact p31_start_0 s pa oa    hE ⟨(pureF_of Try.func71 (by kernel_rfl) f71x84b (begR_T hc0 hc1 ▸ beg84_ok s pa oa h1)), rfl, (pureF_of Try.func77 (by kernel_rfl) f77b (mkaims_ok (machG s) pa oa)), (pureF_of Try.func75 (by kernel_rfl) f75wb (firstw_ok (machG s) pa oa h2)), (by decide), (⟨by decide, by decide⟩), (⟨by decide, by decide⟩), trivial⟩ (AvLe.of_eq (by rw [h]; try rfl))
    · have h := h.2 hc1
      obtain ⟨h1, h⟩ := h
      exact p31_start_1 s pa oa    hE ⟨(pureF_of Try.func71 (by kernel_rfl) f71x84b (begR_F1 hc0 hc1 ▸ beg84_ok s pa oa h1)), rfl, trivial⟩ (AvLe.of_eq (by rw [h]; try rfl))
  · have h := h.2 hc0
    obtain ⟨h1, h⟩ := h
    exact p31_start_2 s pa oa    hE ⟨(pureF_of Try.func71 (by kernel_rfl) f71x84b (begR_F0 hc0 ▸ beg84_ok s pa oa h1)), rfl, trivial⟩ (AvLe.of_eq (by rw [h]; try rfl))
theorem f57b : Try.f57.body = some (bodyAt Try.prog 57) := by kernel_rfl
theorem p57_start_0 (s : Stl) (pa : Int) (oa : Int)   {E : Env} {res : AV} (hE : PureE Try.prog 57 res E) (ho : AllP [PureF Try.prog (.clos 19 [] []) [.agg [.rsl (rowStg s.stages) 0 s.stages.length, .rsl (rowI s.worth) 0 s.worth.length, .int .i64 s.price]] (.int .i64 (checkK s)), ((checkK s) != 0) = true])
    (hr : AvLe (.tup [.int .i64 0, .int .i64 0, .int .i64 (checkK s)]) res) : G Try.prog E [.code (bodyAt Try.prog 57)] ⟨[.agg [.rsl (rowStg s.stages) 0 s.stages.length, .rsl (rowI s.worth) 0 s.worth.length, .int .i64 s.price], .int .i64 pa, .int .i64 oa] ++ unds (Try.f57.ntmps - 3), []⟩ :=
  end_stepL (n := 400) (evs := [.v (.int .i64 (checkK s)), .b true]) (obs := _) hE Try.func57 mixed (by kernel_rfl) ho hr
theorem p57_start_1 (s : Stl) (pa : Int) (oa : Int)   {E : Env} {res : AV} (hE : PureE Try.prog 57 res E) (ho : AllP [PureF Try.prog (.clos 19 [] []) [.agg [.rsl (rowStg s.stages) 0 s.stages.length, .rsl (rowI s.worth) 0 s.worth.length, .int .i64 s.price]] (.int .i64 (checkK s)), ((checkK s) != 0) = false, PureF Try.prog (.clos 107 [] []) [.int .i64 pa, .int .i64 oa] (.bool (aims2 pa oa)), (!(aims2 pa oa)) = true])
    (hr : AvLe (.tup [.int .i64 0, .int .i64 0, .int .i64 1]) res) : G Try.prog E [.code (bodyAt Try.prog 57)] ⟨[.agg [.rsl (rowStg s.stages) 0 s.stages.length, .rsl (rowI s.worth) 0 s.worth.length, .int .i64 s.price], .int .i64 pa, .int .i64 oa] ++ unds (Try.f57.ntmps - 3), []⟩ :=
  end_stepL (n := 400) (evs := [.v (.int .i64 (checkK s)), .b false, .v (.bool (aims2 pa oa)), .b true]) (obs := _) hE Try.func57 mixed (by kernel_rfl) ho hr
theorem p57_start_2 (s : Stl) (pa : Int) (oa : Int)  (e : Int)  {E : Env} {res : AV} (hE : PureE Try.prog 57 res E) (ho : AllP [PureF Try.prog (.clos 19 [] []) [.agg [.rsl (rowStg s.stages) 0 s.stages.length, .rsl (rowI s.worth) 0 s.worth.length, .int .i64 s.price]] (.int .i64 (checkK s)), ((checkK s) != 0) = false, PureF Try.prog (.clos 107 [] []) [.int .i64 pa, .int .i64 oa] (.bool (aims2 pa oa)), (!(aims2 pa oa)) = false, PureF Try.prog (.clos 86 [] []) [.agg [.rsl (rowStg s.stages) 0 s.stages.length, .rsl (rowI s.worth) 0 s.worth.length, .int .i64 s.price]] (.rsl (rowI (endsI s (worthI (machG s)))) 0 ((endsI s (worthI (machG s))).length)), PureF Try.prog (.clos 80 [] []) [.agg [.rsl (rowStg s.stages) 0 s.stages.length, .rsl (rowI s.worth) 0 s.worth.length, .int .i64 s.price], .rsl (rowI (endsI s (worthI (machG s)))) 0 ((endsI s (worthI (machG s))).length), .int .i64 pa, .int .i64 oa, .nilSl] (.rsl (rowI (valuesI s (worthI (machG s)) pa oa)) 0 ((valuesI s (worthI (machG s)) pa oa).length)), (0 : Int) ≤ 0 ∧ (0 : Int) < (((valuesI s (worthI (machG s)) pa oa).length : Nat) : Int), ((rowI (valuesI s (worthI (machG s)) pa oa)).drop (0 + 0 * 1)).take 1 = [.int .i64 e], PureF Try.prog (.clos 79 [] []) [.agg [.rsl (rowStg s.stages) 0 s.stages.length, .rsl (rowI s.worth) 0 s.worth.length, .int .i64 s.price], .int .i64 e] (.agg [.int .i64 ((fracI e ((machG s).meas.getD 0 0)).num), .int .i64 ((fracI e ((machG s).meas.getD 0 0)).den)]), 2 ≤ 2, (0 : Int) ≤ 0 ∧ (0 : Int) < ((2 : Nat) : Int), (0 : Int) ≤ 1 ∧ (1 : Int) < ((2 : Nat) : Int)])
    (hr : AvLe (.tup [.int .i64 ((fracI e ((machG s).meas.getD 0 0)).num), .int .i64 ((fracI e ((machG s).meas.getD 0 0)).den), .int .i64 0]) res) : G Try.prog E [.code (bodyAt Try.prog 57)] ⟨[.agg [.rsl (rowStg s.stages) 0 s.stages.length, .rsl (rowI s.worth) 0 s.worth.length, .int .i64 s.price], .int .i64 pa, .int .i64 oa] ++ unds (Try.f57.ntmps - 3), []⟩ :=
  end_stepL (n := 400) (evs := [.v (.int .i64 (checkK s)), .b false, .v (.bool (aims2 pa oa)), .b false, .v (.rsl (rowI (endsI s (worthI (machG s)))) 0 ((endsI s (worthI (machG s))).length)), .v (.rsl (rowI (valuesI s (worthI (machG s)) pa oa)) 0 ((valuesI s (worthI (machG s)) pa oa).length)), .ld (.int .i64 e), .v (.agg [.int .i64 ((fracI e ((machG s).meas.getD 0 0)).num), .int .i64 ((fracI e ((machG s).meas.getD 0 0)).den)])]) (obs := _) hE Try.func57 mixed (by kernel_rfl) ho hr
theorem f57W (s : Stl) (pa : Int) (oa : Int) {E : Env} {rv : (Int × Int × Int)} (hE : PureE Try.prog 57 (.tup [.int .i64 rv.1, .int .i64 rv.2.1, .int .i64 rv.2.2]) E)
    (h : ((s.stages.length ≤ 9223372036854775807 ∧ s.worth.length ≤ 9223372036854775807) ∧ ((¬ ((checkK s) = 0) → rv = (0, 0, (checkK s))) ∧ ((checkK s) = 0 → (((aims2 pa oa) = false → rv = (0, 0, 1)) ∧ ((aims2 pa oa) = true → ((checkK s = 0) ∧ ((checkK s = 0 ∧ (pa = 1 ∨ pa = 2) ∧ (oa = 1 ∨ oa = 2)) ∧ (∃ e : Int, (valuesI s (worthI (machG s)) pa oa)[0]? = some e ∧ ((checkK s = 0 ∧ -100000000000000000 ≤ e ∧ e ≤ 100000000000000000) ∧ rv = ((fracI e ((machG s).meas.getD 0 0)).num, (fracI e ((machG s).meas.getD 0 0)).den, 0))))))))))) : G Try.prog E [.code (bodyAt Try.prog 57)] ⟨[.agg [.rsl (rowStg s.stages) 0 s.stages.length, .rsl (rowI s.worth) 0 s.worth.length, .int .i64 s.price], .int .i64 pa, .int .i64 oa] ++ unds (Try.f57.ntmps - 3), []⟩ := by
  obtain ⟨h1, h⟩ := h
  rcases Bool.eq_false_or_eq_true ((checkK s) != 0) with hc0 | hc0
  · have h := h.1 (bneT hc0)
    exact p57_start_0 s pa oa    hE ⟨(pureF_of Try.func19 (by kernel_rfl) f19b (checkR_ok s h1)), hc0, trivial⟩ (AvLe.of_eq (by rw [h]; try rfl))
  · have h := h.2 (bneF hc0)
    rcases Bool.eq_false_or_eq_true (!(aims2 pa oa)) with hc1 | hc1
    · have h := h.1 (bnT hc1)
      exact p57_start_1 s pa oa    hE ⟨(pureF_of Try.func19 (by kernel_rfl) f19b (checkR_ok s h1)), hc0, (pureF_of Try.func107 (by kernel_rfl) f107b (aims2_ok pa oa)), hc1, trivial⟩ (AvLe.of_eq (by rw [h]; try rfl))
    · have h := h.2 (bnF hc1)
      obtain ⟨h2, h⟩ := h
      obtain ⟨h3, h⟩ := h
      obtain ⟨e, h4, h⟩ := h
      obtain ⟨h5, h⟩ := h
      exact p57_start_2 s pa oa   e hE ⟨(pureF_of Try.func19 (by kernel_rfl) f19b (checkR_ok s h1)), hc0, (pureF_of Try.func107 (by kernel_rfl) f107b (aims2_ok pa oa)), hc1, (pureF_of Try.func86 (by kernel_rfl) f86b (worths2_ok s h2)), (pureF_of Try.func80 (by kernel_rfl) f80nb (valuesNW_ok s pa oa h3)), (idx_ok h4), (row_part cI (s := 1) (k := 0) (m := 1) (fun _ => rfl) (by decide) h4), (pureF_of Try.func79 (by kernel_rfl) f79b (lowest_ok s e h5)), (by decide), (⟨by decide, by decide⟩), (⟨by decide, by decide⟩), trivial⟩ (AvLe.of_eq (by rw [h]; try rfl))
theorem f58b : Try.f58.body = some (bodyAt Try.prog 58) := by kernel_rfl
theorem p58_start_0 (s : Stl)   {E : Env} {res : AV} (hE : PureE Try.prog 58 res E) (ho : AllP [PureF Try.prog (.clos 19 [] []) [.agg [.rsl (rowStg s.stages) 0 s.stages.length, .rsl (rowI s.worth) 0 s.worth.length, .int .i64 s.price]] (.int .i64 (checkK s)), ((checkK s) != 0) = true])
    (hr : AvLe (.tup [.int .i64 0, .int .i64 0, .int .i64 (checkK s)]) res) : G Try.prog E [.code (bodyAt Try.prog 58)] ⟨[.agg [.rsl (rowStg s.stages) 0 s.stages.length, .rsl (rowI s.worth) 0 s.worth.length, .int .i64 s.price]] ++ unds (Try.f58.ntmps - 1), []⟩ :=
  end_stepL (n := 400) (evs := [.v (.int .i64 (checkK s)), .b true]) (obs := _) hE Try.func58 mixed (by kernel_rfl) ho hr
theorem p58_start_1 (s : Stl)  (e : Int) (e1 : Int)  {E : Env} {res : AV} (hE : PureE Try.prog 58 res E) (ho : AllP [PureF Try.prog (.clos 19 [] []) [.agg [.rsl (rowStg s.stages) 0 s.stages.length, .rsl (rowI s.worth) 0 s.worth.length, .int .i64 s.price]] (.int .i64 (checkK s)), ((checkK s) != 0) = false, PureF Try.prog (.clos 51 [] []) [.agg [.rsl (rowStg s.stages) 0 s.stages.length, .rsl (rowI s.worth) 0 s.worth.length, .int .i64 s.price]] (.tup [.rsl (rowI ((measR (measA s)).1)) 0 (((measR (measA s)).1).length), .bool ((measR (measA s)).2)]), (0 : Int) ≤ 0 ∧ (0 : Int) < ((((measR (measA s)).1).length : Nat) : Int), ((rowI ((measR (measA s)).1)).drop (0 + 0 * 1)).take 1 = [.int .i64 e], InR .i64 (s.price * e), PureF Try.prog (.clos 86 [] []) [.agg [.rsl (rowStg s.stages) 0 s.stages.length, .rsl (rowI s.worth) 0 s.worth.length, .int .i64 s.price]] (.rsl (rowI (endsI s (worthI (machG s)))) 0 ((endsI s (worthI (machG s))).length)), PureF Try.prog (.clos 80 [] []) [.agg [.rsl (rowStg s.stages) 0 s.stages.length, .rsl (rowI s.worth) 0 s.worth.length, .int .i64 s.price], .rsl (rowI (endsI s (worthI (machG s)))) 0 ((endsI s (worthI (machG s))).length), .int .i64 2, .int .i64 1, .nilSl] (.rsl (rowI (valuesI s (worthI (machG s)) 2 1)) 0 ((valuesI s (worthI (machG s)) 2 1).length)), (0 : Int) ≤ 0 ∧ (0 : Int) < (((valuesI s (worthI (machG s)) 2 1).length : Nat) : Int), ((rowI (valuesI s (worthI (machG s)) 2 1)).drop (0 + 0 * 1)).take 1 = [.int .i64 e1], InR .i64 ((s.price * e) - e1), PureF Try.prog (.clos 79 [] []) [.agg [.rsl (rowStg s.stages) 0 s.stages.length, .rsl (rowI s.worth) 0 s.worth.length, .int .i64 s.price], .int .i64 ((s.price * e) - e1)] (.agg [.int .i64 ((fracI ((s.price * e) - e1) ((machG s).meas.getD 0 0)).num), .int .i64 ((fracI ((s.price * e) - e1) ((machG s).meas.getD 0 0)).den)]), 2 ≤ 2, (0 : Int) ≤ 0 ∧ (0 : Int) < ((2 : Nat) : Int), (0 : Int) ≤ 1 ∧ (1 : Int) < ((2 : Nat) : Int)])
    (hr : AvLe (.tup [.int .i64 ((fracI ((s.price * e) - e1) ((machG s).meas.getD 0 0)).num), .int .i64 ((fracI ((s.price * e) - e1) ((machG s).meas.getD 0 0)).den), .int .i64 0]) res) : G Try.prog E [.code (bodyAt Try.prog 58)] ⟨[.agg [.rsl (rowStg s.stages) 0 s.stages.length, .rsl (rowI s.worth) 0 s.worth.length, .int .i64 s.price]] ++ unds (Try.f58.ntmps - 1), []⟩ :=
  end_stepL (n := 400) (evs := [.v (.int .i64 (checkK s)), .b false, .v (.tup [.rsl (rowI ((measR (measA s)).1)) 0 (((measR (measA s)).1).length), .bool ((measR (measA s)).2)]), .auto, .auto, .ld (.int .i64 e), .v (.rsl (rowI (endsI s (worthI (machG s)))) 0 ((endsI s (worthI (machG s))).length)), .v (.rsl (rowI (valuesI s (worthI (machG s)) 2 1)) 0 ((valuesI s (worthI (machG s)) 2 1).length)), .ld (.int .i64 e1), .v (.agg [.int .i64 ((fracI ((s.price * e) - e1) ((machG s).meas.getD 0 0)).num), .int .i64 ((fracI ((s.price * e) - e1) ((machG s).meas.getD 0 0)).den)])]) (obs := _) hE Try.func58 mixed (by kernel_rfl) ho hr
theorem f58W (s : Stl) {E : Env} {rv : (Int × Int × Int)} (hE : PureE Try.prog 58 (.tup [.int .i64 rv.1, .int .i64 rv.2.1, .int .i64 rv.2.2]) E)
    (h : ((s.stages.length ≤ 9223372036854775807 ∧ s.worth.length ≤ 9223372036854775807) ∧ ((¬ ((checkK s) = 0) → rv = (0, 0, (checkK s))) ∧ ((checkK s) = 0 → ((s.stages.length ≤ 1000000 ∧ ∀ i, i < s.stages.length → formI s i = true) ∧ (∃ e : Int, ((measR (measA s)).1)[0]? = some e ∧ ((-9223372036854775808 ≤ s.price * e ∧ s.price * e ≤ 9223372036854775807) ∧ ((checkK s = 0) ∧ ((checkK s = 0 ∧ ((2 : Int) = 1 ∨ (2 : Int) = 2) ∧ ((1 : Int) = 1 ∨ (1 : Int) = 2)) ∧ (∃ e1 : Int, (valuesI s (worthI (machG s)) 2 1)[0]? = some e1 ∧ ((-9223372036854775808 ≤ (s.price * e) - e1 ∧ (s.price * e) - e1 ≤ 9223372036854775807) ∧ ((checkK s = 0 ∧ -100000000000000000 ≤ ((s.price * e) - e1) ∧ ((s.price * e) - e1) ≤ 100000000000000000) ∧ rv = ((fracI ((s.price * e) - e1) ((machG s).meas.getD 0 0)).num, (fracI ((s.price * e) - e1) ((machG s).meas.getD 0 0)).den, 0))))))))))))) : G Try.prog E [.code (bodyAt Try.prog 58)] ⟨[.agg [.rsl (rowStg s.stages) 0 s.stages.length, .rsl (rowI s.worth) 0 s.worth.length, .int .i64 s.price]] ++ unds (Try.f58.ntmps - 1), []⟩ := by
  obtain ⟨h1, h⟩ := h
  rcases Bool.eq_false_or_eq_true ((checkK s) != 0) with hc0 | hc0
  · have h := h.1 (bneT hc0)
    exact p58_start_0 s    hE ⟨(pureF_of Try.func19 (by kernel_rfl) f19b (checkR_ok s h1)), hc0, trivial⟩ (AvLe.of_eq (by rw [h]; try rfl))
  · have h := h.2 (bneF hc0)
    obtain ⟨h2, h⟩ := h
    obtain ⟨e, h3, h⟩ := h
    obtain ⟨q6_1, h⟩ := h
    obtain ⟨h4, h⟩ := h
    obtain ⟨h5, h⟩ := h
    obtain ⟨e1, h6, h⟩ := h
    obtain ⟨q12_1, h⟩ := h
    obtain ⟨h7, h⟩ := h
    exact p58_start_1 s   e e1 hE ⟨(pureF_of Try.func19 (by kernel_rfl) f19b (checkR_ok s h1)), hc0, (pureF_of Try.func51 (by kernel_rfl) f51b (measures_ok s h2)), (idx_ok h3), (row_part cI (s := 1) (k := 0) (m := 1) (fun _ => rfl) (by decide) h3), q6_1, (pureF_of Try.func86 (by kernel_rfl) f86b (worths2_ok s h4)), (pureF_of Try.func80 (by kernel_rfl) f80nb (valuesNW_ok s 2 1 h5)), (idx_ok h6), (row_part cI (s := 1) (k := 0) (m := 1) (fun _ => rfl) (by decide) h6), q12_1, (pureF_of Try.func79 (by kernel_rfl) f79b (lowest_ok s ((s.price * e) - e1) h7)), (by decide), (⟨by decide, by decide⟩), (⟨by decide, by decide⟩), trivial⟩ (AvLe.of_eq (by rw [h]; try rfl))
theorem gain_ok (s : Stl) (pa oa : Int) (h : s.stages.length ≤ 9223372036854775807 ∧ s.worth.length ≤ 9223372036854775807) : Pure Try.prog 31 [avStl s, .int .i64 pa, .int .i64 oa] (.tup [.int .i64 (gainK s pa oa).1, .int .i64 (gainK s pa oa).2.1, .int .i64 (gainK s pa oa).2.2]) := pure_of Try.func31 f31b fun E hE => by
  refine f31W s pa oa (rv := gainK s pa oa) hE ⟨fun h0 => ⟨fun h1 => ⟨h, (mok_G h0).1, ?_⟩, fun h1 => ⟨h, ?_⟩⟩, fun h0 => ⟨h, ?_⟩⟩
  · rw [gainK, if_pos (isSome_iff.1 h0), if_pos h1]
  · rw [gainK, if_pos (isSome_iff.1 h0), if_neg (by rw [h1]; simp)]
  · rw [gainK, if_neg (fun h => by rw [isSome_iff.2 h] at h0; cases h0)]
theorem gainR_ok (s : Stl) (pa oa : Int) (h : s.stages.length ≤ 9223372036854775807 ∧ s.worth.length ≤ 9223372036854775807) : Pure Try.prog 57 [avStl s, .int .i64 pa, .int .i64 oa] (.tup [.int .i64 (gainK s pa oa).1, .int .i64 (gainK s pa oa).2.1, .int .i64 (gainK s pa oa).2.2]) := pure_of Try.func57 f57b fun E hE => by
  refine f57W s pa oa (rv := gainK s pa oa) hE ⟨h, fun h0 => by rw [gainK, if_neg h0, checkK_no h0], fun h0 => ⟨fun h1 => ?_, fun h1 => ?_⟩⟩
  · rw [gainK, if_pos h0, if_neg (by rw [← aims_eq, h1]; simp)]
  · have hm := (mok_G (isSome_of h0)).1
    have ha := aims2_iff.1 h1
    obtain ⟨v, hv, hb⟩ := val0 hm (w := worthI (machG s)) (ch := chooseI (machG s) pa oa) (wok_worth hm)
    refine ⟨h0, ⟨h0, ha⟩, v, hv, ⟨h0, hb⟩, ?_⟩
    rw [gainK, if_pos h0, if_pos (by rw [← aims_eq]; exact h1), firstI, getD_of hv]
theorem gainV_bd {s : Stl} {pa oa : Int} (h : checkK s = 0) : (0 ≤ gainV s pa oa ∧ gainV s pa oa ≤ 10000 * meas0I s) ∧ 0 < meas0I s ∧ meas0I s ≤ 1000000000000 := by
  have hm := (mok_G (isSome_of h)).1
  obtain ⟨u, hu, h1, h2⟩ := meas0 hm
  have := (val_okA hm (w := worthI (machG s)) (ch := chooseI (machG s) pa oa) (wok_worth hm)).hi 0 u (by omega) hu
  unfold gainV meas0I
  rw [getD_of hu]
  exact ⟨this, h1, h2⟩
theorem price_bd {s : Stl} (h : checkK s = 0) : 0 ≤ s.price ∧ s.price ≤ 10000 := by
  obtain ⟨hm, es⟩ := mok_G (isSome_of h)
  have := (stPre_of hm.st).2.2.2.1
  rw [es] at this; exact this
theorem houseR_ok (s : Stl) (h : s.stages.length ≤ 9223372036854775807 ∧ s.worth.length ≤ 9223372036854775807) : Pure Try.prog 58 [avStl s] (.tup [.int .i64 (houseK s).1, .int .i64 (houseK s).2.1, .int .i64 (houseK s).2.2]) := pure_of Try.func58 f58b fun E hE => by
  refine f58W s (rv := houseK s) hE ⟨h, fun h0 => by rw [houseK, if_neg h0, checkK_no h0], fun h0 => ?_⟩
  obtain ⟨hm, es⟩ := mok_G (isSome_of h0)
  have hform := (stPre_of hm.st).2.2.2.2
  have hn := (stPre_of hm.st).1
  rw [es] at hform hn
  obtain ⟨v, hv, hb⟩ := val0 hm (w := worthI (machG s)) (ch := chooseI (machG s) 2 1) (wok_worth hm)
  obtain ⟨u, hu, hu1, hu2⟩ := meas0 hm
  have gb := gainV_bd (pa := 2) (oa := 1) h0
  have ev : gainV s 2 1 = v := getD_of hv
  have eu : meas0I s = u := getD_of hu
  rw [ev, eu] at gb
  have pb := price_bd h0
  have m1 := Int.mul_nonneg pb.1 (show 0 ≤ u by omega)
  have m2 := Int.mul_le_mul_of_nonneg_right pb.2 (show 0 ≤ u by omega)
  refine ⟨⟨by omega, hform⟩, u, by rw [measR_of (isSome_of h0)]; exact hu, by omega, h0, ⟨h0, .inr rfl, .inl rfl⟩, v, hv, by omega, ⟨h0, by omega, by omega⟩, ?_⟩
  rw [houseK, if_pos h0, houseF, ev, eu, getD_of hu]
theorem f34b : Try.f34.body = some (bodyAt Try.prog 34) := by kernel_rfl
theorem p34_start_0 (s : Stl)   {E : Env} {res : AV} (hE : PureE Try.prog 34 res E) (ho : AllP [PureF Try.prog (.clos 31 [] []) [.agg [.rsl (rowStg s.stages) 0 s.stages.length, .rsl (rowI s.worth) 0 s.worth.length, .int .i64 s.price], .int .i64 2, .int .i64 1] (.tup [.int .i64 ((gainK s 2 1).1), .int .i64 ((gainK s 2 1).2.1), .int .i64 ((gainK s 2 1).2.2)]), ((gainK s 2 1).2.2 != 0) = true])
    (hr : AvLe (.tup [.int .i64 0, .int .i64 0, .int .i64 ((gainK s 2 1).2.2)]) res) : G Try.prog E [.code (bodyAt Try.prog 34)] ⟨[.agg [.rsl (rowStg s.stages) 0 s.stages.length, .rsl (rowI s.worth) 0 s.worth.length, .int .i64 s.price]] ++ unds (Try.f34.ntmps - 1), []⟩ :=
  end_stepL (n := 400) (evs := [.v (.tup [.int .i64 ((gainK s 2 1).1), .int .i64 ((gainK s 2 1).2.1), .int .i64 ((gainK s 2 1).2.2)]), .b true]) (obs := _) hE Try.func34 mixed (by kernel_rfl) ho hr
theorem p34_start_1 (s : Stl)   {E : Env} {res : AV} (hE : PureE Try.prog 34 res E) (ho : AllP [PureF Try.prog (.clos 31 [] []) [.agg [.rsl (rowStg s.stages) 0 s.stages.length, .rsl (rowI s.worth) 0 s.worth.length, .int .i64 s.price], .int .i64 2, .int .i64 1] (.tup [.int .i64 ((gainK s 2 1).1), .int .i64 ((gainK s 2 1).2.1), .int .i64 ((gainK s 2 1).2.2)]), ((gainK s 2 1).2.2 != 0) = false, InR .i64 (s.price * (gainK s 2 1).2.1), InR .i64 ((s.price * (gainK s 2 1).2.1) - (gainK s 2 1).1), PureF Try.prog (.clos 87 [] []) [.int .i64 ((s.price * (gainK s 2 1).2.1) - (gainK s 2 1).1), .int .i64 ((gainK s 2 1).2.1)] (.agg [.int .i64 ((fracI ((s.price * (gainK s 2 1).2.1) - (gainK s 2 1).1) ((gainK s 2 1).2.1)).num), .int .i64 ((fracI ((s.price * (gainK s 2 1).2.1) - (gainK s 2 1).1) ((gainK s 2 1).2.1)).den)]), 2 ≤ 2, (0 : Int) ≤ 0 ∧ (0 : Int) < ((2 : Nat) : Int), (0 : Int) ≤ 1 ∧ (1 : Int) < ((2 : Nat) : Int)])
    (hr : AvLe (.tup [.int .i64 ((fracI ((s.price * (gainK s 2 1).2.1) - (gainK s 2 1).1) ((gainK s 2 1).2.1)).num), .int .i64 ((fracI ((s.price * (gainK s 2 1).2.1) - (gainK s 2 1).1) ((gainK s 2 1).2.1)).den), .int .i64 0]) res) : G Try.prog E [.code (bodyAt Try.prog 34)] ⟨[.agg [.rsl (rowStg s.stages) 0 s.stages.length, .rsl (rowI s.worth) 0 s.worth.length, .int .i64 s.price]] ++ unds (Try.f34.ntmps - 1), []⟩ :=
  end_stepL (n := 400) (evs := [.v (.tup [.int .i64 ((gainK s 2 1).1), .int .i64 ((gainK s 2 1).2.1), .int .i64 ((gainK s 2 1).2.2)]), .b false, .v (.agg [.int .i64 ((fracI ((s.price * (gainK s 2 1).2.1) - (gainK s 2 1).1) ((gainK s 2 1).2.1)).num), .int .i64 ((fracI ((s.price * (gainK s 2 1).2.1) - (gainK s 2 1).1) ((gainK s 2 1).2.1)).den)])]) (obs := _) hE Try.func34 mixed (by kernel_rfl) ho hr
theorem f34W (s : Stl) {E : Env} {rv : (Int × Int × Int)} (hE : PureE Try.prog 34 (.tup [.int .i64 rv.1, .int .i64 rv.2.1, .int .i64 rv.2.2]) E)
    (h : ((s.stages.length ≤ 9223372036854775807 ∧ s.worth.length ≤ 9223372036854775807) ∧ ((¬ ((gainK s 2 1).2.2 = 0) → rv = (0, 0, (gainK s 2 1).2.2)) ∧ ((gainK s 2 1).2.2 = 0 → ((-9223372036854775808 ≤ s.price * (gainK s 2 1).2.1 ∧ s.price * (gainK s 2 1).2.1 ≤ 9223372036854775807) ∧ ((-9223372036854775808 ≤ (s.price * (gainK s 2 1).2.1) - (gainK s 2 1).1 ∧ (s.price * (gainK s 2 1).2.1) - (gainK s 2 1).1 ≤ 9223372036854775807) ∧ (((-100000000000000000 ≤ ((s.price * (gainK s 2 1).2.1) - (gainK s 2 1).1) ∧ ((s.price * (gainK s 2 1).2.1) - (gainK s 2 1).1) ≤ 100000000000000000) ∧ 0 < ((gainK s 2 1).2.1) ∧ ((gainK s 2 1).2.1) ≤ 1000000000000) ∧ rv = ((fracI ((s.price * (gainK s 2 1).2.1) - (gainK s 2 1).1) ((gainK s 2 1).2.1)).num, (fracI ((s.price * (gainK s 2 1).2.1) - (gainK s 2 1).1) ((gainK s 2 1).2.1)).den, 0)))))))) : G Try.prog E [.code (bodyAt Try.prog 34)] ⟨[.agg [.rsl (rowStg s.stages) 0 s.stages.length, .rsl (rowI s.worth) 0 s.worth.length, .int .i64 s.price]] ++ unds (Try.f34.ntmps - 1), []⟩ := by
  obtain ⟨h1, h⟩ := h
  rcases Bool.eq_false_or_eq_true ((gainK s 2 1).2.2 != 0) with hc0 | hc0
  · have h := h.1 (bneT hc0)
    exact p34_start_0 s    hE ⟨(pureF_of Try.func31 (by kernel_rfl) f31b (gain_ok s 2 1 h1)), hc0, trivial⟩ (AvLe.of_eq (by rw [h]; try rfl))
  · have h := h.2 (bneF hc0)
    obtain ⟨q2_1, h⟩ := h
    obtain ⟨q3_1, h⟩ := h
    obtain ⟨h2, h⟩ := h
    exact p34_start_1 s    hE ⟨(pureF_of Try.func31 (by kernel_rfl) f31b (gain_ok s 2 1 h1)), hc0, q2_1, q3_1, (pureF_of Try.func87 (by kernel_rfl) f87b (frac_ok ((s.price * (gainK s 2 1).2.1) - (gainK s 2 1).1) ((gainK s 2 1).2.1) h2)), (by decide), (⟨by decide, by decide⟩), (⟨by decide, by decide⟩), trivial⟩ (AvLe.of_eq (by rw [h]; try rfl))

theorem house_ok (s : Stl) (h : s.stages.length ≤ 9223372036854775807 ∧ s.worth.length ≤ 9223372036854775807) : Pure Try.prog 34 [avStl s] (.tup [.int .i64 (houseK s).1, .int .i64 (houseK s).2.1, .int .i64 (houseK s).2.2]) := pure_of Try.func34 f34b fun E hE => by
  refine f34W s (rv := houseK s) hE ⟨h, fun h0 => ?_, fun h0 => ?_⟩
  · have hc : ¬ (checkK s = 0) := fun hc => h0 (by rw [gainK, if_pos hc, if_pos (by decide)])
    rw [houseK, if_neg hc, gainK, if_neg hc]
  · have hc : checkK s = 0 := by
      apply Classical.byContradiction
      intro hc
      rw [gainK, if_neg hc] at h0
      cases h0
    have gb := gainV_bd (pa := 2) (oa := 1) hc
    have pb := price_bd hc
    have hg : gainK s 2 1 = ((fracI (gainV s 2 1) (meas0I s)).num, (fracI (gainV s 2 1) (meas0I s)).den, 0) := by
      rw [gainK, if_pos hc, if_pos (by decide)]; rfl
    rw [hg]
    have hh : houseK s = ((houseF s).num, (houseF s).den, 0) := by rw [houseK, if_pos hc]
    rw [houseF] at hh
    obtain ⟨g, hg1, e1, e2, e3⟩ := frac_parts (v := gainV s 2 1) gb.2.1
    have fb := frac_bd (v := gainV s 2 1) (u := meas0I s) (B := 10000000000000000) (by omega) gb.2.1
    have fn := frac_nonneg gb.1.1 gb.2.1
    have e4 : s.price * meas0I s - gainV s 2 1 = g * (s.price * (fracI (gainV s 2 1) (meas0I s)).den - (fracI (gainV s 2 1) (meas0I s)).num) := by
      rw [Int.mul_sub, ← e1, ← Int.mul_assoc, Int.mul_comm g s.price, Int.mul_assoc, ← e2]
    rw [e4] at hh
    have e5 : fracI (g * (s.price * (fracI (gainV s 2 1) (meas0I s)).den - (fracI (gainV s 2 1) (meas0I s)).num)) (meas0I s) = fracI (s.price * (fracI (gainV s 2 1) (meas0I s)).den - (fracI (gainV s 2 1) (meas0I s)).num) (fracI (gainV s 2 1) (meas0I s)).den := by
      have := frac_scale (g := g) (a := s.price * (fracI (gainV s 2 1) (meas0I s)).den - (fracI (gainV s 2 1) (meas0I s)).num) hg1 e3
      rwa [← e2] at this
    rw [e5] at hh
    clear e1 e2 e4 e5 hg
    simp only
    generalize (fracI (gainV s 2 1) (meas0I s)).den = dn at *
    generalize (fracI (gainV s 2 1) (meas0I s)).num = nm at *
    have m1 := Int.mul_nonneg pb.1 (show 0 ≤ dn by omega)
    have m2 := Int.mul_le_mul_of_nonneg_right pb.2 (show 0 ≤ dn by omega)
    exact ⟨by omega, by omega, ⟨⟨by omega, by omega⟩, by omega, by omega⟩, hh⟩

end Go.Proofs.Ytfgmlaeikcfpbaa
