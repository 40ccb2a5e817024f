/- A part of the proof: several texts, one behind the other. -/
import Derived.Test.YtfgmlaeikcfpbaaLStallsPlansE
set_option linter.unusedVariables false
set_option linter.unusedSimpArgs false
set_option maxRecDepth 100000
namespace Go.Proofs.Ytfgmlaeikcfpbaa
open Go Ax
open Go.Proofs

/-! ### What the values are, in the end -/
structure VFix (m : Mch) (w : Int → Int) (ch : Int → List Int → Int) (i : Nat) (p : List Int × List Int) : Prop where
  fx : ∀ (j : Nat) (x : Stg), i ≤ j → m.s.stages[j]? = some x →
    (x.kind = 4 → p.1.getD j 0 = (if x.prize ≥ 0 then w x.prize else 0) ∧ p.2.getD j 0 = 0) ∧
    (x.kind = 1 → p.1.getD j 0 = sumW x.turns (nextI m j p.1 x.turns) ∧ p.2.getD j 0 = 0) ∧
    (x.kind ≠ 4 → x.kind ≠ 1 → p.1.getD j 0 = (nextI m j p.1 x.turns).getD (Int.toNat (p.2.getD j 0)) 0 ∧ p.2.getD j 0 = ch j (nextI m j p.1 x.turns))

/-! ### Who chooses -/
/-! ### The reference's greatest common divisor is the program's -/
theorem gcdF_int : ∀ {n : Nat} {a b : Int}, 0 ≤ a → 0 ≤ b → b < n → gcdF n a b = (Int.gcd a b : Int)
  | 0, a, b, _, hb, h => by omega
  | n + 1, a, b, ha, hb, h => by
    simp only [gcdF]
    split
    · rename_i h0
      have t0 := Int.tmod_nonneg b ha
      have t1 := Int.tmod_lt_of_pos a h0
      rw [gcdF_int hb t0 (by omega), Int.tmod_eq_emod_of_nonneg ha, Int.gcd_comm a b]
      congr 1
      rw [Int.gcd_comm b (a % b), Int.gcd_comm b a]
      simp only [Int.gcd, Int.natAbs_emod_of_nonneg ha]
      rw [Nat.gcd_comm a.natAbs, Nat.gcd_rec b.natAbs a.natAbs]
    · have : b = 0 := by omega
      subst this
      simp [Int.gcd]; omega
theorem gcdI_int {a b : Int} (ha : 0 ≤ a) (hb : 0 ≤ b) : gcdI a b = (Int.gcd a b : Int) := gcdF_int ha hb (by omega)
theorem gcdI_comm {a b : Int} (ha : 0 ≤ a) (hb : 0 ≤ b) : gcdI a b = gcdI b a := by rw [gcdI_int ha hb, gcdI_int hb ha, Int.gcd_comm]
theorem low_eq {n d : Int} (hd : 0 < d) : (⟨Int.tdiv n (gcdI d (iMax n (0 - n))), Int.tdiv d (gcdI d (iMax n (0 - n)))⟩ : Fr) = fracI n d := by
  have h0 : 0 ≤ iMax n (0 - n) := by unfold iMax; split <;> omega
  have h1 := gcd_pos hd h0
  have e : iMax (gcdI (iMax n (0 - n)) d) 1 = gcdI d (iMax n (0 - n)) := by
    rw [gcdI_comm h0 (by omega)]
    generalize gcdI d (iMax n (0 - n)) = c at h1
    unfold iMax; split <;> omega
  rw [fracI, e]

/-! ### What an end is worth -/
def endsI (s : Stl) (w : Int → Int) : List Int := s.stages.map fun x => if x.kind = 4 ∧ x.prize ≥ 0 then w x.prize else 0
theorem ends_len {s : Stl} {w : Int → Int} : (endsI s w).length = s.stages.length := by rw [endsI, List.length_map]
theorem ends_at {s : Stl} {w : Int → Int} {i : Nat} {x : Stg} (h : s.stages[i]? = some x) : (endsI s w)[i]? = some (if x.kind = 4 ∧ x.prize ≥ 0 then w x.prize else 0) := by
  rw [endsI, List.getElem?_map, h]; rfl
def valuesP (s : Stl) (w : Int → Int) (plan : List Int) : List Int := (valA (machG s) w (fun i _ => planI plan i)).1
theorem isSome_of {s : Stl} (h : checkK s = 0) : (machI s).isSome = true := by
  unfold checkK at h
  split at h
  · assumption
  · omega
theorem measR_of {s : Stl} (h : (machI s).isSome = true) : measR (measA s) = ((machG s).meas, true) := by
  obtain ⟨m, hm⟩ := Option.isSome_iff_exists.1 h
  have : machG s = m := by simp [machG, hm]
  rw [this]
  unfold machI at hm
  split at hm
  · obtain ⟨r, hr, e⟩ := Option.map_eq_some_iff.1 hm
    rw [hr, ← e]; rfl
  · cases hm
theorem f81b : Try.f81.body = some (bodyAt Try.prog 81) := by kernel_rfl
def f81K0 (P : Program) : List Item := kAt 400 [.code (bodyAt P 81)] [.stop]
def f81S0 (s : Stl) (kd : Int) (v1 : List Int) (i : Nat) (g1 : Nat) : St := ⟨[.junk, .int .i64 kd, .ptr 0 0 0, .junk, .junk, .sl 1 g1 0 v1.length 1, .int .i64 ((i : Nat) : Int), .junk, .junk, .junk, .junk, .junk, .junk, .junk, .junk, .junk, .junk, .junk, .junk, .junk, .junk, .junk, .junk, .junk, .junk, .junk, .junk, .junk, .junk, .junk, .junk, .junk, .junk, .junk, .junk, .junk, .junk, .junk], [⟨true, 0, 1, true, [.rsl (rowStg s.stages) 0 s.stages.length, .rsl (rowI s.worth) 0 s.worth.length, .int .i64 s.price], false⟩, ⟨true, g1, 1, true, (rowI v1), true⟩]⟩
def f81G0 (E : Env) (s : Stl) (kd : Int) (v1 : List Int) (i : Nat) : Prop := ∀ g1 : Nat, G Try.prog E (f81K0 Try.prog) (f81S0 s kd v1 i g1)
theorem p81_start_0 (s : Stl) (kd : Int)   {E : Env} {rv : AV} (hE : PureE Try.prog 81 rv E) (o0 : 0 ≤ ((s.stages.length : Nat) : Int) ∧ ((s.stages.length : Nat) : Int) ≤ ((s.stages.length : Nat) : Int) ∧ ((s.stages.length : Nat) : Int) ≤ 2147483648)
    (hg : G Try.prog E (f81K0 Try.prog) ⟨[.junk, .int .i64 kd, .ptr 0 0 0, .junk, .junk, .sl 1 0 0 (Int.toNat ((s.stages.length : Nat) : Int)) 1, .int .i64 0, .junk, .junk, .junk, .junk, .junk, .junk, .junk, .junk, .junk, .junk, .junk, .junk, .junk, .junk, .junk, .junk, .junk, .junk, .junk, .junk, .junk, .junk, .junk, .junk, .junk, .junk, .junk, .junk, .junk, .junk, .junk], [⟨true, 0, 1, true, [.rsl (rowStg s.stages) 0 s.stages.length, .rsl (rowI s.worth) 0 s.worth.length, .int .i64 s.price], false⟩, ⟨true, 0, 1, true, ((List.replicate (Int.toNat ((s.stages.length : Nat) : Int)) ([.int .i64 0] : List AV)).flatten), true⟩]⟩) : G Try.prog E [.code (bodyAt Try.prog 81)] ⟨[.agg [.rsl (rowStg s.stages) 0 s.stages.length, .rsl (rowI s.worth) 0 s.worth.length, .int .i64 s.price], .int .i64 kd] ++ unds (Try.f81.ntmps - 2), []⟩ :=
  segC_step (n := 400) (ds := []) (cs := []) (live := [1, 2, 5, 6]) (m := 2) (evs := [.stop]) (obs := [0 ≤ ((s.stages.length : Nat) : Int) ∧ ((s.stages.length : Nat) : Int) ≤ ((s.stages.length : Nat) : Int) ∧ ((s.stages.length : Nat) : Int) ≤ 2147483648]) hE.2.1 (hE.nogh _) mixed (by kernel_rfl) ⟨o0, trivial⟩ hg
theorem f81W (s : Stl) (kd : Int) {E : Env} {rv : (List Int)} (hE : PureE Try.prog 81 (.rsl (rowI rv) 0 rv.length) E)
    (h : (s.stages.length ≤ 2147483648 ∧ f81G0 E s kd (List.replicate s.stages.length (0 : Int)) 0)) : G Try.prog E [.code (bodyAt Try.prog 81)] ⟨[.agg [.rsl (rowStg s.stages) 0 s.stages.length, .rsl (rowI s.worth) 0 s.worth.length, .int .i64 s.price], .int .i64 kd] ++ unds (Try.f81.ntmps - 2), []⟩ := by
  obtain ⟨h1, h⟩ := h
  refine p81_start_0 s kd    hE ⟨by omega, by omega, by have := h1; omega⟩ ?_
  have h := (h 0)
  simp only [f81G0, f81S0, List.length_set, List.length_replicate] at h
  rw [(show (List.replicate (Int.toNat ((s.stages.length : Nat) : Int)) ([.int .i64 0] : List AV)).flatten = rowI (List.replicate s.stages.length (0 : Int)) from row_rep cI _ _)]
  exact h
theorem p81_0_0 (s : Stl) (kd : Int) (v1 : List Int) (i : Nat) (g1 : Nat) (se : Stg) (e : Int)  {E : Env} {rv : AV} (hE : PureE Try.prog 81 rv E) (o1 : (decide (((i : Nat) : Int) < ((v1.length : Nat) : Int))) = true) (o3 : 0 ≤ ((i : Nat) : Int) ∧ ((i : Nat) : Int) < ((s.stages.length : Nat) : Int)) (o4 : ((rowStg s.stages).drop ((0 + (Int.toNat ((i : Nat) : Int)) * 3) + 0)).take 1 = [.int .i64 se.kind]) (o5 : (se.kind == 4) = true) (o6 : 0 ≤ ((i : Nat) : Int) ∧ ((i : Nat) : Int) < ((s.stages.length : Nat) : Int)) (o7 : ((rowStg s.stages).drop ((0 + (Int.toNat ((i : Nat) : Int)) * 3) + 1)).take 1 = [.int .i64 se.prize]) (o8 : (se.prize == kd) = true) (o10 : 0 ≤ ((i : Nat) : Int) ∧ ((i : Nat) : Int) < ((v1.length : Nat) : Int)) (o12 : ((0 + (Int.toNat ((i : Nat) : Int)) * 1) + 1) ≤ (rowI v1).length) (o14 : InR .i64 (((i : Nat) : Int) + 1))
    (hg : G Try.prog E (f81K0 Try.prog) ⟨[.junk, .int .i64 kd, .ptr 0 0 0, .junk, .junk, .sl 1 g1 0 v1.length 1, .int .i64 (((i : Nat) : Int) + 1), .junk, .junk, .junk, .junk, .junk, .junk, .junk, .junk, .junk, .junk, .junk, .junk, .junk, .junk, .junk, .junk, .junk, .junk, .junk, .junk, .junk, .junk, .junk, .junk, .junk, .junk, .junk, .junk, .junk, .junk, .junk], [⟨true, 0, 1, true, [.rsl (rowStg s.stages) 0 s.stages.length, .rsl (rowI s.worth) 0 s.worth.length, .int .i64 s.price], false⟩, ⟨true, g1, 1, true, (setAt (rowI v1) (0 + (Int.toNat ((i : Nat) : Int)) * 1) [.int .i64 1]), true⟩]⟩) : G Try.prog E (f81K0 Try.prog) (f81S0 s kd v1 i g1) :=
  segC_step (n := 400) (ds := []) (cs := []) (live := [1, 2, 5, 6]) (m := 2) (evs := [.b true, .auto, .ld (.int .i64 se.kind), .b true, .auto, .ld (.int .i64 se.prize), .b true, .stop]) (obs := [g1 = g1, (decide (((i : Nat) : Int) < ((v1.length : Nat) : Int))) = true, 0 ≤ ((i : Nat) : Int) ∧ ((i : Nat) : Int) < ((s.stages.length : Nat) : Int), ((rowStg s.stages).drop ((0 + (Int.toNat ((i : Nat) : Int)) * 3) + 0)).take 1 = [.int .i64 se.kind], (se.kind == 4) = true, 0 ≤ ((i : Nat) : Int) ∧ ((i : Nat) : Int) < ((s.stages.length : Nat) : Int), ((rowStg s.stages).drop ((0 + (Int.toNat ((i : Nat) : Int)) * 3) + 1)).take 1 = [.int .i64 se.prize], (se.prize == kd) = true, 0 ≤ ((i : Nat) : Int) ∧ ((i : Nat) : Int) < ((v1.length : Nat) : Int), g1 = g1, ((0 + (Int.toNat ((i : Nat) : Int)) * 1) + 1) ≤ (rowI v1).length, g1 = g1, InR .i64 (((i : Nat) : Int) + 1)]) hE.2.1 (hE.nogh _) mixed (by kernel_rfl) ⟨(rfl), o1, o3, o4, o5, o6, o7, o8, o10, (rfl), o12, (rfl), o14, trivial⟩ hg
theorem p81_0_1 (s : Stl) (kd : Int) (v1 : List Int) (i : Nat) (g1 : Nat) (se : Stg)  {E : Env} {rv : AV} (hE : PureE Try.prog 81 rv E) (o1 : (decide (((i : Nat) : Int) < ((v1.length : Nat) : Int))) = true) (o3 : 0 ≤ ((i : Nat) : Int) ∧ ((i : Nat) : Int) < ((s.stages.length : Nat) : Int)) (o4 : ((rowStg s.stages).drop ((0 + (Int.toNat ((i : Nat) : Int)) * 3) + 0)).take 1 = [.int .i64 se.kind]) (o5 : (se.kind == 4) = true) (o6 : 0 ≤ ((i : Nat) : Int) ∧ ((i : Nat) : Int) < ((s.stages.length : Nat) : Int)) (o7 : ((rowStg s.stages).drop ((0 + (Int.toNat ((i : Nat) : Int)) * 3) + 1)).take 1 = [.int .i64 se.prize]) (o8 : (se.prize == kd) = false) (o9 : InR .i64 (((i : Nat) : Int) + 1))
    (hg : G Try.prog E (f81K0 Try.prog) ⟨[.junk, .int .i64 kd, .ptr 0 0 0, .junk, .junk, .sl 1 g1 0 v1.length 1, .int .i64 (((i : Nat) : Int) + 1), .junk, .junk, .junk, .junk, .junk, .junk, .junk, .junk, .junk, .junk, .junk, .junk, .junk, .junk, .junk, .junk, .junk, .junk, .junk, .junk, .junk, .junk, .junk, .junk, .junk, .junk, .junk, .junk, .junk, .junk, .junk], [⟨true, 0, 1, true, [.rsl (rowStg s.stages) 0 s.stages.length, .rsl (rowI s.worth) 0 s.worth.length, .int .i64 s.price], false⟩, ⟨true, g1, 1, true, (rowI v1), true⟩]⟩) : G Try.prog E (f81K0 Try.prog) (f81S0 s kd v1 i g1) :=
  segC_step (n := 400) (ds := []) (cs := []) (live := [1, 2, 5, 6]) (m := 2) (evs := [.b true, .auto, .ld (.int .i64 se.kind), .b true, .auto, .ld (.int .i64 se.prize), .b false, .stop]) (obs := [g1 = g1, (decide (((i : Nat) : Int) < ((v1.length : Nat) : Int))) = true, 0 ≤ ((i : Nat) : Int) ∧ ((i : Nat) : Int) < ((s.stages.length : Nat) : Int), ((rowStg s.stages).drop ((0 + (Int.toNat ((i : Nat) : Int)) * 3) + 0)).take 1 = [.int .i64 se.kind], (se.kind == 4) = true, 0 ≤ ((i : Nat) : Int) ∧ ((i : Nat) : Int) < ((s.stages.length : Nat) : Int), ((rowStg s.stages).drop ((0 + (Int.toNat ((i : Nat) : Int)) * 3) + 1)).take 1 = [.int .i64 se.prize], (se.prize == kd) = false, InR .i64 (((i : Nat) : Int) + 1)]) hE.2.1 (hE.nogh _) mixed (by kernel_rfl) ⟨(rfl), o1, o3, o4, o5, o6, o7, o8, o9, trivial⟩ hg
theorem p81_0_2 (s : Stl) (kd : Int) (v1 : List Int) (i : Nat) (g1 : Nat) (se : Stg)  {E : Env} {rv : AV} (hE : PureE Try.prog 81 rv E) (o1 : (decide (((i : Nat) : Int) < ((v1.length : Nat) : Int))) = true) (o3 : 0 ≤ ((i : Nat) : Int) ∧ ((i : Nat) : Int) < ((s.stages.length : Nat) : Int)) (o4 : ((rowStg s.stages).drop ((0 + (Int.toNat ((i : Nat) : Int)) * 3) + 0)).take 1 = [.int .i64 se.kind]) (o5 : (se.kind == 4) = false) (o7 : InR .i64 (((i : Nat) : Int) + 1))
    (hg : G Try.prog E (f81K0 Try.prog) ⟨[.junk, .int .i64 kd, .ptr 0 0 0, .junk, .junk, .sl 1 g1 0 v1.length 1, .int .i64 (((i : Nat) : Int) + 1), .junk, .junk, .junk, .junk, .junk, .junk, .junk, .junk, .junk, .junk, .junk, .junk, .junk, .junk, .junk, .junk, .junk, .junk, .junk, .junk, .junk, .junk, .junk, .junk, .junk, .junk, .junk, .junk, .junk, .junk, .junk], [⟨true, 0, 1, true, [.rsl (rowStg s.stages) 0 s.stages.length, .rsl (rowI s.worth) 0 s.worth.length, .int .i64 s.price], false⟩, ⟨true, g1, 1, true, (rowI v1), true⟩]⟩) : G Try.prog E (f81K0 Try.prog) (f81S0 s kd v1 i g1) :=
  segC_step (n := 400) (ds := []) (cs := []) (live := [1, 2, 5, 6]) (m := 2) (evs := [.b true, .auto, .ld (.int .i64 se.kind), .b false, .b false, .stop]) (obs := [g1 = g1, (decide (((i : Nat) : Int) < ((v1.length : Nat) : Int))) = true, 0 ≤ ((i : Nat) : Int) ∧ ((i : Nat) : Int) < ((s.stages.length : Nat) : Int), ((rowStg s.stages).drop ((0 + (Int.toNat ((i : Nat) : Int)) * 3) + 0)).take 1 = [.int .i64 se.kind], (se.kind == 4) = false, false = false, InR .i64 (((i : Nat) : Int) + 1)]) hE.2.1 (hE.nogh _) mixed (by kernel_rfl) ⟨(rfl), o1, o3, o4, o5, (rfl), o7, trivial⟩ hg
theorem p81_0_3 (s : Stl) (kd : Int) (v1 : List Int) (i : Nat) (g1 : Nat)  {E : Env} {res : AV} (hE : PureE Try.prog 81 res E) (o1 : (decide (((i : Nat) : Int) < ((v1.length : Nat) : Int))) = false)
    (hr : AvLe (.rsl (rowI v1) 0 v1.length) res) : G Try.prog E (f81K0 Try.prog) (f81S0 s kd v1 i g1) :=
  end_stepL (n := 400) (evs := [.b false]) (obs := [g1 = g1, (decide (((i : Nat) : Int) < ((v1.length : Nat) : Int))) = false, g1 = g1]) hE Try.func81 mixed (by kernel_rfl) ⟨(rfl), o1, (rfl), trivial⟩ hr
theorem f81W0 (s : Stl) (kd : Int) (v1 : List Int) (i : Nat) {E : Env} {rv : (List Int)} (hE : PureE Try.prog 81 (.rsl (rowI rv) 0 rv.length) E)
    (h : ((((i : Nat) : Int) < ((v1.length : Nat) : Int) → (∃ se : Stg, s.stages[i]? = some se ∧ ((se.kind = 4 → ((se.prize = kd → (∃ e : Int, v1[i]? = some e ∧ ((-9223372036854775808 ≤ ((i : Nat) : Int) + 1 ∧ ((i : Nat) : Int) + 1 ≤ 9223372036854775807) ∧ f81G0 E s kd (v1.set i 1) (i + 1)))) ∧ (¬ (se.prize = kd) → ((-9223372036854775808 ≤ ((i : Nat) : Int) + 1 ∧ ((i : Nat) : Int) + 1 ≤ 9223372036854775807) ∧ f81G0 E s kd v1 (i + 1))))) ∧ (¬ (se.kind = 4) → ((-9223372036854775808 ≤ ((i : Nat) : Int) + 1 ∧ ((i : Nat) : Int) + 1 ≤ 9223372036854775807) ∧ f81G0 E s kd v1 (i + 1)))))) ∧ (¬ (((i : Nat) : Int) < ((v1.length : Nat) : Int)) → rv = v1))) : f81G0 E s kd v1 i := by
  intro g1
  rcases Bool.eq_false_or_eq_true (decide (((i : Nat) : Int) < ((v1.length : Nat) : Int))) with hc0 | hc0
  · have h := h.1 (of_decide_eq_true hc0)
    obtain ⟨se, h1, h⟩ := h
    rcases Bool.eq_false_or_eq_true (se.kind == 4) with hc1 | hc1
    · have h := h.1 (eq_of_beq hc1)
      rcases Bool.eq_false_or_eq_true (se.prize == kd) with hc2 | hc2
      · have h := h.1 (eq_of_beq hc2)
        obtain ⟨e, h2, h⟩ := h
        obtain ⟨q14_3, h⟩ := h
        refine p81_0_0 s kd v1 i g1 se e hE hc0 (idx_ok h1) (row_part cStg (s := 3) (k := 0) (m := 1) (fun _ => rfl) (by decide) h1) hc1 (idx_ok h1) (row_part cStg (s := 3) (k := 1) (m := 1) (fun _ => rfl) (by decide) h1) hc2 (idx_ok h2) (row_fits cI (s := 1) (k := 0) (m := 1) (fun _ => rfl) (by decide) h2) q14_3 ?_
        have h := (h g1)
        simp only [f81S0, List.length_set] at h
        rw [(show setAt (rowI v1) (0 + (Int.toNat ((i : Nat) : Int)) * 1) [.int .i64 1] = rowI (v1.set i 1) from row_set cI (s := 1) (k := 0) (fun _ => rfl) h2 rfl (by first | decide | simp))]
        exact h
      · have h := h.2 (ne_of_beq_false hc2)
        obtain ⟨q9_3, h⟩ := h
        exact p81_0_1 s kd v1 i g1 se hE hc0 (idx_ok h1) (row_part cStg (s := 3) (k := 0) (m := 1) (fun _ => rfl) (by decide) h1) hc1 (idx_ok h1) (row_part cStg (s := 3) (k := 1) (m := 1) (fun _ => rfl) (by decide) h1) hc2 q9_3 (h g1)
    · have h := h.2 (ne_of_beq_false hc1)
      obtain ⟨q7_2, h⟩ := h
      exact p81_0_2 s kd v1 i g1 se hE hc0 (idx_ok h1) (row_part cStg (s := 3) (k := 0) (m := 1) (fun _ => rfl) (by decide) h1) hc1 q7_2 (h g1)
  · have h := h.2 (of_decide_eq_false hc0)
    exact p81_0_3 s kd v1 i g1  hE hc0 (AvLe.of_eq (by rw [h]; try rfl))
theorem f79b : Try.f79.body = some (bodyAt Try.prog 79) := by kernel_rfl
theorem p79_start_0 (s : Stl) (n : Int)  (e : Int)  {E : Env} {res : AV} (hE : PureE Try.prog 79 res E) (o0 : PureF Try.prog (.clos 51 [] []) [.agg [.rsl (rowStg s.stages) 0 s.stages.length, .rsl (rowI s.worth) 0 s.worth.length, .int .i64 s.price]] (.tup [.rsl (rowI ((measR (measA s)).1)) 0 (((measR (measA s)).1).length), .bool ((measR (measA s)).2)])) (o2 : (0 : Int) ≤ 0 ∧ (0 : Int) < ((((measR (measA s)).1).length : Nat) : Int)) (o3 : ((rowI ((measR (measA s)).1)).drop (0 + 0 * 1)).take 1 = [.int .i64 e]) (o4 : InR .i64 (0 - n)) (o5 : PureF Try.prog (.clos 49 [] []) [.int .i64 e, .int .i64 (iMax n (0 - n))] (.int .i64 (gcdI e (iMax n (0 - n))))) (o6 : InR .i64 (Int.tdiv n (gcdI e (iMax n (0 - n))))) (o7 : (gcdI e (iMax n (0 - n))) ≠ 0) (o8 : (0 : Int) ≤ 0 ∧ (0 : Int) < ((((measR (measA s)).1).length : Nat) : Int)) (o9 : ((rowI ((measR (measA s)).1)).drop (0 + 0 * 1)).take 1 = [.int .i64 e]) (o10 : InR .i64 (Int.tdiv e (gcdI e (iMax n (0 - n))))) (o11 : (gcdI e (iMax n (0 - n))) ≠ 0)
    (hr : AvLe (.agg [.int .i64 (Int.tdiv n (gcdI e (iMax n (0 - n)))), .int .i64 (Int.tdiv e (gcdI e (iMax n (0 - n))))]) res) : G Try.prog E [.code (bodyAt Try.prog 79)] ⟨[.agg [.rsl (rowStg s.stages) 0 s.stages.length, .rsl (rowI s.worth) 0 s.worth.length, .int .i64 s.price], .int .i64 n] ++ unds (Try.f79.ntmps - 2), []⟩ :=
  end_stepL (n := 400) (evs := [.v (.tup [.rsl (rowI ((measR (measA s)).1)) 0 (((measR (measA s)).1).length), .bool ((measR (measA s)).2)]), .ld (.int .i64 e), .v (.int .i64 (gcdI e (iMax n (0 - n)))), .ld (.int .i64 e)]) (obs := [PureF Try.prog (.clos 51 [] []) [.agg [.rsl (rowStg s.stages) 0 s.stages.length, .rsl (rowI s.worth) 0 s.worth.length, .int .i64 s.price]] (.tup [.rsl (rowI ((measR (measA s)).1)) 0 (((measR (measA s)).1).length), .bool ((measR (measA s)).2)]), (0 : Int) ≤ 0 ∧ (0 : Int) < ((((measR (measA s)).1).length : Nat) : Int), ((rowI ((measR (measA s)).1)).drop (0 + 0 * 1)).take 1 = [.int .i64 e], InR .i64 (0 - n), PureF Try.prog (.clos 49 [] []) [.int .i64 e, .int .i64 (iMax n (0 - n))] (.int .i64 (gcdI e (iMax n (0 - n)))), InR .i64 (Int.tdiv n (gcdI e (iMax n (0 - n)))), (gcdI e (iMax n (0 - n))) ≠ 0, (0 : Int) ≤ 0 ∧ (0 : Int) < ((((measR (measA s)).1).length : Nat) : Int), ((rowI ((measR (measA s)).1)).drop (0 + 0 * 1)).take 1 = [.int .i64 e], InR .i64 (Int.tdiv e (gcdI e (iMax n (0 - n)))), (gcdI e (iMax n (0 - n))) ≠ 0, 2 ≤ 2]) hE Try.func79 mixed (by kernel_rfl) ⟨o0, o2, o3, o4, o5, o6, o7, o8, o9, o10, o11, (by decide), trivial⟩ hr
theorem f79W (s : Stl) (n : Int) {E : Env} {rv : Fr} (hE : PureE Try.prog 79 (.agg [.int .i64 rv.num, .int .i64 rv.den]) E)
    (h : ((s.stages.length ≤ 1000000 ∧ ∀ i, i < s.stages.length → formI s i = true) ∧ (∃ e : Int, ((measR (measA s)).1)[0]? = some e ∧ ((-9223372036854775808 ≤ 0 - n ∧ 0 - n ≤ 9223372036854775807) ∧ ((0 ≤ e ∧ 0 ≤ (iMax n (0 - n))) ∧ ((-9223372036854775808 ≤ Int.tdiv n (gcdI e (iMax n (0 - n))) ∧ Int.tdiv n (gcdI e (iMax n (0 - n))) ≤ 9223372036854775807) ∧ ((gcdI e (iMax n (0 - n))) ≠ 0 ∧ ((-9223372036854775808 ≤ Int.tdiv e (gcdI e (iMax n (0 - n))) ∧ Int.tdiv e (gcdI e (iMax n (0 - n))) ≤ 9223372036854775807) ∧ ((gcdI e (iMax n (0 - n))) ≠ 0 ∧ rv = (⟨(Int.tdiv n (gcdI e (iMax n (0 - n)))), (Int.tdiv e (gcdI e (iMax n (0 - n))))⟩ : Fr)))))))))) : G Try.prog E [.code (bodyAt Try.prog 79)] ⟨[.agg [.rsl (rowStg s.stages) 0 s.stages.length, .rsl (rowI s.worth) 0 s.worth.length, .int .i64 s.price], .int .i64 n] ++ unds (Try.f79.ntmps - 2), []⟩ := by
  obtain ⟨h1, h⟩ := h
  obtain ⟨e, h2, h⟩ := h
  obtain ⟨q4_0, h⟩ := h
  obtain ⟨h3, h⟩ := h
  obtain ⟨q6_0, h⟩ := h
  obtain ⟨q7_0, h⟩ := h
  obtain ⟨q10_0, h⟩ := h
  obtain ⟨q11_0, h⟩ := h
  exact p79_start_0 s n   e hE (pureF_of Try.func51 (by kernel_rfl) f51b (measures_ok s h1)) (idx_ok h2) (row_part cI (s := 1) (k := 0) (m := 1) (fun _ => rfl) (by decide) h2) q4_0 (pureF_of Try.func49 (by kernel_rfl) f49b (gcd_ok e (iMax n (0 - n)) h3)) q6_0 q7_0 (idx_ok h2) (row_part cI (s := 1) (k := 0) (m := 1) (fun _ => rfl) (by decide) h2) q10_0 q11_0 (AvLe.of_eq (by rw [h]; try rfl))

theorem won_ok (s : Stl) (kd : Int) (h : checkK s = 0 ∧ 0 ≤ kd) : Pure Try.prog 81 [.agg [.rsl (rowStg s.stages) 0 s.stages.length, .rsl (rowI s.worth) 0 s.worth.length, .int .i64 s.price], .int .i64 kd] (.rsl (rowI (endsI s (onlyI kd))) 0 (endsI s (onlyI kd)).length) := pure_of Try.func81 f81b fun E hE => by
  obtain ⟨hm, es⟩ := mok_G (isSome_of h.1)
  have hn := (stPre_of hm.st).1
  rw [es] at hn
  have key : ∀ (d i : Nat) (v : List Int), i + d = s.stages.length → v.length = s.stages.length → (∀ j, j < i → v[j]? = (endsI s (onlyI kd))[j]?) → (∀ j, i ≤ j → j < s.stages.length → v[j]? = some 0) → f81G0 E s kd v i := by
    intro d
    induction d with
    | zero =>
      intro i v hd hl h1 h2
      refine f81W0 s kd v i (rv := endsI s (onlyI kd)) hE ⟨fun h => by omega, fun _ => ?_⟩
      apply List.ext_getElem?
      intro j
      by_cases hj : j < i
      · exact (h1 j hj).symm
      · rw [List.getElem?_eq_none (by rw [ends_len]; omega), List.getElem?_eq_none (by omega)]
    | succ d ih =>
      intro i v hd hl h1 h2
      have hi : s.stages[i]? = some s.stages[i] := List.getElem?_eq_getElem (by omega)
      have he := ends_at (w := onlyI kd) hi
      generalize s.stages[i] = x at hi he
      have hv := h2 i (Nat.le_refl _) (by omega)
      have nx := fun (v' : List Int) (e : v' = v.set i (if x.kind = 4 ∧ x.prize ≥ 0 then onlyI kd x.prize else 0)) => ih (i + 1) v' (by omega) (by rw [e]; simp [hl]) (fun j hj => by
        rw [e]
        by_cases e2 : i = j
        · subst e2; rw [List.getElem?_set_self (by omega), he]
        · rw [List.getElem?_set_ne e2]; exact h1 j (by omega)) (fun j hj hj2 => by rw [e, List.getElem?_set_ne (by omega)]; exact h2 j (by omega) hj2)
      refine f81W0 s kd v i (rv := endsI s (onlyI kd)) hE ⟨fun _ => ⟨x, hi, fun h4 => ⟨fun hk => ⟨0, hv, by omega, nx _ ?_⟩, fun hk => ⟨by omega, nx _ ?_⟩⟩, fun h4 => ⟨by omega, nx _ ?_⟩⟩, fun h => by omega⟩
      · rw [if_pos ⟨h4, by omega⟩, onlyI, if_pos hk]
      · rw [onlyI, if_neg hk]; simp [set_same hv]
      · rw [if_neg (fun h => h4 h.1), set_same hv]
  exact f81W s kd (rv := endsI s (onlyI kd)) hE ⟨by omega, key s.stages.length 0 _ (by omega) (by simp) (fun j hj => by omega) (fun j _ hj => by rw [List.getElem?_replicate, if_pos hj])⟩
theorem lowest_ok (s : Stl) (n : Int) (h : checkK s = 0 ∧ -100000000000000000 ≤ n ∧ n ≤ 100000000000000000) : Pure Try.prog 79 [.agg [.rsl (rowStg s.stages) 0 s.stages.length, .rsl (rowI s.worth) 0 s.worth.length, .int .i64 s.price], .int .i64 n] (.agg [.int .i64 (fracI n ((machG s).meas.getD 0 0)).num, .int .i64 (fracI n ((machG s).meas.getD 0 0)).den]) := pure_of Try.func79 f79b fun E hE => by
  obtain ⟨hm, es⟩ := mok_G (isSome_of h.1)
  have hn := (stPre_of hm.st).1
  have hform := (stPre_of hm.st).2.2.2.2
  rw [es] at hn hform
  obtain ⟨u, hu, hu1, hu2⟩ := meas0 hm
  have h0 : 0 ≤ iMax n (0 - n) := by unfold iMax; split <;> omega
  have hg := gcd_pos hu1 h0
  have b1 := tdiv_bd (g := gcdI u (iMax n (0 - n))) (by omega) h.2.1 h.2.2
  have b2 := tdiv_bd (n := u) (B := 1000000000000) (g := gcdI u (iMax n (0 - n))) (by omega) (by omega) (by omega)
  refine f79W s n (rv := fracI n ((machG s).meas.getD 0 0)) hE ⟨⟨by omega, hform⟩, u, by rw [measR_of (isSome_of h.1)]; exact hu, by omega, ⟨by omega, h0⟩, by omega, by omega, by omega, by omega, ?_⟩
  rw [getD_of hu]; exact (low_eq hu1).symm

theorem f80pb : Try.f80.body = some (bodyAt Try.prog 80) := by kernel_rfl
def f80pK0 (P : Program) : List Item := kAt 400 [.code (bodyAt P 80)] [.stop]
def f80pS0 (s : Stl) (ends : (List Int)) (pa : Int) (oa : Int) (plan : (List Int)) (v1 : List Int) (i : Int) (g1 : Nat) : St := ⟨[.junk, .rsl (rowI ends) 0 ends.length, .int .i64 pa, .int .i64 oa, .rsl (rowI plan) 0 plan.length, .ptr 0 0 0, .junk, .junk, .junk, .junk, .junk, .rsl (rowI ((measR (measA s)).1)) 0 (((measR (measA s)).1).length), .junk, .sl 1 g1 0 v1.length 1, .int .i64 i, .junk, .junk, .junk, .junk, .junk, .junk, .junk, .junk, .junk, .junk, .junk, .junk, .junk, .junk, .junk, .junk, .junk, .junk, .junk, .junk, .junk, .junk, .junk, .junk, .junk, .junk, .junk, .junk, .junk, .junk, .junk, .junk, .junk, .junk, .junk, .junk, .junk, .junk, .junk, .junk, .junk, .junk, .junk, .junk, .junk, .junk, .junk, .junk, .junk, .junk, .junk, .junk, .junk, .junk, .junk, .junk, .junk, .junk, .junk, .junk, .junk, .junk, .junk, .junk, .junk, .junk, .junk, .junk, .junk, .junk, .junk, .junk, .junk, .junk, .junk, .junk, .junk, .junk, .junk, .junk, .junk, .junk, .junk, .junk, .junk, .junk, .junk, .junk, .junk, .junk, .junk, .junk, .junk, .junk, .junk, .junk, .junk, .junk, .junk, .junk, .junk, .junk, .junk, .junk, .junk, .junk, .junk, .junk, .junk, .junk, .junk, .junk, .junk, .junk, .junk, .junk, .junk, .junk, .junk, .junk, .junk, .junk, .junk, .junk, .junk, .junk, .junk, .junk, .junk, .junk, .junk, .junk, .junk, .junk, .junk, .junk, .junk], [⟨true, 0, 1, true, [.rsl (rowStg s.stages) 0 s.stages.length, .rsl (rowI s.worth) 0 s.worth.length, .int .i64 s.price], false⟩, ⟨true, g1, 1, true, (rowI v1), true⟩]⟩
def f80pG0 (E : Env) (s : Stl) (ends : (List Int)) (pa : Int) (oa : Int) (plan : (List Int)) (v1 : List Int) (i : Int) : Prop := ∀ g1 : Nat, G Try.prog E (f80pK0 Try.prog) (f80pS0 s ends pa oa plan v1 i g1)
def f80pK1 (P : Program) : List Item := kAt 400 [.code (bodyAt P 80)] [.b true, .b false, .b true, .stop]
def f80pS1 (s : Stl) (ends : (List Int)) (pa : Int) (oa : Int) (plan : (List Int)) (i : Int) (all : Int) (v1 : List Int) (v2_0 : Int) (v2_1 : Int) (v2_2 : (List Trn)) (k : Nat) (g1 : Nat) : St := ⟨[.junk, .rsl (rowI ends) 0 ends.length, .int .i64 pa, .int .i64 oa, .rsl (rowI plan) 0 plan.length, .ptr 0 0 0, .junk, .junk, .junk, .junk, .junk, .rsl (rowI ((measR (measA s)).1)) 0 (((measR (measA s)).1).length), .junk, .sl 1 g1 0 v1.length 1, .int .i64 i, .ptr 2 0 0, .int .i64 all, .int .i64 ((k : Nat) : Int), .junk, .junk, .junk, .junk, .junk, .junk, .junk, .junk, .junk, .junk, .junk, .junk, .junk, .junk, .junk, .junk, .junk, .junk, .junk, .junk, .junk, .junk, .junk, .junk, .junk, .junk, .junk, .junk, .junk, .junk, .junk, .junk, .junk, .junk, .junk, .junk, .junk, .junk, .junk, .junk, .junk, .junk, .junk, .junk, .junk, .junk, .junk, .junk, .junk, .junk, .junk, .junk, .junk, .junk, .junk, .junk, .junk, .junk, .junk, .junk, .junk, .junk, .junk, .junk, .junk, .junk, .junk, .junk, .junk, .junk, .junk, .junk, .junk, .junk, .junk, .junk, .junk, .junk, .junk, .junk, .junk, .junk, .junk, .junk, .junk, .junk, .junk, .junk, .junk, .junk, .junk, .junk, .junk, .junk, .junk, .junk, .junk, .junk, .junk, .junk, .junk, .junk, .junk, .junk, .junk, .junk, .junk, .junk, .junk, .junk, .junk, .junk, .junk, .junk, .junk, .junk, .junk, .junk, .junk, .junk, .junk, .junk, .junk, .junk, .junk, .junk, .junk, .junk, .junk, .junk, .junk, .junk, .junk, .junk], [⟨true, 0, 1, true, [.rsl (rowStg s.stages) 0 s.stages.length, .rsl (rowI s.worth) 0 s.worth.length, .int .i64 s.price], false⟩, ⟨true, g1, 1, true, (rowI v1), true⟩, ⟨true, 0, 1, true, [.int .i64 v2_0, .int .i64 v2_1, .rsl (rowTrn v2_2) 0 v2_2.length], false⟩]⟩
def f80pG1 (E : Env) (s : Stl) (ends : (List Int)) (pa : Int) (oa : Int) (plan : (List Int)) (i : Int) (all : Int) (v1 : List Int) (v2_0 : Int) (v2_1 : Int) (v2_2 : (List Trn)) (k : Nat) : Prop := ∀ g1 : Nat, G Try.prog E (f80pK1 Try.prog) (f80pS1 s ends pa oa plan i all v1 v2_0 v2_1 v2_2 k g1)
theorem p80p_start_0 (s : Stl) (ends : (List Int)) (pa : Int) (oa : Int) (plan : (List Int))   {E : Env} {rv : AV} (hE : PureE Try.prog 80 rv E) (o0 : PureF Try.prog (.clos 51 [] []) [.agg [.rsl (rowStg s.stages) 0 s.stages.length, .rsl (rowI s.worth) 0 s.worth.length, .int .i64 s.price]] (.tup [.rsl (rowI ((measR (measA s)).1)) 0 (((measR (measA s)).1).length), .bool ((measR (measA s)).2)])) (o1 : 0 ≤ ((s.stages.length : Nat) : Int) ∧ ((s.stages.length : Nat) : Int) ≤ ((s.stages.length : Nat) : Int) ∧ ((s.stages.length : Nat) : Int) ≤ 2147483648) (o3 : InR .i64 ((((Int.toNat ((s.stages.length : Nat) : Int)) : Nat) : Int) - 1))
    (hg : G Try.prog E (f80pK0 Try.prog) ⟨[.junk, .rsl (rowI ends) 0 ends.length, .int .i64 pa, .int .i64 oa, .rsl (rowI plan) 0 plan.length, .ptr 0 0 0, .junk, .junk, .junk, .junk, .junk, .rsl (rowI ((measR (measA s)).1)) 0 (((measR (measA s)).1).length), .junk, .sl 1 0 0 (Int.toNat ((s.stages.length : Nat) : Int)) 1, .int .i64 ((((Int.toNat ((s.stages.length : Nat) : Int)) : Nat) : Int) - 1), .junk, .junk, .junk, .junk, .junk, .junk, .junk, .junk, .junk, .junk, .junk, .junk, .junk, .junk, .junk, .junk, .junk, .junk, .junk, .junk, .junk, .junk, .junk, .junk, .junk, .junk, .junk, .junk, .junk, .junk, .junk, .junk, .junk, .junk, .junk, .junk, .junk, .junk, .junk, .junk, .junk, .junk, .junk, .junk, .junk, .junk, .junk, .junk, .junk, .junk, .junk, .junk, .junk, .junk, .junk, .junk, .junk, .junk, .junk, .junk, .junk, .junk, .junk, .junk, .junk, .junk, .junk, .junk, .junk, .junk, .junk, .junk, .junk, .junk, .junk, .junk, .junk, .junk, .junk, .junk, .junk, .junk, .junk, .junk, .junk, .junk, .junk, .junk, .junk, .junk, .junk, .junk, .junk, .junk, .junk, .junk, .junk, .junk, .junk, .junk, .junk, .junk, .junk, .junk, .junk, .junk, .junk, .junk, .junk, .junk, .junk, .junk, .junk, .junk, .junk, .junk, .junk, .junk, .junk, .junk, .junk, .junk, .junk, .junk, .junk, .junk, .junk, .junk, .junk, .junk, .junk, .junk, .junk, .junk, .junk, .junk, .junk], [⟨true, 0, 1, true, [.rsl (rowStg s.stages) 0 s.stages.length, .rsl (rowI s.worth) 0 s.worth.length, .int .i64 s.price], false⟩, ⟨true, 0, 1, true, ((List.replicate (Int.toNat ((s.stages.length : Nat) : Int)) ([.int .i64 0] : List AV)).flatten), true⟩]⟩) : G Try.prog E [.code (bodyAt Try.prog 80)] ⟨[.agg [.rsl (rowStg s.stages) 0 s.stages.length, .rsl (rowI s.worth) 0 s.worth.length, .int .i64 s.price], .rsl (rowI ends) 0 ends.length, .int .i64 pa, .int .i64 oa, .rsl (rowI plan) 0 plan.length] ++ unds (Try.f80.ntmps - 5), []⟩ :=
  segC_step (n := 400) (ds := []) (cs := []) (live := [1, 2, 3, 4, 5, 11, 13, 14]) (m := 2) (evs := [.v (.tup [.rsl (rowI ((measR (measA s)).1)) 0 (((measR (measA s)).1).length), .bool ((measR (measA s)).2)]), .stop]) (obs := [PureF Try.prog (.clos 51 [] []) [.agg [.rsl (rowStg s.stages) 0 s.stages.length, .rsl (rowI s.worth) 0 s.worth.length, .int .i64 s.price]] (.tup [.rsl (rowI ((measR (measA s)).1)) 0 (((measR (measA s)).1).length), .bool ((measR (measA s)).2)]), 0 ≤ ((s.stages.length : Nat) : Int) ∧ ((s.stages.length : Nat) : Int) ≤ ((s.stages.length : Nat) : Int) ∧ ((s.stages.length : Nat) : Int) ≤ 2147483648, 0 = 0, InR .i64 ((((Int.toNat ((s.stages.length : Nat) : Int)) : Nat) : Int) - 1)]) hE.2.1 (hE.nogh _) mixed (by kernel_rfl) ⟨o0, o1, (rfl), o3, trivial⟩ hg
theorem f80pW (s : Stl) (ends : (List Int)) (pa : Int) (oa : Int) (plan : (List Int)) {E : Env} {rv : (List Int)} (hE : PureE Try.prog 80 (.rsl (rowI rv) 0 rv.length) E)
    (h : ((s.stages.length ≤ 1000000 ∧ ∀ i, i < s.stages.length → formI s i = true) ∧ (s.stages.length ≤ 2147483648 ∧ ((-9223372036854775808 ≤ (((Int.toNat ((s.stages.length : Nat) : Int)) : Nat) : Int) - 1 ∧ (((Int.toNat ((s.stages.length : Nat) : Int)) : Nat) : Int) - 1 ≤ 9223372036854775807) ∧ f80pG0 E s ends pa oa plan (List.replicate s.stages.length (0 : Int)) ((((Int.toNat ((s.stages.length : Nat) : Int)) : Nat) : Int) - 1))))) : G Try.prog E [.code (bodyAt Try.prog 80)] ⟨[.agg [.rsl (rowStg s.stages) 0 s.stages.length, .rsl (rowI s.worth) 0 s.worth.length, .int .i64 s.price], .rsl (rowI ends) 0 ends.length, .int .i64 pa, .int .i64 oa, .rsl (rowI plan) 0 plan.length] ++ unds (Try.f80.ntmps - 5), []⟩ := by
  obtain ⟨h1, h⟩ := h
  obtain ⟨h2, h⟩ := h
  obtain ⟨q3_0, h⟩ := h
  refine p80p_start_0 s ends pa oa plan    hE (pureF_of Try.func51 (by kernel_rfl) f51b (measures_ok s h1)) ⟨by omega, by omega, by have := h2; omega⟩ q3_0 ?_
  have h := (h 0)
  simp only [f80pG0, f80pS0, List.length_set, List.length_replicate] at h
  rw [(show (List.replicate (Int.toNat ((s.stages.length : Nat) : Int)) ([.int .i64 0] : List AV)).flatten = rowI (List.replicate s.stages.length (0 : Int)) from row_rep cI _ _)]
  exact h
theorem p80p_0_0 (s : Stl) (ends : (List Int)) (pa : Int) (oa : Int) (plan : (List Int)) (v1 : List Int) (i : Int) (g1 : Nat) (se : Stg) (e : Int) (e1 : Int)  {E : Env} {rv : AV} (hE : PureE Try.prog 80 rv E) (o0 : (decide (i ≥ 0)) = true) (o2 : 0 ≤ i ∧ i < ((s.stages.length : Nat) : Int)) (o3 : ((rowStg s.stages).drop (0 + (Int.toNat i) * 3)).take 3 = [.int .i64 se.kind, .int .i64 se.prize, .rsl (rowTrn se.turns) 0 se.turns.length]) (o5 : (se.kind == 4) = true) (o7 : 0 ≤ i ∧ i < ((ends.length : Nat) : Int)) (o8 : ((rowI ends).drop (0 + (Int.toNat i) * 1)).take 1 = [.int .i64 e]) (o10 : 0 ≤ i ∧ i < ((v1.length : Nat) : Int)) (o12 : ((0 + (Int.toNat i) * 1) + 1) ≤ (rowI v1).length) (o14 : InR .i64 (i - 1))
    (hg : G Try.prog E (f80pK0 Try.prog) ⟨[.junk, .rsl (rowI ends) 0 ends.length, .int .i64 pa, .int .i64 oa, .rsl (rowI plan) 0 plan.length, .ptr 0 0 0, .junk, .junk, .junk, .junk, .junk, .rsl (rowI ((measR (measA s)).1)) 0 (((measR (measA s)).1).length), .junk, .sl 1 g1 0 v1.length 1, .int .i64 (i - 1), .junk, .junk, .junk, .junk, .junk, .junk, .junk, .junk, .junk, .junk, .junk, .junk, .junk, .junk, .junk, .junk, .junk, .junk, .junk, .junk, .junk, .junk, .junk, .junk, .junk, .junk, .junk, .junk, .junk, .junk, .junk, .junk, .junk, .junk, .junk, .junk, .junk, .junk, .junk, .junk, .junk, .junk, .junk, .junk, .junk, .junk, .junk, .junk, .junk, .junk, .junk, .junk, .junk, .junk, .junk, .junk, .junk, .junk, .junk, .junk, .junk, .junk, .junk, .junk, .junk, .junk, .junk, .junk, .junk, .junk, .junk, .junk, .junk, .junk, .junk, .junk, .junk, .junk, .junk, .junk, .junk, .junk, .junk, .junk, .junk, .junk, .junk, .junk, .junk, .junk, .junk, .junk, .junk, .junk, .junk, .junk, .junk, .junk, .junk, .junk, .junk, .junk, .junk, .junk, .junk, .junk, .junk, .junk, .junk, .junk, .junk, .junk, .junk, .junk, .junk, .junk, .junk, .junk, .junk, .junk, .junk, .junk, .junk, .junk, .junk, .junk, .junk, .junk, .junk, .junk, .junk, .junk, .junk, .junk, .junk, .junk, .junk], [⟨true, 0, 1, true, [.rsl (rowStg s.stages) 0 s.stages.length, .rsl (rowI s.worth) 0 s.worth.length, .int .i64 s.price], false⟩, ⟨true, g1, 1, true, (setAt (rowI v1) (0 + (Int.toNat i) * 1) [.int .i64 e]), true⟩]⟩) : G Try.prog E (f80pK0 Try.prog) (f80pS0 s ends pa oa plan v1 i g1) :=
  segC_step (n := 400) (ds := []) (cs := []) (live := [1, 2, 3, 4, 5, 11, 13, 14]) (m := 2) (evs := [.b true, .auto, .ld (.agg [.int .i64 se.kind, .int .i64 se.prize, .rsl (rowTrn se.turns) 0 se.turns.length]), .b true, .ld (.int .i64 e), .stop]) (obs := [(decide (i ≥ 0)) = true, 0 ≤ i ∧ i < ((s.stages.length : Nat) : Int), ((rowStg s.stages).drop (0 + (Int.toNat i) * 3)).take 3 = [.int .i64 se.kind, .int .i64 se.prize, .rsl (rowTrn se.turns) 0 se.turns.length], 3 ≤ 3, (se.kind == 4) = true, 0 ≤ i ∧ i < ((ends.length : Nat) : Int), ((rowI ends).drop (0 + (Int.toNat i) * 1)).take 1 = [.int .i64 e], 0 ≤ i ∧ i < ((v1.length : Nat) : Int), g1 = g1, ((0 + (Int.toNat i) * 1) + 1) ≤ (rowI v1).length, g1 = g1, InR .i64 (i - 1)]) hE.2.1 (hE.nogh _) mixed (by kernel_rfl) ⟨o0, o2, o3, (by decide), o5, o7, o8, o10, (rfl), o12, (rfl), o14, trivial⟩ hg
theorem p80p_0_1 (s : Stl) (ends : (List Int)) (pa : Int) (oa : Int) (plan : (List Int)) (v1 : List Int) (i : Int) (g1 : Nat) (se : Stg) (e : Int)  {E : Env} {rv : AV} (hE : PureE Try.prog 80 rv E) (o0 : (decide (i ≥ 0)) = true) (o2 : 0 ≤ i ∧ i < ((s.stages.length : Nat) : Int)) (o3 : ((rowStg s.stages).drop (0 + (Int.toNat i) * 3)).take 3 = [.int .i64 se.kind, .int .i64 se.prize, .rsl (rowTrn se.turns) 0 se.turns.length]) (o5 : (se.kind == 4) = false) (o7 : 0 ≤ i ∧ i < ((((measR (measA s)).1).length : Nat) : Int)) (o8 : ((rowI ((measR (measA s)).1)).drop (0 + (Int.toNat i) * 1)).take 1 = [.int .i64 e]) (o9 : (se.kind == 1) = true) (o10 : PureF Try.prog (.clos 100 [] []) [.agg [.int .i64 se.kind, .int .i64 se.prize, .rsl (rowTrn se.turns) 0 se.turns.length]] (.int .i64 (totI se))) (o11 : InR .i64 (Int.tdiv e (totI se))) (o12 : (totI se) ≠ 0)
    (hg : G Try.prog E (f80pK1 Try.prog) ⟨[.junk, .rsl (rowI ends) 0 ends.length, .int .i64 pa, .int .i64 oa, .rsl (rowI plan) 0 plan.length, .ptr 0 0 0, .junk, .junk, .junk, .junk, .junk, .rsl (rowI ((measR (measA s)).1)) 0 (((measR (measA s)).1).length), .junk, .sl 1 g1 0 v1.length 1, .int .i64 i, .ptr 2 0 0, .int .i64 (Int.tdiv e (totI se)), .int .i64 0, .junk, .junk, .junk, .junk, .junk, .junk, .junk, .junk, .junk, .junk, .junk, .junk, .junk, .junk, .junk, .junk, .junk, .junk, .junk, .junk, .junk, .junk, .junk, .junk, .junk, .junk, .junk, .junk, .junk, .junk, .junk, .junk, .junk, .junk, .junk, .junk, .junk, .junk, .junk, .junk, .junk, .junk, .junk, .junk, .junk, .junk, .junk, .junk, .junk, .junk, .junk, .junk, .junk, .junk, .junk, .junk, .junk, .junk, .junk, .junk, .junk, .junk, .junk, .junk, .junk, .junk, .junk, .junk, .junk, .junk, .junk, .junk, .junk, .junk, .junk, .junk, .junk, .junk, .junk, .junk, .junk, .junk, .junk, .junk, .junk, .junk, .junk, .junk, .junk, .junk, .junk, .junk, .junk, .junk, .junk, .junk, .junk, .junk, .junk, .junk, .junk, .junk, .junk, .junk, .junk, .junk, .junk, .junk, .junk, .junk, .junk, .junk, .junk, .junk, .junk, .junk, .junk, .junk, .junk, .junk, .junk, .junk, .junk, .junk, .junk, .junk, .junk, .junk, .junk, .junk, .junk, .junk, .junk, .junk], [⟨true, 0, 1, true, [.rsl (rowStg s.stages) 0 s.stages.length, .rsl (rowI s.worth) 0 s.worth.length, .int .i64 s.price], false⟩, ⟨true, g1, 1, true, (rowI v1), true⟩, ⟨true, 0, 1, true, [.int .i64 se.kind, .int .i64 se.prize, .rsl (rowTrn se.turns) 0 se.turns.length], false⟩]⟩) : G Try.prog E (f80pK0 Try.prog) (f80pS0 s ends pa oa plan v1 i g1) :=
  segC_step (n := 400) (ds := []) (cs := []) (live := [1, 2, 3, 4, 5, 11, 13, 14, 15, 16, 17]) (m := 3) (evs := [.b true, .auto, .ld (.agg [.int .i64 se.kind, .int .i64 se.prize, .rsl (rowTrn se.turns) 0 se.turns.length]), .b false, .ld (.int .i64 e), .b true, .v (.int .i64 (totI se)), .stop]) (obs := [(decide (i ≥ 0)) = true, 0 ≤ i ∧ i < ((s.stages.length : Nat) : Int), ((rowStg s.stages).drop (0 + (Int.toNat i) * 3)).take 3 = [.int .i64 se.kind, .int .i64 se.prize, .rsl (rowTrn se.turns) 0 se.turns.length], 3 ≤ 3, (se.kind == 4) = false, 0 ≤ i ∧ i < ((((measR (measA s)).1).length : Nat) : Int), ((rowI ((measR (measA s)).1)).drop (0 + (Int.toNat i) * 1)).take 1 = [.int .i64 e], (se.kind == 1) = true, PureF Try.prog (.clos 100 [] []) [.agg [.int .i64 se.kind, .int .i64 se.prize, .rsl (rowTrn se.turns) 0 se.turns.length]] (.int .i64 (totI se)), InR .i64 (Int.tdiv e (totI se)), (totI se) ≠ 0]) hE.2.1 (hE.nogh _) mixed (by kernel_rfl) ⟨o0, o2, o3, (by decide), o5, o7, o8, o9, o10, o11, o12, trivial⟩ hg
theorem p80p_0_2 (s : Stl) (ends : (List Int)) (pa : Int) (oa : Int) (plan : (List Int)) (v1 : List Int) (i : Int) (g1 : Nat) (se : Stg) (e : Int)  {E : Env} {rv : AV} (hE : PureE Try.prog 80 rv E) (o0 : (decide (i ≥ 0)) = true) (o2 : 0 ≤ i ∧ i < ((s.stages.length : Nat) : Int)) (o3 : ((rowStg s.stages).drop (0 + (Int.toNat i) * 3)).take 3 = [.int .i64 se.kind, .int .i64 se.prize, .rsl (rowTrn se.turns) 0 se.turns.length]) (o5 : (se.kind == 4) = false) (o7 : 0 ≤ i ∧ i < ((((measR (measA s)).1).length : Nat) : Int)) (o8 : ((rowI ((measR (measA s)).1)).drop (0 + (Int.toNat i) * 1)).take 1 = [.int .i64 e]) (o9 : (se.kind == 1) = false)
    (hg : G Try.prog E (f80pK1 Try.prog) ⟨[.junk, .rsl (rowI ends) 0 ends.length, .int .i64 pa, .int .i64 oa, .rsl (rowI plan) 0 plan.length, .ptr 0 0 0, .junk, .junk, .junk, .junk, .junk, .rsl (rowI ((measR (measA s)).1)) 0 (((measR (measA s)).1).length), .junk, .sl 1 g1 0 v1.length 1, .int .i64 i, .ptr 2 0 0, .int .i64 e, .int .i64 0, .junk, .junk, .junk, .junk, .junk, .junk, .junk, .junk, .junk, .junk, .junk, .junk, .junk, .junk, .junk, .junk, .junk, .junk, .junk, .junk, .junk, .junk, .junk, .junk, .junk, .junk, .junk, .junk, .junk, .junk, .junk, .junk, .junk, .junk, .junk, .junk, .junk, .junk, .junk, .junk, .junk, .junk, .junk, .junk, .junk, .junk, .junk, .junk, .junk, .junk, .junk, .junk, .junk, .junk, .junk, .junk, .junk, .junk, .junk, .junk, .junk, .junk, .junk, .junk, .junk, .junk, .junk, .junk, .junk, .junk, .junk, .junk, .junk, .junk, .junk, .junk, .junk, .junk, .junk, .junk, .junk, .junk, .junk, .junk, .junk, .junk, .junk, .junk, .junk, .junk, .junk, .junk, .junk, .junk, .junk, .junk, .junk, .junk, .junk, .junk, .junk, .junk, .junk, .junk, .junk, .junk, .junk, .junk, .junk, .junk, .junk, .junk, .junk, .junk, .junk, .junk, .junk, .junk, .junk, .junk, .junk, .junk, .junk, .junk, .junk, .junk, .junk, .junk, .junk, .junk, .junk, .junk, .junk, .junk], [⟨true, 0, 1, true, [.rsl (rowStg s.stages) 0 s.stages.length, .rsl (rowI s.worth) 0 s.worth.length, .int .i64 s.price], false⟩, ⟨true, g1, 1, true, (rowI v1), true⟩, ⟨true, 0, 1, true, [.int .i64 se.kind, .int .i64 se.prize, .rsl (rowTrn se.turns) 0 se.turns.length], false⟩]⟩) : G Try.prog E (f80pK0 Try.prog) (f80pS0 s ends pa oa plan v1 i g1) :=
  segC_step (n := 400) (ds := []) (cs := []) (live := [1, 2, 3, 4, 5, 11, 13, 14, 15, 16, 17]) (m := 3) (evs := [.b true, .auto, .ld (.agg [.int .i64 se.kind, .int .i64 se.prize, .rsl (rowTrn se.turns) 0 se.turns.length]), .b false, .ld (.int .i64 e), .b false, .stop]) (obs := [(decide (i ≥ 0)) = true, 0 ≤ i ∧ i < ((s.stages.length : Nat) : Int), ((rowStg s.stages).drop (0 + (Int.toNat i) * 3)).take 3 = [.int .i64 se.kind, .int .i64 se.prize, .rsl (rowTrn se.turns) 0 se.turns.length], 3 ≤ 3, (se.kind == 4) = false, 0 ≤ i ∧ i < ((((measR (measA s)).1).length : Nat) : Int), ((rowI ((measR (measA s)).1)).drop (0 + (Int.toNat i) * 1)).take 1 = [.int .i64 e], (se.kind == 1) = false]) hE.2.1 (hE.nogh _) mixed (by kernel_rfl) ⟨o0, o2, o3, (by decide), o5, o7, o8, o9, trivial⟩ hg
theorem p80p_0_3 (s : Stl) (ends : (List Int)) (pa : Int) (oa : Int) (plan : (List Int)) (v1 : List Int) (i : Int) (g1 : Nat)  {E : Env} {res : AV} (hE : PureE Try.prog 80 res E) (o0 : (decide (i ≥ 0)) = false)
    (hr : AvLe (.rsl (rowI v1) 0 v1.length) res) : G Try.prog E (f80pK0 Try.prog) (f80pS0 s ends pa oa plan v1 i g1) :=
  end_stepL (n := 400) (evs := [.b false]) (obs := [(decide (i ≥ 0)) = false, g1 = g1]) hE Try.func80 mixed (by kernel_rfl) ⟨o0, (rfl), trivial⟩ hr
theorem f80pW0 (s : Stl) (ends : (List Int)) (pa : Int) (oa : Int) (plan : (List Int)) (v1 : List Int) (i : Int) {E : Env} {rv : (List Int)} (hE : PureE Try.prog 80 (.rsl (rowI rv) 0 rv.length) E)
    (h : ((i ≥ 0 → (0 ≤ i ∧ (∃ se : Stg, s.stages[Int.toNat i]? = some se ∧ ((se.kind = 4 → (0 ≤ i ∧ (∃ e : Int, ends[Int.toNat i]? = some e ∧ (0 ≤ i ∧ (∃ e1 : Int, v1[Int.toNat i]? = some e1 ∧ ((-9223372036854775808 ≤ i - 1 ∧ i - 1 ≤ 9223372036854775807) ∧ f80pG0 E s ends pa oa plan (v1.set (Int.toNat i) e) (i - 1))))))) ∧ (¬ (se.kind = 4) → (0 ≤ i ∧ (∃ e : Int, ((measR (measA s)).1)[Int.toNat i]? = some e ∧ ((se.kind = 1 → ((TotOk se) ∧ ((-9223372036854775808 ≤ Int.tdiv e (totI se) ∧ Int.tdiv e (totI se) ≤ 9223372036854775807) ∧ ((totI se) ≠ 0 ∧ f80pG1 E s ends pa oa plan i (Int.tdiv e (totI se)) v1 se.kind se.prize se.turns 0)))) ∧ (¬ (se.kind = 1) → f80pG1 E s ends pa oa plan i e v1 se.kind se.prize se.turns 0))))))))) ∧ (¬ (i ≥ 0) → rv = v1))) : f80pG0 E s ends pa oa plan v1 i := by
  intro g1
  rcases Bool.eq_false_or_eq_true (decide (i ≥ 0)) with hc0 | hc0
  · have h := h.1 (of_decide_eq_true hc0)
    obtain ⟨h2, h⟩ := h
    obtain ⟨se, h1, h⟩ := h
    rcases Bool.eq_false_or_eq_true (se.kind == 4) with hc1 | hc1
    · have h := h.1 (eq_of_beq hc1)
      obtain ⟨h4, h⟩ := h
      obtain ⟨e, h3, h⟩ := h
      obtain ⟨h6, h⟩ := h
      obtain ⟨e1, h5, h⟩ := h
      obtain ⟨q14_2, h⟩ := h
      refine p80p_0_0 s ends pa oa plan v1 i g1 se e e1 hE hc0 (idx_ok' h2 h1) (row_part cStg (s := 3) (k := 0) (m := 3) (fun _ => rfl) (by decide) h1) hc1 (idx_ok' h4 h3) (row_part cI (s := 1) (k := 0) (m := 1) (fun _ => rfl) (by decide) h3) (idx_ok' h6 h5) (row_fits cI (s := 1) (k := 0) (m := 1) (fun _ => rfl) (by decide) h5) q14_2 ?_
      have h := (h g1)
      simp only [f80pS0, List.length_set] at h
      rw [(show setAt (rowI v1) (0 + (Int.toNat i) * 1) [.int .i64 e] = rowI (v1.set (Int.toNat i) e) from row_set cI (s := 1) (k := 0) (fun _ => rfl) h5 rfl (by first | decide | simp))]
      exact h
    · have h := h.2 (ne_of_beq_false hc1)
      obtain ⟨h4, h⟩ := h
      obtain ⟨e, h3, h⟩ := h
      rcases Bool.eq_false_or_eq_true (se.kind == 1) with hc2 | hc2
      · have h := h.1 (eq_of_beq hc2)
        obtain ⟨h5, h⟩ := h
        obtain ⟨q11_3, h⟩ := h
        obtain ⟨q12_3, h⟩ := h
        exact p80p_0_1 s ends pa oa plan v1 i g1 se e hE hc0 (idx_ok' h2 h1) (row_part cStg (s := 3) (k := 0) (m := 3) (fun _ => rfl) (by decide) h1) hc1 (idx_ok' h4 h3) (row_part cI (s := 1) (k := 0) (m := 1) (fun _ => rfl) (by decide) h3) hc2 (pureF_of Try.func100 (by kernel_rfl) f100b (totalR_ok se h5)) q11_3 q12_3 (h g1)
      · have h := h.2 (ne_of_beq_false hc2)
        exact p80p_0_2 s ends pa oa plan v1 i g1 se e hE hc0 (idx_ok' h2 h1) (row_part cStg (s := 3) (k := 0) (m := 3) (fun _ => rfl) (by decide) h1) hc1 (idx_ok' h4 h3) (row_part cI (s := 1) (k := 0) (m := 1) (fun _ => rfl) (by decide) h3) hc2 (h g1)
  · have h := h.2 (of_decide_eq_false hc0)
    exact p80p_0_3 s ends pa oa plan v1 i g1  hE hc0 (AvLe.of_eq (by rw [h]; try rfl))
theorem p80p_1_0 (s : Stl) (ends : (List Int)) (pa : Int) (oa : Int) (plan : (List Int)) (i : Int) (all : Int) (v1 : List Int) (v2_0 : Int) (v2_1 : Int) (v2_2 : (List Trn)) (k : Nat) (g1 : Nat) (te : Trn) (e : Int) (e1 : Int) (e2 : Int)  {E : Env} {rv : AV} (hE : PureE Try.prog 80 rv E) (o0 : (decide (((k : Nat) : Int) < ((v2_2.length : Nat) : Int))) = true) (o2 : 0 ≤ ((k : Nat) : Int) ∧ ((k : Nat) : Int) < ((v2_2.length : Nat) : Int)) (o3 : ((rowTrn v2_2).drop (0 + (Int.toNat ((k : Nat) : Int)) * 2)).take 2 = [.int .i64 te.w, .int .i64 te.to]) (o6 : 0 ≤ te.to ∧ te.to < ((v1.length : Nat) : Int)) (o9 : ((rowI v1).drop (0 + (Int.toNat te.to) * 1)).take 1 = [.int .i64 e]) (o11 : 0 ≤ te.to ∧ te.to < ((((measR (measA s)).1).length : Nat) : Int)) (o12 : ((rowI ((measR (measA s)).1)).drop (0 + (Int.toNat te.to) * 1)).take 1 = [.int .i64 e1]) (o13 : InR .i64 (Int.tdiv all e1)) (o14 : e1 ≠ 0) (o15 : InR .i64 (e * (Int.tdiv all e1))) (o16 : (v2_0 == 3) = true) (o17 : (v2_0 == 1) = true) (o19 : 0 ≤ i ∧ i < ((v1.length : Nat) : Int)) (o22 : ((rowI v1).drop (0 + (Int.toNat i) * 1)).take 1 = [.int .i64 e2]) (o23 : InR .i64 ((e * (Int.tdiv all e1)) * te.w)) (o24 : InR .i64 (e2 + ((e * (Int.tdiv all e1)) * te.w))) (o25 : 0 ≤ i ∧ i < ((v1.length : Nat) : Int)) (o27 : ((0 + (Int.toNat i) * 1) + 1) ≤ (rowI v1).length) (o29 : InR .i64 (((k : Nat) : Int) + 1))
    (hg : G Try.prog E (f80pK1 Try.prog) ⟨[.junk, .rsl (rowI ends) 0 ends.length, .int .i64 pa, .int .i64 oa, .rsl (rowI plan) 0 plan.length, .ptr 0 0 0, .junk, .junk, .junk, .junk, .junk, .rsl (rowI ((measR (measA s)).1)) 0 (((measR (measA s)).1).length), .junk, .sl 1 g1 0 v1.length 1, .int .i64 i, .ptr 2 0 0, .int .i64 all, .int .i64 (((k : Nat) : Int) + 1), .junk, .junk, .junk, .junk, .junk, .junk, .junk, .junk, .junk, .junk, .junk, .junk, .junk, .junk, .junk, .junk, .junk, .junk, .junk, .junk, .junk, .junk, .junk, .junk, .junk, .junk, .junk, .junk, .junk, .junk, .junk, .junk, .junk, .junk, .junk, .junk, .junk, .junk, .junk, .junk, .junk, .junk, .junk, .junk, .junk, .junk, .junk, .junk, .junk, .junk, .junk, .junk, .junk, .junk, .junk, .junk, .junk, .junk, .junk, .junk, .junk, .junk, .junk, .junk, .junk, .junk, .junk, .junk, .junk, .junk, .junk, .junk, .junk, .junk, .junk, .junk, .junk, .junk, .junk, .junk, .junk, .junk, .junk, .junk, .junk, .junk, .junk, .junk, .junk, .junk, .junk, .junk, .junk, .junk, .junk, .junk, .junk, .junk, .junk, .junk, .junk, .junk, .junk, .junk, .junk, .junk, .junk, .junk, .junk, .junk, .junk, .junk, .junk, .junk, .junk, .junk, .junk, .junk, .junk, .junk, .junk, .junk, .junk, .junk, .junk, .junk, .junk, .junk, .junk, .junk, .junk, .junk, .junk, .junk], [⟨true, 0, 1, true, [.rsl (rowStg s.stages) 0 s.stages.length, .rsl (rowI s.worth) 0 s.worth.length, .int .i64 s.price], false⟩, ⟨true, g1, 1, true, (setAt (rowI v1) (0 + (Int.toNat i) * 1) [.int .i64 (e2 + ((e * (Int.tdiv all e1)) * te.w))]), true⟩, ⟨true, 0, 1, true, [.int .i64 v2_0, .int .i64 v2_1, .rsl (rowTrn v2_2) 0 v2_2.length], false⟩]⟩) : G Try.prog E (f80pK1 Try.prog) (f80pS1 s ends pa oa plan i all v1 v2_0 v2_1 v2_2 k g1) :=
  segC_step (n := 400) (ds := []) (cs := []) (live := [1, 2, 3, 4, 5, 11, 13, 14, 15, 16, 17]) (m := 3) (evs := [.b true, .auto, .ld (.agg [.int .i64 te.w, .int .i64 te.to]), .auto, .ld (.int .i64 e), .auto, .ld (.int .i64 e1), .b true, .b true, .ld (.int .i64 e2), .stop]) (obs := [(decide (((k : Nat) : Int) < ((v2_2.length : Nat) : Int))) = true, 0 ≤ ((k : Nat) : Int) ∧ ((k : Nat) : Int) < ((v2_2.length : Nat) : Int), ((rowTrn v2_2).drop (0 + (Int.toNat ((k : Nat) : Int)) * 2)).take 2 = [.int .i64 te.w, .int .i64 te.to], 2 ≤ 2, 0 ≤ te.to ∧ te.to < ((v1.length : Nat) : Int), g1 = g1, g1 = g1, ((rowI v1).drop (0 + (Int.toNat te.to) * 1)).take 1 = [.int .i64 e], 0 ≤ te.to ∧ te.to < ((((measR (measA s)).1).length : Nat) : Int), ((rowI ((measR (measA s)).1)).drop (0 + (Int.toNat te.to) * 1)).take 1 = [.int .i64 e1], InR .i64 (Int.tdiv all e1), e1 ≠ 0, InR .i64 (e * (Int.tdiv all e1)), (v2_0 == 3) = true, (v2_0 == 1) = true, 0 ≤ i ∧ i < ((v1.length : Nat) : Int), g1 = g1, g1 = g1, ((rowI v1).drop (0 + (Int.toNat i) * 1)).take 1 = [.int .i64 e2], InR .i64 ((e * (Int.tdiv all e1)) * te.w), InR .i64 (e2 + ((e * (Int.tdiv all e1)) * te.w)), 0 ≤ i ∧ i < ((v1.length : Nat) : Int), g1 = g1, ((0 + (Int.toNat i) * 1) + 1) ≤ (rowI v1).length, g1 = g1, InR .i64 (((k : Nat) : Int) + 1)]) hE.2.1 (hE.nogh _) mixed (by kernel_rfl) ⟨o0, o2, o3, (by decide), o6, (rfl), (rfl), o9, o11, o12, o13, o14, o15, o16, o17, o19, (rfl), (rfl), o22, o23, o24, o25, (rfl), o27, (rfl), o29, trivial⟩ hg
theorem p80p_1_1 (s : Stl) (ends : (List Int)) (pa : Int) (oa : Int) (plan : (List Int)) (i : Int) (all : Int) (v1 : List Int) (v2_0 : Int) (v2_1 : Int) (v2_2 : (List Trn)) (k : Nat) (g1 : Nat) (te : Trn) (e : Int) (e1 : Int) (e2 : Int) (e3 : Int)  {E : Env} {rv : AV} (hE : PureE Try.prog 80 rv E) (o0 : (decide (((k : Nat) : Int) < ((v2_2.length : Nat) : Int))) = true) (o2 : 0 ≤ ((k : Nat) : Int) ∧ ((k : Nat) : Int) < ((v2_2.length : Nat) : Int)) (o3 : ((rowTrn v2_2).drop (0 + (Int.toNat ((k : Nat) : Int)) * 2)).take 2 = [.int .i64 te.w, .int .i64 te.to]) (o6 : 0 ≤ te.to ∧ te.to < ((v1.length : Nat) : Int)) (o9 : ((rowI v1).drop (0 + (Int.toNat te.to) * 1)).take 1 = [.int .i64 e]) (o11 : 0 ≤ te.to ∧ te.to < ((((measR (measA s)).1).length : Nat) : Int)) (o12 : ((rowI ((measR (measA s)).1)).drop (0 + (Int.toNat te.to) * 1)).take 1 = [.int .i64 e1]) (o13 : InR .i64 (Int.tdiv all e1)) (o14 : e1 ≠ 0) (o15 : InR .i64 (e * (Int.tdiv all e1))) (o16 : (v2_0 == 3) = true) (o17 : (v2_0 == 1) = false) (o18 : plan.length ≠ 0) (o21 : 0 ≤ i ∧ i < ((plan.length : Nat) : Int)) (o22 : ((rowI plan).drop (0 + (Int.toNat i) * 1)).take 1 = [.int .i64 e2]) (o23 : (e2 == ((k : Nat) : Int)) = true) (o25 : 0 ≤ i ∧ i < ((v1.length : Nat) : Int)) (o27 : ((0 + (Int.toNat i) * 1) + 1) ≤ (rowI v1).length) (o29 : InR .i64 (((k : Nat) : Int) + 1))
    (hg : G Try.prog E (f80pK1 Try.prog) ⟨[.junk, .rsl (rowI ends) 0 ends.length, .int .i64 pa, .int .i64 oa, .rsl (rowI plan) 0 plan.length, .ptr 0 0 0, .junk, .junk, .junk, .junk, .junk, .rsl (rowI ((measR (measA s)).1)) 0 (((measR (measA s)).1).length), .junk, .sl 1 g1 0 v1.length 1, .int .i64 i, .ptr 2 0 0, .int .i64 all, .int .i64 (((k : Nat) : Int) + 1), .junk, .junk, .junk, .junk, .junk, .junk, .junk, .junk, .junk, .junk, .junk, .junk, .junk, .junk, .junk, .junk, .junk, .junk, .junk, .junk, .junk, .junk, .junk, .junk, .junk, .junk, .junk, .junk, .junk, .junk, .junk, .junk, .junk, .junk, .junk, .junk, .junk, .junk, .junk, .junk, .junk, .junk, .junk, .junk, .junk, .junk, .junk, .junk, .junk, .junk, .junk, .junk, .junk, .junk, .junk, .junk, .junk, .junk, .junk, .junk, .junk, .junk, .junk, .junk, .junk, .junk, .junk, .junk, .junk, .junk, .junk, .junk, .junk, .junk, .junk, .junk, .junk, .junk, .junk, .junk, .junk, .junk, .junk, .junk, .junk, .junk, .junk, .junk, .junk, .junk, .junk, .junk, .junk, .junk, .junk, .junk, .junk, .junk, .junk, .junk, .junk, .junk, .junk, .junk, .junk, .junk, .junk, .junk, .junk, .junk, .junk, .junk, .junk, .junk, .junk, .junk, .junk, .junk, .junk, .junk, .junk, .junk, .junk, .junk, .junk, .junk, .junk, .junk, .junk, .junk, .junk, .junk, .junk, .junk], [⟨true, 0, 1, true, [.rsl (rowStg s.stages) 0 s.stages.length, .rsl (rowI s.worth) 0 s.worth.length, .int .i64 s.price], false⟩, ⟨true, g1, 1, true, (setAt (rowI v1) (0 + (Int.toNat i) * 1) [.int .i64 (e * (Int.tdiv all e1))]), true⟩, ⟨true, 0, 1, true, [.int .i64 v2_0, .int .i64 v2_1, .rsl (rowTrn v2_2) 0 v2_2.length], false⟩]⟩) : G Try.prog E (f80pK1 Try.prog) (f80pS1 s ends pa oa plan i all v1 v2_0 v2_1 v2_2 k g1) :=
  segC_step (n := 400) (ds := []) (cs := []) (live := [1, 2, 3, 4, 5, 11, 13, 14, 15, 16, 17]) (m := 3) (evs := [.b true, .auto, .ld (.agg [.int .i64 te.w, .int .i64 te.to]), .auto, .ld (.int .i64 e), .auto, .ld (.int .i64 e1), .b true, .b false, .b true, .ld (.int .i64 e2), .b true, .stop]) (obs := [(decide (((k : Nat) : Int) < ((v2_2.length : Nat) : Int))) = true, 0 ≤ ((k : Nat) : Int) ∧ ((k : Nat) : Int) < ((v2_2.length : Nat) : Int), ((rowTrn v2_2).drop (0 + (Int.toNat ((k : Nat) : Int)) * 2)).take 2 = [.int .i64 te.w, .int .i64 te.to], 2 ≤ 2, 0 ≤ te.to ∧ te.to < ((v1.length : Nat) : Int), g1 = g1, g1 = g1, ((rowI v1).drop (0 + (Int.toNat te.to) * 1)).take 1 = [.int .i64 e], 0 ≤ te.to ∧ te.to < ((((measR (measA s)).1).length : Nat) : Int), ((rowI ((measR (measA s)).1)).drop (0 + (Int.toNat te.to) * 1)).take 1 = [.int .i64 e1], InR .i64 (Int.tdiv all e1), e1 ≠ 0, InR .i64 (e * (Int.tdiv all e1)), (v2_0 == 3) = true, (v2_0 == 1) = false, plan.length ≠ 0, true = true, 0 ≤ i ∧ i < ((plan.length : Nat) : Int), ((rowI plan).drop (0 + (Int.toNat i) * 1)).take 1 = [.int .i64 e2], (e2 == ((k : Nat) : Int)) = true, 0 ≤ i ∧ i < ((v1.length : Nat) : Int), g1 = g1, ((0 + (Int.toNat i) * 1) + 1) ≤ (rowI v1).length, g1 = g1, InR .i64 (((k : Nat) : Int) + 1)]) hE.2.1 (hE.nogh _) mixed (by kernel_rfl) ⟨o0, o2, o3, (by decide), o6, (rfl), (rfl), o9, o11, o12, o13, o14, o15, o16, o17, o18, (rfl), o21, o22, o23, o25, (rfl), o27, (rfl), o29, trivial⟩ hg
theorem p80p_1_2 (s : Stl) (ends : (List Int)) (pa : Int) (oa : Int) (plan : (List Int)) (i : Int) (all : Int) (v1 : List Int) (v2_0 : Int) (v2_1 : Int) (v2_2 : (List Trn)) (k : Nat) (g1 : Nat) (te : Trn) (e : Int) (e1 : Int) (e2 : Int)  {E : Env} {rv : AV} (hE : PureE Try.prog 80 rv E) (o0 : (decide (((k : Nat) : Int) < ((v2_2.length : Nat) : Int))) = true) (o2 : 0 ≤ ((k : Nat) : Int) ∧ ((k : Nat) : Int) < ((v2_2.length : Nat) : Int)) (o3 : ((rowTrn v2_2).drop (0 + (Int.toNat ((k : Nat) : Int)) * 2)).take 2 = [.int .i64 te.w, .int .i64 te.to]) (o6 : 0 ≤ te.to ∧ te.to < ((v1.length : Nat) : Int)) (o9 : ((rowI v1).drop (0 + (Int.toNat te.to) * 1)).take 1 = [.int .i64 e]) (o11 : 0 ≤ te.to ∧ te.to < ((((measR (measA s)).1).length : Nat) : Int)) (o12 : ((rowI ((measR (measA s)).1)).drop (0 + (Int.toNat te.to) * 1)).take 1 = [.int .i64 e1]) (o13 : InR .i64 (Int.tdiv all e1)) (o14 : e1 ≠ 0) (o15 : InR .i64 (e * (Int.tdiv all e1))) (o16 : (v2_0 == 3) = true) (o17 : (v2_0 == 1) = false) (o18 : plan.length ≠ 0) (o21 : 0 ≤ i ∧ i < ((plan.length : Nat) : Int)) (o22 : ((rowI plan).drop (0 + (Int.toNat i) * 1)).take 1 = [.int .i64 e2]) (o23 : (e2 == ((k : Nat) : Int)) = false) (o24 : InR .i64 (((k : Nat) : Int) + 1))
    (hg : G Try.prog E (f80pK1 Try.prog) ⟨[.junk, .rsl (rowI ends) 0 ends.length, .int .i64 pa, .int .i64 oa, .rsl (rowI plan) 0 plan.length, .ptr 0 0 0, .junk, .junk, .junk, .junk, .junk, .rsl (rowI ((measR (measA s)).1)) 0 (((measR (measA s)).1).length), .junk, .sl 1 g1 0 v1.length 1, .int .i64 i, .ptr 2 0 0, .int .i64 all, .int .i64 (((k : Nat) : Int) + 1), .junk, .junk, .junk, .junk, .junk, .junk, .junk, .junk, .junk, .junk, .junk, .junk, .junk, .junk, .junk, .junk, .junk, .junk, .junk, .junk, .junk, .junk, .junk, .junk, .junk, .junk, .junk, .junk, .junk, .junk, .junk, .junk, .junk, .junk, .junk, .junk, .junk, .junk, .junk, .junk, .junk, .junk, .junk, .junk, .junk, .junk, .junk, .junk, .junk, .junk, .junk, .junk, .junk, .junk, .junk, .junk, .junk, .junk, .junk, .junk, .junk, .junk, .junk, .junk, .junk, .junk, .junk, .junk, .junk, .junk, .junk, .junk, .junk, .junk, .junk, .junk, .junk, .junk, .junk, .junk, .junk, .junk, .junk, .junk, .junk, .junk, .junk, .junk, .junk, .junk, .junk, .junk, .junk, .junk, .junk, .junk, .junk, .junk, .junk, .junk, .junk, .junk, .junk, .junk, .junk, .junk, .junk, .junk, .junk, .junk, .junk, .junk, .junk, .junk, .junk, .junk, .junk, .junk, .junk, .junk, .junk, .junk, .junk, .junk, .junk, .junk, .junk, .junk, .junk, .junk, .junk, .junk, .junk, .junk], [⟨true, 0, 1, true, [.rsl (rowStg s.stages) 0 s.stages.length, .rsl (rowI s.worth) 0 s.worth.length, .int .i64 s.price], false⟩, ⟨true, g1, 1, true, (rowI v1), true⟩, ⟨true, 0, 1, true, [.int .i64 v2_0, .int .i64 v2_1, .rsl (rowTrn v2_2) 0 v2_2.length], false⟩]⟩) : G Try.prog E (f80pK1 Try.prog) (f80pS1 s ends pa oa plan i all v1 v2_0 v2_1 v2_2 k g1) :=
  segC_step (n := 400) (ds := []) (cs := []) (live := [1, 2, 3, 4, 5, 11, 13, 14, 15, 16, 17]) (m := 3) (evs := [.b true, .auto, .ld (.agg [.int .i64 te.w, .int .i64 te.to]), .auto, .ld (.int .i64 e), .auto, .ld (.int .i64 e1), .b true, .b false, .b true, .ld (.int .i64 e2), .b false, .stop]) (obs := [(decide (((k : Nat) : Int) < ((v2_2.length : Nat) : Int))) = true, 0 ≤ ((k : Nat) : Int) ∧ ((k : Nat) : Int) < ((v2_2.length : Nat) : Int), ((rowTrn v2_2).drop (0 + (Int.toNat ((k : Nat) : Int)) * 2)).take 2 = [.int .i64 te.w, .int .i64 te.to], 2 ≤ 2, 0 ≤ te.to ∧ te.to < ((v1.length : Nat) : Int), g1 = g1, g1 = g1, ((rowI v1).drop (0 + (Int.toNat te.to) * 1)).take 1 = [.int .i64 e], 0 ≤ te.to ∧ te.to < ((((measR (measA s)).1).length : Nat) : Int), ((rowI ((measR (measA s)).1)).drop (0 + (Int.toNat te.to) * 1)).take 1 = [.int .i64 e1], InR .i64 (Int.tdiv all e1), e1 ≠ 0, InR .i64 (e * (Int.tdiv all e1)), (v2_0 == 3) = true, (v2_0 == 1) = false, plan.length ≠ 0, true = true, 0 ≤ i ∧ i < ((plan.length : Nat) : Int), ((rowI plan).drop (0 + (Int.toNat i) * 1)).take 1 = [.int .i64 e2], (e2 == ((k : Nat) : Int)) = false, InR .i64 (((k : Nat) : Int) + 1)]) hE.2.1 (hE.nogh _) mixed (by kernel_rfl) ⟨o0, o2, o3, (by decide), o6, (rfl), (rfl), o9, o11, o12, o13, o14, o15, o16, o17, o18, (rfl), o21, o22, o23, o24, trivial⟩ hg
theorem p80p_1_3 (s : Stl) (ends : (List Int)) (pa : Int) (oa : Int) (plan : (List Int)) (i : Int) (all : Int) (v1 : List Int) (v2_0 : Int) (v2_1 : Int) (v2_2 : (List Trn)) (k : Nat) (g1 : Nat) (te : Trn) (e : Int) (e1 : Int) (e2 : Int)  {E : Env} {rv : AV} (hE : PureE Try.prog 80 rv E) (o0 : (decide (((k : Nat) : Int) < ((v2_2.length : Nat) : Int))) = true) (o2 : 0 ≤ ((k : Nat) : Int) ∧ ((k : Nat) : Int) < ((v2_2.length : Nat) : Int)) (o3 : ((rowTrn v2_2).drop (0 + (Int.toNat ((k : Nat) : Int)) * 2)).take 2 = [.int .i64 te.w, .int .i64 te.to]) (o6 : 0 ≤ te.to ∧ te.to < ((v1.length : Nat) : Int)) (o9 : ((rowI v1).drop (0 + (Int.toNat te.to) * 1)).take 1 = [.int .i64 e]) (o11 : 0 ≤ te.to ∧ te.to < ((((measR (measA s)).1).length : Nat) : Int)) (o12 : ((rowI ((measR (measA s)).1)).drop (0 + (Int.toNat te.to) * 1)).take 1 = [.int .i64 e1]) (o13 : InR .i64 (Int.tdiv all e1)) (o14 : e1 ≠ 0) (o15 : InR .i64 (e * (Int.tdiv all e1))) (o16 : (v2_0 == 3) = false) (o17 : (v2_0 == 1) = true) (o19 : 0 ≤ i ∧ i < ((v1.length : Nat) : Int)) (o22 : ((rowI v1).drop (0 + (Int.toNat i) * 1)).take 1 = [.int .i64 e2]) (o23 : InR .i64 ((e * (Int.tdiv all e1)) * te.w)) (o24 : InR .i64 (e2 + ((e * (Int.tdiv all e1)) * te.w))) (o25 : 0 ≤ i ∧ i < ((v1.length : Nat) : Int)) (o27 : ((0 + (Int.toNat i) * 1) + 1) ≤ (rowI v1).length) (o29 : InR .i64 (((k : Nat) : Int) + 1))
    (hg : G Try.prog E (f80pK1 Try.prog) ⟨[.junk, .rsl (rowI ends) 0 ends.length, .int .i64 pa, .int .i64 oa, .rsl (rowI plan) 0 plan.length, .ptr 0 0 0, .junk, .junk, .junk, .junk, .junk, .rsl (rowI ((measR (measA s)).1)) 0 (((measR (measA s)).1).length), .junk, .sl 1 g1 0 v1.length 1, .int .i64 i, .ptr 2 0 0, .int .i64 all, .int .i64 (((k : Nat) : Int) + 1), .junk, .junk, .junk, .junk, .junk, .junk, .junk, .junk, .junk, .junk, .junk, .junk, .junk, .junk, .junk, .junk, .junk, .junk, .junk, .junk, .junk, .junk, .junk, .junk, .junk, .junk, .junk, .junk, .junk, .junk, .junk, .junk, .junk, .junk, .junk, .junk, .junk, .junk, .junk, .junk, .junk, .junk, .junk, .junk, .junk, .junk, .junk, .junk, .junk, .junk, .junk, .junk, .junk, .junk, .junk, .junk, .junk, .junk, .junk, .junk, .junk, .junk, .junk, .junk, .junk, .junk, .junk, .junk, .junk, .junk, .junk, .junk, .junk, .junk, .junk, .junk, .junk, .junk, .junk, .junk, .junk, .junk, .junk, .junk, .junk, .junk, .junk, .junk, .junk, .junk, .junk, .junk, .junk, .junk, .junk, .junk, .junk, .junk, .junk, .junk, .junk, .junk, .junk, .junk, .junk, .junk, .junk, .junk, .junk, .junk, .junk, .junk, .junk, .junk, .junk, .junk, .junk, .junk, .junk, .junk, .junk, .junk, .junk, .junk, .junk, .junk, .junk, .junk, .junk, .junk, .junk, .junk, .junk, .junk], [⟨true, 0, 1, true, [.rsl (rowStg s.stages) 0 s.stages.length, .rsl (rowI s.worth) 0 s.worth.length, .int .i64 s.price], false⟩, ⟨true, g1, 1, true, (setAt (rowI v1) (0 + (Int.toNat i) * 1) [.int .i64 (e2 + ((e * (Int.tdiv all e1)) * te.w))]), true⟩, ⟨true, 0, 1, true, [.int .i64 v2_0, .int .i64 v2_1, .rsl (rowTrn v2_2) 0 v2_2.length], false⟩]⟩) : G Try.prog E (f80pK1 Try.prog) (f80pS1 s ends pa oa plan i all v1 v2_0 v2_1 v2_2 k g1) :=
  segC_step (n := 400) (ds := []) (cs := []) (live := [1, 2, 3, 4, 5, 11, 13, 14, 15, 16, 17]) (m := 3) (evs := [.b true, .auto, .ld (.agg [.int .i64 te.w, .int .i64 te.to]), .auto, .ld (.int .i64 e), .auto, .ld (.int .i64 e1), .b false, .b true, .ld (.int .i64 e2), .stop]) (obs := [(decide (((k : Nat) : Int) < ((v2_2.length : Nat) : Int))) = true, 0 ≤ ((k : Nat) : Int) ∧ ((k : Nat) : Int) < ((v2_2.length : Nat) : Int), ((rowTrn v2_2).drop (0 + (Int.toNat ((k : Nat) : Int)) * 2)).take 2 = [.int .i64 te.w, .int .i64 te.to], 2 ≤ 2, 0 ≤ te.to ∧ te.to < ((v1.length : Nat) : Int), g1 = g1, g1 = g1, ((rowI v1).drop (0 + (Int.toNat te.to) * 1)).take 1 = [.int .i64 e], 0 ≤ te.to ∧ te.to < ((((measR (measA s)).1).length : Nat) : Int), ((rowI ((measR (measA s)).1)).drop (0 + (Int.toNat te.to) * 1)).take 1 = [.int .i64 e1], InR .i64 (Int.tdiv all e1), e1 ≠ 0, InR .i64 (e * (Int.tdiv all e1)), (v2_0 == 3) = false, (v2_0 == 1) = true, 0 ≤ i ∧ i < ((v1.length : Nat) : Int), g1 = g1, g1 = g1, ((rowI v1).drop (0 + (Int.toNat i) * 1)).take 1 = [.int .i64 e2], InR .i64 ((e * (Int.tdiv all e1)) * te.w), InR .i64 (e2 + ((e * (Int.tdiv all e1)) * te.w)), 0 ≤ i ∧ i < ((v1.length : Nat) : Int), g1 = g1, ((0 + (Int.toNat i) * 1) + 1) ≤ (rowI v1).length, g1 = g1, InR .i64 (((k : Nat) : Int) + 1)]) hE.2.1 (hE.nogh _) mixed (by kernel_rfl) ⟨o0, o2, o3, (by decide), o6, (rfl), (rfl), o9, o11, o12, o13, o14, o15, o16, o17, o19, (rfl), (rfl), o22, o23, o24, o25, (rfl), o27, (rfl), o29, trivial⟩ hg
theorem p80p_1_4 (s : Stl) (ends : (List Int)) (pa : Int) (oa : Int) (plan : (List Int)) (i : Int) (all : Int) (v1 : List Int) (v2_0 : Int) (v2_1 : Int) (v2_2 : (List Trn)) (k : Nat) (g1 : Nat) (te : Trn) (e : Int) (e1 : Int) (e2 : Int) (e3 : Int)  {E : Env} {rv : AV} (hE : PureE Try.prog 80 rv E) (o0 : (decide (((k : Nat) : Int) < ((v2_2.length : Nat) : Int))) = true) (o2 : 0 ≤ ((k : Nat) : Int) ∧ ((k : Nat) : Int) < ((v2_2.length : Nat) : Int)) (o3 : ((rowTrn v2_2).drop (0 + (Int.toNat ((k : Nat) : Int)) * 2)).take 2 = [.int .i64 te.w, .int .i64 te.to]) (o6 : 0 ≤ te.to ∧ te.to < ((v1.length : Nat) : Int)) (o9 : ((rowI v1).drop (0 + (Int.toNat te.to) * 1)).take 1 = [.int .i64 e]) (o11 : 0 ≤ te.to ∧ te.to < ((((measR (measA s)).1).length : Nat) : Int)) (o12 : ((rowI ((measR (measA s)).1)).drop (0 + (Int.toNat te.to) * 1)).take 1 = [.int .i64 e1]) (o13 : InR .i64 (Int.tdiv all e1)) (o14 : e1 ≠ 0) (o15 : InR .i64 (e * (Int.tdiv all e1))) (o16 : (v2_0 == 3) = false) (o17 : (v2_0 == 1) = false) (o18 : plan.length ≠ 0) (o21 : 0 ≤ i ∧ i < ((plan.length : Nat) : Int)) (o22 : ((rowI plan).drop (0 + (Int.toNat i) * 1)).take 1 = [.int .i64 e2]) (o23 : (e2 == ((k : Nat) : Int)) = true) (o25 : 0 ≤ i ∧ i < ((v1.length : Nat) : Int)) (o27 : ((0 + (Int.toNat i) * 1) + 1) ≤ (rowI v1).length) (o29 : InR .i64 (((k : Nat) : Int) + 1))
    (hg : G Try.prog E (f80pK1 Try.prog) ⟨[.junk, .rsl (rowI ends) 0 ends.length, .int .i64 pa, .int .i64 oa, .rsl (rowI plan) 0 plan.length, .ptr 0 0 0, .junk, .junk, .junk, .junk, .junk, .rsl (rowI ((measR (measA s)).1)) 0 (((measR (measA s)).1).length), .junk, .sl 1 g1 0 v1.length 1, .int .i64 i, .ptr 2 0 0, .int .i64 all, .int .i64 (((k : Nat) : Int) + 1), .junk, .junk, .junk, .junk, .junk, .junk, .junk, .junk, .junk, .junk, .junk, .junk, .junk, .junk, .junk, .junk, .junk, .junk, .junk, .junk, .junk, .junk, .junk, .junk, .junk, .junk, .junk, .junk, .junk, .junk, .junk, .junk, .junk, .junk, .junk, .junk, .junk, .junk, .junk, .junk, .junk, .junk, .junk, .junk, .junk, .junk, .junk, .junk, .junk, .junk, .junk, .junk, .junk, .junk, .junk, .junk, .junk, .junk, .junk, .junk, .junk, .junk, .junk, .junk, .junk, .junk, .junk, .junk, .junk, .junk, .junk, .junk, .junk, .junk, .junk, .junk, .junk, .junk, .junk, .junk, .junk, .junk, .junk, .junk, .junk, .junk, .junk, .junk, .junk, .junk, .junk, .junk, .junk, .junk, .junk, .junk, .junk, .junk, .junk, .junk, .junk, .junk, .junk, .junk, .junk, .junk, .junk, .junk, .junk, .junk, .junk, .junk, .junk, .junk, .junk, .junk, .junk, .junk, .junk, .junk, .junk, .junk, .junk, .junk, .junk, .junk, .junk, .junk, .junk, .junk, .junk, .junk, .junk, .junk], [⟨true, 0, 1, true, [.rsl (rowStg s.stages) 0 s.stages.length, .rsl (rowI s.worth) 0 s.worth.length, .int .i64 s.price], false⟩, ⟨true, g1, 1, true, (setAt (rowI v1) (0 + (Int.toNat i) * 1) [.int .i64 (e * (Int.tdiv all e1))]), true⟩, ⟨true, 0, 1, true, [.int .i64 v2_0, .int .i64 v2_1, .rsl (rowTrn v2_2) 0 v2_2.length], false⟩]⟩) : G Try.prog E (f80pK1 Try.prog) (f80pS1 s ends pa oa plan i all v1 v2_0 v2_1 v2_2 k g1) :=
  segC_step (n := 400) (ds := []) (cs := []) (live := [1, 2, 3, 4, 5, 11, 13, 14, 15, 16, 17]) (m := 3) (evs := [.b true, .auto, .ld (.agg [.int .i64 te.w, .int .i64 te.to]), .auto, .ld (.int .i64 e), .auto, .ld (.int .i64 e1), .b false, .b false, .b true, .ld (.int .i64 e2), .b true, .stop]) (obs := [(decide (((k : Nat) : Int) < ((v2_2.length : Nat) : Int))) = true, 0 ≤ ((k : Nat) : Int) ∧ ((k : Nat) : Int) < ((v2_2.length : Nat) : Int), ((rowTrn v2_2).drop (0 + (Int.toNat ((k : Nat) : Int)) * 2)).take 2 = [.int .i64 te.w, .int .i64 te.to], 2 ≤ 2, 0 ≤ te.to ∧ te.to < ((v1.length : Nat) : Int), g1 = g1, g1 = g1, ((rowI v1).drop (0 + (Int.toNat te.to) * 1)).take 1 = [.int .i64 e], 0 ≤ te.to ∧ te.to < ((((measR (measA s)).1).length : Nat) : Int), ((rowI ((measR (measA s)).1)).drop (0 + (Int.toNat te.to) * 1)).take 1 = [.int .i64 e1], InR .i64 (Int.tdiv all e1), e1 ≠ 0, InR .i64 (e * (Int.tdiv all e1)), (v2_0 == 3) = false, (v2_0 == 1) = false, plan.length ≠ 0, true = true, 0 ≤ i ∧ i < ((plan.length : Nat) : Int), ((rowI plan).drop (0 + (Int.toNat i) * 1)).take 1 = [.int .i64 e2], (e2 == ((k : Nat) : Int)) = true, 0 ≤ i ∧ i < ((v1.length : Nat) : Int), g1 = g1, ((0 + (Int.toNat i) * 1) + 1) ≤ (rowI v1).length, g1 = g1, InR .i64 (((k : Nat) : Int) + 1)]) hE.2.1 (hE.nogh _) mixed (by kernel_rfl) ⟨o0, o2, o3, (by decide), o6, (rfl), (rfl), o9, o11, o12, o13, o14, o15, o16, o17, o18, (rfl), o21, o22, o23, o25, (rfl), o27, (rfl), o29, trivial⟩ hg
theorem p80p_1_5 (s : Stl) (ends : (List Int)) (pa : Int) (oa : Int) (plan : (List Int)) (i : Int) (all : Int) (v1 : List Int) (v2_0 : Int) (v2_1 : Int) (v2_2 : (List Trn)) (k : Nat) (g1 : Nat) (te : Trn) (e : Int) (e1 : Int) (e2 : Int)  {E : Env} {rv : AV} (hE : PureE Try.prog 80 rv E) (o0 : (decide (((k : Nat) : Int) < ((v2_2.length : Nat) : Int))) = true) (o2 : 0 ≤ ((k : Nat) : Int) ∧ ((k : Nat) : Int) < ((v2_2.length : Nat) : Int)) (o3 : ((rowTrn v2_2).drop (0 + (Int.toNat ((k : Nat) : Int)) * 2)).take 2 = [.int .i64 te.w, .int .i64 te.to]) (o6 : 0 ≤ te.to ∧ te.to < ((v1.length : Nat) : Int)) (o9 : ((rowI v1).drop (0 + (Int.toNat te.to) * 1)).take 1 = [.int .i64 e]) (o11 : 0 ≤ te.to ∧ te.to < ((((measR (measA s)).1).length : Nat) : Int)) (o12 : ((rowI ((measR (measA s)).1)).drop (0 + (Int.toNat te.to) * 1)).take 1 = [.int .i64 e1]) (o13 : InR .i64 (Int.tdiv all e1)) (o14 : e1 ≠ 0) (o15 : InR .i64 (e * (Int.tdiv all e1))) (o16 : (v2_0 == 3) = false) (o17 : (v2_0 == 1) = false) (o18 : plan.length ≠ 0) (o21 : 0 ≤ i ∧ i < ((plan.length : Nat) : Int)) (o22 : ((rowI plan).drop (0 + (Int.toNat i) * 1)).take 1 = [.int .i64 e2]) (o23 : (e2 == ((k : Nat) : Int)) = false) (o24 : InR .i64 (((k : Nat) : Int) + 1))
    (hg : G Try.prog E (f80pK1 Try.prog) ⟨[.junk, .rsl (rowI ends) 0 ends.length, .int .i64 pa, .int .i64 oa, .rsl (rowI plan) 0 plan.length, .ptr 0 0 0, .junk, .junk, .junk, .junk, .junk, .rsl (rowI ((measR (measA s)).1)) 0 (((measR (measA s)).1).length), .junk, .sl 1 g1 0 v1.length 1, .int .i64 i, .ptr 2 0 0, .int .i64 all, .int .i64 (((k : Nat) : Int) + 1), .junk, .junk, .junk, .junk, .junk, .junk, .junk, .junk, .junk, .junk, .junk, .junk, .junk, .junk, .junk, .junk, .junk, .junk, .junk, .junk, .junk, .junk, .junk, .junk, .junk, .junk, .junk, .junk, .junk, .junk, .junk, .junk, .junk, .junk, .junk, .junk, .junk, .junk, .junk, .junk, .junk, .junk, .junk, .junk, .junk, .junk, .junk, .junk, .junk, .junk, .junk, .junk, .junk, .junk, .junk, .junk, .junk, .junk, .junk, .junk, .junk, .junk, .junk, .junk, .junk, .junk, .junk, .junk, .junk, .junk, .junk, .junk, .junk, .junk, .junk, .junk, .junk, .junk, .junk, .junk, .junk, .junk, .junk, .junk, .junk, .junk, .junk, .junk, .junk, .junk, .junk, .junk, .junk, .junk, .junk, .junk, .junk, .junk, .junk, .junk, .junk, .junk, .junk, .junk, .junk, .junk, .junk, .junk, .junk, .junk, .junk, .junk, .junk, .junk, .junk, .junk, .junk, .junk, .junk, .junk, .junk, .junk, .junk, .junk, .junk, .junk, .junk, .junk, .junk, .junk, .junk, .junk, .junk, .junk], [⟨true, 0, 1, true, [.rsl (rowStg s.stages) 0 s.stages.length, .rsl (rowI s.worth) 0 s.worth.length, .int .i64 s.price], false⟩, ⟨true, g1, 1, true, (rowI v1), true⟩, ⟨true, 0, 1, true, [.int .i64 v2_0, .int .i64 v2_1, .rsl (rowTrn v2_2) 0 v2_2.length], false⟩]⟩) : G Try.prog E (f80pK1 Try.prog) (f80pS1 s ends pa oa plan i all v1 v2_0 v2_1 v2_2 k g1) :=
  segC_step (n := 400) (ds := []) (cs := []) (live := [1, 2, 3, 4, 5, 11, 13, 14, 15, 16, 17]) (m := 3) (evs := [.b true, .auto, .ld (.agg [.int .i64 te.w, .int .i64 te.to]), .auto, .ld (.int .i64 e), .auto, .ld (.int .i64 e1), .b false, .b false, .b true, .ld (.int .i64 e2), .b false, .stop]) (obs := [(decide (((k : Nat) : Int) < ((v2_2.length : Nat) : Int))) = true, 0 ≤ ((k : Nat) : Int) ∧ ((k : Nat) : Int) < ((v2_2.length : Nat) : Int), ((rowTrn v2_2).drop (0 + (Int.toNat ((k : Nat) : Int)) * 2)).take 2 = [.int .i64 te.w, .int .i64 te.to], 2 ≤ 2, 0 ≤ te.to ∧ te.to < ((v1.length : Nat) : Int), g1 = g1, g1 = g1, ((rowI v1).drop (0 + (Int.toNat te.to) * 1)).take 1 = [.int .i64 e], 0 ≤ te.to ∧ te.to < ((((measR (measA s)).1).length : Nat) : Int), ((rowI ((measR (measA s)).1)).drop (0 + (Int.toNat te.to) * 1)).take 1 = [.int .i64 e1], InR .i64 (Int.tdiv all e1), e1 ≠ 0, InR .i64 (e * (Int.tdiv all e1)), (v2_0 == 3) = false, (v2_0 == 1) = false, plan.length ≠ 0, true = true, 0 ≤ i ∧ i < ((plan.length : Nat) : Int), ((rowI plan).drop (0 + (Int.toNat i) * 1)).take 1 = [.int .i64 e2], (e2 == ((k : Nat) : Int)) = false, InR .i64 (((k : Nat) : Int) + 1)]) hE.2.1 (hE.nogh _) mixed (by kernel_rfl) ⟨o0, o2, o3, (by decide), o6, (rfl), (rfl), o9, o11, o12, o13, o14, o15, o16, o17, o18, (rfl), o21, o22, o23, o24, trivial⟩ hg
theorem p80p_1_6 (s : Stl) (ends : (List Int)) (pa : Int) (oa : Int) (plan : (List Int)) (i : Int) (all : Int) (v1 : List Int) (v2_0 : Int) (v2_1 : Int) (v2_2 : (List Trn)) (k : Nat) (g1 : Nat)  {E : Env} {rv : AV} (hE : PureE Try.prog 80 rv E) (o0 : (decide (((k : Nat) : Int) < ((v2_2.length : Nat) : Int))) = false) (o1 : InR .i64 (i - 1))
    (hg : G Try.prog E (f80pK0 Try.prog) ⟨[.junk, .rsl (rowI ends) 0 ends.length, .int .i64 pa, .int .i64 oa, .rsl (rowI plan) 0 plan.length, .ptr 0 0 0, .junk, .junk, .junk, .junk, .junk, .rsl (rowI ((measR (measA s)).1)) 0 (((measR (measA s)).1).length), .junk, .sl 1 g1 0 v1.length 1, .int .i64 (i - 1), .junk, .junk, .junk, .junk, .junk, .junk, .junk, .junk, .junk, .junk, .junk, .junk, .junk, .junk, .junk, .junk, .junk, .junk, .junk, .junk, .junk, .junk, .junk, .junk, .junk, .junk, .junk, .junk, .junk, .junk, .junk, .junk, .junk, .junk, .junk, .junk, .junk, .junk, .junk, .junk, .junk, .junk, .junk, .junk, .junk, .junk, .junk, .junk, .junk, .junk, .junk, .junk, .junk, .junk, .junk, .junk, .junk, .junk, .junk, .junk, .junk, .junk, .junk, .junk, .junk, .junk, .junk, .junk, .junk, .junk, .junk, .junk, .junk, .junk, .junk, .junk, .junk, .junk, .junk, .junk, .junk, .junk, .junk, .junk, .junk, .junk, .junk, .junk, .junk, .junk, .junk, .junk, .junk, .junk, .junk, .junk, .junk, .junk, .junk, .junk, .junk, .junk, .junk, .junk, .junk, .junk, .junk, .junk, .junk, .junk, .junk, .junk, .junk, .junk, .junk, .junk, .junk, .junk, .junk, .junk, .junk, .junk, .junk, .junk, .junk, .junk, .junk, .junk, .junk, .junk, .junk, .junk, .junk, .junk, .junk, .junk, .junk], [⟨true, 0, 1, true, [.rsl (rowStg s.stages) 0 s.stages.length, .rsl (rowI s.worth) 0 s.worth.length, .int .i64 s.price], false⟩, ⟨true, g1, 1, true, (rowI v1), true⟩]⟩) : G Try.prog E (f80pK1 Try.prog) (f80pS1 s ends pa oa plan i all v1 v2_0 v2_1 v2_2 k g1) :=
  segC_step (n := 400) (ds := []) (cs := []) (live := [1, 2, 3, 4, 5, 11, 13, 14]) (m := 2) (evs := [.b false, .stop]) (obs := [(decide (((k : Nat) : Int) < ((v2_2.length : Nat) : Int))) = false, InR .i64 (i - 1)]) hE.2.1 (hE.nogh _) mixed (by kernel_rfl) ⟨o0, o1, trivial⟩ hg
theorem f80pW1 (s : Stl) (ends : (List Int)) (pa : Int) (oa : Int) (plan : (List Int)) (i : Int) (all : Int) (v1 : List Int) (v2_0 : Int) (v2_1 : Int) (v2_2 : (List Trn)) (k : Nat) {E : Env} {rv : (List Int)} (hE : PureE Try.prog 80 (.rsl (rowI rv) 0 rv.length) E)
    (h : ((((k : Nat) : Int) < ((v2_2.length : Nat) : Int) → (∃ te : Trn, v2_2[k]? = some te ∧ (0 ≤ te.to ∧ (∃ e : Int, v1[Int.toNat te.to]? = some e ∧ (0 ≤ te.to ∧ (∃ e1 : Int, ((measR (measA s)).1)[Int.toNat te.to]? = some e1 ∧ ((-9223372036854775808 ≤ Int.tdiv all e1 ∧ Int.tdiv all e1 ≤ 9223372036854775807) ∧ (e1 ≠ 0 ∧ ((-9223372036854775808 ≤ e * (Int.tdiv all e1) ∧ e * (Int.tdiv all e1) ≤ 9223372036854775807) ∧ ((v2_0 = 3 → ((v2_0 = 1 → (0 ≤ i ∧ (∃ e2 : Int, v1[Int.toNat i]? = some e2 ∧ ((-9223372036854775808 ≤ (e * (Int.tdiv all e1)) * te.w ∧ (e * (Int.tdiv all e1)) * te.w ≤ 9223372036854775807) ∧ ((-9223372036854775808 ≤ e2 + ((e * (Int.tdiv all e1)) * te.w) ∧ e2 + ((e * (Int.tdiv all e1)) * te.w) ≤ 9223372036854775807) ∧ ((-9223372036854775808 ≤ ((k : Nat) : Int) + 1 ∧ ((k : Nat) : Int) + 1 ≤ 9223372036854775807) ∧ f80pG1 E s ends pa oa plan i all (v1.set (Int.toNat i) (e2 + ((e * (Int.tdiv all e1)) * te.w))) v2_0 v2_1 v2_2 (k + 1))))))) ∧ (¬ (v2_0 = 1) → (plan.length ≠ 0 ∧ (0 ≤ i ∧ (∃ e2 : Int, plan[Int.toNat i]? = some e2 ∧ ((e2 = ((k : Nat) : Int) → (0 ≤ i ∧ (∃ e3 : Int, v1[Int.toNat i]? = some e3 ∧ ((-9223372036854775808 ≤ ((k : Nat) : Int) + 1 ∧ ((k : Nat) : Int) + 1 ≤ 9223372036854775807) ∧ f80pG1 E s ends pa oa plan i all (v1.set (Int.toNat i) (e * (Int.tdiv all e1))) v2_0 v2_1 v2_2 (k + 1))))) ∧ (¬ (e2 = ((k : Nat) : Int)) → ((-9223372036854775808 ≤ ((k : Nat) : Int) + 1 ∧ ((k : Nat) : Int) + 1 ≤ 9223372036854775807) ∧ f80pG1 E s ends pa oa plan i all v1 v2_0 v2_1 v2_2 (k + 1)))))))))) ∧ (¬ (v2_0 = 3) → ((v2_0 = 1 → (0 ≤ i ∧ (∃ e2 : Int, v1[Int.toNat i]? = some e2 ∧ ((-9223372036854775808 ≤ (e * (Int.tdiv all e1)) * te.w ∧ (e * (Int.tdiv all e1)) * te.w ≤ 9223372036854775807) ∧ ((-9223372036854775808 ≤ e2 + ((e * (Int.tdiv all e1)) * te.w) ∧ e2 + ((e * (Int.tdiv all e1)) * te.w) ≤ 9223372036854775807) ∧ ((-9223372036854775808 ≤ ((k : Nat) : Int) + 1 ∧ ((k : Nat) : Int) + 1 ≤ 9223372036854775807) ∧ f80pG1 E s ends pa oa plan i all (v1.set (Int.toNat i) (e2 + ((e * (Int.tdiv all e1)) * te.w))) v2_0 v2_1 v2_2 (k + 1))))))) ∧ (¬ (v2_0 = 1) → (plan.length ≠ 0 ∧ (0 ≤ i ∧ (∃ e2 : Int, plan[Int.toNat i]? = some e2 ∧ ((e2 = ((k : Nat) : Int) → (0 ≤ i ∧ (∃ e3 : Int, v1[Int.toNat i]? = some e3 ∧ ((-9223372036854775808 ≤ ((k : Nat) : Int) + 1 ∧ ((k : Nat) : Int) + 1 ≤ 9223372036854775807) ∧ f80pG1 E s ends pa oa plan i all (v1.set (Int.toNat i) (e * (Int.tdiv all e1))) v2_0 v2_1 v2_2 (k + 1))))) ∧ (¬ (e2 = ((k : Nat) : Int)) → ((-9223372036854775808 ≤ ((k : Nat) : Int) + 1 ∧ ((k : Nat) : Int) + 1 ≤ 9223372036854775807) ∧ f80pG1 E s ends pa oa plan i all v1 v2_0 v2_1 v2_2 (k + 1)))))))))))))))))))) ∧ (¬ (((k : Nat) : Int) < ((v2_2.length : Nat) : Int)) → ((-9223372036854775808 ≤ i - 1 ∧ i - 1 ≤ 9223372036854775807) ∧ f80pG0 E s ends pa oa plan v1 (i - 1))))) : f80pG1 E s ends pa oa plan i all v1 v2_0 v2_1 v2_2 k := by
  intro g1
  rcases Bool.eq_false_or_eq_true (decide (((k : Nat) : Int) < ((v2_2.length : Nat) : Int))) with hc0 | hc0
  · have h := h.1 (of_decide_eq_true hc0)
    obtain ⟨te, h1, h⟩ := h
    obtain ⟨h3, h⟩ := h
    obtain ⟨e, h2, h⟩ := h
    obtain ⟨h5, h⟩ := h
    obtain ⟨e1, h4, h⟩ := h
    obtain ⟨q13_1, h⟩ := h
    obtain ⟨q14_1, h⟩ := h
    obtain ⟨q15_1, h⟩ := h
    rcases Bool.eq_false_or_eq_true (v2_0 == 3) with hc1 | hc1
    · have h := h.1 (eq_of_beq hc1)
      rcases Bool.eq_false_or_eq_true (v2_0 == 1) with hc2 | hc2
      · have h := h.1 (eq_of_beq hc2)
        obtain ⟨h7, h⟩ := h
        obtain ⟨e2, h6, h⟩ := h
        obtain ⟨q23_3, h⟩ := h
        obtain ⟨q24_3, h⟩ := h
        obtain ⟨q29_3, h⟩ := h
        refine p80p_1_0 s ends pa oa plan i all v1 v2_0 v2_1 v2_2 k g1 te e e1 e2 hE hc0 (idx_ok h1) (row_part cTrn (s := 2) (k := 0) (m := 2) (fun _ => rfl) (by decide) h1) (idx_ok' h3 h2) (row_part cI (s := 1) (k := 0) (m := 1) (fun _ => rfl) (by decide) h2) (idx_ok' h5 h4) (row_part cI (s := 1) (k := 0) (m := 1) (fun _ => rfl) (by decide) h4) q13_1 q14_1 q15_1 hc1 hc2 (idx_ok' h7 h6) (row_part cI (s := 1) (k := 0) (m := 1) (fun _ => rfl) (by decide) h6) q23_3 q24_3 (idx_ok' h7 h6) (row_fits cI (s := 1) (k := 0) (m := 1) (fun _ => rfl) (by decide) h6) q29_3 ?_
        have h := (h g1)
        simp only [f80pS1, List.length_set] at h
        rw [(show setAt (rowI v1) (0 + (Int.toNat i) * 1) [.int .i64 (e2 + ((e * (Int.tdiv all e1)) * te.w))] = rowI (v1.set (Int.toNat i) (e2 + ((e * (Int.tdiv all e1)) * te.w))) from row_set cI (s := 1) (k := 0) (fun _ => rfl) h6 rfl (by first | decide | simp))]
        exact h
      · have h := h.2 (ne_of_beq_false hc2)
        obtain ⟨q18_3, h⟩ := h
        obtain ⟨h7, h⟩ := h
        obtain ⟨e2, h6, h⟩ := h
        rcases Bool.eq_false_or_eq_true (e2 == ((k : Nat) : Int)) with hc3 | hc3
        · have h := h.1 (eq_of_beq hc3)
          obtain ⟨h9, h⟩ := h
          obtain ⟨e3, h8, h⟩ := h
          obtain ⟨q29_4, h⟩ := h
          refine p80p_1_1 s ends pa oa plan i all v1 v2_0 v2_1 v2_2 k g1 te e e1 e2 e3 hE hc0 (idx_ok h1) (row_part cTrn (s := 2) (k := 0) (m := 2) (fun _ => rfl) (by decide) h1) (idx_ok' h3 h2) (row_part cI (s := 1) (k := 0) (m := 1) (fun _ => rfl) (by decide) h2) (idx_ok' h5 h4) (row_part cI (s := 1) (k := 0) (m := 1) (fun _ => rfl) (by decide) h4) q13_1 q14_1 q15_1 hc1 hc2 q18_3 (idx_ok' h7 h6) (row_part cI (s := 1) (k := 0) (m := 1) (fun _ => rfl) (by decide) h6) hc3 (idx_ok' h9 h8) (row_fits cI (s := 1) (k := 0) (m := 1) (fun _ => rfl) (by decide) h8) q29_4 ?_
          have h := (h g1)
          simp only [f80pS1, List.length_set] at h
          rw [(show setAt (rowI v1) (0 + (Int.toNat i) * 1) [.int .i64 (e * (Int.tdiv all e1))] = rowI (v1.set (Int.toNat i) (e * (Int.tdiv all e1))) from row_set cI (s := 1) (k := 0) (fun _ => rfl) h8 rfl (by first | decide | simp))]
          exact h
        · have h := h.2 (ne_of_beq_false hc3)
          obtain ⟨q24_4, h⟩ := h
          exact p80p_1_2 s ends pa oa plan i all v1 v2_0 v2_1 v2_2 k g1 te e e1 e2 hE hc0 (idx_ok h1) (row_part cTrn (s := 2) (k := 0) (m := 2) (fun _ => rfl) (by decide) h1) (idx_ok' h3 h2) (row_part cI (s := 1) (k := 0) (m := 1) (fun _ => rfl) (by decide) h2) (idx_ok' h5 h4) (row_part cI (s := 1) (k := 0) (m := 1) (fun _ => rfl) (by decide) h4) q13_1 q14_1 q15_1 hc1 hc2 q18_3 (idx_ok' h7 h6) (row_part cI (s := 1) (k := 0) (m := 1) (fun _ => rfl) (by decide) h6) hc3 q24_4 (h g1)
    · have h := h.2 (ne_of_beq_false hc1)
      rcases Bool.eq_false_or_eq_true (v2_0 == 1) with hc2 | hc2
      · have h := h.1 (eq_of_beq hc2)
        obtain ⟨h7, h⟩ := h
        obtain ⟨e2, h6, h⟩ := h
        obtain ⟨q23_3, h⟩ := h
        obtain ⟨q24_3, h⟩ := h
        obtain ⟨q29_3, h⟩ := h
        refine p80p_1_3 s ends pa oa plan i all v1 v2_0 v2_1 v2_2 k g1 te e e1 e2 hE hc0 (idx_ok h1) (row_part cTrn (s := 2) (k := 0) (m := 2) (fun _ => rfl) (by decide) h1) (idx_ok' h3 h2) (row_part cI (s := 1) (k := 0) (m := 1) (fun _ => rfl) (by decide) h2) (idx_ok' h5 h4) (row_part cI (s := 1) (k := 0) (m := 1) (fun _ => rfl) (by decide) h4) q13_1 q14_1 q15_1 hc1 hc2 (idx_ok' h7 h6) (row_part cI (s := 1) (k := 0) (m := 1) (fun _ => rfl) (by decide) h6) q23_3 q24_3 (idx_ok' h7 h6) (row_fits cI (s := 1) (k := 0) (m := 1) (fun _ => rfl) (by decide) h6) q29_3 ?_
        have h := (h g1)
        simp only [f80pS1, List.length_set] at h
        rw [(show setAt (rowI v1) (0 + (Int.toNat i) * 1) [.int .i64 (e2 + ((e * (Int.tdiv all e1)) * te.w))] = rowI (v1.set (Int.toNat i) (e2 + ((e * (Int.tdiv all e1)) * te.w))) from row_set cI (s := 1) (k := 0) (fun _ => rfl) h6 rfl (by first | decide | simp))]
        exact h
      · have h := h.2 (ne_of_beq_false hc2)
        obtain ⟨q18_3, h⟩ := h
        obtain ⟨h7, h⟩ := h
        obtain ⟨e2, h6, h⟩ := h
        rcases Bool.eq_false_or_eq_true (e2 == ((k : Nat) : Int)) with hc3 | hc3
        · have h := h.1 (eq_of_beq hc3)
          obtain ⟨h9, h⟩ := h
          obtain ⟨e3, h8, h⟩ := h
          obtain ⟨q29_4, h⟩ := h
          refine p80p_1_4 s ends pa oa plan i all v1 v2_0 v2_1 v2_2 k g1 te e e1 e2 e3 hE hc0 (idx_ok h1) (row_part cTrn (s := 2) (k := 0) (m := 2) (fun _ => rfl) (by decide) h1) (idx_ok' h3 h2) (row_part cI (s := 1) (k := 0) (m := 1) (fun _ => rfl) (by decide) h2) (idx_ok' h5 h4) (row_part cI (s := 1) (k := 0) (m := 1) (fun _ => rfl) (by decide) h4) q13_1 q14_1 q15_1 hc1 hc2 q18_3 (idx_ok' h7 h6) (row_part cI (s := 1) (k := 0) (m := 1) (fun _ => rfl) (by decide) h6) hc3 (idx_ok' h9 h8) (row_fits cI (s := 1) (k := 0) (m := 1) (fun _ => rfl) (by decide) h8) q29_4 ?_
          have h := (h g1)
          simp only [f80pS1, List.length_set] at h
          rw [(show setAt (rowI v1) (0 + (Int.toNat i) * 1) [.int .i64 (e * (Int.tdiv all e1))] = rowI (v1.set (Int.toNat i) (e * (Int.tdiv all e1))) from row_set cI (s := 1) (k := 0) (fun _ => rfl) h8 rfl (by first | decide | simp))]
          exact h
        · have h := h.2 (ne_of_beq_false hc3)
          obtain ⟨q24_4, h⟩ := h
          exact p80p_1_5 s ends pa oa plan i all v1 v2_0 v2_1 v2_2 k g1 te e e1 e2 hE hc0 (idx_ok h1) (row_part cTrn (s := 2) (k := 0) (m := 2) (fun _ => rfl) (by decide) h1) (idx_ok' h3 h2) (row_part cI (s := 1) (k := 0) (m := 1) (fun _ => rfl) (by decide) h2) (idx_ok' h5 h4) (row_part cI (s := 1) (k := 0) (m := 1) (fun _ => rfl) (by decide) h4) q13_1 q14_1 q15_1 hc1 hc2 q18_3 (idx_ok' h7 h6) (row_part cI (s := 1) (k := 0) (m := 1) (fun _ => rfl) (by decide) h6) hc3 q24_4 (h g1)
  · have h := h.2 (of_decide_eq_false hc0)
    obtain ⟨q1_1, h⟩ := h
    exact p80p_1_6 s ends pa oa plan i all v1 v2_0 v2_1 v2_2 k g1  hE hc0 q1_1 (h g1)

set_option maxHeartbeats 2000000 in
theorem valuesp_ok (s : Stl) (w : Int → Int) (pa oa : Int) (plan : List Int) (h : checkK s = 0 ∧ plan.length = s.stages.length) (hw : WOk (machG s) w (fun i _ => planI plan i)) : Pure Try.prog 80 [.agg [.rsl (rowStg s.stages) 0 s.stages.length, .rsl (rowI s.worth) 0 s.worth.length, .int .i64 s.price], .rsl (rowI (endsI s w)) 0 (endsI s w).length, .int .i64 pa, .int .i64 oa, .rsl (rowI plan) 0 plan.length] (.rsl (rowI (valuesP s w plan)) 0 (valuesP s w plan).length) := pure_of Try.func80 f80pb fun E hE => by
  obtain ⟨hm, es⟩ := mok_G (isSome_of h.1)
  have hme := measR_of (isSome_of h.1)
  have hrv : (valuesP s w plan) = (valA (machG s) w (fun i _ => planI plan i)).1 := rfl
  have hlen := h.2
  have hz : valA (machG s) w (fun i _ => planI plan i) = valN (machG s) w (fun i _ => planI plan i) s.stages.length (zeros s.stages.length, zeros s.stages.length) := by rw [valA, es]
  have hp0 := val_ok0 hm
  generalize hmm : machG s = m at *
  have hform := (stPre_of hm.st).2.2.2.2
  have hn := (stPre_of hm.st).1
  rw [es] at hform hn hp0
  have key : ∀ (n : Nat) (p : List Int × List Int), n ≤ s.stages.length → VOk m n p → valA m w (fun i _ => planI plan i) = valN m w (fun i _ => planI plan i) n p → f80pG0 E s (endsI s w) pa oa plan p.1 ((n : Int) - 1) := by
    intro n
    induction n with
    | zero =>
      intro p hn hp ha
      exact f80pW0 s (endsI s w) pa oa plan p.1 _ (rv := (valuesP s w plan)) hE ⟨fun h => by omega, fun _ => by rw [hrv, ha, valN]⟩
    | succ i ih =>
      intro p hn' hp ha
      have hi : s.stages[i]? = some s.stages[i] := List.getElem?_eq_getElem (by omega)
      have hx : s.stages.getD i ⟨0, 0, []⟩ = s.stages[i] := by simp [List.getD, hi]
      have en : Int.toNat ((i : Nat) : Int) = i := Int.toNat_natCast i
      have e0 : ((i + 1 : Nat) : Int) - 1 = (i : Int) := by omega
      have hp2 := val_step hm hw (by rw [es]; omega) hp
      have nx := ih (valStep m w (fun i _ => planI plan i) i p) (by omega) hp2 (by rw [ha, valN])
      have hfo := form_of hi (hform i (by omega))
      have hto := turns_to hi (hform i (by omega))
      have htt := tot_of hi (hform i (by omega))
      have hv0 : p.1[i]? = some 0 := by
        have := getD_some (l := p.1) (i := i) (by rw [hp.l1, es]; omega)
        rw [hp.lo i (by omega)] at this; exact this
      have hi' : m.s.stages[i]? = some s.stages[i] := by rw [es]; exact hi
      obtain ⟨q, q1, q2, q3, q4⟩ := hm.inv.rel i _ (by omega) hi'
      have hend := ends_at (w := w) hi
      have hch := fun (l : List Int) (h4 : s.stages[i].kind ≠ 4) (h1 : s.stages[i].kind ≠ 1) (hl : l.length = s.stages[i].turns.length) (h0 : 0 < l.length) => hw.c1 i _ l hi' h4 h1 hl h0
      skip
      unfold valStep at nx
      rw [es, hx] at nx
      generalize s.stages[i] = x at hi hi' hx nx hfo hto htt q2 q4 hend hch 
      rw [e0]
      have hme2 : ((measR (measA s)).1)[Int.toNat (i : Int)]? = some (if x.kind = 1 then q * totI x else q) := by rw [hme, en]; exact q2
      have htail : x.kind ≠ 4 → f80pG1 E s (endsI s w) pa oa plan (i : Int) q p.1 x.kind x.prize x.turns 0 := by
        intro h4
        rw [if_neg h4] at nx
        have hlen : 1 ≤ x.turns.length ∧ x.turns.length ≤ 8 := by
          rcases hfo with ⟨h, -⟩ | ⟨-, -, h, -⟩
          · exact absurd h h4
          · exact h
        have hall := next_all hm hi' hp q1
        have hl : (nextI m i p.1 x.turns).length = x.turns.length := by simp [nextI]
        have htot := fun (h1 : x.kind = 1) (u : Int) (hu : m.meas[i]? = some u) => sum_bd hm hi' hp h1 hu
        -- what a turn is worth
        have turn : ∀ (k : Nat), k < x.turns.length → ∃ te e e1, x.turns[k]? = some te ∧ 0 ≤ te.to ∧ i < Int.toNat te.to ∧ p.1[Int.toNat te.to]? = some e ∧ m.meas[Int.toNat te.to]? = some e1 ∧ (nextI m i p.1 x.turns)[k]? = some (e * Int.tdiv q e1) ∧ (0 < e1 ∧ e1 ≤ 1000000000000) ∧ (0 ≤ Int.tdiv q e1 ∧ Int.tdiv q e1 ≤ 1000000000000) ∧ 0 ≤ e * Int.tdiv q e1 ∧ e * Int.tdiv q e1 ≤ 10000 * q := by
          intro k hk
          have hkk : x.turns[k]? = some x.turns[k] := List.getElem?_eq_getElem hk
          have htm := List.mem_of_getElem? hkk
          have hN : (nextI m i p.1 x.turns)[k]? = some (p.1.getD (Int.toNat x.turns[k].to) 0 * Int.tdiv (m.mult.getD i 0) (m.meas.getD (Int.toNat x.turns[k].to) 0)) := by rw [nextI, List.getElem?_map, hkk]; rfl
          generalize x.turns[k] = te at hkk htm hN
          obtain ⟨q', u, n1, n2, n3, n4, n5, n6, n7, n8, n9⟩ := next_bd hm hi' hp htm
          rw [q1] at n1; cases n1
          have ht := hto te htm
          rw [getD_of q1, getD_of n2] at hN
          exact ⟨te, _, u, hkk, ht.2.2, ht.1, getD_some (by rw [hp.l1, es]; exact ht.2.1), n2, hN, n4, ⟨n6, by omega⟩, n8, n9⟩
        generalize nextI m i p.1 x.turns = N at nx hall hl htot turn
        by_cases h1 : x.kind = 1
        · -- a chance
          rw [if_pos h1] at nx
          rw [if_pos h1] at q2
          have tb := htot h1 _ q2
          have mb := hm.inv.pos i _ (by omega) q2
          generalize q * totI x = u at q2 tb mb
          rw [hp.lo i (by omega), Int.zero_add] at nx
          have loop : ∀ (d k : Nat) (vs : List Int) (a : Int), k + d = x.turns.length → vs.length = s.stages.length → vs[i]? = some a → 0 ≤ a → a + sumW (x.turns.drop k) (N.drop k) = sumW x.turns N → p.1.set i (sumW x.turns N) = vs.set i (sumW x.turns N) → (∀ j, i < j → vs[j]? = p.1[j]?) → f80pG1 E s (endsI s w) pa oa plan (i : Int) q vs x.kind x.prize x.turns k := by
            intro d
            induction d with
            | zero =>
              intro k vs a hd hvl hva ha0 hsum hset hge
              rw [List.drop_eq_nil_of_le (by omega), sumW, Int.add_zero] at hsum
              rw [← hsum] at hset
              rw [set_same hva] at hset
              refine f80pW1 s (endsI s w) pa oa plan (i : Int) q vs x.kind x.prize x.turns k (rv := (valuesP s w plan)) hE ⟨fun h => by omega, fun _ => ⟨by omega, ?_⟩⟩
              rw [← hset, hsum]; exact nx
              all_goals simp
            | succ d ih2 =>
              intro k vs a hd hvl hva ha0 hsum hset hge
              obtain ⟨te, e, e1, hk, t0, t1, t2, t3, hN, t4, t5, t6, t7⟩ := turn k (by omega)
              have ek : x.turns.drop k = te :: x.turns.drop (k + 1) := by
                rw [List.drop_eq_getElem_cons (by omega)]; congr 1
                have := List.getElem?_eq_getElem (l := x.turns) (i := k) (by omega)
                rw [hk] at this; exact (Option.some.inj this).symm
              have eN : N.drop k = (e * Int.tdiv q e1) :: N.drop (k + 1) := by
                rw [List.drop_eq_getElem_cons (by omega)]; congr 1
                have := List.getElem?_eq_getElem (l := N) (i := k) (by omega)
                rw [hN] at this; exact (Option.some.inj this).symm
              rw [ek, eN, sumW] at hsum
              have rest := sumW_bd (ts := x.turns.drop (k + 1)) (es := N.drop (k + 1)) (B := 10000 * q) (fun e he => hall e (List.mem_of_mem_drop he)) (fun t ht => (htt.1.2 t (List.mem_of_mem_drop ht)).1) (by simp [hl])
              have b1 := (htt.1.2 _ (List.mem_of_getElem? hk)).1
              have b3 := Int.mul_nonneg b1 t6
              have nxt := ih2 (k + 1) (vs.set i (a + e * Int.tdiv q e1 * te.w)) (a + e * Int.tdiv q e1 * te.w) (by omega) (by simp [hvl]) (by rw [List.getElem?_set_self (by omega)]) (by rw [Int.mul_comm]; omega) (by rw [Int.mul_comm _ te.w]; omega) (by rw [List.set_set]; exact hset) (fun j hj => by rw [List.getElem?_set_ne (by omega)]; exact hge j hj)
              have b4 : te.w * (e * Int.tdiv q e1) = e * Int.tdiv q e1 * te.w := Int.mul_comm _ _
              rw [b4] at hsum b3
              refine f80pW1 s (endsI s w) pa oa plan (i : Int) q vs x.kind x.prize x.turns k (rv := (valuesP s w plan)) hE ⟨fun _ => ⟨te, hk, t0, e, by rw [hge _ t1]; exact t2, t0, e1, by rw [hme]; exact t3, by omega, by omega, by omega, fun h3 => by omega, fun _ => ⟨fun _ => ⟨by omega, a, by rw [en]; exact hva, by omega, by omega, by omega, by rw [en]; exact nxt⟩, fun h => absurd h1 h⟩⟩, fun h => by omega⟩
          exact loop x.turns.length 0 p.1 0 (by omega) (by rw [hp.l1, es]) hv0 (by omega) (by simp) rfl (fun j hj => rfl)
        · -- who chooses
          rw [if_neg h1] at nx

          have hc : 0 ≤ planI plan (i : Int) ∧ Int.toNat (planI plan (i : Int)) < N.length := hch N h4 h1 hl (by omega)
          have nx : f80pG0 E s (endsI s w) pa oa plan (p.1.set i (N.getD (Int.toNat (planI plan (i : Int))) 0)) ((i : Int) - 1) := nx
          have hpl : plan[i]? = some (planI plan (i : Int)) := by rw [planI, en]; exact getD_some (by omega)
          generalize planI plan (i : Int) = c at hc hpl nx
          have loop : ∀ (d k : Nat) (vs : List Int), k + d = x.turns.length → (k ≤ Int.toNat c → vs = p.1) → (Int.toNat c < k → vs = p.1.set i (N.getD (Int.toNat c) 0)) → f80pG1 E s (endsI s w) pa oa plan (i : Int) q vs x.kind x.prize x.turns k := by
            intro d
            induction d with
            | zero =>
              intro k vs hd hv1 hv2
              refine f80pW1 s (endsI s w) pa oa plan (i : Int) q vs x.kind x.prize x.turns k (rv := valuesP s w plan) hE ⟨fun h => by omega, fun _ => ⟨by omega, ?_⟩⟩
              rw [hv2 (by omega)]; exact nx
            | succ d ih2 =>
              intro k vs hd hv1 hv2
              obtain ⟨te, e, e1, hk, t0, t1, t2, t3, hN, t4, t5, t6, t7⟩ := turn k (by omega)
              have hvt : vs[Int.toNat te.to]? = some e := by
                rcases Nat.lt_or_ge (Int.toNat c) k with h0 | h0
                · rw [hv2 h0, List.getElem?_set_ne (by omega)]; exact t2
                · rw [hv1 h0]; exact t2
              have hvi : ∃ e2, vs[i]? = some e2 := by
                rcases Nat.lt_or_ge (Int.toNat c) k with h0 | h0
                · exact ⟨_, by rw [hv2 h0, List.getElem?_set_self (by rw [hp.l1, es]; omega)]⟩
                · exact ⟨0, by rw [hv1 h0]; exact hv0⟩
              obtain ⟨e2, hv⟩ := hvi
              have yes : c = (k : Int) → f80pG1 E s (endsI s w) pa oa plan (i : Int) q (vs.set i (e * Int.tdiv q e1)) x.kind x.prize x.turns (k + 1) := fun h => ih2 (k + 1) _ (by omega) (fun h => by omega) (fun _ => by rw [hv1 (by omega), show Int.toNat c = k by omega, getD_of hN])
              have no : ¬ (c = (k : Int)) → f80pG1 E s (endsI s w) pa oa plan (i : Int) q vs x.kind x.prize x.turns (k + 1) := fun h => ih2 (k + 1) _ (by omega) (fun h => hv1 (by omega)) (fun h => hv2 (by omega))
              refine f80pW1 s (endsI s w) pa oa plan (i : Int) q vs x.kind x.prize x.turns k (rv := valuesP s w plan) hE ⟨fun _ => ⟨te, hk, t0, e, hvt, t0, e1, by rw [hme]; exact t3, by omega, by omega, by omega, fun h3 => ⟨fun h => absurd h h1, fun _ => ⟨by omega, by omega, c, by rw [en]; exact hpl, fun h => ⟨by omega, e2, by rw [en]; exact hv, by omega, by rw [en]; exact yes h⟩, fun h => ⟨by omega, no h⟩⟩⟩, fun h3 => ⟨fun h => absurd h h1, fun _ => ⟨by omega, by omega, c, by rw [en]; exact hpl, fun h => ⟨by omega, e2, by rw [en]; exact hv, by omega, by rw [en]; exact yes h⟩, fun h => ⟨by omega, no h⟩⟩⟩⟩, fun h => by omega⟩
          exact loop x.turns.length 0 p.1 (by omega) (fun _ => rfl) (fun h => by omega)
      refine f80pW0 s (endsI s w) pa oa plan p.1 (i : Int) (rv := (valuesP s w plan)) hE ⟨fun _ => ⟨by omega, x, by rw [en]; exact hi, fun h4 => ⟨by omega, _, by rw [en]; exact hend, by omega, _, by rw [en]; exact hv0, by omega, ?_⟩, fun h4 => ⟨by omega, _, hme2, fun h1 => ⟨htt.1, ?_⟩, fun h1 => ?_⟩⟩, fun h => by omega⟩
      · rw [en]
        by_cases hpr : x.prize ≥ 0
        · rw [if_pos h4, if_pos hpr] at nx
          rw [if_pos ⟨h4, hpr⟩]; exact nx
        · rw [if_pos h4, if_neg hpr] at nx
          rw [if_neg (fun h => hpr h.2), set_same hv0]; exact nx
      · have h0 := htt.2 h1
        rw [if_pos h1]
        have : Int.tdiv (q * totI x) (totI x) = q := Int.mul_tdiv_cancel _ (by omega)
        rw [this]
        exact ⟨by omega, by omega, htail h4⟩
      · rw [if_neg h1]; exact htail h4
  have e : f80pG0 E s (endsI s w) pa oa plan (zeros s.stages.length) ((s.stages.length : Int) - 1) := key s.stages.length (zeros s.stages.length, zeros s.stages.length) (Nat.le_refl _) hp0 hz
  exact f80pW s (endsI s w) pa oa plan (rv := (valuesP s w plan)) hE ⟨⟨by omega, hform⟩, by omega, by omega, by rw [Int.toNat_natCast]; exact e⟩

end Go.Proofs.Ytfgmlaeikcfpbaa

namespace Go.Proofs.Ytfgmlaeikcfpbaa
open Go Ax
open Go.Proofs

abbrev avStl (s : Stl) : AV := .agg [.rsl (rowStg s.stages) 0 s.stages.length, .rsl (rowI s.worth) 0 s.worth.length, .int .i64 s.price]
theorem valuesPO_ok (s : Stl) (kd pa oa : Int) (plan : List Int) (h : checkK s = 0 ∧ planOk s plan = true) : Pure Try.prog 80 [avStl s, .rsl (rowI (endsI s (onlyI kd))) 0 (endsI s (onlyI kd)).length, .int .i64 pa, .int .i64 oa, .rsl (rowI plan) 0 plan.length] (.rsl (rowI (valuesP s (onlyI kd) plan)) 0 (valuesP s (onlyI kd) plan).length) :=
  valuesp_ok s (onlyI kd) pa oa plan ⟨h.1, (planOk_of h.2).1⟩ (wok_plan (by rw [(mok_G (isSome_of h.1)).2]; exact h.2))
theorem checkK_no {s : Stl} (h : ¬ (checkK s = 0)) : checkK s = 60 := by
  unfold checkK at *
  split
  · rename_i h1; rw [if_pos h1] at h; omega
  · rfl
theorem isSome_iff {s : Stl} : (machI s).isSome = true ↔ checkK s = 0 := by
  unfold checkK; split <;> simp_all
def planE (s : Stl) (plan : List Int) : Int := if checkK s = 0 then (if planOk s plan = true then 0 else 1) else 60
theorem planE_of {s : Stl} {plan : List Int} (h : planE s plan = 0) : checkK s = 0 ∧ planOk s plan = true := by
  unfold planE at h
  split at h
  · rename_i h0
    split at h
    · rename_i h1; exact ⟨h0, h1⟩
    · omega
  · omega

/-! ### The end values of a machine, turn by turn -/
structure Aims where
  kind : Int
  player : Int
  operator : Int
theorem f30b : Try.f30.body = some (bodyAt Try.prog 30) := by kernel_rfl
def f30K0 (P : Program) : List Item := kAt 400 [.code (bodyAt P 30)] [.b false, .b false, .stop]
def f30S0 (s : Stl) (plan : (List Int)) (i : Nat)  : St := ⟨[.junk, .rsl (rowI plan) 0 plan.length, .ptr 0 0 0, .junk, .junk, .junk, .int .i64 ((i : Nat) : Int), .junk, .junk, .junk, .junk, .junk, .junk, .junk, .junk, .junk, .junk, .junk, .junk, .junk, .junk, .junk, .junk, .junk, .junk, .junk, .junk, .junk, .junk, .junk, .junk, .junk, .junk, .junk, .junk, .junk, .junk, .junk, .junk, .junk, .junk, .junk, .junk, .junk, .junk, .junk, .junk, .junk, .junk, .junk], [⟨true, 0, 1, true, [.rsl (rowStg s.stages) 0 s.stages.length, .rsl (rowI s.worth) 0 s.worth.length, .int .i64 s.price], false⟩]⟩
def f30G0 (E : Env) (s : Stl) (plan : (List Int)) (i : Nat) : Prop := G Try.prog E (f30K0 Try.prog) (f30S0 s plan i )
theorem p30_start_0 (s : Stl) (plan : (List Int))   {E : Env} {res : AV} (hE : PureE Try.prog 30 res E) (o0 : PureF Try.prog (.clos 19 [] []) [.agg [.rsl (rowStg s.stages) 0 s.stages.length, .rsl (rowI s.worth) 0 s.worth.length, .int .i64 s.price]] (.int .i64 (checkK s))) (o1 : ((checkK s) != 0) = true)
    (hr : AvLe (.int .i64 (checkK s)) res) : G Try.prog E [.code (bodyAt Try.prog 30)] ⟨[.agg [.rsl (rowStg s.stages) 0 s.stages.length, .rsl (rowI s.worth) 0 s.worth.length, .int .i64 s.price], .rsl (rowI plan) 0 plan.length] ++ unds (Try.f30.ntmps - 2), []⟩ :=
  end_stepL (n := 400) (evs := [.v (.int .i64 (checkK s)), .b true]) (obs := [PureF Try.prog (.clos 19 [] []) [.agg [.rsl (rowStg s.stages) 0 s.stages.length, .rsl (rowI s.worth) 0 s.worth.length, .int .i64 s.price]] (.int .i64 (checkK s)), ((checkK s) != 0) = true]) hE Try.func30 mixed (by kernel_rfl) ⟨o0, o1, trivial⟩ hr
theorem p30_start_1 (s : Stl) (plan : (List Int))   {E : Env} {res : AV} (hE : PureE Try.prog 30 res E) (o0 : PureF Try.prog (.clos 19 [] []) [.agg [.rsl (rowStg s.stages) 0 s.stages.length, .rsl (rowI s.worth) 0 s.worth.length, .int .i64 s.price]] (.int .i64 (checkK s))) (o1 : ((checkK s) != 0) = false) (o2 : (((plan.length : Nat) : Int) != ((s.stages.length : Nat) : Int)) = true)
    (hr : AvLe (.int .i64 1) res) : G Try.prog E [.code (bodyAt Try.prog 30)] ⟨[.agg [.rsl (rowStg s.stages) 0 s.stages.length, .rsl (rowI s.worth) 0 s.worth.length, .int .i64 s.price], .rsl (rowI plan) 0 plan.length] ++ unds (Try.f30.ntmps - 2), []⟩ :=
  end_stepL (n := 400) (evs := [.v (.int .i64 (checkK s)), .b false, .b true]) (obs := [PureF Try.prog (.clos 19 [] []) [.agg [.rsl (rowStg s.stages) 0 s.stages.length, .rsl (rowI s.worth) 0 s.worth.length, .int .i64 s.price]] (.int .i64 (checkK s)), ((checkK s) != 0) = false, (((plan.length : Nat) : Int) != ((s.stages.length : Nat) : Int)) = true]) hE Try.func30 mixed (by kernel_rfl) ⟨o0, o1, o2, trivial⟩ hr
theorem p30_start_2 (s : Stl) (plan : (List Int))   {E : Env} {rv : AV} (hE : PureE Try.prog 30 rv E) (o0 : PureF Try.prog (.clos 19 [] []) [.agg [.rsl (rowStg s.stages) 0 s.stages.length, .rsl (rowI s.worth) 0 s.worth.length, .int .i64 s.price]] (.int .i64 (checkK s))) (o1 : ((checkK s) != 0) = false) (o2 : (((plan.length : Nat) : Int) != ((s.stages.length : Nat) : Int)) = false)
    (hg : G Try.prog E (f30K0 Try.prog) ⟨[.junk, .rsl (rowI plan) 0 plan.length, .ptr 0 0 0, .junk, .junk, .junk, .int .i64 0, .junk, .junk, .junk, .junk, .junk, .junk, .junk, .junk, .junk, .junk, .junk, .junk, .junk, .junk, .junk, .junk, .junk, .junk, .junk, .junk, .junk, .junk, .junk, .junk, .junk, .junk, .junk, .junk, .junk, .junk, .junk, .junk, .junk, .junk, .junk, .junk, .junk, .junk, .junk, .junk, .junk, .junk, .junk], [⟨true, 0, 1, true, [.rsl (rowStg s.stages) 0 s.stages.length, .rsl (rowI s.worth) 0 s.worth.length, .int .i64 s.price], false⟩]⟩) : G Try.prog E [.code (bodyAt Try.prog 30)] ⟨[.agg [.rsl (rowStg s.stages) 0 s.stages.length, .rsl (rowI s.worth) 0 s.worth.length, .int .i64 s.price], .rsl (rowI plan) 0 plan.length] ++ unds (Try.f30.ntmps - 2), []⟩ :=
  segC_step (n := 400) (ds := []) (cs := []) (live := [1, 2, 6]) (m := 1) (evs := [.v (.int .i64 (checkK s)), .b false, .b false, .stop]) (obs := [PureF Try.prog (.clos 19 [] []) [.agg [.rsl (rowStg s.stages) 0 s.stages.length, .rsl (rowI s.worth) 0 s.worth.length, .int .i64 s.price]] (.int .i64 (checkK s)), ((checkK s) != 0) = false, (((plan.length : Nat) : Int) != ((s.stages.length : Nat) : Int)) = false]) hE.2.1 (hE.nogh _) mixed (by kernel_rfl) ⟨o0, o1, o2, trivial⟩ hg
theorem f30W (s : Stl) (plan : (List Int)) {E : Env} {rv : Int} (hE : PureE Try.prog 30 (.int .i64 rv) E)
    (h : ((s.stages.length ≤ 9223372036854775807 ∧ s.worth.length ≤ 9223372036854775807) ∧ ((¬ ((checkK s) = 0) → rv = (checkK s)) ∧ ((checkK s) = 0 → ((¬ (((plan.length : Nat) : Int) = ((s.stages.length : Nat) : Int)) → rv = 1) ∧ (((plan.length : Nat) : Int) = ((s.stages.length : Nat) : Int) → f30G0 E s plan 0)))))) : G Try.prog E [.code (bodyAt Try.prog 30)] ⟨[.agg [.rsl (rowStg s.stages) 0 s.stages.length, .rsl (rowI s.worth) 0 s.worth.length, .int .i64 s.price], .rsl (rowI plan) 0 plan.length] ++ unds (Try.f30.ntmps - 2), []⟩ := by
  obtain ⟨h1, h⟩ := h
  rcases Bool.eq_false_or_eq_true ((checkK s) != 0) with hc0 | hc0
  · have h := h.1 (bneT hc0)
    exact p30_start_0 s plan    hE (pureF_of Try.func19 (by kernel_rfl) f19b (checkR_ok s h1)) hc0 (AvLe.of_eq (by rw [h]; try rfl))
  · have h := h.2 (bneF hc0)
    rcases Bool.eq_false_or_eq_true (((plan.length : Nat) : Int) != ((s.stages.length : Nat) : Int)) with hc1 | hc1
    · have h := h.1 (bneT hc1)
      exact p30_start_1 s plan    hE (pureF_of Try.func19 (by kernel_rfl) f19b (checkR_ok s h1)) hc0 hc1 (AvLe.of_eq (by rw [h]; try rfl))
    · have h := h.2 (bneF hc1)
      exact p30_start_2 s plan    hE (pureF_of Try.func19 (by kernel_rfl) f19b (checkR_ok s h1)) hc0 hc1 h
theorem p30_0_0 (s : Stl) (plan : (List Int)) (i : Nat)  (se : Stg) (e : Int)  {E : Env} {res : AV} (hE : PureE Try.prog 30 res E) (o0 : (decide (((i : Nat) : Int) < ((plan.length : Nat) : Int))) = true) (o2 : 0 ≤ ((i : Nat) : Int) ∧ ((i : Nat) : Int) < ((s.stages.length : Nat) : Int)) (o3 : ((rowStg s.stages).drop (0 + (Int.toNat ((i : Nat) : Int)) * 3)).take 3 = [.int .i64 se.kind, .int .i64 se.prize, .rsl (rowTrn se.turns) 0 se.turns.length]) (o5 : (se.kind == 2) = true) (o7 : InR .i64 (((se.turns.length : Nat) : Int) - 1)) (o9 : 0 ≤ ((i : Nat) : Int) ∧ ((i : Nat) : Int) < ((plan.length : Nat) : Int)) (o10 : ((rowI plan).drop (0 + (Int.toNat ((i : Nat) : Int)) * 1)).take 1 = [.int .i64 e]) (o11 : PureF Try.prog (.clos 62 [] []) [.int .i64 e, .int .i64 0, .int .i64 (((se.turns.length : Nat) : Int) - 1)] (.bool (within e 0 (((se.turns.length : Nat) : Int) - 1)))) (o12 : (!(within e 0 (((se.turns.length : Nat) : Int) - 1))) = true)
    (hr : AvLe (.int .i64 1) res) : G Try.prog E (f30K0 Try.prog) (f30S0 s plan i ) :=
  end_stepL (n := 400) (evs := [.b true, .auto, .ld (.agg [.int .i64 se.kind, .int .i64 se.prize, .rsl (rowTrn se.turns) 0 se.turns.length]), .b true, .b true, .auto, .ld (.int .i64 e), .v (.bool (within e 0 (((se.turns.length : Nat) : Int) - 1))), .b true]) (obs := [(decide (((i : Nat) : Int) < ((plan.length : Nat) : Int))) = true, 0 ≤ ((i : Nat) : Int) ∧ ((i : Nat) : Int) < ((s.stages.length : Nat) : Int), ((rowStg s.stages).drop (0 + (Int.toNat ((i : Nat) : Int)) * 3)).take 3 = [.int .i64 se.kind, .int .i64 se.prize, .rsl (rowTrn se.turns) 0 se.turns.length], 3 ≤ 3, (se.kind == 2) = true, true = true, InR .i64 (((se.turns.length : Nat) : Int) - 1), 0 ≤ ((i : Nat) : Int) ∧ ((i : Nat) : Int) < ((plan.length : Nat) : Int), ((rowI plan).drop (0 + (Int.toNat ((i : Nat) : Int)) * 1)).take 1 = [.int .i64 e], PureF Try.prog (.clos 62 [] []) [.int .i64 e, .int .i64 0, .int .i64 (((se.turns.length : Nat) : Int) - 1)] (.bool (within e 0 (((se.turns.length : Nat) : Int) - 1))), (!(within e 0 (((se.turns.length : Nat) : Int) - 1))) = true]) hE Try.func30 mixed (by kernel_rfl) ⟨o0, o2, o3, (by decide), o5, (rfl), o7, o9, o10, o11, o12, trivial⟩ hr
theorem p30_0_1 (s : Stl) (plan : (List Int)) (i : Nat)  (se : Stg) (e : Int)  {E : Env} {rv : AV} (hE : PureE Try.prog 30 rv E) (o0 : (decide (((i : Nat) : Int) < ((plan.length : Nat) : Int))) = true) (o2 : 0 ≤ ((i : Nat) : Int) ∧ ((i : Nat) : Int) < ((s.stages.length : Nat) : Int)) (o3 : ((rowStg s.stages).drop (0 + (Int.toNat ((i : Nat) : Int)) * 3)).take 3 = [.int .i64 se.kind, .int .i64 se.prize, .rsl (rowTrn se.turns) 0 se.turns.length]) (o5 : (se.kind == 2) = true) (o7 : InR .i64 (((se.turns.length : Nat) : Int) - 1)) (o9 : 0 ≤ ((i : Nat) : Int) ∧ ((i : Nat) : Int) < ((plan.length : Nat) : Int)) (o10 : ((rowI plan).drop (0 + (Int.toNat ((i : Nat) : Int)) * 1)).take 1 = [.int .i64 e]) (o11 : PureF Try.prog (.clos 62 [] []) [.int .i64 e, .int .i64 0, .int .i64 (((se.turns.length : Nat) : Int) - 1)] (.bool (within e 0 (((se.turns.length : Nat) : Int) - 1)))) (o12 : (!(within e 0 (((se.turns.length : Nat) : Int) - 1))) = false) (o13 : InR .i64 (((i : Nat) : Int) + 1))
    (hg : G Try.prog E (f30K0 Try.prog) ⟨[.junk, .rsl (rowI plan) 0 plan.length, .ptr 0 0 0, .junk, .junk, .junk, .int .i64 (((i : Nat) : Int) + 1), .junk, .junk, .junk, .junk, .junk, .junk, .junk, .junk, .junk, .junk, .junk, .junk, .junk, .junk, .junk, .junk, .junk, .junk, .junk, .junk, .junk, .junk, .junk, .junk, .junk, .junk, .junk, .junk, .junk, .junk, .junk, .junk, .junk, .junk, .junk, .junk, .junk, .junk, .junk, .junk, .junk, .junk, .junk], [⟨true, 0, 1, true, [.rsl (rowStg s.stages) 0 s.stages.length, .rsl (rowI s.worth) 0 s.worth.length, .int .i64 s.price], false⟩]⟩) : G Try.prog E (f30K0 Try.prog) (f30S0 s plan i ) :=
  segC_step (n := 400) (ds := []) (cs := []) (live := [1, 2, 6]) (m := 1) (evs := [.b true, .auto, .ld (.agg [.int .i64 se.kind, .int .i64 se.prize, .rsl (rowTrn se.turns) 0 se.turns.length]), .b true, .b true, .auto, .ld (.int .i64 e), .v (.bool (within e 0 (((se.turns.length : Nat) : Int) - 1))), .b false, .stop]) (obs := [(decide (((i : Nat) : Int) < ((plan.length : Nat) : Int))) = true, 0 ≤ ((i : Nat) : Int) ∧ ((i : Nat) : Int) < ((s.stages.length : Nat) : Int), ((rowStg s.stages).drop (0 + (Int.toNat ((i : Nat) : Int)) * 3)).take 3 = [.int .i64 se.kind, .int .i64 se.prize, .rsl (rowTrn se.turns) 0 se.turns.length], 3 ≤ 3, (se.kind == 2) = true, true = true, InR .i64 (((se.turns.length : Nat) : Int) - 1), 0 ≤ ((i : Nat) : Int) ∧ ((i : Nat) : Int) < ((plan.length : Nat) : Int), ((rowI plan).drop (0 + (Int.toNat ((i : Nat) : Int)) * 1)).take 1 = [.int .i64 e], PureF Try.prog (.clos 62 [] []) [.int .i64 e, .int .i64 0, .int .i64 (((se.turns.length : Nat) : Int) - 1)] (.bool (within e 0 (((se.turns.length : Nat) : Int) - 1))), (!(within e 0 (((se.turns.length : Nat) : Int) - 1))) = false, InR .i64 (((i : Nat) : Int) + 1)]) hE.2.1 (hE.nogh _) mixed (by kernel_rfl) ⟨o0, o2, o3, (by decide), o5, (rfl), o7, o9, o10, o11, o12, o13, trivial⟩ hg
theorem p30_0_2 (s : Stl) (plan : (List Int)) (i : Nat)  (se : Stg) (e : Int)  {E : Env} {res : AV} (hE : PureE Try.prog 30 res E) (o0 : (decide (((i : Nat) : Int) < ((plan.length : Nat) : Int))) = true) (o2 : 0 ≤ ((i : Nat) : Int) ∧ ((i : Nat) : Int) < ((s.stages.length : Nat) : Int)) (o3 : ((rowStg s.stages).drop (0 + (Int.toNat ((i : Nat) : Int)) * 3)).take 3 = [.int .i64 se.kind, .int .i64 se.prize, .rsl (rowTrn se.turns) 0 se.turns.length]) (o5 : (se.kind == 2) = false) (o6 : (se.kind == 3) = true) (o7 : InR .i64 (((se.turns.length : Nat) : Int) - 1)) (o9 : 0 ≤ ((i : Nat) : Int) ∧ ((i : Nat) : Int) < ((plan.length : Nat) : Int)) (o10 : ((rowI plan).drop (0 + (Int.toNat ((i : Nat) : Int)) * 1)).take 1 = [.int .i64 e]) (o11 : PureF Try.prog (.clos 62 [] []) [.int .i64 e, .int .i64 0, .int .i64 (((se.turns.length : Nat) : Int) - 1)] (.bool (within e 0 (((se.turns.length : Nat) : Int) - 1)))) (o12 : (!(within e 0 (((se.turns.length : Nat) : Int) - 1))) = true)
    (hr : AvLe (.int .i64 1) res) : G Try.prog E (f30K0 Try.prog) (f30S0 s plan i ) :=
  end_stepL (n := 400) (evs := [.b true, .auto, .ld (.agg [.int .i64 se.kind, .int .i64 se.prize, .rsl (rowTrn se.turns) 0 se.turns.length]), .b false, .b true, .auto, .ld (.int .i64 e), .v (.bool (within e 0 (((se.turns.length : Nat) : Int) - 1))), .b true]) (obs := [(decide (((i : Nat) : Int) < ((plan.length : Nat) : Int))) = true, 0 ≤ ((i : Nat) : Int) ∧ ((i : Nat) : Int) < ((s.stages.length : Nat) : Int), ((rowStg s.stages).drop (0 + (Int.toNat ((i : Nat) : Int)) * 3)).take 3 = [.int .i64 se.kind, .int .i64 se.prize, .rsl (rowTrn se.turns) 0 se.turns.length], 3 ≤ 3, (se.kind == 2) = false, (se.kind == 3) = true, InR .i64 (((se.turns.length : Nat) : Int) - 1), 0 ≤ ((i : Nat) : Int) ∧ ((i : Nat) : Int) < ((plan.length : Nat) : Int), ((rowI plan).drop (0 + (Int.toNat ((i : Nat) : Int)) * 1)).take 1 = [.int .i64 e], PureF Try.prog (.clos 62 [] []) [.int .i64 e, .int .i64 0, .int .i64 (((se.turns.length : Nat) : Int) - 1)] (.bool (within e 0 (((se.turns.length : Nat) : Int) - 1))), (!(within e 0 (((se.turns.length : Nat) : Int) - 1))) = true]) hE Try.func30 mixed (by kernel_rfl) ⟨o0, o2, o3, (by decide), o5, o6, o7, o9, o10, o11, o12, trivial⟩ hr
theorem p30_0_3 (s : Stl) (plan : (List Int)) (i : Nat)  (se : Stg) (e : Int)  {E : Env} {rv : AV} (hE : PureE Try.prog 30 rv E) (o0 : (decide (((i : Nat) : Int) < ((plan.length : Nat) : Int))) = true) (o2 : 0 ≤ ((i : Nat) : Int) ∧ ((i : Nat) : Int) < ((s.stages.length : Nat) : Int)) (o3 : ((rowStg s.stages).drop (0 + (Int.toNat ((i : Nat) : Int)) * 3)).take 3 = [.int .i64 se.kind, .int .i64 se.prize, .rsl (rowTrn se.turns) 0 se.turns.length]) (o5 : (se.kind == 2) = false) (o6 : (se.kind == 3) = true) (o7 : InR .i64 (((se.turns.length : Nat) : Int) - 1)) (o9 : 0 ≤ ((i : Nat) : Int) ∧ ((i : Nat) : Int) < ((plan.length : Nat) : Int)) (o10 : ((rowI plan).drop (0 + (Int.toNat ((i : Nat) : Int)) * 1)).take 1 = [.int .i64 e]) (o11 : PureF Try.prog (.clos 62 [] []) [.int .i64 e, .int .i64 0, .int .i64 (((se.turns.length : Nat) : Int) - 1)] (.bool (within e 0 (((se.turns.length : Nat) : Int) - 1)))) (o12 : (!(within e 0 (((se.turns.length : Nat) : Int) - 1))) = false) (o13 : InR .i64 (((i : Nat) : Int) + 1))
    (hg : G Try.prog E (f30K0 Try.prog) ⟨[.junk, .rsl (rowI plan) 0 plan.length, .ptr 0 0 0, .junk, .junk, .junk, .int .i64 (((i : Nat) : Int) + 1), .junk, .junk, .junk, .junk, .junk, .junk, .junk, .junk, .junk, .junk, .junk, .junk, .junk, .junk, .junk, .junk, .junk, .junk, .junk, .junk, .junk, .junk, .junk, .junk, .junk, .junk, .junk, .junk, .junk, .junk, .junk, .junk, .junk, .junk, .junk, .junk, .junk, .junk, .junk, .junk, .junk, .junk, .junk], [⟨true, 0, 1, true, [.rsl (rowStg s.stages) 0 s.stages.length, .rsl (rowI s.worth) 0 s.worth.length, .int .i64 s.price], false⟩]⟩) : G Try.prog E (f30K0 Try.prog) (f30S0 s plan i ) :=
  segC_step (n := 400) (ds := []) (cs := []) (live := [1, 2, 6]) (m := 1) (evs := [.b true, .auto, .ld (.agg [.int .i64 se.kind, .int .i64 se.prize, .rsl (rowTrn se.turns) 0 se.turns.length]), .b false, .b true, .auto, .ld (.int .i64 e), .v (.bool (within e 0 (((se.turns.length : Nat) : Int) - 1))), .b false, .stop]) (obs := [(decide (((i : Nat) : Int) < ((plan.length : Nat) : Int))) = true, 0 ≤ ((i : Nat) : Int) ∧ ((i : Nat) : Int) < ((s.stages.length : Nat) : Int), ((rowStg s.stages).drop (0 + (Int.toNat ((i : Nat) : Int)) * 3)).take 3 = [.int .i64 se.kind, .int .i64 se.prize, .rsl (rowTrn se.turns) 0 se.turns.length], 3 ≤ 3, (se.kind == 2) = false, (se.kind == 3) = true, InR .i64 (((se.turns.length : Nat) : Int) - 1), 0 ≤ ((i : Nat) : Int) ∧ ((i : Nat) : Int) < ((plan.length : Nat) : Int), ((rowI plan).drop (0 + (Int.toNat ((i : Nat) : Int)) * 1)).take 1 = [.int .i64 e], PureF Try.prog (.clos 62 [] []) [.int .i64 e, .int .i64 0, .int .i64 (((se.turns.length : Nat) : Int) - 1)] (.bool (within e 0 (((se.turns.length : Nat) : Int) - 1))), (!(within e 0 (((se.turns.length : Nat) : Int) - 1))) = false, InR .i64 (((i : Nat) : Int) + 1)]) hE.2.1 (hE.nogh _) mixed (by kernel_rfl) ⟨o0, o2, o3, (by decide), o5, o6, o7, o9, o10, o11, o12, o13, trivial⟩ hg
theorem p30_0_4 (s : Stl) (plan : (List Int)) (i : Nat)  (se : Stg) (e : Int)  {E : Env} {res : AV} (hE : PureE Try.prog 30 res E) (o0 : (decide (((i : Nat) : Int) < ((plan.length : Nat) : Int))) = true) (o2 : 0 ≤ ((i : Nat) : Int) ∧ ((i : Nat) : Int) < ((s.stages.length : Nat) : Int)) (o3 : ((rowStg s.stages).drop (0 + (Int.toNat ((i : Nat) : Int)) * 3)).take 3 = [.int .i64 se.kind, .int .i64 se.prize, .rsl (rowTrn se.turns) 0 se.turns.length]) (o5 : (se.kind == 2) = false) (o6 : (se.kind == 3) = false) (o8 : 0 ≤ ((i : Nat) : Int) ∧ ((i : Nat) : Int) < ((plan.length : Nat) : Int)) (o9 : ((rowI plan).drop (0 + (Int.toNat ((i : Nat) : Int)) * 1)).take 1 = [.int .i64 e]) (o10 : PureF Try.prog (.clos 62 [] []) [.int .i64 e, .int .i64 0, .int .i64 0] (.bool (within e 0 0))) (o11 : (!(within e 0 0)) = true)
    (hr : AvLe (.int .i64 1) res) : G Try.prog E (f30K0 Try.prog) (f30S0 s plan i ) :=
  end_stepL (n := 400) (evs := [.b true, .auto, .ld (.agg [.int .i64 se.kind, .int .i64 se.prize, .rsl (rowTrn se.turns) 0 se.turns.length]), .b false, .b false, .ld (.int .i64 e), .v (.bool (within e 0 0)), .b true]) (obs := [(decide (((i : Nat) : Int) < ((plan.length : Nat) : Int))) = true, 0 ≤ ((i : Nat) : Int) ∧ ((i : Nat) : Int) < ((s.stages.length : Nat) : Int), ((rowStg s.stages).drop (0 + (Int.toNat ((i : Nat) : Int)) * 3)).take 3 = [.int .i64 se.kind, .int .i64 se.prize, .rsl (rowTrn se.turns) 0 se.turns.length], 3 ≤ 3, (se.kind == 2) = false, (se.kind == 3) = false, 0 ≤ ((i : Nat) : Int) ∧ ((i : Nat) : Int) < ((plan.length : Nat) : Int), ((rowI plan).drop (0 + (Int.toNat ((i : Nat) : Int)) * 1)).take 1 = [.int .i64 e], PureF Try.prog (.clos 62 [] []) [.int .i64 e, .int .i64 0, .int .i64 0] (.bool (within e 0 0)), (!(within e 0 0)) = true]) hE Try.func30 mixed (by kernel_rfl) ⟨o0, o2, o3, (by decide), o5, o6, o8, o9, o10, o11, trivial⟩ hr
theorem p30_0_5 (s : Stl) (plan : (List Int)) (i : Nat)  (se : Stg) (e : Int)  {E : Env} {rv : AV} (hE : PureE Try.prog 30 rv E) (o0 : (decide (((i : Nat) : Int) < ((plan.length : Nat) : Int))) = true) (o2 : 0 ≤ ((i : Nat) : Int) ∧ ((i : Nat) : Int) < ((s.stages.length : Nat) : Int)) (o3 : ((rowStg s.stages).drop (0 + (Int.toNat ((i : Nat) : Int)) * 3)).take 3 = [.int .i64 se.kind, .int .i64 se.prize, .rsl (rowTrn se.turns) 0 se.turns.length]) (o5 : (se.kind == 2) = false) (o6 : (se.kind == 3) = false) (o8 : 0 ≤ ((i : Nat) : Int) ∧ ((i : Nat) : Int) < ((plan.length : Nat) : Int)) (o9 : ((rowI plan).drop (0 + (Int.toNat ((i : Nat) : Int)) * 1)).take 1 = [.int .i64 e]) (o10 : PureF Try.prog (.clos 62 [] []) [.int .i64 e, .int .i64 0, .int .i64 0] (.bool (within e 0 0))) (o11 : (!(within e 0 0)) = false) (o12 : InR .i64 (((i : Nat) : Int) + 1))
    (hg : G Try.prog E (f30K0 Try.prog) ⟨[.junk, .rsl (rowI plan) 0 plan.length, .ptr 0 0 0, .junk, .junk, .junk, .int .i64 (((i : Nat) : Int) + 1), .junk, .junk, .junk, .junk, .junk, .junk, .junk, .junk, .junk, .junk, .junk, .junk, .junk, .junk, .junk, .junk, .junk, .junk, .junk, .junk, .junk, .junk, .junk, .junk, .junk, .junk, .junk, .junk, .junk, .junk, .junk, .junk, .junk, .junk, .junk, .junk, .junk, .junk, .junk, .junk, .junk, .junk, .junk], [⟨true, 0, 1, true, [.rsl (rowStg s.stages) 0 s.stages.length, .rsl (rowI s.worth) 0 s.worth.length, .int .i64 s.price], false⟩]⟩) : G Try.prog E (f30K0 Try.prog) (f30S0 s plan i ) :=
  segC_step (n := 400) (ds := []) (cs := []) (live := [1, 2, 6]) (m := 1) (evs := [.b true, .auto, .ld (.agg [.int .i64 se.kind, .int .i64 se.prize, .rsl (rowTrn se.turns) 0 se.turns.length]), .b false, .b false, .ld (.int .i64 e), .v (.bool (within e 0 0)), .b false, .stop]) (obs := [(decide (((i : Nat) : Int) < ((plan.length : Nat) : Int))) = true, 0 ≤ ((i : Nat) : Int) ∧ ((i : Nat) : Int) < ((s.stages.length : Nat) : Int), ((rowStg s.stages).drop (0 + (Int.toNat ((i : Nat) : Int)) * 3)).take 3 = [.int .i64 se.kind, .int .i64 se.prize, .rsl (rowTrn se.turns) 0 se.turns.length], 3 ≤ 3, (se.kind == 2) = false, (se.kind == 3) = false, 0 ≤ ((i : Nat) : Int) ∧ ((i : Nat) : Int) < ((plan.length : Nat) : Int), ((rowI plan).drop (0 + (Int.toNat ((i : Nat) : Int)) * 1)).take 1 = [.int .i64 e], PureF Try.prog (.clos 62 [] []) [.int .i64 e, .int .i64 0, .int .i64 0] (.bool (within e 0 0)), (!(within e 0 0)) = false, InR .i64 (((i : Nat) : Int) + 1)]) hE.2.1 (hE.nogh _) mixed (by kernel_rfl) ⟨o0, o2, o3, (by decide), o5, o6, o8, o9, o10, o11, o12, trivial⟩ hg
theorem p30_0_6 (s : Stl) (plan : (List Int)) (i : Nat)   {E : Env} {res : AV} (hE : PureE Try.prog 30 res E) (o0 : (decide (((i : Nat) : Int) < ((plan.length : Nat) : Int))) = false)
    (hr : AvLe (.int .i64 0) res) : G Try.prog E (f30K0 Try.prog) (f30S0 s plan i ) :=
  end_stepL (n := 400) (evs := [.b false]) (obs := [(decide (((i : Nat) : Int) < ((plan.length : Nat) : Int))) = false]) hE Try.func30 mixed (by kernel_rfl) ⟨o0, trivial⟩ hr
theorem f30W0 (s : Stl) (plan : (List Int)) (i : Nat) {E : Env} {rv : Int} (hE : PureE Try.prog 30 (.int .i64 rv) E)
    (h : ((((i : Nat) : Int) < ((plan.length : Nat) : Int) → (∃ se : Stg, s.stages[i]? = some se ∧ ((se.kind = 2 → ((-9223372036854775808 ≤ ((se.turns.length : Nat) : Int) - 1 ∧ ((se.turns.length : Nat) : Int) - 1 ≤ 9223372036854775807) ∧ (∃ e : Int, plan[i]? = some e ∧ (((within e 0 (((se.turns.length : Nat) : Int) - 1)) = false → rv = 1) ∧ ((within e 0 (((se.turns.length : Nat) : Int) - 1)) = true → ((-9223372036854775808 ≤ ((i : Nat) : Int) + 1 ∧ ((i : Nat) : Int) + 1 ≤ 9223372036854775807) ∧ f30G0 E s plan (i + 1))))))) ∧ (¬ (se.kind = 2) → ((se.kind = 3 → ((-9223372036854775808 ≤ ((se.turns.length : Nat) : Int) - 1 ∧ ((se.turns.length : Nat) : Int) - 1 ≤ 9223372036854775807) ∧ (∃ e : Int, plan[i]? = some e ∧ (((within e 0 (((se.turns.length : Nat) : Int) - 1)) = false → rv = 1) ∧ ((within e 0 (((se.turns.length : Nat) : Int) - 1)) = true → ((-9223372036854775808 ≤ ((i : Nat) : Int) + 1 ∧ ((i : Nat) : Int) + 1 ≤ 9223372036854775807) ∧ f30G0 E s plan (i + 1))))))) ∧ (¬ (se.kind = 3) → (∃ e : Int, plan[i]? = some e ∧ (((within e 0 0) = false → rv = 1) ∧ ((within e 0 0) = true → ((-9223372036854775808 ≤ ((i : Nat) : Int) + 1 ∧ ((i : Nat) : Int) + 1 ≤ 9223372036854775807) ∧ f30G0 E s plan (i + 1))))))))))) ∧ (¬ (((i : Nat) : Int) < ((plan.length : Nat) : Int)) → rv = 0))) : f30G0 E s plan i := by
  rcases Bool.eq_false_or_eq_true (decide (((i : Nat) : Int) < ((plan.length : Nat) : Int))) with hc0 | hc0
  · have h := h.1 (of_decide_eq_true hc0)
    obtain ⟨se, h1, h⟩ := h
    rcases Bool.eq_false_or_eq_true (se.kind == 2) with hc1 | hc1
    · have h := h.1 (eq_of_beq hc1)
      obtain ⟨q7_2, h⟩ := h
      obtain ⟨e, h2, h⟩ := h
      rcases Bool.eq_false_or_eq_true (!(within e 0 (((se.turns.length : Nat) : Int) - 1))) with hc2 | hc2
      · have h := h.1 (bnT hc2)
        exact p30_0_0 s plan i  se e hE hc0 (idx_ok h1) (row_part cStg (s := 3) (k := 0) (m := 3) (fun _ => rfl) (by decide) h1) hc1 q7_2 (idx_ok h2) (row_part cI (s := 1) (k := 0) (m := 1) (fun _ => rfl) (by decide) h2) (pureF_of Try.func62 (by kernel_rfl) f62b (withinR_ok e 0 (((se.turns.length : Nat) : Int) - 1))) hc2 (AvLe.of_eq (by rw [h]; try rfl))
      · have h := h.2 (bnF hc2)
        obtain ⟨q13_3, h⟩ := h
        exact p30_0_1 s plan i  se e hE hc0 (idx_ok h1) (row_part cStg (s := 3) (k := 0) (m := 3) (fun _ => rfl) (by decide) h1) hc1 q7_2 (idx_ok h2) (row_part cI (s := 1) (k := 0) (m := 1) (fun _ => rfl) (by decide) h2) (pureF_of Try.func62 (by kernel_rfl) f62b (withinR_ok e 0 (((se.turns.length : Nat) : Int) - 1))) hc2 q13_3 h
    · have h := h.2 (ne_of_beq_false hc1)
      rcases Bool.eq_false_or_eq_true (se.kind == 3) with hc2 | hc2
      · have h := h.1 (eq_of_beq hc2)
        obtain ⟨q7_3, h⟩ := h
        obtain ⟨e, h2, h⟩ := h
        rcases Bool.eq_false_or_eq_true (!(within e 0 (((se.turns.length : Nat) : Int) - 1))) with hc3 | hc3
        · have h := h.1 (bnT hc3)
          exact p30_0_2 s plan i  se e hE hc0 (idx_ok h1) (row_part cStg (s := 3) (k := 0) (m := 3) (fun _ => rfl) (by decide) h1) hc1 hc2 q7_3 (idx_ok h2) (row_part cI (s := 1) (k := 0) (m := 1) (fun _ => rfl) (by decide) h2) (pureF_of Try.func62 (by kernel_rfl) f62b (withinR_ok e 0 (((se.turns.length : Nat) : Int) - 1))) hc3 (AvLe.of_eq (by rw [h]; try rfl))
        · have h := h.2 (bnF hc3)
          obtain ⟨q13_4, h⟩ := h
          exact p30_0_3 s plan i  se e hE hc0 (idx_ok h1) (row_part cStg (s := 3) (k := 0) (m := 3) (fun _ => rfl) (by decide) h1) hc1 hc2 q7_3 (idx_ok h2) (row_part cI (s := 1) (k := 0) (m := 1) (fun _ => rfl) (by decide) h2) (pureF_of Try.func62 (by kernel_rfl) f62b (withinR_ok e 0 (((se.turns.length : Nat) : Int) - 1))) hc3 q13_4 h
      · have h := h.2 (ne_of_beq_false hc2)
        obtain ⟨e, h2, h⟩ := h
        rcases Bool.eq_false_or_eq_true (!(within e 0 0)) with hc3 | hc3
        · have h := h.1 (bnT hc3)
          exact p30_0_4 s plan i  se e hE hc0 (idx_ok h1) (row_part cStg (s := 3) (k := 0) (m := 3) (fun _ => rfl) (by decide) h1) hc1 hc2 (idx_ok h2) (row_part cI (s := 1) (k := 0) (m := 1) (fun _ => rfl) (by decide) h2) (pureF_of Try.func62 (by kernel_rfl) f62b (withinR_ok e 0 0)) hc3 (AvLe.of_eq (by rw [h]; try rfl))
        · have h := h.2 (bnF hc3)
          obtain ⟨q12_4, h⟩ := h
          exact p30_0_5 s plan i  se e hE hc0 (idx_ok h1) (row_part cStg (s := 3) (k := 0) (m := 3) (fun _ => rfl) (by decide) h1) hc1 hc2 (idx_ok h2) (row_part cI (s := 1) (k := 0) (m := 1) (fun _ => rfl) (by decide) h2) (pureF_of Try.func62 (by kernel_rfl) f62b (withinR_ok e 0 0)) hc3 q12_4 h
  · have h := h.2 (of_decide_eq_false hc0)
    exact p30_0_6 s plan i   hE hc0 (AvLe.of_eq (by rw [h]; try rfl))
theorem planE_ok (s : Stl) (plan : List Int) (h : (s.stages.length ≤ 9223372036854775807 ∧ s.worth.length ≤ 9223372036854775807) ∧ plan.length ≤ 9223372036854775807) : Pure Try.prog 30 [avStl s, .rsl (rowI plan) 0 plan.length] (.int .i64 (planE s plan)) := pure_of Try.func30 f30b fun E hE => by
  refine f30W s plan (rv := planE s plan) hE ⟨h.1, fun h0 => ?_, fun h0 => ⟨fun h1 => ?_, fun h1 => ?_⟩⟩
  · rw [planE, if_neg h0, checkK_no h0]
  · rw [planE, if_pos h0, if_neg]
    simp only [planOk, Bool.and_eq_true, decide_eq_true_eq]
    intro hh; omega
  have hl : plan.length = s.stages.length := by omega
  have ⟨hm, es⟩ := mok_G (isSome_of h0)
  have hform := (stPre_of hm.st).2.2.2.2
  rw [es] at hform
  have key : ∀ (d i : Nat), i + d = plan.length → (∀ j, j < i → within (plan.getD j 0) 0 (planMost (s.stages.getD j ⟨0, 0, []⟩)) = true) → f30G0 E s plan i := by
    intro d
    induction d with
    | zero =>
      intro i hd hall
      refine f30W0 s plan i (rv := planE s plan) hE ⟨fun h => by omega, fun _ => ?_⟩
      rw [planE, if_pos h0, if_pos]
      simp only [planOk, hl, decide_true, Bool.true_and]
      exact List.all_eq_true.2 fun j hj => hall j (by have := List.mem_range.1 hj; omega)
    | succ d ih =>
      intro i hd hall
      have hi : s.stages[i]? = some s.stages[i] := List.getElem?_eq_getElem (by omega)
      have hx : s.stages.getD i ⟨0, 0, []⟩ = s.stages[i] := by simp [List.getD, hi]
      have hv : plan[i]? = some (plan.getD i 0) := getD_some (by omega)
      have ht : s.stages[i].turns.length ≤ 8 := by
        rcases form_of hi (hform i (by omega)) with ⟨-, h, -⟩ | ⟨-, -, h, -⟩
        · rw [h]; simp
        · exact h.2
      have nx := ih (i + 1) (by omega)
      have no : within (plan.getD i 0) 0 (planMost (s.stages.getD i ⟨0, 0, []⟩)) = false → planE s plan = 1 := fun h => by
        rw [planE, if_pos h0, if_neg]
        simp only [planOk, hl, decide_true, Bool.true_and, Bool.not_eq_true]
        exact range_all (by omega) h
      have yes : within (plan.getD i 0) 0 (planMost (s.stages.getD i ⟨0, 0, []⟩)) = true → f30G0 E s plan (i + 1) := fun h => nx fun j hj => by
        rcases Nat.lt_or_ge j i with h1 | h1
        · exact hall j h1
        · rw [show j = i by omega]; exact h
      rw [hx] at no yes
      generalize s.stages[i] = x at hi no yes ht
      refine f30W0 s plan i (rv := planE s plan) hE ⟨fun _ => ⟨x, hi, fun h2 => ⟨by omega, _, hv, fun h => no ?_, fun h => ⟨by omega, yes ?_⟩⟩, fun h2 => ⟨fun h3 => ⟨by omega, _, hv, fun h => no ?_, fun h => ⟨by omega, yes ?_⟩⟩, fun h3 => ⟨_, hv, fun h => no ?_, fun h => ⟨by omega, yes ?_⟩⟩⟩⟩, fun h => by omega⟩
      · rw [planMost, if_pos (.inl h2)]; exact h
      · rw [planMost, if_pos (.inl h2)]; exact h
      · rw [planMost, if_pos (.inr h3)]; exact h
      · rw [planMost, if_pos (.inr h3)]; exact h
      · rw [planMost, if_neg (by omega)]; exact h
      · rw [planMost, if_neg (by omega)]; exact h
  exact key plan.length 0 (by omega) (fun j hj => by omega)
end Go.Proofs.Ytfgmlaeikcfpbaa

namespace Go.Proofs.Ytfgmlaeikcfpbaa
open Go Ax
open Go.Proofs

structure Rul where
  tickets : Int
  wins : Int
  n : Int
  need : Int
  hit : Int
  miss : Int
structure Sup where
  kind : Int
  stock : Int
  plays : Int
structure Hnd where
  plan : List Int
  draws : List Int
/-! ### Fractions -/
/-! ### Planned -/
def planL (s : Stl) (plan : List Int) (n : Nat) : List Fr := (List.range n).map fun (k : Nat) => firstI (machG s) (onlyI (k : Int)) (fun i _ => planI plan i)
theorem planL_snoc {s : Stl} {plan : List Int} {n : Nat} : planL s plan (n + 1) = planL s plan n ++ [firstI (machG s) (onlyI (n : Int)) (fun i _ => planI plan i)] := by
  rw [planL, List.range_succ, List.map_append]; rfl
theorem planL_len {s : Stl} {plan : List Int} {n : Nat} : (planL s plan n).length = n := by simp [planL]
def plannedK (s : Stl) (plan : List Int) : List Fr × Int := if planE s plan = 0 then (planL s plan s.worth.length, 0) else ([], planE s plan)
theorem f40b : Try.f40.body = some (bodyAt Try.prog 40) := by kernel_rfl
def f40K0 (P : Program) : List Item := kAt 400 [.code (bodyAt P 40)] [.b false, .stop]
def f40S0 (s : Stl) (plan : (List Int)) (i : Nat) (v2 : List Fr) (g2 : Nat) : St := ⟨[.junk, .junk, .junk, .rptr [.rsl (rowI plan) 0 plan.length] 0, .sl 2 g2 0 v2.length 2, .junk, .rptr [.rsl (rowStg (((machG s).s).stages)) 0 ((((machG s).s).stages).length), .rsl (rowI (((machG s).s).worth)) 0 ((((machG s).s).worth).length), .int .i64 (((machG s).s).price), .rsl (rowI ((machG s).meas)) 0 (((machG s).meas).length), .rsl (rowI ((machG s).mult)) 0 (((machG s).mult).length)] 0, .junk, .junk, .junk, .junk, .junk, .junk, .junk, .junk, .junk, .junk, .junk, .junk, .junk, .junk, .junk, .int .i64 (((((machG s).s).worth).length : Nat) : Int), .int .i64 ((i : Nat) : Int), .junk, .junk, .junk, .junk, .junk, .junk, .junk, .junk, .junk, .junk, .junk, .junk, .junk], [⟨true, 0, 1, true, [.rsl (rowStg s.stages) 0 s.stages.length, .rsl (rowI s.worth) 0 s.worth.length, .int .i64 s.price], false⟩, ⟨false, 1, 1, true, [], false⟩, ⟨true, g2, 2, true, (rowFr v2), true⟩]⟩
def f40G0 (E : Env) (s : Stl) (plan : (List Int)) (i : Nat) (v2 : List Fr) : Prop := ∀ g2 : Nat, G Try.prog E (f40K0 Try.prog) (f40S0 s plan i v2 g2)
theorem p40_start_0 (s : Stl) (plan : (List Int))   {E : Env} {rv : AV} (hE : PureE Try.prog 40 rv E) (o2 : PureF Try.prog (.clos 71 [] []) [.agg [.rsl (rowStg s.stages) 0 s.stages.length, .rsl (rowI s.worth) 0 s.worth.length, .int .i64 s.price], .clos 92 [] [.rptr [.rsl (rowI plan) 0 plan.length] 0]] (.tup [.rptr [.rsl (rowStg (((machG s).s).stages)) 0 ((((machG s).s).stages).length), .rsl (rowI (((machG s).s).worth)) 0 ((((machG s).s).worth).length), .int .i64 (((machG s).s).price), .rsl (rowI ((machG s).meas)) 0 (((machG s).meas).length), .rsl (rowI ((machG s).mult)) 0 (((machG s).mult).length)] 0, .int .i64 0]))
    (hg : G Try.prog E (f40K0 Try.prog) ⟨[.junk, .junk, .junk, .rptr [.rsl (rowI plan) 0 plan.length] 0, .sl 2 0 0 0 2, .junk, .rptr [.rsl (rowStg (((machG s).s).stages)) 0 ((((machG s).s).stages).length), .rsl (rowI (((machG s).s).worth)) 0 ((((machG s).s).worth).length), .int .i64 (((machG s).s).price), .rsl (rowI ((machG s).meas)) 0 (((machG s).meas).length), .rsl (rowI ((machG s).mult)) 0 (((machG s).mult).length)] 0, .junk, .junk, .junk, .junk, .junk, .junk, .junk, .junk, .junk, .junk, .junk, .junk, .junk, .junk, .junk, .int .i64 (((((machG s).s).worth).length : Nat) : Int), .int .i64 0, .junk, .junk, .junk, .junk, .junk, .junk, .junk, .junk, .junk, .junk, .junk, .junk, .junk], [⟨true, 0, 1, true, [.rsl (rowStg s.stages) 0 s.stages.length, .rsl (rowI s.worth) 0 s.worth.length, .int .i64 s.price], false⟩, ⟨false, 1, 1, true, [], false⟩, ⟨true, 0, 2, true, [], true⟩]⟩) : G Try.prog E [.code (bodyAt Try.prog 40)] ⟨[.agg [.rsl (rowStg s.stages) 0 s.stages.length, .rsl (rowI s.worth) 0 s.worth.length, .int .i64 s.price], .rsl (rowI plan) 0 plan.length] ++ unds (Try.f40.ntmps - 2), []⟩ :=
  segC_step (n := 400) (ds := [(4, 2)]) (cs := []) (live := [3, 4, 6, 22, 23]) (m := 3) (evs := [.wt 3, .v (.tup [.rptr [.rsl (rowStg (((machG s).s).stages)) 0 ((((machG s).s).stages).length), .rsl (rowI (((machG s).s).worth)) 0 ((((machG s).s).worth).length), .int .i64 (((machG s).s).price), .rsl (rowI ((machG s).meas)) 0 (((machG s).meas).length), .rsl (rowI ((machG s).mult)) 0 (((machG s).mult).length)] 0, .int .i64 0]), .b false, .stop]) (obs := [PureF Try.prog (.clos 71 [] []) [.agg [.rsl (rowStg s.stages) 0 s.stages.length, .rsl (rowI s.worth) 0 s.worth.length, .int .i64 s.price], .clos 92 [] [.rptr [.rsl (rowI plan) 0 plan.length] 0]] (.tup [.rptr [.rsl (rowStg (((machG s).s).stages)) 0 ((((machG s).s).stages).length), .rsl (rowI (((machG s).s).worth)) 0 ((((machG s).s).worth).length), .int .i64 (((machG s).s).price), .rsl (rowI ((machG s).meas)) 0 (((machG s).meas).length), .rsl (rowI ((machG s).mult)) 0 (((machG s).mult).length)] 0, .int .i64 0]), false = false]) hE.2.1 (hE.nogh _) mixed (by kernel_rfl) ⟨o2, (rfl), trivial⟩ hg
theorem p40_start_1 (s : Stl) (plan : (List Int))   {E : Env} {res : AV} (hE : PureE Try.prog 40 res E) (o2 : PureF Try.prog (.clos 71 [] []) [.agg [.rsl (rowStg s.stages) 0 s.stages.length, .rsl (rowI s.worth) 0 s.worth.length, .int .i64 s.price], .clos 92 [] [.rptr [.rsl (rowI plan) 0 plan.length] 0]] (.tup [.nilPtr, .int .i64 1]))
    (hr : AvLe (.tup [.nilSl, .int .i64 1]) res) : G Try.prog E [.code (bodyAt Try.prog 40)] ⟨[.agg [.rsl (rowStg s.stages) 0 s.stages.length, .rsl (rowI s.worth) 0 s.worth.length, .int .i64 s.price], .rsl (rowI plan) 0 plan.length] ++ unds (Try.f40.ntmps - 2), []⟩ :=
  end_stepL (n := 400) (evs := [.wt 3, .v (.tup [.nilPtr, .int .i64 1]), .b true]) (obs := [PureF Try.prog (.clos 71 [] []) [.agg [.rsl (rowStg s.stages) 0 s.stages.length, .rsl (rowI s.worth) 0 s.worth.length, .int .i64 s.price], .clos 92 [] [.rptr [.rsl (rowI plan) 0 plan.length] 0]] (.tup [.nilPtr, .int .i64 1]), true = true]) hE Try.func40 mixed (by kernel_rfl) ⟨o2, (rfl), trivial⟩ hr
theorem p40_start_2 (s : Stl) (plan : (List Int))   {E : Env} {res : AV} (hE : PureE Try.prog 40 res E) (o1 : PureF Try.prog (.clos 71 [] []) [.agg [.rsl (rowStg s.stages) 0 s.stages.length, .rsl (rowI s.worth) 0 s.worth.length, .int .i64 s.price], .clos 92 [] [.rptr [.rsl (rowI plan) 0 plan.length] 0]] (.tup [.nilPtr, .int .i64 60]))
    (hr : AvLe (.tup [.nilSl, .int .i64 60]) res) : G Try.prog E [.code (bodyAt Try.prog 40)] ⟨[.agg [.rsl (rowStg s.stages) 0 s.stages.length, .rsl (rowI s.worth) 0 s.worth.length, .int .i64 s.price], .rsl (rowI plan) 0 plan.length] ++ unds (Try.f40.ntmps - 2), []⟩ :=
  end_stepL (n := 400) (evs := [.wt 3, .v (.tup [.nilPtr, .int .i64 60]), .b true]) (obs := [PureF Try.prog (.clos 71 [] []) [.agg [.rsl (rowStg s.stages) 0 s.stages.length, .rsl (rowI s.worth) 0 s.worth.length, .int .i64 s.price], .clos 92 [] [.rptr [.rsl (rowI plan) 0 plan.length] 0]] (.tup [.nilPtr, .int .i64 60]), true = true]) hE Try.func40 mixed (by kernel_rfl) ⟨o1, (rfl), trivial⟩ hr
theorem f40W (s : Stl) (plan : (List Int)) {E : Env} {rv : ((List Fr) × Int)} (hE : PureE Try.prog 40 (.tup [.rsl (rowFr rv.1) 0 rv.1.length, .int .i64 rv.2]) E)
    (h : ((((machI s).isSome) = true → (((planOk (machG s).s plan) = true → ((s.stages.length ≤ 9223372036854775807 ∧ s.worth.length ≤ 9223372036854775807) ∧ f40G0 E s plan 0 ([]))) ∧ ((planOk (machG s).s plan) = false → ((s.stages.length ≤ 9223372036854775807 ∧ s.worth.length ≤ 9223372036854775807) ∧ rv = (([] : List Fr), 1))))) ∧ (((machI s).isSome) = false → ((s.stages.length ≤ 9223372036854775807 ∧ s.worth.length ≤ 9223372036854775807) ∧ rv = (([] : List Fr), 60))))) : G Try.prog E [.code (bodyAt Try.prog 40)] ⟨[.agg [.rsl (rowStg s.stages) 0 s.stages.length, .rsl (rowI s.worth) 0 s.worth.length, .int .i64 s.price], .rsl (rowI plan) 0 plan.length] ++ unds (Try.f40.ntmps - 2), []⟩ := by
  rcases Bool.eq_false_or_eq_true ((machI s).isSome) with hc0 | hc0
  · have h := h.1 hc0
    rcases Bool.eq_false_or_eq_true (planOk (machG s).s plan) with hc1 | hc1
    · have h := h.1 hc1
      obtain ⟨h1, h⟩ := h
      exact p40_start_0 s plan    hE (pureF_of Try.func71 (by kernel_rfl) f71x92b (begR_T hc0 hc1 ▸ beg92_ok s plan h1)) (h 0)
    · have h := h.2 hc1
      obtain ⟨h1, h⟩ := h
      exact p40_start_1 s plan    hE (pureF_of Try.func71 (by kernel_rfl) f71x92b (begR_F1 hc0 hc1 ▸ beg92_ok s plan h1)) (by rw [h]; exact (tup_le ⟨nil_le, ⟨AvLe.of_eq rfl, trivial⟩⟩))
  · have h := h.2 hc0
    obtain ⟨h1, h⟩ := h
    exact p40_start_2 s plan    hE (pureF_of Try.func71 (by kernel_rfl) f71x92b (begR_F0 hc0 ▸ beg92_ok s plan h1)) (by rw [h]; exact (tup_le ⟨nil_le, ⟨AvLe.of_eq rfl, trivial⟩⟩))
theorem p40_0_0 (s : Stl) (plan : (List Int)) (i : Nat) (v2 : List Fr) (g2 : Nat)  {E : Env} {rv : AV} (hE : PureE Try.prog 40 rv E) (o0 : (decide (((i : Nat) : Int) < (((((machG s).s).worth).length : Nat) : Int))) = true) (o1 : PureF Try.prog (.clos 76 [] []) [.int .i64 ((i : Nat) : Int)] (.clos 113 [] [.rptr [.int .i64 ((i : Nat) : Int)] 0])) (o2 : PureF Try.prog (.clos 94 [] []) [.rsl (rowI plan) 0 plan.length] (.clos 119 [] [.rptr [.rsl (rowI plan) 0 plan.length] 0])) (o3 : PureF Try.prog (.clos 75 [] []) [.rptr [.rsl (rowStg (((machG s).s).stages)) 0 ((((machG s).s).stages).length), .rsl (rowI (((machG s).s).worth)) 0 ((((machG s).s).worth).length), .int .i64 (((machG s).s).price), .rsl (rowI ((machG s).meas)) 0 (((machG s).meas).length), .rsl (rowI ((machG s).mult)) 0 (((machG s).mult).length)] 0, .clos 113 [] [.rptr [.int .i64 ((i : Nat) : Int)] 0], .clos 119 [] [.rptr [.rsl (rowI plan) 0 plan.length] 0]] (.agg [.int .i64 ((firstI (machG s) (onlyI ((i : Nat) : Int)) (fun i _ => planI plan i)).num), .int .i64 ((firstI (machG s) (onlyI ((i : Nat) : Int)) (fun i _ => planI plan i)).den)])) (o5 : (0 + (v2.length * 2)) = (rowFr v2).length) (o6 : (v2.length + 1) ≤ 2147483648) (o8 : InR .i64 (((i : Nat) : Int) + 1))
    (hg : G Try.prog E (f40K0 Try.prog) ⟨[.junk, .junk, .junk, .rptr [.rsl (rowI plan) 0 plan.length] 0, .sl 2 (g2 + 1) 0 (v2.length + 1) 2, .junk, .rptr [.rsl (rowStg (((machG s).s).stages)) 0 ((((machG s).s).stages).length), .rsl (rowI (((machG s).s).worth)) 0 ((((machG s).s).worth).length), .int .i64 (((machG s).s).price), .rsl (rowI ((machG s).meas)) 0 (((machG s).meas).length), .rsl (rowI ((machG s).mult)) 0 (((machG s).mult).length)] 0, .junk, .junk, .junk, .junk, .junk, .junk, .junk, .junk, .junk, .junk, .junk, .junk, .junk, .junk, .junk, .int .i64 (((((machG s).s).worth).length : Nat) : Int), .int .i64 (((i : Nat) : Int) + 1), .junk, .junk, .junk, .junk, .junk, .junk, .junk, .junk, .junk, .junk, .junk, .junk, .junk], [⟨true, 0, 1, true, [.rsl (rowStg s.stages) 0 s.stages.length, .rsl (rowI s.worth) 0 s.worth.length, .int .i64 s.price], false⟩, ⟨false, 1, 1, true, [], false⟩, ⟨true, (g2 + 1), 2, true, ((rowFr v2) ++ [.int .i64 ((firstI (machG s) (onlyI ((i : Nat) : Int)) (fun i _ => planI plan i)).num), .int .i64 ((firstI (machG s) (onlyI ((i : Nat) : Int)) (fun i _ => planI plan i)).den)]), true⟩]⟩) : G Try.prog E (f40K0 Try.prog) (f40S0 s plan i v2 g2) :=
  segC_step (n := 400) (ds := []) (cs := []) (live := [3, 4, 6, 22, 23]) (m := 3) (evs := [.b true, .v (.clos 113 [] [.rptr [.int .i64 ((i : Nat) : Int)] 0]), .v (.clos 119 [] [.rptr [.rsl (rowI plan) 0 plan.length] 0]), .v (.agg [.int .i64 ((firstI (machG s) (onlyI ((i : Nat) : Int)) (fun i _ => planI plan i)).num), .int .i64 ((firstI (machG s) (onlyI ((i : Nat) : Int)) (fun i _ => planI plan i)).den)]), .stop]) (obs := [(decide (((i : Nat) : Int) < (((((machG s).s).worth).length : Nat) : Int))) = true, PureF Try.prog (.clos 76 [] []) [.int .i64 ((i : Nat) : Int)] (.clos 113 [] [.rptr [.int .i64 ((i : Nat) : Int)] 0]), PureF Try.prog (.clos 94 [] []) [.rsl (rowI plan) 0 plan.length] (.clos 119 [] [.rptr [.rsl (rowI plan) 0 plan.length] 0]), PureF Try.prog (.clos 75 [] []) [.rptr [.rsl (rowStg (((machG s).s).stages)) 0 ((((machG s).s).stages).length), .rsl (rowI (((machG s).s).worth)) 0 ((((machG s).s).worth).length), .int .i64 (((machG s).s).price), .rsl (rowI ((machG s).meas)) 0 (((machG s).meas).length), .rsl (rowI ((machG s).mult)) 0 (((machG s).mult).length)] 0, .clos 113 [] [.rptr [.int .i64 ((i : Nat) : Int)] 0], .clos 119 [] [.rptr [.rsl (rowI plan) 0 plan.length] 0]] (.agg [.int .i64 ((firstI (machG s) (onlyI ((i : Nat) : Int)) (fun i _ => planI plan i)).num), .int .i64 ((firstI (machG s) (onlyI ((i : Nat) : Int)) (fun i _ => planI plan i)).den)]), g2 = g2, (0 + (v2.length * 2)) = (rowFr v2).length, (v2.length + 1) ≤ 2147483648, 0 = 0, InR .i64 (((i : Nat) : Int) + 1)]) hE.2.1 (hE.nogh _) mixed (by kernel_rfl) ⟨o0, o1, o2, o3, (rfl), o5, o6, (rfl), o8, trivial⟩ hg
theorem p40_0_1 (s : Stl) (plan : (List Int)) (i : Nat) (v2 : List Fr) (g2 : Nat)  {E : Env} {res : AV} (hE : PureE Try.prog 40 res E) (o0 : (decide (((i : Nat) : Int) < (((((machG s).s).worth).length : Nat) : Int))) = false)
    (hr : AvLe (.tup [.rsl (rowFr v2) 0 v2.length, .int .i64 0]) res) : G Try.prog E (f40K0 Try.prog) (f40S0 s plan i v2 g2) :=
  end_stepL (n := 400) (evs := [.b false]) (obs := [(decide (((i : Nat) : Int) < (((((machG s).s).worth).length : Nat) : Int))) = false, g2 = g2]) hE Try.func40 mixed (by kernel_rfl) ⟨o0, (rfl), trivial⟩ hr
theorem f40W0 (s : Stl) (plan : (List Int)) (i : Nat) (v2 : List Fr) {E : Env} {rv : ((List Fr) × Int)} (hE : PureE Try.prog 40 (.tup [.rsl (rowFr rv.1) 0 rv.1.length, .int .i64 rv.2]) E)
    (h : ((((i : Nat) : Int) < (((((machG s).s).worth).length : Nat) : Int) → ((MOk (machG s) ∧ planOk (machG s).s plan = true) ∧ ((v2.length + 1) ≤ 2147483648 ∧ ((-9223372036854775808 ≤ ((i : Nat) : Int) + 1 ∧ ((i : Nat) : Int) + 1 ≤ 9223372036854775807) ∧ f40G0 E s plan (i + 1) (v2 ++ [(firstI (machG s) (onlyI ((i : Nat) : Int)) (fun i _ => planI plan i))]))))) ∧ (¬ (((i : Nat) : Int) < (((((machG s).s).worth).length : Nat) : Int)) → rv = (v2, 0)))) : f40G0 E s plan i v2 := by
  intro g2
  rcases Bool.eq_false_or_eq_true (decide (((i : Nat) : Int) < (((((machG s).s).worth).length : Nat) : Int))) with hc0 | hc0
  · have h := h.1 (of_decide_eq_true hc0)
    obtain ⟨h1, h⟩ := h
    obtain ⟨h2, h⟩ := h
    obtain ⟨q8_1, h⟩ := h
    refine p40_0_0 s plan i v2 g2  hE hc0 (pureF_of Try.func76 (by kernel_rfl) f76b (mkonly_ok ((i : Nat) : Int))) (pureF_of Try.func94 (by kernel_rfl) f94b (mkplanned_ok plan)) (pureF_of Try.func75 (by kernel_rfl) f75pb (firstp_ok (machG s) ((i : Nat) : Int) plan h1.1 h1.2)) (by have hx := row_len cFr (s := 2) (fun _ => rfl) v2; simp only [rowFr] at hx ⊢; rw [hx]; simp) h2 q8_1 ?_
    rw [(show rowFr v2 ++ [.int .i64 ((firstI (machG s) (onlyI ((i : Nat) : Int)) (fun i _ => planI plan i)).num), .int .i64 ((firstI (machG s) (onlyI ((i : Nat) : Int)) (fun i _ => planI plan i)).den)] = rowFr (v2 ++ [(firstI (machG s) (onlyI ((i : Nat) : Int)) (fun i _ => planI plan i))]) from (row_app cFr v2 [(firstI (machG s) (onlyI ((i : Nat) : Int)) (fun i _ => planI plan i))]).symm)]; rw [(show (v2.length + 1) = (v2 ++ [(firstI (machG s) (onlyI ((i : Nat) : Int)) (fun i _ => planI plan i))]).length from by simp)]; exact (h (g2 + 1))
  · have h := h.2 (of_decide_eq_false hc0)
    exact p40_0_1 s plan i v2 g2  hE hc0 (AvLe.of_eq (by rw [h]; try rfl))
theorem f41b : Try.f41.body = some (bodyAt Try.prog 41) := by kernel_rfl
def f41K0 (P : Program) : List Item := kAt 400 [.code (bodyAt P 41)] [.b false, .stop]
def f41S0 (s : Stl) (plan : (List Int)) (kind : Nat) (v1 : List Fr) (g1 : Nat) : St := ⟨[.junk, .rsl (rowI plan) 0 plan.length, .ptr 0 0 0, .junk, .junk, .junk, .junk, .sl 1 g1 0 v1.length 2, .int .i64 ((kind : Nat) : Int), .junk, .junk, .junk, .junk, .junk, .junk, .junk, .junk, .junk, .junk, .junk, .junk, .junk, .junk, .junk, .junk, .junk, .junk, .junk, .junk, .junk, .junk, .junk, .junk, .junk, .junk, .junk], [⟨true, 0, 1, true, [.rsl (rowStg s.stages) 0 s.stages.length, .rsl (rowI s.worth) 0 s.worth.length, .int .i64 s.price], false⟩, ⟨true, g1, 2, true, (rowFr v1), true⟩]⟩
def f41G0 (E : Env) (s : Stl) (plan : (List Int)) (kind : Nat) (v1 : List Fr) : Prop := ∀ g1 : Nat, G Try.prog E (f41K0 Try.prog) (f41S0 s plan kind v1 g1)
theorem p41_start_0 (s : Stl) (plan : (List Int))   {E : Env} {res : AV} (hE : PureE Try.prog 41 res E) (o0 : PureF Try.prog (.clos 30 [] []) [.agg [.rsl (rowStg s.stages) 0 s.stages.length, .rsl (rowI s.worth) 0 s.worth.length, .int .i64 s.price], .rsl (rowI plan) 0 plan.length] (.int .i64 (planE s plan))) (o1 : ((planE s plan) != 0) = true)
    (hr : AvLe (.tup [.nilSl, .int .i64 (planE s plan)]) res) : G Try.prog E [.code (bodyAt Try.prog 41)] ⟨[.agg [.rsl (rowStg s.stages) 0 s.stages.length, .rsl (rowI s.worth) 0 s.worth.length, .int .i64 s.price], .rsl (rowI plan) 0 plan.length] ++ unds (Try.f41.ntmps - 2), []⟩ :=
  end_stepL (n := 400) (evs := [.v (.int .i64 (planE s plan)), .b true]) (obs := [PureF Try.prog (.clos 30 [] []) [.agg [.rsl (rowStg s.stages) 0 s.stages.length, .rsl (rowI s.worth) 0 s.worth.length, .int .i64 s.price], .rsl (rowI plan) 0 plan.length] (.int .i64 (planE s plan)), ((planE s plan) != 0) = true]) hE Try.func41 mixed (by kernel_rfl) ⟨o0, o1, trivial⟩ hr
theorem p41_start_1 (s : Stl) (plan : (List Int))   {E : Env} {rv : AV} (hE : PureE Try.prog 41 rv E) (o0 : PureF Try.prog (.clos 30 [] []) [.agg [.rsl (rowStg s.stages) 0 s.stages.length, .rsl (rowI s.worth) 0 s.worth.length, .int .i64 s.price], .rsl (rowI plan) 0 plan.length] (.int .i64 (planE s plan))) (o1 : ((planE s plan) != 0) = false)
    (hg : G Try.prog E (f41K0 Try.prog) ⟨[.junk, .rsl (rowI plan) 0 plan.length, .ptr 0 0 0, .junk, .junk, .junk, .junk, .sl 1 0 0 0 2, .int .i64 0, .junk, .junk, .junk, .junk, .junk, .junk, .junk, .junk, .junk, .junk, .junk, .junk, .junk, .junk, .junk, .junk, .junk, .junk, .junk, .junk, .junk, .junk, .junk, .junk, .junk, .junk, .junk], [⟨true, 0, 1, true, [.rsl (rowStg s.stages) 0 s.stages.length, .rsl (rowI s.worth) 0 s.worth.length, .int .i64 s.price], false⟩, ⟨true, 0, 2, true, [], true⟩]⟩) : G Try.prog E [.code (bodyAt Try.prog 41)] ⟨[.agg [.rsl (rowStg s.stages) 0 s.stages.length, .rsl (rowI s.worth) 0 s.worth.length, .int .i64 s.price], .rsl (rowI plan) 0 plan.length] ++ unds (Try.f41.ntmps - 2), []⟩ :=
  segC_step (n := 400) (ds := [(7, 2)]) (cs := []) (live := [1, 2, 7, 8]) (m := 2) (evs := [.v (.int .i64 (planE s plan)), .b false, .stop]) (obs := [PureF Try.prog (.clos 30 [] []) [.agg [.rsl (rowStg s.stages) 0 s.stages.length, .rsl (rowI s.worth) 0 s.worth.length, .int .i64 s.price], .rsl (rowI plan) 0 plan.length] (.int .i64 (planE s plan)), ((planE s plan) != 0) = false]) hE.2.1 (hE.nogh _) mixed (by kernel_rfl) ⟨o0, o1, trivial⟩ hg
theorem f41W (s : Stl) (plan : (List Int)) {E : Env} {rv : ((List Fr) × Int)} (hE : PureE Try.prog 41 (.tup [.rsl (rowFr rv.1) 0 rv.1.length, .int .i64 rv.2]) E)
    (h : (((s.stages.length ≤ 9223372036854775807 ∧ s.worth.length ≤ 9223372036854775807) ∧ plan.length ≤ 9223372036854775807) ∧ ((¬ ((planE s plan) = 0) → rv = (([] : List Fr), (planE s plan))) ∧ ((planE s plan) = 0 → f41G0 E s plan 0 ([]))))) : G Try.prog E [.code (bodyAt Try.prog 41)] ⟨[.agg [.rsl (rowStg s.stages) 0 s.stages.length, .rsl (rowI s.worth) 0 s.worth.length, .int .i64 s.price], .rsl (rowI plan) 0 plan.length] ++ unds (Try.f41.ntmps - 2), []⟩ := by
  obtain ⟨h1, h⟩ := h
  rcases Bool.eq_false_or_eq_true ((planE s plan) != 0) with hc0 | hc0
  · have h := h.1 (bneT hc0)
    exact p41_start_0 s plan    hE (pureF_of Try.func30 (by kernel_rfl) f30b (planE_ok s plan h1)) hc0 (by rw [h]; exact (tup_le ⟨nil_le, ⟨AvLe.of_eq rfl, trivial⟩⟩))
  · have h := h.2 (bneF hc0)
    exact p41_start_1 s plan    hE (pureF_of Try.func30 (by kernel_rfl) f30b (planE_ok s plan h1)) hc0 (h 0)
theorem p41_0_0 (s : Stl) (plan : (List Int)) (kind : Nat) (v1 : List Fr) (g1 : Nat) (e : Int)  {E : Env} {rv : AV} (hE : PureE Try.prog 41 rv E) (o0 : (decide (((kind : Nat) : Int) < ((s.worth.length : Nat) : Int))) = true) (o1 : PureF Try.prog (.clos 81 [] []) [.agg [.rsl (rowStg s.stages) 0 s.stages.length, .rsl (rowI s.worth) 0 s.worth.length, .int .i64 s.price], .int .i64 ((kind : Nat) : Int)] (.rsl (rowI (endsI s (onlyI ((kind : Nat) : Int)))) 0 ((endsI s (onlyI ((kind : Nat) : Int))).length))) (o2 : PureF Try.prog (.clos 80 [] []) [.agg [.rsl (rowStg s.stages) 0 s.stages.length, .rsl (rowI s.worth) 0 s.worth.length, .int .i64 s.price], .rsl (rowI (endsI s (onlyI ((kind : Nat) : Int)))) 0 ((endsI s (onlyI ((kind : Nat) : Int))).length), .int .i64 0, .int .i64 0, .rsl (rowI plan) 0 plan.length] (.rsl (rowI (valuesP s (onlyI ((kind : Nat) : Int)) plan)) 0 ((valuesP s (onlyI ((kind : Nat) : Int)) plan).length))) (o4 : (0 : Int) ≤ 0 ∧ (0 : Int) < (((valuesP s (onlyI ((kind : Nat) : Int)) plan).length : Nat) : Int)) (o5 : ((rowI (valuesP s (onlyI ((kind : Nat) : Int)) plan)).drop (0 + 0 * 1)).take 1 = [.int .i64 e]) (o6 : PureF Try.prog (.clos 79 [] []) [.agg [.rsl (rowStg s.stages) 0 s.stages.length, .rsl (rowI s.worth) 0 s.worth.length, .int .i64 s.price], .int .i64 e] (.agg [.int .i64 ((fracI e ((machG s).meas.getD 0 0)).num), .int .i64 ((fracI e ((machG s).meas.getD 0 0)).den)])) (o8 : (0 + (v1.length * 2)) = (rowFr v1).length) (o9 : (v1.length + 1) ≤ 2147483648) (o11 : InR .i64 (((kind : Nat) : Int) + 1))
    (hg : G Try.prog E (f41K0 Try.prog) ⟨[.junk, .rsl (rowI plan) 0 plan.length, .ptr 0 0 0, .junk, .junk, .junk, .junk, .sl 1 (g1 + 1) 0 (v1.length + 1) 2, .int .i64 (((kind : Nat) : Int) + 1), .junk, .junk, .junk, .junk, .junk, .junk, .junk, .junk, .junk, .junk, .junk, .junk, .junk, .junk, .junk, .junk, .junk, .junk, .junk, .junk, .junk, .junk, .junk, .junk, .junk, .junk, .junk], [⟨true, 0, 1, true, [.rsl (rowStg s.stages) 0 s.stages.length, .rsl (rowI s.worth) 0 s.worth.length, .int .i64 s.price], false⟩, ⟨true, (g1 + 1), 2, true, ((rowFr v1) ++ [.int .i64 ((fracI e ((machG s).meas.getD 0 0)).num), .int .i64 ((fracI e ((machG s).meas.getD 0 0)).den)]), true⟩]⟩) : G Try.prog E (f41K0 Try.prog) (f41S0 s plan kind v1 g1) :=
  segC_step (n := 400) (ds := []) (cs := []) (live := [1, 2, 7, 8]) (m := 2) (evs := [.b true, .v (.rsl (rowI (endsI s (onlyI ((kind : Nat) : Int)))) 0 ((endsI s (onlyI ((kind : Nat) : Int))).length)), .v (.rsl (rowI (valuesP s (onlyI ((kind : Nat) : Int)) plan)) 0 ((valuesP s (onlyI ((kind : Nat) : Int)) plan).length)), .ld (.int .i64 e), .v (.agg [.int .i64 ((fracI e ((machG s).meas.getD 0 0)).num), .int .i64 ((fracI e ((machG s).meas.getD 0 0)).den)]), .stop]) (obs := [(decide (((kind : Nat) : Int) < ((s.worth.length : Nat) : Int))) = true, PureF Try.prog (.clos 81 [] []) [.agg [.rsl (rowStg s.stages) 0 s.stages.length, .rsl (rowI s.worth) 0 s.worth.length, .int .i64 s.price], .int .i64 ((kind : Nat) : Int)] (.rsl (rowI (endsI s (onlyI ((kind : Nat) : Int)))) 0 ((endsI s (onlyI ((kind : Nat) : Int))).length)), PureF Try.prog (.clos 80 [] []) [.agg [.rsl (rowStg s.stages) 0 s.stages.length, .rsl (rowI s.worth) 0 s.worth.length, .int .i64 s.price], .rsl (rowI (endsI s (onlyI ((kind : Nat) : Int)))) 0 ((endsI s (onlyI ((kind : Nat) : Int))).length), .int .i64 0, .int .i64 0, .rsl (rowI plan) 0 plan.length] (.rsl (rowI (valuesP s (onlyI ((kind : Nat) : Int)) plan)) 0 ((valuesP s (onlyI ((kind : Nat) : Int)) plan).length)), (0 : Int) ≤ 0 ∧ (0 : Int) < (((valuesP s (onlyI ((kind : Nat) : Int)) plan).length : Nat) : Int), ((rowI (valuesP s (onlyI ((kind : Nat) : Int)) plan)).drop (0 + 0 * 1)).take 1 = [.int .i64 e], PureF Try.prog (.clos 79 [] []) [.agg [.rsl (rowStg s.stages) 0 s.stages.length, .rsl (rowI s.worth) 0 s.worth.length, .int .i64 s.price], .int .i64 e] (.agg [.int .i64 ((fracI e ((machG s).meas.getD 0 0)).num), .int .i64 ((fracI e ((machG s).meas.getD 0 0)).den)]), g1 = g1, (0 + (v1.length * 2)) = (rowFr v1).length, (v1.length + 1) ≤ 2147483648, 0 = 0, InR .i64 (((kind : Nat) : Int) + 1)]) hE.2.1 (hE.nogh _) mixed (by kernel_rfl) ⟨o0, o1, o2, o4, o5, o6, (rfl), o8, o9, (rfl), o11, trivial⟩ hg
theorem p41_0_1 (s : Stl) (plan : (List Int)) (kind : Nat) (v1 : List Fr) (g1 : Nat)  {E : Env} {res : AV} (hE : PureE Try.prog 41 res E) (o0 : (decide (((kind : Nat) : Int) < ((s.worth.length : Nat) : Int))) = false)
    (hr : AvLe (.tup [.rsl (rowFr v1) 0 v1.length, .int .i64 0]) res) : G Try.prog E (f41K0 Try.prog) (f41S0 s plan kind v1 g1) :=
  end_stepL (n := 400) (evs := [.b false]) (obs := [(decide (((kind : Nat) : Int) < ((s.worth.length : Nat) : Int))) = false, g1 = g1]) hE Try.func41 mixed (by kernel_rfl) ⟨o0, (rfl), trivial⟩ hr
theorem f41W0 (s : Stl) (plan : (List Int)) (kind : Nat) (v1 : List Fr) {E : Env} {rv : ((List Fr) × Int)} (hE : PureE Try.prog 41 (.tup [.rsl (rowFr rv.1) 0 rv.1.length, .int .i64 rv.2]) E)
    (h : ((((kind : Nat) : Int) < ((s.worth.length : Nat) : Int) → ((checkK s = 0 ∧ 0 ≤ ((kind : Nat) : Int)) ∧ ((checkK s = 0 ∧ planOk s plan = true) ∧ (∃ e : Int, (valuesP s (onlyI ((kind : Nat) : Int)) plan)[0]? = some e ∧ ((checkK s = 0 ∧ -100000000000000000 ≤ e ∧ e ≤ 100000000000000000) ∧ ((v1.length + 1) ≤ 2147483648 ∧ ((-9223372036854775808 ≤ ((kind : Nat) : Int) + 1 ∧ ((kind : Nat) : Int) + 1 ≤ 9223372036854775807) ∧ f41G0 E s plan (kind + 1) (v1 ++ [(fracI e ((machG s).meas.getD 0 0))])))))))) ∧ (¬ (((kind : Nat) : Int) < ((s.worth.length : Nat) : Int)) → rv = (v1, 0)))) : f41G0 E s plan kind v1 := by
  intro g1
  rcases Bool.eq_false_or_eq_true (decide (((kind : Nat) : Int) < ((s.worth.length : Nat) : Int))) with hc0 | hc0
  · have h := h.1 (of_decide_eq_true hc0)
    obtain ⟨h1, h⟩ := h
    obtain ⟨h2, h⟩ := h
    obtain ⟨e, h3, h⟩ := h
    obtain ⟨h4, h⟩ := h
    obtain ⟨h5, h⟩ := h
    obtain ⟨q11_1, h⟩ := h
    refine p41_0_0 s plan kind v1 g1 e hE hc0 (pureF_of Try.func81 (by kernel_rfl) f81b (won_ok s ((kind : Nat) : Int) h1)) (pureF_of Try.func80 (by kernel_rfl) f80pb (valuesPO_ok s ((kind : Nat) : Int) 0 0 plan h2)) (idx_ok h3) (row_part cI (s := 1) (k := 0) (m := 1) (fun _ => rfl) (by decide) h3) (pureF_of Try.func79 (by kernel_rfl) f79b (lowest_ok s e h4)) (by have hx := row_len cFr (s := 2) (fun _ => rfl) v1; simp only [rowFr] at hx ⊢; rw [hx]; simp) h5 q11_1 ?_
    rw [(show rowFr v1 ++ [.int .i64 ((fracI e ((machG s).meas.getD 0 0)).num), .int .i64 ((fracI e ((machG s).meas.getD 0 0)).den)] = rowFr (v1 ++ [(fracI e ((machG s).meas.getD 0 0))]) from (row_app cFr v1 [(fracI e ((machG s).meas.getD 0 0))]).symm)]; rw [(show (v1.length + 1) = (v1 ++ [(fracI e ((machG s).meas.getD 0 0))]).length from by simp)]; exact (h (g1 + 1))
  · have h := h.2 (of_decide_eq_false hc0)
    exact p41_0_1 s plan kind v1 g1  hE hc0 (AvLe.of_eq (by rw [h]; try rfl))
theorem f42b : Try.f42.body = some (bodyAt Try.prog 42) := by kernel_rfl
def f42K0 (P : Program) : List Item := kAt 400 [.code (bodyAt P 42)] [.b false, .stop]
def f42S0 (a : (List Fr)) (b : (List Fr)) (i : Nat)  : St := ⟨[.rsl (rowFr a) 0 a.length, .rsl (rowFr b) 0 b.length, .junk, .junk, .junk, .int .i64 ((i : Nat) : Int), .junk, .junk, .junk, .junk, .junk, .junk, .junk, .junk, .junk, .junk, .junk, .junk, .junk, .junk, .junk, .junk, .junk, .junk, .junk, .junk], []⟩
def f42G0 (E : Env) (a : (List Fr)) (b : (List Fr)) (i : Nat) : Prop := G Try.prog E (f42K0 Try.prog) (f42S0 a b i )
theorem p42_start_0 (a : (List Fr)) (b : (List Fr))   {E : Env} {res : AV} (hE : PureE Try.prog 42 res E) (o0 : (((a.length : Nat) : Int) != ((b.length : Nat) : Int)) = true)
    (hr : AvLe (.bool false) res) : G Try.prog E [.code (bodyAt Try.prog 42)] ⟨[.rsl (rowFr a) 0 a.length, .rsl (rowFr b) 0 b.length] ++ unds (Try.f42.ntmps - 2), []⟩ :=
  end_stepL (n := 400) (evs := [.b true]) (obs := [(((a.length : Nat) : Int) != ((b.length : Nat) : Int)) = true]) hE Try.func42 mixed (by kernel_rfl) ⟨o0, trivial⟩ hr
theorem p42_start_1 (a : (List Fr)) (b : (List Fr))   {E : Env} {rv : AV} (hE : PureE Try.prog 42 rv E) (o0 : (((a.length : Nat) : Int) != ((b.length : Nat) : Int)) = false)
    (hg : G Try.prog E (f42K0 Try.prog) ⟨[.rsl (rowFr a) 0 a.length, .rsl (rowFr b) 0 b.length, .junk, .junk, .junk, .int .i64 0, .junk, .junk, .junk, .junk, .junk, .junk, .junk, .junk, .junk, .junk, .junk, .junk, .junk, .junk, .junk, .junk, .junk, .junk, .junk, .junk], []⟩) : G Try.prog E [.code (bodyAt Try.prog 42)] ⟨[.rsl (rowFr a) 0 a.length, .rsl (rowFr b) 0 b.length] ++ unds (Try.f42.ntmps - 2), []⟩ :=
  segC_step (n := 400) (ds := []) (cs := []) (live := [0, 1, 5]) (m := 0) (evs := [.b false, .stop]) (obs := [(((a.length : Nat) : Int) != ((b.length : Nat) : Int)) = false]) hE.2.1 (hE.nogh _) mixed (by kernel_rfl) ⟨o0, trivial⟩ hg
theorem f42W (a : (List Fr)) (b : (List Fr)) {E : Env} {rv : Bool} (hE : PureE Try.prog 42 (.bool rv) E)
    (h : ((¬ (((a.length : Nat) : Int) = ((b.length : Nat) : Int)) → rv = false) ∧ (((a.length : Nat) : Int) = ((b.length : Nat) : Int) → f42G0 E a b 0))) : G Try.prog E [.code (bodyAt Try.prog 42)] ⟨[.rsl (rowFr a) 0 a.length, .rsl (rowFr b) 0 b.length] ++ unds (Try.f42.ntmps - 2), []⟩ := by
  rcases Bool.eq_false_or_eq_true (((a.length : Nat) : Int) != ((b.length : Nat) : Int)) with hc0 | hc0
  · have h := h.1 (bneT hc0)
    exact p42_start_0 a b    hE hc0 (AvLe.of_eq (by rw [h]; try rfl))
  · have h := h.2 (bneF hc0)
    exact p42_start_1 a b    hE hc0 h
theorem p42_0_0 (a : (List Fr)) (b : (List Fr)) (i : Nat)  (fe : Fr) (fe1 : Fr)  {E : Env} {res : AV} (hE : PureE Try.prog 42 res E) (o0 : (decide (((i : Nat) : Int) < ((a.length : Nat) : Int))) = true) (o2 : 0 ≤ ((i : Nat) : Int) ∧ ((i : Nat) : Int) < ((a.length : Nat) : Int)) (o3 : ((rowFr a).drop (0 + (Int.toNat ((i : Nat) : Int)) * 2)).take 2 = [.int .i64 fe.num, .int .i64 fe.den]) (o5 : 0 ≤ ((i : Nat) : Int) ∧ ((i : Nat) : Int) < ((b.length : Nat) : Int)) (o6 : ((rowFr b).drop (0 + (Int.toNat ((i : Nat) : Int)) * 2)).take 2 = [.int .i64 fe1.num, .int .i64 fe1.den]) (o7 : (!(fe.num == fe1.num && (fe.den == fe1.den && true))) = true)
    (hr : AvLe (.bool false) res) : G Try.prog E (f42K0 Try.prog) (f42S0 a b i ) :=
  end_stepL (n := 400) (evs := [.b true, .ld (.agg [.int .i64 fe.num, .int .i64 fe.den]), .ld (.agg [.int .i64 fe1.num, .int .i64 fe1.den]), .b true]) (obs := [(decide (((i : Nat) : Int) < ((a.length : Nat) : Int))) = true, 0 ≤ ((i : Nat) : Int) ∧ ((i : Nat) : Int) < ((a.length : Nat) : Int), ((rowFr a).drop (0 + (Int.toNat ((i : Nat) : Int)) * 2)).take 2 = [.int .i64 fe.num, .int .i64 fe.den], 0 ≤ ((i : Nat) : Int) ∧ ((i : Nat) : Int) < ((b.length : Nat) : Int), ((rowFr b).drop (0 + (Int.toNat ((i : Nat) : Int)) * 2)).take 2 = [.int .i64 fe1.num, .int .i64 fe1.den], (!(fe.num == fe1.num && (fe.den == fe1.den && true))) = true]) hE Try.func42 mixed (by kernel_rfl) ⟨o0, o2, o3, o5, o6, o7, trivial⟩ hr
theorem p42_0_1 (a : (List Fr)) (b : (List Fr)) (i : Nat)  (fe : Fr) (fe1 : Fr)  {E : Env} {rv : AV} (hE : PureE Try.prog 42 rv E) (o0 : (decide (((i : Nat) : Int) < ((a.length : Nat) : Int))) = true) (o2 : 0 ≤ ((i : Nat) : Int) ∧ ((i : Nat) : Int) < ((a.length : Nat) : Int)) (o3 : ((rowFr a).drop (0 + (Int.toNat ((i : Nat) : Int)) * 2)).take 2 = [.int .i64 fe.num, .int .i64 fe.den]) (o5 : 0 ≤ ((i : Nat) : Int) ∧ ((i : Nat) : Int) < ((b.length : Nat) : Int)) (o6 : ((rowFr b).drop (0 + (Int.toNat ((i : Nat) : Int)) * 2)).take 2 = [.int .i64 fe1.num, .int .i64 fe1.den]) (o7 : (!(fe.num == fe1.num && (fe.den == fe1.den && true))) = false) (o8 : InR .i64 (((i : Nat) : Int) + 1))
    (hg : G Try.prog E (f42K0 Try.prog) ⟨[.rsl (rowFr a) 0 a.length, .rsl (rowFr b) 0 b.length, .junk, .junk, .junk, .int .i64 (((i : Nat) : Int) + 1), .junk, .junk, .junk, .junk, .junk, .junk, .junk, .junk, .junk, .junk, .junk, .junk, .junk, .junk, .junk, .junk, .junk, .junk, .junk, .junk], []⟩) : G Try.prog E (f42K0 Try.prog) (f42S0 a b i ) :=
  segC_step (n := 400) (ds := []) (cs := []) (live := [0, 1, 5]) (m := 0) (evs := [.b true, .ld (.agg [.int .i64 fe.num, .int .i64 fe.den]), .ld (.agg [.int .i64 fe1.num, .int .i64 fe1.den]), .b false, .stop]) (obs := [(decide (((i : Nat) : Int) < ((a.length : Nat) : Int))) = true, 0 ≤ ((i : Nat) : Int) ∧ ((i : Nat) : Int) < ((a.length : Nat) : Int), ((rowFr a).drop (0 + (Int.toNat ((i : Nat) : Int)) * 2)).take 2 = [.int .i64 fe.num, .int .i64 fe.den], 0 ≤ ((i : Nat) : Int) ∧ ((i : Nat) : Int) < ((b.length : Nat) : Int), ((rowFr b).drop (0 + (Int.toNat ((i : Nat) : Int)) * 2)).take 2 = [.int .i64 fe1.num, .int .i64 fe1.den], (!(fe.num == fe1.num && (fe.den == fe1.den && true))) = false, InR .i64 (((i : Nat) : Int) + 1)]) hE.2.1 (hE.nogh _) mixed (by kernel_rfl) ⟨o0, o2, o3, o5, o6, o7, o8, trivial⟩ hg
theorem p42_0_2 (a : (List Fr)) (b : (List Fr)) (i : Nat)   {E : Env} {res : AV} (hE : PureE Try.prog 42 res E) (o0 : (decide (((i : Nat) : Int) < ((a.length : Nat) : Int))) = false)
    (hr : AvLe (.bool true) res) : G Try.prog E (f42K0 Try.prog) (f42S0 a b i ) :=
  end_stepL (n := 400) (evs := [.b false]) (obs := [(decide (((i : Nat) : Int) < ((a.length : Nat) : Int))) = false]) hE Try.func42 mixed (by kernel_rfl) ⟨o0, trivial⟩ hr
theorem f42W0 (a : (List Fr)) (b : (List Fr)) (i : Nat) {E : Env} {rv : Bool} (hE : PureE Try.prog 42 (.bool rv) E)
    (h : ((((i : Nat) : Int) < ((a.length : Nat) : Int) → (∃ fe : Fr, a[i]? = some fe ∧ (∃ fe1 : Fr, b[i]? = some fe1 ∧ (((fe.num == fe1.num && (fe.den == fe1.den && true)) = false → rv = false) ∧ ((fe.num == fe1.num && (fe.den == fe1.den && true)) = true → ((-9223372036854775808 ≤ ((i : Nat) : Int) + 1 ∧ ((i : Nat) : Int) + 1 ≤ 9223372036854775807) ∧ f42G0 E a b (i + 1))))))) ∧ (¬ (((i : Nat) : Int) < ((a.length : Nat) : Int)) → rv = true))) : f42G0 E a b i := by
  rcases Bool.eq_false_or_eq_true (decide (((i : Nat) : Int) < ((a.length : Nat) : Int))) with hc0 | hc0
  · have h := h.1 (of_decide_eq_true hc0)
    obtain ⟨fe, h1, h⟩ := h
    obtain ⟨fe1, h2, h⟩ := h
    rcases Bool.eq_false_or_eq_true (!(fe.num == fe1.num && (fe.den == fe1.den && true))) with hc1 | hc1
    · have h := h.1 (bnT hc1)
      exact p42_0_0 a b i  fe fe1 hE hc0 (idx_ok h1) (row_part cFr (s := 2) (k := 0) (m := 2) (fun _ => rfl) (by decide) h1) (idx_ok h2) (row_part cFr (s := 2) (k := 0) (m := 2) (fun _ => rfl) (by decide) h2) hc1 (AvLe.of_eq (by rw [h]; try rfl))
    · have h := h.2 (bnF hc1)
      obtain ⟨q8_2, h⟩ := h
      exact p42_0_1 a b i  fe fe1 hE hc0 (idx_ok h1) (row_part cFr (s := 2) (k := 0) (m := 2) (fun _ => rfl) (by decide) h1) (idx_ok h2) (row_part cFr (s := 2) (k := 0) (m := 2) (fun _ => rfl) (by decide) h2) hc1 q8_2 h
  · have h := h.2 (of_decide_eq_false hc0)
    exact p42_0_2 a b i   hE hc0 (AvLe.of_eq (by rw [h]; try rfl))
theorem planE_eq {s : Stl} {plan : List Int} (h : (machI s).isSome = true) : planE s plan = if planOk (machG s).s plan = true then 0 else 1 := by
  rw [planE, if_pos (isSome_iff.1 h), (mok_G h).2]
theorem planned_ok (s : Stl) (plan : List Int) (h : s.stages.length ≤ 9223372036854775807 ∧ s.worth.length ≤ 9223372036854775807) : Pure Try.prog 40 [avStl s, .rsl (rowI plan) 0 plan.length] (.tup [.rsl (rowFr (plannedK s plan).1) 0 (plannedK s plan).1.length, .int .i64 (plannedK s plan).2]) := pure_of Try.func40 f40b fun E hE => by
  refine f40W s plan (rv := plannedK s plan) hE ⟨fun h0 => ⟨fun h1 => ⟨h, ?_⟩, fun h1 => ⟨h, ?_⟩⟩, fun h0 => ⟨h, ?_⟩⟩
  · obtain ⟨hm, es⟩ := mok_G h0
    have hw := (stPre_of hm.st).2.1
    have he : planE s plan = 0 := by rw [planE_eq h0, if_pos h1]
    rw [es] at hw
    have key : ∀ (d i : Nat), i + d = s.worth.length → f40G0 E s plan i (planL s plan i) := by
      intro d
      induction d with
      | zero =>
        intro i hd
        refine f40W0 s plan i _ (rv := plannedK s plan) hE ⟨fun h => by rw [es] at h; omega, fun _ => ?_⟩
        rw [plannedK, if_pos he, show i = s.worth.length by omega]
      | succ d ih =>
        intro i hd
        refine f40W0 s plan i _ (rv := plannedK s plan) hE ⟨fun _ => ⟨⟨hm, h1⟩, by rw [planL_len]; omega, by omega, ?_⟩, fun h => by rw [es] at h; omega⟩
        have := ih (i + 1) (by omega)
        rw [planL_snoc] at this; exact this
    exact key s.worth.length 0 (by omega)
  · have he : planE s plan = 1 := by rw [planE_eq h0, if_neg (by rw [h1]; simp)]
    rw [plannedK, if_neg (by omega), he]
  · have he : planE s plan = 60 := by rw [planE, if_neg (fun h => by rw [isSome_iff.2 h] at h0; cases h0)]
    rw [plannedK, if_neg (by omega), he]
theorem plannedR_ok (s : Stl) (plan : List Int) (h : (s.stages.length ≤ 9223372036854775807 ∧ s.worth.length ≤ 9223372036854775807) ∧ plan.length ≤ 9223372036854775807) : Pure Try.prog 41 [avStl s, .rsl (rowI plan) 0 plan.length] (.tup [.rsl (rowFr (plannedK s plan).1) 0 (plannedK s plan).1.length, .int .i64 (plannedK s plan).2]) := pure_of Try.func41 f41b fun E hE => by
  refine f41W s plan (rv := plannedK s plan) hE ⟨h, fun h0 => by rw [plannedK, if_neg h0], fun he => ?_⟩
  obtain ⟨h0, h1⟩ := planE_of he
  obtain ⟨hm, es⟩ := mok_G (isSome_of h0)
  have hw := (stPre_of hm.st).2.1
  rw [es] at hw
  have key : ∀ (d i : Nat), i + d = s.worth.length → f41G0 E s plan i (planL s plan i) := by
    intro d
    induction d with
    | zero =>
      intro i hd
      refine f41W0 s plan i _ (rv := plannedK s plan) hE ⟨fun h => by omega, fun _ => ?_⟩
      rw [plannedK, if_pos he, show i = s.worth.length by omega]
    | succ d ih =>
      intro i hd
      obtain ⟨v, hv, hb⟩ := val0 hm (w := onlyI (i : Int)) (ch := fun i _ => planI plan i) (wok_plan (by rw [es]; exact h1))
      refine f41W0 s plan i _ (rv := plannedK s plan) hE ⟨fun _ => ⟨⟨h0, by omega⟩, ⟨h0, h1⟩, v, hv, ⟨h0, hb⟩, by rw [planL_len]; omega, by omega, ?_⟩, fun h => by omega⟩
      have := ih (i + 1) (by omega)
      rw [planL_snoc, firstI, getD_of hv] at this; exact this
  exact key s.worth.length 0 (by omega)
theorem planned_len {s : Stl} {plan : List Int} (h : s.worth.length ≤ 9223372036854775807) : (plannedK s plan).1.length ≤ 9223372036854775807 := by
  unfold plannedK
  split
  · rw [planL_len]; exact h
  · simp
theorem sameFr_ok (a b : List Fr) (h : a.length ≤ 9223372036854775807 ∧ a = b) : Pure Try.prog 42 [.rsl (rowFr a) 0 a.length, .rsl (rowFr b) 0 b.length] (.bool true) := pure_of Try.func42 f42b fun E hE => by
  obtain ⟨h, rfl⟩ := h
  refine f42W a a (rv := true) hE ⟨fun h => absurd rfl h, fun _ => ?_⟩
  have key : ∀ (d i : Nat), i + d = a.length → f42G0 E a a i := by
    intro d
    induction d with
    | zero => intro i hd; exact f42W0 a a i (rv := true) hE ⟨fun h => by omega, fun _ => rfl⟩
    | succ d ih =>
      intro i hd
      have hi : a[i]? = some a[i] := List.getElem?_eq_getElem (by omega)
      exact f42W0 a a i (rv := true) hE ⟨fun _ => ⟨_, hi, _, hi, fun h => by simp at h, fun _ => ⟨by omega, ih (i + 1) (by omega)⟩⟩, fun h => by omega⟩
  exact key a.length 0 (by omega)
theorem f8b : Try.f8.body = some (bodyAt Try.prog 8) := by kernel_rfl
theorem p8_start_0 (s : Stl) (plan : (List Int))   {E : Env} {res : AV} (hE : PureE Try.prog 8 res E) (o0 : PureF Try.prog (.clos 40 [] []) [.agg [.rsl (rowStg s.stages) 0 s.stages.length, .rsl (rowI s.worth) 0 s.worth.length, .int .i64 s.price], .rsl (rowI plan) 0 plan.length] (.tup [.rsl (rowFr ((plannedK s plan).1)) 0 (((plannedK s plan).1).length), .int .i64 ((plannedK s plan).2)])) (o1 : PureF Try.prog (.clos 41 [] []) [.agg [.rsl (rowStg s.stages) 0 s.stages.length, .rsl (rowI s.worth) 0 s.worth.length, .int .i64 s.price], .rsl (rowI plan) 0 plan.length] (.tup [.rsl (rowFr ((plannedK s plan).1)) 0 (((plannedK s plan).1).length), .int .i64 ((plannedK s plan).2)])) (o2 : ((plannedK s plan).2 == (plannedK s plan).2) = true) (o3 : PureF Try.prog (.clos 42 [] []) [.rsl (rowFr ((plannedK s plan).1)) 0 (((plannedK s plan).1).length), .rsl (rowFr ((plannedK s plan).1)) 0 (((plannedK s plan).1).length)] (.bool true)) (o4 : true = true) (o5 : PureF Try.prog (.clos 20 [] []) [] (.bool true))
    (hr : AvLe (.bool true) res) : G Try.prog E [.code (bodyAt Try.prog 8)] ⟨[.agg [.rsl (rowStg s.stages) 0 s.stages.length, .rsl (rowI s.worth) 0 s.worth.length, .int .i64 s.price], .rsl (rowI plan) 0 plan.length] ++ unds (Try.f8.ntmps - 2), []⟩ :=
  end_stepL (n := 400) (evs := [.v (.tup [.rsl (rowFr ((plannedK s plan).1)) 0 (((plannedK s plan).1).length), .int .i64 ((plannedK s plan).2)]), .v (.tup [.rsl (rowFr ((plannedK s plan).1)) 0 (((plannedK s plan).1).length), .int .i64 ((plannedK s plan).2)]), .b true, .v (.bool true), .b true, .v (.bool true)]) (obs := [PureF Try.prog (.clos 40 [] []) [.agg [.rsl (rowStg s.stages) 0 s.stages.length, .rsl (rowI s.worth) 0 s.worth.length, .int .i64 s.price], .rsl (rowI plan) 0 plan.length] (.tup [.rsl (rowFr ((plannedK s plan).1)) 0 (((plannedK s plan).1).length), .int .i64 ((plannedK s plan).2)]), PureF Try.prog (.clos 41 [] []) [.agg [.rsl (rowStg s.stages) 0 s.stages.length, .rsl (rowI s.worth) 0 s.worth.length, .int .i64 s.price], .rsl (rowI plan) 0 plan.length] (.tup [.rsl (rowFr ((plannedK s plan).1)) 0 (((plannedK s plan).1).length), .int .i64 ((plannedK s plan).2)]), ((plannedK s plan).2 == (plannedK s plan).2) = true, PureF Try.prog (.clos 42 [] []) [.rsl (rowFr ((plannedK s plan).1)) 0 (((plannedK s plan).1).length), .rsl (rowFr ((plannedK s plan).1)) 0 (((plannedK s plan).1).length)] (.bool true), true = true, PureF Try.prog (.clos 20 [] []) [] (.bool true)]) hE Try.func8 mixed (by kernel_rfl) ⟨o0, o1, o2, o3, o4, o5, trivial⟩ hr
theorem p8_start_1 (s : Stl) (plan : (List Int))   {E : Env} {res : AV} (hE : PureE Try.prog 8 res E) (o0 : PureF Try.prog (.clos 40 [] []) [.agg [.rsl (rowStg s.stages) 0 s.stages.length, .rsl (rowI s.worth) 0 s.worth.length, .int .i64 s.price], .rsl (rowI plan) 0 plan.length] (.tup [.rsl (rowFr ((plannedK s plan).1)) 0 (((plannedK s plan).1).length), .int .i64 ((plannedK s plan).2)])) (o1 : PureF Try.prog (.clos 41 [] []) [.agg [.rsl (rowStg s.stages) 0 s.stages.length, .rsl (rowI s.worth) 0 s.worth.length, .int .i64 s.price], .rsl (rowI plan) 0 plan.length] (.tup [.rsl (rowFr ((plannedK s plan).1)) 0 (((plannedK s plan).1).length), .int .i64 ((plannedK s plan).2)])) (o2 : ((plannedK s plan).2 == (plannedK s plan).2) = true) (o3 : PureF Try.prog (.clos 42 [] []) [.rsl (rowFr ((plannedK s plan).1)) 0 (((plannedK s plan).1).length), .rsl (rowFr ((plannedK s plan).1)) 0 (((plannedK s plan).1).length)] (.bool true)) (o4 : true = false)
    (hr : AvLe (.bool false) res) : G Try.prog E [.code (bodyAt Try.prog 8)] ⟨[.agg [.rsl (rowStg s.stages) 0 s.stages.length, .rsl (rowI s.worth) 0 s.worth.length, .int .i64 s.price], .rsl (rowI plan) 0 plan.length] ++ unds (Try.f8.ntmps - 2), []⟩ :=
  end_stepL (n := 400) (evs := [.v (.tup [.rsl (rowFr ((plannedK s plan).1)) 0 (((plannedK s plan).1).length), .int .i64 ((plannedK s plan).2)]), .v (.tup [.rsl (rowFr ((plannedK s plan).1)) 0 (((plannedK s plan).1).length), .int .i64 ((plannedK s plan).2)]), .b true, .v (.bool true), .b false]) (obs := [PureF Try.prog (.clos 40 [] []) [.agg [.rsl (rowStg s.stages) 0 s.stages.length, .rsl (rowI s.worth) 0 s.worth.length, .int .i64 s.price], .rsl (rowI plan) 0 plan.length] (.tup [.rsl (rowFr ((plannedK s plan).1)) 0 (((plannedK s plan).1).length), .int .i64 ((plannedK s plan).2)]), PureF Try.prog (.clos 41 [] []) [.agg [.rsl (rowStg s.stages) 0 s.stages.length, .rsl (rowI s.worth) 0 s.worth.length, .int .i64 s.price], .rsl (rowI plan) 0 plan.length] (.tup [.rsl (rowFr ((plannedK s plan).1)) 0 (((plannedK s plan).1).length), .int .i64 ((plannedK s plan).2)]), ((plannedK s plan).2 == (plannedK s plan).2) = true, PureF Try.prog (.clos 42 [] []) [.rsl (rowFr ((plannedK s plan).1)) 0 (((plannedK s plan).1).length), .rsl (rowFr ((plannedK s plan).1)) 0 (((plannedK s plan).1).length)] (.bool true), true = false]) hE Try.func8 mixed (by kernel_rfl) ⟨o0, o1, o2, o3, o4, trivial⟩ hr
theorem p8_start_2 (s : Stl) (plan : (List Int))   {E : Env} {res : AV} (hE : PureE Try.prog 8 res E) (o0 : PureF Try.prog (.clos 40 [] []) [.agg [.rsl (rowStg s.stages) 0 s.stages.length, .rsl (rowI s.worth) 0 s.worth.length, .int .i64 s.price], .rsl (rowI plan) 0 plan.length] (.tup [.rsl (rowFr ((plannedK s plan).1)) 0 (((plannedK s plan).1).length), .int .i64 ((plannedK s plan).2)])) (o1 : PureF Try.prog (.clos 41 [] []) [.agg [.rsl (rowStg s.stages) 0 s.stages.length, .rsl (rowI s.worth) 0 s.worth.length, .int .i64 s.price], .rsl (rowI plan) 0 plan.length] (.tup [.rsl (rowFr ((plannedK s plan).1)) 0 (((plannedK s plan).1).length), .int .i64 ((plannedK s plan).2)])) (o2 : ((plannedK s plan).2 == (plannedK s plan).2) = false)
    (hr : AvLe (.bool false) res) : G Try.prog E [.code (bodyAt Try.prog 8)] ⟨[.agg [.rsl (rowStg s.stages) 0 s.stages.length, .rsl (rowI s.worth) 0 s.worth.length, .int .i64 s.price], .rsl (rowI plan) 0 plan.length] ++ unds (Try.f8.ntmps - 2), []⟩ :=
  end_stepL (n := 400) (evs := [.v (.tup [.rsl (rowFr ((plannedK s plan).1)) 0 (((plannedK s plan).1).length), .int .i64 ((plannedK s plan).2)]), .v (.tup [.rsl (rowFr ((plannedK s plan).1)) 0 (((plannedK s plan).1).length), .int .i64 ((plannedK s plan).2)]), .b false, .b false]) (obs := [PureF Try.prog (.clos 40 [] []) [.agg [.rsl (rowStg s.stages) 0 s.stages.length, .rsl (rowI s.worth) 0 s.worth.length, .int .i64 s.price], .rsl (rowI plan) 0 plan.length] (.tup [.rsl (rowFr ((plannedK s plan).1)) 0 (((plannedK s plan).1).length), .int .i64 ((plannedK s plan).2)]), PureF Try.prog (.clos 41 [] []) [.agg [.rsl (rowStg s.stages) 0 s.stages.length, .rsl (rowI s.worth) 0 s.worth.length, .int .i64 s.price], .rsl (rowI plan) 0 plan.length] (.tup [.rsl (rowFr ((plannedK s plan).1)) 0 (((plannedK s plan).1).length), .int .i64 ((plannedK s plan).2)]), ((plannedK s plan).2 == (plannedK s plan).2) = false, false = false]) hE Try.func8 mixed (by kernel_rfl) ⟨o0, o1, o2, (rfl), trivial⟩ hr
theorem f8W (s : Stl) (plan : (List Int)) {E : Env} {rv : Bool} (hE : PureE Try.prog 8 (.bool rv) E)
    (h : ((s.stages.length ≤ 9223372036854775807 ∧ s.worth.length ≤ 9223372036854775807) ∧ (((s.stages.length ≤ 9223372036854775807 ∧ s.worth.length ≤ 9223372036854775807) ∧ plan.length ≤ 9223372036854775807) ∧ (((plannedK s plan).2 = (plannedK s plan).2 → ((((plannedK s plan).1).length ≤ 9223372036854775807 ∧ ((plannedK s plan).1) = ((plannedK s plan).1)) ∧ ((true = true → rv = true) ∧ (true = false → rv = false)))) ∧ (¬ ((plannedK s plan).2 = (plannedK s plan).2) → rv = false))))) : G Try.prog E [.code (bodyAt Try.prog 8)] ⟨[.agg [.rsl (rowStg s.stages) 0 s.stages.length, .rsl (rowI s.worth) 0 s.worth.length, .int .i64 s.price], .rsl (rowI plan) 0 plan.length] ++ unds (Try.f8.ntmps - 2), []⟩ := by
  obtain ⟨h1, h⟩ := h
  obtain ⟨h2, h⟩ := h
  rcases Bool.eq_false_or_eq_true ((plannedK s plan).2 == (plannedK s plan).2) with hc0 | hc0
  · have h := h.1 (eq_of_beq hc0)
    obtain ⟨h3, h⟩ := h
    rcases Bool.eq_false_or_eq_true true with hc1 | hc1
    · have h := h.1 hc1
      exact p8_start_0 s plan    hE (pureF_of Try.func40 (by kernel_rfl) f40b (planned_ok s plan h1)) (pureF_of Try.func41 (by kernel_rfl) f41b (plannedR_ok s plan h2)) hc0 (pureF_of Try.func42 (by kernel_rfl) f42b (sameFr_ok ((plannedK s plan).1) ((plannedK s plan).1) h3)) hc1 (pureF_of Try.func20 (by kernel_rfl) f20b works_ok) (AvLe.of_eq (by rw [h]; try rfl))
    · have h := h.2 hc1
      exact p8_start_1 s plan    hE (pureF_of Try.func40 (by kernel_rfl) f40b (planned_ok s plan h1)) (pureF_of Try.func41 (by kernel_rfl) f41b (plannedR_ok s plan h2)) hc0 (pureF_of Try.func42 (by kernel_rfl) f42b (sameFr_ok ((plannedK s plan).1) ((plannedK s plan).1) h3)) hc1 (AvLe.of_eq (by rw [h]; try rfl))
  · have h := h.2 (ne_of_beq_false hc0)
    exact p8_start_2 s plan    hE (pureF_of Try.func40 (by kernel_rfl) f40b (planned_ok s plan h1)) (pureF_of Try.func41 (by kernel_rfl) f41b (plannedR_ok s plan h2)) hc0 (AvLe.of_eq (by rw [h]; try rfl))

theorem law8_ok (s : Stl) (plan : List Int) (h : s.stages.length ≤ 9223372036854775807 ∧ s.worth.length ≤ 9223372036854775807) (hp : plan.length ≤ 9223372036854775807) : Pure Try.prog 8 [avStl s, .rsl (rowI plan) 0 plan.length] (.bool true) := pure_of Try.func8 f8b fun E hE => by
  exact f8W s plan (rv := true) hE ⟨h, ⟨h, hp⟩, fun _ => ⟨⟨planned_len h.2, rfl⟩, fun _ => rfl, fun h => h⟩, fun h => absurd rfl h⟩

end Go.Proofs.Ytfgmlaeikcfpbaa
