/- A part of the proof: several texts, one behind the other. -/
import Derived.Test.YtfgmlaeikcfpbaaLStallsEnoughD
set_option linter.unusedVariables false
set_option linter.unusedSimpArgs false
set_option maxRecDepth 100000
namespace Go.Proofs.Ytfgmlaeikcfpbaa
open Go Ax
open Go.Proofs

/-! ### What the values are, in the end -/
structure VFix (m : Mch) (w : Int → Int) (ch : Int → List Int → Int) (i : Nat) (p : List Int × List Int) : Prop where
  fx : ∀ (j : Nat) (x : Stg), i ≤ j → m.s.stages[j]? = some x →
    (x.kind = 4 → p.1.getD j 0 = (if x.prize ≥ 0 then w x.prize else 0) ∧ p.2.getD j 0 = 0) ∧
    (x.kind = 1 → p.1.getD j 0 = sumW x.turns (nextI m j p.1 x.turns) ∧ p.2.getD j 0 = 0) ∧
    (x.kind ≠ 4 → x.kind ≠ 1 → p.1.getD j 0 = (nextI m j p.1 x.turns).getD (Int.toNat (p.2.getD j 0)) 0 ∧ p.2.getD j 0 = ch j (nextI m j p.1 x.turns))

theorem next_set {m : Mch} {i j : Nat} {a : Int} {V : List Int} {ts : List Trn} (h : ∀ t ∈ ts, i < Int.toNat t.to) : nextI m j (V.set i a) ts = nextI m j V ts := by
  unfold nextI
  apply List.map_congr_left
  intro t ht
  rw [getD_set_ne (by have := h t ht; omega)]

theorem vfix_step {m : Mch} (hm : MOk m) {w : Int → Int} {ch : Int → List Int → Int} {i : Nat} {p : List Int × List Int} (hlt : i < m.s.stages.length) (hp : VOk m (i + 1) p) (hf : VFix m w ch (i + 1) p) : VFix m w ch i (valStep m w ch i p) := by
  have hform := (stPre_of hm.st).2.2.2.2
  have hi : m.s.stages[i]? = some m.s.stages[i] := List.getElem?_eq_getElem hlt
  have hx : m.s.stages.getD i ⟨0, 0, []⟩ = m.s.stages[i] := by simp [List.getD, hi]
  have hto := turns_to hi (hform i hlt)
  have up : ∀ (a : Int) (p' : List Int × List Int), p'.1 = p.1.set i a → (∀ j, i < j → p'.2.getD j 0 = p.2.getD j 0) →
      ((m.s.stages[i].kind = 4 → a = (if m.s.stages[i].prize ≥ 0 then w m.s.stages[i].prize else 0) ∧ p'.2.getD i 0 = 0) ∧
       (m.s.stages[i].kind = 1 → a = sumW m.s.stages[i].turns (nextI m i p.1 m.s.stages[i].turns) ∧ p'.2.getD i 0 = 0) ∧
       (m.s.stages[i].kind ≠ 4 → m.s.stages[i].kind ≠ 1 → a = (nextI m i p.1 m.s.stages[i].turns).getD (Int.toNat (p'.2.getD i 0)) 0 ∧ p'.2.getD i 0 = ch i (nextI m i p.1 m.s.stages[i].turns))) → VFix m w ch i p' := by
    intro a p' e1 e2 e3
    refine ⟨fun j x hj hjx => ?_⟩
    by_cases e : i = j
    · subst e
      rw [hi] at hjx; cases hjx
      rw [e1, next_set (fun t ht => (hto t ht).1), getD_set_self (by rw [hp.l1]; exact hlt)]
      exact e3
    · have h1 := hf.fx j x (by omega) hjx
      have hto2 := turns_to hjx (hform j (List.getElem?_eq_some_iff.1 hjx).1)
      rw [e1, next_set (fun t ht => by have := (hto2 t ht).1; omega), getD_set_ne e, e2 j (by omega)]
      exact h1
  unfold valStep
  rw [hx]
  generalize hxx : m.s.stages[i] = x at *
  split
  · rename_i h4
    split
    · rename_i hpr
      refine up (w x.prize) _ rfl (fun j hj => rfl) ⟨fun _ => ⟨by rw [if_pos hpr], hp.c0 i (by omega)⟩, fun h => by omega, fun h => absurd h4 h⟩
    · rename_i hpr
      refine up 0 _ ?_ (fun j hj => rfl) ⟨fun _ => ⟨by rw [if_neg hpr], hp.c0 i (by omega)⟩, fun h => by omega, fun h => absurd h4 h⟩
      rw [set_same]
      have := getD_some (l := p.1) (i := i) (by rw [hp.l1]; exact hlt)
      rw [hp.lo i (by omega)] at this; exact this
  · rename_i h4
    split
    · rename_i h1
      refine up _ _ rfl (fun j hj => rfl) ⟨fun h => absurd h h4, fun _ => ⟨by rw [hp.lo i (by omega), Int.zero_add], hp.c0 i (by omega)⟩, fun _ h => absurd h1 h⟩
    · rename_i h1
      refine up _ _ rfl (fun j hj => by show (p.2.set i _).getD j 0 = _; rw [getD_set_ne (by omega)]) ⟨fun h => absurd h h4, fun h => absurd h h1, fun _ _ => ?_⟩
      show _ = (nextI m i p.1 x.turns).getD (Int.toNat ((p.2.set i _).getD i 0)) 0 ∧ (p.2.set i _).getD i 0 = _
      rw [getD_set_self (by rw [hp.l2]; exact hlt)]
      exact ⟨rfl, rfl⟩

theorem vfix_all {m : Mch} (hm : MOk m) {w : Int → Int} {ch : Int → List Int → Int} (hw : WOk m w ch) : ∀ {n : Nat} {p : List Int × List Int}, n ≤ m.s.stages.length → VOk m n p → VFix m w ch n p → VFix m w ch 0 (valN m w ch n p)
  | 0, p, _, _, h => h
  | i + 1, p, hn, hp, h => (vfix_all hm hw (n := i) (by omega) (val_step hm hw (by omega) hp) (vfix_step hm (by omega) hp h) : VFix m w ch 0 (valN m w ch i (valStep m w ch i p)))
theorem vfixA {m : Mch} (hm : MOk m) {w : Int → Int} {ch : Int → List Int → Int} (hw : WOk m w ch) : VFix m w ch 0 (valA m w ch) :=
  vfix_all hm hw (Nat.le_refl _) (val_ok0 hm) ⟨fun j x hj hx => by have := (List.getElem?_eq_some_iff.1 hx).1; omega⟩

/-! ### Who chooses -/
/-! ### The reference's greatest common divisor is the program's -/
theorem gcdF_int : ∀ {n : Nat} {a b : Int}, 0 ≤ a → 0 ≤ b → b < n → gcdF n a b = (Int.gcd a b : Int)
  | 0, a, b, _, hb, h => by omega
  | n + 1, a, b, ha, hb, h => by
    simp only [gcdF]
    split
    · rename_i h0
      have t0 := Int.tmod_nonneg b ha
      have t1 := Int.tmod_lt_of_pos a h0
      rw [gcdF_int hb t0 (by omega), Int.tmod_eq_emod_of_nonneg ha, Int.gcd_comm a b]
      congr 1
      rw [Int.gcd_comm b (a % b), Int.gcd_comm b a]
      simp only [Int.gcd, Int.natAbs_emod_of_nonneg ha]
      rw [Nat.gcd_comm a.natAbs, Nat.gcd_rec b.natAbs a.natAbs]
    · have : b = 0 := by omega
      subst this
      simp [Int.gcd]; omega
theorem gcdI_int {a b : Int} (ha : 0 ≤ a) (hb : 0 ≤ b) : gcdI a b = (Int.gcd a b : Int) := gcdF_int ha hb (by omega)
theorem gcdI_comm {a b : Int} (ha : 0 ≤ a) (hb : 0 ≤ b) : gcdI a b = gcdI b a := by rw [gcdI_int ha hb, gcdI_int hb ha, Int.gcd_comm]
theorem low_eq {n d : Int} (hd : 0 < d) : (⟨Int.tdiv n (gcdI d (iMax n (0 - n))), Int.tdiv d (gcdI d (iMax n (0 - n)))⟩ : Fr) = fracI n d := by
  have h0 : 0 ≤ iMax n (0 - n) := by unfold iMax; split <;> omega
  have h1 := gcd_pos hd h0
  have e : iMax (gcdI (iMax n (0 - n)) d) 1 = gcdI d (iMax n (0 - n)) := by
    rw [gcdI_comm h0 (by omega)]
    generalize gcdI d (iMax n (0 - n)) = c at h1
    unfold iMax; split <;> omega
  rw [fracI, e]

/-! ### What an end is worth -/
def endsI (s : Stl) (w : Int → Int) : List Int := s.stages.map fun x => if x.kind = 4 ∧ x.prize ≥ 0 then w x.prize else 0
theorem ends_len {s : Stl} {w : Int → Int} : (endsI s w).length = s.stages.length := by rw [endsI, List.length_map]
theorem ends_at {s : Stl} {w : Int → Int} {i : Nat} {x : Stg} (h : s.stages[i]? = some x) : (endsI s w)[i]? = some (if x.kind = 4 ∧ x.prize ≥ 0 then w x.prize else 0) := by
  rw [endsI, List.getElem?_map, h]; rfl
def valuesP (s : Stl) (w : Int → Int) (plan : List Int) : List Int := (valA (machG s) w (fun i _ => planI plan i)).1
theorem isSome_of {s : Stl} (h : checkK s = 0) : (machI s).isSome = true := by
  unfold checkK at h
  split at h
  · assumption
  · omega
theorem measR_of {s : Stl} (h : (machI s).isSome = true) : measR (measA s) = ((machG s).meas, true) := by
  obtain ⟨m, hm⟩ := Option.isSome_iff_exists.1 h
  have : machG s = m := by simp [machG, hm]
  rw [this]
  unfold machI at hm
  split at hm
  · obtain ⟨r, hr, e⟩ := Option.map_eq_some_iff.1 hm
    rw [hr, ← e]; rfl
  · cases hm
theorem f81b : Try.f81.body = some (bodyAt Try.prog 81) := by kernel_rfl
def f81K0 (P : Program) : List Item := kAt 400 [.code (bodyAt P 81)] [.stop]
def f81S0 (s : Stl) (kd : Int) (v1 : List Int) (i : Nat) (g1 : Nat) : St := ⟨[J, .int .i64 kd, .ptr 0 0 0, J, J, .sl 1 g1 0 v1.length 1, .int .i64 (i : Int), J, J, J, J, J, J, J, J, J, J, J, J, J, J, J, J, J, J, J, J, J, J, J, J, J, J, J, J, J, J, J], [⟨true, 0, 1, true, [.rsl (rowStg s.stages) 0 s.stages.length, .rsl (rowI s.worth) 0 s.worth.length, .int .i64 s.price], false⟩, ⟨true, g1, 1, true, (rowI v1), true⟩]⟩
def f81G0 (E : Env) (s : Stl) (kd : Int) (v1 : List Int) (i : Nat) : Prop := ∀ g1 : Nat, G Try.prog E (f81K0 Try.prog) (f81S0 s kd v1 i g1)
theorem p81_start_0 (s : Stl) (kd : Int)   {E : Env} {rv : AV} (hE : PureE Try.prog 81 rv E) (ho : AllP [0 ≤ (s.stages.length : Int) ∧ (s.stages.length : Int) ≤ (s.stages.length : Int) ∧ (s.stages.length : Int) ≤ 2147483648])
    (hg : G Try.prog E (f81K0 Try.prog) ⟨[J, .int .i64 kd, .ptr 0 0 0, J, J, .sl 1 0 0 (Int.toNat (s.stages.length : Int)) 1, .int .i64 0, J, J, J, J, J, J, J, J, J, J, J, J, J, J, J, J, J, J, J, J, J, J, J, J, J, J, J, J, J, J, J], [⟨true, 0, 1, true, [.rsl (rowStg s.stages) 0 s.stages.length, .rsl (rowI s.worth) 0 s.worth.length, .int .i64 s.price], false⟩, ⟨true, 0, 1, true, ((List.replicate (Int.toNat (s.stages.length : Int)) ([.int .i64 0] : List AV)).flatten), true⟩]⟩) : G Try.prog E [.code (bodyAt Try.prog 81)] ⟨[.agg [.rsl (rowStg s.stages) 0 s.stages.length, .rsl (rowI s.worth) 0 s.worth.length, .int .i64 s.price], .int .i64 kd] ++ unds (Try.f81.ntmps - 2), []⟩ :=
  segC_step (n := 400) (ds := []) (cs := []) (live := [1, 2, 5, 6]) (m := 2) (evs := [.stop]) (obs := _) hE.2.1 (hE.nogh _) mixed (by kernel_rfl) ho hg
theorem f81W (s : Stl) (kd : Int) {E : Env} {rv : (List Int)} (hE : PureE Try.prog 81 (.rsl (rowI rv) 0 rv.length) E)
    (h : (s.stages.length ≤ 2147483648 ∧ f81G0 E s kd (List.replicate s.stages.length (0 : Int)) 0)) : G Try.prog E [.code (bodyAt Try.prog 81)] ⟨[.agg [.rsl (rowStg s.stages) 0 s.stages.length, .rsl (rowI s.worth) 0 s.worth.length, .int .i64 s.price], .int .i64 kd] ++ unds (Try.f81.ntmps - 2), []⟩ := by
  obtain ⟨h1, h⟩ := h
  refine p81_start_0 s kd    hE ⟨⟨by omega, by omega, by have := h1; omega⟩, trivial⟩ ?_
  have h := (h 0)
  simp only [f81G0, f81S0, List.length_set, List.length_replicate] at h
  rw [(show (List.replicate (Int.toNat (s.stages.length : Int)) ([.int .i64 0] : List AV)).flatten = rowI (List.replicate s.stages.length (0 : Int)) from row_rep cI _ _)]
  exact h
theorem p81_0_0 (s : Stl) (kd : Int) (v1 : List Int) (i : Nat) (g1 : Nat) (se : Stg) (e : Int)  {E : Env} {rv : AV} (hE : PureE Try.prog 81 rv E) (ho : AllP [g1 = g1, (decide ((i : Int) < (v1.length : Int))) = true, 0 ≤ (i : Int) ∧ (i : Int) < (s.stages.length : Int), ((rowStg s.stages).drop ((0 + (Int.toNat (i : Int)) * 3) + 0)).take 1 = [.int .i64 se.kind], (se.kind == 4) = true, 0 ≤ (i : Int) ∧ (i : Int) < (s.stages.length : Int), ((rowStg s.stages).drop ((0 + (Int.toNat (i : Int)) * 3) + 1)).take 1 = [.int .i64 se.prize], (se.prize == kd) = true, 0 ≤ (i : Int) ∧ (i : Int) < (v1.length : Int), g1 = g1, ((0 + (Int.toNat (i : Int)) * 1) + 1) ≤ (rowI v1).length, g1 = g1, InR .i64 ((i : Int) + 1)])
    (hg : G Try.prog E (f81K0 Try.prog) ⟨[J, .int .i64 kd, .ptr 0 0 0, J, J, .sl 1 g1 0 v1.length 1, .int .i64 ((i : Int) + 1), J, J, J, J, J, J, J, J, J, J, J, J, J, J, J, J, J, J, J, J, J, J, J, J, J, J, J, J, J, J, J], [⟨true, 0, 1, true, [.rsl (rowStg s.stages) 0 s.stages.length, .rsl (rowI s.worth) 0 s.worth.length, .int .i64 s.price], false⟩, ⟨true, g1, 1, true, (setAt (rowI v1) (0 + (Int.toNat (i : Int)) * 1) [.int .i64 1]), true⟩]⟩) : G Try.prog E (f81K0 Try.prog) (f81S0 s kd v1 i g1) :=
  segC_step (n := 400) (ds := []) (cs := []) (live := [1, 2, 5, 6]) (m := 2) (evs := [.b true, .auto, .ld (.int .i64 se.kind), .b true, .auto, .ld (.int .i64 se.prize), .b true, .stop]) (obs := _) hE.2.1 (hE.nogh _) mixed (by kernel_rfl) ho hg
theorem p81_0_1 (s : Stl) (kd : Int) (v1 : List Int) (i : Nat) (g1 : Nat) (se : Stg)  {E : Env} {rv : AV} (hE : PureE Try.prog 81 rv E) (ho : AllP [g1 = g1, (decide ((i : Int) < (v1.length : Int))) = true, 0 ≤ (i : Int) ∧ (i : Int) < (s.stages.length : Int), ((rowStg s.stages).drop ((0 + (Int.toNat (i : Int)) * 3) + 0)).take 1 = [.int .i64 se.kind], (se.kind == 4) = true, 0 ≤ (i : Int) ∧ (i : Int) < (s.stages.length : Int), ((rowStg s.stages).drop ((0 + (Int.toNat (i : Int)) * 3) + 1)).take 1 = [.int .i64 se.prize], (se.prize == kd) = false, InR .i64 ((i : Int) + 1)])
    (hg : G Try.prog E (f81K0 Try.prog) ⟨[J, .int .i64 kd, .ptr 0 0 0, J, J, .sl 1 g1 0 v1.length 1, .int .i64 ((i : Int) + 1), J, J, J, J, J, J, J, J, J, J, J, J, J, J, J, J, J, J, J, J, J, J, J, J, J, J, J, J, J, J, J], [⟨true, 0, 1, true, [.rsl (rowStg s.stages) 0 s.stages.length, .rsl (rowI s.worth) 0 s.worth.length, .int .i64 s.price], false⟩, ⟨true, g1, 1, true, (rowI v1), true⟩]⟩) : G Try.prog E (f81K0 Try.prog) (f81S0 s kd v1 i g1) :=
  segC_step (n := 400) (ds := []) (cs := []) (live := [1, 2, 5, 6]) (m := 2) (evs := [.b true, .auto, .ld (.int .i64 se.kind), .b true, .auto, .ld (.int .i64 se.prize), .b false, .stop]) (obs := _) hE.2.1 (hE.nogh _) mixed (by kernel_rfl) ho hg
theorem p81_0_2 (s : Stl) (kd : Int) (v1 : List Int) (i : Nat) (g1 : Nat) (se : Stg)  {E : Env} {rv : AV} (hE : PureE Try.prog 81 rv E) (ho : AllP [g1 = g1, (decide ((i : Int) < (v1.length : Int))) = true, 0 ≤ (i : Int) ∧ (i : Int) < (s.stages.length : Int), ((rowStg s.stages).drop ((0 + (Int.toNat (i : Int)) * 3) + 0)).take 1 = [.int .i64 se.kind], (se.kind == 4) = false, false = false, InR .i64 ((i : Int) + 1)])
    (hg : G Try.prog E (f81K0 Try.prog) ⟨[J, .int .i64 kd, .ptr 0 0 0, J, J, .sl 1 g1 0 v1.length 1, .int .i64 ((i : Int) + 1), J, J, J, J, J, J, J, J, J, J, J, J, J, J, J, J, J, J, J, J, J, J, J, J, J, J, J, J, J, J, J], [⟨true, 0, 1, true, [.rsl (rowStg s.stages) 0 s.stages.length, .rsl (rowI s.worth) 0 s.worth.length, .int .i64 s.price], false⟩, ⟨true, g1, 1, true, (rowI v1), true⟩]⟩) : G Try.prog E (f81K0 Try.prog) (f81S0 s kd v1 i g1) :=
  segC_step (n := 400) (ds := []) (cs := []) (live := [1, 2, 5, 6]) (m := 2) (evs := [.b true, .auto, .ld (.int .i64 se.kind), .b false, .b false, .stop]) (obs := _) hE.2.1 (hE.nogh _) mixed (by kernel_rfl) ho hg
theorem p81_0_3 (s : Stl) (kd : Int) (v1 : List Int) (i : Nat) (g1 : Nat)  {E : Env} {res : AV} (hE : PureE Try.prog 81 res E) (ho : AllP [g1 = g1, (decide ((i : Int) < (v1.length : Int))) = false, g1 = g1])
    (hr : AvLe (.rsl (rowI v1) 0 v1.length) res) : G Try.prog E (f81K0 Try.prog) (f81S0 s kd v1 i g1) :=
  end_stepL (n := 400) (evs := [.b false]) (obs := _) hE Try.func81 mixed (by kernel_rfl) ho hr
theorem f81W0 (s : Stl) (kd : Int) (v1 : List Int) (i : Nat) {E : Env} {rv : (List Int)} (hE : PureE Try.prog 81 (.rsl (rowI rv) 0 rv.length) E)
    (h : (((i : Int) < (v1.length : Int) → (∃ se : Stg, s.stages[i]? = some se ∧ ((se.kind = 4 → ((se.prize = kd → (∃ e : Int, v1[i]? = some e ∧ ((-9223372036854775808 ≤ (i : Int) + 1 ∧ (i : Int) + 1 ≤ 9223372036854775807) ∧ f81G0 E s kd (v1.set i 1) (i + 1)))) ∧ (¬ (se.prize = kd) → ((-9223372036854775808 ≤ (i : Int) + 1 ∧ (i : Int) + 1 ≤ 9223372036854775807) ∧ f81G0 E s kd v1 (i + 1))))) ∧ (¬ (se.kind = 4) → ((-9223372036854775808 ≤ (i : Int) + 1 ∧ (i : Int) + 1 ≤ 9223372036854775807) ∧ f81G0 E s kd v1 (i + 1)))))) ∧ (¬ ((i : Int) < (v1.length : Int)) → rv = v1))) : f81G0 E s kd v1 i := by
  intro g1
  rcases Bool.eq_false_or_eq_true (decide ((i : Int) < (v1.length : Int))) with hc0 | hc0
  · have h := h.1 (of_decide_eq_true hc0)
    obtain ⟨se, h1, h⟩ := h
    rcases Bool.eq_false_or_eq_true (se.kind == 4) with hc1 | hc1
    · have h := h.1 (eq_of_beq hc1)
      rcases Bool.eq_false_or_eq_true (se.prize == kd) with hc2 | hc2
      · have h := h.1 (eq_of_beq hc2)
        obtain ⟨e, h2, h⟩ := h
        obtain ⟨q14_3, h⟩ := h
        refine p81_0_0 s kd v1 i g1 se e hE ⟨rfl, hc0, (idx_ok h1), (row_part cStg (s := 3) (k := 0) (m := 1) (fun _ => rfl) (by decide) h1), hc1, (idx_ok h1), (row_part cStg (s := 3) (k := 1) (m := 1) (fun _ => rfl) (by decide) h1), hc2, (idx_ok h2), rfl, (row_fits cI (s := 1) (k := 0) (m := 1) (fun _ => rfl) (by decide) h2), rfl, q14_3, trivial⟩ ?_
        have h := (h g1)
        simp only [f81S0, List.length_set] at h
        rw [(show setAt (rowI v1) (0 + (Int.toNat (i : Int)) * 1) [.int .i64 1] = rowI (v1.set i 1) from row_set cI (s := 1) (k := 0) (fun _ => rfl) h2 rfl (by first | decide | simp))]
        exact h
      · have h := h.2 (ne_of_beq_false hc2)
        obtain ⟨q9_3, h⟩ := h
        exact p81_0_1 s kd v1 i g1 se hE ⟨rfl, hc0, (idx_ok h1), (row_part cStg (s := 3) (k := 0) (m := 1) (fun _ => rfl) (by decide) h1), hc1, (idx_ok h1), (row_part cStg (s := 3) (k := 1) (m := 1) (fun _ => rfl) (by decide) h1), hc2, q9_3, trivial⟩ (h g1)
    · have h := h.2 (ne_of_beq_false hc1)
      obtain ⟨q7_2, h⟩ := h
      exact p81_0_2 s kd v1 i g1 se hE ⟨rfl, hc0, (idx_ok h1), (row_part cStg (s := 3) (k := 0) (m := 1) (fun _ => rfl) (by decide) h1), hc1, rfl, q7_2, trivial⟩ (h g1)
  · have h := h.2 (of_decide_eq_false hc0)
    exact p81_0_3 s kd v1 i g1  hE ⟨rfl, hc0, rfl, trivial⟩ (AvLe.of_eq (by rw [h]; try rfl))
theorem f79b : Try.f79.body = some (bodyAt Try.prog 79) := by kernel_rfl
theorem p79_start_0 (s : Stl) (n : Int)  (e : Int)  {E : Env} {res : AV} (hE : PureE Try.prog 79 res E) (ho : AllP [PureF Try.prog (.clos 51 [] []) [.agg [.rsl (rowStg s.stages) 0 s.stages.length, .rsl (rowI s.worth) 0 s.worth.length, .int .i64 s.price]] (.tup [.rsl (rowI ((measR (measA s)).1)) 0 (((measR (measA s)).1).length), .bool ((measR (measA s)).2)]), (0 : Int) ≤ 0 ∧ (0 : Int) < ((((measR (measA s)).1).length : Nat) : Int), ((rowI ((measR (measA s)).1)).drop (0 + 0 * 1)).take 1 = [.int .i64 e], InR .i64 (0 - n), PureF Try.prog (.clos 49 [] []) [.int .i64 e, .int .i64 (iMax n (0 - n))] (.int .i64 (gcdI e (iMax n (0 - n)))), InR .i64 (Int.tdiv n (gcdI e (iMax n (0 - n)))), (gcdI e (iMax n (0 - n))) ≠ 0, (0 : Int) ≤ 0 ∧ (0 : Int) < ((((measR (measA s)).1).length : Nat) : Int), ((rowI ((measR (measA s)).1)).drop (0 + 0 * 1)).take 1 = [.int .i64 e], InR .i64 (Int.tdiv e (gcdI e (iMax n (0 - n)))), (gcdI e (iMax n (0 - n))) ≠ 0, 2 ≤ 2])
    (hr : AvLe (.agg [.int .i64 (Int.tdiv n (gcdI e (iMax n (0 - n)))), .int .i64 (Int.tdiv e (gcdI e (iMax n (0 - n))))]) res) : G Try.prog E [.code (bodyAt Try.prog 79)] ⟨[.agg [.rsl (rowStg s.stages) 0 s.stages.length, .rsl (rowI s.worth) 0 s.worth.length, .int .i64 s.price], .int .i64 n] ++ unds (Try.f79.ntmps - 2), []⟩ :=
  end_stepL (n := 400) (evs := [.v (.tup [.rsl (rowI ((measR (measA s)).1)) 0 (((measR (measA s)).1).length), .bool ((measR (measA s)).2)]), .ld (.int .i64 e), .v (.int .i64 (gcdI e (iMax n (0 - n)))), .ld (.int .i64 e)]) (obs := _) hE Try.func79 mixed (by kernel_rfl) ho hr
theorem f79W (s : Stl) (n : Int) {E : Env} {rv : Fr} (hE : PureE Try.prog 79 (.agg [.int .i64 rv.num, .int .i64 rv.den]) E)
    (h : ((s.stages.length ≤ 1000000 ∧ ∀ i, i < s.stages.length → formI s i = true) ∧ (∃ e : Int, ((measR (measA s)).1)[0]? = some e ∧ ((-9223372036854775808 ≤ 0 - n ∧ 0 - n ≤ 9223372036854775807) ∧ ((0 ≤ e ∧ 0 ≤ (iMax n (0 - n))) ∧ ((-9223372036854775808 ≤ Int.tdiv n (gcdI e (iMax n (0 - n))) ∧ Int.tdiv n (gcdI e (iMax n (0 - n))) ≤ 9223372036854775807) ∧ ((gcdI e (iMax n (0 - n))) ≠ 0 ∧ ((-9223372036854775808 ≤ Int.tdiv e (gcdI e (iMax n (0 - n))) ∧ Int.tdiv e (gcdI e (iMax n (0 - n))) ≤ 9223372036854775807) ∧ ((gcdI e (iMax n (0 - n))) ≠ 0 ∧ rv = (⟨(Int.tdiv n (gcdI e (iMax n (0 - n)))), (Int.tdiv e (gcdI e (iMax n (0 - n))))⟩ : Fr)))))))))) : G Try.prog E [.code (bodyAt Try.prog 79)] ⟨[.agg [.rsl (rowStg s.stages) 0 s.stages.length, .rsl (rowI s.worth) 0 s.worth.length, .int .i64 s.price], .int .i64 n] ++ unds (Try.f79.ntmps - 2), []⟩ := by
  obtain ⟨h1, h⟩ := h
  obtain ⟨e, h2, h⟩ := h
  obtain ⟨q4_0, h⟩ := h
  obtain ⟨h3, h⟩ := h
  obtain ⟨q6_0, h⟩ := h
  obtain ⟨q7_0, h⟩ := h
  obtain ⟨q10_0, h⟩ := h
  obtain ⟨q11_0, h⟩ := h
  exact p79_start_0 s n   e hE ⟨(pureF_of Try.func51 (by kernel_rfl) f51b (measures_ok s h1)), (idx_ok h2), (row_part cI (s := 1) (k := 0) (m := 1) (fun _ => rfl) (by decide) h2), q4_0, (pureF_of Try.func49 (by kernel_rfl) f49b (gcd_ok e (iMax n (0 - n)) h3)), q6_0, q7_0, (idx_ok h2), (row_part cI (s := 1) (k := 0) (m := 1) (fun _ => rfl) (by decide) h2), q10_0, q11_0, (by decide), trivial⟩ (AvLe.of_eq (by rw [h]; try rfl))

theorem won_ok (s : Stl) (kd : Int) (h : checkK s = 0 ∧ 0 ≤ kd) : Pure Try.prog 81 [.agg [.rsl (rowStg s.stages) 0 s.stages.length, .rsl (rowI s.worth) 0 s.worth.length, .int .i64 s.price], .int .i64 kd] (.rsl (rowI (endsI s (onlyI kd))) 0 (endsI s (onlyI kd)).length) := pure_of Try.func81 f81b fun E hE => by
  obtain ⟨hm, es⟩ := mok_G (isSome_of h.1)
  have hn := (stPre_of hm.st).1
  rw [es] at hn
  have key : ∀ (d i : Nat) (v : List Int), i + d = s.stages.length → v.length = s.stages.length → (∀ j, j < i → v[j]? = (endsI s (onlyI kd))[j]?) → (∀ j, i ≤ j → j < s.stages.length → v[j]? = some 0) → f81G0 E s kd v i := by
    intro d
    induction d with
    | zero =>
      intro i v hd hl h1 h2
      refine f81W0 s kd v i (rv := endsI s (onlyI kd)) hE ⟨fun h => by omega, fun _ => ?_⟩
      apply List.ext_getElem?
      intro j
      by_cases hj : j < i
      · exact (h1 j hj).symm
      · rw [List.getElem?_eq_none (by rw [ends_len]; omega), List.getElem?_eq_none (by omega)]
    | succ d ih =>
      intro i v hd hl h1 h2
      have hi : s.stages[i]? = some s.stages[i] := List.getElem?_eq_getElem (by omega)
      have he := ends_at (w := onlyI kd) hi
      generalize s.stages[i] = x at hi he
      have hv := h2 i (Nat.le_refl _) (by omega)
      have nx := fun (v' : List Int) (e : v' = v.set i (if x.kind = 4 ∧ x.prize ≥ 0 then onlyI kd x.prize else 0)) => ih (i + 1) v' (by omega) (by rw [e]; simp [hl]) (fun j hj => by
        rw [e]
        by_cases e2 : i = j
        · subst e2; rw [List.getElem?_set_self (by omega), he]
        · rw [List.getElem?_set_ne e2]; exact h1 j (by omega)) (fun j hj hj2 => by rw [e, List.getElem?_set_ne (by omega)]; exact h2 j (by omega) hj2)
      refine f81W0 s kd v i (rv := endsI s (onlyI kd)) hE ⟨fun _ => ⟨x, hi, fun h4 => ⟨fun hk => ⟨0, hv, by omega, nx _ ?_⟩, fun hk => ⟨by omega, nx _ ?_⟩⟩, fun h4 => ⟨by omega, nx _ ?_⟩⟩, fun h => by omega⟩
      · rw [if_pos ⟨h4, by omega⟩, onlyI, if_pos hk]
      · rw [onlyI, if_neg hk]; simp [set_same hv]
      · rw [if_neg (fun h => h4 h.1), set_same hv]
  exact f81W s kd (rv := endsI s (onlyI kd)) hE ⟨by omega, key s.stages.length 0 _ (by omega) (by simp) (fun j hj => by omega) (fun j _ hj => by rw [List.getElem?_replicate, if_pos hj])⟩
theorem lowest_ok (s : Stl) (n : Int) (h : checkK s = 0 ∧ -100000000000000000 ≤ n ∧ n ≤ 100000000000000000) : Pure Try.prog 79 [.agg [.rsl (rowStg s.stages) 0 s.stages.length, .rsl (rowI s.worth) 0 s.worth.length, .int .i64 s.price], .int .i64 n] (.agg [.int .i64 (fracI n ((machG s).meas.getD 0 0)).num, .int .i64 (fracI n ((machG s).meas.getD 0 0)).den]) := pure_of Try.func79 f79b fun E hE => by
  obtain ⟨hm, es⟩ := mok_G (isSome_of h.1)
  have hn := (stPre_of hm.st).1
  have hform := (stPre_of hm.st).2.2.2.2
  rw [es] at hn hform
  obtain ⟨u, hu, hu1, hu2⟩ := meas0 hm
  have h0 : 0 ≤ iMax n (0 - n) := by unfold iMax; split <;> omega
  have hg := gcd_pos hu1 h0
  have b1 := tdiv_bd (g := gcdI u (iMax n (0 - n))) (by omega) h.2.1 h.2.2
  have b2 := tdiv_bd (n := u) (B := 1000000000000) (g := gcdI u (iMax n (0 - n))) (by omega) (by omega) (by omega)
  refine f79W s n (rv := fracI n ((machG s).meas.getD 0 0)) hE ⟨⟨by omega, hform⟩, u, by rw [measR_of (isSome_of h.1)]; exact hu, by omega, ⟨by omega, h0⟩, by omega, by omega, by omega, by omega, ?_⟩
  rw [getD_of hu]; exact (low_eq hu1).symm

theorem f80pb : Try.f80.body = some (bodyAt Try.prog 80) := by kernel_rfl
def f80pK0 (P : Program) : List Item := kAt 400 [.code (bodyAt P 80)] [.stop]
def f80pS0 (s : Stl) (ends : (List Int)) (pa : Int) (oa : Int) (plan : (List Int)) (v1 : List Int) (i : Int) (g1 : Nat) : St := ⟨[J, .rsl (rowI ends) 0 ends.length, .int .i64 pa, .int .i64 oa, .rsl (rowI plan) 0 plan.length, .ptr 0 0 0, J, J, J, J, J, .rsl (rowI ((measR (measA s)).1)) 0 (((measR (measA s)).1).length), J, .sl 1 g1 0 v1.length 1, .int .i64 i, J, J, J, J, J, J, J, J, J, J, J, J, J, J, J, J, J, J, J, J, J, J, J, J, J, J, J, J, J, J, J, J, J, J, J, J, J, J, J, J, J, J, J, J, J, J, J, J, J, J, J, J, J, J, J, J, J, J, J, J, J, J, J, J, J, J, J, J, J, J, J, J, J, J, J, J, J, J, J, J, J, J, J, J, J, J, J, J, J, J, J, J, J, J, J, J, J, J, J, J, J, J, J, J, J, J, J, J, J, J, J, J, J, J, J, J, J, J, J, J, J, J, J, J, J, J, J, J, J, J, J, J, J, J, J, J, J], [⟨true, 0, 1, true, [.rsl (rowStg s.stages) 0 s.stages.length, .rsl (rowI s.worth) 0 s.worth.length, .int .i64 s.price], false⟩, ⟨true, g1, 1, true, (rowI v1), true⟩]⟩
def f80pG0 (E : Env) (s : Stl) (ends : (List Int)) (pa : Int) (oa : Int) (plan : (List Int)) (v1 : List Int) (i : Int) : Prop := ∀ g1 : Nat, G Try.prog E (f80pK0 Try.prog) (f80pS0 s ends pa oa plan v1 i g1)
def f80pK1 (P : Program) : List Item := kAt 400 [.code (bodyAt P 80)] [.b true, .b false, .b true, .stop]
def f80pS1 (s : Stl) (ends : (List Int)) (pa : Int) (oa : Int) (plan : (List Int)) (i : Int) (all : Int) (v1 : List Int) (v2_0 : Int) (v2_1 : Int) (v2_2 : (List Trn)) (k : Nat) (g1 : Nat) : St := ⟨[J, .rsl (rowI ends) 0 ends.length, .int .i64 pa, .int .i64 oa, .rsl (rowI plan) 0 plan.length, .ptr 0 0 0, J, J, J, J, J, .rsl (rowI ((measR (measA s)).1)) 0 (((measR (measA s)).1).length), J, .sl 1 g1 0 v1.length 1, .int .i64 i, .ptr 2 0 0, .int .i64 all, .int .i64 (k : Int), J, J, J, J, J, J, J, J, J, J, J, J, J, J, J, J, J, J, J, J, J, J, J, J, J, J, J, J, J, J, J, J, J, J, J, J, J, J, J, J, J, J, J, J, J, J, J, J, J, J, J, J, J, J, J, J, J, J, J, J, J, J, J, J, J, J, J, J, J, J, J, J, J, J, J, J, J, J, J, J, J, J, J, J, J, J, J, J, J, J, J, J, J, J, J, J, J, J, J, J, J, J, J, J, J, J, J, J, J, J, J, J, J, J, J, J, J, J, J, J, J, J, J, J, J, J, J, J, J, J, J, J, J, J], [⟨true, 0, 1, true, [.rsl (rowStg s.stages) 0 s.stages.length, .rsl (rowI s.worth) 0 s.worth.length, .int .i64 s.price], false⟩, ⟨true, g1, 1, true, (rowI v1), true⟩, ⟨true, 0, 1, true, [.int .i64 v2_0, .int .i64 v2_1, .rsl (rowTrn v2_2) 0 v2_2.length], false⟩]⟩
def f80pG1 (E : Env) (s : Stl) (ends : (List Int)) (pa : Int) (oa : Int) (plan : (List Int)) (i : Int) (all : Int) (v1 : List Int) (v2_0 : Int) (v2_1 : Int) (v2_2 : (List Trn)) (k : Nat) : Prop := ∀ g1 : Nat, G Try.prog E (f80pK1 Try.prog) (f80pS1 s ends pa oa plan i all v1 v2_0 v2_1 v2_2 k g1)
theorem p80p_start_0 (s : Stl) (ends : (List Int)) (pa : Int) (oa : Int) (plan : (List Int))   {E : Env} {rv : AV} (hE : PureE Try.prog 80 rv E) (ho : AllP [PureF Try.prog (.clos 51 [] []) [.agg [.rsl (rowStg s.stages) 0 s.stages.length, .rsl (rowI s.worth) 0 s.worth.length, .int .i64 s.price]] (.tup [.rsl (rowI ((measR (measA s)).1)) 0 (((measR (measA s)).1).length), .bool ((measR (measA s)).2)]), 0 ≤ (s.stages.length : Int) ∧ (s.stages.length : Int) ≤ (s.stages.length : Int) ∧ (s.stages.length : Int) ≤ 2147483648, 0 = 0, InR .i64 ((((Int.toNat (s.stages.length : Int)) : Nat) : Int) - 1)])
    (hg : G Try.prog E (f80pK0 Try.prog) ⟨[J, .rsl (rowI ends) 0 ends.length, .int .i64 pa, .int .i64 oa, .rsl (rowI plan) 0 plan.length, .ptr 0 0 0, J, J, J, J, J, .rsl (rowI ((measR (measA s)).1)) 0 (((measR (measA s)).1).length), J, .sl 1 0 0 (Int.toNat (s.stages.length : Int)) 1, .int .i64 ((((Int.toNat (s.stages.length : Int)) : Nat) : Int) - 1), J, J, J, J, J, J, J, J, J, J, J, J, J, J, J, J, J, J, J, J, J, J, J, J, J, J, J, J, J, J, J, J, J, J, J, J, J, J, J, J, J, J, J, J, J, J, J, J, J, J, J, J, J, J, J, J, J, J, J, J, J, J, J, J, J, J, J, J, J, J, J, J, J, J, J, J, J, J, J, J, J, J, J, J, J, J, J, J, J, J, J, J, J, J, J, J, J, J, J, J, J, J, J, J, J, J, J, J, J, J, J, J, J, J, J, J, J, J, J, J, J, J, J, J, J, J, J, J, J, J, J, J, J, J, J, J, J], [⟨true, 0, 1, true, [.rsl (rowStg s.stages) 0 s.stages.length, .rsl (rowI s.worth) 0 s.worth.length, .int .i64 s.price], false⟩, ⟨true, 0, 1, true, ((List.replicate (Int.toNat (s.stages.length : Int)) ([.int .i64 0] : List AV)).flatten), true⟩]⟩) : G Try.prog E [.code (bodyAt Try.prog 80)] ⟨[.agg [.rsl (rowStg s.stages) 0 s.stages.length, .rsl (rowI s.worth) 0 s.worth.length, .int .i64 s.price], .rsl (rowI ends) 0 ends.length, .int .i64 pa, .int .i64 oa, .rsl (rowI plan) 0 plan.length] ++ unds (Try.f80.ntmps - 5), []⟩ :=
  segC_step (n := 400) (ds := []) (cs := []) (live := [1, 2, 3, 4, 5, 11, 13, 14]) (m := 2) (evs := [.v (.tup [.rsl (rowI ((measR (measA s)).1)) 0 (((measR (measA s)).1).length), .bool ((measR (measA s)).2)]), .stop]) (obs := _) hE.2.1 (hE.nogh _) mixed (by kernel_rfl) ho hg
theorem f80pW (s : Stl) (ends : (List Int)) (pa : Int) (oa : Int) (plan : (List Int)) {E : Env} {rv : (List Int)} (hE : PureE Try.prog 80 (.rsl (rowI rv) 0 rv.length) E)
    (h : ((s.stages.length ≤ 1000000 ∧ ∀ i, i < s.stages.length → formI s i = true) ∧ (s.stages.length ≤ 2147483648 ∧ ((-9223372036854775808 ≤ (((Int.toNat (s.stages.length : Int)) : Nat) : Int) - 1 ∧ (((Int.toNat (s.stages.length : Int)) : Nat) : Int) - 1 ≤ 9223372036854775807) ∧ f80pG0 E s ends pa oa plan (List.replicate s.stages.length (0 : Int)) ((((Int.toNat (s.stages.length : Int)) : Nat) : Int) - 1))))) : G Try.prog E [.code (bodyAt Try.prog 80)] ⟨[.agg [.rsl (rowStg s.stages) 0 s.stages.length, .rsl (rowI s.worth) 0 s.worth.length, .int .i64 s.price], .rsl (rowI ends) 0 ends.length, .int .i64 pa, .int .i64 oa, .rsl (rowI plan) 0 plan.length] ++ unds (Try.f80.ntmps - 5), []⟩ := by
  obtain ⟨h1, h⟩ := h
  obtain ⟨h2, h⟩ := h
  obtain ⟨q3_0, h⟩ := h
  refine p80p_start_0 s ends pa oa plan    hE ⟨(pureF_of Try.func51 (by kernel_rfl) f51b (measures_ok s h1)), ⟨by omega, by omega, by have := h2; omega⟩, rfl, q3_0, trivial⟩ ?_
  have h := (h 0)
  simp only [f80pG0, f80pS0, List.length_set, List.length_replicate] at h
  rw [(show (List.replicate (Int.toNat (s.stages.length : Int)) ([.int .i64 0] : List AV)).flatten = rowI (List.replicate s.stages.length (0 : Int)) from row_rep cI _ _)]
  exact h
theorem p80p_0_0 (s : Stl) (ends : (List Int)) (pa : Int) (oa : Int) (plan : (List Int)) (v1 : List Int) (i : Int) (g1 : Nat) (se : Stg) (e : Int) (e1 : Int)  {E : Env} {rv : AV} (hE : PureE Try.prog 80 rv E) (ho : AllP [(decide (i ≥ 0)) = true, 0 ≤ i ∧ i < (s.stages.length : Int), ((rowStg s.stages).drop (0 + (Int.toNat i) * 3)).take 3 = [.int .i64 se.kind, .int .i64 se.prize, .rsl (rowTrn se.turns) 0 se.turns.length], 3 ≤ 3, (se.kind == 4) = true, 0 ≤ i ∧ i < (ends.length : Int), ((rowI ends).drop (0 + (Int.toNat i) * 1)).take 1 = [.int .i64 e], 0 ≤ i ∧ i < (v1.length : Int), g1 = g1, ((0 + (Int.toNat i) * 1) + 1) ≤ (rowI v1).length, g1 = g1, InR .i64 (i - 1)])
    (hg : G Try.prog E (f80pK0 Try.prog) ⟨[J, .rsl (rowI ends) 0 ends.length, .int .i64 pa, .int .i64 oa, .rsl (rowI plan) 0 plan.length, .ptr 0 0 0, J, J, J, J, J, .rsl (rowI ((measR (measA s)).1)) 0 (((measR (measA s)).1).length), J, .sl 1 g1 0 v1.length 1, .int .i64 (i - 1), J, J, J, J, J, J, J, J, J, J, J, J, J, J, J, J, J, J, J, J, J, J, J, J, J, J, J, J, J, J, J, J, J, J, J, J, J, J, J, J, J, J, J, J, J, J, J, J, J, J, J, J, J, J, J, J, J, J, J, J, J, J, J, J, J, J, J, J, J, J, J, J, J, J, J, J, J, J, J, J, J, J, J, J, J, J, J, J, J, J, J, J, J, J, J, J, J, J, J, J, J, J, J, J, J, J, J, J, J, J, J, J, J, J, J, J, J, J, J, J, J, J, J, J, J, J, J, J, J, J, J, J, J, J, J, J, J], [⟨true, 0, 1, true, [.rsl (rowStg s.stages) 0 s.stages.length, .rsl (rowI s.worth) 0 s.worth.length, .int .i64 s.price], false⟩, ⟨true, g1, 1, true, (setAt (rowI v1) (0 + (Int.toNat i) * 1) [.int .i64 e]), true⟩]⟩) : G Try.prog E (f80pK0 Try.prog) (f80pS0 s ends pa oa plan v1 i g1) :=
  segC_step (n := 400) (ds := []) (cs := []) (live := [1, 2, 3, 4, 5, 11, 13, 14]) (m := 2) (evs := [.b true, .auto, .ld (.agg [.int .i64 se.kind, .int .i64 se.prize, .rsl (rowTrn se.turns) 0 se.turns.length]), .b true, .ld (.int .i64 e), .stop]) (obs := _) hE.2.1 (hE.nogh _) mixed (by kernel_rfl) ho hg
theorem p80p_0_1 (s : Stl) (ends : (List Int)) (pa : Int) (oa : Int) (plan : (List Int)) (v1 : List Int) (i : Int) (g1 : Nat) (se : Stg) (e : Int)  {E : Env} {rv : AV} (hE : PureE Try.prog 80 rv E) (ho : AllP [(decide (i ≥ 0)) = true, 0 ≤ i ∧ i < (s.stages.length : Int), ((rowStg s.stages).drop (0 + (Int.toNat i) * 3)).take 3 = [.int .i64 se.kind, .int .i64 se.prize, .rsl (rowTrn se.turns) 0 se.turns.length], 3 ≤ 3, (se.kind == 4) = false, 0 ≤ i ∧ i < ((((measR (measA s)).1).length : Nat) : Int), ((rowI ((measR (measA s)).1)).drop (0 + (Int.toNat i) * 1)).take 1 = [.int .i64 e], (se.kind == 1) = true, PureF Try.prog (.clos 100 [] []) [.agg [.int .i64 se.kind, .int .i64 se.prize, .rsl (rowTrn se.turns) 0 se.turns.length]] (.int .i64 (totI se)), InR .i64 (Int.tdiv e (totI se)), (totI se) ≠ 0])
    (hg : G Try.prog E (f80pK1 Try.prog) ⟨[J, .rsl (rowI ends) 0 ends.length, .int .i64 pa, .int .i64 oa, .rsl (rowI plan) 0 plan.length, .ptr 0 0 0, J, J, J, J, J, .rsl (rowI ((measR (measA s)).1)) 0 (((measR (measA s)).1).length), J, .sl 1 g1 0 v1.length 1, .int .i64 i, .ptr 2 0 0, .int .i64 (Int.tdiv e (totI se)), .int .i64 0, J, J, J, J, J, J, J, J, J, J, J, J, J, J, J, J, J, J, J, J, J, J, J, J, J, J, J, J, J, J, J, J, J, J, J, J, J, J, J, J, J, J, J, J, J, J, J, J, J, J, J, J, J, J, J, J, J, J, J, J, J, J, J, J, J, J, J, J, J, J, J, J, J, J, J, J, J, J, J, J, J, J, J, J, J, J, J, J, J, J, J, J, J, J, J, J, J, J, J, J, J, J, J, J, J, J, J, J, J, J, J, J, J, J, J, J, J, J, J, J, J, J, J, J, J, J, J, J, J, J, J, J, J, J], [⟨true, 0, 1, true, [.rsl (rowStg s.stages) 0 s.stages.length, .rsl (rowI s.worth) 0 s.worth.length, .int .i64 s.price], false⟩, ⟨true, g1, 1, true, (rowI v1), true⟩, ⟨true, 0, 1, true, [.int .i64 se.kind, .int .i64 se.prize, .rsl (rowTrn se.turns) 0 se.turns.length], false⟩]⟩) : G Try.prog E (f80pK0 Try.prog) (f80pS0 s ends pa oa plan v1 i g1) :=
  segC_step (n := 400) (ds := []) (cs := []) (live := [1, 2, 3, 4, 5, 11, 13, 14, 15, 16, 17]) (m := 3) (evs := [.b true, .auto, .ld (.agg [.int .i64 se.kind, .int .i64 se.prize, .rsl (rowTrn se.turns) 0 se.turns.length]), .b false, .ld (.int .i64 e), .b true, .v (.int .i64 (totI se)), .stop]) (obs := _) hE.2.1 (hE.nogh _) mixed (by kernel_rfl) ho hg
theorem p80p_0_2 (s : Stl) (ends : (List Int)) (pa : Int) (oa : Int) (plan : (List Int)) (v1 : List Int) (i : Int) (g1 : Nat) (se : Stg) (e : Int)  {E : Env} {rv : AV} (hE : PureE Try.prog 80 rv E) (ho : AllP [(decide (i ≥ 0)) = true, 0 ≤ i ∧ i < (s.stages.length : Int), ((rowStg s.stages).drop (0 + (Int.toNat i) * 3)).take 3 = [.int .i64 se.kind, .int .i64 se.prize, .rsl (rowTrn se.turns) 0 se.turns.length], 3 ≤ 3, (se.kind == 4) = false, 0 ≤ i ∧ i < ((((measR (measA s)).1).length : Nat) : Int), ((rowI ((measR (measA s)).1)).drop (0 + (Int.toNat i) * 1)).take 1 = [.int .i64 e], (se.kind == 1) = false])
    (hg : G Try.prog E (f80pK1 Try.prog) ⟨[J, .rsl (rowI ends) 0 ends.length, .int .i64 pa, .int .i64 oa, .rsl (rowI plan) 0 plan.length, .ptr 0 0 0, J, J, J, J, J, .rsl (rowI ((measR (measA s)).1)) 0 (((measR (measA s)).1).length), J, .sl 1 g1 0 v1.length 1, .int .i64 i, .ptr 2 0 0, .int .i64 e, .int .i64 0, J, J, J, J, J, J, J, J, J, J, J, J, J, J, J, J, J, J, J, J, J, J, J, J, J, J, J, J, J, J, J, J, J, J, J, J, J, J, J, J, J, J, J, J, J, J, J, J, J, J, J, J, J, J, J, J, J, J, J, J, J, J, J, J, J, J, J, J, J, J, J, J, J, J, J, J, J, J, J, J, J, J, J, J, J, J, J, J, J, J, J, J, J, J, J, J, J, J, J, J, J, J, J, J, J, J, J, J, J, J, J, J, J, J, J, J, J, J, J, J, J, J, J, J, J, J, J, J, J, J, J, J, J, J], [⟨true, 0, 1, true, [.rsl (rowStg s.stages) 0 s.stages.length, .rsl (rowI s.worth) 0 s.worth.length, .int .i64 s.price], false⟩, ⟨true, g1, 1, true, (rowI v1), true⟩, ⟨true, 0, 1, true, [.int .i64 se.kind, .int .i64 se.prize, .rsl (rowTrn se.turns) 0 se.turns.length], false⟩]⟩) : G Try.prog E (f80pK0 Try.prog) (f80pS0 s ends pa oa plan v1 i g1) :=
  segC_step (n := 400) (ds := []) (cs := []) (live := [1, 2, 3, 4, 5, 11, 13, 14, 15, 16, 17]) (m := 3) (evs := [.b true, .auto, .ld (.agg [.int .i64 se.kind, .int .i64 se.prize, .rsl (rowTrn se.turns) 0 se.turns.length]), .b false, .ld (.int .i64 e), .b false, .stop]) (obs := _) hE.2.1 (hE.nogh _) mixed (by kernel_rfl) ho hg
theorem p80p_0_3 (s : Stl) (ends : (List Int)) (pa : Int) (oa : Int) (plan : (List Int)) (v1 : List Int) (i : Int) (g1 : Nat)  {E : Env} {res : AV} (hE : PureE Try.prog 80 res E) (ho : AllP [(decide (i ≥ 0)) = false, g1 = g1])
    (hr : AvLe (.rsl (rowI v1) 0 v1.length) res) : G Try.prog E (f80pK0 Try.prog) (f80pS0 s ends pa oa plan v1 i g1) :=
  end_stepL (n := 400) (evs := [.b false]) (obs := _) hE Try.func80 mixed (by kernel_rfl) ho hr
theorem f80pW0 (s : Stl) (ends : (List Int)) (pa : Int) (oa : Int) (plan : (List Int)) (v1 : List Int) (i : Int) {E : Env} {rv : (List Int)} (hE : PureE Try.prog 80 (.rsl (rowI rv) 0 rv.length) E)
    (h : ((i ≥ 0 → (0 ≤ i ∧ (∃ se : Stg, s.stages[Int.toNat i]? = some se ∧ ((se.kind = 4 → (0 ≤ i ∧ (∃ e : Int, ends[Int.toNat i]? = some e ∧ (0 ≤ i ∧ (∃ e1 : Int, v1[Int.toNat i]? = some e1 ∧ ((-9223372036854775808 ≤ i - 1 ∧ i - 1 ≤ 9223372036854775807) ∧ f80pG0 E s ends pa oa plan (v1.set (Int.toNat i) e) (i - 1))))))) ∧ (¬ (se.kind = 4) → (0 ≤ i ∧ (∃ e : Int, ((measR (measA s)).1)[Int.toNat i]? = some e ∧ ((se.kind = 1 → ((TotOk se) ∧ ((-9223372036854775808 ≤ Int.tdiv e (totI se) ∧ Int.tdiv e (totI se) ≤ 9223372036854775807) ∧ ((totI se) ≠ 0 ∧ f80pG1 E s ends pa oa plan i (Int.tdiv e (totI se)) v1 se.kind se.prize se.turns 0)))) ∧ (¬ (se.kind = 1) → f80pG1 E s ends pa oa plan i e v1 se.kind se.prize se.turns 0))))))))) ∧ (¬ (i ≥ 0) → rv = v1))) : f80pG0 E s ends pa oa plan v1 i := by
  intro g1
  rcases Bool.eq_false_or_eq_true (decide (i ≥ 0)) with hc0 | hc0
  · have h := h.1 (of_decide_eq_true hc0)
    obtain ⟨h2, h⟩ := h
    obtain ⟨se, h1, h⟩ := h
    rcases Bool.eq_false_or_eq_true (se.kind == 4) with hc1 | hc1
    · have h := h.1 (eq_of_beq hc1)
      obtain ⟨h4, h⟩ := h
      obtain ⟨e, h3, h⟩ := h
      obtain ⟨h6, h⟩ := h
      obtain ⟨e1, h5, h⟩ := h
      obtain ⟨q14_2, h⟩ := h
      refine p80p_0_0 s ends pa oa plan v1 i g1 se e e1 hE ⟨hc0, (idx_ok' h2 h1), (row_part cStg (s := 3) (k := 0) (m := 3) (fun _ => rfl) (by decide) h1), (by decide), hc1, (idx_ok' h4 h3), (row_part cI (s := 1) (k := 0) (m := 1) (fun _ => rfl) (by decide) h3), (idx_ok' h6 h5), rfl, (row_fits cI (s := 1) (k := 0) (m := 1) (fun _ => rfl) (by decide) h5), rfl, q14_2, trivial⟩ ?_
      have h := (h g1)
      simp only [f80pS0, List.length_set] at h
      rw [(show setAt (rowI v1) (0 + (Int.toNat i) * 1) [.int .i64 e] = rowI (v1.set (Int.toNat i) e) from row_set cI (s := 1) (k := 0) (fun _ => rfl) h5 rfl (by first | decide | simp))]
      exact h
    · have h := h.2 (ne_of_beq_false hc1)
      obtain ⟨h4, h⟩ := h
      obtain ⟨e, h3, h⟩ := h
      rcases Bool.eq_false_or_eq_true (se.kind == 1) with hc2 | hc2
      · have h := h.1 (eq_of_beq hc2)
        obtain ⟨h5, h⟩ := h
        obtain ⟨q11_3, h⟩ := h
        obtain ⟨q12_3, h⟩ := h
        exact p80p_0_1 s ends pa oa plan v1 i g1 se e hE ⟨hc0, (idx_ok' h2 h1), (row_part cStg (s := 3) (k := 0) (m := 3) (fun _ => rfl) (by decide) h1), (by decide), hc1, (idx_ok' h4 h3), (row_part cI (s := 1) (k := 0) (m := 1) (fun _ => rfl) (by decide) h3), hc2, (pureF_of Try.func100 (by kernel_rfl) f100b (totalR_ok se h5)), q11_3, q12_3, trivial⟩ (h g1)
      · have h := h.2 (ne_of_beq_false hc2)
        exact p80p_0_2 s ends pa oa plan v1 i g1 se e hE ⟨hc0, (idx_ok' h2 h1), (row_part cStg (s := 3) (k := 0) (m := 3) (fun _ => rfl) (by decide) h1), (by decide), hc1, (idx_ok' h4 h3), (row_part cI (s := 1) (k := 0) (m := 1) (fun _ => rfl) (by decide) h3), hc2, trivial⟩ (h g1)
  · have h := h.2 (of_decide_eq_false hc0)
    exact p80p_0_3 s ends pa oa plan v1 i g1  hE ⟨hc0, rfl, trivial⟩ (AvLe.of_eq (by rw [h]; try rfl))
theorem p80p_1_0 (s : Stl) (ends : (List Int)) (pa : Int) (oa : Int) (plan : (List Int)) (i : Int) (all : Int) (v1 : List Int) (v2_0 : Int) (v2_1 : Int) (v2_2 : (List Trn)) (k : Nat) (g1 : Nat) (te : Trn) (e : Int) (e1 : Int) (e2 : Int)  {E : Env} {rv : AV} (hE : PureE Try.prog 80 rv E) (ho : AllP [(decide ((k : Int) < (v2_2.length : Int))) = true, 0 ≤ (k : Int) ∧ (k : Int) < (v2_2.length : Int), ((rowTrn v2_2).drop (0 + (Int.toNat (k : Int)) * 2)).take 2 = [.int .i64 te.w, .int .i64 te.to], 2 ≤ 2, 0 ≤ te.to ∧ te.to < (v1.length : Int), g1 = g1, g1 = g1, ((rowI v1).drop (0 + (Int.toNat te.to) * 1)).take 1 = [.int .i64 e], 0 ≤ te.to ∧ te.to < ((((measR (measA s)).1).length : Nat) : Int), ((rowI ((measR (measA s)).1)).drop (0 + (Int.toNat te.to) * 1)).take 1 = [.int .i64 e1], InR .i64 (Int.tdiv all e1), e1 ≠ 0, InR .i64 (e * (Int.tdiv all e1)), (v2_0 == 3) = true, (v2_0 == 1) = true, 0 ≤ i ∧ i < (v1.length : Int), g1 = g1, g1 = g1, ((rowI v1).drop (0 + (Int.toNat i) * 1)).take 1 = [.int .i64 e2], InR .i64 ((e * (Int.tdiv all e1)) * te.w), InR .i64 (e2 + ((e * (Int.tdiv all e1)) * te.w)), 0 ≤ i ∧ i < (v1.length : Int), g1 = g1, ((0 + (Int.toNat i) * 1) + 1) ≤ (rowI v1).length, g1 = g1, InR .i64 ((k : Int) + 1)])
    (hg : G Try.prog E (f80pK1 Try.prog) ⟨[J, .rsl (rowI ends) 0 ends.length, .int .i64 pa, .int .i64 oa, .rsl (rowI plan) 0 plan.length, .ptr 0 0 0, J, J, J, J, J, .rsl (rowI ((measR (measA s)).1)) 0 (((measR (measA s)).1).length), J, .sl 1 g1 0 v1.length 1, .int .i64 i, .ptr 2 0 0, .int .i64 all, .int .i64 ((k : Int) + 1), J, J, J, J, J, J, J, J, J, J, J, J, J, J, J, J, J, J, J, J, J, J, J, J, J, J, J, J, J, J, J, J, J, J, J, J, J, J, J, J, J, J, J, J, J, J, J, J, J, J, J, J, J, J, J, J, J, J, J, J, J, J, J, J, J, J, J, J, J, J, J, J, J, J, J, J, J, J, J, J, J, J, J, J, J, J, J, J, J, J, J, J, J, J, J, J, J, J, J, J, J, J, J, J, J, J, J, J, J, J, J, J, J, J, J, J, J, J, J, J, J, J, J, J, J, J, J, J, J, J, J, J, J, J], [⟨true, 0, 1, true, [.rsl (rowStg s.stages) 0 s.stages.length, .rsl (rowI s.worth) 0 s.worth.length, .int .i64 s.price], false⟩, ⟨true, g1, 1, true, (setAt (rowI v1) (0 + (Int.toNat i) * 1) [.int .i64 (e2 + ((e * (Int.tdiv all e1)) * te.w))]), true⟩, ⟨true, 0, 1, true, [.int .i64 v2_0, .int .i64 v2_1, .rsl (rowTrn v2_2) 0 v2_2.length], false⟩]⟩) : G Try.prog E (f80pK1 Try.prog) (f80pS1 s ends pa oa plan i all v1 v2_0 v2_1 v2_2 k g1) :=
  segC_step (n := 400) (ds := []) (cs := []) (live := [1, 2, 3, 4, 5, 11, 13, 14, 15, 16, 17]) (m := 3) (evs := [.b true, .auto, .ld (.agg [.int .i64 te.w, .int .i64 te.to]), .auto, .ld (.int .i64 e), .auto, .ld (.int .i64 e1), .b true, .b true, .ld (.int .i64 e2), .stop]) (obs := _) hE.2.1 (hE.nogh _) mixed (by kernel_rfl) ho hg
theorem p80p_1_1 (s : Stl) (ends : (List Int)) (pa : Int) (oa : Int) (plan : (List Int)) (i : Int) (all : Int) (v1 : List Int) (v2_0 : Int) (v2_1 : Int) (v2_2 : (List Trn)) (k : Nat) (g1 : Nat) (te : Trn) (e : Int) (e1 : Int) (e2 : Int) (e3 : Int)  {E : Env} {rv : AV} (hE : PureE Try.prog 80 rv E) (ho : AllP [(decide ((k : Int) < (v2_2.length : Int))) = true, 0 ≤ (k : Int) ∧ (k : Int) < (v2_2.length : Int), ((rowTrn v2_2).drop (0 + (Int.toNat (k : Int)) * 2)).take 2 = [.int .i64 te.w, .int .i64 te.to], 2 ≤ 2, 0 ≤ te.to ∧ te.to < (v1.length : Int), g1 = g1, g1 = g1, ((rowI v1).drop (0 + (Int.toNat te.to) * 1)).take 1 = [.int .i64 e], 0 ≤ te.to ∧ te.to < ((((measR (measA s)).1).length : Nat) : Int), ((rowI ((measR (measA s)).1)).drop (0 + (Int.toNat te.to) * 1)).take 1 = [.int .i64 e1], InR .i64 (Int.tdiv all e1), e1 ≠ 0, InR .i64 (e * (Int.tdiv all e1)), (v2_0 == 3) = true, (v2_0 == 1) = false, plan.length ≠ 0, true = true, 0 ≤ i ∧ i < (plan.length : Int), ((rowI plan).drop (0 + (Int.toNat i) * 1)).take 1 = [.int .i64 e2], (e2 == (k : Int)) = true, 0 ≤ i ∧ i < (v1.length : Int), g1 = g1, ((0 + (Int.toNat i) * 1) + 1) ≤ (rowI v1).length, g1 = g1, InR .i64 ((k : Int) + 1)])
    (hg : G Try.prog E (f80pK1 Try.prog) ⟨[J, .rsl (rowI ends) 0 ends.length, .int .i64 pa, .int .i64 oa, .rsl (rowI plan) 0 plan.length, .ptr 0 0 0, J, J, J, J, J, .rsl (rowI ((measR (measA s)).1)) 0 (((measR (measA s)).1).length), J, .sl 1 g1 0 v1.length 1, .int .i64 i, .ptr 2 0 0, .int .i64 all, .int .i64 ((k : Int) + 1), J, J, J, J, J, J, J, J, J, J, J, J, J, J, J, J, J, J, J, J, J, J, J, J, J, J, J, J, J, J, J, J, J, J, J, J, J, J, J, J, J, J, J, J, J, J, J, J, J, J, J, J, J, J, J, J, J, J, J, J, J, J, J, J, J, J, J, J, J, J, J, J, J, J, J, J, J, J, J, J, J, J, J, J, J, J, J, J, J, J, J, J, J, J, J, J, J, J, J, J, J, J, J, J, J, J, J, J, J, J, J, J, J, J, J, J, J, J, J, J, J, J, J, J, J, J, J, J, J, J, J, J, J, J], [⟨true, 0, 1, true, [.rsl (rowStg s.stages) 0 s.stages.length, .rsl (rowI s.worth) 0 s.worth.length, .int .i64 s.price], false⟩, ⟨true, g1, 1, true, (setAt (rowI v1) (0 + (Int.toNat i) * 1) [.int .i64 (e * (Int.tdiv all e1))]), true⟩, ⟨true, 0, 1, true, [.int .i64 v2_0, .int .i64 v2_1, .rsl (rowTrn v2_2) 0 v2_2.length], false⟩]⟩) : G Try.prog E (f80pK1 Try.prog) (f80pS1 s ends pa oa plan i all v1 v2_0 v2_1 v2_2 k g1) :=
  segC_step (n := 400) (ds := []) (cs := []) (live := [1, 2, 3, 4, 5, 11, 13, 14, 15, 16, 17]) (m := 3) (evs := [.b true, .auto, .ld (.agg [.int .i64 te.w, .int .i64 te.to]), .auto, .ld (.int .i64 e), .auto, .ld (.int .i64 e1), .b true, .b false, .b true, .ld (.int .i64 e2), .b true, .stop]) (obs := _) hE.2.1 (hE.nogh _) mixed (by kernel_rfl) ho hg
theorem p80p_1_2 (s : Stl) (ends : (List Int)) (pa : Int) (oa : Int) (plan : (List Int)) (i : Int) (all : Int) (v1 : List Int) (v2_0 : Int) (v2_1 : Int) (v2_2 : (List Trn)) (k : Nat) (g1 : Nat) (te : Trn) (e : Int) (e1 : Int) (e2 : Int)  {E : Env} {rv : AV} (hE : PureE Try.prog 80 rv E) (ho : AllP [(decide ((k : Int) < (v2_2.length : Int))) = true, 0 ≤ (k : Int) ∧ (k : Int) < (v2_2.length : Int), ((rowTrn v2_2).drop (0 + (Int.toNat (k : Int)) * 2)).take 2 = [.int .i64 te.w, .int .i64 te.to], 2 ≤ 2, 0 ≤ te.to ∧ te.to < (v1.length : Int), g1 = g1, g1 = g1, ((rowI v1).drop (0 + (Int.toNat te.to) * 1)).take 1 = [.int .i64 e], 0 ≤ te.to ∧ te.to < ((((measR (measA s)).1).length : Nat) : Int), ((rowI ((measR (measA s)).1)).drop (0 + (Int.toNat te.to) * 1)).take 1 = [.int .i64 e1], InR .i64 (Int.tdiv all e1), e1 ≠ 0, InR .i64 (e * (Int.tdiv all e1)), (v2_0 == 3) = true, (v2_0 == 1) = false, plan.length ≠ 0, true = true, 0 ≤ i ∧ i < (plan.length : Int), ((rowI plan).drop (0 + (Int.toNat i) * 1)).take 1 = [.int .i64 e2], (e2 == (k : Int)) = false, InR .i64 ((k : Int) + 1)])
    (hg : G Try.prog E (f80pK1 Try.prog) ⟨[J, .rsl (rowI ends) 0 ends.length, .int .i64 pa, .int .i64 oa, .rsl (rowI plan) 0 plan.length, .ptr 0 0 0, J, J, J, J, J, .rsl (rowI ((measR (measA s)).1)) 0 (((measR (measA s)).1).length), J, .sl 1 g1 0 v1.length 1, .int .i64 i, .ptr 2 0 0, .int .i64 all, .int .i64 ((k : Int) + 1), J, J, J, J, J, J, J, J, J, J, J, J, J, J, J, J, J, J, J, J, J, J, J, J, J, J, J, J, J, J, J, J, J, J, J, J, J, J, J, J, J, J, J, J, J, J, J, J, J, J, J, J, J, J, J, J, J, J, J, J, J, J, J, J, J, J, J, J, J, J, J, J, J, J, J, J, J, J, J, J, J, J, J, J, J, J, J, J, J, J, J, J, J, J, J, J, J, J, J, J, J, J, J, J, J, J, J, J, J, J, J, J, J, J, J, J, J, J, J, J, J, J, J, J, J, J, J, J, J, J, J, J, J, J], [⟨true, 0, 1, true, [.rsl (rowStg s.stages) 0 s.stages.length, .rsl (rowI s.worth) 0 s.worth.length, .int .i64 s.price], false⟩, ⟨true, g1, 1, true, (rowI v1), true⟩, ⟨true, 0, 1, true, [.int .i64 v2_0, .int .i64 v2_1, .rsl (rowTrn v2_2) 0 v2_2.length], false⟩]⟩) : G Try.prog E (f80pK1 Try.prog) (f80pS1 s ends pa oa plan i all v1 v2_0 v2_1 v2_2 k g1) :=
  segC_step (n := 400) (ds := []) (cs := []) (live := [1, 2, 3, 4, 5, 11, 13, 14, 15, 16, 17]) (m := 3) (evs := [.b true, .auto, .ld (.agg [.int .i64 te.w, .int .i64 te.to]), .auto, .ld (.int .i64 e), .auto, .ld (.int .i64 e1), .b true, .b false, .b true, .ld (.int .i64 e2), .b false, .stop]) (obs := _) hE.2.1 (hE.nogh _) mixed (by kernel_rfl) ho hg
theorem p80p_1_3 (s : Stl) (ends : (List Int)) (pa : Int) (oa : Int) (plan : (List Int)) (i : Int) (all : Int) (v1 : List Int) (v2_0 : Int) (v2_1 : Int) (v2_2 : (List Trn)) (k : Nat) (g1 : Nat) (te : Trn) (e : Int) (e1 : Int) (e2 : Int)  {E : Env} {rv : AV} (hE : PureE Try.prog 80 rv E) (ho : AllP [(decide ((k : Int) < (v2_2.length : Int))) = true, 0 ≤ (k : Int) ∧ (k : Int) < (v2_2.length : Int), ((rowTrn v2_2).drop (0 + (Int.toNat (k : Int)) * 2)).take 2 = [.int .i64 te.w, .int .i64 te.to], 2 ≤ 2, 0 ≤ te.to ∧ te.to < (v1.length : Int), g1 = g1, g1 = g1, ((rowI v1).drop (0 + (Int.toNat te.to) * 1)).take 1 = [.int .i64 e], 0 ≤ te.to ∧ te.to < ((((measR (measA s)).1).length : Nat) : Int), ((rowI ((measR (measA s)).1)).drop (0 + (Int.toNat te.to) * 1)).take 1 = [.int .i64 e1], InR .i64 (Int.tdiv all e1), e1 ≠ 0, InR .i64 (e * (Int.tdiv all e1)), (v2_0 == 3) = false, (v2_0 == 1) = true, 0 ≤ i ∧ i < (v1.length : Int), g1 = g1, g1 = g1, ((rowI v1).drop (0 + (Int.toNat i) * 1)).take 1 = [.int .i64 e2], InR .i64 ((e * (Int.tdiv all e1)) * te.w), InR .i64 (e2 + ((e * (Int.tdiv all e1)) * te.w)), 0 ≤ i ∧ i < (v1.length : Int), g1 = g1, ((0 + (Int.toNat i) * 1) + 1) ≤ (rowI v1).length, g1 = g1, InR .i64 ((k : Int) + 1)])
    (hg : G Try.prog E (f80pK1 Try.prog) ⟨[J, .rsl (rowI ends) 0 ends.length, .int .i64 pa, .int .i64 oa, .rsl (rowI plan) 0 plan.length, .ptr 0 0 0, J, J, J, J, J, .rsl (rowI ((measR (measA s)).1)) 0 (((measR (measA s)).1).length), J, .sl 1 g1 0 v1.length 1, .int .i64 i, .ptr 2 0 0, .int .i64 all, .int .i64 ((k : Int) + 1), J, J, J, J, J, J, J, J, J, J, J, J, J, J, J, J, J, J, J, J, J, J, J, J, J, J, J, J, J, J, J, J, J, J, J, J, J, J, J, J, J, J, J, J, J, J, J, J, J, J, J, J, J, J, J, J, J, J, J, J, J, J, J, J, J, J, J, J, J, J, J, J, J, J, J, J, J, J, J, J, J, J, J, J, J, J, J, J, J, J, J, J, J, J, J, J, J, J, J, J, J, J, J, J, J, J, J, J, J, J, J, J, J, J, J, J, J, J, J, J, J, J, J, J, J, J, J, J, J, J, J, J, J, J], [⟨true, 0, 1, true, [.rsl (rowStg s.stages) 0 s.stages.length, .rsl (rowI s.worth) 0 s.worth.length, .int .i64 s.price], false⟩, ⟨true, g1, 1, true, (setAt (rowI v1) (0 + (Int.toNat i) * 1) [.int .i64 (e2 + ((e * (Int.tdiv all e1)) * te.w))]), true⟩, ⟨true, 0, 1, true, [.int .i64 v2_0, .int .i64 v2_1, .rsl (rowTrn v2_2) 0 v2_2.length], false⟩]⟩) : G Try.prog E (f80pK1 Try.prog) (f80pS1 s ends pa oa plan i all v1 v2_0 v2_1 v2_2 k g1) :=
  segC_step (n := 400) (ds := []) (cs := []) (live := [1, 2, 3, 4, 5, 11, 13, 14, 15, 16, 17]) (m := 3) (evs := [.b true, .auto, .ld (.agg [.int .i64 te.w, .int .i64 te.to]), .auto, .ld (.int .i64 e), .auto, .ld (.int .i64 e1), .b false, .b true, .ld (.int .i64 e2), .stop]) (obs := _) hE.2.1 (hE.nogh _) mixed (by kernel_rfl) ho hg
theorem p80p_1_4 (s : Stl) (ends : (List Int)) (pa : Int) (oa : Int) (plan : (List Int)) (i : Int) (all : Int) (v1 : List Int) (v2_0 : Int) (v2_1 : Int) (v2_2 : (List Trn)) (k : Nat) (g1 : Nat) (te : Trn) (e : Int) (e1 : Int) (e2 : Int) (e3 : Int)  {E : Env} {rv : AV} (hE : PureE Try.prog 80 rv E) (ho : AllP [(decide ((k : Int) < (v2_2.length : Int))) = true, 0 ≤ (k : Int) ∧ (k : Int) < (v2_2.length : Int), ((rowTrn v2_2).drop (0 + (Int.toNat (k : Int)) * 2)).take 2 = [.int .i64 te.w, .int .i64 te.to], 2 ≤ 2, 0 ≤ te.to ∧ te.to < (v1.length : Int), g1 = g1, g1 = g1, ((rowI v1).drop (0 + (Int.toNat te.to) * 1)).take 1 = [.int .i64 e], 0 ≤ te.to ∧ te.to < ((((measR (measA s)).1).length : Nat) : Int), ((rowI ((measR (measA s)).1)).drop (0 + (Int.toNat te.to) * 1)).take 1 = [.int .i64 e1], InR .i64 (Int.tdiv all e1), e1 ≠ 0, InR .i64 (e * (Int.tdiv all e1)), (v2_0 == 3) = false, (v2_0 == 1) = false, plan.length ≠ 0, true = true, 0 ≤ i ∧ i < (plan.length : Int), ((rowI plan).drop (0 + (Int.toNat i) * 1)).take 1 = [.int .i64 e2], (e2 == (k : Int)) = true, 0 ≤ i ∧ i < (v1.length : Int), g1 = g1, ((0 + (Int.toNat i) * 1) + 1) ≤ (rowI v1).length, g1 = g1, InR .i64 ((k : Int) + 1)])
    (hg : G Try.prog E (f80pK1 Try.prog) ⟨[J, .rsl (rowI ends) 0 ends.length, .int .i64 pa, .int .i64 oa, .rsl (rowI plan) 0 plan.length, .ptr 0 0 0, J, J, J, J, J, .rsl (rowI ((measR (measA s)).1)) 0 (((measR (measA s)).1).length), J, .sl 1 g1 0 v1.length 1, .int .i64 i, .ptr 2 0 0, .int .i64 all, .int .i64 ((k : Int) + 1), J, J, J, J, J, J, J, J, J, J, J, J, J, J, J, J, J, J, J, J, J, J, J, J, J, J, J, J, J, J, J, J, J, J, J, J, J, J, J, J, J, J, J, J, J, J, J, J, J, J, J, J, J, J, J, J, J, J, J, J, J, J, J, J, J, J, J, J, J, J, J, J, J, J, J, J, J, J, J, J, J, J, J, J, J, J, J, J, J, J, J, J, J, J, J, J, J, J, J, J, J, J, J, J, J, J, J, J, J, J, J, J, J, J, J, J, J, J, J, J, J, J, J, J, J, J, J, J, J, J, J, J, J, J], [⟨true, 0, 1, true, [.rsl (rowStg s.stages) 0 s.stages.length, .rsl (rowI s.worth) 0 s.worth.length, .int .i64 s.price], false⟩, ⟨true, g1, 1, true, (setAt (rowI v1) (0 + (Int.toNat i) * 1) [.int .i64 (e * (Int.tdiv all e1))]), true⟩, ⟨true, 0, 1, true, [.int .i64 v2_0, .int .i64 v2_1, .rsl (rowTrn v2_2) 0 v2_2.length], false⟩]⟩) : G Try.prog E (f80pK1 Try.prog) (f80pS1 s ends pa oa plan i all v1 v2_0 v2_1 v2_2 k g1) :=
  segC_step (n := 400) (ds := []) (cs := []) (live := [1, 2, 3, 4, 5, 11, 13, 14, 15, 16, 17]) (m := 3) (evs := [.b true, .auto, .ld (.agg [.int .i64 te.w, .int .i64 te.to]), .auto, .ld (.int .i64 e), .auto, .ld (.int .i64 e1), .b false, .b false, .b true, .ld (.int .i64 e2), .b true, .stop]) (obs := _) hE.2.1 (hE.nogh _) mixed (by kernel_rfl) ho hg
theorem p80p_1_5 (s : Stl) (ends : (List Int)) (pa : Int) (oa : Int) (plan : (List Int)) (i : Int) (all : Int) (v1 : List Int) (v2_0 : Int) (v2_1 : Int) (v2_2 : (List Trn)) (k : Nat) (g1 : Nat) (te : Trn) (e : Int) (e1 : Int) (e2 : Int)  {E : Env} {rv : AV} (hE : PureE Try.prog 80 rv E) (ho : AllP [(decide ((k : Int) < (v2_2.length : Int))) = true, 0 ≤ (k : Int) ∧ (k : Int) < (v2_2.length : Int), ((rowTrn v2_2).drop (0 + (Int.toNat (k : Int)) * 2)).take 2 = [.int .i64 te.w, .int .i64 te.to], 2 ≤ 2, 0 ≤ te.to ∧ te.to < (v1.length : Int), g1 = g1, g1 = g1, ((rowI v1).drop (0 + (Int.toNat te.to) * 1)).take 1 = [.int .i64 e], 0 ≤ te.to ∧ te.to < ((((measR (measA s)).1).length : Nat) : Int), ((rowI ((measR (measA s)).1)).drop (0 + (Int.toNat te.to) * 1)).take 1 = [.int .i64 e1], InR .i64 (Int.tdiv all e1), e1 ≠ 0, InR .i64 (e * (Int.tdiv all e1)), (v2_0 == 3) = false, (v2_0 == 1) = false, plan.length ≠ 0, true = true, 0 ≤ i ∧ i < (plan.length : Int), ((rowI plan).drop (0 + (Int.toNat i) * 1)).take 1 = [.int .i64 e2], (e2 == (k : Int)) = false, InR .i64 ((k : Int) + 1)])
    (hg : G Try.prog E (f80pK1 Try.prog) ⟨[J, .rsl (rowI ends) 0 ends.length, .int .i64 pa, .int .i64 oa, .rsl (rowI plan) 0 plan.length, .ptr 0 0 0, J, J, J, J, J, .rsl (rowI ((measR (measA s)).1)) 0 (((measR (measA s)).1).length), J, .sl 1 g1 0 v1.length 1, .int .i64 i, .ptr 2 0 0, .int .i64 all, .int .i64 ((k : Int) + 1), J, J, J, J, J, J, J, J, J, J, J, J, J, J, J, J, J, J, J, J, J, J, J, J, J, J, J, J, J, J, J, J, J, J, J, J, J, J, J, J, J, J, J, J, J, J, J, J, J, J, J, J, J, J, J, J, J, J, J, J, J, J, J, J, J, J, J, J, J, J, J, J, J, J, J, J, J, J, J, J, J, J, J, J, J, J, J, J, J, J, J, J, J, J, J, J, J, J, J, J, J, J, J, J, J, J, J, J, J, J, J, J, J, J, J, J, J, J, J, J, J, J, J, J, J, J, J, J, J, J, J, J, J, J], [⟨true, 0, 1, true, [.rsl (rowStg s.stages) 0 s.stages.length, .rsl (rowI s.worth) 0 s.worth.length, .int .i64 s.price], false⟩, ⟨true, g1, 1, true, (rowI v1), true⟩, ⟨true, 0, 1, true, [.int .i64 v2_0, .int .i64 v2_1, .rsl (rowTrn v2_2) 0 v2_2.length], false⟩]⟩) : G Try.prog E (f80pK1 Try.prog) (f80pS1 s ends pa oa plan i all v1 v2_0 v2_1 v2_2 k g1) :=
  segC_step (n := 400) (ds := []) (cs := []) (live := [1, 2, 3, 4, 5, 11, 13, 14, 15, 16, 17]) (m := 3) (evs := [.b true, .auto, .ld (.agg [.int .i64 te.w, .int .i64 te.to]), .auto, .ld (.int .i64 e), .auto, .ld (.int .i64 e1), .b false, .b false, .b true, .ld (.int .i64 e2), .b false, .stop]) (obs := _) hE.2.1 (hE.nogh _) mixed (by kernel_rfl) ho hg
theorem p80p_1_6 (s : Stl) (ends : (List Int)) (pa : Int) (oa : Int) (plan : (List Int)) (i : Int) (all : Int) (v1 : List Int) (v2_0 : Int) (v2_1 : Int) (v2_2 : (List Trn)) (k : Nat) (g1 : Nat)  {E : Env} {rv : AV} (hE : PureE Try.prog 80 rv E) (ho : AllP [(decide ((k : Int) < (v2_2.length : Int))) = false, InR .i64 (i - 1)])
    (hg : G Try.prog E (f80pK0 Try.prog) ⟨[J, .rsl (rowI ends) 0 ends.length, .int .i64 pa, .int .i64 oa, .rsl (rowI plan) 0 plan.length, .ptr 0 0 0, J, J, J, J, J, .rsl (rowI ((measR (measA s)).1)) 0 (((measR (measA s)).1).length), J, .sl 1 g1 0 v1.length 1, .int .i64 (i - 1), J, J, J, J, J, J, J, J, J, J, J, J, J, J, J, J, J, J, J, J, J, J, J, J, J, J, J, J, J, J, J, J, J, J, J, J, J, J, J, J, J, J, J, J, J, J, J, J, J, J, J, J, J, J, J, J, J, J, J, J, J, J, J, J, J, J, J, J, J, J, J, J, J, J, J, J, J, J, J, J, J, J, J, J, J, J, J, J, J, J, J, J, J, J, J, J, J, J, J, J, J, J, J, J, J, J, J, J, J, J, J, J, J, J, J, J, J, J, J, J, J, J, J, J, J, J, J, J, J, J, J, J, J, J, J, J, J], [⟨true, 0, 1, true, [.rsl (rowStg s.stages) 0 s.stages.length, .rsl (rowI s.worth) 0 s.worth.length, .int .i64 s.price], false⟩, ⟨true, g1, 1, true, (rowI v1), true⟩]⟩) : G Try.prog E (f80pK1 Try.prog) (f80pS1 s ends pa oa plan i all v1 v2_0 v2_1 v2_2 k g1) :=
  segC_step (n := 400) (ds := []) (cs := []) (live := [1, 2, 3, 4, 5, 11, 13, 14]) (m := 2) (evs := [.b false, .stop]) (obs := _) hE.2.1 (hE.nogh _) mixed (by kernel_rfl) ho hg
theorem f80pW1 (s : Stl) (ends : (List Int)) (pa : Int) (oa : Int) (plan : (List Int)) (i : Int) (all : Int) (v1 : List Int) (v2_0 : Int) (v2_1 : Int) (v2_2 : (List Trn)) (k : Nat) {E : Env} {rv : (List Int)} (hE : PureE Try.prog 80 (.rsl (rowI rv) 0 rv.length) E)
    (h : (((k : Int) < (v2_2.length : Int) → (∃ te : Trn, v2_2[k]? = some te ∧ (0 ≤ te.to ∧ (∃ e : Int, v1[Int.toNat te.to]? = some e ∧ (0 ≤ te.to ∧ (∃ e1 : Int, ((measR (measA s)).1)[Int.toNat te.to]? = some e1 ∧ ((-9223372036854775808 ≤ Int.tdiv all e1 ∧ Int.tdiv all e1 ≤ 9223372036854775807) ∧ (e1 ≠ 0 ∧ ((-9223372036854775808 ≤ e * (Int.tdiv all e1) ∧ e * (Int.tdiv all e1) ≤ 9223372036854775807) ∧ ((v2_0 = 3 → ((v2_0 = 1 → (0 ≤ i ∧ (∃ e2 : Int, v1[Int.toNat i]? = some e2 ∧ ((-9223372036854775808 ≤ (e * (Int.tdiv all e1)) * te.w ∧ (e * (Int.tdiv all e1)) * te.w ≤ 9223372036854775807) ∧ ((-9223372036854775808 ≤ e2 + ((e * (Int.tdiv all e1)) * te.w) ∧ e2 + ((e * (Int.tdiv all e1)) * te.w) ≤ 9223372036854775807) ∧ ((-9223372036854775808 ≤ (k : Int) + 1 ∧ (k : Int) + 1 ≤ 9223372036854775807) ∧ f80pG1 E s ends pa oa plan i all (v1.set (Int.toNat i) (e2 + ((e * (Int.tdiv all e1)) * te.w))) v2_0 v2_1 v2_2 (k + 1))))))) ∧ (¬ (v2_0 = 1) → (plan.length ≠ 0 ∧ (0 ≤ i ∧ (∃ e2 : Int, plan[Int.toNat i]? = some e2 ∧ ((e2 = (k : Int) → (0 ≤ i ∧ (∃ e3 : Int, v1[Int.toNat i]? = some e3 ∧ ((-9223372036854775808 ≤ (k : Int) + 1 ∧ (k : Int) + 1 ≤ 9223372036854775807) ∧ f80pG1 E s ends pa oa plan i all (v1.set (Int.toNat i) (e * (Int.tdiv all e1))) v2_0 v2_1 v2_2 (k + 1))))) ∧ (¬ (e2 = (k : Int)) → ((-9223372036854775808 ≤ (k : Int) + 1 ∧ (k : Int) + 1 ≤ 9223372036854775807) ∧ f80pG1 E s ends pa oa plan i all v1 v2_0 v2_1 v2_2 (k + 1)))))))))) ∧ (¬ (v2_0 = 3) → ((v2_0 = 1 → (0 ≤ i ∧ (∃ e2 : Int, v1[Int.toNat i]? = some e2 ∧ ((-9223372036854775808 ≤ (e * (Int.tdiv all e1)) * te.w ∧ (e * (Int.tdiv all e1)) * te.w ≤ 9223372036854775807) ∧ ((-9223372036854775808 ≤ e2 + ((e * (Int.tdiv all e1)) * te.w) ∧ e2 + ((e * (Int.tdiv all e1)) * te.w) ≤ 9223372036854775807) ∧ ((-9223372036854775808 ≤ (k : Int) + 1 ∧ (k : Int) + 1 ≤ 9223372036854775807) ∧ f80pG1 E s ends pa oa plan i all (v1.set (Int.toNat i) (e2 + ((e * (Int.tdiv all e1)) * te.w))) v2_0 v2_1 v2_2 (k + 1))))))) ∧ (¬ (v2_0 = 1) → (plan.length ≠ 0 ∧ (0 ≤ i ∧ (∃ e2 : Int, plan[Int.toNat i]? = some e2 ∧ ((e2 = (k : Int) → (0 ≤ i ∧ (∃ e3 : Int, v1[Int.toNat i]? = some e3 ∧ ((-9223372036854775808 ≤ (k : Int) + 1 ∧ (k : Int) + 1 ≤ 9223372036854775807) ∧ f80pG1 E s ends pa oa plan i all (v1.set (Int.toNat i) (e * (Int.tdiv all e1))) v2_0 v2_1 v2_2 (k + 1))))) ∧ (¬ (e2 = (k : Int)) → ((-9223372036854775808 ≤ (k : Int) + 1 ∧ (k : Int) + 1 ≤ 9223372036854775807) ∧ f80pG1 E s ends pa oa plan i all v1 v2_0 v2_1 v2_2 (k + 1)))))))))))))))))))) ∧ (¬ ((k : Int) < (v2_2.length : Int)) → ((-9223372036854775808 ≤ i - 1 ∧ i - 1 ≤ 9223372036854775807) ∧ f80pG0 E s ends pa oa plan v1 (i - 1))))) : f80pG1 E s ends pa oa plan i all v1 v2_0 v2_1 v2_2 k := by
  intro g1
  rcases Bool.eq_false_or_eq_true (decide ((k : Int) < (v2_2.length : Int))) with hc0 | hc0
  · have h := h.1 (of_decide_eq_true hc0)
    obtain ⟨te, h1, h⟩ := h
    obtain ⟨h3, h⟩ := h
    obtain ⟨e, h2, h⟩ := h
    obtain ⟨h5, h⟩ := h
    obtain ⟨e1, h4, h⟩ := h
    obtain ⟨q13_1, h⟩ := h
    obtain ⟨q14_1, h⟩ := h
    obtain ⟨q15_1, h⟩ := h
    rcases Bool.eq_false_or_eq_true (v2_0 == 3) with hc1 | hc1
    · have h := h.1 (eq_of_beq hc1)
      rcases Bool.eq_false_or_eq_true (v2_0 == 1) with hc2 | hc2
      · have h := h.1 (eq_of_beq hc2)
        obtain ⟨h7, h⟩ := h
        obtain ⟨e2, h6, h⟩ := h
        obtain ⟨q23_3, h⟩ := h
        obtain ⟨q24_3, h⟩ := h
        obtain ⟨q29_3, h⟩ := h
        refine p80p_1_0 s ends pa oa plan i all v1 v2_0 v2_1 v2_2 k g1 te e e1 e2 hE ⟨hc0, (idx_ok h1), (row_part cTrn (s := 2) (k := 0) (m := 2) (fun _ => rfl) (by decide) h1), (by decide), (idx_ok' h3 h2), rfl, rfl, (row_part cI (s := 1) (k := 0) (m := 1) (fun _ => rfl) (by decide) h2), (idx_ok' h5 h4), (row_part cI (s := 1) (k := 0) (m := 1) (fun _ => rfl) (by decide) h4), q13_1, q14_1, q15_1, hc1, hc2, (idx_ok' h7 h6), rfl, rfl, (row_part cI (s := 1) (k := 0) (m := 1) (fun _ => rfl) (by decide) h6), q23_3, q24_3, (idx_ok' h7 h6), rfl, (row_fits cI (s := 1) (k := 0) (m := 1) (fun _ => rfl) (by decide) h6), rfl, q29_3, trivial⟩ ?_
        have h := (h g1)
        simp only [f80pS1, List.length_set] at h
        rw [(show setAt (rowI v1) (0 + (Int.toNat i) * 1) [.int .i64 (e2 + ((e * (Int.tdiv all e1)) * te.w))] = rowI (v1.set (Int.toNat i) (e2 + ((e * (Int.tdiv all e1)) * te.w))) from row_set cI (s := 1) (k := 0) (fun _ => rfl) h6 rfl (by first | decide | simp))]
        exact h
      · have h := h.2 (ne_of_beq_false hc2)
        obtain ⟨q18_3, h⟩ := h
        obtain ⟨h7, h⟩ := h
        obtain ⟨e2, h6, h⟩ := h
        rcases Bool.eq_false_or_eq_true (e2 == (k : Int)) with hc3 | hc3
        · have h := h.1 (eq_of_beq hc3)
          obtain ⟨h9, h⟩ := h
          obtain ⟨e3, h8, h⟩ := h
          obtain ⟨q29_4, h⟩ := h
          refine p80p_1_1 s ends pa oa plan i all v1 v2_0 v2_1 v2_2 k g1 te e e1 e2 e3 hE ⟨hc0, (idx_ok h1), (row_part cTrn (s := 2) (k := 0) (m := 2) (fun _ => rfl) (by decide) h1), (by decide), (idx_ok' h3 h2), rfl, rfl, (row_part cI (s := 1) (k := 0) (m := 1) (fun _ => rfl) (by decide) h2), (idx_ok' h5 h4), (row_part cI (s := 1) (k := 0) (m := 1) (fun _ => rfl) (by decide) h4), q13_1, q14_1, q15_1, hc1, hc2, q18_3, rfl, (idx_ok' h7 h6), (row_part cI (s := 1) (k := 0) (m := 1) (fun _ => rfl) (by decide) h6), hc3, (idx_ok' h9 h8), rfl, (row_fits cI (s := 1) (k := 0) (m := 1) (fun _ => rfl) (by decide) h8), rfl, q29_4, trivial⟩ ?_
          have h := (h g1)
          simp only [f80pS1, List.length_set] at h
          rw [(show setAt (rowI v1) (0 + (Int.toNat i) * 1) [.int .i64 (e * (Int.tdiv all e1))] = rowI (v1.set (Int.toNat i) (e * (Int.tdiv all e1))) from row_set cI (s := 1) (k := 0) (fun _ => rfl) h8 rfl (by first | decide | simp))]
          exact h
        · have h := h.2 (ne_of_beq_false hc3)
          obtain ⟨q24_4, h⟩ := h
          exact p80p_1_2 s ends pa oa plan i all v1 v2_0 v2_1 v2_2 k g1 te e e1 e2 hE ⟨hc0, (idx_ok h1), (row_part cTrn (s := 2) (k := 0) (m := 2) (fun _ => rfl) (by decide) h1), (by decide), (idx_ok' h3 h2), rfl, rfl, (row_part cI (s := 1) (k := 0) (m := 1) (fun _ => rfl) (by decide) h2), (idx_ok' h5 h4), (row_part cI (s := 1) (k := 0) (m := 1) (fun _ => rfl) (by decide) h4), q13_1, q14_1, q15_1, hc1, hc2, q18_3, rfl, (idx_ok' h7 h6), (row_part cI (s := 1) (k := 0) (m := 1) (fun _ => rfl) (by decide) h6), hc3, q24_4, trivial⟩ (h g1)
    · have h := h.2 (ne_of_beq_false hc1)
      rcases Bool.eq_false_or_eq_true (v2_0 == 1) with hc2 | hc2
      · have h := h.1 (eq_of_beq hc2)
        obtain ⟨h7, h⟩ := h
        obtain ⟨e2, h6, h⟩ := h
        obtain ⟨q23_3, h⟩ := h
        obtain ⟨q24_3, h⟩ := h
        obtain ⟨q29_3, h⟩ := h
        refine p80p_1_3 s ends pa oa plan i all v1 v2_0 v2_1 v2_2 k g1 te e e1 e2 hE ⟨hc0, (idx_ok h1), (row_part cTrn (s := 2) (k := 0) (m := 2) (fun _ => rfl) (by decide) h1), (by decide), (idx_ok' h3 h2), rfl, rfl, (row_part cI (s := 1) (k := 0) (m := 1) (fun _ => rfl) (by decide) h2), (idx_ok' h5 h4), (row_part cI (s := 1) (k := 0) (m := 1) (fun _ => rfl) (by decide) h4), q13_1, q14_1, q15_1, hc1, hc2, (idx_ok' h7 h6), rfl, rfl, (row_part cI (s := 1) (k := 0) (m := 1) (fun _ => rfl) (by decide) h6), q23_3, q24_3, (idx_ok' h7 h6), rfl, (row_fits cI (s := 1) (k := 0) (m := 1) (fun _ => rfl) (by decide) h6), rfl, q29_3, trivial⟩ ?_
        have h := (h g1)
        simp only [f80pS1, List.length_set] at h
        rw [(show setAt (rowI v1) (0 + (Int.toNat i) * 1) [.int .i64 (e2 + ((e * (Int.tdiv all e1)) * te.w))] = rowI (v1.set (Int.toNat i) (e2 + ((e * (Int.tdiv all e1)) * te.w))) from row_set cI (s := 1) (k := 0) (fun _ => rfl) h6 rfl (by first | decide | simp))]
        exact h
      · have h := h.2 (ne_of_beq_false hc2)
        obtain ⟨q18_3, h⟩ := h
        obtain ⟨h7, h⟩ := h
        obtain ⟨e2, h6, h⟩ := h
        rcases Bool.eq_false_or_eq_true (e2 == (k : Int)) with hc3 | hc3
        · have h := h.1 (eq_of_beq hc3)
          obtain ⟨h9, h⟩ := h
          obtain ⟨e3, h8, h⟩ := h
          obtain ⟨q29_4, h⟩ := h
          refine p80p_1_4 s ends pa oa plan i all v1 v2_0 v2_1 v2_2 k g1 te e e1 e2 e3 hE ⟨hc0, (idx_ok h1), (row_part cTrn (s := 2) (k := 0) (m := 2) (fun _ => rfl) (by decide) h1), (by decide), (idx_ok' h3 h2), rfl, rfl, (row_part cI (s := 1) (k := 0) (m := 1) (fun _ => rfl) (by decide) h2), (idx_ok' h5 h4), (row_part cI (s := 1) (k := 0) (m := 1) (fun _ => rfl) (by decide) h4), q13_1, q14_1, q15_1, hc1, hc2, q18_3, rfl, (idx_ok' h7 h6), (row_part cI (s := 1) (k := 0) (m := 1) (fun _ => rfl) (by decide) h6), hc3, (idx_ok' h9 h8), rfl, (row_fits cI (s := 1) (k := 0) (m := 1) (fun _ => rfl) (by decide) h8), rfl, q29_4, trivial⟩ ?_
          have h := (h g1)
          simp only [f80pS1, List.length_set] at h
          rw [(show setAt (rowI v1) (0 + (Int.toNat i) * 1) [.int .i64 (e * (Int.tdiv all e1))] = rowI (v1.set (Int.toNat i) (e * (Int.tdiv all e1))) from row_set cI (s := 1) (k := 0) (fun _ => rfl) h8 rfl (by first | decide | simp))]
          exact h
        · have h := h.2 (ne_of_beq_false hc3)
          obtain ⟨q24_4, h⟩ := h
          exact p80p_1_5 s ends pa oa plan i all v1 v2_0 v2_1 v2_2 k g1 te e e1 e2 hE ⟨hc0, (idx_ok h1), (row_part cTrn (s := 2) (k := 0) (m := 2) (fun _ => rfl) (by decide) h1), (by decide), (idx_ok' h3 h2), rfl, rfl, (row_part cI (s := 1) (k := 0) (m := 1) (fun _ => rfl) (by decide) h2), (idx_ok' h5 h4), (row_part cI (s := 1) (k := 0) (m := 1) (fun _ => rfl) (by decide) h4), q13_1, q14_1, q15_1, hc1, hc2, q18_3, rfl, (idx_ok' h7 h6), (row_part cI (s := 1) (k := 0) (m := 1) (fun _ => rfl) (by decide) h6), hc3, q24_4, trivial⟩ (h g1)
  · have h := h.2 (of_decide_eq_false hc0)
    obtain ⟨q1_1, h⟩ := h
    exact p80p_1_6 s ends pa oa plan i all v1 v2_0 v2_1 v2_2 k g1  hE ⟨hc0, q1_1, trivial⟩ (h g1)

set_option maxHeartbeats 2000000 in
theorem valuesp_ok (s : Stl) (w : Int → Int) (pa oa : Int) (plan : List Int) (h : checkK s = 0 ∧ plan.length = s.stages.length) (hw : WOk (machG s) w (fun i _ => planI plan i)) : Pure Try.prog 80 [.agg [.rsl (rowStg s.stages) 0 s.stages.length, .rsl (rowI s.worth) 0 s.worth.length, .int .i64 s.price], .rsl (rowI (endsI s w)) 0 (endsI s w).length, .int .i64 pa, .int .i64 oa, .rsl (rowI plan) 0 plan.length] (.rsl (rowI (valuesP s w plan)) 0 (valuesP s w plan).length) := pure_of Try.func80 f80pb fun E hE => by
  obtain ⟨hm, es⟩ := mok_G (isSome_of h.1)
  have hme := measR_of (isSome_of h.1)
  have hrv : (valuesP s w plan) = (valA (machG s) w (fun i _ => planI plan i)).1 := rfl
  have hlen := h.2
  have hz : valA (machG s) w (fun i _ => planI plan i) = valN (machG s) w (fun i _ => planI plan i) s.stages.length (zeros s.stages.length, zeros s.stages.length) := by rw [valA, es]
  have hp0 := val_ok0 hm
  generalize hmm : machG s = m at *
  have hform := (stPre_of hm.st).2.2.2.2
  have hn := (stPre_of hm.st).1
  rw [es] at hform hn hp0
  have key : ∀ (n : Nat) (p : List Int × List Int), n ≤ s.stages.length → VOk m n p → valA m w (fun i _ => planI plan i) = valN m w (fun i _ => planI plan i) n p → f80pG0 E s (endsI s w) pa oa plan p.1 ((n : Int) - 1) := by
    intro n
    induction n with
    | zero =>
      intro p hn hp ha
      exact f80pW0 s (endsI s w) pa oa plan p.1 _ (rv := (valuesP s w plan)) hE ⟨fun h => by omega, fun _ => by rw [hrv, ha, valN]⟩
    | succ i ih =>
      intro p hn' hp ha
      have hi : s.stages[i]? = some s.stages[i] := List.getElem?_eq_getElem (by omega)
      have hx : s.stages.getD i ⟨0, 0, []⟩ = s.stages[i] := by simp [List.getD, hi]
      have en : Int.toNat (i : Int) = i := Int.toNat_natCast i
      have e0 : ((i + 1 : Nat) : Int) - 1 = (i : Int) := by omega
      have hp2 := val_step hm hw (by rw [es]; omega) hp
      have nx := ih (valStep m w (fun i _ => planI plan i) i p) (by omega) hp2 (by rw [ha, valN])
      have hfo := form_of hi (hform i (by omega))
      have hto := turns_to hi (hform i (by omega))
      have htt := tot_of hi (hform i (by omega))
      have hv0 : p.1[i]? = some 0 := by
        have := getD_some (l := p.1) (i := i) (by rw [hp.l1, es]; omega)
        rw [hp.lo i (by omega)] at this; exact this
      have hi' : m.s.stages[i]? = some s.stages[i] := by rw [es]; exact hi
      obtain ⟨q, q1, q2, q3, q4⟩ := hm.inv.rel i _ (by omega) hi'
      have hend := ends_at (w := w) hi
      have hch := fun (l : List Int) (h4 : s.stages[i].kind ≠ 4) (h1 : s.stages[i].kind ≠ 1) (hl : l.length = s.stages[i].turns.length) (h0 : 0 < l.length) => hw.c1 i _ l hi' h4 h1 hl h0
      skip
      unfold valStep at nx
      rw [es, hx] at nx
      generalize s.stages[i] = x at hi hi' hx nx hfo hto htt q2 q4 hend hch 
      rw [e0]
      have hme2 : ((measR (measA s)).1)[Int.toNat (i : Int)]? = some (if x.kind = 1 then q * totI x else q) := by rw [hme, en]; exact q2
      have htail : x.kind ≠ 4 → f80pG1 E s (endsI s w) pa oa plan (i : Int) q p.1 x.kind x.prize x.turns 0 := by
        intro h4
        rw [if_neg h4] at nx
        have hlen : 1 ≤ x.turns.length ∧ x.turns.length ≤ 8 := by
          rcases hfo with ⟨h, -⟩ | ⟨-, -, h, -⟩
          · exact absurd h h4
          · exact h
        have hall := next_all hm hi' hp q1
        have hl : (nextI m i p.1 x.turns).length = x.turns.length := by simp [nextI]
        have htot := fun (h1 : x.kind = 1) (u : Int) (hu : m.meas[i]? = some u) => sum_bd hm hi' hp h1 hu
        -- what a turn is worth
        have turn : ∀ (k : Nat), k < x.turns.length → ∃ te e e1, x.turns[k]? = some te ∧ 0 ≤ te.to ∧ i < Int.toNat te.to ∧ p.1[Int.toNat te.to]? = some e ∧ m.meas[Int.toNat te.to]? = some e1 ∧ (nextI m i p.1 x.turns)[k]? = some (e * Int.tdiv q e1) ∧ (0 < e1 ∧ e1 ≤ 1000000000000) ∧ (0 ≤ Int.tdiv q e1 ∧ Int.tdiv q e1 ≤ 1000000000000) ∧ 0 ≤ e * Int.tdiv q e1 ∧ e * Int.tdiv q e1 ≤ 10000 * q := by
          intro k hk
          have hkk : x.turns[k]? = some x.turns[k] := List.getElem?_eq_getElem hk
          have htm := List.mem_of_getElem? hkk
          have hN : (nextI m i p.1 x.turns)[k]? = some (p.1.getD (Int.toNat x.turns[k].to) 0 * Int.tdiv (m.mult.getD i 0) (m.meas.getD (Int.toNat x.turns[k].to) 0)) := by rw [nextI, List.getElem?_map, hkk]; rfl
          generalize x.turns[k] = te at hkk htm hN
          obtain ⟨q', u, n1, n2, n3, n4, n5, n6, n7, n8, n9⟩ := next_bd hm hi' hp htm
          rw [q1] at n1; cases n1
          have ht := hto te htm
          rw [getD_of q1, getD_of n2] at hN
          exact ⟨te, _, u, hkk, ht.2.2, ht.1, getD_some (by rw [hp.l1, es]; exact ht.2.1), n2, hN, n4, ⟨n6, by omega⟩, n8, n9⟩
        generalize nextI m i p.1 x.turns = N at nx hall hl htot turn
        by_cases h1 : x.kind = 1
        · -- a chance
          rw [if_pos h1] at nx
          rw [if_pos h1] at q2
          have tb := htot h1 _ q2
          have mb := hm.inv.pos i _ (by omega) q2
          generalize q * totI x = u at q2 tb mb
          rw [hp.lo i (by omega), Int.zero_add] at nx
          have loop : ∀ (d k : Nat) (vs : List Int) (a : Int), k + d = x.turns.length → vs.length = s.stages.length → vs[i]? = some a → 0 ≤ a → a + sumW (x.turns.drop k) (N.drop k) = sumW x.turns N → p.1.set i (sumW x.turns N) = vs.set i (sumW x.turns N) → (∀ j, i < j → vs[j]? = p.1[j]?) → f80pG1 E s (endsI s w) pa oa plan (i : Int) q vs x.kind x.prize x.turns k := by
            intro d
            induction d with
            | zero =>
              intro k vs a hd hvl hva ha0 hsum hset hge
              rw [List.drop_eq_nil_of_le (by omega), sumW, Int.add_zero] at hsum
              rw [← hsum] at hset
              rw [set_same hva] at hset
              refine f80pW1 s (endsI s w) pa oa plan (i : Int) q vs x.kind x.prize x.turns k (rv := (valuesP s w plan)) hE ⟨fun h => by omega, fun _ => ⟨by omega, ?_⟩⟩
              rw [← hset, hsum]; exact nx
              all_goals simp
            | succ d ih2 =>
              intro k vs a hd hvl hva ha0 hsum hset hge
              obtain ⟨te, e, e1, hk, t0, t1, t2, t3, hN, t4, t5, t6, t7⟩ := turn k (by omega)
              have ek : x.turns.drop k = te :: x.turns.drop (k + 1) := by
                rw [List.drop_eq_getElem_cons (by omega)]; congr 1
                have := List.getElem?_eq_getElem (l := x.turns) (i := k) (by omega)
                rw [hk] at this; exact (Option.some.inj this).symm
              have eN : N.drop k = (e * Int.tdiv q e1) :: N.drop (k + 1) := by
                rw [List.drop_eq_getElem_cons (by omega)]; congr 1
                have := List.getElem?_eq_getElem (l := N) (i := k) (by omega)
                rw [hN] at this; exact (Option.some.inj this).symm
              rw [ek, eN, sumW] at hsum
              have rest := sumW_bd (ts := x.turns.drop (k + 1)) (es := N.drop (k + 1)) (B := 10000 * q) (fun e he => hall e (List.mem_of_mem_drop he)) (fun t ht => (htt.1.2 t (List.mem_of_mem_drop ht)).1) (by simp [hl])
              have b1 := (htt.1.2 _ (List.mem_of_getElem? hk)).1
              have b3 := Int.mul_nonneg b1 t6
              have nxt := ih2 (k + 1) (vs.set i (a + e * Int.tdiv q e1 * te.w)) (a + e * Int.tdiv q e1 * te.w) (by omega) (by simp [hvl]) (by rw [List.getElem?_set_self (by omega)]) (by rw [Int.mul_comm]; omega) (by rw [Int.mul_comm _ te.w]; omega) (by rw [List.set_set]; exact hset) (fun j hj => by rw [List.getElem?_set_ne (by omega)]; exact hge j hj)
              have b4 : te.w * (e * Int.tdiv q e1) = e * Int.tdiv q e1 * te.w := Int.mul_comm _ _
              rw [b4] at hsum b3
              refine f80pW1 s (endsI s w) pa oa plan (i : Int) q vs x.kind x.prize x.turns k (rv := (valuesP s w plan)) hE ⟨fun _ => ⟨te, hk, t0, e, by rw [hge _ t1]; exact t2, t0, e1, by rw [hme]; exact t3, by omega, by omega, by omega, fun h3 => by omega, fun _ => ⟨fun _ => ⟨by omega, a, by rw [en]; exact hva, by omega, by omega, by omega, by rw [en]; exact nxt⟩, fun h => absurd h1 h⟩⟩, fun h => by omega⟩
          exact loop x.turns.length 0 p.1 0 (by omega) (by rw [hp.l1, es]) hv0 (by omega) (by simp) rfl (fun j hj => rfl)
        · -- who chooses
          rw [if_neg h1] at nx

          have hc : 0 ≤ planI plan (i : Int) ∧ Int.toNat (planI plan (i : Int)) < N.length := hch N h4 h1 hl (by omega)
          have nx : f80pG0 E s (endsI s w) pa oa plan (p.1.set i (N.getD (Int.toNat (planI plan (i : Int))) 0)) ((i : Int) - 1) := nx
          have hpl : plan[i]? = some (planI plan (i : Int)) := by rw [planI, en]; exact getD_some (by omega)
          generalize planI plan (i : Int) = c at hc hpl nx
          have loop : ∀ (d k : Nat) (vs : List Int), k + d = x.turns.length → (k ≤ Int.toNat c → vs = p.1) → (Int.toNat c < k → vs = p.1.set i (N.getD (Int.toNat c) 0)) → f80pG1 E s (endsI s w) pa oa plan (i : Int) q vs x.kind x.prize x.turns k := by
            intro d
            induction d with
            | zero =>
              intro k vs hd hv1 hv2
              refine f80pW1 s (endsI s w) pa oa plan (i : Int) q vs x.kind x.prize x.turns k (rv := valuesP s w plan) hE ⟨fun h => by omega, fun _ => ⟨by omega, ?_⟩⟩
              rw [hv2 (by omega)]; exact nx
            | succ d ih2 =>
              intro k vs hd hv1 hv2
              obtain ⟨te, e, e1, hk, t0, t1, t2, t3, hN, t4, t5, t6, t7⟩ := turn k (by omega)
              have hvt : vs[Int.toNat te.to]? = some e := by
                rcases Nat.lt_or_ge (Int.toNat c) k with h0 | h0
                · rw [hv2 h0, List.getElem?_set_ne (by omega)]; exact t2
                · rw [hv1 h0]; exact t2
              have hvi : ∃ e2, vs[i]? = some e2 := by
                rcases Nat.lt_or_ge (Int.toNat c) k with h0 | h0
                · exact ⟨_, by rw [hv2 h0, List.getElem?_set_self (by rw [hp.l1, es]; omega)]⟩
                · exact ⟨0, by rw [hv1 h0]; exact hv0⟩
              obtain ⟨e2, hv⟩ := hvi
              have yes : c = (k : Int) → f80pG1 E s (endsI s w) pa oa plan (i : Int) q (vs.set i (e * Int.tdiv q e1)) x.kind x.prize x.turns (k + 1) := fun h => ih2 (k + 1) _ (by omega) (fun h => by omega) (fun _ => by rw [hv1 (by omega), show Int.toNat c = k by omega, getD_of hN])
              have no : ¬ (c = (k : Int)) → f80pG1 E s (endsI s w) pa oa plan (i : Int) q vs x.kind x.prize x.turns (k + 1) := fun h => ih2 (k + 1) _ (by omega) (fun h => hv1 (by omega)) (fun h => hv2 (by omega))
              refine f80pW1 s (endsI s w) pa oa plan (i : Int) q vs x.kind x.prize x.turns k (rv := valuesP s w plan) hE ⟨fun _ => ⟨te, hk, t0, e, hvt, t0, e1, by rw [hme]; exact t3, by omega, by omega, by omega, fun h3 => ⟨fun h => absurd h h1, fun _ => ⟨by omega, by omega, c, by rw [en]; exact hpl, fun h => ⟨by omega, e2, by rw [en]; exact hv, by omega, by rw [en]; exact yes h⟩, fun h => ⟨by omega, no h⟩⟩⟩, fun h3 => ⟨fun h => absurd h h1, fun _ => ⟨by omega, by omega, c, by rw [en]; exact hpl, fun h => ⟨by omega, e2, by rw [en]; exact hv, by omega, by rw [en]; exact yes h⟩, fun h => ⟨by omega, no h⟩⟩⟩⟩, fun h => by omega⟩
          exact loop x.turns.length 0 p.1 (by omega) (fun _ => rfl) (fun h => by omega)
      refine f80pW0 s (endsI s w) pa oa plan p.1 (i : Int) (rv := (valuesP s w plan)) hE ⟨fun _ => ⟨by omega, x, by rw [en]; exact hi, fun h4 => ⟨by omega, _, by rw [en]; exact hend, by omega, _, by rw [en]; exact hv0, by omega, ?_⟩, fun h4 => ⟨by omega, _, hme2, fun h1 => ⟨htt.1, ?_⟩, fun h1 => ?_⟩⟩, fun h => by omega⟩
      · rw [en]
        by_cases hpr : x.prize ≥ 0
        · rw [if_pos h4, if_pos hpr] at nx
          rw [if_pos ⟨h4, hpr⟩]; exact nx
        · rw [if_pos h4, if_neg hpr] at nx
          rw [if_neg (fun h => hpr h.2), set_same hv0]; exact nx
      · have h0 := htt.2 h1
        rw [if_pos h1]
        have : Int.tdiv (q * totI x) (totI x) = q := Int.mul_tdiv_cancel _ (by omega)
        rw [this]
        exact ⟨by omega, by omega, htail h4⟩
      · rw [if_neg h1]; exact htail h4
  have e : f80pG0 E s (endsI s w) pa oa plan (zeros s.stages.length) ((s.stages.length : Int) - 1) := key s.stages.length (zeros s.stages.length, zeros s.stages.length) (Nat.le_refl _) hp0 hz
  exact f80pW s (endsI s w) pa oa plan (rv := (valuesP s w plan)) hE ⟨⟨by omega, hform⟩, by omega, by omega, by rw [Int.toNat_natCast]; exact e⟩

end Go.Proofs.Ytfgmlaeikcfpbaa

namespace Go.Proofs.Ytfgmlaeikcfpbaa
open Go Ax
open Go.Proofs

abbrev avStl (s : Stl) : AV := .agg [.rsl (rowStg s.stages) 0 s.stages.length, .rsl (rowI s.worth) 0 s.worth.length, .int .i64 s.price]
theorem valuesPO_ok (s : Stl) (kd pa oa : Int) (plan : List Int) (h : checkK s = 0 ∧ planOk s plan = true) : Pure Try.prog 80 [avStl s, .rsl (rowI (endsI s (onlyI kd))) 0 (endsI s (onlyI kd)).length, .int .i64 pa, .int .i64 oa, .rsl (rowI plan) 0 plan.length] (.rsl (rowI (valuesP s (onlyI kd) plan)) 0 (valuesP s (onlyI kd) plan).length) :=
  valuesp_ok s (onlyI kd) pa oa plan ⟨h.1, (planOk_of h.2).1⟩ (wok_plan (by rw [(mok_G (isSome_of h.1)).2]; exact h.2))
theorem checkK_no {s : Stl} (h : ¬ (checkK s = 0)) : checkK s = 60 := by
  unfold checkK at *
  split
  · rename_i h1; rw [if_pos h1] at h; omega
  · rfl
theorem isSome_iff {s : Stl} : (machI s).isSome = true ↔ checkK s = 0 := by
  unfold checkK; split <;> simp_all
def planE (s : Stl) (plan : List Int) : Int := if checkK s = 0 then (if planOk s plan = true then 0 else 1) else 60
theorem planE_of {s : Stl} {plan : List Int} (h : planE s plan = 0) : checkK s = 0 ∧ planOk s plan = true := by
  unfold planE at h
  split at h
  · rename_i h0
    split at h
    · rename_i h1; exact ⟨h0, h1⟩
    · omega
  · omega

/-! ### The end values of a machine, turn by turn -/
theorem fin_turn {m : Mch} (hm : MOk m) {w : Int → Int} {ch : Int → List Int → Int} (hw : WOk m w ch) {i : Nat} {x : Stg} (hi : m.s.stages[i]? = some x) {k : Nat} {t : Trn} (hk : x.turns[k]? = some t) :
    ∃ q u v, m.mult[i]? = some q ∧ m.meas[Int.toNat t.to]? = some u ∧ (valA m w ch).1[Int.toNat t.to]? = some v ∧ (nextI m i (valA m w ch).1 x.turns)[k]? = some (v * Int.tdiv q u) ∧ 0 ≤ t.to ∧ i < Int.toNat t.to ∧ Int.toNat t.to < m.s.stages.length ∧
      (0 < q ∧ q ≤ 1000000000000) ∧ (0 < u ∧ u ≤ 1000000000000) ∧ Int.tdiv q u * u = q ∧ 0 ≤ Int.tdiv q u ∧ Int.tdiv q u ≤ q ∧ (0 ≤ v ∧ v ≤ 10000 * u) ∧ 0 ≤ v * Int.tdiv q u ∧ v * Int.tdiv q u ≤ 10000 * q := by
  have hform := (stPre_of hm.st).2.2.2.2
  have hp := val_okA hm hw
  have ht := List.mem_of_getElem? hk
  have hto := turns_to hi (hform i (List.getElem?_eq_some_iff.1 hi).1) t ht
  obtain ⟨q, q1, q2, q3, q4⟩ := hm.inv.rel i x (by omega) hi
  have hg : m.meas[Int.toNat t.to]? = some (m.meas[Int.toNat t.to]'(by rw [hm.inv.l1]; exact hto.2.1)) := List.getElem?_eq_getElem _
  have hd := q4 t ht
  have hb := hm.inv.pos _ _ (by omega) hg
  have hv := hp.hi _ _ (by omega) hg
  have hN : (nextI m i (valA m w ch).1 x.turns)[k]? = some ((valA m w ch).1.getD (Int.toNat t.to) 0 * Int.tdiv (m.mult.getD i 0) (m.meas.getD (Int.toNat t.to) 0)) := by rw [nextI, List.getElem?_map, hk]; rfl
  rw [getD_of q1, getD_of hg] at hN
  rw [getD_of hg] at hd
  generalize m.meas[Int.toNat t.to]'(by rw [hm.inv.l1]; exact hto.2.1) = u at hg hd hb hv hN
  have hgv := getD_some (l := (valA m w ch).1) (i := Int.toNat t.to) (by rw [hp.l1]; exact hto.2.1)
  generalize (valA m w ch).1.getD (Int.toNat t.to) 0 = v at hv hN hgv
  have e1 : Int.tdiv q u = q / u := Int.tdiv_eq_ediv_of_nonneg (by omega)
  have e2 := Int.ediv_le_self u (show (0 : Int) ≤ q by omega)
  have e3 := Int.ediv_nonneg (show (0 : Int) ≤ q by omega) (show 0 ≤ u by omega)
  have e4 : Int.tdiv q u * u = q := by rw [e1]; exact Int.ediv_mul_cancel hd
  refine ⟨q, u, v, q1, hg, hgv, hN, hto.2.2, hto.1, hto.2.1, q3, hb, e4, by omega, by omega, hv, Int.mul_nonneg hv.1 (by omega), ?_⟩
  have h1 := Int.mul_le_mul_of_nonneg_right hv.2 (show 0 ≤ Int.tdiv q u by omega)
  have h2 : 10000 * u * Int.tdiv q u = 10000 * q := by rw [Int.mul_assoc, Int.mul_comm u, e4]
  omega
structure Aims where
  kind : Int
  player : Int
  operator : Int
theorem f30b : Try.f30.body = some (bodyAt Try.prog 30) := by kernel_rfl
def f30K0 (P : Program) : List Item := kAt 400 [.code (bodyAt P 30)] [.b false, .b false, .stop]
def f30S0 (s : Stl) (plan : (List Int)) (i : Nat)  : St := ⟨[J, .rsl (rowI plan) 0 plan.length, .ptr 0 0 0, J, J, J, .int .i64 (i : Int), J, J, J, J, J, J, J, J, J, J, J, J, J, J, J, J, J, J, J, J, J, J, J, J, J, J, J, J, J, J, J, J, J, J, J, J, J, J, J, J, J, J, J], [⟨true, 0, 1, true, [.rsl (rowStg s.stages) 0 s.stages.length, .rsl (rowI s.worth) 0 s.worth.length, .int .i64 s.price], false⟩]⟩
def f30G0 (E : Env) (s : Stl) (plan : (List Int)) (i : Nat) : Prop := G Try.prog E (f30K0 Try.prog) (f30S0 s plan i )
theorem p30_start_0 (s : Stl) (plan : (List Int))   {E : Env} {res : AV} (hE : PureE Try.prog 30 res E) (ho : AllP [PureF Try.prog (.clos 19 [] []) [.agg [.rsl (rowStg s.stages) 0 s.stages.length, .rsl (rowI s.worth) 0 s.worth.length, .int .i64 s.price]] (.int .i64 (checkK s)), ((checkK s) != 0) = true])
    (hr : AvLe (.int .i64 (checkK s)) res) : G Try.prog E [.code (bodyAt Try.prog 30)] ⟨[.agg [.rsl (rowStg s.stages) 0 s.stages.length, .rsl (rowI s.worth) 0 s.worth.length, .int .i64 s.price], .rsl (rowI plan) 0 plan.length] ++ unds (Try.f30.ntmps - 2), []⟩ :=
  end_stepL (n := 400) (evs := [.v (.int .i64 (checkK s)), .b true]) (obs := _) hE Try.func30 mixed (by kernel_rfl) ho hr
theorem p30_start_1 (s : Stl) (plan : (List Int))   {E : Env} {res : AV} (hE : PureE Try.prog 30 res E) (ho : AllP [PureF Try.prog (.clos 19 [] []) [.agg [.rsl (rowStg s.stages) 0 s.stages.length, .rsl (rowI s.worth) 0 s.worth.length, .int .i64 s.price]] (.int .i64 (checkK s)), ((checkK s) != 0) = false, ((plan.length : Int) != (s.stages.length : Int)) = true])
    (hr : AvLe (.int .i64 1) res) : G Try.prog E [.code (bodyAt Try.prog 30)] ⟨[.agg [.rsl (rowStg s.stages) 0 s.stages.length, .rsl (rowI s.worth) 0 s.worth.length, .int .i64 s.price], .rsl (rowI plan) 0 plan.length] ++ unds (Try.f30.ntmps - 2), []⟩ :=
  end_stepL (n := 400) (evs := [.v (.int .i64 (checkK s)), .b false, .b true]) (obs := _) hE Try.func30 mixed (by kernel_rfl) ho hr
theorem p30_start_2 (s : Stl) (plan : (List Int))   {E : Env} {rv : AV} (hE : PureE Try.prog 30 rv E) (ho : AllP [PureF Try.prog (.clos 19 [] []) [.agg [.rsl (rowStg s.stages) 0 s.stages.length, .rsl (rowI s.worth) 0 s.worth.length, .int .i64 s.price]] (.int .i64 (checkK s)), ((checkK s) != 0) = false, ((plan.length : Int) != (s.stages.length : Int)) = false])
    (hg : G Try.prog E (f30K0 Try.prog) ⟨[J, .rsl (rowI plan) 0 plan.length, .ptr 0 0 0, J, J, J, .int .i64 0, J, J, J, J, J, J, J, J, J, J, J, J, J, J, J, J, J, J, J, J, J, J, J, J, J, J, J, J, J, J, J, J, J, J, J, J, J, J, J, J, J, J, J], [⟨true, 0, 1, true, [.rsl (rowStg s.stages) 0 s.stages.length, .rsl (rowI s.worth) 0 s.worth.length, .int .i64 s.price], false⟩]⟩) : G Try.prog E [.code (bodyAt Try.prog 30)] ⟨[.agg [.rsl (rowStg s.stages) 0 s.stages.length, .rsl (rowI s.worth) 0 s.worth.length, .int .i64 s.price], .rsl (rowI plan) 0 plan.length] ++ unds (Try.f30.ntmps - 2), []⟩ :=
  segC_step (n := 400) (ds := []) (cs := []) (live := [1, 2, 6]) (m := 1) (evs := [.v (.int .i64 (checkK s)), .b false, .b false, .stop]) (obs := _) hE.2.1 (hE.nogh _) mixed (by kernel_rfl) ho hg
theorem f30W (s : Stl) (plan : (List Int)) {E : Env} {rv : Int} (hE : PureE Try.prog 30 (.int .i64 rv) E)
    (h : ((s.stages.length ≤ 9223372036854775807 ∧ s.worth.length ≤ 9223372036854775807) ∧ ((¬ ((checkK s) = 0) → rv = (checkK s)) ∧ ((checkK s) = 0 → ((¬ ((plan.length : Int) = (s.stages.length : Int)) → rv = 1) ∧ ((plan.length : Int) = (s.stages.length : Int) → f30G0 E s plan 0)))))) : G Try.prog E [.code (bodyAt Try.prog 30)] ⟨[.agg [.rsl (rowStg s.stages) 0 s.stages.length, .rsl (rowI s.worth) 0 s.worth.length, .int .i64 s.price], .rsl (rowI plan) 0 plan.length] ++ unds (Try.f30.ntmps - 2), []⟩ := by
  obtain ⟨h1, h⟩ := h
  rcases Bool.eq_false_or_eq_true ((checkK s) != 0) with hc0 | hc0
  · have h := h.1 (bneT hc0)
    exact p30_start_0 s plan    hE ⟨(pureF_of Try.func19 (by kernel_rfl) f19b (checkR_ok s h1)), hc0, trivial⟩ (AvLe.of_eq (by rw [h]; try rfl))
  · have h := h.2 (bneF hc0)
    rcases Bool.eq_false_or_eq_true ((plan.length : Int) != (s.stages.length : Int)) with hc1 | hc1
    · have h := h.1 (bneT hc1)
      exact p30_start_1 s plan    hE ⟨(pureF_of Try.func19 (by kernel_rfl) f19b (checkR_ok s h1)), hc0, hc1, trivial⟩ (AvLe.of_eq (by rw [h]; try rfl))
    · have h := h.2 (bneF hc1)
      exact p30_start_2 s plan    hE ⟨(pureF_of Try.func19 (by kernel_rfl) f19b (checkR_ok s h1)), hc0, hc1, trivial⟩ h
theorem p30_0_0 (s : Stl) (plan : (List Int)) (i : Nat)  (se : Stg) (e : Int)  {E : Env} {res : AV} (hE : PureE Try.prog 30 res E) (ho : AllP [(decide ((i : Int) < (plan.length : Int))) = true, 0 ≤ (i : Int) ∧ (i : Int) < (s.stages.length : Int), ((rowStg s.stages).drop (0 + (Int.toNat (i : Int)) * 3)).take 3 = [.int .i64 se.kind, .int .i64 se.prize, .rsl (rowTrn se.turns) 0 se.turns.length], 3 ≤ 3, (se.kind == 2) = true, true = true, InR .i64 ((se.turns.length : Int) - 1), 0 ≤ (i : Int) ∧ (i : Int) < (plan.length : Int), ((rowI plan).drop (0 + (Int.toNat (i : Int)) * 1)).take 1 = [.int .i64 e], PureF Try.prog (.clos 62 [] []) [.int .i64 e, .int .i64 0, .int .i64 ((se.turns.length : Int) - 1)] (.bool (within e 0 ((se.turns.length : Int) - 1))), (!(within e 0 ((se.turns.length : Int) - 1))) = true])
    (hr : AvLe (.int .i64 1) res) : G Try.prog E (f30K0 Try.prog) (f30S0 s plan i ) :=
  end_stepL (n := 400) (evs := [.b true, .auto, .ld (.agg [.int .i64 se.kind, .int .i64 se.prize, .rsl (rowTrn se.turns) 0 se.turns.length]), .b true, .b true, .auto, .ld (.int .i64 e), .v (.bool (within e 0 ((se.turns.length : Int) - 1))), .b true]) (obs := _) hE Try.func30 mixed (by kernel_rfl) ho hr
theorem p30_0_1 (s : Stl) (plan : (List Int)) (i : Nat)  (se : Stg) (e : Int)  {E : Env} {rv : AV} (hE : PureE Try.prog 30 rv E) (ho : AllP [(decide ((i : Int) < (plan.length : Int))) = true, 0 ≤ (i : Int) ∧ (i : Int) < (s.stages.length : Int), ((rowStg s.stages).drop (0 + (Int.toNat (i : Int)) * 3)).take 3 = [.int .i64 se.kind, .int .i64 se.prize, .rsl (rowTrn se.turns) 0 se.turns.length], 3 ≤ 3, (se.kind == 2) = true, true = true, InR .i64 ((se.turns.length : Int) - 1), 0 ≤ (i : Int) ∧ (i : Int) < (plan.length : Int), ((rowI plan).drop (0 + (Int.toNat (i : Int)) * 1)).take 1 = [.int .i64 e], PureF Try.prog (.clos 62 [] []) [.int .i64 e, .int .i64 0, .int .i64 ((se.turns.length : Int) - 1)] (.bool (within e 0 ((se.turns.length : Int) - 1))), (!(within e 0 ((se.turns.length : Int) - 1))) = false, InR .i64 ((i : Int) + 1)])
    (hg : G Try.prog E (f30K0 Try.prog) ⟨[J, .rsl (rowI plan) 0 plan.length, .ptr 0 0 0, J, J, J, .int .i64 ((i : Int) + 1), J, J, J, J, J, J, J, J, J, J, J, J, J, J, J, J, J, J, J, J, J, J, J, J, J, J, J, J, J, J, J, J, J, J, J, J, J, J, J, J, J, J, J], [⟨true, 0, 1, true, [.rsl (rowStg s.stages) 0 s.stages.length, .rsl (rowI s.worth) 0 s.worth.length, .int .i64 s.price], false⟩]⟩) : G Try.prog E (f30K0 Try.prog) (f30S0 s plan i ) :=
  segC_step (n := 400) (ds := []) (cs := []) (live := [1, 2, 6]) (m := 1) (evs := [.b true, .auto, .ld (.agg [.int .i64 se.kind, .int .i64 se.prize, .rsl (rowTrn se.turns) 0 se.turns.length]), .b true, .b true, .auto, .ld (.int .i64 e), .v (.bool (within e 0 ((se.turns.length : Int) - 1))), .b false, .stop]) (obs := _) hE.2.1 (hE.nogh _) mixed (by kernel_rfl) ho hg
theorem p30_0_2 (s : Stl) (plan : (List Int)) (i : Nat)  (se : Stg) (e : Int)  {E : Env} {res : AV} (hE : PureE Try.prog 30 res E) (ho : AllP [(decide ((i : Int) < (plan.length : Int))) = true, 0 ≤ (i : Int) ∧ (i : Int) < (s.stages.length : Int), ((rowStg s.stages).drop (0 + (Int.toNat (i : Int)) * 3)).take 3 = [.int .i64 se.kind, .int .i64 se.prize, .rsl (rowTrn se.turns) 0 se.turns.length], 3 ≤ 3, (se.kind == 2) = false, (se.kind == 3) = true, InR .i64 ((se.turns.length : Int) - 1), 0 ≤ (i : Int) ∧ (i : Int) < (plan.length : Int), ((rowI plan).drop (0 + (Int.toNat (i : Int)) * 1)).take 1 = [.int .i64 e], PureF Try.prog (.clos 62 [] []) [.int .i64 e, .int .i64 0, .int .i64 ((se.turns.length : Int) - 1)] (.bool (within e 0 ((se.turns.length : Int) - 1))), (!(within e 0 ((se.turns.length : Int) - 1))) = true])
    (hr : AvLe (.int .i64 1) res) : G Try.prog E (f30K0 Try.prog) (f30S0 s plan i ) :=
  end_stepL (n := 400) (evs := [.b true, .auto, .ld (.agg [.int .i64 se.kind, .int .i64 se.prize, .rsl (rowTrn se.turns) 0 se.turns.length]), .b false, .b true, .auto, .ld (.int .i64 e), .v (.bool (within e 0 ((se.turns.length : Int) - 1))), .b true]) (obs := _) hE Try.func30 mixed (by kernel_rfl) ho hr
theorem p30_0_3 (s : Stl) (plan : (List Int)) (i : Nat)  (se : Stg) (e : Int)  {E : Env} {rv : AV} (hE : PureE Try.prog 30 rv E) (ho : AllP [(decide ((i : Int) < (plan.length : Int))) = true, 0 ≤ (i : Int) ∧ (i : Int) < (s.stages.length : Int), ((rowStg s.stages).drop (0 + (Int.toNat (i : Int)) * 3)).take 3 = [.int .i64 se.kind, .int .i64 se.prize, .rsl (rowTrn se.turns) 0 se.turns.length], 3 ≤ 3, (se.kind == 2) = false, (se.kind == 3) = true, InR .i64 ((se.turns.length : Int) - 1), 0 ≤ (i : Int) ∧ (i : Int) < (plan.length : Int), ((rowI plan).drop (0 + (Int.toNat (i : Int)) * 1)).take 1 = [.int .i64 e], PureF Try.prog (.clos 62 [] []) [.int .i64 e, .int .i64 0, .int .i64 ((se.turns.length : Int) - 1)] (.bool (within e 0 ((se.turns.length : Int) - 1))), (!(within e 0 ((se.turns.length : Int) - 1))) = false, InR .i64 ((i : Int) + 1)])
    (hg : G Try.prog E (f30K0 Try.prog) ⟨[J, .rsl (rowI plan) 0 plan.length, .ptr 0 0 0, J, J, J, .int .i64 ((i : Int) + 1), J, J, J, J, J, J, J, J, J, J, J, J, J, J, J, J, J, J, J, J, J, J, J, J, J, J, J, J, J, J, J, J, J, J, J, J, J, J, J, J, J, J, J], [⟨true, 0, 1, true, [.rsl (rowStg s.stages) 0 s.stages.length, .rsl (rowI s.worth) 0 s.worth.length, .int .i64 s.price], false⟩]⟩) : G Try.prog E (f30K0 Try.prog) (f30S0 s plan i ) :=
  segC_step (n := 400) (ds := []) (cs := []) (live := [1, 2, 6]) (m := 1) (evs := [.b true, .auto, .ld (.agg [.int .i64 se.kind, .int .i64 se.prize, .rsl (rowTrn se.turns) 0 se.turns.length]), .b false, .b true, .auto, .ld (.int .i64 e), .v (.bool (within e 0 ((se.turns.length : Int) - 1))), .b false, .stop]) (obs := _) hE.2.1 (hE.nogh _) mixed (by kernel_rfl) ho hg
theorem p30_0_4 (s : Stl) (plan : (List Int)) (i : Nat)  (se : Stg) (e : Int)  {E : Env} {res : AV} (hE : PureE Try.prog 30 res E) (ho : AllP [(decide ((i : Int) < (plan.length : Int))) = true, 0 ≤ (i : Int) ∧ (i : Int) < (s.stages.length : Int), ((rowStg s.stages).drop (0 + (Int.toNat (i : Int)) * 3)).take 3 = [.int .i64 se.kind, .int .i64 se.prize, .rsl (rowTrn se.turns) 0 se.turns.length], 3 ≤ 3, (se.kind == 2) = false, (se.kind == 3) = false, 0 ≤ (i : Int) ∧ (i : Int) < (plan.length : Int), ((rowI plan).drop (0 + (Int.toNat (i : Int)) * 1)).take 1 = [.int .i64 e], PureF Try.prog (.clos 62 [] []) [.int .i64 e, .int .i64 0, .int .i64 0] (.bool (within e 0 0)), (!(within e 0 0)) = true])
    (hr : AvLe (.int .i64 1) res) : G Try.prog E (f30K0 Try.prog) (f30S0 s plan i ) :=
  end_stepL (n := 400) (evs := [.b true, .auto, .ld (.agg [.int .i64 se.kind, .int .i64 se.prize, .rsl (rowTrn se.turns) 0 se.turns.length]), .b false, .b false, .ld (.int .i64 e), .v (.bool (within e 0 0)), .b true]) (obs := _) hE Try.func30 mixed (by kernel_rfl) ho hr
theorem p30_0_5 (s : Stl) (plan : (List Int)) (i : Nat)  (se : Stg) (e : Int)  {E : Env} {rv : AV} (hE : PureE Try.prog 30 rv E) (ho : AllP [(decide ((i : Int) < (plan.length : Int))) = true, 0 ≤ (i : Int) ∧ (i : Int) < (s.stages.length : Int), ((rowStg s.stages).drop (0 + (Int.toNat (i : Int)) * 3)).take 3 = [.int .i64 se.kind, .int .i64 se.prize, .rsl (rowTrn se.turns) 0 se.turns.length], 3 ≤ 3, (se.kind == 2) = false, (se.kind == 3) = false, 0 ≤ (i : Int) ∧ (i : Int) < (plan.length : Int), ((rowI plan).drop (0 + (Int.toNat (i : Int)) * 1)).take 1 = [.int .i64 e], PureF Try.prog (.clos 62 [] []) [.int .i64 e, .int .i64 0, .int .i64 0] (.bool (within e 0 0)), (!(within e 0 0)) = false, InR .i64 ((i : Int) + 1)])
    (hg : G Try.prog E (f30K0 Try.prog) ⟨[J, .rsl (rowI plan) 0 plan.length, .ptr 0 0 0, J, J, J, .int .i64 ((i : Int) + 1), J, J, J, J, J, J, J, J, J, J, J, J, J, J, J, J, J, J, J, J, J, J, J, J, J, J, J, J, J, J, J, J, J, J, J, J, J, J, J, J, J, J, J], [⟨true, 0, 1, true, [.rsl (rowStg s.stages) 0 s.stages.length, .rsl (rowI s.worth) 0 s.worth.length, .int .i64 s.price], false⟩]⟩) : G Try.prog E (f30K0 Try.prog) (f30S0 s plan i ) :=
  segC_step (n := 400) (ds := []) (cs := []) (live := [1, 2, 6]) (m := 1) (evs := [.b true, .auto, .ld (.agg [.int .i64 se.kind, .int .i64 se.prize, .rsl (rowTrn se.turns) 0 se.turns.length]), .b false, .b false, .ld (.int .i64 e), .v (.bool (within e 0 0)), .b false, .stop]) (obs := _) hE.2.1 (hE.nogh _) mixed (by kernel_rfl) ho hg
theorem p30_0_6 (s : Stl) (plan : (List Int)) (i : Nat)   {E : Env} {res : AV} (hE : PureE Try.prog 30 res E) (ho : AllP [(decide ((i : Int) < (plan.length : Int))) = false])
    (hr : AvLe (.int .i64 0) res) : G Try.prog E (f30K0 Try.prog) (f30S0 s plan i ) :=
  end_stepL (n := 400) (evs := [.b false]) (obs := _) hE Try.func30 mixed (by kernel_rfl) ho hr
theorem f30W0 (s : Stl) (plan : (List Int)) (i : Nat) {E : Env} {rv : Int} (hE : PureE Try.prog 30 (.int .i64 rv) E)
    (h : (((i : Int) < (plan.length : Int) → (∃ se : Stg, s.stages[i]? = some se ∧ ((se.kind = 2 → ((-9223372036854775808 ≤ (se.turns.length : Int) - 1 ∧ (se.turns.length : Int) - 1 ≤ 9223372036854775807) ∧ (∃ e : Int, plan[i]? = some e ∧ (((within e 0 ((se.turns.length : Int) - 1)) = false → rv = 1) ∧ ((within e 0 ((se.turns.length : Int) - 1)) = true → ((-9223372036854775808 ≤ (i : Int) + 1 ∧ (i : Int) + 1 ≤ 9223372036854775807) ∧ f30G0 E s plan (i + 1))))))) ∧ (¬ (se.kind = 2) → ((se.kind = 3 → ((-9223372036854775808 ≤ (se.turns.length : Int) - 1 ∧ (se.turns.length : Int) - 1 ≤ 9223372036854775807) ∧ (∃ e : Int, plan[i]? = some e ∧ (((within e 0 ((se.turns.length : Int) - 1)) = false → rv = 1) ∧ ((within e 0 ((se.turns.length : Int) - 1)) = true → ((-9223372036854775808 ≤ (i : Int) + 1 ∧ (i : Int) + 1 ≤ 9223372036854775807) ∧ f30G0 E s plan (i + 1))))))) ∧ (¬ (se.kind = 3) → (∃ e : Int, plan[i]? = some e ∧ (((within e 0 0) = false → rv = 1) ∧ ((within e 0 0) = true → ((-9223372036854775808 ≤ (i : Int) + 1 ∧ (i : Int) + 1 ≤ 9223372036854775807) ∧ f30G0 E s plan (i + 1))))))))))) ∧ (¬ ((i : Int) < (plan.length : Int)) → rv = 0))) : f30G0 E s plan i := by
  rcases Bool.eq_false_or_eq_true (decide ((i : Int) < (plan.length : Int))) with hc0 | hc0
  · have h := h.1 (of_decide_eq_true hc0)
    obtain ⟨se, h1, h⟩ := h
    rcases Bool.eq_false_or_eq_true (se.kind == 2) with hc1 | hc1
    · have h := h.1 (eq_of_beq hc1)
      obtain ⟨q7_2, h⟩ := h
      obtain ⟨e, h2, h⟩ := h
      rcases Bool.eq_false_or_eq_true (!(within e 0 ((se.turns.length : Int) - 1))) with hc2 | hc2
      · have h := h.1 (bnT hc2)
        exact p30_0_0 s plan i  se e hE ⟨hc0, (idx_ok h1), (row_part cStg (s := 3) (k := 0) (m := 3) (fun _ => rfl) (by decide) h1), (by decide), hc1, rfl, q7_2, (idx_ok h2), (row_part cI (s := 1) (k := 0) (m := 1) (fun _ => rfl) (by decide) h2), (pureF_of Try.func62 (by kernel_rfl) f62b (withinR_ok e 0 ((se.turns.length : Int) - 1))), hc2, trivial⟩ (AvLe.of_eq (by rw [h]; try rfl))
      · have h := h.2 (bnF hc2)
        obtain ⟨q13_3, h⟩ := h
        exact p30_0_1 s plan i  se e hE ⟨hc0, (idx_ok h1), (row_part cStg (s := 3) (k := 0) (m := 3) (fun _ => rfl) (by decide) h1), (by decide), hc1, rfl, q7_2, (idx_ok h2), (row_part cI (s := 1) (k := 0) (m := 1) (fun _ => rfl) (by decide) h2), (pureF_of Try.func62 (by kernel_rfl) f62b (withinR_ok e 0 ((se.turns.length : Int) - 1))), hc2, q13_3, trivial⟩ h
    · have h := h.2 (ne_of_beq_false hc1)
      rcases Bool.eq_false_or_eq_true (se.kind == 3) with hc2 | hc2
      · have h := h.1 (eq_of_beq hc2)
        obtain ⟨q7_3, h⟩ := h
        obtain ⟨e, h2, h⟩ := h
        rcases Bool.eq_false_or_eq_true (!(within e 0 ((se.turns.length : Int) - 1))) with hc3 | hc3
        · have h := h.1 (bnT hc3)
          exact p30_0_2 s plan i  se e hE ⟨hc0, (idx_ok h1), (row_part cStg (s := 3) (k := 0) (m := 3) (fun _ => rfl) (by decide) h1), (by decide), hc1, hc2, q7_3, (idx_ok h2), (row_part cI (s := 1) (k := 0) (m := 1) (fun _ => rfl) (by decide) h2), (pureF_of Try.func62 (by kernel_rfl) f62b (withinR_ok e 0 ((se.turns.length : Int) - 1))), hc3, trivial⟩ (AvLe.of_eq (by rw [h]; try rfl))
        · have h := h.2 (bnF hc3)
          obtain ⟨q13_4, h⟩ := h
          exact p30_0_3 s plan i  se e hE ⟨hc0, (idx_ok h1), (row_part cStg (s := 3) (k := 0) (m := 3) (fun _ => rfl) (by decide) h1), (by decide), hc1, hc2, q7_3, (idx_ok h2), (row_part cI (s := 1) (k := 0) (m := 1) (fun _ => rfl) (by decide) h2), (pureF_of Try.func62 (by kernel_rfl) f62b (withinR_ok e 0 ((se.turns.length : Int) - 1))), hc3, q13_4, trivial⟩ h
      · have h := h.2 (ne_of_beq_false hc2)
        obtain ⟨e, h2, h⟩ := h
        rcases Bool.eq_false_or_eq_true (!(within e 0 0)) with hc3 | hc3
        · have h := h.1 (bnT hc3)
          exact p30_0_4 s plan i  se e hE ⟨hc0, (idx_ok h1), (row_part cStg (s := 3) (k := 0) (m := 3) (fun _ => rfl) (by decide) h1), (by decide), hc1, hc2, (idx_ok h2), (row_part cI (s := 1) (k := 0) (m := 1) (fun _ => rfl) (by decide) h2), (pureF_of Try.func62 (by kernel_rfl) f62b (withinR_ok e 0 0)), hc3, trivial⟩ (AvLe.of_eq (by rw [h]; try rfl))
        · have h := h.2 (bnF hc3)
          obtain ⟨q12_4, h⟩ := h
          exact p30_0_5 s plan i  se e hE ⟨hc0, (idx_ok h1), (row_part cStg (s := 3) (k := 0) (m := 3) (fun _ => rfl) (by decide) h1), (by decide), hc1, hc2, (idx_ok h2), (row_part cI (s := 1) (k := 0) (m := 1) (fun _ => rfl) (by decide) h2), (pureF_of Try.func62 (by kernel_rfl) f62b (withinR_ok e 0 0)), hc3, q12_4, trivial⟩ h
  · have h := h.2 (of_decide_eq_false hc0)
    exact p30_0_6 s plan i   hE ⟨hc0, trivial⟩ (AvLe.of_eq (by rw [h]; try rfl))
theorem planE_ok (s : Stl) (plan : List Int) (h : (s.stages.length ≤ 9223372036854775807 ∧ s.worth.length ≤ 9223372036854775807) ∧ plan.length ≤ 9223372036854775807) : Pure Try.prog 30 [avStl s, .rsl (rowI plan) 0 plan.length] (.int .i64 (planE s plan)) := pure_of Try.func30 f30b fun E hE => by
  refine f30W s plan (rv := planE s plan) hE ⟨h.1, fun h0 => ?_, fun h0 => ⟨fun h1 => ?_, fun h1 => ?_⟩⟩
  · rw [planE, if_neg h0, checkK_no h0]
  · rw [planE, if_pos h0, if_neg]
    simp only [planOk, Bool.and_eq_true, decide_eq_true_eq]
    intro hh; omega
  have hl : plan.length = s.stages.length := by omega
  have ⟨hm, es⟩ := mok_G (isSome_of h0)
  have hform := (stPre_of hm.st).2.2.2.2
  rw [es] at hform
  have key : ∀ (d i : Nat), i + d = plan.length → (∀ j, j < i → within (plan.getD j 0) 0 (planMost (s.stages.getD j ⟨0, 0, []⟩)) = true) → f30G0 E s plan i := by
    intro d
    induction d with
    | zero =>
      intro i hd hall
      refine f30W0 s plan i (rv := planE s plan) hE ⟨fun h => by omega, fun _ => ?_⟩
      rw [planE, if_pos h0, if_pos]
      simp only [planOk, hl, decide_true, Bool.true_and]
      exact List.all_eq_true.2 fun j hj => hall j (by have := List.mem_range.1 hj; omega)
    | succ d ih =>
      intro i hd hall
      have hi : s.stages[i]? = some s.stages[i] := List.getElem?_eq_getElem (by omega)
      have hx : s.stages.getD i ⟨0, 0, []⟩ = s.stages[i] := by simp [List.getD, hi]
      have hv : plan[i]? = some (plan.getD i 0) := getD_some (by omega)
      have ht : s.stages[i].turns.length ≤ 8 := by
        rcases form_of hi (hform i (by omega)) with ⟨-, h, -⟩ | ⟨-, -, h, -⟩
        · rw [h]; simp
        · exact h.2
      have nx := ih (i + 1) (by omega)
      have no : within (plan.getD i 0) 0 (planMost (s.stages.getD i ⟨0, 0, []⟩)) = false → planE s plan = 1 := fun h => by
        rw [planE, if_pos h0, if_neg]
        simp only [planOk, hl, decide_true, Bool.true_and, Bool.not_eq_true]
        exact range_all (by omega) h
      have yes : within (plan.getD i 0) 0 (planMost (s.stages.getD i ⟨0, 0, []⟩)) = true → f30G0 E s plan (i + 1) := fun h => nx fun j hj => by
        rcases Nat.lt_or_ge j i with h1 | h1
        · exact hall j h1
        · rw [show j = i by omega]; exact h
      rw [hx] at no yes
      generalize s.stages[i] = x at hi no yes ht
      refine f30W0 s plan i (rv := planE s plan) hE ⟨fun _ => ⟨x, hi, fun h2 => ⟨by omega, _, hv, fun h => no ?_, fun h => ⟨by omega, yes ?_⟩⟩, fun h2 => ⟨fun h3 => ⟨by omega, _, hv, fun h => no ?_, fun h => ⟨by omega, yes ?_⟩⟩, fun h3 => ⟨_, hv, fun h => no ?_, fun h => ⟨by omega, yes ?_⟩⟩⟩⟩, fun h => by omega⟩
      · rw [planMost, if_pos (.inl h2)]; exact h
      · rw [planMost, if_pos (.inl h2)]; exact h
      · rw [planMost, if_pos (.inr h3)]; exact h
      · rw [planMost, if_pos (.inr h3)]; exact h
      · rw [planMost, if_neg (by omega)]; exact h
      · rw [planMost, if_neg (by omega)]; exact h
  exact key plan.length 0 (by omega) (fun j hj => by omega)
end Go.Proofs.Ytfgmlaeikcfpbaa

namespace Go.Proofs.Ytfgmlaeikcfpbaa
open Go Ax
open Go.Proofs

structure Rul where
  tickets : Int
  wins : Int
  n : Int
  need : Int
  hit : Int
  miss : Int
structure Sup where
  kind : Int
  stock : Int
  plays : Int
def cSup (a : Sup) : List AV := [.int .i64 a.kind, .int .i64 a.stock, .int .i64 a.plays]
structure Hnd where
  plan : List Int
  draws : List Int
/-! ### Fractions -/
theorem frac_parts {v u : Int} (hu : 0 < u) : ∃ g, 0 < g ∧ v = g * (fracI v u).num ∧ u = g * (fracI v u).den ∧ 0 < (fracI v u).den := by
  have hM : 0 ≤ iMax v (0 - v) := by unfold iMax; split <;> omega
  have hM2 : iMax v (0 - v) = v ∨ iMax v (0 - v) = -v := by unfold iMax; split <;> omega
  have hg1 : 1 ≤ iMax (gcdI (iMax v (0 - v)) u) 1 := iMax_pos
  have hgp : 0 < gcdI (iMax v (0 - v)) u := by rw [gcdI_comm hM (by omega)]; exact gcd_pos hu hM
  have hge : iMax (gcdI (iMax v (0 - v)) u) 1 = gcdI (iMax v (0 - v)) u := by
    generalize gcdI (iMax v (0 - v)) u = c at hgp
    unfold iMax; split <;> omega
  obtain ⟨d1, d2⟩ := gcd_dvd hM (show 0 ≤ u by omega)
  have d3 : gcdI (iMax v (0 - v)) u ∣ v := by
    generalize gcdI (iMax v (0 - v)) u = c at d1
    rcases hM2 with h | h
    · rw [h] at d1; exact d1
    · rw [h] at d1; exact Int.dvd_neg.1 d1
  unfold fracI
  rw [hge]
  generalize gcdI (iMax v (0 - v)) u = c at hgp d2 d3
  have e2 : c * Int.tdiv u c = u := Int.mul_tdiv_cancel' d2
  have e3 : c * Int.tdiv v c = v := Int.mul_tdiv_cancel' d3
  refine ⟨c, hgp, e3.symm, e2.symm, ?_⟩
  show 0 < Int.tdiv u c
  rcases Int.lt_or_le 0 (Int.tdiv u c) with h | h
  · exact h
  · have := Int.mul_le_mul_of_nonneg_left h (show 0 ≤ c by omega)
    rw [e2] at this; omega
theorem frac_scale {g a b : Int} (hg : 0 < g) (hb : 0 < b) : fracI (g * a) (g * b) = fracI a b := by
  have hM : 0 ≤ iMax a (0 - a) := by unfold iMax; split <;> omega
  have e1 : iMax (g * a) (0 - g * a) = g * iMax a (0 - a) := by
    have hn : 0 - g * a = g * (0 - a) := by rw [Int.mul_sub]; omega
    rw [hn]
    unfold iMax
    by_cases h : 0 - a > a
    · rw [if_pos h, if_pos (Int.mul_lt_mul_of_pos_left h hg)]
    · rw [if_neg h, if_neg (by have := Int.mul_le_mul_of_nonneg_left (show 0 - a ≤ a by omega) (show 0 ≤ g by omega); omega)]
  have hgM := Int.mul_nonneg (show 0 ≤ g by omega) hM
  have hgb := Int.mul_pos hg hb
  have e2 : gcdI (g * iMax a (0 - a)) (g * b) = g * gcdI (iMax a (0 - a)) b := by
    rw [gcdI_int hgM (by omega), gcdI_int hM (by omega), Int.gcd_mul_left]
    rw [Int.natCast_mul, Int.natAbs_of_nonneg (by omega)]
  have hgp : 0 < gcdI (iMax a (0 - a)) b := by rw [gcdI_comm hM (by omega)]; exact gcd_pos hb hM
  have e3 : iMax (g * gcdI (iMax a (0 - a)) b) 1 = g * iMax (gcdI (iMax a (0 - a)) b) 1 := by
    generalize gcdI (iMax a (0 - a)) b = c at hgp
    have := Int.mul_pos hg hgp
    have h1 : iMax c 1 = c := by unfold iMax; split <;> omega
    rw [h1]
    generalize g * c = q at this
    unfold iMax; split <;> omega
  unfold fracI
  rw [e1, e2, e3, Int.mul_tdiv_mul_of_pos _ _ hg, Int.mul_tdiv_mul_of_pos _ _ hg]
theorem frac_cross {v u : Int} (hu : 0 < u) : v * (fracI v u).den = (fracI v u).num * u := by
  obtain ⟨g, hg, e1, e2, e3⟩ := frac_parts (v := v) hu
  generalize (fracI v u).num = n at *
  generalize (fracI v u).den = d at *
  rw [e1, e2, Int.mul_comm n (g * d), Int.mul_assoc, Int.mul_assoc, Int.mul_comm n d]
theorem frac_bd {v u B : Int} (hv : -B ≤ v ∧ v ≤ B) (hu : 0 < u) : (-B ≤ (fracI v u).num ∧ (fracI v u).num ≤ B) ∧ 0 < (fracI v u).den ∧ (fracI v u).den ≤ u := by
  obtain ⟨g, hg, -, -, e3⟩ := frac_parts (v := v) hu
  exact ⟨tdiv_bd iMax_pos hv.1 hv.2, e3, (tdiv_bd (n := u) (B := u) iMax_pos (by omega) (by omega)).2⟩
theorem frac_nonneg {v u : Int} (hv : 0 ≤ v) (hu : 0 < u) : 0 ≤ (fracI v u).num := by
  obtain ⟨g, hg, e1, -, -⟩ := frac_parts (v := v) hu
  rcases Int.lt_or_le (fracI v u).num 0 with h | h
  · have := Int.mul_neg_of_pos_of_neg hg h; omega
  · exact h

/-! ### Planned -/
def planL (s : Stl) (plan : List Int) (n : Nat) : List Fr := (List.range n).map fun (k : Nat) => firstI (machG s) (onlyI (k : Int)) (fun i _ => planI plan i)
theorem planL_snoc {s : Stl} {plan : List Int} {n : Nat} : planL s plan (n + 1) = planL s plan n ++ [firstI (machG s) (onlyI (n : Int)) (fun i _ => planI plan i)] := by
  rw [planL, List.range_succ, List.map_append]; rfl
theorem planL_len {s : Stl} {plan : List Int} {n : Nat} : (planL s plan n).length = n := by simp [planL]
def plannedK (s : Stl) (plan : List Int) : List Fr × Int := if planE s plan = 0 then (planL s plan s.worth.length, 0) else ([], planE s plan)
def meas0I (s : Stl) : Int := (machG s).meas.getD 0 0
theorem dSup (W : World) : Dec Try.prog W 69 Sup cSup (fun a => True) := by
  refine Dec.map (dec_struct Try.underlying69 rfl (tot := 3) (by kernel_rfl) (decFs_cons (n := 1) (tot := 3) (by kernel_rfl) rfl (dec_i64 Try.underlying3) (decFs_cons (n := 1) (tot := 3) (by kernel_rfl) rfl (dec_i64 Try.underlying3) (decFs_cons (n := 1) (tot := 3) (by kernel_rfl) rfl (dec_i64 Try.underlying3) decFs_nil (by decide)) (by decide)) (by decide))) (fun x => (⟨x.1, x.2.1, x.2.2.1⟩ : Sup)) ?_ ?_
  · exact fun _ => rfl
  · exact fun _ _ => trivial
theorem f41b : Try.f41.body = some (bodyAt Try.prog 41) := by kernel_rfl
def f41K0 (P : Program) : List Item := kAt 400 [.code (bodyAt P 41)] [.b false, .stop]
def f41S0 (s : Stl) (plan : (List Int)) (kind : Nat) (v1 : List Fr) (g1 : Nat) : St := ⟨[J, .rsl (rowI plan) 0 plan.length, .ptr 0 0 0, J, J, J, J, .sl 1 g1 0 v1.length 2, .int .i64 (kind : Int), J, J, J, J, J, J, J, J, J, J, J, J, J, J, J, J, J, J, J, J, J, J, J, J, J, J, J], [⟨true, 0, 1, true, [.rsl (rowStg s.stages) 0 s.stages.length, .rsl (rowI s.worth) 0 s.worth.length, .int .i64 s.price], false⟩, ⟨true, g1, 2, true, (rowFr v1), true⟩]⟩
def f41G0 (E : Env) (s : Stl) (plan : (List Int)) (kind : Nat) (v1 : List Fr) : Prop := ∀ g1 : Nat, G Try.prog E (f41K0 Try.prog) (f41S0 s plan kind v1 g1)
theorem p41_start_0 (s : Stl) (plan : (List Int))   {E : Env} {res : AV} (hE : PureE Try.prog 41 res E) (ho : AllP [PureF Try.prog (.clos 30 [] []) [.agg [.rsl (rowStg s.stages) 0 s.stages.length, .rsl (rowI s.worth) 0 s.worth.length, .int .i64 s.price], .rsl (rowI plan) 0 plan.length] (.int .i64 (planE s plan)), ((planE s plan) != 0) = true])
    (hr : AvLe (.tup [.nilSl, .int .i64 (planE s plan)]) res) : G Try.prog E [.code (bodyAt Try.prog 41)] ⟨[.agg [.rsl (rowStg s.stages) 0 s.stages.length, .rsl (rowI s.worth) 0 s.worth.length, .int .i64 s.price], .rsl (rowI plan) 0 plan.length] ++ unds (Try.f41.ntmps - 2), []⟩ :=
  end_stepL (n := 400) (evs := [.v (.int .i64 (planE s plan)), .b true]) (obs := _) hE Try.func41 mixed (by kernel_rfl) ho hr
theorem p41_start_1 (s : Stl) (plan : (List Int))   {E : Env} {rv : AV} (hE : PureE Try.prog 41 rv E) (ho : AllP [PureF Try.prog (.clos 30 [] []) [.agg [.rsl (rowStg s.stages) 0 s.stages.length, .rsl (rowI s.worth) 0 s.worth.length, .int .i64 s.price], .rsl (rowI plan) 0 plan.length] (.int .i64 (planE s plan)), ((planE s plan) != 0) = false])
    (hg : G Try.prog E (f41K0 Try.prog) ⟨[J, .rsl (rowI plan) 0 plan.length, .ptr 0 0 0, J, J, J, J, .sl 1 0 0 0 2, .int .i64 0, J, J, J, J, J, J, J, J, J, J, J, J, J, J, J, J, J, J, J, J, J, J, J, J, J, J, J], [⟨true, 0, 1, true, [.rsl (rowStg s.stages) 0 s.stages.length, .rsl (rowI s.worth) 0 s.worth.length, .int .i64 s.price], false⟩, ⟨true, 0, 2, true, [], true⟩]⟩) : G Try.prog E [.code (bodyAt Try.prog 41)] ⟨[.agg [.rsl (rowStg s.stages) 0 s.stages.length, .rsl (rowI s.worth) 0 s.worth.length, .int .i64 s.price], .rsl (rowI plan) 0 plan.length] ++ unds (Try.f41.ntmps - 2), []⟩ :=
  segC_step (n := 400) (ds := [(7, 2)]) (cs := []) (live := [1, 2, 7, 8]) (m := 2) (evs := [.v (.int .i64 (planE s plan)), .b false, .stop]) (obs := _) hE.2.1 (hE.nogh _) mixed (by kernel_rfl) ho hg
theorem f41W (s : Stl) (plan : (List Int)) {E : Env} {rv : ((List Fr) × Int)} (hE : PureE Try.prog 41 (.tup [.rsl (rowFr rv.1) 0 rv.1.length, .int .i64 rv.2]) E)
    (h : (((s.stages.length ≤ 9223372036854775807 ∧ s.worth.length ≤ 9223372036854775807) ∧ plan.length ≤ 9223372036854775807) ∧ ((¬ ((planE s plan) = 0) → rv = (([] : List Fr), (planE s plan))) ∧ ((planE s plan) = 0 → f41G0 E s plan 0 ([]))))) : G Try.prog E [.code (bodyAt Try.prog 41)] ⟨[.agg [.rsl (rowStg s.stages) 0 s.stages.length, .rsl (rowI s.worth) 0 s.worth.length, .int .i64 s.price], .rsl (rowI plan) 0 plan.length] ++ unds (Try.f41.ntmps - 2), []⟩ := by
  obtain ⟨h1, h⟩ := h
  rcases Bool.eq_false_or_eq_true ((planE s plan) != 0) with hc0 | hc0
  · have h := h.1 (bneT hc0)
    exact p41_start_0 s plan    hE ⟨(pureF_of Try.func30 (by kernel_rfl) f30b (planE_ok s plan h1)), hc0, trivial⟩ (by rw [h]; exact (tup_le ⟨nil_le, ⟨AvLe.of_eq rfl, trivial⟩⟩))
  · have h := h.2 (bneF hc0)
    exact p41_start_1 s plan    hE ⟨(pureF_of Try.func30 (by kernel_rfl) f30b (planE_ok s plan h1)), hc0, trivial⟩ (h 0)
theorem p41_0_0 (s : Stl) (plan : (List Int)) (kind : Nat) (v1 : List Fr) (g1 : Nat) (e : Int)  {E : Env} {rv : AV} (hE : PureE Try.prog 41 rv E) (ho : AllP [(decide ((kind : Int) < (s.worth.length : Int))) = true, PureF Try.prog (.clos 81 [] []) [.agg [.rsl (rowStg s.stages) 0 s.stages.length, .rsl (rowI s.worth) 0 s.worth.length, .int .i64 s.price], .int .i64 (kind : Int)] (.rsl (rowI (endsI s (onlyI (kind : Int)))) 0 ((endsI s (onlyI (kind : Int))).length)), PureF Try.prog (.clos 80 [] []) [.agg [.rsl (rowStg s.stages) 0 s.stages.length, .rsl (rowI s.worth) 0 s.worth.length, .int .i64 s.price], .rsl (rowI (endsI s (onlyI (kind : Int)))) 0 ((endsI s (onlyI (kind : Int))).length), .int .i64 0, .int .i64 0, .rsl (rowI plan) 0 plan.length] (.rsl (rowI (valuesP s (onlyI (kind : Int)) plan)) 0 ((valuesP s (onlyI (kind : Int)) plan).length)), (0 : Int) ≤ 0 ∧ (0 : Int) < (((valuesP s (onlyI (kind : Int)) plan).length : Nat) : Int), ((rowI (valuesP s (onlyI (kind : Int)) plan)).drop (0 + 0 * 1)).take 1 = [.int .i64 e], PureF Try.prog (.clos 79 [] []) [.agg [.rsl (rowStg s.stages) 0 s.stages.length, .rsl (rowI s.worth) 0 s.worth.length, .int .i64 s.price], .int .i64 e] (.agg [.int .i64 ((fracI e ((machG s).meas.getD 0 0)).num), .int .i64 ((fracI e ((machG s).meas.getD 0 0)).den)]), g1 = g1, (0 + (v1.length * 2)) = (rowFr v1).length, (v1.length + 1) ≤ 2147483648, 0 = 0, InR .i64 ((kind : Int) + 1)])
    (hg : G Try.prog E (f41K0 Try.prog) ⟨[J, .rsl (rowI plan) 0 plan.length, .ptr 0 0 0, J, J, J, J, .sl 1 (g1 + 1) 0 (v1.length + 1) 2, .int .i64 ((kind : Int) + 1), J, J, J, J, J, J, J, J, J, J, J, J, J, J, J, J, J, J, J, J, J, J, J, J, J, J, J], [⟨true, 0, 1, true, [.rsl (rowStg s.stages) 0 s.stages.length, .rsl (rowI s.worth) 0 s.worth.length, .int .i64 s.price], false⟩, ⟨true, (g1 + 1), 2, true, ((rowFr v1) ++ [.int .i64 ((fracI e ((machG s).meas.getD 0 0)).num), .int .i64 ((fracI e ((machG s).meas.getD 0 0)).den)]), true⟩]⟩) : G Try.prog E (f41K0 Try.prog) (f41S0 s plan kind v1 g1) :=
  segC_step (n := 400) (ds := []) (cs := []) (live := [1, 2, 7, 8]) (m := 2) (evs := [.b true, .v (.rsl (rowI (endsI s (onlyI (kind : Int)))) 0 ((endsI s (onlyI (kind : Int))).length)), .v (.rsl (rowI (valuesP s (onlyI (kind : Int)) plan)) 0 ((valuesP s (onlyI (kind : Int)) plan).length)), .ld (.int .i64 e), .v (.agg [.int .i64 ((fracI e ((machG s).meas.getD 0 0)).num), .int .i64 ((fracI e ((machG s).meas.getD 0 0)).den)]), .stop]) (obs := _) hE.2.1 (hE.nogh _) mixed (by kernel_rfl) ho hg
theorem p41_0_1 (s : Stl) (plan : (List Int)) (kind : Nat) (v1 : List Fr) (g1 : Nat)  {E : Env} {res : AV} (hE : PureE Try.prog 41 res E) (ho : AllP [(decide ((kind : Int) < (s.worth.length : Int))) = false, g1 = g1])
    (hr : AvLe (.tup [.rsl (rowFr v1) 0 v1.length, .int .i64 0]) res) : G Try.prog E (f41K0 Try.prog) (f41S0 s plan kind v1 g1) :=
  end_stepL (n := 400) (evs := [.b false]) (obs := _) hE Try.func41 mixed (by kernel_rfl) ho hr
theorem f41W0 (s : Stl) (plan : (List Int)) (kind : Nat) (v1 : List Fr) {E : Env} {rv : ((List Fr) × Int)} (hE : PureE Try.prog 41 (.tup [.rsl (rowFr rv.1) 0 rv.1.length, .int .i64 rv.2]) E)
    (h : (((kind : Int) < (s.worth.length : Int) → ((checkK s = 0 ∧ 0 ≤ (kind : Int)) ∧ ((checkK s = 0 ∧ planOk s plan = true) ∧ (∃ e : Int, (valuesP s (onlyI (kind : Int)) plan)[0]? = some e ∧ ((checkK s = 0 ∧ -100000000000000000 ≤ e ∧ e ≤ 100000000000000000) ∧ ((v1.length + 1) ≤ 2147483648 ∧ ((-9223372036854775808 ≤ (kind : Int) + 1 ∧ (kind : Int) + 1 ≤ 9223372036854775807) ∧ f41G0 E s plan (kind + 1) (v1 ++ [(fracI e ((machG s).meas.getD 0 0))])))))))) ∧ (¬ ((kind : Int) < (s.worth.length : Int)) → rv = (v1, 0)))) : f41G0 E s plan kind v1 := by
  intro g1
  rcases Bool.eq_false_or_eq_true (decide ((kind : Int) < (s.worth.length : Int))) with hc0 | hc0
  · have h := h.1 (of_decide_eq_true hc0)
    obtain ⟨h1, h⟩ := h
    obtain ⟨h2, h⟩ := h
    obtain ⟨e, h3, h⟩ := h
    obtain ⟨h4, h⟩ := h
    obtain ⟨h5, h⟩ := h
    obtain ⟨q11_1, h⟩ := h
    refine p41_0_0 s plan kind v1 g1 e hE ⟨hc0, (pureF_of Try.func81 (by kernel_rfl) f81b (won_ok s (kind : Int) h1)), (pureF_of Try.func80 (by kernel_rfl) f80pb (valuesPO_ok s (kind : Int) 0 0 plan h2)), (idx_ok h3), (row_part cI (s := 1) (k := 0) (m := 1) (fun _ => rfl) (by decide) h3), (pureF_of Try.func79 (by kernel_rfl) f79b (lowest_ok s e h4)), rfl, (by have hx := row_len cFr (s := 2) (fun _ => rfl) v1; simp only [rowFr] at hx ⊢; rw [hx]; simp), h5, rfl, q11_1, trivial⟩ ?_
    rw [(show rowFr v1 ++ [.int .i64 ((fracI e ((machG s).meas.getD 0 0)).num), .int .i64 ((fracI e ((machG s).meas.getD 0 0)).den)] = rowFr (v1 ++ [(fracI e ((machG s).meas.getD 0 0))]) from (row_app cFr v1 [(fracI e ((machG s).meas.getD 0 0))]).symm)]; rw [(show (v1.length + 1) = (v1 ++ [(fracI e ((machG s).meas.getD 0 0))]).length from by simp)]; exact (h (g1 + 1))
  · have h := h.2 (of_decide_eq_false hc0)
    exact p41_0_1 s plan kind v1 g1  hE ⟨hc0, rfl, trivial⟩ (AvLe.of_eq (by rw [h]; try rfl))
theorem planE_eq {s : Stl} {plan : List Int} (h : (machI s).isSome = true) : planE s plan = if planOk (machG s).s plan = true then 0 else 1 := by
  rw [planE, if_pos (isSome_iff.1 h), (mok_G h).2]
theorem plannedR_ok (s : Stl) (plan : List Int) (h : (s.stages.length ≤ 9223372036854775807 ∧ s.worth.length ≤ 9223372036854775807) ∧ plan.length ≤ 9223372036854775807) : Pure Try.prog 41 [avStl s, .rsl (rowI plan) 0 plan.length] (.tup [.rsl (rowFr (plannedK s plan).1) 0 (plannedK s plan).1.length, .int .i64 (plannedK s plan).2]) := pure_of Try.func41 f41b fun E hE => by
  refine f41W s plan (rv := plannedK s plan) hE ⟨h, fun h0 => by rw [plannedK, if_neg h0], fun he => ?_⟩
  obtain ⟨h0, h1⟩ := planE_of he
  obtain ⟨hm, es⟩ := mok_G (isSome_of h0)
  have hw := (stPre_of hm.st).2.1
  rw [es] at hw
  have key : ∀ (d i : Nat), i + d = s.worth.length → f41G0 E s plan i (planL s plan i) := by
    intro d
    induction d with
    | zero =>
      intro i hd
      refine f41W0 s plan i _ (rv := plannedK s plan) hE ⟨fun h => by omega, fun _ => ?_⟩
      rw [plannedK, if_pos he, show i = s.worth.length by omega]
    | succ d ih =>
      intro i hd
      obtain ⟨v, hv, hb⟩ := val0 hm (w := onlyI (i : Int)) (ch := fun i _ => planI plan i) (wok_plan (by rw [es]; exact h1))
      refine f41W0 s plan i _ (rv := plannedK s plan) hE ⟨fun _ => ⟨⟨h0, by omega⟩, ⟨h0, h1⟩, v, hv, ⟨h0, hb⟩, by rw [planL_len]; omega, by omega, ?_⟩, fun h => by omega⟩
      have := ih (i + 1) (by omega)
      rw [planL_snoc, firstI, getD_of hv] at this; exact this
  exact key s.worth.length 0 (by omega)
end Go.Proofs.Ytfgmlaeikcfpbaa

namespace Go.Proofs.Ytfgmlaeikcfpbaa
open Go Ax
open Go.Proofs

structure Fr2 where
  lo : Fr
  hi : Fr
theorem worth_len {s : Stl} (h : checkK s = 0) : s.worth.length ≤ 8 := by
  obtain ⟨hm, es⟩ := mok_G (isSome_of h)
  have := (stPre_of hm.st).2.1
  rw [es] at this; exact this
end Go.Proofs.Ytfgmlaeikcfpbaa

namespace Ax
open Go

theorem take_le {row : List AV} {k len : Nat} : AvLe (.rsl row 0 len) (.rsl (row.take k) 0 len) := fun Z w c h => by
  cases h with
  | @rsl _ _ _ _ cap blk o cv hz hl hc hk hr =>
    refine .rsl cv hz hl (fun i hi => ?_) (fun i c hi => ?_) (fun i c hi => ?_)
    · rw [List.length_take] at hi; exact hc i (by omega)
    · rw [List.getElem?_take] at hi; split at hi
      · exact hk i c hi
      · cases hi
    · rw [List.getElem?_take] at hi; split at hi
      · exact hr i c hi
      · cases hi
  | rsl0 => exact .rsl0

theorem flat_take {α : Type} (c : α → List AV) {s : Nat} (hs : ∀ x, (c x).length = s) : ∀ {l : List α} {k : Nat}, (l.flatMap c).take (k * s) = (l.take k).flatMap c
  | [], k => by simp
  | x :: l, 0 => by simp
  | x :: l, k + 1 => by
    have := flat_take c hs (l := l) (k := k)
    rw [List.flatMap_cons, List.take_succ_cons, List.flatMap_cons, ← this, List.take_append, hs x, List.take_of_length_le (by rw [hs x, Nat.add_mul]; omega)]
    congr 2
    rw [Nat.add_mul]; omega

theorem rsl_take {α : Type} (c : α → List AV) {s : Nat} (hs : ∀ x, (c x).length = s) {l : List α} {len : Nat} (hl : len ≤ l.length) :
    AvLe (.rsl (l.flatMap c) 0 len) (.rsl ((l.take len).flatMap c) 0 (l.take len).length) := by
  rw [← flat_take c hs, List.length_take, Nat.min_eq_left hl]; exact take_le

section
variable {P : Program} {E : Env} {K : List Item} {st : St}

theorem weakT_step {t : Nat} {v v' : AV} (ht : st.tmps[t]? = some v) (hn : noRef v = true) (hn' : noRef v' = true) (hle : AvLe v v') (hg : G P E K ⟨st.tmps.set t v', st.blks⟩) : G P E K st := by
  intro C Z a w hr
  have hlt : t < st.tmps.length := (List.getElem?_eq_some_iff.1 ht).1
  refine hg C Z a w ⟨⟨by rw [List.length_set]; exact hr.tmp.1, fun i c x hi hx => ?_⟩, hr.mem, hr.marks, hr.gh, hr.base⟩
  by_cases e : t = i
  · subst e
    rw [List.getElem?_set_self hlt] at hi
    cases hi
    exact ((hle _ _ _ ((hr.tmp.2 t v x ht hx).ctx hn))).ctx hn'
  · rw [List.getElem?_set_ne e] at hi
    exact hr.tmp.2 i c x hi hx
end
end Ax

namespace Go.Proofs.Ytfgmlaeikcfpbaa
open Go Ax
open Go.Proofs

/-! ### What a stage is worth at most -/
theorem val_le {m : Mch} (hm : MOk m) {w : Int → Int} {ch : Int → List Int → Int} (hw : WOk m w ch) {B : Int} (hB0 : 0 ≤ B) (hB : ∀ n : Int, 0 ≤ n → n ≤ (m.s.worth.length : Int) - 1 → w n ≤ B) :
    ∀ (d j : Nat) (u : Int), m.s.stages.length ≤ j + d → m.meas[j]? = some u → (valA m w ch).1.getD j 0 ≤ B * u := by
  intro d
  have hfx := (vfixA hm hw).fx
  have hform := (stPre_of hm.st).2.2.2.2
  induction d with
  | zero =>
    intro j u hd hu
    have := (List.getElem?_eq_some_iff.1 hu).1
    rw [hm.inv.l1] at this; omega
  | succ d ih =>
    intro j u hd hu
    have hlt := (List.getElem?_eq_some_iff.1 hu).1
    rw [hm.inv.l1] at hlt
    have hi : m.s.stages[j]? = some m.s.stages[j] := List.getElem?_eq_getElem hlt
    have hfo := form_of hi (hform j hlt)
    have htt := tot_of hi (hform j hlt)
    have hf := hfx j _ (by omega) hi
    have hft := fun (k : Nat) (t : Trn) hk => fin_turn hm hw hi (k := k) (t := t) hk
    have hup := hm.inv.pos j u (by omega) hu
    obtain ⟨q, q1, q2, q3, q4⟩ := hm.inv.rel j _ (by omega) hi
    have hl2 : (nextI m j (valA m w ch).1 m.s.stages[j].turns).length = m.s.stages[j].turns.length := by simp [nextI]
    generalize m.s.stages[j] = x at hi hfo htt hf hft q2 q4 hl2
    have hall : ∀ e ∈ nextI m j (valA m w ch).1 x.turns, 0 ≤ e ∧ e ≤ B * q := by
      intro e he
      obtain ⟨k, hk⟩ := List.getElem?_of_mem he
      have hkl := (List.getElem?_eq_some_iff.1 hk).1
      have hkt : x.turns[k]? = some (x.turns[k]'(by omega)) := List.getElem?_eq_getElem (by omega)
      obtain ⟨q', u', v, t1, t2, t3, t4, t5, t6, t7, t8, t9, t10, t11, t12, t13, t14, t15⟩ := hft k _ hkt
      rw [q1] at t1; cases t1
      rw [hk] at t4; cases t4
      refine ⟨t14, ?_⟩
      have h1 := ih _ u' (by omega) t2
      rw [getD_of t3] at h1
      have h2 := Int.mul_le_mul_of_nonneg_right h1 t11
      rw [Int.mul_assoc, Int.mul_comm u', t10] at h2
      exact h2
    by_cases h4 : x.kind = 4
    · rw [(hf.1 h4).1]
      have hBu : B ≤ B * u := by
        have := Int.mul_le_mul_of_nonneg_left (show (1 : Int) ≤ u by omega) hB0
        omega
      split
      · rename_i hp
        have := hB x.prize hp (by rcases hfo with ⟨-, -, h⟩ | ⟨h, -⟩ <;> omega)
        omega
      · omega
    · by_cases h1 : x.kind = 1
      · rw [(hf.2.1 h1).1]
        rw [hu, if_pos h1] at q2; cases q2
        have := (sumW_bd hall (fun t ht => (htt.1.2 t ht).1) (by rw [hl2])).2
        rw [Int.mul_assoc] at this
        exact this
      · obtain ⟨f1, f2⟩ := hf.2.2 h4 h1
        rw [hu, if_neg h1] at q2; cases q2
        rw [f1]
        have hlen : 0 < (nextI m j (valA m w ch).1 x.turns).length := by
          rcases hfo with ⟨h, -⟩ | ⟨-, -, h, -⟩
          · exact absurd h h4
          · omega
        have hc := hw.c1 j x _ hi h4 h1 hl2 hlen
        rw [← f2] at hc
        exact (hall _ (List.mem_of_getElem? (getD_some hc.2))).2

/-- The odds of a kind are at most 1. -/
theorem odds_one {m : Mch} (hm : MOk m) {kd : Int} {ch : Int → List Int → Int} (hw : WOk m (onlyI kd) ch) {u : Int} (hu : m.meas[0]? = some u) : 0 ≤ (valA m (onlyI kd) ch).1.getD 0 0 ∧ (valA m (onlyI kd) ch).1.getD 0 0 ≤ u := by
  have h1 := val_le hm hw (B := 1) (by omega) (fun n _ _ => by unfold onlyI; split <;> omega) m.s.stages.length 0 u (by omega) hu
  have h2 := (val_okA hm hw).hi 0 u (by omega) hu
  omega
theorem first_one {m : Mch} (hm : MOk m) {kd : Int} {ch : Int → List Int → Int} (hw : WOk m (onlyI kd) ch) : 0 ≤ (firstI m (onlyI kd) ch).num ∧ (firstI m (onlyI kd) ch).num ≤ (firstI m (onlyI kd) ch).den ∧ 0 < (firstI m (onlyI kd) ch).den ∧ (firstI m (onlyI kd) ch).den ≤ 1000000000000 := by
  obtain ⟨u, hu, hu1, hu2⟩ := meas0 hm
  have h := odds_one hm hw hu
  have hb := frac_bd (v := (valA m (onlyI kd) ch).1.getD 0 0) (u := u) (B := u) (by omega) hu1
  have hn := frac_nonneg h.1 hu1
  obtain ⟨g, hg, e1, e2, e3⟩ := frac_parts (v := (valA m (onlyI kd) ch).1.getD 0 0) hu1
  unfold firstI
  rw [getD_of hu]
  refine ⟨hn, ?_, hb.2.1, by omega⟩
  rcases Int.lt_or_le (fracI ((valA m (onlyI kd) ch).1.getD 0 0) u).den (fracI ((valA m (onlyI kd) ch).1.getD 0 0) u).num with hh | hh
  · have := Int.mul_lt_mul_of_pos_left hh hg
    omega
  · exact hh

/-! ### Ways -/
def wGo (a b : Int) : Int → List Int → List Int
  | c, [] => [c]
  | c, x :: xs => (c + x * b) :: wGo a b (x * a) xs
def waysN (a b : Int) : Nat → List Int
  | 0 => [1]
  | n + 1 => wGo a b 0 (waysN a b n)
def powN (d : Int) : Nat → Int
  | 0 => 1
  | n + 1 => powN d n * d
theorem wGo_len {a b : Int} : ∀ {w : List Int} {c : Int}, (wGo a b c w).length = w.length + 1
  | [], c => rfl
  | x :: xs, c => by simp only [wGo, List.length_cons]; rw [wGo_len]
theorem waysN_len {a b : Int} : ∀ {n : Nat}, (waysN a b n).length = n + 1
  | 0 => rfl
  | n + 1 => by simp only [waysN]; rw [wGo_len, waysN_len]
theorem wGo_nn {a b : Int} (ha : 0 ≤ a) (hb : 0 ≤ b) : ∀ {w : List Int} {c : Int}, 0 ≤ c → (∀ x ∈ w, 0 ≤ x) → ∀ x ∈ wGo a b c w, 0 ≤ x
  | [], c, hc, _, x, hx => by simp [wGo] at hx; omega
  | y :: ys, c, hc, hw, x, hx => by
    have hy := hw y (by simp)
    simp only [wGo] at hx
    rcases List.mem_cons.1 hx with rfl | hx
    · have := Int.mul_nonneg hy hb; omega
    · exact wGo_nn ha hb (Int.mul_nonneg hy ha) (fun z hz => hw z (by simp [hz])) x hx
theorem waysN_nn {a b : Int} (ha : 0 ≤ a) (hb : 0 ≤ b) : ∀ {n : Nat}, ∀ x ∈ waysN a b n, 0 ≤ x
  | 0, x, hx => by simp [waysN] at hx; omega
  | n + 1, x, hx => wGo_nn ha hb (Int.le_refl 0) (waysN_nn ha hb) x hx
theorem wGo_sum {a b : Int} : ∀ {w : List Int} {c : Int}, (wGo a b c w).sum = c + w.sum * (a + b)
  | [], c => by simp [wGo]
  | x :: xs, c => by
    simp only [wGo, List.sum_cons]
    rw [wGo_sum, Int.add_mul, Int.mul_add x]
    omega
theorem waysN_sum {a b : Int} : ∀ {n : Nat}, (waysN a b n).sum = powN (a + b) n
  | 0 => rfl
  | n + 1 => by simp only [waysN, powN]; rw [wGo_sum, waysN_sum]; omega
theorem powN_pos {d : Int} (hd : 0 < d) : ∀ {n : Nat}, 0 < powN d n
  | 0 => by simp [powN]
  | n + 1 => Int.mul_pos (powN_pos hd) hd
theorem powN_mono {d : Int} (hd : 0 < d) {n : Nat} : ∀ {k : Nat}, powN d n ≤ powN d (n + k)
  | 0 => Int.le_refl _
  | k + 1 => by
    have h1 := powN_mono hd (n := n) (k := k)
    have h2 := Int.mul_le_mul_of_nonneg_left (show (1 : Int) ≤ d by omega) (show 0 ≤ powN d (n + k) by have := powN_pos hd (n := n + k); omega)
    show _ ≤ powN d (n + k) * d
    omega
theorem mem_le_sum : ∀ {w : List Int}, (∀ x ∈ w, 0 ≤ x) → 0 ≤ w.sum ∧ ∀ x ∈ w, x ≤ w.sum
  | [], _ => by simp
  | y :: ys, h => by
    have h0 := h y (by simp)
    obtain ⟨h1, h2⟩ := mem_le_sum (w := ys) fun z hz => h z (by simp [hz])
    simp only [List.sum_cons]
    refine ⟨by omega, fun x hx => ?_⟩
    rcases List.mem_cons.1 hx with rfl | hx
    · omega
    · have := h2 x hx; omega
theorem take_sum {w : List Int} (h : ∀ x ∈ w, 0 ≤ x) : ∀ {k : Nat}, 0 ≤ (w.take k).sum ∧ (w.take k).sum ≤ (w.take (k + 1)).sum ∧ (w.take k).sum ≤ w.sum := by
  intro k
  have h1 := mem_le_sum (w := w.take k) fun x hx => h x (List.mem_of_mem_take hx)
  have h2 := mem_le_sum (w := w.drop k) fun x hx => h x (List.mem_of_mem_drop hx)
  have h3 : (w.take k).sum + (w.drop k).sum = w.sum := by rw [← List.sum_append, List.take_append_drop]
  refine ⟨h1.1, ?_, by omega⟩
  rw [List.take_add_one, List.sum_append]
  cases hx : w[k]? with
  | none => simp
  | some x => have := h x (List.mem_of_getElem? hx); simp; omega

/-! ### Enough -/
def enF (s : Stl) (plan : List Int) (kd : Int) : Fr := firstI (machG s) (onlyI kd) (fun i _ => planI plan i)
def enN (f : Fr) (st : Int) (n : Nat) : Int := ((waysN f.num (f.den - f.num) n).take (Int.toNat (st + 1))).sum
def enoughF (f : Fr) (st : Int) (n : Nat) : Int × Int × Int := if powN f.den n ≤ 1000000000000 then ((fracI (enN f st n) (powN f.den n)).num, (fracI (enN f st n) (powN f.den n)).den, 0) else (0, 0, 2)
def enoughK (s : Stl) (plan : List Int) (kd st ps : Int) : Int × Int × Int :=
  if planE s plan = 0 then (if (within kd 0 ((s.worth.length : Int) - 1) && (within st 0 1000 && within ps 0 1000)) = true then enoughF (enF s plan kd) st (Int.toNat ps) else (0, 0, 1)) else (0, 0, planE s plan)

/-- What lies in the new list after 'k' rounds. -/
structure WInv (a b : Int) (w : List Int) (k : Nat) (v : List Int) : Prop where
  len : v.length = w.length + 1
  eq : ∃ c, v[k]? = some c ∧ 0 ≤ c ∧ wGo a b 0 w = v.take k ++ wGo a b c (w.drop k)
  z : ∀ j, k < j → j < v.length → v[j]? = some 0
theorem winv_0 {a b : Int} {w : List Int} : WInv a b w 0 (List.replicate (w.length + 1) 0) := by
  refine ⟨by simp, ⟨0, by simp, by omega, by simp⟩, fun j hj hl => ?_⟩
  rw [List.length_replicate] at hl
  rw [List.getElem?_replicate, if_pos hl]
theorem winv_end {a b : Int} {w : List Int} {v : List Int} (h : WInv a b w w.length v) : v = wGo a b 0 w := by
  obtain ⟨c, h1, h2, h3⟩ := h.eq
  rw [h3, List.drop_eq_nil_of_le (Nat.le_refl _), wGo]
  have hl := h.len
  have e : v.take (w.length + 1) = v := List.take_of_length_le (by omega)
  rw [List.take_add_one, h1] at e
  exact e.symm
theorem winv_step {a b : Int} (ha : 0 ≤ a) {w : List Int} {k : Nat} {v : List Int} (h : WInv a b w k v) {x c : Int} (hx : w[k]? = some x) (hx0 : 0 ≤ x) (hc : v[k]? = some c) :
    WInv a b w (k + 1) ((v.set k (c + x * b)).set (k + 1) (0 + x * a)) := by
  have hk := (List.getElem?_eq_some_iff.1 hx).1
  obtain ⟨c', h1, h2, h3⟩ := h.eq
  rw [hc] at h1; cases h1
  have hl := h.len
  refine ⟨by simp [hl], ⟨x * a, ?_, Int.mul_nonneg hx0 ha, ?_⟩, fun j hj hjl => ?_⟩
  · rw [List.getElem?_set_self (by simp; omega), Int.zero_add]
  · rw [h3]
    have e1 : w.drop k = x :: w.drop (k + 1) := by
      rw [List.drop_eq_getElem_cons hk]; congr 1
      have := List.getElem?_eq_getElem hk
      rw [hx] at this; exact (Option.some.inj this).symm
    rw [e1, wGo, List.take_set_of_le (by omega), List.take_add_one, List.getElem?_set_self (by omega), List.take_set_of_le (by omega)]
    simp
  · rw [List.length_set, List.length_set] at hjl
    rw [List.getElem?_set_ne (by omega), List.getElem?_set_ne (by omega)]
    exact h.z j (by omega) hjl

theorem wbd {a b : Int} (ha : 0 ≤ a) (hb : 0 ≤ b) {w : List Int} (hw : ∀ x ∈ w, 0 ≤ x) {T : Int} (hT : w.sum * (a + b) ≤ T) {k : Nat} {v : List Int} {x c : Int} (h : WInv a b w k v) (hx : w[k]? = some x) (hc : v[k]? = some c) :
    0 ≤ x ∧ 0 ≤ x * b ∧ x * b ≤ T ∧ 0 ≤ x * a ∧ x * a ≤ T ∧ 0 ≤ c ∧ c + x * b ≤ T := by
  obtain ⟨c', h1, h2, h3⟩ := h.eq
  rw [hc] at h1; cases h1
  have hk := (List.getElem?_eq_some_iff.1 hx).1
  have hx0 := hw x (List.mem_of_getElem? hx)
  have e1 : w.drop k = x :: w.drop (k + 1) := by
    rw [List.drop_eq_getElem_cons hk]; congr 1
    have := List.getElem?_eq_getElem hk
    rw [hx] at this; exact (Option.some.inj this).symm
  have hs := wGo_sum (a := a) (b := b) (w := w) (c := 0)
  have hnn := wGo_nn ha hb (w := w) (Int.le_refl 0) hw
  rw [h3] at hs hnn
  rw [List.sum_append, wGo_sum, e1, List.sum_cons, Int.add_mul, Int.mul_add x] at hs
  have t1 := (mem_le_sum (w := v.take k) fun y hy => hnn y (by simp [hy])).1
  have t2 := (mem_le_sum (w := w.drop (k + 1)) fun y hy => hw y (List.mem_of_mem_drop hy)).1
  have t3 := Int.mul_nonneg t2 (show 0 ≤ a + b by omega)
  have t4 := Int.mul_nonneg hx0 ha
  have t5 := Int.mul_nonneg hx0 hb
  refine ⟨hx0, t5, by omega, t4, by omega, h2, by omega⟩
theorem enN_take {w : List Int} {st : Int} (h : 0 ≤ st) : w.take (Int.toNat (iMin (st + 1) w.length)) = w.take (Int.toNat (st + 1)) := by
  have e : iMin (st + 1) w.length = if st + 1 > w.length then (w.length : Int) else st + 1 := rfl
  rw [e]
  split
  · rw [List.take_of_length_le (by omega), List.take_of_length_le (by omega)]
  · rfl
theorem f47b : Try.f47.body = some (bodyAt Try.prog 47) := by kernel_rfl
def f47K0 (P : Program) : List Item := kAt 400 [.code (bodyAt P 47)] [.b false, .stop]
def f47S0 (s : Stl) (plan : (List Int)) (kd : Int) (st : Int) (ps : Int) (den : Int) (i : Nat)  : St := ⟨[J, J, J, J, J, J, J, J, .rptr [.int .i64 st] 0, .rptr [.int .i64 ps] 0, .int .i64 0, .int .i64 den, J, J, .ptr 5 0 0, J, J, J, J, J, J, J, J, J, J, J, J, J, J, J, J, J, J, J, J, J, J, .int .i64 ps, .int .i64 (i : Int), J, J, J, J, J, J, J, J, J, J, J, J, J, J, J, J, J, J, J, J, J, J, J, J, J, J, J, J, J, J, J, J, J, J, J, J, J, J, J, J, J, J, J, J, J, J, J, J, J, J, J, J, J, J, J, J, J, J, J, J, J, J, J, J, J, J, J, J, J, J, J, J, J, J, J, J], [⟨true, 0, 1, true, [.rsl (rowStg s.stages) 0 s.stages.length, .rsl (rowI s.worth) 0 s.worth.length, .int .i64 s.price], false⟩, ⟨false, 1, 1, true, [], false⟩, ⟨false, 1, 1, true, [], false⟩, ⟨false, 1, 1, true, [], false⟩, ⟨false, 1, 1, true, [], false⟩, ⟨true, 0, 1, true, [.int .i64 ((firstI (machG s) (onlyI kd) (fun i _ => planI plan i)).num), .int .i64 ((firstI (machG s) (onlyI kd) (fun i _ => planI plan i)).den)], false⟩]⟩
def f47G0 (E : Env) (s : Stl) (plan : (List Int)) (kd : Int) (st : Int) (ps : Int) (den : Int) (i : Nat) : Prop := G Try.prog E (f47K0 Try.prog) (f47S0 s plan kd st ps den i )
def f47K1 (P : Program) : List Item := kAt 400 [.code (bodyAt P 47)] [.b false, .b false, .stop]
def f47S1 (s : Stl) (plan : (List Int)) (kd : Int) (st : Int) (ps : Int) (den : Int) (v5_0 : Int) (v5_1 : Int) (ways : (List Int)) (k : Nat)  : St := ⟨[J, J, J, J, J, J, J, J, .rptr [.int .i64 st] 0, J, .int .i64 0, .int .i64 den, J, J, .ptr 5 0 0, J, .rsl (rowI ways) 0 ways.length, J, J, J, J, J, J, J, J, J, J, J, J, J, J, J, J, J, J, J, J, J, J, J, J, J, J, J, J, J, J, J, J, J, J, .int .i64 ps, .int .i64 (k : Int), J, J, J, J, J, J, J, J, J, J, J, J, J, J, J, J, J, J, J, J, J, J, J, J, J, J, J, J, J, J, J, J, J, J, J, J, J, J, J, J, J, J, J, J, J, J, J, J, J, J, J, J, J, J, J, J, J, J, J, J, J, J], [⟨true, 0, 1, true, [.rsl (rowStg s.stages) 0 s.stages.length, .rsl (rowI s.worth) 0 s.worth.length, .int .i64 s.price], false⟩, ⟨false, 1, 1, true, [], false⟩, ⟨false, 1, 1, true, [], false⟩, ⟨false, 1, 1, true, [], false⟩, ⟨false, 1, 1, true, [], false⟩, ⟨true, 0, 1, true, [.int .i64 v5_0, .int .i64 v5_1], false⟩, ⟨false, 1, 1, true, [], false⟩]⟩
def f47G1 (E : Env) (s : Stl) (plan : (List Int)) (kd : Int) (st : Int) (ps : Int) (den : Int) (v5_0 : Int) (v5_1 : Int) (ways : (List Int)) (k : Nat) : Prop := G Try.prog E (f47K1 Try.prog) (f47S1 s plan kd st ps den v5_0 v5_1 ways k )
def f47K2 (P : Program) : List Item := kAt 400 [.code (bodyAt P 47)] [.b false, .b false, .b true, .stop]
def f47S2 (s : Stl) (plan : (List Int)) (kd : Int) (st : Int) (ps : Int) (den : Int) (v5_0 : Int) (v5_1 : Int) (j : Nat) (v7 : List Int) (j1 : Nat) (j11 : (List Int)) (j111 : Nat)  : St := ⟨[J, J, J, J, J, J, J, J, .rptr [.int .i64 st] 0, J, .int .i64 0, .int .i64 den, J, J, .ptr 5 0 0, J, J, .sl 7 0 0 v7.length 1, J, J, J, J, J, J, J, J, J, J, J, J, J, J, J, J, J, J, J, J, J, J, J, J, J, J, J, J, J, J, J, J, J, .int .i64 ps, .int .i64 (j1 : Int), J, J, J, J, J, .rsl (rowI j11) 0 j11.length, .int .i64 (j111 : Int), .int .i64 (j : Int), J, J, J, J, J, J, J, J, J, J, J, J, J, J, J, J, J, J, J, J, J, J, J, J, J, J, J, J, J, J, J, J, J, J, J, J, J, J, J, J, J, J, J, J, J, J, J, J, J, J, J, J, J, J], [⟨true, 0, 1, true, [.rsl (rowStg s.stages) 0 s.stages.length, .rsl (rowI s.worth) 0 s.worth.length, .int .i64 s.price], false⟩, ⟨false, 1, 1, true, [], false⟩, ⟨false, 1, 1, true, [], false⟩, ⟨false, 1, 1, true, [], false⟩, ⟨false, 1, 1, true, [], false⟩, ⟨true, 0, 1, true, [.int .i64 v5_0, .int .i64 v5_1], false⟩, ⟨false, 1, 1, true, [], false⟩, ⟨true, 0, 1, true, (rowI v7), true⟩]⟩
def f47G2 (E : Env) (s : Stl) (plan : (List Int)) (kd : Int) (st : Int) (ps : Int) (den : Int) (v5_0 : Int) (v5_1 : Int) (j : Nat) (v7 : List Int) (j1 : Nat) (j11 : (List Int)) (j111 : Nat) : Prop := G Try.prog E (f47K2 Try.prog) (f47S2 s plan kd st ps den v5_0 v5_1 j v7 j1 j11 j111 )
def f47K3 (P : Program) : List Item := kAt 400 [.code (bodyAt P 47)] [.b false, .b false, .b false, .stop]
def f47S3 (s : Stl) (plan : (List Int)) (kd : Int) (st : Int) (ps : Int) (den : Int) (v5_0 : Int) (v5_1 : Int) (v : (List Int)) (v1 : Nat) (num : Int) (v11 : Nat)  : St := ⟨[J, J, J, J, J, J, J, J, J, J, .int .i64 num, .int .i64 den, J, J, .ptr 5 0 0, J, J, J, J, J, J, J, J, J, J, J, J, J, J, J, J, J, J, J, J, J, J, J, J, J, J, J, J, J, J, J, J, J, J, J, J, J, J, J, J, J, J, J, J, J, J, J, J, J, J, J, J, J, J, J, J, J, J, J, J, J, J, J, J, J, J, J, J, J, J, J, J, J, J, J, J, J, J, J, J, J, J, J, .rsl (rowI v) 0 v.length, .int .i64 (v1 : Int), .int .i64 (v11 : Int), J, J, J, J, J, J, J, J, J, J, J, J, J, J], [⟨true, 0, 1, true, [.rsl (rowStg s.stages) 0 s.stages.length, .rsl (rowI s.worth) 0 s.worth.length, .int .i64 s.price], false⟩, ⟨false, 1, 1, true, [], false⟩, ⟨false, 1, 1, true, [], false⟩, ⟨false, 1, 1, true, [], false⟩, ⟨false, 1, 1, true, [], false⟩, ⟨true, 0, 1, true, [.int .i64 v5_0, .int .i64 v5_1], false⟩, ⟨false, 1, 1, true, [], false⟩]⟩
def f47G3 (E : Env) (s : Stl) (plan : (List Int)) (kd : Int) (st : Int) (ps : Int) (den : Int) (v5_0 : Int) (v5_1 : Int) (v : (List Int)) (v1 : Nat) (num : Int) (v11 : Nat) : Prop := G Try.prog E (f47K3 Try.prog) (f47S3 s plan kd st ps den v5_0 v5_1 v v1 num v11 )
theorem p47_start_0 (s : Stl) (plan : (List Int)) (kd : Int) (st : Int) (ps : Int)   {E : Env} {rv : AV} (hE : PureE Try.prog 47 rv E) (ho : AllP [PureF Try.prog (.clos 71 [] []) [.agg [.rsl (rowStg s.stages) 0 s.stages.length, .rsl (rowI s.worth) 0 s.worth.length, .int .i64 s.price], .clos 101 [] [.rptr [.rsl (rowI plan) 0 plan.length] 0, .rptr [.int .i64 kd] 0, .rptr [.int .i64 st] 0, .rptr [.int .i64 ps] 0]] (.tup [.rptr [.rsl (rowStg (((machG s).s).stages)) 0 ((((machG s).s).stages).length), .rsl (rowI (((machG s).s).worth)) 0 ((((machG s).s).worth).length), .int .i64 (((machG s).s).price), .rsl (rowI ((machG s).meas)) 0 (((machG s).meas).length), .rsl (rowI ((machG s).mult)) 0 (((machG s).mult).length)] 0, .int .i64 0]), false = false, PureF Try.prog (.clos 76 [] []) [.int .i64 kd] (.clos 113 [] [.rptr [.int .i64 kd] 0]), PureF Try.prog (.clos 94 [] []) [.rsl (rowI plan) 0 plan.length] (.clos 119 [] [.rptr [.rsl (rowI plan) 0 plan.length] 0]), PureF Try.prog (.clos 75 [] []) [.rptr [.rsl (rowStg (((machG s).s).stages)) 0 ((((machG s).s).stages).length), .rsl (rowI (((machG s).s).worth)) 0 ((((machG s).s).worth).length), .int .i64 (((machG s).s).price), .rsl (rowI ((machG s).meas)) 0 (((machG s).meas).length), .rsl (rowI ((machG s).mult)) 0 (((machG s).mult).length)] 0, .clos 113 [] [.rptr [.int .i64 kd] 0], .clos 119 [] [.rptr [.rsl (rowI plan) 0 plan.length] 0]] (.agg [.int .i64 ((firstI (machG s) (onlyI kd) (fun i _ => planI plan i)).num), .int .i64 ((firstI (machG s) (onlyI kd) (fun i _ => planI plan i)).den)]), 2 ≤ 2])
    (hg : G Try.prog E (f47K0 Try.prog) ⟨[J, J, J, J, J, J, J, J, .rptr [.int .i64 st] 0, .rptr [.int .i64 ps] 0, .int .i64 0, .int .i64 1, J, J, .ptr 5 0 0, J, J, J, J, J, J, J, J, J, J, J, J, J, J, J, J, J, J, J, J, J, J, .int .i64 ps, .int .i64 0, J, J, J, J, J, J, J, J, J, J, J, J, J, J, J, J, J, J, J, J, J, J, J, J, J, J, J, J, J, J, J, J, J, J, J, J, J, J, J, J, J, J, J, J, J, J, J, J, J, J, J, J, J, J, J, J, J, J, J, J, J, J, J, J, J, J, J, J, J, J, J, J, J, J, J, J], [⟨true, 0, 1, true, [.rsl (rowStg s.stages) 0 s.stages.length, .rsl (rowI s.worth) 0 s.worth.length, .int .i64 s.price], false⟩, ⟨false, 1, 1, true, [], false⟩, ⟨false, 1, 1, true, [], false⟩, ⟨false, 1, 1, true, [], false⟩, ⟨false, 1, 1, true, [], false⟩, ⟨true, 0, 1, true, [.int .i64 ((firstI (machG s) (onlyI kd) (fun i _ => planI plan i)).num), .int .i64 ((firstI (machG s) (onlyI kd) (fun i _ => planI plan i)).den)], false⟩]⟩) : G Try.prog E [.code (bodyAt Try.prog 47)] ⟨[.agg [.rsl (rowStg s.stages) 0 s.stages.length, .rsl (rowI s.worth) 0 s.worth.length, .int .i64 s.price], .rsl (rowI plan) 0 plan.length, .int .i64 kd, .int .i64 st, .int .i64 ps] ++ unds (Try.f47.ntmps - 5), []⟩ :=
  segC_step (n := 400) (ds := []) (cs := []) (live := [8, 9, 10, 11, 14, 37, 38]) (m := 6) (evs := [.wt 6, .wt 7, .wt 8, .wt 9, .v (.tup [.rptr [.rsl (rowStg (((machG s).s).stages)) 0 ((((machG s).s).stages).length), .rsl (rowI (((machG s).s).worth)) 0 ((((machG s).s).worth).length), .int .i64 (((machG s).s).price), .rsl (rowI ((machG s).meas)) 0 (((machG s).meas).length), .rsl (rowI ((machG s).mult)) 0 (((machG s).mult).length)] 0, .int .i64 0]), .b false, .v (.clos 113 [] [.rptr [.int .i64 kd] 0]), .v (.clos 119 [] [.rptr [.rsl (rowI plan) 0 plan.length] 0]), .v (.agg [.int .i64 ((firstI (machG s) (onlyI kd) (fun i _ => planI plan i)).num), .int .i64 ((firstI (machG s) (onlyI kd) (fun i _ => planI plan i)).den)]), .stop]) (obs := _) hE.2.1 (hE.nogh _) mixed (by kernel_rfl) ho hg
theorem p47_start_1 (s : Stl) (plan : (List Int)) (kd : Int) (st : Int) (ps : Int)   {E : Env} {res : AV} (hE : PureE Try.prog 47 res E) (ho : AllP [PureF Try.prog (.clos 71 [] []) [.agg [.rsl (rowStg s.stages) 0 s.stages.length, .rsl (rowI s.worth) 0 s.worth.length, .int .i64 s.price], .clos 101 [] [.rptr [.rsl (rowI plan) 0 plan.length] 0, .rptr [.int .i64 kd] 0, .rptr [.int .i64 st] 0, .rptr [.int .i64 ps] 0]] (.tup [.nilPtr, .int .i64 1]), true = true])
    (hr : AvLe (.tup [.int .i64 0, .int .i64 0, .int .i64 1]) res) : G Try.prog E [.code (bodyAt Try.prog 47)] ⟨[.agg [.rsl (rowStg s.stages) 0 s.stages.length, .rsl (rowI s.worth) 0 s.worth.length, .int .i64 s.price], .rsl (rowI plan) 0 plan.length, .int .i64 kd, .int .i64 st, .int .i64 ps] ++ unds (Try.f47.ntmps - 5), []⟩ :=
  end_stepL (n := 400) (evs := [.wt 6, .wt 7, .wt 8, .wt 9, .v (.tup [.nilPtr, .int .i64 1]), .b true]) (obs := _) hE Try.func47 mixed (by kernel_rfl) ho hr
theorem p47_start_2 (s : Stl) (plan : (List Int)) (kd : Int) (st : Int) (ps : Int)   {E : Env} {res : AV} (hE : PureE Try.prog 47 res E) (ho : AllP [PureF Try.prog (.clos 71 [] []) [.agg [.rsl (rowStg s.stages) 0 s.stages.length, .rsl (rowI s.worth) 0 s.worth.length, .int .i64 s.price], .clos 101 [] [.rptr [.rsl (rowI plan) 0 plan.length] 0, .rptr [.int .i64 kd] 0, .rptr [.int .i64 st] 0, .rptr [.int .i64 ps] 0]] (.tup [.nilPtr, .int .i64 60]), true = true])
    (hr : AvLe (.tup [.int .i64 0, .int .i64 0, .int .i64 60]) res) : G Try.prog E [.code (bodyAt Try.prog 47)] ⟨[.agg [.rsl (rowStg s.stages) 0 s.stages.length, .rsl (rowI s.worth) 0 s.worth.length, .int .i64 s.price], .rsl (rowI plan) 0 plan.length, .int .i64 kd, .int .i64 st, .int .i64 ps] ++ unds (Try.f47.ntmps - 5), []⟩ :=
  end_stepL (n := 400) (evs := [.wt 6, .wt 7, .wt 8, .wt 9, .v (.tup [.nilPtr, .int .i64 60]), .b true]) (obs := _) hE Try.func47 mixed (by kernel_rfl) ho hr
theorem f47W (s : Stl) (plan : (List Int)) (kd : Int) (st : Int) (ps : Int) {E : Env} {rv : (Int × Int × Int)} (hE : PureE Try.prog 47 (.tup [.int .i64 rv.1, .int .i64 rv.2.1, .int .i64 rv.2.2]) E)
    (h : ((((machI s).isSome) = true → (((rightE (machG s) plan kd st ps) = true → ((s.stages.length ≤ 9223372036854775807 ∧ s.worth.length ≤ 9223372036854775807) ∧ ((MOk (machG s) ∧ planOk (machG s).s plan = true) ∧ f47G0 E s plan kd st ps 1 0))) ∧ ((rightE (machG s) plan kd st ps) = false → ((s.stages.length ≤ 9223372036854775807 ∧ s.worth.length ≤ 9223372036854775807) ∧ rv = (0, 0, 1))))) ∧ (((machI s).isSome) = false → ((s.stages.length ≤ 9223372036854775807 ∧ s.worth.length ≤ 9223372036854775807) ∧ rv = (0, 0, 60))))) : G Try.prog E [.code (bodyAt Try.prog 47)] ⟨[.agg [.rsl (rowStg s.stages) 0 s.stages.length, .rsl (rowI s.worth) 0 s.worth.length, .int .i64 s.price], .rsl (rowI plan) 0 plan.length, .int .i64 kd, .int .i64 st, .int .i64 ps] ++ unds (Try.f47.ntmps - 5), []⟩ := by
  rcases Bool.eq_false_or_eq_true ((machI s).isSome) with hc0 | hc0
  · have h := h.1 hc0
    rcases Bool.eq_false_or_eq_true (rightE (machG s) plan kd st ps) with hc1 | hc1
    · have h := h.1 hc1
      obtain ⟨h1, h⟩ := h
      obtain ⟨h2, h⟩ := h
      exact p47_start_0 s plan kd st ps    hE ⟨(pureF_of Try.func71 (by kernel_rfl) f71x101b (begR_T hc0 hc1 ▸ beg101_ok s plan kd st ps h1)), rfl, (pureF_of Try.func76 (by kernel_rfl) f76b (mkonly_ok kd)), (pureF_of Try.func94 (by kernel_rfl) f94b (mkplanned_ok plan)), (pureF_of Try.func75 (by kernel_rfl) f75pb (firstp_ok (machG s) kd plan h2.1 h2.2)), (by decide), trivial⟩ h
    · have h := h.2 hc1
      obtain ⟨h1, h⟩ := h
      exact p47_start_1 s plan kd st ps    hE ⟨(pureF_of Try.func71 (by kernel_rfl) f71x101b (begR_F1 hc0 hc1 ▸ beg101_ok s plan kd st ps h1)), rfl, trivial⟩ (AvLe.of_eq (by rw [h]; try rfl))
  · have h := h.2 hc0
    obtain ⟨h1, h⟩ := h
    exact p47_start_2 s plan kd st ps    hE ⟨(pureF_of Try.func71 (by kernel_rfl) f71x101b (begR_F0 hc0 ▸ beg101_ok s plan kd st ps h1)), rfl, trivial⟩ (AvLe.of_eq (by rw [h]; try rfl))
theorem p47_0_0 (s : Stl) (plan : (List Int)) (kd : Int) (st : Int) (ps : Int) (den : Int) (i : Nat)   {E : Env} {res : AV} (hE : PureE Try.prog 47 res E) (ho : AllP [(decide ((i : Int) < ps)) = true, (0 : Int) ≤ 1 ∧ (1 : Int) < ((2 : Nat) : Int), PureF Try.prog (.clos 102 [] []) [.int .i64 den, .int .i64 ((firstI (machG s) (onlyI kd) (fun i _ => planI plan i)).den)] (.tup [.int .i64 ((prodI den ((firstI (machG s) (onlyI kd) (fun i _ => planI plan i)).den)).1), .bool ((prodI den ((firstI (machG s) (onlyI kd) (fun i _ => planI plan i)).den)).2)]), (!(prodI den ((firstI (machG s) (onlyI kd) (fun i _ => planI plan i)).den)).2) = true])
    (hr : AvLe (.tup [.int .i64 0, .int .i64 0, .int .i64 2]) res) : G Try.prog E (f47K0 Try.prog) (f47S0 s plan kd st ps den i ) :=
  end_stepL (n := 400) (evs := [.b true, .v (.tup [.int .i64 ((prodI den ((firstI (machG s) (onlyI kd) (fun i _ => planI plan i)).den)).1), .bool ((prodI den ((firstI (machG s) (onlyI kd) (fun i _ => planI plan i)).den)).2)]), .b true]) (obs := _) hE Try.func47 mixed (by kernel_rfl) ho hr
theorem p47_0_1 (s : Stl) (plan : (List Int)) (kd : Int) (st : Int) (ps : Int) (den : Int) (i : Nat)   {E : Env} {rv : AV} (hE : PureE Try.prog 47 rv E) (ho : AllP [(decide ((i : Int) < ps)) = true, (0 : Int) ≤ 1 ∧ (1 : Int) < ((2 : Nat) : Int), PureF Try.prog (.clos 102 [] []) [.int .i64 den, .int .i64 ((firstI (machG s) (onlyI kd) (fun i _ => planI plan i)).den)] (.tup [.int .i64 ((prodI den ((firstI (machG s) (onlyI kd) (fun i _ => planI plan i)).den)).1), .bool ((prodI den ((firstI (machG s) (onlyI kd) (fun i _ => planI plan i)).den)).2)]), (!(prodI den ((firstI (machG s) (onlyI kd) (fun i _ => planI plan i)).den)).2) = false, InR .i64 ((i : Int) + 1)])
    (hg : G Try.prog E (f47K0 Try.prog) ⟨[J, J, J, J, J, J, J, J, .rptr [.int .i64 st] 0, .rptr [.int .i64 ps] 0, .int .i64 0, .int .i64 ((prodI den ((firstI (machG s) (onlyI kd) (fun i _ => planI plan i)).den)).1), J, J, .ptr 5 0 0, J, J, J, J, J, J, J, J, J, J, J, J, J, J, J, J, J, J, J, J, J, J, .int .i64 ps, .int .i64 ((i : Int) + 1), J, J, J, J, J, J, J, J, J, J, J, J, J, J, J, J, J, J, J, J, J, J, J, J, J, J, J, J, J, J, J, J, J, J, J, J, J, J, J, J, J, J, J, J, J, J, J, J, J, J, J, J, J, J, J, J, J, J, J, J, J, J, J, J, J, J, J, J, J, J, J, J, J, J, J, J], [⟨true, 0, 1, true, [.rsl (rowStg s.stages) 0 s.stages.length, .rsl (rowI s.worth) 0 s.worth.length, .int .i64 s.price], false⟩, ⟨false, 1, 1, true, [], false⟩, ⟨false, 1, 1, true, [], false⟩, ⟨false, 1, 1, true, [], false⟩, ⟨false, 1, 1, true, [], false⟩, ⟨true, 0, 1, true, [.int .i64 ((firstI (machG s) (onlyI kd) (fun i _ => planI plan i)).num), .int .i64 ((firstI (machG s) (onlyI kd) (fun i _ => planI plan i)).den)], false⟩]⟩) : G Try.prog E (f47K0 Try.prog) (f47S0 s plan kd st ps den i ) :=
  segC_step (n := 400) (ds := []) (cs := []) (live := [8, 9, 10, 11, 14, 37, 38]) (m := 6) (evs := [.b true, .v (.tup [.int .i64 ((prodI den ((firstI (machG s) (onlyI kd) (fun i _ => planI plan i)).den)).1), .bool ((prodI den ((firstI (machG s) (onlyI kd) (fun i _ => planI plan i)).den)).2)]), .b false, .stop]) (obs := _) hE.2.1 (hE.nogh _) mixed (by kernel_rfl) ho hg
theorem p47_0_2 (s : Stl) (plan : (List Int)) (kd : Int) (st : Int) (ps : Int) (den : Int) (i : Nat)   {E : Env} {rv : AV} (hE : PureE Try.prog 47 rv E) (ho : AllP [(decide ((i : Int) < ps)) = false])
    (hg : G Try.prog E (f47K1 Try.prog) ⟨[J, J, J, J, J, J, J, J, .rptr [.int .i64 st] 0, J, .int .i64 0, .int .i64 den, J, J, .ptr 5 0 0, J, .rsl ([.int .i64 1]) 0 1, J, J, J, J, J, J, J, J, J, J, J, J, J, J, J, J, J, J, J, J, J, J, J, J, J, J, J, J, J, J, J, J, J, J, .int .i64 ps, .int .i64 0, J, J, J, J, J, J, J, J, J, J, J, J, J, J, J, J, J, J, J, J, J, J, J, J, J, J, J, J, J, J, J, J, J, J, J, J, J, J, J, J, J, J, J, J, J, J, J, J, J, J, J, J, J, J, J, J, J, J, J, J, J, J], [⟨true, 0, 1, true, [.rsl (rowStg s.stages) 0 s.stages.length, .rsl (rowI s.worth) 0 s.worth.length, .int .i64 s.price], false⟩, ⟨false, 1, 1, true, [], false⟩, ⟨false, 1, 1, true, [], false⟩, ⟨false, 1, 1, true, [], false⟩, ⟨false, 1, 1, true, [], false⟩, ⟨true, 0, 1, true, [.int .i64 ((firstI (machG s) (onlyI kd) (fun i _ => planI plan i)).num), .int .i64 ((firstI (machG s) (onlyI kd) (fun i _ => planI plan i)).den)], false⟩, ⟨false, 1, 1, true, [], false⟩]⟩) : G Try.prog E (f47K0 Try.prog) (f47S0 s plan kd st ps den i ) :=
  segC_step (n := 400) (ds := []) (cs := []) (live := [8, 10, 11, 14, 16, 51, 52]) (m := 7) (evs := [.b false, .wt 16, .stop]) (obs := _) hE.2.1 (hE.nogh _) mixed (by kernel_rfl) ho hg
theorem f47W0 (s : Stl) (plan : (List Int)) (kd : Int) (st : Int) (ps : Int) (den : Int) (i : Nat) {E : Env} {rv : (Int × Int × Int)} (hE : PureE Try.prog 47 (.tup [.int .i64 rv.1, .int .i64 rv.2.1, .int .i64 rv.2.2]) E)
    (h : (((i : Int) < ps → ((0 ≤ den ∧ 0 < ((firstI (machG s) (onlyI kd) (fun i _ => planI plan i)).den)) ∧ (((!(prodI den ((firstI (machG s) (onlyI kd) (fun i _ => planI plan i)).den)).2) = true → rv = (0, 0, 2)) ∧ ((!(prodI den ((firstI (machG s) (onlyI kd) (fun i _ => planI plan i)).den)).2) = false → ((-9223372036854775808 ≤ (i : Int) + 1 ∧ (i : Int) + 1 ≤ 9223372036854775807) ∧ f47G0 E s plan kd st ps ((prodI den ((firstI (machG s) (onlyI kd) (fun i _ => planI plan i)).den)).1) (i + 1)))))) ∧ (¬ ((i : Int) < ps) → f47G1 E s plan kd st ps den ((firstI (machG s) (onlyI kd) (fun i _ => planI plan i)).num) ((firstI (machG s) (onlyI kd) (fun i _ => planI plan i)).den) ([1] : List Int) 0))) : f47G0 E s plan kd st ps den i := by
  rcases Bool.eq_false_or_eq_true (decide ((i : Int) < ps)) with hc0 | hc0
  · have h := h.1 (of_decide_eq_true hc0)
    obtain ⟨h1, h⟩ := h
    rcases Bool.eq_false_or_eq_true (!(prodI den ((firstI (machG s) (onlyI kd) (fun i _ => planI plan i)).den)).2) with hc1 | hc1
    · have h := h.1 hc1
      exact p47_0_0 s plan kd st ps den i   hE ⟨hc0, (⟨by decide, by decide⟩), (pureF_of Try.func102 (by kernel_rfl) f102b (product_ok den ((firstI (machG s) (onlyI kd) (fun i _ => planI plan i)).den) h1)), hc1, trivial⟩ (AvLe.of_eq (by rw [h]; try rfl))
    · have h := h.2 hc1
      obtain ⟨q4_2, h⟩ := h
      exact p47_0_1 s plan kd st ps den i   hE ⟨hc0, (⟨by decide, by decide⟩), (pureF_of Try.func102 (by kernel_rfl) f102b (product_ok den ((firstI (machG s) (onlyI kd) (fun i _ => planI plan i)).den) h1)), hc1, q4_2, trivial⟩ h
  · have h := h.2 (of_decide_eq_false hc0)
    exact p47_0_2 s plan kd st ps den i   hE ⟨hc0, trivial⟩ h
theorem p47_1_0 (s : Stl) (plan : (List Int)) (kd : Int) (st : Int) (ps : Int) (den : Int) (v5_0 : Int) (v5_1 : Int) (ways : (List Int)) (k : Nat)   {E : Env} {rv : AV} (hE : PureE Try.prog 47 rv E) (ho : AllP [(decide ((k : Int) < ps)) = true, InR .i64 ((ways.length : Int) + 1), 0 ≤ ((ways.length : Int) + 1) ∧ ((ways.length : Int) + 1) ≤ ((ways.length : Int) + 1) ∧ ((ways.length : Int) + 1) ≤ 2147483648])
    (hg : G Try.prog E (f47K2 Try.prog) ⟨[J, J, J, J, J, J, J, J, .rptr [.int .i64 st] 0, J, .int .i64 0, .int .i64 den, J, J, .ptr 5 0 0, J, J, .sl 7 0 0 (Int.toNat ((ways.length : Int) + 1)) 1, J, J, J, J, J, J, J, J, J, J, J, J, J, J, J, J, J, J, J, J, J, J, J, J, J, J, J, J, J, J, J, J, J, .int .i64 ps, .int .i64 (k : Int), J, J, J, J, J, .rsl (rowI ways) 0 ways.length, .int .i64 (ways.length : Int), .int .i64 0, J, J, J, J, J, J, J, J, J, J, J, J, J, J, J, J, J, J, J, J, J, J, J, J, J, J, J, J, J, J, J, J, J, J, J, J, J, J, J, J, J, J, J, J, J, J, J, J, J, J, J, J, J, J], [⟨true, 0, 1, true, [.rsl (rowStg s.stages) 0 s.stages.length, .rsl (rowI s.worth) 0 s.worth.length, .int .i64 s.price], false⟩, ⟨false, 1, 1, true, [], false⟩, ⟨false, 1, 1, true, [], false⟩, ⟨false, 1, 1, true, [], false⟩, ⟨false, 1, 1, true, [], false⟩, ⟨true, 0, 1, true, [.int .i64 v5_0, .int .i64 v5_1], false⟩, ⟨false, 1, 1, true, [], false⟩, ⟨true, 0, 1, true, ((List.replicate (Int.toNat ((ways.length : Int) + 1)) ([.int .i64 0] : List AV)).flatten), true⟩]⟩) : G Try.prog E (f47K1 Try.prog) (f47S1 s plan kd st ps den v5_0 v5_1 ways k ) :=
  segC_step (n := 400) (ds := []) (cs := []) (live := [8, 10, 11, 14, 17, 51, 52, 58, 59, 60]) (m := 8) (evs := [.b true, .stop]) (obs := _) hE.2.1 (hE.nogh _) mixed (by kernel_rfl) ho hg
theorem p47_1_1 (s : Stl) (plan : (List Int)) (kd : Int) (st : Int) (ps : Int) (den : Int) (v5_0 : Int) (v5_1 : Int) (ways : (List Int)) (k : Nat)   {E : Env} {rv : AV} (hE : PureE Try.prog 47 rv E) (ho : AllP [(decide ((k : Int) < ps)) = false, InR .i64 (st + 1), 0 ≤ (Int.toNat (iMin (st + 1) (ways.length : Int))), (Int.toNat (iMin (st + 1) (ways.length : Int))) ≤ ways.length, 0 ≤ (iMin (st + 1) (ways.length : Int))])
    (hg : G Try.prog E (f47K3 Try.prog) ⟨[J, J, J, J, J, J, J, J, J, J, .int .i64 0, .int .i64 den, J, J, .ptr 5 0 0, J, J, J, J, J, J, J, J, J, J, J, J, J, J, J, J, J, J, J, J, J, J, J, J, J, J, J, J, J, J, J, J, J, J, J, J, J, J, J, J, J, J, J, J, J, J, J, J, J, J, J, J, J, J, J, J, J, J, J, J, J, J, J, J, J, J, J, J, J, J, J, J, J, J, J, J, J, J, J, J, J, J, J, .rsl (rowI ways) 0 (Int.toNat (iMin (st + 1) (ways.length : Int))), .int .i64 (((Int.toNat (iMin (st + 1) (ways.length : Int))) : Nat) : Int), .int .i64 0, J, J, J, J, J, J, J, J, J, J, J, J, J, J], [⟨true, 0, 1, true, [.rsl (rowStg s.stages) 0 s.stages.length, .rsl (rowI s.worth) 0 s.worth.length, .int .i64 s.price], false⟩, ⟨false, 1, 1, true, [], false⟩, ⟨false, 1, 1, true, [], false⟩, ⟨false, 1, 1, true, [], false⟩, ⟨false, 1, 1, true, [], false⟩, ⟨true, 0, 1, true, [.int .i64 v5_0, .int .i64 v5_1], false⟩, ⟨false, 1, 1, true, [], false⟩]⟩) : G Try.prog E (f47K1 Try.prog) (f47S1 s plan kd st ps den v5_0 v5_1 ways k ) :=
  segC_step (n := 400) (ds := []) (cs := []) (live := [10, 11, 14, 98, 99, 100]) (m := 7) (evs := [.b false, .stop]) (obs := _) hE.2.1 (hE.nogh _) mixed (by kernel_rfl) ho hg
theorem f47W1 (s : Stl) (plan : (List Int)) (kd : Int) (st : Int) (ps : Int) (den : Int) (v5_0 : Int) (v5_1 : Int) (ways : (List Int)) (k : Nat) {E : Env} {rv : (Int × Int × Int)} (hE : PureE Try.prog 47 (.tup [.int .i64 rv.1, .int .i64 rv.2.1, .int .i64 rv.2.2]) E)
    (h : (((k : Int) < ps → ((-9223372036854775808 ≤ (ways.length : Int) + 1 ∧ (ways.length : Int) + 1 ≤ 9223372036854775807) ∧ ((ways.length + 1) ≤ 2147483648 ∧ f47G2 E s plan kd st ps den v5_0 v5_1 0 (List.replicate (ways.length + 1) (0 : Int)) k ways ways.length))) ∧ (¬ ((k : Int) < ps) → ((-9223372036854775808 ≤ st + 1 ∧ st + 1 ≤ 9223372036854775807) ∧ ((Int.toNat (iMin (st + 1) (ways.length : Int))) ≤ ways.length ∧ (0 ≤ (iMin (st + 1) (ways.length : Int)) ∧ f47G3 E s plan kd st ps den v5_0 v5_1 (ways.take (Int.toNat (iMin (st + 1) (ways.length : Int)))) (Int.toNat (iMin (st + 1) (ways.length : Int))) 0 0)))))) : f47G1 E s plan kd st ps den v5_0 v5_1 ways k := by
  rcases Bool.eq_false_or_eq_true (decide ((k : Int) < ps)) with hc0 | hc0
  · have h := h.1 (of_decide_eq_true hc0)
    obtain ⟨q1_1, h⟩ := h
    obtain ⟨h1, h⟩ := h
    refine p47_1_0 s plan kd st ps den v5_0 v5_1 ways k   hE ⟨hc0, q1_1, ⟨by omega, by omega, by have := h1; omega⟩, trivial⟩ ?_
    have h := h
    simp only [f47G2, f47S2, List.length_set, List.length_replicate] at h
    rw [(show (List.replicate (Int.toNat ((ways.length : Int) + 1)) ([.int .i64 0] : List AV)).flatten = rowI (List.replicate (ways.length + 1) (0 : Int)) from row_rep cI _ _)]
    exact h
  · have h := h.2 (of_decide_eq_false hc0)
    obtain ⟨q1_1, h⟩ := h
    obtain ⟨q3_1, h⟩ := h
    obtain ⟨q4_1, h⟩ := h
    refine p47_1_1 s plan kd st ps den v5_0 v5_1 ways k   hE ⟨hc0, q1_1, (Nat.zero_le _), q3_1, q4_1, trivial⟩ ?_
    refine weakT_step (t := 98) (v' := .rsl (rowI (ways.take (Int.toNat (iMin (st + 1) (ways.length : Int))))) 0 ((ways.take (Int.toNat (iMin (st + 1) (ways.length : Int)))).length)) rfl rfl rfl (by exact rsl_take cI (s := 1) (fun _ => rfl) (by first | assumption | omega)) ?_
    simp only [List.set_cons_succ, List.set_cons_zero]
    skip; exact h
theorem p47_2_0 (s : Stl) (plan : (List Int)) (kd : Int) (st : Int) (ps : Int) (den : Int) (v5_0 : Int) (v5_1 : Int) (j : Nat) (v7 : List Int) (j1 : Nat) (j11 : (List Int)) (j111 : Nat)  (e : Int) (e1 : Int) (e2 : Int)  {E : Env} {rv : AV} (hE : PureE Try.prog 47 rv E) (ho : AllP [(decide ((j : Int) < (j111 : Int))) = true, 0 ≤ (j : Int) ∧ (j : Int) < (j11.length : Int), ((rowI j11).drop (0 + (Int.toNat (j : Int)) * 1)).take 1 = [.int .i64 e], 0 ≤ (j : Int) ∧ (j : Int) < (v7.length : Int), 0 = 0, 0 = 0, ((rowI v7).drop (0 + (Int.toNat (j : Int)) * 1)).take 1 = [.int .i64 e1], (0 : Int) ≤ 1 ∧ (1 : Int) < ((2 : Nat) : Int), (0 : Int) ≤ 0 ∧ (0 : Int) < ((2 : Nat) : Int), InR .i64 (v5_1 - v5_0), InR .i64 (e * (v5_1 - v5_0)), InR .i64 (e1 + (e * (v5_1 - v5_0))), 0 ≤ (j : Int) ∧ (j : Int) < (v7.length : Int), 0 = 0, ((0 + (Int.toNat (j : Int)) * 1) + 1) ≤ (rowI v7).length, 0 = 0, InR .i64 ((j : Int) + 1), 0 ≤ ((j : Int) + 1) ∧ ((j : Int) + 1) < (v7.length : Int), 0 = 0, 0 = 0, ((setAt (rowI v7) (0 + (Int.toNat (j : Int)) * 1) [.int .i64 (e1 + (e * (v5_1 - v5_0)))]).drop (0 + (Int.toNat ((j : Int) + 1)) * 1)).take 1 = [.int .i64 e2], (0 : Int) ≤ 0 ∧ (0 : Int) < ((2 : Nat) : Int), InR .i64 (e * v5_0), InR .i64 (e2 + (e * v5_0)), 0 ≤ ((j : Int) + 1) ∧ ((j : Int) + 1) < (v7.length : Int), 0 = 0, ((0 + (Int.toNat ((j : Int) + 1)) * 1) + 1) ≤ (setAt (rowI v7) (0 + (Int.toNat (j : Int)) * 1) [.int .i64 (e1 + (e * (v5_1 - v5_0)))]).length, 0 = 0, InR .i64 ((j : Int) + 1)])
    (hg : G Try.prog E (f47K2 Try.prog) ⟨[J, J, J, J, J, J, J, J, .rptr [.int .i64 st] 0, J, .int .i64 0, .int .i64 den, J, J, .ptr 5 0 0, J, J, .sl 7 0 0 v7.length 1, J, J, J, J, J, J, J, J, J, J, J, J, J, J, J, J, J, J, J, J, J, J, J, J, J, J, J, J, J, J, J, J, J, .int .i64 ps, .int .i64 (j1 : Int), J, J, J, J, J, .rsl (rowI j11) 0 j11.length, .int .i64 (j111 : Int), .int .i64 ((j : Int) + 1), J, J, J, J, J, J, J, J, J, J, J, J, J, J, J, J, J, J, J, J, J, J, J, J, J, J, J, J, J, J, J, J, J, J, J, J, J, J, J, J, J, J, J, J, J, J, J, J, J, J, J, J, J, J], [⟨true, 0, 1, true, [.rsl (rowStg s.stages) 0 s.stages.length, .rsl (rowI s.worth) 0 s.worth.length, .int .i64 s.price], false⟩, ⟨false, 1, 1, true, [], false⟩, ⟨false, 1, 1, true, [], false⟩, ⟨false, 1, 1, true, [], false⟩, ⟨false, 1, 1, true, [], false⟩, ⟨true, 0, 1, true, [.int .i64 v5_0, .int .i64 v5_1], false⟩, ⟨false, 1, 1, true, [], false⟩, ⟨true, 0, 1, true, (setAt (setAt (rowI v7) (0 + (Int.toNat (j : Int)) * 1) [.int .i64 (e1 + (e * (v5_1 - v5_0)))]) (0 + (Int.toNat ((j : Int) + 1)) * 1) [.int .i64 (e2 + (e * v5_0))]), true⟩]⟩) : G Try.prog E (f47K2 Try.prog) (f47S2 s plan kd st ps den v5_0 v5_1 j v7 j1 j11 j111 ) :=
  segC_step (n := 400) (ds := []) (cs := []) (live := [8, 10, 11, 14, 17, 51, 52, 58, 59, 60]) (m := 8) (evs := [.b true, .ld (.int .i64 e), .ld (.int .i64 e1), .auto, .auto, .ld (.int .i64 e2), .stop]) (obs := _) hE.2.1 (hE.nogh _) mixed (by kernel_rfl) ho hg
theorem p47_2_1 (s : Stl) (plan : (List Int)) (kd : Int) (st : Int) (ps : Int) (den : Int) (v5_0 : Int) (v5_1 : Int) (j : Nat) (v7 : List Int) (j1 : Nat) (j11 : (List Int)) (j111 : Nat)   {E : Env} {rv : AV} (hE : PureE Try.prog 47 rv E) (ho : AllP [(decide ((j : Int) < (j111 : Int))) = false, InR .i64 ((j1 : Int) + 1)])
    (hg : G Try.prog E (f47K1 Try.prog) ⟨[J, J, J, J, J, J, J, J, .rptr [.int .i64 st] 0, J, .int .i64 0, .int .i64 den, J, J, .ptr 5 0 0, J, .rsl (rowI v7) 0 v7.length, J, J, J, J, J, J, J, J, J, J, J, J, J, J, J, J, J, J, J, J, J, J, J, J, J, J, J, J, J, J, J, J, J, J, .int .i64 ps, .int .i64 ((j1 : Int) + 1), J, J, J, J, J, J, J, J, J, J, J, J, J, J, J, J, J, J, J, J, J, J, J, J, J, J, J, J, J, J, J, J, J, J, J, J, J, J, J, J, J, J, J, J, J, J, J, J, J, J, J, J, J, J, J, J, J, J, J, J, J, J], [⟨true, 0, 1, true, [.rsl (rowStg s.stages) 0 s.stages.length, .rsl (rowI s.worth) 0 s.worth.length, .int .i64 s.price], false⟩, ⟨false, 1, 1, true, [], false⟩, ⟨false, 1, 1, true, [], false⟩, ⟨false, 1, 1, true, [], false⟩, ⟨false, 1, 1, true, [], false⟩, ⟨true, 0, 1, true, [.int .i64 v5_0, .int .i64 v5_1], false⟩, ⟨false, 1, 1, true, [], false⟩]⟩) : G Try.prog E (f47K2 Try.prog) (f47S2 s plan kd st ps den v5_0 v5_1 j v7 j1 j11 j111 ) :=
  segC_step (n := 400) (ds := []) (cs := []) (live := [8, 10, 11, 14, 16, 51, 52]) (m := 7) (evs := [.b false, .wt 16, .stop]) (obs := _) hE.2.1 (hE.nogh _) mixed (by kernel_rfl) ho hg
theorem f47W2 (s : Stl) (plan : (List Int)) (kd : Int) (st : Int) (ps : Int) (den : Int) (v5_0 : Int) (v5_1 : Int) (j : Nat) (v7 : List Int) (j1 : Nat) (j11 : (List Int)) (j111 : Nat) {E : Env} {rv : (Int × Int × Int)} (hE : PureE Try.prog 47 (.tup [.int .i64 rv.1, .int .i64 rv.2.1, .int .i64 rv.2.2]) E)
    (h : (((j : Int) < (j111 : Int) → (∃ e : Int, j11[j]? = some e ∧ (∃ e1 : Int, v7[j]? = some e1 ∧ ((-9223372036854775808 ≤ v5_1 - v5_0 ∧ v5_1 - v5_0 ≤ 9223372036854775807) ∧ ((-9223372036854775808 ≤ e * (v5_1 - v5_0) ∧ e * (v5_1 - v5_0) ≤ 9223372036854775807) ∧ ((-9223372036854775808 ≤ e1 + (e * (v5_1 - v5_0)) ∧ e1 + (e * (v5_1 - v5_0)) ≤ 9223372036854775807) ∧ ((-9223372036854775808 ≤ (j : Int) + 1 ∧ (j : Int) + 1 ≤ 9223372036854775807) ∧ (∃ e2 : Int, (v7.set j (e1 + (e * (v5_1 - v5_0))))[j + 1]? = some e2 ∧ ((-9223372036854775808 ≤ e * v5_0 ∧ e * v5_0 ≤ 9223372036854775807) ∧ ((-9223372036854775808 ≤ e2 + (e * v5_0) ∧ e2 + (e * v5_0) ≤ 9223372036854775807) ∧ ((-9223372036854775808 ≤ (j : Int) + 1 ∧ (j : Int) + 1 ≤ 9223372036854775807) ∧ f47G2 E s plan kd st ps den v5_0 v5_1 (j + 1) ((v7.set j (e1 + (e * (v5_1 - v5_0)))).set (j + 1) (e2 + (e * v5_0))) j1 j11 j111))))))))))) ∧ (¬ ((j : Int) < (j111 : Int)) → ((-9223372036854775808 ≤ (j1 : Int) + 1 ∧ (j1 : Int) + 1 ≤ 9223372036854775807) ∧ f47G1 E s plan kd st ps den v5_0 v5_1 v7 (j1 + 1))))) : f47G2 E s plan kd st ps den v5_0 v5_1 j v7 j1 j11 j111 := by
  rcases Bool.eq_false_or_eq_true (decide ((j : Int) < (j111 : Int))) with hc0 | hc0
  · have h := h.1 (of_decide_eq_true hc0)
    obtain ⟨e, h1, h⟩ := h
    obtain ⟨e1, h2, h⟩ := h
    obtain ⟨q11_1, h⟩ := h
    obtain ⟨q12_1, h⟩ := h
    obtain ⟨q13_1, h⟩ := h
    obtain ⟨q18_1, h⟩ := h
    obtain ⟨e2, h3, h⟩ := h
    obtain ⟨q25_1, h⟩ := h
    obtain ⟨q26_1, h⟩ := h
    obtain ⟨q31_1, h⟩ := h
    refine p47_2_0 s plan kd st ps den v5_0 v5_1 j v7 j1 j11 j111  e e1 e2 hE ⟨hc0, (idx_ok h1), (row_part cI (s := 1) (k := 0) (m := 1) (fun _ => rfl) (by decide) h1), (idx_ok h2), rfl, rfl, (row_part cI (s := 1) (k := 0) (m := 1) (fun _ => rfl) (by decide) h2), (⟨by decide, by decide⟩), (⟨by decide, by decide⟩), q11_1, q12_1, q13_1, (idx_ok h2), rfl, (row_fits cI (s := 1) (k := 0) (m := 1) (fun _ => rfl) (by decide) h2), rfl, q18_1, (by have hx := idx_ok h3; simpa using hx), rfl, rfl, (by rw [(show setAt (rowI v7) (0 + (Int.toNat (j : Int)) * 1) [.int .i64 (e1 + (e * (v5_1 - v5_0)))] = rowI (v7.set j (e1 + (e * (v5_1 - v5_0)))) from row_set cI (s := 1) (k := 0) (fun _ => rfl) h2 rfl (by first | decide | simp))]; exact row_part cI (s := 1) (k := 0) (m := 1) (fun _ => rfl) (by decide) h3), (⟨by decide, by decide⟩), q25_1, q26_1, (by have hx := idx_ok h3; simpa using hx), rfl, (by rw [(show setAt (rowI v7) (0 + (Int.toNat (j : Int)) * 1) [.int .i64 (e1 + (e * (v5_1 - v5_0)))] = rowI (v7.set j (e1 + (e * (v5_1 - v5_0)))) from row_set cI (s := 1) (k := 0) (fun _ => rfl) h2 rfl (by first | decide | simp))]; exact row_fits cI (s := 1) (k := 0) (m := 1) (fun _ => rfl) (by decide) h3), rfl, q31_1, trivial⟩ ?_
    have h := h
    simp only [f47G2, f47S2, List.length_set] at h
    rw [(show setAt (rowI v7) (0 + (Int.toNat (j : Int)) * 1) [.int .i64 (e1 + (e * (v5_1 - v5_0)))] = rowI (v7.set j (e1 + (e * (v5_1 - v5_0)))) from row_set cI (s := 1) (k := 0) (fun _ => rfl) h2 rfl (by first | decide | simp))]; rw [(show setAt (rowI (v7.set j (e1 + (e * (v5_1 - v5_0))))) (0 + (Int.toNat ((j : Int) + 1)) * 1) [.int .i64 (e2 + (e * v5_0))] = rowI ((v7.set j (e1 + (e * (v5_1 - v5_0)))).set (j + 1) (e2 + (e * v5_0))) from row_set cI (s := 1) (k := 0) (fun _ => rfl) h3 rfl (by first | decide | simp))]
    exact h
  · have h := h.2 (of_decide_eq_false hc0)
    obtain ⟨q1_1, h⟩ := h
    exact p47_2_1 s plan kd st ps den v5_0 v5_1 j v7 j1 j11 j111   hE ⟨hc0, q1_1, trivial⟩ h
theorem p47_3_0 (s : Stl) (plan : (List Int)) (kd : Int) (st : Int) (ps : Int) (den : Int) (v5_0 : Int) (v5_1 : Int) (v : (List Int)) (v1 : Nat) (num : Int) (v11 : Nat)  (e : Int)  {E : Env} {rv : AV} (hE : PureE Try.prog 47 rv E) (ho : AllP [(decide ((v11 : Int) < (v1 : Int))) = true, 0 ≤ (v11 : Int) ∧ (v11 : Int) < (v.length : Int), ((rowI v).drop (0 + (Int.toNat (v11 : Int)) * 1)).take 1 = [.int .i64 e], InR .i64 (num + e), InR .i64 ((v11 : Int) + 1)])
    (hg : G Try.prog E (f47K3 Try.prog) ⟨[J, J, J, J, J, J, J, J, J, J, .int .i64 (num + e), .int .i64 den, J, J, .ptr 5 0 0, J, J, J, J, J, J, J, J, J, J, J, J, J, J, J, J, J, J, J, J, J, J, J, J, J, J, J, J, J, J, J, J, J, J, J, J, J, J, J, J, J, J, J, J, J, J, J, J, J, J, J, J, J, J, J, J, J, J, J, J, J, J, J, J, J, J, J, J, J, J, J, J, J, J, J, J, J, J, J, J, J, J, J, .rsl (rowI v) 0 v.length, .int .i64 (v1 : Int), .int .i64 ((v11 : Int) + 1), J, J, J, J, J, J, J, J, J, J, J, J, J, J], [⟨true, 0, 1, true, [.rsl (rowStg s.stages) 0 s.stages.length, .rsl (rowI s.worth) 0 s.worth.length, .int .i64 s.price], false⟩, ⟨false, 1, 1, true, [], false⟩, ⟨false, 1, 1, true, [], false⟩, ⟨false, 1, 1, true, [], false⟩, ⟨false, 1, 1, true, [], false⟩, ⟨true, 0, 1, true, [.int .i64 v5_0, .int .i64 v5_1], false⟩, ⟨false, 1, 1, true, [], false⟩]⟩) : G Try.prog E (f47K3 Try.prog) (f47S3 s plan kd st ps den v5_0 v5_1 v v1 num v11 ) :=
  segC_step (n := 400) (ds := []) (cs := []) (live := [10, 11, 14, 98, 99, 100]) (m := 7) (evs := [.b true, .ld (.int .i64 e), .stop]) (obs := _) hE.2.1 (hE.nogh _) mixed (by kernel_rfl) ho hg
theorem p47_3_1 (s : Stl) (plan : (List Int)) (kd : Int) (st : Int) (ps : Int) (den : Int) (v5_0 : Int) (v5_1 : Int) (v : (List Int)) (v1 : Nat) (num : Int) (v11 : Nat)   {E : Env} {res : AV} (hE : PureE Try.prog 47 res E) (ho : AllP [(decide ((v11 : Int) < (v1 : Int))) = false, PureF Try.prog (.clos 87 [] []) [.int .i64 num, .int .i64 den] (.agg [.int .i64 ((fracI num den).num), .int .i64 ((fracI num den).den)]), 2 ≤ 2, (0 : Int) ≤ 0 ∧ (0 : Int) < ((2 : Nat) : Int), (0 : Int) ≤ 1 ∧ (1 : Int) < ((2 : Nat) : Int)])
    (hr : AvLe (.tup [.int .i64 ((fracI num den).num), .int .i64 ((fracI num den).den), .int .i64 0]) res) : G Try.prog E (f47K3 Try.prog) (f47S3 s plan kd st ps den v5_0 v5_1 v v1 num v11 ) :=
  end_stepL (n := 400) (evs := [.b false, .v (.agg [.int .i64 ((fracI num den).num), .int .i64 ((fracI num den).den)])]) (obs := _) hE Try.func47 mixed (by kernel_rfl) ho hr
theorem f47W3 (s : Stl) (plan : (List Int)) (kd : Int) (st : Int) (ps : Int) (den : Int) (v5_0 : Int) (v5_1 : Int) (v : (List Int)) (v1 : Nat) (num : Int) (v11 : Nat) {E : Env} {rv : (Int × Int × Int)} (hE : PureE Try.prog 47 (.tup [.int .i64 rv.1, .int .i64 rv.2.1, .int .i64 rv.2.2]) E)
    (h : (((v11 : Int) < (v1 : Int) → (∃ e : Int, v[v11]? = some e ∧ ((-9223372036854775808 ≤ num + e ∧ num + e ≤ 9223372036854775807) ∧ ((-9223372036854775808 ≤ (v11 : Int) + 1 ∧ (v11 : Int) + 1 ≤ 9223372036854775807) ∧ f47G3 E s plan kd st ps den v5_0 v5_1 v v1 (num + e) (v11 + 1))))) ∧ (¬ ((v11 : Int) < (v1 : Int)) → (((-100000000000000000 ≤ num ∧ num ≤ 100000000000000000) ∧ 0 < den ∧ den ≤ 1000000000000) ∧ rv = ((fracI num den).num, (fracI num den).den, 0))))) : f47G3 E s plan kd st ps den v5_0 v5_1 v v1 num v11 := by
  rcases Bool.eq_false_or_eq_true (decide ((v11 : Int) < (v1 : Int))) with hc0 | hc0
  · have h := h.1 (of_decide_eq_true hc0)
    obtain ⟨e, h1, h⟩ := h
    obtain ⟨q4_1, h⟩ := h
    obtain ⟨q5_1, h⟩ := h
    exact p47_3_0 s plan kd st ps den v5_0 v5_1 v v1 num v11  e hE ⟨hc0, (idx_ok h1), (row_part cI (s := 1) (k := 0) (m := 1) (fun _ => rfl) (by decide) h1), q4_1, q5_1, trivial⟩ h
  · have h := h.2 (of_decide_eq_false hc0)
    obtain ⟨h1, h⟩ := h
    exact p47_3_1 s plan kd st ps den v5_0 v5_1 v v1 num v11   hE ⟨hc0, (pureF_of Try.func87 (by kernel_rfl) f87b (frac_ok num den h1)), (by decide), (⟨by decide, by decide⟩), (⟨by decide, by decide⟩), trivial⟩ (AvLe.of_eq (by rw [h]; try rfl))
theorem f48b : Try.f48.body = some (bodyAt Try.prog 48) := by kernel_rfl
def f48K0 (P : Program) : List Item := kAt 400 [.code (bodyAt P 48)] [.b false, .b false, .stop]
def f48S0 (s : Stl) (plan : (List Int)) (kd : Int) (st : Int) (ps : Int) (num : Int) (den : Int) (power : Int) (i : Nat)  : St := ⟨[J, J, J, .int .i64 st, .int .i64 ps, J, J, J, J, J, J, J, J, J, J, .int .i64 num, .int .i64 den, .int .i64 power, .int .i64 (i : Int), J, J, J, J, J, J, J, J, J, J, J, J, J, J, J, J, J, J, J, J, J, J, J, J, J, J, J, J, J, J, J, J, J, J, J, J, J, J, J, J, J, J, J, J, J, J, J, J, J, J, J, J, J, J, J, J, J, J, J, J, J, J, J, J, J, J, J, J, J, J, J, J, J, J, J, J, J, J, J, J, J, J, J, J, J, J, J, J, J, J, J, J, J, J, J, J, J, J, J, J, J, J, J, J, J, J, J, J, J, J, J, J, J, J, J, J, J, J, J, J, J, J, J, J, J], [⟨true, 0, 1, true, [.rsl (rowStg s.stages) 0 s.stages.length, .rsl (rowI s.worth) 0 s.worth.length, .int .i64 s.price], false⟩]⟩
def f48G0 (E : Env) (s : Stl) (plan : (List Int)) (kd : Int) (st : Int) (ps : Int) (num : Int) (den : Int) (power : Int) (i : Nat) : Prop := G Try.prog E (f48K0 Try.prog) (f48S0 s plan kd st ps num den power i )
def f48K1 (P : Program) : List Item := kAt 400 [.code (bodyAt P 48)] [.b false, .b false, .b false, .stop]
def f48S1 (s : Stl) (plan : (List Int)) (kd : Int) (st : Int) (ps : Int) (num : Int) (den : Int) (power : Int) (ways : (List Int)) (i : Nat)  : St := ⟨[J, J, J, .int .i64 st, .int .i64 ps, J, J, J, J, J, J, J, J, J, J, .int .i64 num, .int .i64 den, .int .i64 power, J, .rsl (rowI ways) 0 ways.length, .int .i64 (i : Int), J, J, J, J, J, J, J, J, J, J, J, J, J, J, J, J, J, J, J, J, J, J, J, J, J, J, J, J, J, J, J, J, J, J, J, J, J, J, J, J, J, J, J, J, J, J, J, J, J, J, J, J, J, J, J, J, J, J, J, J, J, J, J, J, J, J, J, J, J, J, J, J, J, J, J, J, J, J, J, J, J, J, J, J, J, J, J, J, J, J, J, J, J, J, J, J, J, J, J, J, J, J, J, J, J, J, J, J, J, J, J, J, J, J, J, J, J, J, J, J, J, J, J], [⟨true, 0, 1, true, [.rsl (rowStg s.stages) 0 s.stages.length, .rsl (rowI s.worth) 0 s.worth.length, .int .i64 s.price], false⟩, ⟨false, 1, 1, true, [], false⟩]⟩
def f48G1 (E : Env) (s : Stl) (plan : (List Int)) (kd : Int) (st : Int) (ps : Int) (num : Int) (den : Int) (power : Int) (ways : (List Int)) (i : Nat) : Prop := G Try.prog E (f48K1 Try.prog) (f48S1 s plan kd st ps num den power ways i )
def f48K2 (P : Program) : List Item := kAt 400 [.code (bodyAt P 48)] [.b false, .b false, .b false, .b true, .stop]
def f48S2 (s : Stl) (plan : (List Int)) (kd : Int) (st : Int) (ps : Int) (num : Int) (den : Int) (power : Int) (k : Nat) (v2 : List Int) (ways : (List Int)) (i : Nat)  : St := ⟨[J, J, J, .int .i64 st, .int .i64 ps, J, J, J, J, J, J, J, J, J, J, .int .i64 num, .int .i64 den, .int .i64 power, J, .rsl (rowI ways) 0 ways.length, .int .i64 (i : Int), .sl 2 0 0 v2.length 1, .int .i64 (k : Int), J, J, J, J, J, J, J, J, J, J, J, J, J, J, J, J, J, J, J, J, J, J, J, J, J, J, J, J, J, J, J, J, J, J, J, J, J, J, J, J, J, J, J, J, J, J, J, J, J, J, J, J, J, J, J, J, J, J, J, J, J, J, J, J, J, J, J, J, J, J, J, J, J, J, J, J, J, J, J, J, J, J, J, J, J, J, J, J, J, J, J, J, J, J, J, J, J, J, J, J, J, J, J, J, J, J, J, J, J, J, J, J, J, J, J, J, J, J, J, J, J], [⟨true, 0, 1, true, [.rsl (rowStg s.stages) 0 s.stages.length, .rsl (rowI s.worth) 0 s.worth.length, .int .i64 s.price], false⟩, ⟨false, 1, 1, true, [], false⟩, ⟨true, 0, 1, true, (rowI v2), true⟩]⟩
def f48G2 (E : Env) (s : Stl) (plan : (List Int)) (kd : Int) (st : Int) (ps : Int) (num : Int) (den : Int) (power : Int) (k : Nat) (v2 : List Int) (ways : (List Int)) (i : Nat) : Prop := G Try.prog E (f48K2 Try.prog) (f48S2 s plan kd st ps num den power k v2 ways i )
def f48K3 (P : Program) : List Item := kAt 400 [.code (bodyAt P 48)] [.b false, .b false, .b false, .b false, .stop]
def f48S3 (s : Stl) (plan : (List Int)) (kd : Int) (st : Int) (ps : Int) (power : Int) (ways : (List Int)) (sum : Int) (k : Nat)  : St := ⟨[J, J, J, .int .i64 st, J, J, J, J, J, J, J, J, J, J, J, J, J, .int .i64 power, J, .rsl (rowI ways) 0 ways.length, J, J, J, .int .i64 sum, .int .i64 (k : Int), J, J, J, J, J, J, J, J, J, J, J, J, J, J, J, J, J, J, J, J, J, J, J, J, J, J, J, J, J, J, J, J, J, J, J, J, J, J, J, J, J, J, J, J, J, J, J, J, J, J, J, J, J, J, J, J, J, J, J, J, J, J, J, J, J, J, J, J, J, J, J, J, J, J, J, J, J, J, J, J, J, J, J, J, J, J, J, J, J, J, J, J, J, J, J, J, J, J, J, J, J, J, J, J, J, J, J, J, J, J, J, J, J, J, J, J, J, J, J], [⟨true, 0, 1, true, [.rsl (rowStg s.stages) 0 s.stages.length, .rsl (rowI s.worth) 0 s.worth.length, .int .i64 s.price], false⟩, ⟨false, 1, 1, true, [], false⟩]⟩
def f48G3 (E : Env) (s : Stl) (plan : (List Int)) (kd : Int) (st : Int) (ps : Int) (power : Int) (ways : (List Int)) (sum : Int) (k : Nat) : Prop := G Try.prog E (f48K3 Try.prog) (f48S3 s plan kd st ps power ways sum k )
theorem p48_start_0 (s : Stl) (plan : (List Int)) (kd : Int) (st : Int) (ps : Int)   {E : Env} {res : AV} (hE : PureE Try.prog 48 res E) (ho : AllP [PureF Try.prog (.clos 41 [] []) [.agg [.rsl (rowStg s.stages) 0 s.stages.length, .rsl (rowI s.worth) 0 s.worth.length, .int .i64 s.price], .rsl (rowI plan) 0 plan.length] (.tup [.rsl (rowFr ((plannedK s plan).1)) 0 (((plannedK s plan).1).length), .int .i64 ((plannedK s plan).2)]), ((plannedK s plan).2 != 0) = true])
    (hr : AvLe (.tup [.int .i64 0, .int .i64 0, .int .i64 ((plannedK s plan).2)]) res) : G Try.prog E [.code (bodyAt Try.prog 48)] ⟨[.agg [.rsl (rowStg s.stages) 0 s.stages.length, .rsl (rowI s.worth) 0 s.worth.length, .int .i64 s.price], .rsl (rowI plan) 0 plan.length, .int .i64 kd, .int .i64 st, .int .i64 ps] ++ unds (Try.f48.ntmps - 5), []⟩ :=
  end_stepL (n := 400) (evs := [.v (.tup [.rsl (rowFr ((plannedK s plan).1)) 0 (((plannedK s plan).1).length), .int .i64 ((plannedK s plan).2)]), .b true]) (obs := _) hE Try.func48 mixed (by kernel_rfl) ho hr
theorem p48_start_1 (s : Stl) (plan : (List Int)) (kd : Int) (st : Int) (ps : Int)   {E : Env} {res : AV} (hE : PureE Try.prog 48 res E) (ho : AllP [PureF Try.prog (.clos 41 [] []) [.agg [.rsl (rowStg s.stages) 0 s.stages.length, .rsl (rowI s.worth) 0 s.worth.length, .int .i64 s.price], .rsl (rowI plan) 0 plan.length] (.tup [.rsl (rowFr ((plannedK s plan).1)) 0 (((plannedK s plan).1).length), .int .i64 ((plannedK s plan).2)]), ((plannedK s plan).2 != 0) = false, InR .i64 ((s.worth.length : Int) - 1), PureF Try.prog (.clos 62 [] []) [.int .i64 kd, .int .i64 0, .int .i64 ((s.worth.length : Int) - 1)] (.bool (within kd 0 ((s.worth.length : Int) - 1))), (!(within kd 0 ((s.worth.length : Int) - 1))) = true, true = true, true = true])
    (hr : AvLe (.tup [.int .i64 0, .int .i64 0, .int .i64 1]) res) : G Try.prog E [.code (bodyAt Try.prog 48)] ⟨[.agg [.rsl (rowStg s.stages) 0 s.stages.length, .rsl (rowI s.worth) 0 s.worth.length, .int .i64 s.price], .rsl (rowI plan) 0 plan.length, .int .i64 kd, .int .i64 st, .int .i64 ps] ++ unds (Try.f48.ntmps - 5), []⟩ :=
  end_stepL (n := 400) (evs := [.v (.tup [.rsl (rowFr ((plannedK s plan).1)) 0 (((plannedK s plan).1).length), .int .i64 ((plannedK s plan).2)]), .b false, .v (.bool (within kd 0 ((s.worth.length : Int) - 1))), .b true, .b true, .b true]) (obs := _) hE Try.func48 mixed (by kernel_rfl) ho hr
theorem p48_start_2 (s : Stl) (plan : (List Int)) (kd : Int) (st : Int) (ps : Int)   {E : Env} {res : AV} (hE : PureE Try.prog 48 res E) (ho : AllP [PureF Try.prog (.clos 41 [] []) [.agg [.rsl (rowStg s.stages) 0 s.stages.length, .rsl (rowI s.worth) 0 s.worth.length, .int .i64 s.price], .rsl (rowI plan) 0 plan.length] (.tup [.rsl (rowFr ((plannedK s plan).1)) 0 (((plannedK s plan).1).length), .int .i64 ((plannedK s plan).2)]), ((plannedK s plan).2 != 0) = false, InR .i64 ((s.worth.length : Int) - 1), PureF Try.prog (.clos 62 [] []) [.int .i64 kd, .int .i64 0, .int .i64 ((s.worth.length : Int) - 1)] (.bool (within kd 0 ((s.worth.length : Int) - 1))), (!(within kd 0 ((s.worth.length : Int) - 1))) = false, PureF Try.prog (.clos 62 [] []) [.int .i64 st, .int .i64 0, .int .i64 1000] (.bool (within st 0 1000)), (!(within st 0 1000)) = true, true = true])
    (hr : AvLe (.tup [.int .i64 0, .int .i64 0, .int .i64 1]) res) : G Try.prog E [.code (bodyAt Try.prog 48)] ⟨[.agg [.rsl (rowStg s.stages) 0 s.stages.length, .rsl (rowI s.worth) 0 s.worth.length, .int .i64 s.price], .rsl (rowI plan) 0 plan.length, .int .i64 kd, .int .i64 st, .int .i64 ps] ++ unds (Try.f48.ntmps - 5), []⟩ :=
  end_stepL (n := 400) (evs := [.v (.tup [.rsl (rowFr ((plannedK s plan).1)) 0 (((plannedK s plan).1).length), .int .i64 ((plannedK s plan).2)]), .b false, .v (.bool (within kd 0 ((s.worth.length : Int) - 1))), .b false, .v (.bool (within st 0 1000)), .b true, .b true]) (obs := _) hE Try.func48 mixed (by kernel_rfl) ho hr
theorem p48_start_3 (s : Stl) (plan : (List Int)) (kd : Int) (st : Int) (ps : Int)   {E : Env} {res : AV} (hE : PureE Try.prog 48 res E) (ho : AllP [PureF Try.prog (.clos 41 [] []) [.agg [.rsl (rowStg s.stages) 0 s.stages.length, .rsl (rowI s.worth) 0 s.worth.length, .int .i64 s.price], .rsl (rowI plan) 0 plan.length] (.tup [.rsl (rowFr ((plannedK s plan).1)) 0 (((plannedK s plan).1).length), .int .i64 ((plannedK s plan).2)]), ((plannedK s plan).2 != 0) = false, InR .i64 ((s.worth.length : Int) - 1), PureF Try.prog (.clos 62 [] []) [.int .i64 kd, .int .i64 0, .int .i64 ((s.worth.length : Int) - 1)] (.bool (within kd 0 ((s.worth.length : Int) - 1))), (!(within kd 0 ((s.worth.length : Int) - 1))) = false, PureF Try.prog (.clos 62 [] []) [.int .i64 st, .int .i64 0, .int .i64 1000] (.bool (within st 0 1000)), (!(within st 0 1000)) = false, PureF Try.prog (.clos 62 [] []) [.int .i64 ps, .int .i64 0, .int .i64 1000] (.bool (within ps 0 1000)), (!(within ps 0 1000)) = true])
    (hr : AvLe (.tup [.int .i64 0, .int .i64 0, .int .i64 1]) res) : G Try.prog E [.code (bodyAt Try.prog 48)] ⟨[.agg [.rsl (rowStg s.stages) 0 s.stages.length, .rsl (rowI s.worth) 0 s.worth.length, .int .i64 s.price], .rsl (rowI plan) 0 plan.length, .int .i64 kd, .int .i64 st, .int .i64 ps] ++ unds (Try.f48.ntmps - 5), []⟩ :=
  end_stepL (n := 400) (evs := [.v (.tup [.rsl (rowFr ((plannedK s plan).1)) 0 (((plannedK s plan).1).length), .int .i64 ((plannedK s plan).2)]), .b false, .v (.bool (within kd 0 ((s.worth.length : Int) - 1))), .b false, .v (.bool (within st 0 1000)), .b false, .v (.bool (within ps 0 1000)), .b true]) (obs := _) hE Try.func48 mixed (by kernel_rfl) ho hr
theorem p48_start_4 (s : Stl) (plan : (List Int)) (kd : Int) (st : Int) (ps : Int)  (fe : Fr)  {E : Env} {rv : AV} (hE : PureE Try.prog 48 rv E) (ho : AllP [PureF Try.prog (.clos 41 [] []) [.agg [.rsl (rowStg s.stages) 0 s.stages.length, .rsl (rowI s.worth) 0 s.worth.length, .int .i64 s.price], .rsl (rowI plan) 0 plan.length] (.tup [.rsl (rowFr ((plannedK s plan).1)) 0 (((plannedK s plan).1).length), .int .i64 ((plannedK s plan).2)]), ((plannedK s plan).2 != 0) = false, InR .i64 ((s.worth.length : Int) - 1), PureF Try.prog (.clos 62 [] []) [.int .i64 kd, .int .i64 0, .int .i64 ((s.worth.length : Int) - 1)] (.bool (within kd 0 ((s.worth.length : Int) - 1))), (!(within kd 0 ((s.worth.length : Int) - 1))) = false, PureF Try.prog (.clos 62 [] []) [.int .i64 st, .int .i64 0, .int .i64 1000] (.bool (within st 0 1000)), (!(within st 0 1000)) = false, PureF Try.prog (.clos 62 [] []) [.int .i64 ps, .int .i64 0, .int .i64 1000] (.bool (within ps 0 1000)), (!(within ps 0 1000)) = false, 0 ≤ kd ∧ kd < ((((plannedK s plan).1).length : Nat) : Int), (0 : Int) ≤ 0 ∧ (0 : Int) < ((2 : Nat) : Int), ((rowFr ((plannedK s plan).1)).drop ((0 + (Int.toNat kd) * 2) + 0)).take 1 = [.int .i64 fe.num], 0 ≤ kd ∧ kd < ((((plannedK s plan).1).length : Nat) : Int), (0 : Int) ≤ 1 ∧ (1 : Int) < ((2 : Nat) : Int), ((rowFr ((plannedK s plan).1)).drop ((0 + (Int.toNat kd) * 2) + 1)).take 1 = [.int .i64 fe.den]])
    (hg : G Try.prog E (f48K0 Try.prog) ⟨[J, J, J, .int .i64 st, .int .i64 ps, J, J, J, J, J, J, J, J, J, J, .int .i64 fe.num, .int .i64 fe.den, .int .i64 1, .int .i64 0, J, J, J, J, J, J, J, J, J, J, J, J, J, J, J, J, J, J, J, J, J, J, J, J, J, J, J, J, J, J, J, J, J, J, J, J, J, J, J, J, J, J, J, J, J, J, J, J, J, J, J, J, J, J, J, J, J, J, J, J, J, J, J, J, J, J, J, J, J, J, J, J, J, J, J, J, J, J, J, J, J, J, J, J, J, J, J, J, J, J, J, J, J, J, J, J, J, J, J, J, J, J, J, J, J, J, J, J, J, J, J, J, J, J, J, J, J, J, J, J, J, J, J, J, J], [⟨true, 0, 1, true, [.rsl (rowStg s.stages) 0 s.stages.length, .rsl (rowI s.worth) 0 s.worth.length, .int .i64 s.price], false⟩]⟩) : G Try.prog E [.code (bodyAt Try.prog 48)] ⟨[.agg [.rsl (rowStg s.stages) 0 s.stages.length, .rsl (rowI s.worth) 0 s.worth.length, .int .i64 s.price], .rsl (rowI plan) 0 plan.length, .int .i64 kd, .int .i64 st, .int .i64 ps] ++ unds (Try.f48.ntmps - 5), []⟩ :=
  segC_step (n := 400) (ds := []) (cs := []) (live := [3, 4, 15, 16, 17, 18]) (m := 1) (evs := [.v (.tup [.rsl (rowFr ((plannedK s plan).1)) 0 (((plannedK s plan).1).length), .int .i64 ((plannedK s plan).2)]), .b false, .v (.bool (within kd 0 ((s.worth.length : Int) - 1))), .b false, .v (.bool (within st 0 1000)), .b false, .v (.bool (within ps 0 1000)), .b false, .ld (.int .i64 fe.num), .ld (.int .i64 fe.den), .stop]) (obs := _) hE.2.1 (hE.nogh _) mixed (by kernel_rfl) ho hg
theorem f48W (s : Stl) (plan : (List Int)) (kd : Int) (st : Int) (ps : Int) {E : Env} {rv : (Int × Int × Int)} (hE : PureE Try.prog 48 (.tup [.int .i64 rv.1, .int .i64 rv.2.1, .int .i64 rv.2.2]) E)
    (h : (((s.stages.length ≤ 9223372036854775807 ∧ s.worth.length ≤ 9223372036854775807) ∧ plan.length ≤ 9223372036854775807) ∧ ((¬ ((plannedK s plan).2 = 0) → rv = (0, 0, (plannedK s plan).2)) ∧ ((plannedK s plan).2 = 0 → ((-9223372036854775808 ≤ (s.worth.length : Int) - 1 ∧ (s.worth.length : Int) - 1 ≤ 9223372036854775807) ∧ (((within kd 0 ((s.worth.length : Int) - 1)) = false → rv = (0, 0, 1)) ∧ ((within kd 0 ((s.worth.length : Int) - 1)) = true → (((within st 0 1000) = false → rv = (0, 0, 1)) ∧ ((within st 0 1000) = true → (((within ps 0 1000) = false → rv = (0, 0, 1)) ∧ ((within ps 0 1000) = true → (0 ≤ kd ∧ (∃ fe : Fr, ((plannedK s plan).1)[Int.toNat kd]? = some fe ∧ f48G0 E s plan kd st ps fe.num fe.den 1 0))))))))))))) : G Try.prog E [.code (bodyAt Try.prog 48)] ⟨[.agg [.rsl (rowStg s.stages) 0 s.stages.length, .rsl (rowI s.worth) 0 s.worth.length, .int .i64 s.price], .rsl (rowI plan) 0 plan.length, .int .i64 kd, .int .i64 st, .int .i64 ps] ++ unds (Try.f48.ntmps - 5), []⟩ := by
  obtain ⟨h1, h⟩ := h
  rcases Bool.eq_false_or_eq_true ((plannedK s plan).2 != 0) with hc0 | hc0
  · have h := h.1 (bneT hc0)
    exact p48_start_0 s plan kd st ps    hE ⟨(pureF_of Try.func41 (by kernel_rfl) f41b (plannedR_ok s plan h1)), hc0, trivial⟩ (AvLe.of_eq (by rw [h]; try rfl))
  · have h := h.2 (bneF hc0)
    obtain ⟨q2_1, h⟩ := h
    rcases Bool.eq_false_or_eq_true (!(within kd 0 ((s.worth.length : Int) - 1))) with hc1 | hc1
    · have h := h.1 (bnT hc1)
      exact p48_start_1 s plan kd st ps    hE ⟨(pureF_of Try.func41 (by kernel_rfl) f41b (plannedR_ok s plan h1)), hc0, q2_1, (pureF_of Try.func62 (by kernel_rfl) f62b (withinR_ok kd 0 ((s.worth.length : Int) - 1))), hc1, rfl, rfl, trivial⟩ (AvLe.of_eq (by rw [h]; try rfl))
    · have h := h.2 (bnF hc1)
      rcases Bool.eq_false_or_eq_true (!(within st 0 1000)) with hc2 | hc2
      · have h := h.1 (bnT hc2)
        exact p48_start_2 s plan kd st ps    hE ⟨(pureF_of Try.func41 (by kernel_rfl) f41b (plannedR_ok s plan h1)), hc0, q2_1, (pureF_of Try.func62 (by kernel_rfl) f62b (withinR_ok kd 0 ((s.worth.length : Int) - 1))), hc1, (pureF_of Try.func62 (by kernel_rfl) f62b (withinR_ok st 0 1000)), hc2, rfl, trivial⟩ (AvLe.of_eq (by rw [h]; try rfl))
      · have h := h.2 (bnF hc2)
        rcases Bool.eq_false_or_eq_true (!(within ps 0 1000)) with hc3 | hc3
        · have h := h.1 (bnT hc3)
          exact p48_start_3 s plan kd st ps    hE ⟨(pureF_of Try.func41 (by kernel_rfl) f41b (plannedR_ok s plan h1)), hc0, q2_1, (pureF_of Try.func62 (by kernel_rfl) f62b (withinR_ok kd 0 ((s.worth.length : Int) - 1))), hc1, (pureF_of Try.func62 (by kernel_rfl) f62b (withinR_ok st 0 1000)), hc2, (pureF_of Try.func62 (by kernel_rfl) f62b (withinR_ok ps 0 1000)), hc3, trivial⟩ (AvLe.of_eq (by rw [h]; try rfl))
        · have h := h.2 (bnF hc3)
          obtain ⟨h3, h⟩ := h
          obtain ⟨fe, h2, h⟩ := h
          exact p48_start_4 s plan kd st ps   fe hE ⟨(pureF_of Try.func41 (by kernel_rfl) f41b (plannedR_ok s plan h1)), hc0, q2_1, (pureF_of Try.func62 (by kernel_rfl) f62b (withinR_ok kd 0 ((s.worth.length : Int) - 1))), hc1, (pureF_of Try.func62 (by kernel_rfl) f62b (withinR_ok st 0 1000)), hc2, (pureF_of Try.func62 (by kernel_rfl) f62b (withinR_ok ps 0 1000)), hc3, (idx_ok' h3 h2), (⟨by decide, by decide⟩), (row_part cFr (s := 2) (k := 0) (m := 1) (fun _ => rfl) (by decide) h2), (idx_ok' h3 h2), (⟨by decide, by decide⟩), (row_part cFr (s := 2) (k := 1) (m := 1) (fun _ => rfl) (by decide) h2), trivial⟩ h
theorem p48_0_0 (s : Stl) (plan : (List Int)) (kd : Int) (st : Int) (ps : Int) (num : Int) (den : Int) (power : Int) (i : Nat)   {E : Env} {res : AV} (hE : PureE Try.prog 48 res E) (ho : AllP [(decide ((i : Int) < ps)) = true, InR .i64 (Int.tdiv 1000000000000 den), den ≠ 0, (decide (power > (Int.tdiv 1000000000000 den))) = true])
    (hr : AvLe (.tup [.int .i64 0, .int .i64 0, .int .i64 2]) res) : G Try.prog E (f48K0 Try.prog) (f48S0 s plan kd st ps num den power i ) :=
  end_stepL (n := 400) (evs := [.b true, .b true]) (obs := _) hE Try.func48 mixed (by kernel_rfl) ho hr
theorem p48_0_1 (s : Stl) (plan : (List Int)) (kd : Int) (st : Int) (ps : Int) (num : Int) (den : Int) (power : Int) (i : Nat)   {E : Env} {rv : AV} (hE : PureE Try.prog 48 rv E) (ho : AllP [(decide ((i : Int) < ps)) = true, InR .i64 (Int.tdiv 1000000000000 den), den ≠ 0, (decide (power > (Int.tdiv 1000000000000 den))) = false, InR .i64 (power * den), InR .i64 ((i : Int) + 1)])
    (hg : G Try.prog E (f48K0 Try.prog) ⟨[J, J, J, .int .i64 st, .int .i64 ps, J, J, J, J, J, J, J, J, J, J, .int .i64 num, .int .i64 den, .int .i64 (power * den), .int .i64 ((i : Int) + 1), J, J, J, J, J, J, J, J, J, J, J, J, J, J, J, J, J, J, J, J, J, J, J, J, J, J, J, J, J, J, J, J, J, J, J, J, J, J, J, J, J, J, J, J, J, J, J, J, J, J, J, J, J, J, J, J, J, J, J, J, J, J, J, J, J, J, J, J, J, J, J, J, J, J, J, J, J, J, J, J, J, J, J, J, J, J, J, J, J, J, J, J, J, J, J, J, J, J, J, J, J, J, J, J, J, J, J, J, J, J, J, J, J, J, J, J, J, J, J, J, J, J, J, J, J], [⟨true, 0, 1, true, [.rsl (rowStg s.stages) 0 s.stages.length, .rsl (rowI s.worth) 0 s.worth.length, .int .i64 s.price], false⟩]⟩) : G Try.prog E (f48K0 Try.prog) (f48S0 s plan kd st ps num den power i ) :=
  segC_step (n := 400) (ds := []) (cs := []) (live := [3, 4, 15, 16, 17, 18]) (m := 1) (evs := [.b true, .b false, .stop]) (obs := _) hE.2.1 (hE.nogh _) mixed (by kernel_rfl) ho hg
theorem p48_0_2 (s : Stl) (plan : (List Int)) (kd : Int) (st : Int) (ps : Int) (num : Int) (den : Int) (power : Int) (i : Nat)   {E : Env} {rv : AV} (hE : PureE Try.prog 48 rv E) (ho : AllP [(decide ((i : Int) < ps)) = false])
    (hg : G Try.prog E (f48K1 Try.prog) ⟨[J, J, J, .int .i64 st, .int .i64 ps, J, J, J, J, J, J, J, J, J, J, .int .i64 num, .int .i64 den, .int .i64 power, J, .rsl ([.int .i64 1]) 0 1, .int .i64 0, J, J, J, J, J, J, J, J, J, J, J, J, J, J, J, J, J, J, J, J, J, J, J, J, J, J, J, J, J, J, J, J, J, J, J, J, J, J, J, J, J, J, J, J, J, J, J, J, J, J, J, J, J, J, J, J, J, J, J, J, J, J, J, J, J, J, J, J, J, J, J, J, J, J, J, J, J, J, J, J, J, J, J, J, J, J, J, J, J, J, J, J, J, J, J, J, J, J, J, J, J, J, J, J, J, J, J, J, J, J, J, J, J, J, J, J, J, J, J, J, J, J, J], [⟨true, 0, 1, true, [.rsl (rowStg s.stages) 0 s.stages.length, .rsl (rowI s.worth) 0 s.worth.length, .int .i64 s.price], false⟩, ⟨false, 1, 1, true, [], false⟩]⟩) : G Try.prog E (f48K0 Try.prog) (f48S0 s plan kd st ps num den power i ) :=
  segC_step (n := 400) (ds := []) (cs := []) (live := [3, 4, 15, 16, 17, 19, 20]) (m := 2) (evs := [.b false, .wt 19, .stop]) (obs := _) hE.2.1 (hE.nogh _) mixed (by kernel_rfl) ho hg
theorem f48W0 (s : Stl) (plan : (List Int)) (kd : Int) (st : Int) (ps : Int) (num : Int) (den : Int) (power : Int) (i : Nat) {E : Env} {rv : (Int × Int × Int)} (hE : PureE Try.prog 48 (.tup [.int .i64 rv.1, .int .i64 rv.2.1, .int .i64 rv.2.2]) E)
    (h : (((i : Int) < ps → ((-9223372036854775808 ≤ Int.tdiv 1000000000000 den ∧ Int.tdiv 1000000000000 den ≤ 9223372036854775807) ∧ (den ≠ 0 ∧ ((power > (Int.tdiv 1000000000000 den) → rv = (0, 0, 2)) ∧ (¬ (power > (Int.tdiv 1000000000000 den)) → ((-9223372036854775808 ≤ power * den ∧ power * den ≤ 9223372036854775807) ∧ ((-9223372036854775808 ≤ (i : Int) + 1 ∧ (i : Int) + 1 ≤ 9223372036854775807) ∧ f48G0 E s plan kd st ps num den (power * den) (i + 1)))))))) ∧ (¬ ((i : Int) < ps) → f48G1 E s plan kd st ps num den power ([1] : List Int) 0))) : f48G0 E s plan kd st ps num den power i := by
  rcases Bool.eq_false_or_eq_true (decide ((i : Int) < ps)) with hc0 | hc0
  · have h := h.1 (of_decide_eq_true hc0)
    obtain ⟨q1_1, h⟩ := h
    obtain ⟨q2_1, h⟩ := h
    rcases Bool.eq_false_or_eq_true (decide (power > (Int.tdiv 1000000000000 den))) with hc1 | hc1
    · have h := h.1 (of_decide_eq_true hc1)
      exact p48_0_0 s plan kd st ps num den power i   hE ⟨hc0, q1_1, q2_1, hc1, trivial⟩ (AvLe.of_eq (by rw [h]; try rfl))
    · have h := h.2 (of_decide_eq_false hc1)
      obtain ⟨q4_2, h⟩ := h
      obtain ⟨q5_2, h⟩ := h
      exact p48_0_1 s plan kd st ps num den power i   hE ⟨hc0, q1_1, q2_1, hc1, q4_2, q5_2, trivial⟩ h
  · have h := h.2 (of_decide_eq_false hc0)
    exact p48_0_2 s plan kd st ps num den power i   hE ⟨hc0, trivial⟩ h
theorem p48_1_0 (s : Stl) (plan : (List Int)) (kd : Int) (st : Int) (ps : Int) (num : Int) (den : Int) (power : Int) (ways : (List Int)) (i : Nat)   {E : Env} {rv : AV} (hE : PureE Try.prog 48 rv E) (ho : AllP [(decide ((i : Int) < ps)) = true, InR .i64 ((ways.length : Int) + 1), 0 ≤ ((ways.length : Int) + 1) ∧ ((ways.length : Int) + 1) ≤ ((ways.length : Int) + 1) ∧ ((ways.length : Int) + 1) ≤ 2147483648])
    (hg : G Try.prog E (f48K2 Try.prog) ⟨[J, J, J, .int .i64 st, .int .i64 ps, J, J, J, J, J, J, J, J, J, J, .int .i64 num, .int .i64 den, .int .i64 power, J, .rsl (rowI ways) 0 ways.length, .int .i64 (i : Int), .sl 2 0 0 (Int.toNat ((ways.length : Int) + 1)) 1, .int .i64 0, J, J, J, J, J, J, J, J, J, J, J, J, J, J, J, J, J, J, J, J, J, J, J, J, J, J, J, J, J, J, J, J, J, J, J, J, J, J, J, J, J, J, J, J, J, J, J, J, J, J, J, J, J, J, J, J, J, J, J, J, J, J, J, J, J, J, J, J, J, J, J, J, J, J, J, J, J, J, J, J, J, J, J, J, J, J, J, J, J, J, J, J, J, J, J, J, J, J, J, J, J, J, J, J, J, J, J, J, J, J, J, J, J, J, J, J, J, J, J, J, J], [⟨true, 0, 1, true, [.rsl (rowStg s.stages) 0 s.stages.length, .rsl (rowI s.worth) 0 s.worth.length, .int .i64 s.price], false⟩, ⟨false, 1, 1, true, [], false⟩, ⟨true, 0, 1, true, ((List.replicate (Int.toNat ((ways.length : Int) + 1)) ([.int .i64 0] : List AV)).flatten), true⟩]⟩) : G Try.prog E (f48K1 Try.prog) (f48S1 s plan kd st ps num den power ways i ) :=
  segC_step (n := 400) (ds := []) (cs := []) (live := [3, 4, 15, 16, 17, 19, 20, 21, 22]) (m := 3) (evs := [.b true, .stop]) (obs := _) hE.2.1 (hE.nogh _) mixed (by kernel_rfl) ho hg
theorem p48_1_1 (s : Stl) (plan : (List Int)) (kd : Int) (st : Int) (ps : Int) (num : Int) (den : Int) (power : Int) (ways : (List Int)) (i : Nat)   {E : Env} {rv : AV} (hE : PureE Try.prog 48 rv E) (ho : AllP [(decide ((i : Int) < ps)) = false])
    (hg : G Try.prog E (f48K3 Try.prog) ⟨[J, J, J, .int .i64 st, J, J, J, J, J, J, J, J, J, J, J, J, J, .int .i64 power, J, .rsl (rowI ways) 0 ways.length, J, J, J, .int .i64 0, .int .i64 0, J, J, J, J, J, J, J, J, J, J, J, J, J, J, J, J, J, J, J, J, J, J, J, J, J, J, J, J, J, J, J, J, J, J, J, J, J, J, J, J, J, J, J, J, J, J, J, J, J, J, J, J, J, J, J, J, J, J, J, J, J, J, J, J, J, J, J, J, J, J, J, J, J, J, J, J, J, J, J, J, J, J, J, J, J, J, J, J, J, J, J, J, J, J, J, J, J, J, J, J, J, J, J, J, J, J, J, J, J, J, J, J, J, J, J, J, J, J, J], [⟨true, 0, 1, true, [.rsl (rowStg s.stages) 0 s.stages.length, .rsl (rowI s.worth) 0 s.worth.length, .int .i64 s.price], false⟩, ⟨false, 1, 1, true, [], false⟩]⟩) : G Try.prog E (f48K1 Try.prog) (f48S1 s plan kd st ps num den power ways i ) :=
  segC_step (n := 400) (ds := []) (cs := []) (live := [3, 17, 19, 23, 24]) (m := 2) (evs := [.b false, .stop]) (obs := _) hE.2.1 (hE.nogh _) mixed (by kernel_rfl) ho hg
theorem f48W1 (s : Stl) (plan : (List Int)) (kd : Int) (st : Int) (ps : Int) (num : Int) (den : Int) (power : Int) (ways : (List Int)) (i : Nat) {E : Env} {rv : (Int × Int × Int)} (hE : PureE Try.prog 48 (.tup [.int .i64 rv.1, .int .i64 rv.2.1, .int .i64 rv.2.2]) E)
    (h : (((i : Int) < ps → ((-9223372036854775808 ≤ (ways.length : Int) + 1 ∧ (ways.length : Int) + 1 ≤ 9223372036854775807) ∧ ((ways.length + 1) ≤ 2147483648 ∧ f48G2 E s plan kd st ps num den power 0 (List.replicate (ways.length + 1) (0 : Int)) ways i))) ∧ (¬ ((i : Int) < ps) → f48G3 E s plan kd st ps power ways 0 0))) : f48G1 E s plan kd st ps num den power ways i := by
  rcases Bool.eq_false_or_eq_true (decide ((i : Int) < ps)) with hc0 | hc0
  · have h := h.1 (of_decide_eq_true hc0)
    obtain ⟨q1_1, h⟩ := h
    obtain ⟨h1, h⟩ := h
    refine p48_1_0 s plan kd st ps num den power ways i   hE ⟨hc0, q1_1, ⟨by omega, by omega, by have := h1; omega⟩, trivial⟩ ?_
    have h := h
    simp only [f48G2, f48S2, List.length_set, List.length_replicate] at h
    rw [(show (List.replicate (Int.toNat ((ways.length : Int) + 1)) ([.int .i64 0] : List AV)).flatten = rowI (List.replicate (ways.length + 1) (0 : Int)) from row_rep cI _ _)]
    exact h
  · have h := h.2 (of_decide_eq_false hc0)
    exact p48_1_1 s plan kd st ps num den power ways i   hE ⟨hc0, trivial⟩ h
theorem p48_2_0 (s : Stl) (plan : (List Int)) (kd : Int) (st : Int) (ps : Int) (num : Int) (den : Int) (power : Int) (k : Nat) (v2 : List Int) (ways : (List Int)) (i : Nat)  (e : Int) (e1 : Int) (e2 : Int)  {E : Env} {rv : AV} (hE : PureE Try.prog 48 rv E) (ho : AllP [(decide ((k : Int) < (ways.length : Int))) = true, 0 ≤ (k : Int) ∧ (k : Int) < (v2.length : Int), 0 = 0, 0 = 0, ((rowI v2).drop (0 + (Int.toNat (k : Int)) * 1)).take 1 = [.int .i64 e], 0 ≤ (k : Int) ∧ (k : Int) < (ways.length : Int), ((rowI ways).drop (0 + (Int.toNat (k : Int)) * 1)).take 1 = [.int .i64 e1], InR .i64 (den - num), InR .i64 (e1 * (den - num)), InR .i64 (e + (e1 * (den - num))), 0 ≤ (k : Int) ∧ (k : Int) < (v2.length : Int), 0 = 0, ((0 + (Int.toNat (k : Int)) * 1) + 1) ≤ (rowI v2).length, 0 = 0, InR .i64 ((k : Int) + 1), 0 ≤ ((k : Int) + 1) ∧ ((k : Int) + 1) < (v2.length : Int), 0 = 0, 0 = 0, ((setAt (rowI v2) (0 + (Int.toNat (k : Int)) * 1) [.int .i64 (e + (e1 * (den - num)))]).drop (0 + (Int.toNat ((k : Int) + 1)) * 1)).take 1 = [.int .i64 e2], 0 ≤ (k : Int) ∧ (k : Int) < (ways.length : Int), ((rowI ways).drop (0 + (Int.toNat (k : Int)) * 1)).take 1 = [.int .i64 e1], InR .i64 (e1 * num), InR .i64 (e2 + (e1 * num)), 0 ≤ ((k : Int) + 1) ∧ ((k : Int) + 1) < (v2.length : Int), 0 = 0, ((0 + (Int.toNat ((k : Int) + 1)) * 1) + 1) ≤ (setAt (rowI v2) (0 + (Int.toNat (k : Int)) * 1) [.int .i64 (e + (e1 * (den - num)))]).length, 0 = 0, InR .i64 ((k : Int) + 1)])
    (hg : G Try.prog E (f48K2 Try.prog) ⟨[J, J, J, .int .i64 st, .int .i64 ps, J, J, J, J, J, J, J, J, J, J, .int .i64 num, .int .i64 den, .int .i64 power, J, .rsl (rowI ways) 0 ways.length, .int .i64 (i : Int), .sl 2 0 0 v2.length 1, .int .i64 ((k : Int) + 1), J, J, J, J, J, J, J, J, J, J, J, J, J, J, J, J, J, J, J, J, J, J, J, J, J, J, J, J, J, J, J, J, J, J, J, J, J, J, J, J, J, J, J, J, J, J, J, J, J, J, J, J, J, J, J, J, J, J, J, J, J, J, J, J, J, J, J, J, J, J, J, J, J, J, J, J, J, J, J, J, J, J, J, J, J, J, J, J, J, J, J, J, J, J, J, J, J, J, J, J, J, J, J, J, J, J, J, J, J, J, J, J, J, J, J, J, J, J, J, J, J], [⟨true, 0, 1, true, [.rsl (rowStg s.stages) 0 s.stages.length, .rsl (rowI s.worth) 0 s.worth.length, .int .i64 s.price], false⟩, ⟨false, 1, 1, true, [], false⟩, ⟨true, 0, 1, true, (setAt (setAt (rowI v2) (0 + (Int.toNat (k : Int)) * 1) [.int .i64 (e + (e1 * (den - num)))]) (0 + (Int.toNat ((k : Int) + 1)) * 1) [.int .i64 (e2 + (e1 * num))]), true⟩]⟩) : G Try.prog E (f48K2 Try.prog) (f48S2 s plan kd st ps num den power k v2 ways i ) :=
  segC_step (n := 400) (ds := []) (cs := []) (live := [3, 4, 15, 16, 17, 19, 20, 21, 22]) (m := 3) (evs := [.b true, .ld (.int .i64 e), .ld (.int .i64 e1), .ld (.int .i64 e2), .ld (.int .i64 e1), .stop]) (obs := _) hE.2.1 (hE.nogh _) mixed (by kernel_rfl) ho hg
theorem p48_2_1 (s : Stl) (plan : (List Int)) (kd : Int) (st : Int) (ps : Int) (num : Int) (den : Int) (power : Int) (k : Nat) (v2 : List Int) (ways : (List Int)) (i : Nat)   {E : Env} {rv : AV} (hE : PureE Try.prog 48 rv E) (ho : AllP [(decide ((k : Int) < (ways.length : Int))) = false, InR .i64 ((i : Int) + 1)])
    (hg : G Try.prog E (f48K1 Try.prog) ⟨[J, J, J, .int .i64 st, .int .i64 ps, J, J, J, J, J, J, J, J, J, J, .int .i64 num, .int .i64 den, .int .i64 power, J, .rsl (rowI v2) 0 v2.length, .int .i64 ((i : Int) + 1), J, J, J, J, J, J, J, J, J, J, J, J, J, J, J, J, J, J, J, J, J, J, J, J, J, J, J, J, J, J, J, J, J, J, J, J, J, J, J, J, J, J, J, J, J, J, J, J, J, J, J, J, J, J, J, J, J, J, J, J, J, J, J, J, J, J, J, J, J, J, J, J, J, J, J, J, J, J, J, J, J, J, J, J, J, J, J, J, J, J, J, J, J, J, J, J, J, J, J, J, J, J, J, J, J, J, J, J, J, J, J, J, J, J, J, J, J, J, J, J, J, J, J], [⟨true, 0, 1, true, [.rsl (rowStg s.stages) 0 s.stages.length, .rsl (rowI s.worth) 0 s.worth.length, .int .i64 s.price], false⟩, ⟨false, 1, 1, true, [], false⟩]⟩) : G Try.prog E (f48K2 Try.prog) (f48S2 s plan kd st ps num den power k v2 ways i ) :=
  segC_step (n := 400) (ds := []) (cs := []) (live := [3, 4, 15, 16, 17, 19, 20]) (m := 2) (evs := [.b false, .wt 19, .stop]) (obs := _) hE.2.1 (hE.nogh _) mixed (by kernel_rfl) ho hg
theorem f48W2 (s : Stl) (plan : (List Int)) (kd : Int) (st : Int) (ps : Int) (num : Int) (den : Int) (power : Int) (k : Nat) (v2 : List Int) (ways : (List Int)) (i : Nat) {E : Env} {rv : (Int × Int × Int)} (hE : PureE Try.prog 48 (.tup [.int .i64 rv.1, .int .i64 rv.2.1, .int .i64 rv.2.2]) E)
    (h : (((k : Int) < (ways.length : Int) → (∃ e : Int, v2[k]? = some e ∧ (∃ e1 : Int, ways[k]? = some e1 ∧ ((-9223372036854775808 ≤ den - num ∧ den - num ≤ 9223372036854775807) ∧ ((-9223372036854775808 ≤ e1 * (den - num) ∧ e1 * (den - num) ≤ 9223372036854775807) ∧ ((-9223372036854775808 ≤ e + (e1 * (den - num)) ∧ e + (e1 * (den - num)) ≤ 9223372036854775807) ∧ ((-9223372036854775808 ≤ (k : Int) + 1 ∧ (k : Int) + 1 ≤ 9223372036854775807) ∧ (∃ e2 : Int, (v2.set k (e + (e1 * (den - num))))[k + 1]? = some e2 ∧ ((-9223372036854775808 ≤ e1 * num ∧ e1 * num ≤ 9223372036854775807) ∧ ((-9223372036854775808 ≤ e2 + (e1 * num) ∧ e2 + (e1 * num) ≤ 9223372036854775807) ∧ ((-9223372036854775808 ≤ (k : Int) + 1 ∧ (k : Int) + 1 ≤ 9223372036854775807) ∧ f48G2 E s plan kd st ps num den power (k + 1) ((v2.set k (e + (e1 * (den - num)))).set (k + 1) (e2 + (e1 * num))) ways i))))))))))) ∧ (¬ ((k : Int) < (ways.length : Int)) → ((-9223372036854775808 ≤ (i : Int) + 1 ∧ (i : Int) + 1 ≤ 9223372036854775807) ∧ f48G1 E s plan kd st ps num den power v2 (i + 1))))) : f48G2 E s plan kd st ps num den power k v2 ways i := by
  rcases Bool.eq_false_or_eq_true (decide ((k : Int) < (ways.length : Int))) with hc0 | hc0
  · have h := h.1 (of_decide_eq_true hc0)
    obtain ⟨e, h1, h⟩ := h
    obtain ⟨e1, h2, h⟩ := h
    obtain ⟨q9_1, h⟩ := h
    obtain ⟨q10_1, h⟩ := h
    obtain ⟨q11_1, h⟩ := h
    obtain ⟨q16_1, h⟩ := h
    obtain ⟨e2, h3, h⟩ := h
    obtain ⟨q24_1, h⟩ := h
    obtain ⟨q25_1, h⟩ := h
    obtain ⟨q30_1, h⟩ := h
    refine p48_2_0 s plan kd st ps num den power k v2 ways i  e e1 e2 hE ⟨hc0, (idx_ok h1), rfl, rfl, (row_part cI (s := 1) (k := 0) (m := 1) (fun _ => rfl) (by decide) h1), (idx_ok h2), (row_part cI (s := 1) (k := 0) (m := 1) (fun _ => rfl) (by decide) h2), q9_1, q10_1, q11_1, (idx_ok h1), rfl, (row_fits cI (s := 1) (k := 0) (m := 1) (fun _ => rfl) (by decide) h1), rfl, q16_1, (by have hx := idx_ok h3; simpa using hx), rfl, rfl, (by rw [(show setAt (rowI v2) (0 + (Int.toNat (k : Int)) * 1) [.int .i64 (e + (e1 * (den - num)))] = rowI (v2.set k (e + (e1 * (den - num)))) from row_set cI (s := 1) (k := 0) (fun _ => rfl) h1 rfl (by first | decide | simp))]; exact row_part cI (s := 1) (k := 0) (m := 1) (fun _ => rfl) (by decide) h3), (idx_ok h2), (row_part cI (s := 1) (k := 0) (m := 1) (fun _ => rfl) (by decide) h2), q24_1, q25_1, (by have hx := idx_ok h3; simpa using hx), rfl, (by rw [(show setAt (rowI v2) (0 + (Int.toNat (k : Int)) * 1) [.int .i64 (e + (e1 * (den - num)))] = rowI (v2.set k (e + (e1 * (den - num)))) from row_set cI (s := 1) (k := 0) (fun _ => rfl) h1 rfl (by first | decide | simp))]; exact row_fits cI (s := 1) (k := 0) (m := 1) (fun _ => rfl) (by decide) h3), rfl, q30_1, trivial⟩ ?_
    have h := h
    simp only [f48G2, f48S2, List.length_set] at h
    rw [(show setAt (rowI v2) (0 + (Int.toNat (k : Int)) * 1) [.int .i64 (e + (e1 * (den - num)))] = rowI (v2.set k (e + (e1 * (den - num)))) from row_set cI (s := 1) (k := 0) (fun _ => rfl) h1 rfl (by first | decide | simp))]; rw [(show setAt (rowI (v2.set k (e + (e1 * (den - num))))) (0 + (Int.toNat ((k : Int) + 1)) * 1) [.int .i64 (e2 + (e1 * num))] = rowI ((v2.set k (e + (e1 * (den - num)))).set (k + 1) (e2 + (e1 * num))) from row_set cI (s := 1) (k := 0) (fun _ => rfl) h3 rfl (by first | decide | simp))]
    exact h
  · have h := h.2 (of_decide_eq_false hc0)
    obtain ⟨q1_1, h⟩ := h
    exact p48_2_1 s plan kd st ps num den power k v2 ways i   hE ⟨hc0, q1_1, trivial⟩ h
theorem p48_3_0 (s : Stl) (plan : (List Int)) (kd : Int) (st : Int) (ps : Int) (power : Int) (ways : (List Int)) (sum : Int) (k : Nat)  (e : Int)  {E : Env} {rv : AV} (hE : PureE Try.prog 48 rv E) (ho : AllP [(decide ((k : Int) < (ways.length : Int))) = true, (decide ((k : Int) ≤ st)) = true, 0 ≤ (k : Int) ∧ (k : Int) < (ways.length : Int), ((rowI ways).drop (0 + (Int.toNat (k : Int)) * 1)).take 1 = [.int .i64 e], InR .i64 (sum + e), InR .i64 ((k : Int) + 1)])
    (hg : G Try.prog E (f48K3 Try.prog) ⟨[J, J, J, .int .i64 st, J, J, J, J, J, J, J, J, J, J, J, J, J, .int .i64 power, J, .rsl (rowI ways) 0 ways.length, J, J, J, .int .i64 (sum + e), .int .i64 ((k : Int) + 1), J, J, J, J, J, J, J, J, J, J, J, J, J, J, J, J, J, J, J, J, J, J, J, J, J, J, J, J, J, J, J, J, J, J, J, J, J, J, J, J, J, J, J, J, J, J, J, J, J, J, J, J, J, J, J, J, J, J, J, J, J, J, J, J, J, J, J, J, J, J, J, J, J, J, J, J, J, J, J, J, J, J, J, J, J, J, J, J, J, J, J, J, J, J, J, J, J, J, J, J, J, J, J, J, J, J, J, J, J, J, J, J, J, J, J, J, J, J, J], [⟨true, 0, 1, true, [.rsl (rowStg s.stages) 0 s.stages.length, .rsl (rowI s.worth) 0 s.worth.length, .int .i64 s.price], false⟩, ⟨false, 1, 1, true, [], false⟩]⟩) : G Try.prog E (f48K3 Try.prog) (f48S3 s plan kd st ps power ways sum k ) :=
  segC_step (n := 400) (ds := []) (cs := []) (live := [3, 17, 19, 23, 24]) (m := 2) (evs := [.b true, .b true, .ld (.int .i64 e), .stop]) (obs := _) hE.2.1 (hE.nogh _) mixed (by kernel_rfl) ho hg
theorem p48_3_1 (s : Stl) (plan : (List Int)) (kd : Int) (st : Int) (ps : Int) (power : Int) (ways : (List Int)) (sum : Int) (k : Nat)   {E : Env} {res : AV} (hE : PureE Try.prog 48 res E) (ho : AllP [(decide ((k : Int) < (ways.length : Int))) = true, (decide ((k : Int) ≤ st)) = false, PureF Try.prog (.clos 49 [] []) [.int .i64 power, .int .i64 sum] (.int .i64 (gcdI power sum)), InR .i64 (Int.tdiv sum (gcdI power sum)), (gcdI power sum) ≠ 0, InR .i64 (Int.tdiv power (gcdI power sum)), (gcdI power sum) ≠ 0])
    (hr : AvLe (.tup [.int .i64 (Int.tdiv sum (gcdI power sum)), .int .i64 (Int.tdiv power (gcdI power sum)), .int .i64 0]) res) : G Try.prog E (f48K3 Try.prog) (f48S3 s plan kd st ps power ways sum k ) :=
  end_stepL (n := 400) (evs := [.b true, .b false, .v (.int .i64 (gcdI power sum))]) (obs := _) hE Try.func48 mixed (by kernel_rfl) ho hr
theorem p48_3_2 (s : Stl) (plan : (List Int)) (kd : Int) (st : Int) (ps : Int) (power : Int) (ways : (List Int)) (sum : Int) (k : Nat)   {E : Env} {res : AV} (hE : PureE Try.prog 48 res E) (ho : AllP [(decide ((k : Int) < (ways.length : Int))) = false, false = false, PureF Try.prog (.clos 49 [] []) [.int .i64 power, .int .i64 sum] (.int .i64 (gcdI power sum)), InR .i64 (Int.tdiv sum (gcdI power sum)), (gcdI power sum) ≠ 0, InR .i64 (Int.tdiv power (gcdI power sum)), (gcdI power sum) ≠ 0])
    (hr : AvLe (.tup [.int .i64 (Int.tdiv sum (gcdI power sum)), .int .i64 (Int.tdiv power (gcdI power sum)), .int .i64 0]) res) : G Try.prog E (f48K3 Try.prog) (f48S3 s plan kd st ps power ways sum k ) :=
  end_stepL (n := 400) (evs := [.b false, .b false, .v (.int .i64 (gcdI power sum))]) (obs := _) hE Try.func48 mixed (by kernel_rfl) ho hr
theorem f48W3 (s : Stl) (plan : (List Int)) (kd : Int) (st : Int) (ps : Int) (power : Int) (ways : (List Int)) (sum : Int) (k : Nat) {E : Env} {rv : (Int × Int × Int)} (hE : PureE Try.prog 48 (.tup [.int .i64 rv.1, .int .i64 rv.2.1, .int .i64 rv.2.2]) E)
    (h : (((k : Int) < (ways.length : Int) → (((k : Int) ≤ st → (∃ e : Int, ways[k]? = some e ∧ ((-9223372036854775808 ≤ sum + e ∧ sum + e ≤ 9223372036854775807) ∧ ((-9223372036854775808 ≤ (k : Int) + 1 ∧ (k : Int) + 1 ≤ 9223372036854775807) ∧ f48G3 E s plan kd st ps power ways (sum + e) (k + 1))))) ∧ (¬ ((k : Int) ≤ st) → ((0 ≤ power ∧ 0 ≤ sum) ∧ ((-9223372036854775808 ≤ Int.tdiv sum (gcdI power sum) ∧ Int.tdiv sum (gcdI power sum) ≤ 9223372036854775807) ∧ ((gcdI power sum) ≠ 0 ∧ ((-9223372036854775808 ≤ Int.tdiv power (gcdI power sum) ∧ Int.tdiv power (gcdI power sum) ≤ 9223372036854775807) ∧ ((gcdI power sum) ≠ 0 ∧ rv = ((Int.tdiv sum (gcdI power sum)), (Int.tdiv power (gcdI power sum)), 0))))))))) ∧ (¬ ((k : Int) < (ways.length : Int)) → ((0 ≤ power ∧ 0 ≤ sum) ∧ ((-9223372036854775808 ≤ Int.tdiv sum (gcdI power sum) ∧ Int.tdiv sum (gcdI power sum) ≤ 9223372036854775807) ∧ ((gcdI power sum) ≠ 0 ∧ ((-9223372036854775808 ≤ Int.tdiv power (gcdI power sum) ∧ Int.tdiv power (gcdI power sum) ≤ 9223372036854775807) ∧ ((gcdI power sum) ≠ 0 ∧ rv = ((Int.tdiv sum (gcdI power sum)), (Int.tdiv power (gcdI power sum)), 0))))))))) : f48G3 E s plan kd st ps power ways sum k := by
  rcases Bool.eq_false_or_eq_true (decide ((k : Int) < (ways.length : Int))) with hc0 | hc0
  · have h := h.1 (of_decide_eq_true hc0)
    rcases Bool.eq_false_or_eq_true (decide ((k : Int) ≤ st)) with hc1 | hc1
    · have h := h.1 (of_decide_eq_true hc1)
      obtain ⟨e, h1, h⟩ := h
      obtain ⟨q5_2, h⟩ := h
      obtain ⟨q6_2, h⟩ := h
      exact p48_3_0 s plan kd st ps power ways sum k  e hE ⟨hc0, hc1, (idx_ok h1), (row_part cI (s := 1) (k := 0) (m := 1) (fun _ => rfl) (by decide) h1), q5_2, q6_2, trivial⟩ h
    · have h := h.2 (of_decide_eq_false hc1)
      obtain ⟨h1, h⟩ := h
      obtain ⟨q3_2, h⟩ := h
      obtain ⟨q4_2, h⟩ := h
      obtain ⟨q5_2, h⟩ := h
      obtain ⟨q6_2, h⟩ := h
      exact p48_3_1 s plan kd st ps power ways sum k   hE ⟨hc0, hc1, (pureF_of Try.func49 (by kernel_rfl) f49b (gcd_ok power sum h1)), q3_2, q4_2, q5_2, q6_2, trivial⟩ (AvLe.of_eq (by rw [h]; try rfl))
  · have h := h.2 (of_decide_eq_false hc0)
    obtain ⟨h1, h⟩ := h
    obtain ⟨q3_1, h⟩ := h
    obtain ⟨q4_1, h⟩ := h
    obtain ⟨q5_1, h⟩ := h
    obtain ⟨q6_1, h⟩ := h
    exact p48_3_2 s plan kd st ps power ways sum k   hE ⟨hc0, rfl, (pureF_of Try.func49 (by kernel_rfl) f49b (gcd_ok power sum h1)), q3_1, q4_1, q5_1, q6_1, trivial⟩ (AvLe.of_eq (by rw [h]; try rfl))

theorem enough_ok (s : Stl) (plan : List Int) (kd st ps : Int) (h : (s.stages.length ≤ 9223372036854775807 ∧ s.worth.length ≤ 9223372036854775807)) : Pure Try.prog 47 [avStl s, .rsl (rowI plan) 0 plan.length, .int .i64 kd, .int .i64 st, .int .i64 ps] (.tup [.int .i64 (enoughK s plan kd st ps).1, .int .i64 (enoughK s plan kd st ps).2.1, .int .i64 (enoughK s plan kd st ps).2.2]) := pure_of Try.func47 f47b fun E hE => by
  have main : planE s plan = 0 → within kd 0 ((s.worth.length : Int) - 1) = true → within st 0 1000 = true → within ps 0 1000 = true → f47G0 E s plan kd st ps 1 0 := by
    intro he hk hst hps
    obtain ⟨hc, hpl⟩ := planE_of he
    obtain ⟨hm, es⟩ := mok_G (isSome_of hc)
    have hrv : enoughK s plan kd st ps = enoughF (enF s plan kd) st (Int.toNat ps) := by rw [enoughK, if_pos he, hk, hst, hps]; rfl
    have hst := within_iff.1 hst
    have hps := within_iff.1 hps
    obtain ⟨f1, f2, f3, f4⟩ := first_one hm (kd := kd) (ch := fun i _ => planI plan i) (wok_plan (by rw [es]; exact hpl))
    have ef : enF s plan kd = firstI (machG s) (onlyI kd) (fun i _ => planI plan i) := rfl
    rw [← ef] at f1 f2 f3 f4
    have ef2 : ∀ i : Nat, f47G0 E s plan kd st ps (powN (enF s plan kd).den i) i → f47G0 E s plan kd st ps (powN (enF s plan kd).den i) i := fun _ h => h
    generalize enF s plan kd = f at *
    have hnps : ((Int.toNat ps : Nat) : Int) = ps := by omega
    generalize Int.toNat ps = n at *
    -- the last sum
    have last : powN f.den n ≤ 1000000000000 → f47G1 E s plan kd st ps (powN f.den n) f.num f.den (waysN f.num (f.den - f.num) n) n := by
      intro hp
      have hnn := waysN_nn (n := n) f1 (show 0 ≤ f.den - f.num by omega)
      have hsum := waysN_sum (a := f.num) (b := f.den - f.num) (n := n)
      rw [show f.num + (f.den - f.num) = f.den by omega] at hsum
      have hpp := powN_pos f3 (n := n)
      have hlen := waysN_len (a := f.num) (b := f.den - f.num) (n := n)
      have hrv2 : enoughK s plan kd st ps = ((fracI (enN f st n) (powN f.den n)).num, (fracI (enN f st n) (powN f.den n)).den, 0) := by rw [hrv, enoughF, if_pos hp]
      unfold enN at hrv2
      generalize waysN f.num (f.den - f.num) n = W at *
      have hL := enN_take (w := W) (st := st) hst.1
      have hml : Int.toNat (iMin (st + 1) W.length) ≤ W.length := by unfold iMin; split <;> omega
      have hml2 : 0 ≤ iMin (st + 1) (W.length : Int) := by unfold iMin; split <;> omega
      refine f47W1 s plan kd st ps (powN f.den n) f.num f.den W n (rv := enoughK s plan kd st ps) hE ⟨fun h => by omega, fun _ => ⟨by omega, hml, hml2, ?_⟩⟩
      rw [← hL] at hrv2
      have hts := take_sum hnn (k := Int.toNat (iMin (st + 1) W.length))
      generalize Int.toNat (iMin (st + 1) W.length) = q at *
      have hql : (W.take q).length = q := by rw [List.length_take]; omega
      have hqn : ∀ x ∈ W.take q, 0 ≤ x := fun x hx => hnn x (List.mem_of_mem_take hx)
      generalize W.take q = L at *
      have loop : ∀ (d k : Nat), k + d = q → f47G3 E s plan kd st ps (powN f.den n) f.num f.den L q (L.take k).sum k := by
        intro d
        induction d with
        | zero =>
          intro k hd
          rw [List.take_of_length_le (by omega)]
          exact f47W3 s plan kd st ps (powN f.den n) f.num f.den L q _ k (rv := enoughK s plan kd st ps) hE ⟨fun h => by omega, fun _ => ⟨⟨by omega, hpp, hp⟩, hrv2⟩⟩
        | succ d ih =>
          intro k hd
          have hk : L[k]? = some L[k] := List.getElem?_eq_getElem (by omega)
          have nx := ih (k + 1) (by omega)
          have t1 := take_sum hqn (k := k)
          have t2 := take_sum hqn (k := k + 1)
          rw [List.take_add_one, hk, List.sum_append] at nx t2 t1
          generalize L[k] = e at *
          simp only [Option.toList_some, List.sum_cons, List.sum_nil, Int.add_zero] at nx t2 t1
          exact f47W3 s plan kd st ps (powN f.den n) f.num f.den L q _ k (rv := enoughK s plan kd st ps) hE ⟨fun _ => ⟨e, hk, by omega, by omega, nx⟩, fun h => by omega⟩
      exact loop q 0 (by omega)
    -- the rounds
    have rounds : powN f.den n ≤ 1000000000000 → ∀ (d i : Nat), i + d = n → f47G1 E s plan kd st ps (powN f.den n) f.num f.den (waysN f.num (f.den - f.num) i) i := by
      intro hp d
      induction d with
      | zero => intro i hd; rw [show i = n by omega]; exact last hp
      | succ d ih =>
        intro i hd
        have nx := ih (i + 1) (by omega)
        have hnn := waysN_nn (n := i) f1 (show 0 ≤ f.den - f.num by omega)
        have hsum := waysN_sum (a := f.num) (b := f.den - f.num) (n := i)
        rw [show f.num + (f.den - f.num) = f.den by omega] at hsum
        have hlen := waysN_len (a := f.num) (b := f.den - f.num) (n := i)
        have hT : (waysN f.num (f.den - f.num) i).sum * (f.num + (f.den - f.num)) ≤ 1000000000000 := by
          rw [show f.num + (f.den - f.num) = f.den by omega, hsum]
          have h1 := powN_mono f3 (n := i + 1) (k := n - (i + 1))
          rw [show i + 1 + (n - (i + 1)) = n by omega] at h1
          have : powN f.den (i + 1) = powN f.den i * f.den := rfl
          omega
        simp only [waysN] at nx
        generalize waysN f.num (f.den - f.num) i = W at *
        have loop : ∀ (d k : Nat) (v : List Int), k + d = W.length → WInv f.num (f.den - f.num) W k v → f47G2 E s plan kd st ps (powN f.den n) f.num f.den k v i W W.length := by
          intro d
          induction d with
          | zero =>
            intro k v hd hv
            rw [show k = W.length by omega] at hv
            have := winv_end hv
            rw [← this] at nx
            refine f47W2 s plan kd st ps (powN f.den n) f.num f.den k v i W W.length (rv := enoughK s plan kd st ps) hE ⟨fun h => by omega, fun _ => ⟨by omega, nx⟩⟩
          | succ d ih2 =>
            intro k v hd hv
            have hx : W[k]? = some W[k] := List.getElem?_eq_getElem (by omega)
            have hvc : v[k]? = some (v.getD k 0) := getD_some (by rw [hv.len]; omega)
            have hvz : v[k + 1]? = some 0 := hv.z (k + 1) (by omega) (by rw [hv.len]; omega)
            generalize W[k] = x at hx
            generalize v.getD k 0 = c at hvc
            obtain ⟨b1, b2, b3, b4, b5, b6, b7⟩ := wbd f1 (show 0 ≤ f.den - f.num by omega) hnn hT hv hx hvc
            have hst := winv_step f1 hv hx b1 hvc
            refine f47W2 s plan kd st ps (powN f.den n) f.num f.den k v i W W.length (rv := enoughK s plan kd st ps) hE ⟨fun _ => ⟨x, hx, c, hvc, by omega, by omega, by omega, by omega, 0, by rw [List.getElem?_set_ne (by omega)]; exact hvz, by omega, by omega, by omega, ih2 (k + 1) _ (by omega) hst⟩, fun h => by omega⟩
        exact f47W1 s plan kd st ps (powN f.den n) f.num f.den W i (rv := enoughK s plan kd st ps) hE ⟨fun _ => ⟨by omega, by omega, loop W.length 0 _ (by omega) winv_0⟩, fun h => by omega⟩
    have pows : ∀ (d i : Nat), i + d = n → powN f.den i ≤ 1000000000000 → f47G0 E s plan kd st ps (powN f.den i) i := by
      intro d
      induction d with
      | zero =>
        intro i hd hp
        have hi : i = n := by omega
        subst hi
        exact f47W0 s plan kd st ps (powN f.den i) i (rv := enoughK s plan kd st ps) hE ⟨fun h => by omega, fun _ => (by rw [← ef]; exact rounds hp i 0 (by omega))⟩
      | succ d ih =>
        intro i hd hp
        have hpp := powN_pos f3 (n := i)
        have nx := ih (i + 1) (by omega)
        simp only [powN] at nx
        have hmo := powN_mono f3 (n := i + 1) (k := n - (i + 1))
        rw [show i + 1 + (n - (i + 1)) = n by omega] at hmo
        have hpe : powN f.den (i + 1) = powN f.den i * f.den := rfl
        have big : powN f.den i * f.den > 1000000000000 → enoughK s plan kd st ps = (0, 0, 2) := fun h => by rw [hrv, enoughF, if_neg (by omega)]
        refine f47W0 s plan kd st ps (powN f.den i) i (rv := enoughK s plan kd st ps) hE ⟨fun _ => ⟨⟨by omega, by rw [← ef]; exact f3⟩, ?_⟩, fun h => by omega⟩
        rw [← ef]
        rcases prod_of (a := powN f.den i) (b := f.den) (by omega) f3 with ⟨h1, h2⟩ | ⟨h1, h2⟩
        · rw [h1]; exact ⟨fun _ => big h2, fun h => (by cases h)⟩
        · rw [h1]; exact ⟨fun h => (by cases h), fun _ => ⟨by omega, nx h2⟩⟩
    have := pows n 0 (by omega) (by simp [powN])
    exact this
  refine f47W s plan kd st ps (rv := enoughK s plan kd st ps) hE ⟨fun h0 => ⟨fun h1 => ⟨h, ?_, ?_⟩, fun h1 => ⟨h, ?_⟩⟩, fun h0 => ⟨h, ?_⟩⟩
  · simp only [rightE, Bool.and_eq_true] at h1
    exact ⟨(mok_G h0).1, h1.1.1.1⟩
  · simp only [rightE, Bool.and_eq_true, kindI] at h1
    rw [(mok_G h0).2] at h1
    exact main (by rw [planE_eq h0, (mok_G h0).2, if_pos h1.1.1.1]) h1.1.1.2 h1.1.2 h1.2
  · rw [rightE, kindI] at h1
    by_cases hp : planOk (machG s).s plan = true
    · have he : planE s plan = 0 := by rw [planE_eq h0, if_pos hp]
      rw [hp, (mok_G h0).2] at h1
      rw [enoughK, if_pos he, if_neg]
      intro hh
      simp only [Bool.and_eq_true] at hh
      rw [hh.1, hh.2.1, hh.2.2] at h1; cases h1
    · have he : planE s plan = 1 := by rw [planE_eq h0, if_neg hp]
      rw [enoughK, if_neg (by omega), he]
  · have he : planE s plan = 60 := by rw [planE, if_neg (fun h => by rw [isSome_iff.2 h] at h0; cases h0)]
    rw [enoughK, if_neg (by omega), he]


theorem enoughR_ok (s : Stl) (plan : List Int) (kd st ps : Int) (h : (s.stages.length ≤ 9223372036854775807 ∧ s.worth.length ≤ 9223372036854775807) ∧ plan.length ≤ 9223372036854775807) : Pure Try.prog 48 [avStl s, .rsl (rowI plan) 0 plan.length, .int .i64 kd, .int .i64 st, .int .i64 ps] (.tup [.int .i64 (enoughK s plan kd st ps).1, .int .i64 (enoughK s plan kd st ps).2.1, .int .i64 (enoughK s plan kd st ps).2.2]) := pure_of Try.func48 f48b fun E hE => by
  have main : planE s plan = 0 → within kd 0 ((s.worth.length : Int) - 1) = true → within st 0 1000 = true → within ps 0 1000 = true → f48G0 E s plan kd st ps (enF s plan kd).num (enF s plan kd).den 1 0 := by
    intro he hk hst hps
    obtain ⟨hc, hpl⟩ := planE_of he
    obtain ⟨hm, es⟩ := mok_G (isSome_of hc)
    have hrv : enoughK s plan kd st ps = enoughF (enF s plan kd) st (Int.toNat ps) := by rw [enoughK, if_pos he, hk, hst, hps]; rfl
    have hst := within_iff.1 hst
    have hps := within_iff.1 hps
    obtain ⟨f1, f2, f3, f4⟩ := first_one hm (kd := kd) (ch := fun i _ => planI plan i) (wok_plan (by rw [es]; exact hpl))
    have ef : enF s plan kd = firstI (machG s) (onlyI kd) (fun i _ => planI plan i) := rfl
    rw [← ef] at f1 f2 f3 f4
    skip
    generalize enF s plan kd = f at *
    have hnps : ((Int.toNat ps : Nat) : Int) = ps := by omega
    generalize Int.toNat ps = n at *
    -- the last sum
    have last : powN f.den n ≤ 1000000000000 → f48G1 E s plan kd st ps f.num f.den (powN f.den n) (waysN f.num (f.den - f.num) n) n := by
      intro hp
      have hnn := waysN_nn (n := n) f1 (show 0 ≤ f.den - f.num by omega)
      have hsum := waysN_sum (a := f.num) (b := f.den - f.num) (n := n)
      rw [show f.num + (f.den - f.num) = f.den by omega] at hsum
      have hpp := powN_pos f3 (n := n)
      have hlen := waysN_len (a := f.num) (b := f.den - f.num) (n := n)
      have hrv2 : enoughK s plan kd st ps = ((fracI (enN f st n) (powN f.den n)).num, (fracI (enN f st n) (powN f.den n)).den, 0) := by rw [hrv, enoughF, if_pos hp]
      unfold enN at hrv2
      generalize waysN f.num (f.den - f.num) n = W at *
      have hts := take_sum hnn (k := Int.toNat (st + 1))
      have hlow : ∀ q : Int, q = (W.take (Int.toNat (st + 1))).sum → (0 ≤ powN f.den n ∧ 0 ≤ q) ∧ (-9223372036854775808 ≤ Int.tdiv q (gcdI (powN f.den n) q) ∧ Int.tdiv q (gcdI (powN f.den n) q) ≤ 9223372036854775807) ∧ gcdI (powN f.den n) q ≠ 0 ∧ (-9223372036854775808 ≤ Int.tdiv (powN f.den n) (gcdI (powN f.den n) q) ∧ Int.tdiv (powN f.den n) (gcdI (powN f.den n) q) ≤ 9223372036854775807) ∧ gcdI (powN f.den n) q ≠ 0 ∧ enoughK s plan kd st ps = (Int.tdiv q (gcdI (powN f.den n) q), Int.tdiv (powN f.den n) (gcdI (powN f.den n) q), 0) := by
        intro q hq
        rw [← hq] at hts hrv2
        have e0 : iMax q (0 - q) = q := by unfold iMax; split <;> omega
        have hg := gcd_pos hpp hts.1
        have le := low_eq (n := q) hpp
        rw [e0] at le
        rw [← le] at hrv2
        have b1 := tdiv_bd (n := q) (B := 1000000000000) (g := gcdI (powN f.den n) q) (by omega) (by omega) (by omega)
        have b2 := tdiv_bd (n := powN f.den n) (B := 1000000000000) (g := gcdI (powN f.den n) q) (by omega) (by omega) (by omega)
        exact ⟨⟨by omega, hts.1⟩, by omega, by omega, by omega, by omega, hrv2⟩
      refine f48W1 s plan kd st ps f.num f.den (powN f.den n) W n (rv := enoughK s plan kd st ps) hE ⟨fun h => by omega, fun _ => ?_⟩
      have loop : ∀ (d k : Nat), k + d = W.length → (k : Int) ≤ st + 1 → f48G3 E s plan kd st ps (powN f.den n) W (W.take k).sum k := by
        intro d
        induction d with
        | zero =>
          intro k hd hk
          refine f48W3 s plan kd st ps (powN f.den n) W _ k (rv := enoughK s plan kd st ps) hE ⟨fun h => by omega, fun _ => hlow _ ?_⟩
          rw [List.take_of_length_le (by omega), List.take_of_length_le (by omega)]
        | succ d ih =>
          intro k hd hks
          have hk : W[k]? = some W[k] := List.getElem?_eq_getElem (by omega)
          refine f48W3 s plan kd st ps (powN f.den n) W _ k (rv := enoughK s plan kd st ps) hE ⟨fun _ => ⟨fun hle => ?_, fun hle => hlow _ ?_⟩, fun h => by omega⟩
          · have nx := ih (k + 1) (by omega) (by omega)
            have t1 := take_sum hnn (k := k)
            have t2 := take_sum hnn (k := k + 1)
            rw [List.take_add_one, hk, List.sum_append] at nx t2 t1
            generalize W[k] = e at *
            simp only [Option.toList_some, List.sum_cons, List.sum_nil, Int.add_zero] at nx t2 t1
            exact ⟨e, hk, by omega, by omega, nx⟩
          · rw [show Int.toNat (st + 1) = k by omega]
      exact loop W.length 0 (by omega) (by omega)
    -- the rounds
    have rounds : powN f.den n ≤ 1000000000000 → ∀ (d i : Nat), i + d = n → f48G1 E s plan kd st ps f.num f.den (powN f.den n) (waysN f.num (f.den - f.num) i) i := by
      intro hp d
      induction d with
      | zero => intro i hd; rw [show i = n by omega]; exact last hp
      | succ d ih =>
        intro i hd
        have nx := ih (i + 1) (by omega)
        have hnn := waysN_nn (n := i) f1 (show 0 ≤ f.den - f.num by omega)
        have hsum := waysN_sum (a := f.num) (b := f.den - f.num) (n := i)
        rw [show f.num + (f.den - f.num) = f.den by omega] at hsum
        have hlen := waysN_len (a := f.num) (b := f.den - f.num) (n := i)
        have hT : (waysN f.num (f.den - f.num) i).sum * (f.num + (f.den - f.num)) ≤ 1000000000000 := by
          rw [show f.num + (f.den - f.num) = f.den by omega, hsum]
          have h1 := powN_mono f3 (n := i + 1) (k := n - (i + 1))
          rw [show i + 1 + (n - (i + 1)) = n by omega] at h1
          have : powN f.den (i + 1) = powN f.den i * f.den := rfl
          omega
        simp only [waysN] at nx
        generalize waysN f.num (f.den - f.num) i = W at *
        have loop : ∀ (d k : Nat) (v : List Int), k + d = W.length → WInv f.num (f.den - f.num) W k v → f48G2 E s plan kd st ps f.num f.den (powN f.den n) k v W i := by
          intro d
          induction d with
          | zero =>
            intro k v hd hv
            rw [show k = W.length by omega] at hv
            have := winv_end hv
            rw [← this] at nx
            refine f48W2 s plan kd st ps f.num f.den (powN f.den n) k v W i (rv := enoughK s plan kd st ps) hE ⟨fun h => by omega, fun _ => ⟨by omega, nx⟩⟩
          | succ d ih2 =>
            intro k v hd hv
            have hx : W[k]? = some W[k] := List.getElem?_eq_getElem (by omega)
            have hvc : v[k]? = some (v.getD k 0) := getD_some (by rw [hv.len]; omega)
            have hvz : v[k + 1]? = some 0 := hv.z (k + 1) (by omega) (by rw [hv.len]; omega)
            generalize W[k] = x at hx
            generalize v.getD k 0 = c at hvc
            obtain ⟨b1, b2, b3, b4, b5, b6, b7⟩ := wbd f1 (show 0 ≤ f.den - f.num by omega) hnn hT hv hx hvc
            have hst := winv_step f1 hv hx b1 hvc
            refine f48W2 s plan kd st ps f.num f.den (powN f.den n) k v W i (rv := enoughK s plan kd st ps) hE ⟨fun _ => ⟨c, hvc, x, hx, by omega, by omega, by omega, by omega, 0, by rw [List.getElem?_set_ne (by omega)]; exact hvz, by omega, by omega, by omega, ih2 (k + 1) _ (by omega) hst⟩, fun h => by omega⟩
        exact f48W1 s plan kd st ps f.num f.den (powN f.den n) W i (rv := enoughK s plan kd st ps) hE ⟨fun _ => ⟨by omega, by omega, loop W.length 0 _ (by omega) winv_0⟩, fun h => by omega⟩
    have pows : ∀ (d i : Nat), i + d = n → powN f.den i ≤ 1000000000000 → f48G0 E s plan kd st ps f.num f.den (powN f.den i) i := by
      intro d
      induction d with
      | zero =>
        intro i hd hp
        have hi : i = n := by omega
        subst hi
        exact f48W0 s plan kd st ps f.num f.den (powN f.den i) i (rv := enoughK s plan kd st ps) hE ⟨fun h => by omega, fun _ => rounds hp i 0 (by omega)⟩
      | succ d ih =>
        intro i hd hp
        have hpp := powN_pos f3 (n := i)
        have nx := ih (i + 1) (by omega)
        simp only [powN] at nx
        have hmo := powN_mono f3 (n := i + 1) (k := n - (i + 1))
        rw [show i + 1 + (n - (i + 1)) = n by omega] at hmo
        have hpe : powN f.den (i + 1) = powN f.den i * f.den := rfl
        have big : powN f.den i * f.den > 1000000000000 → enoughK s plan kd st ps = (0, 0, 2) := fun h => by rw [hrv, enoughF, if_neg (by omega)]
        have iff : powN f.den i * f.den ≤ 1000000000000 ↔ powN f.den i ≤ 1000000000000 / f.den := (Int.le_ediv_iff_mul_le f3).symm
        have e1 : Int.tdiv 1000000000000 f.den = 1000000000000 / f.den := Int.tdiv_eq_ediv_of_nonneg (by omega)
        have e2 := Int.ediv_le_self f.den (show (0 : Int) ≤ 1000000000000 by omega)
        have e3 := Int.ediv_nonneg (show (0 : Int) ≤ 1000000000000 by omega) (show 0 ≤ f.den by omega)
        have mp := Int.mul_pos hpp f3
        exact f48W0 s plan kd st ps f.num f.den (powN f.den i) i (rv := enoughK s plan kd st ps) hE ⟨fun _ => ⟨by omega, by omega, fun h => big (by omega), fun h => ⟨by omega, by omega, nx (by omega)⟩⟩, fun h => by omega⟩
    have := pows n 0 (by omega) (by simp [powN])
    exact this
  refine f48W s plan kd st ps (rv := enoughK s plan kd st ps) hE ⟨h, fun h0 => ?_, fun h0 => ?_⟩
  · have he : ¬ (planE s plan = 0) := fun he => h0 (by rw [plannedK, if_pos he])
    rw [enoughK, if_neg he, plannedK, if_neg he]
  have he : planE s plan = 0 := by
    apply Classical.byContradiction
    intro he
    rw [plannedK, if_neg he] at h0; exact he h0
  have hw := worth_len (planE_of he).1
  have no : ∀ u : Bool, (within kd 0 ((s.worth.length : Int) - 1) && (within st 0 1000 && within ps 0 1000)) = u → u = false → enoughK s plan kd st ps = (0, 0, 1) := fun u h1 h2 => by
    rw [enoughK, if_pos he, h1, h2]; rfl
  refine ⟨by omega, fun h1 => no _ (by rw [h1]; rfl) rfl, fun h1 => ⟨fun h2 => no _ (by rw [h1, h2]; rfl) rfl, fun h2 => ⟨fun h3 => no _ (by rw [h1, h2, h3]; rfl) rfl, fun h3 => ?_⟩⟩⟩
  have hk := within_iff.1 h1
  refine ⟨hk.1, enF s plan kd, ?_, main he h1 h2 h3⟩
  rw [plannedK, if_pos he, planL, List.getElem?_map, List.getElem?_range (by omega)]
  simp only [Option.map_some, enF, Int.toNat_of_nonneg hk.1]

end Go.Proofs.Ytfgmlaeikcfpbaa

namespace Go.Proofs.Ytfgmlaeikcfpbaa
open Go Ax
open Go.Proofs

/-! ### Fractions in parts of the measure -/
def FrV (s : Stl) (a : Fr) : Int := a.num * Int.tdiv (meas0I s) a.den
structure FrOk (s : Stl) (a : Fr) : Prop where
  pos : 0 < a.den
  dvd : a.den ∣ meas0I s
  bd : -100000000000000000 ≤ FrV s a ∧ FrV s a ≤ 100000000000000000
end Go.Proofs.Ytfgmlaeikcfpbaa
