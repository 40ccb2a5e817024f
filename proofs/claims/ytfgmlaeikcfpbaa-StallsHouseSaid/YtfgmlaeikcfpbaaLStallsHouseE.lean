/- A part of the proof: several texts, one behind the other. -/
import Derived.Test.YtfgmlaeikcfpbaaLStallsHouseD
set_option linter.unusedVariables false
set_option linter.unusedSimpArgs false
set_option maxRecDepth 100000
namespace Go.Proofs.Ytfgmlaeikcfpbaa
open Go Ax
open Go.Proofs

/-! ### What the values are, in the end -/
structure VFix (m : Mch) (w : Int → Int) (ch : Int → List Int → Int) (i : Nat) (p : List Int × List Int) : Prop where
  fx : ∀ (j : Nat) (x : Stg), i ≤ j → m.s.stages[j]? = some x →
    (x.kind = 4 → p.1.getD j 0 = (if x.prize ≥ 0 then w x.prize else 0) ∧ p.2.getD j 0 = 0) ∧
    (x.kind = 1 → p.1.getD j 0 = sumW x.turns (nextI m j p.1 x.turns) ∧ p.2.getD j 0 = 0) ∧
    (x.kind ≠ 4 → x.kind ≠ 1 → p.1.getD j 0 = (nextI m j p.1 x.turns).getD (Int.toNat (p.2.getD j 0)) 0 ∧ p.2.getD j 0 = ch j (nextI m j p.1 x.turns))

theorem next_set {m : Mch} {i j : Nat} {a : Int} {V : List Int} {ts : List Trn} (h : ∀ t ∈ ts, i < Int.toNat t.to) : nextI m j (V.set i a) ts = nextI m j V ts := by
  unfold nextI
  apply List.map_congr_left
  intro t ht
  rw [getD_set_ne (by have := h t ht; omega)]

theorem vfix_step {m : Mch} (hm : MOk m) {w : Int → Int} {ch : Int → List Int → Int} {i : Nat} {p : List Int × List Int} (hlt : i < m.s.stages.length) (hp : VOk m (i + 1) p) (hf : VFix m w ch (i + 1) p) : VFix m w ch i (valStep m w ch i p) := by
  have hform := (stPre_of hm.st).2.2.2.2
  have hi : m.s.stages[i]? = some m.s.stages[i] := List.getElem?_eq_getElem hlt
  have hx : m.s.stages.getD i ⟨0, 0, []⟩ = m.s.stages[i] := by simp [List.getD, hi]
  have hto := turns_to hi (hform i hlt)
  have up : ∀ (a : Int) (p' : List Int × List Int), p'.1 = p.1.set i a → (∀ j, i < j → p'.2.getD j 0 = p.2.getD j 0) →
      ((m.s.stages[i].kind = 4 → a = (if m.s.stages[i].prize ≥ 0 then w m.s.stages[i].prize else 0) ∧ p'.2.getD i 0 = 0) ∧
       (m.s.stages[i].kind = 1 → a = sumW m.s.stages[i].turns (nextI m i p.1 m.s.stages[i].turns) ∧ p'.2.getD i 0 = 0) ∧
       (m.s.stages[i].kind ≠ 4 → m.s.stages[i].kind ≠ 1 → a = (nextI m i p.1 m.s.stages[i].turns).getD (Int.toNat (p'.2.getD i 0)) 0 ∧ p'.2.getD i 0 = ch i (nextI m i p.1 m.s.stages[i].turns))) → VFix m w ch i p' := by
    intro a p' e1 e2 e3
    refine ⟨fun j x hj hjx => ?_⟩
    by_cases e : i = j
    · subst e
      rw [hi] at hjx; cases hjx
      rw [e1, next_set (fun t ht => (hto t ht).1), getD_set_self (by rw [hp.l1]; exact hlt)]
      exact e3
    · have h1 := hf.fx j x (by omega) hjx
      have hto2 := turns_to hjx (hform j (List.getElem?_eq_some_iff.1 hjx).1)
      rw [e1, next_set (fun t ht => by have := (hto2 t ht).1; omega), getD_set_ne e, e2 j (by omega)]
      exact h1
  unfold valStep
  rw [hx]
  generalize hxx : m.s.stages[i] = x at *
  split
  · rename_i h4
    split
    · rename_i hpr
      refine up (w x.prize) _ rfl (fun j hj => rfl) ⟨fun _ => ⟨by rw [if_pos hpr], hp.c0 i (by omega)⟩, fun h => by omega, fun h => absurd h4 h⟩
    · rename_i hpr
      refine up 0 _ ?_ (fun j hj => rfl) ⟨fun _ => ⟨by rw [if_neg hpr], hp.c0 i (by omega)⟩, fun h => by omega, fun h => absurd h4 h⟩
      rw [set_same]
      have := getD_some (l := p.1) (i := i) (by rw [hp.l1]; exact hlt)
      rw [hp.lo i (by omega)] at this; exact this
  · rename_i h4
    split
    · rename_i h1
      refine up _ _ rfl (fun j hj => rfl) ⟨fun h => absurd h h4, fun _ => ⟨by rw [hp.lo i (by omega), Int.zero_add], hp.c0 i (by omega)⟩, fun _ h => absurd h1 h⟩
    · rename_i h1
      refine up _ _ rfl (fun j hj => by show (p.2.set i _).getD j 0 = _; rw [getD_set_ne (by omega)]) ⟨fun h => absurd h h4, fun h => absurd h h1, fun _ _ => ?_⟩
      show _ = (nextI m i p.1 x.turns).getD (Int.toNat ((p.2.set i _).getD i 0)) 0 ∧ (p.2.set i _).getD i 0 = _
      rw [getD_set_self (by rw [hp.l2]; exact hlt)]
      exact ⟨rfl, rfl⟩

theorem vfix_all {m : Mch} (hm : MOk m) {w : Int → Int} {ch : Int → List Int → Int} (hw : WOk m w ch) : ∀ {n : Nat} {p : List Int × List Int}, n ≤ m.s.stages.length → VOk m n p → VFix m w ch n p → VFix m w ch 0 (valN m w ch n p)
  | 0, p, _, _, h => h
  | i + 1, p, hn, hp, h => (vfix_all hm hw (n := i) (by omega) (val_step hm hw (by omega) hp) (vfix_step hm (by omega) hp h) : VFix m w ch 0 (valN m w ch i (valStep m w ch i p)))
theorem vfixA {m : Mch} (hm : MOk m) {w : Int → Int} {ch : Int → List Int → Int} (hw : WOk m w ch) : VFix m w ch 0 (valA m w ch) :=
  vfix_all hm hw (Nat.le_refl _) (val_ok0 hm) ⟨fun j x hj hx => by have := (List.getElem?_eq_some_iff.1 hx).1; omega⟩

/-! ### Who chooses -/
def pickF (a : Int) (l : List Int) : Int := if a = 2 then maxI l else minI l
def aimAt (m : Mch) (pa oa : Int) (i : Nat) : Int := if (m.s.stages.getD i ⟨0, 0, []⟩).kind = 3 then oa else pa
theorem choose_val {m : Mch} {pa oa : Int} {i : Nat} {l : List Int} (h : 0 < l.length) : l.getD (Int.toNat (chooseI m pa oa i l)) 0 = pickF (aimAt m pa oa i) l := by
  unfold chooseI pickF aimAt
  rw [Int.toNat_natCast]
  generalize (if (m.s.stages.getD i ⟨0, 0, []⟩).kind = 3 then oa else pa) = a
  split
  · exact getD_of (idxV_mem (maxI_mem h).1).2.2.1
  · exact getD_of (idxV_mem (minI_mem h).1).2.2.1
/-! ### The reference's greatest common divisor is the program's -/
theorem gcdF_int : ∀ {n : Nat} {a b : Int}, 0 ≤ a → 0 ≤ b → b < n → gcdF n a b = (Int.gcd a b : Int)
  | 0, a, b, _, hb, h => by omega
  | n + 1, a, b, ha, hb, h => by
    simp only [gcdF]
    split
    · rename_i h0
      have t0 := Int.tmod_nonneg b ha
      have t1 := Int.tmod_lt_of_pos a h0
      rw [gcdF_int hb t0 (by omega), Int.tmod_eq_emod_of_nonneg ha, Int.gcd_comm a b]
      congr 1
      rw [Int.gcd_comm b (a % b), Int.gcd_comm b a]
      simp only [Int.gcd, Int.natAbs_emod_of_nonneg ha]
      rw [Nat.gcd_comm a.natAbs, Nat.gcd_rec b.natAbs a.natAbs]
    · have : b = 0 := by omega
      subst this
      simp [Int.gcd]; omega
theorem gcdI_int {a b : Int} (ha : 0 ≤ a) (hb : 0 ≤ b) : gcdI a b = (Int.gcd a b : Int) := gcdF_int ha hb (by omega)
theorem gcdI_comm {a b : Int} (ha : 0 ≤ a) (hb : 0 ≤ b) : gcdI a b = gcdI b a := by rw [gcdI_int ha hb, gcdI_int hb ha, Int.gcd_comm]
theorem low_eq {n d : Int} (hd : 0 < d) : (⟨Int.tdiv n (gcdI d (iMax n (0 - n))), Int.tdiv d (gcdI d (iMax n (0 - n)))⟩ : Fr) = fracI n d := by
  have h0 : 0 ≤ iMax n (0 - n) := by unfold iMax; split <;> omega
  have h1 := gcd_pos hd h0
  have e : iMax (gcdI (iMax n (0 - n)) d) 1 = gcdI d (iMax n (0 - n)) := by
    rw [gcdI_comm h0 (by omega)]
    generalize gcdI d (iMax n (0 - n)) = c at h1
    unfold iMax; split <;> omega
  rw [fracI, e]

/-! ### What an end is worth -/
def endsI (s : Stl) (w : Int → Int) : List Int := s.stages.map fun x => if x.kind = 4 ∧ x.prize ≥ 0 then w x.prize else 0
theorem ends_len {s : Stl} {w : Int → Int} : (endsI s w).length = s.stages.length := by rw [endsI, List.length_map]
theorem ends_at {s : Stl} {w : Int → Int} {i : Nat} {x : Stg} (h : s.stages[i]? = some x) : (endsI s w)[i]? = some (if x.kind = 4 ∧ x.prize ≥ 0 then w x.prize else 0) := by
  rw [endsI, List.getElem?_map, h]; rfl
def valuesP (s : Stl) (w : Int → Int) (plan : List Int) : List Int := (valA (machG s) w (fun i _ => planI plan i)).1
theorem isSome_of {s : Stl} (h : checkK s = 0) : (machI s).isSome = true := by
  unfold checkK at h
  split at h
  · assumption
  · omega
theorem measR_of {s : Stl} (h : (machI s).isSome = true) : measR (measA s) = ((machG s).meas, true) := by
  obtain ⟨m, hm⟩ := Option.isSome_iff_exists.1 h
  have : machG s = m := by simp [machG, hm]
  rw [this]
  unfold machI at hm
  split at hm
  · obtain ⟨r, hr, e⟩ := Option.map_eq_some_iff.1 hm
    rw [hr, ← e]; rfl
  · cases hm
theorem f86b : Try.f86.body = some (bodyAt Try.prog 86) := by kernel_rfl
def f86K0 (P : Program) : List Item := kAt 400 [.code (bodyAt P 86)] [.stop]
def f86S0 (s : Stl) (v1 : List Int) (i : Nat) (g1 : Nat) : St := ⟨[J, .ptr 0 0 0, J, .sl 1 g1 0 v1.length 1, .int .i64 (i : Int), J, J, J, J, J, J, J, J, J, J, J, J, J, J, J, J, J, J, J, J, J, J, J, J, J, J, J, J, J, J, J, J, J, J, J, J, J, J, J, J], [⟨true, 0, 1, true, [.rsl (rowStg s.stages) 0 s.stages.length, .rsl (rowI s.worth) 0 s.worth.length, .int .i64 s.price], false⟩, ⟨true, g1, 1, true, (rowI v1), true⟩]⟩
def f86G0 (E : Env) (s : Stl) (v1 : List Int) (i : Nat) : Prop := ∀ g1 : Nat, G Try.prog E (f86K0 Try.prog) (f86S0 s v1 i g1)
theorem p86_start_0 (s : Stl)   {E : Env} {rv : AV} (hE : PureE Try.prog 86 rv E) (ho : AllP [0 ≤ (s.stages.length : Int) ∧ (s.stages.length : Int) ≤ (s.stages.length : Int) ∧ (s.stages.length : Int) ≤ 2147483648])
    (hg : G Try.prog E (f86K0 Try.prog) ⟨[J, .ptr 0 0 0, J, .sl 1 0 0 (Int.toNat (s.stages.length : Int)) 1, .int .i64 0, J, J, J, J, J, J, J, J, J, J, J, J, J, J, J, J, J, J, J, J, J, J, J, J, J, J, J, J, J, J, J, J, J, J, J, J, J, J, J, J], [⟨true, 0, 1, true, [.rsl (rowStg s.stages) 0 s.stages.length, .rsl (rowI s.worth) 0 s.worth.length, .int .i64 s.price], false⟩, ⟨true, 0, 1, true, ((List.replicate (Int.toNat (s.stages.length : Int)) ([.int .i64 0] : List AV)).flatten), true⟩]⟩) : G Try.prog E [.code (bodyAt Try.prog 86)] ⟨[.agg [.rsl (rowStg s.stages) 0 s.stages.length, .rsl (rowI s.worth) 0 s.worth.length, .int .i64 s.price]] ++ unds (Try.f86.ntmps - 1), []⟩ :=
  segC_step (n := 400) (ds := []) (cs := []) (live := [1, 3, 4]) (m := 2) (evs := [.stop]) (obs := _) hE.2.1 (hE.nogh _) mixed (by kernel_rfl) ho hg
theorem f86W (s : Stl) {E : Env} {rv : (List Int)} (hE : PureE Try.prog 86 (.rsl (rowI rv) 0 rv.length) E)
    (h : (s.stages.length ≤ 2147483648 ∧ f86G0 E s (List.replicate s.stages.length (0 : Int)) 0)) : G Try.prog E [.code (bodyAt Try.prog 86)] ⟨[.agg [.rsl (rowStg s.stages) 0 s.stages.length, .rsl (rowI s.worth) 0 s.worth.length, .int .i64 s.price]] ++ unds (Try.f86.ntmps - 1), []⟩ := by
  obtain ⟨h1, h⟩ := h
  refine p86_start_0 s    hE ⟨⟨by omega, by omega, by have := h1; omega⟩, trivial⟩ ?_
  have h := (h 0)
  simp only [f86G0, f86S0, List.length_set, List.length_replicate] at h
  rw [(show (List.replicate (Int.toNat (s.stages.length : Int)) ([.int .i64 0] : List AV)).flatten = rowI (List.replicate s.stages.length (0 : Int)) from row_rep cI _ _)]
  exact h
theorem p86_0_0 (s : Stl) (v1 : List Int) (i : Nat) (g1 : Nat) (se : Stg) (e : Int) (e1 : Int)  {E : Env} {rv : AV} (hE : PureE Try.prog 86 rv E) (ho : AllP [g1 = g1, (decide ((i : Int) < (v1.length : Int))) = true, 0 ≤ (i : Int) ∧ (i : Int) < (s.stages.length : Int), ((rowStg s.stages).drop ((0 + (Int.toNat (i : Int)) * 3) + 0)).take 1 = [.int .i64 se.kind], (se.kind == 4) = true, 0 ≤ (i : Int) ∧ (i : Int) < (s.stages.length : Int), ((rowStg s.stages).drop ((0 + (Int.toNat (i : Int)) * 3) + 1)).take 1 = [.int .i64 se.prize], (decide (se.prize ≥ 0)) = true, 0 ≤ (i : Int) ∧ (i : Int) < (s.stages.length : Int), ((rowStg s.stages).drop ((0 + (Int.toNat (i : Int)) * 3) + 1)).take 1 = [.int .i64 se.prize], 0 ≤ se.prize ∧ se.prize < (s.worth.length : Int), ((rowI s.worth).drop (0 + (Int.toNat se.prize) * 1)).take 1 = [.int .i64 e], 0 ≤ (i : Int) ∧ (i : Int) < (v1.length : Int), g1 = g1, ((0 + (Int.toNat (i : Int)) * 1) + 1) ≤ (rowI v1).length, g1 = g1, InR .i64 ((i : Int) + 1)])
    (hg : G Try.prog E (f86K0 Try.prog) ⟨[J, .ptr 0 0 0, J, .sl 1 g1 0 v1.length 1, .int .i64 ((i : Int) + 1), J, J, J, J, J, J, J, J, J, J, J, J, J, J, J, J, J, J, J, J, J, J, J, J, J, J, J, J, J, J, J, J, J, J, J, J, J, J, J, J], [⟨true, 0, 1, true, [.rsl (rowStg s.stages) 0 s.stages.length, .rsl (rowI s.worth) 0 s.worth.length, .int .i64 s.price], false⟩, ⟨true, g1, 1, true, (setAt (rowI v1) (0 + (Int.toNat (i : Int)) * 1) [.int .i64 e]), true⟩]⟩) : G Try.prog E (f86K0 Try.prog) (f86S0 s v1 i g1) :=
  segC_step (n := 400) (ds := []) (cs := []) (live := [1, 3, 4]) (m := 2) (evs := [.b true, .auto, .ld (.int .i64 se.kind), .b true, .auto, .ld (.int .i64 se.prize), .b true, .auto, .auto, .ld (.int .i64 se.prize), .ld (.int .i64 e), .stop]) (obs := _) hE.2.1 (hE.nogh _) mixed (by kernel_rfl) ho hg
theorem p86_0_1 (s : Stl) (v1 : List Int) (i : Nat) (g1 : Nat) (se : Stg)  {E : Env} {rv : AV} (hE : PureE Try.prog 86 rv E) (ho : AllP [g1 = g1, (decide ((i : Int) < (v1.length : Int))) = true, 0 ≤ (i : Int) ∧ (i : Int) < (s.stages.length : Int), ((rowStg s.stages).drop ((0 + (Int.toNat (i : Int)) * 3) + 0)).take 1 = [.int .i64 se.kind], (se.kind == 4) = true, 0 ≤ (i : Int) ∧ (i : Int) < (s.stages.length : Int), ((rowStg s.stages).drop ((0 + (Int.toNat (i : Int)) * 3) + 1)).take 1 = [.int .i64 se.prize], (decide (se.prize ≥ 0)) = false, InR .i64 ((i : Int) + 1)])
    (hg : G Try.prog E (f86K0 Try.prog) ⟨[J, .ptr 0 0 0, J, .sl 1 g1 0 v1.length 1, .int .i64 ((i : Int) + 1), J, J, J, J, J, J, J, J, J, J, J, J, J, J, J, J, J, J, J, J, J, J, J, J, J, J, J, J, J, J, J, J, J, J, J, J, J, J, J, J], [⟨true, 0, 1, true, [.rsl (rowStg s.stages) 0 s.stages.length, .rsl (rowI s.worth) 0 s.worth.length, .int .i64 s.price], false⟩, ⟨true, g1, 1, true, (rowI v1), true⟩]⟩) : G Try.prog E (f86K0 Try.prog) (f86S0 s v1 i g1) :=
  segC_step (n := 400) (ds := []) (cs := []) (live := [1, 3, 4]) (m := 2) (evs := [.b true, .auto, .ld (.int .i64 se.kind), .b true, .auto, .ld (.int .i64 se.prize), .b false, .stop]) (obs := _) hE.2.1 (hE.nogh _) mixed (by kernel_rfl) ho hg
theorem p86_0_2 (s : Stl) (v1 : List Int) (i : Nat) (g1 : Nat) (se : Stg)  {E : Env} {rv : AV} (hE : PureE Try.prog 86 rv E) (ho : AllP [g1 = g1, (decide ((i : Int) < (v1.length : Int))) = true, 0 ≤ (i : Int) ∧ (i : Int) < (s.stages.length : Int), ((rowStg s.stages).drop ((0 + (Int.toNat (i : Int)) * 3) + 0)).take 1 = [.int .i64 se.kind], (se.kind == 4) = false, false = false, InR .i64 ((i : Int) + 1)])
    (hg : G Try.prog E (f86K0 Try.prog) ⟨[J, .ptr 0 0 0, J, .sl 1 g1 0 v1.length 1, .int .i64 ((i : Int) + 1), J, J, J, J, J, J, J, J, J, J, J, J, J, J, J, J, J, J, J, J, J, J, J, J, J, J, J, J, J, J, J, J, J, J, J, J, J, J, J, J], [⟨true, 0, 1, true, [.rsl (rowStg s.stages) 0 s.stages.length, .rsl (rowI s.worth) 0 s.worth.length, .int .i64 s.price], false⟩, ⟨true, g1, 1, true, (rowI v1), true⟩]⟩) : G Try.prog E (f86K0 Try.prog) (f86S0 s v1 i g1) :=
  segC_step (n := 400) (ds := []) (cs := []) (live := [1, 3, 4]) (m := 2) (evs := [.b true, .auto, .ld (.int .i64 se.kind), .b false, .b false, .stop]) (obs := _) hE.2.1 (hE.nogh _) mixed (by kernel_rfl) ho hg
theorem p86_0_3 (s : Stl) (v1 : List Int) (i : Nat) (g1 : Nat)  {E : Env} {res : AV} (hE : PureE Try.prog 86 res E) (ho : AllP [g1 = g1, (decide ((i : Int) < (v1.length : Int))) = false, g1 = g1])
    (hr : AvLe (.rsl (rowI v1) 0 v1.length) res) : G Try.prog E (f86K0 Try.prog) (f86S0 s v1 i g1) :=
  end_stepL (n := 400) (evs := [.b false]) (obs := _) hE Try.func86 mixed (by kernel_rfl) ho hr
theorem f86W0 (s : Stl) (v1 : List Int) (i : Nat) {E : Env} {rv : (List Int)} (hE : PureE Try.prog 86 (.rsl (rowI rv) 0 rv.length) E)
    (h : (((i : Int) < (v1.length : Int) → (∃ se : Stg, s.stages[i]? = some se ∧ ((se.kind = 4 → ((se.prize ≥ 0 → (0 ≤ se.prize ∧ (∃ e : Int, s.worth[Int.toNat se.prize]? = some e ∧ (∃ e1 : Int, v1[i]? = some e1 ∧ ((-9223372036854775808 ≤ (i : Int) + 1 ∧ (i : Int) + 1 ≤ 9223372036854775807) ∧ f86G0 E s (v1.set i e) (i + 1)))))) ∧ (¬ (se.prize ≥ 0) → ((-9223372036854775808 ≤ (i : Int) + 1 ∧ (i : Int) + 1 ≤ 9223372036854775807) ∧ f86G0 E s v1 (i + 1))))) ∧ (¬ (se.kind = 4) → ((-9223372036854775808 ≤ (i : Int) + 1 ∧ (i : Int) + 1 ≤ 9223372036854775807) ∧ f86G0 E s v1 (i + 1)))))) ∧ (¬ ((i : Int) < (v1.length : Int)) → rv = v1))) : f86G0 E s v1 i := by
  intro g1
  rcases Bool.eq_false_or_eq_true (decide ((i : Int) < (v1.length : Int))) with hc0 | hc0
  · have h := h.1 (of_decide_eq_true hc0)
    obtain ⟨se, h1, h⟩ := h
    rcases Bool.eq_false_or_eq_true (se.kind == 4) with hc1 | hc1
    · have h := h.1 (eq_of_beq hc1)
      rcases Bool.eq_false_or_eq_true (decide (se.prize ≥ 0)) with hc2 | hc2
      · have h := h.1 (of_decide_eq_true hc2)
        obtain ⟨h3, h⟩ := h
        obtain ⟨e, h2, h⟩ := h
        obtain ⟨e1, h4, h⟩ := h
        obtain ⟨q19_3, h⟩ := h
        refine p86_0_0 s v1 i g1 se e e1 hE ⟨rfl, hc0, (idx_ok h1), (row_part cStg (s := 3) (k := 0) (m := 1) (fun _ => rfl) (by decide) h1), hc1, (idx_ok h1), (row_part cStg (s := 3) (k := 1) (m := 1) (fun _ => rfl) (by decide) h1), hc2, (idx_ok h1), (row_part cStg (s := 3) (k := 1) (m := 1) (fun _ => rfl) (by decide) h1), (idx_ok' h3 h2), (row_part cI (s := 1) (k := 0) (m := 1) (fun _ => rfl) (by decide) h2), (idx_ok h4), rfl, (row_fits cI (s := 1) (k := 0) (m := 1) (fun _ => rfl) (by decide) h4), rfl, q19_3, trivial⟩ ?_
        have h := (h g1)
        simp only [f86S0, List.length_set] at h
        rw [(show setAt (rowI v1) (0 + (Int.toNat (i : Int)) * 1) [.int .i64 e] = rowI (v1.set i e) from row_set cI (s := 1) (k := 0) (fun _ => rfl) h4 rfl (by first | decide | simp))]
        exact h
      · have h := h.2 (of_decide_eq_false hc2)
        obtain ⟨q9_3, h⟩ := h
        exact p86_0_1 s v1 i g1 se hE ⟨rfl, hc0, (idx_ok h1), (row_part cStg (s := 3) (k := 0) (m := 1) (fun _ => rfl) (by decide) h1), hc1, (idx_ok h1), (row_part cStg (s := 3) (k := 1) (m := 1) (fun _ => rfl) (by decide) h1), hc2, q9_3, trivial⟩ (h g1)
    · have h := h.2 (ne_of_beq_false hc1)
      obtain ⟨q7_2, h⟩ := h
      exact p86_0_2 s v1 i g1 se hE ⟨rfl, hc0, (idx_ok h1), (row_part cStg (s := 3) (k := 0) (m := 1) (fun _ => rfl) (by decide) h1), hc1, rfl, q7_2, trivial⟩ (h g1)
  · have h := h.2 (of_decide_eq_false hc0)
    exact p86_0_3 s v1 i g1  hE ⟨rfl, hc0, rfl, trivial⟩ (AvLe.of_eq (by rw [h]; try rfl))
theorem f79b : Try.f79.body = some (bodyAt Try.prog 79) := by kernel_rfl
theorem p79_start_0 (s : Stl) (n : Int)  (e : Int)  {E : Env} {res : AV} (hE : PureE Try.prog 79 res E) (ho : AllP [PureF Try.prog (.clos 51 [] []) [.agg [.rsl (rowStg s.stages) 0 s.stages.length, .rsl (rowI s.worth) 0 s.worth.length, .int .i64 s.price]] (.tup [.rsl (rowI ((measR (measA s)).1)) 0 (((measR (measA s)).1).length), .bool ((measR (measA s)).2)]), (0 : Int) ≤ 0 ∧ (0 : Int) < ((((measR (measA s)).1).length : Nat) : Int), ((rowI ((measR (measA s)).1)).drop (0 + 0 * 1)).take 1 = [.int .i64 e], InR .i64 (0 - n), PureF Try.prog (.clos 49 [] []) [.int .i64 e, .int .i64 (iMax n (0 - n))] (.int .i64 (gcdI e (iMax n (0 - n)))), InR .i64 (Int.tdiv n (gcdI e (iMax n (0 - n)))), (gcdI e (iMax n (0 - n))) ≠ 0, (0 : Int) ≤ 0 ∧ (0 : Int) < ((((measR (measA s)).1).length : Nat) : Int), ((rowI ((measR (measA s)).1)).drop (0 + 0 * 1)).take 1 = [.int .i64 e], InR .i64 (Int.tdiv e (gcdI e (iMax n (0 - n)))), (gcdI e (iMax n (0 - n))) ≠ 0, 2 ≤ 2])
    (hr : AvLe (.agg [.int .i64 (Int.tdiv n (gcdI e (iMax n (0 - n)))), .int .i64 (Int.tdiv e (gcdI e (iMax n (0 - n))))]) res) : G Try.prog E [.code (bodyAt Try.prog 79)] ⟨[.agg [.rsl (rowStg s.stages) 0 s.stages.length, .rsl (rowI s.worth) 0 s.worth.length, .int .i64 s.price], .int .i64 n] ++ unds (Try.f79.ntmps - 2), []⟩ :=
  end_stepL (n := 400) (evs := [.v (.tup [.rsl (rowI ((measR (measA s)).1)) 0 (((measR (measA s)).1).length), .bool ((measR (measA s)).2)]), .ld (.int .i64 e), .v (.int .i64 (gcdI e (iMax n (0 - n)))), .ld (.int .i64 e)]) (obs := _) hE Try.func79 mixed (by kernel_rfl) ho hr
theorem f79W (s : Stl) (n : Int) {E : Env} {rv : Fr} (hE : PureE Try.prog 79 (.agg [.int .i64 rv.num, .int .i64 rv.den]) E)
    (h : ((s.stages.length ≤ 1000000 ∧ ∀ i, i < s.stages.length → formI s i = true) ∧ (∃ e : Int, ((measR (measA s)).1)[0]? = some e ∧ ((-9223372036854775808 ≤ 0 - n ∧ 0 - n ≤ 9223372036854775807) ∧ ((0 ≤ e ∧ 0 ≤ (iMax n (0 - n))) ∧ ((-9223372036854775808 ≤ Int.tdiv n (gcdI e (iMax n (0 - n))) ∧ Int.tdiv n (gcdI e (iMax n (0 - n))) ≤ 9223372036854775807) ∧ ((gcdI e (iMax n (0 - n))) ≠ 0 ∧ ((-9223372036854775808 ≤ Int.tdiv e (gcdI e (iMax n (0 - n))) ∧ Int.tdiv e (gcdI e (iMax n (0 - n))) ≤ 9223372036854775807) ∧ ((gcdI e (iMax n (0 - n))) ≠ 0 ∧ rv = (⟨(Int.tdiv n (gcdI e (iMax n (0 - n)))), (Int.tdiv e (gcdI e (iMax n (0 - n))))⟩ : Fr)))))))))) : G Try.prog E [.code (bodyAt Try.prog 79)] ⟨[.agg [.rsl (rowStg s.stages) 0 s.stages.length, .rsl (rowI s.worth) 0 s.worth.length, .int .i64 s.price], .int .i64 n] ++ unds (Try.f79.ntmps - 2), []⟩ := by
  obtain ⟨h1, h⟩ := h
  obtain ⟨e, h2, h⟩ := h
  obtain ⟨q4_0, h⟩ := h
  obtain ⟨h3, h⟩ := h
  obtain ⟨q6_0, h⟩ := h
  obtain ⟨q7_0, h⟩ := h
  obtain ⟨q10_0, h⟩ := h
  obtain ⟨q11_0, h⟩ := h
  exact p79_start_0 s n   e hE ⟨(pureF_of Try.func51 (by kernel_rfl) f51b (measures_ok s h1)), (idx_ok h2), (row_part cI (s := 1) (k := 0) (m := 1) (fun _ => rfl) (by decide) h2), q4_0, (pureF_of Try.func49 (by kernel_rfl) f49b (gcd_ok e (iMax n (0 - n)) h3)), q6_0, q7_0, (idx_ok h2), (row_part cI (s := 1) (k := 0) (m := 1) (fun _ => rfl) (by decide) h2), q10_0, q11_0, (by decide), trivial⟩ (AvLe.of_eq (by rw [h]; try rfl))

theorem worths2_ok (s : Stl) (h : checkK s = 0) : Pure Try.prog 86 [.agg [.rsl (rowStg s.stages) 0 s.stages.length, .rsl (rowI s.worth) 0 s.worth.length, .int .i64 s.price]] (.rsl (rowI (endsI s (worthI (machG s)))) 0 (endsI s (worthI (machG s))).length) := pure_of Try.func86 f86b fun E hE => by
  obtain ⟨hm, es⟩ := mok_G (isSome_of h)
  have hn := (stPre_of hm.st).1
  have hform := (stPre_of hm.st).2.2.2.2
  rw [es] at hn hform
  have key : ∀ (d i : Nat) (v : List Int), i + d = s.stages.length → v.length = s.stages.length → (∀ j, j < i → v[j]? = (endsI s (worthI (machG s)))[j]?) → (∀ j, i ≤ j → j < s.stages.length → v[j]? = some 0) → f86G0 E s v i := by
    intro d
    induction d with
    | zero =>
      intro i v hd hl h1 h2
      refine f86W0 s v i (rv := endsI s (worthI (machG s))) hE ⟨fun h => by omega, fun _ => ?_⟩
      apply List.ext_getElem?
      intro j
      by_cases hj : j < i
      · exact (h1 j hj).symm
      · rw [List.getElem?_eq_none (by rw [ends_len]; omega), List.getElem?_eq_none (by omega)]
    | succ d ih =>
      intro i v hd hl h1 h2
      have hi : s.stages[i]? = some s.stages[i] := List.getElem?_eq_getElem (by omega)
      have he := ends_at (w := worthI (machG s)) hi
      have hfo := form_of hi (hform i (by omega))
      generalize s.stages[i] = x at hi he hfo
      have hv := h2 i (Nat.le_refl _) (by omega)
      have nx := fun (v' : List Int) (e : v' = v.set i (if x.kind = 4 ∧ x.prize ≥ 0 then worthI (machG s) x.prize else 0)) => ih (i + 1) v' (by omega) (by rw [e]; simp [hl]) (fun j hj => by
        rw [e]
        by_cases e2 : i = j
        · subst e2; rw [List.getElem?_set_self (by omega), he]
        · rw [List.getElem?_set_ne e2]; exact h1 j (by omega)) (fun j hj hj2 => by rw [e, List.getElem?_set_ne (by omega)]; exact h2 j (by omega) hj2)
      refine f86W0 s v i (rv := endsI s (worthI (machG s))) hE ⟨fun _ => ⟨x, hi, fun h4 => ⟨fun hk => ⟨hk, _, getD_some (l := s.worth) ?_, 0, hv, by omega, nx _ ?_⟩, fun hk => ⟨by omega, nx _ ?_⟩⟩, fun h4 => ⟨by omega, nx _ ?_⟩⟩, fun h => by omega⟩
      · rcases hfo with ⟨-, -, h⟩ | ⟨h, -⟩ <;> omega
      · rw [if_pos ⟨h4, hk⟩, worthI, es]
      · rw [if_neg (fun h => hk h.2), set_same hv]
      · rw [if_neg (fun h => h4 h.1), set_same hv]
  exact f86W s (rv := endsI s (worthI (machG s))) hE ⟨by omega, key s.stages.length 0 _ (by omega) (by simp) (fun j hj => by omega) (fun j _ hj => by rw [List.getElem?_replicate, if_pos hj])⟩
theorem aims_iff {a b : Int} : aimsI [a, b] = true ↔ (a = 1 ∨ a = 2) ∧ (b = 1 ∨ b = 2) := by
  simp only [aimsI, List.any_cons, List.any_nil, Bool.or_false, Bool.not_eq_true', Bool.or_eq_false_iff, Bool.not_eq_false', aimOk, Bool.or_eq_true, decide_eq_true_eq]
theorem lowest_ok (s : Stl) (n : Int) (h : checkK s = 0 ∧ -100000000000000000 ≤ n ∧ n ≤ 100000000000000000) : Pure Try.prog 79 [.agg [.rsl (rowStg s.stages) 0 s.stages.length, .rsl (rowI s.worth) 0 s.worth.length, .int .i64 s.price], .int .i64 n] (.agg [.int .i64 (fracI n ((machG s).meas.getD 0 0)).num, .int .i64 (fracI n ((machG s).meas.getD 0 0)).den]) := pure_of Try.func79 f79b fun E hE => by
  obtain ⟨hm, es⟩ := mok_G (isSome_of h.1)
  have hn := (stPre_of hm.st).1
  have hform := (stPre_of hm.st).2.2.2.2
  rw [es] at hn hform
  obtain ⟨u, hu, hu1, hu2⟩ := meas0 hm
  have h0 : 0 ≤ iMax n (0 - n) := by unfold iMax; split <;> omega
  have hg := gcd_pos hu1 h0
  have b1 := tdiv_bd (g := gcdI u (iMax n (0 - n))) (by omega) h.2.1 h.2.2
  have b2 := tdiv_bd (n := u) (B := 1000000000000) (g := gcdI u (iMax n (0 - n))) (by omega) (by omega) (by omega)
  refine f79W s n (rv := fracI n ((machG s).meas.getD 0 0)) hE ⟨⟨by omega, hform⟩, u, by rw [measR_of (isSome_of h.1)]; exact hu, by omega, ⟨by omega, h0⟩, by omega, by omega, by omega, by omega, ?_⟩
  rw [getD_of hu]; exact (low_eq hu1).symm

theorem f80pb : Try.f80.body = some (bodyAt Try.prog 80) := by kernel_rfl
def f80pK0 (P : Program) : List Item := kAt 400 [.code (bodyAt P 80)] [.stop]
def f80pS0 (s : Stl) (ends : (List Int)) (pa : Int) (oa : Int) (plan : (List Int)) (v1 : List Int) (i : Int) (g1 : Nat) : St := ⟨[J, .rsl (rowI ends) 0 ends.length, .int .i64 pa, .int .i64 oa, .rsl (rowI plan) 0 plan.length, .ptr 0 0 0, J, J, J, J, J, .rsl (rowI ((measR (measA s)).1)) 0 (((measR (measA s)).1).length), J, .sl 1 g1 0 v1.length 1, .int .i64 i, J, J, J, J, J, J, J, J, J, J, J, J, J, J, J, J, J, J, J, J, J, J, J, J, J, J, J, J, J, J, J, J, J, J, J, J, J, J, J, J, J, J, J, J, J, J, J, J, J, J, J, J, J, J, J, J, J, J, J, J, J, J, J, J, J, J, J, J, J, J, J, J, J, J, J, J, J, J, J, J, J, J, J, J, J, J, J, J, J, J, J, J, J, J, J, J, J, J, J, J, J, J, J, J, J, J, J, J, J, J, J, J, J, J, J, J, J, J, J, J, J, J, J, J, J, J, J, J, J, J, J, J, J, J, J, J, J], [⟨true, 0, 1, true, [.rsl (rowStg s.stages) 0 s.stages.length, .rsl (rowI s.worth) 0 s.worth.length, .int .i64 s.price], false⟩, ⟨true, g1, 1, true, (rowI v1), true⟩]⟩
def f80pG0 (E : Env) (s : Stl) (ends : (List Int)) (pa : Int) (oa : Int) (plan : (List Int)) (v1 : List Int) (i : Int) : Prop := ∀ g1 : Nat, G Try.prog E (f80pK0 Try.prog) (f80pS0 s ends pa oa plan v1 i g1)
def f80pK1 (P : Program) : List Item := kAt 400 [.code (bodyAt P 80)] [.b true, .b false, .b true, .stop]
def f80pS1 (s : Stl) (ends : (List Int)) (pa : Int) (oa : Int) (plan : (List Int)) (i : Int) (all : Int) (v1 : List Int) (v2_0 : Int) (v2_1 : Int) (v2_2 : (List Trn)) (k : Nat) (g1 : Nat) : St := ⟨[J, .rsl (rowI ends) 0 ends.length, .int .i64 pa, .int .i64 oa, .rsl (rowI plan) 0 plan.length, .ptr 0 0 0, J, J, J, J, J, .rsl (rowI ((measR (measA s)).1)) 0 (((measR (measA s)).1).length), J, .sl 1 g1 0 v1.length 1, .int .i64 i, .ptr 2 0 0, .int .i64 all, .int .i64 (k : Int), J, J, J, J, J, J, J, J, J, J, J, J, J, J, J, J, J, J, J, J, J, J, J, J, J, J, J, J, J, J, J, J, J, J, J, J, J, J, J, J, J, J, J, J, J, J, J, J, J, J, J, J, J, J, J, J, J, J, J, J, J, J, J, J, J, J, J, J, J, J, J, J, J, J, J, J, J, J, J, J, J, J, J, J, J, J, J, J, J, J, J, J, J, J, J, J, J, J, J, J, J, J, J, J, J, J, J, J, J, J, J, J, J, J, J, J, J, J, J, J, J, J, J, J, J, J, J, J, J, J, J, J, J, J], [⟨true, 0, 1, true, [.rsl (rowStg s.stages) 0 s.stages.length, .rsl (rowI s.worth) 0 s.worth.length, .int .i64 s.price], false⟩, ⟨true, g1, 1, true, (rowI v1), true⟩, ⟨true, 0, 1, true, [.int .i64 v2_0, .int .i64 v2_1, .rsl (rowTrn v2_2) 0 v2_2.length], false⟩]⟩
def f80pG1 (E : Env) (s : Stl) (ends : (List Int)) (pa : Int) (oa : Int) (plan : (List Int)) (i : Int) (all : Int) (v1 : List Int) (v2_0 : Int) (v2_1 : Int) (v2_2 : (List Trn)) (k : Nat) : Prop := ∀ g1 : Nat, G Try.prog E (f80pK1 Try.prog) (f80pS1 s ends pa oa plan i all v1 v2_0 v2_1 v2_2 k g1)
theorem p80p_start_0 (s : Stl) (ends : (List Int)) (pa : Int) (oa : Int) (plan : (List Int))   {E : Env} {rv : AV} (hE : PureE Try.prog 80 rv E) (ho : AllP [PureF Try.prog (.clos 51 [] []) [.agg [.rsl (rowStg s.stages) 0 s.stages.length, .rsl (rowI s.worth) 0 s.worth.length, .int .i64 s.price]] (.tup [.rsl (rowI ((measR (measA s)).1)) 0 (((measR (measA s)).1).length), .bool ((measR (measA s)).2)]), 0 ≤ (s.stages.length : Int) ∧ (s.stages.length : Int) ≤ (s.stages.length : Int) ∧ (s.stages.length : Int) ≤ 2147483648, 0 = 0, InR .i64 ((((Int.toNat (s.stages.length : Int)) : Nat) : Int) - 1)])
    (hg : G Try.prog E (f80pK0 Try.prog) ⟨[J, .rsl (rowI ends) 0 ends.length, .int .i64 pa, .int .i64 oa, .rsl (rowI plan) 0 plan.length, .ptr 0 0 0, J, J, J, J, J, .rsl (rowI ((measR (measA s)).1)) 0 (((measR (measA s)).1).length), J, .sl 1 0 0 (Int.toNat (s.stages.length : Int)) 1, .int .i64 ((((Int.toNat (s.stages.length : Int)) : Nat) : Int) - 1), J, J, J, J, J, J, J, J, J, J, J, J, J, J, J, J, J, J, J, J, J, J, J, J, J, J, J, J, J, J, J, J, J, J, J, J, J, J, J, J, J, J, J, J, J, J, J, J, J, J, J, J, J, J, J, J, J, J, J, J, J, J, J, J, J, J, J, J, J, J, J, J, J, J, J, J, J, J, J, J, J, J, J, J, J, J, J, J, J, J, J, J, J, J, J, J, J, J, J, J, J, J, J, J, J, J, J, J, J, J, J, J, J, J, J, J, J, J, J, J, J, J, J, J, J, J, J, J, J, J, J, J, J, J, J, J, J], [⟨true, 0, 1, true, [.rsl (rowStg s.stages) 0 s.stages.length, .rsl (rowI s.worth) 0 s.worth.length, .int .i64 s.price], false⟩, ⟨true, 0, 1, true, ((List.replicate (Int.toNat (s.stages.length : Int)) ([.int .i64 0] : List AV)).flatten), true⟩]⟩) : G Try.prog E [.code (bodyAt Try.prog 80)] ⟨[.agg [.rsl (rowStg s.stages) 0 s.stages.length, .rsl (rowI s.worth) 0 s.worth.length, .int .i64 s.price], .rsl (rowI ends) 0 ends.length, .int .i64 pa, .int .i64 oa, .rsl (rowI plan) 0 plan.length] ++ unds (Try.f80.ntmps - 5), []⟩ :=
  segC_step (n := 400) (ds := []) (cs := []) (live := [1, 2, 3, 4, 5, 11, 13, 14]) (m := 2) (evs := [.v (.tup [.rsl (rowI ((measR (measA s)).1)) 0 (((measR (measA s)).1).length), .bool ((measR (measA s)).2)]), .stop]) (obs := _) hE.2.1 (hE.nogh _) mixed (by kernel_rfl) ho hg
theorem f80pW (s : Stl) (ends : (List Int)) (pa : Int) (oa : Int) (plan : (List Int)) {E : Env} {rv : (List Int)} (hE : PureE Try.prog 80 (.rsl (rowI rv) 0 rv.length) E)
    (h : ((s.stages.length ≤ 1000000 ∧ ∀ i, i < s.stages.length → formI s i = true) ∧ (s.stages.length ≤ 2147483648 ∧ ((-9223372036854775808 ≤ (((Int.toNat (s.stages.length : Int)) : Nat) : Int) - 1 ∧ (((Int.toNat (s.stages.length : Int)) : Nat) : Int) - 1 ≤ 9223372036854775807) ∧ f80pG0 E s ends pa oa plan (List.replicate s.stages.length (0 : Int)) ((((Int.toNat (s.stages.length : Int)) : Nat) : Int) - 1))))) : G Try.prog E [.code (bodyAt Try.prog 80)] ⟨[.agg [.rsl (rowStg s.stages) 0 s.stages.length, .rsl (rowI s.worth) 0 s.worth.length, .int .i64 s.price], .rsl (rowI ends) 0 ends.length, .int .i64 pa, .int .i64 oa, .rsl (rowI plan) 0 plan.length] ++ unds (Try.f80.ntmps - 5), []⟩ := by
  obtain ⟨h1, h⟩ := h
  obtain ⟨h2, h⟩ := h
  obtain ⟨q3_0, h⟩ := h
  refine p80p_start_0 s ends pa oa plan    hE ⟨(pureF_of Try.func51 (by kernel_rfl) f51b (measures_ok s h1)), ⟨by omega, by omega, by have := h2; omega⟩, rfl, q3_0, trivial⟩ ?_
  have h := (h 0)
  simp only [f80pG0, f80pS0, List.length_set, List.length_replicate] at h
  rw [(show (List.replicate (Int.toNat (s.stages.length : Int)) ([.int .i64 0] : List AV)).flatten = rowI (List.replicate s.stages.length (0 : Int)) from row_rep cI _ _)]
  exact h
theorem p80p_0_0 (s : Stl) (ends : (List Int)) (pa : Int) (oa : Int) (plan : (List Int)) (v1 : List Int) (i : Int) (g1 : Nat) (se : Stg) (e : Int) (e1 : Int)  {E : Env} {rv : AV} (hE : PureE Try.prog 80 rv E) (ho : AllP [(decide (i ≥ 0)) = true, 0 ≤ i ∧ i < (s.stages.length : Int), ((rowStg s.stages).drop (0 + (Int.toNat i) * 3)).take 3 = [.int .i64 se.kind, .int .i64 se.prize, .rsl (rowTrn se.turns) 0 se.turns.length], 3 ≤ 3, (se.kind == 4) = true, 0 ≤ i ∧ i < (ends.length : Int), ((rowI ends).drop (0 + (Int.toNat i) * 1)).take 1 = [.int .i64 e], 0 ≤ i ∧ i < (v1.length : Int), g1 = g1, ((0 + (Int.toNat i) * 1) + 1) ≤ (rowI v1).length, g1 = g1, InR .i64 (i - 1)])
    (hg : G Try.prog E (f80pK0 Try.prog) ⟨[J, .rsl (rowI ends) 0 ends.length, .int .i64 pa, .int .i64 oa, .rsl (rowI plan) 0 plan.length, .ptr 0 0 0, J, J, J, J, J, .rsl (rowI ((measR (measA s)).1)) 0 (((measR (measA s)).1).length), J, .sl 1 g1 0 v1.length 1, .int .i64 (i - 1), J, J, J, J, J, J, J, J, J, J, J, J, J, J, J, J, J, J, J, J, J, J, J, J, J, J, J, J, J, J, J, J, J, J, J, J, J, J, J, J, J, J, J, J, J, J, J, J, J, J, J, J, J, J, J, J, J, J, J, J, J, J, J, J, J, J, J, J, J, J, J, J, J, J, J, J, J, J, J, J, J, J, J, J, J, J, J, J, J, J, J, J, J, J, J, J, J, J, J, J, J, J, J, J, J, J, J, J, J, J, J, J, J, J, J, J, J, J, J, J, J, J, J, J, J, J, J, J, J, J, J, J, J, J, J, J, J], [⟨true, 0, 1, true, [.rsl (rowStg s.stages) 0 s.stages.length, .rsl (rowI s.worth) 0 s.worth.length, .int .i64 s.price], false⟩, ⟨true, g1, 1, true, (setAt (rowI v1) (0 + (Int.toNat i) * 1) [.int .i64 e]), true⟩]⟩) : G Try.prog E (f80pK0 Try.prog) (f80pS0 s ends pa oa plan v1 i g1) :=
  segC_step (n := 400) (ds := []) (cs := []) (live := [1, 2, 3, 4, 5, 11, 13, 14]) (m := 2) (evs := [.b true, .auto, .ld (.agg [.int .i64 se.kind, .int .i64 se.prize, .rsl (rowTrn se.turns) 0 se.turns.length]), .b true, .ld (.int .i64 e), .stop]) (obs := _) hE.2.1 (hE.nogh _) mixed (by kernel_rfl) ho hg
theorem p80p_0_1 (s : Stl) (ends : (List Int)) (pa : Int) (oa : Int) (plan : (List Int)) (v1 : List Int) (i : Int) (g1 : Nat) (se : Stg) (e : Int)  {E : Env} {rv : AV} (hE : PureE Try.prog 80 rv E) (ho : AllP [(decide (i ≥ 0)) = true, 0 ≤ i ∧ i < (s.stages.length : Int), ((rowStg s.stages).drop (0 + (Int.toNat i) * 3)).take 3 = [.int .i64 se.kind, .int .i64 se.prize, .rsl (rowTrn se.turns) 0 se.turns.length], 3 ≤ 3, (se.kind == 4) = false, 0 ≤ i ∧ i < ((((measR (measA s)).1).length : Nat) : Int), ((rowI ((measR (measA s)).1)).drop (0 + (Int.toNat i) * 1)).take 1 = [.int .i64 e], (se.kind == 1) = true, PureF Try.prog (.clos 100 [] []) [.agg [.int .i64 se.kind, .int .i64 se.prize, .rsl (rowTrn se.turns) 0 se.turns.length]] (.int .i64 (totI se)), InR .i64 (Int.tdiv e (totI se)), (totI se) ≠ 0])
    (hg : G Try.prog E (f80pK1 Try.prog) ⟨[J, .rsl (rowI ends) 0 ends.length, .int .i64 pa, .int .i64 oa, .rsl (rowI plan) 0 plan.length, .ptr 0 0 0, J, J, J, J, J, .rsl (rowI ((measR (measA s)).1)) 0 (((measR (measA s)).1).length), J, .sl 1 g1 0 v1.length 1, .int .i64 i, .ptr 2 0 0, .int .i64 (Int.tdiv e (totI se)), .int .i64 0, J, J, J, J, J, J, J, J, J, J, J, J, J, J, J, J, J, J, J, J, J, J, J, J, J, J, J, J, J, J, J, J, J, J, J, J, J, J, J, J, J, J, J, J, J, J, J, J, J, J, J, J, J, J, J, J, J, J, J, J, J, J, J, J, J, J, J, J, J, J, J, J, J, J, J, J, J, J, J, J, J, J, J, J, J, J, J, J, J, J, J, J, J, J, J, J, J, J, J, J, J, J, J, J, J, J, J, J, J, J, J, J, J, J, J, J, J, J, J, J, J, J, J, J, J, J, J, J, J, J, J, J, J, J], [⟨true, 0, 1, true, [.rsl (rowStg s.stages) 0 s.stages.length, .rsl (rowI s.worth) 0 s.worth.length, .int .i64 s.price], false⟩, ⟨true, g1, 1, true, (rowI v1), true⟩, ⟨true, 0, 1, true, [.int .i64 se.kind, .int .i64 se.prize, .rsl (rowTrn se.turns) 0 se.turns.length], false⟩]⟩) : G Try.prog E (f80pK0 Try.prog) (f80pS0 s ends pa oa plan v1 i g1) :=
  segC_step (n := 400) (ds := []) (cs := []) (live := [1, 2, 3, 4, 5, 11, 13, 14, 15, 16, 17]) (m := 3) (evs := [.b true, .auto, .ld (.agg [.int .i64 se.kind, .int .i64 se.prize, .rsl (rowTrn se.turns) 0 se.turns.length]), .b false, .ld (.int .i64 e), .b true, .v (.int .i64 (totI se)), .stop]) (obs := _) hE.2.1 (hE.nogh _) mixed (by kernel_rfl) ho hg
theorem p80p_0_2 (s : Stl) (ends : (List Int)) (pa : Int) (oa : Int) (plan : (List Int)) (v1 : List Int) (i : Int) (g1 : Nat) (se : Stg) (e : Int)  {E : Env} {rv : AV} (hE : PureE Try.prog 80 rv E) (ho : AllP [(decide (i ≥ 0)) = true, 0 ≤ i ∧ i < (s.stages.length : Int), ((rowStg s.stages).drop (0 + (Int.toNat i) * 3)).take 3 = [.int .i64 se.kind, .int .i64 se.prize, .rsl (rowTrn se.turns) 0 se.turns.length], 3 ≤ 3, (se.kind == 4) = false, 0 ≤ i ∧ i < ((((measR (measA s)).1).length : Nat) : Int), ((rowI ((measR (measA s)).1)).drop (0 + (Int.toNat i) * 1)).take 1 = [.int .i64 e], (se.kind == 1) = false])
    (hg : G Try.prog E (f80pK1 Try.prog) ⟨[J, .rsl (rowI ends) 0 ends.length, .int .i64 pa, .int .i64 oa, .rsl (rowI plan) 0 plan.length, .ptr 0 0 0, J, J, J, J, J, .rsl (rowI ((measR (measA s)).1)) 0 (((measR (measA s)).1).length), J, .sl 1 g1 0 v1.length 1, .int .i64 i, .ptr 2 0 0, .int .i64 e, .int .i64 0, J, J, J, J, J, J, J, J, J, J, J, J, J, J, J, J, J, J, J, J, J, J, J, J, J, J, J, J, J, J, J, J, J, J, J, J, J, J, J, J, J, J, J, J, J, J, J, J, J, J, J, J, J, J, J, J, J, J, J, J, J, J, J, J, J, J, J, J, J, J, J, J, J, J, J, J, J, J, J, J, J, J, J, J, J, J, J, J, J, J, J, J, J, J, J, J, J, J, J, J, J, J, J, J, J, J, J, J, J, J, J, J, J, J, J, J, J, J, J, J, J, J, J, J, J, J, J, J, J, J, J, J, J, J], [⟨true, 0, 1, true, [.rsl (rowStg s.stages) 0 s.stages.length, .rsl (rowI s.worth) 0 s.worth.length, .int .i64 s.price], false⟩, ⟨true, g1, 1, true, (rowI v1), true⟩, ⟨true, 0, 1, true, [.int .i64 se.kind, .int .i64 se.prize, .rsl (rowTrn se.turns) 0 se.turns.length], false⟩]⟩) : G Try.prog E (f80pK0 Try.prog) (f80pS0 s ends pa oa plan v1 i g1) :=
  segC_step (n := 400) (ds := []) (cs := []) (live := [1, 2, 3, 4, 5, 11, 13, 14, 15, 16, 17]) (m := 3) (evs := [.b true, .auto, .ld (.agg [.int .i64 se.kind, .int .i64 se.prize, .rsl (rowTrn se.turns) 0 se.turns.length]), .b false, .ld (.int .i64 e), .b false, .stop]) (obs := _) hE.2.1 (hE.nogh _) mixed (by kernel_rfl) ho hg
theorem p80p_0_3 (s : Stl) (ends : (List Int)) (pa : Int) (oa : Int) (plan : (List Int)) (v1 : List Int) (i : Int) (g1 : Nat)  {E : Env} {res : AV} (hE : PureE Try.prog 80 res E) (ho : AllP [(decide (i ≥ 0)) = false, g1 = g1])
    (hr : AvLe (.rsl (rowI v1) 0 v1.length) res) : G Try.prog E (f80pK0 Try.prog) (f80pS0 s ends pa oa plan v1 i g1) :=
  end_stepL (n := 400) (evs := [.b false]) (obs := _) hE Try.func80 mixed (by kernel_rfl) ho hr
theorem f80pW0 (s : Stl) (ends : (List Int)) (pa : Int) (oa : Int) (plan : (List Int)) (v1 : List Int) (i : Int) {E : Env} {rv : (List Int)} (hE : PureE Try.prog 80 (.rsl (rowI rv) 0 rv.length) E)
    (h : ((i ≥ 0 → (0 ≤ i ∧ (∃ se : Stg, s.stages[Int.toNat i]? = some se ∧ ((se.kind = 4 → (0 ≤ i ∧ (∃ e : Int, ends[Int.toNat i]? = some e ∧ (0 ≤ i ∧ (∃ e1 : Int, v1[Int.toNat i]? = some e1 ∧ ((-9223372036854775808 ≤ i - 1 ∧ i - 1 ≤ 9223372036854775807) ∧ f80pG0 E s ends pa oa plan (v1.set (Int.toNat i) e) (i - 1))))))) ∧ (¬ (se.kind = 4) → (0 ≤ i ∧ (∃ e : Int, ((measR (measA s)).1)[Int.toNat i]? = some e ∧ ((se.kind = 1 → ((TotOk se) ∧ ((-9223372036854775808 ≤ Int.tdiv e (totI se) ∧ Int.tdiv e (totI se) ≤ 9223372036854775807) ∧ ((totI se) ≠ 0 ∧ f80pG1 E s ends pa oa plan i (Int.tdiv e (totI se)) v1 se.kind se.prize se.turns 0)))) ∧ (¬ (se.kind = 1) → f80pG1 E s ends pa oa plan i e v1 se.kind se.prize se.turns 0))))))))) ∧ (¬ (i ≥ 0) → rv = v1))) : f80pG0 E s ends pa oa plan v1 i := by
  intro g1
  rcases Bool.eq_false_or_eq_true (decide (i ≥ 0)) with hc0 | hc0
  · have h := h.1 (of_decide_eq_true hc0)
    obtain ⟨h2, h⟩ := h
    obtain ⟨se, h1, h⟩ := h
    rcases Bool.eq_false_or_eq_true (se.kind == 4) with hc1 | hc1
    · have h := h.1 (eq_of_beq hc1)
      obtain ⟨h4, h⟩ := h
      obtain ⟨e, h3, h⟩ := h
      obtain ⟨h6, h⟩ := h
      obtain ⟨e1, h5, h⟩ := h
      obtain ⟨q14_2, h⟩ := h
      refine p80p_0_0 s ends pa oa plan v1 i g1 se e e1 hE ⟨hc0, (idx_ok' h2 h1), (row_part cStg (s := 3) (k := 0) (m := 3) (fun _ => rfl) (by decide) h1), (by decide), hc1, (idx_ok' h4 h3), (row_part cI (s := 1) (k := 0) (m := 1) (fun _ => rfl) (by decide) h3), (idx_ok' h6 h5), rfl, (row_fits cI (s := 1) (k := 0) (m := 1) (fun _ => rfl) (by decide) h5), rfl, q14_2, trivial⟩ ?_
      have h := (h g1)
      simp only [f80pS0, List.length_set] at h
      rw [(show setAt (rowI v1) (0 + (Int.toNat i) * 1) [.int .i64 e] = rowI (v1.set (Int.toNat i) e) from row_set cI (s := 1) (k := 0) (fun _ => rfl) h5 rfl (by first | decide | simp))]
      exact h
    · have h := h.2 (ne_of_beq_false hc1)
      obtain ⟨h4, h⟩ := h
      obtain ⟨e, h3, h⟩ := h
      rcases Bool.eq_false_or_eq_true (se.kind == 1) with hc2 | hc2
      · have h := h.1 (eq_of_beq hc2)
        obtain ⟨h5, h⟩ := h
        obtain ⟨q11_3, h⟩ := h
        obtain ⟨q12_3, h⟩ := h
        exact p80p_0_1 s ends pa oa plan v1 i g1 se e hE ⟨hc0, (idx_ok' h2 h1), (row_part cStg (s := 3) (k := 0) (m := 3) (fun _ => rfl) (by decide) h1), (by decide), hc1, (idx_ok' h4 h3), (row_part cI (s := 1) (k := 0) (m := 1) (fun _ => rfl) (by decide) h3), hc2, (pureF_of Try.func100 (by kernel_rfl) f100b (totalR_ok se h5)), q11_3, q12_3, trivial⟩ (h g1)
      · have h := h.2 (ne_of_beq_false hc2)
        exact p80p_0_2 s ends pa oa plan v1 i g1 se e hE ⟨hc0, (idx_ok' h2 h1), (row_part cStg (s := 3) (k := 0) (m := 3) (fun _ => rfl) (by decide) h1), (by decide), hc1, (idx_ok' h4 h3), (row_part cI (s := 1) (k := 0) (m := 1) (fun _ => rfl) (by decide) h3), hc2, trivial⟩ (h g1)
  · have h := h.2 (of_decide_eq_false hc0)
    exact p80p_0_3 s ends pa oa plan v1 i g1  hE ⟨hc0, rfl, trivial⟩ (AvLe.of_eq (by rw [h]; try rfl))
theorem p80p_1_0 (s : Stl) (ends : (List Int)) (pa : Int) (oa : Int) (plan : (List Int)) (i : Int) (all : Int) (v1 : List Int) (v2_0 : Int) (v2_1 : Int) (v2_2 : (List Trn)) (k : Nat) (g1 : Nat) (te : Trn) (e : Int) (e1 : Int) (e2 : Int)  {E : Env} {rv : AV} (hE : PureE Try.prog 80 rv E) (ho : AllP [(decide ((k : Int) < (v2_2.length : Int))) = true, 0 ≤ (k : Int) ∧ (k : Int) < (v2_2.length : Int), ((rowTrn v2_2).drop (0 + (Int.toNat (k : Int)) * 2)).take 2 = [.int .i64 te.w, .int .i64 te.to], 2 ≤ 2, 0 ≤ te.to ∧ te.to < (v1.length : Int), g1 = g1, g1 = g1, ((rowI v1).drop (0 + (Int.toNat te.to) * 1)).take 1 = [.int .i64 e], 0 ≤ te.to ∧ te.to < ((((measR (measA s)).1).length : Nat) : Int), ((rowI ((measR (measA s)).1)).drop (0 + (Int.toNat te.to) * 1)).take 1 = [.int .i64 e1], InR .i64 (Int.tdiv all e1), e1 ≠ 0, InR .i64 (e * (Int.tdiv all e1)), (v2_0 == 3) = true, (v2_0 == 1) = true, 0 ≤ i ∧ i < (v1.length : Int), g1 = g1, g1 = g1, ((rowI v1).drop (0 + (Int.toNat i) * 1)).take 1 = [.int .i64 e2], InR .i64 ((e * (Int.tdiv all e1)) * te.w), InR .i64 (e2 + ((e * (Int.tdiv all e1)) * te.w)), 0 ≤ i ∧ i < (v1.length : Int), g1 = g1, ((0 + (Int.toNat i) * 1) + 1) ≤ (rowI v1).length, g1 = g1, InR .i64 ((k : Int) + 1)])
    (hg : G Try.prog E (f80pK1 Try.prog) ⟨[J, .rsl (rowI ends) 0 ends.length, .int .i64 pa, .int .i64 oa, .rsl (rowI plan) 0 plan.length, .ptr 0 0 0, J, J, J, J, J, .rsl (rowI ((measR (measA s)).1)) 0 (((measR (measA s)).1).length), J, .sl 1 g1 0 v1.length 1, .int .i64 i, .ptr 2 0 0, .int .i64 all, .int .i64 ((k : Int) + 1), J, J, J, J, J, J, J, J, J, J, J, J, J, J, J, J, J, J, J, J, J, J, J, J, J, J, J, J, J, J, J, J, J, J, J, J, J, J, J, J, J, J, J, J, J, J, J, J, J, J, J, J, J, J, J, J, J, J, J, J, J, J, J, J, J, J, J, J, J, J, J, J, J, J, J, J, J, J, J, J, J, J, J, J, J, J, J, J, J, J, J, J, J, J, J, J, J, J, J, J, J, J, J, J, J, J, J, J, J, J, J, J, J, J, J, J, J, J, J, J, J, J, J, J, J, J, J, J, J, J, J, J, J, J], [⟨true, 0, 1, true, [.rsl (rowStg s.stages) 0 s.stages.length, .rsl (rowI s.worth) 0 s.worth.length, .int .i64 s.price], false⟩, ⟨true, g1, 1, true, (setAt (rowI v1) (0 + (Int.toNat i) * 1) [.int .i64 (e2 + ((e * (Int.tdiv all e1)) * te.w))]), true⟩, ⟨true, 0, 1, true, [.int .i64 v2_0, .int .i64 v2_1, .rsl (rowTrn v2_2) 0 v2_2.length], false⟩]⟩) : G Try.prog E (f80pK1 Try.prog) (f80pS1 s ends pa oa plan i all v1 v2_0 v2_1 v2_2 k g1) :=
  segC_step (n := 400) (ds := []) (cs := []) (live := [1, 2, 3, 4, 5, 11, 13, 14, 15, 16, 17]) (m := 3) (evs := [.b true, .auto, .ld (.agg [.int .i64 te.w, .int .i64 te.to]), .auto, .ld (.int .i64 e), .auto, .ld (.int .i64 e1), .b true, .b true, .ld (.int .i64 e2), .stop]) (obs := _) hE.2.1 (hE.nogh _) mixed (by kernel_rfl) ho hg
theorem p80p_1_1 (s : Stl) (ends : (List Int)) (pa : Int) (oa : Int) (plan : (List Int)) (i : Int) (all : Int) (v1 : List Int) (v2_0 : Int) (v2_1 : Int) (v2_2 : (List Trn)) (k : Nat) (g1 : Nat) (te : Trn) (e : Int) (e1 : Int) (e2 : Int) (e3 : Int)  {E : Env} {rv : AV} (hE : PureE Try.prog 80 rv E) (ho : AllP [(decide ((k : Int) < (v2_2.length : Int))) = true, 0 ≤ (k : Int) ∧ (k : Int) < (v2_2.length : Int), ((rowTrn v2_2).drop (0 + (Int.toNat (k : Int)) * 2)).take 2 = [.int .i64 te.w, .int .i64 te.to], 2 ≤ 2, 0 ≤ te.to ∧ te.to < (v1.length : Int), g1 = g1, g1 = g1, ((rowI v1).drop (0 + (Int.toNat te.to) * 1)).take 1 = [.int .i64 e], 0 ≤ te.to ∧ te.to < ((((measR (measA s)).1).length : Nat) : Int), ((rowI ((measR (measA s)).1)).drop (0 + (Int.toNat te.to) * 1)).take 1 = [.int .i64 e1], InR .i64 (Int.tdiv all e1), e1 ≠ 0, InR .i64 (e * (Int.tdiv all e1)), (v2_0 == 3) = true, (v2_0 == 1) = false, plan.length ≠ 0, true = true, 0 ≤ i ∧ i < (plan.length : Int), ((rowI plan).drop (0 + (Int.toNat i) * 1)).take 1 = [.int .i64 e2], (e2 == (k : Int)) = true, 0 ≤ i ∧ i < (v1.length : Int), g1 = g1, ((0 + (Int.toNat i) * 1) + 1) ≤ (rowI v1).length, g1 = g1, InR .i64 ((k : Int) + 1)])
    (hg : G Try.prog E (f80pK1 Try.prog) ⟨[J, .rsl (rowI ends) 0 ends.length, .int .i64 pa, .int .i64 oa, .rsl (rowI plan) 0 plan.length, .ptr 0 0 0, J, J, J, J, J, .rsl (rowI ((measR (measA s)).1)) 0 (((measR (measA s)).1).length), J, .sl 1 g1 0 v1.length 1, .int .i64 i, .ptr 2 0 0, .int .i64 all, .int .i64 ((k : Int) + 1), J, J, J, J, J, J, J, J, J, J, J, J, J, J, J, J, J, J, J, J, J, J, J, J, J, J, J, J, J, J, J, J, J, J, J, J, J, J, J, J, J, J, J, J, J, J, J, J, J, J, J, J, J, J, J, J, J, J, J, J, J, J, J, J, J, J, J, J, J, J, J, J, J, J, J, J, J, J, J, J, J, J, J, J, J, J, J, J, J, J, J, J, J, J, J, J, J, J, J, J, J, J, J, J, J, J, J, J, J, J, J, J, J, J, J, J, J, J, J, J, J, J, J, J, J, J, J, J, J, J, J, J, J, J], [⟨true, 0, 1, true, [.rsl (rowStg s.stages) 0 s.stages.length, .rsl (rowI s.worth) 0 s.worth.length, .int .i64 s.price], false⟩, ⟨true, g1, 1, true, (setAt (rowI v1) (0 + (Int.toNat i) * 1) [.int .i64 (e * (Int.tdiv all e1))]), true⟩, ⟨true, 0, 1, true, [.int .i64 v2_0, .int .i64 v2_1, .rsl (rowTrn v2_2) 0 v2_2.length], false⟩]⟩) : G Try.prog E (f80pK1 Try.prog) (f80pS1 s ends pa oa plan i all v1 v2_0 v2_1 v2_2 k g1) :=
  segC_step (n := 400) (ds := []) (cs := []) (live := [1, 2, 3, 4, 5, 11, 13, 14, 15, 16, 17]) (m := 3) (evs := [.b true, .auto, .ld (.agg [.int .i64 te.w, .int .i64 te.to]), .auto, .ld (.int .i64 e), .auto, .ld (.int .i64 e1), .b true, .b false, .b true, .ld (.int .i64 e2), .b true, .stop]) (obs := _) hE.2.1 (hE.nogh _) mixed (by kernel_rfl) ho hg
theorem p80p_1_2 (s : Stl) (ends : (List Int)) (pa : Int) (oa : Int) (plan : (List Int)) (i : Int) (all : Int) (v1 : List Int) (v2_0 : Int) (v2_1 : Int) (v2_2 : (List Trn)) (k : Nat) (g1 : Nat) (te : Trn) (e : Int) (e1 : Int) (e2 : Int)  {E : Env} {rv : AV} (hE : PureE Try.prog 80 rv E) (ho : AllP [(decide ((k : Int) < (v2_2.length : Int))) = true, 0 ≤ (k : Int) ∧ (k : Int) < (v2_2.length : Int), ((rowTrn v2_2).drop (0 + (Int.toNat (k : Int)) * 2)).take 2 = [.int .i64 te.w, .int .i64 te.to], 2 ≤ 2, 0 ≤ te.to ∧ te.to < (v1.length : Int), g1 = g1, g1 = g1, ((rowI v1).drop (0 + (Int.toNat te.to) * 1)).take 1 = [.int .i64 e], 0 ≤ te.to ∧ te.to < ((((measR (measA s)).1).length : Nat) : Int), ((rowI ((measR (measA s)).1)).drop (0 + (Int.toNat te.to) * 1)).take 1 = [.int .i64 e1], InR .i64 (Int.tdiv all e1), e1 ≠ 0, InR .i64 (e * (Int.tdiv all e1)), (v2_0 == 3) = true, (v2_0 == 1) = false, plan.length ≠ 0, true = true, 0 ≤ i ∧ i < (plan.length : Int), ((rowI plan).drop (0 + (Int.toNat i) * 1)).take 1 = [.int .i64 e2], (e2 == (k : Int)) = false, InR .i64 ((k : Int) + 1)])
    (hg : G Try.prog E (f80pK1 Try.prog) ⟨[J, .rsl (rowI ends) 0 ends.length, .int .i64 pa, .int .i64 oa, .rsl (rowI plan) 0 plan.length, .ptr 0 0 0, J, J, J, J, J, .rsl (rowI ((measR (measA s)).1)) 0 (((measR (measA s)).1).length), J, .sl 1 g1 0 v1.length 1, .int .i64 i, .ptr 2 0 0, .int .i64 all, .int .i64 ((k : Int) + 1), J, J, J, J, J, J, J, J, J, J, J, J, J, J, J, J, J, J, J, J, J, J, J, J, J, J, J, J, J, J, J, J, J, J, J, J, J, J, J, J, J, J, J, J, J, J, J, J, J, J, J, J, J, J, J, J, J, J, J, J, J, J, J, J, J, J, J, J, J, J, J, J, J, J, J, J, J, J, J, J, J, J, J, J, J, J, J, J, J, J, J, J, J, J, J, J, J, J, J, J, J, J, J, J, J, J, J, J, J, J, J, J, J, J, J, J, J, J, J, J, J, J, J, J, J, J, J, J, J, J, J, J, J, J], [⟨true, 0, 1, true, [.rsl (rowStg s.stages) 0 s.stages.length, .rsl (rowI s.worth) 0 s.worth.length, .int .i64 s.price], false⟩, ⟨true, g1, 1, true, (rowI v1), true⟩, ⟨true, 0, 1, true, [.int .i64 v2_0, .int .i64 v2_1, .rsl (rowTrn v2_2) 0 v2_2.length], false⟩]⟩) : G Try.prog E (f80pK1 Try.prog) (f80pS1 s ends pa oa plan i all v1 v2_0 v2_1 v2_2 k g1) :=
  segC_step (n := 400) (ds := []) (cs := []) (live := [1, 2, 3, 4, 5, 11, 13, 14, 15, 16, 17]) (m := 3) (evs := [.b true, .auto, .ld (.agg [.int .i64 te.w, .int .i64 te.to]), .auto, .ld (.int .i64 e), .auto, .ld (.int .i64 e1), .b true, .b false, .b true, .ld (.int .i64 e2), .b false, .stop]) (obs := _) hE.2.1 (hE.nogh _) mixed (by kernel_rfl) ho hg
theorem p80p_1_3 (s : Stl) (ends : (List Int)) (pa : Int) (oa : Int) (plan : (List Int)) (i : Int) (all : Int) (v1 : List Int) (v2_0 : Int) (v2_1 : Int) (v2_2 : (List Trn)) (k : Nat) (g1 : Nat) (te : Trn) (e : Int) (e1 : Int) (e2 : Int)  {E : Env} {rv : AV} (hE : PureE Try.prog 80 rv E) (ho : AllP [(decide ((k : Int) < (v2_2.length : Int))) = true, 0 ≤ (k : Int) ∧ (k : Int) < (v2_2.length : Int), ((rowTrn v2_2).drop (0 + (Int.toNat (k : Int)) * 2)).take 2 = [.int .i64 te.w, .int .i64 te.to], 2 ≤ 2, 0 ≤ te.to ∧ te.to < (v1.length : Int), g1 = g1, g1 = g1, ((rowI v1).drop (0 + (Int.toNat te.to) * 1)).take 1 = [.int .i64 e], 0 ≤ te.to ∧ te.to < ((((measR (measA s)).1).length : Nat) : Int), ((rowI ((measR (measA s)).1)).drop (0 + (Int.toNat te.to) * 1)).take 1 = [.int .i64 e1], InR .i64 (Int.tdiv all e1), e1 ≠ 0, InR .i64 (e * (Int.tdiv all e1)), (v2_0 == 3) = false, (v2_0 == 1) = true, 0 ≤ i ∧ i < (v1.length : Int), g1 = g1, g1 = g1, ((rowI v1).drop (0 + (Int.toNat i) * 1)).take 1 = [.int .i64 e2], InR .i64 ((e * (Int.tdiv all e1)) * te.w), InR .i64 (e2 + ((e * (Int.tdiv all e1)) * te.w)), 0 ≤ i ∧ i < (v1.length : Int), g1 = g1, ((0 + (Int.toNat i) * 1) + 1) ≤ (rowI v1).length, g1 = g1, InR .i64 ((k : Int) + 1)])
    (hg : G Try.prog E (f80pK1 Try.prog) ⟨[J, .rsl (rowI ends) 0 ends.length, .int .i64 pa, .int .i64 oa, .rsl (rowI plan) 0 plan.length, .ptr 0 0 0, J, J, J, J, J, .rsl (rowI ((measR (measA s)).1)) 0 (((measR (measA s)).1).length), J, .sl 1 g1 0 v1.length 1, .int .i64 i, .ptr 2 0 0, .int .i64 all, .int .i64 ((k : Int) + 1), J, J, J, J, J, J, J, J, J, J, J, J, J, J, J, J, J, J, J, J, J, J, J, J, J, J, J, J, J, J, J, J, J, J, J, J, J, J, J, J, J, J, J, J, J, J, J, J, J, J, J, J, J, J, J, J, J, J, J, J, J, J, J, J, J, J, J, J, J, J, J, J, J, J, J, J, J, J, J, J, J, J, J, J, J, J, J, J, J, J, J, J, J, J, J, J, J, J, J, J, J, J, J, J, J, J, J, J, J, J, J, J, J, J, J, J, J, J, J, J, J, J, J, J, J, J, J, J, J, J, J, J, J, J], [⟨true, 0, 1, true, [.rsl (rowStg s.stages) 0 s.stages.length, .rsl (rowI s.worth) 0 s.worth.length, .int .i64 s.price], false⟩, ⟨true, g1, 1, true, (setAt (rowI v1) (0 + (Int.toNat i) * 1) [.int .i64 (e2 + ((e * (Int.tdiv all e1)) * te.w))]), true⟩, ⟨true, 0, 1, true, [.int .i64 v2_0, .int .i64 v2_1, .rsl (rowTrn v2_2) 0 v2_2.length], false⟩]⟩) : G Try.prog E (f80pK1 Try.prog) (f80pS1 s ends pa oa plan i all v1 v2_0 v2_1 v2_2 k g1) :=
  segC_step (n := 400) (ds := []) (cs := []) (live := [1, 2, 3, 4, 5, 11, 13, 14, 15, 16, 17]) (m := 3) (evs := [.b true, .auto, .ld (.agg [.int .i64 te.w, .int .i64 te.to]), .auto, .ld (.int .i64 e), .auto, .ld (.int .i64 e1), .b false, .b true, .ld (.int .i64 e2), .stop]) (obs := _) hE.2.1 (hE.nogh _) mixed (by kernel_rfl) ho hg
theorem p80p_1_4 (s : Stl) (ends : (List Int)) (pa : Int) (oa : Int) (plan : (List Int)) (i : Int) (all : Int) (v1 : List Int) (v2_0 : Int) (v2_1 : Int) (v2_2 : (List Trn)) (k : Nat) (g1 : Nat) (te : Trn) (e : Int) (e1 : Int) (e2 : Int) (e3 : Int)  {E : Env} {rv : AV} (hE : PureE Try.prog 80 rv E) (ho : AllP [(decide ((k : Int) < (v2_2.length : Int))) = true, 0 ≤ (k : Int) ∧ (k : Int) < (v2_2.length : Int), ((rowTrn v2_2).drop (0 + (Int.toNat (k : Int)) * 2)).take 2 = [.int .i64 te.w, .int .i64 te.to], 2 ≤ 2, 0 ≤ te.to ∧ te.to < (v1.length : Int), g1 = g1, g1 = g1, ((rowI v1).drop (0 + (Int.toNat te.to) * 1)).take 1 = [.int .i64 e], 0 ≤ te.to ∧ te.to < ((((measR (measA s)).1).length : Nat) : Int), ((rowI ((measR (measA s)).1)).drop (0 + (Int.toNat te.to) * 1)).take 1 = [.int .i64 e1], InR .i64 (Int.tdiv all e1), e1 ≠ 0, InR .i64 (e * (Int.tdiv all e1)), (v2_0 == 3) = false, (v2_0 == 1) = false, plan.length ≠ 0, true = true, 0 ≤ i ∧ i < (plan.length : Int), ((rowI plan).drop (0 + (Int.toNat i) * 1)).take 1 = [.int .i64 e2], (e2 == (k : Int)) = true, 0 ≤ i ∧ i < (v1.length : Int), g1 = g1, ((0 + (Int.toNat i) * 1) + 1) ≤ (rowI v1).length, g1 = g1, InR .i64 ((k : Int) + 1)])
    (hg : G Try.prog E (f80pK1 Try.prog) ⟨[J, .rsl (rowI ends) 0 ends.length, .int .i64 pa, .int .i64 oa, .rsl (rowI plan) 0 plan.length, .ptr 0 0 0, J, J, J, J, J, .rsl (rowI ((measR (measA s)).1)) 0 (((measR (measA s)).1).length), J, .sl 1 g1 0 v1.length 1, .int .i64 i, .ptr 2 0 0, .int .i64 all, .int .i64 ((k : Int) + 1), J, J, J, J, J, J, J, J, J, J, J, J, J, J, J, J, J, J, J, J, J, J, J, J, J, J, J, J, J, J, J, J, J, J, J, J, J, J, J, J, J, J, J, J, J, J, J, J, J, J, J, J, J, J, J, J, J, J, J, J, J, J, J, J, J, J, J, J, J, J, J, J, J, J, J, J, J, J, J, J, J, J, J, J, J, J, J, J, J, J, J, J, J, J, J, J, J, J, J, J, J, J, J, J, J, J, J, J, J, J, J, J, J, J, J, J, J, J, J, J, J, J, J, J, J, J, J, J, J, J, J, J, J, J], [⟨true, 0, 1, true, [.rsl (rowStg s.stages) 0 s.stages.length, .rsl (rowI s.worth) 0 s.worth.length, .int .i64 s.price], false⟩, ⟨true, g1, 1, true, (setAt (rowI v1) (0 + (Int.toNat i) * 1) [.int .i64 (e * (Int.tdiv all e1))]), true⟩, ⟨true, 0, 1, true, [.int .i64 v2_0, .int .i64 v2_1, .rsl (rowTrn v2_2) 0 v2_2.length], false⟩]⟩) : G Try.prog E (f80pK1 Try.prog) (f80pS1 s ends pa oa plan i all v1 v2_0 v2_1 v2_2 k g1) :=
  segC_step (n := 400) (ds := []) (cs := []) (live := [1, 2, 3, 4, 5, 11, 13, 14, 15, 16, 17]) (m := 3) (evs := [.b true, .auto, .ld (.agg [.int .i64 te.w, .int .i64 te.to]), .auto, .ld (.int .i64 e), .auto, .ld (.int .i64 e1), .b false, .b false, .b true, .ld (.int .i64 e2), .b true, .stop]) (obs := _) hE.2.1 (hE.nogh _) mixed (by kernel_rfl) ho hg
theorem p80p_1_5 (s : Stl) (ends : (List Int)) (pa : Int) (oa : Int) (plan : (List Int)) (i : Int) (all : Int) (v1 : List Int) (v2_0 : Int) (v2_1 : Int) (v2_2 : (List Trn)) (k : Nat) (g1 : Nat) (te : Trn) (e : Int) (e1 : Int) (e2 : Int)  {E : Env} {rv : AV} (hE : PureE Try.prog 80 rv E) (ho : AllP [(decide ((k : Int) < (v2_2.length : Int))) = true, 0 ≤ (k : Int) ∧ (k : Int) < (v2_2.length : Int), ((rowTrn v2_2).drop (0 + (Int.toNat (k : Int)) * 2)).take 2 = [.int .i64 te.w, .int .i64 te.to], 2 ≤ 2, 0 ≤ te.to ∧ te.to < (v1.length : Int), g1 = g1, g1 = g1, ((rowI v1).drop (0 + (Int.toNat te.to) * 1)).take 1 = [.int .i64 e], 0 ≤ te.to ∧ te.to < ((((measR (measA s)).1).length : Nat) : Int), ((rowI ((measR (measA s)).1)).drop (0 + (Int.toNat te.to) * 1)).take 1 = [.int .i64 e1], InR .i64 (Int.tdiv all e1), e1 ≠ 0, InR .i64 (e * (Int.tdiv all e1)), (v2_0 == 3) = false, (v2_0 == 1) = false, plan.length ≠ 0, true = true, 0 ≤ i ∧ i < (plan.length : Int), ((rowI plan).drop (0 + (Int.toNat i) * 1)).take 1 = [.int .i64 e2], (e2 == (k : Int)) = false, InR .i64 ((k : Int) + 1)])
    (hg : G Try.prog E (f80pK1 Try.prog) ⟨[J, .rsl (rowI ends) 0 ends.length, .int .i64 pa, .int .i64 oa, .rsl (rowI plan) 0 plan.length, .ptr 0 0 0, J, J, J, J, J, .rsl (rowI ((measR (measA s)).1)) 0 (((measR (measA s)).1).length), J, .sl 1 g1 0 v1.length 1, .int .i64 i, .ptr 2 0 0, .int .i64 all, .int .i64 ((k : Int) + 1), J, J, J, J, J, J, J, J, J, J, J, J, J, J, J, J, J, J, J, J, J, J, J, J, J, J, J, J, J, J, J, J, J, J, J, J, J, J, J, J, J, J, J, J, J, J, J, J, J, J, J, J, J, J, J, J, J, J, J, J, J, J, J, J, J, J, J, J, J, J, J, J, J, J, J, J, J, J, J, J, J, J, J, J, J, J, J, J, J, J, J, J, J, J, J, J, J, J, J, J, J, J, J, J, J, J, J, J, J, J, J, J, J, J, J, J, J, J, J, J, J, J, J, J, J, J, J, J, J, J, J, J, J, J], [⟨true, 0, 1, true, [.rsl (rowStg s.stages) 0 s.stages.length, .rsl (rowI s.worth) 0 s.worth.length, .int .i64 s.price], false⟩, ⟨true, g1, 1, true, (rowI v1), true⟩, ⟨true, 0, 1, true, [.int .i64 v2_0, .int .i64 v2_1, .rsl (rowTrn v2_2) 0 v2_2.length], false⟩]⟩) : G Try.prog E (f80pK1 Try.prog) (f80pS1 s ends pa oa plan i all v1 v2_0 v2_1 v2_2 k g1) :=
  segC_step (n := 400) (ds := []) (cs := []) (live := [1, 2, 3, 4, 5, 11, 13, 14, 15, 16, 17]) (m := 3) (evs := [.b true, .auto, .ld (.agg [.int .i64 te.w, .int .i64 te.to]), .auto, .ld (.int .i64 e), .auto, .ld (.int .i64 e1), .b false, .b false, .b true, .ld (.int .i64 e2), .b false, .stop]) (obs := _) hE.2.1 (hE.nogh _) mixed (by kernel_rfl) ho hg
theorem p80p_1_6 (s : Stl) (ends : (List Int)) (pa : Int) (oa : Int) (plan : (List Int)) (i : Int) (all : Int) (v1 : List Int) (v2_0 : Int) (v2_1 : Int) (v2_2 : (List Trn)) (k : Nat) (g1 : Nat)  {E : Env} {rv : AV} (hE : PureE Try.prog 80 rv E) (ho : AllP [(decide ((k : Int) < (v2_2.length : Int))) = false, InR .i64 (i - 1)])
    (hg : G Try.prog E (f80pK0 Try.prog) ⟨[J, .rsl (rowI ends) 0 ends.length, .int .i64 pa, .int .i64 oa, .rsl (rowI plan) 0 plan.length, .ptr 0 0 0, J, J, J, J, J, .rsl (rowI ((measR (measA s)).1)) 0 (((measR (measA s)).1).length), J, .sl 1 g1 0 v1.length 1, .int .i64 (i - 1), J, J, J, J, J, J, J, J, J, J, J, J, J, J, J, J, J, J, J, J, J, J, J, J, J, J, J, J, J, J, J, J, J, J, J, J, J, J, J, J, J, J, J, J, J, J, J, J, J, J, J, J, J, J, J, J, J, J, J, J, J, J, J, J, J, J, J, J, J, J, J, J, J, J, J, J, J, J, J, J, J, J, J, J, J, J, J, J, J, J, J, J, J, J, J, J, J, J, J, J, J, J, J, J, J, J, J, J, J, J, J, J, J, J, J, J, J, J, J, J, J, J, J, J, J, J, J, J, J, J, J, J, J, J, J, J, J], [⟨true, 0, 1, true, [.rsl (rowStg s.stages) 0 s.stages.length, .rsl (rowI s.worth) 0 s.worth.length, .int .i64 s.price], false⟩, ⟨true, g1, 1, true, (rowI v1), true⟩]⟩) : G Try.prog E (f80pK1 Try.prog) (f80pS1 s ends pa oa plan i all v1 v2_0 v2_1 v2_2 k g1) :=
  segC_step (n := 400) (ds := []) (cs := []) (live := [1, 2, 3, 4, 5, 11, 13, 14]) (m := 2) (evs := [.b false, .stop]) (obs := _) hE.2.1 (hE.nogh _) mixed (by kernel_rfl) ho hg
theorem f80pW1 (s : Stl) (ends : (List Int)) (pa : Int) (oa : Int) (plan : (List Int)) (i : Int) (all : Int) (v1 : List Int) (v2_0 : Int) (v2_1 : Int) (v2_2 : (List Trn)) (k : Nat) {E : Env} {rv : (List Int)} (hE : PureE Try.prog 80 (.rsl (rowI rv) 0 rv.length) E)
    (h : (((k : Int) < (v2_2.length : Int) → (∃ te : Trn, v2_2[k]? = some te ∧ (0 ≤ te.to ∧ (∃ e : Int, v1[Int.toNat te.to]? = some e ∧ (0 ≤ te.to ∧ (∃ e1 : Int, ((measR (measA s)).1)[Int.toNat te.to]? = some e1 ∧ ((-9223372036854775808 ≤ Int.tdiv all e1 ∧ Int.tdiv all e1 ≤ 9223372036854775807) ∧ (e1 ≠ 0 ∧ ((-9223372036854775808 ≤ e * (Int.tdiv all e1) ∧ e * (Int.tdiv all e1) ≤ 9223372036854775807) ∧ ((v2_0 = 3 → ((v2_0 = 1 → (0 ≤ i ∧ (∃ e2 : Int, v1[Int.toNat i]? = some e2 ∧ ((-9223372036854775808 ≤ (e * (Int.tdiv all e1)) * te.w ∧ (e * (Int.tdiv all e1)) * te.w ≤ 9223372036854775807) ∧ ((-9223372036854775808 ≤ e2 + ((e * (Int.tdiv all e1)) * te.w) ∧ e2 + ((e * (Int.tdiv all e1)) * te.w) ≤ 9223372036854775807) ∧ ((-9223372036854775808 ≤ (k : Int) + 1 ∧ (k : Int) + 1 ≤ 9223372036854775807) ∧ f80pG1 E s ends pa oa plan i all (v1.set (Int.toNat i) (e2 + ((e * (Int.tdiv all e1)) * te.w))) v2_0 v2_1 v2_2 (k + 1))))))) ∧ (¬ (v2_0 = 1) → (plan.length ≠ 0 ∧ (0 ≤ i ∧ (∃ e2 : Int, plan[Int.toNat i]? = some e2 ∧ ((e2 = (k : Int) → (0 ≤ i ∧ (∃ e3 : Int, v1[Int.toNat i]? = some e3 ∧ ((-9223372036854775808 ≤ (k : Int) + 1 ∧ (k : Int) + 1 ≤ 9223372036854775807) ∧ f80pG1 E s ends pa oa plan i all (v1.set (Int.toNat i) (e * (Int.tdiv all e1))) v2_0 v2_1 v2_2 (k + 1))))) ∧ (¬ (e2 = (k : Int)) → ((-9223372036854775808 ≤ (k : Int) + 1 ∧ (k : Int) + 1 ≤ 9223372036854775807) ∧ f80pG1 E s ends pa oa plan i all v1 v2_0 v2_1 v2_2 (k + 1)))))))))) ∧ (¬ (v2_0 = 3) → ((v2_0 = 1 → (0 ≤ i ∧ (∃ e2 : Int, v1[Int.toNat i]? = some e2 ∧ ((-9223372036854775808 ≤ (e * (Int.tdiv all e1)) * te.w ∧ (e * (Int.tdiv all e1)) * te.w ≤ 9223372036854775807) ∧ ((-9223372036854775808 ≤ e2 + ((e * (Int.tdiv all e1)) * te.w) ∧ e2 + ((e * (Int.tdiv all e1)) * te.w) ≤ 9223372036854775807) ∧ ((-9223372036854775808 ≤ (k : Int) + 1 ∧ (k : Int) + 1 ≤ 9223372036854775807) ∧ f80pG1 E s ends pa oa plan i all (v1.set (Int.toNat i) (e2 + ((e * (Int.tdiv all e1)) * te.w))) v2_0 v2_1 v2_2 (k + 1))))))) ∧ (¬ (v2_0 = 1) → (plan.length ≠ 0 ∧ (0 ≤ i ∧ (∃ e2 : Int, plan[Int.toNat i]? = some e2 ∧ ((e2 = (k : Int) → (0 ≤ i ∧ (∃ e3 : Int, v1[Int.toNat i]? = some e3 ∧ ((-9223372036854775808 ≤ (k : Int) + 1 ∧ (k : Int) + 1 ≤ 9223372036854775807) ∧ f80pG1 E s ends pa oa plan i all (v1.set (Int.toNat i) (e * (Int.tdiv all e1))) v2_0 v2_1 v2_2 (k + 1))))) ∧ (¬ (e2 = (k : Int)) → ((-9223372036854775808 ≤ (k : Int) + 1 ∧ (k : Int) + 1 ≤ 9223372036854775807) ∧ f80pG1 E s ends pa oa plan i all v1 v2_0 v2_1 v2_2 (k + 1)))))))))))))))))))) ∧ (¬ ((k : Int) < (v2_2.length : Int)) → ((-9223372036854775808 ≤ i - 1 ∧ i - 1 ≤ 9223372036854775807) ∧ f80pG0 E s ends pa oa plan v1 (i - 1))))) : f80pG1 E s ends pa oa plan i all v1 v2_0 v2_1 v2_2 k := by
  intro g1
  rcases Bool.eq_false_or_eq_true (decide ((k : Int) < (v2_2.length : Int))) with hc0 | hc0
  · have h := h.1 (of_decide_eq_true hc0)
    obtain ⟨te, h1, h⟩ := h
    obtain ⟨h3, h⟩ := h
    obtain ⟨e, h2, h⟩ := h
    obtain ⟨h5, h⟩ := h
    obtain ⟨e1, h4, h⟩ := h
    obtain ⟨q13_1, h⟩ := h
    obtain ⟨q14_1, h⟩ := h
    obtain ⟨q15_1, h⟩ := h
    rcases Bool.eq_false_or_eq_true (v2_0 == 3) with hc1 | hc1
    · have h := h.1 (eq_of_beq hc1)
      rcases Bool.eq_false_or_eq_true (v2_0 == 1) with hc2 | hc2
      · have h := h.1 (eq_of_beq hc2)
        obtain ⟨h7, h⟩ := h
        obtain ⟨e2, h6, h⟩ := h
        obtain ⟨q23_3, h⟩ := h
        obtain ⟨q24_3, h⟩ := h
        obtain ⟨q29_3, h⟩ := h
        refine p80p_1_0 s ends pa oa plan i all v1 v2_0 v2_1 v2_2 k g1 te e e1 e2 hE ⟨hc0, (idx_ok h1), (row_part cTrn (s := 2) (k := 0) (m := 2) (fun _ => rfl) (by decide) h1), (by decide), (idx_ok' h3 h2), rfl, rfl, (row_part cI (s := 1) (k := 0) (m := 1) (fun _ => rfl) (by decide) h2), (idx_ok' h5 h4), (row_part cI (s := 1) (k := 0) (m := 1) (fun _ => rfl) (by decide) h4), q13_1, q14_1, q15_1, hc1, hc2, (idx_ok' h7 h6), rfl, rfl, (row_part cI (s := 1) (k := 0) (m := 1) (fun _ => rfl) (by decide) h6), q23_3, q24_3, (idx_ok' h7 h6), rfl, (row_fits cI (s := 1) (k := 0) (m := 1) (fun _ => rfl) (by decide) h6), rfl, q29_3, trivial⟩ ?_
        have h := (h g1)
        simp only [f80pS1, List.length_set] at h
        rw [(show setAt (rowI v1) (0 + (Int.toNat i) * 1) [.int .i64 (e2 + ((e * (Int.tdiv all e1)) * te.w))] = rowI (v1.set (Int.toNat i) (e2 + ((e * (Int.tdiv all e1)) * te.w))) from row_set cI (s := 1) (k := 0) (fun _ => rfl) h6 rfl (by first | decide | simp))]
        exact h
      · have h := h.2 (ne_of_beq_false hc2)
        obtain ⟨q18_3, h⟩ := h
        obtain ⟨h7, h⟩ := h
        obtain ⟨e2, h6, h⟩ := h
        rcases Bool.eq_false_or_eq_true (e2 == (k : Int)) with hc3 | hc3
        · have h := h.1 (eq_of_beq hc3)
          obtain ⟨h9, h⟩ := h
          obtain ⟨e3, h8, h⟩ := h
          obtain ⟨q29_4, h⟩ := h
          refine p80p_1_1 s ends pa oa plan i all v1 v2_0 v2_1 v2_2 k g1 te e e1 e2 e3 hE ⟨hc0, (idx_ok h1), (row_part cTrn (s := 2) (k := 0) (m := 2) (fun _ => rfl) (by decide) h1), (by decide), (idx_ok' h3 h2), rfl, rfl, (row_part cI (s := 1) (k := 0) (m := 1) (fun _ => rfl) (by decide) h2), (idx_ok' h5 h4), (row_part cI (s := 1) (k := 0) (m := 1) (fun _ => rfl) (by decide) h4), q13_1, q14_1, q15_1, hc1, hc2, q18_3, rfl, (idx_ok' h7 h6), (row_part cI (s := 1) (k := 0) (m := 1) (fun _ => rfl) (by decide) h6), hc3, (idx_ok' h9 h8), rfl, (row_fits cI (s := 1) (k := 0) (m := 1) (fun _ => rfl) (by decide) h8), rfl, q29_4, trivial⟩ ?_
          have h := (h g1)
          simp only [f80pS1, List.length_set] at h
          rw [(show setAt (rowI v1) (0 + (Int.toNat i) * 1) [.int .i64 (e * (Int.tdiv all e1))] = rowI (v1.set (Int.toNat i) (e * (Int.tdiv all e1))) from row_set cI (s := 1) (k := 0) (fun _ => rfl) h8 rfl (by first | decide | simp))]
          exact h
        · have h := h.2 (ne_of_beq_false hc3)
          obtain ⟨q24_4, h⟩ := h
          exact p80p_1_2 s ends pa oa plan i all v1 v2_0 v2_1 v2_2 k g1 te e e1 e2 hE ⟨hc0, (idx_ok h1), (row_part cTrn (s := 2) (k := 0) (m := 2) (fun _ => rfl) (by decide) h1), (by decide), (idx_ok' h3 h2), rfl, rfl, (row_part cI (s := 1) (k := 0) (m := 1) (fun _ => rfl) (by decide) h2), (idx_ok' h5 h4), (row_part cI (s := 1) (k := 0) (m := 1) (fun _ => rfl) (by decide) h4), q13_1, q14_1, q15_1, hc1, hc2, q18_3, rfl, (idx_ok' h7 h6), (row_part cI (s := 1) (k := 0) (m := 1) (fun _ => rfl) (by decide) h6), hc3, q24_4, trivial⟩ (h g1)
    · have h := h.2 (ne_of_beq_false hc1)
      rcases Bool.eq_false_or_eq_true (v2_0 == 1) with hc2 | hc2
      · have h := h.1 (eq_of_beq hc2)
        obtain ⟨h7, h⟩ := h
        obtain ⟨e2, h6, h⟩ := h
        obtain ⟨q23_3, h⟩ := h
        obtain ⟨q24_3, h⟩ := h
        obtain ⟨q29_3, h⟩ := h
        refine p80p_1_3 s ends pa oa plan i all v1 v2_0 v2_1 v2_2 k g1 te e e1 e2 hE ⟨hc0, (idx_ok h1), (row_part cTrn (s := 2) (k := 0) (m := 2) (fun _ => rfl) (by decide) h1), (by decide), (idx_ok' h3 h2), rfl, rfl, (row_part cI (s := 1) (k := 0) (m := 1) (fun _ => rfl) (by decide) h2), (idx_ok' h5 h4), (row_part cI (s := 1) (k := 0) (m := 1) (fun _ => rfl) (by decide) h4), q13_1, q14_1, q15_1, hc1, hc2, (idx_ok' h7 h6), rfl, rfl, (row_part cI (s := 1) (k := 0) (m := 1) (fun _ => rfl) (by decide) h6), q23_3, q24_3, (idx_ok' h7 h6), rfl, (row_fits cI (s := 1) (k := 0) (m := 1) (fun _ => rfl) (by decide) h6), rfl, q29_3, trivial⟩ ?_
        have h := (h g1)
        simp only [f80pS1, List.length_set] at h
        rw [(show setAt (rowI v1) (0 + (Int.toNat i) * 1) [.int .i64 (e2 + ((e * (Int.tdiv all e1)) * te.w))] = rowI (v1.set (Int.toNat i) (e2 + ((e * (Int.tdiv all e1)) * te.w))) from row_set cI (s := 1) (k := 0) (fun _ => rfl) h6 rfl (by first | decide | simp))]
        exact h
      · have h := h.2 (ne_of_beq_false hc2)
        obtain ⟨q18_3, h⟩ := h
        obtain ⟨h7, h⟩ := h
        obtain ⟨e2, h6, h⟩ := h
        rcases Bool.eq_false_or_eq_true (e2 == (k : Int)) with hc3 | hc3
        · have h := h.1 (eq_of_beq hc3)
          obtain ⟨h9, h⟩ := h
          obtain ⟨e3, h8, h⟩ := h
          obtain ⟨q29_4, h⟩ := h
          refine p80p_1_4 s ends pa oa plan i all v1 v2_0 v2_1 v2_2 k g1 te e e1 e2 e3 hE ⟨hc0, (idx_ok h1), (row_part cTrn (s := 2) (k := 0) (m := 2) (fun _ => rfl) (by decide) h1), (by decide), (idx_ok' h3 h2), rfl, rfl, (row_part cI (s := 1) (k := 0) (m := 1) (fun _ => rfl) (by decide) h2), (idx_ok' h5 h4), (row_part cI (s := 1) (k := 0) (m := 1) (fun _ => rfl) (by decide) h4), q13_1, q14_1, q15_1, hc1, hc2, q18_3, rfl, (idx_ok' h7 h6), (row_part cI (s := 1) (k := 0) (m := 1) (fun _ => rfl) (by decide) h6), hc3, (idx_ok' h9 h8), rfl, (row_fits cI (s := 1) (k := 0) (m := 1) (fun _ => rfl) (by decide) h8), rfl, q29_4, trivial⟩ ?_
          have h := (h g1)
          simp only [f80pS1, List.length_set] at h
          rw [(show setAt (rowI v1) (0 + (Int.toNat i) * 1) [.int .i64 (e * (Int.tdiv all e1))] = rowI (v1.set (Int.toNat i) (e * (Int.tdiv all e1))) from row_set cI (s := 1) (k := 0) (fun _ => rfl) h8 rfl (by first | decide | simp))]
          exact h
        · have h := h.2 (ne_of_beq_false hc3)
          obtain ⟨q24_4, h⟩ := h
          exact p80p_1_5 s ends pa oa plan i all v1 v2_0 v2_1 v2_2 k g1 te e e1 e2 hE ⟨hc0, (idx_ok h1), (row_part cTrn (s := 2) (k := 0) (m := 2) (fun _ => rfl) (by decide) h1), (by decide), (idx_ok' h3 h2), rfl, rfl, (row_part cI (s := 1) (k := 0) (m := 1) (fun _ => rfl) (by decide) h2), (idx_ok' h5 h4), (row_part cI (s := 1) (k := 0) (m := 1) (fun _ => rfl) (by decide) h4), q13_1, q14_1, q15_1, hc1, hc2, q18_3, rfl, (idx_ok' h7 h6), (row_part cI (s := 1) (k := 0) (m := 1) (fun _ => rfl) (by decide) h6), hc3, q24_4, trivial⟩ (h g1)
  · have h := h.2 (of_decide_eq_false hc0)
    obtain ⟨q1_1, h⟩ := h
    exact p80p_1_6 s ends pa oa plan i all v1 v2_0 v2_1 v2_2 k g1  hE ⟨hc0, q1_1, trivial⟩ (h g1)

set_option maxHeartbeats 2000000 in
theorem valuesp_ok (s : Stl) (w : Int → Int) (pa oa : Int) (plan : List Int) (h : checkK s = 0 ∧ plan.length = s.stages.length) (hw : WOk (machG s) w (fun i _ => planI plan i)) : Pure Try.prog 80 [.agg [.rsl (rowStg s.stages) 0 s.stages.length, .rsl (rowI s.worth) 0 s.worth.length, .int .i64 s.price], .rsl (rowI (endsI s w)) 0 (endsI s w).length, .int .i64 pa, .int .i64 oa, .rsl (rowI plan) 0 plan.length] (.rsl (rowI (valuesP s w plan)) 0 (valuesP s w plan).length) := pure_of Try.func80 f80pb fun E hE => by
  obtain ⟨hm, es⟩ := mok_G (isSome_of h.1)
  have hme := measR_of (isSome_of h.1)
  have hrv : (valuesP s w plan) = (valA (machG s) w (fun i _ => planI plan i)).1 := rfl
  have hlen := h.2
  have hz : valA (machG s) w (fun i _ => planI plan i) = valN (machG s) w (fun i _ => planI plan i) s.stages.length (zeros s.stages.length, zeros s.stages.length) := by rw [valA, es]
  have hp0 := val_ok0 hm
  generalize hmm : machG s = m at *
  have hform := (stPre_of hm.st).2.2.2.2
  have hn := (stPre_of hm.st).1
  rw [es] at hform hn hp0
  have key : ∀ (n : Nat) (p : List Int × List Int), n ≤ s.stages.length → VOk m n p → valA m w (fun i _ => planI plan i) = valN m w (fun i _ => planI plan i) n p → f80pG0 E s (endsI s w) pa oa plan p.1 ((n : Int) - 1) := by
    intro n
    induction n with
    | zero =>
      intro p hn hp ha
      exact f80pW0 s (endsI s w) pa oa plan p.1 _ (rv := (valuesP s w plan)) hE ⟨fun h => by omega, fun _ => by rw [hrv, ha, valN]⟩
    | succ i ih =>
      intro p hn' hp ha
      have hi : s.stages[i]? = some s.stages[i] := List.getElem?_eq_getElem (by omega)
      have hx : s.stages.getD i ⟨0, 0, []⟩ = s.stages[i] := by simp [List.getD, hi]
      have en : Int.toNat (i : Int) = i := Int.toNat_natCast i
      have e0 : ((i + 1 : Nat) : Int) - 1 = (i : Int) := by omega
      have hp2 := val_step hm hw (by rw [es]; omega) hp
      have nx := ih (valStep m w (fun i _ => planI plan i) i p) (by omega) hp2 (by rw [ha, valN])
      have hfo := form_of hi (hform i (by omega))
      have hto := turns_to hi (hform i (by omega))
      have htt := tot_of hi (hform i (by omega))
      have hv0 : p.1[i]? = some 0 := by
        have := getD_some (l := p.1) (i := i) (by rw [hp.l1, es]; omega)
        rw [hp.lo i (by omega)] at this; exact this
      have hi' : m.s.stages[i]? = some s.stages[i] := by rw [es]; exact hi
      obtain ⟨q, q1, q2, q3, q4⟩ := hm.inv.rel i _ (by omega) hi'
      have hend := ends_at (w := w) hi
      have hch := fun (l : List Int) (h4 : s.stages[i].kind ≠ 4) (h1 : s.stages[i].kind ≠ 1) (hl : l.length = s.stages[i].turns.length) (h0 : 0 < l.length) => hw.c1 i _ l hi' h4 h1 hl h0
      skip
      unfold valStep at nx
      rw [es, hx] at nx
      generalize s.stages[i] = x at hi hi' hx nx hfo hto htt q2 q4 hend hch 
      rw [e0]
      have hme2 : ((measR (measA s)).1)[Int.toNat (i : Int)]? = some (if x.kind = 1 then q * totI x else q) := by rw [hme, en]; exact q2
      have htail : x.kind ≠ 4 → f80pG1 E s (endsI s w) pa oa plan (i : Int) q p.1 x.kind x.prize x.turns 0 := by
        intro h4
        rw [if_neg h4] at nx
        have hlen : 1 ≤ x.turns.length ∧ x.turns.length ≤ 8 := by
          rcases hfo with ⟨h, -⟩ | ⟨-, -, h, -⟩
          · exact absurd h h4
          · exact h
        have hall := next_all hm hi' hp q1
        have hl : (nextI m i p.1 x.turns).length = x.turns.length := by simp [nextI]
        have htot := fun (h1 : x.kind = 1) (u : Int) (hu : m.meas[i]? = some u) => sum_bd hm hi' hp h1 hu
        -- what a turn is worth
        have turn : ∀ (k : Nat), k < x.turns.length → ∃ te e e1, x.turns[k]? = some te ∧ 0 ≤ te.to ∧ i < Int.toNat te.to ∧ p.1[Int.toNat te.to]? = some e ∧ m.meas[Int.toNat te.to]? = some e1 ∧ (nextI m i p.1 x.turns)[k]? = some (e * Int.tdiv q e1) ∧ (0 < e1 ∧ e1 ≤ 1000000000000) ∧ (0 ≤ Int.tdiv q e1 ∧ Int.tdiv q e1 ≤ 1000000000000) ∧ 0 ≤ e * Int.tdiv q e1 ∧ e * Int.tdiv q e1 ≤ 10000 * q := by
          intro k hk
          have hkk : x.turns[k]? = some x.turns[k] := List.getElem?_eq_getElem hk
          have htm := List.mem_of_getElem? hkk
          have hN : (nextI m i p.1 x.turns)[k]? = some (p.1.getD (Int.toNat x.turns[k].to) 0 * Int.tdiv (m.mult.getD i 0) (m.meas.getD (Int.toNat x.turns[k].to) 0)) := by rw [nextI, List.getElem?_map, hkk]; rfl
          generalize x.turns[k] = te at hkk htm hN
          obtain ⟨q', u, n1, n2, n3, n4, n5, n6, n7, n8, n9⟩ := next_bd hm hi' hp htm
          rw [q1] at n1; cases n1
          have ht := hto te htm
          rw [getD_of q1, getD_of n2] at hN
          exact ⟨te, _, u, hkk, ht.2.2, ht.1, getD_some (by rw [hp.l1, es]; exact ht.2.1), n2, hN, n4, ⟨n6, by omega⟩, n8, n9⟩
        generalize nextI m i p.1 x.turns = N at nx hall hl htot turn
        by_cases h1 : x.kind = 1
        · -- a chance
          rw [if_pos h1] at nx
          rw [if_pos h1] at q2
          have tb := htot h1 _ q2
          have mb := hm.inv.pos i _ (by omega) q2
          generalize q * totI x = u at q2 tb mb
          rw [hp.lo i (by omega), Int.zero_add] at nx
          have loop : ∀ (d k : Nat) (vs : List Int) (a : Int), k + d = x.turns.length → vs.length = s.stages.length → vs[i]? = some a → 0 ≤ a → a + sumW (x.turns.drop k) (N.drop k) = sumW x.turns N → p.1.set i (sumW x.turns N) = vs.set i (sumW x.turns N) → (∀ j, i < j → vs[j]? = p.1[j]?) → f80pG1 E s (endsI s w) pa oa plan (i : Int) q vs x.kind x.prize x.turns k := by
            intro d
            induction d with
            | zero =>
              intro k vs a hd hvl hva ha0 hsum hset hge
              rw [List.drop_eq_nil_of_le (by omega), sumW, Int.add_zero] at hsum
              rw [← hsum] at hset
              rw [set_same hva] at hset
              refine f80pW1 s (endsI s w) pa oa plan (i : Int) q vs x.kind x.prize x.turns k (rv := (valuesP s w plan)) hE ⟨fun h => by omega, fun _ => ⟨by omega, ?_⟩⟩
              rw [← hset, hsum]; exact nx
              all_goals simp
            | succ d ih2 =>
              intro k vs a hd hvl hva ha0 hsum hset hge
              obtain ⟨te, e, e1, hk, t0, t1, t2, t3, hN, t4, t5, t6, t7⟩ := turn k (by omega)
              have ek : x.turns.drop k = te :: x.turns.drop (k + 1) := by
                rw [List.drop_eq_getElem_cons (by omega)]; congr 1
                have := List.getElem?_eq_getElem (l := x.turns) (i := k) (by omega)
                rw [hk] at this; exact (Option.some.inj this).symm
              have eN : N.drop k = (e * Int.tdiv q e1) :: N.drop (k + 1) := by
                rw [List.drop_eq_getElem_cons (by omega)]; congr 1
                have := List.getElem?_eq_getElem (l := N) (i := k) (by omega)
                rw [hN] at this; exact (Option.some.inj this).symm
              rw [ek, eN, sumW] at hsum
              have rest := sumW_bd (ts := x.turns.drop (k + 1)) (es := N.drop (k + 1)) (B := 10000 * q) (fun e he => hall e (List.mem_of_mem_drop he)) (fun t ht => (htt.1.2 t (List.mem_of_mem_drop ht)).1) (by simp [hl])
              have b1 := (htt.1.2 _ (List.mem_of_getElem? hk)).1
              have b3 := Int.mul_nonneg b1 t6
              have nxt := ih2 (k + 1) (vs.set i (a + e * Int.tdiv q e1 * te.w)) (a + e * Int.tdiv q e1 * te.w) (by omega) (by simp [hvl]) (by rw [List.getElem?_set_self (by omega)]) (by rw [Int.mul_comm]; omega) (by rw [Int.mul_comm _ te.w]; omega) (by rw [List.set_set]; exact hset) (fun j hj => by rw [List.getElem?_set_ne (by omega)]; exact hge j hj)
              have b4 : te.w * (e * Int.tdiv q e1) = e * Int.tdiv q e1 * te.w := Int.mul_comm _ _
              rw [b4] at hsum b3
              refine f80pW1 s (endsI s w) pa oa plan (i : Int) q vs x.kind x.prize x.turns k (rv := (valuesP s w plan)) hE ⟨fun _ => ⟨te, hk, t0, e, by rw [hge _ t1]; exact t2, t0, e1, by rw [hme]; exact t3, by omega, by omega, by omega, fun h3 => by omega, fun _ => ⟨fun _ => ⟨by omega, a, by rw [en]; exact hva, by omega, by omega, by omega, by rw [en]; exact nxt⟩, fun h => absurd h1 h⟩⟩, fun h => by omega⟩
          exact loop x.turns.length 0 p.1 0 (by omega) (by rw [hp.l1, es]) hv0 (by omega) (by simp) rfl (fun j hj => rfl)
        · -- who chooses
          rw [if_neg h1] at nx

          have hc : 0 ≤ planI plan (i : Int) ∧ Int.toNat (planI plan (i : Int)) < N.length := hch N h4 h1 hl (by omega)
          have nx : f80pG0 E s (endsI s w) pa oa plan (p.1.set i (N.getD (Int.toNat (planI plan (i : Int))) 0)) ((i : Int) - 1) := nx
          have hpl : plan[i]? = some (planI plan (i : Int)) := by rw [planI, en]; exact getD_some (by omega)
          generalize planI plan (i : Int) = c at hc hpl nx
          have loop : ∀ (d k : Nat) (vs : List Int), k + d = x.turns.length → (k ≤ Int.toNat c → vs = p.1) → (Int.toNat c < k → vs = p.1.set i (N.getD (Int.toNat c) 0)) → f80pG1 E s (endsI s w) pa oa plan (i : Int) q vs x.kind x.prize x.turns k := by
            intro d
            induction d with
            | zero =>
              intro k vs hd hv1 hv2
              refine f80pW1 s (endsI s w) pa oa plan (i : Int) q vs x.kind x.prize x.turns k (rv := valuesP s w plan) hE ⟨fun h => by omega, fun _ => ⟨by omega, ?_⟩⟩
              rw [hv2 (by omega)]; exact nx
            | succ d ih2 =>
              intro k vs hd hv1 hv2
              obtain ⟨te, e, e1, hk, t0, t1, t2, t3, hN, t4, t5, t6, t7⟩ := turn k (by omega)
              have hvt : vs[Int.toNat te.to]? = some e := by
                rcases Nat.lt_or_ge (Int.toNat c) k with h0 | h0
                · rw [hv2 h0, List.getElem?_set_ne (by omega)]; exact t2
                · rw [hv1 h0]; exact t2
              have hvi : ∃ e2, vs[i]? = some e2 := by
                rcases Nat.lt_or_ge (Int.toNat c) k with h0 | h0
                · exact ⟨_, by rw [hv2 h0, List.getElem?_set_self (by rw [hp.l1, es]; omega)]⟩
                · exact ⟨0, by rw [hv1 h0]; exact hv0⟩
              obtain ⟨e2, hv⟩ := hvi
              have yes : c = (k : Int) → f80pG1 E s (endsI s w) pa oa plan (i : Int) q (vs.set i (e * Int.tdiv q e1)) x.kind x.prize x.turns (k + 1) := fun h => ih2 (k + 1) _ (by omega) (fun h => by omega) (fun _ => by rw [hv1 (by omega), show Int.toNat c = k by omega, getD_of hN])
              have no : ¬ (c = (k : Int)) → f80pG1 E s (endsI s w) pa oa plan (i : Int) q vs x.kind x.prize x.turns (k + 1) := fun h => ih2 (k + 1) _ (by omega) (fun h => hv1 (by omega)) (fun h => hv2 (by omega))
              refine f80pW1 s (endsI s w) pa oa plan (i : Int) q vs x.kind x.prize x.turns k (rv := valuesP s w plan) hE ⟨fun _ => ⟨te, hk, t0, e, hvt, t0, e1, by rw [hme]; exact t3, by omega, by omega, by omega, fun h3 => ⟨fun h => absurd h h1, fun _ => ⟨by omega, by omega, c, by rw [en]; exact hpl, fun h => ⟨by omega, e2, by rw [en]; exact hv, by omega, by rw [en]; exact yes h⟩, fun h => ⟨by omega, no h⟩⟩⟩, fun h3 => ⟨fun h => absurd h h1, fun _ => ⟨by omega, by omega, c, by rw [en]; exact hpl, fun h => ⟨by omega, e2, by rw [en]; exact hv, by omega, by rw [en]; exact yes h⟩, fun h => ⟨by omega, no h⟩⟩⟩⟩, fun h => by omega⟩
          exact loop x.turns.length 0 p.1 (by omega) (fun _ => rfl) (fun h => by omega)
      refine f80pW0 s (endsI s w) pa oa plan p.1 (i : Int) (rv := (valuesP s w plan)) hE ⟨fun _ => ⟨by omega, x, by rw [en]; exact hi, fun h4 => ⟨by omega, _, by rw [en]; exact hend, by omega, _, by rw [en]; exact hv0, by omega, ?_⟩, fun h4 => ⟨by omega, _, hme2, fun h1 => ⟨htt.1, ?_⟩, fun h1 => ?_⟩⟩, fun h => by omega⟩
      · rw [en]
        by_cases hpr : x.prize ≥ 0
        · rw [if_pos h4, if_pos hpr] at nx
          rw [if_pos ⟨h4, hpr⟩]; exact nx
        · rw [if_pos h4, if_neg hpr] at nx
          rw [if_neg (fun h => hpr h.2), set_same hv0]; exact nx
      · have h0 := htt.2 h1
        rw [if_pos h1]
        have : Int.tdiv (q * totI x) (totI x) = q := Int.mul_tdiv_cancel _ (by omega)
        rw [this]
        exact ⟨by omega, by omega, htail h4⟩
      · rw [if_neg h1]; exact htail h4
  have e : f80pG0 E s (endsI s w) pa oa plan (zeros s.stages.length) ((s.stages.length : Int) - 1) := key s.stages.length (zeros s.stages.length, zeros s.stages.length) (Nat.le_refl _) hp0 hz
  exact f80pW s (endsI s w) pa oa plan (rv := (valuesP s w plan)) hE ⟨⟨by omega, hform⟩, by omega, by omega, by rw [Int.toNat_natCast]; exact e⟩

end Go.Proofs.Ytfgmlaeikcfpbaa

namespace Go.Proofs.Ytfgmlaeikcfpbaa
open Go Ax
open Go.Proofs

theorem wok_planW {m : Mch} (hm : MOk m) {plan : List Int} (hp : planOk m.s plan = true) : WOk m (worthI m) (fun i _ => planI plan i) := ⟨worth_ok hm, plan_in hp⟩

abbrev avStl (s : Stl) : AV := .agg [.rsl (rowStg s.stages) 0 s.stages.length, .rsl (rowI s.worth) 0 s.worth.length, .int .i64 s.price]
theorem valuesPW_ok (s : Stl) (pa oa : Int) (plan : List Int) (h : checkK s = 0 ∧ planOk s plan = true) : Pure Try.prog 80 [avStl s, .rsl (rowI (endsI s (worthI (machG s)))) 0 (endsI s (worthI (machG s))).length, .int .i64 pa, .int .i64 oa, .rsl (rowI plan) 0 plan.length] (.rsl (rowI (valuesP s (worthI (machG s)) plan)) 0 (valuesP s (worthI (machG s)) plan).length) :=
  valuesp_ok s (worthI (machG s)) pa oa plan ⟨h.1, (planOk_of h.2).1⟩ (wok_planW (mok_G (isSome_of h.1)).1 (by rw [(mok_G (isSome_of h.1)).2]; exact h.2))

theorem checkK_no {s : Stl} (h : ¬ (checkK s = 0)) : checkK s = 60 := by
  unfold checkK at *
  split
  · rename_i h1; rw [if_pos h1] at h; omega
  · rfl
theorem isSome_iff {s : Stl} : (machI s).isSome = true ↔ checkK s = 0 := by
  unfold checkK; split <;> simp_all
def planE (s : Stl) (plan : List Int) : Int := if checkK s = 0 then (if planOk s plan = true then 0 else 1) else 60
theorem planE_of {s : Stl} {plan : List Int} (h : planE s plan = 0) : checkK s = 0 ∧ planOk s plan = true := by
  unfold planE at h
  split at h
  · rename_i h0
    split at h
    · rename_i h1; exact ⟨h0, h1⟩
    · omega
  · omega

/-! ### The end values of a machine, turn by turn -/
theorem fin_turn {m : Mch} (hm : MOk m) {w : Int → Int} {ch : Int → List Int → Int} (hw : WOk m w ch) {i : Nat} {x : Stg} (hi : m.s.stages[i]? = some x) {k : Nat} {t : Trn} (hk : x.turns[k]? = some t) :
    ∃ q u v, m.mult[i]? = some q ∧ m.meas[Int.toNat t.to]? = some u ∧ (valA m w ch).1[Int.toNat t.to]? = some v ∧ (nextI m i (valA m w ch).1 x.turns)[k]? = some (v * Int.tdiv q u) ∧ 0 ≤ t.to ∧ i < Int.toNat t.to ∧ Int.toNat t.to < m.s.stages.length ∧
      (0 < q ∧ q ≤ 1000000000000) ∧ (0 < u ∧ u ≤ 1000000000000) ∧ Int.tdiv q u * u = q ∧ 0 ≤ Int.tdiv q u ∧ Int.tdiv q u ≤ q ∧ (0 ≤ v ∧ v ≤ 10000 * u) ∧ 0 ≤ v * Int.tdiv q u ∧ v * Int.tdiv q u ≤ 10000 * q := by
  have hform := (stPre_of hm.st).2.2.2.2
  have hp := val_okA hm hw
  have ht := List.mem_of_getElem? hk
  have hto := turns_to hi (hform i (List.getElem?_eq_some_iff.1 hi).1) t ht
  obtain ⟨q, q1, q2, q3, q4⟩ := hm.inv.rel i x (by omega) hi
  have hg : m.meas[Int.toNat t.to]? = some (m.meas[Int.toNat t.to]'(by rw [hm.inv.l1]; exact hto.2.1)) := List.getElem?_eq_getElem _
  have hd := q4 t ht
  have hb := hm.inv.pos _ _ (by omega) hg
  have hv := hp.hi _ _ (by omega) hg
  have hN : (nextI m i (valA m w ch).1 x.turns)[k]? = some ((valA m w ch).1.getD (Int.toNat t.to) 0 * Int.tdiv (m.mult.getD i 0) (m.meas.getD (Int.toNat t.to) 0)) := by rw [nextI, List.getElem?_map, hk]; rfl
  rw [getD_of q1, getD_of hg] at hN
  rw [getD_of hg] at hd
  generalize m.meas[Int.toNat t.to]'(by rw [hm.inv.l1]; exact hto.2.1) = u at hg hd hb hv hN
  have hgv := getD_some (l := (valA m w ch).1) (i := Int.toNat t.to) (by rw [hp.l1]; exact hto.2.1)
  generalize (valA m w ch).1.getD (Int.toNat t.to) 0 = v at hv hN hgv
  have e1 : Int.tdiv q u = q / u := Int.tdiv_eq_ediv_of_nonneg (by omega)
  have e2 := Int.ediv_le_self u (show (0 : Int) ≤ q by omega)
  have e3 := Int.ediv_nonneg (show (0 : Int) ≤ q by omega) (show 0 ≤ u by omega)
  have e4 : Int.tdiv q u * u = q := by rw [e1]; exact Int.ediv_mul_cancel hd
  refine ⟨q, u, v, q1, hg, hgv, hN, hto.2.2, hto.1, hto.2.1, q3, hb, e4, by omega, by omega, hv, Int.mul_nonneg hv.1 (by omega), ?_⟩
  have h1 := Int.mul_le_mul_of_nonneg_right hv.2 (show 0 ≤ Int.tdiv q u by omega)
  have h2 : 10000 * u * Int.tdiv q u = 10000 * q := by rw [Int.mul_assoc, Int.mul_comm u, e4]
  omega
structure Aims where
  kind : Int
  player : Int
  operator : Int
theorem f30b : Try.f30.body = some (bodyAt Try.prog 30) := by kernel_rfl
def f30K0 (P : Program) : List Item := kAt 400 [.code (bodyAt P 30)] [.b false, .b false, .stop]
def f30S0 (s : Stl) (plan : (List Int)) (i : Nat)  : St := ⟨[J, .rsl (rowI plan) 0 plan.length, .ptr 0 0 0, J, J, J, .int .i64 (i : Int), J, J, J, J, J, J, J, J, J, J, J, J, J, J, J, J, J, J, J, J, J, J, J, J, J, J, J, J, J, J, J, J, J, J, J, J, J, J, J, J, J, J, J], [⟨true, 0, 1, true, [.rsl (rowStg s.stages) 0 s.stages.length, .rsl (rowI s.worth) 0 s.worth.length, .int .i64 s.price], false⟩]⟩
def f30G0 (E : Env) (s : Stl) (plan : (List Int)) (i : Nat) : Prop := G Try.prog E (f30K0 Try.prog) (f30S0 s plan i )
theorem p30_start_0 (s : Stl) (plan : (List Int))   {E : Env} {res : AV} (hE : PureE Try.prog 30 res E) (ho : AllP [PureF Try.prog (.clos 19 [] []) [.agg [.rsl (rowStg s.stages) 0 s.stages.length, .rsl (rowI s.worth) 0 s.worth.length, .int .i64 s.price]] (.int .i64 (checkK s)), ((checkK s) != 0) = true])
    (hr : AvLe (.int .i64 (checkK s)) res) : G Try.prog E [.code (bodyAt Try.prog 30)] ⟨[.agg [.rsl (rowStg s.stages) 0 s.stages.length, .rsl (rowI s.worth) 0 s.worth.length, .int .i64 s.price], .rsl (rowI plan) 0 plan.length] ++ unds (Try.f30.ntmps - 2), []⟩ :=
  end_stepL (n := 400) (evs := [.v (.int .i64 (checkK s)), .b true]) (obs := _) hE Try.func30 mixed (by kernel_rfl) ho hr
theorem p30_start_1 (s : Stl) (plan : (List Int))   {E : Env} {res : AV} (hE : PureE Try.prog 30 res E) (ho : AllP [PureF Try.prog (.clos 19 [] []) [.agg [.rsl (rowStg s.stages) 0 s.stages.length, .rsl (rowI s.worth) 0 s.worth.length, .int .i64 s.price]] (.int .i64 (checkK s)), ((checkK s) != 0) = false, ((plan.length : Int) != (s.stages.length : Int)) = true])
    (hr : AvLe (.int .i64 1) res) : G Try.prog E [.code (bodyAt Try.prog 30)] ⟨[.agg [.rsl (rowStg s.stages) 0 s.stages.length, .rsl (rowI s.worth) 0 s.worth.length, .int .i64 s.price], .rsl (rowI plan) 0 plan.length] ++ unds (Try.f30.ntmps - 2), []⟩ :=
  end_stepL (n := 400) (evs := [.v (.int .i64 (checkK s)), .b false, .b true]) (obs := _) hE Try.func30 mixed (by kernel_rfl) ho hr
theorem p30_start_2 (s : Stl) (plan : (List Int))   {E : Env} {rv : AV} (hE : PureE Try.prog 30 rv E) (ho : AllP [PureF Try.prog (.clos 19 [] []) [.agg [.rsl (rowStg s.stages) 0 s.stages.length, .rsl (rowI s.worth) 0 s.worth.length, .int .i64 s.price]] (.int .i64 (checkK s)), ((checkK s) != 0) = false, ((plan.length : Int) != (s.stages.length : Int)) = false])
    (hg : G Try.prog E (f30K0 Try.prog) ⟨[J, .rsl (rowI plan) 0 plan.length, .ptr 0 0 0, J, J, J, .int .i64 0, J, J, J, J, J, J, J, J, J, J, J, J, J, J, J, J, J, J, J, J, J, J, J, J, J, J, J, J, J, J, J, J, J, J, J, J, J, J, J, J, J, J, J], [⟨true, 0, 1, true, [.rsl (rowStg s.stages) 0 s.stages.length, .rsl (rowI s.worth) 0 s.worth.length, .int .i64 s.price], false⟩]⟩) : G Try.prog E [.code (bodyAt Try.prog 30)] ⟨[.agg [.rsl (rowStg s.stages) 0 s.stages.length, .rsl (rowI s.worth) 0 s.worth.length, .int .i64 s.price], .rsl (rowI plan) 0 plan.length] ++ unds (Try.f30.ntmps - 2), []⟩ :=
  segC_step (n := 400) (ds := []) (cs := []) (live := [1, 2, 6]) (m := 1) (evs := [.v (.int .i64 (checkK s)), .b false, .b false, .stop]) (obs := _) hE.2.1 (hE.nogh _) mixed (by kernel_rfl) ho hg
theorem f30W (s : Stl) (plan : (List Int)) {E : Env} {rv : Int} (hE : PureE Try.prog 30 (.int .i64 rv) E)
    (h : ((s.stages.length ≤ 9223372036854775807 ∧ s.worth.length ≤ 9223372036854775807) ∧ ((¬ ((checkK s) = 0) → rv = (checkK s)) ∧ ((checkK s) = 0 → ((¬ ((plan.length : Int) = (s.stages.length : Int)) → rv = 1) ∧ ((plan.length : Int) = (s.stages.length : Int) → f30G0 E s plan 0)))))) : G Try.prog E [.code (bodyAt Try.prog 30)] ⟨[.agg [.rsl (rowStg s.stages) 0 s.stages.length, .rsl (rowI s.worth) 0 s.worth.length, .int .i64 s.price], .rsl (rowI plan) 0 plan.length] ++ unds (Try.f30.ntmps - 2), []⟩ := by
  obtain ⟨h1, h⟩ := h
  rcases Bool.eq_false_or_eq_true ((checkK s) != 0) with hc0 | hc0
  · have h := h.1 (bneT hc0)
    exact p30_start_0 s plan    hE ⟨(pureF_of Try.func19 (by kernel_rfl) f19b (checkR_ok s h1)), hc0, trivial⟩ (AvLe.of_eq (by rw [h]; try rfl))
  · have h := h.2 (bneF hc0)
    rcases Bool.eq_false_or_eq_true ((plan.length : Int) != (s.stages.length : Int)) with hc1 | hc1
    · have h := h.1 (bneT hc1)
      exact p30_start_1 s plan    hE ⟨(pureF_of Try.func19 (by kernel_rfl) f19b (checkR_ok s h1)), hc0, hc1, trivial⟩ (AvLe.of_eq (by rw [h]; try rfl))
    · have h := h.2 (bneF hc1)
      exact p30_start_2 s plan    hE ⟨(pureF_of Try.func19 (by kernel_rfl) f19b (checkR_ok s h1)), hc0, hc1, trivial⟩ h
theorem p30_0_0 (s : Stl) (plan : (List Int)) (i : Nat)  (se : Stg) (e : Int)  {E : Env} {res : AV} (hE : PureE Try.prog 30 res E) (ho : AllP [(decide ((i : Int) < (plan.length : Int))) = true, 0 ≤ (i : Int) ∧ (i : Int) < (s.stages.length : Int), ((rowStg s.stages).drop (0 + (Int.toNat (i : Int)) * 3)).take 3 = [.int .i64 se.kind, .int .i64 se.prize, .rsl (rowTrn se.turns) 0 se.turns.length], 3 ≤ 3, (se.kind == 2) = true, true = true, InR .i64 ((se.turns.length : Int) - 1), 0 ≤ (i : Int) ∧ (i : Int) < (plan.length : Int), ((rowI plan).drop (0 + (Int.toNat (i : Int)) * 1)).take 1 = [.int .i64 e], PureF Try.prog (.clos 62 [] []) [.int .i64 e, .int .i64 0, .int .i64 ((se.turns.length : Int) - 1)] (.bool (within e 0 ((se.turns.length : Int) - 1))), (!(within e 0 ((se.turns.length : Int) - 1))) = true])
    (hr : AvLe (.int .i64 1) res) : G Try.prog E (f30K0 Try.prog) (f30S0 s plan i ) :=
  end_stepL (n := 400) (evs := [.b true, .auto, .ld (.agg [.int .i64 se.kind, .int .i64 se.prize, .rsl (rowTrn se.turns) 0 se.turns.length]), .b true, .b true, .auto, .ld (.int .i64 e), .v (.bool (within e 0 ((se.turns.length : Int) - 1))), .b true]) (obs := _) hE Try.func30 mixed (by kernel_rfl) ho hr
theorem p30_0_1 (s : Stl) (plan : (List Int)) (i : Nat)  (se : Stg) (e : Int)  {E : Env} {rv : AV} (hE : PureE Try.prog 30 rv E) (ho : AllP [(decide ((i : Int) < (plan.length : Int))) = true, 0 ≤ (i : Int) ∧ (i : Int) < (s.stages.length : Int), ((rowStg s.stages).drop (0 + (Int.toNat (i : Int)) * 3)).take 3 = [.int .i64 se.kind, .int .i64 se.prize, .rsl (rowTrn se.turns) 0 se.turns.length], 3 ≤ 3, (se.kind == 2) = true, true = true, InR .i64 ((se.turns.length : Int) - 1), 0 ≤ (i : Int) ∧ (i : Int) < (plan.length : Int), ((rowI plan).drop (0 + (Int.toNat (i : Int)) * 1)).take 1 = [.int .i64 e], PureF Try.prog (.clos 62 [] []) [.int .i64 e, .int .i64 0, .int .i64 ((se.turns.length : Int) - 1)] (.bool (within e 0 ((se.turns.length : Int) - 1))), (!(within e 0 ((se.turns.length : Int) - 1))) = false, InR .i64 ((i : Int) + 1)])
    (hg : G Try.prog E (f30K0 Try.prog) ⟨[J, .rsl (rowI plan) 0 plan.length, .ptr 0 0 0, J, J, J, .int .i64 ((i : Int) + 1), J, J, J, J, J, J, J, J, J, J, J, J, J, J, J, J, J, J, J, J, J, J, J, J, J, J, J, J, J, J, J, J, J, J, J, J, J, J, J, J, J, J, J], [⟨true, 0, 1, true, [.rsl (rowStg s.stages) 0 s.stages.length, .rsl (rowI s.worth) 0 s.worth.length, .int .i64 s.price], false⟩]⟩) : G Try.prog E (f30K0 Try.prog) (f30S0 s plan i ) :=
  segC_step (n := 400) (ds := []) (cs := []) (live := [1, 2, 6]) (m := 1) (evs := [.b true, .auto, .ld (.agg [.int .i64 se.kind, .int .i64 se.prize, .rsl (rowTrn se.turns) 0 se.turns.length]), .b true, .b true, .auto, .ld (.int .i64 e), .v (.bool (within e 0 ((se.turns.length : Int) - 1))), .b false, .stop]) (obs := _) hE.2.1 (hE.nogh _) mixed (by kernel_rfl) ho hg
theorem p30_0_2 (s : Stl) (plan : (List Int)) (i : Nat)  (se : Stg) (e : Int)  {E : Env} {res : AV} (hE : PureE Try.prog 30 res E) (ho : AllP [(decide ((i : Int) < (plan.length : Int))) = true, 0 ≤ (i : Int) ∧ (i : Int) < (s.stages.length : Int), ((rowStg s.stages).drop (0 + (Int.toNat (i : Int)) * 3)).take 3 = [.int .i64 se.kind, .int .i64 se.prize, .rsl (rowTrn se.turns) 0 se.turns.length], 3 ≤ 3, (se.kind == 2) = false, (se.kind == 3) = true, InR .i64 ((se.turns.length : Int) - 1), 0 ≤ (i : Int) ∧ (i : Int) < (plan.length : Int), ((rowI plan).drop (0 + (Int.toNat (i : Int)) * 1)).take 1 = [.int .i64 e], PureF Try.prog (.clos 62 [] []) [.int .i64 e, .int .i64 0, .int .i64 ((se.turns.length : Int) - 1)] (.bool (within e 0 ((se.turns.length : Int) - 1))), (!(within e 0 ((se.turns.length : Int) - 1))) = true])
    (hr : AvLe (.int .i64 1) res) : G Try.prog E (f30K0 Try.prog) (f30S0 s plan i ) :=
  end_stepL (n := 400) (evs := [.b true, .auto, .ld (.agg [.int .i64 se.kind, .int .i64 se.prize, .rsl (rowTrn se.turns) 0 se.turns.length]), .b false, .b true, .auto, .ld (.int .i64 e), .v (.bool (within e 0 ((se.turns.length : Int) - 1))), .b true]) (obs := _) hE Try.func30 mixed (by kernel_rfl) ho hr
theorem p30_0_3 (s : Stl) (plan : (List Int)) (i : Nat)  (se : Stg) (e : Int)  {E : Env} {rv : AV} (hE : PureE Try.prog 30 rv E) (ho : AllP [(decide ((i : Int) < (plan.length : Int))) = true, 0 ≤ (i : Int) ∧ (i : Int) < (s.stages.length : Int), ((rowStg s.stages).drop (0 + (Int.toNat (i : Int)) * 3)).take 3 = [.int .i64 se.kind, .int .i64 se.prize, .rsl (rowTrn se.turns) 0 se.turns.length], 3 ≤ 3, (se.kind == 2) = false, (se.kind == 3) = true, InR .i64 ((se.turns.length : Int) - 1), 0 ≤ (i : Int) ∧ (i : Int) < (plan.length : Int), ((rowI plan).drop (0 + (Int.toNat (i : Int)) * 1)).take 1 = [.int .i64 e], PureF Try.prog (.clos 62 [] []) [.int .i64 e, .int .i64 0, .int .i64 ((se.turns.length : Int) - 1)] (.bool (within e 0 ((se.turns.length : Int) - 1))), (!(within e 0 ((se.turns.length : Int) - 1))) = false, InR .i64 ((i : Int) + 1)])
    (hg : G Try.prog E (f30K0 Try.prog) ⟨[J, .rsl (rowI plan) 0 plan.length, .ptr 0 0 0, J, J, J, .int .i64 ((i : Int) + 1), J, J, J, J, J, J, J, J, J, J, J, J, J, J, J, J, J, J, J, J, J, J, J, J, J, J, J, J, J, J, J, J, J, J, J, J, J, J, J, J, J, J, J], [⟨true, 0, 1, true, [.rsl (rowStg s.stages) 0 s.stages.length, .rsl (rowI s.worth) 0 s.worth.length, .int .i64 s.price], false⟩]⟩) : G Try.prog E (f30K0 Try.prog) (f30S0 s plan i ) :=
  segC_step (n := 400) (ds := []) (cs := []) (live := [1, 2, 6]) (m := 1) (evs := [.b true, .auto, .ld (.agg [.int .i64 se.kind, .int .i64 se.prize, .rsl (rowTrn se.turns) 0 se.turns.length]), .b false, .b true, .auto, .ld (.int .i64 e), .v (.bool (within e 0 ((se.turns.length : Int) - 1))), .b false, .stop]) (obs := _) hE.2.1 (hE.nogh _) mixed (by kernel_rfl) ho hg
theorem p30_0_4 (s : Stl) (plan : (List Int)) (i : Nat)  (se : Stg) (e : Int)  {E : Env} {res : AV} (hE : PureE Try.prog 30 res E) (ho : AllP [(decide ((i : Int) < (plan.length : Int))) = true, 0 ≤ (i : Int) ∧ (i : Int) < (s.stages.length : Int), ((rowStg s.stages).drop (0 + (Int.toNat (i : Int)) * 3)).take 3 = [.int .i64 se.kind, .int .i64 se.prize, .rsl (rowTrn se.turns) 0 se.turns.length], 3 ≤ 3, (se.kind == 2) = false, (se.kind == 3) = false, 0 ≤ (i : Int) ∧ (i : Int) < (plan.length : Int), ((rowI plan).drop (0 + (Int.toNat (i : Int)) * 1)).take 1 = [.int .i64 e], PureF Try.prog (.clos 62 [] []) [.int .i64 e, .int .i64 0, .int .i64 0] (.bool (within e 0 0)), (!(within e 0 0)) = true])
    (hr : AvLe (.int .i64 1) res) : G Try.prog E (f30K0 Try.prog) (f30S0 s plan i ) :=
  end_stepL (n := 400) (evs := [.b true, .auto, .ld (.agg [.int .i64 se.kind, .int .i64 se.prize, .rsl (rowTrn se.turns) 0 se.turns.length]), .b false, .b false, .ld (.int .i64 e), .v (.bool (within e 0 0)), .b true]) (obs := _) hE Try.func30 mixed (by kernel_rfl) ho hr
theorem p30_0_5 (s : Stl) (plan : (List Int)) (i : Nat)  (se : Stg) (e : Int)  {E : Env} {rv : AV} (hE : PureE Try.prog 30 rv E) (ho : AllP [(decide ((i : Int) < (plan.length : Int))) = true, 0 ≤ (i : Int) ∧ (i : Int) < (s.stages.length : Int), ((rowStg s.stages).drop (0 + (Int.toNat (i : Int)) * 3)).take 3 = [.int .i64 se.kind, .int .i64 se.prize, .rsl (rowTrn se.turns) 0 se.turns.length], 3 ≤ 3, (se.kind == 2) = false, (se.kind == 3) = false, 0 ≤ (i : Int) ∧ (i : Int) < (plan.length : Int), ((rowI plan).drop (0 + (Int.toNat (i : Int)) * 1)).take 1 = [.int .i64 e], PureF Try.prog (.clos 62 [] []) [.int .i64 e, .int .i64 0, .int .i64 0] (.bool (within e 0 0)), (!(within e 0 0)) = false, InR .i64 ((i : Int) + 1)])
    (hg : G Try.prog E (f30K0 Try.prog) ⟨[J, .rsl (rowI plan) 0 plan.length, .ptr 0 0 0, J, J, J, .int .i64 ((i : Int) + 1), J, J, J, J, J, J, J, J, J, J, J, J, J, J, J, J, J, J, J, J, J, J, J, J, J, J, J, J, J, J, J, J, J, J, J, J, J, J, J, J, J, J, J], [⟨true, 0, 1, true, [.rsl (rowStg s.stages) 0 s.stages.length, .rsl (rowI s.worth) 0 s.worth.length, .int .i64 s.price], false⟩]⟩) : G Try.prog E (f30K0 Try.prog) (f30S0 s plan i ) :=
  segC_step (n := 400) (ds := []) (cs := []) (live := [1, 2, 6]) (m := 1) (evs := [.b true, .auto, .ld (.agg [.int .i64 se.kind, .int .i64 se.prize, .rsl (rowTrn se.turns) 0 se.turns.length]), .b false, .b false, .ld (.int .i64 e), .v (.bool (within e 0 0)), .b false, .stop]) (obs := _) hE.2.1 (hE.nogh _) mixed (by kernel_rfl) ho hg
theorem p30_0_6 (s : Stl) (plan : (List Int)) (i : Nat)   {E : Env} {res : AV} (hE : PureE Try.prog 30 res E) (ho : AllP [(decide ((i : Int) < (plan.length : Int))) = false])
    (hr : AvLe (.int .i64 0) res) : G Try.prog E (f30K0 Try.prog) (f30S0 s plan i ) :=
  end_stepL (n := 400) (evs := [.b false]) (obs := _) hE Try.func30 mixed (by kernel_rfl) ho hr
theorem f30W0 (s : Stl) (plan : (List Int)) (i : Nat) {E : Env} {rv : Int} (hE : PureE Try.prog 30 (.int .i64 rv) E)
    (h : (((i : Int) < (plan.length : Int) → (∃ se : Stg, s.stages[i]? = some se ∧ ((se.kind = 2 → ((-9223372036854775808 ≤ (se.turns.length : Int) - 1 ∧ (se.turns.length : Int) - 1 ≤ 9223372036854775807) ∧ (∃ e : Int, plan[i]? = some e ∧ (((within e 0 ((se.turns.length : Int) - 1)) = false → rv = 1) ∧ ((within e 0 ((se.turns.length : Int) - 1)) = true → ((-9223372036854775808 ≤ (i : Int) + 1 ∧ (i : Int) + 1 ≤ 9223372036854775807) ∧ f30G0 E s plan (i + 1))))))) ∧ (¬ (se.kind = 2) → ((se.kind = 3 → ((-9223372036854775808 ≤ (se.turns.length : Int) - 1 ∧ (se.turns.length : Int) - 1 ≤ 9223372036854775807) ∧ (∃ e : Int, plan[i]? = some e ∧ (((within e 0 ((se.turns.length : Int) - 1)) = false → rv = 1) ∧ ((within e 0 ((se.turns.length : Int) - 1)) = true → ((-9223372036854775808 ≤ (i : Int) + 1 ∧ (i : Int) + 1 ≤ 9223372036854775807) ∧ f30G0 E s plan (i + 1))))))) ∧ (¬ (se.kind = 3) → (∃ e : Int, plan[i]? = some e ∧ (((within e 0 0) = false → rv = 1) ∧ ((within e 0 0) = true → ((-9223372036854775808 ≤ (i : Int) + 1 ∧ (i : Int) + 1 ≤ 9223372036854775807) ∧ f30G0 E s plan (i + 1))))))))))) ∧ (¬ ((i : Int) < (plan.length : Int)) → rv = 0))) : f30G0 E s plan i := by
  rcases Bool.eq_false_or_eq_true (decide ((i : Int) < (plan.length : Int))) with hc0 | hc0
  · have h := h.1 (of_decide_eq_true hc0)
    obtain ⟨se, h1, h⟩ := h
    rcases Bool.eq_false_or_eq_true (se.kind == 2) with hc1 | hc1
    · have h := h.1 (eq_of_beq hc1)
      obtain ⟨q7_2, h⟩ := h
      obtain ⟨e, h2, h⟩ := h
      rcases Bool.eq_false_or_eq_true (!(within e 0 ((se.turns.length : Int) - 1))) with hc2 | hc2
      · have h := h.1 (bnT hc2)
        exact p30_0_0 s plan i  se e hE ⟨hc0, (idx_ok h1), (row_part cStg (s := 3) (k := 0) (m := 3) (fun _ => rfl) (by decide) h1), (by decide), hc1, rfl, q7_2, (idx_ok h2), (row_part cI (s := 1) (k := 0) (m := 1) (fun _ => rfl) (by decide) h2), (pureF_of Try.func62 (by kernel_rfl) f62b (withinR_ok e 0 ((se.turns.length : Int) - 1))), hc2, trivial⟩ (AvLe.of_eq (by rw [h]; try rfl))
      · have h := h.2 (bnF hc2)
        obtain ⟨q13_3, h⟩ := h
        exact p30_0_1 s plan i  se e hE ⟨hc0, (idx_ok h1), (row_part cStg (s := 3) (k := 0) (m := 3) (fun _ => rfl) (by decide) h1), (by decide), hc1, rfl, q7_2, (idx_ok h2), (row_part cI (s := 1) (k := 0) (m := 1) (fun _ => rfl) (by decide) h2), (pureF_of Try.func62 (by kernel_rfl) f62b (withinR_ok e 0 ((se.turns.length : Int) - 1))), hc2, q13_3, trivial⟩ h
    · have h := h.2 (ne_of_beq_false hc1)
      rcases Bool.eq_false_or_eq_true (se.kind == 3) with hc2 | hc2
      · have h := h.1 (eq_of_beq hc2)
        obtain ⟨q7_3, h⟩ := h
        obtain ⟨e, h2, h⟩ := h
        rcases Bool.eq_false_or_eq_true (!(within e 0 ((se.turns.length : Int) - 1))) with hc3 | hc3
        · have h := h.1 (bnT hc3)
          exact p30_0_2 s plan i  se e hE ⟨hc0, (idx_ok h1), (row_part cStg (s := 3) (k := 0) (m := 3) (fun _ => rfl) (by decide) h1), (by decide), hc1, hc2, q7_3, (idx_ok h2), (row_part cI (s := 1) (k := 0) (m := 1) (fun _ => rfl) (by decide) h2), (pureF_of Try.func62 (by kernel_rfl) f62b (withinR_ok e 0 ((se.turns.length : Int) - 1))), hc3, trivial⟩ (AvLe.of_eq (by rw [h]; try rfl))
        · have h := h.2 (bnF hc3)
          obtain ⟨q13_4, h⟩ := h
          exact p30_0_3 s plan i  se e hE ⟨hc0, (idx_ok h1), (row_part cStg (s := 3) (k := 0) (m := 3) (fun _ => rfl) (by decide) h1), (by decide), hc1, hc2, q7_3, (idx_ok h2), (row_part cI (s := 1) (k := 0) (m := 1) (fun _ => rfl) (by decide) h2), (pureF_of Try.func62 (by kernel_rfl) f62b (withinR_ok e 0 ((se.turns.length : Int) - 1))), hc3, q13_4, trivial⟩ h
      · have h := h.2 (ne_of_beq_false hc2)
        obtain ⟨e, h2, h⟩ := h
        rcases Bool.eq_false_or_eq_true (!(within e 0 0)) with hc3 | hc3
        · have h := h.1 (bnT hc3)
          exact p30_0_4 s plan i  se e hE ⟨hc0, (idx_ok h1), (row_part cStg (s := 3) (k := 0) (m := 3) (fun _ => rfl) (by decide) h1), (by decide), hc1, hc2, (idx_ok h2), (row_part cI (s := 1) (k := 0) (m := 1) (fun _ => rfl) (by decide) h2), (pureF_of Try.func62 (by kernel_rfl) f62b (withinR_ok e 0 0)), hc3, trivial⟩ (AvLe.of_eq (by rw [h]; try rfl))
        · have h := h.2 (bnF hc3)
          obtain ⟨q12_4, h⟩ := h
          exact p30_0_5 s plan i  se e hE ⟨hc0, (idx_ok h1), (row_part cStg (s := 3) (k := 0) (m := 3) (fun _ => rfl) (by decide) h1), (by decide), hc1, hc2, (idx_ok h2), (row_part cI (s := 1) (k := 0) (m := 1) (fun _ => rfl) (by decide) h2), (pureF_of Try.func62 (by kernel_rfl) f62b (withinR_ok e 0 0)), hc3, q12_4, trivial⟩ h
  · have h := h.2 (of_decide_eq_false hc0)
    exact p30_0_6 s plan i   hE ⟨hc0, trivial⟩ (AvLe.of_eq (by rw [h]; try rfl))
theorem planE_ok (s : Stl) (plan : List Int) (h : (s.stages.length ≤ 9223372036854775807 ∧ s.worth.length ≤ 9223372036854775807) ∧ plan.length ≤ 9223372036854775807) : Pure Try.prog 30 [avStl s, .rsl (rowI plan) 0 plan.length] (.int .i64 (planE s plan)) := pure_of Try.func30 f30b fun E hE => by
  refine f30W s plan (rv := planE s plan) hE ⟨h.1, fun h0 => ?_, fun h0 => ⟨fun h1 => ?_, fun h1 => ?_⟩⟩
  · rw [planE, if_neg h0, checkK_no h0]
  · rw [planE, if_pos h0, if_neg]
    simp only [planOk, Bool.and_eq_true, decide_eq_true_eq]
    intro hh; omega
  have hl : plan.length = s.stages.length := by omega
  have ⟨hm, es⟩ := mok_G (isSome_of h0)
  have hform := (stPre_of hm.st).2.2.2.2
  rw [es] at hform
  have key : ∀ (d i : Nat), i + d = plan.length → (∀ j, j < i → within (plan.getD j 0) 0 (planMost (s.stages.getD j ⟨0, 0, []⟩)) = true) → f30G0 E s plan i := by
    intro d
    induction d with
    | zero =>
      intro i hd hall
      refine f30W0 s plan i (rv := planE s plan) hE ⟨fun h => by omega, fun _ => ?_⟩
      rw [planE, if_pos h0, if_pos]
      simp only [planOk, hl, decide_true, Bool.true_and]
      exact List.all_eq_true.2 fun j hj => hall j (by have := List.mem_range.1 hj; omega)
    | succ d ih =>
      intro i hd hall
      have hi : s.stages[i]? = some s.stages[i] := List.getElem?_eq_getElem (by omega)
      have hx : s.stages.getD i ⟨0, 0, []⟩ = s.stages[i] := by simp [List.getD, hi]
      have hv : plan[i]? = some (plan.getD i 0) := getD_some (by omega)
      have ht : s.stages[i].turns.length ≤ 8 := by
        rcases form_of hi (hform i (by omega)) with ⟨-, h, -⟩ | ⟨-, -, h, -⟩
        · rw [h]; simp
        · exact h.2
      have nx := ih (i + 1) (by omega)
      have no : within (plan.getD i 0) 0 (planMost (s.stages.getD i ⟨0, 0, []⟩)) = false → planE s plan = 1 := fun h => by
        rw [planE, if_pos h0, if_neg]
        simp only [planOk, hl, decide_true, Bool.true_and, Bool.not_eq_true]
        exact range_all (by omega) h
      have yes : within (plan.getD i 0) 0 (planMost (s.stages.getD i ⟨0, 0, []⟩)) = true → f30G0 E s plan (i + 1) := fun h => nx fun j hj => by
        rcases Nat.lt_or_ge j i with h1 | h1
        · exact hall j h1
        · rw [show j = i by omega]; exact h
      rw [hx] at no yes
      generalize s.stages[i] = x at hi no yes ht
      refine f30W0 s plan i (rv := planE s plan) hE ⟨fun _ => ⟨x, hi, fun h2 => ⟨by omega, _, hv, fun h => no ?_, fun h => ⟨by omega, yes ?_⟩⟩, fun h2 => ⟨fun h3 => ⟨by omega, _, hv, fun h => no ?_, fun h => ⟨by omega, yes ?_⟩⟩, fun h3 => ⟨_, hv, fun h => no ?_, fun h => ⟨by omega, yes ?_⟩⟩⟩⟩, fun h => by omega⟩
      · rw [planMost, if_pos (.inl h2)]; exact h
      · rw [planMost, if_pos (.inl h2)]; exact h
      · rw [planMost, if_pos (.inr h3)]; exact h
      · rw [planMost, if_pos (.inr h3)]; exact h
      · rw [planMost, if_neg (by omega)]; exact h
      · rw [planMost, if_neg (by omega)]; exact h
  exact key plan.length 0 (by omega) (fun j hj => by omega)
end Go.Proofs.Ytfgmlaeikcfpbaa

namespace Go.Proofs.Ytfgmlaeikcfpbaa
open Go Ax
open Go.Proofs

structure Rul where
  tickets : Int
  wins : Int
  n : Int
  need : Int
  hit : Int
  miss : Int
structure Sup where
  kind : Int
  stock : Int
  plays : Int
structure Hnd where
  plan : List Int
  draws : List Int
/-! ### Fractions -/
theorem frac_parts {v u : Int} (hu : 0 < u) : ∃ g, 0 < g ∧ v = g * (fracI v u).num ∧ u = g * (fracI v u).den ∧ 0 < (fracI v u).den := by
  have hM : 0 ≤ iMax v (0 - v) := by unfold iMax; split <;> omega
  have hM2 : iMax v (0 - v) = v ∨ iMax v (0 - v) = -v := by unfold iMax; split <;> omega
  have hg1 : 1 ≤ iMax (gcdI (iMax v (0 - v)) u) 1 := iMax_pos
  have hgp : 0 < gcdI (iMax v (0 - v)) u := by rw [gcdI_comm hM (by omega)]; exact gcd_pos hu hM
  have hge : iMax (gcdI (iMax v (0 - v)) u) 1 = gcdI (iMax v (0 - v)) u := by
    generalize gcdI (iMax v (0 - v)) u = c at hgp
    unfold iMax; split <;> omega
  obtain ⟨d1, d2⟩ := gcd_dvd hM (show 0 ≤ u by omega)
  have d3 : gcdI (iMax v (0 - v)) u ∣ v := by
    generalize gcdI (iMax v (0 - v)) u = c at d1
    rcases hM2 with h | h
    · rw [h] at d1; exact d1
    · rw [h] at d1; exact Int.dvd_neg.1 d1
  unfold fracI
  rw [hge]
  generalize gcdI (iMax v (0 - v)) u = c at hgp d2 d3
  have e2 : c * Int.tdiv u c = u := Int.mul_tdiv_cancel' d2
  have e3 : c * Int.tdiv v c = v := Int.mul_tdiv_cancel' d3
  refine ⟨c, hgp, e3.symm, e2.symm, ?_⟩
  show 0 < Int.tdiv u c
  rcases Int.lt_or_le 0 (Int.tdiv u c) with h | h
  · exact h
  · have := Int.mul_le_mul_of_nonneg_left h (show 0 ≤ c by omega)
    rw [e2] at this; omega
theorem frac_scale {g a b : Int} (hg : 0 < g) (hb : 0 < b) : fracI (g * a) (g * b) = fracI a b := by
  have hM : 0 ≤ iMax a (0 - a) := by unfold iMax; split <;> omega
  have e1 : iMax (g * a) (0 - g * a) = g * iMax a (0 - a) := by
    have hn : 0 - g * a = g * (0 - a) := by rw [Int.mul_sub]; omega
    rw [hn]
    unfold iMax
    by_cases h : 0 - a > a
    · rw [if_pos h, if_pos (Int.mul_lt_mul_of_pos_left h hg)]
    · rw [if_neg h, if_neg (by have := Int.mul_le_mul_of_nonneg_left (show 0 - a ≤ a by omega) (show 0 ≤ g by omega); omega)]
  have hgM := Int.mul_nonneg (show 0 ≤ g by omega) hM
  have hgb := Int.mul_pos hg hb
  have e2 : gcdI (g * iMax a (0 - a)) (g * b) = g * gcdI (iMax a (0 - a)) b := by
    rw [gcdI_int hgM (by omega), gcdI_int hM (by omega), Int.gcd_mul_left]
    rw [Int.natCast_mul, Int.natAbs_of_nonneg (by omega)]
  have hgp : 0 < gcdI (iMax a (0 - a)) b := by rw [gcdI_comm hM (by omega)]; exact gcd_pos hb hM
  have e3 : iMax (g * gcdI (iMax a (0 - a)) b) 1 = g * iMax (gcdI (iMax a (0 - a)) b) 1 := by
    generalize gcdI (iMax a (0 - a)) b = c at hgp
    have := Int.mul_pos hg hgp
    have h1 : iMax c 1 = c := by unfold iMax; split <;> omega
    rw [h1]
    generalize g * c = q at this
    unfold iMax; split <;> omega
  unfold fracI
  rw [e1, e2, e3, Int.mul_tdiv_mul_of_pos _ _ hg, Int.mul_tdiv_mul_of_pos _ _ hg]
theorem frac_bd {v u B : Int} (hv : -B ≤ v ∧ v ≤ B) (hu : 0 < u) : (-B ≤ (fracI v u).num ∧ (fracI v u).num ≤ B) ∧ 0 < (fracI v u).den ∧ (fracI v u).den ≤ u := by
  obtain ⟨g, hg, -, -, e3⟩ := frac_parts (v := v) hu
  exact ⟨tdiv_bd iMax_pos hv.1 hv.2, e3, (tdiv_bd (n := u) (B := u) iMax_pos (by omega) (by omega)).2⟩
theorem frac_nonneg {v u : Int} (hv : 0 ≤ v) (hu : 0 < u) : 0 ≤ (fracI v u).num := by
  obtain ⟨g, hg, e1, -, -⟩ := frac_parts (v := v) hu
  rcases Int.lt_or_le (fracI v u).num 0 with h | h
  · have := Int.mul_neg_of_pos_of_neg hg h; omega
  · exact h

/-! ### Planned -/
def gainK (s : Stl) (pa oa : Int) : Int × Int × Int := if checkK s = 0 then (if aimsI [pa, oa] = true then ((firstI (machG s) (worthI (machG s)) (chooseI (machG s) pa oa)).num, (firstI (machG s) (worthI (machG s)) (chooseI (machG s) pa oa)).den, 0) else (0, 0, 1)) else (0, 0, 60)
def gainV (s : Stl) (pa oa : Int) : Int := (valA (machG s) (worthI (machG s)) (chooseI (machG s) pa oa)).1.getD 0 0
def meas0I (s : Stl) : Int := (machG s).meas.getD 0 0
def houseF (s : Stl) : Fr := fracI (s.price * meas0I s - gainV s 2 1) (meas0I s)
def houseK (s : Stl) : Int × Int × Int := if checkK s = 0 then ((houseF s).num, (houseF s).den, 0) else (0, 0, 60)
def worthyK (s : Stl) (plan : List Int) : Int × Int := ((fracI ((valuesP s (worthI (machG s)) plan).getD 0 0) ((machG s).meas.getD 0 0)).num, (fracI ((valuesP s (worthI (machG s)) plan).getD 0 0) ((machG s).meas.getD 0 0)).den)
theorem f31b : Try.f31.body = some (bodyAt Try.prog 31) := by kernel_rfl
theorem p31_start_0 (s : Stl) (pa : Int) (oa : Int)   {E : Env} {res : AV} (hE : PureE Try.prog 31 res E) (ho : AllP [PureF Try.prog (.clos 71 [] []) [.agg [.rsl (rowStg s.stages) 0 s.stages.length, .rsl (rowI s.worth) 0 s.worth.length, .int .i64 s.price], .clos 84 [] [.rptr [.int .i64 pa] 0, .rptr [.int .i64 oa] 0]] (.tup [.rptr [.rsl (rowStg (((machG s).s).stages)) 0 ((((machG s).s).stages).length), .rsl (rowI (((machG s).s).worth)) 0 ((((machG s).s).worth).length), .int .i64 (((machG s).s).price), .rsl (rowI ((machG s).meas)) 0 (((machG s).meas).length), .rsl (rowI ((machG s).mult)) 0 (((machG s).mult).length)] 0, .int .i64 0]), false = false, PureF Try.prog (.clos 77 [] []) [.rptr [.rsl (rowStg (((machG s).s).stages)) 0 ((((machG s).s).stages).length), .rsl (rowI (((machG s).s).worth)) 0 ((((machG s).s).worth).length), .int .i64 (((machG s).s).price), .rsl (rowI ((machG s).meas)) 0 (((machG s).meas).length), .rsl (rowI ((machG s).mult)) 0 (((machG s).mult).length)] 0, .int .i64 pa, .int .i64 oa] (.clos 114 [] [.rptr [.int .i64 pa] 0, .rptr [.rptr [.rsl (rowStg (((machG s).s).stages)) 0 ((((machG s).s).stages).length), .rsl (rowI (((machG s).s).worth)) 0 ((((machG s).s).worth).length), .int .i64 (((machG s).s).price), .rsl (rowI ((machG s).meas)) 0 (((machG s).meas).length), .rsl (rowI ((machG s).mult)) 0 (((machG s).mult).length)] 0] 0, .rptr [.int .i64 oa] 0]), PureF Try.prog (.clos 75 [] []) [.rptr [.rsl (rowStg (((machG s).s).stages)) 0 ((((machG s).s).stages).length), .rsl (rowI (((machG s).s).worth)) 0 ((((machG s).s).worth).length), .int .i64 (((machG s).s).price), .rsl (rowI ((machG s).meas)) 0 (((machG s).meas).length), .rsl (rowI ((machG s).mult)) 0 (((machG s).mult).length)] 0, .clos 85 [.rptr [.rsl (rowStg (((machG s).s).stages)) 0 ((((machG s).s).stages).length), .rsl (rowI (((machG s).s).worth)) 0 ((((machG s).s).worth).length), .int .i64 (((machG s).s).price), .rsl (rowI ((machG s).meas)) 0 (((machG s).meas).length), .rsl (rowI ((machG s).mult)) 0 (((machG s).mult).length)] 0] [], .clos 114 [] [.rptr [.int .i64 pa] 0, .rptr [.rptr [.rsl (rowStg (((machG s).s).stages)) 0 ((((machG s).s).stages).length), .rsl (rowI (((machG s).s).worth)) 0 ((((machG s).s).worth).length), .int .i64 (((machG s).s).price), .rsl (rowI ((machG s).meas)) 0 (((machG s).meas).length), .rsl (rowI ((machG s).mult)) 0 (((machG s).mult).length)] 0] 0, .rptr [.int .i64 oa] 0]] (.agg [.int .i64 ((firstI (machG s) (worthI (machG s)) (chooseI (machG s) pa oa)).num), .int .i64 ((firstI (machG s) (worthI (machG s)) (chooseI (machG s) pa oa)).den)]), 2 ≤ 2, (0 : Int) ≤ 0 ∧ (0 : Int) < ((2 : Nat) : Int), (0 : Int) ≤ 1 ∧ (1 : Int) < ((2 : Nat) : Int)])
    (hr : AvLe (.tup [.int .i64 ((firstI (machG s) (worthI (machG s)) (chooseI (machG s) pa oa)).num), .int .i64 ((firstI (machG s) (worthI (machG s)) (chooseI (machG s) pa oa)).den), .int .i64 0]) res) : G Try.prog E [.code (bodyAt Try.prog 31)] ⟨[.agg [.rsl (rowStg s.stages) 0 s.stages.length, .rsl (rowI s.worth) 0 s.worth.length, .int .i64 s.price], .int .i64 pa, .int .i64 oa] ++ unds (Try.f31.ntmps - 3), []⟩ :=
  end_stepL (n := 400) (evs := [.wt 4, .wt 5, .v (.tup [.rptr [.rsl (rowStg (((machG s).s).stages)) 0 ((((machG s).s).stages).length), .rsl (rowI (((machG s).s).worth)) 0 ((((machG s).s).worth).length), .int .i64 (((machG s).s).price), .rsl (rowI ((machG s).meas)) 0 (((machG s).meas).length), .rsl (rowI ((machG s).mult)) 0 (((machG s).mult).length)] 0, .int .i64 0]), .b false, .v (.clos 114 [] [.rptr [.int .i64 pa] 0, .rptr [.rptr [.rsl (rowStg (((machG s).s).stages)) 0 ((((machG s).s).stages).length), .rsl (rowI (((machG s).s).worth)) 0 ((((machG s).s).worth).length), .int .i64 (((machG s).s).price), .rsl (rowI ((machG s).meas)) 0 (((machG s).meas).length), .rsl (rowI ((machG s).mult)) 0 (((machG s).mult).length)] 0] 0, .rptr [.int .i64 oa] 0]), .v (.agg [.int .i64 ((firstI (machG s) (worthI (machG s)) (chooseI (machG s) pa oa)).num), .int .i64 ((firstI (machG s) (worthI (machG s)) (chooseI (machG s) pa oa)).den)])]) (obs := _) hE Try.func31 mixed (by kernel_rfl) ho hr
theorem p31_start_1 (s : Stl) (pa : Int) (oa : Int)   {E : Env} {res : AV} (hE : PureE Try.prog 31 res E) (ho : AllP [PureF Try.prog (.clos 71 [] []) [.agg [.rsl (rowStg s.stages) 0 s.stages.length, .rsl (rowI s.worth) 0 s.worth.length, .int .i64 s.price], .clos 84 [] [.rptr [.int .i64 pa] 0, .rptr [.int .i64 oa] 0]] (.tup [.nilPtr, .int .i64 1]), true = true])
    (hr : AvLe (.tup [.int .i64 0, .int .i64 0, .int .i64 1]) res) : G Try.prog E [.code (bodyAt Try.prog 31)] ⟨[.agg [.rsl (rowStg s.stages) 0 s.stages.length, .rsl (rowI s.worth) 0 s.worth.length, .int .i64 s.price], .int .i64 pa, .int .i64 oa] ++ unds (Try.f31.ntmps - 3), []⟩ :=
  end_stepL (n := 400) (evs := [.wt 4, .wt 5, .v (.tup [.nilPtr, .int .i64 1]), .b true]) (obs := _) hE Try.func31 mixed (by kernel_rfl) ho hr
theorem p31_start_2 (s : Stl) (pa : Int) (oa : Int)   {E : Env} {res : AV} (hE : PureE Try.prog 31 res E) (ho : AllP [PureF Try.prog (.clos 71 [] []) [.agg [.rsl (rowStg s.stages) 0 s.stages.length, .rsl (rowI s.worth) 0 s.worth.length, .int .i64 s.price], .clos 84 [] [.rptr [.int .i64 pa] 0, .rptr [.int .i64 oa] 0]] (.tup [.nilPtr, .int .i64 60]), true = true])
    (hr : AvLe (.tup [.int .i64 0, .int .i64 0, .int .i64 60]) res) : G Try.prog E [.code (bodyAt Try.prog 31)] ⟨[.agg [.rsl (rowStg s.stages) 0 s.stages.length, .rsl (rowI s.worth) 0 s.worth.length, .int .i64 s.price], .int .i64 pa, .int .i64 oa] ++ unds (Try.f31.ntmps - 3), []⟩ :=
  end_stepL (n := 400) (evs := [.wt 4, .wt 5, .v (.tup [.nilPtr, .int .i64 60]), .b true]) (obs := _) hE Try.func31 mixed (by kernel_rfl) ho hr
theorem f31W (s : Stl) (pa : Int) (oa : Int) {E : Env} {rv : (Int × Int × Int)} (hE : PureE Try.prog 31 (.tup [.int .i64 rv.1, .int .i64 rv.2.1, .int .i64 rv.2.2]) E)
    (h : ((((machI s).isSome) = true → (((aimsI [pa, oa]) = true → ((s.stages.length ≤ 9223372036854775807 ∧ s.worth.length ≤ 9223372036854775807) ∧ ((MOk (machG s)) ∧ rv = ((firstI (machG s) (worthI (machG s)) (chooseI (machG s) pa oa)).num, (firstI (machG s) (worthI (machG s)) (chooseI (machG s) pa oa)).den, 0)))) ∧ ((aimsI [pa, oa]) = false → ((s.stages.length ≤ 9223372036854775807 ∧ s.worth.length ≤ 9223372036854775807) ∧ rv = (0, 0, 1))))) ∧ (((machI s).isSome) = false → ((s.stages.length ≤ 9223372036854775807 ∧ s.worth.length ≤ 9223372036854775807) ∧ rv = (0, 0, 60))))) : G Try.prog E [.code (bodyAt Try.prog 31)] ⟨[.agg [.rsl (rowStg s.stages) 0 s.stages.length, .rsl (rowI s.worth) 0 s.worth.length, .int .i64 s.price], .int .i64 pa, .int .i64 oa] ++ unds (Try.f31.ntmps - 3), []⟩ := by
  rcases Bool.eq_false_or_eq_true ((machI s).isSome) with hc0 | hc0
  · have h := h.1 hc0
    rcases Bool.eq_false_or_eq_true (aimsI [pa, oa]) with hc1 | hc1
    · have h := h.1 hc1
      obtain ⟨h1, h⟩ := h
      obtain ⟨h2, h⟩ := h
      exact p31_start_0 s pa oa    hE ⟨(pureF_of Try.func71 (by kernel_rfl) f71x84b (begR_T hc0 hc1 ▸ beg84_ok s pa oa h1)), rfl, (pureF_of Try.func77 (by kernel_rfl) f77b (mkaims_ok (machG s) pa oa)), (pureF_of Try.func75 (by kernel_rfl) f75wb (firstw_ok (machG s) pa oa h2)), (by decide), (⟨by decide, by decide⟩), (⟨by decide, by decide⟩), trivial⟩ (AvLe.of_eq (by rw [h]; try rfl))
    · have h := h.2 hc1
      obtain ⟨h1, h⟩ := h
      exact p31_start_1 s pa oa    hE ⟨(pureF_of Try.func71 (by kernel_rfl) f71x84b (begR_F1 hc0 hc1 ▸ beg84_ok s pa oa h1)), rfl, trivial⟩ (AvLe.of_eq (by rw [h]; try rfl))
  · have h := h.2 hc0
    obtain ⟨h1, h⟩ := h
    exact p31_start_2 s pa oa    hE ⟨(pureF_of Try.func71 (by kernel_rfl) f71x84b (begR_F0 hc0 ▸ beg84_ok s pa oa h1)), rfl, trivial⟩ (AvLe.of_eq (by rw [h]; try rfl))
theorem f33b : Try.f33.body = some (bodyAt Try.prog 33) := by kernel_rfl
theorem p33_start_0 (s : Stl) (plan : (List Int))  (e : Int)  {E : Env} {res : AV} (hE : PureE Try.prog 33 res E) (ho : AllP [PureF Try.prog (.clos 86 [] []) [.agg [.rsl (rowStg s.stages) 0 s.stages.length, .rsl (rowI s.worth) 0 s.worth.length, .int .i64 s.price]] (.rsl (rowI (endsI s (worthI (machG s)))) 0 ((endsI s (worthI (machG s))).length)), PureF Try.prog (.clos 80 [] []) [.agg [.rsl (rowStg s.stages) 0 s.stages.length, .rsl (rowI s.worth) 0 s.worth.length, .int .i64 s.price], .rsl (rowI (endsI s (worthI (machG s)))) 0 ((endsI s (worthI (machG s))).length), .int .i64 0, .int .i64 0, .rsl (rowI plan) 0 plan.length] (.rsl (rowI (valuesP s (worthI (machG s)) plan)) 0 ((valuesP s (worthI (machG s)) plan).length)), (0 : Int) ≤ 0 ∧ (0 : Int) < (((valuesP s (worthI (machG s)) plan).length : Nat) : Int), ((rowI (valuesP s (worthI (machG s)) plan)).drop (0 + 0 * 1)).take 1 = [.int .i64 e], PureF Try.prog (.clos 79 [] []) [.agg [.rsl (rowStg s.stages) 0 s.stages.length, .rsl (rowI s.worth) 0 s.worth.length, .int .i64 s.price], .int .i64 e] (.agg [.int .i64 ((fracI e ((machG s).meas.getD 0 0)).num), .int .i64 ((fracI e ((machG s).meas.getD 0 0)).den)]), 2 ≤ 2, (0 : Int) ≤ 0 ∧ (0 : Int) < ((2 : Nat) : Int), (0 : Int) ≤ 1 ∧ (1 : Int) < ((2 : Nat) : Int)])
    (hr : AvLe (.tup [.int .i64 ((fracI e ((machG s).meas.getD 0 0)).num), .int .i64 ((fracI e ((machG s).meas.getD 0 0)).den)]) res) : G Try.prog E [.code (bodyAt Try.prog 33)] ⟨[.agg [.rsl (rowStg s.stages) 0 s.stages.length, .rsl (rowI s.worth) 0 s.worth.length, .int .i64 s.price], .rsl (rowI plan) 0 plan.length] ++ unds (Try.f33.ntmps - 2), []⟩ :=
  end_stepL (n := 400) (evs := [.v (.rsl (rowI (endsI s (worthI (machG s)))) 0 ((endsI s (worthI (machG s))).length)), .v (.rsl (rowI (valuesP s (worthI (machG s)) plan)) 0 ((valuesP s (worthI (machG s)) plan).length)), .ld (.int .i64 e), .v (.agg [.int .i64 ((fracI e ((machG s).meas.getD 0 0)).num), .int .i64 ((fracI e ((machG s).meas.getD 0 0)).den)])]) (obs := _) hE Try.func33 mixed (by kernel_rfl) ho hr
theorem f33W (s : Stl) (plan : (List Int)) {E : Env} {rv : (Int × Int)} (hE : PureE Try.prog 33 (.tup [.int .i64 rv.1, .int .i64 rv.2]) E)
    (h : ((checkK s = 0) ∧ ((checkK s = 0 ∧ planOk s plan = true) ∧ (∃ e : Int, (valuesP s (worthI (machG s)) plan)[0]? = some e ∧ ((checkK s = 0 ∧ -100000000000000000 ≤ e ∧ e ≤ 100000000000000000) ∧ rv = ((fracI e ((machG s).meas.getD 0 0)).num, (fracI e ((machG s).meas.getD 0 0)).den)))))) : G Try.prog E [.code (bodyAt Try.prog 33)] ⟨[.agg [.rsl (rowStg s.stages) 0 s.stages.length, .rsl (rowI s.worth) 0 s.worth.length, .int .i64 s.price], .rsl (rowI plan) 0 plan.length] ++ unds (Try.f33.ntmps - 2), []⟩ := by
  obtain ⟨h1, h⟩ := h
  obtain ⟨h2, h⟩ := h
  obtain ⟨e, h3, h⟩ := h
  obtain ⟨h4, h⟩ := h
  exact p33_start_0 s plan   e hE ⟨(pureF_of Try.func86 (by kernel_rfl) f86b (worths2_ok s h1)), (pureF_of Try.func80 (by kernel_rfl) f80pb (valuesPW_ok s 0 0 plan h2)), (idx_ok h3), (row_part cI (s := 1) (k := 0) (m := 1) (fun _ => rfl) (by decide) h3), (pureF_of Try.func79 (by kernel_rfl) f79b (lowest_ok s e h4)), (by decide), (⟨by decide, by decide⟩), (⟨by decide, by decide⟩), trivial⟩ (AvLe.of_eq (by rw [h]; try rfl))

theorem gain_ok (s : Stl) (pa oa : Int) (h : s.stages.length ≤ 9223372036854775807 ∧ s.worth.length ≤ 9223372036854775807) : Pure Try.prog 31 [avStl s, .int .i64 pa, .int .i64 oa] (.tup [.int .i64 (gainK s pa oa).1, .int .i64 (gainK s pa oa).2.1, .int .i64 (gainK s pa oa).2.2]) := pure_of Try.func31 f31b fun E hE => by
  refine f31W s pa oa (rv := gainK s pa oa) hE ⟨fun h0 => ⟨fun h1 => ⟨h, (mok_G h0).1, ?_⟩, fun h1 => ⟨h, ?_⟩⟩, fun h0 => ⟨h, ?_⟩⟩
  · rw [gainK, if_pos (isSome_iff.1 h0), if_pos h1]
  · rw [gainK, if_pos (isSome_iff.1 h0), if_neg (by rw [h1]; simp)]
  · rw [gainK, if_neg (fun h => by rw [isSome_iff.2 h] at h0; cases h0)]
theorem gainV_bd {s : Stl} {pa oa : Int} (h : checkK s = 0) : (0 ≤ gainV s pa oa ∧ gainV s pa oa ≤ 10000 * meas0I s) ∧ 0 < meas0I s ∧ meas0I s ≤ 1000000000000 := by
  have hm := (mok_G (isSome_of h)).1
  obtain ⟨u, hu, h1, h2⟩ := meas0 hm
  have := (val_okA hm (w := worthI (machG s)) (ch := chooseI (machG s) pa oa) (wok_worth hm)).hi 0 u (by omega) hu
  unfold gainV meas0I
  rw [getD_of hu]
  exact ⟨this, h1, h2⟩
theorem price_bd {s : Stl} (h : checkK s = 0) : 0 ≤ s.price ∧ s.price ≤ 10000 := by
  obtain ⟨hm, es⟩ := mok_G (isSome_of h)
  have := (stPre_of hm.st).2.2.2.1
  rw [es] at this; exact this
theorem worthy_ok (s : Stl) (plan : List Int) (h : checkK s = 0 ∧ planOk s plan = true) : Pure Try.prog 33 [avStl s, .rsl (rowI plan) 0 plan.length] (.tup [.int .i64 (worthyK s plan).1, .int .i64 (worthyK s plan).2]) := pure_of Try.func33 f33b fun E hE => by
  obtain ⟨hm, es⟩ := mok_G (isSome_of h.1)
  obtain ⟨v, hv, hb⟩ := val0 hm (w := worthI (machG s)) (ch := fun i _ => planI plan i) (wok_planW hm (by rw [es]; exact h.2))
  refine f33W s plan (rv := worthyK s plan) hE ⟨h.1, h, v, hv, ⟨h.1, hb⟩, ?_⟩
  rw [worthyK, show (valuesP s (worthI (machG s)) plan).getD 0 0 = v from getD_of hv]

theorem f34b : Try.f34.body = some (bodyAt Try.prog 34) := by kernel_rfl
theorem p34_start_0 (s : Stl)   {E : Env} {res : AV} (hE : PureE Try.prog 34 res E) (ho : AllP [PureF Try.prog (.clos 31 [] []) [.agg [.rsl (rowStg s.stages) 0 s.stages.length, .rsl (rowI s.worth) 0 s.worth.length, .int .i64 s.price], .int .i64 2, .int .i64 1] (.tup [.int .i64 ((gainK s 2 1).1), .int .i64 ((gainK s 2 1).2.1), .int .i64 ((gainK s 2 1).2.2)]), ((gainK s 2 1).2.2 != 0) = true])
    (hr : AvLe (.tup [.int .i64 0, .int .i64 0, .int .i64 ((gainK s 2 1).2.2)]) res) : G Try.prog E [.code (bodyAt Try.prog 34)] ⟨[.agg [.rsl (rowStg s.stages) 0 s.stages.length, .rsl (rowI s.worth) 0 s.worth.length, .int .i64 s.price]] ++ unds (Try.f34.ntmps - 1), []⟩ :=
  end_stepL (n := 400) (evs := [.v (.tup [.int .i64 ((gainK s 2 1).1), .int .i64 ((gainK s 2 1).2.1), .int .i64 ((gainK s 2 1).2.2)]), .b true]) (obs := _) hE Try.func34 mixed (by kernel_rfl) ho hr
theorem p34_start_1 (s : Stl)   {E : Env} {res : AV} (hE : PureE Try.prog 34 res E) (ho : AllP [PureF Try.prog (.clos 31 [] []) [.agg [.rsl (rowStg s.stages) 0 s.stages.length, .rsl (rowI s.worth) 0 s.worth.length, .int .i64 s.price], .int .i64 2, .int .i64 1] (.tup [.int .i64 ((gainK s 2 1).1), .int .i64 ((gainK s 2 1).2.1), .int .i64 ((gainK s 2 1).2.2)]), ((gainK s 2 1).2.2 != 0) = false, InR .i64 (s.price * (gainK s 2 1).2.1), InR .i64 ((s.price * (gainK s 2 1).2.1) - (gainK s 2 1).1), PureF Try.prog (.clos 87 [] []) [.int .i64 ((s.price * (gainK s 2 1).2.1) - (gainK s 2 1).1), .int .i64 ((gainK s 2 1).2.1)] (.agg [.int .i64 ((fracI ((s.price * (gainK s 2 1).2.1) - (gainK s 2 1).1) ((gainK s 2 1).2.1)).num), .int .i64 ((fracI ((s.price * (gainK s 2 1).2.1) - (gainK s 2 1).1) ((gainK s 2 1).2.1)).den)]), 2 ≤ 2, (0 : Int) ≤ 0 ∧ (0 : Int) < ((2 : Nat) : Int), (0 : Int) ≤ 1 ∧ (1 : Int) < ((2 : Nat) : Int)])
    (hr : AvLe (.tup [.int .i64 ((fracI ((s.price * (gainK s 2 1).2.1) - (gainK s 2 1).1) ((gainK s 2 1).2.1)).num), .int .i64 ((fracI ((s.price * (gainK s 2 1).2.1) - (gainK s 2 1).1) ((gainK s 2 1).2.1)).den), .int .i64 0]) res) : G Try.prog E [.code (bodyAt Try.prog 34)] ⟨[.agg [.rsl (rowStg s.stages) 0 s.stages.length, .rsl (rowI s.worth) 0 s.worth.length, .int .i64 s.price]] ++ unds (Try.f34.ntmps - 1), []⟩ :=
  end_stepL (n := 400) (evs := [.v (.tup [.int .i64 ((gainK s 2 1).1), .int .i64 ((gainK s 2 1).2.1), .int .i64 ((gainK s 2 1).2.2)]), .b false, .v (.agg [.int .i64 ((fracI ((s.price * (gainK s 2 1).2.1) - (gainK s 2 1).1) ((gainK s 2 1).2.1)).num), .int .i64 ((fracI ((s.price * (gainK s 2 1).2.1) - (gainK s 2 1).1) ((gainK s 2 1).2.1)).den)])]) (obs := _) hE Try.func34 mixed (by kernel_rfl) ho hr
theorem f34W (s : Stl) {E : Env} {rv : (Int × Int × Int)} (hE : PureE Try.prog 34 (.tup [.int .i64 rv.1, .int .i64 rv.2.1, .int .i64 rv.2.2]) E)
    (h : ((s.stages.length ≤ 9223372036854775807 ∧ s.worth.length ≤ 9223372036854775807) ∧ ((¬ ((gainK s 2 1).2.2 = 0) → rv = (0, 0, (gainK s 2 1).2.2)) ∧ ((gainK s 2 1).2.2 = 0 → ((-9223372036854775808 ≤ s.price * (gainK s 2 1).2.1 ∧ s.price * (gainK s 2 1).2.1 ≤ 9223372036854775807) ∧ ((-9223372036854775808 ≤ (s.price * (gainK s 2 1).2.1) - (gainK s 2 1).1 ∧ (s.price * (gainK s 2 1).2.1) - (gainK s 2 1).1 ≤ 9223372036854775807) ∧ (((-100000000000000000 ≤ ((s.price * (gainK s 2 1).2.1) - (gainK s 2 1).1) ∧ ((s.price * (gainK s 2 1).2.1) - (gainK s 2 1).1) ≤ 100000000000000000) ∧ 0 < ((gainK s 2 1).2.1) ∧ ((gainK s 2 1).2.1) ≤ 1000000000000) ∧ rv = ((fracI ((s.price * (gainK s 2 1).2.1) - (gainK s 2 1).1) ((gainK s 2 1).2.1)).num, (fracI ((s.price * (gainK s 2 1).2.1) - (gainK s 2 1).1) ((gainK s 2 1).2.1)).den, 0)))))))) : G Try.prog E [.code (bodyAt Try.prog 34)] ⟨[.agg [.rsl (rowStg s.stages) 0 s.stages.length, .rsl (rowI s.worth) 0 s.worth.length, .int .i64 s.price]] ++ unds (Try.f34.ntmps - 1), []⟩ := by
  obtain ⟨h1, h⟩ := h
  rcases Bool.eq_false_or_eq_true ((gainK s 2 1).2.2 != 0) with hc0 | hc0
  · have h := h.1 (bneT hc0)
    exact p34_start_0 s    hE ⟨(pureF_of Try.func31 (by kernel_rfl) f31b (gain_ok s 2 1 h1)), hc0, trivial⟩ (AvLe.of_eq (by rw [h]; try rfl))
  · have h := h.2 (bneF hc0)
    obtain ⟨q2_1, h⟩ := h
    obtain ⟨q3_1, h⟩ := h
    obtain ⟨h2, h⟩ := h
    exact p34_start_1 s    hE ⟨(pureF_of Try.func31 (by kernel_rfl) f31b (gain_ok s 2 1 h1)), hc0, q2_1, q3_1, (pureF_of Try.func87 (by kernel_rfl) f87b (frac_ok ((s.price * (gainK s 2 1).2.1) - (gainK s 2 1).1) ((gainK s 2 1).2.1) h2)), (by decide), (⟨by decide, by decide⟩), (⟨by decide, by decide⟩), trivial⟩ (AvLe.of_eq (by rw [h]; try rfl))

theorem house_ok (s : Stl) (h : s.stages.length ≤ 9223372036854775807 ∧ s.worth.length ≤ 9223372036854775807) : Pure Try.prog 34 [avStl s] (.tup [.int .i64 (houseK s).1, .int .i64 (houseK s).2.1, .int .i64 (houseK s).2.2]) := pure_of Try.func34 f34b fun E hE => by
  refine f34W s (rv := houseK s) hE ⟨h, fun h0 => ?_, fun h0 => ?_⟩
  · have hc : ¬ (checkK s = 0) := fun hc => h0 (by rw [gainK, if_pos hc, if_pos (by decide)])
    rw [houseK, if_neg hc, gainK, if_neg hc]
  · have hc : checkK s = 0 := by
      apply Classical.byContradiction
      intro hc
      rw [gainK, if_neg hc] at h0
      cases h0
    have gb := gainV_bd (pa := 2) (oa := 1) hc
    have pb := price_bd hc
    have hg : gainK s 2 1 = ((fracI (gainV s 2 1) (meas0I s)).num, (fracI (gainV s 2 1) (meas0I s)).den, 0) := by
      rw [gainK, if_pos hc, if_pos (by decide)]; rfl
    rw [hg]
    have hh : houseK s = ((houseF s).num, (houseF s).den, 0) := by rw [houseK, if_pos hc]
    rw [houseF] at hh
    obtain ⟨g, hg1, e1, e2, e3⟩ := frac_parts (v := gainV s 2 1) gb.2.1
    have fb := frac_bd (v := gainV s 2 1) (u := meas0I s) (B := 10000000000000000) (by omega) gb.2.1
    have fn := frac_nonneg gb.1.1 gb.2.1
    have e4 : s.price * meas0I s - gainV s 2 1 = g * (s.price * (fracI (gainV s 2 1) (meas0I s)).den - (fracI (gainV s 2 1) (meas0I s)).num) := by
      rw [Int.mul_sub, ← e1, ← Int.mul_assoc, Int.mul_comm g s.price, Int.mul_assoc, ← e2]
    rw [e4] at hh
    have e5 : fracI (g * (s.price * (fracI (gainV s 2 1) (meas0I s)).den - (fracI (gainV s 2 1) (meas0I s)).num)) (meas0I s) = fracI (s.price * (fracI (gainV s 2 1) (meas0I s)).den - (fracI (gainV s 2 1) (meas0I s)).num) (fracI (gainV s 2 1) (meas0I s)).den := by
      have := frac_scale (g := g) (a := s.price * (fracI (gainV s 2 1) (meas0I s)).den - (fracI (gainV s 2 1) (meas0I s)).num) hg1 e3
      rwa [← e2] at this
    rw [e5] at hh
    clear e1 e2 e4 e5 hg
    simp only
    generalize (fracI (gainV s 2 1) (meas0I s)).den = dn at *
    generalize (fracI (gainV s 2 1) (meas0I s)).num = nm at *
    have m1 := Int.mul_nonneg pb.1 (show 0 ≤ dn by omega)
    have m2 := Int.mul_le_mul_of_nonneg_right pb.2 (show 0 ≤ dn by omega)
    exact ⟨by omega, by omega, ⟨⟨by omega, by omega⟩, by omega, by omega⟩, hh⟩

end Go.Proofs.Ytfgmlaeikcfpbaa

namespace Go.Proofs.Ytfgmlaeikcfpbaa
open Go Ax
open Go.Proofs

structure Fr2 where
  lo : Fr
  hi : Fr
end Go.Proofs.Ytfgmlaeikcfpbaa

namespace Ax
open Go

section
variable {P : Program} {E : Env} {K : List Item} {st : St}

end
end Ax

namespace Go.Proofs.Ytfgmlaeikcfpbaa
open Go Ax
open Go.Proofs

/-! ### What a stage is worth at most -/
/-! ### Ways -/
def wGo (a b : Int) : Int → List Int → List Int
  | c, [] => [c]
  | c, x :: xs => (c + x * b) :: wGo a b (x * a) xs
/-! ### Enough -/
/-- What lies in the new list after 'k' rounds. -/
structure WInv (a b : Int) (w : List Int) (k : Nat) (v : List Int) : Prop where
  len : v.length = w.length + 1
  eq : ∃ c, v[k]? = some c ∧ 0 ≤ c ∧ wGo a b 0 w = v.take k ++ wGo a b c (w.drop k)
  z : ∀ j, k < j → j < v.length → v[j]? = some 0
end Go.Proofs.Ytfgmlaeikcfpbaa

namespace Go.Proofs.Ytfgmlaeikcfpbaa
open Go Ax
open Go.Proofs

theorem getD_ge {l : List Int} {i : Nat} (h : l.length ≤ i) : l.getD i 0 = 0 := by simp [List.getD, List.getElem?_eq_none h]
theorem sumW_mono : ∀ {ts : List Trn} {a b : List Int}, (∀ t ∈ ts, 0 ≤ t.w) → ts.length = a.length → ts.length = b.length → (∀ (k : Nat) (x y : Int), a[k]? = some x → b[k]? = some y → x ≤ y) → sumW ts a ≤ sumW ts b
  | [], a, b, _, _, _, _ => by simp [sumW]
  | t :: ts, [], b, _, h, _, _ => by simp at h
  | t :: ts, a, [], _, _, h, _ => by simp at h
  | t :: ts, x :: a, y :: b, hw, h1, h2, h => by
    simp only [sumW]
    have h3 := Int.mul_le_mul_of_nonneg_left (h 0 x y rfl rfl) (hw t (by simp))
    have h4 := sumW_mono (ts := ts) (a := a) (b := b) (fun u hu => hw u (by simp [hu])) (by simpa using h1) (by simpa using h2) (fun k x y hx hy => h (k + 1) x y (by simpa using hx) (by simpa using hy))
    omega

/-- What is chosen here is worth no more than what is chosen there: so are all stages. -/
theorem val_mono {m : Mch} (hm : MOk m) {w1 w2 : Int → Int} {c1 c2 : Int → List Int → Int} (hw1 : WOk m w1 c1) (hw2 : WOk m w2 c2) (hle : ∀ n : Int, 0 ≤ n → n ≤ (m.s.worth.length : Int) - 1 → w1 n ≤ w2 n)
    (H : ∀ (i : Nat) (x : Stg), m.s.stages[i]? = some x → x.kind ≠ 4 → x.kind ≠ 1 → (∀ (k : Nat) (u v : Int), (nextI m i (valA m w1 c1).1 x.turns)[k]? = some u → (nextI m i (valA m w2 c2).1 x.turns)[k]? = some v → u ≤ v) →
      (nextI m i (valA m w1 c1).1 x.turns).getD (Int.toNat (c1 i (nextI m i (valA m w1 c1).1 x.turns))) 0 ≤ (nextI m i (valA m w2 c2).1 x.turns).getD (Int.toNat (c2 i (nextI m i (valA m w2 c2).1 x.turns))) 0) :
    ∀ (d j : Nat), m.s.stages.length ≤ j + d → (valA m w1 c1).1.getD j 0 ≤ (valA m w2 c2).1.getD j 0 := by
  intro d
  have hf1 := (vfixA hm hw1).fx
  have hf2 := (vfixA hm hw2).fx
  have hp1 := val_okA hm hw1
  have hp2 := val_okA hm hw2
  have hform := (stPre_of hm.st).2.2.2.2
  induction d with
  | zero =>
    intro j hd
    rw [getD_ge (by rw [hp1.l1]; omega), getD_ge (by rw [hp2.l1]; omega)]
    exact Int.le_refl _
  | succ d ih =>
    intro j hd
    rcases Nat.lt_or_ge j m.s.stages.length with hlt | hge
    · have hi : m.s.stages[j]? = some m.s.stages[j] := List.getElem?_eq_getElem hlt
      have hfo := form_of hi (hform j hlt)
      have htt := tot_of hi (hform j hlt)
      have e1 := hf1 j _ (by omega) hi
      have e2 := hf2 j _ (by omega) hi
      have t1 := fun (k : Nat) (t : Trn) hk => fin_turn hm hw1 hi (k := k) (t := t) hk
      have t2 := fun (k : Nat) (t : Trn) hk => fin_turn hm hw2 hi (k := k) (t := t) hk
      have l1 : (nextI m j (valA m w1 c1).1 m.s.stages[j].turns).length = m.s.stages[j].turns.length := by simp [nextI]
      have l2 : (nextI m j (valA m w2 c2).1 m.s.stages[j].turns).length = m.s.stages[j].turns.length := by simp [nextI]
      have hH := H j _ hi
      generalize m.s.stages[j] = x at hi hfo htt e1 e2 t1 t2 l1 l2 hH
      have hN : ∀ (k : Nat) (u v : Int), (nextI m j (valA m w1 c1).1 x.turns)[k]? = some u → (nextI m j (valA m w2 c2).1 x.turns)[k]? = some v → u ≤ v := by
        intro k u v hu hv
        have hkl := (List.getElem?_eq_some_iff.1 hu).1
        have hkt : x.turns[k]? = some (x.turns[k]'(by omega)) := List.getElem?_eq_getElem (by omega)
        obtain ⟨q, r, v1, a1, a2, a3, a4, a5, a6, a7, a8, a9, a10, a11, -⟩ := t1 k _ hkt
        obtain ⟨q', r', v2, b1, b2, b3, b4, -⟩ := t2 k _ hkt
        rw [a1] at b1; cases b1
        rw [a2] at b2; cases b2
        rw [hu] at a4; cases a4
        rw [hv] at b4; cases b4
        have h1 := ih (Int.toNat (x.turns[k]'(by omega)).to) (by omega)
        rw [getD_of a3, getD_of b3] at h1
        exact Int.mul_le_mul_of_nonneg_right h1 a11
      by_cases h4 : x.kind = 4
      · rw [(e1.1 h4).1, (e2.1 h4).1]
        split
        · rename_i hp
          exact hle x.prize hp (by rcases hfo with ⟨-, -, h⟩ | ⟨h, -⟩ <;> omega)
        · omega
      · by_cases h1 : x.kind = 1
        · rw [(e1.2.1 h1).1, (e2.2.1 h1).1]
          exact sumW_mono (fun t ht => (htt.1.2 t ht).1) l1.symm l2.symm hN
        · rw [(e1.2.2 h4 h1).1, (e2.2.2 h4 h1).1, (e1.2.2 h4 h1).2, (e2.2.2 h4 h1).2]
          exact hH h4 h1 hN
    · rw [getD_ge (by rw [hp1.l1]; omega), getD_ge (by rw [hp2.l1]; omega)]
      exact Int.le_refl _

theorem pick_le {a b : Int} {l1 l2 : List Int} (hl : l1.length = l2.length) (h0 : 0 < l1.length) (ha : a = 1 ∨ a = 2) (hb : b = 1 ∨ b = 2) (hab : a ≤ b) (h : ∀ (k : Nat) (u v : Int), l1[k]? = some u → l2[k]? = some v → u ≤ v) : pickF a l1 ≤ pickF b l2 := by
  have hpt : ∀ (k : Nat) (hk : k < l1.length), l1[k] ≤ l2[k]'(by omega) := fun k hk => h k _ _ (List.getElem?_eq_getElem hk) (List.getElem?_eq_getElem (by omega))
  obtain ⟨m1, m2⟩ := minI_mem (l := l1) h0
  obtain ⟨m3, m4⟩ := minI_mem (l := l2) (by omega)
  obtain ⟨x1, x2⟩ := maxI_mem (l := l1) h0
  obtain ⟨x3, x4⟩ := maxI_mem (l := l2) (by omega)
  have hmin : minI l1 ≤ minI l2 := by
    obtain ⟨k, hk, e⟩ := List.mem_iff_getElem.1 m3
    have := hpt k (by omega)
    have := m2 _ (List.getElem_mem (show k < l1.length by omega))
    omega
  have hmax : maxI l1 ≤ maxI l2 := by
    obtain ⟨k, hk, e⟩ := List.mem_iff_getElem.1 x1
    have := hpt k hk
    have := x4 _ (List.getElem_mem (show k < l2.length by omega))
    omega
  have hmm : minI l2 ≤ maxI l2 := x4 _ m3
  unfold pickF
  rcases ha with rfl | rfl <;> rcases hb with rfl | rfl <;> simp <;> omega
theorem pick_bd {a : Int} {l : List Int} {k : Nat} {u : Int} (hk : l[k]? = some u) : (a = 1 → pickF a l ≤ u) ∧ (a = 2 → u ≤ pickF a l) := by
  have h0 : 0 < l.length := by have := (List.getElem?_eq_some_iff.1 hk).1; omega
  have hm := List.mem_of_getElem? hk
  unfold pickF
  refine ⟨fun h => ?_, fun h => ?_⟩
  · subst h; simp; exact (minI_mem h0).2 u hm
  · subst h; simp; exact (maxI_mem h0).2 u hm
theorem turns_pos {m : Mch} (hm : MOk m) {i : Nat} {x : Stg} (hi : m.s.stages[i]? = some x) (h4 : x.kind ≠ 4) : 0 < x.turns.length := by
  rcases form_of hi ((stPre_of hm.st).2.2.2.2 i (List.getElem?_eq_some_iff.1 hi).1) with ⟨h, -⟩ | ⟨-, -, h, -⟩
  · exact absurd h h4
  · omega
theorem aimAt_of {m : Mch} {pa oa : Int} {i : Nat} {x : Stg} (hi : m.s.stages[i]? = some x) : aimAt m pa oa i = if x.kind = 3 then oa else pa := by
  rw [aimAt, show m.s.stages.getD i ⟨0, 0, []⟩ = x by simp [List.getD, hi]]
theorem next_len {m : Mch} {i : Nat} {v : List Int} {ts : List Trn} : (nextI m i v ts).length = ts.length := by simp [nextI]

/-- Lower aims, no greater values. -/
theorem aims_mono {m : Mch} (hm : MOk m) {w : Int → Int} {p o p' o' : Int} (hw1 : WOk m w (chooseI m p o)) (hw2 : WOk m w (chooseI m p' o')) (hp : p = 1 ∨ p = 2) (ho : o = 1 ∨ o = 2) (hp' : p' = 1 ∨ p' = 2) (ho' : o' = 1 ∨ o' = 2)
    (h1 : p ≤ p') (h2 : o ≤ o') : (valA m w (chooseI m p o)).1.getD 0 0 ≤ (valA m w (chooseI m p' o')).1.getD 0 0 := by
  refine val_mono hm hw1 hw2 (fun n _ _ => Int.le_refl _) (fun i x hi h4 h1' hN => ?_) m.s.stages.length 0 (by omega)
  have hpos := turns_pos hm hi h4
  rw [choose_val (by rw [next_len]; exact hpos), choose_val (by rw [next_len]; exact hpos), aimAt_of hi, aimAt_of hi]
  refine pick_le (by rw [next_len, next_len]) (by rw [next_len]; exact hpos) ?_ ?_ ?_ hN
  all_goals split <;> omega
/-- A plan is between all for Least and all for Most. -/
theorem plan_low {m : Mch} (hm : MOk m) {w : Int → Int} {plan : List Int} (hw1 : WOk m w (chooseI m 1 1)) (hw2 : WOk m w (fun i _ => planI plan i)) : (valA m w (chooseI m 1 1)).1.getD 0 0 ≤ (valA m w (fun i _ => planI plan i)).1.getD 0 0 := by
  refine val_mono hm hw1 hw2 (fun n _ _ => Int.le_refl _) (fun i x hi h4 h1' hN => ?_) m.s.stages.length 0 (by omega)
  have hpos := turns_pos hm hi h4
  rw [choose_val (by rw [next_len]; exact hpos), aimAt_of hi]
  have hc := hw2.c1 i x (nextI m i (valA m w (fun i _ => planI plan i)).1 x.turns) hi h4 h1' next_len (by rw [next_len]; exact hpos)
  generalize planI plan (i : Int) = c at hc
  have e2 := getD_some (l := nextI m i (valA m w (fun i _ => planI plan i)).1 x.turns) (i := Int.toNat c) hc.2
  have e1 := getD_some (l := nextI m i (valA m w (chooseI m 1 1)).1 x.turns) (i := Int.toNat c) (by rw [next_len]; have := hc.2; rw [next_len] at this; exact this)
  have := hN _ _ _ e1 e2
  have hb := (pick_bd (a := if x.kind = 3 then 1 else 1) e1).1 (by split <;> rfl)
  omega
theorem plan_high {m : Mch} (hm : MOk m) {w : Int → Int} {plan : List Int} (hw1 : WOk m w (chooseI m 2 2)) (hw2 : WOk m w (fun i _ => planI plan i)) : (valA m w (fun i _ => planI plan i)).1.getD 0 0 ≤ (valA m w (chooseI m 2 2)).1.getD 0 0 := by
  refine val_mono hm hw2 hw1 (fun n _ _ => Int.le_refl _) (fun i x hi h4 h1' hN => ?_) m.s.stages.length 0 (by omega)
  have hpos := turns_pos hm hi h4
  rw [choose_val (by rw [next_len]; exact hpos), aimAt_of hi]
  have hc := hw2.c1 i x (nextI m i (valA m w (fun i _ => planI plan i)).1 x.turns) hi h4 h1' next_len (by rw [next_len]; exact hpos)
  generalize planI plan (i : Int) = c at hc
  have e2 := getD_some (l := nextI m i (valA m w (fun i _ => planI plan i)).1 x.turns) (i := Int.toNat c) hc.2
  have e1 := getD_some (l := nextI m i (valA m w (chooseI m 2 2)).1 x.turns) (i := Int.toNat c) (by rw [next_len]; have := hc.2; rw [next_len] at this; exact this)
  have := hN _ _ _ e2 e1
  have hb := (pick_bd (a := if x.kind = 3 then 2 else 2) e1).2 (by split <;> rfl)
  omega
/-! ### Fractions in parts of the measure -/
def FrV (s : Stl) (a : Fr) : Int := a.num * Int.tdiv (meas0I s) a.den
structure FrOk (s : Stl) (a : Fr) : Prop where
  pos : 0 < a.den
  dvd : a.den ∣ meas0I s
  bd : -100000000000000000 ≤ FrV s a ∧ FrV s a ≤ 100000000000000000
theorem fr_of {s : Stl} (hc : checkK s = 0) {v : Int} (hv : -100000000000000000 ≤ v ∧ v ≤ 100000000000000000) : FrOk s (fracI v (meas0I s)) ∧ FrV s (fracI v (meas0I s)) = v := by
  have hu := (gainV_bd (pa := 1) (oa := 1) hc).2
  obtain ⟨g, hg, e1, e2, e3⟩ := frac_parts (v := v) hu.1
  have e4 : Int.tdiv (meas0I s) (fracI v (meas0I s)).den = g := by
    have : Int.tdiv (g * (fracI v (meas0I s)).den) (fracI v (meas0I s)).den = g := Int.mul_tdiv_cancel _ (by omega)
    rwa [← e2] at this
  have e5 : FrV s (fracI v (meas0I s)) = v := by rw [FrV, e4, Int.mul_comm, ← e1]
  exact ⟨⟨e3, ⟨g, by rw [Int.mul_comm]; exact e2⟩, by rw [e5]; exact hv⟩, e5⟩
theorem first_fr {s : Stl} (hc : checkK s = 0) {w : Int → Int} {ch : Int → List Int → Int} (hw : WOk (machG s) w ch) : FrOk s (firstI (machG s) w ch) ∧ FrV s (firstI (machG s) w ch) = (valA (machG s) w ch).1.getD 0 0 := by
  obtain ⟨v, hv, hb⟩ := val0 (mok_G (isSome_of hc)).1 hw
  have := fr_of hc (v := v) (by omega)
  rw [firstI, getD_of hv]
  exact this
theorem f23b : Try.f23.body = some (bodyAt Try.prog 23) := by kernel_rfl
theorem p23_start_0 (s : Stl) (a : Fr) (b : Fr)   {E : Env} {res : AV} (hE : PureE Try.prog 23 res E) (ho : AllP [PureF Try.prog (.clos 51 [] []) [.agg [.rsl (rowStg s.stages) 0 s.stages.length, .rsl (rowI s.worth) 0 s.worth.length, .int .i64 s.price]] (.tup [.rsl (rowI ((measR (measA s)).1)) 0 (((measR (measA s)).1).length), .bool ((measR (measA s)).2)]), (!(measR (measA s)).2) = true, true = true, true = true, true = true])
    (hr : AvLe (.bool false) res) : G Try.prog E [.code (bodyAt Try.prog 23)] ⟨[.agg [.rsl (rowStg s.stages) 0 s.stages.length, .rsl (rowI s.worth) 0 s.worth.length, .int .i64 s.price], .agg [.int .i64 a.num, .int .i64 a.den], .agg [.int .i64 b.num, .int .i64 b.den]] ++ unds (Try.f23.ntmps - 3), []⟩ :=
  end_stepL (n := 400) (evs := [.v (.tup [.rsl (rowI ((measR (measA s)).1)) 0 (((measR (measA s)).1).length), .bool ((measR (measA s)).2)]), .b true, .b true, .b true, .b true]) (obs := _) hE Try.func23 mixed (by kernel_rfl) ho hr
theorem p23_start_1 (s : Stl) (a : Fr) (b : Fr)   {E : Env} {res : AV} (hE : PureE Try.prog 23 res E) (ho : AllP [PureF Try.prog (.clos 51 [] []) [.agg [.rsl (rowStg s.stages) 0 s.stages.length, .rsl (rowI s.worth) 0 s.worth.length, .int .i64 s.price]] (.tup [.rsl (rowI ((measR (measA s)).1)) 0 (((measR (measA s)).1).length), .bool ((measR (measA s)).2)]), (!(measR (measA s)).2) = false, (((((measR (measA s)).1).length : Nat) : Int) == 0) = true, true = true, true = true])
    (hr : AvLe (.bool false) res) : G Try.prog E [.code (bodyAt Try.prog 23)] ⟨[.agg [.rsl (rowStg s.stages) 0 s.stages.length, .rsl (rowI s.worth) 0 s.worth.length, .int .i64 s.price], .agg [.int .i64 a.num, .int .i64 a.den], .agg [.int .i64 b.num, .int .i64 b.den]] ++ unds (Try.f23.ntmps - 3), []⟩ :=
  end_stepL (n := 400) (evs := [.v (.tup [.rsl (rowI ((measR (measA s)).1)) 0 (((measR (measA s)).1).length), .bool ((measR (measA s)).2)]), .b false, .b true, .b true, .b true]) (obs := _) hE Try.func23 mixed (by kernel_rfl) ho hr
theorem p23_start_2 (s : Stl) (a : Fr) (b : Fr)   {E : Env} {res : AV} (hE : PureE Try.prog 23 res E) (ho : AllP [PureF Try.prog (.clos 51 [] []) [.agg [.rsl (rowStg s.stages) 0 s.stages.length, .rsl (rowI s.worth) 0 s.worth.length, .int .i64 s.price]] (.tup [.rsl (rowI ((measR (measA s)).1)) 0 (((measR (measA s)).1).length), .bool ((measR (measA s)).2)]), (!(measR (measA s)).2) = false, (((((measR (measA s)).1).length : Nat) : Int) == 0) = false, (0 : Int) ≤ 1 ∧ (1 : Int) < ((2 : Nat) : Int), (decide (a.den < 1)) = true, true = true])
    (hr : AvLe (.bool false) res) : G Try.prog E [.code (bodyAt Try.prog 23)] ⟨[.agg [.rsl (rowStg s.stages) 0 s.stages.length, .rsl (rowI s.worth) 0 s.worth.length, .int .i64 s.price], .agg [.int .i64 a.num, .int .i64 a.den], .agg [.int .i64 b.num, .int .i64 b.den]] ++ unds (Try.f23.ntmps - 3), []⟩ :=
  end_stepL (n := 400) (evs := [.v (.tup [.rsl (rowI ((measR (measA s)).1)) 0 (((measR (measA s)).1).length), .bool ((measR (measA s)).2)]), .b false, .b false, .b true, .b true]) (obs := _) hE Try.func23 mixed (by kernel_rfl) ho hr
theorem p23_start_3 (s : Stl) (a : Fr) (b : Fr)   {E : Env} {res : AV} (hE : PureE Try.prog 23 res E) (ho : AllP [PureF Try.prog (.clos 51 [] []) [.agg [.rsl (rowStg s.stages) 0 s.stages.length, .rsl (rowI s.worth) 0 s.worth.length, .int .i64 s.price]] (.tup [.rsl (rowI ((measR (measA s)).1)) 0 (((measR (measA s)).1).length), .bool ((measR (measA s)).2)]), (!(measR (measA s)).2) = false, (((((measR (measA s)).1).length : Nat) : Int) == 0) = false, (0 : Int) ≤ 1 ∧ (1 : Int) < ((2 : Nat) : Int), (decide (a.den < 1)) = false, (0 : Int) ≤ 1 ∧ (1 : Int) < ((2 : Nat) : Int), (decide (b.den < 1)) = true])
    (hr : AvLe (.bool false) res) : G Try.prog E [.code (bodyAt Try.prog 23)] ⟨[.agg [.rsl (rowStg s.stages) 0 s.stages.length, .rsl (rowI s.worth) 0 s.worth.length, .int .i64 s.price], .agg [.int .i64 a.num, .int .i64 a.den], .agg [.int .i64 b.num, .int .i64 b.den]] ++ unds (Try.f23.ntmps - 3), []⟩ :=
  end_stepL (n := 400) (evs := [.v (.tup [.rsl (rowI ((measR (measA s)).1)) 0 (((measR (measA s)).1).length), .bool ((measR (measA s)).2)]), .b false, .b false, .b false, .b true]) (obs := _) hE Try.func23 mixed (by kernel_rfl) ho hr
theorem p23_start_4 (s : Stl) (a : Fr) (b : Fr)  (e : Int)  {E : Env} {res : AV} (hE : PureE Try.prog 23 res E) (ho : AllP [PureF Try.prog (.clos 51 [] []) [.agg [.rsl (rowStg s.stages) 0 s.stages.length, .rsl (rowI s.worth) 0 s.worth.length, .int .i64 s.price]] (.tup [.rsl (rowI ((measR (measA s)).1)) 0 (((measR (measA s)).1).length), .bool ((measR (measA s)).2)]), (!(measR (measA s)).2) = false, (((((measR (measA s)).1).length : Nat) : Int) == 0) = false, (0 : Int) ≤ 1 ∧ (1 : Int) < ((2 : Nat) : Int), (decide (a.den < 1)) = false, (0 : Int) ≤ 1 ∧ (1 : Int) < ((2 : Nat) : Int), (decide (b.den < 1)) = false, (0 : Int) ≤ 0 ∧ (0 : Int) < ((2 : Nat) : Int), (0 : Int) ≤ 0 ∧ (0 : Int) < ((((measR (measA s)).1).length : Nat) : Int), ((rowI ((measR (measA s)).1)).drop (0 + 0 * 1)).take 1 = [.int .i64 e], (0 : Int) ≤ 1 ∧ (1 : Int) < ((2 : Nat) : Int), InR .i64 (Int.tdiv e a.den), a.den ≠ 0, InR .i64 (a.num * (Int.tdiv e a.den)), (0 : Int) ≤ 0 ∧ (0 : Int) < ((2 : Nat) : Int), (0 : Int) ≤ 0 ∧ (0 : Int) < ((((measR (measA s)).1).length : Nat) : Int), ((rowI ((measR (measA s)).1)).drop (0 + 0 * 1)).take 1 = [.int .i64 e], (0 : Int) ≤ 1 ∧ (1 : Int) < ((2 : Nat) : Int), InR .i64 (Int.tdiv e b.den), b.den ≠ 0, InR .i64 (b.num * (Int.tdiv e b.den))])
    (hr : AvLe (.bool (decide ((a.num * (Int.tdiv e a.den)) < (b.num * (Int.tdiv e b.den))))) res) : G Try.prog E [.code (bodyAt Try.prog 23)] ⟨[.agg [.rsl (rowStg s.stages) 0 s.stages.length, .rsl (rowI s.worth) 0 s.worth.length, .int .i64 s.price], .agg [.int .i64 a.num, .int .i64 a.den], .agg [.int .i64 b.num, .int .i64 b.den]] ++ unds (Try.f23.ntmps - 3), []⟩ :=
  end_stepL (n := 400) (evs := [.v (.tup [.rsl (rowI ((measR (measA s)).1)) 0 (((measR (measA s)).1).length), .bool ((measR (measA s)).2)]), .b false, .b false, .b false, .b false, .auto, .ld (.int .i64 e), .auto, .auto, .ld (.int .i64 e)]) (obs := _) hE Try.func23 mixed (by kernel_rfl) ho hr
theorem f23W (s : Stl) (a : Fr) (b : Fr) {E : Env} {rv : Bool} (hE : PureE Try.prog 23 (.bool rv) E)
    (h : ((s.stages.length ≤ 1000000 ∧ ∀ i, i < s.stages.length → formI s i = true) ∧ (((!(measR (measA s)).2) = true → rv = false) ∧ ((!(measR (measA s)).2) = false → ((((((measR (measA s)).1).length : Nat) : Int) = 0 → rv = false) ∧ (¬ (((((measR (measA s)).1).length : Nat) : Int) = 0) → ((a.den < 1 → rv = false) ∧ (¬ (a.den < 1) → ((b.den < 1 → rv = false) ∧ (¬ (b.den < 1) → (∃ e : Int, ((measR (measA s)).1)[0]? = some e ∧ ((-9223372036854775808 ≤ Int.tdiv e a.den ∧ Int.tdiv e a.den ≤ 9223372036854775807) ∧ (a.den ≠ 0 ∧ ((-9223372036854775808 ≤ a.num * (Int.tdiv e a.den) ∧ a.num * (Int.tdiv e a.den) ≤ 9223372036854775807) ∧ ((-9223372036854775808 ≤ Int.tdiv e b.den ∧ Int.tdiv e b.den ≤ 9223372036854775807) ∧ (b.den ≠ 0 ∧ ((-9223372036854775808 ≤ b.num * (Int.tdiv e b.den) ∧ b.num * (Int.tdiv e b.den) ≤ 9223372036854775807) ∧ rv = (decide ((a.num * (Int.tdiv e a.den)) < (b.num * (Int.tdiv e b.den))))))))))))))))))))) : G Try.prog E [.code (bodyAt Try.prog 23)] ⟨[.agg [.rsl (rowStg s.stages) 0 s.stages.length, .rsl (rowI s.worth) 0 s.worth.length, .int .i64 s.price], .agg [.int .i64 a.num, .int .i64 a.den], .agg [.int .i64 b.num, .int .i64 b.den]] ++ unds (Try.f23.ntmps - 3), []⟩ := by
  obtain ⟨h1, h⟩ := h
  rcases Bool.eq_false_or_eq_true (!(measR (measA s)).2) with hc0 | hc0
  · have h := h.1 hc0
    exact p23_start_0 s a b    hE ⟨(pureF_of Try.func51 (by kernel_rfl) f51b (measures_ok s h1)), hc0, rfl, rfl, rfl, trivial⟩ (AvLe.of_eq (by rw [h]; try rfl))
  · have h := h.2 hc0
    rcases Bool.eq_false_or_eq_true (((((measR (measA s)).1).length : Nat) : Int) == 0) with hc1 | hc1
    · have h := h.1 (eq_of_beq hc1)
      exact p23_start_1 s a b    hE ⟨(pureF_of Try.func51 (by kernel_rfl) f51b (measures_ok s h1)), hc0, hc1, rfl, rfl, trivial⟩ (AvLe.of_eq (by rw [h]; try rfl))
    · have h := h.2 (ne_of_beq_false hc1)
      rcases Bool.eq_false_or_eq_true (decide (a.den < 1)) with hc2 | hc2
      · have h := h.1 (of_decide_eq_true hc2)
        exact p23_start_2 s a b    hE ⟨(pureF_of Try.func51 (by kernel_rfl) f51b (measures_ok s h1)), hc0, hc1, (⟨by decide, by decide⟩), hc2, rfl, trivial⟩ (AvLe.of_eq (by rw [h]; try rfl))
      · have h := h.2 (of_decide_eq_false hc2)
        rcases Bool.eq_false_or_eq_true (decide (b.den < 1)) with hc3 | hc3
        · have h := h.1 (of_decide_eq_true hc3)
          exact p23_start_3 s a b    hE ⟨(pureF_of Try.func51 (by kernel_rfl) f51b (measures_ok s h1)), hc0, hc1, (⟨by decide, by decide⟩), hc2, (⟨by decide, by decide⟩), hc3, trivial⟩ (AvLe.of_eq (by rw [h]; try rfl))
        · have h := h.2 (of_decide_eq_false hc3)
          obtain ⟨e, h2, h⟩ := h
          obtain ⟨q12_4, h⟩ := h
          obtain ⟨q13_4, h⟩ := h
          obtain ⟨q14_4, h⟩ := h
          obtain ⟨q19_4, h⟩ := h
          obtain ⟨q20_4, h⟩ := h
          obtain ⟨q21_4, h⟩ := h
          exact p23_start_4 s a b   e hE ⟨(pureF_of Try.func51 (by kernel_rfl) f51b (measures_ok s h1)), hc0, hc1, (⟨by decide, by decide⟩), hc2, (⟨by decide, by decide⟩), hc3, (⟨by decide, by decide⟩), (idx_ok h2), (row_part cI (s := 1) (k := 0) (m := 1) (fun _ => rfl) (by decide) h2), (⟨by decide, by decide⟩), q12_4, q13_4, q14_4, (⟨by decide, by decide⟩), (idx_ok h2), (row_part cI (s := 1) (k := 0) (m := 1) (fun _ => rfl) (by decide) h2), (⟨by decide, by decide⟩), q19_4, q20_4, q21_4, trivial⟩ (AvLe.of_eq (by rw [h]; try rfl))
theorem f32b : Try.f32.body = some (bodyAt Try.prog 32) := by kernel_rfl
theorem p32_start_0 (s : Stl) (a : Fr)  (e : Int)  {E : Env} {res : AV} (hE : PureE Try.prog 32 res E) (ho : AllP [PureF Try.prog (.clos 51 [] []) [.agg [.rsl (rowStg s.stages) 0 s.stages.length, .rsl (rowI s.worth) 0 s.worth.length, .int .i64 s.price]] (.tup [.rsl (rowI ((measR (measA s)).1)) 0 (((measR (measA s)).1).length), .bool ((measR (measA s)).2)]), ((measR (measA s)).2) = true, (decide (((((measR (measA s)).1).length : Nat) : Int) > 0)) = true, (0 : Int) ≤ 1 ∧ (1 : Int) < ((2 : Nat) : Int), (decide (a.den > 0)) = true, (0 : Int) ≤ 0 ∧ (0 : Int) < ((((measR (measA s)).1).length : Nat) : Int), ((rowI ((measR (measA s)).1)).drop (0 + 0 * 1)).take 1 = [.int .i64 e], (0 : Int) ≤ 1 ∧ (1 : Int) < ((2 : Nat) : Int), a.den ≠ 0])
    (hr : AvLe (.bool ((Int.tmod e a.den) == 0)) res) : G Try.prog E [.code (bodyAt Try.prog 32)] ⟨[.agg [.rsl (rowStg s.stages) 0 s.stages.length, .rsl (rowI s.worth) 0 s.worth.length, .int .i64 s.price], .agg [.int .i64 a.num, .int .i64 a.den]] ++ unds (Try.f32.ntmps - 2), []⟩ :=
  end_stepL (n := 400) (evs := [.v (.tup [.rsl (rowI ((measR (measA s)).1)) 0 (((measR (measA s)).1).length), .bool ((measR (measA s)).2)]), .b true, .b true, .b true, .ld (.int .i64 e)]) (obs := _) hE Try.func32 mixed (by kernel_rfl) ho hr
theorem p32_start_1 (s : Stl) (a : Fr)   {E : Env} {res : AV} (hE : PureE Try.prog 32 res E) (ho : AllP [PureF Try.prog (.clos 51 [] []) [.agg [.rsl (rowStg s.stages) 0 s.stages.length, .rsl (rowI s.worth) 0 s.worth.length, .int .i64 s.price]] (.tup [.rsl (rowI ((measR (measA s)).1)) 0 (((measR (measA s)).1).length), .bool ((measR (measA s)).2)]), ((measR (measA s)).2) = true, (decide (((((measR (measA s)).1).length : Nat) : Int) > 0)) = true, (0 : Int) ≤ 1 ∧ (1 : Int) < ((2 : Nat) : Int), (decide (a.den > 0)) = false])
    (hr : AvLe (.bool false) res) : G Try.prog E [.code (bodyAt Try.prog 32)] ⟨[.agg [.rsl (rowStg s.stages) 0 s.stages.length, .rsl (rowI s.worth) 0 s.worth.length, .int .i64 s.price], .agg [.int .i64 a.num, .int .i64 a.den]] ++ unds (Try.f32.ntmps - 2), []⟩ :=
  end_stepL (n := 400) (evs := [.v (.tup [.rsl (rowI ((measR (measA s)).1)) 0 (((measR (measA s)).1).length), .bool ((measR (measA s)).2)]), .b true, .b true, .b false]) (obs := _) hE Try.func32 mixed (by kernel_rfl) ho hr
theorem p32_start_2 (s : Stl) (a : Fr)   {E : Env} {res : AV} (hE : PureE Try.prog 32 res E) (ho : AllP [PureF Try.prog (.clos 51 [] []) [.agg [.rsl (rowStg s.stages) 0 s.stages.length, .rsl (rowI s.worth) 0 s.worth.length, .int .i64 s.price]] (.tup [.rsl (rowI ((measR (measA s)).1)) 0 (((measR (measA s)).1).length), .bool ((measR (measA s)).2)]), ((measR (measA s)).2) = true, (decide (((((measR (measA s)).1).length : Nat) : Int) > 0)) = false, false = false])
    (hr : AvLe (.bool false) res) : G Try.prog E [.code (bodyAt Try.prog 32)] ⟨[.agg [.rsl (rowStg s.stages) 0 s.stages.length, .rsl (rowI s.worth) 0 s.worth.length, .int .i64 s.price], .agg [.int .i64 a.num, .int .i64 a.den]] ++ unds (Try.f32.ntmps - 2), []⟩ :=
  end_stepL (n := 400) (evs := [.v (.tup [.rsl (rowI ((measR (measA s)).1)) 0 (((measR (measA s)).1).length), .bool ((measR (measA s)).2)]), .b true, .b false, .b false]) (obs := _) hE Try.func32 mixed (by kernel_rfl) ho hr
theorem p32_start_3 (s : Stl) (a : Fr)   {E : Env} {res : AV} (hE : PureE Try.prog 32 res E) (ho : AllP [PureF Try.prog (.clos 51 [] []) [.agg [.rsl (rowStg s.stages) 0 s.stages.length, .rsl (rowI s.worth) 0 s.worth.length, .int .i64 s.price]] (.tup [.rsl (rowI ((measR (measA s)).1)) 0 (((measR (measA s)).1).length), .bool ((measR (measA s)).2)]), ((measR (measA s)).2) = false, false = false, false = false])
    (hr : AvLe (.bool false) res) : G Try.prog E [.code (bodyAt Try.prog 32)] ⟨[.agg [.rsl (rowStg s.stages) 0 s.stages.length, .rsl (rowI s.worth) 0 s.worth.length, .int .i64 s.price], .agg [.int .i64 a.num, .int .i64 a.den]] ++ unds (Try.f32.ntmps - 2), []⟩ :=
  end_stepL (n := 400) (evs := [.v (.tup [.rsl (rowI ((measR (measA s)).1)) 0 (((measR (measA s)).1).length), .bool ((measR (measA s)).2)]), .b false, .b false, .b false]) (obs := _) hE Try.func32 mixed (by kernel_rfl) ho hr
theorem f32W (s : Stl) (a : Fr) {E : Env} {rv : Bool} (hE : PureE Try.prog 32 (.bool rv) E)
    (h : ((s.stages.length ≤ 1000000 ∧ ∀ i, i < s.stages.length → formI s i = true) ∧ ((((measR (measA s)).2) = true → ((((((measR (measA s)).1).length : Nat) : Int) > 0 → ((a.den > 0 → (∃ e : Int, ((measR (measA s)).1)[0]? = some e ∧ (a.den ≠ 0 ∧ rv = ((Int.tmod e a.den) == 0)))) ∧ (¬ (a.den > 0) → rv = false))) ∧ (¬ (((((measR (measA s)).1).length : Nat) : Int) > 0) → rv = false))) ∧ (((measR (measA s)).2) = false → rv = false)))) : G Try.prog E [.code (bodyAt Try.prog 32)] ⟨[.agg [.rsl (rowStg s.stages) 0 s.stages.length, .rsl (rowI s.worth) 0 s.worth.length, .int .i64 s.price], .agg [.int .i64 a.num, .int .i64 a.den]] ++ unds (Try.f32.ntmps - 2), []⟩ := by
  obtain ⟨h1, h⟩ := h
  rcases Bool.eq_false_or_eq_true ((measR (measA s)).2) with hc0 | hc0
  · have h := h.1 hc0
    rcases Bool.eq_false_or_eq_true (decide (((((measR (measA s)).1).length : Nat) : Int) > 0)) with hc1 | hc1
    · have h := h.1 (of_decide_eq_true hc1)
      rcases Bool.eq_false_or_eq_true (decide (a.den > 0)) with hc2 | hc2
      · have h := h.1 (of_decide_eq_true hc2)
        obtain ⟨e, h2, h⟩ := h
        obtain ⟨q9_3, h⟩ := h
        exact p32_start_0 s a   e hE ⟨(pureF_of Try.func51 (by kernel_rfl) f51b (measures_ok s h1)), hc0, hc1, (⟨by decide, by decide⟩), hc2, (idx_ok h2), (row_part cI (s := 1) (k := 0) (m := 1) (fun _ => rfl) (by decide) h2), (⟨by decide, by decide⟩), q9_3, trivial⟩ (AvLe.of_eq (by rw [h]; try rfl))
      · have h := h.2 (of_decide_eq_false hc2)
        exact p32_start_1 s a    hE ⟨(pureF_of Try.func51 (by kernel_rfl) f51b (measures_ok s h1)), hc0, hc1, (⟨by decide, by decide⟩), hc2, trivial⟩ (AvLe.of_eq (by rw [h]; try rfl))
    · have h := h.2 (of_decide_eq_false hc1)
      exact p32_start_2 s a    hE ⟨(pureF_of Try.func51 (by kernel_rfl) f51b (measures_ok s h1)), hc0, hc1, rfl, trivial⟩ (AvLe.of_eq (by rw [h]; try rfl))
  · have h := h.2 hc0
    exact p32_start_3 s a    hE ⟨(pureF_of Try.func51 (by kernel_rfl) f51b (measures_ok s h1)), hc0, rfl, rfl, trivial⟩ (AvLe.of_eq (by rw [h]; try rfl))
theorem less_ok (s : Stl) (a b : Fr) (h : checkK s = 0 ∧ FrOk s a ∧ FrOk s b ∧ FrV s b ≤ FrV s a) : Pure Try.prog 23 [avStl s, .agg [.int .i64 a.num, .int .i64 a.den], .agg [.int .i64 b.num, .int .i64 b.den]] (.bool false) := pure_of Try.func23 f23b fun E hE => by
  obtain ⟨hc, ha, hb, hle⟩ := h
  obtain ⟨hm, es⟩ := mok_G (isSome_of hc)
  have hform := (stPre_of hm.st).2.2.2.2
  have hn := (stPre_of hm.st).1
  rw [es] at hform hn
  have hme := measR_of (isSome_of hc)
  obtain ⟨u, hu, hu1, hu2⟩ := meas0 hm
  have eu : meas0I s = u := getD_of hu
  have p1 := ha.pos
  have p2 := hb.pos
  have b1 := ha.bd
  have b2 := hb.bd
  unfold FrV at b1 b2 hle
  rw [eu] at b1 b2 hle
  have t1 := tdiv_bd (n := u) (g := a.den) (B := 1000000000000) (by omega) (by omega) (by omega)
  have t2 := tdiv_bd (n := u) (g := b.den) (B := 1000000000000) (by omega) (by omega) (by omega)
  have hl : ¬ (((measR (measA s)).1.length : Int) = 0) := by
    rw [hme]
    have := (List.getElem?_eq_some_iff.1 hu).1
    show ¬ (((machG s).meas.length : Int) = 0)
    omega
  refine f23W s a b (rv := false) hE ⟨⟨by omega, hform⟩, fun h => ?_, fun h => ⟨fun h => absurd h hl, fun _ => ⟨fun h => by omega, fun _ => ⟨fun h => by omega, fun _ => ⟨u, by rw [hme]; exact hu, by omega, by omega, by omega, by omega, by omega, by omega, ?_⟩⟩⟩⟩⟩
  · rfl
  · exact (decide_eq_false (by omega)).symm
theorem divides_ok (s : Stl) (a : Fr) (h : checkK s = 0 ∧ FrOk s a) : Pure Try.prog 32 [avStl s, .agg [.int .i64 a.num, .int .i64 a.den]] (.bool true) := pure_of Try.func32 f32b fun E hE => by
  obtain ⟨hc, ha⟩ := h
  obtain ⟨hm, es⟩ := mok_G (isSome_of hc)
  have hform := (stPre_of hm.st).2.2.2.2
  have hn := (stPre_of hm.st).1
  rw [es] at hform hn
  have hme := measR_of (isSome_of hc)
  obtain ⟨u, hu, hu1, hu2⟩ := meas0 hm
  have eu : meas0I s = u := getD_of hu
  have p1 := ha.pos
  have hd := ha.dvd
  rw [eu] at hd
  have hl : ((measR (measA s)).1.length : Int) > 0 := by
    rw [hme]
    have := (List.getElem?_eq_some_iff.1 hu).1
    show ((machG s).meas.length : Int) > 0
    omega
  refine f32W s a (rv := true) hE ⟨⟨by omega, hform⟩, fun _ => ⟨fun _ => ⟨fun _ => ⟨u, by rw [hme]; exact hu, by omega, ?_⟩, fun h => absurd p1 h⟩, fun h => absurd hl h⟩, fun h => by rw [hme] at h; cases h⟩
  rw [Int.tmod_eq_zero_of_dvd hd]; rfl
end Go.Proofs.Ytfgmlaeikcfpbaa

namespace Go.Proofs.Ytfgmlaeikcfpbaa
open Go Ax
open Go.Proofs

theorem gfun {x u : Int} (hu : 0 < u) : iMax (gcdI (iMax x (0 - x)) u) 1 = (Int.gcd x u : Int) := by
  have hM : 0 ≤ iMax x (0 - x) := by unfold iMax; split <;> omega
  have hgp : 0 < gcdI (iMax x (0 - x)) u := by rw [gcdI_comm hM (by omega)]; exact gcd_pos hu hM
  have hM2 : iMax x (0 - x) = x ∨ iMax x (0 - x) = -x := by unfold iMax; split <;> omega
  have e : gcdI (iMax x (0 - x)) u = (Int.gcd x u : Int) := by
    rw [gcdI_int hM (by omega)]
    rcases hM2 with h | h
    · rw [h]
    · rw [h, Int.neg_gcd]
  rw [← e]
  generalize gcdI (iMax x (0 - x)) u = c at hgp
  unfold iMax; split <;> omega
theorem frac_sub {p v u : Int} (hu : 0 < u) : fracI (p * u - v) u = ⟨p * (fracI v u).den - (fracI v u).num, (fracI v u).den⟩ := by
  unfold fracI
  rw [gfun hu, gfun hu, Int.gcd_mul_right_sub_left]
  have d1 : (Int.gcd v u : Int) ∣ v := Int.gcd_dvd_left v u
  have d2 : (Int.gcd v u : Int) ∣ u := Int.gcd_dvd_right v u
  have hg : 0 < (Int.gcd v u : Int) := by
    have := Int.gcd_pos_of_ne_zero_right v (show u ≠ 0 by omega)
    omega
  generalize (Int.gcd v u : Int) = g at *
  obtain ⟨a, rfl⟩ := d1
  obtain ⟨b, rfl⟩ := d2
  have e1 : p * (g * b) - g * a = g * (p * b - a) := by rw [Int.mul_sub, ← Int.mul_assoc, Int.mul_comm p g, Int.mul_assoc]
  rw [e1, Int.mul_tdiv_cancel_left _ (by omega), Int.mul_tdiv_cancel_left _ (by omega), Int.mul_tdiv_cancel_left _ (by omega)]
theorem frac_le {v u B : Int} (hu : 0 < u) (h : v ≤ B * u) : (fracI v u).num ≤ B * (fracI v u).den := by
  obtain ⟨g, hg, e1, e2, e3⟩ := frac_parts (v := v) hu
  rcases Int.lt_or_le (B * (fracI v u).den) (fracI v u).num with hh | hh
  · have := Int.mul_lt_mul_of_pos_left hh hg
    rw [← e1, ← Int.mul_assoc, Int.mul_comm g B, Int.mul_assoc, ← e2] at this
    omega
  · exact hh
def gF (s : Stl) (p o : Int) : Fr := firstI (machG s) (worthI (machG s)) (chooseI (machG s) p o)
structure GOk (s : Stl) (p o : Int) : Prop where
  k : gainK s p o = ((gF s p o).num, (gF s p o).den, 0)
  ok : FrOk s (gF s p o)
  v : FrV s (gF s p o) = gainV s p o
  nn : 0 ≤ (gF s p o).num
  le : (gF s p o).num ≤ 10000 * (gF s p o).den
  den : 0 < (gF s p o).den ∧ (gF s p o).den ≤ 1000000000000
theorem gok {s : Stl} (hc : checkK s = 0) {p o : Int} (hp : p = 1 ∨ p = 2) (ho : o = 1 ∨ o = 2) : GOk s p o := by
  have hm := (mok_G (isSome_of hc)).1
  have gb := gainV_bd (pa := p) (oa := o) hc
  have hf := first_fr hc (w := worthI (machG s)) (ch := chooseI (machG s) p o) (wok_worth hm)
  have e : gF s p o = fracI (gainV s p o) (meas0I s) := rfl
  have fb := frac_bd (v := gainV s p o) (u := meas0I s) (B := 10000000000000000) (by omega) gb.2.1
  refine ⟨?_, hf.1, hf.2, ?_, ?_, ?_⟩
  · rw [gainK, if_pos hc, if_pos (aims_iff.2 ⟨hp, ho⟩)]; rfl
  · rw [e]; exact frac_nonneg gb.1.1 gb.2.1
  · rw [e]; exact frac_le gb.2.1 gb.1.2
  · rw [e]; omega

/-! ### Printed -/
/-! ### Handed -/
theorem f6b : Try.f6.body = some (bodyAt Try.prog 6) := by kernel_rfl
theorem p6_start_0 (s : Stl) (plan : (List Int))   {E : Env} {res : AV} (hE : PureE Try.prog 6 res E) (ho : AllP [PureF Try.prog (.clos 30 [] []) [.agg [.rsl (rowStg s.stages) 0 s.stages.length, .rsl (rowI s.worth) 0 s.worth.length, .int .i64 s.price], .rsl (rowI plan) 0 plan.length] (.int .i64 (planE s plan)), ((planE s plan) != 0) = true, PureF Try.prog (.clos 20 [] []) [] (.bool true)])
    (hr : AvLe (.bool true) res) : G Try.prog E [.code (bodyAt Try.prog 6)] ⟨[.agg [.rsl (rowStg s.stages) 0 s.stages.length, .rsl (rowI s.worth) 0 s.worth.length, .int .i64 s.price], .rsl (rowI plan) 0 plan.length] ++ unds (Try.f6.ntmps - 2), []⟩ :=
  end_stepL (n := 400) (evs := [.v (.int .i64 (planE s plan)), .b true, .v (.bool true)]) (obs := _) hE Try.func6 mixed (by kernel_rfl) ho hr
theorem p6_start_1 (s : Stl) (plan : (List Int))   {E : Env} {res : AV} (hE : PureE Try.prog 6 res E) (ho : AllP [PureF Try.prog (.clos 30 [] []) [.agg [.rsl (rowStg s.stages) 0 s.stages.length, .rsl (rowI s.worth) 0 s.worth.length, .int .i64 s.price], .rsl (rowI plan) 0 plan.length] (.int .i64 (planE s plan)), ((planE s plan) != 0) = false, true = true, InR .i64 0, (2 : Int) ≠ 0, InR .i64 1, (2 : Int) ≠ 0, InR .i64 1, PureF Try.prog (.clos 31 [] []) [.agg [.rsl (rowStg s.stages) 0 s.stages.length, .rsl (rowI s.worth) 0 s.worth.length, .int .i64 s.price], .int .i64 1, .int .i64 1] (.tup [.int .i64 ((gainK s 1 1).1), .int .i64 ((gainK s 1 1).2.1), .int .i64 ((gainK s 1 1).2.2)]), (0 : Int) ≤ 0 ∧ (0 : Int) < ((4 : Nat) : Int), 2 ≤ 8, ((gainK s 1 1).2.2 != 0) = true, true = true, true = true, true = true])
    (hr : AvLe (.bool false) res) : G Try.prog E [.code (bodyAt Try.prog 6)] ⟨[.agg [.rsl (rowStg s.stages) 0 s.stages.length, .rsl (rowI s.worth) 0 s.worth.length, .int .i64 s.price], .rsl (rowI plan) 0 plan.length] ++ unds (Try.f6.ntmps - 2), []⟩ :=
  end_stepL (n := 400) (evs := [.v (.int .i64 (planE s plan)), .b false, .b true, .v (.tup [.int .i64 ((gainK s 1 1).1), .int .i64 ((gainK s 1 1).2.1), .int .i64 ((gainK s 1 1).2.2)]), .b true, .b true, .b true, .b true]) (obs := _) hE Try.func6 mixed (by kernel_rfl) ho hr
theorem p6_start_2 (s : Stl) (plan : (List Int))   {E : Env} {res : AV} (hE : PureE Try.prog 6 res E) (ho : AllP [PureF Try.prog (.clos 30 [] []) [.agg [.rsl (rowStg s.stages) 0 s.stages.length, .rsl (rowI s.worth) 0 s.worth.length, .int .i64 s.price], .rsl (rowI plan) 0 plan.length] (.int .i64 (planE s plan)), ((planE s plan) != 0) = false, true = true, InR .i64 0, (2 : Int) ≠ 0, InR .i64 1, (2 : Int) ≠ 0, InR .i64 1, PureF Try.prog (.clos 31 [] []) [.agg [.rsl (rowStg s.stages) 0 s.stages.length, .rsl (rowI s.worth) 0 s.worth.length, .int .i64 s.price], .int .i64 1, .int .i64 1] (.tup [.int .i64 ((gainK s 1 1).1), .int .i64 ((gainK s 1 1).2.1), .int .i64 ((gainK s 1 1).2.2)]), (0 : Int) ≤ 0 ∧ (0 : Int) < ((4 : Nat) : Int), 2 ≤ 8, ((gainK s 1 1).2.2 != 0) = false, (0 : Int) ≤ 0 ∧ (0 : Int) < ((4 : Nat) : Int), PureF Try.prog (.clos 32 [] []) [.agg [.rsl (rowStg s.stages) 0 s.stages.length, .rsl (rowI s.worth) 0 s.worth.length, .int .i64 s.price], .agg [.int .i64 ((gainK s 1 1).1), .int .i64 ((gainK s 1 1).2.1)]] (.bool true), false = false, (decide ((gainK s 1 1).1 < 0)) = true, true = true])
    (hr : AvLe (.bool false) res) : G Try.prog E [.code (bodyAt Try.prog 6)] ⟨[.agg [.rsl (rowStg s.stages) 0 s.stages.length, .rsl (rowI s.worth) 0 s.worth.length, .int .i64 s.price], .rsl (rowI plan) 0 plan.length] ++ unds (Try.f6.ntmps - 2), []⟩ :=
  end_stepL (n := 400) (evs := [.v (.int .i64 (planE s plan)), .b false, .b true, .v (.tup [.int .i64 ((gainK s 1 1).1), .int .i64 ((gainK s 1 1).2.1), .int .i64 ((gainK s 1 1).2.2)]), .b false, .v (.bool true), .b false, .b true, .b true]) (obs := _) hE Try.func6 mixed (by kernel_rfl) ho hr
theorem p6_start_3 (s : Stl) (plan : (List Int))   {E : Env} {res : AV} (hE : PureE Try.prog 6 res E) (ho : AllP [PureF Try.prog (.clos 30 [] []) [.agg [.rsl (rowStg s.stages) 0 s.stages.length, .rsl (rowI s.worth) 0 s.worth.length, .int .i64 s.price], .rsl (rowI plan) 0 plan.length] (.int .i64 (planE s plan)), ((planE s plan) != 0) = false, true = true, InR .i64 0, (2 : Int) ≠ 0, InR .i64 1, (2 : Int) ≠ 0, InR .i64 1, PureF Try.prog (.clos 31 [] []) [.agg [.rsl (rowStg s.stages) 0 s.stages.length, .rsl (rowI s.worth) 0 s.worth.length, .int .i64 s.price], .int .i64 1, .int .i64 1] (.tup [.int .i64 ((gainK s 1 1).1), .int .i64 ((gainK s 1 1).2.1), .int .i64 ((gainK s 1 1).2.2)]), (0 : Int) ≤ 0 ∧ (0 : Int) < ((4 : Nat) : Int), 2 ≤ 8, ((gainK s 1 1).2.2 != 0) = false, (0 : Int) ≤ 0 ∧ (0 : Int) < ((4 : Nat) : Int), PureF Try.prog (.clos 32 [] []) [.agg [.rsl (rowStg s.stages) 0 s.stages.length, .rsl (rowI s.worth) 0 s.worth.length, .int .i64 s.price], .agg [.int .i64 ((gainK s 1 1).1), .int .i64 ((gainK s 1 1).2.1)]] (.bool true), false = false, (decide ((gainK s 1 1).1 < 0)) = false, InR .i64 (10000 * (gainK s 1 1).2.1), (decide ((gainK s 1 1).1 > (10000 * (gainK s 1 1).2.1))) = true])
    (hr : AvLe (.bool false) res) : G Try.prog E [.code (bodyAt Try.prog 6)] ⟨[.agg [.rsl (rowStg s.stages) 0 s.stages.length, .rsl (rowI s.worth) 0 s.worth.length, .int .i64 s.price], .rsl (rowI plan) 0 plan.length] ++ unds (Try.f6.ntmps - 2), []⟩ :=
  end_stepL (n := 400) (evs := [.v (.int .i64 (planE s plan)), .b false, .b true, .v (.tup [.int .i64 ((gainK s 1 1).1), .int .i64 ((gainK s 1 1).2.1), .int .i64 ((gainK s 1 1).2.2)]), .b false, .v (.bool true), .b false, .b false, .b true]) (obs := _) hE Try.func6 mixed (by kernel_rfl) ho hr
theorem p6_start_4 (s : Stl) (plan : (List Int))   {E : Env} {res : AV} (hE : PureE Try.prog 6 res E) (ho : AllP [PureF Try.prog (.clos 30 [] []) [.agg [.rsl (rowStg s.stages) 0 s.stages.length, .rsl (rowI s.worth) 0 s.worth.length, .int .i64 s.price], .rsl (rowI plan) 0 plan.length] (.int .i64 (planE s plan)), ((planE s plan) != 0) = false, true = true, InR .i64 0, (2 : Int) ≠ 0, InR .i64 1, (2 : Int) ≠ 0, InR .i64 1, PureF Try.prog (.clos 31 [] []) [.agg [.rsl (rowStg s.stages) 0 s.stages.length, .rsl (rowI s.worth) 0 s.worth.length, .int .i64 s.price], .int .i64 1, .int .i64 1] (.tup [.int .i64 ((gainK s 1 1).1), .int .i64 ((gainK s 1 1).2.1), .int .i64 ((gainK s 1 1).2.2)]), (0 : Int) ≤ 0 ∧ (0 : Int) < ((4 : Nat) : Int), 2 ≤ 8, ((gainK s 1 1).2.2 != 0) = false, (0 : Int) ≤ 0 ∧ (0 : Int) < ((4 : Nat) : Int), PureF Try.prog (.clos 32 [] []) [.agg [.rsl (rowStg s.stages) 0 s.stages.length, .rsl (rowI s.worth) 0 s.worth.length, .int .i64 s.price], .agg [.int .i64 ((gainK s 1 1).1), .int .i64 ((gainK s 1 1).2.1)]] (.bool true), false = false, (decide ((gainK s 1 1).1 < 0)) = false, InR .i64 (10000 * (gainK s 1 1).2.1), (decide ((gainK s 1 1).1 > (10000 * (gainK s 1 1).2.1))) = false, InR .i64 1, true = true, InR .i64 0, (2 : Int) ≠ 0, InR .i64 1, (2 : Int) ≠ 0, InR .i64 2, PureF Try.prog (.clos 31 [] []) [.agg [.rsl (rowStg s.stages) 0 s.stages.length, .rsl (rowI s.worth) 0 s.worth.length, .int .i64 s.price], .int .i64 1, .int .i64 2] (.tup [.int .i64 ((gainK s 1 2).1), .int .i64 ((gainK s 1 2).2.1), .int .i64 ((gainK s 1 2).2.2)]), (0 : Int) ≤ 1 ∧ (1 : Int) < ((4 : Nat) : Int), 4 ≤ 8, ((gainK s 1 2).2.2 != 0) = true, true = true, true = true, true = true])
    (hr : AvLe (.bool false) res) : G Try.prog E [.code (bodyAt Try.prog 6)] ⟨[.agg [.rsl (rowStg s.stages) 0 s.stages.length, .rsl (rowI s.worth) 0 s.worth.length, .int .i64 s.price], .rsl (rowI plan) 0 plan.length] ++ unds (Try.f6.ntmps - 2), []⟩ :=
  end_stepL (n := 400) (evs := [.v (.int .i64 (planE s plan)), .b false, .b true, .v (.tup [.int .i64 ((gainK s 1 1).1), .int .i64 ((gainK s 1 1).2.1), .int .i64 ((gainK s 1 1).2.2)]), .b false, .v (.bool true), .b false, .b false, .b false, .b true, .v (.tup [.int .i64 ((gainK s 1 2).1), .int .i64 ((gainK s 1 2).2.1), .int .i64 ((gainK s 1 2).2.2)]), .b true, .b true, .b true, .b true]) (obs := _) hE Try.func6 mixed (by kernel_rfl) ho hr
theorem p6_start_5 (s : Stl) (plan : (List Int))   {E : Env} {res : AV} (hE : PureE Try.prog 6 res E) (ho : AllP [PureF Try.prog (.clos 30 [] []) [.agg [.rsl (rowStg s.stages) 0 s.stages.length, .rsl (rowI s.worth) 0 s.worth.length, .int .i64 s.price], .rsl (rowI plan) 0 plan.length] (.int .i64 (planE s plan)), ((planE s plan) != 0) = false, true = true, InR .i64 0, (2 : Int) ≠ 0, InR .i64 1, (2 : Int) ≠ 0, InR .i64 1, PureF Try.prog (.clos 31 [] []) [.agg [.rsl (rowStg s.stages) 0 s.stages.length, .rsl (rowI s.worth) 0 s.worth.length, .int .i64 s.price], .int .i64 1, .int .i64 1] (.tup [.int .i64 ((gainK s 1 1).1), .int .i64 ((gainK s 1 1).2.1), .int .i64 ((gainK s 1 1).2.2)]), (0 : Int) ≤ 0 ∧ (0 : Int) < ((4 : Nat) : Int), 2 ≤ 8, ((gainK s 1 1).2.2 != 0) = false, (0 : Int) ≤ 0 ∧ (0 : Int) < ((4 : Nat) : Int), PureF Try.prog (.clos 32 [] []) [.agg [.rsl (rowStg s.stages) 0 s.stages.length, .rsl (rowI s.worth) 0 s.worth.length, .int .i64 s.price], .agg [.int .i64 ((gainK s 1 1).1), .int .i64 ((gainK s 1 1).2.1)]] (.bool true), false = false, (decide ((gainK s 1 1).1 < 0)) = false, InR .i64 (10000 * (gainK s 1 1).2.1), (decide ((gainK s 1 1).1 > (10000 * (gainK s 1 1).2.1))) = false, InR .i64 1, true = true, InR .i64 0, (2 : Int) ≠ 0, InR .i64 1, (2 : Int) ≠ 0, InR .i64 2, PureF Try.prog (.clos 31 [] []) [.agg [.rsl (rowStg s.stages) 0 s.stages.length, .rsl (rowI s.worth) 0 s.worth.length, .int .i64 s.price], .int .i64 1, .int .i64 2] (.tup [.int .i64 ((gainK s 1 2).1), .int .i64 ((gainK s 1 2).2.1), .int .i64 ((gainK s 1 2).2.2)]), (0 : Int) ≤ 1 ∧ (1 : Int) < ((4 : Nat) : Int), 4 ≤ 8, ((gainK s 1 2).2.2 != 0) = false, (0 : Int) ≤ 1 ∧ (1 : Int) < ((4 : Nat) : Int), PureF Try.prog (.clos 32 [] []) [.agg [.rsl (rowStg s.stages) 0 s.stages.length, .rsl (rowI s.worth) 0 s.worth.length, .int .i64 s.price], .agg [.int .i64 ((gainK s 1 2).1), .int .i64 ((gainK s 1 2).2.1)]] (.bool true), false = false, (decide ((gainK s 1 2).1 < 0)) = true, true = true])
    (hr : AvLe (.bool false) res) : G Try.prog E [.code (bodyAt Try.prog 6)] ⟨[.agg [.rsl (rowStg s.stages) 0 s.stages.length, .rsl (rowI s.worth) 0 s.worth.length, .int .i64 s.price], .rsl (rowI plan) 0 plan.length] ++ unds (Try.f6.ntmps - 2), []⟩ :=
  end_stepL (n := 400) (evs := [.v (.int .i64 (planE s plan)), .b false, .b true, .v (.tup [.int .i64 ((gainK s 1 1).1), .int .i64 ((gainK s 1 1).2.1), .int .i64 ((gainK s 1 1).2.2)]), .b false, .v (.bool true), .b false, .b false, .b false, .b true, .v (.tup [.int .i64 ((gainK s 1 2).1), .int .i64 ((gainK s 1 2).2.1), .int .i64 ((gainK s 1 2).2.2)]), .b false, .v (.bool true), .b false, .b true, .b true]) (obs := _) hE Try.func6 mixed (by kernel_rfl) ho hr
theorem p6_start_6 (s : Stl) (plan : (List Int))   {E : Env} {res : AV} (hE : PureE Try.prog 6 res E) (ho : AllP [PureF Try.prog (.clos 30 [] []) [.agg [.rsl (rowStg s.stages) 0 s.stages.length, .rsl (rowI s.worth) 0 s.worth.length, .int .i64 s.price], .rsl (rowI plan) 0 plan.length] (.int .i64 (planE s plan)), ((planE s plan) != 0) = false, true = true, InR .i64 0, (2 : Int) ≠ 0, InR .i64 1, (2 : Int) ≠ 0, InR .i64 1, PureF Try.prog (.clos 31 [] []) [.agg [.rsl (rowStg s.stages) 0 s.stages.length, .rsl (rowI s.worth) 0 s.worth.length, .int .i64 s.price], .int .i64 1, .int .i64 1] (.tup [.int .i64 ((gainK s 1 1).1), .int .i64 ((gainK s 1 1).2.1), .int .i64 ((gainK s 1 1).2.2)]), (0 : Int) ≤ 0 ∧ (0 : Int) < ((4 : Nat) : Int), 2 ≤ 8, ((gainK s 1 1).2.2 != 0) = false, (0 : Int) ≤ 0 ∧ (0 : Int) < ((4 : Nat) : Int), PureF Try.prog (.clos 32 [] []) [.agg [.rsl (rowStg s.stages) 0 s.stages.length, .rsl (rowI s.worth) 0 s.worth.length, .int .i64 s.price], .agg [.int .i64 ((gainK s 1 1).1), .int .i64 ((gainK s 1 1).2.1)]] (.bool true), false = false, (decide ((gainK s 1 1).1 < 0)) = false, InR .i64 (10000 * (gainK s 1 1).2.1), (decide ((gainK s 1 1).1 > (10000 * (gainK s 1 1).2.1))) = false, InR .i64 1, true = true, InR .i64 0, (2 : Int) ≠ 0, InR .i64 1, (2 : Int) ≠ 0, InR .i64 2, PureF Try.prog (.clos 31 [] []) [.agg [.rsl (rowStg s.stages) 0 s.stages.length, .rsl (rowI s.worth) 0 s.worth.length, .int .i64 s.price], .int .i64 1, .int .i64 2] (.tup [.int .i64 ((gainK s 1 2).1), .int .i64 ((gainK s 1 2).2.1), .int .i64 ((gainK s 1 2).2.2)]), (0 : Int) ≤ 1 ∧ (1 : Int) < ((4 : Nat) : Int), 4 ≤ 8, ((gainK s 1 2).2.2 != 0) = false, (0 : Int) ≤ 1 ∧ (1 : Int) < ((4 : Nat) : Int), PureF Try.prog (.clos 32 [] []) [.agg [.rsl (rowStg s.stages) 0 s.stages.length, .rsl (rowI s.worth) 0 s.worth.length, .int .i64 s.price], .agg [.int .i64 ((gainK s 1 2).1), .int .i64 ((gainK s 1 2).2.1)]] (.bool true), false = false, (decide ((gainK s 1 2).1 < 0)) = false, InR .i64 (10000 * (gainK s 1 2).2.1), (decide ((gainK s 1 2).1 > (10000 * (gainK s 1 2).2.1))) = true])
    (hr : AvLe (.bool false) res) : G Try.prog E [.code (bodyAt Try.prog 6)] ⟨[.agg [.rsl (rowStg s.stages) 0 s.stages.length, .rsl (rowI s.worth) 0 s.worth.length, .int .i64 s.price], .rsl (rowI plan) 0 plan.length] ++ unds (Try.f6.ntmps - 2), []⟩ :=
  end_stepL (n := 400) (evs := [.v (.int .i64 (planE s plan)), .b false, .b true, .v (.tup [.int .i64 ((gainK s 1 1).1), .int .i64 ((gainK s 1 1).2.1), .int .i64 ((gainK s 1 1).2.2)]), .b false, .v (.bool true), .b false, .b false, .b false, .b true, .v (.tup [.int .i64 ((gainK s 1 2).1), .int .i64 ((gainK s 1 2).2.1), .int .i64 ((gainK s 1 2).2.2)]), .b false, .v (.bool true), .b false, .b false, .b true]) (obs := _) hE Try.func6 mixed (by kernel_rfl) ho hr
theorem p6_start_7 (s : Stl) (plan : (List Int))   {E : Env} {res : AV} (hE : PureE Try.prog 6 res E) (ho : AllP [PureF Try.prog (.clos 30 [] []) [.agg [.rsl (rowStg s.stages) 0 s.stages.length, .rsl (rowI s.worth) 0 s.worth.length, .int .i64 s.price], .rsl (rowI plan) 0 plan.length] (.int .i64 (planE s plan)), ((planE s plan) != 0) = false, true = true, InR .i64 0, (2 : Int) ≠ 0, InR .i64 1, (2 : Int) ≠ 0, InR .i64 1, PureF Try.prog (.clos 31 [] []) [.agg [.rsl (rowStg s.stages) 0 s.stages.length, .rsl (rowI s.worth) 0 s.worth.length, .int .i64 s.price], .int .i64 1, .int .i64 1] (.tup [.int .i64 ((gainK s 1 1).1), .int .i64 ((gainK s 1 1).2.1), .int .i64 ((gainK s 1 1).2.2)]), (0 : Int) ≤ 0 ∧ (0 : Int) < ((4 : Nat) : Int), 2 ≤ 8, ((gainK s 1 1).2.2 != 0) = false, (0 : Int) ≤ 0 ∧ (0 : Int) < ((4 : Nat) : Int), PureF Try.prog (.clos 32 [] []) [.agg [.rsl (rowStg s.stages) 0 s.stages.length, .rsl (rowI s.worth) 0 s.worth.length, .int .i64 s.price], .agg [.int .i64 ((gainK s 1 1).1), .int .i64 ((gainK s 1 1).2.1)]] (.bool true), false = false, (decide ((gainK s 1 1).1 < 0)) = false, InR .i64 (10000 * (gainK s 1 1).2.1), (decide ((gainK s 1 1).1 > (10000 * (gainK s 1 1).2.1))) = false, InR .i64 1, true = true, InR .i64 0, (2 : Int) ≠ 0, InR .i64 1, (2 : Int) ≠ 0, InR .i64 2, PureF Try.prog (.clos 31 [] []) [.agg [.rsl (rowStg s.stages) 0 s.stages.length, .rsl (rowI s.worth) 0 s.worth.length, .int .i64 s.price], .int .i64 1, .int .i64 2] (.tup [.int .i64 ((gainK s 1 2).1), .int .i64 ((gainK s 1 2).2.1), .int .i64 ((gainK s 1 2).2.2)]), (0 : Int) ≤ 1 ∧ (1 : Int) < ((4 : Nat) : Int), 4 ≤ 8, ((gainK s 1 2).2.2 != 0) = false, (0 : Int) ≤ 1 ∧ (1 : Int) < ((4 : Nat) : Int), PureF Try.prog (.clos 32 [] []) [.agg [.rsl (rowStg s.stages) 0 s.stages.length, .rsl (rowI s.worth) 0 s.worth.length, .int .i64 s.price], .agg [.int .i64 ((gainK s 1 2).1), .int .i64 ((gainK s 1 2).2.1)]] (.bool true), false = false, (decide ((gainK s 1 2).1 < 0)) = false, InR .i64 (10000 * (gainK s 1 2).2.1), (decide ((gainK s 1 2).1 > (10000 * (gainK s 1 2).2.1))) = false, InR .i64 2, true = true, InR .i64 1, (2 : Int) ≠ 0, InR .i64 2, (2 : Int) ≠ 0, InR .i64 1, PureF Try.prog (.clos 31 [] []) [.agg [.rsl (rowStg s.stages) 0 s.stages.length, .rsl (rowI s.worth) 0 s.worth.length, .int .i64 s.price], .int .i64 2, .int .i64 1] (.tup [.int .i64 ((gainK s 2 1).1), .int .i64 ((gainK s 2 1).2.1), .int .i64 ((gainK s 2 1).2.2)]), (0 : Int) ≤ 2 ∧ (2 : Int) < ((4 : Nat) : Int), 6 ≤ 8, ((gainK s 2 1).2.2 != 0) = true, true = true, true = true, true = true])
    (hr : AvLe (.bool false) res) : G Try.prog E [.code (bodyAt Try.prog 6)] ⟨[.agg [.rsl (rowStg s.stages) 0 s.stages.length, .rsl (rowI s.worth) 0 s.worth.length, .int .i64 s.price], .rsl (rowI plan) 0 plan.length] ++ unds (Try.f6.ntmps - 2), []⟩ :=
  end_stepL (n := 400) (evs := [.v (.int .i64 (planE s plan)), .b false, .b true, .v (.tup [.int .i64 ((gainK s 1 1).1), .int .i64 ((gainK s 1 1).2.1), .int .i64 ((gainK s 1 1).2.2)]), .b false, .v (.bool true), .b false, .b false, .b false, .b true, .v (.tup [.int .i64 ((gainK s 1 2).1), .int .i64 ((gainK s 1 2).2.1), .int .i64 ((gainK s 1 2).2.2)]), .b false, .v (.bool true), .b false, .b false, .b false, .b true, .v (.tup [.int .i64 ((gainK s 2 1).1), .int .i64 ((gainK s 2 1).2.1), .int .i64 ((gainK s 2 1).2.2)]), .b true, .b true, .b true, .b true]) (obs := _) hE Try.func6 mixed (by kernel_rfl) ho hr
theorem p6_start_8 (s : Stl) (plan : (List Int))   {E : Env} {res : AV} (hE : PureE Try.prog 6 res E) (ho : AllP [PureF Try.prog (.clos 30 [] []) [.agg [.rsl (rowStg s.stages) 0 s.stages.length, .rsl (rowI s.worth) 0 s.worth.length, .int .i64 s.price], .rsl (rowI plan) 0 plan.length] (.int .i64 (planE s plan)), ((planE s plan) != 0) = false, true = true, InR .i64 0, (2 : Int) ≠ 0, InR .i64 1, (2 : Int) ≠ 0, InR .i64 1, PureF Try.prog (.clos 31 [] []) [.agg [.rsl (rowStg s.stages) 0 s.stages.length, .rsl (rowI s.worth) 0 s.worth.length, .int .i64 s.price], .int .i64 1, .int .i64 1] (.tup [.int .i64 ((gainK s 1 1).1), .int .i64 ((gainK s 1 1).2.1), .int .i64 ((gainK s 1 1).2.2)]), (0 : Int) ≤ 0 ∧ (0 : Int) < ((4 : Nat) : Int), 2 ≤ 8, ((gainK s 1 1).2.2 != 0) = false, (0 : Int) ≤ 0 ∧ (0 : Int) < ((4 : Nat) : Int), PureF Try.prog (.clos 32 [] []) [.agg [.rsl (rowStg s.stages) 0 s.stages.length, .rsl (rowI s.worth) 0 s.worth.length, .int .i64 s.price], .agg [.int .i64 ((gainK s 1 1).1), .int .i64 ((gainK s 1 1).2.1)]] (.bool true), false = false, (decide ((gainK s 1 1).1 < 0)) = false, InR .i64 (10000 * (gainK s 1 1).2.1), (decide ((gainK s 1 1).1 > (10000 * (gainK s 1 1).2.1))) = false, InR .i64 1, true = true, InR .i64 0, (2 : Int) ≠ 0, InR .i64 1, (2 : Int) ≠ 0, InR .i64 2, PureF Try.prog (.clos 31 [] []) [.agg [.rsl (rowStg s.stages) 0 s.stages.length, .rsl (rowI s.worth) 0 s.worth.length, .int .i64 s.price], .int .i64 1, .int .i64 2] (.tup [.int .i64 ((gainK s 1 2).1), .int .i64 ((gainK s 1 2).2.1), .int .i64 ((gainK s 1 2).2.2)]), (0 : Int) ≤ 1 ∧ (1 : Int) < ((4 : Nat) : Int), 4 ≤ 8, ((gainK s 1 2).2.2 != 0) = false, (0 : Int) ≤ 1 ∧ (1 : Int) < ((4 : Nat) : Int), PureF Try.prog (.clos 32 [] []) [.agg [.rsl (rowStg s.stages) 0 s.stages.length, .rsl (rowI s.worth) 0 s.worth.length, .int .i64 s.price], .agg [.int .i64 ((gainK s 1 2).1), .int .i64 ((gainK s 1 2).2.1)]] (.bool true), false = false, (decide ((gainK s 1 2).1 < 0)) = false, InR .i64 (10000 * (gainK s 1 2).2.1), (decide ((gainK s 1 2).1 > (10000 * (gainK s 1 2).2.1))) = false, InR .i64 2, true = true, InR .i64 1, (2 : Int) ≠ 0, InR .i64 2, (2 : Int) ≠ 0, InR .i64 1, PureF Try.prog (.clos 31 [] []) [.agg [.rsl (rowStg s.stages) 0 s.stages.length, .rsl (rowI s.worth) 0 s.worth.length, .int .i64 s.price], .int .i64 2, .int .i64 1] (.tup [.int .i64 ((gainK s 2 1).1), .int .i64 ((gainK s 2 1).2.1), .int .i64 ((gainK s 2 1).2.2)]), (0 : Int) ≤ 2 ∧ (2 : Int) < ((4 : Nat) : Int), 6 ≤ 8, ((gainK s 2 1).2.2 != 0) = false, (0 : Int) ≤ 2 ∧ (2 : Int) < ((4 : Nat) : Int), PureF Try.prog (.clos 32 [] []) [.agg [.rsl (rowStg s.stages) 0 s.stages.length, .rsl (rowI s.worth) 0 s.worth.length, .int .i64 s.price], .agg [.int .i64 ((gainK s 2 1).1), .int .i64 ((gainK s 2 1).2.1)]] (.bool true), false = false, (decide ((gainK s 2 1).1 < 0)) = true, true = true])
    (hr : AvLe (.bool false) res) : G Try.prog E [.code (bodyAt Try.prog 6)] ⟨[.agg [.rsl (rowStg s.stages) 0 s.stages.length, .rsl (rowI s.worth) 0 s.worth.length, .int .i64 s.price], .rsl (rowI plan) 0 plan.length] ++ unds (Try.f6.ntmps - 2), []⟩ :=
  end_stepL (n := 400) (evs := [.v (.int .i64 (planE s plan)), .b false, .b true, .v (.tup [.int .i64 ((gainK s 1 1).1), .int .i64 ((gainK s 1 1).2.1), .int .i64 ((gainK s 1 1).2.2)]), .b false, .v (.bool true), .b false, .b false, .b false, .b true, .v (.tup [.int .i64 ((gainK s 1 2).1), .int .i64 ((gainK s 1 2).2.1), .int .i64 ((gainK s 1 2).2.2)]), .b false, .v (.bool true), .b false, .b false, .b false, .b true, .v (.tup [.int .i64 ((gainK s 2 1).1), .int .i64 ((gainK s 2 1).2.1), .int .i64 ((gainK s 2 1).2.2)]), .b false, .v (.bool true), .b false, .b true, .b true]) (obs := _) hE Try.func6 mixed (by kernel_rfl) ho hr
theorem p6_start_9 (s : Stl) (plan : (List Int))   {E : Env} {res : AV} (hE : PureE Try.prog 6 res E) (ho : AllP [PureF Try.prog (.clos 30 [] []) [.agg [.rsl (rowStg s.stages) 0 s.stages.length, .rsl (rowI s.worth) 0 s.worth.length, .int .i64 s.price], .rsl (rowI plan) 0 plan.length] (.int .i64 (planE s plan)), ((planE s plan) != 0) = false, true = true, InR .i64 0, (2 : Int) ≠ 0, InR .i64 1, (2 : Int) ≠ 0, InR .i64 1, PureF Try.prog (.clos 31 [] []) [.agg [.rsl (rowStg s.stages) 0 s.stages.length, .rsl (rowI s.worth) 0 s.worth.length, .int .i64 s.price], .int .i64 1, .int .i64 1] (.tup [.int .i64 ((gainK s 1 1).1), .int .i64 ((gainK s 1 1).2.1), .int .i64 ((gainK s 1 1).2.2)]), (0 : Int) ≤ 0 ∧ (0 : Int) < ((4 : Nat) : Int), 2 ≤ 8, ((gainK s 1 1).2.2 != 0) = false, (0 : Int) ≤ 0 ∧ (0 : Int) < ((4 : Nat) : Int), PureF Try.prog (.clos 32 [] []) [.agg [.rsl (rowStg s.stages) 0 s.stages.length, .rsl (rowI s.worth) 0 s.worth.length, .int .i64 s.price], .agg [.int .i64 ((gainK s 1 1).1), .int .i64 ((gainK s 1 1).2.1)]] (.bool true), false = false, (decide ((gainK s 1 1).1 < 0)) = false, InR .i64 (10000 * (gainK s 1 1).2.1), (decide ((gainK s 1 1).1 > (10000 * (gainK s 1 1).2.1))) = false, InR .i64 1, true = true, InR .i64 0, (2 : Int) ≠ 0, InR .i64 1, (2 : Int) ≠ 0, InR .i64 2, PureF Try.prog (.clos 31 [] []) [.agg [.rsl (rowStg s.stages) 0 s.stages.length, .rsl (rowI s.worth) 0 s.worth.length, .int .i64 s.price], .int .i64 1, .int .i64 2] (.tup [.int .i64 ((gainK s 1 2).1), .int .i64 ((gainK s 1 2).2.1), .int .i64 ((gainK s 1 2).2.2)]), (0 : Int) ≤ 1 ∧ (1 : Int) < ((4 : Nat) : Int), 4 ≤ 8, ((gainK s 1 2).2.2 != 0) = false, (0 : Int) ≤ 1 ∧ (1 : Int) < ((4 : Nat) : Int), PureF Try.prog (.clos 32 [] []) [.agg [.rsl (rowStg s.stages) 0 s.stages.length, .rsl (rowI s.worth) 0 s.worth.length, .int .i64 s.price], .agg [.int .i64 ((gainK s 1 2).1), .int .i64 ((gainK s 1 2).2.1)]] (.bool true), false = false, (decide ((gainK s 1 2).1 < 0)) = false, InR .i64 (10000 * (gainK s 1 2).2.1), (decide ((gainK s 1 2).1 > (10000 * (gainK s 1 2).2.1))) = false, InR .i64 2, true = true, InR .i64 1, (2 : Int) ≠ 0, InR .i64 2, (2 : Int) ≠ 0, InR .i64 1, PureF Try.prog (.clos 31 [] []) [.agg [.rsl (rowStg s.stages) 0 s.stages.length, .rsl (rowI s.worth) 0 s.worth.length, .int .i64 s.price], .int .i64 2, .int .i64 1] (.tup [.int .i64 ((gainK s 2 1).1), .int .i64 ((gainK s 2 1).2.1), .int .i64 ((gainK s 2 1).2.2)]), (0 : Int) ≤ 2 ∧ (2 : Int) < ((4 : Nat) : Int), 6 ≤ 8, ((gainK s 2 1).2.2 != 0) = false, (0 : Int) ≤ 2 ∧ (2 : Int) < ((4 : Nat) : Int), PureF Try.prog (.clos 32 [] []) [.agg [.rsl (rowStg s.stages) 0 s.stages.length, .rsl (rowI s.worth) 0 s.worth.length, .int .i64 s.price], .agg [.int .i64 ((gainK s 2 1).1), .int .i64 ((gainK s 2 1).2.1)]] (.bool true), false = false, (decide ((gainK s 2 1).1 < 0)) = false, InR .i64 (10000 * (gainK s 2 1).2.1), (decide ((gainK s 2 1).1 > (10000 * (gainK s 2 1).2.1))) = true])
    (hr : AvLe (.bool false) res) : G Try.prog E [.code (bodyAt Try.prog 6)] ⟨[.agg [.rsl (rowStg s.stages) 0 s.stages.length, .rsl (rowI s.worth) 0 s.worth.length, .int .i64 s.price], .rsl (rowI plan) 0 plan.length] ++ unds (Try.f6.ntmps - 2), []⟩ :=
  end_stepL (n := 400) (evs := [.v (.int .i64 (planE s plan)), .b false, .b true, .v (.tup [.int .i64 ((gainK s 1 1).1), .int .i64 ((gainK s 1 1).2.1), .int .i64 ((gainK s 1 1).2.2)]), .b false, .v (.bool true), .b false, .b false, .b false, .b true, .v (.tup [.int .i64 ((gainK s 1 2).1), .int .i64 ((gainK s 1 2).2.1), .int .i64 ((gainK s 1 2).2.2)]), .b false, .v (.bool true), .b false, .b false, .b false, .b true, .v (.tup [.int .i64 ((gainK s 2 1).1), .int .i64 ((gainK s 2 1).2.1), .int .i64 ((gainK s 2 1).2.2)]), .b false, .v (.bool true), .b false, .b false, .b true]) (obs := _) hE Try.func6 mixed (by kernel_rfl) ho hr
theorem p6_start_10 (s : Stl) (plan : (List Int))   {E : Env} {res : AV} (hE : PureE Try.prog 6 res E) (ho : AllP [PureF Try.prog (.clos 30 [] []) [.agg [.rsl (rowStg s.stages) 0 s.stages.length, .rsl (rowI s.worth) 0 s.worth.length, .int .i64 s.price], .rsl (rowI plan) 0 plan.length] (.int .i64 (planE s plan)), ((planE s plan) != 0) = false, true = true, InR .i64 0, (2 : Int) ≠ 0, InR .i64 1, (2 : Int) ≠ 0, InR .i64 1, PureF Try.prog (.clos 31 [] []) [.agg [.rsl (rowStg s.stages) 0 s.stages.length, .rsl (rowI s.worth) 0 s.worth.length, .int .i64 s.price], .int .i64 1, .int .i64 1] (.tup [.int .i64 ((gainK s 1 1).1), .int .i64 ((gainK s 1 1).2.1), .int .i64 ((gainK s 1 1).2.2)]), (0 : Int) ≤ 0 ∧ (0 : Int) < ((4 : Nat) : Int), 2 ≤ 8, ((gainK s 1 1).2.2 != 0) = false, (0 : Int) ≤ 0 ∧ (0 : Int) < ((4 : Nat) : Int), PureF Try.prog (.clos 32 [] []) [.agg [.rsl (rowStg s.stages) 0 s.stages.length, .rsl (rowI s.worth) 0 s.worth.length, .int .i64 s.price], .agg [.int .i64 ((gainK s 1 1).1), .int .i64 ((gainK s 1 1).2.1)]] (.bool true), false = false, (decide ((gainK s 1 1).1 < 0)) = false, InR .i64 (10000 * (gainK s 1 1).2.1), (decide ((gainK s 1 1).1 > (10000 * (gainK s 1 1).2.1))) = false, InR .i64 1, true = true, InR .i64 0, (2 : Int) ≠ 0, InR .i64 1, (2 : Int) ≠ 0, InR .i64 2, PureF Try.prog (.clos 31 [] []) [.agg [.rsl (rowStg s.stages) 0 s.stages.length, .rsl (rowI s.worth) 0 s.worth.length, .int .i64 s.price], .int .i64 1, .int .i64 2] (.tup [.int .i64 ((gainK s 1 2).1), .int .i64 ((gainK s 1 2).2.1), .int .i64 ((gainK s 1 2).2.2)]), (0 : Int) ≤ 1 ∧ (1 : Int) < ((4 : Nat) : Int), 4 ≤ 8, ((gainK s 1 2).2.2 != 0) = false, (0 : Int) ≤ 1 ∧ (1 : Int) < ((4 : Nat) : Int), PureF Try.prog (.clos 32 [] []) [.agg [.rsl (rowStg s.stages) 0 s.stages.length, .rsl (rowI s.worth) 0 s.worth.length, .int .i64 s.price], .agg [.int .i64 ((gainK s 1 2).1), .int .i64 ((gainK s 1 2).2.1)]] (.bool true), false = false, (decide ((gainK s 1 2).1 < 0)) = false, InR .i64 (10000 * (gainK s 1 2).2.1), (decide ((gainK s 1 2).1 > (10000 * (gainK s 1 2).2.1))) = false, InR .i64 2, true = true, InR .i64 1, (2 : Int) ≠ 0, InR .i64 2, (2 : Int) ≠ 0, InR .i64 1, PureF Try.prog (.clos 31 [] []) [.agg [.rsl (rowStg s.stages) 0 s.stages.length, .rsl (rowI s.worth) 0 s.worth.length, .int .i64 s.price], .int .i64 2, .int .i64 1] (.tup [.int .i64 ((gainK s 2 1).1), .int .i64 ((gainK s 2 1).2.1), .int .i64 ((gainK s 2 1).2.2)]), (0 : Int) ≤ 2 ∧ (2 : Int) < ((4 : Nat) : Int), 6 ≤ 8, ((gainK s 2 1).2.2 != 0) = false, (0 : Int) ≤ 2 ∧ (2 : Int) < ((4 : Nat) : Int), PureF Try.prog (.clos 32 [] []) [.agg [.rsl (rowStg s.stages) 0 s.stages.length, .rsl (rowI s.worth) 0 s.worth.length, .int .i64 s.price], .agg [.int .i64 ((gainK s 2 1).1), .int .i64 ((gainK s 2 1).2.1)]] (.bool true), false = false, (decide ((gainK s 2 1).1 < 0)) = false, InR .i64 (10000 * (gainK s 2 1).2.1), (decide ((gainK s 2 1).1 > (10000 * (gainK s 2 1).2.1))) = false, InR .i64 3, true = true, InR .i64 1, (2 : Int) ≠ 0, InR .i64 2, (2 : Int) ≠ 0, InR .i64 2, PureF Try.prog (.clos 31 [] []) [.agg [.rsl (rowStg s.stages) 0 s.stages.length, .rsl (rowI s.worth) 0 s.worth.length, .int .i64 s.price], .int .i64 2, .int .i64 2] (.tup [.int .i64 ((gainK s 2 2).1), .int .i64 ((gainK s 2 2).2.1), .int .i64 ((gainK s 2 2).2.2)]), (0 : Int) ≤ 3 ∧ (3 : Int) < ((4 : Nat) : Int), 8 ≤ 8, ((gainK s 2 2).2.2 != 0) = true, true = true, true = true, true = true])
    (hr : AvLe (.bool false) res) : G Try.prog E [.code (bodyAt Try.prog 6)] ⟨[.agg [.rsl (rowStg s.stages) 0 s.stages.length, .rsl (rowI s.worth) 0 s.worth.length, .int .i64 s.price], .rsl (rowI plan) 0 plan.length] ++ unds (Try.f6.ntmps - 2), []⟩ :=
  end_stepL (n := 400) (evs := [.v (.int .i64 (planE s plan)), .b false, .b true, .v (.tup [.int .i64 ((gainK s 1 1).1), .int .i64 ((gainK s 1 1).2.1), .int .i64 ((gainK s 1 1).2.2)]), .b false, .v (.bool true), .b false, .b false, .b false, .b true, .v (.tup [.int .i64 ((gainK s 1 2).1), .int .i64 ((gainK s 1 2).2.1), .int .i64 ((gainK s 1 2).2.2)]), .b false, .v (.bool true), .b false, .b false, .b false, .b true, .v (.tup [.int .i64 ((gainK s 2 1).1), .int .i64 ((gainK s 2 1).2.1), .int .i64 ((gainK s 2 1).2.2)]), .b false, .v (.bool true), .b false, .b false, .b false, .b true, .v (.tup [.int .i64 ((gainK s 2 2).1), .int .i64 ((gainK s 2 2).2.1), .int .i64 ((gainK s 2 2).2.2)]), .b true, .b true, .b true, .b true]) (obs := _) hE Try.func6 mixed (by kernel_rfl) ho hr
theorem p6_start_11 (s : Stl) (plan : (List Int))   {E : Env} {res : AV} (hE : PureE Try.prog 6 res E) (ho : AllP [PureF Try.prog (.clos 30 [] []) [.agg [.rsl (rowStg s.stages) 0 s.stages.length, .rsl (rowI s.worth) 0 s.worth.length, .int .i64 s.price], .rsl (rowI plan) 0 plan.length] (.int .i64 (planE s plan)), ((planE s plan) != 0) = false, true = true, InR .i64 0, (2 : Int) ≠ 0, InR .i64 1, (2 : Int) ≠ 0, InR .i64 1, PureF Try.prog (.clos 31 [] []) [.agg [.rsl (rowStg s.stages) 0 s.stages.length, .rsl (rowI s.worth) 0 s.worth.length, .int .i64 s.price], .int .i64 1, .int .i64 1] (.tup [.int .i64 ((gainK s 1 1).1), .int .i64 ((gainK s 1 1).2.1), .int .i64 ((gainK s 1 1).2.2)]), (0 : Int) ≤ 0 ∧ (0 : Int) < ((4 : Nat) : Int), 2 ≤ 8, ((gainK s 1 1).2.2 != 0) = false, (0 : Int) ≤ 0 ∧ (0 : Int) < ((4 : Nat) : Int), PureF Try.prog (.clos 32 [] []) [.agg [.rsl (rowStg s.stages) 0 s.stages.length, .rsl (rowI s.worth) 0 s.worth.length, .int .i64 s.price], .agg [.int .i64 ((gainK s 1 1).1), .int .i64 ((gainK s 1 1).2.1)]] (.bool true), false = false, (decide ((gainK s 1 1).1 < 0)) = false, InR .i64 (10000 * (gainK s 1 1).2.1), (decide ((gainK s 1 1).1 > (10000 * (gainK s 1 1).2.1))) = false, InR .i64 1, true = true, InR .i64 0, (2 : Int) ≠ 0, InR .i64 1, (2 : Int) ≠ 0, InR .i64 2, PureF Try.prog (.clos 31 [] []) [.agg [.rsl (rowStg s.stages) 0 s.stages.length, .rsl (rowI s.worth) 0 s.worth.length, .int .i64 s.price], .int .i64 1, .int .i64 2] (.tup [.int .i64 ((gainK s 1 2).1), .int .i64 ((gainK s 1 2).2.1), .int .i64 ((gainK s 1 2).2.2)]), (0 : Int) ≤ 1 ∧ (1 : Int) < ((4 : Nat) : Int), 4 ≤ 8, ((gainK s 1 2).2.2 != 0) = false, (0 : Int) ≤ 1 ∧ (1 : Int) < ((4 : Nat) : Int), PureF Try.prog (.clos 32 [] []) [.agg [.rsl (rowStg s.stages) 0 s.stages.length, .rsl (rowI s.worth) 0 s.worth.length, .int .i64 s.price], .agg [.int .i64 ((gainK s 1 2).1), .int .i64 ((gainK s 1 2).2.1)]] (.bool true), false = false, (decide ((gainK s 1 2).1 < 0)) = false, InR .i64 (10000 * (gainK s 1 2).2.1), (decide ((gainK s 1 2).1 > (10000 * (gainK s 1 2).2.1))) = false, InR .i64 2, true = true, InR .i64 1, (2 : Int) ≠ 0, InR .i64 2, (2 : Int) ≠ 0, InR .i64 1, PureF Try.prog (.clos 31 [] []) [.agg [.rsl (rowStg s.stages) 0 s.stages.length, .rsl (rowI s.worth) 0 s.worth.length, .int .i64 s.price], .int .i64 2, .int .i64 1] (.tup [.int .i64 ((gainK s 2 1).1), .int .i64 ((gainK s 2 1).2.1), .int .i64 ((gainK s 2 1).2.2)]), (0 : Int) ≤ 2 ∧ (2 : Int) < ((4 : Nat) : Int), 6 ≤ 8, ((gainK s 2 1).2.2 != 0) = false, (0 : Int) ≤ 2 ∧ (2 : Int) < ((4 : Nat) : Int), PureF Try.prog (.clos 32 [] []) [.agg [.rsl (rowStg s.stages) 0 s.stages.length, .rsl (rowI s.worth) 0 s.worth.length, .int .i64 s.price], .agg [.int .i64 ((gainK s 2 1).1), .int .i64 ((gainK s 2 1).2.1)]] (.bool true), false = false, (decide ((gainK s 2 1).1 < 0)) = false, InR .i64 (10000 * (gainK s 2 1).2.1), (decide ((gainK s 2 1).1 > (10000 * (gainK s 2 1).2.1))) = false, InR .i64 3, true = true, InR .i64 1, (2 : Int) ≠ 0, InR .i64 2, (2 : Int) ≠ 0, InR .i64 2, PureF Try.prog (.clos 31 [] []) [.agg [.rsl (rowStg s.stages) 0 s.stages.length, .rsl (rowI s.worth) 0 s.worth.length, .int .i64 s.price], .int .i64 2, .int .i64 2] (.tup [.int .i64 ((gainK s 2 2).1), .int .i64 ((gainK s 2 2).2.1), .int .i64 ((gainK s 2 2).2.2)]), (0 : Int) ≤ 3 ∧ (3 : Int) < ((4 : Nat) : Int), 8 ≤ 8, ((gainK s 2 2).2.2 != 0) = false, (0 : Int) ≤ 3 ∧ (3 : Int) < ((4 : Nat) : Int), PureF Try.prog (.clos 32 [] []) [.agg [.rsl (rowStg s.stages) 0 s.stages.length, .rsl (rowI s.worth) 0 s.worth.length, .int .i64 s.price], .agg [.int .i64 ((gainK s 2 2).1), .int .i64 ((gainK s 2 2).2.1)]] (.bool true), false = false, (decide ((gainK s 2 2).1 < 0)) = true, true = true])
    (hr : AvLe (.bool false) res) : G Try.prog E [.code (bodyAt Try.prog 6)] ⟨[.agg [.rsl (rowStg s.stages) 0 s.stages.length, .rsl (rowI s.worth) 0 s.worth.length, .int .i64 s.price], .rsl (rowI plan) 0 plan.length] ++ unds (Try.f6.ntmps - 2), []⟩ :=
  end_stepL (n := 400) (evs := [.v (.int .i64 (planE s plan)), .b false, .b true, .v (.tup [.int .i64 ((gainK s 1 1).1), .int .i64 ((gainK s 1 1).2.1), .int .i64 ((gainK s 1 1).2.2)]), .b false, .v (.bool true), .b false, .b false, .b false, .b true, .v (.tup [.int .i64 ((gainK s 1 2).1), .int .i64 ((gainK s 1 2).2.1), .int .i64 ((gainK s 1 2).2.2)]), .b false, .v (.bool true), .b false, .b false, .b false, .b true, .v (.tup [.int .i64 ((gainK s 2 1).1), .int .i64 ((gainK s 2 1).2.1), .int .i64 ((gainK s 2 1).2.2)]), .b false, .v (.bool true), .b false, .b false, .b false, .b true, .v (.tup [.int .i64 ((gainK s 2 2).1), .int .i64 ((gainK s 2 2).2.1), .int .i64 ((gainK s 2 2).2.2)]), .b false, .v (.bool true), .b false, .b true, .b true]) (obs := _) hE Try.func6 mixed (by kernel_rfl) ho hr
theorem p6_start_12 (s : Stl) (plan : (List Int))   {E : Env} {res : AV} (hE : PureE Try.prog 6 res E) (ho : AllP [PureF Try.prog (.clos 30 [] []) [.agg [.rsl (rowStg s.stages) 0 s.stages.length, .rsl (rowI s.worth) 0 s.worth.length, .int .i64 s.price], .rsl (rowI plan) 0 plan.length] (.int .i64 (planE s plan)), ((planE s plan) != 0) = false, true = true, InR .i64 0, (2 : Int) ≠ 0, InR .i64 1, (2 : Int) ≠ 0, InR .i64 1, PureF Try.prog (.clos 31 [] []) [.agg [.rsl (rowStg s.stages) 0 s.stages.length, .rsl (rowI s.worth) 0 s.worth.length, .int .i64 s.price], .int .i64 1, .int .i64 1] (.tup [.int .i64 ((gainK s 1 1).1), .int .i64 ((gainK s 1 1).2.1), .int .i64 ((gainK s 1 1).2.2)]), (0 : Int) ≤ 0 ∧ (0 : Int) < ((4 : Nat) : Int), 2 ≤ 8, ((gainK s 1 1).2.2 != 0) = false, (0 : Int) ≤ 0 ∧ (0 : Int) < ((4 : Nat) : Int), PureF Try.prog (.clos 32 [] []) [.agg [.rsl (rowStg s.stages) 0 s.stages.length, .rsl (rowI s.worth) 0 s.worth.length, .int .i64 s.price], .agg [.int .i64 ((gainK s 1 1).1), .int .i64 ((gainK s 1 1).2.1)]] (.bool true), false = false, (decide ((gainK s 1 1).1 < 0)) = false, InR .i64 (10000 * (gainK s 1 1).2.1), (decide ((gainK s 1 1).1 > (10000 * (gainK s 1 1).2.1))) = false, InR .i64 1, true = true, InR .i64 0, (2 : Int) ≠ 0, InR .i64 1, (2 : Int) ≠ 0, InR .i64 2, PureF Try.prog (.clos 31 [] []) [.agg [.rsl (rowStg s.stages) 0 s.stages.length, .rsl (rowI s.worth) 0 s.worth.length, .int .i64 s.price], .int .i64 1, .int .i64 2] (.tup [.int .i64 ((gainK s 1 2).1), .int .i64 ((gainK s 1 2).2.1), .int .i64 ((gainK s 1 2).2.2)]), (0 : Int) ≤ 1 ∧ (1 : Int) < ((4 : Nat) : Int), 4 ≤ 8, ((gainK s 1 2).2.2 != 0) = false, (0 : Int) ≤ 1 ∧ (1 : Int) < ((4 : Nat) : Int), PureF Try.prog (.clos 32 [] []) [.agg [.rsl (rowStg s.stages) 0 s.stages.length, .rsl (rowI s.worth) 0 s.worth.length, .int .i64 s.price], .agg [.int .i64 ((gainK s 1 2).1), .int .i64 ((gainK s 1 2).2.1)]] (.bool true), false = false, (decide ((gainK s 1 2).1 < 0)) = false, InR .i64 (10000 * (gainK s 1 2).2.1), (decide ((gainK s 1 2).1 > (10000 * (gainK s 1 2).2.1))) = false, InR .i64 2, true = true, InR .i64 1, (2 : Int) ≠ 0, InR .i64 2, (2 : Int) ≠ 0, InR .i64 1, PureF Try.prog (.clos 31 [] []) [.agg [.rsl (rowStg s.stages) 0 s.stages.length, .rsl (rowI s.worth) 0 s.worth.length, .int .i64 s.price], .int .i64 2, .int .i64 1] (.tup [.int .i64 ((gainK s 2 1).1), .int .i64 ((gainK s 2 1).2.1), .int .i64 ((gainK s 2 1).2.2)]), (0 : Int) ≤ 2 ∧ (2 : Int) < ((4 : Nat) : Int), 6 ≤ 8, ((gainK s 2 1).2.2 != 0) = false, (0 : Int) ≤ 2 ∧ (2 : Int) < ((4 : Nat) : Int), PureF Try.prog (.clos 32 [] []) [.agg [.rsl (rowStg s.stages) 0 s.stages.length, .rsl (rowI s.worth) 0 s.worth.length, .int .i64 s.price], .agg [.int .i64 ((gainK s 2 1).1), .int .i64 ((gainK s 2 1).2.1)]] (.bool true), false = false, (decide ((gainK s 2 1).1 < 0)) = false, InR .i64 (10000 * (gainK s 2 1).2.1), (decide ((gainK s 2 1).1 > (10000 * (gainK s 2 1).2.1))) = false, InR .i64 3, true = true, InR .i64 1, (2 : Int) ≠ 0, InR .i64 2, (2 : Int) ≠ 0, InR .i64 2, PureF Try.prog (.clos 31 [] []) [.agg [.rsl (rowStg s.stages) 0 s.stages.length, .rsl (rowI s.worth) 0 s.worth.length, .int .i64 s.price], .int .i64 2, .int .i64 2] (.tup [.int .i64 ((gainK s 2 2).1), .int .i64 ((gainK s 2 2).2.1), .int .i64 ((gainK s 2 2).2.2)]), (0 : Int) ≤ 3 ∧ (3 : Int) < ((4 : Nat) : Int), 8 ≤ 8, ((gainK s 2 2).2.2 != 0) = false, (0 : Int) ≤ 3 ∧ (3 : Int) < ((4 : Nat) : Int), PureF Try.prog (.clos 32 [] []) [.agg [.rsl (rowStg s.stages) 0 s.stages.length, .rsl (rowI s.worth) 0 s.worth.length, .int .i64 s.price], .agg [.int .i64 ((gainK s 2 2).1), .int .i64 ((gainK s 2 2).2.1)]] (.bool true), false = false, (decide ((gainK s 2 2).1 < 0)) = false, InR .i64 (10000 * (gainK s 2 2).2.1), (decide ((gainK s 2 2).1 > (10000 * (gainK s 2 2).2.1))) = true])
    (hr : AvLe (.bool false) res) : G Try.prog E [.code (bodyAt Try.prog 6)] ⟨[.agg [.rsl (rowStg s.stages) 0 s.stages.length, .rsl (rowI s.worth) 0 s.worth.length, .int .i64 s.price], .rsl (rowI plan) 0 plan.length] ++ unds (Try.f6.ntmps - 2), []⟩ :=
  end_stepL (n := 400) (evs := [.v (.int .i64 (planE s plan)), .b false, .b true, .v (.tup [.int .i64 ((gainK s 1 1).1), .int .i64 ((gainK s 1 1).2.1), .int .i64 ((gainK s 1 1).2.2)]), .b false, .v (.bool true), .b false, .b false, .b false, .b true, .v (.tup [.int .i64 ((gainK s 1 2).1), .int .i64 ((gainK s 1 2).2.1), .int .i64 ((gainK s 1 2).2.2)]), .b false, .v (.bool true), .b false, .b false, .b false, .b true, .v (.tup [.int .i64 ((gainK s 2 1).1), .int .i64 ((gainK s 2 1).2.1), .int .i64 ((gainK s 2 1).2.2)]), .b false, .v (.bool true), .b false, .b false, .b false, .b true, .v (.tup [.int .i64 ((gainK s 2 2).1), .int .i64 ((gainK s 2 2).2.1), .int .i64 ((gainK s 2 2).2.2)]), .b false, .v (.bool true), .b false, .b false, .b true]) (obs := _) hE Try.func6 mixed (by kernel_rfl) ho hr
theorem p6_start_13 (s : Stl) (plan : (List Int))   {E : Env} {res : AV} (hE : PureE Try.prog 6 res E) (ho : AllP [PureF Try.prog (.clos 30 [] []) [.agg [.rsl (rowStg s.stages) 0 s.stages.length, .rsl (rowI s.worth) 0 s.worth.length, .int .i64 s.price], .rsl (rowI plan) 0 plan.length] (.int .i64 (planE s plan)), ((planE s plan) != 0) = false, true = true, InR .i64 0, (2 : Int) ≠ 0, InR .i64 1, (2 : Int) ≠ 0, InR .i64 1, PureF Try.prog (.clos 31 [] []) [.agg [.rsl (rowStg s.stages) 0 s.stages.length, .rsl (rowI s.worth) 0 s.worth.length, .int .i64 s.price], .int .i64 1, .int .i64 1] (.tup [.int .i64 ((gainK s 1 1).1), .int .i64 ((gainK s 1 1).2.1), .int .i64 ((gainK s 1 1).2.2)]), (0 : Int) ≤ 0 ∧ (0 : Int) < ((4 : Nat) : Int), 2 ≤ 8, ((gainK s 1 1).2.2 != 0) = false, (0 : Int) ≤ 0 ∧ (0 : Int) < ((4 : Nat) : Int), PureF Try.prog (.clos 32 [] []) [.agg [.rsl (rowStg s.stages) 0 s.stages.length, .rsl (rowI s.worth) 0 s.worth.length, .int .i64 s.price], .agg [.int .i64 ((gainK s 1 1).1), .int .i64 ((gainK s 1 1).2.1)]] (.bool true), false = false, (decide ((gainK s 1 1).1 < 0)) = false, InR .i64 (10000 * (gainK s 1 1).2.1), (decide ((gainK s 1 1).1 > (10000 * (gainK s 1 1).2.1))) = false, InR .i64 1, true = true, InR .i64 0, (2 : Int) ≠ 0, InR .i64 1, (2 : Int) ≠ 0, InR .i64 2, PureF Try.prog (.clos 31 [] []) [.agg [.rsl (rowStg s.stages) 0 s.stages.length, .rsl (rowI s.worth) 0 s.worth.length, .int .i64 s.price], .int .i64 1, .int .i64 2] (.tup [.int .i64 ((gainK s 1 2).1), .int .i64 ((gainK s 1 2).2.1), .int .i64 ((gainK s 1 2).2.2)]), (0 : Int) ≤ 1 ∧ (1 : Int) < ((4 : Nat) : Int), 4 ≤ 8, ((gainK s 1 2).2.2 != 0) = false, (0 : Int) ≤ 1 ∧ (1 : Int) < ((4 : Nat) : Int), PureF Try.prog (.clos 32 [] []) [.agg [.rsl (rowStg s.stages) 0 s.stages.length, .rsl (rowI s.worth) 0 s.worth.length, .int .i64 s.price], .agg [.int .i64 ((gainK s 1 2).1), .int .i64 ((gainK s 1 2).2.1)]] (.bool true), false = false, (decide ((gainK s 1 2).1 < 0)) = false, InR .i64 (10000 * (gainK s 1 2).2.1), (decide ((gainK s 1 2).1 > (10000 * (gainK s 1 2).2.1))) = false, InR .i64 2, true = true, InR .i64 1, (2 : Int) ≠ 0, InR .i64 2, (2 : Int) ≠ 0, InR .i64 1, PureF Try.prog (.clos 31 [] []) [.agg [.rsl (rowStg s.stages) 0 s.stages.length, .rsl (rowI s.worth) 0 s.worth.length, .int .i64 s.price], .int .i64 2, .int .i64 1] (.tup [.int .i64 ((gainK s 2 1).1), .int .i64 ((gainK s 2 1).2.1), .int .i64 ((gainK s 2 1).2.2)]), (0 : Int) ≤ 2 ∧ (2 : Int) < ((4 : Nat) : Int), 6 ≤ 8, ((gainK s 2 1).2.2 != 0) = false, (0 : Int) ≤ 2 ∧ (2 : Int) < ((4 : Nat) : Int), PureF Try.prog (.clos 32 [] []) [.agg [.rsl (rowStg s.stages) 0 s.stages.length, .rsl (rowI s.worth) 0 s.worth.length, .int .i64 s.price], .agg [.int .i64 ((gainK s 2 1).1), .int .i64 ((gainK s 2 1).2.1)]] (.bool true), false = false, (decide ((gainK s 2 1).1 < 0)) = false, InR .i64 (10000 * (gainK s 2 1).2.1), (decide ((gainK s 2 1).1 > (10000 * (gainK s 2 1).2.1))) = false, InR .i64 3, true = true, InR .i64 1, (2 : Int) ≠ 0, InR .i64 2, (2 : Int) ≠ 0, InR .i64 2, PureF Try.prog (.clos 31 [] []) [.agg [.rsl (rowStg s.stages) 0 s.stages.length, .rsl (rowI s.worth) 0 s.worth.length, .int .i64 s.price], .int .i64 2, .int .i64 2] (.tup [.int .i64 ((gainK s 2 2).1), .int .i64 ((gainK s 2 2).2.1), .int .i64 ((gainK s 2 2).2.2)]), (0 : Int) ≤ 3 ∧ (3 : Int) < ((4 : Nat) : Int), 8 ≤ 8, ((gainK s 2 2).2.2 != 0) = false, (0 : Int) ≤ 3 ∧ (3 : Int) < ((4 : Nat) : Int), PureF Try.prog (.clos 32 [] []) [.agg [.rsl (rowStg s.stages) 0 s.stages.length, .rsl (rowI s.worth) 0 s.worth.length, .int .i64 s.price], .agg [.int .i64 ((gainK s 2 2).1), .int .i64 ((gainK s 2 2).2.1)]] (.bool true), false = false, (decide ((gainK s 2 2).1 < 0)) = false, InR .i64 (10000 * (gainK s 2 2).2.1), (decide ((gainK s 2 2).1 > (10000 * (gainK s 2 2).2.1))) = false, InR .i64 4, false = false, (0 : Int) ≤ 1 ∧ (1 : Int) < ((4 : Nat) : Int), (0 : Int) ≤ 0 ∧ (0 : Int) < ((4 : Nat) : Int), PureF Try.prog (.clos 23 [] []) [.agg [.rsl (rowStg s.stages) 0 s.stages.length, .rsl (rowI s.worth) 0 s.worth.length, .int .i64 s.price], .agg [.int .i64 ((gainK s 1 2).1), .int .i64 ((gainK s 1 2).2.1)], .agg [.int .i64 ((gainK s 1 1).1), .int .i64 ((gainK s 1 1).2.1)]] (.bool false), false = false, (0 : Int) ≤ 3 ∧ (3 : Int) < ((4 : Nat) : Int), (0 : Int) ≤ 2 ∧ (2 : Int) < ((4 : Nat) : Int), PureF Try.prog (.clos 23 [] []) [.agg [.rsl (rowStg s.stages) 0 s.stages.length, .rsl (rowI s.worth) 0 s.worth.length, .int .i64 s.price], .agg [.int .i64 ((gainK s 2 2).1), .int .i64 ((gainK s 2 2).2.1)], .agg [.int .i64 ((gainK s 2 1).1), .int .i64 ((gainK s 2 1).2.1)]] (.bool false), false = false, (0 : Int) ≤ 2 ∧ (2 : Int) < ((4 : Nat) : Int), (0 : Int) ≤ 0 ∧ (0 : Int) < ((4 : Nat) : Int), PureF Try.prog (.clos 23 [] []) [.agg [.rsl (rowStg s.stages) 0 s.stages.length, .rsl (rowI s.worth) 0 s.worth.length, .int .i64 s.price], .agg [.int .i64 ((gainK s 2 1).1), .int .i64 ((gainK s 2 1).2.1)], .agg [.int .i64 ((gainK s 1 1).1), .int .i64 ((gainK s 1 1).2.1)]] (.bool false), false = false, (0 : Int) ≤ 3 ∧ (3 : Int) < ((4 : Nat) : Int), (0 : Int) ≤ 1 ∧ (1 : Int) < ((4 : Nat) : Int), PureF Try.prog (.clos 23 [] []) [.agg [.rsl (rowStg s.stages) 0 s.stages.length, .rsl (rowI s.worth) 0 s.worth.length, .int .i64 s.price], .agg [.int .i64 ((gainK s 2 2).1), .int .i64 ((gainK s 2 2).2.1)], .agg [.int .i64 ((gainK s 1 2).1), .int .i64 ((gainK s 1 2).2.1)]] (.bool false), false = false, PureF Try.prog (.clos 33 [] []) [.agg [.rsl (rowStg s.stages) 0 s.stages.length, .rsl (rowI s.worth) 0 s.worth.length, .int .i64 s.price], .rsl (rowI plan) 0 plan.length] (.tup [.int .i64 ((worthyK s plan).1), .int .i64 ((worthyK s plan).2)]), (0 : Int) ≤ 0 ∧ (0 : Int) < ((4 : Nat) : Int), PureF Try.prog (.clos 23 [] []) [.agg [.rsl (rowStg s.stages) 0 s.stages.length, .rsl (rowI s.worth) 0 s.worth.length, .int .i64 s.price], .agg [.int .i64 ((worthyK s plan).1), .int .i64 ((worthyK s plan).2)], .agg [.int .i64 ((gainK s 1 1).1), .int .i64 ((gainK s 1 1).2.1)]] (.bool false), false = false, (0 : Int) ≤ 3 ∧ (3 : Int) < ((4 : Nat) : Int), PureF Try.prog (.clos 23 [] []) [.agg [.rsl (rowStg s.stages) 0 s.stages.length, .rsl (rowI s.worth) 0 s.worth.length, .int .i64 s.price], .agg [.int .i64 ((gainK s 2 2).1), .int .i64 ((gainK s 2 2).2.1)], .agg [.int .i64 ((worthyK s plan).1), .int .i64 ((worthyK s plan).2)]] (.bool false), false = false, PureF Try.prog (.clos 34 [] []) [.agg [.rsl (rowStg s.stages) 0 s.stages.length, .rsl (rowI s.worth) 0 s.worth.length, .int .i64 s.price]] (.tup [.int .i64 ((houseK s).1), .int .i64 ((houseK s).2.1), .int .i64 ((houseK s).2.2)]), ((houseK s).2.2 == 0) = true, (0 : Int) ≤ 2 ∧ (2 : Int) < ((4 : Nat) : Int), (0 : Int) ≤ 1 ∧ (1 : Int) < ((2 : Nat) : Int), ((houseK s).2.1 == (gainK s 2 1).2.1) = true, InR .i64 (s.price * (houseK s).2.1), (0 : Int) ≤ 2 ∧ (2 : Int) < ((4 : Nat) : Int), (0 : Int) ≤ 0 ∧ (0 : Int) < ((2 : Nat) : Int), InR .i64 ((s.price * (houseK s).2.1) - (gainK s 2 1).1), ((houseK s).1 == ((s.price * (houseK s).2.1) - (gainK s 2 1).1)) = true, PureF Try.prog (.clos 20 [] []) [] (.bool true)])
    (hr : AvLe (.bool true) res) : G Try.prog E [.code (bodyAt Try.prog 6)] ⟨[.agg [.rsl (rowStg s.stages) 0 s.stages.length, .rsl (rowI s.worth) 0 s.worth.length, .int .i64 s.price], .rsl (rowI plan) 0 plan.length] ++ unds (Try.f6.ntmps - 2), []⟩ :=
  end_stepL (n := 400) (evs := [.v (.int .i64 (planE s plan)), .b false, .b true, .v (.tup [.int .i64 ((gainK s 1 1).1), .int .i64 ((gainK s 1 1).2.1), .int .i64 ((gainK s 1 1).2.2)]), .b false, .v (.bool true), .b false, .b false, .b false, .b true, .v (.tup [.int .i64 ((gainK s 1 2).1), .int .i64 ((gainK s 1 2).2.1), .int .i64 ((gainK s 1 2).2.2)]), .b false, .v (.bool true), .b false, .b false, .b false, .b true, .v (.tup [.int .i64 ((gainK s 2 1).1), .int .i64 ((gainK s 2 1).2.1), .int .i64 ((gainK s 2 1).2.2)]), .b false, .v (.bool true), .b false, .b false, .b false, .b true, .v (.tup [.int .i64 ((gainK s 2 2).1), .int .i64 ((gainK s 2 2).2.1), .int .i64 ((gainK s 2 2).2.2)]), .b false, .v (.bool true), .b false, .b false, .b false, .b false, .v (.bool false), .b false, .v (.bool false), .b false, .v (.bool false), .b false, .v (.bool false), .b false, .v (.tup [.int .i64 ((worthyK s plan).1), .int .i64 ((worthyK s plan).2)]), .v (.bool false), .b false, .v (.bool false), .b false, .v (.tup [.int .i64 ((houseK s).1), .int .i64 ((houseK s).2.1), .int .i64 ((houseK s).2.2)]), .b true, .b true, .b true, .v (.bool true)]) (obs := _) hE Try.func6 mixed (by kernel_rfl) ho hr
theorem p6_start_14 (s : Stl) (plan : (List Int))   {E : Env} {res : AV} (hE : PureE Try.prog 6 res E) (ho : AllP [PureF Try.prog (.clos 30 [] []) [.agg [.rsl (rowStg s.stages) 0 s.stages.length, .rsl (rowI s.worth) 0 s.worth.length, .int .i64 s.price], .rsl (rowI plan) 0 plan.length] (.int .i64 (planE s plan)), ((planE s plan) != 0) = false, true = true, InR .i64 0, (2 : Int) ≠ 0, InR .i64 1, (2 : Int) ≠ 0, InR .i64 1, PureF Try.prog (.clos 31 [] []) [.agg [.rsl (rowStg s.stages) 0 s.stages.length, .rsl (rowI s.worth) 0 s.worth.length, .int .i64 s.price], .int .i64 1, .int .i64 1] (.tup [.int .i64 ((gainK s 1 1).1), .int .i64 ((gainK s 1 1).2.1), .int .i64 ((gainK s 1 1).2.2)]), (0 : Int) ≤ 0 ∧ (0 : Int) < ((4 : Nat) : Int), 2 ≤ 8, ((gainK s 1 1).2.2 != 0) = false, (0 : Int) ≤ 0 ∧ (0 : Int) < ((4 : Nat) : Int), PureF Try.prog (.clos 32 [] []) [.agg [.rsl (rowStg s.stages) 0 s.stages.length, .rsl (rowI s.worth) 0 s.worth.length, .int .i64 s.price], .agg [.int .i64 ((gainK s 1 1).1), .int .i64 ((gainK s 1 1).2.1)]] (.bool true), false = false, (decide ((gainK s 1 1).1 < 0)) = false, InR .i64 (10000 * (gainK s 1 1).2.1), (decide ((gainK s 1 1).1 > (10000 * (gainK s 1 1).2.1))) = false, InR .i64 1, true = true, InR .i64 0, (2 : Int) ≠ 0, InR .i64 1, (2 : Int) ≠ 0, InR .i64 2, PureF Try.prog (.clos 31 [] []) [.agg [.rsl (rowStg s.stages) 0 s.stages.length, .rsl (rowI s.worth) 0 s.worth.length, .int .i64 s.price], .int .i64 1, .int .i64 2] (.tup [.int .i64 ((gainK s 1 2).1), .int .i64 ((gainK s 1 2).2.1), .int .i64 ((gainK s 1 2).2.2)]), (0 : Int) ≤ 1 ∧ (1 : Int) < ((4 : Nat) : Int), 4 ≤ 8, ((gainK s 1 2).2.2 != 0) = false, (0 : Int) ≤ 1 ∧ (1 : Int) < ((4 : Nat) : Int), PureF Try.prog (.clos 32 [] []) [.agg [.rsl (rowStg s.stages) 0 s.stages.length, .rsl (rowI s.worth) 0 s.worth.length, .int .i64 s.price], .agg [.int .i64 ((gainK s 1 2).1), .int .i64 ((gainK s 1 2).2.1)]] (.bool true), false = false, (decide ((gainK s 1 2).1 < 0)) = false, InR .i64 (10000 * (gainK s 1 2).2.1), (decide ((gainK s 1 2).1 > (10000 * (gainK s 1 2).2.1))) = false, InR .i64 2, true = true, InR .i64 1, (2 : Int) ≠ 0, InR .i64 2, (2 : Int) ≠ 0, InR .i64 1, PureF Try.prog (.clos 31 [] []) [.agg [.rsl (rowStg s.stages) 0 s.stages.length, .rsl (rowI s.worth) 0 s.worth.length, .int .i64 s.price], .int .i64 2, .int .i64 1] (.tup [.int .i64 ((gainK s 2 1).1), .int .i64 ((gainK s 2 1).2.1), .int .i64 ((gainK s 2 1).2.2)]), (0 : Int) ≤ 2 ∧ (2 : Int) < ((4 : Nat) : Int), 6 ≤ 8, ((gainK s 2 1).2.2 != 0) = false, (0 : Int) ≤ 2 ∧ (2 : Int) < ((4 : Nat) : Int), PureF Try.prog (.clos 32 [] []) [.agg [.rsl (rowStg s.stages) 0 s.stages.length, .rsl (rowI s.worth) 0 s.worth.length, .int .i64 s.price], .agg [.int .i64 ((gainK s 2 1).1), .int .i64 ((gainK s 2 1).2.1)]] (.bool true), false = false, (decide ((gainK s 2 1).1 < 0)) = false, InR .i64 (10000 * (gainK s 2 1).2.1), (decide ((gainK s 2 1).1 > (10000 * (gainK s 2 1).2.1))) = false, InR .i64 3, true = true, InR .i64 1, (2 : Int) ≠ 0, InR .i64 2, (2 : Int) ≠ 0, InR .i64 2, PureF Try.prog (.clos 31 [] []) [.agg [.rsl (rowStg s.stages) 0 s.stages.length, .rsl (rowI s.worth) 0 s.worth.length, .int .i64 s.price], .int .i64 2, .int .i64 2] (.tup [.int .i64 ((gainK s 2 2).1), .int .i64 ((gainK s 2 2).2.1), .int .i64 ((gainK s 2 2).2.2)]), (0 : Int) ≤ 3 ∧ (3 : Int) < ((4 : Nat) : Int), 8 ≤ 8, ((gainK s 2 2).2.2 != 0) = false, (0 : Int) ≤ 3 ∧ (3 : Int) < ((4 : Nat) : Int), PureF Try.prog (.clos 32 [] []) [.agg [.rsl (rowStg s.stages) 0 s.stages.length, .rsl (rowI s.worth) 0 s.worth.length, .int .i64 s.price], .agg [.int .i64 ((gainK s 2 2).1), .int .i64 ((gainK s 2 2).2.1)]] (.bool true), false = false, (decide ((gainK s 2 2).1 < 0)) = false, InR .i64 (10000 * (gainK s 2 2).2.1), (decide ((gainK s 2 2).1 > (10000 * (gainK s 2 2).2.1))) = false, InR .i64 4, false = false, (0 : Int) ≤ 1 ∧ (1 : Int) < ((4 : Nat) : Int), (0 : Int) ≤ 0 ∧ (0 : Int) < ((4 : Nat) : Int), PureF Try.prog (.clos 23 [] []) [.agg [.rsl (rowStg s.stages) 0 s.stages.length, .rsl (rowI s.worth) 0 s.worth.length, .int .i64 s.price], .agg [.int .i64 ((gainK s 1 2).1), .int .i64 ((gainK s 1 2).2.1)], .agg [.int .i64 ((gainK s 1 1).1), .int .i64 ((gainK s 1 1).2.1)]] (.bool false), false = false, (0 : Int) ≤ 3 ∧ (3 : Int) < ((4 : Nat) : Int), (0 : Int) ≤ 2 ∧ (2 : Int) < ((4 : Nat) : Int), PureF Try.prog (.clos 23 [] []) [.agg [.rsl (rowStg s.stages) 0 s.stages.length, .rsl (rowI s.worth) 0 s.worth.length, .int .i64 s.price], .agg [.int .i64 ((gainK s 2 2).1), .int .i64 ((gainK s 2 2).2.1)], .agg [.int .i64 ((gainK s 2 1).1), .int .i64 ((gainK s 2 1).2.1)]] (.bool false), false = false, (0 : Int) ≤ 2 ∧ (2 : Int) < ((4 : Nat) : Int), (0 : Int) ≤ 0 ∧ (0 : Int) < ((4 : Nat) : Int), PureF Try.prog (.clos 23 [] []) [.agg [.rsl (rowStg s.stages) 0 s.stages.length, .rsl (rowI s.worth) 0 s.worth.length, .int .i64 s.price], .agg [.int .i64 ((gainK s 2 1).1), .int .i64 ((gainK s 2 1).2.1)], .agg [.int .i64 ((gainK s 1 1).1), .int .i64 ((gainK s 1 1).2.1)]] (.bool false), false = false, (0 : Int) ≤ 3 ∧ (3 : Int) < ((4 : Nat) : Int), (0 : Int) ≤ 1 ∧ (1 : Int) < ((4 : Nat) : Int), PureF Try.prog (.clos 23 [] []) [.agg [.rsl (rowStg s.stages) 0 s.stages.length, .rsl (rowI s.worth) 0 s.worth.length, .int .i64 s.price], .agg [.int .i64 ((gainK s 2 2).1), .int .i64 ((gainK s 2 2).2.1)], .agg [.int .i64 ((gainK s 1 2).1), .int .i64 ((gainK s 1 2).2.1)]] (.bool false), false = false, PureF Try.prog (.clos 33 [] []) [.agg [.rsl (rowStg s.stages) 0 s.stages.length, .rsl (rowI s.worth) 0 s.worth.length, .int .i64 s.price], .rsl (rowI plan) 0 plan.length] (.tup [.int .i64 ((worthyK s plan).1), .int .i64 ((worthyK s plan).2)]), (0 : Int) ≤ 0 ∧ (0 : Int) < ((4 : Nat) : Int), PureF Try.prog (.clos 23 [] []) [.agg [.rsl (rowStg s.stages) 0 s.stages.length, .rsl (rowI s.worth) 0 s.worth.length, .int .i64 s.price], .agg [.int .i64 ((worthyK s plan).1), .int .i64 ((worthyK s plan).2)], .agg [.int .i64 ((gainK s 1 1).1), .int .i64 ((gainK s 1 1).2.1)]] (.bool false), false = false, (0 : Int) ≤ 3 ∧ (3 : Int) < ((4 : Nat) : Int), PureF Try.prog (.clos 23 [] []) [.agg [.rsl (rowStg s.stages) 0 s.stages.length, .rsl (rowI s.worth) 0 s.worth.length, .int .i64 s.price], .agg [.int .i64 ((gainK s 2 2).1), .int .i64 ((gainK s 2 2).2.1)], .agg [.int .i64 ((worthyK s plan).1), .int .i64 ((worthyK s plan).2)]] (.bool false), false = false, PureF Try.prog (.clos 34 [] []) [.agg [.rsl (rowStg s.stages) 0 s.stages.length, .rsl (rowI s.worth) 0 s.worth.length, .int .i64 s.price]] (.tup [.int .i64 ((houseK s).1), .int .i64 ((houseK s).2.1), .int .i64 ((houseK s).2.2)]), ((houseK s).2.2 == 0) = true, (0 : Int) ≤ 2 ∧ (2 : Int) < ((4 : Nat) : Int), (0 : Int) ≤ 1 ∧ (1 : Int) < ((2 : Nat) : Int), ((houseK s).2.1 == (gainK s 2 1).2.1) = true, InR .i64 (s.price * (houseK s).2.1), (0 : Int) ≤ 2 ∧ (2 : Int) < ((4 : Nat) : Int), (0 : Int) ≤ 0 ∧ (0 : Int) < ((2 : Nat) : Int), InR .i64 ((s.price * (houseK s).2.1) - (gainK s 2 1).1), ((houseK s).1 == ((s.price * (houseK s).2.1) - (gainK s 2 1).1)) = false])
    (hr : AvLe (.bool false) res) : G Try.prog E [.code (bodyAt Try.prog 6)] ⟨[.agg [.rsl (rowStg s.stages) 0 s.stages.length, .rsl (rowI s.worth) 0 s.worth.length, .int .i64 s.price], .rsl (rowI plan) 0 plan.length] ++ unds (Try.f6.ntmps - 2), []⟩ :=
  end_stepL (n := 400) (evs := [.v (.int .i64 (planE s plan)), .b false, .b true, .v (.tup [.int .i64 ((gainK s 1 1).1), .int .i64 ((gainK s 1 1).2.1), .int .i64 ((gainK s 1 1).2.2)]), .b false, .v (.bool true), .b false, .b false, .b false, .b true, .v (.tup [.int .i64 ((gainK s 1 2).1), .int .i64 ((gainK s 1 2).2.1), .int .i64 ((gainK s 1 2).2.2)]), .b false, .v (.bool true), .b false, .b false, .b false, .b true, .v (.tup [.int .i64 ((gainK s 2 1).1), .int .i64 ((gainK s 2 1).2.1), .int .i64 ((gainK s 2 1).2.2)]), .b false, .v (.bool true), .b false, .b false, .b false, .b true, .v (.tup [.int .i64 ((gainK s 2 2).1), .int .i64 ((gainK s 2 2).2.1), .int .i64 ((gainK s 2 2).2.2)]), .b false, .v (.bool true), .b false, .b false, .b false, .b false, .v (.bool false), .b false, .v (.bool false), .b false, .v (.bool false), .b false, .v (.bool false), .b false, .v (.tup [.int .i64 ((worthyK s plan).1), .int .i64 ((worthyK s plan).2)]), .v (.bool false), .b false, .v (.bool false), .b false, .v (.tup [.int .i64 ((houseK s).1), .int .i64 ((houseK s).2.1), .int .i64 ((houseK s).2.2)]), .b true, .b true, .b false]) (obs := _) hE Try.func6 mixed (by kernel_rfl) ho hr
theorem p6_start_15 (s : Stl) (plan : (List Int))   {E : Env} {res : AV} (hE : PureE Try.prog 6 res E) (ho : AllP [PureF Try.prog (.clos 30 [] []) [.agg [.rsl (rowStg s.stages) 0 s.stages.length, .rsl (rowI s.worth) 0 s.worth.length, .int .i64 s.price], .rsl (rowI plan) 0 plan.length] (.int .i64 (planE s plan)), ((planE s plan) != 0) = false, true = true, InR .i64 0, (2 : Int) ≠ 0, InR .i64 1, (2 : Int) ≠ 0, InR .i64 1, PureF Try.prog (.clos 31 [] []) [.agg [.rsl (rowStg s.stages) 0 s.stages.length, .rsl (rowI s.worth) 0 s.worth.length, .int .i64 s.price], .int .i64 1, .int .i64 1] (.tup [.int .i64 ((gainK s 1 1).1), .int .i64 ((gainK s 1 1).2.1), .int .i64 ((gainK s 1 1).2.2)]), (0 : Int) ≤ 0 ∧ (0 : Int) < ((4 : Nat) : Int), 2 ≤ 8, ((gainK s 1 1).2.2 != 0) = false, (0 : Int) ≤ 0 ∧ (0 : Int) < ((4 : Nat) : Int), PureF Try.prog (.clos 32 [] []) [.agg [.rsl (rowStg s.stages) 0 s.stages.length, .rsl (rowI s.worth) 0 s.worth.length, .int .i64 s.price], .agg [.int .i64 ((gainK s 1 1).1), .int .i64 ((gainK s 1 1).2.1)]] (.bool true), false = false, (decide ((gainK s 1 1).1 < 0)) = false, InR .i64 (10000 * (gainK s 1 1).2.1), (decide ((gainK s 1 1).1 > (10000 * (gainK s 1 1).2.1))) = false, InR .i64 1, true = true, InR .i64 0, (2 : Int) ≠ 0, InR .i64 1, (2 : Int) ≠ 0, InR .i64 2, PureF Try.prog (.clos 31 [] []) [.agg [.rsl (rowStg s.stages) 0 s.stages.length, .rsl (rowI s.worth) 0 s.worth.length, .int .i64 s.price], .int .i64 1, .int .i64 2] (.tup [.int .i64 ((gainK s 1 2).1), .int .i64 ((gainK s 1 2).2.1), .int .i64 ((gainK s 1 2).2.2)]), (0 : Int) ≤ 1 ∧ (1 : Int) < ((4 : Nat) : Int), 4 ≤ 8, ((gainK s 1 2).2.2 != 0) = false, (0 : Int) ≤ 1 ∧ (1 : Int) < ((4 : Nat) : Int), PureF Try.prog (.clos 32 [] []) [.agg [.rsl (rowStg s.stages) 0 s.stages.length, .rsl (rowI s.worth) 0 s.worth.length, .int .i64 s.price], .agg [.int .i64 ((gainK s 1 2).1), .int .i64 ((gainK s 1 2).2.1)]] (.bool true), false = false, (decide ((gainK s 1 2).1 < 0)) = false, InR .i64 (10000 * (gainK s 1 2).2.1), (decide ((gainK s 1 2).1 > (10000 * (gainK s 1 2).2.1))) = false, InR .i64 2, true = true, InR .i64 1, (2 : Int) ≠ 0, InR .i64 2, (2 : Int) ≠ 0, InR .i64 1, PureF Try.prog (.clos 31 [] []) [.agg [.rsl (rowStg s.stages) 0 s.stages.length, .rsl (rowI s.worth) 0 s.worth.length, .int .i64 s.price], .int .i64 2, .int .i64 1] (.tup [.int .i64 ((gainK s 2 1).1), .int .i64 ((gainK s 2 1).2.1), .int .i64 ((gainK s 2 1).2.2)]), (0 : Int) ≤ 2 ∧ (2 : Int) < ((4 : Nat) : Int), 6 ≤ 8, ((gainK s 2 1).2.2 != 0) = false, (0 : Int) ≤ 2 ∧ (2 : Int) < ((4 : Nat) : Int), PureF Try.prog (.clos 32 [] []) [.agg [.rsl (rowStg s.stages) 0 s.stages.length, .rsl (rowI s.worth) 0 s.worth.length, .int .i64 s.price], .agg [.int .i64 ((gainK s 2 1).1), .int .i64 ((gainK s 2 1).2.1)]] (.bool true), false = false, (decide ((gainK s 2 1).1 < 0)) = false, InR .i64 (10000 * (gainK s 2 1).2.1), (decide ((gainK s 2 1).1 > (10000 * (gainK s 2 1).2.1))) = false, InR .i64 3, true = true, InR .i64 1, (2 : Int) ≠ 0, InR .i64 2, (2 : Int) ≠ 0, InR .i64 2, PureF Try.prog (.clos 31 [] []) [.agg [.rsl (rowStg s.stages) 0 s.stages.length, .rsl (rowI s.worth) 0 s.worth.length, .int .i64 s.price], .int .i64 2, .int .i64 2] (.tup [.int .i64 ((gainK s 2 2).1), .int .i64 ((gainK s 2 2).2.1), .int .i64 ((gainK s 2 2).2.2)]), (0 : Int) ≤ 3 ∧ (3 : Int) < ((4 : Nat) : Int), 8 ≤ 8, ((gainK s 2 2).2.2 != 0) = false, (0 : Int) ≤ 3 ∧ (3 : Int) < ((4 : Nat) : Int), PureF Try.prog (.clos 32 [] []) [.agg [.rsl (rowStg s.stages) 0 s.stages.length, .rsl (rowI s.worth) 0 s.worth.length, .int .i64 s.price], .agg [.int .i64 ((gainK s 2 2).1), .int .i64 ((gainK s 2 2).2.1)]] (.bool true), false = false, (decide ((gainK s 2 2).1 < 0)) = false, InR .i64 (10000 * (gainK s 2 2).2.1), (decide ((gainK s 2 2).1 > (10000 * (gainK s 2 2).2.1))) = false, InR .i64 4, false = false, (0 : Int) ≤ 1 ∧ (1 : Int) < ((4 : Nat) : Int), (0 : Int) ≤ 0 ∧ (0 : Int) < ((4 : Nat) : Int), PureF Try.prog (.clos 23 [] []) [.agg [.rsl (rowStg s.stages) 0 s.stages.length, .rsl (rowI s.worth) 0 s.worth.length, .int .i64 s.price], .agg [.int .i64 ((gainK s 1 2).1), .int .i64 ((gainK s 1 2).2.1)], .agg [.int .i64 ((gainK s 1 1).1), .int .i64 ((gainK s 1 1).2.1)]] (.bool false), false = false, (0 : Int) ≤ 3 ∧ (3 : Int) < ((4 : Nat) : Int), (0 : Int) ≤ 2 ∧ (2 : Int) < ((4 : Nat) : Int), PureF Try.prog (.clos 23 [] []) [.agg [.rsl (rowStg s.stages) 0 s.stages.length, .rsl (rowI s.worth) 0 s.worth.length, .int .i64 s.price], .agg [.int .i64 ((gainK s 2 2).1), .int .i64 ((gainK s 2 2).2.1)], .agg [.int .i64 ((gainK s 2 1).1), .int .i64 ((gainK s 2 1).2.1)]] (.bool false), false = false, (0 : Int) ≤ 2 ∧ (2 : Int) < ((4 : Nat) : Int), (0 : Int) ≤ 0 ∧ (0 : Int) < ((4 : Nat) : Int), PureF Try.prog (.clos 23 [] []) [.agg [.rsl (rowStg s.stages) 0 s.stages.length, .rsl (rowI s.worth) 0 s.worth.length, .int .i64 s.price], .agg [.int .i64 ((gainK s 2 1).1), .int .i64 ((gainK s 2 1).2.1)], .agg [.int .i64 ((gainK s 1 1).1), .int .i64 ((gainK s 1 1).2.1)]] (.bool false), false = false, (0 : Int) ≤ 3 ∧ (3 : Int) < ((4 : Nat) : Int), (0 : Int) ≤ 1 ∧ (1 : Int) < ((4 : Nat) : Int), PureF Try.prog (.clos 23 [] []) [.agg [.rsl (rowStg s.stages) 0 s.stages.length, .rsl (rowI s.worth) 0 s.worth.length, .int .i64 s.price], .agg [.int .i64 ((gainK s 2 2).1), .int .i64 ((gainK s 2 2).2.1)], .agg [.int .i64 ((gainK s 1 2).1), .int .i64 ((gainK s 1 2).2.1)]] (.bool false), false = false, PureF Try.prog (.clos 33 [] []) [.agg [.rsl (rowStg s.stages) 0 s.stages.length, .rsl (rowI s.worth) 0 s.worth.length, .int .i64 s.price], .rsl (rowI plan) 0 plan.length] (.tup [.int .i64 ((worthyK s plan).1), .int .i64 ((worthyK s plan).2)]), (0 : Int) ≤ 0 ∧ (0 : Int) < ((4 : Nat) : Int), PureF Try.prog (.clos 23 [] []) [.agg [.rsl (rowStg s.stages) 0 s.stages.length, .rsl (rowI s.worth) 0 s.worth.length, .int .i64 s.price], .agg [.int .i64 ((worthyK s plan).1), .int .i64 ((worthyK s plan).2)], .agg [.int .i64 ((gainK s 1 1).1), .int .i64 ((gainK s 1 1).2.1)]] (.bool false), false = false, (0 : Int) ≤ 3 ∧ (3 : Int) < ((4 : Nat) : Int), PureF Try.prog (.clos 23 [] []) [.agg [.rsl (rowStg s.stages) 0 s.stages.length, .rsl (rowI s.worth) 0 s.worth.length, .int .i64 s.price], .agg [.int .i64 ((gainK s 2 2).1), .int .i64 ((gainK s 2 2).2.1)], .agg [.int .i64 ((worthyK s plan).1), .int .i64 ((worthyK s plan).2)]] (.bool false), false = false, PureF Try.prog (.clos 34 [] []) [.agg [.rsl (rowStg s.stages) 0 s.stages.length, .rsl (rowI s.worth) 0 s.worth.length, .int .i64 s.price]] (.tup [.int .i64 ((houseK s).1), .int .i64 ((houseK s).2.1), .int .i64 ((houseK s).2.2)]), ((houseK s).2.2 == 0) = true, (0 : Int) ≤ 2 ∧ (2 : Int) < ((4 : Nat) : Int), (0 : Int) ≤ 1 ∧ (1 : Int) < ((2 : Nat) : Int), ((houseK s).2.1 == (gainK s 2 1).2.1) = false, false = false])
    (hr : AvLe (.bool false) res) : G Try.prog E [.code (bodyAt Try.prog 6)] ⟨[.agg [.rsl (rowStg s.stages) 0 s.stages.length, .rsl (rowI s.worth) 0 s.worth.length, .int .i64 s.price], .rsl (rowI plan) 0 plan.length] ++ unds (Try.f6.ntmps - 2), []⟩ :=
  end_stepL (n := 400) (evs := [.v (.int .i64 (planE s plan)), .b false, .b true, .v (.tup [.int .i64 ((gainK s 1 1).1), .int .i64 ((gainK s 1 1).2.1), .int .i64 ((gainK s 1 1).2.2)]), .b false, .v (.bool true), .b false, .b false, .b false, .b true, .v (.tup [.int .i64 ((gainK s 1 2).1), .int .i64 ((gainK s 1 2).2.1), .int .i64 ((gainK s 1 2).2.2)]), .b false, .v (.bool true), .b false, .b false, .b false, .b true, .v (.tup [.int .i64 ((gainK s 2 1).1), .int .i64 ((gainK s 2 1).2.1), .int .i64 ((gainK s 2 1).2.2)]), .b false, .v (.bool true), .b false, .b false, .b false, .b true, .v (.tup [.int .i64 ((gainK s 2 2).1), .int .i64 ((gainK s 2 2).2.1), .int .i64 ((gainK s 2 2).2.2)]), .b false, .v (.bool true), .b false, .b false, .b false, .b false, .v (.bool false), .b false, .v (.bool false), .b false, .v (.bool false), .b false, .v (.bool false), .b false, .v (.tup [.int .i64 ((worthyK s plan).1), .int .i64 ((worthyK s plan).2)]), .v (.bool false), .b false, .v (.bool false), .b false, .v (.tup [.int .i64 ((houseK s).1), .int .i64 ((houseK s).2.1), .int .i64 ((houseK s).2.2)]), .b true, .b false, .b false]) (obs := _) hE Try.func6 mixed (by kernel_rfl) ho hr
theorem p6_start_16 (s : Stl) (plan : (List Int))   {E : Env} {res : AV} (hE : PureE Try.prog 6 res E) (ho : AllP [PureF Try.prog (.clos 30 [] []) [.agg [.rsl (rowStg s.stages) 0 s.stages.length, .rsl (rowI s.worth) 0 s.worth.length, .int .i64 s.price], .rsl (rowI plan) 0 plan.length] (.int .i64 (planE s plan)), ((planE s plan) != 0) = false, true = true, InR .i64 0, (2 : Int) ≠ 0, InR .i64 1, (2 : Int) ≠ 0, InR .i64 1, PureF Try.prog (.clos 31 [] []) [.agg [.rsl (rowStg s.stages) 0 s.stages.length, .rsl (rowI s.worth) 0 s.worth.length, .int .i64 s.price], .int .i64 1, .int .i64 1] (.tup [.int .i64 ((gainK s 1 1).1), .int .i64 ((gainK s 1 1).2.1), .int .i64 ((gainK s 1 1).2.2)]), (0 : Int) ≤ 0 ∧ (0 : Int) < ((4 : Nat) : Int), 2 ≤ 8, ((gainK s 1 1).2.2 != 0) = false, (0 : Int) ≤ 0 ∧ (0 : Int) < ((4 : Nat) : Int), PureF Try.prog (.clos 32 [] []) [.agg [.rsl (rowStg s.stages) 0 s.stages.length, .rsl (rowI s.worth) 0 s.worth.length, .int .i64 s.price], .agg [.int .i64 ((gainK s 1 1).1), .int .i64 ((gainK s 1 1).2.1)]] (.bool true), false = false, (decide ((gainK s 1 1).1 < 0)) = false, InR .i64 (10000 * (gainK s 1 1).2.1), (decide ((gainK s 1 1).1 > (10000 * (gainK s 1 1).2.1))) = false, InR .i64 1, true = true, InR .i64 0, (2 : Int) ≠ 0, InR .i64 1, (2 : Int) ≠ 0, InR .i64 2, PureF Try.prog (.clos 31 [] []) [.agg [.rsl (rowStg s.stages) 0 s.stages.length, .rsl (rowI s.worth) 0 s.worth.length, .int .i64 s.price], .int .i64 1, .int .i64 2] (.tup [.int .i64 ((gainK s 1 2).1), .int .i64 ((gainK s 1 2).2.1), .int .i64 ((gainK s 1 2).2.2)]), (0 : Int) ≤ 1 ∧ (1 : Int) < ((4 : Nat) : Int), 4 ≤ 8, ((gainK s 1 2).2.2 != 0) = false, (0 : Int) ≤ 1 ∧ (1 : Int) < ((4 : Nat) : Int), PureF Try.prog (.clos 32 [] []) [.agg [.rsl (rowStg s.stages) 0 s.stages.length, .rsl (rowI s.worth) 0 s.worth.length, .int .i64 s.price], .agg [.int .i64 ((gainK s 1 2).1), .int .i64 ((gainK s 1 2).2.1)]] (.bool true), false = false, (decide ((gainK s 1 2).1 < 0)) = false, InR .i64 (10000 * (gainK s 1 2).2.1), (decide ((gainK s 1 2).1 > (10000 * (gainK s 1 2).2.1))) = false, InR .i64 2, true = true, InR .i64 1, (2 : Int) ≠ 0, InR .i64 2, (2 : Int) ≠ 0, InR .i64 1, PureF Try.prog (.clos 31 [] []) [.agg [.rsl (rowStg s.stages) 0 s.stages.length, .rsl (rowI s.worth) 0 s.worth.length, .int .i64 s.price], .int .i64 2, .int .i64 1] (.tup [.int .i64 ((gainK s 2 1).1), .int .i64 ((gainK s 2 1).2.1), .int .i64 ((gainK s 2 1).2.2)]), (0 : Int) ≤ 2 ∧ (2 : Int) < ((4 : Nat) : Int), 6 ≤ 8, ((gainK s 2 1).2.2 != 0) = false, (0 : Int) ≤ 2 ∧ (2 : Int) < ((4 : Nat) : Int), PureF Try.prog (.clos 32 [] []) [.agg [.rsl (rowStg s.stages) 0 s.stages.length, .rsl (rowI s.worth) 0 s.worth.length, .int .i64 s.price], .agg [.int .i64 ((gainK s 2 1).1), .int .i64 ((gainK s 2 1).2.1)]] (.bool true), false = false, (decide ((gainK s 2 1).1 < 0)) = false, InR .i64 (10000 * (gainK s 2 1).2.1), (decide ((gainK s 2 1).1 > (10000 * (gainK s 2 1).2.1))) = false, InR .i64 3, true = true, InR .i64 1, (2 : Int) ≠ 0, InR .i64 2, (2 : Int) ≠ 0, InR .i64 2, PureF Try.prog (.clos 31 [] []) [.agg [.rsl (rowStg s.stages) 0 s.stages.length, .rsl (rowI s.worth) 0 s.worth.length, .int .i64 s.price], .int .i64 2, .int .i64 2] (.tup [.int .i64 ((gainK s 2 2).1), .int .i64 ((gainK s 2 2).2.1), .int .i64 ((gainK s 2 2).2.2)]), (0 : Int) ≤ 3 ∧ (3 : Int) < ((4 : Nat) : Int), 8 ≤ 8, ((gainK s 2 2).2.2 != 0) = false, (0 : Int) ≤ 3 ∧ (3 : Int) < ((4 : Nat) : Int), PureF Try.prog (.clos 32 [] []) [.agg [.rsl (rowStg s.stages) 0 s.stages.length, .rsl (rowI s.worth) 0 s.worth.length, .int .i64 s.price], .agg [.int .i64 ((gainK s 2 2).1), .int .i64 ((gainK s 2 2).2.1)]] (.bool true), false = false, (decide ((gainK s 2 2).1 < 0)) = false, InR .i64 (10000 * (gainK s 2 2).2.1), (decide ((gainK s 2 2).1 > (10000 * (gainK s 2 2).2.1))) = false, InR .i64 4, false = false, (0 : Int) ≤ 1 ∧ (1 : Int) < ((4 : Nat) : Int), (0 : Int) ≤ 0 ∧ (0 : Int) < ((4 : Nat) : Int), PureF Try.prog (.clos 23 [] []) [.agg [.rsl (rowStg s.stages) 0 s.stages.length, .rsl (rowI s.worth) 0 s.worth.length, .int .i64 s.price], .agg [.int .i64 ((gainK s 1 2).1), .int .i64 ((gainK s 1 2).2.1)], .agg [.int .i64 ((gainK s 1 1).1), .int .i64 ((gainK s 1 1).2.1)]] (.bool false), false = false, (0 : Int) ≤ 3 ∧ (3 : Int) < ((4 : Nat) : Int), (0 : Int) ≤ 2 ∧ (2 : Int) < ((4 : Nat) : Int), PureF Try.prog (.clos 23 [] []) [.agg [.rsl (rowStg s.stages) 0 s.stages.length, .rsl (rowI s.worth) 0 s.worth.length, .int .i64 s.price], .agg [.int .i64 ((gainK s 2 2).1), .int .i64 ((gainK s 2 2).2.1)], .agg [.int .i64 ((gainK s 2 1).1), .int .i64 ((gainK s 2 1).2.1)]] (.bool false), false = false, (0 : Int) ≤ 2 ∧ (2 : Int) < ((4 : Nat) : Int), (0 : Int) ≤ 0 ∧ (0 : Int) < ((4 : Nat) : Int), PureF Try.prog (.clos 23 [] []) [.agg [.rsl (rowStg s.stages) 0 s.stages.length, .rsl (rowI s.worth) 0 s.worth.length, .int .i64 s.price], .agg [.int .i64 ((gainK s 2 1).1), .int .i64 ((gainK s 2 1).2.1)], .agg [.int .i64 ((gainK s 1 1).1), .int .i64 ((gainK s 1 1).2.1)]] (.bool false), false = false, (0 : Int) ≤ 3 ∧ (3 : Int) < ((4 : Nat) : Int), (0 : Int) ≤ 1 ∧ (1 : Int) < ((4 : Nat) : Int), PureF Try.prog (.clos 23 [] []) [.agg [.rsl (rowStg s.stages) 0 s.stages.length, .rsl (rowI s.worth) 0 s.worth.length, .int .i64 s.price], .agg [.int .i64 ((gainK s 2 2).1), .int .i64 ((gainK s 2 2).2.1)], .agg [.int .i64 ((gainK s 1 2).1), .int .i64 ((gainK s 1 2).2.1)]] (.bool false), false = false, PureF Try.prog (.clos 33 [] []) [.agg [.rsl (rowStg s.stages) 0 s.stages.length, .rsl (rowI s.worth) 0 s.worth.length, .int .i64 s.price], .rsl (rowI plan) 0 plan.length] (.tup [.int .i64 ((worthyK s plan).1), .int .i64 ((worthyK s plan).2)]), (0 : Int) ≤ 0 ∧ (0 : Int) < ((4 : Nat) : Int), PureF Try.prog (.clos 23 [] []) [.agg [.rsl (rowStg s.stages) 0 s.stages.length, .rsl (rowI s.worth) 0 s.worth.length, .int .i64 s.price], .agg [.int .i64 ((worthyK s plan).1), .int .i64 ((worthyK s plan).2)], .agg [.int .i64 ((gainK s 1 1).1), .int .i64 ((gainK s 1 1).2.1)]] (.bool false), false = false, (0 : Int) ≤ 3 ∧ (3 : Int) < ((4 : Nat) : Int), PureF Try.prog (.clos 23 [] []) [.agg [.rsl (rowStg s.stages) 0 s.stages.length, .rsl (rowI s.worth) 0 s.worth.length, .int .i64 s.price], .agg [.int .i64 ((gainK s 2 2).1), .int .i64 ((gainK s 2 2).2.1)], .agg [.int .i64 ((worthyK s plan).1), .int .i64 ((worthyK s plan).2)]] (.bool false), false = false, PureF Try.prog (.clos 34 [] []) [.agg [.rsl (rowStg s.stages) 0 s.stages.length, .rsl (rowI s.worth) 0 s.worth.length, .int .i64 s.price]] (.tup [.int .i64 ((houseK s).1), .int .i64 ((houseK s).2.1), .int .i64 ((houseK s).2.2)]), ((houseK s).2.2 == 0) = false, false = false, false = false])
    (hr : AvLe (.bool false) res) : G Try.prog E [.code (bodyAt Try.prog 6)] ⟨[.agg [.rsl (rowStg s.stages) 0 s.stages.length, .rsl (rowI s.worth) 0 s.worth.length, .int .i64 s.price], .rsl (rowI plan) 0 plan.length] ++ unds (Try.f6.ntmps - 2), []⟩ :=
  end_stepL (n := 400) (evs := [.v (.int .i64 (planE s plan)), .b false, .b true, .v (.tup [.int .i64 ((gainK s 1 1).1), .int .i64 ((gainK s 1 1).2.1), .int .i64 ((gainK s 1 1).2.2)]), .b false, .v (.bool true), .b false, .b false, .b false, .b true, .v (.tup [.int .i64 ((gainK s 1 2).1), .int .i64 ((gainK s 1 2).2.1), .int .i64 ((gainK s 1 2).2.2)]), .b false, .v (.bool true), .b false, .b false, .b false, .b true, .v (.tup [.int .i64 ((gainK s 2 1).1), .int .i64 ((gainK s 2 1).2.1), .int .i64 ((gainK s 2 1).2.2)]), .b false, .v (.bool true), .b false, .b false, .b false, .b true, .v (.tup [.int .i64 ((gainK s 2 2).1), .int .i64 ((gainK s 2 2).2.1), .int .i64 ((gainK s 2 2).2.2)]), .b false, .v (.bool true), .b false, .b false, .b false, .b false, .v (.bool false), .b false, .v (.bool false), .b false, .v (.bool false), .b false, .v (.bool false), .b false, .v (.tup [.int .i64 ((worthyK s plan).1), .int .i64 ((worthyK s plan).2)]), .v (.bool false), .b false, .v (.bool false), .b false, .v (.tup [.int .i64 ((houseK s).1), .int .i64 ((houseK s).2.1), .int .i64 ((houseK s).2.2)]), .b false, .b false, .b false]) (obs := _) hE Try.func6 mixed (by kernel_rfl) ho hr
theorem f6W (s : Stl) (plan : (List Int)) {E : Env} {rv : Bool} (hE : PureE Try.prog 6 (.bool rv) E)
    (h : (((s.stages.length ≤ 9223372036854775807 ∧ s.worth.length ≤ 9223372036854775807) ∧ plan.length ≤ 9223372036854775807) ∧ ((¬ ((planE s plan) = 0) → rv = true) ∧ ((planE s plan) = 0 → ((s.stages.length ≤ 9223372036854775807 ∧ s.worth.length ≤ 9223372036854775807) ∧ ((¬ ((gainK s 1 1).2.2 = 0) → rv = false) ∧ ((gainK s 1 1).2.2 = 0 → ((checkK s = 0 ∧ FrOk s (⟨(gainK s 1 1).1, (gainK s 1 1).2.1⟩ : Fr)) ∧ (((gainK s 1 1).1 < 0 → rv = false) ∧ (¬ ((gainK s 1 1).1 < 0) → ((-9223372036854775808 ≤ 10000 * (gainK s 1 1).2.1 ∧ 10000 * (gainK s 1 1).2.1 ≤ 9223372036854775807) ∧ (((gainK s 1 1).1 > (10000 * (gainK s 1 1).2.1) → rv = false) ∧ (¬ ((gainK s 1 1).1 > (10000 * (gainK s 1 1).2.1)) → ((s.stages.length ≤ 9223372036854775807 ∧ s.worth.length ≤ 9223372036854775807) ∧ ((¬ ((gainK s 1 2).2.2 = 0) → rv = false) ∧ ((gainK s 1 2).2.2 = 0 → ((checkK s = 0 ∧ FrOk s (⟨(gainK s 1 2).1, (gainK s 1 2).2.1⟩ : Fr)) ∧ (((gainK s 1 2).1 < 0 → rv = false) ∧ (¬ ((gainK s 1 2).1 < 0) → ((-9223372036854775808 ≤ 10000 * (gainK s 1 2).2.1 ∧ 10000 * (gainK s 1 2).2.1 ≤ 9223372036854775807) ∧ (((gainK s 1 2).1 > (10000 * (gainK s 1 2).2.1) → rv = false) ∧ (¬ ((gainK s 1 2).1 > (10000 * (gainK s 1 2).2.1)) → ((s.stages.length ≤ 9223372036854775807 ∧ s.worth.length ≤ 9223372036854775807) ∧ ((¬ ((gainK s 2 1).2.2 = 0) → rv = false) ∧ ((gainK s 2 1).2.2 = 0 → ((checkK s = 0 ∧ FrOk s (⟨(gainK s 2 1).1, (gainK s 2 1).2.1⟩ : Fr)) ∧ (((gainK s 2 1).1 < 0 → rv = false) ∧ (¬ ((gainK s 2 1).1 < 0) → ((-9223372036854775808 ≤ 10000 * (gainK s 2 1).2.1 ∧ 10000 * (gainK s 2 1).2.1 ≤ 9223372036854775807) ∧ (((gainK s 2 1).1 > (10000 * (gainK s 2 1).2.1) → rv = false) ∧ (¬ ((gainK s 2 1).1 > (10000 * (gainK s 2 1).2.1)) → ((s.stages.length ≤ 9223372036854775807 ∧ s.worth.length ≤ 9223372036854775807) ∧ ((¬ ((gainK s 2 2).2.2 = 0) → rv = false) ∧ ((gainK s 2 2).2.2 = 0 → ((checkK s = 0 ∧ FrOk s (⟨(gainK s 2 2).1, (gainK s 2 2).2.1⟩ : Fr)) ∧ (((gainK s 2 2).1 < 0 → rv = false) ∧ (¬ ((gainK s 2 2).1 < 0) → ((-9223372036854775808 ≤ 10000 * (gainK s 2 2).2.1 ∧ 10000 * (gainK s 2 2).2.1 ≤ 9223372036854775807) ∧ (((gainK s 2 2).1 > (10000 * (gainK s 2 2).2.1) → rv = false) ∧ (¬ ((gainK s 2 2).1 > (10000 * (gainK s 2 2).2.1)) → ((checkK s = 0 ∧ FrOk s (⟨(gainK s 1 2).1, (gainK s 1 2).2.1⟩ : Fr) ∧ FrOk s (⟨(gainK s 1 1).1, (gainK s 1 1).2.1⟩ : Fr) ∧ FrV s (⟨(gainK s 1 1).1, (gainK s 1 1).2.1⟩ : Fr) ≤ FrV s (⟨(gainK s 1 2).1, (gainK s 1 2).2.1⟩ : Fr)) ∧ ((checkK s = 0 ∧ FrOk s (⟨(gainK s 2 2).1, (gainK s 2 2).2.1⟩ : Fr) ∧ FrOk s (⟨(gainK s 2 1).1, (gainK s 2 1).2.1⟩ : Fr) ∧ FrV s (⟨(gainK s 2 1).1, (gainK s 2 1).2.1⟩ : Fr) ≤ FrV s (⟨(gainK s 2 2).1, (gainK s 2 2).2.1⟩ : Fr)) ∧ ((checkK s = 0 ∧ FrOk s (⟨(gainK s 2 1).1, (gainK s 2 1).2.1⟩ : Fr) ∧ FrOk s (⟨(gainK s 1 1).1, (gainK s 1 1).2.1⟩ : Fr) ∧ FrV s (⟨(gainK s 1 1).1, (gainK s 1 1).2.1⟩ : Fr) ≤ FrV s (⟨(gainK s 2 1).1, (gainK s 2 1).2.1⟩ : Fr)) ∧ ((checkK s = 0 ∧ FrOk s (⟨(gainK s 2 2).1, (gainK s 2 2).2.1⟩ : Fr) ∧ FrOk s (⟨(gainK s 1 2).1, (gainK s 1 2).2.1⟩ : Fr) ∧ FrV s (⟨(gainK s 1 2).1, (gainK s 1 2).2.1⟩ : Fr) ≤ FrV s (⟨(gainK s 2 2).1, (gainK s 2 2).2.1⟩ : Fr)) ∧ ((checkK s = 0 ∧ planOk s plan = true) ∧ ((checkK s = 0 ∧ FrOk s (⟨(worthyK s plan).1, (worthyK s plan).2⟩ : Fr) ∧ FrOk s (⟨(gainK s 1 1).1, (gainK s 1 1).2.1⟩ : Fr) ∧ FrV s (⟨(gainK s 1 1).1, (gainK s 1 1).2.1⟩ : Fr) ≤ FrV s (⟨(worthyK s plan).1, (worthyK s plan).2⟩ : Fr)) ∧ ((checkK s = 0 ∧ FrOk s (⟨(gainK s 2 2).1, (gainK s 2 2).2.1⟩ : Fr) ∧ FrOk s (⟨(worthyK s plan).1, (worthyK s plan).2⟩ : Fr) ∧ FrV s (⟨(worthyK s plan).1, (worthyK s plan).2⟩ : Fr) ≤ FrV s (⟨(gainK s 2 2).1, (gainK s 2 2).2.1⟩ : Fr)) ∧ ((s.stages.length ≤ 9223372036854775807 ∧ s.worth.length ≤ 9223372036854775807) ∧ (((houseK s).2.2 = 0 → (((houseK s).2.1 = (gainK s 2 1).2.1 → ((-9223372036854775808 ≤ s.price * (houseK s).2.1 ∧ s.price * (houseK s).2.1 ≤ 9223372036854775807) ∧ ((-9223372036854775808 ≤ (s.price * (houseK s).2.1) - (gainK s 2 1).1 ∧ (s.price * (houseK s).2.1) - (gainK s 2 1).1 ≤ 9223372036854775807) ∧ (((houseK s).1 = ((s.price * (houseK s).2.1) - (gainK s 2 1).1) → rv = true) ∧ (¬ ((houseK s).1 = ((s.price * (houseK s).2.1) - (gainK s 2 1).1)) → rv = false))))) ∧ (¬ ((houseK s).2.1 = (gainK s 2 1).2.1) → rv = false))) ∧ (¬ ((houseK s).2.2 = 0) → rv = false)))))))))))))))))))))))))))))))))))))))))))))))))) : G Try.prog E [.code (bodyAt Try.prog 6)] ⟨[.agg [.rsl (rowStg s.stages) 0 s.stages.length, .rsl (rowI s.worth) 0 s.worth.length, .int .i64 s.price], .rsl (rowI plan) 0 plan.length] ++ unds (Try.f6.ntmps - 2), []⟩ := by
  obtain ⟨h1, h⟩ := h
  rcases Bool.eq_false_or_eq_true ((planE s plan) != 0) with hc0 | hc0
  · have h := h.1 (bneT hc0)
    exact p6_start_0 s plan    hE ⟨(pureF_of Try.func30 (by kernel_rfl) f30b (planE_ok s plan h1)), hc0, (pureF_of Try.func20 (by kernel_rfl) f20b works_ok), trivial⟩ (AvLe.of_eq (by rw [h]; try rfl))
  · have h := h.2 (bneF hc0)
    obtain ⟨h2, h⟩ := h
    rcases Bool.eq_false_or_eq_true ((gainK s 1 1).2.2 != 0) with hc1 | hc1
    · have h := h.1 (bneT hc1)
      exact p6_start_1 s plan    hE ⟨(pureF_of Try.func30 (by kernel_rfl) f30b (planE_ok s plan h1)), hc0, rfl, (⟨by decide, by decide⟩), (by decide), (⟨by decide, by decide⟩), (by decide), (⟨by decide, by decide⟩), (pureF_of Try.func31 (by kernel_rfl) f31b (gain_ok s 1 1 h2)), (⟨by decide, by decide⟩), (by decide), hc1, rfl, rfl, rfl, trivial⟩ (AvLe.of_eq (by rw [h]; try rfl))
    · have h := h.2 (bneF hc1)
      obtain ⟨h3, h⟩ := h
      rcases Bool.eq_false_or_eq_true (decide ((gainK s 1 1).1 < 0)) with hc2 | hc2
      · have h := h.1 (of_decide_eq_true hc2)
        exact p6_start_2 s plan    hE ⟨(pureF_of Try.func30 (by kernel_rfl) f30b (planE_ok s plan h1)), hc0, rfl, (⟨by decide, by decide⟩), (by decide), (⟨by decide, by decide⟩), (by decide), (⟨by decide, by decide⟩), (pureF_of Try.func31 (by kernel_rfl) f31b (gain_ok s 1 1 h2)), (⟨by decide, by decide⟩), (by decide), hc1, (⟨by decide, by decide⟩), (pureF_of Try.func32 (by kernel_rfl) f32b (divides_ok s (⟨(gainK s 1 1).1, (gainK s 1 1).2.1⟩ : Fr) h3)), rfl, hc2, rfl, trivial⟩ (AvLe.of_eq (by rw [h]; try rfl))
      · have h := h.2 (of_decide_eq_false hc2)
        obtain ⟨q16_3, h⟩ := h
        rcases Bool.eq_false_or_eq_true (decide ((gainK s 1 1).1 > (10000 * (gainK s 1 1).2.1))) with hc3 | hc3
        · have h := h.1 (of_decide_eq_true hc3)
          exact p6_start_3 s plan    hE ⟨(pureF_of Try.func30 (by kernel_rfl) f30b (planE_ok s plan h1)), hc0, rfl, (⟨by decide, by decide⟩), (by decide), (⟨by decide, by decide⟩), (by decide), (⟨by decide, by decide⟩), (pureF_of Try.func31 (by kernel_rfl) f31b (gain_ok s 1 1 h2)), (⟨by decide, by decide⟩), (by decide), hc1, (⟨by decide, by decide⟩), (pureF_of Try.func32 (by kernel_rfl) f32b (divides_ok s (⟨(gainK s 1 1).1, (gainK s 1 1).2.1⟩ : Fr) h3)), rfl, hc2, q16_3, hc3, trivial⟩ (AvLe.of_eq (by rw [h]; try rfl))
        · have h := h.2 (of_decide_eq_false hc3)
          obtain ⟨h4, h⟩ := h
          rcases Bool.eq_false_or_eq_true ((gainK s 1 2).2.2 != 0) with hc4 | hc4
          · have h := h.1 (bneT hc4)
            exact p6_start_4 s plan    hE ⟨(pureF_of Try.func30 (by kernel_rfl) f30b (planE_ok s plan h1)), hc0, rfl, (⟨by decide, by decide⟩), (by decide), (⟨by decide, by decide⟩), (by decide), (⟨by decide, by decide⟩), (pureF_of Try.func31 (by kernel_rfl) f31b (gain_ok s 1 1 h2)), (⟨by decide, by decide⟩), (by decide), hc1, (⟨by decide, by decide⟩), (pureF_of Try.func32 (by kernel_rfl) f32b (divides_ok s (⟨(gainK s 1 1).1, (gainK s 1 1).2.1⟩ : Fr) h3)), rfl, hc2, q16_3, hc3, (⟨by decide, by decide⟩), rfl, (⟨by decide, by decide⟩), (by decide), (⟨by decide, by decide⟩), (by decide), (⟨by decide, by decide⟩), (pureF_of Try.func31 (by kernel_rfl) f31b (gain_ok s 1 2 h4)), (⟨by decide, by decide⟩), (by decide), hc4, rfl, rfl, rfl, trivial⟩ (AvLe.of_eq (by rw [h]; try rfl))
          · have h := h.2 (bneF hc4)
            obtain ⟨h5, h⟩ := h
            rcases Bool.eq_false_or_eq_true (decide ((gainK s 1 2).1 < 0)) with hc5 | hc5
            · have h := h.1 (of_decide_eq_true hc5)
              exact p6_start_5 s plan    hE ⟨(pureF_of Try.func30 (by kernel_rfl) f30b (planE_ok s plan h1)), hc0, rfl, (⟨by decide, by decide⟩), (by decide), (⟨by decide, by decide⟩), (by decide), (⟨by decide, by decide⟩), (pureF_of Try.func31 (by kernel_rfl) f31b (gain_ok s 1 1 h2)), (⟨by decide, by decide⟩), (by decide), hc1, (⟨by decide, by decide⟩), (pureF_of Try.func32 (by kernel_rfl) f32b (divides_ok s (⟨(gainK s 1 1).1, (gainK s 1 1).2.1⟩ : Fr) h3)), rfl, hc2, q16_3, hc3, (⟨by decide, by decide⟩), rfl, (⟨by decide, by decide⟩), (by decide), (⟨by decide, by decide⟩), (by decide), (⟨by decide, by decide⟩), (pureF_of Try.func31 (by kernel_rfl) f31b (gain_ok s 1 2 h4)), (⟨by decide, by decide⟩), (by decide), hc4, (⟨by decide, by decide⟩), (pureF_of Try.func32 (by kernel_rfl) f32b (divides_ok s (⟨(gainK s 1 2).1, (gainK s 1 2).2.1⟩ : Fr) h5)), rfl, hc5, rfl, trivial⟩ (AvLe.of_eq (by rw [h]; try rfl))
            · have h := h.2 (of_decide_eq_false hc5)
              obtain ⟨q33_6, h⟩ := h
              rcases Bool.eq_false_or_eq_true (decide ((gainK s 1 2).1 > (10000 * (gainK s 1 2).2.1))) with hc6 | hc6
              · have h := h.1 (of_decide_eq_true hc6)
                exact p6_start_6 s plan    hE ⟨(pureF_of Try.func30 (by kernel_rfl) f30b (planE_ok s plan h1)), hc0, rfl, (⟨by decide, by decide⟩), (by decide), (⟨by decide, by decide⟩), (by decide), (⟨by decide, by decide⟩), (pureF_of Try.func31 (by kernel_rfl) f31b (gain_ok s 1 1 h2)), (⟨by decide, by decide⟩), (by decide), hc1, (⟨by decide, by decide⟩), (pureF_of Try.func32 (by kernel_rfl) f32b (divides_ok s (⟨(gainK s 1 1).1, (gainK s 1 1).2.1⟩ : Fr) h3)), rfl, hc2, q16_3, hc3, (⟨by decide, by decide⟩), rfl, (⟨by decide, by decide⟩), (by decide), (⟨by decide, by decide⟩), (by decide), (⟨by decide, by decide⟩), (pureF_of Try.func31 (by kernel_rfl) f31b (gain_ok s 1 2 h4)), (⟨by decide, by decide⟩), (by decide), hc4, (⟨by decide, by decide⟩), (pureF_of Try.func32 (by kernel_rfl) f32b (divides_ok s (⟨(gainK s 1 2).1, (gainK s 1 2).2.1⟩ : Fr) h5)), rfl, hc5, q33_6, hc6, trivial⟩ (AvLe.of_eq (by rw [h]; try rfl))
              · have h := h.2 (of_decide_eq_false hc6)
                obtain ⟨h6, h⟩ := h
                rcases Bool.eq_false_or_eq_true ((gainK s 2 1).2.2 != 0) with hc7 | hc7
                · have h := h.1 (bneT hc7)
                  exact p6_start_7 s plan    hE ⟨(pureF_of Try.func30 (by kernel_rfl) f30b (planE_ok s plan h1)), hc0, rfl, (⟨by decide, by decide⟩), (by decide), (⟨by decide, by decide⟩), (by decide), (⟨by decide, by decide⟩), (pureF_of Try.func31 (by kernel_rfl) f31b (gain_ok s 1 1 h2)), (⟨by decide, by decide⟩), (by decide), hc1, (⟨by decide, by decide⟩), (pureF_of Try.func32 (by kernel_rfl) f32b (divides_ok s (⟨(gainK s 1 1).1, (gainK s 1 1).2.1⟩ : Fr) h3)), rfl, hc2, q16_3, hc3, (⟨by decide, by decide⟩), rfl, (⟨by decide, by decide⟩), (by decide), (⟨by decide, by decide⟩), (by decide), (⟨by decide, by decide⟩), (pureF_of Try.func31 (by kernel_rfl) f31b (gain_ok s 1 2 h4)), (⟨by decide, by decide⟩), (by decide), hc4, (⟨by decide, by decide⟩), (pureF_of Try.func32 (by kernel_rfl) f32b (divides_ok s (⟨(gainK s 1 2).1, (gainK s 1 2).2.1⟩ : Fr) h5)), rfl, hc5, q33_6, hc6, (⟨by decide, by decide⟩), rfl, (⟨by decide, by decide⟩), (by decide), (⟨by decide, by decide⟩), (by decide), (⟨by decide, by decide⟩), (pureF_of Try.func31 (by kernel_rfl) f31b (gain_ok s 2 1 h6)), (⟨by decide, by decide⟩), (by decide), hc7, rfl, rfl, rfl, trivial⟩ (AvLe.of_eq (by rw [h]; try rfl))
                · have h := h.2 (bneF hc7)
                  obtain ⟨h7, h⟩ := h
                  rcases Bool.eq_false_or_eq_true (decide ((gainK s 2 1).1 < 0)) with hc8 | hc8
                  · have h := h.1 (of_decide_eq_true hc8)
                    exact p6_start_8 s plan    hE ⟨(pureF_of Try.func30 (by kernel_rfl) f30b (planE_ok s plan h1)), hc0, rfl, (⟨by decide, by decide⟩), (by decide), (⟨by decide, by decide⟩), (by decide), (⟨by decide, by decide⟩), (pureF_of Try.func31 (by kernel_rfl) f31b (gain_ok s 1 1 h2)), (⟨by decide, by decide⟩), (by decide), hc1, (⟨by decide, by decide⟩), (pureF_of Try.func32 (by kernel_rfl) f32b (divides_ok s (⟨(gainK s 1 1).1, (gainK s 1 1).2.1⟩ : Fr) h3)), rfl, hc2, q16_3, hc3, (⟨by decide, by decide⟩), rfl, (⟨by decide, by decide⟩), (by decide), (⟨by decide, by decide⟩), (by decide), (⟨by decide, by decide⟩), (pureF_of Try.func31 (by kernel_rfl) f31b (gain_ok s 1 2 h4)), (⟨by decide, by decide⟩), (by decide), hc4, (⟨by decide, by decide⟩), (pureF_of Try.func32 (by kernel_rfl) f32b (divides_ok s (⟨(gainK s 1 2).1, (gainK s 1 2).2.1⟩ : Fr) h5)), rfl, hc5, q33_6, hc6, (⟨by decide, by decide⟩), rfl, (⟨by decide, by decide⟩), (by decide), (⟨by decide, by decide⟩), (by decide), (⟨by decide, by decide⟩), (pureF_of Try.func31 (by kernel_rfl) f31b (gain_ok s 2 1 h6)), (⟨by decide, by decide⟩), (by decide), hc7, (⟨by decide, by decide⟩), (pureF_of Try.func32 (by kernel_rfl) f32b (divides_ok s (⟨(gainK s 2 1).1, (gainK s 2 1).2.1⟩ : Fr) h7)), rfl, hc8, rfl, trivial⟩ (AvLe.of_eq (by rw [h]; try rfl))
                  · have h := h.2 (of_decide_eq_false hc8)
                    obtain ⟨q50_9, h⟩ := h
                    rcases Bool.eq_false_or_eq_true (decide ((gainK s 2 1).1 > (10000 * (gainK s 2 1).2.1))) with hc9 | hc9
                    · have h := h.1 (of_decide_eq_true hc9)
                      exact p6_start_9 s plan    hE ⟨(pureF_of Try.func30 (by kernel_rfl) f30b (planE_ok s plan h1)), hc0, rfl, (⟨by decide, by decide⟩), (by decide), (⟨by decide, by decide⟩), (by decide), (⟨by decide, by decide⟩), (pureF_of Try.func31 (by kernel_rfl) f31b (gain_ok s 1 1 h2)), (⟨by decide, by decide⟩), (by decide), hc1, (⟨by decide, by decide⟩), (pureF_of Try.func32 (by kernel_rfl) f32b (divides_ok s (⟨(gainK s 1 1).1, (gainK s 1 1).2.1⟩ : Fr) h3)), rfl, hc2, q16_3, hc3, (⟨by decide, by decide⟩), rfl, (⟨by decide, by decide⟩), (by decide), (⟨by decide, by decide⟩), (by decide), (⟨by decide, by decide⟩), (pureF_of Try.func31 (by kernel_rfl) f31b (gain_ok s 1 2 h4)), (⟨by decide, by decide⟩), (by decide), hc4, (⟨by decide, by decide⟩), (pureF_of Try.func32 (by kernel_rfl) f32b (divides_ok s (⟨(gainK s 1 2).1, (gainK s 1 2).2.1⟩ : Fr) h5)), rfl, hc5, q33_6, hc6, (⟨by decide, by decide⟩), rfl, (⟨by decide, by decide⟩), (by decide), (⟨by decide, by decide⟩), (by decide), (⟨by decide, by decide⟩), (pureF_of Try.func31 (by kernel_rfl) f31b (gain_ok s 2 1 h6)), (⟨by decide, by decide⟩), (by decide), hc7, (⟨by decide, by decide⟩), (pureF_of Try.func32 (by kernel_rfl) f32b (divides_ok s (⟨(gainK s 2 1).1, (gainK s 2 1).2.1⟩ : Fr) h7)), rfl, hc8, q50_9, hc9, trivial⟩ (AvLe.of_eq (by rw [h]; try rfl))
                    · have h := h.2 (of_decide_eq_false hc9)
                      obtain ⟨h8, h⟩ := h
                      rcases Bool.eq_false_or_eq_true ((gainK s 2 2).2.2 != 0) with hc10 | hc10
                      · have h := h.1 (bneT hc10)
                        exact p6_start_10 s plan    hE ⟨(pureF_of Try.func30 (by kernel_rfl) f30b (planE_ok s plan h1)), hc0, rfl, (⟨by decide, by decide⟩), (by decide), (⟨by decide, by decide⟩), (by decide), (⟨by decide, by decide⟩), (pureF_of Try.func31 (by kernel_rfl) f31b (gain_ok s 1 1 h2)), (⟨by decide, by decide⟩), (by decide), hc1, (⟨by decide, by decide⟩), (pureF_of Try.func32 (by kernel_rfl) f32b (divides_ok s (⟨(gainK s 1 1).1, (gainK s 1 1).2.1⟩ : Fr) h3)), rfl, hc2, q16_3, hc3, (⟨by decide, by decide⟩), rfl, (⟨by decide, by decide⟩), (by decide), (⟨by decide, by decide⟩), (by decide), (⟨by decide, by decide⟩), (pureF_of Try.func31 (by kernel_rfl) f31b (gain_ok s 1 2 h4)), (⟨by decide, by decide⟩), (by decide), hc4, (⟨by decide, by decide⟩), (pureF_of Try.func32 (by kernel_rfl) f32b (divides_ok s (⟨(gainK s 1 2).1, (gainK s 1 2).2.1⟩ : Fr) h5)), rfl, hc5, q33_6, hc6, (⟨by decide, by decide⟩), rfl, (⟨by decide, by decide⟩), (by decide), (⟨by decide, by decide⟩), (by decide), (⟨by decide, by decide⟩), (pureF_of Try.func31 (by kernel_rfl) f31b (gain_ok s 2 1 h6)), (⟨by decide, by decide⟩), (by decide), hc7, (⟨by decide, by decide⟩), (pureF_of Try.func32 (by kernel_rfl) f32b (divides_ok s (⟨(gainK s 2 1).1, (gainK s 2 1).2.1⟩ : Fr) h7)), rfl, hc8, q50_9, hc9, (⟨by decide, by decide⟩), rfl, (⟨by decide, by decide⟩), (by decide), (⟨by decide, by decide⟩), (by decide), (⟨by decide, by decide⟩), (pureF_of Try.func31 (by kernel_rfl) f31b (gain_ok s 2 2 h8)), (⟨by decide, by decide⟩), (by decide), hc10, rfl, rfl, rfl, trivial⟩ (AvLe.of_eq (by rw [h]; try rfl))
                      · have h := h.2 (bneF hc10)
                        obtain ⟨h9, h⟩ := h
                        rcases Bool.eq_false_or_eq_true (decide ((gainK s 2 2).1 < 0)) with hc11 | hc11
                        · have h := h.1 (of_decide_eq_true hc11)
                          exact p6_start_11 s plan    hE ⟨(pureF_of Try.func30 (by kernel_rfl) f30b (planE_ok s plan h1)), hc0, rfl, (⟨by decide, by decide⟩), (by decide), (⟨by decide, by decide⟩), (by decide), (⟨by decide, by decide⟩), (pureF_of Try.func31 (by kernel_rfl) f31b (gain_ok s 1 1 h2)), (⟨by decide, by decide⟩), (by decide), hc1, (⟨by decide, by decide⟩), (pureF_of Try.func32 (by kernel_rfl) f32b (divides_ok s (⟨(gainK s 1 1).1, (gainK s 1 1).2.1⟩ : Fr) h3)), rfl, hc2, q16_3, hc3, (⟨by decide, by decide⟩), rfl, (⟨by decide, by decide⟩), (by decide), (⟨by decide, by decide⟩), (by decide), (⟨by decide, by decide⟩), (pureF_of Try.func31 (by kernel_rfl) f31b (gain_ok s 1 2 h4)), (⟨by decide, by decide⟩), (by decide), hc4, (⟨by decide, by decide⟩), (pureF_of Try.func32 (by kernel_rfl) f32b (divides_ok s (⟨(gainK s 1 2).1, (gainK s 1 2).2.1⟩ : Fr) h5)), rfl, hc5, q33_6, hc6, (⟨by decide, by decide⟩), rfl, (⟨by decide, by decide⟩), (by decide), (⟨by decide, by decide⟩), (by decide), (⟨by decide, by decide⟩), (pureF_of Try.func31 (by kernel_rfl) f31b (gain_ok s 2 1 h6)), (⟨by decide, by decide⟩), (by decide), hc7, (⟨by decide, by decide⟩), (pureF_of Try.func32 (by kernel_rfl) f32b (divides_ok s (⟨(gainK s 2 1).1, (gainK s 2 1).2.1⟩ : Fr) h7)), rfl, hc8, q50_9, hc9, (⟨by decide, by decide⟩), rfl, (⟨by decide, by decide⟩), (by decide), (⟨by decide, by decide⟩), (by decide), (⟨by decide, by decide⟩), (pureF_of Try.func31 (by kernel_rfl) f31b (gain_ok s 2 2 h8)), (⟨by decide, by decide⟩), (by decide), hc10, (⟨by decide, by decide⟩), (pureF_of Try.func32 (by kernel_rfl) f32b (divides_ok s (⟨(gainK s 2 2).1, (gainK s 2 2).2.1⟩ : Fr) h9)), rfl, hc11, rfl, trivial⟩ (AvLe.of_eq (by rw [h]; try rfl))
                        · have h := h.2 (of_decide_eq_false hc11)
                          obtain ⟨q67_12, h⟩ := h
                          rcases Bool.eq_false_or_eq_true (decide ((gainK s 2 2).1 > (10000 * (gainK s 2 2).2.1))) with hc12 | hc12
                          · have h := h.1 (of_decide_eq_true hc12)
                            exact p6_start_12 s plan    hE ⟨(pureF_of Try.func30 (by kernel_rfl) f30b (planE_ok s plan h1)), hc0, rfl, (⟨by decide, by decide⟩), (by decide), (⟨by decide, by decide⟩), (by decide), (⟨by decide, by decide⟩), (pureF_of Try.func31 (by kernel_rfl) f31b (gain_ok s 1 1 h2)), (⟨by decide, by decide⟩), (by decide), hc1, (⟨by decide, by decide⟩), (pureF_of Try.func32 (by kernel_rfl) f32b (divides_ok s (⟨(gainK s 1 1).1, (gainK s 1 1).2.1⟩ : Fr) h3)), rfl, hc2, q16_3, hc3, (⟨by decide, by decide⟩), rfl, (⟨by decide, by decide⟩), (by decide), (⟨by decide, by decide⟩), (by decide), (⟨by decide, by decide⟩), (pureF_of Try.func31 (by kernel_rfl) f31b (gain_ok s 1 2 h4)), (⟨by decide, by decide⟩), (by decide), hc4, (⟨by decide, by decide⟩), (pureF_of Try.func32 (by kernel_rfl) f32b (divides_ok s (⟨(gainK s 1 2).1, (gainK s 1 2).2.1⟩ : Fr) h5)), rfl, hc5, q33_6, hc6, (⟨by decide, by decide⟩), rfl, (⟨by decide, by decide⟩), (by decide), (⟨by decide, by decide⟩), (by decide), (⟨by decide, by decide⟩), (pureF_of Try.func31 (by kernel_rfl) f31b (gain_ok s 2 1 h6)), (⟨by decide, by decide⟩), (by decide), hc7, (⟨by decide, by decide⟩), (pureF_of Try.func32 (by kernel_rfl) f32b (divides_ok s (⟨(gainK s 2 1).1, (gainK s 2 1).2.1⟩ : Fr) h7)), rfl, hc8, q50_9, hc9, (⟨by decide, by decide⟩), rfl, (⟨by decide, by decide⟩), (by decide), (⟨by decide, by decide⟩), (by decide), (⟨by decide, by decide⟩), (pureF_of Try.func31 (by kernel_rfl) f31b (gain_ok s 2 2 h8)), (⟨by decide, by decide⟩), (by decide), hc10, (⟨by decide, by decide⟩), (pureF_of Try.func32 (by kernel_rfl) f32b (divides_ok s (⟨(gainK s 2 2).1, (gainK s 2 2).2.1⟩ : Fr) h9)), rfl, hc11, q67_12, hc12, trivial⟩ (AvLe.of_eq (by rw [h]; try rfl))
                          · have h := h.2 (of_decide_eq_false hc12)
                            obtain ⟨h10, h⟩ := h
                            obtain ⟨h11, h⟩ := h
                            obtain ⟨h12, h⟩ := h
                            obtain ⟨h13, h⟩ := h
                            obtain ⟨h14, h⟩ := h
                            obtain ⟨h15, h⟩ := h
                            obtain ⟨h16, h⟩ := h
                            obtain ⟨h17, h⟩ := h
                            rcases Bool.eq_false_or_eq_true ((houseK s).2.2 == 0) with hc13 | hc13
                            · have h := h.1 (eq_of_beq hc13)
                              rcases Bool.eq_false_or_eq_true ((houseK s).2.1 == (gainK s 2 1).2.1) with hc14 | hc14
                              · have h := h.1 (eq_of_beq hc14)
                                obtain ⟨q99_15, h⟩ := h
                                obtain ⟨q102_15, h⟩ := h
                                rcases Bool.eq_false_or_eq_true ((houseK s).1 == ((s.price * (houseK s).2.1) - (gainK s 2 1).1)) with hc15 | hc15
                                · have h := h.1 (eq_of_beq hc15)
                                  exact p6_start_13 s plan    hE ⟨(pureF_of Try.func30 (by kernel_rfl) f30b (planE_ok s plan h1)), hc0, rfl, (⟨by decide, by decide⟩), (by decide), (⟨by decide, by decide⟩), (by decide), (⟨by decide, by decide⟩), (pureF_of Try.func31 (by kernel_rfl) f31b (gain_ok s 1 1 h2)), (⟨by decide, by decide⟩), (by decide), hc1, (⟨by decide, by decide⟩), (pureF_of Try.func32 (by kernel_rfl) f32b (divides_ok s (⟨(gainK s 1 1).1, (gainK s 1 1).2.1⟩ : Fr) h3)), rfl, hc2, q16_3, hc3, (⟨by decide, by decide⟩), rfl, (⟨by decide, by decide⟩), (by decide), (⟨by decide, by decide⟩), (by decide), (⟨by decide, by decide⟩), (pureF_of Try.func31 (by kernel_rfl) f31b (gain_ok s 1 2 h4)), (⟨by decide, by decide⟩), (by decide), hc4, (⟨by decide, by decide⟩), (pureF_of Try.func32 (by kernel_rfl) f32b (divides_ok s (⟨(gainK s 1 2).1, (gainK s 1 2).2.1⟩ : Fr) h5)), rfl, hc5, q33_6, hc6, (⟨by decide, by decide⟩), rfl, (⟨by decide, by decide⟩), (by decide), (⟨by decide, by decide⟩), (by decide), (⟨by decide, by decide⟩), (pureF_of Try.func31 (by kernel_rfl) f31b (gain_ok s 2 1 h6)), (⟨by decide, by decide⟩), (by decide), hc7, (⟨by decide, by decide⟩), (pureF_of Try.func32 (by kernel_rfl) f32b (divides_ok s (⟨(gainK s 2 1).1, (gainK s 2 1).2.1⟩ : Fr) h7)), rfl, hc8, q50_9, hc9, (⟨by decide, by decide⟩), rfl, (⟨by decide, by decide⟩), (by decide), (⟨by decide, by decide⟩), (by decide), (⟨by decide, by decide⟩), (pureF_of Try.func31 (by kernel_rfl) f31b (gain_ok s 2 2 h8)), (⟨by decide, by decide⟩), (by decide), hc10, (⟨by decide, by decide⟩), (pureF_of Try.func32 (by kernel_rfl) f32b (divides_ok s (⟨(gainK s 2 2).1, (gainK s 2 2).2.1⟩ : Fr) h9)), rfl, hc11, q67_12, hc12, (⟨by decide, by decide⟩), rfl, (⟨by decide, by decide⟩), (⟨by decide, by decide⟩), (pureF_of Try.func23 (by kernel_rfl) f23b (less_ok s (⟨(gainK s 1 2).1, (gainK s 1 2).2.1⟩ : Fr) (⟨(gainK s 1 1).1, (gainK s 1 1).2.1⟩ : Fr) h10)), rfl, (⟨by decide, by decide⟩), (⟨by decide, by decide⟩), (pureF_of Try.func23 (by kernel_rfl) f23b (less_ok s (⟨(gainK s 2 2).1, (gainK s 2 2).2.1⟩ : Fr) (⟨(gainK s 2 1).1, (gainK s 2 1).2.1⟩ : Fr) h11)), rfl, (⟨by decide, by decide⟩), (⟨by decide, by decide⟩), (pureF_of Try.func23 (by kernel_rfl) f23b (less_ok s (⟨(gainK s 2 1).1, (gainK s 2 1).2.1⟩ : Fr) (⟨(gainK s 1 1).1, (gainK s 1 1).2.1⟩ : Fr) h12)), rfl, (⟨by decide, by decide⟩), (⟨by decide, by decide⟩), (pureF_of Try.func23 (by kernel_rfl) f23b (less_ok s (⟨(gainK s 2 2).1, (gainK s 2 2).2.1⟩ : Fr) (⟨(gainK s 1 2).1, (gainK s 1 2).2.1⟩ : Fr) h13)), rfl, (pureF_of Try.func33 (by kernel_rfl) f33b (worthy_ok s plan h14)), (⟨by decide, by decide⟩), (pureF_of Try.func23 (by kernel_rfl) f23b (less_ok s (⟨(worthyK s plan).1, (worthyK s plan).2⟩ : Fr) (⟨(gainK s 1 1).1, (gainK s 1 1).2.1⟩ : Fr) h15)), rfl, (⟨by decide, by decide⟩), (pureF_of Try.func23 (by kernel_rfl) f23b (less_ok s (⟨(gainK s 2 2).1, (gainK s 2 2).2.1⟩ : Fr) (⟨(worthyK s plan).1, (worthyK s plan).2⟩ : Fr) h16)), rfl, (pureF_of Try.func34 (by kernel_rfl) f34b (house_ok s h17)), hc13, (⟨by decide, by decide⟩), (⟨by decide, by decide⟩), hc14, q99_15, (⟨by decide, by decide⟩), (⟨by decide, by decide⟩), q102_15, hc15, (pureF_of Try.func20 (by kernel_rfl) f20b works_ok), trivial⟩ (AvLe.of_eq (by rw [h]; try rfl))
                                · have h := h.2 (ne_of_beq_false hc15)
                                  exact p6_start_14 s plan    hE ⟨(pureF_of Try.func30 (by kernel_rfl) f30b (planE_ok s plan h1)), hc0, rfl, (⟨by decide, by decide⟩), (by decide), (⟨by decide, by decide⟩), (by decide), (⟨by decide, by decide⟩), (pureF_of Try.func31 (by kernel_rfl) f31b (gain_ok s 1 1 h2)), (⟨by decide, by decide⟩), (by decide), hc1, (⟨by decide, by decide⟩), (pureF_of Try.func32 (by kernel_rfl) f32b (divides_ok s (⟨(gainK s 1 1).1, (gainK s 1 1).2.1⟩ : Fr) h3)), rfl, hc2, q16_3, hc3, (⟨by decide, by decide⟩), rfl, (⟨by decide, by decide⟩), (by decide), (⟨by decide, by decide⟩), (by decide), (⟨by decide, by decide⟩), (pureF_of Try.func31 (by kernel_rfl) f31b (gain_ok s 1 2 h4)), (⟨by decide, by decide⟩), (by decide), hc4, (⟨by decide, by decide⟩), (pureF_of Try.func32 (by kernel_rfl) f32b (divides_ok s (⟨(gainK s 1 2).1, (gainK s 1 2).2.1⟩ : Fr) h5)), rfl, hc5, q33_6, hc6, (⟨by decide, by decide⟩), rfl, (⟨by decide, by decide⟩), (by decide), (⟨by decide, by decide⟩), (by decide), (⟨by decide, by decide⟩), (pureF_of Try.func31 (by kernel_rfl) f31b (gain_ok s 2 1 h6)), (⟨by decide, by decide⟩), (by decide), hc7, (⟨by decide, by decide⟩), (pureF_of Try.func32 (by kernel_rfl) f32b (divides_ok s (⟨(gainK s 2 1).1, (gainK s 2 1).2.1⟩ : Fr) h7)), rfl, hc8, q50_9, hc9, (⟨by decide, by decide⟩), rfl, (⟨by decide, by decide⟩), (by decide), (⟨by decide, by decide⟩), (by decide), (⟨by decide, by decide⟩), (pureF_of Try.func31 (by kernel_rfl) f31b (gain_ok s 2 2 h8)), (⟨by decide, by decide⟩), (by decide), hc10, (⟨by decide, by decide⟩), (pureF_of Try.func32 (by kernel_rfl) f32b (divides_ok s (⟨(gainK s 2 2).1, (gainK s 2 2).2.1⟩ : Fr) h9)), rfl, hc11, q67_12, hc12, (⟨by decide, by decide⟩), rfl, (⟨by decide, by decide⟩), (⟨by decide, by decide⟩), (pureF_of Try.func23 (by kernel_rfl) f23b (less_ok s (⟨(gainK s 1 2).1, (gainK s 1 2).2.1⟩ : Fr) (⟨(gainK s 1 1).1, (gainK s 1 1).2.1⟩ : Fr) h10)), rfl, (⟨by decide, by decide⟩), (⟨by decide, by decide⟩), (pureF_of Try.func23 (by kernel_rfl) f23b (less_ok s (⟨(gainK s 2 2).1, (gainK s 2 2).2.1⟩ : Fr) (⟨(gainK s 2 1).1, (gainK s 2 1).2.1⟩ : Fr) h11)), rfl, (⟨by decide, by decide⟩), (⟨by decide, by decide⟩), (pureF_of Try.func23 (by kernel_rfl) f23b (less_ok s (⟨(gainK s 2 1).1, (gainK s 2 1).2.1⟩ : Fr) (⟨(gainK s 1 1).1, (gainK s 1 1).2.1⟩ : Fr) h12)), rfl, (⟨by decide, by decide⟩), (⟨by decide, by decide⟩), (pureF_of Try.func23 (by kernel_rfl) f23b (less_ok s (⟨(gainK s 2 2).1, (gainK s 2 2).2.1⟩ : Fr) (⟨(gainK s 1 2).1, (gainK s 1 2).2.1⟩ : Fr) h13)), rfl, (pureF_of Try.func33 (by kernel_rfl) f33b (worthy_ok s plan h14)), (⟨by decide, by decide⟩), (pureF_of Try.func23 (by kernel_rfl) f23b (less_ok s (⟨(worthyK s plan).1, (worthyK s plan).2⟩ : Fr) (⟨(gainK s 1 1).1, (gainK s 1 1).2.1⟩ : Fr) h15)), rfl, (⟨by decide, by decide⟩), (pureF_of Try.func23 (by kernel_rfl) f23b (less_ok s (⟨(gainK s 2 2).1, (gainK s 2 2).2.1⟩ : Fr) (⟨(worthyK s plan).1, (worthyK s plan).2⟩ : Fr) h16)), rfl, (pureF_of Try.func34 (by kernel_rfl) f34b (house_ok s h17)), hc13, (⟨by decide, by decide⟩), (⟨by decide, by decide⟩), hc14, q99_15, (⟨by decide, by decide⟩), (⟨by decide, by decide⟩), q102_15, hc15, trivial⟩ (AvLe.of_eq (by rw [h]; try rfl))
                              · have h := h.2 (ne_of_beq_false hc14)
                                exact p6_start_15 s plan    hE ⟨(pureF_of Try.func30 (by kernel_rfl) f30b (planE_ok s plan h1)), hc0, rfl, (⟨by decide, by decide⟩), (by decide), (⟨by decide, by decide⟩), (by decide), (⟨by decide, by decide⟩), (pureF_of Try.func31 (by kernel_rfl) f31b (gain_ok s 1 1 h2)), (⟨by decide, by decide⟩), (by decide), hc1, (⟨by decide, by decide⟩), (pureF_of Try.func32 (by kernel_rfl) f32b (divides_ok s (⟨(gainK s 1 1).1, (gainK s 1 1).2.1⟩ : Fr) h3)), rfl, hc2, q16_3, hc3, (⟨by decide, by decide⟩), rfl, (⟨by decide, by decide⟩), (by decide), (⟨by decide, by decide⟩), (by decide), (⟨by decide, by decide⟩), (pureF_of Try.func31 (by kernel_rfl) f31b (gain_ok s 1 2 h4)), (⟨by decide, by decide⟩), (by decide), hc4, (⟨by decide, by decide⟩), (pureF_of Try.func32 (by kernel_rfl) f32b (divides_ok s (⟨(gainK s 1 2).1, (gainK s 1 2).2.1⟩ : Fr) h5)), rfl, hc5, q33_6, hc6, (⟨by decide, by decide⟩), rfl, (⟨by decide, by decide⟩), (by decide), (⟨by decide, by decide⟩), (by decide), (⟨by decide, by decide⟩), (pureF_of Try.func31 (by kernel_rfl) f31b (gain_ok s 2 1 h6)), (⟨by decide, by decide⟩), (by decide), hc7, (⟨by decide, by decide⟩), (pureF_of Try.func32 (by kernel_rfl) f32b (divides_ok s (⟨(gainK s 2 1).1, (gainK s 2 1).2.1⟩ : Fr) h7)), rfl, hc8, q50_9, hc9, (⟨by decide, by decide⟩), rfl, (⟨by decide, by decide⟩), (by decide), (⟨by decide, by decide⟩), (by decide), (⟨by decide, by decide⟩), (pureF_of Try.func31 (by kernel_rfl) f31b (gain_ok s 2 2 h8)), (⟨by decide, by decide⟩), (by decide), hc10, (⟨by decide, by decide⟩), (pureF_of Try.func32 (by kernel_rfl) f32b (divides_ok s (⟨(gainK s 2 2).1, (gainK s 2 2).2.1⟩ : Fr) h9)), rfl, hc11, q67_12, hc12, (⟨by decide, by decide⟩), rfl, (⟨by decide, by decide⟩), (⟨by decide, by decide⟩), (pureF_of Try.func23 (by kernel_rfl) f23b (less_ok s (⟨(gainK s 1 2).1, (gainK s 1 2).2.1⟩ : Fr) (⟨(gainK s 1 1).1, (gainK s 1 1).2.1⟩ : Fr) h10)), rfl, (⟨by decide, by decide⟩), (⟨by decide, by decide⟩), (pureF_of Try.func23 (by kernel_rfl) f23b (less_ok s (⟨(gainK s 2 2).1, (gainK s 2 2).2.1⟩ : Fr) (⟨(gainK s 2 1).1, (gainK s 2 1).2.1⟩ : Fr) h11)), rfl, (⟨by decide, by decide⟩), (⟨by decide, by decide⟩), (pureF_of Try.func23 (by kernel_rfl) f23b (less_ok s (⟨(gainK s 2 1).1, (gainK s 2 1).2.1⟩ : Fr) (⟨(gainK s 1 1).1, (gainK s 1 1).2.1⟩ : Fr) h12)), rfl, (⟨by decide, by decide⟩), (⟨by decide, by decide⟩), (pureF_of Try.func23 (by kernel_rfl) f23b (less_ok s (⟨(gainK s 2 2).1, (gainK s 2 2).2.1⟩ : Fr) (⟨(gainK s 1 2).1, (gainK s 1 2).2.1⟩ : Fr) h13)), rfl, (pureF_of Try.func33 (by kernel_rfl) f33b (worthy_ok s plan h14)), (⟨by decide, by decide⟩), (pureF_of Try.func23 (by kernel_rfl) f23b (less_ok s (⟨(worthyK s plan).1, (worthyK s plan).2⟩ : Fr) (⟨(gainK s 1 1).1, (gainK s 1 1).2.1⟩ : Fr) h15)), rfl, (⟨by decide, by decide⟩), (pureF_of Try.func23 (by kernel_rfl) f23b (less_ok s (⟨(gainK s 2 2).1, (gainK s 2 2).2.1⟩ : Fr) (⟨(worthyK s plan).1, (worthyK s plan).2⟩ : Fr) h16)), rfl, (pureF_of Try.func34 (by kernel_rfl) f34b (house_ok s h17)), hc13, (⟨by decide, by decide⟩), (⟨by decide, by decide⟩), hc14, rfl, trivial⟩ (AvLe.of_eq (by rw [h]; try rfl))
                            · have h := h.2 (ne_of_beq_false hc13)
                              exact p6_start_16 s plan    hE ⟨(pureF_of Try.func30 (by kernel_rfl) f30b (planE_ok s plan h1)), hc0, rfl, (⟨by decide, by decide⟩), (by decide), (⟨by decide, by decide⟩), (by decide), (⟨by decide, by decide⟩), (pureF_of Try.func31 (by kernel_rfl) f31b (gain_ok s 1 1 h2)), (⟨by decide, by decide⟩), (by decide), hc1, (⟨by decide, by decide⟩), (pureF_of Try.func32 (by kernel_rfl) f32b (divides_ok s (⟨(gainK s 1 1).1, (gainK s 1 1).2.1⟩ : Fr) h3)), rfl, hc2, q16_3, hc3, (⟨by decide, by decide⟩), rfl, (⟨by decide, by decide⟩), (by decide), (⟨by decide, by decide⟩), (by decide), (⟨by decide, by decide⟩), (pureF_of Try.func31 (by kernel_rfl) f31b (gain_ok s 1 2 h4)), (⟨by decide, by decide⟩), (by decide), hc4, (⟨by decide, by decide⟩), (pureF_of Try.func32 (by kernel_rfl) f32b (divides_ok s (⟨(gainK s 1 2).1, (gainK s 1 2).2.1⟩ : Fr) h5)), rfl, hc5, q33_6, hc6, (⟨by decide, by decide⟩), rfl, (⟨by decide, by decide⟩), (by decide), (⟨by decide, by decide⟩), (by decide), (⟨by decide, by decide⟩), (pureF_of Try.func31 (by kernel_rfl) f31b (gain_ok s 2 1 h6)), (⟨by decide, by decide⟩), (by decide), hc7, (⟨by decide, by decide⟩), (pureF_of Try.func32 (by kernel_rfl) f32b (divides_ok s (⟨(gainK s 2 1).1, (gainK s 2 1).2.1⟩ : Fr) h7)), rfl, hc8, q50_9, hc9, (⟨by decide, by decide⟩), rfl, (⟨by decide, by decide⟩), (by decide), (⟨by decide, by decide⟩), (by decide), (⟨by decide, by decide⟩), (pureF_of Try.func31 (by kernel_rfl) f31b (gain_ok s 2 2 h8)), (⟨by decide, by decide⟩), (by decide), hc10, (⟨by decide, by decide⟩), (pureF_of Try.func32 (by kernel_rfl) f32b (divides_ok s (⟨(gainK s 2 2).1, (gainK s 2 2).2.1⟩ : Fr) h9)), rfl, hc11, q67_12, hc12, (⟨by decide, by decide⟩), rfl, (⟨by decide, by decide⟩), (⟨by decide, by decide⟩), (pureF_of Try.func23 (by kernel_rfl) f23b (less_ok s (⟨(gainK s 1 2).1, (gainK s 1 2).2.1⟩ : Fr) (⟨(gainK s 1 1).1, (gainK s 1 1).2.1⟩ : Fr) h10)), rfl, (⟨by decide, by decide⟩), (⟨by decide, by decide⟩), (pureF_of Try.func23 (by kernel_rfl) f23b (less_ok s (⟨(gainK s 2 2).1, (gainK s 2 2).2.1⟩ : Fr) (⟨(gainK s 2 1).1, (gainK s 2 1).2.1⟩ : Fr) h11)), rfl, (⟨by decide, by decide⟩), (⟨by decide, by decide⟩), (pureF_of Try.func23 (by kernel_rfl) f23b (less_ok s (⟨(gainK s 2 1).1, (gainK s 2 1).2.1⟩ : Fr) (⟨(gainK s 1 1).1, (gainK s 1 1).2.1⟩ : Fr) h12)), rfl, (⟨by decide, by decide⟩), (⟨by decide, by decide⟩), (pureF_of Try.func23 (by kernel_rfl) f23b (less_ok s (⟨(gainK s 2 2).1, (gainK s 2 2).2.1⟩ : Fr) (⟨(gainK s 1 2).1, (gainK s 1 2).2.1⟩ : Fr) h13)), rfl, (pureF_of Try.func33 (by kernel_rfl) f33b (worthy_ok s plan h14)), (⟨by decide, by decide⟩), (pureF_of Try.func23 (by kernel_rfl) f23b (less_ok s (⟨(worthyK s plan).1, (worthyK s plan).2⟩ : Fr) (⟨(gainK s 1 1).1, (gainK s 1 1).2.1⟩ : Fr) h15)), rfl, (⟨by decide, by decide⟩), (pureF_of Try.func23 (by kernel_rfl) f23b (less_ok s (⟨(gainK s 2 2).1, (gainK s 2 2).2.1⟩ : Fr) (⟨(worthyK s plan).1, (worthyK s plan).2⟩ : Fr) h16)), rfl, (pureF_of Try.func34 (by kernel_rfl) f34b (house_ok s h17)), hc13, rfl, rfl, trivial⟩ (AvLe.of_eq (by rw [h]; try rfl))

theorem law6_ok (s : Stl) (plan : List Int) (h : s.stages.length ≤ 9223372036854775807 ∧ s.worth.length ≤ 9223372036854775807) (hp : plan.length ≤ 9223372036854775807) : Pure Try.prog 6 [avStl s, .rsl (rowI plan) 0 plan.length] (.bool true) := pure_of Try.func6 f6b fun E hE => by
  refine f6W s plan (rv := true) hE ⟨⟨h, hp⟩, fun _ => rfl, fun he => ?_⟩
  obtain ⟨hc, hpl⟩ := planE_of he
  obtain ⟨hm, es⟩ := mok_G (isSome_of hc)
  have hpl' : planOk (machG s).s plan = true := by rw [es]; exact hpl
  have g11 := gok hc (p := 1) (o := 1) (.inl rfl) (.inl rfl)
  have g12 := gok hc (p := 1) (o := 2) (.inl rfl) (.inr rfl)
  have g21 := gok hc (p := 2) (o := 1) (.inr rfl) (.inl rfl)
  have g22 := gok hc (p := 2) (o := 2) (.inr rfl) (.inr rfl)
  have w := fun (p o : Int) => (wok_worth hm : WOk (machG s) (worthI (machG s)) (chooseI (machG s) p o))
  have wp := wok_planW hm hpl'
  have m1 : gainV s 1 1 ≤ gainV s 1 2 := aims_mono hm (w 1 1) (w 1 2) (.inl rfl) (.inl rfl) (.inl rfl) (.inr rfl) (by omega) (by omega)
  have m2 : gainV s 2 1 ≤ gainV s 2 2 := aims_mono hm (w 2 1) (w 2 2) (.inr rfl) (.inl rfl) (.inr rfl) (.inr rfl) (by omega) (by omega)
  have m3 : gainV s 1 1 ≤ gainV s 2 1 := aims_mono hm (w 1 1) (w 2 1) (.inl rfl) (.inl rfl) (.inr rfl) (.inl rfl) (by omega) (by omega)
  have m4 : gainV s 1 2 ≤ gainV s 2 2 := aims_mono hm (w 1 2) (w 2 2) (.inl rfl) (.inr rfl) (.inr rfl) (.inr rfl) (by omega) (by omega)
  have pl := plan_low hm (w 1 1) wp
  have ph := plan_high hm (w 2 2) wp
  have hwf := fr_of hc (v := (valuesP s (worthI (machG s)) plan).getD 0 0) (by
    obtain ⟨v, hv, hb⟩ := val0 hm wp
    rw [show (valuesP s (worthI (machG s)) plan).getD 0 0 = v from getD_of hv]; exact hb)
  have ewk : worthyK s plan = ((fracI ((valuesP s (worthI (machG s)) plan).getD 0 0) (meas0I s)).num, (fracI ((valuesP s (worthI (machG s)) plan).getD 0 0) (meas0I s)).den) := rfl
  have hh : houseK s = (s.price * (gF s 2 1).den - (gF s 2 1).num, (gF s 2 1).den, 0) := by
    rw [houseK, if_pos hc, houseF, frac_sub (gainV_bd (pa := 2) (oa := 1) hc).2.1]; rfl
  have pb := price_bd hc
  have d21 := g21.den
  have n21 := g21.nn
  have l21 := g21.le
  rw [g11.k, g12.k, g21.k, g22.k, ewk, hh]
  have ok11 := g11.ok
  have ok12 := g12.ok
  have ok21 := g21.ok
  have ok22 := g22.ok
  have pm1 := Int.mul_nonneg pb.1 (show 0 ≤ (gF s 2 1).den by omega)
  have pm2 := Int.mul_le_mul_of_nonneg_right pb.2 (show 0 ≤ (gF s 2 1).den by omega)
  refine ⟨h, fun h => absurd rfl h, fun _ => ⟨⟨hc, ok11⟩, fun h => absurd g11.nn (by simpa using h), fun _ => ⟨by have := g11.den; simp only; omega, fun h => absurd g11.le (by simpa using h), fun _ => ⟨h, fun h => absurd rfl h, fun _ => ⟨⟨hc, ok12⟩, fun h => absurd g12.nn (by simpa using h), fun _ => ⟨by have := g12.den; simp only; omega, fun h => absurd g12.le (by simpa using h), fun _ => ⟨h, fun h => absurd rfl h, fun _ => ⟨⟨hc, ok21⟩, fun h => absurd g21.nn (by simpa using h), fun _ => ⟨by simp only; omega, fun h => absurd g21.le (by simpa using h), fun _ => ⟨h, fun h => absurd rfl h, fun _ => ⟨⟨hc, ok22⟩, fun h => absurd g22.nn (by simpa using h), fun _ => ⟨by have := g22.den; simp only; omega, fun h => absurd g22.le (by simpa using h), fun _ => ?_⟩⟩⟩⟩⟩⟩⟩⟩⟩⟩⟩⟩
  refine ⟨⟨hc, ok12, ok11, by show FrV s (gF s 1 1) ≤ FrV s (gF s 1 2); rw [g11.v, g12.v]; exact m1⟩, ⟨hc, ok22, ok21, by show FrV s (gF s 2 1) ≤ FrV s (gF s 2 2); rw [g21.v, g22.v]; exact m2⟩, ⟨hc, ok21, ok11, by show FrV s (gF s 1 1) ≤ FrV s (gF s 2 1); rw [g11.v, g21.v]; exact m3⟩, ⟨hc, ok22, ok12, by show FrV s (gF s 1 2) ≤ FrV s (gF s 2 2); rw [g12.v, g22.v]; exact m4⟩, ⟨hc, hpl⟩, ⟨hc, hwf.1, ok11, ?_⟩, ⟨hc, ok22, hwf.1, ?_⟩, h, fun _ => ⟨fun _ => ⟨by simp only; omega, by simp only; omega, fun _ => rfl, fun h => absurd rfl h⟩, fun h => absurd rfl h⟩, fun h => absurd rfl h⟩
  · show FrV s (gF s 1 1) ≤ FrV s (fracI ((valuesP s (worthI (machG s)) plan).getD 0 0) (meas0I s))
    rw [g11.v, hwf.2]; exact pl
  · show FrV s (fracI ((valuesP s (worthI (machG s)) plan).getD 0 0) (meas0I s)) ≤ FrV s (gF s 2 2)
    rw [g22.v, hwf.2]; exact ph

end Go.Proofs.Ytfgmlaeikcfpbaa
