/- A part of the proof: several texts, one behind the other. -/
import Derived.Test.YtfgmlaeikcfpbaaLStallsPlainD
set_option linter.unusedVariables false
set_option linter.unusedSimpArgs false
set_option maxRecDepth 100000
namespace Go.Proofs.Ytfgmlaeikcfpbaa
open Go Ax
open Go.Proofs

abbrev avStl (s : Stl) : AV := .agg [.rsl (rowStg s.stages) 0 s.stages.length, .rsl (rowI s.worth) 0 s.worth.length, .int .i64 s.price]
theorem checkK_no {s : Stl} (h : ¬ (checkK s = 0)) : checkK s = 60 := by
  unfold checkK at *
  split
  · rename_i h1; rw [if_pos h1] at h; omega
  · rfl
def checkO (s : Stl) (kd pa oa : Int) : Int := if checkK s = 0 then (if rightO (machG s) kd pa oa = true then 0 else 1) else 60
theorem rightO_eq {s : Stl} {kd pa oa : Int} (h : checkK s = 0) : rightO (machG s) kd pa oa = (within kd 0 ((s.worth.length : Int) - 1) && aims2 pa oa) := by
  rw [rightO, kindI, (mok_G (isSome_of h)).2, aims_eq]
theorem checkO_of {s : Stl} {kd pa oa : Int} (h : checkO s kd pa oa = 0) : checkK s = 0 ∧ rightO (machG s) kd pa oa = true ∧ (0 ≤ kd ∧ kd ≤ (s.worth.length : Int) - 1) ∧ (pa = 1 ∨ pa = 2) ∧ (oa = 1 ∨ oa = 2) := by
  unfold checkO at h
  split at h
  · rename_i h0
    split at h
    · rename_i h1
      refine ⟨h0, h1, ?_⟩
      rw [rightO_eq h0, Bool.and_eq_true] at h1
      exact ⟨within_iff.1 h1.1, aims2_iff.1 h1.2⟩
    · omega
  · omega
def choiceK (s : Stl) (kd pa oa : Int) : List Int × Int := if (machI s).isSome = true then (if rightO (machG s) kd pa oa = true then ((valA (machG s) (onlyI kd) (chooseI (machG s) pa oa)).2, 0) else ([], 1)) else ([], 60)
theorem isSome_iff {s : Stl} : (machI s).isSome = true ↔ checkK s = 0 := by
  unfold checkK; split <;> simp_all
theorem odds_yes {s : Stl} {kd pa oa : Int} (h : checkO s kd pa oa = 0) : oddsK s kd pa oa = ((firstI (machG s) (onlyI kd) (chooseI (machG s) pa oa)).num, (firstI (machG s) (onlyI kd) (chooseI (machG s) pa oa)).den, 0) ∧ choiceK s kd pa oa = ((valA (machG s) (onlyI kd) (chooseI (machG s) pa oa)).2, 0) := by
  obtain ⟨h0, h1, -⟩ := checkO_of h
  unfold oddsK choiceK
  simp only [isSome_iff, if_pos h0, if_pos h1]
  exact ⟨trivial, trivial⟩
def planE (s : Stl) (plan : List Int) : Int := if checkK s = 0 then (if planOk s plan = true then 0 else 1) else 60
theorem planE_of {s : Stl} {plan : List Int} (h : planE s plan = 0) : checkK s = 0 ∧ planOk s plan = true := by
  unfold planE at h
  split at h
  · rename_i h0
    split at h
    · rename_i h1; exact ⟨h0, h1⟩
    · omega
  · omega

/-! ### The end values of a machine, turn by turn -/
theorem fin_turn {m : Mch} (hm : MOk m) {w : Int → Int} {ch : Int → List Int → Int} (hw : WOk m w ch) {i : Nat} {x : Stg} (hi : m.s.stages[i]? = some x) {k : Nat} {t : Trn} (hk : x.turns[k]? = some t) :
    ∃ q u v, m.mult[i]? = some q ∧ m.meas[Int.toNat t.to]? = some u ∧ (valA m w ch).1[Int.toNat t.to]? = some v ∧ (nextI m i (valA m w ch).1 x.turns)[k]? = some (v * Int.tdiv q u) ∧ 0 ≤ t.to ∧ i < Int.toNat t.to ∧ Int.toNat t.to < m.s.stages.length ∧
      (0 < q ∧ q ≤ 1000000000000) ∧ (0 < u ∧ u ≤ 1000000000000) ∧ Int.tdiv q u * u = q ∧ 0 ≤ Int.tdiv q u ∧ Int.tdiv q u ≤ q ∧ (0 ≤ v ∧ v ≤ 10000 * u) ∧ 0 ≤ v * Int.tdiv q u ∧ v * Int.tdiv q u ≤ 10000 * q := by
  have hform := (stPre_of hm.st).2.2.2.2
  have hp := val_okA hm hw
  have ht := List.mem_of_getElem? hk
  have hto := turns_to hi (hform i (List.getElem?_eq_some_iff.1 hi).1) t ht
  obtain ⟨q, q1, q2, q3, q4⟩ := hm.inv.rel i x (by omega) hi
  have hg : m.meas[Int.toNat t.to]? = some (m.meas[Int.toNat t.to]'(by rw [hm.inv.l1]; exact hto.2.1)) := List.getElem?_eq_getElem _
  have hd := q4 t ht
  have hb := hm.inv.pos _ _ (by omega) hg
  have hv := hp.hi _ _ (by omega) hg
  have hN : (nextI m i (valA m w ch).1 x.turns)[k]? = some ((valA m w ch).1.getD (Int.toNat t.to) 0 * Int.tdiv (m.mult.getD i 0) (m.meas.getD (Int.toNat t.to) 0)) := by rw [nextI, List.getElem?_map, hk]; rfl
  rw [getD_of q1, getD_of hg] at hN
  rw [getD_of hg] at hd
  generalize m.meas[Int.toNat t.to]'(by rw [hm.inv.l1]; exact hto.2.1) = u at hg hd hb hv hN
  have hgv := getD_some (l := (valA m w ch).1) (i := Int.toNat t.to) (by rw [hp.l1]; exact hto.2.1)
  generalize (valA m w ch).1.getD (Int.toNat t.to) 0 = v at hv hN hgv
  have e1 : Int.tdiv q u = q / u := Int.tdiv_eq_ediv_of_nonneg (by omega)
  have e2 := Int.ediv_le_self u (show (0 : Int) ≤ q by omega)
  have e3 := Int.ediv_nonneg (show (0 : Int) ≤ q by omega) (show 0 ≤ u by omega)
  have e4 : Int.tdiv q u * u = q := by rw [e1]; exact Int.ediv_mul_cancel hd
  refine ⟨q, u, v, q1, hg, hgv, hN, hto.2.2, hto.1, hto.2.1, q3, hb, e4, by omega, by omega, hv, Int.mul_nonneg hv.1 (by omega), ?_⟩
  have h1 := Int.mul_le_mul_of_nonneg_right hv.2 (show 0 ≤ Int.tdiv q u by omega)
  have h2 : 10000 * u * Int.tdiv q u = 10000 * q := by rw [Int.mul_assoc, Int.mul_comm u, e4]
  omega
structure Aims where
  kind : Int
  player : Int
  operator : Int
theorem f30b : Try.f30.body = some (bodyAt Try.prog 30) := by kernel_rfl
def f30K0 (P : Program) : List Item := kAt 400 [.code (bodyAt P 30)] [.b false, .b false, .stop]
def f30S0 (s : Stl) (plan : (List Int)) (i : Nat)  : St := ⟨[J, .rsl (rowI plan) 0 plan.length, .ptr 0 0 0, J, J, J, .int .i64 (i : Int), J, J, J, J, J, J, J, J, J, J, J, J, J, J, J, J, J, J, J, J, J, J, J, J, J, J, J, J, J, J, J, J, J, J, J, J, J, J, J, J, J, J, J], [⟨true, 0, 1, true, [.rsl (rowStg s.stages) 0 s.stages.length, .rsl (rowI s.worth) 0 s.worth.length, .int .i64 s.price], false⟩]⟩
def f30G0 (E : Env) (s : Stl) (plan : (List Int)) (i : Nat) : Prop := G Try.prog E (f30K0 Try.prog) (f30S0 s plan i )
theorem p30_start_0 (s : Stl) (plan : (List Int))   {E : Env} {res : AV} (hE : PureE Try.prog 30 res E) (ho : AllP [PureF Try.prog (.clos 19 [] []) [.agg [.rsl (rowStg s.stages) 0 s.stages.length, .rsl (rowI s.worth) 0 s.worth.length, .int .i64 s.price]] (.int .i64 (checkK s)), ((checkK s) != 0) = true])
    (hr : AvLe (.int .i64 (checkK s)) res) : G Try.prog E [.code (bodyAt Try.prog 30)] ⟨[.agg [.rsl (rowStg s.stages) 0 s.stages.length, .rsl (rowI s.worth) 0 s.worth.length, .int .i64 s.price], .rsl (rowI plan) 0 plan.length] ++ unds (Try.f30.ntmps - 2), []⟩ :=
  end_stepL (n := 400) (evs := [.v (.int .i64 (checkK s)), .b true]) (obs := _) hE Try.func30 mixed (by kernel_rfl) ho hr
theorem p30_start_1 (s : Stl) (plan : (List Int))   {E : Env} {res : AV} (hE : PureE Try.prog 30 res E) (ho : AllP [PureF Try.prog (.clos 19 [] []) [.agg [.rsl (rowStg s.stages) 0 s.stages.length, .rsl (rowI s.worth) 0 s.worth.length, .int .i64 s.price]] (.int .i64 (checkK s)), ((checkK s) != 0) = false, ((plan.length : Int) != (s.stages.length : Int)) = true])
    (hr : AvLe (.int .i64 1) res) : G Try.prog E [.code (bodyAt Try.prog 30)] ⟨[.agg [.rsl (rowStg s.stages) 0 s.stages.length, .rsl (rowI s.worth) 0 s.worth.length, .int .i64 s.price], .rsl (rowI plan) 0 plan.length] ++ unds (Try.f30.ntmps - 2), []⟩ :=
  end_stepL (n := 400) (evs := [.v (.int .i64 (checkK s)), .b false, .b true]) (obs := _) hE Try.func30 mixed (by kernel_rfl) ho hr
theorem p30_start_2 (s : Stl) (plan : (List Int))   {E : Env} {rv : AV} (hE : PureE Try.prog 30 rv E) (ho : AllP [PureF Try.prog (.clos 19 [] []) [.agg [.rsl (rowStg s.stages) 0 s.stages.length, .rsl (rowI s.worth) 0 s.worth.length, .int .i64 s.price]] (.int .i64 (checkK s)), ((checkK s) != 0) = false, ((plan.length : Int) != (s.stages.length : Int)) = false])
    (hg : G Try.prog E (f30K0 Try.prog) ⟨[J, .rsl (rowI plan) 0 plan.length, .ptr 0 0 0, J, J, J, .int .i64 0, J, J, J, J, J, J, J, J, J, J, J, J, J, J, J, J, J, J, J, J, J, J, J, J, J, J, J, J, J, J, J, J, J, J, J, J, J, J, J, J, J, J, J], [⟨true, 0, 1, true, [.rsl (rowStg s.stages) 0 s.stages.length, .rsl (rowI s.worth) 0 s.worth.length, .int .i64 s.price], false⟩]⟩) : G Try.prog E [.code (bodyAt Try.prog 30)] ⟨[.agg [.rsl (rowStg s.stages) 0 s.stages.length, .rsl (rowI s.worth) 0 s.worth.length, .int .i64 s.price], .rsl (rowI plan) 0 plan.length] ++ unds (Try.f30.ntmps - 2), []⟩ :=
  segC_step (n := 400) (ds := []) (cs := []) (live := [1, 2, 6]) (m := 1) (evs := [.v (.int .i64 (checkK s)), .b false, .b false, .stop]) (obs := _) hE.2.1 (hE.nogh _) mixed (by kernel_rfl) ho hg
theorem f30W (s : Stl) (plan : (List Int)) {E : Env} {rv : Int} (hE : PureE Try.prog 30 (.int .i64 rv) E)
    (h : ((s.stages.length ≤ 9223372036854775807 ∧ s.worth.length ≤ 9223372036854775807) ∧ ((¬ ((checkK s) = 0) → rv = (checkK s)) ∧ ((checkK s) = 0 → ((¬ ((plan.length : Int) = (s.stages.length : Int)) → rv = 1) ∧ ((plan.length : Int) = (s.stages.length : Int) → f30G0 E s plan 0)))))) : G Try.prog E [.code (bodyAt Try.prog 30)] ⟨[.agg [.rsl (rowStg s.stages) 0 s.stages.length, .rsl (rowI s.worth) 0 s.worth.length, .int .i64 s.price], .rsl (rowI plan) 0 plan.length] ++ unds (Try.f30.ntmps - 2), []⟩ := by
  obtain ⟨h1, h⟩ := h
  rcases Bool.eq_false_or_eq_true ((checkK s) != 0) with hc0 | hc0
  · have h := h.1 (bneT hc0)
    exact p30_start_0 s plan    hE ⟨(pureF_of Try.func19 (by kernel_rfl) f19b (checkR_ok s h1)), hc0, trivial⟩ (AvLe.of_eq (by rw [h]; try rfl))
  · have h := h.2 (bneF hc0)
    rcases Bool.eq_false_or_eq_true ((plan.length : Int) != (s.stages.length : Int)) with hc1 | hc1
    · have h := h.1 (bneT hc1)
      exact p30_start_1 s plan    hE ⟨(pureF_of Try.func19 (by kernel_rfl) f19b (checkR_ok s h1)), hc0, hc1, trivial⟩ (AvLe.of_eq (by rw [h]; try rfl))
    · have h := h.2 (bneF hc1)
      exact p30_start_2 s plan    hE ⟨(pureF_of Try.func19 (by kernel_rfl) f19b (checkR_ok s h1)), hc0, hc1, trivial⟩ h
theorem p30_0_0 (s : Stl) (plan : (List Int)) (i : Nat)  (se : Stg) (e : Int)  {E : Env} {res : AV} (hE : PureE Try.prog 30 res E) (ho : AllP [(decide ((i : Int) < (plan.length : Int))) = true, 0 ≤ (i : Int) ∧ (i : Int) < (s.stages.length : Int), ((rowStg s.stages).drop (0 + (Int.toNat (i : Int)) * 3)).take 3 = [.int .i64 se.kind, .int .i64 se.prize, .rsl (rowTrn se.turns) 0 se.turns.length], 3 ≤ 3, (se.kind == 2) = true, true = true, InR .i64 ((se.turns.length : Int) - 1), 0 ≤ (i : Int) ∧ (i : Int) < (plan.length : Int), ((rowI plan).drop (0 + (Int.toNat (i : Int)) * 1)).take 1 = [.int .i64 e], PureF Try.prog (.clos 62 [] []) [.int .i64 e, .int .i64 0, .int .i64 ((se.turns.length : Int) - 1)] (.bool (within e 0 ((se.turns.length : Int) - 1))), (!(within e 0 ((se.turns.length : Int) - 1))) = true])
    (hr : AvLe (.int .i64 1) res) : G Try.prog E (f30K0 Try.prog) (f30S0 s plan i ) :=
  end_stepL (n := 400) (evs := [.b true, .auto, .ld (.agg [.int .i64 se.kind, .int .i64 se.prize, .rsl (rowTrn se.turns) 0 se.turns.length]), .b true, .b true, .auto, .ld (.int .i64 e), .v (.bool (within e 0 ((se.turns.length : Int) - 1))), .b true]) (obs := _) hE Try.func30 mixed (by kernel_rfl) ho hr
theorem p30_0_1 (s : Stl) (plan : (List Int)) (i : Nat)  (se : Stg) (e : Int)  {E : Env} {rv : AV} (hE : PureE Try.prog 30 rv E) (ho : AllP [(decide ((i : Int) < (plan.length : Int))) = true, 0 ≤ (i : Int) ∧ (i : Int) < (s.stages.length : Int), ((rowStg s.stages).drop (0 + (Int.toNat (i : Int)) * 3)).take 3 = [.int .i64 se.kind, .int .i64 se.prize, .rsl (rowTrn se.turns) 0 se.turns.length], 3 ≤ 3, (se.kind == 2) = true, true = true, InR .i64 ((se.turns.length : Int) - 1), 0 ≤ (i : Int) ∧ (i : Int) < (plan.length : Int), ((rowI plan).drop (0 + (Int.toNat (i : Int)) * 1)).take 1 = [.int .i64 e], PureF Try.prog (.clos 62 [] []) [.int .i64 e, .int .i64 0, .int .i64 ((se.turns.length : Int) - 1)] (.bool (within e 0 ((se.turns.length : Int) - 1))), (!(within e 0 ((se.turns.length : Int) - 1))) = false, InR .i64 ((i : Int) + 1)])
    (hg : G Try.prog E (f30K0 Try.prog) ⟨[J, .rsl (rowI plan) 0 plan.length, .ptr 0 0 0, J, J, J, .int .i64 ((i : Int) + 1), J, J, J, J, J, J, J, J, J, J, J, J, J, J, J, J, J, J, J, J, J, J, J, J, J, J, J, J, J, J, J, J, J, J, J, J, J, J, J, J, J, J, J], [⟨true, 0, 1, true, [.rsl (rowStg s.stages) 0 s.stages.length, .rsl (rowI s.worth) 0 s.worth.length, .int .i64 s.price], false⟩]⟩) : G Try.prog E (f30K0 Try.prog) (f30S0 s plan i ) :=
  segC_step (n := 400) (ds := []) (cs := []) (live := [1, 2, 6]) (m := 1) (evs := [.b true, .auto, .ld (.agg [.int .i64 se.kind, .int .i64 se.prize, .rsl (rowTrn se.turns) 0 se.turns.length]), .b true, .b true, .auto, .ld (.int .i64 e), .v (.bool (within e 0 ((se.turns.length : Int) - 1))), .b false, .stop]) (obs := _) hE.2.1 (hE.nogh _) mixed (by kernel_rfl) ho hg
theorem p30_0_2 (s : Stl) (plan : (List Int)) (i : Nat)  (se : Stg) (e : Int)  {E : Env} {res : AV} (hE : PureE Try.prog 30 res E) (ho : AllP [(decide ((i : Int) < (plan.length : Int))) = true, 0 ≤ (i : Int) ∧ (i : Int) < (s.stages.length : Int), ((rowStg s.stages).drop (0 + (Int.toNat (i : Int)) * 3)).take 3 = [.int .i64 se.kind, .int .i64 se.prize, .rsl (rowTrn se.turns) 0 se.turns.length], 3 ≤ 3, (se.kind == 2) = false, (se.kind == 3) = true, InR .i64 ((se.turns.length : Int) - 1), 0 ≤ (i : Int) ∧ (i : Int) < (plan.length : Int), ((rowI plan).drop (0 + (Int.toNat (i : Int)) * 1)).take 1 = [.int .i64 e], PureF Try.prog (.clos 62 [] []) [.int .i64 e, .int .i64 0, .int .i64 ((se.turns.length : Int) - 1)] (.bool (within e 0 ((se.turns.length : Int) - 1))), (!(within e 0 ((se.turns.length : Int) - 1))) = true])
    (hr : AvLe (.int .i64 1) res) : G Try.prog E (f30K0 Try.prog) (f30S0 s plan i ) :=
  end_stepL (n := 400) (evs := [.b true, .auto, .ld (.agg [.int .i64 se.kind, .int .i64 se.prize, .rsl (rowTrn se.turns) 0 se.turns.length]), .b false, .b true, .auto, .ld (.int .i64 e), .v (.bool (within e 0 ((se.turns.length : Int) - 1))), .b true]) (obs := _) hE Try.func30 mixed (by kernel_rfl) ho hr
theorem p30_0_3 (s : Stl) (plan : (List Int)) (i : Nat)  (se : Stg) (e : Int)  {E : Env} {rv : AV} (hE : PureE Try.prog 30 rv E) (ho : AllP [(decide ((i : Int) < (plan.length : Int))) = true, 0 ≤ (i : Int) ∧ (i : Int) < (s.stages.length : Int), ((rowStg s.stages).drop (0 + (Int.toNat (i : Int)) * 3)).take 3 = [.int .i64 se.kind, .int .i64 se.prize, .rsl (rowTrn se.turns) 0 se.turns.length], 3 ≤ 3, (se.kind == 2) = false, (se.kind == 3) = true, InR .i64 ((se.turns.length : Int) - 1), 0 ≤ (i : Int) ∧ (i : Int) < (plan.length : Int), ((rowI plan).drop (0 + (Int.toNat (i : Int)) * 1)).take 1 = [.int .i64 e], PureF Try.prog (.clos 62 [] []) [.int .i64 e, .int .i64 0, .int .i64 ((se.turns.length : Int) - 1)] (.bool (within e 0 ((se.turns.length : Int) - 1))), (!(within e 0 ((se.turns.length : Int) - 1))) = false, InR .i64 ((i : Int) + 1)])
    (hg : G Try.prog E (f30K0 Try.prog) ⟨[J, .rsl (rowI plan) 0 plan.length, .ptr 0 0 0, J, J, J, .int .i64 ((i : Int) + 1), J, J, J, J, J, J, J, J, J, J, J, J, J, J, J, J, J, J, J, J, J, J, J, J, J, J, J, J, J, J, J, J, J, J, J, J, J, J, J, J, J, J, J], [⟨true, 0, 1, true, [.rsl (rowStg s.stages) 0 s.stages.length, .rsl (rowI s.worth) 0 s.worth.length, .int .i64 s.price], false⟩]⟩) : G Try.prog E (f30K0 Try.prog) (f30S0 s plan i ) :=
  segC_step (n := 400) (ds := []) (cs := []) (live := [1, 2, 6]) (m := 1) (evs := [.b true, .auto, .ld (.agg [.int .i64 se.kind, .int .i64 se.prize, .rsl (rowTrn se.turns) 0 se.turns.length]), .b false, .b true, .auto, .ld (.int .i64 e), .v (.bool (within e 0 ((se.turns.length : Int) - 1))), .b false, .stop]) (obs := _) hE.2.1 (hE.nogh _) mixed (by kernel_rfl) ho hg
theorem p30_0_4 (s : Stl) (plan : (List Int)) (i : Nat)  (se : Stg) (e : Int)  {E : Env} {res : AV} (hE : PureE Try.prog 30 res E) (ho : AllP [(decide ((i : Int) < (plan.length : Int))) = true, 0 ≤ (i : Int) ∧ (i : Int) < (s.stages.length : Int), ((rowStg s.stages).drop (0 + (Int.toNat (i : Int)) * 3)).take 3 = [.int .i64 se.kind, .int .i64 se.prize, .rsl (rowTrn se.turns) 0 se.turns.length], 3 ≤ 3, (se.kind == 2) = false, (se.kind == 3) = false, 0 ≤ (i : Int) ∧ (i : Int) < (plan.length : Int), ((rowI plan).drop (0 + (Int.toNat (i : Int)) * 1)).take 1 = [.int .i64 e], PureF Try.prog (.clos 62 [] []) [.int .i64 e, .int .i64 0, .int .i64 0] (.bool (within e 0 0)), (!(within e 0 0)) = true])
    (hr : AvLe (.int .i64 1) res) : G Try.prog E (f30K0 Try.prog) (f30S0 s plan i ) :=
  end_stepL (n := 400) (evs := [.b true, .auto, .ld (.agg [.int .i64 se.kind, .int .i64 se.prize, .rsl (rowTrn se.turns) 0 se.turns.length]), .b false, .b false, .ld (.int .i64 e), .v (.bool (within e 0 0)), .b true]) (obs := _) hE Try.func30 mixed (by kernel_rfl) ho hr
theorem p30_0_5 (s : Stl) (plan : (List Int)) (i : Nat)  (se : Stg) (e : Int)  {E : Env} {rv : AV} (hE : PureE Try.prog 30 rv E) (ho : AllP [(decide ((i : Int) < (plan.length : Int))) = true, 0 ≤ (i : Int) ∧ (i : Int) < (s.stages.length : Int), ((rowStg s.stages).drop (0 + (Int.toNat (i : Int)) * 3)).take 3 = [.int .i64 se.kind, .int .i64 se.prize, .rsl (rowTrn se.turns) 0 se.turns.length], 3 ≤ 3, (se.kind == 2) = false, (se.kind == 3) = false, 0 ≤ (i : Int) ∧ (i : Int) < (plan.length : Int), ((rowI plan).drop (0 + (Int.toNat (i : Int)) * 1)).take 1 = [.int .i64 e], PureF Try.prog (.clos 62 [] []) [.int .i64 e, .int .i64 0, .int .i64 0] (.bool (within e 0 0)), (!(within e 0 0)) = false, InR .i64 ((i : Int) + 1)])
    (hg : G Try.prog E (f30K0 Try.prog) ⟨[J, .rsl (rowI plan) 0 plan.length, .ptr 0 0 0, J, J, J, .int .i64 ((i : Int) + 1), J, J, J, J, J, J, J, J, J, J, J, J, J, J, J, J, J, J, J, J, J, J, J, J, J, J, J, J, J, J, J, J, J, J, J, J, J, J, J, J, J, J, J], [⟨true, 0, 1, true, [.rsl (rowStg s.stages) 0 s.stages.length, .rsl (rowI s.worth) 0 s.worth.length, .int .i64 s.price], false⟩]⟩) : G Try.prog E (f30K0 Try.prog) (f30S0 s plan i ) :=
  segC_step (n := 400) (ds := []) (cs := []) (live := [1, 2, 6]) (m := 1) (evs := [.b true, .auto, .ld (.agg [.int .i64 se.kind, .int .i64 se.prize, .rsl (rowTrn se.turns) 0 se.turns.length]), .b false, .b false, .ld (.int .i64 e), .v (.bool (within e 0 0)), .b false, .stop]) (obs := _) hE.2.1 (hE.nogh _) mixed (by kernel_rfl) ho hg
theorem p30_0_6 (s : Stl) (plan : (List Int)) (i : Nat)   {E : Env} {res : AV} (hE : PureE Try.prog 30 res E) (ho : AllP [(decide ((i : Int) < (plan.length : Int))) = false])
    (hr : AvLe (.int .i64 0) res) : G Try.prog E (f30K0 Try.prog) (f30S0 s plan i ) :=
  end_stepL (n := 400) (evs := [.b false]) (obs := _) hE Try.func30 mixed (by kernel_rfl) ho hr
theorem f30W0 (s : Stl) (plan : (List Int)) (i : Nat) {E : Env} {rv : Int} (hE : PureE Try.prog 30 (.int .i64 rv) E)
    (h : (((i : Int) < (plan.length : Int) → (∃ se : Stg, s.stages[i]? = some se ∧ ((se.kind = 2 → ((-9223372036854775808 ≤ (se.turns.length : Int) - 1 ∧ (se.turns.length : Int) - 1 ≤ 9223372036854775807) ∧ (∃ e : Int, plan[i]? = some e ∧ (((within e 0 ((se.turns.length : Int) - 1)) = false → rv = 1) ∧ ((within e 0 ((se.turns.length : Int) - 1)) = true → ((-9223372036854775808 ≤ (i : Int) + 1 ∧ (i : Int) + 1 ≤ 9223372036854775807) ∧ f30G0 E s plan (i + 1))))))) ∧ (¬ (se.kind = 2) → ((se.kind = 3 → ((-9223372036854775808 ≤ (se.turns.length : Int) - 1 ∧ (se.turns.length : Int) - 1 ≤ 9223372036854775807) ∧ (∃ e : Int, plan[i]? = some e ∧ (((within e 0 ((se.turns.length : Int) - 1)) = false → rv = 1) ∧ ((within e 0 ((se.turns.length : Int) - 1)) = true → ((-9223372036854775808 ≤ (i : Int) + 1 ∧ (i : Int) + 1 ≤ 9223372036854775807) ∧ f30G0 E s plan (i + 1))))))) ∧ (¬ (se.kind = 3) → (∃ e : Int, plan[i]? = some e ∧ (((within e 0 0) = false → rv = 1) ∧ ((within e 0 0) = true → ((-9223372036854775808 ≤ (i : Int) + 1 ∧ (i : Int) + 1 ≤ 9223372036854775807) ∧ f30G0 E s plan (i + 1))))))))))) ∧ (¬ ((i : Int) < (plan.length : Int)) → rv = 0))) : f30G0 E s plan i := by
  rcases Bool.eq_false_or_eq_true (decide ((i : Int) < (plan.length : Int))) with hc0 | hc0
  · have h := h.1 (of_decide_eq_true hc0)
    obtain ⟨se, h1, h⟩ := h
    rcases Bool.eq_false_or_eq_true (se.kind == 2) with hc1 | hc1
    · have h := h.1 (eq_of_beq hc1)
      obtain ⟨q7_2, h⟩ := h
      obtain ⟨e, h2, h⟩ := h
      rcases Bool.eq_false_or_eq_true (!(within e 0 ((se.turns.length : Int) - 1))) with hc2 | hc2
      · have h := h.1 (bnT hc2)
        exact p30_0_0 s plan i  se e hE ⟨hc0, (idx_ok h1), (row_part cStg (s := 3) (k := 0) (m := 3) (fun _ => rfl) (by decide) h1), (by decide), hc1, rfl, q7_2, (idx_ok h2), (row_part cI (s := 1) (k := 0) (m := 1) (fun _ => rfl) (by decide) h2), (pureF_of Try.func62 (by kernel_rfl) f62b (withinR_ok e 0 ((se.turns.length : Int) - 1))), hc2, trivial⟩ (AvLe.of_eq (by rw [h]; try rfl))
      · have h := h.2 (bnF hc2)
        obtain ⟨q13_3, h⟩ := h
        exact p30_0_1 s plan i  se e hE ⟨hc0, (idx_ok h1), (row_part cStg (s := 3) (k := 0) (m := 3) (fun _ => rfl) (by decide) h1), (by decide), hc1, rfl, q7_2, (idx_ok h2), (row_part cI (s := 1) (k := 0) (m := 1) (fun _ => rfl) (by decide) h2), (pureF_of Try.func62 (by kernel_rfl) f62b (withinR_ok e 0 ((se.turns.length : Int) - 1))), hc2, q13_3, trivial⟩ h
    · have h := h.2 (ne_of_beq_false hc1)
      rcases Bool.eq_false_or_eq_true (se.kind == 3) with hc2 | hc2
      · have h := h.1 (eq_of_beq hc2)
        obtain ⟨q7_3, h⟩ := h
        obtain ⟨e, h2, h⟩ := h
        rcases Bool.eq_false_or_eq_true (!(within e 0 ((se.turns.length : Int) - 1))) with hc3 | hc3
        · have h := h.1 (bnT hc3)
          exact p30_0_2 s plan i  se e hE ⟨hc0, (idx_ok h1), (row_part cStg (s := 3) (k := 0) (m := 3) (fun _ => rfl) (by decide) h1), (by decide), hc1, hc2, q7_3, (idx_ok h2), (row_part cI (s := 1) (k := 0) (m := 1) (fun _ => rfl) (by decide) h2), (pureF_of Try.func62 (by kernel_rfl) f62b (withinR_ok e 0 ((se.turns.length : Int) - 1))), hc3, trivial⟩ (AvLe.of_eq (by rw [h]; try rfl))
        · have h := h.2 (bnF hc3)
          obtain ⟨q13_4, h⟩ := h
          exact p30_0_3 s plan i  se e hE ⟨hc0, (idx_ok h1), (row_part cStg (s := 3) (k := 0) (m := 3) (fun _ => rfl) (by decide) h1), (by decide), hc1, hc2, q7_3, (idx_ok h2), (row_part cI (s := 1) (k := 0) (m := 1) (fun _ => rfl) (by decide) h2), (pureF_of Try.func62 (by kernel_rfl) f62b (withinR_ok e 0 ((se.turns.length : Int) - 1))), hc3, q13_4, trivial⟩ h
      · have h := h.2 (ne_of_beq_false hc2)
        obtain ⟨e, h2, h⟩ := h
        rcases Bool.eq_false_or_eq_true (!(within e 0 0)) with hc3 | hc3
        · have h := h.1 (bnT hc3)
          exact p30_0_4 s plan i  se e hE ⟨hc0, (idx_ok h1), (row_part cStg (s := 3) (k := 0) (m := 3) (fun _ => rfl) (by decide) h1), (by decide), hc1, hc2, (idx_ok h2), (row_part cI (s := 1) (k := 0) (m := 1) (fun _ => rfl) (by decide) h2), (pureF_of Try.func62 (by kernel_rfl) f62b (withinR_ok e 0 0)), hc3, trivial⟩ (AvLe.of_eq (by rw [h]; try rfl))
        · have h := h.2 (bnF hc3)
          obtain ⟨q12_4, h⟩ := h
          exact p30_0_5 s plan i  se e hE ⟨hc0, (idx_ok h1), (row_part cStg (s := 3) (k := 0) (m := 3) (fun _ => rfl) (by decide) h1), (by decide), hc1, hc2, (idx_ok h2), (row_part cI (s := 1) (k := 0) (m := 1) (fun _ => rfl) (by decide) h2), (pureF_of Try.func62 (by kernel_rfl) f62b (withinR_ok e 0 0)), hc3, q12_4, trivial⟩ h
  · have h := h.2 (of_decide_eq_false hc0)
    exact p30_0_6 s plan i   hE ⟨hc0, trivial⟩ (AvLe.of_eq (by rw [h]; try rfl))
theorem planE_ok (s : Stl) (plan : List Int) (h : (s.stages.length ≤ 9223372036854775807 ∧ s.worth.length ≤ 9223372036854775807) ∧ plan.length ≤ 9223372036854775807) : Pure Try.prog 30 [avStl s, .rsl (rowI plan) 0 plan.length] (.int .i64 (planE s plan)) := pure_of Try.func30 f30b fun E hE => by
  refine f30W s plan (rv := planE s plan) hE ⟨h.1, fun h0 => ?_, fun h0 => ⟨fun h1 => ?_, fun h1 => ?_⟩⟩
  · rw [planE, if_neg h0, checkK_no h0]
  · rw [planE, if_pos h0, if_neg]
    simp only [planOk, Bool.and_eq_true, decide_eq_true_eq]
    intro hh; omega
  have hl : plan.length = s.stages.length := by omega
  have ⟨hm, es⟩ := mok_G (isSome_of h0)
  have hform := (stPre_of hm.st).2.2.2.2
  rw [es] at hform
  have key : ∀ (d i : Nat), i + d = plan.length → (∀ j, j < i → within (plan.getD j 0) 0 (planMost (s.stages.getD j ⟨0, 0, []⟩)) = true) → f30G0 E s plan i := by
    intro d
    induction d with
    | zero =>
      intro i hd hall
      refine f30W0 s plan i (rv := planE s plan) hE ⟨fun h => by omega, fun _ => ?_⟩
      rw [planE, if_pos h0, if_pos]
      simp only [planOk, hl, decide_true, Bool.true_and]
      exact List.all_eq_true.2 fun j hj => hall j (by have := List.mem_range.1 hj; omega)
    | succ d ih =>
      intro i hd hall
      have hi : s.stages[i]? = some s.stages[i] := List.getElem?_eq_getElem (by omega)
      have hx : s.stages.getD i ⟨0, 0, []⟩ = s.stages[i] := by simp [List.getD, hi]
      have hv : plan[i]? = some (plan.getD i 0) := getD_some (by omega)
      have ht : s.stages[i].turns.length ≤ 8 := by
        rcases form_of hi (hform i (by omega)) with ⟨-, h, -⟩ | ⟨-, -, h, -⟩
        · rw [h]; simp
        · exact h.2
      have nx := ih (i + 1) (by omega)
      have no : within (plan.getD i 0) 0 (planMost (s.stages.getD i ⟨0, 0, []⟩)) = false → planE s plan = 1 := fun h => by
        rw [planE, if_pos h0, if_neg]
        simp only [planOk, hl, decide_true, Bool.true_and, Bool.not_eq_true]
        exact range_all (by omega) h
      have yes : within (plan.getD i 0) 0 (planMost (s.stages.getD i ⟨0, 0, []⟩)) = true → f30G0 E s plan (i + 1) := fun h => nx fun j hj => by
        rcases Nat.lt_or_ge j i with h1 | h1
        · exact hall j h1
        · rw [show j = i by omega]; exact h
      rw [hx] at no yes
      generalize s.stages[i] = x at hi no yes ht
      refine f30W0 s plan i (rv := planE s plan) hE ⟨fun _ => ⟨x, hi, fun h2 => ⟨by omega, _, hv, fun h => no ?_, fun h => ⟨by omega, yes ?_⟩⟩, fun h2 => ⟨fun h3 => ⟨by omega, _, hv, fun h => no ?_, fun h => ⟨by omega, yes ?_⟩⟩, fun h3 => ⟨_, hv, fun h => no ?_, fun h => ⟨by omega, yes ?_⟩⟩⟩⟩, fun h => by omega⟩
      · rw [planMost, if_pos (.inl h2)]; exact h
      · rw [planMost, if_pos (.inl h2)]; exact h
      · rw [planMost, if_pos (.inr h3)]; exact h
      · rw [planMost, if_pos (.inr h3)]; exact h
      · rw [planMost, if_neg (by omega)]; exact h
      · rw [planMost, if_neg (by omega)]; exact h
  exact key plan.length 0 (by omega) (fun j hj => by omega)
end Go.Proofs.Ytfgmlaeikcfpbaa

namespace Go.Proofs.Ytfgmlaeikcfpbaa
open Go Ax
open Go.Proofs

structure Rul where
  tickets : Int
  wins : Int
  n : Int
  need : Int
  hit : Int
  miss : Int
structure Sup where
  kind : Int
  stock : Int
  plays : Int
structure Hnd where
  plan : List Int
  draws : List Int
/-! ### Fractions -/
theorem frac_parts {v u : Int} (hu : 0 < u) : ∃ g, 0 < g ∧ v = g * (fracI v u).num ∧ u = g * (fracI v u).den ∧ 0 < (fracI v u).den := by
  have hM : 0 ≤ iMax v (0 - v) := by unfold iMax; split <;> omega
  have hM2 : iMax v (0 - v) = v ∨ iMax v (0 - v) = -v := by unfold iMax; split <;> omega
  have hg1 : 1 ≤ iMax (gcdI (iMax v (0 - v)) u) 1 := iMax_pos
  have hgp : 0 < gcdI (iMax v (0 - v)) u := by rw [gcdI_comm hM (by omega)]; exact gcd_pos hu hM
  have hge : iMax (gcdI (iMax v (0 - v)) u) 1 = gcdI (iMax v (0 - v)) u := by
    generalize gcdI (iMax v (0 - v)) u = c at hgp
    unfold iMax; split <;> omega
  obtain ⟨d1, d2⟩ := gcd_dvd hM (show 0 ≤ u by omega)
  have d3 : gcdI (iMax v (0 - v)) u ∣ v := by
    generalize gcdI (iMax v (0 - v)) u = c at d1
    rcases hM2 with h | h
    · rw [h] at d1; exact d1
    · rw [h] at d1; exact Int.dvd_neg.1 d1
  unfold fracI
  rw [hge]
  generalize gcdI (iMax v (0 - v)) u = c at hgp d2 d3
  have e2 : c * Int.tdiv u c = u := Int.mul_tdiv_cancel' d2
  have e3 : c * Int.tdiv v c = v := Int.mul_tdiv_cancel' d3
  refine ⟨c, hgp, e3.symm, e2.symm, ?_⟩
  show 0 < Int.tdiv u c
  rcases Int.lt_or_le 0 (Int.tdiv u c) with h | h
  · exact h
  · have := Int.mul_le_mul_of_nonneg_left h (show 0 ≤ c by omega)
    rw [e2] at this; omega
theorem frac_cross {v u : Int} (hu : 0 < u) : v * (fracI v u).den = (fracI v u).num * u := by
  obtain ⟨g, hg, e1, e2, e3⟩ := frac_parts (v := v) hu
  generalize (fracI v u).num = n at *
  generalize (fracI v u).den = d at *
  rw [e1, e2, Int.mul_comm n (g * d), Int.mul_assoc, Int.mul_assoc, Int.mul_comm n d]
theorem frac_inj {a b u : Int} (hu : 0 < u) (h : fracI a u = fracI b u) : a = b := by
  have h1 := frac_cross (v := a) hu
  have h2 := frac_cross (v := b) hu
  obtain ⟨g, hg, -, -, e3⟩ := frac_parts (v := a) hu
  rw [← h] at h2
  rw [← h1] at h2
  exact (Int.eq_of_mul_eq_mul_right (by omega) h2).symm
theorem frac_bd {v u B : Int} (hv : -B ≤ v ∧ v ≤ B) (hu : 0 < u) : (-B ≤ (fracI v u).num ∧ (fracI v u).num ≤ B) ∧ 0 < (fracI v u).den ∧ (fracI v u).den ≤ u := by
  obtain ⟨g, hg, -, -, e3⟩ := frac_parts (v := v) hu
  exact ⟨tdiv_bd iMax_pos hv.1 hv.2, e3, (tdiv_bd (n := u) (B := u) iMax_pos (by omega) (by omega)).2⟩
theorem frac_nonneg {v u : Int} (hv : 0 ≤ v) (hu : 0 < u) : 0 ≤ (fracI v u).num := by
  obtain ⟨g, hg, e1, -, -⟩ := frac_parts (v := v) hu
  rcases Int.lt_or_le (fracI v u).num 0 with h | h
  · have := Int.mul_neg_of_pos_of_neg hg h; omega
  · exact h

/-! ### Planned -/
def planL (s : Stl) (plan : List Int) (n : Nat) : List Fr := (List.range n).map fun (k : Nat) => firstI (machG s) (onlyI (k : Int)) (fun i _ => planI plan i)
theorem planL_snoc {s : Stl} {plan : List Int} {n : Nat} : planL s plan (n + 1) = planL s plan n ++ [firstI (machG s) (onlyI (n : Int)) (fun i _ => planI plan i)] := by
  rw [planL, List.range_succ, List.map_append]; rfl
theorem planL_len {s : Stl} {plan : List Int} {n : Nat} : (planL s plan n).length = n := by simp [planL]
def plannedK (s : Stl) (plan : List Int) : List Fr × Int := if planE s plan = 0 then (planL s plan s.worth.length, 0) else ([], planE s plan)
def gainV (s : Stl) (pa oa : Int) : Int := (valA (machG s) (worthI (machG s)) (chooseI (machG s) pa oa)).1.getD 0 0
def meas0I (s : Stl) : Int := (machG s).meas.getD 0 0
theorem f40b : Try.f40.body = some (bodyAt Try.prog 40) := by kernel_rfl
def f40K0 (P : Program) : List Item := kAt 400 [.code (bodyAt P 40)] [.b false, .stop]
def f40S0 (s : Stl) (plan : (List Int)) (i : Nat) (v2 : List Fr) (g2 : Nat) : St := ⟨[J, J, J, .rptr [.rsl (rowI plan) 0 plan.length] 0, .sl 2 g2 0 v2.length 2, J, .rptr [.rsl (rowStg (((machG s).s).stages)) 0 ((((machG s).s).stages).length), .rsl (rowI (((machG s).s).worth)) 0 ((((machG s).s).worth).length), .int .i64 (((machG s).s).price), .rsl (rowI ((machG s).meas)) 0 (((machG s).meas).length), .rsl (rowI ((machG s).mult)) 0 (((machG s).mult).length)] 0, J, J, J, J, J, J, J, J, J, J, J, J, J, J, J, .int .i64 (((((machG s).s).worth).length : Nat) : Int), .int .i64 (i : Int), J, J, J, J, J, J, J, J, J, J, J, J, J], [⟨true, 0, 1, true, [.rsl (rowStg s.stages) 0 s.stages.length, .rsl (rowI s.worth) 0 s.worth.length, .int .i64 s.price], false⟩, ⟨false, 1, 1, true, [], false⟩, ⟨true, g2, 2, true, (rowFr v2), true⟩]⟩
def f40G0 (E : Env) (s : Stl) (plan : (List Int)) (i : Nat) (v2 : List Fr) : Prop := ∀ g2 : Nat, G Try.prog E (f40K0 Try.prog) (f40S0 s plan i v2 g2)
theorem p40_start_0 (s : Stl) (plan : (List Int))   {E : Env} {rv : AV} (hE : PureE Try.prog 40 rv E) (ho : AllP [PureF Try.prog (.clos 71 [] []) [.agg [.rsl (rowStg s.stages) 0 s.stages.length, .rsl (rowI s.worth) 0 s.worth.length, .int .i64 s.price], .clos 92 [] [.rptr [.rsl (rowI plan) 0 plan.length] 0]] (.tup [.rptr [.rsl (rowStg (((machG s).s).stages)) 0 ((((machG s).s).stages).length), .rsl (rowI (((machG s).s).worth)) 0 ((((machG s).s).worth).length), .int .i64 (((machG s).s).price), .rsl (rowI ((machG s).meas)) 0 (((machG s).meas).length), .rsl (rowI ((machG s).mult)) 0 (((machG s).mult).length)] 0, .int .i64 0]), false = false])
    (hg : G Try.prog E (f40K0 Try.prog) ⟨[J, J, J, .rptr [.rsl (rowI plan) 0 plan.length] 0, .sl 2 0 0 0 2, J, .rptr [.rsl (rowStg (((machG s).s).stages)) 0 ((((machG s).s).stages).length), .rsl (rowI (((machG s).s).worth)) 0 ((((machG s).s).worth).length), .int .i64 (((machG s).s).price), .rsl (rowI ((machG s).meas)) 0 (((machG s).meas).length), .rsl (rowI ((machG s).mult)) 0 (((machG s).mult).length)] 0, J, J, J, J, J, J, J, J, J, J, J, J, J, J, J, .int .i64 (((((machG s).s).worth).length : Nat) : Int), .int .i64 0, J, J, J, J, J, J, J, J, J, J, J, J, J], [⟨true, 0, 1, true, [.rsl (rowStg s.stages) 0 s.stages.length, .rsl (rowI s.worth) 0 s.worth.length, .int .i64 s.price], false⟩, ⟨false, 1, 1, true, [], false⟩, ⟨true, 0, 2, true, [], true⟩]⟩) : G Try.prog E [.code (bodyAt Try.prog 40)] ⟨[.agg [.rsl (rowStg s.stages) 0 s.stages.length, .rsl (rowI s.worth) 0 s.worth.length, .int .i64 s.price], .rsl (rowI plan) 0 plan.length] ++ unds (Try.f40.ntmps - 2), []⟩ :=
  segC_step (n := 400) (ds := [(4, 2)]) (cs := []) (live := [3, 4, 6, 22, 23]) (m := 3) (evs := [.wt 3, .v (.tup [.rptr [.rsl (rowStg (((machG s).s).stages)) 0 ((((machG s).s).stages).length), .rsl (rowI (((machG s).s).worth)) 0 ((((machG s).s).worth).length), .int .i64 (((machG s).s).price), .rsl (rowI ((machG s).meas)) 0 (((machG s).meas).length), .rsl (rowI ((machG s).mult)) 0 (((machG s).mult).length)] 0, .int .i64 0]), .b false, .stop]) (obs := _) hE.2.1 (hE.nogh _) mixed (by kernel_rfl) ho hg
theorem p40_start_1 (s : Stl) (plan : (List Int))   {E : Env} {res : AV} (hE : PureE Try.prog 40 res E) (ho : AllP [PureF Try.prog (.clos 71 [] []) [.agg [.rsl (rowStg s.stages) 0 s.stages.length, .rsl (rowI s.worth) 0 s.worth.length, .int .i64 s.price], .clos 92 [] [.rptr [.rsl (rowI plan) 0 plan.length] 0]] (.tup [.nilPtr, .int .i64 1]), true = true])
    (hr : AvLe (.tup [.nilSl, .int .i64 1]) res) : G Try.prog E [.code (bodyAt Try.prog 40)] ⟨[.agg [.rsl (rowStg s.stages) 0 s.stages.length, .rsl (rowI s.worth) 0 s.worth.length, .int .i64 s.price], .rsl (rowI plan) 0 plan.length] ++ unds (Try.f40.ntmps - 2), []⟩ :=
  end_stepL (n := 400) (evs := [.wt 3, .v (.tup [.nilPtr, .int .i64 1]), .b true]) (obs := _) hE Try.func40 mixed (by kernel_rfl) ho hr
theorem p40_start_2 (s : Stl) (plan : (List Int))   {E : Env} {res : AV} (hE : PureE Try.prog 40 res E) (ho : AllP [PureF Try.prog (.clos 71 [] []) [.agg [.rsl (rowStg s.stages) 0 s.stages.length, .rsl (rowI s.worth) 0 s.worth.length, .int .i64 s.price], .clos 92 [] [.rptr [.rsl (rowI plan) 0 plan.length] 0]] (.tup [.nilPtr, .int .i64 60]), true = true])
    (hr : AvLe (.tup [.nilSl, .int .i64 60]) res) : G Try.prog E [.code (bodyAt Try.prog 40)] ⟨[.agg [.rsl (rowStg s.stages) 0 s.stages.length, .rsl (rowI s.worth) 0 s.worth.length, .int .i64 s.price], .rsl (rowI plan) 0 plan.length] ++ unds (Try.f40.ntmps - 2), []⟩ :=
  end_stepL (n := 400) (evs := [.wt 3, .v (.tup [.nilPtr, .int .i64 60]), .b true]) (obs := _) hE Try.func40 mixed (by kernel_rfl) ho hr
theorem f40W (s : Stl) (plan : (List Int)) {E : Env} {rv : ((List Fr) × Int)} (hE : PureE Try.prog 40 (.tup [.rsl (rowFr rv.1) 0 rv.1.length, .int .i64 rv.2]) E)
    (h : ((((machI s).isSome) = true → (((planOk (machG s).s plan) = true → ((s.stages.length ≤ 9223372036854775807 ∧ s.worth.length ≤ 9223372036854775807) ∧ f40G0 E s plan 0 ([]))) ∧ ((planOk (machG s).s plan) = false → ((s.stages.length ≤ 9223372036854775807 ∧ s.worth.length ≤ 9223372036854775807) ∧ rv = (([] : List Fr), 1))))) ∧ (((machI s).isSome) = false → ((s.stages.length ≤ 9223372036854775807 ∧ s.worth.length ≤ 9223372036854775807) ∧ rv = (([] : List Fr), 60))))) : G Try.prog E [.code (bodyAt Try.prog 40)] ⟨[.agg [.rsl (rowStg s.stages) 0 s.stages.length, .rsl (rowI s.worth) 0 s.worth.length, .int .i64 s.price], .rsl (rowI plan) 0 plan.length] ++ unds (Try.f40.ntmps - 2), []⟩ := by
  rcases Bool.eq_false_or_eq_true ((machI s).isSome) with hc0 | hc0
  · have h := h.1 hc0
    rcases Bool.eq_false_or_eq_true (planOk (machG s).s plan) with hc1 | hc1
    · have h := h.1 hc1
      obtain ⟨h1, h⟩ := h
      exact p40_start_0 s plan    hE ⟨(pureF_of Try.func71 (by kernel_rfl) f71x92b (begR_T hc0 hc1 ▸ beg92_ok s plan h1)), rfl, trivial⟩ (h 0)
    · have h := h.2 hc1
      obtain ⟨h1, h⟩ := h
      exact p40_start_1 s plan    hE ⟨(pureF_of Try.func71 (by kernel_rfl) f71x92b (begR_F1 hc0 hc1 ▸ beg92_ok s plan h1)), rfl, trivial⟩ (by rw [h]; exact (tup_le ⟨nil_le, ⟨AvLe.of_eq rfl, trivial⟩⟩))
  · have h := h.2 hc0
    obtain ⟨h1, h⟩ := h
    exact p40_start_2 s plan    hE ⟨(pureF_of Try.func71 (by kernel_rfl) f71x92b (begR_F0 hc0 ▸ beg92_ok s plan h1)), rfl, trivial⟩ (by rw [h]; exact (tup_le ⟨nil_le, ⟨AvLe.of_eq rfl, trivial⟩⟩))
theorem p40_0_0 (s : Stl) (plan : (List Int)) (i : Nat) (v2 : List Fr) (g2 : Nat)  {E : Env} {rv : AV} (hE : PureE Try.prog 40 rv E) (ho : AllP [(decide ((i : Int) < (((((machG s).s).worth).length : Nat) : Int))) = true, PureF Try.prog (.clos 76 [] []) [.int .i64 (i : Int)] (.clos 113 [] [.rptr [.int .i64 (i : Int)] 0]), PureF Try.prog (.clos 94 [] []) [.rsl (rowI plan) 0 plan.length] (.clos 119 [] [.rptr [.rsl (rowI plan) 0 plan.length] 0]), PureF Try.prog (.clos 75 [] []) [.rptr [.rsl (rowStg (((machG s).s).stages)) 0 ((((machG s).s).stages).length), .rsl (rowI (((machG s).s).worth)) 0 ((((machG s).s).worth).length), .int .i64 (((machG s).s).price), .rsl (rowI ((machG s).meas)) 0 (((machG s).meas).length), .rsl (rowI ((machG s).mult)) 0 (((machG s).mult).length)] 0, .clos 113 [] [.rptr [.int .i64 (i : Int)] 0], .clos 119 [] [.rptr [.rsl (rowI plan) 0 plan.length] 0]] (.agg [.int .i64 ((firstI (machG s) (onlyI (i : Int)) (fun i _ => planI plan i)).num), .int .i64 ((firstI (machG s) (onlyI (i : Int)) (fun i _ => planI plan i)).den)]), g2 = g2, (0 + (v2.length * 2)) = (rowFr v2).length, (v2.length + 1) ≤ 2147483648, 0 = 0, InR .i64 ((i : Int) + 1)])
    (hg : G Try.prog E (f40K0 Try.prog) ⟨[J, J, J, .rptr [.rsl (rowI plan) 0 plan.length] 0, .sl 2 (g2 + 1) 0 (v2.length + 1) 2, J, .rptr [.rsl (rowStg (((machG s).s).stages)) 0 ((((machG s).s).stages).length), .rsl (rowI (((machG s).s).worth)) 0 ((((machG s).s).worth).length), .int .i64 (((machG s).s).price), .rsl (rowI ((machG s).meas)) 0 (((machG s).meas).length), .rsl (rowI ((machG s).mult)) 0 (((machG s).mult).length)] 0, J, J, J, J, J, J, J, J, J, J, J, J, J, J, J, .int .i64 (((((machG s).s).worth).length : Nat) : Int), .int .i64 ((i : Int) + 1), J, J, J, J, J, J, J, J, J, J, J, J, J], [⟨true, 0, 1, true, [.rsl (rowStg s.stages) 0 s.stages.length, .rsl (rowI s.worth) 0 s.worth.length, .int .i64 s.price], false⟩, ⟨false, 1, 1, true, [], false⟩, ⟨true, (g2 + 1), 2, true, ((rowFr v2) ++ [.int .i64 ((firstI (machG s) (onlyI (i : Int)) (fun i _ => planI plan i)).num), .int .i64 ((firstI (machG s) (onlyI (i : Int)) (fun i _ => planI plan i)).den)]), true⟩]⟩) : G Try.prog E (f40K0 Try.prog) (f40S0 s plan i v2 g2) :=
  segC_step (n := 400) (ds := []) (cs := []) (live := [3, 4, 6, 22, 23]) (m := 3) (evs := [.b true, .v (.clos 113 [] [.rptr [.int .i64 (i : Int)] 0]), .v (.clos 119 [] [.rptr [.rsl (rowI plan) 0 plan.length] 0]), .v (.agg [.int .i64 ((firstI (machG s) (onlyI (i : Int)) (fun i _ => planI plan i)).num), .int .i64 ((firstI (machG s) (onlyI (i : Int)) (fun i _ => planI plan i)).den)]), .stop]) (obs := _) hE.2.1 (hE.nogh _) mixed (by kernel_rfl) ho hg
theorem p40_0_1 (s : Stl) (plan : (List Int)) (i : Nat) (v2 : List Fr) (g2 : Nat)  {E : Env} {res : AV} (hE : PureE Try.prog 40 res E) (ho : AllP [(decide ((i : Int) < (((((machG s).s).worth).length : Nat) : Int))) = false, g2 = g2])
    (hr : AvLe (.tup [.rsl (rowFr v2) 0 v2.length, .int .i64 0]) res) : G Try.prog E (f40K0 Try.prog) (f40S0 s plan i v2 g2) :=
  end_stepL (n := 400) (evs := [.b false]) (obs := _) hE Try.func40 mixed (by kernel_rfl) ho hr
theorem f40W0 (s : Stl) (plan : (List Int)) (i : Nat) (v2 : List Fr) {E : Env} {rv : ((List Fr) × Int)} (hE : PureE Try.prog 40 (.tup [.rsl (rowFr rv.1) 0 rv.1.length, .int .i64 rv.2]) E)
    (h : (((i : Int) < (((((machG s).s).worth).length : Nat) : Int) → ((MOk (machG s) ∧ planOk (machG s).s plan = true) ∧ ((v2.length + 1) ≤ 2147483648 ∧ ((-9223372036854775808 ≤ (i : Int) + 1 ∧ (i : Int) + 1 ≤ 9223372036854775807) ∧ f40G0 E s plan (i + 1) (v2 ++ [(firstI (machG s) (onlyI (i : Int)) (fun i _ => planI plan i))]))))) ∧ (¬ ((i : Int) < (((((machG s).s).worth).length : Nat) : Int)) → rv = (v2, 0)))) : f40G0 E s plan i v2 := by
  intro g2
  rcases Bool.eq_false_or_eq_true (decide ((i : Int) < (((((machG s).s).worth).length : Nat) : Int))) with hc0 | hc0
  · have h := h.1 (of_decide_eq_true hc0)
    obtain ⟨h1, h⟩ := h
    obtain ⟨h2, h⟩ := h
    obtain ⟨q8_1, h⟩ := h
    refine p40_0_0 s plan i v2 g2  hE ⟨hc0, (pureF_of Try.func76 (by kernel_rfl) f76b (mkonly_ok (i : Int))), (pureF_of Try.func94 (by kernel_rfl) f94b (mkplanned_ok plan)), (pureF_of Try.func75 (by kernel_rfl) f75pb (firstp_ok (machG s) (i : Int) plan h1.1 h1.2)), rfl, (by have hx := row_len cFr (s := 2) (fun _ => rfl) v2; simp only [rowFr] at hx ⊢; rw [hx]; simp), h2, rfl, q8_1, trivial⟩ ?_
    rw [(show rowFr v2 ++ [.int .i64 ((firstI (machG s) (onlyI (i : Int)) (fun i _ => planI plan i)).num), .int .i64 ((firstI (machG s) (onlyI (i : Int)) (fun i _ => planI plan i)).den)] = rowFr (v2 ++ [(firstI (machG s) (onlyI (i : Int)) (fun i _ => planI plan i))]) from (row_app cFr v2 [(firstI (machG s) (onlyI (i : Int)) (fun i _ => planI plan i))]).symm)]; rw [(show (v2.length + 1) = (v2 ++ [(firstI (machG s) (onlyI (i : Int)) (fun i _ => planI plan i))]).length from by simp)]; exact (h (g2 + 1))
  · have h := h.2 (of_decide_eq_false hc0)
    exact p40_0_1 s plan i v2 g2  hE ⟨hc0, rfl, trivial⟩ (AvLe.of_eq (by rw [h]; try rfl))
theorem planE_eq {s : Stl} {plan : List Int} (h : (machI s).isSome = true) : planE s plan = if planOk (machG s).s plan = true then 0 else 1 := by
  rw [planE, if_pos (isSome_iff.1 h), (mok_G h).2]
theorem planned_ok (s : Stl) (plan : List Int) (h : s.stages.length ≤ 9223372036854775807 ∧ s.worth.length ≤ 9223372036854775807) : Pure Try.prog 40 [avStl s, .rsl (rowI plan) 0 plan.length] (.tup [.rsl (rowFr (plannedK s plan).1) 0 (plannedK s plan).1.length, .int .i64 (plannedK s plan).2]) := pure_of Try.func40 f40b fun E hE => by
  refine f40W s plan (rv := plannedK s plan) hE ⟨fun h0 => ⟨fun h1 => ⟨h, ?_⟩, fun h1 => ⟨h, ?_⟩⟩, fun h0 => ⟨h, ?_⟩⟩
  · obtain ⟨hm, es⟩ := mok_G h0
    have hw := (stPre_of hm.st).2.1
    have he : planE s plan = 0 := by rw [planE_eq h0, if_pos h1]
    rw [es] at hw
    have key : ∀ (d i : Nat), i + d = s.worth.length → f40G0 E s plan i (planL s plan i) := by
      intro d
      induction d with
      | zero =>
        intro i hd
        refine f40W0 s plan i _ (rv := plannedK s plan) hE ⟨fun h => by rw [es] at h; omega, fun _ => ?_⟩
        rw [plannedK, if_pos he, show i = s.worth.length by omega]
      | succ d ih =>
        intro i hd
        refine f40W0 s plan i _ (rv := plannedK s plan) hE ⟨fun _ => ⟨⟨hm, h1⟩, by rw [planL_len]; omega, by omega, ?_⟩, fun h => by rw [es] at h; omega⟩
        have := ih (i + 1) (by omega)
        rw [planL_snoc] at this; exact this
    exact key s.worth.length 0 (by omega)
  · have he : planE s plan = 1 := by rw [planE_eq h0, if_neg (by rw [h1]; simp)]
    rw [plannedK, if_neg (by omega), he]
  · have he : planE s plan = 60 := by rw [planE, if_neg (fun h => by rw [isSome_iff.2 h] at h0; cases h0)]
    rw [plannedK, if_neg (by omega), he]
theorem gainV_bd {s : Stl} {pa oa : Int} (h : checkK s = 0) : (0 ≤ gainV s pa oa ∧ gainV s pa oa ≤ 10000 * meas0I s) ∧ 0 < meas0I s ∧ meas0I s ≤ 1000000000000 := by
  have hm := (mok_G (isSome_of h)).1
  obtain ⟨u, hu, h1, h2⟩ := meas0 hm
  have := (val_okA hm (w := worthI (machG s)) (ch := chooseI (machG s) pa oa) (wok_worth hm)).hi 0 u (by omega) hu
  unfold gainV meas0I
  rw [getD_of hu]
  exact ⟨this, h1, h2⟩
end Go.Proofs.Ytfgmlaeikcfpbaa

namespace Go.Proofs.Ytfgmlaeikcfpbaa
open Go Ax
open Go.Proofs

structure Fr2 where
  lo : Fr
  hi : Fr
/-- The odds of a kind, in parts of the measure of the first stage. -/
def oddV (m : Mch) (k pa oa : Int) : Int := (valA m (onlyI k) (chooseI m pa oa)).1.getD 0 0
theorem frEq_iff {a b : Fr} : (a.num == b.num && (a.den == b.den && true)) = true ↔ a = b := by
  obtain ⟨a1, a2⟩ := a
  obtain ⟨b1, b2⟩ := b
  simp
theorem first_eq {m : Mch} (hm : MOk m) {w : Int → Int} {c1 c2 : Int → List Int → Int} : ((firstI m w c1).num == (firstI m w c2).num && ((firstI m w c1).den == (firstI m w c2).den && true)) = ((valA m w c1).1.getD 0 0 == (valA m w c2).1.getD 0 0) := by
  obtain ⟨u, hu, hu1, hu2⟩ := meas0 hm
  rw [Bool.eq_iff_iff, frEq_iff, beq_iff_eq]
  constructor
  · intro h
    rw [firstI, firstI, getD_of hu] at h
    exact frac_inj hu1 h
  · intro h
    rw [firstI, firstI, h]
def turnsI (m : Mch) (k : Int) : Bool := (oddV m k 1 1 != oddV m k 1 2) || (oddV m k 2 1 != oddV m k 2 2)
def turnsL (s : Stl) : Nat → List Int
  | 0 => []
  | n + 1 => turnsL s n ++ (if turnsI (machG s) (n : Int) = true then [(n : Int)] else [])
theorem turnsL_len {s : Stl} : ∀ {n : Nat}, (turnsL s n).length ≤ n
  | 0 => by simp [turnsL]
  | n + 1 => by
    have := turnsL_len (s := s) (n := n)
    simp only [turnsL, List.length_append]
    split <;> simp <;> omega
theorem turnsL_zero {s : Stl} : ∀ {n : Nat}, (turnsL s n).length = 0 ↔ ∀ k : Nat, k < n → turnsI (machG s) (k : Int) = false
  | 0 => by simp [turnsL]
  | n + 1 => by
    have ih := turnsL_zero (s := s) (n := n)
    simp only [turnsL, List.length_append]
    constructor
    · intro h k hk
      by_cases e : k = n
      · subst e
        cases ht : turnsI (machG s) (k : Int) with
        | false => rfl
        | true => rw [if_pos ht] at h; simp at h
      · exact ih.1 (by omega) k (by omega)
    · intro h
      have h1 := ih.2 fun k hk => h k (by omega)
      rw [if_neg (by rw [h n (by omega)]; simp)]
      simp; exact List.length_eq_zero_iff.1 h1
def turnsK (s : Stl) : List Int × Int := if checkK s = 0 then (turnsL s s.worth.length, 0) else ([], 60)
theorem worth_len {s : Stl} (h : checkK s = 0) : s.worth.length ≤ 8 := by
  obtain ⟨hm, es⟩ := mok_G (isSome_of h)
  have := (stPre_of hm.st).2.1
  rw [es] at this; exact this
theorem f106b : Try.f106.body = some (bodyAt Try.prog 106) := by kernel_rfl
theorem p106_start_0 (k : Int) (m : Mch)   {E : Env} {res : AV} (hE : PureE Try.prog 106 res E) (ho : AllP [true = true, true = true, PureF Try.prog (.clos 76 [] []) [.int .i64 k] (.clos 113 [] [.rptr [.int .i64 k] 0]), PureF Try.prog (.clos 77 [] []) [.rptr [.rsl (rowStg m.s.stages) 0 m.s.stages.length, .rsl (rowI m.s.worth) 0 m.s.worth.length, .int .i64 m.s.price, .rsl (rowI m.meas) 0 m.meas.length, .rsl (rowI m.mult) 0 m.mult.length] 0, .int .i64 1, .int .i64 1] (.clos 114 [] [.rptr [.int .i64 1] 0, .rptr [.rptr [.rsl (rowStg m.s.stages) 0 m.s.stages.length, .rsl (rowI m.s.worth) 0 m.s.worth.length, .int .i64 m.s.price, .rsl (rowI m.meas) 0 m.meas.length, .rsl (rowI m.mult) 0 m.mult.length] 0] 0, .rptr [.int .i64 1] 0]), PureF Try.prog (.clos 75 [] []) [.rptr [.rsl (rowStg m.s.stages) 0 m.s.stages.length, .rsl (rowI m.s.worth) 0 m.s.worth.length, .int .i64 m.s.price, .rsl (rowI m.meas) 0 m.meas.length, .rsl (rowI m.mult) 0 m.mult.length] 0, .clos 113 [] [.rptr [.int .i64 k] 0], .clos 114 [] [.rptr [.int .i64 1] 0, .rptr [.rptr [.rsl (rowStg m.s.stages) 0 m.s.stages.length, .rsl (rowI m.s.worth) 0 m.s.worth.length, .int .i64 m.s.price, .rsl (rowI m.meas) 0 m.meas.length, .rsl (rowI m.mult) 0 m.mult.length] 0] 0, .rptr [.int .i64 1] 0]] (.agg [.int .i64 ((firstI m (onlyI k) (chooseI m 1 1)).num), .int .i64 ((firstI m (onlyI k) (chooseI m 1 1)).den)]), (0 : Int) ≤ 1 ∧ (1 : Int) < ((3 : Nat) : Int), (0 : Int) ≤ 1 ∧ (1 : Int) < ((3 : Nat) : Int), 10 ≤ 18, InR .i64 2, true = true, PureF Try.prog (.clos 76 [] []) [.int .i64 k] (.clos 113 [] [.rptr [.int .i64 k] 0]), PureF Try.prog (.clos 77 [] []) [.rptr [.rsl (rowStg m.s.stages) 0 m.s.stages.length, .rsl (rowI m.s.worth) 0 m.s.worth.length, .int .i64 m.s.price, .rsl (rowI m.meas) 0 m.meas.length, .rsl (rowI m.mult) 0 m.mult.length] 0, .int .i64 1, .int .i64 2] (.clos 114 [] [.rptr [.int .i64 1] 0, .rptr [.rptr [.rsl (rowStg m.s.stages) 0 m.s.stages.length, .rsl (rowI m.s.worth) 0 m.s.worth.length, .int .i64 m.s.price, .rsl (rowI m.meas) 0 m.meas.length, .rsl (rowI m.mult) 0 m.mult.length] 0] 0, .rptr [.int .i64 2] 0]), PureF Try.prog (.clos 75 [] []) [.rptr [.rsl (rowStg m.s.stages) 0 m.s.stages.length, .rsl (rowI m.s.worth) 0 m.s.worth.length, .int .i64 m.s.price, .rsl (rowI m.meas) 0 m.meas.length, .rsl (rowI m.mult) 0 m.mult.length] 0, .clos 113 [] [.rptr [.int .i64 k] 0], .clos 114 [] [.rptr [.int .i64 1] 0, .rptr [.rptr [.rsl (rowStg m.s.stages) 0 m.s.stages.length, .rsl (rowI m.s.worth) 0 m.s.worth.length, .int .i64 m.s.price, .rsl (rowI m.meas) 0 m.meas.length, .rsl (rowI m.mult) 0 m.mult.length] 0] 0, .rptr [.int .i64 2] 0]] (.agg [.int .i64 ((firstI m (onlyI k) (chooseI m 1 2)).num), .int .i64 ((firstI m (onlyI k) (chooseI m 1 2)).den)]), (0 : Int) ≤ 1 ∧ (1 : Int) < ((3 : Nat) : Int), (0 : Int) ≤ 2 ∧ (2 : Int) < ((3 : Nat) : Int), 12 ≤ 18, InR .i64 3, false = false, InR .i64 2, true = true, true = true, PureF Try.prog (.clos 76 [] []) [.int .i64 k] (.clos 113 [] [.rptr [.int .i64 k] 0]), PureF Try.prog (.clos 77 [] []) [.rptr [.rsl (rowStg m.s.stages) 0 m.s.stages.length, .rsl (rowI m.s.worth) 0 m.s.worth.length, .int .i64 m.s.price, .rsl (rowI m.meas) 0 m.meas.length, .rsl (rowI m.mult) 0 m.mult.length] 0, .int .i64 2, .int .i64 1] (.clos 114 [] [.rptr [.int .i64 2] 0, .rptr [.rptr [.rsl (rowStg m.s.stages) 0 m.s.stages.length, .rsl (rowI m.s.worth) 0 m.s.worth.length, .int .i64 m.s.price, .rsl (rowI m.meas) 0 m.meas.length, .rsl (rowI m.mult) 0 m.mult.length] 0] 0, .rptr [.int .i64 1] 0]), PureF Try.prog (.clos 75 [] []) [.rptr [.rsl (rowStg m.s.stages) 0 m.s.stages.length, .rsl (rowI m.s.worth) 0 m.s.worth.length, .int .i64 m.s.price, .rsl (rowI m.meas) 0 m.meas.length, .rsl (rowI m.mult) 0 m.mult.length] 0, .clos 113 [] [.rptr [.int .i64 k] 0], .clos 114 [] [.rptr [.int .i64 2] 0, .rptr [.rptr [.rsl (rowStg m.s.stages) 0 m.s.stages.length, .rsl (rowI m.s.worth) 0 m.s.worth.length, .int .i64 m.s.price, .rsl (rowI m.meas) 0 m.meas.length, .rsl (rowI m.mult) 0 m.mult.length] 0] 0, .rptr [.int .i64 1] 0]] (.agg [.int .i64 ((firstI m (onlyI k) (chooseI m 2 1)).num), .int .i64 ((firstI m (onlyI k) (chooseI m 2 1)).den)]), (0 : Int) ≤ 2 ∧ (2 : Int) < ((3 : Nat) : Int), (0 : Int) ≤ 1 ∧ (1 : Int) < ((3 : Nat) : Int), 16 ≤ 18, InR .i64 2, true = true, PureF Try.prog (.clos 76 [] []) [.int .i64 k] (.clos 113 [] [.rptr [.int .i64 k] 0]), PureF Try.prog (.clos 77 [] []) [.rptr [.rsl (rowStg m.s.stages) 0 m.s.stages.length, .rsl (rowI m.s.worth) 0 m.s.worth.length, .int .i64 m.s.price, .rsl (rowI m.meas) 0 m.meas.length, .rsl (rowI m.mult) 0 m.mult.length] 0, .int .i64 2, .int .i64 2] (.clos 114 [] [.rptr [.int .i64 2] 0, .rptr [.rptr [.rsl (rowStg m.s.stages) 0 m.s.stages.length, .rsl (rowI m.s.worth) 0 m.s.worth.length, .int .i64 m.s.price, .rsl (rowI m.meas) 0 m.meas.length, .rsl (rowI m.mult) 0 m.mult.length] 0] 0, .rptr [.int .i64 2] 0]), PureF Try.prog (.clos 75 [] []) [.rptr [.rsl (rowStg m.s.stages) 0 m.s.stages.length, .rsl (rowI m.s.worth) 0 m.s.worth.length, .int .i64 m.s.price, .rsl (rowI m.meas) 0 m.meas.length, .rsl (rowI m.mult) 0 m.mult.length] 0, .clos 113 [] [.rptr [.int .i64 k] 0], .clos 114 [] [.rptr [.int .i64 2] 0, .rptr [.rptr [.rsl (rowStg m.s.stages) 0 m.s.stages.length, .rsl (rowI m.s.worth) 0 m.s.worth.length, .int .i64 m.s.price, .rsl (rowI m.meas) 0 m.meas.length, .rsl (rowI m.mult) 0 m.mult.length] 0] 0, .rptr [.int .i64 2] 0]] (.agg [.int .i64 ((firstI m (onlyI k) (chooseI m 2 2)).num), .int .i64 ((firstI m (onlyI k) (chooseI m 2 2)).den)]), (0 : Int) ≤ 2 ∧ (2 : Int) < ((3 : Nat) : Int), (0 : Int) ≤ 2 ∧ (2 : Int) < ((3 : Nat) : Int), 18 ≤ 18, InR .i64 3, false = false, InR .i64 3, false = false, 18 ≤ 18])
    (hr : AvLe (.agg [.int .i64 0, .int .i64 0, .int .i64 0, .int .i64 0, .int .i64 0, .int .i64 0, .int .i64 0, .int .i64 0, .int .i64 ((firstI m (onlyI k) (chooseI m 1 1)).num), .int .i64 ((firstI m (onlyI k) (chooseI m 1 1)).den), .int .i64 ((firstI m (onlyI k) (chooseI m 1 2)).num), .int .i64 ((firstI m (onlyI k) (chooseI m 1 2)).den), .int .i64 0, .int .i64 0, .int .i64 ((firstI m (onlyI k) (chooseI m 2 1)).num), .int .i64 ((firstI m (onlyI k) (chooseI m 2 1)).den), .int .i64 ((firstI m (onlyI k) (chooseI m 2 2)).num), .int .i64 ((firstI m (onlyI k) (chooseI m 2 2)).den)]) res) : G Try.prog E [.code (bodyAt Try.prog 106)] ⟨[.rptr [.rsl (rowStg m.s.stages) 0 m.s.stages.length, .rsl (rowI m.s.worth) 0 m.s.worth.length, .int .i64 m.s.price, .rsl (rowI m.meas) 0 m.meas.length, .rsl (rowI m.mult) 0 m.mult.length] 0, .int .i64 k] ++ unds (Try.f106.ntmps - 2), []⟩ :=
  end_stepL (n := 400) (evs := [.b true, .b true, .v (.clos 113 [] [.rptr [.int .i64 k] 0]), .v (.clos 114 [] [.rptr [.int .i64 1] 0, .rptr [.rptr [.rsl (rowStg m.s.stages) 0 m.s.stages.length, .rsl (rowI m.s.worth) 0 m.s.worth.length, .int .i64 m.s.price, .rsl (rowI m.meas) 0 m.meas.length, .rsl (rowI m.mult) 0 m.mult.length] 0] 0, .rptr [.int .i64 1] 0]), .v (.agg [.int .i64 ((firstI m (onlyI k) (chooseI m 1 1)).num), .int .i64 ((firstI m (onlyI k) (chooseI m 1 1)).den)]), .b true, .v (.clos 113 [] [.rptr [.int .i64 k] 0]), .v (.clos 114 [] [.rptr [.int .i64 1] 0, .rptr [.rptr [.rsl (rowStg m.s.stages) 0 m.s.stages.length, .rsl (rowI m.s.worth) 0 m.s.worth.length, .int .i64 m.s.price, .rsl (rowI m.meas) 0 m.meas.length, .rsl (rowI m.mult) 0 m.mult.length] 0] 0, .rptr [.int .i64 2] 0]), .v (.agg [.int .i64 ((firstI m (onlyI k) (chooseI m 1 2)).num), .int .i64 ((firstI m (onlyI k) (chooseI m 1 2)).den)]), .b false, .b true, .b true, .v (.clos 113 [] [.rptr [.int .i64 k] 0]), .v (.clos 114 [] [.rptr [.int .i64 2] 0, .rptr [.rptr [.rsl (rowStg m.s.stages) 0 m.s.stages.length, .rsl (rowI m.s.worth) 0 m.s.worth.length, .int .i64 m.s.price, .rsl (rowI m.meas) 0 m.meas.length, .rsl (rowI m.mult) 0 m.mult.length] 0] 0, .rptr [.int .i64 1] 0]), .v (.agg [.int .i64 ((firstI m (onlyI k) (chooseI m 2 1)).num), .int .i64 ((firstI m (onlyI k) (chooseI m 2 1)).den)]), .b true, .v (.clos 113 [] [.rptr [.int .i64 k] 0]), .v (.clos 114 [] [.rptr [.int .i64 2] 0, .rptr [.rptr [.rsl (rowStg m.s.stages) 0 m.s.stages.length, .rsl (rowI m.s.worth) 0 m.s.worth.length, .int .i64 m.s.price, .rsl (rowI m.meas) 0 m.meas.length, .rsl (rowI m.mult) 0 m.mult.length] 0] 0, .rptr [.int .i64 2] 0]), .v (.agg [.int .i64 ((firstI m (onlyI k) (chooseI m 2 2)).num), .int .i64 ((firstI m (onlyI k) (chooseI m 2 2)).den)]), .b false, .b false]) (obs := _) hE Try.func106 mixed (by kernel_rfl) ho hr
theorem f106W (k : Int) (m : Mch) {E : Env} {rv : AV} (hE : PureE Try.prog 106 rv E)
    (h : ((MOk m) ∧ ((MOk m) ∧ ((MOk m) ∧ ((MOk m) ∧ rv = (.agg [.int .i64 0, .int .i64 0, .int .i64 0, .int .i64 0, .int .i64 0, .int .i64 0, .int .i64 0, .int .i64 0, .int .i64 ((firstI m (onlyI k) (chooseI m 1 1)).num), .int .i64 ((firstI m (onlyI k) (chooseI m 1 1)).den), .int .i64 ((firstI m (onlyI k) (chooseI m 1 2)).num), .int .i64 ((firstI m (onlyI k) (chooseI m 1 2)).den), .int .i64 0, .int .i64 0, .int .i64 ((firstI m (onlyI k) (chooseI m 2 1)).num), .int .i64 ((firstI m (onlyI k) (chooseI m 2 1)).den), .int .i64 ((firstI m (onlyI k) (chooseI m 2 2)).num), .int .i64 ((firstI m (onlyI k) (chooseI m 2 2)).den)])))))) : G Try.prog E [.code (bodyAt Try.prog 106)] ⟨[.rptr [.rsl (rowStg m.s.stages) 0 m.s.stages.length, .rsl (rowI m.s.worth) 0 m.s.worth.length, .int .i64 m.s.price, .rsl (rowI m.meas) 0 m.meas.length, .rsl (rowI m.mult) 0 m.mult.length] 0, .int .i64 k] ++ unds (Try.f106.ntmps - 2), []⟩ := by
  obtain ⟨h1, h⟩ := h
  obtain ⟨h2, h⟩ := h
  obtain ⟨h3, h⟩ := h
  obtain ⟨h4, h⟩ := h
  exact p106_start_0 k m    hE ⟨rfl, rfl, (pureF_of Try.func76 (by kernel_rfl) f76b (mkonly_ok k)), (pureF_of Try.func77 (by kernel_rfl) f77b (mkaims_ok m 1 1)), (pureF_of Try.func75 (by kernel_rfl) f75ob (firsto_ok m k 1 1 h1)), (⟨by decide, by decide⟩), (⟨by decide, by decide⟩), (by decide), (⟨by decide, by decide⟩), rfl, (pureF_of Try.func76 (by kernel_rfl) f76b (mkonly_ok k)), (pureF_of Try.func77 (by kernel_rfl) f77b (mkaims_ok m 1 2)), (pureF_of Try.func75 (by kernel_rfl) f75ob (firsto_ok m k 1 2 h2)), (⟨by decide, by decide⟩), (⟨by decide, by decide⟩), (by decide), (⟨by decide, by decide⟩), rfl, (⟨by decide, by decide⟩), rfl, rfl, (pureF_of Try.func76 (by kernel_rfl) f76b (mkonly_ok k)), (pureF_of Try.func77 (by kernel_rfl) f77b (mkaims_ok m 2 1)), (pureF_of Try.func75 (by kernel_rfl) f75ob (firsto_ok m k 2 1 h3)), (⟨by decide, by decide⟩), (⟨by decide, by decide⟩), (by decide), (⟨by decide, by decide⟩), rfl, (pureF_of Try.func76 (by kernel_rfl) f76b (mkonly_ok k)), (pureF_of Try.func77 (by kernel_rfl) f77b (mkaims_ok m 2 2)), (pureF_of Try.func75 (by kernel_rfl) f75ob (firsto_ok m k 2 2 h4)), (⟨by decide, by decide⟩), (⟨by decide, by decide⟩), (by decide), (⟨by decide, by decide⟩), rfl, (⟨by decide, by decide⟩), rfl, (by decide), trivial⟩ (AvLe.of_eq (by rw [h]; try rfl))

theorem odds4_ok (m : Mch) (k : Int) (hm : MOk m) : Pure Try.prog 106 [.rptr (cMch m) 0, .int .i64 k] (.agg [.int .i64 0, .int .i64 0, .int .i64 0, .int .i64 0, .int .i64 0, .int .i64 0, .int .i64 0, .int .i64 0, .int .i64 ((firstI m (onlyI k) (chooseI m 1 1)).num), .int .i64 ((firstI m (onlyI k) (chooseI m 1 1)).den), .int .i64 ((firstI m (onlyI k) (chooseI m 1 2)).num), .int .i64 ((firstI m (onlyI k) (chooseI m 1 2)).den), .int .i64 0, .int .i64 0, .int .i64 ((firstI m (onlyI k) (chooseI m 2 1)).num), .int .i64 ((firstI m (onlyI k) (chooseI m 2 1)).den), .int .i64 ((firstI m (onlyI k) (chooseI m 2 2)).num), .int .i64 ((firstI m (onlyI k) (chooseI m 2 2)).den)]) := pure_of Try.func106 f106b fun E hE => f106W k m hE ⟨hm, hm, hm, hm, rfl⟩

theorem f105b : Try.f105.body = some (bodyAt Try.prog 105) := by kernel_rfl
theorem p105_start_0 (k : Int) (m : Mch)   {E : Env} {res : AV} (hE : PureE Try.prog 105 res E) (ho : AllP [PureF Try.prog (.clos 106 [] []) [.rptr [.rsl (rowStg m.s.stages) 0 m.s.stages.length, .rsl (rowI m.s.worth) 0 m.s.worth.length, .int .i64 m.s.price, .rsl (rowI m.meas) 0 m.meas.length, .rsl (rowI m.mult) 0 m.mult.length] 0, .int .i64 k] (.agg [.int .i64 0, .int .i64 0, .int .i64 0, .int .i64 0, .int .i64 0, .int .i64 0, .int .i64 0, .int .i64 0, .int .i64 ((firstI m (onlyI k) (chooseI m 1 1)).num), .int .i64 ((firstI m (onlyI k) (chooseI m 1 1)).den), .int .i64 ((firstI m (onlyI k) (chooseI m 1 2)).num), .int .i64 ((firstI m (onlyI k) (chooseI m 1 2)).den), .int .i64 0, .int .i64 0, .int .i64 ((firstI m (onlyI k) (chooseI m 2 1)).num), .int .i64 ((firstI m (onlyI k) (chooseI m 2 1)).den), .int .i64 ((firstI m (onlyI k) (chooseI m 2 2)).num), .int .i64 ((firstI m (onlyI k) (chooseI m 2 2)).den)]), 18 ≤ 18, (0 : Int) ≤ 1 ∧ (1 : Int) < ((3 : Nat) : Int), (0 : Int) ≤ 1 ∧ (1 : Int) < ((3 : Nat) : Int), (0 : Int) ≤ 1 ∧ (1 : Int) < ((3 : Nat) : Int), (0 : Int) ≤ 2 ∧ (2 : Int) < ((3 : Nat) : Int), (!((firstI m (onlyI k) (chooseI m 1 1)).num == (firstI m (onlyI k) (chooseI m 1 2)).num && ((firstI m (onlyI k) (chooseI m 1 1)).den == (firstI m (onlyI k) (chooseI m 1 2)).den && true))) = true])
    (hr : AvLe (.bool true) res) : G Try.prog E [.code (bodyAt Try.prog 105)] ⟨[.rptr [.rsl (rowStg m.s.stages) 0 m.s.stages.length, .rsl (rowI m.s.worth) 0 m.s.worth.length, .int .i64 m.s.price, .rsl (rowI m.meas) 0 m.meas.length, .rsl (rowI m.mult) 0 m.mult.length] 0, .int .i64 k] ++ unds (Try.f105.ntmps - 2), []⟩ :=
  end_stepL (n := 400) (evs := [.v (.agg [.int .i64 0, .int .i64 0, .int .i64 0, .int .i64 0, .int .i64 0, .int .i64 0, .int .i64 0, .int .i64 0, .int .i64 ((firstI m (onlyI k) (chooseI m 1 1)).num), .int .i64 ((firstI m (onlyI k) (chooseI m 1 1)).den), .int .i64 ((firstI m (onlyI k) (chooseI m 1 2)).num), .int .i64 ((firstI m (onlyI k) (chooseI m 1 2)).den), .int .i64 0, .int .i64 0, .int .i64 ((firstI m (onlyI k) (chooseI m 2 1)).num), .int .i64 ((firstI m (onlyI k) (chooseI m 2 1)).den), .int .i64 ((firstI m (onlyI k) (chooseI m 2 2)).num), .int .i64 ((firstI m (onlyI k) (chooseI m 2 2)).den)]), .b true]) (obs := _) hE Try.func105 mixed (by kernel_rfl) ho hr
theorem p105_start_1 (k : Int) (m : Mch)   {E : Env} {res : AV} (hE : PureE Try.prog 105 res E) (ho : AllP [PureF Try.prog (.clos 106 [] []) [.rptr [.rsl (rowStg m.s.stages) 0 m.s.stages.length, .rsl (rowI m.s.worth) 0 m.s.worth.length, .int .i64 m.s.price, .rsl (rowI m.meas) 0 m.meas.length, .rsl (rowI m.mult) 0 m.mult.length] 0, .int .i64 k] (.agg [.int .i64 0, .int .i64 0, .int .i64 0, .int .i64 0, .int .i64 0, .int .i64 0, .int .i64 0, .int .i64 0, .int .i64 ((firstI m (onlyI k) (chooseI m 1 1)).num), .int .i64 ((firstI m (onlyI k) (chooseI m 1 1)).den), .int .i64 ((firstI m (onlyI k) (chooseI m 1 2)).num), .int .i64 ((firstI m (onlyI k) (chooseI m 1 2)).den), .int .i64 0, .int .i64 0, .int .i64 ((firstI m (onlyI k) (chooseI m 2 1)).num), .int .i64 ((firstI m (onlyI k) (chooseI m 2 1)).den), .int .i64 ((firstI m (onlyI k) (chooseI m 2 2)).num), .int .i64 ((firstI m (onlyI k) (chooseI m 2 2)).den)]), 18 ≤ 18, (0 : Int) ≤ 1 ∧ (1 : Int) < ((3 : Nat) : Int), (0 : Int) ≤ 1 ∧ (1 : Int) < ((3 : Nat) : Int), (0 : Int) ≤ 1 ∧ (1 : Int) < ((3 : Nat) : Int), (0 : Int) ≤ 2 ∧ (2 : Int) < ((3 : Nat) : Int), (!((firstI m (onlyI k) (chooseI m 1 1)).num == (firstI m (onlyI k) (chooseI m 1 2)).num && ((firstI m (onlyI k) (chooseI m 1 1)).den == (firstI m (onlyI k) (chooseI m 1 2)).den && true))) = false, (0 : Int) ≤ 2 ∧ (2 : Int) < ((3 : Nat) : Int), (0 : Int) ≤ 1 ∧ (1 : Int) < ((3 : Nat) : Int), (0 : Int) ≤ 2 ∧ (2 : Int) < ((3 : Nat) : Int), (0 : Int) ≤ 2 ∧ (2 : Int) < ((3 : Nat) : Int)])
    (hr : AvLe (.bool (!((firstI m (onlyI k) (chooseI m 2 1)).num == (firstI m (onlyI k) (chooseI m 2 2)).num && ((firstI m (onlyI k) (chooseI m 2 1)).den == (firstI m (onlyI k) (chooseI m 2 2)).den && true)))) res) : G Try.prog E [.code (bodyAt Try.prog 105)] ⟨[.rptr [.rsl (rowStg m.s.stages) 0 m.s.stages.length, .rsl (rowI m.s.worth) 0 m.s.worth.length, .int .i64 m.s.price, .rsl (rowI m.meas) 0 m.meas.length, .rsl (rowI m.mult) 0 m.mult.length] 0, .int .i64 k] ++ unds (Try.f105.ntmps - 2), []⟩ :=
  end_stepL (n := 400) (evs := [.v (.agg [.int .i64 0, .int .i64 0, .int .i64 0, .int .i64 0, .int .i64 0, .int .i64 0, .int .i64 0, .int .i64 0, .int .i64 ((firstI m (onlyI k) (chooseI m 1 1)).num), .int .i64 ((firstI m (onlyI k) (chooseI m 1 1)).den), .int .i64 ((firstI m (onlyI k) (chooseI m 1 2)).num), .int .i64 ((firstI m (onlyI k) (chooseI m 1 2)).den), .int .i64 0, .int .i64 0, .int .i64 ((firstI m (onlyI k) (chooseI m 2 1)).num), .int .i64 ((firstI m (onlyI k) (chooseI m 2 1)).den), .int .i64 ((firstI m (onlyI k) (chooseI m 2 2)).num), .int .i64 ((firstI m (onlyI k) (chooseI m 2 2)).den)]), .b false]) (obs := _) hE Try.func105 mixed (by kernel_rfl) ho hr
theorem f105W (k : Int) (m : Mch) {E : Env} {rv : Bool} (hE : PureE Try.prog 105 (.bool rv) E)
    (h : ((MOk m) ∧ ((((firstI m (onlyI k) (chooseI m 1 1)).num == (firstI m (onlyI k) (chooseI m 1 2)).num && ((firstI m (onlyI k) (chooseI m 1 1)).den == (firstI m (onlyI k) (chooseI m 1 2)).den && true)) = false → rv = true) ∧ (((firstI m (onlyI k) (chooseI m 1 1)).num == (firstI m (onlyI k) (chooseI m 1 2)).num && ((firstI m (onlyI k) (chooseI m 1 1)).den == (firstI m (onlyI k) (chooseI m 1 2)).den && true)) = true → rv = (!((firstI m (onlyI k) (chooseI m 2 1)).num == (firstI m (onlyI k) (chooseI m 2 2)).num && ((firstI m (onlyI k) (chooseI m 2 1)).den == (firstI m (onlyI k) (chooseI m 2 2)).den && true))))))) : G Try.prog E [.code (bodyAt Try.prog 105)] ⟨[.rptr [.rsl (rowStg m.s.stages) 0 m.s.stages.length, .rsl (rowI m.s.worth) 0 m.s.worth.length, .int .i64 m.s.price, .rsl (rowI m.meas) 0 m.meas.length, .rsl (rowI m.mult) 0 m.mult.length] 0, .int .i64 k] ++ unds (Try.f105.ntmps - 2), []⟩ := by
  obtain ⟨h1, h⟩ := h
  rcases Bool.eq_false_or_eq_true (!((firstI m (onlyI k) (chooseI m 1 1)).num == (firstI m (onlyI k) (chooseI m 1 2)).num && ((firstI m (onlyI k) (chooseI m 1 1)).den == (firstI m (onlyI k) (chooseI m 1 2)).den && true))) with hc0 | hc0
  · have h := h.1 (bnT hc0)
    exact p105_start_0 k m    hE ⟨(pureF_of Try.func106 (by kernel_rfl) f106b (odds4_ok m k h1)), (by decide), (⟨by decide, by decide⟩), (⟨by decide, by decide⟩), (⟨by decide, by decide⟩), (⟨by decide, by decide⟩), hc0, trivial⟩ (AvLe.of_eq (by rw [h]; try rfl))
  · have h := h.2 (bnF hc0)
    exact p105_start_1 k m    hE ⟨(pureF_of Try.func106 (by kernel_rfl) f106b (odds4_ok m k h1)), (by decide), (⟨by decide, by decide⟩), (⟨by decide, by decide⟩), (⟨by decide, by decide⟩), (⟨by decide, by decide⟩), hc0, (⟨by decide, by decide⟩), (⟨by decide, by decide⟩), (⟨by decide, by decide⟩), (⟨by decide, by decide⟩), trivial⟩ (AvLe.of_eq (by rw [h]; try rfl))

theorem turns1_ok (m : Mch) (k : Int) (hm : MOk m) : Pure Try.prog 105 [.rptr (cMch m) 0, .int .i64 k] (.bool (turnsI m k)) := pure_of Try.func105 f105b fun E hE => by
  refine f105W k m (rv := turnsI m k) hE ⟨hm, fun h => ?_, fun h => ?_⟩
  · rw [first_eq hm] at h
    rw [turnsI, oddV, oddV, bne, h]; rfl
  · rw [first_eq hm] at h ⊢
    rw [turnsI, oddV, oddV, oddV, oddV, bne, h]; rfl

theorem f53b : Try.f53.body = some (bodyAt Try.prog 53) := by kernel_rfl
def f53K0 (P : Program) : List Item := kAt 400 [.code (bodyAt P 53)] [.b false, .stop]
def f53S0 (s : Stl) (i : Nat) (v1 : List Int) (g1 : Nat) : St := ⟨[J, J, .sl 1 g1 0 v1.length 1, J, .rptr [.rsl (rowStg (((machG s).s).stages)) 0 ((((machG s).s).stages).length), .rsl (rowI (((machG s).s).worth)) 0 ((((machG s).s).worth).length), .int .i64 (((machG s).s).price), .rsl (rowI ((machG s).meas)) 0 (((machG s).meas).length), .rsl (rowI ((machG s).mult)) 0 (((machG s).mult).length)] 0, J, J, J, J, J, J, J, J, J, J, J, J, J, J, .int .i64 (((((machG s).s).worth).length : Nat) : Int), .int .i64 (i : Int), J, J, J, J, J, J, J, J, J, J, J], [⟨true, 0, 1, true, [.rsl (rowStg s.stages) 0 s.stages.length, .rsl (rowI s.worth) 0 s.worth.length, .int .i64 s.price], false⟩, ⟨true, g1, 1, true, (rowI v1), true⟩]⟩
def f53G0 (E : Env) (s : Stl) (i : Nat) (v1 : List Int) : Prop := ∀ g1 : Nat, G Try.prog E (f53K0 Try.prog) (f53S0 s i v1 g1)
theorem p53_start_0 (s : Stl)   {E : Env} {rv : AV} (hE : PureE Try.prog 53 rv E) (ho : AllP [PureF Try.prog (.clos 71 [] []) [.agg [.rsl (rowStg s.stages) 0 s.stages.length, .rsl (rowI s.worth) 0 s.worth.length, .int .i64 s.price], .clos 104 [] []] (.tup [.rptr [.rsl (rowStg (((machG s).s).stages)) 0 ((((machG s).s).stages).length), .rsl (rowI (((machG s).s).worth)) 0 ((((machG s).s).worth).length), .int .i64 (((machG s).s).price), .rsl (rowI ((machG s).meas)) 0 (((machG s).meas).length), .rsl (rowI ((machG s).mult)) 0 (((machG s).mult).length)] 0, .int .i64 0]), false = false])
    (hg : G Try.prog E (f53K0 Try.prog) ⟨[J, J, .sl 1 0 0 0 1, J, .rptr [.rsl (rowStg (((machG s).s).stages)) 0 ((((machG s).s).stages).length), .rsl (rowI (((machG s).s).worth)) 0 ((((machG s).s).worth).length), .int .i64 (((machG s).s).price), .rsl (rowI ((machG s).meas)) 0 (((machG s).meas).length), .rsl (rowI ((machG s).mult)) 0 (((machG s).mult).length)] 0, J, J, J, J, J, J, J, J, J, J, J, J, J, J, .int .i64 (((((machG s).s).worth).length : Nat) : Int), .int .i64 0, J, J, J, J, J, J, J, J, J, J, J], [⟨true, 0, 1, true, [.rsl (rowStg s.stages) 0 s.stages.length, .rsl (rowI s.worth) 0 s.worth.length, .int .i64 s.price], false⟩, ⟨true, 0, 1, true, [], true⟩]⟩) : G Try.prog E [.code (bodyAt Try.prog 53)] ⟨[.agg [.rsl (rowStg s.stages) 0 s.stages.length, .rsl (rowI s.worth) 0 s.worth.length, .int .i64 s.price]] ++ unds (Try.f53.ntmps - 1), []⟩ :=
  segC_step (n := 400) (ds := [(2, 1)]) (cs := []) (live := [2, 4, 19, 20]) (m := 2) (evs := [.v (.tup [.rptr [.rsl (rowStg (((machG s).s).stages)) 0 ((((machG s).s).stages).length), .rsl (rowI (((machG s).s).worth)) 0 ((((machG s).s).worth).length), .int .i64 (((machG s).s).price), .rsl (rowI ((machG s).meas)) 0 (((machG s).meas).length), .rsl (rowI ((machG s).mult)) 0 (((machG s).mult).length)] 0, .int .i64 0]), .b false, .stop]) (obs := _) hE.2.1 (hE.nogh _) mixed (by kernel_rfl) ho hg
theorem p53_start_1 (s : Stl)   {E : Env} {res : AV} (hE : PureE Try.prog 53 res E) (ho : AllP [PureF Try.prog (.clos 71 [] []) [.agg [.rsl (rowStg s.stages) 0 s.stages.length, .rsl (rowI s.worth) 0 s.worth.length, .int .i64 s.price], .clos 104 [] []] (.tup [.nilPtr, .int .i64 60]), true = true])
    (hr : AvLe (.tup [.nilSl, .int .i64 60]) res) : G Try.prog E [.code (bodyAt Try.prog 53)] ⟨[.agg [.rsl (rowStg s.stages) 0 s.stages.length, .rsl (rowI s.worth) 0 s.worth.length, .int .i64 s.price]] ++ unds (Try.f53.ntmps - 1), []⟩ :=
  end_stepL (n := 400) (evs := [.v (.tup [.nilPtr, .int .i64 60]), .b true]) (obs := _) hE Try.func53 mixed (by kernel_rfl) ho hr
theorem f53W (s : Stl) {E : Env} {rv : ((List Int) × Int)} (hE : PureE Try.prog 53 (.tup [.rsl (rowI rv.1) 0 rv.1.length, .int .i64 rv.2]) E)
    (h : ((((machI s).isSome) = true → ((s.stages.length ≤ 9223372036854775807 ∧ s.worth.length ≤ 9223372036854775807) ∧ f53G0 E s 0 ([]))) ∧ (((machI s).isSome) = false → ((s.stages.length ≤ 9223372036854775807 ∧ s.worth.length ≤ 9223372036854775807) ∧ rv = (([] : List Int), 60))))) : G Try.prog E [.code (bodyAt Try.prog 53)] ⟨[.agg [.rsl (rowStg s.stages) 0 s.stages.length, .rsl (rowI s.worth) 0 s.worth.length, .int .i64 s.price]] ++ unds (Try.f53.ntmps - 1), []⟩ := by
  rcases Bool.eq_false_or_eq_true ((machI s).isSome) with hc0 | hc0
  · have h := h.1 hc0
    obtain ⟨h1, h⟩ := h
    exact p53_start_0 s    hE ⟨(pureF_of Try.func71 (by kernel_rfl) f71x104b (begR_T hc0 rfl ▸ beg104_ok s h1)), rfl, trivial⟩ (h 0)
  · have h := h.2 hc0
    obtain ⟨h1, h⟩ := h
    exact p53_start_1 s    hE ⟨(pureF_of Try.func71 (by kernel_rfl) f71x104b (begR_F0 hc0 ▸ beg104_ok s h1)), rfl, trivial⟩ (by rw [h]; exact (tup_le ⟨nil_le, ⟨AvLe.of_eq rfl, trivial⟩⟩))
theorem p53_0_0 (s : Stl) (i : Nat) (v1 : List Int) (g1 : Nat)  {E : Env} {rv : AV} (hE : PureE Try.prog 53 rv E) (ho : AllP [(decide ((i : Int) < (((((machG s).s).worth).length : Nat) : Int))) = true, PureF Try.prog (.clos 105 [] []) [.rptr [.rsl (rowStg (((machG s).s).stages)) 0 ((((machG s).s).stages).length), .rsl (rowI (((machG s).s).worth)) 0 ((((machG s).s).worth).length), .int .i64 (((machG s).s).price), .rsl (rowI ((machG s).meas)) 0 (((machG s).meas).length), .rsl (rowI ((machG s).mult)) 0 (((machG s).mult).length)] 0, .int .i64 (i : Int)] (.bool (turnsI (machG s) (i : Int))), (turnsI (machG s) (i : Int)) = true, g1 = g1, (0 + (v1.length * 1)) = (rowI v1).length, (v1.length + 1) ≤ 2147483648, 0 = 0, InR .i64 ((i : Int) + 1)])
    (hg : G Try.prog E (f53K0 Try.prog) ⟨[J, J, .sl 1 (g1 + 1) 0 (v1.length + 1) 1, J, .rptr [.rsl (rowStg (((machG s).s).stages)) 0 ((((machG s).s).stages).length), .rsl (rowI (((machG s).s).worth)) 0 ((((machG s).s).worth).length), .int .i64 (((machG s).s).price), .rsl (rowI ((machG s).meas)) 0 (((machG s).meas).length), .rsl (rowI ((machG s).mult)) 0 (((machG s).mult).length)] 0, J, J, J, J, J, J, J, J, J, J, J, J, J, J, .int .i64 (((((machG s).s).worth).length : Nat) : Int), .int .i64 ((i : Int) + 1), J, J, J, J, J, J, J, J, J, J, J], [⟨true, 0, 1, true, [.rsl (rowStg s.stages) 0 s.stages.length, .rsl (rowI s.worth) 0 s.worth.length, .int .i64 s.price], false⟩, ⟨true, (g1 + 1), 1, true, ((rowI v1) ++ [.int .i64 (i : Int)]), true⟩]⟩) : G Try.prog E (f53K0 Try.prog) (f53S0 s i v1 g1) :=
  segC_step (n := 400) (ds := []) (cs := []) (live := [2, 4, 19, 20]) (m := 2) (evs := [.b true, .v (.bool (turnsI (machG s) (i : Int))), .b true, .stop]) (obs := _) hE.2.1 (hE.nogh _) mixed (by kernel_rfl) ho hg
theorem p53_0_1 (s : Stl) (i : Nat) (v1 : List Int) (g1 : Nat)  {E : Env} {rv : AV} (hE : PureE Try.prog 53 rv E) (ho : AllP [(decide ((i : Int) < (((((machG s).s).worth).length : Nat) : Int))) = true, PureF Try.prog (.clos 105 [] []) [.rptr [.rsl (rowStg (((machG s).s).stages)) 0 ((((machG s).s).stages).length), .rsl (rowI (((machG s).s).worth)) 0 ((((machG s).s).worth).length), .int .i64 (((machG s).s).price), .rsl (rowI ((machG s).meas)) 0 (((machG s).meas).length), .rsl (rowI ((machG s).mult)) 0 (((machG s).mult).length)] 0, .int .i64 (i : Int)] (.bool (turnsI (machG s) (i : Int))), (turnsI (machG s) (i : Int)) = false, InR .i64 ((i : Int) + 1)])
    (hg : G Try.prog E (f53K0 Try.prog) ⟨[J, J, .sl 1 g1 0 v1.length 1, J, .rptr [.rsl (rowStg (((machG s).s).stages)) 0 ((((machG s).s).stages).length), .rsl (rowI (((machG s).s).worth)) 0 ((((machG s).s).worth).length), .int .i64 (((machG s).s).price), .rsl (rowI ((machG s).meas)) 0 (((machG s).meas).length), .rsl (rowI ((machG s).mult)) 0 (((machG s).mult).length)] 0, J, J, J, J, J, J, J, J, J, J, J, J, J, J, .int .i64 (((((machG s).s).worth).length : Nat) : Int), .int .i64 ((i : Int) + 1), J, J, J, J, J, J, J, J, J, J, J], [⟨true, 0, 1, true, [.rsl (rowStg s.stages) 0 s.stages.length, .rsl (rowI s.worth) 0 s.worth.length, .int .i64 s.price], false⟩, ⟨true, g1, 1, true, (rowI v1), true⟩]⟩) : G Try.prog E (f53K0 Try.prog) (f53S0 s i v1 g1) :=
  segC_step (n := 400) (ds := []) (cs := []) (live := [2, 4, 19, 20]) (m := 2) (evs := [.b true, .v (.bool (turnsI (machG s) (i : Int))), .b false, .stop]) (obs := _) hE.2.1 (hE.nogh _) mixed (by kernel_rfl) ho hg
theorem p53_0_2 (s : Stl) (i : Nat) (v1 : List Int) (g1 : Nat)  {E : Env} {res : AV} (hE : PureE Try.prog 53 res E) (ho : AllP [(decide ((i : Int) < (((((machG s).s).worth).length : Nat) : Int))) = false, g1 = g1])
    (hr : AvLe (.tup [.rsl (rowI v1) 0 v1.length, .int .i64 0]) res) : G Try.prog E (f53K0 Try.prog) (f53S0 s i v1 g1) :=
  end_stepL (n := 400) (evs := [.b false]) (obs := _) hE Try.func53 mixed (by kernel_rfl) ho hr
theorem f53W0 (s : Stl) (i : Nat) (v1 : List Int) {E : Env} {rv : ((List Int) × Int)} (hE : PureE Try.prog 53 (.tup [.rsl (rowI rv.1) 0 rv.1.length, .int .i64 rv.2]) E)
    (h : (((i : Int) < (((((machG s).s).worth).length : Nat) : Int) → ((MOk (machG s)) ∧ (((turnsI (machG s) (i : Int)) = true → ((v1.length + 1) ≤ 2147483648 ∧ ((-9223372036854775808 ≤ (i : Int) + 1 ∧ (i : Int) + 1 ≤ 9223372036854775807) ∧ f53G0 E s (i + 1) (v1 ++ [(i : Int)])))) ∧ ((turnsI (machG s) (i : Int)) = false → ((-9223372036854775808 ≤ (i : Int) + 1 ∧ (i : Int) + 1 ≤ 9223372036854775807) ∧ f53G0 E s (i + 1) v1))))) ∧ (¬ ((i : Int) < (((((machG s).s).worth).length : Nat) : Int)) → rv = (v1, 0)))) : f53G0 E s i v1 := by
  intro g1
  rcases Bool.eq_false_or_eq_true (decide ((i : Int) < (((((machG s).s).worth).length : Nat) : Int))) with hc0 | hc0
  · have h := h.1 (of_decide_eq_true hc0)
    obtain ⟨h1, h⟩ := h
    rcases Bool.eq_false_or_eq_true (turnsI (machG s) (i : Int)) with hc1 | hc1
    · have h := h.1 hc1
      obtain ⟨h2, h⟩ := h
      obtain ⟨q7_2, h⟩ := h
      refine p53_0_0 s i v1 g1  hE ⟨hc0, (pureF_of Try.func105 (by kernel_rfl) f105b (turns1_ok (machG s) (i : Int) h1)), hc1, rfl, (by have hx := row_len cI (s := 1) (fun _ => rfl) v1; simp only [rowI] at hx ⊢; rw [hx]; simp), h2, rfl, q7_2, trivial⟩ ?_
      rw [(show rowI v1 ++ [.int .i64 (i : Int)] = rowI (v1 ++ [(i : Int)]) from (row_app cI v1 [(i : Int)]).symm)]; rw [(show (v1.length + 1) = (v1 ++ [(i : Int)]).length from by simp)]; exact (h (g1 + 1))
    · have h := h.2 hc1
      obtain ⟨q3_2, h⟩ := h
      exact p53_0_1 s i v1 g1  hE ⟨hc0, (pureF_of Try.func105 (by kernel_rfl) f105b (turns1_ok (machG s) (i : Int) h1)), hc1, q3_2, trivial⟩ (h g1)
  · have h := h.2 (of_decide_eq_false hc0)
    exact p53_0_2 s i v1 g1  hE ⟨hc0, rfl, trivial⟩ (AvLe.of_eq (by rw [h]; try rfl))
theorem turns_ok (s : Stl) (h : s.stages.length ≤ 9223372036854775807 ∧ s.worth.length ≤ 9223372036854775807) : Pure Try.prog 53 [avStl s] (.tup [.rsl (rowI (turnsK s).1) 0 (turnsK s).1.length, .int .i64 (turnsK s).2]) := pure_of Try.func53 f53b fun E hE => by
  refine f53W s (rv := turnsK s) hE ⟨fun h0 => ⟨h, ?_⟩, fun h0 => ⟨h, ?_⟩⟩
  · have hc := isSome_iff.1 h0
    obtain ⟨hm, es⟩ := mok_G h0
    have hw := worth_len hc
    have key : ∀ (d i : Nat), i + d = s.worth.length → f53G0 E s i (turnsL s i) := by
      intro d
      induction d with
      | zero =>
        intro i hd
        refine f53W0 s i _ (rv := turnsK s) hE ⟨fun h => by rw [es] at h; omega, fun _ => ?_⟩
        rw [turnsK, if_pos hc, show i = s.worth.length by omega]
      | succ d ih =>
        intro i hd
        have nx := ih (i + 1) (by omega)
        have hl := turnsL_len (s := s) (n := i)
        simp only [turnsL] at nx
        refine f53W0 s i _ (rv := turnsK s) hE ⟨fun _ => ⟨hm, fun ht => ⟨by omega, by omega, ?_⟩, fun ht => ⟨by omega, ?_⟩⟩, fun h => by rw [es] at h; omega⟩
        · rw [if_pos ht] at nx; exact nx
        · rw [if_neg (by rw [ht]; simp), List.append_nil] at nx; exact nx
    exact key s.worth.length 0 (by omega)
  · rw [turnsK, if_neg (fun h => by rw [isSome_iff.2 h] at h0; cases h0)]
end Go.Proofs.Ytfgmlaeikcfpbaa

namespace Ax
open Go

section
variable {P : Program} {E : Env} {K : List Item} {st : St}

end
end Ax

namespace Go.Proofs.Ytfgmlaeikcfpbaa
open Go Ax
open Go.Proofs

/-! ### What a stage is worth at most -/
theorem val_le {m : Mch} (hm : MOk m) {w : Int → Int} {ch : Int → List Int → Int} (hw : WOk m w ch) {B : Int} (hB0 : 0 ≤ B) (hB : ∀ n : Int, 0 ≤ n → n ≤ (m.s.worth.length : Int) - 1 → w n ≤ B) :
    ∀ (d j : Nat) (u : Int), m.s.stages.length ≤ j + d → m.meas[j]? = some u → (valA m w ch).1.getD j 0 ≤ B * u := by
  intro d
  have hfx := (vfixA hm hw).fx
  have hform := (stPre_of hm.st).2.2.2.2
  induction d with
  | zero =>
    intro j u hd hu
    have := (List.getElem?_eq_some_iff.1 hu).1
    rw [hm.inv.l1] at this; omega
  | succ d ih =>
    intro j u hd hu
    have hlt := (List.getElem?_eq_some_iff.1 hu).1
    rw [hm.inv.l1] at hlt
    have hi : m.s.stages[j]? = some m.s.stages[j] := List.getElem?_eq_getElem hlt
    have hfo := form_of hi (hform j hlt)
    have htt := tot_of hi (hform j hlt)
    have hf := hfx j _ (by omega) hi
    have hft := fun (k : Nat) (t : Trn) hk => fin_turn hm hw hi (k := k) (t := t) hk
    have hup := hm.inv.pos j u (by omega) hu
    obtain ⟨q, q1, q2, q3, q4⟩ := hm.inv.rel j _ (by omega) hi
    have hl2 : (nextI m j (valA m w ch).1 m.s.stages[j].turns).length = m.s.stages[j].turns.length := by simp [nextI]
    generalize m.s.stages[j] = x at hi hfo htt hf hft q2 q4 hl2
    have hall : ∀ e ∈ nextI m j (valA m w ch).1 x.turns, 0 ≤ e ∧ e ≤ B * q := by
      intro e he
      obtain ⟨k, hk⟩ := List.getElem?_of_mem he
      have hkl := (List.getElem?_eq_some_iff.1 hk).1
      have hkt : x.turns[k]? = some (x.turns[k]'(by omega)) := List.getElem?_eq_getElem (by omega)
      obtain ⟨q', u', v, t1, t2, t3, t4, t5, t6, t7, t8, t9, t10, t11, t12, t13, t14, t15⟩ := hft k _ hkt
      rw [q1] at t1; cases t1
      rw [hk] at t4; cases t4
      refine ⟨t14, ?_⟩
      have h1 := ih _ u' (by omega) t2
      rw [getD_of t3] at h1
      have h2 := Int.mul_le_mul_of_nonneg_right h1 t11
      rw [Int.mul_assoc, Int.mul_comm u', t10] at h2
      exact h2
    by_cases h4 : x.kind = 4
    · rw [(hf.1 h4).1]
      have hBu : B ≤ B * u := by
        have := Int.mul_le_mul_of_nonneg_left (show (1 : Int) ≤ u by omega) hB0
        omega
      split
      · rename_i hp
        have := hB x.prize hp (by rcases hfo with ⟨-, -, h⟩ | ⟨h, -⟩ <;> omega)
        omega
      · omega
    · by_cases h1 : x.kind = 1
      · rw [(hf.2.1 h1).1]
        rw [hu, if_pos h1] at q2; cases q2
        have := (sumW_bd hall (fun t ht => (htt.1.2 t ht).1) (by rw [hl2])).2
        rw [Int.mul_assoc] at this
        exact this
      · obtain ⟨f1, f2⟩ := hf.2.2 h4 h1
        rw [hu, if_neg h1] at q2; cases q2
        rw [f1]
        have hlen : 0 < (nextI m j (valA m w ch).1 x.turns).length := by
          rcases hfo with ⟨h, -⟩ | ⟨-, -, h, -⟩
          · exact absurd h h4
          · omega
        have hc := hw.c1 j x _ hi h4 h1 hl2 hlen
        rw [← f2] at hc
        exact (hall _ (List.mem_of_getElem? (getD_some hc.2))).2

/-- The odds of a kind are at most 1. -/
theorem odds_one {m : Mch} (hm : MOk m) {kd : Int} {ch : Int → List Int → Int} (hw : WOk m (onlyI kd) ch) {u : Int} (hu : m.meas[0]? = some u) : 0 ≤ (valA m (onlyI kd) ch).1.getD 0 0 ∧ (valA m (onlyI kd) ch).1.getD 0 0 ≤ u := by
  have h1 := val_le hm hw (B := 1) (by omega) (fun n _ _ => by unfold onlyI; split <;> omega) m.s.stages.length 0 u (by omega) hu
  have h2 := (val_okA hm hw).hi 0 u (by omega) hu
  omega
theorem first_one {m : Mch} (hm : MOk m) {kd : Int} {ch : Int → List Int → Int} (hw : WOk m (onlyI kd) ch) : 0 ≤ (firstI m (onlyI kd) ch).num ∧ (firstI m (onlyI kd) ch).num ≤ (firstI m (onlyI kd) ch).den ∧ 0 < (firstI m (onlyI kd) ch).den ∧ (firstI m (onlyI kd) ch).den ≤ 1000000000000 := by
  obtain ⟨u, hu, hu1, hu2⟩ := meas0 hm
  have h := odds_one hm hw hu
  have hb := frac_bd (v := (valA m (onlyI kd) ch).1.getD 0 0) (u := u) (B := u) (by omega) hu1
  have hn := frac_nonneg h.1 hu1
  obtain ⟨g, hg, e1, e2, e3⟩ := frac_parts (v := (valA m (onlyI kd) ch).1.getD 0 0) hu1
  unfold firstI
  rw [getD_of hu]
  refine ⟨hn, ?_, hb.2.1, by omega⟩
  rcases Int.lt_or_le (fracI ((valA m (onlyI kd) ch).1.getD 0 0) u).den (fracI ((valA m (onlyI kd) ch).1.getD 0 0) u).num with hh | hh
  · have := Int.mul_lt_mul_of_pos_left hh hg
    omega
  · exact hh

/-! ### Ways -/
def wGo (a b : Int) : Int → List Int → List Int
  | c, [] => [c]
  | c, x :: xs => (c + x * b) :: wGo a b (x * a) xs
def waysN (a b : Int) : Nat → List Int
  | 0 => [1]
  | n + 1 => wGo a b 0 (waysN a b n)
def powN (d : Int) : Nat → Int
  | 0 => 1
  | n + 1 => powN d n * d
/-! ### Enough -/
def enF (s : Stl) (plan : List Int) (kd : Int) : Fr := firstI (machG s) (onlyI kd) (fun i _ => planI plan i)
def enN (f : Fr) (st : Int) (n : Nat) : Int := ((waysN f.num (f.den - f.num) n).take (Int.toNat (st + 1))).sum
def enoughF (f : Fr) (st : Int) (n : Nat) : Int × Int × Int := if powN f.den n ≤ 1000000000000 then ((fracI (enN f st n) (powN f.den n)).num, (fracI (enN f st n) (powN f.den n)).den, 0) else (0, 0, 2)
def enoughK (s : Stl) (plan : List Int) (kd st ps : Int) : Int × Int × Int :=
  if planE s plan = 0 then (if (within kd 0 ((s.worth.length : Int) - 1) && (within st 0 1000 && within ps 0 1000)) = true then enoughF (enF s plan kd) st (Int.toNat ps) else (0, 0, 1)) else (0, 0, planE s plan)

/-- What lies in the new list after 'k' rounds. -/
structure WInv (a b : Int) (w : List Int) (k : Nat) (v : List Int) : Prop where
  len : v.length = w.length + 1
  eq : ∃ c, v[k]? = some c ∧ 0 ≤ c ∧ wGo a b 0 w = v.take k ++ wGo a b c (w.drop k)
  z : ∀ j, k < j → j < v.length → v[j]? = some 0
end Go.Proofs.Ytfgmlaeikcfpbaa

namespace Go.Proofs.Ytfgmlaeikcfpbaa
open Go Ax
open Go.Proofs

theorem getD_ge {l : List Int} {i : Nat} (h : l.length ≤ i) : l.getD i 0 = 0 := by simp [List.getD, List.getElem?_eq_none h]
theorem sumW_mono : ∀ {ts : List Trn} {a b : List Int}, (∀ t ∈ ts, 0 ≤ t.w) → ts.length = a.length → ts.length = b.length → (∀ (k : Nat) (x y : Int), a[k]? = some x → b[k]? = some y → x ≤ y) → sumW ts a ≤ sumW ts b
  | [], a, b, _, _, _, _ => by simp [sumW]
  | t :: ts, [], b, _, h, _, _ => by simp at h
  | t :: ts, a, [], _, _, h, _ => by simp at h
  | t :: ts, x :: a, y :: b, hw, h1, h2, h => by
    simp only [sumW]
    have h3 := Int.mul_le_mul_of_nonneg_left (h 0 x y rfl rfl) (hw t (by simp))
    have h4 := sumW_mono (ts := ts) (a := a) (b := b) (fun u hu => hw u (by simp [hu])) (by simpa using h1) (by simpa using h2) (fun k x y hx hy => h (k + 1) x y (by simpa using hx) (by simpa using hy))
    omega

/-- What is chosen here is worth no more than what is chosen there: so are all stages. -/
theorem val_mono {m : Mch} (hm : MOk m) {w1 w2 : Int → Int} {c1 c2 : Int → List Int → Int} (hw1 : WOk m w1 c1) (hw2 : WOk m w2 c2) (hle : ∀ n : Int, 0 ≤ n → n ≤ (m.s.worth.length : Int) - 1 → w1 n ≤ w2 n)
    (H : ∀ (i : Nat) (x : Stg), m.s.stages[i]? = some x → x.kind ≠ 4 → x.kind ≠ 1 → (∀ (k : Nat) (u v : Int), (nextI m i (valA m w1 c1).1 x.turns)[k]? = some u → (nextI m i (valA m w2 c2).1 x.turns)[k]? = some v → u ≤ v) →
      (nextI m i (valA m w1 c1).1 x.turns).getD (Int.toNat (c1 i (nextI m i (valA m w1 c1).1 x.turns))) 0 ≤ (nextI m i (valA m w2 c2).1 x.turns).getD (Int.toNat (c2 i (nextI m i (valA m w2 c2).1 x.turns))) 0) :
    ∀ (d j : Nat), m.s.stages.length ≤ j + d → (valA m w1 c1).1.getD j 0 ≤ (valA m w2 c2).1.getD j 0 := by
  intro d
  have hf1 := (vfixA hm hw1).fx
  have hf2 := (vfixA hm hw2).fx
  have hp1 := val_okA hm hw1
  have hp2 := val_okA hm hw2
  have hform := (stPre_of hm.st).2.2.2.2
  induction d with
  | zero =>
    intro j hd
    rw [getD_ge (by rw [hp1.l1]; omega), getD_ge (by rw [hp2.l1]; omega)]
    exact Int.le_refl _
  | succ d ih =>
    intro j hd
    rcases Nat.lt_or_ge j m.s.stages.length with hlt | hge
    · have hi : m.s.stages[j]? = some m.s.stages[j] := List.getElem?_eq_getElem hlt
      have hfo := form_of hi (hform j hlt)
      have htt := tot_of hi (hform j hlt)
      have e1 := hf1 j _ (by omega) hi
      have e2 := hf2 j _ (by omega) hi
      have t1 := fun (k : Nat) (t : Trn) hk => fin_turn hm hw1 hi (k := k) (t := t) hk
      have t2 := fun (k : Nat) (t : Trn) hk => fin_turn hm hw2 hi (k := k) (t := t) hk
      have l1 : (nextI m j (valA m w1 c1).1 m.s.stages[j].turns).length = m.s.stages[j].turns.length := by simp [nextI]
      have l2 : (nextI m j (valA m w2 c2).1 m.s.stages[j].turns).length = m.s.stages[j].turns.length := by simp [nextI]
      have hH := H j _ hi
      generalize m.s.stages[j] = x at hi hfo htt e1 e2 t1 t2 l1 l2 hH
      have hN : ∀ (k : Nat) (u v : Int), (nextI m j (valA m w1 c1).1 x.turns)[k]? = some u → (nextI m j (valA m w2 c2).1 x.turns)[k]? = some v → u ≤ v := by
        intro k u v hu hv
        have hkl := (List.getElem?_eq_some_iff.1 hu).1
        have hkt : x.turns[k]? = some (x.turns[k]'(by omega)) := List.getElem?_eq_getElem (by omega)
        obtain ⟨q, r, v1, a1, a2, a3, a4, a5, a6, a7, a8, a9, a10, a11, -⟩ := t1 k _ hkt
        obtain ⟨q', r', v2, b1, b2, b3, b4, -⟩ := t2 k _ hkt
        rw [a1] at b1; cases b1
        rw [a2] at b2; cases b2
        rw [hu] at a4; cases a4
        rw [hv] at b4; cases b4
        have h1 := ih (Int.toNat (x.turns[k]'(by omega)).to) (by omega)
        rw [getD_of a3, getD_of b3] at h1
        exact Int.mul_le_mul_of_nonneg_right h1 a11
      by_cases h4 : x.kind = 4
      · rw [(e1.1 h4).1, (e2.1 h4).1]
        split
        · rename_i hp
          exact hle x.prize hp (by rcases hfo with ⟨-, -, h⟩ | ⟨h, -⟩ <;> omega)
        · omega
      · by_cases h1 : x.kind = 1
        · rw [(e1.2.1 h1).1, (e2.2.1 h1).1]
          exact sumW_mono (fun t ht => (htt.1.2 t ht).1) l1.symm l2.symm hN
        · rw [(e1.2.2 h4 h1).1, (e2.2.2 h4 h1).1, (e1.2.2 h4 h1).2, (e2.2.2 h4 h1).2]
          exact hH h4 h1 hN
    · rw [getD_ge (by rw [hp1.l1]; omega), getD_ge (by rw [hp2.l1]; omega)]
      exact Int.le_refl _

theorem pick_le {a b : Int} {l1 l2 : List Int} (hl : l1.length = l2.length) (h0 : 0 < l1.length) (ha : a = 1 ∨ a = 2) (hb : b = 1 ∨ b = 2) (hab : a ≤ b) (h : ∀ (k : Nat) (u v : Int), l1[k]? = some u → l2[k]? = some v → u ≤ v) : pickF a l1 ≤ pickF b l2 := by
  have hpt : ∀ (k : Nat) (hk : k < l1.length), l1[k] ≤ l2[k]'(by omega) := fun k hk => h k _ _ (List.getElem?_eq_getElem hk) (List.getElem?_eq_getElem (by omega))
  obtain ⟨m1, m2⟩ := minI_mem (l := l1) h0
  obtain ⟨m3, m4⟩ := minI_mem (l := l2) (by omega)
  obtain ⟨x1, x2⟩ := maxI_mem (l := l1) h0
  obtain ⟨x3, x4⟩ := maxI_mem (l := l2) (by omega)
  have hmin : minI l1 ≤ minI l2 := by
    obtain ⟨k, hk, e⟩ := List.mem_iff_getElem.1 m3
    have := hpt k (by omega)
    have := m2 _ (List.getElem_mem (show k < l1.length by omega))
    omega
  have hmax : maxI l1 ≤ maxI l2 := by
    obtain ⟨k, hk, e⟩ := List.mem_iff_getElem.1 x1
    have := hpt k hk
    have := x4 _ (List.getElem_mem (show k < l2.length by omega))
    omega
  have hmm : minI l2 ≤ maxI l2 := x4 _ m3
  unfold pickF
  rcases ha with rfl | rfl <;> rcases hb with rfl | rfl <;> simp <;> omega
theorem turns_pos {m : Mch} (hm : MOk m) {i : Nat} {x : Stg} (hi : m.s.stages[i]? = some x) (h4 : x.kind ≠ 4) : 0 < x.turns.length := by
  rcases form_of hi ((stPre_of hm.st).2.2.2.2 i (List.getElem?_eq_some_iff.1 hi).1) with ⟨h, -⟩ | ⟨-, -, h, -⟩
  · exact absurd h h4
  · omega
theorem aimAt_of {m : Mch} {pa oa : Int} {i : Nat} {x : Stg} (hi : m.s.stages[i]? = some x) : aimAt m pa oa i = if x.kind = 3 then oa else pa := by
  rw [aimAt, show m.s.stages.getD i ⟨0, 0, []⟩ = x by simp [List.getD, hi]]
theorem next_len {m : Mch} {i : Nat} {v : List Int} {ts : List Trn} : (nextI m i v ts).length = ts.length := by simp [nextI]

/-- Who follows a choice as a plan has the values of the choice. -/
theorem same_val {m : Mch} (hm : MOk m) {w : Int → Int} {c1 c2 : Int → List Int → Int} (hw1 : WOk m w c1) (hw2 : WOk m w c2)
    (H : ∀ (i : Nat) (x : Stg), m.s.stages[i]? = some x → x.kind ≠ 4 → x.kind ≠ 1 → Int.toNat (c1 i (nextI m i (valA m w c1).1 x.turns)) = Int.toNat (c2 i (nextI m i (valA m w c2).1 x.turns))) : (valA m w c1).1.getD 0 0 = (valA m w c2).1.getD 0 0 := by
  have a1 := val_mono hm hw1 hw2 (fun n _ _ => Int.le_refl _) (fun i x hi h4 h1' hN => by
    have hpos := turns_pos hm hi h4
    have hc := hw1.c1 i x (nextI m i (valA m w c1).1 x.turns) hi h4 h1' next_len (by rw [next_len]; exact hpos)
    rw [← H i x hi h4 h1']
    exact hN _ _ _ (getD_some hc.2) (getD_some (by rw [next_len]; have := hc.2; rw [next_len] at this; exact this))) m.s.stages.length 0 (by omega)
  have a2 := val_mono hm hw2 hw1 (fun n _ _ => Int.le_refl _) (fun i x hi h4 h1' hN => by
    have hpos := turns_pos hm hi h4
    have hc := hw2.c1 i x (nextI m i (valA m w c2).1 x.turns) hi h4 h1' next_len (by rw [next_len]; exact hpos)
    rw [H i x hi h4 h1']
    exact hN _ _ _ (getD_some hc.2) (getD_some (by rw [next_len]; have := hc.2; rw [next_len] at this; exact this))) m.s.stages.length 0 (by omega)
  omega
/-! ### Fractions in parts of the measure -/
def FrV (s : Stl) (a : Fr) : Int := a.num * Int.tdiv (meas0I s) a.den
structure FrOk (s : Stl) (a : Fr) : Prop where
  pos : 0 < a.den
  dvd : a.den ∣ meas0I s
  bd : -100000000000000000 ≤ FrV s a ∧ FrV s a ≤ 100000000000000000
theorem fr_of {s : Stl} (hc : checkK s = 0) {v : Int} (hv : -100000000000000000 ≤ v ∧ v ≤ 100000000000000000) : FrOk s (fracI v (meas0I s)) ∧ FrV s (fracI v (meas0I s)) = v := by
  have hu := (gainV_bd (pa := 1) (oa := 1) hc).2
  obtain ⟨g, hg, e1, e2, e3⟩ := frac_parts (v := v) hu.1
  have e4 : Int.tdiv (meas0I s) (fracI v (meas0I s)).den = g := by
    have : Int.tdiv (g * (fracI v (meas0I s)).den) (fracI v (meas0I s)).den = g := Int.mul_tdiv_cancel _ (by omega)
    rwa [← e2] at this
  have e5 : FrV s (fracI v (meas0I s)) = v := by rw [FrV, e4, Int.mul_comm, ← e1]
  exact ⟨⟨e3, ⟨g, by rw [Int.mul_comm]; exact e2⟩, by rw [e5]; exact hv⟩, e5⟩
def oddF (s : Stl) (kd pa oa : Int) : Fr := firstI (machG s) (onlyI kd) (chooseI (machG s) pa oa)
theorem first_fr {s : Stl} (hc : checkK s = 0) {w : Int → Int} {ch : Int → List Int → Int} (hw : WOk (machG s) w ch) : FrOk s (firstI (machG s) w ch) ∧ FrV s (firstI (machG s) w ch) = (valA (machG s) w ch).1.getD 0 0 := by
  obtain ⟨v, hv, hb⟩ := val0 (mok_G (isSome_of hc)).1 hw
  have := fr_of hc (v := v) (by omega)
  rw [firstI, getD_of hv]
  exact this
theorem f32b : Try.f32.body = some (bodyAt Try.prog 32) := by kernel_rfl
theorem p32_start_0 (s : Stl) (a : Fr)  (e : Int)  {E : Env} {res : AV} (hE : PureE Try.prog 32 res E) (ho : AllP [PureF Try.prog (.clos 51 [] []) [.agg [.rsl (rowStg s.stages) 0 s.stages.length, .rsl (rowI s.worth) 0 s.worth.length, .int .i64 s.price]] (.tup [.rsl (rowI ((measR (measA s)).1)) 0 (((measR (measA s)).1).length), .bool ((measR (measA s)).2)]), ((measR (measA s)).2) = true, (decide (((((measR (measA s)).1).length : Nat) : Int) > 0)) = true, (0 : Int) ≤ 1 ∧ (1 : Int) < ((2 : Nat) : Int), (decide (a.den > 0)) = true, (0 : Int) ≤ 0 ∧ (0 : Int) < ((((measR (measA s)).1).length : Nat) : Int), ((rowI ((measR (measA s)).1)).drop (0 + 0 * 1)).take 1 = [.int .i64 e], (0 : Int) ≤ 1 ∧ (1 : Int) < ((2 : Nat) : Int), a.den ≠ 0])
    (hr : AvLe (.bool ((Int.tmod e a.den) == 0)) res) : G Try.prog E [.code (bodyAt Try.prog 32)] ⟨[.agg [.rsl (rowStg s.stages) 0 s.stages.length, .rsl (rowI s.worth) 0 s.worth.length, .int .i64 s.price], .agg [.int .i64 a.num, .int .i64 a.den]] ++ unds (Try.f32.ntmps - 2), []⟩ :=
  end_stepL (n := 400) (evs := [.v (.tup [.rsl (rowI ((measR (measA s)).1)) 0 (((measR (measA s)).1).length), .bool ((measR (measA s)).2)]), .b true, .b true, .b true, .ld (.int .i64 e)]) (obs := _) hE Try.func32 mixed (by kernel_rfl) ho hr
theorem p32_start_1 (s : Stl) (a : Fr)   {E : Env} {res : AV} (hE : PureE Try.prog 32 res E) (ho : AllP [PureF Try.prog (.clos 51 [] []) [.agg [.rsl (rowStg s.stages) 0 s.stages.length, .rsl (rowI s.worth) 0 s.worth.length, .int .i64 s.price]] (.tup [.rsl (rowI ((measR (measA s)).1)) 0 (((measR (measA s)).1).length), .bool ((measR (measA s)).2)]), ((measR (measA s)).2) = true, (decide (((((measR (measA s)).1).length : Nat) : Int) > 0)) = true, (0 : Int) ≤ 1 ∧ (1 : Int) < ((2 : Nat) : Int), (decide (a.den > 0)) = false])
    (hr : AvLe (.bool false) res) : G Try.prog E [.code (bodyAt Try.prog 32)] ⟨[.agg [.rsl (rowStg s.stages) 0 s.stages.length, .rsl (rowI s.worth) 0 s.worth.length, .int .i64 s.price], .agg [.int .i64 a.num, .int .i64 a.den]] ++ unds (Try.f32.ntmps - 2), []⟩ :=
  end_stepL (n := 400) (evs := [.v (.tup [.rsl (rowI ((measR (measA s)).1)) 0 (((measR (measA s)).1).length), .bool ((measR (measA s)).2)]), .b true, .b true, .b false]) (obs := _) hE Try.func32 mixed (by kernel_rfl) ho hr
theorem p32_start_2 (s : Stl) (a : Fr)   {E : Env} {res : AV} (hE : PureE Try.prog 32 res E) (ho : AllP [PureF Try.prog (.clos 51 [] []) [.agg [.rsl (rowStg s.stages) 0 s.stages.length, .rsl (rowI s.worth) 0 s.worth.length, .int .i64 s.price]] (.tup [.rsl (rowI ((measR (measA s)).1)) 0 (((measR (measA s)).1).length), .bool ((measR (measA s)).2)]), ((measR (measA s)).2) = true, (decide (((((measR (measA s)).1).length : Nat) : Int) > 0)) = false, false = false])
    (hr : AvLe (.bool false) res) : G Try.prog E [.code (bodyAt Try.prog 32)] ⟨[.agg [.rsl (rowStg s.stages) 0 s.stages.length, .rsl (rowI s.worth) 0 s.worth.length, .int .i64 s.price], .agg [.int .i64 a.num, .int .i64 a.den]] ++ unds (Try.f32.ntmps - 2), []⟩ :=
  end_stepL (n := 400) (evs := [.v (.tup [.rsl (rowI ((measR (measA s)).1)) 0 (((measR (measA s)).1).length), .bool ((measR (measA s)).2)]), .b true, .b false, .b false]) (obs := _) hE Try.func32 mixed (by kernel_rfl) ho hr
theorem p32_start_3 (s : Stl) (a : Fr)   {E : Env} {res : AV} (hE : PureE Try.prog 32 res E) (ho : AllP [PureF Try.prog (.clos 51 [] []) [.agg [.rsl (rowStg s.stages) 0 s.stages.length, .rsl (rowI s.worth) 0 s.worth.length, .int .i64 s.price]] (.tup [.rsl (rowI ((measR (measA s)).1)) 0 (((measR (measA s)).1).length), .bool ((measR (measA s)).2)]), ((measR (measA s)).2) = false, false = false, false = false])
    (hr : AvLe (.bool false) res) : G Try.prog E [.code (bodyAt Try.prog 32)] ⟨[.agg [.rsl (rowStg s.stages) 0 s.stages.length, .rsl (rowI s.worth) 0 s.worth.length, .int .i64 s.price], .agg [.int .i64 a.num, .int .i64 a.den]] ++ unds (Try.f32.ntmps - 2), []⟩ :=
  end_stepL (n := 400) (evs := [.v (.tup [.rsl (rowI ((measR (measA s)).1)) 0 (((measR (measA s)).1).length), .bool ((measR (measA s)).2)]), .b false, .b false, .b false]) (obs := _) hE Try.func32 mixed (by kernel_rfl) ho hr
theorem f32W (s : Stl) (a : Fr) {E : Env} {rv : Bool} (hE : PureE Try.prog 32 (.bool rv) E)
    (h : ((s.stages.length ≤ 1000000 ∧ ∀ i, i < s.stages.length → formI s i = true) ∧ ((((measR (measA s)).2) = true → ((((((measR (measA s)).1).length : Nat) : Int) > 0 → ((a.den > 0 → (∃ e : Int, ((measR (measA s)).1)[0]? = some e ∧ (a.den ≠ 0 ∧ rv = ((Int.tmod e a.den) == 0)))) ∧ (¬ (a.den > 0) → rv = false))) ∧ (¬ (((((measR (measA s)).1).length : Nat) : Int) > 0) → rv = false))) ∧ (((measR (measA s)).2) = false → rv = false)))) : G Try.prog E [.code (bodyAt Try.prog 32)] ⟨[.agg [.rsl (rowStg s.stages) 0 s.stages.length, .rsl (rowI s.worth) 0 s.worth.length, .int .i64 s.price], .agg [.int .i64 a.num, .int .i64 a.den]] ++ unds (Try.f32.ntmps - 2), []⟩ := by
  obtain ⟨h1, h⟩ := h
  rcases Bool.eq_false_or_eq_true ((measR (measA s)).2) with hc0 | hc0
  · have h := h.1 hc0
    rcases Bool.eq_false_or_eq_true (decide (((((measR (measA s)).1).length : Nat) : Int) > 0)) with hc1 | hc1
    · have h := h.1 (of_decide_eq_true hc1)
      rcases Bool.eq_false_or_eq_true (decide (a.den > 0)) with hc2 | hc2
      · have h := h.1 (of_decide_eq_true hc2)
        obtain ⟨e, h2, h⟩ := h
        obtain ⟨q9_3, h⟩ := h
        exact p32_start_0 s a   e hE ⟨(pureF_of Try.func51 (by kernel_rfl) f51b (measures_ok s h1)), hc0, hc1, (⟨by decide, by decide⟩), hc2, (idx_ok h2), (row_part cI (s := 1) (k := 0) (m := 1) (fun _ => rfl) (by decide) h2), (⟨by decide, by decide⟩), q9_3, trivial⟩ (AvLe.of_eq (by rw [h]; try rfl))
      · have h := h.2 (of_decide_eq_false hc2)
        exact p32_start_1 s a    hE ⟨(pureF_of Try.func51 (by kernel_rfl) f51b (measures_ok s h1)), hc0, hc1, (⟨by decide, by decide⟩), hc2, trivial⟩ (AvLe.of_eq (by rw [h]; try rfl))
    · have h := h.2 (of_decide_eq_false hc1)
      exact p32_start_2 s a    hE ⟨(pureF_of Try.func51 (by kernel_rfl) f51b (measures_ok s h1)), hc0, hc1, rfl, trivial⟩ (AvLe.of_eq (by rw [h]; try rfl))
  · have h := h.2 hc0
    exact p32_start_3 s a    hE ⟨(pureF_of Try.func51 (by kernel_rfl) f51b (measures_ok s h1)), hc0, rfl, rfl, trivial⟩ (AvLe.of_eq (by rw [h]; try rfl))
theorem divides_ok (s : Stl) (a : Fr) (h : checkK s = 0 ∧ FrOk s a) : Pure Try.prog 32 [avStl s, .agg [.int .i64 a.num, .int .i64 a.den]] (.bool true) := pure_of Try.func32 f32b fun E hE => by
  obtain ⟨hc, ha⟩ := h
  obtain ⟨hm, es⟩ := mok_G (isSome_of hc)
  have hform := (stPre_of hm.st).2.2.2.2
  have hn := (stPre_of hm.st).1
  rw [es] at hform hn
  have hme := measR_of (isSome_of hc)
  obtain ⟨u, hu, hu1, hu2⟩ := meas0 hm
  have eu : meas0I s = u := getD_of hu
  have p1 := ha.pos
  have hd := ha.dvd
  rw [eu] at hd
  have hl : ((measR (measA s)).1.length : Int) > 0 := by
    rw [hme]
    have := (List.getElem?_eq_some_iff.1 hu).1
    show ((machG s).meas.length : Int) > 0
    omega
  refine f32W s a (rv := true) hE ⟨⟨by omega, hform⟩, fun _ => ⟨fun _ => ⟨fun _ => ⟨u, by rw [hme]; exact hu, by omega, ?_⟩, fun h => absurd p1 h⟩, fun h => absurd hl h⟩, fun h => by rw [hme] at h; cases h⟩
  rw [Int.tmod_eq_zero_of_dvd hd]; rfl
theorem f22b : Try.f22.body = some (bodyAt Try.prog 22) := by kernel_rfl
theorem p22_start_0 (s : Stl) (kd : Int) (pa : Int) (oa : Int)   {E : Env} {res : AV} (hE : PureE Try.prog 22 res E) (ho : AllP [PureF Try.prog (.clos 19 [] []) [.agg [.rsl (rowStg s.stages) 0 s.stages.length, .rsl (rowI s.worth) 0 s.worth.length, .int .i64 s.price]] (.int .i64 (checkK s)), ((checkK s) != 0) = true, 2 ≤ 2])
    (hr : AvLe (.tup [.agg [.int .i64 0, .int .i64 0], .bool false]) res) : G Try.prog E [.code (bodyAt Try.prog 22)] ⟨[.agg [.rsl (rowStg s.stages) 0 s.stages.length, .rsl (rowI s.worth) 0 s.worth.length, .int .i64 s.price], .int .i64 kd, .int .i64 pa, .int .i64 oa] ++ unds (Try.f22.ntmps - 4), []⟩ :=
  end_stepL (n := 400) (evs := [.v (.int .i64 (checkK s)), .b true]) (obs := _) hE Try.func22 mixed (by kernel_rfl) ho hr
theorem p22_start_1 (s : Stl) (kd : Int) (pa : Int) (oa : Int)   {E : Env} {res : AV} (hE : PureE Try.prog 22 res E) (ho : AllP [PureF Try.prog (.clos 19 [] []) [.agg [.rsl (rowStg s.stages) 0 s.stages.length, .rsl (rowI s.worth) 0 s.worth.length, .int .i64 s.price]] (.int .i64 (checkK s)), ((checkK s) != 0) = false, PureF Try.prog (.clos 25 [] []) [.agg [.rsl (rowStg s.stages) 0 s.stages.length, .rsl (rowI s.worth) 0 s.worth.length, .int .i64 s.price], .int .i64 kd, .int .i64 pa, .int .i64 oa] (.tup [.int .i64 ((oddsK s kd pa oa).1), .int .i64 ((oddsK s kd pa oa).2.1), .int .i64 ((oddsK s kd pa oa).2.2)]), ((oddsK s kd pa oa).2.2 == 0) = true, PureF Try.prog (.clos 32 [] []) [.agg [.rsl (rowStg s.stages) 0 s.stages.length, .rsl (rowI s.worth) 0 s.worth.length, .int .i64 s.price], .agg [.int .i64 ((oddsK s kd pa oa).1), .int .i64 ((oddsK s kd pa oa).2.1)]] (.bool true), true = true, (decide ((oddsK s kd pa oa).1 ≥ 0)) = true, 2 ≤ 2])
    (hr : AvLe (.tup [.agg [.int .i64 ((oddsK s kd pa oa).1), .int .i64 ((oddsK s kd pa oa).2.1)], .bool (decide ((oddsK s kd pa oa).1 ≤ (oddsK s kd pa oa).2.1))]) res) : G Try.prog E [.code (bodyAt Try.prog 22)] ⟨[.agg [.rsl (rowStg s.stages) 0 s.stages.length, .rsl (rowI s.worth) 0 s.worth.length, .int .i64 s.price], .int .i64 kd, .int .i64 pa, .int .i64 oa] ++ unds (Try.f22.ntmps - 4), []⟩ :=
  end_stepL (n := 400) (evs := [.v (.int .i64 (checkK s)), .b false, .v (.tup [.int .i64 ((oddsK s kd pa oa).1), .int .i64 ((oddsK s kd pa oa).2.1), .int .i64 ((oddsK s kd pa oa).2.2)]), .b true, .v (.bool true), .b true, .b true]) (obs := _) hE Try.func22 mixed (by kernel_rfl) ho hr
theorem p22_start_2 (s : Stl) (kd : Int) (pa : Int) (oa : Int)   {E : Env} {res : AV} (hE : PureE Try.prog 22 res E) (ho : AllP [PureF Try.prog (.clos 19 [] []) [.agg [.rsl (rowStg s.stages) 0 s.stages.length, .rsl (rowI s.worth) 0 s.worth.length, .int .i64 s.price]] (.int .i64 (checkK s)), ((checkK s) != 0) = false, PureF Try.prog (.clos 25 [] []) [.agg [.rsl (rowStg s.stages) 0 s.stages.length, .rsl (rowI s.worth) 0 s.worth.length, .int .i64 s.price], .int .i64 kd, .int .i64 pa, .int .i64 oa] (.tup [.int .i64 ((oddsK s kd pa oa).1), .int .i64 ((oddsK s kd pa oa).2.1), .int .i64 ((oddsK s kd pa oa).2.2)]), ((oddsK s kd pa oa).2.2 == 0) = true, PureF Try.prog (.clos 32 [] []) [.agg [.rsl (rowStg s.stages) 0 s.stages.length, .rsl (rowI s.worth) 0 s.worth.length, .int .i64 s.price], .agg [.int .i64 ((oddsK s kd pa oa).1), .int .i64 ((oddsK s kd pa oa).2.1)]] (.bool true), true = true, (decide ((oddsK s kd pa oa).1 ≥ 0)) = false, 2 ≤ 2])
    (hr : AvLe (.tup [.agg [.int .i64 ((oddsK s kd pa oa).1), .int .i64 ((oddsK s kd pa oa).2.1)], .bool false]) res) : G Try.prog E [.code (bodyAt Try.prog 22)] ⟨[.agg [.rsl (rowStg s.stages) 0 s.stages.length, .rsl (rowI s.worth) 0 s.worth.length, .int .i64 s.price], .int .i64 kd, .int .i64 pa, .int .i64 oa] ++ unds (Try.f22.ntmps - 4), []⟩ :=
  end_stepL (n := 400) (evs := [.v (.int .i64 (checkK s)), .b false, .v (.tup [.int .i64 ((oddsK s kd pa oa).1), .int .i64 ((oddsK s kd pa oa).2.1), .int .i64 ((oddsK s kd pa oa).2.2)]), .b true, .v (.bool true), .b true, .b false]) (obs := _) hE Try.func22 mixed (by kernel_rfl) ho hr
theorem p22_start_3 (s : Stl) (kd : Int) (pa : Int) (oa : Int)   {E : Env} {res : AV} (hE : PureE Try.prog 22 res E) (ho : AllP [PureF Try.prog (.clos 19 [] []) [.agg [.rsl (rowStg s.stages) 0 s.stages.length, .rsl (rowI s.worth) 0 s.worth.length, .int .i64 s.price]] (.int .i64 (checkK s)), ((checkK s) != 0) = false, PureF Try.prog (.clos 25 [] []) [.agg [.rsl (rowStg s.stages) 0 s.stages.length, .rsl (rowI s.worth) 0 s.worth.length, .int .i64 s.price], .int .i64 kd, .int .i64 pa, .int .i64 oa] (.tup [.int .i64 ((oddsK s kd pa oa).1), .int .i64 ((oddsK s kd pa oa).2.1), .int .i64 ((oddsK s kd pa oa).2.2)]), ((oddsK s kd pa oa).2.2 == 0) = false, false = false, false = false, 2 ≤ 2])
    (hr : AvLe (.tup [.agg [.int .i64 ((oddsK s kd pa oa).1), .int .i64 ((oddsK s kd pa oa).2.1)], .bool false]) res) : G Try.prog E [.code (bodyAt Try.prog 22)] ⟨[.agg [.rsl (rowStg s.stages) 0 s.stages.length, .rsl (rowI s.worth) 0 s.worth.length, .int .i64 s.price], .int .i64 kd, .int .i64 pa, .int .i64 oa] ++ unds (Try.f22.ntmps - 4), []⟩ :=
  end_stepL (n := 400) (evs := [.v (.int .i64 (checkK s)), .b false, .v (.tup [.int .i64 ((oddsK s kd pa oa).1), .int .i64 ((oddsK s kd pa oa).2.1), .int .i64 ((oddsK s kd pa oa).2.2)]), .b false, .b false, .b false]) (obs := _) hE Try.func22 mixed (by kernel_rfl) ho hr
theorem f22W (s : Stl) (kd : Int) (pa : Int) (oa : Int) {E : Env} {rv : (Fr × Bool)} (hE : PureE Try.prog 22 (.tup [.agg [.int .i64 rv.1.num, .int .i64 rv.1.den], .bool rv.2]) E)
    (h : ((s.stages.length ≤ 9223372036854775807 ∧ s.worth.length ≤ 9223372036854775807) ∧ ((¬ ((checkK s) = 0) → rv = ((⟨0, 0⟩ : Fr), false)) ∧ ((checkK s) = 0 → ((s.stages.length ≤ 9223372036854775807 ∧ s.worth.length ≤ 9223372036854775807) ∧ (((oddsK s kd pa oa).2.2 = 0 → ((checkK s = 0 ∧ FrOk s (⟨(oddsK s kd pa oa).1, (oddsK s kd pa oa).2.1⟩ : Fr)) ∧ (((oddsK s kd pa oa).1 ≥ 0 → rv = ((⟨(oddsK s kd pa oa).1, (oddsK s kd pa oa).2.1⟩ : Fr), (decide ((oddsK s kd pa oa).1 ≤ (oddsK s kd pa oa).2.1)))) ∧ (¬ ((oddsK s kd pa oa).1 ≥ 0) → rv = ((⟨(oddsK s kd pa oa).1, (oddsK s kd pa oa).2.1⟩ : Fr), false))))) ∧ (¬ ((oddsK s kd pa oa).2.2 = 0) → rv = ((⟨(oddsK s kd pa oa).1, (oddsK s kd pa oa).2.1⟩ : Fr), false)))))))) : G Try.prog E [.code (bodyAt Try.prog 22)] ⟨[.agg [.rsl (rowStg s.stages) 0 s.stages.length, .rsl (rowI s.worth) 0 s.worth.length, .int .i64 s.price], .int .i64 kd, .int .i64 pa, .int .i64 oa] ++ unds (Try.f22.ntmps - 4), []⟩ := by
  obtain ⟨h1, h⟩ := h
  rcases Bool.eq_false_or_eq_true ((checkK s) != 0) with hc0 | hc0
  · have h := h.1 (bneT hc0)
    exact p22_start_0 s kd pa oa    hE ⟨(pureF_of Try.func19 (by kernel_rfl) f19b (checkR_ok s h1)), hc0, (by decide), trivial⟩ (AvLe.of_eq (by rw [h]; try rfl))
  · have h := h.2 (bneF hc0)
    obtain ⟨h2, h⟩ := h
    rcases Bool.eq_false_or_eq_true ((oddsK s kd pa oa).2.2 == 0) with hc1 | hc1
    · have h := h.1 (eq_of_beq hc1)
      obtain ⟨h3, h⟩ := h
      rcases Bool.eq_false_or_eq_true (decide ((oddsK s kd pa oa).1 ≥ 0)) with hc2 | hc2
      · have h := h.1 (of_decide_eq_true hc2)
        exact p22_start_1 s kd pa oa    hE ⟨(pureF_of Try.func19 (by kernel_rfl) f19b (checkR_ok s h1)), hc0, (pureF_of Try.func25 (by kernel_rfl) f25b (odds_ok s kd pa oa h2)), hc1, (pureF_of Try.func32 (by kernel_rfl) f32b (divides_ok s (⟨(oddsK s kd pa oa).1, (oddsK s kd pa oa).2.1⟩ : Fr) h3)), rfl, hc2, (by decide), trivial⟩ (AvLe.of_eq (by rw [h]; try rfl))
      · have h := h.2 (of_decide_eq_false hc2)
        exact p22_start_2 s kd pa oa    hE ⟨(pureF_of Try.func19 (by kernel_rfl) f19b (checkR_ok s h1)), hc0, (pureF_of Try.func25 (by kernel_rfl) f25b (odds_ok s kd pa oa h2)), hc1, (pureF_of Try.func32 (by kernel_rfl) f32b (divides_ok s (⟨(oddsK s kd pa oa).1, (oddsK s kd pa oa).2.1⟩ : Fr) h3)), rfl, hc2, (by decide), trivial⟩ (AvLe.of_eq (by rw [h]; try rfl))
    · have h := h.2 (ne_of_beq_false hc1)
      exact p22_start_3 s kd pa oa    hE ⟨(pureF_of Try.func19 (by kernel_rfl) f19b (checkR_ok s h1)), hc0, (pureF_of Try.func25 (by kernel_rfl) f25b (odds_ok s kd pa oa h2)), hc1, rfl, rfl, (by decide), trivial⟩ (AvLe.of_eq (by rw [h]; try rfl))

theorem oddsL_ok (s : Stl) (kd pa oa : Int) (h : checkO s kd pa oa = 0) : Pure Try.prog 22 [avStl s, .int .i64 kd, .int .i64 pa, .int .i64 oa] (.tup [.agg [.int .i64 (oddF s kd pa oa).num, .int .i64 (oddF s kd pa oa).den], .bool true]) := pure_of Try.func22 f22b fun E hE => by
  obtain ⟨hc, h1, h2, h3, h4⟩ := checkO_of h
  obtain ⟨hm, es⟩ := mok_G (isSome_of hc)
  have hn := (stPre_of hm.st).1
  rw [es] at hn
  have hw := worth_len hc
  have ho := (odds_yes h).1
  have h1' := first_one hm (kd := kd) (ch := chooseI (machG s) pa oa) wok_only
  have hf := (first_fr hc (w := onlyI kd) (ch := chooseI (machG s) pa oa) wok_only).1
  refine f22W s kd pa oa (rv := (oddF s kd pa oa, true)) hE ⟨⟨by omega, by omega⟩, fun h => absurd hc h, fun _ => ⟨⟨by omega, by omega⟩, ?_⟩⟩
  rw [ho]
  exact ⟨fun _ => ⟨⟨hc, hf⟩, fun _ => by rw [decide_eq_true h1'.2.1]; rfl, fun h => absurd h1'.1 h⟩, fun h => absurd rfl h⟩

theorem planned_at {s : Stl} {plan : List Int} (he : planE s plan = 0) {k : Int} (h0 : 0 ≤ k) (h1 : k < (s.worth.length : Int)) : (plannedK s plan).1[Int.toNat k]? = some (firstI (machG s) (onlyI k) (fun i _ => planI plan i)) := by
  rw [plannedK, if_pos he, planL, List.getElem?_map, List.getElem?_range (by omega)]
  simp only [Option.map_some, Int.toNat_of_nonneg h0]
theorem checkO_yes {s : Stl} (hc : checkK s = 0) {k p o : Int} (h0 : 0 ≤ k) (h1 : k < (s.worth.length : Int)) (hp : p = 1 ∨ p = 2) (ho : o = 1 ∨ o = 2) : checkO s k p o = 0 := by
  rw [checkO, if_pos hc, if_pos]
  rw [rightO_eq hc, Bool.and_eq_true]
  exact ⟨within_iff.2 ⟨h0, by omega⟩, aims2_iff.2 ⟨hp, ho⟩⟩
end Go.Proofs.Ytfgmlaeikcfpbaa

namespace Go.Proofs.Ytfgmlaeikcfpbaa
open Go Ax
open Go.Proofs

structure WideOk (a b m n q : Int) : Prop where
  q0 : 0 < q
  qb : q ∣ b
  qn : q ∣ n
  a0 : 0 ≤ a ∧ a ≤ b
  m0 : 0 ≤ m ∧ m ≤ n
  b0 : b ≤ 1000000000000
  n0 : n ≤ 1000000000000
  le : a * n ≤ m * b
structure EnOk (s : Stl) (plan : List Int) (kd st ps D N : Int) : Prop where
  d0 : 0 < D ∧ D ≤ 1000000000000
  n0 : 0 ≤ N ∧ N ≤ D
  k : enoughK s plan kd st ps = ((fracI N D).num, (fracI N D).den, 0)
/-! ### All kinds together -/
theorem sumW_add : ∀ {ts : List Trn} {a b c : List Int}, ts.length = a.length → ts.length = b.length → ts.length = c.length → (∀ (k : Nat) (x y z : Int), a[k]? = some x → b[k]? = some y → c[k]? = some z → z = x + y) → sumW ts c = sumW ts a + sumW ts b
  | [], a, b, c, _, _, _, _ => by simp [sumW]
  | t :: ts, [], b, c, h, _, _, _ => by simp at h
  | t :: ts, a, [], c, _, h, _, _ => by simp at h
  | t :: ts, a, b, [], _, _, h, _ => by simp at h
  | t :: ts, x :: a, y :: b, z :: c, h1, h2, h3, h => by
    simp only [sumW]
    rw [sumW_add (ts := ts) (a := a) (b := b) (c := c) (by simpa using h1) (by simpa using h2) (by simpa using h3) (fun k x y z hx hy hz => h (k + 1) x y z (by simpa using hx) (by simpa using hy) (by simpa using hz)), h 0 x y z rfl rfl rfl, Int.mul_add]
    omega
theorem val_add {m : Mch} (hm : MOk m) {w1 w2 w3 : Int → Int} {plan : List Int} (hw1 : WOk m w1 (fun i _ => planI plan i)) (hw2 : WOk m w2 (fun i _ => planI plan i)) (hw3 : WOk m w3 (fun i _ => planI plan i)) (hadd : ∀ n : Int, 0 ≤ n → n ≤ (m.s.worth.length : Int) - 1 → w3 n = w1 n + w2 n) :
    ∀ (d j : Nat), m.s.stages.length ≤ j + d → (valA m w3 (fun i _ => planI plan i)).1.getD j 0 = (valA m w1 (fun i _ => planI plan i)).1.getD j 0 + (valA m w2 (fun i _ => planI plan i)).1.getD j 0 := by
  intro d
  have hf1 := (vfixA hm hw1).fx
  have hf2 := (vfixA hm hw2).fx
  have hf3 := (vfixA hm hw3).fx
  have hp1 := val_okA hm hw1
  have hp2 := val_okA hm hw2
  have hp3 := val_okA hm hw3
  have hform := (stPre_of hm.st).2.2.2.2
  induction d with
  | zero =>
    intro j hd
    rw [getD_ge (by rw [hp3.l1]; omega), getD_ge (by rw [hp1.l1]; omega), getD_ge (by rw [hp2.l1]; omega)]
    rfl
  | succ d ih =>
    intro j hd
    rcases Nat.lt_or_ge j m.s.stages.length with hlt | hge
    · have hi : m.s.stages[j]? = some m.s.stages[j] := List.getElem?_eq_getElem hlt
      have hfo := form_of hi (hform j hlt)
      have e1 := hf1 j _ (by omega) hi
      have e2 := hf2 j _ (by omega) hi
      have e3 := hf3 j _ (by omega) hi
      have t1 := fun (k : Nat) (t : Trn) hk => fin_turn hm hw1 hi (k := k) (t := t) hk
      have t2 := fun (k : Nat) (t : Trn) hk => fin_turn hm hw2 hi (k := k) (t := t) hk
      have t3 := fun (k : Nat) (t : Trn) hk => fin_turn hm hw3 hi (k := k) (t := t) hk
      have hcc := hw1.c1 j _ (nextI m j (valA m w1 (fun i _ => planI plan i)).1 m.s.stages[j].turns) hi
      have hpos := turns_pos hm hi
      generalize m.s.stages[j] = x at hi hfo e1 e2 e3 t1 t2 t3 hcc hpos
      have hN : ∀ (k : Nat), k < x.turns.length → ∃ a b, (nextI m j (valA m w1 (fun i _ => planI plan i)).1 x.turns)[k]? = some a ∧ (nextI m j (valA m w2 (fun i _ => planI plan i)).1 x.turns)[k]? = some b ∧ (nextI m j (valA m w3 (fun i _ => planI plan i)).1 x.turns)[k]? = some (a + b) := by
        intro k hkl
        have hkt : x.turns[k]? = some x.turns[k] := List.getElem?_eq_getElem hkl
        obtain ⟨q, r, v1, a1, a2, a3, a4, a5, a6, -⟩ := t1 k _ hkt
        obtain ⟨q', r', v2, b1, b2, b3, b4, -⟩ := t2 k _ hkt
        obtain ⟨q'', r'', v3, c1, c2, c3, c4, -⟩ := t3 k _ hkt
        rw [a1] at b1 c1; cases b1; cases c1
        rw [a2] at b2 c2; cases b2; cases c2
        have h1 := ih (Int.toNat x.turns[k].to) (by omega)
        rw [getD_of a3, getD_of b3, getD_of c3] at h1
        refine ⟨_, _, a4, b4, ?_⟩
        rw [c4, h1, Int.add_mul]
      by_cases h4 : x.kind = 4
      · rw [(e1.1 h4).1, (e2.1 h4).1, (e3.1 h4).1]
        split
        · rename_i hp
          exact hadd x.prize hp (by rcases hfo with ⟨-, -, h⟩ | ⟨h, -⟩ <;> omega)
        · rfl
      · by_cases h1 : x.kind = 1
        · rw [(e1.2.1 h1).1, (e2.2.1 h1).1, (e3.2.1 h1).1]
          refine sumW_add (by rw [next_len]) (by rw [next_len]) (by rw [next_len]) (fun k a b c ha hb hc => ?_)
          have hkl := (List.getElem?_eq_some_iff.1 ha).1
          rw [next_len] at hkl
          obtain ⟨a', b', q1, q2, q3⟩ := hN k hkl
          rw [ha] at q1; cases q1
          rw [hb] at q2; cases q2
          rw [hc] at q3; cases q3
          rfl
        · rw [(e1.2.2 h4 h1).1, (e2.2.2 h4 h1).1, (e3.2.2 h4 h1).1, (e1.2.2 h4 h1).2, (e2.2.2 h4 h1).2, (e3.2.2 h4 h1).2]
          have hc := hcc h4 h1 next_len (by rw [next_len]; exact hpos h4)
          obtain ⟨a', b', q1, q2, q3⟩ := hN _ (by have := hc.2; rw [next_len] at this; exact this)
          rw [getD_of q1, getD_of q2, getD_of q3]
    · rw [getD_ge (by rw [hp3.l1]; omega), getD_ge (by rw [hp1.l1]; omega), getD_ge (by rw [hp2.l1]; omega)]
      rfl
def planV (s : Stl) (plan : List Int) (k : Int) : Int := (valA (machG s) (onlyI k) (fun i _ => planI plan i)).1.getD 0 0
def sumV (s : Stl) (plan : List Int) : Nat → Int
  | 0 => 0
  | n + 1 => sumV s plan n + planV s plan (n : Int)
def someI (n : Nat) (x : Int) : Int := if 0 ≤ x ∧ x < (n : Int) then 1 else 0
theorem some_ok {m : Mch} {plan : List Int} (hp : planOk m.s plan = true) {n : Nat} : WOk m (someI n) (fun i _ => planI plan i) := ⟨fun x _ _ => by unfold someI; split <;> omega, plan_in hp⟩
theorem sumV_eq {s : Stl} {plan : List Int} (hc : checkK s = 0) (hp : planOk s plan = true) : ∀ {n : Nat}, sumV s plan n = (valA (machG s) (someI n) (fun i _ => planI plan i)).1.getD 0 0
  | 0 => by
    obtain ⟨hm, es⟩ := mok_G (isSome_of hc)
    have hp' : planOk (machG s).s plan = true := by rw [es]; exact hp
    obtain ⟨u, hu, hu1, hu2⟩ := meas0 hm
    have h1 := val_le hm (some_ok hp' (n := 0)) (B := 0) (by omega) (fun n h _ => by unfold someI; rw [if_neg (by omega)]; omega) (machG s).s.stages.length 0 u (by omega) hu
    have h2 := (val_okA hm (some_ok hp' (n := 0))).hi 0 u (by omega) hu
    simp only [sumV]
    omega
  | n + 1 => by
    obtain ⟨hm, es⟩ := mok_G (isSome_of hc)
    have hp' : planOk (machG s).s plan = true := by rw [es]; exact hp
    have := val_add hm (some_ok hp' (n := n)) (wok_plan hp' (kd := (n : Int))) (some_ok hp' (n := n + 1)) (fun x h0 h1 => by
      unfold someI onlyI
      by_cases e : x = (n : Int)
      · rw [if_pos e, if_pos (by omega), if_neg (by omega)]; rfl
      · rw [if_neg e]
        by_cases e2 : x < (n : Int)
        · rw [if_pos (by omega), if_pos (by omega)]; rfl
        · rw [if_neg (by omega), if_neg (by omega)]; rfl) (machG s).s.stages.length 0 (by omega)
    simp only [sumV]
    rw [sumV_eq hc hp, this]; rfl
theorem sumV_le {s : Stl} {plan : List Int} (hc : checkK s = 0) (hp : planOk s plan = true) {n : Nat} : 0 ≤ sumV s plan n ∧ sumV s plan n ≤ meas0I s := by
  obtain ⟨hm, es⟩ := mok_G (isSome_of hc)
  have hp' : planOk (machG s).s plan = true := by rw [es]; exact hp
  obtain ⟨u, hu, hu1, hu2⟩ := meas0 hm
  have h1 := val_le hm (some_ok hp' (n := n)) (B := 1) (by omega) (fun x h _ => by unfold someI; split <;> omega) (machG s).s.stages.length 0 u (by omega) hu
  have h2 := (val_okA hm (some_ok hp' (n := n))).hi 0 u (by omega) hu
  rw [sumV_eq hc hp, show meas0I s = u from getD_of hu]
  omega
theorem no_oper {s : Stl} (hc : checkK s = 0) (h : ∀ (i : Nat) (x : Stg), s.stages[i]? = some x → x.kind ≠ 3) (k : Int) : turnsI (machG s) k = false := by
  obtain ⟨hm, es⟩ := mok_G (isSome_of hc)
  have same : ∀ p o o' : Int, (p = 1 ∨ p = 2) → oddV (machG s) k p o ≤ oddV (machG s) k p o' := by
    intro p o o' hp
    refine val_mono hm wok_only wok_only (fun n _ _ => Int.le_refl _) (fun i x hi h4 h1 hN => ?_) (machG s).s.stages.length 0 (by omega)
    have hpos := turns_pos hm hi h4
    have h3 := h i x (by rw [← es]; exact hi)
    rw [choose_val (by rw [next_len]; exact hpos), choose_val (by rw [next_len]; exact hpos), aimAt_of hi, aimAt_of hi, if_neg h3, if_neg h3]
    exact pick_le (by rw [next_len, next_len]) (by rw [next_len]; exact hpos) hp hp (Int.le_refl _) hN
  have a := same 1 1 2 (.inl rfl)
  have b := same 1 2 1 (.inl rfl)
  have c := same 2 1 2 (.inr rfl)
  have d := same 2 2 1 (.inr rfl)
  rw [turnsI, Bool.or_eq_false_iff, bne_eq_false_iff_eq, bne_eq_false_iff_eq]
  omega
theorem f14b : Try.f14.body = some (bodyAt Try.prog 14) := by kernel_rfl
def f14K0 (P : Program) : List Item := kAt 400 [.code (bodyAt P 14)] [.b false, .b false, .stop]
def f14S0 (s : Stl) (plan : (List Int)) (sum : Int) (kind : Nat)  : St := ⟨[J, J, .ptr 0 0 0, J, J, .rsl (rowFr ((plannedK s plan).1)) 0 (((plannedK s plan).1).length), J, .rsl (rowI ((measR (measA s)).1)) 0 (((measR (measA s)).1).length), J, .int .i64 sum, .int .i64 (kind : Int), J, J, J, J, J, J, J, J, J, J, J, J, J, J, J, J, J, J, J, J, J, J, J, J, J, J, J, J, J, J, J, J, J, J, J, J, J, J, J, J, J, J, J, J, J, J, J, J, J, J, J, J, J, J, J, J, J, J, J, J, J, J, J, J, J, J, J, J, J, J, J, J, J, J, J, J, J, J, J, J, J, J, J, J, J, J, J, J, J, J, J, J, J, J, J, J, J, J, J, J, J, J, J, J, J, J, J, J, J, J, J, J, J, J, J, J, J, J, J, J, J, J, J, J, J, J, J, J, J, J, J, J, J, J, J, J, J, J, J, J, J, J, J, J, J, J, J, J, J, J, J, J, J, J, J, J, J, J, J], [⟨true, 0, 1, true, [.rsl (rowStg s.stages) 0 s.stages.length, .rsl (rowI s.worth) 0 s.worth.length, .int .i64 s.price], false⟩]⟩
def f14G0 (E : Env) (s : Stl) (plan : (List Int)) (sum : Int) (kind : Nat) : Prop := G Try.prog E (f14K0 Try.prog) (f14S0 s plan sum kind )
def f14K1 (P : Program) : List Item := kAt 400 [.code (bodyAt P 14)] [.b false, .b false, .b false, .stop]
def f14S1 (s : Stl) (plan : (List Int)) (sum : Int) (operators : Nat) (players : Nat) (i : Nat)  : St := ⟨[J, J, .ptr 0 0 0, J, J, .rsl (rowFr ((plannedK s plan).1)) 0 (((plannedK s plan).1).length), J, .rsl (rowI ((measR (measA s)).1)) 0 (((measR (measA s)).1).length), J, .int .i64 sum, J, .int .i64 (operators : Int), .int .i64 (players : Int), .int .i64 (i : Int), J, J, J, J, J, J, J, J, J, J, J, J, J, J, J, J, J, J, J, J, J, J, J, J, J, J, J, J, J, J, J, J, J, J, J, J, J, J, J, J, J, J, J, J, J, J, J, J, J, J, J, J, J, J, J, J, J, J, J, J, J, J, J, J, J, J, J, J, J, J, J, J, J, J, J, J, J, J, J, J, J, J, J, J, J, J, J, J, J, J, J, J, J, J, J, J, J, J, J, J, J, J, J, J, J, J, J, J, J, J, J, J, J, J, J, J, J, J, J, J, J, J, J, J, J, J, J, J, J, J, J, J, J, J, J, J, J, J, J, J, J, J, J, J, J, J, J, J, J, J, J, J, J, J, J, J], [⟨true, 0, 1, true, [.rsl (rowStg s.stages) 0 s.stages.length, .rsl (rowI s.worth) 0 s.worth.length, .int .i64 s.price], false⟩]⟩
def f14G1 (E : Env) (s : Stl) (plan : (List Int)) (sum : Int) (operators : Nat) (players : Nat) (i : Nat) : Prop := G Try.prog E (f14K1 Try.prog) (f14S1 s plan sum operators players i )
def f14K2 (P : Program) : List Item := kAt 400 [.code (bodyAt P 14)] [.b false, .b false, .b false, .b false, .b false, .stop]
def f14S2 (s : Stl) (plan : (List Int)) (operators : Nat) (players : Nat) (kind : Nat)  : St := ⟨[J, J, .ptr 0 0 0, J, J, .rsl (rowFr ((plannedK s plan).1)) 0 (((plannedK s plan).1).length), J, J, J, J, J, .int .i64 (operators : Int), .int .i64 (players : Int), J, J, .int .i64 (kind : Int), J, J, J, J, J, J, J, J, J, J, J, J, J, J, J, J, J, J, J, J, J, J, J, J, J, J, J, J, J, J, J, J, J, J, J, J, J, J, J, J, J, J, J, J, J, J, J, J, J, J, J, J, J, J, J, J, J, J, J, J, J, J, J, J, J, J, J, J, J, J, J, J, J, J, J, J, J, J, J, J, J, J, J, J, J, J, J, J, J, J, J, J, J, J, J, J, J, J, J, J, J, J, J, J, J, J, J, J, J, J, J, J, J, J, J, J, J, J, J, J, J, J, J, J, J, J, J, J, J, J, J, J, J, J, J, J, J, J, J, J, J, J, J, J, J, J, J, J, J, J, J, J, J, J], [⟨true, 0, 1, true, [.rsl (rowStg s.stages) 0 s.stages.length, .rsl (rowI s.worth) 0 s.worth.length, .int .i64 s.price], false⟩]⟩
def f14G2 (E : Env) (s : Stl) (plan : (List Int)) (operators : Nat) (players : Nat) (kind : Nat) : Prop := G Try.prog E (f14K2 Try.prog) (f14S2 s plan operators players kind )
def f14K3 (P : Program) : List Item := kAt 400 [.code (bodyAt P 14)] [.b false, .b false, .b false, .b false, .b false, .b true, .stop]
def f14S3 (s : Stl) (plan : (List Int)) (operators : Nat) (players : Nat) (aim : Nat) (kind : Nat)  : St := ⟨[J, J, .ptr 0 0 0, J, J, .rsl (rowFr ((plannedK s plan).1)) 0 (((plannedK s plan).1).length), J, J, J, J, J, .int .i64 (operators : Int), .int .i64 (players : Int), J, J, .int .i64 (kind : Int), .int .i64 (aim : Int), J, J, J, J, J, J, J, J, J, J, J, J, J, J, J, J, J, J, J, J, J, J, J, J, J, J, J, J, J, J, J, J, J, J, J, J, J, J, J, J, J, J, J, J, J, J, J, J, J, J, J, J, J, J, J, J, J, J, J, J, J, J, J, J, J, J, J, J, J, J, J, J, J, J, J, J, J, J, J, J, J, J, J, J, J, J, J, J, J, J, J, J, J, J, J, J, J, J, J, J, J, J, J, J, J, J, J, J, J, J, J, J, J, J, J, J, J, J, J, J, J, J, J, J, J, J, J, J, J, J, J, J, J, J, J, J, J, J, J, J, J, J, J, J, J, J, J, J, J, J, J, J, J], [⟨true, 0, 1, true, [.rsl (rowStg s.stages) 0 s.stages.length, .rsl (rowI s.worth) 0 s.worth.length, .int .i64 s.price], false⟩]⟩
def f14G3 (E : Env) (s : Stl) (plan : (List Int)) (operators : Nat) (players : Nat) (aim : Nat) (kind : Nat) : Prop := G Try.prog E (f14K3 Try.prog) (f14S3 s plan operators players aim kind )
theorem p14_start_0 (s : Stl) (plan : (List Int))   {E : Env} {res : AV} (hE : PureE Try.prog 14 res E) (ho : AllP [PureF Try.prog (.clos 30 [] []) [.agg [.rsl (rowStg s.stages) 0 s.stages.length, .rsl (rowI s.worth) 0 s.worth.length, .int .i64 s.price], .rsl (rowI plan) 0 plan.length] (.int .i64 (planE s plan)), ((planE s plan) != 0) = true, PureF Try.prog (.clos 20 [] []) [] (.bool true)])
    (hr : AvLe (.bool true) res) : G Try.prog E [.code (bodyAt Try.prog 14)] ⟨[.agg [.rsl (rowStg s.stages) 0 s.stages.length, .rsl (rowI s.worth) 0 s.worth.length, .int .i64 s.price], .rsl (rowI plan) 0 plan.length] ++ unds (Try.f14.ntmps - 2), []⟩ :=
  end_stepL (n := 400) (evs := [.v (.int .i64 (planE s plan)), .b true, .v (.bool true)]) (obs := _) hE Try.func14 mixed (by kernel_rfl) ho hr
theorem p14_start_1 (s : Stl) (plan : (List Int))   {E : Env} {res : AV} (hE : PureE Try.prog 14 res E) (ho : AllP [PureF Try.prog (.clos 30 [] []) [.agg [.rsl (rowStg s.stages) 0 s.stages.length, .rsl (rowI s.worth) 0 s.worth.length, .int .i64 s.price], .rsl (rowI plan) 0 plan.length] (.int .i64 (planE s plan)), ((planE s plan) != 0) = false, PureF Try.prog (.clos 40 [] []) [.agg [.rsl (rowStg s.stages) 0 s.stages.length, .rsl (rowI s.worth) 0 s.worth.length, .int .i64 s.price], .rsl (rowI plan) 0 plan.length] (.tup [.rsl (rowFr ((plannedK s plan).1)) 0 (((plannedK s plan).1).length), .int .i64 ((plannedK s plan).2)]), ((plannedK s plan).2 != 0) = true])
    (hr : AvLe (.bool false) res) : G Try.prog E [.code (bodyAt Try.prog 14)] ⟨[.agg [.rsl (rowStg s.stages) 0 s.stages.length, .rsl (rowI s.worth) 0 s.worth.length, .int .i64 s.price], .rsl (rowI plan) 0 plan.length] ++ unds (Try.f14.ntmps - 2), []⟩ :=
  end_stepL (n := 400) (evs := [.v (.int .i64 (planE s plan)), .b false, .v (.tup [.rsl (rowFr ((plannedK s plan).1)) 0 (((plannedK s plan).1).length), .int .i64 ((plannedK s plan).2)]), .b true]) (obs := _) hE Try.func14 mixed (by kernel_rfl) ho hr
theorem p14_start_2 (s : Stl) (plan : (List Int))   {E : Env} {rv : AV} (hE : PureE Try.prog 14 rv E) (ho : AllP [PureF Try.prog (.clos 30 [] []) [.agg [.rsl (rowStg s.stages) 0 s.stages.length, .rsl (rowI s.worth) 0 s.worth.length, .int .i64 s.price], .rsl (rowI plan) 0 plan.length] (.int .i64 (planE s plan)), ((planE s plan) != 0) = false, PureF Try.prog (.clos 40 [] []) [.agg [.rsl (rowStg s.stages) 0 s.stages.length, .rsl (rowI s.worth) 0 s.worth.length, .int .i64 s.price], .rsl (rowI plan) 0 plan.length] (.tup [.rsl (rowFr ((plannedK s plan).1)) 0 (((plannedK s plan).1).length), .int .i64 ((plannedK s plan).2)]), ((plannedK s plan).2 != 0) = false, PureF Try.prog (.clos 51 [] []) [.agg [.rsl (rowStg s.stages) 0 s.stages.length, .rsl (rowI s.worth) 0 s.worth.length, .int .i64 s.price]] (.tup [.rsl (rowI ((measR (measA s)).1)) 0 (((measR (measA s)).1).length), .bool ((measR (measA s)).2)])])
    (hg : G Try.prog E (f14K0 Try.prog) ⟨[J, J, .ptr 0 0 0, J, J, .rsl (rowFr ((plannedK s plan).1)) 0 (((plannedK s plan).1).length), J, .rsl (rowI ((measR (measA s)).1)) 0 (((measR (measA s)).1).length), J, .int .i64 0, .int .i64 0, J, J, J, J, J, J, J, J, J, J, J, J, J, J, J, J, J, J, J, J, J, J, J, J, J, J, J, J, J, J, J, J, J, J, J, J, J, J, J, J, J, J, J, J, J, J, J, J, J, J, J, J, J, J, J, J, J, J, J, J, J, J, J, J, J, J, J, J, J, J, J, J, J, J, J, J, J, J, J, J, J, J, J, J, J, J, J, J, J, J, J, J, J, J, J, J, J, J, J, J, J, J, J, J, J, J, J, J, J, J, J, J, J, J, J, J, J, J, J, J, J, J, J, J, J, J, J, J, J, J, J, J, J, J, J, J, J, J, J, J, J, J, J, J, J, J, J, J, J, J, J, J, J, J, J, J, J, J, J], [⟨true, 0, 1, true, [.rsl (rowStg s.stages) 0 s.stages.length, .rsl (rowI s.worth) 0 s.worth.length, .int .i64 s.price], false⟩]⟩) : G Try.prog E [.code (bodyAt Try.prog 14)] ⟨[.agg [.rsl (rowStg s.stages) 0 s.stages.length, .rsl (rowI s.worth) 0 s.worth.length, .int .i64 s.price], .rsl (rowI plan) 0 plan.length] ++ unds (Try.f14.ntmps - 2), []⟩ :=
  segC_step (n := 400) (ds := []) (cs := []) (live := [2, 5, 7, 9, 10]) (m := 1) (evs := [.v (.int .i64 (planE s plan)), .b false, .v (.tup [.rsl (rowFr ((plannedK s plan).1)) 0 (((plannedK s plan).1).length), .int .i64 ((plannedK s plan).2)]), .b false, .v (.tup [.rsl (rowI ((measR (measA s)).1)) 0 (((measR (measA s)).1).length), .bool ((measR (measA s)).2)]), .stop]) (obs := _) hE.2.1 (hE.nogh _) mixed (by kernel_rfl) ho hg
theorem f14W (s : Stl) (plan : (List Int)) {E : Env} {rv : Bool} (hE : PureE Try.prog 14 (.bool rv) E)
    (h : (((s.stages.length ≤ 9223372036854775807 ∧ s.worth.length ≤ 9223372036854775807) ∧ plan.length ≤ 9223372036854775807) ∧ ((¬ ((planE s plan) = 0) → rv = true) ∧ ((planE s plan) = 0 → ((s.stages.length ≤ 9223372036854775807 ∧ s.worth.length ≤ 9223372036854775807) ∧ ((¬ ((plannedK s plan).2 = 0) → rv = false) ∧ ((plannedK s plan).2 = 0 → ((s.stages.length ≤ 1000000 ∧ ∀ i, i < s.stages.length → formI s i = true) ∧ f14G0 E s plan 0 0)))))))) : G Try.prog E [.code (bodyAt Try.prog 14)] ⟨[.agg [.rsl (rowStg s.stages) 0 s.stages.length, .rsl (rowI s.worth) 0 s.worth.length, .int .i64 s.price], .rsl (rowI plan) 0 plan.length] ++ unds (Try.f14.ntmps - 2), []⟩ := by
  obtain ⟨h1, h⟩ := h
  rcases Bool.eq_false_or_eq_true ((planE s plan) != 0) with hc0 | hc0
  · have h := h.1 (bneT hc0)
    exact p14_start_0 s plan    hE ⟨(pureF_of Try.func30 (by kernel_rfl) f30b (planE_ok s plan h1)), hc0, (pureF_of Try.func20 (by kernel_rfl) f20b works_ok), trivial⟩ (AvLe.of_eq (by rw [h]; try rfl))
  · have h := h.2 (bneF hc0)
    obtain ⟨h2, h⟩ := h
    rcases Bool.eq_false_or_eq_true ((plannedK s plan).2 != 0) with hc1 | hc1
    · have h := h.1 (bneT hc1)
      exact p14_start_1 s plan    hE ⟨(pureF_of Try.func30 (by kernel_rfl) f30b (planE_ok s plan h1)), hc0, (pureF_of Try.func40 (by kernel_rfl) f40b (planned_ok s plan h2)), hc1, trivial⟩ (AvLe.of_eq (by rw [h]; try rfl))
    · have h := h.2 (bneF hc1)
      obtain ⟨h3, h⟩ := h
      exact p14_start_2 s plan    hE ⟨(pureF_of Try.func30 (by kernel_rfl) f30b (planE_ok s plan h1)), hc0, (pureF_of Try.func40 (by kernel_rfl) f40b (planned_ok s plan h2)), hc1, (pureF_of Try.func51 (by kernel_rfl) f51b (measures_ok s h3)), trivial⟩ h
theorem p14_0_0 (s : Stl) (plan : (List Int)) (sum : Int) (kind : Nat)  (fe : Fr)  {E : Env} {res : AV} (hE : PureE Try.prog 14 res E) (ho : AllP [(decide ((kind : Int) < ((((plannedK s plan).1).length : Nat) : Int))) = true, 0 ≤ (kind : Int) ∧ (kind : Int) < ((((plannedK s plan).1).length : Nat) : Int), ((rowFr ((plannedK s plan).1)).drop (0 + (Int.toNat (kind : Int)) * 2)).take 2 = [.int .i64 fe.num, .int .i64 fe.den], PureF Try.prog (.clos 32 [] []) [.agg [.rsl (rowStg s.stages) 0 s.stages.length, .rsl (rowI s.worth) 0 s.worth.length, .int .i64 s.price], .agg [.int .i64 fe.num, .int .i64 fe.den]] (.bool true), false = false, 0 ≤ (kind : Int) ∧ (kind : Int) < ((((plannedK s plan).1).length : Nat) : Int), (0 : Int) ≤ 0 ∧ (0 : Int) < ((2 : Nat) : Int), ((rowFr ((plannedK s plan).1)).drop ((0 + (Int.toNat (kind : Int)) * 2) + 0)).take 1 = [.int .i64 fe.num], (decide (fe.num < 0)) = true])
    (hr : AvLe (.bool false) res) : G Try.prog E (f14K0 Try.prog) (f14S0 s plan sum kind ) :=
  end_stepL (n := 400) (evs := [.b true, .auto, .ld (.agg [.int .i64 fe.num, .int .i64 fe.den]), .v (.bool true), .b false, .ld (.int .i64 fe.num), .b true]) (obs := _) hE Try.func14 mixed (by kernel_rfl) ho hr
theorem p14_0_1 (s : Stl) (plan : (List Int)) (sum : Int) (kind : Nat)  (fe : Fr) (e : Int)  {E : Env} {rv : AV} (hE : PureE Try.prog 14 rv E) (ho : AllP [(decide ((kind : Int) < ((((plannedK s plan).1).length : Nat) : Int))) = true, 0 ≤ (kind : Int) ∧ (kind : Int) < ((((plannedK s plan).1).length : Nat) : Int), ((rowFr ((plannedK s plan).1)).drop (0 + (Int.toNat (kind : Int)) * 2)).take 2 = [.int .i64 fe.num, .int .i64 fe.den], PureF Try.prog (.clos 32 [] []) [.agg [.rsl (rowStg s.stages) 0 s.stages.length, .rsl (rowI s.worth) 0 s.worth.length, .int .i64 s.price], .agg [.int .i64 fe.num, .int .i64 fe.den]] (.bool true), false = false, 0 ≤ (kind : Int) ∧ (kind : Int) < ((((plannedK s plan).1).length : Nat) : Int), (0 : Int) ≤ 0 ∧ (0 : Int) < ((2 : Nat) : Int), ((rowFr ((plannedK s plan).1)).drop ((0 + (Int.toNat (kind : Int)) * 2) + 0)).take 1 = [.int .i64 fe.num], (decide (fe.num < 0)) = false, 0 ≤ (kind : Int) ∧ (kind : Int) < ((((plannedK s plan).1).length : Nat) : Int), (0 : Int) ≤ 0 ∧ (0 : Int) < ((2 : Nat) : Int), ((rowFr ((plannedK s plan).1)).drop ((0 + (Int.toNat (kind : Int)) * 2) + 0)).take 1 = [.int .i64 fe.num], (0 : Int) ≤ 0 ∧ (0 : Int) < ((((measR (measA s)).1).length : Nat) : Int), ((rowI ((measR (measA s)).1)).drop (0 + 0 * 1)).take 1 = [.int .i64 e], 0 ≤ (kind : Int) ∧ (kind : Int) < ((((plannedK s plan).1).length : Nat) : Int), (0 : Int) ≤ 1 ∧ (1 : Int) < ((2 : Nat) : Int), ((rowFr ((plannedK s plan).1)).drop ((0 + (Int.toNat (kind : Int)) * 2) + 1)).take 1 = [.int .i64 fe.den], InR .i64 (Int.tdiv e fe.den), fe.den ≠ 0, InR .i64 (fe.num * (Int.tdiv e fe.den)), InR .i64 (sum + (fe.num * (Int.tdiv e fe.den))), InR .i64 ((kind : Int) + 1)])
    (hg : G Try.prog E (f14K0 Try.prog) ⟨[J, J, .ptr 0 0 0, J, J, .rsl (rowFr ((plannedK s plan).1)) 0 (((plannedK s plan).1).length), J, .rsl (rowI ((measR (measA s)).1)) 0 (((measR (measA s)).1).length), J, .int .i64 (sum + (fe.num * (Int.tdiv e fe.den))), .int .i64 ((kind : Int) + 1), J, J, J, J, J, J, J, J, J, J, J, J, J, J, J, J, J, J, J, J, J, J, J, J, J, J, J, J, J, J, J, J, J, J, J, J, J, J, J, J, J, J, J, J, J, J, J, J, J, J, J, J, J, J, J, J, J, J, J, J, J, J, J, J, J, J, J, J, J, J, J, J, J, J, J, J, J, J, J, J, J, J, J, J, J, J, J, J, J, J, J, J, J, J, J, J, J, J, J, J, J, J, J, J, J, J, J, J, J, J, J, J, J, J, J, J, J, J, J, J, J, J, J, J, J, J, J, J, J, J, J, J, J, J, J, J, J, J, J, J, J, J, J, J, J, J, J, J, J, J, J, J, J, J, J, J, J, J, J], [⟨true, 0, 1, true, [.rsl (rowStg s.stages) 0 s.stages.length, .rsl (rowI s.worth) 0 s.worth.length, .int .i64 s.price], false⟩]⟩) : G Try.prog E (f14K0 Try.prog) (f14S0 s plan sum kind ) :=
  segC_step (n := 400) (ds := []) (cs := []) (live := [2, 5, 7, 9, 10]) (m := 1) (evs := [.b true, .auto, .ld (.agg [.int .i64 fe.num, .int .i64 fe.den]), .v (.bool true), .b false, .ld (.int .i64 fe.num), .b false, .ld (.int .i64 fe.num), .ld (.int .i64 e), .ld (.int .i64 fe.den), .stop]) (obs := _) hE.2.1 (hE.nogh _) mixed (by kernel_rfl) ho hg
theorem p14_0_2 (s : Stl) (plan : (List Int)) (sum : Int) (kind : Nat)   {E : Env} {rv : AV} (hE : PureE Try.prog 14 rv E) (ho : AllP [(decide ((kind : Int) < ((((plannedK s plan).1).length : Nat) : Int))) = false])
    (hg : G Try.prog E (f14K1 Try.prog) ⟨[J, J, .ptr 0 0 0, J, J, .rsl (rowFr ((plannedK s plan).1)) 0 (((plannedK s plan).1).length), J, .rsl (rowI ((measR (measA s)).1)) 0 (((measR (measA s)).1).length), J, .int .i64 sum, J, .int .i64 0, .int .i64 0, .int .i64 0, J, J, J, J, J, J, J, J, J, J, J, J, J, J, J, J, J, J, J, J, J, J, J, J, J, J, J, J, J, J, J, J, J, J, J, J, J, J, J, J, J, J, J, J, J, J, J, J, J, J, J, J, J, J, J, J, J, J, J, J, J, J, J, J, J, J, J, J, J, J, J, J, J, J, J, J, J, J, J, J, J, J, J, J, J, J, J, J, J, J, J, J, J, J, J, J, J, J, J, J, J, J, J, J, J, J, J, J, J, J, J, J, J, J, J, J, J, J, J, J, J, J, J, J, J, J, J, J, J, J, J, J, J, J, J, J, J, J, J, J, J, J, J, J, J, J, J, J, J, J, J, J, J, J, J, J], [⟨true, 0, 1, true, [.rsl (rowStg s.stages) 0 s.stages.length, .rsl (rowI s.worth) 0 s.worth.length, .int .i64 s.price], false⟩]⟩) : G Try.prog E (f14K0 Try.prog) (f14S0 s plan sum kind ) :=
  segC_step (n := 400) (ds := []) (cs := []) (live := [2, 5, 7, 9, 11, 12, 13]) (m := 1) (evs := [.b false, .stop]) (obs := _) hE.2.1 (hE.nogh _) mixed (by kernel_rfl) ho hg
theorem f14W0 (s : Stl) (plan : (List Int)) (sum : Int) (kind : Nat) {E : Env} {rv : Bool} (hE : PureE Try.prog 14 (.bool rv) E)
    (h : (((kind : Int) < ((((plannedK s plan).1).length : Nat) : Int) → (∃ fe : Fr, ((plannedK s plan).1)[kind]? = some fe ∧ ((checkK s = 0 ∧ FrOk s fe) ∧ ((fe.num < 0 → rv = false) ∧ (¬ (fe.num < 0) → (∃ e : Int, ((measR (measA s)).1)[0]? = some e ∧ ((-9223372036854775808 ≤ Int.tdiv e fe.den ∧ Int.tdiv e fe.den ≤ 9223372036854775807) ∧ (fe.den ≠ 0 ∧ ((-9223372036854775808 ≤ fe.num * (Int.tdiv e fe.den) ∧ fe.num * (Int.tdiv e fe.den) ≤ 9223372036854775807) ∧ ((-9223372036854775808 ≤ sum + (fe.num * (Int.tdiv e fe.den)) ∧ sum + (fe.num * (Int.tdiv e fe.den)) ≤ 9223372036854775807) ∧ ((-9223372036854775808 ≤ (kind : Int) + 1 ∧ (kind : Int) + 1 ≤ 9223372036854775807) ∧ f14G0 E s plan (sum + (fe.num * (Int.tdiv e fe.den))) (kind + 1)))))))))))) ∧ (¬ ((kind : Int) < ((((plannedK s plan).1).length : Nat) : Int)) → f14G1 E s plan sum 0 0 0))) : f14G0 E s plan sum kind := by
  rcases Bool.eq_false_or_eq_true (decide ((kind : Int) < ((((plannedK s plan).1).length : Nat) : Int))) with hc0 | hc0
  · have h := h.1 (of_decide_eq_true hc0)
    obtain ⟨fe, h1, h⟩ := h
    obtain ⟨h2, h⟩ := h
    rcases Bool.eq_false_or_eq_true (decide (fe.num < 0)) with hc1 | hc1
    · have h := h.1 (of_decide_eq_true hc1)
      exact p14_0_0 s plan sum kind  fe hE ⟨hc0, (idx_ok h1), (row_part cFr (s := 2) (k := 0) (m := 2) (fun _ => rfl) (by decide) h1), (pureF_of Try.func32 (by kernel_rfl) f32b (divides_ok s fe h2)), rfl, (idx_ok h1), (⟨by decide, by decide⟩), (row_part cFr (s := 2) (k := 0) (m := 1) (fun _ => rfl) (by decide) h1), hc1, trivial⟩ (AvLe.of_eq (by rw [h]; try rfl))
    · have h := h.2 (of_decide_eq_false hc1)
      obtain ⟨e, h3, h⟩ := h
      obtain ⟨q19_2, h⟩ := h
      obtain ⟨q20_2, h⟩ := h
      obtain ⟨q21_2, h⟩ := h
      obtain ⟨q22_2, h⟩ := h
      obtain ⟨q23_2, h⟩ := h
      exact p14_0_1 s plan sum kind  fe e hE ⟨hc0, (idx_ok h1), (row_part cFr (s := 2) (k := 0) (m := 2) (fun _ => rfl) (by decide) h1), (pureF_of Try.func32 (by kernel_rfl) f32b (divides_ok s fe h2)), rfl, (idx_ok h1), (⟨by decide, by decide⟩), (row_part cFr (s := 2) (k := 0) (m := 1) (fun _ => rfl) (by decide) h1), hc1, (idx_ok h1), (⟨by decide, by decide⟩), (row_part cFr (s := 2) (k := 0) (m := 1) (fun _ => rfl) (by decide) h1), (idx_ok h3), (row_part cI (s := 1) (k := 0) (m := 1) (fun _ => rfl) (by decide) h3), (idx_ok h1), (⟨by decide, by decide⟩), (row_part cFr (s := 2) (k := 1) (m := 1) (fun _ => rfl) (by decide) h1), q19_2, q20_2, q21_2, q22_2, q23_2, trivial⟩ h
  · have h := h.2 (of_decide_eq_false hc0)
    exact p14_0_2 s plan sum kind   hE ⟨hc0, trivial⟩ h
theorem p14_1_0 (s : Stl) (plan : (List Int)) (sum : Int) (operators : Nat) (players : Nat) (i : Nat)  (se : Stg)  {E : Env} {rv : AV} (hE : PureE Try.prog 14 rv E) (ho : AllP [(decide ((i : Int) < (s.stages.length : Int))) = true, 0 ≤ (i : Int) ∧ (i : Int) < (s.stages.length : Int), ((rowStg s.stages).drop ((0 + (Int.toNat (i : Int)) * 3) + 0)).take 1 = [.int .i64 se.kind], (se.kind == 3) = true, InR .i64 ((operators : Int) + 1), 0 ≤ (i : Int) ∧ (i : Int) < (s.stages.length : Int), ((rowStg s.stages).drop ((0 + (Int.toNat (i : Int)) * 3) + 0)).take 1 = [.int .i64 se.kind], (se.kind == 2) = true, InR .i64 ((players : Int) + 1), InR .i64 ((i : Int) + 1)])
    (hg : G Try.prog E (f14K1 Try.prog) ⟨[J, J, .ptr 0 0 0, J, J, .rsl (rowFr ((plannedK s plan).1)) 0 (((plannedK s plan).1).length), J, .rsl (rowI ((measR (measA s)).1)) 0 (((measR (measA s)).1).length), J, .int .i64 sum, J, .int .i64 ((operators : Int) + 1), .int .i64 ((players : Int) + 1), .int .i64 ((i : Int) + 1), J, J, J, J, J, J, J, J, J, J, J, J, J, J, J, J, J, J, J, J, J, J, J, J, J, J, J, J, J, J, J, J, J, J, J, J, J, J, J, J, J, J, J, J, J, J, J, J, J, J, J, J, J, J, J, J, J, J, J, J, J, J, J, J, J, J, J, J, J, J, J, J, J, J, J, J, J, J, J, J, J, J, J, J, J, J, J, J, J, J, J, J, J, J, J, J, J, J, J, J, J, J, J, J, J, J, J, J, J, J, J, J, J, J, J, J, J, J, J, J, J, J, J, J, J, J, J, J, J, J, J, J, J, J, J, J, J, J, J, J, J, J, J, J, J, J, J, J, J, J, J, J, J, J, J, J], [⟨true, 0, 1, true, [.rsl (rowStg s.stages) 0 s.stages.length, .rsl (rowI s.worth) 0 s.worth.length, .int .i64 s.price], false⟩]⟩) : G Try.prog E (f14K1 Try.prog) (f14S1 s plan sum operators players i ) :=
  segC_step (n := 400) (ds := []) (cs := []) (live := [2, 5, 7, 9, 11, 12, 13]) (m := 1) (evs := [.b true, .auto, .ld (.int .i64 se.kind), .b true, .auto, .ld (.int .i64 se.kind), .b true, .stop]) (obs := _) hE.2.1 (hE.nogh _) mixed (by kernel_rfl) ho hg
theorem p14_1_1 (s : Stl) (plan : (List Int)) (sum : Int) (operators : Nat) (players : Nat) (i : Nat)  (se : Stg)  {E : Env} {rv : AV} (hE : PureE Try.prog 14 rv E) (ho : AllP [(decide ((i : Int) < (s.stages.length : Int))) = true, 0 ≤ (i : Int) ∧ (i : Int) < (s.stages.length : Int), ((rowStg s.stages).drop ((0 + (Int.toNat (i : Int)) * 3) + 0)).take 1 = [.int .i64 se.kind], (se.kind == 3) = true, InR .i64 ((operators : Int) + 1), 0 ≤ (i : Int) ∧ (i : Int) < (s.stages.length : Int), ((rowStg s.stages).drop ((0 + (Int.toNat (i : Int)) * 3) + 0)).take 1 = [.int .i64 se.kind], (se.kind == 2) = false, InR .i64 ((i : Int) + 1)])
    (hg : G Try.prog E (f14K1 Try.prog) ⟨[J, J, .ptr 0 0 0, J, J, .rsl (rowFr ((plannedK s plan).1)) 0 (((plannedK s plan).1).length), J, .rsl (rowI ((measR (measA s)).1)) 0 (((measR (measA s)).1).length), J, .int .i64 sum, J, .int .i64 ((operators : Int) + 1), .int .i64 (players : Int), .int .i64 ((i : Int) + 1), J, J, J, J, J, J, J, J, J, J, J, J, J, J, J, J, J, J, J, J, J, J, J, J, J, J, J, J, J, J, J, J, J, J, J, J, J, J, J, J, J, J, J, J, J, J, J, J, J, J, J, J, J, J, J, J, J, J, J, J, J, J, J, J, J, J, J, J, J, J, J, J, J, J, J, J, J, J, J, J, J, J, J, J, J, J, J, J, J, J, J, J, J, J, J, J, J, J, J, J, J, J, J, J, J, J, J, J, J, J, J, J, J, J, J, J, J, J, J, J, J, J, J, J, J, J, J, J, J, J, J, J, J, J, J, J, J, J, J, J, J, J, J, J, J, J, J, J, J, J, J, J, J, J, J, J], [⟨true, 0, 1, true, [.rsl (rowStg s.stages) 0 s.stages.length, .rsl (rowI s.worth) 0 s.worth.length, .int .i64 s.price], false⟩]⟩) : G Try.prog E (f14K1 Try.prog) (f14S1 s plan sum operators players i ) :=
  segC_step (n := 400) (ds := []) (cs := []) (live := [2, 5, 7, 9, 11, 12, 13]) (m := 1) (evs := [.b true, .auto, .ld (.int .i64 se.kind), .b true, .auto, .ld (.int .i64 se.kind), .b false, .stop]) (obs := _) hE.2.1 (hE.nogh _) mixed (by kernel_rfl) ho hg
theorem p14_1_2 (s : Stl) (plan : (List Int)) (sum : Int) (operators : Nat) (players : Nat) (i : Nat)  (se : Stg)  {E : Env} {rv : AV} (hE : PureE Try.prog 14 rv E) (ho : AllP [(decide ((i : Int) < (s.stages.length : Int))) = true, 0 ≤ (i : Int) ∧ (i : Int) < (s.stages.length : Int), ((rowStg s.stages).drop ((0 + (Int.toNat (i : Int)) * 3) + 0)).take 1 = [.int .i64 se.kind], (se.kind == 3) = false, 0 ≤ (i : Int) ∧ (i : Int) < (s.stages.length : Int), ((rowStg s.stages).drop ((0 + (Int.toNat (i : Int)) * 3) + 0)).take 1 = [.int .i64 se.kind], (se.kind == 2) = true, InR .i64 ((players : Int) + 1), InR .i64 ((i : Int) + 1)])
    (hg : G Try.prog E (f14K1 Try.prog) ⟨[J, J, .ptr 0 0 0, J, J, .rsl (rowFr ((plannedK s plan).1)) 0 (((plannedK s plan).1).length), J, .rsl (rowI ((measR (measA s)).1)) 0 (((measR (measA s)).1).length), J, .int .i64 sum, J, .int .i64 (operators : Int), .int .i64 ((players : Int) + 1), .int .i64 ((i : Int) + 1), J, J, J, J, J, J, J, J, J, J, J, J, J, J, J, J, J, J, J, J, J, J, J, J, J, J, J, J, J, J, J, J, J, J, J, J, J, J, J, J, J, J, J, J, J, J, J, J, J, J, J, J, J, J, J, J, J, J, J, J, J, J, J, J, J, J, J, J, J, J, J, J, J, J, J, J, J, J, J, J, J, J, J, J, J, J, J, J, J, J, J, J, J, J, J, J, J, J, J, J, J, J, J, J, J, J, J, J, J, J, J, J, J, J, J, J, J, J, J, J, J, J, J, J, J, J, J, J, J, J, J, J, J, J, J, J, J, J, J, J, J, J, J, J, J, J, J, J, J, J, J, J, J, J, J, J], [⟨true, 0, 1, true, [.rsl (rowStg s.stages) 0 s.stages.length, .rsl (rowI s.worth) 0 s.worth.length, .int .i64 s.price], false⟩]⟩) : G Try.prog E (f14K1 Try.prog) (f14S1 s plan sum operators players i ) :=
  segC_step (n := 400) (ds := []) (cs := []) (live := [2, 5, 7, 9, 11, 12, 13]) (m := 1) (evs := [.b true, .auto, .ld (.int .i64 se.kind), .b false, .auto, .ld (.int .i64 se.kind), .b true, .stop]) (obs := _) hE.2.1 (hE.nogh _) mixed (by kernel_rfl) ho hg
theorem p14_1_3 (s : Stl) (plan : (List Int)) (sum : Int) (operators : Nat) (players : Nat) (i : Nat)  (se : Stg)  {E : Env} {rv : AV} (hE : PureE Try.prog 14 rv E) (ho : AllP [(decide ((i : Int) < (s.stages.length : Int))) = true, 0 ≤ (i : Int) ∧ (i : Int) < (s.stages.length : Int), ((rowStg s.stages).drop ((0 + (Int.toNat (i : Int)) * 3) + 0)).take 1 = [.int .i64 se.kind], (se.kind == 3) = false, 0 ≤ (i : Int) ∧ (i : Int) < (s.stages.length : Int), ((rowStg s.stages).drop ((0 + (Int.toNat (i : Int)) * 3) + 0)).take 1 = [.int .i64 se.kind], (se.kind == 2) = false, InR .i64 ((i : Int) + 1)])
    (hg : G Try.prog E (f14K1 Try.prog) ⟨[J, J, .ptr 0 0 0, J, J, .rsl (rowFr ((plannedK s plan).1)) 0 (((plannedK s plan).1).length), J, .rsl (rowI ((measR (measA s)).1)) 0 (((measR (measA s)).1).length), J, .int .i64 sum, J, .int .i64 (operators : Int), .int .i64 (players : Int), .int .i64 ((i : Int) + 1), J, J, J, J, J, J, J, J, J, J, J, J, J, J, J, J, J, J, J, J, J, J, J, J, J, J, J, J, J, J, J, J, J, J, J, J, J, J, J, J, J, J, J, J, J, J, J, J, J, J, J, J, J, J, J, J, J, J, J, J, J, J, J, J, J, J, J, J, J, J, J, J, J, J, J, J, J, J, J, J, J, J, J, J, J, J, J, J, J, J, J, J, J, J, J, J, J, J, J, J, J, J, J, J, J, J, J, J, J, J, J, J, J, J, J, J, J, J, J, J, J, J, J, J, J, J, J, J, J, J, J, J, J, J, J, J, J, J, J, J, J, J, J, J, J, J, J, J, J, J, J, J, J, J, J, J], [⟨true, 0, 1, true, [.rsl (rowStg s.stages) 0 s.stages.length, .rsl (rowI s.worth) 0 s.worth.length, .int .i64 s.price], false⟩]⟩) : G Try.prog E (f14K1 Try.prog) (f14S1 s plan sum operators players i ) :=
  segC_step (n := 400) (ds := []) (cs := []) (live := [2, 5, 7, 9, 11, 12, 13]) (m := 1) (evs := [.b true, .auto, .ld (.int .i64 se.kind), .b false, .auto, .ld (.int .i64 se.kind), .b false, .stop]) (obs := _) hE.2.1 (hE.nogh _) mixed (by kernel_rfl) ho hg
theorem p14_1_4 (s : Stl) (plan : (List Int)) (sum : Int) (operators : Nat) (players : Nat) (i : Nat)   {E : Env} {res : AV} (hE : PureE Try.prog 14 res E) (ho : AllP [(decide ((i : Int) < (s.stages.length : Int))) = false, PureF Try.prog (.clos 53 [] []) [.agg [.rsl (rowStg s.stages) 0 s.stages.length, .rsl (rowI s.worth) 0 s.worth.length, .int .i64 s.price]] (.tup [.rsl (rowI ((turnsK s).1)) 0 (((turnsK s).1).length), .int .i64 ((turnsK s).2)]), ((turnsK s).2 != 0) = true, true = true, true = true, true = true])
    (hr : AvLe (.bool false) res) : G Try.prog E (f14K1 Try.prog) (f14S1 s plan sum operators players i ) :=
  end_stepL (n := 400) (evs := [.b false, .v (.tup [.rsl (rowI ((turnsK s).1)) 0 (((turnsK s).1).length), .int .i64 ((turnsK s).2)]), .b true, .b true, .b true, .b true]) (obs := _) hE Try.func14 mixed (by kernel_rfl) ho hr
theorem p14_1_5 (s : Stl) (plan : (List Int)) (sum : Int) (operators : Nat) (players : Nat) (i : Nat)  (e : Int)  {E : Env} {res : AV} (hE : PureE Try.prog 14 res E) (ho : AllP [(decide ((i : Int) < (s.stages.length : Int))) = false, PureF Try.prog (.clos 53 [] []) [.agg [.rsl (rowStg s.stages) 0 s.stages.length, .rsl (rowI s.worth) 0 s.worth.length, .int .i64 s.price]] (.tup [.rsl (rowI ((turnsK s).1)) 0 (((turnsK s).1).length), .int .i64 ((turnsK s).2)]), ((turnsK s).2 != 0) = false, (0 : Int) ≤ 0 ∧ (0 : Int) < ((((measR (measA s)).1).length : Nat) : Int), ((rowI ((measR (measA s)).1)).drop (0 + 0 * 1)).take 1 = [.int .i64 e], (decide (sum > e)) = true, true = true, true = true])
    (hr : AvLe (.bool false) res) : G Try.prog E (f14K1 Try.prog) (f14S1 s plan sum operators players i ) :=
  end_stepL (n := 400) (evs := [.b false, .v (.tup [.rsl (rowI ((turnsK s).1)) 0 (((turnsK s).1).length), .int .i64 ((turnsK s).2)]), .b false, .ld (.int .i64 e), .b true, .b true, .b true]) (obs := _) hE Try.func14 mixed (by kernel_rfl) ho hr
theorem p14_1_6 (s : Stl) (plan : (List Int)) (sum : Int) (operators : Nat) (players : Nat) (i : Nat)  (e : Int)  {E : Env} {res : AV} (hE : PureE Try.prog 14 res E) (ho : AllP [(decide ((i : Int) < (s.stages.length : Int))) = false, PureF Try.prog (.clos 53 [] []) [.agg [.rsl (rowStg s.stages) 0 s.stages.length, .rsl (rowI s.worth) 0 s.worth.length, .int .i64 s.price]] (.tup [.rsl (rowI ((turnsK s).1)) 0 (((turnsK s).1).length), .int .i64 ((turnsK s).2)]), ((turnsK s).2 != 0) = false, (0 : Int) ≤ 0 ∧ (0 : Int) < ((((measR (measA s)).1).length : Nat) : Int), ((rowI ((measR (measA s)).1)).drop (0 + 0 * 1)).take 1 = [.int .i64 e], (decide (sum > e)) = false, ((operators : Int) == 0) = true, (decide (((((turnsK s).1).length : Nat) : Int) > 0)) = true, true = true])
    (hr : AvLe (.bool false) res) : G Try.prog E (f14K1 Try.prog) (f14S1 s plan sum operators players i ) :=
  end_stepL (n := 400) (evs := [.b false, .v (.tup [.rsl (rowI ((turnsK s).1)) 0 (((turnsK s).1).length), .int .i64 ((turnsK s).2)]), .b false, .ld (.int .i64 e), .b false, .b true, .b true, .b true]) (obs := _) hE Try.func14 mixed (by kernel_rfl) ho hr
theorem p14_1_7 (s : Stl) (plan : (List Int)) (sum : Int) (operators : Nat) (players : Nat) (i : Nat)  (e : Int)  {E : Env} {res : AV} (hE : PureE Try.prog 14 res E) (ho : AllP [(decide ((i : Int) < (s.stages.length : Int))) = false, PureF Try.prog (.clos 53 [] []) [.agg [.rsl (rowStg s.stages) 0 s.stages.length, .rsl (rowI s.worth) 0 s.worth.length, .int .i64 s.price]] (.tup [.rsl (rowI ((turnsK s).1)) 0 (((turnsK s).1).length), .int .i64 ((turnsK s).2)]), ((turnsK s).2 != 0) = false, (0 : Int) ≤ 0 ∧ (0 : Int) < ((((measR (measA s)).1).length : Nat) : Int), ((rowI ((measR (measA s)).1)).drop (0 + 0 * 1)).take 1 = [.int .i64 e], (decide (sum > e)) = false, ((operators : Int) == 0) = true, (decide (((((turnsK s).1).length : Nat) : Int) > 0)) = false, (((((plannedK s plan).1).length : Nat) : Int) != (s.worth.length : Int)) = true])
    (hr : AvLe (.bool false) res) : G Try.prog E (f14K1 Try.prog) (f14S1 s plan sum operators players i ) :=
  end_stepL (n := 400) (evs := [.b false, .v (.tup [.rsl (rowI ((turnsK s).1)) 0 (((turnsK s).1).length), .int .i64 ((turnsK s).2)]), .b false, .ld (.int .i64 e), .b false, .b true, .b false, .b true]) (obs := _) hE Try.func14 mixed (by kernel_rfl) ho hr
theorem p14_1_8 (s : Stl) (plan : (List Int)) (sum : Int) (operators : Nat) (players : Nat) (i : Nat)  (e : Int)  {E : Env} {rv : AV} (hE : PureE Try.prog 14 rv E) (ho : AllP [(decide ((i : Int) < (s.stages.length : Int))) = false, PureF Try.prog (.clos 53 [] []) [.agg [.rsl (rowStg s.stages) 0 s.stages.length, .rsl (rowI s.worth) 0 s.worth.length, .int .i64 s.price]] (.tup [.rsl (rowI ((turnsK s).1)) 0 (((turnsK s).1).length), .int .i64 ((turnsK s).2)]), ((turnsK s).2 != 0) = false, (0 : Int) ≤ 0 ∧ (0 : Int) < ((((measR (measA s)).1).length : Nat) : Int), ((rowI ((measR (measA s)).1)).drop (0 + 0 * 1)).take 1 = [.int .i64 e], (decide (sum > e)) = false, ((operators : Int) == 0) = true, (decide (((((turnsK s).1).length : Nat) : Int) > 0)) = false, (((((plannedK s plan).1).length : Nat) : Int) != (s.worth.length : Int)) = false])
    (hg : G Try.prog E (f14K2 Try.prog) ⟨[J, J, .ptr 0 0 0, J, J, .rsl (rowFr ((plannedK s plan).1)) 0 (((plannedK s plan).1).length), J, J, J, J, J, .int .i64 (operators : Int), .int .i64 (players : Int), J, J, .int .i64 0, J, J, J, J, J, J, J, J, J, J, J, J, J, J, J, J, J, J, J, J, J, J, J, J, J, J, J, J, J, J, J, J, J, J, J, J, J, J, J, J, J, J, J, J, J, J, J, J, J, J, J, J, J, J, J, J, J, J, J, J, J, J, J, J, J, J, J, J, J, J, J, J, J, J, J, J, J, J, J, J, J, J, J, J, J, J, J, J, J, J, J, J, J, J, J, J, J, J, J, J, J, J, J, J, J, J, J, J, J, J, J, J, J, J, J, J, J, J, J, J, J, J, J, J, J, J, J, J, J, J, J, J, J, J, J, J, J, J, J, J, J, J, J, J, J, J, J, J, J, J, J, J, J, J], [⟨true, 0, 1, true, [.rsl (rowStg s.stages) 0 s.stages.length, .rsl (rowI s.worth) 0 s.worth.length, .int .i64 s.price], false⟩]⟩) : G Try.prog E (f14K1 Try.prog) (f14S1 s plan sum operators players i ) :=
  segC_step (n := 400) (ds := []) (cs := []) (live := [2, 5, 11, 12, 15]) (m := 1) (evs := [.b false, .v (.tup [.rsl (rowI ((turnsK s).1)) 0 (((turnsK s).1).length), .int .i64 ((turnsK s).2)]), .b false, .ld (.int .i64 e), .b false, .b true, .b false, .b false, .stop]) (obs := _) hE.2.1 (hE.nogh _) mixed (by kernel_rfl) ho hg
theorem p14_1_9 (s : Stl) (plan : (List Int)) (sum : Int) (operators : Nat) (players : Nat) (i : Nat)  (e : Int)  {E : Env} {res : AV} (hE : PureE Try.prog 14 res E) (ho : AllP [(decide ((i : Int) < (s.stages.length : Int))) = false, PureF Try.prog (.clos 53 [] []) [.agg [.rsl (rowStg s.stages) 0 s.stages.length, .rsl (rowI s.worth) 0 s.worth.length, .int .i64 s.price]] (.tup [.rsl (rowI ((turnsK s).1)) 0 (((turnsK s).1).length), .int .i64 ((turnsK s).2)]), ((turnsK s).2 != 0) = false, (0 : Int) ≤ 0 ∧ (0 : Int) < ((((measR (measA s)).1).length : Nat) : Int), ((rowI ((measR (measA s)).1)).drop (0 + 0 * 1)).take 1 = [.int .i64 e], (decide (sum > e)) = false, ((operators : Int) == 0) = false, false = false, (((((plannedK s plan).1).length : Nat) : Int) != (s.worth.length : Int)) = true])
    (hr : AvLe (.bool false) res) : G Try.prog E (f14K1 Try.prog) (f14S1 s plan sum operators players i ) :=
  end_stepL (n := 400) (evs := [.b false, .v (.tup [.rsl (rowI ((turnsK s).1)) 0 (((turnsK s).1).length), .int .i64 ((turnsK s).2)]), .b false, .ld (.int .i64 e), .b false, .b false, .b false, .b true]) (obs := _) hE Try.func14 mixed (by kernel_rfl) ho hr
theorem p14_1_10 (s : Stl) (plan : (List Int)) (sum : Int) (operators : Nat) (players : Nat) (i : Nat)  (e : Int)  {E : Env} {rv : AV} (hE : PureE Try.prog 14 rv E) (ho : AllP [(decide ((i : Int) < (s.stages.length : Int))) = false, PureF Try.prog (.clos 53 [] []) [.agg [.rsl (rowStg s.stages) 0 s.stages.length, .rsl (rowI s.worth) 0 s.worth.length, .int .i64 s.price]] (.tup [.rsl (rowI ((turnsK s).1)) 0 (((turnsK s).1).length), .int .i64 ((turnsK s).2)]), ((turnsK s).2 != 0) = false, (0 : Int) ≤ 0 ∧ (0 : Int) < ((((measR (measA s)).1).length : Nat) : Int), ((rowI ((measR (measA s)).1)).drop (0 + 0 * 1)).take 1 = [.int .i64 e], (decide (sum > e)) = false, ((operators : Int) == 0) = false, false = false, (((((plannedK s plan).1).length : Nat) : Int) != (s.worth.length : Int)) = false])
    (hg : G Try.prog E (f14K2 Try.prog) ⟨[J, J, .ptr 0 0 0, J, J, .rsl (rowFr ((plannedK s plan).1)) 0 (((plannedK s plan).1).length), J, J, J, J, J, .int .i64 (operators : Int), .int .i64 (players : Int), J, J, .int .i64 0, J, J, J, J, J, J, J, J, J, J, J, J, J, J, J, J, J, J, J, J, J, J, J, J, J, J, J, J, J, J, J, J, J, J, J, J, J, J, J, J, J, J, J, J, J, J, J, J, J, J, J, J, J, J, J, J, J, J, J, J, J, J, J, J, J, J, J, J, J, J, J, J, J, J, J, J, J, J, J, J, J, J, J, J, J, J, J, J, J, J, J, J, J, J, J, J, J, J, J, J, J, J, J, J, J, J, J, J, J, J, J, J, J, J, J, J, J, J, J, J, J, J, J, J, J, J, J, J, J, J, J, J, J, J, J, J, J, J, J, J, J, J, J, J, J, J, J, J, J, J, J, J, J, J], [⟨true, 0, 1, true, [.rsl (rowStg s.stages) 0 s.stages.length, .rsl (rowI s.worth) 0 s.worth.length, .int .i64 s.price], false⟩]⟩) : G Try.prog E (f14K1 Try.prog) (f14S1 s plan sum operators players i ) :=
  segC_step (n := 400) (ds := []) (cs := []) (live := [2, 5, 11, 12, 15]) (m := 1) (evs := [.b false, .v (.tup [.rsl (rowI ((turnsK s).1)) 0 (((turnsK s).1).length), .int .i64 ((turnsK s).2)]), .b false, .ld (.int .i64 e), .b false, .b false, .b false, .b false, .stop]) (obs := _) hE.2.1 (hE.nogh _) mixed (by kernel_rfl) ho hg
theorem f14W1 (s : Stl) (plan : (List Int)) (sum : Int) (operators : Nat) (players : Nat) (i : Nat) {E : Env} {rv : Bool} (hE : PureE Try.prog 14 (.bool rv) E)
    (h : (((i : Int) < (s.stages.length : Int) → (∃ se : Stg, s.stages[i]? = some se ∧ ((se.kind = 3 → ((-9223372036854775808 ≤ (operators : Int) + 1 ∧ (operators : Int) + 1 ≤ 9223372036854775807) ∧ ((se.kind = 2 → ((-9223372036854775808 ≤ (players : Int) + 1 ∧ (players : Int) + 1 ≤ 9223372036854775807) ∧ ((-9223372036854775808 ≤ (i : Int) + 1 ∧ (i : Int) + 1 ≤ 9223372036854775807) ∧ f14G1 E s plan sum (operators + 1) (players + 1) (i + 1)))) ∧ (¬ (se.kind = 2) → ((-9223372036854775808 ≤ (i : Int) + 1 ∧ (i : Int) + 1 ≤ 9223372036854775807) ∧ f14G1 E s plan sum (operators + 1) players (i + 1)))))) ∧ (¬ (se.kind = 3) → ((se.kind = 2 → ((-9223372036854775808 ≤ (players : Int) + 1 ∧ (players : Int) + 1 ≤ 9223372036854775807) ∧ ((-9223372036854775808 ≤ (i : Int) + 1 ∧ (i : Int) + 1 ≤ 9223372036854775807) ∧ f14G1 E s plan sum operators (players + 1) (i + 1)))) ∧ (¬ (se.kind = 2) → ((-9223372036854775808 ≤ (i : Int) + 1 ∧ (i : Int) + 1 ≤ 9223372036854775807) ∧ f14G1 E s plan sum operators players (i + 1)))))))) ∧ (¬ ((i : Int) < (s.stages.length : Int)) → ((s.stages.length ≤ 9223372036854775807 ∧ s.worth.length ≤ 9223372036854775807) ∧ ((¬ ((turnsK s).2 = 0) → rv = false) ∧ ((turnsK s).2 = 0 → (∃ e : Int, ((measR (measA s)).1)[0]? = some e ∧ ((sum > e → rv = false) ∧ (¬ (sum > e) → (((operators : Int) = 0 → ((((((turnsK s).1).length : Nat) : Int) > 0 → rv = false) ∧ (¬ (((((turnsK s).1).length : Nat) : Int) > 0) → ((¬ (((((plannedK s plan).1).length : Nat) : Int) = (s.worth.length : Int)) → rv = false) ∧ (((((plannedK s plan).1).length : Nat) : Int) = (s.worth.length : Int) → f14G2 E s plan operators players 0))))) ∧ (¬ ((operators : Int) = 0) → ((¬ (((((plannedK s plan).1).length : Nat) : Int) = (s.worth.length : Int)) → rv = false) ∧ (((((plannedK s plan).1).length : Nat) : Int) = (s.worth.length : Int) → f14G2 E s plan operators players 0))))))))))))) : f14G1 E s plan sum operators players i := by
  rcases Bool.eq_false_or_eq_true (decide ((i : Int) < (s.stages.length : Int))) with hc0 | hc0
  · have h := h.1 (of_decide_eq_true hc0)
    obtain ⟨se, h1, h⟩ := h
    rcases Bool.eq_false_or_eq_true (se.kind == 3) with hc1 | hc1
    · have h := h.1 (eq_of_beq hc1)
      obtain ⟨q5_2, h⟩ := h
      rcases Bool.eq_false_or_eq_true (se.kind == 2) with hc2 | hc2
      · have h := h.1 (eq_of_beq hc2)
        obtain ⟨q9_3, h⟩ := h
        obtain ⟨q10_3, h⟩ := h
        exact p14_1_0 s plan sum operators players i  se hE ⟨hc0, (idx_ok h1), (row_part cStg (s := 3) (k := 0) (m := 1) (fun _ => rfl) (by decide) h1), hc1, q5_2, (idx_ok h1), (row_part cStg (s := 3) (k := 0) (m := 1) (fun _ => rfl) (by decide) h1), hc2, q9_3, q10_3, trivial⟩ h
      · have h := h.2 (ne_of_beq_false hc2)
        obtain ⟨q9_3, h⟩ := h
        exact p14_1_1 s plan sum operators players i  se hE ⟨hc0, (idx_ok h1), (row_part cStg (s := 3) (k := 0) (m := 1) (fun _ => rfl) (by decide) h1), hc1, q5_2, (idx_ok h1), (row_part cStg (s := 3) (k := 0) (m := 1) (fun _ => rfl) (by decide) h1), hc2, q9_3, trivial⟩ h
    · have h := h.2 (ne_of_beq_false hc1)
      rcases Bool.eq_false_or_eq_true (se.kind == 2) with hc2 | hc2
      · have h := h.1 (eq_of_beq hc2)
        obtain ⟨q8_3, h⟩ := h
        obtain ⟨q9_3, h⟩ := h
        exact p14_1_2 s plan sum operators players i  se hE ⟨hc0, (idx_ok h1), (row_part cStg (s := 3) (k := 0) (m := 1) (fun _ => rfl) (by decide) h1), hc1, (idx_ok h1), (row_part cStg (s := 3) (k := 0) (m := 1) (fun _ => rfl) (by decide) h1), hc2, q8_3, q9_3, trivial⟩ h
      · have h := h.2 (ne_of_beq_false hc2)
        obtain ⟨q8_3, h⟩ := h
        exact p14_1_3 s plan sum operators players i  se hE ⟨hc0, (idx_ok h1), (row_part cStg (s := 3) (k := 0) (m := 1) (fun _ => rfl) (by decide) h1), hc1, (idx_ok h1), (row_part cStg (s := 3) (k := 0) (m := 1) (fun _ => rfl) (by decide) h1), hc2, q8_3, trivial⟩ h
  · have h := h.2 (of_decide_eq_false hc0)
    obtain ⟨h1, h⟩ := h
    rcases Bool.eq_false_or_eq_true ((turnsK s).2 != 0) with hc1 | hc1
    · have h := h.1 (bneT hc1)
      exact p14_1_4 s plan sum operators players i   hE ⟨hc0, (pureF_of Try.func53 (by kernel_rfl) f53b (turns_ok s h1)), hc1, rfl, rfl, rfl, trivial⟩ (AvLe.of_eq (by rw [h]; try rfl))
    · have h := h.2 (bneF hc1)
      obtain ⟨e, h2, h⟩ := h
      rcases Bool.eq_false_or_eq_true (decide (sum > e)) with hc2 | hc2
      · have h := h.1 (of_decide_eq_true hc2)
        exact p14_1_5 s plan sum operators players i  e hE ⟨hc0, (pureF_of Try.func53 (by kernel_rfl) f53b (turns_ok s h1)), hc1, (idx_ok h2), (row_part cI (s := 1) (k := 0) (m := 1) (fun _ => rfl) (by decide) h2), hc2, rfl, rfl, trivial⟩ (AvLe.of_eq (by rw [h]; try rfl))
      · have h := h.2 (of_decide_eq_false hc2)
        rcases Bool.eq_false_or_eq_true ((operators : Int) == 0) with hc3 | hc3
        · have h := h.1 (eq_of_beq hc3)
          rcases Bool.eq_false_or_eq_true (decide (((((turnsK s).1).length : Nat) : Int) > 0)) with hc4 | hc4
          · have h := h.1 (of_decide_eq_true hc4)
            exact p14_1_6 s plan sum operators players i  e hE ⟨hc0, (pureF_of Try.func53 (by kernel_rfl) f53b (turns_ok s h1)), hc1, (idx_ok h2), (row_part cI (s := 1) (k := 0) (m := 1) (fun _ => rfl) (by decide) h2), hc2, hc3, hc4, rfl, trivial⟩ (AvLe.of_eq (by rw [h]; try rfl))
          · have h := h.2 (of_decide_eq_false hc4)
            rcases Bool.eq_false_or_eq_true (((((plannedK s plan).1).length : Nat) : Int) != (s.worth.length : Int)) with hc5 | hc5
            · have h := h.1 (bneT hc5)
              exact p14_1_7 s plan sum operators players i  e hE ⟨hc0, (pureF_of Try.func53 (by kernel_rfl) f53b (turns_ok s h1)), hc1, (idx_ok h2), (row_part cI (s := 1) (k := 0) (m := 1) (fun _ => rfl) (by decide) h2), hc2, hc3, hc4, hc5, trivial⟩ (AvLe.of_eq (by rw [h]; try rfl))
            · have h := h.2 (bneF hc5)
              exact p14_1_8 s plan sum operators players i  e hE ⟨hc0, (pureF_of Try.func53 (by kernel_rfl) f53b (turns_ok s h1)), hc1, (idx_ok h2), (row_part cI (s := 1) (k := 0) (m := 1) (fun _ => rfl) (by decide) h2), hc2, hc3, hc4, hc5, trivial⟩ h
        · have h := h.2 (ne_of_beq_false hc3)
          rcases Bool.eq_false_or_eq_true (((((plannedK s plan).1).length : Nat) : Int) != (s.worth.length : Int)) with hc4 | hc4
          · have h := h.1 (bneT hc4)
            exact p14_1_9 s plan sum operators players i  e hE ⟨hc0, (pureF_of Try.func53 (by kernel_rfl) f53b (turns_ok s h1)), hc1, (idx_ok h2), (row_part cI (s := 1) (k := 0) (m := 1) (fun _ => rfl) (by decide) h2), hc2, hc3, rfl, hc4, trivial⟩ (AvLe.of_eq (by rw [h]; try rfl))
          · have h := h.2 (bneF hc4)
            exact p14_1_10 s plan sum operators players i  e hE ⟨hc0, (pureF_of Try.func53 (by kernel_rfl) f53b (turns_ok s h1)), hc1, (idx_ok h2), (row_part cI (s := 1) (k := 0) (m := 1) (fun _ => rfl) (by decide) h2), hc2, hc3, rfl, hc4, trivial⟩ h
theorem p14_2_0 (s : Stl) (plan : (List Int)) (operators : Nat) (players : Nat) (kind : Nat)   {E : Env} {rv : AV} (hE : PureE Try.prog 14 rv E) (ho : AllP [(decide ((kind : Int) < ((((plannedK s plan).1).length : Nat) : Int))) = true, InR .i64 ((operators : Int) + (players : Int)), (((operators : Int) + (players : Int)) == 0) = true])
    (hg : G Try.prog E (f14K3 Try.prog) ⟨[J, J, .ptr 0 0 0, J, J, .rsl (rowFr ((plannedK s plan).1)) 0 (((plannedK s plan).1).length), J, J, J, J, J, .int .i64 (operators : Int), .int .i64 (players : Int), J, J, .int .i64 (kind : Int), .int .i64 0, J, J, J, J, J, J, J, J, J, J, J, J, J, J, J, J, J, J, J, J, J, J, J, J, J, J, J, J, J, J, J, J, J, J, J, J, J, J, J, J, J, J, J, J, J, J, J, J, J, J, J, J, J, J, J, J, J, J, J, J, J, J, J, J, J, J, J, J, J, J, J, J, J, J, J, J, J, J, J, J, J, J, J, J, J, J, J, J, J, J, J, J, J, J, J, J, J, J, J, J, J, J, J, J, J, J, J, J, J, J, J, J, J, J, J, J, J, J, J, J, J, J, J, J, J, J, J, J, J, J, J, J, J, J, J, J, J, J, J, J, J, J, J, J, J, J, J, J, J, J, J, J, J], [⟨true, 0, 1, true, [.rsl (rowStg s.stages) 0 s.stages.length, .rsl (rowI s.worth) 0 s.worth.length, .int .i64 s.price], false⟩]⟩) : G Try.prog E (f14K2 Try.prog) (f14S2 s plan operators players kind ) :=
  segC_step (n := 400) (ds := []) (cs := []) (live := [2, 5, 11, 12, 15, 16]) (m := 1) (evs := [.b true, .b true, .stop]) (obs := _) hE.2.1 (hE.nogh _) mixed (by kernel_rfl) ho hg
theorem p14_2_1 (s : Stl) (plan : (List Int)) (operators : Nat) (players : Nat) (kind : Nat)   {E : Env} {res : AV} (hE : PureE Try.prog 14 res E) (ho : AllP [(decide ((kind : Int) < ((((plannedK s plan).1).length : Nat) : Int))) = true, InR .i64 ((operators : Int) + (players : Int)), (((operators : Int) + (players : Int)) == 0) = false, PureF Try.prog (.clos 20 [] []) [] (.bool true)])
    (hr : AvLe (.bool true) res) : G Try.prog E (f14K2 Try.prog) (f14S2 s plan operators players kind ) :=
  end_stepL (n := 400) (evs := [.b true, .b false, .v (.bool true)]) (obs := _) hE Try.func14 mixed (by kernel_rfl) ho hr
theorem p14_2_2 (s : Stl) (plan : (List Int)) (operators : Nat) (players : Nat) (kind : Nat)   {E : Env} {res : AV} (hE : PureE Try.prog 14 res E) (ho : AllP [(decide ((kind : Int) < ((((plannedK s plan).1).length : Nat) : Int))) = false, false = false, PureF Try.prog (.clos 20 [] []) [] (.bool true)])
    (hr : AvLe (.bool true) res) : G Try.prog E (f14K2 Try.prog) (f14S2 s plan operators players kind ) :=
  end_stepL (n := 400) (evs := [.b false, .b false, .v (.bool true)]) (obs := _) hE Try.func14 mixed (by kernel_rfl) ho hr
theorem f14W2 (s : Stl) (plan : (List Int)) (operators : Nat) (players : Nat) (kind : Nat) {E : Env} {rv : Bool} (hE : PureE Try.prog 14 (.bool rv) E)
    (h : (((kind : Int) < ((((plannedK s plan).1).length : Nat) : Int) → ((-9223372036854775808 ≤ (operators : Int) + (players : Int) ∧ (operators : Int) + (players : Int) ≤ 9223372036854775807) ∧ ((((operators : Int) + (players : Int)) = 0 → f14G3 E s plan operators players 0 kind) ∧ (¬ (((operators : Int) + (players : Int)) = 0) → rv = true)))) ∧ (¬ ((kind : Int) < ((((plannedK s plan).1).length : Nat) : Int)) → rv = true))) : f14G2 E s plan operators players kind := by
  rcases Bool.eq_false_or_eq_true (decide ((kind : Int) < ((((plannedK s plan).1).length : Nat) : Int))) with hc0 | hc0
  · have h := h.1 (of_decide_eq_true hc0)
    obtain ⟨q1_1, h⟩ := h
    rcases Bool.eq_false_or_eq_true (((operators : Int) + (players : Int)) == 0) with hc1 | hc1
    · have h := h.1 (eq_of_beq hc1)
      exact p14_2_0 s plan operators players kind   hE ⟨hc0, q1_1, hc1, trivial⟩ h
    · have h := h.2 (ne_of_beq_false hc1)
      exact p14_2_1 s plan operators players kind   hE ⟨hc0, q1_1, hc1, (pureF_of Try.func20 (by kernel_rfl) f20b works_ok), trivial⟩ (AvLe.of_eq (by rw [h]; try rfl))
  · have h := h.2 (of_decide_eq_false hc0)
    exact p14_2_2 s plan operators players kind   hE ⟨hc0, rfl, (pureF_of Try.func20 (by kernel_rfl) f20b works_ok), trivial⟩ (AvLe.of_eq (by rw [h]; try rfl))
theorem p14_3_0 (s : Stl) (plan : (List Int)) (operators : Nat) (players : Nat) (aim : Nat) (kind : Nat)  (fe : Fr)  {E : Env} {res : AV} (hE : PureE Try.prog 14 res E) (ho : AllP [(decide ((aim : Int) < 4)) = true, InR .i64 (Int.tdiv (aim : Int) 2), (2 : Int) ≠ 0, InR .i64 (1 + (Int.tdiv (aim : Int) 2)), (2 : Int) ≠ 0, InR .i64 (1 + (Int.tmod (aim : Int) 2)), PureF Try.prog (.clos 22 [] []) [.agg [.rsl (rowStg s.stages) 0 s.stages.length, .rsl (rowI s.worth) 0 s.worth.length, .int .i64 s.price], .int .i64 (kind : Int), .int .i64 (1 + (Int.tdiv (aim : Int) 2)), .int .i64 (1 + (Int.tmod (aim : Int) 2))] (.tup [.agg [.int .i64 ((oddF s (kind : Int) (1 + (Int.tdiv (aim : Int) 2)) (1 + (Int.tmod (aim : Int) 2))).num), .int .i64 ((oddF s (kind : Int) (1 + (Int.tdiv (aim : Int) 2)) (1 + (Int.tmod (aim : Int) 2))).den)], .bool true]), 2 ≤ 2, false = false, 0 ≤ (kind : Int) ∧ (kind : Int) < ((((plannedK s plan).1).length : Nat) : Int), ((rowFr ((plannedK s plan).1)).drop (0 + (Int.toNat (kind : Int)) * 2)).take 2 = [.int .i64 fe.num, .int .i64 fe.den], (!((oddF s (kind : Int) (1 + (Int.tdiv (aim : Int) 2)) (1 + (Int.tmod (aim : Int) 2))).num == fe.num && ((oddF s (kind : Int) (1 + (Int.tdiv (aim : Int) 2)) (1 + (Int.tmod (aim : Int) 2))).den == fe.den && true))) = true])
    (hr : AvLe (.bool false) res) : G Try.prog E (f14K3 Try.prog) (f14S3 s plan operators players aim kind ) :=
  end_stepL (n := 400) (evs := [.b true, .v (.tup [.agg [.int .i64 ((oddF s (kind : Int) (1 + (Int.tdiv (aim : Int) 2)) (1 + (Int.tmod (aim : Int) 2))).num), .int .i64 ((oddF s (kind : Int) (1 + (Int.tdiv (aim : Int) 2)) (1 + (Int.tmod (aim : Int) 2))).den)], .bool true]), .b false, .auto, .ld (.agg [.int .i64 fe.num, .int .i64 fe.den]), .b true]) (obs := _) hE Try.func14 mixed (by kernel_rfl) ho hr
theorem p14_3_1 (s : Stl) (plan : (List Int)) (operators : Nat) (players : Nat) (aim : Nat) (kind : Nat)  (fe : Fr)  {E : Env} {rv : AV} (hE : PureE Try.prog 14 rv E) (ho : AllP [(decide ((aim : Int) < 4)) = true, InR .i64 (Int.tdiv (aim : Int) 2), (2 : Int) ≠ 0, InR .i64 (1 + (Int.tdiv (aim : Int) 2)), (2 : Int) ≠ 0, InR .i64 (1 + (Int.tmod (aim : Int) 2)), PureF Try.prog (.clos 22 [] []) [.agg [.rsl (rowStg s.stages) 0 s.stages.length, .rsl (rowI s.worth) 0 s.worth.length, .int .i64 s.price], .int .i64 (kind : Int), .int .i64 (1 + (Int.tdiv (aim : Int) 2)), .int .i64 (1 + (Int.tmod (aim : Int) 2))] (.tup [.agg [.int .i64 ((oddF s (kind : Int) (1 + (Int.tdiv (aim : Int) 2)) (1 + (Int.tmod (aim : Int) 2))).num), .int .i64 ((oddF s (kind : Int) (1 + (Int.tdiv (aim : Int) 2)) (1 + (Int.tmod (aim : Int) 2))).den)], .bool true]), 2 ≤ 2, false = false, 0 ≤ (kind : Int) ∧ (kind : Int) < ((((plannedK s plan).1).length : Nat) : Int), ((rowFr ((plannedK s plan).1)).drop (0 + (Int.toNat (kind : Int)) * 2)).take 2 = [.int .i64 fe.num, .int .i64 fe.den], (!((oddF s (kind : Int) (1 + (Int.tdiv (aim : Int) 2)) (1 + (Int.tmod (aim : Int) 2))).num == fe.num && ((oddF s (kind : Int) (1 + (Int.tdiv (aim : Int) 2)) (1 + (Int.tmod (aim : Int) 2))).den == fe.den && true))) = false, InR .i64 ((aim : Int) + 1)])
    (hg : G Try.prog E (f14K3 Try.prog) ⟨[J, J, .ptr 0 0 0, J, J, .rsl (rowFr ((plannedK s plan).1)) 0 (((plannedK s plan).1).length), J, J, J, J, J, .int .i64 (operators : Int), .int .i64 (players : Int), J, J, .int .i64 (kind : Int), .int .i64 ((aim : Int) + 1), J, J, J, J, J, J, J, J, J, J, J, J, J, J, J, J, J, J, J, J, J, J, J, J, J, J, J, J, J, J, J, J, J, J, J, J, J, J, J, J, J, J, J, J, J, J, J, J, J, J, J, J, J, J, J, J, J, J, J, J, J, J, J, J, J, J, J, J, J, J, J, J, J, J, J, J, J, J, J, J, J, J, J, J, J, J, J, J, J, J, J, J, J, J, J, J, J, J, J, J, J, J, J, J, J, J, J, J, J, J, J, J, J, J, J, J, J, J, J, J, J, J, J, J, J, J, J, J, J, J, J, J, J, J, J, J, J, J, J, J, J, J, J, J, J, J, J, J, J, J, J, J, J], [⟨true, 0, 1, true, [.rsl (rowStg s.stages) 0 s.stages.length, .rsl (rowI s.worth) 0 s.worth.length, .int .i64 s.price], false⟩]⟩) : G Try.prog E (f14K3 Try.prog) (f14S3 s plan operators players aim kind ) :=
  segC_step (n := 400) (ds := []) (cs := []) (live := [2, 5, 11, 12, 15, 16]) (m := 1) (evs := [.b true, .v (.tup [.agg [.int .i64 ((oddF s (kind : Int) (1 + (Int.tdiv (aim : Int) 2)) (1 + (Int.tmod (aim : Int) 2))).num), .int .i64 ((oddF s (kind : Int) (1 + (Int.tdiv (aim : Int) 2)) (1 + (Int.tmod (aim : Int) 2))).den)], .bool true]), .b false, .auto, .ld (.agg [.int .i64 fe.num, .int .i64 fe.den]), .b false, .stop]) (obs := _) hE.2.1 (hE.nogh _) mixed (by kernel_rfl) ho hg
theorem p14_3_2 (s : Stl) (plan : (List Int)) (operators : Nat) (players : Nat) (aim : Nat) (kind : Nat)   {E : Env} {rv : AV} (hE : PureE Try.prog 14 rv E) (ho : AllP [(decide ((aim : Int) < 4)) = false, InR .i64 ((kind : Int) + 1)])
    (hg : G Try.prog E (f14K2 Try.prog) ⟨[J, J, .ptr 0 0 0, J, J, .rsl (rowFr ((plannedK s plan).1)) 0 (((plannedK s plan).1).length), J, J, J, J, J, .int .i64 (operators : Int), .int .i64 (players : Int), J, J, .int .i64 ((kind : Int) + 1), J, J, J, J, J, J, J, J, J, J, J, J, J, J, J, J, J, J, J, J, J, J, J, J, J, J, J, J, J, J, J, J, J, J, J, J, J, J, J, J, J, J, J, J, J, J, J, J, J, J, J, J, J, J, J, J, J, J, J, J, J, J, J, J, J, J, J, J, J, J, J, J, J, J, J, J, J, J, J, J, J, J, J, J, J, J, J, J, J, J, J, J, J, J, J, J, J, J, J, J, J, J, J, J, J, J, J, J, J, J, J, J, J, J, J, J, J, J, J, J, J, J, J, J, J, J, J, J, J, J, J, J, J, J, J, J, J, J, J, J, J, J, J, J, J, J, J, J, J, J, J, J, J, J], [⟨true, 0, 1, true, [.rsl (rowStg s.stages) 0 s.stages.length, .rsl (rowI s.worth) 0 s.worth.length, .int .i64 s.price], false⟩]⟩) : G Try.prog E (f14K3 Try.prog) (f14S3 s plan operators players aim kind ) :=
  segC_step (n := 400) (ds := []) (cs := []) (live := [2, 5, 11, 12, 15]) (m := 1) (evs := [.b false, .stop]) (obs := _) hE.2.1 (hE.nogh _) mixed (by kernel_rfl) ho hg
theorem f14W3 (s : Stl) (plan : (List Int)) (operators : Nat) (players : Nat) (aim : Nat) (kind : Nat) {E : Env} {rv : Bool} (hE : PureE Try.prog 14 (.bool rv) E)
    (h : (((aim : Int) < 4 → ((-9223372036854775808 ≤ Int.tdiv (aim : Int) 2 ∧ Int.tdiv (aim : Int) 2 ≤ 9223372036854775807) ∧ ((-9223372036854775808 ≤ 1 + (Int.tdiv (aim : Int) 2) ∧ 1 + (Int.tdiv (aim : Int) 2) ≤ 9223372036854775807) ∧ ((-9223372036854775808 ≤ 1 + (Int.tmod (aim : Int) 2) ∧ 1 + (Int.tmod (aim : Int) 2) ≤ 9223372036854775807) ∧ ((checkO s (kind : Int) (1 + (Int.tdiv (aim : Int) 2)) (1 + (Int.tmod (aim : Int) 2)) = 0) ∧ (∃ fe : Fr, ((plannedK s plan).1)[kind]? = some fe ∧ ((((oddF s (kind : Int) (1 + (Int.tdiv (aim : Int) 2)) (1 + (Int.tmod (aim : Int) 2))).num == fe.num && ((oddF s (kind : Int) (1 + (Int.tdiv (aim : Int) 2)) (1 + (Int.tmod (aim : Int) 2))).den == fe.den && true)) = false → rv = false) ∧ (((oddF s (kind : Int) (1 + (Int.tdiv (aim : Int) 2)) (1 + (Int.tmod (aim : Int) 2))).num == fe.num && ((oddF s (kind : Int) (1 + (Int.tdiv (aim : Int) 2)) (1 + (Int.tmod (aim : Int) 2))).den == fe.den && true)) = true → ((-9223372036854775808 ≤ (aim : Int) + 1 ∧ (aim : Int) + 1 ≤ 9223372036854775807) ∧ f14G3 E s plan operators players (aim + 1) kind))))))))) ∧ (¬ ((aim : Int) < 4) → ((-9223372036854775808 ≤ (kind : Int) + 1 ∧ (kind : Int) + 1 ≤ 9223372036854775807) ∧ f14G2 E s plan operators players (kind + 1))))) : f14G3 E s plan operators players aim kind := by
  rcases Bool.eq_false_or_eq_true (decide ((aim : Int) < 4)) with hc0 | hc0
  · have h := h.1 (of_decide_eq_true hc0)
    obtain ⟨q1_1, h⟩ := h
    obtain ⟨q3_1, h⟩ := h
    obtain ⟨q5_1, h⟩ := h
    obtain ⟨h1, h⟩ := h
    obtain ⟨fe, h2, h⟩ := h
    rcases Bool.eq_false_or_eq_true (!((oddF s (kind : Int) (1 + (Int.tdiv (aim : Int) 2)) (1 + (Int.tmod (aim : Int) 2))).num == fe.num && ((oddF s (kind : Int) (1 + (Int.tdiv (aim : Int) 2)) (1 + (Int.tmod (aim : Int) 2))).den == fe.den && true))) with hc1 | hc1
    · have h := h.1 (bnT hc1)
      exact p14_3_0 s plan operators players aim kind  fe hE ⟨hc0, q1_1, (by decide), q3_1, (by decide), q5_1, (pureF_of Try.func22 (by kernel_rfl) f22b (oddsL_ok s (kind : Int) (1 + (Int.tdiv (aim : Int) 2)) (1 + (Int.tmod (aim : Int) 2)) h1)), (by decide), rfl, (idx_ok h2), (row_part cFr (s := 2) (k := 0) (m := 2) (fun _ => rfl) (by decide) h2), hc1, trivial⟩ (AvLe.of_eq (by rw [h]; try rfl))
    · have h := h.2 (bnF hc1)
      obtain ⟨q13_2, h⟩ := h
      exact p14_3_1 s plan operators players aim kind  fe hE ⟨hc0, q1_1, (by decide), q3_1, (by decide), q5_1, (pureF_of Try.func22 (by kernel_rfl) f22b (oddsL_ok s (kind : Int) (1 + (Int.tdiv (aim : Int) 2)) (1 + (Int.tmod (aim : Int) 2)) h1)), (by decide), rfl, (idx_ok h2), (row_part cFr (s := 2) (k := 0) (m := 2) (fun _ => rfl) (by decide) h2), hc1, q13_2, trivial⟩ h
  · have h := h.2 (of_decide_eq_false hc0)
    obtain ⟨q1_1, h⟩ := h
    exact p14_3_2 s plan operators players aim kind   hE ⟨hc0, q1_1, trivial⟩ h

theorem law14_ok (s : Stl) (plan : List Int) (h : s.stages.length ≤ 9223372036854775807 ∧ s.worth.length ≤ 9223372036854775807) (hp : plan.length ≤ 9223372036854775807) : Pure Try.prog 14 [avStl s, .rsl (rowI plan) 0 plan.length] (.bool true) := pure_of Try.func14 f14b fun E hE => by
  refine f14W s plan (rv := true) hE ⟨⟨h, hp⟩, fun _ => rfl, fun he => ⟨h, fun h => absurd (by rw [plannedK, if_pos he]) h, fun _ => ?_⟩⟩
  obtain ⟨hc, hpl⟩ := planE_of he
  obtain ⟨hm, es⟩ := mok_G (isSome_of hc)
  have hform := (stPre_of hm.st).2.2.2.2
  have hn := (stPre_of hm.st).1
  rw [es] at hform hn
  have hw := worth_len hc
  have hpl' : planOk (machG s).s plan = true := by rw [es]; exact hpl
  have hme := measR_of (isSome_of hc)
  obtain ⟨m0, hu, hu1, hu2⟩ := meas0 hm
  have eu : meas0I s = m0 := getD_of hu
  have hlen : (plannedK s plan).1.length = s.worth.length := by rw [plannedK, if_pos he, planL_len]
  have hat := fun (k : Nat) (hk : k < s.worth.length) => (by
    have := planned_at he (k := (k : Int)) (by omega) (by omega)
    rwa [Int.toNat_natCast] at this : (plannedK s plan).1[k]? = some (firstI (machG s) (onlyI (k : Int)) (fun i _ => planI plan i)))
  refine ⟨⟨by omega, hform⟩, ?_⟩
  -- all aims alike
  have aims : ∀ (op pl : Nat), (op = 0 → ∀ (i : Nat) (x : Stg), s.stages[i]? = some x → x.kind ≠ 3) → (pl = 0 → ∀ (i : Nat) (x : Stg), s.stages[i]? = some x → x.kind ≠ 2) → ∀ (d k : Nat), k + d = s.worth.length → op ≤ 60 → pl ≤ 60 → f14G2 E s plan op pl k := by
    intro op pl h3 h2 d
    induction d with
    | zero => intro k hd _ _; exact f14W2 s plan op pl k (rv := true) hE ⟨fun h => by omega, fun _ => rfl⟩
    | succ d ih =>
      intro k hd o1 o2
      have nx := ih (k + 1) (by omega) o1 o2
      refine f14W2 s plan op pl k (rv := true) hE ⟨fun _ => ⟨by omega, fun hz => ?_, fun _ => rfl⟩, fun h => by omega⟩
      have hopl : op = 0 ∧ pl = 0 := by omega
      have key : ∀ (d a : Nat), a + d = 4 → f14G3 E s plan op pl a k := by
        intro d
        induction d with
        | zero => intro a ha; exact f14W3 s plan op pl a k (rv := true) hE ⟨fun h => by omega, fun _ => ⟨by omega, nx⟩⟩
        | succ d ih2 =>
          intro a ha
          have q1 : Int.tdiv (a : Int) 2 = (a : Int) / 2 := Int.tdiv_eq_ediv_of_nonneg (by omega)
          have q2 : Int.tmod (a : Int) 2 = (a : Int) % 2 := Int.tmod_eq_emod_of_nonneg (by omega)
          refine f14W3 s plan op pl a k (rv := true) hE ⟨fun _ => ?_, fun h => by omega⟩
          rw [q1, q2]
          refine ⟨by omega, by omega, by omega, checkO_yes hc (by omega) (by omega) (by omega) (by omega), _, hat k (by omega), fun hne => ?_, fun _ => ⟨by omega, ih2 (a + 1) (by omega)⟩⟩
          have hs := same_val hm (w := onlyI (k : Int)) (c1 := chooseI (machG s) (1 + (a : Int) / 2) (1 + (a : Int) % 2)) (c2 := fun i _ => planI plan i) wok_only (wok_plan hpl') (fun i x hi h4 h1 => by
            exfalso
            rw [es] at hi
            have n3 := h3 hopl.1 i x hi
            have n2 := h2 hopl.2 i x hi
            rcases form_of hi (hform i (List.getElem?_eq_some_iff.1 hi).1) with ⟨q, -⟩ | ⟨q, -⟩ <;> omega)
          have : oddF s (k : Int) (1 + (a : Int) / 2) (1 + (a : Int) % 2) = firstI (machG s) (onlyI (k : Int)) (fun i _ => planI plan i) := by
            rw [oddF, firstI, firstI, hs]
          rw [this] at hne; simp at hne
      exact key 4 0 (by omega)
  have hsum := fun (n : Nat) => sumV_le (n := n) hc hpl
  have count : ∀ (d i op pl : Nat), i + d = s.stages.length → op ≤ i → pl ≤ i → (op = 0 → ∀ (j : Nat) (x : Stg), j < i → s.stages[j]? = some x → x.kind ≠ 3) → (pl = 0 → ∀ (j : Nat) (x : Stg), j < i → s.stages[j]? = some x → x.kind ≠ 2) → f14G1 E s plan (sumV s plan s.worth.length) op pl i := by
    intro d
    induction d with
    | zero =>
      intro i op pl hd o1 o2 h3 h2
      have h3' : op = 0 → ∀ (j : Nat) (x : Stg), s.stages[j]? = some x → x.kind ≠ 3 := fun h j x hj => h3 h j x (by have := (List.getElem?_eq_some_iff.1 hj).1; omega) hj
      have h2' : pl = 0 → ∀ (j : Nat) (x : Stg), s.stages[j]? = some x → x.kind ≠ 2 := fun h j x hj => h2 h j x (by have := (List.getElem?_eq_some_iff.1 hj).1; omega) hj
      have hs := hsum s.worth.length
      rw [eu] at hs
      refine f14W1 s plan _ op pl i (rv := true) hE ⟨fun h => by omega, fun _ => ⟨h, fun h => absurd (by rw [turnsK, if_pos hc]) h, fun _ => ⟨m0, by rw [hme]; exact hu, fun h => by omega, fun _ => ⟨fun hop => ⟨fun ht => ?_, fun _ => ⟨fun h => absurd (by rw [hlen]) h, fun _ => aims op pl h3' h2' s.worth.length 0 (by omega) (by omega) (by omega)⟩⟩, fun _ => ⟨fun h => absurd (by rw [hlen]) h, fun _ => aims op pl h3' h2' s.worth.length 0 (by omega) (by omega) (by omega)⟩⟩⟩⟩⟩
      exfalso
      have hz : (turnsL s s.worth.length).length = 0 := turnsL_zero.2 fun k hk => no_oper hc (h3' (by omega)) (k : Int)
      rw [turnsK, if_pos hc] at ht
      have ht : ((turnsL s s.worth.length).length : Int) > 0 := ht
      omega
    | succ d ih =>
      intro i op pl hd o1 o2 h3 h2
      have hi : s.stages[i]? = some s.stages[i] := List.getElem?_eq_getElem (by omega)
      generalize s.stages[i] = x at hi
      have e3 : x.kind ≠ 3 → (op = 0 → ∀ (j : Nat) (y : Stg), j < i + 1 → s.stages[j]? = some y → y.kind ≠ 3) := fun hx h j y hj hy => by
        by_cases e : j = i
        · subst e; rw [hi] at hy; cases hy; exact hx
        · exact h3 h j y (by omega) hy
      have e2 : x.kind ≠ 2 → (pl = 0 → ∀ (j : Nat) (y : Stg), j < i + 1 → s.stages[j]? = some y → y.kind ≠ 2) := fun hx h j y hj hy => by
        by_cases e : j = i
        · subst e; rw [hi] at hy; cases hy; exact hx
        · exact h2 h j y (by omega) hy
      refine f14W1 s plan _ op pl i (rv := true) hE ⟨fun _ => ⟨x, hi, fun k3 => ⟨by omega, fun k2 => by omega, fun k2 => ⟨by omega, ih (i + 1) (op + 1) pl (by omega) (by omega) (by omega) (fun h => by omega) (e2 k2)⟩⟩, fun k3 => ⟨fun k2 => ⟨by omega, by omega, ih (i + 1) op (pl + 1) (by omega) (by omega) (by omega) (e3 k3) (fun h => by omega)⟩, fun k2 => ⟨by omega, ih (i + 1) op pl (by omega) (by omega) (by omega) (e3 k3) (e2 k2)⟩⟩⟩, fun h => by omega⟩
  have sums : ∀ (d k : Nat), k + d = s.worth.length → f14G0 E s plan (sumV s plan k) k := by
    intro d
    induction d with
    | zero =>
      intro k hd
      rw [show k = s.worth.length by omega]
      exact f14W0 s plan _ _ (rv := true) hE ⟨fun h => by omega, fun _ => count s.stages.length 0 0 0 (by omega) (by omega) (by omega) (fun _ j x hj => by omega) (fun _ j x hj => by omega)⟩
    | succ d ih =>
      intro k hd
      have nx := ih (k + 1) (by omega)
      simp only [sumV] at nx
      have hf := first_fr hc (w := onlyI (k : Int)) (ch := fun i _ => planI plan i) (wok_plan hpl')
      have hv : FrV s (firstI (machG s) (onlyI (k : Int)) (fun i _ => planI plan i)) = planV s plan (k : Int) := hf.2
      have h1 := first_one hm (kd := (k : Int)) (ch := fun i _ => planI plan i) (wok_plan hpl')
      have s1 := hsum k
      have s2 := hsum (k + 1)
      simp only [sumV] at s2
      have hfr : (firstI (machG s) (onlyI (k : Int)) (fun i _ => planI plan i)).num * Int.tdiv m0 (firstI (machG s) (onlyI (k : Int)) (fun i _ => planI plan i)).den = planV s plan (k : Int) := by rw [← hv, FrV, eu]
      have t1 := tdiv_bd (n := m0) (g := (firstI (machG s) (onlyI (k : Int)) (fun i _ => planI plan i)).den) (B := 1000000000000) (by omega) (by omega) (by omega)
      refine f14W0 s plan _ k (rv := true) hE ⟨fun _ => ⟨_, hat k (by omega), ⟨hc, hf.1⟩, fun h => by omega, fun _ => ⟨m0, by rw [hme]; exact hu, by omega, by omega, by rw [hfr]; omega, by rw [hfr]; omega, by omega, by rw [hfr]; exact nx⟩⟩, fun h => by omega⟩
  exact sums s.worth.length 0 (by omega)

end Go.Proofs.Ytfgmlaeikcfpbaa
