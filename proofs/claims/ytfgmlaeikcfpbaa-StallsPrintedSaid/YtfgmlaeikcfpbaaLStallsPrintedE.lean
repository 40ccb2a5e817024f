/- A part of the proof: several texts, one behind the other. -/
import Derived.Test.YtfgmlaeikcfpbaaLStallsPrintedD
set_option linter.unusedVariables false
set_option linter.unusedSimpArgs false
set_option maxRecDepth 100000
namespace Go.Proofs.Ytfgmlaeikcfpbaa
open Go Ax
open Go.Proofs

abbrev avStl (s : Stl) : AV := .agg [.rsl (rowStg s.stages) 0 s.stages.length, .rsl (rowI s.worth) 0 s.worth.length, .int .i64 s.price]
theorem checkK_no {s : Stl} (h : ¬ (checkK s = 0)) : checkK s = 60 := by
  unfold checkK at *
  split
  · rename_i h1; rw [if_pos h1] at h; omega
  · rfl
def checkO (s : Stl) (kd pa oa : Int) : Int := if checkK s = 0 then (if rightO (machG s) kd pa oa = true then 0 else 1) else 60
theorem rightO_eq {s : Stl} {kd pa oa : Int} (h : checkK s = 0) : rightO (machG s) kd pa oa = (within kd 0 ((s.worth.length : Int) - 1) && aims2 pa oa) := by
  rw [rightO, kindI, (mok_G (isSome_of h)).2, aims_eq]
theorem checkO_of {s : Stl} {kd pa oa : Int} (h : checkO s kd pa oa = 0) : checkK s = 0 ∧ rightO (machG s) kd pa oa = true ∧ (0 ≤ kd ∧ kd ≤ (s.worth.length : Int) - 1) ∧ (pa = 1 ∨ pa = 2) ∧ (oa = 1 ∨ oa = 2) := by
  unfold checkO at h
  split at h
  · rename_i h0
    split at h
    · rename_i h1
      refine ⟨h0, h1, ?_⟩
      rw [rightO_eq h0, Bool.and_eq_true] at h1
      exact ⟨within_iff.1 h1.1, aims2_iff.1 h1.2⟩
    · omega
  · omega
def choiceK (s : Stl) (kd pa oa : Int) : List Int × Int := if (machI s).isSome = true then (if rightO (machG s) kd pa oa = true then ((valA (machG s) (onlyI kd) (chooseI (machG s) pa oa)).2, 0) else ([], 1)) else ([], 60)
theorem isSome_iff {s : Stl} : (machI s).isSome = true ↔ checkK s = 0 := by
  unfold checkK; split <;> simp_all
theorem odds_yes {s : Stl} {kd pa oa : Int} (h : checkO s kd pa oa = 0) : oddsK s kd pa oa = ((firstI (machG s) (onlyI kd) (chooseI (machG s) pa oa)).num, (firstI (machG s) (onlyI kd) (chooseI (machG s) pa oa)).den, 0) ∧ choiceK s kd pa oa = ((valA (machG s) (onlyI kd) (chooseI (machG s) pa oa)).2, 0) := by
  obtain ⟨h0, h1, -⟩ := checkO_of h
  unfold oddsK choiceK
  simp only [isSome_iff, if_pos h0, if_pos h1]
  exact ⟨trivial, trivial⟩
def planE (s : Stl) (plan : List Int) : Int := if checkK s = 0 then (if planOk s plan = true then 0 else 1) else 60
theorem planE_of {s : Stl} {plan : List Int} (h : planE s plan = 0) : checkK s = 0 ∧ planOk s plan = true := by
  unfold planE at h
  split at h
  · rename_i h0
    split at h
    · rename_i h1; exact ⟨h0, h1⟩
    · omega
  · omega

/-! ### The end values of a machine, turn by turn -/
theorem fin_turn {m : Mch} (hm : MOk m) {w : Int → Int} {ch : Int → List Int → Int} (hw : WOk m w ch) {i : Nat} {x : Stg} (hi : m.s.stages[i]? = some x) {k : Nat} {t : Trn} (hk : x.turns[k]? = some t) :
    ∃ q u v, m.mult[i]? = some q ∧ m.meas[Int.toNat t.to]? = some u ∧ (valA m w ch).1[Int.toNat t.to]? = some v ∧ (nextI m i (valA m w ch).1 x.turns)[k]? = some (v * Int.tdiv q u) ∧ 0 ≤ t.to ∧ i < Int.toNat t.to ∧ Int.toNat t.to < m.s.stages.length ∧
      (0 < q ∧ q ≤ 1000000000000) ∧ (0 < u ∧ u ≤ 1000000000000) ∧ Int.tdiv q u * u = q ∧ 0 ≤ Int.tdiv q u ∧ Int.tdiv q u ≤ q ∧ (0 ≤ v ∧ v ≤ 10000 * u) ∧ 0 ≤ v * Int.tdiv q u ∧ v * Int.tdiv q u ≤ 10000 * q := by
  have hform := (stPre_of hm.st).2.2.2.2
  have hp := val_okA hm hw
  have ht := List.mem_of_getElem? hk
  have hto := turns_to hi (hform i (List.getElem?_eq_some_iff.1 hi).1) t ht
  obtain ⟨q, q1, q2, q3, q4⟩ := hm.inv.rel i x (by omega) hi
  have hg : m.meas[Int.toNat t.to]? = some (m.meas[Int.toNat t.to]'(by rw [hm.inv.l1]; exact hto.2.1)) := List.getElem?_eq_getElem _
  have hd := q4 t ht
  have hb := hm.inv.pos _ _ (by omega) hg
  have hv := hp.hi _ _ (by omega) hg
  have hN : (nextI m i (valA m w ch).1 x.turns)[k]? = some ((valA m w ch).1.getD (Int.toNat t.to) 0 * Int.tdiv (m.mult.getD i 0) (m.meas.getD (Int.toNat t.to) 0)) := by rw [nextI, List.getElem?_map, hk]; rfl
  rw [getD_of q1, getD_of hg] at hN
  rw [getD_of hg] at hd
  generalize m.meas[Int.toNat t.to]'(by rw [hm.inv.l1]; exact hto.2.1) = u at hg hd hb hv hN
  have hgv := getD_some (l := (valA m w ch).1) (i := Int.toNat t.to) (by rw [hp.l1]; exact hto.2.1)
  generalize (valA m w ch).1.getD (Int.toNat t.to) 0 = v at hv hN hgv
  have e1 : Int.tdiv q u = q / u := Int.tdiv_eq_ediv_of_nonneg (by omega)
  have e2 := Int.ediv_le_self u (show (0 : Int) ≤ q by omega)
  have e3 := Int.ediv_nonneg (show (0 : Int) ≤ q by omega) (show 0 ≤ u by omega)
  have e4 : Int.tdiv q u * u = q := by rw [e1]; exact Int.ediv_mul_cancel hd
  refine ⟨q, u, v, q1, hg, hgv, hN, hto.2.2, hto.1, hto.2.1, q3, hb, e4, by omega, by omega, hv, Int.mul_nonneg hv.1 (by omega), ?_⟩
  have h1 := Int.mul_le_mul_of_nonneg_right hv.2 (show 0 ≤ Int.tdiv q u by omega)
  have h2 : 10000 * u * Int.tdiv q u = 10000 * q := by rw [Int.mul_assoc, Int.mul_comm u, e4]
  omega
structure Aims where
  kind : Int
  player : Int
  operator : Int
theorem f30b : Try.f30.body = some (bodyAt Try.prog 30) := by kernel_rfl
def f30K0 (P : Program) : List Item := kAt 400 [.code (bodyAt P 30)] [.b false, .b false, .stop]
def f30S0 (s : Stl) (plan : (List Int)) (i : Nat)  : St := ⟨[J, .rsl (rowI plan) 0 plan.length, .ptr 0 0 0, J, J, J, .int .i64 (i : Int), J, J, J, J, J, J, J, J, J, J, J, J, J, J, J, J, J, J, J, J, J, J, J, J, J, J, J, J, J, J, J, J, J, J, J, J, J, J, J, J, J, J, J], [⟨true, 0, 1, true, [.rsl (rowStg s.stages) 0 s.stages.length, .rsl (rowI s.worth) 0 s.worth.length, .int .i64 s.price], false⟩]⟩
def f30G0 (E : Env) (s : Stl) (plan : (List Int)) (i : Nat) : Prop := G Try.prog E (f30K0 Try.prog) (f30S0 s plan i )
theorem p30_start_0 (s : Stl) (plan : (List Int))   {E : Env} {res : AV} (hE : PureE Try.prog 30 res E) (ho : AllP [PureF Try.prog (.clos 19 [] []) [.agg [.rsl (rowStg s.stages) 0 s.stages.length, .rsl (rowI s.worth) 0 s.worth.length, .int .i64 s.price]] (.int .i64 (checkK s)), ((checkK s) != 0) = true])
    (hr : AvLe (.int .i64 (checkK s)) res) : G Try.prog E [.code (bodyAt Try.prog 30)] ⟨[.agg [.rsl (rowStg s.stages) 0 s.stages.length, .rsl (rowI s.worth) 0 s.worth.length, .int .i64 s.price], .rsl (rowI plan) 0 plan.length] ++ unds (Try.f30.ntmps - 2), []⟩ :=
  end_stepL (n := 400) (evs := [.v (.int .i64 (checkK s)), .b true]) (obs := _) hE Try.func30 mixed (by kernel_rfl) ho hr
theorem p30_start_1 (s : Stl) (plan : (List Int))   {E : Env} {res : AV} (hE : PureE Try.prog 30 res E) (ho : AllP [PureF Try.prog (.clos 19 [] []) [.agg [.rsl (rowStg s.stages) 0 s.stages.length, .rsl (rowI s.worth) 0 s.worth.length, .int .i64 s.price]] (.int .i64 (checkK s)), ((checkK s) != 0) = false, ((plan.length : Int) != (s.stages.length : Int)) = true])
    (hr : AvLe (.int .i64 1) res) : G Try.prog E [.code (bodyAt Try.prog 30)] ⟨[.agg [.rsl (rowStg s.stages) 0 s.stages.length, .rsl (rowI s.worth) 0 s.worth.length, .int .i64 s.price], .rsl (rowI plan) 0 plan.length] ++ unds (Try.f30.ntmps - 2), []⟩ :=
  end_stepL (n := 400) (evs := [.v (.int .i64 (checkK s)), .b false, .b true]) (obs := _) hE Try.func30 mixed (by kernel_rfl) ho hr
theorem p30_start_2 (s : Stl) (plan : (List Int))   {E : Env} {rv : AV} (hE : PureE Try.prog 30 rv E) (ho : AllP [PureF Try.prog (.clos 19 [] []) [.agg [.rsl (rowStg s.stages) 0 s.stages.length, .rsl (rowI s.worth) 0 s.worth.length, .int .i64 s.price]] (.int .i64 (checkK s)), ((checkK s) != 0) = false, ((plan.length : Int) != (s.stages.length : Int)) = false])
    (hg : G Try.prog E (f30K0 Try.prog) ⟨[J, .rsl (rowI plan) 0 plan.length, .ptr 0 0 0, J, J, J, .int .i64 0, J, J, J, J, J, J, J, J, J, J, J, J, J, J, J, J, J, J, J, J, J, J, J, J, J, J, J, J, J, J, J, J, J, J, J, J, J, J, J, J, J, J, J], [⟨true, 0, 1, true, [.rsl (rowStg s.stages) 0 s.stages.length, .rsl (rowI s.worth) 0 s.worth.length, .int .i64 s.price], false⟩]⟩) : G Try.prog E [.code (bodyAt Try.prog 30)] ⟨[.agg [.rsl (rowStg s.stages) 0 s.stages.length, .rsl (rowI s.worth) 0 s.worth.length, .int .i64 s.price], .rsl (rowI plan) 0 plan.length] ++ unds (Try.f30.ntmps - 2), []⟩ :=
  segC_step (n := 400) (ds := []) (cs := []) (live := [1, 2, 6]) (m := 1) (evs := [.v (.int .i64 (checkK s)), .b false, .b false, .stop]) (obs := _) hE.2.1 (hE.nogh _) mixed (by kernel_rfl) ho hg
theorem f30W (s : Stl) (plan : (List Int)) {E : Env} {rv : Int} (hE : PureE Try.prog 30 (.int .i64 rv) E)
    (h : ((s.stages.length ≤ 9223372036854775807 ∧ s.worth.length ≤ 9223372036854775807) ∧ ((¬ ((checkK s) = 0) → rv = (checkK s)) ∧ ((checkK s) = 0 → ((¬ ((plan.length : Int) = (s.stages.length : Int)) → rv = 1) ∧ ((plan.length : Int) = (s.stages.length : Int) → f30G0 E s plan 0)))))) : G Try.prog E [.code (bodyAt Try.prog 30)] ⟨[.agg [.rsl (rowStg s.stages) 0 s.stages.length, .rsl (rowI s.worth) 0 s.worth.length, .int .i64 s.price], .rsl (rowI plan) 0 plan.length] ++ unds (Try.f30.ntmps - 2), []⟩ := by
  obtain ⟨h1, h⟩ := h
  rcases Bool.eq_false_or_eq_true ((checkK s) != 0) with hc0 | hc0
  · have h := h.1 (bneT hc0)
    exact p30_start_0 s plan    hE ⟨(pureF_of Try.func19 (by kernel_rfl) f19b (checkR_ok s h1)), hc0, trivial⟩ (AvLe.of_eq (by rw [h]; try rfl))
  · have h := h.2 (bneF hc0)
    rcases Bool.eq_false_or_eq_true ((plan.length : Int) != (s.stages.length : Int)) with hc1 | hc1
    · have h := h.1 (bneT hc1)
      exact p30_start_1 s plan    hE ⟨(pureF_of Try.func19 (by kernel_rfl) f19b (checkR_ok s h1)), hc0, hc1, trivial⟩ (AvLe.of_eq (by rw [h]; try rfl))
    · have h := h.2 (bneF hc1)
      exact p30_start_2 s plan    hE ⟨(pureF_of Try.func19 (by kernel_rfl) f19b (checkR_ok s h1)), hc0, hc1, trivial⟩ h
theorem p30_0_0 (s : Stl) (plan : (List Int)) (i : Nat)  (se : Stg) (e : Int)  {E : Env} {res : AV} (hE : PureE Try.prog 30 res E) (ho : AllP [(decide ((i : Int) < (plan.length : Int))) = true, 0 ≤ (i : Int) ∧ (i : Int) < (s.stages.length : Int), ((rowStg s.stages).drop (0 + (Int.toNat (i : Int)) * 3)).take 3 = [.int .i64 se.kind, .int .i64 se.prize, .rsl (rowTrn se.turns) 0 se.turns.length], 3 ≤ 3, (se.kind == 2) = true, true = true, InR .i64 ((se.turns.length : Int) - 1), 0 ≤ (i : Int) ∧ (i : Int) < (plan.length : Int), ((rowI plan).drop (0 + (Int.toNat (i : Int)) * 1)).take 1 = [.int .i64 e], PureF Try.prog (.clos 62 [] []) [.int .i64 e, .int .i64 0, .int .i64 ((se.turns.length : Int) - 1)] (.bool (within e 0 ((se.turns.length : Int) - 1))), (!(within e 0 ((se.turns.length : Int) - 1))) = true])
    (hr : AvLe (.int .i64 1) res) : G Try.prog E (f30K0 Try.prog) (f30S0 s plan i ) :=
  end_stepL (n := 400) (evs := [.b true, .auto, .ld (.agg [.int .i64 se.kind, .int .i64 se.prize, .rsl (rowTrn se.turns) 0 se.turns.length]), .b true, .b true, .auto, .ld (.int .i64 e), .v (.bool (within e 0 ((se.turns.length : Int) - 1))), .b true]) (obs := _) hE Try.func30 mixed (by kernel_rfl) ho hr
theorem p30_0_1 (s : Stl) (plan : (List Int)) (i : Nat)  (se : Stg) (e : Int)  {E : Env} {rv : AV} (hE : PureE Try.prog 30 rv E) (ho : AllP [(decide ((i : Int) < (plan.length : Int))) = true, 0 ≤ (i : Int) ∧ (i : Int) < (s.stages.length : Int), ((rowStg s.stages).drop (0 + (Int.toNat (i : Int)) * 3)).take 3 = [.int .i64 se.kind, .int .i64 se.prize, .rsl (rowTrn se.turns) 0 se.turns.length], 3 ≤ 3, (se.kind == 2) = true, true = true, InR .i64 ((se.turns.length : Int) - 1), 0 ≤ (i : Int) ∧ (i : Int) < (plan.length : Int), ((rowI plan).drop (0 + (Int.toNat (i : Int)) * 1)).take 1 = [.int .i64 e], PureF Try.prog (.clos 62 [] []) [.int .i64 e, .int .i64 0, .int .i64 ((se.turns.length : Int) - 1)] (.bool (within e 0 ((se.turns.length : Int) - 1))), (!(within e 0 ((se.turns.length : Int) - 1))) = false, InR .i64 ((i : Int) + 1)])
    (hg : G Try.prog E (f30K0 Try.prog) ⟨[J, .rsl (rowI plan) 0 plan.length, .ptr 0 0 0, J, J, J, .int .i64 ((i : Int) + 1), J, J, J, J, J, J, J, J, J, J, J, J, J, J, J, J, J, J, J, J, J, J, J, J, J, J, J, J, J, J, J, J, J, J, J, J, J, J, J, J, J, J, J], [⟨true, 0, 1, true, [.rsl (rowStg s.stages) 0 s.stages.length, .rsl (rowI s.worth) 0 s.worth.length, .int .i64 s.price], false⟩]⟩) : G Try.prog E (f30K0 Try.prog) (f30S0 s plan i ) :=
  segC_step (n := 400) (ds := []) (cs := []) (live := [1, 2, 6]) (m := 1) (evs := [.b true, .auto, .ld (.agg [.int .i64 se.kind, .int .i64 se.prize, .rsl (rowTrn se.turns) 0 se.turns.length]), .b true, .b true, .auto, .ld (.int .i64 e), .v (.bool (within e 0 ((se.turns.length : Int) - 1))), .b false, .stop]) (obs := _) hE.2.1 (hE.nogh _) mixed (by kernel_rfl) ho hg
theorem p30_0_2 (s : Stl) (plan : (List Int)) (i : Nat)  (se : Stg) (e : Int)  {E : Env} {res : AV} (hE : PureE Try.prog 30 res E) (ho : AllP [(decide ((i : Int) < (plan.length : Int))) = true, 0 ≤ (i : Int) ∧ (i : Int) < (s.stages.length : Int), ((rowStg s.stages).drop (0 + (Int.toNat (i : Int)) * 3)).take 3 = [.int .i64 se.kind, .int .i64 se.prize, .rsl (rowTrn se.turns) 0 se.turns.length], 3 ≤ 3, (se.kind == 2) = false, (se.kind == 3) = true, InR .i64 ((se.turns.length : Int) - 1), 0 ≤ (i : Int) ∧ (i : Int) < (plan.length : Int), ((rowI plan).drop (0 + (Int.toNat (i : Int)) * 1)).take 1 = [.int .i64 e], PureF Try.prog (.clos 62 [] []) [.int .i64 e, .int .i64 0, .int .i64 ((se.turns.length : Int) - 1)] (.bool (within e 0 ((se.turns.length : Int) - 1))), (!(within e 0 ((se.turns.length : Int) - 1))) = true])
    (hr : AvLe (.int .i64 1) res) : G Try.prog E (f30K0 Try.prog) (f30S0 s plan i ) :=
  end_stepL (n := 400) (evs := [.b true, .auto, .ld (.agg [.int .i64 se.kind, .int .i64 se.prize, .rsl (rowTrn se.turns) 0 se.turns.length]), .b false, .b true, .auto, .ld (.int .i64 e), .v (.bool (within e 0 ((se.turns.length : Int) - 1))), .b true]) (obs := _) hE Try.func30 mixed (by kernel_rfl) ho hr
theorem p30_0_3 (s : Stl) (plan : (List Int)) (i : Nat)  (se : Stg) (e : Int)  {E : Env} {rv : AV} (hE : PureE Try.prog 30 rv E) (ho : AllP [(decide ((i : Int) < (plan.length : Int))) = true, 0 ≤ (i : Int) ∧ (i : Int) < (s.stages.length : Int), ((rowStg s.stages).drop (0 + (Int.toNat (i : Int)) * 3)).take 3 = [.int .i64 se.kind, .int .i64 se.prize, .rsl (rowTrn se.turns) 0 se.turns.length], 3 ≤ 3, (se.kind == 2) = false, (se.kind == 3) = true, InR .i64 ((se.turns.length : Int) - 1), 0 ≤ (i : Int) ∧ (i : Int) < (plan.length : Int), ((rowI plan).drop (0 + (Int.toNat (i : Int)) * 1)).take 1 = [.int .i64 e], PureF Try.prog (.clos 62 [] []) [.int .i64 e, .int .i64 0, .int .i64 ((se.turns.length : Int) - 1)] (.bool (within e 0 ((se.turns.length : Int) - 1))), (!(within e 0 ((se.turns.length : Int) - 1))) = false, InR .i64 ((i : Int) + 1)])
    (hg : G Try.prog E (f30K0 Try.prog) ⟨[J, .rsl (rowI plan) 0 plan.length, .ptr 0 0 0, J, J, J, .int .i64 ((i : Int) + 1), J, J, J, J, J, J, J, J, J, J, J, J, J, J, J, J, J, J, J, J, J, J, J, J, J, J, J, J, J, J, J, J, J, J, J, J, J, J, J, J, J, J, J], [⟨true, 0, 1, true, [.rsl (rowStg s.stages) 0 s.stages.length, .rsl (rowI s.worth) 0 s.worth.length, .int .i64 s.price], false⟩]⟩) : G Try.prog E (f30K0 Try.prog) (f30S0 s plan i ) :=
  segC_step (n := 400) (ds := []) (cs := []) (live := [1, 2, 6]) (m := 1) (evs := [.b true, .auto, .ld (.agg [.int .i64 se.kind, .int .i64 se.prize, .rsl (rowTrn se.turns) 0 se.turns.length]), .b false, .b true, .auto, .ld (.int .i64 e), .v (.bool (within e 0 ((se.turns.length : Int) - 1))), .b false, .stop]) (obs := _) hE.2.1 (hE.nogh _) mixed (by kernel_rfl) ho hg
theorem p30_0_4 (s : Stl) (plan : (List Int)) (i : Nat)  (se : Stg) (e : Int)  {E : Env} {res : AV} (hE : PureE Try.prog 30 res E) (ho : AllP [(decide ((i : Int) < (plan.length : Int))) = true, 0 ≤ (i : Int) ∧ (i : Int) < (s.stages.length : Int), ((rowStg s.stages).drop (0 + (Int.toNat (i : Int)) * 3)).take 3 = [.int .i64 se.kind, .int .i64 se.prize, .rsl (rowTrn se.turns) 0 se.turns.length], 3 ≤ 3, (se.kind == 2) = false, (se.kind == 3) = false, 0 ≤ (i : Int) ∧ (i : Int) < (plan.length : Int), ((rowI plan).drop (0 + (Int.toNat (i : Int)) * 1)).take 1 = [.int .i64 e], PureF Try.prog (.clos 62 [] []) [.int .i64 e, .int .i64 0, .int .i64 0] (.bool (within e 0 0)), (!(within e 0 0)) = true])
    (hr : AvLe (.int .i64 1) res) : G Try.prog E (f30K0 Try.prog) (f30S0 s plan i ) :=
  end_stepL (n := 400) (evs := [.b true, .auto, .ld (.agg [.int .i64 se.kind, .int .i64 se.prize, .rsl (rowTrn se.turns) 0 se.turns.length]), .b false, .b false, .ld (.int .i64 e), .v (.bool (within e 0 0)), .b true]) (obs := _) hE Try.func30 mixed (by kernel_rfl) ho hr
theorem p30_0_5 (s : Stl) (plan : (List Int)) (i : Nat)  (se : Stg) (e : Int)  {E : Env} {rv : AV} (hE : PureE Try.prog 30 rv E) (ho : AllP [(decide ((i : Int) < (plan.length : Int))) = true, 0 ≤ (i : Int) ∧ (i : Int) < (s.stages.length : Int), ((rowStg s.stages).drop (0 + (Int.toNat (i : Int)) * 3)).take 3 = [.int .i64 se.kind, .int .i64 se.prize, .rsl (rowTrn se.turns) 0 se.turns.length], 3 ≤ 3, (se.kind == 2) = false, (se.kind == 3) = false, 0 ≤ (i : Int) ∧ (i : Int) < (plan.length : Int), ((rowI plan).drop (0 + (Int.toNat (i : Int)) * 1)).take 1 = [.int .i64 e], PureF Try.prog (.clos 62 [] []) [.int .i64 e, .int .i64 0, .int .i64 0] (.bool (within e 0 0)), (!(within e 0 0)) = false, InR .i64 ((i : Int) + 1)])
    (hg : G Try.prog E (f30K0 Try.prog) ⟨[J, .rsl (rowI plan) 0 plan.length, .ptr 0 0 0, J, J, J, .int .i64 ((i : Int) + 1), J, J, J, J, J, J, J, J, J, J, J, J, J, J, J, J, J, J, J, J, J, J, J, J, J, J, J, J, J, J, J, J, J, J, J, J, J, J, J, J, J, J, J], [⟨true, 0, 1, true, [.rsl (rowStg s.stages) 0 s.stages.length, .rsl (rowI s.worth) 0 s.worth.length, .int .i64 s.price], false⟩]⟩) : G Try.prog E (f30K0 Try.prog) (f30S0 s plan i ) :=
  segC_step (n := 400) (ds := []) (cs := []) (live := [1, 2, 6]) (m := 1) (evs := [.b true, .auto, .ld (.agg [.int .i64 se.kind, .int .i64 se.prize, .rsl (rowTrn se.turns) 0 se.turns.length]), .b false, .b false, .ld (.int .i64 e), .v (.bool (within e 0 0)), .b false, .stop]) (obs := _) hE.2.1 (hE.nogh _) mixed (by kernel_rfl) ho hg
theorem p30_0_6 (s : Stl) (plan : (List Int)) (i : Nat)   {E : Env} {res : AV} (hE : PureE Try.prog 30 res E) (ho : AllP [(decide ((i : Int) < (plan.length : Int))) = false])
    (hr : AvLe (.int .i64 0) res) : G Try.prog E (f30K0 Try.prog) (f30S0 s plan i ) :=
  end_stepL (n := 400) (evs := [.b false]) (obs := _) hE Try.func30 mixed (by kernel_rfl) ho hr
theorem f30W0 (s : Stl) (plan : (List Int)) (i : Nat) {E : Env} {rv : Int} (hE : PureE Try.prog 30 (.int .i64 rv) E)
    (h : (((i : Int) < (plan.length : Int) → (∃ se : Stg, s.stages[i]? = some se ∧ ((se.kind = 2 → ((-9223372036854775808 ≤ (se.turns.length : Int) - 1 ∧ (se.turns.length : Int) - 1 ≤ 9223372036854775807) ∧ (∃ e : Int, plan[i]? = some e ∧ (((within e 0 ((se.turns.length : Int) - 1)) = false → rv = 1) ∧ ((within e 0 ((se.turns.length : Int) - 1)) = true → ((-9223372036854775808 ≤ (i : Int) + 1 ∧ (i : Int) + 1 ≤ 9223372036854775807) ∧ f30G0 E s plan (i + 1))))))) ∧ (¬ (se.kind = 2) → ((se.kind = 3 → ((-9223372036854775808 ≤ (se.turns.length : Int) - 1 ∧ (se.turns.length : Int) - 1 ≤ 9223372036854775807) ∧ (∃ e : Int, plan[i]? = some e ∧ (((within e 0 ((se.turns.length : Int) - 1)) = false → rv = 1) ∧ ((within e 0 ((se.turns.length : Int) - 1)) = true → ((-9223372036854775808 ≤ (i : Int) + 1 ∧ (i : Int) + 1 ≤ 9223372036854775807) ∧ f30G0 E s plan (i + 1))))))) ∧ (¬ (se.kind = 3) → (∃ e : Int, plan[i]? = some e ∧ (((within e 0 0) = false → rv = 1) ∧ ((within e 0 0) = true → ((-9223372036854775808 ≤ (i : Int) + 1 ∧ (i : Int) + 1 ≤ 9223372036854775807) ∧ f30G0 E s plan (i + 1))))))))))) ∧ (¬ ((i : Int) < (plan.length : Int)) → rv = 0))) : f30G0 E s plan i := by
  rcases Bool.eq_false_or_eq_true (decide ((i : Int) < (plan.length : Int))) with hc0 | hc0
  · have h := h.1 (of_decide_eq_true hc0)
    obtain ⟨se, h1, h⟩ := h
    rcases Bool.eq_false_or_eq_true (se.kind == 2) with hc1 | hc1
    · have h := h.1 (eq_of_beq hc1)
      obtain ⟨q7_2, h⟩ := h
      obtain ⟨e, h2, h⟩ := h
      rcases Bool.eq_false_or_eq_true (!(within e 0 ((se.turns.length : Int) - 1))) with hc2 | hc2
      · have h := h.1 (bnT hc2)
        exact p30_0_0 s plan i  se e hE ⟨hc0, (idx_ok h1), (row_part cStg (s := 3) (k := 0) (m := 3) (fun _ => rfl) (by decide) h1), (by decide), hc1, rfl, q7_2, (idx_ok h2), (row_part cI (s := 1) (k := 0) (m := 1) (fun _ => rfl) (by decide) h2), (pureF_of Try.func62 (by kernel_rfl) f62b (withinR_ok e 0 ((se.turns.length : Int) - 1))), hc2, trivial⟩ (AvLe.of_eq (by rw [h]; try rfl))
      · have h := h.2 (bnF hc2)
        obtain ⟨q13_3, h⟩ := h
        exact p30_0_1 s plan i  se e hE ⟨hc0, (idx_ok h1), (row_part cStg (s := 3) (k := 0) (m := 3) (fun _ => rfl) (by decide) h1), (by decide), hc1, rfl, q7_2, (idx_ok h2), (row_part cI (s := 1) (k := 0) (m := 1) (fun _ => rfl) (by decide) h2), (pureF_of Try.func62 (by kernel_rfl) f62b (withinR_ok e 0 ((se.turns.length : Int) - 1))), hc2, q13_3, trivial⟩ h
    · have h := h.2 (ne_of_beq_false hc1)
      rcases Bool.eq_false_or_eq_true (se.kind == 3) with hc2 | hc2
      · have h := h.1 (eq_of_beq hc2)
        obtain ⟨q7_3, h⟩ := h
        obtain ⟨e, h2, h⟩ := h
        rcases Bool.eq_false_or_eq_true (!(within e 0 ((se.turns.length : Int) - 1))) with hc3 | hc3
        · have h := h.1 (bnT hc3)
          exact p30_0_2 s plan i  se e hE ⟨hc0, (idx_ok h1), (row_part cStg (s := 3) (k := 0) (m := 3) (fun _ => rfl) (by decide) h1), (by decide), hc1, hc2, q7_3, (idx_ok h2), (row_part cI (s := 1) (k := 0) (m := 1) (fun _ => rfl) (by decide) h2), (pureF_of Try.func62 (by kernel_rfl) f62b (withinR_ok e 0 ((se.turns.length : Int) - 1))), hc3, trivial⟩ (AvLe.of_eq (by rw [h]; try rfl))
        · have h := h.2 (bnF hc3)
          obtain ⟨q13_4, h⟩ := h
          exact p30_0_3 s plan i  se e hE ⟨hc0, (idx_ok h1), (row_part cStg (s := 3) (k := 0) (m := 3) (fun _ => rfl) (by decide) h1), (by decide), hc1, hc2, q7_3, (idx_ok h2), (row_part cI (s := 1) (k := 0) (m := 1) (fun _ => rfl) (by decide) h2), (pureF_of Try.func62 (by kernel_rfl) f62b (withinR_ok e 0 ((se.turns.length : Int) - 1))), hc3, q13_4, trivial⟩ h
      · have h := h.2 (ne_of_beq_false hc2)
        obtain ⟨e, h2, h⟩ := h
        rcases Bool.eq_false_or_eq_true (!(within e 0 0)) with hc3 | hc3
        · have h := h.1 (bnT hc3)
          exact p30_0_4 s plan i  se e hE ⟨hc0, (idx_ok h1), (row_part cStg (s := 3) (k := 0) (m := 3) (fun _ => rfl) (by decide) h1), (by decide), hc1, hc2, (idx_ok h2), (row_part cI (s := 1) (k := 0) (m := 1) (fun _ => rfl) (by decide) h2), (pureF_of Try.func62 (by kernel_rfl) f62b (withinR_ok e 0 0)), hc3, trivial⟩ (AvLe.of_eq (by rw [h]; try rfl))
        · have h := h.2 (bnF hc3)
          obtain ⟨q12_4, h⟩ := h
          exact p30_0_5 s plan i  se e hE ⟨hc0, (idx_ok h1), (row_part cStg (s := 3) (k := 0) (m := 3) (fun _ => rfl) (by decide) h1), (by decide), hc1, hc2, (idx_ok h2), (row_part cI (s := 1) (k := 0) (m := 1) (fun _ => rfl) (by decide) h2), (pureF_of Try.func62 (by kernel_rfl) f62b (withinR_ok e 0 0)), hc3, q12_4, trivial⟩ h
  · have h := h.2 (of_decide_eq_false hc0)
    exact p30_0_6 s plan i   hE ⟨hc0, trivial⟩ (AvLe.of_eq (by rw [h]; try rfl))
theorem f27b : Try.f27.body = some (bodyAt Try.prog 27) := by kernel_rfl
theorem p27_start_0 (s : Stl) (kd : Int) (pa : Int) (oa : Int)   {E : Env} {res : AV} (hE : PureE Try.prog 27 res E) (ho : AllP [PureF Try.prog (.clos 71 [] []) [.agg [.rsl (rowStg s.stages) 0 s.stages.length, .rsl (rowI s.worth) 0 s.worth.length, .int .i64 s.price], .clos 82 [] [.rptr [.int .i64 kd] 0, .rptr [.int .i64 pa] 0, .rptr [.int .i64 oa] 0]] (.tup [.rptr [.rsl (rowStg (((machG s).s).stages)) 0 ((((machG s).s).stages).length), .rsl (rowI (((machG s).s).worth)) 0 ((((machG s).s).worth).length), .int .i64 (((machG s).s).price), .rsl (rowI ((machG s).meas)) 0 (((machG s).meas).length), .rsl (rowI ((machG s).mult)) 0 (((machG s).mult).length)] 0, .int .i64 0]), false = false, PureF Try.prog (.clos 76 [] []) [.int .i64 kd] (.clos 113 [] [.rptr [.int .i64 kd] 0]), PureF Try.prog (.clos 77 [] []) [.rptr [.rsl (rowStg (((machG s).s).stages)) 0 ((((machG s).s).stages).length), .rsl (rowI (((machG s).s).worth)) 0 ((((machG s).s).worth).length), .int .i64 (((machG s).s).price), .rsl (rowI ((machG s).meas)) 0 (((machG s).meas).length), .rsl (rowI ((machG s).mult)) 0 (((machG s).mult).length)] 0, .int .i64 pa, .int .i64 oa] (.clos 114 [] [.rptr [.int .i64 pa] 0, .rptr [.rptr [.rsl (rowStg (((machG s).s).stages)) 0 ((((machG s).s).stages).length), .rsl (rowI (((machG s).s).worth)) 0 ((((machG s).s).worth).length), .int .i64 (((machG s).s).price), .rsl (rowI ((machG s).meas)) 0 (((machG s).meas).length), .rsl (rowI ((machG s).mult)) 0 (((machG s).mult).length)] 0] 0, .rptr [.int .i64 oa] 0]), PureF Try.prog (.clos 83 [] []) [.rptr [.rsl (rowStg (((machG s).s).stages)) 0 ((((machG s).s).stages).length), .rsl (rowI (((machG s).s).worth)) 0 ((((machG s).s).worth).length), .int .i64 (((machG s).s).price), .rsl (rowI ((machG s).meas)) 0 (((machG s).meas).length), .rsl (rowI ((machG s).mult)) 0 (((machG s).mult).length)] 0, .clos 113 [] [.rptr [.int .i64 kd] 0], .clos 114 [] [.rptr [.int .i64 pa] 0, .rptr [.rptr [.rsl (rowStg (((machG s).s).stages)) 0 ((((machG s).s).stages).length), .rsl (rowI (((machG s).s).worth)) 0 ((((machG s).s).worth).length), .int .i64 (((machG s).s).price), .rsl (rowI ((machG s).meas)) 0 (((machG s).meas).length), .rsl (rowI ((machG s).mult)) 0 (((machG s).mult).length)] 0] 0, .rptr [.int .i64 oa] 0]] (.tup [.rsl (rowI ((valA (machG s) (onlyI kd) (chooseI (machG s) pa oa)).1)) 0 (((valA (machG s) (onlyI kd) (chooseI (machG s) pa oa)).1).length), .rsl (rowI ((valA (machG s) (onlyI kd) (chooseI (machG s) pa oa)).2)) 0 (((valA (machG s) (onlyI kd) (chooseI (machG s) pa oa)).2).length)])])
    (hr : AvLe (.tup [.rsl (rowI ((valA (machG s) (onlyI kd) (chooseI (machG s) pa oa)).2)) 0 (((valA (machG s) (onlyI kd) (chooseI (machG s) pa oa)).2).length), .int .i64 0]) res) : G Try.prog E [.code (bodyAt Try.prog 27)] ⟨[.agg [.rsl (rowStg s.stages) 0 s.stages.length, .rsl (rowI s.worth) 0 s.worth.length, .int .i64 s.price], .int .i64 kd, .int .i64 pa, .int .i64 oa] ++ unds (Try.f27.ntmps - 4), []⟩ :=
  end_stepL (n := 400) (evs := [.wt 5, .wt 6, .wt 7, .v (.tup [.rptr [.rsl (rowStg (((machG s).s).stages)) 0 ((((machG s).s).stages).length), .rsl (rowI (((machG s).s).worth)) 0 ((((machG s).s).worth).length), .int .i64 (((machG s).s).price), .rsl (rowI ((machG s).meas)) 0 (((machG s).meas).length), .rsl (rowI ((machG s).mult)) 0 (((machG s).mult).length)] 0, .int .i64 0]), .b false, .v (.clos 113 [] [.rptr [.int .i64 kd] 0]), .v (.clos 114 [] [.rptr [.int .i64 pa] 0, .rptr [.rptr [.rsl (rowStg (((machG s).s).stages)) 0 ((((machG s).s).stages).length), .rsl (rowI (((machG s).s).worth)) 0 ((((machG s).s).worth).length), .int .i64 (((machG s).s).price), .rsl (rowI ((machG s).meas)) 0 (((machG s).meas).length), .rsl (rowI ((machG s).mult)) 0 (((machG s).mult).length)] 0] 0, .rptr [.int .i64 oa] 0]), .v (.tup [.rsl (rowI ((valA (machG s) (onlyI kd) (chooseI (machG s) pa oa)).1)) 0 (((valA (machG s) (onlyI kd) (chooseI (machG s) pa oa)).1).length), .rsl (rowI ((valA (machG s) (onlyI kd) (chooseI (machG s) pa oa)).2)) 0 (((valA (machG s) (onlyI kd) (chooseI (machG s) pa oa)).2).length)])]) (obs := _) hE Try.func27 mixed (by kernel_rfl) ho hr
theorem p27_start_1 (s : Stl) (kd : Int) (pa : Int) (oa : Int)   {E : Env} {res : AV} (hE : PureE Try.prog 27 res E) (ho : AllP [PureF Try.prog (.clos 71 [] []) [.agg [.rsl (rowStg s.stages) 0 s.stages.length, .rsl (rowI s.worth) 0 s.worth.length, .int .i64 s.price], .clos 82 [] [.rptr [.int .i64 kd] 0, .rptr [.int .i64 pa] 0, .rptr [.int .i64 oa] 0]] (.tup [.nilPtr, .int .i64 1]), true = true])
    (hr : AvLe (.tup [.nilSl, .int .i64 1]) res) : G Try.prog E [.code (bodyAt Try.prog 27)] ⟨[.agg [.rsl (rowStg s.stages) 0 s.stages.length, .rsl (rowI s.worth) 0 s.worth.length, .int .i64 s.price], .int .i64 kd, .int .i64 pa, .int .i64 oa] ++ unds (Try.f27.ntmps - 4), []⟩ :=
  end_stepL (n := 400) (evs := [.wt 5, .wt 6, .wt 7, .v (.tup [.nilPtr, .int .i64 1]), .b true]) (obs := _) hE Try.func27 mixed (by kernel_rfl) ho hr
theorem p27_start_2 (s : Stl) (kd : Int) (pa : Int) (oa : Int)   {E : Env} {res : AV} (hE : PureE Try.prog 27 res E) (ho : AllP [PureF Try.prog (.clos 71 [] []) [.agg [.rsl (rowStg s.stages) 0 s.stages.length, .rsl (rowI s.worth) 0 s.worth.length, .int .i64 s.price], .clos 82 [] [.rptr [.int .i64 kd] 0, .rptr [.int .i64 pa] 0, .rptr [.int .i64 oa] 0]] (.tup [.nilPtr, .int .i64 60]), true = true])
    (hr : AvLe (.tup [.nilSl, .int .i64 60]) res) : G Try.prog E [.code (bodyAt Try.prog 27)] ⟨[.agg [.rsl (rowStg s.stages) 0 s.stages.length, .rsl (rowI s.worth) 0 s.worth.length, .int .i64 s.price], .int .i64 kd, .int .i64 pa, .int .i64 oa] ++ unds (Try.f27.ntmps - 4), []⟩ :=
  end_stepL (n := 400) (evs := [.wt 5, .wt 6, .wt 7, .v (.tup [.nilPtr, .int .i64 60]), .b true]) (obs := _) hE Try.func27 mixed (by kernel_rfl) ho hr
theorem f27W (s : Stl) (kd : Int) (pa : Int) (oa : Int) {E : Env} {rv : ((List Int) × Int)} (hE : PureE Try.prog 27 (.tup [.rsl (rowI rv.1) 0 rv.1.length, .int .i64 rv.2]) E)
    (h : ((((machI s).isSome) = true → (((rightO (machG s) kd pa oa) = true → ((s.stages.length ≤ 9223372036854775807 ∧ s.worth.length ≤ 9223372036854775807) ∧ ((MOk (machG s)) ∧ rv = (((valA (machG s) (onlyI kd) (chooseI (machG s) pa oa)).2), 0)))) ∧ ((rightO (machG s) kd pa oa) = false → ((s.stages.length ≤ 9223372036854775807 ∧ s.worth.length ≤ 9223372036854775807) ∧ rv = (([] : List Int), 1))))) ∧ (((machI s).isSome) = false → ((s.stages.length ≤ 9223372036854775807 ∧ s.worth.length ≤ 9223372036854775807) ∧ rv = (([] : List Int), 60))))) : G Try.prog E [.code (bodyAt Try.prog 27)] ⟨[.agg [.rsl (rowStg s.stages) 0 s.stages.length, .rsl (rowI s.worth) 0 s.worth.length, .int .i64 s.price], .int .i64 kd, .int .i64 pa, .int .i64 oa] ++ unds (Try.f27.ntmps - 4), []⟩ := by
  rcases Bool.eq_false_or_eq_true ((machI s).isSome) with hc0 | hc0
  · have h := h.1 hc0
    rcases Bool.eq_false_or_eq_true (rightO (machG s) kd pa oa) with hc1 | hc1
    · have h := h.1 hc1
      obtain ⟨h1, h⟩ := h
      obtain ⟨h2, h⟩ := h
      exact p27_start_0 s kd pa oa    hE ⟨(pureF_of Try.func71 (by kernel_rfl) f71x82b (begR_T hc0 hc1 ▸ beg82_ok s kd pa oa h1)), rfl, (pureF_of Try.func76 (by kernel_rfl) f76b (mkonly_ok kd)), (pureF_of Try.func77 (by kernel_rfl) f77b (mkaims_ok (machG s) pa oa)), (pureF_of Try.func83 (by kernel_rfl) f83ob (valueo_ok (machG s) kd pa oa h2)), trivial⟩ (AvLe.of_eq (by rw [h]; try rfl))
    · have h := h.2 hc1
      obtain ⟨h1, h⟩ := h
      exact p27_start_1 s kd pa oa    hE ⟨(pureF_of Try.func71 (by kernel_rfl) f71x82b (begR_F1 hc0 hc1 ▸ beg82_ok s kd pa oa h1)), rfl, trivial⟩ (by rw [h]; exact (tup_le ⟨nil_le, ⟨AvLe.of_eq rfl, trivial⟩⟩))
  · have h := h.2 hc0
    obtain ⟨h1, h⟩ := h
    exact p27_start_2 s kd pa oa    hE ⟨(pureF_of Try.func71 (by kernel_rfl) f71x82b (begR_F0 hc0 ▸ beg82_ok s kd pa oa h1)), rfl, trivial⟩ (by rw [h]; exact (tup_le ⟨nil_le, ⟨AvLe.of_eq rfl, trivial⟩⟩))
theorem planE_ok (s : Stl) (plan : List Int) (h : (s.stages.length ≤ 9223372036854775807 ∧ s.worth.length ≤ 9223372036854775807) ∧ plan.length ≤ 9223372036854775807) : Pure Try.prog 30 [avStl s, .rsl (rowI plan) 0 plan.length] (.int .i64 (planE s plan)) := pure_of Try.func30 f30b fun E hE => by
  refine f30W s plan (rv := planE s plan) hE ⟨h.1, fun h0 => ?_, fun h0 => ⟨fun h1 => ?_, fun h1 => ?_⟩⟩
  · rw [planE, if_neg h0, checkK_no h0]
  · rw [planE, if_pos h0, if_neg]
    simp only [planOk, Bool.and_eq_true, decide_eq_true_eq]
    intro hh; omega
  have hl : plan.length = s.stages.length := by omega
  have ⟨hm, es⟩ := mok_G (isSome_of h0)
  have hform := (stPre_of hm.st).2.2.2.2
  rw [es] at hform
  have key : ∀ (d i : Nat), i + d = plan.length → (∀ j, j < i → within (plan.getD j 0) 0 (planMost (s.stages.getD j ⟨0, 0, []⟩)) = true) → f30G0 E s plan i := by
    intro d
    induction d with
    | zero =>
      intro i hd hall
      refine f30W0 s plan i (rv := planE s plan) hE ⟨fun h => by omega, fun _ => ?_⟩
      rw [planE, if_pos h0, if_pos]
      simp only [planOk, hl, decide_true, Bool.true_and]
      exact List.all_eq_true.2 fun j hj => hall j (by have := List.mem_range.1 hj; omega)
    | succ d ih =>
      intro i hd hall
      have hi : s.stages[i]? = some s.stages[i] := List.getElem?_eq_getElem (by omega)
      have hx : s.stages.getD i ⟨0, 0, []⟩ = s.stages[i] := by simp [List.getD, hi]
      have hv : plan[i]? = some (plan.getD i 0) := getD_some (by omega)
      have ht : s.stages[i].turns.length ≤ 8 := by
        rcases form_of hi (hform i (by omega)) with ⟨-, h, -⟩ | ⟨-, -, h, -⟩
        · rw [h]; simp
        · exact h.2
      have nx := ih (i + 1) (by omega)
      have no : within (plan.getD i 0) 0 (planMost (s.stages.getD i ⟨0, 0, []⟩)) = false → planE s plan = 1 := fun h => by
        rw [planE, if_pos h0, if_neg]
        simp only [planOk, hl, decide_true, Bool.true_and, Bool.not_eq_true]
        exact range_all (by omega) h
      have yes : within (plan.getD i 0) 0 (planMost (s.stages.getD i ⟨0, 0, []⟩)) = true → f30G0 E s plan (i + 1) := fun h => nx fun j hj => by
        rcases Nat.lt_or_ge j i with h1 | h1
        · exact hall j h1
        · rw [show j = i by omega]; exact h
      rw [hx] at no yes
      generalize s.stages[i] = x at hi no yes ht
      refine f30W0 s plan i (rv := planE s plan) hE ⟨fun _ => ⟨x, hi, fun h2 => ⟨by omega, _, hv, fun h => no ?_, fun h => ⟨by omega, yes ?_⟩⟩, fun h2 => ⟨fun h3 => ⟨by omega, _, hv, fun h => no ?_, fun h => ⟨by omega, yes ?_⟩⟩, fun h3 => ⟨_, hv, fun h => no ?_, fun h => ⟨by omega, yes ?_⟩⟩⟩⟩, fun h => by omega⟩
      · rw [planMost, if_pos (.inl h2)]; exact h
      · rw [planMost, if_pos (.inl h2)]; exact h
      · rw [planMost, if_pos (.inr h3)]; exact h
      · rw [planMost, if_pos (.inr h3)]; exact h
      · rw [planMost, if_neg (by omega)]; exact h
      · rw [planMost, if_neg (by omega)]; exact h
  exact key plan.length 0 (by omega) (fun j hj => by omega)
theorem choice_ok (s : Stl) (kd pa oa : Int) (h : s.stages.length ≤ 9223372036854775807 ∧ s.worth.length ≤ 9223372036854775807) : Pure Try.prog 27 [avStl s, .int .i64 kd, .int .i64 pa, .int .i64 oa] (.tup [.rsl (rowI (choiceK s kd pa oa).1) 0 (choiceK s kd pa oa).1.length, .int .i64 (choiceK s kd pa oa).2]) := pure_of Try.func27 f27b fun E hE => by
  refine f27W s kd pa oa (rv := choiceK s kd pa oa) hE ⟨fun h0 => ⟨fun h1 => ⟨h, (mok_G h0).1, ?_⟩, fun h1 => ⟨h, ?_⟩⟩, fun h0 => ⟨h, ?_⟩⟩
  · rw [choiceK, if_pos h0, if_pos h1]
  · rw [choiceK, if_pos h0, if_neg (by rw [h1]; simp)]
  · rw [choiceK, if_neg (by rw [h0]; simp)]
end Go.Proofs.Ytfgmlaeikcfpbaa

namespace Go.Proofs.Ytfgmlaeikcfpbaa
open Go Ax
open Go.Proofs

structure Rul where
  tickets : Int
  wins : Int
  n : Int
  need : Int
  hit : Int
  miss : Int
structure Sup where
  kind : Int
  stock : Int
  plays : Int
structure Hnd where
  plan : List Int
  draws : List Int
/-! ### Fractions -/
theorem frac_parts {v u : Int} (hu : 0 < u) : ∃ g, 0 < g ∧ v = g * (fracI v u).num ∧ u = g * (fracI v u).den ∧ 0 < (fracI v u).den := by
  have hM : 0 ≤ iMax v (0 - v) := by unfold iMax; split <;> omega
  have hM2 : iMax v (0 - v) = v ∨ iMax v (0 - v) = -v := by unfold iMax; split <;> omega
  have hg1 : 1 ≤ iMax (gcdI (iMax v (0 - v)) u) 1 := iMax_pos
  have hgp : 0 < gcdI (iMax v (0 - v)) u := by rw [gcdI_comm hM (by omega)]; exact gcd_pos hu hM
  have hge : iMax (gcdI (iMax v (0 - v)) u) 1 = gcdI (iMax v (0 - v)) u := by
    generalize gcdI (iMax v (0 - v)) u = c at hgp
    unfold iMax; split <;> omega
  obtain ⟨d1, d2⟩ := gcd_dvd hM (show 0 ≤ u by omega)
  have d3 : gcdI (iMax v (0 - v)) u ∣ v := by
    generalize gcdI (iMax v (0 - v)) u = c at d1
    rcases hM2 with h | h
    · rw [h] at d1; exact d1
    · rw [h] at d1; exact Int.dvd_neg.1 d1
  unfold fracI
  rw [hge]
  generalize gcdI (iMax v (0 - v)) u = c at hgp d2 d3
  have e2 : c * Int.tdiv u c = u := Int.mul_tdiv_cancel' d2
  have e3 : c * Int.tdiv v c = v := Int.mul_tdiv_cancel' d3
  refine ⟨c, hgp, e3.symm, e2.symm, ?_⟩
  show 0 < Int.tdiv u c
  rcases Int.lt_or_le 0 (Int.tdiv u c) with h | h
  · exact h
  · have := Int.mul_le_mul_of_nonneg_left h (show 0 ≤ c by omega)
    rw [e2] at this; omega
theorem frac_cross {v u : Int} (hu : 0 < u) : v * (fracI v u).den = (fracI v u).num * u := by
  obtain ⟨g, hg, e1, e2, e3⟩ := frac_parts (v := v) hu
  generalize (fracI v u).num = n at *
  generalize (fracI v u).den = d at *
  rw [e1, e2, Int.mul_comm n (g * d), Int.mul_assoc, Int.mul_assoc, Int.mul_comm n d]
theorem frac_inj {a b u : Int} (hu : 0 < u) (h : fracI a u = fracI b u) : a = b := by
  have h1 := frac_cross (v := a) hu
  have h2 := frac_cross (v := b) hu
  obtain ⟨g, hg, -, -, e3⟩ := frac_parts (v := a) hu
  rw [← h] at h2
  rw [← h1] at h2
  exact (Int.eq_of_mul_eq_mul_right (by omega) h2).symm
/-! ### Planned -/
def planL (s : Stl) (plan : List Int) (n : Nat) : List Fr := (List.range n).map fun (k : Nat) => firstI (machG s) (onlyI (k : Int)) (fun i _ => planI plan i)
theorem planL_snoc {s : Stl} {plan : List Int} {n : Nat} : planL s plan (n + 1) = planL s plan n ++ [firstI (machG s) (onlyI (n : Int)) (fun i _ => planI plan i)] := by
  rw [planL, List.range_succ, List.map_append]; rfl
theorem planL_len {s : Stl} {plan : List Int} {n : Nat} : (planL s plan n).length = n := by simp [planL]
def plannedK (s : Stl) (plan : List Int) : List Fr × Int := if planE s plan = 0 then (planL s plan s.worth.length, 0) else ([], planE s plan)
def gainK (s : Stl) (pa oa : Int) : Int × Int × Int := if checkK s = 0 then (if aimsI [pa, oa] = true then ((firstI (machG s) (worthI (machG s)) (chooseI (machG s) pa oa)).num, (firstI (machG s) (worthI (machG s)) (chooseI (machG s) pa oa)).den, 0) else (0, 0, 1)) else (0, 0, 60)
def gainV (s : Stl) (pa oa : Int) : Int := (valA (machG s) (worthI (machG s)) (chooseI (machG s) pa oa)).1.getD 0 0
def meas0I (s : Stl) : Int := (machG s).meas.getD 0 0
theorem f40b : Try.f40.body = some (bodyAt Try.prog 40) := by kernel_rfl
def f40K0 (P : Program) : List Item := kAt 400 [.code (bodyAt P 40)] [.b false, .stop]
def f40S0 (s : Stl) (plan : (List Int)) (i : Nat) (v2 : List Fr) (g2 : Nat) : St := ⟨[J, J, J, .rptr [.rsl (rowI plan) 0 plan.length] 0, .sl 2 g2 0 v2.length 2, J, .rptr [.rsl (rowStg (((machG s).s).stages)) 0 ((((machG s).s).stages).length), .rsl (rowI (((machG s).s).worth)) 0 ((((machG s).s).worth).length), .int .i64 (((machG s).s).price), .rsl (rowI ((machG s).meas)) 0 (((machG s).meas).length), .rsl (rowI ((machG s).mult)) 0 (((machG s).mult).length)] 0, J, J, J, J, J, J, J, J, J, J, J, J, J, J, J, .int .i64 (((((machG s).s).worth).length : Nat) : Int), .int .i64 (i : Int), J, J, J, J, J, J, J, J, J, J, J, J, J], [⟨true, 0, 1, true, [.rsl (rowStg s.stages) 0 s.stages.length, .rsl (rowI s.worth) 0 s.worth.length, .int .i64 s.price], false⟩, ⟨false, 1, 1, true, [], false⟩, ⟨true, g2, 2, true, (rowFr v2), true⟩]⟩
def f40G0 (E : Env) (s : Stl) (plan : (List Int)) (i : Nat) (v2 : List Fr) : Prop := ∀ g2 : Nat, G Try.prog E (f40K0 Try.prog) (f40S0 s plan i v2 g2)
theorem p40_start_0 (s : Stl) (plan : (List Int))   {E : Env} {rv : AV} (hE : PureE Try.prog 40 rv E) (ho : AllP [PureF Try.prog (.clos 71 [] []) [.agg [.rsl (rowStg s.stages) 0 s.stages.length, .rsl (rowI s.worth) 0 s.worth.length, .int .i64 s.price], .clos 92 [] [.rptr [.rsl (rowI plan) 0 plan.length] 0]] (.tup [.rptr [.rsl (rowStg (((machG s).s).stages)) 0 ((((machG s).s).stages).length), .rsl (rowI (((machG s).s).worth)) 0 ((((machG s).s).worth).length), .int .i64 (((machG s).s).price), .rsl (rowI ((machG s).meas)) 0 (((machG s).meas).length), .rsl (rowI ((machG s).mult)) 0 (((machG s).mult).length)] 0, .int .i64 0]), false = false])
    (hg : G Try.prog E (f40K0 Try.prog) ⟨[J, J, J, .rptr [.rsl (rowI plan) 0 plan.length] 0, .sl 2 0 0 0 2, J, .rptr [.rsl (rowStg (((machG s).s).stages)) 0 ((((machG s).s).stages).length), .rsl (rowI (((machG s).s).worth)) 0 ((((machG s).s).worth).length), .int .i64 (((machG s).s).price), .rsl (rowI ((machG s).meas)) 0 (((machG s).meas).length), .rsl (rowI ((machG s).mult)) 0 (((machG s).mult).length)] 0, J, J, J, J, J, J, J, J, J, J, J, J, J, J, J, .int .i64 (((((machG s).s).worth).length : Nat) : Int), .int .i64 0, J, J, J, J, J, J, J, J, J, J, J, J, J], [⟨true, 0, 1, true, [.rsl (rowStg s.stages) 0 s.stages.length, .rsl (rowI s.worth) 0 s.worth.length, .int .i64 s.price], false⟩, ⟨false, 1, 1, true, [], false⟩, ⟨true, 0, 2, true, [], true⟩]⟩) : G Try.prog E [.code (bodyAt Try.prog 40)] ⟨[.agg [.rsl (rowStg s.stages) 0 s.stages.length, .rsl (rowI s.worth) 0 s.worth.length, .int .i64 s.price], .rsl (rowI plan) 0 plan.length] ++ unds (Try.f40.ntmps - 2), []⟩ :=
  segC_step (n := 400) (ds := [(4, 2)]) (cs := []) (live := [3, 4, 6, 22, 23]) (m := 3) (evs := [.wt 3, .v (.tup [.rptr [.rsl (rowStg (((machG s).s).stages)) 0 ((((machG s).s).stages).length), .rsl (rowI (((machG s).s).worth)) 0 ((((machG s).s).worth).length), .int .i64 (((machG s).s).price), .rsl (rowI ((machG s).meas)) 0 (((machG s).meas).length), .rsl (rowI ((machG s).mult)) 0 (((machG s).mult).length)] 0, .int .i64 0]), .b false, .stop]) (obs := _) hE.2.1 (hE.nogh _) mixed (by kernel_rfl) ho hg
theorem p40_start_1 (s : Stl) (plan : (List Int))   {E : Env} {res : AV} (hE : PureE Try.prog 40 res E) (ho : AllP [PureF Try.prog (.clos 71 [] []) [.agg [.rsl (rowStg s.stages) 0 s.stages.length, .rsl (rowI s.worth) 0 s.worth.length, .int .i64 s.price], .clos 92 [] [.rptr [.rsl (rowI plan) 0 plan.length] 0]] (.tup [.nilPtr, .int .i64 1]), true = true])
    (hr : AvLe (.tup [.nilSl, .int .i64 1]) res) : G Try.prog E [.code (bodyAt Try.prog 40)] ⟨[.agg [.rsl (rowStg s.stages) 0 s.stages.length, .rsl (rowI s.worth) 0 s.worth.length, .int .i64 s.price], .rsl (rowI plan) 0 plan.length] ++ unds (Try.f40.ntmps - 2), []⟩ :=
  end_stepL (n := 400) (evs := [.wt 3, .v (.tup [.nilPtr, .int .i64 1]), .b true]) (obs := _) hE Try.func40 mixed (by kernel_rfl) ho hr
theorem p40_start_2 (s : Stl) (plan : (List Int))   {E : Env} {res : AV} (hE : PureE Try.prog 40 res E) (ho : AllP [PureF Try.prog (.clos 71 [] []) [.agg [.rsl (rowStg s.stages) 0 s.stages.length, .rsl (rowI s.worth) 0 s.worth.length, .int .i64 s.price], .clos 92 [] [.rptr [.rsl (rowI plan) 0 plan.length] 0]] (.tup [.nilPtr, .int .i64 60]), true = true])
    (hr : AvLe (.tup [.nilSl, .int .i64 60]) res) : G Try.prog E [.code (bodyAt Try.prog 40)] ⟨[.agg [.rsl (rowStg s.stages) 0 s.stages.length, .rsl (rowI s.worth) 0 s.worth.length, .int .i64 s.price], .rsl (rowI plan) 0 plan.length] ++ unds (Try.f40.ntmps - 2), []⟩ :=
  end_stepL (n := 400) (evs := [.wt 3, .v (.tup [.nilPtr, .int .i64 60]), .b true]) (obs := _) hE Try.func40 mixed (by kernel_rfl) ho hr
theorem f40W (s : Stl) (plan : (List Int)) {E : Env} {rv : ((List Fr) × Int)} (hE : PureE Try.prog 40 (.tup [.rsl (rowFr rv.1) 0 rv.1.length, .int .i64 rv.2]) E)
    (h : ((((machI s).isSome) = true → (((planOk (machG s).s plan) = true → ((s.stages.length ≤ 9223372036854775807 ∧ s.worth.length ≤ 9223372036854775807) ∧ f40G0 E s plan 0 ([]))) ∧ ((planOk (machG s).s plan) = false → ((s.stages.length ≤ 9223372036854775807 ∧ s.worth.length ≤ 9223372036854775807) ∧ rv = (([] : List Fr), 1))))) ∧ (((machI s).isSome) = false → ((s.stages.length ≤ 9223372036854775807 ∧ s.worth.length ≤ 9223372036854775807) ∧ rv = (([] : List Fr), 60))))) : G Try.prog E [.code (bodyAt Try.prog 40)] ⟨[.agg [.rsl (rowStg s.stages) 0 s.stages.length, .rsl (rowI s.worth) 0 s.worth.length, .int .i64 s.price], .rsl (rowI plan) 0 plan.length] ++ unds (Try.f40.ntmps - 2), []⟩ := by
  rcases Bool.eq_false_or_eq_true ((machI s).isSome) with hc0 | hc0
  · have h := h.1 hc0
    rcases Bool.eq_false_or_eq_true (planOk (machG s).s plan) with hc1 | hc1
    · have h := h.1 hc1
      obtain ⟨h1, h⟩ := h
      exact p40_start_0 s plan    hE ⟨(pureF_of Try.func71 (by kernel_rfl) f71x92b (begR_T hc0 hc1 ▸ beg92_ok s plan h1)), rfl, trivial⟩ (h 0)
    · have h := h.2 hc1
      obtain ⟨h1, h⟩ := h
      exact p40_start_1 s plan    hE ⟨(pureF_of Try.func71 (by kernel_rfl) f71x92b (begR_F1 hc0 hc1 ▸ beg92_ok s plan h1)), rfl, trivial⟩ (by rw [h]; exact (tup_le ⟨nil_le, ⟨AvLe.of_eq rfl, trivial⟩⟩))
  · have h := h.2 hc0
    obtain ⟨h1, h⟩ := h
    exact p40_start_2 s plan    hE ⟨(pureF_of Try.func71 (by kernel_rfl) f71x92b (begR_F0 hc0 ▸ beg92_ok s plan h1)), rfl, trivial⟩ (by rw [h]; exact (tup_le ⟨nil_le, ⟨AvLe.of_eq rfl, trivial⟩⟩))
theorem p40_0_0 (s : Stl) (plan : (List Int)) (i : Nat) (v2 : List Fr) (g2 : Nat)  {E : Env} {rv : AV} (hE : PureE Try.prog 40 rv E) (ho : AllP [(decide ((i : Int) < (((((machG s).s).worth).length : Nat) : Int))) = true, PureF Try.prog (.clos 76 [] []) [.int .i64 (i : Int)] (.clos 113 [] [.rptr [.int .i64 (i : Int)] 0]), PureF Try.prog (.clos 94 [] []) [.rsl (rowI plan) 0 plan.length] (.clos 119 [] [.rptr [.rsl (rowI plan) 0 plan.length] 0]), PureF Try.prog (.clos 75 [] []) [.rptr [.rsl (rowStg (((machG s).s).stages)) 0 ((((machG s).s).stages).length), .rsl (rowI (((machG s).s).worth)) 0 ((((machG s).s).worth).length), .int .i64 (((machG s).s).price), .rsl (rowI ((machG s).meas)) 0 (((machG s).meas).length), .rsl (rowI ((machG s).mult)) 0 (((machG s).mult).length)] 0, .clos 113 [] [.rptr [.int .i64 (i : Int)] 0], .clos 119 [] [.rptr [.rsl (rowI plan) 0 plan.length] 0]] (.agg [.int .i64 ((firstI (machG s) (onlyI (i : Int)) (fun i _ => planI plan i)).num), .int .i64 ((firstI (machG s) (onlyI (i : Int)) (fun i _ => planI plan i)).den)]), g2 = g2, (0 + (v2.length * 2)) = (rowFr v2).length, (v2.length + 1) ≤ 2147483648, 0 = 0, InR .i64 ((i : Int) + 1)])
    (hg : G Try.prog E (f40K0 Try.prog) ⟨[J, J, J, .rptr [.rsl (rowI plan) 0 plan.length] 0, .sl 2 (g2 + 1) 0 (v2.length + 1) 2, J, .rptr [.rsl (rowStg (((machG s).s).stages)) 0 ((((machG s).s).stages).length), .rsl (rowI (((machG s).s).worth)) 0 ((((machG s).s).worth).length), .int .i64 (((machG s).s).price), .rsl (rowI ((machG s).meas)) 0 (((machG s).meas).length), .rsl (rowI ((machG s).mult)) 0 (((machG s).mult).length)] 0, J, J, J, J, J, J, J, J, J, J, J, J, J, J, J, .int .i64 (((((machG s).s).worth).length : Nat) : Int), .int .i64 ((i : Int) + 1), J, J, J, J, J, J, J, J, J, J, J, J, J], [⟨true, 0, 1, true, [.rsl (rowStg s.stages) 0 s.stages.length, .rsl (rowI s.worth) 0 s.worth.length, .int .i64 s.price], false⟩, ⟨false, 1, 1, true, [], false⟩, ⟨true, (g2 + 1), 2, true, ((rowFr v2) ++ [.int .i64 ((firstI (machG s) (onlyI (i : Int)) (fun i _ => planI plan i)).num), .int .i64 ((firstI (machG s) (onlyI (i : Int)) (fun i _ => planI plan i)).den)]), true⟩]⟩) : G Try.prog E (f40K0 Try.prog) (f40S0 s plan i v2 g2) :=
  segC_step (n := 400) (ds := []) (cs := []) (live := [3, 4, 6, 22, 23]) (m := 3) (evs := [.b true, .v (.clos 113 [] [.rptr [.int .i64 (i : Int)] 0]), .v (.clos 119 [] [.rptr [.rsl (rowI plan) 0 plan.length] 0]), .v (.agg [.int .i64 ((firstI (machG s) (onlyI (i : Int)) (fun i _ => planI plan i)).num), .int .i64 ((firstI (machG s) (onlyI (i : Int)) (fun i _ => planI plan i)).den)]), .stop]) (obs := _) hE.2.1 (hE.nogh _) mixed (by kernel_rfl) ho hg
theorem p40_0_1 (s : Stl) (plan : (List Int)) (i : Nat) (v2 : List Fr) (g2 : Nat)  {E : Env} {res : AV} (hE : PureE Try.prog 40 res E) (ho : AllP [(decide ((i : Int) < (((((machG s).s).worth).length : Nat) : Int))) = false, g2 = g2])
    (hr : AvLe (.tup [.rsl (rowFr v2) 0 v2.length, .int .i64 0]) res) : G Try.prog E (f40K0 Try.prog) (f40S0 s plan i v2 g2) :=
  end_stepL (n := 400) (evs := [.b false]) (obs := _) hE Try.func40 mixed (by kernel_rfl) ho hr
theorem f40W0 (s : Stl) (plan : (List Int)) (i : Nat) (v2 : List Fr) {E : Env} {rv : ((List Fr) × Int)} (hE : PureE Try.prog 40 (.tup [.rsl (rowFr rv.1) 0 rv.1.length, .int .i64 rv.2]) E)
    (h : (((i : Int) < (((((machG s).s).worth).length : Nat) : Int) → ((MOk (machG s) ∧ planOk (machG s).s plan = true) ∧ ((v2.length + 1) ≤ 2147483648 ∧ ((-9223372036854775808 ≤ (i : Int) + 1 ∧ (i : Int) + 1 ≤ 9223372036854775807) ∧ f40G0 E s plan (i + 1) (v2 ++ [(firstI (machG s) (onlyI (i : Int)) (fun i _ => planI plan i))]))))) ∧ (¬ ((i : Int) < (((((machG s).s).worth).length : Nat) : Int)) → rv = (v2, 0)))) : f40G0 E s plan i v2 := by
  intro g2
  rcases Bool.eq_false_or_eq_true (decide ((i : Int) < (((((machG s).s).worth).length : Nat) : Int))) with hc0 | hc0
  · have h := h.1 (of_decide_eq_true hc0)
    obtain ⟨h1, h⟩ := h
    obtain ⟨h2, h⟩ := h
    obtain ⟨q8_1, h⟩ := h
    refine p40_0_0 s plan i v2 g2  hE ⟨hc0, (pureF_of Try.func76 (by kernel_rfl) f76b (mkonly_ok (i : Int))), (pureF_of Try.func94 (by kernel_rfl) f94b (mkplanned_ok plan)), (pureF_of Try.func75 (by kernel_rfl) f75pb (firstp_ok (machG s) (i : Int) plan h1.1 h1.2)), rfl, (by have hx := row_len cFr (s := 2) (fun _ => rfl) v2; simp only [rowFr] at hx ⊢; rw [hx]; simp), h2, rfl, q8_1, trivial⟩ ?_
    rw [(show rowFr v2 ++ [.int .i64 ((firstI (machG s) (onlyI (i : Int)) (fun i _ => planI plan i)).num), .int .i64 ((firstI (machG s) (onlyI (i : Int)) (fun i _ => planI plan i)).den)] = rowFr (v2 ++ [(firstI (machG s) (onlyI (i : Int)) (fun i _ => planI plan i))]) from (row_app cFr v2 [(firstI (machG s) (onlyI (i : Int)) (fun i _ => planI plan i))]).symm)]; rw [(show (v2.length + 1) = (v2 ++ [(firstI (machG s) (onlyI (i : Int)) (fun i _ => planI plan i))]).length from by simp)]; exact (h (g2 + 1))
  · have h := h.2 (of_decide_eq_false hc0)
    exact p40_0_1 s plan i v2 g2  hE ⟨hc0, rfl, trivial⟩ (AvLe.of_eq (by rw [h]; try rfl))
theorem planE_eq {s : Stl} {plan : List Int} (h : (machI s).isSome = true) : planE s plan = if planOk (machG s).s plan = true then 0 else 1 := by
  rw [planE, if_pos (isSome_iff.1 h), (mok_G h).2]
theorem planned_ok (s : Stl) (plan : List Int) (h : s.stages.length ≤ 9223372036854775807 ∧ s.worth.length ≤ 9223372036854775807) : Pure Try.prog 40 [avStl s, .rsl (rowI plan) 0 plan.length] (.tup [.rsl (rowFr (plannedK s plan).1) 0 (plannedK s plan).1.length, .int .i64 (plannedK s plan).2]) := pure_of Try.func40 f40b fun E hE => by
  refine f40W s plan (rv := plannedK s plan) hE ⟨fun h0 => ⟨fun h1 => ⟨h, ?_⟩, fun h1 => ⟨h, ?_⟩⟩, fun h0 => ⟨h, ?_⟩⟩
  · obtain ⟨hm, es⟩ := mok_G h0
    have hw := (stPre_of hm.st).2.1
    have he : planE s plan = 0 := by rw [planE_eq h0, if_pos h1]
    rw [es] at hw
    have key : ∀ (d i : Nat), i + d = s.worth.length → f40G0 E s plan i (planL s plan i) := by
      intro d
      induction d with
      | zero =>
        intro i hd
        refine f40W0 s plan i _ (rv := plannedK s plan) hE ⟨fun h => by rw [es] at h; omega, fun _ => ?_⟩
        rw [plannedK, if_pos he, show i = s.worth.length by omega]
      | succ d ih =>
        intro i hd
        refine f40W0 s plan i _ (rv := plannedK s plan) hE ⟨fun _ => ⟨⟨hm, h1⟩, by rw [planL_len]; omega, by omega, ?_⟩, fun h => by rw [es] at h; omega⟩
        have := ih (i + 1) (by omega)
        rw [planL_snoc] at this; exact this
    exact key s.worth.length 0 (by omega)
  · have he : planE s plan = 1 := by rw [planE_eq h0, if_neg (by rw [h1]; simp)]
    rw [plannedK, if_neg (by omega), he]
  · have he : planE s plan = 60 := by rw [planE, if_neg (fun h => by rw [isSome_iff.2 h] at h0; cases h0)]
    rw [plannedK, if_neg (by omega), he]
theorem gainV_bd {s : Stl} {pa oa : Int} (h : checkK s = 0) : (0 ≤ gainV s pa oa ∧ gainV s pa oa ≤ 10000 * meas0I s) ∧ 0 < meas0I s ∧ meas0I s ≤ 1000000000000 := by
  have hm := (mok_G (isSome_of h)).1
  obtain ⟨u, hu, h1, h2⟩ := meas0 hm
  have := (val_okA hm (w := worthI (machG s)) (ch := chooseI (machG s) pa oa) (wok_worth hm)).hi 0 u (by omega) hu
  unfold gainV meas0I
  rw [getD_of hu]
  exact ⟨this, h1, h2⟩
end Go.Proofs.Ytfgmlaeikcfpbaa

namespace Go.Proofs.Ytfgmlaeikcfpbaa
open Go Ax
open Go.Proofs

structure Fr2 where
  lo : Fr
  hi : Fr
def cFr2 (e : Fr2) : List AV := [.int .i64 e.lo.num, .int .i64 e.lo.den, .int .i64 e.hi.num, .int .i64 e.hi.den]
def rowFr2 (l : List Fr2) : List AV := l.flatMap cFr2
/-- The odds of a kind, in parts of the measure of the first stage. -/
def oddV (m : Mch) (k pa oa : Int) : Int := (valA m (onlyI k) (chooseI m pa oa)).1.getD 0 0
theorem frEq_iff {a b : Fr} : (a.num == b.num && (a.den == b.den && true)) = true ↔ a = b := by
  obtain ⟨a1, a2⟩ := a
  obtain ⟨b1, b2⟩ := b
  simp
theorem first_eq {m : Mch} (hm : MOk m) {w : Int → Int} {c1 c2 : Int → List Int → Int} : ((firstI m w c1).num == (firstI m w c2).num && ((firstI m w c1).den == (firstI m w c2).den && true)) = ((valA m w c1).1.getD 0 0 == (valA m w c2).1.getD 0 0) := by
  obtain ⟨u, hu, hu1, hu2⟩ := meas0 hm
  rw [Bool.eq_iff_iff, frEq_iff, beq_iff_eq]
  constructor
  · intro h
    rw [firstI, firstI, getD_of hu] at h
    exact frac_inj hu1 h
  · intro h
    rw [firstI, firstI, h]
def turnsI (m : Mch) (k : Int) : Bool := (oddV m k 1 1 != oddV m k 1 2) || (oddV m k 2 1 != oddV m k 2 2)
def turnsL (s : Stl) : Nat → List Int
  | 0 => []
  | n + 1 => turnsL s n ++ (if turnsI (machG s) (n : Int) = true then [(n : Int)] else [])
theorem turnsL_zero {s : Stl} : ∀ {n : Nat}, (turnsL s n).length = 0 ↔ ∀ k : Nat, k < n → turnsI (machG s) (k : Int) = false
  | 0 => by simp [turnsL]
  | n + 1 => by
    have ih := turnsL_zero (s := s) (n := n)
    simp only [turnsL, List.length_append]
    constructor
    · intro h k hk
      by_cases e : k = n
      · subst e
        cases ht : turnsI (machG s) (k : Int) with
        | false => rfl
        | true => rw [if_pos ht] at h; simp at h
      · exact ih.1 (by omega) k (by omega)
    · intro h
      have h1 := ih.2 fun k hk => h k (by omega)
      rw [if_neg (by rw [h n (by omega)]; simp)]
      simp; exact List.length_eq_zero_iff.1 h1
def noticeL (s : Stl) (n : Nat) : List Fr2 := (List.range n).map fun (k : Nat) => ⟨firstI (machG s) (onlyI (k : Int)) (chooseI (machG s) 1 1), firstI (machG s) (onlyI (k : Int)) (chooseI (machG s) 2 1)⟩
theorem noticeL_snoc {s : Stl} {n : Nat} : noticeL s (n + 1) = noticeL s n ++ [⟨firstI (machG s) (onlyI (n : Int)) (chooseI (machG s) 1 1), firstI (machG s) (onlyI (n : Int)) (chooseI (machG s) 2 1)⟩] := by
  rw [noticeL, List.range_succ, List.map_append]; rfl
theorem noticeL_len {s : Stl} {n : Nat} : (noticeL s n).length = n := by simp [noticeL]
def noticeK (s : Stl) : List Fr2 × Int := if checkK s = 0 then (if (turnsL s s.worth.length).length = 0 then (noticeL s s.worth.length, 0) else ([], 61)) else ([], 60)
theorem worth_len {s : Stl} (h : checkK s = 0) : s.worth.length ≤ 8 := by
  obtain ⟨hm, es⟩ := mok_G (isSome_of h)
  have := (stPre_of hm.st).2.1
  rw [es] at this; exact this
theorem f106b : Try.f106.body = some (bodyAt Try.prog 106) := by kernel_rfl
theorem p106_start_0 (k : Int) (m : Mch)   {E : Env} {res : AV} (hE : PureE Try.prog 106 res E) (ho : AllP [true = true, true = true, PureF Try.prog (.clos 76 [] []) [.int .i64 k] (.clos 113 [] [.rptr [.int .i64 k] 0]), PureF Try.prog (.clos 77 [] []) [.rptr [.rsl (rowStg m.s.stages) 0 m.s.stages.length, .rsl (rowI m.s.worth) 0 m.s.worth.length, .int .i64 m.s.price, .rsl (rowI m.meas) 0 m.meas.length, .rsl (rowI m.mult) 0 m.mult.length] 0, .int .i64 1, .int .i64 1] (.clos 114 [] [.rptr [.int .i64 1] 0, .rptr [.rptr [.rsl (rowStg m.s.stages) 0 m.s.stages.length, .rsl (rowI m.s.worth) 0 m.s.worth.length, .int .i64 m.s.price, .rsl (rowI m.meas) 0 m.meas.length, .rsl (rowI m.mult) 0 m.mult.length] 0] 0, .rptr [.int .i64 1] 0]), PureF Try.prog (.clos 75 [] []) [.rptr [.rsl (rowStg m.s.stages) 0 m.s.stages.length, .rsl (rowI m.s.worth) 0 m.s.worth.length, .int .i64 m.s.price, .rsl (rowI m.meas) 0 m.meas.length, .rsl (rowI m.mult) 0 m.mult.length] 0, .clos 113 [] [.rptr [.int .i64 k] 0], .clos 114 [] [.rptr [.int .i64 1] 0, .rptr [.rptr [.rsl (rowStg m.s.stages) 0 m.s.stages.length, .rsl (rowI m.s.worth) 0 m.s.worth.length, .int .i64 m.s.price, .rsl (rowI m.meas) 0 m.meas.length, .rsl (rowI m.mult) 0 m.mult.length] 0] 0, .rptr [.int .i64 1] 0]] (.agg [.int .i64 ((firstI m (onlyI k) (chooseI m 1 1)).num), .int .i64 ((firstI m (onlyI k) (chooseI m 1 1)).den)]), (0 : Int) ≤ 1 ∧ (1 : Int) < ((3 : Nat) : Int), (0 : Int) ≤ 1 ∧ (1 : Int) < ((3 : Nat) : Int), 10 ≤ 18, InR .i64 2, true = true, PureF Try.prog (.clos 76 [] []) [.int .i64 k] (.clos 113 [] [.rptr [.int .i64 k] 0]), PureF Try.prog (.clos 77 [] []) [.rptr [.rsl (rowStg m.s.stages) 0 m.s.stages.length, .rsl (rowI m.s.worth) 0 m.s.worth.length, .int .i64 m.s.price, .rsl (rowI m.meas) 0 m.meas.length, .rsl (rowI m.mult) 0 m.mult.length] 0, .int .i64 1, .int .i64 2] (.clos 114 [] [.rptr [.int .i64 1] 0, .rptr [.rptr [.rsl (rowStg m.s.stages) 0 m.s.stages.length, .rsl (rowI m.s.worth) 0 m.s.worth.length, .int .i64 m.s.price, .rsl (rowI m.meas) 0 m.meas.length, .rsl (rowI m.mult) 0 m.mult.length] 0] 0, .rptr [.int .i64 2] 0]), PureF Try.prog (.clos 75 [] []) [.rptr [.rsl (rowStg m.s.stages) 0 m.s.stages.length, .rsl (rowI m.s.worth) 0 m.s.worth.length, .int .i64 m.s.price, .rsl (rowI m.meas) 0 m.meas.length, .rsl (rowI m.mult) 0 m.mult.length] 0, .clos 113 [] [.rptr [.int .i64 k] 0], .clos 114 [] [.rptr [.int .i64 1] 0, .rptr [.rptr [.rsl (rowStg m.s.stages) 0 m.s.stages.length, .rsl (rowI m.s.worth) 0 m.s.worth.length, .int .i64 m.s.price, .rsl (rowI m.meas) 0 m.meas.length, .rsl (rowI m.mult) 0 m.mult.length] 0] 0, .rptr [.int .i64 2] 0]] (.agg [.int .i64 ((firstI m (onlyI k) (chooseI m 1 2)).num), .int .i64 ((firstI m (onlyI k) (chooseI m 1 2)).den)]), (0 : Int) ≤ 1 ∧ (1 : Int) < ((3 : Nat) : Int), (0 : Int) ≤ 2 ∧ (2 : Int) < ((3 : Nat) : Int), 12 ≤ 18, InR .i64 3, false = false, InR .i64 2, true = true, true = true, PureF Try.prog (.clos 76 [] []) [.int .i64 k] (.clos 113 [] [.rptr [.int .i64 k] 0]), PureF Try.prog (.clos 77 [] []) [.rptr [.rsl (rowStg m.s.stages) 0 m.s.stages.length, .rsl (rowI m.s.worth) 0 m.s.worth.length, .int .i64 m.s.price, .rsl (rowI m.meas) 0 m.meas.length, .rsl (rowI m.mult) 0 m.mult.length] 0, .int .i64 2, .int .i64 1] (.clos 114 [] [.rptr [.int .i64 2] 0, .rptr [.rptr [.rsl (rowStg m.s.stages) 0 m.s.stages.length, .rsl (rowI m.s.worth) 0 m.s.worth.length, .int .i64 m.s.price, .rsl (rowI m.meas) 0 m.meas.length, .rsl (rowI m.mult) 0 m.mult.length] 0] 0, .rptr [.int .i64 1] 0]), PureF Try.prog (.clos 75 [] []) [.rptr [.rsl (rowStg m.s.stages) 0 m.s.stages.length, .rsl (rowI m.s.worth) 0 m.s.worth.length, .int .i64 m.s.price, .rsl (rowI m.meas) 0 m.meas.length, .rsl (rowI m.mult) 0 m.mult.length] 0, .clos 113 [] [.rptr [.int .i64 k] 0], .clos 114 [] [.rptr [.int .i64 2] 0, .rptr [.rptr [.rsl (rowStg m.s.stages) 0 m.s.stages.length, .rsl (rowI m.s.worth) 0 m.s.worth.length, .int .i64 m.s.price, .rsl (rowI m.meas) 0 m.meas.length, .rsl (rowI m.mult) 0 m.mult.length] 0] 0, .rptr [.int .i64 1] 0]] (.agg [.int .i64 ((firstI m (onlyI k) (chooseI m 2 1)).num), .int .i64 ((firstI m (onlyI k) (chooseI m 2 1)).den)]), (0 : Int) ≤ 2 ∧ (2 : Int) < ((3 : Nat) : Int), (0 : Int) ≤ 1 ∧ (1 : Int) < ((3 : Nat) : Int), 16 ≤ 18, InR .i64 2, true = true, PureF Try.prog (.clos 76 [] []) [.int .i64 k] (.clos 113 [] [.rptr [.int .i64 k] 0]), PureF Try.prog (.clos 77 [] []) [.rptr [.rsl (rowStg m.s.stages) 0 m.s.stages.length, .rsl (rowI m.s.worth) 0 m.s.worth.length, .int .i64 m.s.price, .rsl (rowI m.meas) 0 m.meas.length, .rsl (rowI m.mult) 0 m.mult.length] 0, .int .i64 2, .int .i64 2] (.clos 114 [] [.rptr [.int .i64 2] 0, .rptr [.rptr [.rsl (rowStg m.s.stages) 0 m.s.stages.length, .rsl (rowI m.s.worth) 0 m.s.worth.length, .int .i64 m.s.price, .rsl (rowI m.meas) 0 m.meas.length, .rsl (rowI m.mult) 0 m.mult.length] 0] 0, .rptr [.int .i64 2] 0]), PureF Try.prog (.clos 75 [] []) [.rptr [.rsl (rowStg m.s.stages) 0 m.s.stages.length, .rsl (rowI m.s.worth) 0 m.s.worth.length, .int .i64 m.s.price, .rsl (rowI m.meas) 0 m.meas.length, .rsl (rowI m.mult) 0 m.mult.length] 0, .clos 113 [] [.rptr [.int .i64 k] 0], .clos 114 [] [.rptr [.int .i64 2] 0, .rptr [.rptr [.rsl (rowStg m.s.stages) 0 m.s.stages.length, .rsl (rowI m.s.worth) 0 m.s.worth.length, .int .i64 m.s.price, .rsl (rowI m.meas) 0 m.meas.length, .rsl (rowI m.mult) 0 m.mult.length] 0] 0, .rptr [.int .i64 2] 0]] (.agg [.int .i64 ((firstI m (onlyI k) (chooseI m 2 2)).num), .int .i64 ((firstI m (onlyI k) (chooseI m 2 2)).den)]), (0 : Int) ≤ 2 ∧ (2 : Int) < ((3 : Nat) : Int), (0 : Int) ≤ 2 ∧ (2 : Int) < ((3 : Nat) : Int), 18 ≤ 18, InR .i64 3, false = false, InR .i64 3, false = false, 18 ≤ 18])
    (hr : AvLe (.agg [.int .i64 0, .int .i64 0, .int .i64 0, .int .i64 0, .int .i64 0, .int .i64 0, .int .i64 0, .int .i64 0, .int .i64 ((firstI m (onlyI k) (chooseI m 1 1)).num), .int .i64 ((firstI m (onlyI k) (chooseI m 1 1)).den), .int .i64 ((firstI m (onlyI k) (chooseI m 1 2)).num), .int .i64 ((firstI m (onlyI k) (chooseI m 1 2)).den), .int .i64 0, .int .i64 0, .int .i64 ((firstI m (onlyI k) (chooseI m 2 1)).num), .int .i64 ((firstI m (onlyI k) (chooseI m 2 1)).den), .int .i64 ((firstI m (onlyI k) (chooseI m 2 2)).num), .int .i64 ((firstI m (onlyI k) (chooseI m 2 2)).den)]) res) : G Try.prog E [.code (bodyAt Try.prog 106)] ⟨[.rptr [.rsl (rowStg m.s.stages) 0 m.s.stages.length, .rsl (rowI m.s.worth) 0 m.s.worth.length, .int .i64 m.s.price, .rsl (rowI m.meas) 0 m.meas.length, .rsl (rowI m.mult) 0 m.mult.length] 0, .int .i64 k] ++ unds (Try.f106.ntmps - 2), []⟩ :=
  end_stepL (n := 400) (evs := [.b true, .b true, .v (.clos 113 [] [.rptr [.int .i64 k] 0]), .v (.clos 114 [] [.rptr [.int .i64 1] 0, .rptr [.rptr [.rsl (rowStg m.s.stages) 0 m.s.stages.length, .rsl (rowI m.s.worth) 0 m.s.worth.length, .int .i64 m.s.price, .rsl (rowI m.meas) 0 m.meas.length, .rsl (rowI m.mult) 0 m.mult.length] 0] 0, .rptr [.int .i64 1] 0]), .v (.agg [.int .i64 ((firstI m (onlyI k) (chooseI m 1 1)).num), .int .i64 ((firstI m (onlyI k) (chooseI m 1 1)).den)]), .b true, .v (.clos 113 [] [.rptr [.int .i64 k] 0]), .v (.clos 114 [] [.rptr [.int .i64 1] 0, .rptr [.rptr [.rsl (rowStg m.s.stages) 0 m.s.stages.length, .rsl (rowI m.s.worth) 0 m.s.worth.length, .int .i64 m.s.price, .rsl (rowI m.meas) 0 m.meas.length, .rsl (rowI m.mult) 0 m.mult.length] 0] 0, .rptr [.int .i64 2] 0]), .v (.agg [.int .i64 ((firstI m (onlyI k) (chooseI m 1 2)).num), .int .i64 ((firstI m (onlyI k) (chooseI m 1 2)).den)]), .b false, .b true, .b true, .v (.clos 113 [] [.rptr [.int .i64 k] 0]), .v (.clos 114 [] [.rptr [.int .i64 2] 0, .rptr [.rptr [.rsl (rowStg m.s.stages) 0 m.s.stages.length, .rsl (rowI m.s.worth) 0 m.s.worth.length, .int .i64 m.s.price, .rsl (rowI m.meas) 0 m.meas.length, .rsl (rowI m.mult) 0 m.mult.length] 0] 0, .rptr [.int .i64 1] 0]), .v (.agg [.int .i64 ((firstI m (onlyI k) (chooseI m 2 1)).num), .int .i64 ((firstI m (onlyI k) (chooseI m 2 1)).den)]), .b true, .v (.clos 113 [] [.rptr [.int .i64 k] 0]), .v (.clos 114 [] [.rptr [.int .i64 2] 0, .rptr [.rptr [.rsl (rowStg m.s.stages) 0 m.s.stages.length, .rsl (rowI m.s.worth) 0 m.s.worth.length, .int .i64 m.s.price, .rsl (rowI m.meas) 0 m.meas.length, .rsl (rowI m.mult) 0 m.mult.length] 0] 0, .rptr [.int .i64 2] 0]), .v (.agg [.int .i64 ((firstI m (onlyI k) (chooseI m 2 2)).num), .int .i64 ((firstI m (onlyI k) (chooseI m 2 2)).den)]), .b false, .b false]) (obs := _) hE Try.func106 mixed (by kernel_rfl) ho hr
theorem f106W (k : Int) (m : Mch) {E : Env} {rv : AV} (hE : PureE Try.prog 106 rv E)
    (h : ((MOk m) ∧ ((MOk m) ∧ ((MOk m) ∧ ((MOk m) ∧ rv = (.agg [.int .i64 0, .int .i64 0, .int .i64 0, .int .i64 0, .int .i64 0, .int .i64 0, .int .i64 0, .int .i64 0, .int .i64 ((firstI m (onlyI k) (chooseI m 1 1)).num), .int .i64 ((firstI m (onlyI k) (chooseI m 1 1)).den), .int .i64 ((firstI m (onlyI k) (chooseI m 1 2)).num), .int .i64 ((firstI m (onlyI k) (chooseI m 1 2)).den), .int .i64 0, .int .i64 0, .int .i64 ((firstI m (onlyI k) (chooseI m 2 1)).num), .int .i64 ((firstI m (onlyI k) (chooseI m 2 1)).den), .int .i64 ((firstI m (onlyI k) (chooseI m 2 2)).num), .int .i64 ((firstI m (onlyI k) (chooseI m 2 2)).den)])))))) : G Try.prog E [.code (bodyAt Try.prog 106)] ⟨[.rptr [.rsl (rowStg m.s.stages) 0 m.s.stages.length, .rsl (rowI m.s.worth) 0 m.s.worth.length, .int .i64 m.s.price, .rsl (rowI m.meas) 0 m.meas.length, .rsl (rowI m.mult) 0 m.mult.length] 0, .int .i64 k] ++ unds (Try.f106.ntmps - 2), []⟩ := by
  obtain ⟨h1, h⟩ := h
  obtain ⟨h2, h⟩ := h
  obtain ⟨h3, h⟩ := h
  obtain ⟨h4, h⟩ := h
  exact p106_start_0 k m    hE ⟨rfl, rfl, (pureF_of Try.func76 (by kernel_rfl) f76b (mkonly_ok k)), (pureF_of Try.func77 (by kernel_rfl) f77b (mkaims_ok m 1 1)), (pureF_of Try.func75 (by kernel_rfl) f75ob (firsto_ok m k 1 1 h1)), (⟨by decide, by decide⟩), (⟨by decide, by decide⟩), (by decide), (⟨by decide, by decide⟩), rfl, (pureF_of Try.func76 (by kernel_rfl) f76b (mkonly_ok k)), (pureF_of Try.func77 (by kernel_rfl) f77b (mkaims_ok m 1 2)), (pureF_of Try.func75 (by kernel_rfl) f75ob (firsto_ok m k 1 2 h2)), (⟨by decide, by decide⟩), (⟨by decide, by decide⟩), (by decide), (⟨by decide, by decide⟩), rfl, (⟨by decide, by decide⟩), rfl, rfl, (pureF_of Try.func76 (by kernel_rfl) f76b (mkonly_ok k)), (pureF_of Try.func77 (by kernel_rfl) f77b (mkaims_ok m 2 1)), (pureF_of Try.func75 (by kernel_rfl) f75ob (firsto_ok m k 2 1 h3)), (⟨by decide, by decide⟩), (⟨by decide, by decide⟩), (by decide), (⟨by decide, by decide⟩), rfl, (pureF_of Try.func76 (by kernel_rfl) f76b (mkonly_ok k)), (pureF_of Try.func77 (by kernel_rfl) f77b (mkaims_ok m 2 2)), (pureF_of Try.func75 (by kernel_rfl) f75ob (firsto_ok m k 2 2 h4)), (⟨by decide, by decide⟩), (⟨by decide, by decide⟩), (by decide), (⟨by decide, by decide⟩), rfl, (⟨by decide, by decide⟩), rfl, (by decide), trivial⟩ (AvLe.of_eq (by rw [h]; try rfl))

theorem odds4_ok (m : Mch) (k : Int) (hm : MOk m) : Pure Try.prog 106 [.rptr (cMch m) 0, .int .i64 k] (.agg [.int .i64 0, .int .i64 0, .int .i64 0, .int .i64 0, .int .i64 0, .int .i64 0, .int .i64 0, .int .i64 0, .int .i64 ((firstI m (onlyI k) (chooseI m 1 1)).num), .int .i64 ((firstI m (onlyI k) (chooseI m 1 1)).den), .int .i64 ((firstI m (onlyI k) (chooseI m 1 2)).num), .int .i64 ((firstI m (onlyI k) (chooseI m 1 2)).den), .int .i64 0, .int .i64 0, .int .i64 ((firstI m (onlyI k) (chooseI m 2 1)).num), .int .i64 ((firstI m (onlyI k) (chooseI m 2 1)).den), .int .i64 ((firstI m (onlyI k) (chooseI m 2 2)).num), .int .i64 ((firstI m (onlyI k) (chooseI m 2 2)).den)]) := pure_of Try.func106 f106b fun E hE => f106W k m hE ⟨hm, hm, hm, hm, rfl⟩

theorem f105b : Try.f105.body = some (bodyAt Try.prog 105) := by kernel_rfl
theorem p105_start_0 (k : Int) (m : Mch)   {E : Env} {res : AV} (hE : PureE Try.prog 105 res E) (ho : AllP [PureF Try.prog (.clos 106 [] []) [.rptr [.rsl (rowStg m.s.stages) 0 m.s.stages.length, .rsl (rowI m.s.worth) 0 m.s.worth.length, .int .i64 m.s.price, .rsl (rowI m.meas) 0 m.meas.length, .rsl (rowI m.mult) 0 m.mult.length] 0, .int .i64 k] (.agg [.int .i64 0, .int .i64 0, .int .i64 0, .int .i64 0, .int .i64 0, .int .i64 0, .int .i64 0, .int .i64 0, .int .i64 ((firstI m (onlyI k) (chooseI m 1 1)).num), .int .i64 ((firstI m (onlyI k) (chooseI m 1 1)).den), .int .i64 ((firstI m (onlyI k) (chooseI m 1 2)).num), .int .i64 ((firstI m (onlyI k) (chooseI m 1 2)).den), .int .i64 0, .int .i64 0, .int .i64 ((firstI m (onlyI k) (chooseI m 2 1)).num), .int .i64 ((firstI m (onlyI k) (chooseI m 2 1)).den), .int .i64 ((firstI m (onlyI k) (chooseI m 2 2)).num), .int .i64 ((firstI m (onlyI k) (chooseI m 2 2)).den)]), 18 ≤ 18, (0 : Int) ≤ 1 ∧ (1 : Int) < ((3 : Nat) : Int), (0 : Int) ≤ 1 ∧ (1 : Int) < ((3 : Nat) : Int), (0 : Int) ≤ 1 ∧ (1 : Int) < ((3 : Nat) : Int), (0 : Int) ≤ 2 ∧ (2 : Int) < ((3 : Nat) : Int), (!((firstI m (onlyI k) (chooseI m 1 1)).num == (firstI m (onlyI k) (chooseI m 1 2)).num && ((firstI m (onlyI k) (chooseI m 1 1)).den == (firstI m (onlyI k) (chooseI m 1 2)).den && true))) = true])
    (hr : AvLe (.bool true) res) : G Try.prog E [.code (bodyAt Try.prog 105)] ⟨[.rptr [.rsl (rowStg m.s.stages) 0 m.s.stages.length, .rsl (rowI m.s.worth) 0 m.s.worth.length, .int .i64 m.s.price, .rsl (rowI m.meas) 0 m.meas.length, .rsl (rowI m.mult) 0 m.mult.length] 0, .int .i64 k] ++ unds (Try.f105.ntmps - 2), []⟩ :=
  end_stepL (n := 400) (evs := [.v (.agg [.int .i64 0, .int .i64 0, .int .i64 0, .int .i64 0, .int .i64 0, .int .i64 0, .int .i64 0, .int .i64 0, .int .i64 ((firstI m (onlyI k) (chooseI m 1 1)).num), .int .i64 ((firstI m (onlyI k) (chooseI m 1 1)).den), .int .i64 ((firstI m (onlyI k) (chooseI m 1 2)).num), .int .i64 ((firstI m (onlyI k) (chooseI m 1 2)).den), .int .i64 0, .int .i64 0, .int .i64 ((firstI m (onlyI k) (chooseI m 2 1)).num), .int .i64 ((firstI m (onlyI k) (chooseI m 2 1)).den), .int .i64 ((firstI m (onlyI k) (chooseI m 2 2)).num), .int .i64 ((firstI m (onlyI k) (chooseI m 2 2)).den)]), .b true]) (obs := _) hE Try.func105 mixed (by kernel_rfl) ho hr
theorem p105_start_1 (k : Int) (m : Mch)   {E : Env} {res : AV} (hE : PureE Try.prog 105 res E) (ho : AllP [PureF Try.prog (.clos 106 [] []) [.rptr [.rsl (rowStg m.s.stages) 0 m.s.stages.length, .rsl (rowI m.s.worth) 0 m.s.worth.length, .int .i64 m.s.price, .rsl (rowI m.meas) 0 m.meas.length, .rsl (rowI m.mult) 0 m.mult.length] 0, .int .i64 k] (.agg [.int .i64 0, .int .i64 0, .int .i64 0, .int .i64 0, .int .i64 0, .int .i64 0, .int .i64 0, .int .i64 0, .int .i64 ((firstI m (onlyI k) (chooseI m 1 1)).num), .int .i64 ((firstI m (onlyI k) (chooseI m 1 1)).den), .int .i64 ((firstI m (onlyI k) (chooseI m 1 2)).num), .int .i64 ((firstI m (onlyI k) (chooseI m 1 2)).den), .int .i64 0, .int .i64 0, .int .i64 ((firstI m (onlyI k) (chooseI m 2 1)).num), .int .i64 ((firstI m (onlyI k) (chooseI m 2 1)).den), .int .i64 ((firstI m (onlyI k) (chooseI m 2 2)).num), .int .i64 ((firstI m (onlyI k) (chooseI m 2 2)).den)]), 18 ≤ 18, (0 : Int) ≤ 1 ∧ (1 : Int) < ((3 : Nat) : Int), (0 : Int) ≤ 1 ∧ (1 : Int) < ((3 : Nat) : Int), (0 : Int) ≤ 1 ∧ (1 : Int) < ((3 : Nat) : Int), (0 : Int) ≤ 2 ∧ (2 : Int) < ((3 : Nat) : Int), (!((firstI m (onlyI k) (chooseI m 1 1)).num == (firstI m (onlyI k) (chooseI m 1 2)).num && ((firstI m (onlyI k) (chooseI m 1 1)).den == (firstI m (onlyI k) (chooseI m 1 2)).den && true))) = false, (0 : Int) ≤ 2 ∧ (2 : Int) < ((3 : Nat) : Int), (0 : Int) ≤ 1 ∧ (1 : Int) < ((3 : Nat) : Int), (0 : Int) ≤ 2 ∧ (2 : Int) < ((3 : Nat) : Int), (0 : Int) ≤ 2 ∧ (2 : Int) < ((3 : Nat) : Int)])
    (hr : AvLe (.bool (!((firstI m (onlyI k) (chooseI m 2 1)).num == (firstI m (onlyI k) (chooseI m 2 2)).num && ((firstI m (onlyI k) (chooseI m 2 1)).den == (firstI m (onlyI k) (chooseI m 2 2)).den && true)))) res) : G Try.prog E [.code (bodyAt Try.prog 105)] ⟨[.rptr [.rsl (rowStg m.s.stages) 0 m.s.stages.length, .rsl (rowI m.s.worth) 0 m.s.worth.length, .int .i64 m.s.price, .rsl (rowI m.meas) 0 m.meas.length, .rsl (rowI m.mult) 0 m.mult.length] 0, .int .i64 k] ++ unds (Try.f105.ntmps - 2), []⟩ :=
  end_stepL (n := 400) (evs := [.v (.agg [.int .i64 0, .int .i64 0, .int .i64 0, .int .i64 0, .int .i64 0, .int .i64 0, .int .i64 0, .int .i64 0, .int .i64 ((firstI m (onlyI k) (chooseI m 1 1)).num), .int .i64 ((firstI m (onlyI k) (chooseI m 1 1)).den), .int .i64 ((firstI m (onlyI k) (chooseI m 1 2)).num), .int .i64 ((firstI m (onlyI k) (chooseI m 1 2)).den), .int .i64 0, .int .i64 0, .int .i64 ((firstI m (onlyI k) (chooseI m 2 1)).num), .int .i64 ((firstI m (onlyI k) (chooseI m 2 1)).den), .int .i64 ((firstI m (onlyI k) (chooseI m 2 2)).num), .int .i64 ((firstI m (onlyI k) (chooseI m 2 2)).den)]), .b false]) (obs := _) hE Try.func105 mixed (by kernel_rfl) ho hr
theorem f105W (k : Int) (m : Mch) {E : Env} {rv : Bool} (hE : PureE Try.prog 105 (.bool rv) E)
    (h : ((MOk m) ∧ ((((firstI m (onlyI k) (chooseI m 1 1)).num == (firstI m (onlyI k) (chooseI m 1 2)).num && ((firstI m (onlyI k) (chooseI m 1 1)).den == (firstI m (onlyI k) (chooseI m 1 2)).den && true)) = false → rv = true) ∧ (((firstI m (onlyI k) (chooseI m 1 1)).num == (firstI m (onlyI k) (chooseI m 1 2)).num && ((firstI m (onlyI k) (chooseI m 1 1)).den == (firstI m (onlyI k) (chooseI m 1 2)).den && true)) = true → rv = (!((firstI m (onlyI k) (chooseI m 2 1)).num == (firstI m (onlyI k) (chooseI m 2 2)).num && ((firstI m (onlyI k) (chooseI m 2 1)).den == (firstI m (onlyI k) (chooseI m 2 2)).den && true))))))) : G Try.prog E [.code (bodyAt Try.prog 105)] ⟨[.rptr [.rsl (rowStg m.s.stages) 0 m.s.stages.length, .rsl (rowI m.s.worth) 0 m.s.worth.length, .int .i64 m.s.price, .rsl (rowI m.meas) 0 m.meas.length, .rsl (rowI m.mult) 0 m.mult.length] 0, .int .i64 k] ++ unds (Try.f105.ntmps - 2), []⟩ := by
  obtain ⟨h1, h⟩ := h
  rcases Bool.eq_false_or_eq_true (!((firstI m (onlyI k) (chooseI m 1 1)).num == (firstI m (onlyI k) (chooseI m 1 2)).num && ((firstI m (onlyI k) (chooseI m 1 1)).den == (firstI m (onlyI k) (chooseI m 1 2)).den && true))) with hc0 | hc0
  · have h := h.1 (bnT hc0)
    exact p105_start_0 k m    hE ⟨(pureF_of Try.func106 (by kernel_rfl) f106b (odds4_ok m k h1)), (by decide), (⟨by decide, by decide⟩), (⟨by decide, by decide⟩), (⟨by decide, by decide⟩), (⟨by decide, by decide⟩), hc0, trivial⟩ (AvLe.of_eq (by rw [h]; try rfl))
  · have h := h.2 (bnF hc0)
    exact p105_start_1 k m    hE ⟨(pureF_of Try.func106 (by kernel_rfl) f106b (odds4_ok m k h1)), (by decide), (⟨by decide, by decide⟩), (⟨by decide, by decide⟩), (⟨by decide, by decide⟩), (⟨by decide, by decide⟩), hc0, (⟨by decide, by decide⟩), (⟨by decide, by decide⟩), (⟨by decide, by decide⟩), (⟨by decide, by decide⟩), trivial⟩ (AvLe.of_eq (by rw [h]; try rfl))

theorem turns1_ok (m : Mch) (k : Int) (hm : MOk m) : Pure Try.prog 105 [.rptr (cMch m) 0, .int .i64 k] (.bool (turnsI m k)) := pure_of Try.func105 f105b fun E hE => by
  refine f105W k m (rv := turnsI m k) hE ⟨hm, fun h => ?_, fun h => ?_⟩
  · rw [first_eq hm] at h
    rw [turnsI, oddV, oddV, bne, h]; rfl
  · rw [first_eq hm] at h ⊢
    rw [turnsI, oddV, oddV, oddV, oddV, bne, h]; rfl

theorem f55b : Try.f55.body = some (bodyAt Try.prog 55) := by kernel_rfl
def f55K0 (P : Program) : List Item := kAt 400 [.code (bodyAt P 55)] [.b false, .stop]
def f55S0 (s : Stl) (i : Nat) (v1 : List Fr2) (g1 : Nat) : St := ⟨[J, J, .sl 1 g1 0 v1.length 4, J, .rptr [.rsl (rowStg (((machG s).s).stages)) 0 ((((machG s).s).stages).length), .rsl (rowI (((machG s).s).worth)) 0 ((((machG s).s).worth).length), .int .i64 (((machG s).s).price), .rsl (rowI ((machG s).meas)) 0 (((machG s).meas).length), .rsl (rowI ((machG s).mult)) 0 (((machG s).mult).length)] 0, J, J, J, J, J, J, J, J, J, J, J, J, J, J, J, .int .i64 (((((machG s).s).worth).length : Nat) : Int), .int .i64 (i : Int), J, J, J, J, J, J, J, J, J, J, J, J, J, J, J, J, J, J, J, J], [⟨true, 0, 1, true, [.rsl (rowStg s.stages) 0 s.stages.length, .rsl (rowI s.worth) 0 s.worth.length, .int .i64 s.price], false⟩, ⟨true, g1, 4, true, (rowFr2 v1), true⟩]⟩
def f55G0 (E : Env) (s : Stl) (i : Nat) (v1 : List Fr2) : Prop := ∀ g1 : Nat, G Try.prog E (f55K0 Try.prog) (f55S0 s i v1 g1)
theorem p55_start_0 (s : Stl)   {E : Env} {rv : AV} (hE : PureE Try.prog 55 rv E) (ho : AllP [PureF Try.prog (.clos 71 [] []) [.agg [.rsl (rowStg s.stages) 0 s.stages.length, .rsl (rowI s.worth) 0 s.worth.length, .int .i64 s.price], .clos 104 [] []] (.tup [.rptr [.rsl (rowStg (((machG s).s).stages)) 0 ((((machG s).s).stages).length), .rsl (rowI (((machG s).s).worth)) 0 ((((machG s).s).worth).length), .int .i64 (((machG s).s).price), .rsl (rowI ((machG s).meas)) 0 (((machG s).meas).length), .rsl (rowI ((machG s).mult)) 0 (((machG s).mult).length)] 0, .int .i64 0]), false = false])
    (hg : G Try.prog E (f55K0 Try.prog) ⟨[J, J, .sl 1 0 0 0 4, J, .rptr [.rsl (rowStg (((machG s).s).stages)) 0 ((((machG s).s).stages).length), .rsl (rowI (((machG s).s).worth)) 0 ((((machG s).s).worth).length), .int .i64 (((machG s).s).price), .rsl (rowI ((machG s).meas)) 0 (((machG s).meas).length), .rsl (rowI ((machG s).mult)) 0 (((machG s).mult).length)] 0, J, J, J, J, J, J, J, J, J, J, J, J, J, J, J, .int .i64 (((((machG s).s).worth).length : Nat) : Int), .int .i64 0, J, J, J, J, J, J, J, J, J, J, J, J, J, J, J, J, J, J, J, J], [⟨true, 0, 1, true, [.rsl (rowStg s.stages) 0 s.stages.length, .rsl (rowI s.worth) 0 s.worth.length, .int .i64 s.price], false⟩, ⟨true, 0, 4, true, [], true⟩]⟩) : G Try.prog E [.code (bodyAt Try.prog 55)] ⟨[.agg [.rsl (rowStg s.stages) 0 s.stages.length, .rsl (rowI s.worth) 0 s.worth.length, .int .i64 s.price]] ++ unds (Try.f55.ntmps - 1), []⟩ :=
  segC_step (n := 400) (ds := [(2, 4)]) (cs := []) (live := [2, 4, 20, 21]) (m := 2) (evs := [.v (.tup [.rptr [.rsl (rowStg (((machG s).s).stages)) 0 ((((machG s).s).stages).length), .rsl (rowI (((machG s).s).worth)) 0 ((((machG s).s).worth).length), .int .i64 (((machG s).s).price), .rsl (rowI ((machG s).meas)) 0 (((machG s).meas).length), .rsl (rowI ((machG s).mult)) 0 (((machG s).mult).length)] 0, .int .i64 0]), .b false, .stop]) (obs := _) hE.2.1 (hE.nogh _) mixed (by kernel_rfl) ho hg
theorem p55_start_1 (s : Stl)   {E : Env} {res : AV} (hE : PureE Try.prog 55 res E) (ho : AllP [PureF Try.prog (.clos 71 [] []) [.agg [.rsl (rowStg s.stages) 0 s.stages.length, .rsl (rowI s.worth) 0 s.worth.length, .int .i64 s.price], .clos 104 [] []] (.tup [.nilPtr, .int .i64 60]), true = true])
    (hr : AvLe (.tup [.nilSl, .int .i64 60]) res) : G Try.prog E [.code (bodyAt Try.prog 55)] ⟨[.agg [.rsl (rowStg s.stages) 0 s.stages.length, .rsl (rowI s.worth) 0 s.worth.length, .int .i64 s.price]] ++ unds (Try.f55.ntmps - 1), []⟩ :=
  end_stepL (n := 400) (evs := [.v (.tup [.nilPtr, .int .i64 60]), .b true]) (obs := _) hE Try.func55 mixed (by kernel_rfl) ho hr
theorem f55W (s : Stl) {E : Env} {rv : ((List Fr2) × Int)} (hE : PureE Try.prog 55 (.tup [.rsl (rowFr2 rv.1) 0 rv.1.length, .int .i64 rv.2]) E)
    (h : ((((machI s).isSome) = true → ((s.stages.length ≤ 9223372036854775807 ∧ s.worth.length ≤ 9223372036854775807) ∧ f55G0 E s 0 ([]))) ∧ (((machI s).isSome) = false → ((s.stages.length ≤ 9223372036854775807 ∧ s.worth.length ≤ 9223372036854775807) ∧ rv = (([] : List Fr2), 60))))) : G Try.prog E [.code (bodyAt Try.prog 55)] ⟨[.agg [.rsl (rowStg s.stages) 0 s.stages.length, .rsl (rowI s.worth) 0 s.worth.length, .int .i64 s.price]] ++ unds (Try.f55.ntmps - 1), []⟩ := by
  rcases Bool.eq_false_or_eq_true ((machI s).isSome) with hc0 | hc0
  · have h := h.1 hc0
    obtain ⟨h1, h⟩ := h
    exact p55_start_0 s    hE ⟨(pureF_of Try.func71 (by kernel_rfl) f71x104b (begR_T hc0 rfl ▸ beg104_ok s h1)), rfl, trivial⟩ (h 0)
  · have h := h.2 hc0
    obtain ⟨h1, h⟩ := h
    exact p55_start_1 s    hE ⟨(pureF_of Try.func71 (by kernel_rfl) f71x104b (begR_F0 hc0 ▸ beg104_ok s h1)), rfl, trivial⟩ (by rw [h]; exact (tup_le ⟨nil_le, ⟨AvLe.of_eq rfl, trivial⟩⟩))
theorem p55_0_0 (s : Stl) (i : Nat) (v1 : List Fr2) (g1 : Nat)  {E : Env} {res : AV} (hE : PureE Try.prog 55 res E) (ho : AllP [(decide ((i : Int) < (((((machG s).s).worth).length : Nat) : Int))) = true, PureF Try.prog (.clos 105 [] []) [.rptr [.rsl (rowStg (((machG s).s).stages)) 0 ((((machG s).s).stages).length), .rsl (rowI (((machG s).s).worth)) 0 ((((machG s).s).worth).length), .int .i64 (((machG s).s).price), .rsl (rowI ((machG s).meas)) 0 (((machG s).meas).length), .rsl (rowI ((machG s).mult)) 0 (((machG s).mult).length)] 0, .int .i64 (i : Int)] (.bool (turnsI (machG s) (i : Int))), (turnsI (machG s) (i : Int)) = true])
    (hr : AvLe (.tup [.nilSl, .int .i64 61]) res) : G Try.prog E (f55K0 Try.prog) (f55S0 s i v1 g1) :=
  end_stepL (n := 400) (evs := [.b true, .v (.bool (turnsI (machG s) (i : Int))), .b true]) (obs := _) hE Try.func55 mixed (by kernel_rfl) ho hr
theorem p55_0_1 (s : Stl) (i : Nat) (v1 : List Fr2) (g1 : Nat)  {E : Env} {rv : AV} (hE : PureE Try.prog 55 rv E) (ho : AllP [(decide ((i : Int) < (((((machG s).s).worth).length : Nat) : Int))) = true, PureF Try.prog (.clos 105 [] []) [.rptr [.rsl (rowStg (((machG s).s).stages)) 0 ((((machG s).s).stages).length), .rsl (rowI (((machG s).s).worth)) 0 ((((machG s).s).worth).length), .int .i64 (((machG s).s).price), .rsl (rowI ((machG s).meas)) 0 (((machG s).meas).length), .rsl (rowI ((machG s).mult)) 0 (((machG s).mult).length)] 0, .int .i64 (i : Int)] (.bool (turnsI (machG s) (i : Int))), (turnsI (machG s) (i : Int)) = false, PureF Try.prog (.clos 106 [] []) [.rptr [.rsl (rowStg (((machG s).s).stages)) 0 ((((machG s).s).stages).length), .rsl (rowI (((machG s).s).worth)) 0 ((((machG s).s).worth).length), .int .i64 (((machG s).s).price), .rsl (rowI ((machG s).meas)) 0 (((machG s).meas).length), .rsl (rowI ((machG s).mult)) 0 (((machG s).mult).length)] 0, .int .i64 (i : Int)] (.agg [.int .i64 0, .int .i64 0, .int .i64 0, .int .i64 0, .int .i64 0, .int .i64 0, .int .i64 0, .int .i64 0, .int .i64 ((firstI (machG s) (onlyI (i : Int)) (chooseI (machG s) 1 1)).num), .int .i64 ((firstI (machG s) (onlyI (i : Int)) (chooseI (machG s) 1 1)).den), .int .i64 ((firstI (machG s) (onlyI (i : Int)) (chooseI (machG s) 1 2)).num), .int .i64 ((firstI (machG s) (onlyI (i : Int)) (chooseI (machG s) 1 2)).den), .int .i64 0, .int .i64 0, .int .i64 ((firstI (machG s) (onlyI (i : Int)) (chooseI (machG s) 2 1)).num), .int .i64 ((firstI (machG s) (onlyI (i : Int)) (chooseI (machG s) 2 1)).den), .int .i64 ((firstI (machG s) (onlyI (i : Int)) (chooseI (machG s) 2 2)).num), .int .i64 ((firstI (machG s) (onlyI (i : Int)) (chooseI (machG s) 2 2)).den)]), 18 ≤ 18, (0 : Int) ≤ 1 ∧ (1 : Int) < ((3 : Nat) : Int), (0 : Int) ≤ 1 ∧ (1 : Int) < ((3 : Nat) : Int), (0 : Int) ≤ 2 ∧ (2 : Int) < ((3 : Nat) : Int), (0 : Int) ≤ 1 ∧ (1 : Int) < ((3 : Nat) : Int), g1 = g1, (0 + (v1.length * 4)) = (rowFr2 v1).length, (v1.length + 1) ≤ 2147483648, 0 = 0, InR .i64 ((i : Int) + 1)])
    (hg : G Try.prog E (f55K0 Try.prog) ⟨[J, J, .sl 1 (g1 + 1) 0 (v1.length + 1) 4, J, .rptr [.rsl (rowStg (((machG s).s).stages)) 0 ((((machG s).s).stages).length), .rsl (rowI (((machG s).s).worth)) 0 ((((machG s).s).worth).length), .int .i64 (((machG s).s).price), .rsl (rowI ((machG s).meas)) 0 (((machG s).meas).length), .rsl (rowI ((machG s).mult)) 0 (((machG s).mult).length)] 0, J, J, J, J, J, J, J, J, J, J, J, J, J, J, J, .int .i64 (((((machG s).s).worth).length : Nat) : Int), .int .i64 ((i : Int) + 1), J, J, J, J, J, J, J, J, J, J, J, J, J, J, J, J, J, J, J, J], [⟨true, 0, 1, true, [.rsl (rowStg s.stages) 0 s.stages.length, .rsl (rowI s.worth) 0 s.worth.length, .int .i64 s.price], false⟩, ⟨true, (g1 + 1), 4, true, ((rowFr2 v1) ++ [.int .i64 ((firstI (machG s) (onlyI (i : Int)) (chooseI (machG s) 1 1)).num), .int .i64 ((firstI (machG s) (onlyI (i : Int)) (chooseI (machG s) 1 1)).den), .int .i64 ((firstI (machG s) (onlyI (i : Int)) (chooseI (machG s) 2 1)).num), .int .i64 ((firstI (machG s) (onlyI (i : Int)) (chooseI (machG s) 2 1)).den)]), true⟩]⟩) : G Try.prog E (f55K0 Try.prog) (f55S0 s i v1 g1) :=
  segC_step (n := 400) (ds := []) (cs := []) (live := [2, 4, 20, 21]) (m := 2) (evs := [.b true, .v (.bool (turnsI (machG s) (i : Int))), .b false, .v (.agg [.int .i64 0, .int .i64 0, .int .i64 0, .int .i64 0, .int .i64 0, .int .i64 0, .int .i64 0, .int .i64 0, .int .i64 ((firstI (machG s) (onlyI (i : Int)) (chooseI (machG s) 1 1)).num), .int .i64 ((firstI (machG s) (onlyI (i : Int)) (chooseI (machG s) 1 1)).den), .int .i64 ((firstI (machG s) (onlyI (i : Int)) (chooseI (machG s) 1 2)).num), .int .i64 ((firstI (machG s) (onlyI (i : Int)) (chooseI (machG s) 1 2)).den), .int .i64 0, .int .i64 0, .int .i64 ((firstI (machG s) (onlyI (i : Int)) (chooseI (machG s) 2 1)).num), .int .i64 ((firstI (machG s) (onlyI (i : Int)) (chooseI (machG s) 2 1)).den), .int .i64 ((firstI (machG s) (onlyI (i : Int)) (chooseI (machG s) 2 2)).num), .int .i64 ((firstI (machG s) (onlyI (i : Int)) (chooseI (machG s) 2 2)).den)]), .stop]) (obs := _) hE.2.1 (hE.nogh _) mixed (by kernel_rfl) ho hg
theorem p55_0_2 (s : Stl) (i : Nat) (v1 : List Fr2) (g1 : Nat)  {E : Env} {res : AV} (hE : PureE Try.prog 55 res E) (ho : AllP [(decide ((i : Int) < (((((machG s).s).worth).length : Nat) : Int))) = false, g1 = g1])
    (hr : AvLe (.tup [.rsl (rowFr2 v1) 0 v1.length, .int .i64 0]) res) : G Try.prog E (f55K0 Try.prog) (f55S0 s i v1 g1) :=
  end_stepL (n := 400) (evs := [.b false]) (obs := _) hE Try.func55 mixed (by kernel_rfl) ho hr
theorem f55W0 (s : Stl) (i : Nat) (v1 : List Fr2) {E : Env} {rv : ((List Fr2) × Int)} (hE : PureE Try.prog 55 (.tup [.rsl (rowFr2 rv.1) 0 rv.1.length, .int .i64 rv.2]) E)
    (h : (((i : Int) < (((((machG s).s).worth).length : Nat) : Int) → ((MOk (machG s)) ∧ (((turnsI (machG s) (i : Int)) = true → rv = (([] : List Fr2), 61)) ∧ ((turnsI (machG s) (i : Int)) = false → ((MOk (machG s)) ∧ ((v1.length + 1) ≤ 2147483648 ∧ ((-9223372036854775808 ≤ (i : Int) + 1 ∧ (i : Int) + 1 ≤ 9223372036854775807) ∧ f55G0 E s (i + 1) (v1 ++ [(⟨(firstI (machG s) (onlyI (i : Int)) (chooseI (machG s) 1 1)), (firstI (machG s) (onlyI (i : Int)) (chooseI (machG s) 2 1))⟩ : Fr2)])))))))) ∧ (¬ ((i : Int) < (((((machG s).s).worth).length : Nat) : Int)) → rv = (v1, 0)))) : f55G0 E s i v1 := by
  intro g1
  rcases Bool.eq_false_or_eq_true (decide ((i : Int) < (((((machG s).s).worth).length : Nat) : Int))) with hc0 | hc0
  · have h := h.1 (of_decide_eq_true hc0)
    obtain ⟨h1, h⟩ := h
    rcases Bool.eq_false_or_eq_true (turnsI (machG s) (i : Int)) with hc1 | hc1
    · have h := h.1 hc1
      exact p55_0_0 s i v1 g1  hE ⟨hc0, (pureF_of Try.func105 (by kernel_rfl) f105b (turns1_ok (machG s) (i : Int) h1)), hc1, trivial⟩ (by rw [h]; exact (tup_le ⟨nil_le, ⟨AvLe.of_eq rfl, trivial⟩⟩))
    · have h := h.2 hc1
      obtain ⟨h2, h⟩ := h
      obtain ⟨h3, h⟩ := h
      obtain ⟨q13_2, h⟩ := h
      refine p55_0_1 s i v1 g1  hE ⟨hc0, (pureF_of Try.func105 (by kernel_rfl) f105b (turns1_ok (machG s) (i : Int) h1)), hc1, (pureF_of Try.func106 (by kernel_rfl) f106b (odds4_ok (machG s) (i : Int) h2)), (by decide), (⟨by decide, by decide⟩), (⟨by decide, by decide⟩), (⟨by decide, by decide⟩), (⟨by decide, by decide⟩), rfl, (by have hx := row_len cFr2 (s := 4) (fun _ => rfl) v1; simp only [rowFr2] at hx ⊢; rw [hx]; simp), h3, rfl, q13_2, trivial⟩ ?_
      rw [(show rowFr2 v1 ++ [.int .i64 ((firstI (machG s) (onlyI (i : Int)) (chooseI (machG s) 1 1)).num), .int .i64 ((firstI (machG s) (onlyI (i : Int)) (chooseI (machG s) 1 1)).den), .int .i64 ((firstI (machG s) (onlyI (i : Int)) (chooseI (machG s) 2 1)).num), .int .i64 ((firstI (machG s) (onlyI (i : Int)) (chooseI (machG s) 2 1)).den)] = rowFr2 (v1 ++ [(⟨(firstI (machG s) (onlyI (i : Int)) (chooseI (machG s) 1 1)), (firstI (machG s) (onlyI (i : Int)) (chooseI (machG s) 2 1))⟩ : Fr2)]) from (row_app cFr2 v1 [(⟨(firstI (machG s) (onlyI (i : Int)) (chooseI (machG s) 1 1)), (firstI (machG s) (onlyI (i : Int)) (chooseI (machG s) 2 1))⟩ : Fr2)]).symm)]; rw [(show (v1.length + 1) = (v1 ++ [(⟨(firstI (machG s) (onlyI (i : Int)) (chooseI (machG s) 1 1)), (firstI (machG s) (onlyI (i : Int)) (chooseI (machG s) 2 1))⟩ : Fr2)]).length from by simp)]; exact (h (g1 + 1))
  · have h := h.2 (of_decide_eq_false hc0)
    exact p55_0_2 s i v1 g1  hE ⟨hc0, rfl, trivial⟩ (AvLe.of_eq (by rw [h]; try rfl))

theorem notice_ok (s : Stl) (h : s.stages.length ≤ 9223372036854775807 ∧ s.worth.length ≤ 9223372036854775807) : Pure Try.prog 55 [avStl s] (.tup [.rsl (rowFr2 (noticeK s).1) 0 (noticeK s).1.length, .int .i64 (noticeK s).2]) := pure_of Try.func55 f55b fun E hE => by
  refine f55W s (rv := noticeK s) hE ⟨fun h0 => ⟨h, ?_⟩, fun h0 => ⟨h, ?_⟩⟩
  · have hc := isSome_iff.1 h0
    obtain ⟨hm, es⟩ := mok_G h0
    have hw := worth_len hc
    have key : ∀ (d i : Nat), i + d = s.worth.length → (∀ k : Nat, k < i → turnsI (machG s) (k : Int) = false) → f55G0 E s i (noticeL s i) := by
      intro d
      induction d with
      | zero =>
        intro i hd hall
        refine f55W0 s i _ (rv := noticeK s) hE ⟨fun h => by rw [es] at h; omega, fun _ => ?_⟩
        have hi : i = s.worth.length := by omega
        subst hi
        rw [noticeK, if_pos hc, if_pos (turnsL_zero.2 hall)]
      | succ d ih =>
        intro i hd hall
        refine f55W0 s i _ (rv := noticeK s) hE ⟨fun _ => ⟨hm, fun ht => ?_, fun ht => ⟨hm, by rw [noticeL_len]; omega, by omega, ?_⟩⟩, fun h => by rw [es] at h; omega⟩
        · rw [noticeK, if_pos hc, if_neg]
          intro hz
          have := turnsL_zero.1 hz i (by omega)
          rw [this] at ht; cases ht
        · have nx := ih (i + 1) (by omega) (fun k hk => by
            by_cases e : k = i
            · subst e; exact ht
            · exact hall k (by omega))
          rw [noticeL_snoc] at nx; exact nx
    exact key s.worth.length 0 (by omega) (fun k hk => by omega)
  · rw [noticeK, if_neg (fun h => by rw [isSome_iff.2 h] at h0; cases h0)]

end Go.Proofs.Ytfgmlaeikcfpbaa

namespace Ax
open Go

section
variable {P : Program} {E : Env} {K : List Item} {st : St}

end
end Ax

namespace Go.Proofs.Ytfgmlaeikcfpbaa
open Go Ax
open Go.Proofs

/-! ### What a stage is worth at most -/
/-! ### Ways -/
def wGo (a b : Int) : Int → List Int → List Int
  | c, [] => [c]
  | c, x :: xs => (c + x * b) :: wGo a b (x * a) xs
/-! ### Enough -/
/-- What lies in the new list after 'k' rounds. -/
structure WInv (a b : Int) (w : List Int) (k : Nat) (v : List Int) : Prop where
  len : v.length = w.length + 1
  eq : ∃ c, v[k]? = some c ∧ 0 ≤ c ∧ wGo a b 0 w = v.take k ++ wGo a b c (w.drop k)
  z : ∀ j, k < j → j < v.length → v[j]? = some 0
end Go.Proofs.Ytfgmlaeikcfpbaa

namespace Go.Proofs.Ytfgmlaeikcfpbaa
open Go Ax
open Go.Proofs

theorem getD_ge {l : List Int} {i : Nat} (h : l.length ≤ i) : l.getD i 0 = 0 := by simp [List.getD, List.getElem?_eq_none h]
theorem sumW_mono : ∀ {ts : List Trn} {a b : List Int}, (∀ t ∈ ts, 0 ≤ t.w) → ts.length = a.length → ts.length = b.length → (∀ (k : Nat) (x y : Int), a[k]? = some x → b[k]? = some y → x ≤ y) → sumW ts a ≤ sumW ts b
  | [], a, b, _, _, _, _ => by simp [sumW]
  | t :: ts, [], b, _, h, _, _ => by simp at h
  | t :: ts, a, [], _, _, h, _ => by simp at h
  | t :: ts, x :: a, y :: b, hw, h1, h2, h => by
    simp only [sumW]
    have h3 := Int.mul_le_mul_of_nonneg_left (h 0 x y rfl rfl) (hw t (by simp))
    have h4 := sumW_mono (ts := ts) (a := a) (b := b) (fun u hu => hw u (by simp [hu])) (by simpa using h1) (by simpa using h2) (fun k x y hx hy => h (k + 1) x y (by simpa using hx) (by simpa using hy))
    omega

/-- What is chosen here is worth no more than what is chosen there: so are all stages. -/
theorem val_mono {m : Mch} (hm : MOk m) {w1 w2 : Int → Int} {c1 c2 : Int → List Int → Int} (hw1 : WOk m w1 c1) (hw2 : WOk m w2 c2) (hle : ∀ n : Int, 0 ≤ n → n ≤ (m.s.worth.length : Int) - 1 → w1 n ≤ w2 n)
    (H : ∀ (i : Nat) (x : Stg), m.s.stages[i]? = some x → x.kind ≠ 4 → x.kind ≠ 1 → (∀ (k : Nat) (u v : Int), (nextI m i (valA m w1 c1).1 x.turns)[k]? = some u → (nextI m i (valA m w2 c2).1 x.turns)[k]? = some v → u ≤ v) →
      (nextI m i (valA m w1 c1).1 x.turns).getD (Int.toNat (c1 i (nextI m i (valA m w1 c1).1 x.turns))) 0 ≤ (nextI m i (valA m w2 c2).1 x.turns).getD (Int.toNat (c2 i (nextI m i (valA m w2 c2).1 x.turns))) 0) :
    ∀ (d j : Nat), m.s.stages.length ≤ j + d → (valA m w1 c1).1.getD j 0 ≤ (valA m w2 c2).1.getD j 0 := by
  intro d
  have hf1 := (vfixA hm hw1).fx
  have hf2 := (vfixA hm hw2).fx
  have hp1 := val_okA hm hw1
  have hp2 := val_okA hm hw2
  have hform := (stPre_of hm.st).2.2.2.2
  induction d with
  | zero =>
    intro j hd
    rw [getD_ge (by rw [hp1.l1]; omega), getD_ge (by rw [hp2.l1]; omega)]
    exact Int.le_refl _
  | succ d ih =>
    intro j hd
    rcases Nat.lt_or_ge j m.s.stages.length with hlt | hge
    · have hi : m.s.stages[j]? = some m.s.stages[j] := List.getElem?_eq_getElem hlt
      have hfo := form_of hi (hform j hlt)
      have htt := tot_of hi (hform j hlt)
      have e1 := hf1 j _ (by omega) hi
      have e2 := hf2 j _ (by omega) hi
      have t1 := fun (k : Nat) (t : Trn) hk => fin_turn hm hw1 hi (k := k) (t := t) hk
      have t2 := fun (k : Nat) (t : Trn) hk => fin_turn hm hw2 hi (k := k) (t := t) hk
      have l1 : (nextI m j (valA m w1 c1).1 m.s.stages[j].turns).length = m.s.stages[j].turns.length := by simp [nextI]
      have l2 : (nextI m j (valA m w2 c2).1 m.s.stages[j].turns).length = m.s.stages[j].turns.length := by simp [nextI]
      have hH := H j _ hi
      generalize m.s.stages[j] = x at hi hfo htt e1 e2 t1 t2 l1 l2 hH
      have hN : ∀ (k : Nat) (u v : Int), (nextI m j (valA m w1 c1).1 x.turns)[k]? = some u → (nextI m j (valA m w2 c2).1 x.turns)[k]? = some v → u ≤ v := by
        intro k u v hu hv
        have hkl := (List.getElem?_eq_some_iff.1 hu).1
        have hkt : x.turns[k]? = some (x.turns[k]'(by omega)) := List.getElem?_eq_getElem (by omega)
        obtain ⟨q, r, v1, a1, a2, a3, a4, a5, a6, a7, a8, a9, a10, a11, -⟩ := t1 k _ hkt
        obtain ⟨q', r', v2, b1, b2, b3, b4, -⟩ := t2 k _ hkt
        rw [a1] at b1; cases b1
        rw [a2] at b2; cases b2
        rw [hu] at a4; cases a4
        rw [hv] at b4; cases b4
        have h1 := ih (Int.toNat (x.turns[k]'(by omega)).to) (by omega)
        rw [getD_of a3, getD_of b3] at h1
        exact Int.mul_le_mul_of_nonneg_right h1 a11
      by_cases h4 : x.kind = 4
      · rw [(e1.1 h4).1, (e2.1 h4).1]
        split
        · rename_i hp
          exact hle x.prize hp (by rcases hfo with ⟨-, -, h⟩ | ⟨h, -⟩ <;> omega)
        · omega
      · by_cases h1 : x.kind = 1
        · rw [(e1.2.1 h1).1, (e2.2.1 h1).1]
          exact sumW_mono (fun t ht => (htt.1.2 t ht).1) l1.symm l2.symm hN
        · rw [(e1.2.2 h4 h1).1, (e2.2.2 h4 h1).1, (e1.2.2 h4 h1).2, (e2.2.2 h4 h1).2]
          exact hH h4 h1 hN
    · rw [getD_ge (by rw [hp1.l1]; omega), getD_ge (by rw [hp2.l1]; omega)]
      exact Int.le_refl _

theorem pick_bd {a : Int} {l : List Int} {k : Nat} {u : Int} (hk : l[k]? = some u) : (a = 1 → pickF a l ≤ u) ∧ (a = 2 → u ≤ pickF a l) := by
  have h0 : 0 < l.length := by have := (List.getElem?_eq_some_iff.1 hk).1; omega
  have hm := List.mem_of_getElem? hk
  unfold pickF
  refine ⟨fun h => ?_, fun h => ?_⟩
  · subst h; simp; exact (minI_mem h0).2 u hm
  · subst h; simp; exact (maxI_mem h0).2 u hm
theorem turns_pos {m : Mch} (hm : MOk m) {i : Nat} {x : Stg} (hi : m.s.stages[i]? = some x) (h4 : x.kind ≠ 4) : 0 < x.turns.length := by
  rcases form_of hi ((stPre_of hm.st).2.2.2.2 i (List.getElem?_eq_some_iff.1 hi).1) with ⟨h, -⟩ | ⟨-, -, h, -⟩
  · exact absurd h h4
  · omega
theorem aimAt_of {m : Mch} {pa oa : Int} {i : Nat} {x : Stg} (hi : m.s.stages[i]? = some x) : aimAt m pa oa i = if x.kind = 3 then oa else pa := by
  rw [aimAt, show m.s.stages.getD i ⟨0, 0, []⟩ = x by simp [List.getD, hi]]
theorem next_len {m : Mch} {i : Nat} {v : List Int} {ts : List Trn} : (nextI m i v ts).length = ts.length := by simp [nextI]

/-- A plan is between all for Least and all for Most. -/
theorem plan_low {m : Mch} (hm : MOk m) {w : Int → Int} {plan : List Int} (hw1 : WOk m w (chooseI m 1 1)) (hw2 : WOk m w (fun i _ => planI plan i)) : (valA m w (chooseI m 1 1)).1.getD 0 0 ≤ (valA m w (fun i _ => planI plan i)).1.getD 0 0 := by
  refine val_mono hm hw1 hw2 (fun n _ _ => Int.le_refl _) (fun i x hi h4 h1' hN => ?_) m.s.stages.length 0 (by omega)
  have hpos := turns_pos hm hi h4
  rw [choose_val (by rw [next_len]; exact hpos), aimAt_of hi]
  have hc := hw2.c1 i x (nextI m i (valA m w (fun i _ => planI plan i)).1 x.turns) hi h4 h1' next_len (by rw [next_len]; exact hpos)
  generalize planI plan (i : Int) = c at hc
  have e2 := getD_some (l := nextI m i (valA m w (fun i _ => planI plan i)).1 x.turns) (i := Int.toNat c) hc.2
  have e1 := getD_some (l := nextI m i (valA m w (chooseI m 1 1)).1 x.turns) (i := Int.toNat c) (by rw [next_len]; have := hc.2; rw [next_len] at this; exact this)
  have := hN _ _ _ e1 e2
  have hb := (pick_bd (a := if x.kind = 3 then 1 else 1) e1).1 (by split <;> rfl)
  omega
theorem plan_high {m : Mch} (hm : MOk m) {w : Int → Int} {plan : List Int} (hw1 : WOk m w (chooseI m 2 2)) (hw2 : WOk m w (fun i _ => planI plan i)) : (valA m w (fun i _ => planI plan i)).1.getD 0 0 ≤ (valA m w (chooseI m 2 2)).1.getD 0 0 := by
  refine val_mono hm hw2 hw1 (fun n _ _ => Int.le_refl _) (fun i x hi h4 h1' hN => ?_) m.s.stages.length 0 (by omega)
  have hpos := turns_pos hm hi h4
  rw [choose_val (by rw [next_len]; exact hpos), aimAt_of hi]
  have hc := hw2.c1 i x (nextI m i (valA m w (fun i _ => planI plan i)).1 x.turns) hi h4 h1' next_len (by rw [next_len]; exact hpos)
  generalize planI plan (i : Int) = c at hc
  have e2 := getD_some (l := nextI m i (valA m w (fun i _ => planI plan i)).1 x.turns) (i := Int.toNat c) hc.2
  have e1 := getD_some (l := nextI m i (valA m w (chooseI m 2 2)).1 x.turns) (i := Int.toNat c) (by rw [next_len]; have := hc.2; rw [next_len] at this; exact this)
  have := hN _ _ _ e2 e1
  have hb := (pick_bd (a := if x.kind = 3 then 2 else 2) e1).2 (by split <;> rfl)
  omega
theorem choice_plan {m : Mch} (hm : MOk m) {w : Int → Int} {p o : Int} (hw : WOk m w (chooseI m p o)) : planOk m.s (valA m w (chooseI m p o)).2 = true := by
  have hp := val_okA hm hw
  have hf := (vfixA hm hw).fx
  simp only [planOk, hp.l2, decide_true, Bool.true_and]
  refine List.all_eq_true.2 fun j hj => ?_
  have hj := List.mem_range.1 hj
  have hi : m.s.stages[j]? = some m.s.stages[j] := List.getElem?_eq_getElem hj
  rw [show m.s.stages.getD j ⟨0, 0, []⟩ = m.s.stages[j] by simp [List.getD, hi]]
  have e := hf j _ (by omega) hi
  have hfo := form_of hi ((stPre_of hm.st).2.2.2.2 j hj)
  have hpos := turns_pos hm hi
  generalize m.s.stages[j] = x at hi e hfo hpos
  refine within_iff.2 ?_
  unfold planMost
  by_cases h4 : x.kind = 4
  · rw [(e.1 h4).2, if_neg (by omega)]; omega
  · by_cases h1 : x.kind = 1
    · rw [(e.2.1 h1).2, if_neg (by omega)]; omega
    · rw [(e.2.2 h4 h1).2, if_pos (by rcases hfo with ⟨h, -⟩ | ⟨h, -⟩ <;> omega)]
      have hc := hw.c1 j x (nextI m j (valA m w (chooseI m p o)).1 x.turns) hi h4 h1 next_len (by rw [next_len]; exact hpos h4)
      have := hc.2
      rw [next_len] at this
      omega
/-! ### Fractions in parts of the measure -/
def FrV (s : Stl) (a : Fr) : Int := a.num * Int.tdiv (meas0I s) a.den
structure FrOk (s : Stl) (a : Fr) : Prop where
  pos : 0 < a.den
  dvd : a.den ∣ meas0I s
  bd : -100000000000000000 ≤ FrV s a ∧ FrV s a ≤ 100000000000000000
theorem fr_of {s : Stl} (hc : checkK s = 0) {v : Int} (hv : -100000000000000000 ≤ v ∧ v ≤ 100000000000000000) : FrOk s (fracI v (meas0I s)) ∧ FrV s (fracI v (meas0I s)) = v := by
  have hu := (gainV_bd (pa := 1) (oa := 1) hc).2
  obtain ⟨g, hg, e1, e2, e3⟩ := frac_parts (v := v) hu.1
  have e4 : Int.tdiv (meas0I s) (fracI v (meas0I s)).den = g := by
    have : Int.tdiv (g * (fracI v (meas0I s)).den) (fracI v (meas0I s)).den = g := Int.mul_tdiv_cancel _ (by omega)
    rwa [← e2] at this
  have e5 : FrV s (fracI v (meas0I s)) = v := by rw [FrV, e4, Int.mul_comm, ← e1]
  exact ⟨⟨e3, ⟨g, by rw [Int.mul_comm]; exact e2⟩, by rw [e5]; exact hv⟩, e5⟩
theorem first_fr {s : Stl} (hc : checkK s = 0) {w : Int → Int} {ch : Int → List Int → Int} (hw : WOk (machG s) w ch) : FrOk s (firstI (machG s) w ch) ∧ FrV s (firstI (machG s) w ch) = (valA (machG s) w ch).1.getD 0 0 := by
  obtain ⟨v, hv, hb⟩ := val0 (mok_G (isSome_of hc)).1 hw
  have := fr_of hc (v := v) (by omega)
  rw [firstI, getD_of hv]
  exact this
def mixI (s : Stl) (o p : List Int) : List Int := (List.range s.stages.length).map fun i => if (s.stages.getD i ⟨0, 0, []⟩).kind = 3 then o.getD i 0 else p.getD i 0
theorem mixI_at {s : Stl} {o p : List Int} {i : Nat} (h : i < s.stages.length) : (mixI s o p)[i]? = some (if (s.stages.getD i ⟨0, 0, []⟩).kind = 3 then o.getD i 0 else p.getD i 0) := by
  rw [mixI, List.getElem?_map, List.getElem?_range h]; rfl
theorem mixI_len {s : Stl} {o p : List Int} : (mixI s o p).length = s.stages.length := by simp [mixI]
theorem f23b : Try.f23.body = some (bodyAt Try.prog 23) := by kernel_rfl
theorem p23_start_0 (s : Stl) (a : Fr) (b : Fr)   {E : Env} {res : AV} (hE : PureE Try.prog 23 res E) (ho : AllP [PureF Try.prog (.clos 51 [] []) [.agg [.rsl (rowStg s.stages) 0 s.stages.length, .rsl (rowI s.worth) 0 s.worth.length, .int .i64 s.price]] (.tup [.rsl (rowI ((measR (measA s)).1)) 0 (((measR (measA s)).1).length), .bool ((measR (measA s)).2)]), (!(measR (measA s)).2) = true, true = true, true = true, true = true])
    (hr : AvLe (.bool false) res) : G Try.prog E [.code (bodyAt Try.prog 23)] ⟨[.agg [.rsl (rowStg s.stages) 0 s.stages.length, .rsl (rowI s.worth) 0 s.worth.length, .int .i64 s.price], .agg [.int .i64 a.num, .int .i64 a.den], .agg [.int .i64 b.num, .int .i64 b.den]] ++ unds (Try.f23.ntmps - 3), []⟩ :=
  end_stepL (n := 400) (evs := [.v (.tup [.rsl (rowI ((measR (measA s)).1)) 0 (((measR (measA s)).1).length), .bool ((measR (measA s)).2)]), .b true, .b true, .b true, .b true]) (obs := _) hE Try.func23 mixed (by kernel_rfl) ho hr
theorem p23_start_1 (s : Stl) (a : Fr) (b : Fr)   {E : Env} {res : AV} (hE : PureE Try.prog 23 res E) (ho : AllP [PureF Try.prog (.clos 51 [] []) [.agg [.rsl (rowStg s.stages) 0 s.stages.length, .rsl (rowI s.worth) 0 s.worth.length, .int .i64 s.price]] (.tup [.rsl (rowI ((measR (measA s)).1)) 0 (((measR (measA s)).1).length), .bool ((measR (measA s)).2)]), (!(measR (measA s)).2) = false, (((((measR (measA s)).1).length : Nat) : Int) == 0) = true, true = true, true = true])
    (hr : AvLe (.bool false) res) : G Try.prog E [.code (bodyAt Try.prog 23)] ⟨[.agg [.rsl (rowStg s.stages) 0 s.stages.length, .rsl (rowI s.worth) 0 s.worth.length, .int .i64 s.price], .agg [.int .i64 a.num, .int .i64 a.den], .agg [.int .i64 b.num, .int .i64 b.den]] ++ unds (Try.f23.ntmps - 3), []⟩ :=
  end_stepL (n := 400) (evs := [.v (.tup [.rsl (rowI ((measR (measA s)).1)) 0 (((measR (measA s)).1).length), .bool ((measR (measA s)).2)]), .b false, .b true, .b true, .b true]) (obs := _) hE Try.func23 mixed (by kernel_rfl) ho hr
theorem p23_start_2 (s : Stl) (a : Fr) (b : Fr)   {E : Env} {res : AV} (hE : PureE Try.prog 23 res E) (ho : AllP [PureF Try.prog (.clos 51 [] []) [.agg [.rsl (rowStg s.stages) 0 s.stages.length, .rsl (rowI s.worth) 0 s.worth.length, .int .i64 s.price]] (.tup [.rsl (rowI ((measR (measA s)).1)) 0 (((measR (measA s)).1).length), .bool ((measR (measA s)).2)]), (!(measR (measA s)).2) = false, (((((measR (measA s)).1).length : Nat) : Int) == 0) = false, (0 : Int) ≤ 1 ∧ (1 : Int) < ((2 : Nat) : Int), (decide (a.den < 1)) = true, true = true])
    (hr : AvLe (.bool false) res) : G Try.prog E [.code (bodyAt Try.prog 23)] ⟨[.agg [.rsl (rowStg s.stages) 0 s.stages.length, .rsl (rowI s.worth) 0 s.worth.length, .int .i64 s.price], .agg [.int .i64 a.num, .int .i64 a.den], .agg [.int .i64 b.num, .int .i64 b.den]] ++ unds (Try.f23.ntmps - 3), []⟩ :=
  end_stepL (n := 400) (evs := [.v (.tup [.rsl (rowI ((measR (measA s)).1)) 0 (((measR (measA s)).1).length), .bool ((measR (measA s)).2)]), .b false, .b false, .b true, .b true]) (obs := _) hE Try.func23 mixed (by kernel_rfl) ho hr
theorem p23_start_3 (s : Stl) (a : Fr) (b : Fr)   {E : Env} {res : AV} (hE : PureE Try.prog 23 res E) (ho : AllP [PureF Try.prog (.clos 51 [] []) [.agg [.rsl (rowStg s.stages) 0 s.stages.length, .rsl (rowI s.worth) 0 s.worth.length, .int .i64 s.price]] (.tup [.rsl (rowI ((measR (measA s)).1)) 0 (((measR (measA s)).1).length), .bool ((measR (measA s)).2)]), (!(measR (measA s)).2) = false, (((((measR (measA s)).1).length : Nat) : Int) == 0) = false, (0 : Int) ≤ 1 ∧ (1 : Int) < ((2 : Nat) : Int), (decide (a.den < 1)) = false, (0 : Int) ≤ 1 ∧ (1 : Int) < ((2 : Nat) : Int), (decide (b.den < 1)) = true])
    (hr : AvLe (.bool false) res) : G Try.prog E [.code (bodyAt Try.prog 23)] ⟨[.agg [.rsl (rowStg s.stages) 0 s.stages.length, .rsl (rowI s.worth) 0 s.worth.length, .int .i64 s.price], .agg [.int .i64 a.num, .int .i64 a.den], .agg [.int .i64 b.num, .int .i64 b.den]] ++ unds (Try.f23.ntmps - 3), []⟩ :=
  end_stepL (n := 400) (evs := [.v (.tup [.rsl (rowI ((measR (measA s)).1)) 0 (((measR (measA s)).1).length), .bool ((measR (measA s)).2)]), .b false, .b false, .b false, .b true]) (obs := _) hE Try.func23 mixed (by kernel_rfl) ho hr
theorem p23_start_4 (s : Stl) (a : Fr) (b : Fr)  (e : Int)  {E : Env} {res : AV} (hE : PureE Try.prog 23 res E) (ho : AllP [PureF Try.prog (.clos 51 [] []) [.agg [.rsl (rowStg s.stages) 0 s.stages.length, .rsl (rowI s.worth) 0 s.worth.length, .int .i64 s.price]] (.tup [.rsl (rowI ((measR (measA s)).1)) 0 (((measR (measA s)).1).length), .bool ((measR (measA s)).2)]), (!(measR (measA s)).2) = false, (((((measR (measA s)).1).length : Nat) : Int) == 0) = false, (0 : Int) ≤ 1 ∧ (1 : Int) < ((2 : Nat) : Int), (decide (a.den < 1)) = false, (0 : Int) ≤ 1 ∧ (1 : Int) < ((2 : Nat) : Int), (decide (b.den < 1)) = false, (0 : Int) ≤ 0 ∧ (0 : Int) < ((2 : Nat) : Int), (0 : Int) ≤ 0 ∧ (0 : Int) < ((((measR (measA s)).1).length : Nat) : Int), ((rowI ((measR (measA s)).1)).drop (0 + 0 * 1)).take 1 = [.int .i64 e], (0 : Int) ≤ 1 ∧ (1 : Int) < ((2 : Nat) : Int), InR .i64 (Int.tdiv e a.den), a.den ≠ 0, InR .i64 (a.num * (Int.tdiv e a.den)), (0 : Int) ≤ 0 ∧ (0 : Int) < ((2 : Nat) : Int), (0 : Int) ≤ 0 ∧ (0 : Int) < ((((measR (measA s)).1).length : Nat) : Int), ((rowI ((measR (measA s)).1)).drop (0 + 0 * 1)).take 1 = [.int .i64 e], (0 : Int) ≤ 1 ∧ (1 : Int) < ((2 : Nat) : Int), InR .i64 (Int.tdiv e b.den), b.den ≠ 0, InR .i64 (b.num * (Int.tdiv e b.den))])
    (hr : AvLe (.bool (decide ((a.num * (Int.tdiv e a.den)) < (b.num * (Int.tdiv e b.den))))) res) : G Try.prog E [.code (bodyAt Try.prog 23)] ⟨[.agg [.rsl (rowStg s.stages) 0 s.stages.length, .rsl (rowI s.worth) 0 s.worth.length, .int .i64 s.price], .agg [.int .i64 a.num, .int .i64 a.den], .agg [.int .i64 b.num, .int .i64 b.den]] ++ unds (Try.f23.ntmps - 3), []⟩ :=
  end_stepL (n := 400) (evs := [.v (.tup [.rsl (rowI ((measR (measA s)).1)) 0 (((measR (measA s)).1).length), .bool ((measR (measA s)).2)]), .b false, .b false, .b false, .b false, .auto, .ld (.int .i64 e), .auto, .auto, .ld (.int .i64 e)]) (obs := _) hE Try.func23 mixed (by kernel_rfl) ho hr
theorem f23W (s : Stl) (a : Fr) (b : Fr) {E : Env} {rv : Bool} (hE : PureE Try.prog 23 (.bool rv) E)
    (h : ((s.stages.length ≤ 1000000 ∧ ∀ i, i < s.stages.length → formI s i = true) ∧ (((!(measR (measA s)).2) = true → rv = false) ∧ ((!(measR (measA s)).2) = false → ((((((measR (measA s)).1).length : Nat) : Int) = 0 → rv = false) ∧ (¬ (((((measR (measA s)).1).length : Nat) : Int) = 0) → ((a.den < 1 → rv = false) ∧ (¬ (a.den < 1) → ((b.den < 1 → rv = false) ∧ (¬ (b.den < 1) → (∃ e : Int, ((measR (measA s)).1)[0]? = some e ∧ ((-9223372036854775808 ≤ Int.tdiv e a.den ∧ Int.tdiv e a.den ≤ 9223372036854775807) ∧ (a.den ≠ 0 ∧ ((-9223372036854775808 ≤ a.num * (Int.tdiv e a.den) ∧ a.num * (Int.tdiv e a.den) ≤ 9223372036854775807) ∧ ((-9223372036854775808 ≤ Int.tdiv e b.den ∧ Int.tdiv e b.den ≤ 9223372036854775807) ∧ (b.den ≠ 0 ∧ ((-9223372036854775808 ≤ b.num * (Int.tdiv e b.den) ∧ b.num * (Int.tdiv e b.den) ≤ 9223372036854775807) ∧ rv = (decide ((a.num * (Int.tdiv e a.den)) < (b.num * (Int.tdiv e b.den))))))))))))))))))))) : G Try.prog E [.code (bodyAt Try.prog 23)] ⟨[.agg [.rsl (rowStg s.stages) 0 s.stages.length, .rsl (rowI s.worth) 0 s.worth.length, .int .i64 s.price], .agg [.int .i64 a.num, .int .i64 a.den], .agg [.int .i64 b.num, .int .i64 b.den]] ++ unds (Try.f23.ntmps - 3), []⟩ := by
  obtain ⟨h1, h⟩ := h
  rcases Bool.eq_false_or_eq_true (!(measR (measA s)).2) with hc0 | hc0
  · have h := h.1 hc0
    exact p23_start_0 s a b    hE ⟨(pureF_of Try.func51 (by kernel_rfl) f51b (measures_ok s h1)), hc0, rfl, rfl, rfl, trivial⟩ (AvLe.of_eq (by rw [h]; try rfl))
  · have h := h.2 hc0
    rcases Bool.eq_false_or_eq_true (((((measR (measA s)).1).length : Nat) : Int) == 0) with hc1 | hc1
    · have h := h.1 (eq_of_beq hc1)
      exact p23_start_1 s a b    hE ⟨(pureF_of Try.func51 (by kernel_rfl) f51b (measures_ok s h1)), hc0, hc1, rfl, rfl, trivial⟩ (AvLe.of_eq (by rw [h]; try rfl))
    · have h := h.2 (ne_of_beq_false hc1)
      rcases Bool.eq_false_or_eq_true (decide (a.den < 1)) with hc2 | hc2
      · have h := h.1 (of_decide_eq_true hc2)
        exact p23_start_2 s a b    hE ⟨(pureF_of Try.func51 (by kernel_rfl) f51b (measures_ok s h1)), hc0, hc1, (⟨by decide, by decide⟩), hc2, rfl, trivial⟩ (AvLe.of_eq (by rw [h]; try rfl))
      · have h := h.2 (of_decide_eq_false hc2)
        rcases Bool.eq_false_or_eq_true (decide (b.den < 1)) with hc3 | hc3
        · have h := h.1 (of_decide_eq_true hc3)
          exact p23_start_3 s a b    hE ⟨(pureF_of Try.func51 (by kernel_rfl) f51b (measures_ok s h1)), hc0, hc1, (⟨by decide, by decide⟩), hc2, (⟨by decide, by decide⟩), hc3, trivial⟩ (AvLe.of_eq (by rw [h]; try rfl))
        · have h := h.2 (of_decide_eq_false hc3)
          obtain ⟨e, h2, h⟩ := h
          obtain ⟨q12_4, h⟩ := h
          obtain ⟨q13_4, h⟩ := h
          obtain ⟨q14_4, h⟩ := h
          obtain ⟨q19_4, h⟩ := h
          obtain ⟨q20_4, h⟩ := h
          obtain ⟨q21_4, h⟩ := h
          exact p23_start_4 s a b   e hE ⟨(pureF_of Try.func51 (by kernel_rfl) f51b (measures_ok s h1)), hc0, hc1, (⟨by decide, by decide⟩), hc2, (⟨by decide, by decide⟩), hc3, (⟨by decide, by decide⟩), (idx_ok h2), (row_part cI (s := 1) (k := 0) (m := 1) (fun _ => rfl) (by decide) h2), (⟨by decide, by decide⟩), q12_4, q13_4, q14_4, (⟨by decide, by decide⟩), (idx_ok h2), (row_part cI (s := 1) (k := 0) (m := 1) (fun _ => rfl) (by decide) h2), (⟨by decide, by decide⟩), q19_4, q20_4, q21_4, trivial⟩ (AvLe.of_eq (by rw [h]; try rfl))
theorem f59b : Try.f59.body = some (bodyAt Try.prog 59) := by kernel_rfl
def f59K0 (P : Program) : List Item := kAt 400 [.code (bodyAt P 59)] [.stop]
def f59S0 (s : Stl) (o : (List Int)) (p : (List Int)) (v1 : List Int) (i : Nat) (g1 : Nat) : St := ⟨[J, .rsl (rowI o) 0 o.length, .rsl (rowI p) 0 p.length, .ptr 0 0 0, J, J, J, .sl 1 g1 0 v1.length 1, .int .i64 (i : Int), J, J, J, J, J, J, J, J, J, J, J, J, J, J, J, J, J, J, J, J, J, J, J, J, J, J, J, J, J, J, J, J, J, J, J, J, J, J, J, J, J, J, J, J], [⟨true, 0, 1, true, [.rsl (rowStg s.stages) 0 s.stages.length, .rsl (rowI s.worth) 0 s.worth.length, .int .i64 s.price], false⟩, ⟨true, g1, 1, true, (rowI v1), true⟩]⟩
def f59G0 (E : Env) (s : Stl) (o : (List Int)) (p : (List Int)) (v1 : List Int) (i : Nat) : Prop := ∀ g1 : Nat, G Try.prog E (f59K0 Try.prog) (f59S0 s o p v1 i g1)
theorem p59_start_0 (s : Stl) (o : (List Int)) (p : (List Int))   {E : Env} {rv : AV} (hE : PureE Try.prog 59 rv E) (ho : AllP [0 ≤ (s.stages.length : Int) ∧ (s.stages.length : Int) ≤ (s.stages.length : Int) ∧ (s.stages.length : Int) ≤ 2147483648])
    (hg : G Try.prog E (f59K0 Try.prog) ⟨[J, .rsl (rowI o) 0 o.length, .rsl (rowI p) 0 p.length, .ptr 0 0 0, J, J, J, .sl 1 0 0 (Int.toNat (s.stages.length : Int)) 1, .int .i64 0, J, J, J, J, J, J, J, J, J, J, J, J, J, J, J, J, J, J, J, J, J, J, J, J, J, J, J, J, J, J, J, J, J, J, J, J, J, J, J, J, J, J, J, J], [⟨true, 0, 1, true, [.rsl (rowStg s.stages) 0 s.stages.length, .rsl (rowI s.worth) 0 s.worth.length, .int .i64 s.price], false⟩, ⟨true, 0, 1, true, ((List.replicate (Int.toNat (s.stages.length : Int)) ([.int .i64 0] : List AV)).flatten), true⟩]⟩) : G Try.prog E [.code (bodyAt Try.prog 59)] ⟨[.agg [.rsl (rowStg s.stages) 0 s.stages.length, .rsl (rowI s.worth) 0 s.worth.length, .int .i64 s.price], .rsl (rowI o) 0 o.length, .rsl (rowI p) 0 p.length] ++ unds (Try.f59.ntmps - 3), []⟩ :=
  segC_step (n := 400) (ds := []) (cs := []) (live := [1, 2, 3, 7, 8]) (m := 2) (evs := [.stop]) (obs := _) hE.2.1 (hE.nogh _) mixed (by kernel_rfl) ho hg
theorem f59W (s : Stl) (o : (List Int)) (p : (List Int)) {E : Env} {rv : (List Int)} (hE : PureE Try.prog 59 (.rsl (rowI rv) 0 rv.length) E)
    (h : (s.stages.length ≤ 2147483648 ∧ f59G0 E s o p (List.replicate s.stages.length (0 : Int)) 0)) : G Try.prog E [.code (bodyAt Try.prog 59)] ⟨[.agg [.rsl (rowStg s.stages) 0 s.stages.length, .rsl (rowI s.worth) 0 s.worth.length, .int .i64 s.price], .rsl (rowI o) 0 o.length, .rsl (rowI p) 0 p.length] ++ unds (Try.f59.ntmps - 3), []⟩ := by
  obtain ⟨h1, h⟩ := h
  refine p59_start_0 s o p    hE ⟨⟨by omega, by omega, by have := h1; omega⟩, trivial⟩ ?_
  have h := (h 0)
  simp only [f59G0, f59S0, List.length_set, List.length_replicate] at h
  rw [(show (List.replicate (Int.toNat (s.stages.length : Int)) ([.int .i64 0] : List AV)).flatten = rowI (List.replicate s.stages.length (0 : Int)) from row_rep cI _ _)]
  exact h
theorem p59_0_0 (s : Stl) (o : (List Int)) (p : (List Int)) (v1 : List Int) (i : Nat) (g1 : Nat) (e : Int) (e1 : Int) (se : Stg) (e2 : Int) (e3 : Int)  {E : Env} {rv : AV} (hE : PureE Try.prog 59 rv E) (ho : AllP [g1 = g1, (decide ((i : Int) < (v1.length : Int))) = true, (decide ((i : Int) < (p.length : Int))) = true, (decide ((i : Int) < (o.length : Int))) = true, 0 ≤ (i : Int) ∧ (i : Int) < (p.length : Int), ((rowI p).drop (0 + (Int.toNat (i : Int)) * 1)).take 1 = [.int .i64 e], 0 ≤ (i : Int) ∧ (i : Int) < (v1.length : Int), g1 = g1, ((0 + (Int.toNat (i : Int)) * 1) + 1) ≤ (rowI v1).length, g1 = g1, 0 ≤ (i : Int) ∧ (i : Int) < (s.stages.length : Int), ((rowStg s.stages).drop ((0 + (Int.toNat (i : Int)) * 3) + 0)).take 1 = [.int .i64 se.kind], (se.kind == 3) = true, 0 ≤ (i : Int) ∧ (i : Int) < (o.length : Int), ((rowI o).drop (0 + (Int.toNat (i : Int)) * 1)).take 1 = [.int .i64 e2], 0 ≤ (i : Int) ∧ (i : Int) < (v1.length : Int), g1 = g1, ((0 + (Int.toNat (i : Int)) * 1) + 1) ≤ (setAt (rowI v1) (0 + (Int.toNat (i : Int)) * 1) [.int .i64 e]).length, g1 = g1, InR .i64 ((i : Int) + 1)])
    (hg : G Try.prog E (f59K0 Try.prog) ⟨[J, .rsl (rowI o) 0 o.length, .rsl (rowI p) 0 p.length, .ptr 0 0 0, J, J, J, .sl 1 g1 0 v1.length 1, .int .i64 ((i : Int) + 1), J, J, J, J, J, J, J, J, J, J, J, J, J, J, J, J, J, J, J, J, J, J, J, J, J, J, J, J, J, J, J, J, J, J, J, J, J, J, J, J, J, J, J, J], [⟨true, 0, 1, true, [.rsl (rowStg s.stages) 0 s.stages.length, .rsl (rowI s.worth) 0 s.worth.length, .int .i64 s.price], false⟩, ⟨true, g1, 1, true, (setAt (setAt (rowI v1) (0 + (Int.toNat (i : Int)) * 1) [.int .i64 e]) (0 + (Int.toNat (i : Int)) * 1) [.int .i64 e2]), true⟩]⟩) : G Try.prog E (f59K0 Try.prog) (f59S0 s o p v1 i g1) :=
  segC_step (n := 400) (ds := []) (cs := []) (live := [1, 2, 3, 7, 8]) (m := 2) (evs := [.b true, .b true, .b true, .ld (.int .i64 e), .auto, .ld (.int .i64 se.kind), .b true, .ld (.int .i64 e2), .stop]) (obs := _) hE.2.1 (hE.nogh _) mixed (by kernel_rfl) ho hg
theorem p59_0_1 (s : Stl) (o : (List Int)) (p : (List Int)) (v1 : List Int) (i : Nat) (g1 : Nat) (e : Int) (e1 : Int) (se : Stg)  {E : Env} {rv : AV} (hE : PureE Try.prog 59 rv E) (ho : AllP [g1 = g1, (decide ((i : Int) < (v1.length : Int))) = true, (decide ((i : Int) < (p.length : Int))) = true, (decide ((i : Int) < (o.length : Int))) = true, 0 ≤ (i : Int) ∧ (i : Int) < (p.length : Int), ((rowI p).drop (0 + (Int.toNat (i : Int)) * 1)).take 1 = [.int .i64 e], 0 ≤ (i : Int) ∧ (i : Int) < (v1.length : Int), g1 = g1, ((0 + (Int.toNat (i : Int)) * 1) + 1) ≤ (rowI v1).length, g1 = g1, 0 ≤ (i : Int) ∧ (i : Int) < (s.stages.length : Int), ((rowStg s.stages).drop ((0 + (Int.toNat (i : Int)) * 3) + 0)).take 1 = [.int .i64 se.kind], (se.kind == 3) = false, InR .i64 ((i : Int) + 1)])
    (hg : G Try.prog E (f59K0 Try.prog) ⟨[J, .rsl (rowI o) 0 o.length, .rsl (rowI p) 0 p.length, .ptr 0 0 0, J, J, J, .sl 1 g1 0 v1.length 1, .int .i64 ((i : Int) + 1), J, J, J, J, J, J, J, J, J, J, J, J, J, J, J, J, J, J, J, J, J, J, J, J, J, J, J, J, J, J, J, J, J, J, J, J, J, J, J, J, J, J, J, J], [⟨true, 0, 1, true, [.rsl (rowStg s.stages) 0 s.stages.length, .rsl (rowI s.worth) 0 s.worth.length, .int .i64 s.price], false⟩, ⟨true, g1, 1, true, (setAt (rowI v1) (0 + (Int.toNat (i : Int)) * 1) [.int .i64 e]), true⟩]⟩) : G Try.prog E (f59K0 Try.prog) (f59S0 s o p v1 i g1) :=
  segC_step (n := 400) (ds := []) (cs := []) (live := [1, 2, 3, 7, 8]) (m := 2) (evs := [.b true, .b true, .b true, .ld (.int .i64 e), .auto, .ld (.int .i64 se.kind), .b false, .stop]) (obs := _) hE.2.1 (hE.nogh _) mixed (by kernel_rfl) ho hg
theorem p59_0_2 (s : Stl) (o : (List Int)) (p : (List Int)) (v1 : List Int) (i : Nat) (g1 : Nat)  {E : Env} {res : AV} (hE : PureE Try.prog 59 res E) (ho : AllP [g1 = g1, (decide ((i : Int) < (v1.length : Int))) = true, (decide ((i : Int) < (p.length : Int))) = true, (decide ((i : Int) < (o.length : Int))) = false, g1 = g1])
    (hr : AvLe (.rsl (rowI v1) 0 v1.length) res) : G Try.prog E (f59K0 Try.prog) (f59S0 s o p v1 i g1) :=
  end_stepL (n := 400) (evs := [.b true, .b true, .b false]) (obs := _) hE Try.func59 mixed (by kernel_rfl) ho hr
theorem p59_0_3 (s : Stl) (o : (List Int)) (p : (List Int)) (v1 : List Int) (i : Nat) (g1 : Nat)  {E : Env} {res : AV} (hE : PureE Try.prog 59 res E) (ho : AllP [g1 = g1, (decide ((i : Int) < (v1.length : Int))) = true, (decide ((i : Int) < (p.length : Int))) = false, false = false, g1 = g1])
    (hr : AvLe (.rsl (rowI v1) 0 v1.length) res) : G Try.prog E (f59K0 Try.prog) (f59S0 s o p v1 i g1) :=
  end_stepL (n := 400) (evs := [.b true, .b false, .b false]) (obs := _) hE Try.func59 mixed (by kernel_rfl) ho hr
theorem p59_0_4 (s : Stl) (o : (List Int)) (p : (List Int)) (v1 : List Int) (i : Nat) (g1 : Nat)  {E : Env} {res : AV} (hE : PureE Try.prog 59 res E) (ho : AllP [g1 = g1, (decide ((i : Int) < (v1.length : Int))) = false, false = false, false = false, g1 = g1])
    (hr : AvLe (.rsl (rowI v1) 0 v1.length) res) : G Try.prog E (f59K0 Try.prog) (f59S0 s o p v1 i g1) :=
  end_stepL (n := 400) (evs := [.b false, .b false, .b false]) (obs := _) hE Try.func59 mixed (by kernel_rfl) ho hr
theorem f59W0 (s : Stl) (o : (List Int)) (p : (List Int)) (v1 : List Int) (i : Nat) {E : Env} {rv : (List Int)} (hE : PureE Try.prog 59 (.rsl (rowI rv) 0 rv.length) E)
    (h : (((i : Int) < (v1.length : Int) → (((i : Int) < (p.length : Int) → (((i : Int) < (o.length : Int) → (∃ e : Int, p[i]? = some e ∧ (∃ e1 : Int, v1[i]? = some e1 ∧ (∃ se : Stg, s.stages[i]? = some se ∧ ((se.kind = 3 → (∃ e2 : Int, o[i]? = some e2 ∧ (∃ e3 : Int, (v1.set i e)[i]? = some e3 ∧ ((-9223372036854775808 ≤ (i : Int) + 1 ∧ (i : Int) + 1 ≤ 9223372036854775807) ∧ f59G0 E s o p ((v1.set i e).set i e2) (i + 1))))) ∧ (¬ (se.kind = 3) → ((-9223372036854775808 ≤ (i : Int) + 1 ∧ (i : Int) + 1 ≤ 9223372036854775807) ∧ f59G0 E s o p (v1.set i e) (i + 1)))))))) ∧ (¬ ((i : Int) < (o.length : Int)) → rv = v1))) ∧ (¬ ((i : Int) < (p.length : Int)) → rv = v1))) ∧ (¬ ((i : Int) < (v1.length : Int)) → rv = v1))) : f59G0 E s o p v1 i := by
  intro g1
  rcases Bool.eq_false_or_eq_true (decide ((i : Int) < (v1.length : Int))) with hc0 | hc0
  · have h := h.1 (of_decide_eq_true hc0)
    rcases Bool.eq_false_or_eq_true (decide ((i : Int) < (p.length : Int))) with hc1 | hc1
    · have h := h.1 (of_decide_eq_true hc1)
      rcases Bool.eq_false_or_eq_true (decide ((i : Int) < (o.length : Int))) with hc2 | hc2
      · have h := h.1 (of_decide_eq_true hc2)
        obtain ⟨e, h1, h⟩ := h
        obtain ⟨e1, h2, h⟩ := h
        obtain ⟨se, h3, h⟩ := h
        rcases Bool.eq_false_or_eq_true (se.kind == 3) with hc3 | hc3
        · have h := h.1 (eq_of_beq hc3)
          obtain ⟨e2, h4, h⟩ := h
          obtain ⟨e3, h5, h⟩ := h
          obtain ⟨q24_4, h⟩ := h
          refine p59_0_0 s o p v1 i g1 e e1 se e2 e3 hE ⟨rfl, hc0, hc1, hc2, (idx_ok h1), (row_part cI (s := 1) (k := 0) (m := 1) (fun _ => rfl) (by decide) h1), (idx_ok h2), rfl, (row_fits cI (s := 1) (k := 0) (m := 1) (fun _ => rfl) (by decide) h2), rfl, (idx_ok h3), (row_part cStg (s := 3) (k := 0) (m := 1) (fun _ => rfl) (by decide) h3), hc3, (idx_ok h4), (row_part cI (s := 1) (k := 0) (m := 1) (fun _ => rfl) (by decide) h4), (by have hx := idx_ok h5; simpa using hx), rfl, (by rw [(show setAt (rowI v1) (0 + (Int.toNat (i : Int)) * 1) [.int .i64 e] = rowI (v1.set i e) from row_set cI (s := 1) (k := 0) (fun _ => rfl) h2 rfl (by first | decide | simp))]; exact row_fits cI (s := 1) (k := 0) (m := 1) (fun _ => rfl) (by decide) h5), rfl, q24_4, trivial⟩ ?_
          have h := (h g1)
          simp only [f59S0, List.length_set] at h
          rw [(show setAt (rowI v1) (0 + (Int.toNat (i : Int)) * 1) [.int .i64 e] = rowI (v1.set i e) from row_set cI (s := 1) (k := 0) (fun _ => rfl) h2 rfl (by first | decide | simp))]; rw [(show setAt (rowI (v1.set i e)) (0 + (Int.toNat (i : Int)) * 1) [.int .i64 e2] = rowI ((v1.set i e).set i e2) from row_set cI (s := 1) (k := 0) (fun _ => rfl) h5 rfl (by first | decide | simp))]
          exact h
        · have h := h.2 (ne_of_beq_false hc3)
          obtain ⟨q16_4, h⟩ := h
          refine p59_0_1 s o p v1 i g1 e e1 se hE ⟨rfl, hc0, hc1, hc2, (idx_ok h1), (row_part cI (s := 1) (k := 0) (m := 1) (fun _ => rfl) (by decide) h1), (idx_ok h2), rfl, (row_fits cI (s := 1) (k := 0) (m := 1) (fun _ => rfl) (by decide) h2), rfl, (idx_ok h3), (row_part cStg (s := 3) (k := 0) (m := 1) (fun _ => rfl) (by decide) h3), hc3, q16_4, trivial⟩ ?_
          have h := (h g1)
          simp only [f59S0, List.length_set] at h
          rw [(show setAt (rowI v1) (0 + (Int.toNat (i : Int)) * 1) [.int .i64 e] = rowI (v1.set i e) from row_set cI (s := 1) (k := 0) (fun _ => rfl) h2 rfl (by first | decide | simp))]
          exact h
      · have h := h.2 (of_decide_eq_false hc2)
        exact p59_0_2 s o p v1 i g1  hE ⟨rfl, hc0, hc1, hc2, rfl, trivial⟩ (AvLe.of_eq (by rw [h]; try rfl))
    · have h := h.2 (of_decide_eq_false hc1)
      exact p59_0_3 s o p v1 i g1  hE ⟨rfl, hc0, hc1, rfl, rfl, trivial⟩ (AvLe.of_eq (by rw [h]; try rfl))
  · have h := h.2 (of_decide_eq_false hc0)
    exact p59_0_4 s o p v1 i g1  hE ⟨rfl, hc0, rfl, rfl, rfl, trivial⟩ (AvLe.of_eq (by rw [h]; try rfl))

theorem less_ok (s : Stl) (a b : Fr) (h : checkK s = 0 ∧ FrOk s a ∧ FrOk s b ∧ FrV s b ≤ FrV s a) : Pure Try.prog 23 [avStl s, .agg [.int .i64 a.num, .int .i64 a.den], .agg [.int .i64 b.num, .int .i64 b.den]] (.bool false) := pure_of Try.func23 f23b fun E hE => by
  obtain ⟨hc, ha, hb, hle⟩ := h
  obtain ⟨hm, es⟩ := mok_G (isSome_of hc)
  have hform := (stPre_of hm.st).2.2.2.2
  have hn := (stPre_of hm.st).1
  rw [es] at hform hn
  have hme := measR_of (isSome_of hc)
  obtain ⟨u, hu, hu1, hu2⟩ := meas0 hm
  have eu : meas0I s = u := getD_of hu
  have p1 := ha.pos
  have p2 := hb.pos
  have b1 := ha.bd
  have b2 := hb.bd
  unfold FrV at b1 b2 hle
  rw [eu] at b1 b2 hle
  have t1 := tdiv_bd (n := u) (g := a.den) (B := 1000000000000) (by omega) (by omega) (by omega)
  have t2 := tdiv_bd (n := u) (g := b.den) (B := 1000000000000) (by omega) (by omega) (by omega)
  have hl : ¬ (((measR (measA s)).1.length : Int) = 0) := by
    rw [hme]
    have := (List.getElem?_eq_some_iff.1 hu).1
    show ¬ (((machG s).meas.length : Int) = 0)
    omega
  refine f23W s a b (rv := false) hE ⟨⟨by omega, hform⟩, fun h => ?_, fun h => ⟨fun h => absurd h hl, fun _ => ⟨fun h => by omega, fun _ => ⟨fun h => by omega, fun _ => ⟨u, by rw [hme]; exact hu, by omega, by omega, by omega, by omega, by omega, by omega, ?_⟩⟩⟩⟩⟩
  · rfl
  · exact (decide_eq_false (by omega)).symm
theorem mixed_ok (s : Stl) (o p : List Int) (h : s.stages.length ≤ 60 ∧ o.length = s.stages.length ∧ p.length = s.stages.length) : Pure Try.prog 59 [avStl s, .rsl (rowI o) 0 o.length, .rsl (rowI p) 0 p.length] (.rsl (rowI (mixI s o p)) 0 (mixI s o p).length) := pure_of Try.func59 f59b fun E hE => by
  have key : ∀ (d i : Nat) (v : List Int), i + d = s.stages.length → v.length = s.stages.length → (∀ j, j < i → v[j]? = (mixI s o p)[j]?) → f59G0 E s o p v i := by
    intro d
    induction d with
    | zero =>
      intro i v hd hl h1
      refine f59W0 s o p v i (rv := mixI s o p) hE ⟨fun h => by omega, fun _ => ?_⟩
      apply List.ext_getElem?
      intro j
      by_cases hj : j < i
      · exact (h1 j hj).symm
      · rw [List.getElem?_eq_none (by rw [mixI_len]; omega), List.getElem?_eq_none (by omega)]
    | succ d ih =>
      intro i v hd hl h1
      have hi : s.stages[i]? = some s.stages[i] := List.getElem?_eq_getElem (by omega)
      have hx : s.stages.getD i ⟨0, 0, []⟩ = s.stages[i] := by simp [List.getD, hi]
      have hm := mixI_at (s := s) (o := o) (p := p) (i := i) (by omega)
      rw [hx] at hm
      generalize s.stages[i] = x at hi hm
      have nx := fun (v' : List Int) (e : v' = v.set i (if x.kind = 3 then o.getD i 0 else p.getD i 0)) => ih (i + 1) v' (by omega) (by rw [e]; simp [hl]) (fun j hj => by
        rw [e]
        by_cases e2 : i = j
        · subst e2; rw [List.getElem?_set_self (by omega), hm]
        · rw [List.getElem?_set_ne e2]; exact h1 j (by omega))
      refine f59W0 s o p v i (rv := mixI s o p) hE ⟨fun _ => ⟨fun _ => ⟨fun _ => ⟨_, getD_some (by omega), _, getD_some (by omega), x, hi, fun h3 => ⟨_, getD_some (by omega), _, List.getElem?_set_self (by omega), by omega, nx _ ?_⟩, fun h3 => ⟨by omega, nx _ ?_⟩⟩, fun h => by omega⟩, fun h => by omega⟩, fun h => by omega⟩
      · rw [if_pos h3, List.set_set]
      · rw [if_neg h3]
  exact f59W s o p (rv := mixI s o p) hE ⟨by omega, key s.stages.length 0 _ (by omega) (by simp) (fun j hj => by omega)⟩

theorem planned_at {s : Stl} {plan : List Int} (he : planE s plan = 0) {k : Int} (h0 : 0 ≤ k) (h1 : k < (s.worth.length : Int)) : (plannedK s plan).1[Int.toNat k]? = some (firstI (machG s) (onlyI k) (fun i _ => planI plan i)) := by
  rw [plannedK, if_pos he, planL, List.getElem?_map, List.getElem?_range (by omega)]
  simp only [Option.map_some, Int.toNat_of_nonneg h0]
theorem checkO_yes {s : Stl} (hc : checkK s = 0) {k p o : Int} (h0 : 0 ≤ k) (h1 : k < (s.worth.length : Int)) (hp : p = 1 ∨ p = 2) (ho : o = 1 ∨ o = 2) : checkO s k p o = 0 := by
  rw [checkO, if_pos hc, if_pos]
  rw [rightO_eq hc, Bool.and_eq_true]
  exact ⟨within_iff.2 ⟨h0, by omega⟩, aims2_iff.2 ⟨hp, ho⟩⟩
end Go.Proofs.Ytfgmlaeikcfpbaa

namespace Go.Proofs.Ytfgmlaeikcfpbaa
open Go Ax
open Go.Proofs

def gF (s : Stl) (p o : Int) : Fr := firstI (machG s) (worthI (machG s)) (chooseI (machG s) p o)
structure GOk (s : Stl) (p o : Int) : Prop where
  k : gainK s p o = ((gF s p o).num, (gF s p o).den, 0)
  ok : FrOk s (gF s p o)
  v : FrV s (gF s p o) = gainV s p o
  nn : 0 ≤ (gF s p o).num
  le : (gF s p o).num ≤ 10000 * (gF s p o).den
  den : 0 < (gF s p o).den ∧ (gF s p o).den ≤ 1000000000000
/-! ### Printed -/
theorem mix_plan {s : Stl} (hc : checkK s = 0) {o p : List Int} (ho : planOk s o = true) (hp : planOk s p = true) : planOk s (mixI s o p) = true := by
  obtain ⟨l1, f1⟩ := planOk_of ho
  obtain ⟨l2, f2⟩ := planOk_of hp
  simp only [planOk, mixI_len, decide_true, Bool.true_and]
  refine List.all_eq_true.2 fun j hj => ?_
  have hj := List.mem_range.1 hj
  have hi : s.stages[j]? = some s.stages[j] := List.getElem?_eq_getElem hj
  have hx : s.stages.getD j ⟨0, 0, []⟩ = s.stages[j] := by simp [List.getD, hi]
  obtain ⟨v1, a1, a2, a3⟩ := f1 j _ hi
  obtain ⟨v2, b1, b2, b3⟩ := f2 j _ hi
  rw [getD_of (mixI_at hj), hx, getD_of a1, getD_of b1]
  split
  · exact within_iff.2 ⟨a2, a3⟩
  · exact within_iff.2 ⟨b2, b3⟩
theorem mix_val {s : Stl} {o p : List Int} {i : Nat} {x : Stg} (hi : s.stages[i]? = some x) : planI (mixI s o p) (i : Int) = if x.kind = 3 then planI o i else planI p i := by
  have hj := (List.getElem?_eq_some_iff.1 hi).1
  have hx : s.stages.getD i ⟨0, 0, []⟩ = x := by simp [List.getD, hi]
  unfold planI
  rw [Int.toNat_natCast, getD_of (mixI_at hj), hx]
/-- Players who follow the choice for 'a' (and operators for another aim), against whatever operators do. -/
theorem mix_high {s : Stl} (hc : checkK s = 0) {kd : Int} {plan : List Int} (hp : planOk s plan = true) :
    oddV (machG s) kd 2 1 ≤ (valA (machG s) (onlyI kd) (fun i _ => planI (mixI s plan (valA (machG s) (onlyI kd) (chooseI (machG s) 2 1)).2) i)).1.getD 0 0 := by
  obtain ⟨hm, es⟩ := mok_G (isSome_of hc)
  have wo : WOk (machG s) (onlyI kd) (chooseI (machG s) 2 1) := wok_only
  have hbest := choice_plan hm wo
  rw [es] at hbest
  have hmix := mix_plan hc hp hbest
  have wm : WOk (machG s) (onlyI kd) (fun i _ => planI (mixI s plan (valA (machG s) (onlyI kd) (chooseI (machG s) 2 1)).2) i) := wok_plan (by rw [es]; exact hmix)
  refine val_mono hm wo wm (fun n _ _ => Int.le_refl _) (fun i x hi h4 h1 hN => ?_) (machG s).s.stages.length 0 (by omega)
  have hpos := turns_pos hm hi h4
  have hix : s.stages[i]? = some x := by rw [← es]; exact hi
  have hcc := wm.c1 i x (nextI (machG s) i (valA (machG s) (onlyI kd) (fun i _ => planI (mixI s plan (valA (machG s) (onlyI kd) (chooseI (machG s) 2 1)).2) i)).1 x.turns) hi h4 h1 next_len (by rw [next_len]; exact hpos)
  have e := ((vfixA hm wo).fx i x (by omega) hi).2.2 h4 h1
  rw [choose_val (by rw [next_len]; exact hpos), aimAt_of hi]
  have e2 := getD_some hcc.2
  rw [mix_val hix] at hcc e2 ⊢
  have e1 : (nextI (machG s) i (valA (machG s) (onlyI kd) (chooseI (machG s) 2 1)).1 x.turns)[Int.toNat (if x.kind = 3 then planI plan i else planI (valA (machG s) (onlyI kd) (chooseI (machG s) 2 1)).2 i)]? = _ := getD_some (by rw [next_len]; have := hcc.2; rw [next_len] at this; exact this)
  have hle := hN _ _ _ e1 e2
  by_cases h3 : x.kind = 3
  · simp only [if_pos h3] at hle e1 ⊢
    have := (pick_bd (a := 1) e1).1 rfl
    omega
  · simp only [if_neg h3] at hle e1 ⊢
    have hpi : planI (valA (machG s) (onlyI kd) (chooseI (machG s) 2 1)).2 (i : Int) = (valA (machG s) (onlyI kd) (chooseI (machG s) 2 1)).2.getD i 0 := by rw [planI, Int.toNat_natCast]
    have hck := choose_val (m := machG s) (pa := 2) (oa := 1) (i := i) (l := nextI (machG s) i (valA (machG s) (onlyI kd) (chooseI (machG s) 2 1)).1 x.turns) (by rw [next_len]; exact hpos)
    rw [aimAt_of hi, if_neg h3, ← e.2, ← hpi] at hck
    rw [← hck]; exact hle
theorem mix_low {s : Stl} (hc : checkK s = 0) {kd : Int} {plan : List Int} (hp : planOk s plan = true) :
    (valA (machG s) (onlyI kd) (fun i _ => planI (mixI s plan (valA (machG s) (onlyI kd) (chooseI (machG s) 1 2)).2) i)).1.getD 0 0 ≤ oddV (machG s) kd 1 2 := by
  obtain ⟨hm, es⟩ := mok_G (isSome_of hc)
  have wo : WOk (machG s) (onlyI kd) (chooseI (machG s) 1 2) := wok_only
  have hbest := choice_plan hm wo
  rw [es] at hbest
  have hmix := mix_plan hc hp hbest
  have wm : WOk (machG s) (onlyI kd) (fun i _ => planI (mixI s plan (valA (machG s) (onlyI kd) (chooseI (machG s) 1 2)).2) i) := wok_plan (by rw [es]; exact hmix)
  refine val_mono hm wm wo (fun n _ _ => Int.le_refl _) (fun i x hi h4 h1 hN => ?_) (machG s).s.stages.length 0 (by omega)
  have hpos := turns_pos hm hi h4
  have hix : s.stages[i]? = some x := by rw [← es]; exact hi
  have hcc := wm.c1 i x (nextI (machG s) i (valA (machG s) (onlyI kd) (fun i _ => planI (mixI s plan (valA (machG s) (onlyI kd) (chooseI (machG s) 1 2)).2) i)).1 x.turns) hi h4 h1 next_len (by rw [next_len]; exact hpos)
  have e := ((vfixA hm wo).fx i x (by omega) hi).2.2 h4 h1
  rw [choose_val (by rw [next_len]; exact hpos), aimAt_of hi]
  have e2 := getD_some hcc.2
  rw [mix_val hix] at hcc e2 ⊢
  have e1 : (nextI (machG s) i (valA (machG s) (onlyI kd) (chooseI (machG s) 1 2)).1 x.turns)[Int.toNat (if x.kind = 3 then planI plan i else planI (valA (machG s) (onlyI kd) (chooseI (machG s) 1 2)).2 i)]? = _ := getD_some (by rw [next_len]; have := hcc.2; rw [next_len] at this; exact this)
  have hle := hN _ _ _ e2 e1
  by_cases h3 : x.kind = 3
  · simp only [if_pos h3] at hle e1 ⊢
    have := (pick_bd (a := 2) e1).2 rfl
    omega
  · simp only [if_neg h3] at hle e1 ⊢
    have hpi : planI (valA (machG s) (onlyI kd) (chooseI (machG s) 1 2)).2 (i : Int) = (valA (machG s) (onlyI kd) (chooseI (machG s) 1 2)).2.getD i 0 := by rw [planI, Int.toNat_natCast]
    have hck := choose_val (m := machG s) (pa := 1) (oa := 2) (i := i) (l := nextI (machG s) i (valA (machG s) (onlyI kd) (chooseI (machG s) 1 2)).1 x.turns) (by rw [next_len]; exact hpos)
    rw [aimAt_of hi, if_neg h3, ← e.2, ← hpi] at hck
    rw [← hck]; exact hle
theorem notice_of {s : Stl} (h : (noticeK s).2 = 0) : checkK s = 0 ∧ (noticeK s).1 = noticeL s s.worth.length ∧ ∀ k : Nat, k < s.worth.length → turnsI (machG s) (k : Int) = false := by
  unfold noticeK at h ⊢
  split at h
  · rename_i hc
    split at h
    · rename_i hz
      rw [if_pos hc, if_pos hz]
      exact ⟨hc, rfl, turnsL_zero.1 hz⟩
    · cases h
  · cases h

/-! ### Handed -/
theorem f16b : Try.f16.body = some (bodyAt Try.prog 16) := by kernel_rfl
theorem p16_start_0 (s : Stl) (kd : Int) (plan : (List Int))   {E : Env} {res : AV} (hE : PureE Try.prog 16 res E) (ho : AllP [PureF Try.prog (.clos 55 [] []) [.agg [.rsl (rowStg s.stages) 0 s.stages.length, .rsl (rowI s.worth) 0 s.worth.length, .int .i64 s.price]] (.tup [.rsl (rowFr2 ((noticeK s).1)) 0 (((noticeK s).1).length), .int .i64 ((noticeK s).2)]), ((noticeK s).2 != 0) = true, true = true, true = true, true = true, PureF Try.prog (.clos 20 [] []) [] (.bool true)])
    (hr : AvLe (.bool true) res) : G Try.prog E [.code (bodyAt Try.prog 16)] ⟨[.agg [.rsl (rowStg s.stages) 0 s.stages.length, .rsl (rowI s.worth) 0 s.worth.length, .int .i64 s.price], .int .i64 kd, .rsl (rowI plan) 0 plan.length] ++ unds (Try.f16.ntmps - 3), []⟩ :=
  end_stepL (n := 400) (evs := [.v (.tup [.rsl (rowFr2 ((noticeK s).1)) 0 (((noticeK s).1).length), .int .i64 ((noticeK s).2)]), .b true, .b true, .b true, .b true, .v (.bool true)]) (obs := _) hE Try.func16 mixed (by kernel_rfl) ho hr
theorem p16_start_1 (s : Stl) (kd : Int) (plan : (List Int))   {E : Env} {res : AV} (hE : PureE Try.prog 16 res E) (ho : AllP [PureF Try.prog (.clos 55 [] []) [.agg [.rsl (rowStg s.stages) 0 s.stages.length, .rsl (rowI s.worth) 0 s.worth.length, .int .i64 s.price]] (.tup [.rsl (rowFr2 ((noticeK s).1)) 0 (((noticeK s).1).length), .int .i64 ((noticeK s).2)]), ((noticeK s).2 != 0) = false, (decide (kd < 0)) = true, true = true, true = true, PureF Try.prog (.clos 20 [] []) [] (.bool true)])
    (hr : AvLe (.bool true) res) : G Try.prog E [.code (bodyAt Try.prog 16)] ⟨[.agg [.rsl (rowStg s.stages) 0 s.stages.length, .rsl (rowI s.worth) 0 s.worth.length, .int .i64 s.price], .int .i64 kd, .rsl (rowI plan) 0 plan.length] ++ unds (Try.f16.ntmps - 3), []⟩ :=
  end_stepL (n := 400) (evs := [.v (.tup [.rsl (rowFr2 ((noticeK s).1)) 0 (((noticeK s).1).length), .int .i64 ((noticeK s).2)]), .b false, .b true, .b true, .b true, .v (.bool true)]) (obs := _) hE Try.func16 mixed (by kernel_rfl) ho hr
theorem p16_start_2 (s : Stl) (kd : Int) (plan : (List Int))   {E : Env} {res : AV} (hE : PureE Try.prog 16 res E) (ho : AllP [PureF Try.prog (.clos 55 [] []) [.agg [.rsl (rowStg s.stages) 0 s.stages.length, .rsl (rowI s.worth) 0 s.worth.length, .int .i64 s.price]] (.tup [.rsl (rowFr2 ((noticeK s).1)) 0 (((noticeK s).1).length), .int .i64 ((noticeK s).2)]), ((noticeK s).2 != 0) = false, (decide (kd < 0)) = false, (decide (kd ≥ (s.worth.length : Int))) = true, true = true, PureF Try.prog (.clos 20 [] []) [] (.bool true)])
    (hr : AvLe (.bool true) res) : G Try.prog E [.code (bodyAt Try.prog 16)] ⟨[.agg [.rsl (rowStg s.stages) 0 s.stages.length, .rsl (rowI s.worth) 0 s.worth.length, .int .i64 s.price], .int .i64 kd, .rsl (rowI plan) 0 plan.length] ++ unds (Try.f16.ntmps - 3), []⟩ :=
  end_stepL (n := 400) (evs := [.v (.tup [.rsl (rowFr2 ((noticeK s).1)) 0 (((noticeK s).1).length), .int .i64 ((noticeK s).2)]), .b false, .b false, .b true, .b true, .v (.bool true)]) (obs := _) hE Try.func16 mixed (by kernel_rfl) ho hr
theorem p16_start_3 (s : Stl) (kd : Int) (plan : (List Int))   {E : Env} {res : AV} (hE : PureE Try.prog 16 res E) (ho : AllP [PureF Try.prog (.clos 55 [] []) [.agg [.rsl (rowStg s.stages) 0 s.stages.length, .rsl (rowI s.worth) 0 s.worth.length, .int .i64 s.price]] (.tup [.rsl (rowFr2 ((noticeK s).1)) 0 (((noticeK s).1).length), .int .i64 ((noticeK s).2)]), ((noticeK s).2 != 0) = false, (decide (kd < 0)) = false, (decide (kd ≥ (s.worth.length : Int))) = false, PureF Try.prog (.clos 30 [] []) [.agg [.rsl (rowStg s.stages) 0 s.stages.length, .rsl (rowI s.worth) 0 s.worth.length, .int .i64 s.price], .rsl (rowI plan) 0 plan.length] (.int .i64 (planE s plan)), ((planE s plan) != 0) = true, PureF Try.prog (.clos 20 [] []) [] (.bool true)])
    (hr : AvLe (.bool true) res) : G Try.prog E [.code (bodyAt Try.prog 16)] ⟨[.agg [.rsl (rowStg s.stages) 0 s.stages.length, .rsl (rowI s.worth) 0 s.worth.length, .int .i64 s.price], .int .i64 kd, .rsl (rowI plan) 0 plan.length] ++ unds (Try.f16.ntmps - 3), []⟩ :=
  end_stepL (n := 400) (evs := [.v (.tup [.rsl (rowFr2 ((noticeK s).1)) 0 (((noticeK s).1).length), .int .i64 ((noticeK s).2)]), .b false, .b false, .b false, .v (.int .i64 (planE s plan)), .b true, .v (.bool true)]) (obs := _) hE Try.func16 mixed (by kernel_rfl) ho hr
theorem p16_start_4 (s : Stl) (kd : Int) (plan : (List Int))   {E : Env} {res : AV} (hE : PureE Try.prog 16 res E) (ho : AllP [PureF Try.prog (.clos 55 [] []) [.agg [.rsl (rowStg s.stages) 0 s.stages.length, .rsl (rowI s.worth) 0 s.worth.length, .int .i64 s.price]] (.tup [.rsl (rowFr2 ((noticeK s).1)) 0 (((noticeK s).1).length), .int .i64 ((noticeK s).2)]), ((noticeK s).2 != 0) = false, (decide (kd < 0)) = false, (decide (kd ≥ (s.worth.length : Int))) = false, PureF Try.prog (.clos 30 [] []) [.agg [.rsl (rowStg s.stages) 0 s.stages.length, .rsl (rowI s.worth) 0 s.worth.length, .int .i64 s.price], .rsl (rowI plan) 0 plan.length] (.int .i64 (planE s plan)), ((planE s plan) != 0) = false, PureF Try.prog (.clos 27 [] []) [.agg [.rsl (rowStg s.stages) 0 s.stages.length, .rsl (rowI s.worth) 0 s.worth.length, .int .i64 s.price], .int .i64 kd, .int .i64 2, .int .i64 1] (.tup [.rsl (rowI ((choiceK s kd 2 1).1)) 0 (((choiceK s kd 2 1).1).length), .int .i64 ((choiceK s kd 2 1).2)]), PureF Try.prog (.clos 27 [] []) [.agg [.rsl (rowStg s.stages) 0 s.stages.length, .rsl (rowI s.worth) 0 s.worth.length, .int .i64 s.price], .int .i64 kd, .int .i64 1, .int .i64 2] (.tup [.rsl (rowI ((choiceK s kd 1 2).1)) 0 (((choiceK s kd 1 2).1).length), .int .i64 ((choiceK s kd 1 2).2)]), ((choiceK s kd 2 1).2 != 0) = true, true = true, true = true, true = true, true = true])
    (hr : AvLe (.bool false) res) : G Try.prog E [.code (bodyAt Try.prog 16)] ⟨[.agg [.rsl (rowStg s.stages) 0 s.stages.length, .rsl (rowI s.worth) 0 s.worth.length, .int .i64 s.price], .int .i64 kd, .rsl (rowI plan) 0 plan.length] ++ unds (Try.f16.ntmps - 3), []⟩ :=
  end_stepL (n := 400) (evs := [.v (.tup [.rsl (rowFr2 ((noticeK s).1)) 0 (((noticeK s).1).length), .int .i64 ((noticeK s).2)]), .b false, .b false, .b false, .v (.int .i64 (planE s plan)), .b false, .v (.tup [.rsl (rowI ((choiceK s kd 2 1).1)) 0 (((choiceK s kd 2 1).1).length), .int .i64 ((choiceK s kd 2 1).2)]), .v (.tup [.rsl (rowI ((choiceK s kd 1 2).1)) 0 (((choiceK s kd 1 2).1).length), .int .i64 ((choiceK s kd 1 2).2)]), .b true, .b true, .b true, .b true, .b true]) (obs := _) hE Try.func16 mixed (by kernel_rfl) ho hr
theorem p16_start_5 (s : Stl) (kd : Int) (plan : (List Int))   {E : Env} {res : AV} (hE : PureE Try.prog 16 res E) (ho : AllP [PureF Try.prog (.clos 55 [] []) [.agg [.rsl (rowStg s.stages) 0 s.stages.length, .rsl (rowI s.worth) 0 s.worth.length, .int .i64 s.price]] (.tup [.rsl (rowFr2 ((noticeK s).1)) 0 (((noticeK s).1).length), .int .i64 ((noticeK s).2)]), ((noticeK s).2 != 0) = false, (decide (kd < 0)) = false, (decide (kd ≥ (s.worth.length : Int))) = false, PureF Try.prog (.clos 30 [] []) [.agg [.rsl (rowStg s.stages) 0 s.stages.length, .rsl (rowI s.worth) 0 s.worth.length, .int .i64 s.price], .rsl (rowI plan) 0 plan.length] (.int .i64 (planE s plan)), ((planE s plan) != 0) = false, PureF Try.prog (.clos 27 [] []) [.agg [.rsl (rowStg s.stages) 0 s.stages.length, .rsl (rowI s.worth) 0 s.worth.length, .int .i64 s.price], .int .i64 kd, .int .i64 2, .int .i64 1] (.tup [.rsl (rowI ((choiceK s kd 2 1).1)) 0 (((choiceK s kd 2 1).1).length), .int .i64 ((choiceK s kd 2 1).2)]), PureF Try.prog (.clos 27 [] []) [.agg [.rsl (rowStg s.stages) 0 s.stages.length, .rsl (rowI s.worth) 0 s.worth.length, .int .i64 s.price], .int .i64 kd, .int .i64 1, .int .i64 2] (.tup [.rsl (rowI ((choiceK s kd 1 2).1)) 0 (((choiceK s kd 1 2).1).length), .int .i64 ((choiceK s kd 1 2).2)]), ((choiceK s kd 2 1).2 != 0) = false, ((choiceK s kd 1 2).2 != 0) = true, true = true, true = true, true = true])
    (hr : AvLe (.bool false) res) : G Try.prog E [.code (bodyAt Try.prog 16)] ⟨[.agg [.rsl (rowStg s.stages) 0 s.stages.length, .rsl (rowI s.worth) 0 s.worth.length, .int .i64 s.price], .int .i64 kd, .rsl (rowI plan) 0 plan.length] ++ unds (Try.f16.ntmps - 3), []⟩ :=
  end_stepL (n := 400) (evs := [.v (.tup [.rsl (rowFr2 ((noticeK s).1)) 0 (((noticeK s).1).length), .int .i64 ((noticeK s).2)]), .b false, .b false, .b false, .v (.int .i64 (planE s plan)), .b false, .v (.tup [.rsl (rowI ((choiceK s kd 2 1).1)) 0 (((choiceK s kd 2 1).1).length), .int .i64 ((choiceK s kd 2 1).2)]), .v (.tup [.rsl (rowI ((choiceK s kd 1 2).1)) 0 (((choiceK s kd 1 2).1).length), .int .i64 ((choiceK s kd 1 2).2)]), .b false, .b true, .b true, .b true, .b true]) (obs := _) hE Try.func16 mixed (by kernel_rfl) ho hr
theorem p16_start_6 (s : Stl) (kd : Int) (plan : (List Int))   {E : Env} {res : AV} (hE : PureE Try.prog 16 res E) (ho : AllP [PureF Try.prog (.clos 55 [] []) [.agg [.rsl (rowStg s.stages) 0 s.stages.length, .rsl (rowI s.worth) 0 s.worth.length, .int .i64 s.price]] (.tup [.rsl (rowFr2 ((noticeK s).1)) 0 (((noticeK s).1).length), .int .i64 ((noticeK s).2)]), ((noticeK s).2 != 0) = false, (decide (kd < 0)) = false, (decide (kd ≥ (s.worth.length : Int))) = false, PureF Try.prog (.clos 30 [] []) [.agg [.rsl (rowStg s.stages) 0 s.stages.length, .rsl (rowI s.worth) 0 s.worth.length, .int .i64 s.price], .rsl (rowI plan) 0 plan.length] (.int .i64 (planE s plan)), ((planE s plan) != 0) = false, PureF Try.prog (.clos 27 [] []) [.agg [.rsl (rowStg s.stages) 0 s.stages.length, .rsl (rowI s.worth) 0 s.worth.length, .int .i64 s.price], .int .i64 kd, .int .i64 2, .int .i64 1] (.tup [.rsl (rowI ((choiceK s kd 2 1).1)) 0 (((choiceK s kd 2 1).1).length), .int .i64 ((choiceK s kd 2 1).2)]), PureF Try.prog (.clos 27 [] []) [.agg [.rsl (rowStg s.stages) 0 s.stages.length, .rsl (rowI s.worth) 0 s.worth.length, .int .i64 s.price], .int .i64 kd, .int .i64 1, .int .i64 2] (.tup [.rsl (rowI ((choiceK s kd 1 2).1)) 0 (((choiceK s kd 1 2).1).length), .int .i64 ((choiceK s kd 1 2).2)]), ((choiceK s kd 2 1).2 != 0) = false, ((choiceK s kd 1 2).2 != 0) = false, (((((noticeK s).1).length : Nat) : Int) != (s.worth.length : Int)) = true, true = true, true = true])
    (hr : AvLe (.bool false) res) : G Try.prog E [.code (bodyAt Try.prog 16)] ⟨[.agg [.rsl (rowStg s.stages) 0 s.stages.length, .rsl (rowI s.worth) 0 s.worth.length, .int .i64 s.price], .int .i64 kd, .rsl (rowI plan) 0 plan.length] ++ unds (Try.f16.ntmps - 3), []⟩ :=
  end_stepL (n := 400) (evs := [.v (.tup [.rsl (rowFr2 ((noticeK s).1)) 0 (((noticeK s).1).length), .int .i64 ((noticeK s).2)]), .b false, .b false, .b false, .v (.int .i64 (planE s plan)), .b false, .v (.tup [.rsl (rowI ((choiceK s kd 2 1).1)) 0 (((choiceK s kd 2 1).1).length), .int .i64 ((choiceK s kd 2 1).2)]), .v (.tup [.rsl (rowI ((choiceK s kd 1 2).1)) 0 (((choiceK s kd 1 2).1).length), .int .i64 ((choiceK s kd 1 2).2)]), .b false, .b false, .b true, .b true, .b true]) (obs := _) hE Try.func16 mixed (by kernel_rfl) ho hr
theorem p16_start_7 (s : Stl) (kd : Int) (plan : (List Int))   {E : Env} {res : AV} (hE : PureE Try.prog 16 res E) (ho : AllP [PureF Try.prog (.clos 55 [] []) [.agg [.rsl (rowStg s.stages) 0 s.stages.length, .rsl (rowI s.worth) 0 s.worth.length, .int .i64 s.price]] (.tup [.rsl (rowFr2 ((noticeK s).1)) 0 (((noticeK s).1).length), .int .i64 ((noticeK s).2)]), ((noticeK s).2 != 0) = false, (decide (kd < 0)) = false, (decide (kd ≥ (s.worth.length : Int))) = false, PureF Try.prog (.clos 30 [] []) [.agg [.rsl (rowStg s.stages) 0 s.stages.length, .rsl (rowI s.worth) 0 s.worth.length, .int .i64 s.price], .rsl (rowI plan) 0 plan.length] (.int .i64 (planE s plan)), ((planE s plan) != 0) = false, PureF Try.prog (.clos 27 [] []) [.agg [.rsl (rowStg s.stages) 0 s.stages.length, .rsl (rowI s.worth) 0 s.worth.length, .int .i64 s.price], .int .i64 kd, .int .i64 2, .int .i64 1] (.tup [.rsl (rowI ((choiceK s kd 2 1).1)) 0 (((choiceK s kd 2 1).1).length), .int .i64 ((choiceK s kd 2 1).2)]), PureF Try.prog (.clos 27 [] []) [.agg [.rsl (rowStg s.stages) 0 s.stages.length, .rsl (rowI s.worth) 0 s.worth.length, .int .i64 s.price], .int .i64 kd, .int .i64 1, .int .i64 2] (.tup [.rsl (rowI ((choiceK s kd 1 2).1)) 0 (((choiceK s kd 1 2).1).length), .int .i64 ((choiceK s kd 1 2).2)]), ((choiceK s kd 2 1).2 != 0) = false, ((choiceK s kd 1 2).2 != 0) = false, (((((noticeK s).1).length : Nat) : Int) != (s.worth.length : Int)) = false, (((((choiceK s kd 2 1).1).length : Nat) : Int) != (s.stages.length : Int)) = true, true = true])
    (hr : AvLe (.bool false) res) : G Try.prog E [.code (bodyAt Try.prog 16)] ⟨[.agg [.rsl (rowStg s.stages) 0 s.stages.length, .rsl (rowI s.worth) 0 s.worth.length, .int .i64 s.price], .int .i64 kd, .rsl (rowI plan) 0 plan.length] ++ unds (Try.f16.ntmps - 3), []⟩ :=
  end_stepL (n := 400) (evs := [.v (.tup [.rsl (rowFr2 ((noticeK s).1)) 0 (((noticeK s).1).length), .int .i64 ((noticeK s).2)]), .b false, .b false, .b false, .v (.int .i64 (planE s plan)), .b false, .v (.tup [.rsl (rowI ((choiceK s kd 2 1).1)) 0 (((choiceK s kd 2 1).1).length), .int .i64 ((choiceK s kd 2 1).2)]), .v (.tup [.rsl (rowI ((choiceK s kd 1 2).1)) 0 (((choiceK s kd 1 2).1).length), .int .i64 ((choiceK s kd 1 2).2)]), .b false, .b false, .b false, .b true, .b true]) (obs := _) hE Try.func16 mixed (by kernel_rfl) ho hr
theorem p16_start_8 (s : Stl) (kd : Int) (plan : (List Int))   {E : Env} {res : AV} (hE : PureE Try.prog 16 res E) (ho : AllP [PureF Try.prog (.clos 55 [] []) [.agg [.rsl (rowStg s.stages) 0 s.stages.length, .rsl (rowI s.worth) 0 s.worth.length, .int .i64 s.price]] (.tup [.rsl (rowFr2 ((noticeK s).1)) 0 (((noticeK s).1).length), .int .i64 ((noticeK s).2)]), ((noticeK s).2 != 0) = false, (decide (kd < 0)) = false, (decide (kd ≥ (s.worth.length : Int))) = false, PureF Try.prog (.clos 30 [] []) [.agg [.rsl (rowStg s.stages) 0 s.stages.length, .rsl (rowI s.worth) 0 s.worth.length, .int .i64 s.price], .rsl (rowI plan) 0 plan.length] (.int .i64 (planE s plan)), ((planE s plan) != 0) = false, PureF Try.prog (.clos 27 [] []) [.agg [.rsl (rowStg s.stages) 0 s.stages.length, .rsl (rowI s.worth) 0 s.worth.length, .int .i64 s.price], .int .i64 kd, .int .i64 2, .int .i64 1] (.tup [.rsl (rowI ((choiceK s kd 2 1).1)) 0 (((choiceK s kd 2 1).1).length), .int .i64 ((choiceK s kd 2 1).2)]), PureF Try.prog (.clos 27 [] []) [.agg [.rsl (rowStg s.stages) 0 s.stages.length, .rsl (rowI s.worth) 0 s.worth.length, .int .i64 s.price], .int .i64 kd, .int .i64 1, .int .i64 2] (.tup [.rsl (rowI ((choiceK s kd 1 2).1)) 0 (((choiceK s kd 1 2).1).length), .int .i64 ((choiceK s kd 1 2).2)]), ((choiceK s kd 2 1).2 != 0) = false, ((choiceK s kd 1 2).2 != 0) = false, (((((noticeK s).1).length : Nat) : Int) != (s.worth.length : Int)) = false, (((((choiceK s kd 2 1).1).length : Nat) : Int) != (s.stages.length : Int)) = false, (((((choiceK s kd 1 2).1).length : Nat) : Int) != (s.stages.length : Int)) = true])
    (hr : AvLe (.bool false) res) : G Try.prog E [.code (bodyAt Try.prog 16)] ⟨[.agg [.rsl (rowStg s.stages) 0 s.stages.length, .rsl (rowI s.worth) 0 s.worth.length, .int .i64 s.price], .int .i64 kd, .rsl (rowI plan) 0 plan.length] ++ unds (Try.f16.ntmps - 3), []⟩ :=
  end_stepL (n := 400) (evs := [.v (.tup [.rsl (rowFr2 ((noticeK s).1)) 0 (((noticeK s).1).length), .int .i64 ((noticeK s).2)]), .b false, .b false, .b false, .v (.int .i64 (planE s plan)), .b false, .v (.tup [.rsl (rowI ((choiceK s kd 2 1).1)) 0 (((choiceK s kd 2 1).1).length), .int .i64 ((choiceK s kd 2 1).2)]), .v (.tup [.rsl (rowI ((choiceK s kd 1 2).1)) 0 (((choiceK s kd 1 2).1).length), .int .i64 ((choiceK s kd 1 2).2)]), .b false, .b false, .b false, .b false, .b true]) (obs := _) hE Try.func16 mixed (by kernel_rfl) ho hr
theorem p16_start_9 (s : Stl) (kd : Int) (plan : (List Int))   {E : Env} {res : AV} (hE : PureE Try.prog 16 res E) (ho : AllP [PureF Try.prog (.clos 55 [] []) [.agg [.rsl (rowStg s.stages) 0 s.stages.length, .rsl (rowI s.worth) 0 s.worth.length, .int .i64 s.price]] (.tup [.rsl (rowFr2 ((noticeK s).1)) 0 (((noticeK s).1).length), .int .i64 ((noticeK s).2)]), ((noticeK s).2 != 0) = false, (decide (kd < 0)) = false, (decide (kd ≥ (s.worth.length : Int))) = false, PureF Try.prog (.clos 30 [] []) [.agg [.rsl (rowStg s.stages) 0 s.stages.length, .rsl (rowI s.worth) 0 s.worth.length, .int .i64 s.price], .rsl (rowI plan) 0 plan.length] (.int .i64 (planE s plan)), ((planE s plan) != 0) = false, PureF Try.prog (.clos 27 [] []) [.agg [.rsl (rowStg s.stages) 0 s.stages.length, .rsl (rowI s.worth) 0 s.worth.length, .int .i64 s.price], .int .i64 kd, .int .i64 2, .int .i64 1] (.tup [.rsl (rowI ((choiceK s kd 2 1).1)) 0 (((choiceK s kd 2 1).1).length), .int .i64 ((choiceK s kd 2 1).2)]), PureF Try.prog (.clos 27 [] []) [.agg [.rsl (rowStg s.stages) 0 s.stages.length, .rsl (rowI s.worth) 0 s.worth.length, .int .i64 s.price], .int .i64 kd, .int .i64 1, .int .i64 2] (.tup [.rsl (rowI ((choiceK s kd 1 2).1)) 0 (((choiceK s kd 1 2).1).length), .int .i64 ((choiceK s kd 1 2).2)]), ((choiceK s kd 2 1).2 != 0) = false, ((choiceK s kd 1 2).2 != 0) = false, (((((noticeK s).1).length : Nat) : Int) != (s.worth.length : Int)) = false, (((((choiceK s kd 2 1).1).length : Nat) : Int) != (s.stages.length : Int)) = false, (((((choiceK s kd 1 2).1).length : Nat) : Int) != (s.stages.length : Int)) = false, PureF Try.prog (.clos 59 [] []) [.agg [.rsl (rowStg s.stages) 0 s.stages.length, .rsl (rowI s.worth) 0 s.worth.length, .int .i64 s.price], .rsl (rowI plan) 0 plan.length, .rsl (rowI ((choiceK s kd 2 1).1)) 0 (((choiceK s kd 2 1).1).length)] (.rsl (rowI (mixI s plan ((choiceK s kd 2 1).1))) 0 ((mixI s plan ((choiceK s kd 2 1).1)).length)), PureF Try.prog (.clos 40 [] []) [.agg [.rsl (rowStg s.stages) 0 s.stages.length, .rsl (rowI s.worth) 0 s.worth.length, .int .i64 s.price], .rsl (rowI (mixI s plan ((choiceK s kd 2 1).1))) 0 ((mixI s plan ((choiceK s kd 2 1).1)).length)] (.tup [.rsl (rowFr ((plannedK s (mixI s plan ((choiceK s kd 2 1).1))).1)) 0 (((plannedK s (mixI s plan ((choiceK s kd 2 1).1))).1).length), .int .i64 ((plannedK s (mixI s plan ((choiceK s kd 2 1).1))).2)]), PureF Try.prog (.clos 59 [] []) [.agg [.rsl (rowStg s.stages) 0 s.stages.length, .rsl (rowI s.worth) 0 s.worth.length, .int .i64 s.price], .rsl (rowI plan) 0 plan.length, .rsl (rowI ((choiceK s kd 1 2).1)) 0 (((choiceK s kd 1 2).1).length)] (.rsl (rowI (mixI s plan ((choiceK s kd 1 2).1))) 0 ((mixI s plan ((choiceK s kd 1 2).1)).length)), PureF Try.prog (.clos 40 [] []) [.agg [.rsl (rowStg s.stages) 0 s.stages.length, .rsl (rowI s.worth) 0 s.worth.length, .int .i64 s.price], .rsl (rowI (mixI s plan ((choiceK s kd 1 2).1))) 0 ((mixI s plan ((choiceK s kd 1 2).1)).length)] (.tup [.rsl (rowFr ((plannedK s (mixI s plan ((choiceK s kd 1 2).1))).1)) 0 (((plannedK s (mixI s plan ((choiceK s kd 1 2).1))).1).length), .int .i64 ((plannedK s (mixI s plan ((choiceK s kd 1 2).1))).2)]), PureF Try.prog (.clos 40 [] []) [.agg [.rsl (rowStg s.stages) 0 s.stages.length, .rsl (rowI s.worth) 0 s.worth.length, .int .i64 s.price], .rsl (rowI plan) 0 plan.length] (.tup [.rsl (rowFr ((plannedK s plan).1)) 0 (((plannedK s plan).1).length), .int .i64 ((plannedK s plan).2)]), ((plannedK s (mixI s plan ((choiceK s kd 2 1).1))).2 != 0) = true, true = true, true = true, true = true, true = true, true = true])
    (hr : AvLe (.bool false) res) : G Try.prog E [.code (bodyAt Try.prog 16)] ⟨[.agg [.rsl (rowStg s.stages) 0 s.stages.length, .rsl (rowI s.worth) 0 s.worth.length, .int .i64 s.price], .int .i64 kd, .rsl (rowI plan) 0 plan.length] ++ unds (Try.f16.ntmps - 3), []⟩ :=
  end_stepL (n := 400) (evs := [.v (.tup [.rsl (rowFr2 ((noticeK s).1)) 0 (((noticeK s).1).length), .int .i64 ((noticeK s).2)]), .b false, .b false, .b false, .v (.int .i64 (planE s plan)), .b false, .v (.tup [.rsl (rowI ((choiceK s kd 2 1).1)) 0 (((choiceK s kd 2 1).1).length), .int .i64 ((choiceK s kd 2 1).2)]), .v (.tup [.rsl (rowI ((choiceK s kd 1 2).1)) 0 (((choiceK s kd 1 2).1).length), .int .i64 ((choiceK s kd 1 2).2)]), .b false, .b false, .b false, .b false, .b false, .v (.rsl (rowI (mixI s plan ((choiceK s kd 2 1).1))) 0 ((mixI s plan ((choiceK s kd 2 1).1)).length)), .v (.tup [.rsl (rowFr ((plannedK s (mixI s plan ((choiceK s kd 2 1).1))).1)) 0 (((plannedK s (mixI s plan ((choiceK s kd 2 1).1))).1).length), .int .i64 ((plannedK s (mixI s plan ((choiceK s kd 2 1).1))).2)]), .v (.rsl (rowI (mixI s plan ((choiceK s kd 1 2).1))) 0 ((mixI s plan ((choiceK s kd 1 2).1)).length)), .v (.tup [.rsl (rowFr ((plannedK s (mixI s plan ((choiceK s kd 1 2).1))).1)) 0 (((plannedK s (mixI s plan ((choiceK s kd 1 2).1))).1).length), .int .i64 ((plannedK s (mixI s plan ((choiceK s kd 1 2).1))).2)]), .v (.tup [.rsl (rowFr ((plannedK s plan).1)) 0 (((plannedK s plan).1).length), .int .i64 ((plannedK s plan).2)]), .b true, .b true, .b true, .b true, .b true, .b true]) (obs := _) hE Try.func16 mixed (by kernel_rfl) ho hr
theorem p16_start_10 (s : Stl) (kd : Int) (plan : (List Int))   {E : Env} {res : AV} (hE : PureE Try.prog 16 res E) (ho : AllP [PureF Try.prog (.clos 55 [] []) [.agg [.rsl (rowStg s.stages) 0 s.stages.length, .rsl (rowI s.worth) 0 s.worth.length, .int .i64 s.price]] (.tup [.rsl (rowFr2 ((noticeK s).1)) 0 (((noticeK s).1).length), .int .i64 ((noticeK s).2)]), ((noticeK s).2 != 0) = false, (decide (kd < 0)) = false, (decide (kd ≥ (s.worth.length : Int))) = false, PureF Try.prog (.clos 30 [] []) [.agg [.rsl (rowStg s.stages) 0 s.stages.length, .rsl (rowI s.worth) 0 s.worth.length, .int .i64 s.price], .rsl (rowI plan) 0 plan.length] (.int .i64 (planE s plan)), ((planE s plan) != 0) = false, PureF Try.prog (.clos 27 [] []) [.agg [.rsl (rowStg s.stages) 0 s.stages.length, .rsl (rowI s.worth) 0 s.worth.length, .int .i64 s.price], .int .i64 kd, .int .i64 2, .int .i64 1] (.tup [.rsl (rowI ((choiceK s kd 2 1).1)) 0 (((choiceK s kd 2 1).1).length), .int .i64 ((choiceK s kd 2 1).2)]), PureF Try.prog (.clos 27 [] []) [.agg [.rsl (rowStg s.stages) 0 s.stages.length, .rsl (rowI s.worth) 0 s.worth.length, .int .i64 s.price], .int .i64 kd, .int .i64 1, .int .i64 2] (.tup [.rsl (rowI ((choiceK s kd 1 2).1)) 0 (((choiceK s kd 1 2).1).length), .int .i64 ((choiceK s kd 1 2).2)]), ((choiceK s kd 2 1).2 != 0) = false, ((choiceK s kd 1 2).2 != 0) = false, (((((noticeK s).1).length : Nat) : Int) != (s.worth.length : Int)) = false, (((((choiceK s kd 2 1).1).length : Nat) : Int) != (s.stages.length : Int)) = false, (((((choiceK s kd 1 2).1).length : Nat) : Int) != (s.stages.length : Int)) = false, PureF Try.prog (.clos 59 [] []) [.agg [.rsl (rowStg s.stages) 0 s.stages.length, .rsl (rowI s.worth) 0 s.worth.length, .int .i64 s.price], .rsl (rowI plan) 0 plan.length, .rsl (rowI ((choiceK s kd 2 1).1)) 0 (((choiceK s kd 2 1).1).length)] (.rsl (rowI (mixI s plan ((choiceK s kd 2 1).1))) 0 ((mixI s plan ((choiceK s kd 2 1).1)).length)), PureF Try.prog (.clos 40 [] []) [.agg [.rsl (rowStg s.stages) 0 s.stages.length, .rsl (rowI s.worth) 0 s.worth.length, .int .i64 s.price], .rsl (rowI (mixI s plan ((choiceK s kd 2 1).1))) 0 ((mixI s plan ((choiceK s kd 2 1).1)).length)] (.tup [.rsl (rowFr ((plannedK s (mixI s plan ((choiceK s kd 2 1).1))).1)) 0 (((plannedK s (mixI s plan ((choiceK s kd 2 1).1))).1).length), .int .i64 ((plannedK s (mixI s plan ((choiceK s kd 2 1).1))).2)]), PureF Try.prog (.clos 59 [] []) [.agg [.rsl (rowStg s.stages) 0 s.stages.length, .rsl (rowI s.worth) 0 s.worth.length, .int .i64 s.price], .rsl (rowI plan) 0 plan.length, .rsl (rowI ((choiceK s kd 1 2).1)) 0 (((choiceK s kd 1 2).1).length)] (.rsl (rowI (mixI s plan ((choiceK s kd 1 2).1))) 0 ((mixI s plan ((choiceK s kd 1 2).1)).length)), PureF Try.prog (.clos 40 [] []) [.agg [.rsl (rowStg s.stages) 0 s.stages.length, .rsl (rowI s.worth) 0 s.worth.length, .int .i64 s.price], .rsl (rowI (mixI s plan ((choiceK s kd 1 2).1))) 0 ((mixI s plan ((choiceK s kd 1 2).1)).length)] (.tup [.rsl (rowFr ((plannedK s (mixI s plan ((choiceK s kd 1 2).1))).1)) 0 (((plannedK s (mixI s plan ((choiceK s kd 1 2).1))).1).length), .int .i64 ((plannedK s (mixI s plan ((choiceK s kd 1 2).1))).2)]), PureF Try.prog (.clos 40 [] []) [.agg [.rsl (rowStg s.stages) 0 s.stages.length, .rsl (rowI s.worth) 0 s.worth.length, .int .i64 s.price], .rsl (rowI plan) 0 plan.length] (.tup [.rsl (rowFr ((plannedK s plan).1)) 0 (((plannedK s plan).1).length), .int .i64 ((plannedK s plan).2)]), ((plannedK s (mixI s plan ((choiceK s kd 2 1).1))).2 != 0) = false, ((plannedK s (mixI s plan ((choiceK s kd 1 2).1))).2 != 0) = true, true = true, true = true, true = true, true = true])
    (hr : AvLe (.bool false) res) : G Try.prog E [.code (bodyAt Try.prog 16)] ⟨[.agg [.rsl (rowStg s.stages) 0 s.stages.length, .rsl (rowI s.worth) 0 s.worth.length, .int .i64 s.price], .int .i64 kd, .rsl (rowI plan) 0 plan.length] ++ unds (Try.f16.ntmps - 3), []⟩ :=
  end_stepL (n := 400) (evs := [.v (.tup [.rsl (rowFr2 ((noticeK s).1)) 0 (((noticeK s).1).length), .int .i64 ((noticeK s).2)]), .b false, .b false, .b false, .v (.int .i64 (planE s plan)), .b false, .v (.tup [.rsl (rowI ((choiceK s kd 2 1).1)) 0 (((choiceK s kd 2 1).1).length), .int .i64 ((choiceK s kd 2 1).2)]), .v (.tup [.rsl (rowI ((choiceK s kd 1 2).1)) 0 (((choiceK s kd 1 2).1).length), .int .i64 ((choiceK s kd 1 2).2)]), .b false, .b false, .b false, .b false, .b false, .v (.rsl (rowI (mixI s plan ((choiceK s kd 2 1).1))) 0 ((mixI s plan ((choiceK s kd 2 1).1)).length)), .v (.tup [.rsl (rowFr ((plannedK s (mixI s plan ((choiceK s kd 2 1).1))).1)) 0 (((plannedK s (mixI s plan ((choiceK s kd 2 1).1))).1).length), .int .i64 ((plannedK s (mixI s plan ((choiceK s kd 2 1).1))).2)]), .v (.rsl (rowI (mixI s plan ((choiceK s kd 1 2).1))) 0 ((mixI s plan ((choiceK s kd 1 2).1)).length)), .v (.tup [.rsl (rowFr ((plannedK s (mixI s plan ((choiceK s kd 1 2).1))).1)) 0 (((plannedK s (mixI s plan ((choiceK s kd 1 2).1))).1).length), .int .i64 ((plannedK s (mixI s plan ((choiceK s kd 1 2).1))).2)]), .v (.tup [.rsl (rowFr ((plannedK s plan).1)) 0 (((plannedK s plan).1).length), .int .i64 ((plannedK s plan).2)]), .b false, .b true, .b true, .b true, .b true, .b true]) (obs := _) hE Try.func16 mixed (by kernel_rfl) ho hr
theorem p16_start_11 (s : Stl) (kd : Int) (plan : (List Int))   {E : Env} {res : AV} (hE : PureE Try.prog 16 res E) (ho : AllP [PureF Try.prog (.clos 55 [] []) [.agg [.rsl (rowStg s.stages) 0 s.stages.length, .rsl (rowI s.worth) 0 s.worth.length, .int .i64 s.price]] (.tup [.rsl (rowFr2 ((noticeK s).1)) 0 (((noticeK s).1).length), .int .i64 ((noticeK s).2)]), ((noticeK s).2 != 0) = false, (decide (kd < 0)) = false, (decide (kd ≥ (s.worth.length : Int))) = false, PureF Try.prog (.clos 30 [] []) [.agg [.rsl (rowStg s.stages) 0 s.stages.length, .rsl (rowI s.worth) 0 s.worth.length, .int .i64 s.price], .rsl (rowI plan) 0 plan.length] (.int .i64 (planE s plan)), ((planE s plan) != 0) = false, PureF Try.prog (.clos 27 [] []) [.agg [.rsl (rowStg s.stages) 0 s.stages.length, .rsl (rowI s.worth) 0 s.worth.length, .int .i64 s.price], .int .i64 kd, .int .i64 2, .int .i64 1] (.tup [.rsl (rowI ((choiceK s kd 2 1).1)) 0 (((choiceK s kd 2 1).1).length), .int .i64 ((choiceK s kd 2 1).2)]), PureF Try.prog (.clos 27 [] []) [.agg [.rsl (rowStg s.stages) 0 s.stages.length, .rsl (rowI s.worth) 0 s.worth.length, .int .i64 s.price], .int .i64 kd, .int .i64 1, .int .i64 2] (.tup [.rsl (rowI ((choiceK s kd 1 2).1)) 0 (((choiceK s kd 1 2).1).length), .int .i64 ((choiceK s kd 1 2).2)]), ((choiceK s kd 2 1).2 != 0) = false, ((choiceK s kd 1 2).2 != 0) = false, (((((noticeK s).1).length : Nat) : Int) != (s.worth.length : Int)) = false, (((((choiceK s kd 2 1).1).length : Nat) : Int) != (s.stages.length : Int)) = false, (((((choiceK s kd 1 2).1).length : Nat) : Int) != (s.stages.length : Int)) = false, PureF Try.prog (.clos 59 [] []) [.agg [.rsl (rowStg s.stages) 0 s.stages.length, .rsl (rowI s.worth) 0 s.worth.length, .int .i64 s.price], .rsl (rowI plan) 0 plan.length, .rsl (rowI ((choiceK s kd 2 1).1)) 0 (((choiceK s kd 2 1).1).length)] (.rsl (rowI (mixI s plan ((choiceK s kd 2 1).1))) 0 ((mixI s plan ((choiceK s kd 2 1).1)).length)), PureF Try.prog (.clos 40 [] []) [.agg [.rsl (rowStg s.stages) 0 s.stages.length, .rsl (rowI s.worth) 0 s.worth.length, .int .i64 s.price], .rsl (rowI (mixI s plan ((choiceK s kd 2 1).1))) 0 ((mixI s plan ((choiceK s kd 2 1).1)).length)] (.tup [.rsl (rowFr ((plannedK s (mixI s plan ((choiceK s kd 2 1).1))).1)) 0 (((plannedK s (mixI s plan ((choiceK s kd 2 1).1))).1).length), .int .i64 ((plannedK s (mixI s plan ((choiceK s kd 2 1).1))).2)]), PureF Try.prog (.clos 59 [] []) [.agg [.rsl (rowStg s.stages) 0 s.stages.length, .rsl (rowI s.worth) 0 s.worth.length, .int .i64 s.price], .rsl (rowI plan) 0 plan.length, .rsl (rowI ((choiceK s kd 1 2).1)) 0 (((choiceK s kd 1 2).1).length)] (.rsl (rowI (mixI s plan ((choiceK s kd 1 2).1))) 0 ((mixI s plan ((choiceK s kd 1 2).1)).length)), PureF Try.prog (.clos 40 [] []) [.agg [.rsl (rowStg s.stages) 0 s.stages.length, .rsl (rowI s.worth) 0 s.worth.length, .int .i64 s.price], .rsl (rowI (mixI s plan ((choiceK s kd 1 2).1))) 0 ((mixI s plan ((choiceK s kd 1 2).1)).length)] (.tup [.rsl (rowFr ((plannedK s (mixI s plan ((choiceK s kd 1 2).1))).1)) 0 (((plannedK s (mixI s plan ((choiceK s kd 1 2).1))).1).length), .int .i64 ((plannedK s (mixI s plan ((choiceK s kd 1 2).1))).2)]), PureF Try.prog (.clos 40 [] []) [.agg [.rsl (rowStg s.stages) 0 s.stages.length, .rsl (rowI s.worth) 0 s.worth.length, .int .i64 s.price], .rsl (rowI plan) 0 plan.length] (.tup [.rsl (rowFr ((plannedK s plan).1)) 0 (((plannedK s plan).1).length), .int .i64 ((plannedK s plan).2)]), ((plannedK s (mixI s plan ((choiceK s kd 2 1).1))).2 != 0) = false, ((plannedK s (mixI s plan ((choiceK s kd 1 2).1))).2 != 0) = false, ((plannedK s plan).2 != 0) = true, true = true, true = true, true = true])
    (hr : AvLe (.bool false) res) : G Try.prog E [.code (bodyAt Try.prog 16)] ⟨[.agg [.rsl (rowStg s.stages) 0 s.stages.length, .rsl (rowI s.worth) 0 s.worth.length, .int .i64 s.price], .int .i64 kd, .rsl (rowI plan) 0 plan.length] ++ unds (Try.f16.ntmps - 3), []⟩ :=
  end_stepL (n := 400) (evs := [.v (.tup [.rsl (rowFr2 ((noticeK s).1)) 0 (((noticeK s).1).length), .int .i64 ((noticeK s).2)]), .b false, .b false, .b false, .v (.int .i64 (planE s plan)), .b false, .v (.tup [.rsl (rowI ((choiceK s kd 2 1).1)) 0 (((choiceK s kd 2 1).1).length), .int .i64 ((choiceK s kd 2 1).2)]), .v (.tup [.rsl (rowI ((choiceK s kd 1 2).1)) 0 (((choiceK s kd 1 2).1).length), .int .i64 ((choiceK s kd 1 2).2)]), .b false, .b false, .b false, .b false, .b false, .v (.rsl (rowI (mixI s plan ((choiceK s kd 2 1).1))) 0 ((mixI s plan ((choiceK s kd 2 1).1)).length)), .v (.tup [.rsl (rowFr ((plannedK s (mixI s plan ((choiceK s kd 2 1).1))).1)) 0 (((plannedK s (mixI s plan ((choiceK s kd 2 1).1))).1).length), .int .i64 ((plannedK s (mixI s plan ((choiceK s kd 2 1).1))).2)]), .v (.rsl (rowI (mixI s plan ((choiceK s kd 1 2).1))) 0 ((mixI s plan ((choiceK s kd 1 2).1)).length)), .v (.tup [.rsl (rowFr ((plannedK s (mixI s plan ((choiceK s kd 1 2).1))).1)) 0 (((plannedK s (mixI s plan ((choiceK s kd 1 2).1))).1).length), .int .i64 ((plannedK s (mixI s plan ((choiceK s kd 1 2).1))).2)]), .v (.tup [.rsl (rowFr ((plannedK s plan).1)) 0 (((plannedK s plan).1).length), .int .i64 ((plannedK s plan).2)]), .b false, .b false, .b true, .b true, .b true, .b true]) (obs := _) hE Try.func16 mixed (by kernel_rfl) ho hr
theorem p16_start_12 (s : Stl) (kd : Int) (plan : (List Int))   {E : Env} {res : AV} (hE : PureE Try.prog 16 res E) (ho : AllP [PureF Try.prog (.clos 55 [] []) [.agg [.rsl (rowStg s.stages) 0 s.stages.length, .rsl (rowI s.worth) 0 s.worth.length, .int .i64 s.price]] (.tup [.rsl (rowFr2 ((noticeK s).1)) 0 (((noticeK s).1).length), .int .i64 ((noticeK s).2)]), ((noticeK s).2 != 0) = false, (decide (kd < 0)) = false, (decide (kd ≥ (s.worth.length : Int))) = false, PureF Try.prog (.clos 30 [] []) [.agg [.rsl (rowStg s.stages) 0 s.stages.length, .rsl (rowI s.worth) 0 s.worth.length, .int .i64 s.price], .rsl (rowI plan) 0 plan.length] (.int .i64 (planE s plan)), ((planE s plan) != 0) = false, PureF Try.prog (.clos 27 [] []) [.agg [.rsl (rowStg s.stages) 0 s.stages.length, .rsl (rowI s.worth) 0 s.worth.length, .int .i64 s.price], .int .i64 kd, .int .i64 2, .int .i64 1] (.tup [.rsl (rowI ((choiceK s kd 2 1).1)) 0 (((choiceK s kd 2 1).1).length), .int .i64 ((choiceK s kd 2 1).2)]), PureF Try.prog (.clos 27 [] []) [.agg [.rsl (rowStg s.stages) 0 s.stages.length, .rsl (rowI s.worth) 0 s.worth.length, .int .i64 s.price], .int .i64 kd, .int .i64 1, .int .i64 2] (.tup [.rsl (rowI ((choiceK s kd 1 2).1)) 0 (((choiceK s kd 1 2).1).length), .int .i64 ((choiceK s kd 1 2).2)]), ((choiceK s kd 2 1).2 != 0) = false, ((choiceK s kd 1 2).2 != 0) = false, (((((noticeK s).1).length : Nat) : Int) != (s.worth.length : Int)) = false, (((((choiceK s kd 2 1).1).length : Nat) : Int) != (s.stages.length : Int)) = false, (((((choiceK s kd 1 2).1).length : Nat) : Int) != (s.stages.length : Int)) = false, PureF Try.prog (.clos 59 [] []) [.agg [.rsl (rowStg s.stages) 0 s.stages.length, .rsl (rowI s.worth) 0 s.worth.length, .int .i64 s.price], .rsl (rowI plan) 0 plan.length, .rsl (rowI ((choiceK s kd 2 1).1)) 0 (((choiceK s kd 2 1).1).length)] (.rsl (rowI (mixI s plan ((choiceK s kd 2 1).1))) 0 ((mixI s plan ((choiceK s kd 2 1).1)).length)), PureF Try.prog (.clos 40 [] []) [.agg [.rsl (rowStg s.stages) 0 s.stages.length, .rsl (rowI s.worth) 0 s.worth.length, .int .i64 s.price], .rsl (rowI (mixI s plan ((choiceK s kd 2 1).1))) 0 ((mixI s plan ((choiceK s kd 2 1).1)).length)] (.tup [.rsl (rowFr ((plannedK s (mixI s plan ((choiceK s kd 2 1).1))).1)) 0 (((plannedK s (mixI s plan ((choiceK s kd 2 1).1))).1).length), .int .i64 ((plannedK s (mixI s plan ((choiceK s kd 2 1).1))).2)]), PureF Try.prog (.clos 59 [] []) [.agg [.rsl (rowStg s.stages) 0 s.stages.length, .rsl (rowI s.worth) 0 s.worth.length, .int .i64 s.price], .rsl (rowI plan) 0 plan.length, .rsl (rowI ((choiceK s kd 1 2).1)) 0 (((choiceK s kd 1 2).1).length)] (.rsl (rowI (mixI s plan ((choiceK s kd 1 2).1))) 0 ((mixI s plan ((choiceK s kd 1 2).1)).length)), PureF Try.prog (.clos 40 [] []) [.agg [.rsl (rowStg s.stages) 0 s.stages.length, .rsl (rowI s.worth) 0 s.worth.length, .int .i64 s.price], .rsl (rowI (mixI s plan ((choiceK s kd 1 2).1))) 0 ((mixI s plan ((choiceK s kd 1 2).1)).length)] (.tup [.rsl (rowFr ((plannedK s (mixI s plan ((choiceK s kd 1 2).1))).1)) 0 (((plannedK s (mixI s plan ((choiceK s kd 1 2).1))).1).length), .int .i64 ((plannedK s (mixI s plan ((choiceK s kd 1 2).1))).2)]), PureF Try.prog (.clos 40 [] []) [.agg [.rsl (rowStg s.stages) 0 s.stages.length, .rsl (rowI s.worth) 0 s.worth.length, .int .i64 s.price], .rsl (rowI plan) 0 plan.length] (.tup [.rsl (rowFr ((plannedK s plan).1)) 0 (((plannedK s plan).1).length), .int .i64 ((plannedK s plan).2)]), ((plannedK s (mixI s plan ((choiceK s kd 2 1).1))).2 != 0) = false, ((plannedK s (mixI s plan ((choiceK s kd 1 2).1))).2 != 0) = false, ((plannedK s plan).2 != 0) = false, (((((plannedK s (mixI s plan ((choiceK s kd 2 1).1))).1).length : Nat) : Int) != (s.worth.length : Int)) = true, true = true, true = true])
    (hr : AvLe (.bool false) res) : G Try.prog E [.code (bodyAt Try.prog 16)] ⟨[.agg [.rsl (rowStg s.stages) 0 s.stages.length, .rsl (rowI s.worth) 0 s.worth.length, .int .i64 s.price], .int .i64 kd, .rsl (rowI plan) 0 plan.length] ++ unds (Try.f16.ntmps - 3), []⟩ :=
  end_stepL (n := 400) (evs := [.v (.tup [.rsl (rowFr2 ((noticeK s).1)) 0 (((noticeK s).1).length), .int .i64 ((noticeK s).2)]), .b false, .b false, .b false, .v (.int .i64 (planE s plan)), .b false, .v (.tup [.rsl (rowI ((choiceK s kd 2 1).1)) 0 (((choiceK s kd 2 1).1).length), .int .i64 ((choiceK s kd 2 1).2)]), .v (.tup [.rsl (rowI ((choiceK s kd 1 2).1)) 0 (((choiceK s kd 1 2).1).length), .int .i64 ((choiceK s kd 1 2).2)]), .b false, .b false, .b false, .b false, .b false, .v (.rsl (rowI (mixI s plan ((choiceK s kd 2 1).1))) 0 ((mixI s plan ((choiceK s kd 2 1).1)).length)), .v (.tup [.rsl (rowFr ((plannedK s (mixI s plan ((choiceK s kd 2 1).1))).1)) 0 (((plannedK s (mixI s plan ((choiceK s kd 2 1).1))).1).length), .int .i64 ((plannedK s (mixI s plan ((choiceK s kd 2 1).1))).2)]), .v (.rsl (rowI (mixI s plan ((choiceK s kd 1 2).1))) 0 ((mixI s plan ((choiceK s kd 1 2).1)).length)), .v (.tup [.rsl (rowFr ((plannedK s (mixI s plan ((choiceK s kd 1 2).1))).1)) 0 (((plannedK s (mixI s plan ((choiceK s kd 1 2).1))).1).length), .int .i64 ((plannedK s (mixI s plan ((choiceK s kd 1 2).1))).2)]), .v (.tup [.rsl (rowFr ((plannedK s plan).1)) 0 (((plannedK s plan).1).length), .int .i64 ((plannedK s plan).2)]), .b false, .b false, .b false, .b true, .b true, .b true]) (obs := _) hE Try.func16 mixed (by kernel_rfl) ho hr
theorem p16_start_13 (s : Stl) (kd : Int) (plan : (List Int))   {E : Env} {res : AV} (hE : PureE Try.prog 16 res E) (ho : AllP [PureF Try.prog (.clos 55 [] []) [.agg [.rsl (rowStg s.stages) 0 s.stages.length, .rsl (rowI s.worth) 0 s.worth.length, .int .i64 s.price]] (.tup [.rsl (rowFr2 ((noticeK s).1)) 0 (((noticeK s).1).length), .int .i64 ((noticeK s).2)]), ((noticeK s).2 != 0) = false, (decide (kd < 0)) = false, (decide (kd ≥ (s.worth.length : Int))) = false, PureF Try.prog (.clos 30 [] []) [.agg [.rsl (rowStg s.stages) 0 s.stages.length, .rsl (rowI s.worth) 0 s.worth.length, .int .i64 s.price], .rsl (rowI plan) 0 plan.length] (.int .i64 (planE s plan)), ((planE s plan) != 0) = false, PureF Try.prog (.clos 27 [] []) [.agg [.rsl (rowStg s.stages) 0 s.stages.length, .rsl (rowI s.worth) 0 s.worth.length, .int .i64 s.price], .int .i64 kd, .int .i64 2, .int .i64 1] (.tup [.rsl (rowI ((choiceK s kd 2 1).1)) 0 (((choiceK s kd 2 1).1).length), .int .i64 ((choiceK s kd 2 1).2)]), PureF Try.prog (.clos 27 [] []) [.agg [.rsl (rowStg s.stages) 0 s.stages.length, .rsl (rowI s.worth) 0 s.worth.length, .int .i64 s.price], .int .i64 kd, .int .i64 1, .int .i64 2] (.tup [.rsl (rowI ((choiceK s kd 1 2).1)) 0 (((choiceK s kd 1 2).1).length), .int .i64 ((choiceK s kd 1 2).2)]), ((choiceK s kd 2 1).2 != 0) = false, ((choiceK s kd 1 2).2 != 0) = false, (((((noticeK s).1).length : Nat) : Int) != (s.worth.length : Int)) = false, (((((choiceK s kd 2 1).1).length : Nat) : Int) != (s.stages.length : Int)) = false, (((((choiceK s kd 1 2).1).length : Nat) : Int) != (s.stages.length : Int)) = false, PureF Try.prog (.clos 59 [] []) [.agg [.rsl (rowStg s.stages) 0 s.stages.length, .rsl (rowI s.worth) 0 s.worth.length, .int .i64 s.price], .rsl (rowI plan) 0 plan.length, .rsl (rowI ((choiceK s kd 2 1).1)) 0 (((choiceK s kd 2 1).1).length)] (.rsl (rowI (mixI s plan ((choiceK s kd 2 1).1))) 0 ((mixI s plan ((choiceK s kd 2 1).1)).length)), PureF Try.prog (.clos 40 [] []) [.agg [.rsl (rowStg s.stages) 0 s.stages.length, .rsl (rowI s.worth) 0 s.worth.length, .int .i64 s.price], .rsl (rowI (mixI s plan ((choiceK s kd 2 1).1))) 0 ((mixI s plan ((choiceK s kd 2 1).1)).length)] (.tup [.rsl (rowFr ((plannedK s (mixI s plan ((choiceK s kd 2 1).1))).1)) 0 (((plannedK s (mixI s plan ((choiceK s kd 2 1).1))).1).length), .int .i64 ((plannedK s (mixI s plan ((choiceK s kd 2 1).1))).2)]), PureF Try.prog (.clos 59 [] []) [.agg [.rsl (rowStg s.stages) 0 s.stages.length, .rsl (rowI s.worth) 0 s.worth.length, .int .i64 s.price], .rsl (rowI plan) 0 plan.length, .rsl (rowI ((choiceK s kd 1 2).1)) 0 (((choiceK s kd 1 2).1).length)] (.rsl (rowI (mixI s plan ((choiceK s kd 1 2).1))) 0 ((mixI s plan ((choiceK s kd 1 2).1)).length)), PureF Try.prog (.clos 40 [] []) [.agg [.rsl (rowStg s.stages) 0 s.stages.length, .rsl (rowI s.worth) 0 s.worth.length, .int .i64 s.price], .rsl (rowI (mixI s plan ((choiceK s kd 1 2).1))) 0 ((mixI s plan ((choiceK s kd 1 2).1)).length)] (.tup [.rsl (rowFr ((plannedK s (mixI s plan ((choiceK s kd 1 2).1))).1)) 0 (((plannedK s (mixI s plan ((choiceK s kd 1 2).1))).1).length), .int .i64 ((plannedK s (mixI s plan ((choiceK s kd 1 2).1))).2)]), PureF Try.prog (.clos 40 [] []) [.agg [.rsl (rowStg s.stages) 0 s.stages.length, .rsl (rowI s.worth) 0 s.worth.length, .int .i64 s.price], .rsl (rowI plan) 0 plan.length] (.tup [.rsl (rowFr ((plannedK s plan).1)) 0 (((plannedK s plan).1).length), .int .i64 ((plannedK s plan).2)]), ((plannedK s (mixI s plan ((choiceK s kd 2 1).1))).2 != 0) = false, ((plannedK s (mixI s plan ((choiceK s kd 1 2).1))).2 != 0) = false, ((plannedK s plan).2 != 0) = false, (((((plannedK s (mixI s plan ((choiceK s kd 2 1).1))).1).length : Nat) : Int) != (s.worth.length : Int)) = false, (((((plannedK s (mixI s plan ((choiceK s kd 1 2).1))).1).length : Nat) : Int) != (s.worth.length : Int)) = true, true = true])
    (hr : AvLe (.bool false) res) : G Try.prog E [.code (bodyAt Try.prog 16)] ⟨[.agg [.rsl (rowStg s.stages) 0 s.stages.length, .rsl (rowI s.worth) 0 s.worth.length, .int .i64 s.price], .int .i64 kd, .rsl (rowI plan) 0 plan.length] ++ unds (Try.f16.ntmps - 3), []⟩ :=
  end_stepL (n := 400) (evs := [.v (.tup [.rsl (rowFr2 ((noticeK s).1)) 0 (((noticeK s).1).length), .int .i64 ((noticeK s).2)]), .b false, .b false, .b false, .v (.int .i64 (planE s plan)), .b false, .v (.tup [.rsl (rowI ((choiceK s kd 2 1).1)) 0 (((choiceK s kd 2 1).1).length), .int .i64 ((choiceK s kd 2 1).2)]), .v (.tup [.rsl (rowI ((choiceK s kd 1 2).1)) 0 (((choiceK s kd 1 2).1).length), .int .i64 ((choiceK s kd 1 2).2)]), .b false, .b false, .b false, .b false, .b false, .v (.rsl (rowI (mixI s plan ((choiceK s kd 2 1).1))) 0 ((mixI s plan ((choiceK s kd 2 1).1)).length)), .v (.tup [.rsl (rowFr ((plannedK s (mixI s plan ((choiceK s kd 2 1).1))).1)) 0 (((plannedK s (mixI s plan ((choiceK s kd 2 1).1))).1).length), .int .i64 ((plannedK s (mixI s plan ((choiceK s kd 2 1).1))).2)]), .v (.rsl (rowI (mixI s plan ((choiceK s kd 1 2).1))) 0 ((mixI s plan ((choiceK s kd 1 2).1)).length)), .v (.tup [.rsl (rowFr ((plannedK s (mixI s plan ((choiceK s kd 1 2).1))).1)) 0 (((plannedK s (mixI s plan ((choiceK s kd 1 2).1))).1).length), .int .i64 ((plannedK s (mixI s plan ((choiceK s kd 1 2).1))).2)]), .v (.tup [.rsl (rowFr ((plannedK s plan).1)) 0 (((plannedK s plan).1).length), .int .i64 ((plannedK s plan).2)]), .b false, .b false, .b false, .b false, .b true, .b true]) (obs := _) hE Try.func16 mixed (by kernel_rfl) ho hr
theorem p16_start_14 (s : Stl) (kd : Int) (plan : (List Int))   {E : Env} {res : AV} (hE : PureE Try.prog 16 res E) (ho : AllP [PureF Try.prog (.clos 55 [] []) [.agg [.rsl (rowStg s.stages) 0 s.stages.length, .rsl (rowI s.worth) 0 s.worth.length, .int .i64 s.price]] (.tup [.rsl (rowFr2 ((noticeK s).1)) 0 (((noticeK s).1).length), .int .i64 ((noticeK s).2)]), ((noticeK s).2 != 0) = false, (decide (kd < 0)) = false, (decide (kd ≥ (s.worth.length : Int))) = false, PureF Try.prog (.clos 30 [] []) [.agg [.rsl (rowStg s.stages) 0 s.stages.length, .rsl (rowI s.worth) 0 s.worth.length, .int .i64 s.price], .rsl (rowI plan) 0 plan.length] (.int .i64 (planE s plan)), ((planE s plan) != 0) = false, PureF Try.prog (.clos 27 [] []) [.agg [.rsl (rowStg s.stages) 0 s.stages.length, .rsl (rowI s.worth) 0 s.worth.length, .int .i64 s.price], .int .i64 kd, .int .i64 2, .int .i64 1] (.tup [.rsl (rowI ((choiceK s kd 2 1).1)) 0 (((choiceK s kd 2 1).1).length), .int .i64 ((choiceK s kd 2 1).2)]), PureF Try.prog (.clos 27 [] []) [.agg [.rsl (rowStg s.stages) 0 s.stages.length, .rsl (rowI s.worth) 0 s.worth.length, .int .i64 s.price], .int .i64 kd, .int .i64 1, .int .i64 2] (.tup [.rsl (rowI ((choiceK s kd 1 2).1)) 0 (((choiceK s kd 1 2).1).length), .int .i64 ((choiceK s kd 1 2).2)]), ((choiceK s kd 2 1).2 != 0) = false, ((choiceK s kd 1 2).2 != 0) = false, (((((noticeK s).1).length : Nat) : Int) != (s.worth.length : Int)) = false, (((((choiceK s kd 2 1).1).length : Nat) : Int) != (s.stages.length : Int)) = false, (((((choiceK s kd 1 2).1).length : Nat) : Int) != (s.stages.length : Int)) = false, PureF Try.prog (.clos 59 [] []) [.agg [.rsl (rowStg s.stages) 0 s.stages.length, .rsl (rowI s.worth) 0 s.worth.length, .int .i64 s.price], .rsl (rowI plan) 0 plan.length, .rsl (rowI ((choiceK s kd 2 1).1)) 0 (((choiceK s kd 2 1).1).length)] (.rsl (rowI (mixI s plan ((choiceK s kd 2 1).1))) 0 ((mixI s plan ((choiceK s kd 2 1).1)).length)), PureF Try.prog (.clos 40 [] []) [.agg [.rsl (rowStg s.stages) 0 s.stages.length, .rsl (rowI s.worth) 0 s.worth.length, .int .i64 s.price], .rsl (rowI (mixI s plan ((choiceK s kd 2 1).1))) 0 ((mixI s plan ((choiceK s kd 2 1).1)).length)] (.tup [.rsl (rowFr ((plannedK s (mixI s plan ((choiceK s kd 2 1).1))).1)) 0 (((plannedK s (mixI s plan ((choiceK s kd 2 1).1))).1).length), .int .i64 ((plannedK s (mixI s plan ((choiceK s kd 2 1).1))).2)]), PureF Try.prog (.clos 59 [] []) [.agg [.rsl (rowStg s.stages) 0 s.stages.length, .rsl (rowI s.worth) 0 s.worth.length, .int .i64 s.price], .rsl (rowI plan) 0 plan.length, .rsl (rowI ((choiceK s kd 1 2).1)) 0 (((choiceK s kd 1 2).1).length)] (.rsl (rowI (mixI s plan ((choiceK s kd 1 2).1))) 0 ((mixI s plan ((choiceK s kd 1 2).1)).length)), PureF Try.prog (.clos 40 [] []) [.agg [.rsl (rowStg s.stages) 0 s.stages.length, .rsl (rowI s.worth) 0 s.worth.length, .int .i64 s.price], .rsl (rowI (mixI s plan ((choiceK s kd 1 2).1))) 0 ((mixI s plan ((choiceK s kd 1 2).1)).length)] (.tup [.rsl (rowFr ((plannedK s (mixI s plan ((choiceK s kd 1 2).1))).1)) 0 (((plannedK s (mixI s plan ((choiceK s kd 1 2).1))).1).length), .int .i64 ((plannedK s (mixI s plan ((choiceK s kd 1 2).1))).2)]), PureF Try.prog (.clos 40 [] []) [.agg [.rsl (rowStg s.stages) 0 s.stages.length, .rsl (rowI s.worth) 0 s.worth.length, .int .i64 s.price], .rsl (rowI plan) 0 plan.length] (.tup [.rsl (rowFr ((plannedK s plan).1)) 0 (((plannedK s plan).1).length), .int .i64 ((plannedK s plan).2)]), ((plannedK s (mixI s plan ((choiceK s kd 2 1).1))).2 != 0) = false, ((plannedK s (mixI s plan ((choiceK s kd 1 2).1))).2 != 0) = false, ((plannedK s plan).2 != 0) = false, (((((plannedK s (mixI s plan ((choiceK s kd 2 1).1))).1).length : Nat) : Int) != (s.worth.length : Int)) = false, (((((plannedK s (mixI s plan ((choiceK s kd 1 2).1))).1).length : Nat) : Int) != (s.worth.length : Int)) = false, (((((plannedK s plan).1).length : Nat) : Int) != (s.worth.length : Int)) = true])
    (hr : AvLe (.bool false) res) : G Try.prog E [.code (bodyAt Try.prog 16)] ⟨[.agg [.rsl (rowStg s.stages) 0 s.stages.length, .rsl (rowI s.worth) 0 s.worth.length, .int .i64 s.price], .int .i64 kd, .rsl (rowI plan) 0 plan.length] ++ unds (Try.f16.ntmps - 3), []⟩ :=
  end_stepL (n := 400) (evs := [.v (.tup [.rsl (rowFr2 ((noticeK s).1)) 0 (((noticeK s).1).length), .int .i64 ((noticeK s).2)]), .b false, .b false, .b false, .v (.int .i64 (planE s plan)), .b false, .v (.tup [.rsl (rowI ((choiceK s kd 2 1).1)) 0 (((choiceK s kd 2 1).1).length), .int .i64 ((choiceK s kd 2 1).2)]), .v (.tup [.rsl (rowI ((choiceK s kd 1 2).1)) 0 (((choiceK s kd 1 2).1).length), .int .i64 ((choiceK s kd 1 2).2)]), .b false, .b false, .b false, .b false, .b false, .v (.rsl (rowI (mixI s plan ((choiceK s kd 2 1).1))) 0 ((mixI s plan ((choiceK s kd 2 1).1)).length)), .v (.tup [.rsl (rowFr ((plannedK s (mixI s plan ((choiceK s kd 2 1).1))).1)) 0 (((plannedK s (mixI s plan ((choiceK s kd 2 1).1))).1).length), .int .i64 ((plannedK s (mixI s plan ((choiceK s kd 2 1).1))).2)]), .v (.rsl (rowI (mixI s plan ((choiceK s kd 1 2).1))) 0 ((mixI s plan ((choiceK s kd 1 2).1)).length)), .v (.tup [.rsl (rowFr ((plannedK s (mixI s plan ((choiceK s kd 1 2).1))).1)) 0 (((plannedK s (mixI s plan ((choiceK s kd 1 2).1))).1).length), .int .i64 ((plannedK s (mixI s plan ((choiceK s kd 1 2).1))).2)]), .v (.tup [.rsl (rowFr ((plannedK s plan).1)) 0 (((plannedK s plan).1).length), .int .i64 ((plannedK s plan).2)]), .b false, .b false, .b false, .b false, .b false, .b true]) (obs := _) hE Try.func16 mixed (by kernel_rfl) ho hr
theorem p16_start_15 (s : Stl) (kd : Int) (plan : (List Int))  (fe : Fr) (fe1 : Fr2)  {E : Env} {res : AV} (hE : PureE Try.prog 16 res E) (ho : AllP [PureF Try.prog (.clos 55 [] []) [.agg [.rsl (rowStg s.stages) 0 s.stages.length, .rsl (rowI s.worth) 0 s.worth.length, .int .i64 s.price]] (.tup [.rsl (rowFr2 ((noticeK s).1)) 0 (((noticeK s).1).length), .int .i64 ((noticeK s).2)]), ((noticeK s).2 != 0) = false, (decide (kd < 0)) = false, (decide (kd ≥ (s.worth.length : Int))) = false, PureF Try.prog (.clos 30 [] []) [.agg [.rsl (rowStg s.stages) 0 s.stages.length, .rsl (rowI s.worth) 0 s.worth.length, .int .i64 s.price], .rsl (rowI plan) 0 plan.length] (.int .i64 (planE s plan)), ((planE s plan) != 0) = false, PureF Try.prog (.clos 27 [] []) [.agg [.rsl (rowStg s.stages) 0 s.stages.length, .rsl (rowI s.worth) 0 s.worth.length, .int .i64 s.price], .int .i64 kd, .int .i64 2, .int .i64 1] (.tup [.rsl (rowI ((choiceK s kd 2 1).1)) 0 (((choiceK s kd 2 1).1).length), .int .i64 ((choiceK s kd 2 1).2)]), PureF Try.prog (.clos 27 [] []) [.agg [.rsl (rowStg s.stages) 0 s.stages.length, .rsl (rowI s.worth) 0 s.worth.length, .int .i64 s.price], .int .i64 kd, .int .i64 1, .int .i64 2] (.tup [.rsl (rowI ((choiceK s kd 1 2).1)) 0 (((choiceK s kd 1 2).1).length), .int .i64 ((choiceK s kd 1 2).2)]), ((choiceK s kd 2 1).2 != 0) = false, ((choiceK s kd 1 2).2 != 0) = false, (((((noticeK s).1).length : Nat) : Int) != (s.worth.length : Int)) = false, (((((choiceK s kd 2 1).1).length : Nat) : Int) != (s.stages.length : Int)) = false, (((((choiceK s kd 1 2).1).length : Nat) : Int) != (s.stages.length : Int)) = false, PureF Try.prog (.clos 59 [] []) [.agg [.rsl (rowStg s.stages) 0 s.stages.length, .rsl (rowI s.worth) 0 s.worth.length, .int .i64 s.price], .rsl (rowI plan) 0 plan.length, .rsl (rowI ((choiceK s kd 2 1).1)) 0 (((choiceK s kd 2 1).1).length)] (.rsl (rowI (mixI s plan ((choiceK s kd 2 1).1))) 0 ((mixI s plan ((choiceK s kd 2 1).1)).length)), PureF Try.prog (.clos 40 [] []) [.agg [.rsl (rowStg s.stages) 0 s.stages.length, .rsl (rowI s.worth) 0 s.worth.length, .int .i64 s.price], .rsl (rowI (mixI s plan ((choiceK s kd 2 1).1))) 0 ((mixI s plan ((choiceK s kd 2 1).1)).length)] (.tup [.rsl (rowFr ((plannedK s (mixI s plan ((choiceK s kd 2 1).1))).1)) 0 (((plannedK s (mixI s plan ((choiceK s kd 2 1).1))).1).length), .int .i64 ((plannedK s (mixI s plan ((choiceK s kd 2 1).1))).2)]), PureF Try.prog (.clos 59 [] []) [.agg [.rsl (rowStg s.stages) 0 s.stages.length, .rsl (rowI s.worth) 0 s.worth.length, .int .i64 s.price], .rsl (rowI plan) 0 plan.length, .rsl (rowI ((choiceK s kd 1 2).1)) 0 (((choiceK s kd 1 2).1).length)] (.rsl (rowI (mixI s plan ((choiceK s kd 1 2).1))) 0 ((mixI s plan ((choiceK s kd 1 2).1)).length)), PureF Try.prog (.clos 40 [] []) [.agg [.rsl (rowStg s.stages) 0 s.stages.length, .rsl (rowI s.worth) 0 s.worth.length, .int .i64 s.price], .rsl (rowI (mixI s plan ((choiceK s kd 1 2).1))) 0 ((mixI s plan ((choiceK s kd 1 2).1)).length)] (.tup [.rsl (rowFr ((plannedK s (mixI s plan ((choiceK s kd 1 2).1))).1)) 0 (((plannedK s (mixI s plan ((choiceK s kd 1 2).1))).1).length), .int .i64 ((plannedK s (mixI s plan ((choiceK s kd 1 2).1))).2)]), PureF Try.prog (.clos 40 [] []) [.agg [.rsl (rowStg s.stages) 0 s.stages.length, .rsl (rowI s.worth) 0 s.worth.length, .int .i64 s.price], .rsl (rowI plan) 0 plan.length] (.tup [.rsl (rowFr ((plannedK s plan).1)) 0 (((plannedK s plan).1).length), .int .i64 ((plannedK s plan).2)]), ((plannedK s (mixI s plan ((choiceK s kd 2 1).1))).2 != 0) = false, ((plannedK s (mixI s plan ((choiceK s kd 1 2).1))).2 != 0) = false, ((plannedK s plan).2 != 0) = false, (((((plannedK s (mixI s plan ((choiceK s kd 2 1).1))).1).length : Nat) : Int) != (s.worth.length : Int)) = false, (((((plannedK s (mixI s plan ((choiceK s kd 1 2).1))).1).length : Nat) : Int) != (s.worth.length : Int)) = false, (((((plannedK s plan).1).length : Nat) : Int) != (s.worth.length : Int)) = false, 0 ≤ kd ∧ kd < ((((plannedK s (mixI s plan ((choiceK s kd 2 1).1))).1).length : Nat) : Int), ((rowFr ((plannedK s (mixI s plan ((choiceK s kd 2 1).1))).1)).drop (0 + (Int.toNat kd) * 2)).take 2 = [.int .i64 fe.num, .int .i64 fe.den], 0 ≤ kd ∧ kd < ((((noticeK s).1).length : Nat) : Int), (0 : Int) ≤ 1 ∧ (1 : Int) < ((2 : Nat) : Int), ((rowFr2 ((noticeK s).1)).drop ((0 + (Int.toNat kd) * 4) + 2)).take 2 = [.int .i64 fe1.hi.num, .int .i64 fe1.hi.den], (!(fe.num == fe1.hi.num && (fe.den == fe1.hi.den && true))) = true, true = true])
    (hr : AvLe (.bool false) res) : G Try.prog E [.code (bodyAt Try.prog 16)] ⟨[.agg [.rsl (rowStg s.stages) 0 s.stages.length, .rsl (rowI s.worth) 0 s.worth.length, .int .i64 s.price], .int .i64 kd, .rsl (rowI plan) 0 plan.length] ++ unds (Try.f16.ntmps - 3), []⟩ :=
  end_stepL (n := 400) (evs := [.v (.tup [.rsl (rowFr2 ((noticeK s).1)) 0 (((noticeK s).1).length), .int .i64 ((noticeK s).2)]), .b false, .b false, .b false, .v (.int .i64 (planE s plan)), .b false, .v (.tup [.rsl (rowI ((choiceK s kd 2 1).1)) 0 (((choiceK s kd 2 1).1).length), .int .i64 ((choiceK s kd 2 1).2)]), .v (.tup [.rsl (rowI ((choiceK s kd 1 2).1)) 0 (((choiceK s kd 1 2).1).length), .int .i64 ((choiceK s kd 1 2).2)]), .b false, .b false, .b false, .b false, .b false, .v (.rsl (rowI (mixI s plan ((choiceK s kd 2 1).1))) 0 ((mixI s plan ((choiceK s kd 2 1).1)).length)), .v (.tup [.rsl (rowFr ((plannedK s (mixI s plan ((choiceK s kd 2 1).1))).1)) 0 (((plannedK s (mixI s plan ((choiceK s kd 2 1).1))).1).length), .int .i64 ((plannedK s (mixI s plan ((choiceK s kd 2 1).1))).2)]), .v (.rsl (rowI (mixI s plan ((choiceK s kd 1 2).1))) 0 ((mixI s plan ((choiceK s kd 1 2).1)).length)), .v (.tup [.rsl (rowFr ((plannedK s (mixI s plan ((choiceK s kd 1 2).1))).1)) 0 (((plannedK s (mixI s plan ((choiceK s kd 1 2).1))).1).length), .int .i64 ((plannedK s (mixI s plan ((choiceK s kd 1 2).1))).2)]), .v (.tup [.rsl (rowFr ((plannedK s plan).1)) 0 (((plannedK s plan).1).length), .int .i64 ((plannedK s plan).2)]), .b false, .b false, .b false, .b false, .b false, .b false, .ld (.agg [.int .i64 fe.num, .int .i64 fe.den]), .ld (.agg [.int .i64 fe1.hi.num, .int .i64 fe1.hi.den]), .b true, .b true]) (obs := _) hE Try.func16 mixed (by kernel_rfl) ho hr
theorem p16_start_16 (s : Stl) (kd : Int) (plan : (List Int))  (fe : Fr) (fe1 : Fr2) (fe2 : Fr)  {E : Env} {res : AV} (hE : PureE Try.prog 16 res E) (ho : AllP [PureF Try.prog (.clos 55 [] []) [.agg [.rsl (rowStg s.stages) 0 s.stages.length, .rsl (rowI s.worth) 0 s.worth.length, .int .i64 s.price]] (.tup [.rsl (rowFr2 ((noticeK s).1)) 0 (((noticeK s).1).length), .int .i64 ((noticeK s).2)]), ((noticeK s).2 != 0) = false, (decide (kd < 0)) = false, (decide (kd ≥ (s.worth.length : Int))) = false, PureF Try.prog (.clos 30 [] []) [.agg [.rsl (rowStg s.stages) 0 s.stages.length, .rsl (rowI s.worth) 0 s.worth.length, .int .i64 s.price], .rsl (rowI plan) 0 plan.length] (.int .i64 (planE s plan)), ((planE s plan) != 0) = false, PureF Try.prog (.clos 27 [] []) [.agg [.rsl (rowStg s.stages) 0 s.stages.length, .rsl (rowI s.worth) 0 s.worth.length, .int .i64 s.price], .int .i64 kd, .int .i64 2, .int .i64 1] (.tup [.rsl (rowI ((choiceK s kd 2 1).1)) 0 (((choiceK s kd 2 1).1).length), .int .i64 ((choiceK s kd 2 1).2)]), PureF Try.prog (.clos 27 [] []) [.agg [.rsl (rowStg s.stages) 0 s.stages.length, .rsl (rowI s.worth) 0 s.worth.length, .int .i64 s.price], .int .i64 kd, .int .i64 1, .int .i64 2] (.tup [.rsl (rowI ((choiceK s kd 1 2).1)) 0 (((choiceK s kd 1 2).1).length), .int .i64 ((choiceK s kd 1 2).2)]), ((choiceK s kd 2 1).2 != 0) = false, ((choiceK s kd 1 2).2 != 0) = false, (((((noticeK s).1).length : Nat) : Int) != (s.worth.length : Int)) = false, (((((choiceK s kd 2 1).1).length : Nat) : Int) != (s.stages.length : Int)) = false, (((((choiceK s kd 1 2).1).length : Nat) : Int) != (s.stages.length : Int)) = false, PureF Try.prog (.clos 59 [] []) [.agg [.rsl (rowStg s.stages) 0 s.stages.length, .rsl (rowI s.worth) 0 s.worth.length, .int .i64 s.price], .rsl (rowI plan) 0 plan.length, .rsl (rowI ((choiceK s kd 2 1).1)) 0 (((choiceK s kd 2 1).1).length)] (.rsl (rowI (mixI s plan ((choiceK s kd 2 1).1))) 0 ((mixI s plan ((choiceK s kd 2 1).1)).length)), PureF Try.prog (.clos 40 [] []) [.agg [.rsl (rowStg s.stages) 0 s.stages.length, .rsl (rowI s.worth) 0 s.worth.length, .int .i64 s.price], .rsl (rowI (mixI s plan ((choiceK s kd 2 1).1))) 0 ((mixI s plan ((choiceK s kd 2 1).1)).length)] (.tup [.rsl (rowFr ((plannedK s (mixI s plan ((choiceK s kd 2 1).1))).1)) 0 (((plannedK s (mixI s plan ((choiceK s kd 2 1).1))).1).length), .int .i64 ((plannedK s (mixI s plan ((choiceK s kd 2 1).1))).2)]), PureF Try.prog (.clos 59 [] []) [.agg [.rsl (rowStg s.stages) 0 s.stages.length, .rsl (rowI s.worth) 0 s.worth.length, .int .i64 s.price], .rsl (rowI plan) 0 plan.length, .rsl (rowI ((choiceK s kd 1 2).1)) 0 (((choiceK s kd 1 2).1).length)] (.rsl (rowI (mixI s plan ((choiceK s kd 1 2).1))) 0 ((mixI s plan ((choiceK s kd 1 2).1)).length)), PureF Try.prog (.clos 40 [] []) [.agg [.rsl (rowStg s.stages) 0 s.stages.length, .rsl (rowI s.worth) 0 s.worth.length, .int .i64 s.price], .rsl (rowI (mixI s plan ((choiceK s kd 1 2).1))) 0 ((mixI s plan ((choiceK s kd 1 2).1)).length)] (.tup [.rsl (rowFr ((plannedK s (mixI s plan ((choiceK s kd 1 2).1))).1)) 0 (((plannedK s (mixI s plan ((choiceK s kd 1 2).1))).1).length), .int .i64 ((plannedK s (mixI s plan ((choiceK s kd 1 2).1))).2)]), PureF Try.prog (.clos 40 [] []) [.agg [.rsl (rowStg s.stages) 0 s.stages.length, .rsl (rowI s.worth) 0 s.worth.length, .int .i64 s.price], .rsl (rowI plan) 0 plan.length] (.tup [.rsl (rowFr ((plannedK s plan).1)) 0 (((plannedK s plan).1).length), .int .i64 ((plannedK s plan).2)]), ((plannedK s (mixI s plan ((choiceK s kd 2 1).1))).2 != 0) = false, ((plannedK s (mixI s plan ((choiceK s kd 1 2).1))).2 != 0) = false, ((plannedK s plan).2 != 0) = false, (((((plannedK s (mixI s plan ((choiceK s kd 2 1).1))).1).length : Nat) : Int) != (s.worth.length : Int)) = false, (((((plannedK s (mixI s plan ((choiceK s kd 1 2).1))).1).length : Nat) : Int) != (s.worth.length : Int)) = false, (((((plannedK s plan).1).length : Nat) : Int) != (s.worth.length : Int)) = false, 0 ≤ kd ∧ kd < ((((plannedK s (mixI s plan ((choiceK s kd 2 1).1))).1).length : Nat) : Int), ((rowFr ((plannedK s (mixI s plan ((choiceK s kd 2 1).1))).1)).drop (0 + (Int.toNat kd) * 2)).take 2 = [.int .i64 fe.num, .int .i64 fe.den], 0 ≤ kd ∧ kd < ((((noticeK s).1).length : Nat) : Int), (0 : Int) ≤ 1 ∧ (1 : Int) < ((2 : Nat) : Int), ((rowFr2 ((noticeK s).1)).drop ((0 + (Int.toNat kd) * 4) + 2)).take 2 = [.int .i64 fe1.hi.num, .int .i64 fe1.hi.den], (!(fe.num == fe1.hi.num && (fe.den == fe1.hi.den && true))) = false, 0 ≤ kd ∧ kd < ((((plannedK s (mixI s plan ((choiceK s kd 1 2).1))).1).length : Nat) : Int), ((rowFr ((plannedK s (mixI s plan ((choiceK s kd 1 2).1))).1)).drop (0 + (Int.toNat kd) * 2)).take 2 = [.int .i64 fe2.num, .int .i64 fe2.den], 0 ≤ kd ∧ kd < ((((noticeK s).1).length : Nat) : Int), (0 : Int) ≤ 0 ∧ (0 : Int) < ((2 : Nat) : Int), ((rowFr2 ((noticeK s).1)).drop ((0 + (Int.toNat kd) * 4) + 0)).take 2 = [.int .i64 fe1.lo.num, .int .i64 fe1.lo.den], (!(fe2.num == fe1.lo.num && (fe2.den == fe1.lo.den && true))) = true])
    (hr : AvLe (.bool false) res) : G Try.prog E [.code (bodyAt Try.prog 16)] ⟨[.agg [.rsl (rowStg s.stages) 0 s.stages.length, .rsl (rowI s.worth) 0 s.worth.length, .int .i64 s.price], .int .i64 kd, .rsl (rowI plan) 0 plan.length] ++ unds (Try.f16.ntmps - 3), []⟩ :=
  end_stepL (n := 400) (evs := [.v (.tup [.rsl (rowFr2 ((noticeK s).1)) 0 (((noticeK s).1).length), .int .i64 ((noticeK s).2)]), .b false, .b false, .b false, .v (.int .i64 (planE s plan)), .b false, .v (.tup [.rsl (rowI ((choiceK s kd 2 1).1)) 0 (((choiceK s kd 2 1).1).length), .int .i64 ((choiceK s kd 2 1).2)]), .v (.tup [.rsl (rowI ((choiceK s kd 1 2).1)) 0 (((choiceK s kd 1 2).1).length), .int .i64 ((choiceK s kd 1 2).2)]), .b false, .b false, .b false, .b false, .b false, .v (.rsl (rowI (mixI s plan ((choiceK s kd 2 1).1))) 0 ((mixI s plan ((choiceK s kd 2 1).1)).length)), .v (.tup [.rsl (rowFr ((plannedK s (mixI s plan ((choiceK s kd 2 1).1))).1)) 0 (((plannedK s (mixI s plan ((choiceK s kd 2 1).1))).1).length), .int .i64 ((plannedK s (mixI s plan ((choiceK s kd 2 1).1))).2)]), .v (.rsl (rowI (mixI s plan ((choiceK s kd 1 2).1))) 0 ((mixI s plan ((choiceK s kd 1 2).1)).length)), .v (.tup [.rsl (rowFr ((plannedK s (mixI s plan ((choiceK s kd 1 2).1))).1)) 0 (((plannedK s (mixI s plan ((choiceK s kd 1 2).1))).1).length), .int .i64 ((plannedK s (mixI s plan ((choiceK s kd 1 2).1))).2)]), .v (.tup [.rsl (rowFr ((plannedK s plan).1)) 0 (((plannedK s plan).1).length), .int .i64 ((plannedK s plan).2)]), .b false, .b false, .b false, .b false, .b false, .b false, .ld (.agg [.int .i64 fe.num, .int .i64 fe.den]), .ld (.agg [.int .i64 fe1.hi.num, .int .i64 fe1.hi.den]), .b false, .ld (.agg [.int .i64 fe2.num, .int .i64 fe2.den]), .ld (.agg [.int .i64 fe1.lo.num, .int .i64 fe1.lo.den]), .b true]) (obs := _) hE Try.func16 mixed (by kernel_rfl) ho hr
theorem p16_start_17 (s : Stl) (kd : Int) (plan : (List Int))  (fe : Fr) (fe1 : Fr2) (fe2 : Fr) (fe3 : Fr)  {E : Env} {res : AV} (hE : PureE Try.prog 16 res E) (ho : AllP [PureF Try.prog (.clos 55 [] []) [.agg [.rsl (rowStg s.stages) 0 s.stages.length, .rsl (rowI s.worth) 0 s.worth.length, .int .i64 s.price]] (.tup [.rsl (rowFr2 ((noticeK s).1)) 0 (((noticeK s).1).length), .int .i64 ((noticeK s).2)]), ((noticeK s).2 != 0) = false, (decide (kd < 0)) = false, (decide (kd ≥ (s.worth.length : Int))) = false, PureF Try.prog (.clos 30 [] []) [.agg [.rsl (rowStg s.stages) 0 s.stages.length, .rsl (rowI s.worth) 0 s.worth.length, .int .i64 s.price], .rsl (rowI plan) 0 plan.length] (.int .i64 (planE s plan)), ((planE s plan) != 0) = false, PureF Try.prog (.clos 27 [] []) [.agg [.rsl (rowStg s.stages) 0 s.stages.length, .rsl (rowI s.worth) 0 s.worth.length, .int .i64 s.price], .int .i64 kd, .int .i64 2, .int .i64 1] (.tup [.rsl (rowI ((choiceK s kd 2 1).1)) 0 (((choiceK s kd 2 1).1).length), .int .i64 ((choiceK s kd 2 1).2)]), PureF Try.prog (.clos 27 [] []) [.agg [.rsl (rowStg s.stages) 0 s.stages.length, .rsl (rowI s.worth) 0 s.worth.length, .int .i64 s.price], .int .i64 kd, .int .i64 1, .int .i64 2] (.tup [.rsl (rowI ((choiceK s kd 1 2).1)) 0 (((choiceK s kd 1 2).1).length), .int .i64 ((choiceK s kd 1 2).2)]), ((choiceK s kd 2 1).2 != 0) = false, ((choiceK s kd 1 2).2 != 0) = false, (((((noticeK s).1).length : Nat) : Int) != (s.worth.length : Int)) = false, (((((choiceK s kd 2 1).1).length : Nat) : Int) != (s.stages.length : Int)) = false, (((((choiceK s kd 1 2).1).length : Nat) : Int) != (s.stages.length : Int)) = false, PureF Try.prog (.clos 59 [] []) [.agg [.rsl (rowStg s.stages) 0 s.stages.length, .rsl (rowI s.worth) 0 s.worth.length, .int .i64 s.price], .rsl (rowI plan) 0 plan.length, .rsl (rowI ((choiceK s kd 2 1).1)) 0 (((choiceK s kd 2 1).1).length)] (.rsl (rowI (mixI s plan ((choiceK s kd 2 1).1))) 0 ((mixI s plan ((choiceK s kd 2 1).1)).length)), PureF Try.prog (.clos 40 [] []) [.agg [.rsl (rowStg s.stages) 0 s.stages.length, .rsl (rowI s.worth) 0 s.worth.length, .int .i64 s.price], .rsl (rowI (mixI s plan ((choiceK s kd 2 1).1))) 0 ((mixI s plan ((choiceK s kd 2 1).1)).length)] (.tup [.rsl (rowFr ((plannedK s (mixI s plan ((choiceK s kd 2 1).1))).1)) 0 (((plannedK s (mixI s plan ((choiceK s kd 2 1).1))).1).length), .int .i64 ((plannedK s (mixI s plan ((choiceK s kd 2 1).1))).2)]), PureF Try.prog (.clos 59 [] []) [.agg [.rsl (rowStg s.stages) 0 s.stages.length, .rsl (rowI s.worth) 0 s.worth.length, .int .i64 s.price], .rsl (rowI plan) 0 plan.length, .rsl (rowI ((choiceK s kd 1 2).1)) 0 (((choiceK s kd 1 2).1).length)] (.rsl (rowI (mixI s plan ((choiceK s kd 1 2).1))) 0 ((mixI s plan ((choiceK s kd 1 2).1)).length)), PureF Try.prog (.clos 40 [] []) [.agg [.rsl (rowStg s.stages) 0 s.stages.length, .rsl (rowI s.worth) 0 s.worth.length, .int .i64 s.price], .rsl (rowI (mixI s plan ((choiceK s kd 1 2).1))) 0 ((mixI s plan ((choiceK s kd 1 2).1)).length)] (.tup [.rsl (rowFr ((plannedK s (mixI s plan ((choiceK s kd 1 2).1))).1)) 0 (((plannedK s (mixI s plan ((choiceK s kd 1 2).1))).1).length), .int .i64 ((plannedK s (mixI s plan ((choiceK s kd 1 2).1))).2)]), PureF Try.prog (.clos 40 [] []) [.agg [.rsl (rowStg s.stages) 0 s.stages.length, .rsl (rowI s.worth) 0 s.worth.length, .int .i64 s.price], .rsl (rowI plan) 0 plan.length] (.tup [.rsl (rowFr ((plannedK s plan).1)) 0 (((plannedK s plan).1).length), .int .i64 ((plannedK s plan).2)]), ((plannedK s (mixI s plan ((choiceK s kd 2 1).1))).2 != 0) = false, ((plannedK s (mixI s plan ((choiceK s kd 1 2).1))).2 != 0) = false, ((plannedK s plan).2 != 0) = false, (((((plannedK s (mixI s plan ((choiceK s kd 2 1).1))).1).length : Nat) : Int) != (s.worth.length : Int)) = false, (((((plannedK s (mixI s plan ((choiceK s kd 1 2).1))).1).length : Nat) : Int) != (s.worth.length : Int)) = false, (((((plannedK s plan).1).length : Nat) : Int) != (s.worth.length : Int)) = false, 0 ≤ kd ∧ kd < ((((plannedK s (mixI s plan ((choiceK s kd 2 1).1))).1).length : Nat) : Int), ((rowFr ((plannedK s (mixI s plan ((choiceK s kd 2 1).1))).1)).drop (0 + (Int.toNat kd) * 2)).take 2 = [.int .i64 fe.num, .int .i64 fe.den], 0 ≤ kd ∧ kd < ((((noticeK s).1).length : Nat) : Int), (0 : Int) ≤ 1 ∧ (1 : Int) < ((2 : Nat) : Int), ((rowFr2 ((noticeK s).1)).drop ((0 + (Int.toNat kd) * 4) + 2)).take 2 = [.int .i64 fe1.hi.num, .int .i64 fe1.hi.den], (!(fe.num == fe1.hi.num && (fe.den == fe1.hi.den && true))) = false, 0 ≤ kd ∧ kd < ((((plannedK s (mixI s plan ((choiceK s kd 1 2).1))).1).length : Nat) : Int), ((rowFr ((plannedK s (mixI s plan ((choiceK s kd 1 2).1))).1)).drop (0 + (Int.toNat kd) * 2)).take 2 = [.int .i64 fe2.num, .int .i64 fe2.den], 0 ≤ kd ∧ kd < ((((noticeK s).1).length : Nat) : Int), (0 : Int) ≤ 0 ∧ (0 : Int) < ((2 : Nat) : Int), ((rowFr2 ((noticeK s).1)).drop ((0 + (Int.toNat kd) * 4) + 0)).take 2 = [.int .i64 fe1.lo.num, .int .i64 fe1.lo.den], (!(fe2.num == fe1.lo.num && (fe2.den == fe1.lo.den && true))) = false, 0 ≤ kd ∧ kd < ((((plannedK s plan).1).length : Nat) : Int), ((rowFr ((plannedK s plan).1)).drop (0 + (Int.toNat kd) * 2)).take 2 = [.int .i64 fe3.num, .int .i64 fe3.den], 0 ≤ kd ∧ kd < ((((noticeK s).1).length : Nat) : Int), (0 : Int) ≤ 0 ∧ (0 : Int) < ((2 : Nat) : Int), ((rowFr2 ((noticeK s).1)).drop ((0 + (Int.toNat kd) * 4) + 0)).take 2 = [.int .i64 fe1.lo.num, .int .i64 fe1.lo.den], PureF Try.prog (.clos 23 [] []) [.agg [.rsl (rowStg s.stages) 0 s.stages.length, .rsl (rowI s.worth) 0 s.worth.length, .int .i64 s.price], .agg [.int .i64 fe3.num, .int .i64 fe3.den], .agg [.int .i64 fe1.lo.num, .int .i64 fe1.lo.den]] (.bool false), true = true, 0 ≤ kd ∧ kd < ((((noticeK s).1).length : Nat) : Int), (0 : Int) ≤ 1 ∧ (1 : Int) < ((2 : Nat) : Int), ((rowFr2 ((noticeK s).1)).drop ((0 + (Int.toNat kd) * 4) + 2)).take 2 = [.int .i64 fe1.hi.num, .int .i64 fe1.hi.den], 0 ≤ kd ∧ kd < ((((plannedK s plan).1).length : Nat) : Int), ((rowFr ((plannedK s plan).1)).drop (0 + (Int.toNat kd) * 2)).take 2 = [.int .i64 fe3.num, .int .i64 fe3.den], PureF Try.prog (.clos 23 [] []) [.agg [.rsl (rowStg s.stages) 0 s.stages.length, .rsl (rowI s.worth) 0 s.worth.length, .int .i64 s.price], .agg [.int .i64 fe1.hi.num, .int .i64 fe1.hi.den], .agg [.int .i64 fe3.num, .int .i64 fe3.den]] (.bool false), true = true, PureF Try.prog (.clos 20 [] []) [] (.bool true)])
    (hr : AvLe (.bool true) res) : G Try.prog E [.code (bodyAt Try.prog 16)] ⟨[.agg [.rsl (rowStg s.stages) 0 s.stages.length, .rsl (rowI s.worth) 0 s.worth.length, .int .i64 s.price], .int .i64 kd, .rsl (rowI plan) 0 plan.length] ++ unds (Try.f16.ntmps - 3), []⟩ :=
  end_stepL (n := 400) (evs := [.v (.tup [.rsl (rowFr2 ((noticeK s).1)) 0 (((noticeK s).1).length), .int .i64 ((noticeK s).2)]), .b false, .b false, .b false, .v (.int .i64 (planE s plan)), .b false, .v (.tup [.rsl (rowI ((choiceK s kd 2 1).1)) 0 (((choiceK s kd 2 1).1).length), .int .i64 ((choiceK s kd 2 1).2)]), .v (.tup [.rsl (rowI ((choiceK s kd 1 2).1)) 0 (((choiceK s kd 1 2).1).length), .int .i64 ((choiceK s kd 1 2).2)]), .b false, .b false, .b false, .b false, .b false, .v (.rsl (rowI (mixI s plan ((choiceK s kd 2 1).1))) 0 ((mixI s plan ((choiceK s kd 2 1).1)).length)), .v (.tup [.rsl (rowFr ((plannedK s (mixI s plan ((choiceK s kd 2 1).1))).1)) 0 (((plannedK s (mixI s plan ((choiceK s kd 2 1).1))).1).length), .int .i64 ((plannedK s (mixI s plan ((choiceK s kd 2 1).1))).2)]), .v (.rsl (rowI (mixI s plan ((choiceK s kd 1 2).1))) 0 ((mixI s plan ((choiceK s kd 1 2).1)).length)), .v (.tup [.rsl (rowFr ((plannedK s (mixI s plan ((choiceK s kd 1 2).1))).1)) 0 (((plannedK s (mixI s plan ((choiceK s kd 1 2).1))).1).length), .int .i64 ((plannedK s (mixI s plan ((choiceK s kd 1 2).1))).2)]), .v (.tup [.rsl (rowFr ((plannedK s plan).1)) 0 (((plannedK s plan).1).length), .int .i64 ((plannedK s plan).2)]), .b false, .b false, .b false, .b false, .b false, .b false, .ld (.agg [.int .i64 fe.num, .int .i64 fe.den]), .ld (.agg [.int .i64 fe1.hi.num, .int .i64 fe1.hi.den]), .b false, .ld (.agg [.int .i64 fe2.num, .int .i64 fe2.den]), .ld (.agg [.int .i64 fe1.lo.num, .int .i64 fe1.lo.den]), .b false, .auto, .ld (.agg [.int .i64 fe3.num, .int .i64 fe3.den]), .ld (.agg [.int .i64 fe1.lo.num, .int .i64 fe1.lo.den]), .v (.bool false), .b true, .auto, .ld (.agg [.int .i64 fe1.hi.num, .int .i64 fe1.hi.den]), .ld (.agg [.int .i64 fe3.num, .int .i64 fe3.den]), .v (.bool false), .b true, .v (.bool true)]) (obs := _) hE Try.func16 mixed (by kernel_rfl) ho hr
theorem f16W (s : Stl) (kd : Int) (plan : (List Int)) {E : Env} {rv : Bool} (hE : PureE Try.prog 16 (.bool rv) E)
    (h : ((s.stages.length ≤ 9223372036854775807 ∧ s.worth.length ≤ 9223372036854775807) ∧ ((¬ ((noticeK s).2 = 0) → rv = true) ∧ ((noticeK s).2 = 0 → ((kd < 0 → rv = true) ∧ (¬ (kd < 0) → ((kd ≥ (s.worth.length : Int) → rv = true) ∧ (¬ (kd ≥ (s.worth.length : Int)) → (((s.stages.length ≤ 9223372036854775807 ∧ s.worth.length ≤ 9223372036854775807) ∧ plan.length ≤ 9223372036854775807) ∧ ((¬ ((planE s plan) = 0) → rv = true) ∧ ((planE s plan) = 0 → ((s.stages.length ≤ 9223372036854775807 ∧ s.worth.length ≤ 9223372036854775807) ∧ ((s.stages.length ≤ 9223372036854775807 ∧ s.worth.length ≤ 9223372036854775807) ∧ ((¬ ((choiceK s kd 2 1).2 = 0) → rv = false) ∧ ((choiceK s kd 2 1).2 = 0 → ((¬ ((choiceK s kd 1 2).2 = 0) → rv = false) ∧ ((choiceK s kd 1 2).2 = 0 → ((¬ (((((noticeK s).1).length : Nat) : Int) = (s.worth.length : Int)) → rv = false) ∧ (((((noticeK s).1).length : Nat) : Int) = (s.worth.length : Int) → ((¬ (((((choiceK s kd 2 1).1).length : Nat) : Int) = (s.stages.length : Int)) → rv = false) ∧ (((((choiceK s kd 2 1).1).length : Nat) : Int) = (s.stages.length : Int) → ((¬ (((((choiceK s kd 1 2).1).length : Nat) : Int) = (s.stages.length : Int)) → rv = false) ∧ (((((choiceK s kd 1 2).1).length : Nat) : Int) = (s.stages.length : Int) → ((s.stages.length ≤ 60 ∧ plan.length = s.stages.length ∧ ((choiceK s kd 2 1).1).length = s.stages.length) ∧ ((s.stages.length ≤ 9223372036854775807 ∧ s.worth.length ≤ 9223372036854775807) ∧ ((s.stages.length ≤ 60 ∧ plan.length = s.stages.length ∧ ((choiceK s kd 1 2).1).length = s.stages.length) ∧ ((s.stages.length ≤ 9223372036854775807 ∧ s.worth.length ≤ 9223372036854775807) ∧ ((s.stages.length ≤ 9223372036854775807 ∧ s.worth.length ≤ 9223372036854775807) ∧ ((¬ ((plannedK s (mixI s plan ((choiceK s kd 2 1).1))).2 = 0) → rv = false) ∧ ((plannedK s (mixI s plan ((choiceK s kd 2 1).1))).2 = 0 → ((¬ ((plannedK s (mixI s plan ((choiceK s kd 1 2).1))).2 = 0) → rv = false) ∧ ((plannedK s (mixI s plan ((choiceK s kd 1 2).1))).2 = 0 → ((¬ ((plannedK s plan).2 = 0) → rv = false) ∧ ((plannedK s plan).2 = 0 → ((¬ (((((plannedK s (mixI s plan ((choiceK s kd 2 1).1))).1).length : Nat) : Int) = (s.worth.length : Int)) → rv = false) ∧ (((((plannedK s (mixI s plan ((choiceK s kd 2 1).1))).1).length : Nat) : Int) = (s.worth.length : Int) → ((¬ (((((plannedK s (mixI s plan ((choiceK s kd 1 2).1))).1).length : Nat) : Int) = (s.worth.length : Int)) → rv = false) ∧ (((((plannedK s (mixI s plan ((choiceK s kd 1 2).1))).1).length : Nat) : Int) = (s.worth.length : Int) → ((¬ (((((plannedK s plan).1).length : Nat) : Int) = (s.worth.length : Int)) → rv = false) ∧ (((((plannedK s plan).1).length : Nat) : Int) = (s.worth.length : Int) → (0 ≤ kd ∧ (∃ fe : Fr, ((plannedK s (mixI s plan ((choiceK s kd 2 1).1))).1)[Int.toNat kd]? = some fe ∧ (0 ≤ kd ∧ (∃ fe1 : Fr2, ((noticeK s).1)[Int.toNat kd]? = some fe1 ∧ (((fe.num == fe1.hi.num && (fe.den == fe1.hi.den && true)) = false → rv = false) ∧ ((fe.num == fe1.hi.num && (fe.den == fe1.hi.den && true)) = true → (0 ≤ kd ∧ (∃ fe2 : Fr, ((plannedK s (mixI s plan ((choiceK s kd 1 2).1))).1)[Int.toNat kd]? = some fe2 ∧ (((fe2.num == fe1.lo.num && (fe2.den == fe1.lo.den && true)) = false → rv = false) ∧ ((fe2.num == fe1.lo.num && (fe2.den == fe1.lo.den && true)) = true → (0 ≤ kd ∧ (∃ fe3 : Fr, ((plannedK s plan).1)[Int.toNat kd]? = some fe3 ∧ ((checkK s = 0 ∧ FrOk s fe3 ∧ FrOk s fe1.lo ∧ FrV s fe1.lo ≤ FrV s fe3) ∧ ((checkK s = 0 ∧ FrOk s fe1.hi ∧ FrOk s fe3 ∧ FrV s fe3 ≤ FrV s fe1.hi) ∧ rv = true)))))))))))))))))))))))))))))))))))))))))))))))))))))) : G Try.prog E [.code (bodyAt Try.prog 16)] ⟨[.agg [.rsl (rowStg s.stages) 0 s.stages.length, .rsl (rowI s.worth) 0 s.worth.length, .int .i64 s.price], .int .i64 kd, .rsl (rowI plan) 0 plan.length] ++ unds (Try.f16.ntmps - 3), []⟩ := by
  obtain ⟨h1, h⟩ := h
  rcases Bool.eq_false_or_eq_true ((noticeK s).2 != 0) with hc0 | hc0
  · have h := h.1 (bneT hc0)
    exact p16_start_0 s kd plan    hE ⟨(pureF_of Try.func55 (by kernel_rfl) f55b (notice_ok s h1)), hc0, rfl, rfl, rfl, (pureF_of Try.func20 (by kernel_rfl) f20b works_ok), trivial⟩ (AvLe.of_eq (by rw [h]; try rfl))
  · have h := h.2 (bneF hc0)
    rcases Bool.eq_false_or_eq_true (decide (kd < 0)) with hc1 | hc1
    · have h := h.1 (of_decide_eq_true hc1)
      exact p16_start_1 s kd plan    hE ⟨(pureF_of Try.func55 (by kernel_rfl) f55b (notice_ok s h1)), hc0, hc1, rfl, rfl, (pureF_of Try.func20 (by kernel_rfl) f20b works_ok), trivial⟩ (AvLe.of_eq (by rw [h]; try rfl))
    · have h := h.2 (of_decide_eq_false hc1)
      rcases Bool.eq_false_or_eq_true (decide (kd ≥ (s.worth.length : Int))) with hc2 | hc2
      · have h := h.1 (of_decide_eq_true hc2)
        exact p16_start_2 s kd plan    hE ⟨(pureF_of Try.func55 (by kernel_rfl) f55b (notice_ok s h1)), hc0, hc1, hc2, rfl, (pureF_of Try.func20 (by kernel_rfl) f20b works_ok), trivial⟩ (AvLe.of_eq (by rw [h]; try rfl))
      · have h := h.2 (of_decide_eq_false hc2)
        obtain ⟨h2, h⟩ := h
        rcases Bool.eq_false_or_eq_true ((planE s plan) != 0) with hc3 | hc3
        · have h := h.1 (bneT hc3)
          exact p16_start_3 s kd plan    hE ⟨(pureF_of Try.func55 (by kernel_rfl) f55b (notice_ok s h1)), hc0, hc1, hc2, (pureF_of Try.func30 (by kernel_rfl) f30b (planE_ok s plan h2)), hc3, (pureF_of Try.func20 (by kernel_rfl) f20b works_ok), trivial⟩ (AvLe.of_eq (by rw [h]; try rfl))
        · have h := h.2 (bneF hc3)
          obtain ⟨h3, h⟩ := h
          obtain ⟨h4, h⟩ := h
          rcases Bool.eq_false_or_eq_true ((choiceK s kd 2 1).2 != 0) with hc4 | hc4
          · have h := h.1 (bneT hc4)
            exact p16_start_4 s kd plan    hE ⟨(pureF_of Try.func55 (by kernel_rfl) f55b (notice_ok s h1)), hc0, hc1, hc2, (pureF_of Try.func30 (by kernel_rfl) f30b (planE_ok s plan h2)), hc3, (pureF_of Try.func27 (by kernel_rfl) f27b (choice_ok s kd 2 1 h3)), (pureF_of Try.func27 (by kernel_rfl) f27b (choice_ok s kd 1 2 h4)), hc4, rfl, rfl, rfl, rfl, trivial⟩ (AvLe.of_eq (by rw [h]; try rfl))
          · have h := h.2 (bneF hc4)
            rcases Bool.eq_false_or_eq_true ((choiceK s kd 1 2).2 != 0) with hc5 | hc5
            · have h := h.1 (bneT hc5)
              exact p16_start_5 s kd plan    hE ⟨(pureF_of Try.func55 (by kernel_rfl) f55b (notice_ok s h1)), hc0, hc1, hc2, (pureF_of Try.func30 (by kernel_rfl) f30b (planE_ok s plan h2)), hc3, (pureF_of Try.func27 (by kernel_rfl) f27b (choice_ok s kd 2 1 h3)), (pureF_of Try.func27 (by kernel_rfl) f27b (choice_ok s kd 1 2 h4)), hc4, hc5, rfl, rfl, rfl, trivial⟩ (AvLe.of_eq (by rw [h]; try rfl))
            · have h := h.2 (bneF hc5)
              rcases Bool.eq_false_or_eq_true (((((noticeK s).1).length : Nat) : Int) != (s.worth.length : Int)) with hc6 | hc6
              · have h := h.1 (bneT hc6)
                exact p16_start_6 s kd plan    hE ⟨(pureF_of Try.func55 (by kernel_rfl) f55b (notice_ok s h1)), hc0, hc1, hc2, (pureF_of Try.func30 (by kernel_rfl) f30b (planE_ok s plan h2)), hc3, (pureF_of Try.func27 (by kernel_rfl) f27b (choice_ok s kd 2 1 h3)), (pureF_of Try.func27 (by kernel_rfl) f27b (choice_ok s kd 1 2 h4)), hc4, hc5, hc6, rfl, rfl, trivial⟩ (AvLe.of_eq (by rw [h]; try rfl))
              · have h := h.2 (bneF hc6)
                rcases Bool.eq_false_or_eq_true (((((choiceK s kd 2 1).1).length : Nat) : Int) != (s.stages.length : Int)) with hc7 | hc7
                · have h := h.1 (bneT hc7)
                  exact p16_start_7 s kd plan    hE ⟨(pureF_of Try.func55 (by kernel_rfl) f55b (notice_ok s h1)), hc0, hc1, hc2, (pureF_of Try.func30 (by kernel_rfl) f30b (planE_ok s plan h2)), hc3, (pureF_of Try.func27 (by kernel_rfl) f27b (choice_ok s kd 2 1 h3)), (pureF_of Try.func27 (by kernel_rfl) f27b (choice_ok s kd 1 2 h4)), hc4, hc5, hc6, hc7, rfl, trivial⟩ (AvLe.of_eq (by rw [h]; try rfl))
                · have h := h.2 (bneF hc7)
                  rcases Bool.eq_false_or_eq_true (((((choiceK s kd 1 2).1).length : Nat) : Int) != (s.stages.length : Int)) with hc8 | hc8
                  · have h := h.1 (bneT hc8)
                    exact p16_start_8 s kd plan    hE ⟨(pureF_of Try.func55 (by kernel_rfl) f55b (notice_ok s h1)), hc0, hc1, hc2, (pureF_of Try.func30 (by kernel_rfl) f30b (planE_ok s plan h2)), hc3, (pureF_of Try.func27 (by kernel_rfl) f27b (choice_ok s kd 2 1 h3)), (pureF_of Try.func27 (by kernel_rfl) f27b (choice_ok s kd 1 2 h4)), hc4, hc5, hc6, hc7, hc8, trivial⟩ (AvLe.of_eq (by rw [h]; try rfl))
                  · have h := h.2 (bneF hc8)
                    obtain ⟨h5, h⟩ := h
                    obtain ⟨h6, h⟩ := h
                    obtain ⟨h7, h⟩ := h
                    obtain ⟨h8, h⟩ := h
                    obtain ⟨h9, h⟩ := h
                    rcases Bool.eq_false_or_eq_true ((plannedK s (mixI s plan ((choiceK s kd 2 1).1))).2 != 0) with hc9 | hc9
                    · have h := h.1 (bneT hc9)
                      exact p16_start_9 s kd plan    hE ⟨(pureF_of Try.func55 (by kernel_rfl) f55b (notice_ok s h1)), hc0, hc1, hc2, (pureF_of Try.func30 (by kernel_rfl) f30b (planE_ok s plan h2)), hc3, (pureF_of Try.func27 (by kernel_rfl) f27b (choice_ok s kd 2 1 h3)), (pureF_of Try.func27 (by kernel_rfl) f27b (choice_ok s kd 1 2 h4)), hc4, hc5, hc6, hc7, hc8, (pureF_of Try.func59 (by kernel_rfl) f59b (mixed_ok s plan ((choiceK s kd 2 1).1) h5)), (pureF_of Try.func40 (by kernel_rfl) f40b (planned_ok s (mixI s plan ((choiceK s kd 2 1).1)) h6)), (pureF_of Try.func59 (by kernel_rfl) f59b (mixed_ok s plan ((choiceK s kd 1 2).1) h7)), (pureF_of Try.func40 (by kernel_rfl) f40b (planned_ok s (mixI s plan ((choiceK s kd 1 2).1)) h8)), (pureF_of Try.func40 (by kernel_rfl) f40b (planned_ok s plan h9)), hc9, rfl, rfl, rfl, rfl, rfl, trivial⟩ (AvLe.of_eq (by rw [h]; try rfl))
                    · have h := h.2 (bneF hc9)
                      rcases Bool.eq_false_or_eq_true ((plannedK s (mixI s plan ((choiceK s kd 1 2).1))).2 != 0) with hc10 | hc10
                      · have h := h.1 (bneT hc10)
                        exact p16_start_10 s kd plan    hE ⟨(pureF_of Try.func55 (by kernel_rfl) f55b (notice_ok s h1)), hc0, hc1, hc2, (pureF_of Try.func30 (by kernel_rfl) f30b (planE_ok s plan h2)), hc3, (pureF_of Try.func27 (by kernel_rfl) f27b (choice_ok s kd 2 1 h3)), (pureF_of Try.func27 (by kernel_rfl) f27b (choice_ok s kd 1 2 h4)), hc4, hc5, hc6, hc7, hc8, (pureF_of Try.func59 (by kernel_rfl) f59b (mixed_ok s plan ((choiceK s kd 2 1).1) h5)), (pureF_of Try.func40 (by kernel_rfl) f40b (planned_ok s (mixI s plan ((choiceK s kd 2 1).1)) h6)), (pureF_of Try.func59 (by kernel_rfl) f59b (mixed_ok s plan ((choiceK s kd 1 2).1) h7)), (pureF_of Try.func40 (by kernel_rfl) f40b (planned_ok s (mixI s plan ((choiceK s kd 1 2).1)) h8)), (pureF_of Try.func40 (by kernel_rfl) f40b (planned_ok s plan h9)), hc9, hc10, rfl, rfl, rfl, rfl, trivial⟩ (AvLe.of_eq (by rw [h]; try rfl))
                      · have h := h.2 (bneF hc10)
                        rcases Bool.eq_false_or_eq_true ((plannedK s plan).2 != 0) with hc11 | hc11
                        · have h := h.1 (bneT hc11)
                          exact p16_start_11 s kd plan    hE ⟨(pureF_of Try.func55 (by kernel_rfl) f55b (notice_ok s h1)), hc0, hc1, hc2, (pureF_of Try.func30 (by kernel_rfl) f30b (planE_ok s plan h2)), hc3, (pureF_of Try.func27 (by kernel_rfl) f27b (choice_ok s kd 2 1 h3)), (pureF_of Try.func27 (by kernel_rfl) f27b (choice_ok s kd 1 2 h4)), hc4, hc5, hc6, hc7, hc8, (pureF_of Try.func59 (by kernel_rfl) f59b (mixed_ok s plan ((choiceK s kd 2 1).1) h5)), (pureF_of Try.func40 (by kernel_rfl) f40b (planned_ok s (mixI s plan ((choiceK s kd 2 1).1)) h6)), (pureF_of Try.func59 (by kernel_rfl) f59b (mixed_ok s plan ((choiceK s kd 1 2).1) h7)), (pureF_of Try.func40 (by kernel_rfl) f40b (planned_ok s (mixI s plan ((choiceK s kd 1 2).1)) h8)), (pureF_of Try.func40 (by kernel_rfl) f40b (planned_ok s plan h9)), hc9, hc10, hc11, rfl, rfl, rfl, trivial⟩ (AvLe.of_eq (by rw [h]; try rfl))
                        · have h := h.2 (bneF hc11)
                          rcases Bool.eq_false_or_eq_true (((((plannedK s (mixI s plan ((choiceK s kd 2 1).1))).1).length : Nat) : Int) != (s.worth.length : Int)) with hc12 | hc12
                          · have h := h.1 (bneT hc12)
                            exact p16_start_12 s kd plan    hE ⟨(pureF_of Try.func55 (by kernel_rfl) f55b (notice_ok s h1)), hc0, hc1, hc2, (pureF_of Try.func30 (by kernel_rfl) f30b (planE_ok s plan h2)), hc3, (pureF_of Try.func27 (by kernel_rfl) f27b (choice_ok s kd 2 1 h3)), (pureF_of Try.func27 (by kernel_rfl) f27b (choice_ok s kd 1 2 h4)), hc4, hc5, hc6, hc7, hc8, (pureF_of Try.func59 (by kernel_rfl) f59b (mixed_ok s plan ((choiceK s kd 2 1).1) h5)), (pureF_of Try.func40 (by kernel_rfl) f40b (planned_ok s (mixI s plan ((choiceK s kd 2 1).1)) h6)), (pureF_of Try.func59 (by kernel_rfl) f59b (mixed_ok s plan ((choiceK s kd 1 2).1) h7)), (pureF_of Try.func40 (by kernel_rfl) f40b (planned_ok s (mixI s plan ((choiceK s kd 1 2).1)) h8)), (pureF_of Try.func40 (by kernel_rfl) f40b (planned_ok s plan h9)), hc9, hc10, hc11, hc12, rfl, rfl, trivial⟩ (AvLe.of_eq (by rw [h]; try rfl))
                          · have h := h.2 (bneF hc12)
                            rcases Bool.eq_false_or_eq_true (((((plannedK s (mixI s plan ((choiceK s kd 1 2).1))).1).length : Nat) : Int) != (s.worth.length : Int)) with hc13 | hc13
                            · have h := h.1 (bneT hc13)
                              exact p16_start_13 s kd plan    hE ⟨(pureF_of Try.func55 (by kernel_rfl) f55b (notice_ok s h1)), hc0, hc1, hc2, (pureF_of Try.func30 (by kernel_rfl) f30b (planE_ok s plan h2)), hc3, (pureF_of Try.func27 (by kernel_rfl) f27b (choice_ok s kd 2 1 h3)), (pureF_of Try.func27 (by kernel_rfl) f27b (choice_ok s kd 1 2 h4)), hc4, hc5, hc6, hc7, hc8, (pureF_of Try.func59 (by kernel_rfl) f59b (mixed_ok s plan ((choiceK s kd 2 1).1) h5)), (pureF_of Try.func40 (by kernel_rfl) f40b (planned_ok s (mixI s plan ((choiceK s kd 2 1).1)) h6)), (pureF_of Try.func59 (by kernel_rfl) f59b (mixed_ok s plan ((choiceK s kd 1 2).1) h7)), (pureF_of Try.func40 (by kernel_rfl) f40b (planned_ok s (mixI s plan ((choiceK s kd 1 2).1)) h8)), (pureF_of Try.func40 (by kernel_rfl) f40b (planned_ok s plan h9)), hc9, hc10, hc11, hc12, hc13, rfl, trivial⟩ (AvLe.of_eq (by rw [h]; try rfl))
                            · have h := h.2 (bneF hc13)
                              rcases Bool.eq_false_or_eq_true (((((plannedK s plan).1).length : Nat) : Int) != (s.worth.length : Int)) with hc14 | hc14
                              · have h := h.1 (bneT hc14)
                                exact p16_start_14 s kd plan    hE ⟨(pureF_of Try.func55 (by kernel_rfl) f55b (notice_ok s h1)), hc0, hc1, hc2, (pureF_of Try.func30 (by kernel_rfl) f30b (planE_ok s plan h2)), hc3, (pureF_of Try.func27 (by kernel_rfl) f27b (choice_ok s kd 2 1 h3)), (pureF_of Try.func27 (by kernel_rfl) f27b (choice_ok s kd 1 2 h4)), hc4, hc5, hc6, hc7, hc8, (pureF_of Try.func59 (by kernel_rfl) f59b (mixed_ok s plan ((choiceK s kd 2 1).1) h5)), (pureF_of Try.func40 (by kernel_rfl) f40b (planned_ok s (mixI s plan ((choiceK s kd 2 1).1)) h6)), (pureF_of Try.func59 (by kernel_rfl) f59b (mixed_ok s plan ((choiceK s kd 1 2).1) h7)), (pureF_of Try.func40 (by kernel_rfl) f40b (planned_ok s (mixI s plan ((choiceK s kd 1 2).1)) h8)), (pureF_of Try.func40 (by kernel_rfl) f40b (planned_ok s plan h9)), hc9, hc10, hc11, hc12, hc13, hc14, trivial⟩ (AvLe.of_eq (by rw [h]; try rfl))
                              · have h := h.2 (bneF hc14)
                                obtain ⟨h11, h⟩ := h
                                obtain ⟨fe, h10, h⟩ := h
                                obtain ⟨h13, h⟩ := h
                                obtain ⟨fe1, h12, h⟩ := h
                                rcases Bool.eq_false_or_eq_true (!(fe.num == fe1.hi.num && (fe.den == fe1.hi.den && true))) with hc15 | hc15
                                · have h := h.1 (bnT hc15)
                                  exact p16_start_15 s kd plan   fe fe1 hE ⟨(pureF_of Try.func55 (by kernel_rfl) f55b (notice_ok s h1)), hc0, hc1, hc2, (pureF_of Try.func30 (by kernel_rfl) f30b (planE_ok s plan h2)), hc3, (pureF_of Try.func27 (by kernel_rfl) f27b (choice_ok s kd 2 1 h3)), (pureF_of Try.func27 (by kernel_rfl) f27b (choice_ok s kd 1 2 h4)), hc4, hc5, hc6, hc7, hc8, (pureF_of Try.func59 (by kernel_rfl) f59b (mixed_ok s plan ((choiceK s kd 2 1).1) h5)), (pureF_of Try.func40 (by kernel_rfl) f40b (planned_ok s (mixI s plan ((choiceK s kd 2 1).1)) h6)), (pureF_of Try.func59 (by kernel_rfl) f59b (mixed_ok s plan ((choiceK s kd 1 2).1) h7)), (pureF_of Try.func40 (by kernel_rfl) f40b (planned_ok s (mixI s plan ((choiceK s kd 1 2).1)) h8)), (pureF_of Try.func40 (by kernel_rfl) f40b (planned_ok s plan h9)), hc9, hc10, hc11, hc12, hc13, hc14, (idx_ok' h11 h10), (row_part cFr (s := 2) (k := 0) (m := 2) (fun _ => rfl) (by decide) h10), (idx_ok' h13 h12), (⟨by decide, by decide⟩), (row_part cFr2 (s := 4) (k := 2) (m := 2) (fun _ => rfl) (by decide) h12), hc15, rfl, trivial⟩ (AvLe.of_eq (by rw [h]; try rfl))
                                · have h := h.2 (bnF hc15)
                                  obtain ⟨h15, h⟩ := h
                                  obtain ⟨fe2, h14, h⟩ := h
                                  rcases Bool.eq_false_or_eq_true (!(fe2.num == fe1.lo.num && (fe2.den == fe1.lo.den && true))) with hc16 | hc16
                                  · have h := h.1 (bnT hc16)
                                    exact p16_start_16 s kd plan   fe fe1 fe2 hE ⟨(pureF_of Try.func55 (by kernel_rfl) f55b (notice_ok s h1)), hc0, hc1, hc2, (pureF_of Try.func30 (by kernel_rfl) f30b (planE_ok s plan h2)), hc3, (pureF_of Try.func27 (by kernel_rfl) f27b (choice_ok s kd 2 1 h3)), (pureF_of Try.func27 (by kernel_rfl) f27b (choice_ok s kd 1 2 h4)), hc4, hc5, hc6, hc7, hc8, (pureF_of Try.func59 (by kernel_rfl) f59b (mixed_ok s plan ((choiceK s kd 2 1).1) h5)), (pureF_of Try.func40 (by kernel_rfl) f40b (planned_ok s (mixI s plan ((choiceK s kd 2 1).1)) h6)), (pureF_of Try.func59 (by kernel_rfl) f59b (mixed_ok s plan ((choiceK s kd 1 2).1) h7)), (pureF_of Try.func40 (by kernel_rfl) f40b (planned_ok s (mixI s plan ((choiceK s kd 1 2).1)) h8)), (pureF_of Try.func40 (by kernel_rfl) f40b (planned_ok s plan h9)), hc9, hc10, hc11, hc12, hc13, hc14, (idx_ok' h11 h10), (row_part cFr (s := 2) (k := 0) (m := 2) (fun _ => rfl) (by decide) h10), (idx_ok' h13 h12), (⟨by decide, by decide⟩), (row_part cFr2 (s := 4) (k := 2) (m := 2) (fun _ => rfl) (by decide) h12), hc15, (idx_ok' h15 h14), (row_part cFr (s := 2) (k := 0) (m := 2) (fun _ => rfl) (by decide) h14), (idx_ok' h13 h12), (⟨by decide, by decide⟩), (row_part cFr2 (s := 4) (k := 0) (m := 2) (fun _ => rfl) (by decide) h12), hc16, trivial⟩ (AvLe.of_eq (by rw [h]; try rfl))
                                  · have h := h.2 (bnF hc16)
                                    obtain ⟨h17, h⟩ := h
                                    obtain ⟨fe3, h16, h⟩ := h
                                    obtain ⟨h18, h⟩ := h
                                    obtain ⟨h19, h⟩ := h
                                    exact p16_start_17 s kd plan   fe fe1 fe2 fe3 hE ⟨(pureF_of Try.func55 (by kernel_rfl) f55b (notice_ok s h1)), hc0, hc1, hc2, (pureF_of Try.func30 (by kernel_rfl) f30b (planE_ok s plan h2)), hc3, (pureF_of Try.func27 (by kernel_rfl) f27b (choice_ok s kd 2 1 h3)), (pureF_of Try.func27 (by kernel_rfl) f27b (choice_ok s kd 1 2 h4)), hc4, hc5, hc6, hc7, hc8, (pureF_of Try.func59 (by kernel_rfl) f59b (mixed_ok s plan ((choiceK s kd 2 1).1) h5)), (pureF_of Try.func40 (by kernel_rfl) f40b (planned_ok s (mixI s plan ((choiceK s kd 2 1).1)) h6)), (pureF_of Try.func59 (by kernel_rfl) f59b (mixed_ok s plan ((choiceK s kd 1 2).1) h7)), (pureF_of Try.func40 (by kernel_rfl) f40b (planned_ok s (mixI s plan ((choiceK s kd 1 2).1)) h8)), (pureF_of Try.func40 (by kernel_rfl) f40b (planned_ok s plan h9)), hc9, hc10, hc11, hc12, hc13, hc14, (idx_ok' h11 h10), (row_part cFr (s := 2) (k := 0) (m := 2) (fun _ => rfl) (by decide) h10), (idx_ok' h13 h12), (⟨by decide, by decide⟩), (row_part cFr2 (s := 4) (k := 2) (m := 2) (fun _ => rfl) (by decide) h12), hc15, (idx_ok' h15 h14), (row_part cFr (s := 2) (k := 0) (m := 2) (fun _ => rfl) (by decide) h14), (idx_ok' h13 h12), (⟨by decide, by decide⟩), (row_part cFr2 (s := 4) (k := 0) (m := 2) (fun _ => rfl) (by decide) h12), hc16, (idx_ok' h17 h16), (row_part cFr (s := 2) (k := 0) (m := 2) (fun _ => rfl) (by decide) h16), (idx_ok' h13 h12), (⟨by decide, by decide⟩), (row_part cFr2 (s := 4) (k := 0) (m := 2) (fun _ => rfl) (by decide) h12), (pureF_of Try.func23 (by kernel_rfl) f23b (less_ok s fe3 fe1.lo h18)), rfl, (idx_ok' h13 h12), (⟨by decide, by decide⟩), (row_part cFr2 (s := 4) (k := 2) (m := 2) (fun _ => rfl) (by decide) h12), (idx_ok' h17 h16), (row_part cFr (s := 2) (k := 0) (m := 2) (fun _ => rfl) (by decide) h16), (pureF_of Try.func23 (by kernel_rfl) f23b (less_ok s fe1.hi fe3 h19)), rfl, (pureF_of Try.func20 (by kernel_rfl) f20b works_ok), trivial⟩ (AvLe.of_eq (by rw [h]; try rfl))

theorem law16_ok (s : Stl) (kd : Int) (plan : List Int) (h : s.stages.length ≤ 9223372036854775807 ∧ s.worth.length ≤ 9223372036854775807) (hp : plan.length ≤ 9223372036854775807) : Pure Try.prog 16 [avStl s, .int .i64 kd, .rsl (rowI plan) 0 plan.length] (.bool true) := pure_of Try.func16 f16b fun E hE => by
  refine f16W s kd plan (rv := true) hE ⟨h, fun _ => rfl, fun hno => ⟨fun _ => rfl, fun k0 => ⟨fun _ => rfl, fun k1 => ⟨⟨h, hp⟩, fun _ => rfl, fun he => ?_⟩⟩⟩⟩
  obtain ⟨hc, hnl, hnt⟩ := notice_of hno
  have hpl := (planE_of he).2
  obtain ⟨hm, es⟩ := mok_G (isSome_of hc)
  have hk0 : 0 ≤ kd := by omega
  have hk1 : kd < (s.worth.length : Int) := by omega
  have hn := (stPre_of hm.st).1
  rw [es] at hn
  have wo := fun (p o : Int) => (wok_only : WOk (machG s) (onlyI kd) (chooseI (machG s) p o))
  have c21 := (odds_yes (checkO_yes hc hk0 hk1 (p := 2) (o := 1) (.inr rfl) (.inl rfl))).2
  have c12 := (odds_yes (checkO_yes hc hk0 hk1 (p := 1) (o := 2) (.inl rfl) (.inr rfl))).2
  have d21 : (choiceK s kd 2 1).1 = (valA (machG s) (onlyI kd) (chooseI (machG s) 2 1)).2 := by rw [c21]
  have d12 : (choiceK s kd 1 2).1 = (valA (machG s) (onlyI kd) (chooseI (machG s) 1 2)).2 := by rw [c12]
  have l21 : (choiceK s kd 2 1).1.length = s.stages.length := by rw [c21]; exact (val_okA hm (wo 2 1)).l2.trans (by rw [es])
  have l12 : (choiceK s kd 1 2).1.length = s.stages.length := by rw [c12]; exact (val_okA hm (wo 1 2)).l2.trans (by rw [es])
  have p21 : planOk s (choiceK s kd 2 1).1 = true := by rw [c21]; have := choice_plan hm (wo 2 1); rw [es] at this; exact this
  have p12 : planOk s (choiceK s kd 1 2).1 = true := by rw [c12]; have := choice_plan hm (wo 1 2); rw [es] at this; exact this
  have x21 := mix_plan hc hpl p21
  have x12 := mix_plan hc hpl p12
  have hle := (planOk_of hpl).1
  have e21 : planE s (mixI s plan (choiceK s kd 2 1).1) = 0 := by rw [planE, if_pos hc, if_pos x21]
  have e12 : planE s (mixI s plan (choiceK s kd 1 2).1) = 0 := by rw [planE, if_pos hc, if_pos x12]
  have z := fun (pl : List Int) (he : planE s pl = 0) => (by rw [plannedK, if_pos he] : (plannedK s pl).2 = 0)
  have zl := fun (pl : List Int) (he : planE s pl = 0) => (by rw [plannedK, if_pos he, planL_len] : (plannedK s pl).1.length = s.worth.length)
  have hnlen : (noticeK s).1.length = s.worth.length := by rw [hnl, noticeL_len]
  have hna : (noticeK s).1[Int.toNat kd]? = some ⟨firstI (machG s) (onlyI kd) (chooseI (machG s) 1 1), firstI (machG s) (onlyI kd) (chooseI (machG s) 2 1)⟩ := by
    rw [hnl, noticeL, List.getElem?_map, List.getElem?_range (by omega)]
    simp only [Option.map_some, Int.toNat_of_nonneg hk0]
  have ht := hnt (Int.toNat kd) (by omega)
  rw [Int.toNat_of_nonneg hk0, turnsI, Bool.or_eq_false_iff, bne_eq_false_iff_eq, bne_eq_false_iff_eq] at ht
  -- the mixed plans
  have wm21 : WOk (machG s) (onlyI kd) (fun i _ => planI (mixI s plan (choiceK s kd 2 1).1) i) := wok_plan (by rw [es]; exact x21)
  have wm12 : WOk (machG s) (onlyI kd) (fun i _ => planI (mixI s plan (choiceK s kd 1 2).1) i) := wok_plan (by rw [es]; exact x12)
  have wpl : WOk (machG s) (onlyI kd) (fun i _ => planI plan i) := wok_plan (by rw [es]; exact hpl)
  have v21 : (valA (machG s) (onlyI kd) (fun i _ => planI (mixI s plan (choiceK s kd 2 1).1) i)).1.getD 0 0 = oddV (machG s) kd 2 1 := by
    have a := mix_high hc (kd := kd) hpl
    have b := plan_high hm (wo 2 2) wm21
    rw [d21] at b ⊢
    have : (valA (machG s) (onlyI kd) (chooseI (machG s) 2 2)).1.getD 0 0 = oddV (machG s) kd 2 2 := rfl
    omega
  have v12 : (valA (machG s) (onlyI kd) (fun i _ => planI (mixI s plan (choiceK s kd 1 2).1) i)).1.getD 0 0 = oddV (machG s) kd 1 1 := by
    have a := mix_low hc (kd := kd) hpl
    have b := plan_low hm (wo 1 1) wm12
    rw [d12] at b ⊢
    have : (valA (machG s) (onlyI kd) (chooseI (machG s) 1 1)).1.getD 0 0 = oddV (machG s) kd 1 1 := rfl
    omega
  have f21 : firstI (machG s) (onlyI kd) (fun i _ => planI (mixI s plan (choiceK s kd 2 1).1) i) = firstI (machG s) (onlyI kd) (chooseI (machG s) 2 1) := by
    rw [firstI, v21]; rfl
  have f12 : firstI (machG s) (onlyI kd) (fun i _ => planI (mixI s plan (choiceK s kd 1 2).1) i) = firstI (machG s) (onlyI kd) (chooseI (machG s) 1 1) := by
    rw [firstI, v12]; rfl
  have g1 := first_fr hc (wo 1 1)
  have g2 := first_fr hc (wo 2 1)
  have gp := first_fr hc wpl
  have q1 := plan_low hm (wo 1 1) wpl
  have q2 := plan_high hm (wo 2 2) wpl
  refine ⟨h, h, fun h => absurd (by rw [c21]) h, fun _ => ?_⟩
  refine ⟨fun h => absurd (by rw [c12]) h, fun _ => ?_⟩
  refine ⟨fun h => absurd (by rw [hnlen]) h, fun _ => ?_⟩
  refine ⟨fun h => absurd (by rw [l21]) h, fun _ => ?_⟩
  refine ⟨fun h => absurd (by rw [l12]) h, fun _ => ?_⟩
  refine ⟨⟨by omega, hle, l21⟩, h, ⟨by omega, hle, l12⟩, h, h, fun h => absurd (z _ e21) h, fun _ => ?_⟩
  refine ⟨fun h => absurd (z _ e12) h, fun _ => ?_⟩
  refine ⟨fun h => absurd (z _ he) h, fun _ => ?_⟩
  refine ⟨fun h => absurd (by rw [zl _ e21]) h, fun _ => ?_⟩
  refine ⟨fun h => absurd (by rw [zl _ e12]) h, fun _ => ?_⟩
  refine ⟨fun h => absurd (by rw [zl _ he]) h, fun _ => ?_⟩
  refine ⟨hk0, _, planned_at e21 hk0 hk1, hk0, _, hna, fun hne => ?_, fun _ => ?_⟩
  · rw [f21] at hne; simp at hne
  refine ⟨hk0, _, planned_at e12 hk0 hk1, fun hne => ?_, fun _ => ?_⟩
  · rw [f12] at hne; simp at hne
  refine ⟨hk0, _, planned_at he hk0 hk1, ⟨hc, gp.1, g1.1, ?_⟩, ⟨hc, g2.1, gp.1, ?_⟩, rfl⟩
  · rw [g1.2, gp.2]; exact q1
  · rw [g2.2, gp.2]
    have : (valA (machG s) (onlyI kd) (chooseI (machG s) 2 2)).1.getD 0 0 = oddV (machG s) kd 2 2 := rfl
    have : (valA (machG s) (onlyI kd) (chooseI (machG s) 2 1)).1.getD 0 0 = oddV (machG s) kd 2 1 := rfl
    omega

end Go.Proofs.Ytfgmlaeikcfpbaa
