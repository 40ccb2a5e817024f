/- A part of the proof: several texts, one behind the other. -/
import Derived.Test.YtfgmlaeikcfpbaaLStallsHandedD
set_option linter.unusedVariables false
set_option linter.unusedSimpArgs false
set_option maxRecDepth 100000
namespace Go.Proofs.Ytfgmlaeikcfpbaa
open Go Ax
open Go.Proofs

def drawT : List Trn → Int → Trn
  | [], _ => ⟨0, 0⟩
  | t :: ts, d => if d ≥ t.w then drawT ts (d - t.w) else t
def playF (s : Stl) (plan : List Int) : Nat → Int → List Int → List Int → List Int × Int × Int
  | 0, _, _, _ => ([], 0, 0)
  | n + 1, at_, v, ds =>
    if (s.stages.getD (Int.toNat at_) ⟨0, 0, []⟩).kind = 4 then (v ++ [at_], (s.stages.getD (Int.toNat at_) ⟨0, 0, []⟩).prize, 0)
    else if (s.stages.getD (Int.toNat at_) ⟨0, 0, []⟩).kind = 1 then
      (match ds with
      | [] => ([], 0, 1)
      | d :: ds => if within d 0 (totI (s.stages.getD (Int.toNat at_) ⟨0, 0, []⟩) - 1) = true then playF s plan n (drawT (s.stages.getD (Int.toNat at_) ⟨0, 0, []⟩).turns d).to (v ++ [at_]) ds else ([], 0, 1))
    else playF s plan n ((s.stages.getD (Int.toNat at_) ⟨0, 0, []⟩).turns.getD (Int.toNat (planI plan at_)) ⟨0, 0⟩).to (v ++ [at_]) ds
def playK (s : Stl) (plan draws : List Int) : List Int × Int × Int := if planE s plan = 0 then playF s plan s.stages.length 0 [] draws else ([], 0, planE s plan)
theorem drawT_mem : ∀ {ts : List Trn} {d : Int}, 0 ≤ d → d < (ts.map (·.w)).sum → drawT ts d ∈ ts
  | [], d, h0, h1 => by simp at h1; omega
  | t :: ts, d, h0, h1 => by
    simp only [drawT]
    simp only [List.map_cons, List.sum_cons] at h1
    split
    · exact List.mem_cons_of_mem _ (drawT_mem (by omega) (by omega))
    · simp
theorem f45b : Try.f45.body = some (bodyAt Try.prog 45) := by kernel_rfl
def f45K0 (P : Program) : List Item := kAt 400 [.code (bodyAt P 45)] [.b false, .stop]
def f45S0 (s : Stl) (plan : (List Int)) (draws : (List Int)) (at_ : Int) (v2 : List Int) (draws1 : (List Int)) (g2 : Nat) : St := ⟨[J, J, .rsl (rowI draws1) 0 draws1.length, J, .rptr [.rsl (rowI plan) 0 plan.length] 0, J, .sl 2 g2 0 v2.length 1, J, J, .rptr [.rsl (rowStg (((machG s).s).stages)) 0 ((((machG s).s).stages).length), .rsl (rowI (((machG s).s).worth)) 0 ((((machG s).s).worth).length), .int .i64 (((machG s).s).price), .rsl (rowI ((machG s).meas)) 0 (((machG s).meas).length), .rsl (rowI ((machG s).mult)) 0 (((machG s).mult).length)] 0, .int .i64 at_, J, J, J, J, J, J, J, J, J, J, J, J, J, J, J, J, J, J, J, J, J, J, J, J, J, J, J, J, J, J, J, J, J, J, J, J, J, J, J, J, J, J, J, J, J, J, J, J, J, J, J, J, J, J, J, J, J, J, J, J, J, J, J, J, J, J, J, J, J, J, J, J, J, J, J, J, J, J, J, J, J, J, J, J, J, J, J, J, J, J, J, J, J, J, J, J], [⟨true, 0, 1, true, [.rsl (rowStg s.stages) 0 s.stages.length, .rsl (rowI s.worth) 0 s.worth.length, .int .i64 s.price], false⟩, ⟨false, 1, 1, true, [], false⟩, ⟨true, g2, 1, true, (rowI v2), true⟩]⟩
def f45G0 (E : Env) (s : Stl) (plan : (List Int)) (draws : (List Int)) (at_ : Int) (v2 : List Int) (draws1 : (List Int)) : Prop := ∀ g2 : Nat, G Try.prog E (f45K0 Try.prog) (f45S0 s plan draws at_ v2 draws1 g2)
def f45K1 (P : Program) : List Item := kAt 400 [.code (bodyAt P 45)] [.b false, .b true, .b true, .b false, .stop]
def f45S1 (s : Stl) (plan : (List Int)) (draws : (List Int)) (turn : Int) (left : Int) (v4_0 : Int) (v4_1 : Int) (v4_2 : (List Trn)) (v3_0 : Int) (v2 : List Int) (draws1 : (List Int)) (g2 : Nat) : St := ⟨[J, J, .rsl (rowI draws1) 0 draws1.length, J, .rptr [.rsl (rowI plan) 0 plan.length] 0, J, .sl 2 g2 0 v2.length 1, J, J, .rptr [.rsl (rowStg (((machG s).s).stages)) 0 ((((machG s).s).stages).length), .rsl (rowI (((machG s).s).worth)) 0 ((((machG s).s).worth).length), .int .i64 (((machG s).s).price), .rsl (rowI ((machG s).meas)) 0 (((machG s).meas).length), .rsl (rowI ((machG s).mult)) 0 (((machG s).mult).length)] 0, J, .ptr 4 0 0, .int .i64 turn, .int .i64 left, J, J, J, J, J, J, J, J, J, J, J, J, J, J, J, J, J, J, J, J, J, J, J, J, J, J, J, J, J, J, J, J, J, J, J, J, J, J, J, J, J, J, J, J, J, J, J, J, J, J, J, J, J, J, J, J, J, J, J, J, J, J, J, J, J, J, J, J, J, J, J, J, J, J, J, J, J, J, J, J, J, J, J, J, J, J, J, J, J, J, J, J, J], [⟨true, 0, 1, true, [.rsl (rowStg s.stages) 0 s.stages.length, .rsl (rowI s.worth) 0 s.worth.length, .int .i64 s.price], false⟩, ⟨false, 1, 1, true, [], false⟩, ⟨true, g2, 1, true, (rowI v2), true⟩, ⟨true, 0, 1, true, [.int .i64 v3_0], true⟩, ⟨true, 0, 1, true, [.int .i64 v4_0, .int .i64 v4_1, .rsl (rowTrn v4_2) 0 v4_2.length], false⟩]⟩
def f45G1 (E : Env) (s : Stl) (plan : (List Int)) (draws : (List Int)) (turn : Int) (left : Int) (v4_0 : Int) (v4_1 : Int) (v4_2 : (List Trn)) (v3_0 : Int) (v2 : List Int) (draws1 : (List Int)) : Prop := ∀ g2 : Nat, G Try.prog E (f45K1 Try.prog) (f45S1 s plan draws turn left v4_0 v4_1 v4_2 v3_0 v2 draws1 g2)
theorem p45_start_0 (s : Stl) (plan : (List Int)) (draws : (List Int))   {E : Env} {rv : AV} (hE : PureE Try.prog 45 rv E) (ho : AllP [PureF Try.prog (.clos 71 [] []) [.agg [.rsl (rowStg s.stages) 0 s.stages.length, .rsl (rowI s.worth) 0 s.worth.length, .int .i64 s.price], .clos 98 [] [.rptr [.rsl (rowI plan) 0 plan.length] 0]] (.tup [.rptr [.rsl (rowStg (((machG s).s).stages)) 0 ((((machG s).s).stages).length), .rsl (rowI (((machG s).s).worth)) 0 ((((machG s).s).worth).length), .int .i64 (((machG s).s).price), .rsl (rowI ((machG s).meas)) 0 (((machG s).meas).length), .rsl (rowI ((machG s).mult)) 0 (((machG s).mult).length)] 0, .int .i64 0]), false = false])
    (hg : G Try.prog E (f45K0 Try.prog) ⟨[J, J, .rsl (rowI draws) 0 draws.length, J, .rptr [.rsl (rowI plan) 0 plan.length] 0, J, .sl 2 0 0 0 1, J, J, .rptr [.rsl (rowStg (((machG s).s).stages)) 0 ((((machG s).s).stages).length), .rsl (rowI (((machG s).s).worth)) 0 ((((machG s).s).worth).length), .int .i64 (((machG s).s).price), .rsl (rowI ((machG s).meas)) 0 (((machG s).meas).length), .rsl (rowI ((machG s).mult)) 0 (((machG s).mult).length)] 0, .int .i64 0, J, J, J, J, J, J, J, J, J, J, J, J, J, J, J, J, J, J, J, J, J, J, J, J, J, J, J, J, J, J, J, J, J, J, J, J, J, J, J, J, J, J, J, J, J, J, J, J, J, J, J, J, J, J, J, J, J, J, J, J, J, J, J, J, J, J, J, J, J, J, J, J, J, J, J, J, J, J, J, J, J, J, J, J, J, J, J, J, J, J, J, J, J, J, J, J], [⟨true, 0, 1, true, [.rsl (rowStg s.stages) 0 s.stages.length, .rsl (rowI s.worth) 0 s.worth.length, .int .i64 s.price], false⟩, ⟨false, 1, 1, true, [], false⟩, ⟨true, 0, 1, true, [], true⟩]⟩) : G Try.prog E [.code (bodyAt Try.prog 45)] ⟨[.agg [.rsl (rowStg s.stages) 0 s.stages.length, .rsl (rowI s.worth) 0 s.worth.length, .int .i64 s.price], .rsl (rowI plan) 0 plan.length, .rsl (rowI draws) 0 draws.length] ++ unds (Try.f45.ntmps - 3), []⟩ :=
  segC_step (n := 400) (ds := [(6, 1)]) (cs := []) (live := [2, 4, 6, 9, 10]) (m := 3) (evs := [.wt 4, .v (.tup [.rptr [.rsl (rowStg (((machG s).s).stages)) 0 ((((machG s).s).stages).length), .rsl (rowI (((machG s).s).worth)) 0 ((((machG s).s).worth).length), .int .i64 (((machG s).s).price), .rsl (rowI ((machG s).meas)) 0 (((machG s).meas).length), .rsl (rowI ((machG s).mult)) 0 (((machG s).mult).length)] 0, .int .i64 0]), .b false, .stop]) (obs := _) hE.2.1 (hE.nogh _) mixed (by kernel_rfl) ho hg
theorem p45_start_1 (s : Stl) (plan : (List Int)) (draws : (List Int))   {E : Env} {res : AV} (hE : PureE Try.prog 45 res E) (ho : AllP [PureF Try.prog (.clos 71 [] []) [.agg [.rsl (rowStg s.stages) 0 s.stages.length, .rsl (rowI s.worth) 0 s.worth.length, .int .i64 s.price], .clos 98 [] [.rptr [.rsl (rowI plan) 0 plan.length] 0]] (.tup [.nilPtr, .int .i64 1]), true = true])
    (hr : AvLe (.tup [.nilSl, .int .i64 0, .int .i64 1]) res) : G Try.prog E [.code (bodyAt Try.prog 45)] ⟨[.agg [.rsl (rowStg s.stages) 0 s.stages.length, .rsl (rowI s.worth) 0 s.worth.length, .int .i64 s.price], .rsl (rowI plan) 0 plan.length, .rsl (rowI draws) 0 draws.length] ++ unds (Try.f45.ntmps - 3), []⟩ :=
  end_stepL (n := 400) (evs := [.wt 4, .v (.tup [.nilPtr, .int .i64 1]), .b true]) (obs := _) hE Try.func45 mixed (by kernel_rfl) ho hr
theorem p45_start_2 (s : Stl) (plan : (List Int)) (draws : (List Int))   {E : Env} {res : AV} (hE : PureE Try.prog 45 res E) (ho : AllP [PureF Try.prog (.clos 71 [] []) [.agg [.rsl (rowStg s.stages) 0 s.stages.length, .rsl (rowI s.worth) 0 s.worth.length, .int .i64 s.price], .clos 98 [] [.rptr [.rsl (rowI plan) 0 plan.length] 0]] (.tup [.nilPtr, .int .i64 60]), true = true])
    (hr : AvLe (.tup [.nilSl, .int .i64 0, .int .i64 60]) res) : G Try.prog E [.code (bodyAt Try.prog 45)] ⟨[.agg [.rsl (rowStg s.stages) 0 s.stages.length, .rsl (rowI s.worth) 0 s.worth.length, .int .i64 s.price], .rsl (rowI plan) 0 plan.length, .rsl (rowI draws) 0 draws.length] ++ unds (Try.f45.ntmps - 3), []⟩ :=
  end_stepL (n := 400) (evs := [.wt 4, .v (.tup [.nilPtr, .int .i64 60]), .b true]) (obs := _) hE Try.func45 mixed (by kernel_rfl) ho hr
theorem f45W (s : Stl) (plan : (List Int)) (draws : (List Int)) {E : Env} {rv : ((List Int) × Int × Int)} (hE : PureE Try.prog 45 (.tup [.rsl (rowI rv.1) 0 rv.1.length, .int .i64 rv.2.1, .int .i64 rv.2.2]) E)
    (h : ((((machI s).isSome) = true → (((planOk (machG s).s plan) = true → ((s.stages.length ≤ 9223372036854775807 ∧ s.worth.length ≤ 9223372036854775807) ∧ f45G0 E s plan draws 0 ([]) draws)) ∧ ((planOk (machG s).s plan) = false → ((s.stages.length ≤ 9223372036854775807 ∧ s.worth.length ≤ 9223372036854775807) ∧ rv = (([] : List Int), 0, 1))))) ∧ (((machI s).isSome) = false → ((s.stages.length ≤ 9223372036854775807 ∧ s.worth.length ≤ 9223372036854775807) ∧ rv = (([] : List Int), 0, 60))))) : G Try.prog E [.code (bodyAt Try.prog 45)] ⟨[.agg [.rsl (rowStg s.stages) 0 s.stages.length, .rsl (rowI s.worth) 0 s.worth.length, .int .i64 s.price], .rsl (rowI plan) 0 plan.length, .rsl (rowI draws) 0 draws.length] ++ unds (Try.f45.ntmps - 3), []⟩ := by
  rcases Bool.eq_false_or_eq_true ((machI s).isSome) with hc0 | hc0
  · have h := h.1 hc0
    rcases Bool.eq_false_or_eq_true (planOk (machG s).s plan) with hc1 | hc1
    · have h := h.1 hc1
      obtain ⟨h1, h⟩ := h
      exact p45_start_0 s plan draws    hE ⟨(pureF_of Try.func71 (by kernel_rfl) f71x98b (begR_T hc0 hc1 ▸ beg98_ok s plan h1)), rfl, trivial⟩ (h 0)
    · have h := h.2 hc1
      obtain ⟨h1, h⟩ := h
      exact p45_start_1 s plan draws    hE ⟨(pureF_of Try.func71 (by kernel_rfl) f71x98b (begR_F1 hc0 hc1 ▸ beg98_ok s plan h1)), rfl, trivial⟩ (by rw [h]; exact (tup_le ⟨nil_le, ⟨AvLe.of_eq rfl, ⟨AvLe.of_eq rfl, trivial⟩⟩⟩))
  · have h := h.2 hc0
    obtain ⟨h1, h⟩ := h
    exact p45_start_2 s plan draws    hE ⟨(pureF_of Try.func71 (by kernel_rfl) f71x98b (begR_F0 hc0 ▸ beg98_ok s plan h1)), rfl, trivial⟩ (by rw [h]; exact (tup_le ⟨nil_le, ⟨AvLe.of_eq rfl, ⟨AvLe.of_eq rfl, trivial⟩⟩⟩))
theorem p45_0_0 (s : Stl) (plan : (List Int)) (draws : (List Int)) (at_ : Int) (v2 : List Int) (draws1 : (List Int)) (g2 : Nat) (se : Stg) (e : Int)  {E : Env} {res : AV} (hE : PureE Try.prog 45 res E) (ho : AllP [0 ≤ at_ ∧ at_ < (((((machG s).s).stages).length : Nat) : Int), ((rowStg (((machG s).s).stages)).drop ((0 + (Int.toNat at_) * 3) + 0)).take 1 = [.int .i64 se.kind], (se.kind != 4) = true, g2 = g2, (0 + (v2.length * 1)) = (rowI v2).length, (v2.length + 1) ≤ 2147483648, 0 = 0, 0 ≤ at_ ∧ at_ < (((((machG s).s).stages).length : Nat) : Int), ((rowStg (((machG s).s).stages)).drop (0 + (Int.toNat at_) * 3)).take 3 = [.int .i64 se.kind, .int .i64 se.prize, .rsl (rowTrn se.turns) 0 se.turns.length], 3 ≤ 3, 0 ≤ at_ ∧ at_ < (plan.length : Int), ((rowI plan).drop (0 + (Int.toNat at_) * 1)).take 1 = [.int .i64 e], (se.kind == 1) = true, ((draws1.length : Int) == 0) = true, true = true])
    (hr : AvLe (.tup [.nilSl, .int .i64 0, .int .i64 1]) res) : G Try.prog E (f45K0 Try.prog) (f45S0 s plan draws at_ v2 draws1 g2) :=
  end_stepL (n := 400) (evs := [.auto, .ld (.int .i64 se.kind), .b true, .auto, .ld (.agg [.int .i64 se.kind, .int .i64 se.prize, .rsl (rowTrn se.turns) 0 se.turns.length]), .auto, .ld (.int .i64 e), .b true, .b true, .b true]) (obs := _) hE Try.func45 mixed (by kernel_rfl) ho hr
theorem p45_0_1 (s : Stl) (plan : (List Int)) (draws : (List Int)) (at_ : Int) (v2 : List Int) (draws1 : (List Int)) (g2 : Nat) (se : Stg) (e : Int) (e1 : Int)  {E : Env} {res : AV} (hE : PureE Try.prog 45 res E) (ho : AllP [0 ≤ at_ ∧ at_ < (((((machG s).s).stages).length : Nat) : Int), ((rowStg (((machG s).s).stages)).drop ((0 + (Int.toNat at_) * 3) + 0)).take 1 = [.int .i64 se.kind], (se.kind != 4) = true, g2 = g2, (0 + (v2.length * 1)) = (rowI v2).length, (v2.length + 1) ≤ 2147483648, 0 = 0, 0 ≤ at_ ∧ at_ < (((((machG s).s).stages).length : Nat) : Int), ((rowStg (((machG s).s).stages)).drop (0 + (Int.toNat at_) * 3)).take 3 = [.int .i64 se.kind, .int .i64 se.prize, .rsl (rowTrn se.turns) 0 se.turns.length], 3 ≤ 3, 0 ≤ at_ ∧ at_ < (plan.length : Int), ((rowI plan).drop (0 + (Int.toNat at_) * 1)).take 1 = [.int .i64 e], (se.kind == 1) = true, ((draws1.length : Int) == 0) = false, (0 : Int) ≤ 0 ∧ (0 : Int) < (draws1.length : Int), ((rowI draws1).drop (0 + 0 * 1)).take 1 = [.int .i64 e1], PureF Try.prog (.clos 99 [] []) [.agg [.int .i64 se.kind, .int .i64 se.prize, .rsl (rowTrn se.turns) 0 se.turns.length]] (.int .i64 (totI se)), InR .i64 ((totI se) - 1), PureF Try.prog (.clos 65 [] []) [.int .i64 e1, .int .i64 0, .int .i64 ((totI se) - 1)] (.bool (within e1 0 ((totI se) - 1))), (!(within e1 0 ((totI se) - 1))) = true])
    (hr : AvLe (.tup [.nilSl, .int .i64 0, .int .i64 1]) res) : G Try.prog E (f45K0 Try.prog) (f45S0 s plan draws at_ v2 draws1 g2) :=
  end_stepL (n := 400) (evs := [.auto, .ld (.int .i64 se.kind), .b true, .auto, .ld (.agg [.int .i64 se.kind, .int .i64 se.prize, .rsl (rowTrn se.turns) 0 se.turns.length]), .auto, .ld (.int .i64 e), .b true, .b false, .ld (.int .i64 e1), .v (.int .i64 (totI se)), .v (.bool (within e1 0 ((totI se) - 1))), .b true]) (obs := _) hE Try.func45 mixed (by kernel_rfl) ho hr
theorem p45_0_2 (s : Stl) (plan : (List Int)) (draws : (List Int)) (at_ : Int) (v2 : List Int) (draws1 : (List Int)) (g2 : Nat) (se : Stg) (e : Int) (e1 : Int)  {E : Env} {rv : AV} (hE : PureE Try.prog 45 rv E) (ho : AllP [0 ≤ at_ ∧ at_ < (((((machG s).s).stages).length : Nat) : Int), ((rowStg (((machG s).s).stages)).drop ((0 + (Int.toNat at_) * 3) + 0)).take 1 = [.int .i64 se.kind], (se.kind != 4) = true, g2 = g2, (0 + (v2.length * 1)) = (rowI v2).length, (v2.length + 1) ≤ 2147483648, 0 = 0, 0 ≤ at_ ∧ at_ < (((((machG s).s).stages).length : Nat) : Int), ((rowStg (((machG s).s).stages)).drop (0 + (Int.toNat at_) * 3)).take 3 = [.int .i64 se.kind, .int .i64 se.prize, .rsl (rowTrn se.turns) 0 se.turns.length], 3 ≤ 3, 0 ≤ at_ ∧ at_ < (plan.length : Int), ((rowI plan).drop (0 + (Int.toNat at_) * 1)).take 1 = [.int .i64 e], (se.kind == 1) = true, ((draws1.length : Int) == 0) = false, (0 : Int) ≤ 0 ∧ (0 : Int) < (draws1.length : Int), ((rowI draws1).drop (0 + 0 * 1)).take 1 = [.int .i64 e1], PureF Try.prog (.clos 99 [] []) [.agg [.int .i64 se.kind, .int .i64 se.prize, .rsl (rowTrn se.turns) 0 se.turns.length]] (.int .i64 (totI se)), InR .i64 ((totI se) - 1), PureF Try.prog (.clos 65 [] []) [.int .i64 e1, .int .i64 0, .int .i64 ((totI se) - 1)] (.bool (within e1 0 ((totI se) - 1))), (!(within e1 0 ((totI se) - 1))) = false, (0 : Int) ≤ 0 ∧ (0 : Int) < (draws1.length : Int), ((rowI draws1).drop (0 + 0 * 1)).take 1 = [.int .i64 e1]])
    (hg : G Try.prog E (f45K1 Try.prog) ⟨[J, J, .rsl (rowI draws1) 0 draws1.length, J, .rptr [.rsl (rowI plan) 0 plan.length] 0, J, .sl 2 (g2 + 1) 0 (v2.length + 1) 1, J, J, .rptr [.rsl (rowStg (((machG s).s).stages)) 0 ((((machG s).s).stages).length), .rsl (rowI (((machG s).s).worth)) 0 ((((machG s).s).worth).length), .int .i64 (((machG s).s).price), .rsl (rowI ((machG s).meas)) 0 (((machG s).meas).length), .rsl (rowI ((machG s).mult)) 0 (((machG s).mult).length)] 0, J, .ptr 4 0 0, .int .i64 e, .int .i64 e1, J, J, J, J, J, J, J, J, J, J, J, J, J, J, J, J, J, J, J, J, J, J, J, J, J, J, J, J, J, J, J, J, J, J, J, J, J, J, J, J, J, J, J, J, J, J, J, J, J, J, J, J, J, J, J, J, J, J, J, J, J, J, J, J, J, J, J, J, J, J, J, J, J, J, J, J, J, J, J, J, J, J, J, J, J, J, J, J, J, J, J, J, J], [⟨true, 0, 1, true, [.rsl (rowStg s.stages) 0 s.stages.length, .rsl (rowI s.worth) 0 s.worth.length, .int .i64 s.price], false⟩, ⟨false, 1, 1, true, [], false⟩, ⟨true, (g2 + 1), 1, true, ((rowI v2) ++ [.int .i64 at_]), true⟩, ⟨true, 0, 1, true, [.int .i64 at_], true⟩, ⟨true, 0, 1, true, [.int .i64 se.kind, .int .i64 se.prize, .rsl (rowTrn se.turns) 0 se.turns.length], false⟩]⟩) : G Try.prog E (f45K0 Try.prog) (f45S0 s plan draws at_ v2 draws1 g2) :=
  segC_step (n := 400) (ds := []) (cs := []) (live := [2, 4, 6, 9, 11, 12, 13]) (m := 5) (evs := [.auto, .ld (.int .i64 se.kind), .b true, .auto, .ld (.agg [.int .i64 se.kind, .int .i64 se.prize, .rsl (rowTrn se.turns) 0 se.turns.length]), .auto, .ld (.int .i64 e), .b true, .b false, .ld (.int .i64 e1), .v (.int .i64 (totI se)), .v (.bool (within e1 0 ((totI se) - 1))), .b false, .ld (.int .i64 e1), .stop]) (obs := _) hE.2.1 (hE.nogh _) mixed (by kernel_rfl) ho hg
theorem p45_0_3 (s : Stl) (plan : (List Int)) (draws : (List Int)) (at_ : Int) (v2 : List Int) (draws1 : (List Int)) (g2 : Nat) (se : Stg) (e : Int) (te : Trn)  {E : Env} {rv : AV} (hE : PureE Try.prog 45 rv E) (ho : AllP [0 ≤ at_ ∧ at_ < (((((machG s).s).stages).length : Nat) : Int), ((rowStg (((machG s).s).stages)).drop ((0 + (Int.toNat at_) * 3) + 0)).take 1 = [.int .i64 se.kind], (se.kind != 4) = true, g2 = g2, (0 + (v2.length * 1)) = (rowI v2).length, (v2.length + 1) ≤ 2147483648, 0 = 0, 0 ≤ at_ ∧ at_ < (((((machG s).s).stages).length : Nat) : Int), ((rowStg (((machG s).s).stages)).drop (0 + (Int.toNat at_) * 3)).take 3 = [.int .i64 se.kind, .int .i64 se.prize, .rsl (rowTrn se.turns) 0 se.turns.length], 3 ≤ 3, 0 ≤ at_ ∧ at_ < (plan.length : Int), ((rowI plan).drop (0 + (Int.toNat at_) * 1)).take 1 = [.int .i64 e], (se.kind == 1) = false, 0 ≤ e ∧ e < (se.turns.length : Int), ((rowTrn se.turns).drop ((0 + (Int.toNat e) * 2) + 1)).take 1 = [.int .i64 te.to]])
    (hg : G Try.prog E (f45K0 Try.prog) ⟨[J, J, .rsl (rowI draws1) 0 draws1.length, J, .rptr [.rsl (rowI plan) 0 plan.length] 0, J, .sl 2 (g2 + 1) 0 (v2.length + 1) 1, J, J, .rptr [.rsl (rowStg (((machG s).s).stages)) 0 ((((machG s).s).stages).length), .rsl (rowI (((machG s).s).worth)) 0 ((((machG s).s).worth).length), .int .i64 (((machG s).s).price), .rsl (rowI ((machG s).meas)) 0 (((machG s).meas).length), .rsl (rowI ((machG s).mult)) 0 (((machG s).mult).length)] 0, .int .i64 te.to, J, J, J, J, J, J, J, J, J, J, J, J, J, J, J, J, J, J, J, J, J, J, J, J, J, J, J, J, J, J, J, J, J, J, J, J, J, J, J, J, J, J, J, J, J, J, J, J, J, J, J, J, J, J, J, J, J, J, J, J, J, J, J, J, J, J, J, J, J, J, J, J, J, J, J, J, J, J, J, J, J, J, J, J, J, J, J, J, J, J, J, J, J, J, J, J], [⟨true, 0, 1, true, [.rsl (rowStg s.stages) 0 s.stages.length, .rsl (rowI s.worth) 0 s.worth.length, .int .i64 s.price], false⟩, ⟨false, 1, 1, true, [], false⟩, ⟨true, (g2 + 1), 1, true, ((rowI v2) ++ [.int .i64 at_]), true⟩]⟩) : G Try.prog E (f45K0 Try.prog) (f45S0 s plan draws at_ v2 draws1 g2) :=
  segC_step (n := 400) (ds := []) (cs := []) (live := [2, 4, 6, 9, 10]) (m := 3) (evs := [.auto, .ld (.int .i64 se.kind), .b true, .auto, .ld (.agg [.int .i64 se.kind, .int .i64 se.prize, .rsl (rowTrn se.turns) 0 se.turns.length]), .auto, .ld (.int .i64 e), .b false, .auto, .ld (.int .i64 te.to), .stop]) (obs := _) hE.2.1 (hE.nogh _) mixed (by kernel_rfl) ho hg
theorem p45_0_4 (s : Stl) (plan : (List Int)) (draws : (List Int)) (at_ : Int) (v2 : List Int) (draws1 : (List Int)) (g2 : Nat) (se : Stg)  {E : Env} {res : AV} (hE : PureE Try.prog 45 res E) (ho : AllP [0 ≤ at_ ∧ at_ < (((((machG s).s).stages).length : Nat) : Int), ((rowStg (((machG s).s).stages)).drop ((0 + (Int.toNat at_) * 3) + 0)).take 1 = [.int .i64 se.kind], (se.kind != 4) = false, g2 = g2, (0 + (v2.length * 1)) = (rowI v2).length, (v2.length + 1) ≤ 2147483648, 0 = 0, 0 ≤ at_ ∧ at_ < (((((machG s).s).stages).length : Nat) : Int), ((rowStg (((machG s).s).stages)).drop ((0 + (Int.toNat at_) * 3) + 1)).take 1 = [.int .i64 se.prize], (g2 + 1) = (g2 + 1)])
    (hr : AvLe (.tup [.rsl ((rowI v2) ++ [.int .i64 at_]) 0 (v2.length + 1), .int .i64 se.prize, .int .i64 0]) res) : G Try.prog E (f45K0 Try.prog) (f45S0 s plan draws at_ v2 draws1 g2) :=
  end_stepL (n := 400) (evs := [.auto, .ld (.int .i64 se.kind), .b false, .auto, .ld (.int .i64 se.prize)]) (obs := _) hE Try.func45 mixed (by kernel_rfl) ho hr
theorem f45W0 (s : Stl) (plan : (List Int)) (draws : (List Int)) (at_ : Int) (v2 : List Int) (draws1 : (List Int)) {E : Env} {rv : ((List Int) × Int × Int)} (hE : PureE Try.prog 45 (.tup [.rsl (rowI rv.1) 0 rv.1.length, .int .i64 rv.2.1, .int .i64 rv.2.2]) E)
    (h : (0 ≤ at_ ∧ (∃ se : Stg, (((machG s).s).stages)[Int.toNat at_]? = some se ∧ ((¬ (se.kind = 4) → ((v2.length + 1) ≤ 2147483648 ∧ (0 ≤ at_ ∧ (∃ e : Int, plan[Int.toNat at_]? = some e ∧ ((se.kind = 1 → (((draws1.length : Int) = 0 → rv = (([] : List Int), 0, 1)) ∧ (¬ ((draws1.length : Int) = 0) → (∃ e1 : Int, draws1[0]? = some e1 ∧ ((TotOk se) ∧ ((-9223372036854775808 ≤ (totI se) - 1 ∧ (totI se) - 1 ≤ 9223372036854775807) ∧ (((within e1 0 ((totI se) - 1)) = false → rv = (([] : List Int), 0, 1)) ∧ ((within e1 0 ((totI se) - 1)) = true → f45G1 E s plan draws e e1 se.kind se.prize se.turns at_ (v2 ++ [at_]) draws1)))))))) ∧ (¬ (se.kind = 1) → (0 ≤ e ∧ (∃ te : Trn, se.turns[Int.toNat e]? = some te ∧ f45G0 E s plan draws te.to (v2 ++ [at_]) draws1)))))))) ∧ (se.kind = 4 → ((v2.length + 1) ≤ 2147483648 ∧ rv = ((v2 ++ [at_]), se.prize, 0))))))) : f45G0 E s plan draws at_ v2 draws1 := by
  intro g2
  obtain ⟨h2, h⟩ := h
  obtain ⟨se, h1, h⟩ := h
  rcases Bool.eq_false_or_eq_true (se.kind != 4) with hc0 | hc0
  · have h := h.1 (bneT hc0)
    obtain ⟨h3, h⟩ := h
    obtain ⟨h5, h⟩ := h
    obtain ⟨e, h4, h⟩ := h
    rcases Bool.eq_false_or_eq_true (se.kind == 1) with hc1 | hc1
    · have h := h.1 (eq_of_beq hc1)
      rcases Bool.eq_false_or_eq_true ((draws1.length : Int) == 0) with hc2 | hc2
      · have h := h.1 (eq_of_beq hc2)
        exact p45_0_0 s plan draws at_ v2 draws1 g2 se e hE ⟨(idx_ok' h2 h1), (row_part cStg (s := 3) (k := 0) (m := 1) (fun _ => rfl) (by decide) h1), hc0, rfl, (by have hx := row_len cI (s := 1) (fun _ => rfl) v2; simp only [rowI] at hx ⊢; rw [hx]; simp), h3, rfl, (idx_ok' h2 h1), (row_part cStg (s := 3) (k := 0) (m := 3) (fun _ => rfl) (by decide) h1), (by decide), (idx_ok' h5 h4), (row_part cI (s := 1) (k := 0) (m := 1) (fun _ => rfl) (by decide) h4), hc1, hc2, rfl, trivial⟩ (by rw [h]; exact (tup_le ⟨nil_le, ⟨AvLe.of_eq rfl, ⟨AvLe.of_eq rfl, trivial⟩⟩⟩))
      · have h := h.2 (ne_of_beq_false hc2)
        obtain ⟨e1, h6, h⟩ := h
        obtain ⟨h7, h⟩ := h
        obtain ⟨q20_3, h⟩ := h
        rcases Bool.eq_false_or_eq_true (!(within e1 0 ((totI se) - 1))) with hc3 | hc3
        · have h := h.1 (bnT hc3)
          exact p45_0_1 s plan draws at_ v2 draws1 g2 se e e1 hE ⟨(idx_ok' h2 h1), (row_part cStg (s := 3) (k := 0) (m := 1) (fun _ => rfl) (by decide) h1), hc0, rfl, (by have hx := row_len cI (s := 1) (fun _ => rfl) v2; simp only [rowI] at hx ⊢; rw [hx]; simp), h3, rfl, (idx_ok' h2 h1), (row_part cStg (s := 3) (k := 0) (m := 3) (fun _ => rfl) (by decide) h1), (by decide), (idx_ok' h5 h4), (row_part cI (s := 1) (k := 0) (m := 1) (fun _ => rfl) (by decide) h4), hc1, hc2, (idx_ok h6), (row_part cI (s := 1) (k := 0) (m := 1) (fun _ => rfl) (by decide) h6), (pureF_of Try.func99 (by kernel_rfl) f99b (total_ok se h7)), q20_3, (pureF_of Try.func65 (by kernel_rfl) f65b (within_ok e1 0 ((totI se) - 1))), hc3, trivial⟩ (by rw [h]; exact (tup_le ⟨nil_le, ⟨AvLe.of_eq rfl, ⟨AvLe.of_eq rfl, trivial⟩⟩⟩))
        · have h := h.2 (bnF hc3)
          refine p45_0_2 s plan draws at_ v2 draws1 g2 se e e1 hE ⟨(idx_ok' h2 h1), (row_part cStg (s := 3) (k := 0) (m := 1) (fun _ => rfl) (by decide) h1), hc0, rfl, (by have hx := row_len cI (s := 1) (fun _ => rfl) v2; simp only [rowI] at hx ⊢; rw [hx]; simp), h3, rfl, (idx_ok' h2 h1), (row_part cStg (s := 3) (k := 0) (m := 3) (fun _ => rfl) (by decide) h1), (by decide), (idx_ok' h5 h4), (row_part cI (s := 1) (k := 0) (m := 1) (fun _ => rfl) (by decide) h4), hc1, hc2, (idx_ok h6), (row_part cI (s := 1) (k := 0) (m := 1) (fun _ => rfl) (by decide) h6), (pureF_of Try.func99 (by kernel_rfl) f99b (total_ok se h7)), q20_3, (pureF_of Try.func65 (by kernel_rfl) f65b (within_ok e1 0 ((totI se) - 1))), hc3, (idx_ok h6), (row_part cI (s := 1) (k := 0) (m := 1) (fun _ => rfl) (by decide) h6), trivial⟩ ?_
          rw [(show rowI v2 ++ [.int .i64 at_] = rowI (v2 ++ [at_]) from (row_app cI v2 [at_]).symm)]; rw [(show (v2.length + 1) = (v2 ++ [at_]).length from by simp)]; exact (h (g2 + 1))
    · have h := h.2 (ne_of_beq_false hc1)
      obtain ⟨h7, h⟩ := h
      obtain ⟨te, h6, h⟩ := h
      refine p45_0_3 s plan draws at_ v2 draws1 g2 se e te hE ⟨(idx_ok' h2 h1), (row_part cStg (s := 3) (k := 0) (m := 1) (fun _ => rfl) (by decide) h1), hc0, rfl, (by have hx := row_len cI (s := 1) (fun _ => rfl) v2; simp only [rowI] at hx ⊢; rw [hx]; simp), h3, rfl, (idx_ok' h2 h1), (row_part cStg (s := 3) (k := 0) (m := 3) (fun _ => rfl) (by decide) h1), (by decide), (idx_ok' h5 h4), (row_part cI (s := 1) (k := 0) (m := 1) (fun _ => rfl) (by decide) h4), hc1, (idx_ok' h7 h6), (row_part cTrn (s := 2) (k := 1) (m := 1) (fun _ => rfl) (by decide) h6), trivial⟩ ?_
      rw [(show rowI v2 ++ [.int .i64 at_] = rowI (v2 ++ [at_]) from (row_app cI v2 [at_]).symm)]; rw [(show (v2.length + 1) = (v2 ++ [at_]).length from by simp)]; exact (h (g2 + 1))
  · have h := h.2 (bneF hc0)
    obtain ⟨h3, h⟩ := h
    exact p45_0_4 s plan draws at_ v2 draws1 g2 se hE ⟨(idx_ok' h2 h1), (row_part cStg (s := 3) (k := 0) (m := 1) (fun _ => rfl) (by decide) h1), hc0, rfl, (by have hx := row_len cI (s := 1) (fun _ => rfl) v2; simp only [rowI] at hx ⊢; rw [hx]; simp), h3, rfl, (idx_ok' h2 h1), (row_part cStg (s := 3) (k := 1) (m := 1) (fun _ => rfl) (by decide) h1), rfl, trivial⟩ (AvLe.of_eq (by rw [h]; rw [(show AV.rsl ((rowI v2) ++ [.int .i64 at_]) 0 (v2.length + 1) = AV.rsl (rowI (v2 ++ [at_])) 0 (v2 ++ [at_]).length from by rw [(show rowI v2 ++ [.int .i64 at_] = rowI (v2 ++ [at_]) from (row_app cI v2 [at_]).symm)]; rw [show (v2.length + 1) = (v2 ++ [at_]).length from by simp])]; try rfl))
theorem p45_1_0 (s : Stl) (plan : (List Int)) (draws : (List Int)) (turn : Int) (left : Int) (v4_0 : Int) (v4_1 : Int) (v4_2 : (List Trn)) (v3_0 : Int) (v2 : List Int) (draws1 : (List Int)) (g2 : Nat) (te : Trn)  {E : Env} {rv : AV} (hE : PureE Try.prog 45 rv E) (ho : AllP [0 ≤ turn ∧ turn < (v4_2.length : Int), ((rowTrn v4_2).drop ((0 + (Int.toNat turn) * 2) + 0)).take 1 = [.int .i64 te.w], (decide (left ≥ te.w)) = true, 0 ≤ turn ∧ turn < (v4_2.length : Int), ((rowTrn v4_2).drop ((0 + (Int.toNat turn) * 2) + 0)).take 1 = [.int .i64 te.w], InR .i64 (left - te.w), InR .i64 (turn + 1)])
    (hg : G Try.prog E (f45K1 Try.prog) ⟨[J, J, .rsl (rowI draws1) 0 draws1.length, J, .rptr [.rsl (rowI plan) 0 plan.length] 0, J, .sl 2 g2 0 v2.length 1, J, J, .rptr [.rsl (rowStg (((machG s).s).stages)) 0 ((((machG s).s).stages).length), .rsl (rowI (((machG s).s).worth)) 0 ((((machG s).s).worth).length), .int .i64 (((machG s).s).price), .rsl (rowI ((machG s).meas)) 0 (((machG s).meas).length), .rsl (rowI ((machG s).mult)) 0 (((machG s).mult).length)] 0, J, .ptr 4 0 0, .int .i64 (turn + 1), .int .i64 (left - te.w), J, J, J, J, J, J, J, J, J, J, J, J, J, J, J, J, J, J, J, J, J, J, J, J, J, J, J, J, J, J, J, J, J, J, J, J, J, J, J, J, J, J, J, J, J, J, J, J, J, J, J, J, J, J, J, J, J, J, J, J, J, J, J, J, J, J, J, J, J, J, J, J, J, J, J, J, J, J, J, J, J, J, J, J, J, J, J, J, J, J, J, J, J], [⟨true, 0, 1, true, [.rsl (rowStg s.stages) 0 s.stages.length, .rsl (rowI s.worth) 0 s.worth.length, .int .i64 s.price], false⟩, ⟨false, 1, 1, true, [], false⟩, ⟨true, g2, 1, true, (rowI v2), true⟩, ⟨true, 0, 1, true, [.int .i64 v3_0], true⟩, ⟨true, 0, 1, true, [.int .i64 v4_0, .int .i64 v4_1, .rsl (rowTrn v4_2) 0 v4_2.length], false⟩]⟩) : G Try.prog E (f45K1 Try.prog) (f45S1 s plan draws turn left v4_0 v4_1 v4_2 v3_0 v2 draws1 g2) :=
  segC_step (n := 400) (ds := []) (cs := []) (live := [2, 4, 6, 9, 11, 12, 13]) (m := 5) (evs := [.auto, .ld (.int .i64 te.w), .b true, .auto, .ld (.int .i64 te.w), .stop]) (obs := _) hE.2.1 (hE.nogh _) mixed (by kernel_rfl) ho hg
theorem p45_1_1 (s : Stl) (plan : (List Int)) (draws : (List Int)) (turn : Int) (left : Int) (v4_0 : Int) (v4_1 : Int) (v4_2 : (List Trn)) (v3_0 : Int) (v2 : List Int) (draws1 : (List Int)) (g2 : Nat) (te : Trn)  {E : Env} {rv : AV} (hE : PureE Try.prog 45 rv E) (ho : AllP [0 ≤ turn ∧ turn < (v4_2.length : Int), ((rowTrn v4_2).drop ((0 + (Int.toNat turn) * 2) + 0)).take 1 = [.int .i64 te.w], (decide (left ≥ te.w)) = false, 1 ≤ draws1.length, draws1.length ≤ draws1.length, (0 : Int) ≤ 1, 0 ≤ turn ∧ turn < (v4_2.length : Int), ((rowTrn v4_2).drop ((0 + (Int.toNat turn) * 2) + 1)).take 1 = [.int .i64 te.to]])
    (hg : G Try.prog E (f45K0 Try.prog) ⟨[J, J, .rsl (rowI draws1) 1 (draws1.length - 1), J, .rptr [.rsl (rowI plan) 0 plan.length] 0, J, .sl 2 g2 0 v2.length 1, J, J, .rptr [.rsl (rowStg (((machG s).s).stages)) 0 ((((machG s).s).stages).length), .rsl (rowI (((machG s).s).worth)) 0 ((((machG s).s).worth).length), .int .i64 (((machG s).s).price), .rsl (rowI ((machG s).meas)) 0 (((machG s).meas).length), .rsl (rowI ((machG s).mult)) 0 (((machG s).mult).length)] 0, .int .i64 te.to, J, J, J, J, J, J, J, J, J, J, J, J, J, J, J, J, J, J, J, J, J, J, J, J, J, J, J, J, J, J, J, J, J, J, J, J, J, J, J, J, J, J, J, J, J, J, J, J, J, J, J, J, J, J, J, J, J, J, J, J, J, J, J, J, J, J, J, J, J, J, J, J, J, J, J, J, J, J, J, J, J, J, J, J, J, J, J, J, J, J, J, J, J, J, J, J], [⟨true, 0, 1, true, [.rsl (rowStg s.stages) 0 s.stages.length, .rsl (rowI s.worth) 0 s.worth.length, .int .i64 s.price], false⟩, ⟨false, 1, 1, true, [], false⟩, ⟨true, g2, 1, true, (rowI v2), true⟩]⟩) : G Try.prog E (f45K1 Try.prog) (f45S1 s plan draws turn left v4_0 v4_1 v4_2 v3_0 v2 draws1 g2) :=
  segC_step (n := 400) (ds := []) (cs := []) (live := [2, 4, 6, 9, 10]) (m := 3) (evs := [.auto, .ld (.int .i64 te.w), .b false, .auto, .ld (.int .i64 te.to), .stop]) (obs := _) hE.2.1 (hE.nogh _) mixed (by kernel_rfl) ho hg
theorem f45W1 (s : Stl) (plan : (List Int)) (draws : (List Int)) (turn : Int) (left : Int) (v4_0 : Int) (v4_1 : Int) (v4_2 : (List Trn)) (v3_0 : Int) (v2 : List Int) (draws1 : (List Int)) {E : Env} {rv : ((List Int) × Int × Int)} (hE : PureE Try.prog 45 (.tup [.rsl (rowI rv.1) 0 rv.1.length, .int .i64 rv.2.1, .int .i64 rv.2.2]) E)
    (h : (0 ≤ turn ∧ (∃ te : Trn, v4_2[Int.toNat turn]? = some te ∧ ((left ≥ te.w → ((-9223372036854775808 ≤ left - te.w ∧ left - te.w ≤ 9223372036854775807) ∧ ((-9223372036854775808 ≤ turn + 1 ∧ turn + 1 ≤ 9223372036854775807) ∧ f45G1 E s plan draws (turn + 1) (left - te.w) v4_0 v4_1 v4_2 v3_0 v2 draws1))) ∧ (¬ (left ≥ te.w) → (1 ≤ draws1.length ∧ f45G0 E s plan draws te.to v2 (draws1.drop 1))))))) : f45G1 E s plan draws turn left v4_0 v4_1 v4_2 v3_0 v2 draws1 := by
  intro g2
  obtain ⟨h2, h⟩ := h
  obtain ⟨te, h1, h⟩ := h
  rcases Bool.eq_false_or_eq_true (decide (left ≥ te.w)) with hc0 | hc0
  · have h := h.1 (of_decide_eq_true hc0)
    obtain ⟨q6_1, h⟩ := h
    obtain ⟨q7_1, h⟩ := h
    exact p45_1_0 s plan draws turn left v4_0 v4_1 v4_2 v3_0 v2 draws1 g2 te hE ⟨(idx_ok' h2 h1), (row_part cTrn (s := 2) (k := 0) (m := 1) (fun _ => rfl) (by decide) h1), hc0, (idx_ok' h2 h1), (row_part cTrn (s := 2) (k := 0) (m := 1) (fun _ => rfl) (by decide) h1), q6_1, q7_1, trivial⟩ (h g2)
  · have h := h.2 (of_decide_eq_false hc0)
    obtain ⟨q4_1, h⟩ := h
    refine p45_1_1 s plan draws turn left v4_0 v4_1 v4_2 v3_0 v2 draws1 g2 te hE ⟨(idx_ok' h2 h1), (row_part cTrn (s := 2) (k := 0) (m := 1) (fun _ => rfl) (by decide) h1), hc0, q4_1, (Nat.le_refl _), (by decide), (idx_ok' h2 h1), (row_part cTrn (s := 2) (k := 1) (m := 1) (fun _ => rfl) (by decide) h1), trivial⟩ ?_
    refine weakT_step (t := 2) (v' := .rsl (rowI (draws1.drop 1)) 0 ((draws1.drop 1).length)) rfl rfl rfl (by exact rsl_drop cI (s := 1) (fun _ => rfl) 1 (by omega) (by first | rfl | omega | simp)) ?_
    simp only [List.set_cons_succ, List.set_cons_zero]
    skip; exact (h g2)
theorem play_ok (s : Stl) (plan draws : List Int) (h : (s.stages.length ≤ 9223372036854775807 ∧ s.worth.length ≤ 9223372036854775807)) : Pure Try.prog 45 [avStl s, .rsl (rowI plan) 0 plan.length, .rsl (rowI draws) 0 draws.length] (.tup [.rsl (rowI (playK s plan draws).1) 0 (playK s plan draws).1.length, .int .i64 (playK s plan draws).2.1, .int .i64 (playK s plan draws).2.2]) := pure_of Try.func45 f45b fun E hE => by
  have main : planE s plan = 0 → f45G0 E s plan draws 0 [] draws := by
    intro he
    obtain ⟨hc, hpl⟩ := planE_of he
    obtain ⟨hm, es⟩ := mok_G (isSome_of hc)
    have hform := (stPre_of hm.st).2.2.2.2
    have hn := (stPre_of hm.st).1
    rw [es] at hform hn
    have hrv : playK s plan draws = playF s plan s.stages.length 0 [] draws := by rw [playK, if_pos he]
    have key : ∀ (n : Nat) (at_ : Int) (v ds : List Int) ,  0 ≤ at_ → at_ < (s.stages.length : Int) → (s.stages.length : Int) ≤ at_ + n → (v.length : Int) ≤ at_ → playK s plan draws = playF s plan n at_ v ds → f45G0 E s plan draws at_ v ds := by
      intro n
      induction n with
      | zero => intro at_ v ds  h0 h1 h2 h3 h4; omega
      | succ n ih =>
        intro at_ v ds  h0 h1 h2 h3 h4
        have hi : s.stages[Int.toNat at_]? = some s.stages[Int.toNat at_] := List.getElem?_eq_getElem (by omega)
        have hx : s.stages.getD (Int.toNat at_) ⟨0, 0, []⟩ = s.stages[Int.toNat at_] := by simp [List.getD, hi]
        have hto := turns_to hi (hform _ (by omega))
        have htt := tot_of hi (hform _ (by omega))
        have hfo := form_of hi (hform _ (by omega))
        obtain ⟨e, hpe, he0, he1⟩ := (planOk_of hpl).2 _ _ hi
        have hpi : planI plan at_ = e := by simp [planI, List.getD, hpe]
        unfold playF at h4
        rw [hx, hpi] at h4
        generalize s.stages[Int.toNat at_] = x at hi hto htt hfo he1 h4
        have nx := fun (t : Trn) (ht : t ∈ x.turns) (ds' : List Int)  (h5 : playK s plan draws = playF s plan n t.to (v ++ [at_]) ds') => ih t.to (v ++ [at_]) ds'  (by have := hto t ht; omega) (by have := hto t ht; omega) (by have := hto t ht; omega) (by have := hto t ht; simp; omega) h5
        refine f45W0 s plan draws at_ v ds (rv := playK s plan draws) hE ⟨h0, x, by rw [es]; exact hi, fun k4 => ?_, fun h4' => ⟨by omega, ?_⟩⟩
        · rw [if_neg k4] at h4
          refine ⟨by omega, h0, e, hpe, fun k1 => ?_, fun k1 => ?_⟩
          · rw [if_pos k1] at h4
            have hz : e = 0 := by rw [planMost, if_neg (by omega)] at he1; omega
            have hto2 := htt.2 k1
            cases ds with
            | nil => exact ⟨fun _ => h4, fun h => absurd rfl h⟩
            | cons d ds =>
            simp only at h4
            refine ⟨fun h => by simp at h; omega, fun _ => ⟨d, rfl, htt.1, by omega, fun hw => ?_, fun hw => ?_⟩⟩
            · rw [hw] at h4; exact h4
            rw [if_pos hw] at h4
            have hwd := within_iff.1 hw
            have hmem := drawT_mem (ts := x.turns) (d := d) hwd.1 (by have := hwd.2; rw [totI] at this; omega)
            have loop : ∀ (m k : Nat) (left : Int), k + m = x.turns.length → 0 ≤ left → left < ((x.turns.drop k).map (·.w)).sum → drawT (x.turns.drop k) left = drawT x.turns d → f45G1 E s plan draws (k : Int) left x.kind x.prize x.turns at_ (v ++ [at_]) (d :: ds) := by
              intro m
              induction m with
              | zero =>
                intro k left hk hl0 hl1 hd
                rw [List.drop_eq_nil_of_le (by omega)] at hl1; simp at hl1; omega
              | succ m ih2 =>
                intro k left hk hl0 hl1 hd
                have hkk : x.turns[k]? = some x.turns[k] := List.getElem?_eq_getElem (by omega)
                have htm := List.mem_of_getElem? hkk
                rw [List.drop_eq_getElem_cons (by omega)] at hl1 hd
                simp only [List.map_cons, List.sum_cons, drawT] at hl1 hd
                generalize x.turns[k] = te at hkk htm hl1 hd
                have hw := htt.1.2 te htm
                have htl := htt.1.1
                have hlb : left ≤ 1000000000 := by
                  have := tot_bd (l := x.turns.drop (k + 1)) (B := 1000000) fun t ht => htt.1.2 t (List.mem_of_mem_drop ht)
                  have h9 : ((x.turns.drop (k + 1)).length : Int) ≤ 998 := by rw [List.length_drop]; rcases hfo with ⟨q, -⟩ | ⟨-, -, q, -⟩ <;> omega
                  omega
                refine f45W1 s plan draws (k : Int) left x.kind x.prize x.turns at_ (v ++ [at_]) (d :: ds) (rv := playK s plan draws) hE ⟨by omega, te, by rw [Int.toNat_natCast]; exact hkk, fun hge => ⟨by omega, by omega, ?_⟩, fun hge => ⟨by simp, ?_⟩⟩
                · rw [if_pos hge] at hd
                  exact ih2 (k + 1) (left - te.w) (by omega) (by omega) (by omega) hd
                · rw [if_neg hge] at hd
                  rw [← hd] at h4
                  exact nx te htm ds h4
            rw [hz]
            exact loop x.turns.length 0 d (by omega) hwd.1 (by have := hwd.2; rw [totI] at this; simpa using (by omega : d < (x.turns.map (·.w)).sum)) (by simp)
          · rw [if_neg k1] at h4
            have hel : Int.toNat e < x.turns.length := by
              rcases hfo with ⟨q, -⟩ | ⟨q0, -, q, -⟩
              · exact absurd q k4
              · rw [planMost, if_pos (by omega)] at he1; omega
            have hte : x.turns[Int.toNat e]? = some x.turns[Int.toNat e] := List.getElem?_eq_getElem hel
            rw [show x.turns.getD (Int.toNat e) ⟨0, 0⟩ = x.turns[Int.toNat e] by simp [List.getD, hte]] at h4
            have htm := List.mem_of_getElem? hte
            generalize x.turns[Int.toNat e] = te at hte htm h4
            exact ⟨he0, te, hte, nx te htm ds h4⟩
        · rw [if_pos h4'] at h4
          exact h4
    exact key s.stages.length 0 [] draws (by omega) (by omega) (by omega) (by simp) hrv
  refine f45W s plan draws (rv := playK s plan draws) hE ⟨fun h0 => ⟨fun h1 => ⟨h, main ?_⟩, fun h1 => ⟨h, ?_⟩⟩, fun h0 => ⟨h, ?_⟩⟩
  · rw [planE_eq h0, if_pos h1]
  · have he : planE s plan = 1 := by rw [planE_eq h0, if_neg (by rw [h1]; simp)]
    rw [playK, if_neg (by omega), he]
  · have he : planE s plan = 60 := by rw [planE, if_neg (fun h => by rw [isSome_iff.2 h] at h0; cases h0)]
    rw [playK, if_neg (by omega), he]


end Go.Proofs.Ytfgmlaeikcfpbaa

namespace Go.Proofs.Ytfgmlaeikcfpbaa
open Go Ax
open Go.Proofs

/-! ### What a stage is worth at most -/
/-! ### Ways -/
def wGo (a b : Int) : Int → List Int → List Int
  | c, [] => [c]
  | c, x :: xs => (c + x * b) :: wGo a b (x * a) xs
/-! ### Enough -/
/-- What lies in the new list after 'k' rounds. -/
structure WInv (a b : Int) (w : List Int) (k : Nat) (v : List Int) : Prop where
  len : v.length = w.length + 1
  eq : ∃ c, v[k]? = some c ∧ 0 ≤ c ∧ wGo a b 0 w = v.take k ++ wGo a b c (w.drop k)
  z : ∀ j, k < j → j < v.length → v[j]? = some 0
end Go.Proofs.Ytfgmlaeikcfpbaa

namespace Go.Proofs.Ytfgmlaeikcfpbaa
open Go Ax
open Go.Proofs

theorem getB_ge {l : List Bool} {i : Nat} (h : l.length ≤ i) : l.getD i false = false := by simp [List.getD, List.getElem?_eq_none h]
/-! ### Fractions in parts of the measure -/
def FrV (s : Stl) (a : Fr) : Int := a.num * Int.tdiv (meas0I s) a.den
structure FrOk (s : Stl) (a : Fr) : Prop where
  pos : 0 < a.den
  dvd : a.den ∣ meas0I s
  bd : -100000000000000000 ≤ FrV s a ∧ FrV s a ≤ 100000000000000000
end Go.Proofs.Ytfgmlaeikcfpbaa

namespace Go.Proofs.Ytfgmlaeikcfpbaa
open Go Ax
open Go.Proofs

def gF (s : Stl) (p o : Int) : Fr := firstI (machG s) (worthI (machG s)) (chooseI (machG s) p o)
structure GOk (s : Stl) (p o : Int) : Prop where
  k : gainK s p o = ((gF s p o).num, (gF s p o).den, 0)
  ok : FrOk s (gF s p o)
  v : FrV s (gF s p o) = gainV s p o
  nn : 0 ≤ (gF s p o).num
  le : (gF s p o).num ≤ 10000 * (gF s p o).den
  den : 0 < (gF s p o).den ∧ (gF s p o).den ≤ 1000000000000
/-! ### Printed -/
/-! ### Handed -/
theorem play_reach {s : Stl} (hc : checkK s = 0) {plan : List Int} (hpl : planOk s plan = true) : ∀ (n : Nat) (at_ : Int) (v ds : List Int), 0 ≤ at_ → at_ < (s.stages.length : Int) → (s.stages.length : Int) ≤ at_ + n → (reachI s).getD (Int.toNat at_) false = true → (playF s plan n at_ v ds).2.2 = 0 →
    ∃ i x, s.stages[i]? = some x ∧ x.kind = 4 ∧ (reachI s).getD i false = true ∧ (playF s plan n at_ v ds).2.1 = x.prize := by
  obtain ⟨hm, es⟩ := mok_G (isSome_of hc)
  have hform := (stPre_of hm.st).2.2.2.2
  rw [es] at hform
  intro n
  induction n with
  | zero => intro at_ v ds h0 h1 h2; omega
  | succ n ih =>
    intro at_ v ds h0 h1 h2 hr h3
    have hi : s.stages[Int.toNat at_]? = some s.stages[Int.toNat at_] := List.getElem?_eq_getElem (by omega)
    have hx : s.stages.getD (Int.toNat at_) ⟨0, 0, []⟩ = s.stages[Int.toNat at_] := by simp [List.getD, hi]
    have hto := turns_to hi (hform _ (by omega))
    have htt := tot_of hi (hform _ (by omega))
    have hfo := form_of hi (hform _ (by omega))
    obtain ⟨e, hpe, he0, he1⟩ := (planOk_of hpl).2 _ _ hi
    have hpi : planI plan at_ = e := by simp [planI, List.getD, hpe]
    -- where its turns lead can be reached
    have hnext : ∀ t ∈ s.stages[Int.toNat at_].turns, (reachI s).getD (Int.toNat t.to) false = true := by
      intro t ht
      have h5 := hto t ht
      have h6 := reachN_stay hform (j := Int.toNat t.to) (d := s.stages.length - Int.toNat t.to)
      rw [reachI_at hform (by omega)]
      rw [reachI_at hform (by omega)] at hr
      have h7 : (reachN s (Int.toNat at_ + 1)).getD (Int.toNat t.to) false = true := by
        simp only [reachN]
        rw [if_pos hr, hx]
        have hlen : Int.toNat t.to < (reachN s (Int.toNat at_)).length := by rw [reachN_len]; exact h5.2.1
        have mark : ∀ (ts : List Trn) (r : List Bool) (j : Nat), j < r.length → ((∃ t ∈ ts, Int.toNat t.to = j) ∨ r.getD j false = true) → (markT r ts).getD j false = true := by
          intro ts
          induction ts with
          | nil => intro r j hj h; rcases h with ⟨t, ht, -⟩ | h; · simp at ht
                   · exact h
          | cons a ts ih =>
            intro r j hj h
            simp only [markT]
            refine ih _ _ (by rw [List.length_set]; exact hj) ?_
            by_cases e : Int.toNat a.to = j
            · right; subst e; simp [List.getD, List.getElem?_set_self hj]
            · rcases h with ⟨t, ht, h⟩ | h
              · rcases List.mem_cons.1 ht with rfl | ht
                · exact absurd h e
                · exact .inl ⟨t, ht, h⟩
              · right; simp only [List.getD, List.getElem?_set_ne e]; exact h
        exact mark _ _ _ hlen (.inl ⟨t, ht, rfl⟩)
      -- it stays so
      have stay : ∀ d, (reachN s (Int.toNat at_ + 1 + d)).getD (Int.toNat t.to) false = true := by
        intro d
        induction d with
        | zero => exact h7
        | succ d ih =>
          rw [show Int.toNat at_ + 1 + (d + 1) = (Int.toNat at_ + 1 + d) + 1 by omega]
          simp only [reachN]
          split
          · have mono : ∀ (ts : List Trn) (r : List Bool) (j : Nat), r.getD j false = true → (markT r ts).getD j false = true := by
              intro ts
              induction ts with
              | nil => intro r j h; exact h
              | cons a ts ih =>
                intro r j h
                simp only [markT]
                refine ih _ _ ?_
                have hj : j < r.length := by
                  apply Classical.byContradiction
                  intro hh
                  rw [getB_ge (by omega)] at h; cases h
                by_cases e : Int.toNat a.to = j
                · subst e; simp [List.getD, List.getElem?_set_self hj]
                · simp only [List.getD, List.getElem?_set_ne e]; exact h
            exact mono _ _ _ ih
          · exact ih
      have := stay (Int.toNat t.to - (Int.toNat at_ + 1))
      rwa [show Int.toNat at_ + 1 + (Int.toNat t.to - (Int.toNat at_ + 1)) = Int.toNat t.to by omega] at this
    unfold playF at h3 ⊢
    rw [hx, hpi] at h3 ⊢
    generalize s.stages[Int.toNat at_] = x at hi hto htt hfo he1 h3 hnext ⊢
    split at h3
    · rename_i h4
      rw [if_pos h4]
      exact ⟨_, x, hi, h4, hr, rfl⟩
    · rename_i h4
      rw [if_neg h4]
      split at h3
      · rename_i h1'
        rw [if_pos h1']
        cases ds with
        | nil => simp at h3
        | cons d ds =>
          simp only at h3 ⊢
          split at h3
          · rename_i hw
            rw [if_pos hw]
            have hwd := within_iff.1 hw
            have hmem := drawT_mem (ts := x.turns) (d := d) hwd.1 (by have := hwd.2; rw [totI] at this; omega)
            have h5 := hto _ hmem
            exact ih _ _ _ (by omega) (by omega) (by omega) (hnext _ hmem) h3
          · simp at h3
      · rename_i h1'
        rw [if_neg h1']
        have hel : Int.toNat e < x.turns.length := by
          rcases hfo with ⟨q, -⟩ | ⟨q0, -, q, -⟩
          · exact absurd q h4
          · rw [planMost, if_pos (by omega)] at he1; omega
        have hte : x.turns[Int.toNat e]? = some x.turns[Int.toNat e] := List.getElem?_eq_getElem hel
        rw [show x.turns.getD (Int.toNat e) ⟨0, 0⟩ = x.turns[Int.toNat e] by simp [List.getD, hte]] at h3 ⊢
        have hmem := List.mem_of_getElem? hte
        have h5 := hto _ hmem
        exact ih _ _ _ (by omega) (by omega) (by omega) (hnext _ hmem) h3
theorem reach0 {s : Stl} (hc : checkK s = 0) : (reachI s).getD 0 false = true := by
  obtain ⟨hm, es⟩ := mok_G (isSome_of hc)
  have hform := (stPre_of hm.st).2.2.2.2
  have hn := (stPre_of hm.st).1
  rw [es] at hform hn
  rw [reachI_at hform (by omega)]
  simp only [reachN]
  rw [List.getD, List.getElem?_set_self (by simp; omega)]; rfl
/-- The least stock of what can be won. -/
theorem leastN_ok {s : Stl} {stock : List Int} (hsb : ∀ n ∈ stock, 0 ≤ n ∧ n ≤ 1000) (hp : ∀ (i : Nat) (x : Stg), s.stages[i]? = some x → x.kind = 4 → x.prize ≥ 0 → Int.toNat x.prize < stock.length) : ∀ n : Nat, n ≤ s.stages.length →
    (∀ (i : Nat) (x : Stg), i < n → s.stages[i]? = some x → (reachI s).getD i false = true → x.kind = 4 → x.prize ≥ 0 → 0 ≤ leastN s stock n ∧ leastN s stock n ≤ stock.getD (Int.toNat x.prize) 0) ∧
    (0 ≤ leastN s stock n → ∃ (i : Nat) (x : Stg), i < n ∧ s.stages[i]? = some x ∧ (reachI s).getD i false = true ∧ x.kind = 4 ∧ x.prize ≥ 0 ∧ stock.getD (Int.toNat x.prize) 0 = leastN s stock n)
  | 0, _ => ⟨fun i x h => by omega, fun h => by simp [leastN] at h⟩
  | n + 1, hn => by
    obtain ⟨ih1, ih2⟩ := leastN_ok hsb hp n (by omega)
    have hi : s.stages[n]? = some s.stages[n] := List.getElem?_eq_getElem (by omega)
    have hx : s.stages.getD n ⟨0, 0, []⟩ = s.stages[n] := by simp [List.getD, hi]
    simp only [leastN]
    rw [hx]
    have hpn := hp n _ hi
    have hst : s.stages[n].kind = 4 → s.stages[n].prize ≥ 0 → 0 ≤ stock.getD (Int.toNat s.stages[n].prize) 0 := fun h4 hpr => by
      have h1 := hpn h4 hpr
      exact (hsb _ (List.mem_of_getElem? (getD_some h1))).1
    generalize hxx : s.stages[n] = y at *
    generalize leastN s stock n = l at *
    unfold leastS
    split
    · rename_i hh
      obtain ⟨q1, q2, q3, q4⟩ := hh
      have := hst q2 q3
      refine ⟨fun i x hin hix hr h4 hpr => ?_, fun _ => ⟨n, y, by omega, hi, q1, q2, q3, rfl⟩⟩
      by_cases e : i = n
      · subst e; rw [hi] at hix; cases hix; exact ⟨this, Int.le_refl _⟩
      · have := ih1 i x (by omega) hix hr h4 hpr
        omega
    · rename_i hh
      refine ⟨fun i x hin hix hr h4 hpr => ?_, fun h => ?_⟩
      · by_cases e : i = n
        · subst e; rw [hi] at hix; cases hix
          have h5 : ¬ (l < 0 ∨ stock.getD (Int.toNat y.prize) 0 < l) := fun h6 => hh ⟨hr, h4, hpr, h6⟩
          omega
        · exact ih1 i x (by omega) hix hr h4 hpr
      · obtain ⟨i, x, a, b⟩ := ih2 h
        exact ⟨i, x, by omega, b⟩
theorem f17b : Try.f17.body = some (bodyAt Try.prog 17) := by kernel_rfl
def f17K0 (P : Program) : List Item := kAt 400 [.code (bodyAt P 17)] [.b false, .stop]
def f17S0 (s : Stl) (stock : (List Int)) (p : Hnd) (v2 : List Int) (least : Bool) (i : Nat) (g2 : Nat) : St := ⟨[J, .rsl (rowI stock) 0 stock.length, J, .ptr 0 0 0, J, .ptr 1 0 0, J, .int .i64 ((lastsK s stock).1), J, .bool least, .sl 2 g2 0 v2.length 1, .rsl (rowB (reachI s)) 0 ((reachI s).length), .int .i64 (i : Int), J, J, J, J, J, J, J, J, J, J, J, J, J, J, J, J, J, J, J, J, J, J, J, J, J, J, J, J, J, J, J, J, J, J, J, J, J, J, J, J, J, J, J, J, J, J, J, J, J, J, J, J, J, J, J, J, J, J, J, J, J, J, J, J, J, J, J, J, J, J, J, J, J, J, J, J, J, J, J, J, J, J, J, J, J, J, J, J, J, J, J, J, J, J, J, J, J, J, J, J, J, J, J, J, J, J, J, J, J, J, J, J, J, J, J, J, J, J, J, J, J, J, J, J, J], [⟨true, 0, 1, true, [.rsl (rowStg s.stages) 0 s.stages.length, .rsl (rowI s.worth) 0 s.worth.length, .int .i64 s.price], false⟩, ⟨true, 0, 1, true, [.rsl (rowI p.plan) 0 p.plan.length, .rsl (rowI p.draws) 0 p.draws.length], false⟩, ⟨true, g2, 1, true, (rowI v2), true⟩]⟩
def f17G0 (E : Env) (s : Stl) (stock : (List Int)) (p : Hnd) (v2 : List Int) (least : Bool) (i : Nat) : Prop := ∀ g2 : Nat, G Try.prog E (f17K0 Try.prog) (f17S0 s stock p v2 least i g2)
def f17K1 (P : Program) : List Item := kAt 400 [.code (bodyAt P 17)] [.b false, .b false, .b false, .stop]
def f17S1 (s : Stl) (stock : (List Int)) (p : Hnd) (v2 : List Int) (play : Nat) (g2 : Nat) : St := ⟨[J, .rsl (rowI stock) 0 stock.length, J, .ptr 0 0 0, J, .ptr 1 0 0, J, .int .i64 ((lastsK s stock).1), J, J, .sl 2 g2 0 v2.length 1, J, J, J, .int .i64 (play : Int), J, J, J, J, J, J, J, J, J, J, J, J, J, J, J, J, J, J, J, J, J, J, J, J, J, J, J, J, J, J, J, J, J, J, J, J, J, J, J, J, J, J, J, J, J, J, J, J, J, J, J, J, J, J, J, J, J, J, J, J, J, J, J, J, J, J, J, J, J, J, J, J, J, J, J, J, J, J, J, J, J, J, J, J, J, J, J, J, J, J, J, J, J, J, J, J, J, J, J, J, J, J, J, J, J, J, J, J, J, J, J, J, J, J, J, J, J, J, J, J, J, J, J], [⟨true, 0, 1, true, [.rsl (rowStg s.stages) 0 s.stages.length, .rsl (rowI s.worth) 0 s.worth.length, .int .i64 s.price], false⟩, ⟨true, 0, 1, true, [.rsl (rowI p.plan) 0 p.plan.length, .rsl (rowI p.draws) 0 p.draws.length], false⟩, ⟨true, g2, 1, true, (rowI v2), true⟩]⟩
def f17G1 (E : Env) (s : Stl) (stock : (List Int)) (p : Hnd) (v2 : List Int) (play : Nat) : Prop := ∀ g2 : Nat, G Try.prog E (f17K1 Try.prog) (f17S1 s stock p v2 play g2)
theorem p17_start_0 (s : Stl) (stock : (List Int)) (p : Hnd)   {E : Env} {res : AV} (hE : PureE Try.prog 17 res E) (ho : AllP [PureF Try.prog (.clos 43 [] []) [.agg [.rsl (rowStg s.stages) 0 s.stages.length, .rsl (rowI s.worth) 0 s.worth.length, .int .i64 s.price], .rsl (rowI stock) 0 stock.length] (.tup [.int .i64 ((lastsK s stock).1), .int .i64 ((lastsK s stock).2)]), ((lastsK s stock).2 != 0) = true, true = true, true = true, PureF Try.prog (.clos 20 [] []) [] (.bool true)])
    (hr : AvLe (.bool true) res) : G Try.prog E [.code (bodyAt Try.prog 17)] ⟨[.agg [.rsl (rowStg s.stages) 0 s.stages.length, .rsl (rowI s.worth) 0 s.worth.length, .int .i64 s.price], .rsl (rowI stock) 0 stock.length, .agg [.rsl (rowI p.plan) 0 p.plan.length, .rsl (rowI p.draws) 0 p.draws.length]] ++ unds (Try.f17.ntmps - 3), []⟩ :=
  end_stepL (n := 400) (evs := [.v (.tup [.int .i64 ((lastsK s stock).1), .int .i64 ((lastsK s stock).2)]), .b true, .b true, .b true, .v (.bool true)]) (obs := _) hE Try.func17 mixed (by kernel_rfl) ho hr
theorem p17_start_1 (s : Stl) (stock : (List Int)) (p : Hnd)   {E : Env} {res : AV} (hE : PureE Try.prog 17 res E) (ho : AllP [PureF Try.prog (.clos 43 [] []) [.agg [.rsl (rowStg s.stages) 0 s.stages.length, .rsl (rowI s.worth) 0 s.worth.length, .int .i64 s.price], .rsl (rowI stock) 0 stock.length] (.tup [.int .i64 ((lastsK s stock).1), .int .i64 ((lastsK s stock).2)]), ((lastsK s stock).2 != 0) = false, PureF Try.prog (.clos 19 [] []) [.agg [.rsl (rowStg s.stages) 0 s.stages.length, .rsl (rowI s.worth) 0 s.worth.length, .int .i64 s.price]] (.int .i64 (checkK s)), ((checkK s) != 0) = true, true = true, PureF Try.prog (.clos 20 [] []) [] (.bool true)])
    (hr : AvLe (.bool true) res) : G Try.prog E [.code (bodyAt Try.prog 17)] ⟨[.agg [.rsl (rowStg s.stages) 0 s.stages.length, .rsl (rowI s.worth) 0 s.worth.length, .int .i64 s.price], .rsl (rowI stock) 0 stock.length, .agg [.rsl (rowI p.plan) 0 p.plan.length, .rsl (rowI p.draws) 0 p.draws.length]] ++ unds (Try.f17.ntmps - 3), []⟩ :=
  end_stepL (n := 400) (evs := [.v (.tup [.int .i64 ((lastsK s stock).1), .int .i64 ((lastsK s stock).2)]), .b false, .v (.int .i64 (checkK s)), .b true, .b true, .v (.bool true)]) (obs := _) hE Try.func17 mixed (by kernel_rfl) ho hr
theorem p17_start_2 (s : Stl) (stock : (List Int)) (p : Hnd)   {E : Env} {res : AV} (hE : PureE Try.prog 17 res E) (ho : AllP [PureF Try.prog (.clos 43 [] []) [.agg [.rsl (rowStg s.stages) 0 s.stages.length, .rsl (rowI s.worth) 0 s.worth.length, .int .i64 s.price], .rsl (rowI stock) 0 stock.length] (.tup [.int .i64 ((lastsK s stock).1), .int .i64 ((lastsK s stock).2)]), ((lastsK s stock).2 != 0) = false, PureF Try.prog (.clos 19 [] []) [.agg [.rsl (rowStg s.stages) 0 s.stages.length, .rsl (rowI s.worth) 0 s.worth.length, .int .i64 s.price]] (.int .i64 (checkK s)), ((checkK s) != 0) = false, ((stock.length : Int) != (s.worth.length : Int)) = true, PureF Try.prog (.clos 20 [] []) [] (.bool true)])
    (hr : AvLe (.bool true) res) : G Try.prog E [.code (bodyAt Try.prog 17)] ⟨[.agg [.rsl (rowStg s.stages) 0 s.stages.length, .rsl (rowI s.worth) 0 s.worth.length, .int .i64 s.price], .rsl (rowI stock) 0 stock.length, .agg [.rsl (rowI p.plan) 0 p.plan.length, .rsl (rowI p.draws) 0 p.draws.length]] ++ unds (Try.f17.ntmps - 3), []⟩ :=
  end_stepL (n := 400) (evs := [.v (.tup [.int .i64 ((lastsK s stock).1), .int .i64 ((lastsK s stock).2)]), .b false, .v (.int .i64 (checkK s)), .b false, .b true, .v (.bool true)]) (obs := _) hE Try.func17 mixed (by kernel_rfl) ho hr
theorem p17_start_3 (s : Stl) (stock : (List Int)) (p : Hnd)   {E : Env} {rv : AV} (hE : PureE Try.prog 17 rv E) (ho : AllP [PureF Try.prog (.clos 43 [] []) [.agg [.rsl (rowStg s.stages) 0 s.stages.length, .rsl (rowI s.worth) 0 s.worth.length, .int .i64 s.price], .rsl (rowI stock) 0 stock.length] (.tup [.int .i64 ((lastsK s stock).1), .int .i64 ((lastsK s stock).2)]), ((lastsK s stock).2 != 0) = false, PureF Try.prog (.clos 19 [] []) [.agg [.rsl (rowStg s.stages) 0 s.stages.length, .rsl (rowI s.worth) 0 s.worth.length, .int .i64 s.price]] (.int .i64 (checkK s)), ((checkK s) != 0) = false, ((stock.length : Int) != (s.worth.length : Int)) = false, 0 ≤ (stock.length : Int) ∧ (stock.length : Int) ≤ (stock.length : Int) ∧ (stock.length : Int) ≤ 2147483648, PureF Try.prog (.clos 60 [] []) [.agg [.rsl (rowStg s.stages) 0 s.stages.length, .rsl (rowI s.worth) 0 s.worth.length, .int .i64 s.price]] (.rsl (rowB (reachI s)) 0 ((reachI s).length))])
    (hg : G Try.prog E (f17K0 Try.prog) ⟨[J, .rsl (rowI stock) 0 stock.length, J, .ptr 0 0 0, J, .ptr 1 0 0, J, .int .i64 ((lastsK s stock).1), J, .bool false, .sl 2 0 0 (Int.toNat (stock.length : Int)) 1, .rsl (rowB (reachI s)) 0 ((reachI s).length), .int .i64 0, J, J, J, J, J, J, J, J, J, J, J, J, J, J, J, J, J, J, J, J, J, J, J, J, J, J, J, J, J, J, J, J, J, J, J, J, J, J, J, J, J, J, J, J, J, J, J, J, J, J, J, J, J, J, J, J, J, J, J, J, J, J, J, J, J, J, J, J, J, J, J, J, J, J, J, J, J, J, J, J, J, J, J, J, J, J, J, J, J, J, J, J, J, J, J, J, J, J, J, J, J, J, J, J, J, J, J, J, J, J, J, J, J, J, J, J, J, J, J, J, J, J, J, J, J], [⟨true, 0, 1, true, [.rsl (rowStg s.stages) 0 s.stages.length, .rsl (rowI s.worth) 0 s.worth.length, .int .i64 s.price], false⟩, ⟨true, 0, 1, true, [.rsl (rowI p.plan) 0 p.plan.length, .rsl (rowI p.draws) 0 p.draws.length], false⟩, ⟨true, 0, 1, true, ((List.replicate (Int.toNat (stock.length : Int)) ([.int .i64 0] : List AV)).flatten), true⟩]⟩) : G Try.prog E [.code (bodyAt Try.prog 17)] ⟨[.agg [.rsl (rowStg s.stages) 0 s.stages.length, .rsl (rowI s.worth) 0 s.worth.length, .int .i64 s.price], .rsl (rowI stock) 0 stock.length, .agg [.rsl (rowI p.plan) 0 p.plan.length, .rsl (rowI p.draws) 0 p.draws.length]] ++ unds (Try.f17.ntmps - 3), []⟩ :=
  segC_step (n := 400) (ds := []) (cs := []) (live := [1, 3, 5, 7, 9, 10, 11, 12]) (m := 3) (evs := [.v (.tup [.int .i64 ((lastsK s stock).1), .int .i64 ((lastsK s stock).2)]), .b false, .v (.int .i64 (checkK s)), .b false, .b false, .v (.rsl (rowB (reachI s)) 0 ((reachI s).length)), .stop]) (obs := _) hE.2.1 (hE.nogh _) mixed (by kernel_rfl) ho hg
theorem f17W (s : Stl) (stock : (List Int)) (p : Hnd) {E : Env} {rv : Bool} (hE : PureE Try.prog 17 (.bool rv) E)
    (h : (((s.stages.length ≤ 9223372036854775807 ∧ s.worth.length ≤ 9223372036854775807) ∧ stock.length ≤ 9223372036854775807) ∧ ((¬ ((lastsK s stock).2 = 0) → rv = true) ∧ ((lastsK s stock).2 = 0 → ((s.stages.length ≤ 9223372036854775807 ∧ s.worth.length ≤ 9223372036854775807) ∧ ((¬ ((checkK s) = 0) → rv = true) ∧ ((checkK s) = 0 → ((¬ ((stock.length : Int) = (s.worth.length : Int)) → rv = true) ∧ ((stock.length : Int) = (s.worth.length : Int) → (stock.length ≤ 2147483648 ∧ ((checkK s = 0) ∧ f17G0 E s stock p (List.replicate stock.length (0 : Int)) false 0))))))))))) : G Try.prog E [.code (bodyAt Try.prog 17)] ⟨[.agg [.rsl (rowStg s.stages) 0 s.stages.length, .rsl (rowI s.worth) 0 s.worth.length, .int .i64 s.price], .rsl (rowI stock) 0 stock.length, .agg [.rsl (rowI p.plan) 0 p.plan.length, .rsl (rowI p.draws) 0 p.draws.length]] ++ unds (Try.f17.ntmps - 3), []⟩ := by
  obtain ⟨h1, h⟩ := h
  rcases Bool.eq_false_or_eq_true ((lastsK s stock).2 != 0) with hc0 | hc0
  · have h := h.1 (bneT hc0)
    exact p17_start_0 s stock p    hE ⟨(pureF_of Try.func43 (by kernel_rfl) f43b (lasts_ok s stock h1)), hc0, rfl, rfl, (pureF_of Try.func20 (by kernel_rfl) f20b works_ok), trivial⟩ (AvLe.of_eq (by rw [h]; try rfl))
  · have h := h.2 (bneF hc0)
    obtain ⟨h2, h⟩ := h
    rcases Bool.eq_false_or_eq_true ((checkK s) != 0) with hc1 | hc1
    · have h := h.1 (bneT hc1)
      exact p17_start_1 s stock p    hE ⟨(pureF_of Try.func43 (by kernel_rfl) f43b (lasts_ok s stock h1)), hc0, (pureF_of Try.func19 (by kernel_rfl) f19b (checkR_ok s h2)), hc1, rfl, (pureF_of Try.func20 (by kernel_rfl) f20b works_ok), trivial⟩ (AvLe.of_eq (by rw [h]; try rfl))
    · have h := h.2 (bneF hc1)
      rcases Bool.eq_false_or_eq_true ((stock.length : Int) != (s.worth.length : Int)) with hc2 | hc2
      · have h := h.1 (bneT hc2)
        exact p17_start_2 s stock p    hE ⟨(pureF_of Try.func43 (by kernel_rfl) f43b (lasts_ok s stock h1)), hc0, (pureF_of Try.func19 (by kernel_rfl) f19b (checkR_ok s h2)), hc1, hc2, (pureF_of Try.func20 (by kernel_rfl) f20b works_ok), trivial⟩ (AvLe.of_eq (by rw [h]; try rfl))
      · have h := h.2 (bneF hc2)
        obtain ⟨h3, h⟩ := h
        obtain ⟨h4, h⟩ := h
        refine p17_start_3 s stock p    hE ⟨(pureF_of Try.func43 (by kernel_rfl) f43b (lasts_ok s stock h1)), hc0, (pureF_of Try.func19 (by kernel_rfl) f19b (checkR_ok s h2)), hc1, hc2, ⟨by omega, by omega, by have := h3; omega⟩, (pureF_of Try.func60 (by kernel_rfl) f60b (reached_ok s h4)), trivial⟩ ?_
        have h := (h 0)
        simp only [f17G0, f17S0, List.length_set, List.length_replicate] at h
        rw [(show (List.replicate (Int.toNat (stock.length : Int)) ([.int .i64 0] : List AV)).flatten = rowI (List.replicate stock.length (0 : Int)) from row_rep cI _ _)]
        exact h
theorem p17_0_0 (s : Stl) (stock : (List Int)) (p : Hnd) (v2 : List Int) (least : Bool) (i : Nat) (g2 : Nat) (se : Stg) (eb : Bool) (e : Int)  {E : Env} {res : AV} (hE : PureE Try.prog 17 res E) (ho : AllP [(decide ((i : Int) < (s.stages.length : Int))) = true, 0 ≤ (i : Int) ∧ (i : Int) < (s.stages.length : Int), ((rowStg s.stages).drop (0 + (Int.toNat (i : Int)) * 3)).take 3 = [.int .i64 se.kind, .int .i64 se.prize, .rsl (rowTrn se.turns) 0 se.turns.length], 3 ≤ 3, 0 ≤ (i : Int) ∧ (i : Int) < (((reachI s).length : Nat) : Int), ((rowB (reachI s)).drop (0 + (Int.toNat (i : Int)) * 1)).take 1 = [.bool eb], eb = true, (se.kind == 4) = true, (decide (se.prize ≥ 0)) = true, 0 ≤ se.prize ∧ se.prize < (stock.length : Int), ((rowI stock).drop (0 + (Int.toNat se.prize) * 1)).take 1 = [.int .i64 e], (decide (e < (lastsK s stock).1)) = true])
    (hr : AvLe (.bool false) res) : G Try.prog E (f17K0 Try.prog) (f17S0 s stock p v2 least i g2) :=
  end_stepL (n := 400) (evs := [.b true, .auto, .ld (.agg [.int .i64 se.kind, .int .i64 se.prize, .rsl (rowTrn se.turns) 0 se.turns.length]), .ld (.bool eb), .b true, .b true, .b true, .auto, .ld (.int .i64 e), .b true]) (obs := _) hE Try.func17 mixed (by kernel_rfl) ho hr
theorem p17_0_1 (s : Stl) (stock : (List Int)) (p : Hnd) (v2 : List Int) (least : Bool) (i : Nat) (g2 : Nat) (se : Stg) (eb : Bool) (e : Int)  {E : Env} {rv : AV} (hE : PureE Try.prog 17 rv E) (ho : AllP [(decide ((i : Int) < (s.stages.length : Int))) = true, 0 ≤ (i : Int) ∧ (i : Int) < (s.stages.length : Int), ((rowStg s.stages).drop (0 + (Int.toNat (i : Int)) * 3)).take 3 = [.int .i64 se.kind, .int .i64 se.prize, .rsl (rowTrn se.turns) 0 se.turns.length], 3 ≤ 3, 0 ≤ (i : Int) ∧ (i : Int) < (((reachI s).length : Nat) : Int), ((rowB (reachI s)).drop (0 + (Int.toNat (i : Int)) * 1)).take 1 = [.bool eb], eb = true, (se.kind == 4) = true, (decide (se.prize ≥ 0)) = true, 0 ≤ se.prize ∧ se.prize < (stock.length : Int), ((rowI stock).drop (0 + (Int.toNat se.prize) * 1)).take 1 = [.int .i64 e], (decide (e < (lastsK s stock).1)) = false, least = true, InR .i64 ((i : Int) + 1)])
    (hg : G Try.prog E (f17K0 Try.prog) ⟨[J, .rsl (rowI stock) 0 stock.length, J, .ptr 0 0 0, J, .ptr 1 0 0, J, .int .i64 ((lastsK s stock).1), J, .bool true, .sl 2 g2 0 v2.length 1, .rsl (rowB (reachI s)) 0 ((reachI s).length), .int .i64 ((i : Int) + 1), J, J, J, J, J, J, J, J, J, J, J, J, J, J, J, J, J, J, J, J, J, J, J, J, J, J, J, J, J, J, J, J, J, J, J, J, J, J, J, J, J, J, J, J, J, J, J, J, J, J, J, J, J, J, J, J, J, J, J, J, J, J, J, J, J, J, J, J, J, J, J, J, J, J, J, J, J, J, J, J, J, J, J, J, J, J, J, J, J, J, J, J, J, J, J, J, J, J, J, J, J, J, J, J, J, J, J, J, J, J, J, J, J, J, J, J, J, J, J, J, J, J, J, J, J], [⟨true, 0, 1, true, [.rsl (rowStg s.stages) 0 s.stages.length, .rsl (rowI s.worth) 0 s.worth.length, .int .i64 s.price], false⟩, ⟨true, 0, 1, true, [.rsl (rowI p.plan) 0 p.plan.length, .rsl (rowI p.draws) 0 p.draws.length], false⟩, ⟨true, g2, 1, true, (rowI v2), true⟩]⟩) : G Try.prog E (f17K0 Try.prog) (f17S0 s stock p v2 least i g2) :=
  segC_step (n := 400) (ds := []) (cs := []) (live := [1, 3, 5, 7, 9, 10, 11, 12]) (m := 3) (evs := [.b true, .auto, .ld (.agg [.int .i64 se.kind, .int .i64 se.prize, .rsl (rowTrn se.turns) 0 se.turns.length]), .ld (.bool eb), .b true, .b true, .b true, .auto, .ld (.int .i64 e), .b false, .b true, .stop]) (obs := _) hE.2.1 (hE.nogh _) mixed (by kernel_rfl) ho hg
theorem p17_0_2 (s : Stl) (stock : (List Int)) (p : Hnd) (v2 : List Int) (least : Bool) (i : Nat) (g2 : Nat) (se : Stg) (eb : Bool) (e : Int)  {E : Env} {rv : AV} (hE : PureE Try.prog 17 rv E) (ho : AllP [(decide ((i : Int) < (s.stages.length : Int))) = true, 0 ≤ (i : Int) ∧ (i : Int) < (s.stages.length : Int), ((rowStg s.stages).drop (0 + (Int.toNat (i : Int)) * 3)).take 3 = [.int .i64 se.kind, .int .i64 se.prize, .rsl (rowTrn se.turns) 0 se.turns.length], 3 ≤ 3, 0 ≤ (i : Int) ∧ (i : Int) < (((reachI s).length : Nat) : Int), ((rowB (reachI s)).drop (0 + (Int.toNat (i : Int)) * 1)).take 1 = [.bool eb], eb = true, (se.kind == 4) = true, (decide (se.prize ≥ 0)) = true, 0 ≤ se.prize ∧ se.prize < (stock.length : Int), ((rowI stock).drop (0 + (Int.toNat se.prize) * 1)).take 1 = [.int .i64 e], (decide (e < (lastsK s stock).1)) = false, least = false, 0 ≤ se.prize ∧ se.prize < (stock.length : Int), ((rowI stock).drop (0 + (Int.toNat se.prize) * 1)).take 1 = [.int .i64 e], InR .i64 ((i : Int) + 1)])
    (hg : G Try.prog E (f17K0 Try.prog) ⟨[J, .rsl (rowI stock) 0 stock.length, J, .ptr 0 0 0, J, .ptr 1 0 0, J, .int .i64 ((lastsK s stock).1), J, .bool (e == (lastsK s stock).1), .sl 2 g2 0 v2.length 1, .rsl (rowB (reachI s)) 0 ((reachI s).length), .int .i64 ((i : Int) + 1), J, J, J, J, J, J, J, J, J, J, J, J, J, J, J, J, J, J, J, J, J, J, J, J, J, J, J, J, J, J, J, J, J, J, J, J, J, J, J, J, J, J, J, J, J, J, J, J, J, J, J, J, J, J, J, J, J, J, J, J, J, J, J, J, J, J, J, J, J, J, J, J, J, J, J, J, J, J, J, J, J, J, J, J, J, J, J, J, J, J, J, J, J, J, J, J, J, J, J, J, J, J, J, J, J, J, J, J, J, J, J, J, J, J, J, J, J, J, J, J, J, J, J, J, J], [⟨true, 0, 1, true, [.rsl (rowStg s.stages) 0 s.stages.length, .rsl (rowI s.worth) 0 s.worth.length, .int .i64 s.price], false⟩, ⟨true, 0, 1, true, [.rsl (rowI p.plan) 0 p.plan.length, .rsl (rowI p.draws) 0 p.draws.length], false⟩, ⟨true, g2, 1, true, (rowI v2), true⟩]⟩) : G Try.prog E (f17K0 Try.prog) (f17S0 s stock p v2 least i g2) :=
  segC_step (n := 400) (ds := []) (cs := []) (live := [1, 3, 5, 7, 9, 10, 11, 12]) (m := 3) (evs := [.b true, .auto, .ld (.agg [.int .i64 se.kind, .int .i64 se.prize, .rsl (rowTrn se.turns) 0 se.turns.length]), .ld (.bool eb), .b true, .b true, .b true, .auto, .ld (.int .i64 e), .b false, .b false, .auto, .ld (.int .i64 e), .stop]) (obs := _) hE.2.1 (hE.nogh _) mixed (by kernel_rfl) ho hg
theorem p17_0_3 (s : Stl) (stock : (List Int)) (p : Hnd) (v2 : List Int) (least : Bool) (i : Nat) (g2 : Nat) (se : Stg) (eb : Bool)  {E : Env} {rv : AV} (hE : PureE Try.prog 17 rv E) (ho : AllP [(decide ((i : Int) < (s.stages.length : Int))) = true, 0 ≤ (i : Int) ∧ (i : Int) < (s.stages.length : Int), ((rowStg s.stages).drop (0 + (Int.toNat (i : Int)) * 3)).take 3 = [.int .i64 se.kind, .int .i64 se.prize, .rsl (rowTrn se.turns) 0 se.turns.length], 3 ≤ 3, 0 ≤ (i : Int) ∧ (i : Int) < (((reachI s).length : Nat) : Int), ((rowB (reachI s)).drop (0 + (Int.toNat (i : Int)) * 1)).take 1 = [.bool eb], eb = true, (se.kind == 4) = true, (decide (se.prize ≥ 0)) = false, InR .i64 ((i : Int) + 1)])
    (hg : G Try.prog E (f17K0 Try.prog) ⟨[J, .rsl (rowI stock) 0 stock.length, J, .ptr 0 0 0, J, .ptr 1 0 0, J, .int .i64 ((lastsK s stock).1), J, .bool least, .sl 2 g2 0 v2.length 1, .rsl (rowB (reachI s)) 0 ((reachI s).length), .int .i64 ((i : Int) + 1), J, J, J, J, J, J, J, J, J, J, J, J, J, J, J, J, J, J, J, J, J, J, J, J, J, J, J, J, J, J, J, J, J, J, J, J, J, J, J, J, J, J, J, J, J, J, J, J, J, J, J, J, J, J, J, J, J, J, J, J, J, J, J, J, J, J, J, J, J, J, J, J, J, J, J, J, J, J, J, J, J, J, J, J, J, J, J, J, J, J, J, J, J, J, J, J, J, J, J, J, J, J, J, J, J, J, J, J, J, J, J, J, J, J, J, J, J, J, J, J, J, J, J, J, J], [⟨true, 0, 1, true, [.rsl (rowStg s.stages) 0 s.stages.length, .rsl (rowI s.worth) 0 s.worth.length, .int .i64 s.price], false⟩, ⟨true, 0, 1, true, [.rsl (rowI p.plan) 0 p.plan.length, .rsl (rowI p.draws) 0 p.draws.length], false⟩, ⟨true, g2, 1, true, (rowI v2), true⟩]⟩) : G Try.prog E (f17K0 Try.prog) (f17S0 s stock p v2 least i g2) :=
  segC_step (n := 400) (ds := []) (cs := []) (live := [1, 3, 5, 7, 9, 10, 11, 12]) (m := 3) (evs := [.b true, .auto, .ld (.agg [.int .i64 se.kind, .int .i64 se.prize, .rsl (rowTrn se.turns) 0 se.turns.length]), .ld (.bool eb), .b true, .b true, .b false, .stop]) (obs := _) hE.2.1 (hE.nogh _) mixed (by kernel_rfl) ho hg
theorem p17_0_4 (s : Stl) (stock : (List Int)) (p : Hnd) (v2 : List Int) (least : Bool) (i : Nat) (g2 : Nat) (se : Stg) (eb : Bool)  {E : Env} {rv : AV} (hE : PureE Try.prog 17 rv E) (ho : AllP [(decide ((i : Int) < (s.stages.length : Int))) = true, 0 ≤ (i : Int) ∧ (i : Int) < (s.stages.length : Int), ((rowStg s.stages).drop (0 + (Int.toNat (i : Int)) * 3)).take 3 = [.int .i64 se.kind, .int .i64 se.prize, .rsl (rowTrn se.turns) 0 se.turns.length], 3 ≤ 3, 0 ≤ (i : Int) ∧ (i : Int) < (((reachI s).length : Nat) : Int), ((rowB (reachI s)).drop (0 + (Int.toNat (i : Int)) * 1)).take 1 = [.bool eb], eb = true, (se.kind == 4) = false, false = false, InR .i64 ((i : Int) + 1)])
    (hg : G Try.prog E (f17K0 Try.prog) ⟨[J, .rsl (rowI stock) 0 stock.length, J, .ptr 0 0 0, J, .ptr 1 0 0, J, .int .i64 ((lastsK s stock).1), J, .bool least, .sl 2 g2 0 v2.length 1, .rsl (rowB (reachI s)) 0 ((reachI s).length), .int .i64 ((i : Int) + 1), J, J, J, J, J, J, J, J, J, J, J, J, J, J, J, J, J, J, J, J, J, J, J, J, J, J, J, J, J, J, J, J, J, J, J, J, J, J, J, J, J, J, J, J, J, J, J, J, J, J, J, J, J, J, J, J, J, J, J, J, J, J, J, J, J, J, J, J, J, J, J, J, J, J, J, J, J, J, J, J, J, J, J, J, J, J, J, J, J, J, J, J, J, J, J, J, J, J, J, J, J, J, J, J, J, J, J, J, J, J, J, J, J, J, J, J, J, J, J, J, J, J, J, J, J], [⟨true, 0, 1, true, [.rsl (rowStg s.stages) 0 s.stages.length, .rsl (rowI s.worth) 0 s.worth.length, .int .i64 s.price], false⟩, ⟨true, 0, 1, true, [.rsl (rowI p.plan) 0 p.plan.length, .rsl (rowI p.draws) 0 p.draws.length], false⟩, ⟨true, g2, 1, true, (rowI v2), true⟩]⟩) : G Try.prog E (f17K0 Try.prog) (f17S0 s stock p v2 least i g2) :=
  segC_step (n := 400) (ds := []) (cs := []) (live := [1, 3, 5, 7, 9, 10, 11, 12]) (m := 3) (evs := [.b true, .auto, .ld (.agg [.int .i64 se.kind, .int .i64 se.prize, .rsl (rowTrn se.turns) 0 se.turns.length]), .ld (.bool eb), .b true, .b false, .b false, .stop]) (obs := _) hE.2.1 (hE.nogh _) mixed (by kernel_rfl) ho hg
theorem p17_0_5 (s : Stl) (stock : (List Int)) (p : Hnd) (v2 : List Int) (least : Bool) (i : Nat) (g2 : Nat) (se : Stg) (eb : Bool)  {E : Env} {rv : AV} (hE : PureE Try.prog 17 rv E) (ho : AllP [(decide ((i : Int) < (s.stages.length : Int))) = true, 0 ≤ (i : Int) ∧ (i : Int) < (s.stages.length : Int), ((rowStg s.stages).drop (0 + (Int.toNat (i : Int)) * 3)).take 3 = [.int .i64 se.kind, .int .i64 se.prize, .rsl (rowTrn se.turns) 0 se.turns.length], 3 ≤ 3, 0 ≤ (i : Int) ∧ (i : Int) < (((reachI s).length : Nat) : Int), ((rowB (reachI s)).drop (0 + (Int.toNat (i : Int)) * 1)).take 1 = [.bool eb], eb = false, false = false, false = false, InR .i64 ((i : Int) + 1)])
    (hg : G Try.prog E (f17K0 Try.prog) ⟨[J, .rsl (rowI stock) 0 stock.length, J, .ptr 0 0 0, J, .ptr 1 0 0, J, .int .i64 ((lastsK s stock).1), J, .bool least, .sl 2 g2 0 v2.length 1, .rsl (rowB (reachI s)) 0 ((reachI s).length), .int .i64 ((i : Int) + 1), J, J, J, J, J, J, J, J, J, J, J, J, J, J, J, J, J, J, J, J, J, J, J, J, J, J, J, J, J, J, J, J, J, J, J, J, J, J, J, J, J, J, J, J, J, J, J, J, J, J, J, J, J, J, J, J, J, J, J, J, J, J, J, J, J, J, J, J, J, J, J, J, J, J, J, J, J, J, J, J, J, J, J, J, J, J, J, J, J, J, J, J, J, J, J, J, J, J, J, J, J, J, J, J, J, J, J, J, J, J, J, J, J, J, J, J, J, J, J, J, J, J, J, J, J], [⟨true, 0, 1, true, [.rsl (rowStg s.stages) 0 s.stages.length, .rsl (rowI s.worth) 0 s.worth.length, .int .i64 s.price], false⟩, ⟨true, 0, 1, true, [.rsl (rowI p.plan) 0 p.plan.length, .rsl (rowI p.draws) 0 p.draws.length], false⟩, ⟨true, g2, 1, true, (rowI v2), true⟩]⟩) : G Try.prog E (f17K0 Try.prog) (f17S0 s stock p v2 least i g2) :=
  segC_step (n := 400) (ds := []) (cs := []) (live := [1, 3, 5, 7, 9, 10, 11, 12]) (m := 3) (evs := [.b true, .auto, .ld (.agg [.int .i64 se.kind, .int .i64 se.prize, .rsl (rowTrn se.turns) 0 se.turns.length]), .ld (.bool eb), .b false, .b false, .b false, .stop]) (obs := _) hE.2.1 (hE.nogh _) mixed (by kernel_rfl) ho hg
theorem p17_0_6 (s : Stl) (stock : (List Int)) (p : Hnd) (v2 : List Int) (least : Bool) (i : Nat) (g2 : Nat)  {E : Env} {res : AV} (hE : PureE Try.prog 17 res E) (ho : AllP [(decide ((i : Int) < (s.stages.length : Int))) = false, (!least) = true])
    (hr : AvLe (.bool false) res) : G Try.prog E (f17K0 Try.prog) (f17S0 s stock p v2 least i g2) :=
  end_stepL (n := 400) (evs := [.b false, .b true]) (obs := _) hE Try.func17 mixed (by kernel_rfl) ho hr
theorem p17_0_7 (s : Stl) (stock : (List Int)) (p : Hnd) (v2 : List Int) (least : Bool) (i : Nat) (g2 : Nat)  {E : Env} {rv : AV} (hE : PureE Try.prog 17 rv E) (ho : AllP [(decide ((i : Int) < (s.stages.length : Int))) = false, (!least) = false])
    (hg : G Try.prog E (f17K1 Try.prog) ⟨[J, .rsl (rowI stock) 0 stock.length, J, .ptr 0 0 0, J, .ptr 1 0 0, J, .int .i64 ((lastsK s stock).1), J, J, .sl 2 g2 0 v2.length 1, J, J, J, .int .i64 0, J, J, J, J, J, J, J, J, J, J, J, J, J, J, J, J, J, J, J, J, J, J, J, J, J, J, J, J, J, J, J, J, J, J, J, J, J, J, J, J, J, J, J, J, J, J, J, J, J, J, J, J, J, J, J, J, J, J, J, J, J, J, J, J, J, J, J, J, J, J, J, J, J, J, J, J, J, J, J, J, J, J, J, J, J, J, J, J, J, J, J, J, J, J, J, J, J, J, J, J, J, J, J, J, J, J, J, J, J, J, J, J, J, J, J, J, J, J, J, J, J, J, J], [⟨true, 0, 1, true, [.rsl (rowStg s.stages) 0 s.stages.length, .rsl (rowI s.worth) 0 s.worth.length, .int .i64 s.price], false⟩, ⟨true, 0, 1, true, [.rsl (rowI p.plan) 0 p.plan.length, .rsl (rowI p.draws) 0 p.draws.length], false⟩, ⟨true, g2, 1, true, (rowI v2), true⟩]⟩) : G Try.prog E (f17K0 Try.prog) (f17S0 s stock p v2 least i g2) :=
  segC_step (n := 400) (ds := []) (cs := []) (live := [1, 3, 5, 7, 10, 14]) (m := 3) (evs := [.b false, .b false, .stop]) (obs := _) hE.2.1 (hE.nogh _) mixed (by kernel_rfl) ho hg
theorem f17W0 (s : Stl) (stock : (List Int)) (p : Hnd) (v2 : List Int) (least : Bool) (i : Nat) {E : Env} {rv : Bool} (hE : PureE Try.prog 17 (.bool rv) E)
    (h : (((i : Int) < (s.stages.length : Int) → (∃ se : Stg, s.stages[i]? = some se ∧ (∃ eb : Bool, (reachI s)[i]? = some eb ∧ ((eb = true → ((se.kind = 4 → ((se.prize ≥ 0 → (0 ≤ se.prize ∧ (∃ e : Int, stock[Int.toNat se.prize]? = some e ∧ ((e < (lastsK s stock).1 → rv = false) ∧ (¬ (e < (lastsK s stock).1) → ((least = true → ((-9223372036854775808 ≤ (i : Int) + 1 ∧ (i : Int) + 1 ≤ 9223372036854775807) ∧ f17G0 E s stock p v2 true (i + 1))) ∧ (least = false → ((-9223372036854775808 ≤ (i : Int) + 1 ∧ (i : Int) + 1 ≤ 9223372036854775807) ∧ f17G0 E s stock p v2 (e == (lastsK s stock).1) (i + 1))))))))) ∧ (¬ (se.prize ≥ 0) → ((-9223372036854775808 ≤ (i : Int) + 1 ∧ (i : Int) + 1 ≤ 9223372036854775807) ∧ f17G0 E s stock p v2 least (i + 1))))) ∧ (¬ (se.kind = 4) → ((-9223372036854775808 ≤ (i : Int) + 1 ∧ (i : Int) + 1 ≤ 9223372036854775807) ∧ f17G0 E s stock p v2 least (i + 1))))) ∧ (eb = false → ((-9223372036854775808 ≤ (i : Int) + 1 ∧ (i : Int) + 1 ≤ 9223372036854775807) ∧ f17G0 E s stock p v2 least (i + 1))))))) ∧ (¬ ((i : Int) < (s.stages.length : Int)) → ((least = false → rv = false) ∧ (least = true → f17G1 E s stock p v2 0))))) : f17G0 E s stock p v2 least i := by
  intro g2
  rcases Bool.eq_false_or_eq_true (decide ((i : Int) < (s.stages.length : Int))) with hc0 | hc0
  · have h := h.1 (of_decide_eq_true hc0)
    obtain ⟨se, h1, h⟩ := h
    obtain ⟨eb, h2, h⟩ := h
    rcases Bool.eq_false_or_eq_true eb with hc1 | hc1
    · have h := h.1 hc1
      rcases Bool.eq_false_or_eq_true (se.kind == 4) with hc2 | hc2
      · have h := h.1 (eq_of_beq hc2)
        rcases Bool.eq_false_or_eq_true (decide (se.prize ≥ 0)) with hc3 | hc3
        · have h := h.1 (of_decide_eq_true hc3)
          obtain ⟨h4, h⟩ := h
          obtain ⟨e, h3, h⟩ := h
          rcases Bool.eq_false_or_eq_true (decide (e < (lastsK s stock).1)) with hc4 | hc4
          · have h := h.1 (of_decide_eq_true hc4)
            exact p17_0_0 s stock p v2 least i g2 se eb e hE ⟨hc0, (idx_ok h1), (row_part cStg (s := 3) (k := 0) (m := 3) (fun _ => rfl) (by decide) h1), (by decide), (idx_ok h2), (row_part cB (s := 1) (k := 0) (m := 1) (fun _ => rfl) (by decide) h2), hc1, hc2, hc3, (idx_ok' h4 h3), (row_part cI (s := 1) (k := 0) (m := 1) (fun _ => rfl) (by decide) h3), hc4, trivial⟩ (AvLe.of_eq (by rw [h]; try rfl))
          · have h := h.2 (of_decide_eq_false hc4)
            rcases Bool.eq_false_or_eq_true least with hc5 | hc5
            · have h := h.1 hc5
              obtain ⟨q16_6, h⟩ := h
              exact p17_0_1 s stock p v2 least i g2 se eb e hE ⟨hc0, (idx_ok h1), (row_part cStg (s := 3) (k := 0) (m := 3) (fun _ => rfl) (by decide) h1), (by decide), (idx_ok h2), (row_part cB (s := 1) (k := 0) (m := 1) (fun _ => rfl) (by decide) h2), hc1, hc2, hc3, (idx_ok' h4 h3), (row_part cI (s := 1) (k := 0) (m := 1) (fun _ => rfl) (by decide) h3), hc4, hc5, q16_6, trivial⟩ (h g2)
            · have h := h.2 hc5
              obtain ⟨q18_6, h⟩ := h
              exact p17_0_2 s stock p v2 least i g2 se eb e hE ⟨hc0, (idx_ok h1), (row_part cStg (s := 3) (k := 0) (m := 3) (fun _ => rfl) (by decide) h1), (by decide), (idx_ok h2), (row_part cB (s := 1) (k := 0) (m := 1) (fun _ => rfl) (by decide) h2), hc1, hc2, hc3, (idx_ok' h4 h3), (row_part cI (s := 1) (k := 0) (m := 1) (fun _ => rfl) (by decide) h3), hc4, hc5, (idx_ok' h4 h3), (row_part cI (s := 1) (k := 0) (m := 1) (fun _ => rfl) (by decide) h3), q18_6, trivial⟩ (h g2)
        · have h := h.2 (of_decide_eq_false hc3)
          obtain ⟨q11_4, h⟩ := h
          exact p17_0_3 s stock p v2 least i g2 se eb hE ⟨hc0, (idx_ok h1), (row_part cStg (s := 3) (k := 0) (m := 3) (fun _ => rfl) (by decide) h1), (by decide), (idx_ok h2), (row_part cB (s := 1) (k := 0) (m := 1) (fun _ => rfl) (by decide) h2), hc1, hc2, hc3, q11_4, trivial⟩ (h g2)
      · have h := h.2 (ne_of_beq_false hc2)
        obtain ⟨q11_3, h⟩ := h
        exact p17_0_4 s stock p v2 least i g2 se eb hE ⟨hc0, (idx_ok h1), (row_part cStg (s := 3) (k := 0) (m := 3) (fun _ => rfl) (by decide) h1), (by decide), (idx_ok h2), (row_part cB (s := 1) (k := 0) (m := 1) (fun _ => rfl) (by decide) h2), hc1, hc2, rfl, q11_3, trivial⟩ (h g2)
    · have h := h.2 hc1
      obtain ⟨q11_2, h⟩ := h
      exact p17_0_5 s stock p v2 least i g2 se eb hE ⟨hc0, (idx_ok h1), (row_part cStg (s := 3) (k := 0) (m := 3) (fun _ => rfl) (by decide) h1), (by decide), (idx_ok h2), (row_part cB (s := 1) (k := 0) (m := 1) (fun _ => rfl) (by decide) h2), hc1, rfl, rfl, q11_2, trivial⟩ (h g2)
  · have h := h.2 (of_decide_eq_false hc0)
    rcases Bool.eq_false_or_eq_true (!least) with hc1 | hc1
    · have h := h.1 (bnT hc1)
      exact p17_0_6 s stock p v2 least i g2  hE ⟨hc0, hc1, trivial⟩ (AvLe.of_eq (by rw [h]; try rfl))
    · have h := h.2 (bnF hc1)
      exact p17_0_7 s stock p v2 least i g2  hE ⟨hc0, hc1, trivial⟩ (h g2)
theorem p17_1_0 (s : Stl) (stock : (List Int)) (p : Hnd) (v2 : List Int) (play : Nat) (g2 : Nat)  {E : Env} {res : AV} (hE : PureE Try.prog 17 res E) (ho : AllP [(decide ((play : Int) < (lastsK s stock).1)) = true, (decide ((play : Int) < 30)) = true, PureF Try.prog (.clos 45 [] []) [.agg [.rsl (rowStg s.stages) 0 s.stages.length, .rsl (rowI s.worth) 0 s.worth.length, .int .i64 s.price], .rsl (rowI p.plan) 0 p.plan.length, .rsl (rowI p.draws) 0 p.draws.length] (.tup [.rsl (rowI ((playK s p.plan p.draws).1)) 0 (((playK s p.plan p.draws).1).length), .int .i64 ((playK s p.plan p.draws).2.1), .int .i64 ((playK s p.plan p.draws).2.2)]), ((playK s p.plan p.draws).2.2 != 0) = true, PureF Try.prog (.clos 20 [] []) [] (.bool true)])
    (hr : AvLe (.bool true) res) : G Try.prog E (f17K1 Try.prog) (f17S1 s stock p v2 play g2) :=
  end_stepL (n := 400) (evs := [.b true, .b true, .v (.tup [.rsl (rowI ((playK s p.plan p.draws).1)) 0 (((playK s p.plan p.draws).1).length), .int .i64 ((playK s p.plan p.draws).2.1), .int .i64 ((playK s p.plan p.draws).2.2)]), .b true, .v (.bool true)]) (obs := _) hE Try.func17 mixed (by kernel_rfl) ho hr
theorem p17_1_1 (s : Stl) (stock : (List Int)) (p : Hnd) (v2 : List Int) (play : Nat) (g2 : Nat)  {E : Env} {res : AV} (hE : PureE Try.prog 17 res E) (ho : AllP [(decide ((play : Int) < (lastsK s stock).1)) = true, (decide ((play : Int) < 30)) = true, PureF Try.prog (.clos 45 [] []) [.agg [.rsl (rowStg s.stages) 0 s.stages.length, .rsl (rowI s.worth) 0 s.worth.length, .int .i64 s.price], .rsl (rowI p.plan) 0 p.plan.length, .rsl (rowI p.draws) 0 p.draws.length] (.tup [.rsl (rowI ((playK s p.plan p.draws).1)) 0 (((playK s p.plan p.draws).1).length), .int .i64 ((playK s p.plan p.draws).2.1), .int .i64 ((playK s p.plan p.draws).2.2)]), ((playK s p.plan p.draws).2.2 != 0) = false, g2 = g2, (decide ((playK s p.plan p.draws).2.1 ≥ (v2.length : Int))) = true, true = true])
    (hr : AvLe (.bool false) res) : G Try.prog E (f17K1 Try.prog) (f17S1 s stock p v2 play g2) :=
  end_stepL (n := 400) (evs := [.b true, .b true, .v (.tup [.rsl (rowI ((playK s p.plan p.draws).1)) 0 (((playK s p.plan p.draws).1).length), .int .i64 ((playK s p.plan p.draws).2.1), .int .i64 ((playK s p.plan p.draws).2.2)]), .b false, .b true, .b true]) (obs := _) hE Try.func17 mixed (by kernel_rfl) ho hr
theorem p17_1_2 (s : Stl) (stock : (List Int)) (p : Hnd) (v2 : List Int) (play : Nat) (g2 : Nat)  {E : Env} {res : AV} (hE : PureE Try.prog 17 res E) (ho : AllP [(decide ((play : Int) < (lastsK s stock).1)) = true, (decide ((play : Int) < 30)) = true, PureF Try.prog (.clos 45 [] []) [.agg [.rsl (rowStg s.stages) 0 s.stages.length, .rsl (rowI s.worth) 0 s.worth.length, .int .i64 s.price], .rsl (rowI p.plan) 0 p.plan.length, .rsl (rowI p.draws) 0 p.draws.length] (.tup [.rsl (rowI ((playK s p.plan p.draws).1)) 0 (((playK s p.plan p.draws).1).length), .int .i64 ((playK s p.plan p.draws).2.1), .int .i64 ((playK s p.plan p.draws).2.2)]), ((playK s p.plan p.draws).2.2 != 0) = false, g2 = g2, (decide ((playK s p.plan p.draws).2.1 ≥ (v2.length : Int))) = false, (decide ((playK s p.plan p.draws).2.1 < (-1))) = true])
    (hr : AvLe (.bool false) res) : G Try.prog E (f17K1 Try.prog) (f17S1 s stock p v2 play g2) :=
  end_stepL (n := 400) (evs := [.b true, .b true, .v (.tup [.rsl (rowI ((playK s p.plan p.draws).1)) 0 (((playK s p.plan p.draws).1).length), .int .i64 ((playK s p.plan p.draws).2.1), .int .i64 ((playK s p.plan p.draws).2.2)]), .b false, .b false, .b true]) (obs := _) hE Try.func17 mixed (by kernel_rfl) ho hr
theorem p17_1_3 (s : Stl) (stock : (List Int)) (p : Hnd) (v2 : List Int) (play : Nat) (g2 : Nat) (e : Int) (e1 : Int) (e2 : Int)  {E : Env} {res : AV} (hE : PureE Try.prog 17 res E) (ho : AllP [(decide ((play : Int) < (lastsK s stock).1)) = true, (decide ((play : Int) < 30)) = true, PureF Try.prog (.clos 45 [] []) [.agg [.rsl (rowStg s.stages) 0 s.stages.length, .rsl (rowI s.worth) 0 s.worth.length, .int .i64 s.price], .rsl (rowI p.plan) 0 p.plan.length, .rsl (rowI p.draws) 0 p.draws.length] (.tup [.rsl (rowI ((playK s p.plan p.draws).1)) 0 (((playK s p.plan p.draws).1).length), .int .i64 ((playK s p.plan p.draws).2.1), .int .i64 ((playK s p.plan p.draws).2.2)]), ((playK s p.plan p.draws).2.2 != 0) = false, g2 = g2, (decide ((playK s p.plan p.draws).2.1 ≥ (v2.length : Int))) = false, (decide ((playK s p.plan p.draws).2.1 < (-1))) = false, (decide ((playK s p.plan p.draws).2.1 ≥ 0)) = true, 0 ≤ (playK s p.plan p.draws).2.1 ∧ (playK s p.plan p.draws).2.1 < (v2.length : Int), g2 = g2, g2 = g2, ((rowI v2).drop (0 + (Int.toNat ((playK s p.plan p.draws).2.1)) * 1)).take 1 = [.int .i64 e], InR .i64 (e + 1), 0 ≤ (playK s p.plan p.draws).2.1 ∧ (playK s p.plan p.draws).2.1 < (v2.length : Int), g2 = g2, ((0 + (Int.toNat ((playK s p.plan p.draws).2.1)) * 1) + 1) ≤ (rowI v2).length, g2 = g2, 0 ≤ (playK s p.plan p.draws).2.1 ∧ (playK s p.plan p.draws).2.1 < (v2.length : Int), g2 = g2, g2 = g2, ((setAt (rowI v2) (0 + (Int.toNat ((playK s p.plan p.draws).2.1)) * 1) [.int .i64 (e + 1)]).drop (0 + (Int.toNat ((playK s p.plan p.draws).2.1)) * 1)).take 1 = [.int .i64 e1], 0 ≤ (playK s p.plan p.draws).2.1 ∧ (playK s p.plan p.draws).2.1 < (stock.length : Int), ((rowI stock).drop (0 + (Int.toNat ((playK s p.plan p.draws).2.1)) * 1)).take 1 = [.int .i64 e2], (decide (e1 > e2)) = true])
    (hr : AvLe (.bool false) res) : G Try.prog E (f17K1 Try.prog) (f17S1 s stock p v2 play g2) :=
  end_stepL (n := 400) (evs := [.b true, .b true, .v (.tup [.rsl (rowI ((playK s p.plan p.draws).1)) 0 (((playK s p.plan p.draws).1).length), .int .i64 ((playK s p.plan p.draws).2.1), .int .i64 ((playK s p.plan p.draws).2.2)]), .b false, .b false, .b false, .b true, .ld (.int .i64 e), .ld (.int .i64 e1), .ld (.int .i64 e2), .b true]) (obs := _) hE Try.func17 mixed (by kernel_rfl) ho hr
theorem p17_1_4 (s : Stl) (stock : (List Int)) (p : Hnd) (v2 : List Int) (play : Nat) (g2 : Nat) (e : Int) (e1 : Int) (e2 : Int)  {E : Env} {rv : AV} (hE : PureE Try.prog 17 rv E) (ho : AllP [(decide ((play : Int) < (lastsK s stock).1)) = true, (decide ((play : Int) < 30)) = true, PureF Try.prog (.clos 45 [] []) [.agg [.rsl (rowStg s.stages) 0 s.stages.length, .rsl (rowI s.worth) 0 s.worth.length, .int .i64 s.price], .rsl (rowI p.plan) 0 p.plan.length, .rsl (rowI p.draws) 0 p.draws.length] (.tup [.rsl (rowI ((playK s p.plan p.draws).1)) 0 (((playK s p.plan p.draws).1).length), .int .i64 ((playK s p.plan p.draws).2.1), .int .i64 ((playK s p.plan p.draws).2.2)]), ((playK s p.plan p.draws).2.2 != 0) = false, g2 = g2, (decide ((playK s p.plan p.draws).2.1 ≥ (v2.length : Int))) = false, (decide ((playK s p.plan p.draws).2.1 < (-1))) = false, (decide ((playK s p.plan p.draws).2.1 ≥ 0)) = true, 0 ≤ (playK s p.plan p.draws).2.1 ∧ (playK s p.plan p.draws).2.1 < (v2.length : Int), g2 = g2, g2 = g2, ((rowI v2).drop (0 + (Int.toNat ((playK s p.plan p.draws).2.1)) * 1)).take 1 = [.int .i64 e], InR .i64 (e + 1), 0 ≤ (playK s p.plan p.draws).2.1 ∧ (playK s p.plan p.draws).2.1 < (v2.length : Int), g2 = g2, ((0 + (Int.toNat ((playK s p.plan p.draws).2.1)) * 1) + 1) ≤ (rowI v2).length, g2 = g2, 0 ≤ (playK s p.plan p.draws).2.1 ∧ (playK s p.plan p.draws).2.1 < (v2.length : Int), g2 = g2, g2 = g2, ((setAt (rowI v2) (0 + (Int.toNat ((playK s p.plan p.draws).2.1)) * 1) [.int .i64 (e + 1)]).drop (0 + (Int.toNat ((playK s p.plan p.draws).2.1)) * 1)).take 1 = [.int .i64 e1], 0 ≤ (playK s p.plan p.draws).2.1 ∧ (playK s p.plan p.draws).2.1 < (stock.length : Int), ((rowI stock).drop (0 + (Int.toNat ((playK s p.plan p.draws).2.1)) * 1)).take 1 = [.int .i64 e2], (decide (e1 > e2)) = false, InR .i64 ((play : Int) + 1)])
    (hg : G Try.prog E (f17K1 Try.prog) ⟨[J, .rsl (rowI stock) 0 stock.length, J, .ptr 0 0 0, J, .ptr 1 0 0, J, .int .i64 ((lastsK s stock).1), J, J, .sl 2 g2 0 v2.length 1, J, J, J, .int .i64 ((play : Int) + 1), J, J, J, J, J, J, J, J, J, J, J, J, J, J, J, J, J, J, J, J, J, J, J, J, J, J, J, J, J, J, J, J, J, J, J, J, J, J, J, J, J, J, J, J, J, J, J, J, J, J, J, J, J, J, J, J, J, J, J, J, J, J, J, J, J, J, J, J, J, J, J, J, J, J, J, J, J, J, J, J, J, J, J, J, J, J, J, J, J, J, J, J, J, J, J, J, J, J, J, J, J, J, J, J, J, J, J, J, J, J, J, J, J, J, J, J, J, J, J, J, J, J, J], [⟨true, 0, 1, true, [.rsl (rowStg s.stages) 0 s.stages.length, .rsl (rowI s.worth) 0 s.worth.length, .int .i64 s.price], false⟩, ⟨true, 0, 1, true, [.rsl (rowI p.plan) 0 p.plan.length, .rsl (rowI p.draws) 0 p.draws.length], false⟩, ⟨true, g2, 1, true, (setAt (rowI v2) (0 + (Int.toNat ((playK s p.plan p.draws).2.1)) * 1) [.int .i64 (e + 1)]), true⟩]⟩) : G Try.prog E (f17K1 Try.prog) (f17S1 s stock p v2 play g2) :=
  segC_step (n := 400) (ds := []) (cs := []) (live := [1, 3, 5, 7, 10, 14]) (m := 3) (evs := [.b true, .b true, .v (.tup [.rsl (rowI ((playK s p.plan p.draws).1)) 0 (((playK s p.plan p.draws).1).length), .int .i64 ((playK s p.plan p.draws).2.1), .int .i64 ((playK s p.plan p.draws).2.2)]), .b false, .b false, .b false, .b true, .ld (.int .i64 e), .ld (.int .i64 e1), .ld (.int .i64 e2), .b false, .stop]) (obs := _) hE.2.1 (hE.nogh _) mixed (by kernel_rfl) ho hg
theorem p17_1_5 (s : Stl) (stock : (List Int)) (p : Hnd) (v2 : List Int) (play : Nat) (g2 : Nat)  {E : Env} {rv : AV} (hE : PureE Try.prog 17 rv E) (ho : AllP [(decide ((play : Int) < (lastsK s stock).1)) = true, (decide ((play : Int) < 30)) = true, PureF Try.prog (.clos 45 [] []) [.agg [.rsl (rowStg s.stages) 0 s.stages.length, .rsl (rowI s.worth) 0 s.worth.length, .int .i64 s.price], .rsl (rowI p.plan) 0 p.plan.length, .rsl (rowI p.draws) 0 p.draws.length] (.tup [.rsl (rowI ((playK s p.plan p.draws).1)) 0 (((playK s p.plan p.draws).1).length), .int .i64 ((playK s p.plan p.draws).2.1), .int .i64 ((playK s p.plan p.draws).2.2)]), ((playK s p.plan p.draws).2.2 != 0) = false, g2 = g2, (decide ((playK s p.plan p.draws).2.1 ≥ (v2.length : Int))) = false, (decide ((playK s p.plan p.draws).2.1 < (-1))) = false, (decide ((playK s p.plan p.draws).2.1 ≥ 0)) = false, InR .i64 ((play : Int) + 1)])
    (hg : G Try.prog E (f17K1 Try.prog) ⟨[J, .rsl (rowI stock) 0 stock.length, J, .ptr 0 0 0, J, .ptr 1 0 0, J, .int .i64 ((lastsK s stock).1), J, J, .sl 2 g2 0 v2.length 1, J, J, J, .int .i64 ((play : Int) + 1), J, J, J, J, J, J, J, J, J, J, J, J, J, J, J, J, J, J, J, J, J, J, J, J, J, J, J, J, J, J, J, J, J, J, J, J, J, J, J, J, J, J, J, J, J, J, J, J, J, J, J, J, J, J, J, J, J, J, J, J, J, J, J, J, J, J, J, J, J, J, J, J, J, J, J, J, J, J, J, J, J, J, J, J, J, J, J, J, J, J, J, J, J, J, J, J, J, J, J, J, J, J, J, J, J, J, J, J, J, J, J, J, J, J, J, J, J, J, J, J, J, J, J], [⟨true, 0, 1, true, [.rsl (rowStg s.stages) 0 s.stages.length, .rsl (rowI s.worth) 0 s.worth.length, .int .i64 s.price], false⟩, ⟨true, 0, 1, true, [.rsl (rowI p.plan) 0 p.plan.length, .rsl (rowI p.draws) 0 p.draws.length], false⟩, ⟨true, g2, 1, true, (rowI v2), true⟩]⟩) : G Try.prog E (f17K1 Try.prog) (f17S1 s stock p v2 play g2) :=
  segC_step (n := 400) (ds := []) (cs := []) (live := [1, 3, 5, 7, 10, 14]) (m := 3) (evs := [.b true, .b true, .v (.tup [.rsl (rowI ((playK s p.plan p.draws).1)) 0 (((playK s p.plan p.draws).1).length), .int .i64 ((playK s p.plan p.draws).2.1), .int .i64 ((playK s p.plan p.draws).2.2)]), .b false, .b false, .b false, .b false, .stop]) (obs := _) hE.2.1 (hE.nogh _) mixed (by kernel_rfl) ho hg
theorem p17_1_6 (s : Stl) (stock : (List Int)) (p : Hnd) (v2 : List Int) (play : Nat) (g2 : Nat)  {E : Env} {res : AV} (hE : PureE Try.prog 17 res E) (ho : AllP [(decide ((play : Int) < (lastsK s stock).1)) = true, (decide ((play : Int) < 30)) = false, PureF Try.prog (.clos 20 [] []) [] (.bool true)])
    (hr : AvLe (.bool true) res) : G Try.prog E (f17K1 Try.prog) (f17S1 s stock p v2 play g2) :=
  end_stepL (n := 400) (evs := [.b true, .b false, .v (.bool true)]) (obs := _) hE Try.func17 mixed (by kernel_rfl) ho hr
theorem p17_1_7 (s : Stl) (stock : (List Int)) (p : Hnd) (v2 : List Int) (play : Nat) (g2 : Nat)  {E : Env} {res : AV} (hE : PureE Try.prog 17 res E) (ho : AllP [(decide ((play : Int) < (lastsK s stock).1)) = false, false = false, PureF Try.prog (.clos 20 [] []) [] (.bool true)])
    (hr : AvLe (.bool true) res) : G Try.prog E (f17K1 Try.prog) (f17S1 s stock p v2 play g2) :=
  end_stepL (n := 400) (evs := [.b false, .b false, .v (.bool true)]) (obs := _) hE Try.func17 mixed (by kernel_rfl) ho hr
theorem f17W1 (s : Stl) (stock : (List Int)) (p : Hnd) (v2 : List Int) (play : Nat) {E : Env} {rv : Bool} (hE : PureE Try.prog 17 (.bool rv) E)
    (h : (((play : Int) < (lastsK s stock).1 → (((play : Int) < 30 → ((s.stages.length ≤ 9223372036854775807 ∧ s.worth.length ≤ 9223372036854775807) ∧ ((¬ ((playK s p.plan p.draws).2.2 = 0) → rv = true) ∧ ((playK s p.plan p.draws).2.2 = 0 → (((playK s p.plan p.draws).2.1 ≥ (v2.length : Int) → rv = false) ∧ (¬ ((playK s p.plan p.draws).2.1 ≥ (v2.length : Int)) → (((playK s p.plan p.draws).2.1 < (-1) → rv = false) ∧ (¬ ((playK s p.plan p.draws).2.1 < (-1)) → (((playK s p.plan p.draws).2.1 ≥ 0 → (0 ≤ (playK s p.plan p.draws).2.1 ∧ (∃ e : Int, v2[Int.toNat ((playK s p.plan p.draws).2.1)]? = some e ∧ ((-9223372036854775808 ≤ e + 1 ∧ e + 1 ≤ 9223372036854775807) ∧ (0 ≤ (playK s p.plan p.draws).2.1 ∧ (∃ e1 : Int, (v2.set (Int.toNat ((playK s p.plan p.draws).2.1)) (e + 1))[Int.toNat ((playK s p.plan p.draws).2.1)]? = some e1 ∧ (0 ≤ (playK s p.plan p.draws).2.1 ∧ (∃ e2 : Int, stock[Int.toNat ((playK s p.plan p.draws).2.1)]? = some e2 ∧ ((e1 > e2 → rv = false) ∧ (¬ (e1 > e2) → ((-9223372036854775808 ≤ (play : Int) + 1 ∧ (play : Int) + 1 ≤ 9223372036854775807) ∧ f17G1 E s stock p (v2.set (Int.toNat ((playK s p.plan p.draws).2.1)) (e + 1)) (play + 1)))))))))))) ∧ (¬ ((playK s p.plan p.draws).2.1 ≥ 0) → ((-9223372036854775808 ≤ (play : Int) + 1 ∧ (play : Int) + 1 ≤ 9223372036854775807) ∧ f17G1 E s stock p v2 (play + 1)))))))))))) ∧ (¬ ((play : Int) < 30) → rv = true))) ∧ (¬ ((play : Int) < (lastsK s stock).1) → rv = true))) : f17G1 E s stock p v2 play := by
  intro g2
  rcases Bool.eq_false_or_eq_true (decide ((play : Int) < (lastsK s stock).1)) with hc0 | hc0
  · have h := h.1 (of_decide_eq_true hc0)
    rcases Bool.eq_false_or_eq_true (decide ((play : Int) < 30)) with hc1 | hc1
    · have h := h.1 (of_decide_eq_true hc1)
      obtain ⟨h1, h⟩ := h
      rcases Bool.eq_false_or_eq_true ((playK s p.plan p.draws).2.2 != 0) with hc2 | hc2
      · have h := h.1 (bneT hc2)
        exact p17_1_0 s stock p v2 play g2  hE ⟨hc0, hc1, (pureF_of Try.func45 (by kernel_rfl) f45b (play_ok s p.plan p.draws h1)), hc2, (pureF_of Try.func20 (by kernel_rfl) f20b works_ok), trivial⟩ (AvLe.of_eq (by rw [h]; try rfl))
      · have h := h.2 (bneF hc2)
        rcases Bool.eq_false_or_eq_true (decide ((playK s p.plan p.draws).2.1 ≥ (v2.length : Int))) with hc3 | hc3
        · have h := h.1 (of_decide_eq_true hc3)
          exact p17_1_1 s stock p v2 play g2  hE ⟨hc0, hc1, (pureF_of Try.func45 (by kernel_rfl) f45b (play_ok s p.plan p.draws h1)), hc2, rfl, hc3, rfl, trivial⟩ (AvLe.of_eq (by rw [h]; try rfl))
        · have h := h.2 (of_decide_eq_false hc3)
          rcases Bool.eq_false_or_eq_true (decide ((playK s p.plan p.draws).2.1 < (-1))) with hc4 | hc4
          · have h := h.1 (of_decide_eq_true hc4)
            exact p17_1_2 s stock p v2 play g2  hE ⟨hc0, hc1, (pureF_of Try.func45 (by kernel_rfl) f45b (play_ok s p.plan p.draws h1)), hc2, rfl, hc3, hc4, trivial⟩ (AvLe.of_eq (by rw [h]; try rfl))
          · have h := h.2 (of_decide_eq_false hc4)
            rcases Bool.eq_false_or_eq_true (decide ((playK s p.plan p.draws).2.1 ≥ 0)) with hc5 | hc5
            · have h := h.1 (of_decide_eq_true hc5)
              obtain ⟨h3, h⟩ := h
              obtain ⟨e, h2, h⟩ := h
              obtain ⟨q13_6, h⟩ := h
              obtain ⟨h5, h⟩ := h
              obtain ⟨e1, h4, h⟩ := h
              obtain ⟨h7, h⟩ := h
              obtain ⟨e2, h6, h⟩ := h
              rcases Bool.eq_false_or_eq_true (decide (e1 > e2)) with hc6 | hc6
              · have h := h.1 (of_decide_eq_true hc6)
                exact p17_1_3 s stock p v2 play g2 e e1 e2 hE ⟨hc0, hc1, (pureF_of Try.func45 (by kernel_rfl) f45b (play_ok s p.plan p.draws h1)), hc2, rfl, hc3, hc4, hc5, (idx_ok' h3 h2), rfl, rfl, (row_part cI (s := 1) (k := 0) (m := 1) (fun _ => rfl) (by decide) h2), q13_6, (idx_ok' h3 h2), rfl, (row_fits cI (s := 1) (k := 0) (m := 1) (fun _ => rfl) (by decide) h2), rfl, (by have hx := idx_ok' h5 h4; simpa using hx), rfl, rfl, (by rw [(show setAt (rowI v2) (0 + (Int.toNat ((playK s p.plan p.draws).2.1)) * 1) [.int .i64 (e + 1)] = rowI (v2.set (Int.toNat ((playK s p.plan p.draws).2.1)) (e + 1)) from row_set cI (s := 1) (k := 0) (fun _ => rfl) h2 rfl (by first | decide | simp))]; exact row_part cI (s := 1) (k := 0) (m := 1) (fun _ => rfl) (by decide) h4), (idx_ok' h7 h6), (row_part cI (s := 1) (k := 0) (m := 1) (fun _ => rfl) (by decide) h6), hc6, trivial⟩ (AvLe.of_eq (by rw [h]; try rfl))
              · have h := h.2 (of_decide_eq_false hc6)
                obtain ⟨q27_7, h⟩ := h
                refine p17_1_4 s stock p v2 play g2 e e1 e2 hE ⟨hc0, hc1, (pureF_of Try.func45 (by kernel_rfl) f45b (play_ok s p.plan p.draws h1)), hc2, rfl, hc3, hc4, hc5, (idx_ok' h3 h2), rfl, rfl, (row_part cI (s := 1) (k := 0) (m := 1) (fun _ => rfl) (by decide) h2), q13_6, (idx_ok' h3 h2), rfl, (row_fits cI (s := 1) (k := 0) (m := 1) (fun _ => rfl) (by decide) h2), rfl, (by have hx := idx_ok' h5 h4; simpa using hx), rfl, rfl, (by rw [(show setAt (rowI v2) (0 + (Int.toNat ((playK s p.plan p.draws).2.1)) * 1) [.int .i64 (e + 1)] = rowI (v2.set (Int.toNat ((playK s p.plan p.draws).2.1)) (e + 1)) from row_set cI (s := 1) (k := 0) (fun _ => rfl) h2 rfl (by first | decide | simp))]; exact row_part cI (s := 1) (k := 0) (m := 1) (fun _ => rfl) (by decide) h4), (idx_ok' h7 h6), (row_part cI (s := 1) (k := 0) (m := 1) (fun _ => rfl) (by decide) h6), hc6, q27_7, trivial⟩ ?_
                have h := (h g2)
                simp only [f17S1, List.length_set] at h
                rw [(show setAt (rowI v2) (0 + (Int.toNat ((playK s p.plan p.draws).2.1)) * 1) [.int .i64 (e + 1)] = rowI (v2.set (Int.toNat ((playK s p.plan p.draws).2.1)) (e + 1)) from row_set cI (s := 1) (k := 0) (fun _ => rfl) h2 rfl (by first | decide | simp))]
                exact h
            · have h := h.2 (of_decide_eq_false hc5)
              obtain ⟨q8_6, h⟩ := h
              exact p17_1_5 s stock p v2 play g2  hE ⟨hc0, hc1, (pureF_of Try.func45 (by kernel_rfl) f45b (play_ok s p.plan p.draws h1)), hc2, rfl, hc3, hc4, hc5, q8_6, trivial⟩ (h g2)
    · have h := h.2 (of_decide_eq_false hc1)
      exact p17_1_6 s stock p v2 play g2  hE ⟨hc0, hc1, (pureF_of Try.func20 (by kernel_rfl) f20b works_ok), trivial⟩ (AvLe.of_eq (by rw [h]; try rfl))
  · have h := h.2 (of_decide_eq_false hc0)
    exact p17_1_7 s stock p v2 play g2  hE ⟨hc0, rfl, (pureF_of Try.func20 (by kernel_rfl) f20b works_ok), trivial⟩ (AvLe.of_eq (by rw [h]; try rfl))

theorem law17_ok (s : Stl) (stock : List Int) (p : Hnd) (h : s.stages.length ≤ 9223372036854775807 ∧ s.worth.length ≤ 9223372036854775807) (hst : stock.length ≤ 9223372036854775807) : Pure Try.prog 17 [avStl s, .rsl (rowI stock) 0 stock.length, .agg [.rsl (rowI p.plan) 0 p.plan.length, .rsl (rowI p.draws) 0 p.draws.length]] (.bool true) := pure_of Try.func17 f17b fun E hE => by
  refine f17W s stock p (rv := true) hE ⟨⟨h, hst⟩, fun _ => rfl, fun hl => ⟨h, fun _ => rfl, fun hc => ⟨fun _ => rfl, fun hlen => ?_⟩⟩⟩
  obtain ⟨hm, es⟩ := mok_G (isSome_of hc)
  have hn := (stPre_of hm.st).1
  rw [es] at hn
  have hw := worth_len hc
  -- what Lasts has found
  have hls : stockOk (machG s) stock = true ∧ lastsK s stock = (leastN s stock s.stages.length, 0) ∧ 0 ≤ leastN s stock s.stages.length := by
    rw [lastsK, if_pos hc] at hl
    rw [lastsK, if_pos hc]
    split at hl
    · rename_i hok
      refine ⟨hok, ?_⟩
      rw [if_pos hok]
      unfold lastsR at hl ⊢
      split at hl
      · cases hl
      · rename_i hh
        rw [if_neg hh]
        exact ⟨rfl, by omega⟩
    · cases hl
  obtain ⟨hok, hlk, hl0⟩ := hls
  obtain ⟨sl, sb⟩ := stockOk_of hc hok
  have hpi : ∀ (i : Nat) (x : Stg), s.stages[i]? = some x → x.kind = 4 → x.prize ≥ 0 → Int.toNat x.prize < stock.length := fun i x hi h4 hp => by
    have := prize_in hc hi hp h4; omega
  obtain ⟨lo1, lo2⟩ := leastN_ok sb hpi s.stages.length (Nat.le_refl _)
  have lo3 := lo2 hl0
  have hl1 : (lastsK s stock).1 = leastN s stock s.stages.length := by rw [hlk]
  generalize leastN s stock s.stages.length = n at *
  have hbig : n ≤ 1000 := by
    obtain ⟨i, x, a, b, c, d, e, f⟩ := lo3
    have := sb _ (List.mem_of_getElem? (getD_some (hpi i x b d e)))
    omega
  have hrl : (reachI s).length = s.stages.length := reachN_len
  -- the plays
  have plays : f17G1 E s stock p (List.replicate stock.length (0 : Int)) 0 := by
    by_cases hp2 : (playK s p.plan p.draws).2.2 = 0
    · have hpe : planE s p.plan = 0 := by
        apply Classical.byContradiction
        intro hh
        rw [playK, if_neg hh] at hp2; exact hh hp2
      have hpl := (planE_of hpe).2
      have hpk : playK s p.plan p.draws = playF s p.plan s.stages.length 0 [] p.draws := by rw [playK, if_pos hpe]
      obtain ⟨i, x, hi, h4, hr, hpr⟩ := play_reach hc hpl s.stages.length 0 [] p.draws (by omega) (by omega) (by omega) (reach0 hc) (by rw [← hpk]; exact hp2)
      rw [← hpk] at hpr
      have hform := (stPre_of hm.st).2.2.2.2
      rw [es] at hform
      have hfo := form_of hi (hform i (List.getElem?_eq_some_iff.1 hi).1)
      have hpb : -1 ≤ x.prize ∧ x.prize ≤ (s.worth.length : Int) - 1 := by
        rcases hfo with ⟨-, -, q⟩ | ⟨q, -⟩
        · exact q
        · omega
      have hlo : x.prize ≥ 0 → n ≤ stock.getD (Int.toNat x.prize) 0 := fun hx => (lo1 i x (List.getElem?_eq_some_iff.1 hi).1 hi hr h4 hx).2
      have key : ∀ (d play : Nat) (v : List Int), play + d = 30 → v.length = stock.length → (x.prize ≥ 0 → v[Int.toNat x.prize]? = some (play : Int)) → f17G1 E s stock p v play := by
        intro d
        induction d with
        | zero =>
          intro play v hd hvl hv
          exact f17W1 s stock p v play (rv := true) hE ⟨fun _ => ⟨fun h => by omega, fun _ => rfl⟩, fun _ => rfl⟩
        | succ d ih =>
          intro play v hd hvl hv
          refine f17W1 s stock p v play (rv := true) hE ⟨fun hpn => ⟨fun _ => ⟨h, fun h => absurd hp2 h, fun _ => ?_⟩, fun _ => rfl⟩, fun _ => rfl⟩
          rw [hpr]
          rw [hl1] at hpn
          refine ⟨fun h => by omega, fun _ => ⟨fun h => by omega, fun _ => ⟨fun hx => ?_, fun hx => ⟨by omega, ih (play + 1) v (by omega) hvl (fun h => absurd h hx)⟩⟩⟩⟩
          have hv1 := hv hx
          have hsp := hpi i x hi h4 hx
          have hlo1 := hlo hx
          refine ⟨hx, _, hv1, by omega, hx, _, List.getElem?_set_self (by omega), hx, _, getD_some hsp, fun h => by omega, fun _ => ⟨by omega, ih (play + 1) _ (by omega) (by simp [hvl]) (fun _ => ?_)⟩⟩
          rw [List.getElem?_set_self (by omega)]; rfl
      exact key 30 0 _ (by omega) (by simp) (fun hx => by rw [List.getElem?_replicate, if_pos (hpi i x hi h4 hx)]; rfl)
    · exact f17W1 s stock p _ 0 (rv := true) hE ⟨fun _ => ⟨fun _ => ⟨h, fun _ => rfl, fun h => absurd h hp2⟩, fun _ => rfl⟩, fun _ => rfl⟩
  have key : ∀ (d i : Nat) (b : Bool), i + d = s.stages.length → ((∃ (j : Nat) (x : Stg), j < i ∧ s.stages[j]? = some x ∧ (reachI s).getD j false = true ∧ x.kind = 4 ∧ x.prize ≥ 0 ∧ stock.getD (Int.toNat x.prize) 0 = n) → b = true) → f17G0 E s stock p (List.replicate stock.length (0 : Int)) b i := by
    intro d
    induction d with
    | zero =>
      intro i b hd hb
      refine f17W0 s stock p _ b i (rv := true) hE ⟨fun h => by omega, fun _ => ⟨fun hf => ?_, fun _ => plays⟩⟩
      obtain ⟨j, x, a, r⟩ := lo3
      rw [hb ⟨j, x, by omega, r⟩] at hf; cases hf
    | succ d ih =>
      intro i b hd hb
      have hi : s.stages[i]? = some s.stages[i] := List.getElem?_eq_getElem (by omega)
      have hlo := lo1 i _ (by omega) hi
      have hpii := hpi i _ hi
      generalize s.stages[i] = x at hi hlo hpii
      have hrr := getB (l := reachI s) (i := i) (by omega)
      have stay : (¬ ((reachI s).getD i false = true ∧ x.kind = 4 ∧ x.prize ≥ 0)) → f17G0 E s stock p (List.replicate stock.length (0 : Int)) b (i + 1) := fun hno => ih (i + 1) b (by omega) (fun ⟨j, y, a, b1, b2, b3, b4, b5⟩ => by
        by_cases e : j = i
        · subst e; rw [hi] at b1; cases b1; exact absurd ⟨b2, b3, b4⟩ hno
        · exact hb ⟨j, y, by omega, b1, b2, b3, b4, b5⟩)
      refine f17W0 s stock p _ b i (rv := true) hE ⟨fun _ => ⟨x, hi, _, hrr, fun hr => ⟨fun h4 => ⟨fun hp => ⟨hp, _, getD_some (hpii h4 hp), fun h => ?_, fun _ => ⟨fun hbt => ⟨by omega, ih (i + 1) true (by omega) (fun _ => rfl)⟩, fun hbf => ⟨by omega, ih (i + 1) _ (by omega) (fun ⟨j, y, a, b1, b2, b3, b4, b5⟩ => ?_)⟩⟩⟩, fun hp => ⟨by omega, stay fun hh => hp hh.2.2⟩⟩, fun h4 => ⟨by omega, stay fun hh => h4 hh.2.1⟩⟩, fun hr => ⟨by omega, stay fun hh => by rw [hr] at hh; cases hh.1⟩⟩, fun h => by omega⟩
      · have := (hlo hr h4 hp).2
        rw [hl1] at h; omega
      · rw [hl1]
        by_cases e : j = i
        · subst e; rw [hi] at b1; cases b1; rw [b5]; simp
        · rw [hb ⟨j, y, by omega, b1, b2, b3, b4, b5⟩] at hbf; cases hbf
  exact ⟨by omega, hc, key s.stages.length 0 false (by omega) (fun ⟨j, x, a, _⟩ => by omega)⟩

end Go.Proofs.Ytfgmlaeikcfpbaa
