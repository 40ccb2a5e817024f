/- A part of the proof: several texts, one behind the other. -/
import Derived.Test.YtfgmlaeikcfpbaaLStallsPlainC
set_option linter.unusedVariables false
set_option linter.unusedSimpArgs false
set_option maxRecDepth 100000
namespace Go.Proofs.Ytfgmlaeikcfpbaa
open Go Ax
open Go.Proofs

theorem f112b : Try.f112.body = some (bodyAt Try.prog 112) := by kernel_rfl
theorem p112_start_0 (n : Int)   {E : Env} {res : AV} (hE : PureE Try.prog 112 res E) (ho : AllP [(n != 1) = true])
    (hr : AvLe (.bool (n != 2)) res) : G Try.prog E [.code (bodyAt Try.prog 112)] ⟨[.int .i64 n] ++ unds (Try.f112.ntmps - 1), []⟩ :=
  end_stepL (n := 400) (evs := [.b true]) (obs := _) hE Try.func112 mixed (by kernel_rfl) ho hr
theorem p112_start_1 (n : Int)   {E : Env} {res : AV} (hE : PureE Try.prog 112 res E) (ho : AllP [(n != 1) = false])
    (hr : AvLe (.bool false) res) : G Try.prog E [.code (bodyAt Try.prog 112)] ⟨[.int .i64 n] ++ unds (Try.f112.ntmps - 1), []⟩ :=
  end_stepL (n := 400) (evs := [.b false]) (obs := _) hE Try.func112 mixed (by kernel_rfl) ho hr
theorem f112W (n : Int) {E : Env} {rv : Bool} (hE : PureE Try.prog 112 (.bool rv) E)
    (h : ((¬ (n = 1) → rv = (n != 2)) ∧ (n = 1 → rv = false))) : G Try.prog E [.code (bodyAt Try.prog 112)] ⟨[.int .i64 n] ++ unds (Try.f112.ntmps - 1), []⟩ := by
  rcases Bool.eq_false_or_eq_true (n != 1) with hc0 | hc0
  · have h := h.1 (bneT hc0)
    exact p112_start_0 n    hE ⟨hc0, trivial⟩ (AvLe.of_eq (by rw [h]; try rfl))
  · have h := h.2 (bneF hc0)
    exact p112_start_1 n    hE ⟨hc0, trivial⟩ (AvLe.of_eq (by rw [h]; try rfl))

def aimOk (n : Int) : Bool := decide (n = 1) || decide (n = 2)
theorem noaim_ok (n : Int) : Pure Try.prog 112 [.int .i64 n] (.bool (!aimOk n)) := pure_of Try.func112 f112b fun E hE => by
  refine f112W n (rv := !aimOk n) hE ⟨fun h => ?_, fun h => by simp [aimOk, h]⟩
  by_cases h2 : n = 2
  · simp [aimOk, h, h2]
  · simp [aimOk, h, h2]

def f120aK0 (P : Program) : List Item := kAt 400 [.code (bodyAt P 120)] [.stop]
def f120aS0 (l : (List Int)) (i : Nat)  : St := ⟨[.rsl (rowI l) 0 l.length, .clos 112 [] [], J, J, J, J, J, .int .i64 (l.length : Int), .int .i64 (i : Int), J, J, J, J, J, J, J, J, J, J], []⟩
def f120aG0 (E : Env) (l : (List Int)) (i : Nat) : Prop := G Try.prog E (f120aK0 Try.prog) (f120aS0 l i )
theorem p120a_start_0 (l : (List Int))   {E : Env} {rv : AV} (hE : PureE Try.prog 120 rv E) (ho : AllP [])
    (hg : G Try.prog E (f120aK0 Try.prog) ⟨[.rsl (rowI l) 0 l.length, .clos 112 [] [], J, J, J, J, J, .int .i64 (l.length : Int), .int .i64 0, J, J, J, J, J, J, J, J, J, J], []⟩) : G Try.prog E [.code (bodyAt Try.prog 120)] ⟨[.rsl (rowI l) 0 l.length, .clos 112 [] []] ++ unds (Try.f120.ntmps - 2), []⟩ :=
  segC_step (n := 400) (ds := []) (cs := []) (live := [0, 1, 7, 8]) (m := 0) (evs := [.stop]) (obs := _) hE.2.1 (hE.nogh _) mixed (by kernel_rfl) ho hg
theorem f120aW (l : (List Int)) {E : Env} {rv : Int} (hE : PureE Try.prog 120 (.int .i64 rv) E)
    (h : f120aG0 E l 0) : G Try.prog E [.code (bodyAt Try.prog 120)] ⟨[.rsl (rowI l) 0 l.length, .clos 112 [] []] ++ unds (Try.f120.ntmps - 2), []⟩ := by
  exact p120a_start_0 l    hE trivial h
theorem p120a_0_0 (l : (List Int)) (i : Nat)  (e : Int)  {E : Env} {res : AV} (hE : PureE Try.prog 120 res E) (ho : AllP [(decide ((i : Int) < (l.length : Int))) = true, 0 ≤ (i : Int) ∧ (i : Int) < (l.length : Int), ((rowI l).drop (0 + (Int.toNat (i : Int)) * 1)).take 1 = [.int .i64 e], PureF Try.prog (.clos 112 [] []) [.int .i64 e] (.bool (!aimOk e)), (!aimOk e) = true])
    (hr : AvLe (.int .i64 (i : Int)) res) : G Try.prog E (f120aK0 Try.prog) (f120aS0 l i ) :=
  end_stepL (n := 400) (evs := [.b true, .ld (.int .i64 e), .v (.bool (!aimOk e)), .b true]) (obs := _) hE Try.func120 mixed (by kernel_rfl) ho hr
theorem p120a_0_1 (l : (List Int)) (i : Nat)  (e : Int)  {E : Env} {rv : AV} (hE : PureE Try.prog 120 rv E) (ho : AllP [(decide ((i : Int) < (l.length : Int))) = true, 0 ≤ (i : Int) ∧ (i : Int) < (l.length : Int), ((rowI l).drop (0 + (Int.toNat (i : Int)) * 1)).take 1 = [.int .i64 e], PureF Try.prog (.clos 112 [] []) [.int .i64 e] (.bool (!aimOk e)), (!aimOk e) = false, InR .i64 ((i : Int) + 1)])
    (hg : G Try.prog E (f120aK0 Try.prog) ⟨[.rsl (rowI l) 0 l.length, .clos 112 [] [], J, J, J, J, J, .int .i64 (l.length : Int), .int .i64 ((i : Int) + 1), J, J, J, J, J, J, J, J, J, J], []⟩) : G Try.prog E (f120aK0 Try.prog) (f120aS0 l i ) :=
  segC_step (n := 400) (ds := []) (cs := []) (live := [0, 1, 7, 8]) (m := 0) (evs := [.b true, .ld (.int .i64 e), .v (.bool (!aimOk e)), .b false, .stop]) (obs := _) hE.2.1 (hE.nogh _) mixed (by kernel_rfl) ho hg
theorem p120a_0_2 (l : (List Int)) (i : Nat)   {E : Env} {res : AV} (hE : PureE Try.prog 120 res E) (ho : AllP [(decide ((i : Int) < (l.length : Int))) = false])
    (hr : AvLe (.int .i64 (-1)) res) : G Try.prog E (f120aK0 Try.prog) (f120aS0 l i ) :=
  end_stepL (n := 400) (evs := [.b false]) (obs := _) hE Try.func120 mixed (by kernel_rfl) ho hr
theorem f120aW0 (l : (List Int)) (i : Nat) {E : Env} {rv : Int} (hE : PureE Try.prog 120 (.int .i64 rv) E)
    (h : (((i : Int) < (l.length : Int) → (∃ e : Int, l[i]? = some e ∧ (((!aimOk e) = true → rv = (i : Int)) ∧ ((!aimOk e) = false → ((-9223372036854775808 ≤ (i : Int) + 1 ∧ (i : Int) + 1 ≤ 9223372036854775807) ∧ f120aG0 E l (i + 1)))))) ∧ (¬ ((i : Int) < (l.length : Int)) → rv = (-1)))) : f120aG0 E l i := by
  rcases Bool.eq_false_or_eq_true (decide ((i : Int) < (l.length : Int))) with hc0 | hc0
  · have h := h.1 (of_decide_eq_true hc0)
    obtain ⟨e, h1, h⟩ := h
    rcases Bool.eq_false_or_eq_true (!aimOk e) with hc1 | hc1
    · have h := h.1 hc1
      exact p120a_0_0 l i  e hE ⟨hc0, (idx_ok h1), (row_part cI (s := 1) (k := 0) (m := 1) (fun _ => rfl) (by decide) h1), (pureF_of Try.func112 (by kernel_rfl) f112b (noaim_ok e)), hc1, trivial⟩ (AvLe.of_eq (by rw [h]; try rfl))
    · have h := h.2 hc1
      obtain ⟨q6_2, h⟩ := h
      exact p120a_0_1 l i  e hE ⟨hc0, (idx_ok h1), (row_part cI (s := 1) (k := 0) (m := 1) (fun _ => rfl) (by decide) h1), (pureF_of Try.func112 (by kernel_rfl) f112b (noaim_ok e)), hc1, q6_2, trivial⟩ h
  · have h := h.2 (of_decide_eq_false hc0)
    exact p120a_0_2 l i   hE ⟨hc0, trivial⟩ (AvLe.of_eq (by rw [h]; try rfl))

theorem idxA_ok (l : List Int) (h : l.length ≤ 9223372036854775807) : Pure Try.prog 120 [.rsl (rowI l) 0 l.length, .clos 112 [] []] (.int .i64 (idxG (fun n => !aimOk n) l)) := pure_of Try.func120 f120b fun E hE => by
  refine f120aW l hE (idxG_from (fun n => !aimOk n) l l.length 0 (by omega) (fun j x hj => by omega) (fun i => f120aG0 E l i) (fun i hi' h1 h2 => ?_) (fun _ h2 => ?_))
  · have hx : l[i]? = some l[i] := List.getElem?_eq_getElem hi'
    exact f120aW0 l i hE ⟨fun _ => ⟨_, hx, fun hp => h1 _ hx hp, fun hp => ⟨by omega, h2 _ hx hp⟩⟩, fun h => by omega⟩
  · exact f120aW0 l _ hE ⟨fun h => by omega, fun _ => h2⟩

theorem p96a_start_0 (l : (List Int))   {E : Env} {res : AV} (hE : PureE Try.prog 96 res E) (ho : AllP [PureF Try.prog (.clos 120 [] []) [.rsl (rowI l) 0 l.length, .clos 112 [] []] (.int .i64 (idxG (fun n => !aimOk n) l))])
    (hr : AvLe (.bool (decide ((idxG (fun n => !aimOk n) l) ≥ 0))) res) : G Try.prog E [.code (bodyAt Try.prog 96)] ⟨[.rsl (rowI l) 0 l.length, .clos 112 [] []] ++ unds (Try.f96.ntmps - 2), []⟩ :=
  end_stepL (n := 400) (evs := [.v (.int .i64 (idxG (fun n => !aimOk n) l))]) (obs := _) hE Try.func96 mixed (by kernel_rfl) ho hr
theorem f96aW (l : (List Int)) {E : Env} {rv : Bool} (hE : PureE Try.prog 96 (.bool rv) E)
    (h : ((l.length ≤ 9223372036854775807) ∧ rv = (decide ((idxG (fun n => !aimOk n) l) ≥ 0)))) : G Try.prog E [.code (bodyAt Try.prog 96)] ⟨[.rsl (rowI l) 0 l.length, .clos 112 [] []] ++ unds (Try.f96.ntmps - 2), []⟩ := by
  obtain ⟨h1, h⟩ := h
  exact p96a_start_0 l    hE ⟨(pureF_of Try.func120 (by kernel_rfl) f120b (idxA_ok l h1)), trivial⟩ (AvLe.of_eq (by rw [h]; try rfl))

theorem anyA_ok (l : List Int) (h : l.length ≤ 9223372036854775807) : Pure Try.prog 96 [.rsl (rowI l) 0 l.length, .clos 112 [] []] (.bool (l.any fun n => !aimOk n)) := pure_of Try.func96 f96b fun E hE =>
  f96aW l hE ⟨h, (idxG_any _ l).symm⟩

theorem f74b : Try.f74.body = some (bodyAt Try.prog 74) := by kernel_rfl
theorem p74_start_0 (l : (List Int))   {E : Env} {res : AV} (hE : PureE Try.prog 74 res E) (ho : AllP [PureF Try.prog (.clos 96 [] []) [.rsl (rowI l) 0 l.length, .clos 112 [] []] (.bool (l.any (fun n => !aimOk n)))])
    (hr : AvLe (.bool (!(l.any (fun n => !aimOk n)))) res) : G Try.prog E [.code (bodyAt Try.prog 74)] ⟨[.rsl (rowI l) 0 l.length] ++ unds (Try.f74.ntmps - 1), []⟩ :=
  end_stepL (n := 400) (evs := [.v (.bool (l.any (fun n => !aimOk n)))]) (obs := _) hE Try.func74 mixed (by kernel_rfl) ho hr
theorem f74W (l : (List Int)) {E : Env} {rv : Bool} (hE : PureE Try.prog 74 (.bool rv) E)
    (h : ((l.length ≤ 9223372036854775807) ∧ rv = (!(l.any (fun n => !aimOk n))))) : G Try.prog E [.code (bodyAt Try.prog 74)] ⟨[.rsl (rowI l) 0 l.length] ++ unds (Try.f74.ntmps - 1), []⟩ := by
  obtain ⟨h1, h⟩ := h
  exact p74_start_0 l    hE ⟨(pureF_of Try.func96 (by kernel_rfl) f96b (anyA_ok l h1)), trivial⟩ (AvLe.of_eq (by rw [h]; try rfl))
theorem f73b : Try.f73.body = some (bodyAt Try.prog 73) := by kernel_rfl
theorem p73_start_0 (n : Int) (m : Mch)   {E : Env} {res : AV} (hE : PureE Try.prog 73 res E) (ho : AllP [InR .i64 ((m.s.worth.length : Int) - 1), PureF Try.prog (.clos 65 [] []) [.int .i64 n, .int .i64 0, .int .i64 ((m.s.worth.length : Int) - 1)] (.bool (within n 0 ((m.s.worth.length : Int) - 1)))])
    (hr : AvLe (.bool (within n 0 ((m.s.worth.length : Int) - 1))) res) : G Try.prog E [.code (bodyAt Try.prog 73)] ⟨[.rptr [.rsl (rowStg m.s.stages) 0 m.s.stages.length, .rsl (rowI m.s.worth) 0 m.s.worth.length, .int .i64 m.s.price, .rsl (rowI m.meas) 0 m.meas.length, .rsl (rowI m.mult) 0 m.mult.length] 0, .int .i64 n] ++ unds (Try.f73.ntmps - 2), []⟩ :=
  end_stepL (n := 400) (evs := [.v (.bool (within n 0 ((m.s.worth.length : Int) - 1)))]) (obs := _) hE Try.func73 mixed (by kernel_rfl) ho hr
theorem f73W (n : Int) (m : Mch) {E : Env} {rv : Bool} (hE : PureE Try.prog 73 (.bool rv) E)
    (h : ((-9223372036854775808 ≤ (m.s.worth.length : Int) - 1 ∧ (m.s.worth.length : Int) - 1 ≤ 9223372036854775807) ∧ rv = (within n 0 ((m.s.worth.length : Int) - 1)))) : G Try.prog E [.code (bodyAt Try.prog 73)] ⟨[.rptr [.rsl (rowStg m.s.stages) 0 m.s.stages.length, .rsl (rowI m.s.worth) 0 m.s.worth.length, .int .i64 m.s.price, .rsl (rowI m.meas) 0 m.meas.length, .rsl (rowI m.mult) 0 m.mult.length] 0, .int .i64 n] ++ unds (Try.f73.ntmps - 2), []⟩ := by
  obtain ⟨q0_0, h⟩ := h
  exact p73_start_0 n m    hE ⟨q0_0, (pureF_of Try.func65 (by kernel_rfl) f65b (within_ok n 0 ((m.s.worth.length : Int) - 1))), trivial⟩ (AvLe.of_eq (by rw [h]; try rfl))

def aimsI (l : List Int) : Bool := !(l.any fun n => !aimOk n)
theorem aims_ok (l : List Int) (h : l.length ≤ 9223372036854775807) : Pure Try.prog 74 [.rsl (rowI l) 0 l.length] (.bool (aimsI l)) := pure_of Try.func74 f74b fun E hE => f74W l (rv := aimsI l) hE ⟨h, rfl⟩
def kindI (m : Mch) (n : Int) : Bool := within n 0 ((m.s.worth.length : Int) - 1)
theorem kind_ok (m : Mch) (n : Int) (h : m.s.worth.length ≤ 1000000) : Pure Try.prog 73 [.rptr (cMch m) 0, .int .i64 n] (.bool (kindI m n)) := pure_of Try.func73 f73b fun E hE => f73W n m (rv := kindI m n) hE ⟨by omega, rfl⟩

theorem f113b : Try.f113.body = some (bodyAt Try.prog 113) := by kernel_rfl
theorem p113_start_0 (n : Int) (kd : Int)   {E : Env} {res : AV} (hE : PureE Try.prog 113 res E) (ho : AllP [(n == kd) = true])
    (hr : AvLe (.int .i64 1) res) : G Try.prog E [.code (bodyAt Try.prog 113)] ⟨[.int .i64 n, .rptr [.int .i64 kd] 0] ++ unds (Try.f113.ntmps - 2), []⟩ :=
  end_stepL (n := 400) (evs := [.b true]) (obs := _) hE Try.func113 mixed (by kernel_rfl) ho hr
theorem p113_start_1 (n : Int) (kd : Int)   {E : Env} {res : AV} (hE : PureE Try.prog 113 res E) (ho : AllP [(n == kd) = false])
    (hr : AvLe (.int .i64 0) res) : G Try.prog E [.code (bodyAt Try.prog 113)] ⟨[.int .i64 n, .rptr [.int .i64 kd] 0] ++ unds (Try.f113.ntmps - 2), []⟩ :=
  end_stepL (n := 400) (evs := [.b false]) (obs := _) hE Try.func113 mixed (by kernel_rfl) ho hr
theorem f113W (n : Int) (kd : Int) {E : Env} {rv : Int} (hE : PureE Try.prog 113 (.int .i64 rv) E)
    (h : ((n = kd → rv = 1) ∧ (¬ (n = kd) → rv = 0))) : G Try.prog E [.code (bodyAt Try.prog 113)] ⟨[.int .i64 n, .rptr [.int .i64 kd] 0] ++ unds (Try.f113.ntmps - 2), []⟩ := by
  rcases Bool.eq_false_or_eq_true (n == kd) with hc0 | hc0
  · have h := h.1 (eq_of_beq hc0)
    exact p113_start_0 n kd    hE ⟨hc0, trivial⟩ (AvLe.of_eq (by rw [h]; try rfl))
  · have h := h.2 (ne_of_beq_false hc0)
    exact p113_start_1 n kd    hE ⟨hc0, trivial⟩ (AvLe.of_eq (by rw [h]; try rfl))
theorem f119b : Try.f119.body = some (bodyAt Try.prog 119) := by kernel_rfl
theorem p119_start_0 (i : Int) (x : (List Int)) (plan : List Int)  (e : Int)  {E : Env} {res : AV} (hE : PureE Try.prog 119 res E) (ho : AllP [0 ≤ i ∧ i < (plan.length : Int), ((rowI plan).drop (0 + (Int.toNat i) * 1)).take 1 = [.int .i64 e]])
    (hr : AvLe (.int .i64 e) res) : G Try.prog E [.code (bodyAt Try.prog 119)] ⟨[.int .i64 i, .rsl (rowI x) 0 x.length, .rptr [.rsl (rowI plan) 0 plan.length] 0] ++ unds (Try.f119.ntmps - 3), []⟩ :=
  end_stepL (n := 400) (evs := [.auto, .ld (.int .i64 e)]) (obs := _) hE Try.func119 mixed (by kernel_rfl) ho hr
theorem f119W (i : Int) (x : (List Int)) (plan : List Int) {E : Env} {rv : Int} (hE : PureE Try.prog 119 (.int .i64 rv) E)
    (h : (0 ≤ i ∧ (∃ e : Int, plan[Int.toNat i]? = some e ∧ rv = e))) : G Try.prog E [.code (bodyAt Try.prog 119)] ⟨[.int .i64 i, .rsl (rowI x) 0 x.length, .rptr [.rsl (rowI plan) 0 plan.length] 0] ++ unds (Try.f119.ntmps - 3), []⟩ := by
  obtain ⟨h2, h⟩ := h
  obtain ⟨e, h1, h⟩ := h
  exact p119_start_0 i x plan   e hE ⟨(idx_ok' h2 h1), (row_part cI (s := 1) (k := 0) (m := 1) (fun _ => rfl) (by decide) h1), trivial⟩ (AvLe.of_eq (by rw [h]; try rfl))
theorem f115b : Try.f115.body = some (bodyAt Try.prog 115) := by kernel_rfl
def f115K0 (P : Program) : List Item := kAt 400 [.code (bodyAt P 115)] [.stop]
def f115S0 (l : (List Int)) (v : Int) (i : Nat)  : St := ⟨[.rsl (rowI l) 0 l.length, .int .i64 v, J, J, J, J, J, .int .i64 (l.length : Int), .int .i64 (i : Int), J, J, J, J, J, J, J, J, J, J], []⟩
def f115G0 (E : Env) (l : (List Int)) (v : Int) (i : Nat) : Prop := G Try.prog E (f115K0 Try.prog) (f115S0 l v i )
theorem p115_start_0 (l : (List Int)) (v : Int)   {E : Env} {rv : AV} (hE : PureE Try.prog 115 rv E) (ho : AllP [])
    (hg : G Try.prog E (f115K0 Try.prog) ⟨[.rsl (rowI l) 0 l.length, .int .i64 v, J, J, J, J, J, .int .i64 (l.length : Int), .int .i64 0, J, J, J, J, J, J, J, J, J, J], []⟩) : G Try.prog E [.code (bodyAt Try.prog 115)] ⟨[.rsl (rowI l) 0 l.length, .int .i64 v] ++ unds (Try.f115.ntmps - 2), []⟩ :=
  segC_step (n := 400) (ds := []) (cs := []) (live := [0, 1, 7, 8]) (m := 0) (evs := [.stop]) (obs := _) hE.2.1 (hE.nogh _) mixed (by kernel_rfl) ho hg
theorem f115W (l : (List Int)) (v : Int) {E : Env} {rv : Int} (hE : PureE Try.prog 115 (.int .i64 rv) E)
    (h : f115G0 E l v 0) : G Try.prog E [.code (bodyAt Try.prog 115)] ⟨[.rsl (rowI l) 0 l.length, .int .i64 v] ++ unds (Try.f115.ntmps - 2), []⟩ := by
  exact p115_start_0 l v    hE trivial h
theorem p115_0_0 (l : (List Int)) (v : Int) (i : Nat)  (e : Int)  {E : Env} {res : AV} (hE : PureE Try.prog 115 res E) (ho : AllP [(decide ((i : Int) < (l.length : Int))) = true, 0 ≤ (i : Int) ∧ (i : Int) < (l.length : Int), ((rowI l).drop (0 + (Int.toNat (i : Int)) * 1)).take 1 = [.int .i64 e], (v == e) = true])
    (hr : AvLe (.int .i64 (i : Int)) res) : G Try.prog E (f115K0 Try.prog) (f115S0 l v i ) :=
  end_stepL (n := 400) (evs := [.b true, .ld (.int .i64 e), .b true]) (obs := _) hE Try.func115 mixed (by kernel_rfl) ho hr
theorem p115_0_1 (l : (List Int)) (v : Int) (i : Nat)  (e : Int)  {E : Env} {rv : AV} (hE : PureE Try.prog 115 rv E) (ho : AllP [(decide ((i : Int) < (l.length : Int))) = true, 0 ≤ (i : Int) ∧ (i : Int) < (l.length : Int), ((rowI l).drop (0 + (Int.toNat (i : Int)) * 1)).take 1 = [.int .i64 e], (v == e) = false, InR .i64 ((i : Int) + 1)])
    (hg : G Try.prog E (f115K0 Try.prog) ⟨[.rsl (rowI l) 0 l.length, .int .i64 v, J, J, J, J, J, .int .i64 (l.length : Int), .int .i64 ((i : Int) + 1), J, J, J, J, J, J, J, J, J, J], []⟩) : G Try.prog E (f115K0 Try.prog) (f115S0 l v i ) :=
  segC_step (n := 400) (ds := []) (cs := []) (live := [0, 1, 7, 8]) (m := 0) (evs := [.b true, .ld (.int .i64 e), .b false, .stop]) (obs := _) hE.2.1 (hE.nogh _) mixed (by kernel_rfl) ho hg
theorem p115_0_2 (l : (List Int)) (v : Int) (i : Nat)   {E : Env} {res : AV} (hE : PureE Try.prog 115 res E) (ho : AllP [(decide ((i : Int) < (l.length : Int))) = false])
    (hr : AvLe (.int .i64 (-1)) res) : G Try.prog E (f115K0 Try.prog) (f115S0 l v i ) :=
  end_stepL (n := 400) (evs := [.b false]) (obs := _) hE Try.func115 mixed (by kernel_rfl) ho hr
theorem f115W0 (l : (List Int)) (v : Int) (i : Nat) {E : Env} {rv : Int} (hE : PureE Try.prog 115 (.int .i64 rv) E)
    (h : (((i : Int) < (l.length : Int) → (∃ e : Int, l[i]? = some e ∧ ((v = e → rv = (i : Int)) ∧ (¬ (v = e) → ((-9223372036854775808 ≤ (i : Int) + 1 ∧ (i : Int) + 1 ≤ 9223372036854775807) ∧ f115G0 E l v (i + 1)))))) ∧ (¬ ((i : Int) < (l.length : Int)) → rv = (-1)))) : f115G0 E l v i := by
  rcases Bool.eq_false_or_eq_true (decide ((i : Int) < (l.length : Int))) with hc0 | hc0
  · have h := h.1 (of_decide_eq_true hc0)
    obtain ⟨e, h1, h⟩ := h
    rcases Bool.eq_false_or_eq_true (v == e) with hc1 | hc1
    · have h := h.1 (eq_of_beq hc1)
      exact p115_0_0 l v i  e hE ⟨hc0, (idx_ok h1), (row_part cI (s := 1) (k := 0) (m := 1) (fun _ => rfl) (by decide) h1), hc1, trivial⟩ (AvLe.of_eq (by rw [h]; try rfl))
    · have h := h.2 (ne_of_beq_false hc1)
      obtain ⟨q5_2, h⟩ := h
      exact p115_0_1 l v i  e hE ⟨hc0, (idx_ok h1), (row_part cI (s := 1) (k := 0) (m := 1) (fun _ => rfl) (by decide) h1), hc1, q5_2, trivial⟩ h
  · have h := h.2 (of_decide_eq_false hc0)
    exact p115_0_2 l v i   hE ⟨hc0, trivial⟩ (AvLe.of_eq (by rw [h]; try rfl))
theorem f90b : Try.f90.body = some (bodyAt Try.prog 90) := by kernel_rfl
def f90K0 (P : Program) : List Item := kAt 400 [.code (bodyAt P 90)] [.b false, .stop]
def f90S0 (l : (List Int)) (m : Int) (i : Nat)  : St := ⟨[.rsl (rowI l) 0 l.length, J, J, .int .i64 m, .int .i64 (i : Int), J, J, J, J, J, J, J, J, J, J, J, J, J, J, J, J, J, J, J, J], []⟩
def f90G0 (E : Env) (l : (List Int)) (m : Int) (i : Nat) : Prop := G Try.prog E (f90K0 Try.prog) (f90S0 l m i )
theorem p90_start_1 (l : (List Int))  (e : Int)  {E : Env} {rv : AV} (hE : PureE Try.prog 90 rv E) (ho : AllP [(decide ((l.length : Int) < 1)) = false, (0 : Int) ≤ 0 ∧ (0 : Int) < (l.length : Int), ((rowI l).drop (0 + 0 * 1)).take 1 = [.int .i64 e]])
    (hg : G Try.prog E (f90K0 Try.prog) ⟨[.rsl (rowI l) 0 l.length, J, J, .int .i64 e, .int .i64 1, J, J, J, J, J, J, J, J, J, J, J, J, J, J, J, J, J, J, J, J], []⟩) : G Try.prog E [.code (bodyAt Try.prog 90)] ⟨[.rsl (rowI l) 0 l.length] ++ unds (Try.f90.ntmps - 1), []⟩ :=
  segC_step (n := 400) (ds := []) (cs := []) (live := [0, 3, 4]) (m := 0) (evs := [.b false, .ld (.int .i64 e), .stop]) (obs := _) hE.2.1 (hE.nogh _) mixed (by kernel_rfl) ho hg
theorem f90W (l : (List Int)) {E : Env} {rv : Int} (hE : PureE Try.prog 90 (.int .i64 rv) E)
    (h : (((l.length : Int) < 1 → False) ∧ (¬ ((l.length : Int) < 1) → (∃ e : Int, l[0]? = some e ∧ f90G0 E l e 1)))) : G Try.prog E [.code (bodyAt Try.prog 90)] ⟨[.rsl (rowI l) 0 l.length] ++ unds (Try.f90.ntmps - 1), []⟩ := by
  rcases Bool.eq_false_or_eq_true (decide ((l.length : Int) < 1)) with hc0 | hc0
  · have h := h.1 (of_decide_eq_true hc0)
    exact h.elim
  · have h := h.2 (of_decide_eq_false hc0)
    obtain ⟨e, h1, h⟩ := h
    exact p90_start_1 l   e hE ⟨hc0, (idx_ok h1), (row_part cI (s := 1) (k := 0) (m := 1) (fun _ => rfl) (by decide) h1), trivial⟩ h
theorem p90_0_0 (l : (List Int)) (m : Int) (i : Nat)  (e : Int)  {E : Env} {rv : AV} (hE : PureE Try.prog 90 rv E) (ho : AllP [(decide ((i : Int) < (l.length : Int))) = true, 0 ≤ (i : Int) ∧ (i : Int) < (l.length : Int), ((rowI l).drop (0 + (Int.toNat (i : Int)) * 1)).take 1 = [.int .i64 e], InR .i64 ((i : Int) + 1)])
    (hg : G Try.prog E (f90K0 Try.prog) ⟨[.rsl (rowI l) 0 l.length, J, J, .int .i64 (iMax m e), .int .i64 ((i : Int) + 1), J, J, J, J, J, J, J, J, J, J, J, J, J, J, J, J, J, J, J, J], []⟩) : G Try.prog E (f90K0 Try.prog) (f90S0 l m i ) :=
  segC_step (n := 400) (ds := []) (cs := []) (live := [0, 3, 4]) (m := 0) (evs := [.b true, .ld (.int .i64 e), .stop]) (obs := _) hE.2.1 (hE.nogh _) mixed (by kernel_rfl) ho hg
theorem p90_0_1 (l : (List Int)) (m : Int) (i : Nat)   {E : Env} {res : AV} (hE : PureE Try.prog 90 res E) (ho : AllP [(decide ((i : Int) < (l.length : Int))) = false])
    (hr : AvLe (.int .i64 m) res) : G Try.prog E (f90K0 Try.prog) (f90S0 l m i ) :=
  end_stepL (n := 400) (evs := [.b false]) (obs := _) hE Try.func90 mixed (by kernel_rfl) ho hr
theorem f90W0 (l : (List Int)) (m : Int) (i : Nat) {E : Env} {rv : Int} (hE : PureE Try.prog 90 (.int .i64 rv) E)
    (h : (((i : Int) < (l.length : Int) → (∃ e : Int, l[i]? = some e ∧ ((-9223372036854775808 ≤ (i : Int) + 1 ∧ (i : Int) + 1 ≤ 9223372036854775807) ∧ f90G0 E l (iMax m e) (i + 1)))) ∧ (¬ ((i : Int) < (l.length : Int)) → rv = m))) : f90G0 E l m i := by
  rcases Bool.eq_false_or_eq_true (decide ((i : Int) < (l.length : Int))) with hc0 | hc0
  · have h := h.1 (of_decide_eq_true hc0)
    obtain ⟨e, h1, h⟩ := h
    obtain ⟨q4_1, h⟩ := h
    exact p90_0_0 l m i  e hE ⟨hc0, (idx_ok h1), (row_part cI (s := 1) (k := 0) (m := 1) (fun _ => rfl) (by decide) h1), q4_1, trivial⟩ h
  · have h := h.2 (of_decide_eq_false hc0)
    exact p90_0_1 l m i   hE ⟨hc0, trivial⟩ (AvLe.of_eq (by rw [h]; try rfl))
theorem f116b : Try.f116.body = some (bodyAt Try.prog 116) := by kernel_rfl
def f116K0 (P : Program) : List Item := kAt 400 [.code (bodyAt P 116)] [.b false, .stop]
def f116S0 (l : (List Int)) (m : Int) (i : Nat)  : St := ⟨[.rsl (rowI l) 0 l.length, J, J, .int .i64 m, .int .i64 (i : Int), J, J, J, J, J, J, J, J, J, J, J, J, J, J, J, J, J, J, J, J], []⟩
def f116G0 (E : Env) (l : (List Int)) (m : Int) (i : Nat) : Prop := G Try.prog E (f116K0 Try.prog) (f116S0 l m i )
theorem p116_start_1 (l : (List Int))  (e : Int)  {E : Env} {rv : AV} (hE : PureE Try.prog 116 rv E) (ho : AllP [(decide ((l.length : Int) < 1)) = false, (0 : Int) ≤ 0 ∧ (0 : Int) < (l.length : Int), ((rowI l).drop (0 + 0 * 1)).take 1 = [.int .i64 e]])
    (hg : G Try.prog E (f116K0 Try.prog) ⟨[.rsl (rowI l) 0 l.length, J, J, .int .i64 e, .int .i64 1, J, J, J, J, J, J, J, J, J, J, J, J, J, J, J, J, J, J, J, J], []⟩) : G Try.prog E [.code (bodyAt Try.prog 116)] ⟨[.rsl (rowI l) 0 l.length] ++ unds (Try.f116.ntmps - 1), []⟩ :=
  segC_step (n := 400) (ds := []) (cs := []) (live := [0, 3, 4]) (m := 0) (evs := [.b false, .ld (.int .i64 e), .stop]) (obs := _) hE.2.1 (hE.nogh _) mixed (by kernel_rfl) ho hg
theorem f116W (l : (List Int)) {E : Env} {rv : Int} (hE : PureE Try.prog 116 (.int .i64 rv) E)
    (h : (((l.length : Int) < 1 → False) ∧ (¬ ((l.length : Int) < 1) → (∃ e : Int, l[0]? = some e ∧ f116G0 E l e 1)))) : G Try.prog E [.code (bodyAt Try.prog 116)] ⟨[.rsl (rowI l) 0 l.length] ++ unds (Try.f116.ntmps - 1), []⟩ := by
  rcases Bool.eq_false_or_eq_true (decide ((l.length : Int) < 1)) with hc0 | hc0
  · have h := h.1 (of_decide_eq_true hc0)
    exact h.elim
  · have h := h.2 (of_decide_eq_false hc0)
    obtain ⟨e, h1, h⟩ := h
    exact p116_start_1 l   e hE ⟨hc0, (idx_ok h1), (row_part cI (s := 1) (k := 0) (m := 1) (fun _ => rfl) (by decide) h1), trivial⟩ h
theorem p116_0_0 (l : (List Int)) (m : Int) (i : Nat)  (e : Int)  {E : Env} {rv : AV} (hE : PureE Try.prog 116 rv E) (ho : AllP [(decide ((i : Int) < (l.length : Int))) = true, 0 ≤ (i : Int) ∧ (i : Int) < (l.length : Int), ((rowI l).drop (0 + (Int.toNat (i : Int)) * 1)).take 1 = [.int .i64 e], InR .i64 ((i : Int) + 1)])
    (hg : G Try.prog E (f116K0 Try.prog) ⟨[.rsl (rowI l) 0 l.length, J, J, .int .i64 (iMin m e), .int .i64 ((i : Int) + 1), J, J, J, J, J, J, J, J, J, J, J, J, J, J, J, J, J, J, J, J], []⟩) : G Try.prog E (f116K0 Try.prog) (f116S0 l m i ) :=
  segC_step (n := 400) (ds := []) (cs := []) (live := [0, 3, 4]) (m := 0) (evs := [.b true, .ld (.int .i64 e), .stop]) (obs := _) hE.2.1 (hE.nogh _) mixed (by kernel_rfl) ho hg
theorem p116_0_1 (l : (List Int)) (m : Int) (i : Nat)   {E : Env} {res : AV} (hE : PureE Try.prog 116 res E) (ho : AllP [(decide ((i : Int) < (l.length : Int))) = false])
    (hr : AvLe (.int .i64 m) res) : G Try.prog E (f116K0 Try.prog) (f116S0 l m i ) :=
  end_stepL (n := 400) (evs := [.b false]) (obs := _) hE Try.func116 mixed (by kernel_rfl) ho hr
theorem f116W0 (l : (List Int)) (m : Int) (i : Nat) {E : Env} {rv : Int} (hE : PureE Try.prog 116 (.int .i64 rv) E)
    (h : (((i : Int) < (l.length : Int) → (∃ e : Int, l[i]? = some e ∧ ((-9223372036854775808 ≤ (i : Int) + 1 ∧ (i : Int) + 1 ≤ 9223372036854775807) ∧ f116G0 E l (iMin m e) (i + 1)))) ∧ (¬ ((i : Int) < (l.length : Int)) → rv = m))) : f116G0 E l m i := by
  rcases Bool.eq_false_or_eq_true (decide ((i : Int) < (l.length : Int))) with hc0 | hc0
  · have h := h.1 (of_decide_eq_true hc0)
    obtain ⟨e, h1, h⟩ := h
    obtain ⟨q4_1, h⟩ := h
    exact p116_0_0 l m i  e hE ⟨hc0, (idx_ok h1), (row_part cI (s := 1) (k := 0) (m := 1) (fun _ => rfl) (by decide) h1), q4_1, trivial⟩ h
  · have h := h.2 (of_decide_eq_false hc0)
    exact p116_0_1 l m i   hE ⟨hc0, trivial⟩ (AvLe.of_eq (by rw [h]; try rfl))

def onlyI (k n : Int) : Int := if n = k then 1 else 0
theorem only_ok (n k : Int) : Pure Try.prog 113 [.int .i64 n, .rptr [.int .i64 k] 0] (.int .i64 (onlyI k n)) := pure_of Try.func113 f113b fun E hE => f113W n k (rv := onlyI k n) hE ⟨fun h => by rw [onlyI, if_pos h], fun h => by rw [onlyI, if_neg h]⟩
def worthI (m : Mch) (n : Int) : Int := m.s.worth.getD (Int.toNat n) 0
def planI (l : List Int) (i : Int) : Int := l.getD (Int.toNat i) 0
theorem planned1_ok (i : Int) (plan x : List Int) (h : 0 ≤ i ∧ Int.toNat i < plan.length) : Pure Try.prog 119 [.int .i64 i, .rsl (rowI x) 0 x.length, .rptr [.rsl (rowI plan) 0 plan.length] 0] (.int .i64 (planI plan i)) := pure_of Try.func119 f119b fun E hE => by
  have hg : plan[Int.toNat i]? = some plan[Int.toNat i] := List.getElem?_eq_getElem h.2
  exact f119W i x plan (rv := planI plan i) hE ⟨h.1, _, hg, by simp [planI, List.getD, hg]⟩
def idxV (l : List Int) (v : Int) : Int := idxG (fun e => decide (v = e)) l
theorem index_ok (l : List Int) (v : Int) (h : l.length ≤ 1000000) : Pure Try.prog 115 [.rsl (rowI l) 0 l.length, .int .i64 v] (.int .i64 (idxV l v)) := pure_of Try.func115 f115b fun E hE => by
  refine f115W l v (rv := idxV l v) hE (idxG_from (fun e => decide (v = e)) l l.length 0 (by omega) (fun j x hj => by omega) (fun i => f115G0 E l v i) (fun i hi' h1 h2 => ?_) (fun _ h2 => ?_))
  · have hx : l[i]? = some l[i] := List.getElem?_eq_getElem hi'
    exact f115W0 l v i (rv := idxV l v) hE ⟨fun _ => ⟨_, hx, fun hp => h1 _ hx (decide_eq_true hp), fun hp => ⟨by omega, h2 _ hx (decide_eq_false hp)⟩⟩, fun h => by omega⟩
  · exact f115W0 l v _ (rv := idxV l v) hE ⟨fun h => by omega, fun _ => h2⟩
def maxF : Int → List Int → Int
  | m, [] => m
  | m, x :: l => maxF (iMax m x) l
def maxI (l : List Int) : Int := maxF (l.getD 0 0) (l.drop 1)
def minF : Int → List Int → Int
  | m, [] => m
  | m, x :: l => minF (iMin m x) l
def minI (l : List Int) : Int := minF (l.getD 0 0) (l.drop 1)


theorem max_ok (l : List Int) (h : 0 < l.length ∧ l.length ≤ 1000000) : Pure Try.prog 90 [.rsl (rowI l) 0 l.length] (.int .i64 (maxI l)) := pure_of Try.func90 f90b fun E hE => by
  have key : ∀ (d i : Nat) (m : Int), i + d = l.length → maxI l = maxF m (l.drop i) → f90G0 E l m i := by
    intro d
    induction d with
    | zero =>
      intro i m hd hm
      rw [List.drop_eq_nil_of_le (by omega), maxF] at hm
      exact f90W0 l m i (rv := maxI l) hE ⟨fun h => by omega, fun _ => hm⟩
    | succ d ih =>
      intro i m hd hm
      have hi : l[i]? = some l[i] := List.getElem?_eq_getElem (by omega)
      rw [List.drop_eq_getElem_cons (by omega), maxF] at hm
      exact f90W0 l m i (rv := maxI l) hE ⟨fun _ => ⟨_, hi, by omega, ih (i + 1) _ (by omega) hm⟩, fun h => by omega⟩
  have h0 : l[0]? = some l[0] := List.getElem?_eq_getElem h.1
  exact f90W l (rv := maxI l) hE ⟨fun h' => by omega, fun _ => ⟨_, h0, key (l.length - 1) 1 _ (by omega) (by simp [maxI, List.getD, h0])⟩⟩


theorem min_ok (l : List Int) (h : 0 < l.length ∧ l.length ≤ 1000000) : Pure Try.prog 116 [.rsl (rowI l) 0 l.length] (.int .i64 (minI l)) := pure_of Try.func116 f116b fun E hE => by
  have key : ∀ (d i : Nat) (m : Int), i + d = l.length → minI l = minF m (l.drop i) → f116G0 E l m i := by
    intro d
    induction d with
    | zero =>
      intro i m hd hm
      rw [List.drop_eq_nil_of_le (by omega), minF] at hm
      exact f116W0 l m i (rv := minI l) hE ⟨fun h => by omega, fun _ => hm⟩
    | succ d ih =>
      intro i m hd hm
      have hi : l[i]? = some l[i] := List.getElem?_eq_getElem (by omega)
      rw [List.drop_eq_getElem_cons (by omega), minF] at hm
      exact f116W0 l m i (rv := minI l) hE ⟨fun _ => ⟨_, hi, by omega, ih (i + 1) _ (by omega) hm⟩, fun h => by omega⟩
  have h0 : l[0]? = some l[0] := List.getElem?_eq_getElem h.1
  exact f116W l (rv := minI l) hE ⟨fun h' => by omega, fun _ => ⟨_, h0, key (l.length - 1) 1 _ (by omega) (by simp [minI, List.getD, h0])⟩⟩

theorem f114b : Try.f114.body = some (bodyAt Try.prog 114) := by kernel_rfl
theorem p114_start_0 (i : Int) (l : (List Int)) (m : Mch) (pa oa : Int)  (se : Stg)  {E : Env} {res : AV} (hE : PureE Try.prog 114 res E) (ho : AllP [0 ≤ i ∧ i < (m.s.stages.length : Int), ((rowStg m.s.stages).drop ((0 + (Int.toNat i) * 3) + 0)).take 1 = [.int .i64 se.kind], (se.kind == 3) = true, (oa == 2) = true, PureF Try.prog (.clos 90 [] []) [.rsl (rowI l) 0 l.length] (.int .i64 (maxI l)), PureF Try.prog (.clos 115 [] []) [.rsl (rowI l) 0 l.length, .int .i64 (maxI l)] (.int .i64 (idxV l (maxI l)))])
    (hr : AvLe (.int .i64 (idxV l (maxI l))) res) : G Try.prog E [.code (bodyAt Try.prog 114)] ⟨[.int .i64 i, .rsl (rowI l) 0 l.length, .rptr [.int .i64 pa] 0, .rptr [.rptr [.rsl (rowStg m.s.stages) 0 m.s.stages.length, .rsl (rowI m.s.worth) 0 m.s.worth.length, .int .i64 m.s.price, .rsl (rowI m.meas) 0 m.meas.length, .rsl (rowI m.mult) 0 m.mult.length] 0] 0, .rptr [.int .i64 oa] 0] ++ unds (Try.f114.ntmps - 5), []⟩ :=
  end_stepL (n := 400) (evs := [.auto, .auto, .auto, .ld (.int .i64 se.kind), .b true, .b true, .v (.int .i64 (maxI l)), .v (.int .i64 (idxV l (maxI l)))]) (obs := _) hE Try.func114 mixed (by kernel_rfl) ho hr
theorem p114_start_1 (i : Int) (l : (List Int)) (m : Mch) (pa oa : Int)  (se : Stg)  {E : Env} {res : AV} (hE : PureE Try.prog 114 res E) (ho : AllP [0 ≤ i ∧ i < (m.s.stages.length : Int), ((rowStg m.s.stages).drop ((0 + (Int.toNat i) * 3) + 0)).take 1 = [.int .i64 se.kind], (se.kind == 3) = true, (oa == 2) = false, PureF Try.prog (.clos 116 [] []) [.rsl (rowI l) 0 l.length] (.int .i64 (minI l)), PureF Try.prog (.clos 115 [] []) [.rsl (rowI l) 0 l.length, .int .i64 (minI l)] (.int .i64 (idxV l (minI l)))])
    (hr : AvLe (.int .i64 (idxV l (minI l))) res) : G Try.prog E [.code (bodyAt Try.prog 114)] ⟨[.int .i64 i, .rsl (rowI l) 0 l.length, .rptr [.int .i64 pa] 0, .rptr [.rptr [.rsl (rowStg m.s.stages) 0 m.s.stages.length, .rsl (rowI m.s.worth) 0 m.s.worth.length, .int .i64 m.s.price, .rsl (rowI m.meas) 0 m.meas.length, .rsl (rowI m.mult) 0 m.mult.length] 0] 0, .rptr [.int .i64 oa] 0] ++ unds (Try.f114.ntmps - 5), []⟩ :=
  end_stepL (n := 400) (evs := [.auto, .auto, .auto, .ld (.int .i64 se.kind), .b true, .b false, .v (.int .i64 (minI l)), .v (.int .i64 (idxV l (minI l)))]) (obs := _) hE Try.func114 mixed (by kernel_rfl) ho hr
theorem p114_start_2 (i : Int) (l : (List Int)) (m : Mch) (pa oa : Int)  (se : Stg)  {E : Env} {res : AV} (hE : PureE Try.prog 114 res E) (ho : AllP [0 ≤ i ∧ i < (m.s.stages.length : Int), ((rowStg m.s.stages).drop ((0 + (Int.toNat i) * 3) + 0)).take 1 = [.int .i64 se.kind], (se.kind == 3) = false, (pa == 2) = true, PureF Try.prog (.clos 90 [] []) [.rsl (rowI l) 0 l.length] (.int .i64 (maxI l)), PureF Try.prog (.clos 115 [] []) [.rsl (rowI l) 0 l.length, .int .i64 (maxI l)] (.int .i64 (idxV l (maxI l)))])
    (hr : AvLe (.int .i64 (idxV l (maxI l))) res) : G Try.prog E [.code (bodyAt Try.prog 114)] ⟨[.int .i64 i, .rsl (rowI l) 0 l.length, .rptr [.int .i64 pa] 0, .rptr [.rptr [.rsl (rowStg m.s.stages) 0 m.s.stages.length, .rsl (rowI m.s.worth) 0 m.s.worth.length, .int .i64 m.s.price, .rsl (rowI m.meas) 0 m.meas.length, .rsl (rowI m.mult) 0 m.mult.length] 0] 0, .rptr [.int .i64 oa] 0] ++ unds (Try.f114.ntmps - 5), []⟩ :=
  end_stepL (n := 400) (evs := [.auto, .auto, .auto, .ld (.int .i64 se.kind), .b false, .b true, .v (.int .i64 (maxI l)), .v (.int .i64 (idxV l (maxI l)))]) (obs := _) hE Try.func114 mixed (by kernel_rfl) ho hr
theorem p114_start_3 (i : Int) (l : (List Int)) (m : Mch) (pa oa : Int)  (se : Stg)  {E : Env} {res : AV} (hE : PureE Try.prog 114 res E) (ho : AllP [0 ≤ i ∧ i < (m.s.stages.length : Int), ((rowStg m.s.stages).drop ((0 + (Int.toNat i) * 3) + 0)).take 1 = [.int .i64 se.kind], (se.kind == 3) = false, (pa == 2) = false, PureF Try.prog (.clos 116 [] []) [.rsl (rowI l) 0 l.length] (.int .i64 (minI l)), PureF Try.prog (.clos 115 [] []) [.rsl (rowI l) 0 l.length, .int .i64 (minI l)] (.int .i64 (idxV l (minI l)))])
    (hr : AvLe (.int .i64 (idxV l (minI l))) res) : G Try.prog E [.code (bodyAt Try.prog 114)] ⟨[.int .i64 i, .rsl (rowI l) 0 l.length, .rptr [.int .i64 pa] 0, .rptr [.rptr [.rsl (rowStg m.s.stages) 0 m.s.stages.length, .rsl (rowI m.s.worth) 0 m.s.worth.length, .int .i64 m.s.price, .rsl (rowI m.meas) 0 m.meas.length, .rsl (rowI m.mult) 0 m.mult.length] 0] 0, .rptr [.int .i64 oa] 0] ++ unds (Try.f114.ntmps - 5), []⟩ :=
  end_stepL (n := 400) (evs := [.auto, .auto, .auto, .ld (.int .i64 se.kind), .b false, .b false, .v (.int .i64 (minI l)), .v (.int .i64 (idxV l (minI l)))]) (obs := _) hE Try.func114 mixed (by kernel_rfl) ho hr
theorem f114W (i : Int) (l : (List Int)) (m : Mch) (pa oa : Int) {E : Env} {rv : Int} (hE : PureE Try.prog 114 (.int .i64 rv) E)
    (h : (0 ≤ i ∧ (∃ se : Stg, m.s.stages[Int.toNat i]? = some se ∧ ((se.kind = 3 → ((oa = 2 → ((0 < l.length ∧ l.length ≤ 1000000) ∧ ((l.length ≤ 1000000) ∧ rv = (idxV l (maxI l))))) ∧ (¬ (oa = 2) → ((0 < l.length ∧ l.length ≤ 1000000) ∧ ((l.length ≤ 1000000) ∧ rv = (idxV l (minI l))))))) ∧ (¬ (se.kind = 3) → ((pa = 2 → ((0 < l.length ∧ l.length ≤ 1000000) ∧ ((l.length ≤ 1000000) ∧ rv = (idxV l (maxI l))))) ∧ (¬ (pa = 2) → ((0 < l.length ∧ l.length ≤ 1000000) ∧ ((l.length ≤ 1000000) ∧ rv = (idxV l (minI l))))))))))) : G Try.prog E [.code (bodyAt Try.prog 114)] ⟨[.int .i64 i, .rsl (rowI l) 0 l.length, .rptr [.int .i64 pa] 0, .rptr [.rptr [.rsl (rowStg m.s.stages) 0 m.s.stages.length, .rsl (rowI m.s.worth) 0 m.s.worth.length, .int .i64 m.s.price, .rsl (rowI m.meas) 0 m.meas.length, .rsl (rowI m.mult) 0 m.mult.length] 0] 0, .rptr [.int .i64 oa] 0] ++ unds (Try.f114.ntmps - 5), []⟩ := by
  obtain ⟨h2, h⟩ := h
  obtain ⟨se, h1, h⟩ := h
  rcases Bool.eq_false_or_eq_true (se.kind == 3) with hc0 | hc0
  · have h := h.1 (eq_of_beq hc0)
    rcases Bool.eq_false_or_eq_true (oa == 2) with hc1 | hc1
    · have h := h.1 (eq_of_beq hc1)
      obtain ⟨h3, h⟩ := h
      obtain ⟨h4, h⟩ := h
      exact p114_start_0 i l m pa oa   se hE ⟨(idx_ok' h2 h1), (row_part cStg (s := 3) (k := 0) (m := 1) (fun _ => rfl) (by decide) h1), hc0, hc1, (pureF_of Try.func90 (by kernel_rfl) f90b (max_ok l h3)), (pureF_of Try.func115 (by kernel_rfl) f115b (index_ok l (maxI l) h4)), trivial⟩ (AvLe.of_eq (by rw [h]; try rfl))
    · have h := h.2 (ne_of_beq_false hc1)
      obtain ⟨h3, h⟩ := h
      obtain ⟨h4, h⟩ := h
      exact p114_start_1 i l m pa oa   se hE ⟨(idx_ok' h2 h1), (row_part cStg (s := 3) (k := 0) (m := 1) (fun _ => rfl) (by decide) h1), hc0, hc1, (pureF_of Try.func116 (by kernel_rfl) f116b (min_ok l h3)), (pureF_of Try.func115 (by kernel_rfl) f115b (index_ok l (minI l) h4)), trivial⟩ (AvLe.of_eq (by rw [h]; try rfl))
  · have h := h.2 (ne_of_beq_false hc0)
    rcases Bool.eq_false_or_eq_true (pa == 2) with hc1 | hc1
    · have h := h.1 (eq_of_beq hc1)
      obtain ⟨h3, h⟩ := h
      obtain ⟨h4, h⟩ := h
      exact p114_start_2 i l m pa oa   se hE ⟨(idx_ok' h2 h1), (row_part cStg (s := 3) (k := 0) (m := 1) (fun _ => rfl) (by decide) h1), hc0, hc1, (pureF_of Try.func90 (by kernel_rfl) f90b (max_ok l h3)), (pureF_of Try.func115 (by kernel_rfl) f115b (index_ok l (maxI l) h4)), trivial⟩ (AvLe.of_eq (by rw [h]; try rfl))
    · have h := h.2 (ne_of_beq_false hc1)
      obtain ⟨h3, h⟩ := h
      obtain ⟨h4, h⟩ := h
      exact p114_start_3 i l m pa oa   se hE ⟨(idx_ok' h2 h1), (row_part cStg (s := 3) (k := 0) (m := 1) (fun _ => rfl) (by decide) h1), hc0, hc1, (pureF_of Try.func116 (by kernel_rfl) f116b (min_ok l h3)), (pureF_of Try.func115 (by kernel_rfl) f115b (index_ok l (minI l) h4)), trivial⟩ (AvLe.of_eq (by rw [h]; try rfl))

def chooseI (m : Mch) (pa oa i : Int) (l : List Int) : Int := if (if (m.s.stages.getD (Int.toNat i) ⟨0, 0, []⟩).kind = 3 then oa else pa) = 2 then idxV l (maxI l) else idxV l (minI l)
theorem choose_ok (i : Int) (l : List Int) (m : Mch) (pa oa : Int) (h : (0 ≤ i ∧ Int.toNat i < m.s.stages.length) ∧ 0 < l.length ∧ l.length ≤ 1000000) : Pure Try.prog 114 [.int .i64 i, .rsl (rowI l) 0 l.length, .rptr [.int .i64 pa] 0, .rptr [.rptr (cMch m) 0] 0, .rptr [.int .i64 oa] 0] (.int .i64 (chooseI m pa oa i l)) := pure_of Try.func114 f114b fun E hE => by
  have hg : m.s.stages[Int.toNat i]? = some m.s.stages[Int.toNat i] := List.getElem?_eq_getElem h.1.2
  have hx : m.s.stages.getD (Int.toNat i) ⟨0, 0, []⟩ = m.s.stages[Int.toNat i] := by simp [List.getD, hg]
  refine f114W i l m pa oa (rv := chooseI m pa oa i l) hE ⟨h.1.1, _, hg, fun h1 => ⟨fun h2 => ⟨h.2, h.2.2, ?_⟩, fun h2 => ⟨h.2, h.2.2, ?_⟩⟩, fun h1 => ⟨fun h2 => ⟨h.2, h.2.2, ?_⟩, fun h2 => ⟨h.2, h.2.2, ?_⟩⟩⟩
  · rw [chooseI, hx, if_pos h1, if_pos h2]
  · rw [chooseI, hx, if_pos h1, if_neg h2]
  · rw [chooseI, hx, if_neg h1, if_pos h2]
  · rw [chooseI, hx, if_neg h1, if_neg h2]

theorem f76b : Try.f76.body = some (bodyAt Try.prog 76) := by kernel_rfl
theorem p76_start_0 (k : Int)   {E : Env} {res : AV} (hE : PureE Try.prog 76 res E) (ho : AllP [])
    (hr : AvLe (.clos 113 [] [.rptr [.int .i64 k] 0]) res) : G Try.prog E [.code (bodyAt Try.prog 76)] ⟨[.int .i64 k] ++ unds (Try.f76.ntmps - 1), []⟩ :=
  end_stepL (n := 400) (evs := []) (obs := _) hE Try.func76 mixed (by kernel_rfl) ho hr
theorem f76W (k : Int) {E : Env} {rv : AV} (hE : PureE Try.prog 76 rv E)
    (h : rv = (.clos 113 [] [.rptr [.int .i64 k] 0])) : G Try.prog E [.code (bodyAt Try.prog 76)] ⟨[.int .i64 k] ++ unds (Try.f76.ntmps - 1), []⟩ := by
  exact p76_start_0 k    hE trivial (AvLe.of_eq (by rw [h]; try rfl))
theorem f77b : Try.f77.body = some (bodyAt Try.prog 77) := by kernel_rfl
theorem p77_start_0 (pa : Int) (oa : Int) (m : Mch)   {E : Env} {res : AV} (hE : PureE Try.prog 77 res E) (ho : AllP [])
    (hr : AvLe (.clos 114 [] [.rptr [.int .i64 pa] 0, .rptr [.rptr [.rsl (rowStg m.s.stages) 0 m.s.stages.length, .rsl (rowI m.s.worth) 0 m.s.worth.length, .int .i64 m.s.price, .rsl (rowI m.meas) 0 m.meas.length, .rsl (rowI m.mult) 0 m.mult.length] 0] 0, .rptr [.int .i64 oa] 0]) res) : G Try.prog E [.code (bodyAt Try.prog 77)] ⟨[.rptr [.rsl (rowStg m.s.stages) 0 m.s.stages.length, .rsl (rowI m.s.worth) 0 m.s.worth.length, .int .i64 m.s.price, .rsl (rowI m.meas) 0 m.meas.length, .rsl (rowI m.mult) 0 m.mult.length] 0, .int .i64 pa, .int .i64 oa] ++ unds (Try.f77.ntmps - 3), []⟩ :=
  end_stepL (n := 400) (evs := []) (obs := _) hE Try.func77 mixed (by kernel_rfl) ho hr
theorem f77W (pa : Int) (oa : Int) (m : Mch) {E : Env} {rv : AV} (hE : PureE Try.prog 77 rv E)
    (h : rv = (.clos 114 [] [.rptr [.int .i64 pa] 0, .rptr [.rptr [.rsl (rowStg m.s.stages) 0 m.s.stages.length, .rsl (rowI m.s.worth) 0 m.s.worth.length, .int .i64 m.s.price, .rsl (rowI m.meas) 0 m.meas.length, .rsl (rowI m.mult) 0 m.mult.length] 0] 0, .rptr [.int .i64 oa] 0])) : G Try.prog E [.code (bodyAt Try.prog 77)] ⟨[.rptr [.rsl (rowStg m.s.stages) 0 m.s.stages.length, .rsl (rowI m.s.worth) 0 m.s.worth.length, .int .i64 m.s.price, .rsl (rowI m.meas) 0 m.meas.length, .rsl (rowI m.mult) 0 m.mult.length] 0, .int .i64 pa, .int .i64 oa] ++ unds (Try.f77.ntmps - 3), []⟩ := by
  exact p77_start_0 pa oa m    hE trivial (AvLe.of_eq (by rw [h]; try rfl))
theorem f94b : Try.f94.body = some (bodyAt Try.prog 94) := by kernel_rfl
theorem p94_start_0 (plan : (List Int))   {E : Env} {res : AV} (hE : PureE Try.prog 94 res E) (ho : AllP [])
    (hr : AvLe (.clos 119 [] [.rptr [.rsl (rowI plan) 0 plan.length] 0]) res) : G Try.prog E [.code (bodyAt Try.prog 94)] ⟨[.rsl (rowI plan) 0 plan.length] ++ unds (Try.f94.ntmps - 1), []⟩ :=
  end_stepL (n := 400) (evs := []) (obs := _) hE Try.func94 mixed (by kernel_rfl) ho hr
theorem f94W (plan : (List Int)) {E : Env} {rv : AV} (hE : PureE Try.prog 94 rv E)
    (h : rv = (.clos 119 [] [.rptr [.rsl (rowI plan) 0 plan.length] 0])) : G Try.prog E [.code (bodyAt Try.prog 94)] ⟨[.rsl (rowI plan) 0 plan.length] ++ unds (Try.f94.ntmps - 1), []⟩ := by
  exact p94_start_0 plan    hE trivial (AvLe.of_eq (by rw [h]; try rfl))

theorem mkonly_ok (k : Int) : Pure Try.prog 76 [.int .i64 k] (.clos 113 [] [.rptr [.int .i64 k] 0]) := pure_of Try.func76 f76b fun E hE => f76W k hE rfl
theorem mkaims_ok (m : Mch) (pa oa : Int) : Pure Try.prog 77 [.rptr (cMch m) 0, .int .i64 pa, .int .i64 oa] (.clos 114 [] [.rptr [.int .i64 pa] 0, .rptr [.rptr (cMch m) 0] 0, .rptr [.int .i64 oa] 0]) := pure_of Try.func77 f77b fun E hE => f77W pa oa m hE rfl
theorem mkplanned_ok (plan : List Int) : Pure Try.prog 94 [.rsl (rowI plan) 0 plan.length] (.clos 119 [] [.rptr [.rsl (rowI plan) 0 plan.length] 0]) := pure_of Try.func94 f94b fun E hE => f94W plan hE rfl

end Go.Proofs.Ytfgmlaeikcfpbaa

namespace Go.Proofs.Ytfgmlaeikcfpbaa
open Go Ax
open Go.Proofs

/-! ### What is so of a machine -/
structure MInv (s : Stl) (i : Nat) (me mu : List Int) : Prop where
  l1 : me.length = s.stages.length
  l2 : mu.length = s.stages.length
  pos : ∀ (j : Nat) (v : Int), i ≤ j → me[j]? = some v → 0 < v ∧ v ≤ 1000000000000
  rel : ∀ (j : Nat) (x : Stg), i ≤ j → s.stages[j]? = some x → ∃ q, mu[j]? = some q ∧ me[j]? = some (if x.kind = 1 then q * totI x else q) ∧ (0 < q ∧ q ≤ 1000000000000) ∧ ∀ t ∈ x.turns, me.getD (Int.toNat t.to) 0 ∣ q

theorem getD_set_ne {l : List Int} {i k : Nat} {v : Int} (h : i ≠ k) : (l.set i v).getD k 0 = l.getD k 0 := by
  simp [List.getD, List.getElem?_set_ne h]

theorem multI_dvd {me : List Int} : ∀ {l : List Trn} {m q : Int}, (∀ t ∈ l, 0 < me.getD (Int.toNat t.to) 0) → (0 < m ∧ m ≤ 1000000000000) → multI me m l = some q → (0 < q ∧ q ≤ 1000000000000) ∧ m ∣ q ∧ ∀ t ∈ l, me.getD (Int.toNat t.to) 0 ∣ q
  | [], m, q, _, hm, h => by
    simp only [multI, Option.some.injEq] at h; subst h
    exact ⟨hm, Int.dvd_refl _, by simp⟩
  | t :: l, m, q, hp, hm, h => by
    simp only [multI] at h
    split at h
    · cases h
    · rename_i h1
      have hv := hp t (by simp)
      have lp := lcm_pos hm.1 hv
      obtain ⟨a, b, c⟩ := multI_dvd (fun t ht => hp t (by simp [ht])) ⟨lp, by omega⟩ h
      have e1 : m ∣ lcmI m (me.getD (Int.toNat t.to) 0) := ⟨_, rfl⟩
      have e2 : me.getD (Int.toNat t.to) 0 ∣ lcmI m (me.getD (Int.toNat t.to) 0) := ⟨Int.tdiv m (gcdI m (me.getD (Int.toNat t.to) 0)), by rw [lcmI, ← (lcm_eq hm.1 hv).1, Int.mul_comm]⟩
      refine ⟨a, Int.dvd_trans e1 b, fun t' ht' => ?_⟩
      rcases List.mem_cons.1 ht' with rfl | ht'
      · exact Int.dvd_trans e2 b
      · exact c t' ht'

theorem turns_to {s : Stl} {i : Nat} {x : Stg} (hi : s.stages[i]? = some x) (hf : formI s i = true) : ∀ t ∈ x.turns, i < Int.toNat t.to ∧ Int.toNat t.to < s.stages.length ∧ 0 ≤ t.to := fun t htm => by
  rcases form_of hi hf with ⟨-, h2, -⟩ | ⟨-, -, -, h4, -, -⟩
  · rw [h2] at htm; simp at htm
  · have := h4 t htm; omega

theorem minv_step {s : Stl} {i : Nat} {x : Stg} {me mu : List Int} (hform : ∀ j, j < s.stages.length → formI s j = true) (hi : s.stages[i]? = some x) (h : MInv s (i + 1) me mu) (hk : (measK x i me mu).1 = true) :
    MInv s i (measK x i me mu).2.1 (measK x i me mu).2.2 := by
  have hlt := (List.getElem?_eq_some_iff.1 hi).1
  have hf := hform i hlt
  obtain ⟨a, b, c⟩ := meas_next (mu := mu) hi hf ⟨h.l1, fun j v hj => h.pos j v hj⟩ hk
  have hto := turns_to hi hf
  have hpos : ∀ t ∈ x.turns, 0 < me.getD (Int.toNat t.to) 0 := fun t ht => by
    have h1 := hto t ht
    have hg : me[Int.toNat t.to]? = some (me[Int.toNat t.to]'(by rw [h.l1]; exact h1.2.1)) := List.getElem?_eq_getElem _
    have := (h.pos _ _ (by omega) hg).1
    simpa [List.getD, hg] using this
  refine ⟨a, by rw [b, h.l2], fun j v hj => c j v hj, ?_⟩
  cases hm : multI me 1 x.turns with
  | none => simp [measK, hm] at hk
  | some m =>
    obtain ⟨m1, -, m3⟩ := multI_dvd hpos (by omega) hm
    have hto2 := tot_of hi hf
    have fin : ∀ w : Int, w = (if x.kind = 1 then m * totI x else m) → ∀ (j : Nat) (y : Stg), i ≤ j → s.stages[j]? = some y → ∃ q, (mu.set i m)[j]? = some q ∧ (me.set i w)[j]? = some (if y.kind = 1 then q * totI y else q) ∧ (0 < q ∧ q ≤ 1000000000000) ∧ ∀ t ∈ y.turns, (me.set i w).getD (Int.toNat t.to) 0 ∣ q := fun w hw j y hj hy => by
      by_cases e : i = j
      · subst e
        rw [hi] at hy; cases hy
        refine ⟨m, by rw [List.getElem?_set_self (by rw [h.l2]; exact hlt)], by rw [List.getElem?_set_self (by rw [h.l1]; exact hlt), hw], m1, fun t ht => ?_⟩
        rw [getD_set_ne (by have := hto t ht; omega)]
        exact m3 t ht
      · obtain ⟨q, q1, q2, q3, q4⟩ := h.rel j y (by omega) hy
        refine ⟨q, by rw [List.getElem?_set_ne e]; exact q1, by rw [List.getElem?_set_ne e]; exact q2, q3, fun t ht => ?_⟩
        have := turns_to hy (hform j (List.getElem?_eq_some_iff.1 hy).1) t ht
        rw [getD_set_ne (by omega)]
        exact q4 t ht
    simp only [measK, hm] at hk ⊢
    by_cases hk1 : x.kind = 1
    · simp only [if_pos hk1] at hk ⊢
      refine fin _ ?_
      rcases prod_of (a := m) (b := totI x) (by omega) (hto2.2 hk1).1 with ⟨h1, -⟩ | ⟨h1, -⟩
      · rw [h1] at hk; cases hk
      · rw [h1, if_pos hk1]
    · simp only [if_neg hk1] at hk ⊢
      exact fin _ (by rw [if_neg hk1])

theorem minv_all {s : Stl} (hform : ∀ j, j < s.stages.length → formI s j = true) : ∀ {n : Nat} {me mu : List Int} {r : List Int × List Int}, n ≤ s.stages.length → MInv s n me mu → measN s n me mu = some r → MInv s 0 r.1 r.2
  | 0, me, mu, r, _, h, hr => by simp only [measN, Option.some.injEq] at hr; subst hr; exact h
  | i + 1, me, mu, r, hn, h, hr => by
    have hi : s.stages[i]? = some s.stages[i] := List.getElem?_eq_getElem (by omega)
    have hx : s.stages.getD i ⟨0, 0, []⟩ = s.stages[i] := by simp [List.getD, hi]
    simp only [measN, hx] at hr
    split at hr
    · rename_i hk
      exact minv_all hform (by omega) (minv_step hform hi h hk) hr
    · cases hr

structure MOk (m : Mch) : Prop where
  st : stPre m.s = true
  inv : MInv m.s 0 m.meas m.mult

theorem mok_of {s : Stl} {m : Mch} (h : machI s = some m) : MOk m ∧ m.s = s := by
  unfold machI at h
  split at h
  · rename_i hp
    obtain ⟨r, hr, e⟩ := Option.map_eq_some_iff.1 h
    subst e
    refine ⟨⟨hp, ?_⟩, rfl⟩
    refine minv_all (stPre_of hp).2.2.2.2 (Nat.le_refl _) ⟨by simp [zeros], by simp [zeros], fun j v hj hv => ?_, fun j x hj hx => ?_⟩ hr
    · have := (List.getElem?_eq_some_iff.1 hv).1
      simp [zeros] at this; omega
    · have := (List.getElem?_eq_some_iff.1 hx).1; omega
  · cases h

/-! ### Worths, stage by stage -/
def nextI (m : Mch) (i : Nat) (vals : List Int) (ts : List Trn) : List Int := ts.map fun t => vals.getD (Int.toNat t.to) 0 * Int.tdiv (m.mult.getD i 0) (m.meas.getD (Int.toNat t.to) 0)
def sumW : List Trn → List Int → Int
  | t :: ts, e :: es => t.w * e + sumW ts es
  | _, _ => 0
def valStep (m : Mch) (w : Int → Int) (ch : Int → List Int → Int) (i : Nat) (p : List Int × List Int) : List Int × List Int :=
  if (m.s.stages.getD i ⟨0, 0, []⟩).kind = 4 then (if (m.s.stages.getD i ⟨0, 0, []⟩).prize ≥ 0 then (p.1.set i (w (m.s.stages.getD i ⟨0, 0, []⟩).prize), p.2) else p)
  else if (m.s.stages.getD i ⟨0, 0, []⟩).kind = 1 then (p.1.set i (p.1.getD i 0 + sumW (m.s.stages.getD i ⟨0, 0, []⟩).turns (nextI m i p.1 (m.s.stages.getD i ⟨0, 0, []⟩).turns)), p.2)
  else (p.1.set i ((nextI m i p.1 (m.s.stages.getD i ⟨0, 0, []⟩).turns).getD (Int.toNat (ch i (nextI m i p.1 (m.s.stages.getD i ⟨0, 0, []⟩).turns))) 0), p.2.set i (ch i (nextI m i p.1 (m.s.stages.getD i ⟨0, 0, []⟩).turns)))
def valN (m : Mch) (w : Int → Int) (ch : Int → List Int → Int) : Nat → List Int × List Int → List Int × List Int
  | 0, p => p
  | i + 1, p => valN m w ch i (valStep m w ch i p)
def valA (m : Mch) (w : Int → Int) (ch : Int → List Int → Int) : List Int × List Int := valN m w ch m.s.stages.length (zeros m.s.stages.length, zeros m.s.stages.length)

structure VOk (m : Mch) (i : Nat) (p : List Int × List Int) : Prop where
  l1 : p.1.length = m.s.stages.length
  l2 : p.2.length = m.s.stages.length
  lo : ∀ j, j < i → p.1.getD j 0 = 0
  hi : ∀ j u, i ≤ j → m.meas[j]? = some u → 0 ≤ p.1.getD j 0 ∧ p.1.getD j 0 ≤ 10000 * u
  c0 : ∀ j, j < i → p.2.getD j 0 = 0

/-- What is won has a worth that is not too great, and who chooses names a turn. -/
structure WOk (m : Mch) (w : Int → Int) (ch : Int → List Int → Int) : Prop where
  w1 : ∀ n : Int, 0 ≤ n → n ≤ (m.s.worth.length : Int) - 1 → 0 ≤ w n ∧ w n ≤ 10000
  c1 : ∀ (i : Nat) (x : Stg) (l : List Int), m.s.stages[i]? = some x → x.kind ≠ 4 → x.kind ≠ 1 → l.length = x.turns.length → 0 < l.length → 0 ≤ ch i l ∧ Int.toNat (ch i l) < l.length

theorem sumW_bd : ∀ {ts : List Trn} {es : List Int} {B : Int}, (∀ e ∈ es, 0 ≤ e ∧ e ≤ B) → (∀ t ∈ ts, 0 ≤ t.w) → ts.length = es.length → 0 ≤ sumW ts es ∧ sumW ts es ≤ B * (ts.map (·.w)).sum
  | [], es, B, _, _, _ => by simp [sumW]
  | t :: ts, [], B, _, _, h => by simp at h
  | t :: ts, e :: es, B, he, ht, hl => by
    have h1 := he e (by simp)
    have h2 := ht t (by simp)
    have ih := sumW_bd (ts := ts) (es := es) (B := B) (fun x hx => he x (by simp [hx])) (fun x hx => ht x (by simp [hx])) (by simpa using hl)
    have h3 := Int.mul_nonneg h2 h1.1
    have h4 := Int.mul_le_mul_of_nonneg_left h1.2 h2
    have h5 : B * (t.w + (ts.map (·.w)).sum) = t.w * B + B * (ts.map (·.w)).sum := by rw [Int.mul_add, Int.mul_comm B]
    simp only [sumW, List.map_cons, List.sum_cons, h5]
    omega

theorem next_bd {m : Mch} (hm : MOk m) {i : Nat} {x : Stg} {p : List Int × List Int} (hi : m.s.stages[i]? = some x) (hp : VOk m (i + 1) p) {t : Trn} (ht : t ∈ x.turns) :
    ∃ q u, m.mult[i]? = some q ∧ m.meas[Int.toNat t.to]? = some u ∧ (0 < q ∧ q ≤ 1000000000000) ∧ (0 < u ∧ u ≤ 1000000000000) ∧ Int.tdiv q u * u = q ∧ 0 ≤ Int.tdiv q u ∧ Int.tdiv q u ≤ q ∧
      0 ≤ p.1.getD (Int.toNat t.to) 0 * Int.tdiv q u ∧ p.1.getD (Int.toNat t.to) 0 * Int.tdiv q u ≤ 10000 * q := by
  have hform := (stPre_of hm.st).2.2.2.2
  have hto := turns_to hi (hform i (List.getElem?_eq_some_iff.1 hi).1) t ht
  obtain ⟨q, q1, q2, q3, q4⟩ := hm.inv.rel i x (by omega) hi
  have hg : m.meas[Int.toNat t.to]? = some (m.meas[Int.toNat t.to]'(by rw [hm.inv.l1]; exact hto.2.1)) := List.getElem?_eq_getElem _
  have hd := q4 t ht
  have hb := hm.inv.pos _ _ (by omega) hg
  have hv := hp.hi _ _ (by omega) hg
  rw [show m.meas.getD (Int.toNat t.to) 0 = m.meas[Int.toNat t.to]'(by rw [hm.inv.l1]; exact hto.2.1) by simp [List.getD, hg]] at hd
  generalize m.meas[Int.toNat t.to]'(by rw [hm.inv.l1]; exact hto.2.1) = u at hg hd hb hv
  generalize p.1.getD (Int.toNat t.to) 0 = v at hv ⊢
  have e1 : Int.tdiv q u = q / u := Int.tdiv_eq_ediv_of_nonneg (by omega)
  have e2 := Int.ediv_le_self u (show (0 : Int) ≤ q by omega)
  have e3 := Int.ediv_nonneg (show (0 : Int) ≤ q by omega) (show 0 ≤ u by omega)
  have e4 : Int.tdiv q u * u = q := by rw [e1]; exact Int.ediv_mul_cancel hd
  refine ⟨q, u, q1, hg, q3, hb, e4, by omega, by omega, Int.mul_nonneg hv.1 (by omega), ?_⟩
  have h1 := Int.mul_le_mul_of_nonneg_right hv.2 (show 0 ≤ Int.tdiv q u by omega)
  have h2 : 10000 * u * Int.tdiv q u = 10000 * q := by rw [Int.mul_assoc, Int.mul_comm u, e4]
  omega

theorem next_all {m : Mch} (hm : MOk m) {i : Nat} {x : Stg} {p : List Int × List Int} (hi : m.s.stages[i]? = some x) (hp : VOk m (i + 1) p) {q : Int} (hq : m.mult[i]? = some q) : ∀ e ∈ nextI m i p.1 x.turns, 0 ≤ e ∧ e ≤ 10000 * q := fun e he => by
  obtain ⟨t, ht, rfl⟩ := List.mem_map.1 he
  obtain ⟨q', u, h1, h2, h3, h4, h5, h6, h7, h8, h9⟩ := next_bd hm hi hp ht
  rw [hq] at h1; cases h1
  rw [show m.mult.getD i 0 = q by simp [List.getD, hq], show m.meas.getD (Int.toNat t.to) 0 = u by simp [List.getD, h2]]
  exact ⟨h8, h9⟩

theorem sum_bd {m : Mch} (hm : MOk m) {i : Nat} {x : Stg} {p : List Int × List Int} (hi : m.s.stages[i]? = some x) (hp : VOk m (i + 1) p) (hk : x.kind = 1) {u : Int} (hu : m.meas[i]? = some u) :
    0 ≤ sumW x.turns (nextI m i p.1 x.turns) ∧ sumW x.turns (nextI m i p.1 x.turns) ≤ 10000 * u := by
  have hform := (stPre_of hm.st).2.2.2.2
  have hto := (tot_of hi (hform i (List.getElem?_eq_some_iff.1 hi).1)).1.2
  obtain ⟨q, q1, q2, q3, q4⟩ := hm.inv.rel i x (by omega) hi
  rw [hu, if_pos hk] at q2; cases q2
  have := sumW_bd (next_all hm hi hp q1) (fun t ht => (hto t ht).1) (by simp [nextI])
  rw [Int.mul_assoc] at this
  exact this

theorem getD_set_self {l : List Int} {i : Nat} {v : Int} (h : i < l.length) : (l.set i v).getD i 0 = v := by simp [List.getD, List.getElem?_set_self h]

theorem vok_set {m : Mch} {i : Nat} {p : List Int × List Int} {v c : Int} (hlt : i < m.s.stages.length) (hp : VOk m (i + 1) p) (h : ∀ u, m.meas[i]? = some u → 0 ≤ v ∧ v ≤ 10000 * u) : VOk m i (p.1.set i v, p.2.set i c) ∧ VOk m i (p.1.set i v, p.2) := by
  have hi : ∀ j u, i ≤ j → m.meas[j]? = some u → 0 ≤ (p.1.set i v).getD j 0 ∧ (p.1.set i v).getD j 0 ≤ 10000 * u := fun j u hj hu => by
    by_cases e : i = j
    · subst e; rw [getD_set_self (by rw [hp.l1]; exact hlt)]; exact h u hu
    · rw [getD_set_ne e]; exact hp.hi j u (by omega) hu
  have lo : ∀ j, j < i → (p.1.set i v).getD j 0 = 0 := fun j hj => by rw [getD_set_ne (by omega)]; exact hp.lo j (by omega)
  exact ⟨⟨by simp [hp.l1], by simp [hp.l2], lo, hi, fun j hj => by rw [getD_set_ne (by omega)]; exact hp.c0 j (by omega)⟩, ⟨by simp [hp.l1], hp.l2, lo, hi, fun j hj => hp.c0 j (by omega)⟩⟩

theorem vok_same {m : Mch} (hm : MOk m) {i : Nat} {p : List Int × List Int} (hp : VOk m (i + 1) p) : VOk m i p := by
  refine ⟨hp.l1, hp.l2, fun j hj => hp.lo j (by omega), fun j u hj hu => ?_, fun j hj => hp.c0 j (by omega)⟩
  by_cases e : i = j
  · subst e
    rw [hp.lo i (by omega)]
    have := (hm.inv.pos i u (by omega) hu).1
    omega
  · exact hp.hi j u (by omega) hu

theorem val_step {m : Mch} (hm : MOk m) {w : Int → Int} {ch : Int → List Int → Int} (hw : WOk m w ch) {i : Nat} {p : List Int × List Int} (hlt : i < m.s.stages.length) (hp : VOk m (i + 1) p) : VOk m i (valStep m w ch i p) := by
  have hform := (stPre_of hm.st).2.2.2.2
  have hi : m.s.stages[i]? = some m.s.stages[i] := List.getElem?_eq_getElem hlt
  have hx : m.s.stages.getD i ⟨0, 0, []⟩ = m.s.stages[i] := by simp [List.getD, hi]
  unfold valStep
  rw [hx]
  have hfo := form_of hi (hform i hlt)
  generalize m.s.stages[i] = x at hi hx hfo
  split
  · rename_i h4
    split
    · rename_i hpr
      rcases hfo with ⟨-, -, h3⟩ | ⟨h1, -⟩
      · refine (vok_set (c := 0) hlt hp fun u hu => ?_).2
        have h1 := hw.w1 x.prize hpr h3.2
        have h2 := (hm.inv.pos i u (by omega) hu).1
        omega
      · omega
    · exact vok_same hm hp
  · rename_i h4
    split
    · rename_i h1
      refine (vok_set (c := 0) hlt hp fun u hu => ?_).2
      have := sum_bd hm hi hp h1 hu
      rw [hp.lo i (by omega)]
      omega
    · rename_i h1
      refine (vok_set hlt hp fun u hu => ?_).1
      obtain ⟨q, q1, q2, q3, q4⟩ := hm.inv.rel i x (by omega) hi
      rw [hu, if_neg h1] at q2; cases q2
      have hl : (nextI m i p.1 x.turns).length = x.turns.length := by simp [nextI]
      have hpos : 0 < (nextI m i p.1 x.turns).length := by
        rcases hfo with ⟨h, -⟩ | ⟨-, -, h, -⟩
        · exact absurd h h4
        · omega
      have hc := hw.c1 i x _ hi h4 h1 hl hpos
      generalize ch i (nextI m i p.1 x.turns) = c at hc
      have hg : (nextI m i p.1 x.turns)[Int.toNat c]? = some (nextI m i p.1 x.turns)[Int.toNat c] := List.getElem?_eq_getElem hc.2
      have := next_all hm hi hp q1 _ (List.mem_of_getElem? hg)
      simpa [List.getD, hg] using this

theorem val_ok0 {m : Mch} (hm : MOk m) : VOk m m.s.stages.length (zeros m.s.stages.length, zeros m.s.stages.length) := by
  have hz : ∀ j, (zeros m.s.stages.length).getD j 0 = 0 := fun j => by
    simp only [zeros, List.getD, List.getElem?_replicate]
    split <;> rfl
  refine ⟨by simp [zeros], by simp [zeros], fun j _ => hz j, fun j u hj hu => ?_, fun j _ => hz j⟩
  have := (List.getElem?_eq_some_iff.1 hu).1
  rw [hm.inv.l1] at this; omega
theorem val_okN {m : Mch} (hm : MOk m) {w : Int → Int} {ch : Int → List Int → Int} (hw : WOk m w ch) : ∀ {n : Nat} {p : List Int × List Int}, n ≤ m.s.stages.length → VOk m n p → VOk m 0 (valN m w ch n p)
  | 0, p, _, h => h
  | i + 1, p, hn, h => (val_okN hm hw (n := i) (by omega) (val_step hm hw (by omega) h) : VOk m 0 (valN m w ch i (valStep m w ch i p)))
theorem val_okA {m : Mch} (hm : MOk m) {w : Int → Int} {ch : Int → List Int → Int} (hw : WOk m w ch) : VOk m 0 (valA m w ch) := val_okN hm hw (Nat.le_refl _) (val_ok0 hm)

/-! ### Choosers -/
theorem idxV_mem {l : List Int} {v : Int} (h : v ∈ l) : 0 ≤ idxV l v ∧ Int.toNat (idxV l v) < l.length ∧ l[Int.toNat (idxV l v)]? = some v ∧ ∀ j e, j < Int.toNat (idxV l v) → l[j]? = some e → e ≠ v := by
  unfold idxV idxG
  cases hf : l.findIdx? (fun e => decide (v = e)) with
  | none =>
    have := List.findIdx?_eq_none_iff.1 hf v h
    simp at this
  | some k =>
    obtain ⟨h1, h2, h3⟩ := List.findIdx?_eq_some_iff_getElem.1 hf
    simp only [Int.toNat_natCast]
    refine ⟨by omega, h1, ?_, fun j e hj he => ?_⟩
    · rw [List.getElem?_eq_getElem h1]
      have := of_decide_eq_true h2
      rw [this]
    · obtain ⟨h4, h5⟩ := List.getElem?_eq_some_iff.1 he
      have := h3 j hj
      rw [h5] at this
      intro h6
      simp [h6] at this
theorem maxF_mem : ∀ {l : List Int} {m : Int}, (maxF m l = m ∨ maxF m l ∈ l) ∧ m ≤ maxF m l ∧ ∀ e ∈ l, e ≤ maxF m l
  | [], m => by simp [maxF]
  | x :: l, m => by
    obtain ⟨h1, h2, h3⟩ := maxF_mem (l := l) (m := iMax m x)
    have hm : iMax m x = if x > m then x else m := rfl
    simp only [maxF]
    refine ⟨?_, by split at hm <;> omega, fun e he => ?_⟩
    · rcases h1 with h1 | h1
      · split at hm
        · right; rw [h1, hm]; simp
        · left; rw [h1, hm]
      · right; exact List.mem_cons_of_mem _ h1
    · rcases List.mem_cons.1 he with rfl | he
      · split at hm <;> omega
      · exact h3 e he
theorem minF_mem : ∀ {l : List Int} {m : Int}, (minF m l = m ∨ minF m l ∈ l) ∧ minF m l ≤ m ∧ ∀ e ∈ l, minF m l ≤ e
  | [], m => by simp [minF]
  | x :: l, m => by
    obtain ⟨h1, h2, h3⟩ := minF_mem (l := l) (m := iMin m x)
    have hm : iMin m x = if x < m then x else m := rfl
    simp only [minF]
    refine ⟨?_, by split at hm <;> omega, fun e he => ?_⟩
    · rcases h1 with h1 | h1
      · split at hm
        · right; rw [h1, hm]; simp
        · left; rw [h1, hm]
      · right; exact List.mem_cons_of_mem _ h1
    · rcases List.mem_cons.1 he with rfl | he
      · split at hm <;> omega
      · exact h3 e he
theorem maxI_mem {l : List Int} (h : 0 < l.length) : maxI l ∈ l ∧ ∀ e ∈ l, e ≤ maxI l := by
  cases l with
  | nil => simp at h
  | cons x l =>
    obtain ⟨h1, h2, h3⟩ := maxF_mem (l := l) (m := x)
    simp only [maxI, List.getD, List.getElem?_cons_zero, Option.getD_some, List.drop_succ_cons, List.drop_zero]
    refine ⟨?_, fun e he => ?_⟩
    · rcases h1 with h1 | h1
      · rw [h1]; simp
      · exact List.mem_cons_of_mem _ h1
    · rcases List.mem_cons.1 he with rfl | he
      · exact h2
      · exact h3 e he
theorem minI_mem {l : List Int} (h : 0 < l.length) : minI l ∈ l ∧ ∀ e ∈ l, minI l ≤ e := by
  cases l with
  | nil => simp at h
  | cons x l =>
    obtain ⟨h1, h2, h3⟩ := minF_mem (l := l) (m := x)
    simp only [minI, List.getD, List.getElem?_cons_zero, Option.getD_some, List.drop_succ_cons, List.drop_zero]
    refine ⟨?_, fun e he => ?_⟩
    · rcases h1 with h1 | h1
      · rw [h1]; simp
      · exact List.mem_cons_of_mem _ h1
    · rcases List.mem_cons.1 he with rfl | he
      · exact h2
      · exact h3 e he
theorem choose_in {m : Mch} {pa oa i : Int} {l : List Int} (h : 0 < l.length) : 0 ≤ chooseI m pa oa i l ∧ Int.toNat (chooseI m pa oa i l) < l.length := by
  unfold chooseI
  generalize (if (m.s.stages.getD (Int.toNat i) ⟨0, 0, []⟩).kind = 3 then oa else pa) = a
  split
  · have := idxV_mem (maxI_mem h).1; exact ⟨this.1, this.2.1⟩
  · have := idxV_mem (minI_mem h).1; exact ⟨this.1, this.2.1⟩

/-! ### Plans -/
def planMost (x : Stg) : Int := if x.kind = 2 ∨ x.kind = 3 then (x.turns.length : Int) - 1 else 0
def planOk (s : Stl) (l : List Int) : Bool := decide (l.length = s.stages.length) && (List.range l.length).all fun i => within (l.getD i 0) 0 (planMost (s.stages.getD i ⟨0, 0, []⟩))
theorem planOk_of {s : Stl} {l : List Int} (h : planOk s l = true) : l.length = s.stages.length ∧ ∀ (i : Nat) (x : Stg), s.stages[i]? = some x → ∃ v, l[i]? = some v ∧ 0 ≤ v ∧ v ≤ planMost x := by
  simp only [planOk, Bool.and_eq_true, decide_eq_true_eq] at h
  refine ⟨h.1, fun i x hx => ?_⟩
  have hlt := (List.getElem?_eq_some_iff.1 hx).1
  have := List.all_eq_true.1 h.2 i (List.mem_range.2 (by omega))
  have hg : l[i]? = some (l[i]'(by omega)) := List.getElem?_eq_getElem (by omega)
  have := within_iff.1 this
  rw [show l.getD i 0 = l[i]'(by omega) by simp [List.getD, hg], show s.stages.getD i ⟨0, 0, []⟩ = x by simp [List.getD, hx]] at this
  exact ⟨_, hg, this.1, this.2⟩

theorem wok_only {m : Mch} {kd pa oa : Int} : WOk m (onlyI kd) (chooseI m pa oa) :=
  ⟨fun n _ _ => by unfold onlyI; split <;> omega, fun i x l _ _ _ _ h => choose_in h⟩
theorem worth_ok {m : Mch} (hm : MOk m) : ∀ n : Int, 0 ≤ n → n ≤ (m.s.worth.length : Int) - 1 → 0 ≤ worthI m n ∧ worthI m n ≤ 10000 := fun n h1 h2 => by
  have hg : m.s.worth[Int.toNat n]? = some (m.s.worth[Int.toNat n]'(by omega)) := List.getElem?_eq_getElem (by omega)
  rw [show worthI m n = m.s.worth[Int.toNat n]'(by omega) by simp [worthI, List.getD, hg]]
  exact (stPre_of hm.st).2.2.1 _ (List.mem_of_getElem? hg)
theorem wok_worth {m : Mch} (hm : MOk m) {pa oa : Int} : WOk m (worthI m) (chooseI m pa oa) :=
  ⟨worth_ok hm, fun i x l _ _ _ _ h => choose_in h⟩
theorem plan_in {m : Mch} {plan : List Int} (hp : planOk m.s plan = true) : ∀ (i : Nat) (x : Stg) (l : List Int), m.s.stages[i]? = some x → x.kind ≠ 4 → x.kind ≠ 1 → l.length = x.turns.length → 0 < l.length → 0 ≤ planI plan i ∧ Int.toNat (planI plan i) < l.length := fun i x l hx h4 h1 hl h0 => by
  obtain ⟨v, hv, h2, h3⟩ := (planOk_of hp).2 i x hx
  have e : planI plan i = v := by simp [planI, List.getD, hv]
  rw [e]
  unfold planMost at h3
  split at h3 <;> omega
theorem wok_plan {m : Mch} {kd : Int} {plan : List Int} (hp : planOk m.s plan = true) : WOk m (onlyI kd) (fun i _ => planI plan i) :=
  ⟨fun n _ _ => by unfold onlyI; split <;> omega, plan_in hp⟩

theorem getD_some {l : List Int} {i : Nat} (h : i < l.length) : l[i]? = some (l.getD i 0) := by
  have hg : l[i]? = some l[i] := List.getElem?_eq_getElem h
  simp [List.getD, hg]
theorem getD_of {l : List Int} {i : Nat} {v : Int} (h : l[i]? = some v) : l.getD i 0 = v := by simp [List.getD, h]
theorem next_snoc {m : Mch} {i : Nat} {v : List Int} {l : List Trn} {k : Nat} {t : Trn} (h : l[k]? = some t) :
    nextI m i v (l.take (k + 1)) = nextI m i v (l.take k) ++ [v.getD (Int.toNat t.to) 0 * Int.tdiv (m.mult.getD i 0) (m.meas.getD (Int.toNat t.to) 0)] := by
  rw [List.take_add_one, h]
  simp [nextI]
theorem set_same {l : List Int} {i : Nat} {v : Int} (h : l[i]? = some v) : l.set i v = l := by
  apply List.ext_getElem?
  intro j
  by_cases e : i = j
  · subst e; rw [List.getElem?_set_self (List.getElem?_eq_some_iff.1 h).1, h]
  · rw [List.getElem?_set_ne e]
theorem f83ob : Try.f83.body = some (bodyAt Try.prog 83) := by kernel_rfl
def f83oK0 (P : Program) : List Item := kAt 400 [.code (bodyAt P 83)] [.stop]
def f83oS0  (m : Mch) (kd pa oa : Int) (v0 : List Int) (v1 : List Int) (i : Int) (g0 : Nat) (g1 : Nat) : St := ⟨[.rptr [.rsl (rowStg m.s.stages) 0 m.s.stages.length, .rsl (rowI m.s.worth) 0 m.s.worth.length, .int .i64 m.s.price, .rsl (rowI m.meas) 0 m.meas.length, .rsl (rowI m.mult) 0 m.mult.length] 0, .clos 113 [] [.rptr [.int .i64 kd] 0], .clos 114 [] [.rptr [.int .i64 pa] 0, .rptr [.rptr [.rsl (rowStg m.s.stages) 0 m.s.stages.length, .rsl (rowI m.s.worth) 0 m.s.worth.length, .int .i64 m.s.price, .rsl (rowI m.meas) 0 m.meas.length, .rsl (rowI m.mult) 0 m.mult.length] 0] 0, .rptr [.int .i64 oa] 0], J, J, J, .sl 0 g0 0 v0.length 1, .sl 1 g1 0 v1.length 1, .int .i64 i, J, J, J, J, J, J, J, J, J, J, J, J, J, J, J, J, J, J, J, J, J, J, J, J, J, J, J, J, J, J, J, J, J, J, J, J, J, J, J, J, J, J, J, J, J, J, J, J, J, J, J, J, J, J, J, J, J, J, J, J, J, J, J, J, J, J, J, J, J, J, J, J, J, J, J, J, J, J, J, J, J, J, J, J, J, J, J, J, J, J, J, J, J, J, J, J, J, J, J, J, J, J, J, J, J, J, J, J, J, J, J, J, J, J, J, J, J, J, J, J, J, J, J, J, J, J, J, J, J], [⟨true, g0, 1, true, (rowI v0), true⟩, ⟨true, g1, 1, true, (rowI v1), true⟩]⟩
def f83oG0 (E : Env)  (m : Mch) (kd pa oa : Int) (v0 : List Int) (v1 : List Int) (i : Int) : Prop := ∀ g0 g1 : Nat, G Try.prog E (f83oK0 Try.prog) (f83oS0 m kd pa oa v0 v1 i g0 g1)
def f83oK1 (P : Program) : List Item := kAt 400 [.code (bodyAt P 83)] [.b true, .b false, .stop]
def f83oS1  (m : Mch) (kd pa oa : Int) (i : Int) (k : (List Trn)) (k1 : Nat) (v0 : List Int) (v1 : List Int) (v2_0 : Int) (v2_1 : Int) (v2_2 : (List Trn)) (k11 : Nat) (v3 : List Int) (g0 : Nat) (g1 : Nat) (g3 : Nat) : St := ⟨[.rptr [.rsl (rowStg m.s.stages) 0 m.s.stages.length, .rsl (rowI m.s.worth) 0 m.s.worth.length, .int .i64 m.s.price, .rsl (rowI m.meas) 0 m.meas.length, .rsl (rowI m.mult) 0 m.mult.length] 0, .clos 113 [] [.rptr [.int .i64 kd] 0], .clos 114 [] [.rptr [.int .i64 pa] 0, .rptr [.rptr [.rsl (rowStg m.s.stages) 0 m.s.stages.length, .rsl (rowI m.s.worth) 0 m.s.worth.length, .int .i64 m.s.price, .rsl (rowI m.meas) 0 m.meas.length, .rsl (rowI m.mult) 0 m.mult.length] 0] 0, .rptr [.int .i64 oa] 0], J, J, J, .sl 0 g0 0 v0.length 1, .sl 1 g1 0 v1.length 1, .int .i64 i, .ptr 2 0 0, .sl 3 g3 0 v3.length 1, J, J, J, J, J, J, J, J, J, J, J, J, J, J, J, J, J, J, J, J, J, J, J, J, J, J, J, J, J, J, J, J, J, J, J, J, J, J, J, J, J, J, J, J, J, J, J, J, J, J, J, .rsl (rowTrn k) 0 k.length, .int .i64 (k1 : Int), .int .i64 (k11 : Int), J, J, J, J, J, J, J, J, J, J, J, J, J, J, J, J, J, J, J, J, J, J, J, J, J, J, J, J, J, J, J, J, J, J, J, J, J, J, J, J, J, J, J, J, J, J, J, J, J, J, J, J, J, J, J, J, J, J, J, J, J, J, J, J, J, J, J, J, J, J, J, J, J], [⟨true, g0, 1, true, (rowI v0), true⟩, ⟨true, g1, 1, true, (rowI v1), true⟩, ⟨true, 0, 1, true, [.int .i64 v2_0, .int .i64 v2_1, .rsl (rowTrn v2_2) 0 v2_2.length], false⟩, ⟨true, g3, 1, true, (rowI v3), true⟩]⟩
def f83oG1 (E : Env)  (m : Mch) (kd pa oa : Int) (i : Int) (k : (List Trn)) (k1 : Nat) (v0 : List Int) (v1 : List Int) (v2_0 : Int) (v2_1 : Int) (v2_2 : (List Trn)) (k11 : Nat) (v3 : List Int) : Prop := ∀ g0 g1 g3 : Nat, G Try.prog E (f83oK1 Try.prog) (f83oS1 m kd pa oa i k k1 v0 v1 v2_0 v2_1 v2_2 k11 v3 g0 g1 g3)
def f83oK2 (P : Program) : List Item := kAt 400 [.code (bodyAt P 83)] [.b true, .b false, .b false, .b true, .stop]
def f83oS2  (m : Mch) (kd pa oa : Int) (i : Int) (j : (List Trn)) (j1 : Nat) (v0 : List Int) (v1 : List Int) (v2_0 : Int) (v2_1 : Int) (v2_2 : (List Trn)) (v3 : List Int) (j11 : Nat) (g0 : Nat) (g1 : Nat) (g3 : Nat) : St := ⟨[.rptr [.rsl (rowStg m.s.stages) 0 m.s.stages.length, .rsl (rowI m.s.worth) 0 m.s.worth.length, .int .i64 m.s.price, .rsl (rowI m.meas) 0 m.meas.length, .rsl (rowI m.mult) 0 m.mult.length] 0, .clos 113 [] [.rptr [.int .i64 kd] 0], .clos 114 [] [.rptr [.int .i64 pa] 0, .rptr [.rptr [.rsl (rowStg m.s.stages) 0 m.s.stages.length, .rsl (rowI m.s.worth) 0 m.s.worth.length, .int .i64 m.s.price, .rsl (rowI m.meas) 0 m.meas.length, .rsl (rowI m.mult) 0 m.mult.length] 0] 0, .rptr [.int .i64 oa] 0], J, J, J, .sl 0 g0 0 v0.length 1, .sl 1 g1 0 v1.length 1, .int .i64 i, J, .sl 3 g3 0 v3.length 1, J, J, J, J, J, J, J, J, J, J, J, J, J, J, J, J, J, J, J, J, J, J, J, J, J, J, J, J, J, J, J, J, J, J, J, J, J, J, J, J, J, J, J, J, J, J, J, J, J, J, J, J, J, J, J, J, J, J, J, J, J, J, J, J, J, J, J, J, J, J, J, J, J, J, J, J, J, J, J, J, J, J, J, J, J, J, J, .rsl (rowTrn j) 0 j.length, .int .i64 (j1 : Int), .int .i64 (j11 : Int), J, J, J, J, J, J, J, J, J, J, J, J, J, J, J, J, J, J, J, J, J, J, J, J, J, J, J, J, J, J, J, J, J, J, J, J, J], [⟨true, g0, 1, true, (rowI v0), true⟩, ⟨true, g1, 1, true, (rowI v1), true⟩, ⟨true, 0, 1, true, [.int .i64 v2_0, .int .i64 v2_1, .rsl (rowTrn v2_2) 0 v2_2.length], false⟩, ⟨true, g3, 1, true, (rowI v3), true⟩]⟩
def f83oG2 (E : Env)  (m : Mch) (kd pa oa : Int) (i : Int) (j : (List Trn)) (j1 : Nat) (v0 : List Int) (v1 : List Int) (v2_0 : Int) (v2_1 : Int) (v2_2 : (List Trn)) (v3 : List Int) (j11 : Nat) : Prop := ∀ g0 g1 g3 : Nat, G Try.prog E (f83oK2 Try.prog) (f83oS2 m kd pa oa i j j1 v0 v1 v2_0 v2_1 v2_2 v3 j11 g0 g1 g3)
theorem p83o_start_0  (m : Mch) (kd pa oa : Int)   {E : Env} {rv : AV} (hE : PureE Try.prog 83 rv E) (ho : AllP [0 ≤ (m.s.stages.length : Int) ∧ (m.s.stages.length : Int) ≤ (m.s.stages.length : Int) ∧ (m.s.stages.length : Int) ≤ 2147483648, 0 ≤ (m.s.stages.length : Int) ∧ (m.s.stages.length : Int) ≤ (m.s.stages.length : Int) ∧ (m.s.stages.length : Int) ≤ 2147483648, InR .i64 ((m.s.stages.length : Int) - 1)])
    (hg : G Try.prog E (f83oK0 Try.prog) ⟨[.rptr [.rsl (rowStg m.s.stages) 0 m.s.stages.length, .rsl (rowI m.s.worth) 0 m.s.worth.length, .int .i64 m.s.price, .rsl (rowI m.meas) 0 m.meas.length, .rsl (rowI m.mult) 0 m.mult.length] 0, .clos 113 [] [.rptr [.int .i64 kd] 0], .clos 114 [] [.rptr [.int .i64 pa] 0, .rptr [.rptr [.rsl (rowStg m.s.stages) 0 m.s.stages.length, .rsl (rowI m.s.worth) 0 m.s.worth.length, .int .i64 m.s.price, .rsl (rowI m.meas) 0 m.meas.length, .rsl (rowI m.mult) 0 m.mult.length] 0] 0, .rptr [.int .i64 oa] 0], J, J, J, .sl 0 0 0 (Int.toNat (m.s.stages.length : Int)) 1, .sl 1 0 0 (Int.toNat (m.s.stages.length : Int)) 1, .int .i64 ((m.s.stages.length : Int) - 1), J, J, J, J, J, J, J, J, J, J, J, J, J, J, J, J, J, J, J, J, J, J, J, J, J, J, J, J, J, J, J, J, J, J, J, J, J, J, J, J, J, J, J, J, J, J, J, J, J, J, J, J, J, J, J, J, J, J, J, J, J, J, J, J, J, J, J, J, J, J, J, J, J, J, J, J, J, J, J, J, J, J, J, J, J, J, J, J, J, J, J, J, J, J, J, J, J, J, J, J, J, J, J, J, J, J, J, J, J, J, J, J, J, J, J, J, J, J, J, J, J, J, J, J, J, J, J, J, J], [⟨true, 0, 1, true, ((List.replicate (Int.toNat (m.s.stages.length : Int)) ([.int .i64 0] : List AV)).flatten), true⟩, ⟨true, 0, 1, true, ((List.replicate (Int.toNat (m.s.stages.length : Int)) ([.int .i64 0] : List AV)).flatten), true⟩]⟩) : G Try.prog E [.code (bodyAt Try.prog 83)] ⟨[.rptr [.rsl (rowStg m.s.stages) 0 m.s.stages.length, .rsl (rowI m.s.worth) 0 m.s.worth.length, .int .i64 m.s.price, .rsl (rowI m.meas) 0 m.meas.length, .rsl (rowI m.mult) 0 m.mult.length] 0, .clos 113 [] [.rptr [.int .i64 kd] 0], .clos 114 [] [.rptr [.int .i64 pa] 0, .rptr [.rptr [.rsl (rowStg m.s.stages) 0 m.s.stages.length, .rsl (rowI m.s.worth) 0 m.s.worth.length, .int .i64 m.s.price, .rsl (rowI m.meas) 0 m.meas.length, .rsl (rowI m.mult) 0 m.mult.length] 0] 0, .rptr [.int .i64 oa] 0]] ++ unds (Try.f83.ntmps - 3), []⟩ :=
  segC_step (n := 400) (ds := []) (cs := []) (live := [0, 1, 2, 6, 7, 8]) (m := 2) (evs := [.stop]) (obs := _) hE.2.1 (hE.nogh _) mixed (by kernel_rfl) ho hg
theorem f83oW  (m : Mch) (kd pa oa : Int) {E : Env} {rv : ((List Int) × (List Int))} (hE : PureE Try.prog 83 (.tup [.rsl (rowI rv.1) 0 rv.1.length, .rsl (rowI rv.2) 0 rv.2.length]) E)
    (h : (m.s.stages.length ≤ 2147483648 ∧ (m.s.stages.length ≤ 2147483648 ∧ ((-9223372036854775808 ≤ (m.s.stages.length : Int) - 1 ∧ (m.s.stages.length : Int) - 1 ≤ 9223372036854775807) ∧ f83oG0 E m kd pa oa (List.replicate m.s.stages.length (0 : Int)) (List.replicate m.s.stages.length (0 : Int)) ((m.s.stages.length : Int) - 1))))) : G Try.prog E [.code (bodyAt Try.prog 83)] ⟨[.rptr [.rsl (rowStg m.s.stages) 0 m.s.stages.length, .rsl (rowI m.s.worth) 0 m.s.worth.length, .int .i64 m.s.price, .rsl (rowI m.meas) 0 m.meas.length, .rsl (rowI m.mult) 0 m.mult.length] 0, .clos 113 [] [.rptr [.int .i64 kd] 0], .clos 114 [] [.rptr [.int .i64 pa] 0, .rptr [.rptr [.rsl (rowStg m.s.stages) 0 m.s.stages.length, .rsl (rowI m.s.worth) 0 m.s.worth.length, .int .i64 m.s.price, .rsl (rowI m.meas) 0 m.meas.length, .rsl (rowI m.mult) 0 m.mult.length] 0] 0, .rptr [.int .i64 oa] 0]] ++ unds (Try.f83.ntmps - 3), []⟩ := by
  obtain ⟨h1, h⟩ := h
  obtain ⟨h2, h⟩ := h
  obtain ⟨q2_0, h⟩ := h
  refine p83o_start_0 m kd pa oa    hE ⟨⟨by omega, by omega, by have := h1; omega⟩, ⟨by omega, by omega, by have := h2; omega⟩, q2_0, trivial⟩ ?_
  have h := (h 0 0)
  simp only [f83oG0, f83oS0, List.length_set, List.length_replicate] at h
  rw [(show (List.replicate (Int.toNat (m.s.stages.length : Int)) ([.int .i64 0] : List AV)).flatten = rowI (List.replicate m.s.stages.length (0 : Int)) from row_rep cI _ _)]
  exact h
theorem p83o_0_0  (m : Mch) (kd pa oa : Int) (v0 : List Int) (v1 : List Int) (i : Int) (g0 : Nat) (g1 : Nat) (se : Stg) (e : Int)  {E : Env} {rv : AV} (hE : PureE Try.prog 83 rv E) (ho : AllP [(decide (i ≥ 0)) = true, 0 ≤ i ∧ i < (m.s.stages.length : Int), ((rowStg m.s.stages).drop (0 + (Int.toNat i) * 3)).take 3 = [.int .i64 se.kind, .int .i64 se.prize, .rsl (rowTrn se.turns) 0 se.turns.length], 3 ≤ 3, (se.kind == 4) = true, (decide (se.prize ≥ 0)) = true, PureF Try.prog (.clos 113 [] [.rptr [.int .i64 kd] 0]) [.int .i64 se.prize] (.int .i64 (onlyI kd se.prize)), 0 ≤ i ∧ i < (v0.length : Int), g0 = g0, ((0 + (Int.toNat i) * 1) + 1) ≤ (rowI v0).length, g0 = g0, InR .i64 (i - 1)])
    (hg : G Try.prog E (f83oK0 Try.prog) ⟨[.rptr [.rsl (rowStg m.s.stages) 0 m.s.stages.length, .rsl (rowI m.s.worth) 0 m.s.worth.length, .int .i64 m.s.price, .rsl (rowI m.meas) 0 m.meas.length, .rsl (rowI m.mult) 0 m.mult.length] 0, .clos 113 [] [.rptr [.int .i64 kd] 0], .clos 114 [] [.rptr [.int .i64 pa] 0, .rptr [.rptr [.rsl (rowStg m.s.stages) 0 m.s.stages.length, .rsl (rowI m.s.worth) 0 m.s.worth.length, .int .i64 m.s.price, .rsl (rowI m.meas) 0 m.meas.length, .rsl (rowI m.mult) 0 m.mult.length] 0] 0, .rptr [.int .i64 oa] 0], J, J, J, .sl 0 g0 0 v0.length 1, .sl 1 g1 0 v1.length 1, .int .i64 (i - 1), J, J, J, J, J, J, J, J, J, J, J, J, J, J, J, J, J, J, J, J, J, J, J, J, J, J, J, J, J, J, J, J, J, J, J, J, J, J, J, J, J, J, J, J, J, J, J, J, J, J, J, J, J, J, J, J, J, J, J, J, J, J, J, J, J, J, J, J, J, J, J, J, J, J, J, J, J, J, J, J, J, J, J, J, J, J, J, J, J, J, J, J, J, J, J, J, J, J, J, J, J, J, J, J, J, J, J, J, J, J, J, J, J, J, J, J, J, J, J, J, J, J, J, J, J, J, J, J, J], [⟨true, g0, 1, true, (setAt (rowI v0) (0 + (Int.toNat i) * 1) [.int .i64 (onlyI kd se.prize)]), true⟩, ⟨true, g1, 1, true, (rowI v1), true⟩]⟩) : G Try.prog E (f83oK0 Try.prog) (f83oS0 m kd pa oa v0 v1 i g0 g1) :=
  segC_step (n := 400) (ds := []) (cs := []) (live := [0, 1, 2, 6, 7, 8]) (m := 2) (evs := [.b true, .auto, .ld (.agg [.int .i64 se.kind, .int .i64 se.prize, .rsl (rowTrn se.turns) 0 se.turns.length]), .b true, .b true, .v (.int .i64 (onlyI kd se.prize)), .stop]) (obs := _) hE.2.1 (hE.nogh _) mixed (by kernel_rfl) ho hg
theorem p83o_0_1  (m : Mch) (kd pa oa : Int) (v0 : List Int) (v1 : List Int) (i : Int) (g0 : Nat) (g1 : Nat) (se : Stg)  {E : Env} {rv : AV} (hE : PureE Try.prog 83 rv E) (ho : AllP [(decide (i ≥ 0)) = true, 0 ≤ i ∧ i < (m.s.stages.length : Int), ((rowStg m.s.stages).drop (0 + (Int.toNat i) * 3)).take 3 = [.int .i64 se.kind, .int .i64 se.prize, .rsl (rowTrn se.turns) 0 se.turns.length], 3 ≤ 3, (se.kind == 4) = true, (decide (se.prize ≥ 0)) = false, InR .i64 (i - 1)])
    (hg : G Try.prog E (f83oK0 Try.prog) ⟨[.rptr [.rsl (rowStg m.s.stages) 0 m.s.stages.length, .rsl (rowI m.s.worth) 0 m.s.worth.length, .int .i64 m.s.price, .rsl (rowI m.meas) 0 m.meas.length, .rsl (rowI m.mult) 0 m.mult.length] 0, .clos 113 [] [.rptr [.int .i64 kd] 0], .clos 114 [] [.rptr [.int .i64 pa] 0, .rptr [.rptr [.rsl (rowStg m.s.stages) 0 m.s.stages.length, .rsl (rowI m.s.worth) 0 m.s.worth.length, .int .i64 m.s.price, .rsl (rowI m.meas) 0 m.meas.length, .rsl (rowI m.mult) 0 m.mult.length] 0] 0, .rptr [.int .i64 oa] 0], J, J, J, .sl 0 g0 0 v0.length 1, .sl 1 g1 0 v1.length 1, .int .i64 (i - 1), J, J, J, J, J, J, J, J, J, J, J, J, J, J, J, J, J, J, J, J, J, J, J, J, J, J, J, J, J, J, J, J, J, J, J, J, J, J, J, J, J, J, J, J, J, J, J, J, J, J, J, J, J, J, J, J, J, J, J, J, J, J, J, J, J, J, J, J, J, J, J, J, J, J, J, J, J, J, J, J, J, J, J, J, J, J, J, J, J, J, J, J, J, J, J, J, J, J, J, J, J, J, J, J, J, J, J, J, J, J, J, J, J, J, J, J, J, J, J, J, J, J, J, J, J, J, J, J, J], [⟨true, g0, 1, true, (rowI v0), true⟩, ⟨true, g1, 1, true, (rowI v1), true⟩]⟩) : G Try.prog E (f83oK0 Try.prog) (f83oS0 m kd pa oa v0 v1 i g0 g1) :=
  segC_step (n := 400) (ds := []) (cs := []) (live := [0, 1, 2, 6, 7, 8]) (m := 2) (evs := [.b true, .auto, .ld (.agg [.int .i64 se.kind, .int .i64 se.prize, .rsl (rowTrn se.turns) 0 se.turns.length]), .b true, .b false, .stop]) (obs := _) hE.2.1 (hE.nogh _) mixed (by kernel_rfl) ho hg
theorem p83o_0_2  (m : Mch) (kd pa oa : Int) (v0 : List Int) (v1 : List Int) (i : Int) (g0 : Nat) (g1 : Nat) (se : Stg)  {E : Env} {rv : AV} (hE : PureE Try.prog 83 rv E) (ho : AllP [(decide (i ≥ 0)) = true, 0 ≤ i ∧ i < (m.s.stages.length : Int), ((rowStg m.s.stages).drop (0 + (Int.toNat i) * 3)).take 3 = [.int .i64 se.kind, .int .i64 se.prize, .rsl (rowTrn se.turns) 0 se.turns.length], 3 ≤ 3, (se.kind == 4) = false])
    (hg : G Try.prog E (f83oK1 Try.prog) ⟨[.rptr [.rsl (rowStg m.s.stages) 0 m.s.stages.length, .rsl (rowI m.s.worth) 0 m.s.worth.length, .int .i64 m.s.price, .rsl (rowI m.meas) 0 m.meas.length, .rsl (rowI m.mult) 0 m.mult.length] 0, .clos 113 [] [.rptr [.int .i64 kd] 0], .clos 114 [] [.rptr [.int .i64 pa] 0, .rptr [.rptr [.rsl (rowStg m.s.stages) 0 m.s.stages.length, .rsl (rowI m.s.worth) 0 m.s.worth.length, .int .i64 m.s.price, .rsl (rowI m.meas) 0 m.meas.length, .rsl (rowI m.mult) 0 m.mult.length] 0] 0, .rptr [.int .i64 oa] 0], J, J, J, .sl 0 g0 0 v0.length 1, .sl 1 g1 0 v1.length 1, .int .i64 i, .ptr 2 0 0, .sl 3 0 0 0 1, J, J, J, J, J, J, J, J, J, J, J, J, J, J, J, J, J, J, J, J, J, J, J, J, J, J, J, J, J, J, J, J, J, J, J, J, J, J, J, J, J, J, J, J, J, J, J, J, J, J, J, .rsl (rowTrn se.turns) 0 se.turns.length, .int .i64 (se.turns.length : Int), .int .i64 0, J, J, J, J, J, J, J, J, J, J, J, J, J, J, J, J, J, J, J, J, J, J, J, J, J, J, J, J, J, J, J, J, J, J, J, J, J, J, J, J, J, J, J, J, J, J, J, J, J, J, J, J, J, J, J, J, J, J, J, J, J, J, J, J, J, J, J, J, J, J, J, J, J], [⟨true, g0, 1, true, (rowI v0), true⟩, ⟨true, g1, 1, true, (rowI v1), true⟩, ⟨true, 0, 1, true, [.int .i64 se.kind, .int .i64 se.prize, .rsl (rowTrn se.turns) 0 se.turns.length], false⟩, ⟨true, 0, 1, true, [], true⟩]⟩) : G Try.prog E (f83oK0 Try.prog) (f83oS0 m kd pa oa v0 v1 i g0 g1) :=
  segC_step (n := 400) (ds := [(10, 1)]) (cs := []) (live := [0, 1, 2, 6, 7, 8, 9, 10, 62, 63, 64]) (m := 4) (evs := [.b true, .auto, .ld (.agg [.int .i64 se.kind, .int .i64 se.prize, .rsl (rowTrn se.turns) 0 se.turns.length]), .b false, .stop]) (obs := _) hE.2.1 (hE.nogh _) mixed (by kernel_rfl) ho hg
theorem p83o_0_3  (m : Mch) (kd pa oa : Int) (v0 : List Int) (v1 : List Int) (i : Int) (g0 : Nat) (g1 : Nat)  {E : Env} {res : AV} (hE : PureE Try.prog 83 res E) (ho : AllP [(decide (i ≥ 0)) = false, g0 = g0, g1 = g1])
    (hr : AvLe (.tup [.rsl (rowI v0) 0 v0.length, .rsl (rowI v1) 0 v1.length]) res) : G Try.prog E (f83oK0 Try.prog) (f83oS0 m kd pa oa v0 v1 i g0 g1) :=
  end_stepL (n := 400) (evs := [.b false]) (obs := _) hE Try.func83 mixed (by kernel_rfl) ho hr
theorem f83oW0  (m : Mch) (kd pa oa : Int) (v0 : List Int) (v1 : List Int) (i : Int) {E : Env} {rv : ((List Int) × (List Int))} (hE : PureE Try.prog 83 (.tup [.rsl (rowI rv.1) 0 rv.1.length, .rsl (rowI rv.2) 0 rv.2.length]) E)
    (h : ((i ≥ 0 → (0 ≤ i ∧ (∃ se : Stg, m.s.stages[Int.toNat i]? = some se ∧ ((se.kind = 4 → ((se.prize ≥ 0 → (0 ≤ i ∧ (∃ e : Int, v0[Int.toNat i]? = some e ∧ ((-9223372036854775808 ≤ i - 1 ∧ i - 1 ≤ 9223372036854775807) ∧ f83oG0 E m kd pa oa (v0.set (Int.toNat i) (onlyI kd se.prize)) v1 (i - 1))))) ∧ (¬ (se.prize ≥ 0) → ((-9223372036854775808 ≤ i - 1 ∧ i - 1 ≤ 9223372036854775807) ∧ f83oG0 E m kd pa oa v0 v1 (i - 1))))) ∧ (¬ (se.kind = 4) → f83oG1 E m kd pa oa i se.turns se.turns.length v0 v1 se.kind se.prize se.turns 0 ([])))))) ∧ (¬ (i ≥ 0) → rv = (v0, v1)))) : f83oG0 E m kd pa oa v0 v1 i := by
  intro g0 g1
  rcases Bool.eq_false_or_eq_true (decide (i ≥ 0)) with hc0 | hc0
  · have h := h.1 (of_decide_eq_true hc0)
    obtain ⟨h2, h⟩ := h
    obtain ⟨se, h1, h⟩ := h
    rcases Bool.eq_false_or_eq_true (se.kind == 4) with hc1 | hc1
    · have h := h.1 (eq_of_beq hc1)
      rcases Bool.eq_false_or_eq_true (decide (se.prize ≥ 0)) with hc2 | hc2
      · have h := h.1 (of_decide_eq_true hc2)
        obtain ⟨h4, h⟩ := h
        obtain ⟨e, h3, h⟩ := h
        obtain ⟨q13_3, h⟩ := h
        refine p83o_0_0 m kd pa oa v0 v1 i g0 g1 se e hE ⟨hc0, (idx_ok' h2 h1), (row_part cStg (s := 3) (k := 0) (m := 3) (fun _ => rfl) (by decide) h1), (by decide), hc1, hc2, (pureF_of Try.func113 (by kernel_rfl) f113b (only_ok se.prize kd)), (idx_ok' h4 h3), rfl, (row_fits cI (s := 1) (k := 0) (m := 1) (fun _ => rfl) (by decide) h3), rfl, q13_3, trivial⟩ ?_
        have h := (h g0 g1)
        simp only [f83oS0, List.length_set] at h
        rw [(show setAt (rowI v0) (0 + (Int.toNat i) * 1) [.int .i64 (onlyI kd se.prize)] = rowI (v0.set (Int.toNat i) (onlyI kd se.prize)) from row_set cI (s := 1) (k := 0) (fun _ => rfl) h3 rfl (by first | decide | simp))]
        exact h
      · have h := h.2 (of_decide_eq_false hc2)
        obtain ⟨q7_3, h⟩ := h
        exact p83o_0_1 m kd pa oa v0 v1 i g0 g1 se hE ⟨hc0, (idx_ok' h2 h1), (row_part cStg (s := 3) (k := 0) (m := 3) (fun _ => rfl) (by decide) h1), (by decide), hc1, hc2, q7_3, trivial⟩ (h g0 g1)
    · have h := h.2 (ne_of_beq_false hc1)
      exact p83o_0_2 m kd pa oa v0 v1 i g0 g1 se hE ⟨hc0, (idx_ok' h2 h1), (row_part cStg (s := 3) (k := 0) (m := 3) (fun _ => rfl) (by decide) h1), (by decide), hc1, trivial⟩ (h g0 g1 0)
  · have h := h.2 (of_decide_eq_false hc0)
    exact p83o_0_3 m kd pa oa v0 v1 i g0 g1  hE ⟨hc0, rfl, rfl, trivial⟩ (AvLe.of_eq (by rw [h]; try rfl))
theorem p83o_1_0  (m : Mch) (kd pa oa : Int) (i : Int) (k : (List Trn)) (k1 : Nat) (v0 : List Int) (v1 : List Int) (v2_0 : Int) (v2_1 : Int) (v2_2 : (List Trn)) (k11 : Nat) (v3 : List Int) (g0 : Nat) (g1 : Nat) (g3 : Nat) (te : Trn) (e : Int) (e1 : Int) (e2 : Int)  {E : Env} {rv : AV} (hE : PureE Try.prog 83 rv E) (ho : AllP [(decide ((k11 : Int) < (k1 : Int))) = true, 0 ≤ (k11 : Int) ∧ (k11 : Int) < (k.length : Int), ((rowTrn k).drop (0 + (Int.toNat (k11 : Int)) * 2)).take 2 = [.int .i64 te.w, .int .i64 te.to], 2 ≤ 2, 0 ≤ te.to ∧ te.to < (v0.length : Int), g0 = g0, g0 = g0, ((rowI v0).drop (0 + (Int.toNat te.to) * 1)).take 1 = [.int .i64 e], 0 ≤ i ∧ i < (m.mult.length : Int), ((rowI m.mult).drop (0 + (Int.toNat i) * 1)).take 1 = [.int .i64 e1], 0 ≤ te.to ∧ te.to < (m.meas.length : Int), ((rowI m.meas).drop (0 + (Int.toNat te.to) * 1)).take 1 = [.int .i64 e2], InR .i64 (Int.tdiv e1 e2), e2 ≠ 0, InR .i64 (e * (Int.tdiv e1 e2)), g3 = g3, (0 + (v3.length * 1)) = (rowI v3).length, (v3.length + 1) ≤ 2147483648, 0 = 0, InR .i64 ((k11 : Int) + 1)])
    (hg : G Try.prog E (f83oK1 Try.prog) ⟨[.rptr [.rsl (rowStg m.s.stages) 0 m.s.stages.length, .rsl (rowI m.s.worth) 0 m.s.worth.length, .int .i64 m.s.price, .rsl (rowI m.meas) 0 m.meas.length, .rsl (rowI m.mult) 0 m.mult.length] 0, .clos 113 [] [.rptr [.int .i64 kd] 0], .clos 114 [] [.rptr [.int .i64 pa] 0, .rptr [.rptr [.rsl (rowStg m.s.stages) 0 m.s.stages.length, .rsl (rowI m.s.worth) 0 m.s.worth.length, .int .i64 m.s.price, .rsl (rowI m.meas) 0 m.meas.length, .rsl (rowI m.mult) 0 m.mult.length] 0] 0, .rptr [.int .i64 oa] 0], J, J, J, .sl 0 g0 0 v0.length 1, .sl 1 g1 0 v1.length 1, .int .i64 i, .ptr 2 0 0, .sl 3 (g3 + 1) 0 (v3.length + 1) 1, J, J, J, J, J, J, J, J, J, J, J, J, J, J, J, J, J, J, J, J, J, J, J, J, J, J, J, J, J, J, J, J, J, J, J, J, J, J, J, J, J, J, J, J, J, J, J, J, J, J, J, .rsl (rowTrn k) 0 k.length, .int .i64 (k1 : Int), .int .i64 ((k11 : Int) + 1), J, J, J, J, J, J, J, J, J, J, J, J, J, J, J, J, J, J, J, J, J, J, J, J, J, J, J, J, J, J, J, J, J, J, J, J, J, J, J, J, J, J, J, J, J, J, J, J, J, J, J, J, J, J, J, J, J, J, J, J, J, J, J, J, J, J, J, J, J, J, J, J, J], [⟨true, g0, 1, true, (rowI v0), true⟩, ⟨true, g1, 1, true, (rowI v1), true⟩, ⟨true, 0, 1, true, [.int .i64 v2_0, .int .i64 v2_1, .rsl (rowTrn v2_2) 0 v2_2.length], false⟩, ⟨true, (g3 + 1), 1, true, ((rowI v3) ++ [.int .i64 (e * (Int.tdiv e1 e2))]), true⟩]⟩) : G Try.prog E (f83oK1 Try.prog) (f83oS1 m kd pa oa i k k1 v0 v1 v2_0 v2_1 v2_2 k11 v3 g0 g1 g3) :=
  segC_step (n := 400) (ds := []) (cs := []) (live := [0, 1, 2, 6, 7, 8, 9, 10, 62, 63, 64]) (m := 4) (evs := [.b true, .ld (.agg [.int .i64 te.w, .int .i64 te.to]), .auto, .ld (.int .i64 e), .auto, .ld (.int .i64 e1), .auto, .auto, .ld (.int .i64 e2), .stop]) (obs := _) hE.2.1 (hE.nogh _) mixed (by kernel_rfl) ho hg
theorem p83o_1_1  (m : Mch) (kd pa oa : Int) (i : Int) (k : (List Trn)) (k1 : Nat) (v0 : List Int) (v1 : List Int) (v2_0 : Int) (v2_1 : Int) (v2_2 : (List Trn)) (k11 : Nat) (v3 : List Int) (g0 : Nat) (g1 : Nat) (g3 : Nat)  {E : Env} {rv : AV} (hE : PureE Try.prog 83 rv E) (ho : AllP [(decide ((k11 : Int) < (k1 : Int))) = false, (v2_0 == 1) = true])
    (hg : G Try.prog E (f83oK2 Try.prog) ⟨[.rptr [.rsl (rowStg m.s.stages) 0 m.s.stages.length, .rsl (rowI m.s.worth) 0 m.s.worth.length, .int .i64 m.s.price, .rsl (rowI m.meas) 0 m.meas.length, .rsl (rowI m.mult) 0 m.mult.length] 0, .clos 113 [] [.rptr [.int .i64 kd] 0], .clos 114 [] [.rptr [.int .i64 pa] 0, .rptr [.rptr [.rsl (rowStg m.s.stages) 0 m.s.stages.length, .rsl (rowI m.s.worth) 0 m.s.worth.length, .int .i64 m.s.price, .rsl (rowI m.meas) 0 m.meas.length, .rsl (rowI m.mult) 0 m.mult.length] 0] 0, .rptr [.int .i64 oa] 0], J, J, J, .sl 0 g0 0 v0.length 1, .sl 1 g1 0 v1.length 1, .int .i64 i, J, .sl 3 g3 0 v3.length 1, J, J, J, J, J, J, J, J, J, J, J, J, J, J, J, J, J, J, J, J, J, J, J, J, J, J, J, J, J, J, J, J, J, J, J, J, J, J, J, J, J, J, J, J, J, J, J, J, J, J, J, J, J, J, J, J, J, J, J, J, J, J, J, J, J, J, J, J, J, J, J, J, J, J, J, J, J, J, J, J, J, J, J, J, J, J, J, .rsl (rowTrn v2_2) 0 v2_2.length, .int .i64 (v2_2.length : Int), .int .i64 0, J, J, J, J, J, J, J, J, J, J, J, J, J, J, J, J, J, J, J, J, J, J, J, J, J, J, J, J, J, J, J, J, J, J, J, J, J], [⟨true, g0, 1, true, (rowI v0), true⟩, ⟨true, g1, 1, true, (rowI v1), true⟩, ⟨true, 0, 1, true, [.int .i64 v2_0, .int .i64 v2_1, .rsl (rowTrn v2_2) 0 v2_2.length], false⟩, ⟨true, g3, 1, true, (rowI v3), true⟩]⟩) : G Try.prog E (f83oK1 Try.prog) (f83oS1 m kd pa oa i k k1 v0 v1 v2_0 v2_1 v2_2 k11 v3 g0 g1 g3) :=
  segC_step (n := 400) (ds := []) (cs := []) (live := [0, 1, 2, 6, 7, 8, 10, 98, 99, 100]) (m := 4) (evs := [.b false, .b true, .stop]) (obs := _) hE.2.1 (hE.nogh _) mixed (by kernel_rfl) ho hg
theorem p83o_1_2  (m : Mch) (kd pa oa : Int) (i : Int) (k : (List Trn)) (k1 : Nat) (v0 : List Int) (v1 : List Int) (v2_0 : Int) (v2_1 : Int) (v2_2 : (List Trn)) (k11 : Nat) (v3 : List Int) (g0 : Nat) (g1 : Nat) (g3 : Nat) (e : Int) (e1 : Int) (e2 : Int) (e3 : Int)  {E : Env} {rv : AV} (hE : PureE Try.prog 83 rv E) (ho : AllP [(decide ((k11 : Int) < (k1 : Int))) = false, (v2_0 == 1) = false, PureF Try.prog (.clos 114 [] [.rptr [.int .i64 pa] 0, .rptr [.rptr [.rsl (rowStg m.s.stages) 0 m.s.stages.length, .rsl (rowI m.s.worth) 0 m.s.worth.length, .int .i64 m.s.price, .rsl (rowI m.meas) 0 m.meas.length, .rsl (rowI m.mult) 0 m.mult.length] 0] 0, .rptr [.int .i64 oa] 0]) [.int .i64 i, .rsl (rowI v3) 0 v3.length] (.int .i64 (chooseI m pa oa i v3)), g3 = g3, 0 ≤ i ∧ i < (v1.length : Int), g1 = g1, ((0 + (Int.toNat i) * 1) + 1) ≤ (rowI v1).length, g1 = g1, 0 ≤ i ∧ i < (v1.length : Int), g1 = g1, g1 = g1, ((setAt (rowI v1) (0 + (Int.toNat i) * 1) [.int .i64 (chooseI m pa oa i v3)]).drop (0 + (Int.toNat i) * 1)).take 1 = [.int .i64 e1], 0 ≤ e1 ∧ e1 < (v3.length : Int), g3 = g3, g3 = g3, ((rowI v3).drop (0 + (Int.toNat e1) * 1)).take 1 = [.int .i64 e2], 0 ≤ i ∧ i < (v0.length : Int), g0 = g0, ((0 + (Int.toNat i) * 1) + 1) ≤ (rowI v0).length, g0 = g0, InR .i64 (i - 1)])
    (hg : G Try.prog E (f83oK0 Try.prog) ⟨[.rptr [.rsl (rowStg m.s.stages) 0 m.s.stages.length, .rsl (rowI m.s.worth) 0 m.s.worth.length, .int .i64 m.s.price, .rsl (rowI m.meas) 0 m.meas.length, .rsl (rowI m.mult) 0 m.mult.length] 0, .clos 113 [] [.rptr [.int .i64 kd] 0], .clos 114 [] [.rptr [.int .i64 pa] 0, .rptr [.rptr [.rsl (rowStg m.s.stages) 0 m.s.stages.length, .rsl (rowI m.s.worth) 0 m.s.worth.length, .int .i64 m.s.price, .rsl (rowI m.meas) 0 m.meas.length, .rsl (rowI m.mult) 0 m.mult.length] 0] 0, .rptr [.int .i64 oa] 0], J, J, J, .sl 0 g0 0 v0.length 1, .sl 1 g1 0 v1.length 1, .int .i64 (i - 1), J, J, J, J, J, J, J, J, J, J, J, J, J, J, J, J, J, J, J, J, J, J, J, J, J, J, J, J, J, J, J, J, J, J, J, J, J, J, J, J, J, J, J, J, J, J, J, J, J, J, J, J, J, J, J, J, J, J, J, J, J, J, J, J, J, J, J, J, J, J, J, J, J, J, J, J, J, J, J, J, J, J, J, J, J, J, J, J, J, J, J, J, J, J, J, J, J, J, J, J, J, J, J, J, J, J, J, J, J, J, J, J, J, J, J, J, J, J, J, J, J, J, J, J, J, J, J, J, J], [⟨true, g0, 1, true, (setAt (rowI v0) (0 + (Int.toNat i) * 1) [.int .i64 e2]), true⟩, ⟨true, g1, 1, true, (setAt (rowI v1) (0 + (Int.toNat i) * 1) [.int .i64 (chooseI m pa oa i v3)]), true⟩]⟩) : G Try.prog E (f83oK1 Try.prog) (f83oS1 m kd pa oa i k k1 v0 v1 v2_0 v2_1 v2_2 k11 v3 g0 g1 g3) :=
  segC_step (n := 400) (ds := []) (cs := []) (live := [0, 1, 2, 6, 7, 8]) (m := 2) (evs := [.b false, .b false, .v (.int .i64 (chooseI m pa oa i v3)), .ld (.int .i64 e1), .ld (.int .i64 e2), .stop]) (obs := _) hE.2.1 (hE.nogh _) mixed (by kernel_rfl) ho hg
theorem f83oW1  (m : Mch) (kd pa oa : Int) (i : Int) (k : (List Trn)) (k1 : Nat) (v0 : List Int) (v1 : List Int) (v2_0 : Int) (v2_1 : Int) (v2_2 : (List Trn)) (k11 : Nat) (v3 : List Int) {E : Env} {rv : ((List Int) × (List Int))} (hE : PureE Try.prog 83 (.tup [.rsl (rowI rv.1) 0 rv.1.length, .rsl (rowI rv.2) 0 rv.2.length]) E)
    (h : (((k11 : Int) < (k1 : Int) → (∃ te : Trn, k[k11]? = some te ∧ (0 ≤ te.to ∧ (∃ e : Int, v0[Int.toNat te.to]? = some e ∧ (0 ≤ i ∧ (∃ e1 : Int, m.mult[Int.toNat i]? = some e1 ∧ (0 ≤ te.to ∧ (∃ e2 : Int, m.meas[Int.toNat te.to]? = some e2 ∧ ((-9223372036854775808 ≤ Int.tdiv e1 e2 ∧ Int.tdiv e1 e2 ≤ 9223372036854775807) ∧ (e2 ≠ 0 ∧ ((-9223372036854775808 ≤ e * (Int.tdiv e1 e2) ∧ e * (Int.tdiv e1 e2) ≤ 9223372036854775807) ∧ ((v3.length + 1) ≤ 2147483648 ∧ ((-9223372036854775808 ≤ (k11 : Int) + 1 ∧ (k11 : Int) + 1 ≤ 9223372036854775807) ∧ f83oG1 E m kd pa oa i k k1 v0 v1 v2_0 v2_1 v2_2 (k11 + 1) (v3 ++ [(e * (Int.tdiv e1 e2))])))))))))))))) ∧ (¬ ((k11 : Int) < (k1 : Int)) → ((v2_0 = 1 → f83oG2 E m kd pa oa i v2_2 v2_2.length v0 v1 v2_0 v2_1 v2_2 v3 0) ∧ (¬ (v2_0 = 1) → (((0 ≤ i ∧ Int.toNat i < m.s.stages.length) ∧ 0 < v3.length ∧ v3.length ≤ 1000000) ∧ (0 ≤ i ∧ (∃ e : Int, v1[Int.toNat i]? = some e ∧ (0 ≤ i ∧ (∃ e1 : Int, (v1.set (Int.toNat i) (chooseI m pa oa i v3))[Int.toNat i]? = some e1 ∧ (0 ≤ e1 ∧ (∃ e2 : Int, v3[Int.toNat e1]? = some e2 ∧ (0 ≤ i ∧ (∃ e3 : Int, v0[Int.toNat i]? = some e3 ∧ ((-9223372036854775808 ≤ i - 1 ∧ i - 1 ≤ 9223372036854775807) ∧ f83oG0 E m kd pa oa (v0.set (Int.toNat i) e2) (v1.set (Int.toNat i) (chooseI m pa oa i v3)) (i - 1)))))))))))))))) : f83oG1 E m kd pa oa i k k1 v0 v1 v2_0 v2_1 v2_2 k11 v3 := by
  intro g0 g1 g3
  rcases Bool.eq_false_or_eq_true (decide ((k11 : Int) < (k1 : Int))) with hc0 | hc0
  · have h := h.1 (of_decide_eq_true hc0)
    obtain ⟨te, h1, h⟩ := h
    obtain ⟨h3, h⟩ := h
    obtain ⟨e, h2, h⟩ := h
    obtain ⟨h5, h⟩ := h
    obtain ⟨e1, h4, h⟩ := h
    obtain ⟨h7, h⟩ := h
    obtain ⟨e2, h6, h⟩ := h
    obtain ⟨q16_1, h⟩ := h
    obtain ⟨q17_1, h⟩ := h
    obtain ⟨q18_1, h⟩ := h
    obtain ⟨h8, h⟩ := h
    obtain ⟨q23_1, h⟩ := h
    refine p83o_1_0 m kd pa oa i k k1 v0 v1 v2_0 v2_1 v2_2 k11 v3 g0 g1 g3 te e e1 e2 hE ⟨hc0, (idx_ok h1), (row_part cTrn (s := 2) (k := 0) (m := 2) (fun _ => rfl) (by decide) h1), (by decide), (idx_ok' h3 h2), rfl, rfl, (row_part cI (s := 1) (k := 0) (m := 1) (fun _ => rfl) (by decide) h2), (idx_ok' h5 h4), (row_part cI (s := 1) (k := 0) (m := 1) (fun _ => rfl) (by decide) h4), (idx_ok' h7 h6), (row_part cI (s := 1) (k := 0) (m := 1) (fun _ => rfl) (by decide) h6), q16_1, q17_1, q18_1, rfl, (by have hx := row_len cI (s := 1) (fun _ => rfl) v3; simp only [rowI] at hx ⊢; rw [hx]; simp), h8, rfl, q23_1, trivial⟩ ?_
    rw [(show rowI v3 ++ [.int .i64 (e * (Int.tdiv e1 e2))] = rowI (v3 ++ [(e * (Int.tdiv e1 e2))]) from (row_app cI v3 [(e * (Int.tdiv e1 e2))]).symm)]; rw [(show (v3.length + 1) = (v3 ++ [(e * (Int.tdiv e1 e2))]).length from by simp)]; exact (h g0 g1 (g3 + 1))
  · have h := h.2 (of_decide_eq_false hc0)
    rcases Bool.eq_false_or_eq_true (v2_0 == 1) with hc1 | hc1
    · have h := h.1 (eq_of_beq hc1)
      exact p83o_1_1 m kd pa oa i k k1 v0 v1 v2_0 v2_1 v2_2 k11 v3 g0 g1 g3  hE ⟨hc0, hc1, trivial⟩ (h g0 g1 g3)
    · have h := h.2 (ne_of_beq_false hc1)
      obtain ⟨h1, h⟩ := h
      obtain ⟨h3, h⟩ := h
      obtain ⟨e, h2, h⟩ := h
      obtain ⟨h5, h⟩ := h
      obtain ⟨e1, h4, h⟩ := h
      obtain ⟨h7, h⟩ := h
      obtain ⟨e2, h6, h⟩ := h
      obtain ⟨h9, h⟩ := h
      obtain ⟨e3, h8, h⟩ := h
      obtain ⟨q24_2, h⟩ := h
      refine p83o_1_2 m kd pa oa i k k1 v0 v1 v2_0 v2_1 v2_2 k11 v3 g0 g1 g3 e e1 e2 e3 hE ⟨hc0, hc1, (pureF_of Try.func114 (by kernel_rfl) f114b (choose_ok i v3 m pa oa h1)), rfl, (idx_ok' h3 h2), rfl, (row_fits cI (s := 1) (k := 0) (m := 1) (fun _ => rfl) (by decide) h2), rfl, (by have hx := idx_ok' h5 h4; simpa using hx), rfl, rfl, (by rw [(show setAt (rowI v1) (0 + (Int.toNat i) * 1) [.int .i64 (chooseI m pa oa i v3)] = rowI (v1.set (Int.toNat i) (chooseI m pa oa i v3)) from row_set cI (s := 1) (k := 0) (fun _ => rfl) h2 rfl (by first | decide | simp))]; exact row_part cI (s := 1) (k := 0) (m := 1) (fun _ => rfl) (by decide) h4), (idx_ok' h7 h6), rfl, rfl, (row_part cI (s := 1) (k := 0) (m := 1) (fun _ => rfl) (by decide) h6), (idx_ok' h9 h8), rfl, (row_fits cI (s := 1) (k := 0) (m := 1) (fun _ => rfl) (by decide) h8), rfl, q24_2, trivial⟩ ?_
      have h := (h g0 g1)
      simp only [f83oS0, List.length_set] at h
      rw [(show setAt (rowI v0) (0 + (Int.toNat i) * 1) [.int .i64 e2] = rowI (v0.set (Int.toNat i) e2) from row_set cI (s := 1) (k := 0) (fun _ => rfl) h8 rfl (by first | decide | simp))]; rw [(show setAt (rowI v1) (0 + (Int.toNat i) * 1) [.int .i64 (chooseI m pa oa i v3)] = rowI (v1.set (Int.toNat i) (chooseI m pa oa i v3)) from row_set cI (s := 1) (k := 0) (fun _ => rfl) h2 rfl (by first | decide | simp))]
      exact h
theorem p83o_2_0  (m : Mch) (kd pa oa : Int) (i : Int) (j : (List Trn)) (j1 : Nat) (v0 : List Int) (v1 : List Int) (v2_0 : Int) (v2_1 : Int) (v2_2 : (List Trn)) (v3 : List Int) (j11 : Nat) (g0 : Nat) (g1 : Nat) (g3 : Nat) (te : Trn) (e : Int) (e1 : Int)  {E : Env} {rv : AV} (hE : PureE Try.prog 83 rv E) (ho : AllP [(decide ((j11 : Int) < (j1 : Int))) = true, 0 ≤ (j11 : Int) ∧ (j11 : Int) < (j.length : Int), ((rowTrn j).drop (0 + (Int.toNat (j11 : Int)) * 2)).take 2 = [.int .i64 te.w, .int .i64 te.to], 2 ≤ 2, 0 ≤ i ∧ i < (v0.length : Int), g0 = g0, g0 = g0, ((rowI v0).drop (0 + (Int.toNat i) * 1)).take 1 = [.int .i64 e], 0 ≤ (j11 : Int) ∧ (j11 : Int) < (v3.length : Int), g3 = g3, g3 = g3, ((rowI v3).drop (0 + (Int.toNat (j11 : Int)) * 1)).take 1 = [.int .i64 e1], InR .i64 (te.w * e1), InR .i64 (e + (te.w * e1)), 0 ≤ i ∧ i < (v0.length : Int), g0 = g0, ((0 + (Int.toNat i) * 1) + 1) ≤ (rowI v0).length, g0 = g0, InR .i64 ((j11 : Int) + 1)])
    (hg : G Try.prog E (f83oK2 Try.prog) ⟨[.rptr [.rsl (rowStg m.s.stages) 0 m.s.stages.length, .rsl (rowI m.s.worth) 0 m.s.worth.length, .int .i64 m.s.price, .rsl (rowI m.meas) 0 m.meas.length, .rsl (rowI m.mult) 0 m.mult.length] 0, .clos 113 [] [.rptr [.int .i64 kd] 0], .clos 114 [] [.rptr [.int .i64 pa] 0, .rptr [.rptr [.rsl (rowStg m.s.stages) 0 m.s.stages.length, .rsl (rowI m.s.worth) 0 m.s.worth.length, .int .i64 m.s.price, .rsl (rowI m.meas) 0 m.meas.length, .rsl (rowI m.mult) 0 m.mult.length] 0] 0, .rptr [.int .i64 oa] 0], J, J, J, .sl 0 g0 0 v0.length 1, .sl 1 g1 0 v1.length 1, .int .i64 i, J, .sl 3 g3 0 v3.length 1, J, J, J, J, J, J, J, J, J, J, J, J, J, J, J, J, J, J, J, J, J, J, J, J, J, J, J, J, J, J, J, J, J, J, J, J, J, J, J, J, J, J, J, J, J, J, J, J, J, J, J, J, J, J, J, J, J, J, J, J, J, J, J, J, J, J, J, J, J, J, J, J, J, J, J, J, J, J, J, J, J, J, J, J, J, J, J, .rsl (rowTrn j) 0 j.length, .int .i64 (j1 : Int), .int .i64 ((j11 : Int) + 1), J, J, J, J, J, J, J, J, J, J, J, J, J, J, J, J, J, J, J, J, J, J, J, J, J, J, J, J, J, J, J, J, J, J, J, J, J], [⟨true, g0, 1, true, (setAt (rowI v0) (0 + (Int.toNat i) * 1) [.int .i64 (e + (te.w * e1))]), true⟩, ⟨true, g1, 1, true, (rowI v1), true⟩, ⟨true, 0, 1, true, [.int .i64 v2_0, .int .i64 v2_1, .rsl (rowTrn v2_2) 0 v2_2.length], false⟩, ⟨true, g3, 1, true, (rowI v3), true⟩]⟩) : G Try.prog E (f83oK2 Try.prog) (f83oS2 m kd pa oa i j j1 v0 v1 v2_0 v2_1 v2_2 v3 j11 g0 g1 g3) :=
  segC_step (n := 400) (ds := []) (cs := []) (live := [0, 1, 2, 6, 7, 8, 10, 98, 99, 100]) (m := 4) (evs := [.b true, .ld (.agg [.int .i64 te.w, .int .i64 te.to]), .ld (.int .i64 e), .auto, .ld (.int .i64 e1), .stop]) (obs := _) hE.2.1 (hE.nogh _) mixed (by kernel_rfl) ho hg
theorem p83o_2_1  (m : Mch) (kd pa oa : Int) (i : Int) (j : (List Trn)) (j1 : Nat) (v0 : List Int) (v1 : List Int) (v2_0 : Int) (v2_1 : Int) (v2_2 : (List Trn)) (v3 : List Int) (j11 : Nat) (g0 : Nat) (g1 : Nat) (g3 : Nat)  {E : Env} {rv : AV} (hE : PureE Try.prog 83 rv E) (ho : AllP [(decide ((j11 : Int) < (j1 : Int))) = false, InR .i64 (i - 1)])
    (hg : G Try.prog E (f83oK0 Try.prog) ⟨[.rptr [.rsl (rowStg m.s.stages) 0 m.s.stages.length, .rsl (rowI m.s.worth) 0 m.s.worth.length, .int .i64 m.s.price, .rsl (rowI m.meas) 0 m.meas.length, .rsl (rowI m.mult) 0 m.mult.length] 0, .clos 113 [] [.rptr [.int .i64 kd] 0], .clos 114 [] [.rptr [.int .i64 pa] 0, .rptr [.rptr [.rsl (rowStg m.s.stages) 0 m.s.stages.length, .rsl (rowI m.s.worth) 0 m.s.worth.length, .int .i64 m.s.price, .rsl (rowI m.meas) 0 m.meas.length, .rsl (rowI m.mult) 0 m.mult.length] 0] 0, .rptr [.int .i64 oa] 0], J, J, J, .sl 0 g0 0 v0.length 1, .sl 1 g1 0 v1.length 1, .int .i64 (i - 1), J, J, J, J, J, J, J, J, J, J, J, J, J, J, J, J, J, J, J, J, J, J, J, J, J, J, J, J, J, J, J, J, J, J, J, J, J, J, J, J, J, J, J, J, J, J, J, J, J, J, J, J, J, J, J, J, J, J, J, J, J, J, J, J, J, J, J, J, J, J, J, J, J, J, J, J, J, J, J, J, J, J, J, J, J, J, J, J, J, J, J, J, J, J, J, J, J, J, J, J, J, J, J, J, J, J, J, J, J, J, J, J, J, J, J, J, J, J, J, J, J, J, J, J, J, J, J, J, J], [⟨true, g0, 1, true, (rowI v0), true⟩, ⟨true, g1, 1, true, (rowI v1), true⟩]⟩) : G Try.prog E (f83oK2 Try.prog) (f83oS2 m kd pa oa i j j1 v0 v1 v2_0 v2_1 v2_2 v3 j11 g0 g1 g3) :=
  segC_step (n := 400) (ds := []) (cs := []) (live := [0, 1, 2, 6, 7, 8]) (m := 2) (evs := [.b false, .stop]) (obs := _) hE.2.1 (hE.nogh _) mixed (by kernel_rfl) ho hg
theorem f83oW2  (m : Mch) (kd pa oa : Int) (i : Int) (j : (List Trn)) (j1 : Nat) (v0 : List Int) (v1 : List Int) (v2_0 : Int) (v2_1 : Int) (v2_2 : (List Trn)) (v3 : List Int) (j11 : Nat) {E : Env} {rv : ((List Int) × (List Int))} (hE : PureE Try.prog 83 (.tup [.rsl (rowI rv.1) 0 rv.1.length, .rsl (rowI rv.2) 0 rv.2.length]) E)
    (h : (((j11 : Int) < (j1 : Int) → (∃ te : Trn, j[j11]? = some te ∧ (0 ≤ i ∧ (∃ e : Int, v0[Int.toNat i]? = some e ∧ (∃ e1 : Int, v3[j11]? = some e1 ∧ ((-9223372036854775808 ≤ te.w * e1 ∧ te.w * e1 ≤ 9223372036854775807) ∧ ((-9223372036854775808 ≤ e + (te.w * e1) ∧ e + (te.w * e1) ≤ 9223372036854775807) ∧ ((-9223372036854775808 ≤ (j11 : Int) + 1 ∧ (j11 : Int) + 1 ≤ 9223372036854775807) ∧ f83oG2 E m kd pa oa i j j1 (v0.set (Int.toNat i) (e + (te.w * e1))) v1 v2_0 v2_1 v2_2 v3 (j11 + 1))))))))) ∧ (¬ ((j11 : Int) < (j1 : Int)) → ((-9223372036854775808 ≤ i - 1 ∧ i - 1 ≤ 9223372036854775807) ∧ f83oG0 E m kd pa oa v0 v1 (i - 1))))) : f83oG2 E m kd pa oa i j j1 v0 v1 v2_0 v2_1 v2_2 v3 j11 := by
  intro g0 g1 g3
  rcases Bool.eq_false_or_eq_true (decide ((j11 : Int) < (j1 : Int))) with hc0 | hc0
  · have h := h.1 (of_decide_eq_true hc0)
    obtain ⟨te, h1, h⟩ := h
    obtain ⟨h3, h⟩ := h
    obtain ⟨e, h2, h⟩ := h
    obtain ⟨e1, h4, h⟩ := h
    obtain ⟨q15_1, h⟩ := h
    obtain ⟨q16_1, h⟩ := h
    obtain ⟨q21_1, h⟩ := h
    refine p83o_2_0 m kd pa oa i j j1 v0 v1 v2_0 v2_1 v2_2 v3 j11 g0 g1 g3 te e e1 hE ⟨hc0, (idx_ok h1), (row_part cTrn (s := 2) (k := 0) (m := 2) (fun _ => rfl) (by decide) h1), (by decide), (idx_ok' h3 h2), rfl, rfl, (row_part cI (s := 1) (k := 0) (m := 1) (fun _ => rfl) (by decide) h2), (idx_ok h4), rfl, rfl, (row_part cI (s := 1) (k := 0) (m := 1) (fun _ => rfl) (by decide) h4), q15_1, q16_1, (idx_ok' h3 h2), rfl, (row_fits cI (s := 1) (k := 0) (m := 1) (fun _ => rfl) (by decide) h2), rfl, q21_1, trivial⟩ ?_
    have h := (h g0 g1 g3)
    simp only [f83oS2, List.length_set] at h
    rw [(show setAt (rowI v0) (0 + (Int.toNat i) * 1) [.int .i64 (e + (te.w * e1))] = rowI (v0.set (Int.toNat i) (e + (te.w * e1))) from row_set cI (s := 1) (k := 0) (fun _ => rfl) h2 rfl (by first | decide | simp))]
    exact h
  · have h := h.2 (of_decide_eq_false hc0)
    obtain ⟨q1_1, h⟩ := h
    exact p83o_2_1 m kd pa oa i j j1 v0 v1 v2_0 v2_1 v2_2 v3 j11 g0 g1 g3  hE ⟨hc0, q1_1, trivial⟩ (h g0 g1)
theorem f83pb : Try.f83.body = some (bodyAt Try.prog 83) := by kernel_rfl
def f83pK0 (P : Program) : List Item := kAt 400 [.code (bodyAt P 83)] [.stop]
def f83pS0  (m : Mch) (kd : Int) (plan : List Int) (v0 : List Int) (v1 : List Int) (i : Int) (g0 : Nat) (g1 : Nat) : St := ⟨[.rptr [.rsl (rowStg m.s.stages) 0 m.s.stages.length, .rsl (rowI m.s.worth) 0 m.s.worth.length, .int .i64 m.s.price, .rsl (rowI m.meas) 0 m.meas.length, .rsl (rowI m.mult) 0 m.mult.length] 0, .clos 113 [] [.rptr [.int .i64 kd] 0], .clos 119 [] [.rptr [.rsl (rowI plan) 0 plan.length] 0], J, J, J, .sl 0 g0 0 v0.length 1, .sl 1 g1 0 v1.length 1, .int .i64 i, J, J, J, J, J, J, J, J, J, J, J, J, J, J, J, J, J, J, J, J, J, J, J, J, J, J, J, J, J, J, J, J, J, J, J, J, J, J, J, J, J, J, J, J, J, J, J, J, J, J, J, J, J, J, J, J, J, J, J, J, J, J, J, J, J, J, J, J, J, J, J, J, J, J, J, J, J, J, J, J, J, J, J, J, J, J, J, J, J, J, J, J, J, J, J, J, J, J, J, J, J, J, J, J, J, J, J, J, J, J, J, J, J, J, J, J, J, J, J, J, J, J, J, J, J, J, J, J, J], [⟨true, g0, 1, true, (rowI v0), true⟩, ⟨true, g1, 1, true, (rowI v1), true⟩]⟩
def f83pG0 (E : Env)  (m : Mch) (kd : Int) (plan : List Int) (v0 : List Int) (v1 : List Int) (i : Int) : Prop := ∀ g0 g1 : Nat, G Try.prog E (f83pK0 Try.prog) (f83pS0 m kd plan v0 v1 i g0 g1)
def f83pK1 (P : Program) : List Item := kAt 400 [.code (bodyAt P 83)] [.b true, .b false, .stop]
def f83pS1  (m : Mch) (kd : Int) (plan : List Int) (i : Int) (k : (List Trn)) (k1 : Nat) (v0 : List Int) (v1 : List Int) (v2_0 : Int) (v2_1 : Int) (v2_2 : (List Trn)) (k11 : Nat) (v3 : List Int) (g0 : Nat) (g1 : Nat) (g3 : Nat) : St := ⟨[.rptr [.rsl (rowStg m.s.stages) 0 m.s.stages.length, .rsl (rowI m.s.worth) 0 m.s.worth.length, .int .i64 m.s.price, .rsl (rowI m.meas) 0 m.meas.length, .rsl (rowI m.mult) 0 m.mult.length] 0, .clos 113 [] [.rptr [.int .i64 kd] 0], .clos 119 [] [.rptr [.rsl (rowI plan) 0 plan.length] 0], J, J, J, .sl 0 g0 0 v0.length 1, .sl 1 g1 0 v1.length 1, .int .i64 i, .ptr 2 0 0, .sl 3 g3 0 v3.length 1, J, J, J, J, J, J, J, J, J, J, J, J, J, J, J, J, J, J, J, J, J, J, J, J, J, J, J, J, J, J, J, J, J, J, J, J, J, J, J, J, J, J, J, J, J, J, J, J, J, J, J, .rsl (rowTrn k) 0 k.length, .int .i64 (k1 : Int), .int .i64 (k11 : Int), J, J, J, J, J, J, J, J, J, J, J, J, J, J, J, J, J, J, J, J, J, J, J, J, J, J, J, J, J, J, J, J, J, J, J, J, J, J, J, J, J, J, J, J, J, J, J, J, J, J, J, J, J, J, J, J, J, J, J, J, J, J, J, J, J, J, J, J, J, J, J, J, J], [⟨true, g0, 1, true, (rowI v0), true⟩, ⟨true, g1, 1, true, (rowI v1), true⟩, ⟨true, 0, 1, true, [.int .i64 v2_0, .int .i64 v2_1, .rsl (rowTrn v2_2) 0 v2_2.length], false⟩, ⟨true, g3, 1, true, (rowI v3), true⟩]⟩
def f83pG1 (E : Env)  (m : Mch) (kd : Int) (plan : List Int) (i : Int) (k : (List Trn)) (k1 : Nat) (v0 : List Int) (v1 : List Int) (v2_0 : Int) (v2_1 : Int) (v2_2 : (List Trn)) (k11 : Nat) (v3 : List Int) : Prop := ∀ g0 g1 g3 : Nat, G Try.prog E (f83pK1 Try.prog) (f83pS1 m kd plan i k k1 v0 v1 v2_0 v2_1 v2_2 k11 v3 g0 g1 g3)
def f83pK2 (P : Program) : List Item := kAt 400 [.code (bodyAt P 83)] [.b true, .b false, .b false, .b true, .stop]
def f83pS2  (m : Mch) (kd : Int) (plan : List Int) (i : Int) (j : (List Trn)) (j1 : Nat) (v0 : List Int) (v1 : List Int) (v2_0 : Int) (v2_1 : Int) (v2_2 : (List Trn)) (v3 : List Int) (j11 : Nat) (g0 : Nat) (g1 : Nat) (g3 : Nat) : St := ⟨[.rptr [.rsl (rowStg m.s.stages) 0 m.s.stages.length, .rsl (rowI m.s.worth) 0 m.s.worth.length, .int .i64 m.s.price, .rsl (rowI m.meas) 0 m.meas.length, .rsl (rowI m.mult) 0 m.mult.length] 0, .clos 113 [] [.rptr [.int .i64 kd] 0], .clos 119 [] [.rptr [.rsl (rowI plan) 0 plan.length] 0], J, J, J, .sl 0 g0 0 v0.length 1, .sl 1 g1 0 v1.length 1, .int .i64 i, J, .sl 3 g3 0 v3.length 1, J, J, J, J, J, J, J, J, J, J, J, J, J, J, J, J, J, J, J, J, J, J, J, J, J, J, J, J, J, J, J, J, J, J, J, J, J, J, J, J, J, J, J, J, J, J, J, J, J, J, J, J, J, J, J, J, J, J, J, J, J, J, J, J, J, J, J, J, J, J, J, J, J, J, J, J, J, J, J, J, J, J, J, J, J, J, J, .rsl (rowTrn j) 0 j.length, .int .i64 (j1 : Int), .int .i64 (j11 : Int), J, J, J, J, J, J, J, J, J, J, J, J, J, J, J, J, J, J, J, J, J, J, J, J, J, J, J, J, J, J, J, J, J, J, J, J, J], [⟨true, g0, 1, true, (rowI v0), true⟩, ⟨true, g1, 1, true, (rowI v1), true⟩, ⟨true, 0, 1, true, [.int .i64 v2_0, .int .i64 v2_1, .rsl (rowTrn v2_2) 0 v2_2.length], false⟩, ⟨true, g3, 1, true, (rowI v3), true⟩]⟩
def f83pG2 (E : Env)  (m : Mch) (kd : Int) (plan : List Int) (i : Int) (j : (List Trn)) (j1 : Nat) (v0 : List Int) (v1 : List Int) (v2_0 : Int) (v2_1 : Int) (v2_2 : (List Trn)) (v3 : List Int) (j11 : Nat) : Prop := ∀ g0 g1 g3 : Nat, G Try.prog E (f83pK2 Try.prog) (f83pS2 m kd plan i j j1 v0 v1 v2_0 v2_1 v2_2 v3 j11 g0 g1 g3)
theorem p83p_start_0  (m : Mch) (kd : Int) (plan : List Int)   {E : Env} {rv : AV} (hE : PureE Try.prog 83 rv E) (ho : AllP [0 ≤ (m.s.stages.length : Int) ∧ (m.s.stages.length : Int) ≤ (m.s.stages.length : Int) ∧ (m.s.stages.length : Int) ≤ 2147483648, 0 ≤ (m.s.stages.length : Int) ∧ (m.s.stages.length : Int) ≤ (m.s.stages.length : Int) ∧ (m.s.stages.length : Int) ≤ 2147483648, InR .i64 ((m.s.stages.length : Int) - 1)])
    (hg : G Try.prog E (f83pK0 Try.prog) ⟨[.rptr [.rsl (rowStg m.s.stages) 0 m.s.stages.length, .rsl (rowI m.s.worth) 0 m.s.worth.length, .int .i64 m.s.price, .rsl (rowI m.meas) 0 m.meas.length, .rsl (rowI m.mult) 0 m.mult.length] 0, .clos 113 [] [.rptr [.int .i64 kd] 0], .clos 119 [] [.rptr [.rsl (rowI plan) 0 plan.length] 0], J, J, J, .sl 0 0 0 (Int.toNat (m.s.stages.length : Int)) 1, .sl 1 0 0 (Int.toNat (m.s.stages.length : Int)) 1, .int .i64 ((m.s.stages.length : Int) - 1), J, J, J, J, J, J, J, J, J, J, J, J, J, J, J, J, J, J, J, J, J, J, J, J, J, J, J, J, J, J, J, J, J, J, J, J, J, J, J, J, J, J, J, J, J, J, J, J, J, J, J, J, J, J, J, J, J, J, J, J, J, J, J, J, J, J, J, J, J, J, J, J, J, J, J, J, J, J, J, J, J, J, J, J, J, J, J, J, J, J, J, J, J, J, J, J, J, J, J, J, J, J, J, J, J, J, J, J, J, J, J, J, J, J, J, J, J, J, J, J, J, J, J, J, J, J, J, J, J], [⟨true, 0, 1, true, ((List.replicate (Int.toNat (m.s.stages.length : Int)) ([.int .i64 0] : List AV)).flatten), true⟩, ⟨true, 0, 1, true, ((List.replicate (Int.toNat (m.s.stages.length : Int)) ([.int .i64 0] : List AV)).flatten), true⟩]⟩) : G Try.prog E [.code (bodyAt Try.prog 83)] ⟨[.rptr [.rsl (rowStg m.s.stages) 0 m.s.stages.length, .rsl (rowI m.s.worth) 0 m.s.worth.length, .int .i64 m.s.price, .rsl (rowI m.meas) 0 m.meas.length, .rsl (rowI m.mult) 0 m.mult.length] 0, .clos 113 [] [.rptr [.int .i64 kd] 0], .clos 119 [] [.rptr [.rsl (rowI plan) 0 plan.length] 0]] ++ unds (Try.f83.ntmps - 3), []⟩ :=
  segC_step (n := 400) (ds := []) (cs := []) (live := [0, 1, 2, 6, 7, 8]) (m := 2) (evs := [.stop]) (obs := _) hE.2.1 (hE.nogh _) mixed (by kernel_rfl) ho hg
theorem f83pW  (m : Mch) (kd : Int) (plan : List Int) {E : Env} {rv : ((List Int) × (List Int))} (hE : PureE Try.prog 83 (.tup [.rsl (rowI rv.1) 0 rv.1.length, .rsl (rowI rv.2) 0 rv.2.length]) E)
    (h : (m.s.stages.length ≤ 2147483648 ∧ (m.s.stages.length ≤ 2147483648 ∧ ((-9223372036854775808 ≤ (m.s.stages.length : Int) - 1 ∧ (m.s.stages.length : Int) - 1 ≤ 9223372036854775807) ∧ f83pG0 E m kd plan (List.replicate m.s.stages.length (0 : Int)) (List.replicate m.s.stages.length (0 : Int)) ((m.s.stages.length : Int) - 1))))) : G Try.prog E [.code (bodyAt Try.prog 83)] ⟨[.rptr [.rsl (rowStg m.s.stages) 0 m.s.stages.length, .rsl (rowI m.s.worth) 0 m.s.worth.length, .int .i64 m.s.price, .rsl (rowI m.meas) 0 m.meas.length, .rsl (rowI m.mult) 0 m.mult.length] 0, .clos 113 [] [.rptr [.int .i64 kd] 0], .clos 119 [] [.rptr [.rsl (rowI plan) 0 plan.length] 0]] ++ unds (Try.f83.ntmps - 3), []⟩ := by
  obtain ⟨h1, h⟩ := h
  obtain ⟨h2, h⟩ := h
  obtain ⟨q2_0, h⟩ := h
  refine p83p_start_0 m kd plan    hE ⟨⟨by omega, by omega, by have := h1; omega⟩, ⟨by omega, by omega, by have := h2; omega⟩, q2_0, trivial⟩ ?_
  have h := (h 0 0)
  simp only [f83pG0, f83pS0, List.length_set, List.length_replicate] at h
  rw [(show (List.replicate (Int.toNat (m.s.stages.length : Int)) ([.int .i64 0] : List AV)).flatten = rowI (List.replicate m.s.stages.length (0 : Int)) from row_rep cI _ _)]
  exact h
theorem p83p_0_0  (m : Mch) (kd : Int) (plan : List Int) (v0 : List Int) (v1 : List Int) (i : Int) (g0 : Nat) (g1 : Nat) (se : Stg) (e : Int)  {E : Env} {rv : AV} (hE : PureE Try.prog 83 rv E) (ho : AllP [(decide (i ≥ 0)) = true, 0 ≤ i ∧ i < (m.s.stages.length : Int), ((rowStg m.s.stages).drop (0 + (Int.toNat i) * 3)).take 3 = [.int .i64 se.kind, .int .i64 se.prize, .rsl (rowTrn se.turns) 0 se.turns.length], 3 ≤ 3, (se.kind == 4) = true, (decide (se.prize ≥ 0)) = true, PureF Try.prog (.clos 113 [] [.rptr [.int .i64 kd] 0]) [.int .i64 se.prize] (.int .i64 (onlyI kd se.prize)), 0 ≤ i ∧ i < (v0.length : Int), g0 = g0, ((0 + (Int.toNat i) * 1) + 1) ≤ (rowI v0).length, g0 = g0, InR .i64 (i - 1)])
    (hg : G Try.prog E (f83pK0 Try.prog) ⟨[.rptr [.rsl (rowStg m.s.stages) 0 m.s.stages.length, .rsl (rowI m.s.worth) 0 m.s.worth.length, .int .i64 m.s.price, .rsl (rowI m.meas) 0 m.meas.length, .rsl (rowI m.mult) 0 m.mult.length] 0, .clos 113 [] [.rptr [.int .i64 kd] 0], .clos 119 [] [.rptr [.rsl (rowI plan) 0 plan.length] 0], J, J, J, .sl 0 g0 0 v0.length 1, .sl 1 g1 0 v1.length 1, .int .i64 (i - 1), J, J, J, J, J, J, J, J, J, J, J, J, J, J, J, J, J, J, J, J, J, J, J, J, J, J, J, J, J, J, J, J, J, J, J, J, J, J, J, J, J, J, J, J, J, J, J, J, J, J, J, J, J, J, J, J, J, J, J, J, J, J, J, J, J, J, J, J, J, J, J, J, J, J, J, J, J, J, J, J, J, J, J, J, J, J, J, J, J, J, J, J, J, J, J, J, J, J, J, J, J, J, J, J, J, J, J, J, J, J, J, J, J, J, J, J, J, J, J, J, J, J, J, J, J, J, J, J, J], [⟨true, g0, 1, true, (setAt (rowI v0) (0 + (Int.toNat i) * 1) [.int .i64 (onlyI kd se.prize)]), true⟩, ⟨true, g1, 1, true, (rowI v1), true⟩]⟩) : G Try.prog E (f83pK0 Try.prog) (f83pS0 m kd plan v0 v1 i g0 g1) :=
  segC_step (n := 400) (ds := []) (cs := []) (live := [0, 1, 2, 6, 7, 8]) (m := 2) (evs := [.b true, .auto, .ld (.agg [.int .i64 se.kind, .int .i64 se.prize, .rsl (rowTrn se.turns) 0 se.turns.length]), .b true, .b true, .v (.int .i64 (onlyI kd se.prize)), .stop]) (obs := _) hE.2.1 (hE.nogh _) mixed (by kernel_rfl) ho hg
theorem p83p_0_1  (m : Mch) (kd : Int) (plan : List Int) (v0 : List Int) (v1 : List Int) (i : Int) (g0 : Nat) (g1 : Nat) (se : Stg)  {E : Env} {rv : AV} (hE : PureE Try.prog 83 rv E) (ho : AllP [(decide (i ≥ 0)) = true, 0 ≤ i ∧ i < (m.s.stages.length : Int), ((rowStg m.s.stages).drop (0 + (Int.toNat i) * 3)).take 3 = [.int .i64 se.kind, .int .i64 se.prize, .rsl (rowTrn se.turns) 0 se.turns.length], 3 ≤ 3, (se.kind == 4) = true, (decide (se.prize ≥ 0)) = false, InR .i64 (i - 1)])
    (hg : G Try.prog E (f83pK0 Try.prog) ⟨[.rptr [.rsl (rowStg m.s.stages) 0 m.s.stages.length, .rsl (rowI m.s.worth) 0 m.s.worth.length, .int .i64 m.s.price, .rsl (rowI m.meas) 0 m.meas.length, .rsl (rowI m.mult) 0 m.mult.length] 0, .clos 113 [] [.rptr [.int .i64 kd] 0], .clos 119 [] [.rptr [.rsl (rowI plan) 0 plan.length] 0], J, J, J, .sl 0 g0 0 v0.length 1, .sl 1 g1 0 v1.length 1, .int .i64 (i - 1), J, J, J, J, J, J, J, J, J, J, J, J, J, J, J, J, J, J, J, J, J, J, J, J, J, J, J, J, J, J, J, J, J, J, J, J, J, J, J, J, J, J, J, J, J, J, J, J, J, J, J, J, J, J, J, J, J, J, J, J, J, J, J, J, J, J, J, J, J, J, J, J, J, J, J, J, J, J, J, J, J, J, J, J, J, J, J, J, J, J, J, J, J, J, J, J, J, J, J, J, J, J, J, J, J, J, J, J, J, J, J, J, J, J, J, J, J, J, J, J, J, J, J, J, J, J, J, J, J], [⟨true, g0, 1, true, (rowI v0), true⟩, ⟨true, g1, 1, true, (rowI v1), true⟩]⟩) : G Try.prog E (f83pK0 Try.prog) (f83pS0 m kd plan v0 v1 i g0 g1) :=
  segC_step (n := 400) (ds := []) (cs := []) (live := [0, 1, 2, 6, 7, 8]) (m := 2) (evs := [.b true, .auto, .ld (.agg [.int .i64 se.kind, .int .i64 se.prize, .rsl (rowTrn se.turns) 0 se.turns.length]), .b true, .b false, .stop]) (obs := _) hE.2.1 (hE.nogh _) mixed (by kernel_rfl) ho hg
theorem p83p_0_2  (m : Mch) (kd : Int) (plan : List Int) (v0 : List Int) (v1 : List Int) (i : Int) (g0 : Nat) (g1 : Nat) (se : Stg)  {E : Env} {rv : AV} (hE : PureE Try.prog 83 rv E) (ho : AllP [(decide (i ≥ 0)) = true, 0 ≤ i ∧ i < (m.s.stages.length : Int), ((rowStg m.s.stages).drop (0 + (Int.toNat i) * 3)).take 3 = [.int .i64 se.kind, .int .i64 se.prize, .rsl (rowTrn se.turns) 0 se.turns.length], 3 ≤ 3, (se.kind == 4) = false])
    (hg : G Try.prog E (f83pK1 Try.prog) ⟨[.rptr [.rsl (rowStg m.s.stages) 0 m.s.stages.length, .rsl (rowI m.s.worth) 0 m.s.worth.length, .int .i64 m.s.price, .rsl (rowI m.meas) 0 m.meas.length, .rsl (rowI m.mult) 0 m.mult.length] 0, .clos 113 [] [.rptr [.int .i64 kd] 0], .clos 119 [] [.rptr [.rsl (rowI plan) 0 plan.length] 0], J, J, J, .sl 0 g0 0 v0.length 1, .sl 1 g1 0 v1.length 1, .int .i64 i, .ptr 2 0 0, .sl 3 0 0 0 1, J, J, J, J, J, J, J, J, J, J, J, J, J, J, J, J, J, J, J, J, J, J, J, J, J, J, J, J, J, J, J, J, J, J, J, J, J, J, J, J, J, J, J, J, J, J, J, J, J, J, J, .rsl (rowTrn se.turns) 0 se.turns.length, .int .i64 (se.turns.length : Int), .int .i64 0, J, J, J, J, J, J, J, J, J, J, J, J, J, J, J, J, J, J, J, J, J, J, J, J, J, J, J, J, J, J, J, J, J, J, J, J, J, J, J, J, J, J, J, J, J, J, J, J, J, J, J, J, J, J, J, J, J, J, J, J, J, J, J, J, J, J, J, J, J, J, J, J, J], [⟨true, g0, 1, true, (rowI v0), true⟩, ⟨true, g1, 1, true, (rowI v1), true⟩, ⟨true, 0, 1, true, [.int .i64 se.kind, .int .i64 se.prize, .rsl (rowTrn se.turns) 0 se.turns.length], false⟩, ⟨true, 0, 1, true, [], true⟩]⟩) : G Try.prog E (f83pK0 Try.prog) (f83pS0 m kd plan v0 v1 i g0 g1) :=
  segC_step (n := 400) (ds := [(10, 1)]) (cs := []) (live := [0, 1, 2, 6, 7, 8, 9, 10, 62, 63, 64]) (m := 4) (evs := [.b true, .auto, .ld (.agg [.int .i64 se.kind, .int .i64 se.prize, .rsl (rowTrn se.turns) 0 se.turns.length]), .b false, .stop]) (obs := _) hE.2.1 (hE.nogh _) mixed (by kernel_rfl) ho hg
theorem p83p_0_3  (m : Mch) (kd : Int) (plan : List Int) (v0 : List Int) (v1 : List Int) (i : Int) (g0 : Nat) (g1 : Nat)  {E : Env} {res : AV} (hE : PureE Try.prog 83 res E) (ho : AllP [(decide (i ≥ 0)) = false, g0 = g0, g1 = g1])
    (hr : AvLe (.tup [.rsl (rowI v0) 0 v0.length, .rsl (rowI v1) 0 v1.length]) res) : G Try.prog E (f83pK0 Try.prog) (f83pS0 m kd plan v0 v1 i g0 g1) :=
  end_stepL (n := 400) (evs := [.b false]) (obs := _) hE Try.func83 mixed (by kernel_rfl) ho hr
theorem f83pW0  (m : Mch) (kd : Int) (plan : List Int) (v0 : List Int) (v1 : List Int) (i : Int) {E : Env} {rv : ((List Int) × (List Int))} (hE : PureE Try.prog 83 (.tup [.rsl (rowI rv.1) 0 rv.1.length, .rsl (rowI rv.2) 0 rv.2.length]) E)
    (h : ((i ≥ 0 → (0 ≤ i ∧ (∃ se : Stg, m.s.stages[Int.toNat i]? = some se ∧ ((se.kind = 4 → ((se.prize ≥ 0 → (0 ≤ i ∧ (∃ e : Int, v0[Int.toNat i]? = some e ∧ ((-9223372036854775808 ≤ i - 1 ∧ i - 1 ≤ 9223372036854775807) ∧ f83pG0 E m kd plan (v0.set (Int.toNat i) (onlyI kd se.prize)) v1 (i - 1))))) ∧ (¬ (se.prize ≥ 0) → ((-9223372036854775808 ≤ i - 1 ∧ i - 1 ≤ 9223372036854775807) ∧ f83pG0 E m kd plan v0 v1 (i - 1))))) ∧ (¬ (se.kind = 4) → f83pG1 E m kd plan i se.turns se.turns.length v0 v1 se.kind se.prize se.turns 0 ([])))))) ∧ (¬ (i ≥ 0) → rv = (v0, v1)))) : f83pG0 E m kd plan v0 v1 i := by
  intro g0 g1
  rcases Bool.eq_false_or_eq_true (decide (i ≥ 0)) with hc0 | hc0
  · have h := h.1 (of_decide_eq_true hc0)
    obtain ⟨h2, h⟩ := h
    obtain ⟨se, h1, h⟩ := h
    rcases Bool.eq_false_or_eq_true (se.kind == 4) with hc1 | hc1
    · have h := h.1 (eq_of_beq hc1)
      rcases Bool.eq_false_or_eq_true (decide (se.prize ≥ 0)) with hc2 | hc2
      · have h := h.1 (of_decide_eq_true hc2)
        obtain ⟨h4, h⟩ := h
        obtain ⟨e, h3, h⟩ := h
        obtain ⟨q13_3, h⟩ := h
        refine p83p_0_0 m kd plan v0 v1 i g0 g1 se e hE ⟨hc0, (idx_ok' h2 h1), (row_part cStg (s := 3) (k := 0) (m := 3) (fun _ => rfl) (by decide) h1), (by decide), hc1, hc2, (pureF_of Try.func113 (by kernel_rfl) f113b (only_ok se.prize kd)), (idx_ok' h4 h3), rfl, (row_fits cI (s := 1) (k := 0) (m := 1) (fun _ => rfl) (by decide) h3), rfl, q13_3, trivial⟩ ?_
        have h := (h g0 g1)
        simp only [f83pS0, List.length_set] at h
        rw [(show setAt (rowI v0) (0 + (Int.toNat i) * 1) [.int .i64 (onlyI kd se.prize)] = rowI (v0.set (Int.toNat i) (onlyI kd se.prize)) from row_set cI (s := 1) (k := 0) (fun _ => rfl) h3 rfl (by first | decide | simp))]
        exact h
      · have h := h.2 (of_decide_eq_false hc2)
        obtain ⟨q7_3, h⟩ := h
        exact p83p_0_1 m kd plan v0 v1 i g0 g1 se hE ⟨hc0, (idx_ok' h2 h1), (row_part cStg (s := 3) (k := 0) (m := 3) (fun _ => rfl) (by decide) h1), (by decide), hc1, hc2, q7_3, trivial⟩ (h g0 g1)
    · have h := h.2 (ne_of_beq_false hc1)
      exact p83p_0_2 m kd plan v0 v1 i g0 g1 se hE ⟨hc0, (idx_ok' h2 h1), (row_part cStg (s := 3) (k := 0) (m := 3) (fun _ => rfl) (by decide) h1), (by decide), hc1, trivial⟩ (h g0 g1 0)
  · have h := h.2 (of_decide_eq_false hc0)
    exact p83p_0_3 m kd plan v0 v1 i g0 g1  hE ⟨hc0, rfl, rfl, trivial⟩ (AvLe.of_eq (by rw [h]; try rfl))
theorem p83p_1_0  (m : Mch) (kd : Int) (plan : List Int) (i : Int) (k : (List Trn)) (k1 : Nat) (v0 : List Int) (v1 : List Int) (v2_0 : Int) (v2_1 : Int) (v2_2 : (List Trn)) (k11 : Nat) (v3 : List Int) (g0 : Nat) (g1 : Nat) (g3 : Nat) (te : Trn) (e : Int) (e1 : Int) (e2 : Int)  {E : Env} {rv : AV} (hE : PureE Try.prog 83 rv E) (ho : AllP [(decide ((k11 : Int) < (k1 : Int))) = true, 0 ≤ (k11 : Int) ∧ (k11 : Int) < (k.length : Int), ((rowTrn k).drop (0 + (Int.toNat (k11 : Int)) * 2)).take 2 = [.int .i64 te.w, .int .i64 te.to], 2 ≤ 2, 0 ≤ te.to ∧ te.to < (v0.length : Int), g0 = g0, g0 = g0, ((rowI v0).drop (0 + (Int.toNat te.to) * 1)).take 1 = [.int .i64 e], 0 ≤ i ∧ i < (m.mult.length : Int), ((rowI m.mult).drop (0 + (Int.toNat i) * 1)).take 1 = [.int .i64 e1], 0 ≤ te.to ∧ te.to < (m.meas.length : Int), ((rowI m.meas).drop (0 + (Int.toNat te.to) * 1)).take 1 = [.int .i64 e2], InR .i64 (Int.tdiv e1 e2), e2 ≠ 0, InR .i64 (e * (Int.tdiv e1 e2)), g3 = g3, (0 + (v3.length * 1)) = (rowI v3).length, (v3.length + 1) ≤ 2147483648, 0 = 0, InR .i64 ((k11 : Int) + 1)])
    (hg : G Try.prog E (f83pK1 Try.prog) ⟨[.rptr [.rsl (rowStg m.s.stages) 0 m.s.stages.length, .rsl (rowI m.s.worth) 0 m.s.worth.length, .int .i64 m.s.price, .rsl (rowI m.meas) 0 m.meas.length, .rsl (rowI m.mult) 0 m.mult.length] 0, .clos 113 [] [.rptr [.int .i64 kd] 0], .clos 119 [] [.rptr [.rsl (rowI plan) 0 plan.length] 0], J, J, J, .sl 0 g0 0 v0.length 1, .sl 1 g1 0 v1.length 1, .int .i64 i, .ptr 2 0 0, .sl 3 (g3 + 1) 0 (v3.length + 1) 1, J, J, J, J, J, J, J, J, J, J, J, J, J, J, J, J, J, J, J, J, J, J, J, J, J, J, J, J, J, J, J, J, J, J, J, J, J, J, J, J, J, J, J, J, J, J, J, J, J, J, J, .rsl (rowTrn k) 0 k.length, .int .i64 (k1 : Int), .int .i64 ((k11 : Int) + 1), J, J, J, J, J, J, J, J, J, J, J, J, J, J, J, J, J, J, J, J, J, J, J, J, J, J, J, J, J, J, J, J, J, J, J, J, J, J, J, J, J, J, J, J, J, J, J, J, J, J, J, J, J, J, J, J, J, J, J, J, J, J, J, J, J, J, J, J, J, J, J, J, J], [⟨true, g0, 1, true, (rowI v0), true⟩, ⟨true, g1, 1, true, (rowI v1), true⟩, ⟨true, 0, 1, true, [.int .i64 v2_0, .int .i64 v2_1, .rsl (rowTrn v2_2) 0 v2_2.length], false⟩, ⟨true, (g3 + 1), 1, true, ((rowI v3) ++ [.int .i64 (e * (Int.tdiv e1 e2))]), true⟩]⟩) : G Try.prog E (f83pK1 Try.prog) (f83pS1 m kd plan i k k1 v0 v1 v2_0 v2_1 v2_2 k11 v3 g0 g1 g3) :=
  segC_step (n := 400) (ds := []) (cs := []) (live := [0, 1, 2, 6, 7, 8, 9, 10, 62, 63, 64]) (m := 4) (evs := [.b true, .ld (.agg [.int .i64 te.w, .int .i64 te.to]), .auto, .ld (.int .i64 e), .auto, .ld (.int .i64 e1), .auto, .auto, .ld (.int .i64 e2), .stop]) (obs := _) hE.2.1 (hE.nogh _) mixed (by kernel_rfl) ho hg
theorem p83p_1_1  (m : Mch) (kd : Int) (plan : List Int) (i : Int) (k : (List Trn)) (k1 : Nat) (v0 : List Int) (v1 : List Int) (v2_0 : Int) (v2_1 : Int) (v2_2 : (List Trn)) (k11 : Nat) (v3 : List Int) (g0 : Nat) (g1 : Nat) (g3 : Nat)  {E : Env} {rv : AV} (hE : PureE Try.prog 83 rv E) (ho : AllP [(decide ((k11 : Int) < (k1 : Int))) = false, (v2_0 == 1) = true])
    (hg : G Try.prog E (f83pK2 Try.prog) ⟨[.rptr [.rsl (rowStg m.s.stages) 0 m.s.stages.length, .rsl (rowI m.s.worth) 0 m.s.worth.length, .int .i64 m.s.price, .rsl (rowI m.meas) 0 m.meas.length, .rsl (rowI m.mult) 0 m.mult.length] 0, .clos 113 [] [.rptr [.int .i64 kd] 0], .clos 119 [] [.rptr [.rsl (rowI plan) 0 plan.length] 0], J, J, J, .sl 0 g0 0 v0.length 1, .sl 1 g1 0 v1.length 1, .int .i64 i, J, .sl 3 g3 0 v3.length 1, J, J, J, J, J, J, J, J, J, J, J, J, J, J, J, J, J, J, J, J, J, J, J, J, J, J, J, J, J, J, J, J, J, J, J, J, J, J, J, J, J, J, J, J, J, J, J, J, J, J, J, J, J, J, J, J, J, J, J, J, J, J, J, J, J, J, J, J, J, J, J, J, J, J, J, J, J, J, J, J, J, J, J, J, J, J, J, .rsl (rowTrn v2_2) 0 v2_2.length, .int .i64 (v2_2.length : Int), .int .i64 0, J, J, J, J, J, J, J, J, J, J, J, J, J, J, J, J, J, J, J, J, J, J, J, J, J, J, J, J, J, J, J, J, J, J, J, J, J], [⟨true, g0, 1, true, (rowI v0), true⟩, ⟨true, g1, 1, true, (rowI v1), true⟩, ⟨true, 0, 1, true, [.int .i64 v2_0, .int .i64 v2_1, .rsl (rowTrn v2_2) 0 v2_2.length], false⟩, ⟨true, g3, 1, true, (rowI v3), true⟩]⟩) : G Try.prog E (f83pK1 Try.prog) (f83pS1 m kd plan i k k1 v0 v1 v2_0 v2_1 v2_2 k11 v3 g0 g1 g3) :=
  segC_step (n := 400) (ds := []) (cs := []) (live := [0, 1, 2, 6, 7, 8, 10, 98, 99, 100]) (m := 4) (evs := [.b false, .b true, .stop]) (obs := _) hE.2.1 (hE.nogh _) mixed (by kernel_rfl) ho hg
theorem p83p_1_2  (m : Mch) (kd : Int) (plan : List Int) (i : Int) (k : (List Trn)) (k1 : Nat) (v0 : List Int) (v1 : List Int) (v2_0 : Int) (v2_1 : Int) (v2_2 : (List Trn)) (k11 : Nat) (v3 : List Int) (g0 : Nat) (g1 : Nat) (g3 : Nat) (e : Int) (e1 : Int) (e2 : Int) (e3 : Int)  {E : Env} {rv : AV} (hE : PureE Try.prog 83 rv E) (ho : AllP [(decide ((k11 : Int) < (k1 : Int))) = false, (v2_0 == 1) = false, PureF Try.prog (.clos 119 [] [.rptr [.rsl (rowI plan) 0 plan.length] 0]) [.int .i64 i, .rsl (rowI v3) 0 v3.length] (.int .i64 (planI plan i)), g3 = g3, 0 ≤ i ∧ i < (v1.length : Int), g1 = g1, ((0 + (Int.toNat i) * 1) + 1) ≤ (rowI v1).length, g1 = g1, 0 ≤ i ∧ i < (v1.length : Int), g1 = g1, g1 = g1, ((setAt (rowI v1) (0 + (Int.toNat i) * 1) [.int .i64 (planI plan i)]).drop (0 + (Int.toNat i) * 1)).take 1 = [.int .i64 e1], 0 ≤ e1 ∧ e1 < (v3.length : Int), g3 = g3, g3 = g3, ((rowI v3).drop (0 + (Int.toNat e1) * 1)).take 1 = [.int .i64 e2], 0 ≤ i ∧ i < (v0.length : Int), g0 = g0, ((0 + (Int.toNat i) * 1) + 1) ≤ (rowI v0).length, g0 = g0, InR .i64 (i - 1)])
    (hg : G Try.prog E (f83pK0 Try.prog) ⟨[.rptr [.rsl (rowStg m.s.stages) 0 m.s.stages.length, .rsl (rowI m.s.worth) 0 m.s.worth.length, .int .i64 m.s.price, .rsl (rowI m.meas) 0 m.meas.length, .rsl (rowI m.mult) 0 m.mult.length] 0, .clos 113 [] [.rptr [.int .i64 kd] 0], .clos 119 [] [.rptr [.rsl (rowI plan) 0 plan.length] 0], J, J, J, .sl 0 g0 0 v0.length 1, .sl 1 g1 0 v1.length 1, .int .i64 (i - 1), J, J, J, J, J, J, J, J, J, J, J, J, J, J, J, J, J, J, J, J, J, J, J, J, J, J, J, J, J, J, J, J, J, J, J, J, J, J, J, J, J, J, J, J, J, J, J, J, J, J, J, J, J, J, J, J, J, J, J, J, J, J, J, J, J, J, J, J, J, J, J, J, J, J, J, J, J, J, J, J, J, J, J, J, J, J, J, J, J, J, J, J, J, J, J, J, J, J, J, J, J, J, J, J, J, J, J, J, J, J, J, J, J, J, J, J, J, J, J, J, J, J, J, J, J, J, J, J, J], [⟨true, g0, 1, true, (setAt (rowI v0) (0 + (Int.toNat i) * 1) [.int .i64 e2]), true⟩, ⟨true, g1, 1, true, (setAt (rowI v1) (0 + (Int.toNat i) * 1) [.int .i64 (planI plan i)]), true⟩]⟩) : G Try.prog E (f83pK1 Try.prog) (f83pS1 m kd plan i k k1 v0 v1 v2_0 v2_1 v2_2 k11 v3 g0 g1 g3) :=
  segC_step (n := 400) (ds := []) (cs := []) (live := [0, 1, 2, 6, 7, 8]) (m := 2) (evs := [.b false, .b false, .v (.int .i64 (planI plan i)), .ld (.int .i64 e1), .ld (.int .i64 e2), .stop]) (obs := _) hE.2.1 (hE.nogh _) mixed (by kernel_rfl) ho hg
theorem f83pW1  (m : Mch) (kd : Int) (plan : List Int) (i : Int) (k : (List Trn)) (k1 : Nat) (v0 : List Int) (v1 : List Int) (v2_0 : Int) (v2_1 : Int) (v2_2 : (List Trn)) (k11 : Nat) (v3 : List Int) {E : Env} {rv : ((List Int) × (List Int))} (hE : PureE Try.prog 83 (.tup [.rsl (rowI rv.1) 0 rv.1.length, .rsl (rowI rv.2) 0 rv.2.length]) E)
    (h : (((k11 : Int) < (k1 : Int) → (∃ te : Trn, k[k11]? = some te ∧ (0 ≤ te.to ∧ (∃ e : Int, v0[Int.toNat te.to]? = some e ∧ (0 ≤ i ∧ (∃ e1 : Int, m.mult[Int.toNat i]? = some e1 ∧ (0 ≤ te.to ∧ (∃ e2 : Int, m.meas[Int.toNat te.to]? = some e2 ∧ ((-9223372036854775808 ≤ Int.tdiv e1 e2 ∧ Int.tdiv e1 e2 ≤ 9223372036854775807) ∧ (e2 ≠ 0 ∧ ((-9223372036854775808 ≤ e * (Int.tdiv e1 e2) ∧ e * (Int.tdiv e1 e2) ≤ 9223372036854775807) ∧ ((v3.length + 1) ≤ 2147483648 ∧ ((-9223372036854775808 ≤ (k11 : Int) + 1 ∧ (k11 : Int) + 1 ≤ 9223372036854775807) ∧ f83pG1 E m kd plan i k k1 v0 v1 v2_0 v2_1 v2_2 (k11 + 1) (v3 ++ [(e * (Int.tdiv e1 e2))])))))))))))))) ∧ (¬ ((k11 : Int) < (k1 : Int)) → ((v2_0 = 1 → f83pG2 E m kd plan i v2_2 v2_2.length v0 v1 v2_0 v2_1 v2_2 v3 0) ∧ (¬ (v2_0 = 1) → ((0 ≤ i ∧ Int.toNat i < plan.length) ∧ (0 ≤ i ∧ (∃ e : Int, v1[Int.toNat i]? = some e ∧ (0 ≤ i ∧ (∃ e1 : Int, (v1.set (Int.toNat i) (planI plan i))[Int.toNat i]? = some e1 ∧ (0 ≤ e1 ∧ (∃ e2 : Int, v3[Int.toNat e1]? = some e2 ∧ (0 ≤ i ∧ (∃ e3 : Int, v0[Int.toNat i]? = some e3 ∧ ((-9223372036854775808 ≤ i - 1 ∧ i - 1 ≤ 9223372036854775807) ∧ f83pG0 E m kd plan (v0.set (Int.toNat i) e2) (v1.set (Int.toNat i) (planI plan i)) (i - 1)))))))))))))))) : f83pG1 E m kd plan i k k1 v0 v1 v2_0 v2_1 v2_2 k11 v3 := by
  intro g0 g1 g3
  rcases Bool.eq_false_or_eq_true (decide ((k11 : Int) < (k1 : Int))) with hc0 | hc0
  · have h := h.1 (of_decide_eq_true hc0)
    obtain ⟨te, h1, h⟩ := h
    obtain ⟨h3, h⟩ := h
    obtain ⟨e, h2, h⟩ := h
    obtain ⟨h5, h⟩ := h
    obtain ⟨e1, h4, h⟩ := h
    obtain ⟨h7, h⟩ := h
    obtain ⟨e2, h6, h⟩ := h
    obtain ⟨q16_1, h⟩ := h
    obtain ⟨q17_1, h⟩ := h
    obtain ⟨q18_1, h⟩ := h
    obtain ⟨h8, h⟩ := h
    obtain ⟨q23_1, h⟩ := h
    refine p83p_1_0 m kd plan i k k1 v0 v1 v2_0 v2_1 v2_2 k11 v3 g0 g1 g3 te e e1 e2 hE ⟨hc0, (idx_ok h1), (row_part cTrn (s := 2) (k := 0) (m := 2) (fun _ => rfl) (by decide) h1), (by decide), (idx_ok' h3 h2), rfl, rfl, (row_part cI (s := 1) (k := 0) (m := 1) (fun _ => rfl) (by decide) h2), (idx_ok' h5 h4), (row_part cI (s := 1) (k := 0) (m := 1) (fun _ => rfl) (by decide) h4), (idx_ok' h7 h6), (row_part cI (s := 1) (k := 0) (m := 1) (fun _ => rfl) (by decide) h6), q16_1, q17_1, q18_1, rfl, (by have hx := row_len cI (s := 1) (fun _ => rfl) v3; simp only [rowI] at hx ⊢; rw [hx]; simp), h8, rfl, q23_1, trivial⟩ ?_
    rw [(show rowI v3 ++ [.int .i64 (e * (Int.tdiv e1 e2))] = rowI (v3 ++ [(e * (Int.tdiv e1 e2))]) from (row_app cI v3 [(e * (Int.tdiv e1 e2))]).symm)]; rw [(show (v3.length + 1) = (v3 ++ [(e * (Int.tdiv e1 e2))]).length from by simp)]; exact (h g0 g1 (g3 + 1))
  · have h := h.2 (of_decide_eq_false hc0)
    rcases Bool.eq_false_or_eq_true (v2_0 == 1) with hc1 | hc1
    · have h := h.1 (eq_of_beq hc1)
      exact p83p_1_1 m kd plan i k k1 v0 v1 v2_0 v2_1 v2_2 k11 v3 g0 g1 g3  hE ⟨hc0, hc1, trivial⟩ (h g0 g1 g3)
    · have h := h.2 (ne_of_beq_false hc1)
      obtain ⟨h1, h⟩ := h
      obtain ⟨h3, h⟩ := h
      obtain ⟨e, h2, h⟩ := h
      obtain ⟨h5, h⟩ := h
      obtain ⟨e1, h4, h⟩ := h
      obtain ⟨h7, h⟩ := h
      obtain ⟨e2, h6, h⟩ := h
      obtain ⟨h9, h⟩ := h
      obtain ⟨e3, h8, h⟩ := h
      obtain ⟨q24_2, h⟩ := h
      refine p83p_1_2 m kd plan i k k1 v0 v1 v2_0 v2_1 v2_2 k11 v3 g0 g1 g3 e e1 e2 e3 hE ⟨hc0, hc1, (pureF_of Try.func119 (by kernel_rfl) f119b (planned1_ok i plan v3 h1)), rfl, (idx_ok' h3 h2), rfl, (row_fits cI (s := 1) (k := 0) (m := 1) (fun _ => rfl) (by decide) h2), rfl, (by have hx := idx_ok' h5 h4; simpa using hx), rfl, rfl, (by rw [(show setAt (rowI v1) (0 + (Int.toNat i) * 1) [.int .i64 (planI plan i)] = rowI (v1.set (Int.toNat i) (planI plan i)) from row_set cI (s := 1) (k := 0) (fun _ => rfl) h2 rfl (by first | decide | simp))]; exact row_part cI (s := 1) (k := 0) (m := 1) (fun _ => rfl) (by decide) h4), (idx_ok' h7 h6), rfl, rfl, (row_part cI (s := 1) (k := 0) (m := 1) (fun _ => rfl) (by decide) h6), (idx_ok' h9 h8), rfl, (row_fits cI (s := 1) (k := 0) (m := 1) (fun _ => rfl) (by decide) h8), rfl, q24_2, trivial⟩ ?_
      have h := (h g0 g1)
      simp only [f83pS0, List.length_set] at h
      rw [(show setAt (rowI v0) (0 + (Int.toNat i) * 1) [.int .i64 e2] = rowI (v0.set (Int.toNat i) e2) from row_set cI (s := 1) (k := 0) (fun _ => rfl) h8 rfl (by first | decide | simp))]; rw [(show setAt (rowI v1) (0 + (Int.toNat i) * 1) [.int .i64 (planI plan i)] = rowI (v1.set (Int.toNat i) (planI plan i)) from row_set cI (s := 1) (k := 0) (fun _ => rfl) h2 rfl (by first | decide | simp))]
      exact h
theorem p83p_2_0  (m : Mch) (kd : Int) (plan : List Int) (i : Int) (j : (List Trn)) (j1 : Nat) (v0 : List Int) (v1 : List Int) (v2_0 : Int) (v2_1 : Int) (v2_2 : (List Trn)) (v3 : List Int) (j11 : Nat) (g0 : Nat) (g1 : Nat) (g3 : Nat) (te : Trn) (e : Int) (e1 : Int)  {E : Env} {rv : AV} (hE : PureE Try.prog 83 rv E) (ho : AllP [(decide ((j11 : Int) < (j1 : Int))) = true, 0 ≤ (j11 : Int) ∧ (j11 : Int) < (j.length : Int), ((rowTrn j).drop (0 + (Int.toNat (j11 : Int)) * 2)).take 2 = [.int .i64 te.w, .int .i64 te.to], 2 ≤ 2, 0 ≤ i ∧ i < (v0.length : Int), g0 = g0, g0 = g0, ((rowI v0).drop (0 + (Int.toNat i) * 1)).take 1 = [.int .i64 e], 0 ≤ (j11 : Int) ∧ (j11 : Int) < (v3.length : Int), g3 = g3, g3 = g3, ((rowI v3).drop (0 + (Int.toNat (j11 : Int)) * 1)).take 1 = [.int .i64 e1], InR .i64 (te.w * e1), InR .i64 (e + (te.w * e1)), 0 ≤ i ∧ i < (v0.length : Int), g0 = g0, ((0 + (Int.toNat i) * 1) + 1) ≤ (rowI v0).length, g0 = g0, InR .i64 ((j11 : Int) + 1)])
    (hg : G Try.prog E (f83pK2 Try.prog) ⟨[.rptr [.rsl (rowStg m.s.stages) 0 m.s.stages.length, .rsl (rowI m.s.worth) 0 m.s.worth.length, .int .i64 m.s.price, .rsl (rowI m.meas) 0 m.meas.length, .rsl (rowI m.mult) 0 m.mult.length] 0, .clos 113 [] [.rptr [.int .i64 kd] 0], .clos 119 [] [.rptr [.rsl (rowI plan) 0 plan.length] 0], J, J, J, .sl 0 g0 0 v0.length 1, .sl 1 g1 0 v1.length 1, .int .i64 i, J, .sl 3 g3 0 v3.length 1, J, J, J, J, J, J, J, J, J, J, J, J, J, J, J, J, J, J, J, J, J, J, J, J, J, J, J, J, J, J, J, J, J, J, J, J, J, J, J, J, J, J, J, J, J, J, J, J, J, J, J, J, J, J, J, J, J, J, J, J, J, J, J, J, J, J, J, J, J, J, J, J, J, J, J, J, J, J, J, J, J, J, J, J, J, J, J, .rsl (rowTrn j) 0 j.length, .int .i64 (j1 : Int), .int .i64 ((j11 : Int) + 1), J, J, J, J, J, J, J, J, J, J, J, J, J, J, J, J, J, J, J, J, J, J, J, J, J, J, J, J, J, J, J, J, J, J, J, J, J], [⟨true, g0, 1, true, (setAt (rowI v0) (0 + (Int.toNat i) * 1) [.int .i64 (e + (te.w * e1))]), true⟩, ⟨true, g1, 1, true, (rowI v1), true⟩, ⟨true, 0, 1, true, [.int .i64 v2_0, .int .i64 v2_1, .rsl (rowTrn v2_2) 0 v2_2.length], false⟩, ⟨true, g3, 1, true, (rowI v3), true⟩]⟩) : G Try.prog E (f83pK2 Try.prog) (f83pS2 m kd plan i j j1 v0 v1 v2_0 v2_1 v2_2 v3 j11 g0 g1 g3) :=
  segC_step (n := 400) (ds := []) (cs := []) (live := [0, 1, 2, 6, 7, 8, 10, 98, 99, 100]) (m := 4) (evs := [.b true, .ld (.agg [.int .i64 te.w, .int .i64 te.to]), .ld (.int .i64 e), .auto, .ld (.int .i64 e1), .stop]) (obs := _) hE.2.1 (hE.nogh _) mixed (by kernel_rfl) ho hg
theorem p83p_2_1  (m : Mch) (kd : Int) (plan : List Int) (i : Int) (j : (List Trn)) (j1 : Nat) (v0 : List Int) (v1 : List Int) (v2_0 : Int) (v2_1 : Int) (v2_2 : (List Trn)) (v3 : List Int) (j11 : Nat) (g0 : Nat) (g1 : Nat) (g3 : Nat)  {E : Env} {rv : AV} (hE : PureE Try.prog 83 rv E) (ho : AllP [(decide ((j11 : Int) < (j1 : Int))) = false, InR .i64 (i - 1)])
    (hg : G Try.prog E (f83pK0 Try.prog) ⟨[.rptr [.rsl (rowStg m.s.stages) 0 m.s.stages.length, .rsl (rowI m.s.worth) 0 m.s.worth.length, .int .i64 m.s.price, .rsl (rowI m.meas) 0 m.meas.length, .rsl (rowI m.mult) 0 m.mult.length] 0, .clos 113 [] [.rptr [.int .i64 kd] 0], .clos 119 [] [.rptr [.rsl (rowI plan) 0 plan.length] 0], J, J, J, .sl 0 g0 0 v0.length 1, .sl 1 g1 0 v1.length 1, .int .i64 (i - 1), J, J, J, J, J, J, J, J, J, J, J, J, J, J, J, J, J, J, J, J, J, J, J, J, J, J, J, J, J, J, J, J, J, J, J, J, J, J, J, J, J, J, J, J, J, J, J, J, J, J, J, J, J, J, J, J, J, J, J, J, J, J, J, J, J, J, J, J, J, J, J, J, J, J, J, J, J, J, J, J, J, J, J, J, J, J, J, J, J, J, J, J, J, J, J, J, J, J, J, J, J, J, J, J, J, J, J, J, J, J, J, J, J, J, J, J, J, J, J, J, J, J, J, J, J, J, J, J, J], [⟨true, g0, 1, true, (rowI v0), true⟩, ⟨true, g1, 1, true, (rowI v1), true⟩]⟩) : G Try.prog E (f83pK2 Try.prog) (f83pS2 m kd plan i j j1 v0 v1 v2_0 v2_1 v2_2 v3 j11 g0 g1 g3) :=
  segC_step (n := 400) (ds := []) (cs := []) (live := [0, 1, 2, 6, 7, 8]) (m := 2) (evs := [.b false, .stop]) (obs := _) hE.2.1 (hE.nogh _) mixed (by kernel_rfl) ho hg
theorem f83pW2  (m : Mch) (kd : Int) (plan : List Int) (i : Int) (j : (List Trn)) (j1 : Nat) (v0 : List Int) (v1 : List Int) (v2_0 : Int) (v2_1 : Int) (v2_2 : (List Trn)) (v3 : List Int) (j11 : Nat) {E : Env} {rv : ((List Int) × (List Int))} (hE : PureE Try.prog 83 (.tup [.rsl (rowI rv.1) 0 rv.1.length, .rsl (rowI rv.2) 0 rv.2.length]) E)
    (h : (((j11 : Int) < (j1 : Int) → (∃ te : Trn, j[j11]? = some te ∧ (0 ≤ i ∧ (∃ e : Int, v0[Int.toNat i]? = some e ∧ (∃ e1 : Int, v3[j11]? = some e1 ∧ ((-9223372036854775808 ≤ te.w * e1 ∧ te.w * e1 ≤ 9223372036854775807) ∧ ((-9223372036854775808 ≤ e + (te.w * e1) ∧ e + (te.w * e1) ≤ 9223372036854775807) ∧ ((-9223372036854775808 ≤ (j11 : Int) + 1 ∧ (j11 : Int) + 1 ≤ 9223372036854775807) ∧ f83pG2 E m kd plan i j j1 (v0.set (Int.toNat i) (e + (te.w * e1))) v1 v2_0 v2_1 v2_2 v3 (j11 + 1))))))))) ∧ (¬ ((j11 : Int) < (j1 : Int)) → ((-9223372036854775808 ≤ i - 1 ∧ i - 1 ≤ 9223372036854775807) ∧ f83pG0 E m kd plan v0 v1 (i - 1))))) : f83pG2 E m kd plan i j j1 v0 v1 v2_0 v2_1 v2_2 v3 j11 := by
  intro g0 g1 g3
  rcases Bool.eq_false_or_eq_true (decide ((j11 : Int) < (j1 : Int))) with hc0 | hc0
  · have h := h.1 (of_decide_eq_true hc0)
    obtain ⟨te, h1, h⟩ := h
    obtain ⟨h3, h⟩ := h
    obtain ⟨e, h2, h⟩ := h
    obtain ⟨e1, h4, h⟩ := h
    obtain ⟨q15_1, h⟩ := h
    obtain ⟨q16_1, h⟩ := h
    obtain ⟨q21_1, h⟩ := h
    refine p83p_2_0 m kd plan i j j1 v0 v1 v2_0 v2_1 v2_2 v3 j11 g0 g1 g3 te e e1 hE ⟨hc0, (idx_ok h1), (row_part cTrn (s := 2) (k := 0) (m := 2) (fun _ => rfl) (by decide) h1), (by decide), (idx_ok' h3 h2), rfl, rfl, (row_part cI (s := 1) (k := 0) (m := 1) (fun _ => rfl) (by decide) h2), (idx_ok h4), rfl, rfl, (row_part cI (s := 1) (k := 0) (m := 1) (fun _ => rfl) (by decide) h4), q15_1, q16_1, (idx_ok' h3 h2), rfl, (row_fits cI (s := 1) (k := 0) (m := 1) (fun _ => rfl) (by decide) h2), rfl, q21_1, trivial⟩ ?_
    have h := (h g0 g1 g3)
    simp only [f83pS2, List.length_set] at h
    rw [(show setAt (rowI v0) (0 + (Int.toNat i) * 1) [.int .i64 (e + (te.w * e1))] = rowI (v0.set (Int.toNat i) (e + (te.w * e1))) from row_set cI (s := 1) (k := 0) (fun _ => rfl) h2 rfl (by first | decide | simp))]
    exact h
  · have h := h.2 (of_decide_eq_false hc0)
    obtain ⟨q1_1, h⟩ := h
    exact p83p_2_1 m kd plan i j j1 v0 v1 v2_0 v2_1 v2_2 v3 j11 g0 g1 g3  hE ⟨hc0, q1_1, trivial⟩ (h g0 g1)

theorem valueo_ok (m : Mch) (kd pa oa : Int) (hm : MOk m) : Pure Try.prog 83 [.rptr (cMch m) 0, .clos 113 [] [.rptr [.int .i64 kd] 0], .clos 114 [] [.rptr [.int .i64 pa] 0, .rptr [.rptr (cMch m) 0] 0, .rptr [.int .i64 oa] 0]] (.tup [.rsl (rowI (valA m (onlyI kd) (chooseI m pa oa)).1) 0 (valA m (onlyI kd) (chooseI m pa oa)).1.length, .rsl (rowI (valA m (onlyI kd) (chooseI m pa oa)).2) 0 (valA m (onlyI kd) (chooseI m pa oa)).2.length]) := pure_of Try.func83 f83ob fun E hE => by
  have hw : WOk m (onlyI kd) (chooseI m pa oa) := wok_only
  have hform := (stPre_of hm.st).2.2.2.2
  have hn := (stPre_of hm.st).1
  have key : ∀ (n : Nat) (p : List Int × List Int), n ≤ m.s.stages.length → VOk m n p → valA m (onlyI kd) (chooseI m pa oa) = valN m (onlyI kd) (chooseI m pa oa) n p → f83oG0 E m kd pa oa p.1 p.2 ((n : Int) - 1) := by
    intro n
    induction n with
    | zero =>
      intro p hn hp ha
      exact f83oW0 m kd pa oa p.1 p.2 _ (rv := valA m (onlyI kd) (chooseI m pa oa)) hE ⟨fun h => by omega, fun _ => by rw [ha, valN]⟩
    | succ i ih =>
      intro p hn' hp ha
      have hi : m.s.stages[i]? = some m.s.stages[i] := List.getElem?_eq_getElem (by omega)
      have hx : m.s.stages.getD i ⟨0, 0, []⟩ = m.s.stages[i] := by simp [List.getD, hi]
      have en : Int.toNat (i : Int) = i := Int.toNat_natCast i
      have e0 : ((i + 1 : Nat) : Int) - 1 = (i : Int) := by omega
      have hp2 := val_step hm hw (by omega) hp
      have nx := ih (valStep m (onlyI kd) (chooseI m pa oa) i p) (by omega) hp2 (by rw [ha, valN])
      have hfo := form_of hi (hform i (by omega))
      have hto := turns_to hi (hform i (by omega))
      have htt := tot_of hi (hform i (by omega))
      have hv0 : p.1[i]? = some (p.1.getD i 0) := getD_some (by rw [hp.l1]; omega)
      have hv1 : p.2[i]? = some (p.2.getD i 0) := getD_some (by rw [hp.l2]; omega)
      obtain ⟨q, q1, q2, q3, q4⟩ := hm.inv.rel i _ (by omega) hi
      unfold valStep at nx
      rw [hx] at nx
      generalize m.s.stages[i] = x at hi hx nx hfo hto htt q2 q4
      rw [e0]
      refine f83oW0 m kd pa oa p.1 p.2 (i : Int) (rv := valA m (onlyI kd) (chooseI m pa oa)) hE ⟨fun _ => ⟨by omega, x, by rw [en]; exact hi, fun h4 => ⟨fun hpr => ⟨by omega, _, by rw [en]; exact hv0, by omega, ?_⟩, fun hpr => ⟨by omega, ?_⟩⟩, fun h4 => ?_⟩, fun h => by omega⟩
      · rw [if_pos h4, if_pos hpr] at nx
        rw [en]; exact nx
      · rw [if_pos h4, if_neg hpr] at nx
        exact nx
      rw [if_neg h4] at nx
      have hlen : 1 ≤ x.turns.length ∧ x.turns.length ≤ 8 := by
        rcases hfo with ⟨h, -⟩ | ⟨-, -, h, -⟩
        · exact absurd h h4
        · exact h
      have inner : ∀ (d k : Nat), k + d = x.turns.length → f83oG1 E m kd pa oa (i : Int) x.turns x.turns.length p.1 p.2 x.kind x.prize x.turns k (nextI m i p.1 (x.turns.take k)) := by
        intro d
        induction d with
        | zero =>
          intro k hd
          rw [List.take_of_length_le (by omega)]
          have hall := next_all hm hi hp q1
          have hl : (nextI m i p.1 x.turns).length = x.turns.length := by simp [nextI]
          have htot := fun (h1 : x.kind = 1) (u : Int) (hu : m.meas[i]? = some u) => sum_bd hm hi hp h1 hu
          have hch := fun (h1 : x.kind ≠ 1) => hw.c1 i x _ hi h4 h1 hl (by omega)
          generalize nextI m i p.1 x.turns = N at nx hall hl htot hch
          refine f83oW1 m kd pa oa (i : Int) x.turns x.turns.length p.1 p.2 x.kind x.prize x.turns k N (rv := valA m (onlyI kd) (chooseI m pa oa)) hE ⟨fun h => by omega, fun _ => ⟨fun h1 => ?_, fun h1 => ?_⟩⟩
          · rw [if_pos h1] at nx
            rw [if_pos h1] at q2
            have tb := htot h1 _ q2
            have mb := hm.inv.pos i _ (by omega) q2
            generalize q * totI x = u at q2 tb mb
            rw [hp.lo i (by omega), Int.zero_add] at nx
            have loop : ∀ (d k : Nat) (vs : List Int) (a : Int), k + d = x.turns.length → vs.length = m.s.stages.length → vs[i]? = some a → 0 ≤ a → a + sumW (x.turns.drop k) (N.drop k) = sumW x.turns N → p.1.set i (sumW x.turns N) = vs.set i (sumW x.turns N) → f83oG2 E m kd pa oa (i : Int) x.turns x.turns.length vs p.2 x.kind x.prize x.turns N k := by
              intro d
              induction d with
              | zero =>
                intro k vs a hd hvl hva ha0 hsum hset
                rw [List.drop_eq_nil_of_le (by omega), sumW, Int.add_zero] at hsum
                rw [← hsum] at hset
                rw [set_same hva] at hset
                refine f83oW2 m kd pa oa (i : Int) x.turns x.turns.length vs p.2 x.kind x.prize x.turns N k (rv := valA m (onlyI kd) (chooseI m pa oa)) hE ⟨fun h => by omega, fun _ => ⟨by omega, ?_⟩⟩
                rw [← hset, hsum]; exact nx
                all_goals simp
              | succ d ih2 =>
                intro k vs a hd hvl hva ha0 hsum hset
                have hk : x.turns[k]? = some x.turns[k] := List.getElem?_eq_getElem (by omega)
                have hN : N[k]? = some N[k] := List.getElem?_eq_getElem (by omega)
                have e1 : x.turns.drop k = x.turns[k] :: x.turns.drop (k + 1) := List.drop_eq_getElem_cons (by omega)
                have e2 : N.drop k = N[k] :: N.drop (k + 1) := List.drop_eq_getElem_cons (by omega)
                rw [e1, e2, sumW] at hsum
                have rest := sumW_bd (ts := x.turns.drop (k + 1)) (es := N.drop (k + 1)) (B := 10000 * q) (fun e he => hall e (List.mem_of_mem_drop he)) (fun t ht => (htt.1.2 t (List.mem_of_mem_drop ht)).1) (by simp [hl])
                have b1 := (htt.1.2 _ (List.mem_of_getElem? hk)).1
                have b2 := (hall _ (List.mem_of_getElem? hN)).1
                generalize x.turns[k] = te at hk hsum b1
                generalize N[k] = e at hN hsum b2
                have b3 := Int.mul_nonneg b1 b2
                refine f83oW2 m kd pa oa (i : Int) x.turns x.turns.length vs p.2 x.kind x.prize x.turns N k (rv := valA m (onlyI kd) (chooseI m pa oa)) hE ⟨fun _ => ⟨te, hk, by omega, a, by rw [en]; exact hva, e, hN, by omega, by omega, by omega, ?_⟩, fun h => by omega⟩
                rw [en]
                exact ih2 (k + 1) _ (a + te.w * e) (by omega) (by simp [hvl]) (by rw [List.getElem?_set_self (by omega)]) (by omega) (by omega) (by rw [List.set_set]; exact hset)
            exact loop x.turns.length 0 p.1 0 (by omega) hp.l1 (by rw [hv0, hp.lo i (by omega)]) (by omega) (by simp) rfl
          · rw [if_neg h1] at nx
            have hc := hch h1
            have hcN : N[Int.toNat ((chooseI m pa oa) (i : Int) N)]? = some (N.getD (Int.toNat ((chooseI m pa oa) (i : Int) N)) 0) := getD_some hc.2
            refine ⟨⟨⟨by omega, by rw [en]; omega⟩, by omega, by omega⟩, by omega, _, by rw [en]; exact hv1, by omega, (chooseI m pa oa) (i : Int) N, by rw [en, List.getElem?_set_self (by rw [hp.l2]; omega)], hc.1, _, hcN, by omega, _, by rw [en]; exact hv0, by omega, ?_⟩
            rw [en]
            exact nx
        | succ d ih2 =>
          intro k hd
          have hk : x.turns[k]? = some x.turns[k] := List.getElem?_eq_getElem (by omega)
          have nxt := next_snoc (m := m) (i := i) (v := p.1) hk
          have htm := List.mem_of_getElem? hk
          generalize x.turns[k] = te at hk nxt htm
          obtain ⟨q', u, n1, n2, n3, n4, n5, n6, n7, n8, n9⟩ := next_bd hm hi hp htm
          have ht := hto te htm
          have hvt : p.1[Int.toNat te.to]? = some (p.1.getD (Int.toNat te.to) 0) := getD_some (by rw [hp.l1]; omega)
          rw [getD_of n1, getD_of n2] at nxt
          refine f83oW1 m kd pa oa (i : Int) x.turns x.turns.length p.1 p.2 x.kind x.prize x.turns k _ (rv := valA m (onlyI kd) (chooseI m pa oa)) hE ⟨fun _ => ⟨te, hk, ht.2.2, _, hvt, by omega, q', by rw [en]; exact n1, ht.2.2, u, n2, by omega, by omega, by omega, ?_, by omega, ?_⟩, fun h => by omega⟩
          · simp [nextI]; omega
          · rw [← nxt]; exact ih2 (k + 1) (by omega)
      exact inner x.turns.length 0 (by omega)
  have e : f83oG0 E m kd pa oa (zeros m.s.stages.length) (zeros m.s.stages.length) ((m.s.stages.length : Int) - 1) := key m.s.stages.length (zeros m.s.stages.length, zeros m.s.stages.length) (Nat.le_refl _) (val_ok0 hm) rfl
  exact f83oW m kd pa oa (rv := valA m (onlyI kd) (chooseI m pa oa)) hE ⟨by omega, by omega, by omega, e⟩


theorem valuep_ok (m : Mch) (kd : Int) (plan : List Int) (hm : MOk m) (hpl : planOk m.s plan = true) : Pure Try.prog 83 [.rptr (cMch m) 0, .clos 113 [] [.rptr [.int .i64 kd] 0], .clos 119 [] [.rptr [.rsl (rowI plan) 0 plan.length] 0]] (.tup [.rsl (rowI (valA m (onlyI kd) (fun i _ => planI plan i)).1) 0 (valA m (onlyI kd) (fun i _ => planI plan i)).1.length, .rsl (rowI (valA m (onlyI kd) (fun i _ => planI plan i)).2) 0 (valA m (onlyI kd) (fun i _ => planI plan i)).2.length]) := pure_of Try.func83 f83pb fun E hE => by
  have hw : WOk m (onlyI kd) (fun i _ => planI plan i) := wok_plan hpl
  have hform := (stPre_of hm.st).2.2.2.2
  have hn := (stPre_of hm.st).1
  have key : ∀ (n : Nat) (p : List Int × List Int), n ≤ m.s.stages.length → VOk m n p → valA m (onlyI kd) (fun i _ => planI plan i) = valN m (onlyI kd) (fun i _ => planI plan i) n p → f83pG0 E m kd plan p.1 p.2 ((n : Int) - 1) := by
    intro n
    induction n with
    | zero =>
      intro p hn hp ha
      exact f83pW0 m kd plan p.1 p.2 _ (rv := valA m (onlyI kd) (fun i _ => planI plan i)) hE ⟨fun h => by omega, fun _ => by rw [ha, valN]⟩
    | succ i ih =>
      intro p hn' hp ha
      have hi : m.s.stages[i]? = some m.s.stages[i] := List.getElem?_eq_getElem (by omega)
      have hx : m.s.stages.getD i ⟨0, 0, []⟩ = m.s.stages[i] := by simp [List.getD, hi]
      have en : Int.toNat (i : Int) = i := Int.toNat_natCast i
      have e0 : ((i + 1 : Nat) : Int) - 1 = (i : Int) := by omega
      have hp2 := val_step hm hw (by omega) hp
      have nx := ih (valStep m (onlyI kd) (fun i _ => planI plan i) i p) (by omega) hp2 (by rw [ha, valN])
      have hfo := form_of hi (hform i (by omega))
      have hto := turns_to hi (hform i (by omega))
      have htt := tot_of hi (hform i (by omega))
      have hv0 : p.1[i]? = some (p.1.getD i 0) := getD_some (by rw [hp.l1]; omega)
      have hv1 : p.2[i]? = some (p.2.getD i 0) := getD_some (by rw [hp.l2]; omega)
      obtain ⟨q, q1, q2, q3, q4⟩ := hm.inv.rel i _ (by omega) hi
      unfold valStep at nx
      rw [hx] at nx
      generalize m.s.stages[i] = x at hi hx nx hfo hto htt q2 q4
      rw [e0]
      refine f83pW0 m kd plan p.1 p.2 (i : Int) (rv := valA m (onlyI kd) (fun i _ => planI plan i)) hE ⟨fun _ => ⟨by omega, x, by rw [en]; exact hi, fun h4 => ⟨fun hpr => ⟨by omega, _, by rw [en]; exact hv0, by omega, ?_⟩, fun hpr => ⟨by omega, ?_⟩⟩, fun h4 => ?_⟩, fun h => by omega⟩
      · rw [if_pos h4, if_pos hpr] at nx
        rw [en]; exact nx
      · rw [if_pos h4, if_neg hpr] at nx
        exact nx
      rw [if_neg h4] at nx
      have hlen : 1 ≤ x.turns.length ∧ x.turns.length ≤ 8 := by
        rcases hfo with ⟨h, -⟩ | ⟨-, -, h, -⟩
        · exact absurd h h4
        · exact h
      have inner : ∀ (d k : Nat), k + d = x.turns.length → f83pG1 E m kd plan (i : Int) x.turns x.turns.length p.1 p.2 x.kind x.prize x.turns k (nextI m i p.1 (x.turns.take k)) := by
        intro d
        induction d with
        | zero =>
          intro k hd
          rw [List.take_of_length_le (by omega)]
          have hall := next_all hm hi hp q1
          have hl : (nextI m i p.1 x.turns).length = x.turns.length := by simp [nextI]
          have htot := fun (h1 : x.kind = 1) (u : Int) (hu : m.meas[i]? = some u) => sum_bd hm hi hp h1 hu
          have hch := fun (h1 : x.kind ≠ 1) => hw.c1 i x _ hi h4 h1 hl (by omega)
          generalize nextI m i p.1 x.turns = N at nx hall hl htot hch
          refine f83pW1 m kd plan (i : Int) x.turns x.turns.length p.1 p.2 x.kind x.prize x.turns k N (rv := valA m (onlyI kd) (fun i _ => planI plan i)) hE ⟨fun h => by omega, fun _ => ⟨fun h1 => ?_, fun h1 => ?_⟩⟩
          · rw [if_pos h1] at nx
            rw [if_pos h1] at q2
            have tb := htot h1 _ q2
            have mb := hm.inv.pos i _ (by omega) q2
            generalize q * totI x = u at q2 tb mb
            rw [hp.lo i (by omega), Int.zero_add] at nx
            have loop : ∀ (d k : Nat) (vs : List Int) (a : Int), k + d = x.turns.length → vs.length = m.s.stages.length → vs[i]? = some a → 0 ≤ a → a + sumW (x.turns.drop k) (N.drop k) = sumW x.turns N → p.1.set i (sumW x.turns N) = vs.set i (sumW x.turns N) → f83pG2 E m kd plan (i : Int) x.turns x.turns.length vs p.2 x.kind x.prize x.turns N k := by
              intro d
              induction d with
              | zero =>
                intro k vs a hd hvl hva ha0 hsum hset
                rw [List.drop_eq_nil_of_le (by omega), sumW, Int.add_zero] at hsum
                rw [← hsum] at hset
                rw [set_same hva] at hset
                refine f83pW2 m kd plan (i : Int) x.turns x.turns.length vs p.2 x.kind x.prize x.turns N k (rv := valA m (onlyI kd) (fun i _ => planI plan i)) hE ⟨fun h => by omega, fun _ => ⟨by omega, ?_⟩⟩
                rw [← hset, hsum]; exact nx
                all_goals simp
              | succ d ih2 =>
                intro k vs a hd hvl hva ha0 hsum hset
                have hk : x.turns[k]? = some x.turns[k] := List.getElem?_eq_getElem (by omega)
                have hN : N[k]? = some N[k] := List.getElem?_eq_getElem (by omega)
                have e1 : x.turns.drop k = x.turns[k] :: x.turns.drop (k + 1) := List.drop_eq_getElem_cons (by omega)
                have e2 : N.drop k = N[k] :: N.drop (k + 1) := List.drop_eq_getElem_cons (by omega)
                rw [e1, e2, sumW] at hsum
                have rest := sumW_bd (ts := x.turns.drop (k + 1)) (es := N.drop (k + 1)) (B := 10000 * q) (fun e he => hall e (List.mem_of_mem_drop he)) (fun t ht => (htt.1.2 t (List.mem_of_mem_drop ht)).1) (by simp [hl])
                have b1 := (htt.1.2 _ (List.mem_of_getElem? hk)).1
                have b2 := (hall _ (List.mem_of_getElem? hN)).1
                generalize x.turns[k] = te at hk hsum b1
                generalize N[k] = e at hN hsum b2
                have b3 := Int.mul_nonneg b1 b2
                refine f83pW2 m kd plan (i : Int) x.turns x.turns.length vs p.2 x.kind x.prize x.turns N k (rv := valA m (onlyI kd) (fun i _ => planI plan i)) hE ⟨fun _ => ⟨te, hk, by omega, a, by rw [en]; exact hva, e, hN, by omega, by omega, by omega, ?_⟩, fun h => by omega⟩
                rw [en]
                exact ih2 (k + 1) _ (a + te.w * e) (by omega) (by simp [hvl]) (by rw [List.getElem?_set_self (by omega)]) (by omega) (by omega) (by rw [List.set_set]; exact hset)
            exact loop x.turns.length 0 p.1 0 (by omega) hp.l1 (by rw [hv0, hp.lo i (by omega)]) (by omega) (by simp) rfl
          · rw [if_neg h1] at nx
            have hc := hch h1
            have hcN : N[Int.toNat ((fun i _ => planI plan i) (i : Int) N)]? = some (N.getD (Int.toNat ((fun i _ => planI plan i) (i : Int) N)) 0) := getD_some hc.2
            refine ⟨⟨by omega, by rw [en, (planOk_of hpl).1]; omega⟩, by omega, _, by rw [en]; exact hv1, by omega, (fun i _ => planI plan i) (i : Int) N, by rw [en, List.getElem?_set_self (by rw [hp.l2]; omega)], hc.1, _, hcN, by omega, _, by rw [en]; exact hv0, by omega, ?_⟩
            rw [en]
            exact nx
        | succ d ih2 =>
          intro k hd
          have hk : x.turns[k]? = some x.turns[k] := List.getElem?_eq_getElem (by omega)
          have nxt := next_snoc (m := m) (i := i) (v := p.1) hk
          have htm := List.mem_of_getElem? hk
          generalize x.turns[k] = te at hk nxt htm
          obtain ⟨q', u, n1, n2, n3, n4, n5, n6, n7, n8, n9⟩ := next_bd hm hi hp htm
          have ht := hto te htm
          have hvt : p.1[Int.toNat te.to]? = some (p.1.getD (Int.toNat te.to) 0) := getD_some (by rw [hp.l1]; omega)
          rw [getD_of n1, getD_of n2] at nxt
          refine f83pW1 m kd plan (i : Int) x.turns x.turns.length p.1 p.2 x.kind x.prize x.turns k _ (rv := valA m (onlyI kd) (fun i _ => planI plan i)) hE ⟨fun _ => ⟨te, hk, ht.2.2, _, hvt, by omega, q', by rw [en]; exact n1, ht.2.2, u, n2, by omega, by omega, by omega, ?_, by omega, ?_⟩, fun h => by omega⟩
          · simp [nextI]; omega
          · rw [← nxt]; exact ih2 (k + 1) (by omega)
      exact inner x.turns.length 0 (by omega)
  have e : f83pG0 E m kd plan (zeros m.s.stages.length) (zeros m.s.stages.length) ((m.s.stages.length : Int) - 1) := key m.s.stages.length (zeros m.s.stages.length, zeros m.s.stages.length) (Nat.le_refl _) (val_ok0 hm) rfl
  exact f83pW m kd plan (rv := valA m (onlyI kd) (fun i _ => planI plan i)) hE ⟨by omega, by omega, by omega, e⟩

end Go.Proofs.Ytfgmlaeikcfpbaa

namespace Go.Proofs.Ytfgmlaeikcfpbaa
open Go Ax
open Go.Proofs

structure Fr where
  num : Int
  den : Int
def cFr (e : Fr) : List AV := [.int .i64 e.num, .int .i64 e.den]
def rowFr (l : List Fr) : List AV := l.flatMap cFr
def fracI (n d : Int) : Fr := ⟨Int.tdiv n (iMax (gcdI (iMax n (0 - n)) d) 1), Int.tdiv d (iMax (gcdI (iMax n (0 - n)) d) 1)⟩
def firstI (m : Mch) (w : Int → Int) (ch : Int → List Int → Int) : Fr := fracI ((valA m w ch).1.getD 0 0) (m.meas.getD 0 0)
theorem f87b : Try.f87.body = some (bodyAt Try.prog 87) := by kernel_rfl
theorem p87_start_0 (n : Int) (d : Int)   {E : Env} {res : AV} (hE : PureE Try.prog 87 res E) (ho : AllP [InR .i64 (0 - n), PureF Try.prog (.clos 117 [] []) [.int .i64 (iMax n (0 - n)), .int .i64 d] (.int .i64 (iMax (gcdI (iMax n (0 - n)) d) 1)), InR .i64 (Int.tdiv n (iMax (gcdI (iMax n (0 - n)) d) 1)), (iMax (gcdI (iMax n (0 - n)) d) 1) ≠ 0, InR .i64 (Int.tdiv d (iMax (gcdI (iMax n (0 - n)) d) 1)), (iMax (gcdI (iMax n (0 - n)) d) 1) ≠ 0, 2 ≤ 2])
    (hr : AvLe (.agg [.int .i64 (Int.tdiv n (iMax (gcdI (iMax n (0 - n)) d) 1)), .int .i64 (Int.tdiv d (iMax (gcdI (iMax n (0 - n)) d) 1))]) res) : G Try.prog E [.code (bodyAt Try.prog 87)] ⟨[.int .i64 n, .int .i64 d] ++ unds (Try.f87.ntmps - 2), []⟩ :=
  end_stepL (n := 400) (evs := [.v (.int .i64 (iMax (gcdI (iMax n (0 - n)) d) 1))]) (obs := _) hE Try.func87 mixed (by kernel_rfl) ho hr
theorem f87W (n : Int) (d : Int) {E : Env} {rv : Fr} (hE : PureE Try.prog 87 (.agg [.int .i64 rv.num, .int .i64 rv.den]) E)
    (h : ((-9223372036854775808 ≤ 0 - n ∧ 0 - n ≤ 9223372036854775807) ∧ ((0 ≤ (iMax n (0 - n)) ∧ 0 ≤ d) ∧ ((-9223372036854775808 ≤ Int.tdiv n (iMax (gcdI (iMax n (0 - n)) d) 1) ∧ Int.tdiv n (iMax (gcdI (iMax n (0 - n)) d) 1) ≤ 9223372036854775807) ∧ ((iMax (gcdI (iMax n (0 - n)) d) 1) ≠ 0 ∧ ((-9223372036854775808 ≤ Int.tdiv d (iMax (gcdI (iMax n (0 - n)) d) 1) ∧ Int.tdiv d (iMax (gcdI (iMax n (0 - n)) d) 1) ≤ 9223372036854775807) ∧ ((iMax (gcdI (iMax n (0 - n)) d) 1) ≠ 0 ∧ rv = (⟨(Int.tdiv n (iMax (gcdI (iMax n (0 - n)) d) 1)), (Int.tdiv d (iMax (gcdI (iMax n (0 - n)) d) 1))⟩ : Fr)))))))) : G Try.prog E [.code (bodyAt Try.prog 87)] ⟨[.int .i64 n, .int .i64 d] ++ unds (Try.f87.ntmps - 2), []⟩ := by
  obtain ⟨q0_0, h⟩ := h
  obtain ⟨h1, h⟩ := h
  obtain ⟨q2_0, h⟩ := h
  obtain ⟨q3_0, h⟩ := h
  obtain ⟨q4_0, h⟩ := h
  obtain ⟨q5_0, h⟩ := h
  exact p87_start_0 n d    hE ⟨q0_0, (pureF_of Try.func117 (by kernel_rfl) f117b (divisor_ok (iMax n (0 - n)) d h1)), q2_0, q3_0, q4_0, q5_0, (by decide), trivial⟩ (AvLe.of_eq (by rw [h]; try rfl))

theorem iMax_pos {a : Int} : 1 ≤ iMax a 1 := by unfold iMax; split <;> omega
theorem tdiv_bd {n g B : Int} (hg : 1 ≤ g) (h1 : -B ≤ n) (h2 : n ≤ B) : -B ≤ Int.tdiv n g ∧ Int.tdiv n g ≤ B := by
  have key : ∀ a : Int, 0 ≤ a → 0 ≤ Int.tdiv a g ∧ Int.tdiv a g ≤ a := fun a ha => by
    rw [Int.tdiv_eq_ediv_of_nonneg ha]
    exact ⟨Int.ediv_nonneg ha (by omega), Int.ediv_le_self g ha⟩
  by_cases h : 0 ≤ n
  · have := key n h; omega
  · have h3 := key (-n) (by omega)
    rw [Int.neg_tdiv] at h3
    omega
theorem frac_ok (n d : Int) (h : (-100000000000000000 ≤ n ∧ n ≤ 100000000000000000) ∧ 0 < d ∧ d ≤ 1000000000000) : Pure Try.prog 87 [.int .i64 n, .int .i64 d] (.agg [.int .i64 (fracI n d).num, .int .i64 (fracI n d).den]) := pure_of Try.func87 f87b fun E hE => by
  have h0 : 0 ≤ iMax n (0 - n) := by unfold iMax; split <;> omega
  have hg : 1 ≤ iMax (gcdI (iMax n (0 - n)) d) 1 := iMax_pos
  have b1 := tdiv_bd hg h.1.1 h.1.2
  have b2 := tdiv_bd (n := d) (B := 1000000000000) hg (by omega) (by omega)
  exact f87W n d (rv := fracI n d) hE ⟨by omega, ⟨h0, by omega⟩, by omega, by omega, by omega, by omega, rfl⟩
theorem meas0 {m : Mch} (hm : MOk m) : ∃ u, m.meas[0]? = some u ∧ 0 < u ∧ u ≤ 1000000000000 := by
  have hn := (stPre_of hm.st).1
  have hg : m.meas[0]? = some (m.meas[0]'(by rw [hm.inv.l1]; omega)) := List.getElem?_eq_getElem _
  exact ⟨_, hg, hm.inv.pos 0 _ (by omega) hg⟩
theorem val0 {m : Mch} (hm : MOk m) {w : Int → Int} {ch : Int → List Int → Int} (hw : WOk m w ch) : ∃ v, (valA m w ch).1[0]? = some v ∧ (-100000000000000000 ≤ v ∧ v ≤ 100000000000000000) := by
  have hn := (stPre_of hm.st).1
  have hv := val_okA hm hw
  obtain ⟨u, h1, h2⟩ := meas0 hm
  have := hv.hi 0 u (by omega) h1
  exact ⟨_, getD_some (by rw [hv.l1]; omega), by omega, by omega⟩

theorem f75ob : Try.f75.body = some (bodyAt Try.prog 75) := by kernel_rfl
theorem p75o_start_0  (m : Mch) (kd pa oa : Int)  (e : Int) (e1 : Int)  {E : Env} {res : AV} (hE : PureE Try.prog 75 res E) (ho : AllP [PureF Try.prog (.clos 83 [] []) [.rptr [.rsl (rowStg m.s.stages) 0 m.s.stages.length, .rsl (rowI m.s.worth) 0 m.s.worth.length, .int .i64 m.s.price, .rsl (rowI m.meas) 0 m.meas.length, .rsl (rowI m.mult) 0 m.mult.length] 0, .clos 113 [] [.rptr [.int .i64 kd] 0], .clos 114 [] [.rptr [.int .i64 pa] 0, .rptr [.rptr [.rsl (rowStg m.s.stages) 0 m.s.stages.length, .rsl (rowI m.s.worth) 0 m.s.worth.length, .int .i64 m.s.price, .rsl (rowI m.meas) 0 m.meas.length, .rsl (rowI m.mult) 0 m.mult.length] 0] 0, .rptr [.int .i64 oa] 0]] (.tup [.rsl (rowI ((valA m (onlyI kd) (chooseI m pa oa)).1)) 0 (((valA m (onlyI kd) (chooseI m pa oa)).1).length), .rsl (rowI ((valA m (onlyI kd) (chooseI m pa oa)).2)) 0 (((valA m (onlyI kd) (chooseI m pa oa)).2).length)]), (0 : Int) ≤ 0 ∧ (0 : Int) < ((((valA m (onlyI kd) (chooseI m pa oa)).1).length : Nat) : Int), ((rowI ((valA m (onlyI kd) (chooseI m pa oa)).1)).drop (0 + 0 * 1)).take 1 = [.int .i64 e], (0 : Int) ≤ 0 ∧ (0 : Int) < (m.meas.length : Int), ((rowI m.meas).drop (0 + 0 * 1)).take 1 = [.int .i64 e1], PureF Try.prog (.clos 87 [] []) [.int .i64 e, .int .i64 e1] (.agg [.int .i64 ((fracI e e1).num), .int .i64 ((fracI e e1).den)]), 2 ≤ 2])
    (hr : AvLe (.agg [.int .i64 ((fracI e e1).num), .int .i64 ((fracI e e1).den)]) res) : G Try.prog E [.code (bodyAt Try.prog 75)] ⟨[.rptr [.rsl (rowStg m.s.stages) 0 m.s.stages.length, .rsl (rowI m.s.worth) 0 m.s.worth.length, .int .i64 m.s.price, .rsl (rowI m.meas) 0 m.meas.length, .rsl (rowI m.mult) 0 m.mult.length] 0, .clos 113 [] [.rptr [.int .i64 kd] 0], .clos 114 [] [.rptr [.int .i64 pa] 0, .rptr [.rptr [.rsl (rowStg m.s.stages) 0 m.s.stages.length, .rsl (rowI m.s.worth) 0 m.s.worth.length, .int .i64 m.s.price, .rsl (rowI m.meas) 0 m.meas.length, .rsl (rowI m.mult) 0 m.mult.length] 0] 0, .rptr [.int .i64 oa] 0]] ++ unds (Try.f75.ntmps - 3), []⟩ :=
  end_stepL (n := 400) (evs := [.v (.tup [.rsl (rowI ((valA m (onlyI kd) (chooseI m pa oa)).1)) 0 (((valA m (onlyI kd) (chooseI m pa oa)).1).length), .rsl (rowI ((valA m (onlyI kd) (chooseI m pa oa)).2)) 0 (((valA m (onlyI kd) (chooseI m pa oa)).2).length)]), .ld (.int .i64 e), .auto, .ld (.int .i64 e1), .v (.agg [.int .i64 ((fracI e e1).num), .int .i64 ((fracI e e1).den)])]) (obs := _) hE Try.func75 mixed (by kernel_rfl) ho hr
theorem f75oW  (m : Mch) (kd pa oa : Int) {E : Env} {rv : Fr} (hE : PureE Try.prog 75 (.agg [.int .i64 rv.num, .int .i64 rv.den]) E)
    (h : ((MOk m) ∧ (∃ e : Int, ((valA m (onlyI kd) (chooseI m pa oa)).1)[0]? = some e ∧ (∃ e1 : Int, m.meas[0]? = some e1 ∧ (((-100000000000000000 ≤ e ∧ e ≤ 100000000000000000) ∧ 0 < e1 ∧ e1 ≤ 1000000000000) ∧ rv = (fracI e e1)))))) : G Try.prog E [.code (bodyAt Try.prog 75)] ⟨[.rptr [.rsl (rowStg m.s.stages) 0 m.s.stages.length, .rsl (rowI m.s.worth) 0 m.s.worth.length, .int .i64 m.s.price, .rsl (rowI m.meas) 0 m.meas.length, .rsl (rowI m.mult) 0 m.mult.length] 0, .clos 113 [] [.rptr [.int .i64 kd] 0], .clos 114 [] [.rptr [.int .i64 pa] 0, .rptr [.rptr [.rsl (rowStg m.s.stages) 0 m.s.stages.length, .rsl (rowI m.s.worth) 0 m.s.worth.length, .int .i64 m.s.price, .rsl (rowI m.meas) 0 m.meas.length, .rsl (rowI m.mult) 0 m.mult.length] 0] 0, .rptr [.int .i64 oa] 0]] ++ unds (Try.f75.ntmps - 3), []⟩ := by
  obtain ⟨h1, h⟩ := h
  obtain ⟨e, h2, h⟩ := h
  obtain ⟨e1, h3, h⟩ := h
  obtain ⟨h4, h⟩ := h
  exact p75o_start_0 m kd pa oa   e e1 hE ⟨(pureF_of Try.func83 (by kernel_rfl) f83ob (valueo_ok m kd pa oa h1)), (idx_ok h2), (row_part cI (s := 1) (k := 0) (m := 1) (fun _ => rfl) (by decide) h2), (idx_ok h3), (row_part cI (s := 1) (k := 0) (m := 1) (fun _ => rfl) (by decide) h3), (pureF_of Try.func87 (by kernel_rfl) f87b (frac_ok e e1 h4)), (by decide), trivial⟩ (AvLe.of_eq (by rw [h]; try rfl))
theorem f75pb : Try.f75.body = some (bodyAt Try.prog 75) := by kernel_rfl
theorem p75p_start_0  (m : Mch) (kd : Int) (plan : List Int)  (e : Int) (e1 : Int)  {E : Env} {res : AV} (hE : PureE Try.prog 75 res E) (ho : AllP [PureF Try.prog (.clos 83 [] []) [.rptr [.rsl (rowStg m.s.stages) 0 m.s.stages.length, .rsl (rowI m.s.worth) 0 m.s.worth.length, .int .i64 m.s.price, .rsl (rowI m.meas) 0 m.meas.length, .rsl (rowI m.mult) 0 m.mult.length] 0, .clos 113 [] [.rptr [.int .i64 kd] 0], .clos 119 [] [.rptr [.rsl (rowI plan) 0 plan.length] 0]] (.tup [.rsl (rowI ((valA m (onlyI kd) (fun i _ => planI plan i)).1)) 0 (((valA m (onlyI kd) (fun i _ => planI plan i)).1).length), .rsl (rowI ((valA m (onlyI kd) (fun i _ => planI plan i)).2)) 0 (((valA m (onlyI kd) (fun i _ => planI plan i)).2).length)]), (0 : Int) ≤ 0 ∧ (0 : Int) < ((((valA m (onlyI kd) (fun i _ => planI plan i)).1).length : Nat) : Int), ((rowI ((valA m (onlyI kd) (fun i _ => planI plan i)).1)).drop (0 + 0 * 1)).take 1 = [.int .i64 e], (0 : Int) ≤ 0 ∧ (0 : Int) < (m.meas.length : Int), ((rowI m.meas).drop (0 + 0 * 1)).take 1 = [.int .i64 e1], PureF Try.prog (.clos 87 [] []) [.int .i64 e, .int .i64 e1] (.agg [.int .i64 ((fracI e e1).num), .int .i64 ((fracI e e1).den)]), 2 ≤ 2])
    (hr : AvLe (.agg [.int .i64 ((fracI e e1).num), .int .i64 ((fracI e e1).den)]) res) : G Try.prog E [.code (bodyAt Try.prog 75)] ⟨[.rptr [.rsl (rowStg m.s.stages) 0 m.s.stages.length, .rsl (rowI m.s.worth) 0 m.s.worth.length, .int .i64 m.s.price, .rsl (rowI m.meas) 0 m.meas.length, .rsl (rowI m.mult) 0 m.mult.length] 0, .clos 113 [] [.rptr [.int .i64 kd] 0], .clos 119 [] [.rptr [.rsl (rowI plan) 0 plan.length] 0]] ++ unds (Try.f75.ntmps - 3), []⟩ :=
  end_stepL (n := 400) (evs := [.v (.tup [.rsl (rowI ((valA m (onlyI kd) (fun i _ => planI plan i)).1)) 0 (((valA m (onlyI kd) (fun i _ => planI plan i)).1).length), .rsl (rowI ((valA m (onlyI kd) (fun i _ => planI plan i)).2)) 0 (((valA m (onlyI kd) (fun i _ => planI plan i)).2).length)]), .ld (.int .i64 e), .auto, .ld (.int .i64 e1), .v (.agg [.int .i64 ((fracI e e1).num), .int .i64 ((fracI e e1).den)])]) (obs := _) hE Try.func75 mixed (by kernel_rfl) ho hr
theorem f75pW  (m : Mch) (kd : Int) (plan : List Int) {E : Env} {rv : Fr} (hE : PureE Try.prog 75 (.agg [.int .i64 rv.num, .int .i64 rv.den]) E)
    (h : ((MOk m ∧ planOk m.s plan = true) ∧ (∃ e : Int, ((valA m (onlyI kd) (fun i _ => planI plan i)).1)[0]? = some e ∧ (∃ e1 : Int, m.meas[0]? = some e1 ∧ (((-100000000000000000 ≤ e ∧ e ≤ 100000000000000000) ∧ 0 < e1 ∧ e1 ≤ 1000000000000) ∧ rv = (fracI e e1)))))) : G Try.prog E [.code (bodyAt Try.prog 75)] ⟨[.rptr [.rsl (rowStg m.s.stages) 0 m.s.stages.length, .rsl (rowI m.s.worth) 0 m.s.worth.length, .int .i64 m.s.price, .rsl (rowI m.meas) 0 m.meas.length, .rsl (rowI m.mult) 0 m.mult.length] 0, .clos 113 [] [.rptr [.int .i64 kd] 0], .clos 119 [] [.rptr [.rsl (rowI plan) 0 plan.length] 0]] ++ unds (Try.f75.ntmps - 3), []⟩ := by
  obtain ⟨h1, h⟩ := h
  obtain ⟨e, h2, h⟩ := h
  obtain ⟨e1, h3, h⟩ := h
  obtain ⟨h4, h⟩ := h
  exact p75p_start_0 m kd plan   e e1 hE ⟨(pureF_of Try.func83 (by kernel_rfl) f83pb (valuep_ok m kd plan h1.1 h1.2)), (idx_ok h2), (row_part cI (s := 1) (k := 0) (m := 1) (fun _ => rfl) (by decide) h2), (idx_ok h3), (row_part cI (s := 1) (k := 0) (m := 1) (fun _ => rfl) (by decide) h3), (pureF_of Try.func87 (by kernel_rfl) f87b (frac_ok e e1 h4)), (by decide), trivial⟩ (AvLe.of_eq (by rw [h]; try rfl))

theorem firsto_ok (m : Mch) (kd pa oa : Int) (hm : MOk m) : Pure Try.prog 75 [.rptr (cMch m) 0, .clos 113 [] [.rptr [.int .i64 kd] 0], .clos 114 [] [.rptr [.int .i64 pa] 0, .rptr [.rptr (cMch m) 0] 0, .rptr [.int .i64 oa] 0]] (.agg [.int .i64 (firstI m (onlyI kd) (chooseI m pa oa)).num, .int .i64 (firstI m (onlyI kd) (chooseI m pa oa)).den]) := pure_of Try.func75 f75ob fun E hE => by
  obtain ⟨v, hv, hb⟩ := val0 hm (w := (onlyI kd)) (ch := (chooseI m pa oa)) (wok_only)
  obtain ⟨u, hu, hb2⟩ := meas0 hm
  exact f75oW m kd pa oa (rv := firstI m (onlyI kd) (chooseI m pa oa)) hE ⟨hm, v, hv, u, hu, ⟨hb, hb2⟩, by rw [firstI, getD_of hv, getD_of hu]⟩


theorem firstp_ok (m : Mch) (kd : Int) (plan : List Int) (hm : MOk m) (hpl : planOk m.s plan = true) : Pure Try.prog 75 [.rptr (cMch m) 0, .clos 113 [] [.rptr [.int .i64 kd] 0], .clos 119 [] [.rptr [.rsl (rowI plan) 0 plan.length] 0]] (.agg [.int .i64 (firstI m (onlyI kd) (fun i _ => planI plan i)).num, .int .i64 (firstI m (onlyI kd) (fun i _ => planI plan i)).den]) := pure_of Try.func75 f75pb fun E hE => by
  obtain ⟨v, hv, hb⟩ := val0 hm (w := (onlyI kd)) (ch := (fun i _ => planI plan i)) (wok_plan hpl)
  obtain ⟨u, hu, hb2⟩ := meas0 hm
  exact f75pW m kd plan (rv := firstI m (onlyI kd) (fun i _ => planI plan i)) hE ⟨⟨hm, hpl⟩, v, hv, u, hu, ⟨hb, hb2⟩, by rw [firstI, getD_of hv, getD_of hu]⟩

theorem f72b : Try.f72.body = some (bodyAt Try.prog 72) := by kernel_rfl
theorem p72_start_0  (m : Mch) (kd pa oa : Int)   {E : Env} {res : AV} (hE : PureE Try.prog 72 res E) (ho : AllP [PureF Try.prog (.clos 73 [] []) [.rptr [.rsl (rowStg m.s.stages) 0 m.s.stages.length, .rsl (rowI m.s.worth) 0 m.s.worth.length, .int .i64 m.s.price, .rsl (rowI m.meas) 0 m.meas.length, .rsl (rowI m.mult) 0 m.mult.length] 0, .int .i64 kd] (.bool (kindI m kd)), (kindI m kd) = true, PureF Try.prog (.clos 74 [] []) [.rsl [.int .i64 pa, .int .i64 oa] 0 2] (.bool (aimsI ([pa, oa]))), 0 = 0])
    (hr : AvLe (.bool (aimsI ([pa, oa]))) res) : G Try.prog E [.code (bodyAt Try.prog 72)] ⟨[.rptr [.rsl (rowStg m.s.stages) 0 m.s.stages.length, .rsl (rowI m.s.worth) 0 m.s.worth.length, .int .i64 m.s.price, .rsl (rowI m.meas) 0 m.meas.length, .rsl (rowI m.mult) 0 m.mult.length] 0, .rptr [.int .i64 kd] 0, .rptr [.int .i64 pa] 0, .rptr [.int .i64 oa] 0] ++ unds (Try.f72.ntmps - 4), []⟩ :=
  end_stepL (n := 400) (evs := [.v (.bool (kindI m kd)), .b true, .v (.bool (aimsI ([pa, oa])))]) (obs := _) hE Try.func72 mixed (by kernel_rfl) ho hr
theorem p72_start_1  (m : Mch) (kd pa oa : Int)   {E : Env} {res : AV} (hE : PureE Try.prog 72 res E) (ho : AllP [PureF Try.prog (.clos 73 [] []) [.rptr [.rsl (rowStg m.s.stages) 0 m.s.stages.length, .rsl (rowI m.s.worth) 0 m.s.worth.length, .int .i64 m.s.price, .rsl (rowI m.meas) 0 m.meas.length, .rsl (rowI m.mult) 0 m.mult.length] 0, .int .i64 kd] (.bool (kindI m kd)), (kindI m kd) = false])
    (hr : AvLe (.bool false) res) : G Try.prog E [.code (bodyAt Try.prog 72)] ⟨[.rptr [.rsl (rowStg m.s.stages) 0 m.s.stages.length, .rsl (rowI m.s.worth) 0 m.s.worth.length, .int .i64 m.s.price, .rsl (rowI m.meas) 0 m.meas.length, .rsl (rowI m.mult) 0 m.mult.length] 0, .rptr [.int .i64 kd] 0, .rptr [.int .i64 pa] 0, .rptr [.int .i64 oa] 0] ++ unds (Try.f72.ntmps - 4), []⟩ :=
  end_stepL (n := 400) (evs := [.v (.bool (kindI m kd)), .b false]) (obs := _) hE Try.func72 mixed (by kernel_rfl) ho hr
theorem f72W  (m : Mch) (kd pa oa : Int) {E : Env} {rv : Bool} (hE : PureE Try.prog 72 (.bool rv) E)
    (h : ((m.s.worth.length ≤ 1000000) ∧ (((kindI m kd) = true → ((([pa, oa]).length ≤ 9223372036854775807) ∧ rv = (aimsI ([pa, oa])))) ∧ ((kindI m kd) = false → rv = false)))) : G Try.prog E [.code (bodyAt Try.prog 72)] ⟨[.rptr [.rsl (rowStg m.s.stages) 0 m.s.stages.length, .rsl (rowI m.s.worth) 0 m.s.worth.length, .int .i64 m.s.price, .rsl (rowI m.meas) 0 m.meas.length, .rsl (rowI m.mult) 0 m.mult.length] 0, .rptr [.int .i64 kd] 0, .rptr [.int .i64 pa] 0, .rptr [.int .i64 oa] 0] ++ unds (Try.f72.ntmps - 4), []⟩ := by
  obtain ⟨h1, h⟩ := h
  rcases Bool.eq_false_or_eq_true (kindI m kd) with hc0 | hc0
  · have h := h.1 hc0
    obtain ⟨h2, h⟩ := h
    exact p72_start_0 m kd pa oa    hE ⟨(pureF_of Try.func73 (by kernel_rfl) f73b (kind_ok m kd h1)), hc0, (pureF_of Try.func74 (by kernel_rfl) f74b (aims_ok ([pa, oa]) h2)), rfl, trivial⟩ (AvLe.of_eq (by rw [h]; try rfl))
  · have h := h.2 hc0
    exact p72_start_1 m kd pa oa    hE ⟨(pureF_of Try.func73 (by kernel_rfl) f73b (kind_ok m kd h1)), hc0, trivial⟩ (AvLe.of_eq (by rw [h]; try rfl))
theorem f104b : Try.f104.body = some (bodyAt Try.prog 104) := by kernel_rfl
theorem p104_start_0  (m : Mch)   {E : Env} {res : AV} (hE : PureE Try.prog 104 res E) (ho : AllP [])
    (hr : AvLe (.bool true) res) : G Try.prog E [.code (bodyAt Try.prog 104)] ⟨[.rptr [.rsl (rowStg m.s.stages) 0 m.s.stages.length, .rsl (rowI m.s.worth) 0 m.s.worth.length, .int .i64 m.s.price, .rsl (rowI m.meas) 0 m.meas.length, .rsl (rowI m.mult) 0 m.mult.length] 0] ++ unds (Try.f104.ntmps - 1), []⟩ :=
  end_stepL (n := 400) (evs := []) (obs := _) hE Try.func104 mixed (by kernel_rfl) ho hr
theorem f104W  (m : Mch) {E : Env} {rv : Bool} (hE : PureE Try.prog 104 (.bool rv) E)
    (h : rv = true) : G Try.prog E [.code (bodyAt Try.prog 104)] ⟨[.rptr [.rsl (rowStg m.s.stages) 0 m.s.stages.length, .rsl (rowI m.s.worth) 0 m.s.worth.length, .int .i64 m.s.price, .rsl (rowI m.meas) 0 m.meas.length, .rsl (rowI m.mult) 0 m.mult.length] 0] ++ unds (Try.f104.ntmps - 1), []⟩ := by
  exact p104_start_0 m    hE trivial (AvLe.of_eq (by rw [h]; try rfl))
theorem f93b : Try.f93.body = some (bodyAt Try.prog 93) := by kernel_rfl
def f93K0 (P : Program) : List Item := kAt 400 [.code (bodyAt P 93)] [.b false, .stop]
def f93S0 (l : (List Int)) (m : Mch) (i : Nat)  : St := ⟨[.rptr [.rsl (rowStg m.s.stages) 0 m.s.stages.length, .rsl (rowI m.s.worth) 0 m.s.worth.length, .int .i64 m.s.price, .rsl (rowI m.meas) 0 m.meas.length, .rsl (rowI m.mult) 0 m.mult.length] 0, J, J, J, J, J, J, J, J, J, J, J, J, J, J, J, J, J, .rsl (rowI l) 0 l.length, .int .i64 (l.length : Int), .int .i64 (i : Int), J, J, J, J, J, J, J, J, J, J, J, J, J, J, J, J, J, J, J, J, J, J, J, J, J, J, J, J, J, J, J, J, J, J, J], []⟩
def f93G0 (E : Env) (l : (List Int)) (m : Mch) (i : Nat) : Prop := G Try.prog E (f93K0 Try.prog) (f93S0 l m i )
theorem p93_start_0 (l : (List Int)) (m : Mch)   {E : Env} {res : AV} (hE : PureE Try.prog 93 res E) (ho : AllP [((l.length : Int) != (m.s.stages.length : Int)) = true])
    (hr : AvLe (.bool false) res) : G Try.prog E [.code (bodyAt Try.prog 93)] ⟨[.rptr [.rsl (rowStg m.s.stages) 0 m.s.stages.length, .rsl (rowI m.s.worth) 0 m.s.worth.length, .int .i64 m.s.price, .rsl (rowI m.meas) 0 m.meas.length, .rsl (rowI m.mult) 0 m.mult.length] 0, .rsl (rowI l) 0 l.length] ++ unds (Try.f93.ntmps - 2), []⟩ :=
  end_stepL (n := 400) (evs := [.b true]) (obs := _) hE Try.func93 mixed (by kernel_rfl) ho hr
theorem p93_start_1 (l : (List Int)) (m : Mch)   {E : Env} {rv : AV} (hE : PureE Try.prog 93 rv E) (ho : AllP [((l.length : Int) != (m.s.stages.length : Int)) = false])
    (hg : G Try.prog E (f93K0 Try.prog) ⟨[.rptr [.rsl (rowStg m.s.stages) 0 m.s.stages.length, .rsl (rowI m.s.worth) 0 m.s.worth.length, .int .i64 m.s.price, .rsl (rowI m.meas) 0 m.meas.length, .rsl (rowI m.mult) 0 m.mult.length] 0, J, J, J, J, J, J, J, J, J, J, J, J, J, J, J, J, J, .rsl (rowI l) 0 l.length, .int .i64 (l.length : Int), .int .i64 0, J, J, J, J, J, J, J, J, J, J, J, J, J, J, J, J, J, J, J, J, J, J, J, J, J, J, J, J, J, J, J, J, J, J, J], []⟩) : G Try.prog E [.code (bodyAt Try.prog 93)] ⟨[.rptr [.rsl (rowStg m.s.stages) 0 m.s.stages.length, .rsl (rowI m.s.worth) 0 m.s.worth.length, .int .i64 m.s.price, .rsl (rowI m.meas) 0 m.meas.length, .rsl (rowI m.mult) 0 m.mult.length] 0, .rsl (rowI l) 0 l.length] ++ unds (Try.f93.ntmps - 2), []⟩ :=
  segC_step (n := 400) (ds := []) (cs := []) (live := [0, 18, 19, 20]) (m := 0) (evs := [.b false, .stop]) (obs := _) hE.2.1 (hE.nogh _) mixed (by kernel_rfl) ho hg
theorem f93W (l : (List Int)) (m : Mch) {E : Env} {rv : Bool} (hE : PureE Try.prog 93 (.bool rv) E)
    (h : ((¬ ((l.length : Int) = (m.s.stages.length : Int)) → rv = false) ∧ ((l.length : Int) = (m.s.stages.length : Int) → f93G0 E l m 0))) : G Try.prog E [.code (bodyAt Try.prog 93)] ⟨[.rptr [.rsl (rowStg m.s.stages) 0 m.s.stages.length, .rsl (rowI m.s.worth) 0 m.s.worth.length, .int .i64 m.s.price, .rsl (rowI m.meas) 0 m.meas.length, .rsl (rowI m.mult) 0 m.mult.length] 0, .rsl (rowI l) 0 l.length] ++ unds (Try.f93.ntmps - 2), []⟩ := by
  rcases Bool.eq_false_or_eq_true ((l.length : Int) != (m.s.stages.length : Int)) with hc0 | hc0
  · have h := h.1 (bneT hc0)
    exact p93_start_0 l m    hE ⟨hc0, trivial⟩ (AvLe.of_eq (by rw [h]; try rfl))
  · have h := h.2 (bneF hc0)
    exact p93_start_1 l m    hE ⟨hc0, trivial⟩ h
theorem p93_0_0 (l : (List Int)) (m : Mch) (i : Nat)  (e : Int) (se : Stg)  {E : Env} {res : AV} (hE : PureE Try.prog 93 res E) (ho : AllP [(decide ((i : Int) < (l.length : Int))) = true, 0 ≤ (i : Int) ∧ (i : Int) < (l.length : Int), ((rowI l).drop (0 + (Int.toNat (i : Int)) * 1)).take 1 = [.int .i64 e], 0 ≤ (i : Int) ∧ (i : Int) < (m.s.stages.length : Int), ((rowStg m.s.stages).drop ((0 + (Int.toNat (i : Int)) * 3) + 0)).take 1 = [.int .i64 se.kind], (se.kind == 2) = true, true = true, 0 ≤ (i : Int) ∧ (i : Int) < (m.s.stages.length : Int), ((rowStg m.s.stages).drop ((0 + (Int.toNat (i : Int)) * 3) + 2)).take 1 = [.rsl (rowTrn se.turns) 0 se.turns.length], InR .i64 ((se.turns.length : Int) - 1), PureF Try.prog (.clos 65 [] []) [.int .i64 e, .int .i64 0, .int .i64 ((se.turns.length : Int) - 1)] (.bool (within e 0 ((se.turns.length : Int) - 1))), (!(within e 0 ((se.turns.length : Int) - 1))) = true])
    (hr : AvLe (.bool false) res) : G Try.prog E (f93K0 Try.prog) (f93S0 l m i ) :=
  end_stepL (n := 400) (evs := [.b true, .ld (.int .i64 e), .auto, .ld (.int .i64 se.kind), .b true, .b true, .auto, .ld (.rsl (rowTrn se.turns) 0 se.turns.length), .v (.bool (within e 0 ((se.turns.length : Int) - 1))), .b true]) (obs := _) hE Try.func93 mixed (by kernel_rfl) ho hr
theorem p93_0_1 (l : (List Int)) (m : Mch) (i : Nat)  (e : Int) (se : Stg)  {E : Env} {rv : AV} (hE : PureE Try.prog 93 rv E) (ho : AllP [(decide ((i : Int) < (l.length : Int))) = true, 0 ≤ (i : Int) ∧ (i : Int) < (l.length : Int), ((rowI l).drop (0 + (Int.toNat (i : Int)) * 1)).take 1 = [.int .i64 e], 0 ≤ (i : Int) ∧ (i : Int) < (m.s.stages.length : Int), ((rowStg m.s.stages).drop ((0 + (Int.toNat (i : Int)) * 3) + 0)).take 1 = [.int .i64 se.kind], (se.kind == 2) = true, true = true, 0 ≤ (i : Int) ∧ (i : Int) < (m.s.stages.length : Int), ((rowStg m.s.stages).drop ((0 + (Int.toNat (i : Int)) * 3) + 2)).take 1 = [.rsl (rowTrn se.turns) 0 se.turns.length], InR .i64 ((se.turns.length : Int) - 1), PureF Try.prog (.clos 65 [] []) [.int .i64 e, .int .i64 0, .int .i64 ((se.turns.length : Int) - 1)] (.bool (within e 0 ((se.turns.length : Int) - 1))), (!(within e 0 ((se.turns.length : Int) - 1))) = false, InR .i64 ((i : Int) + 1)])
    (hg : G Try.prog E (f93K0 Try.prog) ⟨[.rptr [.rsl (rowStg m.s.stages) 0 m.s.stages.length, .rsl (rowI m.s.worth) 0 m.s.worth.length, .int .i64 m.s.price, .rsl (rowI m.meas) 0 m.meas.length, .rsl (rowI m.mult) 0 m.mult.length] 0, J, J, J, J, J, J, J, J, J, J, J, J, J, J, J, J, J, .rsl (rowI l) 0 l.length, .int .i64 (l.length : Int), .int .i64 ((i : Int) + 1), J, J, J, J, J, J, J, J, J, J, J, J, J, J, J, J, J, J, J, J, J, J, J, J, J, J, J, J, J, J, J, J, J, J, J], []⟩) : G Try.prog E (f93K0 Try.prog) (f93S0 l m i ) :=
  segC_step (n := 400) (ds := []) (cs := []) (live := [0, 18, 19, 20]) (m := 0) (evs := [.b true, .ld (.int .i64 e), .auto, .ld (.int .i64 se.kind), .b true, .b true, .auto, .ld (.rsl (rowTrn se.turns) 0 se.turns.length), .v (.bool (within e 0 ((se.turns.length : Int) - 1))), .b false, .stop]) (obs := _) hE.2.1 (hE.nogh _) mixed (by kernel_rfl) ho hg
theorem p93_0_2 (l : (List Int)) (m : Mch) (i : Nat)  (e : Int) (se : Stg)  {E : Env} {res : AV} (hE : PureE Try.prog 93 res E) (ho : AllP [(decide ((i : Int) < (l.length : Int))) = true, 0 ≤ (i : Int) ∧ (i : Int) < (l.length : Int), ((rowI l).drop (0 + (Int.toNat (i : Int)) * 1)).take 1 = [.int .i64 e], 0 ≤ (i : Int) ∧ (i : Int) < (m.s.stages.length : Int), ((rowStg m.s.stages).drop ((0 + (Int.toNat (i : Int)) * 3) + 0)).take 1 = [.int .i64 se.kind], (se.kind == 2) = false, (se.kind == 3) = true, 0 ≤ (i : Int) ∧ (i : Int) < (m.s.stages.length : Int), ((rowStg m.s.stages).drop ((0 + (Int.toNat (i : Int)) * 3) + 2)).take 1 = [.rsl (rowTrn se.turns) 0 se.turns.length], InR .i64 ((se.turns.length : Int) - 1), PureF Try.prog (.clos 65 [] []) [.int .i64 e, .int .i64 0, .int .i64 ((se.turns.length : Int) - 1)] (.bool (within e 0 ((se.turns.length : Int) - 1))), (!(within e 0 ((se.turns.length : Int) - 1))) = true])
    (hr : AvLe (.bool false) res) : G Try.prog E (f93K0 Try.prog) (f93S0 l m i ) :=
  end_stepL (n := 400) (evs := [.b true, .ld (.int .i64 e), .auto, .ld (.int .i64 se.kind), .b false, .b true, .auto, .ld (.rsl (rowTrn se.turns) 0 se.turns.length), .v (.bool (within e 0 ((se.turns.length : Int) - 1))), .b true]) (obs := _) hE Try.func93 mixed (by kernel_rfl) ho hr
theorem p93_0_3 (l : (List Int)) (m : Mch) (i : Nat)  (e : Int) (se : Stg)  {E : Env} {rv : AV} (hE : PureE Try.prog 93 rv E) (ho : AllP [(decide ((i : Int) < (l.length : Int))) = true, 0 ≤ (i : Int) ∧ (i : Int) < (l.length : Int), ((rowI l).drop (0 + (Int.toNat (i : Int)) * 1)).take 1 = [.int .i64 e], 0 ≤ (i : Int) ∧ (i : Int) < (m.s.stages.length : Int), ((rowStg m.s.stages).drop ((0 + (Int.toNat (i : Int)) * 3) + 0)).take 1 = [.int .i64 se.kind], (se.kind == 2) = false, (se.kind == 3) = true, 0 ≤ (i : Int) ∧ (i : Int) < (m.s.stages.length : Int), ((rowStg m.s.stages).drop ((0 + (Int.toNat (i : Int)) * 3) + 2)).take 1 = [.rsl (rowTrn se.turns) 0 se.turns.length], InR .i64 ((se.turns.length : Int) - 1), PureF Try.prog (.clos 65 [] []) [.int .i64 e, .int .i64 0, .int .i64 ((se.turns.length : Int) - 1)] (.bool (within e 0 ((se.turns.length : Int) - 1))), (!(within e 0 ((se.turns.length : Int) - 1))) = false, InR .i64 ((i : Int) + 1)])
    (hg : G Try.prog E (f93K0 Try.prog) ⟨[.rptr [.rsl (rowStg m.s.stages) 0 m.s.stages.length, .rsl (rowI m.s.worth) 0 m.s.worth.length, .int .i64 m.s.price, .rsl (rowI m.meas) 0 m.meas.length, .rsl (rowI m.mult) 0 m.mult.length] 0, J, J, J, J, J, J, J, J, J, J, J, J, J, J, J, J, J, .rsl (rowI l) 0 l.length, .int .i64 (l.length : Int), .int .i64 ((i : Int) + 1), J, J, J, J, J, J, J, J, J, J, J, J, J, J, J, J, J, J, J, J, J, J, J, J, J, J, J, J, J, J, J, J, J, J, J], []⟩) : G Try.prog E (f93K0 Try.prog) (f93S0 l m i ) :=
  segC_step (n := 400) (ds := []) (cs := []) (live := [0, 18, 19, 20]) (m := 0) (evs := [.b true, .ld (.int .i64 e), .auto, .ld (.int .i64 se.kind), .b false, .b true, .auto, .ld (.rsl (rowTrn se.turns) 0 se.turns.length), .v (.bool (within e 0 ((se.turns.length : Int) - 1))), .b false, .stop]) (obs := _) hE.2.1 (hE.nogh _) mixed (by kernel_rfl) ho hg
theorem p93_0_4 (l : (List Int)) (m : Mch) (i : Nat)  (e : Int) (se : Stg)  {E : Env} {res : AV} (hE : PureE Try.prog 93 res E) (ho : AllP [(decide ((i : Int) < (l.length : Int))) = true, 0 ≤ (i : Int) ∧ (i : Int) < (l.length : Int), ((rowI l).drop (0 + (Int.toNat (i : Int)) * 1)).take 1 = [.int .i64 e], 0 ≤ (i : Int) ∧ (i : Int) < (m.s.stages.length : Int), ((rowStg m.s.stages).drop ((0 + (Int.toNat (i : Int)) * 3) + 0)).take 1 = [.int .i64 se.kind], (se.kind == 2) = false, (se.kind == 3) = false, PureF Try.prog (.clos 65 [] []) [.int .i64 e, .int .i64 0, .int .i64 0] (.bool (within e 0 0)), (!(within e 0 0)) = true])
    (hr : AvLe (.bool false) res) : G Try.prog E (f93K0 Try.prog) (f93S0 l m i ) :=
  end_stepL (n := 400) (evs := [.b true, .ld (.int .i64 e), .auto, .ld (.int .i64 se.kind), .b false, .b false, .v (.bool (within e 0 0)), .b true]) (obs := _) hE Try.func93 mixed (by kernel_rfl) ho hr
theorem p93_0_5 (l : (List Int)) (m : Mch) (i : Nat)  (e : Int) (se : Stg)  {E : Env} {rv : AV} (hE : PureE Try.prog 93 rv E) (ho : AllP [(decide ((i : Int) < (l.length : Int))) = true, 0 ≤ (i : Int) ∧ (i : Int) < (l.length : Int), ((rowI l).drop (0 + (Int.toNat (i : Int)) * 1)).take 1 = [.int .i64 e], 0 ≤ (i : Int) ∧ (i : Int) < (m.s.stages.length : Int), ((rowStg m.s.stages).drop ((0 + (Int.toNat (i : Int)) * 3) + 0)).take 1 = [.int .i64 se.kind], (se.kind == 2) = false, (se.kind == 3) = false, PureF Try.prog (.clos 65 [] []) [.int .i64 e, .int .i64 0, .int .i64 0] (.bool (within e 0 0)), (!(within e 0 0)) = false, InR .i64 ((i : Int) + 1)])
    (hg : G Try.prog E (f93K0 Try.prog) ⟨[.rptr [.rsl (rowStg m.s.stages) 0 m.s.stages.length, .rsl (rowI m.s.worth) 0 m.s.worth.length, .int .i64 m.s.price, .rsl (rowI m.meas) 0 m.meas.length, .rsl (rowI m.mult) 0 m.mult.length] 0, J, J, J, J, J, J, J, J, J, J, J, J, J, J, J, J, J, .rsl (rowI l) 0 l.length, .int .i64 (l.length : Int), .int .i64 ((i : Int) + 1), J, J, J, J, J, J, J, J, J, J, J, J, J, J, J, J, J, J, J, J, J, J, J, J, J, J, J, J, J, J, J, J, J, J, J], []⟩) : G Try.prog E (f93K0 Try.prog) (f93S0 l m i ) :=
  segC_step (n := 400) (ds := []) (cs := []) (live := [0, 18, 19, 20]) (m := 0) (evs := [.b true, .ld (.int .i64 e), .auto, .ld (.int .i64 se.kind), .b false, .b false, .v (.bool (within e 0 0)), .b false, .stop]) (obs := _) hE.2.1 (hE.nogh _) mixed (by kernel_rfl) ho hg
theorem p93_0_6 (l : (List Int)) (m : Mch) (i : Nat)   {E : Env} {res : AV} (hE : PureE Try.prog 93 res E) (ho : AllP [(decide ((i : Int) < (l.length : Int))) = false])
    (hr : AvLe (.bool true) res) : G Try.prog E (f93K0 Try.prog) (f93S0 l m i ) :=
  end_stepL (n := 400) (evs := [.b false]) (obs := _) hE Try.func93 mixed (by kernel_rfl) ho hr
theorem f93W0 (l : (List Int)) (m : Mch) (i : Nat) {E : Env} {rv : Bool} (hE : PureE Try.prog 93 (.bool rv) E)
    (h : (((i : Int) < (l.length : Int) → (∃ e : Int, l[i]? = some e ∧ (∃ se : Stg, m.s.stages[i]? = some se ∧ ((se.kind = 2 → ((-9223372036854775808 ≤ (se.turns.length : Int) - 1 ∧ (se.turns.length : Int) - 1 ≤ 9223372036854775807) ∧ (((within e 0 ((se.turns.length : Int) - 1)) = false → rv = false) ∧ ((within e 0 ((se.turns.length : Int) - 1)) = true → ((-9223372036854775808 ≤ (i : Int) + 1 ∧ (i : Int) + 1 ≤ 9223372036854775807) ∧ f93G0 E l m (i + 1)))))) ∧ (¬ (se.kind = 2) → ((se.kind = 3 → ((-9223372036854775808 ≤ (se.turns.length : Int) - 1 ∧ (se.turns.length : Int) - 1 ≤ 9223372036854775807) ∧ (((within e 0 ((se.turns.length : Int) - 1)) = false → rv = false) ∧ ((within e 0 ((se.turns.length : Int) - 1)) = true → ((-9223372036854775808 ≤ (i : Int) + 1 ∧ (i : Int) + 1 ≤ 9223372036854775807) ∧ f93G0 E l m (i + 1)))))) ∧ (¬ (se.kind = 3) → (((within e 0 0) = false → rv = false) ∧ ((within e 0 0) = true → ((-9223372036854775808 ≤ (i : Int) + 1 ∧ (i : Int) + 1 ≤ 9223372036854775807) ∧ f93G0 E l m (i + 1))))))))))) ∧ (¬ ((i : Int) < (l.length : Int)) → rv = true))) : f93G0 E l m i := by
  rcases Bool.eq_false_or_eq_true (decide ((i : Int) < (l.length : Int))) with hc0 | hc0
  · have h := h.1 (of_decide_eq_true hc0)
    obtain ⟨e, h1, h⟩ := h
    obtain ⟨se, h2, h⟩ := h
    rcases Bool.eq_false_or_eq_true (se.kind == 2) with hc1 | hc1
    · have h := h.1 (eq_of_beq hc1)
      obtain ⟨q11_2, h⟩ := h
      rcases Bool.eq_false_or_eq_true (!(within e 0 ((se.turns.length : Int) - 1))) with hc2 | hc2
      · have h := h.1 (bnT hc2)
        exact p93_0_0 l m i  e se hE ⟨hc0, (idx_ok h1), (row_part cI (s := 1) (k := 0) (m := 1) (fun _ => rfl) (by decide) h1), (idx_ok h2), (row_part cStg (s := 3) (k := 0) (m := 1) (fun _ => rfl) (by decide) h2), hc1, rfl, (idx_ok h2), (row_part cStg (s := 3) (k := 2) (m := 1) (fun _ => rfl) (by decide) h2), q11_2, (pureF_of Try.func65 (by kernel_rfl) f65b (within_ok e 0 ((se.turns.length : Int) - 1))), hc2, trivial⟩ (AvLe.of_eq (by rw [h]; try rfl))
      · have h := h.2 (bnF hc2)
        obtain ⟨q14_3, h⟩ := h
        exact p93_0_1 l m i  e se hE ⟨hc0, (idx_ok h1), (row_part cI (s := 1) (k := 0) (m := 1) (fun _ => rfl) (by decide) h1), (idx_ok h2), (row_part cStg (s := 3) (k := 0) (m := 1) (fun _ => rfl) (by decide) h2), hc1, rfl, (idx_ok h2), (row_part cStg (s := 3) (k := 2) (m := 1) (fun _ => rfl) (by decide) h2), q11_2, (pureF_of Try.func65 (by kernel_rfl) f65b (within_ok e 0 ((se.turns.length : Int) - 1))), hc2, q14_3, trivial⟩ h
    · have h := h.2 (ne_of_beq_false hc1)
      rcases Bool.eq_false_or_eq_true (se.kind == 3) with hc2 | hc2
      · have h := h.1 (eq_of_beq hc2)
        obtain ⟨q11_3, h⟩ := h
        rcases Bool.eq_false_or_eq_true (!(within e 0 ((se.turns.length : Int) - 1))) with hc3 | hc3
        · have h := h.1 (bnT hc3)
          exact p93_0_2 l m i  e se hE ⟨hc0, (idx_ok h1), (row_part cI (s := 1) (k := 0) (m := 1) (fun _ => rfl) (by decide) h1), (idx_ok h2), (row_part cStg (s := 3) (k := 0) (m := 1) (fun _ => rfl) (by decide) h2), hc1, hc2, (idx_ok h2), (row_part cStg (s := 3) (k := 2) (m := 1) (fun _ => rfl) (by decide) h2), q11_3, (pureF_of Try.func65 (by kernel_rfl) f65b (within_ok e 0 ((se.turns.length : Int) - 1))), hc3, trivial⟩ (AvLe.of_eq (by rw [h]; try rfl))
        · have h := h.2 (bnF hc3)
          obtain ⟨q14_4, h⟩ := h
          exact p93_0_3 l m i  e se hE ⟨hc0, (idx_ok h1), (row_part cI (s := 1) (k := 0) (m := 1) (fun _ => rfl) (by decide) h1), (idx_ok h2), (row_part cStg (s := 3) (k := 0) (m := 1) (fun _ => rfl) (by decide) h2), hc1, hc2, (idx_ok h2), (row_part cStg (s := 3) (k := 2) (m := 1) (fun _ => rfl) (by decide) h2), q11_3, (pureF_of Try.func65 (by kernel_rfl) f65b (within_ok e 0 ((se.turns.length : Int) - 1))), hc3, q14_4, trivial⟩ h
      · have h := h.2 (ne_of_beq_false hc2)
        rcases Bool.eq_false_or_eq_true (!(within e 0 0)) with hc3 | hc3
        · have h := h.1 (bnT hc3)
          exact p93_0_4 l m i  e se hE ⟨hc0, (idx_ok h1), (row_part cI (s := 1) (k := 0) (m := 1) (fun _ => rfl) (by decide) h1), (idx_ok h2), (row_part cStg (s := 3) (k := 0) (m := 1) (fun _ => rfl) (by decide) h2), hc1, hc2, (pureF_of Try.func65 (by kernel_rfl) f65b (within_ok e 0 0)), hc3, trivial⟩ (AvLe.of_eq (by rw [h]; try rfl))
        · have h := h.2 (bnF hc3)
          obtain ⟨q11_4, h⟩ := h
          exact p93_0_5 l m i  e se hE ⟨hc0, (idx_ok h1), (row_part cI (s := 1) (k := 0) (m := 1) (fun _ => rfl) (by decide) h1), (idx_ok h2), (row_part cStg (s := 3) (k := 0) (m := 1) (fun _ => rfl) (by decide) h2), hc1, hc2, (pureF_of Try.func65 (by kernel_rfl) f65b (within_ok e 0 0)), hc3, q11_4, trivial⟩ h
  · have h := h.2 (of_decide_eq_false hc0)
    exact p93_0_6 l m i   hE ⟨hc0, trivial⟩ (AvLe.of_eq (by rw [h]; try rfl))

theorem plan_ok (m : Mch) (l : List Int) (hm : MOk m) : Pure Try.prog 93 [.rptr (cMch m) 0, .rsl (rowI l) 0 l.length] (.bool (planOk m.s l)) := pure_of Try.func93 f93b fun E hE => by
  have hn := (stPre_of hm.st).1
  have hform := (stPre_of hm.st).2.2.2.2
  refine f93W l m (rv := planOk m.s l) hE ⟨fun h => by simp [planOk, show ¬ (l.length = m.s.stages.length) by omega], fun h => ?_⟩
  have hl : l.length = m.s.stages.length := by omega
  have key : ∀ (d i : Nat), i + d = l.length → (∀ j, j < i → within (l.getD j 0) 0 (planMost (m.s.stages.getD j ⟨0, 0, []⟩)) = true) → f93G0 E l m i := by
    intro d
    induction d with
    | zero =>
      intro i hd hall
      refine f93W0 l m i (rv := planOk m.s l) hE ⟨fun h => by omega, fun _ => ?_⟩
      simp only [planOk, hl, decide_true, Bool.true_and]
      exact List.all_eq_true.2 fun j hj => hall j (by have := List.mem_range.1 hj; omega)
    | succ d ih =>
      intro i hd hall
      have hi : m.s.stages[i]? = some m.s.stages[i] := List.getElem?_eq_getElem (by omega)
      have hx : m.s.stages.getD i ⟨0, 0, []⟩ = m.s.stages[i] := by simp [List.getD, hi]
      have hv : l[i]? = some (l.getD i 0) := getD_some (by omega)
      have ht : m.s.stages[i].turns.length ≤ 8 := by
        rcases form_of hi (hform i (by omega)) with ⟨-, h, -⟩ | ⟨-, -, h, -⟩
        · rw [h]; simp
        · exact h.2
      have nx := ih (i + 1) (by omega)
      have no : within (l.getD i 0) 0 (planMost (m.s.stages.getD i ⟨0, 0, []⟩)) = false → planOk m.s l = false := fun h => by
        simp only [planOk, hl, decide_true, Bool.true_and]
        exact range_all (by omega) h
      have yes : within (l.getD i 0) 0 (planMost (m.s.stages.getD i ⟨0, 0, []⟩)) = true → f93G0 E l m (i + 1) := fun h => nx fun j hj => by
        rcases Nat.lt_or_ge j i with h1 | h1
        · exact hall j h1
        · rw [show j = i by omega]; exact h
      rw [hx] at no yes
      generalize m.s.stages[i] = x at hi no yes ht
      refine f93W0 l m i (rv := planOk m.s l) hE ⟨fun _ => ⟨_, hv, x, hi, fun h2 => ⟨by omega, fun h => no ?_, fun h => ⟨by omega, yes ?_⟩⟩, fun h2 => ⟨fun h3 => ⟨by omega, fun h => no ?_, fun h => ⟨by omega, yes ?_⟩⟩, fun h3 => ⟨fun h => no ?_, fun h => ⟨by omega, yes ?_⟩⟩⟩⟩, fun h => by omega⟩
      · rw [planMost, if_pos (.inl h2)]; exact h
      · rw [planMost, if_pos (.inl h2)]; exact h
      · rw [planMost, if_pos (.inr h3)]; exact h
      · rw [planMost, if_pos (.inr h3)]; exact h
      · rw [planMost, if_neg (by omega)]; exact h
      · rw [planMost, if_neg (by omega)]; exact h
  exact key l.length 0 (by omega) (fun j hj => by omega)

theorem f92b : Try.f92.body = some (bodyAt Try.prog 92) := by kernel_rfl
theorem p92_start_0  (m : Mch) (plan : List Int)   {E : Env} {res : AV} (hE : PureE Try.prog 92 res E) (ho : AllP [PureF Try.prog (.clos 93 [] []) [.rptr [.rsl (rowStg m.s.stages) 0 m.s.stages.length, .rsl (rowI m.s.worth) 0 m.s.worth.length, .int .i64 m.s.price, .rsl (rowI m.meas) 0 m.meas.length, .rsl (rowI m.mult) 0 m.mult.length] 0, .rsl (rowI plan) 0 plan.length] (.bool (planOk m.s plan))])
    (hr : AvLe (.bool (planOk m.s plan)) res) : G Try.prog E [.code (bodyAt Try.prog 92)] ⟨[.rptr [.rsl (rowStg m.s.stages) 0 m.s.stages.length, .rsl (rowI m.s.worth) 0 m.s.worth.length, .int .i64 m.s.price, .rsl (rowI m.meas) 0 m.meas.length, .rsl (rowI m.mult) 0 m.mult.length] 0, .rptr [.rsl (rowI plan) 0 plan.length] 0] ++ unds (Try.f92.ntmps - 2), []⟩ :=
  end_stepL (n := 400) (evs := [.v (.bool (planOk m.s plan))]) (obs := _) hE Try.func92 mixed (by kernel_rfl) ho hr
theorem f92W  (m : Mch) (plan : List Int) {E : Env} {rv : Bool} (hE : PureE Try.prog 92 (.bool rv) E)
    (h : ((MOk m) ∧ rv = (planOk m.s plan))) : G Try.prog E [.code (bodyAt Try.prog 92)] ⟨[.rptr [.rsl (rowStg m.s.stages) 0 m.s.stages.length, .rsl (rowI m.s.worth) 0 m.s.worth.length, .int .i64 m.s.price, .rsl (rowI m.meas) 0 m.meas.length, .rsl (rowI m.mult) 0 m.mult.length] 0, .rptr [.rsl (rowI plan) 0 plan.length] 0] ++ unds (Try.f92.ntmps - 2), []⟩ := by
  obtain ⟨h1, h⟩ := h
  exact p92_start_0 m plan    hE ⟨(pureF_of Try.func93 (by kernel_rfl) f93b (plan_ok m plan h1)), trivial⟩ (AvLe.of_eq (by rw [h]; try rfl))
def rightO (m : Mch) (kd pa oa : Int) : Bool := kindI m kd && aimsI [pa, oa]
theorem right72_ok (m : Mch) (kd pa oa : Int) (h : m.s.worth.length ≤ 1000000) : Pure Try.prog 72 [.rptr (cMch m) 0, .rptr [.int .i64 kd] 0, .rptr [.int .i64 pa] 0, .rptr [.int .i64 oa] 0] (.bool (rightO m kd pa oa)) := pure_of Try.func72 f72b fun E hE =>
  f72W m kd pa oa (rv := rightO m kd pa oa) hE ⟨h, fun h1 => ⟨by simp, by simp [rightO, h1]⟩, fun h1 => by simp [rightO, h1]⟩
theorem right104_ok (m : Mch) : Pure Try.prog 104 [.rptr (cMch m) 0] (.bool true) := pure_of Try.func104 f104b fun E hE => f104W m (rv := true) hE rfl
theorem right92_ok (m : Mch) (plan : List Int) (h : MOk m) : Pure Try.prog 92 [.rptr (cMch m) 0, .rptr [.rsl (rowI plan) 0 plan.length] 0] (.bool (planOk m.s plan)) := pure_of Try.func92 f92b fun E hE => f92W m plan (rv := planOk m.s plan) hE ⟨h, rfl⟩
def begR (s : Stl) (rt : Bool) : AV := if (machI s).isSome = true then (if rt = true then .tup [.rptr (cMch (machG s)) 0, .int .i64 0] else .tup [.nilPtr, .int .i64 1]) else .tup [.nilPtr, .int .i64 60]
theorem begR_T {s : Stl} {rt : Bool} (h0 : (machI s).isSome = true) (h1 : rt = true) : begR s rt = .tup [.rptr (cMch (machG s)) 0, .int .i64 0] := by rw [begR, if_pos h0, if_pos h1]
theorem begR_F1 {s : Stl} {rt : Bool} (h0 : (machI s).isSome = true) (h1 : rt = false) : begR s rt = .tup [.nilPtr, .int .i64 1] := by rw [begR, if_pos h0, if_neg (by rw [h1]; simp)]
theorem begR_F0 {s : Stl} {rt : Bool} (h0 : (machI s).isSome = false) : begR s rt = .tup [.nilPtr, .int .i64 60] := by rw [begR, if_neg (by rw [h0]; simp)]
theorem mok_G {s : Stl} (h : (machI s).isSome = true) : MOk (machG s) ∧ (machG s).s = s := by
  obtain ⟨m, hm⟩ := Option.isSome_iff_exists.1 h
  rw [show machG s = m by simp [machG, hm]]
  exact mok_of hm

theorem f71x72b : Try.f71.body = some (bodyAt Try.prog 71) := by kernel_rfl
theorem p71x72_start_0 (s : Stl) (kd pa oa : Int)   {E : Env} {res : AV} (hE : PureE Try.prog 71 res E) (ho : AllP [PureF Try.prog (.clos 61 [] []) [.agg [.rsl (rowStg s.stages) 0 s.stages.length, .rsl (rowI s.worth) 0 s.worth.length, .int .i64 s.price]] (.tup [.rptr [.rsl (rowStg (((machG s).s).stages)) 0 ((((machG s).s).stages).length), .rsl (rowI (((machG s).s).worth)) 0 ((((machG s).s).worth).length), .int .i64 (((machG s).s).price), .rsl (rowI ((machG s).meas)) 0 (((machG s).meas).length), .rsl (rowI ((machG s).mult)) 0 (((machG s).mult).length)] 0, .bool true]), false = false, PureF Try.prog (.clos 72 [] [.rptr [.int .i64 kd] 0, .rptr [.int .i64 pa] 0, .rptr [.int .i64 oa] 0]) [.rptr [.rsl (rowStg (((machG s).s).stages)) 0 ((((machG s).s).stages).length), .rsl (rowI (((machG s).s).worth)) 0 ((((machG s).s).worth).length), .int .i64 (((machG s).s).price), .rsl (rowI ((machG s).meas)) 0 (((machG s).meas).length), .rsl (rowI ((machG s).mult)) 0 (((machG s).mult).length)] 0] (.bool (rightO (machG s) kd pa oa)), (!(rightO (machG s) kd pa oa)) = true])
    (hr : AvLe (.tup [.nilPtr, .int .i64 1]) res) : G Try.prog E [.code (bodyAt Try.prog 71)] ⟨[.agg [.rsl (rowStg s.stages) 0 s.stages.length, .rsl (rowI s.worth) 0 s.worth.length, .int .i64 s.price], .clos 72 [] [.rptr [.int .i64 kd] 0, .rptr [.int .i64 pa] 0, .rptr [.int .i64 oa] 0]] ++ unds (Try.f71.ntmps - 2), []⟩ :=
  end_stepL (n := 400) (evs := [.v (.tup [.rptr [.rsl (rowStg (((machG s).s).stages)) 0 ((((machG s).s).stages).length), .rsl (rowI (((machG s).s).worth)) 0 ((((machG s).s).worth).length), .int .i64 (((machG s).s).price), .rsl (rowI ((machG s).meas)) 0 (((machG s).meas).length), .rsl (rowI ((machG s).mult)) 0 (((machG s).mult).length)] 0, .bool true]), .b false, .v (.bool (rightO (machG s) kd pa oa)), .b true]) (obs := _) hE Try.func71 mixed (by kernel_rfl) ho hr
theorem p71x72_start_1 (s : Stl) (kd pa oa : Int)   {E : Env} {res : AV} (hE : PureE Try.prog 71 res E) (ho : AllP [PureF Try.prog (.clos 61 [] []) [.agg [.rsl (rowStg s.stages) 0 s.stages.length, .rsl (rowI s.worth) 0 s.worth.length, .int .i64 s.price]] (.tup [.rptr [.rsl (rowStg (((machG s).s).stages)) 0 ((((machG s).s).stages).length), .rsl (rowI (((machG s).s).worth)) 0 ((((machG s).s).worth).length), .int .i64 (((machG s).s).price), .rsl (rowI ((machG s).meas)) 0 (((machG s).meas).length), .rsl (rowI ((machG s).mult)) 0 (((machG s).mult).length)] 0, .bool true]), false = false, PureF Try.prog (.clos 72 [] [.rptr [.int .i64 kd] 0, .rptr [.int .i64 pa] 0, .rptr [.int .i64 oa] 0]) [.rptr [.rsl (rowStg (((machG s).s).stages)) 0 ((((machG s).s).stages).length), .rsl (rowI (((machG s).s).worth)) 0 ((((machG s).s).worth).length), .int .i64 (((machG s).s).price), .rsl (rowI ((machG s).meas)) 0 (((machG s).meas).length), .rsl (rowI ((machG s).mult)) 0 (((machG s).mult).length)] 0] (.bool (rightO (machG s) kd pa oa)), (!(rightO (machG s) kd pa oa)) = false])
    (hr : AvLe (.tup [.rptr [.rsl (rowStg (((machG s).s).stages)) 0 ((((machG s).s).stages).length), .rsl (rowI (((machG s).s).worth)) 0 ((((machG s).s).worth).length), .int .i64 (((machG s).s).price), .rsl (rowI ((machG s).meas)) 0 (((machG s).meas).length), .rsl (rowI ((machG s).mult)) 0 (((machG s).mult).length)] 0, .int .i64 0]) res) : G Try.prog E [.code (bodyAt Try.prog 71)] ⟨[.agg [.rsl (rowStg s.stages) 0 s.stages.length, .rsl (rowI s.worth) 0 s.worth.length, .int .i64 s.price], .clos 72 [] [.rptr [.int .i64 kd] 0, .rptr [.int .i64 pa] 0, .rptr [.int .i64 oa] 0]] ++ unds (Try.f71.ntmps - 2), []⟩ :=
  end_stepL (n := 400) (evs := [.v (.tup [.rptr [.rsl (rowStg (((machG s).s).stages)) 0 ((((machG s).s).stages).length), .rsl (rowI (((machG s).s).worth)) 0 ((((machG s).s).worth).length), .int .i64 (((machG s).s).price), .rsl (rowI ((machG s).meas)) 0 (((machG s).meas).length), .rsl (rowI ((machG s).mult)) 0 (((machG s).mult).length)] 0, .bool true]), .b false, .v (.bool (rightO (machG s) kd pa oa)), .b false]) (obs := _) hE Try.func71 mixed (by kernel_rfl) ho hr
theorem p71x72_start_2 (s : Stl) (kd pa oa : Int)   {E : Env} {res : AV} (hE : PureE Try.prog 71 res E) (ho : AllP [PureF Try.prog (.clos 61 [] []) [.agg [.rsl (rowStg s.stages) 0 s.stages.length, .rsl (rowI s.worth) 0 s.worth.length, .int .i64 s.price]] (.tup [.nilPtr, .bool false]), true = true])
    (hr : AvLe (.tup [.nilPtr, .int .i64 60]) res) : G Try.prog E [.code (bodyAt Try.prog 71)] ⟨[.agg [.rsl (rowStg s.stages) 0 s.stages.length, .rsl (rowI s.worth) 0 s.worth.length, .int .i64 s.price], .clos 72 [] [.rptr [.int .i64 kd] 0, .rptr [.int .i64 pa] 0, .rptr [.int .i64 oa] 0]] ++ unds (Try.f71.ntmps - 2), []⟩ :=
  end_stepL (n := 400) (evs := [.v (.tup [.nilPtr, .bool false]), .b true]) (obs := _) hE Try.func71 mixed (by kernel_rfl) ho hr
theorem f71x72W (s : Stl) (kd pa oa : Int) {E : Env} {rv : AV} (hE : PureE Try.prog 71 rv E)
    (h : ((((machI s).isSome) = true → ((s.stages.length ≤ 9223372036854775807 ∧ s.worth.length ≤ 9223372036854775807) ∧ (((machG s).s.worth.length ≤ 1000000) ∧ (((rightO (machG s) kd pa oa) = false → rv = (.tup [.nilPtr, .int .i64 1])) ∧ ((rightO (machG s) kd pa oa) = true → rv = (.tup [.rptr [.rsl (rowStg (((machG s).s).stages)) 0 ((((machG s).s).stages).length), .rsl (rowI (((machG s).s).worth)) 0 ((((machG s).s).worth).length), .int .i64 (((machG s).s).price), .rsl (rowI ((machG s).meas)) 0 (((machG s).meas).length), .rsl (rowI ((machG s).mult)) 0 (((machG s).mult).length)] 0, .int .i64 0])))))) ∧ (((machI s).isSome) = false → ((s.stages.length ≤ 9223372036854775807 ∧ s.worth.length ≤ 9223372036854775807) ∧ rv = (.tup [.nilPtr, .int .i64 60]))))) : G Try.prog E [.code (bodyAt Try.prog 71)] ⟨[.agg [.rsl (rowStg s.stages) 0 s.stages.length, .rsl (rowI s.worth) 0 s.worth.length, .int .i64 s.price], .clos 72 [] [.rptr [.int .i64 kd] 0, .rptr [.int .i64 pa] 0, .rptr [.int .i64 oa] 0]] ++ unds (Try.f71.ntmps - 2), []⟩ := by
  rcases Bool.eq_false_or_eq_true ((machI s).isSome) with hc0 | hc0
  · have h := h.1 hc0
    obtain ⟨h1, h⟩ := h
    obtain ⟨h2, h⟩ := h
    rcases Bool.eq_false_or_eq_true (!(rightO (machG s) kd pa oa)) with hc1 | hc1
    · have h := h.1 (bnT hc1)
      exact p71x72_start_0 s kd pa oa    hE ⟨(pureF_of Try.func61 (by kernel_rfl) f61b (newMachT_ok s h1 hc0)), rfl, (pureF_of Try.func72 (by kernel_rfl) f72b (right72_ok (machG s) kd pa oa h2)), hc1, trivial⟩ (AvLe.of_eq (by rw [h]; try rfl))
    · have h := h.2 (bnF hc1)
      exact p71x72_start_1 s kd pa oa    hE ⟨(pureF_of Try.func61 (by kernel_rfl) f61b (newMachT_ok s h1 hc0)), rfl, (pureF_of Try.func72 (by kernel_rfl) f72b (right72_ok (machG s) kd pa oa h2)), hc1, trivial⟩ (AvLe.of_eq (by rw [h]; try rfl))
  · have h := h.2 hc0
    obtain ⟨h1, h⟩ := h
    exact p71x72_start_2 s kd pa oa    hE ⟨(pureF_of Try.func61 (by kernel_rfl) f61b (newMachF_ok s h1 hc0)), rfl, trivial⟩ (AvLe.of_eq (by rw [h]; try rfl))

theorem beg72_ok (s : Stl) (kd pa oa : Int) (h : s.stages.length ≤ 9223372036854775807 ∧ s.worth.length ≤ 9223372036854775807) : Pure Try.prog 71 [.agg [.rsl (rowStg s.stages) 0 s.stages.length, .rsl (rowI s.worth) 0 s.worth.length, .int .i64 s.price], .clos 72 [] [.rptr [.int .i64 kd] 0, .rptr [.int .i64 pa] 0, .rptr [.int .i64 oa] 0]] (begR s (rightO (machG s) kd pa oa)) := pure_of Try.func71 f71x72b fun E hE => by
  refine f71x72W s kd pa oa (rv := begR s (rightO (machG s) kd pa oa)) hE ⟨fun h0 => ⟨h, ?_⟩, fun h0 => ⟨h, begR_F0 h0⟩⟩
  have hm := (mok_G h0).1
  have hw := (stPre_of hm.st).2.1
  have hs := (stPre_of hm.st).1
  exact ⟨by omega, ⟨fun h1 => begR_F1 h0 h1, fun h1 => begR_T h0 h1⟩⟩

theorem f71x104b : Try.f71.body = some (bodyAt Try.prog 71) := by kernel_rfl
theorem p71x104_start_0 (s : Stl)   {E : Env} {res : AV} (hE : PureE Try.prog 71 res E) (ho : AllP [PureF Try.prog (.clos 61 [] []) [.agg [.rsl (rowStg s.stages) 0 s.stages.length, .rsl (rowI s.worth) 0 s.worth.length, .int .i64 s.price]] (.tup [.rptr [.rsl (rowStg (((machG s).s).stages)) 0 ((((machG s).s).stages).length), .rsl (rowI (((machG s).s).worth)) 0 ((((machG s).s).worth).length), .int .i64 (((machG s).s).price), .rsl (rowI ((machG s).meas)) 0 (((machG s).meas).length), .rsl (rowI ((machG s).mult)) 0 (((machG s).mult).length)] 0, .bool true]), false = false, PureF Try.prog (.clos 104 [] []) [.rptr [.rsl (rowStg (((machG s).s).stages)) 0 ((((machG s).s).stages).length), .rsl (rowI (((machG s).s).worth)) 0 ((((machG s).s).worth).length), .int .i64 (((machG s).s).price), .rsl (rowI ((machG s).meas)) 0 (((machG s).meas).length), .rsl (rowI ((machG s).mult)) 0 (((machG s).mult).length)] 0] (.bool true), (!true) = true])
    (hr : AvLe (.tup [.nilPtr, .int .i64 1]) res) : G Try.prog E [.code (bodyAt Try.prog 71)] ⟨[.agg [.rsl (rowStg s.stages) 0 s.stages.length, .rsl (rowI s.worth) 0 s.worth.length, .int .i64 s.price], .clos 104 [] []] ++ unds (Try.f71.ntmps - 2), []⟩ :=
  end_stepL (n := 400) (evs := [.v (.tup [.rptr [.rsl (rowStg (((machG s).s).stages)) 0 ((((machG s).s).stages).length), .rsl (rowI (((machG s).s).worth)) 0 ((((machG s).s).worth).length), .int .i64 (((machG s).s).price), .rsl (rowI ((machG s).meas)) 0 (((machG s).meas).length), .rsl (rowI ((machG s).mult)) 0 (((machG s).mult).length)] 0, .bool true]), .b false, .v (.bool true), .b true]) (obs := _) hE Try.func71 mixed (by kernel_rfl) ho hr
theorem p71x104_start_1 (s : Stl)   {E : Env} {res : AV} (hE : PureE Try.prog 71 res E) (ho : AllP [PureF Try.prog (.clos 61 [] []) [.agg [.rsl (rowStg s.stages) 0 s.stages.length, .rsl (rowI s.worth) 0 s.worth.length, .int .i64 s.price]] (.tup [.rptr [.rsl (rowStg (((machG s).s).stages)) 0 ((((machG s).s).stages).length), .rsl (rowI (((machG s).s).worth)) 0 ((((machG s).s).worth).length), .int .i64 (((machG s).s).price), .rsl (rowI ((machG s).meas)) 0 (((machG s).meas).length), .rsl (rowI ((machG s).mult)) 0 (((machG s).mult).length)] 0, .bool true]), false = false, PureF Try.prog (.clos 104 [] []) [.rptr [.rsl (rowStg (((machG s).s).stages)) 0 ((((machG s).s).stages).length), .rsl (rowI (((machG s).s).worth)) 0 ((((machG s).s).worth).length), .int .i64 (((machG s).s).price), .rsl (rowI ((machG s).meas)) 0 (((machG s).meas).length), .rsl (rowI ((machG s).mult)) 0 (((machG s).mult).length)] 0] (.bool true), (!true) = false])
    (hr : AvLe (.tup [.rptr [.rsl (rowStg (((machG s).s).stages)) 0 ((((machG s).s).stages).length), .rsl (rowI (((machG s).s).worth)) 0 ((((machG s).s).worth).length), .int .i64 (((machG s).s).price), .rsl (rowI ((machG s).meas)) 0 (((machG s).meas).length), .rsl (rowI ((machG s).mult)) 0 (((machG s).mult).length)] 0, .int .i64 0]) res) : G Try.prog E [.code (bodyAt Try.prog 71)] ⟨[.agg [.rsl (rowStg s.stages) 0 s.stages.length, .rsl (rowI s.worth) 0 s.worth.length, .int .i64 s.price], .clos 104 [] []] ++ unds (Try.f71.ntmps - 2), []⟩ :=
  end_stepL (n := 400) (evs := [.v (.tup [.rptr [.rsl (rowStg (((machG s).s).stages)) 0 ((((machG s).s).stages).length), .rsl (rowI (((machG s).s).worth)) 0 ((((machG s).s).worth).length), .int .i64 (((machG s).s).price), .rsl (rowI ((machG s).meas)) 0 (((machG s).meas).length), .rsl (rowI ((machG s).mult)) 0 (((machG s).mult).length)] 0, .bool true]), .b false, .v (.bool true), .b false]) (obs := _) hE Try.func71 mixed (by kernel_rfl) ho hr
theorem p71x104_start_2 (s : Stl)   {E : Env} {res : AV} (hE : PureE Try.prog 71 res E) (ho : AllP [PureF Try.prog (.clos 61 [] []) [.agg [.rsl (rowStg s.stages) 0 s.stages.length, .rsl (rowI s.worth) 0 s.worth.length, .int .i64 s.price]] (.tup [.nilPtr, .bool false]), true = true])
    (hr : AvLe (.tup [.nilPtr, .int .i64 60]) res) : G Try.prog E [.code (bodyAt Try.prog 71)] ⟨[.agg [.rsl (rowStg s.stages) 0 s.stages.length, .rsl (rowI s.worth) 0 s.worth.length, .int .i64 s.price], .clos 104 [] []] ++ unds (Try.f71.ntmps - 2), []⟩ :=
  end_stepL (n := 400) (evs := [.v (.tup [.nilPtr, .bool false]), .b true]) (obs := _) hE Try.func71 mixed (by kernel_rfl) ho hr
theorem f71x104W (s : Stl) {E : Env} {rv : AV} (hE : PureE Try.prog 71 rv E)
    (h : ((((machI s).isSome) = true → ((s.stages.length ≤ 9223372036854775807 ∧ s.worth.length ≤ 9223372036854775807) ∧ ((true = false → rv = (.tup [.nilPtr, .int .i64 1])) ∧ (true = true → rv = (.tup [.rptr [.rsl (rowStg (((machG s).s).stages)) 0 ((((machG s).s).stages).length), .rsl (rowI (((machG s).s).worth)) 0 ((((machG s).s).worth).length), .int .i64 (((machG s).s).price), .rsl (rowI ((machG s).meas)) 0 (((machG s).meas).length), .rsl (rowI ((machG s).mult)) 0 (((machG s).mult).length)] 0, .int .i64 0]))))) ∧ (((machI s).isSome) = false → ((s.stages.length ≤ 9223372036854775807 ∧ s.worth.length ≤ 9223372036854775807) ∧ rv = (.tup [.nilPtr, .int .i64 60]))))) : G Try.prog E [.code (bodyAt Try.prog 71)] ⟨[.agg [.rsl (rowStg s.stages) 0 s.stages.length, .rsl (rowI s.worth) 0 s.worth.length, .int .i64 s.price], .clos 104 [] []] ++ unds (Try.f71.ntmps - 2), []⟩ := by
  rcases Bool.eq_false_or_eq_true ((machI s).isSome) with hc0 | hc0
  · have h := h.1 hc0
    obtain ⟨h1, h⟩ := h
    rcases Bool.eq_false_or_eq_true (!true) with hc1 | hc1
    · have h := h.1 (bnT hc1)
      exact p71x104_start_0 s    hE ⟨(pureF_of Try.func61 (by kernel_rfl) f61b (newMachT_ok s h1 hc0)), rfl, (pureF_of Try.func104 (by kernel_rfl) f104b (right104_ok (machG s))), hc1, trivial⟩ (AvLe.of_eq (by rw [h]; try rfl))
    · have h := h.2 (bnF hc1)
      exact p71x104_start_1 s    hE ⟨(pureF_of Try.func61 (by kernel_rfl) f61b (newMachT_ok s h1 hc0)), rfl, (pureF_of Try.func104 (by kernel_rfl) f104b (right104_ok (machG s))), hc1, trivial⟩ (AvLe.of_eq (by rw [h]; try rfl))
  · have h := h.2 hc0
    obtain ⟨h1, h⟩ := h
    exact p71x104_start_2 s    hE ⟨(pureF_of Try.func61 (by kernel_rfl) f61b (newMachF_ok s h1 hc0)), rfl, trivial⟩ (AvLe.of_eq (by rw [h]; try rfl))

theorem beg104_ok (s : Stl) (h : s.stages.length ≤ 9223372036854775807 ∧ s.worth.length ≤ 9223372036854775807) : Pure Try.prog 71 [.agg [.rsl (rowStg s.stages) 0 s.stages.length, .rsl (rowI s.worth) 0 s.worth.length, .int .i64 s.price], .clos 104 [] []] (begR s true) := pure_of Try.func71 f71x104b fun E hE => by
  refine f71x104W s (rv := begR s true) hE ⟨fun h0 => ⟨h, ?_⟩, fun h0 => ⟨h, begR_F0 h0⟩⟩
  have hm := (mok_G h0).1
  have hw := (stPre_of hm.st).2.1
  have hs := (stPre_of hm.st).1
  exact ⟨fun h1 => begR_F1 h0 h1, fun h1 => begR_T h0 h1⟩

theorem f71x92b : Try.f71.body = some (bodyAt Try.prog 71) := by kernel_rfl
theorem p71x92_start_0 (s : Stl) (plan : List Int)   {E : Env} {res : AV} (hE : PureE Try.prog 71 res E) (ho : AllP [PureF Try.prog (.clos 61 [] []) [.agg [.rsl (rowStg s.stages) 0 s.stages.length, .rsl (rowI s.worth) 0 s.worth.length, .int .i64 s.price]] (.tup [.rptr [.rsl (rowStg (((machG s).s).stages)) 0 ((((machG s).s).stages).length), .rsl (rowI (((machG s).s).worth)) 0 ((((machG s).s).worth).length), .int .i64 (((machG s).s).price), .rsl (rowI ((machG s).meas)) 0 (((machG s).meas).length), .rsl (rowI ((machG s).mult)) 0 (((machG s).mult).length)] 0, .bool true]), false = false, PureF Try.prog (.clos 92 [] [.rptr [.rsl (rowI plan) 0 plan.length] 0]) [.rptr [.rsl (rowStg (((machG s).s).stages)) 0 ((((machG s).s).stages).length), .rsl (rowI (((machG s).s).worth)) 0 ((((machG s).s).worth).length), .int .i64 (((machG s).s).price), .rsl (rowI ((machG s).meas)) 0 (((machG s).meas).length), .rsl (rowI ((machG s).mult)) 0 (((machG s).mult).length)] 0] (.bool (planOk (machG s).s plan)), (!(planOk (machG s).s plan)) = true])
    (hr : AvLe (.tup [.nilPtr, .int .i64 1]) res) : G Try.prog E [.code (bodyAt Try.prog 71)] ⟨[.agg [.rsl (rowStg s.stages) 0 s.stages.length, .rsl (rowI s.worth) 0 s.worth.length, .int .i64 s.price], .clos 92 [] [.rptr [.rsl (rowI plan) 0 plan.length] 0]] ++ unds (Try.f71.ntmps - 2), []⟩ :=
  end_stepL (n := 400) (evs := [.v (.tup [.rptr [.rsl (rowStg (((machG s).s).stages)) 0 ((((machG s).s).stages).length), .rsl (rowI (((machG s).s).worth)) 0 ((((machG s).s).worth).length), .int .i64 (((machG s).s).price), .rsl (rowI ((machG s).meas)) 0 (((machG s).meas).length), .rsl (rowI ((machG s).mult)) 0 (((machG s).mult).length)] 0, .bool true]), .b false, .v (.bool (planOk (machG s).s plan)), .b true]) (obs := _) hE Try.func71 mixed (by kernel_rfl) ho hr
theorem p71x92_start_1 (s : Stl) (plan : List Int)   {E : Env} {res : AV} (hE : PureE Try.prog 71 res E) (ho : AllP [PureF Try.prog (.clos 61 [] []) [.agg [.rsl (rowStg s.stages) 0 s.stages.length, .rsl (rowI s.worth) 0 s.worth.length, .int .i64 s.price]] (.tup [.rptr [.rsl (rowStg (((machG s).s).stages)) 0 ((((machG s).s).stages).length), .rsl (rowI (((machG s).s).worth)) 0 ((((machG s).s).worth).length), .int .i64 (((machG s).s).price), .rsl (rowI ((machG s).meas)) 0 (((machG s).meas).length), .rsl (rowI ((machG s).mult)) 0 (((machG s).mult).length)] 0, .bool true]), false = false, PureF Try.prog (.clos 92 [] [.rptr [.rsl (rowI plan) 0 plan.length] 0]) [.rptr [.rsl (rowStg (((machG s).s).stages)) 0 ((((machG s).s).stages).length), .rsl (rowI (((machG s).s).worth)) 0 ((((machG s).s).worth).length), .int .i64 (((machG s).s).price), .rsl (rowI ((machG s).meas)) 0 (((machG s).meas).length), .rsl (rowI ((machG s).mult)) 0 (((machG s).mult).length)] 0] (.bool (planOk (machG s).s plan)), (!(planOk (machG s).s plan)) = false])
    (hr : AvLe (.tup [.rptr [.rsl (rowStg (((machG s).s).stages)) 0 ((((machG s).s).stages).length), .rsl (rowI (((machG s).s).worth)) 0 ((((machG s).s).worth).length), .int .i64 (((machG s).s).price), .rsl (rowI ((machG s).meas)) 0 (((machG s).meas).length), .rsl (rowI ((machG s).mult)) 0 (((machG s).mult).length)] 0, .int .i64 0]) res) : G Try.prog E [.code (bodyAt Try.prog 71)] ⟨[.agg [.rsl (rowStg s.stages) 0 s.stages.length, .rsl (rowI s.worth) 0 s.worth.length, .int .i64 s.price], .clos 92 [] [.rptr [.rsl (rowI plan) 0 plan.length] 0]] ++ unds (Try.f71.ntmps - 2), []⟩ :=
  end_stepL (n := 400) (evs := [.v (.tup [.rptr [.rsl (rowStg (((machG s).s).stages)) 0 ((((machG s).s).stages).length), .rsl (rowI (((machG s).s).worth)) 0 ((((machG s).s).worth).length), .int .i64 (((machG s).s).price), .rsl (rowI ((machG s).meas)) 0 (((machG s).meas).length), .rsl (rowI ((machG s).mult)) 0 (((machG s).mult).length)] 0, .bool true]), .b false, .v (.bool (planOk (machG s).s plan)), .b false]) (obs := _) hE Try.func71 mixed (by kernel_rfl) ho hr
theorem p71x92_start_2 (s : Stl) (plan : List Int)   {E : Env} {res : AV} (hE : PureE Try.prog 71 res E) (ho : AllP [PureF Try.prog (.clos 61 [] []) [.agg [.rsl (rowStg s.stages) 0 s.stages.length, .rsl (rowI s.worth) 0 s.worth.length, .int .i64 s.price]] (.tup [.nilPtr, .bool false]), true = true])
    (hr : AvLe (.tup [.nilPtr, .int .i64 60]) res) : G Try.prog E [.code (bodyAt Try.prog 71)] ⟨[.agg [.rsl (rowStg s.stages) 0 s.stages.length, .rsl (rowI s.worth) 0 s.worth.length, .int .i64 s.price], .clos 92 [] [.rptr [.rsl (rowI plan) 0 plan.length] 0]] ++ unds (Try.f71.ntmps - 2), []⟩ :=
  end_stepL (n := 400) (evs := [.v (.tup [.nilPtr, .bool false]), .b true]) (obs := _) hE Try.func71 mixed (by kernel_rfl) ho hr
theorem f71x92W (s : Stl) (plan : List Int) {E : Env} {rv : AV} (hE : PureE Try.prog 71 rv E)
    (h : ((((machI s).isSome) = true → ((s.stages.length ≤ 9223372036854775807 ∧ s.worth.length ≤ 9223372036854775807) ∧ ((MOk (machG s)) ∧ (((planOk (machG s).s plan) = false → rv = (.tup [.nilPtr, .int .i64 1])) ∧ ((planOk (machG s).s plan) = true → rv = (.tup [.rptr [.rsl (rowStg (((machG s).s).stages)) 0 ((((machG s).s).stages).length), .rsl (rowI (((machG s).s).worth)) 0 ((((machG s).s).worth).length), .int .i64 (((machG s).s).price), .rsl (rowI ((machG s).meas)) 0 (((machG s).meas).length), .rsl (rowI ((machG s).mult)) 0 (((machG s).mult).length)] 0, .int .i64 0])))))) ∧ (((machI s).isSome) = false → ((s.stages.length ≤ 9223372036854775807 ∧ s.worth.length ≤ 9223372036854775807) ∧ rv = (.tup [.nilPtr, .int .i64 60]))))) : G Try.prog E [.code (bodyAt Try.prog 71)] ⟨[.agg [.rsl (rowStg s.stages) 0 s.stages.length, .rsl (rowI s.worth) 0 s.worth.length, .int .i64 s.price], .clos 92 [] [.rptr [.rsl (rowI plan) 0 plan.length] 0]] ++ unds (Try.f71.ntmps - 2), []⟩ := by
  rcases Bool.eq_false_or_eq_true ((machI s).isSome) with hc0 | hc0
  · have h := h.1 hc0
    obtain ⟨h1, h⟩ := h
    obtain ⟨h2, h⟩ := h
    rcases Bool.eq_false_or_eq_true (!(planOk (machG s).s plan)) with hc1 | hc1
    · have h := h.1 (bnT hc1)
      exact p71x92_start_0 s plan    hE ⟨(pureF_of Try.func61 (by kernel_rfl) f61b (newMachT_ok s h1 hc0)), rfl, (pureF_of Try.func92 (by kernel_rfl) f92b (right92_ok (machG s) plan h2)), hc1, trivial⟩ (AvLe.of_eq (by rw [h]; try rfl))
    · have h := h.2 (bnF hc1)
      exact p71x92_start_1 s plan    hE ⟨(pureF_of Try.func61 (by kernel_rfl) f61b (newMachT_ok s h1 hc0)), rfl, (pureF_of Try.func92 (by kernel_rfl) f92b (right92_ok (machG s) plan h2)), hc1, trivial⟩ (AvLe.of_eq (by rw [h]; try rfl))
  · have h := h.2 hc0
    obtain ⟨h1, h⟩ := h
    exact p71x92_start_2 s plan    hE ⟨(pureF_of Try.func61 (by kernel_rfl) f61b (newMachF_ok s h1 hc0)), rfl, trivial⟩ (AvLe.of_eq (by rw [h]; try rfl))

theorem beg92_ok (s : Stl) (plan : List Int) (h : s.stages.length ≤ 9223372036854775807 ∧ s.worth.length ≤ 9223372036854775807) : Pure Try.prog 71 [.agg [.rsl (rowStg s.stages) 0 s.stages.length, .rsl (rowI s.worth) 0 s.worth.length, .int .i64 s.price], .clos 92 [] [.rptr [.rsl (rowI plan) 0 plan.length] 0]] (begR s (planOk (machG s).s plan)) := pure_of Try.func71 f71x92b fun E hE => by
  refine f71x92W s plan (rv := begR s (planOk (machG s).s plan)) hE ⟨fun h0 => ⟨h, ?_⟩, fun h0 => ⟨h, begR_F0 h0⟩⟩
  have hm := (mok_G h0).1
  have hw := (stPre_of hm.st).2.1
  have hs := (stPre_of hm.st).1
  exact ⟨hm, ⟨fun h1 => begR_F1 h0 h1, fun h1 => begR_T h0 h1⟩⟩

theorem f25b : Try.f25.body = some (bodyAt Try.prog 25) := by kernel_rfl
theorem p25_start_0 (s : Stl) (kd : Int) (pa : Int) (oa : Int)   {E : Env} {res : AV} (hE : PureE Try.prog 25 res E) (ho : AllP [PureF Try.prog (.clos 71 [] []) [.agg [.rsl (rowStg s.stages) 0 s.stages.length, .rsl (rowI s.worth) 0 s.worth.length, .int .i64 s.price], .clos 72 [] [.rptr [.int .i64 kd] 0, .rptr [.int .i64 pa] 0, .rptr [.int .i64 oa] 0]] (.tup [.rptr [.rsl (rowStg (((machG s).s).stages)) 0 ((((machG s).s).stages).length), .rsl (rowI (((machG s).s).worth)) 0 ((((machG s).s).worth).length), .int .i64 (((machG s).s).price), .rsl (rowI ((machG s).meas)) 0 (((machG s).meas).length), .rsl (rowI ((machG s).mult)) 0 (((machG s).mult).length)] 0, .int .i64 0]), false = false, PureF Try.prog (.clos 76 [] []) [.int .i64 kd] (.clos 113 [] [.rptr [.int .i64 kd] 0]), PureF Try.prog (.clos 77 [] []) [.rptr [.rsl (rowStg (((machG s).s).stages)) 0 ((((machG s).s).stages).length), .rsl (rowI (((machG s).s).worth)) 0 ((((machG s).s).worth).length), .int .i64 (((machG s).s).price), .rsl (rowI ((machG s).meas)) 0 (((machG s).meas).length), .rsl (rowI ((machG s).mult)) 0 (((machG s).mult).length)] 0, .int .i64 pa, .int .i64 oa] (.clos 114 [] [.rptr [.int .i64 pa] 0, .rptr [.rptr [.rsl (rowStg (((machG s).s).stages)) 0 ((((machG s).s).stages).length), .rsl (rowI (((machG s).s).worth)) 0 ((((machG s).s).worth).length), .int .i64 (((machG s).s).price), .rsl (rowI ((machG s).meas)) 0 (((machG s).meas).length), .rsl (rowI ((machG s).mult)) 0 (((machG s).mult).length)] 0] 0, .rptr [.int .i64 oa] 0]), PureF Try.prog (.clos 75 [] []) [.rptr [.rsl (rowStg (((machG s).s).stages)) 0 ((((machG s).s).stages).length), .rsl (rowI (((machG s).s).worth)) 0 ((((machG s).s).worth).length), .int .i64 (((machG s).s).price), .rsl (rowI ((machG s).meas)) 0 (((machG s).meas).length), .rsl (rowI ((machG s).mult)) 0 (((machG s).mult).length)] 0, .clos 113 [] [.rptr [.int .i64 kd] 0], .clos 114 [] [.rptr [.int .i64 pa] 0, .rptr [.rptr [.rsl (rowStg (((machG s).s).stages)) 0 ((((machG s).s).stages).length), .rsl (rowI (((machG s).s).worth)) 0 ((((machG s).s).worth).length), .int .i64 (((machG s).s).price), .rsl (rowI ((machG s).meas)) 0 (((machG s).meas).length), .rsl (rowI ((machG s).mult)) 0 (((machG s).mult).length)] 0] 0, .rptr [.int .i64 oa] 0]] (.agg [.int .i64 ((firstI (machG s) (onlyI kd) (chooseI (machG s) pa oa)).num), .int .i64 ((firstI (machG s) (onlyI kd) (chooseI (machG s) pa oa)).den)]), 2 ≤ 2, (0 : Int) ≤ 0 ∧ (0 : Int) < ((2 : Nat) : Int), (0 : Int) ≤ 1 ∧ (1 : Int) < ((2 : Nat) : Int)])
    (hr : AvLe (.tup [.int .i64 ((firstI (machG s) (onlyI kd) (chooseI (machG s) pa oa)).num), .int .i64 ((firstI (machG s) (onlyI kd) (chooseI (machG s) pa oa)).den), .int .i64 0]) res) : G Try.prog E [.code (bodyAt Try.prog 25)] ⟨[.agg [.rsl (rowStg s.stages) 0 s.stages.length, .rsl (rowI s.worth) 0 s.worth.length, .int .i64 s.price], .int .i64 kd, .int .i64 pa, .int .i64 oa] ++ unds (Try.f25.ntmps - 4), []⟩ :=
  end_stepL (n := 400) (evs := [.wt 5, .wt 6, .wt 7, .v (.tup [.rptr [.rsl (rowStg (((machG s).s).stages)) 0 ((((machG s).s).stages).length), .rsl (rowI (((machG s).s).worth)) 0 ((((machG s).s).worth).length), .int .i64 (((machG s).s).price), .rsl (rowI ((machG s).meas)) 0 (((machG s).meas).length), .rsl (rowI ((machG s).mult)) 0 (((machG s).mult).length)] 0, .int .i64 0]), .b false, .v (.clos 113 [] [.rptr [.int .i64 kd] 0]), .v (.clos 114 [] [.rptr [.int .i64 pa] 0, .rptr [.rptr [.rsl (rowStg (((machG s).s).stages)) 0 ((((machG s).s).stages).length), .rsl (rowI (((machG s).s).worth)) 0 ((((machG s).s).worth).length), .int .i64 (((machG s).s).price), .rsl (rowI ((machG s).meas)) 0 (((machG s).meas).length), .rsl (rowI ((machG s).mult)) 0 (((machG s).mult).length)] 0] 0, .rptr [.int .i64 oa] 0]), .v (.agg [.int .i64 ((firstI (machG s) (onlyI kd) (chooseI (machG s) pa oa)).num), .int .i64 ((firstI (machG s) (onlyI kd) (chooseI (machG s) pa oa)).den)])]) (obs := _) hE Try.func25 mixed (by kernel_rfl) ho hr
theorem p25_start_1 (s : Stl) (kd : Int) (pa : Int) (oa : Int)   {E : Env} {res : AV} (hE : PureE Try.prog 25 res E) (ho : AllP [PureF Try.prog (.clos 71 [] []) [.agg [.rsl (rowStg s.stages) 0 s.stages.length, .rsl (rowI s.worth) 0 s.worth.length, .int .i64 s.price], .clos 72 [] [.rptr [.int .i64 kd] 0, .rptr [.int .i64 pa] 0, .rptr [.int .i64 oa] 0]] (.tup [.nilPtr, .int .i64 1]), true = true])
    (hr : AvLe (.tup [.int .i64 0, .int .i64 0, .int .i64 1]) res) : G Try.prog E [.code (bodyAt Try.prog 25)] ⟨[.agg [.rsl (rowStg s.stages) 0 s.stages.length, .rsl (rowI s.worth) 0 s.worth.length, .int .i64 s.price], .int .i64 kd, .int .i64 pa, .int .i64 oa] ++ unds (Try.f25.ntmps - 4), []⟩ :=
  end_stepL (n := 400) (evs := [.wt 5, .wt 6, .wt 7, .v (.tup [.nilPtr, .int .i64 1]), .b true]) (obs := _) hE Try.func25 mixed (by kernel_rfl) ho hr
theorem p25_start_2 (s : Stl) (kd : Int) (pa : Int) (oa : Int)   {E : Env} {res : AV} (hE : PureE Try.prog 25 res E) (ho : AllP [PureF Try.prog (.clos 71 [] []) [.agg [.rsl (rowStg s.stages) 0 s.stages.length, .rsl (rowI s.worth) 0 s.worth.length, .int .i64 s.price], .clos 72 [] [.rptr [.int .i64 kd] 0, .rptr [.int .i64 pa] 0, .rptr [.int .i64 oa] 0]] (.tup [.nilPtr, .int .i64 60]), true = true])
    (hr : AvLe (.tup [.int .i64 0, .int .i64 0, .int .i64 60]) res) : G Try.prog E [.code (bodyAt Try.prog 25)] ⟨[.agg [.rsl (rowStg s.stages) 0 s.stages.length, .rsl (rowI s.worth) 0 s.worth.length, .int .i64 s.price], .int .i64 kd, .int .i64 pa, .int .i64 oa] ++ unds (Try.f25.ntmps - 4), []⟩ :=
  end_stepL (n := 400) (evs := [.wt 5, .wt 6, .wt 7, .v (.tup [.nilPtr, .int .i64 60]), .b true]) (obs := _) hE Try.func25 mixed (by kernel_rfl) ho hr
theorem f25W (s : Stl) (kd : Int) (pa : Int) (oa : Int) {E : Env} {rv : (Int × Int × Int)} (hE : PureE Try.prog 25 (.tup [.int .i64 rv.1, .int .i64 rv.2.1, .int .i64 rv.2.2]) E)
    (h : ((((machI s).isSome) = true → (((rightO (machG s) kd pa oa) = true → ((s.stages.length ≤ 9223372036854775807 ∧ s.worth.length ≤ 9223372036854775807) ∧ ((MOk (machG s)) ∧ rv = ((firstI (machG s) (onlyI kd) (chooseI (machG s) pa oa)).num, (firstI (machG s) (onlyI kd) (chooseI (machG s) pa oa)).den, 0)))) ∧ ((rightO (machG s) kd pa oa) = false → ((s.stages.length ≤ 9223372036854775807 ∧ s.worth.length ≤ 9223372036854775807) ∧ rv = (0, 0, 1))))) ∧ (((machI s).isSome) = false → ((s.stages.length ≤ 9223372036854775807 ∧ s.worth.length ≤ 9223372036854775807) ∧ rv = (0, 0, 60))))) : G Try.prog E [.code (bodyAt Try.prog 25)] ⟨[.agg [.rsl (rowStg s.stages) 0 s.stages.length, .rsl (rowI s.worth) 0 s.worth.length, .int .i64 s.price], .int .i64 kd, .int .i64 pa, .int .i64 oa] ++ unds (Try.f25.ntmps - 4), []⟩ := by
  rcases Bool.eq_false_or_eq_true ((machI s).isSome) with hc0 | hc0
  · have h := h.1 hc0
    rcases Bool.eq_false_or_eq_true (rightO (machG s) kd pa oa) with hc1 | hc1
    · have h := h.1 hc1
      obtain ⟨h1, h⟩ := h
      obtain ⟨h2, h⟩ := h
      exact p25_start_0 s kd pa oa    hE ⟨(pureF_of Try.func71 (by kernel_rfl) f71x72b (begR_T hc0 hc1 ▸ beg72_ok s kd pa oa h1)), rfl, (pureF_of Try.func76 (by kernel_rfl) f76b (mkonly_ok kd)), (pureF_of Try.func77 (by kernel_rfl) f77b (mkaims_ok (machG s) pa oa)), (pureF_of Try.func75 (by kernel_rfl) f75ob (firsto_ok (machG s) kd pa oa h2)), (by decide), (⟨by decide, by decide⟩), (⟨by decide, by decide⟩), trivial⟩ (AvLe.of_eq (by rw [h]; try rfl))
    · have h := h.2 hc1
      obtain ⟨h1, h⟩ := h
      exact p25_start_1 s kd pa oa    hE ⟨(pureF_of Try.func71 (by kernel_rfl) f71x72b (begR_F1 hc0 hc1 ▸ beg72_ok s kd pa oa h1)), rfl, trivial⟩ (AvLe.of_eq (by rw [h]; try rfl))
  · have h := h.2 hc0
    obtain ⟨h1, h⟩ := h
    exact p25_start_2 s kd pa oa    hE ⟨(pureF_of Try.func71 (by kernel_rfl) f71x72b (begR_F0 hc0 ▸ beg72_ok s kd pa oa h1)), rfl, trivial⟩ (AvLe.of_eq (by rw [h]; try rfl))
theorem f64b : Try.f64.body = some (bodyAt Try.prog 64) := by kernel_rfl
theorem p64_start_0    {E : Env} {res : AV} (hE : PureE Try.prog 64 res E) (ho : AllP [3 ≤ 3, 0 = 0, 0 = 0, 0 = 0, 0 = 0, 0 = 0])
    (hr : AvLe (.agg [.rsl [.int .i64 3, .int .i64 0, .rsl [.int .i64 0, .int .i64 1, .int .i64 0, .int .i64 2] 0 2, .int .i64 1, .int .i64 0, .rsl [.int .i64 1, .int .i64 3, .int .i64 1, .int .i64 4] 0 2, .int .i64 1, .int .i64 0, .rsl [.int .i64 1, .int .i64 3, .int .i64 3, .int .i64 4] 0 2, .int .i64 4, .int .i64 0, .rsl [] 0 0, .int .i64 4, .int .i64 (-1), .rsl [] 0 0] 0 5, .rsl [.int .i64 100] 0 1, .int .i64 40]) res) : G Try.prog E [.code (bodyAt Try.prog 64)] ⟨[] ++ unds (Try.f64.ntmps - 0), []⟩ :=
  end_stepL (n := 400) (evs := [.wt 13, .wt 14]) (obs := _) hE Try.func64 mixed (by kernel_rfl) ho hr
theorem f64W  {E : Env} {rv : Stl} (hE : PureE Try.prog 64 (.agg [.rsl (rowStg rv.stages) 0 rv.stages.length, .rsl (rowI rv.worth) 0 rv.worth.length, .int .i64 rv.price]) E)
    (h : rv = (⟨[(⟨3, 0, [(⟨0, 1⟩ : Trn), (⟨0, 2⟩ : Trn)]⟩ : Stg), (⟨1, 0, [(⟨1, 3⟩ : Trn), (⟨1, 4⟩ : Trn)]⟩ : Stg), (⟨1, 0, [(⟨1, 3⟩ : Trn), (⟨3, 4⟩ : Trn)]⟩ : Stg), (⟨4, 0, ([] : List Trn)⟩ : Stg), (⟨4, (-1), ([] : List Trn)⟩ : Stg)], [100], 40⟩ : Stl)) : G Try.prog E [.code (bodyAt Try.prog 64)] ⟨[] ++ unds (Try.f64.ntmps - 0), []⟩ := by
  exact p64_start_0     hE ⟨(by decide), rfl, rfl, rfl, rfl, rfl, trivial⟩ (AvLe.of_eq (by rw [h]; try rfl))

def oddsK (s : Stl) (kd pa oa : Int) : Int × Int × Int := if (machI s).isSome = true then (if rightO (machG s) kd pa oa = true then ((firstI (machG s) (onlyI kd) (chooseI (machG s) pa oa)).num, (firstI (machG s) (onlyI kd) (chooseI (machG s) pa oa)).den, 0) else (0, 0, 1)) else (0, 0, 60)
theorem odds_ok (s : Stl) (kd pa oa : Int) (h : s.stages.length ≤ 9223372036854775807 ∧ s.worth.length ≤ 9223372036854775807) : Pure Try.prog 25 [.agg [.rsl (rowStg s.stages) 0 s.stages.length, .rsl (rowI s.worth) 0 s.worth.length, .int .i64 s.price], .int .i64 kd, .int .i64 pa, .int .i64 oa] (.tup [.int .i64 (oddsK s kd pa oa).1, .int .i64 (oddsK s kd pa oa).2.1, .int .i64 (oddsK s kd pa oa).2.2]) := pure_of Try.func25 f25b fun E hE => by
  refine f25W s kd pa oa (rv := oddsK s kd pa oa) hE ⟨fun h0 => ⟨fun h1 => ⟨h, (mok_G h0).1, ?_⟩, fun h1 => ⟨h, ?_⟩⟩, fun h0 => ⟨h, ?_⟩⟩
  · rw [oddsK, if_pos h0, if_pos h1]
  · rw [oddsK, if_pos h0, if_neg (by rw [h1]; simp)]
  · rw [oddsK, if_neg (by rw [h0]; simp)]
def exS : Stl := ⟨[⟨3, 0, [⟨0, 1⟩, ⟨0, 2⟩]⟩, ⟨1, 0, [⟨1, 3⟩, ⟨1, 4⟩]⟩, ⟨1, 0, [⟨1, 3⟩, ⟨3, 4⟩]⟩, ⟨4, 0, []⟩, ⟨4, -1, []⟩], [100], 40⟩
theorem example_ok : Pure Try.prog 64 [] (.agg [.rsl (rowStg exS.stages) 0 exS.stages.length, .rsl (rowI exS.worth) 0 exS.worth.length, .int .i64 exS.price]) := pure_of Try.func64 f64b fun E hE => f64W (rv := exS) hE rfl

theorem f20b : Try.f20.body = some (bodyAt Try.prog 20) := by kernel_rfl
theorem p20_start_0    {E : Env} {res : AV} (hE : PureE Try.prog 20 res E) (ho : AllP [PureF Try.prog (.clos 64 [] []) [] (.agg [.rsl (rowStg exS.stages) 0 exS.stages.length, .rsl (rowI exS.worth) 0 exS.worth.length, .int .i64 exS.price]), PureF Try.prog (.clos 25 [] []) [.agg [.rsl (rowStg exS.stages) 0 exS.stages.length, .rsl (rowI exS.worth) 0 exS.worth.length, .int .i64 exS.price], .int .i64 0, .int .i64 2, .int .i64 1] (.tup [.int .i64 ((oddsK exS 0 2 1).1), .int .i64 ((oddsK exS 0 2 1).2.1), .int .i64 ((oddsK exS 0 2 1).2.2)]), PureF Try.prog (.clos 21 [] []) [.int .i64 3, .int .i64 2, .int .i64 1, .int .i64 3] (.tup [.agg [.rsl (rowStg (((throwsK 3 2 1 3).1).stages)) 0 ((((throwsK 3 2 1 3).1).stages).length), .rsl (rowI (((throwsK 3 2 1 3).1).worth)) 0 ((((throwsK 3 2 1 3).1).worth).length), .int .i64 (((throwsK 3 2 1 3).1).price)], .int .i64 ((throwsK 3 2 1 3).2)]), 3 ≤ 3, ((oddsK exS 0 2 1).2.2 == 0) = true, ((throwsK 3 2 1 3).2 == 0) = true, ((oddsK exS 0 2 1).1 == 1) = true, ((oddsK exS 0 2 1).2.1 == 4) = true])
    (hr : AvLe (.bool ((((((throwsK 3 2 1 3).1).stages).length : Nat) : Int) == 8)) res) : G Try.prog E [.code (bodyAt Try.prog 20)] ⟨[] ++ unds (Try.f20.ntmps - 0), []⟩ :=
  end_stepL (n := 400) (evs := [.v (.agg [.rsl (rowStg exS.stages) 0 exS.stages.length, .rsl (rowI exS.worth) 0 exS.worth.length, .int .i64 exS.price]), .v (.tup [.int .i64 ((oddsK exS 0 2 1).1), .int .i64 ((oddsK exS 0 2 1).2.1), .int .i64 ((oddsK exS 0 2 1).2.2)]), .v (.tup [.agg [.rsl (rowStg (((throwsK 3 2 1 3).1).stages)) 0 ((((throwsK 3 2 1 3).1).stages).length), .rsl (rowI (((throwsK 3 2 1 3).1).worth)) 0 ((((throwsK 3 2 1 3).1).worth).length), .int .i64 (((throwsK 3 2 1 3).1).price)], .int .i64 ((throwsK 3 2 1 3).2)]), .b true, .b true, .b true, .b true]) (obs := _) hE Try.func20 mixed (by kernel_rfl) ho hr
theorem p20_start_1    {E : Env} {res : AV} (hE : PureE Try.prog 20 res E) (ho : AllP [PureF Try.prog (.clos 64 [] []) [] (.agg [.rsl (rowStg exS.stages) 0 exS.stages.length, .rsl (rowI exS.worth) 0 exS.worth.length, .int .i64 exS.price]), PureF Try.prog (.clos 25 [] []) [.agg [.rsl (rowStg exS.stages) 0 exS.stages.length, .rsl (rowI exS.worth) 0 exS.worth.length, .int .i64 exS.price], .int .i64 0, .int .i64 2, .int .i64 1] (.tup [.int .i64 ((oddsK exS 0 2 1).1), .int .i64 ((oddsK exS 0 2 1).2.1), .int .i64 ((oddsK exS 0 2 1).2.2)]), PureF Try.prog (.clos 21 [] []) [.int .i64 3, .int .i64 2, .int .i64 1, .int .i64 3] (.tup [.agg [.rsl (rowStg (((throwsK 3 2 1 3).1).stages)) 0 ((((throwsK 3 2 1 3).1).stages).length), .rsl (rowI (((throwsK 3 2 1 3).1).worth)) 0 ((((throwsK 3 2 1 3).1).worth).length), .int .i64 (((throwsK 3 2 1 3).1).price)], .int .i64 ((throwsK 3 2 1 3).2)]), 3 ≤ 3, ((oddsK exS 0 2 1).2.2 == 0) = true, ((throwsK 3 2 1 3).2 == 0) = true, ((oddsK exS 0 2 1).1 == 1) = true, ((oddsK exS 0 2 1).2.1 == 4) = false])
    (hr : AvLe (.bool false) res) : G Try.prog E [.code (bodyAt Try.prog 20)] ⟨[] ++ unds (Try.f20.ntmps - 0), []⟩ :=
  end_stepL (n := 400) (evs := [.v (.agg [.rsl (rowStg exS.stages) 0 exS.stages.length, .rsl (rowI exS.worth) 0 exS.worth.length, .int .i64 exS.price]), .v (.tup [.int .i64 ((oddsK exS 0 2 1).1), .int .i64 ((oddsK exS 0 2 1).2.1), .int .i64 ((oddsK exS 0 2 1).2.2)]), .v (.tup [.agg [.rsl (rowStg (((throwsK 3 2 1 3).1).stages)) 0 ((((throwsK 3 2 1 3).1).stages).length), .rsl (rowI (((throwsK 3 2 1 3).1).worth)) 0 ((((throwsK 3 2 1 3).1).worth).length), .int .i64 (((throwsK 3 2 1 3).1).price)], .int .i64 ((throwsK 3 2 1 3).2)]), .b true, .b true, .b true, .b false]) (obs := _) hE Try.func20 mixed (by kernel_rfl) ho hr
theorem p20_start_2    {E : Env} {res : AV} (hE : PureE Try.prog 20 res E) (ho : AllP [PureF Try.prog (.clos 64 [] []) [] (.agg [.rsl (rowStg exS.stages) 0 exS.stages.length, .rsl (rowI exS.worth) 0 exS.worth.length, .int .i64 exS.price]), PureF Try.prog (.clos 25 [] []) [.agg [.rsl (rowStg exS.stages) 0 exS.stages.length, .rsl (rowI exS.worth) 0 exS.worth.length, .int .i64 exS.price], .int .i64 0, .int .i64 2, .int .i64 1] (.tup [.int .i64 ((oddsK exS 0 2 1).1), .int .i64 ((oddsK exS 0 2 1).2.1), .int .i64 ((oddsK exS 0 2 1).2.2)]), PureF Try.prog (.clos 21 [] []) [.int .i64 3, .int .i64 2, .int .i64 1, .int .i64 3] (.tup [.agg [.rsl (rowStg (((throwsK 3 2 1 3).1).stages)) 0 ((((throwsK 3 2 1 3).1).stages).length), .rsl (rowI (((throwsK 3 2 1 3).1).worth)) 0 ((((throwsK 3 2 1 3).1).worth).length), .int .i64 (((throwsK 3 2 1 3).1).price)], .int .i64 ((throwsK 3 2 1 3).2)]), 3 ≤ 3, ((oddsK exS 0 2 1).2.2 == 0) = true, ((throwsK 3 2 1 3).2 == 0) = true, ((oddsK exS 0 2 1).1 == 1) = false, false = false])
    (hr : AvLe (.bool false) res) : G Try.prog E [.code (bodyAt Try.prog 20)] ⟨[] ++ unds (Try.f20.ntmps - 0), []⟩ :=
  end_stepL (n := 400) (evs := [.v (.agg [.rsl (rowStg exS.stages) 0 exS.stages.length, .rsl (rowI exS.worth) 0 exS.worth.length, .int .i64 exS.price]), .v (.tup [.int .i64 ((oddsK exS 0 2 1).1), .int .i64 ((oddsK exS 0 2 1).2.1), .int .i64 ((oddsK exS 0 2 1).2.2)]), .v (.tup [.agg [.rsl (rowStg (((throwsK 3 2 1 3).1).stages)) 0 ((((throwsK 3 2 1 3).1).stages).length), .rsl (rowI (((throwsK 3 2 1 3).1).worth)) 0 ((((throwsK 3 2 1 3).1).worth).length), .int .i64 (((throwsK 3 2 1 3).1).price)], .int .i64 ((throwsK 3 2 1 3).2)]), .b true, .b true, .b false, .b false]) (obs := _) hE Try.func20 mixed (by kernel_rfl) ho hr
theorem p20_start_3    {E : Env} {res : AV} (hE : PureE Try.prog 20 res E) (ho : AllP [PureF Try.prog (.clos 64 [] []) [] (.agg [.rsl (rowStg exS.stages) 0 exS.stages.length, .rsl (rowI exS.worth) 0 exS.worth.length, .int .i64 exS.price]), PureF Try.prog (.clos 25 [] []) [.agg [.rsl (rowStg exS.stages) 0 exS.stages.length, .rsl (rowI exS.worth) 0 exS.worth.length, .int .i64 exS.price], .int .i64 0, .int .i64 2, .int .i64 1] (.tup [.int .i64 ((oddsK exS 0 2 1).1), .int .i64 ((oddsK exS 0 2 1).2.1), .int .i64 ((oddsK exS 0 2 1).2.2)]), PureF Try.prog (.clos 21 [] []) [.int .i64 3, .int .i64 2, .int .i64 1, .int .i64 3] (.tup [.agg [.rsl (rowStg (((throwsK 3 2 1 3).1).stages)) 0 ((((throwsK 3 2 1 3).1).stages).length), .rsl (rowI (((throwsK 3 2 1 3).1).worth)) 0 ((((throwsK 3 2 1 3).1).worth).length), .int .i64 (((throwsK 3 2 1 3).1).price)], .int .i64 ((throwsK 3 2 1 3).2)]), 3 ≤ 3, ((oddsK exS 0 2 1).2.2 == 0) = true, ((throwsK 3 2 1 3).2 == 0) = false, false = false, false = false])
    (hr : AvLe (.bool false) res) : G Try.prog E [.code (bodyAt Try.prog 20)] ⟨[] ++ unds (Try.f20.ntmps - 0), []⟩ :=
  end_stepL (n := 400) (evs := [.v (.agg [.rsl (rowStg exS.stages) 0 exS.stages.length, .rsl (rowI exS.worth) 0 exS.worth.length, .int .i64 exS.price]), .v (.tup [.int .i64 ((oddsK exS 0 2 1).1), .int .i64 ((oddsK exS 0 2 1).2.1), .int .i64 ((oddsK exS 0 2 1).2.2)]), .v (.tup [.agg [.rsl (rowStg (((throwsK 3 2 1 3).1).stages)) 0 ((((throwsK 3 2 1 3).1).stages).length), .rsl (rowI (((throwsK 3 2 1 3).1).worth)) 0 ((((throwsK 3 2 1 3).1).worth).length), .int .i64 (((throwsK 3 2 1 3).1).price)], .int .i64 ((throwsK 3 2 1 3).2)]), .b true, .b false, .b false, .b false]) (obs := _) hE Try.func20 mixed (by kernel_rfl) ho hr
theorem p20_start_4    {E : Env} {res : AV} (hE : PureE Try.prog 20 res E) (ho : AllP [PureF Try.prog (.clos 64 [] []) [] (.agg [.rsl (rowStg exS.stages) 0 exS.stages.length, .rsl (rowI exS.worth) 0 exS.worth.length, .int .i64 exS.price]), PureF Try.prog (.clos 25 [] []) [.agg [.rsl (rowStg exS.stages) 0 exS.stages.length, .rsl (rowI exS.worth) 0 exS.worth.length, .int .i64 exS.price], .int .i64 0, .int .i64 2, .int .i64 1] (.tup [.int .i64 ((oddsK exS 0 2 1).1), .int .i64 ((oddsK exS 0 2 1).2.1), .int .i64 ((oddsK exS 0 2 1).2.2)]), PureF Try.prog (.clos 21 [] []) [.int .i64 3, .int .i64 2, .int .i64 1, .int .i64 3] (.tup [.agg [.rsl (rowStg (((throwsK 3 2 1 3).1).stages)) 0 ((((throwsK 3 2 1 3).1).stages).length), .rsl (rowI (((throwsK 3 2 1 3).1).worth)) 0 ((((throwsK 3 2 1 3).1).worth).length), .int .i64 (((throwsK 3 2 1 3).1).price)], .int .i64 ((throwsK 3 2 1 3).2)]), 3 ≤ 3, ((oddsK exS 0 2 1).2.2 == 0) = false, false = false, false = false, false = false])
    (hr : AvLe (.bool false) res) : G Try.prog E [.code (bodyAt Try.prog 20)] ⟨[] ++ unds (Try.f20.ntmps - 0), []⟩ :=
  end_stepL (n := 400) (evs := [.v (.agg [.rsl (rowStg exS.stages) 0 exS.stages.length, .rsl (rowI exS.worth) 0 exS.worth.length, .int .i64 exS.price]), .v (.tup [.int .i64 ((oddsK exS 0 2 1).1), .int .i64 ((oddsK exS 0 2 1).2.1), .int .i64 ((oddsK exS 0 2 1).2.2)]), .v (.tup [.agg [.rsl (rowStg (((throwsK 3 2 1 3).1).stages)) 0 ((((throwsK 3 2 1 3).1).stages).length), .rsl (rowI (((throwsK 3 2 1 3).1).worth)) 0 ((((throwsK 3 2 1 3).1).worth).length), .int .i64 (((throwsK 3 2 1 3).1).price)], .int .i64 ((throwsK 3 2 1 3).2)]), .b false, .b false, .b false, .b false]) (obs := _) hE Try.func20 mixed (by kernel_rfl) ho hr
theorem f20W  {E : Env} {rv : Bool} (hE : PureE Try.prog 20 (.bool rv) E)
    (h : ((exS.stages.length ≤ 9223372036854775807 ∧ exS.worth.length ≤ 9223372036854775807) ∧ (((oddsK exS 0 2 1).2.2 = 0 → (((throwsK 3 2 1 3).2 = 0 → (((oddsK exS 0 2 1).1 = 1 → (((oddsK exS 0 2 1).2.1 = 4 → rv = ((((((throwsK 3 2 1 3).1).stages).length : Nat) : Int) == 8)) ∧ (¬ ((oddsK exS 0 2 1).2.1 = 4) → rv = false))) ∧ (¬ ((oddsK exS 0 2 1).1 = 1) → rv = false))) ∧ (¬ ((throwsK 3 2 1 3).2 = 0) → rv = false))) ∧ (¬ ((oddsK exS 0 2 1).2.2 = 0) → rv = false)))) : G Try.prog E [.code (bodyAt Try.prog 20)] ⟨[] ++ unds (Try.f20.ntmps - 0), []⟩ := by
  obtain ⟨h1, h⟩ := h
  rcases Bool.eq_false_or_eq_true ((oddsK exS 0 2 1).2.2 == 0) with hc0 | hc0
  · have h := h.1 (eq_of_beq hc0)
    rcases Bool.eq_false_or_eq_true ((throwsK 3 2 1 3).2 == 0) with hc1 | hc1
    · have h := h.1 (eq_of_beq hc1)
      rcases Bool.eq_false_or_eq_true ((oddsK exS 0 2 1).1 == 1) with hc2 | hc2
      · have h := h.1 (eq_of_beq hc2)
        rcases Bool.eq_false_or_eq_true ((oddsK exS 0 2 1).2.1 == 4) with hc3 | hc3
        · have h := h.1 (eq_of_beq hc3)
          exact p20_start_0     hE ⟨(pureF_of Try.func64 (by kernel_rfl) f64b (example_ok )), (pureF_of Try.func25 (by kernel_rfl) f25b (odds_ok exS 0 2 1 h1)), (pureF_of Try.func21 (by kernel_rfl) f21b (throws_ok 3 2 1 3)), (by decide), hc0, hc1, hc2, hc3, trivial⟩ (AvLe.of_eq (by rw [h]; try rfl))
        · have h := h.2 (ne_of_beq_false hc3)
          exact p20_start_1     hE ⟨(pureF_of Try.func64 (by kernel_rfl) f64b (example_ok )), (pureF_of Try.func25 (by kernel_rfl) f25b (odds_ok exS 0 2 1 h1)), (pureF_of Try.func21 (by kernel_rfl) f21b (throws_ok 3 2 1 3)), (by decide), hc0, hc1, hc2, hc3, trivial⟩ (AvLe.of_eq (by rw [h]; try rfl))
      · have h := h.2 (ne_of_beq_false hc2)
        exact p20_start_2     hE ⟨(pureF_of Try.func64 (by kernel_rfl) f64b (example_ok )), (pureF_of Try.func25 (by kernel_rfl) f25b (odds_ok exS 0 2 1 h1)), (pureF_of Try.func21 (by kernel_rfl) f21b (throws_ok 3 2 1 3)), (by decide), hc0, hc1, hc2, rfl, trivial⟩ (AvLe.of_eq (by rw [h]; try rfl))
    · have h := h.2 (ne_of_beq_false hc1)
      exact p20_start_3     hE ⟨(pureF_of Try.func64 (by kernel_rfl) f64b (example_ok )), (pureF_of Try.func25 (by kernel_rfl) f25b (odds_ok exS 0 2 1 h1)), (pureF_of Try.func21 (by kernel_rfl) f21b (throws_ok 3 2 1 3)), (by decide), hc0, hc1, rfl, rfl, trivial⟩ (AvLe.of_eq (by rw [h]; try rfl))
  · have h := h.2 (ne_of_beq_false hc0)
    exact p20_start_4     hE ⟨(pureF_of Try.func64 (by kernel_rfl) f64b (example_ok )), (pureF_of Try.func25 (by kernel_rfl) f25b (odds_ok exS 0 2 1 h1)), (pureF_of Try.func21 (by kernel_rfl) f21b (throws_ok 3 2 1 3)), (by decide), hc0, rfl, rfl, rfl, trivial⟩ (AvLe.of_eq (by rw [h]; try rfl))

theorem odds_ex : oddsK exS 0 2 1 = (1, 4, 0) := by decide +kernel
theorem throws_ex : (throwsK 3 2 1 3).2 = 0 ∧ (throwsK 3 2 1 3).1.stages.length = 8 := by decide +kernel


theorem works_ok : Pure Try.prog 20 [] (.bool true) := pure_of Try.func20 f20b fun E hE => by
  have h1 := odds_ex
  have h2 := throws_ex
  refine f20W (rv := true) hE ⟨⟨by decide, by decide⟩, fun _ => ⟨fun _ => ⟨fun _ => ⟨fun _ => ?_, fun h => ?_⟩, fun h => ?_⟩, fun h => ?_⟩, fun h => ?_⟩
  · rw [h2.2]; rfl
  · rw [h1] at h; exact absurd rfl h
  · rw [h1] at h; exact absurd rfl h
  · exact absurd h2.1 h
  · rw [h1] at h; exact absurd rfl h

end Go.Proofs.Ytfgmlaeikcfpbaa

namespace Go.Proofs.Ytfgmlaeikcfpbaa
open Go Ax
open Go.Proofs

theorem ownT : ownKnob Try.prog.godebug = none := by kernel_rfl
theorem laidT : laidOutB Try.prog = true := by kernel_rfl
theorem dInts (W : World) : Dec Try.prog W 23 (List Int) (fun a => [.rsl (rowI a) 0 a.length]) (fun a => a.length ≤ 9223372036854775807) := by
  refine Dec.map (dec_slice Try.underlying23 (n := 1) (by kernel_rfl) (by decide) (fun _ => rfl) (fun _ => rfl) (dec_i64 Try.underlying3)) (fun x => x) ?_ ?_
  · exact fun _ => rfl
  · exact fun _ h => h.1
theorem dTrn (W : World) : Dec Try.prog W 122 Trn cTrn (fun a => True) := by
  refine Dec.map (dec_struct Try.underlying122 rfl (tot := 2) (by kernel_rfl) (decFs_cons (n := 1) (tot := 2) (by kernel_rfl) rfl (dec_i64 Try.underlying3) (decFs_cons (n := 1) (tot := 2) (by kernel_rfl) rfl (dec_i64 Try.underlying3) decFs_nil (by decide)) (by decide))) (fun x => (⟨x.1, x.2.1⟩ : Trn)) ?_ ?_
  · exact fun _ => rfl
  · exact fun _ _ => trivial
theorem dTrns (W : World) : Dec Try.prog W 80 (List Trn) (fun a => [.rsl (rowTrn a) 0 a.length]) (fun a => a.length ≤ 9223372036854775807) := by
  refine Dec.map (dec_slice Try.underlying80 (n := 2) (by kernel_rfl) (by decide) (fun _ => rfl) (fun _ => rfl) (dTrn W)) (fun x => x) ?_ ?_
  · exact fun _ => rfl
  · exact fun _ h => h.1
theorem dStg (W : World) : Dec Try.prog W 82 Stg cStg (fun a => True) := by
  refine Dec.map (dec_struct Try.underlying82 rfl (tot := 3) (by kernel_rfl) (decFs_cons (n := 1) (tot := 3) (by kernel_rfl) rfl (dec_i64 Try.underlying3) (decFs_cons (n := 1) (tot := 3) (by kernel_rfl) rfl (dec_i64 Try.underlying3) (decFs_cons (n := 1) (tot := 3) (by kernel_rfl) rfl (dTrns W) decFs_nil (by decide)) (by decide)) (by decide))) (fun x => (⟨x.1, x.2.1, x.2.2.1⟩ : Stg)) ?_ ?_
  · exact fun _ => rfl
  · exact fun _ _ => trivial
theorem dStgs (W : World) : Dec Try.prog W 22 (List Stg) (fun a => [.rsl (rowStg a) 0 a.length]) (fun a => a.length ≤ 9223372036854775807) := by
  refine Dec.map (dec_slice Try.underlying22 (n := 3) (by kernel_rfl) (by decide) (fun _ => rfl) (fun _ => rfl) (dStg W)) (fun x => x) ?_ ?_
  · exact fun _ => rfl
  · exact fun _ h => h.1
theorem dStl (W : World) : Dec Try.prog W 25 Stl cStl (fun a => a.stages.length ≤ 9223372036854775807 ∧ a.worth.length ≤ 9223372036854775807) := by
  refine Dec.map (dec_struct Try.underlying25 rfl (tot := 3) (by kernel_rfl) (decFs_cons (n := 1) (tot := 3) (by kernel_rfl) rfl (dStgs W) (decFs_cons (n := 1) (tot := 3) (by kernel_rfl) rfl (dInts W) (decFs_cons (n := 1) (tot := 3) (by kernel_rfl) rfl (dec_i64 Try.underlying3) decFs_nil (by decide)) (by decide)) (by decide))) (fun x => (⟨x.1, x.2.1, x.2.2.1⟩ : Stl)) ?_ ?_
  · exact fun _ => rfl
  · exact fun _ h => ⟨h.1, h.2.1⟩
end Go.Proofs.Ytfgmlaeikcfpbaa

namespace Go.Proofs.Ytfgmlaeikcfpbaa
open Go Ax
open Go.Proofs

/-! ### What the values are, in the end -/
structure VFix (m : Mch) (w : Int → Int) (ch : Int → List Int → Int) (i : Nat) (p : List Int × List Int) : Prop where
  fx : ∀ (j : Nat) (x : Stg), i ≤ j → m.s.stages[j]? = some x →
    (x.kind = 4 → p.1.getD j 0 = (if x.prize ≥ 0 then w x.prize else 0) ∧ p.2.getD j 0 = 0) ∧
    (x.kind = 1 → p.1.getD j 0 = sumW x.turns (nextI m j p.1 x.turns) ∧ p.2.getD j 0 = 0) ∧
    (x.kind ≠ 4 → x.kind ≠ 1 → p.1.getD j 0 = (nextI m j p.1 x.turns).getD (Int.toNat (p.2.getD j 0)) 0 ∧ p.2.getD j 0 = ch j (nextI m j p.1 x.turns))

theorem next_set {m : Mch} {i j : Nat} {a : Int} {V : List Int} {ts : List Trn} (h : ∀ t ∈ ts, i < Int.toNat t.to) : nextI m j (V.set i a) ts = nextI m j V ts := by
  unfold nextI
  apply List.map_congr_left
  intro t ht
  rw [getD_set_ne (by have := h t ht; omega)]

theorem vfix_step {m : Mch} (hm : MOk m) {w : Int → Int} {ch : Int → List Int → Int} {i : Nat} {p : List Int × List Int} (hlt : i < m.s.stages.length) (hp : VOk m (i + 1) p) (hf : VFix m w ch (i + 1) p) : VFix m w ch i (valStep m w ch i p) := by
  have hform := (stPre_of hm.st).2.2.2.2
  have hi : m.s.stages[i]? = some m.s.stages[i] := List.getElem?_eq_getElem hlt
  have hx : m.s.stages.getD i ⟨0, 0, []⟩ = m.s.stages[i] := by simp [List.getD, hi]
  have hto := turns_to hi (hform i hlt)
  have up : ∀ (a : Int) (p' : List Int × List Int), p'.1 = p.1.set i a → (∀ j, i < j → p'.2.getD j 0 = p.2.getD j 0) →
      ((m.s.stages[i].kind = 4 → a = (if m.s.stages[i].prize ≥ 0 then w m.s.stages[i].prize else 0) ∧ p'.2.getD i 0 = 0) ∧
       (m.s.stages[i].kind = 1 → a = sumW m.s.stages[i].turns (nextI m i p.1 m.s.stages[i].turns) ∧ p'.2.getD i 0 = 0) ∧
       (m.s.stages[i].kind ≠ 4 → m.s.stages[i].kind ≠ 1 → a = (nextI m i p.1 m.s.stages[i].turns).getD (Int.toNat (p'.2.getD i 0)) 0 ∧ p'.2.getD i 0 = ch i (nextI m i p.1 m.s.stages[i].turns))) → VFix m w ch i p' := by
    intro a p' e1 e2 e3
    refine ⟨fun j x hj hjx => ?_⟩
    by_cases e : i = j
    · subst e
      rw [hi] at hjx; cases hjx
      rw [e1, next_set (fun t ht => (hto t ht).1), getD_set_self (by rw [hp.l1]; exact hlt)]
      exact e3
    · have h1 := hf.fx j x (by omega) hjx
      have hto2 := turns_to hjx (hform j (List.getElem?_eq_some_iff.1 hjx).1)
      rw [e1, next_set (fun t ht => by have := (hto2 t ht).1; omega), getD_set_ne e, e2 j (by omega)]
      exact h1
  unfold valStep
  rw [hx]
  generalize hxx : m.s.stages[i] = x at *
  split
  · rename_i h4
    split
    · rename_i hpr
      refine up (w x.prize) _ rfl (fun j hj => rfl) ⟨fun _ => ⟨by rw [if_pos hpr], hp.c0 i (by omega)⟩, fun h => by omega, fun h => absurd h4 h⟩
    · rename_i hpr
      refine up 0 _ ?_ (fun j hj => rfl) ⟨fun _ => ⟨by rw [if_neg hpr], hp.c0 i (by omega)⟩, fun h => by omega, fun h => absurd h4 h⟩
      rw [set_same]
      have := getD_some (l := p.1) (i := i) (by rw [hp.l1]; exact hlt)
      rw [hp.lo i (by omega)] at this; exact this
  · rename_i h4
    split
    · rename_i h1
      refine up _ _ rfl (fun j hj => rfl) ⟨fun h => absurd h h4, fun _ => ⟨by rw [hp.lo i (by omega), Int.zero_add], hp.c0 i (by omega)⟩, fun _ h => absurd h1 h⟩
    · rename_i h1
      refine up _ _ rfl (fun j hj => by show (p.2.set i _).getD j 0 = _; rw [getD_set_ne (by omega)]) ⟨fun h => absurd h h4, fun h => absurd h h1, fun _ _ => ?_⟩
      show _ = (nextI m i p.1 x.turns).getD (Int.toNat ((p.2.set i _).getD i 0)) 0 ∧ (p.2.set i _).getD i 0 = _
      rw [getD_set_self (by rw [hp.l2]; exact hlt)]
      exact ⟨rfl, rfl⟩

theorem vfix_all {m : Mch} (hm : MOk m) {w : Int → Int} {ch : Int → List Int → Int} (hw : WOk m w ch) : ∀ {n : Nat} {p : List Int × List Int}, n ≤ m.s.stages.length → VOk m n p → VFix m w ch n p → VFix m w ch 0 (valN m w ch n p)
  | 0, p, _, _, h => h
  | i + 1, p, hn, hp, h => (vfix_all hm hw (n := i) (by omega) (val_step hm hw (by omega) hp) (vfix_step hm (by omega) hp h) : VFix m w ch 0 (valN m w ch i (valStep m w ch i p)))
theorem vfixA {m : Mch} (hm : MOk m) {w : Int → Int} {ch : Int → List Int → Int} (hw : WOk m w ch) : VFix m w ch 0 (valA m w ch) :=
  vfix_all hm hw (Nat.le_refl _) (val_ok0 hm) ⟨fun j x hj hx => by have := (List.getElem?_eq_some_iff.1 hx).1; omega⟩

/-! ### Who chooses -/
def pickF (a : Int) (l : List Int) : Int := if a = 2 then maxI l else minI l
def aimAt (m : Mch) (pa oa : Int) (i : Nat) : Int := if (m.s.stages.getD i ⟨0, 0, []⟩).kind = 3 then oa else pa
theorem choose_val {m : Mch} {pa oa : Int} {i : Nat} {l : List Int} (h : 0 < l.length) : l.getD (Int.toNat (chooseI m pa oa i l)) 0 = pickF (aimAt m pa oa i) l := by
  unfold chooseI pickF aimAt
  rw [Int.toNat_natCast]
  generalize (if (m.s.stages.getD i ⟨0, 0, []⟩).kind = 3 then oa else pa) = a
  split
  · exact getD_of (idxV_mem (maxI_mem h).1).2.2.1
  · exact getD_of (idxV_mem (minI_mem h).1).2.2.1
/-! ### The reference's greatest common divisor is the program's -/
theorem gcdF_int : ∀ {n : Nat} {a b : Int}, 0 ≤ a → 0 ≤ b → b < n → gcdF n a b = (Int.gcd a b : Int)
  | 0, a, b, _, hb, h => by omega
  | n + 1, a, b, ha, hb, h => by
    simp only [gcdF]
    split
    · rename_i h0
      have t0 := Int.tmod_nonneg b ha
      have t1 := Int.tmod_lt_of_pos a h0
      rw [gcdF_int hb t0 (by omega), Int.tmod_eq_emod_of_nonneg ha, Int.gcd_comm a b]
      congr 1
      rw [Int.gcd_comm b (a % b), Int.gcd_comm b a]
      simp only [Int.gcd, Int.natAbs_emod_of_nonneg ha]
      rw [Nat.gcd_comm a.natAbs, Nat.gcd_rec b.natAbs a.natAbs]
    · have : b = 0 := by omega
      subst this
      simp [Int.gcd]; omega
theorem gcdI_int {a b : Int} (ha : 0 ≤ a) (hb : 0 ≤ b) : gcdI a b = (Int.gcd a b : Int) := gcdF_int ha hb (by omega)
theorem gcdI_comm {a b : Int} (ha : 0 ≤ a) (hb : 0 ≤ b) : gcdI a b = gcdI b a := by rw [gcdI_int ha hb, gcdI_int hb ha, Int.gcd_comm]
/-! ### What an end is worth -/
theorem isSome_of {s : Stl} (h : checkK s = 0) : (machI s).isSome = true := by
  unfold checkK at h
  split at h
  · assumption
  · omega
theorem measR_of {s : Stl} (h : (machI s).isSome = true) : measR (measA s) = ((machG s).meas, true) := by
  obtain ⟨m, hm⟩ := Option.isSome_iff_exists.1 h
  have : machG s = m := by simp [machG, hm]
  rw [this]
  unfold machI at hm
  split at hm
  · obtain ⟨r, hr, e⟩ := Option.map_eq_some_iff.1 hm
    rw [hr, ← e]; rfl
  · cases hm
def aims2 (a b : Int) : Bool := within a 1 2 && within b 1 2
theorem aims_iff {a b : Int} : aimsI [a, b] = true ↔ (a = 1 ∨ a = 2) ∧ (b = 1 ∨ b = 2) := by
  simp only [aimsI, List.any_cons, List.any_nil, Bool.or_false, Bool.not_eq_true', Bool.or_eq_false_iff, Bool.not_eq_false', aimOk, Bool.or_eq_true, decide_eq_true_eq]
theorem aims2_iff {a b : Int} : aims2 a b = true ↔ (a = 1 ∨ a = 2) ∧ (b = 1 ∨ b = 2) := by
  simp only [aims2, Bool.and_eq_true, within_iff]; omega
theorem aims_eq {a b : Int} : aims2 a b = aimsI [a, b] := by rw [Bool.eq_iff_iff, aims2_iff, aims_iff]
end Go.Proofs.Ytfgmlaeikcfpbaa
