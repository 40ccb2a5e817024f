/- A part of the proof: several texts, one behind the other. -/
import Derived.Test.YtideokfbnegkjaaLForceLeastB
set_option linter.unusedVariables false
set_option linter.unusedSimpArgs false
set_option maxRecDepth 100000
namespace Go.Proofs.Ytideokfbnegkjaa
open Go Ax
open Go.Proofs

theorem f56b : Try.f56.body = some (bodyAt Try.prog 56) := by kernel_rfl
def f56K0 (P : Program) : List Item := kAt 400 [.code (bodyAt P 56)] [.b false, .stop]
def f56S0 (r : Rg) (i : Nat) (ph : Nat)  : St := ⟨[.junk, .ptr 0 0 0, .junk, .junk, .ptr 1 0 0, .junk, .junk, .junk, .junk, .junk, .junk, .junk, .junk, .junk, .junk, .junk, .junk, .junk, .junk, .junk, .junk, .junk, .junk, .junk, .rsl (rowS r.seats) 0 r.seats.length, .int .i64 ((r.seats.length : Nat) : Int), .int .i64 ((i : Nat) : Int), .junk, .junk, .junk, .junk, .junk, .junk, .junk, .junk, .junk, .junk, .junk, .junk, .junk, .junk, .junk, .junk, .junk, .junk, .junk, .junk, .junk, .junk, .junk, .junk, .junk, .junk, .junk, .junk, .junk, .junk, .junk, .junk, .junk, .junk, .junk, .junk, .junk, .junk, .junk, .junk, .junk, .junk, .junk, .junk, .junk, .junk, .junk, .junk, .junk, .junk, .junk, .junk, .junk, .junk, .junk, .junk, .junk, .junk, .junk, .junk, .junk, .junk, .junk, .junk, .junk, .junk, .junk, .junk, .junk, .junk, .junk, .junk, .junk, .junk, .junk, .junk, .junk, .junk, .junk, .junk, .junk, .junk], [⟨true, 0, 1, true, [.rsl (rowS r.seats) 0 r.seats.length, .rsl (rowP r.feet) 0 r.feet.length, .int .i64 r.frame, .int .i64 r.c.x, .int .i64 r.c.y, .int .i64 r.c.z, .int .i64 r.empty, .int .i64 r.full], false⟩, ⟨true, 0, 1, true, [.rsl (rowS r.seats) 0 r.seats.length, .rsl (rowP r.feet) 0 r.feet.length, .int .i64 r.frame, .int .i64 r.c.x, .int .i64 r.c.y, .int .i64 r.c.z, .int .i64 r.empty, .int .i64 r.full, .nilSl, .int .i64 ((ph : Nat) : Int)], false⟩]⟩
def f56G0 (E : Env) (r : Rg) (i : Nat) (ph : Nat) : Prop := G Try.prog E (f56K0 Try.prog) (f56S0 r i ph )
def f56K1 (P : Program) : List Item := kAt 400 [.code (bodyAt P 56)] [.b false, .b false, .b false, .b false, .stop]
def f56S1 (r : Rg) (ph : Nat) (k : Nat) (ls : List (Pt × Pt)) (g2 : Nat) : St := ⟨[.junk, .ptr 0 0 0, .junk, .junk, .ptr 1 0 0, .junk, .junk, .junk, .junk, .junk, .junk, .junk, .junk, .junk, .junk, .junk, .junk, .junk, .junk, .junk, .junk, .junk, .junk, .junk, .junk, .junk, .junk, .junk, .junk, .junk, .junk, .junk, .junk, .junk, .junk, .junk, .junk, .junk, .junk, .junk, .junk, .junk, .junk, .junk, .junk, .junk, .junk, .junk, .junk, .junk, .junk, .junk, .junk, .junk, .junk, .junk, .junk, .junk, .junk, .junk, .junk, .junk, .junk, .junk, .junk, .junk, .junk, .junk, .junk, .junk, .junk, .junk, .junk, .junk, .junk, .junk, .junk, .rsl (rowP r.feet) 0 r.feet.length, .int .i64 ((r.feet.length : Nat) : Int), .int .i64 ((k : Nat) : Int), .junk, .junk, .junk, .junk, .junk, .junk, .junk, .junk, .junk, .junk, .junk, .junk, .junk, .junk, .junk, .junk, .junk, .junk, .junk, .junk, .junk, .junk, .junk, .junk, .junk, .junk, .junk, .junk, .junk], [⟨true, 0, 1, true, [.rsl (rowS r.seats) 0 r.seats.length, .rsl (rowP r.feet) 0 r.feet.length, .int .i64 r.frame, .int .i64 r.c.x, .int .i64 r.c.y, .int .i64 r.c.z, .int .i64 r.empty, .int .i64 r.full], false⟩, ⟨true, 0, 1, false, [.rsl (rowS r.seats) 0 r.seats.length, .rsl (rowP r.feet) 0 r.feet.length, .int .i64 r.frame, .int .i64 r.c.x, .int .i64 r.c.y, .int .i64 r.c.z, .int .i64 r.empty, .int .i64 r.full, .sl 2 g2 0 ls.length 6, .int .i64 ((ph : Nat) : Int)], false⟩, ⟨true, g2, 6, true, (rowLn ls), true⟩]⟩
def f56G1 (E : Env) (r : Rg) (ph : Nat) (k : Nat) (ls : List (Pt × Pt)) : Prop := ∀ g2 : Nat, G Try.prog E (f56K1 Try.prog) (f56S1 r ph k ls g2)
theorem p56_start_0 (r : Rg)   {E : Env} {res : AV} (hE : PureE Try.prog 56 res E) (o0 : (decide (((r.seats.length : Nat) : Int) > 20)) = true)
    (hr : AvLe (.tup [.nilPtr, .bool false]) res) : G Try.prog E [.code (bodyAt Try.prog 56)] ⟨[.agg [.rsl (rowS r.seats) 0 r.seats.length, .rsl (rowP r.feet) 0 r.feet.length, .int .i64 r.frame, .int .i64 r.c.x, .int .i64 r.c.y, .int .i64 r.c.z, .int .i64 r.empty, .int .i64 r.full]] ++ unds (Try.f56.ntmps - 1), []⟩ :=
  end_stepL (n := 400) (evs := [.b true, .b true]) (obs := [(decide (((r.seats.length : Nat) : Int) > 20)) = true, true = true]) hE Try.func56 mixed (by kernel_rfl) ⟨o0, (rfl), trivial⟩ hr
theorem p56_start_1 (r : Rg)   {E : Env} {res : AV} (hE : PureE Try.prog 56 res E) (o0 : (decide (((r.seats.length : Nat) : Int) > 20)) = false) (o1 : PureF Try.prog (.clos 51 [] []) [.int .i64 ((r.feet.length : Nat) : Int), .int .i64 3, .int .i64 8] (.bool (within ((r.feet.length : Nat) : Int) 3 8))) (o2 : (!(within ((r.feet.length : Nat) : Int) 3 8)) = true)
    (hr : AvLe (.tup [.nilPtr, .bool false]) res) : G Try.prog E [.code (bodyAt Try.prog 56)] ⟨[.agg [.rsl (rowS r.seats) 0 r.seats.length, .rsl (rowP r.feet) 0 r.feet.length, .int .i64 r.frame, .int .i64 r.c.x, .int .i64 r.c.y, .int .i64 r.c.z, .int .i64 r.empty, .int .i64 r.full]] ++ unds (Try.f56.ntmps - 1), []⟩ :=
  end_stepL (n := 400) (evs := [.b false, .v (.bool (within ((r.feet.length : Nat) : Int) 3 8)), .b true]) (obs := [(decide (((r.seats.length : Nat) : Int) > 20)) = false, PureF Try.prog (.clos 51 [] []) [.int .i64 ((r.feet.length : Nat) : Int), .int .i64 3, .int .i64 8] (.bool (within ((r.feet.length : Nat) : Int) 3 8)), (!(within ((r.feet.length : Nat) : Int) 3 8)) = true]) hE Try.func56 mixed (by kernel_rfl) ⟨o0, o1, o2, trivial⟩ hr
theorem p56_start_2 (r : Rg)   {E : Env} {rv : AV} (hE : PureE Try.prog 56 rv E) (o0 : (decide (((r.seats.length : Nat) : Int) > 20)) = false) (o1 : PureF Try.prog (.clos 51 [] []) [.int .i64 ((r.feet.length : Nat) : Int), .int .i64 3, .int .i64 8] (.bool (within ((r.feet.length : Nat) : Int) 3 8))) (o2 : (!(within ((r.feet.length : Nat) : Int) 3 8)) = false)
    (hg : G Try.prog E (f56K0 Try.prog) ⟨[.junk, .ptr 0 0 0, .junk, .junk, .ptr 1 0 0, .junk, .junk, .junk, .junk, .junk, .junk, .junk, .junk, .junk, .junk, .junk, .junk, .junk, .junk, .junk, .junk, .junk, .junk, .junk, .rsl (rowS r.seats) 0 r.seats.length, .int .i64 ((r.seats.length : Nat) : Int), .int .i64 0, .junk, .junk, .junk, .junk, .junk, .junk, .junk, .junk, .junk, .junk, .junk, .junk, .junk, .junk, .junk, .junk, .junk, .junk, .junk, .junk, .junk, .junk, .junk, .junk, .junk, .junk, .junk, .junk, .junk, .junk, .junk, .junk, .junk, .junk, .junk, .junk, .junk, .junk, .junk, .junk, .junk, .junk, .junk, .junk, .junk, .junk, .junk, .junk, .junk, .junk, .junk, .junk, .junk, .junk, .junk, .junk, .junk, .junk, .junk, .junk, .junk, .junk, .junk, .junk, .junk, .junk, .junk, .junk, .junk, .junk, .junk, .junk, .junk, .junk, .junk, .junk, .junk, .junk, .junk, .junk, .junk, .junk], [⟨true, 0, 1, true, [.rsl (rowS r.seats) 0 r.seats.length, .rsl (rowP r.feet) 0 r.feet.length, .int .i64 r.frame, .int .i64 r.c.x, .int .i64 r.c.y, .int .i64 r.c.z, .int .i64 r.empty, .int .i64 r.full], false⟩, ⟨true, 0, 1, true, [.rsl (rowS r.seats) 0 r.seats.length, .rsl (rowP r.feet) 0 r.feet.length, .int .i64 r.frame, .int .i64 r.c.x, .int .i64 r.c.y, .int .i64 r.c.z, .int .i64 r.empty, .int .i64 r.full, .nilSl, .int .i64 1], false⟩]⟩) : G Try.prog E [.code (bodyAt Try.prog 56)] ⟨[.agg [.rsl (rowS r.seats) 0 r.seats.length, .rsl (rowP r.feet) 0 r.feet.length, .int .i64 r.frame, .int .i64 r.c.x, .int .i64 r.c.y, .int .i64 r.c.z, .int .i64 r.empty, .int .i64 r.full]] ++ unds (Try.f56.ntmps - 1), []⟩ :=
  segC_step (n := 400) (ds := []) (cs := []) (live := [1, 4, 24, 25, 26]) (m := 2) (evs := [.b false, .v (.bool (within ((r.feet.length : Nat) : Int) 3 8)), .b false, .stop]) (obs := [(decide (((r.seats.length : Nat) : Int) > 20)) = false, PureF Try.prog (.clos 51 [] []) [.int .i64 ((r.feet.length : Nat) : Int), .int .i64 3, .int .i64 8] (.bool (within ((r.feet.length : Nat) : Int) 3 8)), (!(within ((r.feet.length : Nat) : Int) 3 8)) = false]) hE.2.1 (hE.nogh _) mixed (by kernel_rfl) ⟨o0, o1, o2, trivial⟩ hg
theorem f56W (r : Rg) {E : Env} {rv : AV} (hE : PureE Try.prog 56 rv E)
    (h : ((((r.seats.length : Nat) : Int) > 20 → rv = (.tup [.nilPtr, .bool false])) ∧ (¬ (((r.seats.length : Nat) : Int) > 20) → (((within ((r.feet.length : Nat) : Int) 3 8) = false → rv = (.tup [.nilPtr, .bool false])) ∧ ((within ((r.feet.length : Nat) : Int) 3 8) = true → f56G0 E r 0 1))))) : G Try.prog E [.code (bodyAt Try.prog 56)] ⟨[.agg [.rsl (rowS r.seats) 0 r.seats.length, .rsl (rowP r.feet) 0 r.feet.length, .int .i64 r.frame, .int .i64 r.c.x, .int .i64 r.c.y, .int .i64 r.c.z, .int .i64 r.empty, .int .i64 r.full]] ++ unds (Try.f56.ntmps - 1), []⟩ := by
  rcases Bool.eq_false_or_eq_true (decide (((r.seats.length : Nat) : Int) > 20)) with hc0 | hc0
  · have h := h.1 (of_decide_eq_true hc0)
    exact p56_start_0 r    hE hc0 (AvLe.of_eq (by rw [h]; try rfl))
  · have h := h.2 (of_decide_eq_false hc0)
    rcases Bool.eq_false_or_eq_true (!(within ((r.feet.length : Nat) : Int) 3 8)) with hc1 | hc1
    · have h := h.1 (bnT hc1)
      exact p56_start_1 r    hE hc0 (pureF_of Try.func51 (by kernel_rfl) f51b (within_ok ((r.feet.length : Nat) : Int) 3 8)) hc1 (AvLe.of_eq (by rw [h]; try rfl))
    · have h := h.2 (bnF hc1)
      exact p56_start_2 r    hE hc0 (pureF_of Try.func51 (by kernel_rfl) f51b (within_ok ((r.feet.length : Nat) : Int) 3 8)) hc1 h
theorem p56_0_0 (r : Rg) (i : Nat) (ph : Nat)  (le : (List Pt))  {E : Env} {res : AV} (hE : PureE Try.prog 56 res E) (o0 : (decide (((i : Nat) : Int) < ((r.seats.length : Nat) : Int))) = true) (o2 : 0 ≤ ((i : Nat) : Int) ∧ ((i : Nat) : Int) < ((r.seats.length : Nat) : Int)) (o3 : ((rowS r.seats).drop (0 + (Int.toNat ((i : Nat) : Int)) * 1)).take 1 = [.rsl (rowP le) 0 le.length]) (o4 : PureF Try.prog (.clos 50 [] []) [.rsl (rowP le) 0 le.length] (.bool (validP le))) (o5 : (!(validP le)) = true)
    (hr : AvLe (.tup [.nilPtr, .bool false]) res) : G Try.prog E (f56K0 Try.prog) (f56S0 r i ph ) :=
  end_stepL (n := 400) (evs := [.b true, .ld (.rsl (rowP le) 0 le.length), .v (.bool (validP le)), .b true, .b true]) (obs := [(decide (((i : Nat) : Int) < ((r.seats.length : Nat) : Int))) = true, 0 ≤ ((i : Nat) : Int) ∧ ((i : Nat) : Int) < ((r.seats.length : Nat) : Int), ((rowS r.seats).drop (0 + (Int.toNat ((i : Nat) : Int)) * 1)).take 1 = [.rsl (rowP le) 0 le.length], PureF Try.prog (.clos 50 [] []) [.rsl (rowP le) 0 le.length] (.bool (validP le)), (!(validP le)) = true, true = true]) hE Try.func56 mixed (by kernel_rfl) ⟨o0, o2, o3, o4, o5, (rfl), trivial⟩ hr
theorem p56_0_1 (r : Rg) (i : Nat) (ph : Nat)  (le : (List Pt)) (le1 : (List Pt))  {E : Env} {res : AV} (hE : PureE Try.prog 56 res E) (o0 : (decide (((i : Nat) : Int) < ((r.seats.length : Nat) : Int))) = true) (o2 : 0 ≤ ((i : Nat) : Int) ∧ ((i : Nat) : Int) < ((r.seats.length : Nat) : Int)) (o3 : ((rowS r.seats).drop (0 + (Int.toNat ((i : Nat) : Int)) * 1)).take 1 = [.rsl (rowP le) 0 le.length]) (o4 : PureF Try.prog (.clos 50 [] []) [.rsl (rowP le) 0 le.length] (.bool (validP le))) (o5 : (!(validP le)) = false) (o7 : (0 : Int) ≤ 0 ∧ (0 : Int) < ((r.seats.length : Nat) : Int)) (o8 : ((rowS r.seats).drop (0 + 0 * 1)).take 1 = [.rsl (rowP le1) 0 le1.length]) (o9 : (((le.length : Nat) : Int) != ((le1.length : Nat) : Int)) = true)
    (hr : AvLe (.tup [.nilPtr, .bool false]) res) : G Try.prog E (f56K0 Try.prog) (f56S0 r i ph ) :=
  end_stepL (n := 400) (evs := [.b true, .ld (.rsl (rowP le) 0 le.length), .v (.bool (validP le)), .b false, .auto, .ld (.rsl (rowP le1) 0 le1.length), .b true]) (obs := [(decide (((i : Nat) : Int) < ((r.seats.length : Nat) : Int))) = true, 0 ≤ ((i : Nat) : Int) ∧ ((i : Nat) : Int) < ((r.seats.length : Nat) : Int), ((rowS r.seats).drop (0 + (Int.toNat ((i : Nat) : Int)) * 1)).take 1 = [.rsl (rowP le) 0 le.length], PureF Try.prog (.clos 50 [] []) [.rsl (rowP le) 0 le.length] (.bool (validP le)), (!(validP le)) = false, (0 : Int) ≤ 0 ∧ (0 : Int) < ((r.seats.length : Nat) : Int), ((rowS r.seats).drop (0 + 0 * 1)).take 1 = [.rsl (rowP le1) 0 le1.length], (((le.length : Nat) : Int) != ((le1.length : Nat) : Int)) = true]) hE Try.func56 mixed (by kernel_rfl) ⟨o0, o2, o3, o4, o5, o7, o8, o9, trivial⟩ hr
theorem p56_0_2 (r : Rg) (i : Nat) (ph : Nat)  (le : (List Pt)) (le1 : (List Pt))  {E : Env} {rv : AV} (hE : PureE Try.prog 56 rv E) (o0 : (decide (((i : Nat) : Int) < ((r.seats.length : Nat) : Int))) = true) (o2 : 0 ≤ ((i : Nat) : Int) ∧ ((i : Nat) : Int) < ((r.seats.length : Nat) : Int)) (o3 : ((rowS r.seats).drop (0 + (Int.toNat ((i : Nat) : Int)) * 1)).take 1 = [.rsl (rowP le) 0 le.length]) (o4 : PureF Try.prog (.clos 50 [] []) [.rsl (rowP le) 0 le.length] (.bool (validP le))) (o5 : (!(validP le)) = false) (o7 : (0 : Int) ≤ 0 ∧ (0 : Int) < ((r.seats.length : Nat) : Int)) (o8 : ((rowS r.seats).drop (0 + 0 * 1)).take 1 = [.rsl (rowP le1) 0 le1.length]) (o9 : (((le.length : Nat) : Int) != ((le1.length : Nat) : Int)) = false) (o11 : InR .i64 (((i : Nat) : Int) + 1))
    (hg : G Try.prog E (f56K0 Try.prog) ⟨[.junk, .ptr 0 0 0, .junk, .junk, .ptr 1 0 0, .junk, .junk, .junk, .junk, .junk, .junk, .junk, .junk, .junk, .junk, .junk, .junk, .junk, .junk, .junk, .junk, .junk, .junk, .junk, .rsl (rowS r.seats) 0 r.seats.length, .int .i64 ((r.seats.length : Nat) : Int), .int .i64 (((i : Nat) : Int) + 1), .junk, .junk, .junk, .junk, .junk, .junk, .junk, .junk, .junk, .junk, .junk, .junk, .junk, .junk, .junk, .junk, .junk, .junk, .junk, .junk, .junk, .junk, .junk, .junk, .junk, .junk, .junk, .junk, .junk, .junk, .junk, .junk, .junk, .junk, .junk, .junk, .junk, .junk, .junk, .junk, .junk, .junk, .junk, .junk, .junk, .junk, .junk, .junk, .junk, .junk, .junk, .junk, .junk, .junk, .junk, .junk, .junk, .junk, .junk, .junk, .junk, .junk, .junk, .junk, .junk, .junk, .junk, .junk, .junk, .junk, .junk, .junk, .junk, .junk, .junk, .junk, .junk, .junk, .junk, .junk, .junk, .junk], [⟨true, 0, 1, true, [.rsl (rowS r.seats) 0 r.seats.length, .rsl (rowP r.feet) 0 r.feet.length, .int .i64 r.frame, .int .i64 r.c.x, .int .i64 r.c.y, .int .i64 r.c.z, .int .i64 r.empty, .int .i64 r.full], false⟩, ⟨true, 0, 1, true, [.rsl (rowS r.seats) 0 r.seats.length, .rsl (rowP r.feet) 0 r.feet.length, .int .i64 r.frame, .int .i64 r.c.x, .int .i64 r.c.y, .int .i64 r.c.z, .int .i64 r.empty, .int .i64 r.full, .nilSl, .int .i64 ((le.length : Nat) : Int)], false⟩]⟩) : G Try.prog E (f56K0 Try.prog) (f56S0 r i ph ) :=
  segC_step (n := 400) (ds := []) (cs := []) (live := [1, 4, 24, 25, 26]) (m := 2) (evs := [.b true, .ld (.rsl (rowP le) 0 le.length), .v (.bool (validP le)), .b false, .auto, .ld (.rsl (rowP le1) 0 le1.length), .b false, .stop]) (obs := [(decide (((i : Nat) : Int) < ((r.seats.length : Nat) : Int))) = true, 0 ≤ ((i : Nat) : Int) ∧ ((i : Nat) : Int) < ((r.seats.length : Nat) : Int), ((rowS r.seats).drop (0 + (Int.toNat ((i : Nat) : Int)) * 1)).take 1 = [.rsl (rowP le) 0 le.length], PureF Try.prog (.clos 50 [] []) [.rsl (rowP le) 0 le.length] (.bool (validP le)), (!(validP le)) = false, (0 : Int) ≤ 0 ∧ (0 : Int) < ((r.seats.length : Nat) : Int), ((rowS r.seats).drop (0 + 0 * 1)).take 1 = [.rsl (rowP le1) 0 le1.length], (((le.length : Nat) : Int) != ((le1.length : Nat) : Int)) = false, 10 ≤ 10, InR .i64 (((i : Nat) : Int) + 1)]) hE.2.1 (hE.nogh _) mixed (by kernel_rfl) ⟨o0, o2, o3, o4, o5, o7, o8, o9, (by decide), o11, trivial⟩ hg
theorem p56_0_3 (r : Rg) (i : Nat) (ph : Nat)   {E : Env} {res : AV} (hE : PureE Try.prog 56 res E) (o0 : (decide (((i : Nat) : Int) < ((r.seats.length : Nat) : Int))) = false) (o1 : PureF Try.prog (.clos 51 [] []) [.int .i64 r.frame, .int .i64 0, .int .i64 1000000] (.bool (within r.frame 0 1000000))) (o2 : (!(within r.frame 0 1000000)) = true)
    (hr : AvLe (.tup [.nilPtr, .bool false]) res) : G Try.prog E (f56K0 Try.prog) (f56S0 r i ph ) :=
  end_stepL (n := 400) (evs := [.b false, .v (.bool (within r.frame 0 1000000)), .b true, .b true, .b true, .b true]) (obs := [(decide (((i : Nat) : Int) < ((r.seats.length : Nat) : Int))) = false, PureF Try.prog (.clos 51 [] []) [.int .i64 r.frame, .int .i64 0, .int .i64 1000000] (.bool (within r.frame 0 1000000)), (!(within r.frame 0 1000000)) = true, true = true, true = true, true = true]) hE Try.func56 mixed (by kernel_rfl) ⟨o0, o1, o2, (rfl), (rfl), (rfl), trivial⟩ hr
theorem p56_0_4 (r : Rg) (i : Nat) (ph : Nat)   {E : Env} {res : AV} (hE : PureE Try.prog 56 res E) (o0 : (decide (((i : Nat) : Int) < ((r.seats.length : Nat) : Int))) = false) (o1 : PureF Try.prog (.clos 51 [] []) [.int .i64 r.frame, .int .i64 0, .int .i64 1000000] (.bool (within r.frame 0 1000000))) (o2 : (!(within r.frame 0 1000000)) = false) (o3 : PureF Try.prog (.clos 51 [] []) [.int .i64 r.full, .int .i64 0, .int .i64 1000000] (.bool (within r.full 0 1000000))) (o4 : (!(within r.full 0 1000000)) = true)
    (hr : AvLe (.tup [.nilPtr, .bool false]) res) : G Try.prog E (f56K0 Try.prog) (f56S0 r i ph ) :=
  end_stepL (n := 400) (evs := [.b false, .v (.bool (within r.frame 0 1000000)), .b false, .v (.bool (within r.full 0 1000000)), .b true, .b true, .b true]) (obs := [(decide (((i : Nat) : Int) < ((r.seats.length : Nat) : Int))) = false, PureF Try.prog (.clos 51 [] []) [.int .i64 r.frame, .int .i64 0, .int .i64 1000000] (.bool (within r.frame 0 1000000)), (!(within r.frame 0 1000000)) = false, PureF Try.prog (.clos 51 [] []) [.int .i64 r.full, .int .i64 0, .int .i64 1000000] (.bool (within r.full 0 1000000)), (!(within r.full 0 1000000)) = true, true = true, true = true]) hE Try.func56 mixed (by kernel_rfl) ⟨o0, o1, o2, o3, o4, (rfl), (rfl), trivial⟩ hr
theorem p56_0_5 (r : Rg) (i : Nat) (ph : Nat)   {E : Env} {res : AV} (hE : PureE Try.prog 56 res E) (o0 : (decide (((i : Nat) : Int) < ((r.seats.length : Nat) : Int))) = false) (o1 : PureF Try.prog (.clos 51 [] []) [.int .i64 r.frame, .int .i64 0, .int .i64 1000000] (.bool (within r.frame 0 1000000))) (o2 : (!(within r.frame 0 1000000)) = false) (o3 : PureF Try.prog (.clos 51 [] []) [.int .i64 r.full, .int .i64 0, .int .i64 1000000] (.bool (within r.full 0 1000000))) (o4 : (!(within r.full 0 1000000)) = false) (o5 : PureF Try.prog (.clos 51 [] []) [.int .i64 r.empty, .int .i64 0, .int .i64 r.full] (.bool (within r.empty 0 r.full))) (o6 : (!(within r.empty 0 r.full)) = true)
    (hr : AvLe (.tup [.nilPtr, .bool false]) res) : G Try.prog E (f56K0 Try.prog) (f56S0 r i ph ) :=
  end_stepL (n := 400) (evs := [.b false, .v (.bool (within r.frame 0 1000000)), .b false, .v (.bool (within r.full 0 1000000)), .b false, .v (.bool (within r.empty 0 r.full)), .b true, .b true]) (obs := [(decide (((i : Nat) : Int) < ((r.seats.length : Nat) : Int))) = false, PureF Try.prog (.clos 51 [] []) [.int .i64 r.frame, .int .i64 0, .int .i64 1000000] (.bool (within r.frame 0 1000000)), (!(within r.frame 0 1000000)) = false, PureF Try.prog (.clos 51 [] []) [.int .i64 r.full, .int .i64 0, .int .i64 1000000] (.bool (within r.full 0 1000000)), (!(within r.full 0 1000000)) = false, PureF Try.prog (.clos 51 [] []) [.int .i64 r.empty, .int .i64 0, .int .i64 r.full] (.bool (within r.empty 0 r.full)), (!(within r.empty 0 r.full)) = true, true = true]) hE Try.func56 mixed (by kernel_rfl) ⟨o0, o1, o2, o3, o4, o5, o6, (rfl), trivial⟩ hr
theorem p56_0_6 (r : Rg) (i : Nat) (ph : Nat)   {E : Env} {res : AV} (hE : PureE Try.prog 56 res E) (o0 : (decide (((i : Nat) : Int) < ((r.seats.length : Nat) : Int))) = false) (o1 : PureF Try.prog (.clos 51 [] []) [.int .i64 r.frame, .int .i64 0, .int .i64 1000000] (.bool (within r.frame 0 1000000))) (o2 : (!(within r.frame 0 1000000)) = false) (o3 : PureF Try.prog (.clos 51 [] []) [.int .i64 r.full, .int .i64 0, .int .i64 1000000] (.bool (within r.full 0 1000000))) (o4 : (!(within r.full 0 1000000)) = false) (o5 : PureF Try.prog (.clos 51 [] []) [.int .i64 r.empty, .int .i64 0, .int .i64 r.full] (.bool (within r.empty 0 r.full))) (o6 : (!(within r.empty 0 r.full)) = false) (o7 : PureF Try.prog (.clos 82 [] []) [.agg [.int .i64 r.c.x, .int .i64 r.c.y, .int .i64 r.c.z]] (.bool (spanned r.c))) (o8 : (!(spanned r.c)) = true)
    (hr : AvLe (.tup [.nilPtr, .bool false]) res) : G Try.prog E (f56K0 Try.prog) (f56S0 r i ph ) :=
  end_stepL (n := 400) (evs := [.b false, .v (.bool (within r.frame 0 1000000)), .b false, .v (.bool (within r.full 0 1000000)), .b false, .v (.bool (within r.empty 0 r.full)), .b false, .v (.bool (spanned r.c)), .b true]) (obs := [(decide (((i : Nat) : Int) < ((r.seats.length : Nat) : Int))) = false, PureF Try.prog (.clos 51 [] []) [.int .i64 r.frame, .int .i64 0, .int .i64 1000000] (.bool (within r.frame 0 1000000)), (!(within r.frame 0 1000000)) = false, PureF Try.prog (.clos 51 [] []) [.int .i64 r.full, .int .i64 0, .int .i64 1000000] (.bool (within r.full 0 1000000)), (!(within r.full 0 1000000)) = false, PureF Try.prog (.clos 51 [] []) [.int .i64 r.empty, .int .i64 0, .int .i64 r.full] (.bool (within r.empty 0 r.full)), (!(within r.empty 0 r.full)) = false, PureF Try.prog (.clos 82 [] []) [.agg [.int .i64 r.c.x, .int .i64 r.c.y, .int .i64 r.c.z]] (.bool (spanned r.c)), (!(spanned r.c)) = true]) hE Try.func56 mixed (by kernel_rfl) ⟨o0, o1, o2, o3, o4, o5, o6, o7, o8, trivial⟩ hr
theorem p56_0_7 (r : Rg) (i : Nat) (ph : Nat)   {E : Env} {res : AV} (hE : PureE Try.prog 56 res E) (o0 : (decide (((i : Nat) : Int) < ((r.seats.length : Nat) : Int))) = false) (o1 : PureF Try.prog (.clos 51 [] []) [.int .i64 r.frame, .int .i64 0, .int .i64 1000000] (.bool (within r.frame 0 1000000))) (o2 : (!(within r.frame 0 1000000)) = false) (o3 : PureF Try.prog (.clos 51 [] []) [.int .i64 r.full, .int .i64 0, .int .i64 1000000] (.bool (within r.full 0 1000000))) (o4 : (!(within r.full 0 1000000)) = false) (o5 : PureF Try.prog (.clos 51 [] []) [.int .i64 r.empty, .int .i64 0, .int .i64 r.full] (.bool (within r.empty 0 r.full))) (o6 : (!(within r.empty 0 r.full)) = false) (o7 : PureF Try.prog (.clos 82 [] []) [.agg [.int .i64 r.c.x, .int .i64 r.c.y, .int .i64 r.c.z]] (.bool (spanned r.c))) (o8 : (!(spanned r.c)) = false) (o9 : PureF Try.prog (.clos 84 [] []) [.rsl (rowP r.feet) 0 r.feet.length, .clos 85 [] []] (.bool (r.feet.any footBad))) (o10 : (r.feet.any footBad) = true)
    (hr : AvLe (.tup [.nilPtr, .bool false]) res) : G Try.prog E (f56K0 Try.prog) (f56S0 r i ph ) :=
  end_stepL (n := 400) (evs := [.b false, .v (.bool (within r.frame 0 1000000)), .b false, .v (.bool (within r.full 0 1000000)), .b false, .v (.bool (within r.empty 0 r.full)), .b false, .v (.bool (spanned r.c)), .b false, .v (.bool (r.feet.any footBad)), .b true]) (obs := [(decide (((i : Nat) : Int) < ((r.seats.length : Nat) : Int))) = false, PureF Try.prog (.clos 51 [] []) [.int .i64 r.frame, .int .i64 0, .int .i64 1000000] (.bool (within r.frame 0 1000000)), (!(within r.frame 0 1000000)) = false, PureF Try.prog (.clos 51 [] []) [.int .i64 r.full, .int .i64 0, .int .i64 1000000] (.bool (within r.full 0 1000000)), (!(within r.full 0 1000000)) = false, PureF Try.prog (.clos 51 [] []) [.int .i64 r.empty, .int .i64 0, .int .i64 r.full] (.bool (within r.empty 0 r.full)), (!(within r.empty 0 r.full)) = false, PureF Try.prog (.clos 82 [] []) [.agg [.int .i64 r.c.x, .int .i64 r.c.y, .int .i64 r.c.z]] (.bool (spanned r.c)), (!(spanned r.c)) = false, PureF Try.prog (.clos 84 [] []) [.rsl (rowP r.feet) 0 r.feet.length, .clos 85 [] []] (.bool (r.feet.any footBad)), (r.feet.any footBad) = true]) hE Try.func56 mixed (by kernel_rfl) ⟨o0, o1, o2, o3, o4, o5, o6, o7, o8, o9, o10, trivial⟩ hr
theorem p56_0_8 (r : Rg) (i : Nat) (ph : Nat)   {E : Env} {rv : AV} (hE : PureE Try.prog 56 rv E) (o0 : (decide (((i : Nat) : Int) < ((r.seats.length : Nat) : Int))) = false) (o1 : PureF Try.prog (.clos 51 [] []) [.int .i64 r.frame, .int .i64 0, .int .i64 1000000] (.bool (within r.frame 0 1000000))) (o2 : (!(within r.frame 0 1000000)) = false) (o3 : PureF Try.prog (.clos 51 [] []) [.int .i64 r.full, .int .i64 0, .int .i64 1000000] (.bool (within r.full 0 1000000))) (o4 : (!(within r.full 0 1000000)) = false) (o5 : PureF Try.prog (.clos 51 [] []) [.int .i64 r.empty, .int .i64 0, .int .i64 r.full] (.bool (within r.empty 0 r.full))) (o6 : (!(within r.empty 0 r.full)) = false) (o7 : PureF Try.prog (.clos 82 [] []) [.agg [.int .i64 r.c.x, .int .i64 r.c.y, .int .i64 r.c.z]] (.bool (spanned r.c))) (o8 : (!(spanned r.c)) = false) (o9 : PureF Try.prog (.clos 84 [] []) [.rsl (rowP r.feet) 0 r.feet.length, .clos 85 [] []] (.bool (r.feet.any footBad))) (o10 : (r.feet.any footBad) = false)
    (hg : G Try.prog E (f56K1 Try.prog) ⟨[.junk, .ptr 0 0 0, .junk, .junk, .ptr 1 0 0, .junk, .junk, .junk, .junk, .junk, .junk, .junk, .junk, .junk, .junk, .junk, .junk, .junk, .junk, .junk, .junk, .junk, .junk, .junk, .junk, .junk, .junk, .junk, .junk, .junk, .junk, .junk, .junk, .junk, .junk, .junk, .junk, .junk, .junk, .junk, .junk, .junk, .junk, .junk, .junk, .junk, .junk, .junk, .junk, .junk, .junk, .junk, .junk, .junk, .junk, .junk, .junk, .junk, .junk, .junk, .junk, .junk, .junk, .junk, .junk, .junk, .junk, .junk, .junk, .junk, .junk, .junk, .junk, .junk, .junk, .junk, .junk, .rsl (rowP r.feet) 0 r.feet.length, .int .i64 ((r.feet.length : Nat) : Int), .int .i64 0, .junk, .junk, .junk, .junk, .junk, .junk, .junk, .junk, .junk, .junk, .junk, .junk, .junk, .junk, .junk, .junk, .junk, .junk, .junk, .junk, .junk, .junk, .junk, .junk, .junk, .junk, .junk, .junk, .junk], [⟨true, 0, 1, true, [.rsl (rowS r.seats) 0 r.seats.length, .rsl (rowP r.feet) 0 r.feet.length, .int .i64 r.frame, .int .i64 r.c.x, .int .i64 r.c.y, .int .i64 r.c.z, .int .i64 r.empty, .int .i64 r.full], false⟩, ⟨true, 0, 1, false, [.rsl (rowS r.seats) 0 r.seats.length, .rsl (rowP r.feet) 0 r.feet.length, .int .i64 r.frame, .int .i64 r.c.x, .int .i64 r.c.y, .int .i64 r.c.z, .int .i64 r.empty, .int .i64 r.full, .sl 2 0 0 0 6, .int .i64 ((ph : Nat) : Int)], false⟩, ⟨true, 0, 6, true, [], true⟩]⟩) : G Try.prog E (f56K0 Try.prog) (f56S0 r i ph ) :=
  segC_step (n := 400) (ds := []) (cs := [(1, 8, 6)]) (live := [1, 4, 77, 78, 79]) (m := 3) (evs := [.b false, .v (.bool (within r.frame 0 1000000)), .b false, .v (.bool (within r.full 0 1000000)), .b false, .v (.bool (within r.empty 0 r.full)), .b false, .v (.bool (spanned r.c)), .b false, .v (.bool (r.feet.any footBad)), .b false, .stop]) (obs := [(decide (((i : Nat) : Int) < ((r.seats.length : Nat) : Int))) = false, PureF Try.prog (.clos 51 [] []) [.int .i64 r.frame, .int .i64 0, .int .i64 1000000] (.bool (within r.frame 0 1000000)), (!(within r.frame 0 1000000)) = false, PureF Try.prog (.clos 51 [] []) [.int .i64 r.full, .int .i64 0, .int .i64 1000000] (.bool (within r.full 0 1000000)), (!(within r.full 0 1000000)) = false, PureF Try.prog (.clos 51 [] []) [.int .i64 r.empty, .int .i64 0, .int .i64 r.full] (.bool (within r.empty 0 r.full)), (!(within r.empty 0 r.full)) = false, PureF Try.prog (.clos 82 [] []) [.agg [.int .i64 r.c.x, .int .i64 r.c.y, .int .i64 r.c.z]] (.bool (spanned r.c)), (!(spanned r.c)) = false, PureF Try.prog (.clos 84 [] []) [.rsl (rowP r.feet) 0 r.feet.length, .clos 85 [] []] (.bool (r.feet.any footBad)), (r.feet.any footBad) = false]) hE.2.1 (hE.nogh _) mixed (by kernel_rfl) ⟨o0, o1, o2, o3, o4, o5, o6, o7, o8, o9, o10, trivial⟩ hg
theorem f56W0 (r : Rg) (i : Nat) (ph : Nat) {E : Env} {rv : AV} (hE : PureE Try.prog 56 rv E)
    (h : ((((i : Nat) : Int) < ((r.seats.length : Nat) : Int) → (∃ le : (List Pt), r.seats[i]? = some le ∧ ((le.length ≤ 1000) ∧ (((validP le) = false → rv = (.tup [.nilPtr, .bool false])) ∧ ((validP le) = true → (∃ le1 : (List Pt), r.seats[0]? = some le1 ∧ ((¬ (((le.length : Nat) : Int) = ((le1.length : Nat) : Int)) → rv = (.tup [.nilPtr, .bool false])) ∧ (((le.length : Nat) : Int) = ((le1.length : Nat) : Int) → ((-9223372036854775808 ≤ ((i : Nat) : Int) + 1 ∧ ((i : Nat) : Int) + 1 ≤ 9223372036854775807) ∧ f56G0 E r (i + 1) le.length))))))))) ∧ (¬ (((i : Nat) : Int) < ((r.seats.length : Nat) : Int)) → (((within r.frame 0 1000000) = false → rv = (.tup [.nilPtr, .bool false])) ∧ ((within r.frame 0 1000000) = true → (((within r.full 0 1000000) = false → rv = (.tup [.nilPtr, .bool false])) ∧ ((within r.full 0 1000000) = true → (((within r.empty 0 r.full) = false → rv = (.tup [.nilPtr, .bool false])) ∧ ((within r.empty 0 r.full) = true → (((spanned r.c) = false → rv = (.tup [.nilPtr, .bool false])) ∧ ((spanned r.c) = true → ((r.feet.length ≤ 1000) ∧ (((r.feet.any footBad) = true → rv = (.tup [.nilPtr, .bool false])) ∧ ((r.feet.any footBad) = false → f56G1 E r ph 0 ([]))))))))))))))) : f56G0 E r i ph := by
  rcases Bool.eq_false_or_eq_true (decide (((i : Nat) : Int) < ((r.seats.length : Nat) : Int))) with hc0 | hc0
  · have h := h.1 (of_decide_eq_true hc0)
    obtain ⟨le, h1, h⟩ := h
    obtain ⟨h2, h⟩ := h
    rcases Bool.eq_false_or_eq_true (!(validP le)) with hc1 | hc1
    · have h := h.1 (bnT hc1)
      exact p56_0_0 r i ph  le hE hc0 (idx_ok h1) (row_part (fun s : List Pt => [AV.rsl (rowP s) 0 s.length]) (s := 1) (k := 0) (m := 1) (fun _ => rfl) (by decide) h1) (pureF_of Try.func50 (by kernel_rfl) f50b (valid_ok le h2)) hc1 (AvLe.of_eq (by rw [h]; try rfl))
    · have h := h.2 (bnF hc1)
      obtain ⟨le1, h3, h⟩ := h
      rcases Bool.eq_false_or_eq_true (((le.length : Nat) : Int) != ((le1.length : Nat) : Int)) with hc2 | hc2
      · have h := h.1 (bneT hc2)
        exact p56_0_1 r i ph  le le1 hE hc0 (idx_ok h1) (row_part (fun s : List Pt => [AV.rsl (rowP s) 0 s.length]) (s := 1) (k := 0) (m := 1) (fun _ => rfl) (by decide) h1) (pureF_of Try.func50 (by kernel_rfl) f50b (valid_ok le h2)) hc1 (idx_ok h3) (row_part (fun s : List Pt => [AV.rsl (rowP s) 0 s.length]) (s := 1) (k := 0) (m := 1) (fun _ => rfl) (by decide) h3) hc2 (AvLe.of_eq (by rw [h]; try rfl))
      · have h := h.2 (bneF hc2)
        obtain ⟨q11_3, h⟩ := h
        exact p56_0_2 r i ph  le le1 hE hc0 (idx_ok h1) (row_part (fun s : List Pt => [AV.rsl (rowP s) 0 s.length]) (s := 1) (k := 0) (m := 1) (fun _ => rfl) (by decide) h1) (pureF_of Try.func50 (by kernel_rfl) f50b (valid_ok le h2)) hc1 (idx_ok h3) (row_part (fun s : List Pt => [AV.rsl (rowP s) 0 s.length]) (s := 1) (k := 0) (m := 1) (fun _ => rfl) (by decide) h3) hc2 q11_3 h
  · have h := h.2 (of_decide_eq_false hc0)
    rcases Bool.eq_false_or_eq_true (!(within r.frame 0 1000000)) with hc1 | hc1
    · have h := h.1 (bnT hc1)
      exact p56_0_3 r i ph   hE hc0 (pureF_of Try.func51 (by kernel_rfl) f51b (within_ok r.frame 0 1000000)) hc1 (AvLe.of_eq (by rw [h]; try rfl))
    · have h := h.2 (bnF hc1)
      rcases Bool.eq_false_or_eq_true (!(within r.full 0 1000000)) with hc2 | hc2
      · have h := h.1 (bnT hc2)
        exact p56_0_4 r i ph   hE hc0 (pureF_of Try.func51 (by kernel_rfl) f51b (within_ok r.frame 0 1000000)) hc1 (pureF_of Try.func51 (by kernel_rfl) f51b (within_ok r.full 0 1000000)) hc2 (AvLe.of_eq (by rw [h]; try rfl))
      · have h := h.2 (bnF hc2)
        rcases Bool.eq_false_or_eq_true (!(within r.empty 0 r.full)) with hc3 | hc3
        · have h := h.1 (bnT hc3)
          exact p56_0_5 r i ph   hE hc0 (pureF_of Try.func51 (by kernel_rfl) f51b (within_ok r.frame 0 1000000)) hc1 (pureF_of Try.func51 (by kernel_rfl) f51b (within_ok r.full 0 1000000)) hc2 (pureF_of Try.func51 (by kernel_rfl) f51b (within_ok r.empty 0 r.full)) hc3 (AvLe.of_eq (by rw [h]; try rfl))
        · have h := h.2 (bnF hc3)
          rcases Bool.eq_false_or_eq_true (!(spanned r.c)) with hc4 | hc4
          · have h := h.1 (bnT hc4)
            exact p56_0_6 r i ph   hE hc0 (pureF_of Try.func51 (by kernel_rfl) f51b (within_ok r.frame 0 1000000)) hc1 (pureF_of Try.func51 (by kernel_rfl) f51b (within_ok r.full 0 1000000)) hc2 (pureF_of Try.func51 (by kernel_rfl) f51b (within_ok r.empty 0 r.full)) hc3 (pureF_of Try.func82 (by kernel_rfl) f82b (spanned_ok r.c)) hc4 (AvLe.of_eq (by rw [h]; try rfl))
          · have h := h.2 (bnF hc4)
            obtain ⟨h1, h⟩ := h
            rcases Bool.eq_false_or_eq_true (r.feet.any footBad) with hc5 | hc5
            · have h := h.1 hc5
              exact p56_0_7 r i ph   hE hc0 (pureF_of Try.func51 (by kernel_rfl) f51b (within_ok r.frame 0 1000000)) hc1 (pureF_of Try.func51 (by kernel_rfl) f51b (within_ok r.full 0 1000000)) hc2 (pureF_of Try.func51 (by kernel_rfl) f51b (within_ok r.empty 0 r.full)) hc3 (pureF_of Try.func82 (by kernel_rfl) f82b (spanned_ok r.c)) hc4 (pureF_of Try.func84 (by kernel_rfl) f84b (any84_ok r.feet h1)) hc5 (AvLe.of_eq (by rw [h]; try rfl))
            · have h := h.2 hc5
              exact p56_0_8 r i ph   hE hc0 (pureF_of Try.func51 (by kernel_rfl) f51b (within_ok r.frame 0 1000000)) hc1 (pureF_of Try.func51 (by kernel_rfl) f51b (within_ok r.full 0 1000000)) hc2 (pureF_of Try.func51 (by kernel_rfl) f51b (within_ok r.empty 0 r.full)) hc3 (pureF_of Try.func82 (by kernel_rfl) f82b (spanned_ok r.c)) hc4 (pureF_of Try.func84 (by kernel_rfl) f84b (any84_ok r.feet h1)) hc5 (h 0)
theorem p56_1_0 (r : Rg) (ph : Nat) (k : Nat) (ls : List (Pt × Pt)) (g2 : Nat) (pe : Pt) (pe1 : Pt)  {E : Env} {rv : AV} (hE : PureE Try.prog 56 rv E) (o0 : (decide (((k : Nat) : Int) < ((r.feet.length : Nat) : Int))) = true) (o2 : 0 ≤ ((k : Nat) : Int) ∧ ((k : Nat) : Int) < ((r.feet.length : Nat) : Int)) (o3 : ((rowP r.feet).drop (0 + (Int.toNat ((k : Nat) : Int)) * 3)).take 3 = [.int .i64 pe.x, .int .i64 pe.y, .int .i64 pe.z]) (o5 : InR .i64 (((k : Nat) : Int) + 1)) (o6 : ((r.feet.length : Nat) : Int) ≠ 0) (o8 : 0 ≤ (Int.tmod (((k : Nat) : Int) + 1) ((r.feet.length : Nat) : Int)) ∧ (Int.tmod (((k : Nat) : Int) + 1) ((r.feet.length : Nat) : Int)) < ((r.feet.length : Nat) : Int)) (o9 : ((rowP r.feet).drop (0 + (Int.toNat (Int.tmod (((k : Nat) : Int) + 1) ((r.feet.length : Nat) : Int))) * 3)).take 3 = [.int .i64 pe1.x, .int .i64 pe1.y, .int .i64 pe1.z]) (o11 : (0 + (ls.length * 6)) = (rowLn ls).length) (o12 : (ls.length + 1) ≤ 2147483648) (o15 : InR .i64 (((k : Nat) : Int) + 1))
    (hg : G Try.prog E (f56K1 Try.prog) ⟨[.junk, .ptr 0 0 0, .junk, .junk, .ptr 1 0 0, .junk, .junk, .junk, .junk, .junk, .junk, .junk, .junk, .junk, .junk, .junk, .junk, .junk, .junk, .junk, .junk, .junk, .junk, .junk, .junk, .junk, .junk, .junk, .junk, .junk, .junk, .junk, .junk, .junk, .junk, .junk, .junk, .junk, .junk, .junk, .junk, .junk, .junk, .junk, .junk, .junk, .junk, .junk, .junk, .junk, .junk, .junk, .junk, .junk, .junk, .junk, .junk, .junk, .junk, .junk, .junk, .junk, .junk, .junk, .junk, .junk, .junk, .junk, .junk, .junk, .junk, .junk, .junk, .junk, .junk, .junk, .junk, .rsl (rowP r.feet) 0 r.feet.length, .int .i64 ((r.feet.length : Nat) : Int), .int .i64 (((k : Nat) : Int) + 1), .junk, .junk, .junk, .junk, .junk, .junk, .junk, .junk, .junk, .junk, .junk, .junk, .junk, .junk, .junk, .junk, .junk, .junk, .junk, .junk, .junk, .junk, .junk, .junk, .junk, .junk, .junk, .junk, .junk], [⟨true, 0, 1, true, [.rsl (rowS r.seats) 0 r.seats.length, .rsl (rowP r.feet) 0 r.feet.length, .int .i64 r.frame, .int .i64 r.c.x, .int .i64 r.c.y, .int .i64 r.c.z, .int .i64 r.empty, .int .i64 r.full], false⟩, ⟨true, 0, 1, false, [.rsl (rowS r.seats) 0 r.seats.length, .rsl (rowP r.feet) 0 r.feet.length, .int .i64 r.frame, .int .i64 r.c.x, .int .i64 r.c.y, .int .i64 r.c.z, .int .i64 r.empty, .int .i64 r.full, .sl 2 (g2 + 1) 0 (ls.length + 1) 6, .int .i64 ((ph : Nat) : Int)], false⟩, ⟨true, (g2 + 1), 6, true, ((rowLn ls) ++ [.int .i64 pe.x, .int .i64 pe.y, .int .i64 pe.z, .int .i64 pe1.x, .int .i64 pe1.y, .int .i64 pe1.z]), true⟩]⟩) : G Try.prog E (f56K1 Try.prog) (f56S1 r ph k ls g2) :=
  segC_step (n := 400) (ds := []) (cs := []) (live := [1, 4, 77, 78, 79]) (m := 3) (evs := [.b true, .ld (.agg [.int .i64 pe.x, .int .i64 pe.y, .int .i64 pe.z]), .auto, .auto, .auto, .auto, .ld (.agg [.int .i64 pe1.x, .int .i64 pe1.y, .int .i64 pe1.z]), .stop]) (obs := [(decide (((k : Nat) : Int) < ((r.feet.length : Nat) : Int))) = true, 0 ≤ ((k : Nat) : Int) ∧ ((k : Nat) : Int) < ((r.feet.length : Nat) : Int), ((rowP r.feet).drop (0 + (Int.toNat ((k : Nat) : Int)) * 3)).take 3 = [.int .i64 pe.x, .int .i64 pe.y, .int .i64 pe.z], 3 ≤ 3, InR .i64 (((k : Nat) : Int) + 1), ((r.feet.length : Nat) : Int) ≠ 0, 0 ≤ (Int.tmod (((k : Nat) : Int) + 1) ((r.feet.length : Nat) : Int)) ∧ (Int.tmod (((k : Nat) : Int) + 1) ((r.feet.length : Nat) : Int)) < ((r.feet.length : Nat) : Int), ((rowP r.feet).drop (0 + (Int.toNat (Int.tmod (((k : Nat) : Int) + 1) ((r.feet.length : Nat) : Int))) * 3)).take 3 = [.int .i64 pe1.x, .int .i64 pe1.y, .int .i64 pe1.z], g2 = g2, (0 + (ls.length * 6)) = (rowLn ls).length, (ls.length + 1) ≤ 2147483648, 0 = 0, 9 ≤ 10, InR .i64 (((k : Nat) : Int) + 1)]) hE.2.1 (hE.nogh _) mixed (by kernel_rfl) ⟨o0, o2, o3, (by decide), o5, o6, o8, o9, (rfl), o11, o12, (rfl), (by decide), o15, trivial⟩ hg
theorem p56_1_1 (r : Rg) (ph : Nat) (k : Nat) (ls : List (Pt × Pt)) (g2 : Nat)  {E : Env} {res : AV} (hE : PureE Try.prog 56 res E) (o0 : (decide (((k : Nat) : Int) < ((r.feet.length : Nat) : Int))) = false) (o1 : PureF Try.prog (.clos 86 [] []) [.rptr [.rsl (rowS r.seats) 0 r.seats.length, .rsl (rowP r.feet) 0 r.feet.length, .int .i64 r.frame, .int .i64 r.c.x, .int .i64 r.c.y, .int .i64 r.c.z, .int .i64 r.empty, .int .i64 r.full, .rsl (rowLn ls) 0 ls.length, .int .i64 ((ph : Nat) : Int)] 0] (.bool (convexV r)))
    (hr : AvLe (.tup [.rptr [.rsl (rowS r.seats) 0 r.seats.length, .rsl (rowP r.feet) 0 r.feet.length, .int .i64 r.frame, .int .i64 r.c.x, .int .i64 r.c.y, .int .i64 r.c.z, .int .i64 r.empty, .int .i64 r.full, .rsl (rowLn ls) 0 ls.length, .int .i64 ((ph : Nat) : Int)] 0, .bool (convexV r)]) res) : G Try.prog E (f56K1 Try.prog) (f56S1 r ph k ls g2) :=
  end_stepL (n := 400) (evs := [.b false, .v (.bool (convexV r))]) (obs := [(decide (((k : Nat) : Int) < ((r.feet.length : Nat) : Int))) = false, PureF Try.prog (.clos 86 [] []) [.rptr [.rsl (rowS r.seats) 0 r.seats.length, .rsl (rowP r.feet) 0 r.feet.length, .int .i64 r.frame, .int .i64 r.c.x, .int .i64 r.c.y, .int .i64 r.c.z, .int .i64 r.empty, .int .i64 r.full, .rsl (rowLn ls) 0 ls.length, .int .i64 ((ph : Nat) : Int)] 0] (.bool (convexV r)), g2 = g2, g2 = g2]) hE Try.func56 mixed (by kernel_rfl) ⟨o0, o1, (rfl), (rfl), trivial⟩ hr
theorem f56W1 (r : Rg) (ph : Nat) (k : Nat) (ls : List (Pt × Pt)) {E : Env} {rv : AV} (hE : PureE Try.prog 56 rv E)
    (h : ((((k : Nat) : Int) < ((r.feet.length : Nat) : Int) → (∃ pe : Pt, r.feet[k]? = some pe ∧ ((-9223372036854775808 ≤ ((k : Nat) : Int) + 1 ∧ ((k : Nat) : Int) + 1 ≤ 9223372036854775807) ∧ (((r.feet.length : Nat) : Int) ≠ 0 ∧ (0 ≤ (Int.tmod (((k : Nat) : Int) + 1) ((r.feet.length : Nat) : Int)) ∧ (∃ pe1 : Pt, r.feet[Int.toNat (Int.tmod (((k : Nat) : Int) + 1) ((r.feet.length : Nat) : Int))]? = some pe1 ∧ ((ls.length + 1) ≤ 2147483648 ∧ ((-9223372036854775808 ≤ ((k : Nat) : Int) + 1 ∧ ((k : Nat) : Int) + 1 ≤ 9223372036854775807) ∧ f56G1 E r ph (k + 1) (ls ++ [(pe, pe1)]))))))))) ∧ (¬ (((k : Nat) : Int) < ((r.feet.length : Nat) : Int)) → ((FeetOk r ∧ ls = linesOf r.feet ∧ ((ph : Nat) : Int) = phasesOf r) ∧ rv = (.tup [.rptr [.rsl (rowS r.seats) 0 r.seats.length, .rsl (rowP r.feet) 0 r.feet.length, .int .i64 r.frame, .int .i64 r.c.x, .int .i64 r.c.y, .int .i64 r.c.z, .int .i64 r.empty, .int .i64 r.full, .rsl (rowLn ls) 0 ls.length, .int .i64 ((ph : Nat) : Int)] 0, .bool (convexV r)]))))) : f56G1 E r ph k ls := by
  intro g2
  rcases Bool.eq_false_or_eq_true (decide (((k : Nat) : Int) < ((r.feet.length : Nat) : Int))) with hc0 | hc0
  · have h := h.1 (of_decide_eq_true hc0)
    obtain ⟨pe, h1, h⟩ := h
    obtain ⟨q5_1, h⟩ := h
    obtain ⟨q6_1, h⟩ := h
    obtain ⟨h3, h⟩ := h
    obtain ⟨pe1, h2, h⟩ := h
    obtain ⟨h4, h⟩ := h
    obtain ⟨q15_1, h⟩ := h
    refine p56_1_0 r ph k ls g2 pe pe1 hE hc0 (idx_ok h1) (row_part cP (s := 3) (k := 0) (m := 3) (fun _ => rfl) (by decide) h1) q5_1 q6_1 (idx_ok' h3 h2) (row_part cP (s := 3) (k := 0) (m := 3) (fun _ => rfl) (by decide) h2) (by have hx := row_len (fun s : Pt × Pt => cP s.1 ++ cP s.2) (s := 6) (fun _ => rfl) ls; simp only [rowLn] at hx ⊢; rw [hx]; simp) h4 q15_1 ?_
    rw [(show rowLn ls ++ [.int .i64 pe.x, .int .i64 pe.y, .int .i64 pe.z, .int .i64 pe1.x, .int .i64 pe1.y, .int .i64 pe1.z] = rowLn (ls ++ [(pe, pe1)]) from (row_app (fun s : Pt × Pt => cP s.1 ++ cP s.2) ls [(pe, pe1)]).symm)]; rw [(show (ls.length + 1) = (ls ++ [(pe, pe1)]).length from by simp)]; exact (h (g2 + 1))
  · have h := h.2 (of_decide_eq_false hc0)
    obtain ⟨h1, h⟩ := h
    exact p56_1_1 r ph k ls g2  hE hc0 (by obtain ⟨a, b, c⟩ := h1; rw [b, c]; exact pureF_of Try.func86 (by kernel_rfl) f86b (convex_ok r a)) (AvLe.of_eq (by rw [h]; try rfl))

structure RigSmall (r : Rg) : Prop where
  seats : r.seats.length ≤ 1000
  feet : r.feet.length ≤ 1000
  each : ∀ s ∈ r.seats, s.length ≤ 1000

def seatOk (r : Rg) (s : List Pt) : Bool := validP s && ((s.length : Int) == ((r.seats.getD 0 []).length : Int))
def rigPre (r : Rg) : Bool := decide ((r.seats.length : Int) ≤ 20) && (within r.feet.length 3 8 && (r.seats.all (seatOk r) && (within r.frame 0 1000000 && (within r.full 0 1000000 && (within r.empty 0 r.full && (spanned r.c && !r.feet.any footBad))))))
def rigOk (r : Rg) : Bool := rigPre r && convexV r
def rigV (r : Rg) : AV := .rptr [.rsl (rowS r.seats) 0 r.seats.length, .rsl (rowP r.feet) 0 r.feet.length, .int .i64 r.frame, .int .i64 r.c.x, .int .i64 r.c.y, .int .i64 r.c.z, .int .i64 r.empty, .int .i64 r.full, .rsl (rowLn (linesOf r.feet)) 0 (linesOf r.feet).length, .int .i64 (phasesOf r)] 0
def newRigX (r : Rg) : AV := bif rigPre r then rigV r else .nilPtr

theorem newRig_bad {r : Rg} {rv : AV} (hr : rv = .tup [newRigX r, .bool (rigOk r)]) (h : rigPre r = false) : rv = .tup [.nilPtr, .bool false] := by
  rw [hr]; simp [newRigX, rigOk, h]

theorem feetOk_of {r : Rg} (h1 : within r.feet.length 3 8 = true) (h2 : r.feet.any footBad = false) : FeetOk r := by
  simp only [within, Bool.and_eq_true, decide_eq_true_eq] at h1
  refine ⟨by omega, by omega, fun p hp => ?_⟩
  have := (List.any_eq_false.1 h2) p hp
  simp only [footBad] at this
  cases hs : spanned p with
  | true => rfl
  | false => simp [hs] at this

theorem linesOf_take {l : List Pt} {k : Nat} {a b : Pt} (ha : l[k]? = some a) (hb : l[(k + 1) % l.length]? = some b) : (linesOf l).take (k + 1) = (linesOf l).take k ++ [(a, b)] := by
  have hk := get_lt ha
  have : (linesOf l)[k]? = some (a, b) := by
    unfold linesOf
    rw [List.getElem?_map]
    have e : (List.range' 0 l.length)[k]? = some k := by simp [hk]
    rw [e]
    simp [List.getD, ha, hb]
  rw [List.take_add_one, this]; rfl

theorem newRig_k {E : Env} {rv : AV} (hE : PureE Try.prog 56 rv E) {r : Rg} (hf : FeetOk r) (hr : rv = .tup [rigV r, .bool (convexV r)]) {ph : Nat} (hph : (ph : Int) = phasesOf r) :
    ∀ (d k : Nat), k + d = r.feet.length → f56G1 E r ph k ((linesOf r.feet).take k)
  | 0, k, hd => by
    have e : (linesOf r.feet).take k = linesOf r.feet := List.take_of_length_le (by rw [linesOf_len]; omega)
    refine f56W1 r ph k _ hE ⟨fun h => by omega, fun _ => ⟨⟨hf, e, hph⟩, ?_⟩⟩
    rw [hr, e, hph]; rfl
  | d + 1, k, hd => by
    have h8 := hf.feet1
    have hk : k < r.feet.length := by omega
    have ha : r.feet[k]? = some r.feet[k] := by simp [hk]
    have hm : (k + 1) % r.feet.length < r.feet.length := Nat.mod_lt _ (by omega)
    have hb : r.feet[(k + 1) % r.feet.length]? = some r.feet[(k + 1) % r.feet.length] := by simp [hm]
    have et : Int.tmod ((k : Int) + 1) (r.feet.length : Int) = (((k + 1) % r.feet.length : Nat) : Int) := by
      rw [Int.tmod_eq_emod_of_nonneg (by omega)]; rfl
    refine f56W1 r ph k _ hE ⟨fun _ => ⟨_, ha, by omega, by omega, by rw [et]; omega, r.feet[(k + 1) % r.feet.length], by rw [et]; exact hb, ?_, by omega, ?_⟩, fun h => by omega⟩
    · rw [List.length_take]; omega
    · rw [← linesOf_take ha hb]; exact newRig_k hE hf hr hph d (k + 1) (by omega)

theorem newRig_i {E : Env} {rv : AV} (hE : PureE Try.prog 56 rv E) {r : Rg} (hs : RigSmall r) (h0 : (r.seats.length : Int) ≤ 20) (hf : within r.feet.length 3 8 = true) (hr : rv = .tup [newRigX r, .bool (rigOk r)]) :
    ∀ (d i ph : Nat), i + d = r.seats.length → (∀ s ∈ r.seats.take i, seatOk r s = true) → (ph : Int) = (match (r.seats.take i).getLast? with | some s => (s.length : Int) | none => 1) → f56G0 E r i ph
  | 0, i, ph, hd, hall, hph => by
    have e : r.seats.take i = r.seats := List.take_of_length_le (by omega)
    rw [e] at hall hph
    have ha : r.seats.all (seatOk r) = true := List.all_eq_true.2 hall
    refine f56W0 r i ph hE ⟨fun h => by omega, fun _ => ⟨fun h => ?_, fun h1 => ⟨fun h => ?_, fun h2 => ⟨fun h => ?_, fun h3 => ⟨fun h => ?_, fun h4 => ⟨hs.feet, fun h => ?_, fun h5 => ?_⟩⟩⟩⟩⟩⟩
    all_goals first | (refine newRig_bad hr ?_; simp [rigPre, *]; done) | skip
    refine newRig_k hE (feetOk_of hf h5) ?_ hph r.feet.length 0 (by omega)
    have hp : rigPre r = true := by simp [rigPre, *]
    rw [hr]; simp [newRigX, rigOk, hp]
  | d + 1, i, ph, hd, hall, hph => by
    have hi : i < r.seats.length := by omega
    have ha : r.seats[i]? = some r.seats[i] := by simp [hi]
    have h00 : r.seats[0]? = some (r.seats.getD 0 []) := by simp [List.getD, show 0 < r.seats.length by omega]
    have hno : ∀ (h : seatOk r r.seats[i] = false), rv = .tup [.nilPtr, .bool false] := fun h => by
      refine newRig_bad hr ?_
      have : r.seats.all (seatOk r) = false := by
        rw [Bool.eq_false_iff]; intro hh
        rw [List.all_eq_true.1 hh _ (List.mem_of_getElem? ha)] at h; cases h
      simp [rigPre, this]
    refine f56W0 r i ph hE ⟨fun _ => ⟨_, ha, hs.each _ (List.mem_of_getElem? ha), fun h => hno (by simp [seatOk, h]), fun h1 => ⟨_, h00, fun h => hno (by simp only [seatOk, h1, Bool.true_and]; simpa using h), fun h2 => ⟨by omega, ?_⟩⟩⟩, fun h => by omega⟩
    have et : r.seats.take (i + 1) = r.seats.take i ++ [r.seats[i]] := by rw [List.take_add_one, ha]; rfl
    refine newRig_i hE hs h0 hf hr d (i + 1) _ (by omega) (fun s h => ?_) ?_
    · rw [et] at h
      rcases List.mem_append.1 h with h | h
      · exact hall s h
      · rw [List.mem_singleton.1 h]; simp only [seatOk, h1, Bool.true_and]; simpa using h2
    · rw [et, List.getLast?_concat]

theorem newRig_ok (r : Rg) (hs : RigSmall r) : Pure Try.prog 56 [.agg [.rsl (rowS r.seats) 0 r.seats.length, .rsl (rowP r.feet) 0 r.feet.length, .int .i64 r.frame, .int .i64 r.c.x, .int .i64 r.c.y, .int .i64 r.c.z, .int .i64 r.empty, .int .i64 r.full]]
    (.tup [newRigX r, .bool (rigOk r)]) := pure_of Try.func56 f56b fun E hE => by
  refine f56W r hE ⟨fun h1 => ?_, fun h1 => ⟨fun h2 => ?_, fun h2 => ?_⟩⟩
  · exact newRig_bad rfl (by have : ¬ ((r.seats.length : Int) ≤ 20) := by omega
                             simp only [rigPre, this]; rfl)
  · exact newRig_bad rfl (by simp [rigPre, h2])
  · exact newRig_i hE hs (by omega) h2 rfl r.seats.length 0 1 (by omega) (by simp) (by simp)

end Go.Proofs.Ytideokfbnegkjaa

namespace Go.Proofs.Ytideokfbnegkjaa
open Go Ax
open Go.Proofs

def phN (r : Rg) : Nat := (phasesOf r).toNat
structure RigMade (r : Rg) : Prop where
  ok : RgOk r (phN r)
  ph : phasesOf r = (phN r : Nat)
  le : phN r ≤ 60
  pos : 1 ≤ phN r
  conv : convexV r = true

def rigPV (r : Rg) : List (Nat × Nat) := wlP r.feet.length 0 (phN r)

theorem rigOk_made {r : Rg} (h : rigOk r = true) : RigMade r := by
  simp only [rigOk, rigPre, Bool.and_eq_true, decide_eq_true_eq, Bool.not_eq_true'] at h
  obtain ⟨⟨h0, h1, h2, h3, h4, h5, h6, h7⟩, h8⟩ := h
  have hf := feetOk_of h1 h7
  simp only [within, Bool.and_eq_true, decide_eq_true_eq] at h1 h3 h4 h5
  have hall : ∀ s ∈ r.seats, validP s = true ∧ s.length = (r.seats.getD 0 []).length := fun s hs => by
    have := List.all_eq_true.1 h2 s hs
    simp only [seatOk, Bool.and_eq_true, beq_iff_eq] at this
    exact ⟨this.1, by omega⟩
  have hp : (∃ n : Nat, phasesOf r = n ∧ 1 ≤ n ∧ n ≤ 60 ∧ ∀ s ∈ r.seats, s.length = n) := by
    unfold phasesOf
    cases hg : r.seats.getLast? with
    | none =>
      refine ⟨1, rfl, by omega, by omega, fun s hs => ?_⟩
      rw [List.getLast?_eq_none_iff] at hg
      rw [hg] at hs; cases hs
    | some s =>
      have hm := List.mem_of_getLast? hg
      obtain ⟨hv, hl⟩ := hall s hm
      have := valid_len hv
      exact ⟨s.length, rfl, by omega, by omega, fun t ht => by rw [(hall t ht).2, hl]⟩
  obtain ⟨n, p1, p2, p3, p4⟩ := hp
  have hn : phN r = n := by unfold phN; omega
  exact ⟨⟨by omega, fun s hs => ⟨by rw [hn]; exact p4 s hs, (hall s hs).1⟩, hf.feet0, hf.feet1, hf.foot, h6, h3.1, h3.2, h5.1, h5.2, h4.2⟩, by rw [p1, hn], by omega, by omega, h8⟩

theorem newRigX_ok {r : Rg} (h : rigOk r = true) : newRigX r = rigV r := by
  simp only [rigOk, Bool.and_eq_true] at h
  simp only [newRigX, h.1, cond_true]

theorem newRigX_pre {r : Rg} (h : rigPre r = true) : newRigX r = rigV r := by simp only [newRigX, h, cond_true]
theorem newRigX_nil {r : Rg} (h : rigPre r = false) : newRigX r = .nilPtr := by simp only [newRigX, h, cond_false]

theorem worst_it (r : Rg) (h : RigMade r) : IterF Try.prog (.clos 61 [rigV r] []) ((rigPV r).map (argW r)) := worst_iter r (phN r) h.ok h.ph (by have := h.le; omega)

theorem f26b : Try.f26.body = some (bodyAt Try.prog 26) := by kernel_rfl
def f26Kr0 (P : Program) : List Item := kAt 400 [.code (bodyAt P 26)] [.b false]
def f26Sr0 (r : Rg)  (s : Int × Nat × Nat × Bool) : St := ⟨[.junk, .junk, .ptr 1 0 0, .ptr 2 0 0, .ptr 3 0 0, .junk, .junk, .junk, .ptr 4 0 0, .junk, .junk, .junk, .junk, .junk, .junk, .junk, .junk, .junk, .junk, .clos 61 [.rptr [.rsl (rowS r.seats) 0 r.seats.length, .rsl (rowP r.feet) 0 r.feet.length, .int .i64 r.frame, .int .i64 r.c.x, .int .i64 r.c.y, .int .i64 r.c.z, .int .i64 r.empty, .int .i64 r.full, .rsl (rowLn (linesOf r.feet)) 0 ((linesOf r.feet).length), .int .i64 (phasesOf r)] 0] [], .junk, .junk, .junk, .junk, .junk, .junk, .junk, .junk, .junk, .junk, .junk, .junk, .junk, .junk, .junk, .junk, .junk], [⟨true, 0, 1, true, [.rsl (rowS r.seats) 0 r.seats.length, .rsl (rowP r.feet) 0 r.feet.length, .int .i64 r.frame, .int .i64 r.c.x, .int .i64 r.c.y, .int .i64 r.c.z, .int .i64 r.empty, .int .i64 r.full], false⟩, ⟨true, 0, 1, true, [.int .i64 s.1], false⟩, ⟨true, 0, 1, true, [.int .i64 ((s.2.1 : Nat) : Int)], false⟩, ⟨true, 0, 1, true, [.int .i64 ((s.2.2.1 : Nat) : Int)], false⟩, ⟨true, 0, 1, true, [.bool s.2.2.2], false⟩]⟩
def f26Gr0 (E : Env) (r : Rg)  (s : Int × Nat × Nat × Bool) : Prop := G Try.prog E (f26Kr0 Try.prog) (f26Sr0 r  s)
def f26Tr0 (r : Rg)  (s : Int × Nat × Nat × Bool) (x : Nat × Nat) : St := ⟨[.junk, .junk, .ptr 1 0 0, .ptr 2 0 0, .ptr 3 0 0, .junk, .junk, .junk, .ptr 4 0 0, .ptr 5 0 0, .int .i64 (worstV r x), .junk, .junk, .junk, .junk, .junk, .junk, .junk, .junk, .clos 61 [.rptr [.rsl (rowS r.seats) 0 r.seats.length, .rsl (rowP r.feet) 0 r.feet.length, .int .i64 r.frame, .int .i64 r.c.x, .int .i64 r.c.y, .int .i64 r.c.z, .int .i64 r.empty, .int .i64 r.full, .rsl (rowLn (linesOf r.feet)) 0 ((linesOf r.feet).length), .int .i64 (phasesOf r)] 0] [], .agg [.int .i64 ((x.1 : Nat) : Int), .int .i64 ((x.2 : Nat) : Int)], .int .i64 (worstV r x), .junk, .junk, .junk, .junk, .junk, .junk, .junk, .junk, .junk, .junk, .junk, .junk, .junk, .junk, .junk], [⟨true, 0, 1, true, [.rsl (rowS r.seats) 0 r.seats.length, .rsl (rowP r.feet) 0 r.feet.length, .int .i64 r.frame, .int .i64 r.c.x, .int .i64 r.c.y, .int .i64 r.c.z, .int .i64 r.empty, .int .i64 r.full], false⟩, ⟨true, 0, 1, true, [.int .i64 s.1], false⟩, ⟨true, 0, 1, true, [.int .i64 ((s.2.1 : Nat) : Int)], false⟩, ⟨true, 0, 1, true, [.int .i64 ((s.2.2.1 : Nat) : Int)], false⟩, ⟨true, 0, 1, true, [.bool s.2.2.2], false⟩, ⟨true, 0, 1, true, [.int .i64 ((x.1 : Nat) : Int), .int .i64 ((x.2 : Nat) : Int)], false⟩]⟩
theorem p26_start_0 (r : Rg)   {E : Env} {rv : AV} (hE : PureE Try.prog 26 rv E) (o1 : PureF Try.prog (.clos 56 [] []) [.agg [.rsl (rowS r.seats) 0 r.seats.length, .rsl (rowP r.feet) 0 r.feet.length, .int .i64 r.frame, .int .i64 r.c.x, .int .i64 r.c.y, .int .i64 r.c.z, .int .i64 r.empty, .int .i64 r.full]] (.tup [.rptr [.rsl (rowS r.seats) 0 r.seats.length, .rsl (rowP r.feet) 0 r.feet.length, .int .i64 r.frame, .int .i64 r.c.x, .int .i64 r.c.y, .int .i64 r.c.z, .int .i64 r.empty, .int .i64 r.full, .rsl (rowLn (linesOf r.feet)) 0 ((linesOf r.feet).length), .int .i64 (phasesOf r)] 0, .bool true]))
    (hg : G Try.prog E (f26Kr0 Try.prog) ⟨[.junk, .junk, .ptr 1 0 0, .ptr 2 0 0, .ptr 3 0 0, .junk, .junk, .junk, .ptr 4 0 0, .junk, .junk, .junk, .junk, .junk, .junk, .junk, .junk, .junk, .junk, .clos 61 [.rptr [.rsl (rowS r.seats) 0 r.seats.length, .rsl (rowP r.feet) 0 r.feet.length, .int .i64 r.frame, .int .i64 r.c.x, .int .i64 r.c.y, .int .i64 r.c.z, .int .i64 r.empty, .int .i64 r.full, .rsl (rowLn (linesOf r.feet)) 0 ((linesOf r.feet).length), .int .i64 (phasesOf r)] 0] [], .junk, .junk, .junk, .junk, .junk, .junk, .junk, .junk, .junk, .junk, .junk, .junk, .junk, .junk, .junk, .junk, .junk], [⟨true, 0, 1, true, [.rsl (rowS r.seats) 0 r.seats.length, .rsl (rowP r.feet) 0 r.feet.length, .int .i64 r.frame, .int .i64 r.c.x, .int .i64 r.c.y, .int .i64 r.c.z, .int .i64 r.empty, .int .i64 r.full], false⟩, ⟨true, 0, 1, true, [.int .i64 0], false⟩, ⟨true, 0, 1, true, [.int .i64 0], false⟩, ⟨true, 0, 1, true, [.int .i64 0], false⟩, ⟨true, 0, 1, true, [.bool false], false⟩]⟩) : G Try.prog E [.code (bodyAt Try.prog 26)] ⟨[.agg [.rsl (rowS r.seats) 0 r.seats.length, .rsl (rowP r.feet) 0 r.feet.length, .int .i64 r.frame, .int .i64 r.c.x, .int .i64 r.c.y, .int .i64 r.c.z, .int .i64 r.empty, .int .i64 r.full]] ++ unds (Try.f26.ntmps - 1), []⟩ :=
  segC_step (n := 400) (ds := []) (cs := []) (live := [2, 3, 4, 8, 19]) (m := 5) (evs := [.v (.tup [.rptr [.rsl (rowS r.seats) 0 r.seats.length, .rsl (rowP r.feet) 0 r.feet.length, .int .i64 r.frame, .int .i64 r.c.x, .int .i64 r.c.y, .int .i64 r.c.z, .int .i64 r.empty, .int .i64 r.full, .rsl (rowLn (linesOf r.feet)) 0 ((linesOf r.feet).length), .int .i64 (phasesOf r)] 0, .bool true]), .b false]) (obs := [PureF Try.prog (.clos 56 [] []) [.agg [.rsl (rowS r.seats) 0 r.seats.length, .rsl (rowP r.feet) 0 r.feet.length, .int .i64 r.frame, .int .i64 r.c.x, .int .i64 r.c.y, .int .i64 r.c.z, .int .i64 r.empty, .int .i64 r.full]] (.tup [.rptr [.rsl (rowS r.seats) 0 r.seats.length, .rsl (rowP r.feet) 0 r.feet.length, .int .i64 r.frame, .int .i64 r.c.x, .int .i64 r.c.y, .int .i64 r.c.z, .int .i64 r.empty, .int .i64 r.full, .rsl (rowLn (linesOf r.feet)) 0 ((linesOf r.feet).length), .int .i64 (phasesOf r)] 0, .bool true]), false = false, 1 ≤ 1]) hE.2.1 (hE.nogh _) mixed (by kernel_rfl) ⟨o1, (rfl), (by decide), trivial⟩ hg
theorem p26_start_1 (r : Rg)   {E : Env} {res : AV} (hE : PureE Try.prog 26 res E) (o2 : PureF Try.prog (.clos 56 [] []) [.agg [.rsl (rowS r.seats) 0 r.seats.length, .rsl (rowP r.feet) 0 r.feet.length, .int .i64 r.frame, .int .i64 r.c.x, .int .i64 r.c.y, .int .i64 r.c.z, .int .i64 r.empty, .int .i64 r.full]] (.tup [.rptr [.rsl (rowS r.seats) 0 r.seats.length, .rsl (rowP r.feet) 0 r.feet.length, .int .i64 r.frame, .int .i64 r.c.x, .int .i64 r.c.y, .int .i64 r.c.z, .int .i64 r.empty, .int .i64 r.full, .rsl (rowLn (linesOf r.feet)) 0 ((linesOf r.feet).length), .int .i64 (phasesOf r)] 0, .bool false]))
    (hr : AvLe (.tup [.int .i64 0, .int .i64 0, .int .i64 0, .int .i64 33]) res) : G Try.prog E [.code (bodyAt Try.prog 26)] ⟨[.agg [.rsl (rowS r.seats) 0 r.seats.length, .rsl (rowP r.feet) 0 r.feet.length, .int .i64 r.frame, .int .i64 r.c.x, .int .i64 r.c.y, .int .i64 r.c.z, .int .i64 r.empty, .int .i64 r.full]] ++ unds (Try.f26.ntmps - 1), []⟩ :=
  end_stepL (n := 400) (evs := [.v (.tup [.rptr [.rsl (rowS r.seats) 0 r.seats.length, .rsl (rowP r.feet) 0 r.feet.length, .int .i64 r.frame, .int .i64 r.c.x, .int .i64 r.c.y, .int .i64 r.c.z, .int .i64 r.empty, .int .i64 r.full, .rsl (rowLn (linesOf r.feet)) 0 ((linesOf r.feet).length), .int .i64 (phasesOf r)] 0, .bool false]), .b true]) (obs := [PureF Try.prog (.clos 56 [] []) [.agg [.rsl (rowS r.seats) 0 r.seats.length, .rsl (rowP r.feet) 0 r.feet.length, .int .i64 r.frame, .int .i64 r.c.x, .int .i64 r.c.y, .int .i64 r.c.z, .int .i64 r.empty, .int .i64 r.full]] (.tup [.rptr [.rsl (rowS r.seats) 0 r.seats.length, .rsl (rowP r.feet) 0 r.feet.length, .int .i64 r.frame, .int .i64 r.c.x, .int .i64 r.c.y, .int .i64 r.c.z, .int .i64 r.empty, .int .i64 r.full, .rsl (rowLn (linesOf r.feet)) 0 ((linesOf r.feet).length), .int .i64 (phasesOf r)] 0, .bool false]), true = true, 1 ≤ 1, 1 ≤ 1, 1 ≤ 1]) hE Try.func26 mixed (by kernel_rfl) ⟨o2, (rfl), (by decide), (by decide), (by decide), trivial⟩ hr
theorem p26_start_2 (r : Rg)   {E : Env} {res : AV} (hE : PureE Try.prog 26 res E) (o2 : PureF Try.prog (.clos 56 [] []) [.agg [.rsl (rowS r.seats) 0 r.seats.length, .rsl (rowP r.feet) 0 r.feet.length, .int .i64 r.frame, .int .i64 r.c.x, .int .i64 r.c.y, .int .i64 r.c.z, .int .i64 r.empty, .int .i64 r.full]] (.tup [.nilPtr, .bool false]))
    (hr : AvLe (.tup [.int .i64 0, .int .i64 0, .int .i64 0, .int .i64 33]) res) : G Try.prog E [.code (bodyAt Try.prog 26)] ⟨[.agg [.rsl (rowS r.seats) 0 r.seats.length, .rsl (rowP r.feet) 0 r.feet.length, .int .i64 r.frame, .int .i64 r.c.x, .int .i64 r.c.y, .int .i64 r.c.z, .int .i64 r.empty, .int .i64 r.full]] ++ unds (Try.f26.ntmps - 1), []⟩ :=
  end_stepL (n := 400) (evs := [.v (.tup [.nilPtr, .bool false]), .b true]) (obs := [PureF Try.prog (.clos 56 [] []) [.agg [.rsl (rowS r.seats) 0 r.seats.length, .rsl (rowP r.feet) 0 r.feet.length, .int .i64 r.frame, .int .i64 r.c.x, .int .i64 r.c.y, .int .i64 r.c.z, .int .i64 r.empty, .int .i64 r.full]] (.tup [.nilPtr, .bool false]), true = true, 1 ≤ 1, 1 ≤ 1, 1 ≤ 1]) hE Try.func26 mixed (by kernel_rfl) ⟨o2, (rfl), (by decide), (by decide), (by decide), trivial⟩ hr
theorem f26W (r : Rg) {E : Env} {rv : (Int × Int × Int × Int)} (hE : PureE Try.prog 26 (.tup [.int .i64 rv.1, .int .i64 rv.2.1, .int .i64 rv.2.2.1, .int .i64 rv.2.2.2]) E)
    (h : (((rigOk r) = true → ((RigSmall r) ∧ f26Gr0 E r  (0, 0, 0, false))) ∧ ((rigOk r) = false → (((rigPre r) = true → ((RigSmall r) ∧ rv = (0, 0, 0, 33))) ∧ ((rigPre r) = false → ((RigSmall r) ∧ rv = (0, 0, 0, 33))))))) : G Try.prog E [.code (bodyAt Try.prog 26)] ⟨[.agg [.rsl (rowS r.seats) 0 r.seats.length, .rsl (rowP r.feet) 0 r.feet.length, .int .i64 r.frame, .int .i64 r.c.x, .int .i64 r.c.y, .int .i64 r.c.z, .int .i64 r.empty, .int .i64 r.full]] ++ unds (Try.f26.ntmps - 1), []⟩ := by
  rcases Bool.eq_false_or_eq_true (rigOk r) with hc0 | hc0
  · have h := h.1 hc0
    obtain ⟨h1, h⟩ := h
    exact p26_start_0 r    hE (by have hx := newRig_ok r h1; rw [hc0, newRigX_ok hc0] at hx; exact pureF_of Try.func56 (by kernel_rfl) f56b hx) h
  · have h := h.2 hc0
    rcases Bool.eq_false_or_eq_true (rigPre r) with hc1 | hc1
    · have h := h.1 hc1
      obtain ⟨h1, h⟩ := h
      exact p26_start_1 r    hE (by have hx := newRig_ok r h1; rw [hc0, newRigX_pre hc1] at hx; exact pureF_of Try.func56 (by kernel_rfl) f56b hx) (AvLe.of_eq (by rw [h]; try rfl))
    · have h := h.2 hc1
      obtain ⟨h1, h⟩ := h
      exact p26_start_2 r    hE (by have hx := newRig_ok r h1; rw [hc0, newRigX_nil hc1] at hx; exact pureF_of Try.func56 (by kernel_rfl) f56b hx) (AvLe.of_eq (by rw [h]; try rfl))
theorem p26_r0e_0 (r : Rg)  (s : Int × Nat × Nat × Bool)   {E : Env} {res : AV} (hE : PureE Try.prog 26 res E) 
    (hr : AvLe (.tup [.int .i64 s.1, .int .i64 ((s.2.1 : Nat) : Int), .int .i64 ((s.2.2.1 : Nat) : Int), .int .i64 0]) res) : G Try.prog E (rfRest (f26Kr0 Try.prog)) (f26Sr0 r  s) :=
  end_stepL (n := 400) (evs := []) (obs := [1 ≤ 1, 1 ≤ 1, 1 ≤ 1]) hE Try.func26 mixed (by kernel_rfl) ⟨(by decide), (by decide), (by decide), trivial⟩ hr
theorem f26Wr0e (r : Rg)  (s : Int × Nat × Nat × Bool) {E : Env} {rv : (Int × Int × Int × Int)} (hE : PureE Try.prog 26 (.tup [.int .i64 rv.1, .int .i64 rv.2.1, .int .i64 rv.2.2.1, .int .i64 rv.2.2.2]) E)
    (h : rv = (s.1, ((s.2.1 : Nat) : Int), ((s.2.2.1 : Nat) : Int), 0)) : G Try.prog E (rfRest (f26Kr0 Try.prog)) (f26Sr0 r  s) := by
  exact p26_r0e_0 r  s   hE  (AvLe.of_eq (by rw [h]; try rfl))
theorem f26Ar0 (r : Rg)  (s : Int × Nat × Nat × Bool) (x : Nat × Nat) {E : Env} (hE : RoundE (f26Sr0 r  s).tmps E) (hg : G Try.prog E [.beginRound, .code (rfBody (f26Kr0 Try.prog))] (f26Tr0 r  s x)) : G Try.prog E [.code (rfAssign (f26Kr0 Try.prog)), .beginRound, .code (rfBody (f26Kr0 Try.prog))] ⟨putPs (f26Sr0 r  s).tmps [20, 21] ((argW r) x), (f26Sr0 r  s).blks⟩ :=
  segC_step (n := 400) (ds := []) (cs := []) (live := [0, 1, 2, 3, 4, 5, 6, 7, 8, 9, 10, 11, 12, 13, 14, 15, 16, 17, 18, 19, 20, 21, 22, 23, 24, 25, 26, 27, 28, 29, 30, 31, 32, 33, 34, 35, 36]) (m := 6) (evs := []) (obs := [2 ≤ 2]) hE.kind (by rw [hE.gA]; kernel_rfl) mixed (by kernel_rfl) ⟨(by decide), trivial⟩ hg
theorem f26Br0_0 (r : Rg)  (s : Int × Nat × Nat × Bool) (x : Nat × Nat)  {E : Env} (hE : RoundE (f26Sr0 r  s).tmps E) (o0 : (!s.2.2.2) = true)
    (hg : G Try.prog E [] ⟨[.junk, .junk, .junk, .junk, .junk, .junk, .junk, .junk, .junk, .junk, .junk, .junk, .junk, .junk, .junk, .junk, .junk, .junk, .junk, .junk, .junk, .junk, .junk, .junk, .junk, .junk, .junk, .junk, .junk, .junk, .junk, .junk, .junk, .junk, .junk, .junk, .junk], [⟨true, 0, 1, true, [.rsl (rowS r.seats) 0 r.seats.length, .rsl (rowP r.feet) 0 r.feet.length, .int .i64 r.frame, .int .i64 r.c.x, .int .i64 r.c.y, .int .i64 r.c.z, .int .i64 r.empty, .int .i64 r.full], false⟩, ⟨true, 0, 1, true, [.int .i64 (worstV r x)], false⟩, ⟨true, 0, 1, true, [.int .i64 ((x.1 : Nat) : Int)], false⟩, ⟨true, 0, 1, true, [.int .i64 ((x.2 : Nat) : Int)], false⟩, ⟨true, 0, 1, true, [.bool true], false⟩]⟩) : G Try.prog E [.code (rfBody (f26Kr0 Try.prog))] (f26Tr0 r  s x) :=
  segC_step (n := 400) (ds := []) (cs := []) (live := []) (m := 5) (evs := [.b true, .b true]) (obs := [(!s.2.2.2) = true, true = true, (0 : Int) ≤ 0 ∧ (0 : Int) < ((2 : Nat) : Int), (0 : Int) ≤ 1 ∧ (1 : Int) < ((2 : Nat) : Int), 1 ≤ 1, 1 ≤ 1, 1 ≤ 1, 1 ≤ 1]) hE.kind (by rw [hE.gA]; kernel_rfl) mixed (by kernel_rfl) ⟨o0, (rfl), (⟨by decide, by decide⟩), (⟨by decide, by decide⟩), (by decide), (by decide), (by decide), (by decide), trivial⟩ hg
theorem f26Br0_1 (r : Rg)  (s : Int × Nat × Nat × Bool) (x : Nat × Nat)  {E : Env} (hE : RoundE (f26Sr0 r  s).tmps E) (o0 : (!s.2.2.2) = false) (o1 : (decide ((worstV r x) < s.1)) = true)
    (hg : G Try.prog E [] ⟨[.junk, .junk, .junk, .junk, .junk, .junk, .junk, .junk, .junk, .junk, .junk, .junk, .junk, .junk, .junk, .junk, .junk, .junk, .junk, .junk, .junk, .junk, .junk, .junk, .junk, .junk, .junk, .junk, .junk, .junk, .junk, .junk, .junk, .junk, .junk, .junk, .junk], [⟨true, 0, 1, true, [.rsl (rowS r.seats) 0 r.seats.length, .rsl (rowP r.feet) 0 r.feet.length, .int .i64 r.frame, .int .i64 r.c.x, .int .i64 r.c.y, .int .i64 r.c.z, .int .i64 r.empty, .int .i64 r.full], false⟩, ⟨true, 0, 1, true, [.int .i64 (worstV r x)], false⟩, ⟨true, 0, 1, true, [.int .i64 ((x.1 : Nat) : Int)], false⟩, ⟨true, 0, 1, true, [.int .i64 ((x.2 : Nat) : Int)], false⟩, ⟨true, 0, 1, true, [.bool true], false⟩]⟩) : G Try.prog E [.code (rfBody (f26Kr0 Try.prog))] (f26Tr0 r  s x) :=
  segC_step (n := 400) (ds := []) (cs := []) (live := []) (m := 5) (evs := [.b false, .b true]) (obs := [(!s.2.2.2) = false, (decide ((worstV r x) < s.1)) = true, (0 : Int) ≤ 0 ∧ (0 : Int) < ((2 : Nat) : Int), (0 : Int) ≤ 1 ∧ (1 : Int) < ((2 : Nat) : Int), 1 ≤ 1, 1 ≤ 1, 1 ≤ 1, 1 ≤ 1]) hE.kind (by rw [hE.gA]; kernel_rfl) mixed (by kernel_rfl) ⟨o0, o1, (⟨by decide, by decide⟩), (⟨by decide, by decide⟩), (by decide), (by decide), (by decide), (by decide), trivial⟩ hg
theorem f26Br0_2 (r : Rg)  (s : Int × Nat × Nat × Bool) (x : Nat × Nat)  {E : Env} (hE : RoundE (f26Sr0 r  s).tmps E) (o0 : (!s.2.2.2) = false) (o1 : (decide ((worstV r x) < s.1)) = false)
    (hg : G Try.prog E [] ⟨[.junk, .junk, .junk, .junk, .junk, .junk, .junk, .junk, .junk, .junk, .junk, .junk, .junk, .junk, .junk, .junk, .junk, .junk, .junk, .junk, .junk, .junk, .junk, .junk, .junk, .junk, .junk, .junk, .junk, .junk, .junk, .junk, .junk, .junk, .junk, .junk, .junk], [⟨true, 0, 1, true, [.rsl (rowS r.seats) 0 r.seats.length, .rsl (rowP r.feet) 0 r.feet.length, .int .i64 r.frame, .int .i64 r.c.x, .int .i64 r.c.y, .int .i64 r.c.z, .int .i64 r.empty, .int .i64 r.full], false⟩, ⟨true, 0, 1, true, [.int .i64 s.1], false⟩, ⟨true, 0, 1, true, [.int .i64 ((s.2.1 : Nat) : Int)], false⟩, ⟨true, 0, 1, true, [.int .i64 ((s.2.2.1 : Nat) : Int)], false⟩, ⟨true, 0, 1, true, [.bool true], false⟩]⟩) : G Try.prog E [.code (rfBody (f26Kr0 Try.prog))] (f26Tr0 r  s x) :=
  segC_step (n := 400) (ds := []) (cs := []) (live := []) (m := 5) (evs := [.b false, .b false]) (obs := [(!s.2.2.2) = false, (decide ((worstV r x) < s.1)) = false, 1 ≤ 1]) hE.kind (by rw [hE.gA]; kernel_rfl) mixed (by kernel_rfl) ⟨o0, o1, (by decide), trivial⟩ hg
theorem f26Br0 (r : Rg)  (s : Int × Nat × Nat × Bool) (x : Nat × Nat) {rq : (Int × Nat × Nat × Bool) × Bool} {E : Env} (hE : RoundE (f26Sr0 r  s).tmps E) (hQ : RoundR (fun s => (f26Sr0 r  s).blks) (.ret) rq E)
    (h : ((s.2.2.2 = false → rq = (((worstV r x), x.1, x.2, true), true)) ∧ (s.2.2.2 = true → (((worstV r x) < s.1 → rq = (((worstV r x), x.1, x.2, true), true)) ∧ (¬ ((worstV r x) < s.1) → rq = ((s.1, s.2.1, s.2.2.1, true), true)))))) : G Try.prog E [.code (rfBody (f26Kr0 Try.prog))] (f26Tr0 r  s x) := by
  rcases Bool.eq_false_or_eq_true (!s.2.2.2) with hc0 | hc0
  · have h := h.1 (bnT hc0)
    exact f26Br0_0 r  s x  hE hc0 (round_go hQ h rfl)
  · have h := h.2 (bnF hc0)
    rcases Bool.eq_false_or_eq_true (decide ((worstV r x) < s.1)) with hc1 | hc1
    · have h := h.1 (of_decide_eq_true hc1)
      exact f26Br0_1 r  s x  hE hc0 hc1 (round_go hQ h rfl)
    · have h := h.2 (of_decide_eq_false hc1)
      exact f26Br0_2 r  s x  hE hc0 hc1 (round_go hQ h rfl)
theorem f26Rr0 (r : Rg)  (s0 : Int × Nat × Nat × Bool) {E : Env} {rv : (Int × Int × Int × Int)} (hE : PureE Try.prog 26 (.tup [.int .i64 rv.1, .int .i64 rv.2.1, .int .i64 rv.2.2.1, .int .i64 rv.2.2.2]) E) (step : (Int × Nat × Nat × Bool) → (Nat × Nat) → (Int × Nat × Nat × Bool))
    (h : RigMade r ∧ (∀ (i : Nat) (x : Nat × Nat) (s : Int × Nat × Nat × Bool), (rigPV r)[i]? = some x → s = ((rigPV r).take i).foldl step s0 → ((s.2.2.2 = false → step s x = ((worstV r x), x.1, x.2, true)) ∧ (s.2.2.2 = true → (((worstV r x) < s.1 → step s x = ((worstV r x), x.1, x.2, true)) ∧ (¬ ((worstV r x) < s.1) → step s x = (s.1, s.2.1, s.2.2.1, true)))))) ∧ (∀ s : Int × Nat × Nat × Bool, s = (rigPV r).foldl step s0 → rv = (s.1, ((s.2.1 : Nat) : Int), ((s.2.2.1 : Nat) : Int), 0))) : f26Gr0 E r  s0 := by
  have hgA : E.gA = [] := hE.2.2.2.2.1
  have hT : (f26Sr0 r  s0).tmps ++ E.gA = (f26Sr0 r  s0).tmps := by rw [hgA, List.append_nil]
  refine range_fold (σ := Int × Nat × Nat × Bool) (X := Nat × Nat) (arg := (argW r)) (L := (rigPV r)) (jump := .ret) (g := .tmp 19) (ps := #[20, 21]) (fun s => (f26Sr0 r  s).blks) (fun s x => (f26Tr0 r  s x)) (fun s x => (step s x, true)) s0 hE.1 hE.2.1 (by kernel_rfl) rfl rfl (worst_it r h.1) rfl (fun x => rfl) (fun s x E' hR hg => ?_) (fun i x s hx hs E' hR hQ => ?_) (fun s hs => ?_) (fun s hs => ?_)
  · rw [hT] at hR; exact f26Ar0 r  s x hR hg
  · rw [hT] at hR; rw [foldStop_go] at hs; simp only [Prod.mk.injEq, and_true] at hs; refine f26Br0 r  s x hR hQ ?_
    have h := h.2.1 i x s hx hs.symm
    simpa only [Prod.mk.injEq, and_true] using h
  · rw [foldStop_go] at hs; simp only [Prod.mk.injEq, and_true] at hs; exact f26Wr0e r  s hE (h.2.2 s hs.symm)
  · rw [foldStop_go] at hs; simp at hs

def leastStep (r : Rg) (s : Int × Nat × Nat × Bool) (x : Nat × Nat) : Int × Nat × Nat × Bool :=
  bif !s.2.2.2 || decide (worstV r x < s.1) then (worstV r x, x.1, x.2, true) else (s.1, s.2.1, s.2.2.1, true)
def leastF (r : Rg) : Int × Nat × Nat × Bool := (rigPV r).foldl (leastStep r) (0, 0, 0, false)
def leastP (r : Rg) : Int × Int × Int × Int := bif rigOk r then ((leastF r).1, ((leastF r).2.1 : Nat), ((leastF r).2.2.1 : Nat), 0) else (0, 0, 0, 33)

theorem least_ok (r : Rg) (hs : RigSmall r) : Pure Try.prog 26 [.agg [.rsl (rowS r.seats) 0 r.seats.length, .rsl (rowP r.feet) 0 r.feet.length, .int .i64 r.frame, .int .i64 r.c.x, .int .i64 r.c.y, .int .i64 r.c.z, .int .i64 r.empty, .int .i64 r.full]]
    (.tup [.int .i64 (leastP r).1, .int .i64 (leastP r).2.1, .int .i64 (leastP r).2.2.1, .int .i64 (leastP r).2.2.2]) := pure_of Try.func26 f26b fun E hE => by
  refine f26W r hE ⟨fun h => ⟨hs, f26Rr0 r _ hE (leastStep r) ⟨rigOk_made h, fun i x s hx hs => ⟨fun h1 => ?_, fun h1 => ⟨fun h2 => ?_, fun h2 => ?_⟩⟩, fun s hs => ?_⟩⟩, fun h => ⟨fun _ => ⟨hs, ?_⟩, fun _ => ⟨hs, ?_⟩⟩⟩
  · simp [leastStep, h1]
  · simp [leastStep, h1, h2]
  · simp [leastStep, h1, h2]
  · simp only [leastP, h, cond_true, leastF, ← hs]
  · simp [leastP, h]
  · simp [leastP, h]

end Go.Proofs.Ytideokfbnegkjaa

namespace Go.Proofs.Ytideokfbnegkjaa
open Go Ax
open Go.Proofs

structure Rd where
  m : Mot
  x : Lim
  f : Bool

def exPath : List Pt := [⟨100, 0, 0⟩, ⟨0, 100, 0⟩, ⟨-100, 0, 0⟩, ⟨0, -100, 0⟩]
def exRig : Rg := ⟨[exPath], [⟨-50, -50, 0⟩, ⟨50, -50, 0⟩, ⟨50, 50, 0⟩, ⟨-50, 50, 0⟩], 10, ⟨0, 0, 0⟩, 1, 3⟩

theorem exRig_small : RigSmall exRig := ⟨by decide, by decide, by intro s hs; simp [exRig] at hs; subst hs; decide⟩
theorem ex_least : leastP exRig = (35000, 0, 1, 0) := by kernel_rfl
theorem ex_fast : fastP exPath ⟨2, 1, 2⟩ ⟨300, 0, 2000⟩ false = (1, 0) := by kernel_rfl

theorem f45b : Try.f45.body = some (bodyAt Try.prog 45) := by kernel_rfl
theorem p45_start_0    {E : Env} {res : AV} (hE : PureE Try.prog 45 res E) 
    (hr : AvLe (.rsl [.int .i64 100, .int .i64 0, .int .i64 0, .int .i64 0, .int .i64 100, .int .i64 0, .int .i64 (-100), .int .i64 0, .int .i64 0, .int .i64 0, .int .i64 (-100), .int .i64 0] 0 4) res) : G Try.prog E [.code (bodyAt Try.prog 45)] ⟨[] ++ unds (Try.f45.ntmps - 0), []⟩ :=
  end_stepL (n := 400) (evs := []) (obs := [0 = 0]) hE Try.func45 mixed (by kernel_rfl) ⟨(rfl), trivial⟩ hr
theorem f45W  {E : Env} {rv : (List Pt)} (hE : PureE Try.prog 45 (.rsl (rowP rv) 0 rv.length) E)
    (h : rv = [(⟨100, 0, 0⟩ : Pt), (⟨0, 100, 0⟩ : Pt), (⟨(-100), 0, 0⟩ : Pt), (⟨0, (-100), 0⟩ : Pt)]) : G Try.prog E [.code (bodyAt Try.prog 45)] ⟨[] ++ unds (Try.f45.ntmps - 0), []⟩ := by
  exact p45_start_0     hE  (AvLe.of_eq (by rw [h]; try rfl))
theorem exPath_ok : Pure Try.prog 45 [] (.rsl (rowP exPath) 0 exPath.length) := pure_of Try.func45 f45b fun E hE => f45W (rv := exPath) hE rfl
theorem f44b : Try.f44.body = some (bodyAt Try.prog 44) := by kernel_rfl
theorem p44_start_0    {E : Env} {res : AV} (hE : PureE Try.prog 44 res E) (o0 : PureF Try.prog (.clos 45 [] []) [] (.rsl (rowP exPath) 0 exPath.length))
    (hr : AvLe (.agg [.rsl [.rsl (rowP exPath) 0 exPath.length] 0 1, .rsl [.int .i64 (-50), .int .i64 (-50), .int .i64 0, .int .i64 50, .int .i64 (-50), .int .i64 0, .int .i64 50, .int .i64 50, .int .i64 0, .int .i64 (-50), .int .i64 50, .int .i64 0] 0 4, .int .i64 10, .int .i64 0, .int .i64 0, .int .i64 0, .int .i64 1, .int .i64 3]) res) : G Try.prog E [.code (bodyAt Try.prog 44)] ⟨[] ++ unds (Try.f44.ntmps - 0), []⟩ :=
  end_stepL (n := 400) (evs := [.v (.rsl (rowP exPath) 0 exPath.length)]) (obs := [PureF Try.prog (.clos 45 [] []) [] (.rsl (rowP exPath) 0 exPath.length), 8 ≤ 8, 0 = 0, 0 = 0]) hE Try.func44 mixed (by kernel_rfl) ⟨o0, (by decide), (rfl), (rfl), trivial⟩ hr
theorem f44W  {E : Env} {rv : Rg} (hE : PureE Try.prog 44 (.agg [.rsl (rowS rv.seats) 0 rv.seats.length, .rsl (rowP rv.feet) 0 rv.feet.length, .int .i64 rv.frame, .int .i64 rv.c.x, .int .i64 rv.c.y, .int .i64 rv.c.z, .int .i64 rv.empty, .int .i64 rv.full]) E)
    (h : rv = (⟨[exPath], [(⟨(-50), (-50), 0⟩ : Pt), (⟨50, (-50), 0⟩ : Pt), (⟨50, 50, 0⟩ : Pt), (⟨(-50), 50, 0⟩ : Pt)], 10, (⟨0, 0, 0⟩ : Pt), 1, 3⟩ : Rg)) : G Try.prog E [.code (bodyAt Try.prog 44)] ⟨[] ++ unds (Try.f44.ntmps - 0), []⟩ := by
  exact p44_start_0     hE (pureF_of Try.func45 (by kernel_rfl) f45b (exPath_ok )) (AvLe.of_eq (by rw [h]; try rfl))
theorem exRig_ok : Pure Try.prog 44 [] (.agg [.rsl (rowS exRig.seats) 0 exRig.seats.length, .rsl (rowP exRig.feet) 0 exRig.feet.length, .int .i64 exRig.frame, .int .i64 exRig.c.x, .int .i64 exRig.c.y, .int .i64 exRig.c.z, .int .i64 exRig.empty, .int .i64 exRig.full]) := pure_of Try.func44 f44b fun E hE => f44W (rv := exRig) hE rfl
theorem f15b : Try.f15.body = some (bodyAt Try.prog 15) := by kernel_rfl
theorem p15_start_0    {E : Env} {res : AV} (hE : PureE Try.prog 15 res E) (o0 : PureF Try.prog (.clos 44 [] []) [] (.agg [.rsl (rowS exRig.seats) 0 exRig.seats.length, .rsl (rowP exRig.feet) 0 exRig.feet.length, .int .i64 exRig.frame, .int .i64 exRig.c.x, .int .i64 exRig.c.y, .int .i64 exRig.c.z, .int .i64 exRig.empty, .int .i64 exRig.full])) (o1 : PureF Try.prog (.clos 26 [] []) [.agg [.rsl (rowS exRig.seats) 0 exRig.seats.length, .rsl (rowP exRig.feet) 0 exRig.feet.length, .int .i64 exRig.frame, .int .i64 exRig.c.x, .int .i64 exRig.c.y, .int .i64 exRig.c.z, .int .i64 exRig.empty, .int .i64 exRig.full]] (.tup [.int .i64 ((leastP exRig).1), .int .i64 ((leastP exRig).2.1), .int .i64 ((leastP exRig).2.2.1), .int .i64 ((leastP exRig).2.2.2)])) (o2 : PureF Try.prog (.clos 45 [] []) [] (.rsl (rowP exPath) 0 exPath.length)) (o3 : PureF Try.prog (.clos 16 [] []) [.rsl (rowP exPath) 0 exPath.length, .agg [.int .i64 2, .int .i64 1, .int .i64 2], .agg [.int .i64 300, .int .i64 0, .int .i64 2000], .bool false] (.tup [.int .i64 ((fastP exPath (⟨2, 1, 2⟩ : Mot) (⟨300, 0, 2000⟩ : Lim) false).1), .int .i64 ((fastP exPath (⟨2, 1, 2⟩ : Mot) (⟨300, 0, 2000⟩ : Lim) false).2)])) (o4 : ((leastP exRig).2.2.2 == 0) = true) (o5 : ((fastP exPath (⟨2, 1, 2⟩ : Mot) (⟨300, 0, 2000⟩ : Lim) false).2 == 0) = true) (o6 : ((leastP exRig).1 == 35000) = true) (o7 : ((leastP exRig).2.1 == 0) = true) (o8 : ((leastP exRig).2.2.1 == 1) = true)
    (hr : AvLe (.bool ((fastP exPath (⟨2, 1, 2⟩ : Mot) (⟨300, 0, 2000⟩ : Lim) false).1 == 1)) res) : G Try.prog E [.code (bodyAt Try.prog 15)] ⟨[] ++ unds (Try.f15.ntmps - 0), []⟩ :=
  end_stepL (n := 400) (evs := [.v (.agg [.rsl (rowS exRig.seats) 0 exRig.seats.length, .rsl (rowP exRig.feet) 0 exRig.feet.length, .int .i64 exRig.frame, .int .i64 exRig.c.x, .int .i64 exRig.c.y, .int .i64 exRig.c.z, .int .i64 exRig.empty, .int .i64 exRig.full]), .v (.tup [.int .i64 ((leastP exRig).1), .int .i64 ((leastP exRig).2.1), .int .i64 ((leastP exRig).2.2.1), .int .i64 ((leastP exRig).2.2.2)]), .v (.rsl (rowP exPath) 0 exPath.length), .v (.tup [.int .i64 ((fastP exPath (⟨2, 1, 2⟩ : Mot) (⟨300, 0, 2000⟩ : Lim) false).1), .int .i64 ((fastP exPath (⟨2, 1, 2⟩ : Mot) (⟨300, 0, 2000⟩ : Lim) false).2)]), .b true, .b true, .b true, .b true, .b true]) (obs := [PureF Try.prog (.clos 44 [] []) [] (.agg [.rsl (rowS exRig.seats) 0 exRig.seats.length, .rsl (rowP exRig.feet) 0 exRig.feet.length, .int .i64 exRig.frame, .int .i64 exRig.c.x, .int .i64 exRig.c.y, .int .i64 exRig.c.z, .int .i64 exRig.empty, .int .i64 exRig.full]), PureF Try.prog (.clos 26 [] []) [.agg [.rsl (rowS exRig.seats) 0 exRig.seats.length, .rsl (rowP exRig.feet) 0 exRig.feet.length, .int .i64 exRig.frame, .int .i64 exRig.c.x, .int .i64 exRig.c.y, .int .i64 exRig.c.z, .int .i64 exRig.empty, .int .i64 exRig.full]] (.tup [.int .i64 ((leastP exRig).1), .int .i64 ((leastP exRig).2.1), .int .i64 ((leastP exRig).2.2.1), .int .i64 ((leastP exRig).2.2.2)]), PureF Try.prog (.clos 45 [] []) [] (.rsl (rowP exPath) 0 exPath.length), PureF Try.prog (.clos 16 [] []) [.rsl (rowP exPath) 0 exPath.length, .agg [.int .i64 2, .int .i64 1, .int .i64 2], .agg [.int .i64 300, .int .i64 0, .int .i64 2000], .bool false] (.tup [.int .i64 ((fastP exPath (⟨2, 1, 2⟩ : Mot) (⟨300, 0, 2000⟩ : Lim) false).1), .int .i64 ((fastP exPath (⟨2, 1, 2⟩ : Mot) (⟨300, 0, 2000⟩ : Lim) false).2)]), ((leastP exRig).2.2.2 == 0) = true, ((fastP exPath (⟨2, 1, 2⟩ : Mot) (⟨300, 0, 2000⟩ : Lim) false).2 == 0) = true, ((leastP exRig).1 == 35000) = true, ((leastP exRig).2.1 == 0) = true, ((leastP exRig).2.2.1 == 1) = true]) hE Try.func15 mixed (by kernel_rfl) ⟨o0, o1, o2, o3, o4, o5, o6, o7, o8, trivial⟩ hr
theorem p15_start_1    {E : Env} {res : AV} (hE : PureE Try.prog 15 res E) (o0 : PureF Try.prog (.clos 44 [] []) [] (.agg [.rsl (rowS exRig.seats) 0 exRig.seats.length, .rsl (rowP exRig.feet) 0 exRig.feet.length, .int .i64 exRig.frame, .int .i64 exRig.c.x, .int .i64 exRig.c.y, .int .i64 exRig.c.z, .int .i64 exRig.empty, .int .i64 exRig.full])) (o1 : PureF Try.prog (.clos 26 [] []) [.agg [.rsl (rowS exRig.seats) 0 exRig.seats.length, .rsl (rowP exRig.feet) 0 exRig.feet.length, .int .i64 exRig.frame, .int .i64 exRig.c.x, .int .i64 exRig.c.y, .int .i64 exRig.c.z, .int .i64 exRig.empty, .int .i64 exRig.full]] (.tup [.int .i64 ((leastP exRig).1), .int .i64 ((leastP exRig).2.1), .int .i64 ((leastP exRig).2.2.1), .int .i64 ((leastP exRig).2.2.2)])) (o2 : PureF Try.prog (.clos 45 [] []) [] (.rsl (rowP exPath) 0 exPath.length)) (o3 : PureF Try.prog (.clos 16 [] []) [.rsl (rowP exPath) 0 exPath.length, .agg [.int .i64 2, .int .i64 1, .int .i64 2], .agg [.int .i64 300, .int .i64 0, .int .i64 2000], .bool false] (.tup [.int .i64 ((fastP exPath (⟨2, 1, 2⟩ : Mot) (⟨300, 0, 2000⟩ : Lim) false).1), .int .i64 ((fastP exPath (⟨2, 1, 2⟩ : Mot) (⟨300, 0, 2000⟩ : Lim) false).2)])) (o4 : ((leastP exRig).2.2.2 == 0) = true) (o5 : ((fastP exPath (⟨2, 1, 2⟩ : Mot) (⟨300, 0, 2000⟩ : Lim) false).2 == 0) = true) (o6 : ((leastP exRig).1 == 35000) = true) (o7 : ((leastP exRig).2.1 == 0) = true) (o8 : ((leastP exRig).2.2.1 == 1) = false)
    (hr : AvLe (.bool false) res) : G Try.prog E [.code (bodyAt Try.prog 15)] ⟨[] ++ unds (Try.f15.ntmps - 0), []⟩ :=
  end_stepL (n := 400) (evs := [.v (.agg [.rsl (rowS exRig.seats) 0 exRig.seats.length, .rsl (rowP exRig.feet) 0 exRig.feet.length, .int .i64 exRig.frame, .int .i64 exRig.c.x, .int .i64 exRig.c.y, .int .i64 exRig.c.z, .int .i64 exRig.empty, .int .i64 exRig.full]), .v (.tup [.int .i64 ((leastP exRig).1), .int .i64 ((leastP exRig).2.1), .int .i64 ((leastP exRig).2.2.1), .int .i64 ((leastP exRig).2.2.2)]), .v (.rsl (rowP exPath) 0 exPath.length), .v (.tup [.int .i64 ((fastP exPath (⟨2, 1, 2⟩ : Mot) (⟨300, 0, 2000⟩ : Lim) false).1), .int .i64 ((fastP exPath (⟨2, 1, 2⟩ : Mot) (⟨300, 0, 2000⟩ : Lim) false).2)]), .b true, .b true, .b true, .b true, .b false]) (obs := [PureF Try.prog (.clos 44 [] []) [] (.agg [.rsl (rowS exRig.seats) 0 exRig.seats.length, .rsl (rowP exRig.feet) 0 exRig.feet.length, .int .i64 exRig.frame, .int .i64 exRig.c.x, .int .i64 exRig.c.y, .int .i64 exRig.c.z, .int .i64 exRig.empty, .int .i64 exRig.full]), PureF Try.prog (.clos 26 [] []) [.agg [.rsl (rowS exRig.seats) 0 exRig.seats.length, .rsl (rowP exRig.feet) 0 exRig.feet.length, .int .i64 exRig.frame, .int .i64 exRig.c.x, .int .i64 exRig.c.y, .int .i64 exRig.c.z, .int .i64 exRig.empty, .int .i64 exRig.full]] (.tup [.int .i64 ((leastP exRig).1), .int .i64 ((leastP exRig).2.1), .int .i64 ((leastP exRig).2.2.1), .int .i64 ((leastP exRig).2.2.2)]), PureF Try.prog (.clos 45 [] []) [] (.rsl (rowP exPath) 0 exPath.length), PureF Try.prog (.clos 16 [] []) [.rsl (rowP exPath) 0 exPath.length, .agg [.int .i64 2, .int .i64 1, .int .i64 2], .agg [.int .i64 300, .int .i64 0, .int .i64 2000], .bool false] (.tup [.int .i64 ((fastP exPath (⟨2, 1, 2⟩ : Mot) (⟨300, 0, 2000⟩ : Lim) false).1), .int .i64 ((fastP exPath (⟨2, 1, 2⟩ : Mot) (⟨300, 0, 2000⟩ : Lim) false).2)]), ((leastP exRig).2.2.2 == 0) = true, ((fastP exPath (⟨2, 1, 2⟩ : Mot) (⟨300, 0, 2000⟩ : Lim) false).2 == 0) = true, ((leastP exRig).1 == 35000) = true, ((leastP exRig).2.1 == 0) = true, ((leastP exRig).2.2.1 == 1) = false]) hE Try.func15 mixed (by kernel_rfl) ⟨o0, o1, o2, o3, o4, o5, o6, o7, o8, trivial⟩ hr
theorem p15_start_2    {E : Env} {res : AV} (hE : PureE Try.prog 15 res E) (o0 : PureF Try.prog (.clos 44 [] []) [] (.agg [.rsl (rowS exRig.seats) 0 exRig.seats.length, .rsl (rowP exRig.feet) 0 exRig.feet.length, .int .i64 exRig.frame, .int .i64 exRig.c.x, .int .i64 exRig.c.y, .int .i64 exRig.c.z, .int .i64 exRig.empty, .int .i64 exRig.full])) (o1 : PureF Try.prog (.clos 26 [] []) [.agg [.rsl (rowS exRig.seats) 0 exRig.seats.length, .rsl (rowP exRig.feet) 0 exRig.feet.length, .int .i64 exRig.frame, .int .i64 exRig.c.x, .int .i64 exRig.c.y, .int .i64 exRig.c.z, .int .i64 exRig.empty, .int .i64 exRig.full]] (.tup [.int .i64 ((leastP exRig).1), .int .i64 ((leastP exRig).2.1), .int .i64 ((leastP exRig).2.2.1), .int .i64 ((leastP exRig).2.2.2)])) (o2 : PureF Try.prog (.clos 45 [] []) [] (.rsl (rowP exPath) 0 exPath.length)) (o3 : PureF Try.prog (.clos 16 [] []) [.rsl (rowP exPath) 0 exPath.length, .agg [.int .i64 2, .int .i64 1, .int .i64 2], .agg [.int .i64 300, .int .i64 0, .int .i64 2000], .bool false] (.tup [.int .i64 ((fastP exPath (⟨2, 1, 2⟩ : Mot) (⟨300, 0, 2000⟩ : Lim) false).1), .int .i64 ((fastP exPath (⟨2, 1, 2⟩ : Mot) (⟨300, 0, 2000⟩ : Lim) false).2)])) (o4 : ((leastP exRig).2.2.2 == 0) = true) (o5 : ((fastP exPath (⟨2, 1, 2⟩ : Mot) (⟨300, 0, 2000⟩ : Lim) false).2 == 0) = true) (o6 : ((leastP exRig).1 == 35000) = true) (o7 : ((leastP exRig).2.1 == 0) = false)
    (hr : AvLe (.bool false) res) : G Try.prog E [.code (bodyAt Try.prog 15)] ⟨[] ++ unds (Try.f15.ntmps - 0), []⟩ :=
  end_stepL (n := 400) (evs := [.v (.agg [.rsl (rowS exRig.seats) 0 exRig.seats.length, .rsl (rowP exRig.feet) 0 exRig.feet.length, .int .i64 exRig.frame, .int .i64 exRig.c.x, .int .i64 exRig.c.y, .int .i64 exRig.c.z, .int .i64 exRig.empty, .int .i64 exRig.full]), .v (.tup [.int .i64 ((leastP exRig).1), .int .i64 ((leastP exRig).2.1), .int .i64 ((leastP exRig).2.2.1), .int .i64 ((leastP exRig).2.2.2)]), .v (.rsl (rowP exPath) 0 exPath.length), .v (.tup [.int .i64 ((fastP exPath (⟨2, 1, 2⟩ : Mot) (⟨300, 0, 2000⟩ : Lim) false).1), .int .i64 ((fastP exPath (⟨2, 1, 2⟩ : Mot) (⟨300, 0, 2000⟩ : Lim) false).2)]), .b true, .b true, .b true, .b false, .b false]) (obs := [PureF Try.prog (.clos 44 [] []) [] (.agg [.rsl (rowS exRig.seats) 0 exRig.seats.length, .rsl (rowP exRig.feet) 0 exRig.feet.length, .int .i64 exRig.frame, .int .i64 exRig.c.x, .int .i64 exRig.c.y, .int .i64 exRig.c.z, .int .i64 exRig.empty, .int .i64 exRig.full]), PureF Try.prog (.clos 26 [] []) [.agg [.rsl (rowS exRig.seats) 0 exRig.seats.length, .rsl (rowP exRig.feet) 0 exRig.feet.length, .int .i64 exRig.frame, .int .i64 exRig.c.x, .int .i64 exRig.c.y, .int .i64 exRig.c.z, .int .i64 exRig.empty, .int .i64 exRig.full]] (.tup [.int .i64 ((leastP exRig).1), .int .i64 ((leastP exRig).2.1), .int .i64 ((leastP exRig).2.2.1), .int .i64 ((leastP exRig).2.2.2)]), PureF Try.prog (.clos 45 [] []) [] (.rsl (rowP exPath) 0 exPath.length), PureF Try.prog (.clos 16 [] []) [.rsl (rowP exPath) 0 exPath.length, .agg [.int .i64 2, .int .i64 1, .int .i64 2], .agg [.int .i64 300, .int .i64 0, .int .i64 2000], .bool false] (.tup [.int .i64 ((fastP exPath (⟨2, 1, 2⟩ : Mot) (⟨300, 0, 2000⟩ : Lim) false).1), .int .i64 ((fastP exPath (⟨2, 1, 2⟩ : Mot) (⟨300, 0, 2000⟩ : Lim) false).2)]), ((leastP exRig).2.2.2 == 0) = true, ((fastP exPath (⟨2, 1, 2⟩ : Mot) (⟨300, 0, 2000⟩ : Lim) false).2 == 0) = true, ((leastP exRig).1 == 35000) = true, ((leastP exRig).2.1 == 0) = false, false = false]) hE Try.func15 mixed (by kernel_rfl) ⟨o0, o1, o2, o3, o4, o5, o6, o7, (rfl), trivial⟩ hr
theorem p15_start_3    {E : Env} {res : AV} (hE : PureE Try.prog 15 res E) (o0 : PureF Try.prog (.clos 44 [] []) [] (.agg [.rsl (rowS exRig.seats) 0 exRig.seats.length, .rsl (rowP exRig.feet) 0 exRig.feet.length, .int .i64 exRig.frame, .int .i64 exRig.c.x, .int .i64 exRig.c.y, .int .i64 exRig.c.z, .int .i64 exRig.empty, .int .i64 exRig.full])) (o1 : PureF Try.prog (.clos 26 [] []) [.agg [.rsl (rowS exRig.seats) 0 exRig.seats.length, .rsl (rowP exRig.feet) 0 exRig.feet.length, .int .i64 exRig.frame, .int .i64 exRig.c.x, .int .i64 exRig.c.y, .int .i64 exRig.c.z, .int .i64 exRig.empty, .int .i64 exRig.full]] (.tup [.int .i64 ((leastP exRig).1), .int .i64 ((leastP exRig).2.1), .int .i64 ((leastP exRig).2.2.1), .int .i64 ((leastP exRig).2.2.2)])) (o2 : PureF Try.prog (.clos 45 [] []) [] (.rsl (rowP exPath) 0 exPath.length)) (o3 : PureF Try.prog (.clos 16 [] []) [.rsl (rowP exPath) 0 exPath.length, .agg [.int .i64 2, .int .i64 1, .int .i64 2], .agg [.int .i64 300, .int .i64 0, .int .i64 2000], .bool false] (.tup [.int .i64 ((fastP exPath (⟨2, 1, 2⟩ : Mot) (⟨300, 0, 2000⟩ : Lim) false).1), .int .i64 ((fastP exPath (⟨2, 1, 2⟩ : Mot) (⟨300, 0, 2000⟩ : Lim) false).2)])) (o4 : ((leastP exRig).2.2.2 == 0) = true) (o5 : ((fastP exPath (⟨2, 1, 2⟩ : Mot) (⟨300, 0, 2000⟩ : Lim) false).2 == 0) = true) (o6 : ((leastP exRig).1 == 35000) = false)
    (hr : AvLe (.bool false) res) : G Try.prog E [.code (bodyAt Try.prog 15)] ⟨[] ++ unds (Try.f15.ntmps - 0), []⟩ :=
  end_stepL (n := 400) (evs := [.v (.agg [.rsl (rowS exRig.seats) 0 exRig.seats.length, .rsl (rowP exRig.feet) 0 exRig.feet.length, .int .i64 exRig.frame, .int .i64 exRig.c.x, .int .i64 exRig.c.y, .int .i64 exRig.c.z, .int .i64 exRig.empty, .int .i64 exRig.full]), .v (.tup [.int .i64 ((leastP exRig).1), .int .i64 ((leastP exRig).2.1), .int .i64 ((leastP exRig).2.2.1), .int .i64 ((leastP exRig).2.2.2)]), .v (.rsl (rowP exPath) 0 exPath.length), .v (.tup [.int .i64 ((fastP exPath (⟨2, 1, 2⟩ : Mot) (⟨300, 0, 2000⟩ : Lim) false).1), .int .i64 ((fastP exPath (⟨2, 1, 2⟩ : Mot) (⟨300, 0, 2000⟩ : Lim) false).2)]), .b true, .b true, .b false, .b false, .b false]) (obs := [PureF Try.prog (.clos 44 [] []) [] (.agg [.rsl (rowS exRig.seats) 0 exRig.seats.length, .rsl (rowP exRig.feet) 0 exRig.feet.length, .int .i64 exRig.frame, .int .i64 exRig.c.x, .int .i64 exRig.c.y, .int .i64 exRig.c.z, .int .i64 exRig.empty, .int .i64 exRig.full]), PureF Try.prog (.clos 26 [] []) [.agg [.rsl (rowS exRig.seats) 0 exRig.seats.length, .rsl (rowP exRig.feet) 0 exRig.feet.length, .int .i64 exRig.frame, .int .i64 exRig.c.x, .int .i64 exRig.c.y, .int .i64 exRig.c.z, .int .i64 exRig.empty, .int .i64 exRig.full]] (.tup [.int .i64 ((leastP exRig).1), .int .i64 ((leastP exRig).2.1), .int .i64 ((leastP exRig).2.2.1), .int .i64 ((leastP exRig).2.2.2)]), PureF Try.prog (.clos 45 [] []) [] (.rsl (rowP exPath) 0 exPath.length), PureF Try.prog (.clos 16 [] []) [.rsl (rowP exPath) 0 exPath.length, .agg [.int .i64 2, .int .i64 1, .int .i64 2], .agg [.int .i64 300, .int .i64 0, .int .i64 2000], .bool false] (.tup [.int .i64 ((fastP exPath (⟨2, 1, 2⟩ : Mot) (⟨300, 0, 2000⟩ : Lim) false).1), .int .i64 ((fastP exPath (⟨2, 1, 2⟩ : Mot) (⟨300, 0, 2000⟩ : Lim) false).2)]), ((leastP exRig).2.2.2 == 0) = true, ((fastP exPath (⟨2, 1, 2⟩ : Mot) (⟨300, 0, 2000⟩ : Lim) false).2 == 0) = true, ((leastP exRig).1 == 35000) = false, false = false, false = false]) hE Try.func15 mixed (by kernel_rfl) ⟨o0, o1, o2, o3, o4, o5, o6, (rfl), (rfl), trivial⟩ hr
theorem p15_start_4    {E : Env} {res : AV} (hE : PureE Try.prog 15 res E) (o0 : PureF Try.prog (.clos 44 [] []) [] (.agg [.rsl (rowS exRig.seats) 0 exRig.seats.length, .rsl (rowP exRig.feet) 0 exRig.feet.length, .int .i64 exRig.frame, .int .i64 exRig.c.x, .int .i64 exRig.c.y, .int .i64 exRig.c.z, .int .i64 exRig.empty, .int .i64 exRig.full])) (o1 : PureF Try.prog (.clos 26 [] []) [.agg [.rsl (rowS exRig.seats) 0 exRig.seats.length, .rsl (rowP exRig.feet) 0 exRig.feet.length, .int .i64 exRig.frame, .int .i64 exRig.c.x, .int .i64 exRig.c.y, .int .i64 exRig.c.z, .int .i64 exRig.empty, .int .i64 exRig.full]] (.tup [.int .i64 ((leastP exRig).1), .int .i64 ((leastP exRig).2.1), .int .i64 ((leastP exRig).2.2.1), .int .i64 ((leastP exRig).2.2.2)])) (o2 : PureF Try.prog (.clos 45 [] []) [] (.rsl (rowP exPath) 0 exPath.length)) (o3 : PureF Try.prog (.clos 16 [] []) [.rsl (rowP exPath) 0 exPath.length, .agg [.int .i64 2, .int .i64 1, .int .i64 2], .agg [.int .i64 300, .int .i64 0, .int .i64 2000], .bool false] (.tup [.int .i64 ((fastP exPath (⟨2, 1, 2⟩ : Mot) (⟨300, 0, 2000⟩ : Lim) false).1), .int .i64 ((fastP exPath (⟨2, 1, 2⟩ : Mot) (⟨300, 0, 2000⟩ : Lim) false).2)])) (o4 : ((leastP exRig).2.2.2 == 0) = true) (o5 : ((fastP exPath (⟨2, 1, 2⟩ : Mot) (⟨300, 0, 2000⟩ : Lim) false).2 == 0) = false)
    (hr : AvLe (.bool false) res) : G Try.prog E [.code (bodyAt Try.prog 15)] ⟨[] ++ unds (Try.f15.ntmps - 0), []⟩ :=
  end_stepL (n := 400) (evs := [.v (.agg [.rsl (rowS exRig.seats) 0 exRig.seats.length, .rsl (rowP exRig.feet) 0 exRig.feet.length, .int .i64 exRig.frame, .int .i64 exRig.c.x, .int .i64 exRig.c.y, .int .i64 exRig.c.z, .int .i64 exRig.empty, .int .i64 exRig.full]), .v (.tup [.int .i64 ((leastP exRig).1), .int .i64 ((leastP exRig).2.1), .int .i64 ((leastP exRig).2.2.1), .int .i64 ((leastP exRig).2.2.2)]), .v (.rsl (rowP exPath) 0 exPath.length), .v (.tup [.int .i64 ((fastP exPath (⟨2, 1, 2⟩ : Mot) (⟨300, 0, 2000⟩ : Lim) false).1), .int .i64 ((fastP exPath (⟨2, 1, 2⟩ : Mot) (⟨300, 0, 2000⟩ : Lim) false).2)]), .b true, .b false, .b false, .b false, .b false]) (obs := [PureF Try.prog (.clos 44 [] []) [] (.agg [.rsl (rowS exRig.seats) 0 exRig.seats.length, .rsl (rowP exRig.feet) 0 exRig.feet.length, .int .i64 exRig.frame, .int .i64 exRig.c.x, .int .i64 exRig.c.y, .int .i64 exRig.c.z, .int .i64 exRig.empty, .int .i64 exRig.full]), PureF Try.prog (.clos 26 [] []) [.agg [.rsl (rowS exRig.seats) 0 exRig.seats.length, .rsl (rowP exRig.feet) 0 exRig.feet.length, .int .i64 exRig.frame, .int .i64 exRig.c.x, .int .i64 exRig.c.y, .int .i64 exRig.c.z, .int .i64 exRig.empty, .int .i64 exRig.full]] (.tup [.int .i64 ((leastP exRig).1), .int .i64 ((leastP exRig).2.1), .int .i64 ((leastP exRig).2.2.1), .int .i64 ((leastP exRig).2.2.2)]), PureF Try.prog (.clos 45 [] []) [] (.rsl (rowP exPath) 0 exPath.length), PureF Try.prog (.clos 16 [] []) [.rsl (rowP exPath) 0 exPath.length, .agg [.int .i64 2, .int .i64 1, .int .i64 2], .agg [.int .i64 300, .int .i64 0, .int .i64 2000], .bool false] (.tup [.int .i64 ((fastP exPath (⟨2, 1, 2⟩ : Mot) (⟨300, 0, 2000⟩ : Lim) false).1), .int .i64 ((fastP exPath (⟨2, 1, 2⟩ : Mot) (⟨300, 0, 2000⟩ : Lim) false).2)]), ((leastP exRig).2.2.2 == 0) = true, ((fastP exPath (⟨2, 1, 2⟩ : Mot) (⟨300, 0, 2000⟩ : Lim) false).2 == 0) = false, false = false, false = false, false = false]) hE Try.func15 mixed (by kernel_rfl) ⟨o0, o1, o2, o3, o4, o5, (rfl), (rfl), (rfl), trivial⟩ hr
theorem p15_start_5    {E : Env} {res : AV} (hE : PureE Try.prog 15 res E) (o0 : PureF Try.prog (.clos 44 [] []) [] (.agg [.rsl (rowS exRig.seats) 0 exRig.seats.length, .rsl (rowP exRig.feet) 0 exRig.feet.length, .int .i64 exRig.frame, .int .i64 exRig.c.x, .int .i64 exRig.c.y, .int .i64 exRig.c.z, .int .i64 exRig.empty, .int .i64 exRig.full])) (o1 : PureF Try.prog (.clos 26 [] []) [.agg [.rsl (rowS exRig.seats) 0 exRig.seats.length, .rsl (rowP exRig.feet) 0 exRig.feet.length, .int .i64 exRig.frame, .int .i64 exRig.c.x, .int .i64 exRig.c.y, .int .i64 exRig.c.z, .int .i64 exRig.empty, .int .i64 exRig.full]] (.tup [.int .i64 ((leastP exRig).1), .int .i64 ((leastP exRig).2.1), .int .i64 ((leastP exRig).2.2.1), .int .i64 ((leastP exRig).2.2.2)])) (o2 : PureF Try.prog (.clos 45 [] []) [] (.rsl (rowP exPath) 0 exPath.length)) (o3 : PureF Try.prog (.clos 16 [] []) [.rsl (rowP exPath) 0 exPath.length, .agg [.int .i64 2, .int .i64 1, .int .i64 2], .agg [.int .i64 300, .int .i64 0, .int .i64 2000], .bool false] (.tup [.int .i64 ((fastP exPath (⟨2, 1, 2⟩ : Mot) (⟨300, 0, 2000⟩ : Lim) false).1), .int .i64 ((fastP exPath (⟨2, 1, 2⟩ : Mot) (⟨300, 0, 2000⟩ : Lim) false).2)])) (o4 : ((leastP exRig).2.2.2 == 0) = false)
    (hr : AvLe (.bool false) res) : G Try.prog E [.code (bodyAt Try.prog 15)] ⟨[] ++ unds (Try.f15.ntmps - 0), []⟩ :=
  end_stepL (n := 400) (evs := [.v (.agg [.rsl (rowS exRig.seats) 0 exRig.seats.length, .rsl (rowP exRig.feet) 0 exRig.feet.length, .int .i64 exRig.frame, .int .i64 exRig.c.x, .int .i64 exRig.c.y, .int .i64 exRig.c.z, .int .i64 exRig.empty, .int .i64 exRig.full]), .v (.tup [.int .i64 ((leastP exRig).1), .int .i64 ((leastP exRig).2.1), .int .i64 ((leastP exRig).2.2.1), .int .i64 ((leastP exRig).2.2.2)]), .v (.rsl (rowP exPath) 0 exPath.length), .v (.tup [.int .i64 ((fastP exPath (⟨2, 1, 2⟩ : Mot) (⟨300, 0, 2000⟩ : Lim) false).1), .int .i64 ((fastP exPath (⟨2, 1, 2⟩ : Mot) (⟨300, 0, 2000⟩ : Lim) false).2)]), .b false, .b false, .b false, .b false, .b false]) (obs := [PureF Try.prog (.clos 44 [] []) [] (.agg [.rsl (rowS exRig.seats) 0 exRig.seats.length, .rsl (rowP exRig.feet) 0 exRig.feet.length, .int .i64 exRig.frame, .int .i64 exRig.c.x, .int .i64 exRig.c.y, .int .i64 exRig.c.z, .int .i64 exRig.empty, .int .i64 exRig.full]), PureF Try.prog (.clos 26 [] []) [.agg [.rsl (rowS exRig.seats) 0 exRig.seats.length, .rsl (rowP exRig.feet) 0 exRig.feet.length, .int .i64 exRig.frame, .int .i64 exRig.c.x, .int .i64 exRig.c.y, .int .i64 exRig.c.z, .int .i64 exRig.empty, .int .i64 exRig.full]] (.tup [.int .i64 ((leastP exRig).1), .int .i64 ((leastP exRig).2.1), .int .i64 ((leastP exRig).2.2.1), .int .i64 ((leastP exRig).2.2.2)]), PureF Try.prog (.clos 45 [] []) [] (.rsl (rowP exPath) 0 exPath.length), PureF Try.prog (.clos 16 [] []) [.rsl (rowP exPath) 0 exPath.length, .agg [.int .i64 2, .int .i64 1, .int .i64 2], .agg [.int .i64 300, .int .i64 0, .int .i64 2000], .bool false] (.tup [.int .i64 ((fastP exPath (⟨2, 1, 2⟩ : Mot) (⟨300, 0, 2000⟩ : Lim) false).1), .int .i64 ((fastP exPath (⟨2, 1, 2⟩ : Mot) (⟨300, 0, 2000⟩ : Lim) false).2)]), ((leastP exRig).2.2.2 == 0) = false, false = false, false = false, false = false, false = false]) hE Try.func15 mixed (by kernel_rfl) ⟨o0, o1, o2, o3, o4, (rfl), (rfl), (rfl), (rfl), trivial⟩ hr
theorem f15W  {E : Env} {rv : Bool} (hE : PureE Try.prog 15 (.bool rv) E)
    (h : ((RigSmall exRig) ∧ ((exPath.length ≤ 1000) ∧ (((leastP exRig).2.2.2 = 0 → (((fastP exPath (⟨2, 1, 2⟩ : Mot) (⟨300, 0, 2000⟩ : Lim) false).2 = 0 → (((leastP exRig).1 = 35000 → (((leastP exRig).2.1 = 0 → (((leastP exRig).2.2.1 = 1 → rv = ((fastP exPath (⟨2, 1, 2⟩ : Mot) (⟨300, 0, 2000⟩ : Lim) false).1 == 1)) ∧ (¬ ((leastP exRig).2.2.1 = 1) → rv = false))) ∧ (¬ ((leastP exRig).2.1 = 0) → rv = false))) ∧ (¬ ((leastP exRig).1 = 35000) → rv = false))) ∧ (¬ ((fastP exPath (⟨2, 1, 2⟩ : Mot) (⟨300, 0, 2000⟩ : Lim) false).2 = 0) → rv = false))) ∧ (¬ ((leastP exRig).2.2.2 = 0) → rv = false))))) : G Try.prog E [.code (bodyAt Try.prog 15)] ⟨[] ++ unds (Try.f15.ntmps - 0), []⟩ := by
  obtain ⟨h1, h⟩ := h
  obtain ⟨h2, h⟩ := h
  rcases Bool.eq_false_or_eq_true ((leastP exRig).2.2.2 == 0) with hc0 | hc0
  · have h := h.1 (eq_of_beq hc0)
    rcases Bool.eq_false_or_eq_true ((fastP exPath (⟨2, 1, 2⟩ : Mot) (⟨300, 0, 2000⟩ : Lim) false).2 == 0) with hc1 | hc1
    · have h := h.1 (eq_of_beq hc1)
      rcases Bool.eq_false_or_eq_true ((leastP exRig).1 == 35000) with hc2 | hc2
      · have h := h.1 (eq_of_beq hc2)
        rcases Bool.eq_false_or_eq_true ((leastP exRig).2.1 == 0) with hc3 | hc3
        · have h := h.1 (eq_of_beq hc3)
          rcases Bool.eq_false_or_eq_true ((leastP exRig).2.2.1 == 1) with hc4 | hc4
          · have h := h.1 (eq_of_beq hc4)
            exact p15_start_0     hE (pureF_of Try.func44 (by kernel_rfl) f44b (exRig_ok )) (pureF_of Try.func26 (by kernel_rfl) f26b (least_ok exRig h1)) (pureF_of Try.func45 (by kernel_rfl) f45b (exPath_ok )) (pureF_of Try.func16 (by kernel_rfl) f16b (fastest_ok exPath (⟨2, 1, 2⟩ : Mot) (⟨300, 0, 2000⟩ : Lim) false h2)) hc0 hc1 hc2 hc3 hc4 (AvLe.of_eq (by rw [h]; try rfl))
          · have h := h.2 (ne_of_beq_false hc4)
            exact p15_start_1     hE (pureF_of Try.func44 (by kernel_rfl) f44b (exRig_ok )) (pureF_of Try.func26 (by kernel_rfl) f26b (least_ok exRig h1)) (pureF_of Try.func45 (by kernel_rfl) f45b (exPath_ok )) (pureF_of Try.func16 (by kernel_rfl) f16b (fastest_ok exPath (⟨2, 1, 2⟩ : Mot) (⟨300, 0, 2000⟩ : Lim) false h2)) hc0 hc1 hc2 hc3 hc4 (AvLe.of_eq (by rw [h]; try rfl))
        · have h := h.2 (ne_of_beq_false hc3)
          exact p15_start_2     hE (pureF_of Try.func44 (by kernel_rfl) f44b (exRig_ok )) (pureF_of Try.func26 (by kernel_rfl) f26b (least_ok exRig h1)) (pureF_of Try.func45 (by kernel_rfl) f45b (exPath_ok )) (pureF_of Try.func16 (by kernel_rfl) f16b (fastest_ok exPath (⟨2, 1, 2⟩ : Mot) (⟨300, 0, 2000⟩ : Lim) false h2)) hc0 hc1 hc2 hc3 (AvLe.of_eq (by rw [h]; try rfl))
      · have h := h.2 (ne_of_beq_false hc2)
        exact p15_start_3     hE (pureF_of Try.func44 (by kernel_rfl) f44b (exRig_ok )) (pureF_of Try.func26 (by kernel_rfl) f26b (least_ok exRig h1)) (pureF_of Try.func45 (by kernel_rfl) f45b (exPath_ok )) (pureF_of Try.func16 (by kernel_rfl) f16b (fastest_ok exPath (⟨2, 1, 2⟩ : Mot) (⟨300, 0, 2000⟩ : Lim) false h2)) hc0 hc1 hc2 (AvLe.of_eq (by rw [h]; try rfl))
    · have h := h.2 (ne_of_beq_false hc1)
      exact p15_start_4     hE (pureF_of Try.func44 (by kernel_rfl) f44b (exRig_ok )) (pureF_of Try.func26 (by kernel_rfl) f26b (least_ok exRig h1)) (pureF_of Try.func45 (by kernel_rfl) f45b (exPath_ok )) (pureF_of Try.func16 (by kernel_rfl) f16b (fastest_ok exPath (⟨2, 1, 2⟩ : Mot) (⟨300, 0, 2000⟩ : Lim) false h2)) hc0 hc1 (AvLe.of_eq (by rw [h]; try rfl))
  · have h := h.2 (ne_of_beq_false hc0)
    exact p15_start_5     hE (pureF_of Try.func44 (by kernel_rfl) f44b (exRig_ok )) (pureF_of Try.func26 (by kernel_rfl) f26b (least_ok exRig h1)) (pureF_of Try.func45 (by kernel_rfl) f45b (exPath_ok )) (pureF_of Try.func16 (by kernel_rfl) f16b (fastest_ok exPath (⟨2, 1, 2⟩ : Mot) (⟨300, 0, 2000⟩ : Lim) false h2)) hc0 (AvLe.of_eq (by rw [h]; try rfl))

theorem works_ok : Pure Try.prog 15 [] (.bool true) := pure_of Try.func15 f15b fun E hE => by
  refine f15W (rv := true) hE ?_
  rw [ex_least, ex_fast]
  exact ⟨exRig_small, by decide, by simp⟩

end Go.Proofs.Ytideokfbnegkjaa

namespace Go.Proofs.Ytideokfbnegkjaa
open Go Ax
open Go.Proofs

theorem ownT : ownKnob Try.prog.godebug = none := by kernel_rfl
theorem laidT : laidOutB Try.prog = true := by kernel_rfl

theorem dPt (W : World) : Dec Try.prog W 38 Pt cP (fun a => True) := by
  refine Dec.map (dec_struct Try.underlying38 rfl (tot := 3) (by kernel_rfl) (decFs_cons (n := 1) (tot := 3) (by kernel_rfl) rfl (dec_i64 Try.underlying3) (decFs_cons (n := 1) (tot := 3) (by kernel_rfl) rfl (dec_i64 Try.underlying3) (decFs_cons (n := 1) (tot := 3) (by kernel_rfl) rfl (dec_i64 Try.underlying3) decFs_nil (by decide)) (by decide)) (by decide))) (fun x => (⟨x.1, x.2.1, x.2.2.1⟩ : Pt)) ?_ ?_
  · exact fun _ => rfl
  · exact fun _ _ => trivial
theorem dPts (W : World) : Dec Try.prog W 22 (List Pt) (fun a => [.rsl (rowP a) 0 a.length]) (fun a => a.length ≤ 9223372036854775807) := by
  refine Dec.map (dec_slice Try.underlying22 (n := 3) (by kernel_rfl) (by decide) (fun _ => rfl) (fun _ => rfl) (dPt W)) (fun x => x) ?_ ?_
  · exact fun _ => rfl
  · exact fun _ h => h.1
end Go.Proofs.Ytideokfbnegkjaa

namespace Go.Proofs.Ytideokfbnegkjaa
open Go Ax
open Go.Proofs

theorem within_iff {n a b : Int} : within n a b = true ↔ a ≤ n ∧ n ≤ b := by simp [within]
theorem checkP_eq (l : List Pt) : checkP l = bif validP l then 0 else 30 := by
  unfold checkP validP
  cases within (l.length : Int) 3 60 <;> cases l.any (fun p => !spanned p) <;> rfl
theorem checkP_zero {l : List Pt} : checkP l = 0 ↔ validP l = true := by rw [checkP_eq]; cases validP l <;> simp

end Go.Proofs.Ytideokfbnegkjaa

namespace Go.Proofs.Ytideokfbnegkjaa
open Go Ax
open Go.Proofs

/-! ### the plain law of Slower -/
end Go.Proofs.Ytideokfbnegkjaa

namespace Ax
open Go

theorem row_rep {α : Type} (f : α → List AV) (n : Nat) (a : α) : (List.replicate n (f a)).flatten = (List.replicate n a).flatMap f := by
  induction n with
  | zero => rfl
  | succ n ih => rw [List.replicate_succ, List.flatten_cons, ih, List.replicate_succ, List.flatMap_cons]

theorem row_all {α : Type} (f : α → List AV) {s : Nat} (hf : ∀ a, (f a).length = s) (l : List α) : ((l.flatMap f).drop 0).take (l.length * s) = l.flatMap f := by
  rw [List.drop_zero, List.take_of_length_le (by rw [row_len f hf]; exact Nat.le_refl _)]

theorem noRefs_app : ∀ {a b : List AV}, noRefs (a ++ b) = (noRefs a && noRefs b)
  | [], b => by simp [noRefs]
  | x :: a, b => by simp [noRefs, noRefs_app, Bool.and_assoc]

theorem row_nr {α : Type} (f : α → List AV) (hf : ∀ a, noRefs (f a) = true) : ∀ l : List α, noRefs (l.flatMap f) = true
  | [] => rfl
  | a :: l => by rw [List.flatMap_cons, noRefs_app, hf, row_nr f hf l]; rfl

end Ax

namespace Go.Proofs.Ytideokfbnegkjaa
open Go Ax
open Go.Proofs

/-! ### runs -/
end Go.Proofs.Ytideokfbnegkjaa

namespace Go.Proofs.Ytideokfbnegkjaa
open Go Ax
open Go.Proofs

/-! ### the plain law of Envelope -/
end Go.Proofs.Ytideokfbnegkjaa

namespace Go.Proofs.Ytideokfbnegkjaa
open Go Ax
open Go.Proofs

theorem f22b : Try.f22.body = some (bodyAt Try.prog 22) := by kernel_rfl
def f22K0 (P : Program) : List Item := kAt 400 [.code (bodyAt P 22)] [.b false, .stop]
def f22S0 (r : Rg) (i : Nat)  : St := ⟨[.junk, .ptr 0 0 0, .junk, .int .i64 ((i : Nat) : Int), .junk, .junk, .junk, .junk, .junk, .junk, .junk, .junk, .junk, .junk, .junk, .junk, .junk, .junk, .junk, .junk, .junk, .junk, .junk, .junk, .junk, .junk, .junk, .junk], [⟨true, 0, 1, true, [.rsl (rowS r.seats) 0 r.seats.length, .rsl (rowP r.feet) 0 r.feet.length, .int .i64 r.frame, .int .i64 r.c.x, .int .i64 r.c.y, .int .i64 r.c.z, .int .i64 r.empty, .int .i64 r.full], false⟩]⟩
def f22G0 (E : Env) (r : Rg) (i : Nat) : Prop := G Try.prog E (f22K0 Try.prog) (f22S0 r i )
theorem p22_start_0 (r : Rg)   {E : Env} {res : AV} (hE : PureE Try.prog 22 res E) (o0 : (decide (((r.seats.length : Nat) : Int) > 25)) = true)
    (hr : AvLe (.bool true) res) : G Try.prog E [.code (bodyAt Try.prog 22)] ⟨[.agg [.rsl (rowS r.seats) 0 r.seats.length, .rsl (rowP r.feet) 0 r.feet.length, .int .i64 r.frame, .int .i64 r.c.x, .int .i64 r.c.y, .int .i64 r.c.z, .int .i64 r.empty, .int .i64 r.full]] ++ unds (Try.f22.ntmps - 1), []⟩ :=
  end_stepL (n := 400) (evs := [.b true, .b true]) (obs := [(decide (((r.seats.length : Nat) : Int) > 25)) = true, true = true]) hE Try.func22 mixed (by kernel_rfl) ⟨o0, (rfl), trivial⟩ hr
theorem p22_start_1 (r : Rg)   {E : Env} {res : AV} (hE : PureE Try.prog 22 res E) (o0 : (decide (((r.seats.length : Nat) : Int) > 25)) = false) (o1 : (decide (((r.feet.length : Nat) : Int) > 12)) = true)
    (hr : AvLe (.bool true) res) : G Try.prog E [.code (bodyAt Try.prog 22)] ⟨[.agg [.rsl (rowS r.seats) 0 r.seats.length, .rsl (rowP r.feet) 0 r.feet.length, .int .i64 r.frame, .int .i64 r.c.x, .int .i64 r.c.y, .int .i64 r.c.z, .int .i64 r.empty, .int .i64 r.full]] ++ unds (Try.f22.ntmps - 1), []⟩ :=
  end_stepL (n := 400) (evs := [.b false, .b true]) (obs := [(decide (((r.seats.length : Nat) : Int) > 25)) = false, (decide (((r.feet.length : Nat) : Int) > 12)) = true]) hE Try.func22 mixed (by kernel_rfl) ⟨o0, o1, trivial⟩ hr
theorem p22_start_2 (r : Rg)   {E : Env} {rv : AV} (hE : PureE Try.prog 22 rv E) (o0 : (decide (((r.seats.length : Nat) : Int) > 25)) = false) (o1 : (decide (((r.feet.length : Nat) : Int) > 12)) = false)
    (hg : G Try.prog E (f22K0 Try.prog) ⟨[.junk, .ptr 0 0 0, .junk, .int .i64 0, .junk, .junk, .junk, .junk, .junk, .junk, .junk, .junk, .junk, .junk, .junk, .junk, .junk, .junk, .junk, .junk, .junk, .junk, .junk, .junk, .junk, .junk, .junk, .junk], [⟨true, 0, 1, true, [.rsl (rowS r.seats) 0 r.seats.length, .rsl (rowP r.feet) 0 r.feet.length, .int .i64 r.frame, .int .i64 r.c.x, .int .i64 r.c.y, .int .i64 r.c.z, .int .i64 r.empty, .int .i64 r.full], false⟩]⟩) : G Try.prog E [.code (bodyAt Try.prog 22)] ⟨[.agg [.rsl (rowS r.seats) 0 r.seats.length, .rsl (rowP r.feet) 0 r.feet.length, .int .i64 r.frame, .int .i64 r.c.x, .int .i64 r.c.y, .int .i64 r.c.z, .int .i64 r.empty, .int .i64 r.full]] ++ unds (Try.f22.ntmps - 1), []⟩ :=
  segC_step (n := 400) (ds := []) (cs := []) (live := [1, 3]) (m := 1) (evs := [.b false, .b false, .stop]) (obs := [(decide (((r.seats.length : Nat) : Int) > 25)) = false, (decide (((r.feet.length : Nat) : Int) > 12)) = false]) hE.2.1 (hE.nogh _) mixed (by kernel_rfl) ⟨o0, o1, trivial⟩ hg
theorem f22W (r : Rg) {E : Env} {rv : Bool} (hE : PureE Try.prog 22 (.bool rv) E)
    (h : ((((r.seats.length : Nat) : Int) > 25 → rv = true) ∧ (¬ (((r.seats.length : Nat) : Int) > 25) → ((((r.feet.length : Nat) : Int) > 12 → rv = true) ∧ (¬ (((r.feet.length : Nat) : Int) > 12) → f22G0 E r 0))))) : G Try.prog E [.code (bodyAt Try.prog 22)] ⟨[.agg [.rsl (rowS r.seats) 0 r.seats.length, .rsl (rowP r.feet) 0 r.feet.length, .int .i64 r.frame, .int .i64 r.c.x, .int .i64 r.c.y, .int .i64 r.c.z, .int .i64 r.empty, .int .i64 r.full]] ++ unds (Try.f22.ntmps - 1), []⟩ := by
  rcases Bool.eq_false_or_eq_true (decide (((r.seats.length : Nat) : Int) > 25)) with hc0 | hc0
  · have h := h.1 (of_decide_eq_true hc0)
    exact p22_start_0 r    hE hc0 (AvLe.of_eq (by rw [h]; try rfl))
  · have h := h.2 (of_decide_eq_false hc0)
    rcases Bool.eq_false_or_eq_true (decide (((r.feet.length : Nat) : Int) > 12)) with hc1 | hc1
    · have h := h.1 (of_decide_eq_true hc1)
      exact p22_start_1 r    hE hc0 hc1 (AvLe.of_eq (by rw [h]; try rfl))
    · have h := h.2 (of_decide_eq_false hc1)
      exact p22_start_2 r    hE hc0 hc1 h
theorem p22_0_0 (r : Rg) (i : Nat)  (le : (List Pt))  {E : Env} {res : AV} (hE : PureE Try.prog 22 res E) (o0 : (decide (((i : Nat) : Int) < ((r.seats.length : Nat) : Int))) = true) (o2 : 0 ≤ ((i : Nat) : Int) ∧ ((i : Nat) : Int) < ((r.seats.length : Nat) : Int)) (o3 : ((rowS r.seats).drop (0 + (Int.toNat ((i : Nat) : Int)) * 1)).take 1 = [.rsl (rowP le) 0 le.length]) (o4 : (decide (((le.length : Nat) : Int) > 70)) = true)
    (hr : AvLe (.bool true) res) : G Try.prog E (f22K0 Try.prog) (f22S0 r i ) :=
  end_stepL (n := 400) (evs := [.b true, .auto, .ld (.rsl (rowP le) 0 le.length), .b true]) (obs := [(decide (((i : Nat) : Int) < ((r.seats.length : Nat) : Int))) = true, 0 ≤ ((i : Nat) : Int) ∧ ((i : Nat) : Int) < ((r.seats.length : Nat) : Int), ((rowS r.seats).drop (0 + (Int.toNat ((i : Nat) : Int)) * 1)).take 1 = [.rsl (rowP le) 0 le.length], (decide (((le.length : Nat) : Int) > 70)) = true]) hE Try.func22 mixed (by kernel_rfl) ⟨o0, o2, o3, o4, trivial⟩ hr
theorem p22_0_1 (r : Rg) (i : Nat)  (le : (List Pt))  {E : Env} {rv : AV} (hE : PureE Try.prog 22 rv E) (o0 : (decide (((i : Nat) : Int) < ((r.seats.length : Nat) : Int))) = true) (o2 : 0 ≤ ((i : Nat) : Int) ∧ ((i : Nat) : Int) < ((r.seats.length : Nat) : Int)) (o3 : ((rowS r.seats).drop (0 + (Int.toNat ((i : Nat) : Int)) * 1)).take 1 = [.rsl (rowP le) 0 le.length]) (o4 : (decide (((le.length : Nat) : Int) > 70)) = false) (o5 : InR .i64 (((i : Nat) : Int) + 1))
    (hg : G Try.prog E (f22K0 Try.prog) ⟨[.junk, .ptr 0 0 0, .junk, .int .i64 (((i : Nat) : Int) + 1), .junk, .junk, .junk, .junk, .junk, .junk, .junk, .junk, .junk, .junk, .junk, .junk, .junk, .junk, .junk, .junk, .junk, .junk, .junk, .junk, .junk, .junk, .junk, .junk], [⟨true, 0, 1, true, [.rsl (rowS r.seats) 0 r.seats.length, .rsl (rowP r.feet) 0 r.feet.length, .int .i64 r.frame, .int .i64 r.c.x, .int .i64 r.c.y, .int .i64 r.c.z, .int .i64 r.empty, .int .i64 r.full], false⟩]⟩) : G Try.prog E (f22K0 Try.prog) (f22S0 r i ) :=
  segC_step (n := 400) (ds := []) (cs := []) (live := [1, 3]) (m := 1) (evs := [.b true, .auto, .ld (.rsl (rowP le) 0 le.length), .b false, .stop]) (obs := [(decide (((i : Nat) : Int) < ((r.seats.length : Nat) : Int))) = true, 0 ≤ ((i : Nat) : Int) ∧ ((i : Nat) : Int) < ((r.seats.length : Nat) : Int), ((rowS r.seats).drop (0 + (Int.toNat ((i : Nat) : Int)) * 1)).take 1 = [.rsl (rowP le) 0 le.length], (decide (((le.length : Nat) : Int) > 70)) = false, InR .i64 (((i : Nat) : Int) + 1)]) hE.2.1 (hE.nogh _) mixed (by kernel_rfl) ⟨o0, o2, o3, o4, o5, trivial⟩ hg
theorem p22_0_2 (r : Rg) (i : Nat)   {E : Env} {res : AV} (hE : PureE Try.prog 22 res E) (o0 : (decide (((i : Nat) : Int) < ((r.seats.length : Nat) : Int))) = false)
    (hr : AvLe (.bool false) res) : G Try.prog E (f22K0 Try.prog) (f22S0 r i ) :=
  end_stepL (n := 400) (evs := [.b false]) (obs := [(decide (((i : Nat) : Int) < ((r.seats.length : Nat) : Int))) = false]) hE Try.func22 mixed (by kernel_rfl) ⟨o0, trivial⟩ hr
theorem f22W0 (r : Rg) (i : Nat) {E : Env} {rv : Bool} (hE : PureE Try.prog 22 (.bool rv) E)
    (h : ((((i : Nat) : Int) < ((r.seats.length : Nat) : Int) → (∃ le : (List Pt), r.seats[i]? = some le ∧ ((((le.length : Nat) : Int) > 70 → rv = true) ∧ (¬ (((le.length : Nat) : Int) > 70) → ((-9223372036854775808 ≤ ((i : Nat) : Int) + 1 ∧ ((i : Nat) : Int) + 1 ≤ 9223372036854775807) ∧ f22G0 E r (i + 1)))))) ∧ (¬ (((i : Nat) : Int) < ((r.seats.length : Nat) : Int)) → rv = false))) : f22G0 E r i := by
  rcases Bool.eq_false_or_eq_true (decide (((i : Nat) : Int) < ((r.seats.length : Nat) : Int))) with hc0 | hc0
  · have h := h.1 (of_decide_eq_true hc0)
    obtain ⟨le, h1, h⟩ := h
    rcases Bool.eq_false_or_eq_true (decide (((le.length : Nat) : Int) > 70)) with hc1 | hc1
    · have h := h.1 (of_decide_eq_true hc1)
      exact p22_0_0 r i  le hE hc0 (idx_ok h1) (row_part (fun s : List Pt => [AV.rsl (rowP s) 0 s.length]) (s := 1) (k := 0) (m := 1) (fun _ => rfl) (by decide) h1) hc1 (AvLe.of_eq (by rw [h]; try rfl))
    · have h := h.2 (of_decide_eq_false hc1)
      obtain ⟨q5_2, h⟩ := h
      exact p22_0_1 r i  le hE hc0 (idx_ok h1) (row_part (fun s : List Pt => [AV.rsl (rowP s) 0 s.length]) (s := 1) (k := 0) (m := 1) (fun _ => rfl) (by decide) h1) hc1 q5_2 h
  · have h := h.2 (of_decide_eq_false hc0)
    exact p22_0_2 r i   hE hc0 (AvLe.of_eq (by rw [h]; try rfl))
theorem f24b : Try.f24.body = some (bodyAt Try.prog 24) := by kernel_rfl
def f24K0 (P : Program) : List Item := kAt 400 [.code (bodyAt P 24)] [.stop]
def f24S0 (r : Rg) (i : Nat) (v4 : List (List Pt)) (g4 : Nat) : St := ⟨[.junk, .ptr 0 0 0, .ptr 1 0 0, .ptr 2 0 0, .int .i64 ((i : Nat) : Int), .junk, .junk, .junk, .junk, .junk, .junk, .junk, .junk, .junk, .junk, .junk, .junk, .junk, .junk, .junk, .junk, .junk, .junk, .junk, .junk, .junk, .junk, .junk, .junk, .junk, .junk, .junk], [⟨true, 0, 1, true, [.rsl (rowS r.seats) 0 r.seats.length, .rsl (rowP r.feet) 0 r.feet.length, .int .i64 r.frame, .int .i64 r.c.x, .int .i64 r.c.y, .int .i64 r.c.z, .int .i64 r.empty, .int .i64 r.full], false⟩, ⟨true, 0, 1, true, [.nilSl, .nilSl, .int .i64 0, .int .i64 0, .int .i64 0, .int .i64 0, .int .i64 0, .int .i64 0], false⟩, ⟨true, 0, 1, false, [.sl 4 g4 0 v4.length 1, .rsl (rowP r.feet) 0 (0 + r.feet.length), .int .i64 r.frame, .int .i64 r.c.x, .int .i64 r.c.y, .int .i64 r.c.z, .int .i64 r.empty, .int .i64 r.full], false⟩, ⟨false, 2, 3, true, [], false⟩, ⟨true, g4, 1, true, (rowS v4), true⟩]⟩
def f24G0 (E : Env) (r : Rg) (i : Nat) (v4 : List (List Pt)) : Prop := ∀ g4 : Nat, G Try.prog E (f24K0 Try.prog) (f24S0 r i v4 g4)
theorem p24_start_0 (r : Rg)   {E : Env} {rv : AV} (hE : PureE Try.prog 24 rv E) (o4 : (0 + r.feet.length) ≤ 2147483648) (o5 : ((rowP r.feet).drop 0).take (r.feet.length * 3) = (rowP r.feet)) (o6 : (rowP r.feet).length = (r.feet.length * 3)) (o7 : noRefs (rowP r.feet) = true)
    (hg : G Try.prog E (f24K0 Try.prog) ⟨[.junk, .ptr 0 0 0, .ptr 1 0 0, .ptr 2 0 0, .int .i64 0, .junk, .junk, .junk, .junk, .junk, .junk, .junk, .junk, .junk, .junk, .junk, .junk, .junk, .junk, .junk, .junk, .junk, .junk, .junk, .junk, .junk, .junk, .junk, .junk, .junk, .junk, .junk], [⟨true, 0, 1, true, [.rsl (rowS r.seats) 0 r.seats.length, .rsl (rowP r.feet) 0 r.feet.length, .int .i64 r.frame, .int .i64 r.c.x, .int .i64 r.c.y, .int .i64 r.c.z, .int .i64 r.empty, .int .i64 r.full], false⟩, ⟨true, 0, 1, true, [.nilSl, .nilSl, .int .i64 0, .int .i64 0, .int .i64 0, .int .i64 0, .int .i64 0, .int .i64 0], false⟩, ⟨true, 0, 1, false, [.sl 4 0 0 0 1, .rsl (rowP r.feet) 0 (0 + r.feet.length), .int .i64 r.frame, .int .i64 r.c.x, .int .i64 r.c.y, .int .i64 r.c.z, .int .i64 r.empty, .int .i64 r.full], false⟩, ⟨false, 2, 3, true, [], false⟩, ⟨true, 0, 1, true, [], true⟩]⟩) : G Try.prog E [.code (bodyAt Try.prog 24)] ⟨[.agg [.rsl (rowS r.seats) 0 r.seats.length, .rsl (rowP r.feet) 0 r.feet.length, .int .i64 r.frame, .int .i64 r.c.x, .int .i64 r.c.y, .int .i64 r.c.z, .int .i64 r.empty, .int .i64 r.full]] ++ unds (Try.f24.ntmps - 1), []⟩ :=
  segC_step (n := 400) (ds := []) (cs := [(2, 0, 1)]) (live := [1, 2, 3, 4]) (m := 5) (evs := [.fz, .cs (rowP r.feet), .stop]) (obs := [8 ≤ 8, 1 = 1, 0 = 0, 0 = 0, (0 + r.feet.length) ≤ 2147483648, ((rowP r.feet).drop 0).take (r.feet.length * 3) = (rowP r.feet), (rowP r.feet).length = (r.feet.length * 3), noRefs (rowP r.feet) = true, 2 ≤ 8, 1 ≤ 8]) hE.2.1 (hE.nogh _) mixed (by kernel_rfl) ⟨(by decide), (rfl), (rfl), (rfl), o4, o5, o6, o7, (by decide), (by decide), trivial⟩ hg
theorem f24W (r : Rg) {E : Env} {rv : Rg} (hE : PureE Try.prog 24 (.agg [.rsl (rowS rv.seats) 0 rv.seats.length, .rsl (rowP rv.feet) 0 rv.feet.length, .int .i64 rv.frame, .int .i64 rv.c.x, .int .i64 rv.c.y, .int .i64 rv.c.z, .int .i64 rv.empty, .int .i64 rv.full]) E)
    (h : ((0 + r.feet.length) ≤ 2147483648 ∧ f24G0 E r 0 ([]))) : G Try.prog E [.code (bodyAt Try.prog 24)] ⟨[.agg [.rsl (rowS r.seats) 0 r.seats.length, .rsl (rowP r.feet) 0 r.feet.length, .int .i64 r.frame, .int .i64 r.c.x, .int .i64 r.c.y, .int .i64 r.c.z, .int .i64 r.empty, .int .i64 r.full]] ++ unds (Try.f24.ntmps - 1), []⟩ := by
  obtain ⟨h1, h⟩ := h
  exact p24_start_0 r    hE h1 (by exact row_all cP (fun _ => rfl) r.feet) (by exact row_len cP (fun _ => rfl) r.feet) (by exact row_nr cP (fun _ => rfl) r.feet) (h 0)
theorem p24_0_0 (r : Rg) (i : Nat) (v4 : List (List Pt)) (g4 : Nat) (le : (List Pt))  {E : Env} {rv : AV} (hE : PureE Try.prog 24 rv E) (o0 : (decide (((i : Nat) : Int) < ((r.seats.length : Nat) : Int))) = true) (o2 : 0 ≤ ((i : Nat) : Int) ∧ ((i : Nat) : Int) < ((r.seats.length : Nat) : Int)) (o3 : ((rowS r.seats).drop (0 + (Int.toNat ((i : Nat) : Int)) * 1)).take 1 = [.rsl (rowP le) 0 le.length]) (o7 : (0 + le.length) ≤ 2147483648) (o8 : ((rowP le).drop 0).take (le.length * 3) = (rowP le)) (o9 : (rowP le).length = (le.length * 3)) (o10 : noRefs (rowP le) = true) (o12 : (0 + (v4.length * 1)) = (rowS v4).length) (o13 : (v4.length + 1) ≤ 2147483648) (o16 : InR .i64 (((i : Nat) : Int) + 1))
    (hg : G Try.prog E (f24K0 Try.prog) ⟨[.junk, .ptr 0 0 0, .ptr 1 0 0, .ptr 2 0 0, .int .i64 (((i : Nat) : Int) + 1), .junk, .junk, .junk, .junk, .junk, .junk, .junk, .junk, .junk, .junk, .junk, .junk, .junk, .junk, .junk, .junk, .junk, .junk, .junk, .junk, .junk, .junk, .junk, .junk, .junk, .junk, .junk], [⟨true, 0, 1, true, [.rsl (rowS r.seats) 0 r.seats.length, .rsl (rowP r.feet) 0 r.feet.length, .int .i64 r.frame, .int .i64 r.c.x, .int .i64 r.c.y, .int .i64 r.c.z, .int .i64 r.empty, .int .i64 r.full], false⟩, ⟨true, 0, 1, true, [.nilSl, .nilSl, .int .i64 0, .int .i64 0, .int .i64 0, .int .i64 0, .int .i64 0, .int .i64 0], false⟩, ⟨true, 0, 1, false, [.sl 4 (g4 + 1) 0 (v4.length + 1) 1, .rsl (rowP r.feet) 0 (0 + r.feet.length), .int .i64 r.frame, .int .i64 r.c.x, .int .i64 r.c.y, .int .i64 r.c.z, .int .i64 r.empty, .int .i64 r.full], false⟩, ⟨false, 2, 3, true, [], false⟩, ⟨true, (g4 + 1), 1, true, ((rowS v4) ++ [.rsl (rowP le) 0 (0 + le.length)]), true⟩]⟩) : G Try.prog E (f24K0 Try.prog) (f24S0 r i v4 g4) :=
  segC_step (n := 400) (ds := []) (cs := []) (live := [1, 2, 3, 4]) (m := 5) (evs := [.b true, .auto, .auto, .ld (.rsl (rowP le) 0 le.length), .fz, .cs (rowP le), .stop]) (obs := [(decide (((i : Nat) : Int) < ((r.seats.length : Nat) : Int))) = true, 0 ≤ ((i : Nat) : Int) ∧ ((i : Nat) : Int) < ((r.seats.length : Nat) : Int), ((rowS r.seats).drop (0 + (Int.toNat ((i : Nat) : Int)) * 1)).take 1 = [.rsl (rowP le) 0 le.length], 1 = 1, 0 = 0, 0 = 0, (0 + le.length) ≤ 2147483648, ((rowP le).drop 0).take (le.length * 3) = (rowP le), (rowP le).length = (le.length * 3), noRefs (rowP le) = true, g4 = g4, (0 + (v4.length * 1)) = (rowS v4).length, (v4.length + 1) ≤ 2147483648, 0 = 0, 1 ≤ 8, InR .i64 (((i : Nat) : Int) + 1)]) hE.2.1 (hE.nogh _) mixed (by kernel_rfl) ⟨o0, o2, o3, (rfl), (rfl), (rfl), o7, o8, o9, o10, (rfl), o12, o13, (rfl), (by decide), o16, trivial⟩ hg
theorem p24_0_1 (r : Rg) (i : Nat) (v4 : List (List Pt)) (g4 : Nat)  {E : Env} {res : AV} (hE : PureE Try.prog 24 res E) (o0 : (decide (((i : Nat) : Int) < ((r.seats.length : Nat) : Int))) = false)
    (hr : AvLe (.agg [.rsl (rowS v4) 0 v4.length, .rsl (rowP r.feet) 0 (0 + r.feet.length), .int .i64 r.frame, .int .i64 r.c.x, .int .i64 r.c.y, .int .i64 r.c.z, .int .i64 r.empty, .int .i64 r.full]) res) : G Try.prog E (f24K0 Try.prog) (f24S0 r i v4 g4) :=
  end_stepL (n := 400) (evs := [.b false]) (obs := [(decide (((i : Nat) : Int) < ((r.seats.length : Nat) : Int))) = false, 8 ≤ 8, g4 = g4]) hE Try.func24 mixed (by kernel_rfl) ⟨o0, (by decide), (rfl), trivial⟩ hr
theorem f24W0 (r : Rg) (i : Nat) (v4 : List (List Pt)) {E : Env} {rv : Rg} (hE : PureE Try.prog 24 (.agg [.rsl (rowS rv.seats) 0 rv.seats.length, .rsl (rowP rv.feet) 0 rv.feet.length, .int .i64 rv.frame, .int .i64 rv.c.x, .int .i64 rv.c.y, .int .i64 rv.c.z, .int .i64 rv.empty, .int .i64 rv.full]) E)
    (h : ((((i : Nat) : Int) < ((r.seats.length : Nat) : Int) → (∃ le : (List Pt), r.seats[i]? = some le ∧ ((0 + le.length) ≤ 2147483648 ∧ ((v4.length + 1) ≤ 2147483648 ∧ ((-9223372036854775808 ≤ ((i : Nat) : Int) + 1 ∧ ((i : Nat) : Int) + 1 ≤ 9223372036854775807) ∧ f24G0 E r (i + 1) (v4 ++ [le])))))) ∧ (¬ (((i : Nat) : Int) < ((r.seats.length : Nat) : Int)) → rv = (⟨v4, r.feet, r.frame, r.c, r.empty, r.full⟩ : Rg)))) : f24G0 E r i v4 := by
  intro g4
  rcases Bool.eq_false_or_eq_true (decide (((i : Nat) : Int) < ((r.seats.length : Nat) : Int))) with hc0 | hc0
  · have h := h.1 (of_decide_eq_true hc0)
    obtain ⟨le, h1, h⟩ := h
    obtain ⟨h2, h⟩ := h
    obtain ⟨h3, h⟩ := h
    obtain ⟨q16_1, h⟩ := h
    refine p24_0_0 r i v4 g4 le hE hc0 (idx_ok h1) (row_part (fun s : List Pt => [AV.rsl (rowP s) 0 s.length]) (s := 1) (k := 0) (m := 1) (fun _ => rfl) (by decide) h1) h2 (by exact row_all cP (fun _ => rfl) le) (by exact row_len cP (fun _ => rfl) le) (by exact row_nr cP (fun _ => rfl) le) (by have hx := row_len (fun s : List Pt => [AV.rsl (rowP s) 0 s.length]) (s := 1) (fun _ => rfl) v4; simp only [rowS] at hx ⊢; rw [hx]; simp) h3 q16_1 ?_
    rw [(show rowS v4 ++ [.rsl (rowP le) 0 (0 + le.length)] = rowS (v4 ++ [le]) from (by rw [(show AV.rsl (rowP le) 0 (0 + le.length) = AV.rsl (rowP le) 0 le.length from by rw [show (0 + le.length) = le.length from by simp])]; exact (row_app (fun s : List Pt => [AV.rsl (rowP s) 0 s.length]) v4 [le]).symm))]; rw [(show (v4.length + 1) = (v4 ++ [le]).length from by simp)]; exact (h (g4 + 1))
  · have h := h.2 (of_decide_eq_false hc0)
    exact p24_0_1 r i v4 g4  hE hc0 (AvLe.of_eq (by rw [h]; rw [(show AV.rsl (rowP r.feet) 0 (0 + r.feet.length) = AV.rsl (rowP r.feet) 0 r.feet.length from by rw [show (0 + r.feet.length) = r.feet.length from by simp])]; try rfl))
theorem f58b : Try.f58.body = some (bodyAt Try.prog 58) := by kernel_rfl
theorem p58_start_0 (i : Int) (a : Int) (bs : List Bool)  (eb : Bool)  {E : Env} {res : AV} (hE : PureE Try.prog 58 res E) (o1 : 0 ≤ i ∧ i < ((bs.length : Nat) : Int)) (o2 : ((rowB bs).drop (0 + (Int.toNat i) * 1)).take 1 = [.bool eb])
    (hr : AvLe (.bool eb) res) : G Try.prog E [.code (bodyAt Try.prog 58)] ⟨[.int .i64 i, .int .i64 a, .rptr [.rsl (rowB bs) 0 bs.length] 0] ++ unds (Try.f58.ntmps - 3), []⟩ :=
  end_stepL (n := 400) (evs := [.auto, .ld (.bool eb)]) (obs := [0 ≤ i ∧ i < ((bs.length : Nat) : Int), ((rowB bs).drop (0 + (Int.toNat i) * 1)).take 1 = [.bool eb]]) hE Try.func58 mixed (by kernel_rfl) ⟨o1, o2, trivial⟩ hr
theorem f58W (i : Int) (a : Int) (bs : List Bool) {E : Env} {rv : Bool} (hE : PureE Try.prog 58 (.bool rv) E)
    (h : (0 ≤ i ∧ (∃ eb : Bool, bs[Int.toNat i]? = some eb ∧ rv = eb))) : G Try.prog E [.code (bodyAt Try.prog 58)] ⟨[.int .i64 i, .int .i64 a, .rptr [.rsl (rowB bs) 0 bs.length] 0] ++ unds (Try.f58.ntmps - 3), []⟩ := by
  obtain ⟨h2, h⟩ := h
  obtain ⟨eb, h1, h⟩ := h
  exact p58_start_0 i a bs   eb hE (idx_ok' h2 h1) (row_part cB (s := 1) (k := 0) (m := 1) (fun _ => rfl) (by decide) h1) (AvLe.of_eq (by rw [h]; try rfl))
theorem f66b : Try.f66.body = some (bodyAt Try.prog 66) := by kernel_rfl
theorem p66_start_0 (a : Pt) (b : Pt) (p : Pt)   {E : Env} {res : AV} (hE : PureE Try.prog 66 res E) (o0 : InR .i64 (b.x - a.x)) (o1 : InR .i64 (p.y - a.y)) (o2 : InR .i64 ((b.x - a.x) * (p.y - a.y))) (o3 : InR .i64 (b.y - a.y)) (o4 : InR .i64 (p.x - a.x)) (o5 : InR .i64 ((b.y - a.y) * (p.x - a.x))) (o6 : InR .i64 (((b.x - a.x) * (p.y - a.y)) - ((b.y - a.y) * (p.x - a.x))))
    (hr : AvLe (.int .i64 (((b.x - a.x) * (p.y - a.y)) - ((b.y - a.y) * (p.x - a.x)))) res) : G Try.prog E [.code (bodyAt Try.prog 66)] ⟨[.agg [.int .i64 a.x, .int .i64 a.y, .int .i64 a.z], .agg [.int .i64 b.x, .int .i64 b.y, .int .i64 b.z], .agg [.int .i64 p.x, .int .i64 p.y, .int .i64 p.z]] ++ unds (Try.f66.ntmps - 3), []⟩ :=
  end_stepL (n := 400) (evs := []) (obs := [InR .i64 (b.x - a.x), InR .i64 (p.y - a.y), InR .i64 ((b.x - a.x) * (p.y - a.y)), InR .i64 (b.y - a.y), InR .i64 (p.x - a.x), InR .i64 ((b.y - a.y) * (p.x - a.x)), InR .i64 (((b.x - a.x) * (p.y - a.y)) - ((b.y - a.y) * (p.x - a.x)))]) hE Try.func66 mixed (by kernel_rfl) ⟨o0, o1, o2, o3, o4, o5, o6, trivial⟩ hr
theorem f66W (a : Pt) (b : Pt) (p : Pt) {E : Env} {rv : Int} (hE : PureE Try.prog 66 (.int .i64 rv) E)
    (h : ((-9223372036854775808 ≤ b.x - a.x ∧ b.x - a.x ≤ 9223372036854775807) ∧ ((-9223372036854775808 ≤ p.y - a.y ∧ p.y - a.y ≤ 9223372036854775807) ∧ ((-9223372036854775808 ≤ (b.x - a.x) * (p.y - a.y) ∧ (b.x - a.x) * (p.y - a.y) ≤ 9223372036854775807) ∧ ((-9223372036854775808 ≤ b.y - a.y ∧ b.y - a.y ≤ 9223372036854775807) ∧ ((-9223372036854775808 ≤ p.x - a.x ∧ p.x - a.x ≤ 9223372036854775807) ∧ ((-9223372036854775808 ≤ (b.y - a.y) * (p.x - a.x) ∧ (b.y - a.y) * (p.x - a.x) ≤ 9223372036854775807) ∧ ((-9223372036854775808 ≤ ((b.x - a.x) * (p.y - a.y)) - ((b.y - a.y) * (p.x - a.x)) ∧ ((b.x - a.x) * (p.y - a.y)) - ((b.y - a.y) * (p.x - a.x)) ≤ 9223372036854775807) ∧ rv = (((b.x - a.x) * (p.y - a.y)) - ((b.y - a.y) * (p.x - a.x))))))))))) : G Try.prog E [.code (bodyAt Try.prog 66)] ⟨[.agg [.int .i64 a.x, .int .i64 a.y, .int .i64 a.z], .agg [.int .i64 b.x, .int .i64 b.y, .int .i64 b.z], .agg [.int .i64 p.x, .int .i64 p.y, .int .i64 p.z]] ++ unds (Try.f66.ntmps - 3), []⟩ := by
  obtain ⟨q0_0, h⟩ := h
  obtain ⟨q1_0, h⟩ := h
  obtain ⟨q2_0, h⟩ := h
  obtain ⟨q3_0, h⟩ := h
  obtain ⟨q4_0, h⟩ := h
  obtain ⟨q5_0, h⟩ := h
  obtain ⟨q6_0, h⟩ := h
  exact p66_start_0 a b p    hE q0_0 q1_0 q2_0 q3_0 q4_0 q5_0 q6_0 (AvLe.of_eq (by rw [h]; try rfl))

theorem turn_ok (a b p : Pt) (h : armOk a b p) : Pure Try.prog 66 [.agg [.int .i64 a.x, .int .i64 a.y, .int .i64 a.z], .agg [.int .i64 b.x, .int .i64 b.y, .int .i64 b.z], .agg [.int .i64 p.x, .int .i64 p.y, .int .i64 p.z]] (.int .i64 (arm a b p)) := pure_of Try.func66 f66b fun E hE =>
  f66W a b p hE ⟨h.1, h.2.1, h.2.2.1, h.2.2.2.1, h.2.2.2.2.1, h.2.2.2.2.2.1, h.2.2.2.2.2.2, rfl⟩

theorem f59b : Try.f59.body = some (bodyAt Try.prog 59) := by kernel_rfl
theorem p59_start_0 (r : Rg)   {E : Env} {res : AV} (hE : PureE Try.prog 59 res E) (o0 : (((r.seats.length : Nat) : Int) == 0) = true)
    (hr : AvLe (.int .i64 1) res) : G Try.prog E [.code (bodyAt Try.prog 59)] ⟨[.agg [.rsl (rowS r.seats) 0 r.seats.length, .rsl (rowP r.feet) 0 r.feet.length, .int .i64 r.frame, .int .i64 r.c.x, .int .i64 r.c.y, .int .i64 r.c.z, .int .i64 r.empty, .int .i64 r.full]] ++ unds (Try.f59.ntmps - 1), []⟩ :=
  end_stepL (n := 400) (evs := [.b true]) (obs := [(((r.seats.length : Nat) : Int) == 0) = true]) hE Try.func59 mixed (by kernel_rfl) ⟨o0, trivial⟩ hr
theorem p59_start_1 (r : Rg)  (le : (List Pt))  {E : Env} {res : AV} (hE : PureE Try.prog 59 res E) (o0 : (((r.seats.length : Nat) : Int) == 0) = false) (o2 : (0 : Int) ≤ 0 ∧ (0 : Int) < ((r.seats.length : Nat) : Int)) (o3 : ((rowS r.seats).drop (0 + 0 * 1)).take 1 = [.rsl (rowP le) 0 le.length])
    (hr : AvLe (.int .i64 ((le.length : Nat) : Int)) res) : G Try.prog E [.code (bodyAt Try.prog 59)] ⟨[.agg [.rsl (rowS r.seats) 0 r.seats.length, .rsl (rowP r.feet) 0 r.feet.length, .int .i64 r.frame, .int .i64 r.c.x, .int .i64 r.c.y, .int .i64 r.c.z, .int .i64 r.empty, .int .i64 r.full]] ++ unds (Try.f59.ntmps - 1), []⟩ :=
  end_stepL (n := 400) (evs := [.b false, .auto, .ld (.rsl (rowP le) 0 le.length)]) (obs := [(((r.seats.length : Nat) : Int) == 0) = false, (0 : Int) ≤ 0 ∧ (0 : Int) < ((r.seats.length : Nat) : Int), ((rowS r.seats).drop (0 + 0 * 1)).take 1 = [.rsl (rowP le) 0 le.length]]) hE Try.func59 mixed (by kernel_rfl) ⟨o0, o2, o3, trivial⟩ hr
theorem f59W (r : Rg) {E : Env} {rv : Int} (hE : PureE Try.prog 59 (.int .i64 rv) E)
    (h : ((((r.seats.length : Nat) : Int) = 0 → rv = 1) ∧ (¬ (((r.seats.length : Nat) : Int) = 0) → (∃ le : (List Pt), r.seats[0]? = some le ∧ rv = ((le.length : Nat) : Int))))) : G Try.prog E [.code (bodyAt Try.prog 59)] ⟨[.agg [.rsl (rowS r.seats) 0 r.seats.length, .rsl (rowP r.feet) 0 r.feet.length, .int .i64 r.frame, .int .i64 r.c.x, .int .i64 r.c.y, .int .i64 r.c.z, .int .i64 r.empty, .int .i64 r.full]] ++ unds (Try.f59.ntmps - 1), []⟩ := by
  rcases Bool.eq_false_or_eq_true (((r.seats.length : Nat) : Int) == 0) with hc0 | hc0
  · have h := h.1 (eq_of_beq hc0)
    exact p59_start_0 r    hE hc0 (AvLe.of_eq (by rw [h]; try rfl))
  · have h := h.2 (ne_of_beq_false hc0)
    obtain ⟨le, h1, h⟩ := h
    exact p59_start_1 r   le hE hc0 (idx_ok h1) (row_part (fun s : List Pt => [AV.rsl (rowP s) 0 s.length]) (s := 1) (k := 0) (m := 1) (fun _ => rfl) (by decide) h1) (AvLe.of_eq (by rw [h]; try rfl))
theorem f88b : Try.f88.body = some (bodyAt Try.prog 88) := by kernel_rfl
theorem p88_start_0 (r : Rg) (ln : Int) (p : Pt)  (pe : Pt) (pe1 : Pt)  {E : Env} {res : AV} (hE : PureE Try.prog 88 res E) (o1 : 0 ≤ ln ∧ ln < ((r.feet.length : Nat) : Int)) (o2 : ((rowP r.feet).drop (0 + (Int.toNat ln) * 3)).take 3 = [.int .i64 pe.x, .int .i64 pe.y, .int .i64 pe.z]) (o3 : InR .i64 (ln + 1)) (o4 : ((r.feet.length : Nat) : Int) ≠ 0) (o6 : 0 ≤ (Int.tmod (ln + 1) ((r.feet.length : Nat) : Int)) ∧ (Int.tmod (ln + 1) ((r.feet.length : Nat) : Int)) < ((r.feet.length : Nat) : Int)) (o7 : ((rowP r.feet).drop (0 + (Int.toNat (Int.tmod (ln + 1) ((r.feet.length : Nat) : Int))) * 3)).take 3 = [.int .i64 pe1.x, .int .i64 pe1.y, .int .i64 pe1.z]) (o8 : PureF Try.prog (.clos 66 [] []) [.agg [.int .i64 pe.x, .int .i64 pe.y, .int .i64 pe.z], .agg [.int .i64 pe1.x, .int .i64 pe1.y, .int .i64 pe1.z], .agg [.int .i64 p.x, .int .i64 p.y, .int .i64 p.z]] (.int .i64 (arm pe pe1 p)))
    (hr : AvLe (.int .i64 (arm pe pe1 p)) res) : G Try.prog E [.code (bodyAt Try.prog 88)] ⟨[.agg [.rsl (rowS r.seats) 0 r.seats.length, .rsl (rowP r.feet) 0 r.feet.length, .int .i64 r.frame, .int .i64 r.c.x, .int .i64 r.c.y, .int .i64 r.c.z, .int .i64 r.empty, .int .i64 r.full], .int .i64 ln, .agg [.int .i64 p.x, .int .i64 p.y, .int .i64 p.z]] ++ unds (Try.f88.ntmps - 3), []⟩ :=
  end_stepL (n := 400) (evs := [.auto, .ld (.agg [.int .i64 pe.x, .int .i64 pe.y, .int .i64 pe.z]), .auto, .auto, .ld (.agg [.int .i64 pe1.x, .int .i64 pe1.y, .int .i64 pe1.z]), .v (.int .i64 (arm pe pe1 p))]) (obs := [0 ≤ ln ∧ ln < ((r.feet.length : Nat) : Int), ((rowP r.feet).drop (0 + (Int.toNat ln) * 3)).take 3 = [.int .i64 pe.x, .int .i64 pe.y, .int .i64 pe.z], InR .i64 (ln + 1), ((r.feet.length : Nat) : Int) ≠ 0, 0 ≤ (Int.tmod (ln + 1) ((r.feet.length : Nat) : Int)) ∧ (Int.tmod (ln + 1) ((r.feet.length : Nat) : Int)) < ((r.feet.length : Nat) : Int), ((rowP r.feet).drop (0 + (Int.toNat (Int.tmod (ln + 1) ((r.feet.length : Nat) : Int))) * 3)).take 3 = [.int .i64 pe1.x, .int .i64 pe1.y, .int .i64 pe1.z], PureF Try.prog (.clos 66 [] []) [.agg [.int .i64 pe.x, .int .i64 pe.y, .int .i64 pe.z], .agg [.int .i64 pe1.x, .int .i64 pe1.y, .int .i64 pe1.z], .agg [.int .i64 p.x, .int .i64 p.y, .int .i64 p.z]] (.int .i64 (arm pe pe1 p))]) hE Try.func88 mixed (by kernel_rfl) ⟨o1, o2, o3, o4, o6, o7, o8, trivial⟩ hr
theorem f88W (r : Rg) (ln : Int) (p : Pt) {E : Env} {rv : Int} (hE : PureE Try.prog 88 (.int .i64 rv) E)
    (h : (0 ≤ ln ∧ (∃ pe : Pt, r.feet[Int.toNat ln]? = some pe ∧ ((-9223372036854775808 ≤ ln + 1 ∧ ln + 1 ≤ 9223372036854775807) ∧ (((r.feet.length : Nat) : Int) ≠ 0 ∧ (0 ≤ (Int.tmod (ln + 1) ((r.feet.length : Nat) : Int)) ∧ (∃ pe1 : Pt, r.feet[Int.toNat (Int.tmod (ln + 1) ((r.feet.length : Nat) : Int))]? = some pe1 ∧ ((armOk pe pe1 p) ∧ rv = (arm pe pe1 p))))))))) : G Try.prog E [.code (bodyAt Try.prog 88)] ⟨[.agg [.rsl (rowS r.seats) 0 r.seats.length, .rsl (rowP r.feet) 0 r.feet.length, .int .i64 r.frame, .int .i64 r.c.x, .int .i64 r.c.y, .int .i64 r.c.z, .int .i64 r.empty, .int .i64 r.full], .int .i64 ln, .agg [.int .i64 p.x, .int .i64 p.y, .int .i64 p.z]] ++ unds (Try.f88.ntmps - 3), []⟩ := by
  obtain ⟨h2, h⟩ := h
  obtain ⟨pe, h1, h⟩ := h
  obtain ⟨q3_0, h⟩ := h
  obtain ⟨q4_0, h⟩ := h
  obtain ⟨h4, h⟩ := h
  obtain ⟨pe1, h3, h⟩ := h
  obtain ⟨h5, h⟩ := h
  exact p88_start_0 r ln p   pe pe1 hE (idx_ok' h2 h1) (row_part cP (s := 3) (k := 0) (m := 3) (fun _ => rfl) (by decide) h1) q3_0 q4_0 (idx_ok' h4 h3) (row_part cP (s := 3) (k := 0) (m := 3) (fun _ => rfl) (by decide) h3) (pureF_of Try.func66 (by kernel_rfl) f66b (turn_ok pe pe1 p h5)) (AvLe.of_eq (by rw [h]; try rfl))

def armR (r : Rg) (ln : Int) (p : Pt) : Int := arm (lineAt r ln.toNat).1 (lineAt r ln.toNat).2 p
def armROk (r : Rg) (ln : Int) (p : Pt) : Prop := 0 ≤ ln ∧ ln < r.feet.length ∧ r.feet.length ≤ 1000 ∧ armOk (lineAt r ln.toNat).1 (lineAt r ln.toNat).2 p

theorem line_feet {r : Rg} {v : Nat} (h : v < r.feet.length) : r.feet[v]? = some (lineAt r v).1 ∧ r.feet[(v + 1) % r.feet.length]? = some (lineAt r v).2 := by
  have hg := lineAt_get h
  unfold linesOf at hg
  rw [List.getElem?_map] at hg
  have e : (List.range' 0 r.feet.length)[v]? = some v := by simp [h]
  rw [e] at hg
  simp only [Option.map_some, Option.some.injEq] at hg
  have h2 : (v + 1) % r.feet.length < r.feet.length := Nat.mod_lt _ (by omega)
  rw [← hg]
  simp [List.getD, h, h2]

theorem tmod_next {i n : Nat} (h : 0 < n) : Int.tmod ((i : Int) + 1) (n : Int) = (((i + 1) % n : Nat) : Int) := by
  rw [Int.tmod_eq_emod_of_nonneg (by omega)]; rfl

theorem armR_ok (r : Rg) (ln : Int) (p : Pt) (h : armROk r ln p) : Pure Try.prog 88 [.agg [.rsl (rowS r.seats) 0 r.seats.length, .rsl (rowP r.feet) 0 r.feet.length, .int .i64 r.frame, .int .i64 r.c.x, .int .i64 r.c.y, .int .i64 r.c.z, .int .i64 r.empty, .int .i64 r.full], .int .i64 ln, .agg [.int .i64 p.x, .int .i64 p.y, .int .i64 p.z]] (.int .i64 (armR r ln p)) := pure_of Try.func88 f88b fun E hE => by
  obtain ⟨h0, h1, h2, h3⟩ := h
  obtain ⟨v, rfl⟩ := Int.eq_ofNat_of_zero_le h0
  obtain ⟨a1, a2⟩ := line_feet (r := r) (v := v) (by omega)
  have et := tmod_next (i := v) (n := r.feet.length) (by omega)
  refine f88W r v p hE ⟨h0, _, a1, by omega, by omega, by rw [et]; omega, (lineAt r v).2, by rw [et]; exact a2, h3, rfl⟩

theorem moment1_ok (bs : List Bool) (i a : Int) (h : 0 ≤ i ∧ i < bs.length) : Pure Try.prog 58 [.int .i64 i, .int .i64 a, .rptr [.rsl (rowB bs) 0 bs.length] 0] (.bool (bs.getD (Int.toNat i) false)) := pure_of Try.func58 f58b fun E hE => by
  have hi : bs[Int.toNat i]? = some (bs.getD (Int.toNat i) false) := by
    have : Int.toNat i < bs.length := by omega
    simp [List.getD, this]
  exact f58W i a bs hE ⟨h.1, _, hi, rfl⟩

theorem arm2_ok (l : Pt × Pt) (p : Pt) (h : armOk l.1 l.2 p) : Pure Try.prog 87 [.agg [.int .i64 l.1.x, .int .i64 l.1.y, .int .i64 l.1.z, .int .i64 l.2.x, .int .i64 l.2.y, .int .i64 l.2.z], .agg [.int .i64 p.x, .int .i64 p.y, .int .i64 p.z]] (.int .i64 (arm l.1 l.2 p)) := arm_ok l.1 l.2 p h

theorem f57Lb : Try.f57.body = some (bodyAt Try.prog 57) := by kernel_rfl
def f57LK0 (P : Program) : List Item := kAt 400 [.code (bodyAt P 57)] [.stop]
def f57LS0 (r : Rg) (ph : Int) (ln : Int) (bs : List Bool) (sum : Int) (v0_0 : Int) (v0_1 : Int) (v0_2 : Int) (v0_3 : Int) (v0_4 : Int) (v0_5 : Int) (i : Nat)  : St := ⟨[.rptr [.rsl (rowS r.seats) 0 r.seats.length, .rsl (rowP r.feet) 0 r.feet.length, .int .i64 r.frame, .int .i64 r.c.x, .int .i64 r.c.y, .int .i64 r.c.z, .int .i64 r.empty, .int .i64 r.full, .rsl (rowLn (linesOf r.feet)) 0 ((linesOf r.feet).length), .int .i64 (phasesOf r)] 0, .int .i64 ph, .junk, .clos 58 [] [.rptr [.rsl (rowB bs) 0 bs.length] 0], .junk, .junk, .junk, .junk, .junk, .ptr 0 0 0, .int .i64 sum, .junk, .junk, .junk, .junk, .junk, .junk, .junk, .junk, .junk, .junk, .junk, .junk, .junk, .junk, .junk, .junk, .junk, .junk, .junk, .junk, .junk, .junk, .junk, .junk, .junk, .junk, .junk, .junk, .rsl (rowS r.seats) 0 r.seats.length, .int .i64 ((r.seats.length : Nat) : Int), .int .i64 ((i : Nat) : Int), .junk, .junk, .junk, .junk, .junk, .junk, .junk, .junk, .junk, .junk, .junk, .junk, .junk, .junk, .junk, .junk, .junk, .junk, .junk, .junk, .junk, .junk, .junk, .junk, .junk, .junk, .junk, .junk, .junk, .junk, .junk], [⟨true, 0, 1, true, [.int .i64 v0_0, .int .i64 v0_1, .int .i64 v0_2, .int .i64 v0_3, .int .i64 v0_4, .int .i64 v0_5], false⟩]⟩
def f57LG0 (E : Env) (r : Rg) (ph : Int) (ln : Int) (bs : List Bool) (sum : Int) (v0_0 : Int) (v0_1 : Int) (v0_2 : Int) (v0_3 : Int) (v0_4 : Int) (v0_5 : Int) (i : Nat) : Prop := G Try.prog E (f57LK0 Try.prog) (f57LS0 r ph ln bs sum v0_0 v0_1 v0_2 v0_3 v0_4 v0_5 i )
theorem p57_start_0 (r : Rg) (ph : Int) (ln : Int) (bs : List Bool)  (pe : (Pt × Pt))  {E : Env} {rv : AV} (hE : PureE Try.prog 57 rv E) (o1 : 0 ≤ ln ∧ ln < (((linesOf r.feet).length : Nat) : Int)) (o2 : ((rowLn (linesOf r.feet)).drop (0 + (Int.toNat ln) * 6)).take 6 = [.int .i64 pe.1.x, .int .i64 pe.1.y, .int .i64 pe.1.z, .int .i64 pe.2.x, .int .i64 pe.2.y, .int .i64 pe.2.z]) (o4 : PureF Try.prog (.clos 87 [] []) [.agg [.int .i64 pe.1.x, .int .i64 pe.1.y, .int .i64 pe.1.z, .int .i64 pe.2.x, .int .i64 pe.2.y, .int .i64 pe.2.z], .agg [.int .i64 r.c.x, .int .i64 r.c.y, .int .i64 r.c.z]] (.int .i64 (arm pe.1 pe.2 r.c))) (o5 : InR .i64 (r.frame * (arm pe.1 pe.2 r.c)))
    (hg : G Try.prog E (f57LK0 Try.prog) ⟨[.rptr [.rsl (rowS r.seats) 0 r.seats.length, .rsl (rowP r.feet) 0 r.feet.length, .int .i64 r.frame, .int .i64 r.c.x, .int .i64 r.c.y, .int .i64 r.c.z, .int .i64 r.empty, .int .i64 r.full, .rsl (rowLn (linesOf r.feet)) 0 ((linesOf r.feet).length), .int .i64 (phasesOf r)] 0, .int .i64 ph, .junk, .clos 58 [] [.rptr [.rsl (rowB bs) 0 bs.length] 0], .junk, .junk, .junk, .junk, .junk, .ptr 0 0 0, .int .i64 (r.frame * (arm pe.1 pe.2 r.c)), .junk, .junk, .junk, .junk, .junk, .junk, .junk, .junk, .junk, .junk, .junk, .junk, .junk, .junk, .junk, .junk, .junk, .junk, .junk, .junk, .junk, .junk, .junk, .junk, .junk, .junk, .junk, .junk, .rsl (rowS r.seats) 0 r.seats.length, .int .i64 ((r.seats.length : Nat) : Int), .int .i64 0, .junk, .junk, .junk, .junk, .junk, .junk, .junk, .junk, .junk, .junk, .junk, .junk, .junk, .junk, .junk, .junk, .junk, .junk, .junk, .junk, .junk, .junk, .junk, .junk, .junk, .junk, .junk, .junk, .junk, .junk, .junk], [⟨true, 0, 1, true, [.int .i64 pe.1.x, .int .i64 pe.1.y, .int .i64 pe.1.z, .int .i64 pe.2.x, .int .i64 pe.2.y, .int .i64 pe.2.z], false⟩]⟩) : G Try.prog E [.code (bodyAt Try.prog 57)] ⟨[.rptr [.rsl (rowS r.seats) 0 r.seats.length, .rsl (rowP r.feet) 0 r.feet.length, .int .i64 r.frame, .int .i64 r.c.x, .int .i64 r.c.y, .int .i64 r.c.z, .int .i64 r.empty, .int .i64 r.full, .rsl (rowLn (linesOf r.feet)) 0 ((linesOf r.feet).length), .int .i64 (phasesOf r)] 0, .int .i64 ph, .int .i64 ln, .clos 58 [] [.rptr [.rsl (rowB bs) 0 bs.length] 0]] ++ unds (Try.f57.ntmps - 4), []⟩ :=
  segC_step (n := 400) (ds := []) (cs := []) (live := [0, 1, 3, 9, 10, 39, 40, 41]) (m := 1) (evs := [.auto, .ld (.agg [.int .i64 pe.1.x, .int .i64 pe.1.y, .int .i64 pe.1.z, .int .i64 pe.2.x, .int .i64 pe.2.y, .int .i64 pe.2.z]), .v (.int .i64 (arm pe.1 pe.2 r.c)), .stop]) (obs := [0 ≤ ln ∧ ln < (((linesOf r.feet).length : Nat) : Int), ((rowLn (linesOf r.feet)).drop (0 + (Int.toNat ln) * 6)).take 6 = [.int .i64 pe.1.x, .int .i64 pe.1.y, .int .i64 pe.1.z, .int .i64 pe.2.x, .int .i64 pe.2.y, .int .i64 pe.2.z], 6 ≤ 6, PureF Try.prog (.clos 87 [] []) [.agg [.int .i64 pe.1.x, .int .i64 pe.1.y, .int .i64 pe.1.z, .int .i64 pe.2.x, .int .i64 pe.2.y, .int .i64 pe.2.z], .agg [.int .i64 r.c.x, .int .i64 r.c.y, .int .i64 r.c.z]] (.int .i64 (arm pe.1 pe.2 r.c)), InR .i64 (r.frame * (arm pe.1 pe.2 r.c))]) hE.2.1 (hE.nogh _) mixed (by kernel_rfl) ⟨o1, o2, (by decide), o4, o5, trivial⟩ hg
theorem f57LW (r : Rg) (ph : Int) (ln : Int) (bs : List Bool) {E : Env} {rv : Int} (hE : PureE Try.prog 57 (.int .i64 rv) E)
    (h : (0 ≤ ln ∧ (∃ pe : (Pt × Pt), (linesOf r.feet)[Int.toNat ln]? = some pe ∧ ((armOk pe.1 pe.2 r.c) ∧ ((-9223372036854775808 ≤ r.frame * (arm pe.1 pe.2 r.c) ∧ r.frame * (arm pe.1 pe.2 r.c) ≤ 9223372036854775807) ∧ f57LG0 E r ph ln bs (r.frame * (arm pe.1 pe.2 r.c)) pe.1.x pe.1.y pe.1.z pe.2.x pe.2.y pe.2.z 0))))) : G Try.prog E [.code (bodyAt Try.prog 57)] ⟨[.rptr [.rsl (rowS r.seats) 0 r.seats.length, .rsl (rowP r.feet) 0 r.feet.length, .int .i64 r.frame, .int .i64 r.c.x, .int .i64 r.c.y, .int .i64 r.c.z, .int .i64 r.empty, .int .i64 r.full, .rsl (rowLn (linesOf r.feet)) 0 ((linesOf r.feet).length), .int .i64 (phasesOf r)] 0, .int .i64 ph, .int .i64 ln, .clos 58 [] [.rptr [.rsl (rowB bs) 0 bs.length] 0]] ++ unds (Try.f57.ntmps - 4), []⟩ := by
  obtain ⟨h2, h⟩ := h
  obtain ⟨pe, h1, h⟩ := h
  obtain ⟨h3, h⟩ := h
  obtain ⟨q5_0, h⟩ := h
  exact p57_start_0 r ph ln bs   pe hE (idx_ok' h2 h1) (row_part (fun s : Pt × Pt => cP s.1 ++ cP s.2) (s := 6) (k := 0) (m := 6) (fun _ => rfl) (by decide) h1) (pureF_of Try.func87 (by kernel_rfl) f87b (arm2_ok pe r.c h3)) q5_0 h
theorem p57_0_0 (r : Rg) (ph : Int) (ln : Int) (bs : List Bool) (sum : Int) (v0_0 : Int) (v0_1 : Int) (v0_2 : Int) (v0_3 : Int) (v0_4 : Int) (v0_5 : Int) (i : Nat)  (le : (List Pt)) (pe : Pt)  {E : Env} {rv : AV} (hE : PureE Try.prog 57 rv E) (o0 : (decide (((i : Nat) : Int) < ((r.seats.length : Nat) : Int))) = true) (o2 : 0 ≤ ((i : Nat) : Int) ∧ ((i : Nat) : Int) < ((r.seats.length : Nat) : Int)) (o3 : ((rowS r.seats).drop (0 + (Int.toNat ((i : Nat) : Int)) * 1)).take 1 = [.rsl (rowP le) 0 le.length]) (o5 : 0 ≤ ph ∧ ph < ((le.length : Nat) : Int)) (o6 : ((rowP le).drop (0 + (Int.toNat ph) * 3)).take 3 = [.int .i64 pe.x, .int .i64 pe.y, .int .i64 pe.z]) (o7 : PureF Try.prog (.clos 87 [] []) [.agg [.int .i64 v0_0, .int .i64 v0_1, .int .i64 v0_2, .int .i64 v0_3, .int .i64 v0_4, .int .i64 v0_5], .agg [.int .i64 pe.x, .int .i64 pe.y, .int .i64 pe.z]] (.int .i64 (arm ((⟨v0_0, v0_1, v0_2⟩ : Pt), (⟨v0_3, v0_4, v0_5⟩ : Pt)).1 ((⟨v0_0, v0_1, v0_2⟩ : Pt), (⟨v0_3, v0_4, v0_5⟩ : Pt)).2 pe))) (o8 : PureF Try.prog (.clos 58 [] [.rptr [.rsl (rowB bs) 0 bs.length] 0]) [.int .i64 ((i : Nat) : Int), .int .i64 (arm ((⟨v0_0, v0_1, v0_2⟩ : Pt), (⟨v0_3, v0_4, v0_5⟩ : Pt)).1 ((⟨v0_0, v0_1, v0_2⟩ : Pt), (⟨v0_3, v0_4, v0_5⟩ : Pt)).2 pe)] (.bool (bs.getD (Int.toNat ((i : Nat) : Int)) false))) (o9 : (bs.getD (Int.toNat ((i : Nat) : Int)) false) = true) (o10 : InR .i64 (r.full * (arm ((⟨v0_0, v0_1, v0_2⟩ : Pt), (⟨v0_3, v0_4, v0_5⟩ : Pt)).1 ((⟨v0_0, v0_1, v0_2⟩ : Pt), (⟨v0_3, v0_4, v0_5⟩ : Pt)).2 pe))) (o11 : InR .i64 (sum + (r.full * (arm ((⟨v0_0, v0_1, v0_2⟩ : Pt), (⟨v0_3, v0_4, v0_5⟩ : Pt)).1 ((⟨v0_0, v0_1, v0_2⟩ : Pt), (⟨v0_3, v0_4, v0_5⟩ : Pt)).2 pe)))) (o12 : InR .i64 (((i : Nat) : Int) + 1))
    (hg : G Try.prog E (f57LK0 Try.prog) ⟨[.rptr [.rsl (rowS r.seats) 0 r.seats.length, .rsl (rowP r.feet) 0 r.feet.length, .int .i64 r.frame, .int .i64 r.c.x, .int .i64 r.c.y, .int .i64 r.c.z, .int .i64 r.empty, .int .i64 r.full, .rsl (rowLn (linesOf r.feet)) 0 ((linesOf r.feet).length), .int .i64 (phasesOf r)] 0, .int .i64 ph, .junk, .clos 58 [] [.rptr [.rsl (rowB bs) 0 bs.length] 0], .junk, .junk, .junk, .junk, .junk, .ptr 0 0 0, .int .i64 (sum + (r.full * (arm ((⟨v0_0, v0_1, v0_2⟩ : Pt), (⟨v0_3, v0_4, v0_5⟩ : Pt)).1 ((⟨v0_0, v0_1, v0_2⟩ : Pt), (⟨v0_3, v0_4, v0_5⟩ : Pt)).2 pe))), .junk, .junk, .junk, .junk, .junk, .junk, .junk, .junk, .junk, .junk, .junk, .junk, .junk, .junk, .junk, .junk, .junk, .junk, .junk, .junk, .junk, .junk, .junk, .junk, .junk, .junk, .junk, .junk, .rsl (rowS r.seats) 0 r.seats.length, .int .i64 ((r.seats.length : Nat) : Int), .int .i64 (((i : Nat) : Int) + 1), .junk, .junk, .junk, .junk, .junk, .junk, .junk, .junk, .junk, .junk, .junk, .junk, .junk, .junk, .junk, .junk, .junk, .junk, .junk, .junk, .junk, .junk, .junk, .junk, .junk, .junk, .junk, .junk, .junk, .junk, .junk], [⟨true, 0, 1, true, [.int .i64 v0_0, .int .i64 v0_1, .int .i64 v0_2, .int .i64 v0_3, .int .i64 v0_4, .int .i64 v0_5], false⟩]⟩) : G Try.prog E (f57LK0 Try.prog) (f57LS0 r ph ln bs sum v0_0 v0_1 v0_2 v0_3 v0_4 v0_5 i ) :=
  segC_step (n := 400) (ds := []) (cs := []) (live := [0, 1, 3, 9, 10, 39, 40, 41]) (m := 1) (evs := [.b true, .ld (.rsl (rowP le) 0 le.length), .auto, .ld (.agg [.int .i64 pe.x, .int .i64 pe.y, .int .i64 pe.z]), .v (.int .i64 (arm ((⟨v0_0, v0_1, v0_2⟩ : Pt), (⟨v0_3, v0_4, v0_5⟩ : Pt)).1 ((⟨v0_0, v0_1, v0_2⟩ : Pt), (⟨v0_3, v0_4, v0_5⟩ : Pt)).2 pe)), .v (.bool (bs.getD (Int.toNat ((i : Nat) : Int)) false)), .b true, .stop]) (obs := [(decide (((i : Nat) : Int) < ((r.seats.length : Nat) : Int))) = true, 0 ≤ ((i : Nat) : Int) ∧ ((i : Nat) : Int) < ((r.seats.length : Nat) : Int), ((rowS r.seats).drop (0 + (Int.toNat ((i : Nat) : Int)) * 1)).take 1 = [.rsl (rowP le) 0 le.length], 0 ≤ ph ∧ ph < ((le.length : Nat) : Int), ((rowP le).drop (0 + (Int.toNat ph) * 3)).take 3 = [.int .i64 pe.x, .int .i64 pe.y, .int .i64 pe.z], PureF Try.prog (.clos 87 [] []) [.agg [.int .i64 v0_0, .int .i64 v0_1, .int .i64 v0_2, .int .i64 v0_3, .int .i64 v0_4, .int .i64 v0_5], .agg [.int .i64 pe.x, .int .i64 pe.y, .int .i64 pe.z]] (.int .i64 (arm ((⟨v0_0, v0_1, v0_2⟩ : Pt), (⟨v0_3, v0_4, v0_5⟩ : Pt)).1 ((⟨v0_0, v0_1, v0_2⟩ : Pt), (⟨v0_3, v0_4, v0_5⟩ : Pt)).2 pe)), PureF Try.prog (.clos 58 [] [.rptr [.rsl (rowB bs) 0 bs.length] 0]) [.int .i64 ((i : Nat) : Int), .int .i64 (arm ((⟨v0_0, v0_1, v0_2⟩ : Pt), (⟨v0_3, v0_4, v0_5⟩ : Pt)).1 ((⟨v0_0, v0_1, v0_2⟩ : Pt), (⟨v0_3, v0_4, v0_5⟩ : Pt)).2 pe)] (.bool (bs.getD (Int.toNat ((i : Nat) : Int)) false)), (bs.getD (Int.toNat ((i : Nat) : Int)) false) = true, InR .i64 (r.full * (arm ((⟨v0_0, v0_1, v0_2⟩ : Pt), (⟨v0_3, v0_4, v0_5⟩ : Pt)).1 ((⟨v0_0, v0_1, v0_2⟩ : Pt), (⟨v0_3, v0_4, v0_5⟩ : Pt)).2 pe)), InR .i64 (sum + (r.full * (arm ((⟨v0_0, v0_1, v0_2⟩ : Pt), (⟨v0_3, v0_4, v0_5⟩ : Pt)).1 ((⟨v0_0, v0_1, v0_2⟩ : Pt), (⟨v0_3, v0_4, v0_5⟩ : Pt)).2 pe))), InR .i64 (((i : Nat) : Int) + 1)]) hE.2.1 (hE.nogh _) mixed (by kernel_rfl) ⟨o0, o2, o3, o5, o6, o7, o8, o9, o10, o11, o12, trivial⟩ hg
theorem p57_0_1 (r : Rg) (ph : Int) (ln : Int) (bs : List Bool) (sum : Int) (v0_0 : Int) (v0_1 : Int) (v0_2 : Int) (v0_3 : Int) (v0_4 : Int) (v0_5 : Int) (i : Nat)  (le : (List Pt)) (pe : Pt)  {E : Env} {rv : AV} (hE : PureE Try.prog 57 rv E) (o0 : (decide (((i : Nat) : Int) < ((r.seats.length : Nat) : Int))) = true) (o2 : 0 ≤ ((i : Nat) : Int) ∧ ((i : Nat) : Int) < ((r.seats.length : Nat) : Int)) (o3 : ((rowS r.seats).drop (0 + (Int.toNat ((i : Nat) : Int)) * 1)).take 1 = [.rsl (rowP le) 0 le.length]) (o5 : 0 ≤ ph ∧ ph < ((le.length : Nat) : Int)) (o6 : ((rowP le).drop (0 + (Int.toNat ph) * 3)).take 3 = [.int .i64 pe.x, .int .i64 pe.y, .int .i64 pe.z]) (o7 : PureF Try.prog (.clos 87 [] []) [.agg [.int .i64 v0_0, .int .i64 v0_1, .int .i64 v0_2, .int .i64 v0_3, .int .i64 v0_4, .int .i64 v0_5], .agg [.int .i64 pe.x, .int .i64 pe.y, .int .i64 pe.z]] (.int .i64 (arm ((⟨v0_0, v0_1, v0_2⟩ : Pt), (⟨v0_3, v0_4, v0_5⟩ : Pt)).1 ((⟨v0_0, v0_1, v0_2⟩ : Pt), (⟨v0_3, v0_4, v0_5⟩ : Pt)).2 pe))) (o8 : PureF Try.prog (.clos 58 [] [.rptr [.rsl (rowB bs) 0 bs.length] 0]) [.int .i64 ((i : Nat) : Int), .int .i64 (arm ((⟨v0_0, v0_1, v0_2⟩ : Pt), (⟨v0_3, v0_4, v0_5⟩ : Pt)).1 ((⟨v0_0, v0_1, v0_2⟩ : Pt), (⟨v0_3, v0_4, v0_5⟩ : Pt)).2 pe)] (.bool (bs.getD (Int.toNat ((i : Nat) : Int)) false))) (o9 : (bs.getD (Int.toNat ((i : Nat) : Int)) false) = false) (o10 : InR .i64 (r.empty * (arm ((⟨v0_0, v0_1, v0_2⟩ : Pt), (⟨v0_3, v0_4, v0_5⟩ : Pt)).1 ((⟨v0_0, v0_1, v0_2⟩ : Pt), (⟨v0_3, v0_4, v0_5⟩ : Pt)).2 pe))) (o11 : InR .i64 (sum + (r.empty * (arm ((⟨v0_0, v0_1, v0_2⟩ : Pt), (⟨v0_3, v0_4, v0_5⟩ : Pt)).1 ((⟨v0_0, v0_1, v0_2⟩ : Pt), (⟨v0_3, v0_4, v0_5⟩ : Pt)).2 pe)))) (o12 : InR .i64 (((i : Nat) : Int) + 1))
    (hg : G Try.prog E (f57LK0 Try.prog) ⟨[.rptr [.rsl (rowS r.seats) 0 r.seats.length, .rsl (rowP r.feet) 0 r.feet.length, .int .i64 r.frame, .int .i64 r.c.x, .int .i64 r.c.y, .int .i64 r.c.z, .int .i64 r.empty, .int .i64 r.full, .rsl (rowLn (linesOf r.feet)) 0 ((linesOf r.feet).length), .int .i64 (phasesOf r)] 0, .int .i64 ph, .junk, .clos 58 [] [.rptr [.rsl (rowB bs) 0 bs.length] 0], .junk, .junk, .junk, .junk, .junk, .ptr 0 0 0, .int .i64 (sum + (r.empty * (arm ((⟨v0_0, v0_1, v0_2⟩ : Pt), (⟨v0_3, v0_4, v0_5⟩ : Pt)).1 ((⟨v0_0, v0_1, v0_2⟩ : Pt), (⟨v0_3, v0_4, v0_5⟩ : Pt)).2 pe))), .junk, .junk, .junk, .junk, .junk, .junk, .junk, .junk, .junk, .junk, .junk, .junk, .junk, .junk, .junk, .junk, .junk, .junk, .junk, .junk, .junk, .junk, .junk, .junk, .junk, .junk, .junk, .junk, .rsl (rowS r.seats) 0 r.seats.length, .int .i64 ((r.seats.length : Nat) : Int), .int .i64 (((i : Nat) : Int) + 1), .junk, .junk, .junk, .junk, .junk, .junk, .junk, .junk, .junk, .junk, .junk, .junk, .junk, .junk, .junk, .junk, .junk, .junk, .junk, .junk, .junk, .junk, .junk, .junk, .junk, .junk, .junk, .junk, .junk, .junk, .junk], [⟨true, 0, 1, true, [.int .i64 v0_0, .int .i64 v0_1, .int .i64 v0_2, .int .i64 v0_3, .int .i64 v0_4, .int .i64 v0_5], false⟩]⟩) : G Try.prog E (f57LK0 Try.prog) (f57LS0 r ph ln bs sum v0_0 v0_1 v0_2 v0_3 v0_4 v0_5 i ) :=
  segC_step (n := 400) (ds := []) (cs := []) (live := [0, 1, 3, 9, 10, 39, 40, 41]) (m := 1) (evs := [.b true, .ld (.rsl (rowP le) 0 le.length), .auto, .ld (.agg [.int .i64 pe.x, .int .i64 pe.y, .int .i64 pe.z]), .v (.int .i64 (arm ((⟨v0_0, v0_1, v0_2⟩ : Pt), (⟨v0_3, v0_4, v0_5⟩ : Pt)).1 ((⟨v0_0, v0_1, v0_2⟩ : Pt), (⟨v0_3, v0_4, v0_5⟩ : Pt)).2 pe)), .v (.bool (bs.getD (Int.toNat ((i : Nat) : Int)) false)), .b false, .stop]) (obs := [(decide (((i : Nat) : Int) < ((r.seats.length : Nat) : Int))) = true, 0 ≤ ((i : Nat) : Int) ∧ ((i : Nat) : Int) < ((r.seats.length : Nat) : Int), ((rowS r.seats).drop (0 + (Int.toNat ((i : Nat) : Int)) * 1)).take 1 = [.rsl (rowP le) 0 le.length], 0 ≤ ph ∧ ph < ((le.length : Nat) : Int), ((rowP le).drop (0 + (Int.toNat ph) * 3)).take 3 = [.int .i64 pe.x, .int .i64 pe.y, .int .i64 pe.z], PureF Try.prog (.clos 87 [] []) [.agg [.int .i64 v0_0, .int .i64 v0_1, .int .i64 v0_2, .int .i64 v0_3, .int .i64 v0_4, .int .i64 v0_5], .agg [.int .i64 pe.x, .int .i64 pe.y, .int .i64 pe.z]] (.int .i64 (arm ((⟨v0_0, v0_1, v0_2⟩ : Pt), (⟨v0_3, v0_4, v0_5⟩ : Pt)).1 ((⟨v0_0, v0_1, v0_2⟩ : Pt), (⟨v0_3, v0_4, v0_5⟩ : Pt)).2 pe)), PureF Try.prog (.clos 58 [] [.rptr [.rsl (rowB bs) 0 bs.length] 0]) [.int .i64 ((i : Nat) : Int), .int .i64 (arm ((⟨v0_0, v0_1, v0_2⟩ : Pt), (⟨v0_3, v0_4, v0_5⟩ : Pt)).1 ((⟨v0_0, v0_1, v0_2⟩ : Pt), (⟨v0_3, v0_4, v0_5⟩ : Pt)).2 pe)] (.bool (bs.getD (Int.toNat ((i : Nat) : Int)) false)), (bs.getD (Int.toNat ((i : Nat) : Int)) false) = false, InR .i64 (r.empty * (arm ((⟨v0_0, v0_1, v0_2⟩ : Pt), (⟨v0_3, v0_4, v0_5⟩ : Pt)).1 ((⟨v0_0, v0_1, v0_2⟩ : Pt), (⟨v0_3, v0_4, v0_5⟩ : Pt)).2 pe)), InR .i64 (sum + (r.empty * (arm ((⟨v0_0, v0_1, v0_2⟩ : Pt), (⟨v0_3, v0_4, v0_5⟩ : Pt)).1 ((⟨v0_0, v0_1, v0_2⟩ : Pt), (⟨v0_3, v0_4, v0_5⟩ : Pt)).2 pe))), InR .i64 (((i : Nat) : Int) + 1)]) hE.2.1 (hE.nogh _) mixed (by kernel_rfl) ⟨o0, o2, o3, o5, o6, o7, o8, o9, o10, o11, o12, trivial⟩ hg
theorem p57_0_2 (r : Rg) (ph : Int) (ln : Int) (bs : List Bool) (sum : Int) (v0_0 : Int) (v0_1 : Int) (v0_2 : Int) (v0_3 : Int) (v0_4 : Int) (v0_5 : Int) (i : Nat)   {E : Env} {res : AV} (hE : PureE Try.prog 57 res E) (o0 : (decide (((i : Nat) : Int) < ((r.seats.length : Nat) : Int))) = false)
    (hr : AvLe (.int .i64 sum) res) : G Try.prog E (f57LK0 Try.prog) (f57LS0 r ph ln bs sum v0_0 v0_1 v0_2 v0_3 v0_4 v0_5 i ) :=
  end_stepL (n := 400) (evs := [.b false]) (obs := [(decide (((i : Nat) : Int) < ((r.seats.length : Nat) : Int))) = false]) hE Try.func57 mixed (by kernel_rfl) ⟨o0, trivial⟩ hr
theorem f57LW0 (r : Rg) (ph : Int) (ln : Int) (bs : List Bool) (sum : Int) (v0_0 : Int) (v0_1 : Int) (v0_2 : Int) (v0_3 : Int) (v0_4 : Int) (v0_5 : Int) (i : Nat) {E : Env} {rv : Int} (hE : PureE Try.prog 57 (.int .i64 rv) E)
    (h : ((((i : Nat) : Int) < ((r.seats.length : Nat) : Int) → (∃ le : (List Pt), r.seats[i]? = some le ∧ (0 ≤ ph ∧ (∃ pe : Pt, le[Int.toNat ph]? = some pe ∧ ((armOk ((⟨v0_0, v0_1, v0_2⟩ : Pt), (⟨v0_3, v0_4, v0_5⟩ : Pt)).1 ((⟨v0_0, v0_1, v0_2⟩ : Pt), (⟨v0_3, v0_4, v0_5⟩ : Pt)).2 pe) ∧ ((0 ≤ ((i : Nat) : Int) ∧ ((i : Nat) : Int) < bs.length) ∧ (((bs.getD (Int.toNat ((i : Nat) : Int)) false) = true → ((-9223372036854775808 ≤ r.full * (arm ((⟨v0_0, v0_1, v0_2⟩ : Pt), (⟨v0_3, v0_4, v0_5⟩ : Pt)).1 ((⟨v0_0, v0_1, v0_2⟩ : Pt), (⟨v0_3, v0_4, v0_5⟩ : Pt)).2 pe) ∧ r.full * (arm ((⟨v0_0, v0_1, v0_2⟩ : Pt), (⟨v0_3, v0_4, v0_5⟩ : Pt)).1 ((⟨v0_0, v0_1, v0_2⟩ : Pt), (⟨v0_3, v0_4, v0_5⟩ : Pt)).2 pe) ≤ 9223372036854775807) ∧ ((-9223372036854775808 ≤ sum + (r.full * (arm ((⟨v0_0, v0_1, v0_2⟩ : Pt), (⟨v0_3, v0_4, v0_5⟩ : Pt)).1 ((⟨v0_0, v0_1, v0_2⟩ : Pt), (⟨v0_3, v0_4, v0_5⟩ : Pt)).2 pe)) ∧ sum + (r.full * (arm ((⟨v0_0, v0_1, v0_2⟩ : Pt), (⟨v0_3, v0_4, v0_5⟩ : Pt)).1 ((⟨v0_0, v0_1, v0_2⟩ : Pt), (⟨v0_3, v0_4, v0_5⟩ : Pt)).2 pe)) ≤ 9223372036854775807) ∧ ((-9223372036854775808 ≤ ((i : Nat) : Int) + 1 ∧ ((i : Nat) : Int) + 1 ≤ 9223372036854775807) ∧ f57LG0 E r ph ln bs (sum + (r.full * (arm ((⟨v0_0, v0_1, v0_2⟩ : Pt), (⟨v0_3, v0_4, v0_5⟩ : Pt)).1 ((⟨v0_0, v0_1, v0_2⟩ : Pt), (⟨v0_3, v0_4, v0_5⟩ : Pt)).2 pe))) v0_0 v0_1 v0_2 v0_3 v0_4 v0_5 (i + 1))))) ∧ ((bs.getD (Int.toNat ((i : Nat) : Int)) false) = false → ((-9223372036854775808 ≤ r.empty * (arm ((⟨v0_0, v0_1, v0_2⟩ : Pt), (⟨v0_3, v0_4, v0_5⟩ : Pt)).1 ((⟨v0_0, v0_1, v0_2⟩ : Pt), (⟨v0_3, v0_4, v0_5⟩ : Pt)).2 pe) ∧ r.empty * (arm ((⟨v0_0, v0_1, v0_2⟩ : Pt), (⟨v0_3, v0_4, v0_5⟩ : Pt)).1 ((⟨v0_0, v0_1, v0_2⟩ : Pt), (⟨v0_3, v0_4, v0_5⟩ : Pt)).2 pe) ≤ 9223372036854775807) ∧ ((-9223372036854775808 ≤ sum + (r.empty * (arm ((⟨v0_0, v0_1, v0_2⟩ : Pt), (⟨v0_3, v0_4, v0_5⟩ : Pt)).1 ((⟨v0_0, v0_1, v0_2⟩ : Pt), (⟨v0_3, v0_4, v0_5⟩ : Pt)).2 pe)) ∧ sum + (r.empty * (arm ((⟨v0_0, v0_1, v0_2⟩ : Pt), (⟨v0_3, v0_4, v0_5⟩ : Pt)).1 ((⟨v0_0, v0_1, v0_2⟩ : Pt), (⟨v0_3, v0_4, v0_5⟩ : Pt)).2 pe)) ≤ 9223372036854775807) ∧ ((-9223372036854775808 ≤ ((i : Nat) : Int) + 1 ∧ ((i : Nat) : Int) + 1 ≤ 9223372036854775807) ∧ f57LG0 E r ph ln bs (sum + (r.empty * (arm ((⟨v0_0, v0_1, v0_2⟩ : Pt), (⟨v0_3, v0_4, v0_5⟩ : Pt)).1 ((⟨v0_0, v0_1, v0_2⟩ : Pt), (⟨v0_3, v0_4, v0_5⟩ : Pt)).2 pe))) v0_0 v0_1 v0_2 v0_3 v0_4 v0_5 (i + 1)))))))))))) ∧ (¬ (((i : Nat) : Int) < ((r.seats.length : Nat) : Int)) → rv = sum))) : f57LG0 E r ph ln bs sum v0_0 v0_1 v0_2 v0_3 v0_4 v0_5 i := by
  rcases Bool.eq_false_or_eq_true (decide (((i : Nat) : Int) < ((r.seats.length : Nat) : Int))) with hc0 | hc0
  · have h := h.1 (of_decide_eq_true hc0)
    obtain ⟨le, h1, h⟩ := h
    obtain ⟨h3, h⟩ := h
    obtain ⟨pe, h2, h⟩ := h
    obtain ⟨h4, h⟩ := h
    obtain ⟨h5, h⟩ := h
    rcases Bool.eq_false_or_eq_true (bs.getD (Int.toNat ((i : Nat) : Int)) false) with hc1 | hc1
    · have h := h.1 hc1
      obtain ⟨q10_2, h⟩ := h
      obtain ⟨q11_2, h⟩ := h
      obtain ⟨q12_2, h⟩ := h
      exact p57_0_0 r ph ln bs sum v0_0 v0_1 v0_2 v0_3 v0_4 v0_5 i  le pe hE hc0 (idx_ok h1) (row_part (fun s : List Pt => [AV.rsl (rowP s) 0 s.length]) (s := 1) (k := 0) (m := 1) (fun _ => rfl) (by decide) h1) (idx_ok' h3 h2) (row_part cP (s := 3) (k := 0) (m := 3) (fun _ => rfl) (by decide) h2) (pureF_of Try.func87 (by kernel_rfl) f87b (arm2_ok ((⟨v0_0, v0_1, v0_2⟩ : Pt), (⟨v0_3, v0_4, v0_5⟩ : Pt)) pe h4)) (pureF_of Try.func58 (by kernel_rfl) f58b (moment1_ok bs ((i : Nat) : Int) (arm ((⟨v0_0, v0_1, v0_2⟩ : Pt), (⟨v0_3, v0_4, v0_5⟩ : Pt)).1 ((⟨v0_0, v0_1, v0_2⟩ : Pt), (⟨v0_3, v0_4, v0_5⟩ : Pt)).2 pe) h5)) hc1 q10_2 q11_2 q12_2 h
    · have h := h.2 hc1
      obtain ⟨q10_2, h⟩ := h
      obtain ⟨q11_2, h⟩ := h
      obtain ⟨q12_2, h⟩ := h
      exact p57_0_1 r ph ln bs sum v0_0 v0_1 v0_2 v0_3 v0_4 v0_5 i  le pe hE hc0 (idx_ok h1) (row_part (fun s : List Pt => [AV.rsl (rowP s) 0 s.length]) (s := 1) (k := 0) (m := 1) (fun _ => rfl) (by decide) h1) (idx_ok' h3 h2) (row_part cP (s := 3) (k := 0) (m := 3) (fun _ => rfl) (by decide) h2) (pureF_of Try.func87 (by kernel_rfl) f87b (arm2_ok ((⟨v0_0, v0_1, v0_2⟩ : Pt), (⟨v0_3, v0_4, v0_5⟩ : Pt)) pe h4)) (pureF_of Try.func58 (by kernel_rfl) f58b (moment1_ok bs ((i : Nat) : Int) (arm ((⟨v0_0, v0_1, v0_2⟩ : Pt), (⟨v0_3, v0_4, v0_5⟩ : Pt)).1 ((⟨v0_0, v0_1, v0_2⟩ : Pt), (⟨v0_3, v0_4, v0_5⟩ : Pt)).2 pe) h5)) hc1 q10_2 q11_2 q12_2 h
  · have h := h.2 (of_decide_eq_false hc0)
    exact p57_0_2 r ph ln bs sum v0_0 v0_1 v0_2 v0_3 v0_4 v0_5 i   hE hc0 (AvLe.of_eq (by rw [h]; try rfl))

def farB (r : Rg) : Bool := decide (r.seats.length > 25) || (decide (r.feet.length > 12) || r.seats.any fun s => decide (s.length > 70))

theorem Far_ok (r : Rg) : Pure Try.prog 22 [.agg [.rsl (rowS r.seats) 0 r.seats.length, .rsl (rowP r.feet) 0 r.feet.length, .int .i64 r.frame, .int .i64 r.c.x, .int .i64 r.c.y, .int .i64 r.c.z, .int .i64 r.empty, .int .i64 r.full]] (.bool (farB r)) := pure_of Try.func22 f22b fun E hE => by
  refine f22W r hE ⟨fun h => ?_, fun h => ⟨fun h' => ?_, fun h' => ?_⟩⟩
  · have : r.seats.length > 25 := by omega
    simp [farB, this]
  · have : r.feet.length > 12 := by omega
    simp [farB, this]
  · have h1 : ¬ r.seats.length > 25 := by omega
    have h2 : ¬ r.feet.length > 12 := by omega
    have key : ∀ (d i : Nat), i + d = r.seats.length → farB r = ((r.seats.drop i).any fun s => decide (s.length > 70)) → f22G0 E r i := by
      intro d
      induction d with
      | zero =>
        intro i hd hf
        refine f22W0 r i hE ⟨fun h => by omega, fun _ => ?_⟩
        rw [hf, List.drop_eq_nil_of_le (by omega)]; rfl
      | succ d ih =>
        intro i hd hf
        have hi : i < r.seats.length := by omega
        rw [List.drop_eq_getElem_cons hi, List.any_cons] at hf
        refine f22W0 r i hE ⟨fun _ => ⟨r.seats[i], by simp [hi], fun h3 => ?_, fun h3 => ⟨by omega, ih (i + 1) (by omega) ?_⟩⟩, fun h => by omega⟩
        · have : r.seats[i].length > 70 := by omega
          rw [hf]; simp [this]
        · have : ¬ r.seats[i].length > 70 := by omega
          rw [hf]; simp [this]
    exact key r.seats.length 0 (by omega) (by simp [farB, h1, h2])

theorem far_small {r : Rg} (h : farB r = false) : RigSmall r := by
  simp only [farB, Bool.or_eq_false_iff, decide_eq_false_iff_not, List.any_eq_false, decide_eq_true_eq] at h
  exact ⟨by omega, by omega, fun s hs => by have := h.2.2 s hs; omega⟩

theorem Copy_ok (r : Rg) (h : RigSmall r) : Pure Try.prog 24 [.agg [.rsl (rowS r.seats) 0 r.seats.length, .rsl (rowP r.feet) 0 r.feet.length, .int .i64 r.frame, .int .i64 r.c.x, .int .i64 r.c.y, .int .i64 r.c.z, .int .i64 r.empty, .int .i64 r.full]]
    (.agg [.rsl (rowS r.seats) 0 r.seats.length, .rsl (rowP r.feet) 0 r.feet.length, .int .i64 r.frame, .int .i64 r.c.x, .int .i64 r.c.y, .int .i64 r.c.z, .int .i64 r.empty, .int .i64 r.full]) := pure_of Try.func24 f24b fun E hE => by
  have hs := h.seats
  have hf := h.feet
  have key : ∀ (d i : Nat), i + d = r.seats.length → f24G0 E r i (r.seats.take i) := by
    intro d
    induction d with
    | zero =>
      intro i hd
      refine f24W0 r i _ (rv := r) hE ⟨fun h => by omega, fun _ => ?_⟩
      rw [List.take_of_length_le (by omega)]
    | succ d ih =>
      intro i hd
      have hi : r.seats[i]? = some r.seats[i] := by simp [show i < r.seats.length by omega]
      have hl := h.each _ (List.mem_of_getElem? hi)
      refine f24W0 r i _ (rv := r) hE ⟨fun _ => ⟨_, hi, by omega, by rw [List.length_take]; omega, by omega, ?_⟩, fun h => by omega⟩
      have := ih (i + 1) (by omega)
      rw [List.take_add_one, hi] at this
      exact this
  exact f24W r (rv := r) hE ⟨by omega, key r.seats.length 0 (by omega)⟩

def phasesR (r : Rg) : Int := if r.seats.length = 0 then 1 else ((r.seats.getD 0 []).length : Nat)
theorem Phases_ok (r : Rg) : Pure Try.prog 59 [.agg [.rsl (rowS r.seats) 0 r.seats.length, .rsl (rowP r.feet) 0 r.feet.length, .int .i64 r.frame, .int .i64 r.c.x, .int .i64 r.c.y, .int .i64 r.c.z, .int .i64 r.empty, .int .i64 r.full]] (.int .i64 (phasesR r)) := pure_of Try.func59 f59b fun E hE => by
  refine f59W r hE ⟨fun h => ?_, fun h => ?_⟩
  · have : r.seats.length = 0 := by omega
    simp [phasesR, this]
  · have : ¬ r.seats.length = 0 := by omega
    refine ⟨r.seats.getD 0 [], ?_, by rw [phasesR, if_neg this]⟩
    simp [List.getD, show 0 < r.seats.length by omega]

def momOk (r : Rg) (ph ln : Int) : Prop := RigMade r ∧ 0 ≤ ph ∧ ph < phN r ∧ 0 ≤ ln ∧ ln < r.feet.length
def momentL (r : Rg) (ph ln : Int) (bs : List Bool) : Int := momentV r ph.toNat (lineAt r ln.toNat) fun i _ => bs.getD i false
def momentO (r : Rg) (ph ln : Int) : Int := momentV r ph.toNat (lineAt r ln.toNat) outF

structure SeatF (r : Rg) (a b : Pt) (ph : Nat) (s : List Pt) : Prop where
  get : s[ph]? = some (s.getD ph ⟨0, 0, 0⟩)
  ok : armOk a b (s.getD ph ⟨0, 0, 0⟩)
  e0 : -800000000000000 ≤ r.empty * arm a b (s.getD ph ⟨0, 0, 0⟩)
  e1 : r.empty * arm a b (s.getD ph ⟨0, 0, 0⟩) ≤ 800000000000000
  f0 : -800000000000000 ≤ r.full * arm a b (s.getD ph ⟨0, 0, 0⟩)
  f1 : r.full * arm a b (s.getD ph ⟨0, 0, 0⟩) ≤ 800000000000000

theorem seat_facts {r : Rg} {n ph i : Nat} {s : List Pt} {a b : Pt} (h : RgOk r n) (hph : ph < n) (ha : spanned a = true) (hb : spanned b = true) (hs : r.seats[i]? = some s) : SeatF r a b ph s := by
  obtain ⟨hsl, hsv⟩ := h.each _ (List.mem_of_getElem? hs)
  have hq : s[ph]? = some (s.getD ph ⟨0, 0, 0⟩) := by simp [List.getD, hsl, hph]
  obtain ⟨q1, q2, q3⟩ := arm_bd ha hb (valid_pt hsv (List.mem_of_getElem? hq))
  have he0 := h.empty0
  have he1 := h.empty1
  have hfu := h.full1
  have me := mul_bd (x := r.empty) (y := arm a b (s.getD ph ⟨0, 0, 0⟩)) (A := 1000000) (B := 800000000) (by omega) (by omega) q2 q3 (by omega) (by omega)
  have mf := mul_bd (x := r.full) (y := arm a b (s.getD ph ⟨0, 0, 0⟩)) (A := 1000000) (B := 800000000) (by omega) (by omega) q2 q3 (by omega) (by omega)
  exact ⟨hq, q1, by omega, by omega, by omega, by omega⟩

theorem frame_facts {r : Rg} {n : Nat} {a b : Pt} (h : RgOk r n) (ha : spanned a = true) (hb : spanned b = true) : armOk a b r.c ∧ -800000000000000 ≤ r.frame * arm a b r.c ∧ r.frame * arm a b r.c ≤ 800000000000000 := by
  obtain ⟨k1, k2, k3⟩ := arm_bd ha hb h.center
  have hf := h.frame0
  have hf' := h.frame1
  have hfr := mul_bd (x := r.frame) (y := arm a b r.c) (A := 1000000) (B := 800000000) (by omega) hf' k2 k3 (by omega) (by omega)
  exact ⟨k1, by omega, by omega⟩

theorem momentL_ok (r : Rg) (ph ln : Int) (bs : List Bool) (h : momOk r ph ln ∧ bs.length = r.seats.length) : Pure Try.prog 57 [rigV r, .int .i64 ph, .int .i64 ln, .clos 58 [] [.rptr [.rsl (rowB bs) 0 bs.length] 0]] (.int .i64 (momentL r ph ln bs)) := pure_of Try.func57 f57Lb fun E hE => by
  obtain ⟨⟨h0, h1, h2, h3, h4⟩, h5⟩ := h
  obtain ⟨p, rfl⟩ := Int.eq_ofNat_of_zero_le h1
  obtain ⟨v, rfl⟩ := Int.eq_ofNat_of_zero_le h3
  obtain ⟨l1, l2⟩ := lineAt_ok h0.ok (v := v) (by omega)
  obtain ⟨k1, k2, k3⟩ := frame_facts h0.ok l1 l2
  have hmom : momentL r p v bs = momentV r p (lineAt r v) fun i _ => bs.getD i false := rfl
  rw [hmom] at hE
  have hlg := lineAt_get (r := r) (v := v) (by omega)
  refine f57LW r p v bs hE ⟨h3, lineAt r v, hlg, k1, by omega, ?_⟩
  generalize hab : lineAt r v = ab at *
  obtain ⟨a, b⟩ := ab
  have l1 : spanned a = true := l1
  have l2 : spanned b = true := l2
  have k2 : -800000000000000 ≤ r.frame * arm a b r.c := k2
  have k3 : r.frame * arm a b r.c ≤ 800000000000000 := k3
  have h20 := h0.ok.seats
  have key : ∀ (d i : Nat) (sum : Int), i + d = r.seats.length → -(800000000000000 * (i + 1)) ≤ sum → sum ≤ 800000000000000 * (i + 1) → seatsM r a b p (fun i _ => bs.getD i false) (r.seats.drop i) i sum = momentV r p (a, b) (fun i _ => bs.getD i false) →
      f57LG0 E r p v bs sum a.x a.y a.z b.x b.y b.z i := by
    intro d
    induction d with
    | zero =>
      intro i sum hd _ _ hs
      rw [List.drop_eq_nil_of_le (by omega)] at hs
      exact f57LW0 r p v bs sum _ _ _ _ _ _ i hE ⟨fun h => by omega, fun _ => by rw [← hs]; rfl⟩
    | succ d ih =>
      intro i sum hd hs1 hs2 hs
      have hi : i < r.seats.length := by omega
      have hg : r.seats[i]? = some r.seats[i] := by simp [hi]
      have sf := seat_facts h0.ok (ph := p) (by omega) l1 l2 hg
      rw [List.drop_eq_getElem_cons hi] at hs
      simp only [seatsM] at hs
      have e0 := sf.e0
      have e1 := sf.e1
      have f0 := sf.f0
      have f1 := sf.f1
      refine f57LW0 r p v bs sum _ _ _ _ _ _ i hE ⟨fun _ => ⟨_, hg, h1, _, sf.get, sf.ok, ⟨by omega, by omega⟩, fun hb => ⟨?_, ?_, by omega, ?_⟩, fun hb => ⟨?_, ?_, by omega, ?_⟩⟩, fun h => by omega⟩
      · show -9223372036854775808 ≤ r.full * arm a b _ ∧ r.full * arm a b _ ≤ _; omega
      · show -9223372036854775808 ≤ sum + r.full * arm a b _ ∧ sum + r.full * arm a b _ ≤ _; omega
      · have hb' : bs.getD i false = true := hb
        rw [hb'] at hs
        exact ih (i + 1) _ (by omega) (by show _ ≤ sum + r.full * arm a b _; omega) (by show sum + r.full * arm a b _ ≤ _; omega) hs
      · show -9223372036854775808 ≤ r.empty * arm a b _ ∧ r.empty * arm a b _ ≤ _; omega
      · show -9223372036854775808 ≤ sum + r.empty * arm a b _ ∧ sum + r.empty * arm a b _ ≤ _; omega
      · have hb' : bs.getD i false = false := hb
        rw [hb'] at hs
        exact ih (i + 1) _ (by omega) (by show _ ≤ sum + r.empty * arm a b _; omega) (by show sum + r.empty * arm a b _ ≤ _; omega) hs
  exact key r.seats.length 0 _ (by omega) (by show _ ≤ r.frame * arm a b r.c; omega) (by show r.frame * arm a b r.c ≤ _; omega) rfl

end Go.Proofs.Ytideokfbnegkjaa
