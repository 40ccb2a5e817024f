/- A part of the proof: several texts, one behind the other. -/
import Derived.Test.YtmdbebbibecidaaLTakingsPaysB
set_option linter.unusedVariables false
set_option linter.unusedSimpArgs false
set_option maxRecDepth 100000
namespace Go.Proofs.Ytmdbebbibecidaa
open Go Ax
open Go.Proofs

structure Bra where
  from_ : Int
  per : Int
def cBr (b : Bra) : List AV := [.int .i64 b.from_, .int .i64 b.per]
def rowBr (l : List Bra) : List AV := l.flatMap cBr
theorem f45b : Try.f45.body = some (bodyAt Try.prog 45) := by kernel_rfl
def f45K0 (P : Program) : List Item := kAt 400 [.code (bodyAt P 45)] [.b false, .b false, .stop]
def f45S0 (c : Int) (l : (List Bra)) (i : Nat)  : St := ⟨[.junk, .rsl (rowBr l) 0 l.length, .junk, .junk, .junk, .junk, .junk, .junk, .junk, .junk, .junk, .junk, .junk, .junk, .junk, .junk, .junk, .junk, .junk, .junk, .junk, .rsl (rowBr l) 0 l.length, .int .i64 ((l.length : Nat) : Int), .int .i64 ((i : Nat) : Int), .junk, .junk, .junk, .junk, .junk, .junk, .junk, .junk, .junk, .junk, .junk, .junk, .junk, .junk, .junk, .junk, .junk, .junk, .junk, .junk, .junk, .junk, .junk, .junk, .junk, .junk, .junk, .junk, .junk, .junk], []⟩
def f45G0 (E : Env) (c : Int) (l : (List Bra)) (i : Nat) : Prop := G Try.prog E (f45K0 Try.prog) (f45S0 c l i )
theorem p45_start_0 (c : Int) (l : (List Bra))   {E : Env} {res : AV} (hE : PureE Try.prog 45 res E) (o0 : PureF Try.prog (.clos 41 [] []) [.int .i64 c] (.bool (amount c))) (o1 : (!(amount c)) = true)
    (hr : AvLe (.int .i64 1) res) : G Try.prog E [.code (bodyAt Try.prog 45)] ⟨[.int .i64 c, .rsl (rowBr l) 0 l.length] ++ unds (Try.f45.ntmps - 2), []⟩ :=
  end_stepL (n := 400) (evs := [.v (.bool (amount c)), .b true]) (obs := [PureF Try.prog (.clos 41 [] []) [.int .i64 c] (.bool (amount c)), (!(amount c)) = true]) hE Try.func45 mixed (by kernel_rfl) ⟨o0, o1, trivial⟩ hr
theorem p45_start_1 (c : Int) (l : (List Bra))   {E : Env} {res : AV} (hE : PureE Try.prog 45 res E) (o0 : PureF Try.prog (.clos 41 [] []) [.int .i64 c] (.bool (amount c))) (o1 : (!(amount c)) = false) (o2 : PureF Try.prog (.clos 49 [] []) [.int .i64 ((l.length : Nat) : Int), .int .i64 1, .int .i64 8] (.bool (within ((l.length : Nat) : Int) 1 8))) (o3 : (!(within ((l.length : Nat) : Int) 1 8)) = true)
    (hr : AvLe (.int .i64 110) res) : G Try.prog E [.code (bodyAt Try.prog 45)] ⟨[.int .i64 c, .rsl (rowBr l) 0 l.length] ++ unds (Try.f45.ntmps - 2), []⟩ :=
  end_stepL (n := 400) (evs := [.v (.bool (amount c)), .b false, .v (.bool (within ((l.length : Nat) : Int) 1 8)), .b true, .b true]) (obs := [PureF Try.prog (.clos 41 [] []) [.int .i64 c] (.bool (amount c)), (!(amount c)) = false, PureF Try.prog (.clos 49 [] []) [.int .i64 ((l.length : Nat) : Int), .int .i64 1, .int .i64 8] (.bool (within ((l.length : Nat) : Int) 1 8)), (!(within ((l.length : Nat) : Int) 1 8)) = true, true = true]) hE Try.func45 mixed (by kernel_rfl) ⟨o0, o1, o2, o3, (rfl), trivial⟩ hr
theorem p45_start_2 (c : Int) (l : (List Bra))  (be : Bra)  {E : Env} {res : AV} (hE : PureE Try.prog 45 res E) (o0 : PureF Try.prog (.clos 41 [] []) [.int .i64 c] (.bool (amount c))) (o1 : (!(amount c)) = false) (o2 : PureF Try.prog (.clos 49 [] []) [.int .i64 ((l.length : Nat) : Int), .int .i64 1, .int .i64 8] (.bool (within ((l.length : Nat) : Int) 1 8))) (o3 : (!(within ((l.length : Nat) : Int) 1 8)) = false) (o5 : (0 : Int) ≤ 0 ∧ (0 : Int) < ((l.length : Nat) : Int)) (o6 : ((rowBr l).drop ((0 + 0 * 2) + 0)).take 1 = [.int .i64 be.from_]) (o7 : (be.from_ != 0) = true)
    (hr : AvLe (.int .i64 110) res) : G Try.prog E [.code (bodyAt Try.prog 45)] ⟨[.int .i64 c, .rsl (rowBr l) 0 l.length] ++ unds (Try.f45.ntmps - 2), []⟩ :=
  end_stepL (n := 400) (evs := [.v (.bool (amount c)), .b false, .v (.bool (within ((l.length : Nat) : Int) 1 8)), .b false, .ld (.int .i64 be.from_), .b true]) (obs := [PureF Try.prog (.clos 41 [] []) [.int .i64 c] (.bool (amount c)), (!(amount c)) = false, PureF Try.prog (.clos 49 [] []) [.int .i64 ((l.length : Nat) : Int), .int .i64 1, .int .i64 8] (.bool (within ((l.length : Nat) : Int) 1 8)), (!(within ((l.length : Nat) : Int) 1 8)) = false, (0 : Int) ≤ 0 ∧ (0 : Int) < ((l.length : Nat) : Int), ((rowBr l).drop ((0 + 0 * 2) + 0)).take 1 = [.int .i64 be.from_], (be.from_ != 0) = true]) hE Try.func45 mixed (by kernel_rfl) ⟨o0, o1, o2, o3, o5, o6, o7, trivial⟩ hr
theorem p45_start_3 (c : Int) (l : (List Bra))  (be : Bra)  {E : Env} {rv : AV} (hE : PureE Try.prog 45 rv E) (o0 : PureF Try.prog (.clos 41 [] []) [.int .i64 c] (.bool (amount c))) (o1 : (!(amount c)) = false) (o2 : PureF Try.prog (.clos 49 [] []) [.int .i64 ((l.length : Nat) : Int), .int .i64 1, .int .i64 8] (.bool (within ((l.length : Nat) : Int) 1 8))) (o3 : (!(within ((l.length : Nat) : Int) 1 8)) = false) (o5 : (0 : Int) ≤ 0 ∧ (0 : Int) < ((l.length : Nat) : Int)) (o6 : ((rowBr l).drop ((0 + 0 * 2) + 0)).take 1 = [.int .i64 be.from_]) (o7 : (be.from_ != 0) = false)
    (hg : G Try.prog E (f45K0 Try.prog) ⟨[.junk, .rsl (rowBr l) 0 l.length, .junk, .junk, .junk, .junk, .junk, .junk, .junk, .junk, .junk, .junk, .junk, .junk, .junk, .junk, .junk, .junk, .junk, .junk, .junk, .rsl (rowBr l) 0 l.length, .int .i64 ((l.length : Nat) : Int), .int .i64 0, .junk, .junk, .junk, .junk, .junk, .junk, .junk, .junk, .junk, .junk, .junk, .junk, .junk, .junk, .junk, .junk, .junk, .junk, .junk, .junk, .junk, .junk, .junk, .junk, .junk, .junk, .junk, .junk, .junk, .junk], []⟩) : G Try.prog E [.code (bodyAt Try.prog 45)] ⟨[.int .i64 c, .rsl (rowBr l) 0 l.length] ++ unds (Try.f45.ntmps - 2), []⟩ :=
  segC_step (n := 400) (ds := []) (cs := []) (live := [1, 21, 22, 23]) (m := 0) (evs := [.v (.bool (amount c)), .b false, .v (.bool (within ((l.length : Nat) : Int) 1 8)), .b false, .ld (.int .i64 be.from_), .b false, .stop]) (obs := [PureF Try.prog (.clos 41 [] []) [.int .i64 c] (.bool (amount c)), (!(amount c)) = false, PureF Try.prog (.clos 49 [] []) [.int .i64 ((l.length : Nat) : Int), .int .i64 1, .int .i64 8] (.bool (within ((l.length : Nat) : Int) 1 8)), (!(within ((l.length : Nat) : Int) 1 8)) = false, (0 : Int) ≤ 0 ∧ (0 : Int) < ((l.length : Nat) : Int), ((rowBr l).drop ((0 + 0 * 2) + 0)).take 1 = [.int .i64 be.from_], (be.from_ != 0) = false]) hE.2.1 (hE.nogh _) mixed (by kernel_rfl) ⟨o0, o1, o2, o3, o5, o6, o7, trivial⟩ hg
theorem f45W (c : Int) (l : (List Bra)) {E : Env} {rv : Int} (hE : PureE Try.prog 45 (.int .i64 rv) E)
    (h : (((amount c) = false → rv = 1) ∧ ((amount c) = true → (((within ((l.length : Nat) : Int) 1 8) = false → rv = 110) ∧ ((within ((l.length : Nat) : Int) 1 8) = true → (∃ be : Bra, l[0]? = some be ∧ ((¬ (be.from_ = 0) → rv = 110) ∧ (be.from_ = 0 → f45G0 E c l 0)))))))) : G Try.prog E [.code (bodyAt Try.prog 45)] ⟨[.int .i64 c, .rsl (rowBr l) 0 l.length] ++ unds (Try.f45.ntmps - 2), []⟩ := by
  rcases Bool.eq_false_or_eq_true (!(amount c)) with hc0 | hc0
  · have h := h.1 (bnT hc0)
    exact p45_start_0 c l    hE (pureF_of Try.func41 (by kernel_rfl) f41b (amount_ok c)) hc0 (AvLe.of_eq (by rw [h]; try rfl))
  · have h := h.2 (bnF hc0)
    rcases Bool.eq_false_or_eq_true (!(within ((l.length : Nat) : Int) 1 8)) with hc1 | hc1
    · have h := h.1 (bnT hc1)
      exact p45_start_1 c l    hE (pureF_of Try.func41 (by kernel_rfl) f41b (amount_ok c)) hc0 (pureF_of Try.func49 (by kernel_rfl) f49b (within_ok ((l.length : Nat) : Int) 1 8)) hc1 (AvLe.of_eq (by rw [h]; try rfl))
    · have h := h.2 (bnF hc1)
      obtain ⟨be, h1, h⟩ := h
      rcases Bool.eq_false_or_eq_true (be.from_ != 0) with hc2 | hc2
      · have h := h.1 (bneT hc2)
        exact p45_start_2 c l   be hE (pureF_of Try.func41 (by kernel_rfl) f41b (amount_ok c)) hc0 (pureF_of Try.func49 (by kernel_rfl) f49b (within_ok ((l.length : Nat) : Int) 1 8)) hc1 (idx_ok h1) (row_part cBr (s := 2) (k := 0) (m := 1) (fun _ => rfl) (by decide) h1) hc2 (AvLe.of_eq (by rw [h]; try rfl))
      · have h := h.2 (bneF hc2)
        exact p45_start_3 c l   be hE (pureF_of Try.func41 (by kernel_rfl) f41b (amount_ok c)) hc0 (pureF_of Try.func49 (by kernel_rfl) f49b (within_ok ((l.length : Nat) : Int) 1 8)) hc1 (idx_ok h1) (row_part cBr (s := 2) (k := 0) (m := 1) (fun _ => rfl) (by decide) h1) hc2 h
theorem p45_0_0 (c : Int) (l : (List Bra)) (i : Nat)  (be : Bra)  {E : Env} {res : AV} (hE : PureE Try.prog 45 res E) (o0 : (decide (((i : Nat) : Int) < ((l.length : Nat) : Int))) = true) (o2 : 0 ≤ ((i : Nat) : Int) ∧ ((i : Nat) : Int) < ((l.length : Nat) : Int)) (o3 : ((rowBr l).drop (0 + (Int.toNat ((i : Nat) : Int)) * 2)).take 2 = [.int .i64 be.from_, .int .i64 be.per]) (o5 : PureF Try.prog (.clos 49 [] []) [.int .i64 be.from_, .int .i64 0, .int .i64 1000000000] (.bool (within be.from_ 0 1000000000))) (o6 : (!(within be.from_ 0 1000000000)) = true)
    (hr : AvLe (.int .i64 110) res) : G Try.prog E (f45K0 Try.prog) (f45S0 c l i ) :=
  end_stepL (n := 400) (evs := [.b true, .ld (.agg [.int .i64 be.from_, .int .i64 be.per]), .v (.bool (within be.from_ 0 1000000000)), .b true, .b true, .b true]) (obs := [(decide (((i : Nat) : Int) < ((l.length : Nat) : Int))) = true, 0 ≤ ((i : Nat) : Int) ∧ ((i : Nat) : Int) < ((l.length : Nat) : Int), ((rowBr l).drop (0 + (Int.toNat ((i : Nat) : Int)) * 2)).take 2 = [.int .i64 be.from_, .int .i64 be.per], 2 ≤ 2, PureF Try.prog (.clos 49 [] []) [.int .i64 be.from_, .int .i64 0, .int .i64 1000000000] (.bool (within be.from_ 0 1000000000)), (!(within be.from_ 0 1000000000)) = true, true = true, true = true]) hE Try.func45 mixed (by kernel_rfl) ⟨o0, o2, o3, (by decide), o5, o6, (rfl), (rfl), trivial⟩ hr
theorem p45_0_1 (c : Int) (l : (List Bra)) (i : Nat)  (be : Bra)  {E : Env} {res : AV} (hE : PureE Try.prog 45 res E) (o0 : (decide (((i : Nat) : Int) < ((l.length : Nat) : Int))) = true) (o2 : 0 ≤ ((i : Nat) : Int) ∧ ((i : Nat) : Int) < ((l.length : Nat) : Int)) (o3 : ((rowBr l).drop (0 + (Int.toNat ((i : Nat) : Int)) * 2)).take 2 = [.int .i64 be.from_, .int .i64 be.per]) (o5 : PureF Try.prog (.clos 49 [] []) [.int .i64 be.from_, .int .i64 0, .int .i64 1000000000] (.bool (within be.from_ 0 1000000000))) (o6 : (!(within be.from_ 0 1000000000)) = false) (o7 : PureF Try.prog (.clos 49 [] []) [.int .i64 be.per, .int .i64 0, .int .i64 100] (.bool (within be.per 0 100))) (o8 : (!(within be.per 0 100)) = true)
    (hr : AvLe (.int .i64 110) res) : G Try.prog E (f45K0 Try.prog) (f45S0 c l i ) :=
  end_stepL (n := 400) (evs := [.b true, .ld (.agg [.int .i64 be.from_, .int .i64 be.per]), .v (.bool (within be.from_ 0 1000000000)), .b false, .v (.bool (within be.per 0 100)), .b true, .b true]) (obs := [(decide (((i : Nat) : Int) < ((l.length : Nat) : Int))) = true, 0 ≤ ((i : Nat) : Int) ∧ ((i : Nat) : Int) < ((l.length : Nat) : Int), ((rowBr l).drop (0 + (Int.toNat ((i : Nat) : Int)) * 2)).take 2 = [.int .i64 be.from_, .int .i64 be.per], 2 ≤ 2, PureF Try.prog (.clos 49 [] []) [.int .i64 be.from_, .int .i64 0, .int .i64 1000000000] (.bool (within be.from_ 0 1000000000)), (!(within be.from_ 0 1000000000)) = false, PureF Try.prog (.clos 49 [] []) [.int .i64 be.per, .int .i64 0, .int .i64 100] (.bool (within be.per 0 100)), (!(within be.per 0 100)) = true, true = true]) hE Try.func45 mixed (by kernel_rfl) ⟨o0, o2, o3, (by decide), o5, o6, o7, o8, (rfl), trivial⟩ hr
theorem p45_0_2 (c : Int) (l : (List Bra)) (i : Nat)  (be : Bra) (be1 : Bra)  {E : Env} {res : AV} (hE : PureE Try.prog 45 res E) (o0 : (decide (((i : Nat) : Int) < ((l.length : Nat) : Int))) = true) (o2 : 0 ≤ ((i : Nat) : Int) ∧ ((i : Nat) : Int) < ((l.length : Nat) : Int)) (o3 : ((rowBr l).drop (0 + (Int.toNat ((i : Nat) : Int)) * 2)).take 2 = [.int .i64 be.from_, .int .i64 be.per]) (o5 : PureF Try.prog (.clos 49 [] []) [.int .i64 be.from_, .int .i64 0, .int .i64 1000000000] (.bool (within be.from_ 0 1000000000))) (o6 : (!(within be.from_ 0 1000000000)) = false) (o7 : PureF Try.prog (.clos 49 [] []) [.int .i64 be.per, .int .i64 0, .int .i64 100] (.bool (within be.per 0 100))) (o8 : (!(within be.per 0 100)) = false) (o9 : (decide (((i : Nat) : Int) > 0)) = true) (o10 : InR .i64 (((i : Nat) : Int) - 1)) (o12 : 0 ≤ (((i : Nat) : Int) - 1) ∧ (((i : Nat) : Int) - 1) < ((l.length : Nat) : Int)) (o13 : ((rowBr l).drop ((0 + (Int.toNat (((i : Nat) : Int) - 1)) * 2) + 0)).take 1 = [.int .i64 be1.from_]) (o14 : (decide (be.from_ ≤ be1.from_)) = true)
    (hr : AvLe (.int .i64 110) res) : G Try.prog E (f45K0 Try.prog) (f45S0 c l i ) :=
  end_stepL (n := 400) (evs := [.b true, .ld (.agg [.int .i64 be.from_, .int .i64 be.per]), .v (.bool (within be.from_ 0 1000000000)), .b false, .v (.bool (within be.per 0 100)), .b false, .b true, .auto, .ld (.int .i64 be1.from_), .b true]) (obs := [(decide (((i : Nat) : Int) < ((l.length : Nat) : Int))) = true, 0 ≤ ((i : Nat) : Int) ∧ ((i : Nat) : Int) < ((l.length : Nat) : Int), ((rowBr l).drop (0 + (Int.toNat ((i : Nat) : Int)) * 2)).take 2 = [.int .i64 be.from_, .int .i64 be.per], 2 ≤ 2, PureF Try.prog (.clos 49 [] []) [.int .i64 be.from_, .int .i64 0, .int .i64 1000000000] (.bool (within be.from_ 0 1000000000)), (!(within be.from_ 0 1000000000)) = false, PureF Try.prog (.clos 49 [] []) [.int .i64 be.per, .int .i64 0, .int .i64 100] (.bool (within be.per 0 100)), (!(within be.per 0 100)) = false, (decide (((i : Nat) : Int) > 0)) = true, InR .i64 (((i : Nat) : Int) - 1), 0 ≤ (((i : Nat) : Int) - 1) ∧ (((i : Nat) : Int) - 1) < ((l.length : Nat) : Int), ((rowBr l).drop ((0 + (Int.toNat (((i : Nat) : Int) - 1)) * 2) + 0)).take 1 = [.int .i64 be1.from_], (decide (be.from_ ≤ be1.from_)) = true]) hE Try.func45 mixed (by kernel_rfl) ⟨o0, o2, o3, (by decide), o5, o6, o7, o8, o9, o10, o12, o13, o14, trivial⟩ hr
theorem p45_0_3 (c : Int) (l : (List Bra)) (i : Nat)  (be : Bra) (be1 : Bra)  {E : Env} {rv : AV} (hE : PureE Try.prog 45 rv E) (o0 : (decide (((i : Nat) : Int) < ((l.length : Nat) : Int))) = true) (o2 : 0 ≤ ((i : Nat) : Int) ∧ ((i : Nat) : Int) < ((l.length : Nat) : Int)) (o3 : ((rowBr l).drop (0 + (Int.toNat ((i : Nat) : Int)) * 2)).take 2 = [.int .i64 be.from_, .int .i64 be.per]) (o5 : PureF Try.prog (.clos 49 [] []) [.int .i64 be.from_, .int .i64 0, .int .i64 1000000000] (.bool (within be.from_ 0 1000000000))) (o6 : (!(within be.from_ 0 1000000000)) = false) (o7 : PureF Try.prog (.clos 49 [] []) [.int .i64 be.per, .int .i64 0, .int .i64 100] (.bool (within be.per 0 100))) (o8 : (!(within be.per 0 100)) = false) (o9 : (decide (((i : Nat) : Int) > 0)) = true) (o10 : InR .i64 (((i : Nat) : Int) - 1)) (o12 : 0 ≤ (((i : Nat) : Int) - 1) ∧ (((i : Nat) : Int) - 1) < ((l.length : Nat) : Int)) (o13 : ((rowBr l).drop ((0 + (Int.toNat (((i : Nat) : Int) - 1)) * 2) + 0)).take 1 = [.int .i64 be1.from_]) (o14 : (decide (be.from_ ≤ be1.from_)) = false) (o15 : InR .i64 (((i : Nat) : Int) + 1))
    (hg : G Try.prog E (f45K0 Try.prog) ⟨[.junk, .rsl (rowBr l) 0 l.length, .junk, .junk, .junk, .junk, .junk, .junk, .junk, .junk, .junk, .junk, .junk, .junk, .junk, .junk, .junk, .junk, .junk, .junk, .junk, .rsl (rowBr l) 0 l.length, .int .i64 ((l.length : Nat) : Int), .int .i64 (((i : Nat) : Int) + 1), .junk, .junk, .junk, .junk, .junk, .junk, .junk, .junk, .junk, .junk, .junk, .junk, .junk, .junk, .junk, .junk, .junk, .junk, .junk, .junk, .junk, .junk, .junk, .junk, .junk, .junk, .junk, .junk, .junk, .junk], []⟩) : G Try.prog E (f45K0 Try.prog) (f45S0 c l i ) :=
  segC_step (n := 400) (ds := []) (cs := []) (live := [1, 21, 22, 23]) (m := 0) (evs := [.b true, .ld (.agg [.int .i64 be.from_, .int .i64 be.per]), .v (.bool (within be.from_ 0 1000000000)), .b false, .v (.bool (within be.per 0 100)), .b false, .b true, .auto, .ld (.int .i64 be1.from_), .b false, .stop]) (obs := [(decide (((i : Nat) : Int) < ((l.length : Nat) : Int))) = true, 0 ≤ ((i : Nat) : Int) ∧ ((i : Nat) : Int) < ((l.length : Nat) : Int), ((rowBr l).drop (0 + (Int.toNat ((i : Nat) : Int)) * 2)).take 2 = [.int .i64 be.from_, .int .i64 be.per], 2 ≤ 2, PureF Try.prog (.clos 49 [] []) [.int .i64 be.from_, .int .i64 0, .int .i64 1000000000] (.bool (within be.from_ 0 1000000000)), (!(within be.from_ 0 1000000000)) = false, PureF Try.prog (.clos 49 [] []) [.int .i64 be.per, .int .i64 0, .int .i64 100] (.bool (within be.per 0 100)), (!(within be.per 0 100)) = false, (decide (((i : Nat) : Int) > 0)) = true, InR .i64 (((i : Nat) : Int) - 1), 0 ≤ (((i : Nat) : Int) - 1) ∧ (((i : Nat) : Int) - 1) < ((l.length : Nat) : Int), ((rowBr l).drop ((0 + (Int.toNat (((i : Nat) : Int) - 1)) * 2) + 0)).take 1 = [.int .i64 be1.from_], (decide (be.from_ ≤ be1.from_)) = false, InR .i64 (((i : Nat) : Int) + 1)]) hE.2.1 (hE.nogh _) mixed (by kernel_rfl) ⟨o0, o2, o3, (by decide), o5, o6, o7, o8, o9, o10, o12, o13, o14, o15, trivial⟩ hg
theorem p45_0_4 (c : Int) (l : (List Bra)) (i : Nat)  (be : Bra)  {E : Env} {rv : AV} (hE : PureE Try.prog 45 rv E) (o0 : (decide (((i : Nat) : Int) < ((l.length : Nat) : Int))) = true) (o2 : 0 ≤ ((i : Nat) : Int) ∧ ((i : Nat) : Int) < ((l.length : Nat) : Int)) (o3 : ((rowBr l).drop (0 + (Int.toNat ((i : Nat) : Int)) * 2)).take 2 = [.int .i64 be.from_, .int .i64 be.per]) (o5 : PureF Try.prog (.clos 49 [] []) [.int .i64 be.from_, .int .i64 0, .int .i64 1000000000] (.bool (within be.from_ 0 1000000000))) (o6 : (!(within be.from_ 0 1000000000)) = false) (o7 : PureF Try.prog (.clos 49 [] []) [.int .i64 be.per, .int .i64 0, .int .i64 100] (.bool (within be.per 0 100))) (o8 : (!(within be.per 0 100)) = false) (o9 : (decide (((i : Nat) : Int) > 0)) = false) (o11 : InR .i64 (((i : Nat) : Int) + 1))
    (hg : G Try.prog E (f45K0 Try.prog) ⟨[.junk, .rsl (rowBr l) 0 l.length, .junk, .junk, .junk, .junk, .junk, .junk, .junk, .junk, .junk, .junk, .junk, .junk, .junk, .junk, .junk, .junk, .junk, .junk, .junk, .rsl (rowBr l) 0 l.length, .int .i64 ((l.length : Nat) : Int), .int .i64 (((i : Nat) : Int) + 1), .junk, .junk, .junk, .junk, .junk, .junk, .junk, .junk, .junk, .junk, .junk, .junk, .junk, .junk, .junk, .junk, .junk, .junk, .junk, .junk, .junk, .junk, .junk, .junk, .junk, .junk, .junk, .junk, .junk, .junk], []⟩) : G Try.prog E (f45K0 Try.prog) (f45S0 c l i ) :=
  segC_step (n := 400) (ds := []) (cs := []) (live := [1, 21, 22, 23]) (m := 0) (evs := [.b true, .ld (.agg [.int .i64 be.from_, .int .i64 be.per]), .v (.bool (within be.from_ 0 1000000000)), .b false, .v (.bool (within be.per 0 100)), .b false, .b false, .b false, .stop]) (obs := [(decide (((i : Nat) : Int) < ((l.length : Nat) : Int))) = true, 0 ≤ ((i : Nat) : Int) ∧ ((i : Nat) : Int) < ((l.length : Nat) : Int), ((rowBr l).drop (0 + (Int.toNat ((i : Nat) : Int)) * 2)).take 2 = [.int .i64 be.from_, .int .i64 be.per], 2 ≤ 2, PureF Try.prog (.clos 49 [] []) [.int .i64 be.from_, .int .i64 0, .int .i64 1000000000] (.bool (within be.from_ 0 1000000000)), (!(within be.from_ 0 1000000000)) = false, PureF Try.prog (.clos 49 [] []) [.int .i64 be.per, .int .i64 0, .int .i64 100] (.bool (within be.per 0 100)), (!(within be.per 0 100)) = false, (decide (((i : Nat) : Int) > 0)) = false, false = false, InR .i64 (((i : Nat) : Int) + 1)]) hE.2.1 (hE.nogh _) mixed (by kernel_rfl) ⟨o0, o2, o3, (by decide), o5, o6, o7, o8, o9, (rfl), o11, trivial⟩ hg
theorem p45_0_5 (c : Int) (l : (List Bra)) (i : Nat)   {E : Env} {res : AV} (hE : PureE Try.prog 45 res E) (o0 : (decide (((i : Nat) : Int) < ((l.length : Nat) : Int))) = false)
    (hr : AvLe (.int .i64 0) res) : G Try.prog E (f45K0 Try.prog) (f45S0 c l i ) :=
  end_stepL (n := 400) (evs := [.b false]) (obs := [(decide (((i : Nat) : Int) < ((l.length : Nat) : Int))) = false]) hE Try.func45 mixed (by kernel_rfl) ⟨o0, trivial⟩ hr
theorem f45W0 (c : Int) (l : (List Bra)) (i : Nat) {E : Env} {rv : Int} (hE : PureE Try.prog 45 (.int .i64 rv) E)
    (h : ((((i : Nat) : Int) < ((l.length : Nat) : Int) → (∃ be : Bra, l[i]? = some be ∧ (((within be.from_ 0 1000000000) = false → rv = 110) ∧ ((within be.from_ 0 1000000000) = true → (((within be.per 0 100) = false → rv = 110) ∧ ((within be.per 0 100) = true → ((((i : Nat) : Int) > 0 → ((-9223372036854775808 ≤ ((i : Nat) : Int) - 1 ∧ ((i : Nat) : Int) - 1 ≤ 9223372036854775807) ∧ (0 ≤ (((i : Nat) : Int) - 1) ∧ (∃ be1 : Bra, l[Int.toNat (((i : Nat) : Int) - 1)]? = some be1 ∧ ((be.from_ ≤ be1.from_ → rv = 110) ∧ (¬ (be.from_ ≤ be1.from_) → ((-9223372036854775808 ≤ ((i : Nat) : Int) + 1 ∧ ((i : Nat) : Int) + 1 ≤ 9223372036854775807) ∧ f45G0 E c l (i + 1)))))))) ∧ (¬ (((i : Nat) : Int) > 0) → ((-9223372036854775808 ≤ ((i : Nat) : Int) + 1 ∧ ((i : Nat) : Int) + 1 ≤ 9223372036854775807) ∧ f45G0 E c l (i + 1)))))))))) ∧ (¬ (((i : Nat) : Int) < ((l.length : Nat) : Int)) → rv = 0))) : f45G0 E c l i := by
  rcases Bool.eq_false_or_eq_true (decide (((i : Nat) : Int) < ((l.length : Nat) : Int))) with hc0 | hc0
  · have h := h.1 (of_decide_eq_true hc0)
    obtain ⟨be, h1, h⟩ := h
    rcases Bool.eq_false_or_eq_true (!(within be.from_ 0 1000000000)) with hc1 | hc1
    · have h := h.1 (bnT hc1)
      exact p45_0_0 c l i  be hE hc0 (idx_ok h1) (row_part cBr (s := 2) (k := 0) (m := 2) (fun _ => rfl) (by decide) h1) (pureF_of Try.func49 (by kernel_rfl) f49b (within_ok be.from_ 0 1000000000)) hc1 (AvLe.of_eq (by rw [h]; try rfl))
    · have h := h.2 (bnF hc1)
      rcases Bool.eq_false_or_eq_true (!(within be.per 0 100)) with hc2 | hc2
      · have h := h.1 (bnT hc2)
        exact p45_0_1 c l i  be hE hc0 (idx_ok h1) (row_part cBr (s := 2) (k := 0) (m := 2) (fun _ => rfl) (by decide) h1) (pureF_of Try.func49 (by kernel_rfl) f49b (within_ok be.from_ 0 1000000000)) hc1 (pureF_of Try.func49 (by kernel_rfl) f49b (within_ok be.per 0 100)) hc2 (AvLe.of_eq (by rw [h]; try rfl))
      · have h := h.2 (bnF hc2)
        rcases Bool.eq_false_or_eq_true (decide (((i : Nat) : Int) > 0)) with hc3 | hc3
        · have h := h.1 (of_decide_eq_true hc3)
          obtain ⟨q10_4, h⟩ := h
          obtain ⟨h3, h⟩ := h
          obtain ⟨be1, h2, h⟩ := h
          rcases Bool.eq_false_or_eq_true (decide (be.from_ ≤ be1.from_)) with hc4 | hc4
          · have h := h.1 (of_decide_eq_true hc4)
            exact p45_0_2 c l i  be be1 hE hc0 (idx_ok h1) (row_part cBr (s := 2) (k := 0) (m := 2) (fun _ => rfl) (by decide) h1) (pureF_of Try.func49 (by kernel_rfl) f49b (within_ok be.from_ 0 1000000000)) hc1 (pureF_of Try.func49 (by kernel_rfl) f49b (within_ok be.per 0 100)) hc2 hc3 q10_4 (idx_ok' h3 h2) (row_part cBr (s := 2) (k := 0) (m := 1) (fun _ => rfl) (by decide) h2) hc4 (AvLe.of_eq (by rw [h]; try rfl))
          · have h := h.2 (of_decide_eq_false hc4)
            obtain ⟨q15_5, h⟩ := h
            exact p45_0_3 c l i  be be1 hE hc0 (idx_ok h1) (row_part cBr (s := 2) (k := 0) (m := 2) (fun _ => rfl) (by decide) h1) (pureF_of Try.func49 (by kernel_rfl) f49b (within_ok be.from_ 0 1000000000)) hc1 (pureF_of Try.func49 (by kernel_rfl) f49b (within_ok be.per 0 100)) hc2 hc3 q10_4 (idx_ok' h3 h2) (row_part cBr (s := 2) (k := 0) (m := 1) (fun _ => rfl) (by decide) h2) hc4 q15_5 h
        · have h := h.2 (of_decide_eq_false hc3)
          obtain ⟨q11_4, h⟩ := h
          exact p45_0_4 c l i  be hE hc0 (idx_ok h1) (row_part cBr (s := 2) (k := 0) (m := 2) (fun _ => rfl) (by decide) h1) (pureF_of Try.func49 (by kernel_rfl) f49b (within_ok be.from_ 0 1000000000)) hc1 (pureF_of Try.func49 (by kernel_rfl) f49b (within_ok be.per 0 100)) hc2 hc3 q11_4 h
  · have h := h.2 (of_decide_eq_false hc0)
    exact p45_0_5 c l i   hE hc0 (AvLe.of_eq (by rw [h]; try rfl))
theorem f46b : Try.f46.body = some (bodyAt Try.prog 46) := by kernel_rfl
def f46K0 (P : Program) : List Item := kAt 400 [.code (bodyAt P 46)] [.stop]
def f46S0 (c : Int) (l : (List Bra)) (hundredths : Int) (i : Nat)  : St := ⟨[.int .i64 c, .rsl (rowBr l) 0 l.length, .junk, .junk, .int .i64 hundredths, .junk, .junk, .junk, .rsl (rowBr l) 0 l.length, .int .i64 ((l.length : Nat) : Int), .int .i64 ((i : Nat) : Int), .junk, .junk, .junk, .junk, .junk, .junk, .junk, .junk, .junk, .junk, .junk, .junk, .junk, .junk, .junk, .junk, .junk, .junk, .junk, .junk, .junk, .junk, .junk, .junk, .junk, .junk, .junk, .junk, .junk, .junk, .junk], []⟩
def f46G0 (E : Env) (c : Int) (l : (List Bra)) (hundredths : Int) (i : Nat) : Prop := G Try.prog E (f46K0 Try.prog) (f46S0 c l hundredths i )
theorem p46_start_0 (c : Int) (l : (List Bra))   {E : Env} {rv : AV} (hE : PureE Try.prog 46 rv E) 
    (hg : G Try.prog E (f46K0 Try.prog) ⟨[.int .i64 c, .rsl (rowBr l) 0 l.length, .junk, .junk, .int .i64 0, .junk, .junk, .junk, .rsl (rowBr l) 0 l.length, .int .i64 ((l.length : Nat) : Int), .int .i64 0, .junk, .junk, .junk, .junk, .junk, .junk, .junk, .junk, .junk, .junk, .junk, .junk, .junk, .junk, .junk, .junk, .junk, .junk, .junk, .junk, .junk, .junk, .junk, .junk, .junk, .junk, .junk, .junk, .junk, .junk, .junk], []⟩) : G Try.prog E [.code (bodyAt Try.prog 46)] ⟨[.int .i64 c, .rsl (rowBr l) 0 l.length] ++ unds (Try.f46.ntmps - 2), []⟩ :=
  segC_step (n := 400) (ds := []) (cs := []) (live := [0, 1, 4, 8, 9, 10]) (m := 0) (evs := [.stop]) (obs := []) hE.2.1 (hE.nogh _) mixed (by kernel_rfl) trivial hg
theorem f46W (c : Int) (l : (List Bra)) {E : Env} {rv : Int} (hE : PureE Try.prog 46 (.int .i64 rv) E)
    (h : f46G0 E c l 0 0) : G Try.prog E [.code (bodyAt Try.prog 46)] ⟨[.int .i64 c, .rsl (rowBr l) 0 l.length] ++ unds (Try.f46.ntmps - 2), []⟩ := by
  exact p46_start_0 c l    hE  h
theorem p46_0_0 (c : Int) (l : (List Bra)) (hundredths : Int) (i : Nat)  (be : Bra) (be1 : Bra)  {E : Env} {rv : AV} (hE : PureE Try.prog 46 rv E) (o0 : (decide (((i : Nat) : Int) < ((l.length : Nat) : Int))) = true) (o2 : 0 ≤ ((i : Nat) : Int) ∧ ((i : Nat) : Int) < ((l.length : Nat) : Int)) (o3 : ((rowBr l).drop (0 + (Int.toNat ((i : Nat) : Int)) * 2)).take 2 = [.int .i64 be.from_, .int .i64 be.per]) (o5 : InR .i64 (((i : Nat) : Int) + 1)) (o6 : (decide ((((i : Nat) : Int) + 1) < ((l.length : Nat) : Int))) = true) (o7 : InR .i64 (((i : Nat) : Int) + 1)) (o9 : 0 ≤ (((i : Nat) : Int) + 1) ∧ (((i : Nat) : Int) + 1) < ((l.length : Nat) : Int)) (o10 : ((rowBr l).drop ((0 + (Int.toNat (((i : Nat) : Int) + 1)) * 2) + 0)).take 1 = [.int .i64 be1.from_]) (o11 : InR .i64 ((iMin c be1.from_) - be.from_)) (o12 : InR .i64 ((iMax 0 ((iMin c be1.from_) - be.from_)) * be.per)) (o13 : InR .i64 (hundredths + ((iMax 0 ((iMin c be1.from_) - be.from_)) * be.per))) (o14 : InR .i64 (((i : Nat) : Int) + 1))
    (hg : G Try.prog E (f46K0 Try.prog) ⟨[.int .i64 c, .rsl (rowBr l) 0 l.length, .junk, .junk, .int .i64 (hundredths + ((iMax 0 ((iMin c be1.from_) - be.from_)) * be.per)), .junk, .junk, .junk, .rsl (rowBr l) 0 l.length, .int .i64 ((l.length : Nat) : Int), .int .i64 (((i : Nat) : Int) + 1), .junk, .junk, .junk, .junk, .junk, .junk, .junk, .junk, .junk, .junk, .junk, .junk, .junk, .junk, .junk, .junk, .junk, .junk, .junk, .junk, .junk, .junk, .junk, .junk, .junk, .junk, .junk, .junk, .junk, .junk, .junk], []⟩) : G Try.prog E (f46K0 Try.prog) (f46S0 c l hundredths i ) :=
  segC_step (n := 400) (ds := []) (cs := []) (live := [0, 1, 4, 8, 9, 10]) (m := 0) (evs := [.b true, .ld (.agg [.int .i64 be.from_, .int .i64 be.per]), .b true, .ld (.int .i64 be1.from_), .stop]) (obs := [(decide (((i : Nat) : Int) < ((l.length : Nat) : Int))) = true, 0 ≤ ((i : Nat) : Int) ∧ ((i : Nat) : Int) < ((l.length : Nat) : Int), ((rowBr l).drop (0 + (Int.toNat ((i : Nat) : Int)) * 2)).take 2 = [.int .i64 be.from_, .int .i64 be.per], 2 ≤ 2, InR .i64 (((i : Nat) : Int) + 1), (decide ((((i : Nat) : Int) + 1) < ((l.length : Nat) : Int))) = true, InR .i64 (((i : Nat) : Int) + 1), 0 ≤ (((i : Nat) : Int) + 1) ∧ (((i : Nat) : Int) + 1) < ((l.length : Nat) : Int), ((rowBr l).drop ((0 + (Int.toNat (((i : Nat) : Int) + 1)) * 2) + 0)).take 1 = [.int .i64 be1.from_], InR .i64 ((iMin c be1.from_) - be.from_), InR .i64 ((iMax 0 ((iMin c be1.from_) - be.from_)) * be.per), InR .i64 (hundredths + ((iMax 0 ((iMin c be1.from_) - be.from_)) * be.per)), InR .i64 (((i : Nat) : Int) + 1)]) hE.2.1 (hE.nogh _) mixed (by kernel_rfl) ⟨o0, o2, o3, (by decide), o5, o6, o7, o9, o10, o11, o12, o13, o14, trivial⟩ hg
theorem p46_0_1 (c : Int) (l : (List Bra)) (hundredths : Int) (i : Nat)  (be : Bra)  {E : Env} {rv : AV} (hE : PureE Try.prog 46 rv E) (o0 : (decide (((i : Nat) : Int) < ((l.length : Nat) : Int))) = true) (o2 : 0 ≤ ((i : Nat) : Int) ∧ ((i : Nat) : Int) < ((l.length : Nat) : Int)) (o3 : ((rowBr l).drop (0 + (Int.toNat ((i : Nat) : Int)) * 2)).take 2 = [.int .i64 be.from_, .int .i64 be.per]) (o5 : InR .i64 (((i : Nat) : Int) + 1)) (o6 : (decide ((((i : Nat) : Int) + 1) < ((l.length : Nat) : Int))) = false) (o7 : InR .i64 (c - be.from_)) (o8 : InR .i64 ((iMax 0 (c - be.from_)) * be.per)) (o9 : InR .i64 (hundredths + ((iMax 0 (c - be.from_)) * be.per))) (o10 : InR .i64 (((i : Nat) : Int) + 1))
    (hg : G Try.prog E (f46K0 Try.prog) ⟨[.int .i64 c, .rsl (rowBr l) 0 l.length, .junk, .junk, .int .i64 (hundredths + ((iMax 0 (c - be.from_)) * be.per)), .junk, .junk, .junk, .rsl (rowBr l) 0 l.length, .int .i64 ((l.length : Nat) : Int), .int .i64 (((i : Nat) : Int) + 1), .junk, .junk, .junk, .junk, .junk, .junk, .junk, .junk, .junk, .junk, .junk, .junk, .junk, .junk, .junk, .junk, .junk, .junk, .junk, .junk, .junk, .junk, .junk, .junk, .junk, .junk, .junk, .junk, .junk, .junk, .junk], []⟩) : G Try.prog E (f46K0 Try.prog) (f46S0 c l hundredths i ) :=
  segC_step (n := 400) (ds := []) (cs := []) (live := [0, 1, 4, 8, 9, 10]) (m := 0) (evs := [.b true, .ld (.agg [.int .i64 be.from_, .int .i64 be.per]), .b false, .stop]) (obs := [(decide (((i : Nat) : Int) < ((l.length : Nat) : Int))) = true, 0 ≤ ((i : Nat) : Int) ∧ ((i : Nat) : Int) < ((l.length : Nat) : Int), ((rowBr l).drop (0 + (Int.toNat ((i : Nat) : Int)) * 2)).take 2 = [.int .i64 be.from_, .int .i64 be.per], 2 ≤ 2, InR .i64 (((i : Nat) : Int) + 1), (decide ((((i : Nat) : Int) + 1) < ((l.length : Nat) : Int))) = false, InR .i64 (c - be.from_), InR .i64 ((iMax 0 (c - be.from_)) * be.per), InR .i64 (hundredths + ((iMax 0 (c - be.from_)) * be.per)), InR .i64 (((i : Nat) : Int) + 1)]) hE.2.1 (hE.nogh _) mixed (by kernel_rfl) ⟨o0, o2, o3, (by decide), o5, o6, o7, o8, o9, o10, trivial⟩ hg
theorem p46_0_2 (c : Int) (l : (List Bra)) (hundredths : Int) (i : Nat)   {E : Env} {res : AV} (hE : PureE Try.prog 46 res E) (o0 : (decide (((i : Nat) : Int) < ((l.length : Nat) : Int))) = false) (o1 : InR .i64 (Int.tdiv hundredths 100))
    (hr : AvLe (.int .i64 (Int.tdiv hundredths 100)) res) : G Try.prog E (f46K0 Try.prog) (f46S0 c l hundredths i ) :=
  end_stepL (n := 400) (evs := [.b false]) (obs := [(decide (((i : Nat) : Int) < ((l.length : Nat) : Int))) = false, InR .i64 (Int.tdiv hundredths 100), (100 : Int) ≠ 0]) hE Try.func46 mixed (by kernel_rfl) ⟨o0, o1, (by decide), trivial⟩ hr
theorem f46W0 (c : Int) (l : (List Bra)) (hundredths : Int) (i : Nat) {E : Env} {rv : Int} (hE : PureE Try.prog 46 (.int .i64 rv) E)
    (h : ((((i : Nat) : Int) < ((l.length : Nat) : Int) → (∃ be : Bra, l[i]? = some be ∧ ((-9223372036854775808 ≤ ((i : Nat) : Int) + 1 ∧ ((i : Nat) : Int) + 1 ≤ 9223372036854775807) ∧ (((((i : Nat) : Int) + 1) < ((l.length : Nat) : Int) → ((-9223372036854775808 ≤ ((i : Nat) : Int) + 1 ∧ ((i : Nat) : Int) + 1 ≤ 9223372036854775807) ∧ (∃ be1 : Bra, l[i + 1]? = some be1 ∧ ((-9223372036854775808 ≤ (iMin c be1.from_) - be.from_ ∧ (iMin c be1.from_) - be.from_ ≤ 9223372036854775807) ∧ ((-9223372036854775808 ≤ (iMax 0 ((iMin c be1.from_) - be.from_)) * be.per ∧ (iMax 0 ((iMin c be1.from_) - be.from_)) * be.per ≤ 9223372036854775807) ∧ ((-9223372036854775808 ≤ hundredths + ((iMax 0 ((iMin c be1.from_) - be.from_)) * be.per) ∧ hundredths + ((iMax 0 ((iMin c be1.from_) - be.from_)) * be.per) ≤ 9223372036854775807) ∧ ((-9223372036854775808 ≤ ((i : Nat) : Int) + 1 ∧ ((i : Nat) : Int) + 1 ≤ 9223372036854775807) ∧ f46G0 E c l (hundredths + ((iMax 0 ((iMin c be1.from_) - be.from_)) * be.per)) (i + 1)))))))) ∧ (¬ ((((i : Nat) : Int) + 1) < ((l.length : Nat) : Int)) → ((-9223372036854775808 ≤ c - be.from_ ∧ c - be.from_ ≤ 9223372036854775807) ∧ ((-9223372036854775808 ≤ (iMax 0 (c - be.from_)) * be.per ∧ (iMax 0 (c - be.from_)) * be.per ≤ 9223372036854775807) ∧ ((-9223372036854775808 ≤ hundredths + ((iMax 0 (c - be.from_)) * be.per) ∧ hundredths + ((iMax 0 (c - be.from_)) * be.per) ≤ 9223372036854775807) ∧ ((-9223372036854775808 ≤ ((i : Nat) : Int) + 1 ∧ ((i : Nat) : Int) + 1 ≤ 9223372036854775807) ∧ f46G0 E c l (hundredths + ((iMax 0 (c - be.from_)) * be.per)) (i + 1)))))))))) ∧ (¬ (((i : Nat) : Int) < ((l.length : Nat) : Int)) → ((-9223372036854775808 ≤ Int.tdiv hundredths 100 ∧ Int.tdiv hundredths 100 ≤ 9223372036854775807) ∧ rv = (Int.tdiv hundredths 100))))) : f46G0 E c l hundredths i := by
  rcases Bool.eq_false_or_eq_true (decide (((i : Nat) : Int) < ((l.length : Nat) : Int))) with hc0 | hc0
  · have h := h.1 (of_decide_eq_true hc0)
    obtain ⟨be, h1, h⟩ := h
    obtain ⟨q5_1, h⟩ := h
    rcases Bool.eq_false_or_eq_true (decide ((((i : Nat) : Int) + 1) < ((l.length : Nat) : Int))) with hc1 | hc1
    · have h := h.1 (of_decide_eq_true hc1)
      obtain ⟨q7_2, h⟩ := h
      obtain ⟨be1, h2, h⟩ := h
      obtain ⟨q11_2, h⟩ := h
      obtain ⟨q12_2, h⟩ := h
      obtain ⟨q13_2, h⟩ := h
      obtain ⟨q14_2, h⟩ := h
      exact p46_0_0 c l hundredths i  be be1 hE hc0 (idx_ok h1) (row_part cBr (s := 2) (k := 0) (m := 2) (fun _ => rfl) (by decide) h1) q5_1 hc1 q7_2 (idx_ok h2) (row_part cBr (s := 2) (k := 0) (m := 1) (fun _ => rfl) (by decide) h2) q11_2 q12_2 q13_2 q14_2 h
    · have h := h.2 (of_decide_eq_false hc1)
      obtain ⟨q7_2, h⟩ := h
      obtain ⟨q8_2, h⟩ := h
      obtain ⟨q9_2, h⟩ := h
      obtain ⟨q10_2, h⟩ := h
      exact p46_0_1 c l hundredths i  be hE hc0 (idx_ok h1) (row_part cBr (s := 2) (k := 0) (m := 2) (fun _ => rfl) (by decide) h1) q5_1 hc1 q7_2 q8_2 q9_2 q10_2 h
  · have h := h.2 (of_decide_eq_false hc0)
    obtain ⟨q1_1, h⟩ := h
    exact p46_0_2 c l hundredths i   hE hc0 q1_1 (AvLe.of_eq (by rw [h]; try rfl))
def bAt (l : List Bra) (i : Nat) : Bra := l.getD i ⟨0, 0⟩
def badAt (l : List Bra) (i : Nat) : Bool := !within (bAt l i).from_ 0 1000000000 || (!within (bAt l i).per 0 100 || (decide (i > 0) && decide ((bAt l i).from_ ≤ (bAt l (i - 1)).from_)))
def chkFrom (l : List Bra) : Nat → Nat → Bool
  | 0, _ => true
  | d + 1, i => !badAt l i && chkFrom l d (i + 1)
def brOk (l : List Bra) : Bool := within l.length 1 8 && (decide ((bAt l 0).from_ = 0) && chkFrom l l.length 0)
def checkTaxK (c : Int) (l : List Bra) : Int := if amount c = false then 1 else if brOk l = false then 110 else 0

theorem bAt_get {l : List Bra} {i : Nat} (h : i < l.length) : l[i]? = some (bAt l i) := by simp [bAt, List.getD, h]

theorem checkTax_ok (c : Int) (l : List Bra) (h : l.length ≤ 9223372036854775807) : Pure Try.prog 45 [.int .i64 c, .rsl (rowBr l) 0 l.length] (.int .i64 (checkTaxK c l)) := pure_of Try.func45 f45b fun E hE => by
  refine f45W c l (rv := checkTaxK c l) hE ⟨fun h1 => by simp [checkTaxK, h1], fun h1 => ⟨fun h2 => by simp [checkTaxK, brOk, h1, h2], fun h2 => ?_⟩⟩
  have hl := within_iff.1 h2
  refine ⟨bAt l 0, bAt_get (by omega), fun h3 => by simp [checkTaxK, brOk, h1, h2, h3], fun h3 => ?_⟩
  have hr : checkTaxK c l = if chkFrom l l.length 0 = false then 110 else 0 := by simp [checkTaxK, brOk, h1, h2, h3]
  have key : ∀ (d i : Nat), i + d = l.length → (checkTaxK c l = if chkFrom l d i = false then 110 else 0) → f45G0 E c l i := by
    intro d
    induction d with
    | zero => intro i hd hr; exact f45W0 c l i (rv := checkTaxK c l) hE ⟨fun h => by omega, fun _ => by rw [hr]; rfl⟩
    | succ d ih =>
      intro i hd hr
      have hi := bAt_get (l := l) (i := i) (by omega)
      simp only [chkFrom] at hr
      refine f45W0 c l i (rv := checkTaxK c l) hE ⟨fun _ => ⟨_, hi, fun h4 => by rw [hr]; simp [badAt, h4], fun h4 => ⟨fun h5 => by rw [hr]; simp [badAt, h4, h5], fun h5 => ⟨fun h6 => ⟨by omega, by omega, bAt l (i - 1), ?_, fun h7 => by rw [hr]; simp [badAt, h4, h5, h7, show 0 < i by omega], fun h7 => ⟨by omega, ih (i + 1) (by omega) (by rw [hr]; simp [badAt, h4, h5, h7])⟩⟩, fun h6 => ⟨by omega, ih (i + 1) (by omega) (by rw [hr]; simp [badAt, h4, h5, show ¬ 0 < i by omega])⟩⟩⟩⟩, fun h => by omega⟩
      rw [show Int.toNat (((i : Nat) : Int) - 1) = i - 1 by omega]; exact bAt_get (by omega)
  exact key l.length 0 (by omega) hr

/-- Brackets as they should be. -/
structure BrOk (l : List Bra) : Prop where
  len1 : 1 ≤ l.length
  len : l.length ≤ 8
  f0 : (bAt l 0).from_ = 0
  from_ : ∀ i, i < l.length → 0 ≤ (bAt l i).from_ ∧ (bAt l i).from_ ≤ 1000000000
  per : ∀ i, i < l.length → 0 ≤ (bAt l i).per ∧ (bAt l i).per ≤ 100
  inc : ∀ i, i + 1 < l.length → (bAt l i).from_ < (bAt l (i + 1)).from_

theorem chk_at {l : List Bra} : ∀ {d i : Nat}, chkFrom l d i = true → ∀ j, i ≤ j → j < i + d → badAt l j = false
  | 0, i, _, j, h1, h2 => by omega
  | d + 1, i, h, j, h1, h2 => by
    simp only [chkFrom, Bool.and_eq_true, Bool.not_eq_true'] at h
    rcases Nat.lt_or_ge i j with h3 | h3
    · exact chk_at h.2 j (by omega) (by omega)
    · have : j = i := by omega
      rw [this]; exact h.1

theorem br_of {l : List Bra} (h : brOk l = true) : BrOk l := by
  simp only [brOk, Bool.and_eq_true, decide_eq_true_eq] at h
  obtain ⟨h1, h2, h3⟩ := h
  have h1 := within_iff.1 h1
  have hb : ∀ i, i < l.length → badAt l i = false := fun i hi => chk_at h3 i (by omega) (by omega)
  simp only [badAt, Bool.or_eq_false_iff, Bool.not_eq_false', Bool.and_eq_false_iff, decide_eq_false_iff_not] at hb
  refine ⟨by omega, by omega, h2, fun i hi => within_iff.1 (hb i hi).1, fun i hi => within_iff.1 (hb i hi).2.1, fun i hi => ?_⟩
  rcases (hb (i + 1) hi).2.2 with h4 | h4
  · omega
  · rw [Nat.add_sub_cancel] at h4; omega

/-- The hundredths of cents over the brackets. -/
def hunL (m : Int) : List Bra → Int
  | [] => 0
  | [b] => iMax 0 (m - b.from_) * b.per
  | b :: b' :: r => iMax 0 (iMin m b'.from_ - b.from_) * b.per + hunL m (b' :: r)
def taxI (m : Int) (l : List Bra) : Int := Int.tdiv (hunL m l) 100

/-- Sorted, in range. -/
def BrS (l : List Bra) : Prop := (∀ b ∈ l, 0 ≤ b.from_ ∧ b.from_ ≤ 1000000000 ∧ 0 ≤ b.per ∧ b.per ≤ 100) ∧ l.Pairwise fun a b => a.from_ < b.from_

theorem BrOk.sorted {l : List Bra} (h : BrOk l) : BrS l := by
  refine ⟨fun b hb => ?_, ?_⟩
  · obtain ⟨i, hi⟩ := List.getElem?_of_mem hb
    have hlt := (List.getElem?_eq_some_iff.1 hi).1
    rw [bAt_get hlt] at hi; cases hi
    have := h.from_ i hlt; have := h.per i hlt; omega
  · rw [List.pairwise_iff_getElem]
    have key : ∀ d i, i + d + 1 < l.length → (bAt l i).from_ < (bAt l (i + d + 1)).from_ := by
      intro d
      induction d with
      | zero => intro i hi; exact h.inc i hi
      | succ d ih => intro i hi; have h1 := ih i (by omega); have h2 := h.inc (i + d + 1) (by omega); simp only [Nat.add_assoc] at *; omega
    intro i j hi hj hij
    have e1 : l[i] = bAt l i := by have := bAt_get hi; rw [List.getElem?_eq_getElem hi] at this; exact Option.some.inj this
    have e2 : l[j] = bAt l j := by have := bAt_get hj; rw [List.getElem?_eq_getElem hj] at this; exact Option.some.inj this
    rw [e1, e2]
    have := key (j - i - 1) i (by omega)
    rw [show i + (j - i - 1) + 1 = j by omega] at this
    exact this

theorem part_bd {x p : Int} (hx : x ≤ 1000000001) (hp : 0 ≤ p ∧ p ≤ 100) : 0 ≤ iMax 0 x * p ∧ iMax 0 x * p ≤ 100000000100 := by
  have h0 : 0 ≤ iMax 0 x ∧ iMax 0 x ≤ 1000000001 := by simp only [iMax]; split <;> omega
  have h1 := Int.mul_nonneg h0.1 hp.1
  have h2 : iMax 0 x * p ≤ 1000000001 * 100 := Int.mul_le_mul h0.2 hp.2 hp.1 (by omega)
  omega

theorem hun_bd {m : Int} (hm : m ≤ 1000000001) : ∀ {l : List Bra}, BrS l → 0 ≤ hunL m l ∧ hunL m l ≤ 100000000100 * (l.length : Int)
  | [], _ => by simp [hunL]
  | [b], h => by
    have := h.1 b (by simp)
    have := part_bd (x := m - b.from_) (p := b.per) (by omega) (by omega)
    simp only [hunL, List.length_cons, List.length_nil]; omega
  | b :: b' :: r, h => by
    have h1 := h.1 b (by simp)
    have h2 : iMin m b'.from_ ≤ m := by simp only [iMin]; split <;> omega
    have h3 := part_bd (x := iMin m b'.from_ - b.from_) (p := b.per) (by omega) (by omega)
    have h4 := hun_bd hm (l := b' :: r) ⟨fun x hx => h.1 x (by simp [hx]), (List.pairwise_cons.1 h.2).2⟩
    simp only [hunL, List.length_cons] at *; omega

theorem tax_bd {m : Int} {l : List Bra} (hm : m ≤ 1000000001) (h : BrOk l) : 0 ≤ taxI m l ∧ taxI m l ≤ 1000000000000 ∧ hunL m l ≤ 1000000000000 ∧ 0 ≤ hunL m l := by
  have h1 := hun_bd hm h.sorted
  have := h.len
  have e : taxI m l = hunL m l / 100 := Int.tdiv_eq_ediv_of_nonneg h1.1
  rw [e]
  have : 100000000100 * (l.length : Int) ≤ 1000000000000 := by omega
  omega

theorem drop_hun {m : Int} {l : List Bra} {i : Nat} (h : i < l.length) :
    hunL m (l.drop i) = (if i + 1 < l.length then iMax 0 (iMin m (bAt l (i + 1)).from_ - (bAt l i).from_) * (bAt l i).per else iMax 0 (m - (bAt l i).from_) * (bAt l i).per) + hunL m (l.drop (i + 1)) := by
  have e1 : l[i] = bAt l i := by have := bAt_get h; rw [List.getElem?_eq_getElem h] at this; exact Option.some.inj this
  rw [List.drop_eq_getElem_cons h, e1]
  split
  · rename_i h2
    have e2 : l[i + 1] = bAt l (i + 1) := by have := bAt_get h2; rw [List.getElem?_eq_getElem h2] at this; exact Option.some.inj this
    rw [List.drop_eq_getElem_cons h2, e2]; rfl
  · rename_i h2
    rw [List.drop_eq_nil_of_le (by omega)]
    simp [hunL]

theorem BrS.drop {l : List Bra} (h : BrS l) (i : Nat) : BrS (l.drop i) := ⟨fun b hb => h.1 b (List.mem_of_mem_drop hb), h.2.sublist (List.drop_sublist _ _)⟩

theorem tax_ok (m : Int) (l : List Bra) (h : (0 ≤ m ∧ m ≤ 1000000000) ∧ brOk l = true) : Pure Try.prog 46 [.int .i64 m, .rsl (rowBr l) 0 l.length] (.int .i64 (taxI m l)) := pure_of Try.func46 f46b fun E hE => by
  obtain ⟨hm, hb⟩ := h
  have hb := br_of hb
  have hlen := hb.len
  obtain ⟨t1, t2, t3, t4⟩ := tax_bd (m := m) (by omega) hb
  have key : ∀ (d i : Nat) (hu : Int), i + d = l.length → 0 ≤ hu → hu + hunL m (l.drop i) = hunL m l → f46G0 E m l hu i := by
    intro d
    induction d with
    | zero =>
      intro i hu hd h0 he
      rw [List.drop_eq_nil_of_le (by omega)] at he
      simp only [hunL] at he
      have : hu = hunL m l := by omega
      subst this
      have e : Int.tdiv (hunL m l) 100 = taxI m l := rfl
      exact f46W0 m l _ i (rv := taxI m l) hE ⟨fun h => by omega, fun _ => ⟨by rw [e]; omega, e.symm⟩⟩
    | succ d ih =>
      intro i hu hd h0 he
      have hi := bAt_get (l := l) (i := i) (by omega)
      have hf := hb.from_ i (by omega)
      have hp := hb.per i (by omega)
      have hr := hun_bd (m := m) (by omega) (hb.sorted.drop (i + 1))
      rw [drop_hun (by omega)] at he
      refine f46W0 m l _ i (rv := taxI m l) hE ⟨fun _ => ⟨_, hi, by omega, fun h2 => ?_, fun h2 => ?_⟩, fun h => by omega⟩
      · rw [if_pos (by omega)] at he
        have hm2 : iMin m (bAt l (i + 1)).from_ ≤ m ∧ 0 ≤ iMin m (bAt l (i + 1)).from_ := by have := hb.from_ (i + 1) (by omega); simp only [iMin]; split <;> omega
        have hq := part_bd (x := iMin m (bAt l (i + 1)).from_ - (bAt l i).from_) (p := (bAt l i).per) (by omega) hp
        exact ⟨by omega, _, bAt_get (by omega), by omega, by omega, by omega, by omega, ih (i + 1) _ (by omega) (by omega) (by omega)⟩
      · rw [if_neg (by omega)] at he
        have hq := part_bd (x := m - (bAt l i).from_) (p := (bAt l i).per) (by omega) hp
        exact ⟨by omega, by omega, by omega, by omega, ih (i + 1) _ (by omega) (by omega) (by omega)⟩
  exact f46W m l hE (key l.length 0 0 (by omega) (by omega) (by simp))

end Go.Proofs.Ytmdbebbibecidaa

namespace Go.Proofs.Ytmdbebbibecidaa
open Go Ax
open Go.Proofs
theorem f24b : Try.f24.body = some (bodyAt Try.prog 24) := by kernel_rfl
def f24K0 (P : Program) : List Item := kAt 400 [.code (bodyAt P 24)] [.b false, .stop]
def f24S0 (c : Int) (l : (List Bra)) (high : Int) (low : Int)  : St := ⟨[.int .i64 c, .rsl (rowBr l) 0 l.length, .junk, .junk, .junk, .junk, .junk, .int .i64 low, .int .i64 high, .junk, .junk, .junk, .junk, .junk, .junk, .junk, .junk, .junk, .junk, .junk, .junk, .junk, .junk, .junk, .junk, .junk, .junk, .junk, .junk, .junk, .junk, .junk, .junk, .junk, .junk, .junk], []⟩
def f24G0 (E : Env) (c : Int) (l : (List Bra)) (high : Int) (low : Int) : Prop := G Try.prog E (f24K0 Try.prog) (f24S0 c l high low )
theorem p24_start_0 (c : Int) (l : (List Bra))   {E : Env} {res : AV} (hE : PureE Try.prog 24 res E) (o0 : PureF Try.prog (.clos 45 [] []) [.int .i64 c, .rsl (rowBr l) 0 l.length] (.int .i64 (checkTaxK c l))) (o1 : ((checkTaxK c l) != 0) = true)
    (hr : AvLe (.tup [.int .i64 0, .int .i64 (checkTaxK c l)]) res) : G Try.prog E [.code (bodyAt Try.prog 24)] ⟨[.int .i64 c, .rsl (rowBr l) 0 l.length] ++ unds (Try.f24.ntmps - 2), []⟩ :=
  end_stepL (n := 400) (evs := [.v (.int .i64 (checkTaxK c l)), .b true]) (obs := [PureF Try.prog (.clos 45 [] []) [.int .i64 c, .rsl (rowBr l) 0 l.length] (.int .i64 (checkTaxK c l)), ((checkTaxK c l) != 0) = true]) hE Try.func24 mixed (by kernel_rfl) ⟨o0, o1, trivial⟩ hr
theorem p24_start_1 (c : Int) (l : (List Bra))   {E : Env} {rv : AV} (hE : PureE Try.prog 24 rv E) (o0 : PureF Try.prog (.clos 45 [] []) [.int .i64 c, .rsl (rowBr l) 0 l.length] (.int .i64 (checkTaxK c l))) (o1 : ((checkTaxK c l) != 0) = false)
    (hg : G Try.prog E (f24K0 Try.prog) ⟨[.int .i64 c, .rsl (rowBr l) 0 l.length, .junk, .junk, .junk, .junk, .junk, .int .i64 0, .int .i64 1000000001, .junk, .junk, .junk, .junk, .junk, .junk, .junk, .junk, .junk, .junk, .junk, .junk, .junk, .junk, .junk, .junk, .junk, .junk, .junk, .junk, .junk, .junk, .junk, .junk, .junk, .junk, .junk], []⟩) : G Try.prog E [.code (bodyAt Try.prog 24)] ⟨[.int .i64 c, .rsl (rowBr l) 0 l.length] ++ unds (Try.f24.ntmps - 2), []⟩ :=
  segC_step (n := 400) (ds := []) (cs := []) (live := [0, 1, 7, 8]) (m := 0) (evs := [.v (.int .i64 (checkTaxK c l)), .b false, .stop]) (obs := [PureF Try.prog (.clos 45 [] []) [.int .i64 c, .rsl (rowBr l) 0 l.length] (.int .i64 (checkTaxK c l)), ((checkTaxK c l) != 0) = false]) hE.2.1 (hE.nogh _) mixed (by kernel_rfl) ⟨o0, o1, trivial⟩ hg
theorem f24W (c : Int) (l : (List Bra)) {E : Env} {rv : (Int × Int)} (hE : PureE Try.prog 24 (.tup [.int .i64 rv.1, .int .i64 rv.2]) E)
    (h : ((l.length ≤ 9223372036854775807) ∧ ((¬ ((checkTaxK c l) = 0) → rv = (0, (checkTaxK c l))) ∧ ((checkTaxK c l) = 0 → f24G0 E c l 1000000001 0)))) : G Try.prog E [.code (bodyAt Try.prog 24)] ⟨[.int .i64 c, .rsl (rowBr l) 0 l.length] ++ unds (Try.f24.ntmps - 2), []⟩ := by
  obtain ⟨h1, h⟩ := h
  rcases Bool.eq_false_or_eq_true ((checkTaxK c l) != 0) with hc0 | hc0
  · have h := h.1 (bneT hc0)
    exact p24_start_0 c l    hE (pureF_of Try.func45 (by kernel_rfl) f45b (checkTax_ok c l h1)) hc0 (AvLe.of_eq (by rw [h]; try rfl))
  · have h := h.2 (bneF hc0)
    exact p24_start_1 c l    hE (pureF_of Try.func45 (by kernel_rfl) f45b (checkTax_ok c l h1)) hc0 h
theorem p24_0_0 (c : Int) (l : (List Bra)) (high : Int) (low : Int)   {E : Env} {rv : AV} (hE : PureE Try.prog 24 rv E) (o0 : (decide (low < high)) = true) (o1 : InR .i64 (low + high)) (o2 : InR .i64 (Int.tdiv (low + high) 2)) (o4 : PureF Try.prog (.clos 46 [] []) [.int .i64 (Int.tdiv (low + high) 2), .rsl (rowBr l) 0 l.length] (.int .i64 (taxI (Int.tdiv (low + high) 2) l))) (o5 : InR .i64 ((Int.tdiv (low + high) 2) - (taxI (Int.tdiv (low + high) 2) l))) (o6 : (decide (((Int.tdiv (low + high) 2) - (taxI (Int.tdiv (low + high) 2) l)) ≥ c)) = true)
    (hg : G Try.prog E (f24K0 Try.prog) ⟨[.int .i64 c, .rsl (rowBr l) 0 l.length, .junk, .junk, .junk, .junk, .junk, .int .i64 low, .int .i64 (Int.tdiv (low + high) 2), .junk, .junk, .junk, .junk, .junk, .junk, .junk, .junk, .junk, .junk, .junk, .junk, .junk, .junk, .junk, .junk, .junk, .junk, .junk, .junk, .junk, .junk, .junk, .junk, .junk, .junk, .junk], []⟩) : G Try.prog E (f24K0 Try.prog) (f24S0 c l high low ) :=
  segC_step (n := 400) (ds := []) (cs := []) (live := [0, 1, 7, 8]) (m := 0) (evs := [.b true, .v (.int .i64 (taxI (Int.tdiv (low + high) 2) l)), .b true, .stop]) (obs := [(decide (low < high)) = true, InR .i64 (low + high), InR .i64 (Int.tdiv (low + high) 2), (2 : Int) ≠ 0, PureF Try.prog (.clos 46 [] []) [.int .i64 (Int.tdiv (low + high) 2), .rsl (rowBr l) 0 l.length] (.int .i64 (taxI (Int.tdiv (low + high) 2) l)), InR .i64 ((Int.tdiv (low + high) 2) - (taxI (Int.tdiv (low + high) 2) l)), (decide (((Int.tdiv (low + high) 2) - (taxI (Int.tdiv (low + high) 2) l)) ≥ c)) = true]) hE.2.1 (hE.nogh _) mixed (by kernel_rfl) ⟨o0, o1, o2, (by decide), o4, o5, o6, trivial⟩ hg
theorem p24_0_1 (c : Int) (l : (List Bra)) (high : Int) (low : Int)   {E : Env} {rv : AV} (hE : PureE Try.prog 24 rv E) (o0 : (decide (low < high)) = true) (o1 : InR .i64 (low + high)) (o2 : InR .i64 (Int.tdiv (low + high) 2)) (o4 : PureF Try.prog (.clos 46 [] []) [.int .i64 (Int.tdiv (low + high) 2), .rsl (rowBr l) 0 l.length] (.int .i64 (taxI (Int.tdiv (low + high) 2) l))) (o5 : InR .i64 ((Int.tdiv (low + high) 2) - (taxI (Int.tdiv (low + high) 2) l))) (o6 : (decide (((Int.tdiv (low + high) 2) - (taxI (Int.tdiv (low + high) 2) l)) ≥ c)) = false) (o7 : InR .i64 ((Int.tdiv (low + high) 2) + 1))
    (hg : G Try.prog E (f24K0 Try.prog) ⟨[.int .i64 c, .rsl (rowBr l) 0 l.length, .junk, .junk, .junk, .junk, .junk, .int .i64 ((Int.tdiv (low + high) 2) + 1), .int .i64 high, .junk, .junk, .junk, .junk, .junk, .junk, .junk, .junk, .junk, .junk, .junk, .junk, .junk, .junk, .junk, .junk, .junk, .junk, .junk, .junk, .junk, .junk, .junk, .junk, .junk, .junk, .junk], []⟩) : G Try.prog E (f24K0 Try.prog) (f24S0 c l high low ) :=
  segC_step (n := 400) (ds := []) (cs := []) (live := [0, 1, 7, 8]) (m := 0) (evs := [.b true, .v (.int .i64 (taxI (Int.tdiv (low + high) 2) l)), .b false, .stop]) (obs := [(decide (low < high)) = true, InR .i64 (low + high), InR .i64 (Int.tdiv (low + high) 2), (2 : Int) ≠ 0, PureF Try.prog (.clos 46 [] []) [.int .i64 (Int.tdiv (low + high) 2), .rsl (rowBr l) 0 l.length] (.int .i64 (taxI (Int.tdiv (low + high) 2) l)), InR .i64 ((Int.tdiv (low + high) 2) - (taxI (Int.tdiv (low + high) 2) l)), (decide (((Int.tdiv (low + high) 2) - (taxI (Int.tdiv (low + high) 2) l)) ≥ c)) = false, InR .i64 ((Int.tdiv (low + high) 2) + 1)]) hE.2.1 (hE.nogh _) mixed (by kernel_rfl) ⟨o0, o1, o2, (by decide), o4, o5, o6, o7, trivial⟩ hg
theorem p24_0_2 (c : Int) (l : (List Bra)) (high : Int) (low : Int)   {E : Env} {res : AV} (hE : PureE Try.prog 24 res E) (o0 : (decide (low < high)) = false) (o1 : (decide (low > 1000000000)) = true)
    (hr : AvLe (.tup [.int .i64 0, .int .i64 3]) res) : G Try.prog E (f24K0 Try.prog) (f24S0 c l high low ) :=
  end_stepL (n := 400) (evs := [.b false, .b true]) (obs := [(decide (low < high)) = false, (decide (low > 1000000000)) = true]) hE Try.func24 mixed (by kernel_rfl) ⟨o0, o1, trivial⟩ hr
theorem p24_0_3 (c : Int) (l : (List Bra)) (high : Int) (low : Int)   {E : Env} {res : AV} (hE : PureE Try.prog 24 res E) (o0 : (decide (low < high)) = false) (o1 : (decide (low > 1000000000)) = false)
    (hr : AvLe (.tup [.int .i64 low, .int .i64 0]) res) : G Try.prog E (f24K0 Try.prog) (f24S0 c l high low ) :=
  end_stepL (n := 400) (evs := [.b false, .b false]) (obs := [(decide (low < high)) = false, (decide (low > 1000000000)) = false]) hE Try.func24 mixed (by kernel_rfl) ⟨o0, o1, trivial⟩ hr
theorem f24W0 (c : Int) (l : (List Bra)) (high : Int) (low : Int) {E : Env} {rv : (Int × Int)} (hE : PureE Try.prog 24 (.tup [.int .i64 rv.1, .int .i64 rv.2]) E)
    (h : ((low < high → ((-9223372036854775808 ≤ low + high ∧ low + high ≤ 9223372036854775807) ∧ ((-9223372036854775808 ≤ Int.tdiv (low + high) 2 ∧ Int.tdiv (low + high) 2 ≤ 9223372036854775807) ∧ ((((0 : Int) ≤ (Int.tdiv (low + high) 2) ∧ ((Int.tdiv (low + high) 2) : Int) ≤ 1000000000) ∧ brOk l = true) ∧ ((-9223372036854775808 ≤ (Int.tdiv (low + high) 2) - (taxI (Int.tdiv (low + high) 2) l) ∧ (Int.tdiv (low + high) 2) - (taxI (Int.tdiv (low + high) 2) l) ≤ 9223372036854775807) ∧ ((((Int.tdiv (low + high) 2) - (taxI (Int.tdiv (low + high) 2) l)) ≥ c → f24G0 E c l (Int.tdiv (low + high) 2) low) ∧ (¬ (((Int.tdiv (low + high) 2) - (taxI (Int.tdiv (low + high) 2) l)) ≥ c) → ((-9223372036854775808 ≤ (Int.tdiv (low + high) 2) + 1 ∧ (Int.tdiv (low + high) 2) + 1 ≤ 9223372036854775807) ∧ f24G0 E c l high ((Int.tdiv (low + high) 2) + 1))))))))) ∧ (¬ (low < high) → ((low > 1000000000 → rv = (0, 3)) ∧ (¬ (low > 1000000000) → rv = (low, 0)))))) : f24G0 E c l high low := by
  rcases Bool.eq_false_or_eq_true (decide (low < high)) with hc0 | hc0
  · have h := h.1 (of_decide_eq_true hc0)
    obtain ⟨q1_1, h⟩ := h
    obtain ⟨q2_1, h⟩ := h
    obtain ⟨h1, h⟩ := h
    obtain ⟨q5_1, h⟩ := h
    rcases Bool.eq_false_or_eq_true (decide (((Int.tdiv (low + high) 2) - (taxI (Int.tdiv (low + high) 2) l)) ≥ c)) with hc1 | hc1
    · have h := h.1 (of_decide_eq_true hc1)
      exact p24_0_0 c l high low   hE hc0 q1_1 q2_1 (pureF_of Try.func46 (by kernel_rfl) f46b (tax_ok (Int.tdiv (low + high) 2) l h1)) q5_1 hc1 h
    · have h := h.2 (of_decide_eq_false hc1)
      obtain ⟨q7_2, h⟩ := h
      exact p24_0_1 c l high low   hE hc0 q1_1 q2_1 (pureF_of Try.func46 (by kernel_rfl) f46b (tax_ok (Int.tdiv (low + high) 2) l h1)) q5_1 hc1 q7_2 h
  · have h := h.2 (of_decide_eq_false hc0)
    rcases Bool.eq_false_or_eq_true (decide (low > 1000000000)) with hc1 | hc1
    · have h := h.1 (of_decide_eq_true hc1)
      exact p24_0_2 c l high low   hE hc0 hc1 (AvLe.of_eq (by rw [h]; try rfl))
    · have h := h.2 (of_decide_eq_false hc1)
      exact p24_0_3 c l high low   hE hc0 hc1 (AvLe.of_eq (by rw [h]; try rfl))
theorem check0 {c : Int} {l : List Bra} (h : checkTaxK c l = 0) : (0 ≤ c ∧ c ≤ 1000000000) ∧ brOk l = true := by
  simp only [checkTaxK] at h
  split at h
  · cases h
  · rename_i h1
    split at h
    · cases h
    · rename_i h2
      exact ⟨within_iff.1 (by simpa [amount] using h1), by simpa using h2⟩

/-- Search by halves. -/
def bsI (p : Int → Bool) : Nat → Int → Int → Int
  | 0, lo, _ => lo
  | f + 1, lo, hi => if lo < hi then (if p (Int.tdiv (lo + hi) 2) then bsI p f lo (Int.tdiv (lo + hi) 2) else bsI p f (Int.tdiv (lo + hi) 2 + 1) hi) else lo

theorem mid {lo hi : Int} (h0 : 0 ≤ lo) (h : lo < hi) : lo ≤ Int.tdiv (lo + hi) 2 ∧ Int.tdiv (lo + hi) 2 < hi ∧ hi - (Int.tdiv (lo + hi) 2 + 1) ≤ (hi - lo) / 2 ∧ Int.tdiv (lo + hi) 2 - lo ≤ (hi - lo) / 2 := by
  rw [Int.tdiv_eq_ediv_of_nonneg (by omega)]; omega

def netP (c : Int) (l : List Bra) (m : Int) : Bool := decide (m - taxI m l ≥ c)
def netOf (r : Int) : Int × Int := if r > 1000000000 then (0, 3) else (r, 0)
def netK (c : Int) (l : List Bra) : Int × Int := if checkTaxK c l = 0 then netOf (bsI (netP c l) 40 0 1000000001) else (0, checkTaxK c l)

theorem NetP_ok (c : Int) (l : List Bra) (h : l.length ≤ 9223372036854775807) : Pure Try.prog 24 [.int .i64 c, .rsl (rowBr l) 0 l.length] (.tup [.int .i64 (netK c l).1, .int .i64 (netK c l).2]) := pure_of Try.func24 f24b fun E hE => by
  refine f24W c l (rv := netK c l) hE ⟨h, fun h1 => by rw [netK, if_neg h1], fun h1 => ?_⟩
  have hb := check0 h1
  have hB := br_of hb.2
  have key : ∀ (f : Nat) (hi lo : Int), 0 ≤ lo → lo ≤ hi → hi ≤ 1000000001 → hi - lo < (2 : Int) ^ f → netK c l = netOf (bsI (netP c l) f lo hi) → f24G0 E c l hi lo := by
    intro f
    induction f with
    | zero =>
      intro hi lo h0 h2 h3 h4 hr
      have : hi = lo := by simp at h4; omega
      subst this
      simp only [bsI] at hr
      exact f24W0 c l _ _ (rv := netK c l) hE ⟨fun h => by omega, fun _ => ⟨fun h5 => by rw [hr, netOf, if_pos h5], fun h5 => by rw [hr, netOf, if_neg h5]⟩⟩
    | succ f ih =>
      intro hi lo h0 h2 h3 h4 hr
      rw [Int.pow_succ] at h4
      simp only [bsI] at hr
      refine f24W0 c l _ _ (rv := netK c l) hE ⟨fun h5 => ?_, fun h5 => ⟨fun h6 => ?_, fun h6 => ?_⟩⟩
      · obtain ⟨m1, m2, m3, m4⟩ := mid h0 h5
        obtain ⟨t1, t2, -, -⟩ := tax_bd (m := Int.tdiv (lo + hi) 2) (by omega) hB
        rw [if_pos h5] at hr
        refine ⟨by omega, by omega, ⟨by omega, hb.2⟩, by omega, fun h6 => ?_, fun h6 => ⟨by omega, ?_⟩⟩
        · rw [if_pos (by simp only [netP]; exact decide_eq_true h6)] at hr
          exact ih _ _ h0 m1 (by omega) (by omega) hr
        · rw [if_neg (by simp only [netP]; simpa using h6)] at hr
          exact ih _ _ (by omega) (by omega) h3 (by omega) hr
      · rw [if_neg h5] at hr; rw [hr, netOf, if_pos h6]
      · rw [if_neg h5] at hr; rw [hr, netOf, if_neg h6]
  exact key 40 1000000001 0 (by omega) (by omega) (by omega) (by decide) (by rw [netK, if_pos h1])

theorem f17b : Try.f17.body = some (bodyAt Try.prog 17) := by kernel_rfl
def f17K0 (P : Program) : List Item := kAt 400 [.code (bodyAt P 17)] [.b false, .stop]
def f17S0 (a : (List Int)) (b : (List Int)) (i : Nat)  : St := ⟨[.rsl (rowI a) 0 a.length, .rsl (rowI b) 0 b.length, .junk, .junk, .junk, .int .i64 ((i : Nat) : Int), .junk, .junk, .junk, .junk, .junk, .junk, .junk, .junk, .junk, .junk, .junk, .junk, .junk, .junk, .junk, .junk, .junk, .junk, .junk, .junk], []⟩
def f17G0 (E : Env) (a : (List Int)) (b : (List Int)) (i : Nat) : Prop := G Try.prog E (f17K0 Try.prog) (f17S0 a b i )
theorem p17_start_0 (a : (List Int)) (b : (List Int))   {E : Env} {res : AV} (hE : PureE Try.prog 17 res E) (o0 : (((a.length : Nat) : Int) != ((b.length : Nat) : Int)) = true)
    (hr : AvLe (.bool false) res) : G Try.prog E [.code (bodyAt Try.prog 17)] ⟨[.rsl (rowI a) 0 a.length, .rsl (rowI b) 0 b.length] ++ unds (Try.f17.ntmps - 2), []⟩ :=
  end_stepL (n := 400) (evs := [.b true]) (obs := [(((a.length : Nat) : Int) != ((b.length : Nat) : Int)) = true]) hE Try.func17 mixed (by kernel_rfl) ⟨o0, trivial⟩ hr
theorem p17_start_1 (a : (List Int)) (b : (List Int))   {E : Env} {rv : AV} (hE : PureE Try.prog 17 rv E) (o0 : (((a.length : Nat) : Int) != ((b.length : Nat) : Int)) = false)
    (hg : G Try.prog E (f17K0 Try.prog) ⟨[.rsl (rowI a) 0 a.length, .rsl (rowI b) 0 b.length, .junk, .junk, .junk, .int .i64 0, .junk, .junk, .junk, .junk, .junk, .junk, .junk, .junk, .junk, .junk, .junk, .junk, .junk, .junk, .junk, .junk, .junk, .junk, .junk, .junk], []⟩) : G Try.prog E [.code (bodyAt Try.prog 17)] ⟨[.rsl (rowI a) 0 a.length, .rsl (rowI b) 0 b.length] ++ unds (Try.f17.ntmps - 2), []⟩ :=
  segC_step (n := 400) (ds := []) (cs := []) (live := [0, 1, 5]) (m := 0) (evs := [.b false, .stop]) (obs := [(((a.length : Nat) : Int) != ((b.length : Nat) : Int)) = false]) hE.2.1 (hE.nogh _) mixed (by kernel_rfl) ⟨o0, trivial⟩ hg
theorem f17W (a : (List Int)) (b : (List Int)) {E : Env} {rv : Bool} (hE : PureE Try.prog 17 (.bool rv) E)
    (h : ((¬ (((a.length : Nat) : Int) = ((b.length : Nat) : Int)) → rv = false) ∧ (((a.length : Nat) : Int) = ((b.length : Nat) : Int) → f17G0 E a b 0))) : G Try.prog E [.code (bodyAt Try.prog 17)] ⟨[.rsl (rowI a) 0 a.length, .rsl (rowI b) 0 b.length] ++ unds (Try.f17.ntmps - 2), []⟩ := by
  rcases Bool.eq_false_or_eq_true (((a.length : Nat) : Int) != ((b.length : Nat) : Int)) with hc0 | hc0
  · have h := h.1 (bneT hc0)
    exact p17_start_0 a b    hE hc0 (AvLe.of_eq (by rw [h]; try rfl))
  · have h := h.2 (bneF hc0)
    exact p17_start_1 a b    hE hc0 h
theorem p17_0_0 (a : (List Int)) (b : (List Int)) (i : Nat)  (e : Int) (e1 : Int)  {E : Env} {res : AV} (hE : PureE Try.prog 17 res E) (o0 : (decide (((i : Nat) : Int) < ((a.length : Nat) : Int))) = true) (o2 : 0 ≤ ((i : Nat) : Int) ∧ ((i : Nat) : Int) < ((a.length : Nat) : Int)) (o3 : ((rowI a).drop (0 + (Int.toNat ((i : Nat) : Int)) * 1)).take 1 = [.int .i64 e]) (o5 : 0 ≤ ((i : Nat) : Int) ∧ ((i : Nat) : Int) < ((b.length : Nat) : Int)) (o6 : ((rowI b).drop (0 + (Int.toNat ((i : Nat) : Int)) * 1)).take 1 = [.int .i64 e1]) (o7 : (e != e1) = true)
    (hr : AvLe (.bool false) res) : G Try.prog E (f17K0 Try.prog) (f17S0 a b i ) :=
  end_stepL (n := 400) (evs := [.b true, .ld (.int .i64 e), .ld (.int .i64 e1), .b true]) (obs := [(decide (((i : Nat) : Int) < ((a.length : Nat) : Int))) = true, 0 ≤ ((i : Nat) : Int) ∧ ((i : Nat) : Int) < ((a.length : Nat) : Int), ((rowI a).drop (0 + (Int.toNat ((i : Nat) : Int)) * 1)).take 1 = [.int .i64 e], 0 ≤ ((i : Nat) : Int) ∧ ((i : Nat) : Int) < ((b.length : Nat) : Int), ((rowI b).drop (0 + (Int.toNat ((i : Nat) : Int)) * 1)).take 1 = [.int .i64 e1], (e != e1) = true]) hE Try.func17 mixed (by kernel_rfl) ⟨o0, o2, o3, o5, o6, o7, trivial⟩ hr
theorem p17_0_1 (a : (List Int)) (b : (List Int)) (i : Nat)  (e : Int) (e1 : Int)  {E : Env} {rv : AV} (hE : PureE Try.prog 17 rv E) (o0 : (decide (((i : Nat) : Int) < ((a.length : Nat) : Int))) = true) (o2 : 0 ≤ ((i : Nat) : Int) ∧ ((i : Nat) : Int) < ((a.length : Nat) : Int)) (o3 : ((rowI a).drop (0 + (Int.toNat ((i : Nat) : Int)) * 1)).take 1 = [.int .i64 e]) (o5 : 0 ≤ ((i : Nat) : Int) ∧ ((i : Nat) : Int) < ((b.length : Nat) : Int)) (o6 : ((rowI b).drop (0 + (Int.toNat ((i : Nat) : Int)) * 1)).take 1 = [.int .i64 e1]) (o7 : (e != e1) = false) (o8 : InR .i64 (((i : Nat) : Int) + 1))
    (hg : G Try.prog E (f17K0 Try.prog) ⟨[.rsl (rowI a) 0 a.length, .rsl (rowI b) 0 b.length, .junk, .junk, .junk, .int .i64 (((i : Nat) : Int) + 1), .junk, .junk, .junk, .junk, .junk, .junk, .junk, .junk, .junk, .junk, .junk, .junk, .junk, .junk, .junk, .junk, .junk, .junk, .junk, .junk], []⟩) : G Try.prog E (f17K0 Try.prog) (f17S0 a b i ) :=
  segC_step (n := 400) (ds := []) (cs := []) (live := [0, 1, 5]) (m := 0) (evs := [.b true, .ld (.int .i64 e), .ld (.int .i64 e1), .b false, .stop]) (obs := [(decide (((i : Nat) : Int) < ((a.length : Nat) : Int))) = true, 0 ≤ ((i : Nat) : Int) ∧ ((i : Nat) : Int) < ((a.length : Nat) : Int), ((rowI a).drop (0 + (Int.toNat ((i : Nat) : Int)) * 1)).take 1 = [.int .i64 e], 0 ≤ ((i : Nat) : Int) ∧ ((i : Nat) : Int) < ((b.length : Nat) : Int), ((rowI b).drop (0 + (Int.toNat ((i : Nat) : Int)) * 1)).take 1 = [.int .i64 e1], (e != e1) = false, InR .i64 (((i : Nat) : Int) + 1)]) hE.2.1 (hE.nogh _) mixed (by kernel_rfl) ⟨o0, o2, o3, o5, o6, o7, o8, trivial⟩ hg
theorem p17_0_2 (a : (List Int)) (b : (List Int)) (i : Nat)   {E : Env} {res : AV} (hE : PureE Try.prog 17 res E) (o0 : (decide (((i : Nat) : Int) < ((a.length : Nat) : Int))) = false)
    (hr : AvLe (.bool true) res) : G Try.prog E (f17K0 Try.prog) (f17S0 a b i ) :=
  end_stepL (n := 400) (evs := [.b false]) (obs := [(decide (((i : Nat) : Int) < ((a.length : Nat) : Int))) = false]) hE Try.func17 mixed (by kernel_rfl) ⟨o0, trivial⟩ hr
theorem f17W0 (a : (List Int)) (b : (List Int)) (i : Nat) {E : Env} {rv : Bool} (hE : PureE Try.prog 17 (.bool rv) E)
    (h : ((((i : Nat) : Int) < ((a.length : Nat) : Int) → (∃ e : Int, a[i]? = some e ∧ (∃ e1 : Int, b[i]? = some e1 ∧ ((¬ (e = e1) → rv = false) ∧ (e = e1 → ((-9223372036854775808 ≤ ((i : Nat) : Int) + 1 ∧ ((i : Nat) : Int) + 1 ≤ 9223372036854775807) ∧ f17G0 E a b (i + 1))))))) ∧ (¬ (((i : Nat) : Int) < ((a.length : Nat) : Int)) → rv = true))) : f17G0 E a b i := by
  rcases Bool.eq_false_or_eq_true (decide (((i : Nat) : Int) < ((a.length : Nat) : Int))) with hc0 | hc0
  · have h := h.1 (of_decide_eq_true hc0)
    obtain ⟨e, h1, h⟩ := h
    obtain ⟨e1, h2, h⟩ := h
    rcases Bool.eq_false_or_eq_true (e != e1) with hc1 | hc1
    · have h := h.1 (bneT hc1)
      exact p17_0_0 a b i  e e1 hE hc0 (idx_ok h1) (row_part cI (s := 1) (k := 0) (m := 1) (fun _ => rfl) (by decide) h1) (idx_ok h2) (row_part cI (s := 1) (k := 0) (m := 1) (fun _ => rfl) (by decide) h2) hc1 (AvLe.of_eq (by rw [h]; try rfl))
    · have h := h.2 (bneF hc1)
      obtain ⟨q8_2, h⟩ := h
      exact p17_0_1 a b i  e e1 hE hc0 (idx_ok h1) (row_part cI (s := 1) (k := 0) (m := 1) (fun _ => rfl) (by decide) h1) (idx_ok h2) (row_part cI (s := 1) (k := 0) (m := 1) (fun _ => rfl) (by decide) h2) hc1 q8_2 h
  · have h := h.2 (of_decide_eq_false hc0)
    exact p17_0_2 a b i   hE hc0 (AvLe.of_eq (by rw [h]; try rfl))

theorem sameInts_ok (a b : List Int) (h : a = b ∧ a.length ≤ 1000000) : Pure Try.prog 17 [.rsl (rowI a) 0 a.length, .rsl (rowI b) 0 b.length] (.bool true) := pure_of Try.func17 f17b fun E hE => by
  obtain ⟨rfl, hl⟩ := h
  have key : ∀ (d i : Nat), i + d = a.length → f17G0 E a a i := by
    intro d
    induction d with
    | zero => intro i hd; exact f17W0 a a i (rv := true) hE ⟨fun h => by omega, fun _ => rfl⟩
    | succ d ih =>
      intro i hd
      have hi : a[i]? = some a[i] := List.getElem?_eq_getElem (by omega)
      exact f17W0 a a i (rv := true) hE ⟨fun _ => ⟨_, hi, _, hi, fun h => absurd rfl h, fun _ => ⟨by omega, ih (i + 1) (by omega)⟩⟩, fun h => by omega⟩
  exact f17W a a (rv := true) hE ⟨fun h => absurd rfl h, fun _ => key a.length 0 (by omega)⟩

theorem f20b : Try.f20.body = some (bodyAt Try.prog 20) := by kernel_rfl
theorem p20_start_0    {E : Env} {res : AV} (hE : PureE Try.prog 20 res E) (o0 : LentF Try.prog (.clos 15 [] []) [.int .i64 100, .sl 0 0 0 3 1] [⟨true, 0, 1, true, [.int .i64 1, .int .i64 1, .int .i64 1], true⟩] (.tup [.rsl (rowI ((splitK 100 ([1, 1, 1])).1)) 0 (((splitK 100 ([1, 1, 1])).1).length), .int .i64 ((splitK 100 ([1, 1, 1])).2)]) [⟨false, 1, 1, true, [], false⟩]) (o1 : PureF Try.prog (.clos 24 [] []) [.int .i64 2500, .rsl [.int .i64 0, .int .i64 10, .int .i64 1000, .int .i64 20] 0 2] (.tup [.int .i64 ((netK 2500 ([(⟨0, 10⟩ : Bra), (⟨1000, 20⟩ : Bra)])).1), .int .i64 ((netK 2500 ([(⟨0, 10⟩ : Bra), (⟨1000, 20⟩ : Bra)])).2)])) (o3 : ((splitK 100 ([1, 1, 1])).2 == 0) = true) (o4 : ((netK 2500 ([(⟨0, 10⟩ : Bra), (⟨1000, 20⟩ : Bra)])).2 == 0) = true) (o5 : PureF Try.prog (.clos 17 [] []) [.rsl (rowI ((splitK 100 ([1, 1, 1])).1)) 0 (((splitK 100 ([1, 1, 1])).1).length), .rsl [.int .i64 34, .int .i64 33, .int .i64 33] 0 3] (.bool true)) (o7 : true = true)
    (hr : AvLe (.bool ((netK 2500 ([(⟨0, 10⟩ : Bra), (⟨1000, 20⟩ : Bra)])).1 == 2999)) res) : G Try.prog E [.code (bodyAt Try.prog 20)] ⟨[] ++ unds (Try.f20.ntmps - 0), []⟩ :=
  end_stepL (n := 400) (evs := [.lent [0] (.tup [.rsl (rowI ((splitK 100 ([1, 1, 1])).1)) 0 (((splitK 100 ([1, 1, 1])).1).length), .int .i64 ((splitK 100 ([1, 1, 1])).2)]) [⟨false, 1, 1, true, [], false⟩], .v (.tup [.int .i64 ((netK 2500 ([(⟨0, 10⟩ : Bra), (⟨1000, 20⟩ : Bra)])).1), .int .i64 ((netK 2500 ([(⟨0, 10⟩ : Bra), (⟨1000, 20⟩ : Bra)])).2)]), .b true, .b true, .v (.bool true), .b true]) (obs := [LentF Try.prog (.clos 15 [] []) [.int .i64 100, .sl 0 0 0 3 1] [⟨true, 0, 1, true, [.int .i64 1, .int .i64 1, .int .i64 1], true⟩] (.tup [.rsl (rowI ((splitK 100 ([1, 1, 1])).1)) 0 (((splitK 100 ([1, 1, 1])).1).length), .int .i64 ((splitK 100 ([1, 1, 1])).2)]) [⟨false, 1, 1, true, [], false⟩], PureF Try.prog (.clos 24 [] []) [.int .i64 2500, .rsl [.int .i64 0, .int .i64 10, .int .i64 1000, .int .i64 20] 0 2] (.tup [.int .i64 ((netK 2500 ([(⟨0, 10⟩ : Bra), (⟨1000, 20⟩ : Bra)])).1), .int .i64 ((netK 2500 ([(⟨0, 10⟩ : Bra), (⟨1000, 20⟩ : Bra)])).2)]), 0 = 0, ((splitK 100 ([1, 1, 1])).2 == 0) = true, ((netK 2500 ([(⟨0, 10⟩ : Bra), (⟨1000, 20⟩ : Bra)])).2 == 0) = true, PureF Try.prog (.clos 17 [] []) [.rsl (rowI ((splitK 100 ([1, 1, 1])).1)) 0 (((splitK 100 ([1, 1, 1])).1).length), .rsl [.int .i64 34, .int .i64 33, .int .i64 33] 0 3] (.bool true), 0 = 0, true = true]) hE Try.func20 mixed (by kernel_rfl) ⟨o0, o1, (rfl), o3, o4, o5, (rfl), o7, trivial⟩ hr
theorem p20_start_1    {E : Env} {res : AV} (hE : PureE Try.prog 20 res E) (o0 : LentF Try.prog (.clos 15 [] []) [.int .i64 100, .sl 0 0 0 3 1] [⟨true, 0, 1, true, [.int .i64 1, .int .i64 1, .int .i64 1], true⟩] (.tup [.rsl (rowI ((splitK 100 ([1, 1, 1])).1)) 0 (((splitK 100 ([1, 1, 1])).1).length), .int .i64 ((splitK 100 ([1, 1, 1])).2)]) [⟨false, 1, 1, true, [], false⟩]) (o1 : PureF Try.prog (.clos 24 [] []) [.int .i64 2500, .rsl [.int .i64 0, .int .i64 10, .int .i64 1000, .int .i64 20] 0 2] (.tup [.int .i64 ((netK 2500 ([(⟨0, 10⟩ : Bra), (⟨1000, 20⟩ : Bra)])).1), .int .i64 ((netK 2500 ([(⟨0, 10⟩ : Bra), (⟨1000, 20⟩ : Bra)])).2)])) (o3 : ((splitK 100 ([1, 1, 1])).2 == 0) = true) (o4 : ((netK 2500 ([(⟨0, 10⟩ : Bra), (⟨1000, 20⟩ : Bra)])).2 == 0) = true) (o5 : PureF Try.prog (.clos 17 [] []) [.rsl (rowI ((splitK 100 ([1, 1, 1])).1)) 0 (((splitK 100 ([1, 1, 1])).1).length), .rsl [.int .i64 34, .int .i64 33, .int .i64 33] 0 3] (.bool true)) (o7 : true = false)
    (hr : AvLe (.bool false) res) : G Try.prog E [.code (bodyAt Try.prog 20)] ⟨[] ++ unds (Try.f20.ntmps - 0), []⟩ :=
  end_stepL (n := 400) (evs := [.lent [0] (.tup [.rsl (rowI ((splitK 100 ([1, 1, 1])).1)) 0 (((splitK 100 ([1, 1, 1])).1).length), .int .i64 ((splitK 100 ([1, 1, 1])).2)]) [⟨false, 1, 1, true, [], false⟩], .v (.tup [.int .i64 ((netK 2500 ([(⟨0, 10⟩ : Bra), (⟨1000, 20⟩ : Bra)])).1), .int .i64 ((netK 2500 ([(⟨0, 10⟩ : Bra), (⟨1000, 20⟩ : Bra)])).2)]), .b true, .b true, .v (.bool true), .b false]) (obs := [LentF Try.prog (.clos 15 [] []) [.int .i64 100, .sl 0 0 0 3 1] [⟨true, 0, 1, true, [.int .i64 1, .int .i64 1, .int .i64 1], true⟩] (.tup [.rsl (rowI ((splitK 100 ([1, 1, 1])).1)) 0 (((splitK 100 ([1, 1, 1])).1).length), .int .i64 ((splitK 100 ([1, 1, 1])).2)]) [⟨false, 1, 1, true, [], false⟩], PureF Try.prog (.clos 24 [] []) [.int .i64 2500, .rsl [.int .i64 0, .int .i64 10, .int .i64 1000, .int .i64 20] 0 2] (.tup [.int .i64 ((netK 2500 ([(⟨0, 10⟩ : Bra), (⟨1000, 20⟩ : Bra)])).1), .int .i64 ((netK 2500 ([(⟨0, 10⟩ : Bra), (⟨1000, 20⟩ : Bra)])).2)]), 0 = 0, ((splitK 100 ([1, 1, 1])).2 == 0) = true, ((netK 2500 ([(⟨0, 10⟩ : Bra), (⟨1000, 20⟩ : Bra)])).2 == 0) = true, PureF Try.prog (.clos 17 [] []) [.rsl (rowI ((splitK 100 ([1, 1, 1])).1)) 0 (((splitK 100 ([1, 1, 1])).1).length), .rsl [.int .i64 34, .int .i64 33, .int .i64 33] 0 3] (.bool true), 0 = 0, true = false]) hE Try.func20 mixed (by kernel_rfl) ⟨o0, o1, (rfl), o3, o4, o5, (rfl), o7, trivial⟩ hr
theorem p20_start_2    {E : Env} {res : AV} (hE : PureE Try.prog 20 res E) (o0 : LentF Try.prog (.clos 15 [] []) [.int .i64 100, .sl 0 0 0 3 1] [⟨true, 0, 1, true, [.int .i64 1, .int .i64 1, .int .i64 1], true⟩] (.tup [.rsl (rowI ((splitK 100 ([1, 1, 1])).1)) 0 (((splitK 100 ([1, 1, 1])).1).length), .int .i64 ((splitK 100 ([1, 1, 1])).2)]) [⟨false, 1, 1, true, [], false⟩]) (o1 : PureF Try.prog (.clos 24 [] []) [.int .i64 2500, .rsl [.int .i64 0, .int .i64 10, .int .i64 1000, .int .i64 20] 0 2] (.tup [.int .i64 ((netK 2500 ([(⟨0, 10⟩ : Bra), (⟨1000, 20⟩ : Bra)])).1), .int .i64 ((netK 2500 ([(⟨0, 10⟩ : Bra), (⟨1000, 20⟩ : Bra)])).2)])) (o3 : ((splitK 100 ([1, 1, 1])).2 == 0) = true) (o4 : ((netK 2500 ([(⟨0, 10⟩ : Bra), (⟨1000, 20⟩ : Bra)])).2 == 0) = false)
    (hr : AvLe (.bool false) res) : G Try.prog E [.code (bodyAt Try.prog 20)] ⟨[] ++ unds (Try.f20.ntmps - 0), []⟩ :=
  end_stepL (n := 400) (evs := [.lent [0] (.tup [.rsl (rowI ((splitK 100 ([1, 1, 1])).1)) 0 (((splitK 100 ([1, 1, 1])).1).length), .int .i64 ((splitK 100 ([1, 1, 1])).2)]) [⟨false, 1, 1, true, [], false⟩], .v (.tup [.int .i64 ((netK 2500 ([(⟨0, 10⟩ : Bra), (⟨1000, 20⟩ : Bra)])).1), .int .i64 ((netK 2500 ([(⟨0, 10⟩ : Bra), (⟨1000, 20⟩ : Bra)])).2)]), .b true, .b false, .b false]) (obs := [LentF Try.prog (.clos 15 [] []) [.int .i64 100, .sl 0 0 0 3 1] [⟨true, 0, 1, true, [.int .i64 1, .int .i64 1, .int .i64 1], true⟩] (.tup [.rsl (rowI ((splitK 100 ([1, 1, 1])).1)) 0 (((splitK 100 ([1, 1, 1])).1).length), .int .i64 ((splitK 100 ([1, 1, 1])).2)]) [⟨false, 1, 1, true, [], false⟩], PureF Try.prog (.clos 24 [] []) [.int .i64 2500, .rsl [.int .i64 0, .int .i64 10, .int .i64 1000, .int .i64 20] 0 2] (.tup [.int .i64 ((netK 2500 ([(⟨0, 10⟩ : Bra), (⟨1000, 20⟩ : Bra)])).1), .int .i64 ((netK 2500 ([(⟨0, 10⟩ : Bra), (⟨1000, 20⟩ : Bra)])).2)]), 0 = 0, ((splitK 100 ([1, 1, 1])).2 == 0) = true, ((netK 2500 ([(⟨0, 10⟩ : Bra), (⟨1000, 20⟩ : Bra)])).2 == 0) = false, false = false]) hE Try.func20 mixed (by kernel_rfl) ⟨o0, o1, (rfl), o3, o4, (rfl), trivial⟩ hr
theorem p20_start_3    {E : Env} {res : AV} (hE : PureE Try.prog 20 res E) (o0 : LentF Try.prog (.clos 15 [] []) [.int .i64 100, .sl 0 0 0 3 1] [⟨true, 0, 1, true, [.int .i64 1, .int .i64 1, .int .i64 1], true⟩] (.tup [.rsl (rowI ((splitK 100 ([1, 1, 1])).1)) 0 (((splitK 100 ([1, 1, 1])).1).length), .int .i64 ((splitK 100 ([1, 1, 1])).2)]) [⟨false, 1, 1, true, [], false⟩]) (o1 : PureF Try.prog (.clos 24 [] []) [.int .i64 2500, .rsl [.int .i64 0, .int .i64 10, .int .i64 1000, .int .i64 20] 0 2] (.tup [.int .i64 ((netK 2500 ([(⟨0, 10⟩ : Bra), (⟨1000, 20⟩ : Bra)])).1), .int .i64 ((netK 2500 ([(⟨0, 10⟩ : Bra), (⟨1000, 20⟩ : Bra)])).2)])) (o3 : ((splitK 100 ([1, 1, 1])).2 == 0) = false)
    (hr : AvLe (.bool false) res) : G Try.prog E [.code (bodyAt Try.prog 20)] ⟨[] ++ unds (Try.f20.ntmps - 0), []⟩ :=
  end_stepL (n := 400) (evs := [.lent [0] (.tup [.rsl (rowI ((splitK 100 ([1, 1, 1])).1)) 0 (((splitK 100 ([1, 1, 1])).1).length), .int .i64 ((splitK 100 ([1, 1, 1])).2)]) [⟨false, 1, 1, true, [], false⟩], .v (.tup [.int .i64 ((netK 2500 ([(⟨0, 10⟩ : Bra), (⟨1000, 20⟩ : Bra)])).1), .int .i64 ((netK 2500 ([(⟨0, 10⟩ : Bra), (⟨1000, 20⟩ : Bra)])).2)]), .b false, .b false, .b false]) (obs := [LentF Try.prog (.clos 15 [] []) [.int .i64 100, .sl 0 0 0 3 1] [⟨true, 0, 1, true, [.int .i64 1, .int .i64 1, .int .i64 1], true⟩] (.tup [.rsl (rowI ((splitK 100 ([1, 1, 1])).1)) 0 (((splitK 100 ([1, 1, 1])).1).length), .int .i64 ((splitK 100 ([1, 1, 1])).2)]) [⟨false, 1, 1, true, [], false⟩], PureF Try.prog (.clos 24 [] []) [.int .i64 2500, .rsl [.int .i64 0, .int .i64 10, .int .i64 1000, .int .i64 20] 0 2] (.tup [.int .i64 ((netK 2500 ([(⟨0, 10⟩ : Bra), (⟨1000, 20⟩ : Bra)])).1), .int .i64 ((netK 2500 ([(⟨0, 10⟩ : Bra), (⟨1000, 20⟩ : Bra)])).2)]), 0 = 0, ((splitK 100 ([1, 1, 1])).2 == 0) = false, false = false, false = false]) hE Try.func20 mixed (by kernel_rfl) ⟨o0, o1, (rfl), o3, (rfl), (rfl), trivial⟩ hr
theorem f20W  {E : Env} {rv : Bool} (hE : PureE Try.prog 20 (.bool rv) E)
    (h : ((([1, 1, 1]).length ≤ 9223372036854775807) ∧ ((([(⟨0, 10⟩ : Bra), (⟨1000, 20⟩ : Bra)]).length ≤ 9223372036854775807) ∧ (((splitK 100 ([1, 1, 1])).2 = 0 → (((netK 2500 ([(⟨0, 10⟩ : Bra), (⟨1000, 20⟩ : Bra)])).2 = 0 → ((((splitK 100 ([1, 1, 1])).1) = ([34, 33, 33]) ∧ ((splitK 100 ([1, 1, 1])).1).length ≤ 1000000) ∧ ((true = true → rv = ((netK 2500 ([(⟨0, 10⟩ : Bra), (⟨1000, 20⟩ : Bra)])).1 == 2999)) ∧ (true = false → rv = false)))) ∧ (¬ ((netK 2500 ([(⟨0, 10⟩ : Bra), (⟨1000, 20⟩ : Bra)])).2 = 0) → rv = false))) ∧ (¬ ((splitK 100 ([1, 1, 1])).2 = 0) → rv = false))))) : G Try.prog E [.code (bodyAt Try.prog 20)] ⟨[] ++ unds (Try.f20.ntmps - 0), []⟩ := by
  obtain ⟨h1, h⟩ := h
  obtain ⟨h2, h⟩ := h
  rcases Bool.eq_false_or_eq_true ((splitK 100 ([1, 1, 1])).2 == 0) with hc0 | hc0
  · have h := h.1 (eq_of_beq hc0)
    rcases Bool.eq_false_or_eq_true ((netK 2500 ([(⟨0, 10⟩ : Bra), (⟨1000, 20⟩ : Bra)])).2 == 0) with hc1 | hc1
    · have h := h.1 (eq_of_beq hc1)
      obtain ⟨h3, h⟩ := h
      rcases Bool.eq_false_or_eq_true true with hc2 | hc2
      · have h := h.1 hc2
        exact p20_start_0     hE (lentF_of_pure (fv' := .clos 15 [] []) (args' := [.int .i64 100, .rsl [.int .i64 1, .int .i64 1, .int .i64 1] 0 3]) (o1 := []) (o2 := [0 = 0]) (by kernel_rfl) trivial (by kernel_rfl) ⟨rfl, trivial⟩ (pureF_of Try.func15 (by kernel_rfl) f15b (SplitP_ok 100 ([1, 1, 1]) h1))) (pureF_of Try.func24 (by kernel_rfl) f24b (NetP_ok 2500 ([(⟨0, 10⟩ : Bra), (⟨1000, 20⟩ : Bra)]) h2)) hc0 hc1 (pureF_of Try.func17 (by kernel_rfl) f17b (sameInts_ok ((splitK 100 ([1, 1, 1])).1) ([34, 33, 33]) h3)) hc2 (AvLe.of_eq (by rw [h]; try rfl))
      · have h := h.2 hc2
        exact p20_start_1     hE (lentF_of_pure (fv' := .clos 15 [] []) (args' := [.int .i64 100, .rsl [.int .i64 1, .int .i64 1, .int .i64 1] 0 3]) (o1 := []) (o2 := [0 = 0]) (by kernel_rfl) trivial (by kernel_rfl) ⟨rfl, trivial⟩ (pureF_of Try.func15 (by kernel_rfl) f15b (SplitP_ok 100 ([1, 1, 1]) h1))) (pureF_of Try.func24 (by kernel_rfl) f24b (NetP_ok 2500 ([(⟨0, 10⟩ : Bra), (⟨1000, 20⟩ : Bra)]) h2)) hc0 hc1 (pureF_of Try.func17 (by kernel_rfl) f17b (sameInts_ok ((splitK 100 ([1, 1, 1])).1) ([34, 33, 33]) h3)) hc2 (AvLe.of_eq (by rw [h]; try rfl))
    · have h := h.2 (ne_of_beq_false hc1)
      exact p20_start_2     hE (lentF_of_pure (fv' := .clos 15 [] []) (args' := [.int .i64 100, .rsl [.int .i64 1, .int .i64 1, .int .i64 1] 0 3]) (o1 := []) (o2 := [0 = 0]) (by kernel_rfl) trivial (by kernel_rfl) ⟨rfl, trivial⟩ (pureF_of Try.func15 (by kernel_rfl) f15b (SplitP_ok 100 ([1, 1, 1]) h1))) (pureF_of Try.func24 (by kernel_rfl) f24b (NetP_ok 2500 ([(⟨0, 10⟩ : Bra), (⟨1000, 20⟩ : Bra)]) h2)) hc0 hc1 (AvLe.of_eq (by rw [h]; try rfl))
  · have h := h.2 (ne_of_beq_false hc0)
    exact p20_start_3     hE (lentF_of_pure (fv' := .clos 15 [] []) (args' := [.int .i64 100, .rsl [.int .i64 1, .int .i64 1, .int .i64 1] 0 3]) (o1 := []) (o2 := [0 = 0]) (by kernel_rfl) trivial (by kernel_rfl) ⟨rfl, trivial⟩ (pureF_of Try.func15 (by kernel_rfl) f15b (SplitP_ok 100 ([1, 1, 1]) h1))) (pureF_of Try.func24 (by kernel_rfl) f24b (NetP_ok 2500 ([(⟨0, 10⟩ : Bra), (⟨1000, 20⟩ : Bra)]) h2)) hc0 (AvLe.of_eq (by rw [h]; try rfl))

theorem works_ok : Pure Try.prog 20 [] (.bool true) := pure_of Try.func20 f20b fun E hE => by
  have h1 : splitK 100 [1, 1, 1] = ([34, 33, 33], 0) := by decide +kernel
  have h2 : netK 2500 [⟨0, 10⟩, ⟨1000, 20⟩] = (2999, 0) := by decide +kernel
  refine f20W (rv := true) hE ⟨by decide, by decide, fun h => ⟨fun h' => ⟨⟨by rw [h1], by rw [h1]; decide⟩, fun _ => by rw [h2]; rfl, fun h => by cases h⟩, fun h' => absurd (by rw [h2]) h'⟩, fun h' => absurd (by rw [h1]) h'⟩

end Go.Proofs.Ytmdbebbibecidaa

namespace Go.Proofs.Ytmdbebbibecidaa
open Go Ax
open Go.Proofs

theorem ownT : ownKnob Try.prog.godebug = none := by kernel_rfl
theorem laidT : laidOutB Try.prog = true := by kernel_rfl

theorem dInts (W : World) : Dec Try.prog W 22 (List Int) (fun a => [.rsl (rowI a) 0 a.length]) (fun a => a.length ≤ 9223372036854775807) := by
  refine Dec.map (dec_slice Try.underlying22 (n := 1) (by kernel_rfl) (by decide) (fun _ => rfl) (fun _ => rfl) (dec_i64 Try.underlying3)) (fun x => x) ?_ ?_
  · exact fun _ => rfl
  · exact fun _ h => h.1
end Go.Proofs.Ytmdbebbibecidaa

namespace Go.Proofs.Ytmdbebbibecidaa
open Go Ax
open Go.Proofs

structure RentA where
  p : Int
  q : Int
  m : Int
end Go.Proofs.Ytmdbebbibecidaa

namespace Go.Proofs.Ytmdbebbibecidaa
open Go Ax
open Go.Proofs

structure Pay where
  frm : Int
  to : Int
  c : Int
def cPay (b : Pay) : List AV := [.int .i64 b.frm, .int .i64 b.to, .int .i64 b.c]
def rowPay (l : List Pay) : List AV := l.flatMap cPay
theorem f69b : Try.f69.body = some (bodyAt Try.prog 69) := by kernel_rfl
theorem p69_start_0 (n : Int)   {E : Env} {res : AV} (hE : PureE Try.prog 69 res E) (o0 : PureF Try.prog (.clos 49 [] []) [.int .i64 n, .int .i64 (-10000000000), .int .i64 10000000000] (.bool (within n (-10000000000) 10000000000)))
    (hr : AvLe (.bool (!(within n (-10000000000) 10000000000))) res) : G Try.prog E [.code (bodyAt Try.prog 69)] ⟨[.int .i64 n] ++ unds (Try.f69.ntmps - 1), []⟩ :=
  end_stepL (n := 400) (evs := [.v (.bool (within n (-10000000000) 10000000000))]) (obs := [PureF Try.prog (.clos 49 [] []) [.int .i64 n, .int .i64 (-10000000000), .int .i64 10000000000] (.bool (within n (-10000000000) 10000000000))]) hE Try.func69 mixed (by kernel_rfl) ⟨o0, trivial⟩ hr
theorem f69W (n : Int) {E : Env} {rv : Bool} (hE : PureE Try.prog 69 (.bool rv) E)
    (h : rv = (!(within n (-10000000000) 10000000000))) : G Try.prog E [.code (bodyAt Try.prog 69)] ⟨[.int .i64 n] ++ unds (Try.f69.ntmps - 1), []⟩ := by
  exact p69_start_0 n    hE (pureF_of Try.func49 (by kernel_rfl) f49b (within_ok n (-10000000000) 10000000000)) (AvLe.of_eq (by rw [h]; try rfl))

def balN (n : Int) : Bool := within n (-10000000000) 10000000000
theorem notBal_ok (n : Int) : Pure Try.prog 69 [.int .i64 n] (.bool (!balN n)) := pure_of Try.func69 f69b fun E hE => f69W n hE rfl

theorem f74cb : Try.f74.body = some (bodyAt Try.prog 74) := by kernel_rfl
def f74cK0 (P : Program) : List Item := kAt 400 [.code (bodyAt P 74)] [.stop]
def f74cS0 (l : (List Int)) (i : Nat)  : St := ⟨[.rsl (rowI l) 0 l.length, .clos 69 [] [], .junk, .junk, .junk, .junk, .junk, .int .i64 ((l.length : Nat) : Int), .int .i64 ((i : Nat) : Int), .junk, .junk, .junk, .junk, .junk, .junk, .junk, .junk, .junk, .junk], []⟩
def f74cG0 (E : Env) (l : (List Int)) (i : Nat) : Prop := G Try.prog E (f74cK0 Try.prog) (f74cS0 l i )
theorem p74c_start_0 (l : (List Int))   {E : Env} {rv : AV} (hE : PureE Try.prog 74 rv E) 
    (hg : G Try.prog E (f74cK0 Try.prog) ⟨[.rsl (rowI l) 0 l.length, .clos 69 [] [], .junk, .junk, .junk, .junk, .junk, .int .i64 ((l.length : Nat) : Int), .int .i64 0, .junk, .junk, .junk, .junk, .junk, .junk, .junk, .junk, .junk, .junk], []⟩) : G Try.prog E [.code (bodyAt Try.prog 74)] ⟨[.rsl (rowI l) 0 l.length, .clos 69 [] []] ++ unds (Try.f74.ntmps - 2), []⟩ :=
  segC_step (n := 400) (ds := []) (cs := []) (live := [0, 1, 7, 8]) (m := 0) (evs := [.stop]) (obs := []) hE.2.1 (hE.nogh _) mixed (by kernel_rfl) trivial hg
theorem f74cW (l : (List Int)) {E : Env} {rv : Int} (hE : PureE Try.prog 74 (.int .i64 rv) E)
    (h : f74cG0 E l 0) : G Try.prog E [.code (bodyAt Try.prog 74)] ⟨[.rsl (rowI l) 0 l.length, .clos 69 [] []] ++ unds (Try.f74.ntmps - 2), []⟩ := by
  exact p74c_start_0 l    hE  h
theorem p74c_0_0 (l : (List Int)) (i : Nat)  (e : Int)  {E : Env} {res : AV} (hE : PureE Try.prog 74 res E) (o0 : (decide (((i : Nat) : Int) < ((l.length : Nat) : Int))) = true) (o2 : 0 ≤ ((i : Nat) : Int) ∧ ((i : Nat) : Int) < ((l.length : Nat) : Int)) (o3 : ((rowI l).drop (0 + (Int.toNat ((i : Nat) : Int)) * 1)).take 1 = [.int .i64 e]) (o4 : PureF Try.prog (.clos 69 [] []) [.int .i64 e] (.bool (!balN e))) (o5 : (!balN e) = true)
    (hr : AvLe (.int .i64 ((i : Nat) : Int)) res) : G Try.prog E (f74cK0 Try.prog) (f74cS0 l i ) :=
  end_stepL (n := 400) (evs := [.b true, .ld (.int .i64 e), .v (.bool (!balN e)), .b true]) (obs := [(decide (((i : Nat) : Int) < ((l.length : Nat) : Int))) = true, 0 ≤ ((i : Nat) : Int) ∧ ((i : Nat) : Int) < ((l.length : Nat) : Int), ((rowI l).drop (0 + (Int.toNat ((i : Nat) : Int)) * 1)).take 1 = [.int .i64 e], PureF Try.prog (.clos 69 [] []) [.int .i64 e] (.bool (!balN e)), (!balN e) = true]) hE Try.func74 mixed (by kernel_rfl) ⟨o0, o2, o3, o4, o5, trivial⟩ hr
theorem p74c_0_1 (l : (List Int)) (i : Nat)  (e : Int)  {E : Env} {rv : AV} (hE : PureE Try.prog 74 rv E) (o0 : (decide (((i : Nat) : Int) < ((l.length : Nat) : Int))) = true) (o2 : 0 ≤ ((i : Nat) : Int) ∧ ((i : Nat) : Int) < ((l.length : Nat) : Int)) (o3 : ((rowI l).drop (0 + (Int.toNat ((i : Nat) : Int)) * 1)).take 1 = [.int .i64 e]) (o4 : PureF Try.prog (.clos 69 [] []) [.int .i64 e] (.bool (!balN e))) (o5 : (!balN e) = false) (o6 : InR .i64 (((i : Nat) : Int) + 1))
    (hg : G Try.prog E (f74cK0 Try.prog) ⟨[.rsl (rowI l) 0 l.length, .clos 69 [] [], .junk, .junk, .junk, .junk, .junk, .int .i64 ((l.length : Nat) : Int), .int .i64 (((i : Nat) : Int) + 1), .junk, .junk, .junk, .junk, .junk, .junk, .junk, .junk, .junk, .junk], []⟩) : G Try.prog E (f74cK0 Try.prog) (f74cS0 l i ) :=
  segC_step (n := 400) (ds := []) (cs := []) (live := [0, 1, 7, 8]) (m := 0) (evs := [.b true, .ld (.int .i64 e), .v (.bool (!balN e)), .b false, .stop]) (obs := [(decide (((i : Nat) : Int) < ((l.length : Nat) : Int))) = true, 0 ≤ ((i : Nat) : Int) ∧ ((i : Nat) : Int) < ((l.length : Nat) : Int), ((rowI l).drop (0 + (Int.toNat ((i : Nat) : Int)) * 1)).take 1 = [.int .i64 e], PureF Try.prog (.clos 69 [] []) [.int .i64 e] (.bool (!balN e)), (!balN e) = false, InR .i64 (((i : Nat) : Int) + 1)]) hE.2.1 (hE.nogh _) mixed (by kernel_rfl) ⟨o0, o2, o3, o4, o5, o6, trivial⟩ hg
theorem p74c_0_2 (l : (List Int)) (i : Nat)   {E : Env} {res : AV} (hE : PureE Try.prog 74 res E) (o0 : (decide (((i : Nat) : Int) < ((l.length : Nat) : Int))) = false)
    (hr : AvLe (.int .i64 (-1)) res) : G Try.prog E (f74cK0 Try.prog) (f74cS0 l i ) :=
  end_stepL (n := 400) (evs := [.b false]) (obs := [(decide (((i : Nat) : Int) < ((l.length : Nat) : Int))) = false]) hE Try.func74 mixed (by kernel_rfl) ⟨o0, trivial⟩ hr
theorem f74cW0 (l : (List Int)) (i : Nat) {E : Env} {rv : Int} (hE : PureE Try.prog 74 (.int .i64 rv) E)
    (h : ((((i : Nat) : Int) < ((l.length : Nat) : Int) → (∃ e : Int, l[i]? = some e ∧ (((!balN e) = true → rv = ((i : Nat) : Int)) ∧ ((!balN e) = false → ((-9223372036854775808 ≤ ((i : Nat) : Int) + 1 ∧ ((i : Nat) : Int) + 1 ≤ 9223372036854775807) ∧ f74cG0 E l (i + 1)))))) ∧ (¬ (((i : Nat) : Int) < ((l.length : Nat) : Int)) → rv = (-1)))) : f74cG0 E l i := by
  rcases Bool.eq_false_or_eq_true (decide (((i : Nat) : Int) < ((l.length : Nat) : Int))) with hc0 | hc0
  · have h := h.1 (of_decide_eq_true hc0)
    obtain ⟨e, h1, h⟩ := h
    rcases Bool.eq_false_or_eq_true (!balN e) with hc1 | hc1
    · have h := h.1 hc1
      exact p74c_0_0 l i  e hE hc0 (idx_ok h1) (row_part cI (s := 1) (k := 0) (m := 1) (fun _ => rfl) (by decide) h1) (pureF_of Try.func69 (by kernel_rfl) f69b (notBal_ok e)) hc1 (AvLe.of_eq (by rw [h]; try rfl))
    · have h := h.2 hc1
      obtain ⟨q6_2, h⟩ := h
      exact p74c_0_1 l i  e hE hc0 (idx_ok h1) (row_part cI (s := 1) (k := 0) (m := 1) (fun _ => rfl) (by decide) h1) (pureF_of Try.func69 (by kernel_rfl) f69b (notBal_ok e)) hc1 q6_2 h
  · have h := h.2 (of_decide_eq_false hc0)
    exact p74c_0_2 l i   hE hc0 (AvLe.of_eq (by rw [h]; try rfl))

theorem idx69_ok (l : List Int) (h : l.length ≤ 9223372036854775807) : Pure Try.prog 74 [.rsl (rowI l) 0 l.length, .clos 69 [] []] (.int .i64 (idxI (fun x => !balN x) l)) := pure_of Try.func74 f74cb fun E hE => by
  refine f74cW l hE (idx_from (fun x => !balN x) l l.length 0 (by omega) (fun j x hj => by omega) (fun i => f74cG0 E l i) (fun i hi h1 h2 => ?_) (fun _ h2 => ?_))
  · have hx : l[i]? = some l[i] := List.getElem?_eq_getElem hi
    exact f74cW0 l i hE ⟨fun _ => ⟨_, hx, fun hp => h1 _ hx hp, fun hp => ⟨by omega, h2 _ hx hp⟩⟩, fun h => by omega⟩
  · exact f74cW0 l _ hE ⟨fun h => by omega, fun _ => h2⟩

theorem f62cb : Try.f62.body = some (bodyAt Try.prog 62) := by kernel_rfl
theorem p62c_start_0 (l : (List Int))   {E : Env} {res : AV} (hE : PureE Try.prog 62 res E) (o0 : PureF Try.prog (.clos 74 [] []) [.rsl (rowI l) 0 l.length, .clos 69 [] []] (.int .i64 (idxI (fun x => !balN x) l)))
    (hr : AvLe (.bool (decide ((idxI (fun x => !balN x) l) ≥ 0))) res) : G Try.prog E [.code (bodyAt Try.prog 62)] ⟨[.rsl (rowI l) 0 l.length, .clos 69 [] []] ++ unds (Try.f62.ntmps - 2), []⟩ :=
  end_stepL (n := 400) (evs := [.v (.int .i64 (idxI (fun x => !balN x) l))]) (obs := [PureF Try.prog (.clos 74 [] []) [.rsl (rowI l) 0 l.length, .clos 69 [] []] (.int .i64 (idxI (fun x => !balN x) l))]) hE Try.func62 mixed (by kernel_rfl) ⟨o0, trivial⟩ hr
theorem f62cW (l : (List Int)) {E : Env} {rv : Bool} (hE : PureE Try.prog 62 (.bool rv) E)
    (h : ((l.length ≤ 9223372036854775807) ∧ rv = (decide ((idxI (fun x => !balN x) l) ≥ 0)))) : G Try.prog E [.code (bodyAt Try.prog 62)] ⟨[.rsl (rowI l) 0 l.length, .clos 69 [] []] ++ unds (Try.f62.ntmps - 2), []⟩ := by
  obtain ⟨h1, h⟩ := h
  exact p62c_start_0 l    hE (pureF_of Try.func74 (by kernel_rfl) f74cb (idx69_ok l h1)) (AvLe.of_eq (by rw [h]; try rfl))

theorem any69_ok (l : List Int) (h : l.length ≤ 9223372036854775807) : Pure Try.prog 62 [.rsl (rowI l) 0 l.length, .clos 69 [] []] (.bool (l.any fun x => !balN x)) := pure_of Try.func62 f62cb fun E hE =>
  f62cW l hE ⟨h, (idx_any _ _).symm⟩
def balB (l : List Int) : Bool := within l.length 1 10 && !(l.any fun x => !balN x)

theorem f52b : Try.f52.body = some (bodyAt Try.prog 52) := by kernel_rfl
theorem p52_start_0 (l : (List Int))   {E : Env} {res : AV} (hE : PureE Try.prog 52 res E) (o0 : PureF Try.prog (.clos 49 [] []) [.int .i64 ((l.length : Nat) : Int), .int .i64 1, .int .i64 10] (.bool (within ((l.length : Nat) : Int) 1 10))) (o1 : (within ((l.length : Nat) : Int) 1 10) = true) (o2 : PureF Try.prog (.clos 62 [] []) [.rsl (rowI l) 0 l.length, .clos 69 [] []] (.bool (l.any (fun x => !balN x))))
    (hr : AvLe (.bool (!(l.any (fun x => !balN x)))) res) : G Try.prog E [.code (bodyAt Try.prog 52)] ⟨[.rsl (rowI l) 0 l.length] ++ unds (Try.f52.ntmps - 1), []⟩ :=
  end_stepL (n := 400) (evs := [.v (.bool (within ((l.length : Nat) : Int) 1 10)), .b true, .v (.bool (l.any (fun x => !balN x)))]) (obs := [PureF Try.prog (.clos 49 [] []) [.int .i64 ((l.length : Nat) : Int), .int .i64 1, .int .i64 10] (.bool (within ((l.length : Nat) : Int) 1 10)), (within ((l.length : Nat) : Int) 1 10) = true, PureF Try.prog (.clos 62 [] []) [.rsl (rowI l) 0 l.length, .clos 69 [] []] (.bool (l.any (fun x => !balN x)))]) hE Try.func52 mixed (by kernel_rfl) ⟨o0, o1, o2, trivial⟩ hr
theorem p52_start_1 (l : (List Int))   {E : Env} {res : AV} (hE : PureE Try.prog 52 res E) (o0 : PureF Try.prog (.clos 49 [] []) [.int .i64 ((l.length : Nat) : Int), .int .i64 1, .int .i64 10] (.bool (within ((l.length : Nat) : Int) 1 10))) (o1 : (within ((l.length : Nat) : Int) 1 10) = false)
    (hr : AvLe (.bool false) res) : G Try.prog E [.code (bodyAt Try.prog 52)] ⟨[.rsl (rowI l) 0 l.length] ++ unds (Try.f52.ntmps - 1), []⟩ :=
  end_stepL (n := 400) (evs := [.v (.bool (within ((l.length : Nat) : Int) 1 10)), .b false]) (obs := [PureF Try.prog (.clos 49 [] []) [.int .i64 ((l.length : Nat) : Int), .int .i64 1, .int .i64 10] (.bool (within ((l.length : Nat) : Int) 1 10)), (within ((l.length : Nat) : Int) 1 10) = false]) hE Try.func52 mixed (by kernel_rfl) ⟨o0, o1, trivial⟩ hr
theorem f52W (l : (List Int)) {E : Env} {rv : Bool} (hE : PureE Try.prog 52 (.bool rv) E)
    (h : (((within ((l.length : Nat) : Int) 1 10) = true → ((l.length ≤ 9223372036854775807) ∧ rv = (!(l.any (fun x => !balN x))))) ∧ ((within ((l.length : Nat) : Int) 1 10) = false → rv = false))) : G Try.prog E [.code (bodyAt Try.prog 52)] ⟨[.rsl (rowI l) 0 l.length] ++ unds (Try.f52.ntmps - 1), []⟩ := by
  rcases Bool.eq_false_or_eq_true (within ((l.length : Nat) : Int) 1 10) with hc0 | hc0
  · have h := h.1 hc0
    obtain ⟨h1, h⟩ := h
    exact p52_start_0 l    hE (pureF_of Try.func49 (by kernel_rfl) f49b (within_ok ((l.length : Nat) : Int) 1 10)) hc0 (pureF_of Try.func62 (by kernel_rfl) f62cb (any69_ok l h1)) (AvLe.of_eq (by rw [h]; try rfl))
  · have h := h.2 hc0
    exact p52_start_1 l    hE (pureF_of Try.func49 (by kernel_rfl) f49b (within_ok ((l.length : Nat) : Int) 1 10)) hc0 (AvLe.of_eq (by rw [h]; try rfl))
theorem f55b : Try.f55.body = some (bodyAt Try.prog 55) := by kernel_rfl
def f55K0 (P : Program) : List Item := kAt 400 [.code (bodyAt P 55)] [.stop]
def f55S0 (l : (List Int)) (i : Nat)  : St := ⟨[.rsl (rowI l) 0 l.length, .junk, .junk, .int .i64 ((i : Nat) : Int), .junk, .junk, .junk, .junk, .junk, .junk, .junk, .junk, .junk, .junk, .junk, .junk, .junk, .junk, .junk], []⟩
def f55G0 (E : Env) (l : (List Int)) (i : Nat) : Prop := G Try.prog E (f55K0 Try.prog) (f55S0 l i )
theorem p55_start_0 (l : (List Int))   {E : Env} {rv : AV} (hE : PureE Try.prog 55 rv E) 
    (hg : G Try.prog E (f55K0 Try.prog) ⟨[.rsl (rowI l) 0 l.length, .junk, .junk, .int .i64 0, .junk, .junk, .junk, .junk, .junk, .junk, .junk, .junk, .junk, .junk, .junk, .junk, .junk, .junk, .junk], []⟩) : G Try.prog E [.code (bodyAt Try.prog 55)] ⟨[.rsl (rowI l) 0 l.length] ++ unds (Try.f55.ntmps - 1), []⟩ :=
  segC_step (n := 400) (ds := []) (cs := []) (live := [0, 3]) (m := 0) (evs := [.stop]) (obs := []) hE.2.1 (hE.nogh _) mixed (by kernel_rfl) trivial hg
theorem f55W (l : (List Int)) {E : Env} {rv : Bool} (hE : PureE Try.prog 55 (.bool rv) E)
    (h : f55G0 E l 0) : G Try.prog E [.code (bodyAt Try.prog 55)] ⟨[.rsl (rowI l) 0 l.length] ++ unds (Try.f55.ntmps - 1), []⟩ := by
  exact p55_start_0 l    hE  h
theorem p55_0_0 (l : (List Int)) (i : Nat)  (e : Int)  {E : Env} {res : AV} (hE : PureE Try.prog 55 res E) (o0 : (decide (((i : Nat) : Int) < ((l.length : Nat) : Int))) = true) (o2 : 0 ≤ ((i : Nat) : Int) ∧ ((i : Nat) : Int) < ((l.length : Nat) : Int)) (o3 : ((rowI l).drop (0 + (Int.toNat ((i : Nat) : Int)) * 1)).take 1 = [.int .i64 e]) (o4 : PureF Try.prog (.clos 51 [] []) [.int .i64 e, .int .i64 (-10000000000), .int .i64 10000000000] (.bool (within e (-10000000000) 10000000000))) (o5 : (!(within e (-10000000000) 10000000000)) = true)
    (hr : AvLe (.bool false) res) : G Try.prog E (f55K0 Try.prog) (f55S0 l i ) :=
  end_stepL (n := 400) (evs := [.b true, .ld (.int .i64 e), .v (.bool (within e (-10000000000) 10000000000)), .b true]) (obs := [(decide (((i : Nat) : Int) < ((l.length : Nat) : Int))) = true, 0 ≤ ((i : Nat) : Int) ∧ ((i : Nat) : Int) < ((l.length : Nat) : Int), ((rowI l).drop (0 + (Int.toNat ((i : Nat) : Int)) * 1)).take 1 = [.int .i64 e], PureF Try.prog (.clos 51 [] []) [.int .i64 e, .int .i64 (-10000000000), .int .i64 10000000000] (.bool (within e (-10000000000) 10000000000)), (!(within e (-10000000000) 10000000000)) = true]) hE Try.func55 mixed (by kernel_rfl) ⟨o0, o2, o3, o4, o5, trivial⟩ hr
theorem p55_0_1 (l : (List Int)) (i : Nat)  (e : Int)  {E : Env} {rv : AV} (hE : PureE Try.prog 55 rv E) (o0 : (decide (((i : Nat) : Int) < ((l.length : Nat) : Int))) = true) (o2 : 0 ≤ ((i : Nat) : Int) ∧ ((i : Nat) : Int) < ((l.length : Nat) : Int)) (o3 : ((rowI l).drop (0 + (Int.toNat ((i : Nat) : Int)) * 1)).take 1 = [.int .i64 e]) (o4 : PureF Try.prog (.clos 51 [] []) [.int .i64 e, .int .i64 (-10000000000), .int .i64 10000000000] (.bool (within e (-10000000000) 10000000000))) (o5 : (!(within e (-10000000000) 10000000000)) = false) (o6 : InR .i64 (((i : Nat) : Int) + 1))
    (hg : G Try.prog E (f55K0 Try.prog) ⟨[.rsl (rowI l) 0 l.length, .junk, .junk, .int .i64 (((i : Nat) : Int) + 1), .junk, .junk, .junk, .junk, .junk, .junk, .junk, .junk, .junk, .junk, .junk, .junk, .junk, .junk, .junk], []⟩) : G Try.prog E (f55K0 Try.prog) (f55S0 l i ) :=
  segC_step (n := 400) (ds := []) (cs := []) (live := [0, 3]) (m := 0) (evs := [.b true, .ld (.int .i64 e), .v (.bool (within e (-10000000000) 10000000000)), .b false, .stop]) (obs := [(decide (((i : Nat) : Int) < ((l.length : Nat) : Int))) = true, 0 ≤ ((i : Nat) : Int) ∧ ((i : Nat) : Int) < ((l.length : Nat) : Int), ((rowI l).drop (0 + (Int.toNat ((i : Nat) : Int)) * 1)).take 1 = [.int .i64 e], PureF Try.prog (.clos 51 [] []) [.int .i64 e, .int .i64 (-10000000000), .int .i64 10000000000] (.bool (within e (-10000000000) 10000000000)), (!(within e (-10000000000) 10000000000)) = false, InR .i64 (((i : Nat) : Int) + 1)]) hE.2.1 (hE.nogh _) mixed (by kernel_rfl) ⟨o0, o2, o3, o4, o5, o6, trivial⟩ hg
theorem p55_0_2 (l : (List Int)) (i : Nat)   {E : Env} {res : AV} (hE : PureE Try.prog 55 res E) (o0 : (decide (((i : Nat) : Int) < ((l.length : Nat) : Int))) = false) (o1 : PureF Try.prog (.clos 51 [] []) [.int .i64 ((l.length : Nat) : Int), .int .i64 1, .int .i64 10] (.bool (within ((l.length : Nat) : Int) 1 10)))
    (hr : AvLe (.bool (within ((l.length : Nat) : Int) 1 10)) res) : G Try.prog E (f55K0 Try.prog) (f55S0 l i ) :=
  end_stepL (n := 400) (evs := [.b false, .v (.bool (within ((l.length : Nat) : Int) 1 10))]) (obs := [(decide (((i : Nat) : Int) < ((l.length : Nat) : Int))) = false, PureF Try.prog (.clos 51 [] []) [.int .i64 ((l.length : Nat) : Int), .int .i64 1, .int .i64 10] (.bool (within ((l.length : Nat) : Int) 1 10))]) hE Try.func55 mixed (by kernel_rfl) ⟨o0, o1, trivial⟩ hr
theorem f55W0 (l : (List Int)) (i : Nat) {E : Env} {rv : Bool} (hE : PureE Try.prog 55 (.bool rv) E)
    (h : ((((i : Nat) : Int) < ((l.length : Nat) : Int) → (∃ e : Int, l[i]? = some e ∧ (((within e (-10000000000) 10000000000) = false → rv = false) ∧ ((within e (-10000000000) 10000000000) = true → ((-9223372036854775808 ≤ ((i : Nat) : Int) + 1 ∧ ((i : Nat) : Int) + 1 ≤ 9223372036854775807) ∧ f55G0 E l (i + 1)))))) ∧ (¬ (((i : Nat) : Int) < ((l.length : Nat) : Int)) → rv = (within ((l.length : Nat) : Int) 1 10)))) : f55G0 E l i := by
  rcases Bool.eq_false_or_eq_true (decide (((i : Nat) : Int) < ((l.length : Nat) : Int))) with hc0 | hc0
  · have h := h.1 (of_decide_eq_true hc0)
    obtain ⟨e, h1, h⟩ := h
    rcases Bool.eq_false_or_eq_true (!(within e (-10000000000) 10000000000)) with hc1 | hc1
    · have h := h.1 (bnT hc1)
      exact p55_0_0 l i  e hE hc0 (idx_ok h1) (row_part cI (s := 1) (k := 0) (m := 1) (fun _ => rfl) (by decide) h1) (pureF_of Try.func51 (by kernel_rfl) f51b (withinR_ok e (-10000000000) 10000000000)) hc1 (AvLe.of_eq (by rw [h]; try rfl))
    · have h := h.2 (bnF hc1)
      obtain ⟨q6_2, h⟩ := h
      exact p55_0_1 l i  e hE hc0 (idx_ok h1) (row_part cI (s := 1) (k := 0) (m := 1) (fun _ => rfl) (by decide) h1) (pureF_of Try.func51 (by kernel_rfl) f51b (withinR_ok e (-10000000000) 10000000000)) hc1 q6_2 h
  · have h := h.2 (of_decide_eq_false hc0)
    exact p55_0_2 l i   hE hc0 (pureF_of Try.func51 (by kernel_rfl) f51b (withinR_ok ((l.length : Nat) : Int) 1 10)) (AvLe.of_eq (by rw [h]; try rfl))

theorem balanced_ok (l : List Int) (h : l.length ≤ 9223372036854775807) : Pure Try.prog 52 [.rsl (rowI l) 0 l.length] (.bool (balB l)) := pure_of Try.func52 f52b fun E hE => by
  refine f52W l hE ⟨fun h1 => ⟨h, by simp [balB, h1]⟩, fun h1 => by simp [balB, h1]⟩
theorem balancedR_ok (l : List Int) (h : l.length ≤ 9223372036854775807) : Pure Try.prog 55 [.rsl (rowI l) 0 l.length] (.bool (balB l)) := pure_of Try.func55 f55b fun E hE => by
  have key : ∀ (d i : Nat), i + d = l.length → (l.any fun x => !balN x) = ((l.drop i).any fun x => !balN x) → f55G0 E l i := by
    intro d
    induction d with
    | zero =>
      intro i hd hany
      rw [List.drop_eq_nil_of_le (by omega)] at hany
      exact f55W0 l i (rv := balB l) hE ⟨fun h => by omega, fun _ => by simp only [balB]; rw [hany]; simp⟩
    | succ d ih =>
      intro i hd hany
      have hi : l[i]? = some l[i] := List.getElem?_eq_getElem (by omega)
      rw [List.drop_eq_getElem_cons (by omega), List.any_cons] at hany
      refine f55W0 l i (rv := balB l) hE ⟨fun _ => ⟨_, hi, fun h2 => ?_, fun h2 => ⟨by omega, ih (i + 1) (by omega) ?_⟩⟩, fun h => by omega⟩
      · simp only [balB]; rw [hany]; simp [balN, h2]
      · rw [hany]; simp [balN, h2]
  exact f55W l hE (key l.length 0 (by omega) rfl)

theorem f54b : Try.f54.body = some (bodyAt Try.prog 54) := by kernel_rfl
theorem p54_start_0 (l : (List Int))   {E : Env} {res : AV} {bs2 : List Blk} (hE : LentE Try.prog 54 [] res bs2 E) (o0 : l.length ≠ 0) (o4 : (0 + l.length) ≤ 2147483648) (o5 : ((rowI l).drop 0).take (l.length * 1) = (rowI l)) (o6 : (rowI l).length = (l.length * 1)) (o7 : noRefs (rowI l) = true)
    (hr : (.sl 0 1 0 (0 + l.length) 1) = res) (hb : [⟨true, 1, 1, true, (rowI l), true⟩] = bs2) : G Try.prog E [.code (bodyAt Try.prog 54)] ⟨[.rsl (rowI l) 0 l.length] ++ unds (Try.f54.ntmps - 1), []⟩ :=
  endB_step (n := 400) (live := [2]) (m := 1) (evs := [.b false, .cs (rowI l)]) (obs := [l.length ≠ 0, false = false, 0 = 0, 0 = 0, (0 + l.length) ≤ 2147483648, ((rowI l).drop 0).take (l.length * 1) = (rowI l), (rowI l).length = (l.length * 1), noRefs (rowI l) = true]) hE (hE.nogh0 _) Try.func54 mixed (by kernel_rfl) ⟨o0, (rfl), (rfl), (rfl), o4, o5, o6, o7, trivial⟩ hr hb
theorem f54W (l : (List Int)) {E : Env} {rv : Unit} {lo : List Int} (hE : LentE Try.prog 54 [] (.sl 0 1 0 lo.length 1) [⟨true, 1, 1, true, (rowI lo), true⟩] E)
    (h : (l.length ≠ 0 ∧ ((0 + l.length) ≤ 2147483648 ∧ lo = l))) : G Try.prog E [.code (bodyAt Try.prog 54)] ⟨[.rsl (rowI l) 0 l.length] ++ unds (Try.f54.ntmps - 1), []⟩ := by
  obtain ⟨q0_0, h⟩ := h
  obtain ⟨h1, h⟩ := h
  have e0 := h
  exact p54_start_0 l    hE q0_0 h1 (by exact row_all cI (fun _ => rfl) l) (by exact row_len cI (fun _ => rfl) l) (by exact row_nr cI (fun _ => rfl) l) (by rw [e0]; rw [(show (0 + l.length) = l.length from by simp)]; try rfl) (by rw [e0]; try rfl)

theorem clone_ok (l : List Int) (h : l.length ≤ 1000 ∧ l.length ≠ 0) : Lent Try.prog 54 [.rsl (rowI l) 0 l.length] [] (.sl 0 1 0 l.length 1) [⟨true, 1, 1, true, rowI l, true⟩] := by
  refine lent_of0 Try.func54 f54b fun E hE => ?_
  exact f54W l (lo := l) (rv := ()) hE ⟨h.2, by omega, rfl⟩

theorem f53b : Try.f53.body = some (bodyAt Try.prog 53) := by kernel_rfl
theorem p53_start_0 (n : Int) (l : List Int)   {E : Env} {res : AV} (hE : PureE Try.prog 53 res E) (o0 : InR .i64 (((l.length : Nat) : Int) - 1)) (o1 : PureF Try.prog (.clos 49 [] []) [.int .i64 n, .int .i64 0, .int .i64 (((l.length : Nat) : Int) - 1)] (.bool (within n 0 (((l.length : Nat) : Int) - 1))))
    (hr : AvLe (.bool (within n 0 (((l.length : Nat) : Int) - 1))) res) : G Try.prog E [.code (bodyAt Try.prog 53)] ⟨[.int .i64 n, .rptr [.rsl (rowI l) 0 l.length] 0] ++ unds (Try.f53.ntmps - 2), []⟩ :=
  end_stepL (n := 400) (evs := [.v (.bool (within n 0 (((l.length : Nat) : Int) - 1)))]) (obs := [InR .i64 (((l.length : Nat) : Int) - 1), PureF Try.prog (.clos 49 [] []) [.int .i64 n, .int .i64 0, .int .i64 (((l.length : Nat) : Int) - 1)] (.bool (within n 0 (((l.length : Nat) : Int) - 1)))]) hE Try.func53 mixed (by kernel_rfl) ⟨o0, o1, trivial⟩ hr
theorem f53W (n : Int) (l : List Int) {E : Env} {rv : Bool} (hE : PureE Try.prog 53 (.bool rv) E)
    (h : ((-9223372036854775808 ≤ ((l.length : Nat) : Int) - 1 ∧ ((l.length : Nat) : Int) - 1 ≤ 9223372036854775807) ∧ rv = (within n 0 (((l.length : Nat) : Int) - 1)))) : G Try.prog E [.code (bodyAt Try.prog 53)] ⟨[.int .i64 n, .rptr [.rsl (rowI l) 0 l.length] 0] ++ unds (Try.f53.ntmps - 2), []⟩ := by
  obtain ⟨q0_0, h⟩ := h
  exact p53_start_0 n l    hE q0_0 (pureF_of Try.func49 (by kernel_rfl) f49b (within_ok n 0 (((l.length : Nat) : Int) - 1))) (AvLe.of_eq (by rw [h]; try rfl))

theorem person_ok (n : Int) (l : List Int) (h : l.length ≤ 1000) : Pure Try.prog 53 [.int .i64 n, .rptr [.rsl (rowI l) 0 l.length] 0] (.bool (within n 0 (((l.length : Nat) : Int) - 1))) := pure_of Try.func53 f53b fun E hE =>
  f53W n l hE ⟨by omega, rfl⟩

def payOk (n : Int) (x : Pay) : Bool := within x.frm 0 (n - 1) && (within x.to 0 (n - 1) && (!decide (x.frm = x.to) && within x.c 1 100000000000))
def payDo (v : List Int) (x : Pay) : List Int := (v.set (Int.toNat x.frm) (v.getD (Int.toNat x.frm) 0 + x.c)).set (Int.toNat x.to) ((v.set (Int.toNat x.frm) (v.getD (Int.toNat x.frm) 0 + x.c)).getD (Int.toNat x.to) 0 - x.c)
def payAll (n : Int) : List Pay → List Int → Option (List Int)
  | [], v => some v
  | x :: l, v => if payOk n x = true then payAll n l (payDo v x) else none
def payOut : Option (List Int) → List Int × Int
  | some v => (v, 0)
  | none => ([], 110)
def payK (b : List Int) (l : List Pay) : List Int × Int := if balB b = false then ([], 1) else if ((l.length : Nat) : Int) > 60 then ([], 2) else payOut (payAll ((b.length : Nat) : Int) l b)

theorem pay_get {v : List Int} {i : Int} (h0 : 0 ≤ i) (h : i < v.length) : v[Int.toNat i]? = some (v.getD (Int.toNat i) 0) := by simp [List.getD, show Int.toNat i < v.length by omega]

theorem bal_of {b : List Int} (h : balB b = true) : (1 ≤ b.length ∧ b.length ≤ 10) ∧ ∀ x ∈ b, -10000000000 ≤ x ∧ x ≤ 10000000000 := by
  simp only [balB, Bool.and_eq_true, Bool.not_eq_true', List.any_eq_false] at h
  have h1 := within_iff.1 h.1
  exact ⟨by omega, fun x hx => within_iff.1 (by simpa [balN] using h.2 x hx)⟩

theorem f30b : Try.f30.body = some (bodyAt Try.prog 30) := by kernel_rfl
def f30K0 (P : Program) : List Item := kAt 400 [.code (bodyAt P 30)] [.b false, .b false, .stop]
def f30S0 (b : (List Int)) (l : (List Pay)) (i : Nat) (v1 : List Int) (g1 : Nat) : St := ⟨[.junk, .junk, .junk, .junk, .junk, .junk, .clos 53 [] [.ptr 0 0 0], .sl 1 g1 0 v1.length 1, .junk, .junk, .junk, .junk, .junk, .junk, .junk, .junk, .junk, .junk, .junk, .rsl (rowPay l) 0 l.length, .int .i64 ((l.length : Nat) : Int), .int .i64 ((i : Nat) : Int), .junk, .junk, .junk, .junk, .junk, .junk, .junk, .junk, .junk, .junk, .junk, .junk, .junk, .junk, .junk, .junk, .junk, .junk, .junk, .junk, .junk, .junk, .junk, .junk, .junk, .junk, .junk, .junk, .junk, .junk, .junk, .junk, .junk, .junk, .junk, .junk, .junk, .junk, .junk, .junk, .junk, .junk, .junk, .junk, .junk, .junk, .junk, .junk], [⟨true, 0, 1, true, [.rsl (rowI b) 0 b.length], false⟩, ⟨true, g1, 1, true, (rowI v1), true⟩]⟩
def f30G0 (E : Env) (b : (List Int)) (l : (List Pay)) (i : Nat) (v1 : List Int) : Prop := ∀ g1 : Nat, G Try.prog E (f30K0 Try.prog) (f30S0 b l i v1 g1)
theorem p30_start_0 (b : (List Int)) (l : (List Pay))   {E : Env} {res : AV} (hE : PureE Try.prog 30 res E) (o0 : PureF Try.prog (.clos 52 [] []) [.rsl (rowI b) 0 b.length] (.bool (balB b))) (o1 : (!(balB b)) = true)
    (hr : AvLe (.tup [.nilSl, .int .i64 1]) res) : G Try.prog E [.code (bodyAt Try.prog 30)] ⟨[.rsl (rowI b) 0 b.length, .rsl (rowPay l) 0 l.length] ++ unds (Try.f30.ntmps - 2), []⟩ :=
  end_stepL (n := 400) (evs := [.v (.bool (balB b)), .b true]) (obs := [PureF Try.prog (.clos 52 [] []) [.rsl (rowI b) 0 b.length] (.bool (balB b)), (!(balB b)) = true]) hE Try.func30 mixed (by kernel_rfl) ⟨o0, o1, trivial⟩ hr
theorem p30_start_1 (b : (List Int)) (l : (List Pay))   {E : Env} {res : AV} (hE : PureE Try.prog 30 res E) (o0 : PureF Try.prog (.clos 52 [] []) [.rsl (rowI b) 0 b.length] (.bool (balB b))) (o1 : (!(balB b)) = false) (o2 : (decide (((l.length : Nat) : Int) > 60)) = true)
    (hr : AvLe (.tup [.nilSl, .int .i64 2]) res) : G Try.prog E [.code (bodyAt Try.prog 30)] ⟨[.rsl (rowI b) 0 b.length, .rsl (rowPay l) 0 l.length] ++ unds (Try.f30.ntmps - 2), []⟩ :=
  end_stepL (n := 400) (evs := [.v (.bool (balB b)), .b false, .b true]) (obs := [PureF Try.prog (.clos 52 [] []) [.rsl (rowI b) 0 b.length] (.bool (balB b)), (!(balB b)) = false, (decide (((l.length : Nat) : Int) > 60)) = true]) hE Try.func30 mixed (by kernel_rfl) ⟨o0, o1, o2, trivial⟩ hr
theorem p30_start_2 (b : (List Int)) (l : (List Pay))   {E : Env} {rv : AV} (hE : PureE Try.prog 30 rv E) (o0 : PureF Try.prog (.clos 52 [] []) [.rsl (rowI b) 0 b.length] (.bool (balB b))) (o1 : (!(balB b)) = false) (o2 : (decide (((l.length : Nat) : Int) > 60)) = false) (o3 : LentF Try.prog (.clos 54 [] []) [.rsl (rowI b) 0 b.length] [] (.sl 0 1 0 b.length 1) [⟨true, 1, 1, true, (rowI b), true⟩])
    (hg : G Try.prog E (f30K0 Try.prog) ⟨[.junk, .junk, .junk, .junk, .junk, .junk, .clos 53 [] [.ptr 0 0 0], .sl 1 1 0 b.length 1, .junk, .junk, .junk, .junk, .junk, .junk, .junk, .junk, .junk, .junk, .junk, .rsl (rowPay l) 0 l.length, .int .i64 ((l.length : Nat) : Int), .int .i64 0, .junk, .junk, .junk, .junk, .junk, .junk, .junk, .junk, .junk, .junk, .junk, .junk, .junk, .junk, .junk, .junk, .junk, .junk, .junk, .junk, .junk, .junk, .junk, .junk, .junk, .junk, .junk, .junk, .junk, .junk, .junk, .junk, .junk, .junk, .junk, .junk, .junk, .junk, .junk, .junk, .junk, .junk, .junk, .junk, .junk, .junk, .junk, .junk], [⟨true, 0, 1, true, [.rsl (rowI b) 0 b.length], false⟩, ⟨true, 1, 1, true, (rowI b), true⟩]⟩) : G Try.prog E [.code (bodyAt Try.prog 30)] ⟨[.rsl (rowI b) 0 b.length, .rsl (rowPay l) 0 l.length] ++ unds (Try.f30.ntmps - 2), []⟩ :=
  segC_step (n := 400) (ds := []) (cs := []) (live := [6, 7, 19, 20, 21]) (m := 2) (evs := [.v (.bool (balB b)), .b false, .b false, .lent [] (.sl 0 1 0 b.length 1) [⟨true, 1, 1, true, (rowI b), true⟩], .stop]) (obs := [PureF Try.prog (.clos 52 [] []) [.rsl (rowI b) 0 b.length] (.bool (balB b)), (!(balB b)) = false, (decide (((l.length : Nat) : Int) > 60)) = false, LentF Try.prog (.clos 54 [] []) [.rsl (rowI b) 0 b.length] [] (.sl 0 1 0 b.length 1) [⟨true, 1, 1, true, (rowI b), true⟩]]) hE.2.1 (hE.nogh _) mixed (by kernel_rfl) ⟨o0, o1, o2, o3, trivial⟩ hg
theorem f30W (b : (List Int)) (l : (List Pay)) {E : Env} {rv : ((List Int) × Int)} (hE : PureE Try.prog 30 (.tup [.rsl (rowI rv.1) 0 rv.1.length, .int .i64 rv.2]) E)
    (h : ((b.length ≤ 9223372036854775807) ∧ (((balB b) = false → rv = (([] : List Int), 1)) ∧ ((balB b) = true → ((((l.length : Nat) : Int) > 60 → rv = (([] : List Int), 2)) ∧ (¬ (((l.length : Nat) : Int) > 60) → ((b.length ≤ 1000 ∧ b.length ≠ 0) ∧ f30G0 E b l 0 b))))))) : G Try.prog E [.code (bodyAt Try.prog 30)] ⟨[.rsl (rowI b) 0 b.length, .rsl (rowPay l) 0 l.length] ++ unds (Try.f30.ntmps - 2), []⟩ := by
  obtain ⟨h1, h⟩ := h
  rcases Bool.eq_false_or_eq_true (!(balB b)) with hc0 | hc0
  · have h := h.1 (bnT hc0)
    exact p30_start_0 b l    hE (pureF_of Try.func52 (by kernel_rfl) f52b (balanced_ok b h1)) hc0 (by rw [h]; exact (tup_le ⟨nil_le, ⟨AvLe.of_eq rfl, trivial⟩⟩))
  · have h := h.2 (bnF hc0)
    rcases Bool.eq_false_or_eq_true (decide (((l.length : Nat) : Int) > 60)) with hc1 | hc1
    · have h := h.1 (of_decide_eq_true hc1)
      exact p30_start_1 b l    hE (pureF_of Try.func52 (by kernel_rfl) f52b (balanced_ok b h1)) hc0 hc1 (by rw [h]; exact (tup_le ⟨nil_le, ⟨AvLe.of_eq rfl, trivial⟩⟩))
    · have h := h.2 (of_decide_eq_false hc1)
      obtain ⟨h2, h⟩ := h
      exact p30_start_2 b l    hE (pureF_of Try.func52 (by kernel_rfl) f52b (balanced_ok b h1)) hc0 hc1 (lentF_of Try.func54 (by kernel_rfl) f54b (clone_ok b h2)) (h 1)
theorem p30_0_0 (b : (List Int)) (l : (List Pay)) (i : Nat) (v1 : List Int) (g1 : Nat) (pe : Pay)  {E : Env} {res : AV} (hE : PureE Try.prog 30 res E) (o0 : (decide (((i : Nat) : Int) < ((l.length : Nat) : Int))) = true) (o2 : 0 ≤ ((i : Nat) : Int) ∧ ((i : Nat) : Int) < ((l.length : Nat) : Int)) (o3 : ((rowPay l).drop (0 + (Int.toNat ((i : Nat) : Int)) * 3)).take 3 = [.int .i64 pe.frm, .int .i64 pe.to, .int .i64 pe.c]) (o5 : PureF Try.prog (.clos 53 [] [.rptr [.rsl (rowI b) 0 b.length] 0]) [.int .i64 pe.frm] (.bool (within pe.frm 0 (((b.length : Nat) : Int) - 1)))) (o6 : (!(within pe.frm 0 (((b.length : Nat) : Int) - 1))) = true)
    (hr : AvLe (.tup [.nilSl, .int .i64 110]) res) : G Try.prog E (f30K0 Try.prog) (f30S0 b l i v1 g1) :=
  end_stepL (n := 400) (evs := [.b true, .ld (.agg [.int .i64 pe.frm, .int .i64 pe.to, .int .i64 pe.c]), .v (.bool (within pe.frm 0 (((b.length : Nat) : Int) - 1))), .b true, .b true, .b true, .b true]) (obs := [(decide (((i : Nat) : Int) < ((l.length : Nat) : Int))) = true, 0 ≤ ((i : Nat) : Int) ∧ ((i : Nat) : Int) < ((l.length : Nat) : Int), ((rowPay l).drop (0 + (Int.toNat ((i : Nat) : Int)) * 3)).take 3 = [.int .i64 pe.frm, .int .i64 pe.to, .int .i64 pe.c], 3 ≤ 3, PureF Try.prog (.clos 53 [] [.rptr [.rsl (rowI b) 0 b.length] 0]) [.int .i64 pe.frm] (.bool (within pe.frm 0 (((b.length : Nat) : Int) - 1))), (!(within pe.frm 0 (((b.length : Nat) : Int) - 1))) = true, true = true, true = true, true = true]) hE Try.func30 mixed (by kernel_rfl) ⟨o0, o2, o3, (by decide), o5, o6, (rfl), (rfl), (rfl), trivial⟩ hr
theorem p30_0_1 (b : (List Int)) (l : (List Pay)) (i : Nat) (v1 : List Int) (g1 : Nat) (pe : Pay)  {E : Env} {res : AV} (hE : PureE Try.prog 30 res E) (o0 : (decide (((i : Nat) : Int) < ((l.length : Nat) : Int))) = true) (o2 : 0 ≤ ((i : Nat) : Int) ∧ ((i : Nat) : Int) < ((l.length : Nat) : Int)) (o3 : ((rowPay l).drop (0 + (Int.toNat ((i : Nat) : Int)) * 3)).take 3 = [.int .i64 pe.frm, .int .i64 pe.to, .int .i64 pe.c]) (o5 : PureF Try.prog (.clos 53 [] [.rptr [.rsl (rowI b) 0 b.length] 0]) [.int .i64 pe.frm] (.bool (within pe.frm 0 (((b.length : Nat) : Int) - 1)))) (o6 : (!(within pe.frm 0 (((b.length : Nat) : Int) - 1))) = false) (o7 : PureF Try.prog (.clos 53 [] [.rptr [.rsl (rowI b) 0 b.length] 0]) [.int .i64 pe.to] (.bool (within pe.to 0 (((b.length : Nat) : Int) - 1)))) (o8 : (!(within pe.to 0 (((b.length : Nat) : Int) - 1))) = true)
    (hr : AvLe (.tup [.nilSl, .int .i64 110]) res) : G Try.prog E (f30K0 Try.prog) (f30S0 b l i v1 g1) :=
  end_stepL (n := 400) (evs := [.b true, .ld (.agg [.int .i64 pe.frm, .int .i64 pe.to, .int .i64 pe.c]), .v (.bool (within pe.frm 0 (((b.length : Nat) : Int) - 1))), .b false, .v (.bool (within pe.to 0 (((b.length : Nat) : Int) - 1))), .b true, .b true, .b true]) (obs := [(decide (((i : Nat) : Int) < ((l.length : Nat) : Int))) = true, 0 ≤ ((i : Nat) : Int) ∧ ((i : Nat) : Int) < ((l.length : Nat) : Int), ((rowPay l).drop (0 + (Int.toNat ((i : Nat) : Int)) * 3)).take 3 = [.int .i64 pe.frm, .int .i64 pe.to, .int .i64 pe.c], 3 ≤ 3, PureF Try.prog (.clos 53 [] [.rptr [.rsl (rowI b) 0 b.length] 0]) [.int .i64 pe.frm] (.bool (within pe.frm 0 (((b.length : Nat) : Int) - 1))), (!(within pe.frm 0 (((b.length : Nat) : Int) - 1))) = false, PureF Try.prog (.clos 53 [] [.rptr [.rsl (rowI b) 0 b.length] 0]) [.int .i64 pe.to] (.bool (within pe.to 0 (((b.length : Nat) : Int) - 1))), (!(within pe.to 0 (((b.length : Nat) : Int) - 1))) = true, true = true, true = true]) hE Try.func30 mixed (by kernel_rfl) ⟨o0, o2, o3, (by decide), o5, o6, o7, o8, (rfl), (rfl), trivial⟩ hr
theorem p30_0_2 (b : (List Int)) (l : (List Pay)) (i : Nat) (v1 : List Int) (g1 : Nat) (pe : Pay)  {E : Env} {res : AV} (hE : PureE Try.prog 30 res E) (o0 : (decide (((i : Nat) : Int) < ((l.length : Nat) : Int))) = true) (o2 : 0 ≤ ((i : Nat) : Int) ∧ ((i : Nat) : Int) < ((l.length : Nat) : Int)) (o3 : ((rowPay l).drop (0 + (Int.toNat ((i : Nat) : Int)) * 3)).take 3 = [.int .i64 pe.frm, .int .i64 pe.to, .int .i64 pe.c]) (o5 : PureF Try.prog (.clos 53 [] [.rptr [.rsl (rowI b) 0 b.length] 0]) [.int .i64 pe.frm] (.bool (within pe.frm 0 (((b.length : Nat) : Int) - 1)))) (o6 : (!(within pe.frm 0 (((b.length : Nat) : Int) - 1))) = false) (o7 : PureF Try.prog (.clos 53 [] [.rptr [.rsl (rowI b) 0 b.length] 0]) [.int .i64 pe.to] (.bool (within pe.to 0 (((b.length : Nat) : Int) - 1)))) (o8 : (!(within pe.to 0 (((b.length : Nat) : Int) - 1))) = false) (o9 : (pe.frm == pe.to) = true)
    (hr : AvLe (.tup [.nilSl, .int .i64 110]) res) : G Try.prog E (f30K0 Try.prog) (f30S0 b l i v1 g1) :=
  end_stepL (n := 400) (evs := [.b true, .ld (.agg [.int .i64 pe.frm, .int .i64 pe.to, .int .i64 pe.c]), .v (.bool (within pe.frm 0 (((b.length : Nat) : Int) - 1))), .b false, .v (.bool (within pe.to 0 (((b.length : Nat) : Int) - 1))), .b false, .b true, .b true]) (obs := [(decide (((i : Nat) : Int) < ((l.length : Nat) : Int))) = true, 0 ≤ ((i : Nat) : Int) ∧ ((i : Nat) : Int) < ((l.length : Nat) : Int), ((rowPay l).drop (0 + (Int.toNat ((i : Nat) : Int)) * 3)).take 3 = [.int .i64 pe.frm, .int .i64 pe.to, .int .i64 pe.c], 3 ≤ 3, PureF Try.prog (.clos 53 [] [.rptr [.rsl (rowI b) 0 b.length] 0]) [.int .i64 pe.frm] (.bool (within pe.frm 0 (((b.length : Nat) : Int) - 1))), (!(within pe.frm 0 (((b.length : Nat) : Int) - 1))) = false, PureF Try.prog (.clos 53 [] [.rptr [.rsl (rowI b) 0 b.length] 0]) [.int .i64 pe.to] (.bool (within pe.to 0 (((b.length : Nat) : Int) - 1))), (!(within pe.to 0 (((b.length : Nat) : Int) - 1))) = false, (pe.frm == pe.to) = true, true = true]) hE Try.func30 mixed (by kernel_rfl) ⟨o0, o2, o3, (by decide), o5, o6, o7, o8, o9, (rfl), trivial⟩ hr
theorem p30_0_3 (b : (List Int)) (l : (List Pay)) (i : Nat) (v1 : List Int) (g1 : Nat) (pe : Pay)  {E : Env} {res : AV} (hE : PureE Try.prog 30 res E) (o0 : (decide (((i : Nat) : Int) < ((l.length : Nat) : Int))) = true) (o2 : 0 ≤ ((i : Nat) : Int) ∧ ((i : Nat) : Int) < ((l.length : Nat) : Int)) (o3 : ((rowPay l).drop (0 + (Int.toNat ((i : Nat) : Int)) * 3)).take 3 = [.int .i64 pe.frm, .int .i64 pe.to, .int .i64 pe.c]) (o5 : PureF Try.prog (.clos 53 [] [.rptr [.rsl (rowI b) 0 b.length] 0]) [.int .i64 pe.frm] (.bool (within pe.frm 0 (((b.length : Nat) : Int) - 1)))) (o6 : (!(within pe.frm 0 (((b.length : Nat) : Int) - 1))) = false) (o7 : PureF Try.prog (.clos 53 [] [.rptr [.rsl (rowI b) 0 b.length] 0]) [.int .i64 pe.to] (.bool (within pe.to 0 (((b.length : Nat) : Int) - 1)))) (o8 : (!(within pe.to 0 (((b.length : Nat) : Int) - 1))) = false) (o9 : (pe.frm == pe.to) = false) (o10 : PureF Try.prog (.clos 49 [] []) [.int .i64 pe.c, .int .i64 1, .int .i64 100000000000] (.bool (within pe.c 1 100000000000))) (o11 : (!(within pe.c 1 100000000000)) = true)
    (hr : AvLe (.tup [.nilSl, .int .i64 110]) res) : G Try.prog E (f30K0 Try.prog) (f30S0 b l i v1 g1) :=
  end_stepL (n := 400) (evs := [.b true, .ld (.agg [.int .i64 pe.frm, .int .i64 pe.to, .int .i64 pe.c]), .v (.bool (within pe.frm 0 (((b.length : Nat) : Int) - 1))), .b false, .v (.bool (within pe.to 0 (((b.length : Nat) : Int) - 1))), .b false, .b false, .v (.bool (within pe.c 1 100000000000)), .b true]) (obs := [(decide (((i : Nat) : Int) < ((l.length : Nat) : Int))) = true, 0 ≤ ((i : Nat) : Int) ∧ ((i : Nat) : Int) < ((l.length : Nat) : Int), ((rowPay l).drop (0 + (Int.toNat ((i : Nat) : Int)) * 3)).take 3 = [.int .i64 pe.frm, .int .i64 pe.to, .int .i64 pe.c], 3 ≤ 3, PureF Try.prog (.clos 53 [] [.rptr [.rsl (rowI b) 0 b.length] 0]) [.int .i64 pe.frm] (.bool (within pe.frm 0 (((b.length : Nat) : Int) - 1))), (!(within pe.frm 0 (((b.length : Nat) : Int) - 1))) = false, PureF Try.prog (.clos 53 [] [.rptr [.rsl (rowI b) 0 b.length] 0]) [.int .i64 pe.to] (.bool (within pe.to 0 (((b.length : Nat) : Int) - 1))), (!(within pe.to 0 (((b.length : Nat) : Int) - 1))) = false, (pe.frm == pe.to) = false, PureF Try.prog (.clos 49 [] []) [.int .i64 pe.c, .int .i64 1, .int .i64 100000000000] (.bool (within pe.c 1 100000000000)), (!(within pe.c 1 100000000000)) = true]) hE Try.func30 mixed (by kernel_rfl) ⟨o0, o2, o3, (by decide), o5, o6, o7, o8, o9, o10, o11, trivial⟩ hr
theorem p30_0_4 (b : (List Int)) (l : (List Pay)) (i : Nat) (v1 : List Int) (g1 : Nat) (pe : Pay) (e : Int) (e1 : Int)  {E : Env} {rv : AV} (hE : PureE Try.prog 30 rv E) (o0 : (decide (((i : Nat) : Int) < ((l.length : Nat) : Int))) = true) (o2 : 0 ≤ ((i : Nat) : Int) ∧ ((i : Nat) : Int) < ((l.length : Nat) : Int)) (o3 : ((rowPay l).drop (0 + (Int.toNat ((i : Nat) : Int)) * 3)).take 3 = [.int .i64 pe.frm, .int .i64 pe.to, .int .i64 pe.c]) (o5 : PureF Try.prog (.clos 53 [] [.rptr [.rsl (rowI b) 0 b.length] 0]) [.int .i64 pe.frm] (.bool (within pe.frm 0 (((b.length : Nat) : Int) - 1)))) (o6 : (!(within pe.frm 0 (((b.length : Nat) : Int) - 1))) = false) (o7 : PureF Try.prog (.clos 53 [] [.rptr [.rsl (rowI b) 0 b.length] 0]) [.int .i64 pe.to] (.bool (within pe.to 0 (((b.length : Nat) : Int) - 1)))) (o8 : (!(within pe.to 0 (((b.length : Nat) : Int) - 1))) = false) (o9 : (pe.frm == pe.to) = false) (o10 : PureF Try.prog (.clos 49 [] []) [.int .i64 pe.c, .int .i64 1, .int .i64 100000000000] (.bool (within pe.c 1 100000000000))) (o11 : (!(within pe.c 1 100000000000)) = false) (o13 : 0 ≤ pe.frm ∧ pe.frm < ((v1.length : Nat) : Int)) (o16 : ((rowI v1).drop (0 + (Int.toNat pe.frm) * 1)).take 1 = [.int .i64 e]) (o17 : InR .i64 (e + pe.c)) (o18 : 0 ≤ pe.frm ∧ pe.frm < ((v1.length : Nat) : Int)) (o20 : ((0 + (Int.toNat pe.frm) * 1) + 1) ≤ (rowI v1).length) (o23 : 0 ≤ pe.to ∧ pe.to < ((v1.length : Nat) : Int)) (o26 : ((setAt (rowI v1) (0 + (Int.toNat pe.frm) * 1) [.int .i64 (e + pe.c)]).drop (0 + (Int.toNat pe.to) * 1)).take 1 = [.int .i64 e1]) (o27 : InR .i64 (e1 - pe.c)) (o28 : 0 ≤ pe.to ∧ pe.to < ((v1.length : Nat) : Int)) (o30 : ((0 + (Int.toNat pe.to) * 1) + 1) ≤ (setAt (rowI v1) (0 + (Int.toNat pe.frm) * 1) [.int .i64 (e + pe.c)]).length) (o32 : InR .i64 (((i : Nat) : Int) + 1))
    (hg : G Try.prog E (f30K0 Try.prog) ⟨[.junk, .junk, .junk, .junk, .junk, .junk, .clos 53 [] [.ptr 0 0 0], .sl 1 g1 0 v1.length 1, .junk, .junk, .junk, .junk, .junk, .junk, .junk, .junk, .junk, .junk, .junk, .rsl (rowPay l) 0 l.length, .int .i64 ((l.length : Nat) : Int), .int .i64 (((i : Nat) : Int) + 1), .junk, .junk, .junk, .junk, .junk, .junk, .junk, .junk, .junk, .junk, .junk, .junk, .junk, .junk, .junk, .junk, .junk, .junk, .junk, .junk, .junk, .junk, .junk, .junk, .junk, .junk, .junk, .junk, .junk, .junk, .junk, .junk, .junk, .junk, .junk, .junk, .junk, .junk, .junk, .junk, .junk, .junk, .junk, .junk, .junk, .junk, .junk, .junk], [⟨true, 0, 1, true, [.rsl (rowI b) 0 b.length], false⟩, ⟨true, g1, 1, true, (setAt (setAt (rowI v1) (0 + (Int.toNat pe.frm) * 1) [.int .i64 (e + pe.c)]) (0 + (Int.toNat pe.to) * 1) [.int .i64 (e1 - pe.c)]), true⟩]⟩) : G Try.prog E (f30K0 Try.prog) (f30S0 b l i v1 g1) :=
  segC_step (n := 400) (ds := []) (cs := []) (live := [6, 7, 19, 20, 21]) (m := 2) (evs := [.b true, .ld (.agg [.int .i64 pe.frm, .int .i64 pe.to, .int .i64 pe.c]), .v (.bool (within pe.frm 0 (((b.length : Nat) : Int) - 1))), .b false, .v (.bool (within pe.to 0 (((b.length : Nat) : Int) - 1))), .b false, .b false, .v (.bool (within pe.c 1 100000000000)), .b false, .auto, .ld (.int .i64 e), .auto, .auto, .ld (.int .i64 e1), .stop]) (obs := [(decide (((i : Nat) : Int) < ((l.length : Nat) : Int))) = true, 0 ≤ ((i : Nat) : Int) ∧ ((i : Nat) : Int) < ((l.length : Nat) : Int), ((rowPay l).drop (0 + (Int.toNat ((i : Nat) : Int)) * 3)).take 3 = [.int .i64 pe.frm, .int .i64 pe.to, .int .i64 pe.c], 3 ≤ 3, PureF Try.prog (.clos 53 [] [.rptr [.rsl (rowI b) 0 b.length] 0]) [.int .i64 pe.frm] (.bool (within pe.frm 0 (((b.length : Nat) : Int) - 1))), (!(within pe.frm 0 (((b.length : Nat) : Int) - 1))) = false, PureF Try.prog (.clos 53 [] [.rptr [.rsl (rowI b) 0 b.length] 0]) [.int .i64 pe.to] (.bool (within pe.to 0 (((b.length : Nat) : Int) - 1))), (!(within pe.to 0 (((b.length : Nat) : Int) - 1))) = false, (pe.frm == pe.to) = false, PureF Try.prog (.clos 49 [] []) [.int .i64 pe.c, .int .i64 1, .int .i64 100000000000] (.bool (within pe.c 1 100000000000)), (!(within pe.c 1 100000000000)) = false, 0 ≤ pe.frm ∧ pe.frm < ((v1.length : Nat) : Int), g1 = g1, g1 = g1, ((rowI v1).drop (0 + (Int.toNat pe.frm) * 1)).take 1 = [.int .i64 e], InR .i64 (e + pe.c), 0 ≤ pe.frm ∧ pe.frm < ((v1.length : Nat) : Int), g1 = g1, ((0 + (Int.toNat pe.frm) * 1) + 1) ≤ (rowI v1).length, g1 = g1, 0 ≤ pe.to ∧ pe.to < ((v1.length : Nat) : Int), g1 = g1, g1 = g1, ((setAt (rowI v1) (0 + (Int.toNat pe.frm) * 1) [.int .i64 (e + pe.c)]).drop (0 + (Int.toNat pe.to) * 1)).take 1 = [.int .i64 e1], InR .i64 (e1 - pe.c), 0 ≤ pe.to ∧ pe.to < ((v1.length : Nat) : Int), g1 = g1, ((0 + (Int.toNat pe.to) * 1) + 1) ≤ (setAt (rowI v1) (0 + (Int.toNat pe.frm) * 1) [.int .i64 (e + pe.c)]).length, g1 = g1, InR .i64 (((i : Nat) : Int) + 1)]) hE.2.1 (hE.nogh _) mixed (by kernel_rfl) ⟨o0, o2, o3, (by decide), o5, o6, o7, o8, o9, o10, o11, o13, (rfl), (rfl), o16, o17, o18, (rfl), o20, (rfl), o23, (rfl), (rfl), o26, o27, o28, (rfl), o30, (rfl), o32, trivial⟩ hg
theorem p30_0_5 (b : (List Int)) (l : (List Pay)) (i : Nat) (v1 : List Int) (g1 : Nat)  {E : Env} {res : AV} (hE : PureE Try.prog 30 res E) (o0 : (decide (((i : Nat) : Int) < ((l.length : Nat) : Int))) = false)
    (hr : AvLe (.tup [.rsl (rowI v1) 0 v1.length, .int .i64 0]) res) : G Try.prog E (f30K0 Try.prog) (f30S0 b l i v1 g1) :=
  end_stepL (n := 400) (evs := [.b false]) (obs := [(decide (((i : Nat) : Int) < ((l.length : Nat) : Int))) = false, g1 = g1]) hE Try.func30 mixed (by kernel_rfl) ⟨o0, (rfl), trivial⟩ hr
theorem f30W0 (b : (List Int)) (l : (List Pay)) (i : Nat) (v1 : List Int) {E : Env} {rv : ((List Int) × Int)} (hE : PureE Try.prog 30 (.tup [.rsl (rowI rv.1) 0 rv.1.length, .int .i64 rv.2]) E)
    (h : ((((i : Nat) : Int) < ((l.length : Nat) : Int) → (∃ pe : Pay, l[i]? = some pe ∧ ((b.length ≤ 1000) ∧ (((within pe.frm 0 (((b.length : Nat) : Int) - 1)) = false → rv = (([] : List Int), 110)) ∧ ((within pe.frm 0 (((b.length : Nat) : Int) - 1)) = true → ((b.length ≤ 1000) ∧ (((within pe.to 0 (((b.length : Nat) : Int) - 1)) = false → rv = (([] : List Int), 110)) ∧ ((within pe.to 0 (((b.length : Nat) : Int) - 1)) = true → ((pe.frm = pe.to → rv = (([] : List Int), 110)) ∧ (¬ (pe.frm = pe.to) → (((within pe.c 1 100000000000) = false → rv = (([] : List Int), 110)) ∧ ((within pe.c 1 100000000000) = true → (0 ≤ pe.frm ∧ (∃ e : Int, v1[Int.toNat pe.frm]? = some e ∧ ((-9223372036854775808 ≤ e + pe.c ∧ e + pe.c ≤ 9223372036854775807) ∧ (0 ≤ pe.to ∧ (∃ e1 : Int, (v1.set (Int.toNat pe.frm) (e + pe.c))[Int.toNat pe.to]? = some e1 ∧ ((-9223372036854775808 ≤ e1 - pe.c ∧ e1 - pe.c ≤ 9223372036854775807) ∧ ((-9223372036854775808 ≤ ((i : Nat) : Int) + 1 ∧ ((i : Nat) : Int) + 1 ≤ 9223372036854775807) ∧ f30G0 E b l (i + 1) ((v1.set (Int.toNat pe.frm) (e + pe.c)).set (Int.toNat pe.to) (e1 - pe.c))))))))))))))))))))) ∧ (¬ (((i : Nat) : Int) < ((l.length : Nat) : Int)) → rv = (v1, 0)))) : f30G0 E b l i v1 := by
  intro g1
  rcases Bool.eq_false_or_eq_true (decide (((i : Nat) : Int) < ((l.length : Nat) : Int))) with hc0 | hc0
  · have h := h.1 (of_decide_eq_true hc0)
    obtain ⟨pe, h1, h⟩ := h
    obtain ⟨h2, h⟩ := h
    rcases Bool.eq_false_or_eq_true (!(within pe.frm 0 (((b.length : Nat) : Int) - 1))) with hc1 | hc1
    · have h := h.1 (bnT hc1)
      exact p30_0_0 b l i v1 g1 pe hE hc0 (idx_ok h1) (row_part cPay (s := 3) (k := 0) (m := 3) (fun _ => rfl) (by decide) h1) (pureF_of Try.func53 (by kernel_rfl) f53b (person_ok pe.frm b h2)) hc1 (by rw [h]; exact (tup_le ⟨nil_le, ⟨AvLe.of_eq rfl, trivial⟩⟩))
    · have h := h.2 (bnF hc1)
      obtain ⟨h3, h⟩ := h
      rcases Bool.eq_false_or_eq_true (!(within pe.to 0 (((b.length : Nat) : Int) - 1))) with hc2 | hc2
      · have h := h.1 (bnT hc2)
        exact p30_0_1 b l i v1 g1 pe hE hc0 (idx_ok h1) (row_part cPay (s := 3) (k := 0) (m := 3) (fun _ => rfl) (by decide) h1) (pureF_of Try.func53 (by kernel_rfl) f53b (person_ok pe.frm b h2)) hc1 (pureF_of Try.func53 (by kernel_rfl) f53b (person_ok pe.to b h3)) hc2 (by rw [h]; exact (tup_le ⟨nil_le, ⟨AvLe.of_eq rfl, trivial⟩⟩))
      · have h := h.2 (bnF hc2)
        rcases Bool.eq_false_or_eq_true (pe.frm == pe.to) with hc3 | hc3
        · have h := h.1 (eq_of_beq hc3)
          exact p30_0_2 b l i v1 g1 pe hE hc0 (idx_ok h1) (row_part cPay (s := 3) (k := 0) (m := 3) (fun _ => rfl) (by decide) h1) (pureF_of Try.func53 (by kernel_rfl) f53b (person_ok pe.frm b h2)) hc1 (pureF_of Try.func53 (by kernel_rfl) f53b (person_ok pe.to b h3)) hc2 hc3 (by rw [h]; exact (tup_le ⟨nil_le, ⟨AvLe.of_eq rfl, trivial⟩⟩))
        · have h := h.2 (ne_of_beq_false hc3)
          rcases Bool.eq_false_or_eq_true (!(within pe.c 1 100000000000)) with hc4 | hc4
          · have h := h.1 (bnT hc4)
            exact p30_0_3 b l i v1 g1 pe hE hc0 (idx_ok h1) (row_part cPay (s := 3) (k := 0) (m := 3) (fun _ => rfl) (by decide) h1) (pureF_of Try.func53 (by kernel_rfl) f53b (person_ok pe.frm b h2)) hc1 (pureF_of Try.func53 (by kernel_rfl) f53b (person_ok pe.to b h3)) hc2 hc3 (pureF_of Try.func49 (by kernel_rfl) f49b (within_ok pe.c 1 100000000000)) hc4 (by rw [h]; exact (tup_le ⟨nil_le, ⟨AvLe.of_eq rfl, trivial⟩⟩))
          · have h := h.2 (bnF hc4)
            obtain ⟨h5, h⟩ := h
            obtain ⟨e, h4, h⟩ := h
            obtain ⟨q17_5, h⟩ := h
            obtain ⟨h7, h⟩ := h
            obtain ⟨e1, h6, h⟩ := h
            obtain ⟨q27_5, h⟩ := h
            obtain ⟨q32_5, h⟩ := h
            refine p30_0_4 b l i v1 g1 pe e e1 hE hc0 (idx_ok h1) (row_part cPay (s := 3) (k := 0) (m := 3) (fun _ => rfl) (by decide) h1) (pureF_of Try.func53 (by kernel_rfl) f53b (person_ok pe.frm b h2)) hc1 (pureF_of Try.func53 (by kernel_rfl) f53b (person_ok pe.to b h3)) hc2 hc3 (pureF_of Try.func49 (by kernel_rfl) f49b (within_ok pe.c 1 100000000000)) hc4 (idx_ok' h5 h4) (row_part cI (s := 1) (k := 0) (m := 1) (fun _ => rfl) (by decide) h4) q17_5 (idx_ok' h5 h4) (row_fits cI (s := 1) (k := 0) (m := 1) (fun _ => rfl) (by decide) h4) (by have hx := idx_ok' h7 h6; simpa using hx) (by rw [(show setAt (rowI v1) (0 + (Int.toNat pe.frm) * 1) [.int .i64 (e + pe.c)] = rowI (v1.set (Int.toNat pe.frm) (e + pe.c)) from row_set cI (s := 1) (k := 0) (fun _ => rfl) h4 rfl (by first | decide | simp))]; exact row_part cI (s := 1) (k := 0) (m := 1) (fun _ => rfl) (by decide) h6) q27_5 (by have hx := idx_ok' h7 h6; simpa using hx) (by rw [(show setAt (rowI v1) (0 + (Int.toNat pe.frm) * 1) [.int .i64 (e + pe.c)] = rowI (v1.set (Int.toNat pe.frm) (e + pe.c)) from row_set cI (s := 1) (k := 0) (fun _ => rfl) h4 rfl (by first | decide | simp))]; exact row_fits cI (s := 1) (k := 0) (m := 1) (fun _ => rfl) (by decide) h6) q32_5 ?_
            have h := (h g1)
            simp only [f30S0, List.length_set] at h
            rw [(show setAt (rowI v1) (0 + (Int.toNat pe.frm) * 1) [.int .i64 (e + pe.c)] = rowI (v1.set (Int.toNat pe.frm) (e + pe.c)) from row_set cI (s := 1) (k := 0) (fun _ => rfl) h4 rfl (by first | decide | simp))]; rw [(show setAt (rowI (v1.set (Int.toNat pe.frm) (e + pe.c))) (0 + (Int.toNat pe.to) * 1) [.int .i64 (e1 - pe.c)] = rowI ((v1.set (Int.toNat pe.frm) (e + pe.c)).set (Int.toNat pe.to) (e1 - pe.c)) from row_set cI (s := 1) (k := 0) (fun _ => rfl) h6 rfl (by first | decide | simp))]
            exact h
  · have h := h.2 (of_decide_eq_false hc0)
    exact p30_0_5 b l i v1 g1  hE hc0 (AvLe.of_eq (by rw [h]; try rfl))
theorem f31b : Try.f31.body = some (bodyAt Try.prog 31) := by kernel_rfl
def f31K0 (P : Program) : List Item := kAt 400 [.code (bodyAt P 31)] [.b false, .b false, .stop]
def f31S0 (b : (List Int)) (l : (List Pay)) (i : Nat) (v0 : List Int) (g0 : Nat) : St := ⟨[.junk, .rsl (rowPay l) 0 l.length, .junk, .junk, .junk, .junk, .sl 0 g0 0 v0.length 1, .int .i64 ((i : Nat) : Int), .junk, .junk, .junk, .junk, .junk, .junk, .junk, .junk, .junk, .junk, .junk, .junk, .junk, .junk, .junk, .junk, .junk, .junk, .junk, .junk, .junk, .junk, .junk, .junk, .junk, .junk, .junk, .junk, .junk, .junk, .junk, .junk, .junk, .junk, .junk, .junk, .junk, .junk, .junk, .junk, .junk, .junk, .junk, .junk, .junk, .junk, .junk, .junk, .junk, .junk, .junk, .junk, .junk, .junk, .junk, .junk, .junk, .junk, .junk, .junk, .junk, .junk, .junk, .junk, .junk, .junk, .junk], [⟨true, g0, 1, true, (rowI v0), true⟩]⟩
def f31G0 (E : Env) (b : (List Int)) (l : (List Pay)) (i : Nat) (v0 : List Int) : Prop := ∀ g0 : Nat, G Try.prog E (f31K0 Try.prog) (f31S0 b l i v0 g0)
theorem p31_start_0 (b : (List Int)) (l : (List Pay))   {E : Env} {res : AV} (hE : PureE Try.prog 31 res E) (o0 : PureF Try.prog (.clos 55 [] []) [.rsl (rowI b) 0 b.length] (.bool (balB b))) (o1 : (!(balB b)) = true)
    (hr : AvLe (.tup [.nilSl, .int .i64 1]) res) : G Try.prog E [.code (bodyAt Try.prog 31)] ⟨[.rsl (rowI b) 0 b.length, .rsl (rowPay l) 0 l.length] ++ unds (Try.f31.ntmps - 2), []⟩ :=
  end_stepL (n := 400) (evs := [.v (.bool (balB b)), .b true]) (obs := [PureF Try.prog (.clos 55 [] []) [.rsl (rowI b) 0 b.length] (.bool (balB b)), (!(balB b)) = true]) hE Try.func31 mixed (by kernel_rfl) ⟨o0, o1, trivial⟩ hr
theorem p31_start_1 (b : (List Int)) (l : (List Pay))   {E : Env} {res : AV} (hE : PureE Try.prog 31 res E) (o0 : PureF Try.prog (.clos 55 [] []) [.rsl (rowI b) 0 b.length] (.bool (balB b))) (o1 : (!(balB b)) = false) (o2 : (decide (((l.length : Nat) : Int) > 60)) = true)
    (hr : AvLe (.tup [.nilSl, .int .i64 2]) res) : G Try.prog E [.code (bodyAt Try.prog 31)] ⟨[.rsl (rowI b) 0 b.length, .rsl (rowPay l) 0 l.length] ++ unds (Try.f31.ntmps - 2), []⟩ :=
  end_stepL (n := 400) (evs := [.v (.bool (balB b)), .b false, .b true]) (obs := [PureF Try.prog (.clos 55 [] []) [.rsl (rowI b) 0 b.length] (.bool (balB b)), (!(balB b)) = false, (decide (((l.length : Nat) : Int) > 60)) = true]) hE Try.func31 mixed (by kernel_rfl) ⟨o0, o1, o2, trivial⟩ hr
theorem p31_start_2 (b : (List Int)) (l : (List Pay))   {E : Env} {rv : AV} (hE : PureE Try.prog 31 rv E) (o0 : PureF Try.prog (.clos 55 [] []) [.rsl (rowI b) 0 b.length] (.bool (balB b))) (o1 : (!(balB b)) = false) (o2 : (decide (((l.length : Nat) : Int) > 60)) = false) (o3 : b.length ≤ 2147483648) (o4 : ((rowI b).drop 0).take (b.length * 1) = (rowI b)) (o5 : (rowI b).length = (b.length * 1)) (o6 : noRefs (rowI b) = true)
    (hg : G Try.prog E (f31K0 Try.prog) ⟨[.junk, .rsl (rowPay l) 0 l.length, .junk, .junk, .junk, .junk, .sl 0 0 0 b.length 1, .int .i64 0, .junk, .junk, .junk, .junk, .junk, .junk, .junk, .junk, .junk, .junk, .junk, .junk, .junk, .junk, .junk, .junk, .junk, .junk, .junk, .junk, .junk, .junk, .junk, .junk, .junk, .junk, .junk, .junk, .junk, .junk, .junk, .junk, .junk, .junk, .junk, .junk, .junk, .junk, .junk, .junk, .junk, .junk, .junk, .junk, .junk, .junk, .junk, .junk, .junk, .junk, .junk, .junk, .junk, .junk, .junk, .junk, .junk, .junk, .junk, .junk, .junk, .junk, .junk, .junk, .junk, .junk, .junk], [⟨true, 0, 1, true, (rowI b), true⟩]⟩) : G Try.prog E [.code (bodyAt Try.prog 31)] ⟨[.rsl (rowI b) 0 b.length, .rsl (rowPay l) 0 l.length] ++ unds (Try.f31.ntmps - 2), []⟩ :=
  segC_step (n := 400) (ds := []) (cs := []) (live := [1, 6, 7]) (m := 1) (evs := [.v (.bool (balB b)), .b false, .b false, .cs (rowI b), .stop]) (obs := [PureF Try.prog (.clos 55 [] []) [.rsl (rowI b) 0 b.length] (.bool (balB b)), (!(balB b)) = false, (decide (((l.length : Nat) : Int) > 60)) = false, b.length ≤ 2147483648, ((rowI b).drop 0).take (b.length * 1) = (rowI b), (rowI b).length = (b.length * 1), noRefs (rowI b) = true]) hE.2.1 (hE.nogh _) mixed (by kernel_rfl) ⟨o0, o1, o2, o3, o4, o5, o6, trivial⟩ hg
theorem f31W (b : (List Int)) (l : (List Pay)) {E : Env} {rv : ((List Int) × Int)} (hE : PureE Try.prog 31 (.tup [.rsl (rowI rv.1) 0 rv.1.length, .int .i64 rv.2]) E)
    (h : ((b.length ≤ 9223372036854775807) ∧ (((balB b) = false → rv = (([] : List Int), 1)) ∧ ((balB b) = true → ((((l.length : Nat) : Int) > 60 → rv = (([] : List Int), 2)) ∧ (¬ (((l.length : Nat) : Int) > 60) → (b.length ≤ 2147483648 ∧ f31G0 E b l 0 b))))))) : G Try.prog E [.code (bodyAt Try.prog 31)] ⟨[.rsl (rowI b) 0 b.length, .rsl (rowPay l) 0 l.length] ++ unds (Try.f31.ntmps - 2), []⟩ := by
  obtain ⟨h1, h⟩ := h
  rcases Bool.eq_false_or_eq_true (!(balB b)) with hc0 | hc0
  · have h := h.1 (bnT hc0)
    exact p31_start_0 b l    hE (pureF_of Try.func55 (by kernel_rfl) f55b (balancedR_ok b h1)) hc0 (by rw [h]; exact (tup_le ⟨nil_le, ⟨AvLe.of_eq rfl, trivial⟩⟩))
  · have h := h.2 (bnF hc0)
    rcases Bool.eq_false_or_eq_true (decide (((l.length : Nat) : Int) > 60)) with hc1 | hc1
    · have h := h.1 (of_decide_eq_true hc1)
      exact p31_start_1 b l    hE (pureF_of Try.func55 (by kernel_rfl) f55b (balancedR_ok b h1)) hc0 hc1 (by rw [h]; exact (tup_le ⟨nil_le, ⟨AvLe.of_eq rfl, trivial⟩⟩))
    · have h := h.2 (of_decide_eq_false hc1)
      obtain ⟨h2, h⟩ := h
      exact p31_start_2 b l    hE (pureF_of Try.func55 (by kernel_rfl) f55b (balancedR_ok b h1)) hc0 hc1 h2 (by exact row_all cI (fun _ => rfl) b) (by exact row_len cI (fun _ => rfl) b) (by exact row_nr cI (fun _ => rfl) b) (h 0)
theorem p31_0_0 (b : (List Int)) (l : (List Pay)) (i : Nat) (v0 : List Int) (g0 : Nat) (pe : Pay)  {E : Env} {res : AV} (hE : PureE Try.prog 31 res E) (o0 : (decide (((i : Nat) : Int) < ((l.length : Nat) : Int))) = true) (o2 : 0 ≤ ((i : Nat) : Int) ∧ ((i : Nat) : Int) < ((l.length : Nat) : Int)) (o3 : ((rowPay l).drop (0 + (Int.toNat ((i : Nat) : Int)) * 3)).take 3 = [.int .i64 pe.frm, .int .i64 pe.to, .int .i64 pe.c]) (o6 : InR .i64 (((v0.length : Nat) : Int) - 1)) (o7 : PureF Try.prog (.clos 51 [] []) [.int .i64 pe.frm, .int .i64 0, .int .i64 (((v0.length : Nat) : Int) - 1)] (.bool (within pe.frm 0 (((v0.length : Nat) : Int) - 1)))) (o8 : (!(within pe.frm 0 (((v0.length : Nat) : Int) - 1))) = true)
    (hr : AvLe (.tup [.nilSl, .int .i64 110]) res) : G Try.prog E (f31K0 Try.prog) (f31S0 b l i v0 g0) :=
  end_stepL (n := 400) (evs := [.b true, .ld (.agg [.int .i64 pe.frm, .int .i64 pe.to, .int .i64 pe.c]), .v (.bool (within pe.frm 0 (((v0.length : Nat) : Int) - 1))), .b true, .b true, .b true, .b true]) (obs := [(decide (((i : Nat) : Int) < ((l.length : Nat) : Int))) = true, 0 ≤ ((i : Nat) : Int) ∧ ((i : Nat) : Int) < ((l.length : Nat) : Int), ((rowPay l).drop (0 + (Int.toNat ((i : Nat) : Int)) * 3)).take 3 = [.int .i64 pe.frm, .int .i64 pe.to, .int .i64 pe.c], 3 ≤ 3, g0 = g0, InR .i64 (((v0.length : Nat) : Int) - 1), PureF Try.prog (.clos 51 [] []) [.int .i64 pe.frm, .int .i64 0, .int .i64 (((v0.length : Nat) : Int) - 1)] (.bool (within pe.frm 0 (((v0.length : Nat) : Int) - 1))), (!(within pe.frm 0 (((v0.length : Nat) : Int) - 1))) = true, true = true, true = true, true = true]) hE Try.func31 mixed (by kernel_rfl) ⟨o0, o2, o3, (by decide), (rfl), o6, o7, o8, (rfl), (rfl), (rfl), trivial⟩ hr
theorem p31_0_1 (b : (List Int)) (l : (List Pay)) (i : Nat) (v0 : List Int) (g0 : Nat) (pe : Pay)  {E : Env} {res : AV} (hE : PureE Try.prog 31 res E) (o0 : (decide (((i : Nat) : Int) < ((l.length : Nat) : Int))) = true) (o2 : 0 ≤ ((i : Nat) : Int) ∧ ((i : Nat) : Int) < ((l.length : Nat) : Int)) (o3 : ((rowPay l).drop (0 + (Int.toNat ((i : Nat) : Int)) * 3)).take 3 = [.int .i64 pe.frm, .int .i64 pe.to, .int .i64 pe.c]) (o6 : InR .i64 (((v0.length : Nat) : Int) - 1)) (o7 : PureF Try.prog (.clos 51 [] []) [.int .i64 pe.frm, .int .i64 0, .int .i64 (((v0.length : Nat) : Int) - 1)] (.bool (within pe.frm 0 (((v0.length : Nat) : Int) - 1)))) (o8 : (!(within pe.frm 0 (((v0.length : Nat) : Int) - 1))) = false) (o10 : InR .i64 (((v0.length : Nat) : Int) - 1)) (o11 : PureF Try.prog (.clos 51 [] []) [.int .i64 pe.to, .int .i64 0, .int .i64 (((v0.length : Nat) : Int) - 1)] (.bool (within pe.to 0 (((v0.length : Nat) : Int) - 1)))) (o12 : (!(within pe.to 0 (((v0.length : Nat) : Int) - 1))) = true)
    (hr : AvLe (.tup [.nilSl, .int .i64 110]) res) : G Try.prog E (f31K0 Try.prog) (f31S0 b l i v0 g0) :=
  end_stepL (n := 400) (evs := [.b true, .ld (.agg [.int .i64 pe.frm, .int .i64 pe.to, .int .i64 pe.c]), .v (.bool (within pe.frm 0 (((v0.length : Nat) : Int) - 1))), .b false, .v (.bool (within pe.to 0 (((v0.length : Nat) : Int) - 1))), .b true, .b true, .b true]) (obs := [(decide (((i : Nat) : Int) < ((l.length : Nat) : Int))) = true, 0 ≤ ((i : Nat) : Int) ∧ ((i : Nat) : Int) < ((l.length : Nat) : Int), ((rowPay l).drop (0 + (Int.toNat ((i : Nat) : Int)) * 3)).take 3 = [.int .i64 pe.frm, .int .i64 pe.to, .int .i64 pe.c], 3 ≤ 3, g0 = g0, InR .i64 (((v0.length : Nat) : Int) - 1), PureF Try.prog (.clos 51 [] []) [.int .i64 pe.frm, .int .i64 0, .int .i64 (((v0.length : Nat) : Int) - 1)] (.bool (within pe.frm 0 (((v0.length : Nat) : Int) - 1))), (!(within pe.frm 0 (((v0.length : Nat) : Int) - 1))) = false, g0 = g0, InR .i64 (((v0.length : Nat) : Int) - 1), PureF Try.prog (.clos 51 [] []) [.int .i64 pe.to, .int .i64 0, .int .i64 (((v0.length : Nat) : Int) - 1)] (.bool (within pe.to 0 (((v0.length : Nat) : Int) - 1))), (!(within pe.to 0 (((v0.length : Nat) : Int) - 1))) = true, true = true, true = true]) hE Try.func31 mixed (by kernel_rfl) ⟨o0, o2, o3, (by decide), (rfl), o6, o7, o8, (rfl), o10, o11, o12, (rfl), (rfl), trivial⟩ hr
theorem p31_0_2 (b : (List Int)) (l : (List Pay)) (i : Nat) (v0 : List Int) (g0 : Nat) (pe : Pay)  {E : Env} {res : AV} (hE : PureE Try.prog 31 res E) (o0 : (decide (((i : Nat) : Int) < ((l.length : Nat) : Int))) = true) (o2 : 0 ≤ ((i : Nat) : Int) ∧ ((i : Nat) : Int) < ((l.length : Nat) : Int)) (o3 : ((rowPay l).drop (0 + (Int.toNat ((i : Nat) : Int)) * 3)).take 3 = [.int .i64 pe.frm, .int .i64 pe.to, .int .i64 pe.c]) (o6 : InR .i64 (((v0.length : Nat) : Int) - 1)) (o7 : PureF Try.prog (.clos 51 [] []) [.int .i64 pe.frm, .int .i64 0, .int .i64 (((v0.length : Nat) : Int) - 1)] (.bool (within pe.frm 0 (((v0.length : Nat) : Int) - 1)))) (o8 : (!(within pe.frm 0 (((v0.length : Nat) : Int) - 1))) = false) (o10 : InR .i64 (((v0.length : Nat) : Int) - 1)) (o11 : PureF Try.prog (.clos 51 [] []) [.int .i64 pe.to, .int .i64 0, .int .i64 (((v0.length : Nat) : Int) - 1)] (.bool (within pe.to 0 (((v0.length : Nat) : Int) - 1)))) (o12 : (!(within pe.to 0 (((v0.length : Nat) : Int) - 1))) = false) (o13 : (pe.frm == pe.to) = true)
    (hr : AvLe (.tup [.nilSl, .int .i64 110]) res) : G Try.prog E (f31K0 Try.prog) (f31S0 b l i v0 g0) :=
  end_stepL (n := 400) (evs := [.b true, .ld (.agg [.int .i64 pe.frm, .int .i64 pe.to, .int .i64 pe.c]), .v (.bool (within pe.frm 0 (((v0.length : Nat) : Int) - 1))), .b false, .v (.bool (within pe.to 0 (((v0.length : Nat) : Int) - 1))), .b false, .b true, .b true]) (obs := [(decide (((i : Nat) : Int) < ((l.length : Nat) : Int))) = true, 0 ≤ ((i : Nat) : Int) ∧ ((i : Nat) : Int) < ((l.length : Nat) : Int), ((rowPay l).drop (0 + (Int.toNat ((i : Nat) : Int)) * 3)).take 3 = [.int .i64 pe.frm, .int .i64 pe.to, .int .i64 pe.c], 3 ≤ 3, g0 = g0, InR .i64 (((v0.length : Nat) : Int) - 1), PureF Try.prog (.clos 51 [] []) [.int .i64 pe.frm, .int .i64 0, .int .i64 (((v0.length : Nat) : Int) - 1)] (.bool (within pe.frm 0 (((v0.length : Nat) : Int) - 1))), (!(within pe.frm 0 (((v0.length : Nat) : Int) - 1))) = false, g0 = g0, InR .i64 (((v0.length : Nat) : Int) - 1), PureF Try.prog (.clos 51 [] []) [.int .i64 pe.to, .int .i64 0, .int .i64 (((v0.length : Nat) : Int) - 1)] (.bool (within pe.to 0 (((v0.length : Nat) : Int) - 1))), (!(within pe.to 0 (((v0.length : Nat) : Int) - 1))) = false, (pe.frm == pe.to) = true, true = true]) hE Try.func31 mixed (by kernel_rfl) ⟨o0, o2, o3, (by decide), (rfl), o6, o7, o8, (rfl), o10, o11, o12, o13, (rfl), trivial⟩ hr
theorem p31_0_3 (b : (List Int)) (l : (List Pay)) (i : Nat) (v0 : List Int) (g0 : Nat) (pe : Pay)  {E : Env} {res : AV} (hE : PureE Try.prog 31 res E) (o0 : (decide (((i : Nat) : Int) < ((l.length : Nat) : Int))) = true) (o2 : 0 ≤ ((i : Nat) : Int) ∧ ((i : Nat) : Int) < ((l.length : Nat) : Int)) (o3 : ((rowPay l).drop (0 + (Int.toNat ((i : Nat) : Int)) * 3)).take 3 = [.int .i64 pe.frm, .int .i64 pe.to, .int .i64 pe.c]) (o6 : InR .i64 (((v0.length : Nat) : Int) - 1)) (o7 : PureF Try.prog (.clos 51 [] []) [.int .i64 pe.frm, .int .i64 0, .int .i64 (((v0.length : Nat) : Int) - 1)] (.bool (within pe.frm 0 (((v0.length : Nat) : Int) - 1)))) (o8 : (!(within pe.frm 0 (((v0.length : Nat) : Int) - 1))) = false) (o10 : InR .i64 (((v0.length : Nat) : Int) - 1)) (o11 : PureF Try.prog (.clos 51 [] []) [.int .i64 pe.to, .int .i64 0, .int .i64 (((v0.length : Nat) : Int) - 1)] (.bool (within pe.to 0 (((v0.length : Nat) : Int) - 1)))) (o12 : (!(within pe.to 0 (((v0.length : Nat) : Int) - 1))) = false) (o13 : (pe.frm == pe.to) = false) (o14 : PureF Try.prog (.clos 51 [] []) [.int .i64 pe.c, .int .i64 1, .int .i64 100000000000] (.bool (within pe.c 1 100000000000))) (o15 : (!(within pe.c 1 100000000000)) = true)
    (hr : AvLe (.tup [.nilSl, .int .i64 110]) res) : G Try.prog E (f31K0 Try.prog) (f31S0 b l i v0 g0) :=
  end_stepL (n := 400) (evs := [.b true, .ld (.agg [.int .i64 pe.frm, .int .i64 pe.to, .int .i64 pe.c]), .v (.bool (within pe.frm 0 (((v0.length : Nat) : Int) - 1))), .b false, .v (.bool (within pe.to 0 (((v0.length : Nat) : Int) - 1))), .b false, .b false, .v (.bool (within pe.c 1 100000000000)), .b true]) (obs := [(decide (((i : Nat) : Int) < ((l.length : Nat) : Int))) = true, 0 ≤ ((i : Nat) : Int) ∧ ((i : Nat) : Int) < ((l.length : Nat) : Int), ((rowPay l).drop (0 + (Int.toNat ((i : Nat) : Int)) * 3)).take 3 = [.int .i64 pe.frm, .int .i64 pe.to, .int .i64 pe.c], 3 ≤ 3, g0 = g0, InR .i64 (((v0.length : Nat) : Int) - 1), PureF Try.prog (.clos 51 [] []) [.int .i64 pe.frm, .int .i64 0, .int .i64 (((v0.length : Nat) : Int) - 1)] (.bool (within pe.frm 0 (((v0.length : Nat) : Int) - 1))), (!(within pe.frm 0 (((v0.length : Nat) : Int) - 1))) = false, g0 = g0, InR .i64 (((v0.length : Nat) : Int) - 1), PureF Try.prog (.clos 51 [] []) [.int .i64 pe.to, .int .i64 0, .int .i64 (((v0.length : Nat) : Int) - 1)] (.bool (within pe.to 0 (((v0.length : Nat) : Int) - 1))), (!(within pe.to 0 (((v0.length : Nat) : Int) - 1))) = false, (pe.frm == pe.to) = false, PureF Try.prog (.clos 51 [] []) [.int .i64 pe.c, .int .i64 1, .int .i64 100000000000] (.bool (within pe.c 1 100000000000)), (!(within pe.c 1 100000000000)) = true]) hE Try.func31 mixed (by kernel_rfl) ⟨o0, o2, o3, (by decide), (rfl), o6, o7, o8, (rfl), o10, o11, o12, o13, o14, o15, trivial⟩ hr
theorem p31_0_4 (b : (List Int)) (l : (List Pay)) (i : Nat) (v0 : List Int) (g0 : Nat) (pe : Pay) (e : Int) (e1 : Int)  {E : Env} {rv : AV} (hE : PureE Try.prog 31 rv E) (o0 : (decide (((i : Nat) : Int) < ((l.length : Nat) : Int))) = true) (o2 : 0 ≤ ((i : Nat) : Int) ∧ ((i : Nat) : Int) < ((l.length : Nat) : Int)) (o3 : ((rowPay l).drop (0 + (Int.toNat ((i : Nat) : Int)) * 3)).take 3 = [.int .i64 pe.frm, .int .i64 pe.to, .int .i64 pe.c]) (o6 : InR .i64 (((v0.length : Nat) : Int) - 1)) (o7 : PureF Try.prog (.clos 51 [] []) [.int .i64 pe.frm, .int .i64 0, .int .i64 (((v0.length : Nat) : Int) - 1)] (.bool (within pe.frm 0 (((v0.length : Nat) : Int) - 1)))) (o8 : (!(within pe.frm 0 (((v0.length : Nat) : Int) - 1))) = false) (o10 : InR .i64 (((v0.length : Nat) : Int) - 1)) (o11 : PureF Try.prog (.clos 51 [] []) [.int .i64 pe.to, .int .i64 0, .int .i64 (((v0.length : Nat) : Int) - 1)] (.bool (within pe.to 0 (((v0.length : Nat) : Int) - 1)))) (o12 : (!(within pe.to 0 (((v0.length : Nat) : Int) - 1))) = false) (o13 : (pe.frm == pe.to) = false) (o14 : PureF Try.prog (.clos 51 [] []) [.int .i64 pe.c, .int .i64 1, .int .i64 100000000000] (.bool (within pe.c 1 100000000000))) (o15 : (!(within pe.c 1 100000000000)) = false) (o17 : 0 ≤ pe.frm ∧ pe.frm < ((v0.length : Nat) : Int)) (o20 : ((rowI v0).drop (0 + (Int.toNat pe.frm) * 1)).take 1 = [.int .i64 e]) (o21 : InR .i64 (e + pe.c)) (o22 : 0 ≤ pe.frm ∧ pe.frm < ((v0.length : Nat) : Int)) (o24 : ((0 + (Int.toNat pe.frm) * 1) + 1) ≤ (rowI v0).length) (o27 : 0 ≤ pe.to ∧ pe.to < ((v0.length : Nat) : Int)) (o30 : ((setAt (rowI v0) (0 + (Int.toNat pe.frm) * 1) [.int .i64 (e + pe.c)]).drop (0 + (Int.toNat pe.to) * 1)).take 1 = [.int .i64 e1]) (o31 : InR .i64 (e1 - pe.c)) (o32 : 0 ≤ pe.to ∧ pe.to < ((v0.length : Nat) : Int)) (o34 : ((0 + (Int.toNat pe.to) * 1) + 1) ≤ (setAt (rowI v0) (0 + (Int.toNat pe.frm) * 1) [.int .i64 (e + pe.c)]).length) (o36 : InR .i64 (((i : Nat) : Int) + 1))
    (hg : G Try.prog E (f31K0 Try.prog) ⟨[.junk, .rsl (rowPay l) 0 l.length, .junk, .junk, .junk, .junk, .sl 0 g0 0 v0.length 1, .int .i64 (((i : Nat) : Int) + 1), .junk, .junk, .junk, .junk, .junk, .junk, .junk, .junk, .junk, .junk, .junk, .junk, .junk, .junk, .junk, .junk, .junk, .junk, .junk, .junk, .junk, .junk, .junk, .junk, .junk, .junk, .junk, .junk, .junk, .junk, .junk, .junk, .junk, .junk, .junk, .junk, .junk, .junk, .junk, .junk, .junk, .junk, .junk, .junk, .junk, .junk, .junk, .junk, .junk, .junk, .junk, .junk, .junk, .junk, .junk, .junk, .junk, .junk, .junk, .junk, .junk, .junk, .junk, .junk, .junk, .junk, .junk], [⟨true, g0, 1, true, (setAt (setAt (rowI v0) (0 + (Int.toNat pe.frm) * 1) [.int .i64 (e + pe.c)]) (0 + (Int.toNat pe.to) * 1) [.int .i64 (e1 - pe.c)]), true⟩]⟩) : G Try.prog E (f31K0 Try.prog) (f31S0 b l i v0 g0) :=
  segC_step (n := 400) (ds := []) (cs := []) (live := [1, 6, 7]) (m := 1) (evs := [.b true, .ld (.agg [.int .i64 pe.frm, .int .i64 pe.to, .int .i64 pe.c]), .v (.bool (within pe.frm 0 (((v0.length : Nat) : Int) - 1))), .b false, .v (.bool (within pe.to 0 (((v0.length : Nat) : Int) - 1))), .b false, .b false, .v (.bool (within pe.c 1 100000000000)), .b false, .auto, .ld (.int .i64 e), .auto, .auto, .ld (.int .i64 e1), .stop]) (obs := [(decide (((i : Nat) : Int) < ((l.length : Nat) : Int))) = true, 0 ≤ ((i : Nat) : Int) ∧ ((i : Nat) : Int) < ((l.length : Nat) : Int), ((rowPay l).drop (0 + (Int.toNat ((i : Nat) : Int)) * 3)).take 3 = [.int .i64 pe.frm, .int .i64 pe.to, .int .i64 pe.c], 3 ≤ 3, g0 = g0, InR .i64 (((v0.length : Nat) : Int) - 1), PureF Try.prog (.clos 51 [] []) [.int .i64 pe.frm, .int .i64 0, .int .i64 (((v0.length : Nat) : Int) - 1)] (.bool (within pe.frm 0 (((v0.length : Nat) : Int) - 1))), (!(within pe.frm 0 (((v0.length : Nat) : Int) - 1))) = false, g0 = g0, InR .i64 (((v0.length : Nat) : Int) - 1), PureF Try.prog (.clos 51 [] []) [.int .i64 pe.to, .int .i64 0, .int .i64 (((v0.length : Nat) : Int) - 1)] (.bool (within pe.to 0 (((v0.length : Nat) : Int) - 1))), (!(within pe.to 0 (((v0.length : Nat) : Int) - 1))) = false, (pe.frm == pe.to) = false, PureF Try.prog (.clos 51 [] []) [.int .i64 pe.c, .int .i64 1, .int .i64 100000000000] (.bool (within pe.c 1 100000000000)), (!(within pe.c 1 100000000000)) = false, 0 ≤ pe.frm ∧ pe.frm < ((v0.length : Nat) : Int), g0 = g0, g0 = g0, ((rowI v0).drop (0 + (Int.toNat pe.frm) * 1)).take 1 = [.int .i64 e], InR .i64 (e + pe.c), 0 ≤ pe.frm ∧ pe.frm < ((v0.length : Nat) : Int), g0 = g0, ((0 + (Int.toNat pe.frm) * 1) + 1) ≤ (rowI v0).length, g0 = g0, 0 ≤ pe.to ∧ pe.to < ((v0.length : Nat) : Int), g0 = g0, g0 = g0, ((setAt (rowI v0) (0 + (Int.toNat pe.frm) * 1) [.int .i64 (e + pe.c)]).drop (0 + (Int.toNat pe.to) * 1)).take 1 = [.int .i64 e1], InR .i64 (e1 - pe.c), 0 ≤ pe.to ∧ pe.to < ((v0.length : Nat) : Int), g0 = g0, ((0 + (Int.toNat pe.to) * 1) + 1) ≤ (setAt (rowI v0) (0 + (Int.toNat pe.frm) * 1) [.int .i64 (e + pe.c)]).length, g0 = g0, InR .i64 (((i : Nat) : Int) + 1)]) hE.2.1 (hE.nogh _) mixed (by kernel_rfl) ⟨o0, o2, o3, (by decide), (rfl), o6, o7, o8, (rfl), o10, o11, o12, o13, o14, o15, o17, (rfl), (rfl), o20, o21, o22, (rfl), o24, (rfl), o27, (rfl), (rfl), o30, o31, o32, (rfl), o34, (rfl), o36, trivial⟩ hg
theorem p31_0_5 (b : (List Int)) (l : (List Pay)) (i : Nat) (v0 : List Int) (g0 : Nat)  {E : Env} {res : AV} (hE : PureE Try.prog 31 res E) (o0 : (decide (((i : Nat) : Int) < ((l.length : Nat) : Int))) = false)
    (hr : AvLe (.tup [.rsl (rowI v0) 0 v0.length, .int .i64 0]) res) : G Try.prog E (f31K0 Try.prog) (f31S0 b l i v0 g0) :=
  end_stepL (n := 400) (evs := [.b false]) (obs := [(decide (((i : Nat) : Int) < ((l.length : Nat) : Int))) = false, g0 = g0]) hE Try.func31 mixed (by kernel_rfl) ⟨o0, (rfl), trivial⟩ hr
theorem f31W0 (b : (List Int)) (l : (List Pay)) (i : Nat) (v0 : List Int) {E : Env} {rv : ((List Int) × Int)} (hE : PureE Try.prog 31 (.tup [.rsl (rowI rv.1) 0 rv.1.length, .int .i64 rv.2]) E)
    (h : ((((i : Nat) : Int) < ((l.length : Nat) : Int) → (∃ pe : Pay, l[i]? = some pe ∧ ((-9223372036854775808 ≤ ((v0.length : Nat) : Int) - 1 ∧ ((v0.length : Nat) : Int) - 1 ≤ 9223372036854775807) ∧ (((within pe.frm 0 (((v0.length : Nat) : Int) - 1)) = false → rv = (([] : List Int), 110)) ∧ ((within pe.frm 0 (((v0.length : Nat) : Int) - 1)) = true → ((-9223372036854775808 ≤ ((v0.length : Nat) : Int) - 1 ∧ ((v0.length : Nat) : Int) - 1 ≤ 9223372036854775807) ∧ (((within pe.to 0 (((v0.length : Nat) : Int) - 1)) = false → rv = (([] : List Int), 110)) ∧ ((within pe.to 0 (((v0.length : Nat) : Int) - 1)) = true → ((pe.frm = pe.to → rv = (([] : List Int), 110)) ∧ (¬ (pe.frm = pe.to) → (((within pe.c 1 100000000000) = false → rv = (([] : List Int), 110)) ∧ ((within pe.c 1 100000000000) = true → (0 ≤ pe.frm ∧ (∃ e : Int, v0[Int.toNat pe.frm]? = some e ∧ ((-9223372036854775808 ≤ e + pe.c ∧ e + pe.c ≤ 9223372036854775807) ∧ (0 ≤ pe.to ∧ (∃ e1 : Int, (v0.set (Int.toNat pe.frm) (e + pe.c))[Int.toNat pe.to]? = some e1 ∧ ((-9223372036854775808 ≤ e1 - pe.c ∧ e1 - pe.c ≤ 9223372036854775807) ∧ ((-9223372036854775808 ≤ ((i : Nat) : Int) + 1 ∧ ((i : Nat) : Int) + 1 ≤ 9223372036854775807) ∧ f31G0 E b l (i + 1) ((v0.set (Int.toNat pe.frm) (e + pe.c)).set (Int.toNat pe.to) (e1 - pe.c))))))))))))))))))))) ∧ (¬ (((i : Nat) : Int) < ((l.length : Nat) : Int)) → rv = (v0, 0)))) : f31G0 E b l i v0 := by
  intro g0
  rcases Bool.eq_false_or_eq_true (decide (((i : Nat) : Int) < ((l.length : Nat) : Int))) with hc0 | hc0
  · have h := h.1 (of_decide_eq_true hc0)
    obtain ⟨pe, h1, h⟩ := h
    obtain ⟨q6_1, h⟩ := h
    rcases Bool.eq_false_or_eq_true (!(within pe.frm 0 (((v0.length : Nat) : Int) - 1))) with hc1 | hc1
    · have h := h.1 (bnT hc1)
      exact p31_0_0 b l i v0 g0 pe hE hc0 (idx_ok h1) (row_part cPay (s := 3) (k := 0) (m := 3) (fun _ => rfl) (by decide) h1) q6_1 (pureF_of Try.func51 (by kernel_rfl) f51b (withinR_ok pe.frm 0 (((v0.length : Nat) : Int) - 1))) hc1 (by rw [h]; exact (tup_le ⟨nil_le, ⟨AvLe.of_eq rfl, trivial⟩⟩))
    · have h := h.2 (bnF hc1)
      obtain ⟨q10_2, h⟩ := h
      rcases Bool.eq_false_or_eq_true (!(within pe.to 0 (((v0.length : Nat) : Int) - 1))) with hc2 | hc2
      · have h := h.1 (bnT hc2)
        exact p31_0_1 b l i v0 g0 pe hE hc0 (idx_ok h1) (row_part cPay (s := 3) (k := 0) (m := 3) (fun _ => rfl) (by decide) h1) q6_1 (pureF_of Try.func51 (by kernel_rfl) f51b (withinR_ok pe.frm 0 (((v0.length : Nat) : Int) - 1))) hc1 q10_2 (pureF_of Try.func51 (by kernel_rfl) f51b (withinR_ok pe.to 0 (((v0.length : Nat) : Int) - 1))) hc2 (by rw [h]; exact (tup_le ⟨nil_le, ⟨AvLe.of_eq rfl, trivial⟩⟩))
      · have h := h.2 (bnF hc2)
        rcases Bool.eq_false_or_eq_true (pe.frm == pe.to) with hc3 | hc3
        · have h := h.1 (eq_of_beq hc3)
          exact p31_0_2 b l i v0 g0 pe hE hc0 (idx_ok h1) (row_part cPay (s := 3) (k := 0) (m := 3) (fun _ => rfl) (by decide) h1) q6_1 (pureF_of Try.func51 (by kernel_rfl) f51b (withinR_ok pe.frm 0 (((v0.length : Nat) : Int) - 1))) hc1 q10_2 (pureF_of Try.func51 (by kernel_rfl) f51b (withinR_ok pe.to 0 (((v0.length : Nat) : Int) - 1))) hc2 hc3 (by rw [h]; exact (tup_le ⟨nil_le, ⟨AvLe.of_eq rfl, trivial⟩⟩))
        · have h := h.2 (ne_of_beq_false hc3)
          rcases Bool.eq_false_or_eq_true (!(within pe.c 1 100000000000)) with hc4 | hc4
          · have h := h.1 (bnT hc4)
            exact p31_0_3 b l i v0 g0 pe hE hc0 (idx_ok h1) (row_part cPay (s := 3) (k := 0) (m := 3) (fun _ => rfl) (by decide) h1) q6_1 (pureF_of Try.func51 (by kernel_rfl) f51b (withinR_ok pe.frm 0 (((v0.length : Nat) : Int) - 1))) hc1 q10_2 (pureF_of Try.func51 (by kernel_rfl) f51b (withinR_ok pe.to 0 (((v0.length : Nat) : Int) - 1))) hc2 hc3 (pureF_of Try.func51 (by kernel_rfl) f51b (withinR_ok pe.c 1 100000000000)) hc4 (by rw [h]; exact (tup_le ⟨nil_le, ⟨AvLe.of_eq rfl, trivial⟩⟩))
          · have h := h.2 (bnF hc4)
            obtain ⟨h3, h⟩ := h
            obtain ⟨e, h2, h⟩ := h
            obtain ⟨q21_5, h⟩ := h
            obtain ⟨h5, h⟩ := h
            obtain ⟨e1, h4, h⟩ := h
            obtain ⟨q31_5, h⟩ := h
            obtain ⟨q36_5, h⟩ := h
            refine p31_0_4 b l i v0 g0 pe e e1 hE hc0 (idx_ok h1) (row_part cPay (s := 3) (k := 0) (m := 3) (fun _ => rfl) (by decide) h1) q6_1 (pureF_of Try.func51 (by kernel_rfl) f51b (withinR_ok pe.frm 0 (((v0.length : Nat) : Int) - 1))) hc1 q10_2 (pureF_of Try.func51 (by kernel_rfl) f51b (withinR_ok pe.to 0 (((v0.length : Nat) : Int) - 1))) hc2 hc3 (pureF_of Try.func51 (by kernel_rfl) f51b (withinR_ok pe.c 1 100000000000)) hc4 (idx_ok' h3 h2) (row_part cI (s := 1) (k := 0) (m := 1) (fun _ => rfl) (by decide) h2) q21_5 (idx_ok' h3 h2) (row_fits cI (s := 1) (k := 0) (m := 1) (fun _ => rfl) (by decide) h2) (by have hx := idx_ok' h5 h4; simpa using hx) (by rw [(show setAt (rowI v0) (0 + (Int.toNat pe.frm) * 1) [.int .i64 (e + pe.c)] = rowI (v0.set (Int.toNat pe.frm) (e + pe.c)) from row_set cI (s := 1) (k := 0) (fun _ => rfl) h2 rfl (by first | decide | simp))]; exact row_part cI (s := 1) (k := 0) (m := 1) (fun _ => rfl) (by decide) h4) q31_5 (by have hx := idx_ok' h5 h4; simpa using hx) (by rw [(show setAt (rowI v0) (0 + (Int.toNat pe.frm) * 1) [.int .i64 (e + pe.c)] = rowI (v0.set (Int.toNat pe.frm) (e + pe.c)) from row_set cI (s := 1) (k := 0) (fun _ => rfl) h2 rfl (by first | decide | simp))]; exact row_fits cI (s := 1) (k := 0) (m := 1) (fun _ => rfl) (by decide) h4) q36_5 ?_
            have h := (h g0)
            simp only [f31S0, List.length_set] at h
            rw [(show setAt (rowI v0) (0 + (Int.toNat pe.frm) * 1) [.int .i64 (e + pe.c)] = rowI (v0.set (Int.toNat pe.frm) (e + pe.c)) from row_set cI (s := 1) (k := 0) (fun _ => rfl) h2 rfl (by first | decide | simp))]; rw [(show setAt (rowI (v0.set (Int.toNat pe.frm) (e + pe.c))) (0 + (Int.toNat pe.to) * 1) [.int .i64 (e1 - pe.c)] = rowI ((v0.set (Int.toNat pe.frm) (e + pe.c)).set (Int.toNat pe.to) (e1 - pe.c)) from row_set cI (s := 1) (k := 0) (fun _ => rfl) h4 rfl (by first | decide | simp))]
            exact h
  · have h := h.2 (of_decide_eq_false hc0)
    exact p31_0_5 b l i v0 g0  hE hc0 (AvLe.of_eq (by rw [h]; try rfl))

theorem PayP_ok (b : List Int) (l : List Pay) (h : b.length ≤ 9223372036854775807) : Pure Try.prog 30 [.rsl (rowI b) 0 b.length, .rsl (rowPay l) 0 l.length] (.tup [.rsl (rowI (payK b l).1) 0 (payK b l).1.length, .int .i64 (payK b l).2]) := pure_of Try.func30 f30b fun E hE => by
  refine f30W b l (rv := payK b l) hE ⟨h, fun h1 => by rw [payK, if_pos h1], fun h1 => ⟨fun h2 => by rw [payK, if_neg (by rw [h1]; simp), if_pos h2], fun h2 => ?_⟩⟩
  have hb := bal_of h1
  have hr : payK b l = payOut (payAll ((b.length : Nat) : Int) l b) := by rw [payK, if_neg (by rw [h1]; simp), if_neg h2]
  have key : ∀ (d i : Nat) (v : List Int), i + d = l.length → v.length = b.length → (∀ x ∈ v, -10000000000 - 200000000000 * (i : Int) ≤ x ∧ x ≤ 10000000000 + 200000000000 * (i : Int)) → payK b l = payOut (payAll ((b.length : Nat) : Int) (l.drop i) v) → f30G0 E b l i v := by
    intro d
    induction d with
    | zero =>
      intro i v hd hv hbd hk
      rw [List.drop_eq_nil_of_le (by omega)] at hk
      exact f30W0 b l i v (rv := payK b l) hE ⟨fun h => by omega, fun _ => hk⟩
    | succ d ih =>
      intro i v hd hv hbd hk
      have hi : l[i]? = some l[i] := List.getElem?_eq_getElem (by omega)
      rw [List.drop_eq_getElem_cons (by omega)] at hk
      simp only [payAll] at hk
      generalize l[i] = x at hi hk
      refine f30W0 b l i v (rv := payK b l) hE ⟨fun _ => ⟨x, hi, by omega, fun h3 => ?qa, fun h3 => ⟨by omega, fun h4 => ?qb, fun h4 => ⟨fun h5 => ?qc, fun h5 => ⟨fun h6 => ?qd, fun h6 => ?qe⟩⟩⟩⟩, fun h => by omega⟩
      case qa => rw [hk, if_neg (by simp [payOk, h3])]; rfl
      case qb => rw [hk, if_neg (by simp [payOk, h4])]; rfl
      case qc => rw [hk, if_neg (by simp [payOk, h5])]; rfl
      case qd => rw [hk, if_neg (by simp [payOk, h6])]; rfl
      case qe =>
        rw [if_pos (by simp only [payOk, Bool.and_eq_true, Bool.not_eq_true', decide_eq_false_iff_not]; exact ⟨h3, h4, h5, h6⟩)] at hk
        have w1 := within_iff.1 h3
        have w2 := within_iff.1 h4
        have w3 := within_iff.1 h6
        have g1 := pay_get (v := v) w1.1 (by omega)
        have g2 := pay_get (v := v.set (Int.toNat x.frm) (v.getD (Int.toNat x.frm) 0 + x.c)) w2.1 (by simp; omega)
        have m1 := hbd _ (List.mem_of_getElem? g1)
        have m2 : ∀ y ∈ v.set (Int.toNat x.frm) (v.getD (Int.toNat x.frm) 0 + x.c), -10000000000 - 200000000000 * (i : Int) - 100000000000 ≤ y ∧ y ≤ 10000000000 + 200000000000 * (i : Int) + 100000000000 := fun y hy => by
          rcases List.mem_or_eq_of_mem_set hy with hy | rfl
          · have := hbd y hy; omega
          · omega
        have m3 := m2 _ (List.mem_of_getElem? g2)
        refine ⟨w1.1, _, g1, by omega, w2.1, _, g2, by omega, by omega, ih (i + 1) _ (by omega) (by simp [hv]) (fun y hy => ?_) hk⟩
        rcases List.mem_or_eq_of_mem_set hy with hy | rfl
        · have := m2 y hy; omega
        · omega

  exact ⟨⟨by omega, by omega⟩, key l.length 0 b (by omega) rfl (fun x hx => by have := hb.2 x hx; omega) (by simpa using hr)⟩


theorem PayR_ok (b : List Int) (l : List Pay) (h : b.length ≤ 9223372036854775807) : Pure Try.prog 31 [.rsl (rowI b) 0 b.length, .rsl (rowPay l) 0 l.length] (.tup [.rsl (rowI (payK b l).1) 0 (payK b l).1.length, .int .i64 (payK b l).2]) := pure_of Try.func31 f31b fun E hE => by
  refine f31W b l (rv := payK b l) hE ⟨h, fun h1 => by rw [payK, if_pos h1], fun h1 => ⟨fun h2 => by rw [payK, if_neg (by rw [h1]; simp), if_pos h2], fun h2 => ?_⟩⟩
  have hb := bal_of h1
  have hr : payK b l = payOut (payAll ((b.length : Nat) : Int) l b) := by rw [payK, if_neg (by rw [h1]; simp), if_neg h2]
  have key : ∀ (d i : Nat) (v : List Int), i + d = l.length → v.length = b.length → (∀ x ∈ v, -10000000000 - 200000000000 * (i : Int) ≤ x ∧ x ≤ 10000000000 + 200000000000 * (i : Int)) → payK b l = payOut (payAll ((b.length : Nat) : Int) (l.drop i) v) → f31G0 E b l i v := by
    intro d
    induction d with
    | zero =>
      intro i v hd hv hbd hk
      rw [List.drop_eq_nil_of_le (by omega)] at hk
      exact f31W0 b l i v (rv := payK b l) hE ⟨fun h => by omega, fun _ => hk⟩
    | succ d ih =>
      intro i v hd hv hbd hk
      have hi : l[i]? = some l[i] := List.getElem?_eq_getElem (by omega)
      rw [List.drop_eq_getElem_cons (by omega)] at hk
      simp only [payAll] at hk
      generalize l[i] = x at hi hk
      refine f31W0 b l i v (rv := payK b l) hE ⟨fun _ => ⟨x, hi, by omega, fun h3 => ?qa, fun h3 => ⟨by omega, fun h4 => ?qb, fun h4 => ⟨fun h5 => ?qc, fun h5 => ⟨fun h6 => ?qd, fun h6 => ?qe⟩⟩⟩⟩, fun h => by omega⟩
      case qa => rw [hk, if_neg (by rw [hv] at h3; simp [payOk, h3])]; rfl
      case qb => rw [hk, if_neg (by rw [hv] at h4; simp [payOk, h4])]; rfl
      case qc => rw [hk, if_neg (by simp [payOk, h5])]; rfl
      case qd => rw [hk, if_neg (by simp [payOk, h6])]; rfl
      case qe =>
        rw [if_pos (by simp only [payOk, Bool.and_eq_true, Bool.not_eq_true', decide_eq_false_iff_not]; exact ⟨by rw [← hv]; exact h3, by rw [← hv]; exact h4, h5, h6⟩)] at hk
        have w1 := within_iff.1 h3
        have w2 := within_iff.1 h4
        have w3 := within_iff.1 h6
        have g1 := pay_get (v := v) w1.1 (by omega)
        have g2 := pay_get (v := v.set (Int.toNat x.frm) (v.getD (Int.toNat x.frm) 0 + x.c)) w2.1 (by simp; omega)
        have m1 := hbd _ (List.mem_of_getElem? g1)
        have m2 : ∀ y ∈ v.set (Int.toNat x.frm) (v.getD (Int.toNat x.frm) 0 + x.c), -10000000000 - 200000000000 * (i : Int) - 100000000000 ≤ y ∧ y ≤ 10000000000 + 200000000000 * (i : Int) + 100000000000 := fun y hy => by
          rcases List.mem_or_eq_of_mem_set hy with hy | rfl
          · have := hbd y hy; omega
          · omega
        have m3 := m2 _ (List.mem_of_getElem? g2)
        refine ⟨w1.1, _, g1, by omega, w2.1, _, g2, by omega, by omega, ih (i + 1) _ (by omega) (by simp [hv]) (fun y hy => ?_) hk⟩
        rcases List.mem_or_eq_of_mem_set hy with hy | rfl
        · have := m2 y hy; omega
        · omega

  exact ⟨by omega, key l.length 0 b (by omega) rfl (fun x hx => by have := hb.2 x hx; omega) (by simpa using hr)⟩

end Go.Proofs.Ytmdbebbibecidaa

namespace Go.Proofs.Ytmdbebbibecidaa
open Go Ax
open Go.Proofs

theorem f10b : Try.f10.body = some (bodyAt Try.prog 10) := by kernel_rfl
theorem p10_start_0 (b : (List Int)) (l : (List Pay))   {E : Env} {res : AV} (hE : PureE Try.prog 10 res E) (o0 : PureF Try.prog (.clos 30 [] []) [.rsl (rowI b) 0 b.length, .rsl (rowPay l) 0 l.length] (.tup [.rsl (rowI ((payK b l).1)) 0 (((payK b l).1).length), .int .i64 ((payK b l).2)])) (o1 : PureF Try.prog (.clos 31 [] []) [.rsl (rowI b) 0 b.length, .rsl (rowPay l) 0 l.length] (.tup [.rsl (rowI ((payK b l).1)) 0 (((payK b l).1).length), .int .i64 ((payK b l).2)])) (o2 : ((payK b l).2 != (payK b l).2) = true)
    (hr : AvLe (.bool false) res) : G Try.prog E [.code (bodyAt Try.prog 10)] ⟨[.rsl (rowI b) 0 b.length, .rsl (rowPay l) 0 l.length] ++ unds (Try.f10.ntmps - 2), []⟩ :=
  end_stepL (n := 400) (evs := [.v (.tup [.rsl (rowI ((payK b l).1)) 0 (((payK b l).1).length), .int .i64 ((payK b l).2)]), .v (.tup [.rsl (rowI ((payK b l).1)) 0 (((payK b l).1).length), .int .i64 ((payK b l).2)]), .b true, .b true]) (obs := [PureF Try.prog (.clos 30 [] []) [.rsl (rowI b) 0 b.length, .rsl (rowPay l) 0 l.length] (.tup [.rsl (rowI ((payK b l).1)) 0 (((payK b l).1).length), .int .i64 ((payK b l).2)]), PureF Try.prog (.clos 31 [] []) [.rsl (rowI b) 0 b.length, .rsl (rowPay l) 0 l.length] (.tup [.rsl (rowI ((payK b l).1)) 0 (((payK b l).1).length), .int .i64 ((payK b l).2)]), ((payK b l).2 != (payK b l).2) = true, true = true]) hE Try.func10 mixed (by kernel_rfl) ⟨o0, o1, o2, (rfl), trivial⟩ hr
theorem p10_start_1 (b : (List Int)) (l : (List Pay))   {E : Env} {res : AV} (hE : PureE Try.prog 10 res E) (o0 : PureF Try.prog (.clos 30 [] []) [.rsl (rowI b) 0 b.length, .rsl (rowPay l) 0 l.length] (.tup [.rsl (rowI ((payK b l).1)) 0 (((payK b l).1).length), .int .i64 ((payK b l).2)])) (o1 : PureF Try.prog (.clos 31 [] []) [.rsl (rowI b) 0 b.length, .rsl (rowPay l) 0 l.length] (.tup [.rsl (rowI ((payK b l).1)) 0 (((payK b l).1).length), .int .i64 ((payK b l).2)])) (o2 : ((payK b l).2 != (payK b l).2) = false) (o3 : PureF Try.prog (.clos 17 [] []) [.rsl (rowI ((payK b l).1)) 0 (((payK b l).1).length), .rsl (rowI ((payK b l).1)) 0 (((payK b l).1).length)] (.bool true)) (o4 : (!true) = true)
    (hr : AvLe (.bool false) res) : G Try.prog E [.code (bodyAt Try.prog 10)] ⟨[.rsl (rowI b) 0 b.length, .rsl (rowPay l) 0 l.length] ++ unds (Try.f10.ntmps - 2), []⟩ :=
  end_stepL (n := 400) (evs := [.v (.tup [.rsl (rowI ((payK b l).1)) 0 (((payK b l).1).length), .int .i64 ((payK b l).2)]), .v (.tup [.rsl (rowI ((payK b l).1)) 0 (((payK b l).1).length), .int .i64 ((payK b l).2)]), .b false, .v (.bool true), .b true]) (obs := [PureF Try.prog (.clos 30 [] []) [.rsl (rowI b) 0 b.length, .rsl (rowPay l) 0 l.length] (.tup [.rsl (rowI ((payK b l).1)) 0 (((payK b l).1).length), .int .i64 ((payK b l).2)]), PureF Try.prog (.clos 31 [] []) [.rsl (rowI b) 0 b.length, .rsl (rowPay l) 0 l.length] (.tup [.rsl (rowI ((payK b l).1)) 0 (((payK b l).1).length), .int .i64 ((payK b l).2)]), ((payK b l).2 != (payK b l).2) = false, PureF Try.prog (.clos 17 [] []) [.rsl (rowI ((payK b l).1)) 0 (((payK b l).1).length), .rsl (rowI ((payK b l).1)) 0 (((payK b l).1).length)] (.bool true), (!true) = true]) hE Try.func10 mixed (by kernel_rfl) ⟨o0, o1, o2, o3, o4, trivial⟩ hr
theorem p10_start_2 (b : (List Int)) (l : (List Pay))   {E : Env} {res : AV} (hE : PureE Try.prog 10 res E) (o0 : PureF Try.prog (.clos 30 [] []) [.rsl (rowI b) 0 b.length, .rsl (rowPay l) 0 l.length] (.tup [.rsl (rowI ((payK b l).1)) 0 (((payK b l).1).length), .int .i64 ((payK b l).2)])) (o1 : PureF Try.prog (.clos 31 [] []) [.rsl (rowI b) 0 b.length, .rsl (rowPay l) 0 l.length] (.tup [.rsl (rowI ((payK b l).1)) 0 (((payK b l).1).length), .int .i64 ((payK b l).2)])) (o2 : ((payK b l).2 != (payK b l).2) = false) (o3 : PureF Try.prog (.clos 17 [] []) [.rsl (rowI ((payK b l).1)) 0 (((payK b l).1).length), .rsl (rowI ((payK b l).1)) 0 (((payK b l).1).length)] (.bool true)) (o4 : (!true) = false) (o5 : ((payK b l).2 != 0) = true) (o7 : PureF Try.prog (.clos 20 [] []) [] (.bool true))
    (hr : AvLe (.bool true) res) : G Try.prog E [.code (bodyAt Try.prog 10)] ⟨[.rsl (rowI b) 0 b.length, .rsl (rowPay l) 0 l.length] ++ unds (Try.f10.ntmps - 2), []⟩ :=
  end_stepL (n := 400) (evs := [.v (.tup [.rsl (rowI ((payK b l).1)) 0 (((payK b l).1).length), .int .i64 ((payK b l).2)]), .v (.tup [.rsl (rowI ((payK b l).1)) 0 (((payK b l).1).length), .int .i64 ((payK b l).2)]), .b false, .v (.bool true), .b false, .b true, .b true, .v (.bool true)]) (obs := [PureF Try.prog (.clos 30 [] []) [.rsl (rowI b) 0 b.length, .rsl (rowPay l) 0 l.length] (.tup [.rsl (rowI ((payK b l).1)) 0 (((payK b l).1).length), .int .i64 ((payK b l).2)]), PureF Try.prog (.clos 31 [] []) [.rsl (rowI b) 0 b.length, .rsl (rowPay l) 0 l.length] (.tup [.rsl (rowI ((payK b l).1)) 0 (((payK b l).1).length), .int .i64 ((payK b l).2)]), ((payK b l).2 != (payK b l).2) = false, PureF Try.prog (.clos 17 [] []) [.rsl (rowI ((payK b l).1)) 0 (((payK b l).1).length), .rsl (rowI ((payK b l).1)) 0 (((payK b l).1).length)] (.bool true), (!true) = false, ((payK b l).2 != 0) = true, true = true, PureF Try.prog (.clos 20 [] []) [] (.bool true)]) hE Try.func10 mixed (by kernel_rfl) ⟨o0, o1, o2, o3, o4, o5, (rfl), o7, trivial⟩ hr
theorem p10_start_3 (b : (List Int)) (l : (List Pay))   {E : Env} {res : AV} (hE : PureE Try.prog 10 res E) (o0 : PureF Try.prog (.clos 30 [] []) [.rsl (rowI b) 0 b.length, .rsl (rowPay l) 0 l.length] (.tup [.rsl (rowI ((payK b l).1)) 0 (((payK b l).1).length), .int .i64 ((payK b l).2)])) (o1 : PureF Try.prog (.clos 31 [] []) [.rsl (rowI b) 0 b.length, .rsl (rowPay l) 0 l.length] (.tup [.rsl (rowI ((payK b l).1)) 0 (((payK b l).1).length), .int .i64 ((payK b l).2)])) (o2 : ((payK b l).2 != (payK b l).2) = false) (o3 : PureF Try.prog (.clos 17 [] []) [.rsl (rowI ((payK b l).1)) 0 (((payK b l).1).length), .rsl (rowI ((payK b l).1)) 0 (((payK b l).1).length)] (.bool true)) (o4 : (!true) = false) (o5 : ((payK b l).2 != 0) = false) (o6 : PureF Try.prog (.clos 21 [] []) [.rsl (rowI ((payK b l).1)) 0 (((payK b l).1).length)] (.int .i64 (sumI ((payK b l).1)))) (o7 : PureF Try.prog (.clos 21 [] []) [.rsl (rowI b) 0 b.length] (.int .i64 (sumI b))) (o8 : ((sumI ((payK b l).1)) == (sumI b)) = true) (o9 : PureF Try.prog (.clos 20 [] []) [] (.bool true))
    (hr : AvLe (.bool true) res) : G Try.prog E [.code (bodyAt Try.prog 10)] ⟨[.rsl (rowI b) 0 b.length, .rsl (rowPay l) 0 l.length] ++ unds (Try.f10.ntmps - 2), []⟩ :=
  end_stepL (n := 400) (evs := [.v (.tup [.rsl (rowI ((payK b l).1)) 0 (((payK b l).1).length), .int .i64 ((payK b l).2)]), .v (.tup [.rsl (rowI ((payK b l).1)) 0 (((payK b l).1).length), .int .i64 ((payK b l).2)]), .b false, .v (.bool true), .b false, .b false, .v (.int .i64 (sumI ((payK b l).1))), .v (.int .i64 (sumI b)), .b true, .v (.bool true)]) (obs := [PureF Try.prog (.clos 30 [] []) [.rsl (rowI b) 0 b.length, .rsl (rowPay l) 0 l.length] (.tup [.rsl (rowI ((payK b l).1)) 0 (((payK b l).1).length), .int .i64 ((payK b l).2)]), PureF Try.prog (.clos 31 [] []) [.rsl (rowI b) 0 b.length, .rsl (rowPay l) 0 l.length] (.tup [.rsl (rowI ((payK b l).1)) 0 (((payK b l).1).length), .int .i64 ((payK b l).2)]), ((payK b l).2 != (payK b l).2) = false, PureF Try.prog (.clos 17 [] []) [.rsl (rowI ((payK b l).1)) 0 (((payK b l).1).length), .rsl (rowI ((payK b l).1)) 0 (((payK b l).1).length)] (.bool true), (!true) = false, ((payK b l).2 != 0) = false, PureF Try.prog (.clos 21 [] []) [.rsl (rowI ((payK b l).1)) 0 (((payK b l).1).length)] (.int .i64 (sumI ((payK b l).1))), PureF Try.prog (.clos 21 [] []) [.rsl (rowI b) 0 b.length] (.int .i64 (sumI b)), ((sumI ((payK b l).1)) == (sumI b)) = true, PureF Try.prog (.clos 20 [] []) [] (.bool true)]) hE Try.func10 mixed (by kernel_rfl) ⟨o0, o1, o2, o3, o4, o5, o6, o7, o8, o9, trivial⟩ hr
theorem p10_start_4 (b : (List Int)) (l : (List Pay))   {E : Env} {res : AV} (hE : PureE Try.prog 10 res E) (o0 : PureF Try.prog (.clos 30 [] []) [.rsl (rowI b) 0 b.length, .rsl (rowPay l) 0 l.length] (.tup [.rsl (rowI ((payK b l).1)) 0 (((payK b l).1).length), .int .i64 ((payK b l).2)])) (o1 : PureF Try.prog (.clos 31 [] []) [.rsl (rowI b) 0 b.length, .rsl (rowPay l) 0 l.length] (.tup [.rsl (rowI ((payK b l).1)) 0 (((payK b l).1).length), .int .i64 ((payK b l).2)])) (o2 : ((payK b l).2 != (payK b l).2) = false) (o3 : PureF Try.prog (.clos 17 [] []) [.rsl (rowI ((payK b l).1)) 0 (((payK b l).1).length), .rsl (rowI ((payK b l).1)) 0 (((payK b l).1).length)] (.bool true)) (o4 : (!true) = false) (o5 : ((payK b l).2 != 0) = false) (o6 : PureF Try.prog (.clos 21 [] []) [.rsl (rowI ((payK b l).1)) 0 (((payK b l).1).length)] (.int .i64 (sumI ((payK b l).1)))) (o7 : PureF Try.prog (.clos 21 [] []) [.rsl (rowI b) 0 b.length] (.int .i64 (sumI b))) (o8 : ((sumI ((payK b l).1)) == (sumI b)) = false)
    (hr : AvLe (.bool false) res) : G Try.prog E [.code (bodyAt Try.prog 10)] ⟨[.rsl (rowI b) 0 b.length, .rsl (rowPay l) 0 l.length] ++ unds (Try.f10.ntmps - 2), []⟩ :=
  end_stepL (n := 400) (evs := [.v (.tup [.rsl (rowI ((payK b l).1)) 0 (((payK b l).1).length), .int .i64 ((payK b l).2)]), .v (.tup [.rsl (rowI ((payK b l).1)) 0 (((payK b l).1).length), .int .i64 ((payK b l).2)]), .b false, .v (.bool true), .b false, .b false, .v (.int .i64 (sumI ((payK b l).1))), .v (.int .i64 (sumI b)), .b false]) (obs := [PureF Try.prog (.clos 30 [] []) [.rsl (rowI b) 0 b.length, .rsl (rowPay l) 0 l.length] (.tup [.rsl (rowI ((payK b l).1)) 0 (((payK b l).1).length), .int .i64 ((payK b l).2)]), PureF Try.prog (.clos 31 [] []) [.rsl (rowI b) 0 b.length, .rsl (rowPay l) 0 l.length] (.tup [.rsl (rowI ((payK b l).1)) 0 (((payK b l).1).length), .int .i64 ((payK b l).2)]), ((payK b l).2 != (payK b l).2) = false, PureF Try.prog (.clos 17 [] []) [.rsl (rowI ((payK b l).1)) 0 (((payK b l).1).length), .rsl (rowI ((payK b l).1)) 0 (((payK b l).1).length)] (.bool true), (!true) = false, ((payK b l).2 != 0) = false, PureF Try.prog (.clos 21 [] []) [.rsl (rowI ((payK b l).1)) 0 (((payK b l).1).length)] (.int .i64 (sumI ((payK b l).1))), PureF Try.prog (.clos 21 [] []) [.rsl (rowI b) 0 b.length] (.int .i64 (sumI b)), ((sumI ((payK b l).1)) == (sumI b)) = false]) hE Try.func10 mixed (by kernel_rfl) ⟨o0, o1, o2, o3, o4, o5, o6, o7, o8, trivial⟩ hr
theorem f10W (b : (List Int)) (l : (List Pay)) {E : Env} {rv : Bool} (hE : PureE Try.prog 10 (.bool rv) E)
    (h : ((b.length ≤ 9223372036854775807) ∧ ((b.length ≤ 9223372036854775807) ∧ ((¬ ((payK b l).2 = (payK b l).2) → rv = false) ∧ ((payK b l).2 = (payK b l).2 → ((((payK b l).1) = ((payK b l).1) ∧ ((payK b l).1).length ≤ 1000000) ∧ ((true = false → rv = false) ∧ (true = true → ((¬ ((payK b l).2 = 0) → rv = true) ∧ ((payK b l).2 = 0 → ((SumOk ((payK b l).1)) ∧ ((SumOk b) ∧ (((sumI ((payK b l).1)) = (sumI b) → rv = true) ∧ (¬ ((sumI ((payK b l).1)) = (sumI b)) → rv = false)))))))))))))) : G Try.prog E [.code (bodyAt Try.prog 10)] ⟨[.rsl (rowI b) 0 b.length, .rsl (rowPay l) 0 l.length] ++ unds (Try.f10.ntmps - 2), []⟩ := by
  obtain ⟨h1, h⟩ := h
  obtain ⟨h2, h⟩ := h
  rcases Bool.eq_false_or_eq_true ((payK b l).2 != (payK b l).2) with hc0 | hc0
  · have h := h.1 (bneT hc0)
    exact p10_start_0 b l    hE (pureF_of Try.func30 (by kernel_rfl) f30b (PayP_ok b l h1)) (pureF_of Try.func31 (by kernel_rfl) f31b (PayR_ok b l h2)) hc0 (AvLe.of_eq (by rw [h]; try rfl))
  · have h := h.2 (bneF hc0)
    obtain ⟨h3, h⟩ := h
    rcases Bool.eq_false_or_eq_true (!true) with hc1 | hc1
    · have h := h.1 (bnT hc1)
      exact p10_start_1 b l    hE (pureF_of Try.func30 (by kernel_rfl) f30b (PayP_ok b l h1)) (pureF_of Try.func31 (by kernel_rfl) f31b (PayR_ok b l h2)) hc0 (pureF_of Try.func17 (by kernel_rfl) f17b (sameInts_ok ((payK b l).1) ((payK b l).1) h3)) hc1 (AvLe.of_eq (by rw [h]; try rfl))
    · have h := h.2 (bnF hc1)
      rcases Bool.eq_false_or_eq_true ((payK b l).2 != 0) with hc2 | hc2
      · have h := h.1 (bneT hc2)
        exact p10_start_2 b l    hE (pureF_of Try.func30 (by kernel_rfl) f30b (PayP_ok b l h1)) (pureF_of Try.func31 (by kernel_rfl) f31b (PayR_ok b l h2)) hc0 (pureF_of Try.func17 (by kernel_rfl) f17b (sameInts_ok ((payK b l).1) ((payK b l).1) h3)) hc1 hc2 (pureF_of Try.func20 (by kernel_rfl) f20b (works_ok )) (AvLe.of_eq (by rw [h]; try rfl))
      · have h := h.2 (bneF hc2)
        obtain ⟨h4, h⟩ := h
        obtain ⟨h5, h⟩ := h
        rcases Bool.eq_false_or_eq_true ((sumI ((payK b l).1)) == (sumI b)) with hc3 | hc3
        · have h := h.1 (eq_of_beq hc3)
          exact p10_start_3 b l    hE (pureF_of Try.func30 (by kernel_rfl) f30b (PayP_ok b l h1)) (pureF_of Try.func31 (by kernel_rfl) f31b (PayR_ok b l h2)) hc0 (pureF_of Try.func17 (by kernel_rfl) f17b (sameInts_ok ((payK b l).1) ((payK b l).1) h3)) hc1 hc2 (pureF_of Try.func21 (by kernel_rfl) f21b (sumR_ok ((payK b l).1) h4)) (pureF_of Try.func21 (by kernel_rfl) f21b (sumR_ok b h5)) hc3 (pureF_of Try.func20 (by kernel_rfl) f20b (works_ok )) (AvLe.of_eq (by rw [h]; try rfl))
        · have h := h.2 (ne_of_beq_false hc3)
          exact p10_start_4 b l    hE (pureF_of Try.func30 (by kernel_rfl) f30b (PayP_ok b l h1)) (pureF_of Try.func31 (by kernel_rfl) f31b (PayR_ok b l h2)) hc0 (pureF_of Try.func17 (by kernel_rfl) f17b (sameInts_ok ((payK b l).1) ((payK b l).1) h3)) hc1 hc2 (pureF_of Try.func21 (by kernel_rfl) f21b (sumR_ok ((payK b l).1) h4)) (pureF_of Try.func21 (by kernel_rfl) f21b (sumR_ok b h5)) hc3 (AvLe.of_eq (by rw [h]; try rfl))

theorem sum_set : ∀ {l : List Int} {i : Nat} {x : Int}, i < l.length → (l.set i x).sum = l.sum - l.getD i 0 + x
  | [], i, x, h => by simp at h
  | y :: l, 0, x, h => by simp; omega
  | y :: l, i + 1, x, h => by
    have := sum_set (l := l) (i := i) (x := x) (by simpa using h)
    simp only [List.set_cons_succ, List.sum_cons, List.getD_cons_succ]; omega

theorem payAll_keeps {n : Int} : ∀ {l : List Pay} {v v' : List Int} {B : Int}, payAll n l v = some v' → ((v.length : Nat) : Int) = n → (∀ x ∈ v, -B ≤ x ∧ x ≤ B) →
    v'.length = v.length ∧ v'.sum = v.sum ∧ ∀ x ∈ v', -(B + 200000000000 * (l.length : Int)) ≤ x ∧ x ≤ B + 200000000000 * (l.length : Int)
  | [], v, v', B, h, hn, hb => by
    simp only [payAll, Option.some.injEq] at h; subst h
    exact ⟨rfl, rfl, by simpa using hb⟩
  | x :: l, v, v', B, h, hn, hb => by
    simp only [payAll] at h
    split at h
    · rename_i hp
      simp only [payOk, Bool.and_eq_true] at hp
      have w1 := within_iff.1 hp.1
      have w2 := within_iff.1 hp.2.1
      have w3 := within_iff.1 hp.2.2.2
      have g1 := pay_get (v := v) w1.1 (by omega)
      have g2 := pay_get (v := v.set (Int.toNat x.frm) (v.getD (Int.toNat x.frm) 0 + x.c)) w2.1 (by simp; omega)
      have s1 := sum_set (l := v) (i := Int.toNat x.frm) (x := v.getD (Int.toNat x.frm) 0 + x.c) (by omega)
      have s2 := sum_set (l := v.set (Int.toNat x.frm) (v.getD (Int.toNat x.frm) 0 + x.c)) (i := Int.toNat x.to) (x := (v.set (Int.toNat x.frm) (v.getD (Int.toNat x.frm) 0 + x.c)).getD (Int.toNat x.to) 0 - x.c) (by simp; omega)
      have b1 := hb _ (List.mem_of_getElem? g1)
      have b2 : ∀ y ∈ v.set (Int.toNat x.frm) (v.getD (Int.toNat x.frm) 0 + x.c), -(B + 100000000000) ≤ y ∧ y ≤ B + 100000000000 := fun y hy => by
        rcases List.mem_or_eq_of_mem_set hy with hy | rfl
        · have := hb y hy; omega
        · omega
      have b3 := b2 _ (List.mem_of_getElem? g2)
      obtain ⟨q1, q2, q3⟩ := payAll_keeps (l := l) (B := B + 200000000000) h (by simp [payDo]; exact hn) (fun y hy => by
        rcases List.mem_or_eq_of_mem_set hy with hy | rfl
        · have := b2 y hy; omega
        · omega)
      refine ⟨by rw [q1]; simp [payDo], by rw [q2, payDo, s2, s1]; omega, fun y hy => ?_⟩
      have := q3 y hy
      simp only [List.length_cons, Int.natCast_add] at *
      omega
    · cases h

theorem law10_ok (b : List Int) (l : List Pay) (h : b.length ≤ 9223372036854775807) : Pure Try.prog 10 [.rsl (rowI b) 0 b.length, .rsl (rowPay l) 0 l.length] (.bool true) := pure_of Try.func10 f10b fun E hE => by
  have facts : (payK b l).1.length ≤ 1000000 ∧ ((payK b l).2 = 0 → SumOk (payK b l).1 ∧ SumOk b ∧ sumI (payK b l).1 = sumI b) := by
    by_cases h1 : balB b = false
    · simp [payK, h1]
    by_cases h2 : ((l.length : Nat) : Int) > 60
    · rw [payK, if_neg h1, if_pos h2]; simp
    rw [payK, if_neg h1, if_neg h2]
    have hb := bal_of (b := b) (by simpa using h1)
    cases hp : payAll ((b.length : Nat) : Int) l b with
    | none => simp [payOut]
    | some v =>
      obtain ⟨q1, q2, q3⟩ := payAll_keeps (B := 10000000000) hp rfl (fun x hx => by have := hb.2 x hx; omega)
      have ok : ∀ {u : List Int}, u.length ≤ 10 → (∀ x ∈ u, -12010000000000 ≤ x ∧ x ≤ 12010000000000) → SumOk u := fun {u} hu hx => by
        refine ⟨by omega, fun k hk => ?_⟩
        have : ∀ {w : List Int}, (∀ x ∈ w, -12010000000000 ≤ x ∧ x ≤ 12010000000000) → -12010000000000 * (w.length : Int) ≤ w.sum ∧ w.sum ≤ 12010000000000 * (w.length : Int) := by
          intro w
          induction w with
          | nil => simp
          | cons y w ih =>
            intro hw
            have := ih fun x hx => hw x (by simp [hx])
            have := hw y (by simp)
            simp only [List.sum_cons, List.length_cons, Int.natCast_add]; omega
        have h3 := this (w := u.take k) fun x hx' => hx x (List.mem_of_mem_take hx')
        have h4 : (u.take k).length ≤ 10 := by rw [List.length_take]; omega
        omega
      refine ⟨by simp only [payOut]; omega, fun _ => ⟨ok (by simp only [payOut]; omega) fun x hx => ?_, ok (by omega) fun x hx => ?_, q2⟩⟩
      · have := q3 x hx; omega
      · have := hb.2 x hx; omega
  exact f10W b l (rv := true) hE ⟨h, h, fun h' => absurd rfl h', fun _ => ⟨⟨rfl, facts.1⟩, fun h' => (by cases h'), fun _ => ⟨fun _ => rfl, fun h0 => ⟨(facts.2 h0).1, (facts.2 h0).2.1, fun _ => rfl, fun h' => absurd (facts.2 h0).2.2 h'⟩⟩⟩⟩

end Go.Proofs.Ytmdbebbibecidaa

namespace Go.Proofs.Ytmdbebbibecidaa
open Go Ax
open Go.Proofs

theorem dPay (W : World) : Dec Try.prog W 68 Pay cPay (fun a => True) := by
  refine Dec.map (dec_struct Try.underlying68 rfl (tot := 3) (by kernel_rfl) (decFs_cons (n := 1) (tot := 3) (by kernel_rfl) rfl (dec_i64 Try.underlying3) (decFs_cons (n := 1) (tot := 3) (by kernel_rfl) rfl (dec_i64 Try.underlying3) (decFs_cons (n := 1) (tot := 3) (by kernel_rfl) rfl (dec_i64 Try.underlying3) decFs_nil (by decide)) (by decide)) (by decide))) (fun x => (⟨x.1, x.2.1, x.2.2.1⟩ : Pay)) ?_ ?_
  · exact fun _ => rfl
  · exact fun _ _ => trivial
theorem dPays (W : World) : Dec Try.prog W 44 (List Pay) (fun a => [.rsl (rowPay a) 0 a.length]) (fun a => a.length ≤ 9223372036854775807) := by
  refine Dec.map (dec_slice Try.underlying44 (n := 3) (by kernel_rfl) (by decide) (fun _ => rfl) (fun _ => rfl) (dPay W)) (fun x => x) ?_ ?_
  · exact fun _ => rfl
  · exact fun _ h => h.1
end Go.Proofs.Ytmdbebbibecidaa
