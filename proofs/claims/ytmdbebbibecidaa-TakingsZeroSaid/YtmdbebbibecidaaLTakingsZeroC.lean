/- A part of the proof: several texts, one behind the other. -/
import Derived.Test.YtmdbebbibecidaaLTakingsZeroB
set_option linter.unusedVariables false
set_option linter.unusedSimpArgs false
set_option maxRecDepth 100000
namespace Go.Proofs.Ytmdbebbibecidaa
open Go Ax
open Go.Proofs

structure Bra where
  from_ : Int
  per : Int
def cBr (b : Bra) : List AV := [.int .i64 b.from_, .int .i64 b.per]
def rowBr (l : List Bra) : List AV := l.flatMap cBr
theorem f45b : Try.f45.body = some (bodyAt Try.prog 45) := by kernel_rfl
def f45K0 (P : Program) : List Item := kAt 400 [.code (bodyAt P 45)] [.b false, .b false, .stop]
def f45S0 (c : Int) (l : (List Bra)) (i : Nat)  : St := ⟨[.junk, .rsl (rowBr l) 0 l.length, .junk, .junk, .junk, .junk, .junk, .junk, .junk, .junk, .junk, .junk, .junk, .junk, .junk, .junk, .junk, .junk, .junk, .junk, .junk, .rsl (rowBr l) 0 l.length, .int .i64 ((l.length : Nat) : Int), .int .i64 ((i : Nat) : Int), .junk, .junk, .junk, .junk, .junk, .junk, .junk, .junk, .junk, .junk, .junk, .junk, .junk, .junk, .junk, .junk, .junk, .junk, .junk, .junk, .junk, .junk, .junk, .junk, .junk, .junk, .junk, .junk, .junk, .junk], []⟩
def f45G0 (E : Env) (c : Int) (l : (List Bra)) (i : Nat) : Prop := G Try.prog E (f45K0 Try.prog) (f45S0 c l i )
theorem p45_start_0 (c : Int) (l : (List Bra))   {E : Env} {res : AV} (hE : PureE Try.prog 45 res E) (o0 : PureF Try.prog (.clos 41 [] []) [.int .i64 c] (.bool (amount c))) (o1 : (!(amount c)) = true)
    (hr : AvLe (.int .i64 1) res) : G Try.prog E [.code (bodyAt Try.prog 45)] ⟨[.int .i64 c, .rsl (rowBr l) 0 l.length] ++ unds (Try.f45.ntmps - 2), []⟩ :=
  end_stepL (n := 400) (evs := [.v (.bool (amount c)), .b true]) (obs := [PureF Try.prog (.clos 41 [] []) [.int .i64 c] (.bool (amount c)), (!(amount c)) = true]) hE Try.func45 mixed (by kernel_rfl) ⟨o0, o1, trivial⟩ hr
theorem p45_start_1 (c : Int) (l : (List Bra))   {E : Env} {res : AV} (hE : PureE Try.prog 45 res E) (o0 : PureF Try.prog (.clos 41 [] []) [.int .i64 c] (.bool (amount c))) (o1 : (!(amount c)) = false) (o2 : PureF Try.prog (.clos 49 [] []) [.int .i64 ((l.length : Nat) : Int), .int .i64 1, .int .i64 8] (.bool (within ((l.length : Nat) : Int) 1 8))) (o3 : (!(within ((l.length : Nat) : Int) 1 8)) = true)
    (hr : AvLe (.int .i64 110) res) : G Try.prog E [.code (bodyAt Try.prog 45)] ⟨[.int .i64 c, .rsl (rowBr l) 0 l.length] ++ unds (Try.f45.ntmps - 2), []⟩ :=
  end_stepL (n := 400) (evs := [.v (.bool (amount c)), .b false, .v (.bool (within ((l.length : Nat) : Int) 1 8)), .b true, .b true]) (obs := [PureF Try.prog (.clos 41 [] []) [.int .i64 c] (.bool (amount c)), (!(amount c)) = false, PureF Try.prog (.clos 49 [] []) [.int .i64 ((l.length : Nat) : Int), .int .i64 1, .int .i64 8] (.bool (within ((l.length : Nat) : Int) 1 8)), (!(within ((l.length : Nat) : Int) 1 8)) = true, true = true]) hE Try.func45 mixed (by kernel_rfl) ⟨o0, o1, o2, o3, (rfl), trivial⟩ hr
theorem p45_start_2 (c : Int) (l : (List Bra))  (be : Bra)  {E : Env} {res : AV} (hE : PureE Try.prog 45 res E) (o0 : PureF Try.prog (.clos 41 [] []) [.int .i64 c] (.bool (amount c))) (o1 : (!(amount c)) = false) (o2 : PureF Try.prog (.clos 49 [] []) [.int .i64 ((l.length : Nat) : Int), .int .i64 1, .int .i64 8] (.bool (within ((l.length : Nat) : Int) 1 8))) (o3 : (!(within ((l.length : Nat) : Int) 1 8)) = false) (o5 : (0 : Int) ≤ 0 ∧ (0 : Int) < ((l.length : Nat) : Int)) (o6 : ((rowBr l).drop ((0 + 0 * 2) + 0)).take 1 = [.int .i64 be.from_]) (o7 : (be.from_ != 0) = true)
    (hr : AvLe (.int .i64 110) res) : G Try.prog E [.code (bodyAt Try.prog 45)] ⟨[.int .i64 c, .rsl (rowBr l) 0 l.length] ++ unds (Try.f45.ntmps - 2), []⟩ :=
  end_stepL (n := 400) (evs := [.v (.bool (amount c)), .b false, .v (.bool (within ((l.length : Nat) : Int) 1 8)), .b false, .ld (.int .i64 be.from_), .b true]) (obs := [PureF Try.prog (.clos 41 [] []) [.int .i64 c] (.bool (amount c)), (!(amount c)) = false, PureF Try.prog (.clos 49 [] []) [.int .i64 ((l.length : Nat) : Int), .int .i64 1, .int .i64 8] (.bool (within ((l.length : Nat) : Int) 1 8)), (!(within ((l.length : Nat) : Int) 1 8)) = false, (0 : Int) ≤ 0 ∧ (0 : Int) < ((l.length : Nat) : Int), ((rowBr l).drop ((0 + 0 * 2) + 0)).take 1 = [.int .i64 be.from_], (be.from_ != 0) = true]) hE Try.func45 mixed (by kernel_rfl) ⟨o0, o1, o2, o3, o5, o6, o7, trivial⟩ hr
theorem p45_start_3 (c : Int) (l : (List Bra))  (be : Bra)  {E : Env} {rv : AV} (hE : PureE Try.prog 45 rv E) (o0 : PureF Try.prog (.clos 41 [] []) [.int .i64 c] (.bool (amount c))) (o1 : (!(amount c)) = false) (o2 : PureF Try.prog (.clos 49 [] []) [.int .i64 ((l.length : Nat) : Int), .int .i64 1, .int .i64 8] (.bool (within ((l.length : Nat) : Int) 1 8))) (o3 : (!(within ((l.length : Nat) : Int) 1 8)) = false) (o5 : (0 : Int) ≤ 0 ∧ (0 : Int) < ((l.length : Nat) : Int)) (o6 : ((rowBr l).drop ((0 + 0 * 2) + 0)).take 1 = [.int .i64 be.from_]) (o7 : (be.from_ != 0) = false)
    (hg : G Try.prog E (f45K0 Try.prog) ⟨[.junk, .rsl (rowBr l) 0 l.length, .junk, .junk, .junk, .junk, .junk, .junk, .junk, .junk, .junk, .junk, .junk, .junk, .junk, .junk, .junk, .junk, .junk, .junk, .junk, .rsl (rowBr l) 0 l.length, .int .i64 ((l.length : Nat) : Int), .int .i64 0, .junk, .junk, .junk, .junk, .junk, .junk, .junk, .junk, .junk, .junk, .junk, .junk, .junk, .junk, .junk, .junk, .junk, .junk, .junk, .junk, .junk, .junk, .junk, .junk, .junk, .junk, .junk, .junk, .junk, .junk], []⟩) : G Try.prog E [.code (bodyAt Try.prog 45)] ⟨[.int .i64 c, .rsl (rowBr l) 0 l.length] ++ unds (Try.f45.ntmps - 2), []⟩ :=
  segC_step (n := 400) (ds := []) (cs := []) (live := [1, 21, 22, 23]) (m := 0) (evs := [.v (.bool (amount c)), .b false, .v (.bool (within ((l.length : Nat) : Int) 1 8)), .b false, .ld (.int .i64 be.from_), .b false, .stop]) (obs := [PureF Try.prog (.clos 41 [] []) [.int .i64 c] (.bool (amount c)), (!(amount c)) = false, PureF Try.prog (.clos 49 [] []) [.int .i64 ((l.length : Nat) : Int), .int .i64 1, .int .i64 8] (.bool (within ((l.length : Nat) : Int) 1 8)), (!(within ((l.length : Nat) : Int) 1 8)) = false, (0 : Int) ≤ 0 ∧ (0 : Int) < ((l.length : Nat) : Int), ((rowBr l).drop ((0 + 0 * 2) + 0)).take 1 = [.int .i64 be.from_], (be.from_ != 0) = false]) hE.2.1 (hE.nogh _) mixed (by kernel_rfl) ⟨o0, o1, o2, o3, o5, o6, o7, trivial⟩ hg
theorem f45W (c : Int) (l : (List Bra)) {E : Env} {rv : Int} (hE : PureE Try.prog 45 (.int .i64 rv) E)
    (h : (((amount c) = false → rv = 1) ∧ ((amount c) = true → (((within ((l.length : Nat) : Int) 1 8) = false → rv = 110) ∧ ((within ((l.length : Nat) : Int) 1 8) = true → (∃ be : Bra, l[0]? = some be ∧ ((¬ (be.from_ = 0) → rv = 110) ∧ (be.from_ = 0 → f45G0 E c l 0)))))))) : G Try.prog E [.code (bodyAt Try.prog 45)] ⟨[.int .i64 c, .rsl (rowBr l) 0 l.length] ++ unds (Try.f45.ntmps - 2), []⟩ := by
  rcases Bool.eq_false_or_eq_true (!(amount c)) with hc0 | hc0
  · have h := h.1 (bnT hc0)
    exact p45_start_0 c l    hE (pureF_of Try.func41 (by kernel_rfl) f41b (amount_ok c)) hc0 (AvLe.of_eq (by rw [h]; try rfl))
  · have h := h.2 (bnF hc0)
    rcases Bool.eq_false_or_eq_true (!(within ((l.length : Nat) : Int) 1 8)) with hc1 | hc1
    · have h := h.1 (bnT hc1)
      exact p45_start_1 c l    hE (pureF_of Try.func41 (by kernel_rfl) f41b (amount_ok c)) hc0 (pureF_of Try.func49 (by kernel_rfl) f49b (within_ok ((l.length : Nat) : Int) 1 8)) hc1 (AvLe.of_eq (by rw [h]; try rfl))
    · have h := h.2 (bnF hc1)
      obtain ⟨be, h1, h⟩ := h
      rcases Bool.eq_false_or_eq_true (be.from_ != 0) with hc2 | hc2
      · have h := h.1 (bneT hc2)
        exact p45_start_2 c l   be hE (pureF_of Try.func41 (by kernel_rfl) f41b (amount_ok c)) hc0 (pureF_of Try.func49 (by kernel_rfl) f49b (within_ok ((l.length : Nat) : Int) 1 8)) hc1 (idx_ok h1) (row_part cBr (s := 2) (k := 0) (m := 1) (fun _ => rfl) (by decide) h1) hc2 (AvLe.of_eq (by rw [h]; try rfl))
      · have h := h.2 (bneF hc2)
        exact p45_start_3 c l   be hE (pureF_of Try.func41 (by kernel_rfl) f41b (amount_ok c)) hc0 (pureF_of Try.func49 (by kernel_rfl) f49b (within_ok ((l.length : Nat) : Int) 1 8)) hc1 (idx_ok h1) (row_part cBr (s := 2) (k := 0) (m := 1) (fun _ => rfl) (by decide) h1) hc2 h
theorem p45_0_0 (c : Int) (l : (List Bra)) (i : Nat)  (be : Bra)  {E : Env} {res : AV} (hE : PureE Try.prog 45 res E) (o0 : (decide (((i : Nat) : Int) < ((l.length : Nat) : Int))) = true) (o2 : 0 ≤ ((i : Nat) : Int) ∧ ((i : Nat) : Int) < ((l.length : Nat) : Int)) (o3 : ((rowBr l).drop (0 + (Int.toNat ((i : Nat) : Int)) * 2)).take 2 = [.int .i64 be.from_, .int .i64 be.per]) (o5 : PureF Try.prog (.clos 49 [] []) [.int .i64 be.from_, .int .i64 0, .int .i64 1000000000] (.bool (within be.from_ 0 1000000000))) (o6 : (!(within be.from_ 0 1000000000)) = true)
    (hr : AvLe (.int .i64 110) res) : G Try.prog E (f45K0 Try.prog) (f45S0 c l i ) :=
  end_stepL (n := 400) (evs := [.b true, .ld (.agg [.int .i64 be.from_, .int .i64 be.per]), .v (.bool (within be.from_ 0 1000000000)), .b true, .b true, .b true]) (obs := [(decide (((i : Nat) : Int) < ((l.length : Nat) : Int))) = true, 0 ≤ ((i : Nat) : Int) ∧ ((i : Nat) : Int) < ((l.length : Nat) : Int), ((rowBr l).drop (0 + (Int.toNat ((i : Nat) : Int)) * 2)).take 2 = [.int .i64 be.from_, .int .i64 be.per], 2 ≤ 2, PureF Try.prog (.clos 49 [] []) [.int .i64 be.from_, .int .i64 0, .int .i64 1000000000] (.bool (within be.from_ 0 1000000000)), (!(within be.from_ 0 1000000000)) = true, true = true, true = true]) hE Try.func45 mixed (by kernel_rfl) ⟨o0, o2, o3, (by decide), o5, o6, (rfl), (rfl), trivial⟩ hr
theorem p45_0_1 (c : Int) (l : (List Bra)) (i : Nat)  (be : Bra)  {E : Env} {res : AV} (hE : PureE Try.prog 45 res E) (o0 : (decide (((i : Nat) : Int) < ((l.length : Nat) : Int))) = true) (o2 : 0 ≤ ((i : Nat) : Int) ∧ ((i : Nat) : Int) < ((l.length : Nat) : Int)) (o3 : ((rowBr l).drop (0 + (Int.toNat ((i : Nat) : Int)) * 2)).take 2 = [.int .i64 be.from_, .int .i64 be.per]) (o5 : PureF Try.prog (.clos 49 [] []) [.int .i64 be.from_, .int .i64 0, .int .i64 1000000000] (.bool (within be.from_ 0 1000000000))) (o6 : (!(within be.from_ 0 1000000000)) = false) (o7 : PureF Try.prog (.clos 49 [] []) [.int .i64 be.per, .int .i64 0, .int .i64 100] (.bool (within be.per 0 100))) (o8 : (!(within be.per 0 100)) = true)
    (hr : AvLe (.int .i64 110) res) : G Try.prog E (f45K0 Try.prog) (f45S0 c l i ) :=
  end_stepL (n := 400) (evs := [.b true, .ld (.agg [.int .i64 be.from_, .int .i64 be.per]), .v (.bool (within be.from_ 0 1000000000)), .b false, .v (.bool (within be.per 0 100)), .b true, .b true]) (obs := [(decide (((i : Nat) : Int) < ((l.length : Nat) : Int))) = true, 0 ≤ ((i : Nat) : Int) ∧ ((i : Nat) : Int) < ((l.length : Nat) : Int), ((rowBr l).drop (0 + (Int.toNat ((i : Nat) : Int)) * 2)).take 2 = [.int .i64 be.from_, .int .i64 be.per], 2 ≤ 2, PureF Try.prog (.clos 49 [] []) [.int .i64 be.from_, .int .i64 0, .int .i64 1000000000] (.bool (within be.from_ 0 1000000000)), (!(within be.from_ 0 1000000000)) = false, PureF Try.prog (.clos 49 [] []) [.int .i64 be.per, .int .i64 0, .int .i64 100] (.bool (within be.per 0 100)), (!(within be.per 0 100)) = true, true = true]) hE Try.func45 mixed (by kernel_rfl) ⟨o0, o2, o3, (by decide), o5, o6, o7, o8, (rfl), trivial⟩ hr
theorem p45_0_2 (c : Int) (l : (List Bra)) (i : Nat)  (be : Bra) (be1 : Bra)  {E : Env} {res : AV} (hE : PureE Try.prog 45 res E) (o0 : (decide (((i : Nat) : Int) < ((l.length : Nat) : Int))) = true) (o2 : 0 ≤ ((i : Nat) : Int) ∧ ((i : Nat) : Int) < ((l.length : Nat) : Int)) (o3 : ((rowBr l).drop (0 + (Int.toNat ((i : Nat) : Int)) * 2)).take 2 = [.int .i64 be.from_, .int .i64 be.per]) (o5 : PureF Try.prog (.clos 49 [] []) [.int .i64 be.from_, .int .i64 0, .int .i64 1000000000] (.bool (within be.from_ 0 1000000000))) (o6 : (!(within be.from_ 0 1000000000)) = false) (o7 : PureF Try.prog (.clos 49 [] []) [.int .i64 be.per, .int .i64 0, .int .i64 100] (.bool (within be.per 0 100))) (o8 : (!(within be.per 0 100)) = false) (o9 : (decide (((i : Nat) : Int) > 0)) = true) (o10 : InR .i64 (((i : Nat) : Int) - 1)) (o12 : 0 ≤ (((i : Nat) : Int) - 1) ∧ (((i : Nat) : Int) - 1) < ((l.length : Nat) : Int)) (o13 : ((rowBr l).drop ((0 + (Int.toNat (((i : Nat) : Int) - 1)) * 2) + 0)).take 1 = [.int .i64 be1.from_]) (o14 : (decide (be.from_ ≤ be1.from_)) = true)
    (hr : AvLe (.int .i64 110) res) : G Try.prog E (f45K0 Try.prog) (f45S0 c l i ) :=
  end_stepL (n := 400) (evs := [.b true, .ld (.agg [.int .i64 be.from_, .int .i64 be.per]), .v (.bool (within be.from_ 0 1000000000)), .b false, .v (.bool (within be.per 0 100)), .b false, .b true, .auto, .ld (.int .i64 be1.from_), .b true]) (obs := [(decide (((i : Nat) : Int) < ((l.length : Nat) : Int))) = true, 0 ≤ ((i : Nat) : Int) ∧ ((i : Nat) : Int) < ((l.length : Nat) : Int), ((rowBr l).drop (0 + (Int.toNat ((i : Nat) : Int)) * 2)).take 2 = [.int .i64 be.from_, .int .i64 be.per], 2 ≤ 2, PureF Try.prog (.clos 49 [] []) [.int .i64 be.from_, .int .i64 0, .int .i64 1000000000] (.bool (within be.from_ 0 1000000000)), (!(within be.from_ 0 1000000000)) = false, PureF Try.prog (.clos 49 [] []) [.int .i64 be.per, .int .i64 0, .int .i64 100] (.bool (within be.per 0 100)), (!(within be.per 0 100)) = false, (decide (((i : Nat) : Int) > 0)) = true, InR .i64 (((i : Nat) : Int) - 1), 0 ≤ (((i : Nat) : Int) - 1) ∧ (((i : Nat) : Int) - 1) < ((l.length : Nat) : Int), ((rowBr l).drop ((0 + (Int.toNat (((i : Nat) : Int) - 1)) * 2) + 0)).take 1 = [.int .i64 be1.from_], (decide (be.from_ ≤ be1.from_)) = true]) hE Try.func45 mixed (by kernel_rfl) ⟨o0, o2, o3, (by decide), o5, o6, o7, o8, o9, o10, o12, o13, o14, trivial⟩ hr
theorem p45_0_3 (c : Int) (l : (List Bra)) (i : Nat)  (be : Bra) (be1 : Bra)  {E : Env} {rv : AV} (hE : PureE Try.prog 45 rv E) (o0 : (decide (((i : Nat) : Int) < ((l.length : Nat) : Int))) = true) (o2 : 0 ≤ ((i : Nat) : Int) ∧ ((i : Nat) : Int) < ((l.length : Nat) : Int)) (o3 : ((rowBr l).drop (0 + (Int.toNat ((i : Nat) : Int)) * 2)).take 2 = [.int .i64 be.from_, .int .i64 be.per]) (o5 : PureF Try.prog (.clos 49 [] []) [.int .i64 be.from_, .int .i64 0, .int .i64 1000000000] (.bool (within be.from_ 0 1000000000))) (o6 : (!(within be.from_ 0 1000000000)) = false) (o7 : PureF Try.prog (.clos 49 [] []) [.int .i64 be.per, .int .i64 0, .int .i64 100] (.bool (within be.per 0 100))) (o8 : (!(within be.per 0 100)) = false) (o9 : (decide (((i : Nat) : Int) > 0)) = true) (o10 : InR .i64 (((i : Nat) : Int) - 1)) (o12 : 0 ≤ (((i : Nat) : Int) - 1) ∧ (((i : Nat) : Int) - 1) < ((l.length : Nat) : Int)) (o13 : ((rowBr l).drop ((0 + (Int.toNat (((i : Nat) : Int) - 1)) * 2) + 0)).take 1 = [.int .i64 be1.from_]) (o14 : (decide (be.from_ ≤ be1.from_)) = false) (o15 : InR .i64 (((i : Nat) : Int) + 1))
    (hg : G Try.prog E (f45K0 Try.prog) ⟨[.junk, .rsl (rowBr l) 0 l.length, .junk, .junk, .junk, .junk, .junk, .junk, .junk, .junk, .junk, .junk, .junk, .junk, .junk, .junk, .junk, .junk, .junk, .junk, .junk, .rsl (rowBr l) 0 l.length, .int .i64 ((l.length : Nat) : Int), .int .i64 (((i : Nat) : Int) + 1), .junk, .junk, .junk, .junk, .junk, .junk, .junk, .junk, .junk, .junk, .junk, .junk, .junk, .junk, .junk, .junk, .junk, .junk, .junk, .junk, .junk, .junk, .junk, .junk, .junk, .junk, .junk, .junk, .junk, .junk], []⟩) : G Try.prog E (f45K0 Try.prog) (f45S0 c l i ) :=
  segC_step (n := 400) (ds := []) (cs := []) (live := [1, 21, 22, 23]) (m := 0) (evs := [.b true, .ld (.agg [.int .i64 be.from_, .int .i64 be.per]), .v (.bool (within be.from_ 0 1000000000)), .b false, .v (.bool (within be.per 0 100)), .b false, .b true, .auto, .ld (.int .i64 be1.from_), .b false, .stop]) (obs := [(decide (((i : Nat) : Int) < ((l.length : Nat) : Int))) = true, 0 ≤ ((i : Nat) : Int) ∧ ((i : Nat) : Int) < ((l.length : Nat) : Int), ((rowBr l).drop (0 + (Int.toNat ((i : Nat) : Int)) * 2)).take 2 = [.int .i64 be.from_, .int .i64 be.per], 2 ≤ 2, PureF Try.prog (.clos 49 [] []) [.int .i64 be.from_, .int .i64 0, .int .i64 1000000000] (.bool (within be.from_ 0 1000000000)), (!(within be.from_ 0 1000000000)) = false, PureF Try.prog (.clos 49 [] []) [.int .i64 be.per, .int .i64 0, .int .i64 100] (.bool (within be.per 0 100)), (!(within be.per 0 100)) = false, (decide (((i : Nat) : Int) > 0)) = true, InR .i64 (((i : Nat) : Int) - 1), 0 ≤ (((i : Nat) : Int) - 1) ∧ (((i : Nat) : Int) - 1) < ((l.length : Nat) : Int), ((rowBr l).drop ((0 + (Int.toNat (((i : Nat) : Int) - 1)) * 2) + 0)).take 1 = [.int .i64 be1.from_], (decide (be.from_ ≤ be1.from_)) = false, InR .i64 (((i : Nat) : Int) + 1)]) hE.2.1 (hE.nogh _) mixed (by kernel_rfl) ⟨o0, o2, o3, (by decide), o5, o6, o7, o8, o9, o10, o12, o13, o14, o15, trivial⟩ hg
theorem p45_0_4 (c : Int) (l : (List Bra)) (i : Nat)  (be : Bra)  {E : Env} {rv : AV} (hE : PureE Try.prog 45 rv E) (o0 : (decide (((i : Nat) : Int) < ((l.length : Nat) : Int))) = true) (o2 : 0 ≤ ((i : Nat) : Int) ∧ ((i : Nat) : Int) < ((l.length : Nat) : Int)) (o3 : ((rowBr l).drop (0 + (Int.toNat ((i : Nat) : Int)) * 2)).take 2 = [.int .i64 be.from_, .int .i64 be.per]) (o5 : PureF Try.prog (.clos 49 [] []) [.int .i64 be.from_, .int .i64 0, .int .i64 1000000000] (.bool (within be.from_ 0 1000000000))) (o6 : (!(within be.from_ 0 1000000000)) = false) (o7 : PureF Try.prog (.clos 49 [] []) [.int .i64 be.per, .int .i64 0, .int .i64 100] (.bool (within be.per 0 100))) (o8 : (!(within be.per 0 100)) = false) (o9 : (decide (((i : Nat) : Int) > 0)) = false) (o11 : InR .i64 (((i : Nat) : Int) + 1))
    (hg : G Try.prog E (f45K0 Try.prog) ⟨[.junk, .rsl (rowBr l) 0 l.length, .junk, .junk, .junk, .junk, .junk, .junk, .junk, .junk, .junk, .junk, .junk, .junk, .junk, .junk, .junk, .junk, .junk, .junk, .junk, .rsl (rowBr l) 0 l.length, .int .i64 ((l.length : Nat) : Int), .int .i64 (((i : Nat) : Int) + 1), .junk, .junk, .junk, .junk, .junk, .junk, .junk, .junk, .junk, .junk, .junk, .junk, .junk, .junk, .junk, .junk, .junk, .junk, .junk, .junk, .junk, .junk, .junk, .junk, .junk, .junk, .junk, .junk, .junk, .junk], []⟩) : G Try.prog E (f45K0 Try.prog) (f45S0 c l i ) :=
  segC_step (n := 400) (ds := []) (cs := []) (live := [1, 21, 22, 23]) (m := 0) (evs := [.b true, .ld (.agg [.int .i64 be.from_, .int .i64 be.per]), .v (.bool (within be.from_ 0 1000000000)), .b false, .v (.bool (within be.per 0 100)), .b false, .b false, .b false, .stop]) (obs := [(decide (((i : Nat) : Int) < ((l.length : Nat) : Int))) = true, 0 ≤ ((i : Nat) : Int) ∧ ((i : Nat) : Int) < ((l.length : Nat) : Int), ((rowBr l).drop (0 + (Int.toNat ((i : Nat) : Int)) * 2)).take 2 = [.int .i64 be.from_, .int .i64 be.per], 2 ≤ 2, PureF Try.prog (.clos 49 [] []) [.int .i64 be.from_, .int .i64 0, .int .i64 1000000000] (.bool (within be.from_ 0 1000000000)), (!(within be.from_ 0 1000000000)) = false, PureF Try.prog (.clos 49 [] []) [.int .i64 be.per, .int .i64 0, .int .i64 100] (.bool (within be.per 0 100)), (!(within be.per 0 100)) = false, (decide (((i : Nat) : Int) > 0)) = false, false = false, InR .i64 (((i : Nat) : Int) + 1)]) hE.2.1 (hE.nogh _) mixed (by kernel_rfl) ⟨o0, o2, o3, (by decide), o5, o6, o7, o8, o9, (rfl), o11, trivial⟩ hg
theorem p45_0_5 (c : Int) (l : (List Bra)) (i : Nat)   {E : Env} {res : AV} (hE : PureE Try.prog 45 res E) (o0 : (decide (((i : Nat) : Int) < ((l.length : Nat) : Int))) = false)
    (hr : AvLe (.int .i64 0) res) : G Try.prog E (f45K0 Try.prog) (f45S0 c l i ) :=
  end_stepL (n := 400) (evs := [.b false]) (obs := [(decide (((i : Nat) : Int) < ((l.length : Nat) : Int))) = false]) hE Try.func45 mixed (by kernel_rfl) ⟨o0, trivial⟩ hr
theorem f45W0 (c : Int) (l : (List Bra)) (i : Nat) {E : Env} {rv : Int} (hE : PureE Try.prog 45 (.int .i64 rv) E)
    (h : ((((i : Nat) : Int) < ((l.length : Nat) : Int) → (∃ be : Bra, l[i]? = some be ∧ (((within be.from_ 0 1000000000) = false → rv = 110) ∧ ((within be.from_ 0 1000000000) = true → (((within be.per 0 100) = false → rv = 110) ∧ ((within be.per 0 100) = true → ((((i : Nat) : Int) > 0 → ((-9223372036854775808 ≤ ((i : Nat) : Int) - 1 ∧ ((i : Nat) : Int) - 1 ≤ 9223372036854775807) ∧ (0 ≤ (((i : Nat) : Int) - 1) ∧ (∃ be1 : Bra, l[Int.toNat (((i : Nat) : Int) - 1)]? = some be1 ∧ ((be.from_ ≤ be1.from_ → rv = 110) ∧ (¬ (be.from_ ≤ be1.from_) → ((-9223372036854775808 ≤ ((i : Nat) : Int) + 1 ∧ ((i : Nat) : Int) + 1 ≤ 9223372036854775807) ∧ f45G0 E c l (i + 1)))))))) ∧ (¬ (((i : Nat) : Int) > 0) → ((-9223372036854775808 ≤ ((i : Nat) : Int) + 1 ∧ ((i : Nat) : Int) + 1 ≤ 9223372036854775807) ∧ f45G0 E c l (i + 1)))))))))) ∧ (¬ (((i : Nat) : Int) < ((l.length : Nat) : Int)) → rv = 0))) : f45G0 E c l i := by
  rcases Bool.eq_false_or_eq_true (decide (((i : Nat) : Int) < ((l.length : Nat) : Int))) with hc0 | hc0
  · have h := h.1 (of_decide_eq_true hc0)
    obtain ⟨be, h1, h⟩ := h
    rcases Bool.eq_false_or_eq_true (!(within be.from_ 0 1000000000)) with hc1 | hc1
    · have h := h.1 (bnT hc1)
      exact p45_0_0 c l i  be hE hc0 (idx_ok h1) (row_part cBr (s := 2) (k := 0) (m := 2) (fun _ => rfl) (by decide) h1) (pureF_of Try.func49 (by kernel_rfl) f49b (within_ok be.from_ 0 1000000000)) hc1 (AvLe.of_eq (by rw [h]; try rfl))
    · have h := h.2 (bnF hc1)
      rcases Bool.eq_false_or_eq_true (!(within be.per 0 100)) with hc2 | hc2
      · have h := h.1 (bnT hc2)
        exact p45_0_1 c l i  be hE hc0 (idx_ok h1) (row_part cBr (s := 2) (k := 0) (m := 2) (fun _ => rfl) (by decide) h1) (pureF_of Try.func49 (by kernel_rfl) f49b (within_ok be.from_ 0 1000000000)) hc1 (pureF_of Try.func49 (by kernel_rfl) f49b (within_ok be.per 0 100)) hc2 (AvLe.of_eq (by rw [h]; try rfl))
      · have h := h.2 (bnF hc2)
        rcases Bool.eq_false_or_eq_true (decide (((i : Nat) : Int) > 0)) with hc3 | hc3
        · have h := h.1 (of_decide_eq_true hc3)
          obtain ⟨q10_4, h⟩ := h
          obtain ⟨h3, h⟩ := h
          obtain ⟨be1, h2, h⟩ := h
          rcases Bool.eq_false_or_eq_true (decide (be.from_ ≤ be1.from_)) with hc4 | hc4
          · have h := h.1 (of_decide_eq_true hc4)
            exact p45_0_2 c l i  be be1 hE hc0 (idx_ok h1) (row_part cBr (s := 2) (k := 0) (m := 2) (fun _ => rfl) (by decide) h1) (pureF_of Try.func49 (by kernel_rfl) f49b (within_ok be.from_ 0 1000000000)) hc1 (pureF_of Try.func49 (by kernel_rfl) f49b (within_ok be.per 0 100)) hc2 hc3 q10_4 (idx_ok' h3 h2) (row_part cBr (s := 2) (k := 0) (m := 1) (fun _ => rfl) (by decide) h2) hc4 (AvLe.of_eq (by rw [h]; try rfl))
          · have h := h.2 (of_decide_eq_false hc4)
            obtain ⟨q15_5, h⟩ := h
            exact p45_0_3 c l i  be be1 hE hc0 (idx_ok h1) (row_part cBr (s := 2) (k := 0) (m := 2) (fun _ => rfl) (by decide) h1) (pureF_of Try.func49 (by kernel_rfl) f49b (within_ok be.from_ 0 1000000000)) hc1 (pureF_of Try.func49 (by kernel_rfl) f49b (within_ok be.per 0 100)) hc2 hc3 q10_4 (idx_ok' h3 h2) (row_part cBr (s := 2) (k := 0) (m := 1) (fun _ => rfl) (by decide) h2) hc4 q15_5 h
        · have h := h.2 (of_decide_eq_false hc3)
          obtain ⟨q11_4, h⟩ := h
          exact p45_0_4 c l i  be hE hc0 (idx_ok h1) (row_part cBr (s := 2) (k := 0) (m := 2) (fun _ => rfl) (by decide) h1) (pureF_of Try.func49 (by kernel_rfl) f49b (within_ok be.from_ 0 1000000000)) hc1 (pureF_of Try.func49 (by kernel_rfl) f49b (within_ok be.per 0 100)) hc2 hc3 q11_4 h
  · have h := h.2 (of_decide_eq_false hc0)
    exact p45_0_5 c l i   hE hc0 (AvLe.of_eq (by rw [h]; try rfl))
theorem f46b : Try.f46.body = some (bodyAt Try.prog 46) := by kernel_rfl
def f46K0 (P : Program) : List Item := kAt 400 [.code (bodyAt P 46)] [.stop]
def f46S0 (c : Int) (l : (List Bra)) (hundredths : Int) (i : Nat)  : St := ⟨[.int .i64 c, .rsl (rowBr l) 0 l.length, .junk, .junk, .int .i64 hundredths, .junk, .junk, .junk, .rsl (rowBr l) 0 l.length, .int .i64 ((l.length : Nat) : Int), .int .i64 ((i : Nat) : Int), .junk, .junk, .junk, .junk, .junk, .junk, .junk, .junk, .junk, .junk, .junk, .junk, .junk, .junk, .junk, .junk, .junk, .junk, .junk, .junk, .junk, .junk, .junk, .junk, .junk, .junk, .junk, .junk, .junk, .junk, .junk], []⟩
def f46G0 (E : Env) (c : Int) (l : (List Bra)) (hundredths : Int) (i : Nat) : Prop := G Try.prog E (f46K0 Try.prog) (f46S0 c l hundredths i )
theorem p46_start_0 (c : Int) (l : (List Bra))   {E : Env} {rv : AV} (hE : PureE Try.prog 46 rv E) 
    (hg : G Try.prog E (f46K0 Try.prog) ⟨[.int .i64 c, .rsl (rowBr l) 0 l.length, .junk, .junk, .int .i64 0, .junk, .junk, .junk, .rsl (rowBr l) 0 l.length, .int .i64 ((l.length : Nat) : Int), .int .i64 0, .junk, .junk, .junk, .junk, .junk, .junk, .junk, .junk, .junk, .junk, .junk, .junk, .junk, .junk, .junk, .junk, .junk, .junk, .junk, .junk, .junk, .junk, .junk, .junk, .junk, .junk, .junk, .junk, .junk, .junk, .junk], []⟩) : G Try.prog E [.code (bodyAt Try.prog 46)] ⟨[.int .i64 c, .rsl (rowBr l) 0 l.length] ++ unds (Try.f46.ntmps - 2), []⟩ :=
  segC_step (n := 400) (ds := []) (cs := []) (live := [0, 1, 4, 8, 9, 10]) (m := 0) (evs := [.stop]) (obs := []) hE.2.1 (hE.nogh _) mixed (by kernel_rfl) trivial hg
theorem f46W (c : Int) (l : (List Bra)) {E : Env} {rv : Int} (hE : PureE Try.prog 46 (.int .i64 rv) E)
    (h : f46G0 E c l 0 0) : G Try.prog E [.code (bodyAt Try.prog 46)] ⟨[.int .i64 c, .rsl (rowBr l) 0 l.length] ++ unds (Try.f46.ntmps - 2), []⟩ := by
  exact p46_start_0 c l    hE  h
theorem p46_0_0 (c : Int) (l : (List Bra)) (hundredths : Int) (i : Nat)  (be : Bra) (be1 : Bra)  {E : Env} {rv : AV} (hE : PureE Try.prog 46 rv E) (o0 : (decide (((i : Nat) : Int) < ((l.length : Nat) : Int))) = true) (o2 : 0 ≤ ((i : Nat) : Int) ∧ ((i : Nat) : Int) < ((l.length : Nat) : Int)) (o3 : ((rowBr l).drop (0 + (Int.toNat ((i : Nat) : Int)) * 2)).take 2 = [.int .i64 be.from_, .int .i64 be.per]) (o5 : InR .i64 (((i : Nat) : Int) + 1)) (o6 : (decide ((((i : Nat) : Int) + 1) < ((l.length : Nat) : Int))) = true) (o7 : InR .i64 (((i : Nat) : Int) + 1)) (o9 : 0 ≤ (((i : Nat) : Int) + 1) ∧ (((i : Nat) : Int) + 1) < ((l.length : Nat) : Int)) (o10 : ((rowBr l).drop ((0 + (Int.toNat (((i : Nat) : Int) + 1)) * 2) + 0)).take 1 = [.int .i64 be1.from_]) (o11 : InR .i64 ((iMin c be1.from_) - be.from_)) (o12 : InR .i64 ((iMax 0 ((iMin c be1.from_) - be.from_)) * be.per)) (o13 : InR .i64 (hundredths + ((iMax 0 ((iMin c be1.from_) - be.from_)) * be.per))) (o14 : InR .i64 (((i : Nat) : Int) + 1))
    (hg : G Try.prog E (f46K0 Try.prog) ⟨[.int .i64 c, .rsl (rowBr l) 0 l.length, .junk, .junk, .int .i64 (hundredths + ((iMax 0 ((iMin c be1.from_) - be.from_)) * be.per)), .junk, .junk, .junk, .rsl (rowBr l) 0 l.length, .int .i64 ((l.length : Nat) : Int), .int .i64 (((i : Nat) : Int) + 1), .junk, .junk, .junk, .junk, .junk, .junk, .junk, .junk, .junk, .junk, .junk, .junk, .junk, .junk, .junk, .junk, .junk, .junk, .junk, .junk, .junk, .junk, .junk, .junk, .junk, .junk, .junk, .junk, .junk, .junk, .junk], []⟩) : G Try.prog E (f46K0 Try.prog) (f46S0 c l hundredths i ) :=
  segC_step (n := 400) (ds := []) (cs := []) (live := [0, 1, 4, 8, 9, 10]) (m := 0) (evs := [.b true, .ld (.agg [.int .i64 be.from_, .int .i64 be.per]), .b true, .ld (.int .i64 be1.from_), .stop]) (obs := [(decide (((i : Nat) : Int) < ((l.length : Nat) : Int))) = true, 0 ≤ ((i : Nat) : Int) ∧ ((i : Nat) : Int) < ((l.length : Nat) : Int), ((rowBr l).drop (0 + (Int.toNat ((i : Nat) : Int)) * 2)).take 2 = [.int .i64 be.from_, .int .i64 be.per], 2 ≤ 2, InR .i64 (((i : Nat) : Int) + 1), (decide ((((i : Nat) : Int) + 1) < ((l.length : Nat) : Int))) = true, InR .i64 (((i : Nat) : Int) + 1), 0 ≤ (((i : Nat) : Int) + 1) ∧ (((i : Nat) : Int) + 1) < ((l.length : Nat) : Int), ((rowBr l).drop ((0 + (Int.toNat (((i : Nat) : Int) + 1)) * 2) + 0)).take 1 = [.int .i64 be1.from_], InR .i64 ((iMin c be1.from_) - be.from_), InR .i64 ((iMax 0 ((iMin c be1.from_) - be.from_)) * be.per), InR .i64 (hundredths + ((iMax 0 ((iMin c be1.from_) - be.from_)) * be.per)), InR .i64 (((i : Nat) : Int) + 1)]) hE.2.1 (hE.nogh _) mixed (by kernel_rfl) ⟨o0, o2, o3, (by decide), o5, o6, o7, o9, o10, o11, o12, o13, o14, trivial⟩ hg
theorem p46_0_1 (c : Int) (l : (List Bra)) (hundredths : Int) (i : Nat)  (be : Bra)  {E : Env} {rv : AV} (hE : PureE Try.prog 46 rv E) (o0 : (decide (((i : Nat) : Int) < ((l.length : Nat) : Int))) = true) (o2 : 0 ≤ ((i : Nat) : Int) ∧ ((i : Nat) : Int) < ((l.length : Nat) : Int)) (o3 : ((rowBr l).drop (0 + (Int.toNat ((i : Nat) : Int)) * 2)).take 2 = [.int .i64 be.from_, .int .i64 be.per]) (o5 : InR .i64 (((i : Nat) : Int) + 1)) (o6 : (decide ((((i : Nat) : Int) + 1) < ((l.length : Nat) : Int))) = false) (o7 : InR .i64 (c - be.from_)) (o8 : InR .i64 ((iMax 0 (c - be.from_)) * be.per)) (o9 : InR .i64 (hundredths + ((iMax 0 (c - be.from_)) * be.per))) (o10 : InR .i64 (((i : Nat) : Int) + 1))
    (hg : G Try.prog E (f46K0 Try.prog) ⟨[.int .i64 c, .rsl (rowBr l) 0 l.length, .junk, .junk, .int .i64 (hundredths + ((iMax 0 (c - be.from_)) * be.per)), .junk, .junk, .junk, .rsl (rowBr l) 0 l.length, .int .i64 ((l.length : Nat) : Int), .int .i64 (((i : Nat) : Int) + 1), .junk, .junk, .junk, .junk, .junk, .junk, .junk, .junk, .junk, .junk, .junk, .junk, .junk, .junk, .junk, .junk, .junk, .junk, .junk, .junk, .junk, .junk, .junk, .junk, .junk, .junk, .junk, .junk, .junk, .junk, .junk], []⟩) : G Try.prog E (f46K0 Try.prog) (f46S0 c l hundredths i ) :=
  segC_step (n := 400) (ds := []) (cs := []) (live := [0, 1, 4, 8, 9, 10]) (m := 0) (evs := [.b true, .ld (.agg [.int .i64 be.from_, .int .i64 be.per]), .b false, .stop]) (obs := [(decide (((i : Nat) : Int) < ((l.length : Nat) : Int))) = true, 0 ≤ ((i : Nat) : Int) ∧ ((i : Nat) : Int) < ((l.length : Nat) : Int), ((rowBr l).drop (0 + (Int.toNat ((i : Nat) : Int)) * 2)).take 2 = [.int .i64 be.from_, .int .i64 be.per], 2 ≤ 2, InR .i64 (((i : Nat) : Int) + 1), (decide ((((i : Nat) : Int) + 1) < ((l.length : Nat) : Int))) = false, InR .i64 (c - be.from_), InR .i64 ((iMax 0 (c - be.from_)) * be.per), InR .i64 (hundredths + ((iMax 0 (c - be.from_)) * be.per)), InR .i64 (((i : Nat) : Int) + 1)]) hE.2.1 (hE.nogh _) mixed (by kernel_rfl) ⟨o0, o2, o3, (by decide), o5, o6, o7, o8, o9, o10, trivial⟩ hg
theorem p46_0_2 (c : Int) (l : (List Bra)) (hundredths : Int) (i : Nat)   {E : Env} {res : AV} (hE : PureE Try.prog 46 res E) (o0 : (decide (((i : Nat) : Int) < ((l.length : Nat) : Int))) = false) (o1 : InR .i64 (Int.tdiv hundredths 100))
    (hr : AvLe (.int .i64 (Int.tdiv hundredths 100)) res) : G Try.prog E (f46K0 Try.prog) (f46S0 c l hundredths i ) :=
  end_stepL (n := 400) (evs := [.b false]) (obs := [(decide (((i : Nat) : Int) < ((l.length : Nat) : Int))) = false, InR .i64 (Int.tdiv hundredths 100), (100 : Int) ≠ 0]) hE Try.func46 mixed (by kernel_rfl) ⟨o0, o1, (by decide), trivial⟩ hr
theorem f46W0 (c : Int) (l : (List Bra)) (hundredths : Int) (i : Nat) {E : Env} {rv : Int} (hE : PureE Try.prog 46 (.int .i64 rv) E)
    (h : ((((i : Nat) : Int) < ((l.length : Nat) : Int) → (∃ be : Bra, l[i]? = some be ∧ ((-9223372036854775808 ≤ ((i : Nat) : Int) + 1 ∧ ((i : Nat) : Int) + 1 ≤ 9223372036854775807) ∧ (((((i : Nat) : Int) + 1) < ((l.length : Nat) : Int) → ((-9223372036854775808 ≤ ((i : Nat) : Int) + 1 ∧ ((i : Nat) : Int) + 1 ≤ 9223372036854775807) ∧ (∃ be1 : Bra, l[i + 1]? = some be1 ∧ ((-9223372036854775808 ≤ (iMin c be1.from_) - be.from_ ∧ (iMin c be1.from_) - be.from_ ≤ 9223372036854775807) ∧ ((-9223372036854775808 ≤ (iMax 0 ((iMin c be1.from_) - be.from_)) * be.per ∧ (iMax 0 ((iMin c be1.from_) - be.from_)) * be.per ≤ 9223372036854775807) ∧ ((-9223372036854775808 ≤ hundredths + ((iMax 0 ((iMin c be1.from_) - be.from_)) * be.per) ∧ hundredths + ((iMax 0 ((iMin c be1.from_) - be.from_)) * be.per) ≤ 9223372036854775807) ∧ ((-9223372036854775808 ≤ ((i : Nat) : Int) + 1 ∧ ((i : Nat) : Int) + 1 ≤ 9223372036854775807) ∧ f46G0 E c l (hundredths + ((iMax 0 ((iMin c be1.from_) - be.from_)) * be.per)) (i + 1)))))))) ∧ (¬ ((((i : Nat) : Int) + 1) < ((l.length : Nat) : Int)) → ((-9223372036854775808 ≤ c - be.from_ ∧ c - be.from_ ≤ 9223372036854775807) ∧ ((-9223372036854775808 ≤ (iMax 0 (c - be.from_)) * be.per ∧ (iMax 0 (c - be.from_)) * be.per ≤ 9223372036854775807) ∧ ((-9223372036854775808 ≤ hundredths + ((iMax 0 (c - be.from_)) * be.per) ∧ hundredths + ((iMax 0 (c - be.from_)) * be.per) ≤ 9223372036854775807) ∧ ((-9223372036854775808 ≤ ((i : Nat) : Int) + 1 ∧ ((i : Nat) : Int) + 1 ≤ 9223372036854775807) ∧ f46G0 E c l (hundredths + ((iMax 0 (c - be.from_)) * be.per)) (i + 1)))))))))) ∧ (¬ (((i : Nat) : Int) < ((l.length : Nat) : Int)) → ((-9223372036854775808 ≤ Int.tdiv hundredths 100 ∧ Int.tdiv hundredths 100 ≤ 9223372036854775807) ∧ rv = (Int.tdiv hundredths 100))))) : f46G0 E c l hundredths i := by
  rcases Bool.eq_false_or_eq_true (decide (((i : Nat) : Int) < ((l.length : Nat) : Int))) with hc0 | hc0
  · have h := h.1 (of_decide_eq_true hc0)
    obtain ⟨be, h1, h⟩ := h
    obtain ⟨q5_1, h⟩ := h
    rcases Bool.eq_false_or_eq_true (decide ((((i : Nat) : Int) + 1) < ((l.length : Nat) : Int))) with hc1 | hc1
    · have h := h.1 (of_decide_eq_true hc1)
      obtain ⟨q7_2, h⟩ := h
      obtain ⟨be1, h2, h⟩ := h
      obtain ⟨q11_2, h⟩ := h
      obtain ⟨q12_2, h⟩ := h
      obtain ⟨q13_2, h⟩ := h
      obtain ⟨q14_2, h⟩ := h
      exact p46_0_0 c l hundredths i  be be1 hE hc0 (idx_ok h1) (row_part cBr (s := 2) (k := 0) (m := 2) (fun _ => rfl) (by decide) h1) q5_1 hc1 q7_2 (idx_ok h2) (row_part cBr (s := 2) (k := 0) (m := 1) (fun _ => rfl) (by decide) h2) q11_2 q12_2 q13_2 q14_2 h
    · have h := h.2 (of_decide_eq_false hc1)
      obtain ⟨q7_2, h⟩ := h
      obtain ⟨q8_2, h⟩ := h
      obtain ⟨q9_2, h⟩ := h
      obtain ⟨q10_2, h⟩ := h
      exact p46_0_1 c l hundredths i  be hE hc0 (idx_ok h1) (row_part cBr (s := 2) (k := 0) (m := 2) (fun _ => rfl) (by decide) h1) q5_1 hc1 q7_2 q8_2 q9_2 q10_2 h
  · have h := h.2 (of_decide_eq_false hc0)
    obtain ⟨q1_1, h⟩ := h
    exact p46_0_2 c l hundredths i   hE hc0 q1_1 (AvLe.of_eq (by rw [h]; try rfl))
def bAt (l : List Bra) (i : Nat) : Bra := l.getD i ⟨0, 0⟩
def badAt (l : List Bra) (i : Nat) : Bool := !within (bAt l i).from_ 0 1000000000 || (!within (bAt l i).per 0 100 || (decide (i > 0) && decide ((bAt l i).from_ ≤ (bAt l (i - 1)).from_)))
def chkFrom (l : List Bra) : Nat → Nat → Bool
  | 0, _ => true
  | d + 1, i => !badAt l i && chkFrom l d (i + 1)
def brOk (l : List Bra) : Bool := within l.length 1 8 && (decide ((bAt l 0).from_ = 0) && chkFrom l l.length 0)
def checkTaxK (c : Int) (l : List Bra) : Int := if amount c = false then 1 else if brOk l = false then 110 else 0

theorem bAt_get {l : List Bra} {i : Nat} (h : i < l.length) : l[i]? = some (bAt l i) := by simp [bAt, List.getD, h]

theorem checkTax_ok (c : Int) (l : List Bra) (h : l.length ≤ 9223372036854775807) : Pure Try.prog 45 [.int .i64 c, .rsl (rowBr l) 0 l.length] (.int .i64 (checkTaxK c l)) := pure_of Try.func45 f45b fun E hE => by
  refine f45W c l (rv := checkTaxK c l) hE ⟨fun h1 => by simp [checkTaxK, h1], fun h1 => ⟨fun h2 => by simp [checkTaxK, brOk, h1, h2], fun h2 => ?_⟩⟩
  have hl := within_iff.1 h2
  refine ⟨bAt l 0, bAt_get (by omega), fun h3 => by simp [checkTaxK, brOk, h1, h2, h3], fun h3 => ?_⟩
  have hr : checkTaxK c l = if chkFrom l l.length 0 = false then 110 else 0 := by simp [checkTaxK, brOk, h1, h2, h3]
  have key : ∀ (d i : Nat), i + d = l.length → (checkTaxK c l = if chkFrom l d i = false then 110 else 0) → f45G0 E c l i := by
    intro d
    induction d with
    | zero => intro i hd hr; exact f45W0 c l i (rv := checkTaxK c l) hE ⟨fun h => by omega, fun _ => by rw [hr]; rfl⟩
    | succ d ih =>
      intro i hd hr
      have hi := bAt_get (l := l) (i := i) (by omega)
      simp only [chkFrom] at hr
      refine f45W0 c l i (rv := checkTaxK c l) hE ⟨fun _ => ⟨_, hi, fun h4 => by rw [hr]; simp [badAt, h4], fun h4 => ⟨fun h5 => by rw [hr]; simp [badAt, h4, h5], fun h5 => ⟨fun h6 => ⟨by omega, by omega, bAt l (i - 1), ?_, fun h7 => by rw [hr]; simp [badAt, h4, h5, h7, show 0 < i by omega], fun h7 => ⟨by omega, ih (i + 1) (by omega) (by rw [hr]; simp [badAt, h4, h5, h7])⟩⟩, fun h6 => ⟨by omega, ih (i + 1) (by omega) (by rw [hr]; simp [badAt, h4, h5, show ¬ 0 < i by omega])⟩⟩⟩⟩, fun h => by omega⟩
      rw [show Int.toNat (((i : Nat) : Int) - 1) = i - 1 by omega]; exact bAt_get (by omega)
  exact key l.length 0 (by omega) hr

/-- Brackets as they should be. -/
structure BrOk (l : List Bra) : Prop where
  len1 : 1 ≤ l.length
  len : l.length ≤ 8
  f0 : (bAt l 0).from_ = 0
  from_ : ∀ i, i < l.length → 0 ≤ (bAt l i).from_ ∧ (bAt l i).from_ ≤ 1000000000
  per : ∀ i, i < l.length → 0 ≤ (bAt l i).per ∧ (bAt l i).per ≤ 100
  inc : ∀ i, i + 1 < l.length → (bAt l i).from_ < (bAt l (i + 1)).from_

theorem chk_at {l : List Bra} : ∀ {d i : Nat}, chkFrom l d i = true → ∀ j, i ≤ j → j < i + d → badAt l j = false
  | 0, i, _, j, h1, h2 => by omega
  | d + 1, i, h, j, h1, h2 => by
    simp only [chkFrom, Bool.and_eq_true, Bool.not_eq_true'] at h
    rcases Nat.lt_or_ge i j with h3 | h3
    · exact chk_at h.2 j (by omega) (by omega)
    · have : j = i := by omega
      rw [this]; exact h.1

theorem br_of {l : List Bra} (h : brOk l = true) : BrOk l := by
  simp only [brOk, Bool.and_eq_true, decide_eq_true_eq] at h
  obtain ⟨h1, h2, h3⟩ := h
  have h1 := within_iff.1 h1
  have hb : ∀ i, i < l.length → badAt l i = false := fun i hi => chk_at h3 i (by omega) (by omega)
  simp only [badAt, Bool.or_eq_false_iff, Bool.not_eq_false', Bool.and_eq_false_iff, decide_eq_false_iff_not] at hb
  refine ⟨by omega, by omega, h2, fun i hi => within_iff.1 (hb i hi).1, fun i hi => within_iff.1 (hb i hi).2.1, fun i hi => ?_⟩
  rcases (hb (i + 1) hi).2.2 with h4 | h4
  · omega
  · rw [Nat.add_sub_cancel] at h4; omega

/-- The hundredths of cents over the brackets. -/
def hunL (m : Int) : List Bra → Int
  | [] => 0
  | [b] => iMax 0 (m - b.from_) * b.per
  | b :: b' :: r => iMax 0 (iMin m b'.from_ - b.from_) * b.per + hunL m (b' :: r)
def taxI (m : Int) (l : List Bra) : Int := Int.tdiv (hunL m l) 100

/-- Sorted, in range. -/
def BrS (l : List Bra) : Prop := (∀ b ∈ l, 0 ≤ b.from_ ∧ b.from_ ≤ 1000000000 ∧ 0 ≤ b.per ∧ b.per ≤ 100) ∧ l.Pairwise fun a b => a.from_ < b.from_

theorem BrOk.sorted {l : List Bra} (h : BrOk l) : BrS l := by
  refine ⟨fun b hb => ?_, ?_⟩
  · obtain ⟨i, hi⟩ := List.getElem?_of_mem hb
    have hlt := (List.getElem?_eq_some_iff.1 hi).1
    rw [bAt_get hlt] at hi; cases hi
    have := h.from_ i hlt; have := h.per i hlt; omega
  · rw [List.pairwise_iff_getElem]
    have key : ∀ d i, i + d + 1 < l.length → (bAt l i).from_ < (bAt l (i + d + 1)).from_ := by
      intro d
      induction d with
      | zero => intro i hi; exact h.inc i hi
      | succ d ih => intro i hi; have h1 := ih i (by omega); have h2 := h.inc (i + d + 1) (by omega); simp only [Nat.add_assoc] at *; omega
    intro i j hi hj hij
    have e1 : l[i] = bAt l i := by have := bAt_get hi; rw [List.getElem?_eq_getElem hi] at this; exact Option.some.inj this
    have e2 : l[j] = bAt l j := by have := bAt_get hj; rw [List.getElem?_eq_getElem hj] at this; exact Option.some.inj this
    rw [e1, e2]
    have := key (j - i - 1) i (by omega)
    rw [show i + (j - i - 1) + 1 = j by omega] at this
    exact this

theorem part_bd {x p : Int} (hx : x ≤ 1000000001) (hp : 0 ≤ p ∧ p ≤ 100) : 0 ≤ iMax 0 x * p ∧ iMax 0 x * p ≤ 100000000100 := by
  have h0 : 0 ≤ iMax 0 x ∧ iMax 0 x ≤ 1000000001 := by simp only [iMax]; split <;> omega
  have h1 := Int.mul_nonneg h0.1 hp.1
  have h2 : iMax 0 x * p ≤ 1000000001 * 100 := Int.mul_le_mul h0.2 hp.2 hp.1 (by omega)
  omega

theorem hun_bd {m : Int} (hm : m ≤ 1000000001) : ∀ {l : List Bra}, BrS l → 0 ≤ hunL m l ∧ hunL m l ≤ 100000000100 * (l.length : Int)
  | [], _ => by simp [hunL]
  | [b], h => by
    have := h.1 b (by simp)
    have := part_bd (x := m - b.from_) (p := b.per) (by omega) (by omega)
    simp only [hunL, List.length_cons, List.length_nil]; omega
  | b :: b' :: r, h => by
    have h1 := h.1 b (by simp)
    have h2 : iMin m b'.from_ ≤ m := by simp only [iMin]; split <;> omega
    have h3 := part_bd (x := iMin m b'.from_ - b.from_) (p := b.per) (by omega) (by omega)
    have h4 := hun_bd hm (l := b' :: r) ⟨fun x hx => h.1 x (by simp [hx]), (List.pairwise_cons.1 h.2).2⟩
    simp only [hunL, List.length_cons] at *; omega

theorem tax_bd {m : Int} {l : List Bra} (hm : m ≤ 1000000001) (h : BrOk l) : 0 ≤ taxI m l ∧ taxI m l ≤ 1000000000000 ∧ hunL m l ≤ 1000000000000 ∧ 0 ≤ hunL m l := by
  have h1 := hun_bd hm h.sorted
  have := h.len
  have e : taxI m l = hunL m l / 100 := Int.tdiv_eq_ediv_of_nonneg h1.1
  rw [e]
  have : 100000000100 * (l.length : Int) ≤ 1000000000000 := by omega
  omega

theorem drop_hun {m : Int} {l : List Bra} {i : Nat} (h : i < l.length) :
    hunL m (l.drop i) = (if i + 1 < l.length then iMax 0 (iMin m (bAt l (i + 1)).from_ - (bAt l i).from_) * (bAt l i).per else iMax 0 (m - (bAt l i).from_) * (bAt l i).per) + hunL m (l.drop (i + 1)) := by
  have e1 : l[i] = bAt l i := by have := bAt_get h; rw [List.getElem?_eq_getElem h] at this; exact Option.some.inj this
  rw [List.drop_eq_getElem_cons h, e1]
  split
  · rename_i h2
    have e2 : l[i + 1] = bAt l (i + 1) := by have := bAt_get h2; rw [List.getElem?_eq_getElem h2] at this; exact Option.some.inj this
    rw [List.drop_eq_getElem_cons h2, e2]; rfl
  · rename_i h2
    rw [List.drop_eq_nil_of_le (by omega)]
    simp [hunL]

theorem BrS.drop {l : List Bra} (h : BrS l) (i : Nat) : BrS (l.drop i) := ⟨fun b hb => h.1 b (List.mem_of_mem_drop hb), h.2.sublist (List.drop_sublist _ _)⟩

theorem tax_ok (m : Int) (l : List Bra) (h : (0 ≤ m ∧ m ≤ 1000000000) ∧ brOk l = true) : Pure Try.prog 46 [.int .i64 m, .rsl (rowBr l) 0 l.length] (.int .i64 (taxI m l)) := pure_of Try.func46 f46b fun E hE => by
  obtain ⟨hm, hb⟩ := h
  have hb := br_of hb
  have hlen := hb.len
  obtain ⟨t1, t2, t3, t4⟩ := tax_bd (m := m) (by omega) hb
  have key : ∀ (d i : Nat) (hu : Int), i + d = l.length → 0 ≤ hu → hu + hunL m (l.drop i) = hunL m l → f46G0 E m l hu i := by
    intro d
    induction d with
    | zero =>
      intro i hu hd h0 he
      rw [List.drop_eq_nil_of_le (by omega)] at he
      simp only [hunL] at he
      have : hu = hunL m l := by omega
      subst this
      have e : Int.tdiv (hunL m l) 100 = taxI m l := rfl
      exact f46W0 m l _ i (rv := taxI m l) hE ⟨fun h => by omega, fun _ => ⟨by rw [e]; omega, e.symm⟩⟩
    | succ d ih =>
      intro i hu hd h0 he
      have hi := bAt_get (l := l) (i := i) (by omega)
      have hf := hb.from_ i (by omega)
      have hp := hb.per i (by omega)
      have hr := hun_bd (m := m) (by omega) (hb.sorted.drop (i + 1))
      rw [drop_hun (by omega)] at he
      refine f46W0 m l _ i (rv := taxI m l) hE ⟨fun _ => ⟨_, hi, by omega, fun h2 => ?_, fun h2 => ?_⟩, fun h => by omega⟩
      · rw [if_pos (by omega)] at he
        have hm2 : iMin m (bAt l (i + 1)).from_ ≤ m ∧ 0 ≤ iMin m (bAt l (i + 1)).from_ := by have := hb.from_ (i + 1) (by omega); simp only [iMin]; split <;> omega
        have hq := part_bd (x := iMin m (bAt l (i + 1)).from_ - (bAt l i).from_) (p := (bAt l i).per) (by omega) hp
        exact ⟨by omega, _, bAt_get (by omega), by omega, by omega, by omega, by omega, ih (i + 1) _ (by omega) (by omega) (by omega)⟩
      · rw [if_neg (by omega)] at he
        have hq := part_bd (x := m - (bAt l i).from_) (p := (bAt l i).per) (by omega) hp
        exact ⟨by omega, by omega, by omega, by omega, ih (i + 1) _ (by omega) (by omega) (by omega)⟩
  exact f46W m l hE (key l.length 0 0 (by omega) (by omega) (by simp))

end Go.Proofs.Ytmdbebbibecidaa

namespace Go.Proofs.Ytmdbebbibecidaa
open Go Ax
open Go.Proofs
theorem f24b : Try.f24.body = some (bodyAt Try.prog 24) := by kernel_rfl
def f24K0 (P : Program) : List Item := kAt 400 [.code (bodyAt P 24)] [.b false, .stop]
def f24S0 (c : Int) (l : (List Bra)) (high : Int) (low : Int)  : St := ⟨[.int .i64 c, .rsl (rowBr l) 0 l.length, .junk, .junk, .junk, .junk, .junk, .int .i64 low, .int .i64 high, .junk, .junk, .junk, .junk, .junk, .junk, .junk, .junk, .junk, .junk, .junk, .junk, .junk, .junk, .junk, .junk, .junk, .junk, .junk, .junk, .junk, .junk, .junk, .junk, .junk, .junk, .junk], []⟩
def f24G0 (E : Env) (c : Int) (l : (List Bra)) (high : Int) (low : Int) : Prop := G Try.prog E (f24K0 Try.prog) (f24S0 c l high low )
theorem p24_start_0 (c : Int) (l : (List Bra))   {E : Env} {res : AV} (hE : PureE Try.prog 24 res E) (o0 : PureF Try.prog (.clos 45 [] []) [.int .i64 c, .rsl (rowBr l) 0 l.length] (.int .i64 (checkTaxK c l))) (o1 : ((checkTaxK c l) != 0) = true)
    (hr : AvLe (.tup [.int .i64 0, .int .i64 (checkTaxK c l)]) res) : G Try.prog E [.code (bodyAt Try.prog 24)] ⟨[.int .i64 c, .rsl (rowBr l) 0 l.length] ++ unds (Try.f24.ntmps - 2), []⟩ :=
  end_stepL (n := 400) (evs := [.v (.int .i64 (checkTaxK c l)), .b true]) (obs := [PureF Try.prog (.clos 45 [] []) [.int .i64 c, .rsl (rowBr l) 0 l.length] (.int .i64 (checkTaxK c l)), ((checkTaxK c l) != 0) = true]) hE Try.func24 mixed (by kernel_rfl) ⟨o0, o1, trivial⟩ hr
theorem p24_start_1 (c : Int) (l : (List Bra))   {E : Env} {rv : AV} (hE : PureE Try.prog 24 rv E) (o0 : PureF Try.prog (.clos 45 [] []) [.int .i64 c, .rsl (rowBr l) 0 l.length] (.int .i64 (checkTaxK c l))) (o1 : ((checkTaxK c l) != 0) = false)
    (hg : G Try.prog E (f24K0 Try.prog) ⟨[.int .i64 c, .rsl (rowBr l) 0 l.length, .junk, .junk, .junk, .junk, .junk, .int .i64 0, .int .i64 1000000001, .junk, .junk, .junk, .junk, .junk, .junk, .junk, .junk, .junk, .junk, .junk, .junk, .junk, .junk, .junk, .junk, .junk, .junk, .junk, .junk, .junk, .junk, .junk, .junk, .junk, .junk, .junk], []⟩) : G Try.prog E [.code (bodyAt Try.prog 24)] ⟨[.int .i64 c, .rsl (rowBr l) 0 l.length] ++ unds (Try.f24.ntmps - 2), []⟩ :=
  segC_step (n := 400) (ds := []) (cs := []) (live := [0, 1, 7, 8]) (m := 0) (evs := [.v (.int .i64 (checkTaxK c l)), .b false, .stop]) (obs := [PureF Try.prog (.clos 45 [] []) [.int .i64 c, .rsl (rowBr l) 0 l.length] (.int .i64 (checkTaxK c l)), ((checkTaxK c l) != 0) = false]) hE.2.1 (hE.nogh _) mixed (by kernel_rfl) ⟨o0, o1, trivial⟩ hg
theorem f24W (c : Int) (l : (List Bra)) {E : Env} {rv : (Int × Int)} (hE : PureE Try.prog 24 (.tup [.int .i64 rv.1, .int .i64 rv.2]) E)
    (h : ((l.length ≤ 9223372036854775807) ∧ ((¬ ((checkTaxK c l) = 0) → rv = (0, (checkTaxK c l))) ∧ ((checkTaxK c l) = 0 → f24G0 E c l 1000000001 0)))) : G Try.prog E [.code (bodyAt Try.prog 24)] ⟨[.int .i64 c, .rsl (rowBr l) 0 l.length] ++ unds (Try.f24.ntmps - 2), []⟩ := by
  obtain ⟨h1, h⟩ := h
  rcases Bool.eq_false_or_eq_true ((checkTaxK c l) != 0) with hc0 | hc0
  · have h := h.1 (bneT hc0)
    exact p24_start_0 c l    hE (pureF_of Try.func45 (by kernel_rfl) f45b (checkTax_ok c l h1)) hc0 (AvLe.of_eq (by rw [h]; try rfl))
  · have h := h.2 (bneF hc0)
    exact p24_start_1 c l    hE (pureF_of Try.func45 (by kernel_rfl) f45b (checkTax_ok c l h1)) hc0 h
theorem p24_0_0 (c : Int) (l : (List Bra)) (high : Int) (low : Int)   {E : Env} {rv : AV} (hE : PureE Try.prog 24 rv E) (o0 : (decide (low < high)) = true) (o1 : InR .i64 (low + high)) (o2 : InR .i64 (Int.tdiv (low + high) 2)) (o4 : PureF Try.prog (.clos 46 [] []) [.int .i64 (Int.tdiv (low + high) 2), .rsl (rowBr l) 0 l.length] (.int .i64 (taxI (Int.tdiv (low + high) 2) l))) (o5 : InR .i64 ((Int.tdiv (low + high) 2) - (taxI (Int.tdiv (low + high) 2) l))) (o6 : (decide (((Int.tdiv (low + high) 2) - (taxI (Int.tdiv (low + high) 2) l)) ≥ c)) = true)
    (hg : G Try.prog E (f24K0 Try.prog) ⟨[.int .i64 c, .rsl (rowBr l) 0 l.length, .junk, .junk, .junk, .junk, .junk, .int .i64 low, .int .i64 (Int.tdiv (low + high) 2), .junk, .junk, .junk, .junk, .junk, .junk, .junk, .junk, .junk, .junk, .junk, .junk, .junk, .junk, .junk, .junk, .junk, .junk, .junk, .junk, .junk, .junk, .junk, .junk, .junk, .junk, .junk], []⟩) : G Try.prog E (f24K0 Try.prog) (f24S0 c l high low ) :=
  segC_step (n := 400) (ds := []) (cs := []) (live := [0, 1, 7, 8]) (m := 0) (evs := [.b true, .v (.int .i64 (taxI (Int.tdiv (low + high) 2) l)), .b true, .stop]) (obs := [(decide (low < high)) = true, InR .i64 (low + high), InR .i64 (Int.tdiv (low + high) 2), (2 : Int) ≠ 0, PureF Try.prog (.clos 46 [] []) [.int .i64 (Int.tdiv (low + high) 2), .rsl (rowBr l) 0 l.length] (.int .i64 (taxI (Int.tdiv (low + high) 2) l)), InR .i64 ((Int.tdiv (low + high) 2) - (taxI (Int.tdiv (low + high) 2) l)), (decide (((Int.tdiv (low + high) 2) - (taxI (Int.tdiv (low + high) 2) l)) ≥ c)) = true]) hE.2.1 (hE.nogh _) mixed (by kernel_rfl) ⟨o0, o1, o2, (by decide), o4, o5, o6, trivial⟩ hg
theorem p24_0_1 (c : Int) (l : (List Bra)) (high : Int) (low : Int)   {E : Env} {rv : AV} (hE : PureE Try.prog 24 rv E) (o0 : (decide (low < high)) = true) (o1 : InR .i64 (low + high)) (o2 : InR .i64 (Int.tdiv (low + high) 2)) (o4 : PureF Try.prog (.clos 46 [] []) [.int .i64 (Int.tdiv (low + high) 2), .rsl (rowBr l) 0 l.length] (.int .i64 (taxI (Int.tdiv (low + high) 2) l))) (o5 : InR .i64 ((Int.tdiv (low + high) 2) - (taxI (Int.tdiv (low + high) 2) l))) (o6 : (decide (((Int.tdiv (low + high) 2) - (taxI (Int.tdiv (low + high) 2) l)) ≥ c)) = false) (o7 : InR .i64 ((Int.tdiv (low + high) 2) + 1))
    (hg : G Try.prog E (f24K0 Try.prog) ⟨[.int .i64 c, .rsl (rowBr l) 0 l.length, .junk, .junk, .junk, .junk, .junk, .int .i64 ((Int.tdiv (low + high) 2) + 1), .int .i64 high, .junk, .junk, .junk, .junk, .junk, .junk, .junk, .junk, .junk, .junk, .junk, .junk, .junk, .junk, .junk, .junk, .junk, .junk, .junk, .junk, .junk, .junk, .junk, .junk, .junk, .junk, .junk], []⟩) : G Try.prog E (f24K0 Try.prog) (f24S0 c l high low ) :=
  segC_step (n := 400) (ds := []) (cs := []) (live := [0, 1, 7, 8]) (m := 0) (evs := [.b true, .v (.int .i64 (taxI (Int.tdiv (low + high) 2) l)), .b false, .stop]) (obs := [(decide (low < high)) = true, InR .i64 (low + high), InR .i64 (Int.tdiv (low + high) 2), (2 : Int) ≠ 0, PureF Try.prog (.clos 46 [] []) [.int .i64 (Int.tdiv (low + high) 2), .rsl (rowBr l) 0 l.length] (.int .i64 (taxI (Int.tdiv (low + high) 2) l)), InR .i64 ((Int.tdiv (low + high) 2) - (taxI (Int.tdiv (low + high) 2) l)), (decide (((Int.tdiv (low + high) 2) - (taxI (Int.tdiv (low + high) 2) l)) ≥ c)) = false, InR .i64 ((Int.tdiv (low + high) 2) + 1)]) hE.2.1 (hE.nogh _) mixed (by kernel_rfl) ⟨o0, o1, o2, (by decide), o4, o5, o6, o7, trivial⟩ hg
theorem p24_0_2 (c : Int) (l : (List Bra)) (high : Int) (low : Int)   {E : Env} {res : AV} (hE : PureE Try.prog 24 res E) (o0 : (decide (low < high)) = false) (o1 : (decide (low > 1000000000)) = true)
    (hr : AvLe (.tup [.int .i64 0, .int .i64 3]) res) : G Try.prog E (f24K0 Try.prog) (f24S0 c l high low ) :=
  end_stepL (n := 400) (evs := [.b false, .b true]) (obs := [(decide (low < high)) = false, (decide (low > 1000000000)) = true]) hE Try.func24 mixed (by kernel_rfl) ⟨o0, o1, trivial⟩ hr
theorem p24_0_3 (c : Int) (l : (List Bra)) (high : Int) (low : Int)   {E : Env} {res : AV} (hE : PureE Try.prog 24 res E) (o0 : (decide (low < high)) = false) (o1 : (decide (low > 1000000000)) = false)
    (hr : AvLe (.tup [.int .i64 low, .int .i64 0]) res) : G Try.prog E (f24K0 Try.prog) (f24S0 c l high low ) :=
  end_stepL (n := 400) (evs := [.b false, .b false]) (obs := [(decide (low < high)) = false, (decide (low > 1000000000)) = false]) hE Try.func24 mixed (by kernel_rfl) ⟨o0, o1, trivial⟩ hr
theorem f24W0 (c : Int) (l : (List Bra)) (high : Int) (low : Int) {E : Env} {rv : (Int × Int)} (hE : PureE Try.prog 24 (.tup [.int .i64 rv.1, .int .i64 rv.2]) E)
    (h : ((low < high → ((-9223372036854775808 ≤ low + high ∧ low + high ≤ 9223372036854775807) ∧ ((-9223372036854775808 ≤ Int.tdiv (low + high) 2 ∧ Int.tdiv (low + high) 2 ≤ 9223372036854775807) ∧ ((((0 : Int) ≤ (Int.tdiv (low + high) 2) ∧ ((Int.tdiv (low + high) 2) : Int) ≤ 1000000000) ∧ brOk l = true) ∧ ((-9223372036854775808 ≤ (Int.tdiv (low + high) 2) - (taxI (Int.tdiv (low + high) 2) l) ∧ (Int.tdiv (low + high) 2) - (taxI (Int.tdiv (low + high) 2) l) ≤ 9223372036854775807) ∧ ((((Int.tdiv (low + high) 2) - (taxI (Int.tdiv (low + high) 2) l)) ≥ c → f24G0 E c l (Int.tdiv (low + high) 2) low) ∧ (¬ (((Int.tdiv (low + high) 2) - (taxI (Int.tdiv (low + high) 2) l)) ≥ c) → ((-9223372036854775808 ≤ (Int.tdiv (low + high) 2) + 1 ∧ (Int.tdiv (low + high) 2) + 1 ≤ 9223372036854775807) ∧ f24G0 E c l high ((Int.tdiv (low + high) 2) + 1))))))))) ∧ (¬ (low < high) → ((low > 1000000000 → rv = (0, 3)) ∧ (¬ (low > 1000000000) → rv = (low, 0)))))) : f24G0 E c l high low := by
  rcases Bool.eq_false_or_eq_true (decide (low < high)) with hc0 | hc0
  · have h := h.1 (of_decide_eq_true hc0)
    obtain ⟨q1_1, h⟩ := h
    obtain ⟨q2_1, h⟩ := h
    obtain ⟨h1, h⟩ := h
    obtain ⟨q5_1, h⟩ := h
    rcases Bool.eq_false_or_eq_true (decide (((Int.tdiv (low + high) 2) - (taxI (Int.tdiv (low + high) 2) l)) ≥ c)) with hc1 | hc1
    · have h := h.1 (of_decide_eq_true hc1)
      exact p24_0_0 c l high low   hE hc0 q1_1 q2_1 (pureF_of Try.func46 (by kernel_rfl) f46b (tax_ok (Int.tdiv (low + high) 2) l h1)) q5_1 hc1 h
    · have h := h.2 (of_decide_eq_false hc1)
      obtain ⟨q7_2, h⟩ := h
      exact p24_0_1 c l high low   hE hc0 q1_1 q2_1 (pureF_of Try.func46 (by kernel_rfl) f46b (tax_ok (Int.tdiv (low + high) 2) l h1)) q5_1 hc1 q7_2 h
  · have h := h.2 (of_decide_eq_false hc0)
    rcases Bool.eq_false_or_eq_true (decide (low > 1000000000)) with hc1 | hc1
    · have h := h.1 (of_decide_eq_true hc1)
      exact p24_0_2 c l high low   hE hc0 hc1 (AvLe.of_eq (by rw [h]; try rfl))
    · have h := h.2 (of_decide_eq_false hc1)
      exact p24_0_3 c l high low   hE hc0 hc1 (AvLe.of_eq (by rw [h]; try rfl))
theorem check0 {c : Int} {l : List Bra} (h : checkTaxK c l = 0) : (0 ≤ c ∧ c ≤ 1000000000) ∧ brOk l = true := by
  simp only [checkTaxK] at h
  split at h
  · cases h
  · rename_i h1
    split at h
    · cases h
    · rename_i h2
      exact ⟨within_iff.1 (by simpa [amount] using h1), by simpa using h2⟩

/-- Search by halves. -/
def bsI (p : Int → Bool) : Nat → Int → Int → Int
  | 0, lo, _ => lo
  | f + 1, lo, hi => if lo < hi then (if p (Int.tdiv (lo + hi) 2) then bsI p f lo (Int.tdiv (lo + hi) 2) else bsI p f (Int.tdiv (lo + hi) 2 + 1) hi) else lo

theorem mid {lo hi : Int} (h0 : 0 ≤ lo) (h : lo < hi) : lo ≤ Int.tdiv (lo + hi) 2 ∧ Int.tdiv (lo + hi) 2 < hi ∧ hi - (Int.tdiv (lo + hi) 2 + 1) ≤ (hi - lo) / 2 ∧ Int.tdiv (lo + hi) 2 - lo ≤ (hi - lo) / 2 := by
  rw [Int.tdiv_eq_ediv_of_nonneg (by omega)]; omega

def netP (c : Int) (l : List Bra) (m : Int) : Bool := decide (m - taxI m l ≥ c)
def netOf (r : Int) : Int × Int := if r > 1000000000 then (0, 3) else (r, 0)
def netK (c : Int) (l : List Bra) : Int × Int := if checkTaxK c l = 0 then netOf (bsI (netP c l) 40 0 1000000001) else (0, checkTaxK c l)

theorem NetP_ok (c : Int) (l : List Bra) (h : l.length ≤ 9223372036854775807) : Pure Try.prog 24 [.int .i64 c, .rsl (rowBr l) 0 l.length] (.tup [.int .i64 (netK c l).1, .int .i64 (netK c l).2]) := pure_of Try.func24 f24b fun E hE => by
  refine f24W c l (rv := netK c l) hE ⟨h, fun h1 => by rw [netK, if_neg h1], fun h1 => ?_⟩
  have hb := check0 h1
  have hB := br_of hb.2
  have key : ∀ (f : Nat) (hi lo : Int), 0 ≤ lo → lo ≤ hi → hi ≤ 1000000001 → hi - lo < (2 : Int) ^ f → netK c l = netOf (bsI (netP c l) f lo hi) → f24G0 E c l hi lo := by
    intro f
    induction f with
    | zero =>
      intro hi lo h0 h2 h3 h4 hr
      have : hi = lo := by simp at h4; omega
      subst this
      simp only [bsI] at hr
      exact f24W0 c l _ _ (rv := netK c l) hE ⟨fun h => by omega, fun _ => ⟨fun h5 => by rw [hr, netOf, if_pos h5], fun h5 => by rw [hr, netOf, if_neg h5]⟩⟩
    | succ f ih =>
      intro hi lo h0 h2 h3 h4 hr
      rw [Int.pow_succ] at h4
      simp only [bsI] at hr
      refine f24W0 c l _ _ (rv := netK c l) hE ⟨fun h5 => ?_, fun h5 => ⟨fun h6 => ?_, fun h6 => ?_⟩⟩
      · obtain ⟨m1, m2, m3, m4⟩ := mid h0 h5
        obtain ⟨t1, t2, -, -⟩ := tax_bd (m := Int.tdiv (lo + hi) 2) (by omega) hB
        rw [if_pos h5] at hr
        refine ⟨by omega, by omega, ⟨by omega, hb.2⟩, by omega, fun h6 => ?_, fun h6 => ⟨by omega, ?_⟩⟩
        · rw [if_pos (by simp only [netP]; exact decide_eq_true h6)] at hr
          exact ih _ _ h0 m1 (by omega) (by omega) hr
        · rw [if_neg (by simp only [netP]; simpa using h6)] at hr
          exact ih _ _ (by omega) (by omega) h3 (by omega) hr
      · rw [if_neg h5] at hr; rw [hr, netOf, if_pos h6]
      · rw [if_neg h5] at hr; rw [hr, netOf, if_neg h6]
  exact key 40 1000000001 0 (by omega) (by omega) (by omega) (by decide) (by rw [netK, if_pos h1])

theorem f17b : Try.f17.body = some (bodyAt Try.prog 17) := by kernel_rfl
def f17K0 (P : Program) : List Item := kAt 400 [.code (bodyAt P 17)] [.b false, .stop]
def f17S0 (a : (List Int)) (b : (List Int)) (i : Nat)  : St := ⟨[.rsl (rowI a) 0 a.length, .rsl (rowI b) 0 b.length, .junk, .junk, .junk, .int .i64 ((i : Nat) : Int), .junk, .junk, .junk, .junk, .junk, .junk, .junk, .junk, .junk, .junk, .junk, .junk, .junk, .junk, .junk, .junk, .junk, .junk, .junk, .junk], []⟩
def f17G0 (E : Env) (a : (List Int)) (b : (List Int)) (i : Nat) : Prop := G Try.prog E (f17K0 Try.prog) (f17S0 a b i )
theorem p17_start_0 (a : (List Int)) (b : (List Int))   {E : Env} {res : AV} (hE : PureE Try.prog 17 res E) (o0 : (((a.length : Nat) : Int) != ((b.length : Nat) : Int)) = true)
    (hr : AvLe (.bool false) res) : G Try.prog E [.code (bodyAt Try.prog 17)] ⟨[.rsl (rowI a) 0 a.length, .rsl (rowI b) 0 b.length] ++ unds (Try.f17.ntmps - 2), []⟩ :=
  end_stepL (n := 400) (evs := [.b true]) (obs := [(((a.length : Nat) : Int) != ((b.length : Nat) : Int)) = true]) hE Try.func17 mixed (by kernel_rfl) ⟨o0, trivial⟩ hr
theorem p17_start_1 (a : (List Int)) (b : (List Int))   {E : Env} {rv : AV} (hE : PureE Try.prog 17 rv E) (o0 : (((a.length : Nat) : Int) != ((b.length : Nat) : Int)) = false)
    (hg : G Try.prog E (f17K0 Try.prog) ⟨[.rsl (rowI a) 0 a.length, .rsl (rowI b) 0 b.length, .junk, .junk, .junk, .int .i64 0, .junk, .junk, .junk, .junk, .junk, .junk, .junk, .junk, .junk, .junk, .junk, .junk, .junk, .junk, .junk, .junk, .junk, .junk, .junk, .junk], []⟩) : G Try.prog E [.code (bodyAt Try.prog 17)] ⟨[.rsl (rowI a) 0 a.length, .rsl (rowI b) 0 b.length] ++ unds (Try.f17.ntmps - 2), []⟩ :=
  segC_step (n := 400) (ds := []) (cs := []) (live := [0, 1, 5]) (m := 0) (evs := [.b false, .stop]) (obs := [(((a.length : Nat) : Int) != ((b.length : Nat) : Int)) = false]) hE.2.1 (hE.nogh _) mixed (by kernel_rfl) ⟨o0, trivial⟩ hg
theorem f17W (a : (List Int)) (b : (List Int)) {E : Env} {rv : Bool} (hE : PureE Try.prog 17 (.bool rv) E)
    (h : ((¬ (((a.length : Nat) : Int) = ((b.length : Nat) : Int)) → rv = false) ∧ (((a.length : Nat) : Int) = ((b.length : Nat) : Int) → f17G0 E a b 0))) : G Try.prog E [.code (bodyAt Try.prog 17)] ⟨[.rsl (rowI a) 0 a.length, .rsl (rowI b) 0 b.length] ++ unds (Try.f17.ntmps - 2), []⟩ := by
  rcases Bool.eq_false_or_eq_true (((a.length : Nat) : Int) != ((b.length : Nat) : Int)) with hc0 | hc0
  · have h := h.1 (bneT hc0)
    exact p17_start_0 a b    hE hc0 (AvLe.of_eq (by rw [h]; try rfl))
  · have h := h.2 (bneF hc0)
    exact p17_start_1 a b    hE hc0 h
theorem p17_0_0 (a : (List Int)) (b : (List Int)) (i : Nat)  (e : Int) (e1 : Int)  {E : Env} {res : AV} (hE : PureE Try.prog 17 res E) (o0 : (decide (((i : Nat) : Int) < ((a.length : Nat) : Int))) = true) (o2 : 0 ≤ ((i : Nat) : Int) ∧ ((i : Nat) : Int) < ((a.length : Nat) : Int)) (o3 : ((rowI a).drop (0 + (Int.toNat ((i : Nat) : Int)) * 1)).take 1 = [.int .i64 e]) (o5 : 0 ≤ ((i : Nat) : Int) ∧ ((i : Nat) : Int) < ((b.length : Nat) : Int)) (o6 : ((rowI b).drop (0 + (Int.toNat ((i : Nat) : Int)) * 1)).take 1 = [.int .i64 e1]) (o7 : (e != e1) = true)
    (hr : AvLe (.bool false) res) : G Try.prog E (f17K0 Try.prog) (f17S0 a b i ) :=
  end_stepL (n := 400) (evs := [.b true, .ld (.int .i64 e), .ld (.int .i64 e1), .b true]) (obs := [(decide (((i : Nat) : Int) < ((a.length : Nat) : Int))) = true, 0 ≤ ((i : Nat) : Int) ∧ ((i : Nat) : Int) < ((a.length : Nat) : Int), ((rowI a).drop (0 + (Int.toNat ((i : Nat) : Int)) * 1)).take 1 = [.int .i64 e], 0 ≤ ((i : Nat) : Int) ∧ ((i : Nat) : Int) < ((b.length : Nat) : Int), ((rowI b).drop (0 + (Int.toNat ((i : Nat) : Int)) * 1)).take 1 = [.int .i64 e1], (e != e1) = true]) hE Try.func17 mixed (by kernel_rfl) ⟨o0, o2, o3, o5, o6, o7, trivial⟩ hr
theorem p17_0_1 (a : (List Int)) (b : (List Int)) (i : Nat)  (e : Int) (e1 : Int)  {E : Env} {rv : AV} (hE : PureE Try.prog 17 rv E) (o0 : (decide (((i : Nat) : Int) < ((a.length : Nat) : Int))) = true) (o2 : 0 ≤ ((i : Nat) : Int) ∧ ((i : Nat) : Int) < ((a.length : Nat) : Int)) (o3 : ((rowI a).drop (0 + (Int.toNat ((i : Nat) : Int)) * 1)).take 1 = [.int .i64 e]) (o5 : 0 ≤ ((i : Nat) : Int) ∧ ((i : Nat) : Int) < ((b.length : Nat) : Int)) (o6 : ((rowI b).drop (0 + (Int.toNat ((i : Nat) : Int)) * 1)).take 1 = [.int .i64 e1]) (o7 : (e != e1) = false) (o8 : InR .i64 (((i : Nat) : Int) + 1))
    (hg : G Try.prog E (f17K0 Try.prog) ⟨[.rsl (rowI a) 0 a.length, .rsl (rowI b) 0 b.length, .junk, .junk, .junk, .int .i64 (((i : Nat) : Int) + 1), .junk, .junk, .junk, .junk, .junk, .junk, .junk, .junk, .junk, .junk, .junk, .junk, .junk, .junk, .junk, .junk, .junk, .junk, .junk, .junk], []⟩) : G Try.prog E (f17K0 Try.prog) (f17S0 a b i ) :=
  segC_step (n := 400) (ds := []) (cs := []) (live := [0, 1, 5]) (m := 0) (evs := [.b true, .ld (.int .i64 e), .ld (.int .i64 e1), .b false, .stop]) (obs := [(decide (((i : Nat) : Int) < ((a.length : Nat) : Int))) = true, 0 ≤ ((i : Nat) : Int) ∧ ((i : Nat) : Int) < ((a.length : Nat) : Int), ((rowI a).drop (0 + (Int.toNat ((i : Nat) : Int)) * 1)).take 1 = [.int .i64 e], 0 ≤ ((i : Nat) : Int) ∧ ((i : Nat) : Int) < ((b.length : Nat) : Int), ((rowI b).drop (0 + (Int.toNat ((i : Nat) : Int)) * 1)).take 1 = [.int .i64 e1], (e != e1) = false, InR .i64 (((i : Nat) : Int) + 1)]) hE.2.1 (hE.nogh _) mixed (by kernel_rfl) ⟨o0, o2, o3, o5, o6, o7, o8, trivial⟩ hg
theorem p17_0_2 (a : (List Int)) (b : (List Int)) (i : Nat)   {E : Env} {res : AV} (hE : PureE Try.prog 17 res E) (o0 : (decide (((i : Nat) : Int) < ((a.length : Nat) : Int))) = false)
    (hr : AvLe (.bool true) res) : G Try.prog E (f17K0 Try.prog) (f17S0 a b i ) :=
  end_stepL (n := 400) (evs := [.b false]) (obs := [(decide (((i : Nat) : Int) < ((a.length : Nat) : Int))) = false]) hE Try.func17 mixed (by kernel_rfl) ⟨o0, trivial⟩ hr
theorem f17W0 (a : (List Int)) (b : (List Int)) (i : Nat) {E : Env} {rv : Bool} (hE : PureE Try.prog 17 (.bool rv) E)
    (h : ((((i : Nat) : Int) < ((a.length : Nat) : Int) → (∃ e : Int, a[i]? = some e ∧ (∃ e1 : Int, b[i]? = some e1 ∧ ((¬ (e = e1) → rv = false) ∧ (e = e1 → ((-9223372036854775808 ≤ ((i : Nat) : Int) + 1 ∧ ((i : Nat) : Int) + 1 ≤ 9223372036854775807) ∧ f17G0 E a b (i + 1))))))) ∧ (¬ (((i : Nat) : Int) < ((a.length : Nat) : Int)) → rv = true))) : f17G0 E a b i := by
  rcases Bool.eq_false_or_eq_true (decide (((i : Nat) : Int) < ((a.length : Nat) : Int))) with hc0 | hc0
  · have h := h.1 (of_decide_eq_true hc0)
    obtain ⟨e, h1, h⟩ := h
    obtain ⟨e1, h2, h⟩ := h
    rcases Bool.eq_false_or_eq_true (e != e1) with hc1 | hc1
    · have h := h.1 (bneT hc1)
      exact p17_0_0 a b i  e e1 hE hc0 (idx_ok h1) (row_part cI (s := 1) (k := 0) (m := 1) (fun _ => rfl) (by decide) h1) (idx_ok h2) (row_part cI (s := 1) (k := 0) (m := 1) (fun _ => rfl) (by decide) h2) hc1 (AvLe.of_eq (by rw [h]; try rfl))
    · have h := h.2 (bneF hc1)
      obtain ⟨q8_2, h⟩ := h
      exact p17_0_1 a b i  e e1 hE hc0 (idx_ok h1) (row_part cI (s := 1) (k := 0) (m := 1) (fun _ => rfl) (by decide) h1) (idx_ok h2) (row_part cI (s := 1) (k := 0) (m := 1) (fun _ => rfl) (by decide) h2) hc1 q8_2 h
  · have h := h.2 (of_decide_eq_false hc0)
    exact p17_0_2 a b i   hE hc0 (AvLe.of_eq (by rw [h]; try rfl))

theorem sameInts_ok (a b : List Int) (h : a = b ∧ a.length ≤ 1000000) : Pure Try.prog 17 [.rsl (rowI a) 0 a.length, .rsl (rowI b) 0 b.length] (.bool true) := pure_of Try.func17 f17b fun E hE => by
  obtain ⟨rfl, hl⟩ := h
  have key : ∀ (d i : Nat), i + d = a.length → f17G0 E a a i := by
    intro d
    induction d with
    | zero => intro i hd; exact f17W0 a a i (rv := true) hE ⟨fun h => by omega, fun _ => rfl⟩
    | succ d ih =>
      intro i hd
      have hi : a[i]? = some a[i] := List.getElem?_eq_getElem (by omega)
      exact f17W0 a a i (rv := true) hE ⟨fun _ => ⟨_, hi, _, hi, fun h => absurd rfl h, fun _ => ⟨by omega, ih (i + 1) (by omega)⟩⟩, fun h => by omega⟩
  exact f17W a a (rv := true) hE ⟨fun h => absurd rfl h, fun _ => key a.length 0 (by omega)⟩

theorem f20b : Try.f20.body = some (bodyAt Try.prog 20) := by kernel_rfl
theorem p20_start_0    {E : Env} {res : AV} (hE : PureE Try.prog 20 res E) (o0 : LentF Try.prog (.clos 15 [] []) [.int .i64 100, .sl 0 0 0 3 1] [⟨true, 0, 1, true, [.int .i64 1, .int .i64 1, .int .i64 1], true⟩] (.tup [.rsl (rowI ((splitK 100 ([1, 1, 1])).1)) 0 (((splitK 100 ([1, 1, 1])).1).length), .int .i64 ((splitK 100 ([1, 1, 1])).2)]) [⟨false, 1, 1, true, [], false⟩]) (o1 : PureF Try.prog (.clos 24 [] []) [.int .i64 2500, .rsl [.int .i64 0, .int .i64 10, .int .i64 1000, .int .i64 20] 0 2] (.tup [.int .i64 ((netK 2500 ([(⟨0, 10⟩ : Bra), (⟨1000, 20⟩ : Bra)])).1), .int .i64 ((netK 2500 ([(⟨0, 10⟩ : Bra), (⟨1000, 20⟩ : Bra)])).2)])) (o3 : ((splitK 100 ([1, 1, 1])).2 == 0) = true) (o4 : ((netK 2500 ([(⟨0, 10⟩ : Bra), (⟨1000, 20⟩ : Bra)])).2 == 0) = true) (o5 : PureF Try.prog (.clos 17 [] []) [.rsl (rowI ((splitK 100 ([1, 1, 1])).1)) 0 (((splitK 100 ([1, 1, 1])).1).length), .rsl [.int .i64 34, .int .i64 33, .int .i64 33] 0 3] (.bool true)) (o7 : true = true)
    (hr : AvLe (.bool ((netK 2500 ([(⟨0, 10⟩ : Bra), (⟨1000, 20⟩ : Bra)])).1 == 2999)) res) : G Try.prog E [.code (bodyAt Try.prog 20)] ⟨[] ++ unds (Try.f20.ntmps - 0), []⟩ :=
  end_stepL (n := 400) (evs := [.lent [0] (.tup [.rsl (rowI ((splitK 100 ([1, 1, 1])).1)) 0 (((splitK 100 ([1, 1, 1])).1).length), .int .i64 ((splitK 100 ([1, 1, 1])).2)]) [⟨false, 1, 1, true, [], false⟩], .v (.tup [.int .i64 ((netK 2500 ([(⟨0, 10⟩ : Bra), (⟨1000, 20⟩ : Bra)])).1), .int .i64 ((netK 2500 ([(⟨0, 10⟩ : Bra), (⟨1000, 20⟩ : Bra)])).2)]), .b true, .b true, .v (.bool true), .b true]) (obs := [LentF Try.prog (.clos 15 [] []) [.int .i64 100, .sl 0 0 0 3 1] [⟨true, 0, 1, true, [.int .i64 1, .int .i64 1, .int .i64 1], true⟩] (.tup [.rsl (rowI ((splitK 100 ([1, 1, 1])).1)) 0 (((splitK 100 ([1, 1, 1])).1).length), .int .i64 ((splitK 100 ([1, 1, 1])).2)]) [⟨false, 1, 1, true, [], false⟩], PureF Try.prog (.clos 24 [] []) [.int .i64 2500, .rsl [.int .i64 0, .int .i64 10, .int .i64 1000, .int .i64 20] 0 2] (.tup [.int .i64 ((netK 2500 ([(⟨0, 10⟩ : Bra), (⟨1000, 20⟩ : Bra)])).1), .int .i64 ((netK 2500 ([(⟨0, 10⟩ : Bra), (⟨1000, 20⟩ : Bra)])).2)]), 0 = 0, ((splitK 100 ([1, 1, 1])).2 == 0) = true, ((netK 2500 ([(⟨0, 10⟩ : Bra), (⟨1000, 20⟩ : Bra)])).2 == 0) = true, PureF Try.prog (.clos 17 [] []) [.rsl (rowI ((splitK 100 ([1, 1, 1])).1)) 0 (((splitK 100 ([1, 1, 1])).1).length), .rsl [.int .i64 34, .int .i64 33, .int .i64 33] 0 3] (.bool true), 0 = 0, true = true]) hE Try.func20 mixed (by kernel_rfl) ⟨o0, o1, (rfl), o3, o4, o5, (rfl), o7, trivial⟩ hr
theorem p20_start_1    {E : Env} {res : AV} (hE : PureE Try.prog 20 res E) (o0 : LentF Try.prog (.clos 15 [] []) [.int .i64 100, .sl 0 0 0 3 1] [⟨true, 0, 1, true, [.int .i64 1, .int .i64 1, .int .i64 1], true⟩] (.tup [.rsl (rowI ((splitK 100 ([1, 1, 1])).1)) 0 (((splitK 100 ([1, 1, 1])).1).length), .int .i64 ((splitK 100 ([1, 1, 1])).2)]) [⟨false, 1, 1, true, [], false⟩]) (o1 : PureF Try.prog (.clos 24 [] []) [.int .i64 2500, .rsl [.int .i64 0, .int .i64 10, .int .i64 1000, .int .i64 20] 0 2] (.tup [.int .i64 ((netK 2500 ([(⟨0, 10⟩ : Bra), (⟨1000, 20⟩ : Bra)])).1), .int .i64 ((netK 2500 ([(⟨0, 10⟩ : Bra), (⟨1000, 20⟩ : Bra)])).2)])) (o3 : ((splitK 100 ([1, 1, 1])).2 == 0) = true) (o4 : ((netK 2500 ([(⟨0, 10⟩ : Bra), (⟨1000, 20⟩ : Bra)])).2 == 0) = true) (o5 : PureF Try.prog (.clos 17 [] []) [.rsl (rowI ((splitK 100 ([1, 1, 1])).1)) 0 (((splitK 100 ([1, 1, 1])).1).length), .rsl [.int .i64 34, .int .i64 33, .int .i64 33] 0 3] (.bool true)) (o7 : true = false)
    (hr : AvLe (.bool false) res) : G Try.prog E [.code (bodyAt Try.prog 20)] ⟨[] ++ unds (Try.f20.ntmps - 0), []⟩ :=
  end_stepL (n := 400) (evs := [.lent [0] (.tup [.rsl (rowI ((splitK 100 ([1, 1, 1])).1)) 0 (((splitK 100 ([1, 1, 1])).1).length), .int .i64 ((splitK 100 ([1, 1, 1])).2)]) [⟨false, 1, 1, true, [], false⟩], .v (.tup [.int .i64 ((netK 2500 ([(⟨0, 10⟩ : Bra), (⟨1000, 20⟩ : Bra)])).1), .int .i64 ((netK 2500 ([(⟨0, 10⟩ : Bra), (⟨1000, 20⟩ : Bra)])).2)]), .b true, .b true, .v (.bool true), .b false]) (obs := [LentF Try.prog (.clos 15 [] []) [.int .i64 100, .sl 0 0 0 3 1] [⟨true, 0, 1, true, [.int .i64 1, .int .i64 1, .int .i64 1], true⟩] (.tup [.rsl (rowI ((splitK 100 ([1, 1, 1])).1)) 0 (((splitK 100 ([1, 1, 1])).1).length), .int .i64 ((splitK 100 ([1, 1, 1])).2)]) [⟨false, 1, 1, true, [], false⟩], PureF Try.prog (.clos 24 [] []) [.int .i64 2500, .rsl [.int .i64 0, .int .i64 10, .int .i64 1000, .int .i64 20] 0 2] (.tup [.int .i64 ((netK 2500 ([(⟨0, 10⟩ : Bra), (⟨1000, 20⟩ : Bra)])).1), .int .i64 ((netK 2500 ([(⟨0, 10⟩ : Bra), (⟨1000, 20⟩ : Bra)])).2)]), 0 = 0, ((splitK 100 ([1, 1, 1])).2 == 0) = true, ((netK 2500 ([(⟨0, 10⟩ : Bra), (⟨1000, 20⟩ : Bra)])).2 == 0) = true, PureF Try.prog (.clos 17 [] []) [.rsl (rowI ((splitK 100 ([1, 1, 1])).1)) 0 (((splitK 100 ([1, 1, 1])).1).length), .rsl [.int .i64 34, .int .i64 33, .int .i64 33] 0 3] (.bool true), 0 = 0, true = false]) hE Try.func20 mixed (by kernel_rfl) ⟨o0, o1, (rfl), o3, o4, o5, (rfl), o7, trivial⟩ hr
theorem p20_start_2    {E : Env} {res : AV} (hE : PureE Try.prog 20 res E) (o0 : LentF Try.prog (.clos 15 [] []) [.int .i64 100, .sl 0 0 0 3 1] [⟨true, 0, 1, true, [.int .i64 1, .int .i64 1, .int .i64 1], true⟩] (.tup [.rsl (rowI ((splitK 100 ([1, 1, 1])).1)) 0 (((splitK 100 ([1, 1, 1])).1).length), .int .i64 ((splitK 100 ([1, 1, 1])).2)]) [⟨false, 1, 1, true, [], false⟩]) (o1 : PureF Try.prog (.clos 24 [] []) [.int .i64 2500, .rsl [.int .i64 0, .int .i64 10, .int .i64 1000, .int .i64 20] 0 2] (.tup [.int .i64 ((netK 2500 ([(⟨0, 10⟩ : Bra), (⟨1000, 20⟩ : Bra)])).1), .int .i64 ((netK 2500 ([(⟨0, 10⟩ : Bra), (⟨1000, 20⟩ : Bra)])).2)])) (o3 : ((splitK 100 ([1, 1, 1])).2 == 0) = true) (o4 : ((netK 2500 ([(⟨0, 10⟩ : Bra), (⟨1000, 20⟩ : Bra)])).2 == 0) = false)
    (hr : AvLe (.bool false) res) : G Try.prog E [.code (bodyAt Try.prog 20)] ⟨[] ++ unds (Try.f20.ntmps - 0), []⟩ :=
  end_stepL (n := 400) (evs := [.lent [0] (.tup [.rsl (rowI ((splitK 100 ([1, 1, 1])).1)) 0 (((splitK 100 ([1, 1, 1])).1).length), .int .i64 ((splitK 100 ([1, 1, 1])).2)]) [⟨false, 1, 1, true, [], false⟩], .v (.tup [.int .i64 ((netK 2500 ([(⟨0, 10⟩ : Bra), (⟨1000, 20⟩ : Bra)])).1), .int .i64 ((netK 2500 ([(⟨0, 10⟩ : Bra), (⟨1000, 20⟩ : Bra)])).2)]), .b true, .b false, .b false]) (obs := [LentF Try.prog (.clos 15 [] []) [.int .i64 100, .sl 0 0 0 3 1] [⟨true, 0, 1, true, [.int .i64 1, .int .i64 1, .int .i64 1], true⟩] (.tup [.rsl (rowI ((splitK 100 ([1, 1, 1])).1)) 0 (((splitK 100 ([1, 1, 1])).1).length), .int .i64 ((splitK 100 ([1, 1, 1])).2)]) [⟨false, 1, 1, true, [], false⟩], PureF Try.prog (.clos 24 [] []) [.int .i64 2500, .rsl [.int .i64 0, .int .i64 10, .int .i64 1000, .int .i64 20] 0 2] (.tup [.int .i64 ((netK 2500 ([(⟨0, 10⟩ : Bra), (⟨1000, 20⟩ : Bra)])).1), .int .i64 ((netK 2500 ([(⟨0, 10⟩ : Bra), (⟨1000, 20⟩ : Bra)])).2)]), 0 = 0, ((splitK 100 ([1, 1, 1])).2 == 0) = true, ((netK 2500 ([(⟨0, 10⟩ : Bra), (⟨1000, 20⟩ : Bra)])).2 == 0) = false, false = false]) hE Try.func20 mixed (by kernel_rfl) ⟨o0, o1, (rfl), o3, o4, (rfl), trivial⟩ hr
theorem p20_start_3    {E : Env} {res : AV} (hE : PureE Try.prog 20 res E) (o0 : LentF Try.prog (.clos 15 [] []) [.int .i64 100, .sl 0 0 0 3 1] [⟨true, 0, 1, true, [.int .i64 1, .int .i64 1, .int .i64 1], true⟩] (.tup [.rsl (rowI ((splitK 100 ([1, 1, 1])).1)) 0 (((splitK 100 ([1, 1, 1])).1).length), .int .i64 ((splitK 100 ([1, 1, 1])).2)]) [⟨false, 1, 1, true, [], false⟩]) (o1 : PureF Try.prog (.clos 24 [] []) [.int .i64 2500, .rsl [.int .i64 0, .int .i64 10, .int .i64 1000, .int .i64 20] 0 2] (.tup [.int .i64 ((netK 2500 ([(⟨0, 10⟩ : Bra), (⟨1000, 20⟩ : Bra)])).1), .int .i64 ((netK 2500 ([(⟨0, 10⟩ : Bra), (⟨1000, 20⟩ : Bra)])).2)])) (o3 : ((splitK 100 ([1, 1, 1])).2 == 0) = false)
    (hr : AvLe (.bool false) res) : G Try.prog E [.code (bodyAt Try.prog 20)] ⟨[] ++ unds (Try.f20.ntmps - 0), []⟩ :=
  end_stepL (n := 400) (evs := [.lent [0] (.tup [.rsl (rowI ((splitK 100 ([1, 1, 1])).1)) 0 (((splitK 100 ([1, 1, 1])).1).length), .int .i64 ((splitK 100 ([1, 1, 1])).2)]) [⟨false, 1, 1, true, [], false⟩], .v (.tup [.int .i64 ((netK 2500 ([(⟨0, 10⟩ : Bra), (⟨1000, 20⟩ : Bra)])).1), .int .i64 ((netK 2500 ([(⟨0, 10⟩ : Bra), (⟨1000, 20⟩ : Bra)])).2)]), .b false, .b false, .b false]) (obs := [LentF Try.prog (.clos 15 [] []) [.int .i64 100, .sl 0 0 0 3 1] [⟨true, 0, 1, true, [.int .i64 1, .int .i64 1, .int .i64 1], true⟩] (.tup [.rsl (rowI ((splitK 100 ([1, 1, 1])).1)) 0 (((splitK 100 ([1, 1, 1])).1).length), .int .i64 ((splitK 100 ([1, 1, 1])).2)]) [⟨false, 1, 1, true, [], false⟩], PureF Try.prog (.clos 24 [] []) [.int .i64 2500, .rsl [.int .i64 0, .int .i64 10, .int .i64 1000, .int .i64 20] 0 2] (.tup [.int .i64 ((netK 2500 ([(⟨0, 10⟩ : Bra), (⟨1000, 20⟩ : Bra)])).1), .int .i64 ((netK 2500 ([(⟨0, 10⟩ : Bra), (⟨1000, 20⟩ : Bra)])).2)]), 0 = 0, ((splitK 100 ([1, 1, 1])).2 == 0) = false, false = false, false = false]) hE Try.func20 mixed (by kernel_rfl) ⟨o0, o1, (rfl), o3, (rfl), (rfl), trivial⟩ hr
theorem f20W  {E : Env} {rv : Bool} (hE : PureE Try.prog 20 (.bool rv) E)
    (h : ((([1, 1, 1]).length ≤ 9223372036854775807) ∧ ((([(⟨0, 10⟩ : Bra), (⟨1000, 20⟩ : Bra)]).length ≤ 9223372036854775807) ∧ (((splitK 100 ([1, 1, 1])).2 = 0 → (((netK 2500 ([(⟨0, 10⟩ : Bra), (⟨1000, 20⟩ : Bra)])).2 = 0 → ((((splitK 100 ([1, 1, 1])).1) = ([34, 33, 33]) ∧ ((splitK 100 ([1, 1, 1])).1).length ≤ 1000000) ∧ ((true = true → rv = ((netK 2500 ([(⟨0, 10⟩ : Bra), (⟨1000, 20⟩ : Bra)])).1 == 2999)) ∧ (true = false → rv = false)))) ∧ (¬ ((netK 2500 ([(⟨0, 10⟩ : Bra), (⟨1000, 20⟩ : Bra)])).2 = 0) → rv = false))) ∧ (¬ ((splitK 100 ([1, 1, 1])).2 = 0) → rv = false))))) : G Try.prog E [.code (bodyAt Try.prog 20)] ⟨[] ++ unds (Try.f20.ntmps - 0), []⟩ := by
  obtain ⟨h1, h⟩ := h
  obtain ⟨h2, h⟩ := h
  rcases Bool.eq_false_or_eq_true ((splitK 100 ([1, 1, 1])).2 == 0) with hc0 | hc0
  · have h := h.1 (eq_of_beq hc0)
    rcases Bool.eq_false_or_eq_true ((netK 2500 ([(⟨0, 10⟩ : Bra), (⟨1000, 20⟩ : Bra)])).2 == 0) with hc1 | hc1
    · have h := h.1 (eq_of_beq hc1)
      obtain ⟨h3, h⟩ := h
      rcases Bool.eq_false_or_eq_true true with hc2 | hc2
      · have h := h.1 hc2
        exact p20_start_0     hE (lentF_of_pure (fv' := .clos 15 [] []) (args' := [.int .i64 100, .rsl [.int .i64 1, .int .i64 1, .int .i64 1] 0 3]) (o1 := []) (o2 := [0 = 0]) (by kernel_rfl) trivial (by kernel_rfl) ⟨rfl, trivial⟩ (pureF_of Try.func15 (by kernel_rfl) f15b (SplitP_ok 100 ([1, 1, 1]) h1))) (pureF_of Try.func24 (by kernel_rfl) f24b (NetP_ok 2500 ([(⟨0, 10⟩ : Bra), (⟨1000, 20⟩ : Bra)]) h2)) hc0 hc1 (pureF_of Try.func17 (by kernel_rfl) f17b (sameInts_ok ((splitK 100 ([1, 1, 1])).1) ([34, 33, 33]) h3)) hc2 (AvLe.of_eq (by rw [h]; try rfl))
      · have h := h.2 hc2
        exact p20_start_1     hE (lentF_of_pure (fv' := .clos 15 [] []) (args' := [.int .i64 100, .rsl [.int .i64 1, .int .i64 1, .int .i64 1] 0 3]) (o1 := []) (o2 := [0 = 0]) (by kernel_rfl) trivial (by kernel_rfl) ⟨rfl, trivial⟩ (pureF_of Try.func15 (by kernel_rfl) f15b (SplitP_ok 100 ([1, 1, 1]) h1))) (pureF_of Try.func24 (by kernel_rfl) f24b (NetP_ok 2500 ([(⟨0, 10⟩ : Bra), (⟨1000, 20⟩ : Bra)]) h2)) hc0 hc1 (pureF_of Try.func17 (by kernel_rfl) f17b (sameInts_ok ((splitK 100 ([1, 1, 1])).1) ([34, 33, 33]) h3)) hc2 (AvLe.of_eq (by rw [h]; try rfl))
    · have h := h.2 (ne_of_beq_false hc1)
      exact p20_start_2     hE (lentF_of_pure (fv' := .clos 15 [] []) (args' := [.int .i64 100, .rsl [.int .i64 1, .int .i64 1, .int .i64 1] 0 3]) (o1 := []) (o2 := [0 = 0]) (by kernel_rfl) trivial (by kernel_rfl) ⟨rfl, trivial⟩ (pureF_of Try.func15 (by kernel_rfl) f15b (SplitP_ok 100 ([1, 1, 1]) h1))) (pureF_of Try.func24 (by kernel_rfl) f24b (NetP_ok 2500 ([(⟨0, 10⟩ : Bra), (⟨1000, 20⟩ : Bra)]) h2)) hc0 hc1 (AvLe.of_eq (by rw [h]; try rfl))
  · have h := h.2 (ne_of_beq_false hc0)
    exact p20_start_3     hE (lentF_of_pure (fv' := .clos 15 [] []) (args' := [.int .i64 100, .rsl [.int .i64 1, .int .i64 1, .int .i64 1] 0 3]) (o1 := []) (o2 := [0 = 0]) (by kernel_rfl) trivial (by kernel_rfl) ⟨rfl, trivial⟩ (pureF_of Try.func15 (by kernel_rfl) f15b (SplitP_ok 100 ([1, 1, 1]) h1))) (pureF_of Try.func24 (by kernel_rfl) f24b (NetP_ok 2500 ([(⟨0, 10⟩ : Bra), (⟨1000, 20⟩ : Bra)]) h2)) hc0 (AvLe.of_eq (by rw [h]; try rfl))

theorem works_ok : Pure Try.prog 20 [] (.bool true) := pure_of Try.func20 f20b fun E hE => by
  have h1 : splitK 100 [1, 1, 1] = ([34, 33, 33], 0) := by decide +kernel
  have h2 : netK 2500 [⟨0, 10⟩, ⟨1000, 20⟩] = (2999, 0) := by decide +kernel
  refine f20W (rv := true) hE ⟨by decide, by decide, fun h => ⟨fun h' => ⟨⟨by rw [h1], by rw [h1]; decide⟩, fun _ => by rw [h2]; rfl, fun h => by cases h⟩, fun h' => absurd (by rw [h2]) h'⟩, fun h' => absurd (by rw [h1]) h'⟩

end Go.Proofs.Ytmdbebbibecidaa

namespace Go.Proofs.Ytmdbebbibecidaa
open Go Ax
open Go.Proofs

theorem ownT : ownKnob Try.prog.godebug = none := by kernel_rfl
theorem laidT : laidOutB Try.prog = true := by kernel_rfl

theorem dInts (W : World) : Dec Try.prog W 22 (List Int) (fun a => [.rsl (rowI a) 0 a.length]) (fun a => a.length ≤ 9223372036854775807) := by
  refine Dec.map (dec_slice Try.underlying22 (n := 1) (by kernel_rfl) (by decide) (fun _ => rfl) (fun _ => rfl) (dec_i64 Try.underlying3)) (fun x => x) ?_ ?_
  · exact fun _ => rfl
  · exact fun _ h => h.1
end Go.Proofs.Ytmdbebbibecidaa

namespace Go.Proofs.Ytmdbebbibecidaa
open Go Ax
open Go.Proofs

structure RentA where
  p : Int
  q : Int
  m : Int
end Go.Proofs.Ytmdbebbibecidaa

namespace Go.Proofs.Ytmdbebbibecidaa
open Go Ax
open Go.Proofs

structure Pay where
  frm : Int
  to : Int
  c : Int
end Go.Proofs.Ytmdbebbibecidaa

namespace Go.Proofs.Ytmdbebbibecidaa
open Go Ax
open Go.Proofs

theorem sum_set : ∀ {l : List Int} {i : Nat} {x : Int}, i < l.length → (l.set i x).sum = l.sum - l.getD i 0 + x
  | [], i, x, h => by simp at h
  | y :: l, 0, x, h => by simp; omega
  | y :: l, i + 1, x, h => by
    have := sum_set (l := l) (i := i) (x := x) (by simpa using h)
    simp only [List.set_cons_succ, List.sum_cons, List.getD_cons_succ]; omega

end Go.Proofs.Ytmdbebbibecidaa

namespace Go.Proofs.Ytmdbebbibecidaa
open Go Ax
open Go.Proofs

structure Spn where
  by_ : Int
  c : Int
  fr : List Int
def cSpn (b : Spn) : List AV := [.int .i64 b.by_, .int .i64 b.c, .rsl (rowI b.fr) 0 b.fr.length]
def rowSpn (l : List Spn) : List AV := l.flatMap cSpn
theorem f58b : Try.f58.body = some (bodyAt Try.prog 58) := by kernel_rfl
def f58K0 (P : Program) : List Item := kAt 400 [.code (bodyAt P 58)] [.b false, .stop]
def f58S0 (n : Int) (x : Spn) (last : Int) (i : Nat)  : St := ⟨[.int .i64 n, .junk, .junk, .junk, .junk, .int .i64 last, .junk, .junk, .junk, .junk, .junk, .junk, .junk, .junk, .junk, .junk, .junk, .junk, .junk, .junk, .junk, .junk, .junk, .junk, .junk, .junk, .junk, .rsl (rowI x.fr) 0 x.fr.length, .int .i64 ((x.fr.length : Nat) : Int), .int .i64 ((i : Nat) : Int), .junk, .junk, .junk, .junk, .junk, .junk, .junk, .junk, .junk, .junk, .junk, .junk, .junk], [⟨true, 0, 1, true, [.int .i64 x.by_, .int .i64 x.c, .rsl (rowI x.fr) 0 x.fr.length], false⟩]⟩
def f58G0 (E : Env) (n : Int) (x : Spn) (last : Int) (i : Nat) : Prop := G Try.prog E (f58K0 Try.prog) (f58S0 n x last i )
theorem p58_start_0 (n : Int) (x : Spn)   {E : Env} {res : AV} (hE : PureE Try.prog 58 res E) (o0 : InR .i64 (n - 1)) (o1 : PureF Try.prog (.clos 49 [] []) [.int .i64 x.by_, .int .i64 0, .int .i64 (n - 1)] (.bool (within x.by_ 0 (n - 1)))) (o2 : (!(within x.by_ 0 (n - 1))) = true)
    (hr : AvLe (.bool false) res) : G Try.prog E [.code (bodyAt Try.prog 58)] ⟨[.int .i64 n, .agg [.int .i64 x.by_, .int .i64 x.c, .rsl (rowI x.fr) 0 x.fr.length]] ++ unds (Try.f58.ntmps - 2), []⟩ :=
  end_stepL (n := 400) (evs := [.v (.bool (within x.by_ 0 (n - 1))), .b true, .b true, .b true]) (obs := [InR .i64 (n - 1), PureF Try.prog (.clos 49 [] []) [.int .i64 x.by_, .int .i64 0, .int .i64 (n - 1)] (.bool (within x.by_ 0 (n - 1))), (!(within x.by_ 0 (n - 1))) = true, true = true, true = true]) hE Try.func58 mixed (by kernel_rfl) ⟨o0, o1, o2, (rfl), (rfl), trivial⟩ hr
theorem p58_start_1 (n : Int) (x : Spn)   {E : Env} {res : AV} (hE : PureE Try.prog 58 res E) (o0 : InR .i64 (n - 1)) (o1 : PureF Try.prog (.clos 49 [] []) [.int .i64 x.by_, .int .i64 0, .int .i64 (n - 1)] (.bool (within x.by_ 0 (n - 1)))) (o2 : (!(within x.by_ 0 (n - 1))) = false) (o3 : PureF Try.prog (.clos 41 [] []) [.int .i64 x.c] (.bool (amount x.c))) (o4 : (!(amount x.c)) = true)
    (hr : AvLe (.bool false) res) : G Try.prog E [.code (bodyAt Try.prog 58)] ⟨[.int .i64 n, .agg [.int .i64 x.by_, .int .i64 x.c, .rsl (rowI x.fr) 0 x.fr.length]] ++ unds (Try.f58.ntmps - 2), []⟩ :=
  end_stepL (n := 400) (evs := [.v (.bool (within x.by_ 0 (n - 1))), .b false, .v (.bool (amount x.c)), .b true, .b true]) (obs := [InR .i64 (n - 1), PureF Try.prog (.clos 49 [] []) [.int .i64 x.by_, .int .i64 0, .int .i64 (n - 1)] (.bool (within x.by_ 0 (n - 1))), (!(within x.by_ 0 (n - 1))) = false, PureF Try.prog (.clos 41 [] []) [.int .i64 x.c] (.bool (amount x.c)), (!(amount x.c)) = true, true = true]) hE Try.func58 mixed (by kernel_rfl) ⟨o0, o1, o2, o3, o4, (rfl), trivial⟩ hr
theorem p58_start_2 (n : Int) (x : Spn)   {E : Env} {res : AV} (hE : PureE Try.prog 58 res E) (o0 : InR .i64 (n - 1)) (o1 : PureF Try.prog (.clos 49 [] []) [.int .i64 x.by_, .int .i64 0, .int .i64 (n - 1)] (.bool (within x.by_ 0 (n - 1)))) (o2 : (!(within x.by_ 0 (n - 1))) = false) (o3 : PureF Try.prog (.clos 41 [] []) [.int .i64 x.c] (.bool (amount x.c))) (o4 : (!(amount x.c)) = false) (o5 : (((x.fr.length : Nat) : Int) == 0) = true)
    (hr : AvLe (.bool false) res) : G Try.prog E [.code (bodyAt Try.prog 58)] ⟨[.int .i64 n, .agg [.int .i64 x.by_, .int .i64 x.c, .rsl (rowI x.fr) 0 x.fr.length]] ++ unds (Try.f58.ntmps - 2), []⟩ :=
  end_stepL (n := 400) (evs := [.v (.bool (within x.by_ 0 (n - 1))), .b false, .v (.bool (amount x.c)), .b false, .b true]) (obs := [InR .i64 (n - 1), PureF Try.prog (.clos 49 [] []) [.int .i64 x.by_, .int .i64 0, .int .i64 (n - 1)] (.bool (within x.by_ 0 (n - 1))), (!(within x.by_ 0 (n - 1))) = false, PureF Try.prog (.clos 41 [] []) [.int .i64 x.c] (.bool (amount x.c)), (!(amount x.c)) = false, (((x.fr.length : Nat) : Int) == 0) = true]) hE Try.func58 mixed (by kernel_rfl) ⟨o0, o1, o2, o3, o4, o5, trivial⟩ hr
theorem p58_start_3 (n : Int) (x : Spn)   {E : Env} {rv : AV} (hE : PureE Try.prog 58 rv E) (o0 : InR .i64 (n - 1)) (o1 : PureF Try.prog (.clos 49 [] []) [.int .i64 x.by_, .int .i64 0, .int .i64 (n - 1)] (.bool (within x.by_ 0 (n - 1)))) (o2 : (!(within x.by_ 0 (n - 1))) = false) (o3 : PureF Try.prog (.clos 41 [] []) [.int .i64 x.c] (.bool (amount x.c))) (o4 : (!(amount x.c)) = false) (o5 : (((x.fr.length : Nat) : Int) == 0) = false)
    (hg : G Try.prog E (f58K0 Try.prog) ⟨[.int .i64 n, .junk, .junk, .junk, .junk, .int .i64 (-1), .junk, .junk, .junk, .junk, .junk, .junk, .junk, .junk, .junk, .junk, .junk, .junk, .junk, .junk, .junk, .junk, .junk, .junk, .junk, .junk, .junk, .rsl (rowI x.fr) 0 x.fr.length, .int .i64 ((x.fr.length : Nat) : Int), .int .i64 0, .junk, .junk, .junk, .junk, .junk, .junk, .junk, .junk, .junk, .junk, .junk, .junk, .junk], [⟨true, 0, 1, true, [.int .i64 x.by_, .int .i64 x.c, .rsl (rowI x.fr) 0 x.fr.length], false⟩]⟩) : G Try.prog E [.code (bodyAt Try.prog 58)] ⟨[.int .i64 n, .agg [.int .i64 x.by_, .int .i64 x.c, .rsl (rowI x.fr) 0 x.fr.length]] ++ unds (Try.f58.ntmps - 2), []⟩ :=
  segC_step (n := 400) (ds := []) (cs := []) (live := [0, 5, 27, 28, 29]) (m := 1) (evs := [.v (.bool (within x.by_ 0 (n - 1))), .b false, .v (.bool (amount x.c)), .b false, .b false, .stop]) (obs := [InR .i64 (n - 1), PureF Try.prog (.clos 49 [] []) [.int .i64 x.by_, .int .i64 0, .int .i64 (n - 1)] (.bool (within x.by_ 0 (n - 1))), (!(within x.by_ 0 (n - 1))) = false, PureF Try.prog (.clos 41 [] []) [.int .i64 x.c] (.bool (amount x.c)), (!(amount x.c)) = false, (((x.fr.length : Nat) : Int) == 0) = false]) hE.2.1 (hE.nogh _) mixed (by kernel_rfl) ⟨o0, o1, o2, o3, o4, o5, trivial⟩ hg
theorem f58W (n : Int) (x : Spn) {E : Env} {rv : Bool} (hE : PureE Try.prog 58 (.bool rv) E)
    (h : ((-9223372036854775808 ≤ n - 1 ∧ n - 1 ≤ 9223372036854775807) ∧ (((within x.by_ 0 (n - 1)) = false → rv = false) ∧ ((within x.by_ 0 (n - 1)) = true → (((amount x.c) = false → rv = false) ∧ ((amount x.c) = true → ((((x.fr.length : Nat) : Int) = 0 → rv = false) ∧ (¬ (((x.fr.length : Nat) : Int) = 0) → f58G0 E n x (-1) 0)))))))) : G Try.prog E [.code (bodyAt Try.prog 58)] ⟨[.int .i64 n, .agg [.int .i64 x.by_, .int .i64 x.c, .rsl (rowI x.fr) 0 x.fr.length]] ++ unds (Try.f58.ntmps - 2), []⟩ := by
  obtain ⟨q0_0, h⟩ := h
  rcases Bool.eq_false_or_eq_true (!(within x.by_ 0 (n - 1))) with hc0 | hc0
  · have h := h.1 (bnT hc0)
    exact p58_start_0 n x    hE q0_0 (pureF_of Try.func49 (by kernel_rfl) f49b (within_ok x.by_ 0 (n - 1))) hc0 (AvLe.of_eq (by rw [h]; try rfl))
  · have h := h.2 (bnF hc0)
    rcases Bool.eq_false_or_eq_true (!(amount x.c)) with hc1 | hc1
    · have h := h.1 (bnT hc1)
      exact p58_start_1 n x    hE q0_0 (pureF_of Try.func49 (by kernel_rfl) f49b (within_ok x.by_ 0 (n - 1))) hc0 (pureF_of Try.func41 (by kernel_rfl) f41b (amount_ok x.c)) hc1 (AvLe.of_eq (by rw [h]; try rfl))
    · have h := h.2 (bnF hc1)
      rcases Bool.eq_false_or_eq_true (((x.fr.length : Nat) : Int) == 0) with hc2 | hc2
      · have h := h.1 (eq_of_beq hc2)
        exact p58_start_2 n x    hE q0_0 (pureF_of Try.func49 (by kernel_rfl) f49b (within_ok x.by_ 0 (n - 1))) hc0 (pureF_of Try.func41 (by kernel_rfl) f41b (amount_ok x.c)) hc1 hc2 (AvLe.of_eq (by rw [h]; try rfl))
      · have h := h.2 (ne_of_beq_false hc2)
        exact p58_start_3 n x    hE q0_0 (pureF_of Try.func49 (by kernel_rfl) f49b (within_ok x.by_ 0 (n - 1))) hc0 (pureF_of Try.func41 (by kernel_rfl) f41b (amount_ok x.c)) hc1 hc2 h
theorem p58_0_0 (n : Int) (x : Spn) (last : Int) (i : Nat)  (e : Int)  {E : Env} {res : AV} (hE : PureE Try.prog 58 res E) (o0 : (decide (((i : Nat) : Int) < ((x.fr.length : Nat) : Int))) = true) (o2 : 0 ≤ ((i : Nat) : Int) ∧ ((i : Nat) : Int) < ((x.fr.length : Nat) : Int)) (o3 : ((rowI x.fr).drop (0 + (Int.toNat ((i : Nat) : Int)) * 1)).take 1 = [.int .i64 e]) (o4 : (decide (e ≤ last)) = true)
    (hr : AvLe (.bool false) res) : G Try.prog E (f58K0 Try.prog) (f58S0 n x last i ) :=
  end_stepL (n := 400) (evs := [.b true, .ld (.int .i64 e), .b true, .b true]) (obs := [(decide (((i : Nat) : Int) < ((x.fr.length : Nat) : Int))) = true, 0 ≤ ((i : Nat) : Int) ∧ ((i : Nat) : Int) < ((x.fr.length : Nat) : Int), ((rowI x.fr).drop (0 + (Int.toNat ((i : Nat) : Int)) * 1)).take 1 = [.int .i64 e], (decide (e ≤ last)) = true, true = true]) hE Try.func58 mixed (by kernel_rfl) ⟨o0, o2, o3, o4, (rfl), trivial⟩ hr
theorem p58_0_1 (n : Int) (x : Spn) (last : Int) (i : Nat)  (e : Int)  {E : Env} {res : AV} (hE : PureE Try.prog 58 res E) (o0 : (decide (((i : Nat) : Int) < ((x.fr.length : Nat) : Int))) = true) (o2 : 0 ≤ ((i : Nat) : Int) ∧ ((i : Nat) : Int) < ((x.fr.length : Nat) : Int)) (o3 : ((rowI x.fr).drop (0 + (Int.toNat ((i : Nat) : Int)) * 1)).take 1 = [.int .i64 e]) (o4 : (decide (e ≤ last)) = false) (o5 : (decide (e ≥ n)) = true)
    (hr : AvLe (.bool false) res) : G Try.prog E (f58K0 Try.prog) (f58S0 n x last i ) :=
  end_stepL (n := 400) (evs := [.b true, .ld (.int .i64 e), .b false, .b true]) (obs := [(decide (((i : Nat) : Int) < ((x.fr.length : Nat) : Int))) = true, 0 ≤ ((i : Nat) : Int) ∧ ((i : Nat) : Int) < ((x.fr.length : Nat) : Int), ((rowI x.fr).drop (0 + (Int.toNat ((i : Nat) : Int)) * 1)).take 1 = [.int .i64 e], (decide (e ≤ last)) = false, (decide (e ≥ n)) = true]) hE Try.func58 mixed (by kernel_rfl) ⟨o0, o2, o3, o4, o5, trivial⟩ hr
theorem p58_0_2 (n : Int) (x : Spn) (last : Int) (i : Nat)  (e : Int)  {E : Env} {rv : AV} (hE : PureE Try.prog 58 rv E) (o0 : (decide (((i : Nat) : Int) < ((x.fr.length : Nat) : Int))) = true) (o2 : 0 ≤ ((i : Nat) : Int) ∧ ((i : Nat) : Int) < ((x.fr.length : Nat) : Int)) (o3 : ((rowI x.fr).drop (0 + (Int.toNat ((i : Nat) : Int)) * 1)).take 1 = [.int .i64 e]) (o4 : (decide (e ≤ last)) = false) (o5 : (decide (e ≥ n)) = false) (o6 : InR .i64 (((i : Nat) : Int) + 1))
    (hg : G Try.prog E (f58K0 Try.prog) ⟨[.int .i64 n, .junk, .junk, .junk, .junk, .int .i64 e, .junk, .junk, .junk, .junk, .junk, .junk, .junk, .junk, .junk, .junk, .junk, .junk, .junk, .junk, .junk, .junk, .junk, .junk, .junk, .junk, .junk, .rsl (rowI x.fr) 0 x.fr.length, .int .i64 ((x.fr.length : Nat) : Int), .int .i64 (((i : Nat) : Int) + 1), .junk, .junk, .junk, .junk, .junk, .junk, .junk, .junk, .junk, .junk, .junk, .junk, .junk], [⟨true, 0, 1, true, [.int .i64 x.by_, .int .i64 x.c, .rsl (rowI x.fr) 0 x.fr.length], false⟩]⟩) : G Try.prog E (f58K0 Try.prog) (f58S0 n x last i ) :=
  segC_step (n := 400) (ds := []) (cs := []) (live := [0, 5, 27, 28, 29]) (m := 1) (evs := [.b true, .ld (.int .i64 e), .b false, .b false, .stop]) (obs := [(decide (((i : Nat) : Int) < ((x.fr.length : Nat) : Int))) = true, 0 ≤ ((i : Nat) : Int) ∧ ((i : Nat) : Int) < ((x.fr.length : Nat) : Int), ((rowI x.fr).drop (0 + (Int.toNat ((i : Nat) : Int)) * 1)).take 1 = [.int .i64 e], (decide (e ≤ last)) = false, (decide (e ≥ n)) = false, InR .i64 (((i : Nat) : Int) + 1)]) hE.2.1 (hE.nogh _) mixed (by kernel_rfl) ⟨o0, o2, o3, o4, o5, o6, trivial⟩ hg
theorem p58_0_3 (n : Int) (x : Spn) (last : Int) (i : Nat)   {E : Env} {res : AV} (hE : PureE Try.prog 58 res E) (o0 : (decide (((i : Nat) : Int) < ((x.fr.length : Nat) : Int))) = false)
    (hr : AvLe (.bool true) res) : G Try.prog E (f58K0 Try.prog) (f58S0 n x last i ) :=
  end_stepL (n := 400) (evs := [.b false]) (obs := [(decide (((i : Nat) : Int) < ((x.fr.length : Nat) : Int))) = false]) hE Try.func58 mixed (by kernel_rfl) ⟨o0, trivial⟩ hr
theorem f58W0 (n : Int) (x : Spn) (last : Int) (i : Nat) {E : Env} {rv : Bool} (hE : PureE Try.prog 58 (.bool rv) E)
    (h : ((((i : Nat) : Int) < ((x.fr.length : Nat) : Int) → (∃ e : Int, x.fr[i]? = some e ∧ ((e ≤ last → rv = false) ∧ (¬ (e ≤ last) → ((e ≥ n → rv = false) ∧ (¬ (e ≥ n) → ((-9223372036854775808 ≤ ((i : Nat) : Int) + 1 ∧ ((i : Nat) : Int) + 1 ≤ 9223372036854775807) ∧ f58G0 E n x e (i + 1)))))))) ∧ (¬ (((i : Nat) : Int) < ((x.fr.length : Nat) : Int)) → rv = true))) : f58G0 E n x last i := by
  rcases Bool.eq_false_or_eq_true (decide (((i : Nat) : Int) < ((x.fr.length : Nat) : Int))) with hc0 | hc0
  · have h := h.1 (of_decide_eq_true hc0)
    obtain ⟨e, h1, h⟩ := h
    rcases Bool.eq_false_or_eq_true (decide (e ≤ last)) with hc1 | hc1
    · have h := h.1 (of_decide_eq_true hc1)
      exact p58_0_0 n x last i  e hE hc0 (idx_ok h1) (row_part cI (s := 1) (k := 0) (m := 1) (fun _ => rfl) (by decide) h1) hc1 (AvLe.of_eq (by rw [h]; try rfl))
    · have h := h.2 (of_decide_eq_false hc1)
      rcases Bool.eq_false_or_eq_true (decide (e ≥ n)) with hc2 | hc2
      · have h := h.1 (of_decide_eq_true hc2)
        exact p58_0_1 n x last i  e hE hc0 (idx_ok h1) (row_part cI (s := 1) (k := 0) (m := 1) (fun _ => rfl) (by decide) h1) hc1 hc2 (AvLe.of_eq (by rw [h]; try rfl))
      · have h := h.2 (of_decide_eq_false hc2)
        obtain ⟨q6_3, h⟩ := h
        exact p58_0_2 n x last i  e hE hc0 (idx_ok h1) (row_part cI (s := 1) (k := 0) (m := 1) (fun _ => rfl) (by decide) h1) hc1 hc2 q6_3 h
  · have h := h.2 (of_decide_eq_false hc0)
    exact p58_0_3 n x last i   hE hc0 (AvLe.of_eq (by rw [h]; try rfl))
def incFrom (n : Int) : Int → List Int → Bool
  | _, [] => true
  | last, e :: r => !decide (e ≤ last) && (!decide (e ≥ n) && incFrom n e r)
def spnOk (n : Int) (x : Spn) : Bool := within x.by_ 0 (n - 1) && (amount x.c && (!decide (x.fr.length = 0) && incFrom n (-1) x.fr))

theorem spent_ok (n : Int) (x : Spn) (h : 1 ≤ n ∧ n ≤ 10 ∧ x.fr.length ≤ 9223372036854775807) : Pure Try.prog 58 [.int .i64 n, .agg [.int .i64 x.by_, .int .i64 x.c, .rsl (rowI x.fr) 0 x.fr.length]] (.bool (spnOk n x)) := pure_of Try.func58 f58b fun E hE => by
  refine f58W n x (rv := spnOk n x) hE ⟨by omega, fun h1 => by simp [spnOk, h1], fun h1 => ⟨fun h2 => by simp [spnOk, h2], fun h2 => ⟨fun h3 => ?_, fun h3 => ?_⟩⟩⟩
  · have : x.fr.length = 0 := by omega
    simp [spnOk, this]
  have hn : ¬ x.fr.length = 0 := by omega
  have hr : spnOk n x = incFrom n (-1) x.fr := by simp [spnOk, h1, h2, hn]
  have key : ∀ (d i : Nat) (last : Int), i + d = x.fr.length → spnOk n x = incFrom n last (x.fr.drop i) → f58G0 E n x last i := by
    intro d
    induction d with
    | zero =>
      intro i last hd hr
      rw [List.drop_eq_nil_of_le (by omega)] at hr
      exact f58W0 n x last i (rv := spnOk n x) hE ⟨fun h => by omega, fun _ => hr⟩
    | succ d ih =>
      intro i last hd hr
      have hi : x.fr[i]? = some x.fr[i] := List.getElem?_eq_getElem (by omega)
      rw [List.drop_eq_getElem_cons (by omega)] at hr
      simp only [incFrom] at hr
      exact f58W0 n x last i (rv := spnOk n x) hE ⟨fun _ => ⟨_, hi, fun h4 => by rw [hr]; simp [h4], fun h4 => ⟨fun h5 => by rw [hr]; simp [h5], fun h5 => ⟨by omega, ih (i + 1) _ (by omega) (by rw [hr]; simp [h4, h5])⟩⟩⟩, fun h => by omega⟩
  exact key x.fr.length 0 (-1) (by omega) hr

end Go.Proofs.Ytmdbebbibecidaa

namespace Go.Proofs.Ytmdbebbibecidaa
open Go Ax
open Go.Proofs


def checkSpK (n : Int) (l : List Spn) : Int := if within n 1 10 = false then 1 else if ((l.length : Nat) : Int) > 60 then 2 else if l.any (fun x => !spnOk n x) = true then 110 else 0

theorem f57b : Try.f57.body = some (bodyAt Try.prog 57) := by kernel_rfl
theorem p57_start_0 (x : Spn) (n : Int)   {E : Env} {res : AV} (hE : PureE Try.prog 57 res E) (o0 : PureF Try.prog (.clos 58 [] []) [.int .i64 n, .agg [.int .i64 x.by_, .int .i64 x.c, .rsl (rowI x.fr) 0 x.fr.length]] (.bool (spnOk n x)))
    (hr : AvLe (.bool (!(spnOk n x))) res) : G Try.prog E [.code (bodyAt Try.prog 57)] ⟨[.agg [.int .i64 x.by_, .int .i64 x.c, .rsl (rowI x.fr) 0 x.fr.length], .rptr [.int .i64 n] 0] ++ unds (Try.f57.ntmps - 2), []⟩ :=
  end_stepL (n := 400) (evs := [.v (.bool (spnOk n x))]) (obs := [PureF Try.prog (.clos 58 [] []) [.int .i64 n, .agg [.int .i64 x.by_, .int .i64 x.c, .rsl (rowI x.fr) 0 x.fr.length]] (.bool (spnOk n x))]) hE Try.func57 mixed (by kernel_rfl) ⟨o0, trivial⟩ hr
theorem f57W (x : Spn) (n : Int) {E : Env} {rv : Bool} (hE : PureE Try.prog 57 (.bool rv) E)
    (h : ((1 ≤ n ∧ n ≤ 10 ∧ x.fr.length ≤ 9223372036854775807) ∧ rv = (!(spnOk n x)))) : G Try.prog E [.code (bodyAt Try.prog 57)] ⟨[.agg [.int .i64 x.by_, .int .i64 x.c, .rsl (rowI x.fr) 0 x.fr.length], .rptr [.int .i64 n] 0] ++ unds (Try.f57.ntmps - 2), []⟩ := by
  obtain ⟨h1, h⟩ := h
  exact p57_start_0 x n    hE (pureF_of Try.func58 (by kernel_rfl) f58b (spent_ok n x h1)) (AvLe.of_eq (by rw [h]; try rfl))

theorem notSpn_ok (n : Int) (x : Spn) (h : 1 ≤ n ∧ n ≤ 10 ∧ x.fr.length ≤ 9223372036854775807) : Pure Try.prog 57 [.agg [.int .i64 x.by_, .int .i64 x.c, .rsl (rowI x.fr) 0 x.fr.length], .rptr [.int .i64 n] 0] (.bool (!spnOk n x)) := pure_of Try.func57 f57b fun E hE => f57W x n (rv := !spnOk n x) hE ⟨h, rfl⟩

def idxS (p : Spn → Bool) (l : List Spn) : Int := match l.findIdx? p with
  | some i => (i : Int)
  | none => -1
theorem idxS_from (p : Spn → Bool) (l : List Spn) : ∀ (d i : Nat), i + d = l.length → (∀ j x, j < i → l[j]? = some x → p x = false) → ∀ (Q : Nat → Prop), (∀ i, i < l.length → (∀ x, l[i]? = some x → (p x = true → idxS p l = i)) → (∀ x, l[i]? = some x → p x = false → Q (i + 1)) → Q i) →
    ((∀ x ∈ l, p x = false) → idxS p l = -1 → Q l.length) → Q i := by
  intro d
  induction d with
  | zero =>
    intro i hi hp Q h1 h2
    have : i = l.length := by omega
    subst this
    have hall : ∀ x ∈ l, p x = false := fun x hx => by
      obtain ⟨j, hj⟩ := List.getElem?_of_mem hx
      exact hp j x (List.getElem?_eq_some_iff.1 hj).1 hj
    exact h2 hall (by simp only [idxS]; rw [List.findIdx?_eq_none_iff.2 hall])
  | succ d ih =>
    intro i hi hp Q h1 h2
    refine h1 i (by omega) (fun x hx hpx => ?_) (fun x hx hpx => ih (i + 1) (by omega) (fun j y hj hy => ?_) Q h1 h2)
    · have : l.findIdx? p = some i := by
        rw [List.findIdx?_eq_some_iff_getElem]
        have hlt := (List.getElem?_eq_some_iff.1 hx).1
        have he := (List.getElem?_eq_some_iff.1 hx).2
        refine ⟨hlt, by rw [he]; exact hpx, fun j hj => ?_⟩
        have := hp j _ hj (List.getElem?_eq_getElem (by omega))
        simp [this]
      simp only [idxS, this]
    · rcases Nat.lt_or_ge j i with h | h
      · exact hp j y h hy
      · have : j = i := by omega
        subst this
        rw [hx] at hy; cases hy; exact hpx
theorem idxS_any (p : Spn → Bool) (l : List Spn) : decide (idxS p l ≥ 0) = l.any p := by
  cases h : l.findIdx? p with
  | none =>
    have e : idxS p l = -1 := by simp only [idxS, h]
    rw [e]
    rw [List.findIdx?_eq_none_iff] at h
    rw [show l.any p = false from by simpa using fun x hx => by simpa using h x hx]; rfl
  | some i =>
    have e : idxS p l = (i : Int) := by simp only [idxS, h]
    rw [e]
    have := List.findIdx?_eq_some_iff_getElem.1 h
    obtain ⟨h1, h2, -⟩ := this
    have : l.any p = true := by rw [List.any_eq_true]; exact ⟨l[i], List.getElem_mem _, h2⟩
    rw [this]; simp

theorem f70b : Try.f70.body = some (bodyAt Try.prog 70) := by kernel_rfl
def f70K0 (P : Program) : List Item := kAt 400 [.code (bodyAt P 70)] [.stop]
def f70S0 (l : (List Spn)) (n : Int) (i : Nat)  : St := ⟨[.rsl (rowSpn l) 0 l.length, .clos 57 [] [.rptr [.int .i64 n] 0], .junk, .junk, .junk, .junk, .junk, .int .i64 ((l.length : Nat) : Int), .int .i64 ((i : Nat) : Int), .junk, .junk, .junk, .junk, .junk, .junk, .junk, .junk, .junk, .junk], []⟩
def f70G0 (E : Env) (l : (List Spn)) (n : Int) (i : Nat) : Prop := G Try.prog E (f70K0 Try.prog) (f70S0 l n i )
theorem p70_start_0 (l : (List Spn)) (n : Int)   {E : Env} {rv : AV} (hE : PureE Try.prog 70 rv E) 
    (hg : G Try.prog E (f70K0 Try.prog) ⟨[.rsl (rowSpn l) 0 l.length, .clos 57 [] [.rptr [.int .i64 n] 0], .junk, .junk, .junk, .junk, .junk, .int .i64 ((l.length : Nat) : Int), .int .i64 0, .junk, .junk, .junk, .junk, .junk, .junk, .junk, .junk, .junk, .junk], []⟩) : G Try.prog E [.code (bodyAt Try.prog 70)] ⟨[.rsl (rowSpn l) 0 l.length, .clos 57 [] [.rptr [.int .i64 n] 0]] ++ unds (Try.f70.ntmps - 2), []⟩ :=
  segC_step (n := 400) (ds := []) (cs := []) (live := [0, 1, 7, 8]) (m := 0) (evs := [.stop]) (obs := []) hE.2.1 (hE.nogh _) mixed (by kernel_rfl) trivial hg
theorem f70W (l : (List Spn)) (n : Int) {E : Env} {rv : Int} (hE : PureE Try.prog 70 (.int .i64 rv) E)
    (h : f70G0 E l n 0) : G Try.prog E [.code (bodyAt Try.prog 70)] ⟨[.rsl (rowSpn l) 0 l.length, .clos 57 [] [.rptr [.int .i64 n] 0]] ++ unds (Try.f70.ntmps - 2), []⟩ := by
  exact p70_start_0 l n    hE  h
theorem p70_0_0 (l : (List Spn)) (n : Int) (i : Nat)  (se : Spn)  {E : Env} {res : AV} (hE : PureE Try.prog 70 res E) (o0 : (decide (((i : Nat) : Int) < ((l.length : Nat) : Int))) = true) (o2 : 0 ≤ ((i : Nat) : Int) ∧ ((i : Nat) : Int) < ((l.length : Nat) : Int)) (o3 : ((rowSpn l).drop (0 + (Int.toNat ((i : Nat) : Int)) * 3)).take 3 = [.int .i64 se.by_, .int .i64 se.c, .rsl (rowI se.fr) 0 se.fr.length]) (o4 : PureF Try.prog (.clos 57 [] [.rptr [.int .i64 n] 0]) [.agg [.int .i64 se.by_, .int .i64 se.c, .rsl (rowI se.fr) 0 se.fr.length]] (.bool (!spnOk n se))) (o5 : (!spnOk n se) = true)
    (hr : AvLe (.int .i64 ((i : Nat) : Int)) res) : G Try.prog E (f70K0 Try.prog) (f70S0 l n i ) :=
  end_stepL (n := 400) (evs := [.b true, .ld (.agg [.int .i64 se.by_, .int .i64 se.c, .rsl (rowI se.fr) 0 se.fr.length]), .v (.bool (!spnOk n se)), .b true]) (obs := [(decide (((i : Nat) : Int) < ((l.length : Nat) : Int))) = true, 0 ≤ ((i : Nat) : Int) ∧ ((i : Nat) : Int) < ((l.length : Nat) : Int), ((rowSpn l).drop (0 + (Int.toNat ((i : Nat) : Int)) * 3)).take 3 = [.int .i64 se.by_, .int .i64 se.c, .rsl (rowI se.fr) 0 se.fr.length], PureF Try.prog (.clos 57 [] [.rptr [.int .i64 n] 0]) [.agg [.int .i64 se.by_, .int .i64 se.c, .rsl (rowI se.fr) 0 se.fr.length]] (.bool (!spnOk n se)), (!spnOk n se) = true]) hE Try.func70 mixed (by kernel_rfl) ⟨o0, o2, o3, o4, o5, trivial⟩ hr
theorem p70_0_1 (l : (List Spn)) (n : Int) (i : Nat)  (se : Spn)  {E : Env} {rv : AV} (hE : PureE Try.prog 70 rv E) (o0 : (decide (((i : Nat) : Int) < ((l.length : Nat) : Int))) = true) (o2 : 0 ≤ ((i : Nat) : Int) ∧ ((i : Nat) : Int) < ((l.length : Nat) : Int)) (o3 : ((rowSpn l).drop (0 + (Int.toNat ((i : Nat) : Int)) * 3)).take 3 = [.int .i64 se.by_, .int .i64 se.c, .rsl (rowI se.fr) 0 se.fr.length]) (o4 : PureF Try.prog (.clos 57 [] [.rptr [.int .i64 n] 0]) [.agg [.int .i64 se.by_, .int .i64 se.c, .rsl (rowI se.fr) 0 se.fr.length]] (.bool (!spnOk n se))) (o5 : (!spnOk n se) = false) (o6 : InR .i64 (((i : Nat) : Int) + 1))
    (hg : G Try.prog E (f70K0 Try.prog) ⟨[.rsl (rowSpn l) 0 l.length, .clos 57 [] [.rptr [.int .i64 n] 0], .junk, .junk, .junk, .junk, .junk, .int .i64 ((l.length : Nat) : Int), .int .i64 (((i : Nat) : Int) + 1), .junk, .junk, .junk, .junk, .junk, .junk, .junk, .junk, .junk, .junk], []⟩) : G Try.prog E (f70K0 Try.prog) (f70S0 l n i ) :=
  segC_step (n := 400) (ds := []) (cs := []) (live := [0, 1, 7, 8]) (m := 0) (evs := [.b true, .ld (.agg [.int .i64 se.by_, .int .i64 se.c, .rsl (rowI se.fr) 0 se.fr.length]), .v (.bool (!spnOk n se)), .b false, .stop]) (obs := [(decide (((i : Nat) : Int) < ((l.length : Nat) : Int))) = true, 0 ≤ ((i : Nat) : Int) ∧ ((i : Nat) : Int) < ((l.length : Nat) : Int), ((rowSpn l).drop (0 + (Int.toNat ((i : Nat) : Int)) * 3)).take 3 = [.int .i64 se.by_, .int .i64 se.c, .rsl (rowI se.fr) 0 se.fr.length], PureF Try.prog (.clos 57 [] [.rptr [.int .i64 n] 0]) [.agg [.int .i64 se.by_, .int .i64 se.c, .rsl (rowI se.fr) 0 se.fr.length]] (.bool (!spnOk n se)), (!spnOk n se) = false, InR .i64 (((i : Nat) : Int) + 1)]) hE.2.1 (hE.nogh _) mixed (by kernel_rfl) ⟨o0, o2, o3, o4, o5, o6, trivial⟩ hg
theorem p70_0_2 (l : (List Spn)) (n : Int) (i : Nat)   {E : Env} {res : AV} (hE : PureE Try.prog 70 res E) (o0 : (decide (((i : Nat) : Int) < ((l.length : Nat) : Int))) = false)
    (hr : AvLe (.int .i64 (-1)) res) : G Try.prog E (f70K0 Try.prog) (f70S0 l n i ) :=
  end_stepL (n := 400) (evs := [.b false]) (obs := [(decide (((i : Nat) : Int) < ((l.length : Nat) : Int))) = false]) hE Try.func70 mixed (by kernel_rfl) ⟨o0, trivial⟩ hr
theorem f70W0 (l : (List Spn)) (n : Int) (i : Nat) {E : Env} {rv : Int} (hE : PureE Try.prog 70 (.int .i64 rv) E)
    (h : ((((i : Nat) : Int) < ((l.length : Nat) : Int) → (∃ se : Spn, l[i]? = some se ∧ ((1 ≤ n ∧ n ≤ 10 ∧ se.fr.length ≤ 9223372036854775807) ∧ (((!spnOk n se) = true → rv = ((i : Nat) : Int)) ∧ ((!spnOk n se) = false → ((-9223372036854775808 ≤ ((i : Nat) : Int) + 1 ∧ ((i : Nat) : Int) + 1 ≤ 9223372036854775807) ∧ f70G0 E l n (i + 1))))))) ∧ (¬ (((i : Nat) : Int) < ((l.length : Nat) : Int)) → rv = (-1)))) : f70G0 E l n i := by
  rcases Bool.eq_false_or_eq_true (decide (((i : Nat) : Int) < ((l.length : Nat) : Int))) with hc0 | hc0
  · have h := h.1 (of_decide_eq_true hc0)
    obtain ⟨se, h1, h⟩ := h
    obtain ⟨h2, h⟩ := h
    rcases Bool.eq_false_or_eq_true (!spnOk n se) with hc1 | hc1
    · have h := h.1 hc1
      exact p70_0_0 l n i  se hE hc0 (idx_ok h1) (row_part cSpn (s := 3) (k := 0) (m := 3) (fun _ => rfl) (by decide) h1) (pureF_of Try.func57 (by kernel_rfl) f57b (notSpn_ok n se h2)) hc1 (AvLe.of_eq (by rw [h]; try rfl))
    · have h := h.2 hc1
      obtain ⟨q6_2, h⟩ := h
      exact p70_0_1 l n i  se hE hc0 (idx_ok h1) (row_part cSpn (s := 3) (k := 0) (m := 3) (fun _ => rfl) (by decide) h1) (pureF_of Try.func57 (by kernel_rfl) f57b (notSpn_ok n se h2)) hc1 q6_2 h
  · have h := h.2 (of_decide_eq_false hc0)
    exact p70_0_2 l n i   hE hc0 (AvLe.of_eq (by rw [h]; try rfl))

theorem idxSpn_ok (l : List Spn) (n : Int) (h : 1 ≤ n ∧ n ≤ 10 ∧ l.length ≤ 1000 ∧ ∀ x ∈ l, x.fr.length ≤ 9223372036854775807) : Pure Try.prog 70 [.rsl (rowSpn l) 0 l.length, .clos 57 [] [.rptr [.int .i64 n] 0]] (.int .i64 (idxS (fun x => !spnOk n x) l)) := pure_of Try.func70 f70b fun E hE => by
  refine f70W l n hE (idxS_from (fun x => !spnOk n x) l l.length 0 (by omega) (fun j x hj => by omega) (fun i => f70G0 E l n i) (fun i hi h1 h2 => ?_) (fun _ h2 => ?_))
  · have hx : l[i]? = some l[i] := List.getElem?_eq_getElem hi
    exact f70W0 l n i hE ⟨fun _ => ⟨_, hx, ⟨h.1, h.2.1, h.2.2.2 _ (List.mem_of_getElem? hx)⟩, fun hp => h1 _ hx hp, fun hp => ⟨by omega, h2 _ hx hp⟩⟩, fun h => by omega⟩
  · exact f70W0 l n _ hE ⟨fun h => by omega, fun _ => h2⟩

theorem f56b : Try.f56.body = some (bodyAt Try.prog 56) := by kernel_rfl
theorem p56_start_0 (l : (List Spn)) (n : Int)   {E : Env} {res : AV} (hE : PureE Try.prog 56 res E) (o0 : PureF Try.prog (.clos 70 [] []) [.rsl (rowSpn l) 0 l.length, .clos 57 [] [.rptr [.int .i64 n] 0]] (.int .i64 (idxS (fun x => !spnOk n x) l)))
    (hr : AvLe (.bool (decide ((idxS (fun x => !spnOk n x) l) ≥ 0))) res) : G Try.prog E [.code (bodyAt Try.prog 56)] ⟨[.rsl (rowSpn l) 0 l.length, .clos 57 [] [.rptr [.int .i64 n] 0]] ++ unds (Try.f56.ntmps - 2), []⟩ :=
  end_stepL (n := 400) (evs := [.v (.int .i64 (idxS (fun x => !spnOk n x) l))]) (obs := [PureF Try.prog (.clos 70 [] []) [.rsl (rowSpn l) 0 l.length, .clos 57 [] [.rptr [.int .i64 n] 0]] (.int .i64 (idxS (fun x => !spnOk n x) l))]) hE Try.func56 mixed (by kernel_rfl) ⟨o0, trivial⟩ hr
theorem f56W (l : (List Spn)) (n : Int) {E : Env} {rv : Bool} (hE : PureE Try.prog 56 (.bool rv) E)
    (h : ((1 ≤ n ∧ n ≤ 10 ∧ l.length ≤ 1000 ∧ ∀ x ∈ l, x.fr.length ≤ 9223372036854775807) ∧ rv = (decide ((idxS (fun x => !spnOk n x) l) ≥ 0)))) : G Try.prog E [.code (bodyAt Try.prog 56)] ⟨[.rsl (rowSpn l) 0 l.length, .clos 57 [] [.rptr [.int .i64 n] 0]] ++ unds (Try.f56.ntmps - 2), []⟩ := by
  obtain ⟨h1, h⟩ := h
  exact p56_start_0 l n    hE (pureF_of Try.func70 (by kernel_rfl) f70b (idxSpn_ok l n h1)) (AvLe.of_eq (by rw [h]; try rfl))

theorem anySpn_ok (l : List Spn) (n : Int) (h : 1 ≤ n ∧ n ≤ 10 ∧ l.length ≤ 1000 ∧ ∀ x ∈ l, x.fr.length ≤ 9223372036854775807) : Pure Try.prog 56 [.rsl (rowSpn l) 0 l.length, .clos 57 [] [.rptr [.int .i64 n] 0]] (.bool (l.any fun x => !spnOk n x)) := pure_of Try.func56 f56b fun E hE =>
  f56W l n hE ⟨h, (idxS_any _ _).symm⟩

theorem f32b : Try.f32.body = some (bodyAt Try.prog 32) := by kernel_rfl
def f32K0 (P : Program) : List Item := kAt 400 [.code (bodyAt P 32)] [.b false, .b false, .b false, .stop]
def f32S0 (n : Int) (l : (List Spn)) (v1 : List Int) (i : Nat) (g1 : Nat) : St := ⟨[.junk, .junk, .junk, .junk, .junk, .junk, .sl 1 g1 0 v1.length 1, .junk, .junk, .junk, .junk, .junk, .junk, .junk, .junk, .junk, .junk, .junk, .junk, .junk, .junk, .junk, .rsl (rowSpn l) 0 l.length, .int .i64 ((l.length : Nat) : Int), .int .i64 ((i : Nat) : Int), .junk, .junk, .junk, .junk, .junk, .junk, .junk, .junk, .junk, .junk, .junk, .junk, .junk, .junk, .junk, .junk, .junk, .junk, .junk, .junk, .junk, .junk, .junk, .junk, .junk, .junk, .junk, .junk, .junk, .junk, .junk, .junk, .junk, .junk, .junk, .junk, .junk, .junk, .junk, .junk, .junk, .junk, .junk, .junk, .junk, .junk, .junk, .junk, .junk], [⟨true, 0, 1, true, [.int .i64 n], false⟩, ⟨true, g1, 1, true, (rowI v1), true⟩]⟩
def f32G0 (E : Env) (n : Int) (l : (List Spn)) (v1 : List Int) (i : Nat) : Prop := ∀ g1 : Nat, G Try.prog E (f32K0 Try.prog) (f32S0 n l v1 i g1)
def f32K1 (P : Program) : List Item := kAt 400 [.code (bodyAt P 32)] [.b false, .b false, .b false, .b true, .stop]
def f32S1 (n : Int) (l : (List Spn)) (k : (List Int)) (k1 : Nat) (v1 : List Int) (v2_0 : Int) (v2_1 : Int) (v2_2 : (List Int)) (k11 : Nat) (k111 : Nat) (g1 : Nat) : St := ⟨[.junk, .junk, .junk, .junk, .junk, .junk, .sl 1 g1 0 v1.length 1, .junk, .ptr 2 0 0, .junk, .junk, .junk, .junk, .junk, .junk, .junk, .junk, .junk, .junk, .junk, .junk, .junk, .rsl (rowSpn l) 0 l.length, .int .i64 ((l.length : Nat) : Int), .int .i64 ((k111 : Nat) : Int), .junk, .junk, .junk, .junk, .junk, .junk, .junk, .junk, .junk, .junk, .junk, .junk, .junk, .rsl (rowI k) 0 k.length, .int .i64 ((k1 : Nat) : Int), .int .i64 ((k11 : Nat) : Int), .junk, .junk, .junk, .junk, .junk, .junk, .junk, .junk, .junk, .junk, .junk, .junk, .junk, .junk, .junk, .junk, .junk, .junk, .junk, .junk, .junk, .junk, .junk, .junk, .junk, .junk, .junk, .junk, .junk, .junk, .junk, .junk, .junk], [⟨true, 0, 1, true, [.int .i64 n], false⟩, ⟨true, g1, 1, true, (rowI v1), true⟩, ⟨true, 0, 1, true, [.int .i64 v2_0, .int .i64 v2_1, .rsl (rowI v2_2) 0 v2_2.length], false⟩]⟩
def f32G1 (E : Env) (n : Int) (l : (List Spn)) (k : (List Int)) (k1 : Nat) (v1 : List Int) (v2_0 : Int) (v2_1 : Int) (v2_2 : (List Int)) (k11 : Nat) (k111 : Nat) : Prop := ∀ g1 : Nat, G Try.prog E (f32K1 Try.prog) (f32S1 n l k k1 v1 v2_0 v2_1 v2_2 k11 k111 g1)
theorem p32_start_0 (n : Int) (l : (List Spn))   {E : Env} {res : AV} (hE : PureE Try.prog 32 res E) (o0 : PureF Try.prog (.clos 49 [] []) [.int .i64 n, .int .i64 1, .int .i64 10] (.bool (within n 1 10))) (o1 : (!(within n 1 10)) = true)
    (hr : AvLe (.tup [.nilSl, .int .i64 1]) res) : G Try.prog E [.code (bodyAt Try.prog 32)] ⟨[.int .i64 n, .rsl (rowSpn l) 0 l.length] ++ unds (Try.f32.ntmps - 2), []⟩ :=
  end_stepL (n := 400) (evs := [.v (.bool (within n 1 10)), .b true]) (obs := [PureF Try.prog (.clos 49 [] []) [.int .i64 n, .int .i64 1, .int .i64 10] (.bool (within n 1 10)), (!(within n 1 10)) = true]) hE Try.func32 mixed (by kernel_rfl) ⟨o0, o1, trivial⟩ hr
theorem p32_start_1 (n : Int) (l : (List Spn))   {E : Env} {res : AV} (hE : PureE Try.prog 32 res E) (o0 : PureF Try.prog (.clos 49 [] []) [.int .i64 n, .int .i64 1, .int .i64 10] (.bool (within n 1 10))) (o1 : (!(within n 1 10)) = false) (o2 : (decide (((l.length : Nat) : Int) > 60)) = true)
    (hr : AvLe (.tup [.nilSl, .int .i64 2]) res) : G Try.prog E [.code (bodyAt Try.prog 32)] ⟨[.int .i64 n, .rsl (rowSpn l) 0 l.length] ++ unds (Try.f32.ntmps - 2), []⟩ :=
  end_stepL (n := 400) (evs := [.v (.bool (within n 1 10)), .b false, .b true]) (obs := [PureF Try.prog (.clos 49 [] []) [.int .i64 n, .int .i64 1, .int .i64 10] (.bool (within n 1 10)), (!(within n 1 10)) = false, (decide (((l.length : Nat) : Int) > 60)) = true]) hE Try.func32 mixed (by kernel_rfl) ⟨o0, o1, o2, trivial⟩ hr
theorem p32_start_2 (n : Int) (l : (List Spn))   {E : Env} {res : AV} (hE : PureE Try.prog 32 res E) (o0 : PureF Try.prog (.clos 49 [] []) [.int .i64 n, .int .i64 1, .int .i64 10] (.bool (within n 1 10))) (o1 : (!(within n 1 10)) = false) (o2 : (decide (((l.length : Nat) : Int) > 60)) = false) (o3 : PureF Try.prog (.clos 56 [] []) [.rsl (rowSpn l) 0 l.length, .clos 57 [] [.rptr [.int .i64 n] 0]] (.bool (l.any (fun x => !spnOk n x)))) (o4 : (l.any (fun x => !spnOk n x)) = true)
    (hr : AvLe (.tup [.nilSl, .int .i64 110]) res) : G Try.prog E [.code (bodyAt Try.prog 32)] ⟨[.int .i64 n, .rsl (rowSpn l) 0 l.length] ++ unds (Try.f32.ntmps - 2), []⟩ :=
  end_stepL (n := 400) (evs := [.v (.bool (within n 1 10)), .b false, .b false, .v (.bool (l.any (fun x => !spnOk n x))), .b true]) (obs := [PureF Try.prog (.clos 49 [] []) [.int .i64 n, .int .i64 1, .int .i64 10] (.bool (within n 1 10)), (!(within n 1 10)) = false, (decide (((l.length : Nat) : Int) > 60)) = false, PureF Try.prog (.clos 56 [] []) [.rsl (rowSpn l) 0 l.length, .clos 57 [] [.rptr [.int .i64 n] 0]] (.bool (l.any (fun x => !spnOk n x))), (l.any (fun x => !spnOk n x)) = true]) hE Try.func32 mixed (by kernel_rfl) ⟨o0, o1, o2, o3, o4, trivial⟩ hr
theorem p32_start_3 (n : Int) (l : (List Spn))   {E : Env} {rv : AV} (hE : PureE Try.prog 32 rv E) (o0 : PureF Try.prog (.clos 49 [] []) [.int .i64 n, .int .i64 1, .int .i64 10] (.bool (within n 1 10))) (o1 : (!(within n 1 10)) = false) (o2 : (decide (((l.length : Nat) : Int) > 60)) = false) (o3 : PureF Try.prog (.clos 56 [] []) [.rsl (rowSpn l) 0 l.length, .clos 57 [] [.rptr [.int .i64 n] 0]] (.bool (l.any (fun x => !spnOk n x)))) (o4 : (l.any (fun x => !spnOk n x)) = false) (o5 : 0 ≤ n ∧ n ≤ n ∧ n ≤ 2147483648)
    (hg : G Try.prog E (f32K0 Try.prog) ⟨[.junk, .junk, .junk, .junk, .junk, .junk, .sl 1 0 0 (Int.toNat n) 1, .junk, .junk, .junk, .junk, .junk, .junk, .junk, .junk, .junk, .junk, .junk, .junk, .junk, .junk, .junk, .rsl (rowSpn l) 0 l.length, .int .i64 ((l.length : Nat) : Int), .int .i64 0, .junk, .junk, .junk, .junk, .junk, .junk, .junk, .junk, .junk, .junk, .junk, .junk, .junk, .junk, .junk, .junk, .junk, .junk, .junk, .junk, .junk, .junk, .junk, .junk, .junk, .junk, .junk, .junk, .junk, .junk, .junk, .junk, .junk, .junk, .junk, .junk, .junk, .junk, .junk, .junk, .junk, .junk, .junk, .junk, .junk, .junk, .junk, .junk, .junk], [⟨true, 0, 1, true, [.int .i64 n], false⟩, ⟨true, 0, 1, true, ((List.replicate (Int.toNat n) ([.int .i64 0] : List AV)).flatten), true⟩]⟩) : G Try.prog E [.code (bodyAt Try.prog 32)] ⟨[.int .i64 n, .rsl (rowSpn l) 0 l.length] ++ unds (Try.f32.ntmps - 2), []⟩ :=
  segC_step (n := 400) (ds := []) (cs := []) (live := [6, 22, 23, 24]) (m := 2) (evs := [.v (.bool (within n 1 10)), .b false, .b false, .v (.bool (l.any (fun x => !spnOk n x))), .b false, .stop]) (obs := [PureF Try.prog (.clos 49 [] []) [.int .i64 n, .int .i64 1, .int .i64 10] (.bool (within n 1 10)), (!(within n 1 10)) = false, (decide (((l.length : Nat) : Int) > 60)) = false, PureF Try.prog (.clos 56 [] []) [.rsl (rowSpn l) 0 l.length, .clos 57 [] [.rptr [.int .i64 n] 0]] (.bool (l.any (fun x => !spnOk n x))), (l.any (fun x => !spnOk n x)) = false, 0 ≤ n ∧ n ≤ n ∧ n ≤ 2147483648]) hE.2.1 (hE.nogh _) mixed (by kernel_rfl) ⟨o0, o1, o2, o3, o4, o5, trivial⟩ hg
theorem f32W (n : Int) (l : (List Spn)) {E : Env} {rv : ((List Int) × Int)} (hE : PureE Try.prog 32 (.tup [.rsl (rowI rv.1) 0 rv.1.length, .int .i64 rv.2]) E)
    (h : (((within n 1 10) = false → rv = (([] : List Int), 1)) ∧ ((within n 1 10) = true → ((((l.length : Nat) : Int) > 60 → rv = (([] : List Int), 2)) ∧ (¬ (((l.length : Nat) : Int) > 60) → ((1 ≤ n ∧ n ≤ 10 ∧ l.length ≤ 1000 ∧ ∀ x ∈ l, x.fr.length ≤ 9223372036854775807) ∧ (((l.any (fun x => !spnOk n x)) = true → rv = (([] : List Int), 110)) ∧ ((l.any (fun x => !spnOk n x)) = false → ((0 ≤ n ∧ n ≤ 2147483648) ∧ f32G0 E n l (List.replicate (Int.toNat n) (0 : Int)) 0))))))))) : G Try.prog E [.code (bodyAt Try.prog 32)] ⟨[.int .i64 n, .rsl (rowSpn l) 0 l.length] ++ unds (Try.f32.ntmps - 2), []⟩ := by
  rcases Bool.eq_false_or_eq_true (!(within n 1 10)) with hc0 | hc0
  · have h := h.1 (bnT hc0)
    exact p32_start_0 n l    hE (pureF_of Try.func49 (by kernel_rfl) f49b (within_ok n 1 10)) hc0 (by rw [h]; exact (tup_le ⟨nil_le, ⟨AvLe.of_eq rfl, trivial⟩⟩))
  · have h := h.2 (bnF hc0)
    rcases Bool.eq_false_or_eq_true (decide (((l.length : Nat) : Int) > 60)) with hc1 | hc1
    · have h := h.1 (of_decide_eq_true hc1)
      exact p32_start_1 n l    hE (pureF_of Try.func49 (by kernel_rfl) f49b (within_ok n 1 10)) hc0 hc1 (by rw [h]; exact (tup_le ⟨nil_le, ⟨AvLe.of_eq rfl, trivial⟩⟩))
    · have h := h.2 (of_decide_eq_false hc1)
      obtain ⟨h1, h⟩ := h
      rcases Bool.eq_false_or_eq_true (l.any (fun x => !spnOk n x)) with hc2 | hc2
      · have h := h.1 hc2
        exact p32_start_2 n l    hE (pureF_of Try.func49 (by kernel_rfl) f49b (within_ok n 1 10)) hc0 hc1 (pureF_of Try.func56 (by kernel_rfl) f56b (anySpn_ok l n h1)) hc2 (by rw [h]; exact (tup_le ⟨nil_le, ⟨AvLe.of_eq rfl, trivial⟩⟩))
      · have h := h.2 hc2
        obtain ⟨h2, h⟩ := h
        refine p32_start_3 n l    hE (pureF_of Try.func49 (by kernel_rfl) f49b (within_ok n 1 10)) hc0 hc1 (pureF_of Try.func56 (by kernel_rfl) f56b (anySpn_ok l n h1)) hc2 ⟨h2.1, by omega, h2.2⟩ ?_
        have h := (h 0)
        simp only [f32G0, f32S0, List.length_set, List.length_replicate] at h
        rw [(show (List.replicate (Int.toNat n) ([.int .i64 0] : List AV)).flatten = rowI (List.replicate (Int.toNat n) (0 : Int)) from row_rep cI _ _)]
        exact h
theorem p32_0_0 (n : Int) (l : (List Spn)) (v1 : List Int) (i : Nat) (g1 : Nat) (se : Spn) (e : Int)  {E : Env} {rv : AV} (hE : PureE Try.prog 32 rv E) (o0 : (decide (((i : Nat) : Int) < ((l.length : Nat) : Int))) = true) (o2 : 0 ≤ ((i : Nat) : Int) ∧ ((i : Nat) : Int) < ((l.length : Nat) : Int)) (o3 : ((rowSpn l).drop (0 + (Int.toNat ((i : Nat) : Int)) * 3)).take 3 = [.int .i64 se.by_, .int .i64 se.c, .rsl (rowI se.fr) 0 se.fr.length]) (o6 : 0 ≤ se.by_ ∧ se.by_ < ((v1.length : Nat) : Int)) (o9 : ((rowI v1).drop (0 + (Int.toNat se.by_) * 1)).take 1 = [.int .i64 e]) (o10 : InR .i64 (e + se.c)) (o11 : 0 ≤ se.by_ ∧ se.by_ < ((v1.length : Nat) : Int)) (o13 : ((0 + (Int.toNat se.by_) * 1) + 1) ≤ (rowI v1).length)
    (hg : G Try.prog E (f32K1 Try.prog) ⟨[.junk, .junk, .junk, .junk, .junk, .junk, .sl 1 g1 0 v1.length 1, .junk, .ptr 2 0 0, .junk, .junk, .junk, .junk, .junk, .junk, .junk, .junk, .junk, .junk, .junk, .junk, .junk, .rsl (rowSpn l) 0 l.length, .int .i64 ((l.length : Nat) : Int), .int .i64 ((i : Nat) : Int), .junk, .junk, .junk, .junk, .junk, .junk, .junk, .junk, .junk, .junk, .junk, .junk, .junk, .rsl (rowI se.fr) 0 se.fr.length, .int .i64 ((se.fr.length : Nat) : Int), .int .i64 0, .junk, .junk, .junk, .junk, .junk, .junk, .junk, .junk, .junk, .junk, .junk, .junk, .junk, .junk, .junk, .junk, .junk, .junk, .junk, .junk, .junk, .junk, .junk, .junk, .junk, .junk, .junk, .junk, .junk, .junk, .junk, .junk, .junk], [⟨true, 0, 1, true, [.int .i64 n], false⟩, ⟨true, g1, 1, true, (setAt (rowI v1) (0 + (Int.toNat se.by_) * 1) [.int .i64 (e + se.c)]), true⟩, ⟨true, 0, 1, true, [.int .i64 se.by_, .int .i64 se.c, .rsl (rowI se.fr) 0 se.fr.length], false⟩]⟩) : G Try.prog E (f32K0 Try.prog) (f32S0 n l v1 i g1) :=
  segC_step (n := 400) (ds := []) (cs := []) (live := [6, 8, 22, 23, 24, 38, 39, 40]) (m := 3) (evs := [.b true, .ld (.agg [.int .i64 se.by_, .int .i64 se.c, .rsl (rowI se.fr) 0 se.fr.length]), .auto, .ld (.int .i64 e), .stop]) (obs := [(decide (((i : Nat) : Int) < ((l.length : Nat) : Int))) = true, 0 ≤ ((i : Nat) : Int) ∧ ((i : Nat) : Int) < ((l.length : Nat) : Int), ((rowSpn l).drop (0 + (Int.toNat ((i : Nat) : Int)) * 3)).take 3 = [.int .i64 se.by_, .int .i64 se.c, .rsl (rowI se.fr) 0 se.fr.length], 3 ≤ 3, 0 ≤ se.by_ ∧ se.by_ < ((v1.length : Nat) : Int), g1 = g1, g1 = g1, ((rowI v1).drop (0 + (Int.toNat se.by_) * 1)).take 1 = [.int .i64 e], InR .i64 (e + se.c), 0 ≤ se.by_ ∧ se.by_ < ((v1.length : Nat) : Int), g1 = g1, ((0 + (Int.toNat se.by_) * 1) + 1) ≤ (rowI v1).length, g1 = g1]) hE.2.1 (hE.nogh _) mixed (by kernel_rfl) ⟨o0, o2, o3, (by decide), o6, (rfl), (rfl), o9, o10, o11, (rfl), o13, (rfl), trivial⟩ hg
theorem p32_0_1 (n : Int) (l : (List Spn)) (v1 : List Int) (i : Nat) (g1 : Nat)  {E : Env} {res : AV} (hE : PureE Try.prog 32 res E) (o0 : (decide (((i : Nat) : Int) < ((l.length : Nat) : Int))) = false)
    (hr : AvLe (.tup [.rsl (rowI v1) 0 v1.length, .int .i64 0]) res) : G Try.prog E (f32K0 Try.prog) (f32S0 n l v1 i g1) :=
  end_stepL (n := 400) (evs := [.b false]) (obs := [(decide (((i : Nat) : Int) < ((l.length : Nat) : Int))) = false, g1 = g1]) hE Try.func32 mixed (by kernel_rfl) ⟨o0, (rfl), trivial⟩ hr
theorem f32W0 (n : Int) (l : (List Spn)) (v1 : List Int) (i : Nat) {E : Env} {rv : ((List Int) × Int)} (hE : PureE Try.prog 32 (.tup [.rsl (rowI rv.1) 0 rv.1.length, .int .i64 rv.2]) E)
    (h : ((((i : Nat) : Int) < ((l.length : Nat) : Int) → (∃ se : Spn, l[i]? = some se ∧ (0 ≤ se.by_ ∧ (∃ e : Int, v1[Int.toNat se.by_]? = some e ∧ ((-9223372036854775808 ≤ e + se.c ∧ e + se.c ≤ 9223372036854775807) ∧ f32G1 E n l se.fr se.fr.length (v1.set (Int.toNat se.by_) (e + se.c)) se.by_ se.c se.fr 0 i))))) ∧ (¬ (((i : Nat) : Int) < ((l.length : Nat) : Int)) → rv = (v1, 0)))) : f32G0 E n l v1 i := by
  intro g1
  rcases Bool.eq_false_or_eq_true (decide (((i : Nat) : Int) < ((l.length : Nat) : Int))) with hc0 | hc0
  · have h := h.1 (of_decide_eq_true hc0)
    obtain ⟨se, h1, h⟩ := h
    obtain ⟨h3, h⟩ := h
    obtain ⟨e, h2, h⟩ := h
    obtain ⟨q10_1, h⟩ := h
    refine p32_0_0 n l v1 i g1 se e hE hc0 (idx_ok h1) (row_part cSpn (s := 3) (k := 0) (m := 3) (fun _ => rfl) (by decide) h1) (idx_ok' h3 h2) (row_part cI (s := 1) (k := 0) (m := 1) (fun _ => rfl) (by decide) h2) q10_1 (idx_ok' h3 h2) (row_fits cI (s := 1) (k := 0) (m := 1) (fun _ => rfl) (by decide) h2) ?_
    have h := (h g1)
    simp only [f32S1, List.length_set] at h
    rw [(show setAt (rowI v1) (0 + (Int.toNat se.by_) * 1) [.int .i64 (e + se.c)] = rowI (v1.set (Int.toNat se.by_) (e + se.c)) from row_set cI (s := 1) (k := 0) (fun _ => rfl) h2 rfl (by first | decide | simp))]
    exact h
  · have h := h.2 (of_decide_eq_false hc0)
    exact p32_0_1 n l v1 i g1  hE hc0 (AvLe.of_eq (by rw [h]; try rfl))
theorem p32_1_0 (n : Int) (l : (List Spn)) (k : (List Int)) (k1 : Nat) (v1 : List Int) (v2_0 : Int) (v2_1 : Int) (v2_2 : (List Int)) (k11 : Nat) (k111 : Nat) (g1 : Nat) (e : Int) (e1 : Int) (e2 : Int)  {E : Env} {rv : AV} (hE : PureE Try.prog 32 rv E) (o0 : (decide (((k11 : Nat) : Int) < ((k1 : Nat) : Int))) = true) (o2 : 0 ≤ ((k11 : Nat) : Int) ∧ ((k11 : Nat) : Int) < ((k.length : Nat) : Int)) (o3 : ((rowI k).drop (0 + (Int.toNat ((k11 : Nat) : Int)) * 1)).take 1 = [.int .i64 e]) (o5 : 0 ≤ e ∧ e < ((v1.length : Nat) : Int)) (o8 : ((rowI v1).drop (0 + (Int.toNat e) * 1)).take 1 = [.int .i64 e1]) (o9 : InR .i64 (Int.tdiv v2_1 ((v2_2.length : Nat) : Int))) (o10 : ((v2_2.length : Nat) : Int) ≠ 0) (o11 : InR .i64 (e1 - (Int.tdiv v2_1 ((v2_2.length : Nat) : Int)))) (o12 : 0 ≤ e ∧ e < ((v1.length : Nat) : Int)) (o14 : ((0 + (Int.toNat e) * 1) + 1) ≤ (rowI v1).length) (o16 : ((v2_2.length : Nat) : Int) ≠ 0) (o17 : (decide (((k11 : Nat) : Int) < (Int.tmod v2_1 ((v2_2.length : Nat) : Int)))) = true) (o19 : 0 ≤ e ∧ e < ((v1.length : Nat) : Int)) (o22 : ((setAt (rowI v1) (0 + (Int.toNat e) * 1) [.int .i64 (e1 - (Int.tdiv v2_1 ((v2_2.length : Nat) : Int)))]).drop (0 + (Int.toNat e) * 1)).take 1 = [.int .i64 e2]) (o23 : InR .i64 (e2 - 1)) (o24 : 0 ≤ e ∧ e < ((v1.length : Nat) : Int)) (o26 : ((0 + (Int.toNat e) * 1) + 1) ≤ (setAt (rowI v1) (0 + (Int.toNat e) * 1) [.int .i64 (e1 - (Int.tdiv v2_1 ((v2_2.length : Nat) : Int)))]).length) (o28 : InR .i64 (((k11 : Nat) : Int) + 1))
    (hg : G Try.prog E (f32K1 Try.prog) ⟨[.junk, .junk, .junk, .junk, .junk, .junk, .sl 1 g1 0 v1.length 1, .junk, .ptr 2 0 0, .junk, .junk, .junk, .junk, .junk, .junk, .junk, .junk, .junk, .junk, .junk, .junk, .junk, .rsl (rowSpn l) 0 l.length, .int .i64 ((l.length : Nat) : Int), .int .i64 ((k111 : Nat) : Int), .junk, .junk, .junk, .junk, .junk, .junk, .junk, .junk, .junk, .junk, .junk, .junk, .junk, .rsl (rowI k) 0 k.length, .int .i64 ((k1 : Nat) : Int), .int .i64 (((k11 : Nat) : Int) + 1), .junk, .junk, .junk, .junk, .junk, .junk, .junk, .junk, .junk, .junk, .junk, .junk, .junk, .junk, .junk, .junk, .junk, .junk, .junk, .junk, .junk, .junk, .junk, .junk, .junk, .junk, .junk, .junk, .junk, .junk, .junk, .junk, .junk], [⟨true, 0, 1, true, [.int .i64 n], false⟩, ⟨true, g1, 1, true, (setAt (setAt (rowI v1) (0 + (Int.toNat e) * 1) [.int .i64 (e1 - (Int.tdiv v2_1 ((v2_2.length : Nat) : Int)))]) (0 + (Int.toNat e) * 1) [.int .i64 (e2 - 1)]), true⟩, ⟨true, 0, 1, true, [.int .i64 v2_0, .int .i64 v2_1, .rsl (rowI v2_2) 0 v2_2.length], false⟩]⟩) : G Try.prog E (f32K1 Try.prog) (f32S1 n l k k1 v1 v2_0 v2_1 v2_2 k11 k111 g1) :=
  segC_step (n := 400) (ds := []) (cs := []) (live := [6, 8, 22, 23, 24, 38, 39, 40]) (m := 3) (evs := [.b true, .ld (.int .i64 e), .ld (.int .i64 e1), .b true, .ld (.int .i64 e2), .stop]) (obs := [(decide (((k11 : Nat) : Int) < ((k1 : Nat) : Int))) = true, 0 ≤ ((k11 : Nat) : Int) ∧ ((k11 : Nat) : Int) < ((k.length : Nat) : Int), ((rowI k).drop (0 + (Int.toNat ((k11 : Nat) : Int)) * 1)).take 1 = [.int .i64 e], 0 ≤ e ∧ e < ((v1.length : Nat) : Int), g1 = g1, g1 = g1, ((rowI v1).drop (0 + (Int.toNat e) * 1)).take 1 = [.int .i64 e1], InR .i64 (Int.tdiv v2_1 ((v2_2.length : Nat) : Int)), ((v2_2.length : Nat) : Int) ≠ 0, InR .i64 (e1 - (Int.tdiv v2_1 ((v2_2.length : Nat) : Int))), 0 ≤ e ∧ e < ((v1.length : Nat) : Int), g1 = g1, ((0 + (Int.toNat e) * 1) + 1) ≤ (rowI v1).length, g1 = g1, ((v2_2.length : Nat) : Int) ≠ 0, (decide (((k11 : Nat) : Int) < (Int.tmod v2_1 ((v2_2.length : Nat) : Int)))) = true, 0 ≤ e ∧ e < ((v1.length : Nat) : Int), g1 = g1, g1 = g1, ((setAt (rowI v1) (0 + (Int.toNat e) * 1) [.int .i64 (e1 - (Int.tdiv v2_1 ((v2_2.length : Nat) : Int)))]).drop (0 + (Int.toNat e) * 1)).take 1 = [.int .i64 e2], InR .i64 (e2 - 1), 0 ≤ e ∧ e < ((v1.length : Nat) : Int), g1 = g1, ((0 + (Int.toNat e) * 1) + 1) ≤ (setAt (rowI v1) (0 + (Int.toNat e) * 1) [.int .i64 (e1 - (Int.tdiv v2_1 ((v2_2.length : Nat) : Int)))]).length, g1 = g1, InR .i64 (((k11 : Nat) : Int) + 1)]) hE.2.1 (hE.nogh _) mixed (by kernel_rfl) ⟨o0, o2, o3, o5, (rfl), (rfl), o8, o9, o10, o11, o12, (rfl), o14, (rfl), o16, o17, o19, (rfl), (rfl), o22, o23, o24, (rfl), o26, (rfl), o28, trivial⟩ hg
theorem p32_1_1 (n : Int) (l : (List Spn)) (k : (List Int)) (k1 : Nat) (v1 : List Int) (v2_0 : Int) (v2_1 : Int) (v2_2 : (List Int)) (k11 : Nat) (k111 : Nat) (g1 : Nat) (e : Int) (e1 : Int)  {E : Env} {rv : AV} (hE : PureE Try.prog 32 rv E) (o0 : (decide (((k11 : Nat) : Int) < ((k1 : Nat) : Int))) = true) (o2 : 0 ≤ ((k11 : Nat) : Int) ∧ ((k11 : Nat) : Int) < ((k.length : Nat) : Int)) (o3 : ((rowI k).drop (0 + (Int.toNat ((k11 : Nat) : Int)) * 1)).take 1 = [.int .i64 e]) (o5 : 0 ≤ e ∧ e < ((v1.length : Nat) : Int)) (o8 : ((rowI v1).drop (0 + (Int.toNat e) * 1)).take 1 = [.int .i64 e1]) (o9 : InR .i64 (Int.tdiv v2_1 ((v2_2.length : Nat) : Int))) (o10 : ((v2_2.length : Nat) : Int) ≠ 0) (o11 : InR .i64 (e1 - (Int.tdiv v2_1 ((v2_2.length : Nat) : Int)))) (o12 : 0 ≤ e ∧ e < ((v1.length : Nat) : Int)) (o14 : ((0 + (Int.toNat e) * 1) + 1) ≤ (rowI v1).length) (o16 : ((v2_2.length : Nat) : Int) ≠ 0) (o17 : (decide (((k11 : Nat) : Int) < (Int.tmod v2_1 ((v2_2.length : Nat) : Int)))) = false) (o18 : InR .i64 (((k11 : Nat) : Int) + 1))
    (hg : G Try.prog E (f32K1 Try.prog) ⟨[.junk, .junk, .junk, .junk, .junk, .junk, .sl 1 g1 0 v1.length 1, .junk, .ptr 2 0 0, .junk, .junk, .junk, .junk, .junk, .junk, .junk, .junk, .junk, .junk, .junk, .junk, .junk, .rsl (rowSpn l) 0 l.length, .int .i64 ((l.length : Nat) : Int), .int .i64 ((k111 : Nat) : Int), .junk, .junk, .junk, .junk, .junk, .junk, .junk, .junk, .junk, .junk, .junk, .junk, .junk, .rsl (rowI k) 0 k.length, .int .i64 ((k1 : Nat) : Int), .int .i64 (((k11 : Nat) : Int) + 1), .junk, .junk, .junk, .junk, .junk, .junk, .junk, .junk, .junk, .junk, .junk, .junk, .junk, .junk, .junk, .junk, .junk, .junk, .junk, .junk, .junk, .junk, .junk, .junk, .junk, .junk, .junk, .junk, .junk, .junk, .junk, .junk, .junk], [⟨true, 0, 1, true, [.int .i64 n], false⟩, ⟨true, g1, 1, true, (setAt (rowI v1) (0 + (Int.toNat e) * 1) [.int .i64 (e1 - (Int.tdiv v2_1 ((v2_2.length : Nat) : Int)))]), true⟩, ⟨true, 0, 1, true, [.int .i64 v2_0, .int .i64 v2_1, .rsl (rowI v2_2) 0 v2_2.length], false⟩]⟩) : G Try.prog E (f32K1 Try.prog) (f32S1 n l k k1 v1 v2_0 v2_1 v2_2 k11 k111 g1) :=
  segC_step (n := 400) (ds := []) (cs := []) (live := [6, 8, 22, 23, 24, 38, 39, 40]) (m := 3) (evs := [.b true, .ld (.int .i64 e), .ld (.int .i64 e1), .b false, .stop]) (obs := [(decide (((k11 : Nat) : Int) < ((k1 : Nat) : Int))) = true, 0 ≤ ((k11 : Nat) : Int) ∧ ((k11 : Nat) : Int) < ((k.length : Nat) : Int), ((rowI k).drop (0 + (Int.toNat ((k11 : Nat) : Int)) * 1)).take 1 = [.int .i64 e], 0 ≤ e ∧ e < ((v1.length : Nat) : Int), g1 = g1, g1 = g1, ((rowI v1).drop (0 + (Int.toNat e) * 1)).take 1 = [.int .i64 e1], InR .i64 (Int.tdiv v2_1 ((v2_2.length : Nat) : Int)), ((v2_2.length : Nat) : Int) ≠ 0, InR .i64 (e1 - (Int.tdiv v2_1 ((v2_2.length : Nat) : Int))), 0 ≤ e ∧ e < ((v1.length : Nat) : Int), g1 = g1, ((0 + (Int.toNat e) * 1) + 1) ≤ (rowI v1).length, g1 = g1, ((v2_2.length : Nat) : Int) ≠ 0, (decide (((k11 : Nat) : Int) < (Int.tmod v2_1 ((v2_2.length : Nat) : Int)))) = false, InR .i64 (((k11 : Nat) : Int) + 1)]) hE.2.1 (hE.nogh _) mixed (by kernel_rfl) ⟨o0, o2, o3, o5, (rfl), (rfl), o8, o9, o10, o11, o12, (rfl), o14, (rfl), o16, o17, o18, trivial⟩ hg
theorem p32_1_2 (n : Int) (l : (List Spn)) (k : (List Int)) (k1 : Nat) (v1 : List Int) (v2_0 : Int) (v2_1 : Int) (v2_2 : (List Int)) (k11 : Nat) (k111 : Nat) (g1 : Nat)  {E : Env} {rv : AV} (hE : PureE Try.prog 32 rv E) (o0 : (decide (((k11 : Nat) : Int) < ((k1 : Nat) : Int))) = false) (o1 : InR .i64 (((k111 : Nat) : Int) + 1))
    (hg : G Try.prog E (f32K0 Try.prog) ⟨[.junk, .junk, .junk, .junk, .junk, .junk, .sl 1 g1 0 v1.length 1, .junk, .junk, .junk, .junk, .junk, .junk, .junk, .junk, .junk, .junk, .junk, .junk, .junk, .junk, .junk, .rsl (rowSpn l) 0 l.length, .int .i64 ((l.length : Nat) : Int), .int .i64 (((k111 : Nat) : Int) + 1), .junk, .junk, .junk, .junk, .junk, .junk, .junk, .junk, .junk, .junk, .junk, .junk, .junk, .junk, .junk, .junk, .junk, .junk, .junk, .junk, .junk, .junk, .junk, .junk, .junk, .junk, .junk, .junk, .junk, .junk, .junk, .junk, .junk, .junk, .junk, .junk, .junk, .junk, .junk, .junk, .junk, .junk, .junk, .junk, .junk, .junk, .junk, .junk, .junk], [⟨true, 0, 1, true, [.int .i64 n], false⟩, ⟨true, g1, 1, true, (rowI v1), true⟩]⟩) : G Try.prog E (f32K1 Try.prog) (f32S1 n l k k1 v1 v2_0 v2_1 v2_2 k11 k111 g1) :=
  segC_step (n := 400) (ds := []) (cs := []) (live := [6, 22, 23, 24]) (m := 2) (evs := [.b false, .stop]) (obs := [(decide (((k11 : Nat) : Int) < ((k1 : Nat) : Int))) = false, InR .i64 (((k111 : Nat) : Int) + 1)]) hE.2.1 (hE.nogh _) mixed (by kernel_rfl) ⟨o0, o1, trivial⟩ hg
theorem f32W1 (n : Int) (l : (List Spn)) (k : (List Int)) (k1 : Nat) (v1 : List Int) (v2_0 : Int) (v2_1 : Int) (v2_2 : (List Int)) (k11 : Nat) (k111 : Nat) {E : Env} {rv : ((List Int) × Int)} (hE : PureE Try.prog 32 (.tup [.rsl (rowI rv.1) 0 rv.1.length, .int .i64 rv.2]) E)
    (h : ((((k11 : Nat) : Int) < ((k1 : Nat) : Int) → (∃ e : Int, k[k11]? = some e ∧ (0 ≤ e ∧ (∃ e1 : Int, v1[Int.toNat e]? = some e1 ∧ ((-9223372036854775808 ≤ Int.tdiv v2_1 ((v2_2.length : Nat) : Int) ∧ Int.tdiv v2_1 ((v2_2.length : Nat) : Int) ≤ 9223372036854775807) ∧ (((v2_2.length : Nat) : Int) ≠ 0 ∧ ((-9223372036854775808 ≤ e1 - (Int.tdiv v2_1 ((v2_2.length : Nat) : Int)) ∧ e1 - (Int.tdiv v2_1 ((v2_2.length : Nat) : Int)) ≤ 9223372036854775807) ∧ (((v2_2.length : Nat) : Int) ≠ 0 ∧ ((((k11 : Nat) : Int) < (Int.tmod v2_1 ((v2_2.length : Nat) : Int)) → (0 ≤ e ∧ (∃ e2 : Int, (v1.set (Int.toNat e) (e1 - (Int.tdiv v2_1 ((v2_2.length : Nat) : Int))))[Int.toNat e]? = some e2 ∧ ((-9223372036854775808 ≤ e2 - 1 ∧ e2 - 1 ≤ 9223372036854775807) ∧ ((-9223372036854775808 ≤ ((k11 : Nat) : Int) + 1 ∧ ((k11 : Nat) : Int) + 1 ≤ 9223372036854775807) ∧ f32G1 E n l k k1 ((v1.set (Int.toNat e) (e1 - (Int.tdiv v2_1 ((v2_2.length : Nat) : Int)))).set (Int.toNat e) (e2 - 1)) v2_0 v2_1 v2_2 (k11 + 1) k111))))) ∧ (¬ (((k11 : Nat) : Int) < (Int.tmod v2_1 ((v2_2.length : Nat) : Int))) → ((-9223372036854775808 ≤ ((k11 : Nat) : Int) + 1 ∧ ((k11 : Nat) : Int) + 1 ≤ 9223372036854775807) ∧ f32G1 E n l k k1 (v1.set (Int.toNat e) (e1 - (Int.tdiv v2_1 ((v2_2.length : Nat) : Int)))) v2_0 v2_1 v2_2 (k11 + 1) k111))))))))))) ∧ (¬ (((k11 : Nat) : Int) < ((k1 : Nat) : Int)) → ((-9223372036854775808 ≤ ((k111 : Nat) : Int) + 1 ∧ ((k111 : Nat) : Int) + 1 ≤ 9223372036854775807) ∧ f32G0 E n l v1 (k111 + 1))))) : f32G1 E n l k k1 v1 v2_0 v2_1 v2_2 k11 k111 := by
  intro g1
  rcases Bool.eq_false_or_eq_true (decide (((k11 : Nat) : Int) < ((k1 : Nat) : Int))) with hc0 | hc0
  · have h := h.1 (of_decide_eq_true hc0)
    obtain ⟨e, h1, h⟩ := h
    obtain ⟨h3, h⟩ := h
    obtain ⟨e1, h2, h⟩ := h
    obtain ⟨q9_1, h⟩ := h
    obtain ⟨q10_1, h⟩ := h
    obtain ⟨q11_1, h⟩ := h
    obtain ⟨q16_1, h⟩ := h
    rcases Bool.eq_false_or_eq_true (decide (((k11 : Nat) : Int) < (Int.tmod v2_1 ((v2_2.length : Nat) : Int)))) with hc1 | hc1
    · have h := h.1 (of_decide_eq_true hc1)
      obtain ⟨h5, h⟩ := h
      obtain ⟨e2, h4, h⟩ := h
      obtain ⟨q23_2, h⟩ := h
      obtain ⟨q28_2, h⟩ := h
      refine p32_1_0 n l k k1 v1 v2_0 v2_1 v2_2 k11 k111 g1 e e1 e2 hE hc0 (idx_ok h1) (row_part cI (s := 1) (k := 0) (m := 1) (fun _ => rfl) (by decide) h1) (idx_ok' h3 h2) (row_part cI (s := 1) (k := 0) (m := 1) (fun _ => rfl) (by decide) h2) q9_1 q10_1 q11_1 (idx_ok' h3 h2) (row_fits cI (s := 1) (k := 0) (m := 1) (fun _ => rfl) (by decide) h2) q16_1 hc1 (by have hx := idx_ok' h5 h4; simpa using hx) (by rw [(show setAt (rowI v1) (0 + (Int.toNat e) * 1) [.int .i64 (e1 - (Int.tdiv v2_1 ((v2_2.length : Nat) : Int)))] = rowI (v1.set (Int.toNat e) (e1 - (Int.tdiv v2_1 ((v2_2.length : Nat) : Int)))) from row_set cI (s := 1) (k := 0) (fun _ => rfl) h2 rfl (by first | decide | simp))]; exact row_part cI (s := 1) (k := 0) (m := 1) (fun _ => rfl) (by decide) h4) q23_2 (by have hx := idx_ok' h5 h4; simpa using hx) (by rw [(show setAt (rowI v1) (0 + (Int.toNat e) * 1) [.int .i64 (e1 - (Int.tdiv v2_1 ((v2_2.length : Nat) : Int)))] = rowI (v1.set (Int.toNat e) (e1 - (Int.tdiv v2_1 ((v2_2.length : Nat) : Int)))) from row_set cI (s := 1) (k := 0) (fun _ => rfl) h2 rfl (by first | decide | simp))]; exact row_fits cI (s := 1) (k := 0) (m := 1) (fun _ => rfl) (by decide) h4) q28_2 ?_
      have h := (h g1)
      simp only [f32S1, List.length_set] at h
      rw [(show setAt (rowI v1) (0 + (Int.toNat e) * 1) [.int .i64 (e1 - (Int.tdiv v2_1 ((v2_2.length : Nat) : Int)))] = rowI (v1.set (Int.toNat e) (e1 - (Int.tdiv v2_1 ((v2_2.length : Nat) : Int)))) from row_set cI (s := 1) (k := 0) (fun _ => rfl) h2 rfl (by first | decide | simp))]; rw [(show setAt (rowI (v1.set (Int.toNat e) (e1 - (Int.tdiv v2_1 ((v2_2.length : Nat) : Int))))) (0 + (Int.toNat e) * 1) [.int .i64 (e2 - 1)] = rowI ((v1.set (Int.toNat e) (e1 - (Int.tdiv v2_1 ((v2_2.length : Nat) : Int)))).set (Int.toNat e) (e2 - 1)) from row_set cI (s := 1) (k := 0) (fun _ => rfl) h4 rfl (by first | decide | simp))]
      exact h
    · have h := h.2 (of_decide_eq_false hc1)
      obtain ⟨q18_2, h⟩ := h
      refine p32_1_1 n l k k1 v1 v2_0 v2_1 v2_2 k11 k111 g1 e e1 hE hc0 (idx_ok h1) (row_part cI (s := 1) (k := 0) (m := 1) (fun _ => rfl) (by decide) h1) (idx_ok' h3 h2) (row_part cI (s := 1) (k := 0) (m := 1) (fun _ => rfl) (by decide) h2) q9_1 q10_1 q11_1 (idx_ok' h3 h2) (row_fits cI (s := 1) (k := 0) (m := 1) (fun _ => rfl) (by decide) h2) q16_1 hc1 q18_2 ?_
      have h := (h g1)
      simp only [f32S1, List.length_set] at h
      rw [(show setAt (rowI v1) (0 + (Int.toNat e) * 1) [.int .i64 (e1 - (Int.tdiv v2_1 ((v2_2.length : Nat) : Int)))] = rowI (v1.set (Int.toNat e) (e1 - (Int.tdiv v2_1 ((v2_2.length : Nat) : Int)))) from row_set cI (s := 1) (k := 0) (fun _ => rfl) h2 rfl (by first | decide | simp))]
      exact h
  · have h := h.2 (of_decide_eq_false hc0)
    obtain ⟨q1_1, h⟩ := h
    exact p32_1_2 n l k k1 v1 v2_0 v2_1 v2_2 k11 k111 g1  hE hc0 q1_1 (h g1)
def owe (c : Int) (m k : Nat) : Int := Int.tdiv c m + if (k : Int) < Int.tmod c m then 1 else 0
def addTo (v : List Int) (i c : Int) : List Int := v.set (Int.toNat i) (v.getD (Int.toNat i) 0 + c)
def spFor (c : Int) (m : Nat) : Nat → List Int → List Int → List Int
  | _, [], v => v
  | k, p :: r, v => spFor c m (k + 1) r (addTo v p (-owe c m k))
def spDo (v : List Int) (x : Spn) : List Int := spFor x.c x.fr.length 0 x.fr (addTo v x.by_ x.c)
def balAll (l : List Spn) (v : List Int) : List Int := l.foldl spDo v
def balK (n : Int) (l : List Spn) : List Int × Int := if checkSpK n l = 0 then (balAll l (List.replicate (Int.toNat n) 0), 0) else ([], checkSpK n l)

theorem incFrom_of {n : Int} : ∀ {l : List Int} {last : Int}, incFrom n last l = true → (∀ p ∈ l, last < p ∧ p < n) ∧ (l ≠ [] → last + (l.length : Int) < n)
  | [], last, _ => by simp
  | e :: r, last, h => by
    simp only [incFrom, Bool.and_eq_true, Bool.not_eq_true', decide_eq_false_iff_not] at h
    obtain ⟨h1, h2, h3⟩ := h
    obtain ⟨q1, q2⟩ := incFrom_of h3
    refine ⟨fun p hp => ?_, fun _ => ?_⟩
    · rcases List.mem_cons.1 hp with rfl | hp
      · omega
      · have := q1 p hp; omega
    · by_cases hr : r = []
      · subst hr; simp; omega
      · have := q2 hr
        simp only [List.length_cons, Int.natCast_add]; omega

theorem spn_of {n : Int} {x : Spn} (h : spnOk n x = true) : (0 ≤ x.by_ ∧ x.by_ ≤ n - 1) ∧ (0 ≤ x.c ∧ x.c ≤ 1000000000) ∧ 0 < x.fr.length ∧ (∀ p ∈ x.fr, 0 ≤ p ∧ p < n) ∧ (x.fr.length : Int) ≤ n := by
  simp only [spnOk, Bool.and_eq_true, Bool.not_eq_true', decide_eq_false_iff_not] at h
  obtain ⟨h1, h2, h3, h4⟩ := h
  obtain ⟨q1, q2⟩ := incFrom_of h4
  have : x.fr ≠ [] := fun e => h3 (by rw [e]; rfl)
  have := q2 this
  exact ⟨within_iff.1 h1, within_iff.1 h2, by omega, fun p hp => by have := q1 p hp; omega, by omega⟩

theorem sp_zero {n : Int} {l : List Spn} (h : checkSpK n l = 0) : (1 ≤ n ∧ n ≤ 10) ∧ l.length ≤ 60 ∧ ∀ x ∈ l, spnOk n x = true := by
  simp only [checkSpK] at h
  split at h
  · cases h
  rename_i h1
  split at h
  · cases h
  rename_i h2
  split at h
  · cases h
  rename_i h3
  exact ⟨within_iff.1 (by simpa using h1), by omega, by simpa using h3⟩

theorem owe_bd {c : Int} {m k : Nat} (hc : 0 ≤ c ∧ c ≤ 1000000000) (hm : 0 < m) : (0 ≤ Int.tdiv c m ∧ Int.tdiv c m ≤ 1000000000) ∧ (0 ≤ owe c m k ∧ owe c m k ≤ 1000000001) := by
  have e : Int.tdiv c m = c / m := Int.tdiv_eq_ediv_of_nonneg hc.1
  have h1 := Int.ediv_nonneg hc.1 (show (0 : Int) ≤ m by omega)
  have h2 := Int.ediv_le_self (m : Int) hc.1
  rw [owe, e]
  refine ⟨by omega, ?_⟩
  split <;> omega

theorem at_get {v : List Int} {n i : Int} (hn : (v.length : Int) = n) (h0 : 0 ≤ i) (h : i < n) : v[Int.toNat i]? = some (v.getD (Int.toNat i) 0) := by simp [List.getD, show Int.toNat i < v.length by omega]

theorem addTo_bd {v : List Int} {n i c a b : Int} (hn : (v.length : Int) = n) (h0 : 0 ≤ i) (h : i < n) (hb : ∀ y ∈ v, -a ≤ y ∧ y ≤ b) (hc : -1000000001 ≤ c ∧ c ≤ 1000000001) : ∀ y ∈ addTo v i c, -(a + 1000000001) ≤ y ∧ y ≤ b + 1000000001 := fun y hy => by
  rcases List.mem_or_eq_of_mem_set hy with hy | rfl
  · have := hb y hy; omega
  · have := hb _ (List.mem_of_getElem? (at_get hn h0 h)); omega

theorem addTo_len {v : List Int} {i c : Int} : (addTo v i c).length = v.length := by simp [addTo]

theorem spFor_len {c : Int} {m : Nat} : ∀ {l : List Int} {k : Nat} {v : List Int}, (spFor c m k l v).length = v.length
  | [], k, v => rfl
  | p :: l, k, v => by rw [spFor, spFor_len, addTo_len]

theorem BalP_ok (n : Int) (l : List Spn) (h : l.length ≤ 9223372036854775807 ∧ ∀ x ∈ l, x.fr.length ≤ 9223372036854775807) : Pure Try.prog 32 [.int .i64 n, .rsl (rowSpn l) 0 l.length] (.tup [.rsl (rowI (balK n l).1) 0 (balK n l).1.length, .int .i64 (balK n l).2]) := pure_of Try.func32 f32b fun E hE => by
  refine f32W n l (rv := balK n l) hE ⟨fun h1 => by rw [balK, show checkSpK n l = 1 by rw [checkSpK, if_pos h1]]; rfl, fun h1 => ⟨fun h2 => by rw [balK, show checkSpK n l = 2 by rw [checkSpK, if_neg (by simp [h1]), if_pos h2]]; rfl, fun h2 => ?_⟩⟩
  have hn := within_iff.1 h1
  refine ⟨⟨hn.1, hn.2, by omega, h.2⟩, fun h3 => by rw [balK, show checkSpK n l = 110 by rw [checkSpK, if_neg (by simp [h1]), if_neg h2, if_pos h3]]; rfl, fun h3 => ⟨by omega, ?_⟩⟩
  have hz : checkSpK n l = 0 := by rw [checkSpK, if_neg (by simp [h1]), if_neg h2, if_neg (by simp [h3])]
  have hr : balK n l = (balAll l (List.replicate (Int.toNat n) 0), 0) := by rw [balK, if_pos hz]
  obtain ⟨-, hl, hs⟩ := sp_zero hz
  have key : ∀ (d i : Nat) (v : List Int), i + d = l.length → (v.length : Int) = n → (∀ y ∈ v, -(11000000011 * (i : Int)) ≤ y ∧ y ≤ 11000000011 * (i : Int)) → balK n l = (balAll (l.drop i) v, 0) → f32G0 E n l v i := by
    intro d
    induction d with
    | zero =>
      intro i v hd hv hb hk
      rw [List.drop_eq_nil_of_le (by omega)] at hk
      exact f32W0 n l v i (rv := balK n l) hE ⟨fun h => by omega, fun _ => hk⟩
    | succ d ih =>
      intro i v hd hv hb hk
      have hi : l[i]? = some l[i] := List.getElem?_eq_getElem (by omega)
      rw [List.drop_eq_getElem_cons (by omega)] at hk
      have hx := spn_of (hs _ (List.mem_of_getElem? hi))
      have hxl := h.2 _ (List.mem_of_getElem? hi)
      generalize l[i] = x at hi hk hx hxl
      obtain ⟨x1, x2, x3, x4, x5⟩ := hx
      have g1 := at_get hv x1.1 (by omega)
      have m1 := hb _ (List.mem_of_getElem? g1)
      refine f32W0 n l v i (rv := balK n l) hE ⟨fun _ => ⟨x, hi, x1.1, _, g1, by omega, ?_⟩, fun h => by omega⟩
      have inner : ∀ (d k : Nat) (v : List Int), k + d = x.fr.length → (v.length : Int) = n → (∀ y ∈ v, -(11000000011 * (i : Int) + 1000000001 * ((k : Int) + 1)) ≤ y ∧ y ≤ 11000000011 * (i : Int) + 1000000001 * ((k : Int) + 1)) → balK n l = (balAll (l.drop (i + 1)) (spFor x.c x.fr.length k (x.fr.drop k) v), 0) → f32G1 E n l x.fr x.fr.length v x.by_ x.c x.fr k i := by
        intro d
        induction d with
        | zero =>
          intro k v hd hv hb hk
          rw [show x.fr.drop k = [] from List.drop_eq_nil_of_le (by omega)] at hk
          exact f32W1 n l x.fr x.fr.length v x.by_ x.c x.fr k i (rv := balK n l) hE ⟨fun h => by omega, fun _ => ⟨by omega, ih (i + 1) v (by omega) hv (fun y hy => by have := hb y hy; omega) hk⟩⟩
        | succ d ih2 =>
          intro k v hd hv hb hk
          have hj : x.fr[k]? = some x.fr[k] := List.getElem?_eq_getElem (by omega)
          rw [show x.fr.drop k = x.fr[k] :: x.fr.drop (k + 1) from List.drop_eq_getElem_cons (by omega)] at hk
          have hp := x4 _ (List.mem_of_getElem? hj)
          generalize x.fr[k] = p at hj hk hp
          have g2 := at_get hv hp.1 hp.2
          have m2 := hb _ (List.mem_of_getElem? g2)
          obtain ⟨o1, o2⟩ := owe_bd (k := k) x2 x3
          have nb := addTo_bd (c := -owe x.c x.fr.length k) hv hp.1 hp.2 hb (by omega)
          have next := ih2 (k + 1) (addTo v p (-owe x.c x.fr.length k)) (by omega) (by rw [addTo_len]; exact hv) (fun y hy => by have := nb y hy; omega) hk
          refine f32W1 n l x.fr x.fr.length v x.by_ x.c x.fr k i (rv := balK n l) hE ⟨fun _ => ⟨p, hj, hp.1, _, g2, by omega, by omega, by omega, by omega, fun h4 => ⟨hp.1, v.getD (Int.toNat p) 0 - Int.tdiv x.c x.fr.length, ?_, by omega, by omega, ?_⟩, fun h4 => ⟨by omega, ?_⟩⟩, fun h => by omega⟩
          · rw [List.getElem?_set_self (by omega)]
          · rw [List.set_set]
            have : v.getD (Int.toNat p) 0 - Int.tdiv x.c x.fr.length - 1 = v.getD (Int.toNat p) 0 + -owe x.c x.fr.length k := by rw [owe, if_pos h4]; omega
            rw [this]; exact next
          · have : v.getD (Int.toNat p) 0 - Int.tdiv x.c x.fr.length = v.getD (Int.toNat p) 0 + -owe x.c x.fr.length k := by rw [owe, if_neg h4]; omega
            rw [this]; exact next
      have nb := addTo_bd (c := x.c) hv x1.1 (by omega) hb (by omega)
      exact inner x.fr.length 0 (addTo v x.by_ x.c) (by omega) (by rw [addTo_len]; exact hv) (fun y hy => by have := nb y hy; omega) hk
  exact key l.length 0 _ (by omega) (by simp; omega) (fun y hy => by rw [List.eq_of_mem_replicate hy]; omega) hr

end Go.Proofs.Ytmdbebbibecidaa

namespace Go.Proofs.Ytmdbebbibecidaa
open Go Ax
open Go.Proofs

theorem dSpn (W : World) : Dec Try.prog W 51 Spn cSpn (fun a => a.fr.length ≤ 9223372036854775807) := by
  refine Dec.map (dec_struct Try.underlying51 rfl (tot := 3) (by kernel_rfl) (decFs_cons (n := 1) (tot := 3) (by kernel_rfl) rfl (dec_i64 Try.underlying3) (decFs_cons (n := 1) (tot := 3) (by kernel_rfl) rfl (dec_i64 Try.underlying3) (decFs_cons (n := 1) (tot := 3) (by kernel_rfl) rfl (dInts W) decFs_nil (by decide)) (by decide)) (by decide))) (fun x => (⟨x.1, x.2.1, x.2.2.1⟩ : Spn)) ?_ ?_
  · exact fun _ => rfl
  · exact fun _ h => h.2.2.1
theorem dSpns (W : World) : Dec Try.prog W 47 (List Spn) (fun a => [.rsl (rowSpn a) 0 a.length]) (fun a => a.length ≤ 9223372036854775807 ∧ ∀ x ∈ a, x.fr.length ≤ 9223372036854775807) := by
  refine Dec.map (dec_slice Try.underlying47 (n := 3) (by kernel_rfl) (by decide) (fun _ => rfl) (fun _ => rfl) (dSpn W)) (fun x => x) ?_ ?_
  · exact fun _ => rfl
  · exact fun _ h => h
theorem f12b : Try.f12.body = some (bodyAt Try.prog 12) := by kernel_rfl
def f12K0 (P : Program) : List Item := kAt 400 [.code (bodyAt P 12)] [.b false, .b false, .stop]
def f12S0 (n : Int) (l : (List Spn)) (m : (List Spn)) (i : Nat)  : St := ⟨[.int .i64 n, .rsl (rowSpn l) 0 l.length, .junk, .junk, .junk, .junk, .junk, .rsl (rowI ((balK n l).1)) 0 (((balK n l).1).length), .junk, .rsl (rowI ((balK n m).1)) 0 (((balK n m).1).length), .junk, .rsl (rowI ((balK n (l ++ m)).1)) 0 (((balK n (l ++ m)).1).length), .int .i64 ((i : Nat) : Int), .junk, .junk, .junk, .junk, .junk, .junk, .junk, .junk, .junk, .junk, .junk, .junk, .junk, .junk, .junk, .junk, .junk, .junk, .junk, .junk, .junk, .junk, .junk, .junk, .junk, .junk, .junk, .junk, .junk, .junk, .junk, .junk, .junk, .junk, .junk, .junk, .junk, .junk, .junk, .junk, .junk, .junk, .junk, .junk, .junk, .junk, .junk, .junk, .junk, .junk, .junk, .junk, .junk, .junk, .junk, .junk, .junk, .junk, .junk, .junk, .junk, .junk, .junk, .junk, .junk, .junk, .junk, .junk, .junk, .junk, .junk, .junk, .junk, .junk, .junk, .junk, .junk, .junk, .junk, .junk, .junk, .junk, .junk, .junk, .junk, .junk, .junk, .junk, .junk, .junk, .junk, .junk, .junk, .junk, .junk, .junk, .junk, .junk, .junk, .junk, .junk, .junk, .junk, .junk, .junk, .junk, .junk, .junk, .junk, .junk, .junk, .junk, .junk, .junk, .junk, .junk, .junk, .junk, .junk, .junk, .junk, .junk, .junk, .junk, .junk, .junk, .junk, .junk, .junk, .junk, .junk, .junk, .junk, .junk, .junk, .junk, .junk], [⟨false, 2, 3, true, [], false⟩]⟩
def f12G0 (E : Env) (n : Int) (l : (List Spn)) (m : (List Spn)) (i : Nat) : Prop := G Try.prog E (f12K0 Try.prog) (f12S0 n l m i )
def f12K1 (P : Program) : List Item := kAt 400 [.code (bodyAt P 12)] [.b false, .b false, .b true, .b false, .stop]
def f12S1 (n : Int) (l : (List Spn)) (m : (List Spn)) (i : Nat) (touched : Bool) (k : Nat)  : St := ⟨[.int .i64 n, .rsl (rowSpn l) 0 l.length, .junk, .junk, .junk, .junk, .junk, .rsl (rowI ((balK n l).1)) 0 (((balK n l).1).length), .junk, .rsl (rowI ((balK n m).1)) 0 (((balK n m).1).length), .junk, .rsl (rowI ((balK n (l ++ m)).1)) 0 (((balK n (l ++ m)).1).length), .int .i64 ((i : Nat) : Int), .bool touched, .int .i64 ((k : Nat) : Int), .junk, .junk, .junk, .junk, .junk, .junk, .junk, .junk, .junk, .junk, .junk, .junk, .junk, .junk, .junk, .junk, .junk, .junk, .junk, .junk, .junk, .junk, .junk, .junk, .junk, .junk, .junk, .junk, .junk, .junk, .junk, .junk, .junk, .junk, .junk, .junk, .junk, .junk, .junk, .junk, .junk, .junk, .junk, .junk, .junk, .junk, .junk, .junk, .junk, .junk, .junk, .junk, .junk, .junk, .junk, .junk, .junk, .junk, .junk, .junk, .junk, .junk, .junk, .junk, .junk, .junk, .junk, .junk, .junk, .junk, .junk, .junk, .junk, .junk, .junk, .junk, .junk, .junk, .junk, .junk, .junk, .junk, .junk, .junk, .junk, .junk, .junk, .junk, .junk, .junk, .junk, .junk, .junk, .junk, .junk, .junk, .junk, .junk, .junk, .junk, .junk, .junk, .junk, .junk, .junk, .junk, .junk, .junk, .junk, .junk, .junk, .junk, .junk, .junk, .junk, .junk, .junk, .junk, .junk, .junk, .junk, .junk, .junk, .junk, .junk, .junk, .junk, .junk, .junk, .junk, .junk, .junk, .junk, .junk, .junk], [⟨false, 2, 3, true, [], false⟩]⟩
def f12G1 (E : Env) (n : Int) (l : (List Spn)) (m : (List Spn)) (i : Nat) (touched : Bool) (k : Nat) : Prop := G Try.prog E (f12K1 Try.prog) (f12S1 n l m i touched k )
def f12K2 (P : Program) : List Item := kAt 400 [.code (bodyAt P 12)] [.b false, .b false, .b true, .b false, .b true, .stop]
def f12S2 (n : Int) (l : (List Spn)) (m : (List Spn)) (touched : Bool) (i : Nat) (j : Nat) (k : Nat)  : St := ⟨[.int .i64 n, .rsl (rowSpn l) 0 l.length, .junk, .junk, .junk, .junk, .junk, .rsl (rowI ((balK n l).1)) 0 (((balK n l).1).length), .junk, .rsl (rowI ((balK n m).1)) 0 (((balK n m).1).length), .junk, .rsl (rowI ((balK n (l ++ m)).1)) 0 (((balK n (l ++ m)).1).length), .int .i64 ((i : Nat) : Int), .bool touched, .int .i64 ((k : Nat) : Int), .int .i64 ((j : Nat) : Int), .junk, .junk, .junk, .junk, .junk, .junk, .junk, .junk, .junk, .junk, .junk, .junk, .junk, .junk, .junk, .junk, .junk, .junk, .junk, .junk, .junk, .junk, .junk, .junk, .junk, .junk, .junk, .junk, .junk, .junk, .junk, .junk, .junk, .junk, .junk, .junk, .junk, .junk, .junk, .junk, .junk, .junk, .junk, .junk, .junk, .junk, .junk, .junk, .junk, .junk, .junk, .junk, .junk, .junk, .junk, .junk, .junk, .junk, .junk, .junk, .junk, .junk, .junk, .junk, .junk, .junk, .junk, .junk, .junk, .junk, .junk, .junk, .junk, .junk, .junk, .junk, .junk, .junk, .junk, .junk, .junk, .junk, .junk, .junk, .junk, .junk, .junk, .junk, .junk, .junk, .junk, .junk, .junk, .junk, .junk, .junk, .junk, .junk, .junk, .junk, .junk, .junk, .junk, .junk, .junk, .junk, .junk, .junk, .junk, .junk, .junk, .junk, .junk, .junk, .junk, .junk, .junk, .junk, .junk, .junk, .junk, .junk, .junk, .junk, .junk, .junk, .junk, .junk, .junk, .junk, .junk, .junk, .junk, .junk], [⟨false, 2, 3, true, [], false⟩]⟩
def f12G2 (E : Env) (n : Int) (l : (List Spn)) (m : (List Spn)) (touched : Bool) (i : Nat) (j : Nat) (k : Nat) : Prop := G Try.prog E (f12K2 Try.prog) (f12S2 n l m touched i j k )
theorem p12_start_0 (n : Int) (l : (List Spn)) (m : (List Spn))   {E : Env} {res : AV} (hE : PureE Try.prog 12 res E) (o0 : PureF Try.prog (.clos 32 [] []) [.int .i64 n, .rsl (rowSpn l) 0 l.length] (.tup [.rsl (rowI ((balK n l).1)) 0 (((balK n l).1).length), .int .i64 ((balK n l).2)])) (o1 : PureF Try.prog (.clos 32 [] []) [.int .i64 n, .rsl (rowSpn m) 0 m.length] (.tup [.rsl (rowI ((balK n m).1)) 0 (((balK n m).1).length), .int .i64 ((balK n m).2)])) (o2 : ((balK n l).2 != 0) = true) (o5 : PureF Try.prog (.clos 20 [] []) [] (.bool true))
    (hr : AvLe (.bool true) res) : G Try.prog E [.code (bodyAt Try.prog 12)] ⟨[.int .i64 n, .rsl (rowSpn l) 0 l.length, .rsl (rowSpn m) 0 m.length] ++ unds (Try.f12.ntmps - 3), []⟩ :=
  end_stepL (n := 400) (evs := [.v (.tup [.rsl (rowI ((balK n l).1)) 0 (((balK n l).1).length), .int .i64 ((balK n l).2)]), .v (.tup [.rsl (rowI ((balK n m).1)) 0 (((balK n m).1).length), .int .i64 ((balK n m).2)]), .b true, .b true, .b true, .v (.bool true)]) (obs := [PureF Try.prog (.clos 32 [] []) [.int .i64 n, .rsl (rowSpn l) 0 l.length] (.tup [.rsl (rowI ((balK n l).1)) 0 (((balK n l).1).length), .int .i64 ((balK n l).2)]), PureF Try.prog (.clos 32 [] []) [.int .i64 n, .rsl (rowSpn m) 0 m.length] (.tup [.rsl (rowI ((balK n m).1)) 0 (((balK n m).1).length), .int .i64 ((balK n m).2)]), ((balK n l).2 != 0) = true, true = true, true = true, PureF Try.prog (.clos 20 [] []) [] (.bool true)]) hE Try.func12 mixed (by kernel_rfl) ⟨o0, o1, o2, (rfl), (rfl), o5, trivial⟩ hr
theorem p12_start_1 (n : Int) (l : (List Spn)) (m : (List Spn))   {E : Env} {res : AV} (hE : PureE Try.prog 12 res E) (o0 : PureF Try.prog (.clos 32 [] []) [.int .i64 n, .rsl (rowSpn l) 0 l.length] (.tup [.rsl (rowI ((balK n l).1)) 0 (((balK n l).1).length), .int .i64 ((balK n l).2)])) (o1 : PureF Try.prog (.clos 32 [] []) [.int .i64 n, .rsl (rowSpn m) 0 m.length] (.tup [.rsl (rowI ((balK n m).1)) 0 (((balK n m).1).length), .int .i64 ((balK n m).2)])) (o2 : ((balK n l).2 != 0) = false) (o3 : ((balK n m).2 != 0) = true) (o5 : PureF Try.prog (.clos 20 [] []) [] (.bool true))
    (hr : AvLe (.bool true) res) : G Try.prog E [.code (bodyAt Try.prog 12)] ⟨[.int .i64 n, .rsl (rowSpn l) 0 l.length, .rsl (rowSpn m) 0 m.length] ++ unds (Try.f12.ntmps - 3), []⟩ :=
  end_stepL (n := 400) (evs := [.v (.tup [.rsl (rowI ((balK n l).1)) 0 (((balK n l).1).length), .int .i64 ((balK n l).2)]), .v (.tup [.rsl (rowI ((balK n m).1)) 0 (((balK n m).1).length), .int .i64 ((balK n m).2)]), .b false, .b true, .b true, .v (.bool true)]) (obs := [PureF Try.prog (.clos 32 [] []) [.int .i64 n, .rsl (rowSpn l) 0 l.length] (.tup [.rsl (rowI ((balK n l).1)) 0 (((balK n l).1).length), .int .i64 ((balK n l).2)]), PureF Try.prog (.clos 32 [] []) [.int .i64 n, .rsl (rowSpn m) 0 m.length] (.tup [.rsl (rowI ((balK n m).1)) 0 (((balK n m).1).length), .int .i64 ((balK n m).2)]), ((balK n l).2 != 0) = false, ((balK n m).2 != 0) = true, true = true, PureF Try.prog (.clos 20 [] []) [] (.bool true)]) hE Try.func12 mixed (by kernel_rfl) ⟨o0, o1, o2, o3, (rfl), o5, trivial⟩ hr
theorem p12_start_2 (n : Int) (l : (List Spn)) (m : (List Spn))   {E : Env} {res : AV} (hE : PureE Try.prog 12 res E) (o0 : PureF Try.prog (.clos 32 [] []) [.int .i64 n, .rsl (rowSpn l) 0 l.length] (.tup [.rsl (rowI ((balK n l).1)) 0 (((balK n l).1).length), .int .i64 ((balK n l).2)])) (o1 : PureF Try.prog (.clos 32 [] []) [.int .i64 n, .rsl (rowSpn m) 0 m.length] (.tup [.rsl (rowI ((balK n m).1)) 0 (((balK n m).1).length), .int .i64 ((balK n m).2)])) (o2 : ((balK n l).2 != 0) = false) (o3 : ((balK n m).2 != 0) = false) (o4 : InR .i64 (((l.length : Nat) : Int) + ((m.length : Nat) : Int))) (o5 : (decide ((((l.length : Nat) : Int) + ((m.length : Nat) : Int)) > 60)) = true) (o6 : PureF Try.prog (.clos 20 [] []) [] (.bool true))
    (hr : AvLe (.bool true) res) : G Try.prog E [.code (bodyAt Try.prog 12)] ⟨[.int .i64 n, .rsl (rowSpn l) 0 l.length, .rsl (rowSpn m) 0 m.length] ++ unds (Try.f12.ntmps - 3), []⟩ :=
  end_stepL (n := 400) (evs := [.v (.tup [.rsl (rowI ((balK n l).1)) 0 (((balK n l).1).length), .int .i64 ((balK n l).2)]), .v (.tup [.rsl (rowI ((balK n m).1)) 0 (((balK n m).1).length), .int .i64 ((balK n m).2)]), .b false, .b false, .b true, .v (.bool true)]) (obs := [PureF Try.prog (.clos 32 [] []) [.int .i64 n, .rsl (rowSpn l) 0 l.length] (.tup [.rsl (rowI ((balK n l).1)) 0 (((balK n l).1).length), .int .i64 ((balK n l).2)]), PureF Try.prog (.clos 32 [] []) [.int .i64 n, .rsl (rowSpn m) 0 m.length] (.tup [.rsl (rowI ((balK n m).1)) 0 (((balK n m).1).length), .int .i64 ((balK n m).2)]), ((balK n l).2 != 0) = false, ((balK n m).2 != 0) = false, InR .i64 (((l.length : Nat) : Int) + ((m.length : Nat) : Int)), (decide ((((l.length : Nat) : Int) + ((m.length : Nat) : Int)) > 60)) = true, PureF Try.prog (.clos 20 [] []) [] (.bool true)]) hE Try.func12 mixed (by kernel_rfl) ⟨o0, o1, o2, o3, o4, o5, o6, trivial⟩ hr
theorem p12_start_3 (n : Int) (l : (List Spn)) (m : (List Spn))   {E : Env} {res : AV} (hE : PureE Try.prog 12 res E) (o0 : PureF Try.prog (.clos 32 [] []) [.int .i64 n, .rsl (rowSpn l) 0 l.length] (.tup [.rsl (rowI ((balK n l).1)) 0 (((balK n l).1).length), .int .i64 ((balK n l).2)])) (o1 : PureF Try.prog (.clos 32 [] []) [.int .i64 n, .rsl (rowSpn m) 0 m.length] (.tup [.rsl (rowI ((balK n m).1)) 0 (((balK n m).1).length), .int .i64 ((balK n m).2)])) (o2 : ((balK n l).2 != 0) = false) (o3 : ((balK n m).2 != 0) = false) (o4 : InR .i64 (((l.length : Nat) : Int) + ((m.length : Nat) : Int))) (o5 : (decide ((((l.length : Nat) : Int) + ((m.length : Nat) : Int)) > 60)) = false) (o6 : l.length ≤ 2147483648) (o7 : ((rowSpn l).drop 0).take (l.length * 3) = (rowSpn l)) (o8 : (rowSpn l).length = (l.length * 3)) (o9 : noRefs (rowSpn l) = true) (o11 : (0 + (l.length * 3)) = (rowSpn l).length) (o12 : (l.length + m.length) ≤ 2147483648) (o13 : ((rowSpn m).drop 0).take (m.length * 3) = (rowSpn m)) (o14 : (rowSpn m).length = (m.length * 3)) (o15 : noRefs (rowSpn m) = true) (o16 : LentF Try.prog (.clos 32 [] []) [.int .i64 n, .sl 0 1 0 (l.length + m.length) 3] [⟨true, 1, 3, true, ((rowSpn l) ++ (rowSpn m)), true⟩] (.tup [.rsl (rowI ((balK n (l ++ m)).1)) 0 (((balK n (l ++ m)).1).length), .int .i64 ((balK n (l ++ m)).2)]) [⟨false, 2, 3, true, [], false⟩]) (o17 : ((balK n (l ++ m)).2 != 0) = true)
    (hr : AvLe (.bool false) res) : G Try.prog E [.code (bodyAt Try.prog 12)] ⟨[.int .i64 n, .rsl (rowSpn l) 0 l.length, .rsl (rowSpn m) 0 m.length] ++ unds (Try.f12.ntmps - 3), []⟩ :=
  end_stepL (n := 400) (evs := [.v (.tup [.rsl (rowI ((balK n l).1)) 0 (((balK n l).1).length), .int .i64 ((balK n l).2)]), .v (.tup [.rsl (rowI ((balK n m).1)) 0 (((balK n m).1).length), .int .i64 ((balK n m).2)]), .b false, .b false, .b false, .cs (rowSpn l), .cs (rowSpn m), .lent [0] (.tup [.rsl (rowI ((balK n (l ++ m)).1)) 0 (((balK n (l ++ m)).1).length), .int .i64 ((balK n (l ++ m)).2)]) [⟨false, 2, 3, true, [], false⟩], .b true, .b true, .b true, .b true, .b true, .b true]) (obs := [PureF Try.prog (.clos 32 [] []) [.int .i64 n, .rsl (rowSpn l) 0 l.length] (.tup [.rsl (rowI ((balK n l).1)) 0 (((balK n l).1).length), .int .i64 ((balK n l).2)]), PureF Try.prog (.clos 32 [] []) [.int .i64 n, .rsl (rowSpn m) 0 m.length] (.tup [.rsl (rowI ((balK n m).1)) 0 (((balK n m).1).length), .int .i64 ((balK n m).2)]), ((balK n l).2 != 0) = false, ((balK n m).2 != 0) = false, InR .i64 (((l.length : Nat) : Int) + ((m.length : Nat) : Int)), (decide ((((l.length : Nat) : Int) + ((m.length : Nat) : Int)) > 60)) = false, l.length ≤ 2147483648, ((rowSpn l).drop 0).take (l.length * 3) = (rowSpn l), (rowSpn l).length = (l.length * 3), noRefs (rowSpn l) = true, 0 = 0, (0 + (l.length * 3)) = (rowSpn l).length, (l.length + m.length) ≤ 2147483648, ((rowSpn m).drop 0).take (m.length * 3) = (rowSpn m), (rowSpn m).length = (m.length * 3), noRefs (rowSpn m) = true, LentF Try.prog (.clos 32 [] []) [.int .i64 n, .sl 0 1 0 (l.length + m.length) 3] [⟨true, 1, 3, true, ((rowSpn l) ++ (rowSpn m)), true⟩] (.tup [.rsl (rowI ((balK n (l ++ m)).1)) 0 (((balK n (l ++ m)).1).length), .int .i64 ((balK n (l ++ m)).2)]) [⟨false, 2, 3, true, [], false⟩], ((balK n (l ++ m)).2 != 0) = true, true = true, true = true, true = true, true = true, true = true]) hE Try.func12 mixed (by kernel_rfl) ⟨o0, o1, o2, o3, o4, o5, o6, o7, o8, o9, (rfl), o11, o12, o13, o14, o15, o16, o17, (rfl), (rfl), (rfl), (rfl), (rfl), trivial⟩ hr
theorem p12_start_4 (n : Int) (l : (List Spn)) (m : (List Spn))   {E : Env} {res : AV} (hE : PureE Try.prog 12 res E) (o0 : PureF Try.prog (.clos 32 [] []) [.int .i64 n, .rsl (rowSpn l) 0 l.length] (.tup [.rsl (rowI ((balK n l).1)) 0 (((balK n l).1).length), .int .i64 ((balK n l).2)])) (o1 : PureF Try.prog (.clos 32 [] []) [.int .i64 n, .rsl (rowSpn m) 0 m.length] (.tup [.rsl (rowI ((balK n m).1)) 0 (((balK n m).1).length), .int .i64 ((balK n m).2)])) (o2 : ((balK n l).2 != 0) = false) (o3 : ((balK n m).2 != 0) = false) (o4 : InR .i64 (((l.length : Nat) : Int) + ((m.length : Nat) : Int))) (o5 : (decide ((((l.length : Nat) : Int) + ((m.length : Nat) : Int)) > 60)) = false) (o6 : l.length ≤ 2147483648) (o7 : ((rowSpn l).drop 0).take (l.length * 3) = (rowSpn l)) (o8 : (rowSpn l).length = (l.length * 3)) (o9 : noRefs (rowSpn l) = true) (o11 : (0 + (l.length * 3)) = (rowSpn l).length) (o12 : (l.length + m.length) ≤ 2147483648) (o13 : ((rowSpn m).drop 0).take (m.length * 3) = (rowSpn m)) (o14 : (rowSpn m).length = (m.length * 3)) (o15 : noRefs (rowSpn m) = true) (o16 : LentF Try.prog (.clos 32 [] []) [.int .i64 n, .sl 0 1 0 (l.length + m.length) 3] [⟨true, 1, 3, true, ((rowSpn l) ++ (rowSpn m)), true⟩] (.tup [.rsl (rowI ((balK n (l ++ m)).1)) 0 (((balK n (l ++ m)).1).length), .int .i64 ((balK n (l ++ m)).2)]) [⟨false, 2, 3, true, [], false⟩]) (o17 : ((balK n (l ++ m)).2 != 0) = false) (o18 : (((((balK n l).1).length : Nat) : Int) != n) = true)
    (hr : AvLe (.bool false) res) : G Try.prog E [.code (bodyAt Try.prog 12)] ⟨[.int .i64 n, .rsl (rowSpn l) 0 l.length, .rsl (rowSpn m) 0 m.length] ++ unds (Try.f12.ntmps - 3), []⟩ :=
  end_stepL (n := 400) (evs := [.v (.tup [.rsl (rowI ((balK n l).1)) 0 (((balK n l).1).length), .int .i64 ((balK n l).2)]), .v (.tup [.rsl (rowI ((balK n m).1)) 0 (((balK n m).1).length), .int .i64 ((balK n m).2)]), .b false, .b false, .b false, .cs (rowSpn l), .cs (rowSpn m), .lent [0] (.tup [.rsl (rowI ((balK n (l ++ m)).1)) 0 (((balK n (l ++ m)).1).length), .int .i64 ((balK n (l ++ m)).2)]) [⟨false, 2, 3, true, [], false⟩], .b false, .b true, .b true, .b true, .b true, .b true]) (obs := [PureF Try.prog (.clos 32 [] []) [.int .i64 n, .rsl (rowSpn l) 0 l.length] (.tup [.rsl (rowI ((balK n l).1)) 0 (((balK n l).1).length), .int .i64 ((balK n l).2)]), PureF Try.prog (.clos 32 [] []) [.int .i64 n, .rsl (rowSpn m) 0 m.length] (.tup [.rsl (rowI ((balK n m).1)) 0 (((balK n m).1).length), .int .i64 ((balK n m).2)]), ((balK n l).2 != 0) = false, ((balK n m).2 != 0) = false, InR .i64 (((l.length : Nat) : Int) + ((m.length : Nat) : Int)), (decide ((((l.length : Nat) : Int) + ((m.length : Nat) : Int)) > 60)) = false, l.length ≤ 2147483648, ((rowSpn l).drop 0).take (l.length * 3) = (rowSpn l), (rowSpn l).length = (l.length * 3), noRefs (rowSpn l) = true, 0 = 0, (0 + (l.length * 3)) = (rowSpn l).length, (l.length + m.length) ≤ 2147483648, ((rowSpn m).drop 0).take (m.length * 3) = (rowSpn m), (rowSpn m).length = (m.length * 3), noRefs (rowSpn m) = true, LentF Try.prog (.clos 32 [] []) [.int .i64 n, .sl 0 1 0 (l.length + m.length) 3] [⟨true, 1, 3, true, ((rowSpn l) ++ (rowSpn m)), true⟩] (.tup [.rsl (rowI ((balK n (l ++ m)).1)) 0 (((balK n (l ++ m)).1).length), .int .i64 ((balK n (l ++ m)).2)]) [⟨false, 2, 3, true, [], false⟩], ((balK n (l ++ m)).2 != 0) = false, (((((balK n l).1).length : Nat) : Int) != n) = true, true = true, true = true, true = true, true = true]) hE Try.func12 mixed (by kernel_rfl) ⟨o0, o1, o2, o3, o4, o5, o6, o7, o8, o9, (rfl), o11, o12, o13, o14, o15, o16, o17, o18, (rfl), (rfl), (rfl), (rfl), trivial⟩ hr
theorem p12_start_5 (n : Int) (l : (List Spn)) (m : (List Spn))   {E : Env} {res : AV} (hE : PureE Try.prog 12 res E) (o0 : PureF Try.prog (.clos 32 [] []) [.int .i64 n, .rsl (rowSpn l) 0 l.length] (.tup [.rsl (rowI ((balK n l).1)) 0 (((balK n l).1).length), .int .i64 ((balK n l).2)])) (o1 : PureF Try.prog (.clos 32 [] []) [.int .i64 n, .rsl (rowSpn m) 0 m.length] (.tup [.rsl (rowI ((balK n m).1)) 0 (((balK n m).1).length), .int .i64 ((balK n m).2)])) (o2 : ((balK n l).2 != 0) = false) (o3 : ((balK n m).2 != 0) = false) (o4 : InR .i64 (((l.length : Nat) : Int) + ((m.length : Nat) : Int))) (o5 : (decide ((((l.length : Nat) : Int) + ((m.length : Nat) : Int)) > 60)) = false) (o6 : l.length ≤ 2147483648) (o7 : ((rowSpn l).drop 0).take (l.length * 3) = (rowSpn l)) (o8 : (rowSpn l).length = (l.length * 3)) (o9 : noRefs (rowSpn l) = true) (o11 : (0 + (l.length * 3)) = (rowSpn l).length) (o12 : (l.length + m.length) ≤ 2147483648) (o13 : ((rowSpn m).drop 0).take (m.length * 3) = (rowSpn m)) (o14 : (rowSpn m).length = (m.length * 3)) (o15 : noRefs (rowSpn m) = true) (o16 : LentF Try.prog (.clos 32 [] []) [.int .i64 n, .sl 0 1 0 (l.length + m.length) 3] [⟨true, 1, 3, true, ((rowSpn l) ++ (rowSpn m)), true⟩] (.tup [.rsl (rowI ((balK n (l ++ m)).1)) 0 (((balK n (l ++ m)).1).length), .int .i64 ((balK n (l ++ m)).2)]) [⟨false, 2, 3, true, [], false⟩]) (o17 : ((balK n (l ++ m)).2 != 0) = false) (o18 : (((((balK n l).1).length : Nat) : Int) != n) = false) (o19 : (((((balK n m).1).length : Nat) : Int) != n) = true)
    (hr : AvLe (.bool false) res) : G Try.prog E [.code (bodyAt Try.prog 12)] ⟨[.int .i64 n, .rsl (rowSpn l) 0 l.length, .rsl (rowSpn m) 0 m.length] ++ unds (Try.f12.ntmps - 3), []⟩ :=
  end_stepL (n := 400) (evs := [.v (.tup [.rsl (rowI ((balK n l).1)) 0 (((balK n l).1).length), .int .i64 ((balK n l).2)]), .v (.tup [.rsl (rowI ((balK n m).1)) 0 (((balK n m).1).length), .int .i64 ((balK n m).2)]), .b false, .b false, .b false, .cs (rowSpn l), .cs (rowSpn m), .lent [0] (.tup [.rsl (rowI ((balK n (l ++ m)).1)) 0 (((balK n (l ++ m)).1).length), .int .i64 ((balK n (l ++ m)).2)]) [⟨false, 2, 3, true, [], false⟩], .b false, .b false, .b true, .b true, .b true, .b true]) (obs := [PureF Try.prog (.clos 32 [] []) [.int .i64 n, .rsl (rowSpn l) 0 l.length] (.tup [.rsl (rowI ((balK n l).1)) 0 (((balK n l).1).length), .int .i64 ((balK n l).2)]), PureF Try.prog (.clos 32 [] []) [.int .i64 n, .rsl (rowSpn m) 0 m.length] (.tup [.rsl (rowI ((balK n m).1)) 0 (((balK n m).1).length), .int .i64 ((balK n m).2)]), ((balK n l).2 != 0) = false, ((balK n m).2 != 0) = false, InR .i64 (((l.length : Nat) : Int) + ((m.length : Nat) : Int)), (decide ((((l.length : Nat) : Int) + ((m.length : Nat) : Int)) > 60)) = false, l.length ≤ 2147483648, ((rowSpn l).drop 0).take (l.length * 3) = (rowSpn l), (rowSpn l).length = (l.length * 3), noRefs (rowSpn l) = true, 0 = 0, (0 + (l.length * 3)) = (rowSpn l).length, (l.length + m.length) ≤ 2147483648, ((rowSpn m).drop 0).take (m.length * 3) = (rowSpn m), (rowSpn m).length = (m.length * 3), noRefs (rowSpn m) = true, LentF Try.prog (.clos 32 [] []) [.int .i64 n, .sl 0 1 0 (l.length + m.length) 3] [⟨true, 1, 3, true, ((rowSpn l) ++ (rowSpn m)), true⟩] (.tup [.rsl (rowI ((balK n (l ++ m)).1)) 0 (((balK n (l ++ m)).1).length), .int .i64 ((balK n (l ++ m)).2)]) [⟨false, 2, 3, true, [], false⟩], ((balK n (l ++ m)).2 != 0) = false, (((((balK n l).1).length : Nat) : Int) != n) = false, (((((balK n m).1).length : Nat) : Int) != n) = true, true = true, true = true, true = true]) hE Try.func12 mixed (by kernel_rfl) ⟨o0, o1, o2, o3, o4, o5, o6, o7, o8, o9, (rfl), o11, o12, o13, o14, o15, o16, o17, o18, o19, (rfl), (rfl), (rfl), trivial⟩ hr
theorem p12_start_6 (n : Int) (l : (List Spn)) (m : (List Spn))   {E : Env} {res : AV} (hE : PureE Try.prog 12 res E) (o0 : PureF Try.prog (.clos 32 [] []) [.int .i64 n, .rsl (rowSpn l) 0 l.length] (.tup [.rsl (rowI ((balK n l).1)) 0 (((balK n l).1).length), .int .i64 ((balK n l).2)])) (o1 : PureF Try.prog (.clos 32 [] []) [.int .i64 n, .rsl (rowSpn m) 0 m.length] (.tup [.rsl (rowI ((balK n m).1)) 0 (((balK n m).1).length), .int .i64 ((balK n m).2)])) (o2 : ((balK n l).2 != 0) = false) (o3 : ((balK n m).2 != 0) = false) (o4 : InR .i64 (((l.length : Nat) : Int) + ((m.length : Nat) : Int))) (o5 : (decide ((((l.length : Nat) : Int) + ((m.length : Nat) : Int)) > 60)) = false) (o6 : l.length ≤ 2147483648) (o7 : ((rowSpn l).drop 0).take (l.length * 3) = (rowSpn l)) (o8 : (rowSpn l).length = (l.length * 3)) (o9 : noRefs (rowSpn l) = true) (o11 : (0 + (l.length * 3)) = (rowSpn l).length) (o12 : (l.length + m.length) ≤ 2147483648) (o13 : ((rowSpn m).drop 0).take (m.length * 3) = (rowSpn m)) (o14 : (rowSpn m).length = (m.length * 3)) (o15 : noRefs (rowSpn m) = true) (o16 : LentF Try.prog (.clos 32 [] []) [.int .i64 n, .sl 0 1 0 (l.length + m.length) 3] [⟨true, 1, 3, true, ((rowSpn l) ++ (rowSpn m)), true⟩] (.tup [.rsl (rowI ((balK n (l ++ m)).1)) 0 (((balK n (l ++ m)).1).length), .int .i64 ((balK n (l ++ m)).2)]) [⟨false, 2, 3, true, [], false⟩]) (o17 : ((balK n (l ++ m)).2 != 0) = false) (o18 : (((((balK n l).1).length : Nat) : Int) != n) = false) (o19 : (((((balK n m).1).length : Nat) : Int) != n) = false) (o20 : (((((balK n (l ++ m)).1).length : Nat) : Int) != n) = true)
    (hr : AvLe (.bool false) res) : G Try.prog E [.code (bodyAt Try.prog 12)] ⟨[.int .i64 n, .rsl (rowSpn l) 0 l.length, .rsl (rowSpn m) 0 m.length] ++ unds (Try.f12.ntmps - 3), []⟩ :=
  end_stepL (n := 400) (evs := [.v (.tup [.rsl (rowI ((balK n l).1)) 0 (((balK n l).1).length), .int .i64 ((balK n l).2)]), .v (.tup [.rsl (rowI ((balK n m).1)) 0 (((balK n m).1).length), .int .i64 ((balK n m).2)]), .b false, .b false, .b false, .cs (rowSpn l), .cs (rowSpn m), .lent [0] (.tup [.rsl (rowI ((balK n (l ++ m)).1)) 0 (((balK n (l ++ m)).1).length), .int .i64 ((balK n (l ++ m)).2)]) [⟨false, 2, 3, true, [], false⟩], .b false, .b false, .b false, .b true, .b true, .b true]) (obs := [PureF Try.prog (.clos 32 [] []) [.int .i64 n, .rsl (rowSpn l) 0 l.length] (.tup [.rsl (rowI ((balK n l).1)) 0 (((balK n l).1).length), .int .i64 ((balK n l).2)]), PureF Try.prog (.clos 32 [] []) [.int .i64 n, .rsl (rowSpn m) 0 m.length] (.tup [.rsl (rowI ((balK n m).1)) 0 (((balK n m).1).length), .int .i64 ((balK n m).2)]), ((balK n l).2 != 0) = false, ((balK n m).2 != 0) = false, InR .i64 (((l.length : Nat) : Int) + ((m.length : Nat) : Int)), (decide ((((l.length : Nat) : Int) + ((m.length : Nat) : Int)) > 60)) = false, l.length ≤ 2147483648, ((rowSpn l).drop 0).take (l.length * 3) = (rowSpn l), (rowSpn l).length = (l.length * 3), noRefs (rowSpn l) = true, 0 = 0, (0 + (l.length * 3)) = (rowSpn l).length, (l.length + m.length) ≤ 2147483648, ((rowSpn m).drop 0).take (m.length * 3) = (rowSpn m), (rowSpn m).length = (m.length * 3), noRefs (rowSpn m) = true, LentF Try.prog (.clos 32 [] []) [.int .i64 n, .sl 0 1 0 (l.length + m.length) 3] [⟨true, 1, 3, true, ((rowSpn l) ++ (rowSpn m)), true⟩] (.tup [.rsl (rowI ((balK n (l ++ m)).1)) 0 (((balK n (l ++ m)).1).length), .int .i64 ((balK n (l ++ m)).2)]) [⟨false, 2, 3, true, [], false⟩], ((balK n (l ++ m)).2 != 0) = false, (((((balK n l).1).length : Nat) : Int) != n) = false, (((((balK n m).1).length : Nat) : Int) != n) = false, (((((balK n (l ++ m)).1).length : Nat) : Int) != n) = true, true = true, true = true]) hE Try.func12 mixed (by kernel_rfl) ⟨o0, o1, o2, o3, o4, o5, o6, o7, o8, o9, (rfl), o11, o12, o13, o14, o15, o16, o17, o18, o19, o20, (rfl), (rfl), trivial⟩ hr
theorem p12_start_7 (n : Int) (l : (List Spn)) (m : (List Spn))   {E : Env} {res : AV} (hE : PureE Try.prog 12 res E) (o0 : PureF Try.prog (.clos 32 [] []) [.int .i64 n, .rsl (rowSpn l) 0 l.length] (.tup [.rsl (rowI ((balK n l).1)) 0 (((balK n l).1).length), .int .i64 ((balK n l).2)])) (o1 : PureF Try.prog (.clos 32 [] []) [.int .i64 n, .rsl (rowSpn m) 0 m.length] (.tup [.rsl (rowI ((balK n m).1)) 0 (((balK n m).1).length), .int .i64 ((balK n m).2)])) (o2 : ((balK n l).2 != 0) = false) (o3 : ((balK n m).2 != 0) = false) (o4 : InR .i64 (((l.length : Nat) : Int) + ((m.length : Nat) : Int))) (o5 : (decide ((((l.length : Nat) : Int) + ((m.length : Nat) : Int)) > 60)) = false) (o6 : l.length ≤ 2147483648) (o7 : ((rowSpn l).drop 0).take (l.length * 3) = (rowSpn l)) (o8 : (rowSpn l).length = (l.length * 3)) (o9 : noRefs (rowSpn l) = true) (o11 : (0 + (l.length * 3)) = (rowSpn l).length) (o12 : (l.length + m.length) ≤ 2147483648) (o13 : ((rowSpn m).drop 0).take (m.length * 3) = (rowSpn m)) (o14 : (rowSpn m).length = (m.length * 3)) (o15 : noRefs (rowSpn m) = true) (o16 : LentF Try.prog (.clos 32 [] []) [.int .i64 n, .sl 0 1 0 (l.length + m.length) 3] [⟨true, 1, 3, true, ((rowSpn l) ++ (rowSpn m)), true⟩] (.tup [.rsl (rowI ((balK n (l ++ m)).1)) 0 (((balK n (l ++ m)).1).length), .int .i64 ((balK n (l ++ m)).2)]) [⟨false, 2, 3, true, [], false⟩]) (o17 : ((balK n (l ++ m)).2 != 0) = false) (o18 : (((((balK n l).1).length : Nat) : Int) != n) = false) (o19 : (((((balK n m).1).length : Nat) : Int) != n) = false) (o20 : (((((balK n (l ++ m)).1).length : Nat) : Int) != n) = false) (o21 : PureF Try.prog (.clos 21 [] []) [.rsl (rowI ((balK n l).1)) 0 (((balK n l).1).length)] (.int .i64 (sumI ((balK n l).1)))) (o22 : ((sumI ((balK n l).1)) != 0) = true)
    (hr : AvLe (.bool false) res) : G Try.prog E [.code (bodyAt Try.prog 12)] ⟨[.int .i64 n, .rsl (rowSpn l) 0 l.length, .rsl (rowSpn m) 0 m.length] ++ unds (Try.f12.ntmps - 3), []⟩ :=
  end_stepL (n := 400) (evs := [.v (.tup [.rsl (rowI ((balK n l).1)) 0 (((balK n l).1).length), .int .i64 ((balK n l).2)]), .v (.tup [.rsl (rowI ((balK n m).1)) 0 (((balK n m).1).length), .int .i64 ((balK n m).2)]), .b false, .b false, .b false, .cs (rowSpn l), .cs (rowSpn m), .lent [0] (.tup [.rsl (rowI ((balK n (l ++ m)).1)) 0 (((balK n (l ++ m)).1).length), .int .i64 ((balK n (l ++ m)).2)]) [⟨false, 2, 3, true, [], false⟩], .b false, .b false, .b false, .b false, .v (.int .i64 (sumI ((balK n l).1))), .b true, .b true]) (obs := [PureF Try.prog (.clos 32 [] []) [.int .i64 n, .rsl (rowSpn l) 0 l.length] (.tup [.rsl (rowI ((balK n l).1)) 0 (((balK n l).1).length), .int .i64 ((balK n l).2)]), PureF Try.prog (.clos 32 [] []) [.int .i64 n, .rsl (rowSpn m) 0 m.length] (.tup [.rsl (rowI ((balK n m).1)) 0 (((balK n m).1).length), .int .i64 ((balK n m).2)]), ((balK n l).2 != 0) = false, ((balK n m).2 != 0) = false, InR .i64 (((l.length : Nat) : Int) + ((m.length : Nat) : Int)), (decide ((((l.length : Nat) : Int) + ((m.length : Nat) : Int)) > 60)) = false, l.length ≤ 2147483648, ((rowSpn l).drop 0).take (l.length * 3) = (rowSpn l), (rowSpn l).length = (l.length * 3), noRefs (rowSpn l) = true, 0 = 0, (0 + (l.length * 3)) = (rowSpn l).length, (l.length + m.length) ≤ 2147483648, ((rowSpn m).drop 0).take (m.length * 3) = (rowSpn m), (rowSpn m).length = (m.length * 3), noRefs (rowSpn m) = true, LentF Try.prog (.clos 32 [] []) [.int .i64 n, .sl 0 1 0 (l.length + m.length) 3] [⟨true, 1, 3, true, ((rowSpn l) ++ (rowSpn m)), true⟩] (.tup [.rsl (rowI ((balK n (l ++ m)).1)) 0 (((balK n (l ++ m)).1).length), .int .i64 ((balK n (l ++ m)).2)]) [⟨false, 2, 3, true, [], false⟩], ((balK n (l ++ m)).2 != 0) = false, (((((balK n l).1).length : Nat) : Int) != n) = false, (((((balK n m).1).length : Nat) : Int) != n) = false, (((((balK n (l ++ m)).1).length : Nat) : Int) != n) = false, PureF Try.prog (.clos 21 [] []) [.rsl (rowI ((balK n l).1)) 0 (((balK n l).1).length)] (.int .i64 (sumI ((balK n l).1))), ((sumI ((balK n l).1)) != 0) = true, true = true]) hE Try.func12 mixed (by kernel_rfl) ⟨o0, o1, o2, o3, o4, o5, o6, o7, o8, o9, (rfl), o11, o12, o13, o14, o15, o16, o17, o18, o19, o20, o21, o22, (rfl), trivial⟩ hr
theorem p12_start_8 (n : Int) (l : (List Spn)) (m : (List Spn))   {E : Env} {res : AV} (hE : PureE Try.prog 12 res E) (o0 : PureF Try.prog (.clos 32 [] []) [.int .i64 n, .rsl (rowSpn l) 0 l.length] (.tup [.rsl (rowI ((balK n l).1)) 0 (((balK n l).1).length), .int .i64 ((balK n l).2)])) (o1 : PureF Try.prog (.clos 32 [] []) [.int .i64 n, .rsl (rowSpn m) 0 m.length] (.tup [.rsl (rowI ((balK n m).1)) 0 (((balK n m).1).length), .int .i64 ((balK n m).2)])) (o2 : ((balK n l).2 != 0) = false) (o3 : ((balK n m).2 != 0) = false) (o4 : InR .i64 (((l.length : Nat) : Int) + ((m.length : Nat) : Int))) (o5 : (decide ((((l.length : Nat) : Int) + ((m.length : Nat) : Int)) > 60)) = false) (o6 : l.length ≤ 2147483648) (o7 : ((rowSpn l).drop 0).take (l.length * 3) = (rowSpn l)) (o8 : (rowSpn l).length = (l.length * 3)) (o9 : noRefs (rowSpn l) = true) (o11 : (0 + (l.length * 3)) = (rowSpn l).length) (o12 : (l.length + m.length) ≤ 2147483648) (o13 : ((rowSpn m).drop 0).take (m.length * 3) = (rowSpn m)) (o14 : (rowSpn m).length = (m.length * 3)) (o15 : noRefs (rowSpn m) = true) (o16 : LentF Try.prog (.clos 32 [] []) [.int .i64 n, .sl 0 1 0 (l.length + m.length) 3] [⟨true, 1, 3, true, ((rowSpn l) ++ (rowSpn m)), true⟩] (.tup [.rsl (rowI ((balK n (l ++ m)).1)) 0 (((balK n (l ++ m)).1).length), .int .i64 ((balK n (l ++ m)).2)]) [⟨false, 2, 3, true, [], false⟩]) (o17 : ((balK n (l ++ m)).2 != 0) = false) (o18 : (((((balK n l).1).length : Nat) : Int) != n) = false) (o19 : (((((balK n m).1).length : Nat) : Int) != n) = false) (o20 : (((((balK n (l ++ m)).1).length : Nat) : Int) != n) = false) (o21 : PureF Try.prog (.clos 21 [] []) [.rsl (rowI ((balK n l).1)) 0 (((balK n l).1).length)] (.int .i64 (sumI ((balK n l).1)))) (o22 : ((sumI ((balK n l).1)) != 0) = false) (o23 : PureF Try.prog (.clos 21 [] []) [.rsl (rowI ((balK n m).1)) 0 (((balK n m).1).length)] (.int .i64 (sumI ((balK n m).1)))) (o24 : ((sumI ((balK n m).1)) != 0) = true)
    (hr : AvLe (.bool false) res) : G Try.prog E [.code (bodyAt Try.prog 12)] ⟨[.int .i64 n, .rsl (rowSpn l) 0 l.length, .rsl (rowSpn m) 0 m.length] ++ unds (Try.f12.ntmps - 3), []⟩ :=
  end_stepL (n := 400) (evs := [.v (.tup [.rsl (rowI ((balK n l).1)) 0 (((balK n l).1).length), .int .i64 ((balK n l).2)]), .v (.tup [.rsl (rowI ((balK n m).1)) 0 (((balK n m).1).length), .int .i64 ((balK n m).2)]), .b false, .b false, .b false, .cs (rowSpn l), .cs (rowSpn m), .lent [0] (.tup [.rsl (rowI ((balK n (l ++ m)).1)) 0 (((balK n (l ++ m)).1).length), .int .i64 ((balK n (l ++ m)).2)]) [⟨false, 2, 3, true, [], false⟩], .b false, .b false, .b false, .b false, .v (.int .i64 (sumI ((balK n l).1))), .b false, .v (.int .i64 (sumI ((balK n m).1))), .b true]) (obs := [PureF Try.prog (.clos 32 [] []) [.int .i64 n, .rsl (rowSpn l) 0 l.length] (.tup [.rsl (rowI ((balK n l).1)) 0 (((balK n l).1).length), .int .i64 ((balK n l).2)]), PureF Try.prog (.clos 32 [] []) [.int .i64 n, .rsl (rowSpn m) 0 m.length] (.tup [.rsl (rowI ((balK n m).1)) 0 (((balK n m).1).length), .int .i64 ((balK n m).2)]), ((balK n l).2 != 0) = false, ((balK n m).2 != 0) = false, InR .i64 (((l.length : Nat) : Int) + ((m.length : Nat) : Int)), (decide ((((l.length : Nat) : Int) + ((m.length : Nat) : Int)) > 60)) = false, l.length ≤ 2147483648, ((rowSpn l).drop 0).take (l.length * 3) = (rowSpn l), (rowSpn l).length = (l.length * 3), noRefs (rowSpn l) = true, 0 = 0, (0 + (l.length * 3)) = (rowSpn l).length, (l.length + m.length) ≤ 2147483648, ((rowSpn m).drop 0).take (m.length * 3) = (rowSpn m), (rowSpn m).length = (m.length * 3), noRefs (rowSpn m) = true, LentF Try.prog (.clos 32 [] []) [.int .i64 n, .sl 0 1 0 (l.length + m.length) 3] [⟨true, 1, 3, true, ((rowSpn l) ++ (rowSpn m)), true⟩] (.tup [.rsl (rowI ((balK n (l ++ m)).1)) 0 (((balK n (l ++ m)).1).length), .int .i64 ((balK n (l ++ m)).2)]) [⟨false, 2, 3, true, [], false⟩], ((balK n (l ++ m)).2 != 0) = false, (((((balK n l).1).length : Nat) : Int) != n) = false, (((((balK n m).1).length : Nat) : Int) != n) = false, (((((balK n (l ++ m)).1).length : Nat) : Int) != n) = false, PureF Try.prog (.clos 21 [] []) [.rsl (rowI ((balK n l).1)) 0 (((balK n l).1).length)] (.int .i64 (sumI ((balK n l).1))), ((sumI ((balK n l).1)) != 0) = false, PureF Try.prog (.clos 21 [] []) [.rsl (rowI ((balK n m).1)) 0 (((balK n m).1).length)] (.int .i64 (sumI ((balK n m).1))), ((sumI ((balK n m).1)) != 0) = true]) hE Try.func12 mixed (by kernel_rfl) ⟨o0, o1, o2, o3, o4, o5, o6, o7, o8, o9, (rfl), o11, o12, o13, o14, o15, o16, o17, o18, o19, o20, o21, o22, o23, o24, trivial⟩ hr
theorem p12_start_9 (n : Int) (l : (List Spn)) (m : (List Spn))   {E : Env} {rv : AV} (hE : PureE Try.prog 12 rv E) (o0 : PureF Try.prog (.clos 32 [] []) [.int .i64 n, .rsl (rowSpn l) 0 l.length] (.tup [.rsl (rowI ((balK n l).1)) 0 (((balK n l).1).length), .int .i64 ((balK n l).2)])) (o1 : PureF Try.prog (.clos 32 [] []) [.int .i64 n, .rsl (rowSpn m) 0 m.length] (.tup [.rsl (rowI ((balK n m).1)) 0 (((balK n m).1).length), .int .i64 ((balK n m).2)])) (o2 : ((balK n l).2 != 0) = false) (o3 : ((balK n m).2 != 0) = false) (o4 : InR .i64 (((l.length : Nat) : Int) + ((m.length : Nat) : Int))) (o5 : (decide ((((l.length : Nat) : Int) + ((m.length : Nat) : Int)) > 60)) = false) (o6 : l.length ≤ 2147483648) (o7 : ((rowSpn l).drop 0).take (l.length * 3) = (rowSpn l)) (o8 : (rowSpn l).length = (l.length * 3)) (o9 : noRefs (rowSpn l) = true) (o11 : (0 + (l.length * 3)) = (rowSpn l).length) (o12 : (l.length + m.length) ≤ 2147483648) (o13 : ((rowSpn m).drop 0).take (m.length * 3) = (rowSpn m)) (o14 : (rowSpn m).length = (m.length * 3)) (o15 : noRefs (rowSpn m) = true) (o16 : LentF Try.prog (.clos 32 [] []) [.int .i64 n, .sl 0 1 0 (l.length + m.length) 3] [⟨true, 1, 3, true, ((rowSpn l) ++ (rowSpn m)), true⟩] (.tup [.rsl (rowI ((balK n (l ++ m)).1)) 0 (((balK n (l ++ m)).1).length), .int .i64 ((balK n (l ++ m)).2)]) [⟨false, 2, 3, true, [], false⟩]) (o17 : ((balK n (l ++ m)).2 != 0) = false) (o18 : (((((balK n l).1).length : Nat) : Int) != n) = false) (o19 : (((((balK n m).1).length : Nat) : Int) != n) = false) (o20 : (((((balK n (l ++ m)).1).length : Nat) : Int) != n) = false) (o21 : PureF Try.prog (.clos 21 [] []) [.rsl (rowI ((balK n l).1)) 0 (((balK n l).1).length)] (.int .i64 (sumI ((balK n l).1)))) (o22 : ((sumI ((balK n l).1)) != 0) = false) (o23 : PureF Try.prog (.clos 21 [] []) [.rsl (rowI ((balK n m).1)) 0 (((balK n m).1).length)] (.int .i64 (sumI ((balK n m).1)))) (o24 : ((sumI ((balK n m).1)) != 0) = false)
    (hg : G Try.prog E (f12K0 Try.prog) ⟨[.int .i64 n, .rsl (rowSpn l) 0 l.length, .junk, .junk, .junk, .junk, .junk, .rsl (rowI ((balK n l).1)) 0 (((balK n l).1).length), .junk, .rsl (rowI ((balK n m).1)) 0 (((balK n m).1).length), .junk, .rsl (rowI ((balK n (l ++ m)).1)) 0 (((balK n (l ++ m)).1).length), .int .i64 0, .junk, .junk, .junk, .junk, .junk, .junk, .junk, .junk, .junk, .junk, .junk, .junk, .junk, .junk, .junk, .junk, .junk, .junk, .junk, .junk, .junk, .junk, .junk, .junk, .junk, .junk, .junk, .junk, .junk, .junk, .junk, .junk, .junk, .junk, .junk, .junk, .junk, .junk, .junk, .junk, .junk, .junk, .junk, .junk, .junk, .junk, .junk, .junk, .junk, .junk, .junk, .junk, .junk, .junk, .junk, .junk, .junk, .junk, .junk, .junk, .junk, .junk, .junk, .junk, .junk, .junk, .junk, .junk, .junk, .junk, .junk, .junk, .junk, .junk, .junk, .junk, .junk, .junk, .junk, .junk, .junk, .junk, .junk, .junk, .junk, .junk, .junk, .junk, .junk, .junk, .junk, .junk, .junk, .junk, .junk, .junk, .junk, .junk, .junk, .junk, .junk, .junk, .junk, .junk, .junk, .junk, .junk, .junk, .junk, .junk, .junk, .junk, .junk, .junk, .junk, .junk, .junk, .junk, .junk, .junk, .junk, .junk, .junk, .junk, .junk, .junk, .junk, .junk, .junk, .junk, .junk, .junk, .junk, .junk, .junk, .junk, .junk], [⟨false, 2, 3, true, [], false⟩]⟩) : G Try.prog E [.code (bodyAt Try.prog 12)] ⟨[.int .i64 n, .rsl (rowSpn l) 0 l.length, .rsl (rowSpn m) 0 m.length] ++ unds (Try.f12.ntmps - 3), []⟩ :=
  segC_step (n := 400) (ds := []) (cs := []) (live := [0, 1, 7, 9, 11, 12]) (m := 1) (evs := [.v (.tup [.rsl (rowI ((balK n l).1)) 0 (((balK n l).1).length), .int .i64 ((balK n l).2)]), .v (.tup [.rsl (rowI ((balK n m).1)) 0 (((balK n m).1).length), .int .i64 ((balK n m).2)]), .b false, .b false, .b false, .cs (rowSpn l), .cs (rowSpn m), .lent [0] (.tup [.rsl (rowI ((balK n (l ++ m)).1)) 0 (((balK n (l ++ m)).1).length), .int .i64 ((balK n (l ++ m)).2)]) [⟨false, 2, 3, true, [], false⟩], .b false, .b false, .b false, .b false, .v (.int .i64 (sumI ((balK n l).1))), .b false, .v (.int .i64 (sumI ((balK n m).1))), .b false, .stop]) (obs := [PureF Try.prog (.clos 32 [] []) [.int .i64 n, .rsl (rowSpn l) 0 l.length] (.tup [.rsl (rowI ((balK n l).1)) 0 (((balK n l).1).length), .int .i64 ((balK n l).2)]), PureF Try.prog (.clos 32 [] []) [.int .i64 n, .rsl (rowSpn m) 0 m.length] (.tup [.rsl (rowI ((balK n m).1)) 0 (((balK n m).1).length), .int .i64 ((balK n m).2)]), ((balK n l).2 != 0) = false, ((balK n m).2 != 0) = false, InR .i64 (((l.length : Nat) : Int) + ((m.length : Nat) : Int)), (decide ((((l.length : Nat) : Int) + ((m.length : Nat) : Int)) > 60)) = false, l.length ≤ 2147483648, ((rowSpn l).drop 0).take (l.length * 3) = (rowSpn l), (rowSpn l).length = (l.length * 3), noRefs (rowSpn l) = true, 0 = 0, (0 + (l.length * 3)) = (rowSpn l).length, (l.length + m.length) ≤ 2147483648, ((rowSpn m).drop 0).take (m.length * 3) = (rowSpn m), (rowSpn m).length = (m.length * 3), noRefs (rowSpn m) = true, LentF Try.prog (.clos 32 [] []) [.int .i64 n, .sl 0 1 0 (l.length + m.length) 3] [⟨true, 1, 3, true, ((rowSpn l) ++ (rowSpn m)), true⟩] (.tup [.rsl (rowI ((balK n (l ++ m)).1)) 0 (((balK n (l ++ m)).1).length), .int .i64 ((balK n (l ++ m)).2)]) [⟨false, 2, 3, true, [], false⟩], ((balK n (l ++ m)).2 != 0) = false, (((((balK n l).1).length : Nat) : Int) != n) = false, (((((balK n m).1).length : Nat) : Int) != n) = false, (((((balK n (l ++ m)).1).length : Nat) : Int) != n) = false, PureF Try.prog (.clos 21 [] []) [.rsl (rowI ((balK n l).1)) 0 (((balK n l).1).length)] (.int .i64 (sumI ((balK n l).1))), ((sumI ((balK n l).1)) != 0) = false, PureF Try.prog (.clos 21 [] []) [.rsl (rowI ((balK n m).1)) 0 (((balK n m).1).length)] (.int .i64 (sumI ((balK n m).1))), ((sumI ((balK n m).1)) != 0) = false]) hE.2.1 (hE.nogh _) mixed (by kernel_rfl) ⟨o0, o1, o2, o3, o4, o5, o6, o7, o8, o9, (rfl), o11, o12, o13, o14, o15, o16, o17, o18, o19, o20, o21, o22, o23, o24, trivial⟩ hg
theorem f12W (n : Int) (l : (List Spn)) (m : (List Spn)) {E : Env} {rv : Bool} (hE : PureE Try.prog 12 (.bool rv) E)
    (h : ((l.length ≤ 9223372036854775807 ∧ ∀ x ∈ l, x.fr.length ≤ 9223372036854775807) ∧ ((m.length ≤ 9223372036854775807 ∧ ∀ x ∈ m, x.fr.length ≤ 9223372036854775807) ∧ ((¬ ((balK n l).2 = 0) → rv = true) ∧ ((balK n l).2 = 0 → ((¬ ((balK n m).2 = 0) → rv = true) ∧ ((balK n m).2 = 0 → ((-9223372036854775808 ≤ ((l.length : Nat) : Int) + ((m.length : Nat) : Int) ∧ ((l.length : Nat) : Int) + ((m.length : Nat) : Int) ≤ 9223372036854775807) ∧ (((((l.length : Nat) : Int) + ((m.length : Nat) : Int)) > 60 → rv = true) ∧ (¬ ((((l.length : Nat) : Int) + ((m.length : Nat) : Int)) > 60) → (l.length ≤ 2147483648 ∧ ((l.length + m.length) ≤ 2147483648 ∧ (((l ++ m).length ≤ 9223372036854775807 ∧ ∀ x ∈ (l ++ m), x.fr.length ≤ 9223372036854775807) ∧ ((¬ ((balK n (l ++ m)).2 = 0) → rv = false) ∧ ((balK n (l ++ m)).2 = 0 → ((¬ (((((balK n l).1).length : Nat) : Int) = n) → rv = false) ∧ (((((balK n l).1).length : Nat) : Int) = n → ((¬ (((((balK n m).1).length : Nat) : Int) = n) → rv = false) ∧ (((((balK n m).1).length : Nat) : Int) = n → ((¬ (((((balK n (l ++ m)).1).length : Nat) : Int) = n) → rv = false) ∧ (((((balK n (l ++ m)).1).length : Nat) : Int) = n → ((SumOk ((balK n l).1)) ∧ ((¬ ((sumI ((balK n l).1)) = 0) → rv = false) ∧ ((sumI ((balK n l).1)) = 0 → ((SumOk ((balK n m).1)) ∧ ((¬ ((sumI ((balK n m).1)) = 0) → rv = false) ∧ ((sumI ((balK n m).1)) = 0 → f12G0 E n l m 0))))))))))))))))))))))))))) : G Try.prog E [.code (bodyAt Try.prog 12)] ⟨[.int .i64 n, .rsl (rowSpn l) 0 l.length, .rsl (rowSpn m) 0 m.length] ++ unds (Try.f12.ntmps - 3), []⟩ := by
  obtain ⟨h1, h⟩ := h
  obtain ⟨h2, h⟩ := h
  rcases Bool.eq_false_or_eq_true ((balK n l).2 != 0) with hc0 | hc0
  · have h := h.1 (bneT hc0)
    exact p12_start_0 n l m    hE (pureF_of Try.func32 (by kernel_rfl) f32b (BalP_ok n l h1)) (pureF_of Try.func32 (by kernel_rfl) f32b (BalP_ok n m h2)) hc0 (pureF_of Try.func20 (by kernel_rfl) f20b (works_ok )) (AvLe.of_eq (by rw [h]; try rfl))
  · have h := h.2 (bneF hc0)
    rcases Bool.eq_false_or_eq_true ((balK n m).2 != 0) with hc1 | hc1
    · have h := h.1 (bneT hc1)
      exact p12_start_1 n l m    hE (pureF_of Try.func32 (by kernel_rfl) f32b (BalP_ok n l h1)) (pureF_of Try.func32 (by kernel_rfl) f32b (BalP_ok n m h2)) hc0 hc1 (pureF_of Try.func20 (by kernel_rfl) f20b (works_ok )) (AvLe.of_eq (by rw [h]; try rfl))
    · have h := h.2 (bneF hc1)
      obtain ⟨q4_2, h⟩ := h
      rcases Bool.eq_false_or_eq_true (decide ((((l.length : Nat) : Int) + ((m.length : Nat) : Int)) > 60)) with hc2 | hc2
      · have h := h.1 (of_decide_eq_true hc2)
        exact p12_start_2 n l m    hE (pureF_of Try.func32 (by kernel_rfl) f32b (BalP_ok n l h1)) (pureF_of Try.func32 (by kernel_rfl) f32b (BalP_ok n m h2)) hc0 hc1 q4_2 hc2 (pureF_of Try.func20 (by kernel_rfl) f20b (works_ok )) (AvLe.of_eq (by rw [h]; try rfl))
      · have h := h.2 (of_decide_eq_false hc2)
        obtain ⟨h3, h⟩ := h
        obtain ⟨h4, h⟩ := h
        obtain ⟨h5, h⟩ := h
        rcases Bool.eq_false_or_eq_true ((balK n (l ++ m)).2 != 0) with hc3 | hc3
        · have h := h.1 (bneT hc3)
          exact p12_start_3 n l m    hE (pureF_of Try.func32 (by kernel_rfl) f32b (BalP_ok n l h1)) (pureF_of Try.func32 (by kernel_rfl) f32b (BalP_ok n m h2)) hc0 hc1 q4_2 hc2 h3 (by exact row_all cSpn (fun _ => rfl) l) (by exact row_len cSpn (fun _ => rfl) l) (by exact row_nr cSpn (fun _ => rfl) l) (by have hx := row_len cSpn (s := 3) (fun _ => rfl) l; simp only [rowSpn] at hx ⊢; rw [hx]; simp) h4 (by exact row_all cSpn (fun _ => rfl) m) (by exact row_len cSpn (fun _ => rfl) m) (by exact row_nr cSpn (fun _ => rfl) m) (lentF_of_pure (fv' := .clos 32 [] []) (args' := [.int .i64 n, .rsl ((rowSpn l) ++ (rowSpn m)) 0 (l.length + m.length)]) (o1 := []) (o2 := [1 = 1]) (by kernel_rfl) trivial (by kernel_rfl) ⟨rfl, trivial⟩ (by rw [(show AV.rsl ((rowSpn l) ++ (rowSpn m)) 0 (l.length + m.length) = AV.rsl (rowSpn (l ++ m)) 0 (l ++ m).length from by rw [(show rowSpn l ++ rowSpn m = rowSpn (l ++ m) from (row_app cSpn l m).symm)]; rw [show (l.length + m.length) = (l ++ m).length from by simp])]; exact (pureF_of Try.func32 (by kernel_rfl) f32b (BalP_ok n (l ++ m) h5)))) hc3 (AvLe.of_eq (by rw [h]; try rfl))
        · have h := h.2 (bneF hc3)
          rcases Bool.eq_false_or_eq_true (((((balK n l).1).length : Nat) : Int) != n) with hc4 | hc4
          · have h := h.1 (bneT hc4)
            exact p12_start_4 n l m    hE (pureF_of Try.func32 (by kernel_rfl) f32b (BalP_ok n l h1)) (pureF_of Try.func32 (by kernel_rfl) f32b (BalP_ok n m h2)) hc0 hc1 q4_2 hc2 h3 (by exact row_all cSpn (fun _ => rfl) l) (by exact row_len cSpn (fun _ => rfl) l) (by exact row_nr cSpn (fun _ => rfl) l) (by have hx := row_len cSpn (s := 3) (fun _ => rfl) l; simp only [rowSpn] at hx ⊢; rw [hx]; simp) h4 (by exact row_all cSpn (fun _ => rfl) m) (by exact row_len cSpn (fun _ => rfl) m) (by exact row_nr cSpn (fun _ => rfl) m) (lentF_of_pure (fv' := .clos 32 [] []) (args' := [.int .i64 n, .rsl ((rowSpn l) ++ (rowSpn m)) 0 (l.length + m.length)]) (o1 := []) (o2 := [1 = 1]) (by kernel_rfl) trivial (by kernel_rfl) ⟨rfl, trivial⟩ (by rw [(show AV.rsl ((rowSpn l) ++ (rowSpn m)) 0 (l.length + m.length) = AV.rsl (rowSpn (l ++ m)) 0 (l ++ m).length from by rw [(show rowSpn l ++ rowSpn m = rowSpn (l ++ m) from (row_app cSpn l m).symm)]; rw [show (l.length + m.length) = (l ++ m).length from by simp])]; exact (pureF_of Try.func32 (by kernel_rfl) f32b (BalP_ok n (l ++ m) h5)))) hc3 hc4 (AvLe.of_eq (by rw [h]; try rfl))
          · have h := h.2 (bneF hc4)
            rcases Bool.eq_false_or_eq_true (((((balK n m).1).length : Nat) : Int) != n) with hc5 | hc5
            · have h := h.1 (bneT hc5)
              exact p12_start_5 n l m    hE (pureF_of Try.func32 (by kernel_rfl) f32b (BalP_ok n l h1)) (pureF_of Try.func32 (by kernel_rfl) f32b (BalP_ok n m h2)) hc0 hc1 q4_2 hc2 h3 (by exact row_all cSpn (fun _ => rfl) l) (by exact row_len cSpn (fun _ => rfl) l) (by exact row_nr cSpn (fun _ => rfl) l) (by have hx := row_len cSpn (s := 3) (fun _ => rfl) l; simp only [rowSpn] at hx ⊢; rw [hx]; simp) h4 (by exact row_all cSpn (fun _ => rfl) m) (by exact row_len cSpn (fun _ => rfl) m) (by exact row_nr cSpn (fun _ => rfl) m) (lentF_of_pure (fv' := .clos 32 [] []) (args' := [.int .i64 n, .rsl ((rowSpn l) ++ (rowSpn m)) 0 (l.length + m.length)]) (o1 := []) (o2 := [1 = 1]) (by kernel_rfl) trivial (by kernel_rfl) ⟨rfl, trivial⟩ (by rw [(show AV.rsl ((rowSpn l) ++ (rowSpn m)) 0 (l.length + m.length) = AV.rsl (rowSpn (l ++ m)) 0 (l ++ m).length from by rw [(show rowSpn l ++ rowSpn m = rowSpn (l ++ m) from (row_app cSpn l m).symm)]; rw [show (l.length + m.length) = (l ++ m).length from by simp])]; exact (pureF_of Try.func32 (by kernel_rfl) f32b (BalP_ok n (l ++ m) h5)))) hc3 hc4 hc5 (AvLe.of_eq (by rw [h]; try rfl))
            · have h := h.2 (bneF hc5)
              rcases Bool.eq_false_or_eq_true (((((balK n (l ++ m)).1).length : Nat) : Int) != n) with hc6 | hc6
              · have h := h.1 (bneT hc6)
                exact p12_start_6 n l m    hE (pureF_of Try.func32 (by kernel_rfl) f32b (BalP_ok n l h1)) (pureF_of Try.func32 (by kernel_rfl) f32b (BalP_ok n m h2)) hc0 hc1 q4_2 hc2 h3 (by exact row_all cSpn (fun _ => rfl) l) (by exact row_len cSpn (fun _ => rfl) l) (by exact row_nr cSpn (fun _ => rfl) l) (by have hx := row_len cSpn (s := 3) (fun _ => rfl) l; simp only [rowSpn] at hx ⊢; rw [hx]; simp) h4 (by exact row_all cSpn (fun _ => rfl) m) (by exact row_len cSpn (fun _ => rfl) m) (by exact row_nr cSpn (fun _ => rfl) m) (lentF_of_pure (fv' := .clos 32 [] []) (args' := [.int .i64 n, .rsl ((rowSpn l) ++ (rowSpn m)) 0 (l.length + m.length)]) (o1 := []) (o2 := [1 = 1]) (by kernel_rfl) trivial (by kernel_rfl) ⟨rfl, trivial⟩ (by rw [(show AV.rsl ((rowSpn l) ++ (rowSpn m)) 0 (l.length + m.length) = AV.rsl (rowSpn (l ++ m)) 0 (l ++ m).length from by rw [(show rowSpn l ++ rowSpn m = rowSpn (l ++ m) from (row_app cSpn l m).symm)]; rw [show (l.length + m.length) = (l ++ m).length from by simp])]; exact (pureF_of Try.func32 (by kernel_rfl) f32b (BalP_ok n (l ++ m) h5)))) hc3 hc4 hc5 hc6 (AvLe.of_eq (by rw [h]; try rfl))
              · have h := h.2 (bneF hc6)
                obtain ⟨h6, h⟩ := h
                rcases Bool.eq_false_or_eq_true ((sumI ((balK n l).1)) != 0) with hc7 | hc7
                · have h := h.1 (bneT hc7)
                  exact p12_start_7 n l m    hE (pureF_of Try.func32 (by kernel_rfl) f32b (BalP_ok n l h1)) (pureF_of Try.func32 (by kernel_rfl) f32b (BalP_ok n m h2)) hc0 hc1 q4_2 hc2 h3 (by exact row_all cSpn (fun _ => rfl) l) (by exact row_len cSpn (fun _ => rfl) l) (by exact row_nr cSpn (fun _ => rfl) l) (by have hx := row_len cSpn (s := 3) (fun _ => rfl) l; simp only [rowSpn] at hx ⊢; rw [hx]; simp) h4 (by exact row_all cSpn (fun _ => rfl) m) (by exact row_len cSpn (fun _ => rfl) m) (by exact row_nr cSpn (fun _ => rfl) m) (lentF_of_pure (fv' := .clos 32 [] []) (args' := [.int .i64 n, .rsl ((rowSpn l) ++ (rowSpn m)) 0 (l.length + m.length)]) (o1 := []) (o2 := [1 = 1]) (by kernel_rfl) trivial (by kernel_rfl) ⟨rfl, trivial⟩ (by rw [(show AV.rsl ((rowSpn l) ++ (rowSpn m)) 0 (l.length + m.length) = AV.rsl (rowSpn (l ++ m)) 0 (l ++ m).length from by rw [(show rowSpn l ++ rowSpn m = rowSpn (l ++ m) from (row_app cSpn l m).symm)]; rw [show (l.length + m.length) = (l ++ m).length from by simp])]; exact (pureF_of Try.func32 (by kernel_rfl) f32b (BalP_ok n (l ++ m) h5)))) hc3 hc4 hc5 hc6 (pureF_of Try.func21 (by kernel_rfl) f21b (sumR_ok ((balK n l).1) h6)) hc7 (AvLe.of_eq (by rw [h]; try rfl))
                · have h := h.2 (bneF hc7)
                  obtain ⟨h7, h⟩ := h
                  rcases Bool.eq_false_or_eq_true ((sumI ((balK n m).1)) != 0) with hc8 | hc8
                  · have h := h.1 (bneT hc8)
                    exact p12_start_8 n l m    hE (pureF_of Try.func32 (by kernel_rfl) f32b (BalP_ok n l h1)) (pureF_of Try.func32 (by kernel_rfl) f32b (BalP_ok n m h2)) hc0 hc1 q4_2 hc2 h3 (by exact row_all cSpn (fun _ => rfl) l) (by exact row_len cSpn (fun _ => rfl) l) (by exact row_nr cSpn (fun _ => rfl) l) (by have hx := row_len cSpn (s := 3) (fun _ => rfl) l; simp only [rowSpn] at hx ⊢; rw [hx]; simp) h4 (by exact row_all cSpn (fun _ => rfl) m) (by exact row_len cSpn (fun _ => rfl) m) (by exact row_nr cSpn (fun _ => rfl) m) (lentF_of_pure (fv' := .clos 32 [] []) (args' := [.int .i64 n, .rsl ((rowSpn l) ++ (rowSpn m)) 0 (l.length + m.length)]) (o1 := []) (o2 := [1 = 1]) (by kernel_rfl) trivial (by kernel_rfl) ⟨rfl, trivial⟩ (by rw [(show AV.rsl ((rowSpn l) ++ (rowSpn m)) 0 (l.length + m.length) = AV.rsl (rowSpn (l ++ m)) 0 (l ++ m).length from by rw [(show rowSpn l ++ rowSpn m = rowSpn (l ++ m) from (row_app cSpn l m).symm)]; rw [show (l.length + m.length) = (l ++ m).length from by simp])]; exact (pureF_of Try.func32 (by kernel_rfl) f32b (BalP_ok n (l ++ m) h5)))) hc3 hc4 hc5 hc6 (pureF_of Try.func21 (by kernel_rfl) f21b (sumR_ok ((balK n l).1) h6)) hc7 (pureF_of Try.func21 (by kernel_rfl) f21b (sumR_ok ((balK n m).1) h7)) hc8 (AvLe.of_eq (by rw [h]; try rfl))
                  · have h := h.2 (bneF hc8)
                    exact p12_start_9 n l m    hE (pureF_of Try.func32 (by kernel_rfl) f32b (BalP_ok n l h1)) (pureF_of Try.func32 (by kernel_rfl) f32b (BalP_ok n m h2)) hc0 hc1 q4_2 hc2 h3 (by exact row_all cSpn (fun _ => rfl) l) (by exact row_len cSpn (fun _ => rfl) l) (by exact row_nr cSpn (fun _ => rfl) l) (by have hx := row_len cSpn (s := 3) (fun _ => rfl) l; simp only [rowSpn] at hx ⊢; rw [hx]; simp) h4 (by exact row_all cSpn (fun _ => rfl) m) (by exact row_len cSpn (fun _ => rfl) m) (by exact row_nr cSpn (fun _ => rfl) m) (lentF_of_pure (fv' := .clos 32 [] []) (args' := [.int .i64 n, .rsl ((rowSpn l) ++ (rowSpn m)) 0 (l.length + m.length)]) (o1 := []) (o2 := [1 = 1]) (by kernel_rfl) trivial (by kernel_rfl) ⟨rfl, trivial⟩ (by rw [(show AV.rsl ((rowSpn l) ++ (rowSpn m)) 0 (l.length + m.length) = AV.rsl (rowSpn (l ++ m)) 0 (l ++ m).length from by rw [(show rowSpn l ++ rowSpn m = rowSpn (l ++ m) from (row_app cSpn l m).symm)]; rw [show (l.length + m.length) = (l ++ m).length from by simp])]; exact (pureF_of Try.func32 (by kernel_rfl) f32b (BalP_ok n (l ++ m) h5)))) hc3 hc4 hc5 hc6 (pureF_of Try.func21 (by kernel_rfl) f21b (sumR_ok ((balK n l).1) h6)) hc7 (pureF_of Try.func21 (by kernel_rfl) f21b (sumR_ok ((balK n m).1) h7)) hc8 h
theorem p12_0_0 (n : Int) (l : (List Spn)) (m : (List Spn)) (i : Nat)  (e : Int) (e1 : Int) (e2 : Int)  {E : Env} {res : AV} (hE : PureE Try.prog 12 res E) (o0 : (decide (((i : Nat) : Int) < n)) = true) (o2 : 0 ≤ ((i : Nat) : Int) ∧ ((i : Nat) : Int) < ((((balK n (l ++ m)).1).length : Nat) : Int)) (o3 : ((rowI ((balK n (l ++ m)).1)).drop (0 + (Int.toNat ((i : Nat) : Int)) * 1)).take 1 = [.int .i64 e]) (o5 : 0 ≤ ((i : Nat) : Int) ∧ ((i : Nat) : Int) < ((((balK n l).1).length : Nat) : Int)) (o6 : ((rowI ((balK n l).1)).drop (0 + (Int.toNat ((i : Nat) : Int)) * 1)).take 1 = [.int .i64 e1]) (o8 : 0 ≤ ((i : Nat) : Int) ∧ ((i : Nat) : Int) < ((((balK n m).1).length : Nat) : Int)) (o9 : ((rowI ((balK n m).1)).drop (0 + (Int.toNat ((i : Nat) : Int)) * 1)).take 1 = [.int .i64 e2]) (o10 : InR .i64 (e1 + e2)) (o11 : (e != (e1 + e2)) = true)
    (hr : AvLe (.bool false) res) : G Try.prog E (f12K0 Try.prog) (f12S0 n l m i ) :=
  end_stepL (n := 400) (evs := [.b true, .ld (.int .i64 e), .ld (.int .i64 e1), .ld (.int .i64 e2), .b true]) (obs := [(decide (((i : Nat) : Int) < n)) = true, 0 ≤ ((i : Nat) : Int) ∧ ((i : Nat) : Int) < ((((balK n (l ++ m)).1).length : Nat) : Int), ((rowI ((balK n (l ++ m)).1)).drop (0 + (Int.toNat ((i : Nat) : Int)) * 1)).take 1 = [.int .i64 e], 0 ≤ ((i : Nat) : Int) ∧ ((i : Nat) : Int) < ((((balK n l).1).length : Nat) : Int), ((rowI ((balK n l).1)).drop (0 + (Int.toNat ((i : Nat) : Int)) * 1)).take 1 = [.int .i64 e1], 0 ≤ ((i : Nat) : Int) ∧ ((i : Nat) : Int) < ((((balK n m).1).length : Nat) : Int), ((rowI ((balK n m).1)).drop (0 + (Int.toNat ((i : Nat) : Int)) * 1)).take 1 = [.int .i64 e2], InR .i64 (e1 + e2), (e != (e1 + e2)) = true]) hE Try.func12 mixed (by kernel_rfl) ⟨o0, o2, o3, o5, o6, o8, o9, o10, o11, trivial⟩ hr
theorem p12_0_1 (n : Int) (l : (List Spn)) (m : (List Spn)) (i : Nat)  (e : Int) (e1 : Int) (e2 : Int)  {E : Env} {rv : AV} (hE : PureE Try.prog 12 rv E) (o0 : (decide (((i : Nat) : Int) < n)) = true) (o2 : 0 ≤ ((i : Nat) : Int) ∧ ((i : Nat) : Int) < ((((balK n (l ++ m)).1).length : Nat) : Int)) (o3 : ((rowI ((balK n (l ++ m)).1)).drop (0 + (Int.toNat ((i : Nat) : Int)) * 1)).take 1 = [.int .i64 e]) (o5 : 0 ≤ ((i : Nat) : Int) ∧ ((i : Nat) : Int) < ((((balK n l).1).length : Nat) : Int)) (o6 : ((rowI ((balK n l).1)).drop (0 + (Int.toNat ((i : Nat) : Int)) * 1)).take 1 = [.int .i64 e1]) (o8 : 0 ≤ ((i : Nat) : Int) ∧ ((i : Nat) : Int) < ((((balK n m).1).length : Nat) : Int)) (o9 : ((rowI ((balK n m).1)).drop (0 + (Int.toNat ((i : Nat) : Int)) * 1)).take 1 = [.int .i64 e2]) (o10 : InR .i64 (e1 + e2)) (o11 : (e != (e1 + e2)) = false)
    (hg : G Try.prog E (f12K1 Try.prog) ⟨[.int .i64 n, .rsl (rowSpn l) 0 l.length, .junk, .junk, .junk, .junk, .junk, .rsl (rowI ((balK n l).1)) 0 (((balK n l).1).length), .junk, .rsl (rowI ((balK n m).1)) 0 (((balK n m).1).length), .junk, .rsl (rowI ((balK n (l ++ m)).1)) 0 (((balK n (l ++ m)).1).length), .int .i64 ((i : Nat) : Int), .bool false, .int .i64 0, .junk, .junk, .junk, .junk, .junk, .junk, .junk, .junk, .junk, .junk, .junk, .junk, .junk, .junk, .junk, .junk, .junk, .junk, .junk, .junk, .junk, .junk, .junk, .junk, .junk, .junk, .junk, .junk, .junk, .junk, .junk, .junk, .junk, .junk, .junk, .junk, .junk, .junk, .junk, .junk, .junk, .junk, .junk, .junk, .junk, .junk, .junk, .junk, .junk, .junk, .junk, .junk, .junk, .junk, .junk, .junk, .junk, .junk, .junk, .junk, .junk, .junk, .junk, .junk, .junk, .junk, .junk, .junk, .junk, .junk, .junk, .junk, .junk, .junk, .junk, .junk, .junk, .junk, .junk, .junk, .junk, .junk, .junk, .junk, .junk, .junk, .junk, .junk, .junk, .junk, .junk, .junk, .junk, .junk, .junk, .junk, .junk, .junk, .junk, .junk, .junk, .junk, .junk, .junk, .junk, .junk, .junk, .junk, .junk, .junk, .junk, .junk, .junk, .junk, .junk, .junk, .junk, .junk, .junk, .junk, .junk, .junk, .junk, .junk, .junk, .junk, .junk, .junk, .junk, .junk, .junk, .junk, .junk, .junk, .junk], [⟨false, 2, 3, true, [], false⟩]⟩) : G Try.prog E (f12K0 Try.prog) (f12S0 n l m i ) :=
  segC_step (n := 400) (ds := []) (cs := []) (live := [0, 1, 7, 9, 11, 12, 13, 14]) (m := 1) (evs := [.b true, .ld (.int .i64 e), .ld (.int .i64 e1), .ld (.int .i64 e2), .b false, .stop]) (obs := [(decide (((i : Nat) : Int) < n)) = true, 0 ≤ ((i : Nat) : Int) ∧ ((i : Nat) : Int) < ((((balK n (l ++ m)).1).length : Nat) : Int), ((rowI ((balK n (l ++ m)).1)).drop (0 + (Int.toNat ((i : Nat) : Int)) * 1)).take 1 = [.int .i64 e], 0 ≤ ((i : Nat) : Int) ∧ ((i : Nat) : Int) < ((((balK n l).1).length : Nat) : Int), ((rowI ((balK n l).1)).drop (0 + (Int.toNat ((i : Nat) : Int)) * 1)).take 1 = [.int .i64 e1], 0 ≤ ((i : Nat) : Int) ∧ ((i : Nat) : Int) < ((((balK n m).1).length : Nat) : Int), ((rowI ((balK n m).1)).drop (0 + (Int.toNat ((i : Nat) : Int)) * 1)).take 1 = [.int .i64 e2], InR .i64 (e1 + e2), (e != (e1 + e2)) = false]) hE.2.1 (hE.nogh _) mixed (by kernel_rfl) ⟨o0, o2, o3, o5, o6, o8, o9, o10, o11, trivial⟩ hg
theorem p12_0_2 (n : Int) (l : (List Spn)) (m : (List Spn)) (i : Nat)   {E : Env} {res : AV} (hE : PureE Try.prog 12 res E) (o0 : (decide (((i : Nat) : Int) < n)) = false) (o1 : PureF Try.prog (.clos 20 [] []) [] (.bool true))
    (hr : AvLe (.bool true) res) : G Try.prog E (f12K0 Try.prog) (f12S0 n l m i ) :=
  end_stepL (n := 400) (evs := [.b false, .v (.bool true)]) (obs := [(decide (((i : Nat) : Int) < n)) = false, PureF Try.prog (.clos 20 [] []) [] (.bool true)]) hE Try.func12 mixed (by kernel_rfl) ⟨o0, o1, trivial⟩ hr
theorem f12W0 (n : Int) (l : (List Spn)) (m : (List Spn)) (i : Nat) {E : Env} {rv : Bool} (hE : PureE Try.prog 12 (.bool rv) E)
    (h : ((((i : Nat) : Int) < n → (∃ e : Int, ((balK n (l ++ m)).1)[i]? = some e ∧ (∃ e1 : Int, ((balK n l).1)[i]? = some e1 ∧ (∃ e2 : Int, ((balK n m).1)[i]? = some e2 ∧ ((-9223372036854775808 ≤ e1 + e2 ∧ e1 + e2 ≤ 9223372036854775807) ∧ ((¬ (e = (e1 + e2)) → rv = false) ∧ (e = (e1 + e2) → f12G1 E n l m i false 0))))))) ∧ (¬ (((i : Nat) : Int) < n) → rv = true))) : f12G0 E n l m i := by
  rcases Bool.eq_false_or_eq_true (decide (((i : Nat) : Int) < n)) with hc0 | hc0
  · have h := h.1 (of_decide_eq_true hc0)
    obtain ⟨e, h1, h⟩ := h
    obtain ⟨e1, h2, h⟩ := h
    obtain ⟨e2, h3, h⟩ := h
    obtain ⟨q10_1, h⟩ := h
    rcases Bool.eq_false_or_eq_true (e != (e1 + e2)) with hc1 | hc1
    · have h := h.1 (bneT hc1)
      exact p12_0_0 n l m i  e e1 e2 hE hc0 (idx_ok h1) (row_part cI (s := 1) (k := 0) (m := 1) (fun _ => rfl) (by decide) h1) (idx_ok h2) (row_part cI (s := 1) (k := 0) (m := 1) (fun _ => rfl) (by decide) h2) (idx_ok h3) (row_part cI (s := 1) (k := 0) (m := 1) (fun _ => rfl) (by decide) h3) q10_1 hc1 (AvLe.of_eq (by rw [h]; try rfl))
    · have h := h.2 (bneF hc1)
      exact p12_0_1 n l m i  e e1 e2 hE hc0 (idx_ok h1) (row_part cI (s := 1) (k := 0) (m := 1) (fun _ => rfl) (by decide) h1) (idx_ok h2) (row_part cI (s := 1) (k := 0) (m := 1) (fun _ => rfl) (by decide) h2) (idx_ok h3) (row_part cI (s := 1) (k := 0) (m := 1) (fun _ => rfl) (by decide) h3) q10_1 hc1 h
  · have h := h.2 (of_decide_eq_false hc0)
    exact p12_0_2 n l m i   hE hc0 (pureF_of Try.func20 (by kernel_rfl) f20b (works_ok )) (AvLe.of_eq (by rw [h]; try rfl))
theorem p12_1_0 (n : Int) (l : (List Spn)) (m : (List Spn)) (i : Nat) (touched : Bool) (k : Nat)   {E : Env} {rv : AV} (hE : PureE Try.prog 12 rv E) (o0 : (decide (((k : Nat) : Int) < ((l.length : Nat) : Int))) = true) (o1 : touched = true)
    (hg : G Try.prog E (f12K2 Try.prog) ⟨[.int .i64 n, .rsl (rowSpn l) 0 l.length, .junk, .junk, .junk, .junk, .junk, .rsl (rowI ((balK n l).1)) 0 (((balK n l).1).length), .junk, .rsl (rowI ((balK n m).1)) 0 (((balK n m).1).length), .junk, .rsl (rowI ((balK n (l ++ m)).1)) 0 (((balK n (l ++ m)).1).length), .int .i64 ((i : Nat) : Int), .bool true, .int .i64 ((k : Nat) : Int), .int .i64 0, .junk, .junk, .junk, .junk, .junk, .junk, .junk, .junk, .junk, .junk, .junk, .junk, .junk, .junk, .junk, .junk, .junk, .junk, .junk, .junk, .junk, .junk, .junk, .junk, .junk, .junk, .junk, .junk, .junk, .junk, .junk, .junk, .junk, .junk, .junk, .junk, .junk, .junk, .junk, .junk, .junk, .junk, .junk, .junk, .junk, .junk, .junk, .junk, .junk, .junk, .junk, .junk, .junk, .junk, .junk, .junk, .junk, .junk, .junk, .junk, .junk, .junk, .junk, .junk, .junk, .junk, .junk, .junk, .junk, .junk, .junk, .junk, .junk, .junk, .junk, .junk, .junk, .junk, .junk, .junk, .junk, .junk, .junk, .junk, .junk, .junk, .junk, .junk, .junk, .junk, .junk, .junk, .junk, .junk, .junk, .junk, .junk, .junk, .junk, .junk, .junk, .junk, .junk, .junk, .junk, .junk, .junk, .junk, .junk, .junk, .junk, .junk, .junk, .junk, .junk, .junk, .junk, .junk, .junk, .junk, .junk, .junk, .junk, .junk, .junk, .junk, .junk, .junk, .junk, .junk, .junk, .junk, .junk, .junk], [⟨false, 2, 3, true, [], false⟩]⟩) : G Try.prog E (f12K1 Try.prog) (f12S1 n l m i touched k ) :=
  segC_step (n := 400) (ds := []) (cs := []) (live := [0, 1, 7, 9, 11, 12, 13, 14, 15]) (m := 1) (evs := [.b true, .b true, .stop]) (obs := [(decide (((k : Nat) : Int) < ((l.length : Nat) : Int))) = true, touched = true]) hE.2.1 (hE.nogh _) mixed (by kernel_rfl) ⟨o0, o1, trivial⟩ hg
theorem p12_1_1 (n : Int) (l : (List Spn)) (m : (List Spn)) (i : Nat) (touched : Bool) (k : Nat)  (se : Spn)  {E : Env} {rv : AV} (hE : PureE Try.prog 12 rv E) (o0 : (decide (((k : Nat) : Int) < ((l.length : Nat) : Int))) = true) (o1 : touched = false) (o3 : 0 ≤ ((k : Nat) : Int) ∧ ((k : Nat) : Int) < ((l.length : Nat) : Int)) (o4 : ((rowSpn l).drop ((0 + (Int.toNat ((k : Nat) : Int)) * 3) + 0)).take 1 = [.int .i64 se.by_])
    (hg : G Try.prog E (f12K2 Try.prog) ⟨[.int .i64 n, .rsl (rowSpn l) 0 l.length, .junk, .junk, .junk, .junk, .junk, .rsl (rowI ((balK n l).1)) 0 (((balK n l).1).length), .junk, .rsl (rowI ((balK n m).1)) 0 (((balK n m).1).length), .junk, .rsl (rowI ((balK n (l ++ m)).1)) 0 (((balK n (l ++ m)).1).length), .int .i64 ((i : Nat) : Int), .bool (se.by_ == ((i : Nat) : Int)), .int .i64 ((k : Nat) : Int), .int .i64 0, .junk, .junk, .junk, .junk, .junk, .junk, .junk, .junk, .junk, .junk, .junk, .junk, .junk, .junk, .junk, .junk, .junk, .junk, .junk, .junk, .junk, .junk, .junk, .junk, .junk, .junk, .junk, .junk, .junk, .junk, .junk, .junk, .junk, .junk, .junk, .junk, .junk, .junk, .junk, .junk, .junk, .junk, .junk, .junk, .junk, .junk, .junk, .junk, .junk, .junk, .junk, .junk, .junk, .junk, .junk, .junk, .junk, .junk, .junk, .junk, .junk, .junk, .junk, .junk, .junk, .junk, .junk, .junk, .junk, .junk, .junk, .junk, .junk, .junk, .junk, .junk, .junk, .junk, .junk, .junk, .junk, .junk, .junk, .junk, .junk, .junk, .junk, .junk, .junk, .junk, .junk, .junk, .junk, .junk, .junk, .junk, .junk, .junk, .junk, .junk, .junk, .junk, .junk, .junk, .junk, .junk, .junk, .junk, .junk, .junk, .junk, .junk, .junk, .junk, .junk, .junk, .junk, .junk, .junk, .junk, .junk, .junk, .junk, .junk, .junk, .junk, .junk, .junk, .junk, .junk, .junk, .junk, .junk, .junk], [⟨false, 2, 3, true, [], false⟩]⟩) : G Try.prog E (f12K1 Try.prog) (f12S1 n l m i touched k ) :=
  segC_step (n := 400) (ds := []) (cs := []) (live := [0, 1, 7, 9, 11, 12, 13, 14, 15]) (m := 1) (evs := [.b true, .b false, .ld (.int .i64 se.by_), .stop]) (obs := [(decide (((k : Nat) : Int) < ((l.length : Nat) : Int))) = true, touched = false, 0 ≤ ((k : Nat) : Int) ∧ ((k : Nat) : Int) < ((l.length : Nat) : Int), ((rowSpn l).drop ((0 + (Int.toNat ((k : Nat) : Int)) * 3) + 0)).take 1 = [.int .i64 se.by_]]) hE.2.1 (hE.nogh _) mixed (by kernel_rfl) ⟨o0, o1, o3, o4, trivial⟩ hg
theorem p12_1_2 (n : Int) (l : (List Spn)) (m : (List Spn)) (i : Nat) (touched : Bool) (k : Nat)  (e : Int)  {E : Env} {res : AV} (hE : PureE Try.prog 12 res E) (o0 : (decide (((k : Nat) : Int) < ((l.length : Nat) : Int))) = false) (o1 : (!touched) = true) (o3 : 0 ≤ ((i : Nat) : Int) ∧ ((i : Nat) : Int) < ((((balK n l).1).length : Nat) : Int)) (o4 : ((rowI ((balK n l).1)).drop (0 + (Int.toNat ((i : Nat) : Int)) * 1)).take 1 = [.int .i64 e]) (o5 : (e != 0) = true)
    (hr : AvLe (.bool false) res) : G Try.prog E (f12K1 Try.prog) (f12S1 n l m i touched k ) :=
  end_stepL (n := 400) (evs := [.b false, .b true, .ld (.int .i64 e), .b true]) (obs := [(decide (((k : Nat) : Int) < ((l.length : Nat) : Int))) = false, (!touched) = true, 0 ≤ ((i : Nat) : Int) ∧ ((i : Nat) : Int) < ((((balK n l).1).length : Nat) : Int), ((rowI ((balK n l).1)).drop (0 + (Int.toNat ((i : Nat) : Int)) * 1)).take 1 = [.int .i64 e], (e != 0) = true]) hE Try.func12 mixed (by kernel_rfl) ⟨o0, o1, o3, o4, o5, trivial⟩ hr
theorem p12_1_3 (n : Int) (l : (List Spn)) (m : (List Spn)) (i : Nat) (touched : Bool) (k : Nat)  (e : Int)  {E : Env} {rv : AV} (hE : PureE Try.prog 12 rv E) (o0 : (decide (((k : Nat) : Int) < ((l.length : Nat) : Int))) = false) (o1 : (!touched) = true) (o3 : 0 ≤ ((i : Nat) : Int) ∧ ((i : Nat) : Int) < ((((balK n l).1).length : Nat) : Int)) (o4 : ((rowI ((balK n l).1)).drop (0 + (Int.toNat ((i : Nat) : Int)) * 1)).take 1 = [.int .i64 e]) (o5 : (e != 0) = false) (o6 : InR .i64 (((i : Nat) : Int) + 1))
    (hg : G Try.prog E (f12K0 Try.prog) ⟨[.int .i64 n, .rsl (rowSpn l) 0 l.length, .junk, .junk, .junk, .junk, .junk, .rsl (rowI ((balK n l).1)) 0 (((balK n l).1).length), .junk, .rsl (rowI ((balK n m).1)) 0 (((balK n m).1).length), .junk, .rsl (rowI ((balK n (l ++ m)).1)) 0 (((balK n (l ++ m)).1).length), .int .i64 (((i : Nat) : Int) + 1), .junk, .junk, .junk, .junk, .junk, .junk, .junk, .junk, .junk, .junk, .junk, .junk, .junk, .junk, .junk, .junk, .junk, .junk, .junk, .junk, .junk, .junk, .junk, .junk, .junk, .junk, .junk, .junk, .junk, .junk, .junk, .junk, .junk, .junk, .junk, .junk, .junk, .junk, .junk, .junk, .junk, .junk, .junk, .junk, .junk, .junk, .junk, .junk, .junk, .junk, .junk, .junk, .junk, .junk, .junk, .junk, .junk, .junk, .junk, .junk, .junk, .junk, .junk, .junk, .junk, .junk, .junk, .junk, .junk, .junk, .junk, .junk, .junk, .junk, .junk, .junk, .junk, .junk, .junk, .junk, .junk, .junk, .junk, .junk, .junk, .junk, .junk, .junk, .junk, .junk, .junk, .junk, .junk, .junk, .junk, .junk, .junk, .junk, .junk, .junk, .junk, .junk, .junk, .junk, .junk, .junk, .junk, .junk, .junk, .junk, .junk, .junk, .junk, .junk, .junk, .junk, .junk, .junk, .junk, .junk, .junk, .junk, .junk, .junk, .junk, .junk, .junk, .junk, .junk, .junk, .junk, .junk, .junk, .junk, .junk, .junk, .junk], [⟨false, 2, 3, true, [], false⟩]⟩) : G Try.prog E (f12K1 Try.prog) (f12S1 n l m i touched k ) :=
  segC_step (n := 400) (ds := []) (cs := []) (live := [0, 1, 7, 9, 11, 12]) (m := 1) (evs := [.b false, .b true, .ld (.int .i64 e), .b false, .stop]) (obs := [(decide (((k : Nat) : Int) < ((l.length : Nat) : Int))) = false, (!touched) = true, 0 ≤ ((i : Nat) : Int) ∧ ((i : Nat) : Int) < ((((balK n l).1).length : Nat) : Int), ((rowI ((balK n l).1)).drop (0 + (Int.toNat ((i : Nat) : Int)) * 1)).take 1 = [.int .i64 e], (e != 0) = false, InR .i64 (((i : Nat) : Int) + 1)]) hE.2.1 (hE.nogh _) mixed (by kernel_rfl) ⟨o0, o1, o3, o4, o5, o6, trivial⟩ hg
theorem p12_1_4 (n : Int) (l : (List Spn)) (m : (List Spn)) (i : Nat) (touched : Bool) (k : Nat)   {E : Env} {rv : AV} (hE : PureE Try.prog 12 rv E) (o0 : (decide (((k : Nat) : Int) < ((l.length : Nat) : Int))) = false) (o1 : (!touched) = false) (o3 : InR .i64 (((i : Nat) : Int) + 1))
    (hg : G Try.prog E (f12K0 Try.prog) ⟨[.int .i64 n, .rsl (rowSpn l) 0 l.length, .junk, .junk, .junk, .junk, .junk, .rsl (rowI ((balK n l).1)) 0 (((balK n l).1).length), .junk, .rsl (rowI ((balK n m).1)) 0 (((balK n m).1).length), .junk, .rsl (rowI ((balK n (l ++ m)).1)) 0 (((balK n (l ++ m)).1).length), .int .i64 (((i : Nat) : Int) + 1), .junk, .junk, .junk, .junk, .junk, .junk, .junk, .junk, .junk, .junk, .junk, .junk, .junk, .junk, .junk, .junk, .junk, .junk, .junk, .junk, .junk, .junk, .junk, .junk, .junk, .junk, .junk, .junk, .junk, .junk, .junk, .junk, .junk, .junk, .junk, .junk, .junk, .junk, .junk, .junk, .junk, .junk, .junk, .junk, .junk, .junk, .junk, .junk, .junk, .junk, .junk, .junk, .junk, .junk, .junk, .junk, .junk, .junk, .junk, .junk, .junk, .junk, .junk, .junk, .junk, .junk, .junk, .junk, .junk, .junk, .junk, .junk, .junk, .junk, .junk, .junk, .junk, .junk, .junk, .junk, .junk, .junk, .junk, .junk, .junk, .junk, .junk, .junk, .junk, .junk, .junk, .junk, .junk, .junk, .junk, .junk, .junk, .junk, .junk, .junk, .junk, .junk, .junk, .junk, .junk, .junk, .junk, .junk, .junk, .junk, .junk, .junk, .junk, .junk, .junk, .junk, .junk, .junk, .junk, .junk, .junk, .junk, .junk, .junk, .junk, .junk, .junk, .junk, .junk, .junk, .junk, .junk, .junk, .junk, .junk, .junk, .junk], [⟨false, 2, 3, true, [], false⟩]⟩) : G Try.prog E (f12K1 Try.prog) (f12S1 n l m i touched k ) :=
  segC_step (n := 400) (ds := []) (cs := []) (live := [0, 1, 7, 9, 11, 12]) (m := 1) (evs := [.b false, .b false, .b false, .stop]) (obs := [(decide (((k : Nat) : Int) < ((l.length : Nat) : Int))) = false, (!touched) = false, false = false, InR .i64 (((i : Nat) : Int) + 1)]) hE.2.1 (hE.nogh _) mixed (by kernel_rfl) ⟨o0, o1, (rfl), o3, trivial⟩ hg
theorem f12W1 (n : Int) (l : (List Spn)) (m : (List Spn)) (i : Nat) (touched : Bool) (k : Nat) {E : Env} {rv : Bool} (hE : PureE Try.prog 12 (.bool rv) E)
    (h : ((((k : Nat) : Int) < ((l.length : Nat) : Int) → ((touched = true → f12G2 E n l m true i 0 k) ∧ (touched = false → (∃ se : Spn, l[k]? = some se ∧ f12G2 E n l m (se.by_ == ((i : Nat) : Int)) i 0 k)))) ∧ (¬ (((k : Nat) : Int) < ((l.length : Nat) : Int)) → ((touched = false → (∃ e : Int, ((balK n l).1)[i]? = some e ∧ ((¬ (e = 0) → rv = false) ∧ (e = 0 → ((-9223372036854775808 ≤ ((i : Nat) : Int) + 1 ∧ ((i : Nat) : Int) + 1 ≤ 9223372036854775807) ∧ f12G0 E n l m (i + 1)))))) ∧ (touched = true → ((-9223372036854775808 ≤ ((i : Nat) : Int) + 1 ∧ ((i : Nat) : Int) + 1 ≤ 9223372036854775807) ∧ f12G0 E n l m (i + 1))))))) : f12G1 E n l m i touched k := by
  rcases Bool.eq_false_or_eq_true (decide (((k : Nat) : Int) < ((l.length : Nat) : Int))) with hc0 | hc0
  · have h := h.1 (of_decide_eq_true hc0)
    rcases Bool.eq_false_or_eq_true touched with hc1 | hc1
    · have h := h.1 hc1
      exact p12_1_0 n l m i touched k   hE hc0 hc1 h
    · have h := h.2 hc1
      obtain ⟨se, h1, h⟩ := h
      exact p12_1_1 n l m i touched k  se hE hc0 hc1 (idx_ok h1) (row_part cSpn (s := 3) (k := 0) (m := 1) (fun _ => rfl) (by decide) h1) h
  · have h := h.2 (of_decide_eq_false hc0)
    rcases Bool.eq_false_or_eq_true (!touched) with hc1 | hc1
    · have h := h.1 (bnT hc1)
      obtain ⟨e, h1, h⟩ := h
      rcases Bool.eq_false_or_eq_true (e != 0) with hc2 | hc2
      · have h := h.1 (bneT hc2)
        exact p12_1_2 n l m i touched k  e hE hc0 hc1 (idx_ok h1) (row_part cI (s := 1) (k := 0) (m := 1) (fun _ => rfl) (by decide) h1) hc2 (AvLe.of_eq (by rw [h]; try rfl))
      · have h := h.2 (bneF hc2)
        obtain ⟨q6_3, h⟩ := h
        exact p12_1_3 n l m i touched k  e hE hc0 hc1 (idx_ok h1) (row_part cI (s := 1) (k := 0) (m := 1) (fun _ => rfl) (by decide) h1) hc2 q6_3 h
    · have h := h.2 (bnF hc1)
      obtain ⟨q3_2, h⟩ := h
      exact p12_1_4 n l m i touched k   hE hc0 hc1 q3_2 h
theorem p12_2_0 (n : Int) (l : (List Spn)) (m : (List Spn)) (touched : Bool) (i : Nat) (j : Nat) (k : Nat)  (se : Spn)  {E : Env} {rv : AV} (hE : PureE Try.prog 12 rv E) (o1 : 0 ≤ ((k : Nat) : Int) ∧ ((k : Nat) : Int) < ((l.length : Nat) : Int)) (o2 : ((rowSpn l).drop ((0 + (Int.toNat ((k : Nat) : Int)) * 3) + 2)).take 1 = [.rsl (rowI se.fr) 0 se.fr.length]) (o3 : (decide (((j : Nat) : Int) < ((se.fr.length : Nat) : Int))) = true) (o4 : touched = true) (o5 : InR .i64 (((j : Nat) : Int) + 1))
    (hg : G Try.prog E (f12K2 Try.prog) ⟨[.int .i64 n, .rsl (rowSpn l) 0 l.length, .junk, .junk, .junk, .junk, .junk, .rsl (rowI ((balK n l).1)) 0 (((balK n l).1).length), .junk, .rsl (rowI ((balK n m).1)) 0 (((balK n m).1).length), .junk, .rsl (rowI ((balK n (l ++ m)).1)) 0 (((balK n (l ++ m)).1).length), .int .i64 ((i : Nat) : Int), .bool true, .int .i64 ((k : Nat) : Int), .int .i64 (((j : Nat) : Int) + 1), .junk, .junk, .junk, .junk, .junk, .junk, .junk, .junk, .junk, .junk, .junk, .junk, .junk, .junk, .junk, .junk, .junk, .junk, .junk, .junk, .junk, .junk, .junk, .junk, .junk, .junk, .junk, .junk, .junk, .junk, .junk, .junk, .junk, .junk, .junk, .junk, .junk, .junk, .junk, .junk, .junk, .junk, .junk, .junk, .junk, .junk, .junk, .junk, .junk, .junk, .junk, .junk, .junk, .junk, .junk, .junk, .junk, .junk, .junk, .junk, .junk, .junk, .junk, .junk, .junk, .junk, .junk, .junk, .junk, .junk, .junk, .junk, .junk, .junk, .junk, .junk, .junk, .junk, .junk, .junk, .junk, .junk, .junk, .junk, .junk, .junk, .junk, .junk, .junk, .junk, .junk, .junk, .junk, .junk, .junk, .junk, .junk, .junk, .junk, .junk, .junk, .junk, .junk, .junk, .junk, .junk, .junk, .junk, .junk, .junk, .junk, .junk, .junk, .junk, .junk, .junk, .junk, .junk, .junk, .junk, .junk, .junk, .junk, .junk, .junk, .junk, .junk, .junk, .junk, .junk, .junk, .junk, .junk, .junk], [⟨false, 2, 3, true, [], false⟩]⟩) : G Try.prog E (f12K2 Try.prog) (f12S2 n l m touched i j k ) :=
  segC_step (n := 400) (ds := []) (cs := []) (live := [0, 1, 7, 9, 11, 12, 13, 14, 15]) (m := 1) (evs := [.ld (.rsl (rowI se.fr) 0 se.fr.length), .b true, .b true, .stop]) (obs := [0 ≤ ((k : Nat) : Int) ∧ ((k : Nat) : Int) < ((l.length : Nat) : Int), ((rowSpn l).drop ((0 + (Int.toNat ((k : Nat) : Int)) * 3) + 2)).take 1 = [.rsl (rowI se.fr) 0 se.fr.length], (decide (((j : Nat) : Int) < ((se.fr.length : Nat) : Int))) = true, touched = true, InR .i64 (((j : Nat) : Int) + 1)]) hE.2.1 (hE.nogh _) mixed (by kernel_rfl) ⟨o1, o2, o3, o4, o5, trivial⟩ hg
theorem p12_2_1 (n : Int) (l : (List Spn)) (m : (List Spn)) (touched : Bool) (i : Nat) (j : Nat) (k : Nat)  (se : Spn) (e : Int)  {E : Env} {rv : AV} (hE : PureE Try.prog 12 rv E) (o1 : 0 ≤ ((k : Nat) : Int) ∧ ((k : Nat) : Int) < ((l.length : Nat) : Int)) (o2 : ((rowSpn l).drop ((0 + (Int.toNat ((k : Nat) : Int)) * 3) + 2)).take 1 = [.rsl (rowI se.fr) 0 se.fr.length]) (o3 : (decide (((j : Nat) : Int) < ((se.fr.length : Nat) : Int))) = true) (o4 : touched = false) (o5 : 0 ≤ ((k : Nat) : Int) ∧ ((k : Nat) : Int) < ((l.length : Nat) : Int)) (o6 : ((rowSpn l).drop ((0 + (Int.toNat ((k : Nat) : Int)) * 3) + 2)).take 1 = [.rsl (rowI se.fr) 0 se.fr.length]) (o8 : 0 ≤ ((j : Nat) : Int) ∧ ((j : Nat) : Int) < ((se.fr.length : Nat) : Int)) (o9 : ((rowI se.fr).drop (0 + (Int.toNat ((j : Nat) : Int)) * 1)).take 1 = [.int .i64 e]) (o10 : InR .i64 (((j : Nat) : Int) + 1))
    (hg : G Try.prog E (f12K2 Try.prog) ⟨[.int .i64 n, .rsl (rowSpn l) 0 l.length, .junk, .junk, .junk, .junk, .junk, .rsl (rowI ((balK n l).1)) 0 (((balK n l).1).length), .junk, .rsl (rowI ((balK n m).1)) 0 (((balK n m).1).length), .junk, .rsl (rowI ((balK n (l ++ m)).1)) 0 (((balK n (l ++ m)).1).length), .int .i64 ((i : Nat) : Int), .bool (e == ((i : Nat) : Int)), .int .i64 ((k : Nat) : Int), .int .i64 (((j : Nat) : Int) + 1), .junk, .junk, .junk, .junk, .junk, .junk, .junk, .junk, .junk, .junk, .junk, .junk, .junk, .junk, .junk, .junk, .junk, .junk, .junk, .junk, .junk, .junk, .junk, .junk, .junk, .junk, .junk, .junk, .junk, .junk, .junk, .junk, .junk, .junk, .junk, .junk, .junk, .junk, .junk, .junk, .junk, .junk, .junk, .junk, .junk, .junk, .junk, .junk, .junk, .junk, .junk, .junk, .junk, .junk, .junk, .junk, .junk, .junk, .junk, .junk, .junk, .junk, .junk, .junk, .junk, .junk, .junk, .junk, .junk, .junk, .junk, .junk, .junk, .junk, .junk, .junk, .junk, .junk, .junk, .junk, .junk, .junk, .junk, .junk, .junk, .junk, .junk, .junk, .junk, .junk, .junk, .junk, .junk, .junk, .junk, .junk, .junk, .junk, .junk, .junk, .junk, .junk, .junk, .junk, .junk, .junk, .junk, .junk, .junk, .junk, .junk, .junk, .junk, .junk, .junk, .junk, .junk, .junk, .junk, .junk, .junk, .junk, .junk, .junk, .junk, .junk, .junk, .junk, .junk, .junk, .junk, .junk, .junk, .junk], [⟨false, 2, 3, true, [], false⟩]⟩) : G Try.prog E (f12K2 Try.prog) (f12S2 n l m touched i j k ) :=
  segC_step (n := 400) (ds := []) (cs := []) (live := [0, 1, 7, 9, 11, 12, 13, 14, 15]) (m := 1) (evs := [.ld (.rsl (rowI se.fr) 0 se.fr.length), .b true, .b false, .ld (.rsl (rowI se.fr) 0 se.fr.length), .ld (.int .i64 e), .stop]) (obs := [0 ≤ ((k : Nat) : Int) ∧ ((k : Nat) : Int) < ((l.length : Nat) : Int), ((rowSpn l).drop ((0 + (Int.toNat ((k : Nat) : Int)) * 3) + 2)).take 1 = [.rsl (rowI se.fr) 0 se.fr.length], (decide (((j : Nat) : Int) < ((se.fr.length : Nat) : Int))) = true, touched = false, 0 ≤ ((k : Nat) : Int) ∧ ((k : Nat) : Int) < ((l.length : Nat) : Int), ((rowSpn l).drop ((0 + (Int.toNat ((k : Nat) : Int)) * 3) + 2)).take 1 = [.rsl (rowI se.fr) 0 se.fr.length], 0 ≤ ((j : Nat) : Int) ∧ ((j : Nat) : Int) < ((se.fr.length : Nat) : Int), ((rowI se.fr).drop (0 + (Int.toNat ((j : Nat) : Int)) * 1)).take 1 = [.int .i64 e], InR .i64 (((j : Nat) : Int) + 1)]) hE.2.1 (hE.nogh _) mixed (by kernel_rfl) ⟨o1, o2, o3, o4, o5, o6, o8, o9, o10, trivial⟩ hg
theorem p12_2_2 (n : Int) (l : (List Spn)) (m : (List Spn)) (touched : Bool) (i : Nat) (j : Nat) (k : Nat)  (se : Spn)  {E : Env} {rv : AV} (hE : PureE Try.prog 12 rv E) (o1 : 0 ≤ ((k : Nat) : Int) ∧ ((k : Nat) : Int) < ((l.length : Nat) : Int)) (o2 : ((rowSpn l).drop ((0 + (Int.toNat ((k : Nat) : Int)) * 3) + 2)).take 1 = [.rsl (rowI se.fr) 0 se.fr.length]) (o3 : (decide (((j : Nat) : Int) < ((se.fr.length : Nat) : Int))) = false) (o4 : InR .i64 (((k : Nat) : Int) + 1))
    (hg : G Try.prog E (f12K1 Try.prog) ⟨[.int .i64 n, .rsl (rowSpn l) 0 l.length, .junk, .junk, .junk, .junk, .junk, .rsl (rowI ((balK n l).1)) 0 (((balK n l).1).length), .junk, .rsl (rowI ((balK n m).1)) 0 (((balK n m).1).length), .junk, .rsl (rowI ((balK n (l ++ m)).1)) 0 (((balK n (l ++ m)).1).length), .int .i64 ((i : Nat) : Int), .bool touched, .int .i64 (((k : Nat) : Int) + 1), .junk, .junk, .junk, .junk, .junk, .junk, .junk, .junk, .junk, .junk, .junk, .junk, .junk, .junk, .junk, .junk, .junk, .junk, .junk, .junk, .junk, .junk, .junk, .junk, .junk, .junk, .junk, .junk, .junk, .junk, .junk, .junk, .junk, .junk, .junk, .junk, .junk, .junk, .junk, .junk, .junk, .junk, .junk, .junk, .junk, .junk, .junk, .junk, .junk, .junk, .junk, .junk, .junk, .junk, .junk, .junk, .junk, .junk, .junk, .junk, .junk, .junk, .junk, .junk, .junk, .junk, .junk, .junk, .junk, .junk, .junk, .junk, .junk, .junk, .junk, .junk, .junk, .junk, .junk, .junk, .junk, .junk, .junk, .junk, .junk, .junk, .junk, .junk, .junk, .junk, .junk, .junk, .junk, .junk, .junk, .junk, .junk, .junk, .junk, .junk, .junk, .junk, .junk, .junk, .junk, .junk, .junk, .junk, .junk, .junk, .junk, .junk, .junk, .junk, .junk, .junk, .junk, .junk, .junk, .junk, .junk, .junk, .junk, .junk, .junk, .junk, .junk, .junk, .junk, .junk, .junk, .junk, .junk, .junk, .junk], [⟨false, 2, 3, true, [], false⟩]⟩) : G Try.prog E (f12K2 Try.prog) (f12S2 n l m touched i j k ) :=
  segC_step (n := 400) (ds := []) (cs := []) (live := [0, 1, 7, 9, 11, 12, 13, 14]) (m := 1) (evs := [.ld (.rsl (rowI se.fr) 0 se.fr.length), .b false, .stop]) (obs := [0 ≤ ((k : Nat) : Int) ∧ ((k : Nat) : Int) < ((l.length : Nat) : Int), ((rowSpn l).drop ((0 + (Int.toNat ((k : Nat) : Int)) * 3) + 2)).take 1 = [.rsl (rowI se.fr) 0 se.fr.length], (decide (((j : Nat) : Int) < ((se.fr.length : Nat) : Int))) = false, InR .i64 (((k : Nat) : Int) + 1)]) hE.2.1 (hE.nogh _) mixed (by kernel_rfl) ⟨o1, o2, o3, o4, trivial⟩ hg
theorem f12W2 (n : Int) (l : (List Spn)) (m : (List Spn)) (touched : Bool) (i : Nat) (j : Nat) (k : Nat) {E : Env} {rv : Bool} (hE : PureE Try.prog 12 (.bool rv) E)
    (h : (∃ se : Spn, l[k]? = some se ∧ ((((j : Nat) : Int) < ((se.fr.length : Nat) : Int) → ((touched = true → ((-9223372036854775808 ≤ ((j : Nat) : Int) + 1 ∧ ((j : Nat) : Int) + 1 ≤ 9223372036854775807) ∧ f12G2 E n l m true i (j + 1) k)) ∧ (touched = false → (∃ e : Int, se.fr[j]? = some e ∧ ((-9223372036854775808 ≤ ((j : Nat) : Int) + 1 ∧ ((j : Nat) : Int) + 1 ≤ 9223372036854775807) ∧ f12G2 E n l m (e == ((i : Nat) : Int)) i (j + 1) k))))) ∧ (¬ (((j : Nat) : Int) < ((se.fr.length : Nat) : Int)) → ((-9223372036854775808 ≤ ((k : Nat) : Int) + 1 ∧ ((k : Nat) : Int) + 1 ≤ 9223372036854775807) ∧ f12G1 E n l m i touched (k + 1)))))) : f12G2 E n l m touched i j k := by
  obtain ⟨se, h1, h⟩ := h
  rcases Bool.eq_false_or_eq_true (decide (((j : Nat) : Int) < ((se.fr.length : Nat) : Int))) with hc0 | hc0
  · have h := h.1 (of_decide_eq_true hc0)
    rcases Bool.eq_false_or_eq_true touched with hc1 | hc1
    · have h := h.1 hc1
      obtain ⟨q5_2, h⟩ := h
      exact p12_2_0 n l m touched i j k  se hE (idx_ok h1) (row_part cSpn (s := 3) (k := 2) (m := 1) (fun _ => rfl) (by decide) h1) hc0 hc1 q5_2 h
    · have h := h.2 hc1
      obtain ⟨e, h2, h⟩ := h
      obtain ⟨q10_2, h⟩ := h
      exact p12_2_1 n l m touched i j k  se e hE (idx_ok h1) (row_part cSpn (s := 3) (k := 2) (m := 1) (fun _ => rfl) (by decide) h1) hc0 hc1 (idx_ok h1) (row_part cSpn (s := 3) (k := 2) (m := 1) (fun _ => rfl) (by decide) h1) (idx_ok h2) (row_part cI (s := 1) (k := 0) (m := 1) (fun _ => rfl) (by decide) h2) q10_2 h
  · have h := h.2 (of_decide_eq_false hc0)
    obtain ⟨q4_1, h⟩ := h
    exact p12_2_2 n l m touched i j k  se hE (idx_ok h1) (row_part cSpn (s := 3) (k := 2) (m := 1) (fun _ => rfl) (by decide) h1) hc0 q4_1 h

theorem balAll_len : ∀ {l : List Spn} {v : List Int}, (balAll l v).length = v.length
  | [], v => rfl
  | x :: l, v => by
    have := balAll_len (l := l) (v := spDo v x)
    rw [balAll, List.foldl_cons] at *
    rw [this, spDo, spFor_len, addTo_len]

def contFor (c : Int) (m : Nat) : Nat → List Int → Nat → Int
  | _, [], _ => 0
  | k, p :: r, i => (if Int.toNat p = i then -owe c m k else 0) + contFor c m (k + 1) r i
def cont (x : Spn) (i : Nat) : Int := (if Int.toNat x.by_ = i then x.c else 0) + contFor x.c x.fr.length 0 x.fr i
def contAll : List Spn → Nat → Int
  | [], _ => 0
  | x :: l, i => cont x i + contAll l i

theorem contAll_append {i : Nat} : ∀ {l m : List Spn}, contAll (l ++ m) i = contAll l i + contAll m i
  | [], m => by simp [contAll]
  | x :: l, m => by rw [List.cons_append, contAll, contAll, contAll_append]; omega

theorem addTo_get {v : List Int} {p c : Int} {i : Nat} (h : Int.toNat p < v.length) : (addTo v p c).getD i 0 = v.getD i 0 + if Int.toNat p = i then c else 0 := by
  rw [addTo]
  by_cases e : Int.toNat p = i
  · subst e; rw [if_pos rfl]; simp [List.getD, h]
  · rw [if_neg e]; simp [List.getD, List.getElem?_set_ne e]

theorem spFor_get {c : Int} {m : Nat} : ∀ {l : List Int} {k : Nat} {v : List Int} {i : Nat}, (∀ p ∈ l, 0 ≤ p ∧ p < (v.length : Int)) → (spFor c m k l v).getD i 0 = v.getD i 0 + contFor c m k l i
  | [], k, v, i, h => by simp [spFor, contFor]
  | p :: l, k, v, i, h => by
    have hp := h p (by simp)
    rw [spFor, spFor_get (fun q hq => by rw [addTo_len]; exact h q (by simp [hq])), addTo_get (by omega), contFor, Int.add_assoc]

theorem balAll_get {n : Int} : ∀ {l : List Spn} {v : List Int} {i : Nat}, (v.length : Int) = n → (∀ x ∈ l, spnOk n x = true) → (balAll l v).getD i 0 = v.getD i 0 + contAll l i
  | [], v, i, hn, h => by simp [balAll, contAll]
  | x :: l, v, i, hn, h => by
    obtain ⟨x1, x2, x3, x4, x5⟩ := spn_of (h x (by simp))
    have := balAll_get (l := l) (v := spDo v x) (i := i) (by rw [spDo, spFor_len, addTo_len]; exact hn) (fun y hy => h y (by simp [hy]))
    rw [balAll, List.foldl_cons]
    rw [balAll] at this
    rw [this, spDo, spFor_get (fun p hp => by rw [addTo_len, hn]; exact x4 p hp), addTo_get (by omega), contAll, cont]; omega

theorem contFor_zero {c : Int} {m : Nat} {i : Nat} : ∀ {l : List Int} {k : Nat}, (∀ p ∈ l, 0 ≤ p) → (l.any fun p => p == (i : Int)) = false → contFor c m k l i = 0
  | [], k, _, _ => rfl
  | p :: l, k, h, ha => by
    simp only [List.any_cons, Bool.or_eq_false_iff, beq_eq_false_iff_ne] at ha
    have hp := h p (by simp)
    rw [contFor, if_neg (by omega), contFor_zero (fun q hq => h q (by simp [hq])) ha.2]; rfl

def touch (i : Nat) (x : Spn) : Bool := x.by_ == (i : Int) || x.fr.any fun p => p == (i : Int)

theorem contAll_zero {n : Int} {i : Nat} : ∀ {l : List Spn}, (∀ x ∈ l, spnOk n x = true) → l.any (touch i) = false → contAll l i = 0
  | [], _, _ => rfl
  | x :: l, h, ha => by
    simp only [List.any_cons, Bool.or_eq_false_iff, touch, beq_eq_false_iff_ne] at ha
    obtain ⟨x1, x2, x3, x4, x5⟩ := spn_of (h x (by simp))
    rw [contAll, cont, if_neg (by omega), contFor_zero (fun p hp => (x4 p hp).1) ha.1.2, contAll_zero (fun y hy => h y (by simp [hy])) (by simpa [touch] using ha.2)]; rfl

def oweTo (c : Int) (m : Nat) : Nat → Int
  | 0 => 0
  | t + 1 => oweTo c m t + owe c m t

theorem oweTo_eq {c : Int} {m : Nat} (hc : 0 ≤ c) : ∀ {t : Nat}, oweTo c m t = (t : Int) * Int.tdiv c m + if (t : Int) < Int.tmod c m then (t : Int) else Int.tmod c m
  | 0 => by
    have := Int.tmod_nonneg (a := c) (m : Int) hc
    rw [oweTo]
    split <;> simp <;> omega
  | t + 1 => by
    rw [oweTo, oweTo_eq hc, owe, Int.natCast_add, Int.add_mul]
    generalize (t : Int) * Int.tdiv c m = a
    simp only [Int.natCast_one, Int.one_mul]
    split <;> split <;> omega

theorem oweTo_all {c : Int} {m : Nat} (hc : 0 ≤ c) (hm : 0 < m) : oweTo c m m = c := by
  have h1 : Int.tmod c m < m := Int.tmod_lt_of_pos _ (by omega)
  rw [oweTo_eq hc, if_neg (by omega)]
  have := Int.mul_tdiv_add_tmod c m
  omega

theorem addTo_sum {v : List Int} {p c : Int} (h : Int.toNat p < v.length) : (addTo v p c).sum = v.sum + c := by
  rw [addTo, sum_set h]; omega

theorem spFor_sum {c : Int} {m : Nat} : ∀ {l : List Int} {k : Nat} {v : List Int}, (∀ p ∈ l, 0 ≤ p ∧ p < (v.length : Int)) → (spFor c m k l v).sum = v.sum - (oweTo c m (k + l.length) - oweTo c m k)
  | [], k, v, h => by simp [spFor]
  | p :: l, k, v, h => by
    have hp := h p (by simp)
    rw [spFor, spFor_sum (fun q hq => by rw [addTo_len]; exact h q (by simp [hq])), addTo_sum (by omega), List.length_cons, show k + 1 + l.length = k + (l.length + 1) by omega]
    have : oweTo c m (k + 1) = oweTo c m k + owe c m k := rfl
    omega

theorem balAll_sum {n : Int} : ∀ {l : List Spn} {v : List Int}, (v.length : Int) = n → (∀ x ∈ l, spnOk n x = true) → (balAll l v).sum = v.sum
  | [], v, hn, h => rfl
  | x :: l, v, hn, h => by
    obtain ⟨x1, x2, x3, x4, x5⟩ := spn_of (h x (by simp))
    have := balAll_sum (l := l) (v := spDo v x) (by rw [spDo, spFor_len, addTo_len]; exact hn) (fun y hy => h y (by simp [hy]))
    rw [balAll, List.foldl_cons]
    rw [balAll] at this
    have h0 : oweTo x.c x.fr.length 0 = 0 := rfl
    rw [this, spDo, spFor_sum (fun p hp => by rw [addTo_len, hn]; exact x4 p hp), addTo_sum (by omega), Nat.zero_add, oweTo_all x2.1 x3, h0]; omega

theorem spFor_bd {c n : Int} {m : Nat} (hc : 0 ≤ c ∧ c ≤ 1000000000) (hm : 0 < m) : ∀ {l : List Int} {k : Nat} {v : List Int} {B : Int}, (v.length : Int) = n → (∀ p ∈ l, 0 ≤ p ∧ p < n) → (∀ y ∈ v, -B ≤ y ∧ y ≤ B) →
    ∀ y ∈ spFor c m k l v, -(B + 1000000001 * (l.length : Int)) ≤ y ∧ y ≤ B + 1000000001 * (l.length : Int)
  | [], k, v, B, hn, h, hb, y, hy => by have := hb y hy; simp; omega
  | p :: l, k, v, B, hn, h, hb, y, hy => by
    have hp := h p (by simp)
    obtain ⟨-, o2⟩ := owe_bd (k := k) hc hm
    have nb := addTo_bd (c := -owe c m k) hn hp.1 hp.2 hb (by omega)
    have := spFor_bd hc hm (l := l) (k := k + 1) (v := addTo v p (-owe c m k)) (B := B + 1000000001) (by rw [addTo_len]; exact hn) (fun q hq => h q (by simp [hq])) nb y hy
    simp only [List.length_cons, Int.natCast_add] at *; omega

theorem balAll_bd {n : Int} (h10 : n ≤ 10) : ∀ {l : List Spn} {v : List Int} {B : Int}, (v.length : Int) = n → (∀ x ∈ l, spnOk n x = true) → (∀ y ∈ v, -B ≤ y ∧ y ≤ B) →
    ∀ y ∈ balAll l v, -(B + 11000000011 * (l.length : Int)) ≤ y ∧ y ≤ B + 11000000011 * (l.length : Int)
  | [], v, B, hn, h, hb, y, hy => by have := hb y hy; simp; omega
  | x :: l, v, B, hn, h, hb, y, hy => by
    obtain ⟨x1, x2, x3, x4, x5⟩ := spn_of (h x (by simp))
    have b1 := addTo_bd (c := x.c) hn x1.1 (by omega) hb (by omega)
    have b2 := spFor_bd x2 x3 (k := 0) (l := x.fr) (v := addTo v x.by_ x.c) (B := B + 1000000001) (by rw [addTo_len]; exact hn) x4 b1
    have := balAll_bd h10 (l := l) (v := spDo v x) (B := B + 11000000011) (by rw [spDo, spFor_len, addTo_len]; exact hn) (fun y hy => h y (by simp [hy])) (fun y hy => by have := b2 y hy; omega) y hy
    simp only [List.length_cons, Int.natCast_add] at *; omega

theorem sumOk_abs {B : Int} (hB0 : 0 ≤ B) (hB : B ≤ 1000000000000000) {u : List Int} (hu : u.length ≤ 1000) (hx : ∀ x ∈ u, -B ≤ x ∧ x ≤ B) : SumOk u := by
  refine ⟨by omega, fun k hk => ?_⟩
  have : ∀ {w : List Int}, (∀ x ∈ w, -B ≤ x ∧ x ≤ B) → -B * (w.length : Int) ≤ w.sum ∧ w.sum ≤ B * (w.length : Int) := by
    intro w
    induction w with
    | nil => simp
    | cons y w ih =>
      intro hw
      have := ih fun x hx => hw x (by simp [hx])
      have := hw y (by simp)
      simp only [List.sum_cons, List.length_cons, Int.natCast_add, Int.mul_add] at *; omega
  have h3 := this (w := u.take k) fun x hx' => hx x (List.mem_of_mem_take hx')
  have h4 : ((u.take k).length : Int) ≤ 1000 := by rw [List.length_take]; omega
  have h5 : B * ((u.take k).length : Int) ≤ 1000000000000000 * 1000 := Int.mul_le_mul hB h4 (by omega) (by omega)
  have h6 := Int.neg_mul B ((u.take k).length : Int)
  omega

theorem balK_zero {n : Int} {l : List Spn} (h : (balK n l).2 = 0) : checkSpK n l = 0 ∧ (balK n l).1 = balAll l (List.replicate (Int.toNat n) 0) := by
  rw [balK] at *
  split at h
  · rename_i h1; rw [if_pos h1]; exact ⟨h1, rfl⟩
  · rename_i h1; exact absurd h h1

theorem law12_ok (n : Int) (l m : List Spn) (hl : l.length ≤ 9223372036854775807 ∧ ∀ x ∈ l, x.fr.length ≤ 9223372036854775807) (hm : m.length ≤ 9223372036854775807 ∧ ∀ x ∈ m, x.fr.length ≤ 9223372036854775807) :
    Pure Try.prog 12 [.int .i64 n, .rsl (rowSpn l) 0 l.length, .rsl (rowSpn m) 0 m.length] (.bool true) := pure_of Try.func12 f12b fun E hE => by
  by_cases z1 : (balK n l).2 = 0
  case neg => exact f12W n l m (rv := true) hE ⟨hl, hm, fun _ => rfl, fun h => absurd h z1⟩
  by_cases z2 : (balK n m).2 = 0
  case neg => exact f12W n l m (rv := true) hE ⟨hl, hm, fun _ => rfl, fun _ => ⟨fun _ => rfl, fun h => absurd h z2⟩⟩
  obtain ⟨c1, eA⟩ := balK_zero z1
  obtain ⟨c2, eB⟩ := balK_zero z2
  obtain ⟨hn, l60, sl⟩ := sp_zero c1
  obtain ⟨-, m60, sm⟩ := sp_zero c2
  refine f12W n l m (rv := true) hE ⟨hl, hm, fun _ => rfl, fun _ => ⟨fun _ => rfl, fun _ => ⟨by omega, fun _ => rfl, fun h60 => ⟨by omega, by omega, ⟨by rw [List.length_append]; omega, fun x hx => ?_⟩, ?_⟩⟩⟩⟩
  · rcases List.mem_append.1 hx with hx | hx
    · exact hl.2 x hx
    · exact hm.2 x hx
  have ss : ∀ x ∈ l ++ m, spnOk n x = true := fun x hx => by
    rcases List.mem_append.1 hx with hx | hx
    · exact sl x hx
    · exact sm x hx
  have c3 : checkSpK n (l ++ m) = 0 := by
    rw [checkSpK, if_neg (by simp [within_iff.2 hn]), if_neg (by rw [List.length_append]; omega), if_neg]
    rw [List.any_eq_true]; rintro ⟨x, hx, hb⟩; rw [ss x hx] at hb; cases hb
  have e3 : balK n (l ++ m) = (balAll (l ++ m) (List.replicate (Int.toNat n) 0), 0) := by rw [balK, if_pos c3]
  have eC : (balK n (l ++ m)).1 = balAll (l ++ m) (List.replicate (Int.toNat n) 0) := by rw [e3]
  have z3 : (balK n (l ++ m)).2 = 0 := by rw [e3]
  have zl : ((List.replicate (Int.toNat n) (0 : Int)).length : Int) = n := by rw [List.length_replicate]; omega
  have zb : ∀ y ∈ List.replicate (Int.toNat n) (0 : Int), -(0 : Int) ≤ y ∧ y ≤ 0 := fun y hy => by rw [List.eq_of_mem_replicate hy]; omega
  have zg : ∀ i, (List.replicate (Int.toNat n) (0 : Int)).getD i 0 = 0 := fun i => by simp [List.getD, List.getElem?_replicate]; split <;> rfl
  have zs : (List.replicate (Int.toNat n) (0 : Int)).sum = 0 := by simp
  have lA : ((balK n l).1.length : Int) = n := by rw [eA, balAll_len]; exact zl
  have lB : ((balK n m).1.length : Int) = n := by rw [eB, balAll_len]; exact zl
  have lC : ((balK n (l ++ m)).1.length : Int) = n := by rw [eC, balAll_len]; exact zl
  have bA := balAll_bd hn.2 zl sl zb
  have bB := balAll_bd hn.2 zl sm zb
  rw [← eA] at bA
  rw [← eB] at bB
  have oA : SumOk (balK n l).1 := sumOk_abs (B := 660000000660) (by omega) (by omega) (by omega) fun x hx => by have := bA x hx; omega
  have oB : SumOk (balK n m).1 := sumOk_abs (B := 660000000660) (by omega) (by omega) (by omega) fun x hx => by have := bB x hx; omega
  have sA : sumI (balK n l).1 = 0 := by rw [sumI, eA, balAll_sum zl sl, zs]
  have sB : sumI (balK n m).1 = 0 := by rw [sumI, eB, balAll_sum zl sm, zs]
  refine ⟨fun h => absurd z3 h, fun _ => ⟨fun h => absurd lA h, fun _ => ⟨fun h => absurd lB h, fun _ => ⟨fun h => absurd lC h, fun _ => ⟨oA, fun h => absurd sA h, fun _ => ⟨oB, fun h => absurd sB h, fun _ => ?_⟩⟩⟩⟩⟩⟩
  have get : ∀ {u : List Int} {i : Nat}, (u.length : Int) = n → (i : Int) < n → u[i]? = some (u.getD i 0) := fun {u i} h1 h2 => by simp [List.getD, show i < u.length by omega]
  have gA : ∀ i, (balK n l).1.getD i 0 = contAll l i := fun i => by rw [eA, balAll_get zl sl, zg]; omega
  have gB : ∀ i, (balK n m).1.getD i 0 = contAll m i := fun i => by rw [eB, balAll_get zl sm, zg]; omega
  have gC : ∀ i, (balK n (l ++ m)).1.getD i 0 = contAll (l ++ m) i := fun i => by rw [eC, balAll_get zl ss, zg]; omega
  have key0 : ∀ (d i : Nat), i + d = Int.toNat n → f12G0 E n l m i := by
    intro d
    induction d with
    | zero => exact fun i hd => f12W0 n l m i (rv := true) hE ⟨fun h => by omega, fun _ => rfl⟩
    | succ d ih =>
      intro i hd
      have hi : (i : Int) < n := by omega
      have a1 := get lA hi
      have a2 := get lB hi
      have a3 := get lC hi
      have d1 := bA _ (List.mem_of_getElem? a1)
      have d2 := bB _ (List.mem_of_getElem? a2)
      refine f12W0 n l m i (rv := true) hE ⟨fun _ => ⟨_, a3, _, a1, _, a2, by omega, fun h => absurd (by rw [gA, gB, gC, contAll_append]) h, fun _ => ?_⟩, fun h => by omega⟩
      have key1 : ∀ (d k : Nat) (t : Bool), k + d = l.length → t = (l.take k).any (touch i) → f12G1 E n l m i t k := by
        intro d
        induction d with
        | zero =>
          intro k t hd ht
          refine f12W1 n l m i t k (rv := true) hE ⟨fun h => by omega, fun _ => ⟨fun h1 => ⟨_, a1, fun h2 => absurd ?_ h2, fun _ => ⟨by omega, ih (i + 1) (by omega)⟩⟩, fun _ => ⟨by omega, ih (i + 1) (by omega)⟩⟩⟩
          rw [h1, List.take_of_length_le (by omega)] at ht
          rw [gA, contAll_zero sl ht.symm]
        | succ d ih1 =>
          intro k t hd ht
          have hk : l[k]? = some l[k] := List.getElem?_eq_getElem (by omega)
          have hx := hl.2 _ (List.mem_of_getElem? hk)
          generalize l[k] = x at hk hx
          have tk : (l.take (k + 1)).any (touch i) = ((l.take k).any (touch i) || touch i x) := by rw [List.take_add_one, hk, List.any_append]; simp
          have key2 : ∀ (d j : Nat) (t : Bool), j + d = x.fr.length → t = ((l.take k).any (touch i) || (x.by_ == (i : Int) || (x.fr.take j).any fun p => p == (i : Int))) → f12G2 E n l m t i j k := by
            intro d
            induction d with
            | zero =>
              intro j t hd ht
              refine f12W2 n l m t i j k (rv := true) hE ⟨x, hk, fun h => by omega, fun _ => ⟨by omega, ih1 (k + 1) t (by omega) ?_⟩⟩
              rw [ht, tk, show x.fr.take j = x.fr from List.take_of_length_le (by omega), touch]
            | succ d ih2 =>
              intro j t hd ht
              have hj : x.fr[j]? = some x.fr[j] := List.getElem?_eq_getElem (by omega)
              generalize x.fr[j] = p at hj
              have tj : ((x.fr.take (j + 1)).any fun p => p == (i : Int)) = (((x.fr.take j).any fun p => p == (i : Int)) || p == (i : Int)) := by rw [List.take_add_one, hj, List.any_append]; simp
              refine f12W2 n l m t i j k (rv := true) hE ⟨x, hk, fun _ => ⟨fun h1 => ⟨by omega, ih2 (j + 1) true (by omega) ?_⟩, fun h1 => ⟨p, hj, by omega, ih2 (j + 1) _ (by omega) ?_⟩⟩, fun h => by omega⟩
              · rw [tj, ← Bool.or_assoc, ← Bool.or_assoc, Bool.or_assoc ((l.take k).any (touch i)), ← ht, h1]; rfl
              · rw [tj, ← Bool.or_assoc, ← Bool.or_assoc, Bool.or_assoc ((l.take k).any (touch i)), ← ht, h1]; rfl
          refine f12W1 n l m i t k (rv := true) hE ⟨fun _ => ⟨fun h1 => key2 x.fr.length 0 true (by omega) ?_, fun h1 => ⟨x, hk, key2 x.fr.length 0 _ (by omega) ?_⟩⟩, fun h => by omega⟩
          · rw [← ht, h1]; rfl
          · rw [← ht, h1]; simp
      exact key1 l.length 0 false (by omega) rfl
  exact key0 (Int.toNat n) 0 (by omega)

end Go.Proofs.Ytmdbebbibecidaa
