/- A part of the proof: several texts, one behind the other. -/
import Derived.Test.YtmdbebbibecidaaLTakingsExactB
set_option linter.unusedVariables false
set_option linter.unusedSimpArgs false
set_option maxRecDepth 100000
namespace Go.Proofs.Ytmdbebbibecidaa
open Go Ax
open Go.Proofs

structure Bra where
  from_ : Int
  per : Int
def cBr (b : Bra) : List AV := [.int .i64 b.from_, .int .i64 b.per]
def rowBr (l : List Bra) : List AV := l.flatMap cBr
theorem f45b : Try.f45.body = some (bodyAt Try.prog 45) := by kernel_rfl
def f45K0 (P : Program) : List Item := kAt 400 [.code (bodyAt P 45)] [.b false, .b false, .stop]
def f45S0 (c : Int) (l : (List Bra)) (i : Nat)  : St := ⟨[.junk, .rsl (rowBr l) 0 l.length, .junk, .junk, .junk, .junk, .junk, .junk, .junk, .junk, .junk, .junk, .junk, .junk, .junk, .junk, .junk, .junk, .junk, .junk, .junk, .rsl (rowBr l) 0 l.length, .int .i64 ((l.length : Nat) : Int), .int .i64 ((i : Nat) : Int), .junk, .junk, .junk, .junk, .junk, .junk, .junk, .junk, .junk, .junk, .junk, .junk, .junk, .junk, .junk, .junk, .junk, .junk, .junk, .junk, .junk, .junk, .junk, .junk, .junk, .junk, .junk, .junk, .junk, .junk], []⟩
def f45G0 (E : Env) (c : Int) (l : (List Bra)) (i : Nat) : Prop := G Try.prog E (f45K0 Try.prog) (f45S0 c l i )
theorem p45_start_0 (c : Int) (l : (List Bra))   {E : Env} {res : AV} (hE : PureE Try.prog 45 res E) (o0 : PureF Try.prog (.clos 41 [] []) [.int .i64 c] (.bool (amount c))) (o1 : (!(amount c)) = true)
    (hr : AvLe (.int .i64 1) res) : G Try.prog E [.code (bodyAt Try.prog 45)] ⟨[.int .i64 c, .rsl (rowBr l) 0 l.length] ++ unds (Try.f45.ntmps - 2), []⟩ :=
  end_stepL (n := 400) (evs := [.v (.bool (amount c)), .b true]) (obs := [PureF Try.prog (.clos 41 [] []) [.int .i64 c] (.bool (amount c)), (!(amount c)) = true]) hE Try.func45 mixed (by kernel_rfl) ⟨o0, o1, trivial⟩ hr
theorem p45_start_1 (c : Int) (l : (List Bra))   {E : Env} {res : AV} (hE : PureE Try.prog 45 res E) (o0 : PureF Try.prog (.clos 41 [] []) [.int .i64 c] (.bool (amount c))) (o1 : (!(amount c)) = false) (o2 : PureF Try.prog (.clos 49 [] []) [.int .i64 ((l.length : Nat) : Int), .int .i64 1, .int .i64 8] (.bool (within ((l.length : Nat) : Int) 1 8))) (o3 : (!(within ((l.length : Nat) : Int) 1 8)) = true)
    (hr : AvLe (.int .i64 110) res) : G Try.prog E [.code (bodyAt Try.prog 45)] ⟨[.int .i64 c, .rsl (rowBr l) 0 l.length] ++ unds (Try.f45.ntmps - 2), []⟩ :=
  end_stepL (n := 400) (evs := [.v (.bool (amount c)), .b false, .v (.bool (within ((l.length : Nat) : Int) 1 8)), .b true, .b true]) (obs := [PureF Try.prog (.clos 41 [] []) [.int .i64 c] (.bool (amount c)), (!(amount c)) = false, PureF Try.prog (.clos 49 [] []) [.int .i64 ((l.length : Nat) : Int), .int .i64 1, .int .i64 8] (.bool (within ((l.length : Nat) : Int) 1 8)), (!(within ((l.length : Nat) : Int) 1 8)) = true, true = true]) hE Try.func45 mixed (by kernel_rfl) ⟨o0, o1, o2, o3, (rfl), trivial⟩ hr
theorem p45_start_2 (c : Int) (l : (List Bra))  (be : Bra)  {E : Env} {res : AV} (hE : PureE Try.prog 45 res E) (o0 : PureF Try.prog (.clos 41 [] []) [.int .i64 c] (.bool (amount c))) (o1 : (!(amount c)) = false) (o2 : PureF Try.prog (.clos 49 [] []) [.int .i64 ((l.length : Nat) : Int), .int .i64 1, .int .i64 8] (.bool (within ((l.length : Nat) : Int) 1 8))) (o3 : (!(within ((l.length : Nat) : Int) 1 8)) = false) (o5 : (0 : Int) ≤ 0 ∧ (0 : Int) < ((l.length : Nat) : Int)) (o6 : ((rowBr l).drop ((0 + 0 * 2) + 0)).take 1 = [.int .i64 be.from_]) (o7 : (be.from_ != 0) = true)
    (hr : AvLe (.int .i64 110) res) : G Try.prog E [.code (bodyAt Try.prog 45)] ⟨[.int .i64 c, .rsl (rowBr l) 0 l.length] ++ unds (Try.f45.ntmps - 2), []⟩ :=
  end_stepL (n := 400) (evs := [.v (.bool (amount c)), .b false, .v (.bool (within ((l.length : Nat) : Int) 1 8)), .b false, .ld (.int .i64 be.from_), .b true]) (obs := [PureF Try.prog (.clos 41 [] []) [.int .i64 c] (.bool (amount c)), (!(amount c)) = false, PureF Try.prog (.clos 49 [] []) [.int .i64 ((l.length : Nat) : Int), .int .i64 1, .int .i64 8] (.bool (within ((l.length : Nat) : Int) 1 8)), (!(within ((l.length : Nat) : Int) 1 8)) = false, (0 : Int) ≤ 0 ∧ (0 : Int) < ((l.length : Nat) : Int), ((rowBr l).drop ((0 + 0 * 2) + 0)).take 1 = [.int .i64 be.from_], (be.from_ != 0) = true]) hE Try.func45 mixed (by kernel_rfl) ⟨o0, o1, o2, o3, o5, o6, o7, trivial⟩ hr
theorem p45_start_3 (c : Int) (l : (List Bra))  (be : Bra)  {E : Env} {rv : AV} (hE : PureE Try.prog 45 rv E) (o0 : PureF Try.prog (.clos 41 [] []) [.int .i64 c] (.bool (amount c))) (o1 : (!(amount c)) = false) (o2 : PureF Try.prog (.clos 49 [] []) [.int .i64 ((l.length : Nat) : Int), .int .i64 1, .int .i64 8] (.bool (within ((l.length : Nat) : Int) 1 8))) (o3 : (!(within ((l.length : Nat) : Int) 1 8)) = false) (o5 : (0 : Int) ≤ 0 ∧ (0 : Int) < ((l.length : Nat) : Int)) (o6 : ((rowBr l).drop ((0 + 0 * 2) + 0)).take 1 = [.int .i64 be.from_]) (o7 : (be.from_ != 0) = false)
    (hg : G Try.prog E (f45K0 Try.prog) ⟨[.junk, .rsl (rowBr l) 0 l.length, .junk, .junk, .junk, .junk, .junk, .junk, .junk, .junk, .junk, .junk, .junk, .junk, .junk, .junk, .junk, .junk, .junk, .junk, .junk, .rsl (rowBr l) 0 l.length, .int .i64 ((l.length : Nat) : Int), .int .i64 0, .junk, .junk, .junk, .junk, .junk, .junk, .junk, .junk, .junk, .junk, .junk, .junk, .junk, .junk, .junk, .junk, .junk, .junk, .junk, .junk, .junk, .junk, .junk, .junk, .junk, .junk, .junk, .junk, .junk, .junk], []⟩) : G Try.prog E [.code (bodyAt Try.prog 45)] ⟨[.int .i64 c, .rsl (rowBr l) 0 l.length] ++ unds (Try.f45.ntmps - 2), []⟩ :=
  segC_step (n := 400) (ds := []) (cs := []) (live := [1, 21, 22, 23]) (m := 0) (evs := [.v (.bool (amount c)), .b false, .v (.bool (within ((l.length : Nat) : Int) 1 8)), .b false, .ld (.int .i64 be.from_), .b false, .stop]) (obs := [PureF Try.prog (.clos 41 [] []) [.int .i64 c] (.bool (amount c)), (!(amount c)) = false, PureF Try.prog (.clos 49 [] []) [.int .i64 ((l.length : Nat) : Int), .int .i64 1, .int .i64 8] (.bool (within ((l.length : Nat) : Int) 1 8)), (!(within ((l.length : Nat) : Int) 1 8)) = false, (0 : Int) ≤ 0 ∧ (0 : Int) < ((l.length : Nat) : Int), ((rowBr l).drop ((0 + 0 * 2) + 0)).take 1 = [.int .i64 be.from_], (be.from_ != 0) = false]) hE.2.1 (hE.nogh _) mixed (by kernel_rfl) ⟨o0, o1, o2, o3, o5, o6, o7, trivial⟩ hg
theorem f45W (c : Int) (l : (List Bra)) {E : Env} {rv : Int} (hE : PureE Try.prog 45 (.int .i64 rv) E)
    (h : (((amount c) = false → rv = 1) ∧ ((amount c) = true → (((within ((l.length : Nat) : Int) 1 8) = false → rv = 110) ∧ ((within ((l.length : Nat) : Int) 1 8) = true → (∃ be : Bra, l[0]? = some be ∧ ((¬ (be.from_ = 0) → rv = 110) ∧ (be.from_ = 0 → f45G0 E c l 0)))))))) : G Try.prog E [.code (bodyAt Try.prog 45)] ⟨[.int .i64 c, .rsl (rowBr l) 0 l.length] ++ unds (Try.f45.ntmps - 2), []⟩ := by
  rcases Bool.eq_false_or_eq_true (!(amount c)) with hc0 | hc0
  · have h := h.1 (bnT hc0)
    exact p45_start_0 c l    hE (pureF_of Try.func41 (by kernel_rfl) f41b (amount_ok c)) hc0 (AvLe.of_eq (by rw [h]; try rfl))
  · have h := h.2 (bnF hc0)
    rcases Bool.eq_false_or_eq_true (!(within ((l.length : Nat) : Int) 1 8)) with hc1 | hc1
    · have h := h.1 (bnT hc1)
      exact p45_start_1 c l    hE (pureF_of Try.func41 (by kernel_rfl) f41b (amount_ok c)) hc0 (pureF_of Try.func49 (by kernel_rfl) f49b (within_ok ((l.length : Nat) : Int) 1 8)) hc1 (AvLe.of_eq (by rw [h]; try rfl))
    · have h := h.2 (bnF hc1)
      obtain ⟨be, h1, h⟩ := h
      rcases Bool.eq_false_or_eq_true (be.from_ != 0) with hc2 | hc2
      · have h := h.1 (bneT hc2)
        exact p45_start_2 c l   be hE (pureF_of Try.func41 (by kernel_rfl) f41b (amount_ok c)) hc0 (pureF_of Try.func49 (by kernel_rfl) f49b (within_ok ((l.length : Nat) : Int) 1 8)) hc1 (idx_ok h1) (row_part cBr (s := 2) (k := 0) (m := 1) (fun _ => rfl) (by decide) h1) hc2 (AvLe.of_eq (by rw [h]; try rfl))
      · have h := h.2 (bneF hc2)
        exact p45_start_3 c l   be hE (pureF_of Try.func41 (by kernel_rfl) f41b (amount_ok c)) hc0 (pureF_of Try.func49 (by kernel_rfl) f49b (within_ok ((l.length : Nat) : Int) 1 8)) hc1 (idx_ok h1) (row_part cBr (s := 2) (k := 0) (m := 1) (fun _ => rfl) (by decide) h1) hc2 h
theorem p45_0_0 (c : Int) (l : (List Bra)) (i : Nat)  (be : Bra)  {E : Env} {res : AV} (hE : PureE Try.prog 45 res E) (o0 : (decide (((i : Nat) : Int) < ((l.length : Nat) : Int))) = true) (o2 : 0 ≤ ((i : Nat) : Int) ∧ ((i : Nat) : Int) < ((l.length : Nat) : Int)) (o3 : ((rowBr l).drop (0 + (Int.toNat ((i : Nat) : Int)) * 2)).take 2 = [.int .i64 be.from_, .int .i64 be.per]) (o5 : PureF Try.prog (.clos 49 [] []) [.int .i64 be.from_, .int .i64 0, .int .i64 1000000000] (.bool (within be.from_ 0 1000000000))) (o6 : (!(within be.from_ 0 1000000000)) = true)
    (hr : AvLe (.int .i64 110) res) : G Try.prog E (f45K0 Try.prog) (f45S0 c l i ) :=
  end_stepL (n := 400) (evs := [.b true, .ld (.agg [.int .i64 be.from_, .int .i64 be.per]), .v (.bool (within be.from_ 0 1000000000)), .b true, .b true, .b true]) (obs := [(decide (((i : Nat) : Int) < ((l.length : Nat) : Int))) = true, 0 ≤ ((i : Nat) : Int) ∧ ((i : Nat) : Int) < ((l.length : Nat) : Int), ((rowBr l).drop (0 + (Int.toNat ((i : Nat) : Int)) * 2)).take 2 = [.int .i64 be.from_, .int .i64 be.per], 2 ≤ 2, PureF Try.prog (.clos 49 [] []) [.int .i64 be.from_, .int .i64 0, .int .i64 1000000000] (.bool (within be.from_ 0 1000000000)), (!(within be.from_ 0 1000000000)) = true, true = true, true = true]) hE Try.func45 mixed (by kernel_rfl) ⟨o0, o2, o3, (by decide), o5, o6, (rfl), (rfl), trivial⟩ hr
theorem p45_0_1 (c : Int) (l : (List Bra)) (i : Nat)  (be : Bra)  {E : Env} {res : AV} (hE : PureE Try.prog 45 res E) (o0 : (decide (((i : Nat) : Int) < ((l.length : Nat) : Int))) = true) (o2 : 0 ≤ ((i : Nat) : Int) ∧ ((i : Nat) : Int) < ((l.length : Nat) : Int)) (o3 : ((rowBr l).drop (0 + (Int.toNat ((i : Nat) : Int)) * 2)).take 2 = [.int .i64 be.from_, .int .i64 be.per]) (o5 : PureF Try.prog (.clos 49 [] []) [.int .i64 be.from_, .int .i64 0, .int .i64 1000000000] (.bool (within be.from_ 0 1000000000))) (o6 : (!(within be.from_ 0 1000000000)) = false) (o7 : PureF Try.prog (.clos 49 [] []) [.int .i64 be.per, .int .i64 0, .int .i64 100] (.bool (within be.per 0 100))) (o8 : (!(within be.per 0 100)) = true)
    (hr : AvLe (.int .i64 110) res) : G Try.prog E (f45K0 Try.prog) (f45S0 c l i ) :=
  end_stepL (n := 400) (evs := [.b true, .ld (.agg [.int .i64 be.from_, .int .i64 be.per]), .v (.bool (within be.from_ 0 1000000000)), .b false, .v (.bool (within be.per 0 100)), .b true, .b true]) (obs := [(decide (((i : Nat) : Int) < ((l.length : Nat) : Int))) = true, 0 ≤ ((i : Nat) : Int) ∧ ((i : Nat) : Int) < ((l.length : Nat) : Int), ((rowBr l).drop (0 + (Int.toNat ((i : Nat) : Int)) * 2)).take 2 = [.int .i64 be.from_, .int .i64 be.per], 2 ≤ 2, PureF Try.prog (.clos 49 [] []) [.int .i64 be.from_, .int .i64 0, .int .i64 1000000000] (.bool (within be.from_ 0 1000000000)), (!(within be.from_ 0 1000000000)) = false, PureF Try.prog (.clos 49 [] []) [.int .i64 be.per, .int .i64 0, .int .i64 100] (.bool (within be.per 0 100)), (!(within be.per 0 100)) = true, true = true]) hE Try.func45 mixed (by kernel_rfl) ⟨o0, o2, o3, (by decide), o5, o6, o7, o8, (rfl), trivial⟩ hr
theorem p45_0_2 (c : Int) (l : (List Bra)) (i : Nat)  (be : Bra) (be1 : Bra)  {E : Env} {res : AV} (hE : PureE Try.prog 45 res E) (o0 : (decide (((i : Nat) : Int) < ((l.length : Nat) : Int))) = true) (o2 : 0 ≤ ((i : Nat) : Int) ∧ ((i : Nat) : Int) < ((l.length : Nat) : Int)) (o3 : ((rowBr l).drop (0 + (Int.toNat ((i : Nat) : Int)) * 2)).take 2 = [.int .i64 be.from_, .int .i64 be.per]) (o5 : PureF Try.prog (.clos 49 [] []) [.int .i64 be.from_, .int .i64 0, .int .i64 1000000000] (.bool (within be.from_ 0 1000000000))) (o6 : (!(within be.from_ 0 1000000000)) = false) (o7 : PureF Try.prog (.clos 49 [] []) [.int .i64 be.per, .int .i64 0, .int .i64 100] (.bool (within be.per 0 100))) (o8 : (!(within be.per 0 100)) = false) (o9 : (decide (((i : Nat) : Int) > 0)) = true) (o10 : InR .i64 (((i : Nat) : Int) - 1)) (o12 : 0 ≤ (((i : Nat) : Int) - 1) ∧ (((i : Nat) : Int) - 1) < ((l.length : Nat) : Int)) (o13 : ((rowBr l).drop ((0 + (Int.toNat (((i : Nat) : Int) - 1)) * 2) + 0)).take 1 = [.int .i64 be1.from_]) (o14 : (decide (be.from_ ≤ be1.from_)) = true)
    (hr : AvLe (.int .i64 110) res) : G Try.prog E (f45K0 Try.prog) (f45S0 c l i ) :=
  end_stepL (n := 400) (evs := [.b true, .ld (.agg [.int .i64 be.from_, .int .i64 be.per]), .v (.bool (within be.from_ 0 1000000000)), .b false, .v (.bool (within be.per 0 100)), .b false, .b true, .auto, .ld (.int .i64 be1.from_), .b true]) (obs := [(decide (((i : Nat) : Int) < ((l.length : Nat) : Int))) = true, 0 ≤ ((i : Nat) : Int) ∧ ((i : Nat) : Int) < ((l.length : Nat) : Int), ((rowBr l).drop (0 + (Int.toNat ((i : Nat) : Int)) * 2)).take 2 = [.int .i64 be.from_, .int .i64 be.per], 2 ≤ 2, PureF Try.prog (.clos 49 [] []) [.int .i64 be.from_, .int .i64 0, .int .i64 1000000000] (.bool (within be.from_ 0 1000000000)), (!(within be.from_ 0 1000000000)) = false, PureF Try.prog (.clos 49 [] []) [.int .i64 be.per, .int .i64 0, .int .i64 100] (.bool (within be.per 0 100)), (!(within be.per 0 100)) = false, (decide (((i : Nat) : Int) > 0)) = true, InR .i64 (((i : Nat) : Int) - 1), 0 ≤ (((i : Nat) : Int) - 1) ∧ (((i : Nat) : Int) - 1) < ((l.length : Nat) : Int), ((rowBr l).drop ((0 + (Int.toNat (((i : Nat) : Int) - 1)) * 2) + 0)).take 1 = [.int .i64 be1.from_], (decide (be.from_ ≤ be1.from_)) = true]) hE Try.func45 mixed (by kernel_rfl) ⟨o0, o2, o3, (by decide), o5, o6, o7, o8, o9, o10, o12, o13, o14, trivial⟩ hr
theorem p45_0_3 (c : Int) (l : (List Bra)) (i : Nat)  (be : Bra) (be1 : Bra)  {E : Env} {rv : AV} (hE : PureE Try.prog 45 rv E) (o0 : (decide (((i : Nat) : Int) < ((l.length : Nat) : Int))) = true) (o2 : 0 ≤ ((i : Nat) : Int) ∧ ((i : Nat) : Int) < ((l.length : Nat) : Int)) (o3 : ((rowBr l).drop (0 + (Int.toNat ((i : Nat) : Int)) * 2)).take 2 = [.int .i64 be.from_, .int .i64 be.per]) (o5 : PureF Try.prog (.clos 49 [] []) [.int .i64 be.from_, .int .i64 0, .int .i64 1000000000] (.bool (within be.from_ 0 1000000000))) (o6 : (!(within be.from_ 0 1000000000)) = false) (o7 : PureF Try.prog (.clos 49 [] []) [.int .i64 be.per, .int .i64 0, .int .i64 100] (.bool (within be.per 0 100))) (o8 : (!(within be.per 0 100)) = false) (o9 : (decide (((i : Nat) : Int) > 0)) = true) (o10 : InR .i64 (((i : Nat) : Int) - 1)) (o12 : 0 ≤ (((i : Nat) : Int) - 1) ∧ (((i : Nat) : Int) - 1) < ((l.length : Nat) : Int)) (o13 : ((rowBr l).drop ((0 + (Int.toNat (((i : Nat) : Int) - 1)) * 2) + 0)).take 1 = [.int .i64 be1.from_]) (o14 : (decide (be.from_ ≤ be1.from_)) = false) (o15 : InR .i64 (((i : Nat) : Int) + 1))
    (hg : G Try.prog E (f45K0 Try.prog) ⟨[.junk, .rsl (rowBr l) 0 l.length, .junk, .junk, .junk, .junk, .junk, .junk, .junk, .junk, .junk, .junk, .junk, .junk, .junk, .junk, .junk, .junk, .junk, .junk, .junk, .rsl (rowBr l) 0 l.length, .int .i64 ((l.length : Nat) : Int), .int .i64 (((i : Nat) : Int) + 1), .junk, .junk, .junk, .junk, .junk, .junk, .junk, .junk, .junk, .junk, .junk, .junk, .junk, .junk, .junk, .junk, .junk, .junk, .junk, .junk, .junk, .junk, .junk, .junk, .junk, .junk, .junk, .junk, .junk, .junk], []⟩) : G Try.prog E (f45K0 Try.prog) (f45S0 c l i ) :=
  segC_step (n := 400) (ds := []) (cs := []) (live := [1, 21, 22, 23]) (m := 0) (evs := [.b true, .ld (.agg [.int .i64 be.from_, .int .i64 be.per]), .v (.bool (within be.from_ 0 1000000000)), .b false, .v (.bool (within be.per 0 100)), .b false, .b true, .auto, .ld (.int .i64 be1.from_), .b false, .stop]) (obs := [(decide (((i : Nat) : Int) < ((l.length : Nat) : Int))) = true, 0 ≤ ((i : Nat) : Int) ∧ ((i : Nat) : Int) < ((l.length : Nat) : Int), ((rowBr l).drop (0 + (Int.toNat ((i : Nat) : Int)) * 2)).take 2 = [.int .i64 be.from_, .int .i64 be.per], 2 ≤ 2, PureF Try.prog (.clos 49 [] []) [.int .i64 be.from_, .int .i64 0, .int .i64 1000000000] (.bool (within be.from_ 0 1000000000)), (!(within be.from_ 0 1000000000)) = false, PureF Try.prog (.clos 49 [] []) [.int .i64 be.per, .int .i64 0, .int .i64 100] (.bool (within be.per 0 100)), (!(within be.per 0 100)) = false, (decide (((i : Nat) : Int) > 0)) = true, InR .i64 (((i : Nat) : Int) - 1), 0 ≤ (((i : Nat) : Int) - 1) ∧ (((i : Nat) : Int) - 1) < ((l.length : Nat) : Int), ((rowBr l).drop ((0 + (Int.toNat (((i : Nat) : Int) - 1)) * 2) + 0)).take 1 = [.int .i64 be1.from_], (decide (be.from_ ≤ be1.from_)) = false, InR .i64 (((i : Nat) : Int) + 1)]) hE.2.1 (hE.nogh _) mixed (by kernel_rfl) ⟨o0, o2, o3, (by decide), o5, o6, o7, o8, o9, o10, o12, o13, o14, o15, trivial⟩ hg
theorem p45_0_4 (c : Int) (l : (List Bra)) (i : Nat)  (be : Bra)  {E : Env} {rv : AV} (hE : PureE Try.prog 45 rv E) (o0 : (decide (((i : Nat) : Int) < ((l.length : Nat) : Int))) = true) (o2 : 0 ≤ ((i : Nat) : Int) ∧ ((i : Nat) : Int) < ((l.length : Nat) : Int)) (o3 : ((rowBr l).drop (0 + (Int.toNat ((i : Nat) : Int)) * 2)).take 2 = [.int .i64 be.from_, .int .i64 be.per]) (o5 : PureF Try.prog (.clos 49 [] []) [.int .i64 be.from_, .int .i64 0, .int .i64 1000000000] (.bool (within be.from_ 0 1000000000))) (o6 : (!(within be.from_ 0 1000000000)) = false) (o7 : PureF Try.prog (.clos 49 [] []) [.int .i64 be.per, .int .i64 0, .int .i64 100] (.bool (within be.per 0 100))) (o8 : (!(within be.per 0 100)) = false) (o9 : (decide (((i : Nat) : Int) > 0)) = false) (o11 : InR .i64 (((i : Nat) : Int) + 1))
    (hg : G Try.prog E (f45K0 Try.prog) ⟨[.junk, .rsl (rowBr l) 0 l.length, .junk, .junk, .junk, .junk, .junk, .junk, .junk, .junk, .junk, .junk, .junk, .junk, .junk, .junk, .junk, .junk, .junk, .junk, .junk, .rsl (rowBr l) 0 l.length, .int .i64 ((l.length : Nat) : Int), .int .i64 (((i : Nat) : Int) + 1), .junk, .junk, .junk, .junk, .junk, .junk, .junk, .junk, .junk, .junk, .junk, .junk, .junk, .junk, .junk, .junk, .junk, .junk, .junk, .junk, .junk, .junk, .junk, .junk, .junk, .junk, .junk, .junk, .junk, .junk], []⟩) : G Try.prog E (f45K0 Try.prog) (f45S0 c l i ) :=
  segC_step (n := 400) (ds := []) (cs := []) (live := [1, 21, 22, 23]) (m := 0) (evs := [.b true, .ld (.agg [.int .i64 be.from_, .int .i64 be.per]), .v (.bool (within be.from_ 0 1000000000)), .b false, .v (.bool (within be.per 0 100)), .b false, .b false, .b false, .stop]) (obs := [(decide (((i : Nat) : Int) < ((l.length : Nat) : Int))) = true, 0 ≤ ((i : Nat) : Int) ∧ ((i : Nat) : Int) < ((l.length : Nat) : Int), ((rowBr l).drop (0 + (Int.toNat ((i : Nat) : Int)) * 2)).take 2 = [.int .i64 be.from_, .int .i64 be.per], 2 ≤ 2, PureF Try.prog (.clos 49 [] []) [.int .i64 be.from_, .int .i64 0, .int .i64 1000000000] (.bool (within be.from_ 0 1000000000)), (!(within be.from_ 0 1000000000)) = false, PureF Try.prog (.clos 49 [] []) [.int .i64 be.per, .int .i64 0, .int .i64 100] (.bool (within be.per 0 100)), (!(within be.per 0 100)) = false, (decide (((i : Nat) : Int) > 0)) = false, false = false, InR .i64 (((i : Nat) : Int) + 1)]) hE.2.1 (hE.nogh _) mixed (by kernel_rfl) ⟨o0, o2, o3, (by decide), o5, o6, o7, o8, o9, (rfl), o11, trivial⟩ hg
theorem p45_0_5 (c : Int) (l : (List Bra)) (i : Nat)   {E : Env} {res : AV} (hE : PureE Try.prog 45 res E) (o0 : (decide (((i : Nat) : Int) < ((l.length : Nat) : Int))) = false)
    (hr : AvLe (.int .i64 0) res) : G Try.prog E (f45K0 Try.prog) (f45S0 c l i ) :=
  end_stepL (n := 400) (evs := [.b false]) (obs := [(decide (((i : Nat) : Int) < ((l.length : Nat) : Int))) = false]) hE Try.func45 mixed (by kernel_rfl) ⟨o0, trivial⟩ hr
theorem f45W0 (c : Int) (l : (List Bra)) (i : Nat) {E : Env} {rv : Int} (hE : PureE Try.prog 45 (.int .i64 rv) E)
    (h : ((((i : Nat) : Int) < ((l.length : Nat) : Int) → (∃ be : Bra, l[i]? = some be ∧ (((within be.from_ 0 1000000000) = false → rv = 110) ∧ ((within be.from_ 0 1000000000) = true → (((within be.per 0 100) = false → rv = 110) ∧ ((within be.per 0 100) = true → ((((i : Nat) : Int) > 0 → ((-9223372036854775808 ≤ ((i : Nat) : Int) - 1 ∧ ((i : Nat) : Int) - 1 ≤ 9223372036854775807) ∧ (0 ≤ (((i : Nat) : Int) - 1) ∧ (∃ be1 : Bra, l[Int.toNat (((i : Nat) : Int) - 1)]? = some be1 ∧ ((be.from_ ≤ be1.from_ → rv = 110) ∧ (¬ (be.from_ ≤ be1.from_) → ((-9223372036854775808 ≤ ((i : Nat) : Int) + 1 ∧ ((i : Nat) : Int) + 1 ≤ 9223372036854775807) ∧ f45G0 E c l (i + 1)))))))) ∧ (¬ (((i : Nat) : Int) > 0) → ((-9223372036854775808 ≤ ((i : Nat) : Int) + 1 ∧ ((i : Nat) : Int) + 1 ≤ 9223372036854775807) ∧ f45G0 E c l (i + 1)))))))))) ∧ (¬ (((i : Nat) : Int) < ((l.length : Nat) : Int)) → rv = 0))) : f45G0 E c l i := by
  rcases Bool.eq_false_or_eq_true (decide (((i : Nat) : Int) < ((l.length : Nat) : Int))) with hc0 | hc0
  · have h := h.1 (of_decide_eq_true hc0)
    obtain ⟨be, h1, h⟩ := h
    rcases Bool.eq_false_or_eq_true (!(within be.from_ 0 1000000000)) with hc1 | hc1
    · have h := h.1 (bnT hc1)
      exact p45_0_0 c l i  be hE hc0 (idx_ok h1) (row_part cBr (s := 2) (k := 0) (m := 2) (fun _ => rfl) (by decide) h1) (pureF_of Try.func49 (by kernel_rfl) f49b (within_ok be.from_ 0 1000000000)) hc1 (AvLe.of_eq (by rw [h]; try rfl))
    · have h := h.2 (bnF hc1)
      rcases Bool.eq_false_or_eq_true (!(within be.per 0 100)) with hc2 | hc2
      · have h := h.1 (bnT hc2)
        exact p45_0_1 c l i  be hE hc0 (idx_ok h1) (row_part cBr (s := 2) (k := 0) (m := 2) (fun _ => rfl) (by decide) h1) (pureF_of Try.func49 (by kernel_rfl) f49b (within_ok be.from_ 0 1000000000)) hc1 (pureF_of Try.func49 (by kernel_rfl) f49b (within_ok be.per 0 100)) hc2 (AvLe.of_eq (by rw [h]; try rfl))
      · have h := h.2 (bnF hc2)
        rcases Bool.eq_false_or_eq_true (decide (((i : Nat) : Int) > 0)) with hc3 | hc3
        · have h := h.1 (of_decide_eq_true hc3)
          obtain ⟨q10_4, h⟩ := h
          obtain ⟨h3, h⟩ := h
          obtain ⟨be1, h2, h⟩ := h
          rcases Bool.eq_false_or_eq_true (decide (be.from_ ≤ be1.from_)) with hc4 | hc4
          · have h := h.1 (of_decide_eq_true hc4)
            exact p45_0_2 c l i  be be1 hE hc0 (idx_ok h1) (row_part cBr (s := 2) (k := 0) (m := 2) (fun _ => rfl) (by decide) h1) (pureF_of Try.func49 (by kernel_rfl) f49b (within_ok be.from_ 0 1000000000)) hc1 (pureF_of Try.func49 (by kernel_rfl) f49b (within_ok be.per 0 100)) hc2 hc3 q10_4 (idx_ok' h3 h2) (row_part cBr (s := 2) (k := 0) (m := 1) (fun _ => rfl) (by decide) h2) hc4 (AvLe.of_eq (by rw [h]; try rfl))
          · have h := h.2 (of_decide_eq_false hc4)
            obtain ⟨q15_5, h⟩ := h
            exact p45_0_3 c l i  be be1 hE hc0 (idx_ok h1) (row_part cBr (s := 2) (k := 0) (m := 2) (fun _ => rfl) (by decide) h1) (pureF_of Try.func49 (by kernel_rfl) f49b (within_ok be.from_ 0 1000000000)) hc1 (pureF_of Try.func49 (by kernel_rfl) f49b (within_ok be.per 0 100)) hc2 hc3 q10_4 (idx_ok' h3 h2) (row_part cBr (s := 2) (k := 0) (m := 1) (fun _ => rfl) (by decide) h2) hc4 q15_5 h
        · have h := h.2 (of_decide_eq_false hc3)
          obtain ⟨q11_4, h⟩ := h
          exact p45_0_4 c l i  be hE hc0 (idx_ok h1) (row_part cBr (s := 2) (k := 0) (m := 2) (fun _ => rfl) (by decide) h1) (pureF_of Try.func49 (by kernel_rfl) f49b (within_ok be.from_ 0 1000000000)) hc1 (pureF_of Try.func49 (by kernel_rfl) f49b (within_ok be.per 0 100)) hc2 hc3 q11_4 h
  · have h := h.2 (of_decide_eq_false hc0)
    exact p45_0_5 c l i   hE hc0 (AvLe.of_eq (by rw [h]; try rfl))
theorem f46b : Try.f46.body = some (bodyAt Try.prog 46) := by kernel_rfl
def f46K0 (P : Program) : List Item := kAt 400 [.code (bodyAt P 46)] [.stop]
def f46S0 (c : Int) (l : (List Bra)) (hundredths : Int) (i : Nat)  : St := ⟨[.int .i64 c, .rsl (rowBr l) 0 l.length, .junk, .junk, .int .i64 hundredths, .junk, .junk, .junk, .rsl (rowBr l) 0 l.length, .int .i64 ((l.length : Nat) : Int), .int .i64 ((i : Nat) : Int), .junk, .junk, .junk, .junk, .junk, .junk, .junk, .junk, .junk, .junk, .junk, .junk, .junk, .junk, .junk, .junk, .junk, .junk, .junk, .junk, .junk, .junk, .junk, .junk, .junk, .junk, .junk, .junk, .junk, .junk, .junk], []⟩
def f46G0 (E : Env) (c : Int) (l : (List Bra)) (hundredths : Int) (i : Nat) : Prop := G Try.prog E (f46K0 Try.prog) (f46S0 c l hundredths i )
theorem p46_start_0 (c : Int) (l : (List Bra))   {E : Env} {rv : AV} (hE : PureE Try.prog 46 rv E) 
    (hg : G Try.prog E (f46K0 Try.prog) ⟨[.int .i64 c, .rsl (rowBr l) 0 l.length, .junk, .junk, .int .i64 0, .junk, .junk, .junk, .rsl (rowBr l) 0 l.length, .int .i64 ((l.length : Nat) : Int), .int .i64 0, .junk, .junk, .junk, .junk, .junk, .junk, .junk, .junk, .junk, .junk, .junk, .junk, .junk, .junk, .junk, .junk, .junk, .junk, .junk, .junk, .junk, .junk, .junk, .junk, .junk, .junk, .junk, .junk, .junk, .junk, .junk], []⟩) : G Try.prog E [.code (bodyAt Try.prog 46)] ⟨[.int .i64 c, .rsl (rowBr l) 0 l.length] ++ unds (Try.f46.ntmps - 2), []⟩ :=
  segC_step (n := 400) (ds := []) (cs := []) (live := [0, 1, 4, 8, 9, 10]) (m := 0) (evs := [.stop]) (obs := []) hE.2.1 (hE.nogh _) mixed (by kernel_rfl) trivial hg
theorem f46W (c : Int) (l : (List Bra)) {E : Env} {rv : Int} (hE : PureE Try.prog 46 (.int .i64 rv) E)
    (h : f46G0 E c l 0 0) : G Try.prog E [.code (bodyAt Try.prog 46)] ⟨[.int .i64 c, .rsl (rowBr l) 0 l.length] ++ unds (Try.f46.ntmps - 2), []⟩ := by
  exact p46_start_0 c l    hE  h
theorem p46_0_0 (c : Int) (l : (List Bra)) (hundredths : Int) (i : Nat)  (be : Bra) (be1 : Bra)  {E : Env} {rv : AV} (hE : PureE Try.prog 46 rv E) (o0 : (decide (((i : Nat) : Int) < ((l.length : Nat) : Int))) = true) (o2 : 0 ≤ ((i : Nat) : Int) ∧ ((i : Nat) : Int) < ((l.length : Nat) : Int)) (o3 : ((rowBr l).drop (0 + (Int.toNat ((i : Nat) : Int)) * 2)).take 2 = [.int .i64 be.from_, .int .i64 be.per]) (o5 : InR .i64 (((i : Nat) : Int) + 1)) (o6 : (decide ((((i : Nat) : Int) + 1) < ((l.length : Nat) : Int))) = true) (o7 : InR .i64 (((i : Nat) : Int) + 1)) (o9 : 0 ≤ (((i : Nat) : Int) + 1) ∧ (((i : Nat) : Int) + 1) < ((l.length : Nat) : Int)) (o10 : ((rowBr l).drop ((0 + (Int.toNat (((i : Nat) : Int) + 1)) * 2) + 0)).take 1 = [.int .i64 be1.from_]) (o11 : InR .i64 ((iMin c be1.from_) - be.from_)) (o12 : InR .i64 ((iMax 0 ((iMin c be1.from_) - be.from_)) * be.per)) (o13 : InR .i64 (hundredths + ((iMax 0 ((iMin c be1.from_) - be.from_)) * be.per))) (o14 : InR .i64 (((i : Nat) : Int) + 1))
    (hg : G Try.prog E (f46K0 Try.prog) ⟨[.int .i64 c, .rsl (rowBr l) 0 l.length, .junk, .junk, .int .i64 (hundredths + ((iMax 0 ((iMin c be1.from_) - be.from_)) * be.per)), .junk, .junk, .junk, .rsl (rowBr l) 0 l.length, .int .i64 ((l.length : Nat) : Int), .int .i64 (((i : Nat) : Int) + 1), .junk, .junk, .junk, .junk, .junk, .junk, .junk, .junk, .junk, .junk, .junk, .junk, .junk, .junk, .junk, .junk, .junk, .junk, .junk, .junk, .junk, .junk, .junk, .junk, .junk, .junk, .junk, .junk, .junk, .junk, .junk], []⟩) : G Try.prog E (f46K0 Try.prog) (f46S0 c l hundredths i ) :=
  segC_step (n := 400) (ds := []) (cs := []) (live := [0, 1, 4, 8, 9, 10]) (m := 0) (evs := [.b true, .ld (.agg [.int .i64 be.from_, .int .i64 be.per]), .b true, .ld (.int .i64 be1.from_), .stop]) (obs := [(decide (((i : Nat) : Int) < ((l.length : Nat) : Int))) = true, 0 ≤ ((i : Nat) : Int) ∧ ((i : Nat) : Int) < ((l.length : Nat) : Int), ((rowBr l).drop (0 + (Int.toNat ((i : Nat) : Int)) * 2)).take 2 = [.int .i64 be.from_, .int .i64 be.per], 2 ≤ 2, InR .i64 (((i : Nat) : Int) + 1), (decide ((((i : Nat) : Int) + 1) < ((l.length : Nat) : Int))) = true, InR .i64 (((i : Nat) : Int) + 1), 0 ≤ (((i : Nat) : Int) + 1) ∧ (((i : Nat) : Int) + 1) < ((l.length : Nat) : Int), ((rowBr l).drop ((0 + (Int.toNat (((i : Nat) : Int) + 1)) * 2) + 0)).take 1 = [.int .i64 be1.from_], InR .i64 ((iMin c be1.from_) - be.from_), InR .i64 ((iMax 0 ((iMin c be1.from_) - be.from_)) * be.per), InR .i64 (hundredths + ((iMax 0 ((iMin c be1.from_) - be.from_)) * be.per)), InR .i64 (((i : Nat) : Int) + 1)]) hE.2.1 (hE.nogh _) mixed (by kernel_rfl) ⟨o0, o2, o3, (by decide), o5, o6, o7, o9, o10, o11, o12, o13, o14, trivial⟩ hg
theorem p46_0_1 (c : Int) (l : (List Bra)) (hundredths : Int) (i : Nat)  (be : Bra)  {E : Env} {rv : AV} (hE : PureE Try.prog 46 rv E) (o0 : (decide (((i : Nat) : Int) < ((l.length : Nat) : Int))) = true) (o2 : 0 ≤ ((i : Nat) : Int) ∧ ((i : Nat) : Int) < ((l.length : Nat) : Int)) (o3 : ((rowBr l).drop (0 + (Int.toNat ((i : Nat) : Int)) * 2)).take 2 = [.int .i64 be.from_, .int .i64 be.per]) (o5 : InR .i64 (((i : Nat) : Int) + 1)) (o6 : (decide ((((i : Nat) : Int) + 1) < ((l.length : Nat) : Int))) = false) (o7 : InR .i64 (c - be.from_)) (o8 : InR .i64 ((iMax 0 (c - be.from_)) * be.per)) (o9 : InR .i64 (hundredths + ((iMax 0 (c - be.from_)) * be.per))) (o10 : InR .i64 (((i : Nat) : Int) + 1))
    (hg : G Try.prog E (f46K0 Try.prog) ⟨[.int .i64 c, .rsl (rowBr l) 0 l.length, .junk, .junk, .int .i64 (hundredths + ((iMax 0 (c - be.from_)) * be.per)), .junk, .junk, .junk, .rsl (rowBr l) 0 l.length, .int .i64 ((l.length : Nat) : Int), .int .i64 (((i : Nat) : Int) + 1), .junk, .junk, .junk, .junk, .junk, .junk, .junk, .junk, .junk, .junk, .junk, .junk, .junk, .junk, .junk, .junk, .junk, .junk, .junk, .junk, .junk, .junk, .junk, .junk, .junk, .junk, .junk, .junk, .junk, .junk, .junk], []⟩) : G Try.prog E (f46K0 Try.prog) (f46S0 c l hundredths i ) :=
  segC_step (n := 400) (ds := []) (cs := []) (live := [0, 1, 4, 8, 9, 10]) (m := 0) (evs := [.b true, .ld (.agg [.int .i64 be.from_, .int .i64 be.per]), .b false, .stop]) (obs := [(decide (((i : Nat) : Int) < ((l.length : Nat) : Int))) = true, 0 ≤ ((i : Nat) : Int) ∧ ((i : Nat) : Int) < ((l.length : Nat) : Int), ((rowBr l).drop (0 + (Int.toNat ((i : Nat) : Int)) * 2)).take 2 = [.int .i64 be.from_, .int .i64 be.per], 2 ≤ 2, InR .i64 (((i : Nat) : Int) + 1), (decide ((((i : Nat) : Int) + 1) < ((l.length : Nat) : Int))) = false, InR .i64 (c - be.from_), InR .i64 ((iMax 0 (c - be.from_)) * be.per), InR .i64 (hundredths + ((iMax 0 (c - be.from_)) * be.per)), InR .i64 (((i : Nat) : Int) + 1)]) hE.2.1 (hE.nogh _) mixed (by kernel_rfl) ⟨o0, o2, o3, (by decide), o5, o6, o7, o8, o9, o10, trivial⟩ hg
theorem p46_0_2 (c : Int) (l : (List Bra)) (hundredths : Int) (i : Nat)   {E : Env} {res : AV} (hE : PureE Try.prog 46 res E) (o0 : (decide (((i : Nat) : Int) < ((l.length : Nat) : Int))) = false) (o1 : InR .i64 (Int.tdiv hundredths 100))
    (hr : AvLe (.int .i64 (Int.tdiv hundredths 100)) res) : G Try.prog E (f46K0 Try.prog) (f46S0 c l hundredths i ) :=
  end_stepL (n := 400) (evs := [.b false]) (obs := [(decide (((i : Nat) : Int) < ((l.length : Nat) : Int))) = false, InR .i64 (Int.tdiv hundredths 100), (100 : Int) ≠ 0]) hE Try.func46 mixed (by kernel_rfl) ⟨o0, o1, (by decide), trivial⟩ hr
theorem f46W0 (c : Int) (l : (List Bra)) (hundredths : Int) (i : Nat) {E : Env} {rv : Int} (hE : PureE Try.prog 46 (.int .i64 rv) E)
    (h : ((((i : Nat) : Int) < ((l.length : Nat) : Int) → (∃ be : Bra, l[i]? = some be ∧ ((-9223372036854775808 ≤ ((i : Nat) : Int) + 1 ∧ ((i : Nat) : Int) + 1 ≤ 9223372036854775807) ∧ (((((i : Nat) : Int) + 1) < ((l.length : Nat) : Int) → ((-9223372036854775808 ≤ ((i : Nat) : Int) + 1 ∧ ((i : Nat) : Int) + 1 ≤ 9223372036854775807) ∧ (∃ be1 : Bra, l[i + 1]? = some be1 ∧ ((-9223372036854775808 ≤ (iMin c be1.from_) - be.from_ ∧ (iMin c be1.from_) - be.from_ ≤ 9223372036854775807) ∧ ((-9223372036854775808 ≤ (iMax 0 ((iMin c be1.from_) - be.from_)) * be.per ∧ (iMax 0 ((iMin c be1.from_) - be.from_)) * be.per ≤ 9223372036854775807) ∧ ((-9223372036854775808 ≤ hundredths + ((iMax 0 ((iMin c be1.from_) - be.from_)) * be.per) ∧ hundredths + ((iMax 0 ((iMin c be1.from_) - be.from_)) * be.per) ≤ 9223372036854775807) ∧ ((-9223372036854775808 ≤ ((i : Nat) : Int) + 1 ∧ ((i : Nat) : Int) + 1 ≤ 9223372036854775807) ∧ f46G0 E c l (hundredths + ((iMax 0 ((iMin c be1.from_) - be.from_)) * be.per)) (i + 1)))))))) ∧ (¬ ((((i : Nat) : Int) + 1) < ((l.length : Nat) : Int)) → ((-9223372036854775808 ≤ c - be.from_ ∧ c - be.from_ ≤ 9223372036854775807) ∧ ((-9223372036854775808 ≤ (iMax 0 (c - be.from_)) * be.per ∧ (iMax 0 (c - be.from_)) * be.per ≤ 9223372036854775807) ∧ ((-9223372036854775808 ≤ hundredths + ((iMax 0 (c - be.from_)) * be.per) ∧ hundredths + ((iMax 0 (c - be.from_)) * be.per) ≤ 9223372036854775807) ∧ ((-9223372036854775808 ≤ ((i : Nat) : Int) + 1 ∧ ((i : Nat) : Int) + 1 ≤ 9223372036854775807) ∧ f46G0 E c l (hundredths + ((iMax 0 (c - be.from_)) * be.per)) (i + 1)))))))))) ∧ (¬ (((i : Nat) : Int) < ((l.length : Nat) : Int)) → ((-9223372036854775808 ≤ Int.tdiv hundredths 100 ∧ Int.tdiv hundredths 100 ≤ 9223372036854775807) ∧ rv = (Int.tdiv hundredths 100))))) : f46G0 E c l hundredths i := by
  rcases Bool.eq_false_or_eq_true (decide (((i : Nat) : Int) < ((l.length : Nat) : Int))) with hc0 | hc0
  · have h := h.1 (of_decide_eq_true hc0)
    obtain ⟨be, h1, h⟩ := h
    obtain ⟨q5_1, h⟩ := h
    rcases Bool.eq_false_or_eq_true (decide ((((i : Nat) : Int) + 1) < ((l.length : Nat) : Int))) with hc1 | hc1
    · have h := h.1 (of_decide_eq_true hc1)
      obtain ⟨q7_2, h⟩ := h
      obtain ⟨be1, h2, h⟩ := h
      obtain ⟨q11_2, h⟩ := h
      obtain ⟨q12_2, h⟩ := h
      obtain ⟨q13_2, h⟩ := h
      obtain ⟨q14_2, h⟩ := h
      exact p46_0_0 c l hundredths i  be be1 hE hc0 (idx_ok h1) (row_part cBr (s := 2) (k := 0) (m := 2) (fun _ => rfl) (by decide) h1) q5_1 hc1 q7_2 (idx_ok h2) (row_part cBr (s := 2) (k := 0) (m := 1) (fun _ => rfl) (by decide) h2) q11_2 q12_2 q13_2 q14_2 h
    · have h := h.2 (of_decide_eq_false hc1)
      obtain ⟨q7_2, h⟩ := h
      obtain ⟨q8_2, h⟩ := h
      obtain ⟨q9_2, h⟩ := h
      obtain ⟨q10_2, h⟩ := h
      exact p46_0_1 c l hundredths i  be hE hc0 (idx_ok h1) (row_part cBr (s := 2) (k := 0) (m := 2) (fun _ => rfl) (by decide) h1) q5_1 hc1 q7_2 q8_2 q9_2 q10_2 h
  · have h := h.2 (of_decide_eq_false hc0)
    obtain ⟨q1_1, h⟩ := h
    exact p46_0_2 c l hundredths i   hE hc0 q1_1 (AvLe.of_eq (by rw [h]; try rfl))
def bAt (l : List Bra) (i : Nat) : Bra := l.getD i ⟨0, 0⟩
def badAt (l : List Bra) (i : Nat) : Bool := !within (bAt l i).from_ 0 1000000000 || (!within (bAt l i).per 0 100 || (decide (i > 0) && decide ((bAt l i).from_ ≤ (bAt l (i - 1)).from_)))
def chkFrom (l : List Bra) : Nat → Nat → Bool
  | 0, _ => true
  | d + 1, i => !badAt l i && chkFrom l d (i + 1)
def brOk (l : List Bra) : Bool := within l.length 1 8 && (decide ((bAt l 0).from_ = 0) && chkFrom l l.length 0)
def checkTaxK (c : Int) (l : List Bra) : Int := if amount c = false then 1 else if brOk l = false then 110 else 0

theorem bAt_get {l : List Bra} {i : Nat} (h : i < l.length) : l[i]? = some (bAt l i) := by simp [bAt, List.getD, h]

theorem checkTax_ok (c : Int) (l : List Bra) (h : l.length ≤ 9223372036854775807) : Pure Try.prog 45 [.int .i64 c, .rsl (rowBr l) 0 l.length] (.int .i64 (checkTaxK c l)) := pure_of Try.func45 f45b fun E hE => by
  refine f45W c l (rv := checkTaxK c l) hE ⟨fun h1 => by simp [checkTaxK, h1], fun h1 => ⟨fun h2 => by simp [checkTaxK, brOk, h1, h2], fun h2 => ?_⟩⟩
  have hl := within_iff.1 h2
  refine ⟨bAt l 0, bAt_get (by omega), fun h3 => by simp [checkTaxK, brOk, h1, h2, h3], fun h3 => ?_⟩
  have hr : checkTaxK c l = if chkFrom l l.length 0 = false then 110 else 0 := by simp [checkTaxK, brOk, h1, h2, h3]
  have key : ∀ (d i : Nat), i + d = l.length → (checkTaxK c l = if chkFrom l d i = false then 110 else 0) → f45G0 E c l i := by
    intro d
    induction d with
    | zero => intro i hd hr; exact f45W0 c l i (rv := checkTaxK c l) hE ⟨fun h => by omega, fun _ => by rw [hr]; rfl⟩
    | succ d ih =>
      intro i hd hr
      have hi := bAt_get (l := l) (i := i) (by omega)
      simp only [chkFrom] at hr
      refine f45W0 c l i (rv := checkTaxK c l) hE ⟨fun _ => ⟨_, hi, fun h4 => by rw [hr]; simp [badAt, h4], fun h4 => ⟨fun h5 => by rw [hr]; simp [badAt, h4, h5], fun h5 => ⟨fun h6 => ⟨by omega, by omega, bAt l (i - 1), ?_, fun h7 => by rw [hr]; simp [badAt, h4, h5, h7, show 0 < i by omega], fun h7 => ⟨by omega, ih (i + 1) (by omega) (by rw [hr]; simp [badAt, h4, h5, h7])⟩⟩, fun h6 => ⟨by omega, ih (i + 1) (by omega) (by rw [hr]; simp [badAt, h4, h5, show ¬ 0 < i by omega])⟩⟩⟩⟩, fun h => by omega⟩
      rw [show Int.toNat (((i : Nat) : Int) - 1) = i - 1 by omega]; exact bAt_get (by omega)
  exact key l.length 0 (by omega) hr

/-- Brackets as they should be. -/
structure BrOk (l : List Bra) : Prop where
  len1 : 1 ≤ l.length
  len : l.length ≤ 8
  f0 : (bAt l 0).from_ = 0
  from_ : ∀ i, i < l.length → 0 ≤ (bAt l i).from_ ∧ (bAt l i).from_ ≤ 1000000000
  per : ∀ i, i < l.length → 0 ≤ (bAt l i).per ∧ (bAt l i).per ≤ 100
  inc : ∀ i, i + 1 < l.length → (bAt l i).from_ < (bAt l (i + 1)).from_

theorem chk_at {l : List Bra} : ∀ {d i : Nat}, chkFrom l d i = true → ∀ j, i ≤ j → j < i + d → badAt l j = false
  | 0, i, _, j, h1, h2 => by omega
  | d + 1, i, h, j, h1, h2 => by
    simp only [chkFrom, Bool.and_eq_true, Bool.not_eq_true'] at h
    rcases Nat.lt_or_ge i j with h3 | h3
    · exact chk_at h.2 j (by omega) (by omega)
    · have : j = i := by omega
      rw [this]; exact h.1

theorem br_of {l : List Bra} (h : brOk l = true) : BrOk l := by
  simp only [brOk, Bool.and_eq_true, decide_eq_true_eq] at h
  obtain ⟨h1, h2, h3⟩ := h
  have h1 := within_iff.1 h1
  have hb : ∀ i, i < l.length → badAt l i = false := fun i hi => chk_at h3 i (by omega) (by omega)
  simp only [badAt, Bool.or_eq_false_iff, Bool.not_eq_false', Bool.and_eq_false_iff, decide_eq_false_iff_not] at hb
  refine ⟨by omega, by omega, h2, fun i hi => within_iff.1 (hb i hi).1, fun i hi => within_iff.1 (hb i hi).2.1, fun i hi => ?_⟩
  rcases (hb (i + 1) hi).2.2 with h4 | h4
  · omega
  · rw [Nat.add_sub_cancel] at h4; omega

/-- The hundredths of cents over the brackets. -/
def hunL (m : Int) : List Bra → Int
  | [] => 0
  | [b] => iMax 0 (m - b.from_) * b.per
  | b :: b' :: r => iMax 0 (iMin m b'.from_ - b.from_) * b.per + hunL m (b' :: r)
def taxI (m : Int) (l : List Bra) : Int := Int.tdiv (hunL m l) 100

/-- Sorted, in range. -/
def BrS (l : List Bra) : Prop := (∀ b ∈ l, 0 ≤ b.from_ ∧ b.from_ ≤ 1000000000 ∧ 0 ≤ b.per ∧ b.per ≤ 100) ∧ l.Pairwise fun a b => a.from_ < b.from_

theorem BrOk.sorted {l : List Bra} (h : BrOk l) : BrS l := by
  refine ⟨fun b hb => ?_, ?_⟩
  · obtain ⟨i, hi⟩ := List.getElem?_of_mem hb
    have hlt := (List.getElem?_eq_some_iff.1 hi).1
    rw [bAt_get hlt] at hi; cases hi
    have := h.from_ i hlt; have := h.per i hlt; omega
  · rw [List.pairwise_iff_getElem]
    have key : ∀ d i, i + d + 1 < l.length → (bAt l i).from_ < (bAt l (i + d + 1)).from_ := by
      intro d
      induction d with
      | zero => intro i hi; exact h.inc i hi
      | succ d ih => intro i hi; have h1 := ih i (by omega); have h2 := h.inc (i + d + 1) (by omega); simp only [Nat.add_assoc] at *; omega
    intro i j hi hj hij
    have e1 : l[i] = bAt l i := by have := bAt_get hi; rw [List.getElem?_eq_getElem hi] at this; exact Option.some.inj this
    have e2 : l[j] = bAt l j := by have := bAt_get hj; rw [List.getElem?_eq_getElem hj] at this; exact Option.some.inj this
    rw [e1, e2]
    have := key (j - i - 1) i (by omega)
    rw [show i + (j - i - 1) + 1 = j by omega] at this
    exact this

theorem part_bd {x p : Int} (hx : x ≤ 1000000001) (hp : 0 ≤ p ∧ p ≤ 100) : 0 ≤ iMax 0 x * p ∧ iMax 0 x * p ≤ 100000000100 := by
  have h0 : 0 ≤ iMax 0 x ∧ iMax 0 x ≤ 1000000001 := by simp only [iMax]; split <;> omega
  have h1 := Int.mul_nonneg h0.1 hp.1
  have h2 : iMax 0 x * p ≤ 1000000001 * 100 := Int.mul_le_mul h0.2 hp.2 hp.1 (by omega)
  omega

theorem hun_bd {m : Int} (hm : m ≤ 1000000001) : ∀ {l : List Bra}, BrS l → 0 ≤ hunL m l ∧ hunL m l ≤ 100000000100 * (l.length : Int)
  | [], _ => by simp [hunL]
  | [b], h => by
    have := h.1 b (by simp)
    have := part_bd (x := m - b.from_) (p := b.per) (by omega) (by omega)
    simp only [hunL, List.length_cons, List.length_nil]; omega
  | b :: b' :: r, h => by
    have h1 := h.1 b (by simp)
    have h2 : iMin m b'.from_ ≤ m := by simp only [iMin]; split <;> omega
    have h3 := part_bd (x := iMin m b'.from_ - b.from_) (p := b.per) (by omega) (by omega)
    have h4 := hun_bd hm (l := b' :: r) ⟨fun x hx => h.1 x (by simp [hx]), (List.pairwise_cons.1 h.2).2⟩
    simp only [hunL, List.length_cons] at *; omega

theorem tax_bd {m : Int} {l : List Bra} (hm : m ≤ 1000000001) (h : BrOk l) : 0 ≤ taxI m l ∧ taxI m l ≤ 1000000000000 ∧ hunL m l ≤ 1000000000000 ∧ 0 ≤ hunL m l := by
  have h1 := hun_bd hm h.sorted
  have := h.len
  have e : taxI m l = hunL m l / 100 := Int.tdiv_eq_ediv_of_nonneg h1.1
  rw [e]
  have : 100000000100 * (l.length : Int) ≤ 1000000000000 := by omega
  omega

theorem drop_hun {m : Int} {l : List Bra} {i : Nat} (h : i < l.length) :
    hunL m (l.drop i) = (if i + 1 < l.length then iMax 0 (iMin m (bAt l (i + 1)).from_ - (bAt l i).from_) * (bAt l i).per else iMax 0 (m - (bAt l i).from_) * (bAt l i).per) + hunL m (l.drop (i + 1)) := by
  have e1 : l[i] = bAt l i := by have := bAt_get h; rw [List.getElem?_eq_getElem h] at this; exact Option.some.inj this
  rw [List.drop_eq_getElem_cons h, e1]
  split
  · rename_i h2
    have e2 : l[i + 1] = bAt l (i + 1) := by have := bAt_get h2; rw [List.getElem?_eq_getElem h2] at this; exact Option.some.inj this
    rw [List.drop_eq_getElem_cons h2, e2]; rfl
  · rename_i h2
    rw [List.drop_eq_nil_of_le (by omega)]
    simp [hunL]

theorem BrS.drop {l : List Bra} (h : BrS l) (i : Nat) : BrS (l.drop i) := ⟨fun b hb => h.1 b (List.mem_of_mem_drop hb), h.2.sublist (List.drop_sublist _ _)⟩

theorem tax_ok (m : Int) (l : List Bra) (h : (0 ≤ m ∧ m ≤ 1000000000) ∧ brOk l = true) : Pure Try.prog 46 [.int .i64 m, .rsl (rowBr l) 0 l.length] (.int .i64 (taxI m l)) := pure_of Try.func46 f46b fun E hE => by
  obtain ⟨hm, hb⟩ := h
  have hb := br_of hb
  have hlen := hb.len
  obtain ⟨t1, t2, t3, t4⟩ := tax_bd (m := m) (by omega) hb
  have key : ∀ (d i : Nat) (hu : Int), i + d = l.length → 0 ≤ hu → hu + hunL m (l.drop i) = hunL m l → f46G0 E m l hu i := by
    intro d
    induction d with
    | zero =>
      intro i hu hd h0 he
      rw [List.drop_eq_nil_of_le (by omega)] at he
      simp only [hunL] at he
      have : hu = hunL m l := by omega
      subst this
      have e : Int.tdiv (hunL m l) 100 = taxI m l := rfl
      exact f46W0 m l _ i (rv := taxI m l) hE ⟨fun h => by omega, fun _ => ⟨by rw [e]; omega, e.symm⟩⟩
    | succ d ih =>
      intro i hu hd h0 he
      have hi := bAt_get (l := l) (i := i) (by omega)
      have hf := hb.from_ i (by omega)
      have hp := hb.per i (by omega)
      have hr := hun_bd (m := m) (by omega) (hb.sorted.drop (i + 1))
      rw [drop_hun (by omega)] at he
      refine f46W0 m l _ i (rv := taxI m l) hE ⟨fun _ => ⟨_, hi, by omega, fun h2 => ?_, fun h2 => ?_⟩, fun h => by omega⟩
      · rw [if_pos (by omega)] at he
        have hm2 : iMin m (bAt l (i + 1)).from_ ≤ m ∧ 0 ≤ iMin m (bAt l (i + 1)).from_ := by have := hb.from_ (i + 1) (by omega); simp only [iMin]; split <;> omega
        have hq := part_bd (x := iMin m (bAt l (i + 1)).from_ - (bAt l i).from_) (p := (bAt l i).per) (by omega) hp
        exact ⟨by omega, _, bAt_get (by omega), by omega, by omega, by omega, by omega, ih (i + 1) _ (by omega) (by omega) (by omega)⟩
      · rw [if_neg (by omega)] at he
        have hq := part_bd (x := m - (bAt l i).from_) (p := (bAt l i).per) (by omega) hp
        exact ⟨by omega, by omega, by omega, by omega, ih (i + 1) _ (by omega) (by omega) (by omega)⟩
  exact f46W m l hE (key l.length 0 0 (by omega) (by omega) (by simp))

end Go.Proofs.Ytmdbebbibecidaa

namespace Go.Proofs.Ytmdbebbibecidaa
open Go Ax
open Go.Proofs
theorem f24b : Try.f24.body = some (bodyAt Try.prog 24) := by kernel_rfl
def f24K0 (P : Program) : List Item := kAt 400 [.code (bodyAt P 24)] [.b false, .stop]
def f24S0 (c : Int) (l : (List Bra)) (high : Int) (low : Int)  : St := ⟨[.int .i64 c, .rsl (rowBr l) 0 l.length, .junk, .junk, .junk, .junk, .junk, .int .i64 low, .int .i64 high, .junk, .junk, .junk, .junk, .junk, .junk, .junk, .junk, .junk, .junk, .junk, .junk, .junk, .junk, .junk, .junk, .junk, .junk, .junk, .junk, .junk, .junk, .junk, .junk, .junk, .junk, .junk], []⟩
def f24G0 (E : Env) (c : Int) (l : (List Bra)) (high : Int) (low : Int) : Prop := G Try.prog E (f24K0 Try.prog) (f24S0 c l high low )
theorem p24_start_0 (c : Int) (l : (List Bra))   {E : Env} {res : AV} (hE : PureE Try.prog 24 res E) (o0 : PureF Try.prog (.clos 45 [] []) [.int .i64 c, .rsl (rowBr l) 0 l.length] (.int .i64 (checkTaxK c l))) (o1 : ((checkTaxK c l) != 0) = true)
    (hr : AvLe (.tup [.int .i64 0, .int .i64 (checkTaxK c l)]) res) : G Try.prog E [.code (bodyAt Try.prog 24)] ⟨[.int .i64 c, .rsl (rowBr l) 0 l.length] ++ unds (Try.f24.ntmps - 2), []⟩ :=
  end_stepL (n := 400) (evs := [.v (.int .i64 (checkTaxK c l)), .b true]) (obs := [PureF Try.prog (.clos 45 [] []) [.int .i64 c, .rsl (rowBr l) 0 l.length] (.int .i64 (checkTaxK c l)), ((checkTaxK c l) != 0) = true]) hE Try.func24 mixed (by kernel_rfl) ⟨o0, o1, trivial⟩ hr
theorem p24_start_1 (c : Int) (l : (List Bra))   {E : Env} {rv : AV} (hE : PureE Try.prog 24 rv E) (o0 : PureF Try.prog (.clos 45 [] []) [.int .i64 c, .rsl (rowBr l) 0 l.length] (.int .i64 (checkTaxK c l))) (o1 : ((checkTaxK c l) != 0) = false)
    (hg : G Try.prog E (f24K0 Try.prog) ⟨[.int .i64 c, .rsl (rowBr l) 0 l.length, .junk, .junk, .junk, .junk, .junk, .int .i64 0, .int .i64 1000000001, .junk, .junk, .junk, .junk, .junk, .junk, .junk, .junk, .junk, .junk, .junk, .junk, .junk, .junk, .junk, .junk, .junk, .junk, .junk, .junk, .junk, .junk, .junk, .junk, .junk, .junk, .junk], []⟩) : G Try.prog E [.code (bodyAt Try.prog 24)] ⟨[.int .i64 c, .rsl (rowBr l) 0 l.length] ++ unds (Try.f24.ntmps - 2), []⟩ :=
  segC_step (n := 400) (ds := []) (cs := []) (live := [0, 1, 7, 8]) (m := 0) (evs := [.v (.int .i64 (checkTaxK c l)), .b false, .stop]) (obs := [PureF Try.prog (.clos 45 [] []) [.int .i64 c, .rsl (rowBr l) 0 l.length] (.int .i64 (checkTaxK c l)), ((checkTaxK c l) != 0) = false]) hE.2.1 (hE.nogh _) mixed (by kernel_rfl) ⟨o0, o1, trivial⟩ hg
theorem f24W (c : Int) (l : (List Bra)) {E : Env} {rv : (Int × Int)} (hE : PureE Try.prog 24 (.tup [.int .i64 rv.1, .int .i64 rv.2]) E)
    (h : ((l.length ≤ 9223372036854775807) ∧ ((¬ ((checkTaxK c l) = 0) → rv = (0, (checkTaxK c l))) ∧ ((checkTaxK c l) = 0 → f24G0 E c l 1000000001 0)))) : G Try.prog E [.code (bodyAt Try.prog 24)] ⟨[.int .i64 c, .rsl (rowBr l) 0 l.length] ++ unds (Try.f24.ntmps - 2), []⟩ := by
  obtain ⟨h1, h⟩ := h
  rcases Bool.eq_false_or_eq_true ((checkTaxK c l) != 0) with hc0 | hc0
  · have h := h.1 (bneT hc0)
    exact p24_start_0 c l    hE (pureF_of Try.func45 (by kernel_rfl) f45b (checkTax_ok c l h1)) hc0 (AvLe.of_eq (by rw [h]; try rfl))
  · have h := h.2 (bneF hc0)
    exact p24_start_1 c l    hE (pureF_of Try.func45 (by kernel_rfl) f45b (checkTax_ok c l h1)) hc0 h
theorem p24_0_0 (c : Int) (l : (List Bra)) (high : Int) (low : Int)   {E : Env} {rv : AV} (hE : PureE Try.prog 24 rv E) (o0 : (decide (low < high)) = true) (o1 : InR .i64 (low + high)) (o2 : InR .i64 (Int.tdiv (low + high) 2)) (o4 : PureF Try.prog (.clos 46 [] []) [.int .i64 (Int.tdiv (low + high) 2), .rsl (rowBr l) 0 l.length] (.int .i64 (taxI (Int.tdiv (low + high) 2) l))) (o5 : InR .i64 ((Int.tdiv (low + high) 2) - (taxI (Int.tdiv (low + high) 2) l))) (o6 : (decide (((Int.tdiv (low + high) 2) - (taxI (Int.tdiv (low + high) 2) l)) ≥ c)) = true)
    (hg : G Try.prog E (f24K0 Try.prog) ⟨[.int .i64 c, .rsl (rowBr l) 0 l.length, .junk, .junk, .junk, .junk, .junk, .int .i64 low, .int .i64 (Int.tdiv (low + high) 2), .junk, .junk, .junk, .junk, .junk, .junk, .junk, .junk, .junk, .junk, .junk, .junk, .junk, .junk, .junk, .junk, .junk, .junk, .junk, .junk, .junk, .junk, .junk, .junk, .junk, .junk, .junk], []⟩) : G Try.prog E (f24K0 Try.prog) (f24S0 c l high low ) :=
  segC_step (n := 400) (ds := []) (cs := []) (live := [0, 1, 7, 8]) (m := 0) (evs := [.b true, .v (.int .i64 (taxI (Int.tdiv (low + high) 2) l)), .b true, .stop]) (obs := [(decide (low < high)) = true, InR .i64 (low + high), InR .i64 (Int.tdiv (low + high) 2), (2 : Int) ≠ 0, PureF Try.prog (.clos 46 [] []) [.int .i64 (Int.tdiv (low + high) 2), .rsl (rowBr l) 0 l.length] (.int .i64 (taxI (Int.tdiv (low + high) 2) l)), InR .i64 ((Int.tdiv (low + high) 2) - (taxI (Int.tdiv (low + high) 2) l)), (decide (((Int.tdiv (low + high) 2) - (taxI (Int.tdiv (low + high) 2) l)) ≥ c)) = true]) hE.2.1 (hE.nogh _) mixed (by kernel_rfl) ⟨o0, o1, o2, (by decide), o4, o5, o6, trivial⟩ hg
theorem p24_0_1 (c : Int) (l : (List Bra)) (high : Int) (low : Int)   {E : Env} {rv : AV} (hE : PureE Try.prog 24 rv E) (o0 : (decide (low < high)) = true) (o1 : InR .i64 (low + high)) (o2 : InR .i64 (Int.tdiv (low + high) 2)) (o4 : PureF Try.prog (.clos 46 [] []) [.int .i64 (Int.tdiv (low + high) 2), .rsl (rowBr l) 0 l.length] (.int .i64 (taxI (Int.tdiv (low + high) 2) l))) (o5 : InR .i64 ((Int.tdiv (low + high) 2) - (taxI (Int.tdiv (low + high) 2) l))) (o6 : (decide (((Int.tdiv (low + high) 2) - (taxI (Int.tdiv (low + high) 2) l)) ≥ c)) = false) (o7 : InR .i64 ((Int.tdiv (low + high) 2) + 1))
    (hg : G Try.prog E (f24K0 Try.prog) ⟨[.int .i64 c, .rsl (rowBr l) 0 l.length, .junk, .junk, .junk, .junk, .junk, .int .i64 ((Int.tdiv (low + high) 2) + 1), .int .i64 high, .junk, .junk, .junk, .junk, .junk, .junk, .junk, .junk, .junk, .junk, .junk, .junk, .junk, .junk, .junk, .junk, .junk, .junk, .junk, .junk, .junk, .junk, .junk, .junk, .junk, .junk, .junk], []⟩) : G Try.prog E (f24K0 Try.prog) (f24S0 c l high low ) :=
  segC_step (n := 400) (ds := []) (cs := []) (live := [0, 1, 7, 8]) (m := 0) (evs := [.b true, .v (.int .i64 (taxI (Int.tdiv (low + high) 2) l)), .b false, .stop]) (obs := [(decide (low < high)) = true, InR .i64 (low + high), InR .i64 (Int.tdiv (low + high) 2), (2 : Int) ≠ 0, PureF Try.prog (.clos 46 [] []) [.int .i64 (Int.tdiv (low + high) 2), .rsl (rowBr l) 0 l.length] (.int .i64 (taxI (Int.tdiv (low + high) 2) l)), InR .i64 ((Int.tdiv (low + high) 2) - (taxI (Int.tdiv (low + high) 2) l)), (decide (((Int.tdiv (low + high) 2) - (taxI (Int.tdiv (low + high) 2) l)) ≥ c)) = false, InR .i64 ((Int.tdiv (low + high) 2) + 1)]) hE.2.1 (hE.nogh _) mixed (by kernel_rfl) ⟨o0, o1, o2, (by decide), o4, o5, o6, o7, trivial⟩ hg
theorem p24_0_2 (c : Int) (l : (List Bra)) (high : Int) (low : Int)   {E : Env} {res : AV} (hE : PureE Try.prog 24 res E) (o0 : (decide (low < high)) = false) (o1 : (decide (low > 1000000000)) = true)
    (hr : AvLe (.tup [.int .i64 0, .int .i64 3]) res) : G Try.prog E (f24K0 Try.prog) (f24S0 c l high low ) :=
  end_stepL (n := 400) (evs := [.b false, .b true]) (obs := [(decide (low < high)) = false, (decide (low > 1000000000)) = true]) hE Try.func24 mixed (by kernel_rfl) ⟨o0, o1, trivial⟩ hr
theorem p24_0_3 (c : Int) (l : (List Bra)) (high : Int) (low : Int)   {E : Env} {res : AV} (hE : PureE Try.prog 24 res E) (o0 : (decide (low < high)) = false) (o1 : (decide (low > 1000000000)) = false)
    (hr : AvLe (.tup [.int .i64 low, .int .i64 0]) res) : G Try.prog E (f24K0 Try.prog) (f24S0 c l high low ) :=
  end_stepL (n := 400) (evs := [.b false, .b false]) (obs := [(decide (low < high)) = false, (decide (low > 1000000000)) = false]) hE Try.func24 mixed (by kernel_rfl) ⟨o0, o1, trivial⟩ hr
theorem f24W0 (c : Int) (l : (List Bra)) (high : Int) (low : Int) {E : Env} {rv : (Int × Int)} (hE : PureE Try.prog 24 (.tup [.int .i64 rv.1, .int .i64 rv.2]) E)
    (h : ((low < high → ((-9223372036854775808 ≤ low + high ∧ low + high ≤ 9223372036854775807) ∧ ((-9223372036854775808 ≤ Int.tdiv (low + high) 2 ∧ Int.tdiv (low + high) 2 ≤ 9223372036854775807) ∧ ((((0 : Int) ≤ (Int.tdiv (low + high) 2) ∧ ((Int.tdiv (low + high) 2) : Int) ≤ 1000000000) ∧ brOk l = true) ∧ ((-9223372036854775808 ≤ (Int.tdiv (low + high) 2) - (taxI (Int.tdiv (low + high) 2) l) ∧ (Int.tdiv (low + high) 2) - (taxI (Int.tdiv (low + high) 2) l) ≤ 9223372036854775807) ∧ ((((Int.tdiv (low + high) 2) - (taxI (Int.tdiv (low + high) 2) l)) ≥ c → f24G0 E c l (Int.tdiv (low + high) 2) low) ∧ (¬ (((Int.tdiv (low + high) 2) - (taxI (Int.tdiv (low + high) 2) l)) ≥ c) → ((-9223372036854775808 ≤ (Int.tdiv (low + high) 2) + 1 ∧ (Int.tdiv (low + high) 2) + 1 ≤ 9223372036854775807) ∧ f24G0 E c l high ((Int.tdiv (low + high) 2) + 1))))))))) ∧ (¬ (low < high) → ((low > 1000000000 → rv = (0, 3)) ∧ (¬ (low > 1000000000) → rv = (low, 0)))))) : f24G0 E c l high low := by
  rcases Bool.eq_false_or_eq_true (decide (low < high)) with hc0 | hc0
  · have h := h.1 (of_decide_eq_true hc0)
    obtain ⟨q1_1, h⟩ := h
    obtain ⟨q2_1, h⟩ := h
    obtain ⟨h1, h⟩ := h
    obtain ⟨q5_1, h⟩ := h
    rcases Bool.eq_false_or_eq_true (decide (((Int.tdiv (low + high) 2) - (taxI (Int.tdiv (low + high) 2) l)) ≥ c)) with hc1 | hc1
    · have h := h.1 (of_decide_eq_true hc1)
      exact p24_0_0 c l high low   hE hc0 q1_1 q2_1 (pureF_of Try.func46 (by kernel_rfl) f46b (tax_ok (Int.tdiv (low + high) 2) l h1)) q5_1 hc1 h
    · have h := h.2 (of_decide_eq_false hc1)
      obtain ⟨q7_2, h⟩ := h
      exact p24_0_1 c l high low   hE hc0 q1_1 q2_1 (pureF_of Try.func46 (by kernel_rfl) f46b (tax_ok (Int.tdiv (low + high) 2) l h1)) q5_1 hc1 q7_2 h
  · have h := h.2 (of_decide_eq_false hc0)
    rcases Bool.eq_false_or_eq_true (decide (low > 1000000000)) with hc1 | hc1
    · have h := h.1 (of_decide_eq_true hc1)
      exact p24_0_2 c l high low   hE hc0 hc1 (AvLe.of_eq (by rw [h]; try rfl))
    · have h := h.2 (of_decide_eq_false hc1)
      exact p24_0_3 c l high low   hE hc0 hc1 (AvLe.of_eq (by rw [h]; try rfl))
theorem check0 {c : Int} {l : List Bra} (h : checkTaxK c l = 0) : (0 ≤ c ∧ c ≤ 1000000000) ∧ brOk l = true := by
  simp only [checkTaxK] at h
  split at h
  · cases h
  · rename_i h1
    split at h
    · cases h
    · rename_i h2
      exact ⟨within_iff.1 (by simpa [amount] using h1), by simpa using h2⟩

/-- Search by halves. -/
def bsI (p : Int → Bool) : Nat → Int → Int → Int
  | 0, lo, _ => lo
  | f + 1, lo, hi => if lo < hi then (if p (Int.tdiv (lo + hi) 2) then bsI p f lo (Int.tdiv (lo + hi) 2) else bsI p f (Int.tdiv (lo + hi) 2 + 1) hi) else lo

theorem mid {lo hi : Int} (h0 : 0 ≤ lo) (h : lo < hi) : lo ≤ Int.tdiv (lo + hi) 2 ∧ Int.tdiv (lo + hi) 2 < hi ∧ hi - (Int.tdiv (lo + hi) 2 + 1) ≤ (hi - lo) / 2 ∧ Int.tdiv (lo + hi) 2 - lo ≤ (hi - lo) / 2 := by
  rw [Int.tdiv_eq_ediv_of_nonneg (by omega)]; omega

def netP (c : Int) (l : List Bra) (m : Int) : Bool := decide (m - taxI m l ≥ c)
def netOf (r : Int) : Int × Int := if r > 1000000000 then (0, 3) else (r, 0)
def netK (c : Int) (l : List Bra) : Int × Int := if checkTaxK c l = 0 then netOf (bsI (netP c l) 40 0 1000000001) else (0, checkTaxK c l)

theorem NetP_ok (c : Int) (l : List Bra) (h : l.length ≤ 9223372036854775807) : Pure Try.prog 24 [.int .i64 c, .rsl (rowBr l) 0 l.length] (.tup [.int .i64 (netK c l).1, .int .i64 (netK c l).2]) := pure_of Try.func24 f24b fun E hE => by
  refine f24W c l (rv := netK c l) hE ⟨h, fun h1 => by rw [netK, if_neg h1], fun h1 => ?_⟩
  have hb := check0 h1
  have hB := br_of hb.2
  have key : ∀ (f : Nat) (hi lo : Int), 0 ≤ lo → lo ≤ hi → hi ≤ 1000000001 → hi - lo < (2 : Int) ^ f → netK c l = netOf (bsI (netP c l) f lo hi) → f24G0 E c l hi lo := by
    intro f
    induction f with
    | zero =>
      intro hi lo h0 h2 h3 h4 hr
      have : hi = lo := by simp at h4; omega
      subst this
      simp only [bsI] at hr
      exact f24W0 c l _ _ (rv := netK c l) hE ⟨fun h => by omega, fun _ => ⟨fun h5 => by rw [hr, netOf, if_pos h5], fun h5 => by rw [hr, netOf, if_neg h5]⟩⟩
    | succ f ih =>
      intro hi lo h0 h2 h3 h4 hr
      rw [Int.pow_succ] at h4
      simp only [bsI] at hr
      refine f24W0 c l _ _ (rv := netK c l) hE ⟨fun h5 => ?_, fun h5 => ⟨fun h6 => ?_, fun h6 => ?_⟩⟩
      · obtain ⟨m1, m2, m3, m4⟩ := mid h0 h5
        obtain ⟨t1, t2, -, -⟩ := tax_bd (m := Int.tdiv (lo + hi) 2) (by omega) hB
        rw [if_pos h5] at hr
        refine ⟨by omega, by omega, ⟨by omega, hb.2⟩, by omega, fun h6 => ?_, fun h6 => ⟨by omega, ?_⟩⟩
        · rw [if_pos (by simp only [netP]; exact decide_eq_true h6)] at hr
          exact ih _ _ h0 m1 (by omega) (by omega) hr
        · rw [if_neg (by simp only [netP]; simpa using h6)] at hr
          exact ih _ _ (by omega) (by omega) h3 (by omega) hr
      · rw [if_neg h5] at hr; rw [hr, netOf, if_pos h6]
      · rw [if_neg h5] at hr; rw [hr, netOf, if_neg h6]
  exact key 40 1000000001 0 (by omega) (by omega) (by omega) (by decide) (by rw [netK, if_pos h1])

theorem f17b : Try.f17.body = some (bodyAt Try.prog 17) := by kernel_rfl
def f17K0 (P : Program) : List Item := kAt 400 [.code (bodyAt P 17)] [.b false, .stop]
def f17S0 (a : (List Int)) (b : (List Int)) (i : Nat)  : St := ⟨[.rsl (rowI a) 0 a.length, .rsl (rowI b) 0 b.length, .junk, .junk, .junk, .int .i64 ((i : Nat) : Int), .junk, .junk, .junk, .junk, .junk, .junk, .junk, .junk, .junk, .junk, .junk, .junk, .junk, .junk, .junk, .junk, .junk, .junk, .junk, .junk], []⟩
def f17G0 (E : Env) (a : (List Int)) (b : (List Int)) (i : Nat) : Prop := G Try.prog E (f17K0 Try.prog) (f17S0 a b i )
theorem p17_start_0 (a : (List Int)) (b : (List Int))   {E : Env} {res : AV} (hE : PureE Try.prog 17 res E) (o0 : (((a.length : Nat) : Int) != ((b.length : Nat) : Int)) = true)
    (hr : AvLe (.bool false) res) : G Try.prog E [.code (bodyAt Try.prog 17)] ⟨[.rsl (rowI a) 0 a.length, .rsl (rowI b) 0 b.length] ++ unds (Try.f17.ntmps - 2), []⟩ :=
  end_stepL (n := 400) (evs := [.b true]) (obs := [(((a.length : Nat) : Int) != ((b.length : Nat) : Int)) = true]) hE Try.func17 mixed (by kernel_rfl) ⟨o0, trivial⟩ hr
theorem p17_start_1 (a : (List Int)) (b : (List Int))   {E : Env} {rv : AV} (hE : PureE Try.prog 17 rv E) (o0 : (((a.length : Nat) : Int) != ((b.length : Nat) : Int)) = false)
    (hg : G Try.prog E (f17K0 Try.prog) ⟨[.rsl (rowI a) 0 a.length, .rsl (rowI b) 0 b.length, .junk, .junk, .junk, .int .i64 0, .junk, .junk, .junk, .junk, .junk, .junk, .junk, .junk, .junk, .junk, .junk, .junk, .junk, .junk, .junk, .junk, .junk, .junk, .junk, .junk], []⟩) : G Try.prog E [.code (bodyAt Try.prog 17)] ⟨[.rsl (rowI a) 0 a.length, .rsl (rowI b) 0 b.length] ++ unds (Try.f17.ntmps - 2), []⟩ :=
  segC_step (n := 400) (ds := []) (cs := []) (live := [0, 1, 5]) (m := 0) (evs := [.b false, .stop]) (obs := [(((a.length : Nat) : Int) != ((b.length : Nat) : Int)) = false]) hE.2.1 (hE.nogh _) mixed (by kernel_rfl) ⟨o0, trivial⟩ hg
theorem f17W (a : (List Int)) (b : (List Int)) {E : Env} {rv : Bool} (hE : PureE Try.prog 17 (.bool rv) E)
    (h : ((¬ (((a.length : Nat) : Int) = ((b.length : Nat) : Int)) → rv = false) ∧ (((a.length : Nat) : Int) = ((b.length : Nat) : Int) → f17G0 E a b 0))) : G Try.prog E [.code (bodyAt Try.prog 17)] ⟨[.rsl (rowI a) 0 a.length, .rsl (rowI b) 0 b.length] ++ unds (Try.f17.ntmps - 2), []⟩ := by
  rcases Bool.eq_false_or_eq_true (((a.length : Nat) : Int) != ((b.length : Nat) : Int)) with hc0 | hc0
  · have h := h.1 (bneT hc0)
    exact p17_start_0 a b    hE hc0 (AvLe.of_eq (by rw [h]; try rfl))
  · have h := h.2 (bneF hc0)
    exact p17_start_1 a b    hE hc0 h
theorem p17_0_0 (a : (List Int)) (b : (List Int)) (i : Nat)  (e : Int) (e1 : Int)  {E : Env} {res : AV} (hE : PureE Try.prog 17 res E) (o0 : (decide (((i : Nat) : Int) < ((a.length : Nat) : Int))) = true) (o2 : 0 ≤ ((i : Nat) : Int) ∧ ((i : Nat) : Int) < ((a.length : Nat) : Int)) (o3 : ((rowI a).drop (0 + (Int.toNat ((i : Nat) : Int)) * 1)).take 1 = [.int .i64 e]) (o5 : 0 ≤ ((i : Nat) : Int) ∧ ((i : Nat) : Int) < ((b.length : Nat) : Int)) (o6 : ((rowI b).drop (0 + (Int.toNat ((i : Nat) : Int)) * 1)).take 1 = [.int .i64 e1]) (o7 : (e != e1) = true)
    (hr : AvLe (.bool false) res) : G Try.prog E (f17K0 Try.prog) (f17S0 a b i ) :=
  end_stepL (n := 400) (evs := [.b true, .ld (.int .i64 e), .ld (.int .i64 e1), .b true]) (obs := [(decide (((i : Nat) : Int) < ((a.length : Nat) : Int))) = true, 0 ≤ ((i : Nat) : Int) ∧ ((i : Nat) : Int) < ((a.length : Nat) : Int), ((rowI a).drop (0 + (Int.toNat ((i : Nat) : Int)) * 1)).take 1 = [.int .i64 e], 0 ≤ ((i : Nat) : Int) ∧ ((i : Nat) : Int) < ((b.length : Nat) : Int), ((rowI b).drop (0 + (Int.toNat ((i : Nat) : Int)) * 1)).take 1 = [.int .i64 e1], (e != e1) = true]) hE Try.func17 mixed (by kernel_rfl) ⟨o0, o2, o3, o5, o6, o7, trivial⟩ hr
theorem p17_0_1 (a : (List Int)) (b : (List Int)) (i : Nat)  (e : Int) (e1 : Int)  {E : Env} {rv : AV} (hE : PureE Try.prog 17 rv E) (o0 : (decide (((i : Nat) : Int) < ((a.length : Nat) : Int))) = true) (o2 : 0 ≤ ((i : Nat) : Int) ∧ ((i : Nat) : Int) < ((a.length : Nat) : Int)) (o3 : ((rowI a).drop (0 + (Int.toNat ((i : Nat) : Int)) * 1)).take 1 = [.int .i64 e]) (o5 : 0 ≤ ((i : Nat) : Int) ∧ ((i : Nat) : Int) < ((b.length : Nat) : Int)) (o6 : ((rowI b).drop (0 + (Int.toNat ((i : Nat) : Int)) * 1)).take 1 = [.int .i64 e1]) (o7 : (e != e1) = false) (o8 : InR .i64 (((i : Nat) : Int) + 1))
    (hg : G Try.prog E (f17K0 Try.prog) ⟨[.rsl (rowI a) 0 a.length, .rsl (rowI b) 0 b.length, .junk, .junk, .junk, .int .i64 (((i : Nat) : Int) + 1), .junk, .junk, .junk, .junk, .junk, .junk, .junk, .junk, .junk, .junk, .junk, .junk, .junk, .junk, .junk, .junk, .junk, .junk, .junk, .junk], []⟩) : G Try.prog E (f17K0 Try.prog) (f17S0 a b i ) :=
  segC_step (n := 400) (ds := []) (cs := []) (live := [0, 1, 5]) (m := 0) (evs := [.b true, .ld (.int .i64 e), .ld (.int .i64 e1), .b false, .stop]) (obs := [(decide (((i : Nat) : Int) < ((a.length : Nat) : Int))) = true, 0 ≤ ((i : Nat) : Int) ∧ ((i : Nat) : Int) < ((a.length : Nat) : Int), ((rowI a).drop (0 + (Int.toNat ((i : Nat) : Int)) * 1)).take 1 = [.int .i64 e], 0 ≤ ((i : Nat) : Int) ∧ ((i : Nat) : Int) < ((b.length : Nat) : Int), ((rowI b).drop (0 + (Int.toNat ((i : Nat) : Int)) * 1)).take 1 = [.int .i64 e1], (e != e1) = false, InR .i64 (((i : Nat) : Int) + 1)]) hE.2.1 (hE.nogh _) mixed (by kernel_rfl) ⟨o0, o2, o3, o5, o6, o7, o8, trivial⟩ hg
theorem p17_0_2 (a : (List Int)) (b : (List Int)) (i : Nat)   {E : Env} {res : AV} (hE : PureE Try.prog 17 res E) (o0 : (decide (((i : Nat) : Int) < ((a.length : Nat) : Int))) = false)
    (hr : AvLe (.bool true) res) : G Try.prog E (f17K0 Try.prog) (f17S0 a b i ) :=
  end_stepL (n := 400) (evs := [.b false]) (obs := [(decide (((i : Nat) : Int) < ((a.length : Nat) : Int))) = false]) hE Try.func17 mixed (by kernel_rfl) ⟨o0, trivial⟩ hr
theorem f17W0 (a : (List Int)) (b : (List Int)) (i : Nat) {E : Env} {rv : Bool} (hE : PureE Try.prog 17 (.bool rv) E)
    (h : ((((i : Nat) : Int) < ((a.length : Nat) : Int) → (∃ e : Int, a[i]? = some e ∧ (∃ e1 : Int, b[i]? = some e1 ∧ ((¬ (e = e1) → rv = false) ∧ (e = e1 → ((-9223372036854775808 ≤ ((i : Nat) : Int) + 1 ∧ ((i : Nat) : Int) + 1 ≤ 9223372036854775807) ∧ f17G0 E a b (i + 1))))))) ∧ (¬ (((i : Nat) : Int) < ((a.length : Nat) : Int)) → rv = true))) : f17G0 E a b i := by
  rcases Bool.eq_false_or_eq_true (decide (((i : Nat) : Int) < ((a.length : Nat) : Int))) with hc0 | hc0
  · have h := h.1 (of_decide_eq_true hc0)
    obtain ⟨e, h1, h⟩ := h
    obtain ⟨e1, h2, h⟩ := h
    rcases Bool.eq_false_or_eq_true (e != e1) with hc1 | hc1
    · have h := h.1 (bneT hc1)
      exact p17_0_0 a b i  e e1 hE hc0 (idx_ok h1) (row_part cI (s := 1) (k := 0) (m := 1) (fun _ => rfl) (by decide) h1) (idx_ok h2) (row_part cI (s := 1) (k := 0) (m := 1) (fun _ => rfl) (by decide) h2) hc1 (AvLe.of_eq (by rw [h]; try rfl))
    · have h := h.2 (bneF hc1)
      obtain ⟨q8_2, h⟩ := h
      exact p17_0_1 a b i  e e1 hE hc0 (idx_ok h1) (row_part cI (s := 1) (k := 0) (m := 1) (fun _ => rfl) (by decide) h1) (idx_ok h2) (row_part cI (s := 1) (k := 0) (m := 1) (fun _ => rfl) (by decide) h2) hc1 q8_2 h
  · have h := h.2 (of_decide_eq_false hc0)
    exact p17_0_2 a b i   hE hc0 (AvLe.of_eq (by rw [h]; try rfl))

theorem sameInts_ok (a b : List Int) (h : a = b ∧ a.length ≤ 1000000) : Pure Try.prog 17 [.rsl (rowI a) 0 a.length, .rsl (rowI b) 0 b.length] (.bool true) := pure_of Try.func17 f17b fun E hE => by
  obtain ⟨rfl, hl⟩ := h
  have key : ∀ (d i : Nat), i + d = a.length → f17G0 E a a i := by
    intro d
    induction d with
    | zero => intro i hd; exact f17W0 a a i (rv := true) hE ⟨fun h => by omega, fun _ => rfl⟩
    | succ d ih =>
      intro i hd
      have hi : a[i]? = some a[i] := List.getElem?_eq_getElem (by omega)
      exact f17W0 a a i (rv := true) hE ⟨fun _ => ⟨_, hi, _, hi, fun h => absurd rfl h, fun _ => ⟨by omega, ih (i + 1) (by omega)⟩⟩, fun h => by omega⟩
  exact f17W a a (rv := true) hE ⟨fun h => absurd rfl h, fun _ => key a.length 0 (by omega)⟩

theorem f20b : Try.f20.body = some (bodyAt Try.prog 20) := by kernel_rfl
theorem p20_start_0    {E : Env} {res : AV} (hE : PureE Try.prog 20 res E) (o0 : LentF Try.prog (.clos 15 [] []) [.int .i64 100, .sl 0 0 0 3 1] [⟨true, 0, 1, true, [.int .i64 1, .int .i64 1, .int .i64 1], true⟩] (.tup [.rsl (rowI ((splitK 100 ([1, 1, 1])).1)) 0 (((splitK 100 ([1, 1, 1])).1).length), .int .i64 ((splitK 100 ([1, 1, 1])).2)]) [⟨false, 1, 1, true, [], false⟩]) (o1 : PureF Try.prog (.clos 24 [] []) [.int .i64 2500, .rsl [.int .i64 0, .int .i64 10, .int .i64 1000, .int .i64 20] 0 2] (.tup [.int .i64 ((netK 2500 ([(⟨0, 10⟩ : Bra), (⟨1000, 20⟩ : Bra)])).1), .int .i64 ((netK 2500 ([(⟨0, 10⟩ : Bra), (⟨1000, 20⟩ : Bra)])).2)])) (o3 : ((splitK 100 ([1, 1, 1])).2 == 0) = true) (o4 : ((netK 2500 ([(⟨0, 10⟩ : Bra), (⟨1000, 20⟩ : Bra)])).2 == 0) = true) (o5 : PureF Try.prog (.clos 17 [] []) [.rsl (rowI ((splitK 100 ([1, 1, 1])).1)) 0 (((splitK 100 ([1, 1, 1])).1).length), .rsl [.int .i64 34, .int .i64 33, .int .i64 33] 0 3] (.bool true)) (o7 : true = true)
    (hr : AvLe (.bool ((netK 2500 ([(⟨0, 10⟩ : Bra), (⟨1000, 20⟩ : Bra)])).1 == 2999)) res) : G Try.prog E [.code (bodyAt Try.prog 20)] ⟨[] ++ unds (Try.f20.ntmps - 0), []⟩ :=
  end_stepL (n := 400) (evs := [.lent [0] (.tup [.rsl (rowI ((splitK 100 ([1, 1, 1])).1)) 0 (((splitK 100 ([1, 1, 1])).1).length), .int .i64 ((splitK 100 ([1, 1, 1])).2)]) [⟨false, 1, 1, true, [], false⟩], .v (.tup [.int .i64 ((netK 2500 ([(⟨0, 10⟩ : Bra), (⟨1000, 20⟩ : Bra)])).1), .int .i64 ((netK 2500 ([(⟨0, 10⟩ : Bra), (⟨1000, 20⟩ : Bra)])).2)]), .b true, .b true, .v (.bool true), .b true]) (obs := [LentF Try.prog (.clos 15 [] []) [.int .i64 100, .sl 0 0 0 3 1] [⟨true, 0, 1, true, [.int .i64 1, .int .i64 1, .int .i64 1], true⟩] (.tup [.rsl (rowI ((splitK 100 ([1, 1, 1])).1)) 0 (((splitK 100 ([1, 1, 1])).1).length), .int .i64 ((splitK 100 ([1, 1, 1])).2)]) [⟨false, 1, 1, true, [], false⟩], PureF Try.prog (.clos 24 [] []) [.int .i64 2500, .rsl [.int .i64 0, .int .i64 10, .int .i64 1000, .int .i64 20] 0 2] (.tup [.int .i64 ((netK 2500 ([(⟨0, 10⟩ : Bra), (⟨1000, 20⟩ : Bra)])).1), .int .i64 ((netK 2500 ([(⟨0, 10⟩ : Bra), (⟨1000, 20⟩ : Bra)])).2)]), 0 = 0, ((splitK 100 ([1, 1, 1])).2 == 0) = true, ((netK 2500 ([(⟨0, 10⟩ : Bra), (⟨1000, 20⟩ : Bra)])).2 == 0) = true, PureF Try.prog (.clos 17 [] []) [.rsl (rowI ((splitK 100 ([1, 1, 1])).1)) 0 (((splitK 100 ([1, 1, 1])).1).length), .rsl [.int .i64 34, .int .i64 33, .int .i64 33] 0 3] (.bool true), 0 = 0, true = true]) hE Try.func20 mixed (by kernel_rfl) ⟨o0, o1, (rfl), o3, o4, o5, (rfl), o7, trivial⟩ hr
theorem p20_start_1    {E : Env} {res : AV} (hE : PureE Try.prog 20 res E) (o0 : LentF Try.prog (.clos 15 [] []) [.int .i64 100, .sl 0 0 0 3 1] [⟨true, 0, 1, true, [.int .i64 1, .int .i64 1, .int .i64 1], true⟩] (.tup [.rsl (rowI ((splitK 100 ([1, 1, 1])).1)) 0 (((splitK 100 ([1, 1, 1])).1).length), .int .i64 ((splitK 100 ([1, 1, 1])).2)]) [⟨false, 1, 1, true, [], false⟩]) (o1 : PureF Try.prog (.clos 24 [] []) [.int .i64 2500, .rsl [.int .i64 0, .int .i64 10, .int .i64 1000, .int .i64 20] 0 2] (.tup [.int .i64 ((netK 2500 ([(⟨0, 10⟩ : Bra), (⟨1000, 20⟩ : Bra)])).1), .int .i64 ((netK 2500 ([(⟨0, 10⟩ : Bra), (⟨1000, 20⟩ : Bra)])).2)])) (o3 : ((splitK 100 ([1, 1, 1])).2 == 0) = true) (o4 : ((netK 2500 ([(⟨0, 10⟩ : Bra), (⟨1000, 20⟩ : Bra)])).2 == 0) = true) (o5 : PureF Try.prog (.clos 17 [] []) [.rsl (rowI ((splitK 100 ([1, 1, 1])).1)) 0 (((splitK 100 ([1, 1, 1])).1).length), .rsl [.int .i64 34, .int .i64 33, .int .i64 33] 0 3] (.bool true)) (o7 : true = false)
    (hr : AvLe (.bool false) res) : G Try.prog E [.code (bodyAt Try.prog 20)] ⟨[] ++ unds (Try.f20.ntmps - 0), []⟩ :=
  end_stepL (n := 400) (evs := [.lent [0] (.tup [.rsl (rowI ((splitK 100 ([1, 1, 1])).1)) 0 (((splitK 100 ([1, 1, 1])).1).length), .int .i64 ((splitK 100 ([1, 1, 1])).2)]) [⟨false, 1, 1, true, [], false⟩], .v (.tup [.int .i64 ((netK 2500 ([(⟨0, 10⟩ : Bra), (⟨1000, 20⟩ : Bra)])).1), .int .i64 ((netK 2500 ([(⟨0, 10⟩ : Bra), (⟨1000, 20⟩ : Bra)])).2)]), .b true, .b true, .v (.bool true), .b false]) (obs := [LentF Try.prog (.clos 15 [] []) [.int .i64 100, .sl 0 0 0 3 1] [⟨true, 0, 1, true, [.int .i64 1, .int .i64 1, .int .i64 1], true⟩] (.tup [.rsl (rowI ((splitK 100 ([1, 1, 1])).1)) 0 (((splitK 100 ([1, 1, 1])).1).length), .int .i64 ((splitK 100 ([1, 1, 1])).2)]) [⟨false, 1, 1, true, [], false⟩], PureF Try.prog (.clos 24 [] []) [.int .i64 2500, .rsl [.int .i64 0, .int .i64 10, .int .i64 1000, .int .i64 20] 0 2] (.tup [.int .i64 ((netK 2500 ([(⟨0, 10⟩ : Bra), (⟨1000, 20⟩ : Bra)])).1), .int .i64 ((netK 2500 ([(⟨0, 10⟩ : Bra), (⟨1000, 20⟩ : Bra)])).2)]), 0 = 0, ((splitK 100 ([1, 1, 1])).2 == 0) = true, ((netK 2500 ([(⟨0, 10⟩ : Bra), (⟨1000, 20⟩ : Bra)])).2 == 0) = true, PureF Try.prog (.clos 17 [] []) [.rsl (rowI ((splitK 100 ([1, 1, 1])).1)) 0 (((splitK 100 ([1, 1, 1])).1).length), .rsl [.int .i64 34, .int .i64 33, .int .i64 33] 0 3] (.bool true), 0 = 0, true = false]) hE Try.func20 mixed (by kernel_rfl) ⟨o0, o1, (rfl), o3, o4, o5, (rfl), o7, trivial⟩ hr
theorem p20_start_2    {E : Env} {res : AV} (hE : PureE Try.prog 20 res E) (o0 : LentF Try.prog (.clos 15 [] []) [.int .i64 100, .sl 0 0 0 3 1] [⟨true, 0, 1, true, [.int .i64 1, .int .i64 1, .int .i64 1], true⟩] (.tup [.rsl (rowI ((splitK 100 ([1, 1, 1])).1)) 0 (((splitK 100 ([1, 1, 1])).1).length), .int .i64 ((splitK 100 ([1, 1, 1])).2)]) [⟨false, 1, 1, true, [], false⟩]) (o1 : PureF Try.prog (.clos 24 [] []) [.int .i64 2500, .rsl [.int .i64 0, .int .i64 10, .int .i64 1000, .int .i64 20] 0 2] (.tup [.int .i64 ((netK 2500 ([(⟨0, 10⟩ : Bra), (⟨1000, 20⟩ : Bra)])).1), .int .i64 ((netK 2500 ([(⟨0, 10⟩ : Bra), (⟨1000, 20⟩ : Bra)])).2)])) (o3 : ((splitK 100 ([1, 1, 1])).2 == 0) = true) (o4 : ((netK 2500 ([(⟨0, 10⟩ : Bra), (⟨1000, 20⟩ : Bra)])).2 == 0) = false)
    (hr : AvLe (.bool false) res) : G Try.prog E [.code (bodyAt Try.prog 20)] ⟨[] ++ unds (Try.f20.ntmps - 0), []⟩ :=
  end_stepL (n := 400) (evs := [.lent [0] (.tup [.rsl (rowI ((splitK 100 ([1, 1, 1])).1)) 0 (((splitK 100 ([1, 1, 1])).1).length), .int .i64 ((splitK 100 ([1, 1, 1])).2)]) [⟨false, 1, 1, true, [], false⟩], .v (.tup [.int .i64 ((netK 2500 ([(⟨0, 10⟩ : Bra), (⟨1000, 20⟩ : Bra)])).1), .int .i64 ((netK 2500 ([(⟨0, 10⟩ : Bra), (⟨1000, 20⟩ : Bra)])).2)]), .b true, .b false, .b false]) (obs := [LentF Try.prog (.clos 15 [] []) [.int .i64 100, .sl 0 0 0 3 1] [⟨true, 0, 1, true, [.int .i64 1, .int .i64 1, .int .i64 1], true⟩] (.tup [.rsl (rowI ((splitK 100 ([1, 1, 1])).1)) 0 (((splitK 100 ([1, 1, 1])).1).length), .int .i64 ((splitK 100 ([1, 1, 1])).2)]) [⟨false, 1, 1, true, [], false⟩], PureF Try.prog (.clos 24 [] []) [.int .i64 2500, .rsl [.int .i64 0, .int .i64 10, .int .i64 1000, .int .i64 20] 0 2] (.tup [.int .i64 ((netK 2500 ([(⟨0, 10⟩ : Bra), (⟨1000, 20⟩ : Bra)])).1), .int .i64 ((netK 2500 ([(⟨0, 10⟩ : Bra), (⟨1000, 20⟩ : Bra)])).2)]), 0 = 0, ((splitK 100 ([1, 1, 1])).2 == 0) = true, ((netK 2500 ([(⟨0, 10⟩ : Bra), (⟨1000, 20⟩ : Bra)])).2 == 0) = false, false = false]) hE Try.func20 mixed (by kernel_rfl) ⟨o0, o1, (rfl), o3, o4, (rfl), trivial⟩ hr
theorem p20_start_3    {E : Env} {res : AV} (hE : PureE Try.prog 20 res E) (o0 : LentF Try.prog (.clos 15 [] []) [.int .i64 100, .sl 0 0 0 3 1] [⟨true, 0, 1, true, [.int .i64 1, .int .i64 1, .int .i64 1], true⟩] (.tup [.rsl (rowI ((splitK 100 ([1, 1, 1])).1)) 0 (((splitK 100 ([1, 1, 1])).1).length), .int .i64 ((splitK 100 ([1, 1, 1])).2)]) [⟨false, 1, 1, true, [], false⟩]) (o1 : PureF Try.prog (.clos 24 [] []) [.int .i64 2500, .rsl [.int .i64 0, .int .i64 10, .int .i64 1000, .int .i64 20] 0 2] (.tup [.int .i64 ((netK 2500 ([(⟨0, 10⟩ : Bra), (⟨1000, 20⟩ : Bra)])).1), .int .i64 ((netK 2500 ([(⟨0, 10⟩ : Bra), (⟨1000, 20⟩ : Bra)])).2)])) (o3 : ((splitK 100 ([1, 1, 1])).2 == 0) = false)
    (hr : AvLe (.bool false) res) : G Try.prog E [.code (bodyAt Try.prog 20)] ⟨[] ++ unds (Try.f20.ntmps - 0), []⟩ :=
  end_stepL (n := 400) (evs := [.lent [0] (.tup [.rsl (rowI ((splitK 100 ([1, 1, 1])).1)) 0 (((splitK 100 ([1, 1, 1])).1).length), .int .i64 ((splitK 100 ([1, 1, 1])).2)]) [⟨false, 1, 1, true, [], false⟩], .v (.tup [.int .i64 ((netK 2500 ([(⟨0, 10⟩ : Bra), (⟨1000, 20⟩ : Bra)])).1), .int .i64 ((netK 2500 ([(⟨0, 10⟩ : Bra), (⟨1000, 20⟩ : Bra)])).2)]), .b false, .b false, .b false]) (obs := [LentF Try.prog (.clos 15 [] []) [.int .i64 100, .sl 0 0 0 3 1] [⟨true, 0, 1, true, [.int .i64 1, .int .i64 1, .int .i64 1], true⟩] (.tup [.rsl (rowI ((splitK 100 ([1, 1, 1])).1)) 0 (((splitK 100 ([1, 1, 1])).1).length), .int .i64 ((splitK 100 ([1, 1, 1])).2)]) [⟨false, 1, 1, true, [], false⟩], PureF Try.prog (.clos 24 [] []) [.int .i64 2500, .rsl [.int .i64 0, .int .i64 10, .int .i64 1000, .int .i64 20] 0 2] (.tup [.int .i64 ((netK 2500 ([(⟨0, 10⟩ : Bra), (⟨1000, 20⟩ : Bra)])).1), .int .i64 ((netK 2500 ([(⟨0, 10⟩ : Bra), (⟨1000, 20⟩ : Bra)])).2)]), 0 = 0, ((splitK 100 ([1, 1, 1])).2 == 0) = false, false = false, false = false]) hE Try.func20 mixed (by kernel_rfl) ⟨o0, o1, (rfl), o3, (rfl), (rfl), trivial⟩ hr
theorem f20W  {E : Env} {rv : Bool} (hE : PureE Try.prog 20 (.bool rv) E)
    (h : ((([1, 1, 1]).length ≤ 9223372036854775807) ∧ ((([(⟨0, 10⟩ : Bra), (⟨1000, 20⟩ : Bra)]).length ≤ 9223372036854775807) ∧ (((splitK 100 ([1, 1, 1])).2 = 0 → (((netK 2500 ([(⟨0, 10⟩ : Bra), (⟨1000, 20⟩ : Bra)])).2 = 0 → ((((splitK 100 ([1, 1, 1])).1) = ([34, 33, 33]) ∧ ((splitK 100 ([1, 1, 1])).1).length ≤ 1000000) ∧ ((true = true → rv = ((netK 2500 ([(⟨0, 10⟩ : Bra), (⟨1000, 20⟩ : Bra)])).1 == 2999)) ∧ (true = false → rv = false)))) ∧ (¬ ((netK 2500 ([(⟨0, 10⟩ : Bra), (⟨1000, 20⟩ : Bra)])).2 = 0) → rv = false))) ∧ (¬ ((splitK 100 ([1, 1, 1])).2 = 0) → rv = false))))) : G Try.prog E [.code (bodyAt Try.prog 20)] ⟨[] ++ unds (Try.f20.ntmps - 0), []⟩ := by
  obtain ⟨h1, h⟩ := h
  obtain ⟨h2, h⟩ := h
  rcases Bool.eq_false_or_eq_true ((splitK 100 ([1, 1, 1])).2 == 0) with hc0 | hc0
  · have h := h.1 (eq_of_beq hc0)
    rcases Bool.eq_false_or_eq_true ((netK 2500 ([(⟨0, 10⟩ : Bra), (⟨1000, 20⟩ : Bra)])).2 == 0) with hc1 | hc1
    · have h := h.1 (eq_of_beq hc1)
      obtain ⟨h3, h⟩ := h
      rcases Bool.eq_false_or_eq_true true with hc2 | hc2
      · have h := h.1 hc2
        exact p20_start_0     hE (lentF_of_pure (fv' := .clos 15 [] []) (args' := [.int .i64 100, .rsl [.int .i64 1, .int .i64 1, .int .i64 1] 0 3]) (o1 := []) (o2 := [0 = 0]) (by kernel_rfl) trivial (by kernel_rfl) ⟨rfl, trivial⟩ (pureF_of Try.func15 (by kernel_rfl) f15b (SplitP_ok 100 ([1, 1, 1]) h1))) (pureF_of Try.func24 (by kernel_rfl) f24b (NetP_ok 2500 ([(⟨0, 10⟩ : Bra), (⟨1000, 20⟩ : Bra)]) h2)) hc0 hc1 (pureF_of Try.func17 (by kernel_rfl) f17b (sameInts_ok ((splitK 100 ([1, 1, 1])).1) ([34, 33, 33]) h3)) hc2 (AvLe.of_eq (by rw [h]; try rfl))
      · have h := h.2 hc2
        exact p20_start_1     hE (lentF_of_pure (fv' := .clos 15 [] []) (args' := [.int .i64 100, .rsl [.int .i64 1, .int .i64 1, .int .i64 1] 0 3]) (o1 := []) (o2 := [0 = 0]) (by kernel_rfl) trivial (by kernel_rfl) ⟨rfl, trivial⟩ (pureF_of Try.func15 (by kernel_rfl) f15b (SplitP_ok 100 ([1, 1, 1]) h1))) (pureF_of Try.func24 (by kernel_rfl) f24b (NetP_ok 2500 ([(⟨0, 10⟩ : Bra), (⟨1000, 20⟩ : Bra)]) h2)) hc0 hc1 (pureF_of Try.func17 (by kernel_rfl) f17b (sameInts_ok ((splitK 100 ([1, 1, 1])).1) ([34, 33, 33]) h3)) hc2 (AvLe.of_eq (by rw [h]; try rfl))
    · have h := h.2 (ne_of_beq_false hc1)
      exact p20_start_2     hE (lentF_of_pure (fv' := .clos 15 [] []) (args' := [.int .i64 100, .rsl [.int .i64 1, .int .i64 1, .int .i64 1] 0 3]) (o1 := []) (o2 := [0 = 0]) (by kernel_rfl) trivial (by kernel_rfl) ⟨rfl, trivial⟩ (pureF_of Try.func15 (by kernel_rfl) f15b (SplitP_ok 100 ([1, 1, 1]) h1))) (pureF_of Try.func24 (by kernel_rfl) f24b (NetP_ok 2500 ([(⟨0, 10⟩ : Bra), (⟨1000, 20⟩ : Bra)]) h2)) hc0 hc1 (AvLe.of_eq (by rw [h]; try rfl))
  · have h := h.2 (ne_of_beq_false hc0)
    exact p20_start_3     hE (lentF_of_pure (fv' := .clos 15 [] []) (args' := [.int .i64 100, .rsl [.int .i64 1, .int .i64 1, .int .i64 1] 0 3]) (o1 := []) (o2 := [0 = 0]) (by kernel_rfl) trivial (by kernel_rfl) ⟨rfl, trivial⟩ (pureF_of Try.func15 (by kernel_rfl) f15b (SplitP_ok 100 ([1, 1, 1]) h1))) (pureF_of Try.func24 (by kernel_rfl) f24b (NetP_ok 2500 ([(⟨0, 10⟩ : Bra), (⟨1000, 20⟩ : Bra)]) h2)) hc0 (AvLe.of_eq (by rw [h]; try rfl))

theorem works_ok : Pure Try.prog 20 [] (.bool true) := pure_of Try.func20 f20b fun E hE => by
  have h1 : splitK 100 [1, 1, 1] = ([34, 33, 33], 0) := by decide +kernel
  have h2 : netK 2500 [⟨0, 10⟩, ⟨1000, 20⟩] = (2999, 0) := by decide +kernel
  refine f20W (rv := true) hE ⟨by decide, by decide, fun h => ⟨fun h' => ⟨⟨by rw [h1], by rw [h1]; decide⟩, fun _ => by rw [h2]; rfl, fun h => by cases h⟩, fun h' => absurd (by rw [h2]) h'⟩, fun h' => absurd (by rw [h1]) h'⟩

end Go.Proofs.Ytmdbebbibecidaa

namespace Go.Proofs.Ytmdbebbibecidaa
open Go Ax
open Go.Proofs

theorem ownT : ownKnob Try.prog.godebug = none := by kernel_rfl
theorem laidT : laidOutB Try.prog = true := by kernel_rfl

theorem dInts (W : World) : Dec Try.prog W 22 (List Int) (fun a => [.rsl (rowI a) 0 a.length]) (fun a => a.length ≤ 9223372036854775807) := by
  refine Dec.map (dec_slice Try.underlying22 (n := 1) (by kernel_rfl) (by decide) (fun _ => rfl) (fun _ => rfl) (dec_i64 Try.underlying3)) (fun x => x) ?_ ?_
  · exact fun _ => rfl
  · exact fun _ h => h.1
end Go.Proofs.Ytmdbebbibecidaa

namespace Go.Proofs.Ytmdbebbibecidaa
open Go Ax
open Go.Proofs

structure RentA where
  p : Int
  q : Int
  m : Int
end Go.Proofs.Ytmdbebbibecidaa

namespace Go.Proofs.Ytmdbebbibecidaa
open Go Ax
open Go.Proofs

structure Pay where
  frm : Int
  to : Int
  c : Int
end Go.Proofs.Ytmdbebbibecidaa

namespace Go.Proofs.Ytmdbebbibecidaa
open Go Ax
open Go.Proofs

theorem sum_set : ∀ {l : List Int} {i : Nat} {x : Int}, i < l.length → (l.set i x).sum = l.sum - l.getD i 0 + x
  | [], i, x, h => by simp at h
  | y :: l, 0, x, h => by simp; omega
  | y :: l, i + 1, x, h => by
    have := sum_set (l := l) (i := i) (x := x) (by simpa using h)
    simp only [List.set_cons_succ, List.sum_cons, List.getD_cons_succ]; omega

end Go.Proofs.Ytmdbebbibecidaa

namespace Go.Proofs.Ytmdbebbibecidaa
open Go Ax
open Go.Proofs

structure Spn where
  by_ : Int
  c : Int
  fr : List Int
end Go.Proofs.Ytmdbebbibecidaa

namespace Go.Proofs.Ytmdbebbibecidaa
open Go Ax
open Go.Proofs


def owe (c : Int) (m k : Nat) : Int := Int.tdiv c m + if (k : Int) < Int.tmod c m then 1 else 0
end Go.Proofs.Ytmdbebbibecidaa

namespace Go.Proofs.Ytmdbebbibecidaa
open Go Ax
open Go.Proofs

def contFor (c : Int) (m : Nat) : Nat → List Int → Nat → Int
  | _, [], _ => 0
  | k, p :: r, i => (if Int.toNat p = i then -owe c m k else 0) + contFor c m (k + 1) r i
def cont (x : Spn) (i : Nat) : Int := (if Int.toNat x.by_ = i then x.c else 0) + contFor x.c x.fr.length 0 x.fr i
end Go.Proofs.Ytmdbebbibecidaa

namespace Go.Proofs.Ytmdbebbibecidaa
open Go Ax
open Go.Proofs

def prec (K : Int → Int) (i j : Int) : Prop := K i > K j ∨ (K i = K j ∧ i < j)
theorem prec_asymm {K : Int → Int} {i j : Int} (h : prec K i j) (h2 : prec K j i) : False := by
  rcases h with h | h <;> rcases h2 with h2 | h2 <;> omega

theorem sink_spec {lt : Int → Int → Bool} : ∀ {d : Nat} {S R : List Int} {x : Int}, S.length = d → ∃ S1 S2, S = S1 ++ S2 ∧ sink lt d (S ++ x :: R) = S1 ++ x :: (S2 ++ R) ∧ (∀ y ∈ S2, lt x y = true) ∧ (∀ y, S1.getLast? = some y → lt x y = false)
  | 0, S, R, x, h => ⟨[], [], by simpa using h, by rw [List.length_eq_zero_iff.1 h]; rfl, by simp, by simp⟩
  | d + 1, S, R, x, h => by
    obtain ⟨S', y, rfl⟩ : ∃ S' y, S = S' ++ [y] := ⟨S.dropLast, S.getLast (by intro e; simp [e] at h), (List.dropLast_concat_getLast _).symm⟩
    have h' : S'.length = d := by simpa using h
    subst h'
    have e0 : S' ++ [y] ++ x :: R = S' ++ y :: x :: R := by simp
    have e1 : (S' ++ y :: x :: R)[S'.length + 1]? = some x := by rw [List.getElem?_append_right (by omega), show S'.length + 1 - S'.length = 1 by omega]; rfl
    have e2 : (S' ++ y :: x :: R)[S'.length]? = some y := by rw [List.getElem?_append_right (by omega), Nat.sub_self]; rfl
    rw [e0]
    simp only [sink, e1, e2]
    by_cases hl : lt x y = true
    · rw [if_pos hl, List.set_append_right _ _ (by omega), show S'.length + 1 - S'.length = 1 by omega, List.set_append_right _ _ (by omega), Nat.sub_self]
      obtain ⟨S1, S2, q1, q2, q3, q4⟩ := sink_spec (lt := lt) (S := S') (R := y :: R) (x := x) rfl
      refine ⟨S1, S2 ++ [y], by rw [← List.append_assoc, ← q1], ?_, fun z hz => ?_, q4⟩
      · have : ((y :: x :: R).set 1 y).set 0 x = x :: y :: R := rfl
        rw [this, q2]; simp
      · rcases List.mem_append.1 hz with hz | hz
        · exact q3 z hz
        · rw [List.mem_singleton.1 hz]; exact hl
    · rw [if_neg hl]
      exact ⟨S' ++ [y], [], by simp, by simp, by simp, fun z hz => by simp at hz; subst hz; simpa using hl⟩

theorem pw_ins {K : Int → Int} {lt : Int → Int → Bool} (hlt : ∀ x y, lt x y = true ↔ K y < K x) {S1 S2 : List Int} {x : Int} (hp : (S1 ++ S2).Pairwise (prec K)) (hx : ∀ y ∈ S1, y < x)
    (h1 : ∀ y, S1.getLast? = some y → lt x y = false) (h2 : ∀ y ∈ S2, lt x y = true) : (S1 ++ x :: S2).Pairwise (prec K) := by
  rw [List.pairwise_append] at hp
  obtain ⟨p1, p2, p3⟩ := hp
  have low : ∀ y ∈ S1, prec K y x := by
    rcases List.eq_nil_or_concat S1 with rfl | ⟨S', z, rfl⟩
    · simp
    intro y hy
    have hz := h1 z (by simp)
    have hz' : ¬ K z < K x := fun h => by rw [(hlt x z).2 h] at hz; cases hz
    have hyz : K z ≤ K y := by
      rw [List.concat_eq_append, List.pairwise_append] at p1
      simp only [List.concat_eq_append, List.mem_append, List.mem_singleton] at hy
      rcases hy with hy | rfl
      · have := p1.2.2 y hy z (by simp)
        rcases this with h | h <;> omega
      · omega
    have := hx y hy
    by_cases e : K y = K x
    · exact .inr ⟨e, this⟩
    · exact .inl (by omega)
  rw [List.pairwise_append]
  refine ⟨p1, List.pairwise_cons.2 ⟨fun y hy => .inl ((hlt x y).1 (h2 y hy)), p2⟩, fun a ha b hb => ?_⟩
  rcases List.mem_cons.1 hb with rfl | hb
  · exact low a ha
  · exact p3 a ha b hb

def idxL (n : Nat) : List Int := (List.range n).map fun i : Nat => (i : Int)
theorem idxL_get {n k : Nat} (h : k < n) : (idxL n)[k]? = some (k : Int) := by simp [idxL, List.getElem?_map, List.getElem?_range h]
theorem idxL_drop {n k : Nat} (h : k < n) : (idxL n).drop k = (k : Int) :: (idxL n).drop (k + 1) := by
  have hl : k < (idxL n).length := by simpa [idxL] using h
  rw [List.drop_eq_getElem_cons hl]
  congr 1
  have := idxL_get h
  rw [List.getElem?_eq_getElem hl] at this
  exact Option.some.inj this

theorem sort_inv {K : Int → Int} {lt : Int → Int → Bool} (hlt : ∀ x y, lt x y = true ↔ K y < K x) (n : Nat) : ∀ k, k + 1 ≤ n → ∃ S, S.length = k + 1 ∧ (List.range k).foldl (fun l k => sink lt (k + 1) l) (idxL n) = S ++ (idxL n).drop (k + 1) ∧ (∀ x, x ∈ S ↔ 0 ≤ x ∧ x < (k : Int) + 1) ∧ S.Pairwise (prec K)
  | 0, h => ⟨[0], rfl, by have := idxL_drop (n := n) (k := 0) (by omega); simpa using this, fun x => by simp; omega, by simp⟩
  | k + 1, h => by
    obtain ⟨S, s1, s2, s3, s4⟩ := sort_inv hlt n k (by omega)
    obtain ⟨S1, S2, rfl, q2, q3, q4⟩ := sink_spec (lt := lt) (S := S) (R := (idxL n).drop (k + 1 + 1)) (x := ((k + 1 : Nat) : Int)) s1
    refine ⟨S1 ++ ((k + 1 : Nat) : Int) :: S2, ?_, ?_, fun x => ?_, pw_ins hlt s4 (fun y hy => ?_) q4 q3⟩
    · simp only [List.length_append, List.length_cons] at *; omega
    · rw [List.range_succ, List.foldl_append, s2, List.foldl_cons, List.foldl_nil, idxL_drop (by omega), q2]; simp
    · have := s3 x
      rw [List.mem_append] at this
      rw [List.mem_append, List.mem_cons]
      constructor
      · rintro (h1 | rfl | h1)
        · have := this.1 (.inl h1); omega
        · omega
        · have := this.1 (.inr h1); omega
      · intro h1
        by_cases e : x = ((k + 1 : Nat) : Int)
        · exact .inr (.inl e)
        · rcases this.2 (by omega) with h2 | h2
          · exact .inl h2
          · exact .inr (.inr h2)
    · have := (s3 y).1 (List.mem_append_left _ hy); omega

theorem ltI_iff (c : Int) (ws : List Int) (al x y : Int) : ltI c ws al x y = true ↔ keyI c ws al y < keyI c ws al x := by
  simp only [ltI, decide_eq_true_eq, lessI, cmpI]
  split
  · simp; omega
  · split <;> simp <;> omega

theorem order_spec {c : Int} {ws : List Int} (h : 1 ≤ ws.length) : (orderI c ws).length = ws.length ∧ (∀ x, x ∈ orderI c ws ↔ 0 ≤ x ∧ x < (ws.length : Int)) ∧ (orderI c ws).Pairwise (prec (keyI c ws (sumI ws))) := by
  obtain ⟨S, s1, s2, s3, s4⟩ := sort_inv (K := keyI c ws (sumI ws)) (lt := ltI c ws (sumI ws)) (ltI_iff c ws _) ws.length (ws.length - 1) (by omega)
  have e : orderI c ws = S := by
    have hl : (idxL ws.length).length = ws.length := by simp [idxL]
    rw [orderI, sortI]
    show (List.range ((idxL ws.length).length - 1)).foldl _ (idxL ws.length) = S
    rw [hl, s2, List.drop_eq_nil_of_le (by rw [hl]; omega), List.append_nil]
  rw [e]
  exact ⟨by omega, fun x => by rw [s3 x]; omega, s4⟩

end Go.Proofs.Ytmdbebbibecidaa

namespace Go.Proofs.Ytmdbebbibecidaa
open Go Ax
open Go.Proofs

theorem bump_len {l : List Int} {e : Int} : (bump l e).length = l.length := by simp [bump]
theorem bumps_len : ∀ {z v : List Int}, (z.foldl bump v).length = v.length
  | [], v => rfl
  | e :: z, v => by rw [List.foldl_cons, bumps_len, bump_len]

theorem splitI_len {c : Int} {ws : List Int} : (splitI c ws).length = ws.length := by rw [splitI, bumps_len]; simp [baseI]

theorem payI_len : ∀ {cl : List Int} {s : List Int × Int}, (cl.foldl payStep s).1.length = s.1.length + cl.length
  | [], s => by simp
  | x :: cl, s => by rw [List.foldl_cons, payI_len]; simp [payStep]; omega

theorem f4b : Try.f4.body = some (bodyAt Try.prog 4) := by kernel_rfl
def f4K0 (P : Program) : List Item := kAt 400 [.code (bodyAt P 4)] [.b false, .b false, .stop]
def f4S0 (c : Int) (cl : (List Int)) (ws : (List Int)) (i : Nat)  : St := ⟨[.int .i64 c, .rsl (rowI cl) 0 cl.length, .rsl (rowI ws) 0 ws.length, .junk, .junk, .junk, .junk, .rsl (rowI ((splitK c ws).1)) 0 (((splitK c ws).1).length), .junk, .int .i64 (sumI ws), .int .i64 ((i : Nat) : Int), .junk, .junk, .junk, .junk, .junk, .junk, .junk, .junk, .junk, .junk, .junk, .junk, .junk, .junk, .junk, .junk, .junk, .junk, .junk, .junk, .junk, .junk, .junk, .junk, .junk, .junk, .junk, .junk, .junk, .junk, .junk, .junk, .junk, .junk, .junk, .junk, .junk, .junk, .junk, .junk, .junk, .junk, .junk, .junk, .junk, .junk, .junk, .junk, .junk, .junk, .junk, .junk, .junk, .junk, .junk, .junk, .junk, .junk, .junk, .junk, .junk, .junk, .junk, .junk, .junk, .junk, .junk, .junk, .junk, .junk, .junk, .junk, .junk, .junk, .junk, .junk, .junk, .junk, .junk, .junk, .junk, .junk, .junk, .junk, .junk, .junk, .junk, .junk, .junk, .junk, .junk, .junk, .junk, .junk, .junk, .junk, .junk, .junk, .junk, .junk, .junk, .junk, .junk, .junk, .junk, .junk, .junk, .junk, .junk, .junk, .junk, .junk, .junk, .junk, .junk, .junk, .junk, .junk, .junk, .junk, .junk, .junk, .junk, .junk, .junk, .junk, .junk, .junk, .junk, .junk, .junk, .junk, .junk, .junk, .junk, .junk, .junk, .junk, .junk, .junk, .junk, .junk, .junk, .junk, .junk, .junk, .junk, .junk, .junk, .junk, .junk, .junk, .junk, .junk, .junk, .junk, .junk, .junk, .junk, .junk, .junk, .junk, .junk, .junk, .junk, .junk, .junk, .junk, .junk, .junk, .junk, .junk, .junk, .junk, .junk, .junk, .junk, .junk, .junk, .junk, .junk, .junk, .junk, .junk, .junk, .junk, .junk, .junk, .junk, .junk, .junk, .junk, .junk, .junk, .junk, .junk, .junk, .junk, .junk, .junk, .junk, .junk, .junk], []⟩
def f4G0 (E : Env) (c : Int) (cl : (List Int)) (ws : (List Int)) (i : Nat) : Prop := G Try.prog E (f4K0 Try.prog) (f4S0 c cl ws i )
def f4K1 (P : Program) : List Item := kAt 400 [.code (bodyAt P 4)] [.b false, .b false, .b true, .b false, .stop]
def f4S1 (c : Int) (cl : (List Int)) (ws : (List Int)) (i : Nat) (k : Nat)  : St := ⟨[.int .i64 c, .rsl (rowI cl) 0 cl.length, .rsl (rowI ws) 0 ws.length, .junk, .junk, .junk, .junk, .rsl (rowI ((splitK c ws).1)) 0 (((splitK c ws).1).length), .junk, .int .i64 (sumI ws), .int .i64 ((i : Nat) : Int), .junk, .int .i64 ((k : Nat) : Int), .junk, .junk, .junk, .junk, .junk, .junk, .junk, .junk, .junk, .junk, .junk, .junk, .junk, .junk, .junk, .junk, .junk, .junk, .junk, .junk, .junk, .junk, .junk, .junk, .junk, .junk, .junk, .junk, .junk, .junk, .junk, .junk, .junk, .junk, .junk, .junk, .junk, .junk, .junk, .junk, .junk, .junk, .junk, .junk, .junk, .junk, .junk, .junk, .junk, .junk, .junk, .junk, .junk, .junk, .junk, .junk, .junk, .junk, .junk, .junk, .junk, .junk, .junk, .junk, .junk, .junk, .junk, .junk, .junk, .junk, .junk, .junk, .junk, .junk, .junk, .junk, .junk, .junk, .junk, .junk, .junk, .junk, .junk, .junk, .junk, .junk, .junk, .junk, .junk, .junk, .junk, .junk, .junk, .junk, .junk, .junk, .junk, .junk, .junk, .junk, .junk, .junk, .junk, .junk, .junk, .junk, .junk, .junk, .junk, .junk, .junk, .junk, .junk, .junk, .junk, .junk, .junk, .junk, .junk, .junk, .junk, .junk, .junk, .junk, .junk, .junk, .junk, .junk, .junk, .junk, .junk, .junk, .junk, .junk, .junk, .junk, .junk, .junk, .junk, .junk, .junk, .junk, .junk, .junk, .junk, .junk, .junk, .junk, .junk, .junk, .junk, .junk, .junk, .junk, .junk, .junk, .junk, .junk, .junk, .junk, .junk, .junk, .junk, .junk, .junk, .junk, .junk, .junk, .junk, .junk, .junk, .junk, .junk, .junk, .junk, .junk, .junk, .junk, .junk, .junk, .junk, .junk, .junk, .junk, .junk, .junk, .junk, .junk, .junk, .junk, .junk, .junk, .junk, .junk, .junk, .junk, .junk, .junk, .junk, .junk, .junk], []⟩
def f4G1 (E : Env) (c : Int) (cl : (List Int)) (ws : (List Int)) (i : Nat) (k : Nat) : Prop := G Try.prog E (f4K1 Try.prog) (f4S1 c cl ws i k )
def f4K2 (P : Program) : List Item := kAt 400 [.code (bodyAt P 4)] [.b false, .b false, .b false, .b false, .b false, .stop]
def f4S2 (c : Int) (cl : (List Int)) (ws : (List Int)) (short : Bool) (i : Nat)  : St := ⟨[.junk, .rsl (rowI cl) 0 cl.length, .junk, .junk, .junk, .junk, .junk, .junk, .junk, .junk, .junk, .junk, .junk, .rsl (rowI ((claimsK c cl ws).1)) 0 (((claimsK c cl ws).1).length), .rsl (rowI ((claimsK c cl ws).2.1)) 0 (((claimsK c cl ws).2.1).length), .bool short, .int .i64 ((i : Nat) : Int), .junk, .junk, .junk, .junk, .junk, .junk, .junk, .junk, .junk, .junk, .junk, .junk, .junk, .junk, .junk, .junk, .junk, .junk, .junk, .junk, .junk, .junk, .junk, .junk, .junk, .junk, .junk, .junk, .junk, .junk, .junk, .junk, .junk, .junk, .junk, .junk, .junk, .junk, .junk, .junk, .junk, .junk, .junk, .junk, .junk, .junk, .junk, .junk, .junk, .junk, .junk, .junk, .junk, .junk, .junk, .junk, .junk, .junk, .junk, .junk, .junk, .junk, .junk, .junk, .junk, .junk, .junk, .junk, .junk, .junk, .junk, .junk, .junk, .junk, .junk, .junk, .junk, .junk, .junk, .junk, .junk, .junk, .junk, .junk, .junk, .junk, .junk, .junk, .junk, .junk, .junk, .junk, .junk, .junk, .junk, .junk, .junk, .junk, .junk, .junk, .junk, .junk, .junk, .junk, .junk, .junk, .junk, .junk, .junk, .junk, .junk, .junk, .junk, .junk, .junk, .junk, .junk, .junk, .junk, .junk, .junk, .junk, .junk, .junk, .junk, .junk, .junk, .junk, .junk, .junk, .junk, .junk, .junk, .junk, .junk, .junk, .junk, .junk, .junk, .junk, .junk, .junk, .junk, .junk, .junk, .junk, .junk, .junk, .junk, .junk, .junk, .junk, .junk, .junk, .junk, .junk, .junk, .junk, .junk, .junk, .junk, .junk, .junk, .junk, .junk, .junk, .junk, .junk, .junk, .junk, .junk, .junk, .junk, .junk, .junk, .junk, .junk, .junk, .junk, .junk, .junk, .junk, .junk, .junk, .junk, .junk, .junk, .junk, .junk, .junk, .junk, .junk, .junk, .junk, .junk, .junk, .junk], []⟩
def f4G2 (E : Env) (c : Int) (cl : (List Int)) (ws : (List Int)) (short : Bool) (i : Nat) : Prop := G Try.prog E (f4K2 Try.prog) (f4S2 c cl ws short i )
theorem p4_start_0 (c : Int) (cl : (List Int)) (ws : (List Int))   {E : Env} {res : AV} (hE : PureE Try.prog 4 res E) (o0 : PureF Try.prog (.clos 15 [] []) [.int .i64 c, .rsl (rowI ws) 0 ws.length] (.tup [.rsl (rowI ((splitK c ws).1)) 0 (((splitK c ws).1).length), .int .i64 ((splitK c ws).2)])) (o1 : ((splitK c ws).2 != 0) = true) (o2 : PureF Try.prog (.clos 20 [] []) [] (.bool true))
    (hr : AvLe (.bool true) res) : G Try.prog E [.code (bodyAt Try.prog 4)] ⟨[.int .i64 c, .rsl (rowI cl) 0 cl.length, .rsl (rowI ws) 0 ws.length] ++ unds (Try.f4.ntmps - 3), []⟩ :=
  end_stepL (n := 400) (evs := [.v (.tup [.rsl (rowI ((splitK c ws).1)) 0 (((splitK c ws).1).length), .int .i64 ((splitK c ws).2)]), .b true, .v (.bool true)]) (obs := [PureF Try.prog (.clos 15 [] []) [.int .i64 c, .rsl (rowI ws) 0 ws.length] (.tup [.rsl (rowI ((splitK c ws).1)) 0 (((splitK c ws).1).length), .int .i64 ((splitK c ws).2)]), ((splitK c ws).2 != 0) = true, PureF Try.prog (.clos 20 [] []) [] (.bool true)]) hE Try.func4 mixed (by kernel_rfl) ⟨o0, o1, o2, trivial⟩ hr
theorem p4_start_1 (c : Int) (cl : (List Int)) (ws : (List Int))   {E : Env} {res : AV} (hE : PureE Try.prog 4 res E) (o0 : PureF Try.prog (.clos 15 [] []) [.int .i64 c, .rsl (rowI ws) 0 ws.length] (.tup [.rsl (rowI ((splitK c ws).1)) 0 (((splitK c ws).1).length), .int .i64 ((splitK c ws).2)])) (o1 : ((splitK c ws).2 != 0) = false) (o2 : PureF Try.prog (.clos 21 [] []) [.rsl (rowI ws) 0 ws.length] (.int .i64 (sumI ws))) (o3 : (((((splitK c ws).1).length : Nat) : Int) != ((ws.length : Nat) : Int)) = true)
    (hr : AvLe (.bool false) res) : G Try.prog E [.code (bodyAt Try.prog 4)] ⟨[.int .i64 c, .rsl (rowI cl) 0 cl.length, .rsl (rowI ws) 0 ws.length] ++ unds (Try.f4.ntmps - 3), []⟩ :=
  end_stepL (n := 400) (evs := [.v (.tup [.rsl (rowI ((splitK c ws).1)) 0 (((splitK c ws).1).length), .int .i64 ((splitK c ws).2)]), .b false, .v (.int .i64 (sumI ws)), .b true, .b true, .b true]) (obs := [PureF Try.prog (.clos 15 [] []) [.int .i64 c, .rsl (rowI ws) 0 ws.length] (.tup [.rsl (rowI ((splitK c ws).1)) 0 (((splitK c ws).1).length), .int .i64 ((splitK c ws).2)]), ((splitK c ws).2 != 0) = false, PureF Try.prog (.clos 21 [] []) [.rsl (rowI ws) 0 ws.length] (.int .i64 (sumI ws)), (((((splitK c ws).1).length : Nat) : Int) != ((ws.length : Nat) : Int)) = true, true = true, true = true]) hE Try.func4 mixed (by kernel_rfl) ⟨o0, o1, o2, o3, (rfl), (rfl), trivial⟩ hr
theorem p4_start_2 (c : Int) (cl : (List Int)) (ws : (List Int))   {E : Env} {res : AV} (hE : PureE Try.prog 4 res E) (o0 : PureF Try.prog (.clos 15 [] []) [.int .i64 c, .rsl (rowI ws) 0 ws.length] (.tup [.rsl (rowI ((splitK c ws).1)) 0 (((splitK c ws).1).length), .int .i64 ((splitK c ws).2)])) (o1 : ((splitK c ws).2 != 0) = false) (o2 : PureF Try.prog (.clos 21 [] []) [.rsl (rowI ws) 0 ws.length] (.int .i64 (sumI ws))) (o3 : (((((splitK c ws).1).length : Nat) : Int) != ((ws.length : Nat) : Int)) = false) (o4 : PureF Try.prog (.clos 21 [] []) [.rsl (rowI ((splitK c ws).1)) 0 (((splitK c ws).1).length)] (.int .i64 (sumI ((splitK c ws).1)))) (o5 : ((sumI ((splitK c ws).1)) != c) = true)
    (hr : AvLe (.bool false) res) : G Try.prog E [.code (bodyAt Try.prog 4)] ⟨[.int .i64 c, .rsl (rowI cl) 0 cl.length, .rsl (rowI ws) 0 ws.length] ++ unds (Try.f4.ntmps - 3), []⟩ :=
  end_stepL (n := 400) (evs := [.v (.tup [.rsl (rowI ((splitK c ws).1)) 0 (((splitK c ws).1).length), .int .i64 ((splitK c ws).2)]), .b false, .v (.int .i64 (sumI ws)), .b false, .v (.int .i64 (sumI ((splitK c ws).1))), .b true, .b true]) (obs := [PureF Try.prog (.clos 15 [] []) [.int .i64 c, .rsl (rowI ws) 0 ws.length] (.tup [.rsl (rowI ((splitK c ws).1)) 0 (((splitK c ws).1).length), .int .i64 ((splitK c ws).2)]), ((splitK c ws).2 != 0) = false, PureF Try.prog (.clos 21 [] []) [.rsl (rowI ws) 0 ws.length] (.int .i64 (sumI ws)), (((((splitK c ws).1).length : Nat) : Int) != ((ws.length : Nat) : Int)) = false, PureF Try.prog (.clos 21 [] []) [.rsl (rowI ((splitK c ws).1)) 0 (((splitK c ws).1).length)] (.int .i64 (sumI ((splitK c ws).1))), ((sumI ((splitK c ws).1)) != c) = true, true = true]) hE Try.func4 mixed (by kernel_rfl) ⟨o0, o1, o2, o3, o4, o5, (rfl), trivial⟩ hr
theorem p4_start_3 (c : Int) (cl : (List Int)) (ws : (List Int))   {E : Env} {res : AV} (hE : PureE Try.prog 4 res E) (o0 : PureF Try.prog (.clos 15 [] []) [.int .i64 c, .rsl (rowI ws) 0 ws.length] (.tup [.rsl (rowI ((splitK c ws).1)) 0 (((splitK c ws).1).length), .int .i64 ((splitK c ws).2)])) (o1 : ((splitK c ws).2 != 0) = false) (o2 : PureF Try.prog (.clos 21 [] []) [.rsl (rowI ws) 0 ws.length] (.int .i64 (sumI ws))) (o3 : (((((splitK c ws).1).length : Nat) : Int) != ((ws.length : Nat) : Int)) = false) (o4 : PureF Try.prog (.clos 21 [] []) [.rsl (rowI ((splitK c ws).1)) 0 (((splitK c ws).1).length)] (.int .i64 (sumI ((splitK c ws).1)))) (o5 : ((sumI ((splitK c ws).1)) != c) = false) (o6 : (decide ((sumI ws) < 1)) = true)
    (hr : AvLe (.bool false) res) : G Try.prog E [.code (bodyAt Try.prog 4)] ⟨[.int .i64 c, .rsl (rowI cl) 0 cl.length, .rsl (rowI ws) 0 ws.length] ++ unds (Try.f4.ntmps - 3), []⟩ :=
  end_stepL (n := 400) (evs := [.v (.tup [.rsl (rowI ((splitK c ws).1)) 0 (((splitK c ws).1).length), .int .i64 ((splitK c ws).2)]), .b false, .v (.int .i64 (sumI ws)), .b false, .v (.int .i64 (sumI ((splitK c ws).1))), .b false, .b true]) (obs := [PureF Try.prog (.clos 15 [] []) [.int .i64 c, .rsl (rowI ws) 0 ws.length] (.tup [.rsl (rowI ((splitK c ws).1)) 0 (((splitK c ws).1).length), .int .i64 ((splitK c ws).2)]), ((splitK c ws).2 != 0) = false, PureF Try.prog (.clos 21 [] []) [.rsl (rowI ws) 0 ws.length] (.int .i64 (sumI ws)), (((((splitK c ws).1).length : Nat) : Int) != ((ws.length : Nat) : Int)) = false, PureF Try.prog (.clos 21 [] []) [.rsl (rowI ((splitK c ws).1)) 0 (((splitK c ws).1).length)] (.int .i64 (sumI ((splitK c ws).1))), ((sumI ((splitK c ws).1)) != c) = false, (decide ((sumI ws) < 1)) = true]) hE Try.func4 mixed (by kernel_rfl) ⟨o0, o1, o2, o3, o4, o5, o6, trivial⟩ hr
theorem p4_start_4 (c : Int) (cl : (List Int)) (ws : (List Int))   {E : Env} {rv : AV} (hE : PureE Try.prog 4 rv E) (o0 : PureF Try.prog (.clos 15 [] []) [.int .i64 c, .rsl (rowI ws) 0 ws.length] (.tup [.rsl (rowI ((splitK c ws).1)) 0 (((splitK c ws).1).length), .int .i64 ((splitK c ws).2)])) (o1 : ((splitK c ws).2 != 0) = false) (o2 : PureF Try.prog (.clos 21 [] []) [.rsl (rowI ws) 0 ws.length] (.int .i64 (sumI ws))) (o3 : (((((splitK c ws).1).length : Nat) : Int) != ((ws.length : Nat) : Int)) = false) (o4 : PureF Try.prog (.clos 21 [] []) [.rsl (rowI ((splitK c ws).1)) 0 (((splitK c ws).1).length)] (.int .i64 (sumI ((splitK c ws).1)))) (o5 : ((sumI ((splitK c ws).1)) != c) = false) (o6 : (decide ((sumI ws) < 1)) = false)
    (hg : G Try.prog E (f4K0 Try.prog) ⟨[.int .i64 c, .rsl (rowI cl) 0 cl.length, .rsl (rowI ws) 0 ws.length, .junk, .junk, .junk, .junk, .rsl (rowI ((splitK c ws).1)) 0 (((splitK c ws).1).length), .junk, .int .i64 (sumI ws), .int .i64 0, .junk, .junk, .junk, .junk, .junk, .junk, .junk, .junk, .junk, .junk, .junk, .junk, .junk, .junk, .junk, .junk, .junk, .junk, .junk, .junk, .junk, .junk, .junk, .junk, .junk, .junk, .junk, .junk, .junk, .junk, .junk, .junk, .junk, .junk, .junk, .junk, .junk, .junk, .junk, .junk, .junk, .junk, .junk, .junk, .junk, .junk, .junk, .junk, .junk, .junk, .junk, .junk, .junk, .junk, .junk, .junk, .junk, .junk, .junk, .junk, .junk, .junk, .junk, .junk, .junk, .junk, .junk, .junk, .junk, .junk, .junk, .junk, .junk, .junk, .junk, .junk, .junk, .junk, .junk, .junk, .junk, .junk, .junk, .junk, .junk, .junk, .junk, .junk, .junk, .junk, .junk, .junk, .junk, .junk, .junk, .junk, .junk, .junk, .junk, .junk, .junk, .junk, .junk, .junk, .junk, .junk, .junk, .junk, .junk, .junk, .junk, .junk, .junk, .junk, .junk, .junk, .junk, .junk, .junk, .junk, .junk, .junk, .junk, .junk, .junk, .junk, .junk, .junk, .junk, .junk, .junk, .junk, .junk, .junk, .junk, .junk, .junk, .junk, .junk, .junk, .junk, .junk, .junk, .junk, .junk, .junk, .junk, .junk, .junk, .junk, .junk, .junk, .junk, .junk, .junk, .junk, .junk, .junk, .junk, .junk, .junk, .junk, .junk, .junk, .junk, .junk, .junk, .junk, .junk, .junk, .junk, .junk, .junk, .junk, .junk, .junk, .junk, .junk, .junk, .junk, .junk, .junk, .junk, .junk, .junk, .junk, .junk, .junk, .junk, .junk, .junk, .junk, .junk, .junk, .junk, .junk, .junk, .junk, .junk, .junk, .junk, .junk, .junk], []⟩) : G Try.prog E [.code (bodyAt Try.prog 4)] ⟨[.int .i64 c, .rsl (rowI cl) 0 cl.length, .rsl (rowI ws) 0 ws.length] ++ unds (Try.f4.ntmps - 3), []⟩ :=
  segC_step (n := 400) (ds := []) (cs := []) (live := [0, 1, 2, 7, 9, 10]) (m := 0) (evs := [.v (.tup [.rsl (rowI ((splitK c ws).1)) 0 (((splitK c ws).1).length), .int .i64 ((splitK c ws).2)]), .b false, .v (.int .i64 (sumI ws)), .b false, .v (.int .i64 (sumI ((splitK c ws).1))), .b false, .b false, .stop]) (obs := [PureF Try.prog (.clos 15 [] []) [.int .i64 c, .rsl (rowI ws) 0 ws.length] (.tup [.rsl (rowI ((splitK c ws).1)) 0 (((splitK c ws).1).length), .int .i64 ((splitK c ws).2)]), ((splitK c ws).2 != 0) = false, PureF Try.prog (.clos 21 [] []) [.rsl (rowI ws) 0 ws.length] (.int .i64 (sumI ws)), (((((splitK c ws).1).length : Nat) : Int) != ((ws.length : Nat) : Int)) = false, PureF Try.prog (.clos 21 [] []) [.rsl (rowI ((splitK c ws).1)) 0 (((splitK c ws).1).length)] (.int .i64 (sumI ((splitK c ws).1))), ((sumI ((splitK c ws).1)) != c) = false, (decide ((sumI ws) < 1)) = false]) hE.2.1 (hE.nogh _) mixed (by kernel_rfl) ⟨o0, o1, o2, o3, o4, o5, o6, trivial⟩ hg
theorem f4W (c : Int) (cl : (List Int)) (ws : (List Int)) {E : Env} {rv : Bool} (hE : PureE Try.prog 4 (.bool rv) E)
    (h : ((ws.length ≤ 9223372036854775807) ∧ ((¬ ((splitK c ws).2 = 0) → rv = true) ∧ ((splitK c ws).2 = 0 → ((SumOk ws) ∧ ((¬ (((((splitK c ws).1).length : Nat) : Int) = ((ws.length : Nat) : Int)) → rv = false) ∧ (((((splitK c ws).1).length : Nat) : Int) = ((ws.length : Nat) : Int) → ((SumOk ((splitK c ws).1)) ∧ ((¬ ((sumI ((splitK c ws).1)) = c) → rv = false) ∧ ((sumI ((splitK c ws).1)) = c → (((sumI ws) < 1 → rv = false) ∧ (¬ ((sumI ws) < 1) → f4G0 E c cl ws 0)))))))))))) : G Try.prog E [.code (bodyAt Try.prog 4)] ⟨[.int .i64 c, .rsl (rowI cl) 0 cl.length, .rsl (rowI ws) 0 ws.length] ++ unds (Try.f4.ntmps - 3), []⟩ := by
  obtain ⟨h1, h⟩ := h
  rcases Bool.eq_false_or_eq_true ((splitK c ws).2 != 0) with hc0 | hc0
  · have h := h.1 (bneT hc0)
    exact p4_start_0 c cl ws    hE (pureF_of Try.func15 (by kernel_rfl) f15b (SplitP_ok c ws h1)) hc0 (pureF_of Try.func20 (by kernel_rfl) f20b (works_ok )) (AvLe.of_eq (by rw [h]; try rfl))
  · have h := h.2 (bneF hc0)
    obtain ⟨h2, h⟩ := h
    rcases Bool.eq_false_or_eq_true (((((splitK c ws).1).length : Nat) : Int) != ((ws.length : Nat) : Int)) with hc1 | hc1
    · have h := h.1 (bneT hc1)
      exact p4_start_1 c cl ws    hE (pureF_of Try.func15 (by kernel_rfl) f15b (SplitP_ok c ws h1)) hc0 (pureF_of Try.func21 (by kernel_rfl) f21b (sumR_ok ws h2)) hc1 (AvLe.of_eq (by rw [h]; try rfl))
    · have h := h.2 (bneF hc1)
      obtain ⟨h3, h⟩ := h
      rcases Bool.eq_false_or_eq_true ((sumI ((splitK c ws).1)) != c) with hc2 | hc2
      · have h := h.1 (bneT hc2)
        exact p4_start_2 c cl ws    hE (pureF_of Try.func15 (by kernel_rfl) f15b (SplitP_ok c ws h1)) hc0 (pureF_of Try.func21 (by kernel_rfl) f21b (sumR_ok ws h2)) hc1 (pureF_of Try.func21 (by kernel_rfl) f21b (sumR_ok ((splitK c ws).1) h3)) hc2 (AvLe.of_eq (by rw [h]; try rfl))
      · have h := h.2 (bneF hc2)
        rcases Bool.eq_false_or_eq_true (decide ((sumI ws) < 1)) with hc3 | hc3
        · have h := h.1 (of_decide_eq_true hc3)
          exact p4_start_3 c cl ws    hE (pureF_of Try.func15 (by kernel_rfl) f15b (SplitP_ok c ws h1)) hc0 (pureF_of Try.func21 (by kernel_rfl) f21b (sumR_ok ws h2)) hc1 (pureF_of Try.func21 (by kernel_rfl) f21b (sumR_ok ((splitK c ws).1) h3)) hc2 hc3 (AvLe.of_eq (by rw [h]; try rfl))
        · have h := h.2 (of_decide_eq_false hc3)
          exact p4_start_4 c cl ws    hE (pureF_of Try.func15 (by kernel_rfl) f15b (SplitP_ok c ws h1)) hc0 (pureF_of Try.func21 (by kernel_rfl) f21b (sumR_ok ws h2)) hc1 (pureF_of Try.func21 (by kernel_rfl) f21b (sumR_ok ((splitK c ws).1) h3)) hc2 hc3 h
theorem p4_0_0 (c : Int) (cl : (List Int)) (ws : (List Int)) (i : Nat)  (e : Int) (e1 : Int)  {E : Env} {res : AV} (hE : PureE Try.prog 4 res E) (o0 : (decide (((i : Nat) : Int) < ((((splitK c ws).1).length : Nat) : Int))) = true) (o2 : 0 ≤ ((i : Nat) : Int) ∧ ((i : Nat) : Int) < ((ws.length : Nat) : Int)) (o3 : ((rowI ws).drop (0 + (Int.toNat ((i : Nat) : Int)) * 1)).take 1 = [.int .i64 e]) (o4 : InR .i64 (c * e)) (o5 : InR .i64 (Int.tdiv (c * e) (sumI ws))) (o6 : (sumI ws) ≠ 0) (o8 : 0 ≤ ((i : Nat) : Int) ∧ ((i : Nat) : Int) < ((((splitK c ws).1).length : Nat) : Int)) (o9 : ((rowI ((splitK c ws).1)).drop (0 + (Int.toNat ((i : Nat) : Int)) * 1)).take 1 = [.int .i64 e1]) (o10 : (decide (e1 < (Int.tdiv (c * e) (sumI ws)))) = true)
    (hr : AvLe (.bool false) res) : G Try.prog E (f4K0 Try.prog) (f4S0 c cl ws i ) :=
  end_stepL (n := 400) (evs := [.b true, .ld (.int .i64 e), .ld (.int .i64 e1), .b true, .b true, .b true]) (obs := [(decide (((i : Nat) : Int) < ((((splitK c ws).1).length : Nat) : Int))) = true, 0 ≤ ((i : Nat) : Int) ∧ ((i : Nat) : Int) < ((ws.length : Nat) : Int), ((rowI ws).drop (0 + (Int.toNat ((i : Nat) : Int)) * 1)).take 1 = [.int .i64 e], InR .i64 (c * e), InR .i64 (Int.tdiv (c * e) (sumI ws)), (sumI ws) ≠ 0, 0 ≤ ((i : Nat) : Int) ∧ ((i : Nat) : Int) < ((((splitK c ws).1).length : Nat) : Int), ((rowI ((splitK c ws).1)).drop (0 + (Int.toNat ((i : Nat) : Int)) * 1)).take 1 = [.int .i64 e1], (decide (e1 < (Int.tdiv (c * e) (sumI ws)))) = true, true = true, true = true]) hE Try.func4 mixed (by kernel_rfl) ⟨o0, o2, o3, o4, o5, o6, o8, o9, o10, (rfl), (rfl), trivial⟩ hr
theorem p4_0_1 (c : Int) (cl : (List Int)) (ws : (List Int)) (i : Nat)  (e : Int) (e1 : Int)  {E : Env} {res : AV} (hE : PureE Try.prog 4 res E) (o0 : (decide (((i : Nat) : Int) < ((((splitK c ws).1).length : Nat) : Int))) = true) (o2 : 0 ≤ ((i : Nat) : Int) ∧ ((i : Nat) : Int) < ((ws.length : Nat) : Int)) (o3 : ((rowI ws).drop (0 + (Int.toNat ((i : Nat) : Int)) * 1)).take 1 = [.int .i64 e]) (o4 : InR .i64 (c * e)) (o5 : InR .i64 (Int.tdiv (c * e) (sumI ws))) (o6 : (sumI ws) ≠ 0) (o8 : 0 ≤ ((i : Nat) : Int) ∧ ((i : Nat) : Int) < ((((splitK c ws).1).length : Nat) : Int)) (o9 : ((rowI ((splitK c ws).1)).drop (0 + (Int.toNat ((i : Nat) : Int)) * 1)).take 1 = [.int .i64 e1]) (o10 : (decide (e1 < (Int.tdiv (c * e) (sumI ws)))) = false) (o11 : 0 ≤ ((i : Nat) : Int) ∧ ((i : Nat) : Int) < ((((splitK c ws).1).length : Nat) : Int)) (o12 : ((rowI ((splitK c ws).1)).drop (0 + (Int.toNat ((i : Nat) : Int)) * 1)).take 1 = [.int .i64 e1]) (o13 : InR .i64 ((Int.tdiv (c * e) (sumI ws)) + 1)) (o14 : (decide (e1 > ((Int.tdiv (c * e) (sumI ws)) + 1))) = true)
    (hr : AvLe (.bool false) res) : G Try.prog E (f4K0 Try.prog) (f4S0 c cl ws i ) :=
  end_stepL (n := 400) (evs := [.b true, .ld (.int .i64 e), .ld (.int .i64 e1), .b false, .ld (.int .i64 e1), .b true, .b true]) (obs := [(decide (((i : Nat) : Int) < ((((splitK c ws).1).length : Nat) : Int))) = true, 0 ≤ ((i : Nat) : Int) ∧ ((i : Nat) : Int) < ((ws.length : Nat) : Int), ((rowI ws).drop (0 + (Int.toNat ((i : Nat) : Int)) * 1)).take 1 = [.int .i64 e], InR .i64 (c * e), InR .i64 (Int.tdiv (c * e) (sumI ws)), (sumI ws) ≠ 0, 0 ≤ ((i : Nat) : Int) ∧ ((i : Nat) : Int) < ((((splitK c ws).1).length : Nat) : Int), ((rowI ((splitK c ws).1)).drop (0 + (Int.toNat ((i : Nat) : Int)) * 1)).take 1 = [.int .i64 e1], (decide (e1 < (Int.tdiv (c * e) (sumI ws)))) = false, 0 ≤ ((i : Nat) : Int) ∧ ((i : Nat) : Int) < ((((splitK c ws).1).length : Nat) : Int), ((rowI ((splitK c ws).1)).drop (0 + (Int.toNat ((i : Nat) : Int)) * 1)).take 1 = [.int .i64 e1], InR .i64 ((Int.tdiv (c * e) (sumI ws)) + 1), (decide (e1 > ((Int.tdiv (c * e) (sumI ws)) + 1))) = true, true = true]) hE Try.func4 mixed (by kernel_rfl) ⟨o0, o2, o3, o4, o5, o6, o8, o9, o10, o11, o12, o13, o14, (rfl), trivial⟩ hr
theorem p4_0_2 (c : Int) (cl : (List Int)) (ws : (List Int)) (i : Nat)  (e : Int) (e1 : Int)  {E : Env} {res : AV} (hE : PureE Try.prog 4 res E) (o0 : (decide (((i : Nat) : Int) < ((((splitK c ws).1).length : Nat) : Int))) = true) (o2 : 0 ≤ ((i : Nat) : Int) ∧ ((i : Nat) : Int) < ((ws.length : Nat) : Int)) (o3 : ((rowI ws).drop (0 + (Int.toNat ((i : Nat) : Int)) * 1)).take 1 = [.int .i64 e]) (o4 : InR .i64 (c * e)) (o5 : InR .i64 (Int.tdiv (c * e) (sumI ws))) (o6 : (sumI ws) ≠ 0) (o8 : 0 ≤ ((i : Nat) : Int) ∧ ((i : Nat) : Int) < ((((splitK c ws).1).length : Nat) : Int)) (o9 : ((rowI ((splitK c ws).1)).drop (0 + (Int.toNat ((i : Nat) : Int)) * 1)).take 1 = [.int .i64 e1]) (o10 : (decide (e1 < (Int.tdiv (c * e) (sumI ws)))) = false) (o11 : 0 ≤ ((i : Nat) : Int) ∧ ((i : Nat) : Int) < ((((splitK c ws).1).length : Nat) : Int)) (o12 : ((rowI ((splitK c ws).1)).drop (0 + (Int.toNat ((i : Nat) : Int)) * 1)).take 1 = [.int .i64 e1]) (o13 : InR .i64 ((Int.tdiv (c * e) (sumI ws)) + 1)) (o14 : (decide (e1 > ((Int.tdiv (c * e) (sumI ws)) + 1))) = false) (o15 : 0 ≤ ((i : Nat) : Int) ∧ ((i : Nat) : Int) < ((((splitK c ws).1).length : Nat) : Int)) (o16 : ((rowI ((splitK c ws).1)).drop (0 + (Int.toNat ((i : Nat) : Int)) * 1)).take 1 = [.int .i64 e1]) (o17 : (decide (e1 > (Int.tdiv (c * e) (sumI ws)))) = true) (o18 : 0 ≤ ((i : Nat) : Int) ∧ ((i : Nat) : Int) < ((ws.length : Nat) : Int)) (o19 : ((rowI ws).drop (0 + (Int.toNat ((i : Nat) : Int)) * 1)).take 1 = [.int .i64 e]) (o20 : InR .i64 (c * e)) (o21 : (sumI ws) ≠ 0) (o22 : ((Int.tmod (c * e) (sumI ws)) == 0) = true)
    (hr : AvLe (.bool false) res) : G Try.prog E (f4K0 Try.prog) (f4S0 c cl ws i ) :=
  end_stepL (n := 400) (evs := [.b true, .ld (.int .i64 e), .ld (.int .i64 e1), .b false, .ld (.int .i64 e1), .b false, .ld (.int .i64 e1), .b true, .ld (.int .i64 e), .b true]) (obs := [(decide (((i : Nat) : Int) < ((((splitK c ws).1).length : Nat) : Int))) = true, 0 ≤ ((i : Nat) : Int) ∧ ((i : Nat) : Int) < ((ws.length : Nat) : Int), ((rowI ws).drop (0 + (Int.toNat ((i : Nat) : Int)) * 1)).take 1 = [.int .i64 e], InR .i64 (c * e), InR .i64 (Int.tdiv (c * e) (sumI ws)), (sumI ws) ≠ 0, 0 ≤ ((i : Nat) : Int) ∧ ((i : Nat) : Int) < ((((splitK c ws).1).length : Nat) : Int), ((rowI ((splitK c ws).1)).drop (0 + (Int.toNat ((i : Nat) : Int)) * 1)).take 1 = [.int .i64 e1], (decide (e1 < (Int.tdiv (c * e) (sumI ws)))) = false, 0 ≤ ((i : Nat) : Int) ∧ ((i : Nat) : Int) < ((((splitK c ws).1).length : Nat) : Int), ((rowI ((splitK c ws).1)).drop (0 + (Int.toNat ((i : Nat) : Int)) * 1)).take 1 = [.int .i64 e1], InR .i64 ((Int.tdiv (c * e) (sumI ws)) + 1), (decide (e1 > ((Int.tdiv (c * e) (sumI ws)) + 1))) = false, 0 ≤ ((i : Nat) : Int) ∧ ((i : Nat) : Int) < ((((splitK c ws).1).length : Nat) : Int), ((rowI ((splitK c ws).1)).drop (0 + (Int.toNat ((i : Nat) : Int)) * 1)).take 1 = [.int .i64 e1], (decide (e1 > (Int.tdiv (c * e) (sumI ws)))) = true, 0 ≤ ((i : Nat) : Int) ∧ ((i : Nat) : Int) < ((ws.length : Nat) : Int), ((rowI ws).drop (0 + (Int.toNat ((i : Nat) : Int)) * 1)).take 1 = [.int .i64 e], InR .i64 (c * e), (sumI ws) ≠ 0, ((Int.tmod (c * e) (sumI ws)) == 0) = true]) hE Try.func4 mixed (by kernel_rfl) ⟨o0, o2, o3, o4, o5, o6, o8, o9, o10, o11, o12, o13, o14, o15, o16, o17, o18, o19, o20, o21, o22, trivial⟩ hr
theorem p4_0_3 (c : Int) (cl : (List Int)) (ws : (List Int)) (i : Nat)  (e : Int) (e1 : Int)  {E : Env} {rv : AV} (hE : PureE Try.prog 4 rv E) (o0 : (decide (((i : Nat) : Int) < ((((splitK c ws).1).length : Nat) : Int))) = true) (o2 : 0 ≤ ((i : Nat) : Int) ∧ ((i : Nat) : Int) < ((ws.length : Nat) : Int)) (o3 : ((rowI ws).drop (0 + (Int.toNat ((i : Nat) : Int)) * 1)).take 1 = [.int .i64 e]) (o4 : InR .i64 (c * e)) (o5 : InR .i64 (Int.tdiv (c * e) (sumI ws))) (o6 : (sumI ws) ≠ 0) (o8 : 0 ≤ ((i : Nat) : Int) ∧ ((i : Nat) : Int) < ((((splitK c ws).1).length : Nat) : Int)) (o9 : ((rowI ((splitK c ws).1)).drop (0 + (Int.toNat ((i : Nat) : Int)) * 1)).take 1 = [.int .i64 e1]) (o10 : (decide (e1 < (Int.tdiv (c * e) (sumI ws)))) = false) (o11 : 0 ≤ ((i : Nat) : Int) ∧ ((i : Nat) : Int) < ((((splitK c ws).1).length : Nat) : Int)) (o12 : ((rowI ((splitK c ws).1)).drop (0 + (Int.toNat ((i : Nat) : Int)) * 1)).take 1 = [.int .i64 e1]) (o13 : InR .i64 ((Int.tdiv (c * e) (sumI ws)) + 1)) (o14 : (decide (e1 > ((Int.tdiv (c * e) (sumI ws)) + 1))) = false) (o15 : 0 ≤ ((i : Nat) : Int) ∧ ((i : Nat) : Int) < ((((splitK c ws).1).length : Nat) : Int)) (o16 : ((rowI ((splitK c ws).1)).drop (0 + (Int.toNat ((i : Nat) : Int)) * 1)).take 1 = [.int .i64 e1]) (o17 : (decide (e1 > (Int.tdiv (c * e) (sumI ws)))) = true) (o18 : 0 ≤ ((i : Nat) : Int) ∧ ((i : Nat) : Int) < ((ws.length : Nat) : Int)) (o19 : ((rowI ws).drop (0 + (Int.toNat ((i : Nat) : Int)) * 1)).take 1 = [.int .i64 e]) (o20 : InR .i64 (c * e)) (o21 : (sumI ws) ≠ 0) (o22 : ((Int.tmod (c * e) (sumI ws)) == 0) = false)
    (hg : G Try.prog E (f4K1 Try.prog) ⟨[.int .i64 c, .rsl (rowI cl) 0 cl.length, .rsl (rowI ws) 0 ws.length, .junk, .junk, .junk, .junk, .rsl (rowI ((splitK c ws).1)) 0 (((splitK c ws).1).length), .junk, .int .i64 (sumI ws), .int .i64 ((i : Nat) : Int), .junk, .int .i64 0, .junk, .junk, .junk, .junk, .junk, .junk, .junk, .junk, .junk, .junk, .junk, .junk, .junk, .junk, .junk, .junk, .junk, .junk, .junk, .junk, .junk, .junk, .junk, .junk, .junk, .junk, .junk, .junk, .junk, .junk, .junk, .junk, .junk, .junk, .junk, .junk, .junk, .junk, .junk, .junk, .junk, .junk, .junk, .junk, .junk, .junk, .junk, .junk, .junk, .junk, .junk, .junk, .junk, .junk, .junk, .junk, .junk, .junk, .junk, .junk, .junk, .junk, .junk, .junk, .junk, .junk, .junk, .junk, .junk, .junk, .junk, .junk, .junk, .junk, .junk, .junk, .junk, .junk, .junk, .junk, .junk, .junk, .junk, .junk, .junk, .junk, .junk, .junk, .junk, .junk, .junk, .junk, .junk, .junk, .junk, .junk, .junk, .junk, .junk, .junk, .junk, .junk, .junk, .junk, .junk, .junk, .junk, .junk, .junk, .junk, .junk, .junk, .junk, .junk, .junk, .junk, .junk, .junk, .junk, .junk, .junk, .junk, .junk, .junk, .junk, .junk, .junk, .junk, .junk, .junk, .junk, .junk, .junk, .junk, .junk, .junk, .junk, .junk, .junk, .junk, .junk, .junk, .junk, .junk, .junk, .junk, .junk, .junk, .junk, .junk, .junk, .junk, .junk, .junk, .junk, .junk, .junk, .junk, .junk, .junk, .junk, .junk, .junk, .junk, .junk, .junk, .junk, .junk, .junk, .junk, .junk, .junk, .junk, .junk, .junk, .junk, .junk, .junk, .junk, .junk, .junk, .junk, .junk, .junk, .junk, .junk, .junk, .junk, .junk, .junk, .junk, .junk, .junk, .junk, .junk, .junk, .junk, .junk, .junk, .junk, .junk], []⟩) : G Try.prog E (f4K0 Try.prog) (f4S0 c cl ws i ) :=
  segC_step (n := 400) (ds := []) (cs := []) (live := [0, 1, 2, 7, 9, 10, 12]) (m := 0) (evs := [.b true, .ld (.int .i64 e), .ld (.int .i64 e1), .b false, .ld (.int .i64 e1), .b false, .ld (.int .i64 e1), .b true, .ld (.int .i64 e), .b false, .stop]) (obs := [(decide (((i : Nat) : Int) < ((((splitK c ws).1).length : Nat) : Int))) = true, 0 ≤ ((i : Nat) : Int) ∧ ((i : Nat) : Int) < ((ws.length : Nat) : Int), ((rowI ws).drop (0 + (Int.toNat ((i : Nat) : Int)) * 1)).take 1 = [.int .i64 e], InR .i64 (c * e), InR .i64 (Int.tdiv (c * e) (sumI ws)), (sumI ws) ≠ 0, 0 ≤ ((i : Nat) : Int) ∧ ((i : Nat) : Int) < ((((splitK c ws).1).length : Nat) : Int), ((rowI ((splitK c ws).1)).drop (0 + (Int.toNat ((i : Nat) : Int)) * 1)).take 1 = [.int .i64 e1], (decide (e1 < (Int.tdiv (c * e) (sumI ws)))) = false, 0 ≤ ((i : Nat) : Int) ∧ ((i : Nat) : Int) < ((((splitK c ws).1).length : Nat) : Int), ((rowI ((splitK c ws).1)).drop (0 + (Int.toNat ((i : Nat) : Int)) * 1)).take 1 = [.int .i64 e1], InR .i64 ((Int.tdiv (c * e) (sumI ws)) + 1), (decide (e1 > ((Int.tdiv (c * e) (sumI ws)) + 1))) = false, 0 ≤ ((i : Nat) : Int) ∧ ((i : Nat) : Int) < ((((splitK c ws).1).length : Nat) : Int), ((rowI ((splitK c ws).1)).drop (0 + (Int.toNat ((i : Nat) : Int)) * 1)).take 1 = [.int .i64 e1], (decide (e1 > (Int.tdiv (c * e) (sumI ws)))) = true, 0 ≤ ((i : Nat) : Int) ∧ ((i : Nat) : Int) < ((ws.length : Nat) : Int), ((rowI ws).drop (0 + (Int.toNat ((i : Nat) : Int)) * 1)).take 1 = [.int .i64 e], InR .i64 (c * e), (sumI ws) ≠ 0, ((Int.tmod (c * e) (sumI ws)) == 0) = false]) hE.2.1 (hE.nogh _) mixed (by kernel_rfl) ⟨o0, o2, o3, o4, o5, o6, o8, o9, o10, o11, o12, o13, o14, o15, o16, o17, o18, o19, o20, o21, o22, trivial⟩ hg
theorem p4_0_4 (c : Int) (cl : (List Int)) (ws : (List Int)) (i : Nat)  (e : Int) (e1 : Int)  {E : Env} {rv : AV} (hE : PureE Try.prog 4 rv E) (o0 : (decide (((i : Nat) : Int) < ((((splitK c ws).1).length : Nat) : Int))) = true) (o2 : 0 ≤ ((i : Nat) : Int) ∧ ((i : Nat) : Int) < ((ws.length : Nat) : Int)) (o3 : ((rowI ws).drop (0 + (Int.toNat ((i : Nat) : Int)) * 1)).take 1 = [.int .i64 e]) (o4 : InR .i64 (c * e)) (o5 : InR .i64 (Int.tdiv (c * e) (sumI ws))) (o6 : (sumI ws) ≠ 0) (o8 : 0 ≤ ((i : Nat) : Int) ∧ ((i : Nat) : Int) < ((((splitK c ws).1).length : Nat) : Int)) (o9 : ((rowI ((splitK c ws).1)).drop (0 + (Int.toNat ((i : Nat) : Int)) * 1)).take 1 = [.int .i64 e1]) (o10 : (decide (e1 < (Int.tdiv (c * e) (sumI ws)))) = false) (o11 : 0 ≤ ((i : Nat) : Int) ∧ ((i : Nat) : Int) < ((((splitK c ws).1).length : Nat) : Int)) (o12 : ((rowI ((splitK c ws).1)).drop (0 + (Int.toNat ((i : Nat) : Int)) * 1)).take 1 = [.int .i64 e1]) (o13 : InR .i64 ((Int.tdiv (c * e) (sumI ws)) + 1)) (o14 : (decide (e1 > ((Int.tdiv (c * e) (sumI ws)) + 1))) = false) (o15 : 0 ≤ ((i : Nat) : Int) ∧ ((i : Nat) : Int) < ((((splitK c ws).1).length : Nat) : Int)) (o16 : ((rowI ((splitK c ws).1)).drop (0 + (Int.toNat ((i : Nat) : Int)) * 1)).take 1 = [.int .i64 e1]) (o17 : (decide (e1 > (Int.tdiv (c * e) (sumI ws)))) = false)
    (hg : G Try.prog E (f4K1 Try.prog) ⟨[.int .i64 c, .rsl (rowI cl) 0 cl.length, .rsl (rowI ws) 0 ws.length, .junk, .junk, .junk, .junk, .rsl (rowI ((splitK c ws).1)) 0 (((splitK c ws).1).length), .junk, .int .i64 (sumI ws), .int .i64 ((i : Nat) : Int), .junk, .int .i64 0, .junk, .junk, .junk, .junk, .junk, .junk, .junk, .junk, .junk, .junk, .junk, .junk, .junk, .junk, .junk, .junk, .junk, .junk, .junk, .junk, .junk, .junk, .junk, .junk, .junk, .junk, .junk, .junk, .junk, .junk, .junk, .junk, .junk, .junk, .junk, .junk, .junk, .junk, .junk, .junk, .junk, .junk, .junk, .junk, .junk, .junk, .junk, .junk, .junk, .junk, .junk, .junk, .junk, .junk, .junk, .junk, .junk, .junk, .junk, .junk, .junk, .junk, .junk, .junk, .junk, .junk, .junk, .junk, .junk, .junk, .junk, .junk, .junk, .junk, .junk, .junk, .junk, .junk, .junk, .junk, .junk, .junk, .junk, .junk, .junk, .junk, .junk, .junk, .junk, .junk, .junk, .junk, .junk, .junk, .junk, .junk, .junk, .junk, .junk, .junk, .junk, .junk, .junk, .junk, .junk, .junk, .junk, .junk, .junk, .junk, .junk, .junk, .junk, .junk, .junk, .junk, .junk, .junk, .junk, .junk, .junk, .junk, .junk, .junk, .junk, .junk, .junk, .junk, .junk, .junk, .junk, .junk, .junk, .junk, .junk, .junk, .junk, .junk, .junk, .junk, .junk, .junk, .junk, .junk, .junk, .junk, .junk, .junk, .junk, .junk, .junk, .junk, .junk, .junk, .junk, .junk, .junk, .junk, .junk, .junk, .junk, .junk, .junk, .junk, .junk, .junk, .junk, .junk, .junk, .junk, .junk, .junk, .junk, .junk, .junk, .junk, .junk, .junk, .junk, .junk, .junk, .junk, .junk, .junk, .junk, .junk, .junk, .junk, .junk, .junk, .junk, .junk, .junk, .junk, .junk, .junk, .junk, .junk, .junk, .junk, .junk], []⟩) : G Try.prog E (f4K0 Try.prog) (f4S0 c cl ws i ) :=
  segC_step (n := 400) (ds := []) (cs := []) (live := [0, 1, 2, 7, 9, 10, 12]) (m := 0) (evs := [.b true, .ld (.int .i64 e), .ld (.int .i64 e1), .b false, .ld (.int .i64 e1), .b false, .ld (.int .i64 e1), .b false, .b false, .stop]) (obs := [(decide (((i : Nat) : Int) < ((((splitK c ws).1).length : Nat) : Int))) = true, 0 ≤ ((i : Nat) : Int) ∧ ((i : Nat) : Int) < ((ws.length : Nat) : Int), ((rowI ws).drop (0 + (Int.toNat ((i : Nat) : Int)) * 1)).take 1 = [.int .i64 e], InR .i64 (c * e), InR .i64 (Int.tdiv (c * e) (sumI ws)), (sumI ws) ≠ 0, 0 ≤ ((i : Nat) : Int) ∧ ((i : Nat) : Int) < ((((splitK c ws).1).length : Nat) : Int), ((rowI ((splitK c ws).1)).drop (0 + (Int.toNat ((i : Nat) : Int)) * 1)).take 1 = [.int .i64 e1], (decide (e1 < (Int.tdiv (c * e) (sumI ws)))) = false, 0 ≤ ((i : Nat) : Int) ∧ ((i : Nat) : Int) < ((((splitK c ws).1).length : Nat) : Int), ((rowI ((splitK c ws).1)).drop (0 + (Int.toNat ((i : Nat) : Int)) * 1)).take 1 = [.int .i64 e1], InR .i64 ((Int.tdiv (c * e) (sumI ws)) + 1), (decide (e1 > ((Int.tdiv (c * e) (sumI ws)) + 1))) = false, 0 ≤ ((i : Nat) : Int) ∧ ((i : Nat) : Int) < ((((splitK c ws).1).length : Nat) : Int), ((rowI ((splitK c ws).1)).drop (0 + (Int.toNat ((i : Nat) : Int)) * 1)).take 1 = [.int .i64 e1], (decide (e1 > (Int.tdiv (c * e) (sumI ws)))) = false, false = false]) hE.2.1 (hE.nogh _) mixed (by kernel_rfl) ⟨o0, o2, o3, o4, o5, o6, o8, o9, o10, o11, o12, o13, o14, o15, o16, o17, (rfl), trivial⟩ hg
theorem p4_0_5 (c : Int) (cl : (List Int)) (ws : (List Int)) (i : Nat)   {E : Env} {res : AV} (hE : PureE Try.prog 4 res E) (o0 : (decide (((i : Nat) : Int) < ((((splitK c ws).1).length : Nat) : Int))) = false) (o1 : PureF Try.prog (.clos 18 [] []) [.int .i64 c, .rsl (rowI cl) 0 cl.length, .rsl (rowI ws) 0 ws.length] (.tup [.rsl (rowI ((claimsK c cl ws).1)) 0 (((claimsK c cl ws).1).length), .rsl (rowI ((claimsK c cl ws).2.1)) 0 (((claimsK c cl ws).2.1).length), .int .i64 ((claimsK c cl ws).2.2)])) (o2 : ((claimsK c cl ws).2.2 != 0) = true) (o3 : PureF Try.prog (.clos 20 [] []) [] (.bool true))
    (hr : AvLe (.bool true) res) : G Try.prog E (f4K0 Try.prog) (f4S0 c cl ws i ) :=
  end_stepL (n := 400) (evs := [.b false, .v (.tup [.rsl (rowI ((claimsK c cl ws).1)) 0 (((claimsK c cl ws).1).length), .rsl (rowI ((claimsK c cl ws).2.1)) 0 (((claimsK c cl ws).2.1).length), .int .i64 ((claimsK c cl ws).2.2)]), .b true, .v (.bool true)]) (obs := [(decide (((i : Nat) : Int) < ((((splitK c ws).1).length : Nat) : Int))) = false, PureF Try.prog (.clos 18 [] []) [.int .i64 c, .rsl (rowI cl) 0 cl.length, .rsl (rowI ws) 0 ws.length] (.tup [.rsl (rowI ((claimsK c cl ws).1)) 0 (((claimsK c cl ws).1).length), .rsl (rowI ((claimsK c cl ws).2.1)) 0 (((claimsK c cl ws).2.1).length), .int .i64 ((claimsK c cl ws).2.2)]), ((claimsK c cl ws).2.2 != 0) = true, PureF Try.prog (.clos 20 [] []) [] (.bool true)]) hE Try.func4 mixed (by kernel_rfl) ⟨o0, o1, o2, o3, trivial⟩ hr
theorem p4_0_6 (c : Int) (cl : (List Int)) (ws : (List Int)) (i : Nat)   {E : Env} {res : AV} (hE : PureE Try.prog 4 res E) (o0 : (decide (((i : Nat) : Int) < ((((splitK c ws).1).length : Nat) : Int))) = false) (o1 : PureF Try.prog (.clos 18 [] []) [.int .i64 c, .rsl (rowI cl) 0 cl.length, .rsl (rowI ws) 0 ws.length] (.tup [.rsl (rowI ((claimsK c cl ws).1)) 0 (((claimsK c cl ws).1).length), .rsl (rowI ((claimsK c cl ws).2.1)) 0 (((claimsK c cl ws).2.1).length), .int .i64 ((claimsK c cl ws).2.2)])) (o2 : ((claimsK c cl ws).2.2 != 0) = false) (o3 : (((((claimsK c cl ws).1).length : Nat) : Int) != ((cl.length : Nat) : Int)) = true)
    (hr : AvLe (.bool false) res) : G Try.prog E (f4K0 Try.prog) (f4S0 c cl ws i ) :=
  end_stepL (n := 400) (evs := [.b false, .v (.tup [.rsl (rowI ((claimsK c cl ws).1)) 0 (((claimsK c cl ws).1).length), .rsl (rowI ((claimsK c cl ws).2.1)) 0 (((claimsK c cl ws).2.1).length), .int .i64 ((claimsK c cl ws).2.2)]), .b false, .b true, .b true, .b true]) (obs := [(decide (((i : Nat) : Int) < ((((splitK c ws).1).length : Nat) : Int))) = false, PureF Try.prog (.clos 18 [] []) [.int .i64 c, .rsl (rowI cl) 0 cl.length, .rsl (rowI ws) 0 ws.length] (.tup [.rsl (rowI ((claimsK c cl ws).1)) 0 (((claimsK c cl ws).1).length), .rsl (rowI ((claimsK c cl ws).2.1)) 0 (((claimsK c cl ws).2.1).length), .int .i64 ((claimsK c cl ws).2.2)]), ((claimsK c cl ws).2.2 != 0) = false, (((((claimsK c cl ws).1).length : Nat) : Int) != ((cl.length : Nat) : Int)) = true, true = true, true = true]) hE Try.func4 mixed (by kernel_rfl) ⟨o0, o1, o2, o3, (rfl), (rfl), trivial⟩ hr
theorem p4_0_7 (c : Int) (cl : (List Int)) (ws : (List Int)) (i : Nat)   {E : Env} {res : AV} (hE : PureE Try.prog 4 res E) (o0 : (decide (((i : Nat) : Int) < ((((splitK c ws).1).length : Nat) : Int))) = false) (o1 : PureF Try.prog (.clos 18 [] []) [.int .i64 c, .rsl (rowI cl) 0 cl.length, .rsl (rowI ws) 0 ws.length] (.tup [.rsl (rowI ((claimsK c cl ws).1)) 0 (((claimsK c cl ws).1).length), .rsl (rowI ((claimsK c cl ws).2.1)) 0 (((claimsK c cl ws).2.1).length), .int .i64 ((claimsK c cl ws).2.2)])) (o2 : ((claimsK c cl ws).2.2 != 0) = false) (o3 : (((((claimsK c cl ws).1).length : Nat) : Int) != ((cl.length : Nat) : Int)) = false) (o4 : (((((claimsK c cl ws).2.1).length : Nat) : Int) != ((ws.length : Nat) : Int)) = true)
    (hr : AvLe (.bool false) res) : G Try.prog E (f4K0 Try.prog) (f4S0 c cl ws i ) :=
  end_stepL (n := 400) (evs := [.b false, .v (.tup [.rsl (rowI ((claimsK c cl ws).1)) 0 (((claimsK c cl ws).1).length), .rsl (rowI ((claimsK c cl ws).2.1)) 0 (((claimsK c cl ws).2.1).length), .int .i64 ((claimsK c cl ws).2.2)]), .b false, .b false, .b true, .b true]) (obs := [(decide (((i : Nat) : Int) < ((((splitK c ws).1).length : Nat) : Int))) = false, PureF Try.prog (.clos 18 [] []) [.int .i64 c, .rsl (rowI cl) 0 cl.length, .rsl (rowI ws) 0 ws.length] (.tup [.rsl (rowI ((claimsK c cl ws).1)) 0 (((claimsK c cl ws).1).length), .rsl (rowI ((claimsK c cl ws).2.1)) 0 (((claimsK c cl ws).2.1).length), .int .i64 ((claimsK c cl ws).2.2)]), ((claimsK c cl ws).2.2 != 0) = false, (((((claimsK c cl ws).1).length : Nat) : Int) != ((cl.length : Nat) : Int)) = false, (((((claimsK c cl ws).2.1).length : Nat) : Int) != ((ws.length : Nat) : Int)) = true, true = true]) hE Try.func4 mixed (by kernel_rfl) ⟨o0, o1, o2, o3, o4, (rfl), trivial⟩ hr
theorem p4_0_8 (c : Int) (cl : (List Int)) (ws : (List Int)) (i : Nat)   {E : Env} {res : AV} (hE : PureE Try.prog 4 res E) (o0 : (decide (((i : Nat) : Int) < ((((splitK c ws).1).length : Nat) : Int))) = false) (o1 : PureF Try.prog (.clos 18 [] []) [.int .i64 c, .rsl (rowI cl) 0 cl.length, .rsl (rowI ws) 0 ws.length] (.tup [.rsl (rowI ((claimsK c cl ws).1)) 0 (((claimsK c cl ws).1).length), .rsl (rowI ((claimsK c cl ws).2.1)) 0 (((claimsK c cl ws).2.1).length), .int .i64 ((claimsK c cl ws).2.2)])) (o2 : ((claimsK c cl ws).2.2 != 0) = false) (o3 : (((((claimsK c cl ws).1).length : Nat) : Int) != ((cl.length : Nat) : Int)) = false) (o4 : (((((claimsK c cl ws).2.1).length : Nat) : Int) != ((ws.length : Nat) : Int)) = false) (o5 : PureF Try.prog (.clos 21 [] []) [.rsl (rowI ((claimsK c cl ws).1)) 0 (((claimsK c cl ws).1).length)] (.int .i64 (sumI ((claimsK c cl ws).1)))) (o6 : PureF Try.prog (.clos 21 [] []) [.rsl (rowI ((claimsK c cl ws).2.1)) 0 (((claimsK c cl ws).2.1).length)] (.int .i64 (sumI ((claimsK c cl ws).2.1)))) (o7 : InR .i64 ((sumI ((claimsK c cl ws).1)) + (sumI ((claimsK c cl ws).2.1)))) (o8 : (((sumI ((claimsK c cl ws).1)) + (sumI ((claimsK c cl ws).2.1))) != c) = true)
    (hr : AvLe (.bool false) res) : G Try.prog E (f4K0 Try.prog) (f4S0 c cl ws i ) :=
  end_stepL (n := 400) (evs := [.b false, .v (.tup [.rsl (rowI ((claimsK c cl ws).1)) 0 (((claimsK c cl ws).1).length), .rsl (rowI ((claimsK c cl ws).2.1)) 0 (((claimsK c cl ws).2.1).length), .int .i64 ((claimsK c cl ws).2.2)]), .b false, .b false, .b false, .v (.int .i64 (sumI ((claimsK c cl ws).1))), .v (.int .i64 (sumI ((claimsK c cl ws).2.1))), .b true]) (obs := [(decide (((i : Nat) : Int) < ((((splitK c ws).1).length : Nat) : Int))) = false, PureF Try.prog (.clos 18 [] []) [.int .i64 c, .rsl (rowI cl) 0 cl.length, .rsl (rowI ws) 0 ws.length] (.tup [.rsl (rowI ((claimsK c cl ws).1)) 0 (((claimsK c cl ws).1).length), .rsl (rowI ((claimsK c cl ws).2.1)) 0 (((claimsK c cl ws).2.1).length), .int .i64 ((claimsK c cl ws).2.2)]), ((claimsK c cl ws).2.2 != 0) = false, (((((claimsK c cl ws).1).length : Nat) : Int) != ((cl.length : Nat) : Int)) = false, (((((claimsK c cl ws).2.1).length : Nat) : Int) != ((ws.length : Nat) : Int)) = false, PureF Try.prog (.clos 21 [] []) [.rsl (rowI ((claimsK c cl ws).1)) 0 (((claimsK c cl ws).1).length)] (.int .i64 (sumI ((claimsK c cl ws).1))), PureF Try.prog (.clos 21 [] []) [.rsl (rowI ((claimsK c cl ws).2.1)) 0 (((claimsK c cl ws).2.1).length)] (.int .i64 (sumI ((claimsK c cl ws).2.1))), InR .i64 ((sumI ((claimsK c cl ws).1)) + (sumI ((claimsK c cl ws).2.1))), (((sumI ((claimsK c cl ws).1)) + (sumI ((claimsK c cl ws).2.1))) != c) = true]) hE Try.func4 mixed (by kernel_rfl) ⟨o0, o1, o2, o3, o4, o5, o6, o7, o8, trivial⟩ hr
theorem p4_0_9 (c : Int) (cl : (List Int)) (ws : (List Int)) (i : Nat)   {E : Env} {rv : AV} (hE : PureE Try.prog 4 rv E) (o0 : (decide (((i : Nat) : Int) < ((((splitK c ws).1).length : Nat) : Int))) = false) (o1 : PureF Try.prog (.clos 18 [] []) [.int .i64 c, .rsl (rowI cl) 0 cl.length, .rsl (rowI ws) 0 ws.length] (.tup [.rsl (rowI ((claimsK c cl ws).1)) 0 (((claimsK c cl ws).1).length), .rsl (rowI ((claimsK c cl ws).2.1)) 0 (((claimsK c cl ws).2.1).length), .int .i64 ((claimsK c cl ws).2.2)])) (o2 : ((claimsK c cl ws).2.2 != 0) = false) (o3 : (((((claimsK c cl ws).1).length : Nat) : Int) != ((cl.length : Nat) : Int)) = false) (o4 : (((((claimsK c cl ws).2.1).length : Nat) : Int) != ((ws.length : Nat) : Int)) = false) (o5 : PureF Try.prog (.clos 21 [] []) [.rsl (rowI ((claimsK c cl ws).1)) 0 (((claimsK c cl ws).1).length)] (.int .i64 (sumI ((claimsK c cl ws).1)))) (o6 : PureF Try.prog (.clos 21 [] []) [.rsl (rowI ((claimsK c cl ws).2.1)) 0 (((claimsK c cl ws).2.1).length)] (.int .i64 (sumI ((claimsK c cl ws).2.1)))) (o7 : InR .i64 ((sumI ((claimsK c cl ws).1)) + (sumI ((claimsK c cl ws).2.1)))) (o8 : (((sumI ((claimsK c cl ws).1)) + (sumI ((claimsK c cl ws).2.1))) != c) = false)
    (hg : G Try.prog E (f4K2 Try.prog) ⟨[.junk, .rsl (rowI cl) 0 cl.length, .junk, .junk, .junk, .junk, .junk, .junk, .junk, .junk, .junk, .junk, .junk, .rsl (rowI ((claimsK c cl ws).1)) 0 (((claimsK c cl ws).1).length), .rsl (rowI ((claimsK c cl ws).2.1)) 0 (((claimsK c cl ws).2.1).length), .bool false, .int .i64 0, .junk, .junk, .junk, .junk, .junk, .junk, .junk, .junk, .junk, .junk, .junk, .junk, .junk, .junk, .junk, .junk, .junk, .junk, .junk, .junk, .junk, .junk, .junk, .junk, .junk, .junk, .junk, .junk, .junk, .junk, .junk, .junk, .junk, .junk, .junk, .junk, .junk, .junk, .junk, .junk, .junk, .junk, .junk, .junk, .junk, .junk, .junk, .junk, .junk, .junk, .junk, .junk, .junk, .junk, .junk, .junk, .junk, .junk, .junk, .junk, .junk, .junk, .junk, .junk, .junk, .junk, .junk, .junk, .junk, .junk, .junk, .junk, .junk, .junk, .junk, .junk, .junk, .junk, .junk, .junk, .junk, .junk, .junk, .junk, .junk, .junk, .junk, .junk, .junk, .junk, .junk, .junk, .junk, .junk, .junk, .junk, .junk, .junk, .junk, .junk, .junk, .junk, .junk, .junk, .junk, .junk, .junk, .junk, .junk, .junk, .junk, .junk, .junk, .junk, .junk, .junk, .junk, .junk, .junk, .junk, .junk, .junk, .junk, .junk, .junk, .junk, .junk, .junk, .junk, .junk, .junk, .junk, .junk, .junk, .junk, .junk, .junk, .junk, .junk, .junk, .junk, .junk, .junk, .junk, .junk, .junk, .junk, .junk, .junk, .junk, .junk, .junk, .junk, .junk, .junk, .junk, .junk, .junk, .junk, .junk, .junk, .junk, .junk, .junk, .junk, .junk, .junk, .junk, .junk, .junk, .junk, .junk, .junk, .junk, .junk, .junk, .junk, .junk, .junk, .junk, .junk, .junk, .junk, .junk, .junk, .junk, .junk, .junk, .junk, .junk, .junk, .junk, .junk, .junk, .junk, .junk, .junk], []⟩) : G Try.prog E (f4K0 Try.prog) (f4S0 c cl ws i ) :=
  segC_step (n := 400) (ds := []) (cs := []) (live := [1, 13, 14, 15, 16]) (m := 0) (evs := [.b false, .v (.tup [.rsl (rowI ((claimsK c cl ws).1)) 0 (((claimsK c cl ws).1).length), .rsl (rowI ((claimsK c cl ws).2.1)) 0 (((claimsK c cl ws).2.1).length), .int .i64 ((claimsK c cl ws).2.2)]), .b false, .b false, .b false, .v (.int .i64 (sumI ((claimsK c cl ws).1))), .v (.int .i64 (sumI ((claimsK c cl ws).2.1))), .b false, .stop]) (obs := [(decide (((i : Nat) : Int) < ((((splitK c ws).1).length : Nat) : Int))) = false, PureF Try.prog (.clos 18 [] []) [.int .i64 c, .rsl (rowI cl) 0 cl.length, .rsl (rowI ws) 0 ws.length] (.tup [.rsl (rowI ((claimsK c cl ws).1)) 0 (((claimsK c cl ws).1).length), .rsl (rowI ((claimsK c cl ws).2.1)) 0 (((claimsK c cl ws).2.1).length), .int .i64 ((claimsK c cl ws).2.2)]), ((claimsK c cl ws).2.2 != 0) = false, (((((claimsK c cl ws).1).length : Nat) : Int) != ((cl.length : Nat) : Int)) = false, (((((claimsK c cl ws).2.1).length : Nat) : Int) != ((ws.length : Nat) : Int)) = false, PureF Try.prog (.clos 21 [] []) [.rsl (rowI ((claimsK c cl ws).1)) 0 (((claimsK c cl ws).1).length)] (.int .i64 (sumI ((claimsK c cl ws).1))), PureF Try.prog (.clos 21 [] []) [.rsl (rowI ((claimsK c cl ws).2.1)) 0 (((claimsK c cl ws).2.1).length)] (.int .i64 (sumI ((claimsK c cl ws).2.1))), InR .i64 ((sumI ((claimsK c cl ws).1)) + (sumI ((claimsK c cl ws).2.1))), (((sumI ((claimsK c cl ws).1)) + (sumI ((claimsK c cl ws).2.1))) != c) = false]) hE.2.1 (hE.nogh _) mixed (by kernel_rfl) ⟨o0, o1, o2, o3, o4, o5, o6, o7, o8, trivial⟩ hg
theorem f4W0 (c : Int) (cl : (List Int)) (ws : (List Int)) (i : Nat) {E : Env} {rv : Bool} (hE : PureE Try.prog 4 (.bool rv) E)
    (h : ((((i : Nat) : Int) < ((((splitK c ws).1).length : Nat) : Int) → (∃ e : Int, ws[i]? = some e ∧ ((-9223372036854775808 ≤ c * e ∧ c * e ≤ 9223372036854775807) ∧ ((-9223372036854775808 ≤ Int.tdiv (c * e) (sumI ws) ∧ Int.tdiv (c * e) (sumI ws) ≤ 9223372036854775807) ∧ ((sumI ws) ≠ 0 ∧ (∃ e1 : Int, ((splitK c ws).1)[i]? = some e1 ∧ ((e1 < (Int.tdiv (c * e) (sumI ws)) → rv = false) ∧ (¬ (e1 < (Int.tdiv (c * e) (sumI ws))) → ((-9223372036854775808 ≤ (Int.tdiv (c * e) (sumI ws)) + 1 ∧ (Int.tdiv (c * e) (sumI ws)) + 1 ≤ 9223372036854775807) ∧ ((e1 > ((Int.tdiv (c * e) (sumI ws)) + 1) → rv = false) ∧ (¬ (e1 > ((Int.tdiv (c * e) (sumI ws)) + 1)) → ((e1 > (Int.tdiv (c * e) (sumI ws)) → ((-9223372036854775808 ≤ c * e ∧ c * e ≤ 9223372036854775807) ∧ ((sumI ws) ≠ 0 ∧ (((Int.tmod (c * e) (sumI ws)) = 0 → rv = false) ∧ (¬ ((Int.tmod (c * e) (sumI ws)) = 0) → f4G1 E c cl ws i 0))))) ∧ (¬ (e1 > (Int.tdiv (c * e) (sumI ws))) → f4G1 E c cl ws i 0))))))))))))) ∧ (¬ (((i : Nat) : Int) < ((((splitK c ws).1).length : Nat) : Int)) → ((cl.length ≤ 9223372036854775807 ∧ ws.length ≤ 9223372036854775807) ∧ ((¬ ((claimsK c cl ws).2.2 = 0) → rv = true) ∧ ((claimsK c cl ws).2.2 = 0 → ((¬ (((((claimsK c cl ws).1).length : Nat) : Int) = ((cl.length : Nat) : Int)) → rv = false) ∧ (((((claimsK c cl ws).1).length : Nat) : Int) = ((cl.length : Nat) : Int) → ((¬ (((((claimsK c cl ws).2.1).length : Nat) : Int) = ((ws.length : Nat) : Int)) → rv = false) ∧ (((((claimsK c cl ws).2.1).length : Nat) : Int) = ((ws.length : Nat) : Int) → ((SumOk ((claimsK c cl ws).1)) ∧ ((SumOk ((claimsK c cl ws).2.1)) ∧ ((-9223372036854775808 ≤ (sumI ((claimsK c cl ws).1)) + (sumI ((claimsK c cl ws).2.1)) ∧ (sumI ((claimsK c cl ws).1)) + (sumI ((claimsK c cl ws).2.1)) ≤ 9223372036854775807) ∧ ((¬ (((sumI ((claimsK c cl ws).1)) + (sumI ((claimsK c cl ws).2.1))) = c) → rv = false) ∧ (((sumI ((claimsK c cl ws).1)) + (sumI ((claimsK c cl ws).2.1))) = c → f4G2 E c cl ws false 0))))))))))))))) : f4G0 E c cl ws i := by
  rcases Bool.eq_false_or_eq_true (decide (((i : Nat) : Int) < ((((splitK c ws).1).length : Nat) : Int))) with hc0 | hc0
  · have h := h.1 (of_decide_eq_true hc0)
    obtain ⟨e, h1, h⟩ := h
    obtain ⟨q4_1, h⟩ := h
    obtain ⟨q5_1, h⟩ := h
    obtain ⟨q6_1, h⟩ := h
    obtain ⟨e1, h2, h⟩ := h
    rcases Bool.eq_false_or_eq_true (decide (e1 < (Int.tdiv (c * e) (sumI ws)))) with hc1 | hc1
    · have h := h.1 (of_decide_eq_true hc1)
      exact p4_0_0 c cl ws i  e e1 hE hc0 (idx_ok h1) (row_part cI (s := 1) (k := 0) (m := 1) (fun _ => rfl) (by decide) h1) q4_1 q5_1 q6_1 (idx_ok h2) (row_part cI (s := 1) (k := 0) (m := 1) (fun _ => rfl) (by decide) h2) hc1 (AvLe.of_eq (by rw [h]; try rfl))
    · have h := h.2 (of_decide_eq_false hc1)
      obtain ⟨q13_2, h⟩ := h
      rcases Bool.eq_false_or_eq_true (decide (e1 > ((Int.tdiv (c * e) (sumI ws)) + 1))) with hc2 | hc2
      · have h := h.1 (of_decide_eq_true hc2)
        exact p4_0_1 c cl ws i  e e1 hE hc0 (idx_ok h1) (row_part cI (s := 1) (k := 0) (m := 1) (fun _ => rfl) (by decide) h1) q4_1 q5_1 q6_1 (idx_ok h2) (row_part cI (s := 1) (k := 0) (m := 1) (fun _ => rfl) (by decide) h2) hc1 (idx_ok h2) (row_part cI (s := 1) (k := 0) (m := 1) (fun _ => rfl) (by decide) h2) q13_2 hc2 (AvLe.of_eq (by rw [h]; try rfl))
      · have h := h.2 (of_decide_eq_false hc2)
        rcases Bool.eq_false_or_eq_true (decide (e1 > (Int.tdiv (c * e) (sumI ws)))) with hc3 | hc3
        · have h := h.1 (of_decide_eq_true hc3)
          obtain ⟨q20_4, h⟩ := h
          obtain ⟨q21_4, h⟩ := h
          rcases Bool.eq_false_or_eq_true ((Int.tmod (c * e) (sumI ws)) == 0) with hc4 | hc4
          · have h := h.1 (eq_of_beq hc4)
            exact p4_0_2 c cl ws i  e e1 hE hc0 (idx_ok h1) (row_part cI (s := 1) (k := 0) (m := 1) (fun _ => rfl) (by decide) h1) q4_1 q5_1 q6_1 (idx_ok h2) (row_part cI (s := 1) (k := 0) (m := 1) (fun _ => rfl) (by decide) h2) hc1 (idx_ok h2) (row_part cI (s := 1) (k := 0) (m := 1) (fun _ => rfl) (by decide) h2) q13_2 hc2 (idx_ok h2) (row_part cI (s := 1) (k := 0) (m := 1) (fun _ => rfl) (by decide) h2) hc3 (idx_ok h1) (row_part cI (s := 1) (k := 0) (m := 1) (fun _ => rfl) (by decide) h1) q20_4 q21_4 hc4 (AvLe.of_eq (by rw [h]; try rfl))
          · have h := h.2 (ne_of_beq_false hc4)
            exact p4_0_3 c cl ws i  e e1 hE hc0 (idx_ok h1) (row_part cI (s := 1) (k := 0) (m := 1) (fun _ => rfl) (by decide) h1) q4_1 q5_1 q6_1 (idx_ok h2) (row_part cI (s := 1) (k := 0) (m := 1) (fun _ => rfl) (by decide) h2) hc1 (idx_ok h2) (row_part cI (s := 1) (k := 0) (m := 1) (fun _ => rfl) (by decide) h2) q13_2 hc2 (idx_ok h2) (row_part cI (s := 1) (k := 0) (m := 1) (fun _ => rfl) (by decide) h2) hc3 (idx_ok h1) (row_part cI (s := 1) (k := 0) (m := 1) (fun _ => rfl) (by decide) h1) q20_4 q21_4 hc4 h
        · have h := h.2 (of_decide_eq_false hc3)
          exact p4_0_4 c cl ws i  e e1 hE hc0 (idx_ok h1) (row_part cI (s := 1) (k := 0) (m := 1) (fun _ => rfl) (by decide) h1) q4_1 q5_1 q6_1 (idx_ok h2) (row_part cI (s := 1) (k := 0) (m := 1) (fun _ => rfl) (by decide) h2) hc1 (idx_ok h2) (row_part cI (s := 1) (k := 0) (m := 1) (fun _ => rfl) (by decide) h2) q13_2 hc2 (idx_ok h2) (row_part cI (s := 1) (k := 0) (m := 1) (fun _ => rfl) (by decide) h2) hc3 h
  · have h := h.2 (of_decide_eq_false hc0)
    obtain ⟨h1, h⟩ := h
    rcases Bool.eq_false_or_eq_true ((claimsK c cl ws).2.2 != 0) with hc1 | hc1
    · have h := h.1 (bneT hc1)
      exact p4_0_5 c cl ws i   hE hc0 (pureF_of Try.func18 (by kernel_rfl) f18b (claims_ok c cl ws h1)) hc1 (pureF_of Try.func20 (by kernel_rfl) f20b (works_ok )) (AvLe.of_eq (by rw [h]; try rfl))
    · have h := h.2 (bneF hc1)
      rcases Bool.eq_false_or_eq_true (((((claimsK c cl ws).1).length : Nat) : Int) != ((cl.length : Nat) : Int)) with hc2 | hc2
      · have h := h.1 (bneT hc2)
        exact p4_0_6 c cl ws i   hE hc0 (pureF_of Try.func18 (by kernel_rfl) f18b (claims_ok c cl ws h1)) hc1 hc2 (AvLe.of_eq (by rw [h]; try rfl))
      · have h := h.2 (bneF hc2)
        rcases Bool.eq_false_or_eq_true (((((claimsK c cl ws).2.1).length : Nat) : Int) != ((ws.length : Nat) : Int)) with hc3 | hc3
        · have h := h.1 (bneT hc3)
          exact p4_0_7 c cl ws i   hE hc0 (pureF_of Try.func18 (by kernel_rfl) f18b (claims_ok c cl ws h1)) hc1 hc2 hc3 (AvLe.of_eq (by rw [h]; try rfl))
        · have h := h.2 (bneF hc3)
          obtain ⟨h2, h⟩ := h
          obtain ⟨h3, h⟩ := h
          obtain ⟨q7_4, h⟩ := h
          rcases Bool.eq_false_or_eq_true (((sumI ((claimsK c cl ws).1)) + (sumI ((claimsK c cl ws).2.1))) != c) with hc4 | hc4
          · have h := h.1 (bneT hc4)
            exact p4_0_8 c cl ws i   hE hc0 (pureF_of Try.func18 (by kernel_rfl) f18b (claims_ok c cl ws h1)) hc1 hc2 hc3 (pureF_of Try.func21 (by kernel_rfl) f21b (sumR_ok ((claimsK c cl ws).1) h2)) (pureF_of Try.func21 (by kernel_rfl) f21b (sumR_ok ((claimsK c cl ws).2.1) h3)) q7_4 hc4 (AvLe.of_eq (by rw [h]; try rfl))
          · have h := h.2 (bneF hc4)
            exact p4_0_9 c cl ws i   hE hc0 (pureF_of Try.func18 (by kernel_rfl) f18b (claims_ok c cl ws h1)) hc1 hc2 hc3 (pureF_of Try.func21 (by kernel_rfl) f21b (sumR_ok ((claimsK c cl ws).1) h2)) (pureF_of Try.func21 (by kernel_rfl) f21b (sumR_ok ((claimsK c cl ws).2.1) h3)) q7_4 hc4 h
theorem p4_1_0 (c : Int) (cl : (List Int)) (ws : (List Int)) (i : Nat) (k : Nat)  (e : Int) (e1 : Int) (e2 : Int) (e3 : Int)  {E : Env} {res : AV} (hE : PureE Try.prog 4 res E) (o0 : (decide (((k : Nat) : Int) < ((i : Nat) : Int))) = true) (o2 : 0 ≤ ((k : Nat) : Int) ∧ ((k : Nat) : Int) < ((ws.length : Nat) : Int)) (o3 : ((rowI ws).drop (0 + (Int.toNat ((k : Nat) : Int)) * 1)).take 1 = [.int .i64 e]) (o5 : 0 ≤ ((i : Nat) : Int) ∧ ((i : Nat) : Int) < ((ws.length : Nat) : Int)) (o6 : ((rowI ws).drop (0 + (Int.toNat ((i : Nat) : Int)) * 1)).take 1 = [.int .i64 e1]) (o7 : (e == e1) = true) (o9 : 0 ≤ ((k : Nat) : Int) ∧ ((k : Nat) : Int) < ((((splitK c ws).1).length : Nat) : Int)) (o10 : ((rowI ((splitK c ws).1)).drop (0 + (Int.toNat ((k : Nat) : Int)) * 1)).take 1 = [.int .i64 e2]) (o12 : 0 ≤ ((i : Nat) : Int) ∧ ((i : Nat) : Int) < ((((splitK c ws).1).length : Nat) : Int)) (o13 : ((rowI ((splitK c ws).1)).drop (0 + (Int.toNat ((i : Nat) : Int)) * 1)).take 1 = [.int .i64 e3]) (o14 : (decide (e2 < e3)) = true)
    (hr : AvLe (.bool false) res) : G Try.prog E (f4K1 Try.prog) (f4S1 c cl ws i k ) :=
  end_stepL (n := 400) (evs := [.b true, .ld (.int .i64 e), .ld (.int .i64 e1), .b true, .ld (.int .i64 e2), .ld (.int .i64 e3), .b true, .b true]) (obs := [(decide (((k : Nat) : Int) < ((i : Nat) : Int))) = true, 0 ≤ ((k : Nat) : Int) ∧ ((k : Nat) : Int) < ((ws.length : Nat) : Int), ((rowI ws).drop (0 + (Int.toNat ((k : Nat) : Int)) * 1)).take 1 = [.int .i64 e], 0 ≤ ((i : Nat) : Int) ∧ ((i : Nat) : Int) < ((ws.length : Nat) : Int), ((rowI ws).drop (0 + (Int.toNat ((i : Nat) : Int)) * 1)).take 1 = [.int .i64 e1], (e == e1) = true, 0 ≤ ((k : Nat) : Int) ∧ ((k : Nat) : Int) < ((((splitK c ws).1).length : Nat) : Int), ((rowI ((splitK c ws).1)).drop (0 + (Int.toNat ((k : Nat) : Int)) * 1)).take 1 = [.int .i64 e2], 0 ≤ ((i : Nat) : Int) ∧ ((i : Nat) : Int) < ((((splitK c ws).1).length : Nat) : Int), ((rowI ((splitK c ws).1)).drop (0 + (Int.toNat ((i : Nat) : Int)) * 1)).take 1 = [.int .i64 e3], (decide (e2 < e3)) = true, true = true]) hE Try.func4 mixed (by kernel_rfl) ⟨o0, o2, o3, o5, o6, o7, o9, o10, o12, o13, o14, (rfl), trivial⟩ hr
theorem p4_1_1 (c : Int) (cl : (List Int)) (ws : (List Int)) (i : Nat) (k : Nat)  (e : Int) (e1 : Int) (e2 : Int) (e3 : Int)  {E : Env} {res : AV} (hE : PureE Try.prog 4 res E) (o0 : (decide (((k : Nat) : Int) < ((i : Nat) : Int))) = true) (o2 : 0 ≤ ((k : Nat) : Int) ∧ ((k : Nat) : Int) < ((ws.length : Nat) : Int)) (o3 : ((rowI ws).drop (0 + (Int.toNat ((k : Nat) : Int)) * 1)).take 1 = [.int .i64 e]) (o5 : 0 ≤ ((i : Nat) : Int) ∧ ((i : Nat) : Int) < ((ws.length : Nat) : Int)) (o6 : ((rowI ws).drop (0 + (Int.toNat ((i : Nat) : Int)) * 1)).take 1 = [.int .i64 e1]) (o7 : (e == e1) = true) (o9 : 0 ≤ ((k : Nat) : Int) ∧ ((k : Nat) : Int) < ((((splitK c ws).1).length : Nat) : Int)) (o10 : ((rowI ((splitK c ws).1)).drop (0 + (Int.toNat ((k : Nat) : Int)) * 1)).take 1 = [.int .i64 e2]) (o12 : 0 ≤ ((i : Nat) : Int) ∧ ((i : Nat) : Int) < ((((splitK c ws).1).length : Nat) : Int)) (o13 : ((rowI ((splitK c ws).1)).drop (0 + (Int.toNat ((i : Nat) : Int)) * 1)).take 1 = [.int .i64 e3]) (o14 : (decide (e2 < e3)) = false) (o15 : 0 ≤ ((k : Nat) : Int) ∧ ((k : Nat) : Int) < ((((splitK c ws).1).length : Nat) : Int)) (o16 : ((rowI ((splitK c ws).1)).drop (0 + (Int.toNat ((k : Nat) : Int)) * 1)).take 1 = [.int .i64 e2]) (o17 : 0 ≤ ((i : Nat) : Int) ∧ ((i : Nat) : Int) < ((((splitK c ws).1).length : Nat) : Int)) (o18 : ((rowI ((splitK c ws).1)).drop (0 + (Int.toNat ((i : Nat) : Int)) * 1)).take 1 = [.int .i64 e3]) (o19 : InR .i64 (e3 + 1)) (o20 : (decide (e2 > (e3 + 1))) = true)
    (hr : AvLe (.bool false) res) : G Try.prog E (f4K1 Try.prog) (f4S1 c cl ws i k ) :=
  end_stepL (n := 400) (evs := [.b true, .ld (.int .i64 e), .ld (.int .i64 e1), .b true, .ld (.int .i64 e2), .ld (.int .i64 e3), .b false, .ld (.int .i64 e2), .ld (.int .i64 e3), .b true]) (obs := [(decide (((k : Nat) : Int) < ((i : Nat) : Int))) = true, 0 ≤ ((k : Nat) : Int) ∧ ((k : Nat) : Int) < ((ws.length : Nat) : Int), ((rowI ws).drop (0 + (Int.toNat ((k : Nat) : Int)) * 1)).take 1 = [.int .i64 e], 0 ≤ ((i : Nat) : Int) ∧ ((i : Nat) : Int) < ((ws.length : Nat) : Int), ((rowI ws).drop (0 + (Int.toNat ((i : Nat) : Int)) * 1)).take 1 = [.int .i64 e1], (e == e1) = true, 0 ≤ ((k : Nat) : Int) ∧ ((k : Nat) : Int) < ((((splitK c ws).1).length : Nat) : Int), ((rowI ((splitK c ws).1)).drop (0 + (Int.toNat ((k : Nat) : Int)) * 1)).take 1 = [.int .i64 e2], 0 ≤ ((i : Nat) : Int) ∧ ((i : Nat) : Int) < ((((splitK c ws).1).length : Nat) : Int), ((rowI ((splitK c ws).1)).drop (0 + (Int.toNat ((i : Nat) : Int)) * 1)).take 1 = [.int .i64 e3], (decide (e2 < e3)) = false, 0 ≤ ((k : Nat) : Int) ∧ ((k : Nat) : Int) < ((((splitK c ws).1).length : Nat) : Int), ((rowI ((splitK c ws).1)).drop (0 + (Int.toNat ((k : Nat) : Int)) * 1)).take 1 = [.int .i64 e2], 0 ≤ ((i : Nat) : Int) ∧ ((i : Nat) : Int) < ((((splitK c ws).1).length : Nat) : Int), ((rowI ((splitK c ws).1)).drop (0 + (Int.toNat ((i : Nat) : Int)) * 1)).take 1 = [.int .i64 e3], InR .i64 (e3 + 1), (decide (e2 > (e3 + 1))) = true]) hE Try.func4 mixed (by kernel_rfl) ⟨o0, o2, o3, o5, o6, o7, o9, o10, o12, o13, o14, o15, o16, o17, o18, o19, o20, trivial⟩ hr
theorem p4_1_2 (c : Int) (cl : (List Int)) (ws : (List Int)) (i : Nat) (k : Nat)  (e : Int) (e1 : Int) (e2 : Int) (e3 : Int)  {E : Env} {rv : AV} (hE : PureE Try.prog 4 rv E) (o0 : (decide (((k : Nat) : Int) < ((i : Nat) : Int))) = true) (o2 : 0 ≤ ((k : Nat) : Int) ∧ ((k : Nat) : Int) < ((ws.length : Nat) : Int)) (o3 : ((rowI ws).drop (0 + (Int.toNat ((k : Nat) : Int)) * 1)).take 1 = [.int .i64 e]) (o5 : 0 ≤ ((i : Nat) : Int) ∧ ((i : Nat) : Int) < ((ws.length : Nat) : Int)) (o6 : ((rowI ws).drop (0 + (Int.toNat ((i : Nat) : Int)) * 1)).take 1 = [.int .i64 e1]) (o7 : (e == e1) = true) (o9 : 0 ≤ ((k : Nat) : Int) ∧ ((k : Nat) : Int) < ((((splitK c ws).1).length : Nat) : Int)) (o10 : ((rowI ((splitK c ws).1)).drop (0 + (Int.toNat ((k : Nat) : Int)) * 1)).take 1 = [.int .i64 e2]) (o12 : 0 ≤ ((i : Nat) : Int) ∧ ((i : Nat) : Int) < ((((splitK c ws).1).length : Nat) : Int)) (o13 : ((rowI ((splitK c ws).1)).drop (0 + (Int.toNat ((i : Nat) : Int)) * 1)).take 1 = [.int .i64 e3]) (o14 : (decide (e2 < e3)) = false) (o15 : 0 ≤ ((k : Nat) : Int) ∧ ((k : Nat) : Int) < ((((splitK c ws).1).length : Nat) : Int)) (o16 : ((rowI ((splitK c ws).1)).drop (0 + (Int.toNat ((k : Nat) : Int)) * 1)).take 1 = [.int .i64 e2]) (o17 : 0 ≤ ((i : Nat) : Int) ∧ ((i : Nat) : Int) < ((((splitK c ws).1).length : Nat) : Int)) (o18 : ((rowI ((splitK c ws).1)).drop (0 + (Int.toNat ((i : Nat) : Int)) * 1)).take 1 = [.int .i64 e3]) (o19 : InR .i64 (e3 + 1)) (o20 : (decide (e2 > (e3 + 1))) = false) (o21 : InR .i64 (((k : Nat) : Int) + 1))
    (hg : G Try.prog E (f4K1 Try.prog) ⟨[.int .i64 c, .rsl (rowI cl) 0 cl.length, .rsl (rowI ws) 0 ws.length, .junk, .junk, .junk, .junk, .rsl (rowI ((splitK c ws).1)) 0 (((splitK c ws).1).length), .junk, .int .i64 (sumI ws), .int .i64 ((i : Nat) : Int), .junk, .int .i64 (((k : Nat) : Int) + 1), .junk, .junk, .junk, .junk, .junk, .junk, .junk, .junk, .junk, .junk, .junk, .junk, .junk, .junk, .junk, .junk, .junk, .junk, .junk, .junk, .junk, .junk, .junk, .junk, .junk, .junk, .junk, .junk, .junk, .junk, .junk, .junk, .junk, .junk, .junk, .junk, .junk, .junk, .junk, .junk, .junk, .junk, .junk, .junk, .junk, .junk, .junk, .junk, .junk, .junk, .junk, .junk, .junk, .junk, .junk, .junk, .junk, .junk, .junk, .junk, .junk, .junk, .junk, .junk, .junk, .junk, .junk, .junk, .junk, .junk, .junk, .junk, .junk, .junk, .junk, .junk, .junk, .junk, .junk, .junk, .junk, .junk, .junk, .junk, .junk, .junk, .junk, .junk, .junk, .junk, .junk, .junk, .junk, .junk, .junk, .junk, .junk, .junk, .junk, .junk, .junk, .junk, .junk, .junk, .junk, .junk, .junk, .junk, .junk, .junk, .junk, .junk, .junk, .junk, .junk, .junk, .junk, .junk, .junk, .junk, .junk, .junk, .junk, .junk, .junk, .junk, .junk, .junk, .junk, .junk, .junk, .junk, .junk, .junk, .junk, .junk, .junk, .junk, .junk, .junk, .junk, .junk, .junk, .junk, .junk, .junk, .junk, .junk, .junk, .junk, .junk, .junk, .junk, .junk, .junk, .junk, .junk, .junk, .junk, .junk, .junk, .junk, .junk, .junk, .junk, .junk, .junk, .junk, .junk, .junk, .junk, .junk, .junk, .junk, .junk, .junk, .junk, .junk, .junk, .junk, .junk, .junk, .junk, .junk, .junk, .junk, .junk, .junk, .junk, .junk, .junk, .junk, .junk, .junk, .junk, .junk, .junk, .junk, .junk, .junk, .junk], []⟩) : G Try.prog E (f4K1 Try.prog) (f4S1 c cl ws i k ) :=
  segC_step (n := 400) (ds := []) (cs := []) (live := [0, 1, 2, 7, 9, 10, 12]) (m := 0) (evs := [.b true, .ld (.int .i64 e), .ld (.int .i64 e1), .b true, .ld (.int .i64 e2), .ld (.int .i64 e3), .b false, .ld (.int .i64 e2), .ld (.int .i64 e3), .b false, .stop]) (obs := [(decide (((k : Nat) : Int) < ((i : Nat) : Int))) = true, 0 ≤ ((k : Nat) : Int) ∧ ((k : Nat) : Int) < ((ws.length : Nat) : Int), ((rowI ws).drop (0 + (Int.toNat ((k : Nat) : Int)) * 1)).take 1 = [.int .i64 e], 0 ≤ ((i : Nat) : Int) ∧ ((i : Nat) : Int) < ((ws.length : Nat) : Int), ((rowI ws).drop (0 + (Int.toNat ((i : Nat) : Int)) * 1)).take 1 = [.int .i64 e1], (e == e1) = true, 0 ≤ ((k : Nat) : Int) ∧ ((k : Nat) : Int) < ((((splitK c ws).1).length : Nat) : Int), ((rowI ((splitK c ws).1)).drop (0 + (Int.toNat ((k : Nat) : Int)) * 1)).take 1 = [.int .i64 e2], 0 ≤ ((i : Nat) : Int) ∧ ((i : Nat) : Int) < ((((splitK c ws).1).length : Nat) : Int), ((rowI ((splitK c ws).1)).drop (0 + (Int.toNat ((i : Nat) : Int)) * 1)).take 1 = [.int .i64 e3], (decide (e2 < e3)) = false, 0 ≤ ((k : Nat) : Int) ∧ ((k : Nat) : Int) < ((((splitK c ws).1).length : Nat) : Int), ((rowI ((splitK c ws).1)).drop (0 + (Int.toNat ((k : Nat) : Int)) * 1)).take 1 = [.int .i64 e2], 0 ≤ ((i : Nat) : Int) ∧ ((i : Nat) : Int) < ((((splitK c ws).1).length : Nat) : Int), ((rowI ((splitK c ws).1)).drop (0 + (Int.toNat ((i : Nat) : Int)) * 1)).take 1 = [.int .i64 e3], InR .i64 (e3 + 1), (decide (e2 > (e3 + 1))) = false, InR .i64 (((k : Nat) : Int) + 1)]) hE.2.1 (hE.nogh _) mixed (by kernel_rfl) ⟨o0, o2, o3, o5, o6, o7, o9, o10, o12, o13, o14, o15, o16, o17, o18, o19, o20, o21, trivial⟩ hg
theorem p4_1_3 (c : Int) (cl : (List Int)) (ws : (List Int)) (i : Nat) (k : Nat)  (e : Int) (e1 : Int)  {E : Env} {rv : AV} (hE : PureE Try.prog 4 rv E) (o0 : (decide (((k : Nat) : Int) < ((i : Nat) : Int))) = true) (o2 : 0 ≤ ((k : Nat) : Int) ∧ ((k : Nat) : Int) < ((ws.length : Nat) : Int)) (o3 : ((rowI ws).drop (0 + (Int.toNat ((k : Nat) : Int)) * 1)).take 1 = [.int .i64 e]) (o5 : 0 ≤ ((i : Nat) : Int) ∧ ((i : Nat) : Int) < ((ws.length : Nat) : Int)) (o6 : ((rowI ws).drop (0 + (Int.toNat ((i : Nat) : Int)) * 1)).take 1 = [.int .i64 e1]) (o7 : (e == e1) = false) (o9 : InR .i64 (((k : Nat) : Int) + 1))
    (hg : G Try.prog E (f4K1 Try.prog) ⟨[.int .i64 c, .rsl (rowI cl) 0 cl.length, .rsl (rowI ws) 0 ws.length, .junk, .junk, .junk, .junk, .rsl (rowI ((splitK c ws).1)) 0 (((splitK c ws).1).length), .junk, .int .i64 (sumI ws), .int .i64 ((i : Nat) : Int), .junk, .int .i64 (((k : Nat) : Int) + 1), .junk, .junk, .junk, .junk, .junk, .junk, .junk, .junk, .junk, .junk, .junk, .junk, .junk, .junk, .junk, .junk, .junk, .junk, .junk, .junk, .junk, .junk, .junk, .junk, .junk, .junk, .junk, .junk, .junk, .junk, .junk, .junk, .junk, .junk, .junk, .junk, .junk, .junk, .junk, .junk, .junk, .junk, .junk, .junk, .junk, .junk, .junk, .junk, .junk, .junk, .junk, .junk, .junk, .junk, .junk, .junk, .junk, .junk, .junk, .junk, .junk, .junk, .junk, .junk, .junk, .junk, .junk, .junk, .junk, .junk, .junk, .junk, .junk, .junk, .junk, .junk, .junk, .junk, .junk, .junk, .junk, .junk, .junk, .junk, .junk, .junk, .junk, .junk, .junk, .junk, .junk, .junk, .junk, .junk, .junk, .junk, .junk, .junk, .junk, .junk, .junk, .junk, .junk, .junk, .junk, .junk, .junk, .junk, .junk, .junk, .junk, .junk, .junk, .junk, .junk, .junk, .junk, .junk, .junk, .junk, .junk, .junk, .junk, .junk, .junk, .junk, .junk, .junk, .junk, .junk, .junk, .junk, .junk, .junk, .junk, .junk, .junk, .junk, .junk, .junk, .junk, .junk, .junk, .junk, .junk, .junk, .junk, .junk, .junk, .junk, .junk, .junk, .junk, .junk, .junk, .junk, .junk, .junk, .junk, .junk, .junk, .junk, .junk, .junk, .junk, .junk, .junk, .junk, .junk, .junk, .junk, .junk, .junk, .junk, .junk, .junk, .junk, .junk, .junk, .junk, .junk, .junk, .junk, .junk, .junk, .junk, .junk, .junk, .junk, .junk, .junk, .junk, .junk, .junk, .junk, .junk, .junk, .junk, .junk, .junk, .junk], []⟩) : G Try.prog E (f4K1 Try.prog) (f4S1 c cl ws i k ) :=
  segC_step (n := 400) (ds := []) (cs := []) (live := [0, 1, 2, 7, 9, 10, 12]) (m := 0) (evs := [.b true, .ld (.int .i64 e), .ld (.int .i64 e1), .b false, .b false, .stop]) (obs := [(decide (((k : Nat) : Int) < ((i : Nat) : Int))) = true, 0 ≤ ((k : Nat) : Int) ∧ ((k : Nat) : Int) < ((ws.length : Nat) : Int), ((rowI ws).drop (0 + (Int.toNat ((k : Nat) : Int)) * 1)).take 1 = [.int .i64 e], 0 ≤ ((i : Nat) : Int) ∧ ((i : Nat) : Int) < ((ws.length : Nat) : Int), ((rowI ws).drop (0 + (Int.toNat ((i : Nat) : Int)) * 1)).take 1 = [.int .i64 e1], (e == e1) = false, false = false, InR .i64 (((k : Nat) : Int) + 1)]) hE.2.1 (hE.nogh _) mixed (by kernel_rfl) ⟨o0, o2, o3, o5, o6, o7, (rfl), o9, trivial⟩ hg
theorem p4_1_4 (c : Int) (cl : (List Int)) (ws : (List Int)) (i : Nat) (k : Nat)   {E : Env} {rv : AV} (hE : PureE Try.prog 4 rv E) (o0 : (decide (((k : Nat) : Int) < ((i : Nat) : Int))) = false) (o1 : InR .i64 (((i : Nat) : Int) + 1))
    (hg : G Try.prog E (f4K0 Try.prog) ⟨[.int .i64 c, .rsl (rowI cl) 0 cl.length, .rsl (rowI ws) 0 ws.length, .junk, .junk, .junk, .junk, .rsl (rowI ((splitK c ws).1)) 0 (((splitK c ws).1).length), .junk, .int .i64 (sumI ws), .int .i64 (((i : Nat) : Int) + 1), .junk, .junk, .junk, .junk, .junk, .junk, .junk, .junk, .junk, .junk, .junk, .junk, .junk, .junk, .junk, .junk, .junk, .junk, .junk, .junk, .junk, .junk, .junk, .junk, .junk, .junk, .junk, .junk, .junk, .junk, .junk, .junk, .junk, .junk, .junk, .junk, .junk, .junk, .junk, .junk, .junk, .junk, .junk, .junk, .junk, .junk, .junk, .junk, .junk, .junk, .junk, .junk, .junk, .junk, .junk, .junk, .junk, .junk, .junk, .junk, .junk, .junk, .junk, .junk, .junk, .junk, .junk, .junk, .junk, .junk, .junk, .junk, .junk, .junk, .junk, .junk, .junk, .junk, .junk, .junk, .junk, .junk, .junk, .junk, .junk, .junk, .junk, .junk, .junk, .junk, .junk, .junk, .junk, .junk, .junk, .junk, .junk, .junk, .junk, .junk, .junk, .junk, .junk, .junk, .junk, .junk, .junk, .junk, .junk, .junk, .junk, .junk, .junk, .junk, .junk, .junk, .junk, .junk, .junk, .junk, .junk, .junk, .junk, .junk, .junk, .junk, .junk, .junk, .junk, .junk, .junk, .junk, .junk, .junk, .junk, .junk, .junk, .junk, .junk, .junk, .junk, .junk, .junk, .junk, .junk, .junk, .junk, .junk, .junk, .junk, .junk, .junk, .junk, .junk, .junk, .junk, .junk, .junk, .junk, .junk, .junk, .junk, .junk, .junk, .junk, .junk, .junk, .junk, .junk, .junk, .junk, .junk, .junk, .junk, .junk, .junk, .junk, .junk, .junk, .junk, .junk, .junk, .junk, .junk, .junk, .junk, .junk, .junk, .junk, .junk, .junk, .junk, .junk, .junk, .junk, .junk, .junk, .junk, .junk, .junk, .junk, .junk, .junk], []⟩) : G Try.prog E (f4K1 Try.prog) (f4S1 c cl ws i k ) :=
  segC_step (n := 400) (ds := []) (cs := []) (live := [0, 1, 2, 7, 9, 10]) (m := 0) (evs := [.b false, .stop]) (obs := [(decide (((k : Nat) : Int) < ((i : Nat) : Int))) = false, InR .i64 (((i : Nat) : Int) + 1)]) hE.2.1 (hE.nogh _) mixed (by kernel_rfl) ⟨o0, o1, trivial⟩ hg
theorem f4W1 (c : Int) (cl : (List Int)) (ws : (List Int)) (i : Nat) (k : Nat) {E : Env} {rv : Bool} (hE : PureE Try.prog 4 (.bool rv) E)
    (h : ((((k : Nat) : Int) < ((i : Nat) : Int) → (∃ e : Int, ws[k]? = some e ∧ (∃ e1 : Int, ws[i]? = some e1 ∧ ((e = e1 → (∃ e2 : Int, ((splitK c ws).1)[k]? = some e2 ∧ (∃ e3 : Int, ((splitK c ws).1)[i]? = some e3 ∧ ((e2 < e3 → rv = false) ∧ (¬ (e2 < e3) → ((-9223372036854775808 ≤ e3 + 1 ∧ e3 + 1 ≤ 9223372036854775807) ∧ ((e2 > (e3 + 1) → rv = false) ∧ (¬ (e2 > (e3 + 1)) → ((-9223372036854775808 ≤ ((k : Nat) : Int) + 1 ∧ ((k : Nat) : Int) + 1 ≤ 9223372036854775807) ∧ f4G1 E c cl ws i (k + 1)))))))))) ∧ (¬ (e = e1) → ((-9223372036854775808 ≤ ((k : Nat) : Int) + 1 ∧ ((k : Nat) : Int) + 1 ≤ 9223372036854775807) ∧ f4G1 E c cl ws i (k + 1))))))) ∧ (¬ (((k : Nat) : Int) < ((i : Nat) : Int)) → ((-9223372036854775808 ≤ ((i : Nat) : Int) + 1 ∧ ((i : Nat) : Int) + 1 ≤ 9223372036854775807) ∧ f4G0 E c cl ws (i + 1))))) : f4G1 E c cl ws i k := by
  rcases Bool.eq_false_or_eq_true (decide (((k : Nat) : Int) < ((i : Nat) : Int))) with hc0 | hc0
  · have h := h.1 (of_decide_eq_true hc0)
    obtain ⟨e, h1, h⟩ := h
    obtain ⟨e1, h2, h⟩ := h
    rcases Bool.eq_false_or_eq_true (e == e1) with hc1 | hc1
    · have h := h.1 (eq_of_beq hc1)
      obtain ⟨e2, h3, h⟩ := h
      obtain ⟨e3, h4, h⟩ := h
      rcases Bool.eq_false_or_eq_true (decide (e2 < e3)) with hc2 | hc2
      · have h := h.1 (of_decide_eq_true hc2)
        exact p4_1_0 c cl ws i k  e e1 e2 e3 hE hc0 (idx_ok h1) (row_part cI (s := 1) (k := 0) (m := 1) (fun _ => rfl) (by decide) h1) (idx_ok h2) (row_part cI (s := 1) (k := 0) (m := 1) (fun _ => rfl) (by decide) h2) hc1 (idx_ok h3) (row_part cI (s := 1) (k := 0) (m := 1) (fun _ => rfl) (by decide) h3) (idx_ok h4) (row_part cI (s := 1) (k := 0) (m := 1) (fun _ => rfl) (by decide) h4) hc2 (AvLe.of_eq (by rw [h]; try rfl))
      · have h := h.2 (of_decide_eq_false hc2)
        obtain ⟨q19_3, h⟩ := h
        rcases Bool.eq_false_or_eq_true (decide (e2 > (e3 + 1))) with hc3 | hc3
        · have h := h.1 (of_decide_eq_true hc3)
          exact p4_1_1 c cl ws i k  e e1 e2 e3 hE hc0 (idx_ok h1) (row_part cI (s := 1) (k := 0) (m := 1) (fun _ => rfl) (by decide) h1) (idx_ok h2) (row_part cI (s := 1) (k := 0) (m := 1) (fun _ => rfl) (by decide) h2) hc1 (idx_ok h3) (row_part cI (s := 1) (k := 0) (m := 1) (fun _ => rfl) (by decide) h3) (idx_ok h4) (row_part cI (s := 1) (k := 0) (m := 1) (fun _ => rfl) (by decide) h4) hc2 (idx_ok h3) (row_part cI (s := 1) (k := 0) (m := 1) (fun _ => rfl) (by decide) h3) (idx_ok h4) (row_part cI (s := 1) (k := 0) (m := 1) (fun _ => rfl) (by decide) h4) q19_3 hc3 (AvLe.of_eq (by rw [h]; try rfl))
        · have h := h.2 (of_decide_eq_false hc3)
          obtain ⟨q21_4, h⟩ := h
          exact p4_1_2 c cl ws i k  e e1 e2 e3 hE hc0 (idx_ok h1) (row_part cI (s := 1) (k := 0) (m := 1) (fun _ => rfl) (by decide) h1) (idx_ok h2) (row_part cI (s := 1) (k := 0) (m := 1) (fun _ => rfl) (by decide) h2) hc1 (idx_ok h3) (row_part cI (s := 1) (k := 0) (m := 1) (fun _ => rfl) (by decide) h3) (idx_ok h4) (row_part cI (s := 1) (k := 0) (m := 1) (fun _ => rfl) (by decide) h4) hc2 (idx_ok h3) (row_part cI (s := 1) (k := 0) (m := 1) (fun _ => rfl) (by decide) h3) (idx_ok h4) (row_part cI (s := 1) (k := 0) (m := 1) (fun _ => rfl) (by decide) h4) q19_3 hc3 q21_4 h
    · have h := h.2 (ne_of_beq_false hc1)
      obtain ⟨q9_2, h⟩ := h
      exact p4_1_3 c cl ws i k  e e1 hE hc0 (idx_ok h1) (row_part cI (s := 1) (k := 0) (m := 1) (fun _ => rfl) (by decide) h1) (idx_ok h2) (row_part cI (s := 1) (k := 0) (m := 1) (fun _ => rfl) (by decide) h2) hc1 q9_2 h
  · have h := h.2 (of_decide_eq_false hc0)
    obtain ⟨q1_1, h⟩ := h
    exact p4_1_4 c cl ws i k   hE hc0 q1_1 h
theorem p4_2_0 (c : Int) (cl : (List Int)) (ws : (List Int)) (short : Bool) (i : Nat)  (e : Int)  {E : Env} {res : AV} (hE : PureE Try.prog 4 res E) (o0 : (decide (((i : Nat) : Int) < ((((claimsK c cl ws).1).length : Nat) : Int))) = true) (o2 : 0 ≤ ((i : Nat) : Int) ∧ ((i : Nat) : Int) < ((((claimsK c cl ws).1).length : Nat) : Int)) (o3 : ((rowI ((claimsK c cl ws).1)).drop (0 + (Int.toNat ((i : Nat) : Int)) * 1)).take 1 = [.int .i64 e]) (o4 : (decide (e < 0)) = true)
    (hr : AvLe (.bool false) res) : G Try.prog E (f4K2 Try.prog) (f4S2 c cl ws short i ) :=
  end_stepL (n := 400) (evs := [.b true, .ld (.int .i64 e), .b true, .b true, .b true]) (obs := [(decide (((i : Nat) : Int) < ((((claimsK c cl ws).1).length : Nat) : Int))) = true, 0 ≤ ((i : Nat) : Int) ∧ ((i : Nat) : Int) < ((((claimsK c cl ws).1).length : Nat) : Int), ((rowI ((claimsK c cl ws).1)).drop (0 + (Int.toNat ((i : Nat) : Int)) * 1)).take 1 = [.int .i64 e], (decide (e < 0)) = true, true = true, true = true]) hE Try.func4 mixed (by kernel_rfl) ⟨o0, o2, o3, o4, (rfl), (rfl), trivial⟩ hr
theorem p4_2_1 (c : Int) (cl : (List Int)) (ws : (List Int)) (short : Bool) (i : Nat)  (e : Int) (e1 : Int)  {E : Env} {res : AV} (hE : PureE Try.prog 4 res E) (o0 : (decide (((i : Nat) : Int) < ((((claimsK c cl ws).1).length : Nat) : Int))) = true) (o2 : 0 ≤ ((i : Nat) : Int) ∧ ((i : Nat) : Int) < ((((claimsK c cl ws).1).length : Nat) : Int)) (o3 : ((rowI ((claimsK c cl ws).1)).drop (0 + (Int.toNat ((i : Nat) : Int)) * 1)).take 1 = [.int .i64 e]) (o4 : (decide (e < 0)) = false) (o5 : 0 ≤ ((i : Nat) : Int) ∧ ((i : Nat) : Int) < ((((claimsK c cl ws).1).length : Nat) : Int)) (o6 : ((rowI ((claimsK c cl ws).1)).drop (0 + (Int.toNat ((i : Nat) : Int)) * 1)).take 1 = [.int .i64 e]) (o8 : 0 ≤ ((i : Nat) : Int) ∧ ((i : Nat) : Int) < ((cl.length : Nat) : Int)) (o9 : ((rowI cl).drop (0 + (Int.toNat ((i : Nat) : Int)) * 1)).take 1 = [.int .i64 e1]) (o10 : (decide (e > e1)) = true)
    (hr : AvLe (.bool false) res) : G Try.prog E (f4K2 Try.prog) (f4S2 c cl ws short i ) :=
  end_stepL (n := 400) (evs := [.b true, .ld (.int .i64 e), .b false, .ld (.int .i64 e), .ld (.int .i64 e1), .b true, .b true]) (obs := [(decide (((i : Nat) : Int) < ((((claimsK c cl ws).1).length : Nat) : Int))) = true, 0 ≤ ((i : Nat) : Int) ∧ ((i : Nat) : Int) < ((((claimsK c cl ws).1).length : Nat) : Int), ((rowI ((claimsK c cl ws).1)).drop (0 + (Int.toNat ((i : Nat) : Int)) * 1)).take 1 = [.int .i64 e], (decide (e < 0)) = false, 0 ≤ ((i : Nat) : Int) ∧ ((i : Nat) : Int) < ((((claimsK c cl ws).1).length : Nat) : Int), ((rowI ((claimsK c cl ws).1)).drop (0 + (Int.toNat ((i : Nat) : Int)) * 1)).take 1 = [.int .i64 e], 0 ≤ ((i : Nat) : Int) ∧ ((i : Nat) : Int) < ((cl.length : Nat) : Int), ((rowI cl).drop (0 + (Int.toNat ((i : Nat) : Int)) * 1)).take 1 = [.int .i64 e1], (decide (e > e1)) = true, true = true]) hE Try.func4 mixed (by kernel_rfl) ⟨o0, o2, o3, o4, o5, o6, o8, o9, o10, (rfl), trivial⟩ hr
theorem p4_2_2 (c : Int) (cl : (List Int)) (ws : (List Int)) (short : Bool) (i : Nat)  (e : Int) (e1 : Int)  {E : Env} {res : AV} (hE : PureE Try.prog 4 res E) (o0 : (decide (((i : Nat) : Int) < ((((claimsK c cl ws).1).length : Nat) : Int))) = true) (o2 : 0 ≤ ((i : Nat) : Int) ∧ ((i : Nat) : Int) < ((((claimsK c cl ws).1).length : Nat) : Int)) (o3 : ((rowI ((claimsK c cl ws).1)).drop (0 + (Int.toNat ((i : Nat) : Int)) * 1)).take 1 = [.int .i64 e]) (o4 : (decide (e < 0)) = false) (o5 : 0 ≤ ((i : Nat) : Int) ∧ ((i : Nat) : Int) < ((((claimsK c cl ws).1).length : Nat) : Int)) (o6 : ((rowI ((claimsK c cl ws).1)).drop (0 + (Int.toNat ((i : Nat) : Int)) * 1)).take 1 = [.int .i64 e]) (o8 : 0 ≤ ((i : Nat) : Int) ∧ ((i : Nat) : Int) < ((cl.length : Nat) : Int)) (o9 : ((rowI cl).drop (0 + (Int.toNat ((i : Nat) : Int)) * 1)).take 1 = [.int .i64 e1]) (o10 : (decide (e > e1)) = false) (o11 : short = true) (o12 : 0 ≤ ((i : Nat) : Int) ∧ ((i : Nat) : Int) < ((((claimsK c cl ws).1).length : Nat) : Int)) (o13 : ((rowI ((claimsK c cl ws).1)).drop (0 + (Int.toNat ((i : Nat) : Int)) * 1)).take 1 = [.int .i64 e]) (o14 : (decide (e > 0)) = true)
    (hr : AvLe (.bool false) res) : G Try.prog E (f4K2 Try.prog) (f4S2 c cl ws short i ) :=
  end_stepL (n := 400) (evs := [.b true, .ld (.int .i64 e), .b false, .ld (.int .i64 e), .ld (.int .i64 e1), .b false, .b true, .ld (.int .i64 e), .b true]) (obs := [(decide (((i : Nat) : Int) < ((((claimsK c cl ws).1).length : Nat) : Int))) = true, 0 ≤ ((i : Nat) : Int) ∧ ((i : Nat) : Int) < ((((claimsK c cl ws).1).length : Nat) : Int), ((rowI ((claimsK c cl ws).1)).drop (0 + (Int.toNat ((i : Nat) : Int)) * 1)).take 1 = [.int .i64 e], (decide (e < 0)) = false, 0 ≤ ((i : Nat) : Int) ∧ ((i : Nat) : Int) < ((((claimsK c cl ws).1).length : Nat) : Int), ((rowI ((claimsK c cl ws).1)).drop (0 + (Int.toNat ((i : Nat) : Int)) * 1)).take 1 = [.int .i64 e], 0 ≤ ((i : Nat) : Int) ∧ ((i : Nat) : Int) < ((cl.length : Nat) : Int), ((rowI cl).drop (0 + (Int.toNat ((i : Nat) : Int)) * 1)).take 1 = [.int .i64 e1], (decide (e > e1)) = false, short = true, 0 ≤ ((i : Nat) : Int) ∧ ((i : Nat) : Int) < ((((claimsK c cl ws).1).length : Nat) : Int), ((rowI ((claimsK c cl ws).1)).drop (0 + (Int.toNat ((i : Nat) : Int)) * 1)).take 1 = [.int .i64 e], (decide (e > 0)) = true]) hE Try.func4 mixed (by kernel_rfl) ⟨o0, o2, o3, o4, o5, o6, o8, o9, o10, o11, o12, o13, o14, trivial⟩ hr
theorem p4_2_3 (c : Int) (cl : (List Int)) (ws : (List Int)) (short : Bool) (i : Nat)  (e : Int) (e1 : Int)  {E : Env} {rv : AV} (hE : PureE Try.prog 4 rv E) (o0 : (decide (((i : Nat) : Int) < ((((claimsK c cl ws).1).length : Nat) : Int))) = true) (o2 : 0 ≤ ((i : Nat) : Int) ∧ ((i : Nat) : Int) < ((((claimsK c cl ws).1).length : Nat) : Int)) (o3 : ((rowI ((claimsK c cl ws).1)).drop (0 + (Int.toNat ((i : Nat) : Int)) * 1)).take 1 = [.int .i64 e]) (o4 : (decide (e < 0)) = false) (o5 : 0 ≤ ((i : Nat) : Int) ∧ ((i : Nat) : Int) < ((((claimsK c cl ws).1).length : Nat) : Int)) (o6 : ((rowI ((claimsK c cl ws).1)).drop (0 + (Int.toNat ((i : Nat) : Int)) * 1)).take 1 = [.int .i64 e]) (o8 : 0 ≤ ((i : Nat) : Int) ∧ ((i : Nat) : Int) < ((cl.length : Nat) : Int)) (o9 : ((rowI cl).drop (0 + (Int.toNat ((i : Nat) : Int)) * 1)).take 1 = [.int .i64 e1]) (o10 : (decide (e > e1)) = false) (o11 : short = true) (o12 : 0 ≤ ((i : Nat) : Int) ∧ ((i : Nat) : Int) < ((((claimsK c cl ws).1).length : Nat) : Int)) (o13 : ((rowI ((claimsK c cl ws).1)).drop (0 + (Int.toNat ((i : Nat) : Int)) * 1)).take 1 = [.int .i64 e]) (o14 : (decide (e > 0)) = false) (o15 : short = true) (o16 : InR .i64 (((i : Nat) : Int) + 1))
    (hg : G Try.prog E (f4K2 Try.prog) ⟨[.junk, .rsl (rowI cl) 0 cl.length, .junk, .junk, .junk, .junk, .junk, .junk, .junk, .junk, .junk, .junk, .junk, .rsl (rowI ((claimsK c cl ws).1)) 0 (((claimsK c cl ws).1).length), .rsl (rowI ((claimsK c cl ws).2.1)) 0 (((claimsK c cl ws).2.1).length), .bool true, .int .i64 (((i : Nat) : Int) + 1), .junk, .junk, .junk, .junk, .junk, .junk, .junk, .junk, .junk, .junk, .junk, .junk, .junk, .junk, .junk, .junk, .junk, .junk, .junk, .junk, .junk, .junk, .junk, .junk, .junk, .junk, .junk, .junk, .junk, .junk, .junk, .junk, .junk, .junk, .junk, .junk, .junk, .junk, .junk, .junk, .junk, .junk, .junk, .junk, .junk, .junk, .junk, .junk, .junk, .junk, .junk, .junk, .junk, .junk, .junk, .junk, .junk, .junk, .junk, .junk, .junk, .junk, .junk, .junk, .junk, .junk, .junk, .junk, .junk, .junk, .junk, .junk, .junk, .junk, .junk, .junk, .junk, .junk, .junk, .junk, .junk, .junk, .junk, .junk, .junk, .junk, .junk, .junk, .junk, .junk, .junk, .junk, .junk, .junk, .junk, .junk, .junk, .junk, .junk, .junk, .junk, .junk, .junk, .junk, .junk, .junk, .junk, .junk, .junk, .junk, .junk, .junk, .junk, .junk, .junk, .junk, .junk, .junk, .junk, .junk, .junk, .junk, .junk, .junk, .junk, .junk, .junk, .junk, .junk, .junk, .junk, .junk, .junk, .junk, .junk, .junk, .junk, .junk, .junk, .junk, .junk, .junk, .junk, .junk, .junk, .junk, .junk, .junk, .junk, .junk, .junk, .junk, .junk, .junk, .junk, .junk, .junk, .junk, .junk, .junk, .junk, .junk, .junk, .junk, .junk, .junk, .junk, .junk, .junk, .junk, .junk, .junk, .junk, .junk, .junk, .junk, .junk, .junk, .junk, .junk, .junk, .junk, .junk, .junk, .junk, .junk, .junk, .junk, .junk, .junk, .junk, .junk, .junk, .junk, .junk, .junk, .junk], []⟩) : G Try.prog E (f4K2 Try.prog) (f4S2 c cl ws short i ) :=
  segC_step (n := 400) (ds := []) (cs := []) (live := [1, 13, 14, 15, 16]) (m := 0) (evs := [.b true, .ld (.int .i64 e), .b false, .ld (.int .i64 e), .ld (.int .i64 e1), .b false, .b true, .ld (.int .i64 e), .b false, .b true, .stop]) (obs := [(decide (((i : Nat) : Int) < ((((claimsK c cl ws).1).length : Nat) : Int))) = true, 0 ≤ ((i : Nat) : Int) ∧ ((i : Nat) : Int) < ((((claimsK c cl ws).1).length : Nat) : Int), ((rowI ((claimsK c cl ws).1)).drop (0 + (Int.toNat ((i : Nat) : Int)) * 1)).take 1 = [.int .i64 e], (decide (e < 0)) = false, 0 ≤ ((i : Nat) : Int) ∧ ((i : Nat) : Int) < ((((claimsK c cl ws).1).length : Nat) : Int), ((rowI ((claimsK c cl ws).1)).drop (0 + (Int.toNat ((i : Nat) : Int)) * 1)).take 1 = [.int .i64 e], 0 ≤ ((i : Nat) : Int) ∧ ((i : Nat) : Int) < ((cl.length : Nat) : Int), ((rowI cl).drop (0 + (Int.toNat ((i : Nat) : Int)) * 1)).take 1 = [.int .i64 e1], (decide (e > e1)) = false, short = true, 0 ≤ ((i : Nat) : Int) ∧ ((i : Nat) : Int) < ((((claimsK c cl ws).1).length : Nat) : Int), ((rowI ((claimsK c cl ws).1)).drop (0 + (Int.toNat ((i : Nat) : Int)) * 1)).take 1 = [.int .i64 e], (decide (e > 0)) = false, short = true, InR .i64 (((i : Nat) : Int) + 1)]) hE.2.1 (hE.nogh _) mixed (by kernel_rfl) ⟨o0, o2, o3, o4, o5, o6, o8, o9, o10, o11, o12, o13, o14, o15, o16, trivial⟩ hg
theorem p4_2_4 (c : Int) (cl : (List Int)) (ws : (List Int)) (short : Bool) (i : Nat)  (e : Int) (e1 : Int)  {E : Env} {rv : AV} (hE : PureE Try.prog 4 rv E) (o0 : (decide (((i : Nat) : Int) < ((((claimsK c cl ws).1).length : Nat) : Int))) = true) (o2 : 0 ≤ ((i : Nat) : Int) ∧ ((i : Nat) : Int) < ((((claimsK c cl ws).1).length : Nat) : Int)) (o3 : ((rowI ((claimsK c cl ws).1)).drop (0 + (Int.toNat ((i : Nat) : Int)) * 1)).take 1 = [.int .i64 e]) (o4 : (decide (e < 0)) = false) (o5 : 0 ≤ ((i : Nat) : Int) ∧ ((i : Nat) : Int) < ((((claimsK c cl ws).1).length : Nat) : Int)) (o6 : ((rowI ((claimsK c cl ws).1)).drop (0 + (Int.toNat ((i : Nat) : Int)) * 1)).take 1 = [.int .i64 e]) (o8 : 0 ≤ ((i : Nat) : Int) ∧ ((i : Nat) : Int) < ((cl.length : Nat) : Int)) (o9 : ((rowI cl).drop (0 + (Int.toNat ((i : Nat) : Int)) * 1)).take 1 = [.int .i64 e1]) (o10 : (decide (e > e1)) = false) (o11 : short = true) (o12 : 0 ≤ ((i : Nat) : Int) ∧ ((i : Nat) : Int) < ((((claimsK c cl ws).1).length : Nat) : Int)) (o13 : ((rowI ((claimsK c cl ws).1)).drop (0 + (Int.toNat ((i : Nat) : Int)) * 1)).take 1 = [.int .i64 e]) (o14 : (decide (e > 0)) = false) (o15 : short = false) (o16 : 0 ≤ ((i : Nat) : Int) ∧ ((i : Nat) : Int) < ((((claimsK c cl ws).1).length : Nat) : Int)) (o17 : ((rowI ((claimsK c cl ws).1)).drop (0 + (Int.toNat ((i : Nat) : Int)) * 1)).take 1 = [.int .i64 e]) (o18 : 0 ≤ ((i : Nat) : Int) ∧ ((i : Nat) : Int) < ((cl.length : Nat) : Int)) (o19 : ((rowI cl).drop (0 + (Int.toNat ((i : Nat) : Int)) * 1)).take 1 = [.int .i64 e1]) (o20 : InR .i64 (((i : Nat) : Int) + 1))
    (hg : G Try.prog E (f4K2 Try.prog) ⟨[.junk, .rsl (rowI cl) 0 cl.length, .junk, .junk, .junk, .junk, .junk, .junk, .junk, .junk, .junk, .junk, .junk, .rsl (rowI ((claimsK c cl ws).1)) 0 (((claimsK c cl ws).1).length), .rsl (rowI ((claimsK c cl ws).2.1)) 0 (((claimsK c cl ws).2.1).length), .bool (decide (e < e1)), .int .i64 (((i : Nat) : Int) + 1), .junk, .junk, .junk, .junk, .junk, .junk, .junk, .junk, .junk, .junk, .junk, .junk, .junk, .junk, .junk, .junk, .junk, .junk, .junk, .junk, .junk, .junk, .junk, .junk, .junk, .junk, .junk, .junk, .junk, .junk, .junk, .junk, .junk, .junk, .junk, .junk, .junk, .junk, .junk, .junk, .junk, .junk, .junk, .junk, .junk, .junk, .junk, .junk, .junk, .junk, .junk, .junk, .junk, .junk, .junk, .junk, .junk, .junk, .junk, .junk, .junk, .junk, .junk, .junk, .junk, .junk, .junk, .junk, .junk, .junk, .junk, .junk, .junk, .junk, .junk, .junk, .junk, .junk, .junk, .junk, .junk, .junk, .junk, .junk, .junk, .junk, .junk, .junk, .junk, .junk, .junk, .junk, .junk, .junk, .junk, .junk, .junk, .junk, .junk, .junk, .junk, .junk, .junk, .junk, .junk, .junk, .junk, .junk, .junk, .junk, .junk, .junk, .junk, .junk, .junk, .junk, .junk, .junk, .junk, .junk, .junk, .junk, .junk, .junk, .junk, .junk, .junk, .junk, .junk, .junk, .junk, .junk, .junk, .junk, .junk, .junk, .junk, .junk, .junk, .junk, .junk, .junk, .junk, .junk, .junk, .junk, .junk, .junk, .junk, .junk, .junk, .junk, .junk, .junk, .junk, .junk, .junk, .junk, .junk, .junk, .junk, .junk, .junk, .junk, .junk, .junk, .junk, .junk, .junk, .junk, .junk, .junk, .junk, .junk, .junk, .junk, .junk, .junk, .junk, .junk, .junk, .junk, .junk, .junk, .junk, .junk, .junk, .junk, .junk, .junk, .junk, .junk, .junk, .junk, .junk, .junk, .junk], []⟩) : G Try.prog E (f4K2 Try.prog) (f4S2 c cl ws short i ) :=
  segC_step (n := 400) (ds := []) (cs := []) (live := [1, 13, 14, 15, 16]) (m := 0) (evs := [.b true, .ld (.int .i64 e), .b false, .ld (.int .i64 e), .ld (.int .i64 e1), .b false, .b true, .ld (.int .i64 e), .b false, .b false, .ld (.int .i64 e), .ld (.int .i64 e1), .stop]) (obs := [(decide (((i : Nat) : Int) < ((((claimsK c cl ws).1).length : Nat) : Int))) = true, 0 ≤ ((i : Nat) : Int) ∧ ((i : Nat) : Int) < ((((claimsK c cl ws).1).length : Nat) : Int), ((rowI ((claimsK c cl ws).1)).drop (0 + (Int.toNat ((i : Nat) : Int)) * 1)).take 1 = [.int .i64 e], (decide (e < 0)) = false, 0 ≤ ((i : Nat) : Int) ∧ ((i : Nat) : Int) < ((((claimsK c cl ws).1).length : Nat) : Int), ((rowI ((claimsK c cl ws).1)).drop (0 + (Int.toNat ((i : Nat) : Int)) * 1)).take 1 = [.int .i64 e], 0 ≤ ((i : Nat) : Int) ∧ ((i : Nat) : Int) < ((cl.length : Nat) : Int), ((rowI cl).drop (0 + (Int.toNat ((i : Nat) : Int)) * 1)).take 1 = [.int .i64 e1], (decide (e > e1)) = false, short = true, 0 ≤ ((i : Nat) : Int) ∧ ((i : Nat) : Int) < ((((claimsK c cl ws).1).length : Nat) : Int), ((rowI ((claimsK c cl ws).1)).drop (0 + (Int.toNat ((i : Nat) : Int)) * 1)).take 1 = [.int .i64 e], (decide (e > 0)) = false, short = false, 0 ≤ ((i : Nat) : Int) ∧ ((i : Nat) : Int) < ((((claimsK c cl ws).1).length : Nat) : Int), ((rowI ((claimsK c cl ws).1)).drop (0 + (Int.toNat ((i : Nat) : Int)) * 1)).take 1 = [.int .i64 e], 0 ≤ ((i : Nat) : Int) ∧ ((i : Nat) : Int) < ((cl.length : Nat) : Int), ((rowI cl).drop (0 + (Int.toNat ((i : Nat) : Int)) * 1)).take 1 = [.int .i64 e1], InR .i64 (((i : Nat) : Int) + 1)]) hE.2.1 (hE.nogh _) mixed (by kernel_rfl) ⟨o0, o2, o3, o4, o5, o6, o8, o9, o10, o11, o12, o13, o14, o15, o16, o17, o18, o19, o20, trivial⟩ hg
theorem p4_2_5 (c : Int) (cl : (List Int)) (ws : (List Int)) (short : Bool) (i : Nat)  (e : Int) (e1 : Int)  {E : Env} {rv : AV} (hE : PureE Try.prog 4 rv E) (o0 : (decide (((i : Nat) : Int) < ((((claimsK c cl ws).1).length : Nat) : Int))) = true) (o2 : 0 ≤ ((i : Nat) : Int) ∧ ((i : Nat) : Int) < ((((claimsK c cl ws).1).length : Nat) : Int)) (o3 : ((rowI ((claimsK c cl ws).1)).drop (0 + (Int.toNat ((i : Nat) : Int)) * 1)).take 1 = [.int .i64 e]) (o4 : (decide (e < 0)) = false) (o5 : 0 ≤ ((i : Nat) : Int) ∧ ((i : Nat) : Int) < ((((claimsK c cl ws).1).length : Nat) : Int)) (o6 : ((rowI ((claimsK c cl ws).1)).drop (0 + (Int.toNat ((i : Nat) : Int)) * 1)).take 1 = [.int .i64 e]) (o8 : 0 ≤ ((i : Nat) : Int) ∧ ((i : Nat) : Int) < ((cl.length : Nat) : Int)) (o9 : ((rowI cl).drop (0 + (Int.toNat ((i : Nat) : Int)) * 1)).take 1 = [.int .i64 e1]) (o10 : (decide (e > e1)) = false) (o11 : short = false) (o13 : short = true) (o14 : InR .i64 (((i : Nat) : Int) + 1))
    (hg : G Try.prog E (f4K2 Try.prog) ⟨[.junk, .rsl (rowI cl) 0 cl.length, .junk, .junk, .junk, .junk, .junk, .junk, .junk, .junk, .junk, .junk, .junk, .rsl (rowI ((claimsK c cl ws).1)) 0 (((claimsK c cl ws).1).length), .rsl (rowI ((claimsK c cl ws).2.1)) 0 (((claimsK c cl ws).2.1).length), .bool true, .int .i64 (((i : Nat) : Int) + 1), .junk, .junk, .junk, .junk, .junk, .junk, .junk, .junk, .junk, .junk, .junk, .junk, .junk, .junk, .junk, .junk, .junk, .junk, .junk, .junk, .junk, .junk, .junk, .junk, .junk, .junk, .junk, .junk, .junk, .junk, .junk, .junk, .junk, .junk, .junk, .junk, .junk, .junk, .junk, .junk, .junk, .junk, .junk, .junk, .junk, .junk, .junk, .junk, .junk, .junk, .junk, .junk, .junk, .junk, .junk, .junk, .junk, .junk, .junk, .junk, .junk, .junk, .junk, .junk, .junk, .junk, .junk, .junk, .junk, .junk, .junk, .junk, .junk, .junk, .junk, .junk, .junk, .junk, .junk, .junk, .junk, .junk, .junk, .junk, .junk, .junk, .junk, .junk, .junk, .junk, .junk, .junk, .junk, .junk, .junk, .junk, .junk, .junk, .junk, .junk, .junk, .junk, .junk, .junk, .junk, .junk, .junk, .junk, .junk, .junk, .junk, .junk, .junk, .junk, .junk, .junk, .junk, .junk, .junk, .junk, .junk, .junk, .junk, .junk, .junk, .junk, .junk, .junk, .junk, .junk, .junk, .junk, .junk, .junk, .junk, .junk, .junk, .junk, .junk, .junk, .junk, .junk, .junk, .junk, .junk, .junk, .junk, .junk, .junk, .junk, .junk, .junk, .junk, .junk, .junk, .junk, .junk, .junk, .junk, .junk, .junk, .junk, .junk, .junk, .junk, .junk, .junk, .junk, .junk, .junk, .junk, .junk, .junk, .junk, .junk, .junk, .junk, .junk, .junk, .junk, .junk, .junk, .junk, .junk, .junk, .junk, .junk, .junk, .junk, .junk, .junk, .junk, .junk, .junk, .junk, .junk, .junk], []⟩) : G Try.prog E (f4K2 Try.prog) (f4S2 c cl ws short i ) :=
  segC_step (n := 400) (ds := []) (cs := []) (live := [1, 13, 14, 15, 16]) (m := 0) (evs := [.b true, .ld (.int .i64 e), .b false, .ld (.int .i64 e), .ld (.int .i64 e1), .b false, .b false, .b false, .b true, .stop]) (obs := [(decide (((i : Nat) : Int) < ((((claimsK c cl ws).1).length : Nat) : Int))) = true, 0 ≤ ((i : Nat) : Int) ∧ ((i : Nat) : Int) < ((((claimsK c cl ws).1).length : Nat) : Int), ((rowI ((claimsK c cl ws).1)).drop (0 + (Int.toNat ((i : Nat) : Int)) * 1)).take 1 = [.int .i64 e], (decide (e < 0)) = false, 0 ≤ ((i : Nat) : Int) ∧ ((i : Nat) : Int) < ((((claimsK c cl ws).1).length : Nat) : Int), ((rowI ((claimsK c cl ws).1)).drop (0 + (Int.toNat ((i : Nat) : Int)) * 1)).take 1 = [.int .i64 e], 0 ≤ ((i : Nat) : Int) ∧ ((i : Nat) : Int) < ((cl.length : Nat) : Int), ((rowI cl).drop (0 + (Int.toNat ((i : Nat) : Int)) * 1)).take 1 = [.int .i64 e1], (decide (e > e1)) = false, short = false, false = false, short = true, InR .i64 (((i : Nat) : Int) + 1)]) hE.2.1 (hE.nogh _) mixed (by kernel_rfl) ⟨o0, o2, o3, o4, o5, o6, o8, o9, o10, o11, (rfl), o13, o14, trivial⟩ hg
theorem p4_2_6 (c : Int) (cl : (List Int)) (ws : (List Int)) (short : Bool) (i : Nat)  (e : Int) (e1 : Int)  {E : Env} {rv : AV} (hE : PureE Try.prog 4 rv E) (o0 : (decide (((i : Nat) : Int) < ((((claimsK c cl ws).1).length : Nat) : Int))) = true) (o2 : 0 ≤ ((i : Nat) : Int) ∧ ((i : Nat) : Int) < ((((claimsK c cl ws).1).length : Nat) : Int)) (o3 : ((rowI ((claimsK c cl ws).1)).drop (0 + (Int.toNat ((i : Nat) : Int)) * 1)).take 1 = [.int .i64 e]) (o4 : (decide (e < 0)) = false) (o5 : 0 ≤ ((i : Nat) : Int) ∧ ((i : Nat) : Int) < ((((claimsK c cl ws).1).length : Nat) : Int)) (o6 : ((rowI ((claimsK c cl ws).1)).drop (0 + (Int.toNat ((i : Nat) : Int)) * 1)).take 1 = [.int .i64 e]) (o8 : 0 ≤ ((i : Nat) : Int) ∧ ((i : Nat) : Int) < ((cl.length : Nat) : Int)) (o9 : ((rowI cl).drop (0 + (Int.toNat ((i : Nat) : Int)) * 1)).take 1 = [.int .i64 e1]) (o10 : (decide (e > e1)) = false) (o11 : short = false) (o13 : short = false) (o14 : 0 ≤ ((i : Nat) : Int) ∧ ((i : Nat) : Int) < ((((claimsK c cl ws).1).length : Nat) : Int)) (o15 : ((rowI ((claimsK c cl ws).1)).drop (0 + (Int.toNat ((i : Nat) : Int)) * 1)).take 1 = [.int .i64 e]) (o16 : 0 ≤ ((i : Nat) : Int) ∧ ((i : Nat) : Int) < ((cl.length : Nat) : Int)) (o17 : ((rowI cl).drop (0 + (Int.toNat ((i : Nat) : Int)) * 1)).take 1 = [.int .i64 e1]) (o18 : InR .i64 (((i : Nat) : Int) + 1))
    (hg : G Try.prog E (f4K2 Try.prog) ⟨[.junk, .rsl (rowI cl) 0 cl.length, .junk, .junk, .junk, .junk, .junk, .junk, .junk, .junk, .junk, .junk, .junk, .rsl (rowI ((claimsK c cl ws).1)) 0 (((claimsK c cl ws).1).length), .rsl (rowI ((claimsK c cl ws).2.1)) 0 (((claimsK c cl ws).2.1).length), .bool (decide (e < e1)), .int .i64 (((i : Nat) : Int) + 1), .junk, .junk, .junk, .junk, .junk, .junk, .junk, .junk, .junk, .junk, .junk, .junk, .junk, .junk, .junk, .junk, .junk, .junk, .junk, .junk, .junk, .junk, .junk, .junk, .junk, .junk, .junk, .junk, .junk, .junk, .junk, .junk, .junk, .junk, .junk, .junk, .junk, .junk, .junk, .junk, .junk, .junk, .junk, .junk, .junk, .junk, .junk, .junk, .junk, .junk, .junk, .junk, .junk, .junk, .junk, .junk, .junk, .junk, .junk, .junk, .junk, .junk, .junk, .junk, .junk, .junk, .junk, .junk, .junk, .junk, .junk, .junk, .junk, .junk, .junk, .junk, .junk, .junk, .junk, .junk, .junk, .junk, .junk, .junk, .junk, .junk, .junk, .junk, .junk, .junk, .junk, .junk, .junk, .junk, .junk, .junk, .junk, .junk, .junk, .junk, .junk, .junk, .junk, .junk, .junk, .junk, .junk, .junk, .junk, .junk, .junk, .junk, .junk, .junk, .junk, .junk, .junk, .junk, .junk, .junk, .junk, .junk, .junk, .junk, .junk, .junk, .junk, .junk, .junk, .junk, .junk, .junk, .junk, .junk, .junk, .junk, .junk, .junk, .junk, .junk, .junk, .junk, .junk, .junk, .junk, .junk, .junk, .junk, .junk, .junk, .junk, .junk, .junk, .junk, .junk, .junk, .junk, .junk, .junk, .junk, .junk, .junk, .junk, .junk, .junk, .junk, .junk, .junk, .junk, .junk, .junk, .junk, .junk, .junk, .junk, .junk, .junk, .junk, .junk, .junk, .junk, .junk, .junk, .junk, .junk, .junk, .junk, .junk, .junk, .junk, .junk, .junk, .junk, .junk, .junk, .junk, .junk], []⟩) : G Try.prog E (f4K2 Try.prog) (f4S2 c cl ws short i ) :=
  segC_step (n := 400) (ds := []) (cs := []) (live := [1, 13, 14, 15, 16]) (m := 0) (evs := [.b true, .ld (.int .i64 e), .b false, .ld (.int .i64 e), .ld (.int .i64 e1), .b false, .b false, .b false, .b false, .ld (.int .i64 e), .ld (.int .i64 e1), .stop]) (obs := [(decide (((i : Nat) : Int) < ((((claimsK c cl ws).1).length : Nat) : Int))) = true, 0 ≤ ((i : Nat) : Int) ∧ ((i : Nat) : Int) < ((((claimsK c cl ws).1).length : Nat) : Int), ((rowI ((claimsK c cl ws).1)).drop (0 + (Int.toNat ((i : Nat) : Int)) * 1)).take 1 = [.int .i64 e], (decide (e < 0)) = false, 0 ≤ ((i : Nat) : Int) ∧ ((i : Nat) : Int) < ((((claimsK c cl ws).1).length : Nat) : Int), ((rowI ((claimsK c cl ws).1)).drop (0 + (Int.toNat ((i : Nat) : Int)) * 1)).take 1 = [.int .i64 e], 0 ≤ ((i : Nat) : Int) ∧ ((i : Nat) : Int) < ((cl.length : Nat) : Int), ((rowI cl).drop (0 + (Int.toNat ((i : Nat) : Int)) * 1)).take 1 = [.int .i64 e1], (decide (e > e1)) = false, short = false, false = false, short = false, 0 ≤ ((i : Nat) : Int) ∧ ((i : Nat) : Int) < ((((claimsK c cl ws).1).length : Nat) : Int), ((rowI ((claimsK c cl ws).1)).drop (0 + (Int.toNat ((i : Nat) : Int)) * 1)).take 1 = [.int .i64 e], 0 ≤ ((i : Nat) : Int) ∧ ((i : Nat) : Int) < ((cl.length : Nat) : Int), ((rowI cl).drop (0 + (Int.toNat ((i : Nat) : Int)) * 1)).take 1 = [.int .i64 e1], InR .i64 (((i : Nat) : Int) + 1)]) hE.2.1 (hE.nogh _) mixed (by kernel_rfl) ⟨o0, o2, o3, o4, o5, o6, o8, o9, o10, o11, (rfl), o13, o14, o15, o16, o17, o18, trivial⟩ hg
theorem p4_2_7 (c : Int) (cl : (List Int)) (ws : (List Int)) (short : Bool) (i : Nat)   {E : Env} {res : AV} (hE : PureE Try.prog 4 res E) (o0 : (decide (((i : Nat) : Int) < ((((claimsK c cl ws).1).length : Nat) : Int))) = false) (o1 : (!short) = true) (o3 : PureF Try.prog (.clos 20 [] []) [] (.bool true))
    (hr : AvLe (.bool true) res) : G Try.prog E (f4K2 Try.prog) (f4S2 c cl ws short i ) :=
  end_stepL (n := 400) (evs := [.b false, .b true, .b true, .v (.bool true)]) (obs := [(decide (((i : Nat) : Int) < ((((claimsK c cl ws).1).length : Nat) : Int))) = false, (!short) = true, true = true, PureF Try.prog (.clos 20 [] []) [] (.bool true)]) hE Try.func4 mixed (by kernel_rfl) ⟨o0, o1, (rfl), o3, trivial⟩ hr
theorem p4_2_8 (c : Int) (cl : (List Int)) (ws : (List Int)) (short : Bool) (i : Nat)   {E : Env} {res : AV} (hE : PureE Try.prog 4 res E) (o0 : (decide (((i : Nat) : Int) < ((((claimsK c cl ws).1).length : Nat) : Int))) = false) (o1 : (!short) = false) (o2 : PureF Try.prog (.clos 21 [] []) [.rsl (rowI ((claimsK c cl ws).2.1)) 0 (((claimsK c cl ws).2.1).length)] (.int .i64 (sumI ((claimsK c cl ws).2.1)))) (o3 : ((sumI ((claimsK c cl ws).2.1)) == 0) = true) (o4 : PureF Try.prog (.clos 20 [] []) [] (.bool true))
    (hr : AvLe (.bool true) res) : G Try.prog E (f4K2 Try.prog) (f4S2 c cl ws short i ) :=
  end_stepL (n := 400) (evs := [.b false, .b false, .v (.int .i64 (sumI ((claimsK c cl ws).2.1))), .b true, .v (.bool true)]) (obs := [(decide (((i : Nat) : Int) < ((((claimsK c cl ws).1).length : Nat) : Int))) = false, (!short) = false, PureF Try.prog (.clos 21 [] []) [.rsl (rowI ((claimsK c cl ws).2.1)) 0 (((claimsK c cl ws).2.1).length)] (.int .i64 (sumI ((claimsK c cl ws).2.1))), ((sumI ((claimsK c cl ws).2.1)) == 0) = true, PureF Try.prog (.clos 20 [] []) [] (.bool true)]) hE Try.func4 mixed (by kernel_rfl) ⟨o0, o1, o2, o3, o4, trivial⟩ hr
theorem p4_2_9 (c : Int) (cl : (List Int)) (ws : (List Int)) (short : Bool) (i : Nat)   {E : Env} {res : AV} (hE : PureE Try.prog 4 res E) (o0 : (decide (((i : Nat) : Int) < ((((claimsK c cl ws).1).length : Nat) : Int))) = false) (o1 : (!short) = false) (o2 : PureF Try.prog (.clos 21 [] []) [.rsl (rowI ((claimsK c cl ws).2.1)) 0 (((claimsK c cl ws).2.1).length)] (.int .i64 (sumI ((claimsK c cl ws).2.1)))) (o3 : ((sumI ((claimsK c cl ws).2.1)) == 0) = false)
    (hr : AvLe (.bool false) res) : G Try.prog E (f4K2 Try.prog) (f4S2 c cl ws short i ) :=
  end_stepL (n := 400) (evs := [.b false, .b false, .v (.int .i64 (sumI ((claimsK c cl ws).2.1))), .b false]) (obs := [(decide (((i : Nat) : Int) < ((((claimsK c cl ws).1).length : Nat) : Int))) = false, (!short) = false, PureF Try.prog (.clos 21 [] []) [.rsl (rowI ((claimsK c cl ws).2.1)) 0 (((claimsK c cl ws).2.1).length)] (.int .i64 (sumI ((claimsK c cl ws).2.1))), ((sumI ((claimsK c cl ws).2.1)) == 0) = false]) hE Try.func4 mixed (by kernel_rfl) ⟨o0, o1, o2, o3, trivial⟩ hr
theorem f4W2 (c : Int) (cl : (List Int)) (ws : (List Int)) (short : Bool) (i : Nat) {E : Env} {rv : Bool} (hE : PureE Try.prog 4 (.bool rv) E)
    (h : ((((i : Nat) : Int) < ((((claimsK c cl ws).1).length : Nat) : Int) → (∃ e : Int, ((claimsK c cl ws).1)[i]? = some e ∧ ((e < 0 → rv = false) ∧ (¬ (e < 0) → (∃ e1 : Int, cl[i]? = some e1 ∧ ((e > e1 → rv = false) ∧ (¬ (e > e1) → ((short = true → ((e > 0 → rv = false) ∧ (¬ (e > 0) → ((short = true → ((-9223372036854775808 ≤ ((i : Nat) : Int) + 1 ∧ ((i : Nat) : Int) + 1 ≤ 9223372036854775807) ∧ f4G2 E c cl ws true (i + 1))) ∧ (short = false → ((-9223372036854775808 ≤ ((i : Nat) : Int) + 1 ∧ ((i : Nat) : Int) + 1 ≤ 9223372036854775807) ∧ f4G2 E c cl ws (decide (e < e1)) (i + 1))))))) ∧ (short = false → ((short = true → ((-9223372036854775808 ≤ ((i : Nat) : Int) + 1 ∧ ((i : Nat) : Int) + 1 ≤ 9223372036854775807) ∧ f4G2 E c cl ws true (i + 1))) ∧ (short = false → ((-9223372036854775808 ≤ ((i : Nat) : Int) + 1 ∧ ((i : Nat) : Int) + 1 ≤ 9223372036854775807) ∧ f4G2 E c cl ws (decide (e < e1)) (i + 1))))))))))))) ∧ (¬ (((i : Nat) : Int) < ((((claimsK c cl ws).1).length : Nat) : Int)) → ((short = false → rv = true) ∧ (short = true → ((SumOk ((claimsK c cl ws).2.1)) ∧ (((sumI ((claimsK c cl ws).2.1)) = 0 → rv = true) ∧ (¬ ((sumI ((claimsK c cl ws).2.1)) = 0) → rv = false)))))))) : f4G2 E c cl ws short i := by
  rcases Bool.eq_false_or_eq_true (decide (((i : Nat) : Int) < ((((claimsK c cl ws).1).length : Nat) : Int))) with hc0 | hc0
  · have h := h.1 (of_decide_eq_true hc0)
    obtain ⟨e, h1, h⟩ := h
    rcases Bool.eq_false_or_eq_true (decide (e < 0)) with hc1 | hc1
    · have h := h.1 (of_decide_eq_true hc1)
      exact p4_2_0 c cl ws short i  e hE hc0 (idx_ok h1) (row_part cI (s := 1) (k := 0) (m := 1) (fun _ => rfl) (by decide) h1) hc1 (AvLe.of_eq (by rw [h]; try rfl))
    · have h := h.2 (of_decide_eq_false hc1)
      obtain ⟨e1, h2, h⟩ := h
      rcases Bool.eq_false_or_eq_true (decide (e > e1)) with hc2 | hc2
      · have h := h.1 (of_decide_eq_true hc2)
        exact p4_2_1 c cl ws short i  e e1 hE hc0 (idx_ok h1) (row_part cI (s := 1) (k := 0) (m := 1) (fun _ => rfl) (by decide) h1) hc1 (idx_ok h1) (row_part cI (s := 1) (k := 0) (m := 1) (fun _ => rfl) (by decide) h1) (idx_ok h2) (row_part cI (s := 1) (k := 0) (m := 1) (fun _ => rfl) (by decide) h2) hc2 (AvLe.of_eq (by rw [h]; try rfl))
      · have h := h.2 (of_decide_eq_false hc2)
        rcases Bool.eq_false_or_eq_true short with hc3 | hc3
        · have h := h.1 hc3
          rcases Bool.eq_false_or_eq_true (decide (e > 0)) with hc4 | hc4
          · have h := h.1 (of_decide_eq_true hc4)
            exact p4_2_2 c cl ws short i  e e1 hE hc0 (idx_ok h1) (row_part cI (s := 1) (k := 0) (m := 1) (fun _ => rfl) (by decide) h1) hc1 (idx_ok h1) (row_part cI (s := 1) (k := 0) (m := 1) (fun _ => rfl) (by decide) h1) (idx_ok h2) (row_part cI (s := 1) (k := 0) (m := 1) (fun _ => rfl) (by decide) h2) hc2 hc3 (idx_ok h1) (row_part cI (s := 1) (k := 0) (m := 1) (fun _ => rfl) (by decide) h1) hc4 (AvLe.of_eq (by rw [h]; try rfl))
          · have h := h.2 (of_decide_eq_false hc4)
            rcases Bool.eq_false_or_eq_true short with hc5 | hc5
            · have h := h.1 hc5
              obtain ⟨q16_6, h⟩ := h
              exact p4_2_3 c cl ws short i  e e1 hE hc0 (idx_ok h1) (row_part cI (s := 1) (k := 0) (m := 1) (fun _ => rfl) (by decide) h1) hc1 (idx_ok h1) (row_part cI (s := 1) (k := 0) (m := 1) (fun _ => rfl) (by decide) h1) (idx_ok h2) (row_part cI (s := 1) (k := 0) (m := 1) (fun _ => rfl) (by decide) h2) hc2 hc3 (idx_ok h1) (row_part cI (s := 1) (k := 0) (m := 1) (fun _ => rfl) (by decide) h1) hc4 hc5 q16_6 h
            · have h := h.2 hc5
              obtain ⟨q20_6, h⟩ := h
              exact p4_2_4 c cl ws short i  e e1 hE hc0 (idx_ok h1) (row_part cI (s := 1) (k := 0) (m := 1) (fun _ => rfl) (by decide) h1) hc1 (idx_ok h1) (row_part cI (s := 1) (k := 0) (m := 1) (fun _ => rfl) (by decide) h1) (idx_ok h2) (row_part cI (s := 1) (k := 0) (m := 1) (fun _ => rfl) (by decide) h2) hc2 hc3 (idx_ok h1) (row_part cI (s := 1) (k := 0) (m := 1) (fun _ => rfl) (by decide) h1) hc4 hc5 (idx_ok h1) (row_part cI (s := 1) (k := 0) (m := 1) (fun _ => rfl) (by decide) h1) (idx_ok h2) (row_part cI (s := 1) (k := 0) (m := 1) (fun _ => rfl) (by decide) h2) q20_6 h
        · have h := h.2 hc3
          rcases Bool.eq_false_or_eq_true short with hc4 | hc4
          · have h := h.1 hc4
            obtain ⟨q14_5, h⟩ := h
            exact p4_2_5 c cl ws short i  e e1 hE hc0 (idx_ok h1) (row_part cI (s := 1) (k := 0) (m := 1) (fun _ => rfl) (by decide) h1) hc1 (idx_ok h1) (row_part cI (s := 1) (k := 0) (m := 1) (fun _ => rfl) (by decide) h1) (idx_ok h2) (row_part cI (s := 1) (k := 0) (m := 1) (fun _ => rfl) (by decide) h2) hc2 hc3 hc4 q14_5 h
          · have h := h.2 hc4
            obtain ⟨q18_5, h⟩ := h
            exact p4_2_6 c cl ws short i  e e1 hE hc0 (idx_ok h1) (row_part cI (s := 1) (k := 0) (m := 1) (fun _ => rfl) (by decide) h1) hc1 (idx_ok h1) (row_part cI (s := 1) (k := 0) (m := 1) (fun _ => rfl) (by decide) h1) (idx_ok h2) (row_part cI (s := 1) (k := 0) (m := 1) (fun _ => rfl) (by decide) h2) hc2 hc3 hc4 (idx_ok h1) (row_part cI (s := 1) (k := 0) (m := 1) (fun _ => rfl) (by decide) h1) (idx_ok h2) (row_part cI (s := 1) (k := 0) (m := 1) (fun _ => rfl) (by decide) h2) q18_5 h
  · have h := h.2 (of_decide_eq_false hc0)
    rcases Bool.eq_false_or_eq_true (!short) with hc1 | hc1
    · have h := h.1 (bnT hc1)
      exact p4_2_7 c cl ws short i   hE hc0 hc1 (pureF_of Try.func20 (by kernel_rfl) f20b (works_ok )) (AvLe.of_eq (by rw [h]; try rfl))
    · have h := h.2 (bnF hc1)
      obtain ⟨h1, h⟩ := h
      rcases Bool.eq_false_or_eq_true ((sumI ((claimsK c cl ws).2.1)) == 0) with hc2 | hc2
      · have h := h.1 (eq_of_beq hc2)
        exact p4_2_8 c cl ws short i   hE hc0 hc1 (pureF_of Try.func21 (by kernel_rfl) f21b (sumR_ok ((claimsK c cl ws).2.1) h1)) hc2 (pureF_of Try.func20 (by kernel_rfl) f20b (works_ok )) (AvLe.of_eq (by rw [h]; try rfl))
      · have h := h.2 (ne_of_beq_false hc2)
        exact p4_2_9 c cl ws short i   hE hc0 hc1 (pureF_of Try.func21 (by kernel_rfl) f21b (sumR_ok ((claimsK c cl ws).2.1) h1)) hc2 (AvLe.of_eq (by rw [h]; try rfl))

theorem bumps_get : ∀ {z v : List Int} {i : Nat}, (∀ e ∈ z, 0 ≤ e ∧ e < (v.length : Int)) → z.Nodup → (z.foldl bump v).getD i 0 = v.getD i 0 + if (i : Int) ∈ z then 1 else 0
  | [], v, i, _, _ => by simp
  | e :: z, v, i, h, hn => by
    have he := h e (by simp)
    obtain ⟨n1, n2⟩ := List.nodup_cons.1 hn
    rw [List.foldl_cons, bumps_get (fun x hx => by rw [bump_len]; exact h x (by simp [hx])) n2, bump]
    by_cases q : Int.toNat e = i
    · have q2 : (i : Int) = e := by omega
      rw [if_neg (by rw [q2]; exact n1), if_pos (by rw [q2]; simp), q]
      simp [List.getD, show i < v.length by omega]
    · have q2 : ¬ (i : Int) = e := by omega
      have q3 : ((i : Int) ∈ e :: z) = ((i : Int) ∈ z) := by simp [q2]
      simp only [q3]
      congr 1
      simp [List.getD, List.getElem?_set_ne q]

theorem bumps_sum : ∀ {z v : List Int}, (∀ e ∈ z, 0 ≤ e ∧ e < (v.length : Int)) → (z.foldl bump v).sum = v.sum + z.length
  | [], v, _ => by simp
  | e :: z, v, h => by
    have he := h e (by simp)
    rw [List.foldl_cons, bumps_sum (fun x hx => by rw [bump_len]; exact h x (by simp [hx])), bump, sum_set (by omega)]
    simp only [List.length_cons, Int.natCast_add]; omega

theorem fold_sum {f : Int → Int} {lt : Int → Int → Bool} (n : Nat) (l0 : List Int) (h0 : l0.length = n) : ∀ k, k + 1 ≤ n → (((List.range k).foldl (fun l k => sink lt (k + 1) l) l0).map f).sum = (l0.map f).sum ∧ ((List.range k).foldl (fun l k => sink lt (k + 1) l) l0).length = n
  | 0, _ => ⟨rfl, h0⟩
  | k + 1, h => by
    obtain ⟨i1, i2⟩ := fold_sum (f := f) (lt := lt) n l0 h0 k (by omega)
    rw [List.range_succ, List.foldl_append, List.foldl_cons, List.foldl_nil]
    generalize (List.range k).foldl (fun l k => sink lt (k + 1) l) l0 = l at i1 i2
    refine ⟨?_, by rw [sink_len, i2]⟩
    rw [← i1]
    have e : l = l.take (k + 1) ++ l[k + 1] :: l.drop (k + 1 + 1) := by rw [← List.drop_eq_getElem_cons (by omega), List.take_append_drop]
    obtain ⟨S1, S2, q1, q2, -, -⟩ := sink_spec (lt := lt) (S := l.take (k + 1)) (R := l.drop (k + 1 + 1)) (x := l[k + 1]) (d := k + 1) (by rw [List.length_take]; omega)
    rw [← e] at q2
    rw [q2]
    have e2 : (l.map f).sum = ((l.take (k + 1)).map f).sum + (f l[k + 1] + ((l.drop (k + 1 + 1)).map f).sum) := by
      conv => lhs; rw [e]
      simp only [List.map_append, List.map_cons, List.sum_append, List.sum_cons]
    rw [e2, q1]
    simp only [List.map_append, List.map_cons, List.sum_append, List.sum_cons]
    omega

theorem order_sum {c : Int} {ws : List Int} (h : 1 ≤ ws.length) (f : Int → Int) : ((orderI c ws).map f).sum = ((idxL ws.length).map f).sum := by
  have hl : (idxL ws.length).length = ws.length := by simp [idxL]
  have := (fold_sum (f := f) (lt := ltI c ws (sumI ws)) ws.length (idxL ws.length) hl (ws.length - 1) (by omega)).1
  rw [orderI, sortI]
  show (((List.range ((idxL ws.length).length - 1)).foldl _ (idxL ws.length)).map f).sum = _
  rw [hl]; exact this

theorem idx_map {f : Int → Int} {g : Int → Int} : ∀ (ws : List Int) (n : Nat), (∀ i : Nat, n + i < n + ws.length → f ((n + i : Nat) : Int) = g (ws.getD i 0)) → (((List.range' n ws.length).map fun i : Nat => (i : Int)).map f).sum = (ws.map g).sum
  | [], n, h => by simp
  | w :: ws, n, h => by
    have h0 := h 0 (by simp)
    have := idx_map (f := f) (g := g) ws (n + 1) (fun i hi => by
      have := h (i + 1) (by simp only [List.length_cons]; omega)
      rw [show n + 1 + i = n + (i + 1) by omega]; simpa using this)
    rw [List.length_cons, List.range'_succ]
    simp only [List.map_cons, List.sum_cons]
    rw [this]
    simp only [Nat.add_zero, List.getD_cons_zero] at h0
    rw [h0]

/-- What the parts are. -/
structure Parts (c : Int) (ws : List Int) (p : List Int) : Prop where
  len : p.length = ws.length
  sum : p.sum = c
  low : ∀ (i : Nat) (w x : Int), ws[i]? = some w → p[i]? = some x → x = shareI c (sumI ws) w ∨ (x = shareI c (sumI ws) w + 1 ∧ Int.tmod (c * w) (sumI ws) ≠ 0)
  same : ∀ (k i : Nat) (w x y : Int), k < i → ws[k]? = some w → ws[i]? = some w → p[k]? = some x → p[i]? = some y → y ≤ x ∧ x ≤ y + 1

theorem tmod_bd {c S w : Int} (hS : 0 < S) (hc : 0 ≤ c) (hw : 0 ≤ w) : c * w = S * shareI c S w + Int.tmod (c * w) S ∧ 0 ≤ Int.tmod (c * w) S ∧ Int.tmod (c * w) S < S := by
  have h0 : 0 ≤ c * w := Int.mul_nonneg hc hw
  have h1 := Int.mul_tdiv_add_tmod (c * w) S
  exact ⟨by rw [shareI]; exact h1.symm, Int.tmod_nonneg _ h0, Int.tmod_lt_of_pos _ hS⟩

theorem rem_sum {c S : Int} (hS : 0 < S) (hc : 0 ≤ c) : ∀ {l : List Int}, (∀ w ∈ l, 0 ≤ w) → S * (l.map (shareI c S)).sum + (l.map fun w => Int.tmod (c * w) S).sum = c * l.sum
  | [], _ => by simp
  | w :: l, h => by
    obtain ⟨h1, -, -⟩ := tmod_bd hS hc (h w (by simp))
    have h3 := rem_sum hS hc (l := l) (fun y hy => h y (by simp [hy]))
    simp only [List.map_cons, List.sum_cons, Int.mul_add]
    omega

theorem sum_le_of {f : Int → Int} {B : Int} : ∀ {l : List Int}, (∀ x ∈ l, f x ≤ B) → (l.map f).sum ≤ B * (l.length : Int)
  | [], _ => by simp
  | x :: l, h => by
    have h1 := h x (by simp)
    have h2 := sum_le_of (f := f) (B := B) (l := l) fun y hy => h y (by simp [hy])
    simp only [List.map_cons, List.sum_cons, List.length_cons, Int.natCast_add, Int.mul_add]; omega

theorem parts_of {c : Int} {ws : List Int} (h : SplitOk c ws) : Parts c ws (splitI c ws) := by
  have hS := h.pos
  have hb := base_left h
  obtain ⟨ol, om, op⟩ := order_spec (c := c) h.len1
  have hbl : (baseI c ws).length = ws.length := by simp [baseI]
  generalize hL : Int.toNat (c - sumI (baseI c ws)) = L
  have hLn : L ≤ ws.length := by omega
  have hZ : ∀ e ∈ (orderI c ws).take L, 0 ≤ e ∧ e < ((baseI c ws).length : Int) := fun e he => by
    rw [hbl]; exact (om e).1 (List.mem_of_mem_take he)
  have nd : (orderI c ws).Nodup := op.imp fun hp => fun e => by subst e; exact prec_asymm hp hp
  have ndZ : ((orderI c ws).take L).Nodup := nd.sublist (List.take_sublist ..)
  have hs : splitI c ws = ((orderI c ws).take L).foldl bump (baseI c ws) := by rw [splitI, hL]
  have hg : ∀ i w, ws[i]? = some w → (baseI c ws).getD i 0 = shareI c (sumI ws) w := fun i w hw => by simp [baseI, List.getD, List.getElem?_map, hw]
  have kd : ∀ {i : Nat} {w : Int}, ws[i]? = some w → keyI c ws (sumI ws) i = Int.tmod (c * w) (sumI ws) := fun {i w} hw => by simp [keyI, List.getD, hw]
  have val : ∀ (i : Nat) (w x : Int), ws[i]? = some w → (splitI c ws)[i]? = some x → x = shareI c (sumI ws) w + if (i : Int) ∈ (orderI c ws).take L then 1 else 0 := fun i w x hw hx => by
    have : (splitI c ws).getD i 0 = x := by simp [List.getD, hx]
    rw [← this, hs, bumps_get hZ ndZ, hg i w hw]
  have lS : (sumI ws) * (L : Int) = ((orderI c ws).map (keyI c ws (sumI ws))).sum := by
    rw [order_sum h.len1]
    have e1 : ((idxL ws.length).map (keyI c ws (sumI ws))).sum = (ws.map fun w => Int.tmod (c * w) (sumI ws)).sum := by
      have := idx_map (f := keyI c ws (sumI ws)) (g := fun w => Int.tmod (c * w) (sumI ws)) ws 0 (fun i hi => by
        have hi : ws[i]? = some ws[i] := List.getElem?_eq_getElem (by omega)
        rw [Nat.zero_add, kd hi]; simp [List.getD, hi])
      rw [← this, idxL, List.range_eq_range']
    have e2 := rem_sum hS h.c0 (l := ws) (fun w hw => (h.w w hw).1)
    rw [e1]
    have e3 : (L : Int) = c - (baseI c ws).sum := by rw [← hL]; simp only [sumI] at *; omega
    rw [e3, Int.mul_sub]
    have e4 : sumI ws * c = c * ws.sum := by rw [Int.mul_comm]; rfl
    simp only [baseI]
    omega
  have pos : ∀ (i : Nat) (w : Int), ws[i]? = some w → (i : Int) ∈ (orderI c ws).take L → Int.tmod (c * w) (sumI ws) ≠ 0 := by
    intro i w hw hi h0
    rw [← kd hw] at h0
    obtain ⟨A, B, hAB⟩ := List.append_of_mem hi
    have ho : orderI c ws = A ++ (i : Int) :: (B ++ (orderI c ws).drop L) := by
      conv => lhs; rw [← List.take_append_drop L (orderI c ws), hAB]
      simp
    have hAL : A.length + 1 ≤ L := by
      have : (A ++ (i : Int) :: B).length ≤ L := by rw [← hAB, List.length_take]; omega
      simp at this; omega
    rw [ho] at lS op
    have knn : ∀ x ∈ orderI c ws, 0 ≤ keyI c ws (sumI ws) x ∧ keyI c ws (sumI ws) x ≤ sumI ws - 1 := fun x hx => by
      have hx := (om x).1 hx
      have hj : ws[Int.toNat x]? = some ws[Int.toNat x] := List.getElem?_eq_getElem (by omega)
      have k1 := kd hj
      rw [show ((Int.toNat x : Nat) : Int) = x by omega] at k1
      have := tmod_bd hS h.c0 (h.w _ (List.mem_of_getElem? hj)).1
      rw [k1]; omega
    have s1 : (A.map (keyI c ws (sumI ws))).sum ≤ (sumI ws - 1) * (A.length : Int) := sum_le_of fun x hx => (knn x (by rw [ho]; simp [hx])).2
    rw [List.pairwise_append, List.pairwise_cons] at op
    have s2 : ((B ++ (orderI c ws).drop L).map (keyI c ws (sumI ws))).sum ≤ 0 * ((B ++ (orderI c ws).drop L).length : Int) := sum_le_of fun x hx => by
      have := op.2.1.1 x hx
      rcases this with h1 | h1
      · omega
      · omega
    simp only [List.map_append, List.map_cons, List.sum_append, List.sum_cons] at lS s2
    have s3 : (sumI ws - 1) * (A.length : Int) ≤ sumI ws * (A.length : Int) := Int.mul_le_mul_of_nonneg_right (by omega) (by omega)
    have s4 : sumI ws * ((A.length : Int) + 1) ≤ sumI ws * (L : Int) := Int.mul_le_mul_of_nonneg_left (by omega) (by omega)
    rw [Int.mul_add] at s4
    omega
  refine ⟨splitI_len, ?_, fun i w x hw hx => ?_, fun k i w x y hki hk hi hx hy => ?_⟩
  · rw [hs, bumps_sum hZ, List.length_take, ol]
    simp only [sumI] at *; omega
  · have v := val i w x hw hx
    by_cases q : (i : Int) ∈ (orderI c ws).take L
    · rw [if_pos q] at v; exact .inr ⟨v, pos i w hw q⟩
    · rw [if_neg q] at v; exact .inl (by omega)
  · have v1 := val k w x hk hx
    have v2 := val i w y hi hy
    have imp : (i : Int) ∈ (orderI c ws).take L → (k : Int) ∈ (orderI c ws).take L := fun q => by
      apply Classical.byContradiction; intro nk
      have hk' := (om (k : Int)).2 ⟨by omega, by have := (List.getElem?_eq_some_iff.1 hk).1; omega⟩
      rw [← List.take_append_drop L (orderI c ws)] at hk' op
      rw [List.pairwise_append] at op
      rcases List.mem_append.1 hk' with h1 | h1
      · exact nk h1
      · have := op.2.2 _ q _ h1
        rcases this with h2 | h2
        · rw [kd hk, kd hi] at h2; omega
        · omega
    by_cases q : (i : Int) ∈ (orderI c ws).take L
    · rw [if_pos q] at v2; rw [if_pos (imp q)] at v1; omega
    · rw [if_neg q] at v2
      split at v1 <;> omega

theorem pay_pre : ∀ (l : List Int) (s : List Int × Int), ∃ t, (l.foldl payStep s).1 = s.1 ++ t
  | [], s => ⟨[], by simp⟩
  | x :: l, s => by
    obtain ⟨t, ht⟩ := pay_pre l (payStep s x)
    exact ⟨iMin x s.2 :: t, by rw [List.foldl_cons, ht]; simp [payStep]⟩

def restI (c : Int) (cl : List Int) (i : Nat) : Int := ((cl.take i).foldl payStep ([], c)).2
theorem pay_at {c : Int} {cl : List Int} {i : Nat} {x : Int} (h : cl[i]? = some x) : (payI c cl).1[i]? = some (iMin x (restI c cl i)) ∧ restI c cl (i + 1) = restI c cl i - iMin x (restI c cl i) := by
  have hi := (List.getElem?_eq_some_iff.1 h).1
  have e1 : (cl.take (i + 1)).foldl payStep ([], c) = payStep ((cl.take i).foldl payStep ([], c)) x := by rw [List.take_add_one, h, List.foldl_append]; rfl
  obtain ⟨t, ht⟩ := pay_pre (cl.drop (i + 1)) ((cl.take (i + 1)).foldl payStep ([], c))
  rw [← List.foldl_append, List.take_append_drop, e1] at ht
  have hl : ((cl.take i).foldl payStep ([], c)).1.length = i := by rw [payI_len, List.length_take]; simp; omega
  refine ⟨?_, by rw [restI, e1]; rfl⟩
  rw [payI, ht]
  simp only [payStep, List.append_assoc]
  rw [List.getElem?_append_right (by omega), hl, Nat.sub_self]; rfl

theorem pay_sum : ∀ {cl : List Int} {s : List Int × Int}, (∀ x ∈ cl, 0 ≤ x) → 0 ≤ s.2 → (cl.foldl payStep s).1.sum + (cl.foldl payStep s).2 = s.1.sum + s.2 ∧ 0 ≤ (cl.foldl payStep s).2 ∧ (cl.foldl payStep s).2 ≤ s.2
  | [], s, _, h => ⟨rfl, h, by simp⟩
  | x :: cl, s, hx, h => by
    have h0 := hx x (by simp)
    have hm : 0 ≤ iMin x s.2 ∧ iMin x s.2 ≤ s.2 := by simp only [iMin]; split <;> omega
    obtain ⟨q1, q2, q3⟩ := pay_sum (cl := cl) (s := payStep s x) (fun y hy => hx y (by simp [hy])) (by simp only [payStep]; omega)
    rw [List.foldl_cons]
    simp only [payStep, List.sum_append, List.sum_cons, List.sum_nil] at q1 q3 ⊢
    simp only [payStep] at q2
    refine ⟨by omega, q2, by omega⟩

theorem splitK_zero {c : Int} {ws : List Int} (h : (splitK c ws).2 = 0) : SplitOk c ws ∧ (splitK c ws).1 = splitI c ws := by
  simp only [splitK, claimsK] at *
  split at h
  · cases h
  rename_i h1
  split at h
  · cases h
  split at h
  · cases h
  rename_i h2
  split at h
  · cases h
  rename_i h3
  refine ⟨split_of (within_iff.1 (show amount c = true by simpa using h1)) (by simpa using h3), ?_⟩
  rw [if_neg h1, if_neg (by simp), if_neg h2, if_neg h3]; rfl

theorem claimsK_zero {c : Int} {cl ws : List Int} (h : (claimsK c cl ws).2.2 = 0) : (0 ≤ c ∧ c ≤ 1000000000) ∧ weightedB ws = true ∧ (∀ x ∈ cl, 0 ≤ x ∧ x ≤ 1000000000) ∧ cl.length ≤ 10 ∧ (claimsK c cl ws).1 = (payI c cl).1 ∧ (claimsK c cl ws).2.1 = splitI (payI c cl).2 ws := by
  simp only [claimsK] at *
  split at h
  · cases h
  rename_i h1
  split at h
  · cases h
  rename_i hl
  split at h
  · cases h
  rename_i h2
  split at h
  · cases h
  rename_i h3
  refine ⟨within_iff.1 (show amount c = true by simpa using h1), by simpa using h3, fun x hx => ?_, by omega, ?_⟩
  · have : (cl.any fun x => !amount x) = false := by simpa using h2
    rw [List.any_eq_false] at this
    have := this x hx
    exact within_iff.1 (by simpa [amount] using this)
  · rw [if_neg h1, if_neg hl, if_neg h2, if_neg h3]; exact ⟨rfl, rfl⟩

theorem law4_ok (c : Int) (cl ws : List Int) (h : cl.length ≤ 9223372036854775807) (hw : ws.length ≤ 9223372036854775807) : Pure Try.prog 4 [.int .i64 c, .rsl (rowI cl) 0 cl.length, .rsl (rowI ws) 0 ws.length] (.bool true) := pure_of Try.func4 f4b fun E hE => by
  by_cases hz : (splitK c ws).2 = 0
  case neg => exact f4W c cl ws (rv := true) hE ⟨hw, fun _ => rfl, fun h => absurd h hz⟩
  obtain ⟨ok, e1⟩ := splitK_zero hz
  have P := parts_of ok
  have hS := ok.pos
  have hlen := ok.len
  have hc := And.intro ok.c0 ok.c1
  have bp : ∀ {c : Int}, SplitOk c ws → ∀ x ∈ splitI c ws, 0 ≤ x ∧ x ≤ 1000000000001 := fun {c} ok x hx => by
    obtain ⟨i, hi⟩ := List.getElem?_of_mem hx
    have hi' := (List.getElem?_eq_some_iff.1 hi).1
    have hl := (parts_of ok).len
    have hwi : ws[i]? = some ws[i] := List.getElem?_eq_getElem (by omega)
    have h1 := share_bd ok.pos ok.c0 (ok.w _ (List.mem_of_getElem? hwi)).1
    have h2 := mul_le_of ⟨ok.c0, ok.c1⟩ (ok.w _ (List.mem_of_getElem? hwi))
    rcases (parts_of ok).low i _ _ hwi hi with h3 | h3 <;> omega
  have so : ∀ {c : Int}, SplitOk c ws → SumOk (splitI c ws) := fun {c} ok => sumOk_bd (B := 1000000000001) (by omega) (by omega) (by rw [splitI_len]; omega) (bp ok)
  refine f4W c cl ws (rv := true) hE ⟨hw, fun _ => rfl, fun _ => ⟨sumOk_bd (B := 1000) (by omega) (by omega) (by omega) ok.w, fun h' => absurd (by rw [e1, P.len]) h', fun _ => ⟨by rw [e1]; exact so ok, fun h' => absurd (by rw [e1]; exact P.sum) h', fun _ => ⟨fun h' => by omega, fun _ => ?_⟩⟩⟩⟩
  -- the claims
  have fin : f4G0 E c cl ws ws.length := by
    by_cases hk : (claimsK c cl ws).2.2 = 0
    case neg => exact f4W0 c cl ws ws.length (rv := true) hE ⟨fun h => by rw [e1, splitI_len] at h; omega, fun _ => ⟨⟨h, hw⟩, fun _ => rfl, fun h' => absurd h' hk⟩⟩
    obtain ⟨-, hwt, ha, hcl, k1, k2⟩ := claimsK_zero hk
    have ps := pay_sum (cl := cl) (s := ([], c)) (fun x hx => (ha x hx).1) hc.1
    simp only [List.sum_nil, Int.zero_add] at ps
    have ok2 : SplitOk (payI c cl).2 ws := split_of ⟨ps.2.1, by have := ps.2.2; simp only [payI]; omega⟩ hwt
    have P2 := parts_of ok2
    have pl : (payI c cl).1.length = cl.length := by rw [payI, payI_len]; simp
    have rest : ∀ i, i ≤ cl.length → 0 ≤ restI c cl i := fun i hi => (pay_sum (cl := cl.take i) (s := ([], c)) (fun x hx => (ha x (List.mem_of_mem_take hx)).1) hc.1).2.1
    have pb : ∀ x ∈ (payI c cl).1, 0 ≤ x ∧ x ≤ 1000000000 := fun x hx => by
      obtain ⟨i, hi⟩ := List.getElem?_of_mem hx
      have hi' := (List.getElem?_eq_some_iff.1 hi).1
      have hci : cl[i]? = some cl[i] := List.getElem?_eq_getElem (by omega)
      have h1 := (pay_at (c := c) hci).1
      rw [hi] at h1
      have h2 := ha _ (List.mem_of_getElem? hci)
      have h3 := rest i (by omega)
      have h4 : x = iMin cl[i] (restI c cl i) := Option.some.inj h1
      rw [h4]; simp only [iMin]; split <;> omega
    have so1 : SumOk (payI c cl).1 := sumOk_bd (B := 1000000000) (by omega) (by omega) (by omega) pb
    have sum2 : sumI (payI c cl).1 + sumI (splitI (payI c cl).2 ws) = c := by
      have := P2.sum
      simp only [sumI, payI] at *; omega
    refine f4W0 c cl ws ws.length (rv := true) hE ⟨fun h => by rw [e1, splitI_len] at h; omega, fun _ => ⟨⟨h, hw⟩, fun h' => absurd hk h', fun _ => ⟨fun h' => absurd (by rw [k1, pl]) h', fun _ => ⟨fun h' => absurd (by rw [k2, splitI_len]) h', fun _ => ⟨by rw [k1]; exact so1, by rw [k2]; exact so ok2, by rw [k1, k2, sum2]; omega, fun h' => absurd (by rw [k1, k2, sum2]) h', fun _ => ?_⟩⟩⟩⟩⟩
    have key : ∀ (d i : Nat) (short : Bool), i + d = cl.length → (short = true → restI c cl i = 0) → f4G2 E c cl ws short i := by
      intro d
      induction d with
      | zero =>
        intro i short hd hs
        refine f4W2 c cl ws short i (rv := true) hE ⟨fun h => by rw [k1, pl] at h; omega, fun _ => ⟨fun _ => rfl, fun h1 => ⟨by rw [k2]; exact so ok2, fun _ => rfl, fun h2 => absurd ?_ h2⟩⟩⟩
        have h3 := hs h1
        rw [restI, List.take_of_length_le (by omega)] at h3
        have := P2.sum
        rw [k2]; simp only [sumI, payI] at *; omega
      | succ d ih =>
        intro i short hd hs
        have hci : cl[i]? = some cl[i] := List.getElem?_eq_getElem (by omega)
        obtain ⟨a1, a2⟩ := pay_at (c := c) hci
        have b1 := ha _ (List.mem_of_getElem? hci)
        have b2 := rest i (by omega)
        rw [← k1] at a1
        have hm : iMin cl[i] (restI c cl i) = if cl[i] ≤ restI c cl i then cl[i] else restI c cl i := by simp only [iMin]; try (split <;> split <;> omega)
        have nx : ∀ s : Bool, (s = true → restI c cl (i + 1) = 0) → f4G2 E c cl ws s (i + 1) := fun s hs => ih (i + 1) s (by omega) hs
        refine f4W2 c cl ws short i (rv := true) hE ⟨fun _ => ⟨_, a1, fun h1 => ?_, fun _ => ⟨_, hci, fun h1 => ?_, fun _ => ⟨fun h1 => ⟨fun h2 => ?_, fun _ => ⟨fun _ => ⟨by omega, nx true fun _ => ?_⟩, fun h2 => (by rw [h1] at h2; cases h2)⟩⟩, fun h1 => ⟨fun h2 => (by rw [h1] at h2; cases h2), fun _ => ⟨by omega, nx _ fun h2 => ?_⟩⟩⟩⟩⟩, fun h => by rw [k1, pl] at h; omega⟩
        · exfalso; rw [hm] at h1; split at h1 <;> omega
        · exfalso; rw [hm] at h1; split at h1 <;> omega
        · exfalso; rw [hm] at h2; have := hs h1; split at h2 <;> omega
        · have := hs h1; rw [a2, hm]; split <;> omega
        · rw [decide_eq_true_eq, hm] at h2; rw [a2, hm]; split at h2
          · omega
          · rename_i q; rw [if_neg q]; omega
    exact key cl.length 0 false (by omega) (fun h => by cases h)
  -- the parts
  have parts : ∀ (d i : Nat), i + d = ws.length → f4G0 E c cl ws i := by
    intro d
    induction d with
    | zero => intro i hd; rw [show i = ws.length by omega]; exact fin
    | succ d ih =>
      intro i hd
      have hi : ws[i]? = some ws[i] := List.getElem?_eq_getElem (by omega)
      have hpl : i < (splitI c ws).length := by rw [splitI_len]; omega
      have hp : (splitI c ws)[i]? = some (splitI c ws)[i] := List.getElem?_eq_getElem (by rw [splitI_len]; omega)
      have hwi := ok.w _ (List.mem_of_getElem? hi)
      have b1 := mul_le_of hc hwi
      have b2 := share_bd hS hc.1 hwi.1
      have lo := P.low i _ _ hi hp
      rw [show shareI c (sumI ws) ws[i] = Int.tdiv (c * ws[i]) (sumI ws) from rfl] at lo b2
      have pairs : ∀ (d k : Nat), k + d = i → f4G1 E c cl ws i k := by
        intro d
        induction d with
        | zero => intro k hd; exact f4W1 c cl ws i k (rv := true) hE ⟨fun h => by omega, fun _ => ⟨by omega, ih (i + 1) (by omega)⟩⟩
        | succ d ih2 =>
          intro k hd
          have hk : ws[k]? = some ws[k] := List.getElem?_eq_getElem (by omega)
          have hpkl : k < (splitI c ws).length := by rw [splitI_len]; omega
          have hpk : (splitI c ws)[k]? = some (splitI c ws)[k] := List.getElem?_eq_getElem (by rw [splitI_len]; omega)
          have bk := bp ok _ (List.mem_of_getElem? hpk)
          have bi := bp ok _ (List.mem_of_getElem? hp)
          refine f4W1 c cl ws i k (rv := true) hE ⟨fun _ => ⟨_, hk, _, hi, fun he => ?_, fun _ => ⟨by omega, ih2 (k + 1) (by omega)⟩⟩, fun h => by omega⟩
          have sm := P.same k i ws[i] _ _ (by omega) (by rw [← he]; exact hk) hi hpk hp
          exact ⟨_, by rw [e1]; exact hpk, _, by rw [e1]; exact hp, fun h => by omega, fun _ => ⟨by omega, fun h => by omega, fun _ => ⟨by omega, ih2 (k + 1) (by omega)⟩⟩⟩
      refine f4W0 c cl ws i (rv := true) hE ⟨fun _ => ⟨_, hi, by omega, by omega, by omega, _, by rw [e1]; exact hp, fun h => by omega, fun _ => ⟨by omega, fun h => by omega, fun _ => ⟨fun h1 => ⟨by omega, by omega, fun h2 => ?_, fun _ => pairs i 0 (by omega)⟩, fun _ => pairs i 0 (by omega)⟩⟩⟩, fun h => by rw [e1, splitI_len] at h; omega⟩
      rcases lo with lo | lo
      · omega
      · exact absurd h2 lo.2
  exact parts ws.length 0 (by omega)

end Go.Proofs.Ytmdbebbibecidaa
