/- A part of the proof: several texts, one behind the other. -/
import Derived.Test.YtmdbebbibecidaaLTakingsMoreB
set_option linter.unusedVariables false
set_option linter.unusedSimpArgs false
set_option maxRecDepth 100000
namespace Go.Proofs.Ytmdbebbibecidaa
open Go Ax
open Go.Proofs

structure Bra where
  from_ : Int
  per : Int
def cBr (b : Bra) : List AV := [.int .i64 b.from_, .int .i64 b.per]
def rowBr (l : List Bra) : List AV := l.flatMap cBr
theorem f45b : Try.f45.body = some (bodyAt Try.prog 45) := by kernel_rfl
def f45K0 (P : Program) : List Item := kAt 400 [.code (bodyAt P 45)] [.b false, .b false, .stop]
def f45S0 (c : Int) (l : (List Bra)) (i : Nat)  : St := ⟨[.junk, .rsl (rowBr l) 0 l.length, .junk, .junk, .junk, .junk, .junk, .junk, .junk, .junk, .junk, .junk, .junk, .junk, .junk, .junk, .junk, .junk, .junk, .junk, .junk, .rsl (rowBr l) 0 l.length, .int .i64 ((l.length : Nat) : Int), .int .i64 ((i : Nat) : Int), .junk, .junk, .junk, .junk, .junk, .junk, .junk, .junk, .junk, .junk, .junk, .junk, .junk, .junk, .junk, .junk, .junk, .junk, .junk, .junk, .junk, .junk, .junk, .junk, .junk, .junk, .junk, .junk, .junk, .junk], []⟩
def f45G0 (E : Env) (c : Int) (l : (List Bra)) (i : Nat) : Prop := G Try.prog E (f45K0 Try.prog) (f45S0 c l i )
theorem p45_start_0 (c : Int) (l : (List Bra))   {E : Env} {res : AV} (hE : PureE Try.prog 45 res E) (o0 : PureF Try.prog (.clos 41 [] []) [.int .i64 c] (.bool (amount c))) (o1 : (!(amount c)) = true)
    (hr : AvLe (.int .i64 1) res) : G Try.prog E [.code (bodyAt Try.prog 45)] ⟨[.int .i64 c, .rsl (rowBr l) 0 l.length] ++ unds (Try.f45.ntmps - 2), []⟩ :=
  end_stepL (n := 400) (evs := [.v (.bool (amount c)), .b true]) (obs := [PureF Try.prog (.clos 41 [] []) [.int .i64 c] (.bool (amount c)), (!(amount c)) = true]) hE Try.func45 mixed (by kernel_rfl) ⟨o0, o1, trivial⟩ hr
theorem p45_start_1 (c : Int) (l : (List Bra))   {E : Env} {res : AV} (hE : PureE Try.prog 45 res E) (o0 : PureF Try.prog (.clos 41 [] []) [.int .i64 c] (.bool (amount c))) (o1 : (!(amount c)) = false) (o2 : PureF Try.prog (.clos 49 [] []) [.int .i64 ((l.length : Nat) : Int), .int .i64 1, .int .i64 8] (.bool (within ((l.length : Nat) : Int) 1 8))) (o3 : (!(within ((l.length : Nat) : Int) 1 8)) = true)
    (hr : AvLe (.int .i64 110) res) : G Try.prog E [.code (bodyAt Try.prog 45)] ⟨[.int .i64 c, .rsl (rowBr l) 0 l.length] ++ unds (Try.f45.ntmps - 2), []⟩ :=
  end_stepL (n := 400) (evs := [.v (.bool (amount c)), .b false, .v (.bool (within ((l.length : Nat) : Int) 1 8)), .b true, .b true]) (obs := [PureF Try.prog (.clos 41 [] []) [.int .i64 c] (.bool (amount c)), (!(amount c)) = false, PureF Try.prog (.clos 49 [] []) [.int .i64 ((l.length : Nat) : Int), .int .i64 1, .int .i64 8] (.bool (within ((l.length : Nat) : Int) 1 8)), (!(within ((l.length : Nat) : Int) 1 8)) = true, true = true]) hE Try.func45 mixed (by kernel_rfl) ⟨o0, o1, o2, o3, (rfl), trivial⟩ hr
theorem p45_start_2 (c : Int) (l : (List Bra))  (be : Bra)  {E : Env} {res : AV} (hE : PureE Try.prog 45 res E) (o0 : PureF Try.prog (.clos 41 [] []) [.int .i64 c] (.bool (amount c))) (o1 : (!(amount c)) = false) (o2 : PureF Try.prog (.clos 49 [] []) [.int .i64 ((l.length : Nat) : Int), .int .i64 1, .int .i64 8] (.bool (within ((l.length : Nat) : Int) 1 8))) (o3 : (!(within ((l.length : Nat) : Int) 1 8)) = false) (o5 : (0 : Int) ≤ 0 ∧ (0 : Int) < ((l.length : Nat) : Int)) (o6 : ((rowBr l).drop ((0 + 0 * 2) + 0)).take 1 = [.int .i64 be.from_]) (o7 : (be.from_ != 0) = true)
    (hr : AvLe (.int .i64 110) res) : G Try.prog E [.code (bodyAt Try.prog 45)] ⟨[.int .i64 c, .rsl (rowBr l) 0 l.length] ++ unds (Try.f45.ntmps - 2), []⟩ :=
  end_stepL (n := 400) (evs := [.v (.bool (amount c)), .b false, .v (.bool (within ((l.length : Nat) : Int) 1 8)), .b false, .ld (.int .i64 be.from_), .b true]) (obs := [PureF Try.prog (.clos 41 [] []) [.int .i64 c] (.bool (amount c)), (!(amount c)) = false, PureF Try.prog (.clos 49 [] []) [.int .i64 ((l.length : Nat) : Int), .int .i64 1, .int .i64 8] (.bool (within ((l.length : Nat) : Int) 1 8)), (!(within ((l.length : Nat) : Int) 1 8)) = false, (0 : Int) ≤ 0 ∧ (0 : Int) < ((l.length : Nat) : Int), ((rowBr l).drop ((0 + 0 * 2) + 0)).take 1 = [.int .i64 be.from_], (be.from_ != 0) = true]) hE Try.func45 mixed (by kernel_rfl) ⟨o0, o1, o2, o3, o5, o6, o7, trivial⟩ hr
theorem p45_start_3 (c : Int) (l : (List Bra))  (be : Bra)  {E : Env} {rv : AV} (hE : PureE Try.prog 45 rv E) (o0 : PureF Try.prog (.clos 41 [] []) [.int .i64 c] (.bool (amount c))) (o1 : (!(amount c)) = false) (o2 : PureF Try.prog (.clos 49 [] []) [.int .i64 ((l.length : Nat) : Int), .int .i64 1, .int .i64 8] (.bool (within ((l.length : Nat) : Int) 1 8))) (o3 : (!(within ((l.length : Nat) : Int) 1 8)) = false) (o5 : (0 : Int) ≤ 0 ∧ (0 : Int) < ((l.length : Nat) : Int)) (o6 : ((rowBr l).drop ((0 + 0 * 2) + 0)).take 1 = [.int .i64 be.from_]) (o7 : (be.from_ != 0) = false)
    (hg : G Try.prog E (f45K0 Try.prog) ⟨[.junk, .rsl (rowBr l) 0 l.length, .junk, .junk, .junk, .junk, .junk, .junk, .junk, .junk, .junk, .junk, .junk, .junk, .junk, .junk, .junk, .junk, .junk, .junk, .junk, .rsl (rowBr l) 0 l.length, .int .i64 ((l.length : Nat) : Int), .int .i64 0, .junk, .junk, .junk, .junk, .junk, .junk, .junk, .junk, .junk, .junk, .junk, .junk, .junk, .junk, .junk, .junk, .junk, .junk, .junk, .junk, .junk, .junk, .junk, .junk, .junk, .junk, .junk, .junk, .junk, .junk], []⟩) : G Try.prog E [.code (bodyAt Try.prog 45)] ⟨[.int .i64 c, .rsl (rowBr l) 0 l.length] ++ unds (Try.f45.ntmps - 2), []⟩ :=
  segC_step (n := 400) (ds := []) (cs := []) (live := [1, 21, 22, 23]) (m := 0) (evs := [.v (.bool (amount c)), .b false, .v (.bool (within ((l.length : Nat) : Int) 1 8)), .b false, .ld (.int .i64 be.from_), .b false, .stop]) (obs := [PureF Try.prog (.clos 41 [] []) [.int .i64 c] (.bool (amount c)), (!(amount c)) = false, PureF Try.prog (.clos 49 [] []) [.int .i64 ((l.length : Nat) : Int), .int .i64 1, .int .i64 8] (.bool (within ((l.length : Nat) : Int) 1 8)), (!(within ((l.length : Nat) : Int) 1 8)) = false, (0 : Int) ≤ 0 ∧ (0 : Int) < ((l.length : Nat) : Int), ((rowBr l).drop ((0 + 0 * 2) + 0)).take 1 = [.int .i64 be.from_], (be.from_ != 0) = false]) hE.2.1 (hE.nogh _) mixed (by kernel_rfl) ⟨o0, o1, o2, o3, o5, o6, o7, trivial⟩ hg
theorem f45W (c : Int) (l : (List Bra)) {E : Env} {rv : Int} (hE : PureE Try.prog 45 (.int .i64 rv) E)
    (h : (((amount c) = false → rv = 1) ∧ ((amount c) = true → (((within ((l.length : Nat) : Int) 1 8) = false → rv = 110) ∧ ((within ((l.length : Nat) : Int) 1 8) = true → (∃ be : Bra, l[0]? = some be ∧ ((¬ (be.from_ = 0) → rv = 110) ∧ (be.from_ = 0 → f45G0 E c l 0)))))))) : G Try.prog E [.code (bodyAt Try.prog 45)] ⟨[.int .i64 c, .rsl (rowBr l) 0 l.length] ++ unds (Try.f45.ntmps - 2), []⟩ := by
  rcases Bool.eq_false_or_eq_true (!(amount c)) with hc0 | hc0
  · have h := h.1 (bnT hc0)
    exact p45_start_0 c l    hE (pureF_of Try.func41 (by kernel_rfl) f41b (amount_ok c)) hc0 (AvLe.of_eq (by rw [h]; try rfl))
  · have h := h.2 (bnF hc0)
    rcases Bool.eq_false_or_eq_true (!(within ((l.length : Nat) : Int) 1 8)) with hc1 | hc1
    · have h := h.1 (bnT hc1)
      exact p45_start_1 c l    hE (pureF_of Try.func41 (by kernel_rfl) f41b (amount_ok c)) hc0 (pureF_of Try.func49 (by kernel_rfl) f49b (within_ok ((l.length : Nat) : Int) 1 8)) hc1 (AvLe.of_eq (by rw [h]; try rfl))
    · have h := h.2 (bnF hc1)
      obtain ⟨be, h1, h⟩ := h
      rcases Bool.eq_false_or_eq_true (be.from_ != 0) with hc2 | hc2
      · have h := h.1 (bneT hc2)
        exact p45_start_2 c l   be hE (pureF_of Try.func41 (by kernel_rfl) f41b (amount_ok c)) hc0 (pureF_of Try.func49 (by kernel_rfl) f49b (within_ok ((l.length : Nat) : Int) 1 8)) hc1 (idx_ok h1) (row_part cBr (s := 2) (k := 0) (m := 1) (fun _ => rfl) (by decide) h1) hc2 (AvLe.of_eq (by rw [h]; try rfl))
      · have h := h.2 (bneF hc2)
        exact p45_start_3 c l   be hE (pureF_of Try.func41 (by kernel_rfl) f41b (amount_ok c)) hc0 (pureF_of Try.func49 (by kernel_rfl) f49b (within_ok ((l.length : Nat) : Int) 1 8)) hc1 (idx_ok h1) (row_part cBr (s := 2) (k := 0) (m := 1) (fun _ => rfl) (by decide) h1) hc2 h
theorem p45_0_0 (c : Int) (l : (List Bra)) (i : Nat)  (be : Bra)  {E : Env} {res : AV} (hE : PureE Try.prog 45 res E) (o0 : (decide (((i : Nat) : Int) < ((l.length : Nat) : Int))) = true) (o2 : 0 ≤ ((i : Nat) : Int) ∧ ((i : Nat) : Int) < ((l.length : Nat) : Int)) (o3 : ((rowBr l).drop (0 + (Int.toNat ((i : Nat) : Int)) * 2)).take 2 = [.int .i64 be.from_, .int .i64 be.per]) (o5 : PureF Try.prog (.clos 49 [] []) [.int .i64 be.from_, .int .i64 0, .int .i64 1000000000] (.bool (within be.from_ 0 1000000000))) (o6 : (!(within be.from_ 0 1000000000)) = true)
    (hr : AvLe (.int .i64 110) res) : G Try.prog E (f45K0 Try.prog) (f45S0 c l i ) :=
  end_stepL (n := 400) (evs := [.b true, .ld (.agg [.int .i64 be.from_, .int .i64 be.per]), .v (.bool (within be.from_ 0 1000000000)), .b true, .b true, .b true]) (obs := [(decide (((i : Nat) : Int) < ((l.length : Nat) : Int))) = true, 0 ≤ ((i : Nat) : Int) ∧ ((i : Nat) : Int) < ((l.length : Nat) : Int), ((rowBr l).drop (0 + (Int.toNat ((i : Nat) : Int)) * 2)).take 2 = [.int .i64 be.from_, .int .i64 be.per], 2 ≤ 2, PureF Try.prog (.clos 49 [] []) [.int .i64 be.from_, .int .i64 0, .int .i64 1000000000] (.bool (within be.from_ 0 1000000000)), (!(within be.from_ 0 1000000000)) = true, true = true, true = true]) hE Try.func45 mixed (by kernel_rfl) ⟨o0, o2, o3, (by decide), o5, o6, (rfl), (rfl), trivial⟩ hr
theorem p45_0_1 (c : Int) (l : (List Bra)) (i : Nat)  (be : Bra)  {E : Env} {res : AV} (hE : PureE Try.prog 45 res E) (o0 : (decide (((i : Nat) : Int) < ((l.length : Nat) : Int))) = true) (o2 : 0 ≤ ((i : Nat) : Int) ∧ ((i : Nat) : Int) < ((l.length : Nat) : Int)) (o3 : ((rowBr l).drop (0 + (Int.toNat ((i : Nat) : Int)) * 2)).take 2 = [.int .i64 be.from_, .int .i64 be.per]) (o5 : PureF Try.prog (.clos 49 [] []) [.int .i64 be.from_, .int .i64 0, .int .i64 1000000000] (.bool (within be.from_ 0 1000000000))) (o6 : (!(within be.from_ 0 1000000000)) = false) (o7 : PureF Try.prog (.clos 49 [] []) [.int .i64 be.per, .int .i64 0, .int .i64 100] (.bool (within be.per 0 100))) (o8 : (!(within be.per 0 100)) = true)
    (hr : AvLe (.int .i64 110) res) : G Try.prog E (f45K0 Try.prog) (f45S0 c l i ) :=
  end_stepL (n := 400) (evs := [.b true, .ld (.agg [.int .i64 be.from_, .int .i64 be.per]), .v (.bool (within be.from_ 0 1000000000)), .b false, .v (.bool (within be.per 0 100)), .b true, .b true]) (obs := [(decide (((i : Nat) : Int) < ((l.length : Nat) : Int))) = true, 0 ≤ ((i : Nat) : Int) ∧ ((i : Nat) : Int) < ((l.length : Nat) : Int), ((rowBr l).drop (0 + (Int.toNat ((i : Nat) : Int)) * 2)).take 2 = [.int .i64 be.from_, .int .i64 be.per], 2 ≤ 2, PureF Try.prog (.clos 49 [] []) [.int .i64 be.from_, .int .i64 0, .int .i64 1000000000] (.bool (within be.from_ 0 1000000000)), (!(within be.from_ 0 1000000000)) = false, PureF Try.prog (.clos 49 [] []) [.int .i64 be.per, .int .i64 0, .int .i64 100] (.bool (within be.per 0 100)), (!(within be.per 0 100)) = true, true = true]) hE Try.func45 mixed (by kernel_rfl) ⟨o0, o2, o3, (by decide), o5, o6, o7, o8, (rfl), trivial⟩ hr
theorem p45_0_2 (c : Int) (l : (List Bra)) (i : Nat)  (be : Bra) (be1 : Bra)  {E : Env} {res : AV} (hE : PureE Try.prog 45 res E) (o0 : (decide (((i : Nat) : Int) < ((l.length : Nat) : Int))) = true) (o2 : 0 ≤ ((i : Nat) : Int) ∧ ((i : Nat) : Int) < ((l.length : Nat) : Int)) (o3 : ((rowBr l).drop (0 + (Int.toNat ((i : Nat) : Int)) * 2)).take 2 = [.int .i64 be.from_, .int .i64 be.per]) (o5 : PureF Try.prog (.clos 49 [] []) [.int .i64 be.from_, .int .i64 0, .int .i64 1000000000] (.bool (within be.from_ 0 1000000000))) (o6 : (!(within be.from_ 0 1000000000)) = false) (o7 : PureF Try.prog (.clos 49 [] []) [.int .i64 be.per, .int .i64 0, .int .i64 100] (.bool (within be.per 0 100))) (o8 : (!(within be.per 0 100)) = false) (o9 : (decide (((i : Nat) : Int) > 0)) = true) (o10 : InR .i64 (((i : Nat) : Int) - 1)) (o12 : 0 ≤ (((i : Nat) : Int) - 1) ∧ (((i : Nat) : Int) - 1) < ((l.length : Nat) : Int)) (o13 : ((rowBr l).drop ((0 + (Int.toNat (((i : Nat) : Int) - 1)) * 2) + 0)).take 1 = [.int .i64 be1.from_]) (o14 : (decide (be.from_ ≤ be1.from_)) = true)
    (hr : AvLe (.int .i64 110) res) : G Try.prog E (f45K0 Try.prog) (f45S0 c l i ) :=
  end_stepL (n := 400) (evs := [.b true, .ld (.agg [.int .i64 be.from_, .int .i64 be.per]), .v (.bool (within be.from_ 0 1000000000)), .b false, .v (.bool (within be.per 0 100)), .b false, .b true, .auto, .ld (.int .i64 be1.from_), .b true]) (obs := [(decide (((i : Nat) : Int) < ((l.length : Nat) : Int))) = true, 0 ≤ ((i : Nat) : Int) ∧ ((i : Nat) : Int) < ((l.length : Nat) : Int), ((rowBr l).drop (0 + (Int.toNat ((i : Nat) : Int)) * 2)).take 2 = [.int .i64 be.from_, .int .i64 be.per], 2 ≤ 2, PureF Try.prog (.clos 49 [] []) [.int .i64 be.from_, .int .i64 0, .int .i64 1000000000] (.bool (within be.from_ 0 1000000000)), (!(within be.from_ 0 1000000000)) = false, PureF Try.prog (.clos 49 [] []) [.int .i64 be.per, .int .i64 0, .int .i64 100] (.bool (within be.per 0 100)), (!(within be.per 0 100)) = false, (decide (((i : Nat) : Int) > 0)) = true, InR .i64 (((i : Nat) : Int) - 1), 0 ≤ (((i : Nat) : Int) - 1) ∧ (((i : Nat) : Int) - 1) < ((l.length : Nat) : Int), ((rowBr l).drop ((0 + (Int.toNat (((i : Nat) : Int) - 1)) * 2) + 0)).take 1 = [.int .i64 be1.from_], (decide (be.from_ ≤ be1.from_)) = true]) hE Try.func45 mixed (by kernel_rfl) ⟨o0, o2, o3, (by decide), o5, o6, o7, o8, o9, o10, o12, o13, o14, trivial⟩ hr
theorem p45_0_3 (c : Int) (l : (List Bra)) (i : Nat)  (be : Bra) (be1 : Bra)  {E : Env} {rv : AV} (hE : PureE Try.prog 45 rv E) (o0 : (decide (((i : Nat) : Int) < ((l.length : Nat) : Int))) = true) (o2 : 0 ≤ ((i : Nat) : Int) ∧ ((i : Nat) : Int) < ((l.length : Nat) : Int)) (o3 : ((rowBr l).drop (0 + (Int.toNat ((i : Nat) : Int)) * 2)).take 2 = [.int .i64 be.from_, .int .i64 be.per]) (o5 : PureF Try.prog (.clos 49 [] []) [.int .i64 be.from_, .int .i64 0, .int .i64 1000000000] (.bool (within be.from_ 0 1000000000))) (o6 : (!(within be.from_ 0 1000000000)) = false) (o7 : PureF Try.prog (.clos 49 [] []) [.int .i64 be.per, .int .i64 0, .int .i64 100] (.bool (within be.per 0 100))) (o8 : (!(within be.per 0 100)) = false) (o9 : (decide (((i : Nat) : Int) > 0)) = true) (o10 : InR .i64 (((i : Nat) : Int) - 1)) (o12 : 0 ≤ (((i : Nat) : Int) - 1) ∧ (((i : Nat) : Int) - 1) < ((l.length : Nat) : Int)) (o13 : ((rowBr l).drop ((0 + (Int.toNat (((i : Nat) : Int) - 1)) * 2) + 0)).take 1 = [.int .i64 be1.from_]) (o14 : (decide (be.from_ ≤ be1.from_)) = false) (o15 : InR .i64 (((i : Nat) : Int) + 1))
    (hg : G Try.prog E (f45K0 Try.prog) ⟨[.junk, .rsl (rowBr l) 0 l.length, .junk, .junk, .junk, .junk, .junk, .junk, .junk, .junk, .junk, .junk, .junk, .junk, .junk, .junk, .junk, .junk, .junk, .junk, .junk, .rsl (rowBr l) 0 l.length, .int .i64 ((l.length : Nat) : Int), .int .i64 (((i : Nat) : Int) + 1), .junk, .junk, .junk, .junk, .junk, .junk, .junk, .junk, .junk, .junk, .junk, .junk, .junk, .junk, .junk, .junk, .junk, .junk, .junk, .junk, .junk, .junk, .junk, .junk, .junk, .junk, .junk, .junk, .junk, .junk], []⟩) : G Try.prog E (f45K0 Try.prog) (f45S0 c l i ) :=
  segC_step (n := 400) (ds := []) (cs := []) (live := [1, 21, 22, 23]) (m := 0) (evs := [.b true, .ld (.agg [.int .i64 be.from_, .int .i64 be.per]), .v (.bool (within be.from_ 0 1000000000)), .b false, .v (.bool (within be.per 0 100)), .b false, .b true, .auto, .ld (.int .i64 be1.from_), .b false, .stop]) (obs := [(decide (((i : Nat) : Int) < ((l.length : Nat) : Int))) = true, 0 ≤ ((i : Nat) : Int) ∧ ((i : Nat) : Int) < ((l.length : Nat) : Int), ((rowBr l).drop (0 + (Int.toNat ((i : Nat) : Int)) * 2)).take 2 = [.int .i64 be.from_, .int .i64 be.per], 2 ≤ 2, PureF Try.prog (.clos 49 [] []) [.int .i64 be.from_, .int .i64 0, .int .i64 1000000000] (.bool (within be.from_ 0 1000000000)), (!(within be.from_ 0 1000000000)) = false, PureF Try.prog (.clos 49 [] []) [.int .i64 be.per, .int .i64 0, .int .i64 100] (.bool (within be.per 0 100)), (!(within be.per 0 100)) = false, (decide (((i : Nat) : Int) > 0)) = true, InR .i64 (((i : Nat) : Int) - 1), 0 ≤ (((i : Nat) : Int) - 1) ∧ (((i : Nat) : Int) - 1) < ((l.length : Nat) : Int), ((rowBr l).drop ((0 + (Int.toNat (((i : Nat) : Int) - 1)) * 2) + 0)).take 1 = [.int .i64 be1.from_], (decide (be.from_ ≤ be1.from_)) = false, InR .i64 (((i : Nat) : Int) + 1)]) hE.2.1 (hE.nogh _) mixed (by kernel_rfl) ⟨o0, o2, o3, (by decide), o5, o6, o7, o8, o9, o10, o12, o13, o14, o15, trivial⟩ hg
theorem p45_0_4 (c : Int) (l : (List Bra)) (i : Nat)  (be : Bra)  {E : Env} {rv : AV} (hE : PureE Try.prog 45 rv E) (o0 : (decide (((i : Nat) : Int) < ((l.length : Nat) : Int))) = true) (o2 : 0 ≤ ((i : Nat) : Int) ∧ ((i : Nat) : Int) < ((l.length : Nat) : Int)) (o3 : ((rowBr l).drop (0 + (Int.toNat ((i : Nat) : Int)) * 2)).take 2 = [.int .i64 be.from_, .int .i64 be.per]) (o5 : PureF Try.prog (.clos 49 [] []) [.int .i64 be.from_, .int .i64 0, .int .i64 1000000000] (.bool (within be.from_ 0 1000000000))) (o6 : (!(within be.from_ 0 1000000000)) = false) (o7 : PureF Try.prog (.clos 49 [] []) [.int .i64 be.per, .int .i64 0, .int .i64 100] (.bool (within be.per 0 100))) (o8 : (!(within be.per 0 100)) = false) (o9 : (decide (((i : Nat) : Int) > 0)) = false) (o11 : InR .i64 (((i : Nat) : Int) + 1))
    (hg : G Try.prog E (f45K0 Try.prog) ⟨[.junk, .rsl (rowBr l) 0 l.length, .junk, .junk, .junk, .junk, .junk, .junk, .junk, .junk, .junk, .junk, .junk, .junk, .junk, .junk, .junk, .junk, .junk, .junk, .junk, .rsl (rowBr l) 0 l.length, .int .i64 ((l.length : Nat) : Int), .int .i64 (((i : Nat) : Int) + 1), .junk, .junk, .junk, .junk, .junk, .junk, .junk, .junk, .junk, .junk, .junk, .junk, .junk, .junk, .junk, .junk, .junk, .junk, .junk, .junk, .junk, .junk, .junk, .junk, .junk, .junk, .junk, .junk, .junk, .junk], []⟩) : G Try.prog E (f45K0 Try.prog) (f45S0 c l i ) :=
  segC_step (n := 400) (ds := []) (cs := []) (live := [1, 21, 22, 23]) (m := 0) (evs := [.b true, .ld (.agg [.int .i64 be.from_, .int .i64 be.per]), .v (.bool (within be.from_ 0 1000000000)), .b false, .v (.bool (within be.per 0 100)), .b false, .b false, .b false, .stop]) (obs := [(decide (((i : Nat) : Int) < ((l.length : Nat) : Int))) = true, 0 ≤ ((i : Nat) : Int) ∧ ((i : Nat) : Int) < ((l.length : Nat) : Int), ((rowBr l).drop (0 + (Int.toNat ((i : Nat) : Int)) * 2)).take 2 = [.int .i64 be.from_, .int .i64 be.per], 2 ≤ 2, PureF Try.prog (.clos 49 [] []) [.int .i64 be.from_, .int .i64 0, .int .i64 1000000000] (.bool (within be.from_ 0 1000000000)), (!(within be.from_ 0 1000000000)) = false, PureF Try.prog (.clos 49 [] []) [.int .i64 be.per, .int .i64 0, .int .i64 100] (.bool (within be.per 0 100)), (!(within be.per 0 100)) = false, (decide (((i : Nat) : Int) > 0)) = false, false = false, InR .i64 (((i : Nat) : Int) + 1)]) hE.2.1 (hE.nogh _) mixed (by kernel_rfl) ⟨o0, o2, o3, (by decide), o5, o6, o7, o8, o9, (rfl), o11, trivial⟩ hg
theorem p45_0_5 (c : Int) (l : (List Bra)) (i : Nat)   {E : Env} {res : AV} (hE : PureE Try.prog 45 res E) (o0 : (decide (((i : Nat) : Int) < ((l.length : Nat) : Int))) = false)
    (hr : AvLe (.int .i64 0) res) : G Try.prog E (f45K0 Try.prog) (f45S0 c l i ) :=
  end_stepL (n := 400) (evs := [.b false]) (obs := [(decide (((i : Nat) : Int) < ((l.length : Nat) : Int))) = false]) hE Try.func45 mixed (by kernel_rfl) ⟨o0, trivial⟩ hr
theorem f45W0 (c : Int) (l : (List Bra)) (i : Nat) {E : Env} {rv : Int} (hE : PureE Try.prog 45 (.int .i64 rv) E)
    (h : ((((i : Nat) : Int) < ((l.length : Nat) : Int) → (∃ be : Bra, l[i]? = some be ∧ (((within be.from_ 0 1000000000) = false → rv = 110) ∧ ((within be.from_ 0 1000000000) = true → (((within be.per 0 100) = false → rv = 110) ∧ ((within be.per 0 100) = true → ((((i : Nat) : Int) > 0 → ((-9223372036854775808 ≤ ((i : Nat) : Int) - 1 ∧ ((i : Nat) : Int) - 1 ≤ 9223372036854775807) ∧ (0 ≤ (((i : Nat) : Int) - 1) ∧ (∃ be1 : Bra, l[Int.toNat (((i : Nat) : Int) - 1)]? = some be1 ∧ ((be.from_ ≤ be1.from_ → rv = 110) ∧ (¬ (be.from_ ≤ be1.from_) → ((-9223372036854775808 ≤ ((i : Nat) : Int) + 1 ∧ ((i : Nat) : Int) + 1 ≤ 9223372036854775807) ∧ f45G0 E c l (i + 1)))))))) ∧ (¬ (((i : Nat) : Int) > 0) → ((-9223372036854775808 ≤ ((i : Nat) : Int) + 1 ∧ ((i : Nat) : Int) + 1 ≤ 9223372036854775807) ∧ f45G0 E c l (i + 1)))))))))) ∧ (¬ (((i : Nat) : Int) < ((l.length : Nat) : Int)) → rv = 0))) : f45G0 E c l i := by
  rcases Bool.eq_false_or_eq_true (decide (((i : Nat) : Int) < ((l.length : Nat) : Int))) with hc0 | hc0
  · have h := h.1 (of_decide_eq_true hc0)
    obtain ⟨be, h1, h⟩ := h
    rcases Bool.eq_false_or_eq_true (!(within be.from_ 0 1000000000)) with hc1 | hc1
    · have h := h.1 (bnT hc1)
      exact p45_0_0 c l i  be hE hc0 (idx_ok h1) (row_part cBr (s := 2) (k := 0) (m := 2) (fun _ => rfl) (by decide) h1) (pureF_of Try.func49 (by kernel_rfl) f49b (within_ok be.from_ 0 1000000000)) hc1 (AvLe.of_eq (by rw [h]; try rfl))
    · have h := h.2 (bnF hc1)
      rcases Bool.eq_false_or_eq_true (!(within be.per 0 100)) with hc2 | hc2
      · have h := h.1 (bnT hc2)
        exact p45_0_1 c l i  be hE hc0 (idx_ok h1) (row_part cBr (s := 2) (k := 0) (m := 2) (fun _ => rfl) (by decide) h1) (pureF_of Try.func49 (by kernel_rfl) f49b (within_ok be.from_ 0 1000000000)) hc1 (pureF_of Try.func49 (by kernel_rfl) f49b (within_ok be.per 0 100)) hc2 (AvLe.of_eq (by rw [h]; try rfl))
      · have h := h.2 (bnF hc2)
        rcases Bool.eq_false_or_eq_true (decide (((i : Nat) : Int) > 0)) with hc3 | hc3
        · have h := h.1 (of_decide_eq_true hc3)
          obtain ⟨q10_4, h⟩ := h
          obtain ⟨h3, h⟩ := h
          obtain ⟨be1, h2, h⟩ := h
          rcases Bool.eq_false_or_eq_true (decide (be.from_ ≤ be1.from_)) with hc4 | hc4
          · have h := h.1 (of_decide_eq_true hc4)
            exact p45_0_2 c l i  be be1 hE hc0 (idx_ok h1) (row_part cBr (s := 2) (k := 0) (m := 2) (fun _ => rfl) (by decide) h1) (pureF_of Try.func49 (by kernel_rfl) f49b (within_ok be.from_ 0 1000000000)) hc1 (pureF_of Try.func49 (by kernel_rfl) f49b (within_ok be.per 0 100)) hc2 hc3 q10_4 (idx_ok' h3 h2) (row_part cBr (s := 2) (k := 0) (m := 1) (fun _ => rfl) (by decide) h2) hc4 (AvLe.of_eq (by rw [h]; try rfl))
          · have h := h.2 (of_decide_eq_false hc4)
            obtain ⟨q15_5, h⟩ := h
            exact p45_0_3 c l i  be be1 hE hc0 (idx_ok h1) (row_part cBr (s := 2) (k := 0) (m := 2) (fun _ => rfl) (by decide) h1) (pureF_of Try.func49 (by kernel_rfl) f49b (within_ok be.from_ 0 1000000000)) hc1 (pureF_of Try.func49 (by kernel_rfl) f49b (within_ok be.per 0 100)) hc2 hc3 q10_4 (idx_ok' h3 h2) (row_part cBr (s := 2) (k := 0) (m := 1) (fun _ => rfl) (by decide) h2) hc4 q15_5 h
        · have h := h.2 (of_decide_eq_false hc3)
          obtain ⟨q11_4, h⟩ := h
          exact p45_0_4 c l i  be hE hc0 (idx_ok h1) (row_part cBr (s := 2) (k := 0) (m := 2) (fun _ => rfl) (by decide) h1) (pureF_of Try.func49 (by kernel_rfl) f49b (within_ok be.from_ 0 1000000000)) hc1 (pureF_of Try.func49 (by kernel_rfl) f49b (within_ok be.per 0 100)) hc2 hc3 q11_4 h
  · have h := h.2 (of_decide_eq_false hc0)
    exact p45_0_5 c l i   hE hc0 (AvLe.of_eq (by rw [h]; try rfl))
theorem f46b : Try.f46.body = some (bodyAt Try.prog 46) := by kernel_rfl
def f46K0 (P : Program) : List Item := kAt 400 [.code (bodyAt P 46)] [.stop]
def f46S0 (c : Int) (l : (List Bra)) (hundredths : Int) (i : Nat)  : St := ⟨[.int .i64 c, .rsl (rowBr l) 0 l.length, .junk, .junk, .int .i64 hundredths, .junk, .junk, .junk, .rsl (rowBr l) 0 l.length, .int .i64 ((l.length : Nat) : Int), .int .i64 ((i : Nat) : Int), .junk, .junk, .junk, .junk, .junk, .junk, .junk, .junk, .junk, .junk, .junk, .junk, .junk, .junk, .junk, .junk, .junk, .junk, .junk, .junk, .junk, .junk, .junk, .junk, .junk, .junk, .junk, .junk, .junk, .junk, .junk], []⟩
def f46G0 (E : Env) (c : Int) (l : (List Bra)) (hundredths : Int) (i : Nat) : Prop := G Try.prog E (f46K0 Try.prog) (f46S0 c l hundredths i )
theorem p46_start_0 (c : Int) (l : (List Bra))   {E : Env} {rv : AV} (hE : PureE Try.prog 46 rv E) 
    (hg : G Try.prog E (f46K0 Try.prog) ⟨[.int .i64 c, .rsl (rowBr l) 0 l.length, .junk, .junk, .int .i64 0, .junk, .junk, .junk, .rsl (rowBr l) 0 l.length, .int .i64 ((l.length : Nat) : Int), .int .i64 0, .junk, .junk, .junk, .junk, .junk, .junk, .junk, .junk, .junk, .junk, .junk, .junk, .junk, .junk, .junk, .junk, .junk, .junk, .junk, .junk, .junk, .junk, .junk, .junk, .junk, .junk, .junk, .junk, .junk, .junk, .junk], []⟩) : G Try.prog E [.code (bodyAt Try.prog 46)] ⟨[.int .i64 c, .rsl (rowBr l) 0 l.length] ++ unds (Try.f46.ntmps - 2), []⟩ :=
  segC_step (n := 400) (ds := []) (cs := []) (live := [0, 1, 4, 8, 9, 10]) (m := 0) (evs := [.stop]) (obs := []) hE.2.1 (hE.nogh _) mixed (by kernel_rfl) trivial hg
theorem f46W (c : Int) (l : (List Bra)) {E : Env} {rv : Int} (hE : PureE Try.prog 46 (.int .i64 rv) E)
    (h : f46G0 E c l 0 0) : G Try.prog E [.code (bodyAt Try.prog 46)] ⟨[.int .i64 c, .rsl (rowBr l) 0 l.length] ++ unds (Try.f46.ntmps - 2), []⟩ := by
  exact p46_start_0 c l    hE  h
theorem p46_0_0 (c : Int) (l : (List Bra)) (hundredths : Int) (i : Nat)  (be : Bra) (be1 : Bra)  {E : Env} {rv : AV} (hE : PureE Try.prog 46 rv E) (o0 : (decide (((i : Nat) : Int) < ((l.length : Nat) : Int))) = true) (o2 : 0 ≤ ((i : Nat) : Int) ∧ ((i : Nat) : Int) < ((l.length : Nat) : Int)) (o3 : ((rowBr l).drop (0 + (Int.toNat ((i : Nat) : Int)) * 2)).take 2 = [.int .i64 be.from_, .int .i64 be.per]) (o5 : InR .i64 (((i : Nat) : Int) + 1)) (o6 : (decide ((((i : Nat) : Int) + 1) < ((l.length : Nat) : Int))) = true) (o7 : InR .i64 (((i : Nat) : Int) + 1)) (o9 : 0 ≤ (((i : Nat) : Int) + 1) ∧ (((i : Nat) : Int) + 1) < ((l.length : Nat) : Int)) (o10 : ((rowBr l).drop ((0 + (Int.toNat (((i : Nat) : Int) + 1)) * 2) + 0)).take 1 = [.int .i64 be1.from_]) (o11 : InR .i64 ((iMin c be1.from_) - be.from_)) (o12 : InR .i64 ((iMax 0 ((iMin c be1.from_) - be.from_)) * be.per)) (o13 : InR .i64 (hundredths + ((iMax 0 ((iMin c be1.from_) - be.from_)) * be.per))) (o14 : InR .i64 (((i : Nat) : Int) + 1))
    (hg : G Try.prog E (f46K0 Try.prog) ⟨[.int .i64 c, .rsl (rowBr l) 0 l.length, .junk, .junk, .int .i64 (hundredths + ((iMax 0 ((iMin c be1.from_) - be.from_)) * be.per)), .junk, .junk, .junk, .rsl (rowBr l) 0 l.length, .int .i64 ((l.length : Nat) : Int), .int .i64 (((i : Nat) : Int) + 1), .junk, .junk, .junk, .junk, .junk, .junk, .junk, .junk, .junk, .junk, .junk, .junk, .junk, .junk, .junk, .junk, .junk, .junk, .junk, .junk, .junk, .junk, .junk, .junk, .junk, .junk, .junk, .junk, .junk, .junk, .junk], []⟩) : G Try.prog E (f46K0 Try.prog) (f46S0 c l hundredths i ) :=
  segC_step (n := 400) (ds := []) (cs := []) (live := [0, 1, 4, 8, 9, 10]) (m := 0) (evs := [.b true, .ld (.agg [.int .i64 be.from_, .int .i64 be.per]), .b true, .ld (.int .i64 be1.from_), .stop]) (obs := [(decide (((i : Nat) : Int) < ((l.length : Nat) : Int))) = true, 0 ≤ ((i : Nat) : Int) ∧ ((i : Nat) : Int) < ((l.length : Nat) : Int), ((rowBr l).drop (0 + (Int.toNat ((i : Nat) : Int)) * 2)).take 2 = [.int .i64 be.from_, .int .i64 be.per], 2 ≤ 2, InR .i64 (((i : Nat) : Int) + 1), (decide ((((i : Nat) : Int) + 1) < ((l.length : Nat) : Int))) = true, InR .i64 (((i : Nat) : Int) + 1), 0 ≤ (((i : Nat) : Int) + 1) ∧ (((i : Nat) : Int) + 1) < ((l.length : Nat) : Int), ((rowBr l).drop ((0 + (Int.toNat (((i : Nat) : Int) + 1)) * 2) + 0)).take 1 = [.int .i64 be1.from_], InR .i64 ((iMin c be1.from_) - be.from_), InR .i64 ((iMax 0 ((iMin c be1.from_) - be.from_)) * be.per), InR .i64 (hundredths + ((iMax 0 ((iMin c be1.from_) - be.from_)) * be.per)), InR .i64 (((i : Nat) : Int) + 1)]) hE.2.1 (hE.nogh _) mixed (by kernel_rfl) ⟨o0, o2, o3, (by decide), o5, o6, o7, o9, o10, o11, o12, o13, o14, trivial⟩ hg
theorem p46_0_1 (c : Int) (l : (List Bra)) (hundredths : Int) (i : Nat)  (be : Bra)  {E : Env} {rv : AV} (hE : PureE Try.prog 46 rv E) (o0 : (decide (((i : Nat) : Int) < ((l.length : Nat) : Int))) = true) (o2 : 0 ≤ ((i : Nat) : Int) ∧ ((i : Nat) : Int) < ((l.length : Nat) : Int)) (o3 : ((rowBr l).drop (0 + (Int.toNat ((i : Nat) : Int)) * 2)).take 2 = [.int .i64 be.from_, .int .i64 be.per]) (o5 : InR .i64 (((i : Nat) : Int) + 1)) (o6 : (decide ((((i : Nat) : Int) + 1) < ((l.length : Nat) : Int))) = false) (o7 : InR .i64 (c - be.from_)) (o8 : InR .i64 ((iMax 0 (c - be.from_)) * be.per)) (o9 : InR .i64 (hundredths + ((iMax 0 (c - be.from_)) * be.per))) (o10 : InR .i64 (((i : Nat) : Int) + 1))
    (hg : G Try.prog E (f46K0 Try.prog) ⟨[.int .i64 c, .rsl (rowBr l) 0 l.length, .junk, .junk, .int .i64 (hundredths + ((iMax 0 (c - be.from_)) * be.per)), .junk, .junk, .junk, .rsl (rowBr l) 0 l.length, .int .i64 ((l.length : Nat) : Int), .int .i64 (((i : Nat) : Int) + 1), .junk, .junk, .junk, .junk, .junk, .junk, .junk, .junk, .junk, .junk, .junk, .junk, .junk, .junk, .junk, .junk, .junk, .junk, .junk, .junk, .junk, .junk, .junk, .junk, .junk, .junk, .junk, .junk, .junk, .junk, .junk], []⟩) : G Try.prog E (f46K0 Try.prog) (f46S0 c l hundredths i ) :=
  segC_step (n := 400) (ds := []) (cs := []) (live := [0, 1, 4, 8, 9, 10]) (m := 0) (evs := [.b true, .ld (.agg [.int .i64 be.from_, .int .i64 be.per]), .b false, .stop]) (obs := [(decide (((i : Nat) : Int) < ((l.length : Nat) : Int))) = true, 0 ≤ ((i : Nat) : Int) ∧ ((i : Nat) : Int) < ((l.length : Nat) : Int), ((rowBr l).drop (0 + (Int.toNat ((i : Nat) : Int)) * 2)).take 2 = [.int .i64 be.from_, .int .i64 be.per], 2 ≤ 2, InR .i64 (((i : Nat) : Int) + 1), (decide ((((i : Nat) : Int) + 1) < ((l.length : Nat) : Int))) = false, InR .i64 (c - be.from_), InR .i64 ((iMax 0 (c - be.from_)) * be.per), InR .i64 (hundredths + ((iMax 0 (c - be.from_)) * be.per)), InR .i64 (((i : Nat) : Int) + 1)]) hE.2.1 (hE.nogh _) mixed (by kernel_rfl) ⟨o0, o2, o3, (by decide), o5, o6, o7, o8, o9, o10, trivial⟩ hg
theorem p46_0_2 (c : Int) (l : (List Bra)) (hundredths : Int) (i : Nat)   {E : Env} {res : AV} (hE : PureE Try.prog 46 res E) (o0 : (decide (((i : Nat) : Int) < ((l.length : Nat) : Int))) = false) (o1 : InR .i64 (Int.tdiv hundredths 100))
    (hr : AvLe (.int .i64 (Int.tdiv hundredths 100)) res) : G Try.prog E (f46K0 Try.prog) (f46S0 c l hundredths i ) :=
  end_stepL (n := 400) (evs := [.b false]) (obs := [(decide (((i : Nat) : Int) < ((l.length : Nat) : Int))) = false, InR .i64 (Int.tdiv hundredths 100), (100 : Int) ≠ 0]) hE Try.func46 mixed (by kernel_rfl) ⟨o0, o1, (by decide), trivial⟩ hr
theorem f46W0 (c : Int) (l : (List Bra)) (hundredths : Int) (i : Nat) {E : Env} {rv : Int} (hE : PureE Try.prog 46 (.int .i64 rv) E)
    (h : ((((i : Nat) : Int) < ((l.length : Nat) : Int) → (∃ be : Bra, l[i]? = some be ∧ ((-9223372036854775808 ≤ ((i : Nat) : Int) + 1 ∧ ((i : Nat) : Int) + 1 ≤ 9223372036854775807) ∧ (((((i : Nat) : Int) + 1) < ((l.length : Nat) : Int) → ((-9223372036854775808 ≤ ((i : Nat) : Int) + 1 ∧ ((i : Nat) : Int) + 1 ≤ 9223372036854775807) ∧ (∃ be1 : Bra, l[i + 1]? = some be1 ∧ ((-9223372036854775808 ≤ (iMin c be1.from_) - be.from_ ∧ (iMin c be1.from_) - be.from_ ≤ 9223372036854775807) ∧ ((-9223372036854775808 ≤ (iMax 0 ((iMin c be1.from_) - be.from_)) * be.per ∧ (iMax 0 ((iMin c be1.from_) - be.from_)) * be.per ≤ 9223372036854775807) ∧ ((-9223372036854775808 ≤ hundredths + ((iMax 0 ((iMin c be1.from_) - be.from_)) * be.per) ∧ hundredths + ((iMax 0 ((iMin c be1.from_) - be.from_)) * be.per) ≤ 9223372036854775807) ∧ ((-9223372036854775808 ≤ ((i : Nat) : Int) + 1 ∧ ((i : Nat) : Int) + 1 ≤ 9223372036854775807) ∧ f46G0 E c l (hundredths + ((iMax 0 ((iMin c be1.from_) - be.from_)) * be.per)) (i + 1)))))))) ∧ (¬ ((((i : Nat) : Int) + 1) < ((l.length : Nat) : Int)) → ((-9223372036854775808 ≤ c - be.from_ ∧ c - be.from_ ≤ 9223372036854775807) ∧ ((-9223372036854775808 ≤ (iMax 0 (c - be.from_)) * be.per ∧ (iMax 0 (c - be.from_)) * be.per ≤ 9223372036854775807) ∧ ((-9223372036854775808 ≤ hundredths + ((iMax 0 (c - be.from_)) * be.per) ∧ hundredths + ((iMax 0 (c - be.from_)) * be.per) ≤ 9223372036854775807) ∧ ((-9223372036854775808 ≤ ((i : Nat) : Int) + 1 ∧ ((i : Nat) : Int) + 1 ≤ 9223372036854775807) ∧ f46G0 E c l (hundredths + ((iMax 0 (c - be.from_)) * be.per)) (i + 1)))))))))) ∧ (¬ (((i : Nat) : Int) < ((l.length : Nat) : Int)) → ((-9223372036854775808 ≤ Int.tdiv hundredths 100 ∧ Int.tdiv hundredths 100 ≤ 9223372036854775807) ∧ rv = (Int.tdiv hundredths 100))))) : f46G0 E c l hundredths i := by
  rcases Bool.eq_false_or_eq_true (decide (((i : Nat) : Int) < ((l.length : Nat) : Int))) with hc0 | hc0
  · have h := h.1 (of_decide_eq_true hc0)
    obtain ⟨be, h1, h⟩ := h
    obtain ⟨q5_1, h⟩ := h
    rcases Bool.eq_false_or_eq_true (decide ((((i : Nat) : Int) + 1) < ((l.length : Nat) : Int))) with hc1 | hc1
    · have h := h.1 (of_decide_eq_true hc1)
      obtain ⟨q7_2, h⟩ := h
      obtain ⟨be1, h2, h⟩ := h
      obtain ⟨q11_2, h⟩ := h
      obtain ⟨q12_2, h⟩ := h
      obtain ⟨q13_2, h⟩ := h
      obtain ⟨q14_2, h⟩ := h
      exact p46_0_0 c l hundredths i  be be1 hE hc0 (idx_ok h1) (row_part cBr (s := 2) (k := 0) (m := 2) (fun _ => rfl) (by decide) h1) q5_1 hc1 q7_2 (idx_ok h2) (row_part cBr (s := 2) (k := 0) (m := 1) (fun _ => rfl) (by decide) h2) q11_2 q12_2 q13_2 q14_2 h
    · have h := h.2 (of_decide_eq_false hc1)
      obtain ⟨q7_2, h⟩ := h
      obtain ⟨q8_2, h⟩ := h
      obtain ⟨q9_2, h⟩ := h
      obtain ⟨q10_2, h⟩ := h
      exact p46_0_1 c l hundredths i  be hE hc0 (idx_ok h1) (row_part cBr (s := 2) (k := 0) (m := 2) (fun _ => rfl) (by decide) h1) q5_1 hc1 q7_2 q8_2 q9_2 q10_2 h
  · have h := h.2 (of_decide_eq_false hc0)
    obtain ⟨q1_1, h⟩ := h
    exact p46_0_2 c l hundredths i   hE hc0 q1_1 (AvLe.of_eq (by rw [h]; try rfl))
def bAt (l : List Bra) (i : Nat) : Bra := l.getD i ⟨0, 0⟩
def badAt (l : List Bra) (i : Nat) : Bool := !within (bAt l i).from_ 0 1000000000 || (!within (bAt l i).per 0 100 || (decide (i > 0) && decide ((bAt l i).from_ ≤ (bAt l (i - 1)).from_)))
def chkFrom (l : List Bra) : Nat → Nat → Bool
  | 0, _ => true
  | d + 1, i => !badAt l i && chkFrom l d (i + 1)
def brOk (l : List Bra) : Bool := within l.length 1 8 && (decide ((bAt l 0).from_ = 0) && chkFrom l l.length 0)
def checkTaxK (c : Int) (l : List Bra) : Int := if amount c = false then 1 else if brOk l = false then 110 else 0

theorem bAt_get {l : List Bra} {i : Nat} (h : i < l.length) : l[i]? = some (bAt l i) := by simp [bAt, List.getD, h]

theorem checkTax_ok (c : Int) (l : List Bra) (h : l.length ≤ 9223372036854775807) : Pure Try.prog 45 [.int .i64 c, .rsl (rowBr l) 0 l.length] (.int .i64 (checkTaxK c l)) := pure_of Try.func45 f45b fun E hE => by
  refine f45W c l (rv := checkTaxK c l) hE ⟨fun h1 => by simp [checkTaxK, h1], fun h1 => ⟨fun h2 => by simp [checkTaxK, brOk, h1, h2], fun h2 => ?_⟩⟩
  have hl := within_iff.1 h2
  refine ⟨bAt l 0, bAt_get (by omega), fun h3 => by simp [checkTaxK, brOk, h1, h2, h3], fun h3 => ?_⟩
  have hr : checkTaxK c l = if chkFrom l l.length 0 = false then 110 else 0 := by simp [checkTaxK, brOk, h1, h2, h3]
  have key : ∀ (d i : Nat), i + d = l.length → (checkTaxK c l = if chkFrom l d i = false then 110 else 0) → f45G0 E c l i := by
    intro d
    induction d with
    | zero => intro i hd hr; exact f45W0 c l i (rv := checkTaxK c l) hE ⟨fun h => by omega, fun _ => by rw [hr]; rfl⟩
    | succ d ih =>
      intro i hd hr
      have hi := bAt_get (l := l) (i := i) (by omega)
      simp only [chkFrom] at hr
      refine f45W0 c l i (rv := checkTaxK c l) hE ⟨fun _ => ⟨_, hi, fun h4 => by rw [hr]; simp [badAt, h4], fun h4 => ⟨fun h5 => by rw [hr]; simp [badAt, h4, h5], fun h5 => ⟨fun h6 => ⟨by omega, by omega, bAt l (i - 1), ?_, fun h7 => by rw [hr]; simp [badAt, h4, h5, h7, show 0 < i by omega], fun h7 => ⟨by omega, ih (i + 1) (by omega) (by rw [hr]; simp [badAt, h4, h5, h7])⟩⟩, fun h6 => ⟨by omega, ih (i + 1) (by omega) (by rw [hr]; simp [badAt, h4, h5, show ¬ 0 < i by omega])⟩⟩⟩⟩, fun h => by omega⟩
      rw [show Int.toNat (((i : Nat) : Int) - 1) = i - 1 by omega]; exact bAt_get (by omega)
  exact key l.length 0 (by omega) hr

/-- Brackets as they should be. -/
structure BrOk (l : List Bra) : Prop where
  len1 : 1 ≤ l.length
  len : l.length ≤ 8
  f0 : (bAt l 0).from_ = 0
  from_ : ∀ i, i < l.length → 0 ≤ (bAt l i).from_ ∧ (bAt l i).from_ ≤ 1000000000
  per : ∀ i, i < l.length → 0 ≤ (bAt l i).per ∧ (bAt l i).per ≤ 100
  inc : ∀ i, i + 1 < l.length → (bAt l i).from_ < (bAt l (i + 1)).from_

theorem chk_at {l : List Bra} : ∀ {d i : Nat}, chkFrom l d i = true → ∀ j, i ≤ j → j < i + d → badAt l j = false
  | 0, i, _, j, h1, h2 => by omega
  | d + 1, i, h, j, h1, h2 => by
    simp only [chkFrom, Bool.and_eq_true, Bool.not_eq_true'] at h
    rcases Nat.lt_or_ge i j with h3 | h3
    · exact chk_at h.2 j (by omega) (by omega)
    · have : j = i := by omega
      rw [this]; exact h.1

theorem br_of {l : List Bra} (h : brOk l = true) : BrOk l := by
  simp only [brOk, Bool.and_eq_true, decide_eq_true_eq] at h
  obtain ⟨h1, h2, h3⟩ := h
  have h1 := within_iff.1 h1
  have hb : ∀ i, i < l.length → badAt l i = false := fun i hi => chk_at h3 i (by omega) (by omega)
  simp only [badAt, Bool.or_eq_false_iff, Bool.not_eq_false', Bool.and_eq_false_iff, decide_eq_false_iff_not] at hb
  refine ⟨by omega, by omega, h2, fun i hi => within_iff.1 (hb i hi).1, fun i hi => within_iff.1 (hb i hi).2.1, fun i hi => ?_⟩
  rcases (hb (i + 1) hi).2.2 with h4 | h4
  · omega
  · rw [Nat.add_sub_cancel] at h4; omega

/-- The hundredths of cents over the brackets. -/
def hunL (m : Int) : List Bra → Int
  | [] => 0
  | [b] => iMax 0 (m - b.from_) * b.per
  | b :: b' :: r => iMax 0 (iMin m b'.from_ - b.from_) * b.per + hunL m (b' :: r)
def taxI (m : Int) (l : List Bra) : Int := Int.tdiv (hunL m l) 100

/-- Sorted, in range. -/
def BrS (l : List Bra) : Prop := (∀ b ∈ l, 0 ≤ b.from_ ∧ b.from_ ≤ 1000000000 ∧ 0 ≤ b.per ∧ b.per ≤ 100) ∧ l.Pairwise fun a b => a.from_ < b.from_

theorem BrOk.sorted {l : List Bra} (h : BrOk l) : BrS l := by
  refine ⟨fun b hb => ?_, ?_⟩
  · obtain ⟨i, hi⟩ := List.getElem?_of_mem hb
    have hlt := (List.getElem?_eq_some_iff.1 hi).1
    rw [bAt_get hlt] at hi; cases hi
    have := h.from_ i hlt; have := h.per i hlt; omega
  · rw [List.pairwise_iff_getElem]
    have key : ∀ d i, i + d + 1 < l.length → (bAt l i).from_ < (bAt l (i + d + 1)).from_ := by
      intro d
      induction d with
      | zero => intro i hi; exact h.inc i hi
      | succ d ih => intro i hi; have h1 := ih i (by omega); have h2 := h.inc (i + d + 1) (by omega); simp only [Nat.add_assoc] at *; omega
    intro i j hi hj hij
    have e1 : l[i] = bAt l i := by have := bAt_get hi; rw [List.getElem?_eq_getElem hi] at this; exact Option.some.inj this
    have e2 : l[j] = bAt l j := by have := bAt_get hj; rw [List.getElem?_eq_getElem hj] at this; exact Option.some.inj this
    rw [e1, e2]
    have := key (j - i - 1) i (by omega)
    rw [show i + (j - i - 1) + 1 = j by omega] at this
    exact this

theorem part_bd {x p : Int} (hx : x ≤ 1000000001) (hp : 0 ≤ p ∧ p ≤ 100) : 0 ≤ iMax 0 x * p ∧ iMax 0 x * p ≤ 100000000100 := by
  have h0 : 0 ≤ iMax 0 x ∧ iMax 0 x ≤ 1000000001 := by simp only [iMax]; split <;> omega
  have h1 := Int.mul_nonneg h0.1 hp.1
  have h2 : iMax 0 x * p ≤ 1000000001 * 100 := Int.mul_le_mul h0.2 hp.2 hp.1 (by omega)
  omega

theorem hun_bd {m : Int} (hm : m ≤ 1000000001) : ∀ {l : List Bra}, BrS l → 0 ≤ hunL m l ∧ hunL m l ≤ 100000000100 * (l.length : Int)
  | [], _ => by simp [hunL]
  | [b], h => by
    have := h.1 b (by simp)
    have := part_bd (x := m - b.from_) (p := b.per) (by omega) (by omega)
    simp only [hunL, List.length_cons, List.length_nil]; omega
  | b :: b' :: r, h => by
    have h1 := h.1 b (by simp)
    have h2 : iMin m b'.from_ ≤ m := by simp only [iMin]; split <;> omega
    have h3 := part_bd (x := iMin m b'.from_ - b.from_) (p := b.per) (by omega) (by omega)
    have h4 := hun_bd hm (l := b' :: r) ⟨fun x hx => h.1 x (by simp [hx]), (List.pairwise_cons.1 h.2).2⟩
    simp only [hunL, List.length_cons] at *; omega

theorem tax_bd {m : Int} {l : List Bra} (hm : m ≤ 1000000001) (h : BrOk l) : 0 ≤ taxI m l ∧ taxI m l ≤ 1000000000000 ∧ hunL m l ≤ 1000000000000 ∧ 0 ≤ hunL m l := by
  have h1 := hun_bd hm h.sorted
  have := h.len
  have e : taxI m l = hunL m l / 100 := Int.tdiv_eq_ediv_of_nonneg h1.1
  rw [e]
  have : 100000000100 * (l.length : Int) ≤ 1000000000000 := by omega
  omega

theorem drop_hun {m : Int} {l : List Bra} {i : Nat} (h : i < l.length) :
    hunL m (l.drop i) = (if i + 1 < l.length then iMax 0 (iMin m (bAt l (i + 1)).from_ - (bAt l i).from_) * (bAt l i).per else iMax 0 (m - (bAt l i).from_) * (bAt l i).per) + hunL m (l.drop (i + 1)) := by
  have e1 : l[i] = bAt l i := by have := bAt_get h; rw [List.getElem?_eq_getElem h] at this; exact Option.some.inj this
  rw [List.drop_eq_getElem_cons h, e1]
  split
  · rename_i h2
    have e2 : l[i + 1] = bAt l (i + 1) := by have := bAt_get h2; rw [List.getElem?_eq_getElem h2] at this; exact Option.some.inj this
    rw [List.drop_eq_getElem_cons h2, e2]; rfl
  · rename_i h2
    rw [List.drop_eq_nil_of_le (by omega)]
    simp [hunL]

theorem BrS.drop {l : List Bra} (h : BrS l) (i : Nat) : BrS (l.drop i) := ⟨fun b hb => h.1 b (List.mem_of_mem_drop hb), h.2.sublist (List.drop_sublist _ _)⟩

theorem tax_ok (m : Int) (l : List Bra) (h : (0 ≤ m ∧ m ≤ 1000000000) ∧ brOk l = true) : Pure Try.prog 46 [.int .i64 m, .rsl (rowBr l) 0 l.length] (.int .i64 (taxI m l)) := pure_of Try.func46 f46b fun E hE => by
  obtain ⟨hm, hb⟩ := h
  have hb := br_of hb
  have hlen := hb.len
  obtain ⟨t1, t2, t3, t4⟩ := tax_bd (m := m) (by omega) hb
  have key : ∀ (d i : Nat) (hu : Int), i + d = l.length → 0 ≤ hu → hu + hunL m (l.drop i) = hunL m l → f46G0 E m l hu i := by
    intro d
    induction d with
    | zero =>
      intro i hu hd h0 he
      rw [List.drop_eq_nil_of_le (by omega)] at he
      simp only [hunL] at he
      have : hu = hunL m l := by omega
      subst this
      have e : Int.tdiv (hunL m l) 100 = taxI m l := rfl
      exact f46W0 m l _ i (rv := taxI m l) hE ⟨fun h => by omega, fun _ => ⟨by rw [e]; omega, e.symm⟩⟩
    | succ d ih =>
      intro i hu hd h0 he
      have hi := bAt_get (l := l) (i := i) (by omega)
      have hf := hb.from_ i (by omega)
      have hp := hb.per i (by omega)
      have hr := hun_bd (m := m) (by omega) (hb.sorted.drop (i + 1))
      rw [drop_hun (by omega)] at he
      refine f46W0 m l _ i (rv := taxI m l) hE ⟨fun _ => ⟨_, hi, by omega, fun h2 => ?_, fun h2 => ?_⟩, fun h => by omega⟩
      · rw [if_pos (by omega)] at he
        have hm2 : iMin m (bAt l (i + 1)).from_ ≤ m ∧ 0 ≤ iMin m (bAt l (i + 1)).from_ := by have := hb.from_ (i + 1) (by omega); simp only [iMin]; split <;> omega
        have hq := part_bd (x := iMin m (bAt l (i + 1)).from_ - (bAt l i).from_) (p := (bAt l i).per) (by omega) hp
        exact ⟨by omega, _, bAt_get (by omega), by omega, by omega, by omega, by omega, ih (i + 1) _ (by omega) (by omega) (by omega)⟩
      · rw [if_neg (by omega)] at he
        have hq := part_bd (x := m - (bAt l i).from_) (p := (bAt l i).per) (by omega) hp
        exact ⟨by omega, by omega, by omega, by omega, ih (i + 1) _ (by omega) (by omega) (by omega)⟩
  exact f46W m l hE (key l.length 0 0 (by omega) (by omega) (by simp))

end Go.Proofs.Ytmdbebbibecidaa

namespace Go.Proofs.Ytmdbebbibecidaa
open Go Ax
open Go.Proofs
theorem f24b : Try.f24.body = some (bodyAt Try.prog 24) := by kernel_rfl
def f24K0 (P : Program) : List Item := kAt 400 [.code (bodyAt P 24)] [.b false, .stop]
def f24S0 (c : Int) (l : (List Bra)) (high : Int) (low : Int)  : St := ⟨[.int .i64 c, .rsl (rowBr l) 0 l.length, .junk, .junk, .junk, .junk, .junk, .int .i64 low, .int .i64 high, .junk, .junk, .junk, .junk, .junk, .junk, .junk, .junk, .junk, .junk, .junk, .junk, .junk, .junk, .junk, .junk, .junk, .junk, .junk, .junk, .junk, .junk, .junk, .junk, .junk, .junk, .junk], []⟩
def f24G0 (E : Env) (c : Int) (l : (List Bra)) (high : Int) (low : Int) : Prop := G Try.prog E (f24K0 Try.prog) (f24S0 c l high low )
theorem p24_start_0 (c : Int) (l : (List Bra))   {E : Env} {res : AV} (hE : PureE Try.prog 24 res E) (o0 : PureF Try.prog (.clos 45 [] []) [.int .i64 c, .rsl (rowBr l) 0 l.length] (.int .i64 (checkTaxK c l))) (o1 : ((checkTaxK c l) != 0) = true)
    (hr : AvLe (.tup [.int .i64 0, .int .i64 (checkTaxK c l)]) res) : G Try.prog E [.code (bodyAt Try.prog 24)] ⟨[.int .i64 c, .rsl (rowBr l) 0 l.length] ++ unds (Try.f24.ntmps - 2), []⟩ :=
  end_stepL (n := 400) (evs := [.v (.int .i64 (checkTaxK c l)), .b true]) (obs := [PureF Try.prog (.clos 45 [] []) [.int .i64 c, .rsl (rowBr l) 0 l.length] (.int .i64 (checkTaxK c l)), ((checkTaxK c l) != 0) = true]) hE Try.func24 mixed (by kernel_rfl) ⟨o0, o1, trivial⟩ hr
theorem p24_start_1 (c : Int) (l : (List Bra))   {E : Env} {rv : AV} (hE : PureE Try.prog 24 rv E) (o0 : PureF Try.prog (.clos 45 [] []) [.int .i64 c, .rsl (rowBr l) 0 l.length] (.int .i64 (checkTaxK c l))) (o1 : ((checkTaxK c l) != 0) = false)
    (hg : G Try.prog E (f24K0 Try.prog) ⟨[.int .i64 c, .rsl (rowBr l) 0 l.length, .junk, .junk, .junk, .junk, .junk, .int .i64 0, .int .i64 1000000001, .junk, .junk, .junk, .junk, .junk, .junk, .junk, .junk, .junk, .junk, .junk, .junk, .junk, .junk, .junk, .junk, .junk, .junk, .junk, .junk, .junk, .junk, .junk, .junk, .junk, .junk, .junk], []⟩) : G Try.prog E [.code (bodyAt Try.prog 24)] ⟨[.int .i64 c, .rsl (rowBr l) 0 l.length] ++ unds (Try.f24.ntmps - 2), []⟩ :=
  segC_step (n := 400) (ds := []) (cs := []) (live := [0, 1, 7, 8]) (m := 0) (evs := [.v (.int .i64 (checkTaxK c l)), .b false, .stop]) (obs := [PureF Try.prog (.clos 45 [] []) [.int .i64 c, .rsl (rowBr l) 0 l.length] (.int .i64 (checkTaxK c l)), ((checkTaxK c l) != 0) = false]) hE.2.1 (hE.nogh _) mixed (by kernel_rfl) ⟨o0, o1, trivial⟩ hg
theorem f24W (c : Int) (l : (List Bra)) {E : Env} {rv : (Int × Int)} (hE : PureE Try.prog 24 (.tup [.int .i64 rv.1, .int .i64 rv.2]) E)
    (h : ((l.length ≤ 9223372036854775807) ∧ ((¬ ((checkTaxK c l) = 0) → rv = (0, (checkTaxK c l))) ∧ ((checkTaxK c l) = 0 → f24G0 E c l 1000000001 0)))) : G Try.prog E [.code (bodyAt Try.prog 24)] ⟨[.int .i64 c, .rsl (rowBr l) 0 l.length] ++ unds (Try.f24.ntmps - 2), []⟩ := by
  obtain ⟨h1, h⟩ := h
  rcases Bool.eq_false_or_eq_true ((checkTaxK c l) != 0) with hc0 | hc0
  · have h := h.1 (bneT hc0)
    exact p24_start_0 c l    hE (pureF_of Try.func45 (by kernel_rfl) f45b (checkTax_ok c l h1)) hc0 (AvLe.of_eq (by rw [h]; try rfl))
  · have h := h.2 (bneF hc0)
    exact p24_start_1 c l    hE (pureF_of Try.func45 (by kernel_rfl) f45b (checkTax_ok c l h1)) hc0 h
theorem p24_0_0 (c : Int) (l : (List Bra)) (high : Int) (low : Int)   {E : Env} {rv : AV} (hE : PureE Try.prog 24 rv E) (o0 : (decide (low < high)) = true) (o1 : InR .i64 (low + high)) (o2 : InR .i64 (Int.tdiv (low + high) 2)) (o4 : PureF Try.prog (.clos 46 [] []) [.int .i64 (Int.tdiv (low + high) 2), .rsl (rowBr l) 0 l.length] (.int .i64 (taxI (Int.tdiv (low + high) 2) l))) (o5 : InR .i64 ((Int.tdiv (low + high) 2) - (taxI (Int.tdiv (low + high) 2) l))) (o6 : (decide (((Int.tdiv (low + high) 2) - (taxI (Int.tdiv (low + high) 2) l)) ≥ c)) = true)
    (hg : G Try.prog E (f24K0 Try.prog) ⟨[.int .i64 c, .rsl (rowBr l) 0 l.length, .junk, .junk, .junk, .junk, .junk, .int .i64 low, .int .i64 (Int.tdiv (low + high) 2), .junk, .junk, .junk, .junk, .junk, .junk, .junk, .junk, .junk, .junk, .junk, .junk, .junk, .junk, .junk, .junk, .junk, .junk, .junk, .junk, .junk, .junk, .junk, .junk, .junk, .junk, .junk], []⟩) : G Try.prog E (f24K0 Try.prog) (f24S0 c l high low ) :=
  segC_step (n := 400) (ds := []) (cs := []) (live := [0, 1, 7, 8]) (m := 0) (evs := [.b true, .v (.int .i64 (taxI (Int.tdiv (low + high) 2) l)), .b true, .stop]) (obs := [(decide (low < high)) = true, InR .i64 (low + high), InR .i64 (Int.tdiv (low + high) 2), (2 : Int) ≠ 0, PureF Try.prog (.clos 46 [] []) [.int .i64 (Int.tdiv (low + high) 2), .rsl (rowBr l) 0 l.length] (.int .i64 (taxI (Int.tdiv (low + high) 2) l)), InR .i64 ((Int.tdiv (low + high) 2) - (taxI (Int.tdiv (low + high) 2) l)), (decide (((Int.tdiv (low + high) 2) - (taxI (Int.tdiv (low + high) 2) l)) ≥ c)) = true]) hE.2.1 (hE.nogh _) mixed (by kernel_rfl) ⟨o0, o1, o2, (by decide), o4, o5, o6, trivial⟩ hg
theorem p24_0_1 (c : Int) (l : (List Bra)) (high : Int) (low : Int)   {E : Env} {rv : AV} (hE : PureE Try.prog 24 rv E) (o0 : (decide (low < high)) = true) (o1 : InR .i64 (low + high)) (o2 : InR .i64 (Int.tdiv (low + high) 2)) (o4 : PureF Try.prog (.clos 46 [] []) [.int .i64 (Int.tdiv (low + high) 2), .rsl (rowBr l) 0 l.length] (.int .i64 (taxI (Int.tdiv (low + high) 2) l))) (o5 : InR .i64 ((Int.tdiv (low + high) 2) - (taxI (Int.tdiv (low + high) 2) l))) (o6 : (decide (((Int.tdiv (low + high) 2) - (taxI (Int.tdiv (low + high) 2) l)) ≥ c)) = false) (o7 : InR .i64 ((Int.tdiv (low + high) 2) + 1))
    (hg : G Try.prog E (f24K0 Try.prog) ⟨[.int .i64 c, .rsl (rowBr l) 0 l.length, .junk, .junk, .junk, .junk, .junk, .int .i64 ((Int.tdiv (low + high) 2) + 1), .int .i64 high, .junk, .junk, .junk, .junk, .junk, .junk, .junk, .junk, .junk, .junk, .junk, .junk, .junk, .junk, .junk, .junk, .junk, .junk, .junk, .junk, .junk, .junk, .junk, .junk, .junk, .junk, .junk], []⟩) : G Try.prog E (f24K0 Try.prog) (f24S0 c l high low ) :=
  segC_step (n := 400) (ds := []) (cs := []) (live := [0, 1, 7, 8]) (m := 0) (evs := [.b true, .v (.int .i64 (taxI (Int.tdiv (low + high) 2) l)), .b false, .stop]) (obs := [(decide (low < high)) = true, InR .i64 (low + high), InR .i64 (Int.tdiv (low + high) 2), (2 : Int) ≠ 0, PureF Try.prog (.clos 46 [] []) [.int .i64 (Int.tdiv (low + high) 2), .rsl (rowBr l) 0 l.length] (.int .i64 (taxI (Int.tdiv (low + high) 2) l)), InR .i64 ((Int.tdiv (low + high) 2) - (taxI (Int.tdiv (low + high) 2) l)), (decide (((Int.tdiv (low + high) 2) - (taxI (Int.tdiv (low + high) 2) l)) ≥ c)) = false, InR .i64 ((Int.tdiv (low + high) 2) + 1)]) hE.2.1 (hE.nogh _) mixed (by kernel_rfl) ⟨o0, o1, o2, (by decide), o4, o5, o6, o7, trivial⟩ hg
theorem p24_0_2 (c : Int) (l : (List Bra)) (high : Int) (low : Int)   {E : Env} {res : AV} (hE : PureE Try.prog 24 res E) (o0 : (decide (low < high)) = false) (o1 : (decide (low > 1000000000)) = true)
    (hr : AvLe (.tup [.int .i64 0, .int .i64 3]) res) : G Try.prog E (f24K0 Try.prog) (f24S0 c l high low ) :=
  end_stepL (n := 400) (evs := [.b false, .b true]) (obs := [(decide (low < high)) = false, (decide (low > 1000000000)) = true]) hE Try.func24 mixed (by kernel_rfl) ⟨o0, o1, trivial⟩ hr
theorem p24_0_3 (c : Int) (l : (List Bra)) (high : Int) (low : Int)   {E : Env} {res : AV} (hE : PureE Try.prog 24 res E) (o0 : (decide (low < high)) = false) (o1 : (decide (low > 1000000000)) = false)
    (hr : AvLe (.tup [.int .i64 low, .int .i64 0]) res) : G Try.prog E (f24K0 Try.prog) (f24S0 c l high low ) :=
  end_stepL (n := 400) (evs := [.b false, .b false]) (obs := [(decide (low < high)) = false, (decide (low > 1000000000)) = false]) hE Try.func24 mixed (by kernel_rfl) ⟨o0, o1, trivial⟩ hr
theorem f24W0 (c : Int) (l : (List Bra)) (high : Int) (low : Int) {E : Env} {rv : (Int × Int)} (hE : PureE Try.prog 24 (.tup [.int .i64 rv.1, .int .i64 rv.2]) E)
    (h : ((low < high → ((-9223372036854775808 ≤ low + high ∧ low + high ≤ 9223372036854775807) ∧ ((-9223372036854775808 ≤ Int.tdiv (low + high) 2 ∧ Int.tdiv (low + high) 2 ≤ 9223372036854775807) ∧ ((((0 : Int) ≤ (Int.tdiv (low + high) 2) ∧ ((Int.tdiv (low + high) 2) : Int) ≤ 1000000000) ∧ brOk l = true) ∧ ((-9223372036854775808 ≤ (Int.tdiv (low + high) 2) - (taxI (Int.tdiv (low + high) 2) l) ∧ (Int.tdiv (low + high) 2) - (taxI (Int.tdiv (low + high) 2) l) ≤ 9223372036854775807) ∧ ((((Int.tdiv (low + high) 2) - (taxI (Int.tdiv (low + high) 2) l)) ≥ c → f24G0 E c l (Int.tdiv (low + high) 2) low) ∧ (¬ (((Int.tdiv (low + high) 2) - (taxI (Int.tdiv (low + high) 2) l)) ≥ c) → ((-9223372036854775808 ≤ (Int.tdiv (low + high) 2) + 1 ∧ (Int.tdiv (low + high) 2) + 1 ≤ 9223372036854775807) ∧ f24G0 E c l high ((Int.tdiv (low + high) 2) + 1))))))))) ∧ (¬ (low < high) → ((low > 1000000000 → rv = (0, 3)) ∧ (¬ (low > 1000000000) → rv = (low, 0)))))) : f24G0 E c l high low := by
  rcases Bool.eq_false_or_eq_true (decide (low < high)) with hc0 | hc0
  · have h := h.1 (of_decide_eq_true hc0)
    obtain ⟨q1_1, h⟩ := h
    obtain ⟨q2_1, h⟩ := h
    obtain ⟨h1, h⟩ := h
    obtain ⟨q5_1, h⟩ := h
    rcases Bool.eq_false_or_eq_true (decide (((Int.tdiv (low + high) 2) - (taxI (Int.tdiv (low + high) 2) l)) ≥ c)) with hc1 | hc1
    · have h := h.1 (of_decide_eq_true hc1)
      exact p24_0_0 c l high low   hE hc0 q1_1 q2_1 (pureF_of Try.func46 (by kernel_rfl) f46b (tax_ok (Int.tdiv (low + high) 2) l h1)) q5_1 hc1 h
    · have h := h.2 (of_decide_eq_false hc1)
      obtain ⟨q7_2, h⟩ := h
      exact p24_0_1 c l high low   hE hc0 q1_1 q2_1 (pureF_of Try.func46 (by kernel_rfl) f46b (tax_ok (Int.tdiv (low + high) 2) l h1)) q5_1 hc1 q7_2 h
  · have h := h.2 (of_decide_eq_false hc0)
    rcases Bool.eq_false_or_eq_true (decide (low > 1000000000)) with hc1 | hc1
    · have h := h.1 (of_decide_eq_true hc1)
      exact p24_0_2 c l high low   hE hc0 hc1 (AvLe.of_eq (by rw [h]; try rfl))
    · have h := h.2 (of_decide_eq_false hc1)
      exact p24_0_3 c l high low   hE hc0 hc1 (AvLe.of_eq (by rw [h]; try rfl))
theorem check0 {c : Int} {l : List Bra} (h : checkTaxK c l = 0) : (0 ≤ c ∧ c ≤ 1000000000) ∧ brOk l = true := by
  simp only [checkTaxK] at h
  split at h
  · cases h
  · rename_i h1
    split at h
    · cases h
    · rename_i h2
      exact ⟨within_iff.1 (by simpa [amount] using h1), by simpa using h2⟩

/-- Search by halves. -/
def bsI (p : Int → Bool) : Nat → Int → Int → Int
  | 0, lo, _ => lo
  | f + 1, lo, hi => if lo < hi then (if p (Int.tdiv (lo + hi) 2) then bsI p f lo (Int.tdiv (lo + hi) 2) else bsI p f (Int.tdiv (lo + hi) 2 + 1) hi) else lo

theorem mid {lo hi : Int} (h0 : 0 ≤ lo) (h : lo < hi) : lo ≤ Int.tdiv (lo + hi) 2 ∧ Int.tdiv (lo + hi) 2 < hi ∧ hi - (Int.tdiv (lo + hi) 2 + 1) ≤ (hi - lo) / 2 ∧ Int.tdiv (lo + hi) 2 - lo ≤ (hi - lo) / 2 := by
  rw [Int.tdiv_eq_ediv_of_nonneg (by omega)]; omega

def netP (c : Int) (l : List Bra) (m : Int) : Bool := decide (m - taxI m l ≥ c)
def netOf (r : Int) : Int × Int := if r > 1000000000 then (0, 3) else (r, 0)
def netK (c : Int) (l : List Bra) : Int × Int := if checkTaxK c l = 0 then netOf (bsI (netP c l) 40 0 1000000001) else (0, checkTaxK c l)

theorem NetP_ok (c : Int) (l : List Bra) (h : l.length ≤ 9223372036854775807) : Pure Try.prog 24 [.int .i64 c, .rsl (rowBr l) 0 l.length] (.tup [.int .i64 (netK c l).1, .int .i64 (netK c l).2]) := pure_of Try.func24 f24b fun E hE => by
  refine f24W c l (rv := netK c l) hE ⟨h, fun h1 => by rw [netK, if_neg h1], fun h1 => ?_⟩
  have hb := check0 h1
  have hB := br_of hb.2
  have key : ∀ (f : Nat) (hi lo : Int), 0 ≤ lo → lo ≤ hi → hi ≤ 1000000001 → hi - lo < (2 : Int) ^ f → netK c l = netOf (bsI (netP c l) f lo hi) → f24G0 E c l hi lo := by
    intro f
    induction f with
    | zero =>
      intro hi lo h0 h2 h3 h4 hr
      have : hi = lo := by simp at h4; omega
      subst this
      simp only [bsI] at hr
      exact f24W0 c l _ _ (rv := netK c l) hE ⟨fun h => by omega, fun _ => ⟨fun h5 => by rw [hr, netOf, if_pos h5], fun h5 => by rw [hr, netOf, if_neg h5]⟩⟩
    | succ f ih =>
      intro hi lo h0 h2 h3 h4 hr
      rw [Int.pow_succ] at h4
      simp only [bsI] at hr
      refine f24W0 c l _ _ (rv := netK c l) hE ⟨fun h5 => ?_, fun h5 => ⟨fun h6 => ?_, fun h6 => ?_⟩⟩
      · obtain ⟨m1, m2, m3, m4⟩ := mid h0 h5
        obtain ⟨t1, t2, -, -⟩ := tax_bd (m := Int.tdiv (lo + hi) 2) (by omega) hB
        rw [if_pos h5] at hr
        refine ⟨by omega, by omega, ⟨by omega, hb.2⟩, by omega, fun h6 => ?_, fun h6 => ⟨by omega, ?_⟩⟩
        · rw [if_pos (by simp only [netP]; exact decide_eq_true h6)] at hr
          exact ih _ _ h0 m1 (by omega) (by omega) hr
        · rw [if_neg (by simp only [netP]; simpa using h6)] at hr
          exact ih _ _ (by omega) (by omega) h3 (by omega) hr
      · rw [if_neg h5] at hr; rw [hr, netOf, if_pos h6]
      · rw [if_neg h5] at hr; rw [hr, netOf, if_neg h6]
  exact key 40 1000000001 0 (by omega) (by omega) (by omega) (by decide) (by rw [netK, if_pos h1])

theorem f17b : Try.f17.body = some (bodyAt Try.prog 17) := by kernel_rfl
def f17K0 (P : Program) : List Item := kAt 400 [.code (bodyAt P 17)] [.b false, .stop]
def f17S0 (a : (List Int)) (b : (List Int)) (i : Nat)  : St := ⟨[.rsl (rowI a) 0 a.length, .rsl (rowI b) 0 b.length, .junk, .junk, .junk, .int .i64 ((i : Nat) : Int), .junk, .junk, .junk, .junk, .junk, .junk, .junk, .junk, .junk, .junk, .junk, .junk, .junk, .junk, .junk, .junk, .junk, .junk, .junk, .junk], []⟩
def f17G0 (E : Env) (a : (List Int)) (b : (List Int)) (i : Nat) : Prop := G Try.prog E (f17K0 Try.prog) (f17S0 a b i )
theorem p17_start_0 (a : (List Int)) (b : (List Int))   {E : Env} {res : AV} (hE : PureE Try.prog 17 res E) (o0 : (((a.length : Nat) : Int) != ((b.length : Nat) : Int)) = true)
    (hr : AvLe (.bool false) res) : G Try.prog E [.code (bodyAt Try.prog 17)] ⟨[.rsl (rowI a) 0 a.length, .rsl (rowI b) 0 b.length] ++ unds (Try.f17.ntmps - 2), []⟩ :=
  end_stepL (n := 400) (evs := [.b true]) (obs := [(((a.length : Nat) : Int) != ((b.length : Nat) : Int)) = true]) hE Try.func17 mixed (by kernel_rfl) ⟨o0, trivial⟩ hr
theorem p17_start_1 (a : (List Int)) (b : (List Int))   {E : Env} {rv : AV} (hE : PureE Try.prog 17 rv E) (o0 : (((a.length : Nat) : Int) != ((b.length : Nat) : Int)) = false)
    (hg : G Try.prog E (f17K0 Try.prog) ⟨[.rsl (rowI a) 0 a.length, .rsl (rowI b) 0 b.length, .junk, .junk, .junk, .int .i64 0, .junk, .junk, .junk, .junk, .junk, .junk, .junk, .junk, .junk, .junk, .junk, .junk, .junk, .junk, .junk, .junk, .junk, .junk, .junk, .junk], []⟩) : G Try.prog E [.code (bodyAt Try.prog 17)] ⟨[.rsl (rowI a) 0 a.length, .rsl (rowI b) 0 b.length] ++ unds (Try.f17.ntmps - 2), []⟩ :=
  segC_step (n := 400) (ds := []) (cs := []) (live := [0, 1, 5]) (m := 0) (evs := [.b false, .stop]) (obs := [(((a.length : Nat) : Int) != ((b.length : Nat) : Int)) = false]) hE.2.1 (hE.nogh _) mixed (by kernel_rfl) ⟨o0, trivial⟩ hg
theorem f17W (a : (List Int)) (b : (List Int)) {E : Env} {rv : Bool} (hE : PureE Try.prog 17 (.bool rv) E)
    (h : ((¬ (((a.length : Nat) : Int) = ((b.length : Nat) : Int)) → rv = false) ∧ (((a.length : Nat) : Int) = ((b.length : Nat) : Int) → f17G0 E a b 0))) : G Try.prog E [.code (bodyAt Try.prog 17)] ⟨[.rsl (rowI a) 0 a.length, .rsl (rowI b) 0 b.length] ++ unds (Try.f17.ntmps - 2), []⟩ := by
  rcases Bool.eq_false_or_eq_true (((a.length : Nat) : Int) != ((b.length : Nat) : Int)) with hc0 | hc0
  · have h := h.1 (bneT hc0)
    exact p17_start_0 a b    hE hc0 (AvLe.of_eq (by rw [h]; try rfl))
  · have h := h.2 (bneF hc0)
    exact p17_start_1 a b    hE hc0 h
theorem p17_0_0 (a : (List Int)) (b : (List Int)) (i : Nat)  (e : Int) (e1 : Int)  {E : Env} {res : AV} (hE : PureE Try.prog 17 res E) (o0 : (decide (((i : Nat) : Int) < ((a.length : Nat) : Int))) = true) (o2 : 0 ≤ ((i : Nat) : Int) ∧ ((i : Nat) : Int) < ((a.length : Nat) : Int)) (o3 : ((rowI a).drop (0 + (Int.toNat ((i : Nat) : Int)) * 1)).take 1 = [.int .i64 e]) (o5 : 0 ≤ ((i : Nat) : Int) ∧ ((i : Nat) : Int) < ((b.length : Nat) : Int)) (o6 : ((rowI b).drop (0 + (Int.toNat ((i : Nat) : Int)) * 1)).take 1 = [.int .i64 e1]) (o7 : (e != e1) = true)
    (hr : AvLe (.bool false) res) : G Try.prog E (f17K0 Try.prog) (f17S0 a b i ) :=
  end_stepL (n := 400) (evs := [.b true, .ld (.int .i64 e), .ld (.int .i64 e1), .b true]) (obs := [(decide (((i : Nat) : Int) < ((a.length : Nat) : Int))) = true, 0 ≤ ((i : Nat) : Int) ∧ ((i : Nat) : Int) < ((a.length : Nat) : Int), ((rowI a).drop (0 + (Int.toNat ((i : Nat) : Int)) * 1)).take 1 = [.int .i64 e], 0 ≤ ((i : Nat) : Int) ∧ ((i : Nat) : Int) < ((b.length : Nat) : Int), ((rowI b).drop (0 + (Int.toNat ((i : Nat) : Int)) * 1)).take 1 = [.int .i64 e1], (e != e1) = true]) hE Try.func17 mixed (by kernel_rfl) ⟨o0, o2, o3, o5, o6, o7, trivial⟩ hr
theorem p17_0_1 (a : (List Int)) (b : (List Int)) (i : Nat)  (e : Int) (e1 : Int)  {E : Env} {rv : AV} (hE : PureE Try.prog 17 rv E) (o0 : (decide (((i : Nat) : Int) < ((a.length : Nat) : Int))) = true) (o2 : 0 ≤ ((i : Nat) : Int) ∧ ((i : Nat) : Int) < ((a.length : Nat) : Int)) (o3 : ((rowI a).drop (0 + (Int.toNat ((i : Nat) : Int)) * 1)).take 1 = [.int .i64 e]) (o5 : 0 ≤ ((i : Nat) : Int) ∧ ((i : Nat) : Int) < ((b.length : Nat) : Int)) (o6 : ((rowI b).drop (0 + (Int.toNat ((i : Nat) : Int)) * 1)).take 1 = [.int .i64 e1]) (o7 : (e != e1) = false) (o8 : InR .i64 (((i : Nat) : Int) + 1))
    (hg : G Try.prog E (f17K0 Try.prog) ⟨[.rsl (rowI a) 0 a.length, .rsl (rowI b) 0 b.length, .junk, .junk, .junk, .int .i64 (((i : Nat) : Int) + 1), .junk, .junk, .junk, .junk, .junk, .junk, .junk, .junk, .junk, .junk, .junk, .junk, .junk, .junk, .junk, .junk, .junk, .junk, .junk, .junk], []⟩) : G Try.prog E (f17K0 Try.prog) (f17S0 a b i ) :=
  segC_step (n := 400) (ds := []) (cs := []) (live := [0, 1, 5]) (m := 0) (evs := [.b true, .ld (.int .i64 e), .ld (.int .i64 e1), .b false, .stop]) (obs := [(decide (((i : Nat) : Int) < ((a.length : Nat) : Int))) = true, 0 ≤ ((i : Nat) : Int) ∧ ((i : Nat) : Int) < ((a.length : Nat) : Int), ((rowI a).drop (0 + (Int.toNat ((i : Nat) : Int)) * 1)).take 1 = [.int .i64 e], 0 ≤ ((i : Nat) : Int) ∧ ((i : Nat) : Int) < ((b.length : Nat) : Int), ((rowI b).drop (0 + (Int.toNat ((i : Nat) : Int)) * 1)).take 1 = [.int .i64 e1], (e != e1) = false, InR .i64 (((i : Nat) : Int) + 1)]) hE.2.1 (hE.nogh _) mixed (by kernel_rfl) ⟨o0, o2, o3, o5, o6, o7, o8, trivial⟩ hg
theorem p17_0_2 (a : (List Int)) (b : (List Int)) (i : Nat)   {E : Env} {res : AV} (hE : PureE Try.prog 17 res E) (o0 : (decide (((i : Nat) : Int) < ((a.length : Nat) : Int))) = false)
    (hr : AvLe (.bool true) res) : G Try.prog E (f17K0 Try.prog) (f17S0 a b i ) :=
  end_stepL (n := 400) (evs := [.b false]) (obs := [(decide (((i : Nat) : Int) < ((a.length : Nat) : Int))) = false]) hE Try.func17 mixed (by kernel_rfl) ⟨o0, trivial⟩ hr
theorem f17W0 (a : (List Int)) (b : (List Int)) (i : Nat) {E : Env} {rv : Bool} (hE : PureE Try.prog 17 (.bool rv) E)
    (h : ((((i : Nat) : Int) < ((a.length : Nat) : Int) → (∃ e : Int, a[i]? = some e ∧ (∃ e1 : Int, b[i]? = some e1 ∧ ((¬ (e = e1) → rv = false) ∧ (e = e1 → ((-9223372036854775808 ≤ ((i : Nat) : Int) + 1 ∧ ((i : Nat) : Int) + 1 ≤ 9223372036854775807) ∧ f17G0 E a b (i + 1))))))) ∧ (¬ (((i : Nat) : Int) < ((a.length : Nat) : Int)) → rv = true))) : f17G0 E a b i := by
  rcases Bool.eq_false_or_eq_true (decide (((i : Nat) : Int) < ((a.length : Nat) : Int))) with hc0 | hc0
  · have h := h.1 (of_decide_eq_true hc0)
    obtain ⟨e, h1, h⟩ := h
    obtain ⟨e1, h2, h⟩ := h
    rcases Bool.eq_false_or_eq_true (e != e1) with hc1 | hc1
    · have h := h.1 (bneT hc1)
      exact p17_0_0 a b i  e e1 hE hc0 (idx_ok h1) (row_part cI (s := 1) (k := 0) (m := 1) (fun _ => rfl) (by decide) h1) (idx_ok h2) (row_part cI (s := 1) (k := 0) (m := 1) (fun _ => rfl) (by decide) h2) hc1 (AvLe.of_eq (by rw [h]; try rfl))
    · have h := h.2 (bneF hc1)
      obtain ⟨q8_2, h⟩ := h
      exact p17_0_1 a b i  e e1 hE hc0 (idx_ok h1) (row_part cI (s := 1) (k := 0) (m := 1) (fun _ => rfl) (by decide) h1) (idx_ok h2) (row_part cI (s := 1) (k := 0) (m := 1) (fun _ => rfl) (by decide) h2) hc1 q8_2 h
  · have h := h.2 (of_decide_eq_false hc0)
    exact p17_0_2 a b i   hE hc0 (AvLe.of_eq (by rw [h]; try rfl))

theorem sameInts_ok (a b : List Int) (h : a = b ∧ a.length ≤ 1000000) : Pure Try.prog 17 [.rsl (rowI a) 0 a.length, .rsl (rowI b) 0 b.length] (.bool true) := pure_of Try.func17 f17b fun E hE => by
  obtain ⟨rfl, hl⟩ := h
  have key : ∀ (d i : Nat), i + d = a.length → f17G0 E a a i := by
    intro d
    induction d with
    | zero => intro i hd; exact f17W0 a a i (rv := true) hE ⟨fun h => by omega, fun _ => rfl⟩
    | succ d ih =>
      intro i hd
      have hi : a[i]? = some a[i] := List.getElem?_eq_getElem (by omega)
      exact f17W0 a a i (rv := true) hE ⟨fun _ => ⟨_, hi, _, hi, fun h => absurd rfl h, fun _ => ⟨by omega, ih (i + 1) (by omega)⟩⟩, fun h => by omega⟩
  exact f17W a a (rv := true) hE ⟨fun h => absurd rfl h, fun _ => key a.length 0 (by omega)⟩

theorem f20b : Try.f20.body = some (bodyAt Try.prog 20) := by kernel_rfl
theorem p20_start_0    {E : Env} {res : AV} (hE : PureE Try.prog 20 res E) (o0 : LentF Try.prog (.clos 15 [] []) [.int .i64 100, .sl 0 0 0 3 1] [⟨true, 0, 1, true, [.int .i64 1, .int .i64 1, .int .i64 1], true⟩] (.tup [.rsl (rowI ((splitK 100 ([1, 1, 1])).1)) 0 (((splitK 100 ([1, 1, 1])).1).length), .int .i64 ((splitK 100 ([1, 1, 1])).2)]) [⟨false, 1, 1, true, [], false⟩]) (o1 : PureF Try.prog (.clos 24 [] []) [.int .i64 2500, .rsl [.int .i64 0, .int .i64 10, .int .i64 1000, .int .i64 20] 0 2] (.tup [.int .i64 ((netK 2500 ([(⟨0, 10⟩ : Bra), (⟨1000, 20⟩ : Bra)])).1), .int .i64 ((netK 2500 ([(⟨0, 10⟩ : Bra), (⟨1000, 20⟩ : Bra)])).2)])) (o3 : ((splitK 100 ([1, 1, 1])).2 == 0) = true) (o4 : ((netK 2500 ([(⟨0, 10⟩ : Bra), (⟨1000, 20⟩ : Bra)])).2 == 0) = true) (o5 : PureF Try.prog (.clos 17 [] []) [.rsl (rowI ((splitK 100 ([1, 1, 1])).1)) 0 (((splitK 100 ([1, 1, 1])).1).length), .rsl [.int .i64 34, .int .i64 33, .int .i64 33] 0 3] (.bool true)) (o7 : true = true)
    (hr : AvLe (.bool ((netK 2500 ([(⟨0, 10⟩ : Bra), (⟨1000, 20⟩ : Bra)])).1 == 2999)) res) : G Try.prog E [.code (bodyAt Try.prog 20)] ⟨[] ++ unds (Try.f20.ntmps - 0), []⟩ :=
  end_stepL (n := 400) (evs := [.lent [0] (.tup [.rsl (rowI ((splitK 100 ([1, 1, 1])).1)) 0 (((splitK 100 ([1, 1, 1])).1).length), .int .i64 ((splitK 100 ([1, 1, 1])).2)]) [⟨false, 1, 1, true, [], false⟩], .v (.tup [.int .i64 ((netK 2500 ([(⟨0, 10⟩ : Bra), (⟨1000, 20⟩ : Bra)])).1), .int .i64 ((netK 2500 ([(⟨0, 10⟩ : Bra), (⟨1000, 20⟩ : Bra)])).2)]), .b true, .b true, .v (.bool true), .b true]) (obs := [LentF Try.prog (.clos 15 [] []) [.int .i64 100, .sl 0 0 0 3 1] [⟨true, 0, 1, true, [.int .i64 1, .int .i64 1, .int .i64 1], true⟩] (.tup [.rsl (rowI ((splitK 100 ([1, 1, 1])).1)) 0 (((splitK 100 ([1, 1, 1])).1).length), .int .i64 ((splitK 100 ([1, 1, 1])).2)]) [⟨false, 1, 1, true, [], false⟩], PureF Try.prog (.clos 24 [] []) [.int .i64 2500, .rsl [.int .i64 0, .int .i64 10, .int .i64 1000, .int .i64 20] 0 2] (.tup [.int .i64 ((netK 2500 ([(⟨0, 10⟩ : Bra), (⟨1000, 20⟩ : Bra)])).1), .int .i64 ((netK 2500 ([(⟨0, 10⟩ : Bra), (⟨1000, 20⟩ : Bra)])).2)]), 0 = 0, ((splitK 100 ([1, 1, 1])).2 == 0) = true, ((netK 2500 ([(⟨0, 10⟩ : Bra), (⟨1000, 20⟩ : Bra)])).2 == 0) = true, PureF Try.prog (.clos 17 [] []) [.rsl (rowI ((splitK 100 ([1, 1, 1])).1)) 0 (((splitK 100 ([1, 1, 1])).1).length), .rsl [.int .i64 34, .int .i64 33, .int .i64 33] 0 3] (.bool true), 0 = 0, true = true]) hE Try.func20 mixed (by kernel_rfl) ⟨o0, o1, (rfl), o3, o4, o5, (rfl), o7, trivial⟩ hr
theorem p20_start_1    {E : Env} {res : AV} (hE : PureE Try.prog 20 res E) (o0 : LentF Try.prog (.clos 15 [] []) [.int .i64 100, .sl 0 0 0 3 1] [⟨true, 0, 1, true, [.int .i64 1, .int .i64 1, .int .i64 1], true⟩] (.tup [.rsl (rowI ((splitK 100 ([1, 1, 1])).1)) 0 (((splitK 100 ([1, 1, 1])).1).length), .int .i64 ((splitK 100 ([1, 1, 1])).2)]) [⟨false, 1, 1, true, [], false⟩]) (o1 : PureF Try.prog (.clos 24 [] []) [.int .i64 2500, .rsl [.int .i64 0, .int .i64 10, .int .i64 1000, .int .i64 20] 0 2] (.tup [.int .i64 ((netK 2500 ([(⟨0, 10⟩ : Bra), (⟨1000, 20⟩ : Bra)])).1), .int .i64 ((netK 2500 ([(⟨0, 10⟩ : Bra), (⟨1000, 20⟩ : Bra)])).2)])) (o3 : ((splitK 100 ([1, 1, 1])).2 == 0) = true) (o4 : ((netK 2500 ([(⟨0, 10⟩ : Bra), (⟨1000, 20⟩ : Bra)])).2 == 0) = true) (o5 : PureF Try.prog (.clos 17 [] []) [.rsl (rowI ((splitK 100 ([1, 1, 1])).1)) 0 (((splitK 100 ([1, 1, 1])).1).length), .rsl [.int .i64 34, .int .i64 33, .int .i64 33] 0 3] (.bool true)) (o7 : true = false)
    (hr : AvLe (.bool false) res) : G Try.prog E [.code (bodyAt Try.prog 20)] ⟨[] ++ unds (Try.f20.ntmps - 0), []⟩ :=
  end_stepL (n := 400) (evs := [.lent [0] (.tup [.rsl (rowI ((splitK 100 ([1, 1, 1])).1)) 0 (((splitK 100 ([1, 1, 1])).1).length), .int .i64 ((splitK 100 ([1, 1, 1])).2)]) [⟨false, 1, 1, true, [], false⟩], .v (.tup [.int .i64 ((netK 2500 ([(⟨0, 10⟩ : Bra), (⟨1000, 20⟩ : Bra)])).1), .int .i64 ((netK 2500 ([(⟨0, 10⟩ : Bra), (⟨1000, 20⟩ : Bra)])).2)]), .b true, .b true, .v (.bool true), .b false]) (obs := [LentF Try.prog (.clos 15 [] []) [.int .i64 100, .sl 0 0 0 3 1] [⟨true, 0, 1, true, [.int .i64 1, .int .i64 1, .int .i64 1], true⟩] (.tup [.rsl (rowI ((splitK 100 ([1, 1, 1])).1)) 0 (((splitK 100 ([1, 1, 1])).1).length), .int .i64 ((splitK 100 ([1, 1, 1])).2)]) [⟨false, 1, 1, true, [], false⟩], PureF Try.prog (.clos 24 [] []) [.int .i64 2500, .rsl [.int .i64 0, .int .i64 10, .int .i64 1000, .int .i64 20] 0 2] (.tup [.int .i64 ((netK 2500 ([(⟨0, 10⟩ : Bra), (⟨1000, 20⟩ : Bra)])).1), .int .i64 ((netK 2500 ([(⟨0, 10⟩ : Bra), (⟨1000, 20⟩ : Bra)])).2)]), 0 = 0, ((splitK 100 ([1, 1, 1])).2 == 0) = true, ((netK 2500 ([(⟨0, 10⟩ : Bra), (⟨1000, 20⟩ : Bra)])).2 == 0) = true, PureF Try.prog (.clos 17 [] []) [.rsl (rowI ((splitK 100 ([1, 1, 1])).1)) 0 (((splitK 100 ([1, 1, 1])).1).length), .rsl [.int .i64 34, .int .i64 33, .int .i64 33] 0 3] (.bool true), 0 = 0, true = false]) hE Try.func20 mixed (by kernel_rfl) ⟨o0, o1, (rfl), o3, o4, o5, (rfl), o7, trivial⟩ hr
theorem p20_start_2    {E : Env} {res : AV} (hE : PureE Try.prog 20 res E) (o0 : LentF Try.prog (.clos 15 [] []) [.int .i64 100, .sl 0 0 0 3 1] [⟨true, 0, 1, true, [.int .i64 1, .int .i64 1, .int .i64 1], true⟩] (.tup [.rsl (rowI ((splitK 100 ([1, 1, 1])).1)) 0 (((splitK 100 ([1, 1, 1])).1).length), .int .i64 ((splitK 100 ([1, 1, 1])).2)]) [⟨false, 1, 1, true, [], false⟩]) (o1 : PureF Try.prog (.clos 24 [] []) [.int .i64 2500, .rsl [.int .i64 0, .int .i64 10, .int .i64 1000, .int .i64 20] 0 2] (.tup [.int .i64 ((netK 2500 ([(⟨0, 10⟩ : Bra), (⟨1000, 20⟩ : Bra)])).1), .int .i64 ((netK 2500 ([(⟨0, 10⟩ : Bra), (⟨1000, 20⟩ : Bra)])).2)])) (o3 : ((splitK 100 ([1, 1, 1])).2 == 0) = true) (o4 : ((netK 2500 ([(⟨0, 10⟩ : Bra), (⟨1000, 20⟩ : Bra)])).2 == 0) = false)
    (hr : AvLe (.bool false) res) : G Try.prog E [.code (bodyAt Try.prog 20)] ⟨[] ++ unds (Try.f20.ntmps - 0), []⟩ :=
  end_stepL (n := 400) (evs := [.lent [0] (.tup [.rsl (rowI ((splitK 100 ([1, 1, 1])).1)) 0 (((splitK 100 ([1, 1, 1])).1).length), .int .i64 ((splitK 100 ([1, 1, 1])).2)]) [⟨false, 1, 1, true, [], false⟩], .v (.tup [.int .i64 ((netK 2500 ([(⟨0, 10⟩ : Bra), (⟨1000, 20⟩ : Bra)])).1), .int .i64 ((netK 2500 ([(⟨0, 10⟩ : Bra), (⟨1000, 20⟩ : Bra)])).2)]), .b true, .b false, .b false]) (obs := [LentF Try.prog (.clos 15 [] []) [.int .i64 100, .sl 0 0 0 3 1] [⟨true, 0, 1, true, [.int .i64 1, .int .i64 1, .int .i64 1], true⟩] (.tup [.rsl (rowI ((splitK 100 ([1, 1, 1])).1)) 0 (((splitK 100 ([1, 1, 1])).1).length), .int .i64 ((splitK 100 ([1, 1, 1])).2)]) [⟨false, 1, 1, true, [], false⟩], PureF Try.prog (.clos 24 [] []) [.int .i64 2500, .rsl [.int .i64 0, .int .i64 10, .int .i64 1000, .int .i64 20] 0 2] (.tup [.int .i64 ((netK 2500 ([(⟨0, 10⟩ : Bra), (⟨1000, 20⟩ : Bra)])).1), .int .i64 ((netK 2500 ([(⟨0, 10⟩ : Bra), (⟨1000, 20⟩ : Bra)])).2)]), 0 = 0, ((splitK 100 ([1, 1, 1])).2 == 0) = true, ((netK 2500 ([(⟨0, 10⟩ : Bra), (⟨1000, 20⟩ : Bra)])).2 == 0) = false, false = false]) hE Try.func20 mixed (by kernel_rfl) ⟨o0, o1, (rfl), o3, o4, (rfl), trivial⟩ hr
theorem p20_start_3    {E : Env} {res : AV} (hE : PureE Try.prog 20 res E) (o0 : LentF Try.prog (.clos 15 [] []) [.int .i64 100, .sl 0 0 0 3 1] [⟨true, 0, 1, true, [.int .i64 1, .int .i64 1, .int .i64 1], true⟩] (.tup [.rsl (rowI ((splitK 100 ([1, 1, 1])).1)) 0 (((splitK 100 ([1, 1, 1])).1).length), .int .i64 ((splitK 100 ([1, 1, 1])).2)]) [⟨false, 1, 1, true, [], false⟩]) (o1 : PureF Try.prog (.clos 24 [] []) [.int .i64 2500, .rsl [.int .i64 0, .int .i64 10, .int .i64 1000, .int .i64 20] 0 2] (.tup [.int .i64 ((netK 2500 ([(⟨0, 10⟩ : Bra), (⟨1000, 20⟩ : Bra)])).1), .int .i64 ((netK 2500 ([(⟨0, 10⟩ : Bra), (⟨1000, 20⟩ : Bra)])).2)])) (o3 : ((splitK 100 ([1, 1, 1])).2 == 0) = false)
    (hr : AvLe (.bool false) res) : G Try.prog E [.code (bodyAt Try.prog 20)] ⟨[] ++ unds (Try.f20.ntmps - 0), []⟩ :=
  end_stepL (n := 400) (evs := [.lent [0] (.tup [.rsl (rowI ((splitK 100 ([1, 1, 1])).1)) 0 (((splitK 100 ([1, 1, 1])).1).length), .int .i64 ((splitK 100 ([1, 1, 1])).2)]) [⟨false, 1, 1, true, [], false⟩], .v (.tup [.int .i64 ((netK 2500 ([(⟨0, 10⟩ : Bra), (⟨1000, 20⟩ : Bra)])).1), .int .i64 ((netK 2500 ([(⟨0, 10⟩ : Bra), (⟨1000, 20⟩ : Bra)])).2)]), .b false, .b false, .b false]) (obs := [LentF Try.prog (.clos 15 [] []) [.int .i64 100, .sl 0 0 0 3 1] [⟨true, 0, 1, true, [.int .i64 1, .int .i64 1, .int .i64 1], true⟩] (.tup [.rsl (rowI ((splitK 100 ([1, 1, 1])).1)) 0 (((splitK 100 ([1, 1, 1])).1).length), .int .i64 ((splitK 100 ([1, 1, 1])).2)]) [⟨false, 1, 1, true, [], false⟩], PureF Try.prog (.clos 24 [] []) [.int .i64 2500, .rsl [.int .i64 0, .int .i64 10, .int .i64 1000, .int .i64 20] 0 2] (.tup [.int .i64 ((netK 2500 ([(⟨0, 10⟩ : Bra), (⟨1000, 20⟩ : Bra)])).1), .int .i64 ((netK 2500 ([(⟨0, 10⟩ : Bra), (⟨1000, 20⟩ : Bra)])).2)]), 0 = 0, ((splitK 100 ([1, 1, 1])).2 == 0) = false, false = false, false = false]) hE Try.func20 mixed (by kernel_rfl) ⟨o0, o1, (rfl), o3, (rfl), (rfl), trivial⟩ hr
theorem f20W  {E : Env} {rv : Bool} (hE : PureE Try.prog 20 (.bool rv) E)
    (h : ((([1, 1, 1]).length ≤ 9223372036854775807) ∧ ((([(⟨0, 10⟩ : Bra), (⟨1000, 20⟩ : Bra)]).length ≤ 9223372036854775807) ∧ (((splitK 100 ([1, 1, 1])).2 = 0 → (((netK 2500 ([(⟨0, 10⟩ : Bra), (⟨1000, 20⟩ : Bra)])).2 = 0 → ((((splitK 100 ([1, 1, 1])).1) = ([34, 33, 33]) ∧ ((splitK 100 ([1, 1, 1])).1).length ≤ 1000000) ∧ ((true = true → rv = ((netK 2500 ([(⟨0, 10⟩ : Bra), (⟨1000, 20⟩ : Bra)])).1 == 2999)) ∧ (true = false → rv = false)))) ∧ (¬ ((netK 2500 ([(⟨0, 10⟩ : Bra), (⟨1000, 20⟩ : Bra)])).2 = 0) → rv = false))) ∧ (¬ ((splitK 100 ([1, 1, 1])).2 = 0) → rv = false))))) : G Try.prog E [.code (bodyAt Try.prog 20)] ⟨[] ++ unds (Try.f20.ntmps - 0), []⟩ := by
  obtain ⟨h1, h⟩ := h
  obtain ⟨h2, h⟩ := h
  rcases Bool.eq_false_or_eq_true ((splitK 100 ([1, 1, 1])).2 == 0) with hc0 | hc0
  · have h := h.1 (eq_of_beq hc0)
    rcases Bool.eq_false_or_eq_true ((netK 2500 ([(⟨0, 10⟩ : Bra), (⟨1000, 20⟩ : Bra)])).2 == 0) with hc1 | hc1
    · have h := h.1 (eq_of_beq hc1)
      obtain ⟨h3, h⟩ := h
      rcases Bool.eq_false_or_eq_true true with hc2 | hc2
      · have h := h.1 hc2
        exact p20_start_0     hE (lentF_of_pure (fv' := .clos 15 [] []) (args' := [.int .i64 100, .rsl [.int .i64 1, .int .i64 1, .int .i64 1] 0 3]) (o1 := []) (o2 := [0 = 0]) (by kernel_rfl) trivial (by kernel_rfl) ⟨rfl, trivial⟩ (pureF_of Try.func15 (by kernel_rfl) f15b (SplitP_ok 100 ([1, 1, 1]) h1))) (pureF_of Try.func24 (by kernel_rfl) f24b (NetP_ok 2500 ([(⟨0, 10⟩ : Bra), (⟨1000, 20⟩ : Bra)]) h2)) hc0 hc1 (pureF_of Try.func17 (by kernel_rfl) f17b (sameInts_ok ((splitK 100 ([1, 1, 1])).1) ([34, 33, 33]) h3)) hc2 (AvLe.of_eq (by rw [h]; try rfl))
      · have h := h.2 hc2
        exact p20_start_1     hE (lentF_of_pure (fv' := .clos 15 [] []) (args' := [.int .i64 100, .rsl [.int .i64 1, .int .i64 1, .int .i64 1] 0 3]) (o1 := []) (o2 := [0 = 0]) (by kernel_rfl) trivial (by kernel_rfl) ⟨rfl, trivial⟩ (pureF_of Try.func15 (by kernel_rfl) f15b (SplitP_ok 100 ([1, 1, 1]) h1))) (pureF_of Try.func24 (by kernel_rfl) f24b (NetP_ok 2500 ([(⟨0, 10⟩ : Bra), (⟨1000, 20⟩ : Bra)]) h2)) hc0 hc1 (pureF_of Try.func17 (by kernel_rfl) f17b (sameInts_ok ((splitK 100 ([1, 1, 1])).1) ([34, 33, 33]) h3)) hc2 (AvLe.of_eq (by rw [h]; try rfl))
    · have h := h.2 (ne_of_beq_false hc1)
      exact p20_start_2     hE (lentF_of_pure (fv' := .clos 15 [] []) (args' := [.int .i64 100, .rsl [.int .i64 1, .int .i64 1, .int .i64 1] 0 3]) (o1 := []) (o2 := [0 = 0]) (by kernel_rfl) trivial (by kernel_rfl) ⟨rfl, trivial⟩ (pureF_of Try.func15 (by kernel_rfl) f15b (SplitP_ok 100 ([1, 1, 1]) h1))) (pureF_of Try.func24 (by kernel_rfl) f24b (NetP_ok 2500 ([(⟨0, 10⟩ : Bra), (⟨1000, 20⟩ : Bra)]) h2)) hc0 hc1 (AvLe.of_eq (by rw [h]; try rfl))
  · have h := h.2 (ne_of_beq_false hc0)
    exact p20_start_3     hE (lentF_of_pure (fv' := .clos 15 [] []) (args' := [.int .i64 100, .rsl [.int .i64 1, .int .i64 1, .int .i64 1] 0 3]) (o1 := []) (o2 := [0 = 0]) (by kernel_rfl) trivial (by kernel_rfl) ⟨rfl, trivial⟩ (pureF_of Try.func15 (by kernel_rfl) f15b (SplitP_ok 100 ([1, 1, 1]) h1))) (pureF_of Try.func24 (by kernel_rfl) f24b (NetP_ok 2500 ([(⟨0, 10⟩ : Bra), (⟨1000, 20⟩ : Bra)]) h2)) hc0 (AvLe.of_eq (by rw [h]; try rfl))

theorem works_ok : Pure Try.prog 20 [] (.bool true) := pure_of Try.func20 f20b fun E hE => by
  have h1 : splitK 100 [1, 1, 1] = ([34, 33, 33], 0) := by decide +kernel
  have h2 : netK 2500 [⟨0, 10⟩, ⟨1000, 20⟩] = (2999, 0) := by decide +kernel
  refine f20W (rv := true) hE ⟨by decide, by decide, fun h => ⟨fun h' => ⟨⟨by rw [h1], by rw [h1]; decide⟩, fun _ => by rw [h2]; rfl, fun h => by cases h⟩, fun h' => absurd (by rw [h2]) h'⟩, fun h' => absurd (by rw [h1]) h'⟩

end Go.Proofs.Ytmdbebbibecidaa

namespace Go.Proofs.Ytmdbebbibecidaa
open Go Ax
open Go.Proofs

theorem ownT : ownKnob Try.prog.godebug = none := by kernel_rfl
theorem laidT : laidOutB Try.prog = true := by kernel_rfl

theorem dInts (W : World) : Dec Try.prog W 22 (List Int) (fun a => [.rsl (rowI a) 0 a.length]) (fun a => a.length ≤ 9223372036854775807) := by
  refine Dec.map (dec_slice Try.underlying22 (n := 1) (by kernel_rfl) (by decide) (fun _ => rfl) (fun _ => rfl) (dec_i64 Try.underlying3)) (fun x => x) ?_ ?_
  · exact fun _ => rfl
  · exact fun _ h => h.1
end Go.Proofs.Ytmdbebbibecidaa

namespace Go.Proofs.Ytmdbebbibecidaa
open Go Ax
open Go.Proofs
theorem f26b : Try.f26.body = some (bodyAt Try.prog 26) := by kernel_rfl
def f26K0 (P : Program) : List Item := kAt 400 [.code (bodyAt P 26)] [.b false, .b false, .stop]
def f26S0 (l : (List Int)) (p : Int) (m : Int) (i : Nat) (v0 : List Int) (g0 : Nat) : St := ⟨[.junk, .int .i64 p, .int .i64 m, .junk, .junk, .junk, .sl 0 g0 0 v0.length 1, .junk, .junk, .junk, .junk, .junk, .junk, .junk, .junk, .junk, .junk, .junk, .junk, .junk, .junk, .junk, .junk, .junk, .junk, .junk, .junk, .rsl (rowI l) 0 l.length, .int .i64 ((l.length : Nat) : Int), .int .i64 ((i : Nat) : Int), .junk, .junk, .junk, .junk, .junk, .junk, .junk, .junk, .junk, .junk, .junk, .junk, .junk, .junk, .junk, .junk, .junk, .junk], [⟨true, g0, 1, true, (rowI v0), true⟩]⟩
def f26G0 (E : Env) (l : (List Int)) (p : Int) (m : Int) (i : Nat) (v0 : List Int) : Prop := ∀ g0 : Nat, G Try.prog E (f26K0 Try.prog) (f26S0 l p m i v0 g0)
theorem p26_start_0 (l : (List Int)) (p : Int) (m : Int)   {E : Env} {res : AV} (hE : PureE Try.prog 26 res E) (o0 : (decide (((l.length : Nat) : Int) > 60)) = true)
    (hr : AvLe (.tup [.nilSl, .int .i64 0, .int .i64 2]) res) : G Try.prog E [.code (bodyAt Try.prog 26)] ⟨[.rsl (rowI l) 0 l.length, .int .i64 p, .int .i64 m] ++ unds (Try.f26.ntmps - 3), []⟩ :=
  end_stepL (n := 400) (evs := [.b true]) (obs := [(decide (((l.length : Nat) : Int) > 60)) = true]) hE Try.func26 mixed (by kernel_rfl) ⟨o0, trivial⟩ hr
theorem p26_start_1 (l : (List Int)) (p : Int) (m : Int)   {E : Env} {res : AV} (hE : PureE Try.prog 26 res E) (o0 : (decide (((l.length : Nat) : Int) > 60)) = false) (o1 : PureF Try.prog (.clos 42 [] []) [.rsl (rowI l) 0 l.length] (.bool (!l.any (fun x => !amount x)))) (o2 : (!(!l.any (fun x => !amount x))) = true)
    (hr : AvLe (.tup [.nilSl, .int .i64 0, .int .i64 1]) res) : G Try.prog E [.code (bodyAt Try.prog 26)] ⟨[.rsl (rowI l) 0 l.length, .int .i64 p, .int .i64 m] ++ unds (Try.f26.ntmps - 3), []⟩ :=
  end_stepL (n := 400) (evs := [.b false, .v (.bool (!l.any (fun x => !amount x))), .b true, .b true, .b true]) (obs := [(decide (((l.length : Nat) : Int) > 60)) = false, PureF Try.prog (.clos 42 [] []) [.rsl (rowI l) 0 l.length] (.bool (!l.any (fun x => !amount x))), (!(!l.any (fun x => !amount x))) = true, true = true, true = true]) hE Try.func26 mixed (by kernel_rfl) ⟨o0, o1, o2, (rfl), (rfl), trivial⟩ hr
theorem p26_start_2 (l : (List Int)) (p : Int) (m : Int)   {E : Env} {res : AV} (hE : PureE Try.prog 26 res E) (o0 : (decide (((l.length : Nat) : Int) > 60)) = false) (o1 : PureF Try.prog (.clos 42 [] []) [.rsl (rowI l) 0 l.length] (.bool (!l.any (fun x => !amount x)))) (o2 : (!(!l.any (fun x => !amount x))) = false) (o3 : PureF Try.prog (.clos 41 [] []) [.int .i64 m] (.bool (amount m))) (o4 : (!(amount m)) = true)
    (hr : AvLe (.tup [.nilSl, .int .i64 0, .int .i64 1]) res) : G Try.prog E [.code (bodyAt Try.prog 26)] ⟨[.rsl (rowI l) 0 l.length, .int .i64 p, .int .i64 m] ++ unds (Try.f26.ntmps - 3), []⟩ :=
  end_stepL (n := 400) (evs := [.b false, .v (.bool (!l.any (fun x => !amount x))), .b false, .v (.bool (amount m)), .b true, .b true]) (obs := [(decide (((l.length : Nat) : Int) > 60)) = false, PureF Try.prog (.clos 42 [] []) [.rsl (rowI l) 0 l.length] (.bool (!l.any (fun x => !amount x))), (!(!l.any (fun x => !amount x))) = false, PureF Try.prog (.clos 41 [] []) [.int .i64 m] (.bool (amount m)), (!(amount m)) = true, true = true]) hE Try.func26 mixed (by kernel_rfl) ⟨o0, o1, o2, o3, o4, (rfl), trivial⟩ hr
theorem p26_start_3 (l : (List Int)) (p : Int) (m : Int)   {E : Env} {res : AV} (hE : PureE Try.prog 26 res E) (o0 : (decide (((l.length : Nat) : Int) > 60)) = false) (o1 : PureF Try.prog (.clos 42 [] []) [.rsl (rowI l) 0 l.length] (.bool (!l.any (fun x => !amount x)))) (o2 : (!(!l.any (fun x => !amount x))) = false) (o3 : PureF Try.prog (.clos 41 [] []) [.int .i64 m] (.bool (amount m))) (o4 : (!(amount m)) = false) (o5 : PureF Try.prog (.clos 49 [] []) [.int .i64 p, .int .i64 0, .int .i64 100] (.bool (within p 0 100))) (o6 : (!(within p 0 100)) = true)
    (hr : AvLe (.tup [.nilSl, .int .i64 0, .int .i64 1]) res) : G Try.prog E [.code (bodyAt Try.prog 26)] ⟨[.rsl (rowI l) 0 l.length, .int .i64 p, .int .i64 m] ++ unds (Try.f26.ntmps - 3), []⟩ :=
  end_stepL (n := 400) (evs := [.b false, .v (.bool (!l.any (fun x => !amount x))), .b false, .v (.bool (amount m)), .b false, .v (.bool (within p 0 100)), .b true]) (obs := [(decide (((l.length : Nat) : Int) > 60)) = false, PureF Try.prog (.clos 42 [] []) [.rsl (rowI l) 0 l.length] (.bool (!l.any (fun x => !amount x))), (!(!l.any (fun x => !amount x))) = false, PureF Try.prog (.clos 41 [] []) [.int .i64 m] (.bool (amount m)), (!(amount m)) = false, PureF Try.prog (.clos 49 [] []) [.int .i64 p, .int .i64 0, .int .i64 100] (.bool (within p 0 100)), (!(within p 0 100)) = true]) hE Try.func26 mixed (by kernel_rfl) ⟨o0, o1, o2, o3, o4, o5, o6, trivial⟩ hr
theorem p26_start_4 (l : (List Int)) (p : Int) (m : Int)   {E : Env} {rv : AV} (hE : PureE Try.prog 26 rv E) (o0 : (decide (((l.length : Nat) : Int) > 60)) = false) (o1 : PureF Try.prog (.clos 42 [] []) [.rsl (rowI l) 0 l.length] (.bool (!l.any (fun x => !amount x)))) (o2 : (!(!l.any (fun x => !amount x))) = false) (o3 : PureF Try.prog (.clos 41 [] []) [.int .i64 m] (.bool (amount m))) (o4 : (!(amount m)) = false) (o5 : PureF Try.prog (.clos 49 [] []) [.int .i64 p, .int .i64 0, .int .i64 100] (.bool (within p 0 100))) (o6 : (!(within p 0 100)) = false)
    (hg : G Try.prog E (f26K0 Try.prog) ⟨[.junk, .int .i64 p, .int .i64 m, .junk, .junk, .junk, .sl 0 0 0 0 1, .junk, .junk, .junk, .junk, .junk, .junk, .junk, .junk, .junk, .junk, .junk, .junk, .junk, .junk, .junk, .junk, .junk, .junk, .junk, .junk, .rsl (rowI l) 0 l.length, .int .i64 ((l.length : Nat) : Int), .int .i64 0, .junk, .junk, .junk, .junk, .junk, .junk, .junk, .junk, .junk, .junk, .junk, .junk, .junk, .junk, .junk, .junk, .junk, .junk], [⟨true, 0, 1, true, [], true⟩]⟩) : G Try.prog E [.code (bodyAt Try.prog 26)] ⟨[.rsl (rowI l) 0 l.length, .int .i64 p, .int .i64 m] ++ unds (Try.f26.ntmps - 3), []⟩ :=
  segC_step (n := 400) (ds := [(6, 1)]) (cs := []) (live := [1, 2, 6, 27, 28, 29]) (m := 1) (evs := [.b false, .v (.bool (!l.any (fun x => !amount x))), .b false, .v (.bool (amount m)), .b false, .v (.bool (within p 0 100)), .b false, .stop]) (obs := [(decide (((l.length : Nat) : Int) > 60)) = false, PureF Try.prog (.clos 42 [] []) [.rsl (rowI l) 0 l.length] (.bool (!l.any (fun x => !amount x))), (!(!l.any (fun x => !amount x))) = false, PureF Try.prog (.clos 41 [] []) [.int .i64 m] (.bool (amount m)), (!(amount m)) = false, PureF Try.prog (.clos 49 [] []) [.int .i64 p, .int .i64 0, .int .i64 100] (.bool (within p 0 100)), (!(within p 0 100)) = false]) hE.2.1 (hE.nogh _) mixed (by kernel_rfl) ⟨o0, o1, o2, o3, o4, o5, o6, trivial⟩ hg
theorem f26W (l : (List Int)) (p : Int) (m : Int) {E : Env} {rv : ((List Int) × Int × Int)} (hE : PureE Try.prog 26 (.tup [.rsl (rowI rv.1) 0 rv.1.length, .int .i64 rv.2.1, .int .i64 rv.2.2]) E)
    (h : ((((l.length : Nat) : Int) > 60 → rv = (([] : List Int), 0, 2)) ∧ (¬ (((l.length : Nat) : Int) > 60) → ((l.length ≤ 9223372036854775807) ∧ (((!l.any (fun x => !amount x)) = false → rv = (([] : List Int), 0, 1)) ∧ ((!l.any (fun x => !amount x)) = true → (((amount m) = false → rv = (([] : List Int), 0, 1)) ∧ ((amount m) = true → (((within p 0 100) = false → rv = (([] : List Int), 0, 1)) ∧ ((within p 0 100) = true → f26G0 E l p m 0 ([]))))))))))) : G Try.prog E [.code (bodyAt Try.prog 26)] ⟨[.rsl (rowI l) 0 l.length, .int .i64 p, .int .i64 m] ++ unds (Try.f26.ntmps - 3), []⟩ := by
  rcases Bool.eq_false_or_eq_true (decide (((l.length : Nat) : Int) > 60)) with hc0 | hc0
  · have h := h.1 (of_decide_eq_true hc0)
    exact p26_start_0 l p m    hE hc0 (by rw [h]; exact (tup_le ⟨nil_le, ⟨AvLe.of_eq rfl, ⟨AvLe.of_eq rfl, trivial⟩⟩⟩))
  · have h := h.2 (of_decide_eq_false hc0)
    obtain ⟨h1, h⟩ := h
    rcases Bool.eq_false_or_eq_true (!(!l.any (fun x => !amount x))) with hc1 | hc1
    · have h := h.1 (bnT hc1)
      exact p26_start_1 l p m    hE hc0 (pureF_of Try.func42 (by kernel_rfl) f42b (amounts_ok l h1)) hc1 (by rw [h]; exact (tup_le ⟨nil_le, ⟨AvLe.of_eq rfl, ⟨AvLe.of_eq rfl, trivial⟩⟩⟩))
    · have h := h.2 (bnF hc1)
      rcases Bool.eq_false_or_eq_true (!(amount m)) with hc2 | hc2
      · have h := h.1 (bnT hc2)
        exact p26_start_2 l p m    hE hc0 (pureF_of Try.func42 (by kernel_rfl) f42b (amounts_ok l h1)) hc1 (pureF_of Try.func41 (by kernel_rfl) f41b (amount_ok m)) hc2 (by rw [h]; exact (tup_le ⟨nil_le, ⟨AvLe.of_eq rfl, ⟨AvLe.of_eq rfl, trivial⟩⟩⟩))
      · have h := h.2 (bnF hc2)
        rcases Bool.eq_false_or_eq_true (!(within p 0 100)) with hc3 | hc3
        · have h := h.1 (bnT hc3)
          exact p26_start_3 l p m    hE hc0 (pureF_of Try.func42 (by kernel_rfl) f42b (amounts_ok l h1)) hc1 (pureF_of Try.func41 (by kernel_rfl) f41b (amount_ok m)) hc2 (pureF_of Try.func49 (by kernel_rfl) f49b (within_ok p 0 100)) hc3 (by rw [h]; exact (tup_le ⟨nil_le, ⟨AvLe.of_eq rfl, ⟨AvLe.of_eq rfl, trivial⟩⟩⟩))
        · have h := h.2 (bnF hc3)
          exact p26_start_4 l p m    hE hc0 (pureF_of Try.func42 (by kernel_rfl) f42b (amounts_ok l h1)) hc1 (pureF_of Try.func41 (by kernel_rfl) f41b (amount_ok m)) hc2 (pureF_of Try.func49 (by kernel_rfl) f49b (within_ok p 0 100)) hc3 (h 0)
theorem p26_0_0 (l : (List Int)) (p : Int) (m : Int) (i : Nat) (v0 : List Int) (g0 : Nat) (e : Int)  {E : Env} {rv : AV} (hE : PureE Try.prog 26 rv E) (o0 : (decide (((i : Nat) : Int) < ((l.length : Nat) : Int))) = true) (o2 : 0 ≤ ((i : Nat) : Int) ∧ ((i : Nat) : Int) < ((l.length : Nat) : Int)) (o3 : ((rowI l).drop (0 + (Int.toNat ((i : Nat) : Int)) * 1)).take 1 = [.int .i64 e]) (o4 : InR .i64 (e * p)) (o5 : InR .i64 (Int.tdiv (e * p) 100)) (o8 : (0 + (v0.length * 1)) = (rowI v0).length) (o9 : (v0.length + 1) ≤ 2147483648) (o11 : InR .i64 (((i : Nat) : Int) + 1))
    (hg : G Try.prog E (f26K0 Try.prog) ⟨[.junk, .int .i64 p, .int .i64 m, .junk, .junk, .junk, .sl 0 (g0 + 1) 0 (v0.length + 1) 1, .junk, .junk, .junk, .junk, .junk, .junk, .junk, .junk, .junk, .junk, .junk, .junk, .junk, .junk, .junk, .junk, .junk, .junk, .junk, .junk, .rsl (rowI l) 0 l.length, .int .i64 ((l.length : Nat) : Int), .int .i64 (((i : Nat) : Int) + 1), .junk, .junk, .junk, .junk, .junk, .junk, .junk, .junk, .junk, .junk, .junk, .junk, .junk, .junk, .junk, .junk, .junk, .junk], [⟨true, (g0 + 1), 1, true, ((rowI v0) ++ [.int .i64 (iMin e (iMax m (Int.tdiv (e * p) 100)))]), true⟩]⟩) : G Try.prog E (f26K0 Try.prog) (f26S0 l p m i v0 g0) :=
  segC_step (n := 400) (ds := []) (cs := []) (live := [1, 2, 6, 27, 28, 29]) (m := 1) (evs := [.b true, .ld (.int .i64 e), .stop]) (obs := [(decide (((i : Nat) : Int) < ((l.length : Nat) : Int))) = true, 0 ≤ ((i : Nat) : Int) ∧ ((i : Nat) : Int) < ((l.length : Nat) : Int), ((rowI l).drop (0 + (Int.toNat ((i : Nat) : Int)) * 1)).take 1 = [.int .i64 e], InR .i64 (e * p), InR .i64 (Int.tdiv (e * p) 100), (100 : Int) ≠ 0, g0 = g0, (0 + (v0.length * 1)) = (rowI v0).length, (v0.length + 1) ≤ 2147483648, 0 = 0, InR .i64 (((i : Nat) : Int) + 1)]) hE.2.1 (hE.nogh _) mixed (by kernel_rfl) ⟨o0, o2, o3, o4, o5, (by decide), (rfl), o8, o9, (rfl), o11, trivial⟩ hg
theorem p26_0_1 (l : (List Int)) (p : Int) (m : Int) (i : Nat) (v0 : List Int) (g0 : Nat)  {E : Env} {res : AV} (hE : PureE Try.prog 26 res E) (o0 : (decide (((i : Nat) : Int) < ((l.length : Nat) : Int))) = false) (o1 : PureF Try.prog (.clos 50 [] []) [.rsl (rowI v0) 0 v0.length] (.int .i64 (sumI v0)))
    (hr : AvLe (.tup [.rsl (rowI v0) 0 v0.length, .int .i64 (sumI v0), .int .i64 0]) res) : G Try.prog E (f26K0 Try.prog) (f26S0 l p m i v0 g0) :=
  end_stepL (n := 400) (evs := [.b false, .v (.int .i64 (sumI v0))]) (obs := [(decide (((i : Nat) : Int) < ((l.length : Nat) : Int))) = false, PureF Try.prog (.clos 50 [] []) [.rsl (rowI v0) 0 v0.length] (.int .i64 (sumI v0)), g0 = g0, g0 = g0]) hE Try.func26 mixed (by kernel_rfl) ⟨o0, o1, (rfl), (rfl), trivial⟩ hr
theorem f26W0 (l : (List Int)) (p : Int) (m : Int) (i : Nat) (v0 : List Int) {E : Env} {rv : ((List Int) × Int × Int)} (hE : PureE Try.prog 26 (.tup [.rsl (rowI rv.1) 0 rv.1.length, .int .i64 rv.2.1, .int .i64 rv.2.2]) E)
    (h : ((((i : Nat) : Int) < ((l.length : Nat) : Int) → (∃ e : Int, l[i]? = some e ∧ ((-9223372036854775808 ≤ e * p ∧ e * p ≤ 9223372036854775807) ∧ ((-9223372036854775808 ≤ Int.tdiv (e * p) 100 ∧ Int.tdiv (e * p) 100 ≤ 9223372036854775807) ∧ ((v0.length + 1) ≤ 2147483648 ∧ ((-9223372036854775808 ≤ ((i : Nat) : Int) + 1 ∧ ((i : Nat) : Int) + 1 ≤ 9223372036854775807) ∧ f26G0 E l p m (i + 1) (v0 ++ [(iMin e (iMax m (Int.tdiv (e * p) 100)))]))))))) ∧ (¬ (((i : Nat) : Int) < ((l.length : Nat) : Int)) → ((SumOk v0) ∧ rv = (v0, (sumI v0), 0))))) : f26G0 E l p m i v0 := by
  intro g0
  rcases Bool.eq_false_or_eq_true (decide (((i : Nat) : Int) < ((l.length : Nat) : Int))) with hc0 | hc0
  · have h := h.1 (of_decide_eq_true hc0)
    obtain ⟨e, h1, h⟩ := h
    obtain ⟨q4_1, h⟩ := h
    obtain ⟨q5_1, h⟩ := h
    obtain ⟨h2, h⟩ := h
    obtain ⟨q11_1, h⟩ := h
    refine p26_0_0 l p m i v0 g0 e hE hc0 (idx_ok h1) (row_part cI (s := 1) (k := 0) (m := 1) (fun _ => rfl) (by decide) h1) q4_1 q5_1 (by have hx := row_len cI (s := 1) (fun _ => rfl) v0; simp only [rowI] at hx ⊢; rw [hx]; simp) h2 q11_1 ?_
    rw [(show rowI v0 ++ [.int .i64 (iMin e (iMax m (Int.tdiv (e * p) 100)))] = rowI (v0 ++ [(iMin e (iMax m (Int.tdiv (e * p) 100)))]) from (row_app cI v0 [(iMin e (iMax m (Int.tdiv (e * p) 100)))]).symm)]; rw [(show (v0.length + 1) = (v0 ++ [(iMin e (iMax m (Int.tdiv (e * p) 100)))]).length from by simp)]; exact (h (g0 + 1))
  · have h := h.2 (of_decide_eq_false hc0)
    obtain ⟨h1, h⟩ := h
    exact p26_0_1 l p m i v0 g0  hE hc0 (pureF_of Try.func50 (by kernel_rfl) f50b (sum_ok v0 h1)) (AvLe.of_eq (by rw [h]; try rfl))
def rent1 (p m e : Int) : Int := iMin e (iMax m (Int.tdiv (e * p) 100))
def rentL (l : List Int) (p m : Int) : List Int := l.map (rent1 p m)
def rentsK (l : List Int) (p m : Int) : List Int × Int × Int :=
  if ((l.length : Nat) : Int) > 60 then ([], 0, 2) else if (!l.any fun x => !amount x) = false then ([], 0, 1) else
  if amount m = false then ([], 0, 1) else if within p 0 100 = false then ([], 0, 1) else (rentL l p m, sumI (rentL l p m), 0)

theorem amounts_of {l : List Int} (h : (!l.any fun x => !amount x) = true) : ∀ x ∈ l, 0 ≤ x ∧ x ≤ 1000000000 := by
  intro x hx
  have h2 : (l.any fun x => !amount x) = false := by simpa using h
  rw [List.any_eq_false] at h2
  have := h2 x hx
  exact within_iff.1 (by simpa [amount] using this)

theorem rent1_bd {p m e : Int} (he : 0 ≤ e ∧ e ≤ 1000000000) (hp : 0 ≤ p ∧ p ≤ 100) (hm : 0 ≤ m) : (0 ≤ e * p ∧ e * p ≤ 100000000000) ∧ (0 ≤ Int.tdiv (e * p) 100 ∧ Int.tdiv (e * p) 100 ≤ 100000000000) ∧ 0 ≤ rent1 p m e ∧ rent1 p m e ≤ e ∧ (rent1 p m e < m → rent1 p m e = e) := by
  have h1 := Int.mul_nonneg he.1 hp.1
  have h2 : e * p ≤ 1000000000 * 100 := Int.mul_le_mul he.2 hp.2 hp.1 (by omega)
  have e1 : Int.tdiv (e * p) 100 = e * p / 100 := Int.tdiv_eq_ediv_of_nonneg h1
  have h3 : m ≤ iMax m (Int.tdiv (e * p) 100) := by simp only [iMax]; split <;> omega
  simp only [rent1]
  rw [e1] at h3 ⊢
  refine ⟨by omega, by omega, ?_⟩
  generalize iMax m (e * p / 100) = y at h3
  simp only [iMin]
  split <;> omega

theorem RentsP_ok (l : List Int) (p m : Int) (h : l.length ≤ 9223372036854775807) : Pure Try.prog 26 [.rsl (rowI l) 0 l.length, .int .i64 p, .int .i64 m] (.tup [.rsl (rowI (rentsK l p m).1) 0 (rentsK l p m).1.length, .int .i64 (rentsK l p m).2.1, .int .i64 (rentsK l p m).2.2]) := pure_of Try.func26 f26b fun E hE => by
  refine f26W l p m (rv := rentsK l p m) hE ⟨fun h1 => by rw [rentsK, if_pos h1], fun h1 => ⟨h, fun h2 => by rw [rentsK, if_neg h1, if_pos h2], fun h2 => ⟨fun h3 => by rw [rentsK, if_neg h1, if_neg (by rw [h2]; simp), if_pos h3], fun h3 => ⟨fun h4 => by rw [rentsK, if_neg h1, if_neg (by rw [h2]; simp), if_neg (by rw [h3]; simp), if_pos h4], fun h4 => ?_⟩⟩⟩⟩
  have hr : rentsK l p m = (rentL l p m, sumI (rentL l p m), 0) := by rw [rentsK, if_neg h1, if_neg (by rw [h2]; simp), if_neg (by rw [h3]; simp), if_neg (by rw [h4]; simp)]
  have ha := amounts_of h2
  have hm := within_iff.1 h3
  have hp := within_iff.1 h4
  have key : ∀ (d i : Nat), i + d = l.length → f26G0 E l p m i ((l.take i).map (rent1 p m)) := by
    intro d
    induction d with
    | zero =>
      intro i hd
      rw [List.take_of_length_le (by omega)]
      refine f26W0 l p m i _ (rv := rentsK l p m) hE ⟨fun h => by omega, fun _ => ⟨?_, hr⟩⟩
      refine sumOk_bd (B := 1000000000) (by omega) (by omega) (by rw [List.length_map]; omega) fun x hx => ?_
      obtain ⟨y, hy, rfl⟩ := List.mem_map.1 hx
      have := rent1_bd (p := p) (m := m) (ha y hy) hp hm.1
      have := ha y hy
      omega
    | succ d ih =>
      intro i hd
      have hi : l[i]? = some l[i] := List.getElem?_eq_getElem (by omega)
      have hb := rent1_bd (p := p) (m := m) (ha _ (List.mem_of_getElem? hi)) hp hm.1
      have h5 := ih (i + 1) (by omega)
      rw [List.take_add_one, hi, List.map_append] at h5
      refine f26W0 l p m i _ (rv := rentsK l p m) hE ⟨fun _ => ⟨_, hi, by omega, by omega, by rw [List.length_map, List.length_take]; omega, by omega, h5⟩, fun h => by omega⟩
  exact key l.length 0 (by omega)

theorem f8b : Try.f8.body = some (bodyAt Try.prog 8) := by kernel_rfl
def f8K0 (P : Program) : List Item := kAt 400 [.code (bodyAt P 8)] [.b false, .b false, .stop]
def f8S0 (l : (List Int)) (p : Int) (q : Int) (m : Int) (i : Nat)  : St := ⟨[.rsl (rowI l) 0 l.length, .junk, .junk, .ptr 0 0 0, .junk, .rsl (rowI ((rentsK l p m).1)) 0 (((rentsK l p m).1).length), .junk, .junk, .int .i64 ((i : Nat) : Int), .junk, .junk, .junk, .junk, .junk, .junk, .junk, .junk, .junk, .junk, .junk, .junk, .junk, .junk, .junk, .junk, .junk, .junk, .junk, .junk, .junk, .junk, .junk, .junk, .junk, .junk, .junk, .junk, .junk, .junk, .junk, .junk, .junk, .junk, .junk, .junk, .junk, .junk, .junk, .junk, .junk, .junk, .junk, .junk, .junk, .junk, .junk, .junk, .junk, .junk, .junk, .junk, .junk, .junk, .junk, .junk, .junk, .junk, .junk, .junk, .junk, .junk, .junk, .junk, .junk, .junk, .junk, .junk, .junk, .junk, .junk, .junk, .junk, .junk, .junk, .junk, .junk, .junk, .junk, .junk, .junk, .junk, .junk, .junk, .junk, .junk, .junk, .junk, .junk, .junk, .junk, .junk, .junk, .junk, .junk, .junk, .junk, .junk, .junk, .junk, .junk, .junk, .junk, .junk, .junk, .junk, .junk, .junk, .junk, .junk, .junk, .junk, .junk, .junk, .junk, .junk, .junk, .junk], [⟨true, 0, 1, true, [.int .i64 p, .int .i64 q, .int .i64 m], false⟩]⟩
def f8G0 (E : Env) (l : (List Int)) (p : Int) (q : Int) (m : Int) (i : Nat) : Prop := G Try.prog E (f8K0 Try.prog) (f8S0 l p q m i )
def f8K1 (P : Program) : List Item := kAt 400 [.code (bodyAt P 8)] [.b false, .b false, .b false, .stop]
def f8S1 (l : (List Int)) (p : Int) (q : Int) (m : Int) (i : Nat)  : St := ⟨[.junk, .junk, .junk, .ptr 0 0 0, .junk, .rsl (rowI ((rentsK l p m).1)) 0 (((rentsK l p m).1).length), .junk, .int .i64 ((rentsK l q m).2.2), .junk, .rsl (rowI ((rentsK l q m).1)) 0 (((rentsK l q m).1).length), .junk, .int .i64 ((i : Nat) : Int), .junk, .junk, .junk, .junk, .junk, .junk, .junk, .junk, .junk, .junk, .junk, .junk, .junk, .junk, .junk, .junk, .junk, .junk, .junk, .junk, .junk, .junk, .junk, .junk, .junk, .junk, .junk, .junk, .junk, .junk, .junk, .junk, .junk, .junk, .junk, .junk, .junk, .junk, .junk, .junk, .junk, .junk, .junk, .junk, .junk, .junk, .junk, .junk, .junk, .junk, .junk, .junk, .junk, .junk, .junk, .junk, .junk, .junk, .junk, .junk, .junk, .junk, .junk, .junk, .junk, .junk, .junk, .junk, .junk, .junk, .junk, .junk, .junk, .junk, .junk, .junk, .junk, .junk, .junk, .junk, .junk, .junk, .junk, .junk, .junk, .junk, .junk, .junk, .junk, .junk, .junk, .junk, .junk, .junk, .junk, .junk, .junk, .junk, .junk, .junk, .junk, .junk, .junk, .junk, .junk, .junk, .junk, .junk, .junk, .junk, .junk, .junk, .junk, .junk, .junk], [⟨true, 0, 1, true, [.int .i64 p, .int .i64 q, .int .i64 m], false⟩]⟩
def f8G1 (E : Env) (l : (List Int)) (p : Int) (q : Int) (m : Int) (i : Nat) : Prop := G Try.prog E (f8K1 Try.prog) (f8S1 l p q m i )
theorem p8_start_0 (l : (List Int)) (p : Int) (q : Int) (m : Int)   {E : Env} {res : AV} (hE : PureE Try.prog 8 res E) (o0 : PureF Try.prog (.clos 26 [] []) [.rsl (rowI l) 0 l.length, .int .i64 p, .int .i64 m] (.tup [.rsl (rowI ((rentsK l p m).1)) 0 (((rentsK l p m).1).length), .int .i64 ((rentsK l p m).2.1), .int .i64 ((rentsK l p m).2.2)])) (o1 : ((rentsK l p m).2.2 != 0) = true) (o2 : PureF Try.prog (.clos 20 [] []) [] (.bool true))
    (hr : AvLe (.bool true) res) : G Try.prog E [.code (bodyAt Try.prog 8)] ⟨[.rsl (rowI l) 0 l.length, .agg [.int .i64 p, .int .i64 q, .int .i64 m]] ++ unds (Try.f8.ntmps - 2), []⟩ :=
  end_stepL (n := 400) (evs := [.v (.tup [.rsl (rowI ((rentsK l p m).1)) 0 (((rentsK l p m).1).length), .int .i64 ((rentsK l p m).2.1), .int .i64 ((rentsK l p m).2.2)]), .b true, .v (.bool true)]) (obs := [PureF Try.prog (.clos 26 [] []) [.rsl (rowI l) 0 l.length, .int .i64 p, .int .i64 m] (.tup [.rsl (rowI ((rentsK l p m).1)) 0 (((rentsK l p m).1).length), .int .i64 ((rentsK l p m).2.1), .int .i64 ((rentsK l p m).2.2)]), ((rentsK l p m).2.2 != 0) = true, PureF Try.prog (.clos 20 [] []) [] (.bool true)]) hE Try.func8 mixed (by kernel_rfl) ⟨o0, o1, o2, trivial⟩ hr
theorem p8_start_1 (l : (List Int)) (p : Int) (q : Int) (m : Int)   {E : Env} {res : AV} (hE : PureE Try.prog 8 res E) (o0 : PureF Try.prog (.clos 26 [] []) [.rsl (rowI l) 0 l.length, .int .i64 p, .int .i64 m] (.tup [.rsl (rowI ((rentsK l p m).1)) 0 (((rentsK l p m).1).length), .int .i64 ((rentsK l p m).2.1), .int .i64 ((rentsK l p m).2.2)])) (o1 : ((rentsK l p m).2.2 != 0) = false) (o2 : (((((rentsK l p m).1).length : Nat) : Int) != ((l.length : Nat) : Int)) = true)
    (hr : AvLe (.bool false) res) : G Try.prog E [.code (bodyAt Try.prog 8)] ⟨[.rsl (rowI l) 0 l.length, .agg [.int .i64 p, .int .i64 q, .int .i64 m]] ++ unds (Try.f8.ntmps - 2), []⟩ :=
  end_stepL (n := 400) (evs := [.v (.tup [.rsl (rowI ((rentsK l p m).1)) 0 (((rentsK l p m).1).length), .int .i64 ((rentsK l p m).2.1), .int .i64 ((rentsK l p m).2.2)]), .b false, .b true, .b true, .b true]) (obs := [PureF Try.prog (.clos 26 [] []) [.rsl (rowI l) 0 l.length, .int .i64 p, .int .i64 m] (.tup [.rsl (rowI ((rentsK l p m).1)) 0 (((rentsK l p m).1).length), .int .i64 ((rentsK l p m).2.1), .int .i64 ((rentsK l p m).2.2)]), ((rentsK l p m).2.2 != 0) = false, (((((rentsK l p m).1).length : Nat) : Int) != ((l.length : Nat) : Int)) = true, true = true, true = true]) hE Try.func8 mixed (by kernel_rfl) ⟨o0, o1, o2, (rfl), (rfl), trivial⟩ hr
theorem p8_start_2 (l : (List Int)) (p : Int) (q : Int) (m : Int)   {E : Env} {res : AV} (hE : PureE Try.prog 8 res E) (o0 : PureF Try.prog (.clos 26 [] []) [.rsl (rowI l) 0 l.length, .int .i64 p, .int .i64 m] (.tup [.rsl (rowI ((rentsK l p m).1)) 0 (((rentsK l p m).1).length), .int .i64 ((rentsK l p m).2.1), .int .i64 ((rentsK l p m).2.2)])) (o1 : ((rentsK l p m).2.2 != 0) = false) (o2 : (((((rentsK l p m).1).length : Nat) : Int) != ((l.length : Nat) : Int)) = false) (o3 : PureF Try.prog (.clos 21 [] []) [.rsl (rowI ((rentsK l p m).1)) 0 (((rentsK l p m).1).length)] (.int .i64 (sumI ((rentsK l p m).1)))) (o4 : ((rentsK l p m).2.1 != (sumI ((rentsK l p m).1))) = true)
    (hr : AvLe (.bool false) res) : G Try.prog E [.code (bodyAt Try.prog 8)] ⟨[.rsl (rowI l) 0 l.length, .agg [.int .i64 p, .int .i64 q, .int .i64 m]] ++ unds (Try.f8.ntmps - 2), []⟩ :=
  end_stepL (n := 400) (evs := [.v (.tup [.rsl (rowI ((rentsK l p m).1)) 0 (((rentsK l p m).1).length), .int .i64 ((rentsK l p m).2.1), .int .i64 ((rentsK l p m).2.2)]), .b false, .b false, .v (.int .i64 (sumI ((rentsK l p m).1))), .b true, .b true]) (obs := [PureF Try.prog (.clos 26 [] []) [.rsl (rowI l) 0 l.length, .int .i64 p, .int .i64 m] (.tup [.rsl (rowI ((rentsK l p m).1)) 0 (((rentsK l p m).1).length), .int .i64 ((rentsK l p m).2.1), .int .i64 ((rentsK l p m).2.2)]), ((rentsK l p m).2.2 != 0) = false, (((((rentsK l p m).1).length : Nat) : Int) != ((l.length : Nat) : Int)) = false, PureF Try.prog (.clos 21 [] []) [.rsl (rowI ((rentsK l p m).1)) 0 (((rentsK l p m).1).length)] (.int .i64 (sumI ((rentsK l p m).1))), ((rentsK l p m).2.1 != (sumI ((rentsK l p m).1))) = true, true = true]) hE Try.func8 mixed (by kernel_rfl) ⟨o0, o1, o2, o3, o4, (rfl), trivial⟩ hr
theorem p8_start_3 (l : (List Int)) (p : Int) (q : Int) (m : Int)   {E : Env} {res : AV} (hE : PureE Try.prog 8 res E) (o0 : PureF Try.prog (.clos 26 [] []) [.rsl (rowI l) 0 l.length, .int .i64 p, .int .i64 m] (.tup [.rsl (rowI ((rentsK l p m).1)) 0 (((rentsK l p m).1).length), .int .i64 ((rentsK l p m).2.1), .int .i64 ((rentsK l p m).2.2)])) (o1 : ((rentsK l p m).2.2 != 0) = false) (o2 : (((((rentsK l p m).1).length : Nat) : Int) != ((l.length : Nat) : Int)) = false) (o3 : PureF Try.prog (.clos 21 [] []) [.rsl (rowI ((rentsK l p m).1)) 0 (((rentsK l p m).1).length)] (.int .i64 (sumI ((rentsK l p m).1)))) (o4 : ((rentsK l p m).2.1 != (sumI ((rentsK l p m).1))) = false) (o5 : PureF Try.prog (.clos 21 [] []) [.rsl (rowI l) 0 l.length] (.int .i64 (sumI l))) (o6 : (decide ((rentsK l p m).2.1 > (sumI l))) = true)
    (hr : AvLe (.bool false) res) : G Try.prog E [.code (bodyAt Try.prog 8)] ⟨[.rsl (rowI l) 0 l.length, .agg [.int .i64 p, .int .i64 q, .int .i64 m]] ++ unds (Try.f8.ntmps - 2), []⟩ :=
  end_stepL (n := 400) (evs := [.v (.tup [.rsl (rowI ((rentsK l p m).1)) 0 (((rentsK l p m).1).length), .int .i64 ((rentsK l p m).2.1), .int .i64 ((rentsK l p m).2.2)]), .b false, .b false, .v (.int .i64 (sumI ((rentsK l p m).1))), .b false, .v (.int .i64 (sumI l)), .b true]) (obs := [PureF Try.prog (.clos 26 [] []) [.rsl (rowI l) 0 l.length, .int .i64 p, .int .i64 m] (.tup [.rsl (rowI ((rentsK l p m).1)) 0 (((rentsK l p m).1).length), .int .i64 ((rentsK l p m).2.1), .int .i64 ((rentsK l p m).2.2)]), ((rentsK l p m).2.2 != 0) = false, (((((rentsK l p m).1).length : Nat) : Int) != ((l.length : Nat) : Int)) = false, PureF Try.prog (.clos 21 [] []) [.rsl (rowI ((rentsK l p m).1)) 0 (((rentsK l p m).1).length)] (.int .i64 (sumI ((rentsK l p m).1))), ((rentsK l p m).2.1 != (sumI ((rentsK l p m).1))) = false, PureF Try.prog (.clos 21 [] []) [.rsl (rowI l) 0 l.length] (.int .i64 (sumI l)), (decide ((rentsK l p m).2.1 > (sumI l))) = true]) hE Try.func8 mixed (by kernel_rfl) ⟨o0, o1, o2, o3, o4, o5, o6, trivial⟩ hr
theorem p8_start_4 (l : (List Int)) (p : Int) (q : Int) (m : Int)   {E : Env} {rv : AV} (hE : PureE Try.prog 8 rv E) (o0 : PureF Try.prog (.clos 26 [] []) [.rsl (rowI l) 0 l.length, .int .i64 p, .int .i64 m] (.tup [.rsl (rowI ((rentsK l p m).1)) 0 (((rentsK l p m).1).length), .int .i64 ((rentsK l p m).2.1), .int .i64 ((rentsK l p m).2.2)])) (o1 : ((rentsK l p m).2.2 != 0) = false) (o2 : (((((rentsK l p m).1).length : Nat) : Int) != ((l.length : Nat) : Int)) = false) (o3 : PureF Try.prog (.clos 21 [] []) [.rsl (rowI ((rentsK l p m).1)) 0 (((rentsK l p m).1).length)] (.int .i64 (sumI ((rentsK l p m).1)))) (o4 : ((rentsK l p m).2.1 != (sumI ((rentsK l p m).1))) = false) (o5 : PureF Try.prog (.clos 21 [] []) [.rsl (rowI l) 0 l.length] (.int .i64 (sumI l))) (o6 : (decide ((rentsK l p m).2.1 > (sumI l))) = false)
    (hg : G Try.prog E (f8K0 Try.prog) ⟨[.rsl (rowI l) 0 l.length, .junk, .junk, .ptr 0 0 0, .junk, .rsl (rowI ((rentsK l p m).1)) 0 (((rentsK l p m).1).length), .junk, .junk, .int .i64 0, .junk, .junk, .junk, .junk, .junk, .junk, .junk, .junk, .junk, .junk, .junk, .junk, .junk, .junk, .junk, .junk, .junk, .junk, .junk, .junk, .junk, .junk, .junk, .junk, .junk, .junk, .junk, .junk, .junk, .junk, .junk, .junk, .junk, .junk, .junk, .junk, .junk, .junk, .junk, .junk, .junk, .junk, .junk, .junk, .junk, .junk, .junk, .junk, .junk, .junk, .junk, .junk, .junk, .junk, .junk, .junk, .junk, .junk, .junk, .junk, .junk, .junk, .junk, .junk, .junk, .junk, .junk, .junk, .junk, .junk, .junk, .junk, .junk, .junk, .junk, .junk, .junk, .junk, .junk, .junk, .junk, .junk, .junk, .junk, .junk, .junk, .junk, .junk, .junk, .junk, .junk, .junk, .junk, .junk, .junk, .junk, .junk, .junk, .junk, .junk, .junk, .junk, .junk, .junk, .junk, .junk, .junk, .junk, .junk, .junk, .junk, .junk, .junk, .junk, .junk, .junk, .junk, .junk], [⟨true, 0, 1, true, [.int .i64 p, .int .i64 q, .int .i64 m], false⟩]⟩) : G Try.prog E [.code (bodyAt Try.prog 8)] ⟨[.rsl (rowI l) 0 l.length, .agg [.int .i64 p, .int .i64 q, .int .i64 m]] ++ unds (Try.f8.ntmps - 2), []⟩ :=
  segC_step (n := 400) (ds := []) (cs := []) (live := [0, 3, 5, 8]) (m := 1) (evs := [.v (.tup [.rsl (rowI ((rentsK l p m).1)) 0 (((rentsK l p m).1).length), .int .i64 ((rentsK l p m).2.1), .int .i64 ((rentsK l p m).2.2)]), .b false, .b false, .v (.int .i64 (sumI ((rentsK l p m).1))), .b false, .v (.int .i64 (sumI l)), .b false, .stop]) (obs := [PureF Try.prog (.clos 26 [] []) [.rsl (rowI l) 0 l.length, .int .i64 p, .int .i64 m] (.tup [.rsl (rowI ((rentsK l p m).1)) 0 (((rentsK l p m).1).length), .int .i64 ((rentsK l p m).2.1), .int .i64 ((rentsK l p m).2.2)]), ((rentsK l p m).2.2 != 0) = false, (((((rentsK l p m).1).length : Nat) : Int) != ((l.length : Nat) : Int)) = false, PureF Try.prog (.clos 21 [] []) [.rsl (rowI ((rentsK l p m).1)) 0 (((rentsK l p m).1).length)] (.int .i64 (sumI ((rentsK l p m).1))), ((rentsK l p m).2.1 != (sumI ((rentsK l p m).1))) = false, PureF Try.prog (.clos 21 [] []) [.rsl (rowI l) 0 l.length] (.int .i64 (sumI l)), (decide ((rentsK l p m).2.1 > (sumI l))) = false]) hE.2.1 (hE.nogh _) mixed (by kernel_rfl) ⟨o0, o1, o2, o3, o4, o5, o6, trivial⟩ hg
theorem f8W (l : (List Int)) (p : Int) (q : Int) (m : Int) {E : Env} {rv : Bool} (hE : PureE Try.prog 8 (.bool rv) E)
    (h : ((l.length ≤ 9223372036854775807) ∧ ((¬ ((rentsK l p m).2.2 = 0) → rv = true) ∧ ((rentsK l p m).2.2 = 0 → ((¬ (((((rentsK l p m).1).length : Nat) : Int) = ((l.length : Nat) : Int)) → rv = false) ∧ (((((rentsK l p m).1).length : Nat) : Int) = ((l.length : Nat) : Int) → ((SumOk ((rentsK l p m).1)) ∧ ((¬ ((rentsK l p m).2.1 = (sumI ((rentsK l p m).1))) → rv = false) ∧ ((rentsK l p m).2.1 = (sumI ((rentsK l p m).1)) → ((SumOk l) ∧ (((rentsK l p m).2.1 > (sumI l) → rv = false) ∧ (¬ ((rentsK l p m).2.1 > (sumI l)) → f8G0 E l p q m 0)))))))))))) : G Try.prog E [.code (bodyAt Try.prog 8)] ⟨[.rsl (rowI l) 0 l.length, .agg [.int .i64 p, .int .i64 q, .int .i64 m]] ++ unds (Try.f8.ntmps - 2), []⟩ := by
  obtain ⟨h1, h⟩ := h
  rcases Bool.eq_false_or_eq_true ((rentsK l p m).2.2 != 0) with hc0 | hc0
  · have h := h.1 (bneT hc0)
    exact p8_start_0 l p q m    hE (pureF_of Try.func26 (by kernel_rfl) f26b (RentsP_ok l p m h1)) hc0 (pureF_of Try.func20 (by kernel_rfl) f20b (works_ok )) (AvLe.of_eq (by rw [h]; try rfl))
  · have h := h.2 (bneF hc0)
    rcases Bool.eq_false_or_eq_true (((((rentsK l p m).1).length : Nat) : Int) != ((l.length : Nat) : Int)) with hc1 | hc1
    · have h := h.1 (bneT hc1)
      exact p8_start_1 l p q m    hE (pureF_of Try.func26 (by kernel_rfl) f26b (RentsP_ok l p m h1)) hc0 hc1 (AvLe.of_eq (by rw [h]; try rfl))
    · have h := h.2 (bneF hc1)
      obtain ⟨h2, h⟩ := h
      rcases Bool.eq_false_or_eq_true ((rentsK l p m).2.1 != (sumI ((rentsK l p m).1))) with hc2 | hc2
      · have h := h.1 (bneT hc2)
        exact p8_start_2 l p q m    hE (pureF_of Try.func26 (by kernel_rfl) f26b (RentsP_ok l p m h1)) hc0 hc1 (pureF_of Try.func21 (by kernel_rfl) f21b (sumR_ok ((rentsK l p m).1) h2)) hc2 (AvLe.of_eq (by rw [h]; try rfl))
      · have h := h.2 (bneF hc2)
        obtain ⟨h3, h⟩ := h
        rcases Bool.eq_false_or_eq_true (decide ((rentsK l p m).2.1 > (sumI l))) with hc3 | hc3
        · have h := h.1 (of_decide_eq_true hc3)
          exact p8_start_3 l p q m    hE (pureF_of Try.func26 (by kernel_rfl) f26b (RentsP_ok l p m h1)) hc0 hc1 (pureF_of Try.func21 (by kernel_rfl) f21b (sumR_ok ((rentsK l p m).1) h2)) hc2 (pureF_of Try.func21 (by kernel_rfl) f21b (sumR_ok l h3)) hc3 (AvLe.of_eq (by rw [h]; try rfl))
        · have h := h.2 (of_decide_eq_false hc3)
          exact p8_start_4 l p q m    hE (pureF_of Try.func26 (by kernel_rfl) f26b (RentsP_ok l p m h1)) hc0 hc1 (pureF_of Try.func21 (by kernel_rfl) f21b (sumR_ok ((rentsK l p m).1) h2)) hc2 (pureF_of Try.func21 (by kernel_rfl) f21b (sumR_ok l h3)) hc3 h
theorem p8_0_0 (l : (List Int)) (p : Int) (q : Int) (m : Int) (i : Nat)  (e : Int)  {E : Env} {res : AV} (hE : PureE Try.prog 8 res E) (o0 : (decide (((i : Nat) : Int) < ((l.length : Nat) : Int))) = true) (o2 : 0 ≤ ((i : Nat) : Int) ∧ ((i : Nat) : Int) < ((((rentsK l p m).1).length : Nat) : Int)) (o3 : ((rowI ((rentsK l p m).1)).drop (0 + (Int.toNat ((i : Nat) : Int)) * 1)).take 1 = [.int .i64 e]) (o4 : (decide (e < 0)) = true)
    (hr : AvLe (.bool false) res) : G Try.prog E (f8K0 Try.prog) (f8S0 l p q m i ) :=
  end_stepL (n := 400) (evs := [.b true, .ld (.int .i64 e), .b true, .b true, .b true]) (obs := [(decide (((i : Nat) : Int) < ((l.length : Nat) : Int))) = true, 0 ≤ ((i : Nat) : Int) ∧ ((i : Nat) : Int) < ((((rentsK l p m).1).length : Nat) : Int), ((rowI ((rentsK l p m).1)).drop (0 + (Int.toNat ((i : Nat) : Int)) * 1)).take 1 = [.int .i64 e], (decide (e < 0)) = true, true = true, true = true]) hE Try.func8 mixed (by kernel_rfl) ⟨o0, o2, o3, o4, (rfl), (rfl), trivial⟩ hr
theorem p8_0_1 (l : (List Int)) (p : Int) (q : Int) (m : Int) (i : Nat)  (e : Int) (e1 : Int)  {E : Env} {res : AV} (hE : PureE Try.prog 8 res E) (o0 : (decide (((i : Nat) : Int) < ((l.length : Nat) : Int))) = true) (o2 : 0 ≤ ((i : Nat) : Int) ∧ ((i : Nat) : Int) < ((((rentsK l p m).1).length : Nat) : Int)) (o3 : ((rowI ((rentsK l p m).1)).drop (0 + (Int.toNat ((i : Nat) : Int)) * 1)).take 1 = [.int .i64 e]) (o4 : (decide (e < 0)) = false) (o5 : 0 ≤ ((i : Nat) : Int) ∧ ((i : Nat) : Int) < ((((rentsK l p m).1).length : Nat) : Int)) (o6 : ((rowI ((rentsK l p m).1)).drop (0 + (Int.toNat ((i : Nat) : Int)) * 1)).take 1 = [.int .i64 e]) (o8 : 0 ≤ ((i : Nat) : Int) ∧ ((i : Nat) : Int) < ((l.length : Nat) : Int)) (o9 : ((rowI l).drop (0 + (Int.toNat ((i : Nat) : Int)) * 1)).take 1 = [.int .i64 e1]) (o10 : (decide (e > e1)) = true)
    (hr : AvLe (.bool false) res) : G Try.prog E (f8K0 Try.prog) (f8S0 l p q m i ) :=
  end_stepL (n := 400) (evs := [.b true, .ld (.int .i64 e), .b false, .ld (.int .i64 e), .ld (.int .i64 e1), .b true, .b true]) (obs := [(decide (((i : Nat) : Int) < ((l.length : Nat) : Int))) = true, 0 ≤ ((i : Nat) : Int) ∧ ((i : Nat) : Int) < ((((rentsK l p m).1).length : Nat) : Int), ((rowI ((rentsK l p m).1)).drop (0 + (Int.toNat ((i : Nat) : Int)) * 1)).take 1 = [.int .i64 e], (decide (e < 0)) = false, 0 ≤ ((i : Nat) : Int) ∧ ((i : Nat) : Int) < ((((rentsK l p m).1).length : Nat) : Int), ((rowI ((rentsK l p m).1)).drop (0 + (Int.toNat ((i : Nat) : Int)) * 1)).take 1 = [.int .i64 e], 0 ≤ ((i : Nat) : Int) ∧ ((i : Nat) : Int) < ((l.length : Nat) : Int), ((rowI l).drop (0 + (Int.toNat ((i : Nat) : Int)) * 1)).take 1 = [.int .i64 e1], (decide (e > e1)) = true, true = true]) hE Try.func8 mixed (by kernel_rfl) ⟨o0, o2, o3, o4, o5, o6, o8, o9, o10, (rfl), trivial⟩ hr
theorem p8_0_2 (l : (List Int)) (p : Int) (q : Int) (m : Int) (i : Nat)  (e : Int) (e1 : Int)  {E : Env} {res : AV} (hE : PureE Try.prog 8 res E) (o0 : (decide (((i : Nat) : Int) < ((l.length : Nat) : Int))) = true) (o2 : 0 ≤ ((i : Nat) : Int) ∧ ((i : Nat) : Int) < ((((rentsK l p m).1).length : Nat) : Int)) (o3 : ((rowI ((rentsK l p m).1)).drop (0 + (Int.toNat ((i : Nat) : Int)) * 1)).take 1 = [.int .i64 e]) (o4 : (decide (e < 0)) = false) (o5 : 0 ≤ ((i : Nat) : Int) ∧ ((i : Nat) : Int) < ((((rentsK l p m).1).length : Nat) : Int)) (o6 : ((rowI ((rentsK l p m).1)).drop (0 + (Int.toNat ((i : Nat) : Int)) * 1)).take 1 = [.int .i64 e]) (o8 : 0 ≤ ((i : Nat) : Int) ∧ ((i : Nat) : Int) < ((l.length : Nat) : Int)) (o9 : ((rowI l).drop (0 + (Int.toNat ((i : Nat) : Int)) * 1)).take 1 = [.int .i64 e1]) (o10 : (decide (e > e1)) = false) (o11 : 0 ≤ ((i : Nat) : Int) ∧ ((i : Nat) : Int) < ((((rentsK l p m).1).length : Nat) : Int)) (o12 : ((rowI ((rentsK l p m).1)).drop (0 + (Int.toNat ((i : Nat) : Int)) * 1)).take 1 = [.int .i64 e]) (o13 : (decide (e < m)) = true) (o14 : 0 ≤ ((i : Nat) : Int) ∧ ((i : Nat) : Int) < ((((rentsK l p m).1).length : Nat) : Int)) (o15 : ((rowI ((rentsK l p m).1)).drop (0 + (Int.toNat ((i : Nat) : Int)) * 1)).take 1 = [.int .i64 e]) (o16 : 0 ≤ ((i : Nat) : Int) ∧ ((i : Nat) : Int) < ((l.length : Nat) : Int)) (o17 : ((rowI l).drop (0 + (Int.toNat ((i : Nat) : Int)) * 1)).take 1 = [.int .i64 e1]) (o18 : (e != e1) = true)
    (hr : AvLe (.bool false) res) : G Try.prog E (f8K0 Try.prog) (f8S0 l p q m i ) :=
  end_stepL (n := 400) (evs := [.b true, .ld (.int .i64 e), .b false, .ld (.int .i64 e), .ld (.int .i64 e1), .b false, .ld (.int .i64 e), .b true, .ld (.int .i64 e), .ld (.int .i64 e1), .b true]) (obs := [(decide (((i : Nat) : Int) < ((l.length : Nat) : Int))) = true, 0 ≤ ((i : Nat) : Int) ∧ ((i : Nat) : Int) < ((((rentsK l p m).1).length : Nat) : Int), ((rowI ((rentsK l p m).1)).drop (0 + (Int.toNat ((i : Nat) : Int)) * 1)).take 1 = [.int .i64 e], (decide (e < 0)) = false, 0 ≤ ((i : Nat) : Int) ∧ ((i : Nat) : Int) < ((((rentsK l p m).1).length : Nat) : Int), ((rowI ((rentsK l p m).1)).drop (0 + (Int.toNat ((i : Nat) : Int)) * 1)).take 1 = [.int .i64 e], 0 ≤ ((i : Nat) : Int) ∧ ((i : Nat) : Int) < ((l.length : Nat) : Int), ((rowI l).drop (0 + (Int.toNat ((i : Nat) : Int)) * 1)).take 1 = [.int .i64 e1], (decide (e > e1)) = false, 0 ≤ ((i : Nat) : Int) ∧ ((i : Nat) : Int) < ((((rentsK l p m).1).length : Nat) : Int), ((rowI ((rentsK l p m).1)).drop (0 + (Int.toNat ((i : Nat) : Int)) * 1)).take 1 = [.int .i64 e], (decide (e < m)) = true, 0 ≤ ((i : Nat) : Int) ∧ ((i : Nat) : Int) < ((((rentsK l p m).1).length : Nat) : Int), ((rowI ((rentsK l p m).1)).drop (0 + (Int.toNat ((i : Nat) : Int)) * 1)).take 1 = [.int .i64 e], 0 ≤ ((i : Nat) : Int) ∧ ((i : Nat) : Int) < ((l.length : Nat) : Int), ((rowI l).drop (0 + (Int.toNat ((i : Nat) : Int)) * 1)).take 1 = [.int .i64 e1], (e != e1) = true]) hE Try.func8 mixed (by kernel_rfl) ⟨o0, o2, o3, o4, o5, o6, o8, o9, o10, o11, o12, o13, o14, o15, o16, o17, o18, trivial⟩ hr
theorem p8_0_3 (l : (List Int)) (p : Int) (q : Int) (m : Int) (i : Nat)  (e : Int) (e1 : Int)  {E : Env} {rv : AV} (hE : PureE Try.prog 8 rv E) (o0 : (decide (((i : Nat) : Int) < ((l.length : Nat) : Int))) = true) (o2 : 0 ≤ ((i : Nat) : Int) ∧ ((i : Nat) : Int) < ((((rentsK l p m).1).length : Nat) : Int)) (o3 : ((rowI ((rentsK l p m).1)).drop (0 + (Int.toNat ((i : Nat) : Int)) * 1)).take 1 = [.int .i64 e]) (o4 : (decide (e < 0)) = false) (o5 : 0 ≤ ((i : Nat) : Int) ∧ ((i : Nat) : Int) < ((((rentsK l p m).1).length : Nat) : Int)) (o6 : ((rowI ((rentsK l p m).1)).drop (0 + (Int.toNat ((i : Nat) : Int)) * 1)).take 1 = [.int .i64 e]) (o8 : 0 ≤ ((i : Nat) : Int) ∧ ((i : Nat) : Int) < ((l.length : Nat) : Int)) (o9 : ((rowI l).drop (0 + (Int.toNat ((i : Nat) : Int)) * 1)).take 1 = [.int .i64 e1]) (o10 : (decide (e > e1)) = false) (o11 : 0 ≤ ((i : Nat) : Int) ∧ ((i : Nat) : Int) < ((((rentsK l p m).1).length : Nat) : Int)) (o12 : ((rowI ((rentsK l p m).1)).drop (0 + (Int.toNat ((i : Nat) : Int)) * 1)).take 1 = [.int .i64 e]) (o13 : (decide (e < m)) = true) (o14 : 0 ≤ ((i : Nat) : Int) ∧ ((i : Nat) : Int) < ((((rentsK l p m).1).length : Nat) : Int)) (o15 : ((rowI ((rentsK l p m).1)).drop (0 + (Int.toNat ((i : Nat) : Int)) * 1)).take 1 = [.int .i64 e]) (o16 : 0 ≤ ((i : Nat) : Int) ∧ ((i : Nat) : Int) < ((l.length : Nat) : Int)) (o17 : ((rowI l).drop (0 + (Int.toNat ((i : Nat) : Int)) * 1)).take 1 = [.int .i64 e1]) (o18 : (e != e1) = false) (o19 : InR .i64 (((i : Nat) : Int) + 1))
    (hg : G Try.prog E (f8K0 Try.prog) ⟨[.rsl (rowI l) 0 l.length, .junk, .junk, .ptr 0 0 0, .junk, .rsl (rowI ((rentsK l p m).1)) 0 (((rentsK l p m).1).length), .junk, .junk, .int .i64 (((i : Nat) : Int) + 1), .junk, .junk, .junk, .junk, .junk, .junk, .junk, .junk, .junk, .junk, .junk, .junk, .junk, .junk, .junk, .junk, .junk, .junk, .junk, .junk, .junk, .junk, .junk, .junk, .junk, .junk, .junk, .junk, .junk, .junk, .junk, .junk, .junk, .junk, .junk, .junk, .junk, .junk, .junk, .junk, .junk, .junk, .junk, .junk, .junk, .junk, .junk, .junk, .junk, .junk, .junk, .junk, .junk, .junk, .junk, .junk, .junk, .junk, .junk, .junk, .junk, .junk, .junk, .junk, .junk, .junk, .junk, .junk, .junk, .junk, .junk, .junk, .junk, .junk, .junk, .junk, .junk, .junk, .junk, .junk, .junk, .junk, .junk, .junk, .junk, .junk, .junk, .junk, .junk, .junk, .junk, .junk, .junk, .junk, .junk, .junk, .junk, .junk, .junk, .junk, .junk, .junk, .junk, .junk, .junk, .junk, .junk, .junk, .junk, .junk, .junk, .junk, .junk, .junk, .junk, .junk, .junk, .junk], [⟨true, 0, 1, true, [.int .i64 p, .int .i64 q, .int .i64 m], false⟩]⟩) : G Try.prog E (f8K0 Try.prog) (f8S0 l p q m i ) :=
  segC_step (n := 400) (ds := []) (cs := []) (live := [0, 3, 5, 8]) (m := 1) (evs := [.b true, .ld (.int .i64 e), .b false, .ld (.int .i64 e), .ld (.int .i64 e1), .b false, .ld (.int .i64 e), .b true, .ld (.int .i64 e), .ld (.int .i64 e1), .b false, .stop]) (obs := [(decide (((i : Nat) : Int) < ((l.length : Nat) : Int))) = true, 0 ≤ ((i : Nat) : Int) ∧ ((i : Nat) : Int) < ((((rentsK l p m).1).length : Nat) : Int), ((rowI ((rentsK l p m).1)).drop (0 + (Int.toNat ((i : Nat) : Int)) * 1)).take 1 = [.int .i64 e], (decide (e < 0)) = false, 0 ≤ ((i : Nat) : Int) ∧ ((i : Nat) : Int) < ((((rentsK l p m).1).length : Nat) : Int), ((rowI ((rentsK l p m).1)).drop (0 + (Int.toNat ((i : Nat) : Int)) * 1)).take 1 = [.int .i64 e], 0 ≤ ((i : Nat) : Int) ∧ ((i : Nat) : Int) < ((l.length : Nat) : Int), ((rowI l).drop (0 + (Int.toNat ((i : Nat) : Int)) * 1)).take 1 = [.int .i64 e1], (decide (e > e1)) = false, 0 ≤ ((i : Nat) : Int) ∧ ((i : Nat) : Int) < ((((rentsK l p m).1).length : Nat) : Int), ((rowI ((rentsK l p m).1)).drop (0 + (Int.toNat ((i : Nat) : Int)) * 1)).take 1 = [.int .i64 e], (decide (e < m)) = true, 0 ≤ ((i : Nat) : Int) ∧ ((i : Nat) : Int) < ((((rentsK l p m).1).length : Nat) : Int), ((rowI ((rentsK l p m).1)).drop (0 + (Int.toNat ((i : Nat) : Int)) * 1)).take 1 = [.int .i64 e], 0 ≤ ((i : Nat) : Int) ∧ ((i : Nat) : Int) < ((l.length : Nat) : Int), ((rowI l).drop (0 + (Int.toNat ((i : Nat) : Int)) * 1)).take 1 = [.int .i64 e1], (e != e1) = false, InR .i64 (((i : Nat) : Int) + 1)]) hE.2.1 (hE.nogh _) mixed (by kernel_rfl) ⟨o0, o2, o3, o4, o5, o6, o8, o9, o10, o11, o12, o13, o14, o15, o16, o17, o18, o19, trivial⟩ hg
theorem p8_0_4 (l : (List Int)) (p : Int) (q : Int) (m : Int) (i : Nat)  (e : Int) (e1 : Int)  {E : Env} {rv : AV} (hE : PureE Try.prog 8 rv E) (o0 : (decide (((i : Nat) : Int) < ((l.length : Nat) : Int))) = true) (o2 : 0 ≤ ((i : Nat) : Int) ∧ ((i : Nat) : Int) < ((((rentsK l p m).1).length : Nat) : Int)) (o3 : ((rowI ((rentsK l p m).1)).drop (0 + (Int.toNat ((i : Nat) : Int)) * 1)).take 1 = [.int .i64 e]) (o4 : (decide (e < 0)) = false) (o5 : 0 ≤ ((i : Nat) : Int) ∧ ((i : Nat) : Int) < ((((rentsK l p m).1).length : Nat) : Int)) (o6 : ((rowI ((rentsK l p m).1)).drop (0 + (Int.toNat ((i : Nat) : Int)) * 1)).take 1 = [.int .i64 e]) (o8 : 0 ≤ ((i : Nat) : Int) ∧ ((i : Nat) : Int) < ((l.length : Nat) : Int)) (o9 : ((rowI l).drop (0 + (Int.toNat ((i : Nat) : Int)) * 1)).take 1 = [.int .i64 e1]) (o10 : (decide (e > e1)) = false) (o11 : 0 ≤ ((i : Nat) : Int) ∧ ((i : Nat) : Int) < ((((rentsK l p m).1).length : Nat) : Int)) (o12 : ((rowI ((rentsK l p m).1)).drop (0 + (Int.toNat ((i : Nat) : Int)) * 1)).take 1 = [.int .i64 e]) (o13 : (decide (e < m)) = false) (o15 : InR .i64 (((i : Nat) : Int) + 1))
    (hg : G Try.prog E (f8K0 Try.prog) ⟨[.rsl (rowI l) 0 l.length, .junk, .junk, .ptr 0 0 0, .junk, .rsl (rowI ((rentsK l p m).1)) 0 (((rentsK l p m).1).length), .junk, .junk, .int .i64 (((i : Nat) : Int) + 1), .junk, .junk, .junk, .junk, .junk, .junk, .junk, .junk, .junk, .junk, .junk, .junk, .junk, .junk, .junk, .junk, .junk, .junk, .junk, .junk, .junk, .junk, .junk, .junk, .junk, .junk, .junk, .junk, .junk, .junk, .junk, .junk, .junk, .junk, .junk, .junk, .junk, .junk, .junk, .junk, .junk, .junk, .junk, .junk, .junk, .junk, .junk, .junk, .junk, .junk, .junk, .junk, .junk, .junk, .junk, .junk, .junk, .junk, .junk, .junk, .junk, .junk, .junk, .junk, .junk, .junk, .junk, .junk, .junk, .junk, .junk, .junk, .junk, .junk, .junk, .junk, .junk, .junk, .junk, .junk, .junk, .junk, .junk, .junk, .junk, .junk, .junk, .junk, .junk, .junk, .junk, .junk, .junk, .junk, .junk, .junk, .junk, .junk, .junk, .junk, .junk, .junk, .junk, .junk, .junk, .junk, .junk, .junk, .junk, .junk, .junk, .junk, .junk, .junk, .junk, .junk, .junk, .junk], [⟨true, 0, 1, true, [.int .i64 p, .int .i64 q, .int .i64 m], false⟩]⟩) : G Try.prog E (f8K0 Try.prog) (f8S0 l p q m i ) :=
  segC_step (n := 400) (ds := []) (cs := []) (live := [0, 3, 5, 8]) (m := 1) (evs := [.b true, .ld (.int .i64 e), .b false, .ld (.int .i64 e), .ld (.int .i64 e1), .b false, .ld (.int .i64 e), .b false, .b false, .stop]) (obs := [(decide (((i : Nat) : Int) < ((l.length : Nat) : Int))) = true, 0 ≤ ((i : Nat) : Int) ∧ ((i : Nat) : Int) < ((((rentsK l p m).1).length : Nat) : Int), ((rowI ((rentsK l p m).1)).drop (0 + (Int.toNat ((i : Nat) : Int)) * 1)).take 1 = [.int .i64 e], (decide (e < 0)) = false, 0 ≤ ((i : Nat) : Int) ∧ ((i : Nat) : Int) < ((((rentsK l p m).1).length : Nat) : Int), ((rowI ((rentsK l p m).1)).drop (0 + (Int.toNat ((i : Nat) : Int)) * 1)).take 1 = [.int .i64 e], 0 ≤ ((i : Nat) : Int) ∧ ((i : Nat) : Int) < ((l.length : Nat) : Int), ((rowI l).drop (0 + (Int.toNat ((i : Nat) : Int)) * 1)).take 1 = [.int .i64 e1], (decide (e > e1)) = false, 0 ≤ ((i : Nat) : Int) ∧ ((i : Nat) : Int) < ((((rentsK l p m).1).length : Nat) : Int), ((rowI ((rentsK l p m).1)).drop (0 + (Int.toNat ((i : Nat) : Int)) * 1)).take 1 = [.int .i64 e], (decide (e < m)) = false, false = false, InR .i64 (((i : Nat) : Int) + 1)]) hE.2.1 (hE.nogh _) mixed (by kernel_rfl) ⟨o0, o2, o3, o4, o5, o6, o8, o9, o10, o11, o12, o13, (rfl), o15, trivial⟩ hg
theorem p8_0_5 (l : (List Int)) (p : Int) (q : Int) (m : Int) (i : Nat)   {E : Env} {rv : AV} (hE : PureE Try.prog 8 rv E) (o0 : (decide (((i : Nat) : Int) < ((l.length : Nat) : Int))) = false) (o1 : PureF Try.prog (.clos 26 [] []) [.rsl (rowI l) 0 l.length, .int .i64 q, .int .i64 m] (.tup [.rsl (rowI ((rentsK l q m).1)) 0 (((rentsK l q m).1).length), .int .i64 ((rentsK l q m).2.1), .int .i64 ((rentsK l q m).2.2)]))
    (hg : G Try.prog E (f8K1 Try.prog) ⟨[.junk, .junk, .junk, .ptr 0 0 0, .junk, .rsl (rowI ((rentsK l p m).1)) 0 (((rentsK l p m).1).length), .junk, .int .i64 ((rentsK l q m).2.2), .junk, .rsl (rowI ((rentsK l q m).1)) 0 (((rentsK l q m).1).length), .junk, .int .i64 0, .junk, .junk, .junk, .junk, .junk, .junk, .junk, .junk, .junk, .junk, .junk, .junk, .junk, .junk, .junk, .junk, .junk, .junk, .junk, .junk, .junk, .junk, .junk, .junk, .junk, .junk, .junk, .junk, .junk, .junk, .junk, .junk, .junk, .junk, .junk, .junk, .junk, .junk, .junk, .junk, .junk, .junk, .junk, .junk, .junk, .junk, .junk, .junk, .junk, .junk, .junk, .junk, .junk, .junk, .junk, .junk, .junk, .junk, .junk, .junk, .junk, .junk, .junk, .junk, .junk, .junk, .junk, .junk, .junk, .junk, .junk, .junk, .junk, .junk, .junk, .junk, .junk, .junk, .junk, .junk, .junk, .junk, .junk, .junk, .junk, .junk, .junk, .junk, .junk, .junk, .junk, .junk, .junk, .junk, .junk, .junk, .junk, .junk, .junk, .junk, .junk, .junk, .junk, .junk, .junk, .junk, .junk, .junk, .junk, .junk, .junk, .junk, .junk, .junk, .junk], [⟨true, 0, 1, true, [.int .i64 p, .int .i64 q, .int .i64 m], false⟩]⟩) : G Try.prog E (f8K0 Try.prog) (f8S0 l p q m i ) :=
  segC_step (n := 400) (ds := []) (cs := []) (live := [3, 5, 7, 9, 11]) (m := 1) (evs := [.b false, .v (.tup [.rsl (rowI ((rentsK l q m).1)) 0 (((rentsK l q m).1).length), .int .i64 ((rentsK l q m).2.1), .int .i64 ((rentsK l q m).2.2)]), .stop]) (obs := [(decide (((i : Nat) : Int) < ((l.length : Nat) : Int))) = false, PureF Try.prog (.clos 26 [] []) [.rsl (rowI l) 0 l.length, .int .i64 q, .int .i64 m] (.tup [.rsl (rowI ((rentsK l q m).1)) 0 (((rentsK l q m).1).length), .int .i64 ((rentsK l q m).2.1), .int .i64 ((rentsK l q m).2.2)])]) hE.2.1 (hE.nogh _) mixed (by kernel_rfl) ⟨o0, o1, trivial⟩ hg
theorem f8W0 (l : (List Int)) (p : Int) (q : Int) (m : Int) (i : Nat) {E : Env} {rv : Bool} (hE : PureE Try.prog 8 (.bool rv) E)
    (h : ((((i : Nat) : Int) < ((l.length : Nat) : Int) → (∃ e : Int, ((rentsK l p m).1)[i]? = some e ∧ ((e < 0 → rv = false) ∧ (¬ (e < 0) → (∃ e1 : Int, l[i]? = some e1 ∧ ((e > e1 → rv = false) ∧ (¬ (e > e1) → ((e < m → ((¬ (e = e1) → rv = false) ∧ (e = e1 → ((-9223372036854775808 ≤ ((i : Nat) : Int) + 1 ∧ ((i : Nat) : Int) + 1 ≤ 9223372036854775807) ∧ f8G0 E l p q m (i + 1))))) ∧ (¬ (e < m) → ((-9223372036854775808 ≤ ((i : Nat) : Int) + 1 ∧ ((i : Nat) : Int) + 1 ≤ 9223372036854775807) ∧ f8G0 E l p q m (i + 1))))))))))) ∧ (¬ (((i : Nat) : Int) < ((l.length : Nat) : Int)) → ((l.length ≤ 9223372036854775807) ∧ f8G1 E l p q m 0)))) : f8G0 E l p q m i := by
  rcases Bool.eq_false_or_eq_true (decide (((i : Nat) : Int) < ((l.length : Nat) : Int))) with hc0 | hc0
  · have h := h.1 (of_decide_eq_true hc0)
    obtain ⟨e, h1, h⟩ := h
    rcases Bool.eq_false_or_eq_true (decide (e < 0)) with hc1 | hc1
    · have h := h.1 (of_decide_eq_true hc1)
      exact p8_0_0 l p q m i  e hE hc0 (idx_ok h1) (row_part cI (s := 1) (k := 0) (m := 1) (fun _ => rfl) (by decide) h1) hc1 (AvLe.of_eq (by rw [h]; try rfl))
    · have h := h.2 (of_decide_eq_false hc1)
      obtain ⟨e1, h2, h⟩ := h
      rcases Bool.eq_false_or_eq_true (decide (e > e1)) with hc2 | hc2
      · have h := h.1 (of_decide_eq_true hc2)
        exact p8_0_1 l p q m i  e e1 hE hc0 (idx_ok h1) (row_part cI (s := 1) (k := 0) (m := 1) (fun _ => rfl) (by decide) h1) hc1 (idx_ok h1) (row_part cI (s := 1) (k := 0) (m := 1) (fun _ => rfl) (by decide) h1) (idx_ok h2) (row_part cI (s := 1) (k := 0) (m := 1) (fun _ => rfl) (by decide) h2) hc2 (AvLe.of_eq (by rw [h]; try rfl))
      · have h := h.2 (of_decide_eq_false hc2)
        rcases Bool.eq_false_or_eq_true (decide (e < m)) with hc3 | hc3
        · have h := h.1 (of_decide_eq_true hc3)
          rcases Bool.eq_false_or_eq_true (e != e1) with hc4 | hc4
          · have h := h.1 (bneT hc4)
            exact p8_0_2 l p q m i  e e1 hE hc0 (idx_ok h1) (row_part cI (s := 1) (k := 0) (m := 1) (fun _ => rfl) (by decide) h1) hc1 (idx_ok h1) (row_part cI (s := 1) (k := 0) (m := 1) (fun _ => rfl) (by decide) h1) (idx_ok h2) (row_part cI (s := 1) (k := 0) (m := 1) (fun _ => rfl) (by decide) h2) hc2 (idx_ok h1) (row_part cI (s := 1) (k := 0) (m := 1) (fun _ => rfl) (by decide) h1) hc3 (idx_ok h1) (row_part cI (s := 1) (k := 0) (m := 1) (fun _ => rfl) (by decide) h1) (idx_ok h2) (row_part cI (s := 1) (k := 0) (m := 1) (fun _ => rfl) (by decide) h2) hc4 (AvLe.of_eq (by rw [h]; try rfl))
          · have h := h.2 (bneF hc4)
            obtain ⟨q19_5, h⟩ := h
            exact p8_0_3 l p q m i  e e1 hE hc0 (idx_ok h1) (row_part cI (s := 1) (k := 0) (m := 1) (fun _ => rfl) (by decide) h1) hc1 (idx_ok h1) (row_part cI (s := 1) (k := 0) (m := 1) (fun _ => rfl) (by decide) h1) (idx_ok h2) (row_part cI (s := 1) (k := 0) (m := 1) (fun _ => rfl) (by decide) h2) hc2 (idx_ok h1) (row_part cI (s := 1) (k := 0) (m := 1) (fun _ => rfl) (by decide) h1) hc3 (idx_ok h1) (row_part cI (s := 1) (k := 0) (m := 1) (fun _ => rfl) (by decide) h1) (idx_ok h2) (row_part cI (s := 1) (k := 0) (m := 1) (fun _ => rfl) (by decide) h2) hc4 q19_5 h
        · have h := h.2 (of_decide_eq_false hc3)
          obtain ⟨q15_4, h⟩ := h
          exact p8_0_4 l p q m i  e e1 hE hc0 (idx_ok h1) (row_part cI (s := 1) (k := 0) (m := 1) (fun _ => rfl) (by decide) h1) hc1 (idx_ok h1) (row_part cI (s := 1) (k := 0) (m := 1) (fun _ => rfl) (by decide) h1) (idx_ok h2) (row_part cI (s := 1) (k := 0) (m := 1) (fun _ => rfl) (by decide) h2) hc2 (idx_ok h1) (row_part cI (s := 1) (k := 0) (m := 1) (fun _ => rfl) (by decide) h1) hc3 q15_4 h
  · have h := h.2 (of_decide_eq_false hc0)
    obtain ⟨h1, h⟩ := h
    exact p8_0_5 l p q m i   hE hc0 (pureF_of Try.func26 (by kernel_rfl) f26b (RentsP_ok l q m h1)) h
theorem p8_1_0 (l : (List Int)) (p : Int) (q : Int) (m : Int) (i : Nat)  (e : Int) (e1 : Int)  {E : Env} {res : AV} (hE : PureE Try.prog 8 res E) (o0 : (decide (((i : Nat) : Int) < ((((rentsK l q m).1).length : Nat) : Int))) = true) (o1 : (decide (((i : Nat) : Int) < ((((rentsK l p m).1).length : Nat) : Int))) = true) (o2 : ((rentsK l q m).2.2 == 0) = true) (o3 : (decide (q ≥ p)) = true) (o5 : 0 ≤ ((i : Nat) : Int) ∧ ((i : Nat) : Int) < ((((rentsK l q m).1).length : Nat) : Int)) (o6 : ((rowI ((rentsK l q m).1)).drop (0 + (Int.toNat ((i : Nat) : Int)) * 1)).take 1 = [.int .i64 e]) (o8 : 0 ≤ ((i : Nat) : Int) ∧ ((i : Nat) : Int) < ((((rentsK l p m).1).length : Nat) : Int)) (o9 : ((rowI ((rentsK l p m).1)).drop (0 + (Int.toNat ((i : Nat) : Int)) * 1)).take 1 = [.int .i64 e1]) (o10 : (decide (e < e1)) = true)
    (hr : AvLe (.bool false) res) : G Try.prog E (f8K1 Try.prog) (f8S1 l p q m i ) :=
  end_stepL (n := 400) (evs := [.b true, .b true, .b true, .b true, .ld (.int .i64 e), .ld (.int .i64 e1), .b true]) (obs := [(decide (((i : Nat) : Int) < ((((rentsK l q m).1).length : Nat) : Int))) = true, (decide (((i : Nat) : Int) < ((((rentsK l p m).1).length : Nat) : Int))) = true, ((rentsK l q m).2.2 == 0) = true, (decide (q ≥ p)) = true, 0 ≤ ((i : Nat) : Int) ∧ ((i : Nat) : Int) < ((((rentsK l q m).1).length : Nat) : Int), ((rowI ((rentsK l q m).1)).drop (0 + (Int.toNat ((i : Nat) : Int)) * 1)).take 1 = [.int .i64 e], 0 ≤ ((i : Nat) : Int) ∧ ((i : Nat) : Int) < ((((rentsK l p m).1).length : Nat) : Int), ((rowI ((rentsK l p m).1)).drop (0 + (Int.toNat ((i : Nat) : Int)) * 1)).take 1 = [.int .i64 e1], (decide (e < e1)) = true]) hE Try.func8 mixed (by kernel_rfl) ⟨o0, o1, o2, o3, o5, o6, o8, o9, o10, trivial⟩ hr
theorem p8_1_1 (l : (List Int)) (p : Int) (q : Int) (m : Int) (i : Nat)  (e : Int) (e1 : Int)  {E : Env} {rv : AV} (hE : PureE Try.prog 8 rv E) (o0 : (decide (((i : Nat) : Int) < ((((rentsK l q m).1).length : Nat) : Int))) = true) (o1 : (decide (((i : Nat) : Int) < ((((rentsK l p m).1).length : Nat) : Int))) = true) (o2 : ((rentsK l q m).2.2 == 0) = true) (o3 : (decide (q ≥ p)) = true) (o5 : 0 ≤ ((i : Nat) : Int) ∧ ((i : Nat) : Int) < ((((rentsK l q m).1).length : Nat) : Int)) (o6 : ((rowI ((rentsK l q m).1)).drop (0 + (Int.toNat ((i : Nat) : Int)) * 1)).take 1 = [.int .i64 e]) (o8 : 0 ≤ ((i : Nat) : Int) ∧ ((i : Nat) : Int) < ((((rentsK l p m).1).length : Nat) : Int)) (o9 : ((rowI ((rentsK l p m).1)).drop (0 + (Int.toNat ((i : Nat) : Int)) * 1)).take 1 = [.int .i64 e1]) (o10 : (decide (e < e1)) = false) (o11 : InR .i64 (((i : Nat) : Int) + 1))
    (hg : G Try.prog E (f8K1 Try.prog) ⟨[.junk, .junk, .junk, .ptr 0 0 0, .junk, .rsl (rowI ((rentsK l p m).1)) 0 (((rentsK l p m).1).length), .junk, .int .i64 ((rentsK l q m).2.2), .junk, .rsl (rowI ((rentsK l q m).1)) 0 (((rentsK l q m).1).length), .junk, .int .i64 (((i : Nat) : Int) + 1), .junk, .junk, .junk, .junk, .junk, .junk, .junk, .junk, .junk, .junk, .junk, .junk, .junk, .junk, .junk, .junk, .junk, .junk, .junk, .junk, .junk, .junk, .junk, .junk, .junk, .junk, .junk, .junk, .junk, .junk, .junk, .junk, .junk, .junk, .junk, .junk, .junk, .junk, .junk, .junk, .junk, .junk, .junk, .junk, .junk, .junk, .junk, .junk, .junk, .junk, .junk, .junk, .junk, .junk, .junk, .junk, .junk, .junk, .junk, .junk, .junk, .junk, .junk, .junk, .junk, .junk, .junk, .junk, .junk, .junk, .junk, .junk, .junk, .junk, .junk, .junk, .junk, .junk, .junk, .junk, .junk, .junk, .junk, .junk, .junk, .junk, .junk, .junk, .junk, .junk, .junk, .junk, .junk, .junk, .junk, .junk, .junk, .junk, .junk, .junk, .junk, .junk, .junk, .junk, .junk, .junk, .junk, .junk, .junk, .junk, .junk, .junk, .junk, .junk, .junk], [⟨true, 0, 1, true, [.int .i64 p, .int .i64 q, .int .i64 m], false⟩]⟩) : G Try.prog E (f8K1 Try.prog) (f8S1 l p q m i ) :=
  segC_step (n := 400) (ds := []) (cs := []) (live := [3, 5, 7, 9, 11]) (m := 1) (evs := [.b true, .b true, .b true, .b true, .ld (.int .i64 e), .ld (.int .i64 e1), .b false, .stop]) (obs := [(decide (((i : Nat) : Int) < ((((rentsK l q m).1).length : Nat) : Int))) = true, (decide (((i : Nat) : Int) < ((((rentsK l p m).1).length : Nat) : Int))) = true, ((rentsK l q m).2.2 == 0) = true, (decide (q ≥ p)) = true, 0 ≤ ((i : Nat) : Int) ∧ ((i : Nat) : Int) < ((((rentsK l q m).1).length : Nat) : Int), ((rowI ((rentsK l q m).1)).drop (0 + (Int.toNat ((i : Nat) : Int)) * 1)).take 1 = [.int .i64 e], 0 ≤ ((i : Nat) : Int) ∧ ((i : Nat) : Int) < ((((rentsK l p m).1).length : Nat) : Int), ((rowI ((rentsK l p m).1)).drop (0 + (Int.toNat ((i : Nat) : Int)) * 1)).take 1 = [.int .i64 e1], (decide (e < e1)) = false, InR .i64 (((i : Nat) : Int) + 1)]) hE.2.1 (hE.nogh _) mixed (by kernel_rfl) ⟨o0, o1, o2, o3, o5, o6, o8, o9, o10, o11, trivial⟩ hg
theorem p8_1_2 (l : (List Int)) (p : Int) (q : Int) (m : Int) (i : Nat)   {E : Env} {res : AV} (hE : PureE Try.prog 8 res E) (o0 : (decide (((i : Nat) : Int) < ((((rentsK l q m).1).length : Nat) : Int))) = true) (o1 : (decide (((i : Nat) : Int) < ((((rentsK l p m).1).length : Nat) : Int))) = true) (o2 : ((rentsK l q m).2.2 == 0) = true) (o3 : (decide (q ≥ p)) = false) (o4 : PureF Try.prog (.clos 20 [] []) [] (.bool true))
    (hr : AvLe (.bool true) res) : G Try.prog E (f8K1 Try.prog) (f8S1 l p q m i ) :=
  end_stepL (n := 400) (evs := [.b true, .b true, .b true, .b false, .v (.bool true)]) (obs := [(decide (((i : Nat) : Int) < ((((rentsK l q m).1).length : Nat) : Int))) = true, (decide (((i : Nat) : Int) < ((((rentsK l p m).1).length : Nat) : Int))) = true, ((rentsK l q m).2.2 == 0) = true, (decide (q ≥ p)) = false, PureF Try.prog (.clos 20 [] []) [] (.bool true)]) hE Try.func8 mixed (by kernel_rfl) ⟨o0, o1, o2, o3, o4, trivial⟩ hr
theorem p8_1_3 (l : (List Int)) (p : Int) (q : Int) (m : Int) (i : Nat)   {E : Env} {res : AV} (hE : PureE Try.prog 8 res E) (o0 : (decide (((i : Nat) : Int) < ((((rentsK l q m).1).length : Nat) : Int))) = true) (o1 : (decide (((i : Nat) : Int) < ((((rentsK l p m).1).length : Nat) : Int))) = true) (o2 : ((rentsK l q m).2.2 == 0) = false) (o4 : PureF Try.prog (.clos 20 [] []) [] (.bool true))
    (hr : AvLe (.bool true) res) : G Try.prog E (f8K1 Try.prog) (f8S1 l p q m i ) :=
  end_stepL (n := 400) (evs := [.b true, .b true, .b false, .b false, .v (.bool true)]) (obs := [(decide (((i : Nat) : Int) < ((((rentsK l q m).1).length : Nat) : Int))) = true, (decide (((i : Nat) : Int) < ((((rentsK l p m).1).length : Nat) : Int))) = true, ((rentsK l q m).2.2 == 0) = false, false = false, PureF Try.prog (.clos 20 [] []) [] (.bool true)]) hE Try.func8 mixed (by kernel_rfl) ⟨o0, o1, o2, (rfl), o4, trivial⟩ hr
theorem p8_1_4 (l : (List Int)) (p : Int) (q : Int) (m : Int) (i : Nat)   {E : Env} {res : AV} (hE : PureE Try.prog 8 res E) (o0 : (decide (((i : Nat) : Int) < ((((rentsK l q m).1).length : Nat) : Int))) = true) (o1 : (decide (((i : Nat) : Int) < ((((rentsK l p m).1).length : Nat) : Int))) = false) (o4 : PureF Try.prog (.clos 20 [] []) [] (.bool true))
    (hr : AvLe (.bool true) res) : G Try.prog E (f8K1 Try.prog) (f8S1 l p q m i ) :=
  end_stepL (n := 400) (evs := [.b true, .b false, .b false, .b false, .v (.bool true)]) (obs := [(decide (((i : Nat) : Int) < ((((rentsK l q m).1).length : Nat) : Int))) = true, (decide (((i : Nat) : Int) < ((((rentsK l p m).1).length : Nat) : Int))) = false, false = false, false = false, PureF Try.prog (.clos 20 [] []) [] (.bool true)]) hE Try.func8 mixed (by kernel_rfl) ⟨o0, o1, (rfl), (rfl), o4, trivial⟩ hr
theorem p8_1_5 (l : (List Int)) (p : Int) (q : Int) (m : Int) (i : Nat)   {E : Env} {res : AV} (hE : PureE Try.prog 8 res E) (o0 : (decide (((i : Nat) : Int) < ((((rentsK l q m).1).length : Nat) : Int))) = false) (o4 : PureF Try.prog (.clos 20 [] []) [] (.bool true))
    (hr : AvLe (.bool true) res) : G Try.prog E (f8K1 Try.prog) (f8S1 l p q m i ) :=
  end_stepL (n := 400) (evs := [.b false, .b false, .b false, .b false, .v (.bool true)]) (obs := [(decide (((i : Nat) : Int) < ((((rentsK l q m).1).length : Nat) : Int))) = false, false = false, false = false, false = false, PureF Try.prog (.clos 20 [] []) [] (.bool true)]) hE Try.func8 mixed (by kernel_rfl) ⟨o0, (rfl), (rfl), (rfl), o4, trivial⟩ hr
theorem f8W1 (l : (List Int)) (p : Int) (q : Int) (m : Int) (i : Nat) {E : Env} {rv : Bool} (hE : PureE Try.prog 8 (.bool rv) E)
    (h : ((((i : Nat) : Int) < ((((rentsK l q m).1).length : Nat) : Int) → ((((i : Nat) : Int) < ((((rentsK l p m).1).length : Nat) : Int) → (((rentsK l q m).2.2 = 0 → ((q ≥ p → (∃ e : Int, ((rentsK l q m).1)[i]? = some e ∧ (∃ e1 : Int, ((rentsK l p m).1)[i]? = some e1 ∧ ((e < e1 → rv = false) ∧ (¬ (e < e1) → ((-9223372036854775808 ≤ ((i : Nat) : Int) + 1 ∧ ((i : Nat) : Int) + 1 ≤ 9223372036854775807) ∧ f8G1 E l p q m (i + 1))))))) ∧ (¬ (q ≥ p) → rv = true))) ∧ (¬ ((rentsK l q m).2.2 = 0) → rv = true))) ∧ (¬ (((i : Nat) : Int) < ((((rentsK l p m).1).length : Nat) : Int)) → rv = true))) ∧ (¬ (((i : Nat) : Int) < ((((rentsK l q m).1).length : Nat) : Int)) → rv = true))) : f8G1 E l p q m i := by
  rcases Bool.eq_false_or_eq_true (decide (((i : Nat) : Int) < ((((rentsK l q m).1).length : Nat) : Int))) with hc0 | hc0
  · have h := h.1 (of_decide_eq_true hc0)
    rcases Bool.eq_false_or_eq_true (decide (((i : Nat) : Int) < ((((rentsK l p m).1).length : Nat) : Int))) with hc1 | hc1
    · have h := h.1 (of_decide_eq_true hc1)
      rcases Bool.eq_false_or_eq_true ((rentsK l q m).2.2 == 0) with hc2 | hc2
      · have h := h.1 (eq_of_beq hc2)
        rcases Bool.eq_false_or_eq_true (decide (q ≥ p)) with hc3 | hc3
        · have h := h.1 (of_decide_eq_true hc3)
          obtain ⟨e, h1, h⟩ := h
          obtain ⟨e1, h2, h⟩ := h
          rcases Bool.eq_false_or_eq_true (decide (e < e1)) with hc4 | hc4
          · have h := h.1 (of_decide_eq_true hc4)
            exact p8_1_0 l p q m i  e e1 hE hc0 hc1 hc2 hc3 (idx_ok h1) (row_part cI (s := 1) (k := 0) (m := 1) (fun _ => rfl) (by decide) h1) (idx_ok h2) (row_part cI (s := 1) (k := 0) (m := 1) (fun _ => rfl) (by decide) h2) hc4 (AvLe.of_eq (by rw [h]; try rfl))
          · have h := h.2 (of_decide_eq_false hc4)
            obtain ⟨q11_5, h⟩ := h
            exact p8_1_1 l p q m i  e e1 hE hc0 hc1 hc2 hc3 (idx_ok h1) (row_part cI (s := 1) (k := 0) (m := 1) (fun _ => rfl) (by decide) h1) (idx_ok h2) (row_part cI (s := 1) (k := 0) (m := 1) (fun _ => rfl) (by decide) h2) hc4 q11_5 h
        · have h := h.2 (of_decide_eq_false hc3)
          exact p8_1_2 l p q m i   hE hc0 hc1 hc2 hc3 (pureF_of Try.func20 (by kernel_rfl) f20b (works_ok )) (AvLe.of_eq (by rw [h]; try rfl))
      · have h := h.2 (ne_of_beq_false hc2)
        exact p8_1_3 l p q m i   hE hc0 hc1 hc2 (pureF_of Try.func20 (by kernel_rfl) f20b (works_ok )) (AvLe.of_eq (by rw [h]; try rfl))
    · have h := h.2 (of_decide_eq_false hc1)
      exact p8_1_4 l p q m i   hE hc0 hc1 (pureF_of Try.func20 (by kernel_rfl) f20b (works_ok )) (AvLe.of_eq (by rw [h]; try rfl))
  · have h := h.2 (of_decide_eq_false hc0)
    exact p8_1_5 l p q m i   hE hc0 (pureF_of Try.func20 (by kernel_rfl) f20b (works_ok )) (AvLe.of_eq (by rw [h]; try rfl))

theorem rents_ok {l : List Int} {p m : Int} (h : (rentsK l p m).2.2 = 0) : l.length ≤ 60 ∧ (∀ x ∈ l, 0 ≤ x ∧ x ≤ 1000000000) ∧ (0 ≤ p ∧ p ≤ 100) ∧ 0 ≤ m ∧ rentsK l p m = (rentL l p m, sumI (rentL l p m), 0) := by
  by_cases h1 : ((l.length : Nat) : Int) > 60
  · rw [rentsK, if_pos h1] at h; cases h
  by_cases h2 : (!l.any fun x => !amount x) = false
  · rw [rentsK, if_neg h1, if_pos h2] at h; cases h
  by_cases h3 : amount m = false
  · rw [rentsK, if_neg h1, if_neg h2, if_pos h3] at h; cases h
  by_cases h4 : within p 0 100 = false
  · rw [rentsK, if_neg h1, if_neg h2, if_neg h3, if_pos h4] at h; cases h
  exact ⟨by omega, amounts_of (by simpa using h2), within_iff.1 (by simpa using h4), (within_iff.1 (show within m 0 1000000000 = true by simpa [amount] using h3)).1, by rw [rentsK, if_neg h1, if_neg h2, if_neg h3, if_neg h4]⟩

theorem sum_map_le {f : Int → Int} : ∀ {l : List Int}, (∀ x ∈ l, f x ≤ x) → (l.map f).sum ≤ l.sum
  | [], _ => by simp
  | x :: l, h => by
    have h1 := h x (by simp)
    have h2 := sum_map_le (l := l) fun y hy => h y (by simp [hy])
    simp only [List.map_cons, List.sum_cons]; omega

theorem rent1_mono {p q m e : Int} (he : 0 ≤ e) (hp : 0 ≤ p) (h : p ≤ q) : rent1 p m e ≤ rent1 q m e := by
  have h1 : e * p ≤ e * q := Int.mul_le_mul_of_nonneg_left h he
  have h0 := Int.mul_nonneg he hp
  have e1 : Int.tdiv (e * p) 100 = e * p / 100 := Int.tdiv_eq_ediv_of_nonneg h0
  have e2 : Int.tdiv (e * q) 100 = e * q / 100 := Int.tdiv_eq_ediv_of_nonneg (by omega)
  have h2 : iMax m (Int.tdiv (e * p) 100) ≤ iMax m (Int.tdiv (e * q) 100) := by
    rw [e1, e2]; simp only [iMax]; split <;> split <;> omega
  simp only [rent1]
  generalize iMax m (Int.tdiv (e * p) 100) = x at h2
  generalize iMax m (Int.tdiv (e * q) 100) = y at h2
  simp only [iMin]; split <;> split <;> omega

theorem law8_ok (l : List Int) (p q m : Int) (h : l.length ≤ 9223372036854775807) : Pure Try.prog 8 [.rsl (rowI l) 0 l.length, .agg [.int .i64 p, .int .i64 q, .int .i64 m]] (.bool true) := pure_of Try.func8 f8b fun E hE => by
  by_cases h0 : (rentsK l p m).2.2 = 0
  case neg => exact f8W l p q m (rv := true) hE ⟨h, fun _ => rfl, fun h1 => absurd h1 h0⟩
  obtain ⟨hl, ha, hp, hm, hr⟩ := rents_ok h0
  have r1 : (rentsK l p m).1 = rentL l p m := by rw [hr]
  have r2 : (rentsK l p m).2.1 = sumI (rentL l p m) := by rw [hr]
  have hlen : (rentL l p m).length = l.length := by simp [rentL]
  have hget : ∀ (i : Nat) (x : Int), l[i]? = some x → (rentL l p m)[i]? = some (rent1 p m x) := fun i x hx => by simp [rentL, hx]
  have hbd : ∀ x ∈ rentL l p m, 0 ≤ x ∧ x ≤ 1000000000 := fun x hx => by
    obtain ⟨y, hy, rfl⟩ := List.mem_map.1 hx
    have := rent1_bd (p := p) (m := m) (ha y hy) hp hm
    have := ha y hy
    omega
  have hsum : sumI (rentL l p m) ≤ sumI l := sum_map_le fun x hx => (rent1_bd (p := p) (m := m) (ha x hx) hp hm).2.2.2.1
  have second : ∀ (d i : Nat), i + d = l.length → f8G1 E l p q m i := by
    intro d
    induction d with
    | zero =>
      intro i hd
      refine f8W1 l p q m i (rv := true) hE ⟨fun _ => ⟨fun h1 => by rw [r1] at h1; omega, fun _ => rfl⟩, fun _ => rfl⟩
    | succ d ih =>
      intro i hd
      have hi : l[i]? = some l[i] := List.getElem?_eq_getElem (by omega)
      refine f8W1 l p q m i (rv := true) hE ⟨fun _ => ⟨fun _ => ⟨fun h1 => ⟨fun h2 => ?_, fun _ => rfl⟩, fun _ => rfl⟩, fun _ => rfl⟩, fun _ => rfl⟩
      obtain ⟨-, -, -, -, hq⟩ := rents_ok h1
      have hx := ha _ (List.mem_of_getElem? hi)
      have := rent1_mono (m := m) hx.1 hp.1 h2
      refine ⟨rent1 q m l[i], by rw [hq]; simp [rentL, hi], rent1 p m l[i], by rw [r1]; exact hget i _ hi, fun h3 => by omega, fun _ => ⟨by omega, ih (i + 1) (by omega)⟩⟩
  have first : ∀ (d i : Nat), i + d = l.length → f8G0 E l p q m i := by
    intro d
    induction d with
    | zero => intro i hd; exact f8W0 l p q m i (rv := true) hE ⟨fun h => by omega, fun _ => ⟨h, second l.length 0 (by omega)⟩⟩
    | succ d ih =>
      intro i hd
      have hi : l[i]? = some l[i] := List.getElem?_eq_getElem (by omega)
      have hb := rent1_bd (p := p) (m := m) (ha _ (List.mem_of_getElem? hi)) hp hm
      refine f8W0 l p q m i (rv := true) hE ⟨fun _ => ⟨rent1 p m l[i], by rw [r1]; exact hget i _ hi, fun h1 => by omega, fun _ => ⟨_, hi, fun h1 => by omega, fun _ => ⟨fun h1 => ⟨fun h2 => absurd (hb.2.2.2.2 h1) h2, fun _ => ⟨by omega, ih (i + 1) (by omega)⟩⟩, fun _ => ⟨by omega, ih (i + 1) (by omega)⟩⟩⟩⟩, fun h => by omega⟩
  refine f8W l p q m (rv := true) hE ⟨h, fun h1 => absurd h0 h1, fun _ => ⟨fun h1 => absurd (by rw [r1, hlen]) h1, fun _ => ⟨?_, fun h1 => absurd (by rw [r2, r1]) h1, fun _ => ⟨?_, fun h1 => by rw [r2] at h1; omega, fun _ => first l.length 0 (by omega)⟩⟩⟩⟩
  · rw [r1]; exact sumOk_bd (B := 1000000000) (by omega) (by omega) (by omega) hbd
  · exact sumOk_bd (B := 1000000000) (by omega) (by omega) (by omega) ha

end Go.Proofs.Ytmdbebbibecidaa

namespace Go.Proofs.Ytmdbebbibecidaa
open Go Ax
open Go.Proofs

structure RentA where
  p : Int
  q : Int
  m : Int
theorem dRent (W : World) : Dec Try.prog W 41 RentA (fun a => [.int .i64 a.p, .int .i64 a.q, .int .i64 a.m]) (fun a => True) := by
  refine Dec.map (dec_struct Try.underlying41 rfl (tot := 3) (by kernel_rfl) (decFs_cons (n := 1) (tot := 3) (by kernel_rfl) rfl (dec_i64 Try.underlying3) (decFs_cons (n := 1) (tot := 3) (by kernel_rfl) rfl (dec_i64 Try.underlying3) (decFs_cons (n := 1) (tot := 3) (by kernel_rfl) rfl (dec_i64 Try.underlying3) decFs_nil (by decide)) (by decide)) (by decide))) (fun x => (⟨x.1, x.2.1, x.2.2.1⟩ : RentA)) ?_ ?_
  · exact fun _ => rfl
  · exact fun _ _ => trivial
end Go.Proofs.Ytmdbebbibecidaa
