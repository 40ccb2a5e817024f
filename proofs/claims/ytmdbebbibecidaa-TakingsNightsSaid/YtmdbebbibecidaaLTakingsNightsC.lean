/- A part of the proof: several texts, one behind the other. -/
import Derived.Test.YtmdbebbibecidaaLTakingsNightsB
import Derived.SizedLaws
set_option linter.unusedVariables false
set_option linter.unusedSimpArgs false
set_option maxRecDepth 100000
namespace Go.Proofs.Ytmdbebbibecidaa
open Go Ax
open Go.Proofs

structure Bra where
  from_ : Int
  per : Int
def cBr (b : Bra) : List AV := [.int .i64 b.from_, .int .i64 b.per]
def rowBr (l : List Bra) : List AV := l.flatMap cBr
theorem f45b : Try.f45.body = some (bodyAt Try.prog 45) := by kernel_rfl
def f45K0 (P : Program) : List Item := kAt 400 [.code (bodyAt P 45)] [.b false, .b false, .stop]
def f45S0 (c : Int) (l : (List Bra)) (i : Nat)  : St := ⟨[.junk, .rsl (rowBr l) 0 l.length, .junk, .junk, .junk, .junk, .junk, .junk, .junk, .junk, .junk, .junk, .junk, .junk, .junk, .junk, .junk, .junk, .junk, .junk, .junk, .rsl (rowBr l) 0 l.length, .int .i64 ((l.length : Nat) : Int), .int .i64 ((i : Nat) : Int), .junk, .junk, .junk, .junk, .junk, .junk, .junk, .junk, .junk, .junk, .junk, .junk, .junk, .junk, .junk, .junk, .junk, .junk, .junk, .junk, .junk, .junk, .junk, .junk, .junk, .junk, .junk, .junk, .junk, .junk], []⟩
def f45G0 (E : Env) (c : Int) (l : (List Bra)) (i : Nat) : Prop := G Try.prog E (f45K0 Try.prog) (f45S0 c l i )
theorem p45_start_0 (c : Int) (l : (List Bra))   {E : Env} {res : AV} (hE : PureE Try.prog 45 res E) (o0 : PureF Try.prog (.clos 41 [] []) [.int .i64 c] (.bool (amount c))) (o1 : (!(amount c)) = true)
    (hr : AvLe (.int .i64 1) res) : G Try.prog E [.code (bodyAt Try.prog 45)] ⟨[.int .i64 c, .rsl (rowBr l) 0 l.length] ++ unds (Try.f45.ntmps - 2), []⟩ :=
  end_stepL (n := 400) (evs := [.v (.bool (amount c)), .b true]) (obs := [PureF Try.prog (.clos 41 [] []) [.int .i64 c] (.bool (amount c)), (!(amount c)) = true]) hE Try.func45 mixed (by kernel_rfl) ⟨o0, o1, trivial⟩ hr
theorem p45_start_1 (c : Int) (l : (List Bra))   {E : Env} {res : AV} (hE : PureE Try.prog 45 res E) (o0 : PureF Try.prog (.clos 41 [] []) [.int .i64 c] (.bool (amount c))) (o1 : (!(amount c)) = false) (o2 : PureF Try.prog (.clos 49 [] []) [.int .i64 ((l.length : Nat) : Int), .int .i64 1, .int .i64 8] (.bool (within ((l.length : Nat) : Int) 1 8))) (o3 : (!(within ((l.length : Nat) : Int) 1 8)) = true)
    (hr : AvLe (.int .i64 110) res) : G Try.prog E [.code (bodyAt Try.prog 45)] ⟨[.int .i64 c, .rsl (rowBr l) 0 l.length] ++ unds (Try.f45.ntmps - 2), []⟩ :=
  end_stepL (n := 400) (evs := [.v (.bool (amount c)), .b false, .v (.bool (within ((l.length : Nat) : Int) 1 8)), .b true, .b true]) (obs := [PureF Try.prog (.clos 41 [] []) [.int .i64 c] (.bool (amount c)), (!(amount c)) = false, PureF Try.prog (.clos 49 [] []) [.int .i64 ((l.length : Nat) : Int), .int .i64 1, .int .i64 8] (.bool (within ((l.length : Nat) : Int) 1 8)), (!(within ((l.length : Nat) : Int) 1 8)) = true, true = true]) hE Try.func45 mixed (by kernel_rfl) ⟨o0, o1, o2, o3, (rfl), trivial⟩ hr
theorem p45_start_2 (c : Int) (l : (List Bra))  (be : Bra)  {E : Env} {res : AV} (hE : PureE Try.prog 45 res E) (o0 : PureF Try.prog (.clos 41 [] []) [.int .i64 c] (.bool (amount c))) (o1 : (!(amount c)) = false) (o2 : PureF Try.prog (.clos 49 [] []) [.int .i64 ((l.length : Nat) : Int), .int .i64 1, .int .i64 8] (.bool (within ((l.length : Nat) : Int) 1 8))) (o3 : (!(within ((l.length : Nat) : Int) 1 8)) = false) (o5 : (0 : Int) ≤ 0 ∧ (0 : Int) < ((l.length : Nat) : Int)) (o6 : ((rowBr l).drop ((0 + 0 * 2) + 0)).take 1 = [.int .i64 be.from_]) (o7 : (be.from_ != 0) = true)
    (hr : AvLe (.int .i64 110) res) : G Try.prog E [.code (bodyAt Try.prog 45)] ⟨[.int .i64 c, .rsl (rowBr l) 0 l.length] ++ unds (Try.f45.ntmps - 2), []⟩ :=
  end_stepL (n := 400) (evs := [.v (.bool (amount c)), .b false, .v (.bool (within ((l.length : Nat) : Int) 1 8)), .b false, .ld (.int .i64 be.from_), .b true]) (obs := [PureF Try.prog (.clos 41 [] []) [.int .i64 c] (.bool (amount c)), (!(amount c)) = false, PureF Try.prog (.clos 49 [] []) [.int .i64 ((l.length : Nat) : Int), .int .i64 1, .int .i64 8] (.bool (within ((l.length : Nat) : Int) 1 8)), (!(within ((l.length : Nat) : Int) 1 8)) = false, (0 : Int) ≤ 0 ∧ (0 : Int) < ((l.length : Nat) : Int), ((rowBr l).drop ((0 + 0 * 2) + 0)).take 1 = [.int .i64 be.from_], (be.from_ != 0) = true]) hE Try.func45 mixed (by kernel_rfl) ⟨o0, o1, o2, o3, o5, o6, o7, trivial⟩ hr
theorem p45_start_3 (c : Int) (l : (List Bra))  (be : Bra)  {E : Env} {rv : AV} (hE : PureE Try.prog 45 rv E) (o0 : PureF Try.prog (.clos 41 [] []) [.int .i64 c] (.bool (amount c))) (o1 : (!(amount c)) = false) (o2 : PureF Try.prog (.clos 49 [] []) [.int .i64 ((l.length : Nat) : Int), .int .i64 1, .int .i64 8] (.bool (within ((l.length : Nat) : Int) 1 8))) (o3 : (!(within ((l.length : Nat) : Int) 1 8)) = false) (o5 : (0 : Int) ≤ 0 ∧ (0 : Int) < ((l.length : Nat) : Int)) (o6 : ((rowBr l).drop ((0 + 0 * 2) + 0)).take 1 = [.int .i64 be.from_]) (o7 : (be.from_ != 0) = false)
    (hg : G Try.prog E (f45K0 Try.prog) ⟨[.junk, .rsl (rowBr l) 0 l.length, .junk, .junk, .junk, .junk, .junk, .junk, .junk, .junk, .junk, .junk, .junk, .junk, .junk, .junk, .junk, .junk, .junk, .junk, .junk, .rsl (rowBr l) 0 l.length, .int .i64 ((l.length : Nat) : Int), .int .i64 0, .junk, .junk, .junk, .junk, .junk, .junk, .junk, .junk, .junk, .junk, .junk, .junk, .junk, .junk, .junk, .junk, .junk, .junk, .junk, .junk, .junk, .junk, .junk, .junk, .junk, .junk, .junk, .junk, .junk, .junk], []⟩) : G Try.prog E [.code (bodyAt Try.prog 45)] ⟨[.int .i64 c, .rsl (rowBr l) 0 l.length] ++ unds (Try.f45.ntmps - 2), []⟩ :=
  segC_step (n := 400) (ds := []) (cs := []) (live := [1, 21, 22, 23]) (m := 0) (evs := [.v (.bool (amount c)), .b false, .v (.bool (within ((l.length : Nat) : Int) 1 8)), .b false, .ld (.int .i64 be.from_), .b false, .stop]) (obs := [PureF Try.prog (.clos 41 [] []) [.int .i64 c] (.bool (amount c)), (!(amount c)) = false, PureF Try.prog (.clos 49 [] []) [.int .i64 ((l.length : Nat) : Int), .int .i64 1, .int .i64 8] (.bool (within ((l.length : Nat) : Int) 1 8)), (!(within ((l.length : Nat) : Int) 1 8)) = false, (0 : Int) ≤ 0 ∧ (0 : Int) < ((l.length : Nat) : Int), ((rowBr l).drop ((0 + 0 * 2) + 0)).take 1 = [.int .i64 be.from_], (be.from_ != 0) = false]) hE.2.1 (hE.nogh _) mixed (by kernel_rfl) ⟨o0, o1, o2, o3, o5, o6, o7, trivial⟩ hg
theorem f45W (c : Int) (l : (List Bra)) {E : Env} {rv : Int} (hE : PureE Try.prog 45 (.int .i64 rv) E)
    (h : (((amount c) = false → rv = 1) ∧ ((amount c) = true → (((within ((l.length : Nat) : Int) 1 8) = false → rv = 110) ∧ ((within ((l.length : Nat) : Int) 1 8) = true → (∃ be : Bra, l[0]? = some be ∧ ((¬ (be.from_ = 0) → rv = 110) ∧ (be.from_ = 0 → f45G0 E c l 0)))))))) : G Try.prog E [.code (bodyAt Try.prog 45)] ⟨[.int .i64 c, .rsl (rowBr l) 0 l.length] ++ unds (Try.f45.ntmps - 2), []⟩ := by
  rcases Bool.eq_false_or_eq_true (!(amount c)) with hc0 | hc0
  · have h := h.1 (bnT hc0)
    exact p45_start_0 c l    hE (pureF_of Try.func41 (by kernel_rfl) f41b (amount_ok c)) hc0 (AvLe.of_eq (by rw [h]; try rfl))
  · have h := h.2 (bnF hc0)
    rcases Bool.eq_false_or_eq_true (!(within ((l.length : Nat) : Int) 1 8)) with hc1 | hc1
    · have h := h.1 (bnT hc1)
      exact p45_start_1 c l    hE (pureF_of Try.func41 (by kernel_rfl) f41b (amount_ok c)) hc0 (pureF_of Try.func49 (by kernel_rfl) f49b (within_ok ((l.length : Nat) : Int) 1 8)) hc1 (AvLe.of_eq (by rw [h]; try rfl))
    · have h := h.2 (bnF hc1)
      obtain ⟨be, h1, h⟩ := h
      rcases Bool.eq_false_or_eq_true (be.from_ != 0) with hc2 | hc2
      · have h := h.1 (bneT hc2)
        exact p45_start_2 c l   be hE (pureF_of Try.func41 (by kernel_rfl) f41b (amount_ok c)) hc0 (pureF_of Try.func49 (by kernel_rfl) f49b (within_ok ((l.length : Nat) : Int) 1 8)) hc1 (idx_ok h1) (row_part cBr (s := 2) (k := 0) (m := 1) (fun _ => rfl) (by decide) h1) hc2 (AvLe.of_eq (by rw [h]; try rfl))
      · have h := h.2 (bneF hc2)
        exact p45_start_3 c l   be hE (pureF_of Try.func41 (by kernel_rfl) f41b (amount_ok c)) hc0 (pureF_of Try.func49 (by kernel_rfl) f49b (within_ok ((l.length : Nat) : Int) 1 8)) hc1 (idx_ok h1) (row_part cBr (s := 2) (k := 0) (m := 1) (fun _ => rfl) (by decide) h1) hc2 h
theorem p45_0_0 (c : Int) (l : (List Bra)) (i : Nat)  (be : Bra)  {E : Env} {res : AV} (hE : PureE Try.prog 45 res E) (o0 : (decide (((i : Nat) : Int) < ((l.length : Nat) : Int))) = true) (o2 : 0 ≤ ((i : Nat) : Int) ∧ ((i : Nat) : Int) < ((l.length : Nat) : Int)) (o3 : ((rowBr l).drop (0 + (Int.toNat ((i : Nat) : Int)) * 2)).take 2 = [.int .i64 be.from_, .int .i64 be.per]) (o5 : PureF Try.prog (.clos 49 [] []) [.int .i64 be.from_, .int .i64 0, .int .i64 1000000000] (.bool (within be.from_ 0 1000000000))) (o6 : (!(within be.from_ 0 1000000000)) = true)
    (hr : AvLe (.int .i64 110) res) : G Try.prog E (f45K0 Try.prog) (f45S0 c l i ) :=
  end_stepL (n := 400) (evs := [.b true, .ld (.agg [.int .i64 be.from_, .int .i64 be.per]), .v (.bool (within be.from_ 0 1000000000)), .b true, .b true, .b true]) (obs := [(decide (((i : Nat) : Int) < ((l.length : Nat) : Int))) = true, 0 ≤ ((i : Nat) : Int) ∧ ((i : Nat) : Int) < ((l.length : Nat) : Int), ((rowBr l).drop (0 + (Int.toNat ((i : Nat) : Int)) * 2)).take 2 = [.int .i64 be.from_, .int .i64 be.per], 2 ≤ 2, PureF Try.prog (.clos 49 [] []) [.int .i64 be.from_, .int .i64 0, .int .i64 1000000000] (.bool (within be.from_ 0 1000000000)), (!(within be.from_ 0 1000000000)) = true, true = true, true = true]) hE Try.func45 mixed (by kernel_rfl) ⟨o0, o2, o3, (by decide), o5, o6, (rfl), (rfl), trivial⟩ hr
theorem p45_0_1 (c : Int) (l : (List Bra)) (i : Nat)  (be : Bra)  {E : Env} {res : AV} (hE : PureE Try.prog 45 res E) (o0 : (decide (((i : Nat) : Int) < ((l.length : Nat) : Int))) = true) (o2 : 0 ≤ ((i : Nat) : Int) ∧ ((i : Nat) : Int) < ((l.length : Nat) : Int)) (o3 : ((rowBr l).drop (0 + (Int.toNat ((i : Nat) : Int)) * 2)).take 2 = [.int .i64 be.from_, .int .i64 be.per]) (o5 : PureF Try.prog (.clos 49 [] []) [.int .i64 be.from_, .int .i64 0, .int .i64 1000000000] (.bool (within be.from_ 0 1000000000))) (o6 : (!(within be.from_ 0 1000000000)) = false) (o7 : PureF Try.prog (.clos 49 [] []) [.int .i64 be.per, .int .i64 0, .int .i64 100] (.bool (within be.per 0 100))) (o8 : (!(within be.per 0 100)) = true)
    (hr : AvLe (.int .i64 110) res) : G Try.prog E (f45K0 Try.prog) (f45S0 c l i ) :=
  end_stepL (n := 400) (evs := [.b true, .ld (.agg [.int .i64 be.from_, .int .i64 be.per]), .v (.bool (within be.from_ 0 1000000000)), .b false, .v (.bool (within be.per 0 100)), .b true, .b true]) (obs := [(decide (((i : Nat) : Int) < ((l.length : Nat) : Int))) = true, 0 ≤ ((i : Nat) : Int) ∧ ((i : Nat) : Int) < ((l.length : Nat) : Int), ((rowBr l).drop (0 + (Int.toNat ((i : Nat) : Int)) * 2)).take 2 = [.int .i64 be.from_, .int .i64 be.per], 2 ≤ 2, PureF Try.prog (.clos 49 [] []) [.int .i64 be.from_, .int .i64 0, .int .i64 1000000000] (.bool (within be.from_ 0 1000000000)), (!(within be.from_ 0 1000000000)) = false, PureF Try.prog (.clos 49 [] []) [.int .i64 be.per, .int .i64 0, .int .i64 100] (.bool (within be.per 0 100)), (!(within be.per 0 100)) = true, true = true]) hE Try.func45 mixed (by kernel_rfl) ⟨o0, o2, o3, (by decide), o5, o6, o7, o8, (rfl), trivial⟩ hr
theorem p45_0_2 (c : Int) (l : (List Bra)) (i : Nat)  (be : Bra) (be1 : Bra)  {E : Env} {res : AV} (hE : PureE Try.prog 45 res E) (o0 : (decide (((i : Nat) : Int) < ((l.length : Nat) : Int))) = true) (o2 : 0 ≤ ((i : Nat) : Int) ∧ ((i : Nat) : Int) < ((l.length : Nat) : Int)) (o3 : ((rowBr l).drop (0 + (Int.toNat ((i : Nat) : Int)) * 2)).take 2 = [.int .i64 be.from_, .int .i64 be.per]) (o5 : PureF Try.prog (.clos 49 [] []) [.int .i64 be.from_, .int .i64 0, .int .i64 1000000000] (.bool (within be.from_ 0 1000000000))) (o6 : (!(within be.from_ 0 1000000000)) = false) (o7 : PureF Try.prog (.clos 49 [] []) [.int .i64 be.per, .int .i64 0, .int .i64 100] (.bool (within be.per 0 100))) (o8 : (!(within be.per 0 100)) = false) (o9 : (decide (((i : Nat) : Int) > 0)) = true) (o10 : InR .i64 (((i : Nat) : Int) - 1)) (o12 : 0 ≤ (((i : Nat) : Int) - 1) ∧ (((i : Nat) : Int) - 1) < ((l.length : Nat) : Int)) (o13 : ((rowBr l).drop ((0 + (Int.toNat (((i : Nat) : Int) - 1)) * 2) + 0)).take 1 = [.int .i64 be1.from_]) (o14 : (decide (be.from_ ≤ be1.from_)) = true)
    (hr : AvLe (.int .i64 110) res) : G Try.prog E (f45K0 Try.prog) (f45S0 c l i ) :=
  end_stepL (n := 400) (evs := [.b true, .ld (.agg [.int .i64 be.from_, .int .i64 be.per]), .v (.bool (within be.from_ 0 1000000000)), .b false, .v (.bool (within be.per 0 100)), .b false, .b true, .auto, .ld (.int .i64 be1.from_), .b true]) (obs := [(decide (((i : Nat) : Int) < ((l.length : Nat) : Int))) = true, 0 ≤ ((i : Nat) : Int) ∧ ((i : Nat) : Int) < ((l.length : Nat) : Int), ((rowBr l).drop (0 + (Int.toNat ((i : Nat) : Int)) * 2)).take 2 = [.int .i64 be.from_, .int .i64 be.per], 2 ≤ 2, PureF Try.prog (.clos 49 [] []) [.int .i64 be.from_, .int .i64 0, .int .i64 1000000000] (.bool (within be.from_ 0 1000000000)), (!(within be.from_ 0 1000000000)) = false, PureF Try.prog (.clos 49 [] []) [.int .i64 be.per, .int .i64 0, .int .i64 100] (.bool (within be.per 0 100)), (!(within be.per 0 100)) = false, (decide (((i : Nat) : Int) > 0)) = true, InR .i64 (((i : Nat) : Int) - 1), 0 ≤ (((i : Nat) : Int) - 1) ∧ (((i : Nat) : Int) - 1) < ((l.length : Nat) : Int), ((rowBr l).drop ((0 + (Int.toNat (((i : Nat) : Int) - 1)) * 2) + 0)).take 1 = [.int .i64 be1.from_], (decide (be.from_ ≤ be1.from_)) = true]) hE Try.func45 mixed (by kernel_rfl) ⟨o0, o2, o3, (by decide), o5, o6, o7, o8, o9, o10, o12, o13, o14, trivial⟩ hr
theorem p45_0_3 (c : Int) (l : (List Bra)) (i : Nat)  (be : Bra) (be1 : Bra)  {E : Env} {rv : AV} (hE : PureE Try.prog 45 rv E) (o0 : (decide (((i : Nat) : Int) < ((l.length : Nat) : Int))) = true) (o2 : 0 ≤ ((i : Nat) : Int) ∧ ((i : Nat) : Int) < ((l.length : Nat) : Int)) (o3 : ((rowBr l).drop (0 + (Int.toNat ((i : Nat) : Int)) * 2)).take 2 = [.int .i64 be.from_, .int .i64 be.per]) (o5 : PureF Try.prog (.clos 49 [] []) [.int .i64 be.from_, .int .i64 0, .int .i64 1000000000] (.bool (within be.from_ 0 1000000000))) (o6 : (!(within be.from_ 0 1000000000)) = false) (o7 : PureF Try.prog (.clos 49 [] []) [.int .i64 be.per, .int .i64 0, .int .i64 100] (.bool (within be.per 0 100))) (o8 : (!(within be.per 0 100)) = false) (o9 : (decide (((i : Nat) : Int) > 0)) = true) (o10 : InR .i64 (((i : Nat) : Int) - 1)) (o12 : 0 ≤ (((i : Nat) : Int) - 1) ∧ (((i : Nat) : Int) - 1) < ((l.length : Nat) : Int)) (o13 : ((rowBr l).drop ((0 + (Int.toNat (((i : Nat) : Int) - 1)) * 2) + 0)).take 1 = [.int .i64 be1.from_]) (o14 : (decide (be.from_ ≤ be1.from_)) = false) (o15 : InR .i64 (((i : Nat) : Int) + 1))
    (hg : G Try.prog E (f45K0 Try.prog) ⟨[.junk, .rsl (rowBr l) 0 l.length, .junk, .junk, .junk, .junk, .junk, .junk, .junk, .junk, .junk, .junk, .junk, .junk, .junk, .junk, .junk, .junk, .junk, .junk, .junk, .rsl (rowBr l) 0 l.length, .int .i64 ((l.length : Nat) : Int), .int .i64 (((i : Nat) : Int) + 1), .junk, .junk, .junk, .junk, .junk, .junk, .junk, .junk, .junk, .junk, .junk, .junk, .junk, .junk, .junk, .junk, .junk, .junk, .junk, .junk, .junk, .junk, .junk, .junk, .junk, .junk, .junk, .junk, .junk, .junk], []⟩) : G Try.prog E (f45K0 Try.prog) (f45S0 c l i ) :=
  segC_step (n := 400) (ds := []) (cs := []) (live := [1, 21, 22, 23]) (m := 0) (evs := [.b true, .ld (.agg [.int .i64 be.from_, .int .i64 be.per]), .v (.bool (within be.from_ 0 1000000000)), .b false, .v (.bool (within be.per 0 100)), .b false, .b true, .auto, .ld (.int .i64 be1.from_), .b false, .stop]) (obs := [(decide (((i : Nat) : Int) < ((l.length : Nat) : Int))) = true, 0 ≤ ((i : Nat) : Int) ∧ ((i : Nat) : Int) < ((l.length : Nat) : Int), ((rowBr l).drop (0 + (Int.toNat ((i : Nat) : Int)) * 2)).take 2 = [.int .i64 be.from_, .int .i64 be.per], 2 ≤ 2, PureF Try.prog (.clos 49 [] []) [.int .i64 be.from_, .int .i64 0, .int .i64 1000000000] (.bool (within be.from_ 0 1000000000)), (!(within be.from_ 0 1000000000)) = false, PureF Try.prog (.clos 49 [] []) [.int .i64 be.per, .int .i64 0, .int .i64 100] (.bool (within be.per 0 100)), (!(within be.per 0 100)) = false, (decide (((i : Nat) : Int) > 0)) = true, InR .i64 (((i : Nat) : Int) - 1), 0 ≤ (((i : Nat) : Int) - 1) ∧ (((i : Nat) : Int) - 1) < ((l.length : Nat) : Int), ((rowBr l).drop ((0 + (Int.toNat (((i : Nat) : Int) - 1)) * 2) + 0)).take 1 = [.int .i64 be1.from_], (decide (be.from_ ≤ be1.from_)) = false, InR .i64 (((i : Nat) : Int) + 1)]) hE.2.1 (hE.nogh _) mixed (by kernel_rfl) ⟨o0, o2, o3, (by decide), o5, o6, o7, o8, o9, o10, o12, o13, o14, o15, trivial⟩ hg
theorem p45_0_4 (c : Int) (l : (List Bra)) (i : Nat)  (be : Bra)  {E : Env} {rv : AV} (hE : PureE Try.prog 45 rv E) (o0 : (decide (((i : Nat) : Int) < ((l.length : Nat) : Int))) = true) (o2 : 0 ≤ ((i : Nat) : Int) ∧ ((i : Nat) : Int) < ((l.length : Nat) : Int)) (o3 : ((rowBr l).drop (0 + (Int.toNat ((i : Nat) : Int)) * 2)).take 2 = [.int .i64 be.from_, .int .i64 be.per]) (o5 : PureF Try.prog (.clos 49 [] []) [.int .i64 be.from_, .int .i64 0, .int .i64 1000000000] (.bool (within be.from_ 0 1000000000))) (o6 : (!(within be.from_ 0 1000000000)) = false) (o7 : PureF Try.prog (.clos 49 [] []) [.int .i64 be.per, .int .i64 0, .int .i64 100] (.bool (within be.per 0 100))) (o8 : (!(within be.per 0 100)) = false) (o9 : (decide (((i : Nat) : Int) > 0)) = false) (o11 : InR .i64 (((i : Nat) : Int) + 1))
    (hg : G Try.prog E (f45K0 Try.prog) ⟨[.junk, .rsl (rowBr l) 0 l.length, .junk, .junk, .junk, .junk, .junk, .junk, .junk, .junk, .junk, .junk, .junk, .junk, .junk, .junk, .junk, .junk, .junk, .junk, .junk, .rsl (rowBr l) 0 l.length, .int .i64 ((l.length : Nat) : Int), .int .i64 (((i : Nat) : Int) + 1), .junk, .junk, .junk, .junk, .junk, .junk, .junk, .junk, .junk, .junk, .junk, .junk, .junk, .junk, .junk, .junk, .junk, .junk, .junk, .junk, .junk, .junk, .junk, .junk, .junk, .junk, .junk, .junk, .junk, .junk], []⟩) : G Try.prog E (f45K0 Try.prog) (f45S0 c l i ) :=
  segC_step (n := 400) (ds := []) (cs := []) (live := [1, 21, 22, 23]) (m := 0) (evs := [.b true, .ld (.agg [.int .i64 be.from_, .int .i64 be.per]), .v (.bool (within be.from_ 0 1000000000)), .b false, .v (.bool (within be.per 0 100)), .b false, .b false, .b false, .stop]) (obs := [(decide (((i : Nat) : Int) < ((l.length : Nat) : Int))) = true, 0 ≤ ((i : Nat) : Int) ∧ ((i : Nat) : Int) < ((l.length : Nat) : Int), ((rowBr l).drop (0 + (Int.toNat ((i : Nat) : Int)) * 2)).take 2 = [.int .i64 be.from_, .int .i64 be.per], 2 ≤ 2, PureF Try.prog (.clos 49 [] []) [.int .i64 be.from_, .int .i64 0, .int .i64 1000000000] (.bool (within be.from_ 0 1000000000)), (!(within be.from_ 0 1000000000)) = false, PureF Try.prog (.clos 49 [] []) [.int .i64 be.per, .int .i64 0, .int .i64 100] (.bool (within be.per 0 100)), (!(within be.per 0 100)) = false, (decide (((i : Nat) : Int) > 0)) = false, false = false, InR .i64 (((i : Nat) : Int) + 1)]) hE.2.1 (hE.nogh _) mixed (by kernel_rfl) ⟨o0, o2, o3, (by decide), o5, o6, o7, o8, o9, (rfl), o11, trivial⟩ hg
theorem p45_0_5 (c : Int) (l : (List Bra)) (i : Nat)   {E : Env} {res : AV} (hE : PureE Try.prog 45 res E) (o0 : (decide (((i : Nat) : Int) < ((l.length : Nat) : Int))) = false)
    (hr : AvLe (.int .i64 0) res) : G Try.prog E (f45K0 Try.prog) (f45S0 c l i ) :=
  end_stepL (n := 400) (evs := [.b false]) (obs := [(decide (((i : Nat) : Int) < ((l.length : Nat) : Int))) = false]) hE Try.func45 mixed (by kernel_rfl) ⟨o0, trivial⟩ hr
theorem f45W0 (c : Int) (l : (List Bra)) (i : Nat) {E : Env} {rv : Int} (hE : PureE Try.prog 45 (.int .i64 rv) E)
    (h : ((((i : Nat) : Int) < ((l.length : Nat) : Int) → (∃ be : Bra, l[i]? = some be ∧ (((within be.from_ 0 1000000000) = false → rv = 110) ∧ ((within be.from_ 0 1000000000) = true → (((within be.per 0 100) = false → rv = 110) ∧ ((within be.per 0 100) = true → ((((i : Nat) : Int) > 0 → ((-9223372036854775808 ≤ ((i : Nat) : Int) - 1 ∧ ((i : Nat) : Int) - 1 ≤ 9223372036854775807) ∧ (0 ≤ (((i : Nat) : Int) - 1) ∧ (∃ be1 : Bra, l[Int.toNat (((i : Nat) : Int) - 1)]? = some be1 ∧ ((be.from_ ≤ be1.from_ → rv = 110) ∧ (¬ (be.from_ ≤ be1.from_) → ((-9223372036854775808 ≤ ((i : Nat) : Int) + 1 ∧ ((i : Nat) : Int) + 1 ≤ 9223372036854775807) ∧ f45G0 E c l (i + 1)))))))) ∧ (¬ (((i : Nat) : Int) > 0) → ((-9223372036854775808 ≤ ((i : Nat) : Int) + 1 ∧ ((i : Nat) : Int) + 1 ≤ 9223372036854775807) ∧ f45G0 E c l (i + 1)))))))))) ∧ (¬ (((i : Nat) : Int) < ((l.length : Nat) : Int)) → rv = 0))) : f45G0 E c l i := by
  rcases Bool.eq_false_or_eq_true (decide (((i : Nat) : Int) < ((l.length : Nat) : Int))) with hc0 | hc0
  · have h := h.1 (of_decide_eq_true hc0)
    obtain ⟨be, h1, h⟩ := h
    rcases Bool.eq_false_or_eq_true (!(within be.from_ 0 1000000000)) with hc1 | hc1
    · have h := h.1 (bnT hc1)
      exact p45_0_0 c l i  be hE hc0 (idx_ok h1) (row_part cBr (s := 2) (k := 0) (m := 2) (fun _ => rfl) (by decide) h1) (pureF_of Try.func49 (by kernel_rfl) f49b (within_ok be.from_ 0 1000000000)) hc1 (AvLe.of_eq (by rw [h]; try rfl))
    · have h := h.2 (bnF hc1)
      rcases Bool.eq_false_or_eq_true (!(within be.per 0 100)) with hc2 | hc2
      · have h := h.1 (bnT hc2)
        exact p45_0_1 c l i  be hE hc0 (idx_ok h1) (row_part cBr (s := 2) (k := 0) (m := 2) (fun _ => rfl) (by decide) h1) (pureF_of Try.func49 (by kernel_rfl) f49b (within_ok be.from_ 0 1000000000)) hc1 (pureF_of Try.func49 (by kernel_rfl) f49b (within_ok be.per 0 100)) hc2 (AvLe.of_eq (by rw [h]; try rfl))
      · have h := h.2 (bnF hc2)
        rcases Bool.eq_false_or_eq_true (decide (((i : Nat) : Int) > 0)) with hc3 | hc3
        · have h := h.1 (of_decide_eq_true hc3)
          obtain ⟨q10_4, h⟩ := h
          obtain ⟨h3, h⟩ := h
          obtain ⟨be1, h2, h⟩ := h
          rcases Bool.eq_false_or_eq_true (decide (be.from_ ≤ be1.from_)) with hc4 | hc4
          · have h := h.1 (of_decide_eq_true hc4)
            exact p45_0_2 c l i  be be1 hE hc0 (idx_ok h1) (row_part cBr (s := 2) (k := 0) (m := 2) (fun _ => rfl) (by decide) h1) (pureF_of Try.func49 (by kernel_rfl) f49b (within_ok be.from_ 0 1000000000)) hc1 (pureF_of Try.func49 (by kernel_rfl) f49b (within_ok be.per 0 100)) hc2 hc3 q10_4 (idx_ok' h3 h2) (row_part cBr (s := 2) (k := 0) (m := 1) (fun _ => rfl) (by decide) h2) hc4 (AvLe.of_eq (by rw [h]; try rfl))
          · have h := h.2 (of_decide_eq_false hc4)
            obtain ⟨q15_5, h⟩ := h
            exact p45_0_3 c l i  be be1 hE hc0 (idx_ok h1) (row_part cBr (s := 2) (k := 0) (m := 2) (fun _ => rfl) (by decide) h1) (pureF_of Try.func49 (by kernel_rfl) f49b (within_ok be.from_ 0 1000000000)) hc1 (pureF_of Try.func49 (by kernel_rfl) f49b (within_ok be.per 0 100)) hc2 hc3 q10_4 (idx_ok' h3 h2) (row_part cBr (s := 2) (k := 0) (m := 1) (fun _ => rfl) (by decide) h2) hc4 q15_5 h
        · have h := h.2 (of_decide_eq_false hc3)
          obtain ⟨q11_4, h⟩ := h
          exact p45_0_4 c l i  be hE hc0 (idx_ok h1) (row_part cBr (s := 2) (k := 0) (m := 2) (fun _ => rfl) (by decide) h1) (pureF_of Try.func49 (by kernel_rfl) f49b (within_ok be.from_ 0 1000000000)) hc1 (pureF_of Try.func49 (by kernel_rfl) f49b (within_ok be.per 0 100)) hc2 hc3 q11_4 h
  · have h := h.2 (of_decide_eq_false hc0)
    exact p45_0_5 c l i   hE hc0 (AvLe.of_eq (by rw [h]; try rfl))
theorem f46b : Try.f46.body = some (bodyAt Try.prog 46) := by kernel_rfl
def f46K0 (P : Program) : List Item := kAt 400 [.code (bodyAt P 46)] [.stop]
def f46S0 (c : Int) (l : (List Bra)) (hundredths : Int) (i : Nat)  : St := ⟨[.int .i64 c, .rsl (rowBr l) 0 l.length, .junk, .junk, .int .i64 hundredths, .junk, .junk, .junk, .rsl (rowBr l) 0 l.length, .int .i64 ((l.length : Nat) : Int), .int .i64 ((i : Nat) : Int), .junk, .junk, .junk, .junk, .junk, .junk, .junk, .junk, .junk, .junk, .junk, .junk, .junk, .junk, .junk, .junk, .junk, .junk, .junk, .junk, .junk, .junk, .junk, .junk, .junk, .junk, .junk, .junk, .junk, .junk, .junk], []⟩
def f46G0 (E : Env) (c : Int) (l : (List Bra)) (hundredths : Int) (i : Nat) : Prop := G Try.prog E (f46K0 Try.prog) (f46S0 c l hundredths i )
theorem p46_start_0 (c : Int) (l : (List Bra))   {E : Env} {rv : AV} (hE : PureE Try.prog 46 rv E) 
    (hg : G Try.prog E (f46K0 Try.prog) ⟨[.int .i64 c, .rsl (rowBr l) 0 l.length, .junk, .junk, .int .i64 0, .junk, .junk, .junk, .rsl (rowBr l) 0 l.length, .int .i64 ((l.length : Nat) : Int), .int .i64 0, .junk, .junk, .junk, .junk, .junk, .junk, .junk, .junk, .junk, .junk, .junk, .junk, .junk, .junk, .junk, .junk, .junk, .junk, .junk, .junk, .junk, .junk, .junk, .junk, .junk, .junk, .junk, .junk, .junk, .junk, .junk], []⟩) : G Try.prog E [.code (bodyAt Try.prog 46)] ⟨[.int .i64 c, .rsl (rowBr l) 0 l.length] ++ unds (Try.f46.ntmps - 2), []⟩ :=
  segC_step (n := 400) (ds := []) (cs := []) (live := [0, 1, 4, 8, 9, 10]) (m := 0) (evs := [.stop]) (obs := []) hE.2.1 (hE.nogh _) mixed (by kernel_rfl) trivial hg
theorem f46W (c : Int) (l : (List Bra)) {E : Env} {rv : Int} (hE : PureE Try.prog 46 (.int .i64 rv) E)
    (h : f46G0 E c l 0 0) : G Try.prog E [.code (bodyAt Try.prog 46)] ⟨[.int .i64 c, .rsl (rowBr l) 0 l.length] ++ unds (Try.f46.ntmps - 2), []⟩ := by
  exact p46_start_0 c l    hE  h
theorem p46_0_0 (c : Int) (l : (List Bra)) (hundredths : Int) (i : Nat)  (be : Bra) (be1 : Bra)  {E : Env} {rv : AV} (hE : PureE Try.prog 46 rv E) (o0 : (decide (((i : Nat) : Int) < ((l.length : Nat) : Int))) = true) (o2 : 0 ≤ ((i : Nat) : Int) ∧ ((i : Nat) : Int) < ((l.length : Nat) : Int)) (o3 : ((rowBr l).drop (0 + (Int.toNat ((i : Nat) : Int)) * 2)).take 2 = [.int .i64 be.from_, .int .i64 be.per]) (o5 : InR .i64 (((i : Nat) : Int) + 1)) (o6 : (decide ((((i : Nat) : Int) + 1) < ((l.length : Nat) : Int))) = true) (o7 : InR .i64 (((i : Nat) : Int) + 1)) (o9 : 0 ≤ (((i : Nat) : Int) + 1) ∧ (((i : Nat) : Int) + 1) < ((l.length : Nat) : Int)) (o10 : ((rowBr l).drop ((0 + (Int.toNat (((i : Nat) : Int) + 1)) * 2) + 0)).take 1 = [.int .i64 be1.from_]) (o11 : InR .i64 ((iMin c be1.from_) - be.from_)) (o12 : InR .i64 ((iMax 0 ((iMin c be1.from_) - be.from_)) * be.per)) (o13 : InR .i64 (hundredths + ((iMax 0 ((iMin c be1.from_) - be.from_)) * be.per))) (o14 : InR .i64 (((i : Nat) : Int) + 1))
    (hg : G Try.prog E (f46K0 Try.prog) ⟨[.int .i64 c, .rsl (rowBr l) 0 l.length, .junk, .junk, .int .i64 (hundredths + ((iMax 0 ((iMin c be1.from_) - be.from_)) * be.per)), .junk, .junk, .junk, .rsl (rowBr l) 0 l.length, .int .i64 ((l.length : Nat) : Int), .int .i64 (((i : Nat) : Int) + 1), .junk, .junk, .junk, .junk, .junk, .junk, .junk, .junk, .junk, .junk, .junk, .junk, .junk, .junk, .junk, .junk, .junk, .junk, .junk, .junk, .junk, .junk, .junk, .junk, .junk, .junk, .junk, .junk, .junk, .junk, .junk], []⟩) : G Try.prog E (f46K0 Try.prog) (f46S0 c l hundredths i ) :=
  segC_step (n := 400) (ds := []) (cs := []) (live := [0, 1, 4, 8, 9, 10]) (m := 0) (evs := [.b true, .ld (.agg [.int .i64 be.from_, .int .i64 be.per]), .b true, .ld (.int .i64 be1.from_), .stop]) (obs := [(decide (((i : Nat) : Int) < ((l.length : Nat) : Int))) = true, 0 ≤ ((i : Nat) : Int) ∧ ((i : Nat) : Int) < ((l.length : Nat) : Int), ((rowBr l).drop (0 + (Int.toNat ((i : Nat) : Int)) * 2)).take 2 = [.int .i64 be.from_, .int .i64 be.per], 2 ≤ 2, InR .i64 (((i : Nat) : Int) + 1), (decide ((((i : Nat) : Int) + 1) < ((l.length : Nat) : Int))) = true, InR .i64 (((i : Nat) : Int) + 1), 0 ≤ (((i : Nat) : Int) + 1) ∧ (((i : Nat) : Int) + 1) < ((l.length : Nat) : Int), ((rowBr l).drop ((0 + (Int.toNat (((i : Nat) : Int) + 1)) * 2) + 0)).take 1 = [.int .i64 be1.from_], InR .i64 ((iMin c be1.from_) - be.from_), InR .i64 ((iMax 0 ((iMin c be1.from_) - be.from_)) * be.per), InR .i64 (hundredths + ((iMax 0 ((iMin c be1.from_) - be.from_)) * be.per)), InR .i64 (((i : Nat) : Int) + 1)]) hE.2.1 (hE.nogh _) mixed (by kernel_rfl) ⟨o0, o2, o3, (by decide), o5, o6, o7, o9, o10, o11, o12, o13, o14, trivial⟩ hg
theorem p46_0_1 (c : Int) (l : (List Bra)) (hundredths : Int) (i : Nat)  (be : Bra)  {E : Env} {rv : AV} (hE : PureE Try.prog 46 rv E) (o0 : (decide (((i : Nat) : Int) < ((l.length : Nat) : Int))) = true) (o2 : 0 ≤ ((i : Nat) : Int) ∧ ((i : Nat) : Int) < ((l.length : Nat) : Int)) (o3 : ((rowBr l).drop (0 + (Int.toNat ((i : Nat) : Int)) * 2)).take 2 = [.int .i64 be.from_, .int .i64 be.per]) (o5 : InR .i64 (((i : Nat) : Int) + 1)) (o6 : (decide ((((i : Nat) : Int) + 1) < ((l.length : Nat) : Int))) = false) (o7 : InR .i64 (c - be.from_)) (o8 : InR .i64 ((iMax 0 (c - be.from_)) * be.per)) (o9 : InR .i64 (hundredths + ((iMax 0 (c - be.from_)) * be.per))) (o10 : InR .i64 (((i : Nat) : Int) + 1))
    (hg : G Try.prog E (f46K0 Try.prog) ⟨[.int .i64 c, .rsl (rowBr l) 0 l.length, .junk, .junk, .int .i64 (hundredths + ((iMax 0 (c - be.from_)) * be.per)), .junk, .junk, .junk, .rsl (rowBr l) 0 l.length, .int .i64 ((l.length : Nat) : Int), .int .i64 (((i : Nat) : Int) + 1), .junk, .junk, .junk, .junk, .junk, .junk, .junk, .junk, .junk, .junk, .junk, .junk, .junk, .junk, .junk, .junk, .junk, .junk, .junk, .junk, .junk, .junk, .junk, .junk, .junk, .junk, .junk, .junk, .junk, .junk, .junk], []⟩) : G Try.prog E (f46K0 Try.prog) (f46S0 c l hundredths i ) :=
  segC_step (n := 400) (ds := []) (cs := []) (live := [0, 1, 4, 8, 9, 10]) (m := 0) (evs := [.b true, .ld (.agg [.int .i64 be.from_, .int .i64 be.per]), .b false, .stop]) (obs := [(decide (((i : Nat) : Int) < ((l.length : Nat) : Int))) = true, 0 ≤ ((i : Nat) : Int) ∧ ((i : Nat) : Int) < ((l.length : Nat) : Int), ((rowBr l).drop (0 + (Int.toNat ((i : Nat) : Int)) * 2)).take 2 = [.int .i64 be.from_, .int .i64 be.per], 2 ≤ 2, InR .i64 (((i : Nat) : Int) + 1), (decide ((((i : Nat) : Int) + 1) < ((l.length : Nat) : Int))) = false, InR .i64 (c - be.from_), InR .i64 ((iMax 0 (c - be.from_)) * be.per), InR .i64 (hundredths + ((iMax 0 (c - be.from_)) * be.per)), InR .i64 (((i : Nat) : Int) + 1)]) hE.2.1 (hE.nogh _) mixed (by kernel_rfl) ⟨o0, o2, o3, (by decide), o5, o6, o7, o8, o9, o10, trivial⟩ hg
theorem p46_0_2 (c : Int) (l : (List Bra)) (hundredths : Int) (i : Nat)   {E : Env} {res : AV} (hE : PureE Try.prog 46 res E) (o0 : (decide (((i : Nat) : Int) < ((l.length : Nat) : Int))) = false) (o1 : InR .i64 (Int.tdiv hundredths 100))
    (hr : AvLe (.int .i64 (Int.tdiv hundredths 100)) res) : G Try.prog E (f46K0 Try.prog) (f46S0 c l hundredths i ) :=
  end_stepL (n := 400) (evs := [.b false]) (obs := [(decide (((i : Nat) : Int) < ((l.length : Nat) : Int))) = false, InR .i64 (Int.tdiv hundredths 100), (100 : Int) ≠ 0]) hE Try.func46 mixed (by kernel_rfl) ⟨o0, o1, (by decide), trivial⟩ hr
theorem f46W0 (c : Int) (l : (List Bra)) (hundredths : Int) (i : Nat) {E : Env} {rv : Int} (hE : PureE Try.prog 46 (.int .i64 rv) E)
    (h : ((((i : Nat) : Int) < ((l.length : Nat) : Int) → (∃ be : Bra, l[i]? = some be ∧ ((-9223372036854775808 ≤ ((i : Nat) : Int) + 1 ∧ ((i : Nat) : Int) + 1 ≤ 9223372036854775807) ∧ (((((i : Nat) : Int) + 1) < ((l.length : Nat) : Int) → ((-9223372036854775808 ≤ ((i : Nat) : Int) + 1 ∧ ((i : Nat) : Int) + 1 ≤ 9223372036854775807) ∧ (∃ be1 : Bra, l[i + 1]? = some be1 ∧ ((-9223372036854775808 ≤ (iMin c be1.from_) - be.from_ ∧ (iMin c be1.from_) - be.from_ ≤ 9223372036854775807) ∧ ((-9223372036854775808 ≤ (iMax 0 ((iMin c be1.from_) - be.from_)) * be.per ∧ (iMax 0 ((iMin c be1.from_) - be.from_)) * be.per ≤ 9223372036854775807) ∧ ((-9223372036854775808 ≤ hundredths + ((iMax 0 ((iMin c be1.from_) - be.from_)) * be.per) ∧ hundredths + ((iMax 0 ((iMin c be1.from_) - be.from_)) * be.per) ≤ 9223372036854775807) ∧ ((-9223372036854775808 ≤ ((i : Nat) : Int) + 1 ∧ ((i : Nat) : Int) + 1 ≤ 9223372036854775807) ∧ f46G0 E c l (hundredths + ((iMax 0 ((iMin c be1.from_) - be.from_)) * be.per)) (i + 1)))))))) ∧ (¬ ((((i : Nat) : Int) + 1) < ((l.length : Nat) : Int)) → ((-9223372036854775808 ≤ c - be.from_ ∧ c - be.from_ ≤ 9223372036854775807) ∧ ((-9223372036854775808 ≤ (iMax 0 (c - be.from_)) * be.per ∧ (iMax 0 (c - be.from_)) * be.per ≤ 9223372036854775807) ∧ ((-9223372036854775808 ≤ hundredths + ((iMax 0 (c - be.from_)) * be.per) ∧ hundredths + ((iMax 0 (c - be.from_)) * be.per) ≤ 9223372036854775807) ∧ ((-9223372036854775808 ≤ ((i : Nat) : Int) + 1 ∧ ((i : Nat) : Int) + 1 ≤ 9223372036854775807) ∧ f46G0 E c l (hundredths + ((iMax 0 (c - be.from_)) * be.per)) (i + 1)))))))))) ∧ (¬ (((i : Nat) : Int) < ((l.length : Nat) : Int)) → ((-9223372036854775808 ≤ Int.tdiv hundredths 100 ∧ Int.tdiv hundredths 100 ≤ 9223372036854775807) ∧ rv = (Int.tdiv hundredths 100))))) : f46G0 E c l hundredths i := by
  rcases Bool.eq_false_or_eq_true (decide (((i : Nat) : Int) < ((l.length : Nat) : Int))) with hc0 | hc0
  · have h := h.1 (of_decide_eq_true hc0)
    obtain ⟨be, h1, h⟩ := h
    obtain ⟨q5_1, h⟩ := h
    rcases Bool.eq_false_or_eq_true (decide ((((i : Nat) : Int) + 1) < ((l.length : Nat) : Int))) with hc1 | hc1
    · have h := h.1 (of_decide_eq_true hc1)
      obtain ⟨q7_2, h⟩ := h
      obtain ⟨be1, h2, h⟩ := h
      obtain ⟨q11_2, h⟩ := h
      obtain ⟨q12_2, h⟩ := h
      obtain ⟨q13_2, h⟩ := h
      obtain ⟨q14_2, h⟩ := h
      exact p46_0_0 c l hundredths i  be be1 hE hc0 (idx_ok h1) (row_part cBr (s := 2) (k := 0) (m := 2) (fun _ => rfl) (by decide) h1) q5_1 hc1 q7_2 (idx_ok h2) (row_part cBr (s := 2) (k := 0) (m := 1) (fun _ => rfl) (by decide) h2) q11_2 q12_2 q13_2 q14_2 h
    · have h := h.2 (of_decide_eq_false hc1)
      obtain ⟨q7_2, h⟩ := h
      obtain ⟨q8_2, h⟩ := h
      obtain ⟨q9_2, h⟩ := h
      obtain ⟨q10_2, h⟩ := h
      exact p46_0_1 c l hundredths i  be hE hc0 (idx_ok h1) (row_part cBr (s := 2) (k := 0) (m := 2) (fun _ => rfl) (by decide) h1) q5_1 hc1 q7_2 q8_2 q9_2 q10_2 h
  · have h := h.2 (of_decide_eq_false hc0)
    obtain ⟨q1_1, h⟩ := h
    exact p46_0_2 c l hundredths i   hE hc0 q1_1 (AvLe.of_eq (by rw [h]; try rfl))
def bAt (l : List Bra) (i : Nat) : Bra := l.getD i ⟨0, 0⟩
def badAt (l : List Bra) (i : Nat) : Bool := !within (bAt l i).from_ 0 1000000000 || (!within (bAt l i).per 0 100 || (decide (i > 0) && decide ((bAt l i).from_ ≤ (bAt l (i - 1)).from_)))
def chkFrom (l : List Bra) : Nat → Nat → Bool
  | 0, _ => true
  | d + 1, i => !badAt l i && chkFrom l d (i + 1)
def brOk (l : List Bra) : Bool := within l.length 1 8 && (decide ((bAt l 0).from_ = 0) && chkFrom l l.length 0)
def checkTaxK (c : Int) (l : List Bra) : Int := if amount c = false then 1 else if brOk l = false then 110 else 0

theorem bAt_get {l : List Bra} {i : Nat} (h : i < l.length) : l[i]? = some (bAt l i) := by simp [bAt, List.getD, h]

theorem checkTax_ok (c : Int) (l : List Bra) (h : l.length ≤ 9223372036854775807) : Pure Try.prog 45 [.int .i64 c, .rsl (rowBr l) 0 l.length] (.int .i64 (checkTaxK c l)) := pure_of Try.func45 f45b fun E hE => by
  refine f45W c l (rv := checkTaxK c l) hE ⟨fun h1 => by simp [checkTaxK, h1], fun h1 => ⟨fun h2 => by simp [checkTaxK, brOk, h1, h2], fun h2 => ?_⟩⟩
  have hl := within_iff.1 h2
  refine ⟨bAt l 0, bAt_get (by omega), fun h3 => by simp [checkTaxK, brOk, h1, h2, h3], fun h3 => ?_⟩
  have hr : checkTaxK c l = if chkFrom l l.length 0 = false then 110 else 0 := by simp [checkTaxK, brOk, h1, h2, h3]
  have key : ∀ (d i : Nat), i + d = l.length → (checkTaxK c l = if chkFrom l d i = false then 110 else 0) → f45G0 E c l i := by
    intro d
    induction d with
    | zero => intro i hd hr; exact f45W0 c l i (rv := checkTaxK c l) hE ⟨fun h => by omega, fun _ => by rw [hr]; rfl⟩
    | succ d ih =>
      intro i hd hr
      have hi := bAt_get (l := l) (i := i) (by omega)
      simp only [chkFrom] at hr
      refine f45W0 c l i (rv := checkTaxK c l) hE ⟨fun _ => ⟨_, hi, fun h4 => by rw [hr]; simp [badAt, h4], fun h4 => ⟨fun h5 => by rw [hr]; simp [badAt, h4, h5], fun h5 => ⟨fun h6 => ⟨by omega, by omega, bAt l (i - 1), ?_, fun h7 => by rw [hr]; simp [badAt, h4, h5, h7, show 0 < i by omega], fun h7 => ⟨by omega, ih (i + 1) (by omega) (by rw [hr]; simp [badAt, h4, h5, h7])⟩⟩, fun h6 => ⟨by omega, ih (i + 1) (by omega) (by rw [hr]; simp [badAt, h4, h5, show ¬ 0 < i by omega])⟩⟩⟩⟩, fun h => by omega⟩
      rw [show Int.toNat (((i : Nat) : Int) - 1) = i - 1 by omega]; exact bAt_get (by omega)
  exact key l.length 0 (by omega) hr

/-- Brackets as they should be. -/
structure BrOk (l : List Bra) : Prop where
  len1 : 1 ≤ l.length
  len : l.length ≤ 8
  f0 : (bAt l 0).from_ = 0
  from_ : ∀ i, i < l.length → 0 ≤ (bAt l i).from_ ∧ (bAt l i).from_ ≤ 1000000000
  per : ∀ i, i < l.length → 0 ≤ (bAt l i).per ∧ (bAt l i).per ≤ 100
  inc : ∀ i, i + 1 < l.length → (bAt l i).from_ < (bAt l (i + 1)).from_

theorem chk_at {l : List Bra} : ∀ {d i : Nat}, chkFrom l d i = true → ∀ j, i ≤ j → j < i + d → badAt l j = false
  | 0, i, _, j, h1, h2 => by omega
  | d + 1, i, h, j, h1, h2 => by
    simp only [chkFrom, Bool.and_eq_true, Bool.not_eq_true'] at h
    rcases Nat.lt_or_ge i j with h3 | h3
    · exact chk_at h.2 j (by omega) (by omega)
    · have : j = i := by omega
      rw [this]; exact h.1

theorem br_of {l : List Bra} (h : brOk l = true) : BrOk l := by
  simp only [brOk, Bool.and_eq_true, decide_eq_true_eq] at h
  obtain ⟨h1, h2, h3⟩ := h
  have h1 := within_iff.1 h1
  have hb : ∀ i, i < l.length → badAt l i = false := fun i hi => chk_at h3 i (by omega) (by omega)
  simp only [badAt, Bool.or_eq_false_iff, Bool.not_eq_false', Bool.and_eq_false_iff, decide_eq_false_iff_not] at hb
  refine ⟨by omega, by omega, h2, fun i hi => within_iff.1 (hb i hi).1, fun i hi => within_iff.1 (hb i hi).2.1, fun i hi => ?_⟩
  rcases (hb (i + 1) hi).2.2 with h4 | h4
  · omega
  · rw [Nat.add_sub_cancel] at h4; omega

/-- The hundredths of cents over the brackets. -/
def hunL (m : Int) : List Bra → Int
  | [] => 0
  | [b] => iMax 0 (m - b.from_) * b.per
  | b :: b' :: r => iMax 0 (iMin m b'.from_ - b.from_) * b.per + hunL m (b' :: r)
def taxI (m : Int) (l : List Bra) : Int := Int.tdiv (hunL m l) 100

/-- Sorted, in range. -/
def BrS (l : List Bra) : Prop := (∀ b ∈ l, 0 ≤ b.from_ ∧ b.from_ ≤ 1000000000 ∧ 0 ≤ b.per ∧ b.per ≤ 100) ∧ l.Pairwise fun a b => a.from_ < b.from_

theorem BrOk.sorted {l : List Bra} (h : BrOk l) : BrS l := by
  refine ⟨fun b hb => ?_, ?_⟩
  · obtain ⟨i, hi⟩ := List.getElem?_of_mem hb
    have hlt := (List.getElem?_eq_some_iff.1 hi).1
    rw [bAt_get hlt] at hi; cases hi
    have := h.from_ i hlt; have := h.per i hlt; omega
  · rw [List.pairwise_iff_getElem]
    have key : ∀ d i, i + d + 1 < l.length → (bAt l i).from_ < (bAt l (i + d + 1)).from_ := by
      intro d
      induction d with
      | zero => intro i hi; exact h.inc i hi
      | succ d ih => intro i hi; have h1 := ih i (by omega); have h2 := h.inc (i + d + 1) (by omega); simp only [Nat.add_assoc] at *; omega
    intro i j hi hj hij
    have e1 : l[i] = bAt l i := by have := bAt_get hi; rw [List.getElem?_eq_getElem hi] at this; exact Option.some.inj this
    have e2 : l[j] = bAt l j := by have := bAt_get hj; rw [List.getElem?_eq_getElem hj] at this; exact Option.some.inj this
    rw [e1, e2]
    have := key (j - i - 1) i (by omega)
    rw [show i + (j - i - 1) + 1 = j by omega] at this
    exact this

theorem part_bd {x p : Int} (hx : x ≤ 1000000001) (hp : 0 ≤ p ∧ p ≤ 100) : 0 ≤ iMax 0 x * p ∧ iMax 0 x * p ≤ 100000000100 := by
  have h0 : 0 ≤ iMax 0 x ∧ iMax 0 x ≤ 1000000001 := by simp only [iMax]; split <;> omega
  have h1 := Int.mul_nonneg h0.1 hp.1
  have h2 : iMax 0 x * p ≤ 1000000001 * 100 := Int.mul_le_mul h0.2 hp.2 hp.1 (by omega)
  omega

theorem hun_bd {m : Int} (hm : m ≤ 1000000001) : ∀ {l : List Bra}, BrS l → 0 ≤ hunL m l ∧ hunL m l ≤ 100000000100 * (l.length : Int)
  | [], _ => by simp [hunL]
  | [b], h => by
    have := h.1 b (by simp)
    have := part_bd (x := m - b.from_) (p := b.per) (by omega) (by omega)
    simp only [hunL, List.length_cons, List.length_nil]; omega
  | b :: b' :: r, h => by
    have h1 := h.1 b (by simp)
    have h2 : iMin m b'.from_ ≤ m := by simp only [iMin]; split <;> omega
    have h3 := part_bd (x := iMin m b'.from_ - b.from_) (p := b.per) (by omega) (by omega)
    have h4 := hun_bd hm (l := b' :: r) ⟨fun x hx => h.1 x (by simp [hx]), (List.pairwise_cons.1 h.2).2⟩
    simp only [hunL, List.length_cons] at *; omega

theorem tax_bd {m : Int} {l : List Bra} (hm : m ≤ 1000000001) (h : BrOk l) : 0 ≤ taxI m l ∧ taxI m l ≤ 1000000000000 ∧ hunL m l ≤ 1000000000000 ∧ 0 ≤ hunL m l := by
  have h1 := hun_bd hm h.sorted
  have := h.len
  have e : taxI m l = hunL m l / 100 := Int.tdiv_eq_ediv_of_nonneg h1.1
  rw [e]
  have : 100000000100 * (l.length : Int) ≤ 1000000000000 := by omega
  omega

theorem drop_hun {m : Int} {l : List Bra} {i : Nat} (h : i < l.length) :
    hunL m (l.drop i) = (if i + 1 < l.length then iMax 0 (iMin m (bAt l (i + 1)).from_ - (bAt l i).from_) * (bAt l i).per else iMax 0 (m - (bAt l i).from_) * (bAt l i).per) + hunL m (l.drop (i + 1)) := by
  have e1 : l[i] = bAt l i := by have := bAt_get h; rw [List.getElem?_eq_getElem h] at this; exact Option.some.inj this
  rw [List.drop_eq_getElem_cons h, e1]
  split
  · rename_i h2
    have e2 : l[i + 1] = bAt l (i + 1) := by have := bAt_get h2; rw [List.getElem?_eq_getElem h2] at this; exact Option.some.inj this
    rw [List.drop_eq_getElem_cons h2, e2]; rfl
  · rename_i h2
    rw [List.drop_eq_nil_of_le (by omega)]
    simp [hunL]

theorem BrS.drop {l : List Bra} (h : BrS l) (i : Nat) : BrS (l.drop i) := ⟨fun b hb => h.1 b (List.mem_of_mem_drop hb), h.2.sublist (List.drop_sublist _ _)⟩

theorem tax_ok (m : Int) (l : List Bra) (h : (0 ≤ m ∧ m ≤ 1000000000) ∧ brOk l = true) : Pure Try.prog 46 [.int .i64 m, .rsl (rowBr l) 0 l.length] (.int .i64 (taxI m l)) := pure_of Try.func46 f46b fun E hE => by
  obtain ⟨hm, hb⟩ := h
  have hb := br_of hb
  have hlen := hb.len
  obtain ⟨t1, t2, t3, t4⟩ := tax_bd (m := m) (by omega) hb
  have key : ∀ (d i : Nat) (hu : Int), i + d = l.length → 0 ≤ hu → hu + hunL m (l.drop i) = hunL m l → f46G0 E m l hu i := by
    intro d
    induction d with
    | zero =>
      intro i hu hd h0 he
      rw [List.drop_eq_nil_of_le (by omega)] at he
      simp only [hunL] at he
      have : hu = hunL m l := by omega
      subst this
      have e : Int.tdiv (hunL m l) 100 = taxI m l := rfl
      exact f46W0 m l _ i (rv := taxI m l) hE ⟨fun h => by omega, fun _ => ⟨by rw [e]; omega, e.symm⟩⟩
    | succ d ih =>
      intro i hu hd h0 he
      have hi := bAt_get (l := l) (i := i) (by omega)
      have hf := hb.from_ i (by omega)
      have hp := hb.per i (by omega)
      have hr := hun_bd (m := m) (by omega) (hb.sorted.drop (i + 1))
      rw [drop_hun (by omega)] at he
      refine f46W0 m l _ i (rv := taxI m l) hE ⟨fun _ => ⟨_, hi, by omega, fun h2 => ?_, fun h2 => ?_⟩, fun h => by omega⟩
      · rw [if_pos (by omega)] at he
        have hm2 : iMin m (bAt l (i + 1)).from_ ≤ m ∧ 0 ≤ iMin m (bAt l (i + 1)).from_ := by have := hb.from_ (i + 1) (by omega); simp only [iMin]; split <;> omega
        have hq := part_bd (x := iMin m (bAt l (i + 1)).from_ - (bAt l i).from_) (p := (bAt l i).per) (by omega) hp
        exact ⟨by omega, _, bAt_get (by omega), by omega, by omega, by omega, by omega, ih (i + 1) _ (by omega) (by omega) (by omega)⟩
      · rw [if_neg (by omega)] at he
        have hq := part_bd (x := m - (bAt l i).from_) (p := (bAt l i).per) (by omega) hp
        exact ⟨by omega, by omega, by omega, by omega, ih (i + 1) _ (by omega) (by omega) (by omega)⟩
  exact f46W m l hE (key l.length 0 0 (by omega) (by omega) (by simp))

end Go.Proofs.Ytmdbebbibecidaa

namespace Go.Proofs.Ytmdbebbibecidaa
open Go Ax
open Go.Proofs
theorem f24b : Try.f24.body = some (bodyAt Try.prog 24) := by kernel_rfl
def f24K0 (P : Program) : List Item := kAt 400 [.code (bodyAt P 24)] [.b false, .stop]
def f24S0 (c : Int) (l : (List Bra)) (high : Int) (low : Int)  : St := ⟨[.int .i64 c, .rsl (rowBr l) 0 l.length, .junk, .junk, .junk, .junk, .junk, .int .i64 low, .int .i64 high, .junk, .junk, .junk, .junk, .junk, .junk, .junk, .junk, .junk, .junk, .junk, .junk, .junk, .junk, .junk, .junk, .junk, .junk, .junk, .junk, .junk, .junk, .junk, .junk, .junk, .junk, .junk], []⟩
def f24G0 (E : Env) (c : Int) (l : (List Bra)) (high : Int) (low : Int) : Prop := G Try.prog E (f24K0 Try.prog) (f24S0 c l high low )
theorem p24_start_0 (c : Int) (l : (List Bra))   {E : Env} {res : AV} (hE : PureE Try.prog 24 res E) (o0 : PureF Try.prog (.clos 45 [] []) [.int .i64 c, .rsl (rowBr l) 0 l.length] (.int .i64 (checkTaxK c l))) (o1 : ((checkTaxK c l) != 0) = true)
    (hr : AvLe (.tup [.int .i64 0, .int .i64 (checkTaxK c l)]) res) : G Try.prog E [.code (bodyAt Try.prog 24)] ⟨[.int .i64 c, .rsl (rowBr l) 0 l.length] ++ unds (Try.f24.ntmps - 2), []⟩ :=
  end_stepL (n := 400) (evs := [.v (.int .i64 (checkTaxK c l)), .b true]) (obs := [PureF Try.prog (.clos 45 [] []) [.int .i64 c, .rsl (rowBr l) 0 l.length] (.int .i64 (checkTaxK c l)), ((checkTaxK c l) != 0) = true]) hE Try.func24 mixed (by kernel_rfl) ⟨o0, o1, trivial⟩ hr
theorem p24_start_1 (c : Int) (l : (List Bra))   {E : Env} {rv : AV} (hE : PureE Try.prog 24 rv E) (o0 : PureF Try.prog (.clos 45 [] []) [.int .i64 c, .rsl (rowBr l) 0 l.length] (.int .i64 (checkTaxK c l))) (o1 : ((checkTaxK c l) != 0) = false)
    (hg : G Try.prog E (f24K0 Try.prog) ⟨[.int .i64 c, .rsl (rowBr l) 0 l.length, .junk, .junk, .junk, .junk, .junk, .int .i64 0, .int .i64 1000000001, .junk, .junk, .junk, .junk, .junk, .junk, .junk, .junk, .junk, .junk, .junk, .junk, .junk, .junk, .junk, .junk, .junk, .junk, .junk, .junk, .junk, .junk, .junk, .junk, .junk, .junk, .junk], []⟩) : G Try.prog E [.code (bodyAt Try.prog 24)] ⟨[.int .i64 c, .rsl (rowBr l) 0 l.length] ++ unds (Try.f24.ntmps - 2), []⟩ :=
  segC_step (n := 400) (ds := []) (cs := []) (live := [0, 1, 7, 8]) (m := 0) (evs := [.v (.int .i64 (checkTaxK c l)), .b false, .stop]) (obs := [PureF Try.prog (.clos 45 [] []) [.int .i64 c, .rsl (rowBr l) 0 l.length] (.int .i64 (checkTaxK c l)), ((checkTaxK c l) != 0) = false]) hE.2.1 (hE.nogh _) mixed (by kernel_rfl) ⟨o0, o1, trivial⟩ hg
theorem f24W (c : Int) (l : (List Bra)) {E : Env} {rv : (Int × Int)} (hE : PureE Try.prog 24 (.tup [.int .i64 rv.1, .int .i64 rv.2]) E)
    (h : ((l.length ≤ 9223372036854775807) ∧ ((¬ ((checkTaxK c l) = 0) → rv = (0, (checkTaxK c l))) ∧ ((checkTaxK c l) = 0 → f24G0 E c l 1000000001 0)))) : G Try.prog E [.code (bodyAt Try.prog 24)] ⟨[.int .i64 c, .rsl (rowBr l) 0 l.length] ++ unds (Try.f24.ntmps - 2), []⟩ := by
  obtain ⟨h1, h⟩ := h
  rcases Bool.eq_false_or_eq_true ((checkTaxK c l) != 0) with hc0 | hc0
  · have h := h.1 (bneT hc0)
    exact p24_start_0 c l    hE (pureF_of Try.func45 (by kernel_rfl) f45b (checkTax_ok c l h1)) hc0 (AvLe.of_eq (by rw [h]; try rfl))
  · have h := h.2 (bneF hc0)
    exact p24_start_1 c l    hE (pureF_of Try.func45 (by kernel_rfl) f45b (checkTax_ok c l h1)) hc0 h
theorem p24_0_0 (c : Int) (l : (List Bra)) (high : Int) (low : Int)   {E : Env} {rv : AV} (hE : PureE Try.prog 24 rv E) (o0 : (decide (low < high)) = true) (o1 : InR .i64 (low + high)) (o2 : InR .i64 (Int.tdiv (low + high) 2)) (o4 : PureF Try.prog (.clos 46 [] []) [.int .i64 (Int.tdiv (low + high) 2), .rsl (rowBr l) 0 l.length] (.int .i64 (taxI (Int.tdiv (low + high) 2) l))) (o5 : InR .i64 ((Int.tdiv (low + high) 2) - (taxI (Int.tdiv (low + high) 2) l))) (o6 : (decide (((Int.tdiv (low + high) 2) - (taxI (Int.tdiv (low + high) 2) l)) ≥ c)) = true)
    (hg : G Try.prog E (f24K0 Try.prog) ⟨[.int .i64 c, .rsl (rowBr l) 0 l.length, .junk, .junk, .junk, .junk, .junk, .int .i64 low, .int .i64 (Int.tdiv (low + high) 2), .junk, .junk, .junk, .junk, .junk, .junk, .junk, .junk, .junk, .junk, .junk, .junk, .junk, .junk, .junk, .junk, .junk, .junk, .junk, .junk, .junk, .junk, .junk, .junk, .junk, .junk, .junk], []⟩) : G Try.prog E (f24K0 Try.prog) (f24S0 c l high low ) :=
  segC_step (n := 400) (ds := []) (cs := []) (live := [0, 1, 7, 8]) (m := 0) (evs := [.b true, .v (.int .i64 (taxI (Int.tdiv (low + high) 2) l)), .b true, .stop]) (obs := [(decide (low < high)) = true, InR .i64 (low + high), InR .i64 (Int.tdiv (low + high) 2), (2 : Int) ≠ 0, PureF Try.prog (.clos 46 [] []) [.int .i64 (Int.tdiv (low + high) 2), .rsl (rowBr l) 0 l.length] (.int .i64 (taxI (Int.tdiv (low + high) 2) l)), InR .i64 ((Int.tdiv (low + high) 2) - (taxI (Int.tdiv (low + high) 2) l)), (decide (((Int.tdiv (low + high) 2) - (taxI (Int.tdiv (low + high) 2) l)) ≥ c)) = true]) hE.2.1 (hE.nogh _) mixed (by kernel_rfl) ⟨o0, o1, o2, (by decide), o4, o5, o6, trivial⟩ hg
theorem p24_0_1 (c : Int) (l : (List Bra)) (high : Int) (low : Int)   {E : Env} {rv : AV} (hE : PureE Try.prog 24 rv E) (o0 : (decide (low < high)) = true) (o1 : InR .i64 (low + high)) (o2 : InR .i64 (Int.tdiv (low + high) 2)) (o4 : PureF Try.prog (.clos 46 [] []) [.int .i64 (Int.tdiv (low + high) 2), .rsl (rowBr l) 0 l.length] (.int .i64 (taxI (Int.tdiv (low + high) 2) l))) (o5 : InR .i64 ((Int.tdiv (low + high) 2) - (taxI (Int.tdiv (low + high) 2) l))) (o6 : (decide (((Int.tdiv (low + high) 2) - (taxI (Int.tdiv (low + high) 2) l)) ≥ c)) = false) (o7 : InR .i64 ((Int.tdiv (low + high) 2) + 1))
    (hg : G Try.prog E (f24K0 Try.prog) ⟨[.int .i64 c, .rsl (rowBr l) 0 l.length, .junk, .junk, .junk, .junk, .junk, .int .i64 ((Int.tdiv (low + high) 2) + 1), .int .i64 high, .junk, .junk, .junk, .junk, .junk, .junk, .junk, .junk, .junk, .junk, .junk, .junk, .junk, .junk, .junk, .junk, .junk, .junk, .junk, .junk, .junk, .junk, .junk, .junk, .junk, .junk, .junk], []⟩) : G Try.prog E (f24K0 Try.prog) (f24S0 c l high low ) :=
  segC_step (n := 400) (ds := []) (cs := []) (live := [0, 1, 7, 8]) (m := 0) (evs := [.b true, .v (.int .i64 (taxI (Int.tdiv (low + high) 2) l)), .b false, .stop]) (obs := [(decide (low < high)) = true, InR .i64 (low + high), InR .i64 (Int.tdiv (low + high) 2), (2 : Int) ≠ 0, PureF Try.prog (.clos 46 [] []) [.int .i64 (Int.tdiv (low + high) 2), .rsl (rowBr l) 0 l.length] (.int .i64 (taxI (Int.tdiv (low + high) 2) l)), InR .i64 ((Int.tdiv (low + high) 2) - (taxI (Int.tdiv (low + high) 2) l)), (decide (((Int.tdiv (low + high) 2) - (taxI (Int.tdiv (low + high) 2) l)) ≥ c)) = false, InR .i64 ((Int.tdiv (low + high) 2) + 1)]) hE.2.1 (hE.nogh _) mixed (by kernel_rfl) ⟨o0, o1, o2, (by decide), o4, o5, o6, o7, trivial⟩ hg
theorem p24_0_2 (c : Int) (l : (List Bra)) (high : Int) (low : Int)   {E : Env} {res : AV} (hE : PureE Try.prog 24 res E) (o0 : (decide (low < high)) = false) (o1 : (decide (low > 1000000000)) = true)
    (hr : AvLe (.tup [.int .i64 0, .int .i64 3]) res) : G Try.prog E (f24K0 Try.prog) (f24S0 c l high low ) :=
  end_stepL (n := 400) (evs := [.b false, .b true]) (obs := [(decide (low < high)) = false, (decide (low > 1000000000)) = true]) hE Try.func24 mixed (by kernel_rfl) ⟨o0, o1, trivial⟩ hr
theorem p24_0_3 (c : Int) (l : (List Bra)) (high : Int) (low : Int)   {E : Env} {res : AV} (hE : PureE Try.prog 24 res E) (o0 : (decide (low < high)) = false) (o1 : (decide (low > 1000000000)) = false)
    (hr : AvLe (.tup [.int .i64 low, .int .i64 0]) res) : G Try.prog E (f24K0 Try.prog) (f24S0 c l high low ) :=
  end_stepL (n := 400) (evs := [.b false, .b false]) (obs := [(decide (low < high)) = false, (decide (low > 1000000000)) = false]) hE Try.func24 mixed (by kernel_rfl) ⟨o0, o1, trivial⟩ hr
theorem f24W0 (c : Int) (l : (List Bra)) (high : Int) (low : Int) {E : Env} {rv : (Int × Int)} (hE : PureE Try.prog 24 (.tup [.int .i64 rv.1, .int .i64 rv.2]) E)
    (h : ((low < high → ((-9223372036854775808 ≤ low + high ∧ low + high ≤ 9223372036854775807) ∧ ((-9223372036854775808 ≤ Int.tdiv (low + high) 2 ∧ Int.tdiv (low + high) 2 ≤ 9223372036854775807) ∧ ((((0 : Int) ≤ (Int.tdiv (low + high) 2) ∧ ((Int.tdiv (low + high) 2) : Int) ≤ 1000000000) ∧ brOk l = true) ∧ ((-9223372036854775808 ≤ (Int.tdiv (low + high) 2) - (taxI (Int.tdiv (low + high) 2) l) ∧ (Int.tdiv (low + high) 2) - (taxI (Int.tdiv (low + high) 2) l) ≤ 9223372036854775807) ∧ ((((Int.tdiv (low + high) 2) - (taxI (Int.tdiv (low + high) 2) l)) ≥ c → f24G0 E c l (Int.tdiv (low + high) 2) low) ∧ (¬ (((Int.tdiv (low + high) 2) - (taxI (Int.tdiv (low + high) 2) l)) ≥ c) → ((-9223372036854775808 ≤ (Int.tdiv (low + high) 2) + 1 ∧ (Int.tdiv (low + high) 2) + 1 ≤ 9223372036854775807) ∧ f24G0 E c l high ((Int.tdiv (low + high) 2) + 1))))))))) ∧ (¬ (low < high) → ((low > 1000000000 → rv = (0, 3)) ∧ (¬ (low > 1000000000) → rv = (low, 0)))))) : f24G0 E c l high low := by
  rcases Bool.eq_false_or_eq_true (decide (low < high)) with hc0 | hc0
  · have h := h.1 (of_decide_eq_true hc0)
    obtain ⟨q1_1, h⟩ := h
    obtain ⟨q2_1, h⟩ := h
    obtain ⟨h1, h⟩ := h
    obtain ⟨q5_1, h⟩ := h
    rcases Bool.eq_false_or_eq_true (decide (((Int.tdiv (low + high) 2) - (taxI (Int.tdiv (low + high) 2) l)) ≥ c)) with hc1 | hc1
    · have h := h.1 (of_decide_eq_true hc1)
      exact p24_0_0 c l high low   hE hc0 q1_1 q2_1 (pureF_of Try.func46 (by kernel_rfl) f46b (tax_ok (Int.tdiv (low + high) 2) l h1)) q5_1 hc1 h
    · have h := h.2 (of_decide_eq_false hc1)
      obtain ⟨q7_2, h⟩ := h
      exact p24_0_1 c l high low   hE hc0 q1_1 q2_1 (pureF_of Try.func46 (by kernel_rfl) f46b (tax_ok (Int.tdiv (low + high) 2) l h1)) q5_1 hc1 q7_2 h
  · have h := h.2 (of_decide_eq_false hc0)
    rcases Bool.eq_false_or_eq_true (decide (low > 1000000000)) with hc1 | hc1
    · have h := h.1 (of_decide_eq_true hc1)
      exact p24_0_2 c l high low   hE hc0 hc1 (AvLe.of_eq (by rw [h]; try rfl))
    · have h := h.2 (of_decide_eq_false hc1)
      exact p24_0_3 c l high low   hE hc0 hc1 (AvLe.of_eq (by rw [h]; try rfl))
theorem check0 {c : Int} {l : List Bra} (h : checkTaxK c l = 0) : (0 ≤ c ∧ c ≤ 1000000000) ∧ brOk l = true := by
  simp only [checkTaxK] at h
  split at h
  · cases h
  · rename_i h1
    split at h
    · cases h
    · rename_i h2
      exact ⟨within_iff.1 (by simpa [amount] using h1), by simpa using h2⟩

/-- Search by halves. -/
def bsI (p : Int → Bool) : Nat → Int → Int → Int
  | 0, lo, _ => lo
  | f + 1, lo, hi => if lo < hi then (if p (Int.tdiv (lo + hi) 2) then bsI p f lo (Int.tdiv (lo + hi) 2) else bsI p f (Int.tdiv (lo + hi) 2 + 1) hi) else lo

theorem mid {lo hi : Int} (h0 : 0 ≤ lo) (h : lo < hi) : lo ≤ Int.tdiv (lo + hi) 2 ∧ Int.tdiv (lo + hi) 2 < hi ∧ hi - (Int.tdiv (lo + hi) 2 + 1) ≤ (hi - lo) / 2 ∧ Int.tdiv (lo + hi) 2 - lo ≤ (hi - lo) / 2 := by
  rw [Int.tdiv_eq_ediv_of_nonneg (by omega)]; omega

def netP (c : Int) (l : List Bra) (m : Int) : Bool := decide (m - taxI m l ≥ c)
def netOf (r : Int) : Int × Int := if r > 1000000000 then (0, 3) else (r, 0)
def netK (c : Int) (l : List Bra) : Int × Int := if checkTaxK c l = 0 then netOf (bsI (netP c l) 40 0 1000000001) else (0, checkTaxK c l)

theorem NetP_ok (c : Int) (l : List Bra) (h : l.length ≤ 9223372036854775807) : Pure Try.prog 24 [.int .i64 c, .rsl (rowBr l) 0 l.length] (.tup [.int .i64 (netK c l).1, .int .i64 (netK c l).2]) := pure_of Try.func24 f24b fun E hE => by
  refine f24W c l (rv := netK c l) hE ⟨h, fun h1 => by rw [netK, if_neg h1], fun h1 => ?_⟩
  have hb := check0 h1
  have hB := br_of hb.2
  have key : ∀ (f : Nat) (hi lo : Int), 0 ≤ lo → lo ≤ hi → hi ≤ 1000000001 → hi - lo < (2 : Int) ^ f → netK c l = netOf (bsI (netP c l) f lo hi) → f24G0 E c l hi lo := by
    intro f
    induction f with
    | zero =>
      intro hi lo h0 h2 h3 h4 hr
      have : hi = lo := by simp at h4; omega
      subst this
      simp only [bsI] at hr
      exact f24W0 c l _ _ (rv := netK c l) hE ⟨fun h => by omega, fun _ => ⟨fun h5 => by rw [hr, netOf, if_pos h5], fun h5 => by rw [hr, netOf, if_neg h5]⟩⟩
    | succ f ih =>
      intro hi lo h0 h2 h3 h4 hr
      rw [Int.pow_succ] at h4
      simp only [bsI] at hr
      refine f24W0 c l _ _ (rv := netK c l) hE ⟨fun h5 => ?_, fun h5 => ⟨fun h6 => ?_, fun h6 => ?_⟩⟩
      · obtain ⟨m1, m2, m3, m4⟩ := mid h0 h5
        obtain ⟨t1, t2, -, -⟩ := tax_bd (m := Int.tdiv (lo + hi) 2) (by omega) hB
        rw [if_pos h5] at hr
        refine ⟨by omega, by omega, ⟨by omega, hb.2⟩, by omega, fun h6 => ?_, fun h6 => ⟨by omega, ?_⟩⟩
        · rw [if_pos (by simp only [netP]; exact decide_eq_true h6)] at hr
          exact ih _ _ h0 m1 (by omega) (by omega) hr
        · rw [if_neg (by simp only [netP]; simpa using h6)] at hr
          exact ih _ _ (by omega) (by omega) h3 (by omega) hr
      · rw [if_neg h5] at hr; rw [hr, netOf, if_pos h6]
      · rw [if_neg h5] at hr; rw [hr, netOf, if_neg h6]
  exact key 40 1000000001 0 (by omega) (by omega) (by omega) (by decide) (by rw [netK, if_pos h1])

theorem f17b : Try.f17.body = some (bodyAt Try.prog 17) := by kernel_rfl
def f17K0 (P : Program) : List Item := kAt 400 [.code (bodyAt P 17)] [.b false, .stop]
def f17S0 (a : (List Int)) (b : (List Int)) (i : Nat)  : St := ⟨[.rsl (rowI a) 0 a.length, .rsl (rowI b) 0 b.length, .junk, .junk, .junk, .int .i64 ((i : Nat) : Int), .junk, .junk, .junk, .junk, .junk, .junk, .junk, .junk, .junk, .junk, .junk, .junk, .junk, .junk, .junk, .junk, .junk, .junk, .junk, .junk], []⟩
def f17G0 (E : Env) (a : (List Int)) (b : (List Int)) (i : Nat) : Prop := G Try.prog E (f17K0 Try.prog) (f17S0 a b i )
theorem p17_start_0 (a : (List Int)) (b : (List Int))   {E : Env} {res : AV} (hE : PureE Try.prog 17 res E) (o0 : (((a.length : Nat) : Int) != ((b.length : Nat) : Int)) = true)
    (hr : AvLe (.bool false) res) : G Try.prog E [.code (bodyAt Try.prog 17)] ⟨[.rsl (rowI a) 0 a.length, .rsl (rowI b) 0 b.length] ++ unds (Try.f17.ntmps - 2), []⟩ :=
  end_stepL (n := 400) (evs := [.b true]) (obs := [(((a.length : Nat) : Int) != ((b.length : Nat) : Int)) = true]) hE Try.func17 mixed (by kernel_rfl) ⟨o0, trivial⟩ hr
theorem p17_start_1 (a : (List Int)) (b : (List Int))   {E : Env} {rv : AV} (hE : PureE Try.prog 17 rv E) (o0 : (((a.length : Nat) : Int) != ((b.length : Nat) : Int)) = false)
    (hg : G Try.prog E (f17K0 Try.prog) ⟨[.rsl (rowI a) 0 a.length, .rsl (rowI b) 0 b.length, .junk, .junk, .junk, .int .i64 0, .junk, .junk, .junk, .junk, .junk, .junk, .junk, .junk, .junk, .junk, .junk, .junk, .junk, .junk, .junk, .junk, .junk, .junk, .junk, .junk], []⟩) : G Try.prog E [.code (bodyAt Try.prog 17)] ⟨[.rsl (rowI a) 0 a.length, .rsl (rowI b) 0 b.length] ++ unds (Try.f17.ntmps - 2), []⟩ :=
  segC_step (n := 400) (ds := []) (cs := []) (live := [0, 1, 5]) (m := 0) (evs := [.b false, .stop]) (obs := [(((a.length : Nat) : Int) != ((b.length : Nat) : Int)) = false]) hE.2.1 (hE.nogh _) mixed (by kernel_rfl) ⟨o0, trivial⟩ hg
theorem f17W (a : (List Int)) (b : (List Int)) {E : Env} {rv : Bool} (hE : PureE Try.prog 17 (.bool rv) E)
    (h : ((¬ (((a.length : Nat) : Int) = ((b.length : Nat) : Int)) → rv = false) ∧ (((a.length : Nat) : Int) = ((b.length : Nat) : Int) → f17G0 E a b 0))) : G Try.prog E [.code (bodyAt Try.prog 17)] ⟨[.rsl (rowI a) 0 a.length, .rsl (rowI b) 0 b.length] ++ unds (Try.f17.ntmps - 2), []⟩ := by
  rcases Bool.eq_false_or_eq_true (((a.length : Nat) : Int) != ((b.length : Nat) : Int)) with hc0 | hc0
  · have h := h.1 (bneT hc0)
    exact p17_start_0 a b    hE hc0 (AvLe.of_eq (by rw [h]; try rfl))
  · have h := h.2 (bneF hc0)
    exact p17_start_1 a b    hE hc0 h
theorem p17_0_0 (a : (List Int)) (b : (List Int)) (i : Nat)  (e : Int) (e1 : Int)  {E : Env} {res : AV} (hE : PureE Try.prog 17 res E) (o0 : (decide (((i : Nat) : Int) < ((a.length : Nat) : Int))) = true) (o2 : 0 ≤ ((i : Nat) : Int) ∧ ((i : Nat) : Int) < ((a.length : Nat) : Int)) (o3 : ((rowI a).drop (0 + (Int.toNat ((i : Nat) : Int)) * 1)).take 1 = [.int .i64 e]) (o5 : 0 ≤ ((i : Nat) : Int) ∧ ((i : Nat) : Int) < ((b.length : Nat) : Int)) (o6 : ((rowI b).drop (0 + (Int.toNat ((i : Nat) : Int)) * 1)).take 1 = [.int .i64 e1]) (o7 : (e != e1) = true)
    (hr : AvLe (.bool false) res) : G Try.prog E (f17K0 Try.prog) (f17S0 a b i ) :=
  end_stepL (n := 400) (evs := [.b true, .ld (.int .i64 e), .ld (.int .i64 e1), .b true]) (obs := [(decide (((i : Nat) : Int) < ((a.length : Nat) : Int))) = true, 0 ≤ ((i : Nat) : Int) ∧ ((i : Nat) : Int) < ((a.length : Nat) : Int), ((rowI a).drop (0 + (Int.toNat ((i : Nat) : Int)) * 1)).take 1 = [.int .i64 e], 0 ≤ ((i : Nat) : Int) ∧ ((i : Nat) : Int) < ((b.length : Nat) : Int), ((rowI b).drop (0 + (Int.toNat ((i : Nat) : Int)) * 1)).take 1 = [.int .i64 e1], (e != e1) = true]) hE Try.func17 mixed (by kernel_rfl) ⟨o0, o2, o3, o5, o6, o7, trivial⟩ hr
theorem p17_0_1 (a : (List Int)) (b : (List Int)) (i : Nat)  (e : Int) (e1 : Int)  {E : Env} {rv : AV} (hE : PureE Try.prog 17 rv E) (o0 : (decide (((i : Nat) : Int) < ((a.length : Nat) : Int))) = true) (o2 : 0 ≤ ((i : Nat) : Int) ∧ ((i : Nat) : Int) < ((a.length : Nat) : Int)) (o3 : ((rowI a).drop (0 + (Int.toNat ((i : Nat) : Int)) * 1)).take 1 = [.int .i64 e]) (o5 : 0 ≤ ((i : Nat) : Int) ∧ ((i : Nat) : Int) < ((b.length : Nat) : Int)) (o6 : ((rowI b).drop (0 + (Int.toNat ((i : Nat) : Int)) * 1)).take 1 = [.int .i64 e1]) (o7 : (e != e1) = false) (o8 : InR .i64 (((i : Nat) : Int) + 1))
    (hg : G Try.prog E (f17K0 Try.prog) ⟨[.rsl (rowI a) 0 a.length, .rsl (rowI b) 0 b.length, .junk, .junk, .junk, .int .i64 (((i : Nat) : Int) + 1), .junk, .junk, .junk, .junk, .junk, .junk, .junk, .junk, .junk, .junk, .junk, .junk, .junk, .junk, .junk, .junk, .junk, .junk, .junk, .junk], []⟩) : G Try.prog E (f17K0 Try.prog) (f17S0 a b i ) :=
  segC_step (n := 400) (ds := []) (cs := []) (live := [0, 1, 5]) (m := 0) (evs := [.b true, .ld (.int .i64 e), .ld (.int .i64 e1), .b false, .stop]) (obs := [(decide (((i : Nat) : Int) < ((a.length : Nat) : Int))) = true, 0 ≤ ((i : Nat) : Int) ∧ ((i : Nat) : Int) < ((a.length : Nat) : Int), ((rowI a).drop (0 + (Int.toNat ((i : Nat) : Int)) * 1)).take 1 = [.int .i64 e], 0 ≤ ((i : Nat) : Int) ∧ ((i : Nat) : Int) < ((b.length : Nat) : Int), ((rowI b).drop (0 + (Int.toNat ((i : Nat) : Int)) * 1)).take 1 = [.int .i64 e1], (e != e1) = false, InR .i64 (((i : Nat) : Int) + 1)]) hE.2.1 (hE.nogh _) mixed (by kernel_rfl) ⟨o0, o2, o3, o5, o6, o7, o8, trivial⟩ hg
theorem p17_0_2 (a : (List Int)) (b : (List Int)) (i : Nat)   {E : Env} {res : AV} (hE : PureE Try.prog 17 res E) (o0 : (decide (((i : Nat) : Int) < ((a.length : Nat) : Int))) = false)
    (hr : AvLe (.bool true) res) : G Try.prog E (f17K0 Try.prog) (f17S0 a b i ) :=
  end_stepL (n := 400) (evs := [.b false]) (obs := [(decide (((i : Nat) : Int) < ((a.length : Nat) : Int))) = false]) hE Try.func17 mixed (by kernel_rfl) ⟨o0, trivial⟩ hr
theorem f17W0 (a : (List Int)) (b : (List Int)) (i : Nat) {E : Env} {rv : Bool} (hE : PureE Try.prog 17 (.bool rv) E)
    (h : ((((i : Nat) : Int) < ((a.length : Nat) : Int) → (∃ e : Int, a[i]? = some e ∧ (∃ e1 : Int, b[i]? = some e1 ∧ ((¬ (e = e1) → rv = false) ∧ (e = e1 → ((-9223372036854775808 ≤ ((i : Nat) : Int) + 1 ∧ ((i : Nat) : Int) + 1 ≤ 9223372036854775807) ∧ f17G0 E a b (i + 1))))))) ∧ (¬ (((i : Nat) : Int) < ((a.length : Nat) : Int)) → rv = true))) : f17G0 E a b i := by
  rcases Bool.eq_false_or_eq_true (decide (((i : Nat) : Int) < ((a.length : Nat) : Int))) with hc0 | hc0
  · have h := h.1 (of_decide_eq_true hc0)
    obtain ⟨e, h1, h⟩ := h
    obtain ⟨e1, h2, h⟩ := h
    rcases Bool.eq_false_or_eq_true (e != e1) with hc1 | hc1
    · have h := h.1 (bneT hc1)
      exact p17_0_0 a b i  e e1 hE hc0 (idx_ok h1) (row_part cI (s := 1) (k := 0) (m := 1) (fun _ => rfl) (by decide) h1) (idx_ok h2) (row_part cI (s := 1) (k := 0) (m := 1) (fun _ => rfl) (by decide) h2) hc1 (AvLe.of_eq (by rw [h]; try rfl))
    · have h := h.2 (bneF hc1)
      obtain ⟨q8_2, h⟩ := h
      exact p17_0_1 a b i  e e1 hE hc0 (idx_ok h1) (row_part cI (s := 1) (k := 0) (m := 1) (fun _ => rfl) (by decide) h1) (idx_ok h2) (row_part cI (s := 1) (k := 0) (m := 1) (fun _ => rfl) (by decide) h2) hc1 q8_2 h
  · have h := h.2 (of_decide_eq_false hc0)
    exact p17_0_2 a b i   hE hc0 (AvLe.of_eq (by rw [h]; try rfl))

theorem sameInts_ok (a b : List Int) (h : a = b ∧ a.length ≤ 1000000) : Pure Try.prog 17 [.rsl (rowI a) 0 a.length, .rsl (rowI b) 0 b.length] (.bool true) := pure_of Try.func17 f17b fun E hE => by
  obtain ⟨rfl, hl⟩ := h
  have key : ∀ (d i : Nat), i + d = a.length → f17G0 E a a i := by
    intro d
    induction d with
    | zero => intro i hd; exact f17W0 a a i (rv := true) hE ⟨fun h => by omega, fun _ => rfl⟩
    | succ d ih =>
      intro i hd
      have hi : a[i]? = some a[i] := List.getElem?_eq_getElem (by omega)
      exact f17W0 a a i (rv := true) hE ⟨fun _ => ⟨_, hi, _, hi, fun h => absurd rfl h, fun _ => ⟨by omega, ih (i + 1) (by omega)⟩⟩, fun h => by omega⟩
  exact f17W a a (rv := true) hE ⟨fun h => absurd rfl h, fun _ => key a.length 0 (by omega)⟩

theorem f20b : Try.f20.body = some (bodyAt Try.prog 20) := by kernel_rfl
theorem p20_start_0    {E : Env} {res : AV} (hE : PureE Try.prog 20 res E) (o0 : LentF Try.prog (.clos 15 [] []) [.int .i64 100, .sl 0 0 0 3 1] [⟨true, 0, 1, true, [.int .i64 1, .int .i64 1, .int .i64 1], true⟩] (.tup [.rsl (rowI ((splitK 100 ([1, 1, 1])).1)) 0 (((splitK 100 ([1, 1, 1])).1).length), .int .i64 ((splitK 100 ([1, 1, 1])).2)]) [⟨false, 1, 1, true, [], false⟩]) (o1 : PureF Try.prog (.clos 24 [] []) [.int .i64 2500, .rsl [.int .i64 0, .int .i64 10, .int .i64 1000, .int .i64 20] 0 2] (.tup [.int .i64 ((netK 2500 ([(⟨0, 10⟩ : Bra), (⟨1000, 20⟩ : Bra)])).1), .int .i64 ((netK 2500 ([(⟨0, 10⟩ : Bra), (⟨1000, 20⟩ : Bra)])).2)])) (o3 : ((splitK 100 ([1, 1, 1])).2 == 0) = true) (o4 : ((netK 2500 ([(⟨0, 10⟩ : Bra), (⟨1000, 20⟩ : Bra)])).2 == 0) = true) (o5 : PureF Try.prog (.clos 17 [] []) [.rsl (rowI ((splitK 100 ([1, 1, 1])).1)) 0 (((splitK 100 ([1, 1, 1])).1).length), .rsl [.int .i64 34, .int .i64 33, .int .i64 33] 0 3] (.bool true)) (o7 : true = true)
    (hr : AvLe (.bool ((netK 2500 ([(⟨0, 10⟩ : Bra), (⟨1000, 20⟩ : Bra)])).1 == 2999)) res) : G Try.prog E [.code (bodyAt Try.prog 20)] ⟨[] ++ unds (Try.f20.ntmps - 0), []⟩ :=
  end_stepL (n := 400) (evs := [.lent [0] (.tup [.rsl (rowI ((splitK 100 ([1, 1, 1])).1)) 0 (((splitK 100 ([1, 1, 1])).1).length), .int .i64 ((splitK 100 ([1, 1, 1])).2)]) [⟨false, 1, 1, true, [], false⟩], .v (.tup [.int .i64 ((netK 2500 ([(⟨0, 10⟩ : Bra), (⟨1000, 20⟩ : Bra)])).1), .int .i64 ((netK 2500 ([(⟨0, 10⟩ : Bra), (⟨1000, 20⟩ : Bra)])).2)]), .b true, .b true, .v (.bool true), .b true]) (obs := [LentF Try.prog (.clos 15 [] []) [.int .i64 100, .sl 0 0 0 3 1] [⟨true, 0, 1, true, [.int .i64 1, .int .i64 1, .int .i64 1], true⟩] (.tup [.rsl (rowI ((splitK 100 ([1, 1, 1])).1)) 0 (((splitK 100 ([1, 1, 1])).1).length), .int .i64 ((splitK 100 ([1, 1, 1])).2)]) [⟨false, 1, 1, true, [], false⟩], PureF Try.prog (.clos 24 [] []) [.int .i64 2500, .rsl [.int .i64 0, .int .i64 10, .int .i64 1000, .int .i64 20] 0 2] (.tup [.int .i64 ((netK 2500 ([(⟨0, 10⟩ : Bra), (⟨1000, 20⟩ : Bra)])).1), .int .i64 ((netK 2500 ([(⟨0, 10⟩ : Bra), (⟨1000, 20⟩ : Bra)])).2)]), 0 = 0, ((splitK 100 ([1, 1, 1])).2 == 0) = true, ((netK 2500 ([(⟨0, 10⟩ : Bra), (⟨1000, 20⟩ : Bra)])).2 == 0) = true, PureF Try.prog (.clos 17 [] []) [.rsl (rowI ((splitK 100 ([1, 1, 1])).1)) 0 (((splitK 100 ([1, 1, 1])).1).length), .rsl [.int .i64 34, .int .i64 33, .int .i64 33] 0 3] (.bool true), 0 = 0, true = true]) hE Try.func20 mixed (by kernel_rfl) ⟨o0, o1, (rfl), o3, o4, o5, (rfl), o7, trivial⟩ hr
theorem p20_start_1    {E : Env} {res : AV} (hE : PureE Try.prog 20 res E) (o0 : LentF Try.prog (.clos 15 [] []) [.int .i64 100, .sl 0 0 0 3 1] [⟨true, 0, 1, true, [.int .i64 1, .int .i64 1, .int .i64 1], true⟩] (.tup [.rsl (rowI ((splitK 100 ([1, 1, 1])).1)) 0 (((splitK 100 ([1, 1, 1])).1).length), .int .i64 ((splitK 100 ([1, 1, 1])).2)]) [⟨false, 1, 1, true, [], false⟩]) (o1 : PureF Try.prog (.clos 24 [] []) [.int .i64 2500, .rsl [.int .i64 0, .int .i64 10, .int .i64 1000, .int .i64 20] 0 2] (.tup [.int .i64 ((netK 2500 ([(⟨0, 10⟩ : Bra), (⟨1000, 20⟩ : Bra)])).1), .int .i64 ((netK 2500 ([(⟨0, 10⟩ : Bra), (⟨1000, 20⟩ : Bra)])).2)])) (o3 : ((splitK 100 ([1, 1, 1])).2 == 0) = true) (o4 : ((netK 2500 ([(⟨0, 10⟩ : Bra), (⟨1000, 20⟩ : Bra)])).2 == 0) = true) (o5 : PureF Try.prog (.clos 17 [] []) [.rsl (rowI ((splitK 100 ([1, 1, 1])).1)) 0 (((splitK 100 ([1, 1, 1])).1).length), .rsl [.int .i64 34, .int .i64 33, .int .i64 33] 0 3] (.bool true)) (o7 : true = false)
    (hr : AvLe (.bool false) res) : G Try.prog E [.code (bodyAt Try.prog 20)] ⟨[] ++ unds (Try.f20.ntmps - 0), []⟩ :=
  end_stepL (n := 400) (evs := [.lent [0] (.tup [.rsl (rowI ((splitK 100 ([1, 1, 1])).1)) 0 (((splitK 100 ([1, 1, 1])).1).length), .int .i64 ((splitK 100 ([1, 1, 1])).2)]) [⟨false, 1, 1, true, [], false⟩], .v (.tup [.int .i64 ((netK 2500 ([(⟨0, 10⟩ : Bra), (⟨1000, 20⟩ : Bra)])).1), .int .i64 ((netK 2500 ([(⟨0, 10⟩ : Bra), (⟨1000, 20⟩ : Bra)])).2)]), .b true, .b true, .v (.bool true), .b false]) (obs := [LentF Try.prog (.clos 15 [] []) [.int .i64 100, .sl 0 0 0 3 1] [⟨true, 0, 1, true, [.int .i64 1, .int .i64 1, .int .i64 1], true⟩] (.tup [.rsl (rowI ((splitK 100 ([1, 1, 1])).1)) 0 (((splitK 100 ([1, 1, 1])).1).length), .int .i64 ((splitK 100 ([1, 1, 1])).2)]) [⟨false, 1, 1, true, [], false⟩], PureF Try.prog (.clos 24 [] []) [.int .i64 2500, .rsl [.int .i64 0, .int .i64 10, .int .i64 1000, .int .i64 20] 0 2] (.tup [.int .i64 ((netK 2500 ([(⟨0, 10⟩ : Bra), (⟨1000, 20⟩ : Bra)])).1), .int .i64 ((netK 2500 ([(⟨0, 10⟩ : Bra), (⟨1000, 20⟩ : Bra)])).2)]), 0 = 0, ((splitK 100 ([1, 1, 1])).2 == 0) = true, ((netK 2500 ([(⟨0, 10⟩ : Bra), (⟨1000, 20⟩ : Bra)])).2 == 0) = true, PureF Try.prog (.clos 17 [] []) [.rsl (rowI ((splitK 100 ([1, 1, 1])).1)) 0 (((splitK 100 ([1, 1, 1])).1).length), .rsl [.int .i64 34, .int .i64 33, .int .i64 33] 0 3] (.bool true), 0 = 0, true = false]) hE Try.func20 mixed (by kernel_rfl) ⟨o0, o1, (rfl), o3, o4, o5, (rfl), o7, trivial⟩ hr
theorem p20_start_2    {E : Env} {res : AV} (hE : PureE Try.prog 20 res E) (o0 : LentF Try.prog (.clos 15 [] []) [.int .i64 100, .sl 0 0 0 3 1] [⟨true, 0, 1, true, [.int .i64 1, .int .i64 1, .int .i64 1], true⟩] (.tup [.rsl (rowI ((splitK 100 ([1, 1, 1])).1)) 0 (((splitK 100 ([1, 1, 1])).1).length), .int .i64 ((splitK 100 ([1, 1, 1])).2)]) [⟨false, 1, 1, true, [], false⟩]) (o1 : PureF Try.prog (.clos 24 [] []) [.int .i64 2500, .rsl [.int .i64 0, .int .i64 10, .int .i64 1000, .int .i64 20] 0 2] (.tup [.int .i64 ((netK 2500 ([(⟨0, 10⟩ : Bra), (⟨1000, 20⟩ : Bra)])).1), .int .i64 ((netK 2500 ([(⟨0, 10⟩ : Bra), (⟨1000, 20⟩ : Bra)])).2)])) (o3 : ((splitK 100 ([1, 1, 1])).2 == 0) = true) (o4 : ((netK 2500 ([(⟨0, 10⟩ : Bra), (⟨1000, 20⟩ : Bra)])).2 == 0) = false)
    (hr : AvLe (.bool false) res) : G Try.prog E [.code (bodyAt Try.prog 20)] ⟨[] ++ unds (Try.f20.ntmps - 0), []⟩ :=
  end_stepL (n := 400) (evs := [.lent [0] (.tup [.rsl (rowI ((splitK 100 ([1, 1, 1])).1)) 0 (((splitK 100 ([1, 1, 1])).1).length), .int .i64 ((splitK 100 ([1, 1, 1])).2)]) [⟨false, 1, 1, true, [], false⟩], .v (.tup [.int .i64 ((netK 2500 ([(⟨0, 10⟩ : Bra), (⟨1000, 20⟩ : Bra)])).1), .int .i64 ((netK 2500 ([(⟨0, 10⟩ : Bra), (⟨1000, 20⟩ : Bra)])).2)]), .b true, .b false, .b false]) (obs := [LentF Try.prog (.clos 15 [] []) [.int .i64 100, .sl 0 0 0 3 1] [⟨true, 0, 1, true, [.int .i64 1, .int .i64 1, .int .i64 1], true⟩] (.tup [.rsl (rowI ((splitK 100 ([1, 1, 1])).1)) 0 (((splitK 100 ([1, 1, 1])).1).length), .int .i64 ((splitK 100 ([1, 1, 1])).2)]) [⟨false, 1, 1, true, [], false⟩], PureF Try.prog (.clos 24 [] []) [.int .i64 2500, .rsl [.int .i64 0, .int .i64 10, .int .i64 1000, .int .i64 20] 0 2] (.tup [.int .i64 ((netK 2500 ([(⟨0, 10⟩ : Bra), (⟨1000, 20⟩ : Bra)])).1), .int .i64 ((netK 2500 ([(⟨0, 10⟩ : Bra), (⟨1000, 20⟩ : Bra)])).2)]), 0 = 0, ((splitK 100 ([1, 1, 1])).2 == 0) = true, ((netK 2500 ([(⟨0, 10⟩ : Bra), (⟨1000, 20⟩ : Bra)])).2 == 0) = false, false = false]) hE Try.func20 mixed (by kernel_rfl) ⟨o0, o1, (rfl), o3, o4, (rfl), trivial⟩ hr
theorem p20_start_3    {E : Env} {res : AV} (hE : PureE Try.prog 20 res E) (o0 : LentF Try.prog (.clos 15 [] []) [.int .i64 100, .sl 0 0 0 3 1] [⟨true, 0, 1, true, [.int .i64 1, .int .i64 1, .int .i64 1], true⟩] (.tup [.rsl (rowI ((splitK 100 ([1, 1, 1])).1)) 0 (((splitK 100 ([1, 1, 1])).1).length), .int .i64 ((splitK 100 ([1, 1, 1])).2)]) [⟨false, 1, 1, true, [], false⟩]) (o1 : PureF Try.prog (.clos 24 [] []) [.int .i64 2500, .rsl [.int .i64 0, .int .i64 10, .int .i64 1000, .int .i64 20] 0 2] (.tup [.int .i64 ((netK 2500 ([(⟨0, 10⟩ : Bra), (⟨1000, 20⟩ : Bra)])).1), .int .i64 ((netK 2500 ([(⟨0, 10⟩ : Bra), (⟨1000, 20⟩ : Bra)])).2)])) (o3 : ((splitK 100 ([1, 1, 1])).2 == 0) = false)
    (hr : AvLe (.bool false) res) : G Try.prog E [.code (bodyAt Try.prog 20)] ⟨[] ++ unds (Try.f20.ntmps - 0), []⟩ :=
  end_stepL (n := 400) (evs := [.lent [0] (.tup [.rsl (rowI ((splitK 100 ([1, 1, 1])).1)) 0 (((splitK 100 ([1, 1, 1])).1).length), .int .i64 ((splitK 100 ([1, 1, 1])).2)]) [⟨false, 1, 1, true, [], false⟩], .v (.tup [.int .i64 ((netK 2500 ([(⟨0, 10⟩ : Bra), (⟨1000, 20⟩ : Bra)])).1), .int .i64 ((netK 2500 ([(⟨0, 10⟩ : Bra), (⟨1000, 20⟩ : Bra)])).2)]), .b false, .b false, .b false]) (obs := [LentF Try.prog (.clos 15 [] []) [.int .i64 100, .sl 0 0 0 3 1] [⟨true, 0, 1, true, [.int .i64 1, .int .i64 1, .int .i64 1], true⟩] (.tup [.rsl (rowI ((splitK 100 ([1, 1, 1])).1)) 0 (((splitK 100 ([1, 1, 1])).1).length), .int .i64 ((splitK 100 ([1, 1, 1])).2)]) [⟨false, 1, 1, true, [], false⟩], PureF Try.prog (.clos 24 [] []) [.int .i64 2500, .rsl [.int .i64 0, .int .i64 10, .int .i64 1000, .int .i64 20] 0 2] (.tup [.int .i64 ((netK 2500 ([(⟨0, 10⟩ : Bra), (⟨1000, 20⟩ : Bra)])).1), .int .i64 ((netK 2500 ([(⟨0, 10⟩ : Bra), (⟨1000, 20⟩ : Bra)])).2)]), 0 = 0, ((splitK 100 ([1, 1, 1])).2 == 0) = false, false = false, false = false]) hE Try.func20 mixed (by kernel_rfl) ⟨o0, o1, (rfl), o3, (rfl), (rfl), trivial⟩ hr
theorem f20W  {E : Env} {rv : Bool} (hE : PureE Try.prog 20 (.bool rv) E)
    (h : ((([1, 1, 1]).length ≤ 9223372036854775807) ∧ ((([(⟨0, 10⟩ : Bra), (⟨1000, 20⟩ : Bra)]).length ≤ 9223372036854775807) ∧ (((splitK 100 ([1, 1, 1])).2 = 0 → (((netK 2500 ([(⟨0, 10⟩ : Bra), (⟨1000, 20⟩ : Bra)])).2 = 0 → ((((splitK 100 ([1, 1, 1])).1) = ([34, 33, 33]) ∧ ((splitK 100 ([1, 1, 1])).1).length ≤ 1000000) ∧ ((true = true → rv = ((netK 2500 ([(⟨0, 10⟩ : Bra), (⟨1000, 20⟩ : Bra)])).1 == 2999)) ∧ (true = false → rv = false)))) ∧ (¬ ((netK 2500 ([(⟨0, 10⟩ : Bra), (⟨1000, 20⟩ : Bra)])).2 = 0) → rv = false))) ∧ (¬ ((splitK 100 ([1, 1, 1])).2 = 0) → rv = false))))) : G Try.prog E [.code (bodyAt Try.prog 20)] ⟨[] ++ unds (Try.f20.ntmps - 0), []⟩ := by
  obtain ⟨h1, h⟩ := h
  obtain ⟨h2, h⟩ := h
  rcases Bool.eq_false_or_eq_true ((splitK 100 ([1, 1, 1])).2 == 0) with hc0 | hc0
  · have h := h.1 (eq_of_beq hc0)
    rcases Bool.eq_false_or_eq_true ((netK 2500 ([(⟨0, 10⟩ : Bra), (⟨1000, 20⟩ : Bra)])).2 == 0) with hc1 | hc1
    · have h := h.1 (eq_of_beq hc1)
      obtain ⟨h3, h⟩ := h
      rcases Bool.eq_false_or_eq_true true with hc2 | hc2
      · have h := h.1 hc2
        exact p20_start_0     hE (lentF_of_pure (fv' := .clos 15 [] []) (args' := [.int .i64 100, .rsl [.int .i64 1, .int .i64 1, .int .i64 1] 0 3]) (o1 := []) (o2 := [0 = 0]) (by kernel_rfl) trivial (by kernel_rfl) ⟨rfl, trivial⟩ (pureF_of Try.func15 (by kernel_rfl) f15b (SplitP_ok 100 ([1, 1, 1]) h1))) (pureF_of Try.func24 (by kernel_rfl) f24b (NetP_ok 2500 ([(⟨0, 10⟩ : Bra), (⟨1000, 20⟩ : Bra)]) h2)) hc0 hc1 (pureF_of Try.func17 (by kernel_rfl) f17b (sameInts_ok ((splitK 100 ([1, 1, 1])).1) ([34, 33, 33]) h3)) hc2 (AvLe.of_eq (by rw [h]; try rfl))
      · have h := h.2 hc2
        exact p20_start_1     hE (lentF_of_pure (fv' := .clos 15 [] []) (args' := [.int .i64 100, .rsl [.int .i64 1, .int .i64 1, .int .i64 1] 0 3]) (o1 := []) (o2 := [0 = 0]) (by kernel_rfl) trivial (by kernel_rfl) ⟨rfl, trivial⟩ (pureF_of Try.func15 (by kernel_rfl) f15b (SplitP_ok 100 ([1, 1, 1]) h1))) (pureF_of Try.func24 (by kernel_rfl) f24b (NetP_ok 2500 ([(⟨0, 10⟩ : Bra), (⟨1000, 20⟩ : Bra)]) h2)) hc0 hc1 (pureF_of Try.func17 (by kernel_rfl) f17b (sameInts_ok ((splitK 100 ([1, 1, 1])).1) ([34, 33, 33]) h3)) hc2 (AvLe.of_eq (by rw [h]; try rfl))
    · have h := h.2 (ne_of_beq_false hc1)
      exact p20_start_2     hE (lentF_of_pure (fv' := .clos 15 [] []) (args' := [.int .i64 100, .rsl [.int .i64 1, .int .i64 1, .int .i64 1] 0 3]) (o1 := []) (o2 := [0 = 0]) (by kernel_rfl) trivial (by kernel_rfl) ⟨rfl, trivial⟩ (pureF_of Try.func15 (by kernel_rfl) f15b (SplitP_ok 100 ([1, 1, 1]) h1))) (pureF_of Try.func24 (by kernel_rfl) f24b (NetP_ok 2500 ([(⟨0, 10⟩ : Bra), (⟨1000, 20⟩ : Bra)]) h2)) hc0 hc1 (AvLe.of_eq (by rw [h]; try rfl))
  · have h := h.2 (ne_of_beq_false hc0)
    exact p20_start_3     hE (lentF_of_pure (fv' := .clos 15 [] []) (args' := [.int .i64 100, .rsl [.int .i64 1, .int .i64 1, .int .i64 1] 0 3]) (o1 := []) (o2 := [0 = 0]) (by kernel_rfl) trivial (by kernel_rfl) ⟨rfl, trivial⟩ (pureF_of Try.func15 (by kernel_rfl) f15b (SplitP_ok 100 ([1, 1, 1]) h1))) (pureF_of Try.func24 (by kernel_rfl) f24b (NetP_ok 2500 ([(⟨0, 10⟩ : Bra), (⟨1000, 20⟩ : Bra)]) h2)) hc0 (AvLe.of_eq (by rw [h]; try rfl))

theorem works_ok : Pure Try.prog 20 [] (.bool true) := pure_of Try.func20 f20b fun E hE => by
  have h1 : splitK 100 [1, 1, 1] = ([34, 33, 33], 0) := by decide +kernel
  have h2 : netK 2500 [⟨0, 10⟩, ⟨1000, 20⟩] = (2999, 0) := by decide +kernel
  refine f20W (rv := true) hE ⟨by decide, by decide, fun h => ⟨fun h' => ⟨⟨by rw [h1], by rw [h1]; decide⟩, fun _ => by rw [h2]; rfl, fun h => by cases h⟩, fun h' => absurd (by rw [h2]) h'⟩, fun h' => absurd (by rw [h1]) h'⟩

end Go.Proofs.Ytmdbebbibecidaa

namespace Go.Proofs.Ytmdbebbibecidaa
open Go Ax
open Go.Proofs

theorem ownT : ownKnob Try.prog.godebug = none := by kernel_rfl
theorem laidT : laidOutB Try.prog = true := by kernel_rfl

theorem dInts (W : World) : Dec Try.prog W 22 (List Int) (fun a => [.rsl (rowI a) 0 a.length]) (fun a => a.length ≤ 9223372036854775807) := by
  refine Dec.map (dec_slice Try.underlying22 (n := 1) (by kernel_rfl) (by decide) (fun _ => rfl) (fun _ => rfl) (dec_i64 Try.underlying3)) (fun x => x) ?_ ?_
  · exact fun _ => rfl
  · exact fun _ h => h.1
end Go.Proofs.Ytmdbebbibecidaa

namespace Go.Proofs.Ytmdbebbibecidaa
open Go Ax
open Go.Proofs

structure RentA where
  p : Int
  q : Int
  m : Int
end Go.Proofs.Ytmdbebbibecidaa

namespace Go.Proofs.Ytmdbebbibecidaa
open Go Ax
open Go.Proofs

structure Pay where
  frm : Int
  to : Int
  c : Int
end Go.Proofs.Ytmdbebbibecidaa

namespace Go.Proofs.Ytmdbebbibecidaa
open Go Ax
open Go.Proofs

theorem sum_set : ∀ {l : List Int} {i : Nat} {x : Int}, i < l.length → (l.set i x).sum = l.sum - l.getD i 0 + x
  | [], i, x, h => by simp at h
  | y :: l, 0, x, h => by simp; omega
  | y :: l, i + 1, x, h => by
    have := sum_set (l := l) (i := i) (x := x) (by simpa using h)
    simp only [List.set_cons_succ, List.sum_cons, List.getD_cons_succ]; omega

end Go.Proofs.Ytmdbebbibecidaa

namespace Go.Proofs.Ytmdbebbibecidaa
open Go Ax
open Go.Proofs

structure Spn where
  by_ : Int
  c : Int
  fr : List Int
end Go.Proofs.Ytmdbebbibecidaa

namespace Go.Proofs.Ytmdbebbibecidaa
open Go Ax
open Go.Proofs


def owe (c : Int) (m k : Nat) : Int := Int.tdiv c m + if (k : Int) < Int.tmod c m then 1 else 0
end Go.Proofs.Ytmdbebbibecidaa

namespace Go.Proofs.Ytmdbebbibecidaa
open Go Ax
open Go.Proofs

def contFor (c : Int) (m : Nat) : Nat → List Int → Nat → Int
  | _, [], _ => 0
  | k, p :: r, i => (if Int.toNat p = i then -owe c m k else 0) + contFor c m (k + 1) r i
def cont (x : Spn) (i : Nat) : Int := (if Int.toNat x.by_ = i then x.c else 0) + contFor x.c x.fr.length 0 x.fr i
end Go.Proofs.Ytmdbebbibecidaa

namespace Go.Proofs.Ytmdbebbibecidaa
open Go Ax
open Go.Proofs

theorem f39b : Try.f39.body = some (bodyAt Try.prog 39) := by kernel_rfl
def f39K0 (P : Program) : List Item := kAt 400 [.code (bodyAt P 39)] [.stop]
def f39S0 (l : (List Int)) (sum : Int) (i : Nat)  : St := ⟨[.rsl (rowI l) 0 l.length, .junk, .junk, .int .i64 sum, .int .i64 ((i : Nat) : Int), .junk, .junk, .junk, .junk, .junk, .junk, .junk, .junk, .junk, .junk, .junk, .junk, .junk, .junk, .junk, .junk, .junk, .junk, .junk, .junk, .junk, .junk, .junk, .junk, .junk], []⟩
def f39G0 (E : Env) (l : (List Int)) (sum : Int) (i : Nat) : Prop := G Try.prog E (f39K0 Try.prog) (f39S0 l sum i )
theorem p39_start_0 (l : (List Int))   {E : Env} {rv : AV} (hE : PureE Try.prog 39 rv E) 
    (hg : G Try.prog E (f39K0 Try.prog) ⟨[.rsl (rowI l) 0 l.length, .junk, .junk, .int .i64 0, .int .i64 0, .junk, .junk, .junk, .junk, .junk, .junk, .junk, .junk, .junk, .junk, .junk, .junk, .junk, .junk, .junk, .junk, .junk, .junk, .junk, .junk, .junk, .junk, .junk, .junk, .junk], []⟩) : G Try.prog E [.code (bodyAt Try.prog 39)] ⟨[.rsl (rowI l) 0 l.length] ++ unds (Try.f39.ntmps - 1), []⟩ :=
  segC_step (n := 400) (ds := []) (cs := []) (live := [0, 3, 4]) (m := 0) (evs := [.stop]) (obs := []) hE.2.1 (hE.nogh _) mixed (by kernel_rfl) trivial hg
theorem f39W (l : (List Int)) {E : Env} {rv : Bool} (hE : PureE Try.prog 39 (.bool rv) E)
    (h : f39G0 E l 0 0) : G Try.prog E [.code (bodyAt Try.prog 39)] ⟨[.rsl (rowI l) 0 l.length] ++ unds (Try.f39.ntmps - 1), []⟩ := by
  exact p39_start_0 l    hE  h
theorem p39_0_0 (l : (List Int)) (sum : Int) (i : Nat)  (e : Int)  {E : Env} {res : AV} (hE : PureE Try.prog 39 res E) (o0 : (decide (((i : Nat) : Int) < ((l.length : Nat) : Int))) = true) (o2 : 0 ≤ ((i : Nat) : Int) ∧ ((i : Nat) : Int) < ((l.length : Nat) : Int)) (o3 : ((rowI l).drop (0 + (Int.toNat ((i : Nat) : Int)) * 1)).take 1 = [.int .i64 e]) (o4 : PureF Try.prog (.clos 51 [] []) [.int .i64 e, .int .i64 0, .int .i64 1000] (.bool (within e 0 1000))) (o5 : (!(within e 0 1000)) = true)
    (hr : AvLe (.bool false) res) : G Try.prog E (f39K0 Try.prog) (f39S0 l sum i ) :=
  end_stepL (n := 400) (evs := [.b true, .ld (.int .i64 e), .v (.bool (within e 0 1000)), .b true]) (obs := [(decide (((i : Nat) : Int) < ((l.length : Nat) : Int))) = true, 0 ≤ ((i : Nat) : Int) ∧ ((i : Nat) : Int) < ((l.length : Nat) : Int), ((rowI l).drop (0 + (Int.toNat ((i : Nat) : Int)) * 1)).take 1 = [.int .i64 e], PureF Try.prog (.clos 51 [] []) [.int .i64 e, .int .i64 0, .int .i64 1000] (.bool (within e 0 1000)), (!(within e 0 1000)) = true]) hE Try.func39 mixed (by kernel_rfl) ⟨o0, o2, o3, o4, o5, trivial⟩ hr
theorem p39_0_1 (l : (List Int)) (sum : Int) (i : Nat)  (e : Int)  {E : Env} {rv : AV} (hE : PureE Try.prog 39 rv E) (o0 : (decide (((i : Nat) : Int) < ((l.length : Nat) : Int))) = true) (o2 : 0 ≤ ((i : Nat) : Int) ∧ ((i : Nat) : Int) < ((l.length : Nat) : Int)) (o3 : ((rowI l).drop (0 + (Int.toNat ((i : Nat) : Int)) * 1)).take 1 = [.int .i64 e]) (o4 : PureF Try.prog (.clos 51 [] []) [.int .i64 e, .int .i64 0, .int .i64 1000] (.bool (within e 0 1000))) (o5 : (!(within e 0 1000)) = false) (o6 : 0 ≤ ((i : Nat) : Int) ∧ ((i : Nat) : Int) < ((l.length : Nat) : Int)) (o7 : ((rowI l).drop (0 + (Int.toNat ((i : Nat) : Int)) * 1)).take 1 = [.int .i64 e]) (o8 : InR .i64 (sum + e)) (o9 : InR .i64 (((i : Nat) : Int) + 1))
    (hg : G Try.prog E (f39K0 Try.prog) ⟨[.rsl (rowI l) 0 l.length, .junk, .junk, .int .i64 (sum + e), .int .i64 (((i : Nat) : Int) + 1), .junk, .junk, .junk, .junk, .junk, .junk, .junk, .junk, .junk, .junk, .junk, .junk, .junk, .junk, .junk, .junk, .junk, .junk, .junk, .junk, .junk, .junk, .junk, .junk, .junk], []⟩) : G Try.prog E (f39K0 Try.prog) (f39S0 l sum i ) :=
  segC_step (n := 400) (ds := []) (cs := []) (live := [0, 3, 4]) (m := 0) (evs := [.b true, .ld (.int .i64 e), .v (.bool (within e 0 1000)), .b false, .ld (.int .i64 e), .stop]) (obs := [(decide (((i : Nat) : Int) < ((l.length : Nat) : Int))) = true, 0 ≤ ((i : Nat) : Int) ∧ ((i : Nat) : Int) < ((l.length : Nat) : Int), ((rowI l).drop (0 + (Int.toNat ((i : Nat) : Int)) * 1)).take 1 = [.int .i64 e], PureF Try.prog (.clos 51 [] []) [.int .i64 e, .int .i64 0, .int .i64 1000] (.bool (within e 0 1000)), (!(within e 0 1000)) = false, 0 ≤ ((i : Nat) : Int) ∧ ((i : Nat) : Int) < ((l.length : Nat) : Int), ((rowI l).drop (0 + (Int.toNat ((i : Nat) : Int)) * 1)).take 1 = [.int .i64 e], InR .i64 (sum + e), InR .i64 (((i : Nat) : Int) + 1)]) hE.2.1 (hE.nogh _) mixed (by kernel_rfl) ⟨o0, o2, o3, o4, o5, o6, o7, o8, o9, trivial⟩ hg
theorem p39_0_2 (l : (List Int)) (sum : Int) (i : Nat)   {E : Env} {res : AV} (hE : PureE Try.prog 39 res E) (o0 : (decide (((i : Nat) : Int) < ((l.length : Nat) : Int))) = false) (o1 : PureF Try.prog (.clos 51 [] []) [.int .i64 ((l.length : Nat) : Int), .int .i64 1, .int .i64 10] (.bool (within ((l.length : Nat) : Int) 1 10))) (o2 : (within ((l.length : Nat) : Int) 1 10) = true)
    (hr : AvLe (.bool (decide (sum > 0))) res) : G Try.prog E (f39K0 Try.prog) (f39S0 l sum i ) :=
  end_stepL (n := 400) (evs := [.b false, .v (.bool (within ((l.length : Nat) : Int) 1 10)), .b true]) (obs := [(decide (((i : Nat) : Int) < ((l.length : Nat) : Int))) = false, PureF Try.prog (.clos 51 [] []) [.int .i64 ((l.length : Nat) : Int), .int .i64 1, .int .i64 10] (.bool (within ((l.length : Nat) : Int) 1 10)), (within ((l.length : Nat) : Int) 1 10) = true]) hE Try.func39 mixed (by kernel_rfl) ⟨o0, o1, o2, trivial⟩ hr
theorem p39_0_3 (l : (List Int)) (sum : Int) (i : Nat)   {E : Env} {res : AV} (hE : PureE Try.prog 39 res E) (o0 : (decide (((i : Nat) : Int) < ((l.length : Nat) : Int))) = false) (o1 : PureF Try.prog (.clos 51 [] []) [.int .i64 ((l.length : Nat) : Int), .int .i64 1, .int .i64 10] (.bool (within ((l.length : Nat) : Int) 1 10))) (o2 : (within ((l.length : Nat) : Int) 1 10) = false)
    (hr : AvLe (.bool false) res) : G Try.prog E (f39K0 Try.prog) (f39S0 l sum i ) :=
  end_stepL (n := 400) (evs := [.b false, .v (.bool (within ((l.length : Nat) : Int) 1 10)), .b false]) (obs := [(decide (((i : Nat) : Int) < ((l.length : Nat) : Int))) = false, PureF Try.prog (.clos 51 [] []) [.int .i64 ((l.length : Nat) : Int), .int .i64 1, .int .i64 10] (.bool (within ((l.length : Nat) : Int) 1 10)), (within ((l.length : Nat) : Int) 1 10) = false]) hE Try.func39 mixed (by kernel_rfl) ⟨o0, o1, o2, trivial⟩ hr
theorem f39W0 (l : (List Int)) (sum : Int) (i : Nat) {E : Env} {rv : Bool} (hE : PureE Try.prog 39 (.bool rv) E)
    (h : ((((i : Nat) : Int) < ((l.length : Nat) : Int) → (∃ e : Int, l[i]? = some e ∧ (((within e 0 1000) = false → rv = false) ∧ ((within e 0 1000) = true → ((-9223372036854775808 ≤ sum + e ∧ sum + e ≤ 9223372036854775807) ∧ ((-9223372036854775808 ≤ ((i : Nat) : Int) + 1 ∧ ((i : Nat) : Int) + 1 ≤ 9223372036854775807) ∧ f39G0 E l (sum + e) (i + 1))))))) ∧ (¬ (((i : Nat) : Int) < ((l.length : Nat) : Int)) → (((within ((l.length : Nat) : Int) 1 10) = true → rv = (decide (sum > 0))) ∧ ((within ((l.length : Nat) : Int) 1 10) = false → rv = false))))) : f39G0 E l sum i := by
  rcases Bool.eq_false_or_eq_true (decide (((i : Nat) : Int) < ((l.length : Nat) : Int))) with hc0 | hc0
  · have h := h.1 (of_decide_eq_true hc0)
    obtain ⟨e, h1, h⟩ := h
    rcases Bool.eq_false_or_eq_true (!(within e 0 1000)) with hc1 | hc1
    · have h := h.1 (bnT hc1)
      exact p39_0_0 l sum i  e hE hc0 (idx_ok h1) (row_part cI (s := 1) (k := 0) (m := 1) (fun _ => rfl) (by decide) h1) (pureF_of Try.func51 (by kernel_rfl) f51b (withinR_ok e 0 1000)) hc1 (AvLe.of_eq (by rw [h]; try rfl))
    · have h := h.2 (bnF hc1)
      obtain ⟨q8_2, h⟩ := h
      obtain ⟨q9_2, h⟩ := h
      exact p39_0_1 l sum i  e hE hc0 (idx_ok h1) (row_part cI (s := 1) (k := 0) (m := 1) (fun _ => rfl) (by decide) h1) (pureF_of Try.func51 (by kernel_rfl) f51b (withinR_ok e 0 1000)) hc1 (idx_ok h1) (row_part cI (s := 1) (k := 0) (m := 1) (fun _ => rfl) (by decide) h1) q8_2 q9_2 h
  · have h := h.2 (of_decide_eq_false hc0)
    rcases Bool.eq_false_or_eq_true (within ((l.length : Nat) : Int) 1 10) with hc1 | hc1
    · have h := h.1 hc1
      exact p39_0_2 l sum i   hE hc0 (pureF_of Try.func51 (by kernel_rfl) f51b (withinR_ok ((l.length : Nat) : Int) 1 10)) hc1 (AvLe.of_eq (by rw [h]; try rfl))
    · have h := h.2 hc1
      exact p39_0_3 l sum i   hE hc0 (pureF_of Try.func51 (by kernel_rfl) f51b (withinR_ok ((l.length : Nat) : Int) 1 10)) hc1 (AvLe.of_eq (by rw [h]; try rfl))
theorem f40b : Try.f40.body = some (bodyAt Try.prog 40) := by kernel_rfl
def f40K0 (P : Program) : List Item := kAt 400 [.code (bodyAt P 40)] [.stop]
def f40S0 (c : Int) (ws : (List Int)) (v0 : List Int) (v1 : List Bool) (left : Int) (i : Nat) (g0 : Nat) (g1 : Nat) : St := ⟨[.int .i64 c, .rsl (rowI ws) 0 ws.length, .junk, .junk, .junk, .int .i64 (sumI ws), .sl 0 g0 0 v0.length 1, .sl 1 g1 0 v1.length 1, .int .i64 left, .int .i64 ((i : Nat) : Int), .junk, .junk, .junk, .junk, .junk, .junk, .junk, .junk, .junk, .junk, .junk, .junk, .junk, .junk, .junk, .junk, .junk, .junk, .junk, .junk, .junk, .junk, .junk, .junk, .junk, .junk, .junk, .junk, .junk, .junk, .junk, .junk, .junk, .junk, .junk, .junk, .junk, .junk, .junk, .junk, .junk, .junk, .junk, .junk, .junk, .junk, .junk, .junk, .junk, .junk, .junk, .junk, .junk, .junk, .junk, .junk, .junk, .junk, .junk, .junk, .junk, .junk, .junk, .junk, .junk, .junk, .junk, .junk, .junk, .junk, .junk, .junk, .junk, .junk, .junk, .junk, .junk, .junk, .junk, .junk, .junk, .junk, .junk], [⟨true, g0, 1, true, (rowI v0), true⟩, ⟨true, g1, 1, true, (rowB v1), true⟩]⟩
def f40G0 (E : Env) (c : Int) (ws : (List Int)) (v0 : List Int) (v1 : List Bool) (left : Int) (i : Nat) : Prop := ∀ g0 g1 : Nat, G Try.prog E (f40K0 Try.prog) (f40S0 c ws v0 v1 left i g0 g1)
def f40K1 (P : Program) : List Item := kAt 400 [.code (bodyAt P 40)] [.b false, .stop]
def f40S1 (c : Int) (ws : (List Int)) (left : Int) (v0 : List Int) (v1 : List Bool) (g0 : Nat) (g1 : Nat) : St := ⟨[.int .i64 c, .rsl (rowI ws) 0 ws.length, .junk, .junk, .junk, .int .i64 (sumI ws), .sl 0 g0 0 v0.length 1, .sl 1 g1 0 v1.length 1, .int .i64 left, .junk, .junk, .junk, .junk, .junk, .junk, .junk, .junk, .junk, .junk, .junk, .junk, .junk, .junk, .junk, .junk, .junk, .junk, .junk, .junk, .junk, .junk, .junk, .junk, .junk, .junk, .junk, .junk, .junk, .junk, .junk, .junk, .junk, .junk, .junk, .junk, .junk, .junk, .junk, .junk, .junk, .junk, .junk, .junk, .junk, .junk, .junk, .junk, .junk, .junk, .junk, .junk, .junk, .junk, .junk, .junk, .junk, .junk, .junk, .junk, .junk, .junk, .junk, .junk, .junk, .junk, .junk, .junk, .junk, .junk, .junk, .junk, .junk, .junk, .junk, .junk, .junk, .junk, .junk, .junk, .junk, .junk, .junk, .junk], [⟨true, g0, 1, true, (rowI v0), true⟩, ⟨true, g1, 1, true, (rowB v1), true⟩]⟩
def f40G1 (E : Env) (c : Int) (ws : (List Int)) (left : Int) (v0 : List Int) (v1 : List Bool) : Prop := ∀ g0 g1 : Nat, G Try.prog E (f40K1 Try.prog) (f40S1 c ws left v0 v1 g0 g1)
def f40K2 (P : Program) : List Item := kAt 400 [.code (bodyAt P 40)] [.b false, .b true, .stop]
def f40S2 (c : Int) (ws : (List Int)) (left : Int) (v0 : List Int) (v1 : List Bool) (best : Int) (i : Nat) (g0 : Nat) (g1 : Nat) : St := ⟨[.int .i64 c, .rsl (rowI ws) 0 ws.length, .junk, .junk, .junk, .int .i64 (sumI ws), .sl 0 g0 0 v0.length 1, .sl 1 g1 0 v1.length 1, .int .i64 left, .junk, .int .i64 best, .int .i64 ((i : Nat) : Int), .junk, .junk, .junk, .junk, .junk, .junk, .junk, .junk, .junk, .junk, .junk, .junk, .junk, .junk, .junk, .junk, .junk, .junk, .junk, .junk, .junk, .junk, .junk, .junk, .junk, .junk, .junk, .junk, .junk, .junk, .junk, .junk, .junk, .junk, .junk, .junk, .junk, .junk, .junk, .junk, .junk, .junk, .junk, .junk, .junk, .junk, .junk, .junk, .junk, .junk, .junk, .junk, .junk, .junk, .junk, .junk, .junk, .junk, .junk, .junk, .junk, .junk, .junk, .junk, .junk, .junk, .junk, .junk, .junk, .junk, .junk, .junk, .junk, .junk, .junk, .junk, .junk, .junk, .junk, .junk, .junk], [⟨true, g0, 1, true, (rowI v0), true⟩, ⟨true, g1, 1, true, (rowB v1), true⟩]⟩
def f40G2 (E : Env) (c : Int) (ws : (List Int)) (left : Int) (v0 : List Int) (v1 : List Bool) (best : Int) (i : Nat) : Prop := ∀ g0 g1 : Nat, G Try.prog E (f40K2 Try.prog) (f40S2 c ws left v0 v1 best i g0 g1)
theorem p40_start_0 (c : Int) (ws : (List Int))   {E : Env} {rv : AV} (hE : PureE Try.prog 40 rv E) (o0 : PureF Try.prog (.clos 21 [] []) [.rsl (rowI ws) 0 ws.length] (.int .i64 (sumI ws))) (o1 : 0 ≤ ((ws.length : Nat) : Int) ∧ ((ws.length : Nat) : Int) ≤ ((ws.length : Nat) : Int) ∧ ((ws.length : Nat) : Int) ≤ 2147483648) (o2 : 0 ≤ ((ws.length : Nat) : Int) ∧ ((ws.length : Nat) : Int) ≤ ((ws.length : Nat) : Int) ∧ ((ws.length : Nat) : Int) ≤ 2147483648)
    (hg : G Try.prog E (f40K0 Try.prog) ⟨[.int .i64 c, .rsl (rowI ws) 0 ws.length, .junk, .junk, .junk, .int .i64 (sumI ws), .sl 0 0 0 (Int.toNat ((ws.length : Nat) : Int)) 1, .sl 1 0 0 (Int.toNat ((ws.length : Nat) : Int)) 1, .int .i64 c, .int .i64 0, .junk, .junk, .junk, .junk, .junk, .junk, .junk, .junk, .junk, .junk, .junk, .junk, .junk, .junk, .junk, .junk, .junk, .junk, .junk, .junk, .junk, .junk, .junk, .junk, .junk, .junk, .junk, .junk, .junk, .junk, .junk, .junk, .junk, .junk, .junk, .junk, .junk, .junk, .junk, .junk, .junk, .junk, .junk, .junk, .junk, .junk, .junk, .junk, .junk, .junk, .junk, .junk, .junk, .junk, .junk, .junk, .junk, .junk, .junk, .junk, .junk, .junk, .junk, .junk, .junk, .junk, .junk, .junk, .junk, .junk, .junk, .junk, .junk, .junk, .junk, .junk, .junk, .junk, .junk, .junk, .junk, .junk, .junk], [⟨true, 0, 1, true, ((List.replicate (Int.toNat ((ws.length : Nat) : Int)) ([.int .i64 0] : List AV)).flatten), true⟩, ⟨true, 0, 1, true, ((List.replicate (Int.toNat ((ws.length : Nat) : Int)) ([.bool false] : List AV)).flatten), true⟩]⟩) : G Try.prog E [.code (bodyAt Try.prog 40)] ⟨[.int .i64 c, .rsl (rowI ws) 0 ws.length] ++ unds (Try.f40.ntmps - 2), []⟩ :=
  segC_step (n := 400) (ds := []) (cs := []) (live := [0, 1, 5, 6, 7, 8, 9]) (m := 2) (evs := [.v (.int .i64 (sumI ws)), .stop]) (obs := [PureF Try.prog (.clos 21 [] []) [.rsl (rowI ws) 0 ws.length] (.int .i64 (sumI ws)), 0 ≤ ((ws.length : Nat) : Int) ∧ ((ws.length : Nat) : Int) ≤ ((ws.length : Nat) : Int) ∧ ((ws.length : Nat) : Int) ≤ 2147483648, 0 ≤ ((ws.length : Nat) : Int) ∧ ((ws.length : Nat) : Int) ≤ ((ws.length : Nat) : Int) ∧ ((ws.length : Nat) : Int) ≤ 2147483648]) hE.2.1 (hE.nogh _) mixed (by kernel_rfl) ⟨o0, o1, o2, trivial⟩ hg
theorem f40W (c : Int) (ws : (List Int)) {E : Env} {rv : (List Int)} (hE : PureE Try.prog 40 (.rsl (rowI rv) 0 rv.length) E)
    (h : ((SumOk ws) ∧ (ws.length ≤ 2147483648 ∧ (ws.length ≤ 2147483648 ∧ f40G0 E c ws (List.replicate ws.length (0 : Int)) (List.replicate ws.length (false : Bool)) c 0)))) : G Try.prog E [.code (bodyAt Try.prog 40)] ⟨[.int .i64 c, .rsl (rowI ws) 0 ws.length] ++ unds (Try.f40.ntmps - 2), []⟩ := by
  obtain ⟨h1, h⟩ := h
  obtain ⟨h2, h⟩ := h
  obtain ⟨h3, h⟩ := h
  refine p40_start_0 c ws    hE (pureF_of Try.func21 (by kernel_rfl) f21b (sumR_ok ws h1)) ⟨by omega, by omega, by have := h2; omega⟩ ⟨by omega, by omega, by have := h3; omega⟩ ?_
  have h := (h 0 0)
  simp only [f40G0, f40S0, List.length_set, List.length_replicate] at h
  rw [(show (List.replicate (Int.toNat ((ws.length : Nat) : Int)) ([.int .i64 0] : List AV)).flatten = rowI (List.replicate ws.length (0 : Int)) from row_rep cI _ _)]; rw [(show (List.replicate (Int.toNat ((ws.length : Nat) : Int)) ([.bool false] : List AV)).flatten = rowB (List.replicate ws.length (false : Bool)) from row_rep cB _ _)]
  exact h
theorem p40_0_0 (c : Int) (ws : (List Int)) (v0 : List Int) (v1 : List Bool) (left : Int) (i : Nat) (g0 : Nat) (g1 : Nat) (e : Int) (e1 : Int) (e2 : Int)  {E : Env} {rv : AV} (hE : PureE Try.prog 40 rv E) (o0 : (decide (((i : Nat) : Int) < ((ws.length : Nat) : Int))) = true) (o2 : 0 ≤ ((i : Nat) : Int) ∧ ((i : Nat) : Int) < ((ws.length : Nat) : Int)) (o3 : ((rowI ws).drop (0 + (Int.toNat ((i : Nat) : Int)) * 1)).take 1 = [.int .i64 e]) (o4 : InR .i64 (c * e)) (o5 : InR .i64 (Int.tdiv (c * e) (sumI ws))) (o6 : (sumI ws) ≠ 0) (o8 : 0 ≤ ((i : Nat) : Int) ∧ ((i : Nat) : Int) < ((v0.length : Nat) : Int)) (o10 : ((0 + (Int.toNat ((i : Nat) : Int)) * 1) + 1) ≤ (rowI v0).length) (o13 : 0 ≤ ((i : Nat) : Int) ∧ ((i : Nat) : Int) < ((v0.length : Nat) : Int)) (o16 : ((setAt (rowI v0) (0 + (Int.toNat ((i : Nat) : Int)) * 1) [.int .i64 (Int.tdiv (c * e) (sumI ws))]).drop (0 + (Int.toNat ((i : Nat) : Int)) * 1)).take 1 = [.int .i64 e2]) (o17 : InR .i64 (left - e2)) (o18 : InR .i64 (((i : Nat) : Int) + 1))
    (hg : G Try.prog E (f40K0 Try.prog) ⟨[.int .i64 c, .rsl (rowI ws) 0 ws.length, .junk, .junk, .junk, .int .i64 (sumI ws), .sl 0 g0 0 v0.length 1, .sl 1 g1 0 v1.length 1, .int .i64 (left - e2), .int .i64 (((i : Nat) : Int) + 1), .junk, .junk, .junk, .junk, .junk, .junk, .junk, .junk, .junk, .junk, .junk, .junk, .junk, .junk, .junk, .junk, .junk, .junk, .junk, .junk, .junk, .junk, .junk, .junk, .junk, .junk, .junk, .junk, .junk, .junk, .junk, .junk, .junk, .junk, .junk, .junk, .junk, .junk, .junk, .junk, .junk, .junk, .junk, .junk, .junk, .junk, .junk, .junk, .junk, .junk, .junk, .junk, .junk, .junk, .junk, .junk, .junk, .junk, .junk, .junk, .junk, .junk, .junk, .junk, .junk, .junk, .junk, .junk, .junk, .junk, .junk, .junk, .junk, .junk, .junk, .junk, .junk, .junk, .junk, .junk, .junk, .junk, .junk], [⟨true, g0, 1, true, (setAt (rowI v0) (0 + (Int.toNat ((i : Nat) : Int)) * 1) [.int .i64 (Int.tdiv (c * e) (sumI ws))]), true⟩, ⟨true, g1, 1, true, (rowB v1), true⟩]⟩) : G Try.prog E (f40K0 Try.prog) (f40S0 c ws v0 v1 left i g0 g1) :=
  segC_step (n := 400) (ds := []) (cs := []) (live := [0, 1, 5, 6, 7, 8, 9]) (m := 2) (evs := [.b true, .ld (.int .i64 e), .ld (.int .i64 e2), .stop]) (obs := [(decide (((i : Nat) : Int) < ((ws.length : Nat) : Int))) = true, 0 ≤ ((i : Nat) : Int) ∧ ((i : Nat) : Int) < ((ws.length : Nat) : Int), ((rowI ws).drop (0 + (Int.toNat ((i : Nat) : Int)) * 1)).take 1 = [.int .i64 e], InR .i64 (c * e), InR .i64 (Int.tdiv (c * e) (sumI ws)), (sumI ws) ≠ 0, 0 ≤ ((i : Nat) : Int) ∧ ((i : Nat) : Int) < ((v0.length : Nat) : Int), g0 = g0, ((0 + (Int.toNat ((i : Nat) : Int)) * 1) + 1) ≤ (rowI v0).length, g0 = g0, 0 ≤ ((i : Nat) : Int) ∧ ((i : Nat) : Int) < ((v0.length : Nat) : Int), g0 = g0, g0 = g0, ((setAt (rowI v0) (0 + (Int.toNat ((i : Nat) : Int)) * 1) [.int .i64 (Int.tdiv (c * e) (sumI ws))]).drop (0 + (Int.toNat ((i : Nat) : Int)) * 1)).take 1 = [.int .i64 e2], InR .i64 (left - e2), InR .i64 (((i : Nat) : Int) + 1)]) hE.2.1 (hE.nogh _) mixed (by kernel_rfl) ⟨o0, o2, o3, o4, o5, o6, o8, (rfl), o10, (rfl), o13, (rfl), (rfl), o16, o17, o18, trivial⟩ hg
theorem p40_0_1 (c : Int) (ws : (List Int)) (v0 : List Int) (v1 : List Bool) (left : Int) (i : Nat) (g0 : Nat) (g1 : Nat)  {E : Env} {rv : AV} (hE : PureE Try.prog 40 rv E) (o0 : (decide (((i : Nat) : Int) < ((ws.length : Nat) : Int))) = false)
    (hg : G Try.prog E (f40K1 Try.prog) ⟨[.int .i64 c, .rsl (rowI ws) 0 ws.length, .junk, .junk, .junk, .int .i64 (sumI ws), .sl 0 g0 0 v0.length 1, .sl 1 g1 0 v1.length 1, .int .i64 left, .junk, .junk, .junk, .junk, .junk, .junk, .junk, .junk, .junk, .junk, .junk, .junk, .junk, .junk, .junk, .junk, .junk, .junk, .junk, .junk, .junk, .junk, .junk, .junk, .junk, .junk, .junk, .junk, .junk, .junk, .junk, .junk, .junk, .junk, .junk, .junk, .junk, .junk, .junk, .junk, .junk, .junk, .junk, .junk, .junk, .junk, .junk, .junk, .junk, .junk, .junk, .junk, .junk, .junk, .junk, .junk, .junk, .junk, .junk, .junk, .junk, .junk, .junk, .junk, .junk, .junk, .junk, .junk, .junk, .junk, .junk, .junk, .junk, .junk, .junk, .junk, .junk, .junk, .junk, .junk, .junk, .junk, .junk, .junk], [⟨true, g0, 1, true, (rowI v0), true⟩, ⟨true, g1, 1, true, (rowB v1), true⟩]⟩) : G Try.prog E (f40K0 Try.prog) (f40S0 c ws v0 v1 left i g0 g1) :=
  segC_step (n := 400) (ds := []) (cs := []) (live := [0, 1, 5, 6, 7, 8]) (m := 2) (evs := [.b false, .stop]) (obs := [(decide (((i : Nat) : Int) < ((ws.length : Nat) : Int))) = false]) hE.2.1 (hE.nogh _) mixed (by kernel_rfl) ⟨o0, trivial⟩ hg
theorem f40W0 (c : Int) (ws : (List Int)) (v0 : List Int) (v1 : List Bool) (left : Int) (i : Nat) {E : Env} {rv : (List Int)} (hE : PureE Try.prog 40 (.rsl (rowI rv) 0 rv.length) E)
    (h : ((((i : Nat) : Int) < ((ws.length : Nat) : Int) → (∃ e : Int, ws[i]? = some e ∧ ((-9223372036854775808 ≤ c * e ∧ c * e ≤ 9223372036854775807) ∧ ((-9223372036854775808 ≤ Int.tdiv (c * e) (sumI ws) ∧ Int.tdiv (c * e) (sumI ws) ≤ 9223372036854775807) ∧ ((sumI ws) ≠ 0 ∧ (∃ e1 : Int, v0[i]? = some e1 ∧ (∃ e2 : Int, (v0.set i (Int.tdiv (c * e) (sumI ws)))[i]? = some e2 ∧ ((-9223372036854775808 ≤ left - e2 ∧ left - e2 ≤ 9223372036854775807) ∧ ((-9223372036854775808 ≤ ((i : Nat) : Int) + 1 ∧ ((i : Nat) : Int) + 1 ≤ 9223372036854775807) ∧ f40G0 E c ws (v0.set i (Int.tdiv (c * e) (sumI ws))) v1 (left - e2) (i + 1)))))))))) ∧ (¬ (((i : Nat) : Int) < ((ws.length : Nat) : Int)) → f40G1 E c ws left v0 v1))) : f40G0 E c ws v0 v1 left i := by
  intro g0 g1
  rcases Bool.eq_false_or_eq_true (decide (((i : Nat) : Int) < ((ws.length : Nat) : Int))) with hc0 | hc0
  · have h := h.1 (of_decide_eq_true hc0)
    obtain ⟨e, h1, h⟩ := h
    obtain ⟨q4_1, h⟩ := h
    obtain ⟨q5_1, h⟩ := h
    obtain ⟨q6_1, h⟩ := h
    obtain ⟨e1, h2, h⟩ := h
    obtain ⟨e2, h3, h⟩ := h
    obtain ⟨q17_1, h⟩ := h
    obtain ⟨q18_1, h⟩ := h
    refine p40_0_0 c ws v0 v1 left i g0 g1 e e1 e2 hE hc0 (idx_ok h1) (row_part cI (s := 1) (k := 0) (m := 1) (fun _ => rfl) (by decide) h1) q4_1 q5_1 q6_1 (idx_ok h2) (row_fits cI (s := 1) (k := 0) (m := 1) (fun _ => rfl) (by decide) h2) (by have hx := idx_ok h3; simpa using hx) (by rw [(show setAt (rowI v0) (0 + (Int.toNat ((i : Nat) : Int)) * 1) [.int .i64 (Int.tdiv (c * e) (sumI ws))] = rowI (v0.set i (Int.tdiv (c * e) (sumI ws))) from row_set cI (s := 1) (k := 0) (fun _ => rfl) h2 rfl (by first | decide | simp))]; exact row_part cI (s := 1) (k := 0) (m := 1) (fun _ => rfl) (by decide) h3) q17_1 q18_1 ?_
    have h := (h g0 g1)
    simp only [f40S0, List.length_set] at h
    rw [(show setAt (rowI v0) (0 + (Int.toNat ((i : Nat) : Int)) * 1) [.int .i64 (Int.tdiv (c * e) (sumI ws))] = rowI (v0.set i (Int.tdiv (c * e) (sumI ws))) from row_set cI (s := 1) (k := 0) (fun _ => rfl) h2 rfl (by first | decide | simp))]
    exact h
  · have h := h.2 (of_decide_eq_false hc0)
    exact p40_0_1 c ws v0 v1 left i g0 g1  hE hc0 (h g0 g1)
theorem p40_1_0 (c : Int) (ws : (List Int)) (left : Int) (v0 : List Int) (v1 : List Bool) (g0 : Nat) (g1 : Nat)  {E : Env} {rv : AV} (hE : PureE Try.prog 40 rv E) (o0 : (decide (left > 0)) = true)
    (hg : G Try.prog E (f40K2 Try.prog) ⟨[.int .i64 c, .rsl (rowI ws) 0 ws.length, .junk, .junk, .junk, .int .i64 (sumI ws), .sl 0 g0 0 v0.length 1, .sl 1 g1 0 v1.length 1, .int .i64 left, .junk, .int .i64 (-1), .int .i64 0, .junk, .junk, .junk, .junk, .junk, .junk, .junk, .junk, .junk, .junk, .junk, .junk, .junk, .junk, .junk, .junk, .junk, .junk, .junk, .junk, .junk, .junk, .junk, .junk, .junk, .junk, .junk, .junk, .junk, .junk, .junk, .junk, .junk, .junk, .junk, .junk, .junk, .junk, .junk, .junk, .junk, .junk, .junk, .junk, .junk, .junk, .junk, .junk, .junk, .junk, .junk, .junk, .junk, .junk, .junk, .junk, .junk, .junk, .junk, .junk, .junk, .junk, .junk, .junk, .junk, .junk, .junk, .junk, .junk, .junk, .junk, .junk, .junk, .junk, .junk, .junk, .junk, .junk, .junk, .junk, .junk], [⟨true, g0, 1, true, (rowI v0), true⟩, ⟨true, g1, 1, true, (rowB v1), true⟩]⟩) : G Try.prog E (f40K1 Try.prog) (f40S1 c ws left v0 v1 g0 g1) :=
  segC_step (n := 400) (ds := []) (cs := []) (live := [0, 1, 5, 6, 7, 8, 10, 11]) (m := 2) (evs := [.b true, .stop]) (obs := [(decide (left > 0)) = true]) hE.2.1 (hE.nogh _) mixed (by kernel_rfl) ⟨o0, trivial⟩ hg
theorem p40_1_1 (c : Int) (ws : (List Int)) (left : Int) (v0 : List Int) (v1 : List Bool) (g0 : Nat) (g1 : Nat)  {E : Env} {res : AV} (hE : PureE Try.prog 40 res E) (o0 : (decide (left > 0)) = false)
    (hr : AvLe (.rsl (rowI v0) 0 v0.length) res) : G Try.prog E (f40K1 Try.prog) (f40S1 c ws left v0 v1 g0 g1) :=
  end_stepL (n := 400) (evs := [.b false]) (obs := [(decide (left > 0)) = false, g0 = g0]) hE Try.func40 mixed (by kernel_rfl) ⟨o0, (rfl), trivial⟩ hr
theorem f40W1 (c : Int) (ws : (List Int)) (left : Int) (v0 : List Int) (v1 : List Bool) {E : Env} {rv : (List Int)} (hE : PureE Try.prog 40 (.rsl (rowI rv) 0 rv.length) E)
    (h : ((left > 0 → f40G2 E c ws left v0 v1 (-1) 0) ∧ (¬ (left > 0) → rv = v0))) : f40G1 E c ws left v0 v1 := by
  intro g0 g1
  rcases Bool.eq_false_or_eq_true (decide (left > 0)) with hc0 | hc0
  · have h := h.1 (of_decide_eq_true hc0)
    exact p40_1_0 c ws left v0 v1 g0 g1  hE hc0 (h g0 g1)
  · have h := h.2 (of_decide_eq_false hc0)
    exact p40_1_1 c ws left v0 v1 g0 g1  hE hc0 (AvLe.of_eq (by rw [h]; try rfl))
theorem p40_2_0 (c : Int) (ws : (List Int)) (left : Int) (v0 : List Int) (v1 : List Bool) (best : Int) (i : Nat) (g0 : Nat) (g1 : Nat) (eb : Bool)  {E : Env} {rv : AV} (hE : PureE Try.prog 40 rv E) (o0 : (decide (((i : Nat) : Int) < ((ws.length : Nat) : Int))) = true) (o2 : 0 ≤ ((i : Nat) : Int) ∧ ((i : Nat) : Int) < ((v1.length : Nat) : Int)) (o5 : ((rowB v1).drop (0 + (Int.toNat ((i : Nat) : Int)) * 1)).take 1 = [.bool eb]) (o6 : (!eb) = true) (o7 : (decide (best < 0)) = true) (o9 : InR .i64 (((i : Nat) : Int) + 1))
    (hg : G Try.prog E (f40K2 Try.prog) ⟨[.int .i64 c, .rsl (rowI ws) 0 ws.length, .junk, .junk, .junk, .int .i64 (sumI ws), .sl 0 g0 0 v0.length 1, .sl 1 g1 0 v1.length 1, .int .i64 left, .junk, .int .i64 ((i : Nat) : Int), .int .i64 (((i : Nat) : Int) + 1), .junk, .junk, .junk, .junk, .junk, .junk, .junk, .junk, .junk, .junk, .junk, .junk, .junk, .junk, .junk, .junk, .junk, .junk, .junk, .junk, .junk, .junk, .junk, .junk, .junk, .junk, .junk, .junk, .junk, .junk, .junk, .junk, .junk, .junk, .junk, .junk, .junk, .junk, .junk, .junk, .junk, .junk, .junk, .junk, .junk, .junk, .junk, .junk, .junk, .junk, .junk, .junk, .junk, .junk, .junk, .junk, .junk, .junk, .junk, .junk, .junk, .junk, .junk, .junk, .junk, .junk, .junk, .junk, .junk, .junk, .junk, .junk, .junk, .junk, .junk, .junk, .junk, .junk, .junk, .junk, .junk], [⟨true, g0, 1, true, (rowI v0), true⟩, ⟨true, g1, 1, true, (rowB v1), true⟩]⟩) : G Try.prog E (f40K2 Try.prog) (f40S2 c ws left v0 v1 best i g0 g1) :=
  segC_step (n := 400) (ds := []) (cs := []) (live := [0, 1, 5, 6, 7, 8, 10, 11]) (m := 2) (evs := [.b true, .ld (.bool eb), .b true, .b true, .b true, .stop]) (obs := [(decide (((i : Nat) : Int) < ((ws.length : Nat) : Int))) = true, 0 ≤ ((i : Nat) : Int) ∧ ((i : Nat) : Int) < ((v1.length : Nat) : Int), g1 = g1, g1 = g1, ((rowB v1).drop (0 + (Int.toNat ((i : Nat) : Int)) * 1)).take 1 = [.bool eb], (!eb) = true, (decide (best < 0)) = true, true = true, InR .i64 (((i : Nat) : Int) + 1)]) hE.2.1 (hE.nogh _) mixed (by kernel_rfl) ⟨o0, o2, (rfl), (rfl), o5, o6, o7, (rfl), o9, trivial⟩ hg
theorem p40_2_1 (c : Int) (ws : (List Int)) (left : Int) (v0 : List Int) (v1 : List Bool) (best : Int) (i : Nat) (g0 : Nat) (g1 : Nat) (eb : Bool) (e : Int) (e1 : Int)  {E : Env} {rv : AV} (hE : PureE Try.prog 40 rv E) (o0 : (decide (((i : Nat) : Int) < ((ws.length : Nat) : Int))) = true) (o2 : 0 ≤ ((i : Nat) : Int) ∧ ((i : Nat) : Int) < ((v1.length : Nat) : Int)) (o5 : ((rowB v1).drop (0 + (Int.toNat ((i : Nat) : Int)) * 1)).take 1 = [.bool eb]) (o6 : (!eb) = true) (o7 : (decide (best < 0)) = false) (o9 : 0 ≤ ((i : Nat) : Int) ∧ ((i : Nat) : Int) < ((ws.length : Nat) : Int)) (o10 : ((rowI ws).drop (0 + (Int.toNat ((i : Nat) : Int)) * 1)).take 1 = [.int .i64 e]) (o11 : InR .i64 (c * e)) (o12 : (sumI ws) ≠ 0) (o14 : 0 ≤ best ∧ best < ((ws.length : Nat) : Int)) (o15 : ((rowI ws).drop (0 + (Int.toNat best) * 1)).take 1 = [.int .i64 e1]) (o16 : InR .i64 (c * e1)) (o17 : (sumI ws) ≠ 0) (o18 : (decide ((Int.tmod (c * e) (sumI ws)) > (Int.tmod (c * e1) (sumI ws)))) = true) (o19 : InR .i64 (((i : Nat) : Int) + 1))
    (hg : G Try.prog E (f40K2 Try.prog) ⟨[.int .i64 c, .rsl (rowI ws) 0 ws.length, .junk, .junk, .junk, .int .i64 (sumI ws), .sl 0 g0 0 v0.length 1, .sl 1 g1 0 v1.length 1, .int .i64 left, .junk, .int .i64 ((i : Nat) : Int), .int .i64 (((i : Nat) : Int) + 1), .junk, .junk, .junk, .junk, .junk, .junk, .junk, .junk, .junk, .junk, .junk, .junk, .junk, .junk, .junk, .junk, .junk, .junk, .junk, .junk, .junk, .junk, .junk, .junk, .junk, .junk, .junk, .junk, .junk, .junk, .junk, .junk, .junk, .junk, .junk, .junk, .junk, .junk, .junk, .junk, .junk, .junk, .junk, .junk, .junk, .junk, .junk, .junk, .junk, .junk, .junk, .junk, .junk, .junk, .junk, .junk, .junk, .junk, .junk, .junk, .junk, .junk, .junk, .junk, .junk, .junk, .junk, .junk, .junk, .junk, .junk, .junk, .junk, .junk, .junk, .junk, .junk, .junk, .junk, .junk, .junk], [⟨true, g0, 1, true, (rowI v0), true⟩, ⟨true, g1, 1, true, (rowB v1), true⟩]⟩) : G Try.prog E (f40K2 Try.prog) (f40S2 c ws left v0 v1 best i g0 g1) :=
  segC_step (n := 400) (ds := []) (cs := []) (live := [0, 1, 5, 6, 7, 8, 10, 11]) (m := 2) (evs := [.b true, .ld (.bool eb), .b true, .b false, .ld (.int .i64 e), .ld (.int .i64 e1), .b true, .stop]) (obs := [(decide (((i : Nat) : Int) < ((ws.length : Nat) : Int))) = true, 0 ≤ ((i : Nat) : Int) ∧ ((i : Nat) : Int) < ((v1.length : Nat) : Int), g1 = g1, g1 = g1, ((rowB v1).drop (0 + (Int.toNat ((i : Nat) : Int)) * 1)).take 1 = [.bool eb], (!eb) = true, (decide (best < 0)) = false, 0 ≤ ((i : Nat) : Int) ∧ ((i : Nat) : Int) < ((ws.length : Nat) : Int), ((rowI ws).drop (0 + (Int.toNat ((i : Nat) : Int)) * 1)).take 1 = [.int .i64 e], InR .i64 (c * e), (sumI ws) ≠ 0, 0 ≤ best ∧ best < ((ws.length : Nat) : Int), ((rowI ws).drop (0 + (Int.toNat best) * 1)).take 1 = [.int .i64 e1], InR .i64 (c * e1), (sumI ws) ≠ 0, (decide ((Int.tmod (c * e) (sumI ws)) > (Int.tmod (c * e1) (sumI ws)))) = true, InR .i64 (((i : Nat) : Int) + 1)]) hE.2.1 (hE.nogh _) mixed (by kernel_rfl) ⟨o0, o2, (rfl), (rfl), o5, o6, o7, o9, o10, o11, o12, o14, o15, o16, o17, o18, o19, trivial⟩ hg
theorem p40_2_2 (c : Int) (ws : (List Int)) (left : Int) (v0 : List Int) (v1 : List Bool) (best : Int) (i : Nat) (g0 : Nat) (g1 : Nat) (eb : Bool) (e : Int) (e1 : Int)  {E : Env} {rv : AV} (hE : PureE Try.prog 40 rv E) (o0 : (decide (((i : Nat) : Int) < ((ws.length : Nat) : Int))) = true) (o2 : 0 ≤ ((i : Nat) : Int) ∧ ((i : Nat) : Int) < ((v1.length : Nat) : Int)) (o5 : ((rowB v1).drop (0 + (Int.toNat ((i : Nat) : Int)) * 1)).take 1 = [.bool eb]) (o6 : (!eb) = true) (o7 : (decide (best < 0)) = false) (o9 : 0 ≤ ((i : Nat) : Int) ∧ ((i : Nat) : Int) < ((ws.length : Nat) : Int)) (o10 : ((rowI ws).drop (0 + (Int.toNat ((i : Nat) : Int)) * 1)).take 1 = [.int .i64 e]) (o11 : InR .i64 (c * e)) (o12 : (sumI ws) ≠ 0) (o14 : 0 ≤ best ∧ best < ((ws.length : Nat) : Int)) (o15 : ((rowI ws).drop (0 + (Int.toNat best) * 1)).take 1 = [.int .i64 e1]) (o16 : InR .i64 (c * e1)) (o17 : (sumI ws) ≠ 0) (o18 : (decide ((Int.tmod (c * e) (sumI ws)) > (Int.tmod (c * e1) (sumI ws)))) = false) (o19 : InR .i64 (((i : Nat) : Int) + 1))
    (hg : G Try.prog E (f40K2 Try.prog) ⟨[.int .i64 c, .rsl (rowI ws) 0 ws.length, .junk, .junk, .junk, .int .i64 (sumI ws), .sl 0 g0 0 v0.length 1, .sl 1 g1 0 v1.length 1, .int .i64 left, .junk, .int .i64 best, .int .i64 (((i : Nat) : Int) + 1), .junk, .junk, .junk, .junk, .junk, .junk, .junk, .junk, .junk, .junk, .junk, .junk, .junk, .junk, .junk, .junk, .junk, .junk, .junk, .junk, .junk, .junk, .junk, .junk, .junk, .junk, .junk, .junk, .junk, .junk, .junk, .junk, .junk, .junk, .junk, .junk, .junk, .junk, .junk, .junk, .junk, .junk, .junk, .junk, .junk, .junk, .junk, .junk, .junk, .junk, .junk, .junk, .junk, .junk, .junk, .junk, .junk, .junk, .junk, .junk, .junk, .junk, .junk, .junk, .junk, .junk, .junk, .junk, .junk, .junk, .junk, .junk, .junk, .junk, .junk, .junk, .junk, .junk, .junk, .junk, .junk], [⟨true, g0, 1, true, (rowI v0), true⟩, ⟨true, g1, 1, true, (rowB v1), true⟩]⟩) : G Try.prog E (f40K2 Try.prog) (f40S2 c ws left v0 v1 best i g0 g1) :=
  segC_step (n := 400) (ds := []) (cs := []) (live := [0, 1, 5, 6, 7, 8, 10, 11]) (m := 2) (evs := [.b true, .ld (.bool eb), .b true, .b false, .ld (.int .i64 e), .ld (.int .i64 e1), .b false, .stop]) (obs := [(decide (((i : Nat) : Int) < ((ws.length : Nat) : Int))) = true, 0 ≤ ((i : Nat) : Int) ∧ ((i : Nat) : Int) < ((v1.length : Nat) : Int), g1 = g1, g1 = g1, ((rowB v1).drop (0 + (Int.toNat ((i : Nat) : Int)) * 1)).take 1 = [.bool eb], (!eb) = true, (decide (best < 0)) = false, 0 ≤ ((i : Nat) : Int) ∧ ((i : Nat) : Int) < ((ws.length : Nat) : Int), ((rowI ws).drop (0 + (Int.toNat ((i : Nat) : Int)) * 1)).take 1 = [.int .i64 e], InR .i64 (c * e), (sumI ws) ≠ 0, 0 ≤ best ∧ best < ((ws.length : Nat) : Int), ((rowI ws).drop (0 + (Int.toNat best) * 1)).take 1 = [.int .i64 e1], InR .i64 (c * e1), (sumI ws) ≠ 0, (decide ((Int.tmod (c * e) (sumI ws)) > (Int.tmod (c * e1) (sumI ws)))) = false, InR .i64 (((i : Nat) : Int) + 1)]) hE.2.1 (hE.nogh _) mixed (by kernel_rfl) ⟨o0, o2, (rfl), (rfl), o5, o6, o7, o9, o10, o11, o12, o14, o15, o16, o17, o18, o19, trivial⟩ hg
theorem p40_2_3 (c : Int) (ws : (List Int)) (left : Int) (v0 : List Int) (v1 : List Bool) (best : Int) (i : Nat) (g0 : Nat) (g1 : Nat) (eb : Bool)  {E : Env} {rv : AV} (hE : PureE Try.prog 40 rv E) (o0 : (decide (((i : Nat) : Int) < ((ws.length : Nat) : Int))) = true) (o2 : 0 ≤ ((i : Nat) : Int) ∧ ((i : Nat) : Int) < ((v1.length : Nat) : Int)) (o5 : ((rowB v1).drop (0 + (Int.toNat ((i : Nat) : Int)) * 1)).take 1 = [.bool eb]) (o6 : (!eb) = false) (o8 : InR .i64 (((i : Nat) : Int) + 1))
    (hg : G Try.prog E (f40K2 Try.prog) ⟨[.int .i64 c, .rsl (rowI ws) 0 ws.length, .junk, .junk, .junk, .int .i64 (sumI ws), .sl 0 g0 0 v0.length 1, .sl 1 g1 0 v1.length 1, .int .i64 left, .junk, .int .i64 best, .int .i64 (((i : Nat) : Int) + 1), .junk, .junk, .junk, .junk, .junk, .junk, .junk, .junk, .junk, .junk, .junk, .junk, .junk, .junk, .junk, .junk, .junk, .junk, .junk, .junk, .junk, .junk, .junk, .junk, .junk, .junk, .junk, .junk, .junk, .junk, .junk, .junk, .junk, .junk, .junk, .junk, .junk, .junk, .junk, .junk, .junk, .junk, .junk, .junk, .junk, .junk, .junk, .junk, .junk, .junk, .junk, .junk, .junk, .junk, .junk, .junk, .junk, .junk, .junk, .junk, .junk, .junk, .junk, .junk, .junk, .junk, .junk, .junk, .junk, .junk, .junk, .junk, .junk, .junk, .junk, .junk, .junk, .junk, .junk, .junk, .junk], [⟨true, g0, 1, true, (rowI v0), true⟩, ⟨true, g1, 1, true, (rowB v1), true⟩]⟩) : G Try.prog E (f40K2 Try.prog) (f40S2 c ws left v0 v1 best i g0 g1) :=
  segC_step (n := 400) (ds := []) (cs := []) (live := [0, 1, 5, 6, 7, 8, 10, 11]) (m := 2) (evs := [.b true, .ld (.bool eb), .b false, .b false, .stop]) (obs := [(decide (((i : Nat) : Int) < ((ws.length : Nat) : Int))) = true, 0 ≤ ((i : Nat) : Int) ∧ ((i : Nat) : Int) < ((v1.length : Nat) : Int), g1 = g1, g1 = g1, ((rowB v1).drop (0 + (Int.toNat ((i : Nat) : Int)) * 1)).take 1 = [.bool eb], (!eb) = false, false = false, InR .i64 (((i : Nat) : Int) + 1)]) hE.2.1 (hE.nogh _) mixed (by kernel_rfl) ⟨o0, o2, (rfl), (rfl), o5, o6, (rfl), o8, trivial⟩ hg
theorem p40_2_4 (c : Int) (ws : (List Int)) (left : Int) (v0 : List Int) (v1 : List Bool) (best : Int) (i : Nat) (g0 : Nat) (g1 : Nat) (eb : Bool) (e : Int)  {E : Env} {rv : AV} (hE : PureE Try.prog 40 rv E) (o0 : (decide (((i : Nat) : Int) < ((ws.length : Nat) : Int))) = false) (o2 : 0 ≤ best ∧ best < ((v1.length : Nat) : Int)) (o4 : ((0 + (Int.toNat best) * 1) + 1) ≤ (rowB v1).length) (o7 : 0 ≤ best ∧ best < ((v0.length : Nat) : Int)) (o10 : ((rowI v0).drop (0 + (Int.toNat best) * 1)).take 1 = [.int .i64 e]) (o11 : InR .i64 (e + 1)) (o12 : 0 ≤ best ∧ best < ((v0.length : Nat) : Int)) (o14 : ((0 + (Int.toNat best) * 1) + 1) ≤ (rowI v0).length) (o16 : InR .i64 (left - 1))
    (hg : G Try.prog E (f40K1 Try.prog) ⟨[.int .i64 c, .rsl (rowI ws) 0 ws.length, .junk, .junk, .junk, .int .i64 (sumI ws), .sl 0 g0 0 v0.length 1, .sl 1 g1 0 v1.length 1, .int .i64 (left - 1), .junk, .junk, .junk, .junk, .junk, .junk, .junk, .junk, .junk, .junk, .junk, .junk, .junk, .junk, .junk, .junk, .junk, .junk, .junk, .junk, .junk, .junk, .junk, .junk, .junk, .junk, .junk, .junk, .junk, .junk, .junk, .junk, .junk, .junk, .junk, .junk, .junk, .junk, .junk, .junk, .junk, .junk, .junk, .junk, .junk, .junk, .junk, .junk, .junk, .junk, .junk, .junk, .junk, .junk, .junk, .junk, .junk, .junk, .junk, .junk, .junk, .junk, .junk, .junk, .junk, .junk, .junk, .junk, .junk, .junk, .junk, .junk, .junk, .junk, .junk, .junk, .junk, .junk, .junk, .junk, .junk, .junk, .junk, .junk], [⟨true, g0, 1, true, (setAt (rowI v0) (0 + (Int.toNat best) * 1) [.int .i64 (e + 1)]), true⟩, ⟨true, g1, 1, true, (setAt (rowB v1) (0 + (Int.toNat best) * 1) [.bool true]), true⟩]⟩) : G Try.prog E (f40K2 Try.prog) (f40S2 c ws left v0 v1 best i g0 g1) :=
  segC_step (n := 400) (ds := []) (cs := []) (live := [0, 1, 5, 6, 7, 8]) (m := 2) (evs := [.b false, .ld (.int .i64 e), .stop]) (obs := [(decide (((i : Nat) : Int) < ((ws.length : Nat) : Int))) = false, 0 ≤ best ∧ best < ((v1.length : Nat) : Int), g1 = g1, ((0 + (Int.toNat best) * 1) + 1) ≤ (rowB v1).length, g1 = g1, 0 ≤ best ∧ best < ((v0.length : Nat) : Int), g0 = g0, g0 = g0, ((rowI v0).drop (0 + (Int.toNat best) * 1)).take 1 = [.int .i64 e], InR .i64 (e + 1), 0 ≤ best ∧ best < ((v0.length : Nat) : Int), g0 = g0, ((0 + (Int.toNat best) * 1) + 1) ≤ (rowI v0).length, g0 = g0, InR .i64 (left - 1)]) hE.2.1 (hE.nogh _) mixed (by kernel_rfl) ⟨o0, o2, (rfl), o4, (rfl), o7, (rfl), (rfl), o10, o11, o12, (rfl), o14, (rfl), o16, trivial⟩ hg
theorem f40W2 (c : Int) (ws : (List Int)) (left : Int) (v0 : List Int) (v1 : List Bool) (best : Int) (i : Nat) {E : Env} {rv : (List Int)} (hE : PureE Try.prog 40 (.rsl (rowI rv) 0 rv.length) E)
    (h : ((((i : Nat) : Int) < ((ws.length : Nat) : Int) → (∃ eb : Bool, v1[i]? = some eb ∧ ((eb = false → ((best < 0 → ((-9223372036854775808 ≤ ((i : Nat) : Int) + 1 ∧ ((i : Nat) : Int) + 1 ≤ 9223372036854775807) ∧ f40G2 E c ws left v0 v1 ((i : Nat) : Int) (i + 1))) ∧ (¬ (best < 0) → (∃ e : Int, ws[i]? = some e ∧ ((-9223372036854775808 ≤ c * e ∧ c * e ≤ 9223372036854775807) ∧ ((sumI ws) ≠ 0 ∧ (0 ≤ best ∧ (∃ e1 : Int, ws[Int.toNat best]? = some e1 ∧ ((-9223372036854775808 ≤ c * e1 ∧ c * e1 ≤ 9223372036854775807) ∧ ((sumI ws) ≠ 0 ∧ (((Int.tmod (c * e) (sumI ws)) > (Int.tmod (c * e1) (sumI ws)) → ((-9223372036854775808 ≤ ((i : Nat) : Int) + 1 ∧ ((i : Nat) : Int) + 1 ≤ 9223372036854775807) ∧ f40G2 E c ws left v0 v1 ((i : Nat) : Int) (i + 1))) ∧ (¬ ((Int.tmod (c * e) (sumI ws)) > (Int.tmod (c * e1) (sumI ws))) → ((-9223372036854775808 ≤ ((i : Nat) : Int) + 1 ∧ ((i : Nat) : Int) + 1 ≤ 9223372036854775807) ∧ f40G2 E c ws left v0 v1 best (i + 1)))))))))))))) ∧ (eb = true → ((-9223372036854775808 ≤ ((i : Nat) : Int) + 1 ∧ ((i : Nat) : Int) + 1 ≤ 9223372036854775807) ∧ f40G2 E c ws left v0 v1 best (i + 1)))))) ∧ (¬ (((i : Nat) : Int) < ((ws.length : Nat) : Int)) → (0 ≤ best ∧ (∃ eb : Bool, v1[Int.toNat best]? = some eb ∧ (0 ≤ best ∧ (∃ e : Int, v0[Int.toNat best]? = some e ∧ ((-9223372036854775808 ≤ e + 1 ∧ e + 1 ≤ 9223372036854775807) ∧ ((-9223372036854775808 ≤ left - 1 ∧ left - 1 ≤ 9223372036854775807) ∧ f40G1 E c ws (left - 1) (v0.set (Int.toNat best) (e + 1)) (v1.set (Int.toNat best) true)))))))))) : f40G2 E c ws left v0 v1 best i := by
  intro g0 g1
  rcases Bool.eq_false_or_eq_true (decide (((i : Nat) : Int) < ((ws.length : Nat) : Int))) with hc0 | hc0
  · have h := h.1 (of_decide_eq_true hc0)
    obtain ⟨eb, h1, h⟩ := h
    rcases Bool.eq_false_or_eq_true (!eb) with hc1 | hc1
    · have h := h.1 (bnT hc1)
      rcases Bool.eq_false_or_eq_true (decide (best < 0)) with hc2 | hc2
      · have h := h.1 (of_decide_eq_true hc2)
        obtain ⟨q9_3, h⟩ := h
        exact p40_2_0 c ws left v0 v1 best i g0 g1 eb hE hc0 (idx_ok h1) (row_part cB (s := 1) (k := 0) (m := 1) (fun _ => rfl) (by decide) h1) hc1 hc2 q9_3 (h g0 g1)
      · have h := h.2 (of_decide_eq_false hc2)
        obtain ⟨e, h2, h⟩ := h
        obtain ⟨q11_3, h⟩ := h
        obtain ⟨q12_3, h⟩ := h
        obtain ⟨h4, h⟩ := h
        obtain ⟨e1, h3, h⟩ := h
        obtain ⟨q16_3, h⟩ := h
        obtain ⟨q17_3, h⟩ := h
        rcases Bool.eq_false_or_eq_true (decide ((Int.tmod (c * e) (sumI ws)) > (Int.tmod (c * e1) (sumI ws)))) with hc3 | hc3
        · have h := h.1 (of_decide_eq_true hc3)
          obtain ⟨q19_4, h⟩ := h
          exact p40_2_1 c ws left v0 v1 best i g0 g1 eb e e1 hE hc0 (idx_ok h1) (row_part cB (s := 1) (k := 0) (m := 1) (fun _ => rfl) (by decide) h1) hc1 hc2 (idx_ok h2) (row_part cI (s := 1) (k := 0) (m := 1) (fun _ => rfl) (by decide) h2) q11_3 q12_3 (idx_ok' h4 h3) (row_part cI (s := 1) (k := 0) (m := 1) (fun _ => rfl) (by decide) h3) q16_3 q17_3 hc3 q19_4 (h g0 g1)
        · have h := h.2 (of_decide_eq_false hc3)
          obtain ⟨q19_4, h⟩ := h
          exact p40_2_2 c ws left v0 v1 best i g0 g1 eb e e1 hE hc0 (idx_ok h1) (row_part cB (s := 1) (k := 0) (m := 1) (fun _ => rfl) (by decide) h1) hc1 hc2 (idx_ok h2) (row_part cI (s := 1) (k := 0) (m := 1) (fun _ => rfl) (by decide) h2) q11_3 q12_3 (idx_ok' h4 h3) (row_part cI (s := 1) (k := 0) (m := 1) (fun _ => rfl) (by decide) h3) q16_3 q17_3 hc3 q19_4 (h g0 g1)
    · have h := h.2 (bnF hc1)
      obtain ⟨q8_2, h⟩ := h
      exact p40_2_3 c ws left v0 v1 best i g0 g1 eb hE hc0 (idx_ok h1) (row_part cB (s := 1) (k := 0) (m := 1) (fun _ => rfl) (by decide) h1) hc1 q8_2 (h g0 g1)
  · have h := h.2 (of_decide_eq_false hc0)
    obtain ⟨h2, h⟩ := h
    obtain ⟨eb, h1, h⟩ := h
    obtain ⟨h4, h⟩ := h
    obtain ⟨e, h3, h⟩ := h
    obtain ⟨q11_1, h⟩ := h
    obtain ⟨q16_1, h⟩ := h
    refine p40_2_4 c ws left v0 v1 best i g0 g1 eb e hE hc0 (idx_ok' h2 h1) (row_fits cB (s := 1) (k := 0) (m := 1) (fun _ => rfl) (by decide) h1) (idx_ok' h4 h3) (row_part cI (s := 1) (k := 0) (m := 1) (fun _ => rfl) (by decide) h3) q11_1 (idx_ok' h4 h3) (row_fits cI (s := 1) (k := 0) (m := 1) (fun _ => rfl) (by decide) h3) q16_1 ?_
    have h := (h g0 g1)
    simp only [f40S1, List.length_set] at h
    rw [(show setAt (rowI v0) (0 + (Int.toNat best) * 1) [.int .i64 (e + 1)] = rowI (v0.set (Int.toNat best) (e + 1)) from row_set cI (s := 1) (k := 0) (fun _ => rfl) h3 rfl (by first | decide | simp))]; rw [(show setAt (rowB v1) (0 + (Int.toNat best) * 1) [.bool true] = rowB (v1.set (Int.toNat best) true) from row_set cB (s := 1) (k := 0) (fun _ => rfl) h1 rfl (by first | decide | simp))]
    exact h

theorem weightedR_ok (l : List Int) (h : l.length ≤ 17592186044416) : Pure Try.prog 39 [.rsl (rowI l) 0 l.length] (.bool (weightedB l)) := pure_of Try.func39 f39b fun E hE => by
  have key : ∀ (d i : Nat) (s : Int), i + d = l.length → s = (l.take i).sum → (0 ≤ s ∧ s ≤ 1000 * (i : Int)) → (l.any (fun x => !within x 0 1000)) = ((l.drop i).any fun x => !within x 0 1000) → f39G0 E l s i := by
    intro d
    induction d with
    | zero =>
      intro i s hd hs hb hany
      rw [List.drop_eq_nil_of_le (by omega)] at hany
      rw [List.take_of_length_le (by omega)] at hs
      refine f39W0 l s i (rv := weightedB l) hE ⟨fun h => by omega, fun _ => ⟨fun h1 => ?_, fun h1 => ?_⟩⟩
      · simp only [weightedB, h1, hany, sumI, ← hs]; simp
      · simp [weightedB, h1]
    | succ d ih =>
      intro i s hd hs hb hany
      have hi : l[i]? = some l[i] := List.getElem?_eq_getElem (by omega)
      rw [List.drop_eq_getElem_cons (by omega), List.any_cons] at hany
      refine f39W0 l s i (rv := weightedB l) hE ⟨fun _ => ⟨_, hi, fun h2 => ?_, fun h2 => ?_⟩, fun h => by omega⟩
      · simp only [weightedB]; rw [hany]; simp [h2]
      · have := within_iff.1 h2
        refine ⟨by omega, by omega, ih (i + 1) _ (by omega) ?_ (by omega) ?_⟩
        · rw [List.take_add_one, hi, List.sum_append, hs]; simp
        · rw [hany]; simp [h2]
  exact f39W l hE (key l.length 0 0 (by omega) (by simp) (by omega) (by simp))

def prec (K : Int → Int) (i j : Int) : Prop := K i > K j ∨ (K i = K j ∧ i < j)
theorem prec_asymm {K : Int → Int} {i j : Int} (h : prec K i j) (h2 : prec K j i) : False := by
  rcases h with h | h <;> rcases h2 with h2 | h2 <;> omega

theorem sink_spec {lt : Int → Int → Bool} : ∀ {d : Nat} {S R : List Int} {x : Int}, S.length = d → ∃ S1 S2, S = S1 ++ S2 ∧ sink lt d (S ++ x :: R) = S1 ++ x :: (S2 ++ R) ∧ (∀ y ∈ S2, lt x y = true) ∧ (∀ y, S1.getLast? = some y → lt x y = false)
  | 0, S, R, x, h => ⟨[], [], by simpa using h, by rw [List.length_eq_zero_iff.1 h]; rfl, by simp, by simp⟩
  | d + 1, S, R, x, h => by
    obtain ⟨S', y, rfl⟩ : ∃ S' y, S = S' ++ [y] := ⟨S.dropLast, S.getLast (by intro e; simp [e] at h), (List.dropLast_concat_getLast _).symm⟩
    have h' : S'.length = d := by simpa using h
    subst h'
    have e0 : S' ++ [y] ++ x :: R = S' ++ y :: x :: R := by simp
    have e1 : (S' ++ y :: x :: R)[S'.length + 1]? = some x := by rw [List.getElem?_append_right (by omega), show S'.length + 1 - S'.length = 1 by omega]; rfl
    have e2 : (S' ++ y :: x :: R)[S'.length]? = some y := by rw [List.getElem?_append_right (by omega), Nat.sub_self]; rfl
    rw [e0]
    simp only [sink, e1, e2]
    by_cases hl : lt x y = true
    · rw [if_pos hl, List.set_append_right _ _ (by omega), show S'.length + 1 - S'.length = 1 by omega, List.set_append_right _ _ (by omega), Nat.sub_self]
      obtain ⟨S1, S2, q1, q2, q3, q4⟩ := sink_spec (lt := lt) (S := S') (R := y :: R) (x := x) rfl
      refine ⟨S1, S2 ++ [y], by rw [← List.append_assoc, ← q1], ?_, fun z hz => ?_, q4⟩
      · have : ((y :: x :: R).set 1 y).set 0 x = x :: y :: R := rfl
        rw [this, q2]; simp
      · rcases List.mem_append.1 hz with hz | hz
        · exact q3 z hz
        · rw [List.mem_singleton.1 hz]; exact hl
    · rw [if_neg hl]
      exact ⟨S' ++ [y], [], by simp, by simp, by simp, fun z hz => by simp at hz; subst hz; simpa using hl⟩

theorem pw_ins {K : Int → Int} {lt : Int → Int → Bool} (hlt : ∀ x y, lt x y = true ↔ K y < K x) {S1 S2 : List Int} {x : Int} (hp : (S1 ++ S2).Pairwise (prec K)) (hx : ∀ y ∈ S1, y < x)
    (h1 : ∀ y, S1.getLast? = some y → lt x y = false) (h2 : ∀ y ∈ S2, lt x y = true) : (S1 ++ x :: S2).Pairwise (prec K) := by
  rw [List.pairwise_append] at hp
  obtain ⟨p1, p2, p3⟩ := hp
  have low : ∀ y ∈ S1, prec K y x := by
    rcases List.eq_nil_or_concat S1 with rfl | ⟨S', z, rfl⟩
    · simp
    intro y hy
    have hz := h1 z (by simp)
    have hz' : ¬ K z < K x := fun h => by rw [(hlt x z).2 h] at hz; cases hz
    have hyz : K z ≤ K y := by
      rw [List.concat_eq_append, List.pairwise_append] at p1
      simp only [List.concat_eq_append, List.mem_append, List.mem_singleton] at hy
      rcases hy with hy | rfl
      · have := p1.2.2 y hy z (by simp)
        rcases this with h | h <;> omega
      · omega
    have := hx y hy
    by_cases e : K y = K x
    · exact .inr ⟨e, this⟩
    · exact .inl (by omega)
  rw [List.pairwise_append]
  refine ⟨p1, List.pairwise_cons.2 ⟨fun y hy => .inl ((hlt x y).1 (h2 y hy)), p2⟩, fun a ha b hb => ?_⟩
  rcases List.mem_cons.1 hb with rfl | hb
  · exact low a ha
  · exact p3 a ha b hb

def idxL (n : Nat) : List Int := (List.range n).map fun i : Nat => (i : Int)
theorem idxL_get {n k : Nat} (h : k < n) : (idxL n)[k]? = some (k : Int) := by simp [idxL, List.getElem?_map, List.getElem?_range h]
theorem idxL_drop {n k : Nat} (h : k < n) : (idxL n).drop k = (k : Int) :: (idxL n).drop (k + 1) := by
  have hl : k < (idxL n).length := by simpa [idxL] using h
  rw [List.drop_eq_getElem_cons hl]
  congr 1
  have := idxL_get h
  rw [List.getElem?_eq_getElem hl] at this
  exact Option.some.inj this

theorem sort_inv {K : Int → Int} {lt : Int → Int → Bool} (hlt : ∀ x y, lt x y = true ↔ K y < K x) (n : Nat) : ∀ k, k + 1 ≤ n → ∃ S, S.length = k + 1 ∧ (List.range k).foldl (fun l k => sink lt (k + 1) l) (idxL n) = S ++ (idxL n).drop (k + 1) ∧ (∀ x, x ∈ S ↔ 0 ≤ x ∧ x < (k : Int) + 1) ∧ S.Pairwise (prec K)
  | 0, h => ⟨[0], rfl, by have := idxL_drop (n := n) (k := 0) (by omega); simpa using this, fun x => by simp; omega, by simp⟩
  | k + 1, h => by
    obtain ⟨S, s1, s2, s3, s4⟩ := sort_inv hlt n k (by omega)
    obtain ⟨S1, S2, rfl, q2, q3, q4⟩ := sink_spec (lt := lt) (S := S) (R := (idxL n).drop (k + 1 + 1)) (x := ((k + 1 : Nat) : Int)) s1
    refine ⟨S1 ++ ((k + 1 : Nat) : Int) :: S2, ?_, ?_, fun x => ?_, pw_ins hlt s4 (fun y hy => ?_) q4 q3⟩
    · simp only [List.length_append, List.length_cons] at *; omega
    · rw [List.range_succ, List.foldl_append, s2, List.foldl_cons, List.foldl_nil, idxL_drop (by omega), q2]; simp
    · have := s3 x
      rw [List.mem_append] at this
      rw [List.mem_append, List.mem_cons]
      constructor
      · rintro (h1 | rfl | h1)
        · have := this.1 (.inl h1); omega
        · omega
        · have := this.1 (.inr h1); omega
      · intro h1
        by_cases e : x = ((k + 1 : Nat) : Int)
        · exact .inr (.inl e)
        · rcases this.2 (by omega) with h2 | h2
          · exact .inl h2
          · exact .inr (.inr h2)
    · have := (s3 y).1 (List.mem_append_left _ hy); omega

theorem ltI_iff (c : Int) (ws : List Int) (al x y : Int) : ltI c ws al x y = true ↔ keyI c ws al y < keyI c ws al x := by
  simp only [ltI, decide_eq_true_eq, lessI, cmpI]
  split
  · simp; omega
  · split <;> simp <;> omega

theorem order_spec {c : Int} {ws : List Int} (h : 1 ≤ ws.length) : (orderI c ws).length = ws.length ∧ (∀ x, x ∈ orderI c ws ↔ 0 ≤ x ∧ x < (ws.length : Int)) ∧ (orderI c ws).Pairwise (prec (keyI c ws (sumI ws))) := by
  obtain ⟨S, s1, s2, s3, s4⟩ := sort_inv (K := keyI c ws (sumI ws)) (lt := ltI c ws (sumI ws)) (ltI_iff c ws _) ws.length (ws.length - 1) (by omega)
  have e : orderI c ws = S := by
    have hl : (idxL ws.length).length = ws.length := by simp [idxL]
    rw [orderI, sortI]
    show (List.range ((idxL ws.length).length - 1)).foldl _ (idxL ws.length) = S
    rw [hl, s2, List.drop_eq_nil_of_le (by rw [hl]; omega), List.append_nil]
  rw [e]
  exact ⟨by omega, fun x => by rw [s3 x]; omega, s4⟩

theorem splitR_ok (c : Int) (ws : List Int) (h : SplitOk c ws) : Pure Try.prog 40 [.int .i64 c, .rsl (rowI ws) 0 ws.length] (.rsl (rowI (splitI c ws)) 0 (splitI c ws).length) := pure_of Try.func40 f40b fun E hE => by
  have hS := h.pos
  have hlen := h.len
  have hlen1 := h.len1
  have hb := base_left h
  obtain ⟨ol, om, op⟩ := order_spec (c := c) hlen1
  have hc := And.intro h.c0 h.c1
  have sb : ∀ w ∈ ws, 0 ≤ shareI c (sumI ws) w ∧ shareI c (sumI ws) w ≤ 1000000000000 := fun w hw => by
    have h1 := share_bd hS h.c0 (h.w w hw).1
    have h2 := mul_le_of hc (h.w w hw)
    omega
  have bd : ∀ x ∈ baseI c ws, 0 ≤ x ∧ x ≤ 1000000000000 := by
    intro x hx
    obtain ⟨w, hw, rfl⟩ := List.mem_map.1 hx
    exact sb w hw
  have hbl : (baseI c ws).length = ws.length := by simp [baseI]
  have kd : ∀ {i : Nat} {w : Int}, ws[i]? = some w → keyI c ws (sumI ws) i = Int.tmod (c * w) (sumI ws) := fun {i w} hw => by
    simp [keyI, List.getD, hw]
  -- the rounds
  have rounds : ∀ (d j : Nat) (left : Int) (v : List Int) (g : List Bool), j + d = Int.toNat (c - sumI (baseI c ws)) → left = (d : Int) → v = ((orderI c ws).take j).foldl bump (baseI c ws) → v.length = ws.length → (∀ x ∈ v, 0 ≤ x ∧ x ≤ 1000000000000 + j) →
      g.length = ws.length → (∀ i : Nat, i < ws.length → g[i]? = some (decide ((i : Int) ∈ (orderI c ws).take j))) → f40G1 E c ws left v g := by
    intro d
    induction d with
    | zero =>
      intro j left v g hd hl hv hvl hvb hgl hg
      refine f40W1 c ws left v g (rv := splitI c ws) hE ⟨fun h => by omega, fun _ => ?_⟩
      rw [hv, splitI, ← hd]; rfl
    | succ d ih =>
      intro j left v g hd hl hv hvl hvb hgl hg
      have hj : (orderI c ws)[j]? = some (orderI c ws)[j] := List.getElem?_eq_getElem (by omega)
      have hm := (om _).1 (List.mem_of_getElem? hj)
      have split : orderI c ws = (orderI c ws).take j ++ (orderI c ws)[j] :: (orderI c ws).drop (j + 1) := by
        rw [← List.drop_eq_getElem_cons (by omega), List.take_append_drop]
      have take1 : (orderI c ws).take (j + 1) = (orderI c ws).take j ++ [(orderI c ws)[j]] := by rw [List.take_add_one, hj]; rfl
      generalize hgm : (orderI c ws)[j] = m at hj hm split take1
      have pw := op
      rw [split, List.pairwise_append, List.pairwise_cons] at pw
      have mnot : ¬ m ∈ (orderI c ws).take j := fun hin => prec_asymm (pw.2.2 m hin m (by simp)) (pw.2.2 m hin m (by simp))
      have first : ∀ x : Int, 0 ≤ x → x < ws.length → ¬ x ∈ (orderI c ws).take j → x = m ∨ prec (keyI c ws (sumI ws)) m x := fun x h0 h1 hx => by
        have := (om x).2 ⟨h0, h1⟩
        rw [split] at this
        rcases List.mem_append.1 this with hin | hin
        · exact absurd hin hx
        · rcases List.mem_cons.1 hin with hin | hin
          · exact .inl hin
          · exact .inr (pw.2.1.1 x hin)
      refine f40W1 c ws left v g (rv := splitI c ws) hE ⟨fun _ => ?_, fun h => by omega⟩
      have scan : ∀ (d i : Nat) (best : Int), i + d = ws.length → ((best = -1 ∧ ∀ p : Nat, p < i → (p : Int) ∈ (orderI c ws).take j) ∨ ((0 ≤ best ∧ best < i) ∧ ¬ best ∈ (orderI c ws).take j ∧ ∀ p : Nat, p < i → ¬ (p : Int) ∈ (orderI c ws).take j → (p : Int) = best ∨ prec (keyI c ws (sumI ws)) best p)) → f40G2 E c ws left v g best i := by
        intro d
        induction d with
        | zero =>
          intro i best hd hbest
          have hi : i = ws.length := by omega
          subst hi
          have hbm : best = m := by
            have em : ((Int.toNat m : Nat) : Int) = m := by omega
            rcases hbest with ⟨-, q⟩ | ⟨q1, q2, q3⟩
            · have := q (Int.toNat m) (by omega)
              rw [em] at this; exact absurd this mnot
            · rcases q3 (Int.toNat m) (by omega) (by rw [em]; exact mnot) with e | e
              · rw [em] at e; exact e.symm
              · rw [em] at e
                rcases first best q1.1 q1.2 q2 with e2 | e2
                · exact e2
                · exact (prec_asymm e e2).elim
          subst hbm
          have g1 : g[Int.toNat best]? = some (decide (((Int.toNat best : Nat) : Int) ∈ (orderI c ws).take j)) := hg _ (by omega)
          have g2 : v[Int.toNat best]? = some (v.getD (Int.toNat best) 0) := by simp [List.getD, show Int.toNat best < v.length by omega]
          have b2 := hvb _ (List.mem_of_getElem? g2)
          refine f40W2 c ws left v g best ws.length (rv := splitI c ws) hE ⟨fun h => by omega, fun _ => ⟨hm.1, _, g1, hm.1, _, g2, by omega, by omega, ih (j + 1) (left - 1) _ _ (by omega) (by omega) ?_ (by simp [hvl]) (fun x hx => ?_) (by simp [hgl]) (fun i hi => ?_)⟩⟩
          · rw [take1, List.foldl_append, ← hv]; rfl
          · rcases List.mem_or_eq_of_mem_set hx with hx | rfl
            · have := hvb x hx; omega
            · omega
          · rw [take1]
            by_cases e : Int.toNat best = i
            · subst e
              rw [List.getElem?_set_self (by omega)]
              simp; omega
            · rw [List.getElem?_set_ne e, hg i hi]
              simp only [List.mem_append, List.mem_singleton]
              congr 1
              rw [decide_eq_decide]
              constructor
              · exact fun h => .inl h
              · rintro (h | h)
                · exact h
                · omega
        | succ d ih2 =>
          intro i best hd hbest
          have hgi := hg i (by omega)
          have hi : ws[i]? = some ws[i] := List.getElem?_eq_getElem (by omega)
          have ki := kd hi
          have wi := mul_le_of hc (h.w _ (List.mem_of_getElem? hi))
          refine f40W2 c ws left v g best i (rv := splitI c ws) hE ⟨fun _ => ⟨_, hgi, fun hn => ?_, fun hy => ?_⟩, fun h => by omega⟩
          · rw [decide_eq_false_iff_not] at hn
            refine ⟨fun hb0 => ⟨by omega, ih2 (i + 1) _ (by omega) (.inr ⟨by omega, hn, fun p hp hpn => ?_⟩)⟩, fun hb0 => ?_⟩
            · rcases hbest with ⟨-, q⟩ | ⟨q1, -⟩
              · by_cases e : p = i
                · exact .inl (by rw [e])
                · exact absurd (q p (by omega)) hpn
              · omega
            rcases hbest with ⟨q, -⟩ | ⟨q1, q2, q3⟩
            · omega
            have hbb : ws[Int.toNat best]? = some ws[Int.toNat best] := List.getElem?_eq_getElem (by omega)
            have kb := kd hbb
            rw [show ((Int.toNat best : Nat) : Int) = best by omega] at kb
            have wb := mul_le_of hc (h.w _ (List.mem_of_getElem? hbb))
            refine ⟨_, hi, by omega, by omega, by omega, _, hbb, by omega, by omega, fun hgt => ⟨by omega, ih2 (i + 1) _ (by omega) (.inr ⟨by omega, hn, fun p hp hpn => ?_⟩)⟩, fun hgt => ⟨by omega, ih2 (i + 1) _ (by omega) (.inr ⟨by omega, q2, fun p hp hpn => ?_⟩)⟩⟩
            · by_cases e : p = i
              · exact .inl (by rw [e])
              · refine .inr ?_
                rw [← ki, ← kb] at hgt
                rcases q3 p (by omega) hpn with e | e
                · rw [e]; exact .inl hgt
                · rcases e with e | e <;> exact .inl (by omega)
            · by_cases e : p = i
              · refine .inr ?_
                rw [e]
                rw [← ki, ← kb] at hgt
                by_cases e2 : keyI c ws (sumI ws) best = keyI c ws (sumI ws) i
                · exact .inr ⟨e2, by omega⟩
                · exact .inl (by omega)
              · exact q3 p (by omega) hpn
          · rw [decide_eq_true_eq] at hy
            refine ⟨by omega, ih2 (i + 1) best (by omega) ?_⟩
            rcases hbest with ⟨q, q'⟩ | ⟨q1, q2, q3⟩
            · refine .inl ⟨q, fun p hp => ?_⟩
              by_cases e : p = i
              · rw [e]; exact hy
              · exact q' p (by omega)
            · refine .inr ⟨by omega, q2, fun p hp hpn => ?_⟩
              by_cases e : p = i
              · rw [e] at hpn; exact absurd hy hpn
              · exact q3 p (by omega) hpn
      exact scan ws.length 0 (-1) (by omega) (.inl ⟨rfl, fun p hp => by omega⟩)
  -- the shares
  have shares : ∀ (d i : Nat) (left : Int), i + d = ws.length → left = c - ((ws.take i).map (shareI c (sumI ws))).sum → f40G0 E c ws ((ws.take i).map (shareI c (sumI ws)) ++ List.replicate d 0) (List.replicate ws.length false) left i := by
    intro d
    induction d with
    | zero =>
      intro i left hd hl
      have e1 : (ws.take i).map (shareI c (sumI ws)) = baseI c ws := by rw [List.take_of_length_le (by omega)]; rfl
      rw [e1] at hl ⊢
      rw [List.replicate_zero, List.append_nil]
      refine f40W0 c ws _ _ left i (rv := splitI c ws) hE ⟨fun h => by omega, fun _ => ?_⟩
      exact rounds (Int.toNat (c - sumI (baseI c ws))) 0 left _ _ (by omega) (by rw [hl]; simp only [sumI] at *; omega) rfl hbl (fun x hx => by have := bd x hx; omega) (by simp) (fun i hi => by simp [List.getElem?_replicate, hi])
    | succ d ih =>
      intro i left hd hl
      have hi : ws[i]? = some ws[i] := List.getElem?_eq_getElem (by omega)
      have wi := mul_le_of hc (h.w _ (List.mem_of_getElem? hi))
      have si := sb _ (List.mem_of_getElem? hi)
      have h3 := ih (i + 1)
      have l1 : i = ((ws.take i).map (shareI c (sumI ws))).length := by simp; omega
      have g1 : ((ws.take i).map (shareI c (sumI ws)) ++ List.replicate (d + 1) 0)[i]? = some 0 := fill_get _ _ d _ rfl l1
      have tb := sum_bd (B := 1000000000000) (by omega) (l := (ws.take i).map (shareI c (sumI ws))) (fun x hx => by
        obtain ⟨w, hw, rfl⟩ := List.mem_map.1 hx
        exact sb w (List.mem_of_mem_take hw))
      have tl : (((ws.take i).map (shareI c (sumI ws))).length : Int) ≤ 10 := by omega
      have es : ((ws.take (i + 1)).map (shareI c (sumI ws))).sum = ((ws.take i).map (shareI c (sumI ws))).sum + shareI c (sumI ws) ws[i] := by
        rw [List.take_add_one, hi, List.map_append, List.sum_append]; simp
      have si' : shareI c (sumI ws) ws[i] = Int.tdiv (c * ws[i]) (sumI ws) := rfl
      refine f40W0 c ws _ _ left i (rv := splitI c ws) hE ⟨fun _ => ⟨_, hi, by omega, by omega, by omega, _, g1, _, List.getElem?_set_self (by rw [List.length_append, ← l1, List.length_replicate]; omega), by omega, by omega, ?_⟩, fun h => by omega⟩
      rw [fill_set _ _ _ d _ rfl l1]
      have h4 := h3 (left - Int.tdiv (c * ws[i]) (sumI ws)) (by omega) (by rw [es, hl, si']; omega)
      rw [List.take_add_one, hi, List.map_append] at h4
      exact h4
  exact f40W c ws (rv := splitI c ws) hE ⟨sumOk_bd (B := 1000) (by omega) (by omega) (by omega) h.w, by omega, by omega, shares ws.length 0 c (by omega) (by simp)⟩

end Go.Proofs.Ytmdbebbibecidaa

namespace Go.Proofs.Ytmdbebbibecidaa
open Go Ax
open Go.Proofs

theorem bump_len {l : List Int} {e : Int} : (bump l e).length = l.length := by simp [bump]
theorem bumps_len : ∀ {z v : List Int}, (z.foldl bump v).length = v.length
  | [], v => rfl
  | e :: z, v => by rw [List.foldl_cons, bumps_len, bump_len]

theorem splitI_len {c : Int} {ws : List Int} : (splitI c ws).length = ws.length := by rw [splitI, bumps_len]; simp [baseI]

theorem bumps_get : ∀ {z v : List Int} {i : Nat}, (∀ e ∈ z, 0 ≤ e ∧ e < (v.length : Int)) → z.Nodup → (z.foldl bump v).getD i 0 = v.getD i 0 + if (i : Int) ∈ z then 1 else 0
  | [], v, i, _, _ => by simp
  | e :: z, v, i, h, hn => by
    have he := h e (by simp)
    obtain ⟨n1, n2⟩ := List.nodup_cons.1 hn
    rw [List.foldl_cons, bumps_get (fun x hx => by rw [bump_len]; exact h x (by simp [hx])) n2, bump]
    by_cases q : Int.toNat e = i
    · have q2 : (i : Int) = e := by omega
      rw [if_neg (by rw [q2]; exact n1), if_pos (by rw [q2]; simp), q]
      simp [List.getD, show i < v.length by omega]
    · have q2 : ¬ (i : Int) = e := by omega
      have q3 : ((i : Int) ∈ e :: z) = ((i : Int) ∈ z) := by simp [q2]
      simp only [q3]
      congr 1
      simp [List.getD, List.getElem?_set_ne q]

theorem bumps_sum : ∀ {z v : List Int}, (∀ e ∈ z, 0 ≤ e ∧ e < (v.length : Int)) → (z.foldl bump v).sum = v.sum + z.length
  | [], v, _ => by simp
  | e :: z, v, h => by
    have he := h e (by simp)
    rw [List.foldl_cons, bumps_sum (fun x hx => by rw [bump_len]; exact h x (by simp [hx])), bump, sum_set (by omega)]
    simp only [List.length_cons, Int.natCast_add]; omega

theorem fold_sum {f : Int → Int} {lt : Int → Int → Bool} (n : Nat) (l0 : List Int) (h0 : l0.length = n) : ∀ k, k + 1 ≤ n → (((List.range k).foldl (fun l k => sink lt (k + 1) l) l0).map f).sum = (l0.map f).sum ∧ ((List.range k).foldl (fun l k => sink lt (k + 1) l) l0).length = n
  | 0, _ => ⟨rfl, h0⟩
  | k + 1, h => by
    obtain ⟨i1, i2⟩ := fold_sum (f := f) (lt := lt) n l0 h0 k (by omega)
    rw [List.range_succ, List.foldl_append, List.foldl_cons, List.foldl_nil]
    generalize (List.range k).foldl (fun l k => sink lt (k + 1) l) l0 = l at i1 i2
    refine ⟨?_, by rw [sink_len, i2]⟩
    rw [← i1]
    have e : l = l.take (k + 1) ++ l[k + 1] :: l.drop (k + 1 + 1) := by rw [← List.drop_eq_getElem_cons (by omega), List.take_append_drop]
    obtain ⟨S1, S2, q1, q2, -, -⟩ := sink_spec (lt := lt) (S := l.take (k + 1)) (R := l.drop (k + 1 + 1)) (x := l[k + 1]) (d := k + 1) (by rw [List.length_take]; omega)
    rw [← e] at q2
    rw [q2]
    have e2 : (l.map f).sum = ((l.take (k + 1)).map f).sum + (f l[k + 1] + ((l.drop (k + 1 + 1)).map f).sum) := by
      conv => lhs; rw [e]
      simp only [List.map_append, List.map_cons, List.sum_append, List.sum_cons]
    rw [e2, q1]
    simp only [List.map_append, List.map_cons, List.sum_append, List.sum_cons]
    omega

theorem order_sum {c : Int} {ws : List Int} (h : 1 ≤ ws.length) (f : Int → Int) : ((orderI c ws).map f).sum = ((idxL ws.length).map f).sum := by
  have hl : (idxL ws.length).length = ws.length := by simp [idxL]
  have := (fold_sum (f := f) (lt := ltI c ws (sumI ws)) ws.length (idxL ws.length) hl (ws.length - 1) (by omega)).1
  rw [orderI, sortI]
  show (((List.range ((idxL ws.length).length - 1)).foldl _ (idxL ws.length)).map f).sum = _
  rw [hl]; exact this

theorem idx_map {f : Int → Int} {g : Int → Int} : ∀ (ws : List Int) (n : Nat), (∀ i : Nat, n + i < n + ws.length → f ((n + i : Nat) : Int) = g (ws.getD i 0)) → (((List.range' n ws.length).map fun i : Nat => (i : Int)).map f).sum = (ws.map g).sum
  | [], n, h => by simp
  | w :: ws, n, h => by
    have h0 := h 0 (by simp)
    have := idx_map (f := f) (g := g) ws (n + 1) (fun i hi => by
      have := h (i + 1) (by simp only [List.length_cons]; omega)
      rw [show n + 1 + i = n + (i + 1) by omega]; simpa using this)
    rw [List.length_cons, List.range'_succ]
    simp only [List.map_cons, List.sum_cons]
    rw [this]
    simp only [Nat.add_zero, List.getD_cons_zero] at h0
    rw [h0]

/-- What the parts are. -/
structure Parts (c : Int) (ws : List Int) (p : List Int) : Prop where
  len : p.length = ws.length
  sum : p.sum = c
  low : ∀ (i : Nat) (w x : Int), ws[i]? = some w → p[i]? = some x → x = shareI c (sumI ws) w ∨ (x = shareI c (sumI ws) w + 1 ∧ Int.tmod (c * w) (sumI ws) ≠ 0)
  same : ∀ (k i : Nat) (w x y : Int), k < i → ws[k]? = some w → ws[i]? = some w → p[k]? = some x → p[i]? = some y → y ≤ x ∧ x ≤ y + 1

theorem tmod_bd {c S w : Int} (hS : 0 < S) (hc : 0 ≤ c) (hw : 0 ≤ w) : c * w = S * shareI c S w + Int.tmod (c * w) S ∧ 0 ≤ Int.tmod (c * w) S ∧ Int.tmod (c * w) S < S := by
  have h0 : 0 ≤ c * w := Int.mul_nonneg hc hw
  have h1 := Int.mul_tdiv_add_tmod (c * w) S
  exact ⟨by rw [shareI]; exact h1.symm, Int.tmod_nonneg _ h0, Int.tmod_lt_of_pos _ hS⟩

theorem rem_sum {c S : Int} (hS : 0 < S) (hc : 0 ≤ c) : ∀ {l : List Int}, (∀ w ∈ l, 0 ≤ w) → S * (l.map (shareI c S)).sum + (l.map fun w => Int.tmod (c * w) S).sum = c * l.sum
  | [], _ => by simp
  | w :: l, h => by
    obtain ⟨h1, -, -⟩ := tmod_bd hS hc (h w (by simp))
    have h3 := rem_sum hS hc (l := l) (fun y hy => h y (by simp [hy]))
    simp only [List.map_cons, List.sum_cons, Int.mul_add]
    omega

theorem sum_le_of {f : Int → Int} {B : Int} : ∀ {l : List Int}, (∀ x ∈ l, f x ≤ B) → (l.map f).sum ≤ B * (l.length : Int)
  | [], _ => by simp
  | x :: l, h => by
    have h1 := h x (by simp)
    have h2 := sum_le_of (f := f) (B := B) (l := l) fun y hy => h y (by simp [hy])
    simp only [List.map_cons, List.sum_cons, List.length_cons, Int.natCast_add, Int.mul_add]; omega

theorem parts_of {c : Int} {ws : List Int} (h : SplitOk c ws) : Parts c ws (splitI c ws) := by
  have hS := h.pos
  have hb := base_left h
  obtain ⟨ol, om, op⟩ := order_spec (c := c) h.len1
  have hbl : (baseI c ws).length = ws.length := by simp [baseI]
  generalize hL : Int.toNat (c - sumI (baseI c ws)) = L
  have hLn : L ≤ ws.length := by omega
  have hZ : ∀ e ∈ (orderI c ws).take L, 0 ≤ e ∧ e < ((baseI c ws).length : Int) := fun e he => by
    rw [hbl]; exact (om e).1 (List.mem_of_mem_take he)
  have nd : (orderI c ws).Nodup := op.imp fun hp => fun e => by subst e; exact prec_asymm hp hp
  have ndZ : ((orderI c ws).take L).Nodup := nd.sublist (List.take_sublist ..)
  have hs : splitI c ws = ((orderI c ws).take L).foldl bump (baseI c ws) := by rw [splitI, hL]
  have hg : ∀ i w, ws[i]? = some w → (baseI c ws).getD i 0 = shareI c (sumI ws) w := fun i w hw => by simp [baseI, List.getD, List.getElem?_map, hw]
  have kd : ∀ {i : Nat} {w : Int}, ws[i]? = some w → keyI c ws (sumI ws) i = Int.tmod (c * w) (sumI ws) := fun {i w} hw => by simp [keyI, List.getD, hw]
  have val : ∀ (i : Nat) (w x : Int), ws[i]? = some w → (splitI c ws)[i]? = some x → x = shareI c (sumI ws) w + if (i : Int) ∈ (orderI c ws).take L then 1 else 0 := fun i w x hw hx => by
    have : (splitI c ws).getD i 0 = x := by simp [List.getD, hx]
    rw [← this, hs, bumps_get hZ ndZ, hg i w hw]
  have lS : (sumI ws) * (L : Int) = ((orderI c ws).map (keyI c ws (sumI ws))).sum := by
    rw [order_sum h.len1]
    have e1 : ((idxL ws.length).map (keyI c ws (sumI ws))).sum = (ws.map fun w => Int.tmod (c * w) (sumI ws)).sum := by
      have := idx_map (f := keyI c ws (sumI ws)) (g := fun w => Int.tmod (c * w) (sumI ws)) ws 0 (fun i hi => by
        have hi : ws[i]? = some ws[i] := List.getElem?_eq_getElem (by omega)
        rw [Nat.zero_add, kd hi]; simp [List.getD, hi])
      rw [← this, idxL, List.range_eq_range']
    have e2 := rem_sum hS h.c0 (l := ws) (fun w hw => (h.w w hw).1)
    rw [e1]
    have e3 : (L : Int) = c - (baseI c ws).sum := by rw [← hL]; simp only [sumI] at *; omega
    rw [e3, Int.mul_sub]
    have e4 : sumI ws * c = c * ws.sum := by rw [Int.mul_comm]; rfl
    simp only [baseI]
    omega
  have pos : ∀ (i : Nat) (w : Int), ws[i]? = some w → (i : Int) ∈ (orderI c ws).take L → Int.tmod (c * w) (sumI ws) ≠ 0 := by
    intro i w hw hi h0
    rw [← kd hw] at h0
    obtain ⟨A, B, hAB⟩ := List.append_of_mem hi
    have ho : orderI c ws = A ++ (i : Int) :: (B ++ (orderI c ws).drop L) := by
      conv => lhs; rw [← List.take_append_drop L (orderI c ws), hAB]
      simp
    have hAL : A.length + 1 ≤ L := by
      have : (A ++ (i : Int) :: B).length ≤ L := by rw [← hAB, List.length_take]; omega
      simp at this; omega
    rw [ho] at lS op
    have knn : ∀ x ∈ orderI c ws, 0 ≤ keyI c ws (sumI ws) x ∧ keyI c ws (sumI ws) x ≤ sumI ws - 1 := fun x hx => by
      have hx := (om x).1 hx
      have hj : ws[Int.toNat x]? = some ws[Int.toNat x] := List.getElem?_eq_getElem (by omega)
      have k1 := kd hj
      rw [show ((Int.toNat x : Nat) : Int) = x by omega] at k1
      have := tmod_bd hS h.c0 (h.w _ (List.mem_of_getElem? hj)).1
      rw [k1]; omega
    have s1 : (A.map (keyI c ws (sumI ws))).sum ≤ (sumI ws - 1) * (A.length : Int) := sum_le_of fun x hx => (knn x (by rw [ho]; simp [hx])).2
    rw [List.pairwise_append, List.pairwise_cons] at op
    have s2 : ((B ++ (orderI c ws).drop L).map (keyI c ws (sumI ws))).sum ≤ 0 * ((B ++ (orderI c ws).drop L).length : Int) := sum_le_of fun x hx => by
      have := op.2.1.1 x hx
      rcases this with h1 | h1
      · omega
      · omega
    simp only [List.map_append, List.map_cons, List.sum_append, List.sum_cons] at lS s2
    have s3 : (sumI ws - 1) * (A.length : Int) ≤ sumI ws * (A.length : Int) := Int.mul_le_mul_of_nonneg_right (by omega) (by omega)
    have s4 : sumI ws * ((A.length : Int) + 1) ≤ sumI ws * (L : Int) := Int.mul_le_mul_of_nonneg_left (by omega) (by omega)
    rw [Int.mul_add] at s4
    omega
  refine ⟨splitI_len, ?_, fun i w x hw hx => ?_, fun k i w x y hki hk hi hx hy => ?_⟩
  · rw [hs, bumps_sum hZ, List.length_take, ol]
    simp only [sumI] at *; omega
  · have v := val i w x hw hx
    by_cases q : (i : Int) ∈ (orderI c ws).take L
    · rw [if_pos q] at v; exact .inr ⟨v, pos i w hw q⟩
    · rw [if_neg q] at v; exact .inl (by omega)
  · have v1 := val k w x hk hx
    have v2 := val i w y hi hy
    have imp : (i : Int) ∈ (orderI c ws).take L → (k : Int) ∈ (orderI c ws).take L := fun q => by
      apply Classical.byContradiction; intro nk
      have hk' := (om (k : Int)).2 ⟨by omega, by have := (List.getElem?_eq_some_iff.1 hk).1; omega⟩
      rw [← List.take_append_drop L (orderI c ws)] at hk' op
      rw [List.pairwise_append] at op
      rcases List.mem_append.1 hk' with h1 | h1
      · exact nk h1
      · have := op.2.2 _ q _ h1
        rcases this with h2 | h2
        · rw [kd hk, kd hi] at h2; omega
        · omega
    by_cases q : (i : Int) ∈ (orderI c ws).take L
    · rw [if_pos q] at v2; rw [if_pos (imp q)] at v1; omega
    · rw [if_neg q] at v2
      split at v1 <;> omega

end Go.Proofs.Ytmdbebbibecidaa

namespace Go.Proofs.Ytmdbebbibecidaa
open Go Ax
open Go.Proofs

theorem f28b : Try.f28.body = some (bodyAt Try.prog 28) := by kernel_rfl
def f28K0 (P : Program) : List Item := kAt 400 [.code (bodyAt P 28)] [.b false, .b false, .b false, .stop]
def f28S0 (ns : (List Int)) (ws : (List Int)) (v0 : List Int) (i : Nat) (g0 : Nat) : St := ⟨[.rsl (rowI ns) 0 ns.length, .rsl (rowI ws) 0 ws.length, .junk, .junk, .sl 0 g0 0 v0.length 1, .int .i64 0, .junk, .junk, .junk, .junk, .junk, .junk, .junk, .junk, .junk, .junk, .junk, .junk, .junk, .junk, .junk, .junk, .junk, .junk, .junk, .junk, .junk, .junk, .junk, .junk, .junk, .rsl (rowI ns) 0 ns.length, .int .i64 ((ns.length : Nat) : Int), .int .i64 ((i : Nat) : Int), .junk, .junk, .junk, .junk, .junk, .junk, .junk, .junk, .junk, .junk, .junk, .junk, .junk, .junk, .junk, .junk, .junk, .junk, .junk, .junk, .junk, .junk, .junk, .junk, .junk, .junk, .junk, .junk, .junk, .junk, .junk, .junk, .junk, .junk, .junk, .junk, .junk, .junk, .junk, .junk, .junk, .junk, .junk, .junk, .junk, .junk, .junk, .junk], [⟨true, g0, 1, true, (rowI v0), true⟩]⟩
def f28G0 (E : Env) (ns : (List Int)) (ws : (List Int)) (v0 : List Int) (i : Nat) : Prop := ∀ g0 : Nat, G Try.prog E (f28K0 Try.prog) (f28S0 ns ws v0 i g0)
def f28K1 (P : Program) : List Item := kAt 400 [.code (bodyAt P 28)] [.b false, .b false, .b false, .b true, .stop]
def f28S1 (ns : (List Int)) (ws : (List Int)) (k : (List Int)) (k1 : Nat) (v0 : List Int) (k11 : Nat) (k111 : Nat) (g0 : Nat) : St := ⟨[.rsl (rowI ns) 0 ns.length, .rsl (rowI ws) 0 ws.length, .junk, .junk, .sl 0 g0 0 v0.length 1, .int .i64 0, .junk, .junk, .junk, .junk, .junk, .junk, .junk, .junk, .junk, .junk, .junk, .junk, .junk, .junk, .junk, .junk, .junk, .junk, .junk, .junk, .junk, .junk, .junk, .junk, .junk, .rsl (rowI ns) 0 ns.length, .int .i64 ((ns.length : Nat) : Int), .int .i64 ((k111 : Nat) : Int), .junk, .junk, .junk, .junk, .junk, .rsl (rowI k) 0 k.length, .int .i64 ((k1 : Nat) : Int), .int .i64 ((k11 : Nat) : Int), .junk, .junk, .junk, .junk, .junk, .junk, .junk, .junk, .junk, .junk, .junk, .junk, .junk, .junk, .junk, .junk, .junk, .junk, .junk, .junk, .junk, .junk, .junk, .junk, .junk, .junk, .junk, .junk, .junk, .junk, .junk, .junk, .junk, .junk, .junk, .junk, .junk, .junk, .junk, .junk], [⟨true, g0, 1, true, (rowI v0), true⟩]⟩
def f28G1 (E : Env) (ns : (List Int)) (ws : (List Int)) (k : (List Int)) (k1 : Nat) (v0 : List Int) (k11 : Nat) (k111 : Nat) : Prop := ∀ g0 : Nat, G Try.prog E (f28K1 Try.prog) (f28S1 ns ws k k1 v0 k11 k111 g0)
def f28K2 (P : Program) : List Item := kAt 400 [.code (bodyAt P 28)] [.b false, .b false, .b false, .b false, .stop]
def f28S2 (ns : (List Int)) (ws : (List Int)) (v0 : List Int) (off : Int) (j : Nat) (g0 : Nat) : St := ⟨[.junk, .junk, .junk, .junk, .sl 0 g0 0 v0.length 1, .int .i64 off, .junk, .junk, .junk, .junk, .junk, .junk, .junk, .junk, .junk, .junk, .junk, .junk, .junk, .junk, .junk, .junk, .junk, .junk, .junk, .junk, .junk, .junk, .junk, .junk, .junk, .junk, .junk, .junk, .junk, .junk, .junk, .junk, .junk, .junk, .junk, .junk, .junk, .junk, .junk, .junk, .junk, .junk, .junk, .junk, .junk, .junk, .junk, .junk, .junk, .junk, .junk, .junk, .rsl (rowI (splitI (sumI ns) ws)) 0 ((splitI (sumI ns) ws).length), .int .i64 (((splitI (sumI ns) ws).length : Nat) : Int), .int .i64 ((j : Nat) : Int), .junk, .junk, .junk, .junk, .junk, .junk, .junk, .junk, .junk, .junk, .junk, .junk, .junk, .junk, .junk, .junk, .junk, .junk, .junk, .junk, .junk], [⟨true, g0, 1, true, (rowI v0), true⟩]⟩
def f28G2 (E : Env) (ns : (List Int)) (ws : (List Int)) (v0 : List Int) (off : Int) (j : Nat) : Prop := ∀ g0 : Nat, G Try.prog E (f28K2 Try.prog) (f28S2 ns ws v0 off j g0)
theorem p28_start_0 (ns : (List Int)) (ws : (List Int))   {E : Env} {res : AV} (hE : PureE Try.prog 28 res E) (o0 : (decide (((ns.length : Nat) : Int) > 60)) = true)
    (hr : AvLe (.tup [.nilSl, .int .i64 0, .int .i64 2]) res) : G Try.prog E [.code (bodyAt Try.prog 28)] ⟨[.rsl (rowI ns) 0 ns.length, .rsl (rowI ws) 0 ws.length] ++ unds (Try.f28.ntmps - 2), []⟩ :=
  end_stepL (n := 400) (evs := [.b true]) (obs := [(decide (((ns.length : Nat) : Int) > 60)) = true]) hE Try.func28 mixed (by kernel_rfl) ⟨o0, trivial⟩ hr
theorem p28_start_1 (ns : (List Int)) (ws : (List Int))   {E : Env} {res : AV} (hE : PureE Try.prog 28 res E) (o0 : (decide (((ns.length : Nat) : Int) > 60)) = false) (o1 : PureF Try.prog (.clos 42 [] []) [.rsl (rowI ns) 0 ns.length] (.bool (!ns.any (fun x => !amount x)))) (o2 : (!(!ns.any (fun x => !amount x))) = true)
    (hr : AvLe (.tup [.nilSl, .int .i64 0, .int .i64 1]) res) : G Try.prog E [.code (bodyAt Try.prog 28)] ⟨[.rsl (rowI ns) 0 ns.length, .rsl (rowI ws) 0 ws.length] ++ unds (Try.f28.ntmps - 2), []⟩ :=
  end_stepL (n := 400) (evs := [.b false, .v (.bool (!ns.any (fun x => !amount x))), .b true, .b true]) (obs := [(decide (((ns.length : Nat) : Int) > 60)) = false, PureF Try.prog (.clos 42 [] []) [.rsl (rowI ns) 0 ns.length] (.bool (!ns.any (fun x => !amount x))), (!(!ns.any (fun x => !amount x))) = true, true = true]) hE Try.func28 mixed (by kernel_rfl) ⟨o0, o1, o2, (rfl), trivial⟩ hr
theorem p28_start_2 (ns : (List Int)) (ws : (List Int))   {E : Env} {res : AV} (hE : PureE Try.prog 28 res E) (o0 : (decide (((ns.length : Nat) : Int) > 60)) = false) (o1 : PureF Try.prog (.clos 42 [] []) [.rsl (rowI ns) 0 ns.length] (.bool (!ns.any (fun x => !amount x)))) (o2 : (!(!ns.any (fun x => !amount x))) = false) (o3 : PureF Try.prog (.clos 50 [] []) [.rsl (rowI ns) 0 ns.length] (.int .i64 (sumI ns))) (o4 : PureF Try.prog (.clos 41 [] []) [.int .i64 (sumI ns)] (.bool (amount (sumI ns)))) (o5 : (!(amount (sumI ns))) = true)
    (hr : AvLe (.tup [.nilSl, .int .i64 0, .int .i64 1]) res) : G Try.prog E [.code (bodyAt Try.prog 28)] ⟨[.rsl (rowI ns) 0 ns.length, .rsl (rowI ws) 0 ws.length] ++ unds (Try.f28.ntmps - 2), []⟩ :=
  end_stepL (n := 400) (evs := [.b false, .v (.bool (!ns.any (fun x => !amount x))), .b false, .v (.int .i64 (sumI ns)), .v (.bool (amount (sumI ns))), .b true]) (obs := [(decide (((ns.length : Nat) : Int) > 60)) = false, PureF Try.prog (.clos 42 [] []) [.rsl (rowI ns) 0 ns.length] (.bool (!ns.any (fun x => !amount x))), (!(!ns.any (fun x => !amount x))) = false, PureF Try.prog (.clos 50 [] []) [.rsl (rowI ns) 0 ns.length] (.int .i64 (sumI ns)), PureF Try.prog (.clos 41 [] []) [.int .i64 (sumI ns)] (.bool (amount (sumI ns))), (!(amount (sumI ns))) = true]) hE Try.func28 mixed (by kernel_rfl) ⟨o0, o1, o2, o3, o4, o5, trivial⟩ hr
theorem p28_start_3 (ns : (List Int)) (ws : (List Int))   {E : Env} {res : AV} (hE : PureE Try.prog 28 res E) (o0 : (decide (((ns.length : Nat) : Int) > 60)) = false) (o1 : PureF Try.prog (.clos 42 [] []) [.rsl (rowI ns) 0 ns.length] (.bool (!ns.any (fun x => !amount x)))) (o2 : (!(!ns.any (fun x => !amount x))) = false) (o3 : PureF Try.prog (.clos 50 [] []) [.rsl (rowI ns) 0 ns.length] (.int .i64 (sumI ns))) (o4 : PureF Try.prog (.clos 41 [] []) [.int .i64 (sumI ns)] (.bool (amount (sumI ns)))) (o5 : (!(amount (sumI ns))) = false) (o6 : PureF Try.prog (.clos 43 [] []) [.rsl (rowI ws) 0 ws.length] (.bool (weightedB ws))) (o7 : (!(weightedB ws)) = true)
    (hr : AvLe (.tup [.nilSl, .int .i64 0, .int .i64 110]) res) : G Try.prog E [.code (bodyAt Try.prog 28)] ⟨[.rsl (rowI ns) 0 ns.length, .rsl (rowI ws) 0 ws.length] ++ unds (Try.f28.ntmps - 2), []⟩ :=
  end_stepL (n := 400) (evs := [.b false, .v (.bool (!ns.any (fun x => !amount x))), .b false, .v (.int .i64 (sumI ns)), .v (.bool (amount (sumI ns))), .b false, .v (.bool (weightedB ws)), .b true]) (obs := [(decide (((ns.length : Nat) : Int) > 60)) = false, PureF Try.prog (.clos 42 [] []) [.rsl (rowI ns) 0 ns.length] (.bool (!ns.any (fun x => !amount x))), (!(!ns.any (fun x => !amount x))) = false, PureF Try.prog (.clos 50 [] []) [.rsl (rowI ns) 0 ns.length] (.int .i64 (sumI ns)), PureF Try.prog (.clos 41 [] []) [.int .i64 (sumI ns)] (.bool (amount (sumI ns))), (!(amount (sumI ns))) = false, PureF Try.prog (.clos 43 [] []) [.rsl (rowI ws) 0 ws.length] (.bool (weightedB ws)), (!(weightedB ws)) = true]) hE Try.func28 mixed (by kernel_rfl) ⟨o0, o1, o2, o3, o4, o5, o6, o7, trivial⟩ hr
theorem p28_start_4 (ns : (List Int)) (ws : (List Int))   {E : Env} {rv : AV} (hE : PureE Try.prog 28 rv E) (o0 : (decide (((ns.length : Nat) : Int) > 60)) = false) (o1 : PureF Try.prog (.clos 42 [] []) [.rsl (rowI ns) 0 ns.length] (.bool (!ns.any (fun x => !amount x)))) (o2 : (!(!ns.any (fun x => !amount x))) = false) (o3 : PureF Try.prog (.clos 50 [] []) [.rsl (rowI ns) 0 ns.length] (.int .i64 (sumI ns))) (o4 : PureF Try.prog (.clos 41 [] []) [.int .i64 (sumI ns)] (.bool (amount (sumI ns)))) (o5 : (!(amount (sumI ns))) = false) (o6 : PureF Try.prog (.clos 43 [] []) [.rsl (rowI ws) 0 ws.length] (.bool (weightedB ws))) (o7 : (!(weightedB ws)) = false) (o8 : 0 ≤ ((ws.length : Nat) : Int) ∧ ((ws.length : Nat) : Int) ≤ ((ws.length : Nat) : Int) ∧ ((ws.length : Nat) : Int) ≤ 2147483648)
    (hg : G Try.prog E (f28K0 Try.prog) ⟨[.rsl (rowI ns) 0 ns.length, .rsl (rowI ws) 0 ws.length, .junk, .junk, .sl 0 0 0 (Int.toNat ((ws.length : Nat) : Int)) 1, .int .i64 0, .junk, .junk, .junk, .junk, .junk, .junk, .junk, .junk, .junk, .junk, .junk, .junk, .junk, .junk, .junk, .junk, .junk, .junk, .junk, .junk, .junk, .junk, .junk, .junk, .junk, .rsl (rowI ns) 0 ns.length, .int .i64 ((ns.length : Nat) : Int), .int .i64 0, .junk, .junk, .junk, .junk, .junk, .junk, .junk, .junk, .junk, .junk, .junk, .junk, .junk, .junk, .junk, .junk, .junk, .junk, .junk, .junk, .junk, .junk, .junk, .junk, .junk, .junk, .junk, .junk, .junk, .junk, .junk, .junk, .junk, .junk, .junk, .junk, .junk, .junk, .junk, .junk, .junk, .junk, .junk, .junk, .junk, .junk, .junk, .junk], [⟨true, 0, 1, true, ((List.replicate (Int.toNat ((ws.length : Nat) : Int)) ([.int .i64 0] : List AV)).flatten), true⟩]⟩) : G Try.prog E [.code (bodyAt Try.prog 28)] ⟨[.rsl (rowI ns) 0 ns.length, .rsl (rowI ws) 0 ws.length] ++ unds (Try.f28.ntmps - 2), []⟩ :=
  segC_step (n := 400) (ds := []) (cs := []) (live := [0, 1, 4, 5, 31, 32, 33]) (m := 1) (evs := [.b false, .v (.bool (!ns.any (fun x => !amount x))), .b false, .v (.int .i64 (sumI ns)), .v (.bool (amount (sumI ns))), .b false, .v (.bool (weightedB ws)), .b false, .stop]) (obs := [(decide (((ns.length : Nat) : Int) > 60)) = false, PureF Try.prog (.clos 42 [] []) [.rsl (rowI ns) 0 ns.length] (.bool (!ns.any (fun x => !amount x))), (!(!ns.any (fun x => !amount x))) = false, PureF Try.prog (.clos 50 [] []) [.rsl (rowI ns) 0 ns.length] (.int .i64 (sumI ns)), PureF Try.prog (.clos 41 [] []) [.int .i64 (sumI ns)] (.bool (amount (sumI ns))), (!(amount (sumI ns))) = false, PureF Try.prog (.clos 43 [] []) [.rsl (rowI ws) 0 ws.length] (.bool (weightedB ws)), (!(weightedB ws)) = false, 0 ≤ ((ws.length : Nat) : Int) ∧ ((ws.length : Nat) : Int) ≤ ((ws.length : Nat) : Int) ∧ ((ws.length : Nat) : Int) ≤ 2147483648]) hE.2.1 (hE.nogh _) mixed (by kernel_rfl) ⟨o0, o1, o2, o3, o4, o5, o6, o7, o8, trivial⟩ hg
theorem f28W (ns : (List Int)) (ws : (List Int)) {E : Env} {rv : ((List Int) × Int × Int)} (hE : PureE Try.prog 28 (.tup [.rsl (rowI rv.1) 0 rv.1.length, .int .i64 rv.2.1, .int .i64 rv.2.2]) E)
    (h : ((((ns.length : Nat) : Int) > 60 → rv = (([] : List Int), 0, 2)) ∧ (¬ (((ns.length : Nat) : Int) > 60) → ((ns.length ≤ 9223372036854775807) ∧ (((!ns.any (fun x => !amount x)) = false → rv = (([] : List Int), 0, 1)) ∧ ((!ns.any (fun x => !amount x)) = true → ((SumOk ns) ∧ (((amount (sumI ns)) = false → rv = (([] : List Int), 0, 1)) ∧ ((amount (sumI ns)) = true → ((ws.length ≤ 9223372036854775807) ∧ (((weightedB ws) = false → rv = (([] : List Int), 0, 110)) ∧ ((weightedB ws) = true → (ws.length ≤ 2147483648 ∧ f28G0 E ns ws (List.replicate ws.length (0 : Int)) 0))))))))))))) : G Try.prog E [.code (bodyAt Try.prog 28)] ⟨[.rsl (rowI ns) 0 ns.length, .rsl (rowI ws) 0 ws.length] ++ unds (Try.f28.ntmps - 2), []⟩ := by
  rcases Bool.eq_false_or_eq_true (decide (((ns.length : Nat) : Int) > 60)) with hc0 | hc0
  · have h := h.1 (of_decide_eq_true hc0)
    exact p28_start_0 ns ws    hE hc0 (by rw [h]; exact (tup_le ⟨nil_le, ⟨AvLe.of_eq rfl, ⟨AvLe.of_eq rfl, trivial⟩⟩⟩))
  · have h := h.2 (of_decide_eq_false hc0)
    obtain ⟨h1, h⟩ := h
    rcases Bool.eq_false_or_eq_true (!(!ns.any (fun x => !amount x))) with hc1 | hc1
    · have h := h.1 (bnT hc1)
      exact p28_start_1 ns ws    hE hc0 (pureF_of Try.func42 (by kernel_rfl) f42b (amounts_ok ns h1)) hc1 (by rw [h]; exact (tup_le ⟨nil_le, ⟨AvLe.of_eq rfl, ⟨AvLe.of_eq rfl, trivial⟩⟩⟩))
    · have h := h.2 (bnF hc1)
      obtain ⟨h2, h⟩ := h
      rcases Bool.eq_false_or_eq_true (!(amount (sumI ns))) with hc2 | hc2
      · have h := h.1 (bnT hc2)
        exact p28_start_2 ns ws    hE hc0 (pureF_of Try.func42 (by kernel_rfl) f42b (amounts_ok ns h1)) hc1 (pureF_of Try.func50 (by kernel_rfl) f50b (sum_ok ns h2)) (pureF_of Try.func41 (by kernel_rfl) f41b (amount_ok (sumI ns))) hc2 (by rw [h]; exact (tup_le ⟨nil_le, ⟨AvLe.of_eq rfl, ⟨AvLe.of_eq rfl, trivial⟩⟩⟩))
      · have h := h.2 (bnF hc2)
        obtain ⟨h3, h⟩ := h
        rcases Bool.eq_false_or_eq_true (!(weightedB ws)) with hc3 | hc3
        · have h := h.1 (bnT hc3)
          exact p28_start_3 ns ws    hE hc0 (pureF_of Try.func42 (by kernel_rfl) f42b (amounts_ok ns h1)) hc1 (pureF_of Try.func50 (by kernel_rfl) f50b (sum_ok ns h2)) (pureF_of Try.func41 (by kernel_rfl) f41b (amount_ok (sumI ns))) hc2 (pureF_of Try.func43 (by kernel_rfl) f43b (weighted_ok ws h3)) hc3 (by rw [h]; exact (tup_le ⟨nil_le, ⟨AvLe.of_eq rfl, ⟨AvLe.of_eq rfl, trivial⟩⟩⟩))
        · have h := h.2 (bnF hc3)
          obtain ⟨h4, h⟩ := h
          refine p28_start_4 ns ws    hE hc0 (pureF_of Try.func42 (by kernel_rfl) f42b (amounts_ok ns h1)) hc1 (pureF_of Try.func50 (by kernel_rfl) f50b (sum_ok ns h2)) (pureF_of Try.func41 (by kernel_rfl) f41b (amount_ok (sumI ns))) hc2 (pureF_of Try.func43 (by kernel_rfl) f43b (weighted_ok ws h3)) hc3 ⟨by omega, by omega, by have := h4; omega⟩ ?_
          have h := (h 0)
          simp only [f28G0, f28S0, List.length_set, List.length_replicate] at h
          rw [(show (List.replicate (Int.toNat ((ws.length : Nat) : Int)) ([.int .i64 0] : List AV)).flatten = rowI (List.replicate ws.length (0 : Int)) from row_rep cI _ _)]
          exact h
theorem p28_0_0 (ns : (List Int)) (ws : (List Int)) (v0 : List Int) (i : Nat) (g0 : Nat) (e : Int)  {E : Env} {rv : AV} (hE : PureE Try.prog 28 rv E) (o0 : (decide (((i : Nat) : Int) < ((ns.length : Nat) : Int))) = true) (o2 : 0 ≤ ((i : Nat) : Int) ∧ ((i : Nat) : Int) < ((ns.length : Nat) : Int)) (o3 : ((rowI ns).drop (0 + (Int.toNat ((i : Nat) : Int)) * 1)).take 1 = [.int .i64 e]) (o4 : PureF Try.prog (.clos 44 [] []) [.int .i64 e, .rsl (rowI ws) 0 ws.length] (.rsl (rowI (splitI e ws)) 0 ((splitI e ws).length)))
    (hg : G Try.prog E (f28K1 Try.prog) ⟨[.rsl (rowI ns) 0 ns.length, .rsl (rowI ws) 0 ws.length, .junk, .junk, .sl 0 g0 0 v0.length 1, .int .i64 0, .junk, .junk, .junk, .junk, .junk, .junk, .junk, .junk, .junk, .junk, .junk, .junk, .junk, .junk, .junk, .junk, .junk, .junk, .junk, .junk, .junk, .junk, .junk, .junk, .junk, .rsl (rowI ns) 0 ns.length, .int .i64 ((ns.length : Nat) : Int), .int .i64 ((i : Nat) : Int), .junk, .junk, .junk, .junk, .junk, .rsl (rowI (splitI e ws)) 0 ((splitI e ws).length), .int .i64 (((splitI e ws).length : Nat) : Int), .int .i64 0, .junk, .junk, .junk, .junk, .junk, .junk, .junk, .junk, .junk, .junk, .junk, .junk, .junk, .junk, .junk, .junk, .junk, .junk, .junk, .junk, .junk, .junk, .junk, .junk, .junk, .junk, .junk, .junk, .junk, .junk, .junk, .junk, .junk, .junk, .junk, .junk, .junk, .junk, .junk, .junk], [⟨true, g0, 1, true, (rowI v0), true⟩]⟩) : G Try.prog E (f28K0 Try.prog) (f28S0 ns ws v0 i g0) :=
  segC_step (n := 400) (ds := []) (cs := []) (live := [0, 1, 4, 5, 31, 32, 33, 39, 40, 41]) (m := 1) (evs := [.b true, .ld (.int .i64 e), .v (.rsl (rowI (splitI e ws)) 0 ((splitI e ws).length)), .stop]) (obs := [(decide (((i : Nat) : Int) < ((ns.length : Nat) : Int))) = true, 0 ≤ ((i : Nat) : Int) ∧ ((i : Nat) : Int) < ((ns.length : Nat) : Int), ((rowI ns).drop (0 + (Int.toNat ((i : Nat) : Int)) * 1)).take 1 = [.int .i64 e], PureF Try.prog (.clos 44 [] []) [.int .i64 e, .rsl (rowI ws) 0 ws.length] (.rsl (rowI (splitI e ws)) 0 ((splitI e ws).length))]) hE.2.1 (hE.nogh _) mixed (by kernel_rfl) ⟨o0, o2, o3, o4, trivial⟩ hg
theorem p28_0_1 (ns : (List Int)) (ws : (List Int)) (v0 : List Int) (i : Nat) (g0 : Nat)  {E : Env} {rv : AV} (hE : PureE Try.prog 28 rv E) (o0 : (decide (((i : Nat) : Int) < ((ns.length : Nat) : Int))) = false) (o1 : PureF Try.prog (.clos 50 [] []) [.rsl (rowI ns) 0 ns.length] (.int .i64 (sumI ns))) (o2 : PureF Try.prog (.clos 44 [] []) [.int .i64 (sumI ns), .rsl (rowI ws) 0 ws.length] (.rsl (rowI (splitI (sumI ns) ws)) 0 ((splitI (sumI ns) ws).length)))
    (hg : G Try.prog E (f28K2 Try.prog) ⟨[.junk, .junk, .junk, .junk, .sl 0 g0 0 v0.length 1, .int .i64 0, .junk, .junk, .junk, .junk, .junk, .junk, .junk, .junk, .junk, .junk, .junk, .junk, .junk, .junk, .junk, .junk, .junk, .junk, .junk, .junk, .junk, .junk, .junk, .junk, .junk, .junk, .junk, .junk, .junk, .junk, .junk, .junk, .junk, .junk, .junk, .junk, .junk, .junk, .junk, .junk, .junk, .junk, .junk, .junk, .junk, .junk, .junk, .junk, .junk, .junk, .junk, .junk, .rsl (rowI (splitI (sumI ns) ws)) 0 ((splitI (sumI ns) ws).length), .int .i64 (((splitI (sumI ns) ws).length : Nat) : Int), .int .i64 0, .junk, .junk, .junk, .junk, .junk, .junk, .junk, .junk, .junk, .junk, .junk, .junk, .junk, .junk, .junk, .junk, .junk, .junk, .junk, .junk, .junk], [⟨true, g0, 1, true, (rowI v0), true⟩]⟩) : G Try.prog E (f28K0 Try.prog) (f28S0 ns ws v0 i g0) :=
  segC_step (n := 400) (ds := []) (cs := []) (live := [4, 5, 58, 59, 60]) (m := 1) (evs := [.b false, .v (.int .i64 (sumI ns)), .v (.rsl (rowI (splitI (sumI ns) ws)) 0 ((splitI (sumI ns) ws).length)), .stop]) (obs := [(decide (((i : Nat) : Int) < ((ns.length : Nat) : Int))) = false, PureF Try.prog (.clos 50 [] []) [.rsl (rowI ns) 0 ns.length] (.int .i64 (sumI ns)), PureF Try.prog (.clos 44 [] []) [.int .i64 (sumI ns), .rsl (rowI ws) 0 ws.length] (.rsl (rowI (splitI (sumI ns) ws)) 0 ((splitI (sumI ns) ws).length))]) hE.2.1 (hE.nogh _) mixed (by kernel_rfl) ⟨o0, o1, o2, trivial⟩ hg
theorem f28W0 (ns : (List Int)) (ws : (List Int)) (v0 : List Int) (i : Nat) {E : Env} {rv : ((List Int) × Int × Int)} (hE : PureE Try.prog 28 (.tup [.rsl (rowI rv.1) 0 rv.1.length, .int .i64 rv.2.1, .int .i64 rv.2.2]) E)
    (h : ((((i : Nat) : Int) < ((ns.length : Nat) : Int) → (∃ e : Int, ns[i]? = some e ∧ ((SplitOk e ws) ∧ f28G1 E ns ws (splitI e ws) ((splitI e ws).length) v0 0 i))) ∧ (¬ (((i : Nat) : Int) < ((ns.length : Nat) : Int)) → ((SumOk ns) ∧ ((SplitOk (sumI ns) ws) ∧ f28G2 E ns ws v0 0 0))))) : f28G0 E ns ws v0 i := by
  intro g0
  rcases Bool.eq_false_or_eq_true (decide (((i : Nat) : Int) < ((ns.length : Nat) : Int))) with hc0 | hc0
  · have h := h.1 (of_decide_eq_true hc0)
    obtain ⟨e, h1, h⟩ := h
    obtain ⟨h2, h⟩ := h
    exact p28_0_0 ns ws v0 i g0 e hE hc0 (idx_ok h1) (row_part cI (s := 1) (k := 0) (m := 1) (fun _ => rfl) (by decide) h1) (pureF_of Try.func44 (by kernel_rfl) f44b (split_ok e ws h2)) (h g0)
  · have h := h.2 (of_decide_eq_false hc0)
    obtain ⟨h1, h⟩ := h
    obtain ⟨h2, h⟩ := h
    exact p28_0_1 ns ws v0 i g0  hE hc0 (pureF_of Try.func50 (by kernel_rfl) f50b (sum_ok ns h1)) (pureF_of Try.func44 (by kernel_rfl) f44b (split_ok (sumI ns) ws h2)) (h g0)
theorem p28_1_0 (ns : (List Int)) (ws : (List Int)) (k : (List Int)) (k1 : Nat) (v0 : List Int) (k11 : Nat) (k111 : Nat) (g0 : Nat) (e : Int) (e1 : Int)  {E : Env} {rv : AV} (hE : PureE Try.prog 28 rv E) (o0 : (decide (((k11 : Nat) : Int) < ((k1 : Nat) : Int))) = true) (o2 : 0 ≤ ((k11 : Nat) : Int) ∧ ((k11 : Nat) : Int) < ((k.length : Nat) : Int)) (o3 : ((rowI k).drop (0 + (Int.toNat ((k11 : Nat) : Int)) * 1)).take 1 = [.int .i64 e]) (o5 : 0 ≤ ((k11 : Nat) : Int) ∧ ((k11 : Nat) : Int) < ((v0.length : Nat) : Int)) (o8 : ((rowI v0).drop (0 + (Int.toNat ((k11 : Nat) : Int)) * 1)).take 1 = [.int .i64 e1]) (o9 : InR .i64 (e1 + e)) (o10 : 0 ≤ ((k11 : Nat) : Int) ∧ ((k11 : Nat) : Int) < ((v0.length : Nat) : Int)) (o12 : ((0 + (Int.toNat ((k11 : Nat) : Int)) * 1) + 1) ≤ (rowI v0).length) (o14 : InR .i64 (((k11 : Nat) : Int) + 1))
    (hg : G Try.prog E (f28K1 Try.prog) ⟨[.rsl (rowI ns) 0 ns.length, .rsl (rowI ws) 0 ws.length, .junk, .junk, .sl 0 g0 0 v0.length 1, .int .i64 0, .junk, .junk, .junk, .junk, .junk, .junk, .junk, .junk, .junk, .junk, .junk, .junk, .junk, .junk, .junk, .junk, .junk, .junk, .junk, .junk, .junk, .junk, .junk, .junk, .junk, .rsl (rowI ns) 0 ns.length, .int .i64 ((ns.length : Nat) : Int), .int .i64 ((k111 : Nat) : Int), .junk, .junk, .junk, .junk, .junk, .rsl (rowI k) 0 k.length, .int .i64 ((k1 : Nat) : Int), .int .i64 (((k11 : Nat) : Int) + 1), .junk, .junk, .junk, .junk, .junk, .junk, .junk, .junk, .junk, .junk, .junk, .junk, .junk, .junk, .junk, .junk, .junk, .junk, .junk, .junk, .junk, .junk, .junk, .junk, .junk, .junk, .junk, .junk, .junk, .junk, .junk, .junk, .junk, .junk, .junk, .junk, .junk, .junk, .junk, .junk], [⟨true, g0, 1, true, (setAt (rowI v0) (0 + (Int.toNat ((k11 : Nat) : Int)) * 1) [.int .i64 (e1 + e)]), true⟩]⟩) : G Try.prog E (f28K1 Try.prog) (f28S1 ns ws k k1 v0 k11 k111 g0) :=
  segC_step (n := 400) (ds := []) (cs := []) (live := [0, 1, 4, 5, 31, 32, 33, 39, 40, 41]) (m := 1) (evs := [.b true, .ld (.int .i64 e), .ld (.int .i64 e1), .stop]) (obs := [(decide (((k11 : Nat) : Int) < ((k1 : Nat) : Int))) = true, 0 ≤ ((k11 : Nat) : Int) ∧ ((k11 : Nat) : Int) < ((k.length : Nat) : Int), ((rowI k).drop (0 + (Int.toNat ((k11 : Nat) : Int)) * 1)).take 1 = [.int .i64 e], 0 ≤ ((k11 : Nat) : Int) ∧ ((k11 : Nat) : Int) < ((v0.length : Nat) : Int), g0 = g0, g0 = g0, ((rowI v0).drop (0 + (Int.toNat ((k11 : Nat) : Int)) * 1)).take 1 = [.int .i64 e1], InR .i64 (e1 + e), 0 ≤ ((k11 : Nat) : Int) ∧ ((k11 : Nat) : Int) < ((v0.length : Nat) : Int), g0 = g0, ((0 + (Int.toNat ((k11 : Nat) : Int)) * 1) + 1) ≤ (rowI v0).length, g0 = g0, InR .i64 (((k11 : Nat) : Int) + 1)]) hE.2.1 (hE.nogh _) mixed (by kernel_rfl) ⟨o0, o2, o3, o5, (rfl), (rfl), o8, o9, o10, (rfl), o12, (rfl), o14, trivial⟩ hg
theorem p28_1_1 (ns : (List Int)) (ws : (List Int)) (k : (List Int)) (k1 : Nat) (v0 : List Int) (k11 : Nat) (k111 : Nat) (g0 : Nat)  {E : Env} {rv : AV} (hE : PureE Try.prog 28 rv E) (o0 : (decide (((k11 : Nat) : Int) < ((k1 : Nat) : Int))) = false) (o1 : InR .i64 (((k111 : Nat) : Int) + 1))
    (hg : G Try.prog E (f28K0 Try.prog) ⟨[.rsl (rowI ns) 0 ns.length, .rsl (rowI ws) 0 ws.length, .junk, .junk, .sl 0 g0 0 v0.length 1, .int .i64 0, .junk, .junk, .junk, .junk, .junk, .junk, .junk, .junk, .junk, .junk, .junk, .junk, .junk, .junk, .junk, .junk, .junk, .junk, .junk, .junk, .junk, .junk, .junk, .junk, .junk, .rsl (rowI ns) 0 ns.length, .int .i64 ((ns.length : Nat) : Int), .int .i64 (((k111 : Nat) : Int) + 1), .junk, .junk, .junk, .junk, .junk, .junk, .junk, .junk, .junk, .junk, .junk, .junk, .junk, .junk, .junk, .junk, .junk, .junk, .junk, .junk, .junk, .junk, .junk, .junk, .junk, .junk, .junk, .junk, .junk, .junk, .junk, .junk, .junk, .junk, .junk, .junk, .junk, .junk, .junk, .junk, .junk, .junk, .junk, .junk, .junk, .junk, .junk, .junk], [⟨true, g0, 1, true, (rowI v0), true⟩]⟩) : G Try.prog E (f28K1 Try.prog) (f28S1 ns ws k k1 v0 k11 k111 g0) :=
  segC_step (n := 400) (ds := []) (cs := []) (live := [0, 1, 4, 5, 31, 32, 33]) (m := 1) (evs := [.b false, .stop]) (obs := [(decide (((k11 : Nat) : Int) < ((k1 : Nat) : Int))) = false, InR .i64 (((k111 : Nat) : Int) + 1)]) hE.2.1 (hE.nogh _) mixed (by kernel_rfl) ⟨o0, o1, trivial⟩ hg
theorem f28W1 (ns : (List Int)) (ws : (List Int)) (k : (List Int)) (k1 : Nat) (v0 : List Int) (k11 : Nat) (k111 : Nat) {E : Env} {rv : ((List Int) × Int × Int)} (hE : PureE Try.prog 28 (.tup [.rsl (rowI rv.1) 0 rv.1.length, .int .i64 rv.2.1, .int .i64 rv.2.2]) E)
    (h : ((((k11 : Nat) : Int) < ((k1 : Nat) : Int) → (∃ e : Int, k[k11]? = some e ∧ (∃ e1 : Int, v0[k11]? = some e1 ∧ ((-9223372036854775808 ≤ e1 + e ∧ e1 + e ≤ 9223372036854775807) ∧ ((-9223372036854775808 ≤ ((k11 : Nat) : Int) + 1 ∧ ((k11 : Nat) : Int) + 1 ≤ 9223372036854775807) ∧ f28G1 E ns ws k k1 (v0.set k11 (e1 + e)) (k11 + 1) k111))))) ∧ (¬ (((k11 : Nat) : Int) < ((k1 : Nat) : Int)) → ((-9223372036854775808 ≤ ((k111 : Nat) : Int) + 1 ∧ ((k111 : Nat) : Int) + 1 ≤ 9223372036854775807) ∧ f28G0 E ns ws v0 (k111 + 1))))) : f28G1 E ns ws k k1 v0 k11 k111 := by
  intro g0
  rcases Bool.eq_false_or_eq_true (decide (((k11 : Nat) : Int) < ((k1 : Nat) : Int))) with hc0 | hc0
  · have h := h.1 (of_decide_eq_true hc0)
    obtain ⟨e, h1, h⟩ := h
    obtain ⟨e1, h2, h⟩ := h
    obtain ⟨q9_1, h⟩ := h
    obtain ⟨q14_1, h⟩ := h
    refine p28_1_0 ns ws k k1 v0 k11 k111 g0 e e1 hE hc0 (idx_ok h1) (row_part cI (s := 1) (k := 0) (m := 1) (fun _ => rfl) (by decide) h1) (idx_ok h2) (row_part cI (s := 1) (k := 0) (m := 1) (fun _ => rfl) (by decide) h2) q9_1 (idx_ok h2) (row_fits cI (s := 1) (k := 0) (m := 1) (fun _ => rfl) (by decide) h2) q14_1 ?_
    have h := (h g0)
    simp only [f28S1, List.length_set] at h
    rw [(show setAt (rowI v0) (0 + (Int.toNat ((k11 : Nat) : Int)) * 1) [.int .i64 (e1 + e)] = rowI (v0.set k11 (e1 + e)) from row_set cI (s := 1) (k := 0) (fun _ => rfl) h2 rfl (by first | decide | simp))]
    exact h
  · have h := h.2 (of_decide_eq_false hc0)
    obtain ⟨q1_1, h⟩ := h
    exact p28_1_1 ns ws k k1 v0 k11 k111 g0  hE hc0 q1_1 (h g0)
theorem p28_2_0 (ns : (List Int)) (ws : (List Int)) (v0 : List Int) (off : Int) (j : Nat) (g0 : Nat) (e : Int) (e1 : Int)  {E : Env} {rv : AV} (hE : PureE Try.prog 28 rv E) (o0 : (decide (((j : Nat) : Int) < (((splitI (sumI ns) ws).length : Nat) : Int))) = true) (o2 : 0 ≤ ((j : Nat) : Int) ∧ ((j : Nat) : Int) < (((splitI (sumI ns) ws).length : Nat) : Int)) (o3 : ((rowI (splitI (sumI ns) ws)).drop (0 + (Int.toNat ((j : Nat) : Int)) * 1)).take 1 = [.int .i64 e]) (o5 : 0 ≤ ((j : Nat) : Int) ∧ ((j : Nat) : Int) < ((v0.length : Nat) : Int)) (o8 : ((rowI v0).drop (0 + (Int.toNat ((j : Nat) : Int)) * 1)).take 1 = [.int .i64 e1]) (o9 : InR .i64 (e1 - e)) (o10 : 0 ≤ ((j : Nat) : Int) ∧ ((j : Nat) : Int) < ((v0.length : Nat) : Int)) (o13 : ((rowI v0).drop (0 + (Int.toNat ((j : Nat) : Int)) * 1)).take 1 = [.int .i64 e1]) (o14 : InR .i64 (e - e1)) (o15 : InR .i64 (((j : Nat) : Int) + 1))
    (hg : G Try.prog E (f28K2 Try.prog) ⟨[.junk, .junk, .junk, .junk, .sl 0 g0 0 v0.length 1, .int .i64 (iMax (iMax off (e1 - e)) (e - e1)), .junk, .junk, .junk, .junk, .junk, .junk, .junk, .junk, .junk, .junk, .junk, .junk, .junk, .junk, .junk, .junk, .junk, .junk, .junk, .junk, .junk, .junk, .junk, .junk, .junk, .junk, .junk, .junk, .junk, .junk, .junk, .junk, .junk, .junk, .junk, .junk, .junk, .junk, .junk, .junk, .junk, .junk, .junk, .junk, .junk, .junk, .junk, .junk, .junk, .junk, .junk, .junk, .rsl (rowI (splitI (sumI ns) ws)) 0 ((splitI (sumI ns) ws).length), .int .i64 (((splitI (sumI ns) ws).length : Nat) : Int), .int .i64 (((j : Nat) : Int) + 1), .junk, .junk, .junk, .junk, .junk, .junk, .junk, .junk, .junk, .junk, .junk, .junk, .junk, .junk, .junk, .junk, .junk, .junk, .junk, .junk, .junk], [⟨true, g0, 1, true, (rowI v0), true⟩]⟩) : G Try.prog E (f28K2 Try.prog) (f28S2 ns ws v0 off j g0) :=
  segC_step (n := 400) (ds := []) (cs := []) (live := [4, 5, 58, 59, 60]) (m := 1) (evs := [.b true, .ld (.int .i64 e), .ld (.int .i64 e1), .ld (.int .i64 e1), .stop]) (obs := [(decide (((j : Nat) : Int) < (((splitI (sumI ns) ws).length : Nat) : Int))) = true, 0 ≤ ((j : Nat) : Int) ∧ ((j : Nat) : Int) < (((splitI (sumI ns) ws).length : Nat) : Int), ((rowI (splitI (sumI ns) ws)).drop (0 + (Int.toNat ((j : Nat) : Int)) * 1)).take 1 = [.int .i64 e], 0 ≤ ((j : Nat) : Int) ∧ ((j : Nat) : Int) < ((v0.length : Nat) : Int), g0 = g0, g0 = g0, ((rowI v0).drop (0 + (Int.toNat ((j : Nat) : Int)) * 1)).take 1 = [.int .i64 e1], InR .i64 (e1 - e), 0 ≤ ((j : Nat) : Int) ∧ ((j : Nat) : Int) < ((v0.length : Nat) : Int), g0 = g0, g0 = g0, ((rowI v0).drop (0 + (Int.toNat ((j : Nat) : Int)) * 1)).take 1 = [.int .i64 e1], InR .i64 (e - e1), InR .i64 (((j : Nat) : Int) + 1)]) hE.2.1 (hE.nogh _) mixed (by kernel_rfl) ⟨o0, o2, o3, o5, (rfl), (rfl), o8, o9, o10, (rfl), (rfl), o13, o14, o15, trivial⟩ hg
theorem p28_2_1 (ns : (List Int)) (ws : (List Int)) (v0 : List Int) (off : Int) (j : Nat) (g0 : Nat)  {E : Env} {res : AV} (hE : PureE Try.prog 28 res E) (o0 : (decide (((j : Nat) : Int) < (((splitI (sumI ns) ws).length : Nat) : Int))) = false)
    (hr : AvLe (.tup [.rsl (rowI v0) 0 v0.length, .int .i64 off, .int .i64 0]) res) : G Try.prog E (f28K2 Try.prog) (f28S2 ns ws v0 off j g0) :=
  end_stepL (n := 400) (evs := [.b false]) (obs := [(decide (((j : Nat) : Int) < (((splitI (sumI ns) ws).length : Nat) : Int))) = false, g0 = g0]) hE Try.func28 mixed (by kernel_rfl) ⟨o0, (rfl), trivial⟩ hr
theorem f28W2 (ns : (List Int)) (ws : (List Int)) (v0 : List Int) (off : Int) (j : Nat) {E : Env} {rv : ((List Int) × Int × Int)} (hE : PureE Try.prog 28 (.tup [.rsl (rowI rv.1) 0 rv.1.length, .int .i64 rv.2.1, .int .i64 rv.2.2]) E)
    (h : ((((j : Nat) : Int) < (((splitI (sumI ns) ws).length : Nat) : Int) → (∃ e : Int, (splitI (sumI ns) ws)[j]? = some e ∧ (∃ e1 : Int, v0[j]? = some e1 ∧ ((-9223372036854775808 ≤ e1 - e ∧ e1 - e ≤ 9223372036854775807) ∧ ((-9223372036854775808 ≤ e - e1 ∧ e - e1 ≤ 9223372036854775807) ∧ ((-9223372036854775808 ≤ ((j : Nat) : Int) + 1 ∧ ((j : Nat) : Int) + 1 ≤ 9223372036854775807) ∧ f28G2 E ns ws v0 (iMax (iMax off (e1 - e)) (e - e1)) (j + 1))))))) ∧ (¬ (((j : Nat) : Int) < (((splitI (sumI ns) ws).length : Nat) : Int)) → rv = (v0, off, 0)))) : f28G2 E ns ws v0 off j := by
  intro g0
  rcases Bool.eq_false_or_eq_true (decide (((j : Nat) : Int) < (((splitI (sumI ns) ws).length : Nat) : Int))) with hc0 | hc0
  · have h := h.1 (of_decide_eq_true hc0)
    obtain ⟨e, h1, h⟩ := h
    obtain ⟨e1, h2, h⟩ := h
    obtain ⟨q9_1, h⟩ := h
    obtain ⟨q14_1, h⟩ := h
    obtain ⟨q15_1, h⟩ := h
    exact p28_2_0 ns ws v0 off j g0 e e1 hE hc0 (idx_ok h1) (row_part cI (s := 1) (k := 0) (m := 1) (fun _ => rfl) (by decide) h1) (idx_ok h2) (row_part cI (s := 1) (k := 0) (m := 1) (fun _ => rfl) (by decide) h2) q9_1 (idx_ok h2) (row_part cI (s := 1) (k := 0) (m := 1) (fun _ => rfl) (by decide) h2) q14_1 q15_1 (h g0)
  · have h := h.2 (of_decide_eq_false hc0)
    exact p28_2_1 ns ws v0 off j g0  hE hc0 (AvLe.of_eq (by rw [h]; try rfl))
theorem f29b : Try.f29.body = some (bodyAt Try.prog 29) := by kernel_rfl
def f29K0 (P : Program) : List Item := kAt 400 [.code (bodyAt P 29)] [.b false, .stop]
def f29S0 (ns : (List Int)) (ws : (List Int)) (i : Nat)  : St := ⟨[.rsl (rowI ns) 0 ns.length, .rsl (rowI ws) 0 ws.length, .junk, .junk, .junk, .junk, .junk, .int .i64 ((i : Nat) : Int), .junk, .junk, .junk, .junk, .junk, .junk, .junk, .junk, .junk, .junk, .junk, .junk, .junk, .junk, .junk, .junk, .junk, .junk, .junk, .junk, .junk, .junk, .junk, .junk, .junk, .junk, .junk, .junk, .junk, .junk, .junk, .junk, .junk, .junk, .junk, .junk, .junk, .junk, .junk, .junk, .junk, .junk, .junk, .junk, .junk, .junk, .junk, .junk, .junk, .junk, .junk, .junk, .junk, .junk, .junk, .junk, .junk, .junk, .junk, .junk, .junk, .junk, .junk, .junk, .junk, .junk, .junk, .junk, .junk, .junk, .junk, .junk, .junk, .junk, .junk, .junk, .junk, .junk, .junk, .junk, .junk, .junk, .junk, .junk, .junk, .junk, .junk, .junk, .junk, .junk, .junk, .junk], []⟩
def f29G0 (E : Env) (ns : (List Int)) (ws : (List Int)) (i : Nat) : Prop := G Try.prog E (f29K0 Try.prog) (f29S0 ns ws i )
def f29K1 (P : Program) : List Item := kAt 400 [.code (bodyAt P 29)] [.b false, .b false, .b false, .b false, .stop]
def f29S1 (ns : (List Int)) (ws : (List Int)) (v0 : List Int) (i : Nat) (g0 : Nat) : St := ⟨[.rsl (rowI ns) 0 ns.length, .rsl (rowI ws) 0 ws.length, .junk, .junk, .junk, .junk, .junk, .junk, .sl 0 g0 0 v0.length 1, .int .i64 ((i : Nat) : Int), .junk, .junk, .junk, .junk, .junk, .junk, .junk, .junk, .junk, .junk, .junk, .junk, .junk, .junk, .junk, .junk, .junk, .junk, .junk, .junk, .junk, .junk, .junk, .junk, .junk, .junk, .junk, .junk, .junk, .junk, .junk, .junk, .junk, .junk, .junk, .junk, .junk, .junk, .junk, .junk, .junk, .junk, .junk, .junk, .junk, .junk, .junk, .junk, .junk, .junk, .junk, .junk, .junk, .junk, .junk, .junk, .junk, .junk, .junk, .junk, .junk, .junk, .junk, .junk, .junk, .junk, .junk, .junk, .junk, .junk, .junk, .junk, .junk, .junk, .junk, .junk, .junk, .junk, .junk, .junk, .junk, .junk, .junk, .junk, .junk, .junk, .junk, .junk, .junk, .junk], [⟨true, g0, 1, true, (rowI v0), true⟩]⟩
def f29G1 (E : Env) (ns : (List Int)) (ws : (List Int)) (v0 : List Int) (i : Nat) : Prop := ∀ g0 : Nat, G Try.prog E (f29K1 Try.prog) (f29S1 ns ws v0 i g0)
def f29K2 (P : Program) : List Item := kAt 400 [.code (bodyAt P 29)] [.b false, .b false, .b false, .b false, .b true, .stop]
def f29S2 (ns : (List Int)) (ws : (List Int)) (one : (List Int)) (v0 : List Int) (k : Nat) (i : Nat) (g0 : Nat) : St := ⟨[.rsl (rowI ns) 0 ns.length, .rsl (rowI ws) 0 ws.length, .junk, .junk, .junk, .junk, .junk, .junk, .sl 0 g0 0 v0.length 1, .int .i64 ((i : Nat) : Int), .rsl (rowI one) 0 one.length, .int .i64 ((k : Nat) : Int), .junk, .junk, .junk, .junk, .junk, .junk, .junk, .junk, .junk, .junk, .junk, .junk, .junk, .junk, .junk, .junk, .junk, .junk, .junk, .junk, .junk, .junk, .junk, .junk, .junk, .junk, .junk, .junk, .junk, .junk, .junk, .junk, .junk, .junk, .junk, .junk, .junk, .junk, .junk, .junk, .junk, .junk, .junk, .junk, .junk, .junk, .junk, .junk, .junk, .junk, .junk, .junk, .junk, .junk, .junk, .junk, .junk, .junk, .junk, .junk, .junk, .junk, .junk, .junk, .junk, .junk, .junk, .junk, .junk, .junk, .junk, .junk, .junk, .junk, .junk, .junk, .junk, .junk, .junk, .junk, .junk, .junk, .junk, .junk, .junk, .junk, .junk, .junk], [⟨true, g0, 1, true, (rowI v0), true⟩]⟩
def f29G2 (E : Env) (ns : (List Int)) (ws : (List Int)) (one : (List Int)) (v0 : List Int) (k : Nat) (i : Nat) : Prop := ∀ g0 : Nat, G Try.prog E (f29K2 Try.prog) (f29S2 ns ws one v0 k i g0)
def f29K3 (P : Program) : List Item := kAt 400 [.code (bodyAt P 29)] [.b false, .b false, .b false, .b false, .b false, .stop]
def f29S3 (ns : (List Int)) (ws : (List Int)) (v0 : List Int) (off : Int) (k : Nat) (g0 : Nat) : St := ⟨[.junk, .junk, .junk, .junk, .junk, .junk, .junk, .junk, .sl 0 g0 0 v0.length 1, .junk, .junk, .junk, .rsl (rowI (splitI (sumI ns) ws)) 0 ((splitI (sumI ns) ws).length), .int .i64 off, .int .i64 ((k : Nat) : Int), .junk, .junk, .junk, .junk, .junk, .junk, .junk, .junk, .junk, .junk, .junk, .junk, .junk, .junk, .junk, .junk, .junk, .junk, .junk, .junk, .junk, .junk, .junk, .junk, .junk, .junk, .junk, .junk, .junk, .junk, .junk, .junk, .junk, .junk, .junk, .junk, .junk, .junk, .junk, .junk, .junk, .junk, .junk, .junk, .junk, .junk, .junk, .junk, .junk, .junk, .junk, .junk, .junk, .junk, .junk, .junk, .junk, .junk, .junk, .junk, .junk, .junk, .junk, .junk, .junk, .junk, .junk, .junk, .junk, .junk, .junk, .junk, .junk, .junk, .junk, .junk, .junk, .junk, .junk, .junk, .junk, .junk, .junk, .junk, .junk], [⟨true, g0, 1, true, (rowI v0), true⟩]⟩
def f29G3 (E : Env) (ns : (List Int)) (ws : (List Int)) (v0 : List Int) (off : Int) (k : Nat) : Prop := ∀ g0 : Nat, G Try.prog E (f29K3 Try.prog) (f29S3 ns ws v0 off k g0)
theorem p29_start_0 (ns : (List Int)) (ws : (List Int))   {E : Env} {res : AV} (hE : PureE Try.prog 29 res E) (o0 : (decide (((ns.length : Nat) : Int) > 60)) = true)
    (hr : AvLe (.tup [.nilSl, .int .i64 0, .int .i64 2]) res) : G Try.prog E [.code (bodyAt Try.prog 29)] ⟨[.rsl (rowI ns) 0 ns.length, .rsl (rowI ws) 0 ws.length] ++ unds (Try.f29.ntmps - 2), []⟩ :=
  end_stepL (n := 400) (evs := [.b true]) (obs := [(decide (((ns.length : Nat) : Int) > 60)) = true]) hE Try.func29 mixed (by kernel_rfl) ⟨o0, trivial⟩ hr
theorem p29_start_1 (ns : (List Int)) (ws : (List Int))   {E : Env} {rv : AV} (hE : PureE Try.prog 29 rv E) (o0 : (decide (((ns.length : Nat) : Int) > 60)) = false)
    (hg : G Try.prog E (f29K0 Try.prog) ⟨[.rsl (rowI ns) 0 ns.length, .rsl (rowI ws) 0 ws.length, .junk, .junk, .junk, .junk, .junk, .int .i64 0, .junk, .junk, .junk, .junk, .junk, .junk, .junk, .junk, .junk, .junk, .junk, .junk, .junk, .junk, .junk, .junk, .junk, .junk, .junk, .junk, .junk, .junk, .junk, .junk, .junk, .junk, .junk, .junk, .junk, .junk, .junk, .junk, .junk, .junk, .junk, .junk, .junk, .junk, .junk, .junk, .junk, .junk, .junk, .junk, .junk, .junk, .junk, .junk, .junk, .junk, .junk, .junk, .junk, .junk, .junk, .junk, .junk, .junk, .junk, .junk, .junk, .junk, .junk, .junk, .junk, .junk, .junk, .junk, .junk, .junk, .junk, .junk, .junk, .junk, .junk, .junk, .junk, .junk, .junk, .junk, .junk, .junk, .junk, .junk, .junk, .junk, .junk, .junk, .junk, .junk, .junk, .junk], []⟩) : G Try.prog E [.code (bodyAt Try.prog 29)] ⟨[.rsl (rowI ns) 0 ns.length, .rsl (rowI ws) 0 ws.length] ++ unds (Try.f29.ntmps - 2), []⟩ :=
  segC_step (n := 400) (ds := []) (cs := []) (live := [0, 1, 7]) (m := 0) (evs := [.b false, .stop]) (obs := [(decide (((ns.length : Nat) : Int) > 60)) = false]) hE.2.1 (hE.nogh _) mixed (by kernel_rfl) ⟨o0, trivial⟩ hg
theorem f29W (ns : (List Int)) (ws : (List Int)) {E : Env} {rv : ((List Int) × Int × Int)} (hE : PureE Try.prog 29 (.tup [.rsl (rowI rv.1) 0 rv.1.length, .int .i64 rv.2.1, .int .i64 rv.2.2]) E)
    (h : ((((ns.length : Nat) : Int) > 60 → rv = (([] : List Int), 0, 2)) ∧ (¬ (((ns.length : Nat) : Int) > 60) → f29G0 E ns ws 0))) : G Try.prog E [.code (bodyAt Try.prog 29)] ⟨[.rsl (rowI ns) 0 ns.length, .rsl (rowI ws) 0 ws.length] ++ unds (Try.f29.ntmps - 2), []⟩ := by
  rcases Bool.eq_false_or_eq_true (decide (((ns.length : Nat) : Int) > 60)) with hc0 | hc0
  · have h := h.1 (of_decide_eq_true hc0)
    exact p29_start_0 ns ws    hE hc0 (by rw [h]; exact (tup_le ⟨nil_le, ⟨AvLe.of_eq rfl, ⟨AvLe.of_eq rfl, trivial⟩⟩⟩))
  · have h := h.2 (of_decide_eq_false hc0)
    exact p29_start_1 ns ws    hE hc0 h
theorem p29_0_0 (ns : (List Int)) (ws : (List Int)) (i : Nat)  (e : Int)  {E : Env} {res : AV} (hE : PureE Try.prog 29 res E) (o0 : (decide (((i : Nat) : Int) < ((ns.length : Nat) : Int))) = true) (o2 : 0 ≤ ((i : Nat) : Int) ∧ ((i : Nat) : Int) < ((ns.length : Nat) : Int)) (o3 : ((rowI ns).drop (0 + (Int.toNat ((i : Nat) : Int)) * 1)).take 1 = [.int .i64 e]) (o4 : PureF Try.prog (.clos 38 [] []) [.int .i64 e] (.bool (amount e))) (o5 : (!(amount e)) = true)
    (hr : AvLe (.tup [.nilSl, .int .i64 0, .int .i64 1]) res) : G Try.prog E (f29K0 Try.prog) (f29S0 ns ws i ) :=
  end_stepL (n := 400) (evs := [.b true, .ld (.int .i64 e), .v (.bool (amount e)), .b true]) (obs := [(decide (((i : Nat) : Int) < ((ns.length : Nat) : Int))) = true, 0 ≤ ((i : Nat) : Int) ∧ ((i : Nat) : Int) < ((ns.length : Nat) : Int), ((rowI ns).drop (0 + (Int.toNat ((i : Nat) : Int)) * 1)).take 1 = [.int .i64 e], PureF Try.prog (.clos 38 [] []) [.int .i64 e] (.bool (amount e)), (!(amount e)) = true]) hE Try.func29 mixed (by kernel_rfl) ⟨o0, o2, o3, o4, o5, trivial⟩ hr
theorem p29_0_1 (ns : (List Int)) (ws : (List Int)) (i : Nat)  (e : Int)  {E : Env} {rv : AV} (hE : PureE Try.prog 29 rv E) (o0 : (decide (((i : Nat) : Int) < ((ns.length : Nat) : Int))) = true) (o2 : 0 ≤ ((i : Nat) : Int) ∧ ((i : Nat) : Int) < ((ns.length : Nat) : Int)) (o3 : ((rowI ns).drop (0 + (Int.toNat ((i : Nat) : Int)) * 1)).take 1 = [.int .i64 e]) (o4 : PureF Try.prog (.clos 38 [] []) [.int .i64 e] (.bool (amount e))) (o5 : (!(amount e)) = false) (o6 : InR .i64 (((i : Nat) : Int) + 1))
    (hg : G Try.prog E (f29K0 Try.prog) ⟨[.rsl (rowI ns) 0 ns.length, .rsl (rowI ws) 0 ws.length, .junk, .junk, .junk, .junk, .junk, .int .i64 (((i : Nat) : Int) + 1), .junk, .junk, .junk, .junk, .junk, .junk, .junk, .junk, .junk, .junk, .junk, .junk, .junk, .junk, .junk, .junk, .junk, .junk, .junk, .junk, .junk, .junk, .junk, .junk, .junk, .junk, .junk, .junk, .junk, .junk, .junk, .junk, .junk, .junk, .junk, .junk, .junk, .junk, .junk, .junk, .junk, .junk, .junk, .junk, .junk, .junk, .junk, .junk, .junk, .junk, .junk, .junk, .junk, .junk, .junk, .junk, .junk, .junk, .junk, .junk, .junk, .junk, .junk, .junk, .junk, .junk, .junk, .junk, .junk, .junk, .junk, .junk, .junk, .junk, .junk, .junk, .junk, .junk, .junk, .junk, .junk, .junk, .junk, .junk, .junk, .junk, .junk, .junk, .junk, .junk, .junk, .junk], []⟩) : G Try.prog E (f29K0 Try.prog) (f29S0 ns ws i ) :=
  segC_step (n := 400) (ds := []) (cs := []) (live := [0, 1, 7]) (m := 0) (evs := [.b true, .ld (.int .i64 e), .v (.bool (amount e)), .b false, .stop]) (obs := [(decide (((i : Nat) : Int) < ((ns.length : Nat) : Int))) = true, 0 ≤ ((i : Nat) : Int) ∧ ((i : Nat) : Int) < ((ns.length : Nat) : Int), ((rowI ns).drop (0 + (Int.toNat ((i : Nat) : Int)) * 1)).take 1 = [.int .i64 e], PureF Try.prog (.clos 38 [] []) [.int .i64 e] (.bool (amount e)), (!(amount e)) = false, InR .i64 (((i : Nat) : Int) + 1)]) hE.2.1 (hE.nogh _) mixed (by kernel_rfl) ⟨o0, o2, o3, o4, o5, o6, trivial⟩ hg
theorem p29_0_2 (ns : (List Int)) (ws : (List Int)) (i : Nat)   {E : Env} {res : AV} (hE : PureE Try.prog 29 res E) (o0 : (decide (((i : Nat) : Int) < ((ns.length : Nat) : Int))) = false) (o1 : PureF Try.prog (.clos 21 [] []) [.rsl (rowI ns) 0 ns.length] (.int .i64 (sumI ns))) (o2 : PureF Try.prog (.clos 38 [] []) [.int .i64 (sumI ns)] (.bool (amount (sumI ns)))) (o3 : (!(amount (sumI ns))) = true)
    (hr : AvLe (.tup [.nilSl, .int .i64 0, .int .i64 1]) res) : G Try.prog E (f29K0 Try.prog) (f29S0 ns ws i ) :=
  end_stepL (n := 400) (evs := [.b false, .v (.int .i64 (sumI ns)), .v (.bool (amount (sumI ns))), .b true]) (obs := [(decide (((i : Nat) : Int) < ((ns.length : Nat) : Int))) = false, PureF Try.prog (.clos 21 [] []) [.rsl (rowI ns) 0 ns.length] (.int .i64 (sumI ns)), PureF Try.prog (.clos 38 [] []) [.int .i64 (sumI ns)] (.bool (amount (sumI ns))), (!(amount (sumI ns))) = true]) hE Try.func29 mixed (by kernel_rfl) ⟨o0, o1, o2, o3, trivial⟩ hr
theorem p29_0_3 (ns : (List Int)) (ws : (List Int)) (i : Nat)   {E : Env} {res : AV} (hE : PureE Try.prog 29 res E) (o0 : (decide (((i : Nat) : Int) < ((ns.length : Nat) : Int))) = false) (o1 : PureF Try.prog (.clos 21 [] []) [.rsl (rowI ns) 0 ns.length] (.int .i64 (sumI ns))) (o2 : PureF Try.prog (.clos 38 [] []) [.int .i64 (sumI ns)] (.bool (amount (sumI ns)))) (o3 : (!(amount (sumI ns))) = false) (o4 : PureF Try.prog (.clos 39 [] []) [.rsl (rowI ws) 0 ws.length] (.bool (weightedB ws))) (o5 : (!(weightedB ws)) = true)
    (hr : AvLe (.tup [.nilSl, .int .i64 0, .int .i64 110]) res) : G Try.prog E (f29K0 Try.prog) (f29S0 ns ws i ) :=
  end_stepL (n := 400) (evs := [.b false, .v (.int .i64 (sumI ns)), .v (.bool (amount (sumI ns))), .b false, .v (.bool (weightedB ws)), .b true]) (obs := [(decide (((i : Nat) : Int) < ((ns.length : Nat) : Int))) = false, PureF Try.prog (.clos 21 [] []) [.rsl (rowI ns) 0 ns.length] (.int .i64 (sumI ns)), PureF Try.prog (.clos 38 [] []) [.int .i64 (sumI ns)] (.bool (amount (sumI ns))), (!(amount (sumI ns))) = false, PureF Try.prog (.clos 39 [] []) [.rsl (rowI ws) 0 ws.length] (.bool (weightedB ws)), (!(weightedB ws)) = true]) hE Try.func29 mixed (by kernel_rfl) ⟨o0, o1, o2, o3, o4, o5, trivial⟩ hr
theorem p29_0_4 (ns : (List Int)) (ws : (List Int)) (i : Nat)   {E : Env} {rv : AV} (hE : PureE Try.prog 29 rv E) (o0 : (decide (((i : Nat) : Int) < ((ns.length : Nat) : Int))) = false) (o1 : PureF Try.prog (.clos 21 [] []) [.rsl (rowI ns) 0 ns.length] (.int .i64 (sumI ns))) (o2 : PureF Try.prog (.clos 38 [] []) [.int .i64 (sumI ns)] (.bool (amount (sumI ns)))) (o3 : (!(amount (sumI ns))) = false) (o4 : PureF Try.prog (.clos 39 [] []) [.rsl (rowI ws) 0 ws.length] (.bool (weightedB ws))) (o5 : (!(weightedB ws)) = false) (o6 : 0 ≤ ((ws.length : Nat) : Int) ∧ ((ws.length : Nat) : Int) ≤ ((ws.length : Nat) : Int) ∧ ((ws.length : Nat) : Int) ≤ 2147483648)
    (hg : G Try.prog E (f29K1 Try.prog) ⟨[.rsl (rowI ns) 0 ns.length, .rsl (rowI ws) 0 ws.length, .junk, .junk, .junk, .junk, .junk, .junk, .sl 0 0 0 (Int.toNat ((ws.length : Nat) : Int)) 1, .int .i64 0, .junk, .junk, .junk, .junk, .junk, .junk, .junk, .junk, .junk, .junk, .junk, .junk, .junk, .junk, .junk, .junk, .junk, .junk, .junk, .junk, .junk, .junk, .junk, .junk, .junk, .junk, .junk, .junk, .junk, .junk, .junk, .junk, .junk, .junk, .junk, .junk, .junk, .junk, .junk, .junk, .junk, .junk, .junk, .junk, .junk, .junk, .junk, .junk, .junk, .junk, .junk, .junk, .junk, .junk, .junk, .junk, .junk, .junk, .junk, .junk, .junk, .junk, .junk, .junk, .junk, .junk, .junk, .junk, .junk, .junk, .junk, .junk, .junk, .junk, .junk, .junk, .junk, .junk, .junk, .junk, .junk, .junk, .junk, .junk, .junk, .junk, .junk, .junk, .junk, .junk], [⟨true, 0, 1, true, ((List.replicate (Int.toNat ((ws.length : Nat) : Int)) ([.int .i64 0] : List AV)).flatten), true⟩]⟩) : G Try.prog E (f29K0 Try.prog) (f29S0 ns ws i ) :=
  segC_step (n := 400) (ds := []) (cs := []) (live := [0, 1, 8, 9]) (m := 1) (evs := [.b false, .v (.int .i64 (sumI ns)), .v (.bool (amount (sumI ns))), .b false, .v (.bool (weightedB ws)), .b false, .stop]) (obs := [(decide (((i : Nat) : Int) < ((ns.length : Nat) : Int))) = false, PureF Try.prog (.clos 21 [] []) [.rsl (rowI ns) 0 ns.length] (.int .i64 (sumI ns)), PureF Try.prog (.clos 38 [] []) [.int .i64 (sumI ns)] (.bool (amount (sumI ns))), (!(amount (sumI ns))) = false, PureF Try.prog (.clos 39 [] []) [.rsl (rowI ws) 0 ws.length] (.bool (weightedB ws)), (!(weightedB ws)) = false, 0 ≤ ((ws.length : Nat) : Int) ∧ ((ws.length : Nat) : Int) ≤ ((ws.length : Nat) : Int) ∧ ((ws.length : Nat) : Int) ≤ 2147483648]) hE.2.1 (hE.nogh _) mixed (by kernel_rfl) ⟨o0, o1, o2, o3, o4, o5, o6, trivial⟩ hg
theorem f29W0 (ns : (List Int)) (ws : (List Int)) (i : Nat) {E : Env} {rv : ((List Int) × Int × Int)} (hE : PureE Try.prog 29 (.tup [.rsl (rowI rv.1) 0 rv.1.length, .int .i64 rv.2.1, .int .i64 rv.2.2]) E)
    (h : ((((i : Nat) : Int) < ((ns.length : Nat) : Int) → (∃ e : Int, ns[i]? = some e ∧ (((amount e) = false → rv = (([] : List Int), 0, 1)) ∧ ((amount e) = true → ((-9223372036854775808 ≤ ((i : Nat) : Int) + 1 ∧ ((i : Nat) : Int) + 1 ≤ 9223372036854775807) ∧ f29G0 E ns ws (i + 1)))))) ∧ (¬ (((i : Nat) : Int) < ((ns.length : Nat) : Int)) → ((SumOk ns) ∧ (((amount (sumI ns)) = false → rv = (([] : List Int), 0, 1)) ∧ ((amount (sumI ns)) = true → ((ws.length ≤ 17592186044416) ∧ (((weightedB ws) = false → rv = (([] : List Int), 0, 110)) ∧ ((weightedB ws) = true → (ws.length ≤ 2147483648 ∧ f29G1 E ns ws (List.replicate ws.length (0 : Int)) 0)))))))))) : f29G0 E ns ws i := by
  rcases Bool.eq_false_or_eq_true (decide (((i : Nat) : Int) < ((ns.length : Nat) : Int))) with hc0 | hc0
  · have h := h.1 (of_decide_eq_true hc0)
    obtain ⟨e, h1, h⟩ := h
    rcases Bool.eq_false_or_eq_true (!(amount e)) with hc1 | hc1
    · have h := h.1 (bnT hc1)
      exact p29_0_0 ns ws i  e hE hc0 (idx_ok h1) (row_part cI (s := 1) (k := 0) (m := 1) (fun _ => rfl) (by decide) h1) (pureF_of Try.func38 (by kernel_rfl) f38b (amountR_ok e)) hc1 (by rw [h]; exact (tup_le ⟨nil_le, ⟨AvLe.of_eq rfl, ⟨AvLe.of_eq rfl, trivial⟩⟩⟩))
    · have h := h.2 (bnF hc1)
      obtain ⟨q6_2, h⟩ := h
      exact p29_0_1 ns ws i  e hE hc0 (idx_ok h1) (row_part cI (s := 1) (k := 0) (m := 1) (fun _ => rfl) (by decide) h1) (pureF_of Try.func38 (by kernel_rfl) f38b (amountR_ok e)) hc1 q6_2 h
  · have h := h.2 (of_decide_eq_false hc0)
    obtain ⟨h1, h⟩ := h
    rcases Bool.eq_false_or_eq_true (!(amount (sumI ns))) with hc1 | hc1
    · have h := h.1 (bnT hc1)
      exact p29_0_2 ns ws i   hE hc0 (pureF_of Try.func21 (by kernel_rfl) f21b (sumR_ok ns h1)) (pureF_of Try.func38 (by kernel_rfl) f38b (amountR_ok (sumI ns))) hc1 (by rw [h]; exact (tup_le ⟨nil_le, ⟨AvLe.of_eq rfl, ⟨AvLe.of_eq rfl, trivial⟩⟩⟩))
    · have h := h.2 (bnF hc1)
      obtain ⟨h2, h⟩ := h
      rcases Bool.eq_false_or_eq_true (!(weightedB ws)) with hc2 | hc2
      · have h := h.1 (bnT hc2)
        exact p29_0_3 ns ws i   hE hc0 (pureF_of Try.func21 (by kernel_rfl) f21b (sumR_ok ns h1)) (pureF_of Try.func38 (by kernel_rfl) f38b (amountR_ok (sumI ns))) hc1 (pureF_of Try.func39 (by kernel_rfl) f39b (weightedR_ok ws h2)) hc2 (by rw [h]; exact (tup_le ⟨nil_le, ⟨AvLe.of_eq rfl, ⟨AvLe.of_eq rfl, trivial⟩⟩⟩))
      · have h := h.2 (bnF hc2)
        obtain ⟨h3, h⟩ := h
        refine p29_0_4 ns ws i   hE hc0 (pureF_of Try.func21 (by kernel_rfl) f21b (sumR_ok ns h1)) (pureF_of Try.func38 (by kernel_rfl) f38b (amountR_ok (sumI ns))) hc1 (pureF_of Try.func39 (by kernel_rfl) f39b (weightedR_ok ws h2)) hc2 ⟨by omega, by omega, by have := h3; omega⟩ ?_
        have h := (h 0)
        simp only [f29G1, f29S1, List.length_set, List.length_replicate] at h
        rw [(show (List.replicate (Int.toNat ((ws.length : Nat) : Int)) ([.int .i64 0] : List AV)).flatten = rowI (List.replicate ws.length (0 : Int)) from row_rep cI _ _)]
        exact h
theorem p29_1_0 (ns : (List Int)) (ws : (List Int)) (v0 : List Int) (i : Nat) (g0 : Nat) (e : Int)  {E : Env} {rv : AV} (hE : PureE Try.prog 29 rv E) (o0 : (decide (((i : Nat) : Int) < ((ns.length : Nat) : Int))) = true) (o2 : 0 ≤ ((i : Nat) : Int) ∧ ((i : Nat) : Int) < ((ns.length : Nat) : Int)) (o3 : ((rowI ns).drop (0 + (Int.toNat ((i : Nat) : Int)) * 1)).take 1 = [.int .i64 e]) (o4 : PureF Try.prog (.clos 40 [] []) [.int .i64 e, .rsl (rowI ws) 0 ws.length] (.rsl (rowI (splitI e ws)) 0 ((splitI e ws).length)))
    (hg : G Try.prog E (f29K2 Try.prog) ⟨[.rsl (rowI ns) 0 ns.length, .rsl (rowI ws) 0 ws.length, .junk, .junk, .junk, .junk, .junk, .junk, .sl 0 g0 0 v0.length 1, .int .i64 ((i : Nat) : Int), .rsl (rowI (splitI e ws)) 0 ((splitI e ws).length), .int .i64 0, .junk, .junk, .junk, .junk, .junk, .junk, .junk, .junk, .junk, .junk, .junk, .junk, .junk, .junk, .junk, .junk, .junk, .junk, .junk, .junk, .junk, .junk, .junk, .junk, .junk, .junk, .junk, .junk, .junk, .junk, .junk, .junk, .junk, .junk, .junk, .junk, .junk, .junk, .junk, .junk, .junk, .junk, .junk, .junk, .junk, .junk, .junk, .junk, .junk, .junk, .junk, .junk, .junk, .junk, .junk, .junk, .junk, .junk, .junk, .junk, .junk, .junk, .junk, .junk, .junk, .junk, .junk, .junk, .junk, .junk, .junk, .junk, .junk, .junk, .junk, .junk, .junk, .junk, .junk, .junk, .junk, .junk, .junk, .junk, .junk, .junk, .junk, .junk], [⟨true, g0, 1, true, (rowI v0), true⟩]⟩) : G Try.prog E (f29K1 Try.prog) (f29S1 ns ws v0 i g0) :=
  segC_step (n := 400) (ds := []) (cs := []) (live := [0, 1, 8, 9, 10, 11]) (m := 1) (evs := [.b true, .ld (.int .i64 e), .v (.rsl (rowI (splitI e ws)) 0 ((splitI e ws).length)), .stop]) (obs := [(decide (((i : Nat) : Int) < ((ns.length : Nat) : Int))) = true, 0 ≤ ((i : Nat) : Int) ∧ ((i : Nat) : Int) < ((ns.length : Nat) : Int), ((rowI ns).drop (0 + (Int.toNat ((i : Nat) : Int)) * 1)).take 1 = [.int .i64 e], PureF Try.prog (.clos 40 [] []) [.int .i64 e, .rsl (rowI ws) 0 ws.length] (.rsl (rowI (splitI e ws)) 0 ((splitI e ws).length))]) hE.2.1 (hE.nogh _) mixed (by kernel_rfl) ⟨o0, o2, o3, o4, trivial⟩ hg
theorem p29_1_1 (ns : (List Int)) (ws : (List Int)) (v0 : List Int) (i : Nat) (g0 : Nat)  {E : Env} {rv : AV} (hE : PureE Try.prog 29 rv E) (o0 : (decide (((i : Nat) : Int) < ((ns.length : Nat) : Int))) = false) (o1 : PureF Try.prog (.clos 21 [] []) [.rsl (rowI ns) 0 ns.length] (.int .i64 (sumI ns))) (o2 : PureF Try.prog (.clos 40 [] []) [.int .i64 (sumI ns), .rsl (rowI ws) 0 ws.length] (.rsl (rowI (splitI (sumI ns) ws)) 0 ((splitI (sumI ns) ws).length)))
    (hg : G Try.prog E (f29K3 Try.prog) ⟨[.junk, .junk, .junk, .junk, .junk, .junk, .junk, .junk, .sl 0 g0 0 v0.length 1, .junk, .junk, .junk, .rsl (rowI (splitI (sumI ns) ws)) 0 ((splitI (sumI ns) ws).length), .int .i64 0, .int .i64 0, .junk, .junk, .junk, .junk, .junk, .junk, .junk, .junk, .junk, .junk, .junk, .junk, .junk, .junk, .junk, .junk, .junk, .junk, .junk, .junk, .junk, .junk, .junk, .junk, .junk, .junk, .junk, .junk, .junk, .junk, .junk, .junk, .junk, .junk, .junk, .junk, .junk, .junk, .junk, .junk, .junk, .junk, .junk, .junk, .junk, .junk, .junk, .junk, .junk, .junk, .junk, .junk, .junk, .junk, .junk, .junk, .junk, .junk, .junk, .junk, .junk, .junk, .junk, .junk, .junk, .junk, .junk, .junk, .junk, .junk, .junk, .junk, .junk, .junk, .junk, .junk, .junk, .junk, .junk, .junk, .junk, .junk, .junk, .junk, .junk], [⟨true, g0, 1, true, (rowI v0), true⟩]⟩) : G Try.prog E (f29K1 Try.prog) (f29S1 ns ws v0 i g0) :=
  segC_step (n := 400) (ds := []) (cs := []) (live := [8, 12, 13, 14]) (m := 1) (evs := [.b false, .v (.int .i64 (sumI ns)), .v (.rsl (rowI (splitI (sumI ns) ws)) 0 ((splitI (sumI ns) ws).length)), .stop]) (obs := [(decide (((i : Nat) : Int) < ((ns.length : Nat) : Int))) = false, PureF Try.prog (.clos 21 [] []) [.rsl (rowI ns) 0 ns.length] (.int .i64 (sumI ns)), PureF Try.prog (.clos 40 [] []) [.int .i64 (sumI ns), .rsl (rowI ws) 0 ws.length] (.rsl (rowI (splitI (sumI ns) ws)) 0 ((splitI (sumI ns) ws).length))]) hE.2.1 (hE.nogh _) mixed (by kernel_rfl) ⟨o0, o1, o2, trivial⟩ hg
theorem f29W1 (ns : (List Int)) (ws : (List Int)) (v0 : List Int) (i : Nat) {E : Env} {rv : ((List Int) × Int × Int)} (hE : PureE Try.prog 29 (.tup [.rsl (rowI rv.1) 0 rv.1.length, .int .i64 rv.2.1, .int .i64 rv.2.2]) E)
    (h : ((((i : Nat) : Int) < ((ns.length : Nat) : Int) → (∃ e : Int, ns[i]? = some e ∧ ((SplitOk e ws) ∧ f29G2 E ns ws (splitI e ws) v0 0 i))) ∧ (¬ (((i : Nat) : Int) < ((ns.length : Nat) : Int)) → ((SumOk ns) ∧ ((SplitOk (sumI ns) ws) ∧ f29G3 E ns ws v0 0 0))))) : f29G1 E ns ws v0 i := by
  intro g0
  rcases Bool.eq_false_or_eq_true (decide (((i : Nat) : Int) < ((ns.length : Nat) : Int))) with hc0 | hc0
  · have h := h.1 (of_decide_eq_true hc0)
    obtain ⟨e, h1, h⟩ := h
    obtain ⟨h2, h⟩ := h
    exact p29_1_0 ns ws v0 i g0 e hE hc0 (idx_ok h1) (row_part cI (s := 1) (k := 0) (m := 1) (fun _ => rfl) (by decide) h1) (pureF_of Try.func40 (by kernel_rfl) f40b (splitR_ok e ws h2)) (h g0)
  · have h := h.2 (of_decide_eq_false hc0)
    obtain ⟨h1, h⟩ := h
    obtain ⟨h2, h⟩ := h
    exact p29_1_1 ns ws v0 i g0  hE hc0 (pureF_of Try.func21 (by kernel_rfl) f21b (sumR_ok ns h1)) (pureF_of Try.func40 (by kernel_rfl) f40b (splitR_ok (sumI ns) ws h2)) (h g0)
theorem p29_2_0 (ns : (List Int)) (ws : (List Int)) (one : (List Int)) (v0 : List Int) (k : Nat) (i : Nat) (g0 : Nat) (e : Int) (e1 : Int)  {E : Env} {rv : AV} (hE : PureE Try.prog 29 rv E) (o1 : (decide (((k : Nat) : Int) < ((v0.length : Nat) : Int))) = true) (o3 : 0 ≤ ((k : Nat) : Int) ∧ ((k : Nat) : Int) < ((v0.length : Nat) : Int)) (o6 : ((rowI v0).drop (0 + (Int.toNat ((k : Nat) : Int)) * 1)).take 1 = [.int .i64 e]) (o8 : 0 ≤ ((k : Nat) : Int) ∧ ((k : Nat) : Int) < ((one.length : Nat) : Int)) (o9 : ((rowI one).drop (0 + (Int.toNat ((k : Nat) : Int)) * 1)).take 1 = [.int .i64 e1]) (o10 : InR .i64 (e + e1)) (o11 : 0 ≤ ((k : Nat) : Int) ∧ ((k : Nat) : Int) < ((v0.length : Nat) : Int)) (o13 : ((0 + (Int.toNat ((k : Nat) : Int)) * 1) + 1) ≤ (rowI v0).length) (o15 : InR .i64 (((k : Nat) : Int) + 1))
    (hg : G Try.prog E (f29K2 Try.prog) ⟨[.rsl (rowI ns) 0 ns.length, .rsl (rowI ws) 0 ws.length, .junk, .junk, .junk, .junk, .junk, .junk, .sl 0 g0 0 v0.length 1, .int .i64 ((i : Nat) : Int), .rsl (rowI one) 0 one.length, .int .i64 (((k : Nat) : Int) + 1), .junk, .junk, .junk, .junk, .junk, .junk, .junk, .junk, .junk, .junk, .junk, .junk, .junk, .junk, .junk, .junk, .junk, .junk, .junk, .junk, .junk, .junk, .junk, .junk, .junk, .junk, .junk, .junk, .junk, .junk, .junk, .junk, .junk, .junk, .junk, .junk, .junk, .junk, .junk, .junk, .junk, .junk, .junk, .junk, .junk, .junk, .junk, .junk, .junk, .junk, .junk, .junk, .junk, .junk, .junk, .junk, .junk, .junk, .junk, .junk, .junk, .junk, .junk, .junk, .junk, .junk, .junk, .junk, .junk, .junk, .junk, .junk, .junk, .junk, .junk, .junk, .junk, .junk, .junk, .junk, .junk, .junk, .junk, .junk, .junk, .junk, .junk, .junk], [⟨true, g0, 1, true, (setAt (rowI v0) (0 + (Int.toNat ((k : Nat) : Int)) * 1) [.int .i64 (e + e1)]), true⟩]⟩) : G Try.prog E (f29K2 Try.prog) (f29S2 ns ws one v0 k i g0) :=
  segC_step (n := 400) (ds := []) (cs := []) (live := [0, 1, 8, 9, 10, 11]) (m := 1) (evs := [.b true, .ld (.int .i64 e), .ld (.int .i64 e1), .stop]) (obs := [g0 = g0, (decide (((k : Nat) : Int) < ((v0.length : Nat) : Int))) = true, 0 ≤ ((k : Nat) : Int) ∧ ((k : Nat) : Int) < ((v0.length : Nat) : Int), g0 = g0, g0 = g0, ((rowI v0).drop (0 + (Int.toNat ((k : Nat) : Int)) * 1)).take 1 = [.int .i64 e], 0 ≤ ((k : Nat) : Int) ∧ ((k : Nat) : Int) < ((one.length : Nat) : Int), ((rowI one).drop (0 + (Int.toNat ((k : Nat) : Int)) * 1)).take 1 = [.int .i64 e1], InR .i64 (e + e1), 0 ≤ ((k : Nat) : Int) ∧ ((k : Nat) : Int) < ((v0.length : Nat) : Int), g0 = g0, ((0 + (Int.toNat ((k : Nat) : Int)) * 1) + 1) ≤ (rowI v0).length, g0 = g0, InR .i64 (((k : Nat) : Int) + 1)]) hE.2.1 (hE.nogh _) mixed (by kernel_rfl) ⟨(rfl), o1, o3, (rfl), (rfl), o6, o8, o9, o10, o11, (rfl), o13, (rfl), o15, trivial⟩ hg
theorem p29_2_1 (ns : (List Int)) (ws : (List Int)) (one : (List Int)) (v0 : List Int) (k : Nat) (i : Nat) (g0 : Nat)  {E : Env} {rv : AV} (hE : PureE Try.prog 29 rv E) (o1 : (decide (((k : Nat) : Int) < ((v0.length : Nat) : Int))) = false) (o2 : InR .i64 (((i : Nat) : Int) + 1))
    (hg : G Try.prog E (f29K1 Try.prog) ⟨[.rsl (rowI ns) 0 ns.length, .rsl (rowI ws) 0 ws.length, .junk, .junk, .junk, .junk, .junk, .junk, .sl 0 g0 0 v0.length 1, .int .i64 (((i : Nat) : Int) + 1), .junk, .junk, .junk, .junk, .junk, .junk, .junk, .junk, .junk, .junk, .junk, .junk, .junk, .junk, .junk, .junk, .junk, .junk, .junk, .junk, .junk, .junk, .junk, .junk, .junk, .junk, .junk, .junk, .junk, .junk, .junk, .junk, .junk, .junk, .junk, .junk, .junk, .junk, .junk, .junk, .junk, .junk, .junk, .junk, .junk, .junk, .junk, .junk, .junk, .junk, .junk, .junk, .junk, .junk, .junk, .junk, .junk, .junk, .junk, .junk, .junk, .junk, .junk, .junk, .junk, .junk, .junk, .junk, .junk, .junk, .junk, .junk, .junk, .junk, .junk, .junk, .junk, .junk, .junk, .junk, .junk, .junk, .junk, .junk, .junk, .junk, .junk, .junk, .junk, .junk], [⟨true, g0, 1, true, (rowI v0), true⟩]⟩) : G Try.prog E (f29K2 Try.prog) (f29S2 ns ws one v0 k i g0) :=
  segC_step (n := 400) (ds := []) (cs := []) (live := [0, 1, 8, 9]) (m := 1) (evs := [.b false, .stop]) (obs := [g0 = g0, (decide (((k : Nat) : Int) < ((v0.length : Nat) : Int))) = false, InR .i64 (((i : Nat) : Int) + 1)]) hE.2.1 (hE.nogh _) mixed (by kernel_rfl) ⟨(rfl), o1, o2, trivial⟩ hg
theorem f29W2 (ns : (List Int)) (ws : (List Int)) (one : (List Int)) (v0 : List Int) (k : Nat) (i : Nat) {E : Env} {rv : ((List Int) × Int × Int)} (hE : PureE Try.prog 29 (.tup [.rsl (rowI rv.1) 0 rv.1.length, .int .i64 rv.2.1, .int .i64 rv.2.2]) E)
    (h : ((((k : Nat) : Int) < ((v0.length : Nat) : Int) → (∃ e : Int, v0[k]? = some e ∧ (∃ e1 : Int, one[k]? = some e1 ∧ ((-9223372036854775808 ≤ e + e1 ∧ e + e1 ≤ 9223372036854775807) ∧ ((-9223372036854775808 ≤ ((k : Nat) : Int) + 1 ∧ ((k : Nat) : Int) + 1 ≤ 9223372036854775807) ∧ f29G2 E ns ws one (v0.set k (e + e1)) (k + 1) i))))) ∧ (¬ (((k : Nat) : Int) < ((v0.length : Nat) : Int)) → ((-9223372036854775808 ≤ ((i : Nat) : Int) + 1 ∧ ((i : Nat) : Int) + 1 ≤ 9223372036854775807) ∧ f29G1 E ns ws v0 (i + 1))))) : f29G2 E ns ws one v0 k i := by
  intro g0
  rcases Bool.eq_false_or_eq_true (decide (((k : Nat) : Int) < ((v0.length : Nat) : Int))) with hc0 | hc0
  · have h := h.1 (of_decide_eq_true hc0)
    obtain ⟨e, h1, h⟩ := h
    obtain ⟨e1, h2, h⟩ := h
    obtain ⟨q10_1, h⟩ := h
    obtain ⟨q15_1, h⟩ := h
    refine p29_2_0 ns ws one v0 k i g0 e e1 hE hc0 (idx_ok h1) (row_part cI (s := 1) (k := 0) (m := 1) (fun _ => rfl) (by decide) h1) (idx_ok h2) (row_part cI (s := 1) (k := 0) (m := 1) (fun _ => rfl) (by decide) h2) q10_1 (idx_ok h1) (row_fits cI (s := 1) (k := 0) (m := 1) (fun _ => rfl) (by decide) h1) q15_1 ?_
    have h := (h g0)
    simp only [f29S2, List.length_set] at h
    rw [(show setAt (rowI v0) (0 + (Int.toNat ((k : Nat) : Int)) * 1) [.int .i64 (e + e1)] = rowI (v0.set k (e + e1)) from row_set cI (s := 1) (k := 0) (fun _ => rfl) h1 rfl (by first | decide | simp))]
    exact h
  · have h := h.2 (of_decide_eq_false hc0)
    obtain ⟨q2_1, h⟩ := h
    exact p29_2_1 ns ws one v0 k i g0  hE hc0 q2_1 (h g0)
theorem p29_3_0 (ns : (List Int)) (ws : (List Int)) (v0 : List Int) (off : Int) (k : Nat) (g0 : Nat) (e : Int) (e1 : Int)  {E : Env} {rv : AV} (hE : PureE Try.prog 29 rv E) (o1 : (decide (((k : Nat) : Int) < ((v0.length : Nat) : Int))) = true) (o3 : 0 ≤ ((k : Nat) : Int) ∧ ((k : Nat) : Int) < ((v0.length : Nat) : Int)) (o6 : ((rowI v0).drop (0 + (Int.toNat ((k : Nat) : Int)) * 1)).take 1 = [.int .i64 e]) (o8 : 0 ≤ ((k : Nat) : Int) ∧ ((k : Nat) : Int) < (((splitI (sumI ns) ws).length : Nat) : Int)) (o9 : ((rowI (splitI (sumI ns) ws)).drop (0 + (Int.toNat ((k : Nat) : Int)) * 1)).take 1 = [.int .i64 e1]) (o10 : InR .i64 (e - e1)) (o11 : 0 ≤ ((k : Nat) : Int) ∧ ((k : Nat) : Int) < (((splitI (sumI ns) ws).length : Nat) : Int)) (o12 : ((rowI (splitI (sumI ns) ws)).drop (0 + (Int.toNat ((k : Nat) : Int)) * 1)).take 1 = [.int .i64 e1]) (o13 : 0 ≤ ((k : Nat) : Int) ∧ ((k : Nat) : Int) < ((v0.length : Nat) : Int)) (o16 : ((rowI v0).drop (0 + (Int.toNat ((k : Nat) : Int)) * 1)).take 1 = [.int .i64 e]) (o17 : InR .i64 (e1 - e)) (o18 : InR .i64 (((k : Nat) : Int) + 1))
    (hg : G Try.prog E (f29K3 Try.prog) ⟨[.junk, .junk, .junk, .junk, .junk, .junk, .junk, .junk, .sl 0 g0 0 v0.length 1, .junk, .junk, .junk, .rsl (rowI (splitI (sumI ns) ws)) 0 ((splitI (sumI ns) ws).length), .int .i64 (iMax (iMax off (e - e1)) (e1 - e)), .int .i64 (((k : Nat) : Int) + 1), .junk, .junk, .junk, .junk, .junk, .junk, .junk, .junk, .junk, .junk, .junk, .junk, .junk, .junk, .junk, .junk, .junk, .junk, .junk, .junk, .junk, .junk, .junk, .junk, .junk, .junk, .junk, .junk, .junk, .junk, .junk, .junk, .junk, .junk, .junk, .junk, .junk, .junk, .junk, .junk, .junk, .junk, .junk, .junk, .junk, .junk, .junk, .junk, .junk, .junk, .junk, .junk, .junk, .junk, .junk, .junk, .junk, .junk, .junk, .junk, .junk, .junk, .junk, .junk, .junk, .junk, .junk, .junk, .junk, .junk, .junk, .junk, .junk, .junk, .junk, .junk, .junk, .junk, .junk, .junk, .junk, .junk, .junk, .junk, .junk], [⟨true, g0, 1, true, (rowI v0), true⟩]⟩) : G Try.prog E (f29K3 Try.prog) (f29S3 ns ws v0 off k g0) :=
  segC_step (n := 400) (ds := []) (cs := []) (live := [8, 12, 13, 14]) (m := 1) (evs := [.b true, .ld (.int .i64 e), .ld (.int .i64 e1), .ld (.int .i64 e1), .ld (.int .i64 e), .stop]) (obs := [g0 = g0, (decide (((k : Nat) : Int) < ((v0.length : Nat) : Int))) = true, 0 ≤ ((k : Nat) : Int) ∧ ((k : Nat) : Int) < ((v0.length : Nat) : Int), g0 = g0, g0 = g0, ((rowI v0).drop (0 + (Int.toNat ((k : Nat) : Int)) * 1)).take 1 = [.int .i64 e], 0 ≤ ((k : Nat) : Int) ∧ ((k : Nat) : Int) < (((splitI (sumI ns) ws).length : Nat) : Int), ((rowI (splitI (sumI ns) ws)).drop (0 + (Int.toNat ((k : Nat) : Int)) * 1)).take 1 = [.int .i64 e1], InR .i64 (e - e1), 0 ≤ ((k : Nat) : Int) ∧ ((k : Nat) : Int) < (((splitI (sumI ns) ws).length : Nat) : Int), ((rowI (splitI (sumI ns) ws)).drop (0 + (Int.toNat ((k : Nat) : Int)) * 1)).take 1 = [.int .i64 e1], 0 ≤ ((k : Nat) : Int) ∧ ((k : Nat) : Int) < ((v0.length : Nat) : Int), g0 = g0, g0 = g0, ((rowI v0).drop (0 + (Int.toNat ((k : Nat) : Int)) * 1)).take 1 = [.int .i64 e], InR .i64 (e1 - e), InR .i64 (((k : Nat) : Int) + 1)]) hE.2.1 (hE.nogh _) mixed (by kernel_rfl) ⟨(rfl), o1, o3, (rfl), (rfl), o6, o8, o9, o10, o11, o12, o13, (rfl), (rfl), o16, o17, o18, trivial⟩ hg
theorem p29_3_1 (ns : (List Int)) (ws : (List Int)) (v0 : List Int) (off : Int) (k : Nat) (g0 : Nat)  {E : Env} {res : AV} (hE : PureE Try.prog 29 res E) (o1 : (decide (((k : Nat) : Int) < ((v0.length : Nat) : Int))) = false)
    (hr : AvLe (.tup [.rsl (rowI v0) 0 v0.length, .int .i64 off, .int .i64 0]) res) : G Try.prog E (f29K3 Try.prog) (f29S3 ns ws v0 off k g0) :=
  end_stepL (n := 400) (evs := [.b false]) (obs := [g0 = g0, (decide (((k : Nat) : Int) < ((v0.length : Nat) : Int))) = false, g0 = g0]) hE Try.func29 mixed (by kernel_rfl) ⟨(rfl), o1, (rfl), trivial⟩ hr
theorem f29W3 (ns : (List Int)) (ws : (List Int)) (v0 : List Int) (off : Int) (k : Nat) {E : Env} {rv : ((List Int) × Int × Int)} (hE : PureE Try.prog 29 (.tup [.rsl (rowI rv.1) 0 rv.1.length, .int .i64 rv.2.1, .int .i64 rv.2.2]) E)
    (h : ((((k : Nat) : Int) < ((v0.length : Nat) : Int) → (∃ e : Int, v0[k]? = some e ∧ (∃ e1 : Int, (splitI (sumI ns) ws)[k]? = some e1 ∧ ((-9223372036854775808 ≤ e - e1 ∧ e - e1 ≤ 9223372036854775807) ∧ ((-9223372036854775808 ≤ e1 - e ∧ e1 - e ≤ 9223372036854775807) ∧ ((-9223372036854775808 ≤ ((k : Nat) : Int) + 1 ∧ ((k : Nat) : Int) + 1 ≤ 9223372036854775807) ∧ f29G3 E ns ws v0 (iMax (iMax off (e - e1)) (e1 - e)) (k + 1))))))) ∧ (¬ (((k : Nat) : Int) < ((v0.length : Nat) : Int)) → rv = (v0, off, 0)))) : f29G3 E ns ws v0 off k := by
  intro g0
  rcases Bool.eq_false_or_eq_true (decide (((k : Nat) : Int) < ((v0.length : Nat) : Int))) with hc0 | hc0
  · have h := h.1 (of_decide_eq_true hc0)
    obtain ⟨e, h1, h⟩ := h
    obtain ⟨e1, h2, h⟩ := h
    obtain ⟨q10_1, h⟩ := h
    obtain ⟨q17_1, h⟩ := h
    obtain ⟨q18_1, h⟩ := h
    exact p29_3_0 ns ws v0 off k g0 e e1 hE hc0 (idx_ok h1) (row_part cI (s := 1) (k := 0) (m := 1) (fun _ => rfl) (by decide) h1) (idx_ok h2) (row_part cI (s := 1) (k := 0) (m := 1) (fun _ => rfl) (by decide) h2) q10_1 (idx_ok h2) (row_part cI (s := 1) (k := 0) (m := 1) (fun _ => rfl) (by decide) h2) (idx_ok h1) (row_part cI (s := 1) (k := 0) (m := 1) (fun _ => rfl) (by decide) h1) q17_1 q18_1 (h g0)
  · have h := h.2 (of_decide_eq_false hc0)
    exact p29_3_1 ns ws v0 off k g0  hE hc0 (AvLe.of_eq (by rw [h]; try rfl))

def addV (v s : List Int) : List Int := List.zipWith (· + ·) v s
def partsN (ns ws : List Int) : List Int := ns.foldl (fun v e => addV v (splitI e ws)) (List.replicate ws.length 0)
def offStep (o : Int) (p : Int × Int) : Int := iMax (iMax o (p.1 - p.2)) (p.2 - p.1)
def offI (v a : List Int) : Int := (v.zip a).foldl offStep 0
def nightsK (ns ws : List Int) : List Int × Int × Int :=
  if ((ns.length : Nat) : Int) > 60 then ([], 0, 2) else if (!ns.any fun x => !amount x) = false then ([], 0, 1) else if amount (sumI ns) = false then ([], 0, 1) else
  if weightedB ws = false then ([], 0, 110) else (partsN ns ws, offI (partsN ns ws) (splitI (sumI ns) ws), 0)

theorem addV_len {v s : List Int} (h : s.length = v.length) : (addV v s).length = v.length := by simp [addV, h]
theorem addV_get {v s : List Int} {i : Nat} (h : s.length = v.length) : (addV v s).getD i 0 = v.getD i 0 + s.getD i 0 := by
  by_cases hi : i < v.length
  · have e1 : v[i]? = some v[i] := List.getElem?_eq_getElem hi
    have e2 : s[i]? = some (s[i]'(by omega)) := List.getElem?_eq_getElem (by omega)
    simp [addV, List.getD, List.getElem?_zipWith, e1, e2]
  · have e1 : v[i]? = none := List.getElem?_eq_none (by omega)
    simp [addV, List.getD, List.getElem?_zipWith, e1, List.getElem?_eq_none (show s.length ≤ i by omega)]
theorem addV_sum : ∀ {v s : List Int}, s.length = v.length → (addV v s).sum = v.sum + s.sum
  | [], [], _ => rfl
  | x :: v, y :: s, h => by
    have := addV_sum (v := v) (s := s) (by simpa using h)
    simp only [addV, List.zipWith_cons_cons, List.sum_cons] at *; omega

/-- Behind the first 'k' numbers. -/
def mixV (v s : List Int) (k : Nat) : List Int := addV (v.take k) (s.take k) ++ v.drop k
theorem mix_zero {v s : List Int} : mixV v s 0 = v := by simp [mixV, addV]
theorem mix_all {v s : List Int} (h : s.length = v.length) : mixV v s v.length = addV v s := by simp [mixV, ← h]; rw [h]; simp
theorem mix_len {v s : List Int} {k : Nat} (h : s.length = v.length) (hk : k ≤ v.length) : (mixV v s k).length = v.length := by simp [mixV, addV]; omega
theorem mix_step {v s : List Int} {k : Nat} {x y : Int} (h : s.length = v.length) (hx : v[k]? = some x) (hy : s[k]? = some y) : (mixV v s k)[k]? = some x ∧ (mixV v s k).set k (x + y) = mixV v s (k + 1) := by
  have hk := (List.getElem?_eq_some_iff.1 hx).1
  have hl : (addV (v.take k) (s.take k)).length = k := by simp [addV]; omega
  have hd : v.drop k = x :: v.drop (k + 1) := by
    rw [List.drop_eq_getElem_cons hk]; congr 1
    exact (List.getElem?_eq_some_iff.1 hx).2
  constructor
  · rw [mixV, List.getElem?_append_right (by omega), hl, Nat.sub_self, hd]; rfl
  · rw [mixV, List.set_append_right _ _ (by omega), hl, Nat.sub_self, hd, List.set_cons_zero, mixV]
    rw [List.take_add_one, List.take_add_one, hx, hy]
    simp only [addV, Option.toList_some]
    rw [List.zipWith_append (by simp; omega)]
    simp

theorem parts_bd {c : Int} {ws : List Int} (ok : SplitOk c ws) : ∀ x ∈ splitI c ws, 0 ≤ x ∧ x ≤ 1000000000001 := fun x hx => by
  obtain ⟨i, hi⟩ := List.getElem?_of_mem hx
  have hi' := (List.getElem?_eq_some_iff.1 hi).1
  have hl := (parts_of ok).len
  have hwi : ws[i]? = some ws[i] := List.getElem?_eq_getElem (by omega)
  have h1 := share_bd ok.pos ok.c0 (ok.w _ (List.mem_of_getElem? hwi)).1
  have h2 := mul_le_of ⟨ok.c0, ok.c1⟩ (ok.w _ (List.mem_of_getElem? hwi))
  rcases (parts_of ok).low i _ _ hwi hi with h3 | h3 <;> omega

theorem addV_bd {v s : List Int} {A B : Int} (h : s.length = v.length) (hv : ∀ x ∈ v, 0 ≤ x ∧ x ≤ A) (hs : ∀ x ∈ s, 0 ≤ x ∧ x ≤ B) : ∀ x ∈ addV v s, 0 ≤ x ∧ x ≤ A + B := fun x hx => by
  obtain ⟨i, hi⟩ := List.getElem?_of_mem hx
  have hi' := (List.getElem?_eq_some_iff.1 hi).1
  rw [addV_len h] at hi'
  have e1 : v[i]? = some v[i] := List.getElem?_eq_getElem hi'
  have e2 : s[i]? = some (s[i]'(by omega)) := List.getElem?_eq_getElem (by omega)
  have : (addV v s)[i]? = some (v[i] + s[i]'(by omega)) := by simp [addV, List.getElem?_zipWith, e1, e2]
  rw [hi] at this
  have h1 := hv _ (List.mem_of_getElem? e1)
  have h2 := hs _ (List.mem_of_getElem? e2)
  have := Option.some.inj this
  omega

theorem amtAll_of {ns : List Int} (h : (!ns.any fun x => !amount x) = true) : ∀ x ∈ ns, 0 ≤ x ∧ x ≤ 1000000000 := fun x hx => by
  have : (ns.any fun x => !amount x) = false := by simpa using h
  rw [List.any_eq_false] at this
  have := this x hx
  exact within_iff.1 (show amount x = true by simpa using this)

theorem sumOk_amounts {ns : List Int} (hl : ns.length ≤ 60) (h : ∀ x ∈ ns, 0 ≤ x ∧ x ≤ 1000000000) : SumOk ns := sumOk_bd (B := 1000000000) (by omega) (by omega) (by omega) h

theorem zip_step {v a : List Int} {j : Nat} {x y : Int} (hx : v[j]? = some x) (hy : a[j]? = some y) : (v.zip a).take (j + 1) = (v.zip a).take j ++ [(x, y)] := by
  have : (v.zip a)[j]? = some (x, y) := by rw [List.zip, List.getElem?_zipWith, hx, hy]
  rw [List.take_add_one, this]; rfl

theorem NightsP_ok (ns ws : List Int) (h : ns.length ≤ 9223372036854775807 ∧ ws.length ≤ 17592186044416) : Pure Try.prog 28 [.rsl (rowI ns) 0 ns.length, .rsl (rowI ws) 0 ws.length]
    (.tup [.rsl (rowI (nightsK ns ws).1) 0 (nightsK ns ws).1.length, .int .i64 (nightsK ns ws).2.1, .int .i64 (nightsK ns ws).2.2]) := pure_of Try.func28 f28b fun E hE => by
  refine f28W ns ws (rv := nightsK ns ws) hE ⟨fun h1 => by rw [nightsK, if_pos h1], fun h1 => ⟨h.1, fun h2 => by rw [nightsK, if_neg h1, if_pos h2], fun h2 => ?_⟩⟩
  have ha := amtAll_of h2
  have n2 : ¬ (!ns.any fun x => !amount x) = false := by rw [h2]; simp
  refine ⟨sumOk_amounts (by omega) ha, fun h3 => by rw [nightsK, if_neg h1, if_neg n2, if_pos h3], fun h3 => ⟨by omega, fun h4 => by rw [nightsK, if_neg h1, if_neg n2, if_neg (by rw [h3]; simp), if_pos h4], fun h4 => ?_⟩⟩
  have hr : nightsK ns ws = (partsN ns ws, offI (partsN ns ws) (splitI (sumI ns) ws), 0) := by rw [nightsK, if_neg h1, if_neg n2, if_neg (by rw [h3]; simp), if_neg (by rw [h4]; simp)]
  have okS : ∀ e, (0 ≤ e ∧ e ≤ 1000000000) → SplitOk e ws := fun e he => split_of he h4
  have okA := okS (sumI ns) (within_iff.1 h3)
  have hlen := okA.len
  refine ⟨by omega, ?_⟩
  -- how far off
  have offs : ∀ (d j : Nat) (v : List Int) (o : Int), j + d = ws.length → v.length = ws.length → v = partsN ns ws → (∀ x ∈ v, 0 ≤ x ∧ x ≤ 1000000000000000) → o = ((v.zip (splitI (sumI ns) ws)).take j).foldl offStep 0 → f28G2 E ns ws v o j := by
    intro d
    induction d with
    | zero =>
      intro j v o hd hl hv hb ho
      refine f28W2 ns ws v o j (rv := nightsK ns ws) hE ⟨fun h => by rw [splitI_len] at h; omega, fun _ => ?_⟩
      rw [List.take_of_length_le (by simp [hl, splitI_len]; omega)] at ho
      rw [hr, ← hv, ho]; rfl
    | succ d ih =>
      intro j v o hd hl hv hb ho
      have hj : j < (splitI (sumI ns) ws).length := by rw [splitI_len]; omega
      have ha : (splitI (sumI ns) ws)[j]? = some (splitI (sumI ns) ws)[j] := List.getElem?_eq_getElem hj
      have hvj : v[j]? = some v[j] := List.getElem?_eq_getElem (by omega)
      have b1 := parts_bd okA _ (List.mem_of_getElem? ha)
      have b2 := hb _ (List.mem_of_getElem? hvj)
      exact f28W2 ns ws v o j (rv := nightsK ns ws) hE ⟨fun _ => ⟨_, ha, _, hvj, by omega, by omega, by omega, ih (j + 1) v _ (by omega) hl hv hb (by rw [zip_step hvj ha, List.foldl_append, ← ho]; rfl)⟩, fun h => by rw [splitI_len] at h; omega⟩
  -- the nights
  have nights : ∀ (d i : Nat) (v : List Int), i + d = ns.length → v.length = ws.length → (∀ x ∈ v, 0 ≤ x ∧ x ≤ 1000000000001 * (i : Int)) → v = (ns.take i).foldl (fun v e => addV v (splitI e ws)) (List.replicate ws.length 0) → f28G0 E ns ws v i := by
    intro d
    induction d with
    | zero =>
      intro i v hd hl hb hv
      rw [List.take_of_length_le (by omega)] at hv
      exact f28W0 ns ws v i (rv := nightsK ns ws) hE ⟨fun h => by omega, fun _ => ⟨sumOk_amounts (by omega) ha, okA, offs ws.length 0 v 0 (by omega) hl hv (fun x hx => by have := hb x hx; omega) rfl⟩⟩
    | succ d ih =>
      intro i v hd hl hb hv
      have hi : ns[i]? = some ns[i] := List.getElem?_eq_getElem (by omega)
      have ok := okS _ (ha _ (List.mem_of_getElem? hi))
      have sb := parts_bd ok
      have sl : (splitI ns[i] ws).length = v.length := by rw [splitI_len, hl]
      refine f28W0 ns ws v i (rv := nightsK ns ws) hE ⟨fun _ => ⟨_, hi, ok, ?_⟩, fun h => by omega⟩
      have one : ∀ (d k : Nat), k + d = v.length → f28G1 E ns ws (splitI ns[i] ws) ((splitI ns[i] ws).length) (mixV v (splitI ns[i] ws) k) k i := by
        intro d
        induction d with
        | zero =>
          intro k hd
          have hk : k = v.length := by omega
          subst hk
          rw [mix_all sl]
          refine f28W1 ns ws _ _ _ _ i (rv := nightsK ns ws) hE ⟨fun h => by omega, fun _ => ⟨by omega, ih (i + 1) _ (by omega) (by rw [addV_len sl, hl]) (fun x hx => ?_) ?_⟩⟩
          · have := addV_bd sl hb sb x hx; omega
          · rw [List.take_add_one, hi, List.foldl_append, ← hv]; rfl
        | succ d ih2 =>
          intro k hd
          have hkl : k < (splitI ns[i] ws).length := by omega
          have a1 : (splitI ns[i] ws)[k]? = some (splitI ns[i] ws)[k] := List.getElem?_eq_getElem hkl
          have a2 : v[k]? = some v[k] := List.getElem?_eq_getElem (by omega)
          obtain ⟨m1, m2⟩ := mix_step sl a2 a1
          have b1 := sb _ (List.mem_of_getElem? a1)
          have b2 := hb _ (List.mem_of_getElem? a2)
          exact f28W1 ns ws _ _ _ k i (rv := nightsK ns ws) hE ⟨fun _ => ⟨_, a1, _, m1, by omega, by omega, by rw [m2]; exact ih2 (k + 1) (by omega)⟩, fun h => by omega⟩
      have := one v.length 0 (by omega)
      rwa [mix_zero] at this
  exact nights ns.length 0 _ (by omega) (by simp) (fun x hx => by rw [List.eq_of_mem_replicate hx]; omega) rfl

theorem NightsR_ok (ns ws : List Int) (h : ns.length ≤ 9223372036854775807 ∧ ws.length ≤ 17592186044416) : Pure Try.prog 29 [.rsl (rowI ns) 0 ns.length, .rsl (rowI ws) 0 ws.length]
    (.tup [.rsl (rowI (nightsK ns ws).1) 0 (nightsK ns ws).1.length, .int .i64 (nightsK ns ws).2.1, .int .i64 (nightsK ns ws).2.2]) := pure_of Try.func29 f29b fun E hE => by
  refine f29W ns ws (rv := nightsK ns ws) hE ⟨fun h1 => by rw [nightsK, if_pos h1], fun h1 => ?_⟩
  have chk : ∀ (d i : Nat), i + d = ns.length → (ns.any (fun x => !amount x)) = ((ns.drop i).any fun x => !amount x) → f29G0 E ns ws i := by
    intro d
    induction d with
    | succ d ih =>
      intro i hd hany
      have hi : ns[i]? = some ns[i] := List.getElem?_eq_getElem (by omega)
      rw [List.drop_eq_getElem_cons (by omega), List.any_cons] at hany
      refine f29W0 ns ws i (rv := nightsK ns ws) hE ⟨fun _ => ⟨_, hi, fun h3 => ?_, fun h3 => ⟨by omega, ih (i + 1) (by omega) (by rw [hany]; simp [h3])⟩⟩, fun h => by omega⟩
      rw [nightsK, if_neg h1, if_pos (by rw [hany]; simp [h3])]
    | zero =>
      intro i hd hany
      rw [List.drop_eq_nil_of_le (by omega)] at hany
      have h2 : (!ns.any fun x => !amount x) = true := by rw [hany]; rfl
      have ha := amtAll_of h2
      have n2 : ¬ (!ns.any fun x => !amount x) = false := by rw [h2]; simp
      refine f29W0 ns ws i (rv := nightsK ns ws) hE ⟨fun h => by omega, fun _ => ⟨sumOk_amounts (by omega) ha, fun h3 => by rw [nightsK, if_neg h1, if_neg n2, if_pos h3], fun h3 => ⟨h.2, fun h4 => by rw [nightsK, if_neg h1, if_neg n2, if_neg (by rw [h3]; simp), if_pos h4], fun h4 => ?_⟩⟩⟩
      have hr : nightsK ns ws = (partsN ns ws, offI (partsN ns ws) (splitI (sumI ns) ws), 0) := by rw [nightsK, if_neg h1, if_neg n2, if_neg (by rw [h3]; simp), if_neg (by rw [h4]; simp)]
      have okS : ∀ e, (0 ≤ e ∧ e ≤ 1000000000) → SplitOk e ws := fun e he => split_of he h4
      have okA := okS (sumI ns) (within_iff.1 h3)
      have hlen := okA.len
      refine ⟨by omega, ?_⟩
      -- how far off
      have offs : ∀ (d j : Nat) (v : List Int) (o : Int), j + d = ws.length → v.length = ws.length → v = partsN ns ws → (∀ x ∈ v, 0 ≤ x ∧ x ≤ 1000000000000000) → o = ((v.zip (splitI (sumI ns) ws)).take j).foldl offStep 0 → f29G3 E ns ws v o j := by
        intro d
        induction d with
        | zero =>
          intro j v o hd hl hv hb ho
          refine f29W3 ns ws v o j (rv := nightsK ns ws) hE ⟨fun h => by omega, fun _ => ?_⟩
          rw [List.take_of_length_le (by simp [hl, splitI_len]; omega)] at ho
          rw [hr, ← hv, ho]; rfl
        | succ d ih =>
          intro j v o hd hl hv hb ho
          have hj : j < (splitI (sumI ns) ws).length := by rw [splitI_len]; omega
          have ha : (splitI (sumI ns) ws)[j]? = some (splitI (sumI ns) ws)[j] := List.getElem?_eq_getElem hj
          have hvj : v[j]? = some v[j] := List.getElem?_eq_getElem (by omega)
          have b1 := parts_bd okA _ (List.mem_of_getElem? ha)
          have b2 := hb _ (List.mem_of_getElem? hvj)
          exact f29W3 ns ws v o j (rv := nightsK ns ws) hE ⟨fun _ => ⟨_, hvj, _, ha, by omega, by omega, by omega, ih (j + 1) v _ (by omega) hl hv hb (by rw [zip_step hvj ha, List.foldl_append, ← ho]; rfl)⟩, fun h => by omega⟩
      -- the nights
      have nights : ∀ (d i : Nat) (v : List Int), i + d = ns.length → v.length = ws.length → (∀ x ∈ v, 0 ≤ x ∧ x ≤ 1000000000001 * (i : Int)) → v = (ns.take i).foldl (fun v e => addV v (splitI e ws)) (List.replicate ws.length 0) → f29G1 E ns ws v i := by
        intro d
        induction d with
        | zero =>
          intro i v hd hl hb hv
          rw [List.take_of_length_le (by omega)] at hv
          exact f29W1 ns ws v i (rv := nightsK ns ws) hE ⟨fun h => by omega, fun _ => ⟨sumOk_amounts (by omega) ha, okA, offs ws.length 0 v 0 (by omega) hl hv (fun x hx => by have := hb x hx; omega) rfl⟩⟩
        | succ d ih =>
          intro i v hd hl hb hv
          have hi : ns[i]? = some ns[i] := List.getElem?_eq_getElem (by omega)
          have ok := okS _ (ha _ (List.mem_of_getElem? hi))
          have sb := parts_bd ok
          have sl : (splitI ns[i] ws).length = v.length := by rw [splitI_len, hl]
          refine f29W1 ns ws v i (rv := nightsK ns ws) hE ⟨fun _ => ⟨_, hi, ok, ?_⟩, fun h => by omega⟩
          have one : ∀ (d k : Nat), k + d = v.length → f29G2 E ns ws (splitI ns[i] ws) (mixV v (splitI ns[i] ws) k) k i := by
            intro d
            induction d with
            | zero =>
              intro k hd
              have hk : k = v.length := by omega
              subst hk
              rw [mix_all sl]
              refine f29W2 ns ws _ _ _ i (rv := nightsK ns ws) hE ⟨fun h => by rw [addV_len sl] at h; omega, fun _ => ⟨by omega, ih (i + 1) _ (by omega) (by rw [addV_len sl, hl]) (fun x hx => ?_) ?_⟩⟩
              · have := addV_bd sl hb sb x hx; omega
              · rw [List.take_add_one, hi, List.foldl_append, ← hv]; rfl
            | succ d ih2 =>
              intro k hd
              have hkl : k < (splitI ns[i] ws).length := by omega
              have a1 : (splitI ns[i] ws)[k]? = some (splitI ns[i] ws)[k] := List.getElem?_eq_getElem hkl
              have a2 : v[k]? = some v[k] := List.getElem?_eq_getElem (by omega)
              obtain ⟨m1, m2⟩ := mix_step sl a2 a1
              have b1 := sb _ (List.mem_of_getElem? a1)
              have b2 := hb _ (List.mem_of_getElem? a2)
              exact f29W2 ns ws _ _ k i (rv := nightsK ns ws) hE ⟨fun _ => ⟨_, m1, _, a1, by omega, by omega, by rw [m2]; exact ih2 (k + 1) (by omega)⟩, fun h => by rw [mix_len sl (by omega)] at h; omega⟩
          have := one v.length 0 (by omega)
          rwa [mix_zero] at this
      exact nights ns.length 0 _ (by omega) (by simp) (fun x hx => by rw [List.eq_of_mem_replicate hx]; omega) rfl
  exact chk ns.length 0 (by omega) (by simp)

theorem f9b : Try.f9.body = some (bodyAt Try.prog 9) := by kernel_rfl
theorem p9_start_0 (ns : (List Int)) (ws : (List Int))   {E : Env} {res : AV} (hE : PureE Try.prog 9 res E) (o0 : PureF Try.prog (.clos 28 [] []) [.rsl (rowI ns) 0 ns.length, .rsl (rowI ws) 0 ws.length] (.tup [.rsl (rowI ((nightsK ns ws).1)) 0 (((nightsK ns ws).1).length), .int .i64 ((nightsK ns ws).2.1), .int .i64 ((nightsK ns ws).2.2)])) (o1 : PureF Try.prog (.clos 29 [] []) [.rsl (rowI ns) 0 ns.length, .rsl (rowI ws) 0 ws.length] (.tup [.rsl (rowI ((nightsK ns ws).1)) 0 (((nightsK ns ws).1).length), .int .i64 ((nightsK ns ws).2.1), .int .i64 ((nightsK ns ws).2.2)])) (o2 : ((nightsK ns ws).2.1 != (nightsK ns ws).2.1) = true)
    (hr : AvLe (.bool false) res) : G Try.prog E [.code (bodyAt Try.prog 9)] ⟨[.rsl (rowI ns) 0 ns.length, .rsl (rowI ws) 0 ws.length] ++ unds (Try.f9.ntmps - 2), []⟩ :=
  end_stepL (n := 400) (evs := [.v (.tup [.rsl (rowI ((nightsK ns ws).1)) 0 (((nightsK ns ws).1).length), .int .i64 ((nightsK ns ws).2.1), .int .i64 ((nightsK ns ws).2.2)]), .v (.tup [.rsl (rowI ((nightsK ns ws).1)) 0 (((nightsK ns ws).1).length), .int .i64 ((nightsK ns ws).2.1), .int .i64 ((nightsK ns ws).2.2)]), .b true, .b true, .b true]) (obs := [PureF Try.prog (.clos 28 [] []) [.rsl (rowI ns) 0 ns.length, .rsl (rowI ws) 0 ws.length] (.tup [.rsl (rowI ((nightsK ns ws).1)) 0 (((nightsK ns ws).1).length), .int .i64 ((nightsK ns ws).2.1), .int .i64 ((nightsK ns ws).2.2)]), PureF Try.prog (.clos 29 [] []) [.rsl (rowI ns) 0 ns.length, .rsl (rowI ws) 0 ws.length] (.tup [.rsl (rowI ((nightsK ns ws).1)) 0 (((nightsK ns ws).1).length), .int .i64 ((nightsK ns ws).2.1), .int .i64 ((nightsK ns ws).2.2)]), ((nightsK ns ws).2.1 != (nightsK ns ws).2.1) = true, true = true, true = true]) hE Try.func9 mixed (by kernel_rfl) ⟨o0, o1, o2, (rfl), (rfl), trivial⟩ hr
theorem p9_start_1 (ns : (List Int)) (ws : (List Int))   {E : Env} {res : AV} (hE : PureE Try.prog 9 res E) (o0 : PureF Try.prog (.clos 28 [] []) [.rsl (rowI ns) 0 ns.length, .rsl (rowI ws) 0 ws.length] (.tup [.rsl (rowI ((nightsK ns ws).1)) 0 (((nightsK ns ws).1).length), .int .i64 ((nightsK ns ws).2.1), .int .i64 ((nightsK ns ws).2.2)])) (o1 : PureF Try.prog (.clos 29 [] []) [.rsl (rowI ns) 0 ns.length, .rsl (rowI ws) 0 ws.length] (.tup [.rsl (rowI ((nightsK ns ws).1)) 0 (((nightsK ns ws).1).length), .int .i64 ((nightsK ns ws).2.1), .int .i64 ((nightsK ns ws).2.2)])) (o2 : ((nightsK ns ws).2.1 != (nightsK ns ws).2.1) = false) (o3 : ((nightsK ns ws).2.2 != (nightsK ns ws).2.2) = true)
    (hr : AvLe (.bool false) res) : G Try.prog E [.code (bodyAt Try.prog 9)] ⟨[.rsl (rowI ns) 0 ns.length, .rsl (rowI ws) 0 ws.length] ++ unds (Try.f9.ntmps - 2), []⟩ :=
  end_stepL (n := 400) (evs := [.v (.tup [.rsl (rowI ((nightsK ns ws).1)) 0 (((nightsK ns ws).1).length), .int .i64 ((nightsK ns ws).2.1), .int .i64 ((nightsK ns ws).2.2)]), .v (.tup [.rsl (rowI ((nightsK ns ws).1)) 0 (((nightsK ns ws).1).length), .int .i64 ((nightsK ns ws).2.1), .int .i64 ((nightsK ns ws).2.2)]), .b false, .b true, .b true]) (obs := [PureF Try.prog (.clos 28 [] []) [.rsl (rowI ns) 0 ns.length, .rsl (rowI ws) 0 ws.length] (.tup [.rsl (rowI ((nightsK ns ws).1)) 0 (((nightsK ns ws).1).length), .int .i64 ((nightsK ns ws).2.1), .int .i64 ((nightsK ns ws).2.2)]), PureF Try.prog (.clos 29 [] []) [.rsl (rowI ns) 0 ns.length, .rsl (rowI ws) 0 ws.length] (.tup [.rsl (rowI ((nightsK ns ws).1)) 0 (((nightsK ns ws).1).length), .int .i64 ((nightsK ns ws).2.1), .int .i64 ((nightsK ns ws).2.2)]), ((nightsK ns ws).2.1 != (nightsK ns ws).2.1) = false, ((nightsK ns ws).2.2 != (nightsK ns ws).2.2) = true, true = true]) hE Try.func9 mixed (by kernel_rfl) ⟨o0, o1, o2, o3, (rfl), trivial⟩ hr
theorem p9_start_2 (ns : (List Int)) (ws : (List Int))   {E : Env} {res : AV} (hE : PureE Try.prog 9 res E) (o0 : PureF Try.prog (.clos 28 [] []) [.rsl (rowI ns) 0 ns.length, .rsl (rowI ws) 0 ws.length] (.tup [.rsl (rowI ((nightsK ns ws).1)) 0 (((nightsK ns ws).1).length), .int .i64 ((nightsK ns ws).2.1), .int .i64 ((nightsK ns ws).2.2)])) (o1 : PureF Try.prog (.clos 29 [] []) [.rsl (rowI ns) 0 ns.length, .rsl (rowI ws) 0 ws.length] (.tup [.rsl (rowI ((nightsK ns ws).1)) 0 (((nightsK ns ws).1).length), .int .i64 ((nightsK ns ws).2.1), .int .i64 ((nightsK ns ws).2.2)])) (o2 : ((nightsK ns ws).2.1 != (nightsK ns ws).2.1) = false) (o3 : ((nightsK ns ws).2.2 != (nightsK ns ws).2.2) = false) (o4 : PureF Try.prog (.clos 17 [] []) [.rsl (rowI ((nightsK ns ws).1)) 0 (((nightsK ns ws).1).length), .rsl (rowI ((nightsK ns ws).1)) 0 (((nightsK ns ws).1).length)] (.bool true)) (o5 : (!true) = true)
    (hr : AvLe (.bool false) res) : G Try.prog E [.code (bodyAt Try.prog 9)] ⟨[.rsl (rowI ns) 0 ns.length, .rsl (rowI ws) 0 ws.length] ++ unds (Try.f9.ntmps - 2), []⟩ :=
  end_stepL (n := 400) (evs := [.v (.tup [.rsl (rowI ((nightsK ns ws).1)) 0 (((nightsK ns ws).1).length), .int .i64 ((nightsK ns ws).2.1), .int .i64 ((nightsK ns ws).2.2)]), .v (.tup [.rsl (rowI ((nightsK ns ws).1)) 0 (((nightsK ns ws).1).length), .int .i64 ((nightsK ns ws).2.1), .int .i64 ((nightsK ns ws).2.2)]), .b false, .b false, .v (.bool true), .b true]) (obs := [PureF Try.prog (.clos 28 [] []) [.rsl (rowI ns) 0 ns.length, .rsl (rowI ws) 0 ws.length] (.tup [.rsl (rowI ((nightsK ns ws).1)) 0 (((nightsK ns ws).1).length), .int .i64 ((nightsK ns ws).2.1), .int .i64 ((nightsK ns ws).2.2)]), PureF Try.prog (.clos 29 [] []) [.rsl (rowI ns) 0 ns.length, .rsl (rowI ws) 0 ws.length] (.tup [.rsl (rowI ((nightsK ns ws).1)) 0 (((nightsK ns ws).1).length), .int .i64 ((nightsK ns ws).2.1), .int .i64 ((nightsK ns ws).2.2)]), ((nightsK ns ws).2.1 != (nightsK ns ws).2.1) = false, ((nightsK ns ws).2.2 != (nightsK ns ws).2.2) = false, PureF Try.prog (.clos 17 [] []) [.rsl (rowI ((nightsK ns ws).1)) 0 (((nightsK ns ws).1).length), .rsl (rowI ((nightsK ns ws).1)) 0 (((nightsK ns ws).1).length)] (.bool true), (!true) = true]) hE Try.func9 mixed (by kernel_rfl) ⟨o0, o1, o2, o3, o4, o5, trivial⟩ hr
theorem p9_start_3 (ns : (List Int)) (ws : (List Int))   {E : Env} {res : AV} (hE : PureE Try.prog 9 res E) (o0 : PureF Try.prog (.clos 28 [] []) [.rsl (rowI ns) 0 ns.length, .rsl (rowI ws) 0 ws.length] (.tup [.rsl (rowI ((nightsK ns ws).1)) 0 (((nightsK ns ws).1).length), .int .i64 ((nightsK ns ws).2.1), .int .i64 ((nightsK ns ws).2.2)])) (o1 : PureF Try.prog (.clos 29 [] []) [.rsl (rowI ns) 0 ns.length, .rsl (rowI ws) 0 ws.length] (.tup [.rsl (rowI ((nightsK ns ws).1)) 0 (((nightsK ns ws).1).length), .int .i64 ((nightsK ns ws).2.1), .int .i64 ((nightsK ns ws).2.2)])) (o2 : ((nightsK ns ws).2.1 != (nightsK ns ws).2.1) = false) (o3 : ((nightsK ns ws).2.2 != (nightsK ns ws).2.2) = false) (o4 : PureF Try.prog (.clos 17 [] []) [.rsl (rowI ((nightsK ns ws).1)) 0 (((nightsK ns ws).1).length), .rsl (rowI ((nightsK ns ws).1)) 0 (((nightsK ns ws).1).length)] (.bool true)) (o5 : (!true) = false) (o6 : ((nightsK ns ws).2.2 != 0) = true) (o8 : PureF Try.prog (.clos 20 [] []) [] (.bool true))
    (hr : AvLe (.bool true) res) : G Try.prog E [.code (bodyAt Try.prog 9)] ⟨[.rsl (rowI ns) 0 ns.length, .rsl (rowI ws) 0 ws.length] ++ unds (Try.f9.ntmps - 2), []⟩ :=
  end_stepL (n := 400) (evs := [.v (.tup [.rsl (rowI ((nightsK ns ws).1)) 0 (((nightsK ns ws).1).length), .int .i64 ((nightsK ns ws).2.1), .int .i64 ((nightsK ns ws).2.2)]), .v (.tup [.rsl (rowI ((nightsK ns ws).1)) 0 (((nightsK ns ws).1).length), .int .i64 ((nightsK ns ws).2.1), .int .i64 ((nightsK ns ws).2.2)]), .b false, .b false, .v (.bool true), .b false, .b true, .b true, .v (.bool true)]) (obs := [PureF Try.prog (.clos 28 [] []) [.rsl (rowI ns) 0 ns.length, .rsl (rowI ws) 0 ws.length] (.tup [.rsl (rowI ((nightsK ns ws).1)) 0 (((nightsK ns ws).1).length), .int .i64 ((nightsK ns ws).2.1), .int .i64 ((nightsK ns ws).2.2)]), PureF Try.prog (.clos 29 [] []) [.rsl (rowI ns) 0 ns.length, .rsl (rowI ws) 0 ws.length] (.tup [.rsl (rowI ((nightsK ns ws).1)) 0 (((nightsK ns ws).1).length), .int .i64 ((nightsK ns ws).2.1), .int .i64 ((nightsK ns ws).2.2)]), ((nightsK ns ws).2.1 != (nightsK ns ws).2.1) = false, ((nightsK ns ws).2.2 != (nightsK ns ws).2.2) = false, PureF Try.prog (.clos 17 [] []) [.rsl (rowI ((nightsK ns ws).1)) 0 (((nightsK ns ws).1).length), .rsl (rowI ((nightsK ns ws).1)) 0 (((nightsK ns ws).1).length)] (.bool true), (!true) = false, ((nightsK ns ws).2.2 != 0) = true, true = true, PureF Try.prog (.clos 20 [] []) [] (.bool true)]) hE Try.func9 mixed (by kernel_rfl) ⟨o0, o1, o2, o3, o4, o5, o6, (rfl), o8, trivial⟩ hr
theorem p9_start_4 (ns : (List Int)) (ws : (List Int))   {E : Env} {res : AV} (hE : PureE Try.prog 9 res E) (o0 : PureF Try.prog (.clos 28 [] []) [.rsl (rowI ns) 0 ns.length, .rsl (rowI ws) 0 ws.length] (.tup [.rsl (rowI ((nightsK ns ws).1)) 0 (((nightsK ns ws).1).length), .int .i64 ((nightsK ns ws).2.1), .int .i64 ((nightsK ns ws).2.2)])) (o1 : PureF Try.prog (.clos 29 [] []) [.rsl (rowI ns) 0 ns.length, .rsl (rowI ws) 0 ws.length] (.tup [.rsl (rowI ((nightsK ns ws).1)) 0 (((nightsK ns ws).1).length), .int .i64 ((nightsK ns ws).2.1), .int .i64 ((nightsK ns ws).2.2)])) (o2 : ((nightsK ns ws).2.1 != (nightsK ns ws).2.1) = false) (o3 : ((nightsK ns ws).2.2 != (nightsK ns ws).2.2) = false) (o4 : PureF Try.prog (.clos 17 [] []) [.rsl (rowI ((nightsK ns ws).1)) 0 (((nightsK ns ws).1).length), .rsl (rowI ((nightsK ns ws).1)) 0 (((nightsK ns ws).1).length)] (.bool true)) (o5 : (!true) = false) (o6 : ((nightsK ns ws).2.2 != 0) = false) (o7 : (decide ((nightsK ns ws).2.1 ≥ 0)) = true) (o8 : (decide ((nightsK ns ws).2.1 ≤ ((ns.length : Nat) : Int))) = true) (o9 : PureF Try.prog (.clos 21 [] []) [.rsl (rowI ((nightsK ns ws).1)) 0 (((nightsK ns ws).1).length)] (.int .i64 (sumI ((nightsK ns ws).1)))) (o10 : PureF Try.prog (.clos 21 [] []) [.rsl (rowI ns) 0 ns.length] (.int .i64 (sumI ns))) (o11 : ((sumI ((nightsK ns ws).1)) == (sumI ns)) = true) (o12 : PureF Try.prog (.clos 20 [] []) [] (.bool true))
    (hr : AvLe (.bool true) res) : G Try.prog E [.code (bodyAt Try.prog 9)] ⟨[.rsl (rowI ns) 0 ns.length, .rsl (rowI ws) 0 ws.length] ++ unds (Try.f9.ntmps - 2), []⟩ :=
  end_stepL (n := 400) (evs := [.v (.tup [.rsl (rowI ((nightsK ns ws).1)) 0 (((nightsK ns ws).1).length), .int .i64 ((nightsK ns ws).2.1), .int .i64 ((nightsK ns ws).2.2)]), .v (.tup [.rsl (rowI ((nightsK ns ws).1)) 0 (((nightsK ns ws).1).length), .int .i64 ((nightsK ns ws).2.1), .int .i64 ((nightsK ns ws).2.2)]), .b false, .b false, .v (.bool true), .b false, .b false, .b true, .b true, .v (.int .i64 (sumI ((nightsK ns ws).1))), .v (.int .i64 (sumI ns)), .b true, .v (.bool true)]) (obs := [PureF Try.prog (.clos 28 [] []) [.rsl (rowI ns) 0 ns.length, .rsl (rowI ws) 0 ws.length] (.tup [.rsl (rowI ((nightsK ns ws).1)) 0 (((nightsK ns ws).1).length), .int .i64 ((nightsK ns ws).2.1), .int .i64 ((nightsK ns ws).2.2)]), PureF Try.prog (.clos 29 [] []) [.rsl (rowI ns) 0 ns.length, .rsl (rowI ws) 0 ws.length] (.tup [.rsl (rowI ((nightsK ns ws).1)) 0 (((nightsK ns ws).1).length), .int .i64 ((nightsK ns ws).2.1), .int .i64 ((nightsK ns ws).2.2)]), ((nightsK ns ws).2.1 != (nightsK ns ws).2.1) = false, ((nightsK ns ws).2.2 != (nightsK ns ws).2.2) = false, PureF Try.prog (.clos 17 [] []) [.rsl (rowI ((nightsK ns ws).1)) 0 (((nightsK ns ws).1).length), .rsl (rowI ((nightsK ns ws).1)) 0 (((nightsK ns ws).1).length)] (.bool true), (!true) = false, ((nightsK ns ws).2.2 != 0) = false, (decide ((nightsK ns ws).2.1 ≥ 0)) = true, (decide ((nightsK ns ws).2.1 ≤ ((ns.length : Nat) : Int))) = true, PureF Try.prog (.clos 21 [] []) [.rsl (rowI ((nightsK ns ws).1)) 0 (((nightsK ns ws).1).length)] (.int .i64 (sumI ((nightsK ns ws).1))), PureF Try.prog (.clos 21 [] []) [.rsl (rowI ns) 0 ns.length] (.int .i64 (sumI ns)), ((sumI ((nightsK ns ws).1)) == (sumI ns)) = true, PureF Try.prog (.clos 20 [] []) [] (.bool true)]) hE Try.func9 mixed (by kernel_rfl) ⟨o0, o1, o2, o3, o4, o5, o6, o7, o8, o9, o10, o11, o12, trivial⟩ hr
theorem p9_start_5 (ns : (List Int)) (ws : (List Int))   {E : Env} {res : AV} (hE : PureE Try.prog 9 res E) (o0 : PureF Try.prog (.clos 28 [] []) [.rsl (rowI ns) 0 ns.length, .rsl (rowI ws) 0 ws.length] (.tup [.rsl (rowI ((nightsK ns ws).1)) 0 (((nightsK ns ws).1).length), .int .i64 ((nightsK ns ws).2.1), .int .i64 ((nightsK ns ws).2.2)])) (o1 : PureF Try.prog (.clos 29 [] []) [.rsl (rowI ns) 0 ns.length, .rsl (rowI ws) 0 ws.length] (.tup [.rsl (rowI ((nightsK ns ws).1)) 0 (((nightsK ns ws).1).length), .int .i64 ((nightsK ns ws).2.1), .int .i64 ((nightsK ns ws).2.2)])) (o2 : ((nightsK ns ws).2.1 != (nightsK ns ws).2.1) = false) (o3 : ((nightsK ns ws).2.2 != (nightsK ns ws).2.2) = false) (o4 : PureF Try.prog (.clos 17 [] []) [.rsl (rowI ((nightsK ns ws).1)) 0 (((nightsK ns ws).1).length), .rsl (rowI ((nightsK ns ws).1)) 0 (((nightsK ns ws).1).length)] (.bool true)) (o5 : (!true) = false) (o6 : ((nightsK ns ws).2.2 != 0) = false) (o7 : (decide ((nightsK ns ws).2.1 ≥ 0)) = true) (o8 : (decide ((nightsK ns ws).2.1 ≤ ((ns.length : Nat) : Int))) = true) (o9 : PureF Try.prog (.clos 21 [] []) [.rsl (rowI ((nightsK ns ws).1)) 0 (((nightsK ns ws).1).length)] (.int .i64 (sumI ((nightsK ns ws).1)))) (o10 : PureF Try.prog (.clos 21 [] []) [.rsl (rowI ns) 0 ns.length] (.int .i64 (sumI ns))) (o11 : ((sumI ((nightsK ns ws).1)) == (sumI ns)) = false)
    (hr : AvLe (.bool false) res) : G Try.prog E [.code (bodyAt Try.prog 9)] ⟨[.rsl (rowI ns) 0 ns.length, .rsl (rowI ws) 0 ws.length] ++ unds (Try.f9.ntmps - 2), []⟩ :=
  end_stepL (n := 400) (evs := [.v (.tup [.rsl (rowI ((nightsK ns ws).1)) 0 (((nightsK ns ws).1).length), .int .i64 ((nightsK ns ws).2.1), .int .i64 ((nightsK ns ws).2.2)]), .v (.tup [.rsl (rowI ((nightsK ns ws).1)) 0 (((nightsK ns ws).1).length), .int .i64 ((nightsK ns ws).2.1), .int .i64 ((nightsK ns ws).2.2)]), .b false, .b false, .v (.bool true), .b false, .b false, .b true, .b true, .v (.int .i64 (sumI ((nightsK ns ws).1))), .v (.int .i64 (sumI ns)), .b false]) (obs := [PureF Try.prog (.clos 28 [] []) [.rsl (rowI ns) 0 ns.length, .rsl (rowI ws) 0 ws.length] (.tup [.rsl (rowI ((nightsK ns ws).1)) 0 (((nightsK ns ws).1).length), .int .i64 ((nightsK ns ws).2.1), .int .i64 ((nightsK ns ws).2.2)]), PureF Try.prog (.clos 29 [] []) [.rsl (rowI ns) 0 ns.length, .rsl (rowI ws) 0 ws.length] (.tup [.rsl (rowI ((nightsK ns ws).1)) 0 (((nightsK ns ws).1).length), .int .i64 ((nightsK ns ws).2.1), .int .i64 ((nightsK ns ws).2.2)]), ((nightsK ns ws).2.1 != (nightsK ns ws).2.1) = false, ((nightsK ns ws).2.2 != (nightsK ns ws).2.2) = false, PureF Try.prog (.clos 17 [] []) [.rsl (rowI ((nightsK ns ws).1)) 0 (((nightsK ns ws).1).length), .rsl (rowI ((nightsK ns ws).1)) 0 (((nightsK ns ws).1).length)] (.bool true), (!true) = false, ((nightsK ns ws).2.2 != 0) = false, (decide ((nightsK ns ws).2.1 ≥ 0)) = true, (decide ((nightsK ns ws).2.1 ≤ ((ns.length : Nat) : Int))) = true, PureF Try.prog (.clos 21 [] []) [.rsl (rowI ((nightsK ns ws).1)) 0 (((nightsK ns ws).1).length)] (.int .i64 (sumI ((nightsK ns ws).1))), PureF Try.prog (.clos 21 [] []) [.rsl (rowI ns) 0 ns.length] (.int .i64 (sumI ns)), ((sumI ((nightsK ns ws).1)) == (sumI ns)) = false]) hE Try.func9 mixed (by kernel_rfl) ⟨o0, o1, o2, o3, o4, o5, o6, o7, o8, o9, o10, o11, trivial⟩ hr
theorem p9_start_6 (ns : (List Int)) (ws : (List Int))   {E : Env} {res : AV} (hE : PureE Try.prog 9 res E) (o0 : PureF Try.prog (.clos 28 [] []) [.rsl (rowI ns) 0 ns.length, .rsl (rowI ws) 0 ws.length] (.tup [.rsl (rowI ((nightsK ns ws).1)) 0 (((nightsK ns ws).1).length), .int .i64 ((nightsK ns ws).2.1), .int .i64 ((nightsK ns ws).2.2)])) (o1 : PureF Try.prog (.clos 29 [] []) [.rsl (rowI ns) 0 ns.length, .rsl (rowI ws) 0 ws.length] (.tup [.rsl (rowI ((nightsK ns ws).1)) 0 (((nightsK ns ws).1).length), .int .i64 ((nightsK ns ws).2.1), .int .i64 ((nightsK ns ws).2.2)])) (o2 : ((nightsK ns ws).2.1 != (nightsK ns ws).2.1) = false) (o3 : ((nightsK ns ws).2.2 != (nightsK ns ws).2.2) = false) (o4 : PureF Try.prog (.clos 17 [] []) [.rsl (rowI ((nightsK ns ws).1)) 0 (((nightsK ns ws).1).length), .rsl (rowI ((nightsK ns ws).1)) 0 (((nightsK ns ws).1).length)] (.bool true)) (o5 : (!true) = false) (o6 : ((nightsK ns ws).2.2 != 0) = false) (o7 : (decide ((nightsK ns ws).2.1 ≥ 0)) = true) (o8 : (decide ((nightsK ns ws).2.1 ≤ ((ns.length : Nat) : Int))) = false)
    (hr : AvLe (.bool false) res) : G Try.prog E [.code (bodyAt Try.prog 9)] ⟨[.rsl (rowI ns) 0 ns.length, .rsl (rowI ws) 0 ws.length] ++ unds (Try.f9.ntmps - 2), []⟩ :=
  end_stepL (n := 400) (evs := [.v (.tup [.rsl (rowI ((nightsK ns ws).1)) 0 (((nightsK ns ws).1).length), .int .i64 ((nightsK ns ws).2.1), .int .i64 ((nightsK ns ws).2.2)]), .v (.tup [.rsl (rowI ((nightsK ns ws).1)) 0 (((nightsK ns ws).1).length), .int .i64 ((nightsK ns ws).2.1), .int .i64 ((nightsK ns ws).2.2)]), .b false, .b false, .v (.bool true), .b false, .b false, .b true, .b false, .b false]) (obs := [PureF Try.prog (.clos 28 [] []) [.rsl (rowI ns) 0 ns.length, .rsl (rowI ws) 0 ws.length] (.tup [.rsl (rowI ((nightsK ns ws).1)) 0 (((nightsK ns ws).1).length), .int .i64 ((nightsK ns ws).2.1), .int .i64 ((nightsK ns ws).2.2)]), PureF Try.prog (.clos 29 [] []) [.rsl (rowI ns) 0 ns.length, .rsl (rowI ws) 0 ws.length] (.tup [.rsl (rowI ((nightsK ns ws).1)) 0 (((nightsK ns ws).1).length), .int .i64 ((nightsK ns ws).2.1), .int .i64 ((nightsK ns ws).2.2)]), ((nightsK ns ws).2.1 != (nightsK ns ws).2.1) = false, ((nightsK ns ws).2.2 != (nightsK ns ws).2.2) = false, PureF Try.prog (.clos 17 [] []) [.rsl (rowI ((nightsK ns ws).1)) 0 (((nightsK ns ws).1).length), .rsl (rowI ((nightsK ns ws).1)) 0 (((nightsK ns ws).1).length)] (.bool true), (!true) = false, ((nightsK ns ws).2.2 != 0) = false, (decide ((nightsK ns ws).2.1 ≥ 0)) = true, (decide ((nightsK ns ws).2.1 ≤ ((ns.length : Nat) : Int))) = false, false = false]) hE Try.func9 mixed (by kernel_rfl) ⟨o0, o1, o2, o3, o4, o5, o6, o7, o8, (rfl), trivial⟩ hr
theorem p9_start_7 (ns : (List Int)) (ws : (List Int))   {E : Env} {res : AV} (hE : PureE Try.prog 9 res E) (o0 : PureF Try.prog (.clos 28 [] []) [.rsl (rowI ns) 0 ns.length, .rsl (rowI ws) 0 ws.length] (.tup [.rsl (rowI ((nightsK ns ws).1)) 0 (((nightsK ns ws).1).length), .int .i64 ((nightsK ns ws).2.1), .int .i64 ((nightsK ns ws).2.2)])) (o1 : PureF Try.prog (.clos 29 [] []) [.rsl (rowI ns) 0 ns.length, .rsl (rowI ws) 0 ws.length] (.tup [.rsl (rowI ((nightsK ns ws).1)) 0 (((nightsK ns ws).1).length), .int .i64 ((nightsK ns ws).2.1), .int .i64 ((nightsK ns ws).2.2)])) (o2 : ((nightsK ns ws).2.1 != (nightsK ns ws).2.1) = false) (o3 : ((nightsK ns ws).2.2 != (nightsK ns ws).2.2) = false) (o4 : PureF Try.prog (.clos 17 [] []) [.rsl (rowI ((nightsK ns ws).1)) 0 (((nightsK ns ws).1).length), .rsl (rowI ((nightsK ns ws).1)) 0 (((nightsK ns ws).1).length)] (.bool true)) (o5 : (!true) = false) (o6 : ((nightsK ns ws).2.2 != 0) = false) (o7 : (decide ((nightsK ns ws).2.1 ≥ 0)) = false)
    (hr : AvLe (.bool false) res) : G Try.prog E [.code (bodyAt Try.prog 9)] ⟨[.rsl (rowI ns) 0 ns.length, .rsl (rowI ws) 0 ws.length] ++ unds (Try.f9.ntmps - 2), []⟩ :=
  end_stepL (n := 400) (evs := [.v (.tup [.rsl (rowI ((nightsK ns ws).1)) 0 (((nightsK ns ws).1).length), .int .i64 ((nightsK ns ws).2.1), .int .i64 ((nightsK ns ws).2.2)]), .v (.tup [.rsl (rowI ((nightsK ns ws).1)) 0 (((nightsK ns ws).1).length), .int .i64 ((nightsK ns ws).2.1), .int .i64 ((nightsK ns ws).2.2)]), .b false, .b false, .v (.bool true), .b false, .b false, .b false, .b false, .b false]) (obs := [PureF Try.prog (.clos 28 [] []) [.rsl (rowI ns) 0 ns.length, .rsl (rowI ws) 0 ws.length] (.tup [.rsl (rowI ((nightsK ns ws).1)) 0 (((nightsK ns ws).1).length), .int .i64 ((nightsK ns ws).2.1), .int .i64 ((nightsK ns ws).2.2)]), PureF Try.prog (.clos 29 [] []) [.rsl (rowI ns) 0 ns.length, .rsl (rowI ws) 0 ws.length] (.tup [.rsl (rowI ((nightsK ns ws).1)) 0 (((nightsK ns ws).1).length), .int .i64 ((nightsK ns ws).2.1), .int .i64 ((nightsK ns ws).2.2)]), ((nightsK ns ws).2.1 != (nightsK ns ws).2.1) = false, ((nightsK ns ws).2.2 != (nightsK ns ws).2.2) = false, PureF Try.prog (.clos 17 [] []) [.rsl (rowI ((nightsK ns ws).1)) 0 (((nightsK ns ws).1).length), .rsl (rowI ((nightsK ns ws).1)) 0 (((nightsK ns ws).1).length)] (.bool true), (!true) = false, ((nightsK ns ws).2.2 != 0) = false, (decide ((nightsK ns ws).2.1 ≥ 0)) = false, false = false, false = false]) hE Try.func9 mixed (by kernel_rfl) ⟨o0, o1, o2, o3, o4, o5, o6, o7, (rfl), (rfl), trivial⟩ hr
theorem f9W (ns : (List Int)) (ws : (List Int)) {E : Env} {rv : Bool} (hE : PureE Try.prog 9 (.bool rv) E)
    (h : ((ns.length ≤ 9223372036854775807 ∧ ws.length ≤ 17592186044416) ∧ ((ns.length ≤ 9223372036854775807 ∧ ws.length ≤ 17592186044416) ∧ ((¬ ((nightsK ns ws).2.1 = (nightsK ns ws).2.1) → rv = false) ∧ ((nightsK ns ws).2.1 = (nightsK ns ws).2.1 → ((¬ ((nightsK ns ws).2.2 = (nightsK ns ws).2.2) → rv = false) ∧ ((nightsK ns ws).2.2 = (nightsK ns ws).2.2 → ((((nightsK ns ws).1) = ((nightsK ns ws).1) ∧ ((nightsK ns ws).1).length ≤ 1000000) ∧ ((true = false → rv = false) ∧ (true = true → ((¬ ((nightsK ns ws).2.2 = 0) → rv = true) ∧ ((nightsK ns ws).2.2 = 0 → (((nightsK ns ws).2.1 ≥ 0 → (((nightsK ns ws).2.1 ≤ ((ns.length : Nat) : Int) → ((SumOk ((nightsK ns ws).1)) ∧ ((SumOk ns) ∧ (((sumI ((nightsK ns ws).1)) = (sumI ns) → rv = true) ∧ (¬ ((sumI ((nightsK ns ws).1)) = (sumI ns)) → rv = false))))) ∧ (¬ ((nightsK ns ws).2.1 ≤ ((ns.length : Nat) : Int)) → rv = false))) ∧ (¬ ((nightsK ns ws).2.1 ≥ 0) → rv = false)))))))))))))) : G Try.prog E [.code (bodyAt Try.prog 9)] ⟨[.rsl (rowI ns) 0 ns.length, .rsl (rowI ws) 0 ws.length] ++ unds (Try.f9.ntmps - 2), []⟩ := by
  obtain ⟨h1, h⟩ := h
  obtain ⟨h2, h⟩ := h
  rcases Bool.eq_false_or_eq_true ((nightsK ns ws).2.1 != (nightsK ns ws).2.1) with hc0 | hc0
  · have h := h.1 (bneT hc0)
    exact p9_start_0 ns ws    hE (pureF_of Try.func28 (by kernel_rfl) f28b (NightsP_ok ns ws h1)) (pureF_of Try.func29 (by kernel_rfl) f29b (NightsR_ok ns ws h2)) hc0 (AvLe.of_eq (by rw [h]; try rfl))
  · have h := h.2 (bneF hc0)
    rcases Bool.eq_false_or_eq_true ((nightsK ns ws).2.2 != (nightsK ns ws).2.2) with hc1 | hc1
    · have h := h.1 (bneT hc1)
      exact p9_start_1 ns ws    hE (pureF_of Try.func28 (by kernel_rfl) f28b (NightsP_ok ns ws h1)) (pureF_of Try.func29 (by kernel_rfl) f29b (NightsR_ok ns ws h2)) hc0 hc1 (AvLe.of_eq (by rw [h]; try rfl))
    · have h := h.2 (bneF hc1)
      obtain ⟨h3, h⟩ := h
      rcases Bool.eq_false_or_eq_true (!true) with hc2 | hc2
      · have h := h.1 (bnT hc2)
        exact p9_start_2 ns ws    hE (pureF_of Try.func28 (by kernel_rfl) f28b (NightsP_ok ns ws h1)) (pureF_of Try.func29 (by kernel_rfl) f29b (NightsR_ok ns ws h2)) hc0 hc1 (pureF_of Try.func17 (by kernel_rfl) f17b (sameInts_ok ((nightsK ns ws).1) ((nightsK ns ws).1) h3)) hc2 (AvLe.of_eq (by rw [h]; try rfl))
      · have h := h.2 (bnF hc2)
        rcases Bool.eq_false_or_eq_true ((nightsK ns ws).2.2 != 0) with hc3 | hc3
        · have h := h.1 (bneT hc3)
          exact p9_start_3 ns ws    hE (pureF_of Try.func28 (by kernel_rfl) f28b (NightsP_ok ns ws h1)) (pureF_of Try.func29 (by kernel_rfl) f29b (NightsR_ok ns ws h2)) hc0 hc1 (pureF_of Try.func17 (by kernel_rfl) f17b (sameInts_ok ((nightsK ns ws).1) ((nightsK ns ws).1) h3)) hc2 hc3 (pureF_of Try.func20 (by kernel_rfl) f20b (works_ok )) (AvLe.of_eq (by rw [h]; try rfl))
        · have h := h.2 (bneF hc3)
          rcases Bool.eq_false_or_eq_true (decide ((nightsK ns ws).2.1 ≥ 0)) with hc4 | hc4
          · have h := h.1 (of_decide_eq_true hc4)
            rcases Bool.eq_false_or_eq_true (decide ((nightsK ns ws).2.1 ≤ ((ns.length : Nat) : Int))) with hc5 | hc5
            · have h := h.1 (of_decide_eq_true hc5)
              obtain ⟨h4, h⟩ := h
              obtain ⟨h5, h⟩ := h
              rcases Bool.eq_false_or_eq_true ((sumI ((nightsK ns ws).1)) == (sumI ns)) with hc6 | hc6
              · have h := h.1 (eq_of_beq hc6)
                exact p9_start_4 ns ws    hE (pureF_of Try.func28 (by kernel_rfl) f28b (NightsP_ok ns ws h1)) (pureF_of Try.func29 (by kernel_rfl) f29b (NightsR_ok ns ws h2)) hc0 hc1 (pureF_of Try.func17 (by kernel_rfl) f17b (sameInts_ok ((nightsK ns ws).1) ((nightsK ns ws).1) h3)) hc2 hc3 hc4 hc5 (pureF_of Try.func21 (by kernel_rfl) f21b (sumR_ok ((nightsK ns ws).1) h4)) (pureF_of Try.func21 (by kernel_rfl) f21b (sumR_ok ns h5)) hc6 (pureF_of Try.func20 (by kernel_rfl) f20b (works_ok )) (AvLe.of_eq (by rw [h]; try rfl))
              · have h := h.2 (ne_of_beq_false hc6)
                exact p9_start_5 ns ws    hE (pureF_of Try.func28 (by kernel_rfl) f28b (NightsP_ok ns ws h1)) (pureF_of Try.func29 (by kernel_rfl) f29b (NightsR_ok ns ws h2)) hc0 hc1 (pureF_of Try.func17 (by kernel_rfl) f17b (sameInts_ok ((nightsK ns ws).1) ((nightsK ns ws).1) h3)) hc2 hc3 hc4 hc5 (pureF_of Try.func21 (by kernel_rfl) f21b (sumR_ok ((nightsK ns ws).1) h4)) (pureF_of Try.func21 (by kernel_rfl) f21b (sumR_ok ns h5)) hc6 (AvLe.of_eq (by rw [h]; try rfl))
            · have h := h.2 (of_decide_eq_false hc5)
              exact p9_start_6 ns ws    hE (pureF_of Try.func28 (by kernel_rfl) f28b (NightsP_ok ns ws h1)) (pureF_of Try.func29 (by kernel_rfl) f29b (NightsR_ok ns ws h2)) hc0 hc1 (pureF_of Try.func17 (by kernel_rfl) f17b (sameInts_ok ((nightsK ns ws).1) ((nightsK ns ws).1) h3)) hc2 hc3 hc4 hc5 (AvLe.of_eq (by rw [h]; try rfl))
          · have h := h.2 (of_decide_eq_false hc4)
            exact p9_start_7 ns ws    hE (pureF_of Try.func28 (by kernel_rfl) f28b (NightsP_ok ns ws h1)) (pureF_of Try.func29 (by kernel_rfl) f29b (NightsR_ok ns ws h2)) hc0 hc1 (pureF_of Try.func17 (by kernel_rfl) f17b (sameInts_ok ((nightsK ns ws).1) ((nightsK ns ws).1) h3)) hc2 hc3 hc4 (AvLe.of_eq (by rw [h]; try rfl))

theorem offs_le {B : Int} : ∀ {l : List (Int × Int)} {o : Int}, 0 ≤ o → o ≤ B → (∀ p ∈ l, p.1 - p.2 ≤ B ∧ p.2 - p.1 ≤ B) → 0 ≤ l.foldl offStep o ∧ l.foldl offStep o ≤ B
  | [], o, h0, h1, _ => ⟨h0, h1⟩
  | p :: l, o, h0, h1, h => by
    have hp := h p (by simp)
    rw [List.foldl_cons]
    refine offs_le ?_ ?_ fun q hq => h q (by simp [hq])
    · simp only [offStep, iMax]; split <;> split <;> omega
    · simp only [offStep, iMax]; split <;> split <;> omega

theorem part_near {c : Int} {ws : List Int} (ok : SplitOk c ws) {j : Nat} {w x : Int} (hw : ws[j]? = some w) (hx : (splitI c ws)[j]? = some x) : -(sumI ws) < sumI ws * x - c * w ∧ sumI ws * x - c * w < sumI ws := by
  obtain ⟨t1, t2, t3⟩ := tmod_bd ok.pos ok.c0 (ok.w _ (List.mem_of_getElem? hw)).1
  rcases (parts_of ok).low j w x hw hx with h | ⟨h, h2⟩
  · rw [h, t1]; omega
  · rw [h, Int.mul_add, t1]; omega

theorem partsN_facts {ws : List Int} (ok : ∀ e, (0 ≤ e ∧ e ≤ 1000000000) → SplitOk e ws) : ∀ {l : List Int} {v : List Int}, v.length = ws.length → (∀ x ∈ l, 0 ≤ x ∧ x ≤ 1000000000) →
    (l.foldl (fun v e => addV v (splitI e ws)) v).length = ws.length ∧ (l.foldl (fun v e => addV v (splitI e ws)) v).sum = v.sum + l.sum ∧
    ∀ (j : Nat) (w : Int), ws[j]? = some w → -(sumI ws * (l.length : Int)) ≤ sumI ws * (l.foldl (fun v e => addV v (splitI e ws)) v).getD j 0 - sumI ws * v.getD j 0 - l.sum * w ∧ sumI ws * (l.foldl (fun v e => addV v (splitI e ws)) v).getD j 0 - sumI ws * v.getD j 0 - l.sum * w ≤ sumI ws * (l.length : Int)
  | [], v, hv, h => ⟨hv, by simp, fun j w hw => by simp⟩
  | e :: l, v, hv, h => by
    have oke := ok e (h e (by simp))
    have sl : (splitI e ws).length = v.length := by rw [splitI_len, hv]
    obtain ⟨q1, q2, q3⟩ := partsN_facts ok (l := l) (v := addV v (splitI e ws)) (by rw [addV_len sl, hv]) fun x hx => h x (by simp [hx])
    rw [List.foldl_cons]
    refine ⟨q1, by rw [q2, addV_sum sl, (parts_of oke).sum, List.sum_cons]; omega, fun j w hw => ?_⟩
    have q := q3 j w hw
    have hj := (List.getElem?_eq_some_iff.1 hw).1
    have hx : (splitI e ws)[j]? = some ((splitI e ws).getD j 0) := by simp [List.getD, show j < (splitI e ws).length by rw [splitI_len]; omega]
    have hn := part_near oke hw hx
    rw [addV_get sl, Int.mul_add] at q
    simp only [List.sum_cons, List.length_cons, Int.natCast_add, Int.mul_add, Int.add_mul]
    omega

theorem nights_zero {ns ws : List Int} (h : (nightsK ns ws).2.2 = 0) : ns.length ≤ 60 ∧ (∀ x ∈ ns, 0 ≤ x ∧ x ≤ 1000000000) ∧ amount (sumI ns) = true ∧ weightedB ws = true ∧ nightsK ns ws = (partsN ns ws, offI (partsN ns ws) (splitI (sumI ns) ws), 0) := by
  have h' := h
  simp only [nightsK] at h'
  split at h'
  · cases h'
  rename_i h1
  split at h'
  · cases h'
  rename_i h2
  split at h'
  · cases h'
  rename_i h3
  split at h'
  · cases h'
  rename_i h4
  exact ⟨by omega, amtAll_of (by simpa using h2), by simpa using h3, by simpa using h4, by rw [nightsK, if_neg h1, if_neg h2, if_neg h3, if_neg h4]⟩

theorem nightsK_len (ns ws : List Int) : (nightsK ns ws).1.length ≤ 10 := by
  by_cases hz : (nightsK ns ws).2.2 = 0
  · obtain ⟨h1, h2, h3, h4, e⟩ := nights_zero hz
    have okS : ∀ e, (0 ≤ e ∧ e ≤ 1000000000) → SplitOk e ws := fun e he => split_of he h4
    rw [e]
    have := (partsN_facts okS (l := ns) (v := List.replicate ws.length 0) (by simp) h2).1
    have := (okS 0 (by omega)).len
    simp only [partsN]; omega
  · rw [nightsK] at *
    split
    · simp
    rename_i q1
    rw [if_neg q1] at hz
    split
    · simp
    rename_i q2
    rw [if_neg q2] at hz
    split
    · simp
    rename_i q3
    rw [if_neg q3] at hz
    split
    · simp
    rename_i q4
    rw [if_neg q4] at hz
    exact absurd rfl hz

theorem law9_ok (ns ws : List Int) (h : ns.length ≤ 9223372036854775807) (hw : ws.length ≤ 17592186044416) : Pure Try.prog 9 [.rsl (rowI ns) 0 ns.length, .rsl (rowI ws) 0 ws.length] (.bool true) := pure_of Try.func9 f9b fun E hE => by
  have hl := nightsK_len ns ws
  refine f9W ns ws (rv := true) hE ⟨⟨h, hw⟩, ⟨h, hw⟩, fun h' => absurd rfl h', fun _ => ⟨fun h' => absurd rfl h', fun _ => ⟨⟨rfl, by omega⟩, fun h' => (by cases h'), fun _ => ⟨fun _ => rfl, fun hz => ?_⟩⟩⟩⟩
  obtain ⟨h1, h2, h3, h4, e⟩ := nights_zero hz
  have okS : ∀ e, (0 ≤ e ∧ e ≤ 1000000000) → SplitOk e ws := fun e he => split_of he h4
  have okA := okS (sumI ns) (within_iff.1 h3)
  have hS := okA.pos
  have hlen := okA.len
  obtain ⟨p1, p2, p3⟩ := partsN_facts okS (l := ns) (v := List.replicate ws.length 0) (by simp) h2
  have hz0 : ∀ j, (List.replicate ws.length (0 : Int)).getD j 0 = 0 := fun i => by simp [List.getD, List.getElem?_replicate]; split <;> rfl
  have hs0 : (List.replicate ws.length (0 : Int)).sum = 0 := by simp
  rw [hs0, Int.zero_add] at p2
  have near : ∀ p ∈ (partsN ns ws).zip (splitI (sumI ns) ws), p.1 - p.2 ≤ (ns.length : Int) ∧ p.2 - p.1 ≤ (ns.length : Int) := fun p hp => by
    obtain ⟨j, hj⟩ := List.getElem?_of_mem hp
    have hj' := (List.getElem?_eq_some_iff.1 hj).1
    simp only [List.length_zip, splitI_len] at hj'
    have hv : (partsN ns ws)[j]? = some ((partsN ns ws).getD j 0) := by simp [List.getD, show j < (partsN ns ws).length by omega]
    have ha : (splitI (sumI ns) ws)[j]? = some ((splitI (sumI ns) ws).getD j 0) := by simp [List.getD, show j < (splitI (sumI ns) ws).length by rw [splitI_len]; omega]
    have hwj : ws[j]? = some ws[j] := List.getElem?_eq_getElem (by omega)
    rw [List.zip, List.getElem?_zipWith, hv, ha] at hj
    have hj := Option.some.inj hj
    have q := p3 j _ hwj
    rw [hz0, Int.mul_zero] at q
    have n := part_near okA hwj ha
    subst hj
    have e0 : ns.sum = sumI ns := rfl
    rw [e0] at q
    simp only [partsN] at *
    generalize (List.foldl (fun v e => addV v (splitI e ws)) (List.replicate ws.length 0) ns).getD j 0 = a at *
    generalize (splitI (sumI ns) ws).getD j 0 = b at *
    constructor
    · have : sumI ws * (a - b) < sumI ws * ((ns.length : Int) + 1) := by rw [Int.mul_sub, Int.mul_add]; omega
      have := Int.lt_of_mul_lt_mul_left this (by omega)
      show a - b ≤ _; omega
    · have : sumI ws * (b - a) < sumI ws * ((ns.length : Int) + 1) := by rw [Int.mul_sub, Int.mul_add]; omega
      have := Int.lt_of_mul_lt_mul_left this (by omega)
      show b - a ≤ _; omega
  have ob := offs_le (B := (ns.length : Int)) (o := 0) (by omega) (by omega) near
  have eo : (nightsK ns ws).2.1 = ((partsN ns ws).zip (splitI (sumI ns) ws)).foldl offStep 0 := by rw [e]; rfl
  have e1 : (nightsK ns ws).1 = partsN ns ws := by rw [e]
  have so : SumOk (partsN ns ws) := by
    refine sumOk_bd (B := 1000000000000000) (by omega) (by omega) (by simp only [partsN]; omega) fun x hx => ?_
    have : ∀ {l v : List Int} {A : Int}, v.length = ws.length → (∀ x ∈ l, 0 ≤ x ∧ x ≤ 1000000000) → (∀ x ∈ v, 0 ≤ x ∧ x ≤ A) → ∀ x ∈ l.foldl (fun v e => addV v (splitI e ws)) v, 0 ≤ x ∧ x ≤ A + 1000000000001 * (l.length : Int) := by
      intro l
      induction l with
      | nil => intro v A hv hl hb x hx; have := hb x hx; simp; omega
      | cons e l ih =>
        intro v A hv hl hb x hx
        have oke := okS e (hl e (by simp))
        have sl : (splitI e ws).length = v.length := by rw [splitI_len, hv]
        have := ih (v := addV v (splitI e ws)) (A := A + 1000000000001) (by rw [addV_len sl, hv]) (fun x hx => hl x (by simp [hx])) (addV_bd sl hb (parts_bd oke)) x hx
        simp only [List.length_cons, Int.natCast_add]; omega
    have := this (v := List.replicate ws.length 0) (A := 0) (by simp) h2 (fun x hx => by rw [List.eq_of_mem_replicate hx]; omega) x hx
    omega
  refine ⟨fun _ => ⟨fun _ => ⟨by rw [e1]; exact so, sumOk_amounts h1 h2, fun _ => rfl, fun h' => absurd (by rw [e1]; exact p2) h'⟩, fun h' => absurd (by rw [eo]; omega) h'⟩, fun h' => absurd (by rw [eo]; omega) h'⟩

end Go.Proofs.Ytmdbebbibecidaa

namespace Ax
open Go Go.ChangeShapes Go.WideShapes Go.RowKit

section
variable {P : Program} {W : World} {t e : TypeId}

/-- One argument; its data's sizes are bounded. -/
def DecZ (P : Program) (W : World) (t : TypeId) (T : Type) (F : T → AV) (Q : T → Prop) : Prop :=
  ∀ (H : Type) (enc : TypeId × Value → H) (base : Nat) (v : Value) (d : DataW H) (ps : List MemPlace), Value.okWide P W .any base t v → DataW.Trod enc P W 0 (fun _ => true) true t v d ps →
    (d.weights P t).all (· ≤ reachBytes) = true → ∃ a, Q a ∧ VR (Old W) W C0 (F a) v

theorem DecA.z {T : Type} {F : T → AV} {Q : T → Prop} (D : DecA P W t T F Q) : DecZ P W t T F Q := fun H enc base v d ps h1 h2 _ => D H enc base v d ps h1 h2

theorem decZ_slice {T : Type} {r : List T → List AV} {Q : List T → Prop} {n : Nat} (ht : P.underlying t = some (.slice e)) (hn : P.bytesOf e = n) (D : Dec P W t (List T) (fun a => [.rsl (r a) 0 a.length]) Q) :
    DecZ P W t (List T) (fun a => .rsl (r a) 0 a.length) (fun a => Q a ∧ a.length * n ≤ reachBytes) := by
  intro H enc base v d ps hok hT hs
  obtain ⟨fuel, h⟩ := hT
  obtain ⟨a, len, cap, rfl⟩ := okWide_slice ht hok
  obtain ⟨l, q, hv⟩ := D H enc _ _ fuel _ _ h
  refine ⟨l, ⟨q, ?_⟩, hv.one'⟩
  have hv' := hv.one'
  have hl : len = l.length := by generalize hn0 : l.length = n0 at hv'; cases hv' <;> rfl
  rcases DataW.trod_slice ht h with ⟨he, -⟩ | ⟨a', len', cap', elems, rest, m, -, hcs, hx, -, -, -, h3, -, -, -⟩
  · have : len = 0 := by simp [Value.cells] at he; exact he.2.1
    rw [← hl, this]; simp
  · have e1 : len' = len := by simp [Value.cells] at hcs; exact hcs.2.1.symm
    have e2 : d = .slice (elems.map (·.1)) (rest.map (·.1)) := congrArg Prod.fst hx
    subst e2
    have := List.all_eq_true.1 hs ((elems.length + rest.length) * P.bytesOf e) (by simp [DataW.weights, ht])
    rw [hn] at this
    have h5 : (elems.length + rest.length) * n ≤ reachBytes := by simpa using this
    rw [Nat.add_mul] at h5
    rw [← hl, ← e1, ← h3]; omega

/-- All arguments, their sizes bounded. -/
def DecZs (P : Program) (W : World) (ts : List TypeId) (K : List AV → Prop) : Prop :=
  ∀ (H : Type) (enc : TypeId × Value → H) (base : Nat) (vs : List Value) (ds : List (DataW H)) (ps : List MemPlace),
    (∀ (j : Nat) t v, ts[j]? = some t → vs[j]? = some v → Value.okWide P W .any base t v) → DataW.TrodAll enc P W 0 (fun _ => true) true ts vs ds ps → (DataW.weightsEach P ts ds).all (· ≤ reachBytes) = true → ∃ al, K al ∧ VRs (Old W) W C0 al vs

theorem decZs_nil {K : List AV → Prop} (h : K []) : DecZs P W [] K := by
  intro H enc base vs ds ps _ hT _
  obtain ⟨rfl, rfl, rfl⟩ := trodAll_nil hT
  exact ⟨[], h, rfl, fun i x y p q => by simp at p⟩

theorem decZs_cons {ts : List TypeId} {T : Type} {F : T → AV} {Q : T → Prop} {K : List AV → Prop} (D : DecZ P W t T F Q) (R : ∀ a, Q a → DecZs P W ts fun al => K (F a :: al)) : DecZs P W (t :: ts) K := by
  intro H enc base vs ds ps hok hT hs
  obtain ⟨v, vs', d, ds', p, q, rfl, rfl, rfl, h1, h2⟩ := trodAll_cons hT
  simp only [DataW.weightsEach, List.all_append, Bool.and_eq_true] at hs
  obtain ⟨a, qa, va⟩ := D H enc base v d p (hok 0 t v rfl rfl) h1 hs.1
  obtain ⟨al, ka, vas⟩ := R a qa H enc base vs' ds' q (fun j t v ht hv => hok (j + 1) t v (by simpa using ht) (by simpa using hv)) h2 hs.2
  exact ⟨_, ka, by simpa using (VRs.one1 va).app vas⟩
end
end Ax
