/- A part of the proof: several texts, one behind the other. -/
import Derived.Test.YtfgmlaeikcfpbaaLStallsPlaysD
set_option linter.unusedVariables false
set_option linter.unusedSimpArgs false
set_option maxRecDepth 100000
namespace Go.Proofs.Ytfgmlaeikcfpbaa
open Go Ax
open Go.Proofs

structure Fr where
  num : Int
  den : Int
def fracI (n d : Int) : Fr := ⟨Int.tdiv n (iMax (gcdI (iMax n (0 - n)) d) 1), Int.tdiv d (iMax (gcdI (iMax n (0 - n)) d) 1)⟩
def firstI (m : Mch) (w : Int → Int) (ch : Int → List Int → Int) : Fr := fracI ((valA m w ch).1.getD 0 0) (m.meas.getD 0 0)
theorem f87b : Try.f87.body = some (bodyAt Try.prog 87) := by kernel_rfl
theorem p87_start_0 (n : Int) (d : Int)   {E : Env} {res : AV} (hE : PureE Try.prog 87 res E) (o0 : InR .i64 (0 - n)) (o1 : PureF Try.prog (.clos 117 [] []) [.int .i64 (iMax n (0 - n)), .int .i64 d] (.int .i64 (iMax (gcdI (iMax n (0 - n)) d) 1))) (o2 : InR .i64 (Int.tdiv n (iMax (gcdI (iMax n (0 - n)) d) 1))) (o3 : (iMax (gcdI (iMax n (0 - n)) d) 1) ≠ 0) (o4 : InR .i64 (Int.tdiv d (iMax (gcdI (iMax n (0 - n)) d) 1))) (o5 : (iMax (gcdI (iMax n (0 - n)) d) 1) ≠ 0)
    (hr : AvLe (.agg [.int .i64 (Int.tdiv n (iMax (gcdI (iMax n (0 - n)) d) 1)), .int .i64 (Int.tdiv d (iMax (gcdI (iMax n (0 - n)) d) 1))]) res) : G Try.prog E [.code (bodyAt Try.prog 87)] ⟨[.int .i64 n, .int .i64 d] ++ unds (Try.f87.ntmps - 2), []⟩ :=
  end_stepL (n := 400) (evs := [.v (.int .i64 (iMax (gcdI (iMax n (0 - n)) d) 1))]) (obs := [InR .i64 (0 - n), PureF Try.prog (.clos 117 [] []) [.int .i64 (iMax n (0 - n)), .int .i64 d] (.int .i64 (iMax (gcdI (iMax n (0 - n)) d) 1)), InR .i64 (Int.tdiv n (iMax (gcdI (iMax n (0 - n)) d) 1)), (iMax (gcdI (iMax n (0 - n)) d) 1) ≠ 0, InR .i64 (Int.tdiv d (iMax (gcdI (iMax n (0 - n)) d) 1)), (iMax (gcdI (iMax n (0 - n)) d) 1) ≠ 0, 2 ≤ 2]) hE Try.func87 mixed (by kernel_rfl) ⟨o0, o1, o2, o3, o4, o5, (by decide), trivial⟩ hr
theorem f87W (n : Int) (d : Int) {E : Env} {rv : Fr} (hE : PureE Try.prog 87 (.agg [.int .i64 rv.num, .int .i64 rv.den]) E)
    (h : ((-9223372036854775808 ≤ 0 - n ∧ 0 - n ≤ 9223372036854775807) ∧ ((0 ≤ (iMax n (0 - n)) ∧ 0 ≤ d) ∧ ((-9223372036854775808 ≤ Int.tdiv n (iMax (gcdI (iMax n (0 - n)) d) 1) ∧ Int.tdiv n (iMax (gcdI (iMax n (0 - n)) d) 1) ≤ 9223372036854775807) ∧ ((iMax (gcdI (iMax n (0 - n)) d) 1) ≠ 0 ∧ ((-9223372036854775808 ≤ Int.tdiv d (iMax (gcdI (iMax n (0 - n)) d) 1) ∧ Int.tdiv d (iMax (gcdI (iMax n (0 - n)) d) 1) ≤ 9223372036854775807) ∧ ((iMax (gcdI (iMax n (0 - n)) d) 1) ≠ 0 ∧ rv = (⟨(Int.tdiv n (iMax (gcdI (iMax n (0 - n)) d) 1)), (Int.tdiv d (iMax (gcdI (iMax n (0 - n)) d) 1))⟩ : Fr)))))))) : G Try.prog E [.code (bodyAt Try.prog 87)] ⟨[.int .i64 n, .int .i64 d] ++ unds (Try.f87.ntmps - 2), []⟩ := by
  obtain ⟨q0_0, h⟩ := h
  obtain ⟨h1, h⟩ := h
  obtain ⟨q2_0, h⟩ := h
  obtain ⟨q3_0, h⟩ := h
  obtain ⟨q4_0, h⟩ := h
  obtain ⟨q5_0, h⟩ := h
  exact p87_start_0 n d    hE q0_0 (pureF_of Try.func117 (by kernel_rfl) f117b (divisor_ok (iMax n (0 - n)) d h1)) q2_0 q3_0 q4_0 q5_0 (AvLe.of_eq (by rw [h]; try rfl))

theorem iMax_pos {a : Int} : 1 ≤ iMax a 1 := by unfold iMax; split <;> omega
theorem tdiv_bd {n g B : Int} (hg : 1 ≤ g) (h1 : -B ≤ n) (h2 : n ≤ B) : -B ≤ Int.tdiv n g ∧ Int.tdiv n g ≤ B := by
  have key : ∀ a : Int, 0 ≤ a → 0 ≤ Int.tdiv a g ∧ Int.tdiv a g ≤ a := fun a ha => by
    rw [Int.tdiv_eq_ediv_of_nonneg ha]
    exact ⟨Int.ediv_nonneg ha (by omega), Int.ediv_le_self g ha⟩
  by_cases h : 0 ≤ n
  · have := key n h; omega
  · have h3 := key (-n) (by omega)
    rw [Int.neg_tdiv] at h3
    omega
theorem frac_ok (n d : Int) (h : (-100000000000000000 ≤ n ∧ n ≤ 100000000000000000) ∧ 0 < d ∧ d ≤ 1000000000000) : Pure Try.prog 87 [.int .i64 n, .int .i64 d] (.agg [.int .i64 (fracI n d).num, .int .i64 (fracI n d).den]) := pure_of Try.func87 f87b fun E hE => by
  have h0 : 0 ≤ iMax n (0 - n) := by unfold iMax; split <;> omega
  have hg : 1 ≤ iMax (gcdI (iMax n (0 - n)) d) 1 := iMax_pos
  have b1 := tdiv_bd hg h.1.1 h.1.2
  have b2 := tdiv_bd (n := d) (B := 1000000000000) hg (by omega) (by omega)
  exact f87W n d (rv := fracI n d) hE ⟨by omega, ⟨h0, by omega⟩, by omega, by omega, by omega, by omega, rfl⟩
theorem meas0 {m : Mch} (hm : MOk m) : ∃ u, m.meas[0]? = some u ∧ 0 < u ∧ u ≤ 1000000000000 := by
  have hn := (stPre_of hm.st).1
  have hg : m.meas[0]? = some (m.meas[0]'(by rw [hm.inv.l1]; omega)) := List.getElem?_eq_getElem _
  exact ⟨_, hg, hm.inv.pos 0 _ (by omega) hg⟩
theorem val0 {m : Mch} (hm : MOk m) {w : Int → Int} {ch : Int → List Int → Int} (hw : WOk m w ch) : ∃ v, (valA m w ch).1[0]? = some v ∧ (-100000000000000000 ≤ v ∧ v ≤ 100000000000000000) := by
  have hn := (stPre_of hm.st).1
  have hv := val_okA hm hw
  obtain ⟨u, h1, h2⟩ := meas0 hm
  have := hv.hi 0 u (by omega) h1
  exact ⟨_, getD_some (by rw [hv.l1]; omega), by omega, by omega⟩

theorem f75ob : Try.f75.body = some (bodyAt Try.prog 75) := by kernel_rfl
theorem p75o_start_0  (m : Mch) (kd pa oa : Int)  (e : Int) (e1 : Int)  {E : Env} {res : AV} (hE : PureE Try.prog 75 res E) (o0 : PureF Try.prog (.clos 83 [] []) [.rptr [.rsl (rowStg m.s.stages) 0 m.s.stages.length, .rsl (rowI m.s.worth) 0 m.s.worth.length, .int .i64 m.s.price, .rsl (rowI m.meas) 0 m.meas.length, .rsl (rowI m.mult) 0 m.mult.length] 0, .clos 113 [] [.rptr [.int .i64 kd] 0], .clos 114 [] [.rptr [.int .i64 pa] 0, .rptr [.rptr [.rsl (rowStg m.s.stages) 0 m.s.stages.length, .rsl (rowI m.s.worth) 0 m.s.worth.length, .int .i64 m.s.price, .rsl (rowI m.meas) 0 m.meas.length, .rsl (rowI m.mult) 0 m.mult.length] 0] 0, .rptr [.int .i64 oa] 0]] (.tup [.rsl (rowI ((valA m (onlyI kd) (chooseI m pa oa)).1)) 0 (((valA m (onlyI kd) (chooseI m pa oa)).1).length), .rsl (rowI ((valA m (onlyI kd) (chooseI m pa oa)).2)) 0 (((valA m (onlyI kd) (chooseI m pa oa)).2).length)])) (o2 : (0 : Int) ≤ 0 ∧ (0 : Int) < ((((valA m (onlyI kd) (chooseI m pa oa)).1).length : Nat) : Int)) (o3 : ((rowI ((valA m (onlyI kd) (chooseI m pa oa)).1)).drop (0 + 0 * 1)).take 1 = [.int .i64 e]) (o5 : (0 : Int) ≤ 0 ∧ (0 : Int) < (m.meas.length : Int)) (o6 : ((rowI m.meas).drop (0 + 0 * 1)).take 1 = [.int .i64 e1]) (o7 : PureF Try.prog (.clos 87 [] []) [.int .i64 e, .int .i64 e1] (.agg [.int .i64 ((fracI e e1).num), .int .i64 ((fracI e e1).den)]))
    (hr : AvLe (.agg [.int .i64 ((fracI e e1).num), .int .i64 ((fracI e e1).den)]) res) : G Try.prog E [.code (bodyAt Try.prog 75)] ⟨[.rptr [.rsl (rowStg m.s.stages) 0 m.s.stages.length, .rsl (rowI m.s.worth) 0 m.s.worth.length, .int .i64 m.s.price, .rsl (rowI m.meas) 0 m.meas.length, .rsl (rowI m.mult) 0 m.mult.length] 0, .clos 113 [] [.rptr [.int .i64 kd] 0], .clos 114 [] [.rptr [.int .i64 pa] 0, .rptr [.rptr [.rsl (rowStg m.s.stages) 0 m.s.stages.length, .rsl (rowI m.s.worth) 0 m.s.worth.length, .int .i64 m.s.price, .rsl (rowI m.meas) 0 m.meas.length, .rsl (rowI m.mult) 0 m.mult.length] 0] 0, .rptr [.int .i64 oa] 0]] ++ unds (Try.f75.ntmps - 3), []⟩ :=
  end_stepL (n := 400) (evs := [.v (.tup [.rsl (rowI ((valA m (onlyI kd) (chooseI m pa oa)).1)) 0 (((valA m (onlyI kd) (chooseI m pa oa)).1).length), .rsl (rowI ((valA m (onlyI kd) (chooseI m pa oa)).2)) 0 (((valA m (onlyI kd) (chooseI m pa oa)).2).length)]), .ld (.int .i64 e), .auto, .ld (.int .i64 e1), .v (.agg [.int .i64 ((fracI e e1).num), .int .i64 ((fracI e e1).den)])]) (obs := [PureF Try.prog (.clos 83 [] []) [.rptr [.rsl (rowStg m.s.stages) 0 m.s.stages.length, .rsl (rowI m.s.worth) 0 m.s.worth.length, .int .i64 m.s.price, .rsl (rowI m.meas) 0 m.meas.length, .rsl (rowI m.mult) 0 m.mult.length] 0, .clos 113 [] [.rptr [.int .i64 kd] 0], .clos 114 [] [.rptr [.int .i64 pa] 0, .rptr [.rptr [.rsl (rowStg m.s.stages) 0 m.s.stages.length, .rsl (rowI m.s.worth) 0 m.s.worth.length, .int .i64 m.s.price, .rsl (rowI m.meas) 0 m.meas.length, .rsl (rowI m.mult) 0 m.mult.length] 0] 0, .rptr [.int .i64 oa] 0]] (.tup [.rsl (rowI ((valA m (onlyI kd) (chooseI m pa oa)).1)) 0 (((valA m (onlyI kd) (chooseI m pa oa)).1).length), .rsl (rowI ((valA m (onlyI kd) (chooseI m pa oa)).2)) 0 (((valA m (onlyI kd) (chooseI m pa oa)).2).length)]), (0 : Int) ≤ 0 ∧ (0 : Int) < ((((valA m (onlyI kd) (chooseI m pa oa)).1).length : Nat) : Int), ((rowI ((valA m (onlyI kd) (chooseI m pa oa)).1)).drop (0 + 0 * 1)).take 1 = [.int .i64 e], (0 : Int) ≤ 0 ∧ (0 : Int) < (m.meas.length : Int), ((rowI m.meas).drop (0 + 0 * 1)).take 1 = [.int .i64 e1], PureF Try.prog (.clos 87 [] []) [.int .i64 e, .int .i64 e1] (.agg [.int .i64 ((fracI e e1).num), .int .i64 ((fracI e e1).den)]), 2 ≤ 2]) hE Try.func75 mixed (by kernel_rfl) ⟨o0, o2, o3, o5, o6, o7, (by decide), trivial⟩ hr
theorem f75oW  (m : Mch) (kd pa oa : Int) {E : Env} {rv : Fr} (hE : PureE Try.prog 75 (.agg [.int .i64 rv.num, .int .i64 rv.den]) E)
    (h : ((MOk m) ∧ (∃ e : Int, ((valA m (onlyI kd) (chooseI m pa oa)).1)[0]? = some e ∧ (∃ e1 : Int, m.meas[0]? = some e1 ∧ (((-100000000000000000 ≤ e ∧ e ≤ 100000000000000000) ∧ 0 < e1 ∧ e1 ≤ 1000000000000) ∧ rv = (fracI e e1)))))) : G Try.prog E [.code (bodyAt Try.prog 75)] ⟨[.rptr [.rsl (rowStg m.s.stages) 0 m.s.stages.length, .rsl (rowI m.s.worth) 0 m.s.worth.length, .int .i64 m.s.price, .rsl (rowI m.meas) 0 m.meas.length, .rsl (rowI m.mult) 0 m.mult.length] 0, .clos 113 [] [.rptr [.int .i64 kd] 0], .clos 114 [] [.rptr [.int .i64 pa] 0, .rptr [.rptr [.rsl (rowStg m.s.stages) 0 m.s.stages.length, .rsl (rowI m.s.worth) 0 m.s.worth.length, .int .i64 m.s.price, .rsl (rowI m.meas) 0 m.meas.length, .rsl (rowI m.mult) 0 m.mult.length] 0] 0, .rptr [.int .i64 oa] 0]] ++ unds (Try.f75.ntmps - 3), []⟩ := by
  obtain ⟨h1, h⟩ := h
  obtain ⟨e, h2, h⟩ := h
  obtain ⟨e1, h3, h⟩ := h
  obtain ⟨h4, h⟩ := h
  exact p75o_start_0 m kd pa oa   e e1 hE (pureF_of Try.func83 (by kernel_rfl) f83ob (valueo_ok m kd pa oa h1)) (idx_ok h2) (row_part cI (s := 1) (k := 0) (m := 1) (fun _ => rfl) (by decide) h2) (idx_ok h3) (row_part cI (s := 1) (k := 0) (m := 1) (fun _ => rfl) (by decide) h3) (pureF_of Try.func87 (by kernel_rfl) f87b (frac_ok e e1 h4)) (AvLe.of_eq (by rw [h]; try rfl))
theorem firsto_ok (m : Mch) (kd pa oa : Int) (hm : MOk m) : Pure Try.prog 75 [.rptr (cMch m) 0, .clos 113 [] [.rptr [.int .i64 kd] 0], .clos 114 [] [.rptr [.int .i64 pa] 0, .rptr [.rptr (cMch m) 0] 0, .rptr [.int .i64 oa] 0]] (.agg [.int .i64 (firstI m (onlyI kd) (chooseI m pa oa)).num, .int .i64 (firstI m (onlyI kd) (chooseI m pa oa)).den]) := pure_of Try.func75 f75ob fun E hE => by
  obtain ⟨v, hv, hb⟩ := val0 hm (w := (onlyI kd)) (ch := (chooseI m pa oa)) (wok_only)
  obtain ⟨u, hu, hb2⟩ := meas0 hm
  exact f75oW m kd pa oa (rv := firstI m (onlyI kd) (chooseI m pa oa)) hE ⟨hm, v, hv, u, hu, ⟨hb, hb2⟩, by rw [firstI, getD_of hv, getD_of hu]⟩


theorem f72b : Try.f72.body = some (bodyAt Try.prog 72) := by kernel_rfl
theorem p72_start_0  (m : Mch) (kd pa oa : Int)   {E : Env} {res : AV} (hE : PureE Try.prog 72 res E) (o0 : PureF Try.prog (.clos 73 [] []) [.rptr [.rsl (rowStg m.s.stages) 0 m.s.stages.length, .rsl (rowI m.s.worth) 0 m.s.worth.length, .int .i64 m.s.price, .rsl (rowI m.meas) 0 m.meas.length, .rsl (rowI m.mult) 0 m.mult.length] 0, .int .i64 kd] (.bool (kindI m kd))) (o1 : (kindI m kd) = true) (o2 : PureF Try.prog (.clos 74 [] []) [.rsl [.int .i64 pa, .int .i64 oa] 0 2] (.bool (aimsI ([pa, oa]))))
    (hr : AvLe (.bool (aimsI ([pa, oa]))) res) : G Try.prog E [.code (bodyAt Try.prog 72)] ⟨[.rptr [.rsl (rowStg m.s.stages) 0 m.s.stages.length, .rsl (rowI m.s.worth) 0 m.s.worth.length, .int .i64 m.s.price, .rsl (rowI m.meas) 0 m.meas.length, .rsl (rowI m.mult) 0 m.mult.length] 0, .rptr [.int .i64 kd] 0, .rptr [.int .i64 pa] 0, .rptr [.int .i64 oa] 0] ++ unds (Try.f72.ntmps - 4), []⟩ :=
  end_stepL (n := 400) (evs := [.v (.bool (kindI m kd)), .b true, .v (.bool (aimsI ([pa, oa])))]) (obs := [PureF Try.prog (.clos 73 [] []) [.rptr [.rsl (rowStg m.s.stages) 0 m.s.stages.length, .rsl (rowI m.s.worth) 0 m.s.worth.length, .int .i64 m.s.price, .rsl (rowI m.meas) 0 m.meas.length, .rsl (rowI m.mult) 0 m.mult.length] 0, .int .i64 kd] (.bool (kindI m kd)), (kindI m kd) = true, PureF Try.prog (.clos 74 [] []) [.rsl [.int .i64 pa, .int .i64 oa] 0 2] (.bool (aimsI ([pa, oa]))), 0 = 0]) hE Try.func72 mixed (by kernel_rfl) ⟨o0, o1, o2, (rfl), trivial⟩ hr
theorem p72_start_1  (m : Mch) (kd pa oa : Int)   {E : Env} {res : AV} (hE : PureE Try.prog 72 res E) (o0 : PureF Try.prog (.clos 73 [] []) [.rptr [.rsl (rowStg m.s.stages) 0 m.s.stages.length, .rsl (rowI m.s.worth) 0 m.s.worth.length, .int .i64 m.s.price, .rsl (rowI m.meas) 0 m.meas.length, .rsl (rowI m.mult) 0 m.mult.length] 0, .int .i64 kd] (.bool (kindI m kd))) (o1 : (kindI m kd) = false)
    (hr : AvLe (.bool false) res) : G Try.prog E [.code (bodyAt Try.prog 72)] ⟨[.rptr [.rsl (rowStg m.s.stages) 0 m.s.stages.length, .rsl (rowI m.s.worth) 0 m.s.worth.length, .int .i64 m.s.price, .rsl (rowI m.meas) 0 m.meas.length, .rsl (rowI m.mult) 0 m.mult.length] 0, .rptr [.int .i64 kd] 0, .rptr [.int .i64 pa] 0, .rptr [.int .i64 oa] 0] ++ unds (Try.f72.ntmps - 4), []⟩ :=
  end_stepL (n := 400) (evs := [.v (.bool (kindI m kd)), .b false]) (obs := [PureF Try.prog (.clos 73 [] []) [.rptr [.rsl (rowStg m.s.stages) 0 m.s.stages.length, .rsl (rowI m.s.worth) 0 m.s.worth.length, .int .i64 m.s.price, .rsl (rowI m.meas) 0 m.meas.length, .rsl (rowI m.mult) 0 m.mult.length] 0, .int .i64 kd] (.bool (kindI m kd)), (kindI m kd) = false]) hE Try.func72 mixed (by kernel_rfl) ⟨o0, o1, trivial⟩ hr
theorem f72W  (m : Mch) (kd pa oa : Int) {E : Env} {rv : Bool} (hE : PureE Try.prog 72 (.bool rv) E)
    (h : ((m.s.worth.length ≤ 1000000) ∧ (((kindI m kd) = true → ((([pa, oa]).length ≤ 9223372036854775807) ∧ rv = (aimsI ([pa, oa])))) ∧ ((kindI m kd) = false → rv = false)))) : G Try.prog E [.code (bodyAt Try.prog 72)] ⟨[.rptr [.rsl (rowStg m.s.stages) 0 m.s.stages.length, .rsl (rowI m.s.worth) 0 m.s.worth.length, .int .i64 m.s.price, .rsl (rowI m.meas) 0 m.meas.length, .rsl (rowI m.mult) 0 m.mult.length] 0, .rptr [.int .i64 kd] 0, .rptr [.int .i64 pa] 0, .rptr [.int .i64 oa] 0] ++ unds (Try.f72.ntmps - 4), []⟩ := by
  obtain ⟨h1, h⟩ := h
  rcases Bool.eq_false_or_eq_true (kindI m kd) with hc0 | hc0
  · have h := h.1 hc0
    obtain ⟨h2, h⟩ := h
    exact p72_start_0 m kd pa oa    hE (pureF_of Try.func73 (by kernel_rfl) f73b (kind_ok m kd h1)) hc0 (pureF_of Try.func74 (by kernel_rfl) f74b (aims_ok ([pa, oa]) h2)) (AvLe.of_eq (by rw [h]; try rfl))
  · have h := h.2 hc0
    exact p72_start_1 m kd pa oa    hE (pureF_of Try.func73 (by kernel_rfl) f73b (kind_ok m kd h1)) hc0 (AvLe.of_eq (by rw [h]; try rfl))
theorem f93b : Try.f93.body = some (bodyAt Try.prog 93) := by kernel_rfl
def f93K0 (P : Program) : List Item := kAt 400 [.code (bodyAt P 93)] [.b false, .stop]
def f93S0 (l : (List Int)) (m : Mch) (i : Nat)  : St := ⟨[.rptr [.rsl (rowStg m.s.stages) 0 m.s.stages.length, .rsl (rowI m.s.worth) 0 m.s.worth.length, .int .i64 m.s.price, .rsl (rowI m.meas) 0 m.meas.length, .rsl (rowI m.mult) 0 m.mult.length] 0, .junk, .junk, .junk, .junk, .junk, .junk, .junk, .junk, .junk, .junk, .junk, .junk, .junk, .junk, .junk, .junk, .junk, .rsl (rowI l) 0 l.length, .int .i64 (l.length : Int), .int .i64 (i : Int), .junk, .junk, .junk, .junk, .junk, .junk, .junk, .junk, .junk, .junk, .junk, .junk, .junk, .junk, .junk, .junk, .junk, .junk, .junk, .junk, .junk, .junk, .junk, .junk, .junk, .junk, .junk, .junk, .junk, .junk, .junk, .junk, .junk, .junk, .junk], []⟩
def f93G0 (E : Env) (l : (List Int)) (m : Mch) (i : Nat) : Prop := G Try.prog E (f93K0 Try.prog) (f93S0 l m i )
theorem p93_start_0 (l : (List Int)) (m : Mch)   {E : Env} {res : AV} (hE : PureE Try.prog 93 res E) (o0 : ((l.length : Int) != (m.s.stages.length : Int)) = true)
    (hr : AvLe (.bool false) res) : G Try.prog E [.code (bodyAt Try.prog 93)] ⟨[.rptr [.rsl (rowStg m.s.stages) 0 m.s.stages.length, .rsl (rowI m.s.worth) 0 m.s.worth.length, .int .i64 m.s.price, .rsl (rowI m.meas) 0 m.meas.length, .rsl (rowI m.mult) 0 m.mult.length] 0, .rsl (rowI l) 0 l.length] ++ unds (Try.f93.ntmps - 2), []⟩ :=
  end_stepL (n := 400) (evs := [.b true]) (obs := [((l.length : Int) != (m.s.stages.length : Int)) = true]) hE Try.func93 mixed (by kernel_rfl) ⟨o0, trivial⟩ hr
theorem p93_start_1 (l : (List Int)) (m : Mch)   {E : Env} {rv : AV} (hE : PureE Try.prog 93 rv E) (o0 : ((l.length : Int) != (m.s.stages.length : Int)) = false)
    (hg : G Try.prog E (f93K0 Try.prog) ⟨[.rptr [.rsl (rowStg m.s.stages) 0 m.s.stages.length, .rsl (rowI m.s.worth) 0 m.s.worth.length, .int .i64 m.s.price, .rsl (rowI m.meas) 0 m.meas.length, .rsl (rowI m.mult) 0 m.mult.length] 0, .junk, .junk, .junk, .junk, .junk, .junk, .junk, .junk, .junk, .junk, .junk, .junk, .junk, .junk, .junk, .junk, .junk, .rsl (rowI l) 0 l.length, .int .i64 (l.length : Int), .int .i64 0, .junk, .junk, .junk, .junk, .junk, .junk, .junk, .junk, .junk, .junk, .junk, .junk, .junk, .junk, .junk, .junk, .junk, .junk, .junk, .junk, .junk, .junk, .junk, .junk, .junk, .junk, .junk, .junk, .junk, .junk, .junk, .junk, .junk, .junk, .junk], []⟩) : G Try.prog E [.code (bodyAt Try.prog 93)] ⟨[.rptr [.rsl (rowStg m.s.stages) 0 m.s.stages.length, .rsl (rowI m.s.worth) 0 m.s.worth.length, .int .i64 m.s.price, .rsl (rowI m.meas) 0 m.meas.length, .rsl (rowI m.mult) 0 m.mult.length] 0, .rsl (rowI l) 0 l.length] ++ unds (Try.f93.ntmps - 2), []⟩ :=
  segC_step (n := 400) (ds := []) (cs := []) (live := [0, 18, 19, 20]) (m := 0) (evs := [.b false, .stop]) (obs := [((l.length : Int) != (m.s.stages.length : Int)) = false]) hE.2.1 (hE.nogh _) mixed (by kernel_rfl) ⟨o0, trivial⟩ hg
theorem f93W (l : (List Int)) (m : Mch) {E : Env} {rv : Bool} (hE : PureE Try.prog 93 (.bool rv) E)
    (h : ((¬ ((l.length : Int) = (m.s.stages.length : Int)) → rv = false) ∧ ((l.length : Int) = (m.s.stages.length : Int) → f93G0 E l m 0))) : G Try.prog E [.code (bodyAt Try.prog 93)] ⟨[.rptr [.rsl (rowStg m.s.stages) 0 m.s.stages.length, .rsl (rowI m.s.worth) 0 m.s.worth.length, .int .i64 m.s.price, .rsl (rowI m.meas) 0 m.meas.length, .rsl (rowI m.mult) 0 m.mult.length] 0, .rsl (rowI l) 0 l.length] ++ unds (Try.f93.ntmps - 2), []⟩ := by
  rcases Bool.eq_false_or_eq_true ((l.length : Int) != (m.s.stages.length : Int)) with hc0 | hc0
  · have h := h.1 (bneT hc0)
    exact p93_start_0 l m    hE hc0 (AvLe.of_eq (by rw [h]; try rfl))
  · have h := h.2 (bneF hc0)
    exact p93_start_1 l m    hE hc0 h
theorem p93_0_0 (l : (List Int)) (m : Mch) (i : Nat)  (e : Int) (se : Stg)  {E : Env} {res : AV} (hE : PureE Try.prog 93 res E) (o0 : (decide ((i : Int) < (l.length : Int))) = true) (o2 : 0 ≤ (i : Int) ∧ (i : Int) < (l.length : Int)) (o3 : ((rowI l).drop (0 + (Int.toNat (i : Int)) * 1)).take 1 = [.int .i64 e]) (o5 : 0 ≤ (i : Int) ∧ (i : Int) < (m.s.stages.length : Int)) (o6 : ((rowStg m.s.stages).drop ((0 + (Int.toNat (i : Int)) * 3) + 0)).take 1 = [.int .i64 se.kind]) (o7 : (se.kind == 2) = true) (o9 : 0 ≤ (i : Int) ∧ (i : Int) < (m.s.stages.length : Int)) (o10 : ((rowStg m.s.stages).drop ((0 + (Int.toNat (i : Int)) * 3) + 2)).take 1 = [.rsl (rowTrn se.turns) 0 se.turns.length]) (o11 : InR .i64 ((se.turns.length : Int) - 1)) (o12 : PureF Try.prog (.clos 65 [] []) [.int .i64 e, .int .i64 0, .int .i64 ((se.turns.length : Int) - 1)] (.bool (within e 0 ((se.turns.length : Int) - 1)))) (o13 : (!(within e 0 ((se.turns.length : Int) - 1))) = true)
    (hr : AvLe (.bool false) res) : G Try.prog E (f93K0 Try.prog) (f93S0 l m i ) :=
  end_stepL (n := 400) (evs := [.b true, .ld (.int .i64 e), .auto, .ld (.int .i64 se.kind), .b true, .b true, .auto, .ld (.rsl (rowTrn se.turns) 0 se.turns.length), .v (.bool (within e 0 ((se.turns.length : Int) - 1))), .b true]) (obs := [(decide ((i : Int) < (l.length : Int))) = true, 0 ≤ (i : Int) ∧ (i : Int) < (l.length : Int), ((rowI l).drop (0 + (Int.toNat (i : Int)) * 1)).take 1 = [.int .i64 e], 0 ≤ (i : Int) ∧ (i : Int) < (m.s.stages.length : Int), ((rowStg m.s.stages).drop ((0 + (Int.toNat (i : Int)) * 3) + 0)).take 1 = [.int .i64 se.kind], (se.kind == 2) = true, true = true, 0 ≤ (i : Int) ∧ (i : Int) < (m.s.stages.length : Int), ((rowStg m.s.stages).drop ((0 + (Int.toNat (i : Int)) * 3) + 2)).take 1 = [.rsl (rowTrn se.turns) 0 se.turns.length], InR .i64 ((se.turns.length : Int) - 1), PureF Try.prog (.clos 65 [] []) [.int .i64 e, .int .i64 0, .int .i64 ((se.turns.length : Int) - 1)] (.bool (within e 0 ((se.turns.length : Int) - 1))), (!(within e 0 ((se.turns.length : Int) - 1))) = true]) hE Try.func93 mixed (by kernel_rfl) ⟨o0, o2, o3, o5, o6, o7, (rfl), o9, o10, o11, o12, o13, trivial⟩ hr
theorem p93_0_1 (l : (List Int)) (m : Mch) (i : Nat)  (e : Int) (se : Stg)  {E : Env} {rv : AV} (hE : PureE Try.prog 93 rv E) (o0 : (decide ((i : Int) < (l.length : Int))) = true) (o2 : 0 ≤ (i : Int) ∧ (i : Int) < (l.length : Int)) (o3 : ((rowI l).drop (0 + (Int.toNat (i : Int)) * 1)).take 1 = [.int .i64 e]) (o5 : 0 ≤ (i : Int) ∧ (i : Int) < (m.s.stages.length : Int)) (o6 : ((rowStg m.s.stages).drop ((0 + (Int.toNat (i : Int)) * 3) + 0)).take 1 = [.int .i64 se.kind]) (o7 : (se.kind == 2) = true) (o9 : 0 ≤ (i : Int) ∧ (i : Int) < (m.s.stages.length : Int)) (o10 : ((rowStg m.s.stages).drop ((0 + (Int.toNat (i : Int)) * 3) + 2)).take 1 = [.rsl (rowTrn se.turns) 0 se.turns.length]) (o11 : InR .i64 ((se.turns.length : Int) - 1)) (o12 : PureF Try.prog (.clos 65 [] []) [.int .i64 e, .int .i64 0, .int .i64 ((se.turns.length : Int) - 1)] (.bool (within e 0 ((se.turns.length : Int) - 1)))) (o13 : (!(within e 0 ((se.turns.length : Int) - 1))) = false) (o14 : InR .i64 ((i : Int) + 1))
    (hg : G Try.prog E (f93K0 Try.prog) ⟨[.rptr [.rsl (rowStg m.s.stages) 0 m.s.stages.length, .rsl (rowI m.s.worth) 0 m.s.worth.length, .int .i64 m.s.price, .rsl (rowI m.meas) 0 m.meas.length, .rsl (rowI m.mult) 0 m.mult.length] 0, .junk, .junk, .junk, .junk, .junk, .junk, .junk, .junk, .junk, .junk, .junk, .junk, .junk, .junk, .junk, .junk, .junk, .rsl (rowI l) 0 l.length, .int .i64 (l.length : Int), .int .i64 ((i : Int) + 1), .junk, .junk, .junk, .junk, .junk, .junk, .junk, .junk, .junk, .junk, .junk, .junk, .junk, .junk, .junk, .junk, .junk, .junk, .junk, .junk, .junk, .junk, .junk, .junk, .junk, .junk, .junk, .junk, .junk, .junk, .junk, .junk, .junk, .junk, .junk], []⟩) : G Try.prog E (f93K0 Try.prog) (f93S0 l m i ) :=
  segC_step (n := 400) (ds := []) (cs := []) (live := [0, 18, 19, 20]) (m := 0) (evs := [.b true, .ld (.int .i64 e), .auto, .ld (.int .i64 se.kind), .b true, .b true, .auto, .ld (.rsl (rowTrn se.turns) 0 se.turns.length), .v (.bool (within e 0 ((se.turns.length : Int) - 1))), .b false, .stop]) (obs := [(decide ((i : Int) < (l.length : Int))) = true, 0 ≤ (i : Int) ∧ (i : Int) < (l.length : Int), ((rowI l).drop (0 + (Int.toNat (i : Int)) * 1)).take 1 = [.int .i64 e], 0 ≤ (i : Int) ∧ (i : Int) < (m.s.stages.length : Int), ((rowStg m.s.stages).drop ((0 + (Int.toNat (i : Int)) * 3) + 0)).take 1 = [.int .i64 se.kind], (se.kind == 2) = true, true = true, 0 ≤ (i : Int) ∧ (i : Int) < (m.s.stages.length : Int), ((rowStg m.s.stages).drop ((0 + (Int.toNat (i : Int)) * 3) + 2)).take 1 = [.rsl (rowTrn se.turns) 0 se.turns.length], InR .i64 ((se.turns.length : Int) - 1), PureF Try.prog (.clos 65 [] []) [.int .i64 e, .int .i64 0, .int .i64 ((se.turns.length : Int) - 1)] (.bool (within e 0 ((se.turns.length : Int) - 1))), (!(within e 0 ((se.turns.length : Int) - 1))) = false, InR .i64 ((i : Int) + 1)]) hE.2.1 (hE.nogh _) mixed (by kernel_rfl) ⟨o0, o2, o3, o5, o6, o7, (rfl), o9, o10, o11, o12, o13, o14, trivial⟩ hg
theorem p93_0_2 (l : (List Int)) (m : Mch) (i : Nat)  (e : Int) (se : Stg)  {E : Env} {res : AV} (hE : PureE Try.prog 93 res E) (o0 : (decide ((i : Int) < (l.length : Int))) = true) (o2 : 0 ≤ (i : Int) ∧ (i : Int) < (l.length : Int)) (o3 : ((rowI l).drop (0 + (Int.toNat (i : Int)) * 1)).take 1 = [.int .i64 e]) (o5 : 0 ≤ (i : Int) ∧ (i : Int) < (m.s.stages.length : Int)) (o6 : ((rowStg m.s.stages).drop ((0 + (Int.toNat (i : Int)) * 3) + 0)).take 1 = [.int .i64 se.kind]) (o7 : (se.kind == 2) = false) (o8 : (se.kind == 3) = true) (o9 : 0 ≤ (i : Int) ∧ (i : Int) < (m.s.stages.length : Int)) (o10 : ((rowStg m.s.stages).drop ((0 + (Int.toNat (i : Int)) * 3) + 2)).take 1 = [.rsl (rowTrn se.turns) 0 se.turns.length]) (o11 : InR .i64 ((se.turns.length : Int) - 1)) (o12 : PureF Try.prog (.clos 65 [] []) [.int .i64 e, .int .i64 0, .int .i64 ((se.turns.length : Int) - 1)] (.bool (within e 0 ((se.turns.length : Int) - 1)))) (o13 : (!(within e 0 ((se.turns.length : Int) - 1))) = true)
    (hr : AvLe (.bool false) res) : G Try.prog E (f93K0 Try.prog) (f93S0 l m i ) :=
  end_stepL (n := 400) (evs := [.b true, .ld (.int .i64 e), .auto, .ld (.int .i64 se.kind), .b false, .b true, .auto, .ld (.rsl (rowTrn se.turns) 0 se.turns.length), .v (.bool (within e 0 ((se.turns.length : Int) - 1))), .b true]) (obs := [(decide ((i : Int) < (l.length : Int))) = true, 0 ≤ (i : Int) ∧ (i : Int) < (l.length : Int), ((rowI l).drop (0 + (Int.toNat (i : Int)) * 1)).take 1 = [.int .i64 e], 0 ≤ (i : Int) ∧ (i : Int) < (m.s.stages.length : Int), ((rowStg m.s.stages).drop ((0 + (Int.toNat (i : Int)) * 3) + 0)).take 1 = [.int .i64 se.kind], (se.kind == 2) = false, (se.kind == 3) = true, 0 ≤ (i : Int) ∧ (i : Int) < (m.s.stages.length : Int), ((rowStg m.s.stages).drop ((0 + (Int.toNat (i : Int)) * 3) + 2)).take 1 = [.rsl (rowTrn se.turns) 0 se.turns.length], InR .i64 ((se.turns.length : Int) - 1), PureF Try.prog (.clos 65 [] []) [.int .i64 e, .int .i64 0, .int .i64 ((se.turns.length : Int) - 1)] (.bool (within e 0 ((se.turns.length : Int) - 1))), (!(within e 0 ((se.turns.length : Int) - 1))) = true]) hE Try.func93 mixed (by kernel_rfl) ⟨o0, o2, o3, o5, o6, o7, o8, o9, o10, o11, o12, o13, trivial⟩ hr
theorem p93_0_3 (l : (List Int)) (m : Mch) (i : Nat)  (e : Int) (se : Stg)  {E : Env} {rv : AV} (hE : PureE Try.prog 93 rv E) (o0 : (decide ((i : Int) < (l.length : Int))) = true) (o2 : 0 ≤ (i : Int) ∧ (i : Int) < (l.length : Int)) (o3 : ((rowI l).drop (0 + (Int.toNat (i : Int)) * 1)).take 1 = [.int .i64 e]) (o5 : 0 ≤ (i : Int) ∧ (i : Int) < (m.s.stages.length : Int)) (o6 : ((rowStg m.s.stages).drop ((0 + (Int.toNat (i : Int)) * 3) + 0)).take 1 = [.int .i64 se.kind]) (o7 : (se.kind == 2) = false) (o8 : (se.kind == 3) = true) (o9 : 0 ≤ (i : Int) ∧ (i : Int) < (m.s.stages.length : Int)) (o10 : ((rowStg m.s.stages).drop ((0 + (Int.toNat (i : Int)) * 3) + 2)).take 1 = [.rsl (rowTrn se.turns) 0 se.turns.length]) (o11 : InR .i64 ((se.turns.length : Int) - 1)) (o12 : PureF Try.prog (.clos 65 [] []) [.int .i64 e, .int .i64 0, .int .i64 ((se.turns.length : Int) - 1)] (.bool (within e 0 ((se.turns.length : Int) - 1)))) (o13 : (!(within e 0 ((se.turns.length : Int) - 1))) = false) (o14 : InR .i64 ((i : Int) + 1))
    (hg : G Try.prog E (f93K0 Try.prog) ⟨[.rptr [.rsl (rowStg m.s.stages) 0 m.s.stages.length, .rsl (rowI m.s.worth) 0 m.s.worth.length, .int .i64 m.s.price, .rsl (rowI m.meas) 0 m.meas.length, .rsl (rowI m.mult) 0 m.mult.length] 0, .junk, .junk, .junk, .junk, .junk, .junk, .junk, .junk, .junk, .junk, .junk, .junk, .junk, .junk, .junk, .junk, .junk, .rsl (rowI l) 0 l.length, .int .i64 (l.length : Int), .int .i64 ((i : Int) + 1), .junk, .junk, .junk, .junk, .junk, .junk, .junk, .junk, .junk, .junk, .junk, .junk, .junk, .junk, .junk, .junk, .junk, .junk, .junk, .junk, .junk, .junk, .junk, .junk, .junk, .junk, .junk, .junk, .junk, .junk, .junk, .junk, .junk, .junk, .junk], []⟩) : G Try.prog E (f93K0 Try.prog) (f93S0 l m i ) :=
  segC_step (n := 400) (ds := []) (cs := []) (live := [0, 18, 19, 20]) (m := 0) (evs := [.b true, .ld (.int .i64 e), .auto, .ld (.int .i64 se.kind), .b false, .b true, .auto, .ld (.rsl (rowTrn se.turns) 0 se.turns.length), .v (.bool (within e 0 ((se.turns.length : Int) - 1))), .b false, .stop]) (obs := [(decide ((i : Int) < (l.length : Int))) = true, 0 ≤ (i : Int) ∧ (i : Int) < (l.length : Int), ((rowI l).drop (0 + (Int.toNat (i : Int)) * 1)).take 1 = [.int .i64 e], 0 ≤ (i : Int) ∧ (i : Int) < (m.s.stages.length : Int), ((rowStg m.s.stages).drop ((0 + (Int.toNat (i : Int)) * 3) + 0)).take 1 = [.int .i64 se.kind], (se.kind == 2) = false, (se.kind == 3) = true, 0 ≤ (i : Int) ∧ (i : Int) < (m.s.stages.length : Int), ((rowStg m.s.stages).drop ((0 + (Int.toNat (i : Int)) * 3) + 2)).take 1 = [.rsl (rowTrn se.turns) 0 se.turns.length], InR .i64 ((se.turns.length : Int) - 1), PureF Try.prog (.clos 65 [] []) [.int .i64 e, .int .i64 0, .int .i64 ((se.turns.length : Int) - 1)] (.bool (within e 0 ((se.turns.length : Int) - 1))), (!(within e 0 ((se.turns.length : Int) - 1))) = false, InR .i64 ((i : Int) + 1)]) hE.2.1 (hE.nogh _) mixed (by kernel_rfl) ⟨o0, o2, o3, o5, o6, o7, o8, o9, o10, o11, o12, o13, o14, trivial⟩ hg
theorem p93_0_4 (l : (List Int)) (m : Mch) (i : Nat)  (e : Int) (se : Stg)  {E : Env} {res : AV} (hE : PureE Try.prog 93 res E) (o0 : (decide ((i : Int) < (l.length : Int))) = true) (o2 : 0 ≤ (i : Int) ∧ (i : Int) < (l.length : Int)) (o3 : ((rowI l).drop (0 + (Int.toNat (i : Int)) * 1)).take 1 = [.int .i64 e]) (o5 : 0 ≤ (i : Int) ∧ (i : Int) < (m.s.stages.length : Int)) (o6 : ((rowStg m.s.stages).drop ((0 + (Int.toNat (i : Int)) * 3) + 0)).take 1 = [.int .i64 se.kind]) (o7 : (se.kind == 2) = false) (o8 : (se.kind == 3) = false) (o9 : PureF Try.prog (.clos 65 [] []) [.int .i64 e, .int .i64 0, .int .i64 0] (.bool (within e 0 0))) (o10 : (!(within e 0 0)) = true)
    (hr : AvLe (.bool false) res) : G Try.prog E (f93K0 Try.prog) (f93S0 l m i ) :=
  end_stepL (n := 400) (evs := [.b true, .ld (.int .i64 e), .auto, .ld (.int .i64 se.kind), .b false, .b false, .v (.bool (within e 0 0)), .b true]) (obs := [(decide ((i : Int) < (l.length : Int))) = true, 0 ≤ (i : Int) ∧ (i : Int) < (l.length : Int), ((rowI l).drop (0 + (Int.toNat (i : Int)) * 1)).take 1 = [.int .i64 e], 0 ≤ (i : Int) ∧ (i : Int) < (m.s.stages.length : Int), ((rowStg m.s.stages).drop ((0 + (Int.toNat (i : Int)) * 3) + 0)).take 1 = [.int .i64 se.kind], (se.kind == 2) = false, (se.kind == 3) = false, PureF Try.prog (.clos 65 [] []) [.int .i64 e, .int .i64 0, .int .i64 0] (.bool (within e 0 0)), (!(within e 0 0)) = true]) hE Try.func93 mixed (by kernel_rfl) ⟨o0, o2, o3, o5, o6, o7, o8, o9, o10, trivial⟩ hr
theorem p93_0_5 (l : (List Int)) (m : Mch) (i : Nat)  (e : Int) (se : Stg)  {E : Env} {rv : AV} (hE : PureE Try.prog 93 rv E) (o0 : (decide ((i : Int) < (l.length : Int))) = true) (o2 : 0 ≤ (i : Int) ∧ (i : Int) < (l.length : Int)) (o3 : ((rowI l).drop (0 + (Int.toNat (i : Int)) * 1)).take 1 = [.int .i64 e]) (o5 : 0 ≤ (i : Int) ∧ (i : Int) < (m.s.stages.length : Int)) (o6 : ((rowStg m.s.stages).drop ((0 + (Int.toNat (i : Int)) * 3) + 0)).take 1 = [.int .i64 se.kind]) (o7 : (se.kind == 2) = false) (o8 : (se.kind == 3) = false) (o9 : PureF Try.prog (.clos 65 [] []) [.int .i64 e, .int .i64 0, .int .i64 0] (.bool (within e 0 0))) (o10 : (!(within e 0 0)) = false) (o11 : InR .i64 ((i : Int) + 1))
    (hg : G Try.prog E (f93K0 Try.prog) ⟨[.rptr [.rsl (rowStg m.s.stages) 0 m.s.stages.length, .rsl (rowI m.s.worth) 0 m.s.worth.length, .int .i64 m.s.price, .rsl (rowI m.meas) 0 m.meas.length, .rsl (rowI m.mult) 0 m.mult.length] 0, .junk, .junk, .junk, .junk, .junk, .junk, .junk, .junk, .junk, .junk, .junk, .junk, .junk, .junk, .junk, .junk, .junk, .rsl (rowI l) 0 l.length, .int .i64 (l.length : Int), .int .i64 ((i : Int) + 1), .junk, .junk, .junk, .junk, .junk, .junk, .junk, .junk, .junk, .junk, .junk, .junk, .junk, .junk, .junk, .junk, .junk, .junk, .junk, .junk, .junk, .junk, .junk, .junk, .junk, .junk, .junk, .junk, .junk, .junk, .junk, .junk, .junk, .junk, .junk], []⟩) : G Try.prog E (f93K0 Try.prog) (f93S0 l m i ) :=
  segC_step (n := 400) (ds := []) (cs := []) (live := [0, 18, 19, 20]) (m := 0) (evs := [.b true, .ld (.int .i64 e), .auto, .ld (.int .i64 se.kind), .b false, .b false, .v (.bool (within e 0 0)), .b false, .stop]) (obs := [(decide ((i : Int) < (l.length : Int))) = true, 0 ≤ (i : Int) ∧ (i : Int) < (l.length : Int), ((rowI l).drop (0 + (Int.toNat (i : Int)) * 1)).take 1 = [.int .i64 e], 0 ≤ (i : Int) ∧ (i : Int) < (m.s.stages.length : Int), ((rowStg m.s.stages).drop ((0 + (Int.toNat (i : Int)) * 3) + 0)).take 1 = [.int .i64 se.kind], (se.kind == 2) = false, (se.kind == 3) = false, PureF Try.prog (.clos 65 [] []) [.int .i64 e, .int .i64 0, .int .i64 0] (.bool (within e 0 0)), (!(within e 0 0)) = false, InR .i64 ((i : Int) + 1)]) hE.2.1 (hE.nogh _) mixed (by kernel_rfl) ⟨o0, o2, o3, o5, o6, o7, o8, o9, o10, o11, trivial⟩ hg
theorem p93_0_6 (l : (List Int)) (m : Mch) (i : Nat)   {E : Env} {res : AV} (hE : PureE Try.prog 93 res E) (o0 : (decide ((i : Int) < (l.length : Int))) = false)
    (hr : AvLe (.bool true) res) : G Try.prog E (f93K0 Try.prog) (f93S0 l m i ) :=
  end_stepL (n := 400) (evs := [.b false]) (obs := [(decide ((i : Int) < (l.length : Int))) = false]) hE Try.func93 mixed (by kernel_rfl) ⟨o0, trivial⟩ hr
theorem f93W0 (l : (List Int)) (m : Mch) (i : Nat) {E : Env} {rv : Bool} (hE : PureE Try.prog 93 (.bool rv) E)
    (h : (((i : Int) < (l.length : Int) → (∃ e : Int, l[i]? = some e ∧ (∃ se : Stg, m.s.stages[i]? = some se ∧ ((se.kind = 2 → ((-9223372036854775808 ≤ (se.turns.length : Int) - 1 ∧ (se.turns.length : Int) - 1 ≤ 9223372036854775807) ∧ (((within e 0 ((se.turns.length : Int) - 1)) = false → rv = false) ∧ ((within e 0 ((se.turns.length : Int) - 1)) = true → ((-9223372036854775808 ≤ (i : Int) + 1 ∧ (i : Int) + 1 ≤ 9223372036854775807) ∧ f93G0 E l m (i + 1)))))) ∧ (¬ (se.kind = 2) → ((se.kind = 3 → ((-9223372036854775808 ≤ (se.turns.length : Int) - 1 ∧ (se.turns.length : Int) - 1 ≤ 9223372036854775807) ∧ (((within e 0 ((se.turns.length : Int) - 1)) = false → rv = false) ∧ ((within e 0 ((se.turns.length : Int) - 1)) = true → ((-9223372036854775808 ≤ (i : Int) + 1 ∧ (i : Int) + 1 ≤ 9223372036854775807) ∧ f93G0 E l m (i + 1)))))) ∧ (¬ (se.kind = 3) → (((within e 0 0) = false → rv = false) ∧ ((within e 0 0) = true → ((-9223372036854775808 ≤ (i : Int) + 1 ∧ (i : Int) + 1 ≤ 9223372036854775807) ∧ f93G0 E l m (i + 1))))))))))) ∧ (¬ ((i : Int) < (l.length : Int)) → rv = true))) : f93G0 E l m i := by
  rcases Bool.eq_false_or_eq_true (decide ((i : Int) < (l.length : Int))) with hc0 | hc0
  · have h := h.1 (of_decide_eq_true hc0)
    obtain ⟨e, h1, h⟩ := h
    obtain ⟨se, h2, h⟩ := h
    rcases Bool.eq_false_or_eq_true (se.kind == 2) with hc1 | hc1
    · have h := h.1 (eq_of_beq hc1)
      obtain ⟨q11_2, h⟩ := h
      rcases Bool.eq_false_or_eq_true (!(within e 0 ((se.turns.length : Int) - 1))) with hc2 | hc2
      · have h := h.1 (bnT hc2)
        exact p93_0_0 l m i  e se hE hc0 (idx_ok h1) (row_part cI (s := 1) (k := 0) (m := 1) (fun _ => rfl) (by decide) h1) (idx_ok h2) (row_part cStg (s := 3) (k := 0) (m := 1) (fun _ => rfl) (by decide) h2) hc1 (idx_ok h2) (row_part cStg (s := 3) (k := 2) (m := 1) (fun _ => rfl) (by decide) h2) q11_2 (pureF_of Try.func65 (by kernel_rfl) f65b (within_ok e 0 ((se.turns.length : Int) - 1))) hc2 (AvLe.of_eq (by rw [h]; try rfl))
      · have h := h.2 (bnF hc2)
        obtain ⟨q14_3, h⟩ := h
        exact p93_0_1 l m i  e se hE hc0 (idx_ok h1) (row_part cI (s := 1) (k := 0) (m := 1) (fun _ => rfl) (by decide) h1) (idx_ok h2) (row_part cStg (s := 3) (k := 0) (m := 1) (fun _ => rfl) (by decide) h2) hc1 (idx_ok h2) (row_part cStg (s := 3) (k := 2) (m := 1) (fun _ => rfl) (by decide) h2) q11_2 (pureF_of Try.func65 (by kernel_rfl) f65b (within_ok e 0 ((se.turns.length : Int) - 1))) hc2 q14_3 h
    · have h := h.2 (ne_of_beq_false hc1)
      rcases Bool.eq_false_or_eq_true (se.kind == 3) with hc2 | hc2
      · have h := h.1 (eq_of_beq hc2)
        obtain ⟨q11_3, h⟩ := h
        rcases Bool.eq_false_or_eq_true (!(within e 0 ((se.turns.length : Int) - 1))) with hc3 | hc3
        · have h := h.1 (bnT hc3)
          exact p93_0_2 l m i  e se hE hc0 (idx_ok h1) (row_part cI (s := 1) (k := 0) (m := 1) (fun _ => rfl) (by decide) h1) (idx_ok h2) (row_part cStg (s := 3) (k := 0) (m := 1) (fun _ => rfl) (by decide) h2) hc1 hc2 (idx_ok h2) (row_part cStg (s := 3) (k := 2) (m := 1) (fun _ => rfl) (by decide) h2) q11_3 (pureF_of Try.func65 (by kernel_rfl) f65b (within_ok e 0 ((se.turns.length : Int) - 1))) hc3 (AvLe.of_eq (by rw [h]; try rfl))
        · have h := h.2 (bnF hc3)
          obtain ⟨q14_4, h⟩ := h
          exact p93_0_3 l m i  e se hE hc0 (idx_ok h1) (row_part cI (s := 1) (k := 0) (m := 1) (fun _ => rfl) (by decide) h1) (idx_ok h2) (row_part cStg (s := 3) (k := 0) (m := 1) (fun _ => rfl) (by decide) h2) hc1 hc2 (idx_ok h2) (row_part cStg (s := 3) (k := 2) (m := 1) (fun _ => rfl) (by decide) h2) q11_3 (pureF_of Try.func65 (by kernel_rfl) f65b (within_ok e 0 ((se.turns.length : Int) - 1))) hc3 q14_4 h
      · have h := h.2 (ne_of_beq_false hc2)
        rcases Bool.eq_false_or_eq_true (!(within e 0 0)) with hc3 | hc3
        · have h := h.1 (bnT hc3)
          exact p93_0_4 l m i  e se hE hc0 (idx_ok h1) (row_part cI (s := 1) (k := 0) (m := 1) (fun _ => rfl) (by decide) h1) (idx_ok h2) (row_part cStg (s := 3) (k := 0) (m := 1) (fun _ => rfl) (by decide) h2) hc1 hc2 (pureF_of Try.func65 (by kernel_rfl) f65b (within_ok e 0 0)) hc3 (AvLe.of_eq (by rw [h]; try rfl))
        · have h := h.2 (bnF hc3)
          obtain ⟨q11_4, h⟩ := h
          exact p93_0_5 l m i  e se hE hc0 (idx_ok h1) (row_part cI (s := 1) (k := 0) (m := 1) (fun _ => rfl) (by decide) h1) (idx_ok h2) (row_part cStg (s := 3) (k := 0) (m := 1) (fun _ => rfl) (by decide) h2) hc1 hc2 (pureF_of Try.func65 (by kernel_rfl) f65b (within_ok e 0 0)) hc3 q11_4 h
  · have h := h.2 (of_decide_eq_false hc0)
    exact p93_0_6 l m i   hE hc0 (AvLe.of_eq (by rw [h]; try rfl))

theorem plan_ok (m : Mch) (l : List Int) (hm : MOk m) : Pure Try.prog 93 [.rptr (cMch m) 0, .rsl (rowI l) 0 l.length] (.bool (planOk m.s l)) := pure_of Try.func93 f93b fun E hE => by
  have hn := (stPre_of hm.st).1
  have hform := (stPre_of hm.st).2.2.2.2
  refine f93W l m (rv := planOk m.s l) hE ⟨fun h => by simp [planOk, show ¬ (l.length = m.s.stages.length) by omega], fun h => ?_⟩
  have hl : l.length = m.s.stages.length := by omega
  have key : ∀ (d i : Nat), i + d = l.length → (∀ j, j < i → within (l.getD j 0) 0 (planMost (m.s.stages.getD j ⟨0, 0, []⟩)) = true) → f93G0 E l m i := by
    intro d
    induction d with
    | zero =>
      intro i hd hall
      refine f93W0 l m i (rv := planOk m.s l) hE ⟨fun h => by omega, fun _ => ?_⟩
      simp only [planOk, hl, decide_true, Bool.true_and]
      exact List.all_eq_true.2 fun j hj => hall j (by have := List.mem_range.1 hj; omega)
    | succ d ih =>
      intro i hd hall
      have hi : m.s.stages[i]? = some m.s.stages[i] := List.getElem?_eq_getElem (by omega)
      have hx : m.s.stages.getD i ⟨0, 0, []⟩ = m.s.stages[i] := by simp [List.getD, hi]
      have hv : l[i]? = some (l.getD i 0) := getD_some (by omega)
      have ht : m.s.stages[i].turns.length ≤ 8 := by
        rcases form_of hi (hform i (by omega)) with ⟨-, h, -⟩ | ⟨-, -, h, -⟩
        · rw [h]; simp
        · exact h.2
      have nx := ih (i + 1) (by omega)
      have no : within (l.getD i 0) 0 (planMost (m.s.stages.getD i ⟨0, 0, []⟩)) = false → planOk m.s l = false := fun h => by
        simp only [planOk, hl, decide_true, Bool.true_and]
        exact range_all (by omega) h
      have yes : within (l.getD i 0) 0 (planMost (m.s.stages.getD i ⟨0, 0, []⟩)) = true → f93G0 E l m (i + 1) := fun h => nx fun j hj => by
        rcases Nat.lt_or_ge j i with h1 | h1
        · exact hall j h1
        · rw [show j = i by omega]; exact h
      rw [hx] at no yes
      generalize m.s.stages[i] = x at hi no yes ht
      refine f93W0 l m i (rv := planOk m.s l) hE ⟨fun _ => ⟨_, hv, x, hi, fun h2 => ⟨by omega, fun h => no ?_, fun h => ⟨by omega, yes ?_⟩⟩, fun h2 => ⟨fun h3 => ⟨by omega, fun h => no ?_, fun h => ⟨by omega, yes ?_⟩⟩, fun h3 => ⟨fun h => no ?_, fun h => ⟨by omega, yes ?_⟩⟩⟩⟩, fun h => by omega⟩
      · rw [planMost, if_pos (.inl h2)]; exact h
      · rw [planMost, if_pos (.inl h2)]; exact h
      · rw [planMost, if_pos (.inr h3)]; exact h
      · rw [planMost, if_pos (.inr h3)]; exact h
      · rw [planMost, if_neg (by omega)]; exact h
      · rw [planMost, if_neg (by omega)]; exact h
  exact key l.length 0 (by omega) (fun j hj => by omega)

theorem f98b : Try.f98.body = some (bodyAt Try.prog 98) := by kernel_rfl
theorem p98_start_0  (m : Mch) (plan : List Int)   {E : Env} {res : AV} (hE : PureE Try.prog 98 res E) (o0 : PureF Try.prog (.clos 93 [] []) [.rptr [.rsl (rowStg m.s.stages) 0 m.s.stages.length, .rsl (rowI m.s.worth) 0 m.s.worth.length, .int .i64 m.s.price, .rsl (rowI m.meas) 0 m.meas.length, .rsl (rowI m.mult) 0 m.mult.length] 0, .rsl (rowI plan) 0 plan.length] (.bool (planOk m.s plan)))
    (hr : AvLe (.bool (planOk m.s plan)) res) : G Try.prog E [.code (bodyAt Try.prog 98)] ⟨[.rptr [.rsl (rowStg m.s.stages) 0 m.s.stages.length, .rsl (rowI m.s.worth) 0 m.s.worth.length, .int .i64 m.s.price, .rsl (rowI m.meas) 0 m.meas.length, .rsl (rowI m.mult) 0 m.mult.length] 0, .rptr [.rsl (rowI plan) 0 plan.length] 0] ++ unds (Try.f98.ntmps - 2), []⟩ :=
  end_stepL (n := 400) (evs := [.v (.bool (planOk m.s plan))]) (obs := [PureF Try.prog (.clos 93 [] []) [.rptr [.rsl (rowStg m.s.stages) 0 m.s.stages.length, .rsl (rowI m.s.worth) 0 m.s.worth.length, .int .i64 m.s.price, .rsl (rowI m.meas) 0 m.meas.length, .rsl (rowI m.mult) 0 m.mult.length] 0, .rsl (rowI plan) 0 plan.length] (.bool (planOk m.s plan))]) hE Try.func98 mixed (by kernel_rfl) ⟨o0, trivial⟩ hr
theorem f98W  (m : Mch) (plan : List Int) {E : Env} {rv : Bool} (hE : PureE Try.prog 98 (.bool rv) E)
    (h : ((MOk m) ∧ rv = (planOk m.s plan))) : G Try.prog E [.code (bodyAt Try.prog 98)] ⟨[.rptr [.rsl (rowStg m.s.stages) 0 m.s.stages.length, .rsl (rowI m.s.worth) 0 m.s.worth.length, .int .i64 m.s.price, .rsl (rowI m.meas) 0 m.meas.length, .rsl (rowI m.mult) 0 m.mult.length] 0, .rptr [.rsl (rowI plan) 0 plan.length] 0] ++ unds (Try.f98.ntmps - 2), []⟩ := by
  obtain ⟨h1, h⟩ := h
  exact p98_start_0 m plan    hE (pureF_of Try.func93 (by kernel_rfl) f93b (plan_ok m plan h1)) (AvLe.of_eq (by rw [h]; try rfl))
def rightO (m : Mch) (kd pa oa : Int) : Bool := kindI m kd && aimsI [pa, oa]
theorem right72_ok (m : Mch) (kd pa oa : Int) (h : m.s.worth.length ≤ 1000000) : Pure Try.prog 72 [.rptr (cMch m) 0, .rptr [.int .i64 kd] 0, .rptr [.int .i64 pa] 0, .rptr [.int .i64 oa] 0] (.bool (rightO m kd pa oa)) := pure_of Try.func72 f72b fun E hE =>
  f72W m kd pa oa (rv := rightO m kd pa oa) hE ⟨h, fun h1 => ⟨by simp, by simp [rightO, h1]⟩, fun h1 => by simp [rightO, h1]⟩
theorem right98_ok (m : Mch) (plan : List Int) (h : MOk m) : Pure Try.prog 98 [.rptr (cMch m) 0, .rptr [.rsl (rowI plan) 0 plan.length] 0] (.bool (planOk m.s plan)) := pure_of Try.func98 f98b fun E hE => f98W m plan (rv := planOk m.s plan) hE ⟨h, rfl⟩
def begR (s : Stl) (rt : Bool) : AV := if (machI s).isSome = true then (if rt = true then .tup [.rptr (cMch (machG s)) 0, .int .i64 0] else .tup [.nilPtr, .int .i64 1]) else .tup [.nilPtr, .int .i64 60]
theorem begR_T {s : Stl} {rt : Bool} (h0 : (machI s).isSome = true) (h1 : rt = true) : begR s rt = .tup [.rptr (cMch (machG s)) 0, .int .i64 0] := by rw [begR, if_pos h0, if_pos h1]
theorem begR_F1 {s : Stl} {rt : Bool} (h0 : (machI s).isSome = true) (h1 : rt = false) : begR s rt = .tup [.nilPtr, .int .i64 1] := by rw [begR, if_pos h0, if_neg (by rw [h1]; simp)]
theorem begR_F0 {s : Stl} {rt : Bool} (h0 : (machI s).isSome = false) : begR s rt = .tup [.nilPtr, .int .i64 60] := by rw [begR, if_neg (by rw [h0]; simp)]
theorem mok_G {s : Stl} (h : (machI s).isSome = true) : MOk (machG s) ∧ (machG s).s = s := by
  obtain ⟨m, hm⟩ := Option.isSome_iff_exists.1 h
  rw [show machG s = m by simp [machG, hm]]
  exact mok_of hm

theorem f71x72b : Try.f71.body = some (bodyAt Try.prog 71) := by kernel_rfl
theorem p71x72_start_0 (s : Stl) (kd pa oa : Int)   {E : Env} {res : AV} (hE : PureE Try.prog 71 res E) (o1 : PureF Try.prog (.clos 61 [] []) [.agg [.rsl (rowStg s.stages) 0 s.stages.length, .rsl (rowI s.worth) 0 s.worth.length, .int .i64 s.price]] (.tup [.rptr [.rsl (rowStg (((machG s).s).stages)) 0 ((((machG s).s).stages).length), .rsl (rowI (((machG s).s).worth)) 0 ((((machG s).s).worth).length), .int .i64 (((machG s).s).price), .rsl (rowI ((machG s).meas)) 0 (((machG s).meas).length), .rsl (rowI ((machG s).mult)) 0 (((machG s).mult).length)] 0, .bool true])) (o3 : PureF Try.prog (.clos 72 [] [.rptr [.int .i64 kd] 0, .rptr [.int .i64 pa] 0, .rptr [.int .i64 oa] 0]) [.rptr [.rsl (rowStg (((machG s).s).stages)) 0 ((((machG s).s).stages).length), .rsl (rowI (((machG s).s).worth)) 0 ((((machG s).s).worth).length), .int .i64 (((machG s).s).price), .rsl (rowI ((machG s).meas)) 0 (((machG s).meas).length), .rsl (rowI ((machG s).mult)) 0 (((machG s).mult).length)] 0] (.bool (rightO (machG s) kd pa oa))) (o4 : (!(rightO (machG s) kd pa oa)) = true)
    (hr : AvLe (.tup [.nilPtr, .int .i64 1]) res) : G Try.prog E [.code (bodyAt Try.prog 71)] ⟨[.agg [.rsl (rowStg s.stages) 0 s.stages.length, .rsl (rowI s.worth) 0 s.worth.length, .int .i64 s.price], .clos 72 [] [.rptr [.int .i64 kd] 0, .rptr [.int .i64 pa] 0, .rptr [.int .i64 oa] 0]] ++ unds (Try.f71.ntmps - 2), []⟩ :=
  end_stepL (n := 400) (evs := [.v (.tup [.rptr [.rsl (rowStg (((machG s).s).stages)) 0 ((((machG s).s).stages).length), .rsl (rowI (((machG s).s).worth)) 0 ((((machG s).s).worth).length), .int .i64 (((machG s).s).price), .rsl (rowI ((machG s).meas)) 0 (((machG s).meas).length), .rsl (rowI ((machG s).mult)) 0 (((machG s).mult).length)] 0, .bool true]), .b false, .v (.bool (rightO (machG s) kd pa oa)), .b true]) (obs := [PureF Try.prog (.clos 61 [] []) [.agg [.rsl (rowStg s.stages) 0 s.stages.length, .rsl (rowI s.worth) 0 s.worth.length, .int .i64 s.price]] (.tup [.rptr [.rsl (rowStg (((machG s).s).stages)) 0 ((((machG s).s).stages).length), .rsl (rowI (((machG s).s).worth)) 0 ((((machG s).s).worth).length), .int .i64 (((machG s).s).price), .rsl (rowI ((machG s).meas)) 0 (((machG s).meas).length), .rsl (rowI ((machG s).mult)) 0 (((machG s).mult).length)] 0, .bool true]), false = false, PureF Try.prog (.clos 72 [] [.rptr [.int .i64 kd] 0, .rptr [.int .i64 pa] 0, .rptr [.int .i64 oa] 0]) [.rptr [.rsl (rowStg (((machG s).s).stages)) 0 ((((machG s).s).stages).length), .rsl (rowI (((machG s).s).worth)) 0 ((((machG s).s).worth).length), .int .i64 (((machG s).s).price), .rsl (rowI ((machG s).meas)) 0 (((machG s).meas).length), .rsl (rowI ((machG s).mult)) 0 (((machG s).mult).length)] 0] (.bool (rightO (machG s) kd pa oa)), (!(rightO (machG s) kd pa oa)) = true]) hE Try.func71 mixed (by kernel_rfl) ⟨o1, (rfl), o3, o4, trivial⟩ hr
theorem p71x72_start_1 (s : Stl) (kd pa oa : Int)   {E : Env} {res : AV} (hE : PureE Try.prog 71 res E) (o1 : PureF Try.prog (.clos 61 [] []) [.agg [.rsl (rowStg s.stages) 0 s.stages.length, .rsl (rowI s.worth) 0 s.worth.length, .int .i64 s.price]] (.tup [.rptr [.rsl (rowStg (((machG s).s).stages)) 0 ((((machG s).s).stages).length), .rsl (rowI (((machG s).s).worth)) 0 ((((machG s).s).worth).length), .int .i64 (((machG s).s).price), .rsl (rowI ((machG s).meas)) 0 (((machG s).meas).length), .rsl (rowI ((machG s).mult)) 0 (((machG s).mult).length)] 0, .bool true])) (o3 : PureF Try.prog (.clos 72 [] [.rptr [.int .i64 kd] 0, .rptr [.int .i64 pa] 0, .rptr [.int .i64 oa] 0]) [.rptr [.rsl (rowStg (((machG s).s).stages)) 0 ((((machG s).s).stages).length), .rsl (rowI (((machG s).s).worth)) 0 ((((machG s).s).worth).length), .int .i64 (((machG s).s).price), .rsl (rowI ((machG s).meas)) 0 (((machG s).meas).length), .rsl (rowI ((machG s).mult)) 0 (((machG s).mult).length)] 0] (.bool (rightO (machG s) kd pa oa))) (o4 : (!(rightO (machG s) kd pa oa)) = false)
    (hr : AvLe (.tup [.rptr [.rsl (rowStg (((machG s).s).stages)) 0 ((((machG s).s).stages).length), .rsl (rowI (((machG s).s).worth)) 0 ((((machG s).s).worth).length), .int .i64 (((machG s).s).price), .rsl (rowI ((machG s).meas)) 0 (((machG s).meas).length), .rsl (rowI ((machG s).mult)) 0 (((machG s).mult).length)] 0, .int .i64 0]) res) : G Try.prog E [.code (bodyAt Try.prog 71)] ⟨[.agg [.rsl (rowStg s.stages) 0 s.stages.length, .rsl (rowI s.worth) 0 s.worth.length, .int .i64 s.price], .clos 72 [] [.rptr [.int .i64 kd] 0, .rptr [.int .i64 pa] 0, .rptr [.int .i64 oa] 0]] ++ unds (Try.f71.ntmps - 2), []⟩ :=
  end_stepL (n := 400) (evs := [.v (.tup [.rptr [.rsl (rowStg (((machG s).s).stages)) 0 ((((machG s).s).stages).length), .rsl (rowI (((machG s).s).worth)) 0 ((((machG s).s).worth).length), .int .i64 (((machG s).s).price), .rsl (rowI ((machG s).meas)) 0 (((machG s).meas).length), .rsl (rowI ((machG s).mult)) 0 (((machG s).mult).length)] 0, .bool true]), .b false, .v (.bool (rightO (machG s) kd pa oa)), .b false]) (obs := [PureF Try.prog (.clos 61 [] []) [.agg [.rsl (rowStg s.stages) 0 s.stages.length, .rsl (rowI s.worth) 0 s.worth.length, .int .i64 s.price]] (.tup [.rptr [.rsl (rowStg (((machG s).s).stages)) 0 ((((machG s).s).stages).length), .rsl (rowI (((machG s).s).worth)) 0 ((((machG s).s).worth).length), .int .i64 (((machG s).s).price), .rsl (rowI ((machG s).meas)) 0 (((machG s).meas).length), .rsl (rowI ((machG s).mult)) 0 (((machG s).mult).length)] 0, .bool true]), false = false, PureF Try.prog (.clos 72 [] [.rptr [.int .i64 kd] 0, .rptr [.int .i64 pa] 0, .rptr [.int .i64 oa] 0]) [.rptr [.rsl (rowStg (((machG s).s).stages)) 0 ((((machG s).s).stages).length), .rsl (rowI (((machG s).s).worth)) 0 ((((machG s).s).worth).length), .int .i64 (((machG s).s).price), .rsl (rowI ((machG s).meas)) 0 (((machG s).meas).length), .rsl (rowI ((machG s).mult)) 0 (((machG s).mult).length)] 0] (.bool (rightO (machG s) kd pa oa)), (!(rightO (machG s) kd pa oa)) = false]) hE Try.func71 mixed (by kernel_rfl) ⟨o1, (rfl), o3, o4, trivial⟩ hr
theorem p71x72_start_2 (s : Stl) (kd pa oa : Int)   {E : Env} {res : AV} (hE : PureE Try.prog 71 res E) (o1 : PureF Try.prog (.clos 61 [] []) [.agg [.rsl (rowStg s.stages) 0 s.stages.length, .rsl (rowI s.worth) 0 s.worth.length, .int .i64 s.price]] (.tup [.nilPtr, .bool false]))
    (hr : AvLe (.tup [.nilPtr, .int .i64 60]) res) : G Try.prog E [.code (bodyAt Try.prog 71)] ⟨[.agg [.rsl (rowStg s.stages) 0 s.stages.length, .rsl (rowI s.worth) 0 s.worth.length, .int .i64 s.price], .clos 72 [] [.rptr [.int .i64 kd] 0, .rptr [.int .i64 pa] 0, .rptr [.int .i64 oa] 0]] ++ unds (Try.f71.ntmps - 2), []⟩ :=
  end_stepL (n := 400) (evs := [.v (.tup [.nilPtr, .bool false]), .b true]) (obs := [PureF Try.prog (.clos 61 [] []) [.agg [.rsl (rowStg s.stages) 0 s.stages.length, .rsl (rowI s.worth) 0 s.worth.length, .int .i64 s.price]] (.tup [.nilPtr, .bool false]), true = true]) hE Try.func71 mixed (by kernel_rfl) ⟨o1, (rfl), trivial⟩ hr
theorem f71x72W (s : Stl) (kd pa oa : Int) {E : Env} {rv : AV} (hE : PureE Try.prog 71 rv E)
    (h : ((((machI s).isSome) = true → ((s.stages.length ≤ 9223372036854775807 ∧ s.worth.length ≤ 9223372036854775807) ∧ (((machG s).s.worth.length ≤ 1000000) ∧ (((rightO (machG s) kd pa oa) = false → rv = (.tup [.nilPtr, .int .i64 1])) ∧ ((rightO (machG s) kd pa oa) = true → rv = (.tup [.rptr [.rsl (rowStg (((machG s).s).stages)) 0 ((((machG s).s).stages).length), .rsl (rowI (((machG s).s).worth)) 0 ((((machG s).s).worth).length), .int .i64 (((machG s).s).price), .rsl (rowI ((machG s).meas)) 0 (((machG s).meas).length), .rsl (rowI ((machG s).mult)) 0 (((machG s).mult).length)] 0, .int .i64 0])))))) ∧ (((machI s).isSome) = false → ((s.stages.length ≤ 9223372036854775807 ∧ s.worth.length ≤ 9223372036854775807) ∧ rv = (.tup [.nilPtr, .int .i64 60]))))) : G Try.prog E [.code (bodyAt Try.prog 71)] ⟨[.agg [.rsl (rowStg s.stages) 0 s.stages.length, .rsl (rowI s.worth) 0 s.worth.length, .int .i64 s.price], .clos 72 [] [.rptr [.int .i64 kd] 0, .rptr [.int .i64 pa] 0, .rptr [.int .i64 oa] 0]] ++ unds (Try.f71.ntmps - 2), []⟩ := by
  rcases Bool.eq_false_or_eq_true ((machI s).isSome) with hc0 | hc0
  · have h := h.1 hc0
    obtain ⟨h1, h⟩ := h
    obtain ⟨h2, h⟩ := h
    rcases Bool.eq_false_or_eq_true (!(rightO (machG s) kd pa oa)) with hc1 | hc1
    · have h := h.1 (bnT hc1)
      exact p71x72_start_0 s kd pa oa    hE (pureF_of Try.func61 (by kernel_rfl) f61b (newMachT_ok s h1 hc0)) (pureF_of Try.func72 (by kernel_rfl) f72b (right72_ok (machG s) kd pa oa h2)) hc1 (AvLe.of_eq (by rw [h]; try rfl))
    · have h := h.2 (bnF hc1)
      exact p71x72_start_1 s kd pa oa    hE (pureF_of Try.func61 (by kernel_rfl) f61b (newMachT_ok s h1 hc0)) (pureF_of Try.func72 (by kernel_rfl) f72b (right72_ok (machG s) kd pa oa h2)) hc1 (AvLe.of_eq (by rw [h]; try rfl))
  · have h := h.2 hc0
    obtain ⟨h1, h⟩ := h
    exact p71x72_start_2 s kd pa oa    hE (pureF_of Try.func61 (by kernel_rfl) f61b (newMachF_ok s h1 hc0)) (AvLe.of_eq (by rw [h]; try rfl))

theorem beg72_ok (s : Stl) (kd pa oa : Int) (h : s.stages.length ≤ 9223372036854775807 ∧ s.worth.length ≤ 9223372036854775807) : Pure Try.prog 71 [.agg [.rsl (rowStg s.stages) 0 s.stages.length, .rsl (rowI s.worth) 0 s.worth.length, .int .i64 s.price], .clos 72 [] [.rptr [.int .i64 kd] 0, .rptr [.int .i64 pa] 0, .rptr [.int .i64 oa] 0]] (begR s (rightO (machG s) kd pa oa)) := pure_of Try.func71 f71x72b fun E hE => by
  refine f71x72W s kd pa oa (rv := begR s (rightO (machG s) kd pa oa)) hE ⟨fun h0 => ⟨h, ?_⟩, fun h0 => ⟨h, begR_F0 h0⟩⟩
  have hm := (mok_G h0).1
  have hw := (stPre_of hm.st).2.1
  have hs := (stPre_of hm.st).1
  exact ⟨by omega, ⟨fun h1 => begR_F1 h0 h1, fun h1 => begR_T h0 h1⟩⟩

theorem f71x98b : Try.f71.body = some (bodyAt Try.prog 71) := by kernel_rfl
theorem p71x98_start_0 (s : Stl) (plan : List Int)   {E : Env} {res : AV} (hE : PureE Try.prog 71 res E) (o1 : PureF Try.prog (.clos 61 [] []) [.agg [.rsl (rowStg s.stages) 0 s.stages.length, .rsl (rowI s.worth) 0 s.worth.length, .int .i64 s.price]] (.tup [.rptr [.rsl (rowStg (((machG s).s).stages)) 0 ((((machG s).s).stages).length), .rsl (rowI (((machG s).s).worth)) 0 ((((machG s).s).worth).length), .int .i64 (((machG s).s).price), .rsl (rowI ((machG s).meas)) 0 (((machG s).meas).length), .rsl (rowI ((machG s).mult)) 0 (((machG s).mult).length)] 0, .bool true])) (o3 : PureF Try.prog (.clos 98 [] [.rptr [.rsl (rowI plan) 0 plan.length] 0]) [.rptr [.rsl (rowStg (((machG s).s).stages)) 0 ((((machG s).s).stages).length), .rsl (rowI (((machG s).s).worth)) 0 ((((machG s).s).worth).length), .int .i64 (((machG s).s).price), .rsl (rowI ((machG s).meas)) 0 (((machG s).meas).length), .rsl (rowI ((machG s).mult)) 0 (((machG s).mult).length)] 0] (.bool (planOk (machG s).s plan))) (o4 : (!(planOk (machG s).s plan)) = true)
    (hr : AvLe (.tup [.nilPtr, .int .i64 1]) res) : G Try.prog E [.code (bodyAt Try.prog 71)] ⟨[.agg [.rsl (rowStg s.stages) 0 s.stages.length, .rsl (rowI s.worth) 0 s.worth.length, .int .i64 s.price], .clos 98 [] [.rptr [.rsl (rowI plan) 0 plan.length] 0]] ++ unds (Try.f71.ntmps - 2), []⟩ :=
  end_stepL (n := 400) (evs := [.v (.tup [.rptr [.rsl (rowStg (((machG s).s).stages)) 0 ((((machG s).s).stages).length), .rsl (rowI (((machG s).s).worth)) 0 ((((machG s).s).worth).length), .int .i64 (((machG s).s).price), .rsl (rowI ((machG s).meas)) 0 (((machG s).meas).length), .rsl (rowI ((machG s).mult)) 0 (((machG s).mult).length)] 0, .bool true]), .b false, .v (.bool (planOk (machG s).s plan)), .b true]) (obs := [PureF Try.prog (.clos 61 [] []) [.agg [.rsl (rowStg s.stages) 0 s.stages.length, .rsl (rowI s.worth) 0 s.worth.length, .int .i64 s.price]] (.tup [.rptr [.rsl (rowStg (((machG s).s).stages)) 0 ((((machG s).s).stages).length), .rsl (rowI (((machG s).s).worth)) 0 ((((machG s).s).worth).length), .int .i64 (((machG s).s).price), .rsl (rowI ((machG s).meas)) 0 (((machG s).meas).length), .rsl (rowI ((machG s).mult)) 0 (((machG s).mult).length)] 0, .bool true]), false = false, PureF Try.prog (.clos 98 [] [.rptr [.rsl (rowI plan) 0 plan.length] 0]) [.rptr [.rsl (rowStg (((machG s).s).stages)) 0 ((((machG s).s).stages).length), .rsl (rowI (((machG s).s).worth)) 0 ((((machG s).s).worth).length), .int .i64 (((machG s).s).price), .rsl (rowI ((machG s).meas)) 0 (((machG s).meas).length), .rsl (rowI ((machG s).mult)) 0 (((machG s).mult).length)] 0] (.bool (planOk (machG s).s plan)), (!(planOk (machG s).s plan)) = true]) hE Try.func71 mixed (by kernel_rfl) ⟨o1, (rfl), o3, o4, trivial⟩ hr
theorem p71x98_start_1 (s : Stl) (plan : List Int)   {E : Env} {res : AV} (hE : PureE Try.prog 71 res E) (o1 : PureF Try.prog (.clos 61 [] []) [.agg [.rsl (rowStg s.stages) 0 s.stages.length, .rsl (rowI s.worth) 0 s.worth.length, .int .i64 s.price]] (.tup [.rptr [.rsl (rowStg (((machG s).s).stages)) 0 ((((machG s).s).stages).length), .rsl (rowI (((machG s).s).worth)) 0 ((((machG s).s).worth).length), .int .i64 (((machG s).s).price), .rsl (rowI ((machG s).meas)) 0 (((machG s).meas).length), .rsl (rowI ((machG s).mult)) 0 (((machG s).mult).length)] 0, .bool true])) (o3 : PureF Try.prog (.clos 98 [] [.rptr [.rsl (rowI plan) 0 plan.length] 0]) [.rptr [.rsl (rowStg (((machG s).s).stages)) 0 ((((machG s).s).stages).length), .rsl (rowI (((machG s).s).worth)) 0 ((((machG s).s).worth).length), .int .i64 (((machG s).s).price), .rsl (rowI ((machG s).meas)) 0 (((machG s).meas).length), .rsl (rowI ((machG s).mult)) 0 (((machG s).mult).length)] 0] (.bool (planOk (machG s).s plan))) (o4 : (!(planOk (machG s).s plan)) = false)
    (hr : AvLe (.tup [.rptr [.rsl (rowStg (((machG s).s).stages)) 0 ((((machG s).s).stages).length), .rsl (rowI (((machG s).s).worth)) 0 ((((machG s).s).worth).length), .int .i64 (((machG s).s).price), .rsl (rowI ((machG s).meas)) 0 (((machG s).meas).length), .rsl (rowI ((machG s).mult)) 0 (((machG s).mult).length)] 0, .int .i64 0]) res) : G Try.prog E [.code (bodyAt Try.prog 71)] ⟨[.agg [.rsl (rowStg s.stages) 0 s.stages.length, .rsl (rowI s.worth) 0 s.worth.length, .int .i64 s.price], .clos 98 [] [.rptr [.rsl (rowI plan) 0 plan.length] 0]] ++ unds (Try.f71.ntmps - 2), []⟩ :=
  end_stepL (n := 400) (evs := [.v (.tup [.rptr [.rsl (rowStg (((machG s).s).stages)) 0 ((((machG s).s).stages).length), .rsl (rowI (((machG s).s).worth)) 0 ((((machG s).s).worth).length), .int .i64 (((machG s).s).price), .rsl (rowI ((machG s).meas)) 0 (((machG s).meas).length), .rsl (rowI ((machG s).mult)) 0 (((machG s).mult).length)] 0, .bool true]), .b false, .v (.bool (planOk (machG s).s plan)), .b false]) (obs := [PureF Try.prog (.clos 61 [] []) [.agg [.rsl (rowStg s.stages) 0 s.stages.length, .rsl (rowI s.worth) 0 s.worth.length, .int .i64 s.price]] (.tup [.rptr [.rsl (rowStg (((machG s).s).stages)) 0 ((((machG s).s).stages).length), .rsl (rowI (((machG s).s).worth)) 0 ((((machG s).s).worth).length), .int .i64 (((machG s).s).price), .rsl (rowI ((machG s).meas)) 0 (((machG s).meas).length), .rsl (rowI ((machG s).mult)) 0 (((machG s).mult).length)] 0, .bool true]), false = false, PureF Try.prog (.clos 98 [] [.rptr [.rsl (rowI plan) 0 plan.length] 0]) [.rptr [.rsl (rowStg (((machG s).s).stages)) 0 ((((machG s).s).stages).length), .rsl (rowI (((machG s).s).worth)) 0 ((((machG s).s).worth).length), .int .i64 (((machG s).s).price), .rsl (rowI ((machG s).meas)) 0 (((machG s).meas).length), .rsl (rowI ((machG s).mult)) 0 (((machG s).mult).length)] 0] (.bool (planOk (machG s).s plan)), (!(planOk (machG s).s plan)) = false]) hE Try.func71 mixed (by kernel_rfl) ⟨o1, (rfl), o3, o4, trivial⟩ hr
theorem p71x98_start_2 (s : Stl) (plan : List Int)   {E : Env} {res : AV} (hE : PureE Try.prog 71 res E) (o1 : PureF Try.prog (.clos 61 [] []) [.agg [.rsl (rowStg s.stages) 0 s.stages.length, .rsl (rowI s.worth) 0 s.worth.length, .int .i64 s.price]] (.tup [.nilPtr, .bool false]))
    (hr : AvLe (.tup [.nilPtr, .int .i64 60]) res) : G Try.prog E [.code (bodyAt Try.prog 71)] ⟨[.agg [.rsl (rowStg s.stages) 0 s.stages.length, .rsl (rowI s.worth) 0 s.worth.length, .int .i64 s.price], .clos 98 [] [.rptr [.rsl (rowI plan) 0 plan.length] 0]] ++ unds (Try.f71.ntmps - 2), []⟩ :=
  end_stepL (n := 400) (evs := [.v (.tup [.nilPtr, .bool false]), .b true]) (obs := [PureF Try.prog (.clos 61 [] []) [.agg [.rsl (rowStg s.stages) 0 s.stages.length, .rsl (rowI s.worth) 0 s.worth.length, .int .i64 s.price]] (.tup [.nilPtr, .bool false]), true = true]) hE Try.func71 mixed (by kernel_rfl) ⟨o1, (rfl), trivial⟩ hr
theorem f71x98W (s : Stl) (plan : List Int) {E : Env} {rv : AV} (hE : PureE Try.prog 71 rv E)
    (h : ((((machI s).isSome) = true → ((s.stages.length ≤ 9223372036854775807 ∧ s.worth.length ≤ 9223372036854775807) ∧ ((MOk (machG s)) ∧ (((planOk (machG s).s plan) = false → rv = (.tup [.nilPtr, .int .i64 1])) ∧ ((planOk (machG s).s plan) = true → rv = (.tup [.rptr [.rsl (rowStg (((machG s).s).stages)) 0 ((((machG s).s).stages).length), .rsl (rowI (((machG s).s).worth)) 0 ((((machG s).s).worth).length), .int .i64 (((machG s).s).price), .rsl (rowI ((machG s).meas)) 0 (((machG s).meas).length), .rsl (rowI ((machG s).mult)) 0 (((machG s).mult).length)] 0, .int .i64 0])))))) ∧ (((machI s).isSome) = false → ((s.stages.length ≤ 9223372036854775807 ∧ s.worth.length ≤ 9223372036854775807) ∧ rv = (.tup [.nilPtr, .int .i64 60]))))) : G Try.prog E [.code (bodyAt Try.prog 71)] ⟨[.agg [.rsl (rowStg s.stages) 0 s.stages.length, .rsl (rowI s.worth) 0 s.worth.length, .int .i64 s.price], .clos 98 [] [.rptr [.rsl (rowI plan) 0 plan.length] 0]] ++ unds (Try.f71.ntmps - 2), []⟩ := by
  rcases Bool.eq_false_or_eq_true ((machI s).isSome) with hc0 | hc0
  · have h := h.1 hc0
    obtain ⟨h1, h⟩ := h
    obtain ⟨h2, h⟩ := h
    rcases Bool.eq_false_or_eq_true (!(planOk (machG s).s plan)) with hc1 | hc1
    · have h := h.1 (bnT hc1)
      exact p71x98_start_0 s plan    hE (pureF_of Try.func61 (by kernel_rfl) f61b (newMachT_ok s h1 hc0)) (pureF_of Try.func98 (by kernel_rfl) f98b (right98_ok (machG s) plan h2)) hc1 (AvLe.of_eq (by rw [h]; try rfl))
    · have h := h.2 (bnF hc1)
      exact p71x98_start_1 s plan    hE (pureF_of Try.func61 (by kernel_rfl) f61b (newMachT_ok s h1 hc0)) (pureF_of Try.func98 (by kernel_rfl) f98b (right98_ok (machG s) plan h2)) hc1 (AvLe.of_eq (by rw [h]; try rfl))
  · have h := h.2 hc0
    obtain ⟨h1, h⟩ := h
    exact p71x98_start_2 s plan    hE (pureF_of Try.func61 (by kernel_rfl) f61b (newMachF_ok s h1 hc0)) (AvLe.of_eq (by rw [h]; try rfl))

theorem beg98_ok (s : Stl) (plan : List Int) (h : s.stages.length ≤ 9223372036854775807 ∧ s.worth.length ≤ 9223372036854775807) : Pure Try.prog 71 [.agg [.rsl (rowStg s.stages) 0 s.stages.length, .rsl (rowI s.worth) 0 s.worth.length, .int .i64 s.price], .clos 98 [] [.rptr [.rsl (rowI plan) 0 plan.length] 0]] (begR s (planOk (machG s).s plan)) := pure_of Try.func71 f71x98b fun E hE => by
  refine f71x98W s plan (rv := begR s (planOk (machG s).s plan)) hE ⟨fun h0 => ⟨h, ?_⟩, fun h0 => ⟨h, begR_F0 h0⟩⟩
  have hm := (mok_G h0).1
  have hw := (stPre_of hm.st).2.1
  have hs := (stPre_of hm.st).1
  exact ⟨hm, ⟨fun h1 => begR_F1 h0 h1, fun h1 => begR_T h0 h1⟩⟩

theorem f25b : Try.f25.body = some (bodyAt Try.prog 25) := by kernel_rfl
theorem p25_start_0 (s : Stl) (kd : Int) (pa : Int) (oa : Int)   {E : Env} {res : AV} (hE : PureE Try.prog 25 res E) (o2 : PureF Try.prog (.clos 71 [] []) [.agg [.rsl (rowStg s.stages) 0 s.stages.length, .rsl (rowI s.worth) 0 s.worth.length, .int .i64 s.price], .clos 72 [] [.rptr [.int .i64 kd] 0, .rptr [.int .i64 pa] 0, .rptr [.int .i64 oa] 0]] (.tup [.rptr [.rsl (rowStg (((machG s).s).stages)) 0 ((((machG s).s).stages).length), .rsl (rowI (((machG s).s).worth)) 0 ((((machG s).s).worth).length), .int .i64 (((machG s).s).price), .rsl (rowI ((machG s).meas)) 0 (((machG s).meas).length), .rsl (rowI ((machG s).mult)) 0 (((machG s).mult).length)] 0, .int .i64 0])) (o4 : PureF Try.prog (.clos 76 [] []) [.int .i64 kd] (.clos 113 [] [.rptr [.int .i64 kd] 0])) (o5 : PureF Try.prog (.clos 77 [] []) [.rptr [.rsl (rowStg (((machG s).s).stages)) 0 ((((machG s).s).stages).length), .rsl (rowI (((machG s).s).worth)) 0 ((((machG s).s).worth).length), .int .i64 (((machG s).s).price), .rsl (rowI ((machG s).meas)) 0 (((machG s).meas).length), .rsl (rowI ((machG s).mult)) 0 (((machG s).mult).length)] 0, .int .i64 pa, .int .i64 oa] (.clos 114 [] [.rptr [.int .i64 pa] 0, .rptr [.rptr [.rsl (rowStg (((machG s).s).stages)) 0 ((((machG s).s).stages).length), .rsl (rowI (((machG s).s).worth)) 0 ((((machG s).s).worth).length), .int .i64 (((machG s).s).price), .rsl (rowI ((machG s).meas)) 0 (((machG s).meas).length), .rsl (rowI ((machG s).mult)) 0 (((machG s).mult).length)] 0] 0, .rptr [.int .i64 oa] 0])) (o6 : PureF Try.prog (.clos 75 [] []) [.rptr [.rsl (rowStg (((machG s).s).stages)) 0 ((((machG s).s).stages).length), .rsl (rowI (((machG s).s).worth)) 0 ((((machG s).s).worth).length), .int .i64 (((machG s).s).price), .rsl (rowI ((machG s).meas)) 0 (((machG s).meas).length), .rsl (rowI ((machG s).mult)) 0 (((machG s).mult).length)] 0, .clos 113 [] [.rptr [.int .i64 kd] 0], .clos 114 [] [.rptr [.int .i64 pa] 0, .rptr [.rptr [.rsl (rowStg (((machG s).s).stages)) 0 ((((machG s).s).stages).length), .rsl (rowI (((machG s).s).worth)) 0 ((((machG s).s).worth).length), .int .i64 (((machG s).s).price), .rsl (rowI ((machG s).meas)) 0 (((machG s).meas).length), .rsl (rowI ((machG s).mult)) 0 (((machG s).mult).length)] 0] 0, .rptr [.int .i64 oa] 0]] (.agg [.int .i64 ((firstI (machG s) (onlyI kd) (chooseI (machG s) pa oa)).num), .int .i64 ((firstI (machG s) (onlyI kd) (chooseI (machG s) pa oa)).den)]))
    (hr : AvLe (.tup [.int .i64 ((firstI (machG s) (onlyI kd) (chooseI (machG s) pa oa)).num), .int .i64 ((firstI (machG s) (onlyI kd) (chooseI (machG s) pa oa)).den), .int .i64 0]) res) : G Try.prog E [.code (bodyAt Try.prog 25)] ⟨[.agg [.rsl (rowStg s.stages) 0 s.stages.length, .rsl (rowI s.worth) 0 s.worth.length, .int .i64 s.price], .int .i64 kd, .int .i64 pa, .int .i64 oa] ++ unds (Try.f25.ntmps - 4), []⟩ :=
  end_stepL (n := 400) (evs := [.wt 5, .wt 6, .wt 7, .v (.tup [.rptr [.rsl (rowStg (((machG s).s).stages)) 0 ((((machG s).s).stages).length), .rsl (rowI (((machG s).s).worth)) 0 ((((machG s).s).worth).length), .int .i64 (((machG s).s).price), .rsl (rowI ((machG s).meas)) 0 (((machG s).meas).length), .rsl (rowI ((machG s).mult)) 0 (((machG s).mult).length)] 0, .int .i64 0]), .b false, .v (.clos 113 [] [.rptr [.int .i64 kd] 0]), .v (.clos 114 [] [.rptr [.int .i64 pa] 0, .rptr [.rptr [.rsl (rowStg (((machG s).s).stages)) 0 ((((machG s).s).stages).length), .rsl (rowI (((machG s).s).worth)) 0 ((((machG s).s).worth).length), .int .i64 (((machG s).s).price), .rsl (rowI ((machG s).meas)) 0 (((machG s).meas).length), .rsl (rowI ((machG s).mult)) 0 (((machG s).mult).length)] 0] 0, .rptr [.int .i64 oa] 0]), .v (.agg [.int .i64 ((firstI (machG s) (onlyI kd) (chooseI (machG s) pa oa)).num), .int .i64 ((firstI (machG s) (onlyI kd) (chooseI (machG s) pa oa)).den)])]) (obs := [PureF Try.prog (.clos 71 [] []) [.agg [.rsl (rowStg s.stages) 0 s.stages.length, .rsl (rowI s.worth) 0 s.worth.length, .int .i64 s.price], .clos 72 [] [.rptr [.int .i64 kd] 0, .rptr [.int .i64 pa] 0, .rptr [.int .i64 oa] 0]] (.tup [.rptr [.rsl (rowStg (((machG s).s).stages)) 0 ((((machG s).s).stages).length), .rsl (rowI (((machG s).s).worth)) 0 ((((machG s).s).worth).length), .int .i64 (((machG s).s).price), .rsl (rowI ((machG s).meas)) 0 (((machG s).meas).length), .rsl (rowI ((machG s).mult)) 0 (((machG s).mult).length)] 0, .int .i64 0]), false = false, PureF Try.prog (.clos 76 [] []) [.int .i64 kd] (.clos 113 [] [.rptr [.int .i64 kd] 0]), PureF Try.prog (.clos 77 [] []) [.rptr [.rsl (rowStg (((machG s).s).stages)) 0 ((((machG s).s).stages).length), .rsl (rowI (((machG s).s).worth)) 0 ((((machG s).s).worth).length), .int .i64 (((machG s).s).price), .rsl (rowI ((machG s).meas)) 0 (((machG s).meas).length), .rsl (rowI ((machG s).mult)) 0 (((machG s).mult).length)] 0, .int .i64 pa, .int .i64 oa] (.clos 114 [] [.rptr [.int .i64 pa] 0, .rptr [.rptr [.rsl (rowStg (((machG s).s).stages)) 0 ((((machG s).s).stages).length), .rsl (rowI (((machG s).s).worth)) 0 ((((machG s).s).worth).length), .int .i64 (((machG s).s).price), .rsl (rowI ((machG s).meas)) 0 (((machG s).meas).length), .rsl (rowI ((machG s).mult)) 0 (((machG s).mult).length)] 0] 0, .rptr [.int .i64 oa] 0]), PureF Try.prog (.clos 75 [] []) [.rptr [.rsl (rowStg (((machG s).s).stages)) 0 ((((machG s).s).stages).length), .rsl (rowI (((machG s).s).worth)) 0 ((((machG s).s).worth).length), .int .i64 (((machG s).s).price), .rsl (rowI ((machG s).meas)) 0 (((machG s).meas).length), .rsl (rowI ((machG s).mult)) 0 (((machG s).mult).length)] 0, .clos 113 [] [.rptr [.int .i64 kd] 0], .clos 114 [] [.rptr [.int .i64 pa] 0, .rptr [.rptr [.rsl (rowStg (((machG s).s).stages)) 0 ((((machG s).s).stages).length), .rsl (rowI (((machG s).s).worth)) 0 ((((machG s).s).worth).length), .int .i64 (((machG s).s).price), .rsl (rowI ((machG s).meas)) 0 (((machG s).meas).length), .rsl (rowI ((machG s).mult)) 0 (((machG s).mult).length)] 0] 0, .rptr [.int .i64 oa] 0]] (.agg [.int .i64 ((firstI (machG s) (onlyI kd) (chooseI (machG s) pa oa)).num), .int .i64 ((firstI (machG s) (onlyI kd) (chooseI (machG s) pa oa)).den)]), 2 ≤ 2, (0 : Int) ≤ 0 ∧ (0 : Int) < ((2 : Nat) : Int), (0 : Int) ≤ 1 ∧ (1 : Int) < ((2 : Nat) : Int)]) hE Try.func25 mixed (by kernel_rfl) ⟨o2, (rfl), o4, o5, o6, (by decide), (⟨by decide, by decide⟩), (⟨by decide, by decide⟩), trivial⟩ hr
theorem p25_start_1 (s : Stl) (kd : Int) (pa : Int) (oa : Int)   {E : Env} {res : AV} (hE : PureE Try.prog 25 res E) (o2 : PureF Try.prog (.clos 71 [] []) [.agg [.rsl (rowStg s.stages) 0 s.stages.length, .rsl (rowI s.worth) 0 s.worth.length, .int .i64 s.price], .clos 72 [] [.rptr [.int .i64 kd] 0, .rptr [.int .i64 pa] 0, .rptr [.int .i64 oa] 0]] (.tup [.nilPtr, .int .i64 1]))
    (hr : AvLe (.tup [.int .i64 0, .int .i64 0, .int .i64 1]) res) : G Try.prog E [.code (bodyAt Try.prog 25)] ⟨[.agg [.rsl (rowStg s.stages) 0 s.stages.length, .rsl (rowI s.worth) 0 s.worth.length, .int .i64 s.price], .int .i64 kd, .int .i64 pa, .int .i64 oa] ++ unds (Try.f25.ntmps - 4), []⟩ :=
  end_stepL (n := 400) (evs := [.wt 5, .wt 6, .wt 7, .v (.tup [.nilPtr, .int .i64 1]), .b true]) (obs := [PureF Try.prog (.clos 71 [] []) [.agg [.rsl (rowStg s.stages) 0 s.stages.length, .rsl (rowI s.worth) 0 s.worth.length, .int .i64 s.price], .clos 72 [] [.rptr [.int .i64 kd] 0, .rptr [.int .i64 pa] 0, .rptr [.int .i64 oa] 0]] (.tup [.nilPtr, .int .i64 1]), true = true]) hE Try.func25 mixed (by kernel_rfl) ⟨o2, (rfl), trivial⟩ hr
theorem p25_start_2 (s : Stl) (kd : Int) (pa : Int) (oa : Int)   {E : Env} {res : AV} (hE : PureE Try.prog 25 res E) (o1 : PureF Try.prog (.clos 71 [] []) [.agg [.rsl (rowStg s.stages) 0 s.stages.length, .rsl (rowI s.worth) 0 s.worth.length, .int .i64 s.price], .clos 72 [] [.rptr [.int .i64 kd] 0, .rptr [.int .i64 pa] 0, .rptr [.int .i64 oa] 0]] (.tup [.nilPtr, .int .i64 60]))
    (hr : AvLe (.tup [.int .i64 0, .int .i64 0, .int .i64 60]) res) : G Try.prog E [.code (bodyAt Try.prog 25)] ⟨[.agg [.rsl (rowStg s.stages) 0 s.stages.length, .rsl (rowI s.worth) 0 s.worth.length, .int .i64 s.price], .int .i64 kd, .int .i64 pa, .int .i64 oa] ++ unds (Try.f25.ntmps - 4), []⟩ :=
  end_stepL (n := 400) (evs := [.wt 5, .wt 6, .wt 7, .v (.tup [.nilPtr, .int .i64 60]), .b true]) (obs := [PureF Try.prog (.clos 71 [] []) [.agg [.rsl (rowStg s.stages) 0 s.stages.length, .rsl (rowI s.worth) 0 s.worth.length, .int .i64 s.price], .clos 72 [] [.rptr [.int .i64 kd] 0, .rptr [.int .i64 pa] 0, .rptr [.int .i64 oa] 0]] (.tup [.nilPtr, .int .i64 60]), true = true]) hE Try.func25 mixed (by kernel_rfl) ⟨o1, (rfl), trivial⟩ hr
theorem f25W (s : Stl) (kd : Int) (pa : Int) (oa : Int) {E : Env} {rv : (Int × Int × Int)} (hE : PureE Try.prog 25 (.tup [.int .i64 rv.1, .int .i64 rv.2.1, .int .i64 rv.2.2]) E)
    (h : ((((machI s).isSome) = true → (((rightO (machG s) kd pa oa) = true → ((s.stages.length ≤ 9223372036854775807 ∧ s.worth.length ≤ 9223372036854775807) ∧ ((MOk (machG s)) ∧ rv = ((firstI (machG s) (onlyI kd) (chooseI (machG s) pa oa)).num, (firstI (machG s) (onlyI kd) (chooseI (machG s) pa oa)).den, 0)))) ∧ ((rightO (machG s) kd pa oa) = false → ((s.stages.length ≤ 9223372036854775807 ∧ s.worth.length ≤ 9223372036854775807) ∧ rv = (0, 0, 1))))) ∧ (((machI s).isSome) = false → ((s.stages.length ≤ 9223372036854775807 ∧ s.worth.length ≤ 9223372036854775807) ∧ rv = (0, 0, 60))))) : G Try.prog E [.code (bodyAt Try.prog 25)] ⟨[.agg [.rsl (rowStg s.stages) 0 s.stages.length, .rsl (rowI s.worth) 0 s.worth.length, .int .i64 s.price], .int .i64 kd, .int .i64 pa, .int .i64 oa] ++ unds (Try.f25.ntmps - 4), []⟩ := by
  rcases Bool.eq_false_or_eq_true ((machI s).isSome) with hc0 | hc0
  · have h := h.1 hc0
    rcases Bool.eq_false_or_eq_true (rightO (machG s) kd pa oa) with hc1 | hc1
    · have h := h.1 hc1
      obtain ⟨h1, h⟩ := h
      obtain ⟨h2, h⟩ := h
      exact p25_start_0 s kd pa oa    hE (pureF_of Try.func71 (by kernel_rfl) f71x72b (begR_T hc0 hc1 ▸ beg72_ok s kd pa oa h1)) (pureF_of Try.func76 (by kernel_rfl) f76b (mkonly_ok kd)) (pureF_of Try.func77 (by kernel_rfl) f77b (mkaims_ok (machG s) pa oa)) (pureF_of Try.func75 (by kernel_rfl) f75ob (firsto_ok (machG s) kd pa oa h2)) (AvLe.of_eq (by rw [h]; try rfl))
    · have h := h.2 hc1
      obtain ⟨h1, h⟩ := h
      exact p25_start_1 s kd pa oa    hE (pureF_of Try.func71 (by kernel_rfl) f71x72b (begR_F1 hc0 hc1 ▸ beg72_ok s kd pa oa h1)) (AvLe.of_eq (by rw [h]; try rfl))
  · have h := h.2 hc0
    obtain ⟨h1, h⟩ := h
    exact p25_start_2 s kd pa oa    hE (pureF_of Try.func71 (by kernel_rfl) f71x72b (begR_F0 hc0 ▸ beg72_ok s kd pa oa h1)) (AvLe.of_eq (by rw [h]; try rfl))
theorem f64b : Try.f64.body = some (bodyAt Try.prog 64) := by kernel_rfl
theorem p64_start_0    {E : Env} {res : AV} (hE : PureE Try.prog 64 res E) 
    (hr : AvLe (.agg [.rsl [.int .i64 3, .int .i64 0, .rsl [.int .i64 0, .int .i64 1, .int .i64 0, .int .i64 2] 0 2, .int .i64 1, .int .i64 0, .rsl [.int .i64 1, .int .i64 3, .int .i64 1, .int .i64 4] 0 2, .int .i64 1, .int .i64 0, .rsl [.int .i64 1, .int .i64 3, .int .i64 3, .int .i64 4] 0 2, .int .i64 4, .int .i64 0, .rsl [] 0 0, .int .i64 4, .int .i64 (-1), .rsl [] 0 0] 0 5, .rsl [.int .i64 100] 0 1, .int .i64 40]) res) : G Try.prog E [.code (bodyAt Try.prog 64)] ⟨[] ++ unds (Try.f64.ntmps - 0), []⟩ :=
  end_stepL (n := 400) (evs := [.wt 13, .wt 14]) (obs := [3 ≤ 3, 0 = 0, 0 = 0, 0 = 0, 0 = 0, 0 = 0]) hE Try.func64 mixed (by kernel_rfl) ⟨(by decide), (rfl), (rfl), (rfl), (rfl), (rfl), trivial⟩ hr
theorem f64W  {E : Env} {rv : Stl} (hE : PureE Try.prog 64 (.agg [.rsl (rowStg rv.stages) 0 rv.stages.length, .rsl (rowI rv.worth) 0 rv.worth.length, .int .i64 rv.price]) E)
    (h : rv = (⟨[(⟨3, 0, [(⟨0, 1⟩ : Trn), (⟨0, 2⟩ : Trn)]⟩ : Stg), (⟨1, 0, [(⟨1, 3⟩ : Trn), (⟨1, 4⟩ : Trn)]⟩ : Stg), (⟨1, 0, [(⟨1, 3⟩ : Trn), (⟨3, 4⟩ : Trn)]⟩ : Stg), (⟨4, 0, ([] : List Trn)⟩ : Stg), (⟨4, (-1), ([] : List Trn)⟩ : Stg)], [100], 40⟩ : Stl)) : G Try.prog E [.code (bodyAt Try.prog 64)] ⟨[] ++ unds (Try.f64.ntmps - 0), []⟩ := by
  exact p64_start_0     hE  (AvLe.of_eq (by rw [h]; try rfl))

def oddsK (s : Stl) (kd pa oa : Int) : Int × Int × Int := if (machI s).isSome = true then (if rightO (machG s) kd pa oa = true then ((firstI (machG s) (onlyI kd) (chooseI (machG s) pa oa)).num, (firstI (machG s) (onlyI kd) (chooseI (machG s) pa oa)).den, 0) else (0, 0, 1)) else (0, 0, 60)
theorem odds_ok (s : Stl) (kd pa oa : Int) (h : s.stages.length ≤ 9223372036854775807 ∧ s.worth.length ≤ 9223372036854775807) : Pure Try.prog 25 [.agg [.rsl (rowStg s.stages) 0 s.stages.length, .rsl (rowI s.worth) 0 s.worth.length, .int .i64 s.price], .int .i64 kd, .int .i64 pa, .int .i64 oa] (.tup [.int .i64 (oddsK s kd pa oa).1, .int .i64 (oddsK s kd pa oa).2.1, .int .i64 (oddsK s kd pa oa).2.2]) := pure_of Try.func25 f25b fun E hE => by
  refine f25W s kd pa oa (rv := oddsK s kd pa oa) hE ⟨fun h0 => ⟨fun h1 => ⟨h, (mok_G h0).1, ?_⟩, fun h1 => ⟨h, ?_⟩⟩, fun h0 => ⟨h, ?_⟩⟩
  · rw [oddsK, if_pos h0, if_pos h1]
  · rw [oddsK, if_pos h0, if_neg (by rw [h1]; simp)]
  · rw [oddsK, if_neg (by rw [h0]; simp)]
def exS : Stl := ⟨[⟨3, 0, [⟨0, 1⟩, ⟨0, 2⟩]⟩, ⟨1, 0, [⟨1, 3⟩, ⟨1, 4⟩]⟩, ⟨1, 0, [⟨1, 3⟩, ⟨3, 4⟩]⟩, ⟨4, 0, []⟩, ⟨4, -1, []⟩], [100], 40⟩
theorem example_ok : Pure Try.prog 64 [] (.agg [.rsl (rowStg exS.stages) 0 exS.stages.length, .rsl (rowI exS.worth) 0 exS.worth.length, .int .i64 exS.price]) := pure_of Try.func64 f64b fun E hE => f64W (rv := exS) hE rfl

theorem f20b : Try.f20.body = some (bodyAt Try.prog 20) := by kernel_rfl
theorem p20_start_0    {E : Env} {res : AV} (hE : PureE Try.prog 20 res E) (o0 : PureF Try.prog (.clos 64 [] []) [] (.agg [.rsl (rowStg exS.stages) 0 exS.stages.length, .rsl (rowI exS.worth) 0 exS.worth.length, .int .i64 exS.price])) (o1 : PureF Try.prog (.clos 25 [] []) [.agg [.rsl (rowStg exS.stages) 0 exS.stages.length, .rsl (rowI exS.worth) 0 exS.worth.length, .int .i64 exS.price], .int .i64 0, .int .i64 2, .int .i64 1] (.tup [.int .i64 ((oddsK exS 0 2 1).1), .int .i64 ((oddsK exS 0 2 1).2.1), .int .i64 ((oddsK exS 0 2 1).2.2)])) (o2 : PureF Try.prog (.clos 21 [] []) [.int .i64 3, .int .i64 2, .int .i64 1, .int .i64 3] (.tup [.agg [.rsl (rowStg (((throwsK 3 2 1 3).1).stages)) 0 ((((throwsK 3 2 1 3).1).stages).length), .rsl (rowI (((throwsK 3 2 1 3).1).worth)) 0 ((((throwsK 3 2 1 3).1).worth).length), .int .i64 (((throwsK 3 2 1 3).1).price)], .int .i64 ((throwsK 3 2 1 3).2)])) (o4 : ((oddsK exS 0 2 1).2.2 == 0) = true) (o5 : ((throwsK 3 2 1 3).2 == 0) = true) (o6 : ((oddsK exS 0 2 1).1 == 1) = true) (o7 : ((oddsK exS 0 2 1).2.1 == 4) = true)
    (hr : AvLe (.bool ((((((throwsK 3 2 1 3).1).stages).length : Nat) : Int) == 8)) res) : G Try.prog E [.code (bodyAt Try.prog 20)] ⟨[] ++ unds (Try.f20.ntmps - 0), []⟩ :=
  end_stepL (n := 400) (evs := [.v (.agg [.rsl (rowStg exS.stages) 0 exS.stages.length, .rsl (rowI exS.worth) 0 exS.worth.length, .int .i64 exS.price]), .v (.tup [.int .i64 ((oddsK exS 0 2 1).1), .int .i64 ((oddsK exS 0 2 1).2.1), .int .i64 ((oddsK exS 0 2 1).2.2)]), .v (.tup [.agg [.rsl (rowStg (((throwsK 3 2 1 3).1).stages)) 0 ((((throwsK 3 2 1 3).1).stages).length), .rsl (rowI (((throwsK 3 2 1 3).1).worth)) 0 ((((throwsK 3 2 1 3).1).worth).length), .int .i64 (((throwsK 3 2 1 3).1).price)], .int .i64 ((throwsK 3 2 1 3).2)]), .b true, .b true, .b true, .b true]) (obs := [PureF Try.prog (.clos 64 [] []) [] (.agg [.rsl (rowStg exS.stages) 0 exS.stages.length, .rsl (rowI exS.worth) 0 exS.worth.length, .int .i64 exS.price]), PureF Try.prog (.clos 25 [] []) [.agg [.rsl (rowStg exS.stages) 0 exS.stages.length, .rsl (rowI exS.worth) 0 exS.worth.length, .int .i64 exS.price], .int .i64 0, .int .i64 2, .int .i64 1] (.tup [.int .i64 ((oddsK exS 0 2 1).1), .int .i64 ((oddsK exS 0 2 1).2.1), .int .i64 ((oddsK exS 0 2 1).2.2)]), PureF Try.prog (.clos 21 [] []) [.int .i64 3, .int .i64 2, .int .i64 1, .int .i64 3] (.tup [.agg [.rsl (rowStg (((throwsK 3 2 1 3).1).stages)) 0 ((((throwsK 3 2 1 3).1).stages).length), .rsl (rowI (((throwsK 3 2 1 3).1).worth)) 0 ((((throwsK 3 2 1 3).1).worth).length), .int .i64 (((throwsK 3 2 1 3).1).price)], .int .i64 ((throwsK 3 2 1 3).2)]), 3 ≤ 3, ((oddsK exS 0 2 1).2.2 == 0) = true, ((throwsK 3 2 1 3).2 == 0) = true, ((oddsK exS 0 2 1).1 == 1) = true, ((oddsK exS 0 2 1).2.1 == 4) = true]) hE Try.func20 mixed (by kernel_rfl) ⟨o0, o1, o2, (by decide), o4, o5, o6, o7, trivial⟩ hr
theorem p20_start_1    {E : Env} {res : AV} (hE : PureE Try.prog 20 res E) (o0 : PureF Try.prog (.clos 64 [] []) [] (.agg [.rsl (rowStg exS.stages) 0 exS.stages.length, .rsl (rowI exS.worth) 0 exS.worth.length, .int .i64 exS.price])) (o1 : PureF Try.prog (.clos 25 [] []) [.agg [.rsl (rowStg exS.stages) 0 exS.stages.length, .rsl (rowI exS.worth) 0 exS.worth.length, .int .i64 exS.price], .int .i64 0, .int .i64 2, .int .i64 1] (.tup [.int .i64 ((oddsK exS 0 2 1).1), .int .i64 ((oddsK exS 0 2 1).2.1), .int .i64 ((oddsK exS 0 2 1).2.2)])) (o2 : PureF Try.prog (.clos 21 [] []) [.int .i64 3, .int .i64 2, .int .i64 1, .int .i64 3] (.tup [.agg [.rsl (rowStg (((throwsK 3 2 1 3).1).stages)) 0 ((((throwsK 3 2 1 3).1).stages).length), .rsl (rowI (((throwsK 3 2 1 3).1).worth)) 0 ((((throwsK 3 2 1 3).1).worth).length), .int .i64 (((throwsK 3 2 1 3).1).price)], .int .i64 ((throwsK 3 2 1 3).2)])) (o4 : ((oddsK exS 0 2 1).2.2 == 0) = true) (o5 : ((throwsK 3 2 1 3).2 == 0) = true) (o6 : ((oddsK exS 0 2 1).1 == 1) = true) (o7 : ((oddsK exS 0 2 1).2.1 == 4) = false)
    (hr : AvLe (.bool false) res) : G Try.prog E [.code (bodyAt Try.prog 20)] ⟨[] ++ unds (Try.f20.ntmps - 0), []⟩ :=
  end_stepL (n := 400) (evs := [.v (.agg [.rsl (rowStg exS.stages) 0 exS.stages.length, .rsl (rowI exS.worth) 0 exS.worth.length, .int .i64 exS.price]), .v (.tup [.int .i64 ((oddsK exS 0 2 1).1), .int .i64 ((oddsK exS 0 2 1).2.1), .int .i64 ((oddsK exS 0 2 1).2.2)]), .v (.tup [.agg [.rsl (rowStg (((throwsK 3 2 1 3).1).stages)) 0 ((((throwsK 3 2 1 3).1).stages).length), .rsl (rowI (((throwsK 3 2 1 3).1).worth)) 0 ((((throwsK 3 2 1 3).1).worth).length), .int .i64 (((throwsK 3 2 1 3).1).price)], .int .i64 ((throwsK 3 2 1 3).2)]), .b true, .b true, .b true, .b false]) (obs := [PureF Try.prog (.clos 64 [] []) [] (.agg [.rsl (rowStg exS.stages) 0 exS.stages.length, .rsl (rowI exS.worth) 0 exS.worth.length, .int .i64 exS.price]), PureF Try.prog (.clos 25 [] []) [.agg [.rsl (rowStg exS.stages) 0 exS.stages.length, .rsl (rowI exS.worth) 0 exS.worth.length, .int .i64 exS.price], .int .i64 0, .int .i64 2, .int .i64 1] (.tup [.int .i64 ((oddsK exS 0 2 1).1), .int .i64 ((oddsK exS 0 2 1).2.1), .int .i64 ((oddsK exS 0 2 1).2.2)]), PureF Try.prog (.clos 21 [] []) [.int .i64 3, .int .i64 2, .int .i64 1, .int .i64 3] (.tup [.agg [.rsl (rowStg (((throwsK 3 2 1 3).1).stages)) 0 ((((throwsK 3 2 1 3).1).stages).length), .rsl (rowI (((throwsK 3 2 1 3).1).worth)) 0 ((((throwsK 3 2 1 3).1).worth).length), .int .i64 (((throwsK 3 2 1 3).1).price)], .int .i64 ((throwsK 3 2 1 3).2)]), 3 ≤ 3, ((oddsK exS 0 2 1).2.2 == 0) = true, ((throwsK 3 2 1 3).2 == 0) = true, ((oddsK exS 0 2 1).1 == 1) = true, ((oddsK exS 0 2 1).2.1 == 4) = false]) hE Try.func20 mixed (by kernel_rfl) ⟨o0, o1, o2, (by decide), o4, o5, o6, o7, trivial⟩ hr
theorem p20_start_2    {E : Env} {res : AV} (hE : PureE Try.prog 20 res E) (o0 : PureF Try.prog (.clos 64 [] []) [] (.agg [.rsl (rowStg exS.stages) 0 exS.stages.length, .rsl (rowI exS.worth) 0 exS.worth.length, .int .i64 exS.price])) (o1 : PureF Try.prog (.clos 25 [] []) [.agg [.rsl (rowStg exS.stages) 0 exS.stages.length, .rsl (rowI exS.worth) 0 exS.worth.length, .int .i64 exS.price], .int .i64 0, .int .i64 2, .int .i64 1] (.tup [.int .i64 ((oddsK exS 0 2 1).1), .int .i64 ((oddsK exS 0 2 1).2.1), .int .i64 ((oddsK exS 0 2 1).2.2)])) (o2 : PureF Try.prog (.clos 21 [] []) [.int .i64 3, .int .i64 2, .int .i64 1, .int .i64 3] (.tup [.agg [.rsl (rowStg (((throwsK 3 2 1 3).1).stages)) 0 ((((throwsK 3 2 1 3).1).stages).length), .rsl (rowI (((throwsK 3 2 1 3).1).worth)) 0 ((((throwsK 3 2 1 3).1).worth).length), .int .i64 (((throwsK 3 2 1 3).1).price)], .int .i64 ((throwsK 3 2 1 3).2)])) (o4 : ((oddsK exS 0 2 1).2.2 == 0) = true) (o5 : ((throwsK 3 2 1 3).2 == 0) = true) (o6 : ((oddsK exS 0 2 1).1 == 1) = false)
    (hr : AvLe (.bool false) res) : G Try.prog E [.code (bodyAt Try.prog 20)] ⟨[] ++ unds (Try.f20.ntmps - 0), []⟩ :=
  end_stepL (n := 400) (evs := [.v (.agg [.rsl (rowStg exS.stages) 0 exS.stages.length, .rsl (rowI exS.worth) 0 exS.worth.length, .int .i64 exS.price]), .v (.tup [.int .i64 ((oddsK exS 0 2 1).1), .int .i64 ((oddsK exS 0 2 1).2.1), .int .i64 ((oddsK exS 0 2 1).2.2)]), .v (.tup [.agg [.rsl (rowStg (((throwsK 3 2 1 3).1).stages)) 0 ((((throwsK 3 2 1 3).1).stages).length), .rsl (rowI (((throwsK 3 2 1 3).1).worth)) 0 ((((throwsK 3 2 1 3).1).worth).length), .int .i64 (((throwsK 3 2 1 3).1).price)], .int .i64 ((throwsK 3 2 1 3).2)]), .b true, .b true, .b false, .b false]) (obs := [PureF Try.prog (.clos 64 [] []) [] (.agg [.rsl (rowStg exS.stages) 0 exS.stages.length, .rsl (rowI exS.worth) 0 exS.worth.length, .int .i64 exS.price]), PureF Try.prog (.clos 25 [] []) [.agg [.rsl (rowStg exS.stages) 0 exS.stages.length, .rsl (rowI exS.worth) 0 exS.worth.length, .int .i64 exS.price], .int .i64 0, .int .i64 2, .int .i64 1] (.tup [.int .i64 ((oddsK exS 0 2 1).1), .int .i64 ((oddsK exS 0 2 1).2.1), .int .i64 ((oddsK exS 0 2 1).2.2)]), PureF Try.prog (.clos 21 [] []) [.int .i64 3, .int .i64 2, .int .i64 1, .int .i64 3] (.tup [.agg [.rsl (rowStg (((throwsK 3 2 1 3).1).stages)) 0 ((((throwsK 3 2 1 3).1).stages).length), .rsl (rowI (((throwsK 3 2 1 3).1).worth)) 0 ((((throwsK 3 2 1 3).1).worth).length), .int .i64 (((throwsK 3 2 1 3).1).price)], .int .i64 ((throwsK 3 2 1 3).2)]), 3 ≤ 3, ((oddsK exS 0 2 1).2.2 == 0) = true, ((throwsK 3 2 1 3).2 == 0) = true, ((oddsK exS 0 2 1).1 == 1) = false, false = false]) hE Try.func20 mixed (by kernel_rfl) ⟨o0, o1, o2, (by decide), o4, o5, o6, (rfl), trivial⟩ hr
theorem p20_start_3    {E : Env} {res : AV} (hE : PureE Try.prog 20 res E) (o0 : PureF Try.prog (.clos 64 [] []) [] (.agg [.rsl (rowStg exS.stages) 0 exS.stages.length, .rsl (rowI exS.worth) 0 exS.worth.length, .int .i64 exS.price])) (o1 : PureF Try.prog (.clos 25 [] []) [.agg [.rsl (rowStg exS.stages) 0 exS.stages.length, .rsl (rowI exS.worth) 0 exS.worth.length, .int .i64 exS.price], .int .i64 0, .int .i64 2, .int .i64 1] (.tup [.int .i64 ((oddsK exS 0 2 1).1), .int .i64 ((oddsK exS 0 2 1).2.1), .int .i64 ((oddsK exS 0 2 1).2.2)])) (o2 : PureF Try.prog (.clos 21 [] []) [.int .i64 3, .int .i64 2, .int .i64 1, .int .i64 3] (.tup [.agg [.rsl (rowStg (((throwsK 3 2 1 3).1).stages)) 0 ((((throwsK 3 2 1 3).1).stages).length), .rsl (rowI (((throwsK 3 2 1 3).1).worth)) 0 ((((throwsK 3 2 1 3).1).worth).length), .int .i64 (((throwsK 3 2 1 3).1).price)], .int .i64 ((throwsK 3 2 1 3).2)])) (o4 : ((oddsK exS 0 2 1).2.2 == 0) = true) (o5 : ((throwsK 3 2 1 3).2 == 0) = false)
    (hr : AvLe (.bool false) res) : G Try.prog E [.code (bodyAt Try.prog 20)] ⟨[] ++ unds (Try.f20.ntmps - 0), []⟩ :=
  end_stepL (n := 400) (evs := [.v (.agg [.rsl (rowStg exS.stages) 0 exS.stages.length, .rsl (rowI exS.worth) 0 exS.worth.length, .int .i64 exS.price]), .v (.tup [.int .i64 ((oddsK exS 0 2 1).1), .int .i64 ((oddsK exS 0 2 1).2.1), .int .i64 ((oddsK exS 0 2 1).2.2)]), .v (.tup [.agg [.rsl (rowStg (((throwsK 3 2 1 3).1).stages)) 0 ((((throwsK 3 2 1 3).1).stages).length), .rsl (rowI (((throwsK 3 2 1 3).1).worth)) 0 ((((throwsK 3 2 1 3).1).worth).length), .int .i64 (((throwsK 3 2 1 3).1).price)], .int .i64 ((throwsK 3 2 1 3).2)]), .b true, .b false, .b false, .b false]) (obs := [PureF Try.prog (.clos 64 [] []) [] (.agg [.rsl (rowStg exS.stages) 0 exS.stages.length, .rsl (rowI exS.worth) 0 exS.worth.length, .int .i64 exS.price]), PureF Try.prog (.clos 25 [] []) [.agg [.rsl (rowStg exS.stages) 0 exS.stages.length, .rsl (rowI exS.worth) 0 exS.worth.length, .int .i64 exS.price], .int .i64 0, .int .i64 2, .int .i64 1] (.tup [.int .i64 ((oddsK exS 0 2 1).1), .int .i64 ((oddsK exS 0 2 1).2.1), .int .i64 ((oddsK exS 0 2 1).2.2)]), PureF Try.prog (.clos 21 [] []) [.int .i64 3, .int .i64 2, .int .i64 1, .int .i64 3] (.tup [.agg [.rsl (rowStg (((throwsK 3 2 1 3).1).stages)) 0 ((((throwsK 3 2 1 3).1).stages).length), .rsl (rowI (((throwsK 3 2 1 3).1).worth)) 0 ((((throwsK 3 2 1 3).1).worth).length), .int .i64 (((throwsK 3 2 1 3).1).price)], .int .i64 ((throwsK 3 2 1 3).2)]), 3 ≤ 3, ((oddsK exS 0 2 1).2.2 == 0) = true, ((throwsK 3 2 1 3).2 == 0) = false, false = false, false = false]) hE Try.func20 mixed (by kernel_rfl) ⟨o0, o1, o2, (by decide), o4, o5, (rfl), (rfl), trivial⟩ hr
theorem p20_start_4    {E : Env} {res : AV} (hE : PureE Try.prog 20 res E) (o0 : PureF Try.prog (.clos 64 [] []) [] (.agg [.rsl (rowStg exS.stages) 0 exS.stages.length, .rsl (rowI exS.worth) 0 exS.worth.length, .int .i64 exS.price])) (o1 : PureF Try.prog (.clos 25 [] []) [.agg [.rsl (rowStg exS.stages) 0 exS.stages.length, .rsl (rowI exS.worth) 0 exS.worth.length, .int .i64 exS.price], .int .i64 0, .int .i64 2, .int .i64 1] (.tup [.int .i64 ((oddsK exS 0 2 1).1), .int .i64 ((oddsK exS 0 2 1).2.1), .int .i64 ((oddsK exS 0 2 1).2.2)])) (o2 : PureF Try.prog (.clos 21 [] []) [.int .i64 3, .int .i64 2, .int .i64 1, .int .i64 3] (.tup [.agg [.rsl (rowStg (((throwsK 3 2 1 3).1).stages)) 0 ((((throwsK 3 2 1 3).1).stages).length), .rsl (rowI (((throwsK 3 2 1 3).1).worth)) 0 ((((throwsK 3 2 1 3).1).worth).length), .int .i64 (((throwsK 3 2 1 3).1).price)], .int .i64 ((throwsK 3 2 1 3).2)])) (o4 : ((oddsK exS 0 2 1).2.2 == 0) = false)
    (hr : AvLe (.bool false) res) : G Try.prog E [.code (bodyAt Try.prog 20)] ⟨[] ++ unds (Try.f20.ntmps - 0), []⟩ :=
  end_stepL (n := 400) (evs := [.v (.agg [.rsl (rowStg exS.stages) 0 exS.stages.length, .rsl (rowI exS.worth) 0 exS.worth.length, .int .i64 exS.price]), .v (.tup [.int .i64 ((oddsK exS 0 2 1).1), .int .i64 ((oddsK exS 0 2 1).2.1), .int .i64 ((oddsK exS 0 2 1).2.2)]), .v (.tup [.agg [.rsl (rowStg (((throwsK 3 2 1 3).1).stages)) 0 ((((throwsK 3 2 1 3).1).stages).length), .rsl (rowI (((throwsK 3 2 1 3).1).worth)) 0 ((((throwsK 3 2 1 3).1).worth).length), .int .i64 (((throwsK 3 2 1 3).1).price)], .int .i64 ((throwsK 3 2 1 3).2)]), .b false, .b false, .b false, .b false]) (obs := [PureF Try.prog (.clos 64 [] []) [] (.agg [.rsl (rowStg exS.stages) 0 exS.stages.length, .rsl (rowI exS.worth) 0 exS.worth.length, .int .i64 exS.price]), PureF Try.prog (.clos 25 [] []) [.agg [.rsl (rowStg exS.stages) 0 exS.stages.length, .rsl (rowI exS.worth) 0 exS.worth.length, .int .i64 exS.price], .int .i64 0, .int .i64 2, .int .i64 1] (.tup [.int .i64 ((oddsK exS 0 2 1).1), .int .i64 ((oddsK exS 0 2 1).2.1), .int .i64 ((oddsK exS 0 2 1).2.2)]), PureF Try.prog (.clos 21 [] []) [.int .i64 3, .int .i64 2, .int .i64 1, .int .i64 3] (.tup [.agg [.rsl (rowStg (((throwsK 3 2 1 3).1).stages)) 0 ((((throwsK 3 2 1 3).1).stages).length), .rsl (rowI (((throwsK 3 2 1 3).1).worth)) 0 ((((throwsK 3 2 1 3).1).worth).length), .int .i64 (((throwsK 3 2 1 3).1).price)], .int .i64 ((throwsK 3 2 1 3).2)]), 3 ≤ 3, ((oddsK exS 0 2 1).2.2 == 0) = false, false = false, false = false, false = false]) hE Try.func20 mixed (by kernel_rfl) ⟨o0, o1, o2, (by decide), o4, (rfl), (rfl), (rfl), trivial⟩ hr
theorem f20W  {E : Env} {rv : Bool} (hE : PureE Try.prog 20 (.bool rv) E)
    (h : ((exS.stages.length ≤ 9223372036854775807 ∧ exS.worth.length ≤ 9223372036854775807) ∧ (((oddsK exS 0 2 1).2.2 = 0 → (((throwsK 3 2 1 3).2 = 0 → (((oddsK exS 0 2 1).1 = 1 → (((oddsK exS 0 2 1).2.1 = 4 → rv = ((((((throwsK 3 2 1 3).1).stages).length : Nat) : Int) == 8)) ∧ (¬ ((oddsK exS 0 2 1).2.1 = 4) → rv = false))) ∧ (¬ ((oddsK exS 0 2 1).1 = 1) → rv = false))) ∧ (¬ ((throwsK 3 2 1 3).2 = 0) → rv = false))) ∧ (¬ ((oddsK exS 0 2 1).2.2 = 0) → rv = false)))) : G Try.prog E [.code (bodyAt Try.prog 20)] ⟨[] ++ unds (Try.f20.ntmps - 0), []⟩ := by
  obtain ⟨h1, h⟩ := h
  rcases Bool.eq_false_or_eq_true ((oddsK exS 0 2 1).2.2 == 0) with hc0 | hc0
  · have h := h.1 (eq_of_beq hc0)
    rcases Bool.eq_false_or_eq_true ((throwsK 3 2 1 3).2 == 0) with hc1 | hc1
    · have h := h.1 (eq_of_beq hc1)
      rcases Bool.eq_false_or_eq_true ((oddsK exS 0 2 1).1 == 1) with hc2 | hc2
      · have h := h.1 (eq_of_beq hc2)
        rcases Bool.eq_false_or_eq_true ((oddsK exS 0 2 1).2.1 == 4) with hc3 | hc3
        · have h := h.1 (eq_of_beq hc3)
          exact p20_start_0     hE (pureF_of Try.func64 (by kernel_rfl) f64b (example_ok )) (pureF_of Try.func25 (by kernel_rfl) f25b (odds_ok exS 0 2 1 h1)) (pureF_of Try.func21 (by kernel_rfl) f21b (throws_ok 3 2 1 3)) hc0 hc1 hc2 hc3 (AvLe.of_eq (by rw [h]; try rfl))
        · have h := h.2 (ne_of_beq_false hc3)
          exact p20_start_1     hE (pureF_of Try.func64 (by kernel_rfl) f64b (example_ok )) (pureF_of Try.func25 (by kernel_rfl) f25b (odds_ok exS 0 2 1 h1)) (pureF_of Try.func21 (by kernel_rfl) f21b (throws_ok 3 2 1 3)) hc0 hc1 hc2 hc3 (AvLe.of_eq (by rw [h]; try rfl))
      · have h := h.2 (ne_of_beq_false hc2)
        exact p20_start_2     hE (pureF_of Try.func64 (by kernel_rfl) f64b (example_ok )) (pureF_of Try.func25 (by kernel_rfl) f25b (odds_ok exS 0 2 1 h1)) (pureF_of Try.func21 (by kernel_rfl) f21b (throws_ok 3 2 1 3)) hc0 hc1 hc2 (AvLe.of_eq (by rw [h]; try rfl))
    · have h := h.2 (ne_of_beq_false hc1)
      exact p20_start_3     hE (pureF_of Try.func64 (by kernel_rfl) f64b (example_ok )) (pureF_of Try.func25 (by kernel_rfl) f25b (odds_ok exS 0 2 1 h1)) (pureF_of Try.func21 (by kernel_rfl) f21b (throws_ok 3 2 1 3)) hc0 hc1 (AvLe.of_eq (by rw [h]; try rfl))
  · have h := h.2 (ne_of_beq_false hc0)
    exact p20_start_4     hE (pureF_of Try.func64 (by kernel_rfl) f64b (example_ok )) (pureF_of Try.func25 (by kernel_rfl) f25b (odds_ok exS 0 2 1 h1)) (pureF_of Try.func21 (by kernel_rfl) f21b (throws_ok 3 2 1 3)) hc0 (AvLe.of_eq (by rw [h]; try rfl))

theorem odds_ex : oddsK exS 0 2 1 = (1, 4, 0) := by decide +kernel
theorem throws_ex : (throwsK 3 2 1 3).2 = 0 ∧ (throwsK 3 2 1 3).1.stages.length = 8 := by decide +kernel


theorem works_ok : Pure Try.prog 20 [] (.bool true) := pure_of Try.func20 f20b fun E hE => by
  have h1 := odds_ex
  have h2 := throws_ex
  refine f20W (rv := true) hE ⟨⟨by decide, by decide⟩, fun _ => ⟨fun _ => ⟨fun _ => ⟨fun _ => ?_, fun h => ?_⟩, fun h => ?_⟩, fun h => ?_⟩, fun h => ?_⟩
  · rw [h2.2]; rfl
  · rw [h1] at h; exact absurd rfl h
  · rw [h1] at h; exact absurd rfl h
  · exact absurd h2.1 h
  · rw [h1] at h; exact absurd rfl h

end Go.Proofs.Ytfgmlaeikcfpbaa

namespace Go.Proofs.Ytfgmlaeikcfpbaa
open Go Ax
open Go.Proofs

theorem ownT : ownKnob Try.prog.godebug = none := by kernel_rfl
theorem laidT : laidOutB Try.prog = true := by kernel_rfl
theorem dInts (W : World) : Dec Try.prog W 23 (List Int) (fun a => [.rsl (rowI a) 0 a.length]) (fun a => a.length ≤ 9223372036854775807) := by
  refine Dec.map (dec_slice Try.underlying23 (n := 1) (by kernel_rfl) (by decide) (fun _ => rfl) (fun _ => rfl) (dec_i64 Try.underlying3)) (fun x => x) ?_ ?_
  · exact fun _ => rfl
  · exact fun _ h => h.1
theorem dTrn (W : World) : Dec Try.prog W 122 Trn cTrn (fun a => True) := by
  refine Dec.map (dec_struct Try.underlying122 rfl (tot := 2) (by kernel_rfl) (decFs_cons (n := 1) (tot := 2) (by kernel_rfl) rfl (dec_i64 Try.underlying3) (decFs_cons (n := 1) (tot := 2) (by kernel_rfl) rfl (dec_i64 Try.underlying3) decFs_nil (by decide)) (by decide))) (fun x => (⟨x.1, x.2.1⟩ : Trn)) ?_ ?_
  · exact fun _ => rfl
  · exact fun _ _ => trivial
theorem dTrns (W : World) : Dec Try.prog W 80 (List Trn) (fun a => [.rsl (rowTrn a) 0 a.length]) (fun a => a.length ≤ 9223372036854775807) := by
  refine Dec.map (dec_slice Try.underlying80 (n := 2) (by kernel_rfl) (by decide) (fun _ => rfl) (fun _ => rfl) (dTrn W)) (fun x => x) ?_ ?_
  · exact fun _ => rfl
  · exact fun _ h => h.1
theorem dStg (W : World) : Dec Try.prog W 82 Stg cStg (fun a => True) := by
  refine Dec.map (dec_struct Try.underlying82 rfl (tot := 3) (by kernel_rfl) (decFs_cons (n := 1) (tot := 3) (by kernel_rfl) rfl (dec_i64 Try.underlying3) (decFs_cons (n := 1) (tot := 3) (by kernel_rfl) rfl (dec_i64 Try.underlying3) (decFs_cons (n := 1) (tot := 3) (by kernel_rfl) rfl (dTrns W) decFs_nil (by decide)) (by decide)) (by decide))) (fun x => (⟨x.1, x.2.1, x.2.2.1⟩ : Stg)) ?_ ?_
  · exact fun _ => rfl
  · exact fun _ _ => trivial
theorem dStgs (W : World) : Dec Try.prog W 22 (List Stg) (fun a => [.rsl (rowStg a) 0 a.length]) (fun a => a.length ≤ 9223372036854775807) := by
  refine Dec.map (dec_slice Try.underlying22 (n := 3) (by kernel_rfl) (by decide) (fun _ => rfl) (fun _ => rfl) (dStg W)) (fun x => x) ?_ ?_
  · exact fun _ => rfl
  · exact fun _ h => h.1
theorem dStl (W : World) : Dec Try.prog W 25 Stl cStl (fun a => a.stages.length ≤ 9223372036854775807 ∧ a.worth.length ≤ 9223372036854775807) := by
  refine Dec.map (dec_struct Try.underlying25 rfl (tot := 3) (by kernel_rfl) (decFs_cons (n := 1) (tot := 3) (by kernel_rfl) rfl (dStgs W) (decFs_cons (n := 1) (tot := 3) (by kernel_rfl) rfl (dInts W) (decFs_cons (n := 1) (tot := 3) (by kernel_rfl) rfl (dec_i64 Try.underlying3) decFs_nil (by decide)) (by decide)) (by decide))) (fun x => (⟨x.1, x.2.1, x.2.2.1⟩ : Stl)) ?_ ?_
  · exact fun _ => rfl
  · exact fun _ h => ⟨h.1, h.2.1⟩
end Go.Proofs.Ytfgmlaeikcfpbaa

namespace Go.Proofs.Ytfgmlaeikcfpbaa
open Go Ax
open Go.Proofs

/-! ### What the values are, in the end -/
structure VFix (m : Mch) (w : Int → Int) (ch : Int → List Int → Int) (i : Nat) (p : List Int × List Int) : Prop where
  fx : ∀ (j : Nat) (x : Stg), i ≤ j → m.s.stages[j]? = some x →
    (x.kind = 4 → p.1.getD j 0 = (if x.prize ≥ 0 then w x.prize else 0) ∧ p.2.getD j 0 = 0) ∧
    (x.kind = 1 → p.1.getD j 0 = sumW x.turns (nextI m j p.1 x.turns) ∧ p.2.getD j 0 = 0) ∧
    (x.kind ≠ 4 → x.kind ≠ 1 → p.1.getD j 0 = (nextI m j p.1 x.turns).getD (Int.toNat (p.2.getD j 0)) 0 ∧ p.2.getD j 0 = ch j (nextI m j p.1 x.turns))

/-! ### Who chooses -/
/-! ### The reference's greatest common divisor is the program's -/
/-! ### What an end is worth -/
theorem isSome_of {s : Stl} (h : checkK s = 0) : (machI s).isSome = true := by
  unfold checkK at h
  split at h
  · assumption
  · omega
end Go.Proofs.Ytfgmlaeikcfpbaa

namespace Go.Proofs.Ytfgmlaeikcfpbaa
open Go Ax
open Go.Proofs

abbrev avStl (s : Stl) : AV := .agg [.rsl (rowStg s.stages) 0 s.stages.length, .rsl (rowI s.worth) 0 s.worth.length, .int .i64 s.price]
theorem checkK_no {s : Stl} (h : ¬ (checkK s = 0)) : checkK s = 60 := by
  unfold checkK at *
  split
  · rename_i h1; rw [if_pos h1] at h; omega
  · rfl
theorem isSome_iff {s : Stl} : (machI s).isSome = true ↔ checkK s = 0 := by
  unfold checkK; split <;> simp_all
def planE (s : Stl) (plan : List Int) : Int := if checkK s = 0 then (if planOk s plan = true then 0 else 1) else 60
theorem planE_of {s : Stl} {plan : List Int} (h : planE s plan = 0) : checkK s = 0 ∧ planOk s plan = true := by
  unfold planE at h
  split at h
  · rename_i h0
    split at h
    · rename_i h1; exact ⟨h0, h1⟩
    · omega
  · omega

/-! ### The end values of a machine, turn by turn -/
structure Aims where
  kind : Int
  player : Int
  operator : Int
theorem f30b : Try.f30.body = some (bodyAt Try.prog 30) := by kernel_rfl
def f30K0 (P : Program) : List Item := kAt 400 [.code (bodyAt P 30)] [.b false, .b false, .stop]
def f30S0 (s : Stl) (plan : (List Int)) (i : Nat)  : St := ⟨[.junk, .rsl (rowI plan) 0 plan.length, .ptr 0 0 0, .junk, .junk, .junk, .int .i64 (i : Int), .junk, .junk, .junk, .junk, .junk, .junk, .junk, .junk, .junk, .junk, .junk, .junk, .junk, .junk, .junk, .junk, .junk, .junk, .junk, .junk, .junk, .junk, .junk, .junk, .junk, .junk, .junk, .junk, .junk, .junk, .junk, .junk, .junk, .junk, .junk, .junk, .junk, .junk, .junk, .junk, .junk, .junk, .junk], [⟨true, 0, 1, true, [.rsl (rowStg s.stages) 0 s.stages.length, .rsl (rowI s.worth) 0 s.worth.length, .int .i64 s.price], false⟩]⟩
def f30G0 (E : Env) (s : Stl) (plan : (List Int)) (i : Nat) : Prop := G Try.prog E (f30K0 Try.prog) (f30S0 s plan i )
theorem p30_start_0 (s : Stl) (plan : (List Int))   {E : Env} {res : AV} (hE : PureE Try.prog 30 res E) (o0 : PureF Try.prog (.clos 19 [] []) [.agg [.rsl (rowStg s.stages) 0 s.stages.length, .rsl (rowI s.worth) 0 s.worth.length, .int .i64 s.price]] (.int .i64 (checkK s))) (o1 : ((checkK s) != 0) = true)
    (hr : AvLe (.int .i64 (checkK s)) res) : G Try.prog E [.code (bodyAt Try.prog 30)] ⟨[.agg [.rsl (rowStg s.stages) 0 s.stages.length, .rsl (rowI s.worth) 0 s.worth.length, .int .i64 s.price], .rsl (rowI plan) 0 plan.length] ++ unds (Try.f30.ntmps - 2), []⟩ :=
  end_stepL (n := 400) (evs := [.v (.int .i64 (checkK s)), .b true]) (obs := [PureF Try.prog (.clos 19 [] []) [.agg [.rsl (rowStg s.stages) 0 s.stages.length, .rsl (rowI s.worth) 0 s.worth.length, .int .i64 s.price]] (.int .i64 (checkK s)), ((checkK s) != 0) = true]) hE Try.func30 mixed (by kernel_rfl) ⟨o0, o1, trivial⟩ hr
theorem p30_start_1 (s : Stl) (plan : (List Int))   {E : Env} {res : AV} (hE : PureE Try.prog 30 res E) (o0 : PureF Try.prog (.clos 19 [] []) [.agg [.rsl (rowStg s.stages) 0 s.stages.length, .rsl (rowI s.worth) 0 s.worth.length, .int .i64 s.price]] (.int .i64 (checkK s))) (o1 : ((checkK s) != 0) = false) (o2 : ((plan.length : Int) != (s.stages.length : Int)) = true)
    (hr : AvLe (.int .i64 1) res) : G Try.prog E [.code (bodyAt Try.prog 30)] ⟨[.agg [.rsl (rowStg s.stages) 0 s.stages.length, .rsl (rowI s.worth) 0 s.worth.length, .int .i64 s.price], .rsl (rowI plan) 0 plan.length] ++ unds (Try.f30.ntmps - 2), []⟩ :=
  end_stepL (n := 400) (evs := [.v (.int .i64 (checkK s)), .b false, .b true]) (obs := [PureF Try.prog (.clos 19 [] []) [.agg [.rsl (rowStg s.stages) 0 s.stages.length, .rsl (rowI s.worth) 0 s.worth.length, .int .i64 s.price]] (.int .i64 (checkK s)), ((checkK s) != 0) = false, ((plan.length : Int) != (s.stages.length : Int)) = true]) hE Try.func30 mixed (by kernel_rfl) ⟨o0, o1, o2, trivial⟩ hr
theorem p30_start_2 (s : Stl) (plan : (List Int))   {E : Env} {rv : AV} (hE : PureE Try.prog 30 rv E) (o0 : PureF Try.prog (.clos 19 [] []) [.agg [.rsl (rowStg s.stages) 0 s.stages.length, .rsl (rowI s.worth) 0 s.worth.length, .int .i64 s.price]] (.int .i64 (checkK s))) (o1 : ((checkK s) != 0) = false) (o2 : ((plan.length : Int) != (s.stages.length : Int)) = false)
    (hg : G Try.prog E (f30K0 Try.prog) ⟨[.junk, .rsl (rowI plan) 0 plan.length, .ptr 0 0 0, .junk, .junk, .junk, .int .i64 0, .junk, .junk, .junk, .junk, .junk, .junk, .junk, .junk, .junk, .junk, .junk, .junk, .junk, .junk, .junk, .junk, .junk, .junk, .junk, .junk, .junk, .junk, .junk, .junk, .junk, .junk, .junk, .junk, .junk, .junk, .junk, .junk, .junk, .junk, .junk, .junk, .junk, .junk, .junk, .junk, .junk, .junk, .junk], [⟨true, 0, 1, true, [.rsl (rowStg s.stages) 0 s.stages.length, .rsl (rowI s.worth) 0 s.worth.length, .int .i64 s.price], false⟩]⟩) : G Try.prog E [.code (bodyAt Try.prog 30)] ⟨[.agg [.rsl (rowStg s.stages) 0 s.stages.length, .rsl (rowI s.worth) 0 s.worth.length, .int .i64 s.price], .rsl (rowI plan) 0 plan.length] ++ unds (Try.f30.ntmps - 2), []⟩ :=
  segC_step (n := 400) (ds := []) (cs := []) (live := [1, 2, 6]) (m := 1) (evs := [.v (.int .i64 (checkK s)), .b false, .b false, .stop]) (obs := [PureF Try.prog (.clos 19 [] []) [.agg [.rsl (rowStg s.stages) 0 s.stages.length, .rsl (rowI s.worth) 0 s.worth.length, .int .i64 s.price]] (.int .i64 (checkK s)), ((checkK s) != 0) = false, ((plan.length : Int) != (s.stages.length : Int)) = false]) hE.2.1 (hE.nogh _) mixed (by kernel_rfl) ⟨o0, o1, o2, trivial⟩ hg
theorem f30W (s : Stl) (plan : (List Int)) {E : Env} {rv : Int} (hE : PureE Try.prog 30 (.int .i64 rv) E)
    (h : ((s.stages.length ≤ 9223372036854775807 ∧ s.worth.length ≤ 9223372036854775807) ∧ ((¬ ((checkK s) = 0) → rv = (checkK s)) ∧ ((checkK s) = 0 → ((¬ ((plan.length : Int) = (s.stages.length : Int)) → rv = 1) ∧ ((plan.length : Int) = (s.stages.length : Int) → f30G0 E s plan 0)))))) : G Try.prog E [.code (bodyAt Try.prog 30)] ⟨[.agg [.rsl (rowStg s.stages) 0 s.stages.length, .rsl (rowI s.worth) 0 s.worth.length, .int .i64 s.price], .rsl (rowI plan) 0 plan.length] ++ unds (Try.f30.ntmps - 2), []⟩ := by
  obtain ⟨h1, h⟩ := h
  rcases Bool.eq_false_or_eq_true ((checkK s) != 0) with hc0 | hc0
  · have h := h.1 (bneT hc0)
    exact p30_start_0 s plan    hE (pureF_of Try.func19 (by kernel_rfl) f19b (checkR_ok s h1)) hc0 (AvLe.of_eq (by rw [h]; try rfl))
  · have h := h.2 (bneF hc0)
    rcases Bool.eq_false_or_eq_true ((plan.length : Int) != (s.stages.length : Int)) with hc1 | hc1
    · have h := h.1 (bneT hc1)
      exact p30_start_1 s plan    hE (pureF_of Try.func19 (by kernel_rfl) f19b (checkR_ok s h1)) hc0 hc1 (AvLe.of_eq (by rw [h]; try rfl))
    · have h := h.2 (bneF hc1)
      exact p30_start_2 s plan    hE (pureF_of Try.func19 (by kernel_rfl) f19b (checkR_ok s h1)) hc0 hc1 h
theorem p30_0_0 (s : Stl) (plan : (List Int)) (i : Nat)  (se : Stg) (e : Int)  {E : Env} {res : AV} (hE : PureE Try.prog 30 res E) (o0 : (decide ((i : Int) < (plan.length : Int))) = true) (o2 : 0 ≤ (i : Int) ∧ (i : Int) < (s.stages.length : Int)) (o3 : ((rowStg s.stages).drop (0 + (Int.toNat (i : Int)) * 3)).take 3 = [.int .i64 se.kind, .int .i64 se.prize, .rsl (rowTrn se.turns) 0 se.turns.length]) (o5 : (se.kind == 2) = true) (o7 : InR .i64 ((se.turns.length : Int) - 1)) (o9 : 0 ≤ (i : Int) ∧ (i : Int) < (plan.length : Int)) (o10 : ((rowI plan).drop (0 + (Int.toNat (i : Int)) * 1)).take 1 = [.int .i64 e]) (o11 : PureF Try.prog (.clos 62 [] []) [.int .i64 e, .int .i64 0, .int .i64 ((se.turns.length : Int) - 1)] (.bool (within e 0 ((se.turns.length : Int) - 1)))) (o12 : (!(within e 0 ((se.turns.length : Int) - 1))) = true)
    (hr : AvLe (.int .i64 1) res) : G Try.prog E (f30K0 Try.prog) (f30S0 s plan i ) :=
  end_stepL (n := 400) (evs := [.b true, .auto, .ld (.agg [.int .i64 se.kind, .int .i64 se.prize, .rsl (rowTrn se.turns) 0 se.turns.length]), .b true, .b true, .auto, .ld (.int .i64 e), .v (.bool (within e 0 ((se.turns.length : Int) - 1))), .b true]) (obs := [(decide ((i : Int) < (plan.length : Int))) = true, 0 ≤ (i : Int) ∧ (i : Int) < (s.stages.length : Int), ((rowStg s.stages).drop (0 + (Int.toNat (i : Int)) * 3)).take 3 = [.int .i64 se.kind, .int .i64 se.prize, .rsl (rowTrn se.turns) 0 se.turns.length], 3 ≤ 3, (se.kind == 2) = true, true = true, InR .i64 ((se.turns.length : Int) - 1), 0 ≤ (i : Int) ∧ (i : Int) < (plan.length : Int), ((rowI plan).drop (0 + (Int.toNat (i : Int)) * 1)).take 1 = [.int .i64 e], PureF Try.prog (.clos 62 [] []) [.int .i64 e, .int .i64 0, .int .i64 ((se.turns.length : Int) - 1)] (.bool (within e 0 ((se.turns.length : Int) - 1))), (!(within e 0 ((se.turns.length : Int) - 1))) = true]) hE Try.func30 mixed (by kernel_rfl) ⟨o0, o2, o3, (by decide), o5, (rfl), o7, o9, o10, o11, o12, trivial⟩ hr
theorem p30_0_1 (s : Stl) (plan : (List Int)) (i : Nat)  (se : Stg) (e : Int)  {E : Env} {rv : AV} (hE : PureE Try.prog 30 rv E) (o0 : (decide ((i : Int) < (plan.length : Int))) = true) (o2 : 0 ≤ (i : Int) ∧ (i : Int) < (s.stages.length : Int)) (o3 : ((rowStg s.stages).drop (0 + (Int.toNat (i : Int)) * 3)).take 3 = [.int .i64 se.kind, .int .i64 se.prize, .rsl (rowTrn se.turns) 0 se.turns.length]) (o5 : (se.kind == 2) = true) (o7 : InR .i64 ((se.turns.length : Int) - 1)) (o9 : 0 ≤ (i : Int) ∧ (i : Int) < (plan.length : Int)) (o10 : ((rowI plan).drop (0 + (Int.toNat (i : Int)) * 1)).take 1 = [.int .i64 e]) (o11 : PureF Try.prog (.clos 62 [] []) [.int .i64 e, .int .i64 0, .int .i64 ((se.turns.length : Int) - 1)] (.bool (within e 0 ((se.turns.length : Int) - 1)))) (o12 : (!(within e 0 ((se.turns.length : Int) - 1))) = false) (o13 : InR .i64 ((i : Int) + 1))
    (hg : G Try.prog E (f30K0 Try.prog) ⟨[.junk, .rsl (rowI plan) 0 plan.length, .ptr 0 0 0, .junk, .junk, .junk, .int .i64 ((i : Int) + 1), .junk, .junk, .junk, .junk, .junk, .junk, .junk, .junk, .junk, .junk, .junk, .junk, .junk, .junk, .junk, .junk, .junk, .junk, .junk, .junk, .junk, .junk, .junk, .junk, .junk, .junk, .junk, .junk, .junk, .junk, .junk, .junk, .junk, .junk, .junk, .junk, .junk, .junk, .junk, .junk, .junk, .junk, .junk], [⟨true, 0, 1, true, [.rsl (rowStg s.stages) 0 s.stages.length, .rsl (rowI s.worth) 0 s.worth.length, .int .i64 s.price], false⟩]⟩) : G Try.prog E (f30K0 Try.prog) (f30S0 s plan i ) :=
  segC_step (n := 400) (ds := []) (cs := []) (live := [1, 2, 6]) (m := 1) (evs := [.b true, .auto, .ld (.agg [.int .i64 se.kind, .int .i64 se.prize, .rsl (rowTrn se.turns) 0 se.turns.length]), .b true, .b true, .auto, .ld (.int .i64 e), .v (.bool (within e 0 ((se.turns.length : Int) - 1))), .b false, .stop]) (obs := [(decide ((i : Int) < (plan.length : Int))) = true, 0 ≤ (i : Int) ∧ (i : Int) < (s.stages.length : Int), ((rowStg s.stages).drop (0 + (Int.toNat (i : Int)) * 3)).take 3 = [.int .i64 se.kind, .int .i64 se.prize, .rsl (rowTrn se.turns) 0 se.turns.length], 3 ≤ 3, (se.kind == 2) = true, true = true, InR .i64 ((se.turns.length : Int) - 1), 0 ≤ (i : Int) ∧ (i : Int) < (plan.length : Int), ((rowI plan).drop (0 + (Int.toNat (i : Int)) * 1)).take 1 = [.int .i64 e], PureF Try.prog (.clos 62 [] []) [.int .i64 e, .int .i64 0, .int .i64 ((se.turns.length : Int) - 1)] (.bool (within e 0 ((se.turns.length : Int) - 1))), (!(within e 0 ((se.turns.length : Int) - 1))) = false, InR .i64 ((i : Int) + 1)]) hE.2.1 (hE.nogh _) mixed (by kernel_rfl) ⟨o0, o2, o3, (by decide), o5, (rfl), o7, o9, o10, o11, o12, o13, trivial⟩ hg
theorem p30_0_2 (s : Stl) (plan : (List Int)) (i : Nat)  (se : Stg) (e : Int)  {E : Env} {res : AV} (hE : PureE Try.prog 30 res E) (o0 : (decide ((i : Int) < (plan.length : Int))) = true) (o2 : 0 ≤ (i : Int) ∧ (i : Int) < (s.stages.length : Int)) (o3 : ((rowStg s.stages).drop (0 + (Int.toNat (i : Int)) * 3)).take 3 = [.int .i64 se.kind, .int .i64 se.prize, .rsl (rowTrn se.turns) 0 se.turns.length]) (o5 : (se.kind == 2) = false) (o6 : (se.kind == 3) = true) (o7 : InR .i64 ((se.turns.length : Int) - 1)) (o9 : 0 ≤ (i : Int) ∧ (i : Int) < (plan.length : Int)) (o10 : ((rowI plan).drop (0 + (Int.toNat (i : Int)) * 1)).take 1 = [.int .i64 e]) (o11 : PureF Try.prog (.clos 62 [] []) [.int .i64 e, .int .i64 0, .int .i64 ((se.turns.length : Int) - 1)] (.bool (within e 0 ((se.turns.length : Int) - 1)))) (o12 : (!(within e 0 ((se.turns.length : Int) - 1))) = true)
    (hr : AvLe (.int .i64 1) res) : G Try.prog E (f30K0 Try.prog) (f30S0 s plan i ) :=
  end_stepL (n := 400) (evs := [.b true, .auto, .ld (.agg [.int .i64 se.kind, .int .i64 se.prize, .rsl (rowTrn se.turns) 0 se.turns.length]), .b false, .b true, .auto, .ld (.int .i64 e), .v (.bool (within e 0 ((se.turns.length : Int) - 1))), .b true]) (obs := [(decide ((i : Int) < (plan.length : Int))) = true, 0 ≤ (i : Int) ∧ (i : Int) < (s.stages.length : Int), ((rowStg s.stages).drop (0 + (Int.toNat (i : Int)) * 3)).take 3 = [.int .i64 se.kind, .int .i64 se.prize, .rsl (rowTrn se.turns) 0 se.turns.length], 3 ≤ 3, (se.kind == 2) = false, (se.kind == 3) = true, InR .i64 ((se.turns.length : Int) - 1), 0 ≤ (i : Int) ∧ (i : Int) < (plan.length : Int), ((rowI plan).drop (0 + (Int.toNat (i : Int)) * 1)).take 1 = [.int .i64 e], PureF Try.prog (.clos 62 [] []) [.int .i64 e, .int .i64 0, .int .i64 ((se.turns.length : Int) - 1)] (.bool (within e 0 ((se.turns.length : Int) - 1))), (!(within e 0 ((se.turns.length : Int) - 1))) = true]) hE Try.func30 mixed (by kernel_rfl) ⟨o0, o2, o3, (by decide), o5, o6, o7, o9, o10, o11, o12, trivial⟩ hr
theorem p30_0_3 (s : Stl) (plan : (List Int)) (i : Nat)  (se : Stg) (e : Int)  {E : Env} {rv : AV} (hE : PureE Try.prog 30 rv E) (o0 : (decide ((i : Int) < (plan.length : Int))) = true) (o2 : 0 ≤ (i : Int) ∧ (i : Int) < (s.stages.length : Int)) (o3 : ((rowStg s.stages).drop (0 + (Int.toNat (i : Int)) * 3)).take 3 = [.int .i64 se.kind, .int .i64 se.prize, .rsl (rowTrn se.turns) 0 se.turns.length]) (o5 : (se.kind == 2) = false) (o6 : (se.kind == 3) = true) (o7 : InR .i64 ((se.turns.length : Int) - 1)) (o9 : 0 ≤ (i : Int) ∧ (i : Int) < (plan.length : Int)) (o10 : ((rowI plan).drop (0 + (Int.toNat (i : Int)) * 1)).take 1 = [.int .i64 e]) (o11 : PureF Try.prog (.clos 62 [] []) [.int .i64 e, .int .i64 0, .int .i64 ((se.turns.length : Int) - 1)] (.bool (within e 0 ((se.turns.length : Int) - 1)))) (o12 : (!(within e 0 ((se.turns.length : Int) - 1))) = false) (o13 : InR .i64 ((i : Int) + 1))
    (hg : G Try.prog E (f30K0 Try.prog) ⟨[.junk, .rsl (rowI plan) 0 plan.length, .ptr 0 0 0, .junk, .junk, .junk, .int .i64 ((i : Int) + 1), .junk, .junk, .junk, .junk, .junk, .junk, .junk, .junk, .junk, .junk, .junk, .junk, .junk, .junk, .junk, .junk, .junk, .junk, .junk, .junk, .junk, .junk, .junk, .junk, .junk, .junk, .junk, .junk, .junk, .junk, .junk, .junk, .junk, .junk, .junk, .junk, .junk, .junk, .junk, .junk, .junk, .junk, .junk], [⟨true, 0, 1, true, [.rsl (rowStg s.stages) 0 s.stages.length, .rsl (rowI s.worth) 0 s.worth.length, .int .i64 s.price], false⟩]⟩) : G Try.prog E (f30K0 Try.prog) (f30S0 s plan i ) :=
  segC_step (n := 400) (ds := []) (cs := []) (live := [1, 2, 6]) (m := 1) (evs := [.b true, .auto, .ld (.agg [.int .i64 se.kind, .int .i64 se.prize, .rsl (rowTrn se.turns) 0 se.turns.length]), .b false, .b true, .auto, .ld (.int .i64 e), .v (.bool (within e 0 ((se.turns.length : Int) - 1))), .b false, .stop]) (obs := [(decide ((i : Int) < (plan.length : Int))) = true, 0 ≤ (i : Int) ∧ (i : Int) < (s.stages.length : Int), ((rowStg s.stages).drop (0 + (Int.toNat (i : Int)) * 3)).take 3 = [.int .i64 se.kind, .int .i64 se.prize, .rsl (rowTrn se.turns) 0 se.turns.length], 3 ≤ 3, (se.kind == 2) = false, (se.kind == 3) = true, InR .i64 ((se.turns.length : Int) - 1), 0 ≤ (i : Int) ∧ (i : Int) < (plan.length : Int), ((rowI plan).drop (0 + (Int.toNat (i : Int)) * 1)).take 1 = [.int .i64 e], PureF Try.prog (.clos 62 [] []) [.int .i64 e, .int .i64 0, .int .i64 ((se.turns.length : Int) - 1)] (.bool (within e 0 ((se.turns.length : Int) - 1))), (!(within e 0 ((se.turns.length : Int) - 1))) = false, InR .i64 ((i : Int) + 1)]) hE.2.1 (hE.nogh _) mixed (by kernel_rfl) ⟨o0, o2, o3, (by decide), o5, o6, o7, o9, o10, o11, o12, o13, trivial⟩ hg
theorem p30_0_4 (s : Stl) (plan : (List Int)) (i : Nat)  (se : Stg) (e : Int)  {E : Env} {res : AV} (hE : PureE Try.prog 30 res E) (o0 : (decide ((i : Int) < (plan.length : Int))) = true) (o2 : 0 ≤ (i : Int) ∧ (i : Int) < (s.stages.length : Int)) (o3 : ((rowStg s.stages).drop (0 + (Int.toNat (i : Int)) * 3)).take 3 = [.int .i64 se.kind, .int .i64 se.prize, .rsl (rowTrn se.turns) 0 se.turns.length]) (o5 : (se.kind == 2) = false) (o6 : (se.kind == 3) = false) (o8 : 0 ≤ (i : Int) ∧ (i : Int) < (plan.length : Int)) (o9 : ((rowI plan).drop (0 + (Int.toNat (i : Int)) * 1)).take 1 = [.int .i64 e]) (o10 : PureF Try.prog (.clos 62 [] []) [.int .i64 e, .int .i64 0, .int .i64 0] (.bool (within e 0 0))) (o11 : (!(within e 0 0)) = true)
    (hr : AvLe (.int .i64 1) res) : G Try.prog E (f30K0 Try.prog) (f30S0 s plan i ) :=
  end_stepL (n := 400) (evs := [.b true, .auto, .ld (.agg [.int .i64 se.kind, .int .i64 se.prize, .rsl (rowTrn se.turns) 0 se.turns.length]), .b false, .b false, .ld (.int .i64 e), .v (.bool (within e 0 0)), .b true]) (obs := [(decide ((i : Int) < (plan.length : Int))) = true, 0 ≤ (i : Int) ∧ (i : Int) < (s.stages.length : Int), ((rowStg s.stages).drop (0 + (Int.toNat (i : Int)) * 3)).take 3 = [.int .i64 se.kind, .int .i64 se.prize, .rsl (rowTrn se.turns) 0 se.turns.length], 3 ≤ 3, (se.kind == 2) = false, (se.kind == 3) = false, 0 ≤ (i : Int) ∧ (i : Int) < (plan.length : Int), ((rowI plan).drop (0 + (Int.toNat (i : Int)) * 1)).take 1 = [.int .i64 e], PureF Try.prog (.clos 62 [] []) [.int .i64 e, .int .i64 0, .int .i64 0] (.bool (within e 0 0)), (!(within e 0 0)) = true]) hE Try.func30 mixed (by kernel_rfl) ⟨o0, o2, o3, (by decide), o5, o6, o8, o9, o10, o11, trivial⟩ hr
theorem p30_0_5 (s : Stl) (plan : (List Int)) (i : Nat)  (se : Stg) (e : Int)  {E : Env} {rv : AV} (hE : PureE Try.prog 30 rv E) (o0 : (decide ((i : Int) < (plan.length : Int))) = true) (o2 : 0 ≤ (i : Int) ∧ (i : Int) < (s.stages.length : Int)) (o3 : ((rowStg s.stages).drop (0 + (Int.toNat (i : Int)) * 3)).take 3 = [.int .i64 se.kind, .int .i64 se.prize, .rsl (rowTrn se.turns) 0 se.turns.length]) (o5 : (se.kind == 2) = false) (o6 : (se.kind == 3) = false) (o8 : 0 ≤ (i : Int) ∧ (i : Int) < (plan.length : Int)) (o9 : ((rowI plan).drop (0 + (Int.toNat (i : Int)) * 1)).take 1 = [.int .i64 e]) (o10 : PureF Try.prog (.clos 62 [] []) [.int .i64 e, .int .i64 0, .int .i64 0] (.bool (within e 0 0))) (o11 : (!(within e 0 0)) = false) (o12 : InR .i64 ((i : Int) + 1))
    (hg : G Try.prog E (f30K0 Try.prog) ⟨[.junk, .rsl (rowI plan) 0 plan.length, .ptr 0 0 0, .junk, .junk, .junk, .int .i64 ((i : Int) + 1), .junk, .junk, .junk, .junk, .junk, .junk, .junk, .junk, .junk, .junk, .junk, .junk, .junk, .junk, .junk, .junk, .junk, .junk, .junk, .junk, .junk, .junk, .junk, .junk, .junk, .junk, .junk, .junk, .junk, .junk, .junk, .junk, .junk, .junk, .junk, .junk, .junk, .junk, .junk, .junk, .junk, .junk, .junk], [⟨true, 0, 1, true, [.rsl (rowStg s.stages) 0 s.stages.length, .rsl (rowI s.worth) 0 s.worth.length, .int .i64 s.price], false⟩]⟩) : G Try.prog E (f30K0 Try.prog) (f30S0 s plan i ) :=
  segC_step (n := 400) (ds := []) (cs := []) (live := [1, 2, 6]) (m := 1) (evs := [.b true, .auto, .ld (.agg [.int .i64 se.kind, .int .i64 se.prize, .rsl (rowTrn se.turns) 0 se.turns.length]), .b false, .b false, .ld (.int .i64 e), .v (.bool (within e 0 0)), .b false, .stop]) (obs := [(decide ((i : Int) < (plan.length : Int))) = true, 0 ≤ (i : Int) ∧ (i : Int) < (s.stages.length : Int), ((rowStg s.stages).drop (0 + (Int.toNat (i : Int)) * 3)).take 3 = [.int .i64 se.kind, .int .i64 se.prize, .rsl (rowTrn se.turns) 0 se.turns.length], 3 ≤ 3, (se.kind == 2) = false, (se.kind == 3) = false, 0 ≤ (i : Int) ∧ (i : Int) < (plan.length : Int), ((rowI plan).drop (0 + (Int.toNat (i : Int)) * 1)).take 1 = [.int .i64 e], PureF Try.prog (.clos 62 [] []) [.int .i64 e, .int .i64 0, .int .i64 0] (.bool (within e 0 0)), (!(within e 0 0)) = false, InR .i64 ((i : Int) + 1)]) hE.2.1 (hE.nogh _) mixed (by kernel_rfl) ⟨o0, o2, o3, (by decide), o5, o6, o8, o9, o10, o11, o12, trivial⟩ hg
theorem p30_0_6 (s : Stl) (plan : (List Int)) (i : Nat)   {E : Env} {res : AV} (hE : PureE Try.prog 30 res E) (o0 : (decide ((i : Int) < (plan.length : Int))) = false)
    (hr : AvLe (.int .i64 0) res) : G Try.prog E (f30K0 Try.prog) (f30S0 s plan i ) :=
  end_stepL (n := 400) (evs := [.b false]) (obs := [(decide ((i : Int) < (plan.length : Int))) = false]) hE Try.func30 mixed (by kernel_rfl) ⟨o0, trivial⟩ hr
theorem f30W0 (s : Stl) (plan : (List Int)) (i : Nat) {E : Env} {rv : Int} (hE : PureE Try.prog 30 (.int .i64 rv) E)
    (h : (((i : Int) < (plan.length : Int) → (∃ se : Stg, s.stages[i]? = some se ∧ ((se.kind = 2 → ((-9223372036854775808 ≤ (se.turns.length : Int) - 1 ∧ (se.turns.length : Int) - 1 ≤ 9223372036854775807) ∧ (∃ e : Int, plan[i]? = some e ∧ (((within e 0 ((se.turns.length : Int) - 1)) = false → rv = 1) ∧ ((within e 0 ((se.turns.length : Int) - 1)) = true → ((-9223372036854775808 ≤ (i : Int) + 1 ∧ (i : Int) + 1 ≤ 9223372036854775807) ∧ f30G0 E s plan (i + 1))))))) ∧ (¬ (se.kind = 2) → ((se.kind = 3 → ((-9223372036854775808 ≤ (se.turns.length : Int) - 1 ∧ (se.turns.length : Int) - 1 ≤ 9223372036854775807) ∧ (∃ e : Int, plan[i]? = some e ∧ (((within e 0 ((se.turns.length : Int) - 1)) = false → rv = 1) ∧ ((within e 0 ((se.turns.length : Int) - 1)) = true → ((-9223372036854775808 ≤ (i : Int) + 1 ∧ (i : Int) + 1 ≤ 9223372036854775807) ∧ f30G0 E s plan (i + 1))))))) ∧ (¬ (se.kind = 3) → (∃ e : Int, plan[i]? = some e ∧ (((within e 0 0) = false → rv = 1) ∧ ((within e 0 0) = true → ((-9223372036854775808 ≤ (i : Int) + 1 ∧ (i : Int) + 1 ≤ 9223372036854775807) ∧ f30G0 E s plan (i + 1))))))))))) ∧ (¬ ((i : Int) < (plan.length : Int)) → rv = 0))) : f30G0 E s plan i := by
  rcases Bool.eq_false_or_eq_true (decide ((i : Int) < (plan.length : Int))) with hc0 | hc0
  · have h := h.1 (of_decide_eq_true hc0)
    obtain ⟨se, h1, h⟩ := h
    rcases Bool.eq_false_or_eq_true (se.kind == 2) with hc1 | hc1
    · have h := h.1 (eq_of_beq hc1)
      obtain ⟨q7_2, h⟩ := h
      obtain ⟨e, h2, h⟩ := h
      rcases Bool.eq_false_or_eq_true (!(within e 0 ((se.turns.length : Int) - 1))) with hc2 | hc2
      · have h := h.1 (bnT hc2)
        exact p30_0_0 s plan i  se e hE hc0 (idx_ok h1) (row_part cStg (s := 3) (k := 0) (m := 3) (fun _ => rfl) (by decide) h1) hc1 q7_2 (idx_ok h2) (row_part cI (s := 1) (k := 0) (m := 1) (fun _ => rfl) (by decide) h2) (pureF_of Try.func62 (by kernel_rfl) f62b (withinR_ok e 0 ((se.turns.length : Int) - 1))) hc2 (AvLe.of_eq (by rw [h]; try rfl))
      · have h := h.2 (bnF hc2)
        obtain ⟨q13_3, h⟩ := h
        exact p30_0_1 s plan i  se e hE hc0 (idx_ok h1) (row_part cStg (s := 3) (k := 0) (m := 3) (fun _ => rfl) (by decide) h1) hc1 q7_2 (idx_ok h2) (row_part cI (s := 1) (k := 0) (m := 1) (fun _ => rfl) (by decide) h2) (pureF_of Try.func62 (by kernel_rfl) f62b (withinR_ok e 0 ((se.turns.length : Int) - 1))) hc2 q13_3 h
    · have h := h.2 (ne_of_beq_false hc1)
      rcases Bool.eq_false_or_eq_true (se.kind == 3) with hc2 | hc2
      · have h := h.1 (eq_of_beq hc2)
        obtain ⟨q7_3, h⟩ := h
        obtain ⟨e, h2, h⟩ := h
        rcases Bool.eq_false_or_eq_true (!(within e 0 ((se.turns.length : Int) - 1))) with hc3 | hc3
        · have h := h.1 (bnT hc3)
          exact p30_0_2 s plan i  se e hE hc0 (idx_ok h1) (row_part cStg (s := 3) (k := 0) (m := 3) (fun _ => rfl) (by decide) h1) hc1 hc2 q7_3 (idx_ok h2) (row_part cI (s := 1) (k := 0) (m := 1) (fun _ => rfl) (by decide) h2) (pureF_of Try.func62 (by kernel_rfl) f62b (withinR_ok e 0 ((se.turns.length : Int) - 1))) hc3 (AvLe.of_eq (by rw [h]; try rfl))
        · have h := h.2 (bnF hc3)
          obtain ⟨q13_4, h⟩ := h
          exact p30_0_3 s plan i  se e hE hc0 (idx_ok h1) (row_part cStg (s := 3) (k := 0) (m := 3) (fun _ => rfl) (by decide) h1) hc1 hc2 q7_3 (idx_ok h2) (row_part cI (s := 1) (k := 0) (m := 1) (fun _ => rfl) (by decide) h2) (pureF_of Try.func62 (by kernel_rfl) f62b (withinR_ok e 0 ((se.turns.length : Int) - 1))) hc3 q13_4 h
      · have h := h.2 (ne_of_beq_false hc2)
        obtain ⟨e, h2, h⟩ := h
        rcases Bool.eq_false_or_eq_true (!(within e 0 0)) with hc3 | hc3
        · have h := h.1 (bnT hc3)
          exact p30_0_4 s plan i  se e hE hc0 (idx_ok h1) (row_part cStg (s := 3) (k := 0) (m := 3) (fun _ => rfl) (by decide) h1) hc1 hc2 (idx_ok h2) (row_part cI (s := 1) (k := 0) (m := 1) (fun _ => rfl) (by decide) h2) (pureF_of Try.func62 (by kernel_rfl) f62b (withinR_ok e 0 0)) hc3 (AvLe.of_eq (by rw [h]; try rfl))
        · have h := h.2 (bnF hc3)
          obtain ⟨q12_4, h⟩ := h
          exact p30_0_5 s plan i  se e hE hc0 (idx_ok h1) (row_part cStg (s := 3) (k := 0) (m := 3) (fun _ => rfl) (by decide) h1) hc1 hc2 (idx_ok h2) (row_part cI (s := 1) (k := 0) (m := 1) (fun _ => rfl) (by decide) h2) (pureF_of Try.func62 (by kernel_rfl) f62b (withinR_ok e 0 0)) hc3 q12_4 h
  · have h := h.2 (of_decide_eq_false hc0)
    exact p30_0_6 s plan i   hE hc0 (AvLe.of_eq (by rw [h]; try rfl))
theorem f29b : Try.f29.body = some (bodyAt Try.prog 29) := by kernel_rfl
def f29K0 (P : Program) : List Item := kAt 400 [.code (bodyAt P 29)] [.b false, .stop]
def f29S0 (a : (List Int)) (b : (List Int)) (i : Nat)  : St := ⟨[.rsl (rowI a) 0 a.length, .rsl (rowI b) 0 b.length, .junk, .junk, .junk, .int .i64 (i : Int), .junk, .junk, .junk, .junk, .junk, .junk, .junk, .junk, .junk, .junk, .junk, .junk, .junk, .junk, .junk, .junk, .junk, .junk, .junk, .junk], []⟩
def f29G0 (E : Env) (a : (List Int)) (b : (List Int)) (i : Nat) : Prop := G Try.prog E (f29K0 Try.prog) (f29S0 a b i )
theorem p29_start_0 (a : (List Int)) (b : (List Int))   {E : Env} {res : AV} (hE : PureE Try.prog 29 res E) (o0 : ((a.length : Int) != (b.length : Int)) = true)
    (hr : AvLe (.bool false) res) : G Try.prog E [.code (bodyAt Try.prog 29)] ⟨[.rsl (rowI a) 0 a.length, .rsl (rowI b) 0 b.length] ++ unds (Try.f29.ntmps - 2), []⟩ :=
  end_stepL (n := 400) (evs := [.b true]) (obs := [((a.length : Int) != (b.length : Int)) = true]) hE Try.func29 mixed (by kernel_rfl) ⟨o0, trivial⟩ hr
theorem p29_start_1 (a : (List Int)) (b : (List Int))   {E : Env} {rv : AV} (hE : PureE Try.prog 29 rv E) (o0 : ((a.length : Int) != (b.length : Int)) = false)
    (hg : G Try.prog E (f29K0 Try.prog) ⟨[.rsl (rowI a) 0 a.length, .rsl (rowI b) 0 b.length, .junk, .junk, .junk, .int .i64 0, .junk, .junk, .junk, .junk, .junk, .junk, .junk, .junk, .junk, .junk, .junk, .junk, .junk, .junk, .junk, .junk, .junk, .junk, .junk, .junk], []⟩) : G Try.prog E [.code (bodyAt Try.prog 29)] ⟨[.rsl (rowI a) 0 a.length, .rsl (rowI b) 0 b.length] ++ unds (Try.f29.ntmps - 2), []⟩ :=
  segC_step (n := 400) (ds := []) (cs := []) (live := [0, 1, 5]) (m := 0) (evs := [.b false, .stop]) (obs := [((a.length : Int) != (b.length : Int)) = false]) hE.2.1 (hE.nogh _) mixed (by kernel_rfl) ⟨o0, trivial⟩ hg
theorem f29W (a : (List Int)) (b : (List Int)) {E : Env} {rv : Bool} (hE : PureE Try.prog 29 (.bool rv) E)
    (h : ((¬ ((a.length : Int) = (b.length : Int)) → rv = false) ∧ ((a.length : Int) = (b.length : Int) → f29G0 E a b 0))) : G Try.prog E [.code (bodyAt Try.prog 29)] ⟨[.rsl (rowI a) 0 a.length, .rsl (rowI b) 0 b.length] ++ unds (Try.f29.ntmps - 2), []⟩ := by
  rcases Bool.eq_false_or_eq_true ((a.length : Int) != (b.length : Int)) with hc0 | hc0
  · have h := h.1 (bneT hc0)
    exact p29_start_0 a b    hE hc0 (AvLe.of_eq (by rw [h]; try rfl))
  · have h := h.2 (bneF hc0)
    exact p29_start_1 a b    hE hc0 h
theorem p29_0_0 (a : (List Int)) (b : (List Int)) (i : Nat)  (e : Int) (e1 : Int)  {E : Env} {res : AV} (hE : PureE Try.prog 29 res E) (o0 : (decide ((i : Int) < (a.length : Int))) = true) (o2 : 0 ≤ (i : Int) ∧ (i : Int) < (a.length : Int)) (o3 : ((rowI a).drop (0 + (Int.toNat (i : Int)) * 1)).take 1 = [.int .i64 e]) (o5 : 0 ≤ (i : Int) ∧ (i : Int) < (b.length : Int)) (o6 : ((rowI b).drop (0 + (Int.toNat (i : Int)) * 1)).take 1 = [.int .i64 e1]) (o7 : (e != e1) = true)
    (hr : AvLe (.bool false) res) : G Try.prog E (f29K0 Try.prog) (f29S0 a b i ) :=
  end_stepL (n := 400) (evs := [.b true, .ld (.int .i64 e), .ld (.int .i64 e1), .b true]) (obs := [(decide ((i : Int) < (a.length : Int))) = true, 0 ≤ (i : Int) ∧ (i : Int) < (a.length : Int), ((rowI a).drop (0 + (Int.toNat (i : Int)) * 1)).take 1 = [.int .i64 e], 0 ≤ (i : Int) ∧ (i : Int) < (b.length : Int), ((rowI b).drop (0 + (Int.toNat (i : Int)) * 1)).take 1 = [.int .i64 e1], (e != e1) = true]) hE Try.func29 mixed (by kernel_rfl) ⟨o0, o2, o3, o5, o6, o7, trivial⟩ hr
theorem p29_0_1 (a : (List Int)) (b : (List Int)) (i : Nat)  (e : Int) (e1 : Int)  {E : Env} {rv : AV} (hE : PureE Try.prog 29 rv E) (o0 : (decide ((i : Int) < (a.length : Int))) = true) (o2 : 0 ≤ (i : Int) ∧ (i : Int) < (a.length : Int)) (o3 : ((rowI a).drop (0 + (Int.toNat (i : Int)) * 1)).take 1 = [.int .i64 e]) (o5 : 0 ≤ (i : Int) ∧ (i : Int) < (b.length : Int)) (o6 : ((rowI b).drop (0 + (Int.toNat (i : Int)) * 1)).take 1 = [.int .i64 e1]) (o7 : (e != e1) = false) (o8 : InR .i64 ((i : Int) + 1))
    (hg : G Try.prog E (f29K0 Try.prog) ⟨[.rsl (rowI a) 0 a.length, .rsl (rowI b) 0 b.length, .junk, .junk, .junk, .int .i64 ((i : Int) + 1), .junk, .junk, .junk, .junk, .junk, .junk, .junk, .junk, .junk, .junk, .junk, .junk, .junk, .junk, .junk, .junk, .junk, .junk, .junk, .junk], []⟩) : G Try.prog E (f29K0 Try.prog) (f29S0 a b i ) :=
  segC_step (n := 400) (ds := []) (cs := []) (live := [0, 1, 5]) (m := 0) (evs := [.b true, .ld (.int .i64 e), .ld (.int .i64 e1), .b false, .stop]) (obs := [(decide ((i : Int) < (a.length : Int))) = true, 0 ≤ (i : Int) ∧ (i : Int) < (a.length : Int), ((rowI a).drop (0 + (Int.toNat (i : Int)) * 1)).take 1 = [.int .i64 e], 0 ≤ (i : Int) ∧ (i : Int) < (b.length : Int), ((rowI b).drop (0 + (Int.toNat (i : Int)) * 1)).take 1 = [.int .i64 e1], (e != e1) = false, InR .i64 ((i : Int) + 1)]) hE.2.1 (hE.nogh _) mixed (by kernel_rfl) ⟨o0, o2, o3, o5, o6, o7, o8, trivial⟩ hg
theorem p29_0_2 (a : (List Int)) (b : (List Int)) (i : Nat)   {E : Env} {res : AV} (hE : PureE Try.prog 29 res E) (o0 : (decide ((i : Int) < (a.length : Int))) = false)
    (hr : AvLe (.bool true) res) : G Try.prog E (f29K0 Try.prog) (f29S0 a b i ) :=
  end_stepL (n := 400) (evs := [.b false]) (obs := [(decide ((i : Int) < (a.length : Int))) = false]) hE Try.func29 mixed (by kernel_rfl) ⟨o0, trivial⟩ hr
theorem f29W0 (a : (List Int)) (b : (List Int)) (i : Nat) {E : Env} {rv : Bool} (hE : PureE Try.prog 29 (.bool rv) E)
    (h : (((i : Int) < (a.length : Int) → (∃ e : Int, a[i]? = some e ∧ (∃ e1 : Int, b[i]? = some e1 ∧ ((¬ (e = e1) → rv = false) ∧ (e = e1 → ((-9223372036854775808 ≤ (i : Int) + 1 ∧ (i : Int) + 1 ≤ 9223372036854775807) ∧ f29G0 E a b (i + 1))))))) ∧ (¬ ((i : Int) < (a.length : Int)) → rv = true))) : f29G0 E a b i := by
  rcases Bool.eq_false_or_eq_true (decide ((i : Int) < (a.length : Int))) with hc0 | hc0
  · have h := h.1 (of_decide_eq_true hc0)
    obtain ⟨e, h1, h⟩ := h
    obtain ⟨e1, h2, h⟩ := h
    rcases Bool.eq_false_or_eq_true (e != e1) with hc1 | hc1
    · have h := h.1 (bneT hc1)
      exact p29_0_0 a b i  e e1 hE hc0 (idx_ok h1) (row_part cI (s := 1) (k := 0) (m := 1) (fun _ => rfl) (by decide) h1) (idx_ok h2) (row_part cI (s := 1) (k := 0) (m := 1) (fun _ => rfl) (by decide) h2) hc1 (AvLe.of_eq (by rw [h]; try rfl))
    · have h := h.2 (bneF hc1)
      obtain ⟨q8_2, h⟩ := h
      exact p29_0_1 a b i  e e1 hE hc0 (idx_ok h1) (row_part cI (s := 1) (k := 0) (m := 1) (fun _ => rfl) (by decide) h1) (idx_ok h2) (row_part cI (s := 1) (k := 0) (m := 1) (fun _ => rfl) (by decide) h2) hc1 q8_2 h
  · have h := h.2 (of_decide_eq_false hc0)
    exact p29_0_2 a b i   hE hc0 (AvLe.of_eq (by rw [h]; try rfl))

theorem planE_ok (s : Stl) (plan : List Int) (h : (s.stages.length ≤ 9223372036854775807 ∧ s.worth.length ≤ 9223372036854775807) ∧ plan.length ≤ 9223372036854775807) : Pure Try.prog 30 [avStl s, .rsl (rowI plan) 0 plan.length] (.int .i64 (planE s plan)) := pure_of Try.func30 f30b fun E hE => by
  refine f30W s plan (rv := planE s plan) hE ⟨h.1, fun h0 => ?_, fun h0 => ⟨fun h1 => ?_, fun h1 => ?_⟩⟩
  · rw [planE, if_neg h0, checkK_no h0]
  · rw [planE, if_pos h0, if_neg]
    simp only [planOk, Bool.and_eq_true, decide_eq_true_eq]
    intro hh; omega
  have hl : plan.length = s.stages.length := by omega
  have ⟨hm, es⟩ := mok_G (isSome_of h0)
  have hform := (stPre_of hm.st).2.2.2.2
  rw [es] at hform
  have key : ∀ (d i : Nat), i + d = plan.length → (∀ j, j < i → within (plan.getD j 0) 0 (planMost (s.stages.getD j ⟨0, 0, []⟩)) = true) → f30G0 E s plan i := by
    intro d
    induction d with
    | zero =>
      intro i hd hall
      refine f30W0 s plan i (rv := planE s plan) hE ⟨fun h => by omega, fun _ => ?_⟩
      rw [planE, if_pos h0, if_pos]
      simp only [planOk, hl, decide_true, Bool.true_and]
      exact List.all_eq_true.2 fun j hj => hall j (by have := List.mem_range.1 hj; omega)
    | succ d ih =>
      intro i hd hall
      have hi : s.stages[i]? = some s.stages[i] := List.getElem?_eq_getElem (by omega)
      have hx : s.stages.getD i ⟨0, 0, []⟩ = s.stages[i] := by simp [List.getD, hi]
      have hv : plan[i]? = some (plan.getD i 0) := getD_some (by omega)
      have ht : s.stages[i].turns.length ≤ 8 := by
        rcases form_of hi (hform i (by omega)) with ⟨-, h, -⟩ | ⟨-, -, h, -⟩
        · rw [h]; simp
        · exact h.2
      have nx := ih (i + 1) (by omega)
      have no : within (plan.getD i 0) 0 (planMost (s.stages.getD i ⟨0, 0, []⟩)) = false → planE s plan = 1 := fun h => by
        rw [planE, if_pos h0, if_neg]
        simp only [planOk, hl, decide_true, Bool.true_and, Bool.not_eq_true]
        exact range_all (by omega) h
      have yes : within (plan.getD i 0) 0 (planMost (s.stages.getD i ⟨0, 0, []⟩)) = true → f30G0 E s plan (i + 1) := fun h => nx fun j hj => by
        rcases Nat.lt_or_ge j i with h1 | h1
        · exact hall j h1
        · rw [show j = i by omega]; exact h
      rw [hx] at no yes
      generalize s.stages[i] = x at hi no yes ht
      refine f30W0 s plan i (rv := planE s plan) hE ⟨fun _ => ⟨x, hi, fun h2 => ⟨by omega, _, hv, fun h => no ?_, fun h => ⟨by omega, yes ?_⟩⟩, fun h2 => ⟨fun h3 => ⟨by omega, _, hv, fun h => no ?_, fun h => ⟨by omega, yes ?_⟩⟩, fun h3 => ⟨_, hv, fun h => no ?_, fun h => ⟨by omega, yes ?_⟩⟩⟩⟩, fun h => by omega⟩
      · rw [planMost, if_pos (.inl h2)]; exact h
      · rw [planMost, if_pos (.inl h2)]; exact h
      · rw [planMost, if_pos (.inr h3)]; exact h
      · rw [planMost, if_pos (.inr h3)]; exact h
      · rw [planMost, if_neg (by omega)]; exact h
      · rw [planMost, if_neg (by omega)]; exact h
  exact key plan.length 0 (by omega) (fun j hj => by omega)
theorem sameInts_ok (a b : List Int) (h : a.length ≤ 9223372036854775807 ∧ a = b) : Pure Try.prog 29 [.rsl (rowI a) 0 a.length, .rsl (rowI b) 0 b.length] (.bool true) := pure_of Try.func29 f29b fun E hE => by
  obtain ⟨h, rfl⟩ := h
  refine f29W a a (rv := true) hE ⟨fun h => absurd rfl h, fun _ => ?_⟩
  have key : ∀ (d i : Nat), i + d = a.length → f29G0 E a a i := by
    intro d
    induction d with
    | zero => intro i hd; exact f29W0 a a i (rv := true) hE ⟨fun h => by omega, fun _ => rfl⟩
    | succ d ih =>
      intro i hd
      have hi : a[i]? = some a[i] := List.getElem?_eq_getElem (by omega)
      exact f29W0 a a i (rv := true) hE ⟨fun _ => ⟨_, hi, _, hi, fun h => absurd rfl h, fun _ => ⟨by omega, ih (i + 1) (by omega)⟩⟩, fun h => by omega⟩
  exact key a.length 0 (by omega)

end Go.Proofs.Ytfgmlaeikcfpbaa

namespace Go.Proofs.Ytfgmlaeikcfpbaa
open Go Ax
open Go.Proofs

structure Rul where
  tickets : Int
  wins : Int
  n : Int
  need : Int
  hit : Int
  miss : Int
structure Sup where
  kind : Int
  stock : Int
  plays : Int
structure Hnd where
  plan : List Int
  draws : List Int
/-! ### Fractions -/
/-! ### Planned -/
theorem planE_eq {s : Stl} {plan : List Int} (h : (machI s).isSome = true) : planE s plan = if planOk (machG s).s plan = true then 0 else 1 := by
  rw [planE, if_pos (isSome_iff.1 h), (mok_G h).2]
end Go.Proofs.Ytfgmlaeikcfpbaa

namespace Go.Proofs.Ytfgmlaeikcfpbaa
open Go Ax
open Go.Proofs

structure Fr2 where
  lo : Fr
  hi : Fr
end Go.Proofs.Ytfgmlaeikcfpbaa

namespace Ax
open Go

theorem sub_le {row : List AV} {off len : Nat} : AvLe (.rsl row off len) (.rsl (row.drop off) 0 len) := fun Z w c h => by
  cases h with
  | @rsl _ _ _ _ cap blk o cv hz hl hc hk hr =>
    have e : (⟨blk, o + off, none⟩ : Addr) = ⟨blk, o + off + 0, none⟩ := rfl
    rw [e]
    refine .rsl (o := o + off) (fun i => cv (off + i)) hz hl (fun i hi => ?_) (fun i c hi => ?_) (fun i c hi => ?_)
    · rw [List.length_drop] at hi
      have := hc (off + i) (by omega)
      rwa [← Nat.add_assoc] at this
    · rw [List.getElem?_drop] at hi; exact hk _ c hi
    · rw [List.getElem?_drop] at hi; exact hr _ c hi
  | rsl0 => exact .rsl0

theorem flat_drop {α : Type} (c : α → List AV) {s : Nat} (hs : ∀ x, (c x).length = s) : ∀ {l : List α} {k : Nat}, (l.flatMap c).drop (k * s) = (l.drop k).flatMap c
  | [], k => by simp
  | x :: l, 0 => by simp
  | x :: l, k + 1 => by
    have := flat_drop c hs (l := l) (k := k)
    rw [List.flatMap_cons, List.drop_succ_cons, ← this, List.drop_append, hs x, List.drop_eq_nil_of_le (by rw [hs x, Nat.add_mul]; omega), List.nil_append]
    congr 1
    rw [Nat.add_mul]; omega

theorem rsl_drop {α : Type} (c : α → List AV) {s : Nat} (hs : ∀ x, (c x).length = s) {l : List α} (k : Nat) {off len : Nat} (ho : off = k * s) (hl : len = l.length - k) :
    AvLe (.rsl (l.flatMap c) off len) (.rsl ((l.drop k).flatMap c) 0 (l.drop k).length) := by
  rw [← flat_drop c hs, ho, hl, List.length_drop]; exact sub_le

section
variable {P : Program} {E : Env} {K : List Item} {st : St}

theorem weakT_step {t : Nat} {v v' : AV} (ht : st.tmps[t]? = some v) (hn : noRef v = true) (hn' : noRef v' = true) (hle : AvLe v v') (hg : G P E K ⟨st.tmps.set t v', st.blks⟩) : G P E K st := by
  intro C Z a w hr
  have hlt : t < st.tmps.length := (List.getElem?_eq_some_iff.1 ht).1
  refine hg C Z a w ⟨⟨by rw [List.length_set]; exact hr.tmp.1, fun i c x hi hx => ?_⟩, hr.mem, hr.marks, hr.gh, hr.base⟩
  by_cases e : t = i
  · subst e
    rw [List.getElem?_set_self hlt] at hi
    cases hi
    exact ((hle _ _ _ ((hr.tmp.2 t v x ht hx).ctx hn))).ctx hn'
  · rw [List.getElem?_set_ne e] at hi
    exact hr.tmp.2 i c x hi hx
end
end Ax

namespace Go.Proofs.Ytfgmlaeikcfpbaa
open Go Ax
open Go.Proofs

def drawT : List Trn → Int → Trn
  | [], _ => ⟨0, 0⟩
  | t :: ts, d => if d ≥ t.w then drawT ts (d - t.w) else t
def playF (s : Stl) (plan : List Int) : Nat → Int → List Int → List Int → List Int × Int × Int
  | 0, _, _, _ => ([], 0, 0)
  | n + 1, at_, v, ds =>
    if (s.stages.getD (Int.toNat at_) ⟨0, 0, []⟩).kind = 4 then (v ++ [at_], (s.stages.getD (Int.toNat at_) ⟨0, 0, []⟩).prize, 0)
    else if (s.stages.getD (Int.toNat at_) ⟨0, 0, []⟩).kind = 1 then
      (match ds with
      | [] => ([], 0, 1)
      | d :: ds => if within d 0 (totI (s.stages.getD (Int.toNat at_) ⟨0, 0, []⟩) - 1) = true then playF s plan n (drawT (s.stages.getD (Int.toNat at_) ⟨0, 0, []⟩).turns d).to (v ++ [at_]) ds else ([], 0, 1))
    else playF s plan n ((s.stages.getD (Int.toNat at_) ⟨0, 0, []⟩).turns.getD (Int.toNat (planI plan at_)) ⟨0, 0⟩).to (v ++ [at_]) ds
def playK (s : Stl) (plan draws : List Int) : List Int × Int × Int := if planE s plan = 0 then playF s plan s.stages.length 0 [] draws else ([], 0, planE s plan)
theorem drawT_mem : ∀ {ts : List Trn} {d : Int}, 0 ≤ d → d < (ts.map (·.w)).sum → drawT ts d ∈ ts
  | [], d, h0, h1 => by simp at h1; omega
  | t :: ts, d, h0, h1 => by
    simp only [drawT]
    simp only [List.map_cons, List.sum_cons] at h1
    split
    · exact List.mem_cons_of_mem _ (drawT_mem (by omega) (by omega))
    · simp
theorem playF_len {s : Stl} {plan : List Int} : ∀ {n : Nat} {at_ : Int} {v ds : List Int}, (playF s plan n at_ v ds).1.length ≤ v.length + n
  | 0, at_, v, ds => by simp [playF]
  | n + 1, at_, v, ds => by
    unfold playF
    split
    · simp
    · split
      · cases ds with
        | nil => simp
        | cons d ds =>
          simp only
          split
          · have := playF_len (s := s) (plan := plan) (n := n) (at_ := (drawT (s.stages.getD (Int.toNat at_) ⟨0, 0, []⟩).turns d).to) (v := v ++ [at_]) (ds := ds)
            simp only [List.length_append, List.length_cons, List.length_nil] at this; omega
          · simp
      · have := playF_len (s := s) (plan := plan) (n := n) (at_ := ((s.stages.getD (Int.toNat at_) ⟨0, 0, []⟩).turns.getD (Int.toNat (planI plan at_)) ⟨0, 0⟩).to) (v := v ++ [at_]) (ds := ds)
        simp only [List.length_append, List.length_cons, List.length_nil] at this; omega
theorem f45b : Try.f45.body = some (bodyAt Try.prog 45) := by kernel_rfl
def f45K0 (P : Program) : List Item := kAt 400 [.code (bodyAt P 45)] [.b false, .stop]
def f45S0 (s : Stl) (plan : (List Int)) (draws : (List Int)) (at_ : Int) (v2 : List Int) (draws1 : (List Int)) (g2 : Nat) : St := ⟨[.junk, .junk, .rsl (rowI draws1) 0 draws1.length, .junk, .rptr [.rsl (rowI plan) 0 plan.length] 0, .junk, .sl 2 g2 0 v2.length 1, .junk, .junk, .rptr [.rsl (rowStg (((machG s).s).stages)) 0 ((((machG s).s).stages).length), .rsl (rowI (((machG s).s).worth)) 0 ((((machG s).s).worth).length), .int .i64 (((machG s).s).price), .rsl (rowI ((machG s).meas)) 0 (((machG s).meas).length), .rsl (rowI ((machG s).mult)) 0 (((machG s).mult).length)] 0, .int .i64 at_, .junk, .junk, .junk, .junk, .junk, .junk, .junk, .junk, .junk, .junk, .junk, .junk, .junk, .junk, .junk, .junk, .junk, .junk, .junk, .junk, .junk, .junk, .junk, .junk, .junk, .junk, .junk, .junk, .junk, .junk, .junk, .junk, .junk, .junk, .junk, .junk, .junk, .junk, .junk, .junk, .junk, .junk, .junk, .junk, .junk, .junk, .junk, .junk, .junk, .junk, .junk, .junk, .junk, .junk, .junk, .junk, .junk, .junk, .junk, .junk, .junk, .junk, .junk, .junk, .junk, .junk, .junk, .junk, .junk, .junk, .junk, .junk, .junk, .junk, .junk, .junk, .junk, .junk, .junk, .junk, .junk, .junk, .junk, .junk, .junk, .junk, .junk, .junk, .junk, .junk, .junk, .junk, .junk, .junk, .junk, .junk], [⟨true, 0, 1, true, [.rsl (rowStg s.stages) 0 s.stages.length, .rsl (rowI s.worth) 0 s.worth.length, .int .i64 s.price], false⟩, ⟨false, 1, 1, true, [], false⟩, ⟨true, g2, 1, true, (rowI v2), true⟩]⟩
def f45G0 (E : Env) (s : Stl) (plan : (List Int)) (draws : (List Int)) (at_ : Int) (v2 : List Int) (draws1 : (List Int)) : Prop := ∀ g2 : Nat, G Try.prog E (f45K0 Try.prog) (f45S0 s plan draws at_ v2 draws1 g2)
def f45K1 (P : Program) : List Item := kAt 400 [.code (bodyAt P 45)] [.b false, .b true, .b true, .b false, .stop]
def f45S1 (s : Stl) (plan : (List Int)) (draws : (List Int)) (turn : Int) (left : Int) (v4_0 : Int) (v4_1 : Int) (v4_2 : (List Trn)) (v3_0 : Int) (v2 : List Int) (draws1 : (List Int)) (g2 : Nat) : St := ⟨[.junk, .junk, .rsl (rowI draws1) 0 draws1.length, .junk, .rptr [.rsl (rowI plan) 0 plan.length] 0, .junk, .sl 2 g2 0 v2.length 1, .junk, .junk, .rptr [.rsl (rowStg (((machG s).s).stages)) 0 ((((machG s).s).stages).length), .rsl (rowI (((machG s).s).worth)) 0 ((((machG s).s).worth).length), .int .i64 (((machG s).s).price), .rsl (rowI ((machG s).meas)) 0 (((machG s).meas).length), .rsl (rowI ((machG s).mult)) 0 (((machG s).mult).length)] 0, .junk, .ptr 4 0 0, .int .i64 turn, .int .i64 left, .junk, .junk, .junk, .junk, .junk, .junk, .junk, .junk, .junk, .junk, .junk, .junk, .junk, .junk, .junk, .junk, .junk, .junk, .junk, .junk, .junk, .junk, .junk, .junk, .junk, .junk, .junk, .junk, .junk, .junk, .junk, .junk, .junk, .junk, .junk, .junk, .junk, .junk, .junk, .junk, .junk, .junk, .junk, .junk, .junk, .junk, .junk, .junk, .junk, .junk, .junk, .junk, .junk, .junk, .junk, .junk, .junk, .junk, .junk, .junk, .junk, .junk, .junk, .junk, .junk, .junk, .junk, .junk, .junk, .junk, .junk, .junk, .junk, .junk, .junk, .junk, .junk, .junk, .junk, .junk, .junk, .junk, .junk, .junk, .junk, .junk, .junk, .junk, .junk, .junk, .junk, .junk, .junk], [⟨true, 0, 1, true, [.rsl (rowStg s.stages) 0 s.stages.length, .rsl (rowI s.worth) 0 s.worth.length, .int .i64 s.price], false⟩, ⟨false, 1, 1, true, [], false⟩, ⟨true, g2, 1, true, (rowI v2), true⟩, ⟨true, 0, 1, true, [.int .i64 v3_0], true⟩, ⟨true, 0, 1, true, [.int .i64 v4_0, .int .i64 v4_1, .rsl (rowTrn v4_2) 0 v4_2.length], false⟩]⟩
def f45G1 (E : Env) (s : Stl) (plan : (List Int)) (draws : (List Int)) (turn : Int) (left : Int) (v4_0 : Int) (v4_1 : Int) (v4_2 : (List Trn)) (v3_0 : Int) (v2 : List Int) (draws1 : (List Int)) : Prop := ∀ g2 : Nat, G Try.prog E (f45K1 Try.prog) (f45S1 s plan draws turn left v4_0 v4_1 v4_2 v3_0 v2 draws1 g2)
theorem p45_start_0 (s : Stl) (plan : (List Int)) (draws : (List Int))   {E : Env} {rv : AV} (hE : PureE Try.prog 45 rv E) (o2 : PureF Try.prog (.clos 71 [] []) [.agg [.rsl (rowStg s.stages) 0 s.stages.length, .rsl (rowI s.worth) 0 s.worth.length, .int .i64 s.price], .clos 98 [] [.rptr [.rsl (rowI plan) 0 plan.length] 0]] (.tup [.rptr [.rsl (rowStg (((machG s).s).stages)) 0 ((((machG s).s).stages).length), .rsl (rowI (((machG s).s).worth)) 0 ((((machG s).s).worth).length), .int .i64 (((machG s).s).price), .rsl (rowI ((machG s).meas)) 0 (((machG s).meas).length), .rsl (rowI ((machG s).mult)) 0 (((machG s).mult).length)] 0, .int .i64 0]))
    (hg : G Try.prog E (f45K0 Try.prog) ⟨[.junk, .junk, .rsl (rowI draws) 0 draws.length, .junk, .rptr [.rsl (rowI plan) 0 plan.length] 0, .junk, .sl 2 0 0 0 1, .junk, .junk, .rptr [.rsl (rowStg (((machG s).s).stages)) 0 ((((machG s).s).stages).length), .rsl (rowI (((machG s).s).worth)) 0 ((((machG s).s).worth).length), .int .i64 (((machG s).s).price), .rsl (rowI ((machG s).meas)) 0 (((machG s).meas).length), .rsl (rowI ((machG s).mult)) 0 (((machG s).mult).length)] 0, .int .i64 0, .junk, .junk, .junk, .junk, .junk, .junk, .junk, .junk, .junk, .junk, .junk, .junk, .junk, .junk, .junk, .junk, .junk, .junk, .junk, .junk, .junk, .junk, .junk, .junk, .junk, .junk, .junk, .junk, .junk, .junk, .junk, .junk, .junk, .junk, .junk, .junk, .junk, .junk, .junk, .junk, .junk, .junk, .junk, .junk, .junk, .junk, .junk, .junk, .junk, .junk, .junk, .junk, .junk, .junk, .junk, .junk, .junk, .junk, .junk, .junk, .junk, .junk, .junk, .junk, .junk, .junk, .junk, .junk, .junk, .junk, .junk, .junk, .junk, .junk, .junk, .junk, .junk, .junk, .junk, .junk, .junk, .junk, .junk, .junk, .junk, .junk, .junk, .junk, .junk, .junk, .junk, .junk, .junk, .junk, .junk, .junk], [⟨true, 0, 1, true, [.rsl (rowStg s.stages) 0 s.stages.length, .rsl (rowI s.worth) 0 s.worth.length, .int .i64 s.price], false⟩, ⟨false, 1, 1, true, [], false⟩, ⟨true, 0, 1, true, [], true⟩]⟩) : G Try.prog E [.code (bodyAt Try.prog 45)] ⟨[.agg [.rsl (rowStg s.stages) 0 s.stages.length, .rsl (rowI s.worth) 0 s.worth.length, .int .i64 s.price], .rsl (rowI plan) 0 plan.length, .rsl (rowI draws) 0 draws.length] ++ unds (Try.f45.ntmps - 3), []⟩ :=
  segC_step (n := 400) (ds := [(6, 1)]) (cs := []) (live := [2, 4, 6, 9, 10]) (m := 3) (evs := [.wt 4, .v (.tup [.rptr [.rsl (rowStg (((machG s).s).stages)) 0 ((((machG s).s).stages).length), .rsl (rowI (((machG s).s).worth)) 0 ((((machG s).s).worth).length), .int .i64 (((machG s).s).price), .rsl (rowI ((machG s).meas)) 0 (((machG s).meas).length), .rsl (rowI ((machG s).mult)) 0 (((machG s).mult).length)] 0, .int .i64 0]), .b false, .stop]) (obs := [PureF Try.prog (.clos 71 [] []) [.agg [.rsl (rowStg s.stages) 0 s.stages.length, .rsl (rowI s.worth) 0 s.worth.length, .int .i64 s.price], .clos 98 [] [.rptr [.rsl (rowI plan) 0 plan.length] 0]] (.tup [.rptr [.rsl (rowStg (((machG s).s).stages)) 0 ((((machG s).s).stages).length), .rsl (rowI (((machG s).s).worth)) 0 ((((machG s).s).worth).length), .int .i64 (((machG s).s).price), .rsl (rowI ((machG s).meas)) 0 (((machG s).meas).length), .rsl (rowI ((machG s).mult)) 0 (((machG s).mult).length)] 0, .int .i64 0]), false = false]) hE.2.1 (hE.nogh _) mixed (by kernel_rfl) ⟨o2, (rfl), trivial⟩ hg
theorem p45_start_1 (s : Stl) (plan : (List Int)) (draws : (List Int))   {E : Env} {res : AV} (hE : PureE Try.prog 45 res E) (o2 : PureF Try.prog (.clos 71 [] []) [.agg [.rsl (rowStg s.stages) 0 s.stages.length, .rsl (rowI s.worth) 0 s.worth.length, .int .i64 s.price], .clos 98 [] [.rptr [.rsl (rowI plan) 0 plan.length] 0]] (.tup [.nilPtr, .int .i64 1]))
    (hr : AvLe (.tup [.nilSl, .int .i64 0, .int .i64 1]) res) : G Try.prog E [.code (bodyAt Try.prog 45)] ⟨[.agg [.rsl (rowStg s.stages) 0 s.stages.length, .rsl (rowI s.worth) 0 s.worth.length, .int .i64 s.price], .rsl (rowI plan) 0 plan.length, .rsl (rowI draws) 0 draws.length] ++ unds (Try.f45.ntmps - 3), []⟩ :=
  end_stepL (n := 400) (evs := [.wt 4, .v (.tup [.nilPtr, .int .i64 1]), .b true]) (obs := [PureF Try.prog (.clos 71 [] []) [.agg [.rsl (rowStg s.stages) 0 s.stages.length, .rsl (rowI s.worth) 0 s.worth.length, .int .i64 s.price], .clos 98 [] [.rptr [.rsl (rowI plan) 0 plan.length] 0]] (.tup [.nilPtr, .int .i64 1]), true = true]) hE Try.func45 mixed (by kernel_rfl) ⟨o2, (rfl), trivial⟩ hr
theorem p45_start_2 (s : Stl) (plan : (List Int)) (draws : (List Int))   {E : Env} {res : AV} (hE : PureE Try.prog 45 res E) (o1 : PureF Try.prog (.clos 71 [] []) [.agg [.rsl (rowStg s.stages) 0 s.stages.length, .rsl (rowI s.worth) 0 s.worth.length, .int .i64 s.price], .clos 98 [] [.rptr [.rsl (rowI plan) 0 plan.length] 0]] (.tup [.nilPtr, .int .i64 60]))
    (hr : AvLe (.tup [.nilSl, .int .i64 0, .int .i64 60]) res) : G Try.prog E [.code (bodyAt Try.prog 45)] ⟨[.agg [.rsl (rowStg s.stages) 0 s.stages.length, .rsl (rowI s.worth) 0 s.worth.length, .int .i64 s.price], .rsl (rowI plan) 0 plan.length, .rsl (rowI draws) 0 draws.length] ++ unds (Try.f45.ntmps - 3), []⟩ :=
  end_stepL (n := 400) (evs := [.wt 4, .v (.tup [.nilPtr, .int .i64 60]), .b true]) (obs := [PureF Try.prog (.clos 71 [] []) [.agg [.rsl (rowStg s.stages) 0 s.stages.length, .rsl (rowI s.worth) 0 s.worth.length, .int .i64 s.price], .clos 98 [] [.rptr [.rsl (rowI plan) 0 plan.length] 0]] (.tup [.nilPtr, .int .i64 60]), true = true]) hE Try.func45 mixed (by kernel_rfl) ⟨o1, (rfl), trivial⟩ hr
theorem f45W (s : Stl) (plan : (List Int)) (draws : (List Int)) {E : Env} {rv : ((List Int) × Int × Int)} (hE : PureE Try.prog 45 (.tup [.rsl (rowI rv.1) 0 rv.1.length, .int .i64 rv.2.1, .int .i64 rv.2.2]) E)
    (h : ((((machI s).isSome) = true → (((planOk (machG s).s plan) = true → ((s.stages.length ≤ 9223372036854775807 ∧ s.worth.length ≤ 9223372036854775807) ∧ f45G0 E s plan draws 0 ([]) draws)) ∧ ((planOk (machG s).s plan) = false → ((s.stages.length ≤ 9223372036854775807 ∧ s.worth.length ≤ 9223372036854775807) ∧ rv = (([] : List Int), 0, 1))))) ∧ (((machI s).isSome) = false → ((s.stages.length ≤ 9223372036854775807 ∧ s.worth.length ≤ 9223372036854775807) ∧ rv = (([] : List Int), 0, 60))))) : G Try.prog E [.code (bodyAt Try.prog 45)] ⟨[.agg [.rsl (rowStg s.stages) 0 s.stages.length, .rsl (rowI s.worth) 0 s.worth.length, .int .i64 s.price], .rsl (rowI plan) 0 plan.length, .rsl (rowI draws) 0 draws.length] ++ unds (Try.f45.ntmps - 3), []⟩ := by
  rcases Bool.eq_false_or_eq_true ((machI s).isSome) with hc0 | hc0
  · have h := h.1 hc0
    rcases Bool.eq_false_or_eq_true (planOk (machG s).s plan) with hc1 | hc1
    · have h := h.1 hc1
      obtain ⟨h1, h⟩ := h
      exact p45_start_0 s plan draws    hE (pureF_of Try.func71 (by kernel_rfl) f71x98b (begR_T hc0 hc1 ▸ beg98_ok s plan h1)) (h 0)
    · have h := h.2 hc1
      obtain ⟨h1, h⟩ := h
      exact p45_start_1 s plan draws    hE (pureF_of Try.func71 (by kernel_rfl) f71x98b (begR_F1 hc0 hc1 ▸ beg98_ok s plan h1)) (by rw [h]; exact (tup_le ⟨nil_le, ⟨AvLe.of_eq rfl, ⟨AvLe.of_eq rfl, trivial⟩⟩⟩))
  · have h := h.2 hc0
    obtain ⟨h1, h⟩ := h
    exact p45_start_2 s plan draws    hE (pureF_of Try.func71 (by kernel_rfl) f71x98b (begR_F0 hc0 ▸ beg98_ok s plan h1)) (by rw [h]; exact (tup_le ⟨nil_le, ⟨AvLe.of_eq rfl, ⟨AvLe.of_eq rfl, trivial⟩⟩⟩))
theorem p45_0_0 (s : Stl) (plan : (List Int)) (draws : (List Int)) (at_ : Int) (v2 : List Int) (draws1 : (List Int)) (g2 : Nat) (se : Stg) (e : Int)  {E : Env} {res : AV} (hE : PureE Try.prog 45 res E) (o1 : 0 ≤ at_ ∧ at_ < (((((machG s).s).stages).length : Nat) : Int)) (o2 : ((rowStg (((machG s).s).stages)).drop ((0 + (Int.toNat at_) * 3) + 0)).take 1 = [.int .i64 se.kind]) (o3 : (se.kind != 4) = true) (o5 : (0 + (v2.length * 1)) = (rowI v2).length) (o6 : (v2.length + 1) ≤ 2147483648) (o8 : 0 ≤ at_ ∧ at_ < (((((machG s).s).stages).length : Nat) : Int)) (o9 : ((rowStg (((machG s).s).stages)).drop (0 + (Int.toNat at_) * 3)).take 3 = [.int .i64 se.kind, .int .i64 se.prize, .rsl (rowTrn se.turns) 0 se.turns.length]) (o12 : 0 ≤ at_ ∧ at_ < (plan.length : Int)) (o13 : ((rowI plan).drop (0 + (Int.toNat at_) * 1)).take 1 = [.int .i64 e]) (o14 : (se.kind == 1) = true) (o15 : ((draws1.length : Int) == 0) = true)
    (hr : AvLe (.tup [.nilSl, .int .i64 0, .int .i64 1]) res) : G Try.prog E (f45K0 Try.prog) (f45S0 s plan draws at_ v2 draws1 g2) :=
  end_stepL (n := 400) (evs := [.auto, .ld (.int .i64 se.kind), .b true, .auto, .ld (.agg [.int .i64 se.kind, .int .i64 se.prize, .rsl (rowTrn se.turns) 0 se.turns.length]), .auto, .ld (.int .i64 e), .b true, .b true, .b true]) (obs := [0 ≤ at_ ∧ at_ < (((((machG s).s).stages).length : Nat) : Int), ((rowStg (((machG s).s).stages)).drop ((0 + (Int.toNat at_) * 3) + 0)).take 1 = [.int .i64 se.kind], (se.kind != 4) = true, g2 = g2, (0 + (v2.length * 1)) = (rowI v2).length, (v2.length + 1) ≤ 2147483648, 0 = 0, 0 ≤ at_ ∧ at_ < (((((machG s).s).stages).length : Nat) : Int), ((rowStg (((machG s).s).stages)).drop (0 + (Int.toNat at_) * 3)).take 3 = [.int .i64 se.kind, .int .i64 se.prize, .rsl (rowTrn se.turns) 0 se.turns.length], 3 ≤ 3, 0 ≤ at_ ∧ at_ < (plan.length : Int), ((rowI plan).drop (0 + (Int.toNat at_) * 1)).take 1 = [.int .i64 e], (se.kind == 1) = true, ((draws1.length : Int) == 0) = true, true = true]) hE Try.func45 mixed (by kernel_rfl) ⟨o1, o2, o3, (rfl), o5, o6, (rfl), o8, o9, (by decide), o12, o13, o14, o15, (rfl), trivial⟩ hr
theorem p45_0_1 (s : Stl) (plan : (List Int)) (draws : (List Int)) (at_ : Int) (v2 : List Int) (draws1 : (List Int)) (g2 : Nat) (se : Stg) (e : Int) (e1 : Int)  {E : Env} {res : AV} (hE : PureE Try.prog 45 res E) (o1 : 0 ≤ at_ ∧ at_ < (((((machG s).s).stages).length : Nat) : Int)) (o2 : ((rowStg (((machG s).s).stages)).drop ((0 + (Int.toNat at_) * 3) + 0)).take 1 = [.int .i64 se.kind]) (o3 : (se.kind != 4) = true) (o5 : (0 + (v2.length * 1)) = (rowI v2).length) (o6 : (v2.length + 1) ≤ 2147483648) (o8 : 0 ≤ at_ ∧ at_ < (((((machG s).s).stages).length : Nat) : Int)) (o9 : ((rowStg (((machG s).s).stages)).drop (0 + (Int.toNat at_) * 3)).take 3 = [.int .i64 se.kind, .int .i64 se.prize, .rsl (rowTrn se.turns) 0 se.turns.length]) (o12 : 0 ≤ at_ ∧ at_ < (plan.length : Int)) (o13 : ((rowI plan).drop (0 + (Int.toNat at_) * 1)).take 1 = [.int .i64 e]) (o14 : (se.kind == 1) = true) (o15 : ((draws1.length : Int) == 0) = false) (o17 : (0 : Int) ≤ 0 ∧ (0 : Int) < (draws1.length : Int)) (o18 : ((rowI draws1).drop (0 + 0 * 1)).take 1 = [.int .i64 e1]) (o19 : PureF Try.prog (.clos 99 [] []) [.agg [.int .i64 se.kind, .int .i64 se.prize, .rsl (rowTrn se.turns) 0 se.turns.length]] (.int .i64 (totI se))) (o20 : InR .i64 ((totI se) - 1)) (o21 : PureF Try.prog (.clos 65 [] []) [.int .i64 e1, .int .i64 0, .int .i64 ((totI se) - 1)] (.bool (within e1 0 ((totI se) - 1)))) (o22 : (!(within e1 0 ((totI se) - 1))) = true)
    (hr : AvLe (.tup [.nilSl, .int .i64 0, .int .i64 1]) res) : G Try.prog E (f45K0 Try.prog) (f45S0 s plan draws at_ v2 draws1 g2) :=
  end_stepL (n := 400) (evs := [.auto, .ld (.int .i64 se.kind), .b true, .auto, .ld (.agg [.int .i64 se.kind, .int .i64 se.prize, .rsl (rowTrn se.turns) 0 se.turns.length]), .auto, .ld (.int .i64 e), .b true, .b false, .ld (.int .i64 e1), .v (.int .i64 (totI se)), .v (.bool (within e1 0 ((totI se) - 1))), .b true]) (obs := [0 ≤ at_ ∧ at_ < (((((machG s).s).stages).length : Nat) : Int), ((rowStg (((machG s).s).stages)).drop ((0 + (Int.toNat at_) * 3) + 0)).take 1 = [.int .i64 se.kind], (se.kind != 4) = true, g2 = g2, (0 + (v2.length * 1)) = (rowI v2).length, (v2.length + 1) ≤ 2147483648, 0 = 0, 0 ≤ at_ ∧ at_ < (((((machG s).s).stages).length : Nat) : Int), ((rowStg (((machG s).s).stages)).drop (0 + (Int.toNat at_) * 3)).take 3 = [.int .i64 se.kind, .int .i64 se.prize, .rsl (rowTrn se.turns) 0 se.turns.length], 3 ≤ 3, 0 ≤ at_ ∧ at_ < (plan.length : Int), ((rowI plan).drop (0 + (Int.toNat at_) * 1)).take 1 = [.int .i64 e], (se.kind == 1) = true, ((draws1.length : Int) == 0) = false, (0 : Int) ≤ 0 ∧ (0 : Int) < (draws1.length : Int), ((rowI draws1).drop (0 + 0 * 1)).take 1 = [.int .i64 e1], PureF Try.prog (.clos 99 [] []) [.agg [.int .i64 se.kind, .int .i64 se.prize, .rsl (rowTrn se.turns) 0 se.turns.length]] (.int .i64 (totI se)), InR .i64 ((totI se) - 1), PureF Try.prog (.clos 65 [] []) [.int .i64 e1, .int .i64 0, .int .i64 ((totI se) - 1)] (.bool (within e1 0 ((totI se) - 1))), (!(within e1 0 ((totI se) - 1))) = true]) hE Try.func45 mixed (by kernel_rfl) ⟨o1, o2, o3, (rfl), o5, o6, (rfl), o8, o9, (by decide), o12, o13, o14, o15, o17, o18, o19, o20, o21, o22, trivial⟩ hr
theorem p45_0_2 (s : Stl) (plan : (List Int)) (draws : (List Int)) (at_ : Int) (v2 : List Int) (draws1 : (List Int)) (g2 : Nat) (se : Stg) (e : Int) (e1 : Int)  {E : Env} {rv : AV} (hE : PureE Try.prog 45 rv E) (o1 : 0 ≤ at_ ∧ at_ < (((((machG s).s).stages).length : Nat) : Int)) (o2 : ((rowStg (((machG s).s).stages)).drop ((0 + (Int.toNat at_) * 3) + 0)).take 1 = [.int .i64 se.kind]) (o3 : (se.kind != 4) = true) (o5 : (0 + (v2.length * 1)) = (rowI v2).length) (o6 : (v2.length + 1) ≤ 2147483648) (o8 : 0 ≤ at_ ∧ at_ < (((((machG s).s).stages).length : Nat) : Int)) (o9 : ((rowStg (((machG s).s).stages)).drop (0 + (Int.toNat at_) * 3)).take 3 = [.int .i64 se.kind, .int .i64 se.prize, .rsl (rowTrn se.turns) 0 se.turns.length]) (o12 : 0 ≤ at_ ∧ at_ < (plan.length : Int)) (o13 : ((rowI plan).drop (0 + (Int.toNat at_) * 1)).take 1 = [.int .i64 e]) (o14 : (se.kind == 1) = true) (o15 : ((draws1.length : Int) == 0) = false) (o17 : (0 : Int) ≤ 0 ∧ (0 : Int) < (draws1.length : Int)) (o18 : ((rowI draws1).drop (0 + 0 * 1)).take 1 = [.int .i64 e1]) (o19 : PureF Try.prog (.clos 99 [] []) [.agg [.int .i64 se.kind, .int .i64 se.prize, .rsl (rowTrn se.turns) 0 se.turns.length]] (.int .i64 (totI se))) (o20 : InR .i64 ((totI se) - 1)) (o21 : PureF Try.prog (.clos 65 [] []) [.int .i64 e1, .int .i64 0, .int .i64 ((totI se) - 1)] (.bool (within e1 0 ((totI se) - 1)))) (o22 : (!(within e1 0 ((totI se) - 1))) = false) (o23 : (0 : Int) ≤ 0 ∧ (0 : Int) < (draws1.length : Int)) (o24 : ((rowI draws1).drop (0 + 0 * 1)).take 1 = [.int .i64 e1])
    (hg : G Try.prog E (f45K1 Try.prog) ⟨[.junk, .junk, .rsl (rowI draws1) 0 draws1.length, .junk, .rptr [.rsl (rowI plan) 0 plan.length] 0, .junk, .sl 2 (g2 + 1) 0 (v2.length + 1) 1, .junk, .junk, .rptr [.rsl (rowStg (((machG s).s).stages)) 0 ((((machG s).s).stages).length), .rsl (rowI (((machG s).s).worth)) 0 ((((machG s).s).worth).length), .int .i64 (((machG s).s).price), .rsl (rowI ((machG s).meas)) 0 (((machG s).meas).length), .rsl (rowI ((machG s).mult)) 0 (((machG s).mult).length)] 0, .junk, .ptr 4 0 0, .int .i64 e, .int .i64 e1, .junk, .junk, .junk, .junk, .junk, .junk, .junk, .junk, .junk, .junk, .junk, .junk, .junk, .junk, .junk, .junk, .junk, .junk, .junk, .junk, .junk, .junk, .junk, .junk, .junk, .junk, .junk, .junk, .junk, .junk, .junk, .junk, .junk, .junk, .junk, .junk, .junk, .junk, .junk, .junk, .junk, .junk, .junk, .junk, .junk, .junk, .junk, .junk, .junk, .junk, .junk, .junk, .junk, .junk, .junk, .junk, .junk, .junk, .junk, .junk, .junk, .junk, .junk, .junk, .junk, .junk, .junk, .junk, .junk, .junk, .junk, .junk, .junk, .junk, .junk, .junk, .junk, .junk, .junk, .junk, .junk, .junk, .junk, .junk, .junk, .junk, .junk, .junk, .junk, .junk, .junk, .junk, .junk], [⟨true, 0, 1, true, [.rsl (rowStg s.stages) 0 s.stages.length, .rsl (rowI s.worth) 0 s.worth.length, .int .i64 s.price], false⟩, ⟨false, 1, 1, true, [], false⟩, ⟨true, (g2 + 1), 1, true, ((rowI v2) ++ [.int .i64 at_]), true⟩, ⟨true, 0, 1, true, [.int .i64 at_], true⟩, ⟨true, 0, 1, true, [.int .i64 se.kind, .int .i64 se.prize, .rsl (rowTrn se.turns) 0 se.turns.length], false⟩]⟩) : G Try.prog E (f45K0 Try.prog) (f45S0 s plan draws at_ v2 draws1 g2) :=
  segC_step (n := 400) (ds := []) (cs := []) (live := [2, 4, 6, 9, 11, 12, 13]) (m := 5) (evs := [.auto, .ld (.int .i64 se.kind), .b true, .auto, .ld (.agg [.int .i64 se.kind, .int .i64 se.prize, .rsl (rowTrn se.turns) 0 se.turns.length]), .auto, .ld (.int .i64 e), .b true, .b false, .ld (.int .i64 e1), .v (.int .i64 (totI se)), .v (.bool (within e1 0 ((totI se) - 1))), .b false, .ld (.int .i64 e1), .stop]) (obs := [0 ≤ at_ ∧ at_ < (((((machG s).s).stages).length : Nat) : Int), ((rowStg (((machG s).s).stages)).drop ((0 + (Int.toNat at_) * 3) + 0)).take 1 = [.int .i64 se.kind], (se.kind != 4) = true, g2 = g2, (0 + (v2.length * 1)) = (rowI v2).length, (v2.length + 1) ≤ 2147483648, 0 = 0, 0 ≤ at_ ∧ at_ < (((((machG s).s).stages).length : Nat) : Int), ((rowStg (((machG s).s).stages)).drop (0 + (Int.toNat at_) * 3)).take 3 = [.int .i64 se.kind, .int .i64 se.prize, .rsl (rowTrn se.turns) 0 se.turns.length], 3 ≤ 3, 0 ≤ at_ ∧ at_ < (plan.length : Int), ((rowI plan).drop (0 + (Int.toNat at_) * 1)).take 1 = [.int .i64 e], (se.kind == 1) = true, ((draws1.length : Int) == 0) = false, (0 : Int) ≤ 0 ∧ (0 : Int) < (draws1.length : Int), ((rowI draws1).drop (0 + 0 * 1)).take 1 = [.int .i64 e1], PureF Try.prog (.clos 99 [] []) [.agg [.int .i64 se.kind, .int .i64 se.prize, .rsl (rowTrn se.turns) 0 se.turns.length]] (.int .i64 (totI se)), InR .i64 ((totI se) - 1), PureF Try.prog (.clos 65 [] []) [.int .i64 e1, .int .i64 0, .int .i64 ((totI se) - 1)] (.bool (within e1 0 ((totI se) - 1))), (!(within e1 0 ((totI se) - 1))) = false, (0 : Int) ≤ 0 ∧ (0 : Int) < (draws1.length : Int), ((rowI draws1).drop (0 + 0 * 1)).take 1 = [.int .i64 e1]]) hE.2.1 (hE.nogh _) mixed (by kernel_rfl) ⟨o1, o2, o3, (rfl), o5, o6, (rfl), o8, o9, (by decide), o12, o13, o14, o15, o17, o18, o19, o20, o21, o22, o23, o24, trivial⟩ hg
theorem p45_0_3 (s : Stl) (plan : (List Int)) (draws : (List Int)) (at_ : Int) (v2 : List Int) (draws1 : (List Int)) (g2 : Nat) (se : Stg) (e : Int) (te : Trn)  {E : Env} {rv : AV} (hE : PureE Try.prog 45 rv E) (o1 : 0 ≤ at_ ∧ at_ < (((((machG s).s).stages).length : Nat) : Int)) (o2 : ((rowStg (((machG s).s).stages)).drop ((0 + (Int.toNat at_) * 3) + 0)).take 1 = [.int .i64 se.kind]) (o3 : (se.kind != 4) = true) (o5 : (0 + (v2.length * 1)) = (rowI v2).length) (o6 : (v2.length + 1) ≤ 2147483648) (o8 : 0 ≤ at_ ∧ at_ < (((((machG s).s).stages).length : Nat) : Int)) (o9 : ((rowStg (((machG s).s).stages)).drop (0 + (Int.toNat at_) * 3)).take 3 = [.int .i64 se.kind, .int .i64 se.prize, .rsl (rowTrn se.turns) 0 se.turns.length]) (o12 : 0 ≤ at_ ∧ at_ < (plan.length : Int)) (o13 : ((rowI plan).drop (0 + (Int.toNat at_) * 1)).take 1 = [.int .i64 e]) (o14 : (se.kind == 1) = false) (o16 : 0 ≤ e ∧ e < (se.turns.length : Int)) (o17 : ((rowTrn se.turns).drop ((0 + (Int.toNat e) * 2) + 1)).take 1 = [.int .i64 te.to])
    (hg : G Try.prog E (f45K0 Try.prog) ⟨[.junk, .junk, .rsl (rowI draws1) 0 draws1.length, .junk, .rptr [.rsl (rowI plan) 0 plan.length] 0, .junk, .sl 2 (g2 + 1) 0 (v2.length + 1) 1, .junk, .junk, .rptr [.rsl (rowStg (((machG s).s).stages)) 0 ((((machG s).s).stages).length), .rsl (rowI (((machG s).s).worth)) 0 ((((machG s).s).worth).length), .int .i64 (((machG s).s).price), .rsl (rowI ((machG s).meas)) 0 (((machG s).meas).length), .rsl (rowI ((machG s).mult)) 0 (((machG s).mult).length)] 0, .int .i64 te.to, .junk, .junk, .junk, .junk, .junk, .junk, .junk, .junk, .junk, .junk, .junk, .junk, .junk, .junk, .junk, .junk, .junk, .junk, .junk, .junk, .junk, .junk, .junk, .junk, .junk, .junk, .junk, .junk, .junk, .junk, .junk, .junk, .junk, .junk, .junk, .junk, .junk, .junk, .junk, .junk, .junk, .junk, .junk, .junk, .junk, .junk, .junk, .junk, .junk, .junk, .junk, .junk, .junk, .junk, .junk, .junk, .junk, .junk, .junk, .junk, .junk, .junk, .junk, .junk, .junk, .junk, .junk, .junk, .junk, .junk, .junk, .junk, .junk, .junk, .junk, .junk, .junk, .junk, .junk, .junk, .junk, .junk, .junk, .junk, .junk, .junk, .junk, .junk, .junk, .junk, .junk, .junk, .junk, .junk, .junk, .junk], [⟨true, 0, 1, true, [.rsl (rowStg s.stages) 0 s.stages.length, .rsl (rowI s.worth) 0 s.worth.length, .int .i64 s.price], false⟩, ⟨false, 1, 1, true, [], false⟩, ⟨true, (g2 + 1), 1, true, ((rowI v2) ++ [.int .i64 at_]), true⟩]⟩) : G Try.prog E (f45K0 Try.prog) (f45S0 s plan draws at_ v2 draws1 g2) :=
  segC_step (n := 400) (ds := []) (cs := []) (live := [2, 4, 6, 9, 10]) (m := 3) (evs := [.auto, .ld (.int .i64 se.kind), .b true, .auto, .ld (.agg [.int .i64 se.kind, .int .i64 se.prize, .rsl (rowTrn se.turns) 0 se.turns.length]), .auto, .ld (.int .i64 e), .b false, .auto, .ld (.int .i64 te.to), .stop]) (obs := [0 ≤ at_ ∧ at_ < (((((machG s).s).stages).length : Nat) : Int), ((rowStg (((machG s).s).stages)).drop ((0 + (Int.toNat at_) * 3) + 0)).take 1 = [.int .i64 se.kind], (se.kind != 4) = true, g2 = g2, (0 + (v2.length * 1)) = (rowI v2).length, (v2.length + 1) ≤ 2147483648, 0 = 0, 0 ≤ at_ ∧ at_ < (((((machG s).s).stages).length : Nat) : Int), ((rowStg (((machG s).s).stages)).drop (0 + (Int.toNat at_) * 3)).take 3 = [.int .i64 se.kind, .int .i64 se.prize, .rsl (rowTrn se.turns) 0 se.turns.length], 3 ≤ 3, 0 ≤ at_ ∧ at_ < (plan.length : Int), ((rowI plan).drop (0 + (Int.toNat at_) * 1)).take 1 = [.int .i64 e], (se.kind == 1) = false, 0 ≤ e ∧ e < (se.turns.length : Int), ((rowTrn se.turns).drop ((0 + (Int.toNat e) * 2) + 1)).take 1 = [.int .i64 te.to]]) hE.2.1 (hE.nogh _) mixed (by kernel_rfl) ⟨o1, o2, o3, (rfl), o5, o6, (rfl), o8, o9, (by decide), o12, o13, o14, o16, o17, trivial⟩ hg
theorem p45_0_4 (s : Stl) (plan : (List Int)) (draws : (List Int)) (at_ : Int) (v2 : List Int) (draws1 : (List Int)) (g2 : Nat) (se : Stg)  {E : Env} {res : AV} (hE : PureE Try.prog 45 res E) (o1 : 0 ≤ at_ ∧ at_ < (((((machG s).s).stages).length : Nat) : Int)) (o2 : ((rowStg (((machG s).s).stages)).drop ((0 + (Int.toNat at_) * 3) + 0)).take 1 = [.int .i64 se.kind]) (o3 : (se.kind != 4) = false) (o5 : (0 + (v2.length * 1)) = (rowI v2).length) (o6 : (v2.length + 1) ≤ 2147483648) (o8 : 0 ≤ at_ ∧ at_ < (((((machG s).s).stages).length : Nat) : Int)) (o9 : ((rowStg (((machG s).s).stages)).drop ((0 + (Int.toNat at_) * 3) + 1)).take 1 = [.int .i64 se.prize])
    (hr : AvLe (.tup [.rsl ((rowI v2) ++ [.int .i64 at_]) 0 (v2.length + 1), .int .i64 se.prize, .int .i64 0]) res) : G Try.prog E (f45K0 Try.prog) (f45S0 s plan draws at_ v2 draws1 g2) :=
  end_stepL (n := 400) (evs := [.auto, .ld (.int .i64 se.kind), .b false, .auto, .ld (.int .i64 se.prize)]) (obs := [0 ≤ at_ ∧ at_ < (((((machG s).s).stages).length : Nat) : Int), ((rowStg (((machG s).s).stages)).drop ((0 + (Int.toNat at_) * 3) + 0)).take 1 = [.int .i64 se.kind], (se.kind != 4) = false, g2 = g2, (0 + (v2.length * 1)) = (rowI v2).length, (v2.length + 1) ≤ 2147483648, 0 = 0, 0 ≤ at_ ∧ at_ < (((((machG s).s).stages).length : Nat) : Int), ((rowStg (((machG s).s).stages)).drop ((0 + (Int.toNat at_) * 3) + 1)).take 1 = [.int .i64 se.prize], (g2 + 1) = (g2 + 1)]) hE Try.func45 mixed (by kernel_rfl) ⟨o1, o2, o3, (rfl), o5, o6, (rfl), o8, o9, (rfl), trivial⟩ hr
theorem f45W0 (s : Stl) (plan : (List Int)) (draws : (List Int)) (at_ : Int) (v2 : List Int) (draws1 : (List Int)) {E : Env} {rv : ((List Int) × Int × Int)} (hE : PureE Try.prog 45 (.tup [.rsl (rowI rv.1) 0 rv.1.length, .int .i64 rv.2.1, .int .i64 rv.2.2]) E)
    (h : (0 ≤ at_ ∧ (∃ se : Stg, (((machG s).s).stages)[Int.toNat at_]? = some se ∧ ((¬ (se.kind = 4) → ((v2.length + 1) ≤ 2147483648 ∧ (0 ≤ at_ ∧ (∃ e : Int, plan[Int.toNat at_]? = some e ∧ ((se.kind = 1 → (((draws1.length : Int) = 0 → rv = (([] : List Int), 0, 1)) ∧ (¬ ((draws1.length : Int) = 0) → (∃ e1 : Int, draws1[0]? = some e1 ∧ ((TotOk se) ∧ ((-9223372036854775808 ≤ (totI se) - 1 ∧ (totI se) - 1 ≤ 9223372036854775807) ∧ (((within e1 0 ((totI se) - 1)) = false → rv = (([] : List Int), 0, 1)) ∧ ((within e1 0 ((totI se) - 1)) = true → f45G1 E s plan draws e e1 se.kind se.prize se.turns at_ (v2 ++ [at_]) draws1)))))))) ∧ (¬ (se.kind = 1) → (0 ≤ e ∧ (∃ te : Trn, se.turns[Int.toNat e]? = some te ∧ f45G0 E s plan draws te.to (v2 ++ [at_]) draws1)))))))) ∧ (se.kind = 4 → ((v2.length + 1) ≤ 2147483648 ∧ rv = ((v2 ++ [at_]), se.prize, 0))))))) : f45G0 E s plan draws at_ v2 draws1 := by
  intro g2
  obtain ⟨h2, h⟩ := h
  obtain ⟨se, h1, h⟩ := h
  rcases Bool.eq_false_or_eq_true (se.kind != 4) with hc0 | hc0
  · have h := h.1 (bneT hc0)
    obtain ⟨h3, h⟩ := h
    obtain ⟨h5, h⟩ := h
    obtain ⟨e, h4, h⟩ := h
    rcases Bool.eq_false_or_eq_true (se.kind == 1) with hc1 | hc1
    · have h := h.1 (eq_of_beq hc1)
      rcases Bool.eq_false_or_eq_true ((draws1.length : Int) == 0) with hc2 | hc2
      · have h := h.1 (eq_of_beq hc2)
        exact p45_0_0 s plan draws at_ v2 draws1 g2 se e hE (idx_ok' h2 h1) (row_part cStg (s := 3) (k := 0) (m := 1) (fun _ => rfl) (by decide) h1) hc0 (by have hx := row_len cI (s := 1) (fun _ => rfl) v2; simp only [rowI] at hx ⊢; rw [hx]; simp) h3 (idx_ok' h2 h1) (row_part cStg (s := 3) (k := 0) (m := 3) (fun _ => rfl) (by decide) h1) (idx_ok' h5 h4) (row_part cI (s := 1) (k := 0) (m := 1) (fun _ => rfl) (by decide) h4) hc1 hc2 (by rw [h]; exact (tup_le ⟨nil_le, ⟨AvLe.of_eq rfl, ⟨AvLe.of_eq rfl, trivial⟩⟩⟩))
      · have h := h.2 (ne_of_beq_false hc2)
        obtain ⟨e1, h6, h⟩ := h
        obtain ⟨h7, h⟩ := h
        obtain ⟨q20_3, h⟩ := h
        rcases Bool.eq_false_or_eq_true (!(within e1 0 ((totI se) - 1))) with hc3 | hc3
        · have h := h.1 (bnT hc3)
          exact p45_0_1 s plan draws at_ v2 draws1 g2 se e e1 hE (idx_ok' h2 h1) (row_part cStg (s := 3) (k := 0) (m := 1) (fun _ => rfl) (by decide) h1) hc0 (by have hx := row_len cI (s := 1) (fun _ => rfl) v2; simp only [rowI] at hx ⊢; rw [hx]; simp) h3 (idx_ok' h2 h1) (row_part cStg (s := 3) (k := 0) (m := 3) (fun _ => rfl) (by decide) h1) (idx_ok' h5 h4) (row_part cI (s := 1) (k := 0) (m := 1) (fun _ => rfl) (by decide) h4) hc1 hc2 (idx_ok h6) (row_part cI (s := 1) (k := 0) (m := 1) (fun _ => rfl) (by decide) h6) (pureF_of Try.func99 (by kernel_rfl) f99b (total_ok se h7)) q20_3 (pureF_of Try.func65 (by kernel_rfl) f65b (within_ok e1 0 ((totI se) - 1))) hc3 (by rw [h]; exact (tup_le ⟨nil_le, ⟨AvLe.of_eq rfl, ⟨AvLe.of_eq rfl, trivial⟩⟩⟩))
        · have h := h.2 (bnF hc3)
          refine p45_0_2 s plan draws at_ v2 draws1 g2 se e e1 hE (idx_ok' h2 h1) (row_part cStg (s := 3) (k := 0) (m := 1) (fun _ => rfl) (by decide) h1) hc0 (by have hx := row_len cI (s := 1) (fun _ => rfl) v2; simp only [rowI] at hx ⊢; rw [hx]; simp) h3 (idx_ok' h2 h1) (row_part cStg (s := 3) (k := 0) (m := 3) (fun _ => rfl) (by decide) h1) (idx_ok' h5 h4) (row_part cI (s := 1) (k := 0) (m := 1) (fun _ => rfl) (by decide) h4) hc1 hc2 (idx_ok h6) (row_part cI (s := 1) (k := 0) (m := 1) (fun _ => rfl) (by decide) h6) (pureF_of Try.func99 (by kernel_rfl) f99b (total_ok se h7)) q20_3 (pureF_of Try.func65 (by kernel_rfl) f65b (within_ok e1 0 ((totI se) - 1))) hc3 (idx_ok h6) (row_part cI (s := 1) (k := 0) (m := 1) (fun _ => rfl) (by decide) h6) ?_
          rw [(show rowI v2 ++ [.int .i64 at_] = rowI (v2 ++ [at_]) from (row_app cI v2 [at_]).symm)]; rw [(show (v2.length + 1) = (v2 ++ [at_]).length from by simp)]; exact (h (g2 + 1))
    · have h := h.2 (ne_of_beq_false hc1)
      obtain ⟨h7, h⟩ := h
      obtain ⟨te, h6, h⟩ := h
      refine p45_0_3 s plan draws at_ v2 draws1 g2 se e te hE (idx_ok' h2 h1) (row_part cStg (s := 3) (k := 0) (m := 1) (fun _ => rfl) (by decide) h1) hc0 (by have hx := row_len cI (s := 1) (fun _ => rfl) v2; simp only [rowI] at hx ⊢; rw [hx]; simp) h3 (idx_ok' h2 h1) (row_part cStg (s := 3) (k := 0) (m := 3) (fun _ => rfl) (by decide) h1) (idx_ok' h5 h4) (row_part cI (s := 1) (k := 0) (m := 1) (fun _ => rfl) (by decide) h4) hc1 (idx_ok' h7 h6) (row_part cTrn (s := 2) (k := 1) (m := 1) (fun _ => rfl) (by decide) h6) ?_
      rw [(show rowI v2 ++ [.int .i64 at_] = rowI (v2 ++ [at_]) from (row_app cI v2 [at_]).symm)]; rw [(show (v2.length + 1) = (v2 ++ [at_]).length from by simp)]; exact (h (g2 + 1))
  · have h := h.2 (bneF hc0)
    obtain ⟨h3, h⟩ := h
    exact p45_0_4 s plan draws at_ v2 draws1 g2 se hE (idx_ok' h2 h1) (row_part cStg (s := 3) (k := 0) (m := 1) (fun _ => rfl) (by decide) h1) hc0 (by have hx := row_len cI (s := 1) (fun _ => rfl) v2; simp only [rowI] at hx ⊢; rw [hx]; simp) h3 (idx_ok' h2 h1) (row_part cStg (s := 3) (k := 1) (m := 1) (fun _ => rfl) (by decide) h1) (AvLe.of_eq (by rw [h]; rw [(show AV.rsl ((rowI v2) ++ [.int .i64 at_]) 0 (v2.length + 1) = AV.rsl (rowI (v2 ++ [at_])) 0 (v2 ++ [at_]).length from by rw [(show rowI v2 ++ [.int .i64 at_] = rowI (v2 ++ [at_]) from (row_app cI v2 [at_]).symm)]; rw [show (v2.length + 1) = (v2 ++ [at_]).length from by simp])]; try rfl))
theorem p45_1_0 (s : Stl) (plan : (List Int)) (draws : (List Int)) (turn : Int) (left : Int) (v4_0 : Int) (v4_1 : Int) (v4_2 : (List Trn)) (v3_0 : Int) (v2 : List Int) (draws1 : (List Int)) (g2 : Nat) (te : Trn)  {E : Env} {rv : AV} (hE : PureE Try.prog 45 rv E) (o1 : 0 ≤ turn ∧ turn < (v4_2.length : Int)) (o2 : ((rowTrn v4_2).drop ((0 + (Int.toNat turn) * 2) + 0)).take 1 = [.int .i64 te.w]) (o3 : (decide (left ≥ te.w)) = true) (o4 : 0 ≤ turn ∧ turn < (v4_2.length : Int)) (o5 : ((rowTrn v4_2).drop ((0 + (Int.toNat turn) * 2) + 0)).take 1 = [.int .i64 te.w]) (o6 : InR .i64 (left - te.w)) (o7 : InR .i64 (turn + 1))
    (hg : G Try.prog E (f45K1 Try.prog) ⟨[.junk, .junk, .rsl (rowI draws1) 0 draws1.length, .junk, .rptr [.rsl (rowI plan) 0 plan.length] 0, .junk, .sl 2 g2 0 v2.length 1, .junk, .junk, .rptr [.rsl (rowStg (((machG s).s).stages)) 0 ((((machG s).s).stages).length), .rsl (rowI (((machG s).s).worth)) 0 ((((machG s).s).worth).length), .int .i64 (((machG s).s).price), .rsl (rowI ((machG s).meas)) 0 (((machG s).meas).length), .rsl (rowI ((machG s).mult)) 0 (((machG s).mult).length)] 0, .junk, .ptr 4 0 0, .int .i64 (turn + 1), .int .i64 (left - te.w), .junk, .junk, .junk, .junk, .junk, .junk, .junk, .junk, .junk, .junk, .junk, .junk, .junk, .junk, .junk, .junk, .junk, .junk, .junk, .junk, .junk, .junk, .junk, .junk, .junk, .junk, .junk, .junk, .junk, .junk, .junk, .junk, .junk, .junk, .junk, .junk, .junk, .junk, .junk, .junk, .junk, .junk, .junk, .junk, .junk, .junk, .junk, .junk, .junk, .junk, .junk, .junk, .junk, .junk, .junk, .junk, .junk, .junk, .junk, .junk, .junk, .junk, .junk, .junk, .junk, .junk, .junk, .junk, .junk, .junk, .junk, .junk, .junk, .junk, .junk, .junk, .junk, .junk, .junk, .junk, .junk, .junk, .junk, .junk, .junk, .junk, .junk, .junk, .junk, .junk, .junk, .junk, .junk], [⟨true, 0, 1, true, [.rsl (rowStg s.stages) 0 s.stages.length, .rsl (rowI s.worth) 0 s.worth.length, .int .i64 s.price], false⟩, ⟨false, 1, 1, true, [], false⟩, ⟨true, g2, 1, true, (rowI v2), true⟩, ⟨true, 0, 1, true, [.int .i64 v3_0], true⟩, ⟨true, 0, 1, true, [.int .i64 v4_0, .int .i64 v4_1, .rsl (rowTrn v4_2) 0 v4_2.length], false⟩]⟩) : G Try.prog E (f45K1 Try.prog) (f45S1 s plan draws turn left v4_0 v4_1 v4_2 v3_0 v2 draws1 g2) :=
  segC_step (n := 400) (ds := []) (cs := []) (live := [2, 4, 6, 9, 11, 12, 13]) (m := 5) (evs := [.auto, .ld (.int .i64 te.w), .b true, .auto, .ld (.int .i64 te.w), .stop]) (obs := [0 ≤ turn ∧ turn < (v4_2.length : Int), ((rowTrn v4_2).drop ((0 + (Int.toNat turn) * 2) + 0)).take 1 = [.int .i64 te.w], (decide (left ≥ te.w)) = true, 0 ≤ turn ∧ turn < (v4_2.length : Int), ((rowTrn v4_2).drop ((0 + (Int.toNat turn) * 2) + 0)).take 1 = [.int .i64 te.w], InR .i64 (left - te.w), InR .i64 (turn + 1)]) hE.2.1 (hE.nogh _) mixed (by kernel_rfl) ⟨o1, o2, o3, o4, o5, o6, o7, trivial⟩ hg
theorem p45_1_1 (s : Stl) (plan : (List Int)) (draws : (List Int)) (turn : Int) (left : Int) (v4_0 : Int) (v4_1 : Int) (v4_2 : (List Trn)) (v3_0 : Int) (v2 : List Int) (draws1 : (List Int)) (g2 : Nat) (te : Trn)  {E : Env} {rv : AV} (hE : PureE Try.prog 45 rv E) (o1 : 0 ≤ turn ∧ turn < (v4_2.length : Int)) (o2 : ((rowTrn v4_2).drop ((0 + (Int.toNat turn) * 2) + 0)).take 1 = [.int .i64 te.w]) (o3 : (decide (left ≥ te.w)) = false) (o4 : 1 ≤ draws1.length) (o7 : 0 ≤ turn ∧ turn < (v4_2.length : Int)) (o8 : ((rowTrn v4_2).drop ((0 + (Int.toNat turn) * 2) + 1)).take 1 = [.int .i64 te.to])
    (hg : G Try.prog E (f45K0 Try.prog) ⟨[.junk, .junk, .rsl (rowI draws1) 1 (draws1.length - 1), .junk, .rptr [.rsl (rowI plan) 0 plan.length] 0, .junk, .sl 2 g2 0 v2.length 1, .junk, .junk, .rptr [.rsl (rowStg (((machG s).s).stages)) 0 ((((machG s).s).stages).length), .rsl (rowI (((machG s).s).worth)) 0 ((((machG s).s).worth).length), .int .i64 (((machG s).s).price), .rsl (rowI ((machG s).meas)) 0 (((machG s).meas).length), .rsl (rowI ((machG s).mult)) 0 (((machG s).mult).length)] 0, .int .i64 te.to, .junk, .junk, .junk, .junk, .junk, .junk, .junk, .junk, .junk, .junk, .junk, .junk, .junk, .junk, .junk, .junk, .junk, .junk, .junk, .junk, .junk, .junk, .junk, .junk, .junk, .junk, .junk, .junk, .junk, .junk, .junk, .junk, .junk, .junk, .junk, .junk, .junk, .junk, .junk, .junk, .junk, .junk, .junk, .junk, .junk, .junk, .junk, .junk, .junk, .junk, .junk, .junk, .junk, .junk, .junk, .junk, .junk, .junk, .junk, .junk, .junk, .junk, .junk, .junk, .junk, .junk, .junk, .junk, .junk, .junk, .junk, .junk, .junk, .junk, .junk, .junk, .junk, .junk, .junk, .junk, .junk, .junk, .junk, .junk, .junk, .junk, .junk, .junk, .junk, .junk, .junk, .junk, .junk, .junk, .junk, .junk], [⟨true, 0, 1, true, [.rsl (rowStg s.stages) 0 s.stages.length, .rsl (rowI s.worth) 0 s.worth.length, .int .i64 s.price], false⟩, ⟨false, 1, 1, true, [], false⟩, ⟨true, g2, 1, true, (rowI v2), true⟩]⟩) : G Try.prog E (f45K1 Try.prog) (f45S1 s plan draws turn left v4_0 v4_1 v4_2 v3_0 v2 draws1 g2) :=
  segC_step (n := 400) (ds := []) (cs := []) (live := [2, 4, 6, 9, 10]) (m := 3) (evs := [.auto, .ld (.int .i64 te.w), .b false, .auto, .ld (.int .i64 te.to), .stop]) (obs := [0 ≤ turn ∧ turn < (v4_2.length : Int), ((rowTrn v4_2).drop ((0 + (Int.toNat turn) * 2) + 0)).take 1 = [.int .i64 te.w], (decide (left ≥ te.w)) = false, 1 ≤ draws1.length, draws1.length ≤ draws1.length, (0 : Int) ≤ 1, 0 ≤ turn ∧ turn < (v4_2.length : Int), ((rowTrn v4_2).drop ((0 + (Int.toNat turn) * 2) + 1)).take 1 = [.int .i64 te.to]]) hE.2.1 (hE.nogh _) mixed (by kernel_rfl) ⟨o1, o2, o3, o4, (Nat.le_refl _), (by decide), o7, o8, trivial⟩ hg
theorem f45W1 (s : Stl) (plan : (List Int)) (draws : (List Int)) (turn : Int) (left : Int) (v4_0 : Int) (v4_1 : Int) (v4_2 : (List Trn)) (v3_0 : Int) (v2 : List Int) (draws1 : (List Int)) {E : Env} {rv : ((List Int) × Int × Int)} (hE : PureE Try.prog 45 (.tup [.rsl (rowI rv.1) 0 rv.1.length, .int .i64 rv.2.1, .int .i64 rv.2.2]) E)
    (h : (0 ≤ turn ∧ (∃ te : Trn, v4_2[Int.toNat turn]? = some te ∧ ((left ≥ te.w → ((-9223372036854775808 ≤ left - te.w ∧ left - te.w ≤ 9223372036854775807) ∧ ((-9223372036854775808 ≤ turn + 1 ∧ turn + 1 ≤ 9223372036854775807) ∧ f45G1 E s plan draws (turn + 1) (left - te.w) v4_0 v4_1 v4_2 v3_0 v2 draws1))) ∧ (¬ (left ≥ te.w) → (1 ≤ draws1.length ∧ f45G0 E s plan draws te.to v2 (draws1.drop 1))))))) : f45G1 E s plan draws turn left v4_0 v4_1 v4_2 v3_0 v2 draws1 := by
  intro g2
  obtain ⟨h2, h⟩ := h
  obtain ⟨te, h1, h⟩ := h
  rcases Bool.eq_false_or_eq_true (decide (left ≥ te.w)) with hc0 | hc0
  · have h := h.1 (of_decide_eq_true hc0)
    obtain ⟨q6_1, h⟩ := h
    obtain ⟨q7_1, h⟩ := h
    exact p45_1_0 s plan draws turn left v4_0 v4_1 v4_2 v3_0 v2 draws1 g2 te hE (idx_ok' h2 h1) (row_part cTrn (s := 2) (k := 0) (m := 1) (fun _ => rfl) (by decide) h1) hc0 (idx_ok' h2 h1) (row_part cTrn (s := 2) (k := 0) (m := 1) (fun _ => rfl) (by decide) h1) q6_1 q7_1 (h g2)
  · have h := h.2 (of_decide_eq_false hc0)
    obtain ⟨q4_1, h⟩ := h
    refine p45_1_1 s plan draws turn left v4_0 v4_1 v4_2 v3_0 v2 draws1 g2 te hE (idx_ok' h2 h1) (row_part cTrn (s := 2) (k := 0) (m := 1) (fun _ => rfl) (by decide) h1) hc0 q4_1 (idx_ok' h2 h1) (row_part cTrn (s := 2) (k := 1) (m := 1) (fun _ => rfl) (by decide) h1) ?_
    refine weakT_step (t := 2) (v' := .rsl (rowI (draws1.drop 1)) 0 ((draws1.drop 1).length)) rfl rfl rfl (by exact rsl_drop cI (s := 1) (fun _ => rfl) 1 (by omega) (by first | rfl | omega | simp)) ?_
    simp only [List.set_cons_succ, List.set_cons_zero]
    skip; exact (h g2)
theorem f46b : Try.f46.body = some (bodyAt Try.prog 46) := by kernel_rfl
def f46K0 (P : Program) : List Item := kAt 400 [.code (bodyAt P 46)] [.b false, .stop]
def f46S0 (s : Stl) (plan : (List Int)) (draws : (List Int)) (at_ : Int) (v1 : List Int) (used : Nat) (g1 : Nat) : St := ⟨[.junk, .rsl (rowI plan) 0 plan.length, .rsl (rowI draws) 0 draws.length, .ptr 0 0 0, .junk, .junk, .junk, .junk, .junk, .junk, .int .i64 at_, .int .i64 (used : Int), .sl 1 g1 0 v1.length 1, .junk, .junk, .junk, .junk, .junk, .junk, .junk, .junk, .junk, .junk, .junk, .junk, .junk, .junk, .junk, .junk, .junk, .junk, .junk, .junk, .junk, .junk, .junk, .junk, .junk, .junk, .junk, .junk, .junk, .junk, .junk, .junk, .junk, .junk, .junk, .junk, .junk, .junk, .junk, .junk, .junk, .junk, .junk, .junk, .junk, .junk, .junk, .junk, .junk, .junk, .junk, .junk, .junk, .junk, .junk, .junk, .junk, .junk, .junk, .junk, .junk, .junk, .junk, .junk, .junk, .junk, .junk, .junk, .junk, .junk, .junk, .junk, .junk, .junk, .junk, .junk, .junk, .junk, .junk, .junk, .junk, .junk, .junk, .junk, .junk], [⟨true, 0, 1, true, [.rsl (rowStg s.stages) 0 s.stages.length, .rsl (rowI s.worth) 0 s.worth.length, .int .i64 s.price], false⟩, ⟨true, g1, 1, true, (rowI v1), true⟩]⟩
def f46G0 (E : Env) (s : Stl) (plan : (List Int)) (draws : (List Int)) (at_ : Int) (v1 : List Int) (used : Nat) : Prop := ∀ g1 : Nat, G Try.prog E (f46K0 Try.prog) (f46S0 s plan draws at_ v1 used g1)
def f46K1 (P : Program) : List Item := kAt 400 [.code (bodyAt P 46)] [.b false, .b true, .b true, .b false, .stop]
def f46S1 (s : Stl) (plan : (List Int)) (draws : (List Int)) (rest : Int) (v2_0 : Int) (v2_1 : Int) (v2_2 : (List Trn)) (v1 : List Int) (turn : Nat) (used : Nat) (g1 : Nat) : St := ⟨[.junk, .rsl (rowI plan) 0 plan.length, .rsl (rowI draws) 0 draws.length, .ptr 0 0 0, .junk, .junk, .junk, .junk, .junk, .junk, .junk, .int .i64 (used : Int), .sl 1 g1 0 v1.length 1, .ptr 2 0 0, .int .i64 (turn : Int), .int .i64 rest, .junk, .junk, .junk, .junk, .junk, .junk, .junk, .junk, .junk, .junk, .junk, .junk, .junk, .junk, .junk, .junk, .junk, .junk, .junk, .junk, .junk, .junk, .junk, .junk, .junk, .junk, .junk, .junk, .junk, .junk, .junk, .junk, .junk, .junk, .junk, .junk, .junk, .junk, .junk, .junk, .junk, .junk, .junk, .junk, .junk, .junk, .junk, .junk, .junk, .junk, .junk, .junk, .junk, .junk, .junk, .junk, .junk, .junk, .junk, .junk, .junk, .junk, .junk, .junk, .junk, .junk, .junk, .junk, .junk, .junk, .junk, .junk, .junk, .junk, .junk, .junk, .junk, .junk, .junk, .junk, .junk, .junk], [⟨true, 0, 1, true, [.rsl (rowStg s.stages) 0 s.stages.length, .rsl (rowI s.worth) 0 s.worth.length, .int .i64 s.price], false⟩, ⟨true, g1, 1, true, (rowI v1), true⟩, ⟨true, 0, 1, true, [.int .i64 v2_0, .int .i64 v2_1, .rsl (rowTrn v2_2) 0 v2_2.length], false⟩]⟩
def f46G1 (E : Env) (s : Stl) (plan : (List Int)) (draws : (List Int)) (rest : Int) (v2_0 : Int) (v2_1 : Int) (v2_2 : (List Trn)) (v1 : List Int) (turn : Nat) (used : Nat) : Prop := ∀ g1 : Nat, G Try.prog E (f46K1 Try.prog) (f46S1 s plan draws rest v2_0 v2_1 v2_2 v1 turn used g1)
theorem p46_start_0 (s : Stl) (plan : (List Int)) (draws : (List Int))   {E : Env} {res : AV} (hE : PureE Try.prog 46 res E) (o0 : PureF Try.prog (.clos 30 [] []) [.agg [.rsl (rowStg s.stages) 0 s.stages.length, .rsl (rowI s.worth) 0 s.worth.length, .int .i64 s.price], .rsl (rowI plan) 0 plan.length] (.int .i64 (planE s plan))) (o1 : ((planE s plan) != 0) = true)
    (hr : AvLe (.tup [.nilSl, .int .i64 0, .int .i64 (planE s plan)]) res) : G Try.prog E [.code (bodyAt Try.prog 46)] ⟨[.agg [.rsl (rowStg s.stages) 0 s.stages.length, .rsl (rowI s.worth) 0 s.worth.length, .int .i64 s.price], .rsl (rowI plan) 0 plan.length, .rsl (rowI draws) 0 draws.length] ++ unds (Try.f46.ntmps - 3), []⟩ :=
  end_stepL (n := 400) (evs := [.v (.int .i64 (planE s plan)), .b true]) (obs := [PureF Try.prog (.clos 30 [] []) [.agg [.rsl (rowStg s.stages) 0 s.stages.length, .rsl (rowI s.worth) 0 s.worth.length, .int .i64 s.price], .rsl (rowI plan) 0 plan.length] (.int .i64 (planE s plan)), ((planE s plan) != 0) = true]) hE Try.func46 mixed (by kernel_rfl) ⟨o0, o1, trivial⟩ hr
theorem p46_start_1 (s : Stl) (plan : (List Int)) (draws : (List Int))   {E : Env} {rv : AV} (hE : PureE Try.prog 46 rv E) (o0 : PureF Try.prog (.clos 30 [] []) [.agg [.rsl (rowStg s.stages) 0 s.stages.length, .rsl (rowI s.worth) 0 s.worth.length, .int .i64 s.price], .rsl (rowI plan) 0 plan.length] (.int .i64 (planE s plan))) (o1 : ((planE s plan) != 0) = false)
    (hg : G Try.prog E (f46K0 Try.prog) ⟨[.junk, .rsl (rowI plan) 0 plan.length, .rsl (rowI draws) 0 draws.length, .ptr 0 0 0, .junk, .junk, .junk, .junk, .junk, .junk, .int .i64 0, .int .i64 0, .sl 1 0 0 1 1, .junk, .junk, .junk, .junk, .junk, .junk, .junk, .junk, .junk, .junk, .junk, .junk, .junk, .junk, .junk, .junk, .junk, .junk, .junk, .junk, .junk, .junk, .junk, .junk, .junk, .junk, .junk, .junk, .junk, .junk, .junk, .junk, .junk, .junk, .junk, .junk, .junk, .junk, .junk, .junk, .junk, .junk, .junk, .junk, .junk, .junk, .junk, .junk, .junk, .junk, .junk, .junk, .junk, .junk, .junk, .junk, .junk, .junk, .junk, .junk, .junk, .junk, .junk, .junk, .junk, .junk, .junk, .junk, .junk, .junk, .junk, .junk, .junk, .junk, .junk, .junk, .junk, .junk, .junk, .junk, .junk, .junk, .junk, .junk, .junk], [⟨true, 0, 1, true, [.rsl (rowStg s.stages) 0 s.stages.length, .rsl (rowI s.worth) 0 s.worth.length, .int .i64 s.price], false⟩, ⟨true, 0, 1, true, [.int .i64 0], true⟩]⟩) : G Try.prog E [.code (bodyAt Try.prog 46)] ⟨[.agg [.rsl (rowStg s.stages) 0 s.stages.length, .rsl (rowI s.worth) 0 s.worth.length, .int .i64 s.price], .rsl (rowI plan) 0 plan.length, .rsl (rowI draws) 0 draws.length] ++ unds (Try.f46.ntmps - 3), []⟩ :=
  segC_step (n := 400) (ds := []) (cs := []) (live := [1, 2, 3, 10, 11, 12]) (m := 2) (evs := [.v (.int .i64 (planE s plan)), .b false, .stop]) (obs := [PureF Try.prog (.clos 30 [] []) [.agg [.rsl (rowStg s.stages) 0 s.stages.length, .rsl (rowI s.worth) 0 s.worth.length, .int .i64 s.price], .rsl (rowI plan) 0 plan.length] (.int .i64 (planE s plan)), ((planE s plan) != 0) = false]) hE.2.1 (hE.nogh _) mixed (by kernel_rfl) ⟨o0, o1, trivial⟩ hg
theorem f46W (s : Stl) (plan : (List Int)) (draws : (List Int)) {E : Env} {rv : ((List Int) × Int × Int)} (hE : PureE Try.prog 46 (.tup [.rsl (rowI rv.1) 0 rv.1.length, .int .i64 rv.2.1, .int .i64 rv.2.2]) E)
    (h : (((s.stages.length ≤ 9223372036854775807 ∧ s.worth.length ≤ 9223372036854775807) ∧ plan.length ≤ 9223372036854775807) ∧ ((¬ ((planE s plan) = 0) → rv = (([] : List Int), 0, (planE s plan))) ∧ ((planE s plan) = 0 → f46G0 E s plan draws 0 ([0]) 0)))) : G Try.prog E [.code (bodyAt Try.prog 46)] ⟨[.agg [.rsl (rowStg s.stages) 0 s.stages.length, .rsl (rowI s.worth) 0 s.worth.length, .int .i64 s.price], .rsl (rowI plan) 0 plan.length, .rsl (rowI draws) 0 draws.length] ++ unds (Try.f46.ntmps - 3), []⟩ := by
  obtain ⟨h1, h⟩ := h
  rcases Bool.eq_false_or_eq_true ((planE s plan) != 0) with hc0 | hc0
  · have h := h.1 (bneT hc0)
    exact p46_start_0 s plan draws    hE (pureF_of Try.func30 (by kernel_rfl) f30b (planE_ok s plan h1)) hc0 (by rw [h]; exact (tup_le ⟨nil_le, ⟨AvLe.of_eq rfl, ⟨AvLe.of_eq rfl, trivial⟩⟩⟩))
  · have h := h.2 (bneF hc0)
    exact p46_start_1 s plan draws    hE (pureF_of Try.func30 (by kernel_rfl) f30b (planE_ok s plan h1)) hc0 (h 0)
theorem p46_0_0 (s : Stl) (plan : (List Int)) (draws : (List Int)) (at_ : Int) (v1 : List Int) (used : Nat) (g1 : Nat) (se : Stg) (e : Int)  {E : Env} {res : AV} (hE : PureE Try.prog 46 res E) (o1 : 0 ≤ at_ ∧ at_ < (s.stages.length : Int)) (o2 : ((rowStg s.stages).drop ((0 + (Int.toNat at_) * 3) + 0)).take 1 = [.int .i64 se.kind]) (o3 : (se.kind != 4) = true) (o4 : 0 ≤ at_ ∧ at_ < (s.stages.length : Int)) (o5 : ((rowStg s.stages).drop (0 + (Int.toNat at_) * 3)).take 3 = [.int .i64 se.kind, .int .i64 se.prize, .rsl (rowTrn se.turns) 0 se.turns.length]) (o8 : 0 ≤ at_ ∧ at_ < (plan.length : Int)) (o9 : ((rowI plan).drop (0 + (Int.toNat at_) * 1)).take 1 = [.int .i64 e]) (o10 : (se.kind == 1) = true) (o11 : (decide ((used : Int) ≥ (draws.length : Int))) = true)
    (hr : AvLe (.tup [.nilSl, .int .i64 0, .int .i64 1]) res) : G Try.prog E (f46K0 Try.prog) (f46S0 s plan draws at_ v1 used g1) :=
  end_stepL (n := 400) (evs := [.auto, .ld (.int .i64 se.kind), .b true, .auto, .ld (.agg [.int .i64 se.kind, .int .i64 se.prize, .rsl (rowTrn se.turns) 0 se.turns.length]), .ld (.int .i64 e), .b true, .b true, .b true]) (obs := [0 ≤ at_ ∧ at_ < (s.stages.length : Int), ((rowStg s.stages).drop ((0 + (Int.toNat at_) * 3) + 0)).take 1 = [.int .i64 se.kind], (se.kind != 4) = true, 0 ≤ at_ ∧ at_ < (s.stages.length : Int), ((rowStg s.stages).drop (0 + (Int.toNat at_) * 3)).take 3 = [.int .i64 se.kind, .int .i64 se.prize, .rsl (rowTrn se.turns) 0 se.turns.length], 3 ≤ 3, 0 ≤ at_ ∧ at_ < (plan.length : Int), ((rowI plan).drop (0 + (Int.toNat at_) * 1)).take 1 = [.int .i64 e], (se.kind == 1) = true, (decide ((used : Int) ≥ (draws.length : Int))) = true, true = true]) hE Try.func46 mixed (by kernel_rfl) ⟨o1, o2, o3, o4, o5, (by decide), o8, o9, o10, o11, (rfl), trivial⟩ hr
theorem p46_0_1 (s : Stl) (plan : (List Int)) (draws : (List Int)) (at_ : Int) (v1 : List Int) (used : Nat) (g1 : Nat) (se : Stg) (e : Int) (e1 : Int)  {E : Env} {res : AV} (hE : PureE Try.prog 46 res E) (o1 : 0 ≤ at_ ∧ at_ < (s.stages.length : Int)) (o2 : ((rowStg s.stages).drop ((0 + (Int.toNat at_) * 3) + 0)).take 1 = [.int .i64 se.kind]) (o3 : (se.kind != 4) = true) (o4 : 0 ≤ at_ ∧ at_ < (s.stages.length : Int)) (o5 : ((rowStg s.stages).drop (0 + (Int.toNat at_) * 3)).take 3 = [.int .i64 se.kind, .int .i64 se.prize, .rsl (rowTrn se.turns) 0 se.turns.length]) (o8 : 0 ≤ at_ ∧ at_ < (plan.length : Int)) (o9 : ((rowI plan).drop (0 + (Int.toNat at_) * 1)).take 1 = [.int .i64 e]) (o10 : (se.kind == 1) = true) (o11 : (decide ((used : Int) ≥ (draws.length : Int))) = false) (o13 : 0 ≤ (used : Int) ∧ (used : Int) < (draws.length : Int)) (o14 : ((rowI draws).drop (0 + (Int.toNat (used : Int)) * 1)).take 1 = [.int .i64 e1]) (o15 : PureF Try.prog (.clos 100 [] []) [.agg [.int .i64 se.kind, .int .i64 se.prize, .rsl (rowTrn se.turns) 0 se.turns.length]] (.int .i64 (totI se))) (o16 : InR .i64 ((totI se) - 1)) (o17 : PureF Try.prog (.clos 62 [] []) [.int .i64 e1, .int .i64 0, .int .i64 ((totI se) - 1)] (.bool (within e1 0 ((totI se) - 1)))) (o18 : (!(within e1 0 ((totI se) - 1))) = true)
    (hr : AvLe (.tup [.nilSl, .int .i64 0, .int .i64 1]) res) : G Try.prog E (f46K0 Try.prog) (f46S0 s plan draws at_ v1 used g1) :=
  end_stepL (n := 400) (evs := [.auto, .ld (.int .i64 se.kind), .b true, .auto, .ld (.agg [.int .i64 se.kind, .int .i64 se.prize, .rsl (rowTrn se.turns) 0 se.turns.length]), .ld (.int .i64 e), .b true, .b false, .ld (.int .i64 e1), .v (.int .i64 (totI se)), .v (.bool (within e1 0 ((totI se) - 1))), .b true]) (obs := [0 ≤ at_ ∧ at_ < (s.stages.length : Int), ((rowStg s.stages).drop ((0 + (Int.toNat at_) * 3) + 0)).take 1 = [.int .i64 se.kind], (se.kind != 4) = true, 0 ≤ at_ ∧ at_ < (s.stages.length : Int), ((rowStg s.stages).drop (0 + (Int.toNat at_) * 3)).take 3 = [.int .i64 se.kind, .int .i64 se.prize, .rsl (rowTrn se.turns) 0 se.turns.length], 3 ≤ 3, 0 ≤ at_ ∧ at_ < (plan.length : Int), ((rowI plan).drop (0 + (Int.toNat at_) * 1)).take 1 = [.int .i64 e], (se.kind == 1) = true, (decide ((used : Int) ≥ (draws.length : Int))) = false, 0 ≤ (used : Int) ∧ (used : Int) < (draws.length : Int), ((rowI draws).drop (0 + (Int.toNat (used : Int)) * 1)).take 1 = [.int .i64 e1], PureF Try.prog (.clos 100 [] []) [.agg [.int .i64 se.kind, .int .i64 se.prize, .rsl (rowTrn se.turns) 0 se.turns.length]] (.int .i64 (totI se)), InR .i64 ((totI se) - 1), PureF Try.prog (.clos 62 [] []) [.int .i64 e1, .int .i64 0, .int .i64 ((totI se) - 1)] (.bool (within e1 0 ((totI se) - 1))), (!(within e1 0 ((totI se) - 1))) = true]) hE Try.func46 mixed (by kernel_rfl) ⟨o1, o2, o3, o4, o5, (by decide), o8, o9, o10, o11, o13, o14, o15, o16, o17, o18, trivial⟩ hr
theorem p46_0_2 (s : Stl) (plan : (List Int)) (draws : (List Int)) (at_ : Int) (v1 : List Int) (used : Nat) (g1 : Nat) (se : Stg) (e : Int) (e1 : Int)  {E : Env} {rv : AV} (hE : PureE Try.prog 46 rv E) (o1 : 0 ≤ at_ ∧ at_ < (s.stages.length : Int)) (o2 : ((rowStg s.stages).drop ((0 + (Int.toNat at_) * 3) + 0)).take 1 = [.int .i64 se.kind]) (o3 : (se.kind != 4) = true) (o4 : 0 ≤ at_ ∧ at_ < (s.stages.length : Int)) (o5 : ((rowStg s.stages).drop (0 + (Int.toNat at_) * 3)).take 3 = [.int .i64 se.kind, .int .i64 se.prize, .rsl (rowTrn se.turns) 0 se.turns.length]) (o8 : 0 ≤ at_ ∧ at_ < (plan.length : Int)) (o9 : ((rowI plan).drop (0 + (Int.toNat at_) * 1)).take 1 = [.int .i64 e]) (o10 : (se.kind == 1) = true) (o11 : (decide ((used : Int) ≥ (draws.length : Int))) = false) (o13 : 0 ≤ (used : Int) ∧ (used : Int) < (draws.length : Int)) (o14 : ((rowI draws).drop (0 + (Int.toNat (used : Int)) * 1)).take 1 = [.int .i64 e1]) (o15 : PureF Try.prog (.clos 100 [] []) [.agg [.int .i64 se.kind, .int .i64 se.prize, .rsl (rowTrn se.turns) 0 se.turns.length]] (.int .i64 (totI se))) (o16 : InR .i64 ((totI se) - 1)) (o17 : PureF Try.prog (.clos 62 [] []) [.int .i64 e1, .int .i64 0, .int .i64 ((totI se) - 1)] (.bool (within e1 0 ((totI se) - 1)))) (o18 : (!(within e1 0 ((totI se) - 1))) = false) (o19 : 0 ≤ (used : Int) ∧ (used : Int) < (draws.length : Int)) (o20 : ((rowI draws).drop (0 + (Int.toNat (used : Int)) * 1)).take 1 = [.int .i64 e1])
    (hg : G Try.prog E (f46K1 Try.prog) ⟨[.junk, .rsl (rowI plan) 0 plan.length, .rsl (rowI draws) 0 draws.length, .ptr 0 0 0, .junk, .junk, .junk, .junk, .junk, .junk, .junk, .int .i64 (used : Int), .sl 1 g1 0 v1.length 1, .ptr 2 0 0, .int .i64 0, .int .i64 e1, .junk, .junk, .junk, .junk, .junk, .junk, .junk, .junk, .junk, .junk, .junk, .junk, .junk, .junk, .junk, .junk, .junk, .junk, .junk, .junk, .junk, .junk, .junk, .junk, .junk, .junk, .junk, .junk, .junk, .junk, .junk, .junk, .junk, .junk, .junk, .junk, .junk, .junk, .junk, .junk, .junk, .junk, .junk, .junk, .junk, .junk, .junk, .junk, .junk, .junk, .junk, .junk, .junk, .junk, .junk, .junk, .junk, .junk, .junk, .junk, .junk, .junk, .junk, .junk, .junk, .junk, .junk, .junk, .junk, .junk, .junk, .junk, .junk, .junk, .junk, .junk, .junk, .junk, .junk, .junk, .junk, .junk], [⟨true, 0, 1, true, [.rsl (rowStg s.stages) 0 s.stages.length, .rsl (rowI s.worth) 0 s.worth.length, .int .i64 s.price], false⟩, ⟨true, g1, 1, true, (rowI v1), true⟩, ⟨true, 0, 1, true, [.int .i64 se.kind, .int .i64 se.prize, .rsl (rowTrn se.turns) 0 se.turns.length], false⟩]⟩) : G Try.prog E (f46K0 Try.prog) (f46S0 s plan draws at_ v1 used g1) :=
  segC_step (n := 400) (ds := []) (cs := []) (live := [1, 2, 3, 11, 12, 13, 14, 15]) (m := 3) (evs := [.auto, .ld (.int .i64 se.kind), .b true, .auto, .ld (.agg [.int .i64 se.kind, .int .i64 se.prize, .rsl (rowTrn se.turns) 0 se.turns.length]), .ld (.int .i64 e), .b true, .b false, .ld (.int .i64 e1), .v (.int .i64 (totI se)), .v (.bool (within e1 0 ((totI se) - 1))), .b false, .ld (.int .i64 e1), .stop]) (obs := [0 ≤ at_ ∧ at_ < (s.stages.length : Int), ((rowStg s.stages).drop ((0 + (Int.toNat at_) * 3) + 0)).take 1 = [.int .i64 se.kind], (se.kind != 4) = true, 0 ≤ at_ ∧ at_ < (s.stages.length : Int), ((rowStg s.stages).drop (0 + (Int.toNat at_) * 3)).take 3 = [.int .i64 se.kind, .int .i64 se.prize, .rsl (rowTrn se.turns) 0 se.turns.length], 3 ≤ 3, 0 ≤ at_ ∧ at_ < (plan.length : Int), ((rowI plan).drop (0 + (Int.toNat at_) * 1)).take 1 = [.int .i64 e], (se.kind == 1) = true, (decide ((used : Int) ≥ (draws.length : Int))) = false, 0 ≤ (used : Int) ∧ (used : Int) < (draws.length : Int), ((rowI draws).drop (0 + (Int.toNat (used : Int)) * 1)).take 1 = [.int .i64 e1], PureF Try.prog (.clos 100 [] []) [.agg [.int .i64 se.kind, .int .i64 se.prize, .rsl (rowTrn se.turns) 0 se.turns.length]] (.int .i64 (totI se)), InR .i64 ((totI se) - 1), PureF Try.prog (.clos 62 [] []) [.int .i64 e1, .int .i64 0, .int .i64 ((totI se) - 1)] (.bool (within e1 0 ((totI se) - 1))), (!(within e1 0 ((totI se) - 1))) = false, 0 ≤ (used : Int) ∧ (used : Int) < (draws.length : Int), ((rowI draws).drop (0 + (Int.toNat (used : Int)) * 1)).take 1 = [.int .i64 e1]]) hE.2.1 (hE.nogh _) mixed (by kernel_rfl) ⟨o1, o2, o3, o4, o5, (by decide), o8, o9, o10, o11, o13, o14, o15, o16, o17, o18, o19, o20, trivial⟩ hg
theorem p46_0_3 (s : Stl) (plan : (List Int)) (draws : (List Int)) (at_ : Int) (v1 : List Int) (used : Nat) (g1 : Nat) (se : Stg) (e : Int) (te : Trn)  {E : Env} {rv : AV} (hE : PureE Try.prog 46 rv E) (o1 : 0 ≤ at_ ∧ at_ < (s.stages.length : Int)) (o2 : ((rowStg s.stages).drop ((0 + (Int.toNat at_) * 3) + 0)).take 1 = [.int .i64 se.kind]) (o3 : (se.kind != 4) = true) (o4 : 0 ≤ at_ ∧ at_ < (s.stages.length : Int)) (o5 : ((rowStg s.stages).drop (0 + (Int.toNat at_) * 3)).take 3 = [.int .i64 se.kind, .int .i64 se.prize, .rsl (rowTrn se.turns) 0 se.turns.length]) (o8 : 0 ≤ at_ ∧ at_ < (plan.length : Int)) (o9 : ((rowI plan).drop (0 + (Int.toNat at_) * 1)).take 1 = [.int .i64 e]) (o10 : (se.kind == 1) = false) (o12 : 0 ≤ e ∧ e < (se.turns.length : Int)) (o13 : ((rowTrn se.turns).drop ((0 + (Int.toNat e) * 2) + 1)).take 1 = [.int .i64 te.to]) (o15 : (0 + (v1.length * 1)) = (rowI v1).length) (o16 : (v1.length + 1) ≤ 2147483648)
    (hg : G Try.prog E (f46K0 Try.prog) ⟨[.junk, .rsl (rowI plan) 0 plan.length, .rsl (rowI draws) 0 draws.length, .ptr 0 0 0, .junk, .junk, .junk, .junk, .junk, .junk, .int .i64 te.to, .int .i64 (used : Int), .sl 1 (g1 + 1) 0 (v1.length + 1) 1, .junk, .junk, .junk, .junk, .junk, .junk, .junk, .junk, .junk, .junk, .junk, .junk, .junk, .junk, .junk, .junk, .junk, .junk, .junk, .junk, .junk, .junk, .junk, .junk, .junk, .junk, .junk, .junk, .junk, .junk, .junk, .junk, .junk, .junk, .junk, .junk, .junk, .junk, .junk, .junk, .junk, .junk, .junk, .junk, .junk, .junk, .junk, .junk, .junk, .junk, .junk, .junk, .junk, .junk, .junk, .junk, .junk, .junk, .junk, .junk, .junk, .junk, .junk, .junk, .junk, .junk, .junk, .junk, .junk, .junk, .junk, .junk, .junk, .junk, .junk, .junk, .junk, .junk, .junk, .junk, .junk, .junk, .junk, .junk, .junk], [⟨true, 0, 1, true, [.rsl (rowStg s.stages) 0 s.stages.length, .rsl (rowI s.worth) 0 s.worth.length, .int .i64 s.price], false⟩, ⟨true, (g1 + 1), 1, true, ((rowI v1) ++ [.int .i64 te.to]), true⟩]⟩) : G Try.prog E (f46K0 Try.prog) (f46S0 s plan draws at_ v1 used g1) :=
  segC_step (n := 400) (ds := []) (cs := []) (live := [1, 2, 3, 10, 11, 12]) (m := 2) (evs := [.auto, .ld (.int .i64 se.kind), .b true, .auto, .ld (.agg [.int .i64 se.kind, .int .i64 se.prize, .rsl (rowTrn se.turns) 0 se.turns.length]), .ld (.int .i64 e), .b false, .auto, .ld (.int .i64 te.to), .stop]) (obs := [0 ≤ at_ ∧ at_ < (s.stages.length : Int), ((rowStg s.stages).drop ((0 + (Int.toNat at_) * 3) + 0)).take 1 = [.int .i64 se.kind], (se.kind != 4) = true, 0 ≤ at_ ∧ at_ < (s.stages.length : Int), ((rowStg s.stages).drop (0 + (Int.toNat at_) * 3)).take 3 = [.int .i64 se.kind, .int .i64 se.prize, .rsl (rowTrn se.turns) 0 se.turns.length], 3 ≤ 3, 0 ≤ at_ ∧ at_ < (plan.length : Int), ((rowI plan).drop (0 + (Int.toNat at_) * 1)).take 1 = [.int .i64 e], (se.kind == 1) = false, 0 ≤ e ∧ e < (se.turns.length : Int), ((rowTrn se.turns).drop ((0 + (Int.toNat e) * 2) + 1)).take 1 = [.int .i64 te.to], g1 = g1, (0 + (v1.length * 1)) = (rowI v1).length, (v1.length + 1) ≤ 2147483648, 0 = 0]) hE.2.1 (hE.nogh _) mixed (by kernel_rfl) ⟨o1, o2, o3, o4, o5, (by decide), o8, o9, o10, o12, o13, (rfl), o15, o16, (rfl), trivial⟩ hg
theorem p46_0_4 (s : Stl) (plan : (List Int)) (draws : (List Int)) (at_ : Int) (v1 : List Int) (used : Nat) (g1 : Nat) (se : Stg)  {E : Env} {res : AV} (hE : PureE Try.prog 46 res E) (o1 : 0 ≤ at_ ∧ at_ < (s.stages.length : Int)) (o2 : ((rowStg s.stages).drop ((0 + (Int.toNat at_) * 3) + 0)).take 1 = [.int .i64 se.kind]) (o3 : (se.kind != 4) = false) (o4 : 0 ≤ at_ ∧ at_ < (s.stages.length : Int)) (o5 : ((rowStg s.stages).drop ((0 + (Int.toNat at_) * 3) + 1)).take 1 = [.int .i64 se.prize])
    (hr : AvLe (.tup [.rsl (rowI v1) 0 v1.length, .int .i64 se.prize, .int .i64 0]) res) : G Try.prog E (f46K0 Try.prog) (f46S0 s plan draws at_ v1 used g1) :=
  end_stepL (n := 400) (evs := [.auto, .ld (.int .i64 se.kind), .b false, .auto, .ld (.int .i64 se.prize)]) (obs := [0 ≤ at_ ∧ at_ < (s.stages.length : Int), ((rowStg s.stages).drop ((0 + (Int.toNat at_) * 3) + 0)).take 1 = [.int .i64 se.kind], (se.kind != 4) = false, 0 ≤ at_ ∧ at_ < (s.stages.length : Int), ((rowStg s.stages).drop ((0 + (Int.toNat at_) * 3) + 1)).take 1 = [.int .i64 se.prize], g1 = g1]) hE Try.func46 mixed (by kernel_rfl) ⟨o1, o2, o3, o4, o5, (rfl), trivial⟩ hr
theorem f46W0 (s : Stl) (plan : (List Int)) (draws : (List Int)) (at_ : Int) (v1 : List Int) (used : Nat) {E : Env} {rv : ((List Int) × Int × Int)} (hE : PureE Try.prog 46 (.tup [.rsl (rowI rv.1) 0 rv.1.length, .int .i64 rv.2.1, .int .i64 rv.2.2]) E)
    (h : (0 ≤ at_ ∧ (∃ se : Stg, s.stages[Int.toNat at_]? = some se ∧ ((¬ (se.kind = 4) → (0 ≤ at_ ∧ (∃ e : Int, plan[Int.toNat at_]? = some e ∧ ((se.kind = 1 → (((used : Int) ≥ (draws.length : Int) → rv = (([] : List Int), 0, 1)) ∧ (¬ ((used : Int) ≥ (draws.length : Int)) → (∃ e1 : Int, draws[used]? = some e1 ∧ ((TotOk se) ∧ ((-9223372036854775808 ≤ (totI se) - 1 ∧ (totI se) - 1 ≤ 9223372036854775807) ∧ (((within e1 0 ((totI se) - 1)) = false → rv = (([] : List Int), 0, 1)) ∧ ((within e1 0 ((totI se) - 1)) = true → f46G1 E s plan draws e1 se.kind se.prize se.turns v1 0 used)))))))) ∧ (¬ (se.kind = 1) → (0 ≤ e ∧ (∃ te : Trn, se.turns[Int.toNat e]? = some te ∧ ((v1.length + 1) ≤ 2147483648 ∧ f46G0 E s plan draws te.to (v1 ++ [te.to]) used)))))))) ∧ (se.kind = 4 → rv = (v1, se.prize, 0)))))) : f46G0 E s plan draws at_ v1 used := by
  intro g1
  obtain ⟨h2, h⟩ := h
  obtain ⟨se, h1, h⟩ := h
  rcases Bool.eq_false_or_eq_true (se.kind != 4) with hc0 | hc0
  · have h := h.1 (bneT hc0)
    obtain ⟨h4, h⟩ := h
    obtain ⟨e, h3, h⟩ := h
    rcases Bool.eq_false_or_eq_true (se.kind == 1) with hc1 | hc1
    · have h := h.1 (eq_of_beq hc1)
      rcases Bool.eq_false_or_eq_true (decide ((used : Int) ≥ (draws.length : Int))) with hc2 | hc2
      · have h := h.1 (of_decide_eq_true hc2)
        exact p46_0_0 s plan draws at_ v1 used g1 se e hE (idx_ok' h2 h1) (row_part cStg (s := 3) (k := 0) (m := 1) (fun _ => rfl) (by decide) h1) hc0 (idx_ok' h2 h1) (row_part cStg (s := 3) (k := 0) (m := 3) (fun _ => rfl) (by decide) h1) (idx_ok' h4 h3) (row_part cI (s := 1) (k := 0) (m := 1) (fun _ => rfl) (by decide) h3) hc1 hc2 (by rw [h]; exact (tup_le ⟨nil_le, ⟨AvLe.of_eq rfl, ⟨AvLe.of_eq rfl, trivial⟩⟩⟩))
      · have h := h.2 (of_decide_eq_false hc2)
        obtain ⟨e1, h5, h⟩ := h
        obtain ⟨h6, h⟩ := h
        obtain ⟨q16_3, h⟩ := h
        rcases Bool.eq_false_or_eq_true (!(within e1 0 ((totI se) - 1))) with hc3 | hc3
        · have h := h.1 (bnT hc3)
          exact p46_0_1 s plan draws at_ v1 used g1 se e e1 hE (idx_ok' h2 h1) (row_part cStg (s := 3) (k := 0) (m := 1) (fun _ => rfl) (by decide) h1) hc0 (idx_ok' h2 h1) (row_part cStg (s := 3) (k := 0) (m := 3) (fun _ => rfl) (by decide) h1) (idx_ok' h4 h3) (row_part cI (s := 1) (k := 0) (m := 1) (fun _ => rfl) (by decide) h3) hc1 hc2 (idx_ok h5) (row_part cI (s := 1) (k := 0) (m := 1) (fun _ => rfl) (by decide) h5) (pureF_of Try.func100 (by kernel_rfl) f100b (totalR_ok se h6)) q16_3 (pureF_of Try.func62 (by kernel_rfl) f62b (withinR_ok e1 0 ((totI se) - 1))) hc3 (by rw [h]; exact (tup_le ⟨nil_le, ⟨AvLe.of_eq rfl, ⟨AvLe.of_eq rfl, trivial⟩⟩⟩))
        · have h := h.2 (bnF hc3)
          exact p46_0_2 s plan draws at_ v1 used g1 se e e1 hE (idx_ok' h2 h1) (row_part cStg (s := 3) (k := 0) (m := 1) (fun _ => rfl) (by decide) h1) hc0 (idx_ok' h2 h1) (row_part cStg (s := 3) (k := 0) (m := 3) (fun _ => rfl) (by decide) h1) (idx_ok' h4 h3) (row_part cI (s := 1) (k := 0) (m := 1) (fun _ => rfl) (by decide) h3) hc1 hc2 (idx_ok h5) (row_part cI (s := 1) (k := 0) (m := 1) (fun _ => rfl) (by decide) h5) (pureF_of Try.func100 (by kernel_rfl) f100b (totalR_ok se h6)) q16_3 (pureF_of Try.func62 (by kernel_rfl) f62b (withinR_ok e1 0 ((totI se) - 1))) hc3 (idx_ok h5) (row_part cI (s := 1) (k := 0) (m := 1) (fun _ => rfl) (by decide) h5) (h g1)
    · have h := h.2 (ne_of_beq_false hc1)
      obtain ⟨h6, h⟩ := h
      obtain ⟨te, h5, h⟩ := h
      obtain ⟨h7, h⟩ := h
      refine p46_0_3 s plan draws at_ v1 used g1 se e te hE (idx_ok' h2 h1) (row_part cStg (s := 3) (k := 0) (m := 1) (fun _ => rfl) (by decide) h1) hc0 (idx_ok' h2 h1) (row_part cStg (s := 3) (k := 0) (m := 3) (fun _ => rfl) (by decide) h1) (idx_ok' h4 h3) (row_part cI (s := 1) (k := 0) (m := 1) (fun _ => rfl) (by decide) h3) hc1 (idx_ok' h6 h5) (row_part cTrn (s := 2) (k := 1) (m := 1) (fun _ => rfl) (by decide) h5) (by have hx := row_len cI (s := 1) (fun _ => rfl) v1; simp only [rowI] at hx ⊢; rw [hx]; simp) h7 ?_
      rw [(show rowI v1 ++ [.int .i64 te.to] = rowI (v1 ++ [te.to]) from (row_app cI v1 [te.to]).symm)]; rw [(show (v1.length + 1) = (v1 ++ [te.to]).length from by simp)]; exact (h (g1 + 1))
  · have h := h.2 (bneF hc0)
    exact p46_0_4 s plan draws at_ v1 used g1 se hE (idx_ok' h2 h1) (row_part cStg (s := 3) (k := 0) (m := 1) (fun _ => rfl) (by decide) h1) hc0 (idx_ok' h2 h1) (row_part cStg (s := 3) (k := 1) (m := 1) (fun _ => rfl) (by decide) h1) (AvLe.of_eq (by rw [h]; try rfl))
theorem p46_1_0 (s : Stl) (plan : (List Int)) (draws : (List Int)) (rest : Int) (v2_0 : Int) (v2_1 : Int) (v2_2 : (List Trn)) (v1 : List Int) (turn : Nat) (used : Nat) (g1 : Nat) (te : Trn)  {E : Env} {rv : AV} (hE : PureE Try.prog 46 rv E) (o1 : 0 ≤ (turn : Int) ∧ (turn : Int) < (v2_2.length : Int)) (o2 : ((rowTrn v2_2).drop ((0 + (Int.toNat (turn : Int)) * 2) + 0)).take 1 = [.int .i64 te.w]) (o3 : (decide (rest ≥ te.w)) = true) (o4 : 0 ≤ (turn : Int) ∧ (turn : Int) < (v2_2.length : Int)) (o5 : ((rowTrn v2_2).drop ((0 + (Int.toNat (turn : Int)) * 2) + 0)).take 1 = [.int .i64 te.w]) (o6 : InR .i64 (rest - te.w)) (o7 : InR .i64 ((turn : Int) + 1))
    (hg : G Try.prog E (f46K1 Try.prog) ⟨[.junk, .rsl (rowI plan) 0 plan.length, .rsl (rowI draws) 0 draws.length, .ptr 0 0 0, .junk, .junk, .junk, .junk, .junk, .junk, .junk, .int .i64 (used : Int), .sl 1 g1 0 v1.length 1, .ptr 2 0 0, .int .i64 ((turn : Int) + 1), .int .i64 (rest - te.w), .junk, .junk, .junk, .junk, .junk, .junk, .junk, .junk, .junk, .junk, .junk, .junk, .junk, .junk, .junk, .junk, .junk, .junk, .junk, .junk, .junk, .junk, .junk, .junk, .junk, .junk, .junk, .junk, .junk, .junk, .junk, .junk, .junk, .junk, .junk, .junk, .junk, .junk, .junk, .junk, .junk, .junk, .junk, .junk, .junk, .junk, .junk, .junk, .junk, .junk, .junk, .junk, .junk, .junk, .junk, .junk, .junk, .junk, .junk, .junk, .junk, .junk, .junk, .junk, .junk, .junk, .junk, .junk, .junk, .junk, .junk, .junk, .junk, .junk, .junk, .junk, .junk, .junk, .junk, .junk, .junk, .junk], [⟨true, 0, 1, true, [.rsl (rowStg s.stages) 0 s.stages.length, .rsl (rowI s.worth) 0 s.worth.length, .int .i64 s.price], false⟩, ⟨true, g1, 1, true, (rowI v1), true⟩, ⟨true, 0, 1, true, [.int .i64 v2_0, .int .i64 v2_1, .rsl (rowTrn v2_2) 0 v2_2.length], false⟩]⟩) : G Try.prog E (f46K1 Try.prog) (f46S1 s plan draws rest v2_0 v2_1 v2_2 v1 turn used g1) :=
  segC_step (n := 400) (ds := []) (cs := []) (live := [1, 2, 3, 11, 12, 13, 14, 15]) (m := 3) (evs := [.auto, .ld (.int .i64 te.w), .b true, .auto, .ld (.int .i64 te.w), .stop]) (obs := [0 ≤ (turn : Int) ∧ (turn : Int) < (v2_2.length : Int), ((rowTrn v2_2).drop ((0 + (Int.toNat (turn : Int)) * 2) + 0)).take 1 = [.int .i64 te.w], (decide (rest ≥ te.w)) = true, 0 ≤ (turn : Int) ∧ (turn : Int) < (v2_2.length : Int), ((rowTrn v2_2).drop ((0 + (Int.toNat (turn : Int)) * 2) + 0)).take 1 = [.int .i64 te.w], InR .i64 (rest - te.w), InR .i64 ((turn : Int) + 1)]) hE.2.1 (hE.nogh _) mixed (by kernel_rfl) ⟨o1, o2, o3, o4, o5, o6, o7, trivial⟩ hg
theorem p46_1_1 (s : Stl) (plan : (List Int)) (draws : (List Int)) (rest : Int) (v2_0 : Int) (v2_1 : Int) (v2_2 : (List Trn)) (v1 : List Int) (turn : Nat) (used : Nat) (g1 : Nat) (te : Trn)  {E : Env} {rv : AV} (hE : PureE Try.prog 46 rv E) (o1 : 0 ≤ (turn : Int) ∧ (turn : Int) < (v2_2.length : Int)) (o2 : ((rowTrn v2_2).drop ((0 + (Int.toNat (turn : Int)) * 2) + 0)).take 1 = [.int .i64 te.w]) (o3 : (decide (rest ≥ te.w)) = false) (o4 : InR .i64 ((used : Int) + 1)) (o5 : 0 ≤ (turn : Int) ∧ (turn : Int) < (v2_2.length : Int)) (o6 : ((rowTrn v2_2).drop ((0 + (Int.toNat (turn : Int)) * 2) + 1)).take 1 = [.int .i64 te.to]) (o8 : (0 + (v1.length * 1)) = (rowI v1).length) (o9 : (v1.length + 1) ≤ 2147483648)
    (hg : G Try.prog E (f46K0 Try.prog) ⟨[.junk, .rsl (rowI plan) 0 plan.length, .rsl (rowI draws) 0 draws.length, .ptr 0 0 0, .junk, .junk, .junk, .junk, .junk, .junk, .int .i64 te.to, .int .i64 ((used : Int) + 1), .sl 1 (g1 + 1) 0 (v1.length + 1) 1, .junk, .junk, .junk, .junk, .junk, .junk, .junk, .junk, .junk, .junk, .junk, .junk, .junk, .junk, .junk, .junk, .junk, .junk, .junk, .junk, .junk, .junk, .junk, .junk, .junk, .junk, .junk, .junk, .junk, .junk, .junk, .junk, .junk, .junk, .junk, .junk, .junk, .junk, .junk, .junk, .junk, .junk, .junk, .junk, .junk, .junk, .junk, .junk, .junk, .junk, .junk, .junk, .junk, .junk, .junk, .junk, .junk, .junk, .junk, .junk, .junk, .junk, .junk, .junk, .junk, .junk, .junk, .junk, .junk, .junk, .junk, .junk, .junk, .junk, .junk, .junk, .junk, .junk, .junk, .junk, .junk, .junk, .junk, .junk, .junk], [⟨true, 0, 1, true, [.rsl (rowStg s.stages) 0 s.stages.length, .rsl (rowI s.worth) 0 s.worth.length, .int .i64 s.price], false⟩, ⟨true, (g1 + 1), 1, true, ((rowI v1) ++ [.int .i64 te.to]), true⟩]⟩) : G Try.prog E (f46K1 Try.prog) (f46S1 s plan draws rest v2_0 v2_1 v2_2 v1 turn used g1) :=
  segC_step (n := 400) (ds := []) (cs := []) (live := [1, 2, 3, 10, 11, 12]) (m := 2) (evs := [.auto, .ld (.int .i64 te.w), .b false, .auto, .ld (.int .i64 te.to), .stop]) (obs := [0 ≤ (turn : Int) ∧ (turn : Int) < (v2_2.length : Int), ((rowTrn v2_2).drop ((0 + (Int.toNat (turn : Int)) * 2) + 0)).take 1 = [.int .i64 te.w], (decide (rest ≥ te.w)) = false, InR .i64 ((used : Int) + 1), 0 ≤ (turn : Int) ∧ (turn : Int) < (v2_2.length : Int), ((rowTrn v2_2).drop ((0 + (Int.toNat (turn : Int)) * 2) + 1)).take 1 = [.int .i64 te.to], g1 = g1, (0 + (v1.length * 1)) = (rowI v1).length, (v1.length + 1) ≤ 2147483648, 0 = 0]) hE.2.1 (hE.nogh _) mixed (by kernel_rfl) ⟨o1, o2, o3, o4, o5, o6, (rfl), o8, o9, (rfl), trivial⟩ hg
theorem f46W1 (s : Stl) (plan : (List Int)) (draws : (List Int)) (rest : Int) (v2_0 : Int) (v2_1 : Int) (v2_2 : (List Trn)) (v1 : List Int) (turn : Nat) (used : Nat) {E : Env} {rv : ((List Int) × Int × Int)} (hE : PureE Try.prog 46 (.tup [.rsl (rowI rv.1) 0 rv.1.length, .int .i64 rv.2.1, .int .i64 rv.2.2]) E)
    (h : (∃ te : Trn, v2_2[turn]? = some te ∧ ((rest ≥ te.w → ((-9223372036854775808 ≤ rest - te.w ∧ rest - te.w ≤ 9223372036854775807) ∧ ((-9223372036854775808 ≤ (turn : Int) + 1 ∧ (turn : Int) + 1 ≤ 9223372036854775807) ∧ f46G1 E s plan draws (rest - te.w) v2_0 v2_1 v2_2 v1 (turn + 1) used))) ∧ (¬ (rest ≥ te.w) → ((-9223372036854775808 ≤ (used : Int) + 1 ∧ (used : Int) + 1 ≤ 9223372036854775807) ∧ ((v1.length + 1) ≤ 2147483648 ∧ f46G0 E s plan draws te.to (v1 ++ [te.to]) (used + 1))))))) : f46G1 E s plan draws rest v2_0 v2_1 v2_2 v1 turn used := by
  intro g1
  obtain ⟨te, h1, h⟩ := h
  rcases Bool.eq_false_or_eq_true (decide (rest ≥ te.w)) with hc0 | hc0
  · have h := h.1 (of_decide_eq_true hc0)
    obtain ⟨q6_1, h⟩ := h
    obtain ⟨q7_1, h⟩ := h
    exact p46_1_0 s plan draws rest v2_0 v2_1 v2_2 v1 turn used g1 te hE (idx_ok h1) (row_part cTrn (s := 2) (k := 0) (m := 1) (fun _ => rfl) (by decide) h1) hc0 (idx_ok h1) (row_part cTrn (s := 2) (k := 0) (m := 1) (fun _ => rfl) (by decide) h1) q6_1 q7_1 (h g1)
  · have h := h.2 (of_decide_eq_false hc0)
    obtain ⟨q4_1, h⟩ := h
    obtain ⟨h2, h⟩ := h
    refine p46_1_1 s plan draws rest v2_0 v2_1 v2_2 v1 turn used g1 te hE (idx_ok h1) (row_part cTrn (s := 2) (k := 0) (m := 1) (fun _ => rfl) (by decide) h1) hc0 q4_1 (idx_ok h1) (row_part cTrn (s := 2) (k := 1) (m := 1) (fun _ => rfl) (by decide) h1) (by have hx := row_len cI (s := 1) (fun _ => rfl) v1; simp only [rowI] at hx ⊢; rw [hx]; simp) h2 ?_
    rw [(show rowI v1 ++ [.int .i64 te.to] = rowI (v1 ++ [te.to]) from (row_app cI v1 [te.to]).symm)]; rw [(show (v1.length + 1) = (v1 ++ [te.to]).length from by simp)]; exact (h (g1 + 1))

theorem play_ok (s : Stl) (plan draws : List Int) (h : (s.stages.length ≤ 9223372036854775807 ∧ s.worth.length ≤ 9223372036854775807)) : Pure Try.prog 45 [avStl s, .rsl (rowI plan) 0 plan.length, .rsl (rowI draws) 0 draws.length] (.tup [.rsl (rowI (playK s plan draws).1) 0 (playK s plan draws).1.length, .int .i64 (playK s plan draws).2.1, .int .i64 (playK s plan draws).2.2]) := pure_of Try.func45 f45b fun E hE => by
  have main : planE s plan = 0 → f45G0 E s plan draws 0 [] draws := by
    intro he
    obtain ⟨hc, hpl⟩ := planE_of he
    obtain ⟨hm, es⟩ := mok_G (isSome_of hc)
    have hform := (stPre_of hm.st).2.2.2.2
    have hn := (stPre_of hm.st).1
    rw [es] at hform hn
    have hrv : playK s plan draws = playF s plan s.stages.length 0 [] draws := by rw [playK, if_pos he]
    have key : ∀ (n : Nat) (at_ : Int) (v ds : List Int) ,  0 ≤ at_ → at_ < (s.stages.length : Int) → (s.stages.length : Int) ≤ at_ + n → (v.length : Int) ≤ at_ → playK s plan draws = playF s plan n at_ v ds → f45G0 E s plan draws at_ v ds := by
      intro n
      induction n with
      | zero => intro at_ v ds  h0 h1 h2 h3 h4; omega
      | succ n ih =>
        intro at_ v ds  h0 h1 h2 h3 h4
        have hi : s.stages[Int.toNat at_]? = some s.stages[Int.toNat at_] := List.getElem?_eq_getElem (by omega)
        have hx : s.stages.getD (Int.toNat at_) ⟨0, 0, []⟩ = s.stages[Int.toNat at_] := by simp [List.getD, hi]
        have hto := turns_to hi (hform _ (by omega))
        have htt := tot_of hi (hform _ (by omega))
        have hfo := form_of hi (hform _ (by omega))
        obtain ⟨e, hpe, he0, he1⟩ := (planOk_of hpl).2 _ _ hi
        have hpi : planI plan at_ = e := by simp [planI, List.getD, hpe]
        unfold playF at h4
        rw [hx, hpi] at h4
        generalize s.stages[Int.toNat at_] = x at hi hto htt hfo he1 h4
        have nx := fun (t : Trn) (ht : t ∈ x.turns) (ds' : List Int)  (h5 : playK s plan draws = playF s plan n t.to (v ++ [at_]) ds') => ih t.to (v ++ [at_]) ds'  (by have := hto t ht; omega) (by have := hto t ht; omega) (by have := hto t ht; omega) (by have := hto t ht; simp; omega) h5
        refine f45W0 s plan draws at_ v ds (rv := playK s plan draws) hE ⟨h0, x, by rw [es]; exact hi, fun k4 => ?_, fun h4' => ⟨by omega, ?_⟩⟩
        · rw [if_neg k4] at h4
          refine ⟨by omega, h0, e, hpe, fun k1 => ?_, fun k1 => ?_⟩
          · rw [if_pos k1] at h4
            have hz : e = 0 := by rw [planMost, if_neg (by omega)] at he1; omega
            have hto2 := htt.2 k1
            cases ds with
            | nil => exact ⟨fun _ => h4, fun h => absurd rfl h⟩
            | cons d ds =>
            simp only at h4
            refine ⟨fun h => by simp at h; omega, fun _ => ⟨d, rfl, htt.1, by omega, fun hw => ?_, fun hw => ?_⟩⟩
            · rw [hw] at h4; exact h4
            rw [if_pos hw] at h4
            have hwd := within_iff.1 hw
            have hmem := drawT_mem (ts := x.turns) (d := d) hwd.1 (by have := hwd.2; rw [totI] at this; omega)
            have loop : ∀ (m k : Nat) (left : Int), k + m = x.turns.length → 0 ≤ left → left < ((x.turns.drop k).map (·.w)).sum → drawT (x.turns.drop k) left = drawT x.turns d → f45G1 E s plan draws (k : Int) left x.kind x.prize x.turns at_ (v ++ [at_]) (d :: ds) := by
              intro m
              induction m with
              | zero =>
                intro k left hk hl0 hl1 hd
                rw [List.drop_eq_nil_of_le (by omega)] at hl1; simp at hl1; omega
              | succ m ih2 =>
                intro k left hk hl0 hl1 hd
                have hkk : x.turns[k]? = some x.turns[k] := List.getElem?_eq_getElem (by omega)
                have htm := List.mem_of_getElem? hkk
                rw [List.drop_eq_getElem_cons (by omega)] at hl1 hd
                simp only [List.map_cons, List.sum_cons, drawT] at hl1 hd
                generalize x.turns[k] = te at hkk htm hl1 hd
                have hw := htt.1.2 te htm
                have htl := htt.1.1
                have hlb : left ≤ 1000000000 := by
                  have := tot_bd (l := x.turns.drop (k + 1)) (B := 1000000) fun t ht => htt.1.2 t (List.mem_of_mem_drop ht)
                  have h9 : ((x.turns.drop (k + 1)).length : Int) ≤ 998 := by rw [List.length_drop]; rcases hfo with ⟨q, -⟩ | ⟨-, -, q, -⟩ <;> omega
                  omega
                refine f45W1 s plan draws (k : Int) left x.kind x.prize x.turns at_ (v ++ [at_]) (d :: ds) (rv := playK s plan draws) hE ⟨by omega, te, by rw [Int.toNat_natCast]; exact hkk, fun hge => ⟨by omega, by omega, ?_⟩, fun hge => ⟨by simp, ?_⟩⟩
                · rw [if_pos hge] at hd
                  exact ih2 (k + 1) (left - te.w) (by omega) (by omega) (by omega) hd
                · rw [if_neg hge] at hd
                  rw [← hd] at h4
                  exact nx te htm ds h4
            rw [hz]
            exact loop x.turns.length 0 d (by omega) hwd.1 (by have := hwd.2; rw [totI] at this; simpa using (by omega : d < (x.turns.map (·.w)).sum)) (by simp)
          · rw [if_neg k1] at h4
            have hel : Int.toNat e < x.turns.length := by
              rcases hfo with ⟨q, -⟩ | ⟨q0, -, q, -⟩
              · exact absurd q k4
              · rw [planMost, if_pos (by omega)] at he1; omega
            have hte : x.turns[Int.toNat e]? = some x.turns[Int.toNat e] := List.getElem?_eq_getElem hel
            rw [show x.turns.getD (Int.toNat e) ⟨0, 0⟩ = x.turns[Int.toNat e] by simp [List.getD, hte]] at h4
            have htm := List.mem_of_getElem? hte
            generalize x.turns[Int.toNat e] = te at hte htm h4
            exact ⟨he0, te, hte, nx te htm ds h4⟩
        · rw [if_pos h4'] at h4
          exact h4
    exact key s.stages.length 0 [] draws (by omega) (by omega) (by omega) (by simp) hrv
  refine f45W s plan draws (rv := playK s plan draws) hE ⟨fun h0 => ⟨fun h1 => ⟨h, main ?_⟩, fun h1 => ⟨h, ?_⟩⟩, fun h0 => ⟨h, ?_⟩⟩
  · rw [planE_eq h0, if_pos h1]
  · have he : planE s plan = 1 := by rw [planE_eq h0, if_neg (by rw [h1]; simp)]
    rw [playK, if_neg (by omega), he]
  · have he : planE s plan = 60 := by rw [planE, if_neg (fun h => by rw [isSome_iff.2 h] at h0; cases h0)]
    rw [playK, if_neg (by omega), he]


theorem playR_ok (s : Stl) (plan draws : List Int) (h : (s.stages.length ≤ 9223372036854775807 ∧ s.worth.length ≤ 9223372036854775807) ∧ plan.length ≤ 9223372036854775807 ∧ draws.length ≤ 9223372036854775807) : Pure Try.prog 46 [avStl s, .rsl (rowI plan) 0 plan.length, .rsl (rowI draws) 0 draws.length] (.tup [.rsl (rowI (playK s plan draws).1) 0 (playK s plan draws).1.length, .int .i64 (playK s plan draws).2.1, .int .i64 (playK s plan draws).2.2]) := pure_of Try.func46 f46b fun E hE => by
  have main : planE s plan = 0 → f46G0 E s plan draws 0 [0] 0 := by
    intro he
    obtain ⟨hc, hpl⟩ := planE_of he
    obtain ⟨hm, es⟩ := mok_G (isSome_of hc)
    have hform := (stPre_of hm.st).2.2.2.2
    have hn := (stPre_of hm.st).1
    rw [es] at hform hn
    have hrv : playK s plan draws = playF s plan s.stages.length 0 [] draws := by rw [playK, if_pos he]
    have key : ∀ (n : Nat) (at_ : Int) (v ds : List Int) (u : Nat), u ≤ draws.length → ds = draws.drop u → 0 ≤ at_ → at_ < (s.stages.length : Int) → (s.stages.length : Int) ≤ at_ + n → (v.length : Int) ≤ at_ → playK s plan draws = playF s plan n at_ v ds → f46G0 E s plan draws at_ (v ++ [at_]) u := by
      intro n
      induction n with
      | zero => intro at_ v ds u hu hds h0 h1 h2 h3 h4; omega
      | succ n ih =>
        intro at_ v ds u hu hds h0 h1 h2 h3 h4
        have hi : s.stages[Int.toNat at_]? = some s.stages[Int.toNat at_] := List.getElem?_eq_getElem (by omega)
        have hx : s.stages.getD (Int.toNat at_) ⟨0, 0, []⟩ = s.stages[Int.toNat at_] := by simp [List.getD, hi]
        have hto := turns_to hi (hform _ (by omega))
        have htt := tot_of hi (hform _ (by omega))
        have hfo := form_of hi (hform _ (by omega))
        obtain ⟨e, hpe, he0, he1⟩ := (planOk_of hpl).2 _ _ hi
        have hpi : planI plan at_ = e := by simp [planI, List.getD, hpe]
        unfold playF at h4
        rw [hx, hpi] at h4
        generalize s.stages[Int.toNat at_] = x at hi hto htt hfo he1 h4
        have nx := fun (t : Trn) (ht : t ∈ x.turns) (ds' : List Int) (u' : Nat) (hu' : u' ≤ draws.length) (hds' : ds' = draws.drop u') (h5 : playK s plan draws = playF s plan n t.to (v ++ [at_]) ds') => ih t.to (v ++ [at_]) ds' u' hu' hds' (by have := hto t ht; omega) (by have := hto t ht; omega) (by have := hto t ht; omega) (by have := hto t ht; simp; omega) h5
        refine f46W0 s plan draws at_ (v ++ [at_]) u (rv := playK s plan draws) hE ⟨h0, x, hi, fun k4 => ?_, fun h4' => ?_⟩
        · rw [if_neg k4] at h4
          refine ⟨h0, e, hpe, fun k1 => ?_, fun k1 => ?_⟩
          · rw [if_pos k1] at h4
            have hz : e = 0 := by rw [planMost, if_neg (by omega)] at he1; omega
            have hto2 := htt.2 k1
            cases ds with
            | nil => exact ⟨fun _ => h4, fun h => absurd (List.drop_eq_nil_iff.1 hds.symm) (by omega)⟩
            | cons d ds =>
            simp only at h4
            have hult : u < draws.length := by
              apply Classical.byContradiction
              intro hh
              rw [List.drop_eq_nil_of_le (by omega)] at hds
              cases hds
            have hdu : draws[u]? = some d := by
              have := List.getElem?_drop (xs := draws) (i := u) (j := 0)
              rw [← hds] at this; simpa using this.symm
            have hdr : ds = draws.drop (u + 1) := by
              rw [List.drop_eq_getElem_cons hult] at hds
              exact (List.cons.inj hds).2
            refine ⟨fun h => by omega, fun _ => ⟨d, hdu, htt.1, by omega, fun hw => ?_, fun hw => ?_⟩⟩
            · rw [hw] at h4; exact h4
            rw [if_pos hw] at h4
            have hwd := within_iff.1 hw
            have hmem := drawT_mem (ts := x.turns) (d := d) hwd.1 (by have := hwd.2; rw [totI] at this; omega)
            have loop : ∀ (m k : Nat) (left : Int), k + m = x.turns.length → 0 ≤ left → left < ((x.turns.drop k).map (·.w)).sum → drawT (x.turns.drop k) left = drawT x.turns d → f46G1 E s plan draws left x.kind x.prize x.turns (v ++ [at_]) k u := by
              intro m
              induction m with
              | zero =>
                intro k left hk hl0 hl1 hd
                rw [List.drop_eq_nil_of_le (by omega)] at hl1; simp at hl1; omega
              | succ m ih2 =>
                intro k left hk hl0 hl1 hd
                have hkk : x.turns[k]? = some x.turns[k] := List.getElem?_eq_getElem (by omega)
                have htm := List.mem_of_getElem? hkk
                rw [List.drop_eq_getElem_cons (by omega)] at hl1 hd
                simp only [List.map_cons, List.sum_cons, drawT] at hl1 hd
                generalize x.turns[k] = te at hkk htm hl1 hd
                have hw := htt.1.2 te htm
                have htl := htt.1.1
                have hlb : left ≤ 1000000000 := by
                  have := tot_bd (l := x.turns.drop (k + 1)) (B := 1000000) fun t ht => htt.1.2 t (List.mem_of_mem_drop ht)
                  have h9 : ((x.turns.drop (k + 1)).length : Int) ≤ 998 := by rw [List.length_drop]; rcases hfo with ⟨q, -⟩ | ⟨-, -, q, -⟩ <;> omega
                  omega
                refine f46W1 s plan draws left x.kind x.prize x.turns (v ++ [at_]) k u (rv := playK s plan draws) hE ⟨te, hkk, fun hge => ⟨by omega, by omega, ?_⟩, fun hge => ⟨by have := h.2.2; omega, by simp; omega, ?_⟩⟩
                · rw [if_pos hge] at hd
                  exact ih2 (k + 1) (left - te.w) (by omega) (by omega) (by omega) hd
                · rw [if_neg hge] at hd
                  rw [← hd] at h4
                  exact nx te htm ds (u + 1) (by omega) hdr h4
            exact loop x.turns.length 0 d (by omega) hwd.1 (by have := hwd.2; rw [totI] at this; simpa using (by omega : d < (x.turns.map (·.w)).sum)) (by simp)
          · rw [if_neg k1] at h4
            have hel : Int.toNat e < x.turns.length := by
              rcases hfo with ⟨q, -⟩ | ⟨q0, -, q, -⟩
              · exact absurd q k4
              · rw [planMost, if_pos (by omega)] at he1; omega
            have hte : x.turns[Int.toNat e]? = some x.turns[Int.toNat e] := List.getElem?_eq_getElem hel
            rw [show x.turns.getD (Int.toNat e) ⟨0, 0⟩ = x.turns[Int.toNat e] by simp [List.getD, hte]] at h4
            have htm := List.mem_of_getElem? hte
            generalize x.turns[Int.toNat e] = te at hte htm h4
            exact ⟨he0, te, hte, by simp; omega, nx te htm ds u hu hds h4⟩
        · rw [if_pos h4'] at h4
          exact h4
    exact key s.stages.length 0 [] draws 0 (by omega) rfl (by omega) (by omega) (by omega) (by simp) hrv
  exact f46W s plan draws (rv := playK s plan draws) hE ⟨⟨h.1, h.2.1⟩, fun he => by rw [playK, if_neg he], main⟩

theorem f11b : Try.f11.body = some (bodyAt Try.prog 11) := by kernel_rfl
theorem p11_start_0 (s : Stl) (plan : (List Int)) (draws : (List Int))   {E : Env} {res : AV} (hE : PureE Try.prog 11 res E) (o0 : PureF Try.prog (.clos 45 [] []) [.agg [.rsl (rowStg s.stages) 0 s.stages.length, .rsl (rowI s.worth) 0 s.worth.length, .int .i64 s.price], .rsl (rowI plan) 0 plan.length, .rsl (rowI draws) 0 draws.length] (.tup [.rsl (rowI ((playK s plan draws).1)) 0 (((playK s plan draws).1).length), .int .i64 ((playK s plan draws).2.1), .int .i64 ((playK s plan draws).2.2)])) (o1 : PureF Try.prog (.clos 46 [] []) [.agg [.rsl (rowStg s.stages) 0 s.stages.length, .rsl (rowI s.worth) 0 s.worth.length, .int .i64 s.price], .rsl (rowI plan) 0 plan.length, .rsl (rowI draws) 0 draws.length] (.tup [.rsl (rowI ((playK s plan draws).1)) 0 (((playK s plan draws).1).length), .int .i64 ((playK s plan draws).2.1), .int .i64 ((playK s plan draws).2.2)])) (o2 : ((playK s plan draws).2.1 == (playK s plan draws).2.1) = true) (o3 : ((playK s plan draws).2.2 == (playK s plan draws).2.2) = true) (o4 : PureF Try.prog (.clos 29 [] []) [.rsl (rowI ((playK s plan draws).1)) 0 (((playK s plan draws).1).length), .rsl (rowI ((playK s plan draws).1)) 0 (((playK s plan draws).1).length)] (.bool true)) (o5 : true = true) (o6 : PureF Try.prog (.clos 20 [] []) [] (.bool true))
    (hr : AvLe (.bool true) res) : G Try.prog E [.code (bodyAt Try.prog 11)] ⟨[.agg [.rsl (rowStg s.stages) 0 s.stages.length, .rsl (rowI s.worth) 0 s.worth.length, .int .i64 s.price], .rsl (rowI plan) 0 plan.length, .rsl (rowI draws) 0 draws.length] ++ unds (Try.f11.ntmps - 3), []⟩ :=
  end_stepL (n := 400) (evs := [.v (.tup [.rsl (rowI ((playK s plan draws).1)) 0 (((playK s plan draws).1).length), .int .i64 ((playK s plan draws).2.1), .int .i64 ((playK s plan draws).2.2)]), .v (.tup [.rsl (rowI ((playK s plan draws).1)) 0 (((playK s plan draws).1).length), .int .i64 ((playK s plan draws).2.1), .int .i64 ((playK s plan draws).2.2)]), .b true, .b true, .v (.bool true), .b true, .v (.bool true)]) (obs := [PureF Try.prog (.clos 45 [] []) [.agg [.rsl (rowStg s.stages) 0 s.stages.length, .rsl (rowI s.worth) 0 s.worth.length, .int .i64 s.price], .rsl (rowI plan) 0 plan.length, .rsl (rowI draws) 0 draws.length] (.tup [.rsl (rowI ((playK s plan draws).1)) 0 (((playK s plan draws).1).length), .int .i64 ((playK s plan draws).2.1), .int .i64 ((playK s plan draws).2.2)]), PureF Try.prog (.clos 46 [] []) [.agg [.rsl (rowStg s.stages) 0 s.stages.length, .rsl (rowI s.worth) 0 s.worth.length, .int .i64 s.price], .rsl (rowI plan) 0 plan.length, .rsl (rowI draws) 0 draws.length] (.tup [.rsl (rowI ((playK s plan draws).1)) 0 (((playK s plan draws).1).length), .int .i64 ((playK s plan draws).2.1), .int .i64 ((playK s plan draws).2.2)]), ((playK s plan draws).2.1 == (playK s plan draws).2.1) = true, ((playK s plan draws).2.2 == (playK s plan draws).2.2) = true, PureF Try.prog (.clos 29 [] []) [.rsl (rowI ((playK s plan draws).1)) 0 (((playK s plan draws).1).length), .rsl (rowI ((playK s plan draws).1)) 0 (((playK s plan draws).1).length)] (.bool true), true = true, PureF Try.prog (.clos 20 [] []) [] (.bool true)]) hE Try.func11 mixed (by kernel_rfl) ⟨o0, o1, o2, o3, o4, o5, o6, trivial⟩ hr
theorem p11_start_1 (s : Stl) (plan : (List Int)) (draws : (List Int))   {E : Env} {res : AV} (hE : PureE Try.prog 11 res E) (o0 : PureF Try.prog (.clos 45 [] []) [.agg [.rsl (rowStg s.stages) 0 s.stages.length, .rsl (rowI s.worth) 0 s.worth.length, .int .i64 s.price], .rsl (rowI plan) 0 plan.length, .rsl (rowI draws) 0 draws.length] (.tup [.rsl (rowI ((playK s plan draws).1)) 0 (((playK s plan draws).1).length), .int .i64 ((playK s plan draws).2.1), .int .i64 ((playK s plan draws).2.2)])) (o1 : PureF Try.prog (.clos 46 [] []) [.agg [.rsl (rowStg s.stages) 0 s.stages.length, .rsl (rowI s.worth) 0 s.worth.length, .int .i64 s.price], .rsl (rowI plan) 0 plan.length, .rsl (rowI draws) 0 draws.length] (.tup [.rsl (rowI ((playK s plan draws).1)) 0 (((playK s plan draws).1).length), .int .i64 ((playK s plan draws).2.1), .int .i64 ((playK s plan draws).2.2)])) (o2 : ((playK s plan draws).2.1 == (playK s plan draws).2.1) = true) (o3 : ((playK s plan draws).2.2 == (playK s plan draws).2.2) = true) (o4 : PureF Try.prog (.clos 29 [] []) [.rsl (rowI ((playK s plan draws).1)) 0 (((playK s plan draws).1).length), .rsl (rowI ((playK s plan draws).1)) 0 (((playK s plan draws).1).length)] (.bool true)) (o5 : true = false)
    (hr : AvLe (.bool false) res) : G Try.prog E [.code (bodyAt Try.prog 11)] ⟨[.agg [.rsl (rowStg s.stages) 0 s.stages.length, .rsl (rowI s.worth) 0 s.worth.length, .int .i64 s.price], .rsl (rowI plan) 0 plan.length, .rsl (rowI draws) 0 draws.length] ++ unds (Try.f11.ntmps - 3), []⟩ :=
  end_stepL (n := 400) (evs := [.v (.tup [.rsl (rowI ((playK s plan draws).1)) 0 (((playK s plan draws).1).length), .int .i64 ((playK s plan draws).2.1), .int .i64 ((playK s plan draws).2.2)]), .v (.tup [.rsl (rowI ((playK s plan draws).1)) 0 (((playK s plan draws).1).length), .int .i64 ((playK s plan draws).2.1), .int .i64 ((playK s plan draws).2.2)]), .b true, .b true, .v (.bool true), .b false]) (obs := [PureF Try.prog (.clos 45 [] []) [.agg [.rsl (rowStg s.stages) 0 s.stages.length, .rsl (rowI s.worth) 0 s.worth.length, .int .i64 s.price], .rsl (rowI plan) 0 plan.length, .rsl (rowI draws) 0 draws.length] (.tup [.rsl (rowI ((playK s plan draws).1)) 0 (((playK s plan draws).1).length), .int .i64 ((playK s plan draws).2.1), .int .i64 ((playK s plan draws).2.2)]), PureF Try.prog (.clos 46 [] []) [.agg [.rsl (rowStg s.stages) 0 s.stages.length, .rsl (rowI s.worth) 0 s.worth.length, .int .i64 s.price], .rsl (rowI plan) 0 plan.length, .rsl (rowI draws) 0 draws.length] (.tup [.rsl (rowI ((playK s plan draws).1)) 0 (((playK s plan draws).1).length), .int .i64 ((playK s plan draws).2.1), .int .i64 ((playK s plan draws).2.2)]), ((playK s plan draws).2.1 == (playK s plan draws).2.1) = true, ((playK s plan draws).2.2 == (playK s plan draws).2.2) = true, PureF Try.prog (.clos 29 [] []) [.rsl (rowI ((playK s plan draws).1)) 0 (((playK s plan draws).1).length), .rsl (rowI ((playK s plan draws).1)) 0 (((playK s plan draws).1).length)] (.bool true), true = false]) hE Try.func11 mixed (by kernel_rfl) ⟨o0, o1, o2, o3, o4, o5, trivial⟩ hr
theorem p11_start_2 (s : Stl) (plan : (List Int)) (draws : (List Int))   {E : Env} {res : AV} (hE : PureE Try.prog 11 res E) (o0 : PureF Try.prog (.clos 45 [] []) [.agg [.rsl (rowStg s.stages) 0 s.stages.length, .rsl (rowI s.worth) 0 s.worth.length, .int .i64 s.price], .rsl (rowI plan) 0 plan.length, .rsl (rowI draws) 0 draws.length] (.tup [.rsl (rowI ((playK s plan draws).1)) 0 (((playK s plan draws).1).length), .int .i64 ((playK s plan draws).2.1), .int .i64 ((playK s plan draws).2.2)])) (o1 : PureF Try.prog (.clos 46 [] []) [.agg [.rsl (rowStg s.stages) 0 s.stages.length, .rsl (rowI s.worth) 0 s.worth.length, .int .i64 s.price], .rsl (rowI plan) 0 plan.length, .rsl (rowI draws) 0 draws.length] (.tup [.rsl (rowI ((playK s plan draws).1)) 0 (((playK s plan draws).1).length), .int .i64 ((playK s plan draws).2.1), .int .i64 ((playK s plan draws).2.2)])) (o2 : ((playK s plan draws).2.1 == (playK s plan draws).2.1) = true) (o3 : ((playK s plan draws).2.2 == (playK s plan draws).2.2) = false)
    (hr : AvLe (.bool false) res) : G Try.prog E [.code (bodyAt Try.prog 11)] ⟨[.agg [.rsl (rowStg s.stages) 0 s.stages.length, .rsl (rowI s.worth) 0 s.worth.length, .int .i64 s.price], .rsl (rowI plan) 0 plan.length, .rsl (rowI draws) 0 draws.length] ++ unds (Try.f11.ntmps - 3), []⟩ :=
  end_stepL (n := 400) (evs := [.v (.tup [.rsl (rowI ((playK s plan draws).1)) 0 (((playK s plan draws).1).length), .int .i64 ((playK s plan draws).2.1), .int .i64 ((playK s plan draws).2.2)]), .v (.tup [.rsl (rowI ((playK s plan draws).1)) 0 (((playK s plan draws).1).length), .int .i64 ((playK s plan draws).2.1), .int .i64 ((playK s plan draws).2.2)]), .b true, .b false, .b false]) (obs := [PureF Try.prog (.clos 45 [] []) [.agg [.rsl (rowStg s.stages) 0 s.stages.length, .rsl (rowI s.worth) 0 s.worth.length, .int .i64 s.price], .rsl (rowI plan) 0 plan.length, .rsl (rowI draws) 0 draws.length] (.tup [.rsl (rowI ((playK s plan draws).1)) 0 (((playK s plan draws).1).length), .int .i64 ((playK s plan draws).2.1), .int .i64 ((playK s plan draws).2.2)]), PureF Try.prog (.clos 46 [] []) [.agg [.rsl (rowStg s.stages) 0 s.stages.length, .rsl (rowI s.worth) 0 s.worth.length, .int .i64 s.price], .rsl (rowI plan) 0 plan.length, .rsl (rowI draws) 0 draws.length] (.tup [.rsl (rowI ((playK s plan draws).1)) 0 (((playK s plan draws).1).length), .int .i64 ((playK s plan draws).2.1), .int .i64 ((playK s plan draws).2.2)]), ((playK s plan draws).2.1 == (playK s plan draws).2.1) = true, ((playK s plan draws).2.2 == (playK s plan draws).2.2) = false, false = false]) hE Try.func11 mixed (by kernel_rfl) ⟨o0, o1, o2, o3, (rfl), trivial⟩ hr
theorem p11_start_3 (s : Stl) (plan : (List Int)) (draws : (List Int))   {E : Env} {res : AV} (hE : PureE Try.prog 11 res E) (o0 : PureF Try.prog (.clos 45 [] []) [.agg [.rsl (rowStg s.stages) 0 s.stages.length, .rsl (rowI s.worth) 0 s.worth.length, .int .i64 s.price], .rsl (rowI plan) 0 plan.length, .rsl (rowI draws) 0 draws.length] (.tup [.rsl (rowI ((playK s plan draws).1)) 0 (((playK s plan draws).1).length), .int .i64 ((playK s plan draws).2.1), .int .i64 ((playK s plan draws).2.2)])) (o1 : PureF Try.prog (.clos 46 [] []) [.agg [.rsl (rowStg s.stages) 0 s.stages.length, .rsl (rowI s.worth) 0 s.worth.length, .int .i64 s.price], .rsl (rowI plan) 0 plan.length, .rsl (rowI draws) 0 draws.length] (.tup [.rsl (rowI ((playK s plan draws).1)) 0 (((playK s plan draws).1).length), .int .i64 ((playK s plan draws).2.1), .int .i64 ((playK s plan draws).2.2)])) (o2 : ((playK s plan draws).2.1 == (playK s plan draws).2.1) = false)
    (hr : AvLe (.bool false) res) : G Try.prog E [.code (bodyAt Try.prog 11)] ⟨[.agg [.rsl (rowStg s.stages) 0 s.stages.length, .rsl (rowI s.worth) 0 s.worth.length, .int .i64 s.price], .rsl (rowI plan) 0 plan.length, .rsl (rowI draws) 0 draws.length] ++ unds (Try.f11.ntmps - 3), []⟩ :=
  end_stepL (n := 400) (evs := [.v (.tup [.rsl (rowI ((playK s plan draws).1)) 0 (((playK s plan draws).1).length), .int .i64 ((playK s plan draws).2.1), .int .i64 ((playK s plan draws).2.2)]), .v (.tup [.rsl (rowI ((playK s plan draws).1)) 0 (((playK s plan draws).1).length), .int .i64 ((playK s plan draws).2.1), .int .i64 ((playK s plan draws).2.2)]), .b false, .b false, .b false]) (obs := [PureF Try.prog (.clos 45 [] []) [.agg [.rsl (rowStg s.stages) 0 s.stages.length, .rsl (rowI s.worth) 0 s.worth.length, .int .i64 s.price], .rsl (rowI plan) 0 plan.length, .rsl (rowI draws) 0 draws.length] (.tup [.rsl (rowI ((playK s plan draws).1)) 0 (((playK s plan draws).1).length), .int .i64 ((playK s plan draws).2.1), .int .i64 ((playK s plan draws).2.2)]), PureF Try.prog (.clos 46 [] []) [.agg [.rsl (rowStg s.stages) 0 s.stages.length, .rsl (rowI s.worth) 0 s.worth.length, .int .i64 s.price], .rsl (rowI plan) 0 plan.length, .rsl (rowI draws) 0 draws.length] (.tup [.rsl (rowI ((playK s plan draws).1)) 0 (((playK s plan draws).1).length), .int .i64 ((playK s plan draws).2.1), .int .i64 ((playK s plan draws).2.2)]), ((playK s plan draws).2.1 == (playK s plan draws).2.1) = false, false = false, false = false]) hE Try.func11 mixed (by kernel_rfl) ⟨o0, o1, o2, (rfl), (rfl), trivial⟩ hr
theorem f11W (s : Stl) (plan : (List Int)) (draws : (List Int)) {E : Env} {rv : Bool} (hE : PureE Try.prog 11 (.bool rv) E)
    (h : ((s.stages.length ≤ 9223372036854775807 ∧ s.worth.length ≤ 9223372036854775807) ∧ (((s.stages.length ≤ 9223372036854775807 ∧ s.worth.length ≤ 9223372036854775807) ∧ plan.length ≤ 9223372036854775807 ∧ draws.length ≤ 9223372036854775807) ∧ (((playK s plan draws).2.1 = (playK s plan draws).2.1 → (((playK s plan draws).2.2 = (playK s plan draws).2.2 → ((((playK s plan draws).1).length ≤ 9223372036854775807 ∧ ((playK s plan draws).1) = ((playK s plan draws).1)) ∧ ((true = true → rv = true) ∧ (true = false → rv = false)))) ∧ (¬ ((playK s plan draws).2.2 = (playK s plan draws).2.2) → rv = false))) ∧ (¬ ((playK s plan draws).2.1 = (playK s plan draws).2.1) → rv = false))))) : G Try.prog E [.code (bodyAt Try.prog 11)] ⟨[.agg [.rsl (rowStg s.stages) 0 s.stages.length, .rsl (rowI s.worth) 0 s.worth.length, .int .i64 s.price], .rsl (rowI plan) 0 plan.length, .rsl (rowI draws) 0 draws.length] ++ unds (Try.f11.ntmps - 3), []⟩ := by
  obtain ⟨h1, h⟩ := h
  obtain ⟨h2, h⟩ := h
  rcases Bool.eq_false_or_eq_true ((playK s plan draws).2.1 == (playK s plan draws).2.1) with hc0 | hc0
  · have h := h.1 (eq_of_beq hc0)
    rcases Bool.eq_false_or_eq_true ((playK s plan draws).2.2 == (playK s plan draws).2.2) with hc1 | hc1
    · have h := h.1 (eq_of_beq hc1)
      obtain ⟨h3, h⟩ := h
      rcases Bool.eq_false_or_eq_true true with hc2 | hc2
      · have h := h.1 hc2
        exact p11_start_0 s plan draws    hE (pureF_of Try.func45 (by kernel_rfl) f45b (play_ok s plan draws h1)) (pureF_of Try.func46 (by kernel_rfl) f46b (playR_ok s plan draws h2)) hc0 hc1 (pureF_of Try.func29 (by kernel_rfl) f29b (sameInts_ok ((playK s plan draws).1) ((playK s plan draws).1) h3)) hc2 (pureF_of Try.func20 (by kernel_rfl) f20b works_ok) (AvLe.of_eq (by rw [h]; try rfl))
      · have h := h.2 hc2
        exact p11_start_1 s plan draws    hE (pureF_of Try.func45 (by kernel_rfl) f45b (play_ok s plan draws h1)) (pureF_of Try.func46 (by kernel_rfl) f46b (playR_ok s plan draws h2)) hc0 hc1 (pureF_of Try.func29 (by kernel_rfl) f29b (sameInts_ok ((playK s plan draws).1) ((playK s plan draws).1) h3)) hc2 (AvLe.of_eq (by rw [h]; try rfl))
    · have h := h.2 (ne_of_beq_false hc1)
      exact p11_start_2 s plan draws    hE (pureF_of Try.func45 (by kernel_rfl) f45b (play_ok s plan draws h1)) (pureF_of Try.func46 (by kernel_rfl) f46b (playR_ok s plan draws h2)) hc0 hc1 (AvLe.of_eq (by rw [h]; try rfl))
  · have h := h.2 (ne_of_beq_false hc0)
    exact p11_start_3 s plan draws    hE (pureF_of Try.func45 (by kernel_rfl) f45b (play_ok s plan draws h1)) (pureF_of Try.func46 (by kernel_rfl) f46b (playR_ok s plan draws h2)) hc0 (AvLe.of_eq (by rw [h]; try rfl))

theorem playK_len {s : Stl} {plan draws : List Int} : (playK s plan draws).1.length ≤ 60 := by
  unfold playK
  split
  · rename_i he
    have hc := (planE_of he).1
    obtain ⟨hm, es⟩ := mok_G (isSome_of hc)
    have hn := (stPre_of hm.st).1
    rw [es] at hn
    have := playF_len (s := s) (plan := plan) (n := s.stages.length) (at_ := 0) (v := []) (ds := draws)
    simp at this; omega
  · simp
theorem law11_ok (s : Stl) (plan draws : List Int) (h : s.stages.length ≤ 9223372036854775807 ∧ s.worth.length ≤ 9223372036854775807) (hp : plan.length ≤ 9223372036854775807) (hd : draws.length ≤ 9223372036854775807) : Pure Try.prog 11 [avStl s, .rsl (rowI plan) 0 plan.length, .rsl (rowI draws) 0 draws.length] (.bool true) := pure_of Try.func11 f11b fun E hE => by
  have hl := playK_len (s := s) (plan := plan) (draws := draws)
  refine f11W s plan draws (rv := true) hE ?_
  simp [h, hp, hd]
  omega

end Go.Proofs.Ytfgmlaeikcfpbaa
