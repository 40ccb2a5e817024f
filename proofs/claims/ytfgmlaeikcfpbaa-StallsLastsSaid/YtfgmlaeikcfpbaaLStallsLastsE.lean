/- A part of the proof: several texts, one behind the other. -/
import Derived.Test.YtfgmlaeikcfpbaaLStallsLastsD
set_option linter.unusedVariables false
set_option linter.unusedSimpArgs false
set_option maxRecDepth 100000
namespace Go.Proofs.Ytfgmlaeikcfpbaa
open Go Ax
open Go.Proofs

structure Fr where
  num : Int
  den : Int
def fracI (n d : Int) : Fr := ⟨Int.tdiv n (iMax (gcdI (iMax n (0 - n)) d) 1), Int.tdiv d (iMax (gcdI (iMax n (0 - n)) d) 1)⟩
def firstI (m : Mch) (w : Int → Int) (ch : Int → List Int → Int) : Fr := fracI ((valA m w ch).1.getD 0 0) (m.meas.getD 0 0)
theorem f87b : Try.f87.body = some (bodyAt Try.prog 87) := by kernel_rfl
theorem p87_start_0 (n : Int) (d : Int)   {E : Env} {res : AV} (hE : PureE Try.prog 87 res E) (o0 : InR .i64 (0 - n)) (o1 : PureF Try.prog (.clos 117 [] []) [.int .i64 (iMax n (0 - n)), .int .i64 d] (.int .i64 (iMax (gcdI (iMax n (0 - n)) d) 1))) (o2 : InR .i64 (Int.tdiv n (iMax (gcdI (iMax n (0 - n)) d) 1))) (o3 : (iMax (gcdI (iMax n (0 - n)) d) 1) ≠ 0) (o4 : InR .i64 (Int.tdiv d (iMax (gcdI (iMax n (0 - n)) d) 1))) (o5 : (iMax (gcdI (iMax n (0 - n)) d) 1) ≠ 0)
    (hr : AvLe (.agg [.int .i64 (Int.tdiv n (iMax (gcdI (iMax n (0 - n)) d) 1)), .int .i64 (Int.tdiv d (iMax (gcdI (iMax n (0 - n)) d) 1))]) res) : G Try.prog E [.code (bodyAt Try.prog 87)] ⟨[.int .i64 n, .int .i64 d] ++ unds (Try.f87.ntmps - 2), []⟩ :=
  end_stepL (n := 400) (evs := [.v (.int .i64 (iMax (gcdI (iMax n (0 - n)) d) 1))]) (obs := [InR .i64 (0 - n), PureF Try.prog (.clos 117 [] []) [.int .i64 (iMax n (0 - n)), .int .i64 d] (.int .i64 (iMax (gcdI (iMax n (0 - n)) d) 1)), InR .i64 (Int.tdiv n (iMax (gcdI (iMax n (0 - n)) d) 1)), (iMax (gcdI (iMax n (0 - n)) d) 1) ≠ 0, InR .i64 (Int.tdiv d (iMax (gcdI (iMax n (0 - n)) d) 1)), (iMax (gcdI (iMax n (0 - n)) d) 1) ≠ 0, 2 ≤ 2]) hE Try.func87 mixed (by kernel_rfl) ⟨o0, o1, o2, o3, o4, o5, (by decide), trivial⟩ hr
theorem f87W (n : Int) (d : Int) {E : Env} {rv : Fr} (hE : PureE Try.prog 87 (.agg [.int .i64 rv.num, .int .i64 rv.den]) E)
    (h : ((-9223372036854775808 ≤ 0 - n ∧ 0 - n ≤ 9223372036854775807) ∧ ((0 ≤ (iMax n (0 - n)) ∧ 0 ≤ d) ∧ ((-9223372036854775808 ≤ Int.tdiv n (iMax (gcdI (iMax n (0 - n)) d) 1) ∧ Int.tdiv n (iMax (gcdI (iMax n (0 - n)) d) 1) ≤ 9223372036854775807) ∧ ((iMax (gcdI (iMax n (0 - n)) d) 1) ≠ 0 ∧ ((-9223372036854775808 ≤ Int.tdiv d (iMax (gcdI (iMax n (0 - n)) d) 1) ∧ Int.tdiv d (iMax (gcdI (iMax n (0 - n)) d) 1) ≤ 9223372036854775807) ∧ ((iMax (gcdI (iMax n (0 - n)) d) 1) ≠ 0 ∧ rv = (⟨(Int.tdiv n (iMax (gcdI (iMax n (0 - n)) d) 1)), (Int.tdiv d (iMax (gcdI (iMax n (0 - n)) d) 1))⟩ : Fr)))))))) : G Try.prog E [.code (bodyAt Try.prog 87)] ⟨[.int .i64 n, .int .i64 d] ++ unds (Try.f87.ntmps - 2), []⟩ := by
  obtain ⟨q0_0, h⟩ := h
  obtain ⟨h1, h⟩ := h
  obtain ⟨q2_0, h⟩ := h
  obtain ⟨q3_0, h⟩ := h
  obtain ⟨q4_0, h⟩ := h
  obtain ⟨q5_0, h⟩ := h
  exact p87_start_0 n d    hE q0_0 (pureF_of Try.func117 (by kernel_rfl) f117b (divisor_ok (iMax n (0 - n)) d h1)) q2_0 q3_0 q4_0 q5_0 (AvLe.of_eq (by rw [h]; try rfl))

theorem iMax_pos {a : Int} : 1 ≤ iMax a 1 := by unfold iMax; split <;> omega
theorem tdiv_bd {n g B : Int} (hg : 1 ≤ g) (h1 : -B ≤ n) (h2 : n ≤ B) : -B ≤ Int.tdiv n g ∧ Int.tdiv n g ≤ B := by
  have key : ∀ a : Int, 0 ≤ a → 0 ≤ Int.tdiv a g ∧ Int.tdiv a g ≤ a := fun a ha => by
    rw [Int.tdiv_eq_ediv_of_nonneg ha]
    exact ⟨Int.ediv_nonneg ha (by omega), Int.ediv_le_self g ha⟩
  by_cases h : 0 ≤ n
  · have := key n h; omega
  · have h3 := key (-n) (by omega)
    rw [Int.neg_tdiv] at h3
    omega
theorem frac_ok (n d : Int) (h : (-100000000000000000 ≤ n ∧ n ≤ 100000000000000000) ∧ 0 < d ∧ d ≤ 1000000000000) : Pure Try.prog 87 [.int .i64 n, .int .i64 d] (.agg [.int .i64 (fracI n d).num, .int .i64 (fracI n d).den]) := pure_of Try.func87 f87b fun E hE => by
  have h0 : 0 ≤ iMax n (0 - n) := by unfold iMax; split <;> omega
  have hg : 1 ≤ iMax (gcdI (iMax n (0 - n)) d) 1 := iMax_pos
  have b1 := tdiv_bd hg h.1.1 h.1.2
  have b2 := tdiv_bd (n := d) (B := 1000000000000) hg (by omega) (by omega)
  exact f87W n d (rv := fracI n d) hE ⟨by omega, ⟨h0, by omega⟩, by omega, by omega, by omega, by omega, rfl⟩
theorem meas0 {m : Mch} (hm : MOk m) : ∃ u, m.meas[0]? = some u ∧ 0 < u ∧ u ≤ 1000000000000 := by
  have hn := (stPre_of hm.st).1
  have hg : m.meas[0]? = some (m.meas[0]'(by rw [hm.inv.l1]; omega)) := List.getElem?_eq_getElem _
  exact ⟨_, hg, hm.inv.pos 0 _ (by omega) hg⟩
theorem val0 {m : Mch} (hm : MOk m) {w : Int → Int} {ch : Int → List Int → Int} (hw : WOk m w ch) : ∃ v, (valA m w ch).1[0]? = some v ∧ (-100000000000000000 ≤ v ∧ v ≤ 100000000000000000) := by
  have hn := (stPre_of hm.st).1
  have hv := val_okA hm hw
  obtain ⟨u, h1, h2⟩ := meas0 hm
  have := hv.hi 0 u (by omega) h1
  exact ⟨_, getD_some (by rw [hv.l1]; omega), by omega, by omega⟩

theorem f75ob : Try.f75.body = some (bodyAt Try.prog 75) := by kernel_rfl
theorem p75o_start_0  (m : Mch) (kd pa oa : Int)  (e : Int) (e1 : Int)  {E : Env} {res : AV} (hE : PureE Try.prog 75 res E) (o0 : PureF Try.prog (.clos 83 [] []) [.rptr [.rsl (rowStg m.s.stages) 0 m.s.stages.length, .rsl (rowI m.s.worth) 0 m.s.worth.length, .int .i64 m.s.price, .rsl (rowI m.meas) 0 m.meas.length, .rsl (rowI m.mult) 0 m.mult.length] 0, .clos 113 [] [.rptr [.int .i64 kd] 0], .clos 114 [] [.rptr [.int .i64 pa] 0, .rptr [.rptr [.rsl (rowStg m.s.stages) 0 m.s.stages.length, .rsl (rowI m.s.worth) 0 m.s.worth.length, .int .i64 m.s.price, .rsl (rowI m.meas) 0 m.meas.length, .rsl (rowI m.mult) 0 m.mult.length] 0] 0, .rptr [.int .i64 oa] 0]] (.tup [.rsl (rowI ((valA m (onlyI kd) (chooseI m pa oa)).1)) 0 (((valA m (onlyI kd) (chooseI m pa oa)).1).length), .rsl (rowI ((valA m (onlyI kd) (chooseI m pa oa)).2)) 0 (((valA m (onlyI kd) (chooseI m pa oa)).2).length)])) (o2 : (0 : Int) ≤ 0 ∧ (0 : Int) < ((((valA m (onlyI kd) (chooseI m pa oa)).1).length : Nat) : Int)) (o3 : ((rowI ((valA m (onlyI kd) (chooseI m pa oa)).1)).drop (0 + 0 * 1)).take 1 = [.int .i64 e]) (o5 : (0 : Int) ≤ 0 ∧ (0 : Int) < ((m.meas.length : Nat) : Int)) (o6 : ((rowI m.meas).drop (0 + 0 * 1)).take 1 = [.int .i64 e1]) (o7 : PureF Try.prog (.clos 87 [] []) [.int .i64 e, .int .i64 e1] (.agg [.int .i64 ((fracI e e1).num), .int .i64 ((fracI e e1).den)]))
    (hr : AvLe (.agg [.int .i64 ((fracI e e1).num), .int .i64 ((fracI e e1).den)]) res) : G Try.prog E [.code (bodyAt Try.prog 75)] ⟨[.rptr [.rsl (rowStg m.s.stages) 0 m.s.stages.length, .rsl (rowI m.s.worth) 0 m.s.worth.length, .int .i64 m.s.price, .rsl (rowI m.meas) 0 m.meas.length, .rsl (rowI m.mult) 0 m.mult.length] 0, .clos 113 [] [.rptr [.int .i64 kd] 0], .clos 114 [] [.rptr [.int .i64 pa] 0, .rptr [.rptr [.rsl (rowStg m.s.stages) 0 m.s.stages.length, .rsl (rowI m.s.worth) 0 m.s.worth.length, .int .i64 m.s.price, .rsl (rowI m.meas) 0 m.meas.length, .rsl (rowI m.mult) 0 m.mult.length] 0] 0, .rptr [.int .i64 oa] 0]] ++ unds (Try.f75.ntmps - 3), []⟩ :=
  end_stepL (n := 400) (evs := [.v (.tup [.rsl (rowI ((valA m (onlyI kd) (chooseI m pa oa)).1)) 0 (((valA m (onlyI kd) (chooseI m pa oa)).1).length), .rsl (rowI ((valA m (onlyI kd) (chooseI m pa oa)).2)) 0 (((valA m (onlyI kd) (chooseI m pa oa)).2).length)]), .ld (.int .i64 e), .auto, .ld (.int .i64 e1), .v (.agg [.int .i64 ((fracI e e1).num), .int .i64 ((fracI e e1).den)])]) (obs := [PureF Try.prog (.clos 83 [] []) [.rptr [.rsl (rowStg m.s.stages) 0 m.s.stages.length, .rsl (rowI m.s.worth) 0 m.s.worth.length, .int .i64 m.s.price, .rsl (rowI m.meas) 0 m.meas.length, .rsl (rowI m.mult) 0 m.mult.length] 0, .clos 113 [] [.rptr [.int .i64 kd] 0], .clos 114 [] [.rptr [.int .i64 pa] 0, .rptr [.rptr [.rsl (rowStg m.s.stages) 0 m.s.stages.length, .rsl (rowI m.s.worth) 0 m.s.worth.length, .int .i64 m.s.price, .rsl (rowI m.meas) 0 m.meas.length, .rsl (rowI m.mult) 0 m.mult.length] 0] 0, .rptr [.int .i64 oa] 0]] (.tup [.rsl (rowI ((valA m (onlyI kd) (chooseI m pa oa)).1)) 0 (((valA m (onlyI kd) (chooseI m pa oa)).1).length), .rsl (rowI ((valA m (onlyI kd) (chooseI m pa oa)).2)) 0 (((valA m (onlyI kd) (chooseI m pa oa)).2).length)]), (0 : Int) ≤ 0 ∧ (0 : Int) < ((((valA m (onlyI kd) (chooseI m pa oa)).1).length : Nat) : Int), ((rowI ((valA m (onlyI kd) (chooseI m pa oa)).1)).drop (0 + 0 * 1)).take 1 = [.int .i64 e], (0 : Int) ≤ 0 ∧ (0 : Int) < ((m.meas.length : Nat) : Int), ((rowI m.meas).drop (0 + 0 * 1)).take 1 = [.int .i64 e1], PureF Try.prog (.clos 87 [] []) [.int .i64 e, .int .i64 e1] (.agg [.int .i64 ((fracI e e1).num), .int .i64 ((fracI e e1).den)]), 2 ≤ 2]) hE Try.func75 mixed (by kernel_rfl) ⟨o0, o2, o3, o5, o6, o7, (by decide), trivial⟩ hr
theorem f75oW  (m : Mch) (kd pa oa : Int) {E : Env} {rv : Fr} (hE : PureE Try.prog 75 (.agg [.int .i64 rv.num, .int .i64 rv.den]) E)
    (h : ((MOk m) ∧ (∃ e : Int, ((valA m (onlyI kd) (chooseI m pa oa)).1)[0]? = some e ∧ (∃ e1 : Int, m.meas[0]? = some e1 ∧ (((-100000000000000000 ≤ e ∧ e ≤ 100000000000000000) ∧ 0 < e1 ∧ e1 ≤ 1000000000000) ∧ rv = (fracI e e1)))))) : G Try.prog E [.code (bodyAt Try.prog 75)] ⟨[.rptr [.rsl (rowStg m.s.stages) 0 m.s.stages.length, .rsl (rowI m.s.worth) 0 m.s.worth.length, .int .i64 m.s.price, .rsl (rowI m.meas) 0 m.meas.length, .rsl (rowI m.mult) 0 m.mult.length] 0, .clos 113 [] [.rptr [.int .i64 kd] 0], .clos 114 [] [.rptr [.int .i64 pa] 0, .rptr [.rptr [.rsl (rowStg m.s.stages) 0 m.s.stages.length, .rsl (rowI m.s.worth) 0 m.s.worth.length, .int .i64 m.s.price, .rsl (rowI m.meas) 0 m.meas.length, .rsl (rowI m.mult) 0 m.mult.length] 0] 0, .rptr [.int .i64 oa] 0]] ++ unds (Try.f75.ntmps - 3), []⟩ := by
  obtain ⟨h1, h⟩ := h
  obtain ⟨e, h2, h⟩ := h
  obtain ⟨e1, h3, h⟩ := h
  obtain ⟨h4, h⟩ := h
  exact p75o_start_0 m kd pa oa   e e1 hE (pureF_of Try.func83 (by kernel_rfl) f83ob (valueo_ok m kd pa oa h1)) (idx_ok h2) (row_part cI (s := 1) (k := 0) (m := 1) (fun _ => rfl) (by decide) h2) (idx_ok h3) (row_part cI (s := 1) (k := 0) (m := 1) (fun _ => rfl) (by decide) h3) (pureF_of Try.func87 (by kernel_rfl) f87b (frac_ok e e1 h4)) (AvLe.of_eq (by rw [h]; try rfl))
theorem firsto_ok (m : Mch) (kd pa oa : Int) (hm : MOk m) : Pure Try.prog 75 [.rptr (cMch m) 0, .clos 113 [] [.rptr [.int .i64 kd] 0], .clos 114 [] [.rptr [.int .i64 pa] 0, .rptr [.rptr (cMch m) 0] 0, .rptr [.int .i64 oa] 0]] (.agg [.int .i64 (firstI m (onlyI kd) (chooseI m pa oa)).num, .int .i64 (firstI m (onlyI kd) (chooseI m pa oa)).den]) := pure_of Try.func75 f75ob fun E hE => by
  obtain ⟨v, hv, hb⟩ := val0 hm (w := (onlyI kd)) (ch := (chooseI m pa oa)) (wok_only)
  obtain ⟨u, hu, hb2⟩ := meas0 hm
  exact f75oW m kd pa oa (rv := firstI m (onlyI kd) (chooseI m pa oa)) hE ⟨hm, v, hv, u, hu, ⟨hb, hb2⟩, by rw [firstI, getD_of hv, getD_of hu]⟩


theorem f72b : Try.f72.body = some (bodyAt Try.prog 72) := by kernel_rfl
theorem p72_start_0  (m : Mch) (kd pa oa : Int)   {E : Env} {res : AV} (hE : PureE Try.prog 72 res E) (o0 : PureF Try.prog (.clos 73 [] []) [.rptr [.rsl (rowStg m.s.stages) 0 m.s.stages.length, .rsl (rowI m.s.worth) 0 m.s.worth.length, .int .i64 m.s.price, .rsl (rowI m.meas) 0 m.meas.length, .rsl (rowI m.mult) 0 m.mult.length] 0, .int .i64 kd] (.bool (kindI m kd))) (o1 : (kindI m kd) = true) (o2 : PureF Try.prog (.clos 74 [] []) [.rsl [.int .i64 pa, .int .i64 oa] 0 2] (.bool (aimsI ([pa, oa]))))
    (hr : AvLe (.bool (aimsI ([pa, oa]))) res) : G Try.prog E [.code (bodyAt Try.prog 72)] ⟨[.rptr [.rsl (rowStg m.s.stages) 0 m.s.stages.length, .rsl (rowI m.s.worth) 0 m.s.worth.length, .int .i64 m.s.price, .rsl (rowI m.meas) 0 m.meas.length, .rsl (rowI m.mult) 0 m.mult.length] 0, .rptr [.int .i64 kd] 0, .rptr [.int .i64 pa] 0, .rptr [.int .i64 oa] 0] ++ unds (Try.f72.ntmps - 4), []⟩ :=
  end_stepL (n := 400) (evs := [.v (.bool (kindI m kd)), .b true, .v (.bool (aimsI ([pa, oa])))]) (obs := [PureF Try.prog (.clos 73 [] []) [.rptr [.rsl (rowStg m.s.stages) 0 m.s.stages.length, .rsl (rowI m.s.worth) 0 m.s.worth.length, .int .i64 m.s.price, .rsl (rowI m.meas) 0 m.meas.length, .rsl (rowI m.mult) 0 m.mult.length] 0, .int .i64 kd] (.bool (kindI m kd)), (kindI m kd) = true, PureF Try.prog (.clos 74 [] []) [.rsl [.int .i64 pa, .int .i64 oa] 0 2] (.bool (aimsI ([pa, oa]))), 0 = 0]) hE Try.func72 mixed (by kernel_rfl) ⟨o0, o1, o2, (rfl), trivial⟩ hr
theorem p72_start_1  (m : Mch) (kd pa oa : Int)   {E : Env} {res : AV} (hE : PureE Try.prog 72 res E) (o0 : PureF Try.prog (.clos 73 [] []) [.rptr [.rsl (rowStg m.s.stages) 0 m.s.stages.length, .rsl (rowI m.s.worth) 0 m.s.worth.length, .int .i64 m.s.price, .rsl (rowI m.meas) 0 m.meas.length, .rsl (rowI m.mult) 0 m.mult.length] 0, .int .i64 kd] (.bool (kindI m kd))) (o1 : (kindI m kd) = false)
    (hr : AvLe (.bool false) res) : G Try.prog E [.code (bodyAt Try.prog 72)] ⟨[.rptr [.rsl (rowStg m.s.stages) 0 m.s.stages.length, .rsl (rowI m.s.worth) 0 m.s.worth.length, .int .i64 m.s.price, .rsl (rowI m.meas) 0 m.meas.length, .rsl (rowI m.mult) 0 m.mult.length] 0, .rptr [.int .i64 kd] 0, .rptr [.int .i64 pa] 0, .rptr [.int .i64 oa] 0] ++ unds (Try.f72.ntmps - 4), []⟩ :=
  end_stepL (n := 400) (evs := [.v (.bool (kindI m kd)), .b false]) (obs := [PureF Try.prog (.clos 73 [] []) [.rptr [.rsl (rowStg m.s.stages) 0 m.s.stages.length, .rsl (rowI m.s.worth) 0 m.s.worth.length, .int .i64 m.s.price, .rsl (rowI m.meas) 0 m.meas.length, .rsl (rowI m.mult) 0 m.mult.length] 0, .int .i64 kd] (.bool (kindI m kd)), (kindI m kd) = false]) hE Try.func72 mixed (by kernel_rfl) ⟨o0, o1, trivial⟩ hr
theorem f72W  (m : Mch) (kd pa oa : Int) {E : Env} {rv : Bool} (hE : PureE Try.prog 72 (.bool rv) E)
    (h : ((m.s.worth.length ≤ 1000000) ∧ (((kindI m kd) = true → ((([pa, oa]).length ≤ 9223372036854775807) ∧ rv = (aimsI ([pa, oa])))) ∧ ((kindI m kd) = false → rv = false)))) : G Try.prog E [.code (bodyAt Try.prog 72)] ⟨[.rptr [.rsl (rowStg m.s.stages) 0 m.s.stages.length, .rsl (rowI m.s.worth) 0 m.s.worth.length, .int .i64 m.s.price, .rsl (rowI m.meas) 0 m.meas.length, .rsl (rowI m.mult) 0 m.mult.length] 0, .rptr [.int .i64 kd] 0, .rptr [.int .i64 pa] 0, .rptr [.int .i64 oa] 0] ++ unds (Try.f72.ntmps - 4), []⟩ := by
  obtain ⟨h1, h⟩ := h
  rcases Bool.eq_false_or_eq_true (kindI m kd) with hc0 | hc0
  · have h := h.1 hc0
    obtain ⟨h2, h⟩ := h
    exact p72_start_0 m kd pa oa    hE (pureF_of Try.func73 (by kernel_rfl) f73b (kind_ok m kd h1)) hc0 (pureF_of Try.func74 (by kernel_rfl) f74b (aims_ok ([pa, oa]) h2)) (AvLe.of_eq (by rw [h]; try rfl))
  · have h := h.2 hc0
    exact p72_start_1 m kd pa oa    hE (pureF_of Try.func73 (by kernel_rfl) f73b (kind_ok m kd h1)) hc0 (AvLe.of_eq (by rw [h]; try rfl))
theorem f97b : Try.f97.body = some (bodyAt Try.prog 97) := by kernel_rfl
theorem p97_start_0 (n : Int)   {E : Env} {res : AV} (hE : PureE Try.prog 97 res E) (o0 : PureF Try.prog (.clos 65 [] []) [.int .i64 n, .int .i64 0, .int .i64 1000] (.bool (within n 0 1000)))
    (hr : AvLe (.bool (!(within n 0 1000))) res) : G Try.prog E [.code (bodyAt Try.prog 97)] ⟨[.int .i64 n] ++ unds (Try.f97.ntmps - 1), []⟩ :=
  end_stepL (n := 400) (evs := [.v (.bool (within n 0 1000))]) (obs := [PureF Try.prog (.clos 65 [] []) [.int .i64 n, .int .i64 0, .int .i64 1000] (.bool (within n 0 1000))]) hE Try.func97 mixed (by kernel_rfl) ⟨o0, trivial⟩ hr
theorem f97W (n : Int) {E : Env} {rv : Bool} (hE : PureE Try.prog 97 (.bool rv) E)
    (h : rv = (!(within n 0 1000))) : G Try.prog E [.code (bodyAt Try.prog 97)] ⟨[.int .i64 n] ++ unds (Try.f97.ntmps - 1), []⟩ := by
  exact p97_start_0 n    hE (pureF_of Try.func65 (by kernel_rfl) f65b (within_ok n 0 1000)) (AvLe.of_eq (by rw [h]; try rfl))

theorem bad97_ok (n : Int) : Pure Try.prog 97 [.int .i64 n] (.bool (!within n 0 1000)) := pure_of Try.func97 f97b fun E hE => f97W n (rv := !within n 0 1000) hE rfl

def f120sK0 (P : Program) : List Item := kAt 400 [.code (bodyAt P 120)] [.stop]
def f120sS0 (l : (List Int)) (i : Nat)  : St := ⟨[.rsl (rowI l) 0 l.length, .clos 97 [] [], .junk, .junk, .junk, .junk, .junk, .int .i64 ((l.length : Nat) : Int), .int .i64 ((i : Nat) : Int), .junk, .junk, .junk, .junk, .junk, .junk, .junk, .junk, .junk, .junk], []⟩
def f120sG0 (E : Env) (l : (List Int)) (i : Nat) : Prop := G Try.prog E (f120sK0 Try.prog) (f120sS0 l i )
theorem p120s_start_0 (l : (List Int))   {E : Env} {rv : AV} (hE : PureE Try.prog 120 rv E) 
    (hg : G Try.prog E (f120sK0 Try.prog) ⟨[.rsl (rowI l) 0 l.length, .clos 97 [] [], .junk, .junk, .junk, .junk, .junk, .int .i64 ((l.length : Nat) : Int), .int .i64 0, .junk, .junk, .junk, .junk, .junk, .junk, .junk, .junk, .junk, .junk], []⟩) : G Try.prog E [.code (bodyAt Try.prog 120)] ⟨[.rsl (rowI l) 0 l.length, .clos 97 [] []] ++ unds (Try.f120.ntmps - 2), []⟩ :=
  segC_step (n := 400) (ds := []) (cs := []) (live := [0, 1, 7, 8]) (m := 0) (evs := [.stop]) (obs := []) hE.2.1 (hE.nogh _) mixed (by kernel_rfl) trivial hg
theorem f120sW (l : (List Int)) {E : Env} {rv : Int} (hE : PureE Try.prog 120 (.int .i64 rv) E)
    (h : f120sG0 E l 0) : G Try.prog E [.code (bodyAt Try.prog 120)] ⟨[.rsl (rowI l) 0 l.length, .clos 97 [] []] ++ unds (Try.f120.ntmps - 2), []⟩ := by
  exact p120s_start_0 l    hE  h
theorem p120s_0_0 (l : (List Int)) (i : Nat)  (e : Int)  {E : Env} {res : AV} (hE : PureE Try.prog 120 res E) (o0 : (decide (((i : Nat) : Int) < ((l.length : Nat) : Int))) = true) (o2 : 0 ≤ ((i : Nat) : Int) ∧ ((i : Nat) : Int) < ((l.length : Nat) : Int)) (o3 : ((rowI l).drop (0 + (Int.toNat ((i : Nat) : Int)) * 1)).take 1 = [.int .i64 e]) (o4 : PureF Try.prog (.clos 97 [] []) [.int .i64 e] (.bool (!within e 0 1000))) (o5 : (!within e 0 1000) = true)
    (hr : AvLe (.int .i64 ((i : Nat) : Int)) res) : G Try.prog E (f120sK0 Try.prog) (f120sS0 l i ) :=
  end_stepL (n := 400) (evs := [.b true, .ld (.int .i64 e), .v (.bool (!within e 0 1000)), .b true]) (obs := [(decide (((i : Nat) : Int) < ((l.length : Nat) : Int))) = true, 0 ≤ ((i : Nat) : Int) ∧ ((i : Nat) : Int) < ((l.length : Nat) : Int), ((rowI l).drop (0 + (Int.toNat ((i : Nat) : Int)) * 1)).take 1 = [.int .i64 e], PureF Try.prog (.clos 97 [] []) [.int .i64 e] (.bool (!within e 0 1000)), (!within e 0 1000) = true]) hE Try.func120 mixed (by kernel_rfl) ⟨o0, o2, o3, o4, o5, trivial⟩ hr
theorem p120s_0_1 (l : (List Int)) (i : Nat)  (e : Int)  {E : Env} {rv : AV} (hE : PureE Try.prog 120 rv E) (o0 : (decide (((i : Nat) : Int) < ((l.length : Nat) : Int))) = true) (o2 : 0 ≤ ((i : Nat) : Int) ∧ ((i : Nat) : Int) < ((l.length : Nat) : Int)) (o3 : ((rowI l).drop (0 + (Int.toNat ((i : Nat) : Int)) * 1)).take 1 = [.int .i64 e]) (o4 : PureF Try.prog (.clos 97 [] []) [.int .i64 e] (.bool (!within e 0 1000))) (o5 : (!within e 0 1000) = false) (o6 : InR .i64 (((i : Nat) : Int) + 1))
    (hg : G Try.prog E (f120sK0 Try.prog) ⟨[.rsl (rowI l) 0 l.length, .clos 97 [] [], .junk, .junk, .junk, .junk, .junk, .int .i64 ((l.length : Nat) : Int), .int .i64 (((i : Nat) : Int) + 1), .junk, .junk, .junk, .junk, .junk, .junk, .junk, .junk, .junk, .junk], []⟩) : G Try.prog E (f120sK0 Try.prog) (f120sS0 l i ) :=
  segC_step (n := 400) (ds := []) (cs := []) (live := [0, 1, 7, 8]) (m := 0) (evs := [.b true, .ld (.int .i64 e), .v (.bool (!within e 0 1000)), .b false, .stop]) (obs := [(decide (((i : Nat) : Int) < ((l.length : Nat) : Int))) = true, 0 ≤ ((i : Nat) : Int) ∧ ((i : Nat) : Int) < ((l.length : Nat) : Int), ((rowI l).drop (0 + (Int.toNat ((i : Nat) : Int)) * 1)).take 1 = [.int .i64 e], PureF Try.prog (.clos 97 [] []) [.int .i64 e] (.bool (!within e 0 1000)), (!within e 0 1000) = false, InR .i64 (((i : Nat) : Int) + 1)]) hE.2.1 (hE.nogh _) mixed (by kernel_rfl) ⟨o0, o2, o3, o4, o5, o6, trivial⟩ hg
theorem p120s_0_2 (l : (List Int)) (i : Nat)   {E : Env} {res : AV} (hE : PureE Try.prog 120 res E) (o0 : (decide (((i : Nat) : Int) < ((l.length : Nat) : Int))) = false)
    (hr : AvLe (.int .i64 (-1)) res) : G Try.prog E (f120sK0 Try.prog) (f120sS0 l i ) :=
  end_stepL (n := 400) (evs := [.b false]) (obs := [(decide (((i : Nat) : Int) < ((l.length : Nat) : Int))) = false]) hE Try.func120 mixed (by kernel_rfl) ⟨o0, trivial⟩ hr
theorem f120sW0 (l : (List Int)) (i : Nat) {E : Env} {rv : Int} (hE : PureE Try.prog 120 (.int .i64 rv) E)
    (h : ((((i : Nat) : Int) < ((l.length : Nat) : Int) → (∃ e : Int, l[i]? = some e ∧ (((!within e 0 1000) = true → rv = ((i : Nat) : Int)) ∧ ((!within e 0 1000) = false → ((-9223372036854775808 ≤ ((i : Nat) : Int) + 1 ∧ ((i : Nat) : Int) + 1 ≤ 9223372036854775807) ∧ f120sG0 E l (i + 1)))))) ∧ (¬ (((i : Nat) : Int) < ((l.length : Nat) : Int)) → rv = (-1)))) : f120sG0 E l i := by
  rcases Bool.eq_false_or_eq_true (decide (((i : Nat) : Int) < ((l.length : Nat) : Int))) with hc0 | hc0
  · have h := h.1 (of_decide_eq_true hc0)
    obtain ⟨e, h1, h⟩ := h
    rcases Bool.eq_false_or_eq_true (!within e 0 1000) with hc1 | hc1
    · have h := h.1 hc1
      exact p120s_0_0 l i  e hE hc0 (idx_ok h1) (row_part cI (s := 1) (k := 0) (m := 1) (fun _ => rfl) (by decide) h1) (pureF_of Try.func97 (by kernel_rfl) f97b (bad97_ok e)) hc1 (AvLe.of_eq (by rw [h]; try rfl))
    · have h := h.2 hc1
      obtain ⟨q6_2, h⟩ := h
      exact p120s_0_1 l i  e hE hc0 (idx_ok h1) (row_part cI (s := 1) (k := 0) (m := 1) (fun _ => rfl) (by decide) h1) (pureF_of Try.func97 (by kernel_rfl) f97b (bad97_ok e)) hc1 q6_2 h
  · have h := h.2 (of_decide_eq_false hc0)
    exact p120s_0_2 l i   hE hc0 (AvLe.of_eq (by rw [h]; try rfl))

theorem idxS_ok (l : List Int) (h : l.length ≤ 9223372036854775807) : Pure Try.prog 120 [.rsl (rowI l) 0 l.length, .clos 97 [] []] (.int .i64 (idxG (fun n => !within n 0 1000) l)) := pure_of Try.func120 f120b fun E hE => by
  refine f120sW l hE (idxG_from (fun n => !within n 0 1000) l l.length 0 (by omega) (fun j x hj => by omega) (fun i => f120sG0 E l i) (fun i hi' h1 h2 => ?_) (fun _ h2 => ?_))
  · have hx : l[i]? = some l[i] := List.getElem?_eq_getElem hi'
    exact f120sW0 l i hE ⟨fun _ => ⟨_, hx, fun hp => h1 _ hx hp, fun hp => ⟨by omega, h2 _ hx hp⟩⟩, fun h => by omega⟩
  · exact f120sW0 l _ hE ⟨fun h => by omega, fun _ => h2⟩

theorem p96s_start_0 (l : (List Int))   {E : Env} {res : AV} (hE : PureE Try.prog 96 res E) (o0 : PureF Try.prog (.clos 120 [] []) [.rsl (rowI l) 0 l.length, .clos 97 [] []] (.int .i64 (idxG (fun n => !within n 0 1000) l)))
    (hr : AvLe (.bool (decide ((idxG (fun n => !within n 0 1000) l) ≥ 0))) res) : G Try.prog E [.code (bodyAt Try.prog 96)] ⟨[.rsl (rowI l) 0 l.length, .clos 97 [] []] ++ unds (Try.f96.ntmps - 2), []⟩ :=
  end_stepL (n := 400) (evs := [.v (.int .i64 (idxG (fun n => !within n 0 1000) l))]) (obs := [PureF Try.prog (.clos 120 [] []) [.rsl (rowI l) 0 l.length, .clos 97 [] []] (.int .i64 (idxG (fun n => !within n 0 1000) l))]) hE Try.func96 mixed (by kernel_rfl) ⟨o0, trivial⟩ hr
theorem f96sW (l : (List Int)) {E : Env} {rv : Bool} (hE : PureE Try.prog 96 (.bool rv) E)
    (h : ((l.length ≤ 9223372036854775807) ∧ rv = (decide ((idxG (fun n => !within n 0 1000) l) ≥ 0)))) : G Try.prog E [.code (bodyAt Try.prog 96)] ⟨[.rsl (rowI l) 0 l.length, .clos 97 [] []] ++ unds (Try.f96.ntmps - 2), []⟩ := by
  obtain ⟨h1, h⟩ := h
  exact p96s_start_0 l    hE (pureF_of Try.func120 (by kernel_rfl) f120b (idxS_ok l h1)) (AvLe.of_eq (by rw [h]; try rfl))

theorem anyS_ok (l : List Int) (h : l.length ≤ 9223372036854775807) : Pure Try.prog 96 [.rsl (rowI l) 0 l.length, .clos 97 [] []] (.bool (l.any fun n => !within n 0 1000)) := pure_of Try.func96 f96b fun E hE =>
  f96sW l hE ⟨h, (idxG_any _ l).symm⟩

theorem f95b : Try.f95.body = some (bodyAt Try.prog 95) := by kernel_rfl
theorem p95_start_0  (m : Mch) (stock : List Int)   {E : Env} {res : AV} (hE : PureE Try.prog 95 res E) (o0 : (((stock.length : Nat) : Int) == ((m.s.worth.length : Nat) : Int)) = true) (o1 : PureF Try.prog (.clos 96 [] []) [.rsl (rowI stock) 0 stock.length, .clos 97 [] []] (.bool (stock.any (fun n => !within n 0 1000))))
    (hr : AvLe (.bool (!(stock.any (fun n => !within n 0 1000)))) res) : G Try.prog E [.code (bodyAt Try.prog 95)] ⟨[.rptr [.rsl (rowStg m.s.stages) 0 m.s.stages.length, .rsl (rowI m.s.worth) 0 m.s.worth.length, .int .i64 m.s.price, .rsl (rowI m.meas) 0 m.meas.length, .rsl (rowI m.mult) 0 m.mult.length] 0, .rptr [.rsl (rowI stock) 0 stock.length] 0] ++ unds (Try.f95.ntmps - 2), []⟩ :=
  end_stepL (n := 400) (evs := [.b true, .v (.bool (stock.any (fun n => !within n 0 1000)))]) (obs := [(((stock.length : Nat) : Int) == ((m.s.worth.length : Nat) : Int)) = true, PureF Try.prog (.clos 96 [] []) [.rsl (rowI stock) 0 stock.length, .clos 97 [] []] (.bool (stock.any (fun n => !within n 0 1000)))]) hE Try.func95 mixed (by kernel_rfl) ⟨o0, o1, trivial⟩ hr
theorem p95_start_1  (m : Mch) (stock : List Int)   {E : Env} {res : AV} (hE : PureE Try.prog 95 res E) (o0 : (((stock.length : Nat) : Int) == ((m.s.worth.length : Nat) : Int)) = false)
    (hr : AvLe (.bool false) res) : G Try.prog E [.code (bodyAt Try.prog 95)] ⟨[.rptr [.rsl (rowStg m.s.stages) 0 m.s.stages.length, .rsl (rowI m.s.worth) 0 m.s.worth.length, .int .i64 m.s.price, .rsl (rowI m.meas) 0 m.meas.length, .rsl (rowI m.mult) 0 m.mult.length] 0, .rptr [.rsl (rowI stock) 0 stock.length] 0] ++ unds (Try.f95.ntmps - 2), []⟩ :=
  end_stepL (n := 400) (evs := [.b false]) (obs := [(((stock.length : Nat) : Int) == ((m.s.worth.length : Nat) : Int)) = false]) hE Try.func95 mixed (by kernel_rfl) ⟨o0, trivial⟩ hr
theorem f95W  (m : Mch) (stock : List Int) {E : Env} {rv : Bool} (hE : PureE Try.prog 95 (.bool rv) E)
    (h : ((((stock.length : Nat) : Int) = ((m.s.worth.length : Nat) : Int) → ((stock.length ≤ 9223372036854775807) ∧ rv = (!(stock.any (fun n => !within n 0 1000))))) ∧ (¬ (((stock.length : Nat) : Int) = ((m.s.worth.length : Nat) : Int)) → rv = false))) : G Try.prog E [.code (bodyAt Try.prog 95)] ⟨[.rptr [.rsl (rowStg m.s.stages) 0 m.s.stages.length, .rsl (rowI m.s.worth) 0 m.s.worth.length, .int .i64 m.s.price, .rsl (rowI m.meas) 0 m.meas.length, .rsl (rowI m.mult) 0 m.mult.length] 0, .rptr [.rsl (rowI stock) 0 stock.length] 0] ++ unds (Try.f95.ntmps - 2), []⟩ := by
  rcases Bool.eq_false_or_eq_true (((stock.length : Nat) : Int) == ((m.s.worth.length : Nat) : Int)) with hc0 | hc0
  · have h := h.1 (eq_of_beq hc0)
    obtain ⟨h1, h⟩ := h
    exact p95_start_0 m stock    hE hc0 (pureF_of Try.func96 (by kernel_rfl) f96b (anyS_ok stock h1)) (AvLe.of_eq (by rw [h]; try rfl))
  · have h := h.2 (ne_of_beq_false hc0)
    exact p95_start_1 m stock    hE hc0 (AvLe.of_eq (by rw [h]; try rfl))
def rightO (m : Mch) (kd pa oa : Int) : Bool := kindI m kd && aimsI [pa, oa]
theorem right72_ok (m : Mch) (kd pa oa : Int) (h : m.s.worth.length ≤ 1000000) : Pure Try.prog 72 [.rptr (cMch m) 0, .rptr [.int .i64 kd] 0, .rptr [.int .i64 pa] 0, .rptr [.int .i64 oa] 0] (.bool (rightO m kd pa oa)) := pure_of Try.func72 f72b fun E hE =>
  f72W m kd pa oa (rv := rightO m kd pa oa) hE ⟨h, fun h1 => ⟨by simp, by simp [rightO, h1]⟩, fun h1 => by simp [rightO, h1]⟩
def stockOk (m : Mch) (st : List Int) : Bool := decide (st.length = m.s.worth.length) && !(st.any fun n => !within n 0 1000)
theorem right95_ok (m : Mch) (stock : List Int) (h : stock.length ≤ 9223372036854775807) : Pure Try.prog 95 [.rptr (cMch m) 0, .rptr [.rsl (rowI stock) 0 stock.length] 0] (.bool (stockOk m stock)) := pure_of Try.func95 f95b fun E hE =>
  f95W m stock (rv := stockOk m stock) hE ⟨fun h1 => ⟨h, by rw [stockOk, decide_eq_true (by omega)]; rfl⟩, fun h1 => by rw [stockOk, decide_eq_false (by omega)]; rfl⟩
def begR (s : Stl) (rt : Bool) : AV := if (machI s).isSome = true then (if rt = true then .tup [.rptr (cMch (machG s)) 0, .int .i64 0] else .tup [.nilPtr, .int .i64 1]) else .tup [.nilPtr, .int .i64 60]
theorem begR_T {s : Stl} {rt : Bool} (h0 : (machI s).isSome = true) (h1 : rt = true) : begR s rt = .tup [.rptr (cMch (machG s)) 0, .int .i64 0] := by rw [begR, if_pos h0, if_pos h1]
theorem begR_F1 {s : Stl} {rt : Bool} (h0 : (machI s).isSome = true) (h1 : rt = false) : begR s rt = .tup [.nilPtr, .int .i64 1] := by rw [begR, if_pos h0, if_neg (by rw [h1]; simp)]
theorem begR_F0 {s : Stl} {rt : Bool} (h0 : (machI s).isSome = false) : begR s rt = .tup [.nilPtr, .int .i64 60] := by rw [begR, if_neg (by rw [h0]; simp)]
theorem mok_G {s : Stl} (h : (machI s).isSome = true) : MOk (machG s) ∧ (machG s).s = s := by
  obtain ⟨m, hm⟩ := Option.isSome_iff_exists.1 h
  rw [show machG s = m by simp [machG, hm]]
  exact mok_of hm

theorem f71x72b : Try.f71.body = some (bodyAt Try.prog 71) := by kernel_rfl
theorem p71x72_start_0 (s : Stl) (kd pa oa : Int)   {E : Env} {res : AV} (hE : PureE Try.prog 71 res E) (o1 : PureF Try.prog (.clos 61 [] []) [.agg [.rsl (rowStg s.stages) 0 s.stages.length, .rsl (rowI s.worth) 0 s.worth.length, .int .i64 s.price]] (.tup [.rptr [.rsl (rowStg (((machG s).s).stages)) 0 ((((machG s).s).stages).length), .rsl (rowI (((machG s).s).worth)) 0 ((((machG s).s).worth).length), .int .i64 (((machG s).s).price), .rsl (rowI ((machG s).meas)) 0 (((machG s).meas).length), .rsl (rowI ((machG s).mult)) 0 (((machG s).mult).length)] 0, .bool true])) (o3 : PureF Try.prog (.clos 72 [] [.rptr [.int .i64 kd] 0, .rptr [.int .i64 pa] 0, .rptr [.int .i64 oa] 0]) [.rptr [.rsl (rowStg (((machG s).s).stages)) 0 ((((machG s).s).stages).length), .rsl (rowI (((machG s).s).worth)) 0 ((((machG s).s).worth).length), .int .i64 (((machG s).s).price), .rsl (rowI ((machG s).meas)) 0 (((machG s).meas).length), .rsl (rowI ((machG s).mult)) 0 (((machG s).mult).length)] 0] (.bool (rightO (machG s) kd pa oa))) (o4 : (!(rightO (machG s) kd pa oa)) = true)
    (hr : AvLe (.tup [.nilPtr, .int .i64 1]) res) : G Try.prog E [.code (bodyAt Try.prog 71)] ⟨[.agg [.rsl (rowStg s.stages) 0 s.stages.length, .rsl (rowI s.worth) 0 s.worth.length, .int .i64 s.price], .clos 72 [] [.rptr [.int .i64 kd] 0, .rptr [.int .i64 pa] 0, .rptr [.int .i64 oa] 0]] ++ unds (Try.f71.ntmps - 2), []⟩ :=
  end_stepL (n := 400) (evs := [.v (.tup [.rptr [.rsl (rowStg (((machG s).s).stages)) 0 ((((machG s).s).stages).length), .rsl (rowI (((machG s).s).worth)) 0 ((((machG s).s).worth).length), .int .i64 (((machG s).s).price), .rsl (rowI ((machG s).meas)) 0 (((machG s).meas).length), .rsl (rowI ((machG s).mult)) 0 (((machG s).mult).length)] 0, .bool true]), .b false, .v (.bool (rightO (machG s) kd pa oa)), .b true]) (obs := [PureF Try.prog (.clos 61 [] []) [.agg [.rsl (rowStg s.stages) 0 s.stages.length, .rsl (rowI s.worth) 0 s.worth.length, .int .i64 s.price]] (.tup [.rptr [.rsl (rowStg (((machG s).s).stages)) 0 ((((machG s).s).stages).length), .rsl (rowI (((machG s).s).worth)) 0 ((((machG s).s).worth).length), .int .i64 (((machG s).s).price), .rsl (rowI ((machG s).meas)) 0 (((machG s).meas).length), .rsl (rowI ((machG s).mult)) 0 (((machG s).mult).length)] 0, .bool true]), false = false, PureF Try.prog (.clos 72 [] [.rptr [.int .i64 kd] 0, .rptr [.int .i64 pa] 0, .rptr [.int .i64 oa] 0]) [.rptr [.rsl (rowStg (((machG s).s).stages)) 0 ((((machG s).s).stages).length), .rsl (rowI (((machG s).s).worth)) 0 ((((machG s).s).worth).length), .int .i64 (((machG s).s).price), .rsl (rowI ((machG s).meas)) 0 (((machG s).meas).length), .rsl (rowI ((machG s).mult)) 0 (((machG s).mult).length)] 0] (.bool (rightO (machG s) kd pa oa)), (!(rightO (machG s) kd pa oa)) = true]) hE Try.func71 mixed (by kernel_rfl) ⟨o1, (rfl), o3, o4, trivial⟩ hr
theorem p71x72_start_1 (s : Stl) (kd pa oa : Int)   {E : Env} {res : AV} (hE : PureE Try.prog 71 res E) (o1 : PureF Try.prog (.clos 61 [] []) [.agg [.rsl (rowStg s.stages) 0 s.stages.length, .rsl (rowI s.worth) 0 s.worth.length, .int .i64 s.price]] (.tup [.rptr [.rsl (rowStg (((machG s).s).stages)) 0 ((((machG s).s).stages).length), .rsl (rowI (((machG s).s).worth)) 0 ((((machG s).s).worth).length), .int .i64 (((machG s).s).price), .rsl (rowI ((machG s).meas)) 0 (((machG s).meas).length), .rsl (rowI ((machG s).mult)) 0 (((machG s).mult).length)] 0, .bool true])) (o3 : PureF Try.prog (.clos 72 [] [.rptr [.int .i64 kd] 0, .rptr [.int .i64 pa] 0, .rptr [.int .i64 oa] 0]) [.rptr [.rsl (rowStg (((machG s).s).stages)) 0 ((((machG s).s).stages).length), .rsl (rowI (((machG s).s).worth)) 0 ((((machG s).s).worth).length), .int .i64 (((machG s).s).price), .rsl (rowI ((machG s).meas)) 0 (((machG s).meas).length), .rsl (rowI ((machG s).mult)) 0 (((machG s).mult).length)] 0] (.bool (rightO (machG s) kd pa oa))) (o4 : (!(rightO (machG s) kd pa oa)) = false)
    (hr : AvLe (.tup [.rptr [.rsl (rowStg (((machG s).s).stages)) 0 ((((machG s).s).stages).length), .rsl (rowI (((machG s).s).worth)) 0 ((((machG s).s).worth).length), .int .i64 (((machG s).s).price), .rsl (rowI ((machG s).meas)) 0 (((machG s).meas).length), .rsl (rowI ((machG s).mult)) 0 (((machG s).mult).length)] 0, .int .i64 0]) res) : G Try.prog E [.code (bodyAt Try.prog 71)] ⟨[.agg [.rsl (rowStg s.stages) 0 s.stages.length, .rsl (rowI s.worth) 0 s.worth.length, .int .i64 s.price], .clos 72 [] [.rptr [.int .i64 kd] 0, .rptr [.int .i64 pa] 0, .rptr [.int .i64 oa] 0]] ++ unds (Try.f71.ntmps - 2), []⟩ :=
  end_stepL (n := 400) (evs := [.v (.tup [.rptr [.rsl (rowStg (((machG s).s).stages)) 0 ((((machG s).s).stages).length), .rsl (rowI (((machG s).s).worth)) 0 ((((machG s).s).worth).length), .int .i64 (((machG s).s).price), .rsl (rowI ((machG s).meas)) 0 (((machG s).meas).length), .rsl (rowI ((machG s).mult)) 0 (((machG s).mult).length)] 0, .bool true]), .b false, .v (.bool (rightO (machG s) kd pa oa)), .b false]) (obs := [PureF Try.prog (.clos 61 [] []) [.agg [.rsl (rowStg s.stages) 0 s.stages.length, .rsl (rowI s.worth) 0 s.worth.length, .int .i64 s.price]] (.tup [.rptr [.rsl (rowStg (((machG s).s).stages)) 0 ((((machG s).s).stages).length), .rsl (rowI (((machG s).s).worth)) 0 ((((machG s).s).worth).length), .int .i64 (((machG s).s).price), .rsl (rowI ((machG s).meas)) 0 (((machG s).meas).length), .rsl (rowI ((machG s).mult)) 0 (((machG s).mult).length)] 0, .bool true]), false = false, PureF Try.prog (.clos 72 [] [.rptr [.int .i64 kd] 0, .rptr [.int .i64 pa] 0, .rptr [.int .i64 oa] 0]) [.rptr [.rsl (rowStg (((machG s).s).stages)) 0 ((((machG s).s).stages).length), .rsl (rowI (((machG s).s).worth)) 0 ((((machG s).s).worth).length), .int .i64 (((machG s).s).price), .rsl (rowI ((machG s).meas)) 0 (((machG s).meas).length), .rsl (rowI ((machG s).mult)) 0 (((machG s).mult).length)] 0] (.bool (rightO (machG s) kd pa oa)), (!(rightO (machG s) kd pa oa)) = false]) hE Try.func71 mixed (by kernel_rfl) ⟨o1, (rfl), o3, o4, trivial⟩ hr
theorem p71x72_start_2 (s : Stl) (kd pa oa : Int)   {E : Env} {res : AV} (hE : PureE Try.prog 71 res E) (o1 : PureF Try.prog (.clos 61 [] []) [.agg [.rsl (rowStg s.stages) 0 s.stages.length, .rsl (rowI s.worth) 0 s.worth.length, .int .i64 s.price]] (.tup [.nilPtr, .bool false]))
    (hr : AvLe (.tup [.nilPtr, .int .i64 60]) res) : G Try.prog E [.code (bodyAt Try.prog 71)] ⟨[.agg [.rsl (rowStg s.stages) 0 s.stages.length, .rsl (rowI s.worth) 0 s.worth.length, .int .i64 s.price], .clos 72 [] [.rptr [.int .i64 kd] 0, .rptr [.int .i64 pa] 0, .rptr [.int .i64 oa] 0]] ++ unds (Try.f71.ntmps - 2), []⟩ :=
  end_stepL (n := 400) (evs := [.v (.tup [.nilPtr, .bool false]), .b true]) (obs := [PureF Try.prog (.clos 61 [] []) [.agg [.rsl (rowStg s.stages) 0 s.stages.length, .rsl (rowI s.worth) 0 s.worth.length, .int .i64 s.price]] (.tup [.nilPtr, .bool false]), true = true]) hE Try.func71 mixed (by kernel_rfl) ⟨o1, (rfl), trivial⟩ hr
theorem f71x72W (s : Stl) (kd pa oa : Int) {E : Env} {rv : AV} (hE : PureE Try.prog 71 rv E)
    (h : ((((machI s).isSome) = true → ((s.stages.length ≤ 9223372036854775807 ∧ s.worth.length ≤ 9223372036854775807) ∧ (((machG s).s.worth.length ≤ 1000000) ∧ (((rightO (machG s) kd pa oa) = false → rv = (.tup [.nilPtr, .int .i64 1])) ∧ ((rightO (machG s) kd pa oa) = true → rv = (.tup [.rptr [.rsl (rowStg (((machG s).s).stages)) 0 ((((machG s).s).stages).length), .rsl (rowI (((machG s).s).worth)) 0 ((((machG s).s).worth).length), .int .i64 (((machG s).s).price), .rsl (rowI ((machG s).meas)) 0 (((machG s).meas).length), .rsl (rowI ((machG s).mult)) 0 (((machG s).mult).length)] 0, .int .i64 0])))))) ∧ (((machI s).isSome) = false → ((s.stages.length ≤ 9223372036854775807 ∧ s.worth.length ≤ 9223372036854775807) ∧ rv = (.tup [.nilPtr, .int .i64 60]))))) : G Try.prog E [.code (bodyAt Try.prog 71)] ⟨[.agg [.rsl (rowStg s.stages) 0 s.stages.length, .rsl (rowI s.worth) 0 s.worth.length, .int .i64 s.price], .clos 72 [] [.rptr [.int .i64 kd] 0, .rptr [.int .i64 pa] 0, .rptr [.int .i64 oa] 0]] ++ unds (Try.f71.ntmps - 2), []⟩ := by
  rcases Bool.eq_false_or_eq_true ((machI s).isSome) with hc0 | hc0
  · have h := h.1 hc0
    obtain ⟨h1, h⟩ := h
    obtain ⟨h2, h⟩ := h
    rcases Bool.eq_false_or_eq_true (!(rightO (machG s) kd pa oa)) with hc1 | hc1
    · have h := h.1 (bnT hc1)
      exact p71x72_start_0 s kd pa oa    hE (pureF_of Try.func61 (by kernel_rfl) f61b (newMachT_ok s h1 hc0)) (pureF_of Try.func72 (by kernel_rfl) f72b (right72_ok (machG s) kd pa oa h2)) hc1 (AvLe.of_eq (by rw [h]; try rfl))
    · have h := h.2 (bnF hc1)
      exact p71x72_start_1 s kd pa oa    hE (pureF_of Try.func61 (by kernel_rfl) f61b (newMachT_ok s h1 hc0)) (pureF_of Try.func72 (by kernel_rfl) f72b (right72_ok (machG s) kd pa oa h2)) hc1 (AvLe.of_eq (by rw [h]; try rfl))
  · have h := h.2 hc0
    obtain ⟨h1, h⟩ := h
    exact p71x72_start_2 s kd pa oa    hE (pureF_of Try.func61 (by kernel_rfl) f61b (newMachF_ok s h1 hc0)) (AvLe.of_eq (by rw [h]; try rfl))

theorem beg72_ok (s : Stl) (kd pa oa : Int) (h : s.stages.length ≤ 9223372036854775807 ∧ s.worth.length ≤ 9223372036854775807) : Pure Try.prog 71 [.agg [.rsl (rowStg s.stages) 0 s.stages.length, .rsl (rowI s.worth) 0 s.worth.length, .int .i64 s.price], .clos 72 [] [.rptr [.int .i64 kd] 0, .rptr [.int .i64 pa] 0, .rptr [.int .i64 oa] 0]] (begR s (rightO (machG s) kd pa oa)) := pure_of Try.func71 f71x72b fun E hE => by
  refine f71x72W s kd pa oa (rv := begR s (rightO (machG s) kd pa oa)) hE ⟨fun h0 => ⟨h, ?_⟩, fun h0 => ⟨h, begR_F0 h0⟩⟩
  have hm := (mok_G h0).1
  have hw := (stPre_of hm.st).2.1
  have hs := (stPre_of hm.st).1
  exact ⟨by omega, ⟨fun h1 => begR_F1 h0 h1, fun h1 => begR_T h0 h1⟩⟩

theorem f71x95b : Try.f71.body = some (bodyAt Try.prog 71) := by kernel_rfl
theorem p71x95_start_0 (s : Stl) (stock : List Int)   {E : Env} {res : AV} (hE : PureE Try.prog 71 res E) (o1 : PureF Try.prog (.clos 61 [] []) [.agg [.rsl (rowStg s.stages) 0 s.stages.length, .rsl (rowI s.worth) 0 s.worth.length, .int .i64 s.price]] (.tup [.rptr [.rsl (rowStg (((machG s).s).stages)) 0 ((((machG s).s).stages).length), .rsl (rowI (((machG s).s).worth)) 0 ((((machG s).s).worth).length), .int .i64 (((machG s).s).price), .rsl (rowI ((machG s).meas)) 0 (((machG s).meas).length), .rsl (rowI ((machG s).mult)) 0 (((machG s).mult).length)] 0, .bool true])) (o3 : PureF Try.prog (.clos 95 [] [.rptr [.rsl (rowI stock) 0 stock.length] 0]) [.rptr [.rsl (rowStg (((machG s).s).stages)) 0 ((((machG s).s).stages).length), .rsl (rowI (((machG s).s).worth)) 0 ((((machG s).s).worth).length), .int .i64 (((machG s).s).price), .rsl (rowI ((machG s).meas)) 0 (((machG s).meas).length), .rsl (rowI ((machG s).mult)) 0 (((machG s).mult).length)] 0] (.bool (stockOk (machG s) stock))) (o4 : (!(stockOk (machG s) stock)) = true)
    (hr : AvLe (.tup [.nilPtr, .int .i64 1]) res) : G Try.prog E [.code (bodyAt Try.prog 71)] ⟨[.agg [.rsl (rowStg s.stages) 0 s.stages.length, .rsl (rowI s.worth) 0 s.worth.length, .int .i64 s.price], .clos 95 [] [.rptr [.rsl (rowI stock) 0 stock.length] 0]] ++ unds (Try.f71.ntmps - 2), []⟩ :=
  end_stepL (n := 400) (evs := [.v (.tup [.rptr [.rsl (rowStg (((machG s).s).stages)) 0 ((((machG s).s).stages).length), .rsl (rowI (((machG s).s).worth)) 0 ((((machG s).s).worth).length), .int .i64 (((machG s).s).price), .rsl (rowI ((machG s).meas)) 0 (((machG s).meas).length), .rsl (rowI ((machG s).mult)) 0 (((machG s).mult).length)] 0, .bool true]), .b false, .v (.bool (stockOk (machG s) stock)), .b true]) (obs := [PureF Try.prog (.clos 61 [] []) [.agg [.rsl (rowStg s.stages) 0 s.stages.length, .rsl (rowI s.worth) 0 s.worth.length, .int .i64 s.price]] (.tup [.rptr [.rsl (rowStg (((machG s).s).stages)) 0 ((((machG s).s).stages).length), .rsl (rowI (((machG s).s).worth)) 0 ((((machG s).s).worth).length), .int .i64 (((machG s).s).price), .rsl (rowI ((machG s).meas)) 0 (((machG s).meas).length), .rsl (rowI ((machG s).mult)) 0 (((machG s).mult).length)] 0, .bool true]), false = false, PureF Try.prog (.clos 95 [] [.rptr [.rsl (rowI stock) 0 stock.length] 0]) [.rptr [.rsl (rowStg (((machG s).s).stages)) 0 ((((machG s).s).stages).length), .rsl (rowI (((machG s).s).worth)) 0 ((((machG s).s).worth).length), .int .i64 (((machG s).s).price), .rsl (rowI ((machG s).meas)) 0 (((machG s).meas).length), .rsl (rowI ((machG s).mult)) 0 (((machG s).mult).length)] 0] (.bool (stockOk (machG s) stock)), (!(stockOk (machG s) stock)) = true]) hE Try.func71 mixed (by kernel_rfl) ⟨o1, (rfl), o3, o4, trivial⟩ hr
theorem p71x95_start_1 (s : Stl) (stock : List Int)   {E : Env} {res : AV} (hE : PureE Try.prog 71 res E) (o1 : PureF Try.prog (.clos 61 [] []) [.agg [.rsl (rowStg s.stages) 0 s.stages.length, .rsl (rowI s.worth) 0 s.worth.length, .int .i64 s.price]] (.tup [.rptr [.rsl (rowStg (((machG s).s).stages)) 0 ((((machG s).s).stages).length), .rsl (rowI (((machG s).s).worth)) 0 ((((machG s).s).worth).length), .int .i64 (((machG s).s).price), .rsl (rowI ((machG s).meas)) 0 (((machG s).meas).length), .rsl (rowI ((machG s).mult)) 0 (((machG s).mult).length)] 0, .bool true])) (o3 : PureF Try.prog (.clos 95 [] [.rptr [.rsl (rowI stock) 0 stock.length] 0]) [.rptr [.rsl (rowStg (((machG s).s).stages)) 0 ((((machG s).s).stages).length), .rsl (rowI (((machG s).s).worth)) 0 ((((machG s).s).worth).length), .int .i64 (((machG s).s).price), .rsl (rowI ((machG s).meas)) 0 (((machG s).meas).length), .rsl (rowI ((machG s).mult)) 0 (((machG s).mult).length)] 0] (.bool (stockOk (machG s) stock))) (o4 : (!(stockOk (machG s) stock)) = false)
    (hr : AvLe (.tup [.rptr [.rsl (rowStg (((machG s).s).stages)) 0 ((((machG s).s).stages).length), .rsl (rowI (((machG s).s).worth)) 0 ((((machG s).s).worth).length), .int .i64 (((machG s).s).price), .rsl (rowI ((machG s).meas)) 0 (((machG s).meas).length), .rsl (rowI ((machG s).mult)) 0 (((machG s).mult).length)] 0, .int .i64 0]) res) : G Try.prog E [.code (bodyAt Try.prog 71)] ⟨[.agg [.rsl (rowStg s.stages) 0 s.stages.length, .rsl (rowI s.worth) 0 s.worth.length, .int .i64 s.price], .clos 95 [] [.rptr [.rsl (rowI stock) 0 stock.length] 0]] ++ unds (Try.f71.ntmps - 2), []⟩ :=
  end_stepL (n := 400) (evs := [.v (.tup [.rptr [.rsl (rowStg (((machG s).s).stages)) 0 ((((machG s).s).stages).length), .rsl (rowI (((machG s).s).worth)) 0 ((((machG s).s).worth).length), .int .i64 (((machG s).s).price), .rsl (rowI ((machG s).meas)) 0 (((machG s).meas).length), .rsl (rowI ((machG s).mult)) 0 (((machG s).mult).length)] 0, .bool true]), .b false, .v (.bool (stockOk (machG s) stock)), .b false]) (obs := [PureF Try.prog (.clos 61 [] []) [.agg [.rsl (rowStg s.stages) 0 s.stages.length, .rsl (rowI s.worth) 0 s.worth.length, .int .i64 s.price]] (.tup [.rptr [.rsl (rowStg (((machG s).s).stages)) 0 ((((machG s).s).stages).length), .rsl (rowI (((machG s).s).worth)) 0 ((((machG s).s).worth).length), .int .i64 (((machG s).s).price), .rsl (rowI ((machG s).meas)) 0 (((machG s).meas).length), .rsl (rowI ((machG s).mult)) 0 (((machG s).mult).length)] 0, .bool true]), false = false, PureF Try.prog (.clos 95 [] [.rptr [.rsl (rowI stock) 0 stock.length] 0]) [.rptr [.rsl (rowStg (((machG s).s).stages)) 0 ((((machG s).s).stages).length), .rsl (rowI (((machG s).s).worth)) 0 ((((machG s).s).worth).length), .int .i64 (((machG s).s).price), .rsl (rowI ((machG s).meas)) 0 (((machG s).meas).length), .rsl (rowI ((machG s).mult)) 0 (((machG s).mult).length)] 0] (.bool (stockOk (machG s) stock)), (!(stockOk (machG s) stock)) = false]) hE Try.func71 mixed (by kernel_rfl) ⟨o1, (rfl), o3, o4, trivial⟩ hr
theorem p71x95_start_2 (s : Stl) (stock : List Int)   {E : Env} {res : AV} (hE : PureE Try.prog 71 res E) (o1 : PureF Try.prog (.clos 61 [] []) [.agg [.rsl (rowStg s.stages) 0 s.stages.length, .rsl (rowI s.worth) 0 s.worth.length, .int .i64 s.price]] (.tup [.nilPtr, .bool false]))
    (hr : AvLe (.tup [.nilPtr, .int .i64 60]) res) : G Try.prog E [.code (bodyAt Try.prog 71)] ⟨[.agg [.rsl (rowStg s.stages) 0 s.stages.length, .rsl (rowI s.worth) 0 s.worth.length, .int .i64 s.price], .clos 95 [] [.rptr [.rsl (rowI stock) 0 stock.length] 0]] ++ unds (Try.f71.ntmps - 2), []⟩ :=
  end_stepL (n := 400) (evs := [.v (.tup [.nilPtr, .bool false]), .b true]) (obs := [PureF Try.prog (.clos 61 [] []) [.agg [.rsl (rowStg s.stages) 0 s.stages.length, .rsl (rowI s.worth) 0 s.worth.length, .int .i64 s.price]] (.tup [.nilPtr, .bool false]), true = true]) hE Try.func71 mixed (by kernel_rfl) ⟨o1, (rfl), trivial⟩ hr
theorem f71x95W (s : Stl) (stock : List Int) {E : Env} {rv : AV} (hE : PureE Try.prog 71 rv E)
    (h : ((((machI s).isSome) = true → ((s.stages.length ≤ 9223372036854775807 ∧ s.worth.length ≤ 9223372036854775807) ∧ ((stock.length ≤ 9223372036854775807) ∧ (((stockOk (machG s) stock) = false → rv = (.tup [.nilPtr, .int .i64 1])) ∧ ((stockOk (machG s) stock) = true → rv = (.tup [.rptr [.rsl (rowStg (((machG s).s).stages)) 0 ((((machG s).s).stages).length), .rsl (rowI (((machG s).s).worth)) 0 ((((machG s).s).worth).length), .int .i64 (((machG s).s).price), .rsl (rowI ((machG s).meas)) 0 (((machG s).meas).length), .rsl (rowI ((machG s).mult)) 0 (((machG s).mult).length)] 0, .int .i64 0])))))) ∧ (((machI s).isSome) = false → ((s.stages.length ≤ 9223372036854775807 ∧ s.worth.length ≤ 9223372036854775807) ∧ rv = (.tup [.nilPtr, .int .i64 60]))))) : G Try.prog E [.code (bodyAt Try.prog 71)] ⟨[.agg [.rsl (rowStg s.stages) 0 s.stages.length, .rsl (rowI s.worth) 0 s.worth.length, .int .i64 s.price], .clos 95 [] [.rptr [.rsl (rowI stock) 0 stock.length] 0]] ++ unds (Try.f71.ntmps - 2), []⟩ := by
  rcases Bool.eq_false_or_eq_true ((machI s).isSome) with hc0 | hc0
  · have h := h.1 hc0
    obtain ⟨h1, h⟩ := h
    obtain ⟨h2, h⟩ := h
    rcases Bool.eq_false_or_eq_true (!(stockOk (machG s) stock)) with hc1 | hc1
    · have h := h.1 (bnT hc1)
      exact p71x95_start_0 s stock    hE (pureF_of Try.func61 (by kernel_rfl) f61b (newMachT_ok s h1 hc0)) (pureF_of Try.func95 (by kernel_rfl) f95b (right95_ok (machG s) stock h2)) hc1 (AvLe.of_eq (by rw [h]; try rfl))
    · have h := h.2 (bnF hc1)
      exact p71x95_start_1 s stock    hE (pureF_of Try.func61 (by kernel_rfl) f61b (newMachT_ok s h1 hc0)) (pureF_of Try.func95 (by kernel_rfl) f95b (right95_ok (machG s) stock h2)) hc1 (AvLe.of_eq (by rw [h]; try rfl))
  · have h := h.2 hc0
    obtain ⟨h1, h⟩ := h
    exact p71x95_start_2 s stock    hE (pureF_of Try.func61 (by kernel_rfl) f61b (newMachF_ok s h1 hc0)) (AvLe.of_eq (by rw [h]; try rfl))

theorem beg95_ok (s : Stl) (stock : List Int) (h : (s.stages.length ≤ 9223372036854775807 ∧ s.worth.length ≤ 9223372036854775807) ∧ stock.length ≤ 9223372036854775807) : Pure Try.prog 71 [.agg [.rsl (rowStg s.stages) 0 s.stages.length, .rsl (rowI s.worth) 0 s.worth.length, .int .i64 s.price], .clos 95 [] [.rptr [.rsl (rowI stock) 0 stock.length] 0]] (begR s (stockOk (machG s) stock)) := pure_of Try.func71 f71x95b fun E hE => by
  refine f71x95W s stock (rv := begR s (stockOk (machG s) stock)) hE ⟨fun h0 => ⟨h.1, ?_⟩, fun h0 => ⟨h.1, begR_F0 h0⟩⟩
  have hm := (mok_G h0).1
  have hw := (stPre_of hm.st).2.1
  have hs := (stPre_of hm.st).1
  exact ⟨h.2, ⟨fun h1 => begR_F1 h0 h1, fun h1 => begR_T h0 h1⟩⟩

theorem f25b : Try.f25.body = some (bodyAt Try.prog 25) := by kernel_rfl
theorem p25_start_0 (s : Stl) (kd : Int) (pa : Int) (oa : Int)   {E : Env} {res : AV} (hE : PureE Try.prog 25 res E) (o2 : PureF Try.prog (.clos 71 [] []) [.agg [.rsl (rowStg s.stages) 0 s.stages.length, .rsl (rowI s.worth) 0 s.worth.length, .int .i64 s.price], .clos 72 [] [.rptr [.int .i64 kd] 0, .rptr [.int .i64 pa] 0, .rptr [.int .i64 oa] 0]] (.tup [.rptr [.rsl (rowStg (((machG s).s).stages)) 0 ((((machG s).s).stages).length), .rsl (rowI (((machG s).s).worth)) 0 ((((machG s).s).worth).length), .int .i64 (((machG s).s).price), .rsl (rowI ((machG s).meas)) 0 (((machG s).meas).length), .rsl (rowI ((machG s).mult)) 0 (((machG s).mult).length)] 0, .int .i64 0])) (o4 : PureF Try.prog (.clos 76 [] []) [.int .i64 kd] (.clos 113 [] [.rptr [.int .i64 kd] 0])) (o5 : PureF Try.prog (.clos 77 [] []) [.rptr [.rsl (rowStg (((machG s).s).stages)) 0 ((((machG s).s).stages).length), .rsl (rowI (((machG s).s).worth)) 0 ((((machG s).s).worth).length), .int .i64 (((machG s).s).price), .rsl (rowI ((machG s).meas)) 0 (((machG s).meas).length), .rsl (rowI ((machG s).mult)) 0 (((machG s).mult).length)] 0, .int .i64 pa, .int .i64 oa] (.clos 114 [] [.rptr [.int .i64 pa] 0, .rptr [.rptr [.rsl (rowStg (((machG s).s).stages)) 0 ((((machG s).s).stages).length), .rsl (rowI (((machG s).s).worth)) 0 ((((machG s).s).worth).length), .int .i64 (((machG s).s).price), .rsl (rowI ((machG s).meas)) 0 (((machG s).meas).length), .rsl (rowI ((machG s).mult)) 0 (((machG s).mult).length)] 0] 0, .rptr [.int .i64 oa] 0])) (o6 : PureF Try.prog (.clos 75 [] []) [.rptr [.rsl (rowStg (((machG s).s).stages)) 0 ((((machG s).s).stages).length), .rsl (rowI (((machG s).s).worth)) 0 ((((machG s).s).worth).length), .int .i64 (((machG s).s).price), .rsl (rowI ((machG s).meas)) 0 (((machG s).meas).length), .rsl (rowI ((machG s).mult)) 0 (((machG s).mult).length)] 0, .clos 113 [] [.rptr [.int .i64 kd] 0], .clos 114 [] [.rptr [.int .i64 pa] 0, .rptr [.rptr [.rsl (rowStg (((machG s).s).stages)) 0 ((((machG s).s).stages).length), .rsl (rowI (((machG s).s).worth)) 0 ((((machG s).s).worth).length), .int .i64 (((machG s).s).price), .rsl (rowI ((machG s).meas)) 0 (((machG s).meas).length), .rsl (rowI ((machG s).mult)) 0 (((machG s).mult).length)] 0] 0, .rptr [.int .i64 oa] 0]] (.agg [.int .i64 ((firstI (machG s) (onlyI kd) (chooseI (machG s) pa oa)).num), .int .i64 ((firstI (machG s) (onlyI kd) (chooseI (machG s) pa oa)).den)]))
    (hr : AvLe (.tup [.int .i64 ((firstI (machG s) (onlyI kd) (chooseI (machG s) pa oa)).num), .int .i64 ((firstI (machG s) (onlyI kd) (chooseI (machG s) pa oa)).den), .int .i64 0]) res) : G Try.prog E [.code (bodyAt Try.prog 25)] ⟨[.agg [.rsl (rowStg s.stages) 0 s.stages.length, .rsl (rowI s.worth) 0 s.worth.length, .int .i64 s.price], .int .i64 kd, .int .i64 pa, .int .i64 oa] ++ unds (Try.f25.ntmps - 4), []⟩ :=
  end_stepL (n := 400) (evs := [.wt 5, .wt 6, .wt 7, .v (.tup [.rptr [.rsl (rowStg (((machG s).s).stages)) 0 ((((machG s).s).stages).length), .rsl (rowI (((machG s).s).worth)) 0 ((((machG s).s).worth).length), .int .i64 (((machG s).s).price), .rsl (rowI ((machG s).meas)) 0 (((machG s).meas).length), .rsl (rowI ((machG s).mult)) 0 (((machG s).mult).length)] 0, .int .i64 0]), .b false, .v (.clos 113 [] [.rptr [.int .i64 kd] 0]), .v (.clos 114 [] [.rptr [.int .i64 pa] 0, .rptr [.rptr [.rsl (rowStg (((machG s).s).stages)) 0 ((((machG s).s).stages).length), .rsl (rowI (((machG s).s).worth)) 0 ((((machG s).s).worth).length), .int .i64 (((machG s).s).price), .rsl (rowI ((machG s).meas)) 0 (((machG s).meas).length), .rsl (rowI ((machG s).mult)) 0 (((machG s).mult).length)] 0] 0, .rptr [.int .i64 oa] 0]), .v (.agg [.int .i64 ((firstI (machG s) (onlyI kd) (chooseI (machG s) pa oa)).num), .int .i64 ((firstI (machG s) (onlyI kd) (chooseI (machG s) pa oa)).den)])]) (obs := [PureF Try.prog (.clos 71 [] []) [.agg [.rsl (rowStg s.stages) 0 s.stages.length, .rsl (rowI s.worth) 0 s.worth.length, .int .i64 s.price], .clos 72 [] [.rptr [.int .i64 kd] 0, .rptr [.int .i64 pa] 0, .rptr [.int .i64 oa] 0]] (.tup [.rptr [.rsl (rowStg (((machG s).s).stages)) 0 ((((machG s).s).stages).length), .rsl (rowI (((machG s).s).worth)) 0 ((((machG s).s).worth).length), .int .i64 (((machG s).s).price), .rsl (rowI ((machG s).meas)) 0 (((machG s).meas).length), .rsl (rowI ((machG s).mult)) 0 (((machG s).mult).length)] 0, .int .i64 0]), false = false, PureF Try.prog (.clos 76 [] []) [.int .i64 kd] (.clos 113 [] [.rptr [.int .i64 kd] 0]), PureF Try.prog (.clos 77 [] []) [.rptr [.rsl (rowStg (((machG s).s).stages)) 0 ((((machG s).s).stages).length), .rsl (rowI (((machG s).s).worth)) 0 ((((machG s).s).worth).length), .int .i64 (((machG s).s).price), .rsl (rowI ((machG s).meas)) 0 (((machG s).meas).length), .rsl (rowI ((machG s).mult)) 0 (((machG s).mult).length)] 0, .int .i64 pa, .int .i64 oa] (.clos 114 [] [.rptr [.int .i64 pa] 0, .rptr [.rptr [.rsl (rowStg (((machG s).s).stages)) 0 ((((machG s).s).stages).length), .rsl (rowI (((machG s).s).worth)) 0 ((((machG s).s).worth).length), .int .i64 (((machG s).s).price), .rsl (rowI ((machG s).meas)) 0 (((machG s).meas).length), .rsl (rowI ((machG s).mult)) 0 (((machG s).mult).length)] 0] 0, .rptr [.int .i64 oa] 0]), PureF Try.prog (.clos 75 [] []) [.rptr [.rsl (rowStg (((machG s).s).stages)) 0 ((((machG s).s).stages).length), .rsl (rowI (((machG s).s).worth)) 0 ((((machG s).s).worth).length), .int .i64 (((machG s).s).price), .rsl (rowI ((machG s).meas)) 0 (((machG s).meas).length), .rsl (rowI ((machG s).mult)) 0 (((machG s).mult).length)] 0, .clos 113 [] [.rptr [.int .i64 kd] 0], .clos 114 [] [.rptr [.int .i64 pa] 0, .rptr [.rptr [.rsl (rowStg (((machG s).s).stages)) 0 ((((machG s).s).stages).length), .rsl (rowI (((machG s).s).worth)) 0 ((((machG s).s).worth).length), .int .i64 (((machG s).s).price), .rsl (rowI ((machG s).meas)) 0 (((machG s).meas).length), .rsl (rowI ((machG s).mult)) 0 (((machG s).mult).length)] 0] 0, .rptr [.int .i64 oa] 0]] (.agg [.int .i64 ((firstI (machG s) (onlyI kd) (chooseI (machG s) pa oa)).num), .int .i64 ((firstI (machG s) (onlyI kd) (chooseI (machG s) pa oa)).den)]), 2 ≤ 2, (0 : Int) ≤ 0 ∧ (0 : Int) < ((2 : Nat) : Int), (0 : Int) ≤ 1 ∧ (1 : Int) < ((2 : Nat) : Int)]) hE Try.func25 mixed (by kernel_rfl) ⟨o2, (rfl), o4, o5, o6, (by decide), (⟨by decide, by decide⟩), (⟨by decide, by decide⟩), trivial⟩ hr
theorem p25_start_1 (s : Stl) (kd : Int) (pa : Int) (oa : Int)   {E : Env} {res : AV} (hE : PureE Try.prog 25 res E) (o2 : PureF Try.prog (.clos 71 [] []) [.agg [.rsl (rowStg s.stages) 0 s.stages.length, .rsl (rowI s.worth) 0 s.worth.length, .int .i64 s.price], .clos 72 [] [.rptr [.int .i64 kd] 0, .rptr [.int .i64 pa] 0, .rptr [.int .i64 oa] 0]] (.tup [.nilPtr, .int .i64 1]))
    (hr : AvLe (.tup [.int .i64 0, .int .i64 0, .int .i64 1]) res) : G Try.prog E [.code (bodyAt Try.prog 25)] ⟨[.agg [.rsl (rowStg s.stages) 0 s.stages.length, .rsl (rowI s.worth) 0 s.worth.length, .int .i64 s.price], .int .i64 kd, .int .i64 pa, .int .i64 oa] ++ unds (Try.f25.ntmps - 4), []⟩ :=
  end_stepL (n := 400) (evs := [.wt 5, .wt 6, .wt 7, .v (.tup [.nilPtr, .int .i64 1]), .b true]) (obs := [PureF Try.prog (.clos 71 [] []) [.agg [.rsl (rowStg s.stages) 0 s.stages.length, .rsl (rowI s.worth) 0 s.worth.length, .int .i64 s.price], .clos 72 [] [.rptr [.int .i64 kd] 0, .rptr [.int .i64 pa] 0, .rptr [.int .i64 oa] 0]] (.tup [.nilPtr, .int .i64 1]), true = true]) hE Try.func25 mixed (by kernel_rfl) ⟨o2, (rfl), trivial⟩ hr
theorem p25_start_2 (s : Stl) (kd : Int) (pa : Int) (oa : Int)   {E : Env} {res : AV} (hE : PureE Try.prog 25 res E) (o1 : PureF Try.prog (.clos 71 [] []) [.agg [.rsl (rowStg s.stages) 0 s.stages.length, .rsl (rowI s.worth) 0 s.worth.length, .int .i64 s.price], .clos 72 [] [.rptr [.int .i64 kd] 0, .rptr [.int .i64 pa] 0, .rptr [.int .i64 oa] 0]] (.tup [.nilPtr, .int .i64 60]))
    (hr : AvLe (.tup [.int .i64 0, .int .i64 0, .int .i64 60]) res) : G Try.prog E [.code (bodyAt Try.prog 25)] ⟨[.agg [.rsl (rowStg s.stages) 0 s.stages.length, .rsl (rowI s.worth) 0 s.worth.length, .int .i64 s.price], .int .i64 kd, .int .i64 pa, .int .i64 oa] ++ unds (Try.f25.ntmps - 4), []⟩ :=
  end_stepL (n := 400) (evs := [.wt 5, .wt 6, .wt 7, .v (.tup [.nilPtr, .int .i64 60]), .b true]) (obs := [PureF Try.prog (.clos 71 [] []) [.agg [.rsl (rowStg s.stages) 0 s.stages.length, .rsl (rowI s.worth) 0 s.worth.length, .int .i64 s.price], .clos 72 [] [.rptr [.int .i64 kd] 0, .rptr [.int .i64 pa] 0, .rptr [.int .i64 oa] 0]] (.tup [.nilPtr, .int .i64 60]), true = true]) hE Try.func25 mixed (by kernel_rfl) ⟨o1, (rfl), trivial⟩ hr
theorem f25W (s : Stl) (kd : Int) (pa : Int) (oa : Int) {E : Env} {rv : (Int × Int × Int)} (hE : PureE Try.prog 25 (.tup [.int .i64 rv.1, .int .i64 rv.2.1, .int .i64 rv.2.2]) E)
    (h : ((((machI s).isSome) = true → (((rightO (machG s) kd pa oa) = true → ((s.stages.length ≤ 9223372036854775807 ∧ s.worth.length ≤ 9223372036854775807) ∧ ((MOk (machG s)) ∧ rv = ((firstI (machG s) (onlyI kd) (chooseI (machG s) pa oa)).num, (firstI (machG s) (onlyI kd) (chooseI (machG s) pa oa)).den, 0)))) ∧ ((rightO (machG s) kd pa oa) = false → ((s.stages.length ≤ 9223372036854775807 ∧ s.worth.length ≤ 9223372036854775807) ∧ rv = (0, 0, 1))))) ∧ (((machI s).isSome) = false → ((s.stages.length ≤ 9223372036854775807 ∧ s.worth.length ≤ 9223372036854775807) ∧ rv = (0, 0, 60))))) : G Try.prog E [.code (bodyAt Try.prog 25)] ⟨[.agg [.rsl (rowStg s.stages) 0 s.stages.length, .rsl (rowI s.worth) 0 s.worth.length, .int .i64 s.price], .int .i64 kd, .int .i64 pa, .int .i64 oa] ++ unds (Try.f25.ntmps - 4), []⟩ := by
  rcases Bool.eq_false_or_eq_true ((machI s).isSome) with hc0 | hc0
  · have h := h.1 hc0
    rcases Bool.eq_false_or_eq_true (rightO (machG s) kd pa oa) with hc1 | hc1
    · have h := h.1 hc1
      obtain ⟨h1, h⟩ := h
      obtain ⟨h2, h⟩ := h
      exact p25_start_0 s kd pa oa    hE (pureF_of Try.func71 (by kernel_rfl) f71x72b (begR_T hc0 hc1 ▸ beg72_ok s kd pa oa h1)) (pureF_of Try.func76 (by kernel_rfl) f76b (mkonly_ok kd)) (pureF_of Try.func77 (by kernel_rfl) f77b (mkaims_ok (machG s) pa oa)) (pureF_of Try.func75 (by kernel_rfl) f75ob (firsto_ok (machG s) kd pa oa h2)) (AvLe.of_eq (by rw [h]; try rfl))
    · have h := h.2 hc1
      obtain ⟨h1, h⟩ := h
      exact p25_start_1 s kd pa oa    hE (pureF_of Try.func71 (by kernel_rfl) f71x72b (begR_F1 hc0 hc1 ▸ beg72_ok s kd pa oa h1)) (AvLe.of_eq (by rw [h]; try rfl))
  · have h := h.2 hc0
    obtain ⟨h1, h⟩ := h
    exact p25_start_2 s kd pa oa    hE (pureF_of Try.func71 (by kernel_rfl) f71x72b (begR_F0 hc0 ▸ beg72_ok s kd pa oa h1)) (AvLe.of_eq (by rw [h]; try rfl))
theorem f64b : Try.f64.body = some (bodyAt Try.prog 64) := by kernel_rfl
theorem p64_start_0    {E : Env} {res : AV} (hE : PureE Try.prog 64 res E) 
    (hr : AvLe (.agg [.rsl [.int .i64 3, .int .i64 0, .rsl [.int .i64 0, .int .i64 1, .int .i64 0, .int .i64 2] 0 2, .int .i64 1, .int .i64 0, .rsl [.int .i64 1, .int .i64 3, .int .i64 1, .int .i64 4] 0 2, .int .i64 1, .int .i64 0, .rsl [.int .i64 1, .int .i64 3, .int .i64 3, .int .i64 4] 0 2, .int .i64 4, .int .i64 0, .rsl [] 0 0, .int .i64 4, .int .i64 (-1), .rsl [] 0 0] 0 5, .rsl [.int .i64 100] 0 1, .int .i64 40]) res) : G Try.prog E [.code (bodyAt Try.prog 64)] ⟨[] ++ unds (Try.f64.ntmps - 0), []⟩ :=
  end_stepL (n := 400) (evs := [.wt 13, .wt 14]) (obs := [3 ≤ 3, 0 = 0, 0 = 0, 0 = 0, 0 = 0, 0 = 0]) hE Try.func64 mixed (by kernel_rfl) ⟨(by decide), (rfl), (rfl), (rfl), (rfl), (rfl), trivial⟩ hr
theorem f64W  {E : Env} {rv : Stl} (hE : PureE Try.prog 64 (.agg [.rsl (rowStg rv.stages) 0 rv.stages.length, .rsl (rowI rv.worth) 0 rv.worth.length, .int .i64 rv.price]) E)
    (h : rv = (⟨[(⟨3, 0, [(⟨0, 1⟩ : Trn), (⟨0, 2⟩ : Trn)]⟩ : Stg), (⟨1, 0, [(⟨1, 3⟩ : Trn), (⟨1, 4⟩ : Trn)]⟩ : Stg), (⟨1, 0, [(⟨1, 3⟩ : Trn), (⟨3, 4⟩ : Trn)]⟩ : Stg), (⟨4, 0, ([] : List Trn)⟩ : Stg), (⟨4, (-1), ([] : List Trn)⟩ : Stg)], [100], 40⟩ : Stl)) : G Try.prog E [.code (bodyAt Try.prog 64)] ⟨[] ++ unds (Try.f64.ntmps - 0), []⟩ := by
  exact p64_start_0     hE  (AvLe.of_eq (by rw [h]; try rfl))

def oddsK (s : Stl) (kd pa oa : Int) : Int × Int × Int := if (machI s).isSome = true then (if rightO (machG s) kd pa oa = true then ((firstI (machG s) (onlyI kd) (chooseI (machG s) pa oa)).num, (firstI (machG s) (onlyI kd) (chooseI (machG s) pa oa)).den, 0) else (0, 0, 1)) else (0, 0, 60)
theorem odds_ok (s : Stl) (kd pa oa : Int) (h : s.stages.length ≤ 9223372036854775807 ∧ s.worth.length ≤ 9223372036854775807) : Pure Try.prog 25 [.agg [.rsl (rowStg s.stages) 0 s.stages.length, .rsl (rowI s.worth) 0 s.worth.length, .int .i64 s.price], .int .i64 kd, .int .i64 pa, .int .i64 oa] (.tup [.int .i64 (oddsK s kd pa oa).1, .int .i64 (oddsK s kd pa oa).2.1, .int .i64 (oddsK s kd pa oa).2.2]) := pure_of Try.func25 f25b fun E hE => by
  refine f25W s kd pa oa (rv := oddsK s kd pa oa) hE ⟨fun h0 => ⟨fun h1 => ⟨h, (mok_G h0).1, ?_⟩, fun h1 => ⟨h, ?_⟩⟩, fun h0 => ⟨h, ?_⟩⟩
  · rw [oddsK, if_pos h0, if_pos h1]
  · rw [oddsK, if_pos h0, if_neg (by rw [h1]; simp)]
  · rw [oddsK, if_neg (by rw [h0]; simp)]
def exS : Stl := ⟨[⟨3, 0, [⟨0, 1⟩, ⟨0, 2⟩]⟩, ⟨1, 0, [⟨1, 3⟩, ⟨1, 4⟩]⟩, ⟨1, 0, [⟨1, 3⟩, ⟨3, 4⟩]⟩, ⟨4, 0, []⟩, ⟨4, -1, []⟩], [100], 40⟩
theorem example_ok : Pure Try.prog 64 [] (.agg [.rsl (rowStg exS.stages) 0 exS.stages.length, .rsl (rowI exS.worth) 0 exS.worth.length, .int .i64 exS.price]) := pure_of Try.func64 f64b fun E hE => f64W (rv := exS) hE rfl

theorem f20b : Try.f20.body = some (bodyAt Try.prog 20) := by kernel_rfl
theorem p20_start_0    {E : Env} {res : AV} (hE : PureE Try.prog 20 res E) (o0 : PureF Try.prog (.clos 64 [] []) [] (.agg [.rsl (rowStg exS.stages) 0 exS.stages.length, .rsl (rowI exS.worth) 0 exS.worth.length, .int .i64 exS.price])) (o1 : PureF Try.prog (.clos 25 [] []) [.agg [.rsl (rowStg exS.stages) 0 exS.stages.length, .rsl (rowI exS.worth) 0 exS.worth.length, .int .i64 exS.price], .int .i64 0, .int .i64 2, .int .i64 1] (.tup [.int .i64 ((oddsK exS 0 2 1).1), .int .i64 ((oddsK exS 0 2 1).2.1), .int .i64 ((oddsK exS 0 2 1).2.2)])) (o2 : PureF Try.prog (.clos 21 [] []) [.int .i64 3, .int .i64 2, .int .i64 1, .int .i64 3] (.tup [.agg [.rsl (rowStg (((throwsK 3 2 1 3).1).stages)) 0 ((((throwsK 3 2 1 3).1).stages).length), .rsl (rowI (((throwsK 3 2 1 3).1).worth)) 0 ((((throwsK 3 2 1 3).1).worth).length), .int .i64 (((throwsK 3 2 1 3).1).price)], .int .i64 ((throwsK 3 2 1 3).2)])) (o4 : ((oddsK exS 0 2 1).2.2 == 0) = true) (o5 : ((throwsK 3 2 1 3).2 == 0) = true) (o6 : ((oddsK exS 0 2 1).1 == 1) = true) (o7 : ((oddsK exS 0 2 1).2.1 == 4) = true)
    (hr : AvLe (.bool ((((((throwsK 3 2 1 3).1).stages).length : Nat) : Int) == 8)) res) : G Try.prog E [.code (bodyAt Try.prog 20)] ⟨[] ++ unds (Try.f20.ntmps - 0), []⟩ :=
  end_stepL (n := 400) (evs := [.v (.agg [.rsl (rowStg exS.stages) 0 exS.stages.length, .rsl (rowI exS.worth) 0 exS.worth.length, .int .i64 exS.price]), .v (.tup [.int .i64 ((oddsK exS 0 2 1).1), .int .i64 ((oddsK exS 0 2 1).2.1), .int .i64 ((oddsK exS 0 2 1).2.2)]), .v (.tup [.agg [.rsl (rowStg (((throwsK 3 2 1 3).1).stages)) 0 ((((throwsK 3 2 1 3).1).stages).length), .rsl (rowI (((throwsK 3 2 1 3).1).worth)) 0 ((((throwsK 3 2 1 3).1).worth).length), .int .i64 (((throwsK 3 2 1 3).1).price)], .int .i64 ((throwsK 3 2 1 3).2)]), .b true, .b true, .b true, .b true]) (obs := [PureF Try.prog (.clos 64 [] []) [] (.agg [.rsl (rowStg exS.stages) 0 exS.stages.length, .rsl (rowI exS.worth) 0 exS.worth.length, .int .i64 exS.price]), PureF Try.prog (.clos 25 [] []) [.agg [.rsl (rowStg exS.stages) 0 exS.stages.length, .rsl (rowI exS.worth) 0 exS.worth.length, .int .i64 exS.price], .int .i64 0, .int .i64 2, .int .i64 1] (.tup [.int .i64 ((oddsK exS 0 2 1).1), .int .i64 ((oddsK exS 0 2 1).2.1), .int .i64 ((oddsK exS 0 2 1).2.2)]), PureF Try.prog (.clos 21 [] []) [.int .i64 3, .int .i64 2, .int .i64 1, .int .i64 3] (.tup [.agg [.rsl (rowStg (((throwsK 3 2 1 3).1).stages)) 0 ((((throwsK 3 2 1 3).1).stages).length), .rsl (rowI (((throwsK 3 2 1 3).1).worth)) 0 ((((throwsK 3 2 1 3).1).worth).length), .int .i64 (((throwsK 3 2 1 3).1).price)], .int .i64 ((throwsK 3 2 1 3).2)]), 3 ≤ 3, ((oddsK exS 0 2 1).2.2 == 0) = true, ((throwsK 3 2 1 3).2 == 0) = true, ((oddsK exS 0 2 1).1 == 1) = true, ((oddsK exS 0 2 1).2.1 == 4) = true]) hE Try.func20 mixed (by kernel_rfl) ⟨o0, o1, o2, (by decide), o4, o5, o6, o7, trivial⟩ hr
theorem p20_start_1    {E : Env} {res : AV} (hE : PureE Try.prog 20 res E) (o0 : PureF Try.prog (.clos 64 [] []) [] (.agg [.rsl (rowStg exS.stages) 0 exS.stages.length, .rsl (rowI exS.worth) 0 exS.worth.length, .int .i64 exS.price])) (o1 : PureF Try.prog (.clos 25 [] []) [.agg [.rsl (rowStg exS.stages) 0 exS.stages.length, .rsl (rowI exS.worth) 0 exS.worth.length, .int .i64 exS.price], .int .i64 0, .int .i64 2, .int .i64 1] (.tup [.int .i64 ((oddsK exS 0 2 1).1), .int .i64 ((oddsK exS 0 2 1).2.1), .int .i64 ((oddsK exS 0 2 1).2.2)])) (o2 : PureF Try.prog (.clos 21 [] []) [.int .i64 3, .int .i64 2, .int .i64 1, .int .i64 3] (.tup [.agg [.rsl (rowStg (((throwsK 3 2 1 3).1).stages)) 0 ((((throwsK 3 2 1 3).1).stages).length), .rsl (rowI (((throwsK 3 2 1 3).1).worth)) 0 ((((throwsK 3 2 1 3).1).worth).length), .int .i64 (((throwsK 3 2 1 3).1).price)], .int .i64 ((throwsK 3 2 1 3).2)])) (o4 : ((oddsK exS 0 2 1).2.2 == 0) = true) (o5 : ((throwsK 3 2 1 3).2 == 0) = true) (o6 : ((oddsK exS 0 2 1).1 == 1) = true) (o7 : ((oddsK exS 0 2 1).2.1 == 4) = false)
    (hr : AvLe (.bool false) res) : G Try.prog E [.code (bodyAt Try.prog 20)] ⟨[] ++ unds (Try.f20.ntmps - 0), []⟩ :=
  end_stepL (n := 400) (evs := [.v (.agg [.rsl (rowStg exS.stages) 0 exS.stages.length, .rsl (rowI exS.worth) 0 exS.worth.length, .int .i64 exS.price]), .v (.tup [.int .i64 ((oddsK exS 0 2 1).1), .int .i64 ((oddsK exS 0 2 1).2.1), .int .i64 ((oddsK exS 0 2 1).2.2)]), .v (.tup [.agg [.rsl (rowStg (((throwsK 3 2 1 3).1).stages)) 0 ((((throwsK 3 2 1 3).1).stages).length), .rsl (rowI (((throwsK 3 2 1 3).1).worth)) 0 ((((throwsK 3 2 1 3).1).worth).length), .int .i64 (((throwsK 3 2 1 3).1).price)], .int .i64 ((throwsK 3 2 1 3).2)]), .b true, .b true, .b true, .b false]) (obs := [PureF Try.prog (.clos 64 [] []) [] (.agg [.rsl (rowStg exS.stages) 0 exS.stages.length, .rsl (rowI exS.worth) 0 exS.worth.length, .int .i64 exS.price]), PureF Try.prog (.clos 25 [] []) [.agg [.rsl (rowStg exS.stages) 0 exS.stages.length, .rsl (rowI exS.worth) 0 exS.worth.length, .int .i64 exS.price], .int .i64 0, .int .i64 2, .int .i64 1] (.tup [.int .i64 ((oddsK exS 0 2 1).1), .int .i64 ((oddsK exS 0 2 1).2.1), .int .i64 ((oddsK exS 0 2 1).2.2)]), PureF Try.prog (.clos 21 [] []) [.int .i64 3, .int .i64 2, .int .i64 1, .int .i64 3] (.tup [.agg [.rsl (rowStg (((throwsK 3 2 1 3).1).stages)) 0 ((((throwsK 3 2 1 3).1).stages).length), .rsl (rowI (((throwsK 3 2 1 3).1).worth)) 0 ((((throwsK 3 2 1 3).1).worth).length), .int .i64 (((throwsK 3 2 1 3).1).price)], .int .i64 ((throwsK 3 2 1 3).2)]), 3 ≤ 3, ((oddsK exS 0 2 1).2.2 == 0) = true, ((throwsK 3 2 1 3).2 == 0) = true, ((oddsK exS 0 2 1).1 == 1) = true, ((oddsK exS 0 2 1).2.1 == 4) = false]) hE Try.func20 mixed (by kernel_rfl) ⟨o0, o1, o2, (by decide), o4, o5, o6, o7, trivial⟩ hr
theorem p20_start_2    {E : Env} {res : AV} (hE : PureE Try.prog 20 res E) (o0 : PureF Try.prog (.clos 64 [] []) [] (.agg [.rsl (rowStg exS.stages) 0 exS.stages.length, .rsl (rowI exS.worth) 0 exS.worth.length, .int .i64 exS.price])) (o1 : PureF Try.prog (.clos 25 [] []) [.agg [.rsl (rowStg exS.stages) 0 exS.stages.length, .rsl (rowI exS.worth) 0 exS.worth.length, .int .i64 exS.price], .int .i64 0, .int .i64 2, .int .i64 1] (.tup [.int .i64 ((oddsK exS 0 2 1).1), .int .i64 ((oddsK exS 0 2 1).2.1), .int .i64 ((oddsK exS 0 2 1).2.2)])) (o2 : PureF Try.prog (.clos 21 [] []) [.int .i64 3, .int .i64 2, .int .i64 1, .int .i64 3] (.tup [.agg [.rsl (rowStg (((throwsK 3 2 1 3).1).stages)) 0 ((((throwsK 3 2 1 3).1).stages).length), .rsl (rowI (((throwsK 3 2 1 3).1).worth)) 0 ((((throwsK 3 2 1 3).1).worth).length), .int .i64 (((throwsK 3 2 1 3).1).price)], .int .i64 ((throwsK 3 2 1 3).2)])) (o4 : ((oddsK exS 0 2 1).2.2 == 0) = true) (o5 : ((throwsK 3 2 1 3).2 == 0) = true) (o6 : ((oddsK exS 0 2 1).1 == 1) = false)
    (hr : AvLe (.bool false) res) : G Try.prog E [.code (bodyAt Try.prog 20)] ⟨[] ++ unds (Try.f20.ntmps - 0), []⟩ :=
  end_stepL (n := 400) (evs := [.v (.agg [.rsl (rowStg exS.stages) 0 exS.stages.length, .rsl (rowI exS.worth) 0 exS.worth.length, .int .i64 exS.price]), .v (.tup [.int .i64 ((oddsK exS 0 2 1).1), .int .i64 ((oddsK exS 0 2 1).2.1), .int .i64 ((oddsK exS 0 2 1).2.2)]), .v (.tup [.agg [.rsl (rowStg (((throwsK 3 2 1 3).1).stages)) 0 ((((throwsK 3 2 1 3).1).stages).length), .rsl (rowI (((throwsK 3 2 1 3).1).worth)) 0 ((((throwsK 3 2 1 3).1).worth).length), .int .i64 (((throwsK 3 2 1 3).1).price)], .int .i64 ((throwsK 3 2 1 3).2)]), .b true, .b true, .b false, .b false]) (obs := [PureF Try.prog (.clos 64 [] []) [] (.agg [.rsl (rowStg exS.stages) 0 exS.stages.length, .rsl (rowI exS.worth) 0 exS.worth.length, .int .i64 exS.price]), PureF Try.prog (.clos 25 [] []) [.agg [.rsl (rowStg exS.stages) 0 exS.stages.length, .rsl (rowI exS.worth) 0 exS.worth.length, .int .i64 exS.price], .int .i64 0, .int .i64 2, .int .i64 1] (.tup [.int .i64 ((oddsK exS 0 2 1).1), .int .i64 ((oddsK exS 0 2 1).2.1), .int .i64 ((oddsK exS 0 2 1).2.2)]), PureF Try.prog (.clos 21 [] []) [.int .i64 3, .int .i64 2, .int .i64 1, .int .i64 3] (.tup [.agg [.rsl (rowStg (((throwsK 3 2 1 3).1).stages)) 0 ((((throwsK 3 2 1 3).1).stages).length), .rsl (rowI (((throwsK 3 2 1 3).1).worth)) 0 ((((throwsK 3 2 1 3).1).worth).length), .int .i64 (((throwsK 3 2 1 3).1).price)], .int .i64 ((throwsK 3 2 1 3).2)]), 3 ≤ 3, ((oddsK exS 0 2 1).2.2 == 0) = true, ((throwsK 3 2 1 3).2 == 0) = true, ((oddsK exS 0 2 1).1 == 1) = false, false = false]) hE Try.func20 mixed (by kernel_rfl) ⟨o0, o1, o2, (by decide), o4, o5, o6, (rfl), trivial⟩ hr
theorem p20_start_3    {E : Env} {res : AV} (hE : PureE Try.prog 20 res E) (o0 : PureF Try.prog (.clos 64 [] []) [] (.agg [.rsl (rowStg exS.stages) 0 exS.stages.length, .rsl (rowI exS.worth) 0 exS.worth.length, .int .i64 exS.price])) (o1 : PureF Try.prog (.clos 25 [] []) [.agg [.rsl (rowStg exS.stages) 0 exS.stages.length, .rsl (rowI exS.worth) 0 exS.worth.length, .int .i64 exS.price], .int .i64 0, .int .i64 2, .int .i64 1] (.tup [.int .i64 ((oddsK exS 0 2 1).1), .int .i64 ((oddsK exS 0 2 1).2.1), .int .i64 ((oddsK exS 0 2 1).2.2)])) (o2 : PureF Try.prog (.clos 21 [] []) [.int .i64 3, .int .i64 2, .int .i64 1, .int .i64 3] (.tup [.agg [.rsl (rowStg (((throwsK 3 2 1 3).1).stages)) 0 ((((throwsK 3 2 1 3).1).stages).length), .rsl (rowI (((throwsK 3 2 1 3).1).worth)) 0 ((((throwsK 3 2 1 3).1).worth).length), .int .i64 (((throwsK 3 2 1 3).1).price)], .int .i64 ((throwsK 3 2 1 3).2)])) (o4 : ((oddsK exS 0 2 1).2.2 == 0) = true) (o5 : ((throwsK 3 2 1 3).2 == 0) = false)
    (hr : AvLe (.bool false) res) : G Try.prog E [.code (bodyAt Try.prog 20)] ⟨[] ++ unds (Try.f20.ntmps - 0), []⟩ :=
  end_stepL (n := 400) (evs := [.v (.agg [.rsl (rowStg exS.stages) 0 exS.stages.length, .rsl (rowI exS.worth) 0 exS.worth.length, .int .i64 exS.price]), .v (.tup [.int .i64 ((oddsK exS 0 2 1).1), .int .i64 ((oddsK exS 0 2 1).2.1), .int .i64 ((oddsK exS 0 2 1).2.2)]), .v (.tup [.agg [.rsl (rowStg (((throwsK 3 2 1 3).1).stages)) 0 ((((throwsK 3 2 1 3).1).stages).length), .rsl (rowI (((throwsK 3 2 1 3).1).worth)) 0 ((((throwsK 3 2 1 3).1).worth).length), .int .i64 (((throwsK 3 2 1 3).1).price)], .int .i64 ((throwsK 3 2 1 3).2)]), .b true, .b false, .b false, .b false]) (obs := [PureF Try.prog (.clos 64 [] []) [] (.agg [.rsl (rowStg exS.stages) 0 exS.stages.length, .rsl (rowI exS.worth) 0 exS.worth.length, .int .i64 exS.price]), PureF Try.prog (.clos 25 [] []) [.agg [.rsl (rowStg exS.stages) 0 exS.stages.length, .rsl (rowI exS.worth) 0 exS.worth.length, .int .i64 exS.price], .int .i64 0, .int .i64 2, .int .i64 1] (.tup [.int .i64 ((oddsK exS 0 2 1).1), .int .i64 ((oddsK exS 0 2 1).2.1), .int .i64 ((oddsK exS 0 2 1).2.2)]), PureF Try.prog (.clos 21 [] []) [.int .i64 3, .int .i64 2, .int .i64 1, .int .i64 3] (.tup [.agg [.rsl (rowStg (((throwsK 3 2 1 3).1).stages)) 0 ((((throwsK 3 2 1 3).1).stages).length), .rsl (rowI (((throwsK 3 2 1 3).1).worth)) 0 ((((throwsK 3 2 1 3).1).worth).length), .int .i64 (((throwsK 3 2 1 3).1).price)], .int .i64 ((throwsK 3 2 1 3).2)]), 3 ≤ 3, ((oddsK exS 0 2 1).2.2 == 0) = true, ((throwsK 3 2 1 3).2 == 0) = false, false = false, false = false]) hE Try.func20 mixed (by kernel_rfl) ⟨o0, o1, o2, (by decide), o4, o5, (rfl), (rfl), trivial⟩ hr
theorem p20_start_4    {E : Env} {res : AV} (hE : PureE Try.prog 20 res E) (o0 : PureF Try.prog (.clos 64 [] []) [] (.agg [.rsl (rowStg exS.stages) 0 exS.stages.length, .rsl (rowI exS.worth) 0 exS.worth.length, .int .i64 exS.price])) (o1 : PureF Try.prog (.clos 25 [] []) [.agg [.rsl (rowStg exS.stages) 0 exS.stages.length, .rsl (rowI exS.worth) 0 exS.worth.length, .int .i64 exS.price], .int .i64 0, .int .i64 2, .int .i64 1] (.tup [.int .i64 ((oddsK exS 0 2 1).1), .int .i64 ((oddsK exS 0 2 1).2.1), .int .i64 ((oddsK exS 0 2 1).2.2)])) (o2 : PureF Try.prog (.clos 21 [] []) [.int .i64 3, .int .i64 2, .int .i64 1, .int .i64 3] (.tup [.agg [.rsl (rowStg (((throwsK 3 2 1 3).1).stages)) 0 ((((throwsK 3 2 1 3).1).stages).length), .rsl (rowI (((throwsK 3 2 1 3).1).worth)) 0 ((((throwsK 3 2 1 3).1).worth).length), .int .i64 (((throwsK 3 2 1 3).1).price)], .int .i64 ((throwsK 3 2 1 3).2)])) (o4 : ((oddsK exS 0 2 1).2.2 == 0) = false)
    (hr : AvLe (.bool false) res) : G Try.prog E [.code (bodyAt Try.prog 20)] ⟨[] ++ unds (Try.f20.ntmps - 0), []⟩ :=
  end_stepL (n := 400) (evs := [.v (.agg [.rsl (rowStg exS.stages) 0 exS.stages.length, .rsl (rowI exS.worth) 0 exS.worth.length, .int .i64 exS.price]), .v (.tup [.int .i64 ((oddsK exS 0 2 1).1), .int .i64 ((oddsK exS 0 2 1).2.1), .int .i64 ((oddsK exS 0 2 1).2.2)]), .v (.tup [.agg [.rsl (rowStg (((throwsK 3 2 1 3).1).stages)) 0 ((((throwsK 3 2 1 3).1).stages).length), .rsl (rowI (((throwsK 3 2 1 3).1).worth)) 0 ((((throwsK 3 2 1 3).1).worth).length), .int .i64 (((throwsK 3 2 1 3).1).price)], .int .i64 ((throwsK 3 2 1 3).2)]), .b false, .b false, .b false, .b false]) (obs := [PureF Try.prog (.clos 64 [] []) [] (.agg [.rsl (rowStg exS.stages) 0 exS.stages.length, .rsl (rowI exS.worth) 0 exS.worth.length, .int .i64 exS.price]), PureF Try.prog (.clos 25 [] []) [.agg [.rsl (rowStg exS.stages) 0 exS.stages.length, .rsl (rowI exS.worth) 0 exS.worth.length, .int .i64 exS.price], .int .i64 0, .int .i64 2, .int .i64 1] (.tup [.int .i64 ((oddsK exS 0 2 1).1), .int .i64 ((oddsK exS 0 2 1).2.1), .int .i64 ((oddsK exS 0 2 1).2.2)]), PureF Try.prog (.clos 21 [] []) [.int .i64 3, .int .i64 2, .int .i64 1, .int .i64 3] (.tup [.agg [.rsl (rowStg (((throwsK 3 2 1 3).1).stages)) 0 ((((throwsK 3 2 1 3).1).stages).length), .rsl (rowI (((throwsK 3 2 1 3).1).worth)) 0 ((((throwsK 3 2 1 3).1).worth).length), .int .i64 (((throwsK 3 2 1 3).1).price)], .int .i64 ((throwsK 3 2 1 3).2)]), 3 ≤ 3, ((oddsK exS 0 2 1).2.2 == 0) = false, false = false, false = false, false = false]) hE Try.func20 mixed (by kernel_rfl) ⟨o0, o1, o2, (by decide), o4, (rfl), (rfl), (rfl), trivial⟩ hr
theorem f20W  {E : Env} {rv : Bool} (hE : PureE Try.prog 20 (.bool rv) E)
    (h : ((exS.stages.length ≤ 9223372036854775807 ∧ exS.worth.length ≤ 9223372036854775807) ∧ (((oddsK exS 0 2 1).2.2 = 0 → (((throwsK 3 2 1 3).2 = 0 → (((oddsK exS 0 2 1).1 = 1 → (((oddsK exS 0 2 1).2.1 = 4 → rv = ((((((throwsK 3 2 1 3).1).stages).length : Nat) : Int) == 8)) ∧ (¬ ((oddsK exS 0 2 1).2.1 = 4) → rv = false))) ∧ (¬ ((oddsK exS 0 2 1).1 = 1) → rv = false))) ∧ (¬ ((throwsK 3 2 1 3).2 = 0) → rv = false))) ∧ (¬ ((oddsK exS 0 2 1).2.2 = 0) → rv = false)))) : G Try.prog E [.code (bodyAt Try.prog 20)] ⟨[] ++ unds (Try.f20.ntmps - 0), []⟩ := by
  obtain ⟨h1, h⟩ := h
  rcases Bool.eq_false_or_eq_true ((oddsK exS 0 2 1).2.2 == 0) with hc0 | hc0
  · have h := h.1 (eq_of_beq hc0)
    rcases Bool.eq_false_or_eq_true ((throwsK 3 2 1 3).2 == 0) with hc1 | hc1
    · have h := h.1 (eq_of_beq hc1)
      rcases Bool.eq_false_or_eq_true ((oddsK exS 0 2 1).1 == 1) with hc2 | hc2
      · have h := h.1 (eq_of_beq hc2)
        rcases Bool.eq_false_or_eq_true ((oddsK exS 0 2 1).2.1 == 4) with hc3 | hc3
        · have h := h.1 (eq_of_beq hc3)
          exact p20_start_0     hE (pureF_of Try.func64 (by kernel_rfl) f64b (example_ok )) (pureF_of Try.func25 (by kernel_rfl) f25b (odds_ok exS 0 2 1 h1)) (pureF_of Try.func21 (by kernel_rfl) f21b (throws_ok 3 2 1 3)) hc0 hc1 hc2 hc3 (AvLe.of_eq (by rw [h]; try rfl))
        · have h := h.2 (ne_of_beq_false hc3)
          exact p20_start_1     hE (pureF_of Try.func64 (by kernel_rfl) f64b (example_ok )) (pureF_of Try.func25 (by kernel_rfl) f25b (odds_ok exS 0 2 1 h1)) (pureF_of Try.func21 (by kernel_rfl) f21b (throws_ok 3 2 1 3)) hc0 hc1 hc2 hc3 (AvLe.of_eq (by rw [h]; try rfl))
      · have h := h.2 (ne_of_beq_false hc2)
        exact p20_start_2     hE (pureF_of Try.func64 (by kernel_rfl) f64b (example_ok )) (pureF_of Try.func25 (by kernel_rfl) f25b (odds_ok exS 0 2 1 h1)) (pureF_of Try.func21 (by kernel_rfl) f21b (throws_ok 3 2 1 3)) hc0 hc1 hc2 (AvLe.of_eq (by rw [h]; try rfl))
    · have h := h.2 (ne_of_beq_false hc1)
      exact p20_start_3     hE (pureF_of Try.func64 (by kernel_rfl) f64b (example_ok )) (pureF_of Try.func25 (by kernel_rfl) f25b (odds_ok exS 0 2 1 h1)) (pureF_of Try.func21 (by kernel_rfl) f21b (throws_ok 3 2 1 3)) hc0 hc1 (AvLe.of_eq (by rw [h]; try rfl))
  · have h := h.2 (ne_of_beq_false hc0)
    exact p20_start_4     hE (pureF_of Try.func64 (by kernel_rfl) f64b (example_ok )) (pureF_of Try.func25 (by kernel_rfl) f25b (odds_ok exS 0 2 1 h1)) (pureF_of Try.func21 (by kernel_rfl) f21b (throws_ok 3 2 1 3)) hc0 (AvLe.of_eq (by rw [h]; try rfl))

theorem odds_ex : oddsK exS 0 2 1 = (1, 4, 0) := by decide +kernel
theorem throws_ex : (throwsK 3 2 1 3).2 = 0 ∧ (throwsK 3 2 1 3).1.stages.length = 8 := by decide +kernel


theorem works_ok : Pure Try.prog 20 [] (.bool true) := pure_of Try.func20 f20b fun E hE => by
  have h1 := odds_ex
  have h2 := throws_ex
  refine f20W (rv := true) hE ⟨⟨by decide, by decide⟩, fun _ => ⟨fun _ => ⟨fun _ => ⟨fun _ => ?_, fun h => ?_⟩, fun h => ?_⟩, fun h => ?_⟩, fun h => ?_⟩
  · rw [h2.2]; rfl
  · rw [h1] at h; exact absurd rfl h
  · rw [h1] at h; exact absurd rfl h
  · exact absurd h2.1 h
  · rw [h1] at h; exact absurd rfl h

end Go.Proofs.Ytfgmlaeikcfpbaa

namespace Go.Proofs.Ytfgmlaeikcfpbaa
open Go Ax
open Go.Proofs

theorem ownT : ownKnob Try.prog.godebug = none := by kernel_rfl
theorem laidT : laidOutB Try.prog = true := by kernel_rfl
theorem dInts (W : World) : Dec Try.prog W 23 (List Int) (fun a => [.rsl (rowI a) 0 a.length]) (fun a => a.length ≤ 9223372036854775807) := by
  refine Dec.map (dec_slice Try.underlying23 (n := 1) (by kernel_rfl) (by decide) (fun _ => rfl) (fun _ => rfl) (dec_i64 Try.underlying3)) (fun x => x) ?_ ?_
  · exact fun _ => rfl
  · exact fun _ h => h.1
theorem dTrn (W : World) : Dec Try.prog W 122 Trn cTrn (fun a => True) := by
  refine Dec.map (dec_struct Try.underlying122 rfl (tot := 2) (by kernel_rfl) (decFs_cons (n := 1) (tot := 2) (by kernel_rfl) rfl (dec_i64 Try.underlying3) (decFs_cons (n := 1) (tot := 2) (by kernel_rfl) rfl (dec_i64 Try.underlying3) decFs_nil (by decide)) (by decide))) (fun x => (⟨x.1, x.2.1⟩ : Trn)) ?_ ?_
  · exact fun _ => rfl
  · exact fun _ _ => trivial
theorem dTrns (W : World) : Dec Try.prog W 80 (List Trn) (fun a => [.rsl (rowTrn a) 0 a.length]) (fun a => a.length ≤ 9223372036854775807) := by
  refine Dec.map (dec_slice Try.underlying80 (n := 2) (by kernel_rfl) (by decide) (fun _ => rfl) (fun _ => rfl) (dTrn W)) (fun x => x) ?_ ?_
  · exact fun _ => rfl
  · exact fun _ h => h.1
theorem dStg (W : World) : Dec Try.prog W 82 Stg cStg (fun a => True) := by
  refine Dec.map (dec_struct Try.underlying82 rfl (tot := 3) (by kernel_rfl) (decFs_cons (n := 1) (tot := 3) (by kernel_rfl) rfl (dec_i64 Try.underlying3) (decFs_cons (n := 1) (tot := 3) (by kernel_rfl) rfl (dec_i64 Try.underlying3) (decFs_cons (n := 1) (tot := 3) (by kernel_rfl) rfl (dTrns W) decFs_nil (by decide)) (by decide)) (by decide))) (fun x => (⟨x.1, x.2.1, x.2.2.1⟩ : Stg)) ?_ ?_
  · exact fun _ => rfl
  · exact fun _ _ => trivial
theorem dStgs (W : World) : Dec Try.prog W 22 (List Stg) (fun a => [.rsl (rowStg a) 0 a.length]) (fun a => a.length ≤ 9223372036854775807) := by
  refine Dec.map (dec_slice Try.underlying22 (n := 3) (by kernel_rfl) (by decide) (fun _ => rfl) (fun _ => rfl) (dStg W)) (fun x => x) ?_ ?_
  · exact fun _ => rfl
  · exact fun _ h => h.1
theorem dStl (W : World) : Dec Try.prog W 25 Stl cStl (fun a => a.stages.length ≤ 9223372036854775807 ∧ a.worth.length ≤ 9223372036854775807) := by
  refine Dec.map (dec_struct Try.underlying25 rfl (tot := 3) (by kernel_rfl) (decFs_cons (n := 1) (tot := 3) (by kernel_rfl) rfl (dStgs W) (decFs_cons (n := 1) (tot := 3) (by kernel_rfl) rfl (dInts W) (decFs_cons (n := 1) (tot := 3) (by kernel_rfl) rfl (dec_i64 Try.underlying3) decFs_nil (by decide)) (by decide)) (by decide))) (fun x => (⟨x.1, x.2.1, x.2.2.1⟩ : Stl)) ?_ ?_
  · exact fun _ => rfl
  · exact fun _ h => ⟨h.1, h.2.1⟩
end Go.Proofs.Ytfgmlaeikcfpbaa

namespace Go.Proofs.Ytfgmlaeikcfpbaa
open Go Ax
open Go.Proofs

/-! ### What the values are, in the end -/
structure VFix (m : Mch) (w : Int → Int) (ch : Int → List Int → Int) (i : Nat) (p : List Int × List Int) : Prop where
  fx : ∀ (j : Nat) (x : Stg), i ≤ j → m.s.stages[j]? = some x →
    (x.kind = 4 → p.1.getD j 0 = (if x.prize ≥ 0 then w x.prize else 0) ∧ p.2.getD j 0 = 0) ∧
    (x.kind = 1 → p.1.getD j 0 = sumW x.turns (nextI m j p.1 x.turns) ∧ p.2.getD j 0 = 0) ∧
    (x.kind ≠ 4 → x.kind ≠ 1 → p.1.getD j 0 = (nextI m j p.1 x.turns).getD (Int.toNat (p.2.getD j 0)) 0 ∧ p.2.getD j 0 = ch j (nextI m j p.1 x.turns))

/-! ### Who chooses -/
/-! ### The reference's greatest common divisor is the program's -/
/-! ### What an end is worth -/
theorem isSome_of {s : Stl} (h : checkK s = 0) : (machI s).isSome = true := by
  unfold checkK at h
  split at h
  · assumption
  · omega
end Go.Proofs.Ytfgmlaeikcfpbaa

namespace Go.Proofs.Ytfgmlaeikcfpbaa
open Go Ax
open Go.Proofs

abbrev avStl (s : Stl) : AV := .agg [.rsl (rowStg s.stages) 0 s.stages.length, .rsl (rowI s.worth) 0 s.worth.length, .int .i64 s.price]
theorem checkK_no {s : Stl} (h : ¬ (checkK s = 0)) : checkK s = 60 := by
  unfold checkK at *
  split
  · rename_i h1; rw [if_pos h1] at h; omega
  · rfl
theorem isSome_iff {s : Stl} : (machI s).isSome = true ↔ checkK s = 0 := by
  unfold checkK; split <;> simp_all
/-! ### The end values of a machine, turn by turn -/
structure Aims where
  kind : Int
  player : Int
  operator : Int
end Go.Proofs.Ytfgmlaeikcfpbaa

namespace Go.Proofs.Ytfgmlaeikcfpbaa
open Go Ax
open Go.Proofs

structure Rul where
  tickets : Int
  wins : Int
  n : Int
  need : Int
  hit : Int
  miss : Int
structure Sup where
  kind : Int
  stock : Int
  plays : Int
structure Hnd where
  plan : List Int
  draws : List Int
/-! ### Fractions -/
/-! ### Planned -/
end Go.Proofs.Ytfgmlaeikcfpbaa

namespace Go.Proofs.Ytfgmlaeikcfpbaa
open Go Ax
open Go.Proofs

structure Fr2 where
  lo : Fr
  hi : Fr
end Go.Proofs.Ytfgmlaeikcfpbaa

namespace Go.Proofs.Ytfgmlaeikcfpbaa
open Go Ax
open Go.Proofs

def markT (r : List Bool) : List Trn → List Bool
  | [] => r
  | t :: ts => markT (r.set (Int.toNat t.to) true) ts
theorem markT_len : ∀ {ts : List Trn} {r : List Bool}, (markT r ts).length = r.length
  | [], r => rfl
  | t :: ts, r => by simp only [markT]; rw [markT_len, List.length_set]
theorem markT_other : ∀ {ts : List Trn} {r : List Bool} {j : Nat}, (∀ t ∈ ts, j < Int.toNat t.to) → (markT r ts).getD j false = r.getD j false
  | [], r, j, _ => rfl
  | t :: ts, r, j, h => by
    simp only [markT]
    rw [markT_other fun t ht => h t (by simp [ht])]
    have := h t (by simp)
    simp [List.getD, List.getElem?_set_ne (show Int.toNat t.to ≠ j by omega)]
def reachN (s : Stl) : Nat → List Bool
  | 0 => (List.replicate s.stages.length false).set 0 true
  | i + 1 => if (reachN s i).getD i false = true then markT (reachN s i) (s.stages.getD i ⟨0, 0, []⟩).turns else reachN s i
def reachI (s : Stl) : List Bool := reachN s s.stages.length
theorem reachN_len {s : Stl} : ∀ {i : Nat}, (reachN s i).length = s.stages.length
  | 0 => by simp [reachN]
  | i + 1 => by
    have := reachN_len (s := s) (i := i)
    simp only [reachN]
    split
    · rw [markT_len, this]
    · exact this
theorem reachN_stay {s : Stl} (hform : ∀ j, j < s.stages.length → formI s j = true) {j : Nat} : ∀ {d : Nat}, (reachN s (j + d)).getD j false = (reachN s j).getD j false
  | 0 => rfl
  | d + 1 => by
    have ih := reachN_stay hform (j := j) (d := d)
    rw [← ih]
    rw [show j + (d + 1) = (j + d) + 1 by omega]
    simp only [reachN]
    split
    · apply markT_other
      intro t ht
      cases hx : s.stages[j + d]? with
      | none => simp [List.getD, hx] at ht
      | some x =>
        simp [List.getD, hx] at ht
        have := (turns_to hx (hform _ (List.getElem?_eq_some_iff.1 hx).1) t ht).1
        omega
    · rfl
theorem reachI_at {s : Stl} (hform : ∀ j, j < s.stages.length → formI s j = true) {j : Nat} (hj : j ≤ s.stages.length) : (reachI s).getD j false = (reachN s j).getD j false := by
  have := reachN_stay hform (j := j) (d := s.stages.length - j)
  rw [show j + (s.stages.length - j) = s.stages.length by omega] at this
  exact this
theorem getB {l : List Bool} {i : Nat} (h : i < l.length) : l[i]? = some (l.getD i false) := by
  have hg : l[i]? = some l[i] := List.getElem?_eq_getElem h
  simp [List.getD, hg]
def leastS (x : Stg) (r : Bool) (stock : List Int) (l : Int) : Int :=
  if r = true ∧ x.kind = 4 ∧ x.prize ≥ 0 ∧ (l < 0 ∨ stock.getD (Int.toNat x.prize) 0 < l) then stock.getD (Int.toNat x.prize) 0 else l
def leastN (s : Stl) (stock : List Int) : Nat → Int
  | 0 => -1
  | i + 1 => leastS (s.stages.getD i ⟨0, 0, []⟩) ((reachI s).getD i false) stock (leastN s stock i)
def lastsR (l : Int) : Int × Int := if l < 0 then (0, 3) else (l, 0)
def lastsK (s : Stl) (stock : List Int) : Int × Int := if checkK s = 0 then (if stockOk (machG s) stock = true then lastsR (leastN s stock s.stages.length) else (0, 1)) else (0, 60)
theorem f43b : Try.f43.body = some (bodyAt Try.prog 43) := by kernel_rfl
def f43K0 (P : Program) : List Item := kAt 400 [.code (bodyAt P 43)] [.b false, .stop]
def f43S0 (s : Stl) (stock : (List Int)) (v2 : List Bool) (i : Nat) (least : Int) (g2 : Nat) : St := ⟨[.junk, .junk, .junk, .rptr [.rsl (rowI stock) 0 stock.length] 0, .junk, .junk, .junk, .junk, .int .i64 least, .sl 2 g2 0 v2.length 1, .junk, .junk, .junk, .junk, .junk, .junk, .junk, .junk, .junk, .junk, .junk, .junk, .junk, .junk, .junk, .junk, .junk, .junk, .junk, .junk, .junk, .junk, .junk, .junk, .junk, .junk, .rsl (rowStg (((machG s).s).stages)) 0 ((((machG s).s).stages).length), .int .i64 (((((machG s).s).stages).length : Nat) : Int), .int .i64 ((i : Nat) : Int), .junk, .junk, .junk, .junk, .junk, .junk, .junk, .junk, .junk, .junk, .junk, .junk, .junk, .junk, .junk, .junk, .junk, .junk, .junk, .junk, .junk, .junk, .junk, .junk, .junk, .junk, .junk, .junk, .junk, .junk, .junk, .junk, .junk, .junk, .junk, .junk, .junk, .junk, .junk, .junk, .junk, .junk, .junk, .junk, .junk, .junk, .junk, .junk, .junk, .junk, .junk], [⟨true, 0, 1, true, [.rsl (rowStg s.stages) 0 s.stages.length, .rsl (rowI s.worth) 0 s.worth.length, .int .i64 s.price], false⟩, ⟨false, 1, 1, true, [], false⟩, ⟨true, g2, 1, true, (rowB v2), true⟩]⟩
def f43G0 (E : Env) (s : Stl) (stock : (List Int)) (v2 : List Bool) (i : Nat) (least : Int) : Prop := ∀ g2 : Nat, G Try.prog E (f43K0 Try.prog) (f43S0 s stock v2 i least g2)
def f43K1 (P : Program) : List Item := kAt 400 [.code (bodyAt P 43)] [.b false, .b true, .b false, .stop]
def f43S1 (s : Stl) (stock : (List Int)) (k : Nat) (k1 : (List Trn)) (k11 : Nat) (v2 : List Bool) (v3_0 : Int) (v3_1 : Int) (v3_2 : (List Trn)) (k111 : Nat) (least : Int) (g2 : Nat) : St := ⟨[.junk, .junk, .junk, .rptr [.rsl (rowI stock) 0 stock.length] 0, .junk, .junk, .junk, .junk, .int .i64 least, .sl 2 g2 0 v2.length 1, .junk, .ptr 3 0 0, .junk, .junk, .junk, .junk, .junk, .junk, .junk, .junk, .junk, .junk, .junk, .junk, .junk, .junk, .junk, .junk, .junk, .junk, .junk, .junk, .junk, .junk, .junk, .junk, .rsl (rowStg (((machG s).s).stages)) 0 ((((machG s).s).stages).length), .int .i64 (((((machG s).s).stages).length : Nat) : Int), .int .i64 ((k : Nat) : Int), .junk, .junk, .junk, .junk, .junk, .junk, .junk, .junk, .junk, .junk, .rsl (rowTrn k1) 0 k1.length, .int .i64 ((k11 : Nat) : Int), .int .i64 ((k111 : Nat) : Int), .junk, .junk, .junk, .junk, .junk, .junk, .junk, .junk, .junk, .junk, .junk, .junk, .junk, .junk, .junk, .junk, .junk, .junk, .junk, .junk, .junk, .junk, .junk, .junk, .junk, .junk, .junk, .junk, .junk, .junk, .junk, .junk, .junk, .junk, .junk, .junk, .junk, .junk], [⟨true, 0, 1, true, [.rsl (rowStg s.stages) 0 s.stages.length, .rsl (rowI s.worth) 0 s.worth.length, .int .i64 s.price], false⟩, ⟨false, 1, 1, true, [], false⟩, ⟨true, g2, 1, true, (rowB v2), true⟩, ⟨true, 0, 1, true, [.int .i64 v3_0, .int .i64 v3_1, .rsl (rowTrn v3_2) 0 v3_2.length], false⟩]⟩
def f43G1 (E : Env) (s : Stl) (stock : (List Int)) (k : Nat) (k1 : (List Trn)) (k11 : Nat) (v2 : List Bool) (v3_0 : Int) (v3_1 : Int) (v3_2 : (List Trn)) (k111 : Nat) (least : Int) : Prop := ∀ g2 : Nat, G Try.prog E (f43K1 Try.prog) (f43S1 s stock k k1 k11 v2 v3_0 v3_1 v3_2 k111 least g2)
theorem p43_start_0 (s : Stl) (stock : (List Int))  (eb : Bool)  {E : Env} {rv : AV} (hE : PureE Try.prog 43 rv E) (o2 : PureF Try.prog (.clos 71 [] []) [.agg [.rsl (rowStg s.stages) 0 s.stages.length, .rsl (rowI s.worth) 0 s.worth.length, .int .i64 s.price], .clos 95 [] [.rptr [.rsl (rowI stock) 0 stock.length] 0]] (.tup [.rptr [.rsl (rowStg (((machG s).s).stages)) 0 ((((machG s).s).stages).length), .rsl (rowI (((machG s).s).worth)) 0 ((((machG s).s).worth).length), .int .i64 (((machG s).s).price), .rsl (rowI ((machG s).meas)) 0 (((machG s).meas).length), .rsl (rowI ((machG s).mult)) 0 (((machG s).mult).length)] 0, .int .i64 0])) (o4 : 0 ≤ (((((machG s).s).stages).length : Nat) : Int) ∧ (((((machG s).s).stages).length : Nat) : Int) ≤ (((((machG s).s).stages).length : Nat) : Int) ∧ (((((machG s).s).stages).length : Nat) : Int) ≤ 2147483648) (o6 : (0 : Int) ≤ 0 ∧ (0 : Int) < (((Int.toNat (((((machG s).s).stages).length : Nat) : Int)) : Nat) : Int)) (o8 : ((0 + 0 * 1) + 1) ≤ ((List.replicate (Int.toNat (((((machG s).s).stages).length : Nat) : Int)) ([.bool false] : List AV)).flatten).length)
    (hg : G Try.prog E (f43K0 Try.prog) ⟨[.junk, .junk, .junk, .rptr [.rsl (rowI stock) 0 stock.length] 0, .junk, .junk, .junk, .junk, .int .i64 (-1), .sl 2 0 0 (Int.toNat (((((machG s).s).stages).length : Nat) : Int)) 1, .junk, .junk, .junk, .junk, .junk, .junk, .junk, .junk, .junk, .junk, .junk, .junk, .junk, .junk, .junk, .junk, .junk, .junk, .junk, .junk, .junk, .junk, .junk, .junk, .junk, .junk, .rsl (rowStg (((machG s).s).stages)) 0 ((((machG s).s).stages).length), .int .i64 (((((machG s).s).stages).length : Nat) : Int), .int .i64 0, .junk, .junk, .junk, .junk, .junk, .junk, .junk, .junk, .junk, .junk, .junk, .junk, .junk, .junk, .junk, .junk, .junk, .junk, .junk, .junk, .junk, .junk, .junk, .junk, .junk, .junk, .junk, .junk, .junk, .junk, .junk, .junk, .junk, .junk, .junk, .junk, .junk, .junk, .junk, .junk, .junk, .junk, .junk, .junk, .junk, .junk, .junk, .junk, .junk, .junk, .junk], [⟨true, 0, 1, true, [.rsl (rowStg s.stages) 0 s.stages.length, .rsl (rowI s.worth) 0 s.worth.length, .int .i64 s.price], false⟩, ⟨false, 1, 1, true, [], false⟩, ⟨true, 0, 1, true, (setAt ((List.replicate (Int.toNat (((((machG s).s).stages).length : Nat) : Int)) ([.bool false] : List AV)).flatten) (0 + 0 * 1) [.bool true]), true⟩]⟩) : G Try.prog E [.code (bodyAt Try.prog 43)] ⟨[.agg [.rsl (rowStg s.stages) 0 s.stages.length, .rsl (rowI s.worth) 0 s.worth.length, .int .i64 s.price], .rsl (rowI stock) 0 stock.length] ++ unds (Try.f43.ntmps - 2), []⟩ :=
  segC_step (n := 400) (ds := []) (cs := []) (live := [3, 8, 9, 36, 37, 38]) (m := 3) (evs := [.wt 3, .v (.tup [.rptr [.rsl (rowStg (((machG s).s).stages)) 0 ((((machG s).s).stages).length), .rsl (rowI (((machG s).s).worth)) 0 ((((machG s).s).worth).length), .int .i64 (((machG s).s).price), .rsl (rowI ((machG s).meas)) 0 (((machG s).meas).length), .rsl (rowI ((machG s).mult)) 0 (((machG s).mult).length)] 0, .int .i64 0]), .b false, .stop]) (obs := [PureF Try.prog (.clos 71 [] []) [.agg [.rsl (rowStg s.stages) 0 s.stages.length, .rsl (rowI s.worth) 0 s.worth.length, .int .i64 s.price], .clos 95 [] [.rptr [.rsl (rowI stock) 0 stock.length] 0]] (.tup [.rptr [.rsl (rowStg (((machG s).s).stages)) 0 ((((machG s).s).stages).length), .rsl (rowI (((machG s).s).worth)) 0 ((((machG s).s).worth).length), .int .i64 (((machG s).s).price), .rsl (rowI ((machG s).meas)) 0 (((machG s).meas).length), .rsl (rowI ((machG s).mult)) 0 (((machG s).mult).length)] 0, .int .i64 0]), false = false, 0 ≤ (((((machG s).s).stages).length : Nat) : Int) ∧ (((((machG s).s).stages).length : Nat) : Int) ≤ (((((machG s).s).stages).length : Nat) : Int) ∧ (((((machG s).s).stages).length : Nat) : Int) ≤ 2147483648, (0 : Int) ≤ 0 ∧ (0 : Int) < (((Int.toNat (((((machG s).s).stages).length : Nat) : Int)) : Nat) : Int), 0 = 0, ((0 + 0 * 1) + 1) ≤ ((List.replicate (Int.toNat (((((machG s).s).stages).length : Nat) : Int)) ([.bool false] : List AV)).flatten).length, 0 = 0]) hE.2.1 (hE.nogh _) mixed (by kernel_rfl) ⟨o2, (rfl), o4, o6, (rfl), o8, (rfl), trivial⟩ hg
theorem p43_start_1 (s : Stl) (stock : (List Int))   {E : Env} {res : AV} (hE : PureE Try.prog 43 res E) (o2 : PureF Try.prog (.clos 71 [] []) [.agg [.rsl (rowStg s.stages) 0 s.stages.length, .rsl (rowI s.worth) 0 s.worth.length, .int .i64 s.price], .clos 95 [] [.rptr [.rsl (rowI stock) 0 stock.length] 0]] (.tup [.nilPtr, .int .i64 1]))
    (hr : AvLe (.tup [.int .i64 0, .int .i64 1]) res) : G Try.prog E [.code (bodyAt Try.prog 43)] ⟨[.agg [.rsl (rowStg s.stages) 0 s.stages.length, .rsl (rowI s.worth) 0 s.worth.length, .int .i64 s.price], .rsl (rowI stock) 0 stock.length] ++ unds (Try.f43.ntmps - 2), []⟩ :=
  end_stepL (n := 400) (evs := [.wt 3, .v (.tup [.nilPtr, .int .i64 1]), .b true]) (obs := [PureF Try.prog (.clos 71 [] []) [.agg [.rsl (rowStg s.stages) 0 s.stages.length, .rsl (rowI s.worth) 0 s.worth.length, .int .i64 s.price], .clos 95 [] [.rptr [.rsl (rowI stock) 0 stock.length] 0]] (.tup [.nilPtr, .int .i64 1]), true = true]) hE Try.func43 mixed (by kernel_rfl) ⟨o2, (rfl), trivial⟩ hr
theorem p43_start_2 (s : Stl) (stock : (List Int))   {E : Env} {res : AV} (hE : PureE Try.prog 43 res E) (o1 : PureF Try.prog (.clos 71 [] []) [.agg [.rsl (rowStg s.stages) 0 s.stages.length, .rsl (rowI s.worth) 0 s.worth.length, .int .i64 s.price], .clos 95 [] [.rptr [.rsl (rowI stock) 0 stock.length] 0]] (.tup [.nilPtr, .int .i64 60]))
    (hr : AvLe (.tup [.int .i64 0, .int .i64 60]) res) : G Try.prog E [.code (bodyAt Try.prog 43)] ⟨[.agg [.rsl (rowStg s.stages) 0 s.stages.length, .rsl (rowI s.worth) 0 s.worth.length, .int .i64 s.price], .rsl (rowI stock) 0 stock.length] ++ unds (Try.f43.ntmps - 2), []⟩ :=
  end_stepL (n := 400) (evs := [.wt 3, .v (.tup [.nilPtr, .int .i64 60]), .b true]) (obs := [PureF Try.prog (.clos 71 [] []) [.agg [.rsl (rowStg s.stages) 0 s.stages.length, .rsl (rowI s.worth) 0 s.worth.length, .int .i64 s.price], .clos 95 [] [.rptr [.rsl (rowI stock) 0 stock.length] 0]] (.tup [.nilPtr, .int .i64 60]), true = true]) hE Try.func43 mixed (by kernel_rfl) ⟨o1, (rfl), trivial⟩ hr
theorem f43W (s : Stl) (stock : (List Int)) {E : Env} {rv : (Int × Int)} (hE : PureE Try.prog 43 (.tup [.int .i64 rv.1, .int .i64 rv.2]) E)
    (h : ((((machI s).isSome) = true → (((stockOk (machG s) stock) = true → (((s.stages.length ≤ 9223372036854775807 ∧ s.worth.length ≤ 9223372036854775807) ∧ stock.length ≤ 9223372036854775807) ∧ (((((machG s).s).stages).length) ≤ 2147483648 ∧ (∃ eb : Bool, (List.replicate ((((machG s).s).stages).length) (false : Bool))[0]? = some eb ∧ f43G0 E s stock ((List.replicate ((((machG s).s).stages).length) (false : Bool)).set 0 true) 0 (-1))))) ∧ ((stockOk (machG s) stock) = false → (((s.stages.length ≤ 9223372036854775807 ∧ s.worth.length ≤ 9223372036854775807) ∧ stock.length ≤ 9223372036854775807) ∧ rv = (0, 1))))) ∧ (((machI s).isSome) = false → (((s.stages.length ≤ 9223372036854775807 ∧ s.worth.length ≤ 9223372036854775807) ∧ stock.length ≤ 9223372036854775807) ∧ rv = (0, 60))))) : G Try.prog E [.code (bodyAt Try.prog 43)] ⟨[.agg [.rsl (rowStg s.stages) 0 s.stages.length, .rsl (rowI s.worth) 0 s.worth.length, .int .i64 s.price], .rsl (rowI stock) 0 stock.length] ++ unds (Try.f43.ntmps - 2), []⟩ := by
  rcases Bool.eq_false_or_eq_true ((machI s).isSome) with hc0 | hc0
  · have h := h.1 hc0
    rcases Bool.eq_false_or_eq_true (stockOk (machG s) stock) with hc1 | hc1
    · have h := h.1 hc1
      obtain ⟨h1, h⟩ := h
      obtain ⟨h2, h⟩ := h
      obtain ⟨eb, h3, h⟩ := h
      refine p43_start_0 s stock   eb hE (pureF_of Try.func71 (by kernel_rfl) f71x95b (begR_T hc0 hc1 ▸ beg95_ok s stock h1)) ⟨by omega, by omega, by have := h2; omega⟩ (by have hx := idx_ok h3; simpa using hx) (by rw [(show (List.replicate (Int.toNat (((((machG s).s).stages).length : Nat) : Int)) ([.bool false] : List AV)).flatten = rowB (List.replicate ((((machG s).s).stages).length) (false : Bool)) from row_rep cB _ _)]; exact row_fits cB (s := 1) (k := 0) (m := 1) (fun _ => rfl) (by decide) h3) ?_
      have h := (h 0)
      simp only [f43G0, f43S0, List.length_set, List.length_replicate] at h
      rw [(show (List.replicate (Int.toNat (((((machG s).s).stages).length : Nat) : Int)) ([.bool false] : List AV)).flatten = rowB (List.replicate ((((machG s).s).stages).length) (false : Bool)) from row_rep cB _ _)]; rw [(show setAt (rowB (List.replicate ((((machG s).s).stages).length) (false : Bool))) (0 + 0 * 1) [.bool true] = rowB ((List.replicate ((((machG s).s).stages).length) (false : Bool)).set 0 true) from row_set cB (s := 1) (k := 0) (fun _ => rfl) h3 rfl (by first | decide | simp))]
      exact h
    · have h := h.2 hc1
      obtain ⟨h1, h⟩ := h
      exact p43_start_1 s stock    hE (pureF_of Try.func71 (by kernel_rfl) f71x95b (begR_F1 hc0 hc1 ▸ beg95_ok s stock h1)) (AvLe.of_eq (by rw [h]; try rfl))
  · have h := h.2 hc0
    obtain ⟨h1, h⟩ := h
    exact p43_start_2 s stock    hE (pureF_of Try.func71 (by kernel_rfl) f71x95b (begR_F0 hc0 ▸ beg95_ok s stock h1)) (AvLe.of_eq (by rw [h]; try rfl))
theorem p43_0_0 (s : Stl) (stock : (List Int)) (v2 : List Bool) (i : Nat) (least : Int) (g2 : Nat) (se : Stg) (eb : Bool)  {E : Env} {rv : AV} (hE : PureE Try.prog 43 rv E) (o0 : (decide (((i : Nat) : Int) < (((((machG s).s).stages).length : Nat) : Int))) = true) (o2 : 0 ≤ ((i : Nat) : Int) ∧ ((i : Nat) : Int) < (((((machG s).s).stages).length : Nat) : Int)) (o3 : ((rowStg (((machG s).s).stages)).drop (0 + (Int.toNat ((i : Nat) : Int)) * 3)).take 3 = [.int .i64 se.kind, .int .i64 se.prize, .rsl (rowTrn se.turns) 0 se.turns.length]) (o6 : 0 ≤ ((i : Nat) : Int) ∧ ((i : Nat) : Int) < ((v2.length : Nat) : Int)) (o9 : ((rowB v2).drop (0 + (Int.toNat ((i : Nat) : Int)) * 1)).take 1 = [.bool eb]) (o10 : (!eb) = true) (o11 : InR .i64 (((i : Nat) : Int) + 1))
    (hg : G Try.prog E (f43K0 Try.prog) ⟨[.junk, .junk, .junk, .rptr [.rsl (rowI stock) 0 stock.length] 0, .junk, .junk, .junk, .junk, .int .i64 least, .sl 2 g2 0 v2.length 1, .junk, .junk, .junk, .junk, .junk, .junk, .junk, .junk, .junk, .junk, .junk, .junk, .junk, .junk, .junk, .junk, .junk, .junk, .junk, .junk, .junk, .junk, .junk, .junk, .junk, .junk, .rsl (rowStg (((machG s).s).stages)) 0 ((((machG s).s).stages).length), .int .i64 (((((machG s).s).stages).length : Nat) : Int), .int .i64 (((i : Nat) : Int) + 1), .junk, .junk, .junk, .junk, .junk, .junk, .junk, .junk, .junk, .junk, .junk, .junk, .junk, .junk, .junk, .junk, .junk, .junk, .junk, .junk, .junk, .junk, .junk, .junk, .junk, .junk, .junk, .junk, .junk, .junk, .junk, .junk, .junk, .junk, .junk, .junk, .junk, .junk, .junk, .junk, .junk, .junk, .junk, .junk, .junk, .junk, .junk, .junk, .junk, .junk, .junk], [⟨true, 0, 1, true, [.rsl (rowStg s.stages) 0 s.stages.length, .rsl (rowI s.worth) 0 s.worth.length, .int .i64 s.price], false⟩, ⟨false, 1, 1, true, [], false⟩, ⟨true, g2, 1, true, (rowB v2), true⟩]⟩) : G Try.prog E (f43K0 Try.prog) (f43S0 s stock v2 i least g2) :=
  segC_step (n := 400) (ds := []) (cs := []) (live := [3, 8, 9, 36, 37, 38]) (m := 3) (evs := [.b true, .ld (.agg [.int .i64 se.kind, .int .i64 se.prize, .rsl (rowTrn se.turns) 0 se.turns.length]), .ld (.bool eb), .b true, .stop]) (obs := [(decide (((i : Nat) : Int) < (((((machG s).s).stages).length : Nat) : Int))) = true, 0 ≤ ((i : Nat) : Int) ∧ ((i : Nat) : Int) < (((((machG s).s).stages).length : Nat) : Int), ((rowStg (((machG s).s).stages)).drop (0 + (Int.toNat ((i : Nat) : Int)) * 3)).take 3 = [.int .i64 se.kind, .int .i64 se.prize, .rsl (rowTrn se.turns) 0 se.turns.length], 3 ≤ 3, 0 ≤ ((i : Nat) : Int) ∧ ((i : Nat) : Int) < ((v2.length : Nat) : Int), g2 = g2, g2 = g2, ((rowB v2).drop (0 + (Int.toNat ((i : Nat) : Int)) * 1)).take 1 = [.bool eb], (!eb) = true, InR .i64 (((i : Nat) : Int) + 1)]) hE.2.1 (hE.nogh _) mixed (by kernel_rfl) ⟨o0, o2, o3, (by decide), o6, (rfl), (rfl), o9, o10, o11, trivial⟩ hg
theorem p43_0_1 (s : Stl) (stock : (List Int)) (v2 : List Bool) (i : Nat) (least : Int) (g2 : Nat) (se : Stg) (eb : Bool)  {E : Env} {rv : AV} (hE : PureE Try.prog 43 rv E) (o0 : (decide (((i : Nat) : Int) < (((((machG s).s).stages).length : Nat) : Int))) = true) (o2 : 0 ≤ ((i : Nat) : Int) ∧ ((i : Nat) : Int) < (((((machG s).s).stages).length : Nat) : Int)) (o3 : ((rowStg (((machG s).s).stages)).drop (0 + (Int.toNat ((i : Nat) : Int)) * 3)).take 3 = [.int .i64 se.kind, .int .i64 se.prize, .rsl (rowTrn se.turns) 0 se.turns.length]) (o6 : 0 ≤ ((i : Nat) : Int) ∧ ((i : Nat) : Int) < ((v2.length : Nat) : Int)) (o9 : ((rowB v2).drop (0 + (Int.toNat ((i : Nat) : Int)) * 1)).take 1 = [.bool eb]) (o10 : (!eb) = false)
    (hg : G Try.prog E (f43K1 Try.prog) ⟨[.junk, .junk, .junk, .rptr [.rsl (rowI stock) 0 stock.length] 0, .junk, .junk, .junk, .junk, .int .i64 least, .sl 2 g2 0 v2.length 1, .junk, .ptr 3 0 0, .junk, .junk, .junk, .junk, .junk, .junk, .junk, .junk, .junk, .junk, .junk, .junk, .junk, .junk, .junk, .junk, .junk, .junk, .junk, .junk, .junk, .junk, .junk, .junk, .rsl (rowStg (((machG s).s).stages)) 0 ((((machG s).s).stages).length), .int .i64 (((((machG s).s).stages).length : Nat) : Int), .int .i64 ((i : Nat) : Int), .junk, .junk, .junk, .junk, .junk, .junk, .junk, .junk, .junk, .junk, .rsl (rowTrn se.turns) 0 se.turns.length, .int .i64 ((se.turns.length : Nat) : Int), .int .i64 0, .junk, .junk, .junk, .junk, .junk, .junk, .junk, .junk, .junk, .junk, .junk, .junk, .junk, .junk, .junk, .junk, .junk, .junk, .junk, .junk, .junk, .junk, .junk, .junk, .junk, .junk, .junk, .junk, .junk, .junk, .junk, .junk, .junk, .junk, .junk, .junk, .junk, .junk], [⟨true, 0, 1, true, [.rsl (rowStg s.stages) 0 s.stages.length, .rsl (rowI s.worth) 0 s.worth.length, .int .i64 s.price], false⟩, ⟨false, 1, 1, true, [], false⟩, ⟨true, g2, 1, true, (rowB v2), true⟩, ⟨true, 0, 1, true, [.int .i64 se.kind, .int .i64 se.prize, .rsl (rowTrn se.turns) 0 se.turns.length], false⟩]⟩) : G Try.prog E (f43K0 Try.prog) (f43S0 s stock v2 i least g2) :=
  segC_step (n := 400) (ds := []) (cs := []) (live := [3, 8, 9, 11, 36, 37, 38, 49, 50, 51]) (m := 4) (evs := [.b true, .ld (.agg [.int .i64 se.kind, .int .i64 se.prize, .rsl (rowTrn se.turns) 0 se.turns.length]), .ld (.bool eb), .b false, .stop]) (obs := [(decide (((i : Nat) : Int) < (((((machG s).s).stages).length : Nat) : Int))) = true, 0 ≤ ((i : Nat) : Int) ∧ ((i : Nat) : Int) < (((((machG s).s).stages).length : Nat) : Int), ((rowStg (((machG s).s).stages)).drop (0 + (Int.toNat ((i : Nat) : Int)) * 3)).take 3 = [.int .i64 se.kind, .int .i64 se.prize, .rsl (rowTrn se.turns) 0 se.turns.length], 3 ≤ 3, 0 ≤ ((i : Nat) : Int) ∧ ((i : Nat) : Int) < ((v2.length : Nat) : Int), g2 = g2, g2 = g2, ((rowB v2).drop (0 + (Int.toNat ((i : Nat) : Int)) * 1)).take 1 = [.bool eb], (!eb) = false]) hE.2.1 (hE.nogh _) mixed (by kernel_rfl) ⟨o0, o2, o3, (by decide), o6, (rfl), (rfl), o9, o10, trivial⟩ hg
theorem p43_0_2 (s : Stl) (stock : (List Int)) (v2 : List Bool) (i : Nat) (least : Int) (g2 : Nat)  {E : Env} {res : AV} (hE : PureE Try.prog 43 res E) (o0 : (decide (((i : Nat) : Int) < (((((machG s).s).stages).length : Nat) : Int))) = false) (o1 : (decide (least < 0)) = true)
    (hr : AvLe (.tup [.int .i64 0, .int .i64 3]) res) : G Try.prog E (f43K0 Try.prog) (f43S0 s stock v2 i least g2) :=
  end_stepL (n := 400) (evs := [.b false, .b true]) (obs := [(decide (((i : Nat) : Int) < (((((machG s).s).stages).length : Nat) : Int))) = false, (decide (least < 0)) = true]) hE Try.func43 mixed (by kernel_rfl) ⟨o0, o1, trivial⟩ hr
theorem p43_0_3 (s : Stl) (stock : (List Int)) (v2 : List Bool) (i : Nat) (least : Int) (g2 : Nat)  {E : Env} {res : AV} (hE : PureE Try.prog 43 res E) (o0 : (decide (((i : Nat) : Int) < (((((machG s).s).stages).length : Nat) : Int))) = false) (o1 : (decide (least < 0)) = false)
    (hr : AvLe (.tup [.int .i64 least, .int .i64 0]) res) : G Try.prog E (f43K0 Try.prog) (f43S0 s stock v2 i least g2) :=
  end_stepL (n := 400) (evs := [.b false, .b false]) (obs := [(decide (((i : Nat) : Int) < (((((machG s).s).stages).length : Nat) : Int))) = false, (decide (least < 0)) = false]) hE Try.func43 mixed (by kernel_rfl) ⟨o0, o1, trivial⟩ hr
theorem f43W0 (s : Stl) (stock : (List Int)) (v2 : List Bool) (i : Nat) (least : Int) {E : Env} {rv : (Int × Int)} (hE : PureE Try.prog 43 (.tup [.int .i64 rv.1, .int .i64 rv.2]) E)
    (h : ((((i : Nat) : Int) < (((((machG s).s).stages).length : Nat) : Int) → (∃ se : Stg, (((machG s).s).stages)[i]? = some se ∧ (∃ eb : Bool, v2[i]? = some eb ∧ ((eb = false → ((-9223372036854775808 ≤ ((i : Nat) : Int) + 1 ∧ ((i : Nat) : Int) + 1 ≤ 9223372036854775807) ∧ f43G0 E s stock v2 (i + 1) least)) ∧ (eb = true → f43G1 E s stock i se.turns se.turns.length v2 se.kind se.prize se.turns 0 least))))) ∧ (¬ (((i : Nat) : Int) < (((((machG s).s).stages).length : Nat) : Int)) → ((least < 0 → rv = (0, 3)) ∧ (¬ (least < 0) → rv = (least, 0)))))) : f43G0 E s stock v2 i least := by
  intro g2
  rcases Bool.eq_false_or_eq_true (decide (((i : Nat) : Int) < (((((machG s).s).stages).length : Nat) : Int))) with hc0 | hc0
  · have h := h.1 (of_decide_eq_true hc0)
    obtain ⟨se, h1, h⟩ := h
    obtain ⟨eb, h2, h⟩ := h
    rcases Bool.eq_false_or_eq_true (!eb) with hc1 | hc1
    · have h := h.1 (bnT hc1)
      obtain ⟨q11_2, h⟩ := h
      exact p43_0_0 s stock v2 i least g2 se eb hE hc0 (idx_ok h1) (row_part cStg (s := 3) (k := 0) (m := 3) (fun _ => rfl) (by decide) h1) (idx_ok h2) (row_part cB (s := 1) (k := 0) (m := 1) (fun _ => rfl) (by decide) h2) hc1 q11_2 (h g2)
    · have h := h.2 (bnF hc1)
      exact p43_0_1 s stock v2 i least g2 se eb hE hc0 (idx_ok h1) (row_part cStg (s := 3) (k := 0) (m := 3) (fun _ => rfl) (by decide) h1) (idx_ok h2) (row_part cB (s := 1) (k := 0) (m := 1) (fun _ => rfl) (by decide) h2) hc1 (h g2)
  · have h := h.2 (of_decide_eq_false hc0)
    rcases Bool.eq_false_or_eq_true (decide (least < 0)) with hc1 | hc1
    · have h := h.1 (of_decide_eq_true hc1)
      exact p43_0_2 s stock v2 i least g2  hE hc0 hc1 (AvLe.of_eq (by rw [h]; try rfl))
    · have h := h.2 (of_decide_eq_false hc1)
      exact p43_0_3 s stock v2 i least g2  hE hc0 hc1 (AvLe.of_eq (by rw [h]; try rfl))
theorem p43_1_0 (s : Stl) (stock : (List Int)) (k : Nat) (k1 : (List Trn)) (k11 : Nat) (v2 : List Bool) (v3_0 : Int) (v3_1 : Int) (v3_2 : (List Trn)) (k111 : Nat) (least : Int) (g2 : Nat) (te : Trn) (eb : Bool)  {E : Env} {rv : AV} (hE : PureE Try.prog 43 rv E) (o0 : (decide (((k111 : Nat) : Int) < ((k11 : Nat) : Int))) = true) (o2 : 0 ≤ ((k111 : Nat) : Int) ∧ ((k111 : Nat) : Int) < ((k1.length : Nat) : Int)) (o3 : ((rowTrn k1).drop (0 + (Int.toNat ((k111 : Nat) : Int)) * 2)).take 2 = [.int .i64 te.w, .int .i64 te.to]) (o6 : 0 ≤ te.to ∧ te.to < ((v2.length : Nat) : Int)) (o8 : ((0 + (Int.toNat te.to) * 1) + 1) ≤ (rowB v2).length) (o10 : InR .i64 (((k111 : Nat) : Int) + 1))
    (hg : G Try.prog E (f43K1 Try.prog) ⟨[.junk, .junk, .junk, .rptr [.rsl (rowI stock) 0 stock.length] 0, .junk, .junk, .junk, .junk, .int .i64 least, .sl 2 g2 0 v2.length 1, .junk, .ptr 3 0 0, .junk, .junk, .junk, .junk, .junk, .junk, .junk, .junk, .junk, .junk, .junk, .junk, .junk, .junk, .junk, .junk, .junk, .junk, .junk, .junk, .junk, .junk, .junk, .junk, .rsl (rowStg (((machG s).s).stages)) 0 ((((machG s).s).stages).length), .int .i64 (((((machG s).s).stages).length : Nat) : Int), .int .i64 ((k : Nat) : Int), .junk, .junk, .junk, .junk, .junk, .junk, .junk, .junk, .junk, .junk, .rsl (rowTrn k1) 0 k1.length, .int .i64 ((k11 : Nat) : Int), .int .i64 (((k111 : Nat) : Int) + 1), .junk, .junk, .junk, .junk, .junk, .junk, .junk, .junk, .junk, .junk, .junk, .junk, .junk, .junk, .junk, .junk, .junk, .junk, .junk, .junk, .junk, .junk, .junk, .junk, .junk, .junk, .junk, .junk, .junk, .junk, .junk, .junk, .junk, .junk, .junk, .junk, .junk, .junk], [⟨true, 0, 1, true, [.rsl (rowStg s.stages) 0 s.stages.length, .rsl (rowI s.worth) 0 s.worth.length, .int .i64 s.price], false⟩, ⟨false, 1, 1, true, [], false⟩, ⟨true, g2, 1, true, (setAt (rowB v2) (0 + (Int.toNat te.to) * 1) [.bool true]), true⟩, ⟨true, 0, 1, true, [.int .i64 v3_0, .int .i64 v3_1, .rsl (rowTrn v3_2) 0 v3_2.length], false⟩]⟩) : G Try.prog E (f43K1 Try.prog) (f43S1 s stock k k1 k11 v2 v3_0 v3_1 v3_2 k111 least g2) :=
  segC_step (n := 400) (ds := []) (cs := []) (live := [3, 8, 9, 11, 36, 37, 38, 49, 50, 51]) (m := 4) (evs := [.b true, .ld (.agg [.int .i64 te.w, .int .i64 te.to]), .stop]) (obs := [(decide (((k111 : Nat) : Int) < ((k11 : Nat) : Int))) = true, 0 ≤ ((k111 : Nat) : Int) ∧ ((k111 : Nat) : Int) < ((k1.length : Nat) : Int), ((rowTrn k1).drop (0 + (Int.toNat ((k111 : Nat) : Int)) * 2)).take 2 = [.int .i64 te.w, .int .i64 te.to], 2 ≤ 2, 0 ≤ te.to ∧ te.to < ((v2.length : Nat) : Int), g2 = g2, ((0 + (Int.toNat te.to) * 1) + 1) ≤ (rowB v2).length, g2 = g2, InR .i64 (((k111 : Nat) : Int) + 1)]) hE.2.1 (hE.nogh _) mixed (by kernel_rfl) ⟨o0, o2, o3, (by decide), o6, (rfl), o8, (rfl), o10, trivial⟩ hg
theorem p43_1_1 (s : Stl) (stock : (List Int)) (k : Nat) (k1 : (List Trn)) (k11 : Nat) (v2 : List Bool) (v3_0 : Int) (v3_1 : Int) (v3_2 : (List Trn)) (k111 : Nat) (least : Int) (g2 : Nat) (e : Int)  {E : Env} {rv : AV} (hE : PureE Try.prog 43 rv E) (o0 : (decide (((k111 : Nat) : Int) < ((k11 : Nat) : Int))) = false) (o1 : (v3_0 == 4) = true) (o2 : (decide (v3_1 ≥ 0)) = true) (o3 : (decide (least < 0)) = true) (o6 : 0 ≤ v3_1 ∧ v3_1 < ((stock.length : Nat) : Int)) (o7 : ((rowI stock).drop (0 + (Int.toNat v3_1) * 1)).take 1 = [.int .i64 e]) (o8 : InR .i64 (((k : Nat) : Int) + 1))
    (hg : G Try.prog E (f43K0 Try.prog) ⟨[.junk, .junk, .junk, .rptr [.rsl (rowI stock) 0 stock.length] 0, .junk, .junk, .junk, .junk, .int .i64 e, .sl 2 g2 0 v2.length 1, .junk, .junk, .junk, .junk, .junk, .junk, .junk, .junk, .junk, .junk, .junk, .junk, .junk, .junk, .junk, .junk, .junk, .junk, .junk, .junk, .junk, .junk, .junk, .junk, .junk, .junk, .rsl (rowStg (((machG s).s).stages)) 0 ((((machG s).s).stages).length), .int .i64 (((((machG s).s).stages).length : Nat) : Int), .int .i64 (((k : Nat) : Int) + 1), .junk, .junk, .junk, .junk, .junk, .junk, .junk, .junk, .junk, .junk, .junk, .junk, .junk, .junk, .junk, .junk, .junk, .junk, .junk, .junk, .junk, .junk, .junk, .junk, .junk, .junk, .junk, .junk, .junk, .junk, .junk, .junk, .junk, .junk, .junk, .junk, .junk, .junk, .junk, .junk, .junk, .junk, .junk, .junk, .junk, .junk, .junk, .junk, .junk, .junk, .junk], [⟨true, 0, 1, true, [.rsl (rowStg s.stages) 0 s.stages.length, .rsl (rowI s.worth) 0 s.worth.length, .int .i64 s.price], false⟩, ⟨false, 1, 1, true, [], false⟩, ⟨true, g2, 1, true, (rowB v2), true⟩]⟩) : G Try.prog E (f43K1 Try.prog) (f43S1 s stock k k1 k11 v2 v3_0 v3_1 v3_2 k111 least g2) :=
  segC_step (n := 400) (ds := []) (cs := []) (live := [3, 8, 9, 36, 37, 38]) (m := 3) (evs := [.b false, .b true, .b true, .b true, .b true, .auto, .auto, .ld (.int .i64 e), .stop]) (obs := [(decide (((k111 : Nat) : Int) < ((k11 : Nat) : Int))) = false, (v3_0 == 4) = true, (decide (v3_1 ≥ 0)) = true, (decide (least < 0)) = true, true = true, 0 ≤ v3_1 ∧ v3_1 < ((stock.length : Nat) : Int), ((rowI stock).drop (0 + (Int.toNat v3_1) * 1)).take 1 = [.int .i64 e], InR .i64 (((k : Nat) : Int) + 1)]) hE.2.1 (hE.nogh _) mixed (by kernel_rfl) ⟨o0, o1, o2, o3, (rfl), o6, o7, o8, trivial⟩ hg
theorem p43_1_2 (s : Stl) (stock : (List Int)) (k : Nat) (k1 : (List Trn)) (k11 : Nat) (v2 : List Bool) (v3_0 : Int) (v3_1 : Int) (v3_2 : (List Trn)) (k111 : Nat) (least : Int) (g2 : Nat) (e : Int)  {E : Env} {rv : AV} (hE : PureE Try.prog 43 rv E) (o0 : (decide (((k111 : Nat) : Int) < ((k11 : Nat) : Int))) = false) (o1 : (v3_0 == 4) = true) (o2 : (decide (v3_1 ≥ 0)) = true) (o3 : (decide (least < 0)) = false) (o5 : 0 ≤ v3_1 ∧ v3_1 < ((stock.length : Nat) : Int)) (o6 : ((rowI stock).drop (0 + (Int.toNat v3_1) * 1)).take 1 = [.int .i64 e]) (o7 : (decide (e < least)) = true) (o8 : 0 ≤ v3_1 ∧ v3_1 < ((stock.length : Nat) : Int)) (o9 : ((rowI stock).drop (0 + (Int.toNat v3_1) * 1)).take 1 = [.int .i64 e]) (o10 : InR .i64 (((k : Nat) : Int) + 1))
    (hg : G Try.prog E (f43K0 Try.prog) ⟨[.junk, .junk, .junk, .rptr [.rsl (rowI stock) 0 stock.length] 0, .junk, .junk, .junk, .junk, .int .i64 e, .sl 2 g2 0 v2.length 1, .junk, .junk, .junk, .junk, .junk, .junk, .junk, .junk, .junk, .junk, .junk, .junk, .junk, .junk, .junk, .junk, .junk, .junk, .junk, .junk, .junk, .junk, .junk, .junk, .junk, .junk, .rsl (rowStg (((machG s).s).stages)) 0 ((((machG s).s).stages).length), .int .i64 (((((machG s).s).stages).length : Nat) : Int), .int .i64 (((k : Nat) : Int) + 1), .junk, .junk, .junk, .junk, .junk, .junk, .junk, .junk, .junk, .junk, .junk, .junk, .junk, .junk, .junk, .junk, .junk, .junk, .junk, .junk, .junk, .junk, .junk, .junk, .junk, .junk, .junk, .junk, .junk, .junk, .junk, .junk, .junk, .junk, .junk, .junk, .junk, .junk, .junk, .junk, .junk, .junk, .junk, .junk, .junk, .junk, .junk, .junk, .junk, .junk, .junk], [⟨true, 0, 1, true, [.rsl (rowStg s.stages) 0 s.stages.length, .rsl (rowI s.worth) 0 s.worth.length, .int .i64 s.price], false⟩, ⟨false, 1, 1, true, [], false⟩, ⟨true, g2, 1, true, (rowB v2), true⟩]⟩) : G Try.prog E (f43K1 Try.prog) (f43S1 s stock k k1 k11 v2 v3_0 v3_1 v3_2 k111 least g2) :=
  segC_step (n := 400) (ds := []) (cs := []) (live := [3, 8, 9, 36, 37, 38]) (m := 3) (evs := [.b false, .b true, .b true, .b false, .auto, .auto, .ld (.int .i64 e), .b true, .auto, .auto, .ld (.int .i64 e), .stop]) (obs := [(decide (((k111 : Nat) : Int) < ((k11 : Nat) : Int))) = false, (v3_0 == 4) = true, (decide (v3_1 ≥ 0)) = true, (decide (least < 0)) = false, 0 ≤ v3_1 ∧ v3_1 < ((stock.length : Nat) : Int), ((rowI stock).drop (0 + (Int.toNat v3_1) * 1)).take 1 = [.int .i64 e], (decide (e < least)) = true, 0 ≤ v3_1 ∧ v3_1 < ((stock.length : Nat) : Int), ((rowI stock).drop (0 + (Int.toNat v3_1) * 1)).take 1 = [.int .i64 e], InR .i64 (((k : Nat) : Int) + 1)]) hE.2.1 (hE.nogh _) mixed (by kernel_rfl) ⟨o0, o1, o2, o3, o5, o6, o7, o8, o9, o10, trivial⟩ hg
theorem p43_1_3 (s : Stl) (stock : (List Int)) (k : Nat) (k1 : (List Trn)) (k11 : Nat) (v2 : List Bool) (v3_0 : Int) (v3_1 : Int) (v3_2 : (List Trn)) (k111 : Nat) (least : Int) (g2 : Nat) (e : Int)  {E : Env} {rv : AV} (hE : PureE Try.prog 43 rv E) (o0 : (decide (((k111 : Nat) : Int) < ((k11 : Nat) : Int))) = false) (o1 : (v3_0 == 4) = true) (o2 : (decide (v3_1 ≥ 0)) = true) (o3 : (decide (least < 0)) = false) (o5 : 0 ≤ v3_1 ∧ v3_1 < ((stock.length : Nat) : Int)) (o6 : ((rowI stock).drop (0 + (Int.toNat v3_1) * 1)).take 1 = [.int .i64 e]) (o7 : (decide (e < least)) = false) (o8 : InR .i64 (((k : Nat) : Int) + 1))
    (hg : G Try.prog E (f43K0 Try.prog) ⟨[.junk, .junk, .junk, .rptr [.rsl (rowI stock) 0 stock.length] 0, .junk, .junk, .junk, .junk, .int .i64 least, .sl 2 g2 0 v2.length 1, .junk, .junk, .junk, .junk, .junk, .junk, .junk, .junk, .junk, .junk, .junk, .junk, .junk, .junk, .junk, .junk, .junk, .junk, .junk, .junk, .junk, .junk, .junk, .junk, .junk, .junk, .rsl (rowStg (((machG s).s).stages)) 0 ((((machG s).s).stages).length), .int .i64 (((((machG s).s).stages).length : Nat) : Int), .int .i64 (((k : Nat) : Int) + 1), .junk, .junk, .junk, .junk, .junk, .junk, .junk, .junk, .junk, .junk, .junk, .junk, .junk, .junk, .junk, .junk, .junk, .junk, .junk, .junk, .junk, .junk, .junk, .junk, .junk, .junk, .junk, .junk, .junk, .junk, .junk, .junk, .junk, .junk, .junk, .junk, .junk, .junk, .junk, .junk, .junk, .junk, .junk, .junk, .junk, .junk, .junk, .junk, .junk, .junk, .junk], [⟨true, 0, 1, true, [.rsl (rowStg s.stages) 0 s.stages.length, .rsl (rowI s.worth) 0 s.worth.length, .int .i64 s.price], false⟩, ⟨false, 1, 1, true, [], false⟩, ⟨true, g2, 1, true, (rowB v2), true⟩]⟩) : G Try.prog E (f43K1 Try.prog) (f43S1 s stock k k1 k11 v2 v3_0 v3_1 v3_2 k111 least g2) :=
  segC_step (n := 400) (ds := []) (cs := []) (live := [3, 8, 9, 36, 37, 38]) (m := 3) (evs := [.b false, .b true, .b true, .b false, .auto, .auto, .ld (.int .i64 e), .b false, .stop]) (obs := [(decide (((k111 : Nat) : Int) < ((k11 : Nat) : Int))) = false, (v3_0 == 4) = true, (decide (v3_1 ≥ 0)) = true, (decide (least < 0)) = false, 0 ≤ v3_1 ∧ v3_1 < ((stock.length : Nat) : Int), ((rowI stock).drop (0 + (Int.toNat v3_1) * 1)).take 1 = [.int .i64 e], (decide (e < least)) = false, InR .i64 (((k : Nat) : Int) + 1)]) hE.2.1 (hE.nogh _) mixed (by kernel_rfl) ⟨o0, o1, o2, o3, o5, o6, o7, o8, trivial⟩ hg
theorem p43_1_4 (s : Stl) (stock : (List Int)) (k : Nat) (k1 : (List Trn)) (k11 : Nat) (v2 : List Bool) (v3_0 : Int) (v3_1 : Int) (v3_2 : (List Trn)) (k111 : Nat) (least : Int) (g2 : Nat)  {E : Env} {rv : AV} (hE : PureE Try.prog 43 rv E) (o0 : (decide (((k111 : Nat) : Int) < ((k11 : Nat) : Int))) = false) (o1 : (v3_0 == 4) = true) (o2 : (decide (v3_1 ≥ 0)) = false) (o4 : InR .i64 (((k : Nat) : Int) + 1))
    (hg : G Try.prog E (f43K0 Try.prog) ⟨[.junk, .junk, .junk, .rptr [.rsl (rowI stock) 0 stock.length] 0, .junk, .junk, .junk, .junk, .int .i64 least, .sl 2 g2 0 v2.length 1, .junk, .junk, .junk, .junk, .junk, .junk, .junk, .junk, .junk, .junk, .junk, .junk, .junk, .junk, .junk, .junk, .junk, .junk, .junk, .junk, .junk, .junk, .junk, .junk, .junk, .junk, .rsl (rowStg (((machG s).s).stages)) 0 ((((machG s).s).stages).length), .int .i64 (((((machG s).s).stages).length : Nat) : Int), .int .i64 (((k : Nat) : Int) + 1), .junk, .junk, .junk, .junk, .junk, .junk, .junk, .junk, .junk, .junk, .junk, .junk, .junk, .junk, .junk, .junk, .junk, .junk, .junk, .junk, .junk, .junk, .junk, .junk, .junk, .junk, .junk, .junk, .junk, .junk, .junk, .junk, .junk, .junk, .junk, .junk, .junk, .junk, .junk, .junk, .junk, .junk, .junk, .junk, .junk, .junk, .junk, .junk, .junk, .junk, .junk], [⟨true, 0, 1, true, [.rsl (rowStg s.stages) 0 s.stages.length, .rsl (rowI s.worth) 0 s.worth.length, .int .i64 s.price], false⟩, ⟨false, 1, 1, true, [], false⟩, ⟨true, g2, 1, true, (rowB v2), true⟩]⟩) : G Try.prog E (f43K1 Try.prog) (f43S1 s stock k k1 k11 v2 v3_0 v3_1 v3_2 k111 least g2) :=
  segC_step (n := 400) (ds := []) (cs := []) (live := [3, 8, 9, 36, 37, 38]) (m := 3) (evs := [.b false, .b true, .b false, .b false, .stop]) (obs := [(decide (((k111 : Nat) : Int) < ((k11 : Nat) : Int))) = false, (v3_0 == 4) = true, (decide (v3_1 ≥ 0)) = false, false = false, InR .i64 (((k : Nat) : Int) + 1)]) hE.2.1 (hE.nogh _) mixed (by kernel_rfl) ⟨o0, o1, o2, (rfl), o4, trivial⟩ hg
theorem p43_1_5 (s : Stl) (stock : (List Int)) (k : Nat) (k1 : (List Trn)) (k11 : Nat) (v2 : List Bool) (v3_0 : Int) (v3_1 : Int) (v3_2 : (List Trn)) (k111 : Nat) (least : Int) (g2 : Nat)  {E : Env} {rv : AV} (hE : PureE Try.prog 43 rv E) (o0 : (decide (((k111 : Nat) : Int) < ((k11 : Nat) : Int))) = false) (o1 : (v3_0 == 4) = false) (o4 : InR .i64 (((k : Nat) : Int) + 1))
    (hg : G Try.prog E (f43K0 Try.prog) ⟨[.junk, .junk, .junk, .rptr [.rsl (rowI stock) 0 stock.length] 0, .junk, .junk, .junk, .junk, .int .i64 least, .sl 2 g2 0 v2.length 1, .junk, .junk, .junk, .junk, .junk, .junk, .junk, .junk, .junk, .junk, .junk, .junk, .junk, .junk, .junk, .junk, .junk, .junk, .junk, .junk, .junk, .junk, .junk, .junk, .junk, .junk, .rsl (rowStg (((machG s).s).stages)) 0 ((((machG s).s).stages).length), .int .i64 (((((machG s).s).stages).length : Nat) : Int), .int .i64 (((k : Nat) : Int) + 1), .junk, .junk, .junk, .junk, .junk, .junk, .junk, .junk, .junk, .junk, .junk, .junk, .junk, .junk, .junk, .junk, .junk, .junk, .junk, .junk, .junk, .junk, .junk, .junk, .junk, .junk, .junk, .junk, .junk, .junk, .junk, .junk, .junk, .junk, .junk, .junk, .junk, .junk, .junk, .junk, .junk, .junk, .junk, .junk, .junk, .junk, .junk, .junk, .junk, .junk, .junk], [⟨true, 0, 1, true, [.rsl (rowStg s.stages) 0 s.stages.length, .rsl (rowI s.worth) 0 s.worth.length, .int .i64 s.price], false⟩, ⟨false, 1, 1, true, [], false⟩, ⟨true, g2, 1, true, (rowB v2), true⟩]⟩) : G Try.prog E (f43K1 Try.prog) (f43S1 s stock k k1 k11 v2 v3_0 v3_1 v3_2 k111 least g2) :=
  segC_step (n := 400) (ds := []) (cs := []) (live := [3, 8, 9, 36, 37, 38]) (m := 3) (evs := [.b false, .b false, .b false, .b false, .stop]) (obs := [(decide (((k111 : Nat) : Int) < ((k11 : Nat) : Int))) = false, (v3_0 == 4) = false, false = false, false = false, InR .i64 (((k : Nat) : Int) + 1)]) hE.2.1 (hE.nogh _) mixed (by kernel_rfl) ⟨o0, o1, (rfl), (rfl), o4, trivial⟩ hg
theorem f43W1 (s : Stl) (stock : (List Int)) (k : Nat) (k1 : (List Trn)) (k11 : Nat) (v2 : List Bool) (v3_0 : Int) (v3_1 : Int) (v3_2 : (List Trn)) (k111 : Nat) (least : Int) {E : Env} {rv : (Int × Int)} (hE : PureE Try.prog 43 (.tup [.int .i64 rv.1, .int .i64 rv.2]) E)
    (h : ((((k111 : Nat) : Int) < ((k11 : Nat) : Int) → (∃ te : Trn, k1[k111]? = some te ∧ (0 ≤ te.to ∧ (∃ eb : Bool, v2[Int.toNat te.to]? = some eb ∧ ((-9223372036854775808 ≤ ((k111 : Nat) : Int) + 1 ∧ ((k111 : Nat) : Int) + 1 ≤ 9223372036854775807) ∧ f43G1 E s stock k k1 k11 (v2.set (Int.toNat te.to) true) v3_0 v3_1 v3_2 (k111 + 1) least))))) ∧ (¬ (((k111 : Nat) : Int) < ((k11 : Nat) : Int)) → ((v3_0 = 4 → ((v3_1 ≥ 0 → ((least < 0 → (0 ≤ v3_1 ∧ (∃ e : Int, stock[Int.toNat v3_1]? = some e ∧ ((-9223372036854775808 ≤ ((k : Nat) : Int) + 1 ∧ ((k : Nat) : Int) + 1 ≤ 9223372036854775807) ∧ f43G0 E s stock v2 (k + 1) e)))) ∧ (¬ (least < 0) → (0 ≤ v3_1 ∧ (∃ e : Int, stock[Int.toNat v3_1]? = some e ∧ ((e < least → ((-9223372036854775808 ≤ ((k : Nat) : Int) + 1 ∧ ((k : Nat) : Int) + 1 ≤ 9223372036854775807) ∧ f43G0 E s stock v2 (k + 1) e)) ∧ (¬ (e < least) → ((-9223372036854775808 ≤ ((k : Nat) : Int) + 1 ∧ ((k : Nat) : Int) + 1 ≤ 9223372036854775807) ∧ f43G0 E s stock v2 (k + 1) least)))))))) ∧ (¬ (v3_1 ≥ 0) → ((-9223372036854775808 ≤ ((k : Nat) : Int) + 1 ∧ ((k : Nat) : Int) + 1 ≤ 9223372036854775807) ∧ f43G0 E s stock v2 (k + 1) least)))) ∧ (¬ (v3_0 = 4) → ((-9223372036854775808 ≤ ((k : Nat) : Int) + 1 ∧ ((k : Nat) : Int) + 1 ≤ 9223372036854775807) ∧ f43G0 E s stock v2 (k + 1) least)))))) : f43G1 E s stock k k1 k11 v2 v3_0 v3_1 v3_2 k111 least := by
  intro g2
  rcases Bool.eq_false_or_eq_true (decide (((k111 : Nat) : Int) < ((k11 : Nat) : Int))) with hc0 | hc0
  · have h := h.1 (of_decide_eq_true hc0)
    obtain ⟨te, h1, h⟩ := h
    obtain ⟨h3, h⟩ := h
    obtain ⟨eb, h2, h⟩ := h
    obtain ⟨q10_1, h⟩ := h
    refine p43_1_0 s stock k k1 k11 v2 v3_0 v3_1 v3_2 k111 least g2 te eb hE hc0 (idx_ok h1) (row_part cTrn (s := 2) (k := 0) (m := 2) (fun _ => rfl) (by decide) h1) (idx_ok' h3 h2) (row_fits cB (s := 1) (k := 0) (m := 1) (fun _ => rfl) (by decide) h2) q10_1 ?_
    have h := (h g2)
    simp only [f43S1, List.length_set] at h
    rw [(show setAt (rowB v2) (0 + (Int.toNat te.to) * 1) [.bool true] = rowB (v2.set (Int.toNat te.to) true) from row_set cB (s := 1) (k := 0) (fun _ => rfl) h2 rfl (by first | decide | simp))]
    exact h
  · have h := h.2 (of_decide_eq_false hc0)
    rcases Bool.eq_false_or_eq_true (v3_0 == 4) with hc1 | hc1
    · have h := h.1 (eq_of_beq hc1)
      rcases Bool.eq_false_or_eq_true (decide (v3_1 ≥ 0)) with hc2 | hc2
      · have h := h.1 (of_decide_eq_true hc2)
        rcases Bool.eq_false_or_eq_true (decide (least < 0)) with hc3 | hc3
        · have h := h.1 (of_decide_eq_true hc3)
          obtain ⟨h2, h⟩ := h
          obtain ⟨e, h1, h⟩ := h
          obtain ⟨q8_4, h⟩ := h
          exact p43_1_1 s stock k k1 k11 v2 v3_0 v3_1 v3_2 k111 least g2 e hE hc0 hc1 hc2 hc3 (idx_ok' h2 h1) (row_part cI (s := 1) (k := 0) (m := 1) (fun _ => rfl) (by decide) h1) q8_4 (h g2)
        · have h := h.2 (of_decide_eq_false hc3)
          obtain ⟨h2, h⟩ := h
          obtain ⟨e, h1, h⟩ := h
          rcases Bool.eq_false_or_eq_true (decide (e < least)) with hc4 | hc4
          · have h := h.1 (of_decide_eq_true hc4)
            obtain ⟨q10_5, h⟩ := h
            exact p43_1_2 s stock k k1 k11 v2 v3_0 v3_1 v3_2 k111 least g2 e hE hc0 hc1 hc2 hc3 (idx_ok' h2 h1) (row_part cI (s := 1) (k := 0) (m := 1) (fun _ => rfl) (by decide) h1) hc4 (idx_ok' h2 h1) (row_part cI (s := 1) (k := 0) (m := 1) (fun _ => rfl) (by decide) h1) q10_5 (h g2)
          · have h := h.2 (of_decide_eq_false hc4)
            obtain ⟨q8_5, h⟩ := h
            exact p43_1_3 s stock k k1 k11 v2 v3_0 v3_1 v3_2 k111 least g2 e hE hc0 hc1 hc2 hc3 (idx_ok' h2 h1) (row_part cI (s := 1) (k := 0) (m := 1) (fun _ => rfl) (by decide) h1) hc4 q8_5 (h g2)
      · have h := h.2 (of_decide_eq_false hc2)
        obtain ⟨q4_3, h⟩ := h
        exact p43_1_4 s stock k k1 k11 v2 v3_0 v3_1 v3_2 k111 least g2  hE hc0 hc1 hc2 q4_3 (h g2)
    · have h := h.2 (ne_of_beq_false hc1)
      obtain ⟨q4_2, h⟩ := h
      exact p43_1_5 s stock k k1 k11 v2 v3_0 v3_1 v3_2 k111 least g2  hE hc0 hc1 q4_2 (h g2)
theorem f60b : Try.f60.body = some (bodyAt Try.prog 60) := by kernel_rfl
def f60K0 (P : Program) : List Item := kAt 400 [.code (bodyAt P 60)] [.stop]
def f60S0 (s : Stl) (v1 : List Bool) (i : Nat) (g1 : Nat) : St := ⟨[.junk, .ptr 0 0 0, .junk, .sl 1 g1 0 v1.length 1, .int .i64 ((i : Nat) : Int), .junk, .junk, .junk, .junk, .junk, .junk, .junk, .junk, .junk, .junk, .junk, .junk, .junk, .junk, .junk, .junk, .junk, .junk, .junk, .junk, .junk, .junk, .junk, .junk, .junk, .junk, .junk, .junk, .junk, .junk, .junk, .junk, .junk, .junk, .junk, .junk, .junk, .junk, .junk, .junk, .junk, .junk, .junk], [⟨true, 0, 1, true, [.rsl (rowStg s.stages) 0 s.stages.length, .rsl (rowI s.worth) 0 s.worth.length, .int .i64 s.price], false⟩, ⟨true, g1, 1, true, (rowB v1), true⟩]⟩
def f60G0 (E : Env) (s : Stl) (v1 : List Bool) (i : Nat) : Prop := ∀ g1 : Nat, G Try.prog E (f60K0 Try.prog) (f60S0 s v1 i g1)
def f60K1 (P : Program) : List Item := kAt 400 [.code (bodyAt P 60)] [.b true, .stop]
def f60S1 (s : Stl) (v1 : List Bool) (k : Nat) (i : Nat) (g1 : Nat) : St := ⟨[.junk, .ptr 0 0 0, .junk, .sl 1 g1 0 v1.length 1, .int .i64 ((i : Nat) : Int), .int .i64 ((k : Nat) : Int), .junk, .junk, .junk, .junk, .junk, .junk, .junk, .junk, .junk, .junk, .junk, .junk, .junk, .junk, .junk, .junk, .junk, .junk, .junk, .junk, .junk, .junk, .junk, .junk, .junk, .junk, .junk, .junk, .junk, .junk, .junk, .junk, .junk, .junk, .junk, .junk, .junk, .junk, .junk, .junk, .junk, .junk], [⟨true, 0, 1, true, [.rsl (rowStg s.stages) 0 s.stages.length, .rsl (rowI s.worth) 0 s.worth.length, .int .i64 s.price], false⟩, ⟨true, g1, 1, true, (rowB v1), true⟩]⟩
def f60G1 (E : Env) (s : Stl) (v1 : List Bool) (k : Nat) (i : Nat) : Prop := ∀ g1 : Nat, G Try.prog E (f60K1 Try.prog) (f60S1 s v1 k i g1)
theorem p60_start_0 (s : Stl)  (eb : Bool)  {E : Env} {rv : AV} (hE : PureE Try.prog 60 rv E) (o0 : 0 ≤ ((s.stages.length : Nat) : Int) ∧ ((s.stages.length : Nat) : Int) ≤ ((s.stages.length : Nat) : Int) ∧ ((s.stages.length : Nat) : Int) ≤ 2147483648) (o2 : (0 : Int) ≤ 0 ∧ (0 : Int) < (((Int.toNat ((s.stages.length : Nat) : Int)) : Nat) : Int)) (o4 : ((0 + 0 * 1) + 1) ≤ ((List.replicate (Int.toNat ((s.stages.length : Nat) : Int)) ([.bool false] : List AV)).flatten).length)
    (hg : G Try.prog E (f60K0 Try.prog) ⟨[.junk, .ptr 0 0 0, .junk, .sl 1 0 0 (Int.toNat ((s.stages.length : Nat) : Int)) 1, .int .i64 0, .junk, .junk, .junk, .junk, .junk, .junk, .junk, .junk, .junk, .junk, .junk, .junk, .junk, .junk, .junk, .junk, .junk, .junk, .junk, .junk, .junk, .junk, .junk, .junk, .junk, .junk, .junk, .junk, .junk, .junk, .junk, .junk, .junk, .junk, .junk, .junk, .junk, .junk, .junk, .junk, .junk, .junk, .junk], [⟨true, 0, 1, true, [.rsl (rowStg s.stages) 0 s.stages.length, .rsl (rowI s.worth) 0 s.worth.length, .int .i64 s.price], false⟩, ⟨true, 0, 1, true, (setAt ((List.replicate (Int.toNat ((s.stages.length : Nat) : Int)) ([.bool false] : List AV)).flatten) (0 + 0 * 1) [.bool true]), true⟩]⟩) : G Try.prog E [.code (bodyAt Try.prog 60)] ⟨[.agg [.rsl (rowStg s.stages) 0 s.stages.length, .rsl (rowI s.worth) 0 s.worth.length, .int .i64 s.price]] ++ unds (Try.f60.ntmps - 1), []⟩ :=
  segC_step (n := 400) (ds := []) (cs := []) (live := [1, 3, 4]) (m := 2) (evs := [.stop]) (obs := [0 ≤ ((s.stages.length : Nat) : Int) ∧ ((s.stages.length : Nat) : Int) ≤ ((s.stages.length : Nat) : Int) ∧ ((s.stages.length : Nat) : Int) ≤ 2147483648, (0 : Int) ≤ 0 ∧ (0 : Int) < (((Int.toNat ((s.stages.length : Nat) : Int)) : Nat) : Int), 0 = 0, ((0 + 0 * 1) + 1) ≤ ((List.replicate (Int.toNat ((s.stages.length : Nat) : Int)) ([.bool false] : List AV)).flatten).length, 0 = 0]) hE.2.1 (hE.nogh _) mixed (by kernel_rfl) ⟨o0, o2, (rfl), o4, (rfl), trivial⟩ hg
theorem f60W (s : Stl) {E : Env} {rv : (List Bool)} (hE : PureE Try.prog 60 (.rsl (rowB rv) 0 rv.length) E)
    (h : (s.stages.length ≤ 2147483648 ∧ (∃ eb : Bool, (List.replicate s.stages.length (false : Bool))[0]? = some eb ∧ f60G0 E s ((List.replicate s.stages.length (false : Bool)).set 0 true) 0))) : G Try.prog E [.code (bodyAt Try.prog 60)] ⟨[.agg [.rsl (rowStg s.stages) 0 s.stages.length, .rsl (rowI s.worth) 0 s.worth.length, .int .i64 s.price]] ++ unds (Try.f60.ntmps - 1), []⟩ := by
  obtain ⟨h1, h⟩ := h
  obtain ⟨eb, h2, h⟩ := h
  refine p60_start_0 s   eb hE ⟨by omega, by omega, by have := h1; omega⟩ (by have hx := idx_ok h2; simpa using hx) (by rw [(show (List.replicate (Int.toNat ((s.stages.length : Nat) : Int)) ([.bool false] : List AV)).flatten = rowB (List.replicate s.stages.length (false : Bool)) from row_rep cB _ _)]; exact row_fits cB (s := 1) (k := 0) (m := 1) (fun _ => rfl) (by decide) h2) ?_
  have h := (h 0)
  simp only [f60G0, f60S0, List.length_set, List.length_replicate] at h
  rw [(show (List.replicate (Int.toNat ((s.stages.length : Nat) : Int)) ([.bool false] : List AV)).flatten = rowB (List.replicate s.stages.length (false : Bool)) from row_rep cB _ _)]; rw [(show setAt (rowB (List.replicate s.stages.length (false : Bool))) (0 + 0 * 1) [.bool true] = rowB ((List.replicate s.stages.length (false : Bool)).set 0 true) from row_set cB (s := 1) (k := 0) (fun _ => rfl) h2 rfl (by first | decide | simp))]
  exact h
theorem p60_0_0 (s : Stl) (v1 : List Bool) (i : Nat) (g1 : Nat)  {E : Env} {rv : AV} (hE : PureE Try.prog 60 rv E) (o1 : (decide (((i : Nat) : Int) < ((v1.length : Nat) : Int))) = true)
    (hg : G Try.prog E (f60K1 Try.prog) ⟨[.junk, .ptr 0 0 0, .junk, .sl 1 g1 0 v1.length 1, .int .i64 ((i : Nat) : Int), .int .i64 0, .junk, .junk, .junk, .junk, .junk, .junk, .junk, .junk, .junk, .junk, .junk, .junk, .junk, .junk, .junk, .junk, .junk, .junk, .junk, .junk, .junk, .junk, .junk, .junk, .junk, .junk, .junk, .junk, .junk, .junk, .junk, .junk, .junk, .junk, .junk, .junk, .junk, .junk, .junk, .junk, .junk, .junk], [⟨true, 0, 1, true, [.rsl (rowStg s.stages) 0 s.stages.length, .rsl (rowI s.worth) 0 s.worth.length, .int .i64 s.price], false⟩, ⟨true, g1, 1, true, (rowB v1), true⟩]⟩) : G Try.prog E (f60K0 Try.prog) (f60S0 s v1 i g1) :=
  segC_step (n := 400) (ds := []) (cs := []) (live := [1, 3, 4, 5]) (m := 2) (evs := [.b true, .stop]) (obs := [g1 = g1, (decide (((i : Nat) : Int) < ((v1.length : Nat) : Int))) = true]) hE.2.1 (hE.nogh _) mixed (by kernel_rfl) ⟨(rfl), o1, trivial⟩ hg
theorem p60_0_1 (s : Stl) (v1 : List Bool) (i : Nat) (g1 : Nat)  {E : Env} {res : AV} (hE : PureE Try.prog 60 res E) (o1 : (decide (((i : Nat) : Int) < ((v1.length : Nat) : Int))) = false)
    (hr : AvLe (.rsl (rowB v1) 0 v1.length) res) : G Try.prog E (f60K0 Try.prog) (f60S0 s v1 i g1) :=
  end_stepL (n := 400) (evs := [.b false]) (obs := [g1 = g1, (decide (((i : Nat) : Int) < ((v1.length : Nat) : Int))) = false, g1 = g1]) hE Try.func60 mixed (by kernel_rfl) ⟨(rfl), o1, (rfl), trivial⟩ hr
theorem f60W0 (s : Stl) (v1 : List Bool) (i : Nat) {E : Env} {rv : (List Bool)} (hE : PureE Try.prog 60 (.rsl (rowB rv) 0 rv.length) E)
    (h : ((((i : Nat) : Int) < ((v1.length : Nat) : Int) → f60G1 E s v1 0 i) ∧ (¬ (((i : Nat) : Int) < ((v1.length : Nat) : Int)) → rv = v1))) : f60G0 E s v1 i := by
  intro g1
  rcases Bool.eq_false_or_eq_true (decide (((i : Nat) : Int) < ((v1.length : Nat) : Int))) with hc0 | hc0
  · have h := h.1 (of_decide_eq_true hc0)
    exact p60_0_0 s v1 i g1  hE hc0 (h g1)
  · have h := h.2 (of_decide_eq_false hc0)
    exact p60_0_1 s v1 i g1  hE hc0 (AvLe.of_eq (by rw [h]; try rfl))
theorem p60_1_0 (s : Stl) (v1 : List Bool) (k : Nat) (i : Nat) (g1 : Nat) (se : Stg) (eb : Bool) (te : Trn) (eb1 : Bool)  {E : Env} {rv : AV} (hE : PureE Try.prog 60 rv E) (o1 : 0 ≤ ((i : Nat) : Int) ∧ ((i : Nat) : Int) < ((s.stages.length : Nat) : Int)) (o2 : ((rowStg s.stages).drop ((0 + (Int.toNat ((i : Nat) : Int)) * 3) + 2)).take 1 = [.rsl (rowTrn se.turns) 0 se.turns.length]) (o3 : (decide (((k : Nat) : Int) < ((se.turns.length : Nat) : Int))) = true) (o5 : 0 ≤ ((i : Nat) : Int) ∧ ((i : Nat) : Int) < ((v1.length : Nat) : Int)) (o8 : ((rowB v1).drop (0 + (Int.toNat ((i : Nat) : Int)) * 1)).take 1 = [.bool eb]) (o9 : eb = true) (o10 : 0 ≤ ((i : Nat) : Int) ∧ ((i : Nat) : Int) < ((s.stages.length : Nat) : Int)) (o11 : ((rowStg s.stages).drop ((0 + (Int.toNat ((i : Nat) : Int)) * 3) + 2)).take 1 = [.rsl (rowTrn se.turns) 0 se.turns.length]) (o13 : 0 ≤ ((k : Nat) : Int) ∧ ((k : Nat) : Int) < ((se.turns.length : Nat) : Int)) (o14 : ((rowTrn se.turns).drop ((0 + (Int.toNat ((k : Nat) : Int)) * 2) + 1)).take 1 = [.int .i64 te.to]) (o16 : 0 ≤ te.to ∧ te.to < ((v1.length : Nat) : Int)) (o18 : ((0 + (Int.toNat te.to) * 1) + 1) ≤ (rowB v1).length) (o20 : InR .i64 (((k : Nat) : Int) + 1))
    (hg : G Try.prog E (f60K1 Try.prog) ⟨[.junk, .ptr 0 0 0, .junk, .sl 1 g1 0 v1.length 1, .int .i64 ((i : Nat) : Int), .int .i64 (((k : Nat) : Int) + 1), .junk, .junk, .junk, .junk, .junk, .junk, .junk, .junk, .junk, .junk, .junk, .junk, .junk, .junk, .junk, .junk, .junk, .junk, .junk, .junk, .junk, .junk, .junk, .junk, .junk, .junk, .junk, .junk, .junk, .junk, .junk, .junk, .junk, .junk, .junk, .junk, .junk, .junk, .junk, .junk, .junk, .junk], [⟨true, 0, 1, true, [.rsl (rowStg s.stages) 0 s.stages.length, .rsl (rowI s.worth) 0 s.worth.length, .int .i64 s.price], false⟩, ⟨true, g1, 1, true, (setAt (rowB v1) (0 + (Int.toNat te.to) * 1) [.bool true]), true⟩]⟩) : G Try.prog E (f60K1 Try.prog) (f60S1 s v1 k i g1) :=
  segC_step (n := 400) (ds := []) (cs := []) (live := [1, 3, 4, 5]) (m := 2) (evs := [.auto, .ld (.rsl (rowTrn se.turns) 0 se.turns.length), .b true, .ld (.bool eb), .b true, .auto, .ld (.rsl (rowTrn se.turns) 0 se.turns.length), .ld (.int .i64 te.to), .stop]) (obs := [0 ≤ ((i : Nat) : Int) ∧ ((i : Nat) : Int) < ((s.stages.length : Nat) : Int), ((rowStg s.stages).drop ((0 + (Int.toNat ((i : Nat) : Int)) * 3) + 2)).take 1 = [.rsl (rowTrn se.turns) 0 se.turns.length], (decide (((k : Nat) : Int) < ((se.turns.length : Nat) : Int))) = true, 0 ≤ ((i : Nat) : Int) ∧ ((i : Nat) : Int) < ((v1.length : Nat) : Int), g1 = g1, g1 = g1, ((rowB v1).drop (0 + (Int.toNat ((i : Nat) : Int)) * 1)).take 1 = [.bool eb], eb = true, 0 ≤ ((i : Nat) : Int) ∧ ((i : Nat) : Int) < ((s.stages.length : Nat) : Int), ((rowStg s.stages).drop ((0 + (Int.toNat ((i : Nat) : Int)) * 3) + 2)).take 1 = [.rsl (rowTrn se.turns) 0 se.turns.length], 0 ≤ ((k : Nat) : Int) ∧ ((k : Nat) : Int) < ((se.turns.length : Nat) : Int), ((rowTrn se.turns).drop ((0 + (Int.toNat ((k : Nat) : Int)) * 2) + 1)).take 1 = [.int .i64 te.to], 0 ≤ te.to ∧ te.to < ((v1.length : Nat) : Int), g1 = g1, ((0 + (Int.toNat te.to) * 1) + 1) ≤ (rowB v1).length, g1 = g1, InR .i64 (((k : Nat) : Int) + 1)]) hE.2.1 (hE.nogh _) mixed (by kernel_rfl) ⟨o1, o2, o3, o5, (rfl), (rfl), o8, o9, o10, o11, o13, o14, o16, (rfl), o18, (rfl), o20, trivial⟩ hg
theorem p60_1_1 (s : Stl) (v1 : List Bool) (k : Nat) (i : Nat) (g1 : Nat) (se : Stg) (eb : Bool)  {E : Env} {rv : AV} (hE : PureE Try.prog 60 rv E) (o1 : 0 ≤ ((i : Nat) : Int) ∧ ((i : Nat) : Int) < ((s.stages.length : Nat) : Int)) (o2 : ((rowStg s.stages).drop ((0 + (Int.toNat ((i : Nat) : Int)) * 3) + 2)).take 1 = [.rsl (rowTrn se.turns) 0 se.turns.length]) (o3 : (decide (((k : Nat) : Int) < ((se.turns.length : Nat) : Int))) = true) (o5 : 0 ≤ ((i : Nat) : Int) ∧ ((i : Nat) : Int) < ((v1.length : Nat) : Int)) (o8 : ((rowB v1).drop (0 + (Int.toNat ((i : Nat) : Int)) * 1)).take 1 = [.bool eb]) (o9 : eb = false) (o10 : InR .i64 (((i : Nat) : Int) + 1))
    (hg : G Try.prog E (f60K0 Try.prog) ⟨[.junk, .ptr 0 0 0, .junk, .sl 1 g1 0 v1.length 1, .int .i64 (((i : Nat) : Int) + 1), .junk, .junk, .junk, .junk, .junk, .junk, .junk, .junk, .junk, .junk, .junk, .junk, .junk, .junk, .junk, .junk, .junk, .junk, .junk, .junk, .junk, .junk, .junk, .junk, .junk, .junk, .junk, .junk, .junk, .junk, .junk, .junk, .junk, .junk, .junk, .junk, .junk, .junk, .junk, .junk, .junk, .junk, .junk], [⟨true, 0, 1, true, [.rsl (rowStg s.stages) 0 s.stages.length, .rsl (rowI s.worth) 0 s.worth.length, .int .i64 s.price], false⟩, ⟨true, g1, 1, true, (rowB v1), true⟩]⟩) : G Try.prog E (f60K1 Try.prog) (f60S1 s v1 k i g1) :=
  segC_step (n := 400) (ds := []) (cs := []) (live := [1, 3, 4]) (m := 2) (evs := [.auto, .ld (.rsl (rowTrn se.turns) 0 se.turns.length), .b true, .ld (.bool eb), .b false, .stop]) (obs := [0 ≤ ((i : Nat) : Int) ∧ ((i : Nat) : Int) < ((s.stages.length : Nat) : Int), ((rowStg s.stages).drop ((0 + (Int.toNat ((i : Nat) : Int)) * 3) + 2)).take 1 = [.rsl (rowTrn se.turns) 0 se.turns.length], (decide (((k : Nat) : Int) < ((se.turns.length : Nat) : Int))) = true, 0 ≤ ((i : Nat) : Int) ∧ ((i : Nat) : Int) < ((v1.length : Nat) : Int), g1 = g1, g1 = g1, ((rowB v1).drop (0 + (Int.toNat ((i : Nat) : Int)) * 1)).take 1 = [.bool eb], eb = false, InR .i64 (((i : Nat) : Int) + 1)]) hE.2.1 (hE.nogh _) mixed (by kernel_rfl) ⟨o1, o2, o3, o5, (rfl), (rfl), o8, o9, o10, trivial⟩ hg
theorem p60_1_2 (s : Stl) (v1 : List Bool) (k : Nat) (i : Nat) (g1 : Nat) (se : Stg)  {E : Env} {rv : AV} (hE : PureE Try.prog 60 rv E) (o1 : 0 ≤ ((i : Nat) : Int) ∧ ((i : Nat) : Int) < ((s.stages.length : Nat) : Int)) (o2 : ((rowStg s.stages).drop ((0 + (Int.toNat ((i : Nat) : Int)) * 3) + 2)).take 1 = [.rsl (rowTrn se.turns) 0 se.turns.length]) (o3 : (decide (((k : Nat) : Int) < ((se.turns.length : Nat) : Int))) = false) (o5 : InR .i64 (((i : Nat) : Int) + 1))
    (hg : G Try.prog E (f60K0 Try.prog) ⟨[.junk, .ptr 0 0 0, .junk, .sl 1 g1 0 v1.length 1, .int .i64 (((i : Nat) : Int) + 1), .junk, .junk, .junk, .junk, .junk, .junk, .junk, .junk, .junk, .junk, .junk, .junk, .junk, .junk, .junk, .junk, .junk, .junk, .junk, .junk, .junk, .junk, .junk, .junk, .junk, .junk, .junk, .junk, .junk, .junk, .junk, .junk, .junk, .junk, .junk, .junk, .junk, .junk, .junk, .junk, .junk, .junk, .junk], [⟨true, 0, 1, true, [.rsl (rowStg s.stages) 0 s.stages.length, .rsl (rowI s.worth) 0 s.worth.length, .int .i64 s.price], false⟩, ⟨true, g1, 1, true, (rowB v1), true⟩]⟩) : G Try.prog E (f60K1 Try.prog) (f60S1 s v1 k i g1) :=
  segC_step (n := 400) (ds := []) (cs := []) (live := [1, 3, 4]) (m := 2) (evs := [.auto, .ld (.rsl (rowTrn se.turns) 0 se.turns.length), .b false, .b false, .stop]) (obs := [0 ≤ ((i : Nat) : Int) ∧ ((i : Nat) : Int) < ((s.stages.length : Nat) : Int), ((rowStg s.stages).drop ((0 + (Int.toNat ((i : Nat) : Int)) * 3) + 2)).take 1 = [.rsl (rowTrn se.turns) 0 se.turns.length], (decide (((k : Nat) : Int) < ((se.turns.length : Nat) : Int))) = false, false = false, InR .i64 (((i : Nat) : Int) + 1)]) hE.2.1 (hE.nogh _) mixed (by kernel_rfl) ⟨o1, o2, o3, (rfl), o5, trivial⟩ hg
theorem f60W1 (s : Stl) (v1 : List Bool) (k : Nat) (i : Nat) {E : Env} {rv : (List Bool)} (hE : PureE Try.prog 60 (.rsl (rowB rv) 0 rv.length) E)
    (h : (∃ se : Stg, s.stages[i]? = some se ∧ ((((k : Nat) : Int) < ((se.turns.length : Nat) : Int) → (∃ eb : Bool, v1[i]? = some eb ∧ ((eb = true → (∃ te : Trn, se.turns[k]? = some te ∧ (0 ≤ te.to ∧ (∃ eb1 : Bool, v1[Int.toNat te.to]? = some eb1 ∧ ((-9223372036854775808 ≤ ((k : Nat) : Int) + 1 ∧ ((k : Nat) : Int) + 1 ≤ 9223372036854775807) ∧ f60G1 E s (v1.set (Int.toNat te.to) true) (k + 1) i))))) ∧ (eb = false → ((-9223372036854775808 ≤ ((i : Nat) : Int) + 1 ∧ ((i : Nat) : Int) + 1 ≤ 9223372036854775807) ∧ f60G0 E s v1 (i + 1)))))) ∧ (¬ (((k : Nat) : Int) < ((se.turns.length : Nat) : Int)) → ((-9223372036854775808 ≤ ((i : Nat) : Int) + 1 ∧ ((i : Nat) : Int) + 1 ≤ 9223372036854775807) ∧ f60G0 E s v1 (i + 1)))))) : f60G1 E s v1 k i := by
  intro g1
  obtain ⟨se, h1, h⟩ := h
  rcases Bool.eq_false_or_eq_true (decide (((k : Nat) : Int) < ((se.turns.length : Nat) : Int))) with hc0 | hc0
  · have h := h.1 (of_decide_eq_true hc0)
    obtain ⟨eb, h2, h⟩ := h
    rcases Bool.eq_false_or_eq_true eb with hc1 | hc1
    · have h := h.1 hc1
      obtain ⟨te, h3, h⟩ := h
      obtain ⟨h5, h⟩ := h
      obtain ⟨eb1, h4, h⟩ := h
      obtain ⟨q20_2, h⟩ := h
      refine p60_1_0 s v1 k i g1 se eb te eb1 hE (idx_ok h1) (row_part cStg (s := 3) (k := 2) (m := 1) (fun _ => rfl) (by decide) h1) hc0 (idx_ok h2) (row_part cB (s := 1) (k := 0) (m := 1) (fun _ => rfl) (by decide) h2) hc1 (idx_ok h1) (row_part cStg (s := 3) (k := 2) (m := 1) (fun _ => rfl) (by decide) h1) (idx_ok h3) (row_part cTrn (s := 2) (k := 1) (m := 1) (fun _ => rfl) (by decide) h3) (idx_ok' h5 h4) (row_fits cB (s := 1) (k := 0) (m := 1) (fun _ => rfl) (by decide) h4) q20_2 ?_
      have h := (h g1)
      simp only [f60S1, List.length_set] at h
      rw [(show setAt (rowB v1) (0 + (Int.toNat te.to) * 1) [.bool true] = rowB (v1.set (Int.toNat te.to) true) from row_set cB (s := 1) (k := 0) (fun _ => rfl) h4 rfl (by first | decide | simp))]
      exact h
    · have h := h.2 hc1
      obtain ⟨q10_2, h⟩ := h
      exact p60_1_1 s v1 k i g1 se eb hE (idx_ok h1) (row_part cStg (s := 3) (k := 2) (m := 1) (fun _ => rfl) (by decide) h1) hc0 (idx_ok h2) (row_part cB (s := 1) (k := 0) (m := 1) (fun _ => rfl) (by decide) h2) hc1 q10_2 (h g1)
  · have h := h.2 (of_decide_eq_false hc0)
    obtain ⟨q5_1, h⟩ := h
    exact p60_1_2 s v1 k i g1 se hE (idx_ok h1) (row_part cStg (s := 3) (k := 2) (m := 1) (fun _ => rfl) (by decide) h1) hc0 q5_1 (h g1)

theorem reached_ok (s : Stl) (hc : checkK s = 0) : Pure Try.prog 60 [avStl s] (.rsl (rowB (reachI s)) 0 (reachI s).length) := pure_of Try.func60 f60b fun E hE => by
  obtain ⟨hm, es⟩ := mok_G (isSome_of hc)
  have hform := (stPre_of hm.st).2.2.2.2
  have hn := (stPre_of hm.st).1
  rw [es] at hform hn
  have key : ∀ (d i : Nat), i + d = s.stages.length → f60G0 E s (reachN s i) i := by
    intro d
    induction d with
    | zero =>
      intro i hd
      exact f60W0 s _ i (rv := reachI s) hE ⟨fun h => by rw [reachN_len] at h; omega, fun _ => by rw [reachI, show i = s.stages.length by omega]⟩
    | succ d ih =>
      intro i hd
      have hi : s.stages[i]? = some s.stages[i] := List.getElem?_eq_getElem (by omega)
      have hx : s.stages.getD i ⟨0, 0, []⟩ = s.stages[i] := by simp [List.getD, hi]
      have nx := ih (i + 1) (by omega)
      have hto := turns_to hi (hform i (by omega))
      have htl : s.stages[i].turns.length ≤ 8 := by
        rcases form_of hi (hform i (by omega)) with ⟨-, h, -⟩ | ⟨-, -, h, -⟩
        · rw [h]; simp
        · exact h.2
      simp only [reachN] at nx
      rw [hx] at nx
      have hb := getB (l := reachN s i) (i := i) (by rw [reachN_len]; omega)
      have hrl := reachN_len (s := s) (i := i)
      generalize s.stages[i] = x at hi nx hto htl
      refine f60W0 s _ i (rv := reachI s) hE ⟨fun _ => ?_, fun h => by rw [reachN_len] at h; omega⟩
      cases hr : (reachN s i).getD i false with
      | false =>
        rw [if_neg (by rw [hr]; simp)] at nx
        rw [hr] at hb
        exact f60W1 s _ 0 i (rv := reachI s) hE ⟨x, hi, fun _ => ⟨false, hb, fun h => (by cases h), fun _ => ⟨by omega, nx⟩⟩, fun _ => ⟨by omega, nx⟩⟩
      | true =>
        rw [if_pos hr] at nx
        rw [hr] at hb
        generalize reachN s i = r at nx hb hrl
        have loop : ∀ (d k : Nat) (r' : List Bool), k + d = x.turns.length → r'.length = s.stages.length → r'[i]? = some true → markT r' (x.turns.drop k) = markT r x.turns → f60G1 E s r' k i := by
          intro d
          induction d with
          | zero =>
            intro k r' hd h1 h2 h3
            rw [List.drop_eq_nil_of_le (by omega), markT] at h3
            rw [← h3] at nx
            exact f60W1 s r' k i (rv := reachI s) hE ⟨x, hi, fun h => by omega, fun _ => ⟨by omega, nx⟩⟩
          | succ d ih2 =>
            intro k r' hd h1 h2 h3
            have hk : x.turns[k]? = some x.turns[k] := List.getElem?_eq_getElem (by omega)
            rw [List.drop_eq_getElem_cons (by omega), markT] at h3
            have ht := hto _ (List.mem_of_getElem? hk)
            generalize x.turns[k] = te at hk h3 ht
            exact f60W1 s r' k i (rv := reachI s) hE ⟨x, hi, fun _ => ⟨true, h2, fun _ => ⟨te, hk, ht.2.2, _, getB (by rw [h1]; exact ht.2.1), by omega, ih2 (k + 1) _ (by omega) (by simp [h1]) (by rw [List.getElem?_set_ne (by omega)]; exact h2) h3⟩, fun h => by cases h⟩, fun h => by omega⟩
        exact loop x.turns.length 0 r (by omega) hrl hb (by simp)
  exact f60W s (rv := reachI s) hE ⟨by omega, _, by rw [List.getElem?_replicate, if_pos (by omega)], key s.stages.length 0 (by omega)⟩
theorem stockOk_of {s : Stl} {stock : List Int} (hc : checkK s = 0) (h : stockOk (machG s) stock = true) : stock.length = s.worth.length ∧ ∀ n ∈ stock, 0 ≤ n ∧ n ≤ 1000 := by
  obtain ⟨hm, es⟩ := mok_G (isSome_of hc)
  simp only [stockOk, Bool.and_eq_true, decide_eq_true_eq, Bool.not_eq_true'] at h
  rw [es] at h
  refine ⟨h.1, fun n hn => ?_⟩
  have := (List.any_eq_false.1 h.2) n hn
  exact within_iff.1 (by simpa using this)
theorem prize_in {s : Stl} (hc : checkK s = 0) {i : Nat} {x : Stg} (hi : s.stages[i]? = some x) (h : x.prize ≥ 0) (h4 : x.kind = 4) : Int.toNat x.prize < s.worth.length := by
  obtain ⟨hm, es⟩ := mok_G (isSome_of hc)
  have hform := (stPre_of hm.st).2.2.2.2
  rw [es] at hform
  rcases form_of hi (hform i (List.getElem?_eq_some_iff.1 hi).1) with ⟨-, -, h⟩ | ⟨h, -⟩ <;> omega
theorem lasts_ok (s : Stl) (stock : List Int) (h : (s.stages.length ≤ 9223372036854775807 ∧ s.worth.length ≤ 9223372036854775807) ∧ stock.length ≤ 9223372036854775807) : Pure Try.prog 43 [avStl s, .rsl (rowI stock) 0 stock.length] (.tup [.int .i64 (lastsK s stock).1, .int .i64 (lastsK s stock).2]) := pure_of Try.func43 f43b fun E hE => by
  refine f43W s stock (rv := lastsK s stock) hE ⟨fun h0 => ⟨fun h1 => ⟨h, ?_⟩, fun h1 => ⟨h, ?_⟩⟩, fun h0 => ⟨h, ?_⟩⟩
  · have hc := isSome_iff.1 h0
    obtain ⟨sl, sb⟩ := stockOk_of hc h1
    obtain ⟨hm, es⟩ := mok_G h0
    have hform := (stPre_of hm.st).2.2.2.2
    have hn := (stPre_of hm.st).1
    rw [es] at hform hn
    have hrv : lastsK s stock = lastsR (leastN s stock s.stages.length) := by rw [lastsK, if_pos hc, if_pos h1]
    have key : ∀ (d i : Nat), i + d = s.stages.length → f43G0 E s stock (reachN s i) i (leastN s stock i) := by
      intro d
      induction d with
      | zero =>
        intro i hd
        have hi : i = s.stages.length := by omega
        rw [← hi] at hrv
        refine f43W0 s stock _ i _ (rv := lastsK s stock) hE ⟨fun h => by rw [es] at h; omega, fun _ => ⟨fun h => ?_, fun h => ?_⟩⟩
        · rw [hrv, lastsR, if_pos h]
        · rw [hrv, lastsR, if_neg h]
      | succ d ih =>
        intro i hd
        have hi : s.stages[i]? = some s.stages[i] := List.getElem?_eq_getElem (by omega)
        have hx : s.stages.getD i ⟨0, 0, []⟩ = s.stages[i] := by simp [List.getD, hi]
        have nx := ih (i + 1) (by omega)
        have hto := turns_to hi (hform i (by omega))
        have hpi := fun h h4 => prize_in hc hi h h4
        have htl : s.stages[i].turns.length ≤ 8 := by
          rcases form_of hi (hform i (by omega)) with ⟨-, h, -⟩ | ⟨-, -, h, -⟩
          · rw [h]; simp
          · exact h.2
        simp only [reachN, leastN] at nx
        rw [hx, reachI_at hform (by omega)] at nx
        have hb := getB (l := reachN s i) (i := i) (by rw [reachN_len]; omega)
        have hrl := reachN_len (s := s) (i := i)
        generalize s.stages[i] = x at hi nx hto htl hpi
        generalize leastN s stock i = l at nx
        refine f43W0 s stock _ i _ (rv := lastsK s stock) hE ⟨fun _ => ⟨x, by rw [es]; exact hi, _, hb, fun hr => ⟨by omega, ?_⟩, fun hr => ?_⟩, fun h => by rw [es] at h; omega⟩
        · rw [if_neg (by rw [hr]; simp), leastS, if_neg (by rw [hr]; simp)] at nx; exact nx
        rw [if_pos hr, hr] at nx
        generalize reachN s i = r at nx hb hrl
        have loop : ∀ (d k : Nat) (r' : List Bool), k + d = x.turns.length → r'.length = s.stages.length → markT r' (x.turns.drop k) = markT r x.turns → f43G1 E s stock i x.turns x.turns.length r' x.kind x.prize x.turns k l := by
          intro d
          induction d with
          | zero =>
            intro k r' hd h1 h3
            rw [List.drop_eq_nil_of_le (by omega), markT] at h3
            rw [← h3] at nx
            unfold leastS at nx
            refine f43W1 s stock i x.turns x.turns.length r' x.kind x.prize x.turns k l (rv := lastsK s stock) hE ⟨fun h => by omega, fun _ => ⟨fun h4 => ⟨fun hp => ⟨fun hl => ⟨hp, _, getD_some (by have := hpi hp h4; omega), by omega, ?_⟩, fun hl => ⟨hp, _, getD_some (by have := hpi hp h4; omega), fun hs => ⟨by omega, ?_⟩, fun hs => ⟨by omega, ?_⟩⟩⟩, fun hp => ⟨by omega, ?_⟩⟩, fun h4 => ⟨by omega, ?_⟩⟩⟩
            · rw [if_pos ⟨rfl, h4, hp, .inl hl⟩] at nx; exact nx
            · rw [if_pos ⟨rfl, h4, hp, .inr hs⟩] at nx; exact nx
            · rw [if_neg (fun h => h.2.2.2.elim hl hs)] at nx; exact nx
            · rw [if_neg (fun h => hp h.2.2.1)] at nx; exact nx
            · rw [if_neg (fun h => h4 h.2.1)] at nx; exact nx
          | succ d ih2 =>
            intro k r' hd h1 h3
            have hk : x.turns[k]? = some x.turns[k] := List.getElem?_eq_getElem (by omega)
            rw [List.drop_eq_getElem_cons (by omega), markT] at h3
            have ht := hto _ (List.mem_of_getElem? hk)
            generalize x.turns[k] = te at hk h3 ht
            exact f43W1 s stock i x.turns x.turns.length r' x.kind x.prize x.turns k l (rv := lastsK s stock) hE ⟨fun _ => ⟨te, hk, ht.2.2, _, getB (by rw [h1]; exact ht.2.1), by omega, ih2 (k + 1) _ (by omega) (by simp [h1]) h3⟩, fun h => by omega⟩
        exact loop x.turns.length 0 r (by omega) hrl (by simp)
    have k0 := key s.stages.length 0 (by omega)
    rw [es]
    exact ⟨by omega, _, by rw [List.getElem?_replicate, if_pos (by omega)], k0⟩
  · rw [lastsK, if_pos (isSome_iff.1 h0), if_neg (by rw [h1]; simp)]
  · rw [lastsK, if_neg (fun h => by rw [isSome_iff.2 h] at h0; cases h0)]

theorem f44b : Try.f44.body = some (bodyAt Try.prog 44) := by kernel_rfl
def f44K0 (P : Program) : List Item := kAt 400 [.code (bodyAt P 44)] [.b false, .b false, .stop]
def f44S0 (s : Stl) (stock : (List Int)) (i : Nat)  : St := ⟨[.junk, .rsl (rowI stock) 0 stock.length, .ptr 0 0 0, .junk, .junk, .junk, .junk, .int .i64 ((i : Nat) : Int), .junk, .junk, .junk, .junk, .junk, .junk, .junk, .junk, .junk, .junk, .junk, .junk, .junk, .junk, .junk, .junk, .junk, .junk, .junk, .junk, .junk, .junk, .junk, .junk, .junk, .junk, .junk, .junk, .junk, .junk, .junk, .junk, .junk, .junk, .junk, .junk, .junk, .junk, .junk, .junk, .junk, .junk, .junk, .junk, .junk, .junk, .junk, .junk, .junk, .junk, .junk, .junk, .junk, .junk, .junk, .junk, .junk, .junk, .junk, .junk, .junk, .junk, .junk, .junk, .junk, .junk, .junk, .junk, .junk, .junk, .junk, .junk, .junk, .junk, .junk], [⟨true, 0, 1, true, [.rsl (rowStg s.stages) 0 s.stages.length, .rsl (rowI s.worth) 0 s.worth.length, .int .i64 s.price], false⟩]⟩
def f44G0 (E : Env) (s : Stl) (stock : (List Int)) (i : Nat) : Prop := G Try.prog E (f44K0 Try.prog) (f44S0 s stock i )
def f44K1 (P : Program) : List Item := kAt 400 [.code (bodyAt P 44)] [.b false, .b false, .b false, .stop]
def f44S1 (s : Stl) (stock : (List Int)) (least : Int) (i : Nat)  : St := ⟨[.junk, .rsl (rowI stock) 0 stock.length, .ptr 0 0 0, .junk, .junk, .junk, .junk, .junk, .int .i64 least, .rsl (rowB (reachI s)) 0 ((reachI s).length), .int .i64 ((i : Nat) : Int), .junk, .junk, .junk, .junk, .junk, .junk, .junk, .junk, .junk, .junk, .junk, .junk, .junk, .junk, .junk, .junk, .junk, .junk, .junk, .junk, .junk, .junk, .junk, .junk, .junk, .junk, .junk, .junk, .junk, .junk, .junk, .junk, .junk, .junk, .junk, .junk, .junk, .junk, .junk, .junk, .junk, .junk, .junk, .junk, .junk, .junk, .junk, .junk, .junk, .junk, .junk, .junk, .junk, .junk, .junk, .junk, .junk, .junk, .junk, .junk, .junk, .junk, .junk, .junk, .junk, .junk, .junk, .junk, .junk, .junk, .junk, .junk], [⟨true, 0, 1, true, [.rsl (rowStg s.stages) 0 s.stages.length, .rsl (rowI s.worth) 0 s.worth.length, .int .i64 s.price], false⟩]⟩
def f44G1 (E : Env) (s : Stl) (stock : (List Int)) (least : Int) (i : Nat) : Prop := G Try.prog E (f44K1 Try.prog) (f44S1 s stock least i )
theorem p44_start_0 (s : Stl) (stock : (List Int))   {E : Env} {res : AV} (hE : PureE Try.prog 44 res E) (o0 : PureF Try.prog (.clos 19 [] []) [.agg [.rsl (rowStg s.stages) 0 s.stages.length, .rsl (rowI s.worth) 0 s.worth.length, .int .i64 s.price]] (.int .i64 (checkK s))) (o1 : ((checkK s) != 0) = true)
    (hr : AvLe (.tup [.int .i64 0, .int .i64 (checkK s)]) res) : G Try.prog E [.code (bodyAt Try.prog 44)] ⟨[.agg [.rsl (rowStg s.stages) 0 s.stages.length, .rsl (rowI s.worth) 0 s.worth.length, .int .i64 s.price], .rsl (rowI stock) 0 stock.length] ++ unds (Try.f44.ntmps - 2), []⟩ :=
  end_stepL (n := 400) (evs := [.v (.int .i64 (checkK s)), .b true]) (obs := [PureF Try.prog (.clos 19 [] []) [.agg [.rsl (rowStg s.stages) 0 s.stages.length, .rsl (rowI s.worth) 0 s.worth.length, .int .i64 s.price]] (.int .i64 (checkK s)), ((checkK s) != 0) = true]) hE Try.func44 mixed (by kernel_rfl) ⟨o0, o1, trivial⟩ hr
theorem p44_start_1 (s : Stl) (stock : (List Int))   {E : Env} {res : AV} (hE : PureE Try.prog 44 res E) (o0 : PureF Try.prog (.clos 19 [] []) [.agg [.rsl (rowStg s.stages) 0 s.stages.length, .rsl (rowI s.worth) 0 s.worth.length, .int .i64 s.price]] (.int .i64 (checkK s))) (o1 : ((checkK s) != 0) = false) (o2 : (((stock.length : Nat) : Int) != ((s.worth.length : Nat) : Int)) = true)
    (hr : AvLe (.tup [.int .i64 0, .int .i64 1]) res) : G Try.prog E [.code (bodyAt Try.prog 44)] ⟨[.agg [.rsl (rowStg s.stages) 0 s.stages.length, .rsl (rowI s.worth) 0 s.worth.length, .int .i64 s.price], .rsl (rowI stock) 0 stock.length] ++ unds (Try.f44.ntmps - 2), []⟩ :=
  end_stepL (n := 400) (evs := [.v (.int .i64 (checkK s)), .b false, .b true]) (obs := [PureF Try.prog (.clos 19 [] []) [.agg [.rsl (rowStg s.stages) 0 s.stages.length, .rsl (rowI s.worth) 0 s.worth.length, .int .i64 s.price]] (.int .i64 (checkK s)), ((checkK s) != 0) = false, (((stock.length : Nat) : Int) != ((s.worth.length : Nat) : Int)) = true]) hE Try.func44 mixed (by kernel_rfl) ⟨o0, o1, o2, trivial⟩ hr
theorem p44_start_2 (s : Stl) (stock : (List Int))   {E : Env} {rv : AV} (hE : PureE Try.prog 44 rv E) (o0 : PureF Try.prog (.clos 19 [] []) [.agg [.rsl (rowStg s.stages) 0 s.stages.length, .rsl (rowI s.worth) 0 s.worth.length, .int .i64 s.price]] (.int .i64 (checkK s))) (o1 : ((checkK s) != 0) = false) (o2 : (((stock.length : Nat) : Int) != ((s.worth.length : Nat) : Int)) = false)
    (hg : G Try.prog E (f44K0 Try.prog) ⟨[.junk, .rsl (rowI stock) 0 stock.length, .ptr 0 0 0, .junk, .junk, .junk, .junk, .int .i64 0, .junk, .junk, .junk, .junk, .junk, .junk, .junk, .junk, .junk, .junk, .junk, .junk, .junk, .junk, .junk, .junk, .junk, .junk, .junk, .junk, .junk, .junk, .junk, .junk, .junk, .junk, .junk, .junk, .junk, .junk, .junk, .junk, .junk, .junk, .junk, .junk, .junk, .junk, .junk, .junk, .junk, .junk, .junk, .junk, .junk, .junk, .junk, .junk, .junk, .junk, .junk, .junk, .junk, .junk, .junk, .junk, .junk, .junk, .junk, .junk, .junk, .junk, .junk, .junk, .junk, .junk, .junk, .junk, .junk, .junk, .junk, .junk, .junk, .junk, .junk], [⟨true, 0, 1, true, [.rsl (rowStg s.stages) 0 s.stages.length, .rsl (rowI s.worth) 0 s.worth.length, .int .i64 s.price], false⟩]⟩) : G Try.prog E [.code (bodyAt Try.prog 44)] ⟨[.agg [.rsl (rowStg s.stages) 0 s.stages.length, .rsl (rowI s.worth) 0 s.worth.length, .int .i64 s.price], .rsl (rowI stock) 0 stock.length] ++ unds (Try.f44.ntmps - 2), []⟩ :=
  segC_step (n := 400) (ds := []) (cs := []) (live := [1, 2, 7]) (m := 1) (evs := [.v (.int .i64 (checkK s)), .b false, .b false, .stop]) (obs := [PureF Try.prog (.clos 19 [] []) [.agg [.rsl (rowStg s.stages) 0 s.stages.length, .rsl (rowI s.worth) 0 s.worth.length, .int .i64 s.price]] (.int .i64 (checkK s)), ((checkK s) != 0) = false, (((stock.length : Nat) : Int) != ((s.worth.length : Nat) : Int)) = false]) hE.2.1 (hE.nogh _) mixed (by kernel_rfl) ⟨o0, o1, o2, trivial⟩ hg
theorem f44W (s : Stl) (stock : (List Int)) {E : Env} {rv : (Int × Int)} (hE : PureE Try.prog 44 (.tup [.int .i64 rv.1, .int .i64 rv.2]) E)
    (h : ((s.stages.length ≤ 9223372036854775807 ∧ s.worth.length ≤ 9223372036854775807) ∧ ((¬ ((checkK s) = 0) → rv = (0, (checkK s))) ∧ ((checkK s) = 0 → ((¬ (((stock.length : Nat) : Int) = ((s.worth.length : Nat) : Int)) → rv = (0, 1)) ∧ (((stock.length : Nat) : Int) = ((s.worth.length : Nat) : Int) → f44G0 E s stock 0)))))) : G Try.prog E [.code (bodyAt Try.prog 44)] ⟨[.agg [.rsl (rowStg s.stages) 0 s.stages.length, .rsl (rowI s.worth) 0 s.worth.length, .int .i64 s.price], .rsl (rowI stock) 0 stock.length] ++ unds (Try.f44.ntmps - 2), []⟩ := by
  obtain ⟨h1, h⟩ := h
  rcases Bool.eq_false_or_eq_true ((checkK s) != 0) with hc0 | hc0
  · have h := h.1 (bneT hc0)
    exact p44_start_0 s stock    hE (pureF_of Try.func19 (by kernel_rfl) f19b (checkR_ok s h1)) hc0 (AvLe.of_eq (by rw [h]; try rfl))
  · have h := h.2 (bneF hc0)
    rcases Bool.eq_false_or_eq_true (((stock.length : Nat) : Int) != ((s.worth.length : Nat) : Int)) with hc1 | hc1
    · have h := h.1 (bneT hc1)
      exact p44_start_1 s stock    hE (pureF_of Try.func19 (by kernel_rfl) f19b (checkR_ok s h1)) hc0 hc1 (AvLe.of_eq (by rw [h]; try rfl))
    · have h := h.2 (bneF hc1)
      exact p44_start_2 s stock    hE (pureF_of Try.func19 (by kernel_rfl) f19b (checkR_ok s h1)) hc0 hc1 h
theorem p44_0_0 (s : Stl) (stock : (List Int)) (i : Nat)  (e : Int)  {E : Env} {res : AV} (hE : PureE Try.prog 44 res E) (o0 : (decide (((i : Nat) : Int) < ((stock.length : Nat) : Int))) = true) (o2 : 0 ≤ ((i : Nat) : Int) ∧ ((i : Nat) : Int) < ((stock.length : Nat) : Int)) (o3 : ((rowI stock).drop (0 + (Int.toNat ((i : Nat) : Int)) * 1)).take 1 = [.int .i64 e]) (o4 : PureF Try.prog (.clos 62 [] []) [.int .i64 e, .int .i64 0, .int .i64 1000] (.bool (within e 0 1000))) (o5 : (!(within e 0 1000)) = true)
    (hr : AvLe (.tup [.int .i64 0, .int .i64 1]) res) : G Try.prog E (f44K0 Try.prog) (f44S0 s stock i ) :=
  end_stepL (n := 400) (evs := [.b true, .ld (.int .i64 e), .v (.bool (within e 0 1000)), .b true]) (obs := [(decide (((i : Nat) : Int) < ((stock.length : Nat) : Int))) = true, 0 ≤ ((i : Nat) : Int) ∧ ((i : Nat) : Int) < ((stock.length : Nat) : Int), ((rowI stock).drop (0 + (Int.toNat ((i : Nat) : Int)) * 1)).take 1 = [.int .i64 e], PureF Try.prog (.clos 62 [] []) [.int .i64 e, .int .i64 0, .int .i64 1000] (.bool (within e 0 1000)), (!(within e 0 1000)) = true]) hE Try.func44 mixed (by kernel_rfl) ⟨o0, o2, o3, o4, o5, trivial⟩ hr
theorem p44_0_1 (s : Stl) (stock : (List Int)) (i : Nat)  (e : Int)  {E : Env} {rv : AV} (hE : PureE Try.prog 44 rv E) (o0 : (decide (((i : Nat) : Int) < ((stock.length : Nat) : Int))) = true) (o2 : 0 ≤ ((i : Nat) : Int) ∧ ((i : Nat) : Int) < ((stock.length : Nat) : Int)) (o3 : ((rowI stock).drop (0 + (Int.toNat ((i : Nat) : Int)) * 1)).take 1 = [.int .i64 e]) (o4 : PureF Try.prog (.clos 62 [] []) [.int .i64 e, .int .i64 0, .int .i64 1000] (.bool (within e 0 1000))) (o5 : (!(within e 0 1000)) = false) (o6 : InR .i64 (((i : Nat) : Int) + 1))
    (hg : G Try.prog E (f44K0 Try.prog) ⟨[.junk, .rsl (rowI stock) 0 stock.length, .ptr 0 0 0, .junk, .junk, .junk, .junk, .int .i64 (((i : Nat) : Int) + 1), .junk, .junk, .junk, .junk, .junk, .junk, .junk, .junk, .junk, .junk, .junk, .junk, .junk, .junk, .junk, .junk, .junk, .junk, .junk, .junk, .junk, .junk, .junk, .junk, .junk, .junk, .junk, .junk, .junk, .junk, .junk, .junk, .junk, .junk, .junk, .junk, .junk, .junk, .junk, .junk, .junk, .junk, .junk, .junk, .junk, .junk, .junk, .junk, .junk, .junk, .junk, .junk, .junk, .junk, .junk, .junk, .junk, .junk, .junk, .junk, .junk, .junk, .junk, .junk, .junk, .junk, .junk, .junk, .junk, .junk, .junk, .junk, .junk, .junk, .junk], [⟨true, 0, 1, true, [.rsl (rowStg s.stages) 0 s.stages.length, .rsl (rowI s.worth) 0 s.worth.length, .int .i64 s.price], false⟩]⟩) : G Try.prog E (f44K0 Try.prog) (f44S0 s stock i ) :=
  segC_step (n := 400) (ds := []) (cs := []) (live := [1, 2, 7]) (m := 1) (evs := [.b true, .ld (.int .i64 e), .v (.bool (within e 0 1000)), .b false, .stop]) (obs := [(decide (((i : Nat) : Int) < ((stock.length : Nat) : Int))) = true, 0 ≤ ((i : Nat) : Int) ∧ ((i : Nat) : Int) < ((stock.length : Nat) : Int), ((rowI stock).drop (0 + (Int.toNat ((i : Nat) : Int)) * 1)).take 1 = [.int .i64 e], PureF Try.prog (.clos 62 [] []) [.int .i64 e, .int .i64 0, .int .i64 1000] (.bool (within e 0 1000)), (!(within e 0 1000)) = false, InR .i64 (((i : Nat) : Int) + 1)]) hE.2.1 (hE.nogh _) mixed (by kernel_rfl) ⟨o0, o2, o3, o4, o5, o6, trivial⟩ hg
theorem p44_0_2 (s : Stl) (stock : (List Int)) (i : Nat)   {E : Env} {rv : AV} (hE : PureE Try.prog 44 rv E) (o0 : (decide (((i : Nat) : Int) < ((stock.length : Nat) : Int))) = false) (o1 : PureF Try.prog (.clos 60 [] []) [.agg [.rsl (rowStg s.stages) 0 s.stages.length, .rsl (rowI s.worth) 0 s.worth.length, .int .i64 s.price]] (.rsl (rowB (reachI s)) 0 ((reachI s).length)))
    (hg : G Try.prog E (f44K1 Try.prog) ⟨[.junk, .rsl (rowI stock) 0 stock.length, .ptr 0 0 0, .junk, .junk, .junk, .junk, .junk, .int .i64 (-1), .rsl (rowB (reachI s)) 0 ((reachI s).length), .int .i64 0, .junk, .junk, .junk, .junk, .junk, .junk, .junk, .junk, .junk, .junk, .junk, .junk, .junk, .junk, .junk, .junk, .junk, .junk, .junk, .junk, .junk, .junk, .junk, .junk, .junk, .junk, .junk, .junk, .junk, .junk, .junk, .junk, .junk, .junk, .junk, .junk, .junk, .junk, .junk, .junk, .junk, .junk, .junk, .junk, .junk, .junk, .junk, .junk, .junk, .junk, .junk, .junk, .junk, .junk, .junk, .junk, .junk, .junk, .junk, .junk, .junk, .junk, .junk, .junk, .junk, .junk, .junk, .junk, .junk, .junk, .junk, .junk], [⟨true, 0, 1, true, [.rsl (rowStg s.stages) 0 s.stages.length, .rsl (rowI s.worth) 0 s.worth.length, .int .i64 s.price], false⟩]⟩) : G Try.prog E (f44K0 Try.prog) (f44S0 s stock i ) :=
  segC_step (n := 400) (ds := []) (cs := []) (live := [1, 2, 8, 9, 10]) (m := 1) (evs := [.b false, .v (.rsl (rowB (reachI s)) 0 ((reachI s).length)), .stop]) (obs := [(decide (((i : Nat) : Int) < ((stock.length : Nat) : Int))) = false, PureF Try.prog (.clos 60 [] []) [.agg [.rsl (rowStg s.stages) 0 s.stages.length, .rsl (rowI s.worth) 0 s.worth.length, .int .i64 s.price]] (.rsl (rowB (reachI s)) 0 ((reachI s).length))]) hE.2.1 (hE.nogh _) mixed (by kernel_rfl) ⟨o0, o1, trivial⟩ hg
theorem f44W0 (s : Stl) (stock : (List Int)) (i : Nat) {E : Env} {rv : (Int × Int)} (hE : PureE Try.prog 44 (.tup [.int .i64 rv.1, .int .i64 rv.2]) E)
    (h : ((((i : Nat) : Int) < ((stock.length : Nat) : Int) → (∃ e : Int, stock[i]? = some e ∧ (((within e 0 1000) = false → rv = (0, 1)) ∧ ((within e 0 1000) = true → ((-9223372036854775808 ≤ ((i : Nat) : Int) + 1 ∧ ((i : Nat) : Int) + 1 ≤ 9223372036854775807) ∧ f44G0 E s stock (i + 1)))))) ∧ (¬ (((i : Nat) : Int) < ((stock.length : Nat) : Int)) → ((checkK s = 0) ∧ f44G1 E s stock (-1) 0)))) : f44G0 E s stock i := by
  rcases Bool.eq_false_or_eq_true (decide (((i : Nat) : Int) < ((stock.length : Nat) : Int))) with hc0 | hc0
  · have h := h.1 (of_decide_eq_true hc0)
    obtain ⟨e, h1, h⟩ := h
    rcases Bool.eq_false_or_eq_true (!(within e 0 1000)) with hc1 | hc1
    · have h := h.1 (bnT hc1)
      exact p44_0_0 s stock i  e hE hc0 (idx_ok h1) (row_part cI (s := 1) (k := 0) (m := 1) (fun _ => rfl) (by decide) h1) (pureF_of Try.func62 (by kernel_rfl) f62b (withinR_ok e 0 1000)) hc1 (AvLe.of_eq (by rw [h]; try rfl))
    · have h := h.2 (bnF hc1)
      obtain ⟨q6_2, h⟩ := h
      exact p44_0_1 s stock i  e hE hc0 (idx_ok h1) (row_part cI (s := 1) (k := 0) (m := 1) (fun _ => rfl) (by decide) h1) (pureF_of Try.func62 (by kernel_rfl) f62b (withinR_ok e 0 1000)) hc1 q6_2 h
  · have h := h.2 (of_decide_eq_false hc0)
    obtain ⟨h1, h⟩ := h
    exact p44_0_2 s stock i   hE hc0 (pureF_of Try.func60 (by kernel_rfl) f60b (reached_ok s h1)) h
theorem p44_1_0 (s : Stl) (stock : (List Int)) (least : Int) (i : Nat)  (se : Stg) (eb : Bool) (e : Int)  {E : Env} {rv : AV} (hE : PureE Try.prog 44 rv E) (o0 : (decide (((i : Nat) : Int) < (((reachI s).length : Nat) : Int))) = true) (o2 : 0 ≤ ((i : Nat) : Int) ∧ ((i : Nat) : Int) < ((s.stages.length : Nat) : Int)) (o3 : ((rowStg s.stages).drop (0 + (Int.toNat ((i : Nat) : Int)) * 3)).take 3 = [.int .i64 se.kind, .int .i64 se.prize, .rsl (rowTrn se.turns) 0 se.turns.length]) (o6 : 0 ≤ ((i : Nat) : Int) ∧ ((i : Nat) : Int) < (((reachI s).length : Nat) : Int)) (o7 : ((rowB (reachI s)).drop (0 + (Int.toNat ((i : Nat) : Int)) * 1)).take 1 = [.bool eb]) (o8 : eb = true) (o9 : (se.kind == 4) = true) (o10 : (decide (se.prize ≥ 0)) = true) (o11 : (decide (least < 0)) = true) (o14 : 0 ≤ se.prize ∧ se.prize < ((stock.length : Nat) : Int)) (o15 : ((rowI stock).drop (0 + (Int.toNat se.prize) * 1)).take 1 = [.int .i64 e]) (o16 : InR .i64 (((i : Nat) : Int) + 1))
    (hg : G Try.prog E (f44K1 Try.prog) ⟨[.junk, .rsl (rowI stock) 0 stock.length, .ptr 0 0 0, .junk, .junk, .junk, .junk, .junk, .int .i64 e, .rsl (rowB (reachI s)) 0 ((reachI s).length), .int .i64 (((i : Nat) : Int) + 1), .junk, .junk, .junk, .junk, .junk, .junk, .junk, .junk, .junk, .junk, .junk, .junk, .junk, .junk, .junk, .junk, .junk, .junk, .junk, .junk, .junk, .junk, .junk, .junk, .junk, .junk, .junk, .junk, .junk, .junk, .junk, .junk, .junk, .junk, .junk, .junk, .junk, .junk, .junk, .junk, .junk, .junk, .junk, .junk, .junk, .junk, .junk, .junk, .junk, .junk, .junk, .junk, .junk, .junk, .junk, .junk, .junk, .junk, .junk, .junk, .junk, .junk, .junk, .junk, .junk, .junk, .junk, .junk, .junk, .junk, .junk, .junk], [⟨true, 0, 1, true, [.rsl (rowStg s.stages) 0 s.stages.length, .rsl (rowI s.worth) 0 s.worth.length, .int .i64 s.price], false⟩]⟩) : G Try.prog E (f44K1 Try.prog) (f44S1 s stock least i ) :=
  segC_step (n := 400) (ds := []) (cs := []) (live := [1, 2, 8, 9, 10]) (m := 1) (evs := [.b true, .auto, .ld (.agg [.int .i64 se.kind, .int .i64 se.prize, .rsl (rowTrn se.turns) 0 se.turns.length]), .ld (.bool eb), .b true, .b true, .b true, .b true, .b true, .auto, .ld (.int .i64 e), .stop]) (obs := [(decide (((i : Nat) : Int) < (((reachI s).length : Nat) : Int))) = true, 0 ≤ ((i : Nat) : Int) ∧ ((i : Nat) : Int) < ((s.stages.length : Nat) : Int), ((rowStg s.stages).drop (0 + (Int.toNat ((i : Nat) : Int)) * 3)).take 3 = [.int .i64 se.kind, .int .i64 se.prize, .rsl (rowTrn se.turns) 0 se.turns.length], 3 ≤ 3, 0 ≤ ((i : Nat) : Int) ∧ ((i : Nat) : Int) < (((reachI s).length : Nat) : Int), ((rowB (reachI s)).drop (0 + (Int.toNat ((i : Nat) : Int)) * 1)).take 1 = [.bool eb], eb = true, (se.kind == 4) = true, (decide (se.prize ≥ 0)) = true, (decide (least < 0)) = true, true = true, 0 ≤ se.prize ∧ se.prize < ((stock.length : Nat) : Int), ((rowI stock).drop (0 + (Int.toNat se.prize) * 1)).take 1 = [.int .i64 e], InR .i64 (((i : Nat) : Int) + 1)]) hE.2.1 (hE.nogh _) mixed (by kernel_rfl) ⟨o0, o2, o3, (by decide), o6, o7, o8, o9, o10, o11, (rfl), o14, o15, o16, trivial⟩ hg
theorem p44_1_1 (s : Stl) (stock : (List Int)) (least : Int) (i : Nat)  (se : Stg) (eb : Bool) (e : Int)  {E : Env} {rv : AV} (hE : PureE Try.prog 44 rv E) (o0 : (decide (((i : Nat) : Int) < (((reachI s).length : Nat) : Int))) = true) (o2 : 0 ≤ ((i : Nat) : Int) ∧ ((i : Nat) : Int) < ((s.stages.length : Nat) : Int)) (o3 : ((rowStg s.stages).drop (0 + (Int.toNat ((i : Nat) : Int)) * 3)).take 3 = [.int .i64 se.kind, .int .i64 se.prize, .rsl (rowTrn se.turns) 0 se.turns.length]) (o6 : 0 ≤ ((i : Nat) : Int) ∧ ((i : Nat) : Int) < (((reachI s).length : Nat) : Int)) (o7 : ((rowB (reachI s)).drop (0 + (Int.toNat ((i : Nat) : Int)) * 1)).take 1 = [.bool eb]) (o8 : eb = true) (o9 : (se.kind == 4) = true) (o10 : (decide (se.prize ≥ 0)) = true) (o11 : (decide (least < 0)) = false) (o13 : 0 ≤ se.prize ∧ se.prize < ((stock.length : Nat) : Int)) (o14 : ((rowI stock).drop (0 + (Int.toNat se.prize) * 1)).take 1 = [.int .i64 e]) (o15 : (decide (e < least)) = true) (o16 : 0 ≤ se.prize ∧ se.prize < ((stock.length : Nat) : Int)) (o17 : ((rowI stock).drop (0 + (Int.toNat se.prize) * 1)).take 1 = [.int .i64 e]) (o18 : InR .i64 (((i : Nat) : Int) + 1))
    (hg : G Try.prog E (f44K1 Try.prog) ⟨[.junk, .rsl (rowI stock) 0 stock.length, .ptr 0 0 0, .junk, .junk, .junk, .junk, .junk, .int .i64 e, .rsl (rowB (reachI s)) 0 ((reachI s).length), .int .i64 (((i : Nat) : Int) + 1), .junk, .junk, .junk, .junk, .junk, .junk, .junk, .junk, .junk, .junk, .junk, .junk, .junk, .junk, .junk, .junk, .junk, .junk, .junk, .junk, .junk, .junk, .junk, .junk, .junk, .junk, .junk, .junk, .junk, .junk, .junk, .junk, .junk, .junk, .junk, .junk, .junk, .junk, .junk, .junk, .junk, .junk, .junk, .junk, .junk, .junk, .junk, .junk, .junk, .junk, .junk, .junk, .junk, .junk, .junk, .junk, .junk, .junk, .junk, .junk, .junk, .junk, .junk, .junk, .junk, .junk, .junk, .junk, .junk, .junk, .junk, .junk], [⟨true, 0, 1, true, [.rsl (rowStg s.stages) 0 s.stages.length, .rsl (rowI s.worth) 0 s.worth.length, .int .i64 s.price], false⟩]⟩) : G Try.prog E (f44K1 Try.prog) (f44S1 s stock least i ) :=
  segC_step (n := 400) (ds := []) (cs := []) (live := [1, 2, 8, 9, 10]) (m := 1) (evs := [.b true, .auto, .ld (.agg [.int .i64 se.kind, .int .i64 se.prize, .rsl (rowTrn se.turns) 0 se.turns.length]), .ld (.bool eb), .b true, .b true, .b true, .b false, .auto, .ld (.int .i64 e), .b true, .auto, .ld (.int .i64 e), .stop]) (obs := [(decide (((i : Nat) : Int) < (((reachI s).length : Nat) : Int))) = true, 0 ≤ ((i : Nat) : Int) ∧ ((i : Nat) : Int) < ((s.stages.length : Nat) : Int), ((rowStg s.stages).drop (0 + (Int.toNat ((i : Nat) : Int)) * 3)).take 3 = [.int .i64 se.kind, .int .i64 se.prize, .rsl (rowTrn se.turns) 0 se.turns.length], 3 ≤ 3, 0 ≤ ((i : Nat) : Int) ∧ ((i : Nat) : Int) < (((reachI s).length : Nat) : Int), ((rowB (reachI s)).drop (0 + (Int.toNat ((i : Nat) : Int)) * 1)).take 1 = [.bool eb], eb = true, (se.kind == 4) = true, (decide (se.prize ≥ 0)) = true, (decide (least < 0)) = false, 0 ≤ se.prize ∧ se.prize < ((stock.length : Nat) : Int), ((rowI stock).drop (0 + (Int.toNat se.prize) * 1)).take 1 = [.int .i64 e], (decide (e < least)) = true, 0 ≤ se.prize ∧ se.prize < ((stock.length : Nat) : Int), ((rowI stock).drop (0 + (Int.toNat se.prize) * 1)).take 1 = [.int .i64 e], InR .i64 (((i : Nat) : Int) + 1)]) hE.2.1 (hE.nogh _) mixed (by kernel_rfl) ⟨o0, o2, o3, (by decide), o6, o7, o8, o9, o10, o11, o13, o14, o15, o16, o17, o18, trivial⟩ hg
theorem p44_1_2 (s : Stl) (stock : (List Int)) (least : Int) (i : Nat)  (se : Stg) (eb : Bool) (e : Int)  {E : Env} {rv : AV} (hE : PureE Try.prog 44 rv E) (o0 : (decide (((i : Nat) : Int) < (((reachI s).length : Nat) : Int))) = true) (o2 : 0 ≤ ((i : Nat) : Int) ∧ ((i : Nat) : Int) < ((s.stages.length : Nat) : Int)) (o3 : ((rowStg s.stages).drop (0 + (Int.toNat ((i : Nat) : Int)) * 3)).take 3 = [.int .i64 se.kind, .int .i64 se.prize, .rsl (rowTrn se.turns) 0 se.turns.length]) (o6 : 0 ≤ ((i : Nat) : Int) ∧ ((i : Nat) : Int) < (((reachI s).length : Nat) : Int)) (o7 : ((rowB (reachI s)).drop (0 + (Int.toNat ((i : Nat) : Int)) * 1)).take 1 = [.bool eb]) (o8 : eb = true) (o9 : (se.kind == 4) = true) (o10 : (decide (se.prize ≥ 0)) = true) (o11 : (decide (least < 0)) = false) (o13 : 0 ≤ se.prize ∧ se.prize < ((stock.length : Nat) : Int)) (o14 : ((rowI stock).drop (0 + (Int.toNat se.prize) * 1)).take 1 = [.int .i64 e]) (o15 : (decide (e < least)) = false) (o16 : InR .i64 (((i : Nat) : Int) + 1))
    (hg : G Try.prog E (f44K1 Try.prog) ⟨[.junk, .rsl (rowI stock) 0 stock.length, .ptr 0 0 0, .junk, .junk, .junk, .junk, .junk, .int .i64 least, .rsl (rowB (reachI s)) 0 ((reachI s).length), .int .i64 (((i : Nat) : Int) + 1), .junk, .junk, .junk, .junk, .junk, .junk, .junk, .junk, .junk, .junk, .junk, .junk, .junk, .junk, .junk, .junk, .junk, .junk, .junk, .junk, .junk, .junk, .junk, .junk, .junk, .junk, .junk, .junk, .junk, .junk, .junk, .junk, .junk, .junk, .junk, .junk, .junk, .junk, .junk, .junk, .junk, .junk, .junk, .junk, .junk, .junk, .junk, .junk, .junk, .junk, .junk, .junk, .junk, .junk, .junk, .junk, .junk, .junk, .junk, .junk, .junk, .junk, .junk, .junk, .junk, .junk, .junk, .junk, .junk, .junk, .junk, .junk], [⟨true, 0, 1, true, [.rsl (rowStg s.stages) 0 s.stages.length, .rsl (rowI s.worth) 0 s.worth.length, .int .i64 s.price], false⟩]⟩) : G Try.prog E (f44K1 Try.prog) (f44S1 s stock least i ) :=
  segC_step (n := 400) (ds := []) (cs := []) (live := [1, 2, 8, 9, 10]) (m := 1) (evs := [.b true, .auto, .ld (.agg [.int .i64 se.kind, .int .i64 se.prize, .rsl (rowTrn se.turns) 0 se.turns.length]), .ld (.bool eb), .b true, .b true, .b true, .b false, .auto, .ld (.int .i64 e), .b false, .stop]) (obs := [(decide (((i : Nat) : Int) < (((reachI s).length : Nat) : Int))) = true, 0 ≤ ((i : Nat) : Int) ∧ ((i : Nat) : Int) < ((s.stages.length : Nat) : Int), ((rowStg s.stages).drop (0 + (Int.toNat ((i : Nat) : Int)) * 3)).take 3 = [.int .i64 se.kind, .int .i64 se.prize, .rsl (rowTrn se.turns) 0 se.turns.length], 3 ≤ 3, 0 ≤ ((i : Nat) : Int) ∧ ((i : Nat) : Int) < (((reachI s).length : Nat) : Int), ((rowB (reachI s)).drop (0 + (Int.toNat ((i : Nat) : Int)) * 1)).take 1 = [.bool eb], eb = true, (se.kind == 4) = true, (decide (se.prize ≥ 0)) = true, (decide (least < 0)) = false, 0 ≤ se.prize ∧ se.prize < ((stock.length : Nat) : Int), ((rowI stock).drop (0 + (Int.toNat se.prize) * 1)).take 1 = [.int .i64 e], (decide (e < least)) = false, InR .i64 (((i : Nat) : Int) + 1)]) hE.2.1 (hE.nogh _) mixed (by kernel_rfl) ⟨o0, o2, o3, (by decide), o6, o7, o8, o9, o10, o11, o13, o14, o15, o16, trivial⟩ hg
theorem p44_1_3 (s : Stl) (stock : (List Int)) (least : Int) (i : Nat)  (se : Stg) (eb : Bool)  {E : Env} {rv : AV} (hE : PureE Try.prog 44 rv E) (o0 : (decide (((i : Nat) : Int) < (((reachI s).length : Nat) : Int))) = true) (o2 : 0 ≤ ((i : Nat) : Int) ∧ ((i : Nat) : Int) < ((s.stages.length : Nat) : Int)) (o3 : ((rowStg s.stages).drop (0 + (Int.toNat ((i : Nat) : Int)) * 3)).take 3 = [.int .i64 se.kind, .int .i64 se.prize, .rsl (rowTrn se.turns) 0 se.turns.length]) (o6 : 0 ≤ ((i : Nat) : Int) ∧ ((i : Nat) : Int) < (((reachI s).length : Nat) : Int)) (o7 : ((rowB (reachI s)).drop (0 + (Int.toNat ((i : Nat) : Int)) * 1)).take 1 = [.bool eb]) (o8 : eb = true) (o9 : (se.kind == 4) = true) (o10 : (decide (se.prize ≥ 0)) = false) (o12 : InR .i64 (((i : Nat) : Int) + 1))
    (hg : G Try.prog E (f44K1 Try.prog) ⟨[.junk, .rsl (rowI stock) 0 stock.length, .ptr 0 0 0, .junk, .junk, .junk, .junk, .junk, .int .i64 least, .rsl (rowB (reachI s)) 0 ((reachI s).length), .int .i64 (((i : Nat) : Int) + 1), .junk, .junk, .junk, .junk, .junk, .junk, .junk, .junk, .junk, .junk, .junk, .junk, .junk, .junk, .junk, .junk, .junk, .junk, .junk, .junk, .junk, .junk, .junk, .junk, .junk, .junk, .junk, .junk, .junk, .junk, .junk, .junk, .junk, .junk, .junk, .junk, .junk, .junk, .junk, .junk, .junk, .junk, .junk, .junk, .junk, .junk, .junk, .junk, .junk, .junk, .junk, .junk, .junk, .junk, .junk, .junk, .junk, .junk, .junk, .junk, .junk, .junk, .junk, .junk, .junk, .junk, .junk, .junk, .junk, .junk, .junk, .junk], [⟨true, 0, 1, true, [.rsl (rowStg s.stages) 0 s.stages.length, .rsl (rowI s.worth) 0 s.worth.length, .int .i64 s.price], false⟩]⟩) : G Try.prog E (f44K1 Try.prog) (f44S1 s stock least i ) :=
  segC_step (n := 400) (ds := []) (cs := []) (live := [1, 2, 8, 9, 10]) (m := 1) (evs := [.b true, .auto, .ld (.agg [.int .i64 se.kind, .int .i64 se.prize, .rsl (rowTrn se.turns) 0 se.turns.length]), .ld (.bool eb), .b true, .b true, .b false, .b false, .stop]) (obs := [(decide (((i : Nat) : Int) < (((reachI s).length : Nat) : Int))) = true, 0 ≤ ((i : Nat) : Int) ∧ ((i : Nat) : Int) < ((s.stages.length : Nat) : Int), ((rowStg s.stages).drop (0 + (Int.toNat ((i : Nat) : Int)) * 3)).take 3 = [.int .i64 se.kind, .int .i64 se.prize, .rsl (rowTrn se.turns) 0 se.turns.length], 3 ≤ 3, 0 ≤ ((i : Nat) : Int) ∧ ((i : Nat) : Int) < (((reachI s).length : Nat) : Int), ((rowB (reachI s)).drop (0 + (Int.toNat ((i : Nat) : Int)) * 1)).take 1 = [.bool eb], eb = true, (se.kind == 4) = true, (decide (se.prize ≥ 0)) = false, false = false, InR .i64 (((i : Nat) : Int) + 1)]) hE.2.1 (hE.nogh _) mixed (by kernel_rfl) ⟨o0, o2, o3, (by decide), o6, o7, o8, o9, o10, (rfl), o12, trivial⟩ hg
theorem p44_1_4 (s : Stl) (stock : (List Int)) (least : Int) (i : Nat)  (se : Stg) (eb : Bool)  {E : Env} {rv : AV} (hE : PureE Try.prog 44 rv E) (o0 : (decide (((i : Nat) : Int) < (((reachI s).length : Nat) : Int))) = true) (o2 : 0 ≤ ((i : Nat) : Int) ∧ ((i : Nat) : Int) < ((s.stages.length : Nat) : Int)) (o3 : ((rowStg s.stages).drop (0 + (Int.toNat ((i : Nat) : Int)) * 3)).take 3 = [.int .i64 se.kind, .int .i64 se.prize, .rsl (rowTrn se.turns) 0 se.turns.length]) (o6 : 0 ≤ ((i : Nat) : Int) ∧ ((i : Nat) : Int) < (((reachI s).length : Nat) : Int)) (o7 : ((rowB (reachI s)).drop (0 + (Int.toNat ((i : Nat) : Int)) * 1)).take 1 = [.bool eb]) (o8 : eb = true) (o9 : (se.kind == 4) = false) (o12 : InR .i64 (((i : Nat) : Int) + 1))
    (hg : G Try.prog E (f44K1 Try.prog) ⟨[.junk, .rsl (rowI stock) 0 stock.length, .ptr 0 0 0, .junk, .junk, .junk, .junk, .junk, .int .i64 least, .rsl (rowB (reachI s)) 0 ((reachI s).length), .int .i64 (((i : Nat) : Int) + 1), .junk, .junk, .junk, .junk, .junk, .junk, .junk, .junk, .junk, .junk, .junk, .junk, .junk, .junk, .junk, .junk, .junk, .junk, .junk, .junk, .junk, .junk, .junk, .junk, .junk, .junk, .junk, .junk, .junk, .junk, .junk, .junk, .junk, .junk, .junk, .junk, .junk, .junk, .junk, .junk, .junk, .junk, .junk, .junk, .junk, .junk, .junk, .junk, .junk, .junk, .junk, .junk, .junk, .junk, .junk, .junk, .junk, .junk, .junk, .junk, .junk, .junk, .junk, .junk, .junk, .junk, .junk, .junk, .junk, .junk, .junk, .junk], [⟨true, 0, 1, true, [.rsl (rowStg s.stages) 0 s.stages.length, .rsl (rowI s.worth) 0 s.worth.length, .int .i64 s.price], false⟩]⟩) : G Try.prog E (f44K1 Try.prog) (f44S1 s stock least i ) :=
  segC_step (n := 400) (ds := []) (cs := []) (live := [1, 2, 8, 9, 10]) (m := 1) (evs := [.b true, .auto, .ld (.agg [.int .i64 se.kind, .int .i64 se.prize, .rsl (rowTrn se.turns) 0 se.turns.length]), .ld (.bool eb), .b true, .b false, .b false, .b false, .stop]) (obs := [(decide (((i : Nat) : Int) < (((reachI s).length : Nat) : Int))) = true, 0 ≤ ((i : Nat) : Int) ∧ ((i : Nat) : Int) < ((s.stages.length : Nat) : Int), ((rowStg s.stages).drop (0 + (Int.toNat ((i : Nat) : Int)) * 3)).take 3 = [.int .i64 se.kind, .int .i64 se.prize, .rsl (rowTrn se.turns) 0 se.turns.length], 3 ≤ 3, 0 ≤ ((i : Nat) : Int) ∧ ((i : Nat) : Int) < (((reachI s).length : Nat) : Int), ((rowB (reachI s)).drop (0 + (Int.toNat ((i : Nat) : Int)) * 1)).take 1 = [.bool eb], eb = true, (se.kind == 4) = false, false = false, false = false, InR .i64 (((i : Nat) : Int) + 1)]) hE.2.1 (hE.nogh _) mixed (by kernel_rfl) ⟨o0, o2, o3, (by decide), o6, o7, o8, o9, (rfl), (rfl), o12, trivial⟩ hg
theorem p44_1_5 (s : Stl) (stock : (List Int)) (least : Int) (i : Nat)  (se : Stg) (eb : Bool)  {E : Env} {rv : AV} (hE : PureE Try.prog 44 rv E) (o0 : (decide (((i : Nat) : Int) < (((reachI s).length : Nat) : Int))) = true) (o2 : 0 ≤ ((i : Nat) : Int) ∧ ((i : Nat) : Int) < ((s.stages.length : Nat) : Int)) (o3 : ((rowStg s.stages).drop (0 + (Int.toNat ((i : Nat) : Int)) * 3)).take 3 = [.int .i64 se.kind, .int .i64 se.prize, .rsl (rowTrn se.turns) 0 se.turns.length]) (o6 : 0 ≤ ((i : Nat) : Int) ∧ ((i : Nat) : Int) < (((reachI s).length : Nat) : Int)) (o7 : ((rowB (reachI s)).drop (0 + (Int.toNat ((i : Nat) : Int)) * 1)).take 1 = [.bool eb]) (o8 : eb = false) (o12 : InR .i64 (((i : Nat) : Int) + 1))
    (hg : G Try.prog E (f44K1 Try.prog) ⟨[.junk, .rsl (rowI stock) 0 stock.length, .ptr 0 0 0, .junk, .junk, .junk, .junk, .junk, .int .i64 least, .rsl (rowB (reachI s)) 0 ((reachI s).length), .int .i64 (((i : Nat) : Int) + 1), .junk, .junk, .junk, .junk, .junk, .junk, .junk, .junk, .junk, .junk, .junk, .junk, .junk, .junk, .junk, .junk, .junk, .junk, .junk, .junk, .junk, .junk, .junk, .junk, .junk, .junk, .junk, .junk, .junk, .junk, .junk, .junk, .junk, .junk, .junk, .junk, .junk, .junk, .junk, .junk, .junk, .junk, .junk, .junk, .junk, .junk, .junk, .junk, .junk, .junk, .junk, .junk, .junk, .junk, .junk, .junk, .junk, .junk, .junk, .junk, .junk, .junk, .junk, .junk, .junk, .junk, .junk, .junk, .junk, .junk, .junk, .junk], [⟨true, 0, 1, true, [.rsl (rowStg s.stages) 0 s.stages.length, .rsl (rowI s.worth) 0 s.worth.length, .int .i64 s.price], false⟩]⟩) : G Try.prog E (f44K1 Try.prog) (f44S1 s stock least i ) :=
  segC_step (n := 400) (ds := []) (cs := []) (live := [1, 2, 8, 9, 10]) (m := 1) (evs := [.b true, .auto, .ld (.agg [.int .i64 se.kind, .int .i64 se.prize, .rsl (rowTrn se.turns) 0 se.turns.length]), .ld (.bool eb), .b false, .b false, .b false, .b false, .stop]) (obs := [(decide (((i : Nat) : Int) < (((reachI s).length : Nat) : Int))) = true, 0 ≤ ((i : Nat) : Int) ∧ ((i : Nat) : Int) < ((s.stages.length : Nat) : Int), ((rowStg s.stages).drop (0 + (Int.toNat ((i : Nat) : Int)) * 3)).take 3 = [.int .i64 se.kind, .int .i64 se.prize, .rsl (rowTrn se.turns) 0 se.turns.length], 3 ≤ 3, 0 ≤ ((i : Nat) : Int) ∧ ((i : Nat) : Int) < (((reachI s).length : Nat) : Int), ((rowB (reachI s)).drop (0 + (Int.toNat ((i : Nat) : Int)) * 1)).take 1 = [.bool eb], eb = false, false = false, false = false, false = false, InR .i64 (((i : Nat) : Int) + 1)]) hE.2.1 (hE.nogh _) mixed (by kernel_rfl) ⟨o0, o2, o3, (by decide), o6, o7, o8, (rfl), (rfl), (rfl), o12, trivial⟩ hg
theorem p44_1_6 (s : Stl) (stock : (List Int)) (least : Int) (i : Nat)   {E : Env} {res : AV} (hE : PureE Try.prog 44 res E) (o0 : (decide (((i : Nat) : Int) < (((reachI s).length : Nat) : Int))) = false) (o1 : (decide (least < 0)) = true)
    (hr : AvLe (.tup [.int .i64 0, .int .i64 3]) res) : G Try.prog E (f44K1 Try.prog) (f44S1 s stock least i ) :=
  end_stepL (n := 400) (evs := [.b false, .b true]) (obs := [(decide (((i : Nat) : Int) < (((reachI s).length : Nat) : Int))) = false, (decide (least < 0)) = true]) hE Try.func44 mixed (by kernel_rfl) ⟨o0, o1, trivial⟩ hr
theorem p44_1_7 (s : Stl) (stock : (List Int)) (least : Int) (i : Nat)   {E : Env} {res : AV} (hE : PureE Try.prog 44 res E) (o0 : (decide (((i : Nat) : Int) < (((reachI s).length : Nat) : Int))) = false) (o1 : (decide (least < 0)) = false)
    (hr : AvLe (.tup [.int .i64 least, .int .i64 0]) res) : G Try.prog E (f44K1 Try.prog) (f44S1 s stock least i ) :=
  end_stepL (n := 400) (evs := [.b false, .b false]) (obs := [(decide (((i : Nat) : Int) < (((reachI s).length : Nat) : Int))) = false, (decide (least < 0)) = false]) hE Try.func44 mixed (by kernel_rfl) ⟨o0, o1, trivial⟩ hr
theorem f44W1 (s : Stl) (stock : (List Int)) (least : Int) (i : Nat) {E : Env} {rv : (Int × Int)} (hE : PureE Try.prog 44 (.tup [.int .i64 rv.1, .int .i64 rv.2]) E)
    (h : ((((i : Nat) : Int) < (((reachI s).length : Nat) : Int) → (∃ se : Stg, s.stages[i]? = some se ∧ (∃ eb : Bool, (reachI s)[i]? = some eb ∧ ((eb = true → ((se.kind = 4 → ((se.prize ≥ 0 → ((least < 0 → (0 ≤ se.prize ∧ (∃ e : Int, stock[Int.toNat se.prize]? = some e ∧ ((-9223372036854775808 ≤ ((i : Nat) : Int) + 1 ∧ ((i : Nat) : Int) + 1 ≤ 9223372036854775807) ∧ f44G1 E s stock e (i + 1))))) ∧ (¬ (least < 0) → (0 ≤ se.prize ∧ (∃ e : Int, stock[Int.toNat se.prize]? = some e ∧ ((e < least → ((-9223372036854775808 ≤ ((i : Nat) : Int) + 1 ∧ ((i : Nat) : Int) + 1 ≤ 9223372036854775807) ∧ f44G1 E s stock e (i + 1))) ∧ (¬ (e < least) → ((-9223372036854775808 ≤ ((i : Nat) : Int) + 1 ∧ ((i : Nat) : Int) + 1 ≤ 9223372036854775807) ∧ f44G1 E s stock least (i + 1))))))))) ∧ (¬ (se.prize ≥ 0) → ((-9223372036854775808 ≤ ((i : Nat) : Int) + 1 ∧ ((i : Nat) : Int) + 1 ≤ 9223372036854775807) ∧ f44G1 E s stock least (i + 1))))) ∧ (¬ (se.kind = 4) → ((-9223372036854775808 ≤ ((i : Nat) : Int) + 1 ∧ ((i : Nat) : Int) + 1 ≤ 9223372036854775807) ∧ f44G1 E s stock least (i + 1))))) ∧ (eb = false → ((-9223372036854775808 ≤ ((i : Nat) : Int) + 1 ∧ ((i : Nat) : Int) + 1 ≤ 9223372036854775807) ∧ f44G1 E s stock least (i + 1))))))) ∧ (¬ (((i : Nat) : Int) < (((reachI s).length : Nat) : Int)) → ((least < 0 → rv = (0, 3)) ∧ (¬ (least < 0) → rv = (least, 0)))))) : f44G1 E s stock least i := by
  rcases Bool.eq_false_or_eq_true (decide (((i : Nat) : Int) < (((reachI s).length : Nat) : Int))) with hc0 | hc0
  · have h := h.1 (of_decide_eq_true hc0)
    obtain ⟨se, h1, h⟩ := h
    obtain ⟨eb, h2, h⟩ := h
    rcases Bool.eq_false_or_eq_true eb with hc1 | hc1
    · have h := h.1 hc1
      rcases Bool.eq_false_or_eq_true (se.kind == 4) with hc2 | hc2
      · have h := h.1 (eq_of_beq hc2)
        rcases Bool.eq_false_or_eq_true (decide (se.prize ≥ 0)) with hc3 | hc3
        · have h := h.1 (of_decide_eq_true hc3)
          rcases Bool.eq_false_or_eq_true (decide (least < 0)) with hc4 | hc4
          · have h := h.1 (of_decide_eq_true hc4)
            obtain ⟨h4, h⟩ := h
            obtain ⟨e, h3, h⟩ := h
            obtain ⟨q16_5, h⟩ := h
            exact p44_1_0 s stock least i  se eb e hE hc0 (idx_ok h1) (row_part cStg (s := 3) (k := 0) (m := 3) (fun _ => rfl) (by decide) h1) (idx_ok h2) (row_part cB (s := 1) (k := 0) (m := 1) (fun _ => rfl) (by decide) h2) hc1 hc2 hc3 hc4 (idx_ok' h4 h3) (row_part cI (s := 1) (k := 0) (m := 1) (fun _ => rfl) (by decide) h3) q16_5 h
          · have h := h.2 (of_decide_eq_false hc4)
            obtain ⟨h4, h⟩ := h
            obtain ⟨e, h3, h⟩ := h
            rcases Bool.eq_false_or_eq_true (decide (e < least)) with hc5 | hc5
            · have h := h.1 (of_decide_eq_true hc5)
              obtain ⟨q18_6, h⟩ := h
              exact p44_1_1 s stock least i  se eb e hE hc0 (idx_ok h1) (row_part cStg (s := 3) (k := 0) (m := 3) (fun _ => rfl) (by decide) h1) (idx_ok h2) (row_part cB (s := 1) (k := 0) (m := 1) (fun _ => rfl) (by decide) h2) hc1 hc2 hc3 hc4 (idx_ok' h4 h3) (row_part cI (s := 1) (k := 0) (m := 1) (fun _ => rfl) (by decide) h3) hc5 (idx_ok' h4 h3) (row_part cI (s := 1) (k := 0) (m := 1) (fun _ => rfl) (by decide) h3) q18_6 h
            · have h := h.2 (of_decide_eq_false hc5)
              obtain ⟨q16_6, h⟩ := h
              exact p44_1_2 s stock least i  se eb e hE hc0 (idx_ok h1) (row_part cStg (s := 3) (k := 0) (m := 3) (fun _ => rfl) (by decide) h1) (idx_ok h2) (row_part cB (s := 1) (k := 0) (m := 1) (fun _ => rfl) (by decide) h2) hc1 hc2 hc3 hc4 (idx_ok' h4 h3) (row_part cI (s := 1) (k := 0) (m := 1) (fun _ => rfl) (by decide) h3) hc5 q16_6 h
        · have h := h.2 (of_decide_eq_false hc3)
          obtain ⟨q12_4, h⟩ := h
          exact p44_1_3 s stock least i  se eb hE hc0 (idx_ok h1) (row_part cStg (s := 3) (k := 0) (m := 3) (fun _ => rfl) (by decide) h1) (idx_ok h2) (row_part cB (s := 1) (k := 0) (m := 1) (fun _ => rfl) (by decide) h2) hc1 hc2 hc3 q12_4 h
      · have h := h.2 (ne_of_beq_false hc2)
        obtain ⟨q12_3, h⟩ := h
        exact p44_1_4 s stock least i  se eb hE hc0 (idx_ok h1) (row_part cStg (s := 3) (k := 0) (m := 3) (fun _ => rfl) (by decide) h1) (idx_ok h2) (row_part cB (s := 1) (k := 0) (m := 1) (fun _ => rfl) (by decide) h2) hc1 hc2 q12_3 h
    · have h := h.2 hc1
      obtain ⟨q12_2, h⟩ := h
      exact p44_1_5 s stock least i  se eb hE hc0 (idx_ok h1) (row_part cStg (s := 3) (k := 0) (m := 3) (fun _ => rfl) (by decide) h1) (idx_ok h2) (row_part cB (s := 1) (k := 0) (m := 1) (fun _ => rfl) (by decide) h2) hc1 q12_2 h
  · have h := h.2 (of_decide_eq_false hc0)
    rcases Bool.eq_false_or_eq_true (decide (least < 0)) with hc1 | hc1
    · have h := h.1 (of_decide_eq_true hc1)
      exact p44_1_6 s stock least i   hE hc0 hc1 (AvLe.of_eq (by rw [h]; try rfl))
    · have h := h.2 (of_decide_eq_false hc1)
      exact p44_1_7 s stock least i   hE hc0 hc1 (AvLe.of_eq (by rw [h]; try rfl))

theorem lastsR_ok (s : Stl) (stock : List Int) (h : (s.stages.length ≤ 9223372036854775807 ∧ s.worth.length ≤ 9223372036854775807) ∧ stock.length ≤ 9223372036854775807) : Pure Try.prog 44 [avStl s, .rsl (rowI stock) 0 stock.length] (.tup [.int .i64 (lastsK s stock).1, .int .i64 (lastsK s stock).2]) := pure_of Try.func44 f44b fun E hE => by
  refine f44W s stock (rv := lastsK s stock) hE ⟨h.1, fun hc => by rw [lastsK, if_neg hc, checkK_no hc], fun hc => ?_⟩
  obtain ⟨hm, es⟩ := mok_G (isSome_of hc)
  have hform := (stPre_of hm.st).2.2.2.2
  have hn := (stPre_of hm.st).1
  rw [es] at hform hn
  have no : stockOk (machG s) stock = false → lastsK s stock = (0, 1) := fun h => by rw [lastsK, if_pos hc, if_neg (by rw [h]; simp)]
  refine ⟨fun hl => no ?_, fun hl => ?_⟩
  · rw [stockOk, es, decide_eq_false (by omega)]; rfl
  have rest : stockOk (machG s) stock = true → f44G1 E s stock (-1) 0 := by
    intro hok
    obtain ⟨sl, sb⟩ := stockOk_of hc hok
    have hrl : (reachI s).length = s.stages.length := reachN_len
    have hrv : lastsK s stock = lastsR (leastN s stock s.stages.length) := by rw [lastsK, if_pos hc, if_pos hok]
    have key : ∀ (d i : Nat), i + d = s.stages.length → f44G1 E s stock (leastN s stock i) i := by
      intro d
      induction d with
      | zero =>
        intro i hd
        have hi : i = s.stages.length := by omega
        rw [← hi] at hrv
        refine f44W1 s stock _ i (rv := lastsK s stock) hE ⟨fun h => by omega, fun _ => ⟨fun h => ?_, fun h => ?_⟩⟩
        · rw [hrv, lastsR, if_pos h]
        · rw [hrv, lastsR, if_neg h]
      | succ d ih =>
        intro i hd
        have hi : s.stages[i]? = some s.stages[i] := List.getElem?_eq_getElem (by omega)
        have hx : s.stages.getD i ⟨0, 0, []⟩ = s.stages[i] := by simp [List.getD, hi]
        have nx := ih (i + 1) (by omega)
        have hpi := fun h h4 => prize_in hc hi h h4
        simp only [leastN] at nx
        rw [hx] at nx
        have hb := getB (l := reachI s) (i := i) (by omega)
        generalize s.stages[i] = x at hi nx hpi
        generalize leastN s stock i = l at nx
        unfold leastS at nx
        refine f44W1 s stock l i (rv := lastsK s stock) hE ⟨fun _ => ⟨x, hi, _, hb, fun hr => ⟨fun h4 => ⟨fun hp => ⟨fun hl => ⟨hp, _, getD_some (by have := hpi hp h4; omega), by omega, ?_⟩, fun hl => ⟨hp, _, getD_some (by have := hpi hp h4; omega), fun hs => ⟨by omega, ?_⟩, fun hs => ⟨by omega, ?_⟩⟩⟩, fun hp => ⟨by omega, ?_⟩⟩, fun h4 => ⟨by omega, ?_⟩⟩, fun hr => ⟨by omega, ?_⟩⟩, fun h => by omega⟩
        · rw [if_pos ⟨hr, h4, hp, .inl hl⟩] at nx; exact nx
        · rw [if_pos ⟨hr, h4, hp, .inr hs⟩] at nx; exact nx
        · rw [if_neg (fun h => h.2.2.2.elim hl hs)] at nx; exact nx
        · rw [if_neg (fun h => hp h.2.2.1)] at nx; exact nx
        · rw [if_neg (fun h => h4 h.2.1)] at nx; exact nx
        · rw [if_neg (fun h => by rw [hr] at h; cases h.1)] at nx; exact nx
    exact key s.stages.length 0 (by omega)
  have key : ∀ (d i : Nat), i + d = stock.length → (stock.any fun n => !within n 0 1000) = ((stock.drop i).any fun n => !within n 0 1000) → f44G0 E s stock i := by
    intro d
    induction d with
    | zero =>
      intro i hd ha
      rw [List.drop_eq_nil_of_le (by omega)] at ha
      exact f44W0 s stock i (rv := lastsK s stock) hE ⟨fun h => by omega, fun _ => ⟨hc, rest (by rw [stockOk, es, decide_eq_true (by omega), ha]; rfl)⟩⟩
    | succ d ih =>
      intro i hd ha
      have hi : stock[i]? = some stock[i] := List.getElem?_eq_getElem (by omega)
      rw [List.drop_eq_getElem_cons (by omega), List.any_cons] at ha
      refine f44W0 s stock i (rv := lastsK s stock) hE ⟨fun _ => ⟨_, hi, fun h5 => no ?_, fun h5 => ⟨by omega, ih (i + 1) (by omega) (by rw [ha, h5]; rfl)⟩⟩, fun h => by omega⟩
      rw [stockOk, ha, h5]; simp
  exact key stock.length 0 (by omega) (by simp)

theorem f9b : Try.f9.body = some (bodyAt Try.prog 9) := by kernel_rfl
theorem p9_start_0 (s : Stl) (stock : (List Int))   {E : Env} {res : AV} (hE : PureE Try.prog 9 res E) (o0 : PureF Try.prog (.clos 43 [] []) [.agg [.rsl (rowStg s.stages) 0 s.stages.length, .rsl (rowI s.worth) 0 s.worth.length, .int .i64 s.price], .rsl (rowI stock) 0 stock.length] (.tup [.int .i64 ((lastsK s stock).1), .int .i64 ((lastsK s stock).2)])) (o1 : PureF Try.prog (.clos 44 [] []) [.agg [.rsl (rowStg s.stages) 0 s.stages.length, .rsl (rowI s.worth) 0 s.worth.length, .int .i64 s.price], .rsl (rowI stock) 0 stock.length] (.tup [.int .i64 ((lastsK s stock).1), .int .i64 ((lastsK s stock).2)])) (o2 : ((lastsK s stock).1 == (lastsK s stock).1) = true) (o3 : ((lastsK s stock).2 == (lastsK s stock).2) = true) (o4 : PureF Try.prog (.clos 20 [] []) [] (.bool true))
    (hr : AvLe (.bool true) res) : G Try.prog E [.code (bodyAt Try.prog 9)] ⟨[.agg [.rsl (rowStg s.stages) 0 s.stages.length, .rsl (rowI s.worth) 0 s.worth.length, .int .i64 s.price], .rsl (rowI stock) 0 stock.length] ++ unds (Try.f9.ntmps - 2), []⟩ :=
  end_stepL (n := 400) (evs := [.v (.tup [.int .i64 ((lastsK s stock).1), .int .i64 ((lastsK s stock).2)]), .v (.tup [.int .i64 ((lastsK s stock).1), .int .i64 ((lastsK s stock).2)]), .b true, .b true, .v (.bool true)]) (obs := [PureF Try.prog (.clos 43 [] []) [.agg [.rsl (rowStg s.stages) 0 s.stages.length, .rsl (rowI s.worth) 0 s.worth.length, .int .i64 s.price], .rsl (rowI stock) 0 stock.length] (.tup [.int .i64 ((lastsK s stock).1), .int .i64 ((lastsK s stock).2)]), PureF Try.prog (.clos 44 [] []) [.agg [.rsl (rowStg s.stages) 0 s.stages.length, .rsl (rowI s.worth) 0 s.worth.length, .int .i64 s.price], .rsl (rowI stock) 0 stock.length] (.tup [.int .i64 ((lastsK s stock).1), .int .i64 ((lastsK s stock).2)]), ((lastsK s stock).1 == (lastsK s stock).1) = true, ((lastsK s stock).2 == (lastsK s stock).2) = true, PureF Try.prog (.clos 20 [] []) [] (.bool true)]) hE Try.func9 mixed (by kernel_rfl) ⟨o0, o1, o2, o3, o4, trivial⟩ hr
theorem p9_start_1 (s : Stl) (stock : (List Int))   {E : Env} {res : AV} (hE : PureE Try.prog 9 res E) (o0 : PureF Try.prog (.clos 43 [] []) [.agg [.rsl (rowStg s.stages) 0 s.stages.length, .rsl (rowI s.worth) 0 s.worth.length, .int .i64 s.price], .rsl (rowI stock) 0 stock.length] (.tup [.int .i64 ((lastsK s stock).1), .int .i64 ((lastsK s stock).2)])) (o1 : PureF Try.prog (.clos 44 [] []) [.agg [.rsl (rowStg s.stages) 0 s.stages.length, .rsl (rowI s.worth) 0 s.worth.length, .int .i64 s.price], .rsl (rowI stock) 0 stock.length] (.tup [.int .i64 ((lastsK s stock).1), .int .i64 ((lastsK s stock).2)])) (o2 : ((lastsK s stock).1 == (lastsK s stock).1) = true) (o3 : ((lastsK s stock).2 == (lastsK s stock).2) = false)
    (hr : AvLe (.bool false) res) : G Try.prog E [.code (bodyAt Try.prog 9)] ⟨[.agg [.rsl (rowStg s.stages) 0 s.stages.length, .rsl (rowI s.worth) 0 s.worth.length, .int .i64 s.price], .rsl (rowI stock) 0 stock.length] ++ unds (Try.f9.ntmps - 2), []⟩ :=
  end_stepL (n := 400) (evs := [.v (.tup [.int .i64 ((lastsK s stock).1), .int .i64 ((lastsK s stock).2)]), .v (.tup [.int .i64 ((lastsK s stock).1), .int .i64 ((lastsK s stock).2)]), .b true, .b false]) (obs := [PureF Try.prog (.clos 43 [] []) [.agg [.rsl (rowStg s.stages) 0 s.stages.length, .rsl (rowI s.worth) 0 s.worth.length, .int .i64 s.price], .rsl (rowI stock) 0 stock.length] (.tup [.int .i64 ((lastsK s stock).1), .int .i64 ((lastsK s stock).2)]), PureF Try.prog (.clos 44 [] []) [.agg [.rsl (rowStg s.stages) 0 s.stages.length, .rsl (rowI s.worth) 0 s.worth.length, .int .i64 s.price], .rsl (rowI stock) 0 stock.length] (.tup [.int .i64 ((lastsK s stock).1), .int .i64 ((lastsK s stock).2)]), ((lastsK s stock).1 == (lastsK s stock).1) = true, ((lastsK s stock).2 == (lastsK s stock).2) = false]) hE Try.func9 mixed (by kernel_rfl) ⟨o0, o1, o2, o3, trivial⟩ hr
theorem p9_start_2 (s : Stl) (stock : (List Int))   {E : Env} {res : AV} (hE : PureE Try.prog 9 res E) (o0 : PureF Try.prog (.clos 43 [] []) [.agg [.rsl (rowStg s.stages) 0 s.stages.length, .rsl (rowI s.worth) 0 s.worth.length, .int .i64 s.price], .rsl (rowI stock) 0 stock.length] (.tup [.int .i64 ((lastsK s stock).1), .int .i64 ((lastsK s stock).2)])) (o1 : PureF Try.prog (.clos 44 [] []) [.agg [.rsl (rowStg s.stages) 0 s.stages.length, .rsl (rowI s.worth) 0 s.worth.length, .int .i64 s.price], .rsl (rowI stock) 0 stock.length] (.tup [.int .i64 ((lastsK s stock).1), .int .i64 ((lastsK s stock).2)])) (o2 : ((lastsK s stock).1 == (lastsK s stock).1) = false)
    (hr : AvLe (.bool false) res) : G Try.prog E [.code (bodyAt Try.prog 9)] ⟨[.agg [.rsl (rowStg s.stages) 0 s.stages.length, .rsl (rowI s.worth) 0 s.worth.length, .int .i64 s.price], .rsl (rowI stock) 0 stock.length] ++ unds (Try.f9.ntmps - 2), []⟩ :=
  end_stepL (n := 400) (evs := [.v (.tup [.int .i64 ((lastsK s stock).1), .int .i64 ((lastsK s stock).2)]), .v (.tup [.int .i64 ((lastsK s stock).1), .int .i64 ((lastsK s stock).2)]), .b false, .b false]) (obs := [PureF Try.prog (.clos 43 [] []) [.agg [.rsl (rowStg s.stages) 0 s.stages.length, .rsl (rowI s.worth) 0 s.worth.length, .int .i64 s.price], .rsl (rowI stock) 0 stock.length] (.tup [.int .i64 ((lastsK s stock).1), .int .i64 ((lastsK s stock).2)]), PureF Try.prog (.clos 44 [] []) [.agg [.rsl (rowStg s.stages) 0 s.stages.length, .rsl (rowI s.worth) 0 s.worth.length, .int .i64 s.price], .rsl (rowI stock) 0 stock.length] (.tup [.int .i64 ((lastsK s stock).1), .int .i64 ((lastsK s stock).2)]), ((lastsK s stock).1 == (lastsK s stock).1) = false, false = false]) hE Try.func9 mixed (by kernel_rfl) ⟨o0, o1, o2, (rfl), trivial⟩ hr
theorem f9W (s : Stl) (stock : (List Int)) {E : Env} {rv : Bool} (hE : PureE Try.prog 9 (.bool rv) E)
    (h : (((s.stages.length ≤ 9223372036854775807 ∧ s.worth.length ≤ 9223372036854775807) ∧ stock.length ≤ 9223372036854775807) ∧ (((s.stages.length ≤ 9223372036854775807 ∧ s.worth.length ≤ 9223372036854775807) ∧ stock.length ≤ 9223372036854775807) ∧ (((lastsK s stock).1 = (lastsK s stock).1 → (((lastsK s stock).2 = (lastsK s stock).2 → rv = true) ∧ (¬ ((lastsK s stock).2 = (lastsK s stock).2) → rv = false))) ∧ (¬ ((lastsK s stock).1 = (lastsK s stock).1) → rv = false))))) : G Try.prog E [.code (bodyAt Try.prog 9)] ⟨[.agg [.rsl (rowStg s.stages) 0 s.stages.length, .rsl (rowI s.worth) 0 s.worth.length, .int .i64 s.price], .rsl (rowI stock) 0 stock.length] ++ unds (Try.f9.ntmps - 2), []⟩ := by
  obtain ⟨h1, h⟩ := h
  obtain ⟨h2, h⟩ := h
  rcases Bool.eq_false_or_eq_true ((lastsK s stock).1 == (lastsK s stock).1) with hc0 | hc0
  · have h := h.1 (eq_of_beq hc0)
    rcases Bool.eq_false_or_eq_true ((lastsK s stock).2 == (lastsK s stock).2) with hc1 | hc1
    · have h := h.1 (eq_of_beq hc1)
      exact p9_start_0 s stock    hE (pureF_of Try.func43 (by kernel_rfl) f43b (lasts_ok s stock h1)) (pureF_of Try.func44 (by kernel_rfl) f44b (lastsR_ok s stock h2)) hc0 hc1 (pureF_of Try.func20 (by kernel_rfl) f20b works_ok) (AvLe.of_eq (by rw [h]; try rfl))
    · have h := h.2 (ne_of_beq_false hc1)
      exact p9_start_1 s stock    hE (pureF_of Try.func43 (by kernel_rfl) f43b (lasts_ok s stock h1)) (pureF_of Try.func44 (by kernel_rfl) f44b (lastsR_ok s stock h2)) hc0 hc1 (AvLe.of_eq (by rw [h]; try rfl))
  · have h := h.2 (ne_of_beq_false hc0)
    exact p9_start_2 s stock    hE (pureF_of Try.func43 (by kernel_rfl) f43b (lasts_ok s stock h1)) (pureF_of Try.func44 (by kernel_rfl) f44b (lastsR_ok s stock h2)) hc0 (AvLe.of_eq (by rw [h]; try rfl))

theorem law9_ok (s : Stl) (stock : List Int) (h : s.stages.length ≤ 9223372036854775807 ∧ s.worth.length ≤ 9223372036854775807) (hp : stock.length ≤ 9223372036854775807) : Pure Try.prog 9 [avStl s, .rsl (rowI stock) 0 stock.length] (.bool true) := pure_of Try.func9 f9b fun E hE => by
  refine f9W s stock (rv := true) hE ?_
  simp [h, hp]

end Go.Proofs.Ytfgmlaeikcfpbaa
