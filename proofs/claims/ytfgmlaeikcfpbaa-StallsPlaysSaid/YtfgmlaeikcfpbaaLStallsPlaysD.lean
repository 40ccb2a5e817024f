/- A part of the proof: several texts, one behind the other. -/
import Derived.Test.YtfgmlaeikcfpbaaLStallsPlaysC
set_option linter.unusedVariables false
set_option linter.unusedSimpArgs false
set_option maxRecDepth 100000
namespace Go.Proofs.Ytfgmlaeikcfpbaa
open Go Ax
open Go.Proofs

structure Num where
  t : Int
  h : Int
  v : Int
def cNum1 (e : Num) : AV := .clos 0 [.agg [.int .i64 e.t, .int .i64 e.h]] [.int .i64 e.v]
def cNum (e : Num) : List AV := [cNum1 e]
def rowNum (l : List Num) : List AV := l.flatMap cNum
theorem row_one {α : Type} (c : α → AV) : ∀ {l : List α} {i : Nat} {e : α}, l[i]? = some e → (l.flatMap fun x => [c x])[i]? = some (c e)
  | [], i, e, h => by simp at h
  | x :: l, 0, e, h => by simp at h; subst h; rfl
  | x :: l, i + 1, e, h => by
    have := row_one c (l := l) (i := i) (e := e) (by simpa using h)
    simpa using this
theorem rowNum_len : ∀ {l : List Num}, (rowNum l).length = l.length
  | [] => rfl
  | x :: l => by
    have := rowNum_len (l := l)
    simp only [rowNum, List.flatMap_cons, List.length_append, List.length_cons, cNum, List.length_nil] at *
    omega
theorem key_num {t h a b : Int} : keyEq Try.prog 34 (.agg [.int .i64 t, .int .i64 h]) (.agg [.int .i64 a, .int .i64 b]) = some ((t == a) && ((h == b) && true)) := by
  have h2 : plainT Try.prog 20 34 = some [some .i64, some .i64] := by kernel_rfl
  simp only [keyEq, Try.underlying34, h2, Option.bind_some, eqCells]
  rfl
theorem keyNew_num {l : List Num} {t h : Int} (hh : ∀ e ∈ l, ¬ (e.t = t ∧ e.h = h)) : KeyNew Try.prog 34 (.agg [.int .i64 t, .int .i64 h]) (rowNum l) := by
  intro c hc
  obtain ⟨e, he, hc⟩ := List.mem_flatMap.1 hc
  simp only [cNum, List.mem_singleton] at hc
  subst hc
  refine ⟨_, _, rfl, ?_⟩
  rw [key_num]
  have := hh e he
  have : ((t == e.t) && ((h == e.h) && true)) = false := by
    by_cases h1 : t = e.t
    · have h2 : ¬ h = e.h := fun h2 => this ⟨h1.symm, h2.symm⟩
      simp [h2]
    · simp [h1]
  rw [this]
def NumAt (l : List Num) (t h : Int) (i : Nat) (e : Num) : Prop := l[i]? = some e ∧ e.t = t ∧ e.h = h ∧ ∀ x ∈ l.take i, ¬ (x.t = t ∧ x.h = h)
theorem rowNum_take {l : List Num} {i : Nat} : (rowNum l).take i = rowNum (l.take i) := by
  induction l generalizing i with
  | nil => simp [rowNum]
  | cons x l ih =>
    cases i with
    | zero => simp [rowNum]
    | succ i =>
      have := ih (i := i)
      simp only [rowNum, List.flatMap_cons, cNum, List.cons_append, List.nil_append, List.take_succ_cons] at *
      rw [this]
theorem keyAt_num {l : List Num} {t h : Int} {i : Nat} {e : Num} (hh : NumAt l t h i e) : KeyAt Try.prog 34 (.agg [.int .i64 t, .int .i64 h]) (rowNum l) i (.int .i64 e.v) := by
  obtain ⟨h1, h2, h3, h4⟩ := hh
  refine ⟨_, row_one cNum1 h1, ?_, ?_⟩
  · rw [key_num, h2, h3]; simp
  · rw [rowNum_take]; exact keyNew_num h4
theorem f91b : Try.f91.body = some (bodyAt Try.prog 91) := by kernel_rfl
theorem p91_start_0 (s : Stl)   {E : Env} {res : AV} (hE : PureE Try.prog 91 res E) (o0 : PureF Try.prog (.clos 18 [] []) [.agg [.rsl (rowStg s.stages) 0 s.stages.length, .rsl (rowI s.worth) 0 s.worth.length, .int .i64 s.price]] (.int .i64 (checkK s))) (o1 : ((checkK s) != 0) = true)
    (hr : AvLe (.tup [.agg [.nilSl, .nilSl, .int .i64 0], .int .i64 2]) res) : G Try.prog E [.code (bodyAt Try.prog 91)] ⟨[.agg [.rsl (rowStg s.stages) 0 s.stages.length, .rsl (rowI s.worth) 0 s.worth.length, .int .i64 s.price]] ++ unds (Try.f91.ntmps - 1), []⟩ :=
  end_stepL (n := 400) (evs := [.v (.int .i64 (checkK s)), .b true]) (obs := [PureF Try.prog (.clos 18 [] []) [.agg [.rsl (rowStg s.stages) 0 s.stages.length, .rsl (rowI s.worth) 0 s.worth.length, .int .i64 s.price]] (.int .i64 (checkK s)), ((checkK s) != 0) = true, 3 ≤ 3]) hE Try.func91 mixed (by kernel_rfl) ⟨o0, o1, (by decide), trivial⟩ hr
theorem p91_start_1 (s : Stl)   {E : Env} {res : AV} (hE : PureE Try.prog 91 res E) (o0 : PureF Try.prog (.clos 18 [] []) [.agg [.rsl (rowStg s.stages) 0 s.stages.length, .rsl (rowI s.worth) 0 s.worth.length, .int .i64 s.price]] (.int .i64 (checkK s))) (o1 : ((checkK s) != 0) = false)
    (hr : AvLe (.tup [.agg [.rsl (rowStg s.stages) 0 s.stages.length, .rsl (rowI s.worth) 0 s.worth.length, .int .i64 s.price], .int .i64 0]) res) : G Try.prog E [.code (bodyAt Try.prog 91)] ⟨[.agg [.rsl (rowStg s.stages) 0 s.stages.length, .rsl (rowI s.worth) 0 s.worth.length, .int .i64 s.price]] ++ unds (Try.f91.ntmps - 1), []⟩ :=
  end_stepL (n := 400) (evs := [.v (.int .i64 (checkK s)), .b false]) (obs := [PureF Try.prog (.clos 18 [] []) [.agg [.rsl (rowStg s.stages) 0 s.stages.length, .rsl (rowI s.worth) 0 s.worth.length, .int .i64 s.price]] (.int .i64 (checkK s)), ((checkK s) != 0) = false, 3 ≤ 3]) hE Try.func91 mixed (by kernel_rfl) ⟨o0, o1, (by decide), trivial⟩ hr
theorem f91W (s : Stl) {E : Env} {rv : (Stl × Int)} (hE : PureE Try.prog 91 (.tup [.agg [.rsl (rowStg rv.1.stages) 0 rv.1.stages.length, .rsl (rowI rv.1.worth) 0 rv.1.worth.length, .int .i64 rv.1.price], .int .i64 rv.2]) E)
    (h : ((s.stages.length ≤ 9223372036854775807 ∧ s.worth.length ≤ 9223372036854775807) ∧ ((¬ ((checkK s) = 0) → rv = ((⟨([] : List Stg), ([] : List Int), 0⟩ : Stl), 2)) ∧ ((checkK s) = 0 → rv = (s, 0))))) : G Try.prog E [.code (bodyAt Try.prog 91)] ⟨[.agg [.rsl (rowStg s.stages) 0 s.stages.length, .rsl (rowI s.worth) 0 s.worth.length, .int .i64 s.price]] ++ unds (Try.f91.ntmps - 1), []⟩ := by
  obtain ⟨h1, h⟩ := h
  rcases Bool.eq_false_or_eq_true ((checkK s) != 0) with hc0 | hc0
  · have h := h.1 (bneT hc0)
    exact p91_start_0 s    hE (pureF_of Try.func18 (by kernel_rfl) f18b (check_ok s h1)) hc0 (by rw [h]; exact (tup_le ⟨(agg_le ⟨nil_le, ⟨nil_le, ⟨AvLe.of_eq rfl, trivial⟩⟩⟩), ⟨AvLe.of_eq rfl, trivial⟩⟩))
  · have h := h.2 (bneF hc0)
    exact p91_start_1 s    hE (pureF_of Try.func18 (by kernel_rfl) f18b (check_ok s h1)) hc0 (AvLe.of_eq (by rw [h]; try rfl))

def madeK (s : Stl) : Stl × Int := if checkK s = 0 then (s, 0) else (⟨[], [], 0⟩, 2)
theorem made_ok (s : Stl) (h : s.stages.length ≤ 9223372036854775807 ∧ s.worth.length ≤ 9223372036854775807) : Pure Try.prog 91 [.agg [.rsl (rowStg s.stages) 0 s.stages.length, .rsl (rowI s.worth) 0 s.worth.length, .int .i64 s.price]] (.tup [.agg [.rsl (rowStg (madeK s).1.stages) 0 (madeK s).1.stages.length, .rsl (rowI (madeK s).1.worth) 0 (madeK s).1.worth.length, .int .i64 (madeK s).1.price], .int .i64 (madeK s).2]) := pure_of Try.func91 f91b fun E hE =>
  f91W s (rv := madeK s) hE ⟨h, fun h1 => by rw [madeK, if_neg h1], fun h1 => by rw [madeK, if_pos h1]⟩

theorem f111b : Try.f111.body = some (bodyAt Try.prog 111) := by kernel_rfl
theorem p111_start_0 (a : Int) (b : Int) (l : List Num) (n need lost : Int)  (mi : Nat) (me : Num)  {E : Env} {res : AV} (hE : PureE Try.prog 111 res E) (o0 : (decide (a < n)) = true) (o2 : KeyAt Try.prog 34 (.agg [.int .i64 a, .int .i64 b]) (rowNum l) mi (.int .i64 me.v))
    (hr : AvLe (.int .i64 me.v) res) : G Try.prog E [.code (bodyAt Try.prog 111)] ⟨[.int .i64 a, .int .i64 b, .rptr [.int .i64 n] 0, .rptr [.rmap (rowNum l)] 0, .rptr [.int .i64 need] 0, .rptr [.int .i64 lost] 0] ++ unds (Try.f111.ntmps - 6), []⟩ :=
  end_stepL (n := 400) (evs := [.b true, .mfound mi (.int .i64 me.v)]) (obs := [(decide (a < n)) = true, KeyAt Try.prog 34 (.agg [.int .i64 a, .int .i64 b]) (rowNum l) mi (.int .i64 me.v)]) hE Try.func111 mixed (by kernel_rfl) ⟨o0, o2, trivial⟩ hr
theorem p111_start_1 (a : Int) (b : Int) (l : List Num) (n need lost : Int)   {E : Env} {res : AV} (hE : PureE Try.prog 111 res E) (o0 : (decide (a < n)) = false) (o1 : (decide (b ≥ need)) = true) (o2 : InR .i64 (lost + 1))
    (hr : AvLe (.int .i64 (lost + 1)) res) : G Try.prog E [.code (bodyAt Try.prog 111)] ⟨[.int .i64 a, .int .i64 b, .rptr [.int .i64 n] 0, .rptr [.rmap (rowNum l)] 0, .rptr [.int .i64 need] 0, .rptr [.int .i64 lost] 0] ++ unds (Try.f111.ntmps - 6), []⟩ :=
  end_stepL (n := 400) (evs := [.b false, .b true]) (obs := [(decide (a < n)) = false, (decide (b ≥ need)) = true, InR .i64 (lost + 1)]) hE Try.func111 mixed (by kernel_rfl) ⟨o0, o1, o2, trivial⟩ hr
theorem p111_start_2 (a : Int) (b : Int) (l : List Num) (n need lost : Int)   {E : Env} {res : AV} (hE : PureE Try.prog 111 res E) (o0 : (decide (a < n)) = false) (o1 : (decide (b ≥ need)) = false)
    (hr : AvLe (.int .i64 lost) res) : G Try.prog E [.code (bodyAt Try.prog 111)] ⟨[.int .i64 a, .int .i64 b, .rptr [.int .i64 n] 0, .rptr [.rmap (rowNum l)] 0, .rptr [.int .i64 need] 0, .rptr [.int .i64 lost] 0] ++ unds (Try.f111.ntmps - 6), []⟩ :=
  end_stepL (n := 400) (evs := [.b false, .b false]) (obs := [(decide (a < n)) = false, (decide (b ≥ need)) = false]) hE Try.func111 mixed (by kernel_rfl) ⟨o0, o1, trivial⟩ hr
theorem f111W (a : Int) (b : Int) (l : List Num) (n need lost : Int) {E : Env} {rv : Int} (hE : PureE Try.prog 111 (.int .i64 rv) E)
    (h : ((a < n → (∃ mi : Nat, True ∧ (∃ me : Num, NumAt l a b mi me ∧ rv = me.v))) ∧ (¬ (a < n) → ((b ≥ need → ((-9223372036854775808 ≤ lost + 1 ∧ lost + 1 ≤ 9223372036854775807) ∧ rv = (lost + 1))) ∧ (¬ (b ≥ need) → rv = lost))))) : G Try.prog E [.code (bodyAt Try.prog 111)] ⟨[.int .i64 a, .int .i64 b, .rptr [.int .i64 n] 0, .rptr [.rmap (rowNum l)] 0, .rptr [.int .i64 need] 0, .rptr [.int .i64 lost] 0] ++ unds (Try.f111.ntmps - 6), []⟩ := by
  rcases Bool.eq_false_or_eq_true (decide (a < n)) with hc0 | hc0
  · have h := h.1 (of_decide_eq_true hc0)
    obtain ⟨mi, h1, h⟩ := h
    obtain ⟨me, h2, h⟩ := h
    exact p111_start_0 a b l n need lost   mi me hE hc0 (keyAt_num h2) (AvLe.of_eq (by rw [h]; try rfl))
  · have h := h.2 (of_decide_eq_false hc0)
    rcases Bool.eq_false_or_eq_true (decide (b ≥ need)) with hc1 | hc1
    · have h := h.1 (of_decide_eq_true hc1)
      obtain ⟨q2_2, h⟩ := h
      exact p111_start_1 a b l n need lost    hE hc0 hc1 q2_2 (AvLe.of_eq (by rw [h]; try rfl))
    · have h := h.2 (of_decide_eq_false hc1)
      exact p111_start_2 a b l n need lost    hE hc0 hc1 (AvLe.of_eq (by rw [h]; try rfl))
theorem f67b : Try.f67.body = some (bodyAt Try.prog 67) := by kernel_rfl
theorem p67_start_0 (a : Int) (b : Int)   {E : Env} {res : AV} (hE : PureE Try.prog 67 res E) 
    (hr : AvLe (.bool true) res) : G Try.prog E [.code (bodyAt Try.prog 67)] ⟨[.int .i64 a, .int .i64 b] ++ unds (Try.f67.ntmps - 2), []⟩ :=
  end_stepL (n := 400) (evs := []) (obs := []) hE Try.func67 mixed (by kernel_rfl) trivial hr
theorem f67W (a : Int) (b : Int) {E : Env} {rv : Bool} (hE : PureE Try.prog 67 (.bool rv) E)
    (h : rv = true) : G Try.prog E [.code (bodyAt Try.prog 67)] ⟨[.int .i64 a, .int .i64 b] ++ unds (Try.f67.ntmps - 2), []⟩ := by
  exact p67_start_0 a b    hE  (AvLe.of_eq (by rw [h]; try rfl))
theorem f68b : Try.f68.body = some (bodyAt Try.prog 68) := by kernel_rfl
theorem p68_start_0 (a : Int) (b : Int) (p q : Int)   {E : Env} {res : AV} (hE : PureE Try.prog 68 res E) 
    (hr : AvLe (.tup [.int .i64 p, .int .i64 q]) res) : G Try.prog E [.code (bodyAt Try.prog 68)] ⟨[.int .i64 a, .int .i64 b, .rptr [.int .i64 p] 0, .rptr [.int .i64 q] 0] ++ unds (Try.f68.ntmps - 4), []⟩ :=
  end_stepL (n := 400) (evs := []) (obs := []) hE Try.func68 mixed (by kernel_rfl) trivial hr
theorem f68W (a : Int) (b : Int) (p q : Int) {E : Env} {rv : (Int × Int)} (hE : PureE Try.prog 68 (.tup [.int .i64 rv.1, .int .i64 rv.2]) E)
    (h : rv = (p, q)) : G Try.prog E [.code (bodyAt Try.prog 68)] ⟨[.int .i64 a, .int .i64 b, .rptr [.int .i64 p] 0, .rptr [.int .i64 q] 0] ++ unds (Try.f68.ntmps - 4), []⟩ := by
  exact p68_start_0 a b p q    hE  (AvLe.of_eq (by rw [h]; try rfl))
def numV (l : List Num) (t h : Int) : Int := match l.find? (fun e => e.t == t && e.h == h) with
  | some e => e.v
  | none => 0
def toI (l : List Num) (n need lost t h : Int) : Int := if t < n then numV l t h else if h ≥ need then lost + 1 else lost
theorem numAt_find {l : List Num} {t h : Int} (hx : ∃ e ∈ l, e.t = t ∧ e.h = h) : ∃ i e, NumAt l t h i e ∧ numV l t h = e.v := by
  induction l with
  | nil => obtain ⟨e, he, -⟩ := hx; simp at he
  | cons x l ih =>
    by_cases hh : x.t = t ∧ x.h = h
    · exact ⟨0, x, ⟨rfl, hh.1, hh.2, by simp⟩, by simp [numV, List.find?, hh.1, hh.2]⟩
    · obtain ⟨e, he, h1⟩ := hx
      have he' : e ∈ l := by
        rcases List.mem_cons.1 he with rfl | he
        · exact absurd h1 hh
        · exact he
      obtain ⟨i, e', h2, h3⟩ := ih ⟨e, he', h1⟩
      refine ⟨i + 1, e', ⟨by simpa using h2.1, h2.2.1, h2.2.2.1, fun y hy => ?_⟩, ?_⟩
      · rcases List.mem_cons.1 (by simpa using hy) with rfl | hy
        · exact hh
        · exact h2.2.2.2 y hy
      · have : (x.t == t && x.h == h) = false := by
          rw [Bool.eq_false_iff]; intro hb; simp at hb; exact hh hb
        simp only [numV, List.find?, this]
        exact h3
theorem to_ok (l : List Num) (n need lost t h : Int) (hh : (t < n → ∃ e ∈ l, e.t = t ∧ e.h = h) ∧ (-1000000 ≤ lost ∧ lost ≤ 1000000)) :
    Pure Try.prog 111 [.int .i64 t, .int .i64 h, .rptr [.int .i64 n] 0, .rptr [.rmap (rowNum l)] 0, .rptr [.int .i64 need] 0, .rptr [.int .i64 lost] 0] (.int .i64 (toI l n need lost t h)) := pure_of Try.func111 f111b fun E hE => by
  refine f111W t h l n need lost (rv := toI l n need lost t h) hE ⟨fun h1 => ?_, fun h1 => ⟨fun h2 => ⟨by omega, by rw [toI, if_neg h1, if_pos h2]⟩, fun h2 => by rw [toI, if_neg h1, if_neg h2]⟩⟩
  obtain ⟨i, e, h2, h3⟩ := numAt_find (hh.1 h1)
  exact ⟨i, trivial, e, h2, by rw [toI, if_pos h1, h3]⟩
def opT (t h : Int) : Bool := true
theorem opT_ok (t h : Int) : Pure Try.prog 67 [.int .i64 t, .int .i64 h] (.bool (opT t h)) := pure_of Try.func67 f67b fun E hE => f67W t h (rv := opT t h) hE rfl
def wgT (p q t h : Int) : Int × Int := (p, q)
theorem wgT_ok (p q t h : Int) : Pure Try.prog 68 [.int .i64 t, .int .i64 h, .rptr [.int .i64 p] 0, .rptr [.int .i64 q] 0] (.tup [.int .i64 (wgT p q t h).1, .int .i64 (wgT p q t h).2]) := pure_of Try.func68 f68b fun E hE => f68W t h p q (rv := wgT p q t h) hE rfl
/-- The numbers of the tries of one row, and of all rows. -/
def rowN (op : Int → Int → Bool) (t : Nat) : Nat → List Num → List Num
  | 0, l => l
  | k + 1, l => if op t k = true then rowN op t k l ++ [⟨t, k, ((rowN op t k l).length : Nat)⟩] else rowN op t k l
def numsI (op : Int → Int → Bool) : Nat → List Num
  | 0 => []
  | t + 1 => rowN op t (t + 1) (numsI op t)

theorem rowN_len {op : Int → Int → Bool} {t : Nat} {l : List Num} : ∀ {k : Nat}, (rowN op t k l).length ≤ l.length + k
  | 0 => by simp [rowN]
  | k + 1 => by
    have := rowN_len (op := op) (t := t) (l := l) (k := k)
    simp only [rowN]; split
    · simp; omega
    · omega
theorem nums_len {op : Int → Int → Bool} : ∀ {t : Nat}, t ≤ 9 → (numsI op t).length ≤ 10 * t
  | 0, _ => by simp [numsI]
  | t + 1, h => by
    have h1 := nums_len (op := op) (t := t) (by omega)
    have h2 := rowN_len (op := op) (t := t) (l := numsI op t) (k := t + 1)
    simp only [numsI]; omega

/-- What is so of the numbers: 't' rows, and 'k' of the next one. -/
structure NumsOk (op : Int → Int → Bool) (t k : Nat) (l : List Num) : Prop where
  at_ : ∀ (i : Nat) (e : Num), l[i]? = some e → e.v = (i : Int)
  mem : ∀ e ∈ l, ∃ a b : Nat, e.t = (a : Int) ∧ e.h = (b : Int) ∧ b ≤ a ∧ op a b = true ∧ (a < t ∨ (a = t ∧ b < k))
  all : ∀ a b : Nat, b ≤ a → op a b = true → (a < t ∨ (a = t ∧ b < k)) → ∃ e ∈ l, e.t = (a : Int) ∧ e.h = (b : Int)

theorem row_nums {op : Int → Int → Bool} {t : Nat} {l : List Num} (h : NumsOk op t 0 l) : ∀ {k : Nat}, k ≤ t + 1 → NumsOk op t k (rowN op t k l)
  | 0, _ => h
  | k + 1, hk => by
    have ih := row_nums h (k := k) (by omega)
    simp only [rowN]
    generalize rowN op t k l = l' at ih
    split
    · rename_i ho
      refine ⟨fun i e hi => ?_, fun e he => ?_, fun a b hab hop hlt => ?_⟩
      · rw [List.getElem?_append] at hi
        split at hi
        · exact ih.at_ i e hi
        · rename_i hge
          have hl := (List.getElem?_eq_some_iff.1 hi).1
          simp at hl
          have : i = l'.length := by omega
          subst this
          simp at hi; rw [← hi]
      · rcases List.mem_append.1 he with he | he
        · obtain ⟨a, b, h1, h2, h3, h4, h5⟩ := ih.mem e he
          exact ⟨a, b, h1, h2, h3, h4, by omega⟩
        · simp only [List.mem_singleton] at he; subst he
          exact ⟨t, k, rfl, rfl, by omega, ho, by omega⟩
      · by_cases e : a = t ∧ b = k
        · exact ⟨⟨t, k, (l'.length : Nat)⟩, by simp, by rw [e.1], by rw [e.2]⟩
        · obtain ⟨x, hx, h1⟩ := ih.all a b hab hop (by omega)
          exact ⟨x, by simp [hx], h1⟩
    · rename_i ho
      refine ⟨ih.at_, fun e he => ?_, fun a b hab hop hlt => ?_⟩
      · obtain ⟨a, b, h1, h2, h3, h4, h5⟩ := ih.mem e he
        exact ⟨a, b, h1, h2, h3, h4, by omega⟩
      · by_cases e : a = t ∧ b = k
        · rw [e.1, e.2] at hop; exact absurd hop ho
        · exact ih.all a b hab hop (by omega)

theorem nums_ok {op : Int → Int → Bool} : ∀ {t : Nat}, NumsOk op t 0 (numsI op t)
  | 0 => ⟨fun i e h => by simp [numsI] at h, fun e he => by simp [numsI] at he, fun a b _ _ h => by omega⟩
  | t + 1 => by
    have := row_nums (nums_ok (op := op) (t := t)) (k := t + 1) (Nat.le_refl _)
    refine ⟨this.at_, fun e he => ?_, fun a b hab hop hlt => ?_⟩
    · obtain ⟨a, b, h1, h2, h3, h4, h5⟩ := this.mem e he
      exact ⟨a, b, h1, h2, h3, h4, by omega⟩
    · exact this.all a b hab hop (by omega)

def stageN (l : List Num) (wg : Int → Int → Int × Int) (n need : Int) (e : Num) : Stg :=
  ⟨1, 0, (if (wg e.t e.h).1 > 0 then [⟨(wg e.t e.h).1, toI l n need l.length (e.t + 1) (e.h + 1)⟩] else []) ++ (if (wg e.t e.h).2 > 0 then [⟨(wg e.t e.h).2, toI l n need l.length (e.t + 1) e.h⟩] else [])⟩
def triesL (op : Int → Int → Bool) (wg : Int → Int → Int × Int) (n : Nat) (need : Int) : List Stg := (numsI op n).map (stageN (numsI op n) wg n need) ++ [⟨4, -1, []⟩, ⟨4, 0, []⟩]
def triesS (op : Int → Int → Bool) (wg : Int → Int → Int × Int) (n : Nat) (need : Int) : Stl := ⟨triesL op wg n need, [0], 0⟩
def triesK (op : Int → Int → Bool) (wg : Int → Int → Int × Int) (n : Nat) (need : Int) : Stl × Int := madeK (triesS op wg n need)

theorem tries_end {op : Int → Int → Bool} {wg : Int → Int → Int × Int} {n : Nat} {need : Int} {v : List Stg} (hl : v.length = (numsI op n).length + 2) (h : ∀ (s : Nat) (e : Num), (numsI op n)[s]? = some e → v[s]? = some (stageN (numsI op n) wg n need e)) :
    (v.set (numsI op n).length ⟨4, -1, []⟩).set ((numsI op n).length + 1) ⟨4, 0, []⟩ = triesL op wg n need := by
  apply List.ext_getElem?
  intro i
  rw [triesL]
  rcases Nat.lt_trichotomy i (numsI op n).length with hi | hi | hi
  · rw [List.getElem?_set_ne (by omega), List.getElem?_set_ne (by omega), List.getElem?_append_left (by simpa using hi), List.getElem?_map]
    have he : (numsI op n)[i]? = some (numsI op n)[i] := List.getElem?_eq_getElem hi
    rw [h i _ he, he]; rfl
  · subst hi
    rw [List.getElem?_set_ne (by omega), List.getElem?_set_self (by omega), List.getElem?_append_right (by simp)]
    simp
  · by_cases h1 : i = (numsI op n).length + 1
    · subst h1
      rw [List.getElem?_set_self (by simp; omega), List.getElem?_append_right (by simp)]
      simp
    · rw [List.getElem?_eq_none (by simp; omega), List.getElem?_eq_none (by simp; omega)]

/-- Where a turn leads there is a stage. -/
def Leads (op : Int → Int → Bool) (wg : Int → Int → Int × Int) (n : Nat) : Prop := ∀ a b : Nat, b ≤ a → op a b = true → (a : Int) + 1 < n → ((wg a b).1 > 0 → op (a + 1 : Nat) (b + 1 : Nat) = true) ∧ ((wg a b).2 > 0 → op (a + 1 : Nat) b = true)

theorem f66tb : Try.f66.body = some (bodyAt Try.prog 66) := by kernel_rfl
def f66tK0 (P : Program) : List Item := kAt 400 [.code (bodyAt P 66)] [.stop]
def f66tS0 (n : Int) (need : Int) (p q : Int) (i : Nat) (v3 : List Num)  : St := ⟨[.junk, .junk, .clos 67 [] [], .clos 68 [] [.rptr [.int .i64 p] 0, .rptr [.int .i64 q] 0], .ptr 0 0 0, .ptr 1 0 0, .junk, .junk, .ptr 2 0 0, .junk, .ptr 4 0 0, .junk, .junk, .junk, .junk, .junk, .junk, .junk, .junk, .junk, .junk, .junk, .junk, .junk, .int .i64 n, .int .i64 (i : Int), .junk, .junk, .junk, .junk, .junk, .junk, .junk, .junk, .junk, .junk, .junk, .junk, .junk, .junk, .junk, .junk, .junk, .junk, .junk, .junk, .junk, .junk, .junk, .junk, .junk, .junk, .junk, .junk, .junk, .junk, .junk, .junk, .junk, .junk, .junk, .junk, .junk, .junk, .junk, .junk, .junk, .junk, .junk, .junk, .junk, .junk, .junk, .junk, .junk, .junk, .junk, .junk, .junk, .junk, .junk, .junk, .junk, .junk, .junk, .junk, .junk, .junk, .junk, .junk, .junk, .junk, .junk, .junk, .junk, .junk, .junk, .junk, .junk, .junk, .junk, .junk, .junk, .junk, .junk, .junk, .junk, .junk, .junk, .junk, .junk, .junk, .junk, .junk, .junk, .junk, .junk, .junk, .junk, .junk, .junk], [⟨true, 0, 1, true, [.int .i64 n], false⟩, ⟨true, 0, 1, true, [.int .i64 need], false⟩, ⟨true, 0, 1, true, [.nilSl, .nilSl, .int .i64 0], false⟩, ⟨true, 0, 0, true, (rowNum v3), false⟩, ⟨true, 0, 1, false, [.mp 3 0 false], false⟩]⟩
def f66tG0 (E : Env) (n : Int) (need : Int) (p q : Int) (i : Nat) (v3 : List Num) : Prop := G Try.prog E (f66tK0 Try.prog) (f66tS0 n need p q i v3 )
def f66tK1 (P : Program) : List Item := kAt 400 [.code (bodyAt P 66)] [.b true, .stop]
def f66tS1 (n : Int) (need : Int) (p q : Int) (k : Nat) (v3 : List Num) (t : Nat) (k1 : Nat) (k11 : Nat)  : St := ⟨[.junk, .junk, .clos 67 [] [], .clos 68 [] [.rptr [.int .i64 p] 0, .rptr [.int .i64 q] 0], .ptr 0 0 0, .ptr 1 0 0, .junk, .junk, .ptr 2 0 0, .junk, .ptr 4 0 0, .int .i64 (t : Int), .junk, .junk, .junk, .junk, .junk, .junk, .junk, .junk, .junk, .junk, .junk, .junk, .int .i64 n, .int .i64 (k1 : Int), .junk, .junk, .junk, .int .i64 (k11 : Int), .int .i64 (k : Int), .junk, .junk, .junk, .junk, .junk, .junk, .junk, .junk, .junk, .junk, .junk, .junk, .junk, .junk, .junk, .junk, .junk, .junk, .junk, .junk, .junk, .junk, .junk, .junk, .junk, .junk, .junk, .junk, .junk, .junk, .junk, .junk, .junk, .junk, .junk, .junk, .junk, .junk, .junk, .junk, .junk, .junk, .junk, .junk, .junk, .junk, .junk, .junk, .junk, .junk, .junk, .junk, .junk, .junk, .junk, .junk, .junk, .junk, .junk, .junk, .junk, .junk, .junk, .junk, .junk, .junk, .junk, .junk, .junk, .junk, .junk, .junk, .junk, .junk, .junk, .junk, .junk, .junk, .junk, .junk, .junk, .junk, .junk, .junk, .junk, .junk, .junk, .junk, .junk, .junk], [⟨true, 0, 1, true, [.int .i64 n], false⟩, ⟨true, 0, 1, true, [.int .i64 need], false⟩, ⟨true, 0, 1, true, [.nilSl, .nilSl, .int .i64 0], false⟩, ⟨true, 0, 0, true, (rowNum v3), false⟩, ⟨true, 0, 1, false, [.mp 3 0 false], false⟩]⟩
def f66tG1 (E : Env) (n : Int) (need : Int) (p q : Int) (k : Nat) (v3 : List Num) (t : Nat) (k1 : Nat) (k11 : Nat) : Prop := G Try.prog E (f66tK1 Try.prog) (f66tS1 n need p q k v3 t k1 k11 )
def f66tK2 (P : Program) : List Item := kAt 400 [.code (bodyAt P 66)] [.b false, .stop]
def f66tS2 (n : Int) (need : Int) (p q : Int) (v9 : List Nat) (v3 : List Num) (v5_0 : Nat) (v6 : List Stg) (g6 : Nat) : St := ⟨[.junk, .junk, .junk, .clos 68 [] [.rptr [.int .i64 p] 0, .rptr [.int .i64 q] 0], .junk, .junk, .junk, .junk, .ptr 2 0 0, .junk, .junk, .junk, .junk, .ptr 5 0 0, .clos 111 [] [.ptr 0 0 0, .ptr 4 0 0, .ptr 1 0 0, .ptr 5 0 0], .ptr 8 0 0, .junk, .junk, .junk, .junk, .junk, .junk, .junk, .junk, .junk, .junk, .junk, .junk, .junk, .junk, .junk, .junk, .junk, .junk, .junk, .junk, .junk, .junk, .junk, .junk, .junk, .junk, .junk, .junk, .junk, .junk, .junk, .junk, .junk, .junk, .junk, .junk, .junk, .junk, .mp 9 0 true, .junk, .junk, .junk, .junk, .junk, .junk, .junk, .junk, .junk, .junk, .junk, .junk, .junk, .junk, .junk, .junk, .junk, .junk, .junk, .junk, .junk, .junk, .junk, .junk, .junk, .junk, .junk, .junk, .junk, .junk, .junk, .junk, .junk, .junk, .junk, .junk, .junk, .junk, .junk, .junk, .junk, .junk, .junk, .junk, .junk, .junk, .junk, .junk, .junk, .junk, .junk, .junk, .junk, .junk, .junk, .junk, .junk, .junk, .junk, .junk, .junk, .junk, .junk, .junk, .junk, .junk], [⟨true, 0, 1, true, [.int .i64 n], false⟩, ⟨true, 0, 1, true, [.int .i64 need], false⟩, ⟨true, 0, 1, true, [.nilSl, .nilSl, .int .i64 0], false⟩, ⟨true, 0, 0, true, (rowNum v3), false⟩, ⟨true, 0, 1, false, [.mp 3 0 false], false⟩, ⟨true, 0, 1, true, [.int .i64 (v5_0 : Int)], false⟩, ⟨true, g6, 3, true, (rowStg v6), true⟩, ⟨true, 0, 1, true, [.int .i64 0], true⟩, ⟨true, 0, 1, false, [.sl 6 g6 0 v6.length 3, .sl 7 0 0 1 1, .int .i64 0], false⟩, ⟨true, 0, 0, false, (itA (.mp 3 0 false) (rowNum v3).length v9), false⟩]⟩
def f66tG2 (E : Env) (n : Int) (need : Int) (p q : Int) (v9 : List Nat) (v3 : List Num) (v5_0 : Nat) (v6 : List Stg) : Prop := ∀ g6 : Nat, G Try.prog E (f66tK2 Try.prog) (f66tS2 n need p q v9 v3 v5_0 v6 g6)
def f66tG2n (E : Env) (n : Int) (need : Int) (p q : Int) (v9 : List Nat) (v3 : List Num) (v5_0 : Nat) (v6 : List Stg) (s : Nat) : Prop := ∀ g6 : Nat, G Try.prog E (nextK (f66tK2 Try.prog)) ⟨[.junk, .junk, .junk, .clos 68 [] [.rptr [.int .i64 p] 0, .rptr [.int .i64 q] 0], .junk, .junk, .junk, .junk, .ptr 2 0 0, .junk, .junk, .junk, .junk, .ptr 5 0 0, .clos 111 [] [.ptr 0 0 0, .ptr 4 0 0, .ptr 1 0 0, .ptr 5 0 0], .ptr 8 0 0, .junk, .junk, .junk, .junk, .junk, .junk, .junk, .junk, .junk, .junk, .junk, .junk, .junk, .junk, .junk, .junk, .junk, .junk, .junk, .junk, .junk, .junk, .junk, .junk, .junk, .junk, .junk, .junk, .junk, .junk, .junk, .junk, .junk, .junk, .junk, .junk, .junk, .junk, .mp 9 0 true, .tup [.bool true, .junk, .junk], .junk, .junk, .junk, .junk, .junk, .junk, .junk, .junk, .junk, .junk, .junk, .junk, .junk, .junk, .junk, .junk, .junk, .junk, .junk, .junk, .junk, .junk, .junk, .junk, .junk, .junk, .junk, .junk, .junk, .junk, .junk, .junk, .junk, .junk, .junk, .junk, .junk, .junk, .junk, .junk, .junk, .junk, .junk, .junk, .junk, .junk, .junk, .junk, .junk, .junk, .junk, .junk, .junk, .junk, .junk, .junk, .junk, .junk, .junk, .junk, .junk, .junk, .junk, .junk, .junk], [⟨true, 0, 1, true, [.int .i64 n], false⟩, ⟨true, 0, 1, true, [.int .i64 need], false⟩, ⟨true, 0, 1, true, [.nilSl, .nilSl, .int .i64 0], false⟩, ⟨true, 0, 0, true, (rowNum v3), false⟩, ⟨true, 0, 1, false, [.mp 3 0 false], false⟩, ⟨true, 0, 1, true, [.int .i64 (v5_0 : Int)], false⟩, ⟨true, g6, 3, true, (rowStg v6), true⟩, ⟨true, 0, 1, true, [.int .i64 0], true⟩, ⟨true, 0, 1, false, [.sl 6 g6 0 v6.length 3, .sl 7 0 0 1 1, .int .i64 0], false⟩, ⟨true, 0, 0, false, (itA (.mp 3 0 false) (rowNum v3).length (v9 ++ [s])), false⟩]⟩
def f66tG2x (E : Env) (n : Int) (need : Int) (p q : Int) (v9 : List Nat) (v3 : List Num) (v5_0 : Nat) (v6 : List Stg) : Prop := ∀ g6 : Nat, G Try.prog E (nextK (f66tK2 Try.prog)) ⟨[.junk, .junk, .junk, .clos 68 [] [.rptr [.int .i64 p] 0, .rptr [.int .i64 q] 0], .junk, .junk, .junk, .junk, .ptr 2 0 0, .junk, .junk, .junk, .junk, .ptr 5 0 0, .clos 111 [] [.ptr 0 0 0, .ptr 4 0 0, .ptr 1 0 0, .ptr 5 0 0], .ptr 8 0 0, .junk, .junk, .junk, .junk, .junk, .junk, .junk, .junk, .junk, .junk, .junk, .junk, .junk, .junk, .junk, .junk, .junk, .junk, .junk, .junk, .junk, .junk, .junk, .junk, .junk, .junk, .junk, .junk, .junk, .junk, .junk, .junk, .junk, .junk, .junk, .junk, .junk, .junk, .mp 9 0 true, .tup [.bool false], .junk, .junk, .junk, .junk, .junk, .junk, .junk, .junk, .junk, .junk, .junk, .junk, .junk, .junk, .junk, .junk, .junk, .junk, .junk, .junk, .junk, .junk, .junk, .junk, .junk, .junk, .junk, .junk, .junk, .junk, .junk, .junk, .junk, .junk, .junk, .junk, .junk, .junk, .junk, .junk, .junk, .junk, .junk, .junk, .junk, .junk, .junk, .junk, .junk, .junk, .junk, .junk, .junk, .junk, .junk, .junk, .junk, .junk, .junk, .junk, .junk, .junk, .junk, .junk, .junk], [⟨true, 0, 1, true, [.int .i64 n], false⟩, ⟨true, 0, 1, true, [.int .i64 need], false⟩, ⟨true, 0, 1, true, [.nilSl, .nilSl, .int .i64 0], false⟩, ⟨true, 0, 0, true, (rowNum v3), false⟩, ⟨true, 0, 1, false, [.mp 3 0 false], false⟩, ⟨true, 0, 1, true, [.int .i64 (v5_0 : Int)], false⟩, ⟨true, g6, 3, true, (rowStg v6), true⟩, ⟨true, 0, 1, true, [.int .i64 0], true⟩, ⟨true, 0, 1, false, [.sl 6 g6 0 v6.length 3, .sl 7 0 0 1 1, .int .i64 0], false⟩, ⟨true, 0, 0, false, (itA (.mp 3 0 false) (rowNum v3).length v9), false⟩]⟩
theorem p66t_start_0 (n : Int) (need : Int) (p q : Int)   {E : Env} {rv : AV} (hE : PureE Try.prog 66 rv E) 
    (hg : G Try.prog E (f66tK0 Try.prog) ⟨[.junk, .junk, .clos 67 [] [], .clos 68 [] [.rptr [.int .i64 p] 0, .rptr [.int .i64 q] 0], .ptr 0 0 0, .ptr 1 0 0, .junk, .junk, .ptr 2 0 0, .junk, .ptr 4 0 0, .junk, .junk, .junk, .junk, .junk, .junk, .junk, .junk, .junk, .junk, .junk, .junk, .junk, .int .i64 n, .int .i64 0, .junk, .junk, .junk, .junk, .junk, .junk, .junk, .junk, .junk, .junk, .junk, .junk, .junk, .junk, .junk, .junk, .junk, .junk, .junk, .junk, .junk, .junk, .junk, .junk, .junk, .junk, .junk, .junk, .junk, .junk, .junk, .junk, .junk, .junk, .junk, .junk, .junk, .junk, .junk, .junk, .junk, .junk, .junk, .junk, .junk, .junk, .junk, .junk, .junk, .junk, .junk, .junk, .junk, .junk, .junk, .junk, .junk, .junk, .junk, .junk, .junk, .junk, .junk, .junk, .junk, .junk, .junk, .junk, .junk, .junk, .junk, .junk, .junk, .junk, .junk, .junk, .junk, .junk, .junk, .junk, .junk, .junk, .junk, .junk, .junk, .junk, .junk, .junk, .junk, .junk, .junk, .junk, .junk, .junk, .junk], [⟨true, 0, 1, true, [.int .i64 n], false⟩, ⟨true, 0, 1, true, [.int .i64 need], false⟩, ⟨true, 0, 1, true, [.nilSl, .nilSl, .int .i64 0], false⟩, ⟨true, 0, 0, true, [], false⟩, ⟨true, 0, 1, false, [.mp 3 0 false], false⟩]⟩) : G Try.prog E [.code (bodyAt Try.prog 66)] ⟨[.int .i64 n, .int .i64 need, .clos 67 [] [], .clos 68 [] [.rptr [.int .i64 p] 0, .rptr [.int .i64 q] 0]] ++ unds (Try.f66.ntmps - 4), []⟩ :=
  segC_step (n := 400) (ds := []) (cs := []) (live := [2, 3, 4, 5, 8, 10, 24, 25]) (m := 5) (evs := [.stop]) (obs := [1 ≤ 1]) hE.2.1 (hE.nogh _) mixed (by kernel_rfl) ⟨(by decide), trivial⟩ hg
theorem f66tW (n : Int) (need : Int) (p q : Int) {E : Env} {rv : (Stl × Int)} (hE : PureE Try.prog 66 (.tup [.agg [.rsl (rowStg rv.1.stages) 0 rv.1.stages.length, .rsl (rowI rv.1.worth) 0 rv.1.worth.length, .int .i64 rv.1.price], .int .i64 rv.2]) E)
    (h : f66tG0 E n need p q 0 ([])) : G Try.prog E [.code (bodyAt Try.prog 66)] ⟨[.int .i64 n, .int .i64 need, .clos 67 [] [], .clos 68 [] [.rptr [.int .i64 p] 0, .rptr [.int .i64 q] 0]] ++ unds (Try.f66.ntmps - 4), []⟩ := by
  exact p66t_start_0 n need p q    hE  h
theorem p66t_0_0 (n : Int) (need : Int) (p q : Int) (i : Nat) (v3 : List Num)   {E : Env} {rv : AV} (hE : PureE Try.prog 66 rv E) (o0 : (decide ((i : Int) < n)) = true) (o1 : InR .i64 ((i : Int) + 1))
    (hg : G Try.prog E (f66tK1 Try.prog) ⟨[.junk, .junk, .clos 67 [] [], .clos 68 [] [.rptr [.int .i64 p] 0, .rptr [.int .i64 q] 0], .ptr 0 0 0, .ptr 1 0 0, .junk, .junk, .ptr 2 0 0, .junk, .ptr 4 0 0, .int .i64 (i : Int), .junk, .junk, .junk, .junk, .junk, .junk, .junk, .junk, .junk, .junk, .junk, .junk, .int .i64 n, .int .i64 (i : Int), .junk, .junk, .junk, .int .i64 ((i : Int) + 1), .int .i64 0, .junk, .junk, .junk, .junk, .junk, .junk, .junk, .junk, .junk, .junk, .junk, .junk, .junk, .junk, .junk, .junk, .junk, .junk, .junk, .junk, .junk, .junk, .junk, .junk, .junk, .junk, .junk, .junk, .junk, .junk, .junk, .junk, .junk, .junk, .junk, .junk, .junk, .junk, .junk, .junk, .junk, .junk, .junk, .junk, .junk, .junk, .junk, .junk, .junk, .junk, .junk, .junk, .junk, .junk, .junk, .junk, .junk, .junk, .junk, .junk, .junk, .junk, .junk, .junk, .junk, .junk, .junk, .junk, .junk, .junk, .junk, .junk, .junk, .junk, .junk, .junk, .junk, .junk, .junk, .junk, .junk, .junk, .junk, .junk, .junk, .junk, .junk, .junk, .junk, .junk], [⟨true, 0, 1, true, [.int .i64 n], false⟩, ⟨true, 0, 1, true, [.int .i64 need], false⟩, ⟨true, 0, 1, true, [.nilSl, .nilSl, .int .i64 0], false⟩, ⟨true, 0, 0, true, (rowNum v3), false⟩, ⟨true, 0, 1, false, [.mp 3 0 false], false⟩]⟩) : G Try.prog E (f66tK0 Try.prog) (f66tS0 n need p q i v3 ) :=
  segC_step (n := 400) (ds := []) (cs := []) (live := [2, 3, 4, 5, 8, 10, 11, 24, 25, 29, 30]) (m := 5) (evs := [.b true, .stop]) (obs := [(decide ((i : Int) < n)) = true, InR .i64 ((i : Int) + 1)]) hE.2.1 (hE.nogh _) mixed (by kernel_rfl) ⟨o0, o1, trivial⟩ hg
theorem p66t_0_1 (n : Int) (need : Int) (p q : Int) (i : Nat) (v3 : List Num)   {E : Env} {rv : AV} (hE : PureE Try.prog 66 rv E) (o0 : (decide ((i : Int) < n)) = false) (o2 : InR .i64 (((((rowNum v3)).length : Nat) : Int) + 2)) (o3 : 0 ≤ (((((rowNum v3)).length : Nat) : Int) + 2) ∧ (((((rowNum v3)).length : Nat) : Int) + 2) ≤ (((((rowNum v3)).length : Nat) : Int) + 2) ∧ (((((rowNum v3)).length : Nat) : Int) + 2) ≤ 2147483648)
    (hg : G Try.prog E (f66tK2 Try.prog) ⟨[.junk, .junk, .junk, .clos 68 [] [.rptr [.int .i64 p] 0, .rptr [.int .i64 q] 0], .junk, .junk, .junk, .junk, .ptr 2 0 0, .junk, .junk, .junk, .junk, .ptr 5 0 0, .clos 111 [] [.ptr 0 0 0, .ptr 4 0 0, .ptr 1 0 0, .ptr 5 0 0], .ptr 8 0 0, .junk, .junk, .junk, .junk, .junk, .junk, .junk, .junk, .junk, .junk, .junk, .junk, .junk, .junk, .junk, .junk, .junk, .junk, .junk, .junk, .junk, .junk, .junk, .junk, .junk, .junk, .junk, .junk, .junk, .junk, .junk, .junk, .junk, .junk, .junk, .junk, .junk, .junk, .mp 9 0 true, .junk, .junk, .junk, .junk, .junk, .junk, .junk, .junk, .junk, .junk, .junk, .junk, .junk, .junk, .junk, .junk, .junk, .junk, .junk, .junk, .junk, .junk, .junk, .junk, .junk, .junk, .junk, .junk, .junk, .junk, .junk, .junk, .junk, .junk, .junk, .junk, .junk, .junk, .junk, .junk, .junk, .junk, .junk, .junk, .junk, .junk, .junk, .junk, .junk, .junk, .junk, .junk, .junk, .junk, .junk, .junk, .junk, .junk, .junk, .junk, .junk, .junk, .junk, .junk, .junk, .junk], [⟨true, 0, 1, true, [.int .i64 n], false⟩, ⟨true, 0, 1, true, [.int .i64 need], false⟩, ⟨true, 0, 1, true, [.nilSl, .nilSl, .int .i64 0], false⟩, ⟨true, 0, 0, true, (rowNum v3), false⟩, ⟨true, 0, 1, false, [.mp 3 0 false], false⟩, ⟨true, 0, 1, true, [.int .i64 ((((rowNum v3)).length : Nat) : Int)], false⟩, ⟨true, 0, 3, true, ((List.replicate (Int.toNat (((((rowNum v3)).length : Nat) : Int) + 2)) ([.int .i64 0, .int .i64 0, .nilSl] : List AV)).flatten), true⟩, ⟨true, 0, 1, true, [.int .i64 0], true⟩, ⟨true, 0, 1, false, [.sl 6 0 0 (Int.toNat (((((rowNum v3)).length : Nat) : Int) + 2)) 3, .sl 7 0 0 1 1, .int .i64 0], false⟩, ⟨true, 0, 0, false, (itA (.mp 3 0 false) (rowNum v3).length ([] : List Nat)), false⟩]⟩) : G Try.prog E (f66tK0 Try.prog) (f66tS0 n need p q i v3 ) :=
  segC_step (n := 400) (ds := []) (cs := []) (live := [3, 8, 13, 14, 15, 54]) (m := 10) (evs := [.b false, .stop]) (obs := [(decide ((i : Int) < n)) = false, 1 ≤ 1, InR .i64 (((((rowNum v3)).length : Nat) : Int) + 2), 0 ≤ (((((rowNum v3)).length : Nat) : Int) + 2) ∧ (((((rowNum v3)).length : Nat) : Int) + 2) ≤ (((((rowNum v3)).length : Nat) : Int) + 2) ∧ (((((rowNum v3)).length : Nat) : Int) + 2) ≤ 2147483648, 3 ≤ 3]) hE.2.1 (hE.nogh _) mixed (by kernel_rfl) ⟨o0, (by decide), o2, o3, (by decide), trivial⟩ hg
theorem f66tW0 (n : Int) (need : Int) (p q : Int) (i : Nat) (v3 : List Num) {E : Env} {rv : (Stl × Int)} (hE : PureE Try.prog 66 (.tup [.agg [.rsl (rowStg rv.1.stages) 0 rv.1.stages.length, .rsl (rowI rv.1.worth) 0 rv.1.worth.length, .int .i64 rv.1.price], .int .i64 rv.2]) E)
    (h : (((i : Int) < n → ((-9223372036854775808 ≤ (i : Int) + 1 ∧ (i : Int) + 1 ≤ 9223372036854775807) ∧ f66tG1 E n need p q 0 v3 i i (i + 1))) ∧ (¬ ((i : Int) < n) → ((-9223372036854775808 ≤ ((((rowNum v3)).length : Nat) : Int) + 2 ∧ ((((rowNum v3)).length : Nat) : Int) + 2 ≤ 9223372036854775807) ∧ (((((rowNum v3)).length) + 2) ≤ 2147483648 ∧ f66tG2 E n need p q ([] : List Nat) v3 (((rowNum v3)).length) (List.replicate ((((rowNum v3)).length) + 2) ((⟨0, 0, ([] : List Trn)⟩ : Stg) : Stg))))))) : f66tG0 E n need p q i v3 := by
  rcases Bool.eq_false_or_eq_true (decide ((i : Int) < n)) with hc0 | hc0
  · have h := h.1 (of_decide_eq_true hc0)
    obtain ⟨q1_1, h⟩ := h
    exact p66t_0_0 n need p q i v3   hE hc0 q1_1 h
  · have h := h.2 (of_decide_eq_false hc0)
    obtain ⟨q2_1, h⟩ := h
    obtain ⟨h1, h⟩ := h
    refine p66t_0_1 n need p q i v3   hE hc0 q2_1 ⟨by omega, by omega, by have := h1; omega⟩ ?_
    refine weakB_step (k := 6) (cells' := (rowStg (List.replicate ((((rowNum v3)).length) + 2) ((⟨0, 0, ([] : List Trn)⟩ : Stg) : Stg)))) rfl rfl (by simp) rfl (by have hx := AvLeB.rep (n := ((((rowNum v3)).length) + 2)) (show AvLeB [.int .i64 0, .int .i64 0, .nilSl] (cStg ((⟨0, 0, ([] : List Trn)⟩ : Stg) : Stg)) from ⟨AvLe.of_eq rfl, rfl, rfl, ⟨AvLe.of_eq rfl, rfl, rfl, ⟨nil_le, rfl, rfl, trivial⟩⟩⟩); rw [show (List.replicate ((((rowNum v3)).length) + 2) (cStg ((⟨0, 0, ([] : List Trn)⟩ : Stg) : Stg))).flatten = rowStg (List.replicate ((((rowNum v3)).length) + 2) ((⟨0, 0, ([] : List Trn)⟩ : Stg) : Stg)) from row_rep cStg _ _] at hx; exact hx) ?_
    simp only [List.set_cons_succ, List.set_cons_zero]
    have h := (h 0)
    simp only [f66tG2, f66tS2, List.length_set, List.length_replicate] at h
    skip
    exact h
theorem p66t_1_0 (n : Int) (need : Int) (p q : Int) (k : Nat) (v3 : List Num) (t : Nat) (k1 : Nat) (k11 : Nat)   {E : Env} {rv : AV} (hE : PureE Try.prog 66 rv E) (o0 : (decide ((k : Int) < (k11 : Int))) = true) (o1 : PureF Try.prog (.clos 67 [] []) [.int .i64 (t : Int), .int .i64 (k : Int)] (.bool (opT (t : Int) (k : Int)))) (o2 : (opT (t : Int) (k : Int)) = true) (o3 : KeyNew Try.prog 34 (.agg [.int .i64 (t : Int), .int .i64 (k : Int)]) (rowNum v3)) (o4 : InR .i64 ((k : Int) + 1))
    (hg : G Try.prog E (f66tK1 Try.prog) ⟨[.junk, .junk, .clos 67 [] [], .clos 68 [] [.rptr [.int .i64 p] 0, .rptr [.int .i64 q] 0], .ptr 0 0 0, .ptr 1 0 0, .junk, .junk, .ptr 2 0 0, .junk, .ptr 4 0 0, .int .i64 (t : Int), .junk, .junk, .junk, .junk, .junk, .junk, .junk, .junk, .junk, .junk, .junk, .junk, .int .i64 n, .int .i64 (k1 : Int), .junk, .junk, .junk, .int .i64 (k11 : Int), .int .i64 ((k : Int) + 1), .junk, .junk, .junk, .junk, .junk, .junk, .junk, .junk, .junk, .junk, .junk, .junk, .junk, .junk, .junk, .junk, .junk, .junk, .junk, .junk, .junk, .junk, .junk, .junk, .junk, .junk, .junk, .junk, .junk, .junk, .junk, .junk, .junk, .junk, .junk, .junk, .junk, .junk, .junk, .junk, .junk, .junk, .junk, .junk, .junk, .junk, .junk, .junk, .junk, .junk, .junk, .junk, .junk, .junk, .junk, .junk, .junk, .junk, .junk, .junk, .junk, .junk, .junk, .junk, .junk, .junk, .junk, .junk, .junk, .junk, .junk, .junk, .junk, .junk, .junk, .junk, .junk, .junk, .junk, .junk, .junk, .junk, .junk, .junk, .junk, .junk, .junk, .junk, .junk, .junk], [⟨true, 0, 1, true, [.int .i64 n], false⟩, ⟨true, 0, 1, true, [.int .i64 need], false⟩, ⟨true, 0, 1, true, [.nilSl, .nilSl, .int .i64 0], false⟩, ⟨true, 0, 0, true, ((rowNum v3) ++ [.clos 0 [.agg [.int .i64 (t : Int), .int .i64 (k : Int)]] [.int .i64 ((((rowNum v3)).length : Nat) : Int)]]), false⟩, ⟨true, 0, 1, false, [.mp 3 0 false], false⟩]⟩) : G Try.prog E (f66tK1 Try.prog) (f66tS1 n need p q k v3 t k1 k11 ) :=
  segC_step (n := 400) (ds := []) (cs := []) (live := [2, 3, 4, 5, 8, 10, 11, 24, 25, 29, 30]) (m := 5) (evs := [.b true, .v (.bool (opT (t : Int) (k : Int))), .b true, .stop]) (obs := [(decide ((k : Int) < (k11 : Int))) = true, PureF Try.prog (.clos 67 [] []) [.int .i64 (t : Int), .int .i64 (k : Int)] (.bool (opT (t : Int) (k : Int))), (opT (t : Int) (k : Int)) = true, KeyNew Try.prog 34 (.agg [.int .i64 (t : Int), .int .i64 (k : Int)]) (rowNum v3), InR .i64 ((k : Int) + 1)]) hE.2.1 (hE.nogh _) mixed (by kernel_rfl) ⟨o0, o1, o2, o3, o4, trivial⟩ hg
theorem p66t_1_1 (n : Int) (need : Int) (p q : Int) (k : Nat) (v3 : List Num) (t : Nat) (k1 : Nat) (k11 : Nat)   {E : Env} {rv : AV} (hE : PureE Try.prog 66 rv E) (o0 : (decide ((k : Int) < (k11 : Int))) = true) (o1 : PureF Try.prog (.clos 67 [] []) [.int .i64 (t : Int), .int .i64 (k : Int)] (.bool (opT (t : Int) (k : Int)))) (o2 : (opT (t : Int) (k : Int)) = false) (o3 : InR .i64 ((k : Int) + 1))
    (hg : G Try.prog E (f66tK1 Try.prog) ⟨[.junk, .junk, .clos 67 [] [], .clos 68 [] [.rptr [.int .i64 p] 0, .rptr [.int .i64 q] 0], .ptr 0 0 0, .ptr 1 0 0, .junk, .junk, .ptr 2 0 0, .junk, .ptr 4 0 0, .int .i64 (t : Int), .junk, .junk, .junk, .junk, .junk, .junk, .junk, .junk, .junk, .junk, .junk, .junk, .int .i64 n, .int .i64 (k1 : Int), .junk, .junk, .junk, .int .i64 (k11 : Int), .int .i64 ((k : Int) + 1), .junk, .junk, .junk, .junk, .junk, .junk, .junk, .junk, .junk, .junk, .junk, .junk, .junk, .junk, .junk, .junk, .junk, .junk, .junk, .junk, .junk, .junk, .junk, .junk, .junk, .junk, .junk, .junk, .junk, .junk, .junk, .junk, .junk, .junk, .junk, .junk, .junk, .junk, .junk, .junk, .junk, .junk, .junk, .junk, .junk, .junk, .junk, .junk, .junk, .junk, .junk, .junk, .junk, .junk, .junk, .junk, .junk, .junk, .junk, .junk, .junk, .junk, .junk, .junk, .junk, .junk, .junk, .junk, .junk, .junk, .junk, .junk, .junk, .junk, .junk, .junk, .junk, .junk, .junk, .junk, .junk, .junk, .junk, .junk, .junk, .junk, .junk, .junk, .junk, .junk], [⟨true, 0, 1, true, [.int .i64 n], false⟩, ⟨true, 0, 1, true, [.int .i64 need], false⟩, ⟨true, 0, 1, true, [.nilSl, .nilSl, .int .i64 0], false⟩, ⟨true, 0, 0, true, (rowNum v3), false⟩, ⟨true, 0, 1, false, [.mp 3 0 false], false⟩]⟩) : G Try.prog E (f66tK1 Try.prog) (f66tS1 n need p q k v3 t k1 k11 ) :=
  segC_step (n := 400) (ds := []) (cs := []) (live := [2, 3, 4, 5, 8, 10, 11, 24, 25, 29, 30]) (m := 5) (evs := [.b true, .v (.bool (opT (t : Int) (k : Int))), .b false, .stop]) (obs := [(decide ((k : Int) < (k11 : Int))) = true, PureF Try.prog (.clos 67 [] []) [.int .i64 (t : Int), .int .i64 (k : Int)] (.bool (opT (t : Int) (k : Int))), (opT (t : Int) (k : Int)) = false, InR .i64 ((k : Int) + 1)]) hE.2.1 (hE.nogh _) mixed (by kernel_rfl) ⟨o0, o1, o2, o3, trivial⟩ hg
theorem p66t_1_2 (n : Int) (need : Int) (p q : Int) (k : Nat) (v3 : List Num) (t : Nat) (k1 : Nat) (k11 : Nat)   {E : Env} {rv : AV} (hE : PureE Try.prog 66 rv E) (o0 : (decide ((k : Int) < (k11 : Int))) = false) (o1 : InR .i64 ((k1 : Int) + 1))
    (hg : G Try.prog E (f66tK0 Try.prog) ⟨[.junk, .junk, .clos 67 [] [], .clos 68 [] [.rptr [.int .i64 p] 0, .rptr [.int .i64 q] 0], .ptr 0 0 0, .ptr 1 0 0, .junk, .junk, .ptr 2 0 0, .junk, .ptr 4 0 0, .junk, .junk, .junk, .junk, .junk, .junk, .junk, .junk, .junk, .junk, .junk, .junk, .junk, .int .i64 n, .int .i64 ((k1 : Int) + 1), .junk, .junk, .junk, .junk, .junk, .junk, .junk, .junk, .junk, .junk, .junk, .junk, .junk, .junk, .junk, .junk, .junk, .junk, .junk, .junk, .junk, .junk, .junk, .junk, .junk, .junk, .junk, .junk, .junk, .junk, .junk, .junk, .junk, .junk, .junk, .junk, .junk, .junk, .junk, .junk, .junk, .junk, .junk, .junk, .junk, .junk, .junk, .junk, .junk, .junk, .junk, .junk, .junk, .junk, .junk, .junk, .junk, .junk, .junk, .junk, .junk, .junk, .junk, .junk, .junk, .junk, .junk, .junk, .junk, .junk, .junk, .junk, .junk, .junk, .junk, .junk, .junk, .junk, .junk, .junk, .junk, .junk, .junk, .junk, .junk, .junk, .junk, .junk, .junk, .junk, .junk, .junk, .junk, .junk, .junk], [⟨true, 0, 1, true, [.int .i64 n], false⟩, ⟨true, 0, 1, true, [.int .i64 need], false⟩, ⟨true, 0, 1, true, [.nilSl, .nilSl, .int .i64 0], false⟩, ⟨true, 0, 0, true, (rowNum v3), false⟩, ⟨true, 0, 1, false, [.mp 3 0 false], false⟩]⟩) : G Try.prog E (f66tK1 Try.prog) (f66tS1 n need p q k v3 t k1 k11 ) :=
  segC_step (n := 400) (ds := []) (cs := []) (live := [2, 3, 4, 5, 8, 10, 24, 25]) (m := 5) (evs := [.b false, .stop]) (obs := [(decide ((k : Int) < (k11 : Int))) = false, InR .i64 ((k1 : Int) + 1)]) hE.2.1 (hE.nogh _) mixed (by kernel_rfl) ⟨o0, o1, trivial⟩ hg
theorem f66tW1 (n : Int) (need : Int) (p q : Int) (k : Nat) (v3 : List Num) (t : Nat) (k1 : Nat) (k11 : Nat) {E : Env} {rv : (Stl × Int)} (hE : PureE Try.prog 66 (.tup [.agg [.rsl (rowStg rv.1.stages) 0 rv.1.stages.length, .rsl (rowI rv.1.worth) 0 rv.1.worth.length, .int .i64 rv.1.price], .int .i64 rv.2]) E)
    (h : (((k : Int) < (k11 : Int) → (((opT (t : Int) (k : Int)) = true → ((∀ e ∈ v3, ¬ (e.t = (t : Int) ∧ e.h = (k : Int))) ∧ ((-9223372036854775808 ≤ (k : Int) + 1 ∧ (k : Int) + 1 ≤ 9223372036854775807) ∧ f66tG1 E n need p q (k + 1) (v3 ++ [(⟨(t : Int), (k : Int), ((((rowNum v3)).length : Nat) : Int)⟩ : Num)]) t k1 k11))) ∧ ((opT (t : Int) (k : Int)) = false → ((-9223372036854775808 ≤ (k : Int) + 1 ∧ (k : Int) + 1 ≤ 9223372036854775807) ∧ f66tG1 E n need p q (k + 1) v3 t k1 k11)))) ∧ (¬ ((k : Int) < (k11 : Int)) → ((-9223372036854775808 ≤ (k1 : Int) + 1 ∧ (k1 : Int) + 1 ≤ 9223372036854775807) ∧ f66tG0 E n need p q (k1 + 1) v3)))) : f66tG1 E n need p q k v3 t k1 k11 := by
  rcases Bool.eq_false_or_eq_true (decide ((k : Int) < (k11 : Int))) with hc0 | hc0
  · have h := h.1 (of_decide_eq_true hc0)
    rcases Bool.eq_false_or_eq_true (opT (t : Int) (k : Int)) with hc1 | hc1
    · have h := h.1 hc1
      obtain ⟨h1, h⟩ := h
      obtain ⟨q4_2, h⟩ := h
      refine p66t_1_0 n need p q k v3 t k1 k11   hE hc0 (pureF_of Try.func67 (by kernel_rfl) f67b (opT_ok (t : Int) (k : Int))) hc1 (keyNew_num h1) q4_2 ?_
      rw [(show rowNum v3 ++ [.clos 0 [.agg [.int .i64 (t : Int), .int .i64 (k : Int)]] [.int .i64 ((((rowNum v3)).length : Nat) : Int)]] = rowNum (v3 ++ [(⟨(t : Int), (k : Int), ((((rowNum v3)).length : Nat) : Int)⟩ : Num)]) from (row_app cNum v3 [(⟨(t : Int), (k : Int), ((((rowNum v3)).length : Nat) : Int)⟩ : Num)]).symm)]; exact h
    · have h := h.2 hc1
      obtain ⟨q3_2, h⟩ := h
      exact p66t_1_1 n need p q k v3 t k1 k11   hE hc0 (pureF_of Try.func67 (by kernel_rfl) f67b (opT_ok (t : Int) (k : Int))) hc1 q3_2 h
  · have h := h.2 (of_decide_eq_false hc0)
    obtain ⟨q1_1, h⟩ := h
    exact p66t_1_2 n need p q k v3 t k1 k11   hE hc0 q1_1 h
theorem p66t_2n_0 (n : Int) (need : Int) (p q : Int) (v9 : List Nat) (v3 : List Num) (v5_0 : Nat) (v6 : List Stg) (s : Nat) (g6 : Nat) (ne : Num) (se : Stg)  {E : Env} {rv : AV} (hE : PureE Try.prog 66 rv E) (o5 : (rowNum v3)[s]? = some (.clos 0 [.agg [.int .i64 ne.t, .int .i64 ne.h]] [.int .i64 ne.v])) (o10 : PureF Try.prog (.clos 68 [] [.rptr [.int .i64 p] 0, .rptr [.int .i64 q] 0]) [.int .i64 ne.t, .int .i64 ne.h] (.tup [.int .i64 ((wgT p q ne.t ne.h).1), .int .i64 ((wgT p q ne.t ne.h).2)])) (o11 : (decide ((wgT p q ne.t ne.h).1 > 0)) = true) (o12 : InR .i64 (ne.t + 1)) (o13 : InR .i64 (ne.h + 1)) (o14 : PureF Try.prog (.clos 111 [] [.rptr [.int .i64 n] 0, .rptr [.rmap (rowNum v3)] 0, .rptr [.int .i64 need] 0, .rptr [.int .i64 (v5_0 : Int)] 0]) [.int .i64 (ne.t + 1), .int .i64 (ne.h + 1)] (.int .i64 (toI v3 n need (v5_0 : Int) (ne.t + 1) (ne.h + 1)))) (o18 : (decide ((wgT p q ne.t ne.h).2 > 0)) = true) (o19 : InR .i64 (ne.t + 1)) (o20 : PureF Try.prog (.clos 111 [] [.rptr [.int .i64 n] 0, .rptr [.rmap (rowNum v3)] 0, .rptr [.int .i64 need] 0, .rptr [.int .i64 (v5_0 : Int)] 0]) [.int .i64 (ne.t + 1), .int .i64 ne.h] (.int .i64 (toI v3 n need (v5_0 : Int) (ne.t + 1) ne.h))) (o27 : 0 ≤ ne.v ∧ ne.v < (v6.length : Int)) (o29 : ((0 + (Int.toNat ne.v) * 3) + 3) ≤ (rowStg v6).length)
    (hg : G Try.prog E (f66tK2 Try.prog) ⟨[.junk, .junk, .junk, .clos 68 [] [.rptr [.int .i64 p] 0, .rptr [.int .i64 q] 0], .junk, .junk, .junk, .junk, .ptr 2 0 0, .junk, .junk, .junk, .junk, .ptr 5 0 0, .clos 111 [] [.ptr 0 0 0, .ptr 4 0 0, .ptr 1 0 0, .ptr 5 0 0], .ptr 8 0 0, .junk, .junk, .junk, .junk, .junk, .junk, .junk, .junk, .junk, .junk, .junk, .junk, .junk, .junk, .junk, .junk, .junk, .junk, .junk, .junk, .junk, .junk, .junk, .junk, .junk, .junk, .junk, .junk, .junk, .junk, .junk, .junk, .junk, .junk, .junk, .junk, .junk, .junk, .mp 9 0 true, .junk, .junk, .junk, .junk, .junk, .junk, .junk, .junk, .junk, .junk, .junk, .junk, .junk, .junk, .junk, .junk, .junk, .junk, .junk, .junk, .junk, .junk, .junk, .junk, .junk, .junk, .junk, .junk, .junk, .junk, .junk, .junk, .junk, .junk, .junk, .junk, .junk, .junk, .junk, .junk, .junk, .junk, .junk, .junk, .junk, .junk, .junk, .junk, .junk, .junk, .junk, .junk, .junk, .junk, .junk, .junk, .junk, .junk, .junk, .junk, .junk, .junk, .junk, .junk, .junk, .junk], [⟨true, 0, 1, true, [.int .i64 n], false⟩, ⟨true, 0, 1, true, [.int .i64 need], false⟩, ⟨true, 0, 1, true, [.nilSl, .nilSl, .int .i64 0], false⟩, ⟨true, 0, 0, true, (rowNum v3), false⟩, ⟨true, 0, 1, false, [.mp 3 0 false], false⟩, ⟨true, 0, 1, true, [.int .i64 (v5_0 : Int)], false⟩, ⟨true, g6, 3, true, (setAt (rowStg v6) (0 + (Int.toNat ne.v) * 3) [.int .i64 1, .int .i64 0, .rsl [.int .i64 ((wgT p q ne.t ne.h).1), .int .i64 (toI v3 n need (v5_0 : Int) (ne.t + 1) (ne.h + 1)), .int .i64 ((wgT p q ne.t ne.h).2), .int .i64 (toI v3 n need (v5_0 : Int) (ne.t + 1) ne.h)] 0 2]), true⟩, ⟨true, 0, 1, true, [.int .i64 0], true⟩, ⟨true, 0, 1, false, [.sl 6 g6 0 v6.length 3, .sl 7 0 0 1 1, .int .i64 0], false⟩, ⟨true, 0, 0, false, (itA (.mp 3 0 false) (rowNum v3).length (v9 ++ [s])), false⟩]⟩) : G Try.prog E (nextK (f66tK2 Try.prog)) ⟨[.junk, .junk, .junk, .clos 68 [] [.rptr [.int .i64 p] 0, .rptr [.int .i64 q] 0], .junk, .junk, .junk, .junk, .ptr 2 0 0, .junk, .junk, .junk, .junk, .ptr 5 0 0, .clos 111 [] [.ptr 0 0 0, .ptr 4 0 0, .ptr 1 0 0, .ptr 5 0 0], .ptr 8 0 0, .junk, .junk, .junk, .junk, .junk, .junk, .junk, .junk, .junk, .junk, .junk, .junk, .junk, .junk, .junk, .junk, .junk, .junk, .junk, .junk, .junk, .junk, .junk, .junk, .junk, .junk, .junk, .junk, .junk, .junk, .junk, .junk, .junk, .junk, .junk, .junk, .junk, .junk, .mp 9 0 true, .tup [.bool true, .junk, .junk], .junk, .junk, .junk, .junk, .junk, .junk, .junk, .junk, .junk, .junk, .junk, .junk, .junk, .junk, .junk, .junk, .junk, .junk, .junk, .junk, .junk, .junk, .junk, .junk, .junk, .junk, .junk, .junk, .junk, .junk, .junk, .junk, .junk, .junk, .junk, .junk, .junk, .junk, .junk, .junk, .junk, .junk, .junk, .junk, .junk, .junk, .junk, .junk, .junk, .junk, .junk, .junk, .junk, .junk, .junk, .junk, .junk, .junk, .junk, .junk, .junk, .junk, .junk, .junk, .junk], [⟨true, 0, 1, true, [.int .i64 n], false⟩, ⟨true, 0, 1, true, [.int .i64 need], false⟩, ⟨true, 0, 1, true, [.nilSl, .nilSl, .int .i64 0], false⟩, ⟨true, 0, 0, true, (rowNum v3), false⟩, ⟨true, 0, 1, false, [.mp 3 0 false], false⟩, ⟨true, 0, 1, true, [.int .i64 (v5_0 : Int)], false⟩, ⟨true, g6, 3, true, (rowStg v6), true⟩, ⟨true, 0, 1, true, [.int .i64 0], true⟩, ⟨true, 0, 1, false, [.sl 6 g6 0 v6.length 3, .sl 7 0 0 1 1, .int .i64 0], false⟩, ⟨true, 0, 0, false, (itA (.mp 3 0 false) (rowNum v3).length (v9 ++ [s])), false⟩]⟩ :=
  segC_step (n := 400) (ds := []) (cs := []) (live := [3, 8, 13, 14, 15, 54]) (m := 10) (evs := [.b true, .ment s (.agg [.int .i64 ne.t, .int .i64 ne.h]) (.int .i64 ne.v), .v (.tup [.int .i64 ((wgT p q ne.t ne.h).1), .int .i64 ((wgT p q ne.t ne.h).2)]), .b true, .v (.int .i64 (toI v3 n need (v5_0 : Int) (ne.t + 1) (ne.h + 1))), .b true, .v (.int .i64 (toI v3 n need (v5_0 : Int) (ne.t + 1) ne.h)), .frz 11 2, .stop]) (obs := [true = true, (itA (.mp 3 0 false) (rowNum v3).length (v9 ++ [s])).getLast? = some (.int .i64 s), (itA (.mp 3 0 false) (rowNum v3).length (v9 ++ [s]))[1]? = some (.int .i64 (rowNum v3).length), 2 < (itA (.mp 3 0 false) (rowNum v3).length (v9 ++ [s])).length, (rowNum v3)[s]? = some (.clos 0 [.agg [.int .i64 ne.t, .int .i64 ne.h]] [.int .i64 ne.v]), 2 ≤ 2, (0 : Int) ≤ 0 ∧ (0 : Int) < ((2 : Nat) : Int), (0 : Int) ≤ 1 ∧ (1 : Int) < ((2 : Nat) : Int), 3 ≤ 3, PureF Try.prog (.clos 68 [] [.rptr [.int .i64 p] 0, .rptr [.int .i64 q] 0]) [.int .i64 ne.t, .int .i64 ne.h] (.tup [.int .i64 ((wgT p q ne.t ne.h).1), .int .i64 ((wgT p q ne.t ne.h).2)]), (decide ((wgT p q ne.t ne.h).1 > 0)) = true, InR .i64 (ne.t + 1), InR .i64 (ne.h + 1), PureF Try.prog (.clos 111 [] [.rptr [.int .i64 n] 0, .rptr [.rmap (rowNum v3)] 0, .rptr [.int .i64 need] 0, .rptr [.int .i64 (v5_0 : Int)] 0]) [.int .i64 (ne.t + 1), .int .i64 (ne.h + 1)] (.int .i64 (toI v3 n need (v5_0 : Int) (ne.t + 1) (ne.h + 1))), 1 ≤ 2147483648, 0 = 0, 3 ≤ 3, (decide ((wgT p q ne.t ne.h).2 > 0)) = true, InR .i64 (ne.t + 1), PureF Try.prog (.clos 111 [] [.rptr [.int .i64 n] 0, .rptr [.rmap (rowNum v3)] 0, .rptr [.int .i64 need] 0, .rptr [.int .i64 (v5_0 : Int)] 0]) [.int .i64 (ne.t + 1), .int .i64 ne.h] (.int .i64 (toI v3 n need (v5_0 : Int) (ne.t + 1) ne.h)), 0 = 0, 2 = 2, 2 ≤ 2147483648, 0 = 0, 3 ≤ 3, 0 ≤ ne.v ∧ ne.v < (v6.length : Int), g6 = g6, ((0 + (Int.toNat ne.v) * 3) + 3) ≤ (rowStg v6).length, g6 = g6]) hE.2.1 (hE.nogh _) mixed (by kernel_rfl) ⟨(rfl), (it_last), (rfl), (it_two), o5, (by decide), (⟨by decide, by decide⟩), (⟨by decide, by decide⟩), (by decide), o10, o11, o12, o13, o14, (by decide), (rfl), (by decide), o18, o19, o20, (rfl), (rfl), (by decide), (rfl), (by decide), o27, (rfl), o29, (rfl), trivial⟩ hg
theorem p66t_2n_1 (n : Int) (need : Int) (p q : Int) (v9 : List Nat) (v3 : List Num) (v5_0 : Nat) (v6 : List Stg) (s : Nat) (g6 : Nat) (ne : Num) (se : Stg)  {E : Env} {rv : AV} (hE : PureE Try.prog 66 rv E) (o5 : (rowNum v3)[s]? = some (.clos 0 [.agg [.int .i64 ne.t, .int .i64 ne.h]] [.int .i64 ne.v])) (o10 : PureF Try.prog (.clos 68 [] [.rptr [.int .i64 p] 0, .rptr [.int .i64 q] 0]) [.int .i64 ne.t, .int .i64 ne.h] (.tup [.int .i64 ((wgT p q ne.t ne.h).1), .int .i64 ((wgT p q ne.t ne.h).2)])) (o11 : (decide ((wgT p q ne.t ne.h).1 > 0)) = true) (o12 : InR .i64 (ne.t + 1)) (o13 : InR .i64 (ne.h + 1)) (o14 : PureF Try.prog (.clos 111 [] [.rptr [.int .i64 n] 0, .rptr [.rmap (rowNum v3)] 0, .rptr [.int .i64 need] 0, .rptr [.int .i64 (v5_0 : Int)] 0]) [.int .i64 (ne.t + 1), .int .i64 (ne.h + 1)] (.int .i64 (toI v3 n need (v5_0 : Int) (ne.t + 1) (ne.h + 1)))) (o18 : (decide ((wgT p q ne.t ne.h).2 > 0)) = false) (o20 : 0 ≤ ne.v ∧ ne.v < (v6.length : Int)) (o22 : ((0 + (Int.toNat ne.v) * 3) + 3) ≤ (rowStg v6).length)
    (hg : G Try.prog E (f66tK2 Try.prog) ⟨[.junk, .junk, .junk, .clos 68 [] [.rptr [.int .i64 p] 0, .rptr [.int .i64 q] 0], .junk, .junk, .junk, .junk, .ptr 2 0 0, .junk, .junk, .junk, .junk, .ptr 5 0 0, .clos 111 [] [.ptr 0 0 0, .ptr 4 0 0, .ptr 1 0 0, .ptr 5 0 0], .ptr 8 0 0, .junk, .junk, .junk, .junk, .junk, .junk, .junk, .junk, .junk, .junk, .junk, .junk, .junk, .junk, .junk, .junk, .junk, .junk, .junk, .junk, .junk, .junk, .junk, .junk, .junk, .junk, .junk, .junk, .junk, .junk, .junk, .junk, .junk, .junk, .junk, .junk, .junk, .junk, .mp 9 0 true, .junk, .junk, .junk, .junk, .junk, .junk, .junk, .junk, .junk, .junk, .junk, .junk, .junk, .junk, .junk, .junk, .junk, .junk, .junk, .junk, .junk, .junk, .junk, .junk, .junk, .junk, .junk, .junk, .junk, .junk, .junk, .junk, .junk, .junk, .junk, .junk, .junk, .junk, .junk, .junk, .junk, .junk, .junk, .junk, .junk, .junk, .junk, .junk, .junk, .junk, .junk, .junk, .junk, .junk, .junk, .junk, .junk, .junk, .junk, .junk, .junk, .junk, .junk, .junk, .junk, .junk], [⟨true, 0, 1, true, [.int .i64 n], false⟩, ⟨true, 0, 1, true, [.int .i64 need], false⟩, ⟨true, 0, 1, true, [.nilSl, .nilSl, .int .i64 0], false⟩, ⟨true, 0, 0, true, (rowNum v3), false⟩, ⟨true, 0, 1, false, [.mp 3 0 false], false⟩, ⟨true, 0, 1, true, [.int .i64 (v5_0 : Int)], false⟩, ⟨true, g6, 3, true, (setAt (rowStg v6) (0 + (Int.toNat ne.v) * 3) [.int .i64 1, .int .i64 0, .rsl [.int .i64 ((wgT p q ne.t ne.h).1), .int .i64 (toI v3 n need (v5_0 : Int) (ne.t + 1) (ne.h + 1))] 0 1]), true⟩, ⟨true, 0, 1, true, [.int .i64 0], true⟩, ⟨true, 0, 1, false, [.sl 6 g6 0 v6.length 3, .sl 7 0 0 1 1, .int .i64 0], false⟩, ⟨true, 0, 0, false, (itA (.mp 3 0 false) (rowNum v3).length (v9 ++ [s])), false⟩]⟩) : G Try.prog E (nextK (f66tK2 Try.prog)) ⟨[.junk, .junk, .junk, .clos 68 [] [.rptr [.int .i64 p] 0, .rptr [.int .i64 q] 0], .junk, .junk, .junk, .junk, .ptr 2 0 0, .junk, .junk, .junk, .junk, .ptr 5 0 0, .clos 111 [] [.ptr 0 0 0, .ptr 4 0 0, .ptr 1 0 0, .ptr 5 0 0], .ptr 8 0 0, .junk, .junk, .junk, .junk, .junk, .junk, .junk, .junk, .junk, .junk, .junk, .junk, .junk, .junk, .junk, .junk, .junk, .junk, .junk, .junk, .junk, .junk, .junk, .junk, .junk, .junk, .junk, .junk, .junk, .junk, .junk, .junk, .junk, .junk, .junk, .junk, .junk, .junk, .mp 9 0 true, .tup [.bool true, .junk, .junk], .junk, .junk, .junk, .junk, .junk, .junk, .junk, .junk, .junk, .junk, .junk, .junk, .junk, .junk, .junk, .junk, .junk, .junk, .junk, .junk, .junk, .junk, .junk, .junk, .junk, .junk, .junk, .junk, .junk, .junk, .junk, .junk, .junk, .junk, .junk, .junk, .junk, .junk, .junk, .junk, .junk, .junk, .junk, .junk, .junk, .junk, .junk, .junk, .junk, .junk, .junk, .junk, .junk, .junk, .junk, .junk, .junk, .junk, .junk, .junk, .junk, .junk, .junk, .junk, .junk], [⟨true, 0, 1, true, [.int .i64 n], false⟩, ⟨true, 0, 1, true, [.int .i64 need], false⟩, ⟨true, 0, 1, true, [.nilSl, .nilSl, .int .i64 0], false⟩, ⟨true, 0, 0, true, (rowNum v3), false⟩, ⟨true, 0, 1, false, [.mp 3 0 false], false⟩, ⟨true, 0, 1, true, [.int .i64 (v5_0 : Int)], false⟩, ⟨true, g6, 3, true, (rowStg v6), true⟩, ⟨true, 0, 1, true, [.int .i64 0], true⟩, ⟨true, 0, 1, false, [.sl 6 g6 0 v6.length 3, .sl 7 0 0 1 1, .int .i64 0], false⟩, ⟨true, 0, 0, false, (itA (.mp 3 0 false) (rowNum v3).length (v9 ++ [s])), false⟩]⟩ :=
  segC_step (n := 400) (ds := []) (cs := []) (live := [3, 8, 13, 14, 15, 54]) (m := 10) (evs := [.b true, .ment s (.agg [.int .i64 ne.t, .int .i64 ne.h]) (.int .i64 ne.v), .v (.tup [.int .i64 ((wgT p q ne.t ne.h).1), .int .i64 ((wgT p q ne.t ne.h).2)]), .b true, .v (.int .i64 (toI v3 n need (v5_0 : Int) (ne.t + 1) (ne.h + 1))), .b false, .frz 11 2, .stop]) (obs := [true = true, (itA (.mp 3 0 false) (rowNum v3).length (v9 ++ [s])).getLast? = some (.int .i64 s), (itA (.mp 3 0 false) (rowNum v3).length (v9 ++ [s]))[1]? = some (.int .i64 (rowNum v3).length), 2 < (itA (.mp 3 0 false) (rowNum v3).length (v9 ++ [s])).length, (rowNum v3)[s]? = some (.clos 0 [.agg [.int .i64 ne.t, .int .i64 ne.h]] [.int .i64 ne.v]), 2 ≤ 2, (0 : Int) ≤ 0 ∧ (0 : Int) < ((2 : Nat) : Int), (0 : Int) ≤ 1 ∧ (1 : Int) < ((2 : Nat) : Int), 3 ≤ 3, PureF Try.prog (.clos 68 [] [.rptr [.int .i64 p] 0, .rptr [.int .i64 q] 0]) [.int .i64 ne.t, .int .i64 ne.h] (.tup [.int .i64 ((wgT p q ne.t ne.h).1), .int .i64 ((wgT p q ne.t ne.h).2)]), (decide ((wgT p q ne.t ne.h).1 > 0)) = true, InR .i64 (ne.t + 1), InR .i64 (ne.h + 1), PureF Try.prog (.clos 111 [] [.rptr [.int .i64 n] 0, .rptr [.rmap (rowNum v3)] 0, .rptr [.int .i64 need] 0, .rptr [.int .i64 (v5_0 : Int)] 0]) [.int .i64 (ne.t + 1), .int .i64 (ne.h + 1)] (.int .i64 (toI v3 n need (v5_0 : Int) (ne.t + 1) (ne.h + 1))), 1 ≤ 2147483648, 0 = 0, 3 ≤ 3, (decide ((wgT p q ne.t ne.h).2 > 0)) = false, 0 ≤ ne.v ∧ ne.v < (v6.length : Int), g6 = g6, ((0 + (Int.toNat ne.v) * 3) + 3) ≤ (rowStg v6).length, g6 = g6]) hE.2.1 (hE.nogh _) mixed (by kernel_rfl) ⟨(rfl), (it_last), (rfl), (it_two), o5, (by decide), (⟨by decide, by decide⟩), (⟨by decide, by decide⟩), (by decide), o10, o11, o12, o13, o14, (by decide), (rfl), (by decide), o18, o20, (rfl), o22, (rfl), trivial⟩ hg
theorem p66t_2n_2 (n : Int) (need : Int) (p q : Int) (v9 : List Nat) (v3 : List Num) (v5_0 : Nat) (v6 : List Stg) (s : Nat) (g6 : Nat) (ne : Num) (se : Stg)  {E : Env} {rv : AV} (hE : PureE Try.prog 66 rv E) (o5 : (rowNum v3)[s]? = some (.clos 0 [.agg [.int .i64 ne.t, .int .i64 ne.h]] [.int .i64 ne.v])) (o10 : PureF Try.prog (.clos 68 [] [.rptr [.int .i64 p] 0, .rptr [.int .i64 q] 0]) [.int .i64 ne.t, .int .i64 ne.h] (.tup [.int .i64 ((wgT p q ne.t ne.h).1), .int .i64 ((wgT p q ne.t ne.h).2)])) (o11 : (decide ((wgT p q ne.t ne.h).1 > 0)) = false) (o12 : (decide ((wgT p q ne.t ne.h).2 > 0)) = true) (o13 : InR .i64 (ne.t + 1)) (o14 : PureF Try.prog (.clos 111 [] [.rptr [.int .i64 n] 0, .rptr [.rmap (rowNum v3)] 0, .rptr [.int .i64 need] 0, .rptr [.int .i64 (v5_0 : Int)] 0]) [.int .i64 (ne.t + 1), .int .i64 ne.h] (.int .i64 (toI v3 n need (v5_0 : Int) (ne.t + 1) ne.h))) (o19 : 0 ≤ ne.v ∧ ne.v < (v6.length : Int)) (o21 : ((0 + (Int.toNat ne.v) * 3) + 3) ≤ (rowStg v6).length)
    (hg : G Try.prog E (f66tK2 Try.prog) ⟨[.junk, .junk, .junk, .clos 68 [] [.rptr [.int .i64 p] 0, .rptr [.int .i64 q] 0], .junk, .junk, .junk, .junk, .ptr 2 0 0, .junk, .junk, .junk, .junk, .ptr 5 0 0, .clos 111 [] [.ptr 0 0 0, .ptr 4 0 0, .ptr 1 0 0, .ptr 5 0 0], .ptr 8 0 0, .junk, .junk, .junk, .junk, .junk, .junk, .junk, .junk, .junk, .junk, .junk, .junk, .junk, .junk, .junk, .junk, .junk, .junk, .junk, .junk, .junk, .junk, .junk, .junk, .junk, .junk, .junk, .junk, .junk, .junk, .junk, .junk, .junk, .junk, .junk, .junk, .junk, .junk, .mp 9 0 true, .junk, .junk, .junk, .junk, .junk, .junk, .junk, .junk, .junk, .junk, .junk, .junk, .junk, .junk, .junk, .junk, .junk, .junk, .junk, .junk, .junk, .junk, .junk, .junk, .junk, .junk, .junk, .junk, .junk, .junk, .junk, .junk, .junk, .junk, .junk, .junk, .junk, .junk, .junk, .junk, .junk, .junk, .junk, .junk, .junk, .junk, .junk, .junk, .junk, .junk, .junk, .junk, .junk, .junk, .junk, .junk, .junk, .junk, .junk, .junk, .junk, .junk, .junk, .junk, .junk, .junk], [⟨true, 0, 1, true, [.int .i64 n], false⟩, ⟨true, 0, 1, true, [.int .i64 need], false⟩, ⟨true, 0, 1, true, [.nilSl, .nilSl, .int .i64 0], false⟩, ⟨true, 0, 0, true, (rowNum v3), false⟩, ⟨true, 0, 1, false, [.mp 3 0 false], false⟩, ⟨true, 0, 1, true, [.int .i64 (v5_0 : Int)], false⟩, ⟨true, g6, 3, true, (setAt (rowStg v6) (0 + (Int.toNat ne.v) * 3) [.int .i64 1, .int .i64 0, .rsl [.int .i64 ((wgT p q ne.t ne.h).2), .int .i64 (toI v3 n need (v5_0 : Int) (ne.t + 1) ne.h)] 0 1]), true⟩, ⟨true, 0, 1, true, [.int .i64 0], true⟩, ⟨true, 0, 1, false, [.sl 6 g6 0 v6.length 3, .sl 7 0 0 1 1, .int .i64 0], false⟩, ⟨true, 0, 0, false, (itA (.mp 3 0 false) (rowNum v3).length (v9 ++ [s])), false⟩]⟩) : G Try.prog E (nextK (f66tK2 Try.prog)) ⟨[.junk, .junk, .junk, .clos 68 [] [.rptr [.int .i64 p] 0, .rptr [.int .i64 q] 0], .junk, .junk, .junk, .junk, .ptr 2 0 0, .junk, .junk, .junk, .junk, .ptr 5 0 0, .clos 111 [] [.ptr 0 0 0, .ptr 4 0 0, .ptr 1 0 0, .ptr 5 0 0], .ptr 8 0 0, .junk, .junk, .junk, .junk, .junk, .junk, .junk, .junk, .junk, .junk, .junk, .junk, .junk, .junk, .junk, .junk, .junk, .junk, .junk, .junk, .junk, .junk, .junk, .junk, .junk, .junk, .junk, .junk, .junk, .junk, .junk, .junk, .junk, .junk, .junk, .junk, .junk, .junk, .mp 9 0 true, .tup [.bool true, .junk, .junk], .junk, .junk, .junk, .junk, .junk, .junk, .junk, .junk, .junk, .junk, .junk, .junk, .junk, .junk, .junk, .junk, .junk, .junk, .junk, .junk, .junk, .junk, .junk, .junk, .junk, .junk, .junk, .junk, .junk, .junk, .junk, .junk, .junk, .junk, .junk, .junk, .junk, .junk, .junk, .junk, .junk, .junk, .junk, .junk, .junk, .junk, .junk, .junk, .junk, .junk, .junk, .junk, .junk, .junk, .junk, .junk, .junk, .junk, .junk, .junk, .junk, .junk, .junk, .junk, .junk], [⟨true, 0, 1, true, [.int .i64 n], false⟩, ⟨true, 0, 1, true, [.int .i64 need], false⟩, ⟨true, 0, 1, true, [.nilSl, .nilSl, .int .i64 0], false⟩, ⟨true, 0, 0, true, (rowNum v3), false⟩, ⟨true, 0, 1, false, [.mp 3 0 false], false⟩, ⟨true, 0, 1, true, [.int .i64 (v5_0 : Int)], false⟩, ⟨true, g6, 3, true, (rowStg v6), true⟩, ⟨true, 0, 1, true, [.int .i64 0], true⟩, ⟨true, 0, 1, false, [.sl 6 g6 0 v6.length 3, .sl 7 0 0 1 1, .int .i64 0], false⟩, ⟨true, 0, 0, false, (itA (.mp 3 0 false) (rowNum v3).length (v9 ++ [s])), false⟩]⟩ :=
  segC_step (n := 400) (ds := []) (cs := []) (live := [3, 8, 13, 14, 15, 54]) (m := 10) (evs := [.b true, .ment s (.agg [.int .i64 ne.t, .int .i64 ne.h]) (.int .i64 ne.v), .v (.tup [.int .i64 ((wgT p q ne.t ne.h).1), .int .i64 ((wgT p q ne.t ne.h).2)]), .b false, .b true, .v (.int .i64 (toI v3 n need (v5_0 : Int) (ne.t + 1) ne.h)), .frz 11 2, .stop]) (obs := [true = true, (itA (.mp 3 0 false) (rowNum v3).length (v9 ++ [s])).getLast? = some (.int .i64 s), (itA (.mp 3 0 false) (rowNum v3).length (v9 ++ [s]))[1]? = some (.int .i64 (rowNum v3).length), 2 < (itA (.mp 3 0 false) (rowNum v3).length (v9 ++ [s])).length, (rowNum v3)[s]? = some (.clos 0 [.agg [.int .i64 ne.t, .int .i64 ne.h]] [.int .i64 ne.v]), 2 ≤ 2, (0 : Int) ≤ 0 ∧ (0 : Int) < ((2 : Nat) : Int), (0 : Int) ≤ 1 ∧ (1 : Int) < ((2 : Nat) : Int), 3 ≤ 3, PureF Try.prog (.clos 68 [] [.rptr [.int .i64 p] 0, .rptr [.int .i64 q] 0]) [.int .i64 ne.t, .int .i64 ne.h] (.tup [.int .i64 ((wgT p q ne.t ne.h).1), .int .i64 ((wgT p q ne.t ne.h).2)]), (decide ((wgT p q ne.t ne.h).1 > 0)) = false, (decide ((wgT p q ne.t ne.h).2 > 0)) = true, InR .i64 (ne.t + 1), PureF Try.prog (.clos 111 [] [.rptr [.int .i64 n] 0, .rptr [.rmap (rowNum v3)] 0, .rptr [.int .i64 need] 0, .rptr [.int .i64 (v5_0 : Int)] 0]) [.int .i64 (ne.t + 1), .int .i64 ne.h] (.int .i64 (toI v3 n need (v5_0 : Int) (ne.t + 1) ne.h)), 1 ≤ 2147483648, 0 = 0, 3 ≤ 3, 0 ≤ ne.v ∧ ne.v < (v6.length : Int), g6 = g6, ((0 + (Int.toNat ne.v) * 3) + 3) ≤ (rowStg v6).length, g6 = g6]) hE.2.1 (hE.nogh _) mixed (by kernel_rfl) ⟨(rfl), (it_last), (rfl), (it_two), o5, (by decide), (⟨by decide, by decide⟩), (⟨by decide, by decide⟩), (by decide), o10, o11, o12, o13, o14, (by decide), (rfl), (by decide), o19, (rfl), o21, (rfl), trivial⟩ hg
theorem p66t_2n_3 (n : Int) (need : Int) (p q : Int) (v9 : List Nat) (v3 : List Num) (v5_0 : Nat) (v6 : List Stg) (s : Nat) (g6 : Nat) (ne : Num) (se : Stg)  {E : Env} {rv : AV} (hE : PureE Try.prog 66 rv E) (o5 : (rowNum v3)[s]? = some (.clos 0 [.agg [.int .i64 ne.t, .int .i64 ne.h]] [.int .i64 ne.v])) (o10 : PureF Try.prog (.clos 68 [] [.rptr [.int .i64 p] 0, .rptr [.int .i64 q] 0]) [.int .i64 ne.t, .int .i64 ne.h] (.tup [.int .i64 ((wgT p q ne.t ne.h).1), .int .i64 ((wgT p q ne.t ne.h).2)])) (o11 : (decide ((wgT p q ne.t ne.h).1 > 0)) = false) (o12 : (decide ((wgT p q ne.t ne.h).2 > 0)) = false) (o14 : 0 ≤ ne.v ∧ ne.v < (v6.length : Int)) (o16 : ((0 + (Int.toNat ne.v) * 3) + 3) ≤ (rowStg v6).length)
    (hg : G Try.prog E (f66tK2 Try.prog) ⟨[.junk, .junk, .junk, .clos 68 [] [.rptr [.int .i64 p] 0, .rptr [.int .i64 q] 0], .junk, .junk, .junk, .junk, .ptr 2 0 0, .junk, .junk, .junk, .junk, .ptr 5 0 0, .clos 111 [] [.ptr 0 0 0, .ptr 4 0 0, .ptr 1 0 0, .ptr 5 0 0], .ptr 8 0 0, .junk, .junk, .junk, .junk, .junk, .junk, .junk, .junk, .junk, .junk, .junk, .junk, .junk, .junk, .junk, .junk, .junk, .junk, .junk, .junk, .junk, .junk, .junk, .junk, .junk, .junk, .junk, .junk, .junk, .junk, .junk, .junk, .junk, .junk, .junk, .junk, .junk, .junk, .mp 9 0 true, .junk, .junk, .junk, .junk, .junk, .junk, .junk, .junk, .junk, .junk, .junk, .junk, .junk, .junk, .junk, .junk, .junk, .junk, .junk, .junk, .junk, .junk, .junk, .junk, .junk, .junk, .junk, .junk, .junk, .junk, .junk, .junk, .junk, .junk, .junk, .junk, .junk, .junk, .junk, .junk, .junk, .junk, .junk, .junk, .junk, .junk, .junk, .junk, .junk, .junk, .junk, .junk, .junk, .junk, .junk, .junk, .junk, .junk, .junk, .junk, .junk, .junk, .junk, .junk, .junk, .junk], [⟨true, 0, 1, true, [.int .i64 n], false⟩, ⟨true, 0, 1, true, [.int .i64 need], false⟩, ⟨true, 0, 1, true, [.nilSl, .nilSl, .int .i64 0], false⟩, ⟨true, 0, 0, true, (rowNum v3), false⟩, ⟨true, 0, 1, false, [.mp 3 0 false], false⟩, ⟨true, 0, 1, true, [.int .i64 (v5_0 : Int)], false⟩, ⟨true, g6, 3, true, (setAt (rowStg v6) (0 + (Int.toNat ne.v) * 3) [.int .i64 1, .int .i64 0, .rsl [] 0 0]), true⟩, ⟨true, 0, 1, true, [.int .i64 0], true⟩, ⟨true, 0, 1, false, [.sl 6 g6 0 v6.length 3, .sl 7 0 0 1 1, .int .i64 0], false⟩, ⟨true, 0, 0, false, (itA (.mp 3 0 false) (rowNum v3).length (v9 ++ [s])), false⟩]⟩) : G Try.prog E (nextK (f66tK2 Try.prog)) ⟨[.junk, .junk, .junk, .clos 68 [] [.rptr [.int .i64 p] 0, .rptr [.int .i64 q] 0], .junk, .junk, .junk, .junk, .ptr 2 0 0, .junk, .junk, .junk, .junk, .ptr 5 0 0, .clos 111 [] [.ptr 0 0 0, .ptr 4 0 0, .ptr 1 0 0, .ptr 5 0 0], .ptr 8 0 0, .junk, .junk, .junk, .junk, .junk, .junk, .junk, .junk, .junk, .junk, .junk, .junk, .junk, .junk, .junk, .junk, .junk, .junk, .junk, .junk, .junk, .junk, .junk, .junk, .junk, .junk, .junk, .junk, .junk, .junk, .junk, .junk, .junk, .junk, .junk, .junk, .junk, .junk, .mp 9 0 true, .tup [.bool true, .junk, .junk], .junk, .junk, .junk, .junk, .junk, .junk, .junk, .junk, .junk, .junk, .junk, .junk, .junk, .junk, .junk, .junk, .junk, .junk, .junk, .junk, .junk, .junk, .junk, .junk, .junk, .junk, .junk, .junk, .junk, .junk, .junk, .junk, .junk, .junk, .junk, .junk, .junk, .junk, .junk, .junk, .junk, .junk, .junk, .junk, .junk, .junk, .junk, .junk, .junk, .junk, .junk, .junk, .junk, .junk, .junk, .junk, .junk, .junk, .junk, .junk, .junk, .junk, .junk, .junk, .junk], [⟨true, 0, 1, true, [.int .i64 n], false⟩, ⟨true, 0, 1, true, [.int .i64 need], false⟩, ⟨true, 0, 1, true, [.nilSl, .nilSl, .int .i64 0], false⟩, ⟨true, 0, 0, true, (rowNum v3), false⟩, ⟨true, 0, 1, false, [.mp 3 0 false], false⟩, ⟨true, 0, 1, true, [.int .i64 (v5_0 : Int)], false⟩, ⟨true, g6, 3, true, (rowStg v6), true⟩, ⟨true, 0, 1, true, [.int .i64 0], true⟩, ⟨true, 0, 1, false, [.sl 6 g6 0 v6.length 3, .sl 7 0 0 1 1, .int .i64 0], false⟩, ⟨true, 0, 0, false, (itA (.mp 3 0 false) (rowNum v3).length (v9 ++ [s])), false⟩]⟩ :=
  segC_step (n := 400) (ds := []) (cs := []) (live := [3, 8, 13, 14, 15, 54]) (m := 10) (evs := [.b true, .ment s (.agg [.int .i64 ne.t, .int .i64 ne.h]) (.int .i64 ne.v), .v (.tup [.int .i64 ((wgT p q ne.t ne.h).1), .int .i64 ((wgT p q ne.t ne.h).2)]), .b false, .b false, .frz 11 2, .stop]) (obs := [true = true, (itA (.mp 3 0 false) (rowNum v3).length (v9 ++ [s])).getLast? = some (.int .i64 s), (itA (.mp 3 0 false) (rowNum v3).length (v9 ++ [s]))[1]? = some (.int .i64 (rowNum v3).length), 2 < (itA (.mp 3 0 false) (rowNum v3).length (v9 ++ [s])).length, (rowNum v3)[s]? = some (.clos 0 [.agg [.int .i64 ne.t, .int .i64 ne.h]] [.int .i64 ne.v]), 2 ≤ 2, (0 : Int) ≤ 0 ∧ (0 : Int) < ((2 : Nat) : Int), (0 : Int) ≤ 1 ∧ (1 : Int) < ((2 : Nat) : Int), 3 ≤ 3, PureF Try.prog (.clos 68 [] [.rptr [.int .i64 p] 0, .rptr [.int .i64 q] 0]) [.int .i64 ne.t, .int .i64 ne.h] (.tup [.int .i64 ((wgT p q ne.t ne.h).1), .int .i64 ((wgT p q ne.t ne.h).2)]), (decide ((wgT p q ne.t ne.h).1 > 0)) = false, (decide ((wgT p q ne.t ne.h).2 > 0)) = false, 0 ≤ ne.v ∧ ne.v < (v6.length : Int), g6 = g6, ((0 + (Int.toNat ne.v) * 3) + 3) ≤ (rowStg v6).length, g6 = g6]) hE.2.1 (hE.nogh _) mixed (by kernel_rfl) ⟨(rfl), (it_last), (rfl), (it_two), o5, (by decide), (⟨by decide, by decide⟩), (⟨by decide, by decide⟩), (by decide), o10, o11, o12, o14, (rfl), o16, (rfl), trivial⟩ hg
theorem f66tW2n (n : Int) (need : Int) (p q : Int) (v9 : List Nat) (v3 : List Num) (v5_0 : Nat) (v6 : List Stg) (s : Nat) {E : Env} {rv : (Stl × Int)} (hE : PureE Try.prog 66 (.tup [.agg [.rsl (rowStg rv.1.stages) 0 rv.1.stages.length, .rsl (rowI rv.1.worth) 0 rv.1.worth.length, .int .i64 rv.1.price], .int .i64 rv.2]) E)
    (h : (∃ ne : Num, v3[s]? = some ne ∧ (((wgT p q ne.t ne.h).1 > 0 → ((-9223372036854775808 ≤ ne.t + 1 ∧ ne.t + 1 ≤ 9223372036854775807) ∧ ((-9223372036854775808 ≤ ne.h + 1 ∧ ne.h + 1 ≤ 9223372036854775807) ∧ ((((ne.t + 1) < n → ∃ e ∈ v3, e.t = (ne.t + 1) ∧ e.h = (ne.h + 1)) ∧ (-1000000 ≤ (v5_0 : Int) ∧ (v5_0 : Int) ≤ 1000000)) ∧ (((wgT p q ne.t ne.h).2 > 0 → ((-9223372036854775808 ≤ ne.t + 1 ∧ ne.t + 1 ≤ 9223372036854775807) ∧ ((((ne.t + 1) < n → ∃ e ∈ v3, e.t = (ne.t + 1) ∧ e.h = ne.h) ∧ (-1000000 ≤ (v5_0 : Int) ∧ (v5_0 : Int) ≤ 1000000)) ∧ (0 ≤ ne.v ∧ (∃ se : Stg, v6[Int.toNat ne.v]? = some se ∧ f66tG2 E n need p q (v9 ++ [s]) v3 v5_0 (v6.set (Int.toNat ne.v) (⟨1, 0, [(⟨(wgT p q ne.t ne.h).1, (toI v3 n need (v5_0 : Int) (ne.t + 1) (ne.h + 1))⟩ : Trn), (⟨(wgT p q ne.t ne.h).2, (toI v3 n need (v5_0 : Int) (ne.t + 1) ne.h)⟩ : Trn)]⟩ : Stg))))))) ∧ (¬ ((wgT p q ne.t ne.h).2 > 0) → (0 ≤ ne.v ∧ (∃ se : Stg, v6[Int.toNat ne.v]? = some se ∧ f66tG2 E n need p q (v9 ++ [s]) v3 v5_0 (v6.set (Int.toNat ne.v) (⟨1, 0, [(⟨(wgT p q ne.t ne.h).1, (toI v3 n need (v5_0 : Int) (ne.t + 1) (ne.h + 1))⟩ : Trn)]⟩ : Stg)))))))))) ∧ (¬ ((wgT p q ne.t ne.h).1 > 0) → (((wgT p q ne.t ne.h).2 > 0 → ((-9223372036854775808 ≤ ne.t + 1 ∧ ne.t + 1 ≤ 9223372036854775807) ∧ ((((ne.t + 1) < n → ∃ e ∈ v3, e.t = (ne.t + 1) ∧ e.h = ne.h) ∧ (-1000000 ≤ (v5_0 : Int) ∧ (v5_0 : Int) ≤ 1000000)) ∧ (0 ≤ ne.v ∧ (∃ se : Stg, v6[Int.toNat ne.v]? = some se ∧ f66tG2 E n need p q (v9 ++ [s]) v3 v5_0 (v6.set (Int.toNat ne.v) (⟨1, 0, [(⟨(wgT p q ne.t ne.h).2, (toI v3 n need (v5_0 : Int) (ne.t + 1) ne.h)⟩ : Trn)]⟩ : Stg))))))) ∧ (¬ ((wgT p q ne.t ne.h).2 > 0) → (0 ≤ ne.v ∧ (∃ se : Stg, v6[Int.toNat ne.v]? = some se ∧ f66tG2 E n need p q (v9 ++ [s]) v3 v5_0 (v6.set (Int.toNat ne.v) (⟨1, 0, ([] : List Trn)⟩ : Stg)))))))))) : f66tG2n E n need p q v9 v3 v5_0 v6 s := by
  intro g6
  obtain ⟨ne, h1, h⟩ := h
  rcases Bool.eq_false_or_eq_true (decide ((wgT p q ne.t ne.h).1 > 0)) with hc0 | hc0
  · have h := h.1 (of_decide_eq_true hc0)
    obtain ⟨q12_1, h⟩ := h
    obtain ⟨q13_1, h⟩ := h
    obtain ⟨h2, h⟩ := h
    rcases Bool.eq_false_or_eq_true (decide ((wgT p q ne.t ne.h).2 > 0)) with hc1 | hc1
    · have h := h.1 (of_decide_eq_true hc1)
      obtain ⟨q19_2, h⟩ := h
      obtain ⟨h3, h⟩ := h
      obtain ⟨h5, h⟩ := h
      obtain ⟨se, h4, h⟩ := h
      refine p66t_2n_0 n need p q v9 v3 v5_0 v6 s g6 ne se hE (row_one cNum1 h1) (pureF_of Try.func68 (by kernel_rfl) f68b (wgT_ok p q ne.t ne.h)) hc0 q12_1 q13_1 (pureF_of Try.func111 (by kernel_rfl) f111b (to_ok v3 n need (v5_0 : Int) (ne.t + 1) (ne.h + 1) h2)) hc1 q19_2 (pureF_of Try.func111 (by kernel_rfl) f111b (to_ok v3 n need (v5_0 : Int) (ne.t + 1) ne.h h3)) (idx_ok' h5 h4) (row_fits cStg (s := 3) (k := 0) (m := 3) (fun _ => rfl) (by decide) h4) ?_
      have h := (h g6)
      simp only [f66tS2, List.length_set] at h
      rw [(show setAt (rowStg v6) (0 + (Int.toNat ne.v) * 3) [.int .i64 1, .int .i64 0, .rsl [.int .i64 ((wgT p q ne.t ne.h).1), .int .i64 (toI v3 n need (v5_0 : Int) (ne.t + 1) (ne.h + 1)), .int .i64 ((wgT p q ne.t ne.h).2), .int .i64 (toI v3 n need (v5_0 : Int) (ne.t + 1) ne.h)] 0 2] = rowStg (v6.set (Int.toNat ne.v) (⟨1, 0, [(⟨(wgT p q ne.t ne.h).1, (toI v3 n need (v5_0 : Int) (ne.t + 1) (ne.h + 1))⟩ : Trn), (⟨(wgT p q ne.t ne.h).2, (toI v3 n need (v5_0 : Int) (ne.t + 1) ne.h)⟩ : Trn)]⟩ : Stg)) from row_set cStg (s := 3) (k := 0) (fun _ => rfl) h4 rfl (by first | decide | simp))]
      exact h
    · have h := h.2 (of_decide_eq_false hc1)
      obtain ⟨h4, h⟩ := h
      obtain ⟨se, h3, h⟩ := h
      refine p66t_2n_1 n need p q v9 v3 v5_0 v6 s g6 ne se hE (row_one cNum1 h1) (pureF_of Try.func68 (by kernel_rfl) f68b (wgT_ok p q ne.t ne.h)) hc0 q12_1 q13_1 (pureF_of Try.func111 (by kernel_rfl) f111b (to_ok v3 n need (v5_0 : Int) (ne.t + 1) (ne.h + 1) h2)) hc1 (idx_ok' h4 h3) (row_fits cStg (s := 3) (k := 0) (m := 3) (fun _ => rfl) (by decide) h3) ?_
      have h := (h g6)
      simp only [f66tS2, List.length_set] at h
      rw [(show setAt (rowStg v6) (0 + (Int.toNat ne.v) * 3) [.int .i64 1, .int .i64 0, .rsl [.int .i64 ((wgT p q ne.t ne.h).1), .int .i64 (toI v3 n need (v5_0 : Int) (ne.t + 1) (ne.h + 1))] 0 1] = rowStg (v6.set (Int.toNat ne.v) (⟨1, 0, [(⟨(wgT p q ne.t ne.h).1, (toI v3 n need (v5_0 : Int) (ne.t + 1) (ne.h + 1))⟩ : Trn)]⟩ : Stg)) from row_set cStg (s := 3) (k := 0) (fun _ => rfl) h3 rfl (by first | decide | simp))]
      exact h
  · have h := h.2 (of_decide_eq_false hc0)
    rcases Bool.eq_false_or_eq_true (decide ((wgT p q ne.t ne.h).2 > 0)) with hc1 | hc1
    · have h := h.1 (of_decide_eq_true hc1)
      obtain ⟨q13_2, h⟩ := h
      obtain ⟨h2, h⟩ := h
      obtain ⟨h4, h⟩ := h
      obtain ⟨se, h3, h⟩ := h
      refine p66t_2n_2 n need p q v9 v3 v5_0 v6 s g6 ne se hE (row_one cNum1 h1) (pureF_of Try.func68 (by kernel_rfl) f68b (wgT_ok p q ne.t ne.h)) hc0 hc1 q13_2 (pureF_of Try.func111 (by kernel_rfl) f111b (to_ok v3 n need (v5_0 : Int) (ne.t + 1) ne.h h2)) (idx_ok' h4 h3) (row_fits cStg (s := 3) (k := 0) (m := 3) (fun _ => rfl) (by decide) h3) ?_
      have h := (h g6)
      simp only [f66tS2, List.length_set] at h
      rw [(show setAt (rowStg v6) (0 + (Int.toNat ne.v) * 3) [.int .i64 1, .int .i64 0, .rsl [.int .i64 ((wgT p q ne.t ne.h).2), .int .i64 (toI v3 n need (v5_0 : Int) (ne.t + 1) ne.h)] 0 1] = rowStg (v6.set (Int.toNat ne.v) (⟨1, 0, [(⟨(wgT p q ne.t ne.h).2, (toI v3 n need (v5_0 : Int) (ne.t + 1) ne.h)⟩ : Trn)]⟩ : Stg)) from row_set cStg (s := 3) (k := 0) (fun _ => rfl) h3 rfl (by first | decide | simp))]
      exact h
    · have h := h.2 (of_decide_eq_false hc1)
      obtain ⟨h3, h⟩ := h
      obtain ⟨se, h2, h⟩ := h
      refine p66t_2n_3 n need p q v9 v3 v5_0 v6 s g6 ne se hE (row_one cNum1 h1) (pureF_of Try.func68 (by kernel_rfl) f68b (wgT_ok p q ne.t ne.h)) hc0 hc1 (idx_ok' h3 h2) (row_fits cStg (s := 3) (k := 0) (m := 3) (fun _ => rfl) (by decide) h2) ?_
      have h := (h g6)
      simp only [f66tS2, List.length_set] at h
      rw [(show setAt (rowStg v6) (0 + (Int.toNat ne.v) * 3) [.int .i64 1, .int .i64 0, .rsl [] 0 0] = rowStg (v6.set (Int.toNat ne.v) (⟨1, 0, ([] : List Trn)⟩ : Stg)) from row_set cStg (s := 3) (k := 0) (fun _ => rfl) h2 rfl (by first | decide | simp))]
      exact h
theorem p66t_2x_0 (n : Int) (need : Int) (p q : Int) (v9 : List Nat) (v3 : List Num) (v5_0 : Nat) (v6 : List Stg) (g6 : Nat) (se : Stg) (se1 : Stg)  {E : Env} {res : AV} (hE : PureE Try.prog 66 res E) (o2 : 0 ≤ (v5_0 : Int) ∧ (v5_0 : Int) < (v6.length : Int)) (o4 : ((0 + (Int.toNat (v5_0 : Int)) * 3) + 3) ≤ (rowStg v6).length) (o6 : InR .i64 ((v5_0 : Int) + 1)) (o8 : 0 ≤ ((v5_0 : Int) + 1) ∧ ((v5_0 : Int) + 1) < (v6.length : Int)) (o10 : ((0 + (Int.toNat ((v5_0 : Int) + 1)) * 3) + 3) ≤ (setAt (rowStg v6) (0 + (Int.toNat (v5_0 : Int)) * 3) [.int .i64 4, .int .i64 (-1), .rsl [] 0 0]).length) (o12 : LentF Try.prog (.clos 91 [] []) [.agg [.sl 0 g6 0 v6.length 3, .sl 1 0 0 1 1, .int .i64 0]] [⟨true, g6, 3, true, (setAt (setAt (rowStg v6) (0 + (Int.toNat (v5_0 : Int)) * 3) [.int .i64 4, .int .i64 (-1), .rsl [] 0 0]) (0 + (Int.toNat ((v5_0 : Int) + 1)) * 3) [.int .i64 4, .int .i64 0, .rsl [] 0 0]), true⟩, ⟨true, 0, 1, true, [.int .i64 0], true⟩] (.tup [.agg [.rsl (rowStg (((madeK (⟨((v6.set v5_0 (⟨4, (-1), ([] : List Trn)⟩ : Stg)).set (v5_0 + 1) (⟨4, 0, ([] : List Trn)⟩ : Stg)), [0], 0⟩ : Stl)).1).stages)) 0 ((((madeK (⟨((v6.set v5_0 (⟨4, (-1), ([] : List Trn)⟩ : Stg)).set (v5_0 + 1) (⟨4, 0, ([] : List Trn)⟩ : Stg)), [0], 0⟩ : Stl)).1).stages).length), .rsl (rowI (((madeK (⟨((v6.set v5_0 (⟨4, (-1), ([] : List Trn)⟩ : Stg)).set (v5_0 + 1) (⟨4, 0, ([] : List Trn)⟩ : Stg)), [0], 0⟩ : Stl)).1).worth)) 0 ((((madeK (⟨((v6.set v5_0 (⟨4, (-1), ([] : List Trn)⟩ : Stg)).set (v5_0 + 1) (⟨4, 0, ([] : List Trn)⟩ : Stg)), [0], 0⟩ : Stl)).1).worth).length), .int .i64 (((madeK (⟨((v6.set v5_0 (⟨4, (-1), ([] : List Trn)⟩ : Stg)).set (v5_0 + 1) (⟨4, 0, ([] : List Trn)⟩ : Stg)), [0], 0⟩ : Stl)).1).price)], .int .i64 ((madeK (⟨((v6.set v5_0 (⟨4, (-1), ([] : List Trn)⟩ : Stg)).set (v5_0 + 1) (⟨4, 0, ([] : List Trn)⟩ : Stg)), [0], 0⟩ : Stl)).2)]) [⟨false, (g6 + 1), 3, true, [], false⟩, ⟨false, 1, 1, true, [], false⟩])
    (hr : AvLe (.tup [.agg [.rsl (rowStg (((madeK (⟨((v6.set v5_0 (⟨4, (-1), ([] : List Trn)⟩ : Stg)).set (v5_0 + 1) (⟨4, 0, ([] : List Trn)⟩ : Stg)), [0], 0⟩ : Stl)).1).stages)) 0 ((((madeK (⟨((v6.set v5_0 (⟨4, (-1), ([] : List Trn)⟩ : Stg)).set (v5_0 + 1) (⟨4, 0, ([] : List Trn)⟩ : Stg)), [0], 0⟩ : Stl)).1).stages).length), .rsl (rowI (((madeK (⟨((v6.set v5_0 (⟨4, (-1), ([] : List Trn)⟩ : Stg)).set (v5_0 + 1) (⟨4, 0, ([] : List Trn)⟩ : Stg)), [0], 0⟩ : Stl)).1).worth)) 0 ((((madeK (⟨((v6.set v5_0 (⟨4, (-1), ([] : List Trn)⟩ : Stg)).set (v5_0 + 1) (⟨4, 0, ([] : List Trn)⟩ : Stg)), [0], 0⟩ : Stl)).1).worth).length), .int .i64 (((madeK (⟨((v6.set v5_0 (⟨4, (-1), ([] : List Trn)⟩ : Stg)).set (v5_0 + 1) (⟨4, 0, ([] : List Trn)⟩ : Stg)), [0], 0⟩ : Stl)).1).price)], .int .i64 ((madeK (⟨((v6.set v5_0 (⟨4, (-1), ([] : List Trn)⟩ : Stg)).set (v5_0 + 1) (⟨4, 0, ([] : List Trn)⟩ : Stg)), [0], 0⟩ : Stl)).2)]) res) : G Try.prog E (nextK (f66tK2 Try.prog)) ⟨[.junk, .junk, .junk, .clos 68 [] [.rptr [.int .i64 p] 0, .rptr [.int .i64 q] 0], .junk, .junk, .junk, .junk, .ptr 2 0 0, .junk, .junk, .junk, .junk, .ptr 5 0 0, .clos 111 [] [.ptr 0 0 0, .ptr 4 0 0, .ptr 1 0 0, .ptr 5 0 0], .ptr 8 0 0, .junk, .junk, .junk, .junk, .junk, .junk, .junk, .junk, .junk, .junk, .junk, .junk, .junk, .junk, .junk, .junk, .junk, .junk, .junk, .junk, .junk, .junk, .junk, .junk, .junk, .junk, .junk, .junk, .junk, .junk, .junk, .junk, .junk, .junk, .junk, .junk, .junk, .junk, .mp 9 0 true, .tup [.bool false], .junk, .junk, .junk, .junk, .junk, .junk, .junk, .junk, .junk, .junk, .junk, .junk, .junk, .junk, .junk, .junk, .junk, .junk, .junk, .junk, .junk, .junk, .junk, .junk, .junk, .junk, .junk, .junk, .junk, .junk, .junk, .junk, .junk, .junk, .junk, .junk, .junk, .junk, .junk, .junk, .junk, .junk, .junk, .junk, .junk, .junk, .junk, .junk, .junk, .junk, .junk, .junk, .junk, .junk, .junk, .junk, .junk, .junk, .junk, .junk, .junk, .junk, .junk, .junk, .junk], [⟨true, 0, 1, true, [.int .i64 n], false⟩, ⟨true, 0, 1, true, [.int .i64 need], false⟩, ⟨true, 0, 1, true, [.nilSl, .nilSl, .int .i64 0], false⟩, ⟨true, 0, 0, true, (rowNum v3), false⟩, ⟨true, 0, 1, false, [.mp 3 0 false], false⟩, ⟨true, 0, 1, true, [.int .i64 (v5_0 : Int)], false⟩, ⟨true, g6, 3, true, (rowStg v6), true⟩, ⟨true, 0, 1, true, [.int .i64 0], true⟩, ⟨true, 0, 1, false, [.sl 6 g6 0 v6.length 3, .sl 7 0 0 1 1, .int .i64 0], false⟩, ⟨true, 0, 0, false, (itA (.mp 3 0 false) (rowNum v3).length v9), false⟩]⟩ :=
  end_stepL (n := 400) (evs := [.b false, .wt 109, .wt 115, .lent [6, 7] (.tup [.agg [.rsl (rowStg (((madeK (⟨((v6.set v5_0 (⟨4, (-1), ([] : List Trn)⟩ : Stg)).set (v5_0 + 1) (⟨4, 0, ([] : List Trn)⟩ : Stg)), [0], 0⟩ : Stl)).1).stages)) 0 ((((madeK (⟨((v6.set v5_0 (⟨4, (-1), ([] : List Trn)⟩ : Stg)).set (v5_0 + 1) (⟨4, 0, ([] : List Trn)⟩ : Stg)), [0], 0⟩ : Stl)).1).stages).length), .rsl (rowI (((madeK (⟨((v6.set v5_0 (⟨4, (-1), ([] : List Trn)⟩ : Stg)).set (v5_0 + 1) (⟨4, 0, ([] : List Trn)⟩ : Stg)), [0], 0⟩ : Stl)).1).worth)) 0 ((((madeK (⟨((v6.set v5_0 (⟨4, (-1), ([] : List Trn)⟩ : Stg)).set (v5_0 + 1) (⟨4, 0, ([] : List Trn)⟩ : Stg)), [0], 0⟩ : Stl)).1).worth).length), .int .i64 (((madeK (⟨((v6.set v5_0 (⟨4, (-1), ([] : List Trn)⟩ : Stg)).set (v5_0 + 1) (⟨4, 0, ([] : List Trn)⟩ : Stg)), [0], 0⟩ : Stl)).1).price)], .int .i64 ((madeK (⟨((v6.set v5_0 (⟨4, (-1), ([] : List Trn)⟩ : Stg)).set (v5_0 + 1) (⟨4, 0, ([] : List Trn)⟩ : Stg)), [0], 0⟩ : Stl)).2)]) [⟨false, (g6 + 1), 3, true, [], false⟩, ⟨false, 1, 1, true, [], false⟩]]) (obs := [false = false, 0 ≤ (v5_0 : Int) ∧ (v5_0 : Int) < (v6.length : Int), g6 = g6, ((0 + (Int.toNat (v5_0 : Int)) * 3) + 3) ≤ (rowStg v6).length, g6 = g6, InR .i64 ((v5_0 : Int) + 1), 0 ≤ ((v5_0 : Int) + 1) ∧ ((v5_0 : Int) + 1) < (v6.length : Int), g6 = g6, ((0 + (Int.toNat ((v5_0 : Int) + 1)) * 3) + 3) ≤ (setAt (rowStg v6) (0 + (Int.toNat (v5_0 : Int)) * 3) [.int .i64 4, .int .i64 (-1), .rsl [] 0 0]).length, g6 = g6, LentF Try.prog (.clos 91 [] []) [.agg [.sl 0 g6 0 v6.length 3, .sl 1 0 0 1 1, .int .i64 0]] [⟨true, g6, 3, true, (setAt (setAt (rowStg v6) (0 + (Int.toNat (v5_0 : Int)) * 3) [.int .i64 4, .int .i64 (-1), .rsl [] 0 0]) (0 + (Int.toNat ((v5_0 : Int) + 1)) * 3) [.int .i64 4, .int .i64 0, .rsl [] 0 0]), true⟩, ⟨true, 0, 1, true, [.int .i64 0], true⟩] (.tup [.agg [.rsl (rowStg (((madeK (⟨((v6.set v5_0 (⟨4, (-1), ([] : List Trn)⟩ : Stg)).set (v5_0 + 1) (⟨4, 0, ([] : List Trn)⟩ : Stg)), [0], 0⟩ : Stl)).1).stages)) 0 ((((madeK (⟨((v6.set v5_0 (⟨4, (-1), ([] : List Trn)⟩ : Stg)).set (v5_0 + 1) (⟨4, 0, ([] : List Trn)⟩ : Stg)), [0], 0⟩ : Stl)).1).stages).length), .rsl (rowI (((madeK (⟨((v6.set v5_0 (⟨4, (-1), ([] : List Trn)⟩ : Stg)).set (v5_0 + 1) (⟨4, 0, ([] : List Trn)⟩ : Stg)), [0], 0⟩ : Stl)).1).worth)) 0 ((((madeK (⟨((v6.set v5_0 (⟨4, (-1), ([] : List Trn)⟩ : Stg)).set (v5_0 + 1) (⟨4, 0, ([] : List Trn)⟩ : Stg)), [0], 0⟩ : Stl)).1).worth).length), .int .i64 (((madeK (⟨((v6.set v5_0 (⟨4, (-1), ([] : List Trn)⟩ : Stg)).set (v5_0 + 1) (⟨4, 0, ([] : List Trn)⟩ : Stg)), [0], 0⟩ : Stl)).1).price)], .int .i64 ((madeK (⟨((v6.set v5_0 (⟨4, (-1), ([] : List Trn)⟩ : Stg)).set (v5_0 + 1) (⟨4, 0, ([] : List Trn)⟩ : Stg)), [0], 0⟩ : Stl)).2)]) [⟨false, (g6 + 1), 3, true, [], false⟩, ⟨false, 1, 1, true, [], false⟩], 3 ≤ 3]) hE Try.func66 mixed (by kernel_rfl) ⟨(rfl), o2, (rfl), o4, (rfl), o6, o8, (rfl), o10, (rfl), o12, (by decide), trivial⟩ hr
theorem f66tW2x (n : Int) (need : Int) (p q : Int) (v9 : List Nat) (v3 : List Num) (v5_0 : Nat) (v6 : List Stg) {E : Env} {rv : (Stl × Int)} (hE : PureE Try.prog 66 (.tup [.agg [.rsl (rowStg rv.1.stages) 0 rv.1.stages.length, .rsl (rowI rv.1.worth) 0 rv.1.worth.length, .int .i64 rv.1.price], .int .i64 rv.2]) E)
    (h : (∃ se : Stg, v6[v5_0]? = some se ∧ ((-9223372036854775808 ≤ (v5_0 : Int) + 1 ∧ (v5_0 : Int) + 1 ≤ 9223372036854775807) ∧ (∃ se1 : Stg, (v6.set v5_0 (⟨4, (-1), ([] : List Trn)⟩ : Stg))[v5_0 + 1]? = some se1 ∧ (((⟨((v6.set v5_0 (⟨4, (-1), ([] : List Trn)⟩ : Stg)).set (v5_0 + 1) (⟨4, 0, ([] : List Trn)⟩ : Stg)), [0], 0⟩ : Stl).stages.length ≤ 9223372036854775807 ∧ (⟨((v6.set v5_0 (⟨4, (-1), ([] : List Trn)⟩ : Stg)).set (v5_0 + 1) (⟨4, 0, ([] : List Trn)⟩ : Stg)), [0], 0⟩ : Stl).worth.length ≤ 9223372036854775807) ∧ rv = (((madeK (⟨((v6.set v5_0 (⟨4, (-1), ([] : List Trn)⟩ : Stg)).set (v5_0 + 1) (⟨4, 0, ([] : List Trn)⟩ : Stg)), [0], 0⟩ : Stl)).1), (madeK (⟨((v6.set v5_0 (⟨4, (-1), ([] : List Trn)⟩ : Stg)).set (v5_0 + 1) (⟨4, 0, ([] : List Trn)⟩ : Stg)), [0], 0⟩ : Stl)).2)))))) : f66tG2x E n need p q v9 v3 v5_0 v6 := by
  intro g6
  obtain ⟨se, h1, h⟩ := h
  obtain ⟨q6_0, h⟩ := h
  obtain ⟨se1, h2, h⟩ := h
  obtain ⟨h3, h⟩ := h
  exact p66t_2x_0 n need p q v9 v3 v5_0 v6 g6 se se1 hE (idx_ok h1) (row_fits cStg (s := 3) (k := 0) (m := 3) (fun _ => rfl) (by decide) h1) q6_0 (by have hx := idx_ok h2; simpa using hx) (by rw [(show setAt (rowStg v6) (0 + (Int.toNat (v5_0 : Int)) * 3) [.int .i64 4, .int .i64 (-1), .rsl [] 0 0] = rowStg (v6.set v5_0 (⟨4, (-1), ([] : List Trn)⟩ : Stg)) from row_set cStg (s := 3) (k := 0) (fun _ => rfl) h1 rfl (by first | decide | simp))]; exact row_fits cStg (s := 3) (k := 0) (m := 3) (fun _ => rfl) (by decide) h2) (lentF_of_pure (fv' := .clos 91 [] []) (args' := [.agg [.rsl (setAt (setAt (rowStg v6) (0 + (Int.toNat (v5_0 : Int)) * 3) [.int .i64 4, .int .i64 (-1), .rsl [] 0 0]) (0 + (Int.toNat ((v5_0 : Int) + 1)) * 3) [.int .i64 4, .int .i64 0, .rsl [] 0 0]) 0 v6.length, .rsl [.int .i64 0] 0 1, .int .i64 0]]) (o1 := []) (o2 := [g6 = g6, 0 = 0]) (by kernel_rfl) trivial (by kernel_rfl) ⟨rfl, rfl, trivial⟩ (by rw [(show AV.rsl (setAt (setAt (rowStg v6) (0 + (Int.toNat (v5_0 : Int)) * 3) [.int .i64 4, .int .i64 (-1), .rsl [] 0 0]) (0 + (Int.toNat ((v5_0 : Int) + 1)) * 3) [.int .i64 4, .int .i64 0, .rsl [] 0 0]) 0 v6.length = AV.rsl (rowStg ((v6.set v5_0 (⟨4, (-1), ([] : List Trn)⟩ : Stg)).set (v5_0 + 1) (⟨4, 0, ([] : List Trn)⟩ : Stg))) 0 ((v6.set v5_0 (⟨4, (-1), ([] : List Trn)⟩ : Stg)).set (v5_0 + 1) (⟨4, 0, ([] : List Trn)⟩ : Stg)).length from by rw [(show setAt (rowStg v6) (0 + (Int.toNat (v5_0 : Int)) * 3) [.int .i64 4, .int .i64 (-1), .rsl [] 0 0] = rowStg (v6.set v5_0 (⟨4, (-1), ([] : List Trn)⟩ : Stg)) from row_set cStg (s := 3) (k := 0) (fun _ => rfl) h1 rfl (by first | decide | simp))]; rw [(show setAt (rowStg (v6.set v5_0 (⟨4, (-1), ([] : List Trn)⟩ : Stg))) (0 + (Int.toNat ((v5_0 : Int) + 1)) * 3) [.int .i64 4, .int .i64 0, .rsl [] 0 0] = rowStg ((v6.set v5_0 (⟨4, (-1), ([] : List Trn)⟩ : Stg)).set (v5_0 + 1) (⟨4, 0, ([] : List Trn)⟩ : Stg)) from row_set cStg (s := 3) (k := 0) (fun _ => rfl) h2 rfl (by first | decide | simp))]; rw [show v6.length = ((v6.set v5_0 (⟨4, (-1), ([] : List Trn)⟩ : Stg)).set (v5_0 + 1) (⟨4, 0, ([] : List Trn)⟩ : Stg)).length from by simp])]; exact (pureF_of Try.func91 (by kernel_rfl) f91b (made_ok (⟨((v6.set v5_0 (⟨4, (-1), ([] : List Trn)⟩ : Stg)).set (v5_0 + 1) (⟨4, 0, ([] : List Trn)⟩ : Stg)), [0], 0⟩ : Stl) h3)))) (AvLe.of_eq (by rw [h]; try rfl))
theorem f66tW2 (n : Int) (need : Int) (p q : Int) (v9 : List Nat) (v3 : List Num) (v5_0 : Nat) (v6 : List Stg) {E : Env} {rv : (Stl × Int)} (hE : PureE Try.prog 66 (.tup [.agg [.rsl (rowStg rv.1.stages) 0 rv.1.stages.length, .rsl (rowI rv.1.worth) 0 rv.1.worth.length, .int .i64 rv.1.price], .int .i64 rv.2]) E)
    (h : (∀ s : Nat, s < v3.length → s ∉ v9 → f66tG2n E n need p q v9 v3 v5_0 v6 s) ∧ ((∀ s : Nat, s < v3.length → s ∈ v9) → f66tG2x E n need p q v9 v3 v5_0 v6)) : f66tG2 E n need p q v9 v3 v5_0 v6 := by
  intro g6
  have hl : (rowNum v3).length = v3.length := by exact rowNum_len
  refine next_head (ki := 9) (n := (rowNum v3).length) (cells := (rowNum v3)) (seen := v9) hE.2.1 (it := .tmp 54) (d := 55) (mref := .mp 3 0 false) (by kernel_rfl) (by rfl) (by rfl) (.inl ⟨3, _, rfl, by rfl, rfl, rfl, rfl, rfl, rfl⟩) rfl (fun s h1 h2 => ?_) (fun h1 => ?_)
  · exact h.1 s (by rw [← hl]; exact h1) h2 g6
  · exact h.2 (fun s h2 => h1 s (by rw [hl]; exact h2)) g6
theorem nodup_le : ∀ (n : Nat) {l : List Nat}, l.Nodup → (∀ s ∈ l, s < n) → l.length ≤ n
  | 0, [], _, _ => by simp
  | 0, x :: l, _, h => by have := h x (by simp); omega
  | n + 1, l, hn, h => by
    have h1 := nodup_le n (l := l.erase n) (hn.erase n) (fun s hs => by
      have h2 := (List.Nodup.mem_erase_iff hn).1 hs
      have h3 := h s h2.2
      omega)
    have := List.length_erase (a := n) (l := l)
    split at this <;> omega
theorem nodup_full {n : Nat} {l : List Nat} (hn : l.Nodup) (hl : ∀ s ∈ l, s < n) (h : l.length = n) : ∀ s, s < n → s ∈ l := by
  intro s hs
  apply Classical.byContradiction
  intro hc
  have h1 : (s :: l).Nodup := List.nodup_cons.2 ⟨hc, hn⟩
  have := nodup_le n h1 (fun x hx => by
    rcases List.mem_cons.1 hx with rfl | hx
    · exact hs
    · exact hl x hx)
  simp at this; omega


theorem triesT_ok (n : Nat) (need p q : Int) (h : n ≤ 9 ∧  Leads opT (wgT p q) n) :
    Pure Try.prog 66 [.int .i64 (n : Int), .int .i64 need, .clos 67 [] [], .clos 68 [] [.rptr [.int .i64 p] 0, .rptr [.int .i64 q] 0]] (.tup [.agg [.rsl (rowStg (triesK opT (wgT p q) n need).1.stages) 0 (triesK opT (wgT p q) n need).1.stages.length, .rsl (rowI (triesK opT (wgT p q) n need).1.worth) 0 (triesK opT (wgT p q) n need).1.worth.length, .int .i64 (triesK opT (wgT p q) n need).1.price], .int .i64 (triesK opT (wgT p q) n need).2]) := pure_of Try.func66 f66tb fun E hE => by
  have hn := h.1
  have hlead := h.2
  have nok := nums_ok (op := opT) (t := n)
  have nlen := nums_len (op := opT) hn
  -- the range
  have fin : ∀ (v : List Stg) (seen : List Nat), v.length = (numsI opT n).length + 2 → (∀ (s : Nat) (e : Num), s ∈ seen → (numsI opT n)[s]? = some e → v[s]? = some (stageN (numsI opT n) (wgT p q) n need e)) → (∀ s : Nat, s < (numsI opT n).length → s ∈ seen) → f66tG2x E (n : Int) need p q seen (numsI opT n) (numsI opT n).length v := by
    intro v seen hl hv hall
    have hv' := fun (s : Nat) (e : Num) (he : (numsI opT n)[s]? = some e) => hv s e (hall s (List.getElem?_eq_some_iff.1 he).1) he
    have e1 : v[(numsI opT n).length]? = some (v[(numsI opT n).length]'(by omega)) := List.getElem?_eq_getElem (by omega)
    have e2 : (v.set (numsI opT n).length (⟨4, -1, []⟩ : Stg))[(numsI opT n).length + 1]? = some ((v.set (numsI opT n).length (⟨4, -1, []⟩ : Stg))[(numsI opT n).length + 1]'(by simp; omega)) := List.getElem?_eq_getElem (by simp; omega)
    refine f66tW2x (n : Int) need p q seen (numsI opT n) (numsI opT n).length v (rv := triesK opT (wgT p q) n need) hE ⟨_, e1, by omega, _, e2, ⟨by simp [hl]; omega, by simp⟩, ?_⟩
    rw [tries_end hl hv']
    rfl
  have rng : ∀ (d : Nat) (v : List Stg) (seen : List Nat), v.length = (numsI opT n).length + 2 → seen.Nodup → (∀ s ∈ seen, s < (numsI opT n).length) → seen.length + d = (numsI opT n).length → (∀ (s : Nat) (e : Num), s ∈ seen → (numsI opT n)[s]? = some e → v[s]? = some (stageN (numsI opT n) (wgT p q) n need e)) → f66tG2 E (n : Int) need p q seen (numsI opT n) (numsI opT n).length v := by
    intro d
    induction d with
    | zero =>
      intro v seen hl hnd hlt hd hv
      refine f66tW2 (n : Int) need p q seen (numsI opT n) (numsI opT n).length v (rv := triesK opT (wgT p q) n need) hE ⟨fun s hs hns => absurd ?_ hns, fun hall => fin v seen hl hv hall⟩
      exact nodup_full hnd hlt (by omega) s hs
    | succ d ih =>
      intro v seen hl hnd hlt hd hv
      refine f66tW2 (n : Int) need p q seen (numsI opT n) (numsI opT n).length v (rv := triesK opT (wgT p q) n need) hE ⟨fun s hs hns => ?_, fun hall => fin v seen hl hv hall⟩
      have he : (numsI opT n)[s]? = some (numsI opT n)[s] := List.getElem?_eq_getElem hs
      have hev := nok.at_ s _ he
      obtain ⟨a, b, ha, hb, hba, hop, hlt'⟩ := nok.mem _ (List.mem_of_getElem? he)
      generalize (numsI opT n)[s] = e at he hev ha hb
      have hvs : v[s]? = some (v[s]'(by omega)) := List.getElem?_eq_getElem (by omega)
      have bt : (-9223372036854775808 ≤ e.t + 1 ∧ e.t + 1 ≤ 9223372036854775807) := by omega
      have bh : (-9223372036854775808 ≤ e.h + 1 ∧ e.h + 1 ≤ 9223372036854775807) := by omega
      have e0 : 0 ≤ e.v := by omega
      have b0 : (-1000000 ≤ (((numsI opT n).length : Nat) : Int) ∧ (((numsI opT n).length : Nat) : Int) ≤ 1000000) := by omega
      have en : Int.toNat e.v = s := by omega
      have bb : (-1000000 ≤ e.t ∧ e.t ≤ 1000000) ∧ (-1000000 ≤ e.h ∧ e.h ≤ 1000000) := by omega
      have lead1 : (wgT p q e.t e.h).1 > 0 → (e.t + 1 < (n : Int) → ∃ x ∈ numsI opT n, x.t = e.t + 1 ∧ x.h = e.h + 1) := fun hw ht => by
        rw [ha, hb] at hw
        obtain ⟨x, hx, h1, h2⟩ := nok.all (a + 1) (b + 1) (by omega) ((hlead a b hba hop (by omega)).1 hw) (by omega)
        exact ⟨x, hx, by omega, by omega⟩
      have lead2 : (wgT p q e.t e.h).2 > 0 → (e.t + 1 < (n : Int) → ∃ x ∈ numsI opT n, x.t = e.t + 1 ∧ x.h = e.h) := fun hw ht => by
        rw [ha, hb] at hw
        obtain ⟨x, hx, h1, h2⟩ := nok.all (a + 1) b (by omega) ((hlead a b hba hop (by omega)).2 hw) (by omega)
        exact ⟨x, hx, by omega, by omega⟩
      have next : ∀ (y : Stg), y = stageN (numsI opT n) (wgT p q) n need e → f66tG2 E (n : Int) need p q (seen ++ [s]) (numsI opT n) (numsI opT n).length (v.set (Int.toNat e.v) y) := fun y hy => by
        rw [en]
        refine ih _ (seen ++ [s]) (by simp [hl]) ?_ (fun x hx => ?_) (by simp; omega) (fun x e' hx he' => ?_)
        · rw [List.nodup_append]
          exact ⟨hnd, by simp, fun x hx y hy => by simp at hy; subst hy; exact fun h => hns (h ▸ hx)⟩
        · rcases List.mem_append.1 hx with hx | hx
          · exact hlt x hx
          · simp at hx; omega
        · by_cases hxs : x = s
          · subst hxs
            rw [he] at he'; cases he'
            rw [List.getElem?_set_self (by omega), hy]
          · rw [List.getElem?_set_ne (fun h => hxs h.symm)]
            rcases List.mem_append.1 hx with hx | hx
            · exact hv x e' hx he'
            · simp at hx; exact absurd hx hxs
      have get : ∃ se : Stg, v[Int.toNat e.v]? = some se := ⟨_, by rw [en]; exact hvs⟩
      obtain ⟨se, hse⟩ := get
      refine f66tW2n (n : Int) need p q seen (numsI opT n) (numsI opT n).length v s (rv := triesK opT (wgT p q) n need) hE ⟨e, he,  fun h1 => ⟨bt, bh, ⟨lead1 h1, b0⟩, fun h2 => ⟨bt, ⟨lead2 h2, b0⟩, e0, se, hse, next _ ?_⟩, fun h2 => ⟨e0, se, hse, next _ ?_⟩⟩, fun h1 => ⟨fun h2 => ⟨bt, ⟨lead2 h2, b0⟩, e0, se, hse, next _ ?_⟩, fun h2 => ⟨e0, se, hse, next _ ?_⟩⟩⟩
      · simp only [stageN, if_pos h1, if_pos h2]; rfl
      · simp only [stageN, if_pos h1, if_neg h2]; rfl
      · simp only [stageN, if_neg h1, if_pos h2]; rfl
      · simp only [stageN, if_neg h1, if_neg h2]; rfl
  -- the numbers
  have outer : ∀ (d t : Nat), t + d = n → f66tG0 E (n : Int) need p q t (numsI opT t) := by
    intro d
    induction d with
    | zero =>
      intro t hd
      have : t = n := by omega
      subst this
      refine f66tW0 (t : Int) need p q t (numsI opT t) (rv := triesK opT (wgT p q) t need) hE ⟨fun h => by omega, fun _ => ⟨by rw [rowNum_len]; omega, by rw [rowNum_len]; omega, ?_⟩⟩
      rw [rowNum_len]
      exact rng (numsI opT t).length _ [] (by simp) (by simp) (by simp) (by simp) (by simp)
    | succ d ih =>
      intro t hd
      have ok0 := nums_ok (op := opT) (t := t)
      refine f66tW0 (n : Int) need p q t (numsI opT t) (rv := triesK opT (wgT p q) n need) hE ⟨fun _ => ⟨by omega, ?_⟩, fun h => by omega⟩
      have row : ∀ (d k : Nat), k + d = t + 1 → f66tG1 E (n : Int) need p q k (rowN opT t k (numsI opT t)) t t (t + 1) := by
        intro d
        induction d with
        | zero =>
          intro k hd
          have : k = t + 1 := by omega
          subst this
          exact f66tW1 (n : Int) need p q _ _ t t (t + 1) (rv := triesK opT (wgT p q) n need) hE ⟨fun h => by omega, fun _ => ⟨by omega, ih (t + 1) (by omega)⟩⟩
        | succ d ih2 =>
          intro k hd
          have okk := row_nums ok0 (k := k) (by omega)
          have hnew : ∀ e ∈ rowN opT t k (numsI opT t), ¬ (e.t = (t : Int) ∧ e.h = (k : Int)) := fun e he hh => by
            obtain ⟨a, b, h1, h2, h3, h4, h5⟩ := okk.mem e he
            omega
          have nx := ih2 (k + 1) (by omega)
          simp only [rowN] at nx
          refine f66tW1 (n : Int) need p q k _ t t (t + 1) (rv := triesK opT (wgT p q) n need) hE ⟨fun _ => ⟨fun h1 => ⟨hnew, by omega, ?_⟩, fun h1 => ⟨by omega, ?_⟩⟩, fun h => by omega⟩
          · rw [if_pos h1] at nx
            rw [rowNum_len]; exact nx
          · rw [if_neg (by rw [h1]; simp)] at nx
            exact nx
      exact row (t + 1) 0 (by omega)
  exact f66tW (n : Int) need p q (rv := triesK opT (wgT p q) n need) hE (outer n 0 (by omega))


end Go.Proofs.Ytfgmlaeikcfpbaa

namespace Go.Proofs.Ytfgmlaeikcfpbaa
open Go Ax
open Go.Proofs

theorem leads_T {p q : Int} {n : Nat} : Leads opT (wgT p q) n := fun a b _ _ _ => ⟨fun _ => rfl, fun _ => rfl⟩
theorem triesTI_ok (n need p q : Int) (h : 0 ≤ n ∧ n ≤ 9) : Pure Try.prog 66 [.int .i64 n, .int .i64 need, .clos 67 [] [], .clos 68 [] [.rptr [.int .i64 p] 0, .rptr [.int .i64 q] 0]] (.tup [.agg [.rsl (rowStg (triesK opT (wgT p q) (Int.toNat n) need).1.stages) 0 (triesK opT (wgT p q) (Int.toNat n) need).1.stages.length, .rsl (rowI (triesK opT (wgT p q) (Int.toNat n) need).1.worth) 0 (triesK opT (wgT p q) (Int.toNat n) need).1.worth.length, .int .i64 (triesK opT (wgT p q) (Int.toNat n) need).1.price], .int .i64 (triesK opT (wgT p q) (Int.toNat n) need).2]) := by
  have := triesT_ok (Int.toNat n) need p q ⟨by omega, leads_T⟩
  rw [Int.toNat_of_nonneg h.1] at this; exact this
theorem f21b : Try.f21.body = some (bodyAt Try.prog 21) := by kernel_rfl
theorem p21_start_0 (n : Int) (need : Int) (p : Int) (q : Int)   {E : Env} {res : AV} (hE : PureE Try.prog 21 res E) (o0 : PureF Try.prog (.clos 65 [] []) [.int .i64 n, .int .i64 1, .int .i64 9] (.bool (within n 1 9))) (o1 : (!(within n 1 9)) = true)
    (hr : AvLe (.tup [.agg [.nilSl, .nilSl, .int .i64 0], .int .i64 1]) res) : G Try.prog E [.code (bodyAt Try.prog 21)] ⟨[.int .i64 n, .int .i64 need, .int .i64 p, .int .i64 q] ++ unds (Try.f21.ntmps - 4), []⟩ :=
  end_stepL (n := 400) (evs := [.v (.bool (within n 1 9)), .b true, .b true, .b true, .b true]) (obs := [PureF Try.prog (.clos 65 [] []) [.int .i64 n, .int .i64 1, .int .i64 9] (.bool (within n 1 9)), (!(within n 1 9)) = true, true = true, true = true, true = true, 3 ≤ 3]) hE Try.func21 mixed (by kernel_rfl) ⟨o0, o1, (rfl), (rfl), (rfl), (by decide), trivial⟩ hr
theorem p21_start_1 (n : Int) (need : Int) (p : Int) (q : Int)   {E : Env} {res : AV} (hE : PureE Try.prog 21 res E) (o0 : PureF Try.prog (.clos 65 [] []) [.int .i64 n, .int .i64 1, .int .i64 9] (.bool (within n 1 9))) (o1 : (!(within n 1 9)) = false) (o2 : PureF Try.prog (.clos 65 [] []) [.int .i64 need, .int .i64 0, .int .i64 n] (.bool (within need 0 n))) (o3 : (!(within need 0 n)) = true)
    (hr : AvLe (.tup [.agg [.nilSl, .nilSl, .int .i64 0], .int .i64 1]) res) : G Try.prog E [.code (bodyAt Try.prog 21)] ⟨[.int .i64 n, .int .i64 need, .int .i64 p, .int .i64 q] ++ unds (Try.f21.ntmps - 4), []⟩ :=
  end_stepL (n := 400) (evs := [.v (.bool (within n 1 9)), .b false, .v (.bool (within need 0 n)), .b true, .b true, .b true]) (obs := [PureF Try.prog (.clos 65 [] []) [.int .i64 n, .int .i64 1, .int .i64 9] (.bool (within n 1 9)), (!(within n 1 9)) = false, PureF Try.prog (.clos 65 [] []) [.int .i64 need, .int .i64 0, .int .i64 n] (.bool (within need 0 n)), (!(within need 0 n)) = true, true = true, true = true, 3 ≤ 3]) hE Try.func21 mixed (by kernel_rfl) ⟨o0, o1, o2, o3, (rfl), (rfl), (by decide), trivial⟩ hr
theorem p21_start_2 (n : Int) (need : Int) (p : Int) (q : Int)   {E : Env} {res : AV} (hE : PureE Try.prog 21 res E) (o0 : PureF Try.prog (.clos 65 [] []) [.int .i64 n, .int .i64 1, .int .i64 9] (.bool (within n 1 9))) (o1 : (!(within n 1 9)) = false) (o2 : PureF Try.prog (.clos 65 [] []) [.int .i64 need, .int .i64 0, .int .i64 n] (.bool (within need 0 n))) (o3 : (!(within need 0 n)) = false) (o4 : PureF Try.prog (.clos 65 [] []) [.int .i64 p, .int .i64 1, .int .i64 100] (.bool (within p 1 100))) (o5 : (!(within p 1 100)) = true)
    (hr : AvLe (.tup [.agg [.nilSl, .nilSl, .int .i64 0], .int .i64 1]) res) : G Try.prog E [.code (bodyAt Try.prog 21)] ⟨[.int .i64 n, .int .i64 need, .int .i64 p, .int .i64 q] ++ unds (Try.f21.ntmps - 4), []⟩ :=
  end_stepL (n := 400) (evs := [.v (.bool (within n 1 9)), .b false, .v (.bool (within need 0 n)), .b false, .v (.bool (within p 1 100)), .b true, .b true]) (obs := [PureF Try.prog (.clos 65 [] []) [.int .i64 n, .int .i64 1, .int .i64 9] (.bool (within n 1 9)), (!(within n 1 9)) = false, PureF Try.prog (.clos 65 [] []) [.int .i64 need, .int .i64 0, .int .i64 n] (.bool (within need 0 n)), (!(within need 0 n)) = false, PureF Try.prog (.clos 65 [] []) [.int .i64 p, .int .i64 1, .int .i64 100] (.bool (within p 1 100)), (!(within p 1 100)) = true, true = true, 3 ≤ 3]) hE Try.func21 mixed (by kernel_rfl) ⟨o0, o1, o2, o3, o4, o5, (rfl), (by decide), trivial⟩ hr
theorem p21_start_3 (n : Int) (need : Int) (p : Int) (q : Int)   {E : Env} {res : AV} (hE : PureE Try.prog 21 res E) (o0 : PureF Try.prog (.clos 65 [] []) [.int .i64 n, .int .i64 1, .int .i64 9] (.bool (within n 1 9))) (o1 : (!(within n 1 9)) = false) (o2 : PureF Try.prog (.clos 65 [] []) [.int .i64 need, .int .i64 0, .int .i64 n] (.bool (within need 0 n))) (o3 : (!(within need 0 n)) = false) (o4 : PureF Try.prog (.clos 65 [] []) [.int .i64 p, .int .i64 1, .int .i64 100] (.bool (within p 1 100))) (o5 : (!(within p 1 100)) = false) (o6 : PureF Try.prog (.clos 65 [] []) [.int .i64 q, .int .i64 1, .int .i64 100] (.bool (within q 1 100))) (o7 : (!(within q 1 100)) = true)
    (hr : AvLe (.tup [.agg [.nilSl, .nilSl, .int .i64 0], .int .i64 1]) res) : G Try.prog E [.code (bodyAt Try.prog 21)] ⟨[.int .i64 n, .int .i64 need, .int .i64 p, .int .i64 q] ++ unds (Try.f21.ntmps - 4), []⟩ :=
  end_stepL (n := 400) (evs := [.v (.bool (within n 1 9)), .b false, .v (.bool (within need 0 n)), .b false, .v (.bool (within p 1 100)), .b false, .v (.bool (within q 1 100)), .b true]) (obs := [PureF Try.prog (.clos 65 [] []) [.int .i64 n, .int .i64 1, .int .i64 9] (.bool (within n 1 9)), (!(within n 1 9)) = false, PureF Try.prog (.clos 65 [] []) [.int .i64 need, .int .i64 0, .int .i64 n] (.bool (within need 0 n)), (!(within need 0 n)) = false, PureF Try.prog (.clos 65 [] []) [.int .i64 p, .int .i64 1, .int .i64 100] (.bool (within p 1 100)), (!(within p 1 100)) = false, PureF Try.prog (.clos 65 [] []) [.int .i64 q, .int .i64 1, .int .i64 100] (.bool (within q 1 100)), (!(within q 1 100)) = true, 3 ≤ 3]) hE Try.func21 mixed (by kernel_rfl) ⟨o0, o1, o2, o3, o4, o5, o6, o7, (by decide), trivial⟩ hr
theorem p21_start_4 (n : Int) (need : Int) (p : Int) (q : Int)   {E : Env} {res : AV} (hE : PureE Try.prog 21 res E) (o0 : PureF Try.prog (.clos 65 [] []) [.int .i64 n, .int .i64 1, .int .i64 9] (.bool (within n 1 9))) (o1 : (!(within n 1 9)) = false) (o2 : PureF Try.prog (.clos 65 [] []) [.int .i64 need, .int .i64 0, .int .i64 n] (.bool (within need 0 n))) (o3 : (!(within need 0 n)) = false) (o4 : PureF Try.prog (.clos 65 [] []) [.int .i64 p, .int .i64 1, .int .i64 100] (.bool (within p 1 100))) (o5 : (!(within p 1 100)) = false) (o6 : PureF Try.prog (.clos 65 [] []) [.int .i64 q, .int .i64 1, .int .i64 100] (.bool (within q 1 100))) (o7 : (!(within q 1 100)) = false) (o8 : LentF Try.prog (.clos 66 [] []) [.int .i64 n, .int .i64 need, .clos 67 [] [], .clos 68 [] [.ptr 0 0 0, .ptr 1 0 0]] [⟨true, 0, 1, true, [.int .i64 p], false⟩, ⟨true, 0, 1, true, [.int .i64 q], false⟩] (.tup [.agg [.rsl (rowStg (((triesK opT (wgT p q) (Int.toNat n) need).1).stages)) 0 ((((triesK opT (wgT p q) (Int.toNat n) need).1).stages).length), .rsl (rowI (((triesK opT (wgT p q) (Int.toNat n) need).1).worth)) 0 ((((triesK opT (wgT p q) (Int.toNat n) need).1).worth).length), .int .i64 (((triesK opT (wgT p q) (Int.toNat n) need).1).price)], .int .i64 ((triesK opT (wgT p q) (Int.toNat n) need).2)]) [⟨false, 1, 1, true, [], false⟩, ⟨false, 1, 1, true, [], false⟩])
    (hr : AvLe (.tup [.agg [.rsl (rowStg (((triesK opT (wgT p q) (Int.toNat n) need).1).stages)) 0 ((((triesK opT (wgT p q) (Int.toNat n) need).1).stages).length), .rsl (rowI (((triesK opT (wgT p q) (Int.toNat n) need).1).worth)) 0 ((((triesK opT (wgT p q) (Int.toNat n) need).1).worth).length), .int .i64 (((triesK opT (wgT p q) (Int.toNat n) need).1).price)], .int .i64 ((triesK opT (wgT p q) (Int.toNat n) need).2)]) res) : G Try.prog E [.code (bodyAt Try.prog 21)] ⟨[.int .i64 n, .int .i64 need, .int .i64 p, .int .i64 q] ++ unds (Try.f21.ntmps - 4), []⟩ :=
  end_stepL (n := 400) (evs := [.v (.bool (within n 1 9)), .b false, .v (.bool (within need 0 n)), .b false, .v (.bool (within p 1 100)), .b false, .v (.bool (within q 1 100)), .b false, .lent [0, 1] (.tup [.agg [.rsl (rowStg (((triesK opT (wgT p q) (Int.toNat n) need).1).stages)) 0 ((((triesK opT (wgT p q) (Int.toNat n) need).1).stages).length), .rsl (rowI (((triesK opT (wgT p q) (Int.toNat n) need).1).worth)) 0 ((((triesK opT (wgT p q) (Int.toNat n) need).1).worth).length), .int .i64 (((triesK opT (wgT p q) (Int.toNat n) need).1).price)], .int .i64 ((triesK opT (wgT p q) (Int.toNat n) need).2)]) [⟨false, 1, 1, true, [], false⟩, ⟨false, 1, 1, true, [], false⟩]]) (obs := [PureF Try.prog (.clos 65 [] []) [.int .i64 n, .int .i64 1, .int .i64 9] (.bool (within n 1 9)), (!(within n 1 9)) = false, PureF Try.prog (.clos 65 [] []) [.int .i64 need, .int .i64 0, .int .i64 n] (.bool (within need 0 n)), (!(within need 0 n)) = false, PureF Try.prog (.clos 65 [] []) [.int .i64 p, .int .i64 1, .int .i64 100] (.bool (within p 1 100)), (!(within p 1 100)) = false, PureF Try.prog (.clos 65 [] []) [.int .i64 q, .int .i64 1, .int .i64 100] (.bool (within q 1 100)), (!(within q 1 100)) = false, LentF Try.prog (.clos 66 [] []) [.int .i64 n, .int .i64 need, .clos 67 [] [], .clos 68 [] [.ptr 0 0 0, .ptr 1 0 0]] [⟨true, 0, 1, true, [.int .i64 p], false⟩, ⟨true, 0, 1, true, [.int .i64 q], false⟩] (.tup [.agg [.rsl (rowStg (((triesK opT (wgT p q) (Int.toNat n) need).1).stages)) 0 ((((triesK opT (wgT p q) (Int.toNat n) need).1).stages).length), .rsl (rowI (((triesK opT (wgT p q) (Int.toNat n) need).1).worth)) 0 ((((triesK opT (wgT p q) (Int.toNat n) need).1).worth).length), .int .i64 (((triesK opT (wgT p q) (Int.toNat n) need).1).price)], .int .i64 ((triesK opT (wgT p q) (Int.toNat n) need).2)]) [⟨false, 1, 1, true, [], false⟩, ⟨false, 1, 1, true, [], false⟩], 3 ≤ 3]) hE Try.func21 mixed (by kernel_rfl) ⟨o0, o1, o2, o3, o4, o5, o6, o7, o8, (by decide), trivial⟩ hr
theorem f21W (n : Int) (need : Int) (p : Int) (q : Int) {E : Env} {rv : (Stl × Int)} (hE : PureE Try.prog 21 (.tup [.agg [.rsl (rowStg rv.1.stages) 0 rv.1.stages.length, .rsl (rowI rv.1.worth) 0 rv.1.worth.length, .int .i64 rv.1.price], .int .i64 rv.2]) E)
    (h : (((within n 1 9) = false → rv = ((⟨([] : List Stg), ([] : List Int), 0⟩ : Stl), 1)) ∧ ((within n 1 9) = true → (((within need 0 n) = false → rv = ((⟨([] : List Stg), ([] : List Int), 0⟩ : Stl), 1)) ∧ ((within need 0 n) = true → (((within p 1 100) = false → rv = ((⟨([] : List Stg), ([] : List Int), 0⟩ : Stl), 1)) ∧ ((within p 1 100) = true → (((within q 1 100) = false → rv = ((⟨([] : List Stg), ([] : List Int), 0⟩ : Stl), 1)) ∧ ((within q 1 100) = true → ((0 ≤ n ∧ n ≤ 9) ∧ rv = (((triesK opT (wgT p q) (Int.toNat n) need).1), (triesK opT (wgT p q) (Int.toNat n) need).2))))))))))) : G Try.prog E [.code (bodyAt Try.prog 21)] ⟨[.int .i64 n, .int .i64 need, .int .i64 p, .int .i64 q] ++ unds (Try.f21.ntmps - 4), []⟩ := by
  rcases Bool.eq_false_or_eq_true (!(within n 1 9)) with hc0 | hc0
  · have h := h.1 (bnT hc0)
    exact p21_start_0 n need p q    hE (pureF_of Try.func65 (by kernel_rfl) f65b (within_ok n 1 9)) hc0 (by rw [h]; exact (tup_le ⟨(agg_le ⟨nil_le, ⟨nil_le, ⟨AvLe.of_eq rfl, trivial⟩⟩⟩), ⟨AvLe.of_eq rfl, trivial⟩⟩))
  · have h := h.2 (bnF hc0)
    rcases Bool.eq_false_or_eq_true (!(within need 0 n)) with hc1 | hc1
    · have h := h.1 (bnT hc1)
      exact p21_start_1 n need p q    hE (pureF_of Try.func65 (by kernel_rfl) f65b (within_ok n 1 9)) hc0 (pureF_of Try.func65 (by kernel_rfl) f65b (within_ok need 0 n)) hc1 (by rw [h]; exact (tup_le ⟨(agg_le ⟨nil_le, ⟨nil_le, ⟨AvLe.of_eq rfl, trivial⟩⟩⟩), ⟨AvLe.of_eq rfl, trivial⟩⟩))
    · have h := h.2 (bnF hc1)
      rcases Bool.eq_false_or_eq_true (!(within p 1 100)) with hc2 | hc2
      · have h := h.1 (bnT hc2)
        exact p21_start_2 n need p q    hE (pureF_of Try.func65 (by kernel_rfl) f65b (within_ok n 1 9)) hc0 (pureF_of Try.func65 (by kernel_rfl) f65b (within_ok need 0 n)) hc1 (pureF_of Try.func65 (by kernel_rfl) f65b (within_ok p 1 100)) hc2 (by rw [h]; exact (tup_le ⟨(agg_le ⟨nil_le, ⟨nil_le, ⟨AvLe.of_eq rfl, trivial⟩⟩⟩), ⟨AvLe.of_eq rfl, trivial⟩⟩))
      · have h := h.2 (bnF hc2)
        rcases Bool.eq_false_or_eq_true (!(within q 1 100)) with hc3 | hc3
        · have h := h.1 (bnT hc3)
          exact p21_start_3 n need p q    hE (pureF_of Try.func65 (by kernel_rfl) f65b (within_ok n 1 9)) hc0 (pureF_of Try.func65 (by kernel_rfl) f65b (within_ok need 0 n)) hc1 (pureF_of Try.func65 (by kernel_rfl) f65b (within_ok p 1 100)) hc2 (pureF_of Try.func65 (by kernel_rfl) f65b (within_ok q 1 100)) hc3 (by rw [h]; exact (tup_le ⟨(agg_le ⟨nil_le, ⟨nil_le, ⟨AvLe.of_eq rfl, trivial⟩⟩⟩), ⟨AvLe.of_eq rfl, trivial⟩⟩))
        · have h := h.2 (bnF hc3)
          obtain ⟨h1, h⟩ := h
          exact p21_start_4 n need p q    hE (pureF_of Try.func65 (by kernel_rfl) f65b (within_ok n 1 9)) hc0 (pureF_of Try.func65 (by kernel_rfl) f65b (within_ok need 0 n)) hc1 (pureF_of Try.func65 (by kernel_rfl) f65b (within_ok p 1 100)) hc2 (pureF_of Try.func65 (by kernel_rfl) f65b (within_ok q 1 100)) hc3 (lentF_of_pure (fv' := .clos 66 [] []) (args' := [.int .i64 n, .int .i64 need, .clos 67 [] [], .clos 68 [] [.rptr [.int .i64 p] 0, .rptr [.int .i64 q] 0]]) (o1 := []) (o2 := []) (by kernel_rfl) trivial (by kernel_rfl) trivial (pureF_of Try.func66 (by kernel_rfl) f66tb (triesTI_ok n need p q h1))) (AvLe.of_eq (by rw [h]; try rfl))
def errS : Stl × Int := (⟨[], [], 0⟩, 1)
def throwsK (n need p q : Int) : Stl × Int := if within n 1 9 = true ∧ within need 0 n = true ∧ within p 1 100 = true ∧ within q 1 100 = true then triesK opT (wgT p q) (Int.toNat n) need else errS
theorem throws_ok (n need p q : Int) : Pure Try.prog 21 [.int .i64 n, .int .i64 need, .int .i64 p, .int .i64 q] (.tup [.agg [.rsl (rowStg (throwsK n need p q).1.stages) 0 (throwsK n need p q).1.stages.length, .rsl (rowI (throwsK n need p q).1.worth) 0 (throwsK n need p q).1.worth.length, .int .i64 (throwsK n need p q).1.price], .int .i64 (throwsK n need p q).2]) := pure_of Try.func21 f21b fun E hE => by
  have no : ¬ (within n 1 9 = true ∧ within need 0 n = true ∧ within p 1 100 = true ∧ within q 1 100 = true) → throwsK n need p q = errS := fun h => by rw [throwsK, if_neg h]
  refine f21W n need p q (rv := throwsK n need p q) hE ⟨fun h => no (by simp [h]), fun h1 => ⟨fun h => no (by simp [h]), fun h2 => ⟨fun h => no (by simp [h]), fun h3 => ⟨fun h => no (by simp [h]), fun h4 => ⟨?_, ?_⟩⟩⟩⟩⟩
  · have := within_iff.1 h1; omega
  · rw [throwsK, if_pos ⟨h1, h2, h3, h4⟩]
end Go.Proofs.Ytfgmlaeikcfpbaa

namespace Go.Proofs.Ytfgmlaeikcfpbaa
open Go Ax
open Go.Proofs

theorem f112b : Try.f112.body = some (bodyAt Try.prog 112) := by kernel_rfl
theorem p112_start_0 (n : Int)   {E : Env} {res : AV} (hE : PureE Try.prog 112 res E) (o0 : (n != 1) = true)
    (hr : AvLe (.bool (n != 2)) res) : G Try.prog E [.code (bodyAt Try.prog 112)] ⟨[.int .i64 n] ++ unds (Try.f112.ntmps - 1), []⟩ :=
  end_stepL (n := 400) (evs := [.b true]) (obs := [(n != 1) = true]) hE Try.func112 mixed (by kernel_rfl) ⟨o0, trivial⟩ hr
theorem p112_start_1 (n : Int)   {E : Env} {res : AV} (hE : PureE Try.prog 112 res E) (o0 : (n != 1) = false)
    (hr : AvLe (.bool false) res) : G Try.prog E [.code (bodyAt Try.prog 112)] ⟨[.int .i64 n] ++ unds (Try.f112.ntmps - 1), []⟩ :=
  end_stepL (n := 400) (evs := [.b false]) (obs := [(n != 1) = false]) hE Try.func112 mixed (by kernel_rfl) ⟨o0, trivial⟩ hr
theorem f112W (n : Int) {E : Env} {rv : Bool} (hE : PureE Try.prog 112 (.bool rv) E)
    (h : ((¬ (n = 1) → rv = (n != 2)) ∧ (n = 1 → rv = false))) : G Try.prog E [.code (bodyAt Try.prog 112)] ⟨[.int .i64 n] ++ unds (Try.f112.ntmps - 1), []⟩ := by
  rcases Bool.eq_false_or_eq_true (n != 1) with hc0 | hc0
  · have h := h.1 (bneT hc0)
    exact p112_start_0 n    hE hc0 (AvLe.of_eq (by rw [h]; try rfl))
  · have h := h.2 (bneF hc0)
    exact p112_start_1 n    hE hc0 (AvLe.of_eq (by rw [h]; try rfl))

def aimOk (n : Int) : Bool := decide (n = 1) || decide (n = 2)
theorem noaim_ok (n : Int) : Pure Try.prog 112 [.int .i64 n] (.bool (!aimOk n)) := pure_of Try.func112 f112b fun E hE => by
  refine f112W n (rv := !aimOk n) hE ⟨fun h => ?_, fun h => by simp [aimOk, h]⟩
  by_cases h2 : n = 2
  · simp [aimOk, h, h2]
  · simp [aimOk, h, h2]

def f120aK0 (P : Program) : List Item := kAt 400 [.code (bodyAt P 120)] [.stop]
def f120aS0 (l : (List Int)) (i : Nat)  : St := ⟨[.rsl (rowI l) 0 l.length, .clos 112 [] [], .junk, .junk, .junk, .junk, .junk, .int .i64 (l.length : Int), .int .i64 (i : Int), .junk, .junk, .junk, .junk, .junk, .junk, .junk, .junk, .junk, .junk], []⟩
def f120aG0 (E : Env) (l : (List Int)) (i : Nat) : Prop := G Try.prog E (f120aK0 Try.prog) (f120aS0 l i )
theorem p120a_start_0 (l : (List Int))   {E : Env} {rv : AV} (hE : PureE Try.prog 120 rv E) 
    (hg : G Try.prog E (f120aK0 Try.prog) ⟨[.rsl (rowI l) 0 l.length, .clos 112 [] [], .junk, .junk, .junk, .junk, .junk, .int .i64 (l.length : Int), .int .i64 0, .junk, .junk, .junk, .junk, .junk, .junk, .junk, .junk, .junk, .junk], []⟩) : G Try.prog E [.code (bodyAt Try.prog 120)] ⟨[.rsl (rowI l) 0 l.length, .clos 112 [] []] ++ unds (Try.f120.ntmps - 2), []⟩ :=
  segC_step (n := 400) (ds := []) (cs := []) (live := [0, 1, 7, 8]) (m := 0) (evs := [.stop]) (obs := []) hE.2.1 (hE.nogh _) mixed (by kernel_rfl) trivial hg
theorem f120aW (l : (List Int)) {E : Env} {rv : Int} (hE : PureE Try.prog 120 (.int .i64 rv) E)
    (h : f120aG0 E l 0) : G Try.prog E [.code (bodyAt Try.prog 120)] ⟨[.rsl (rowI l) 0 l.length, .clos 112 [] []] ++ unds (Try.f120.ntmps - 2), []⟩ := by
  exact p120a_start_0 l    hE  h
theorem p120a_0_0 (l : (List Int)) (i : Nat)  (e : Int)  {E : Env} {res : AV} (hE : PureE Try.prog 120 res E) (o0 : (decide ((i : Int) < (l.length : Int))) = true) (o2 : 0 ≤ (i : Int) ∧ (i : Int) < (l.length : Int)) (o3 : ((rowI l).drop (0 + (Int.toNat (i : Int)) * 1)).take 1 = [.int .i64 e]) (o4 : PureF Try.prog (.clos 112 [] []) [.int .i64 e] (.bool (!aimOk e))) (o5 : (!aimOk e) = true)
    (hr : AvLe (.int .i64 (i : Int)) res) : G Try.prog E (f120aK0 Try.prog) (f120aS0 l i ) :=
  end_stepL (n := 400) (evs := [.b true, .ld (.int .i64 e), .v (.bool (!aimOk e)), .b true]) (obs := [(decide ((i : Int) < (l.length : Int))) = true, 0 ≤ (i : Int) ∧ (i : Int) < (l.length : Int), ((rowI l).drop (0 + (Int.toNat (i : Int)) * 1)).take 1 = [.int .i64 e], PureF Try.prog (.clos 112 [] []) [.int .i64 e] (.bool (!aimOk e)), (!aimOk e) = true]) hE Try.func120 mixed (by kernel_rfl) ⟨o0, o2, o3, o4, o5, trivial⟩ hr
theorem p120a_0_1 (l : (List Int)) (i : Nat)  (e : Int)  {E : Env} {rv : AV} (hE : PureE Try.prog 120 rv E) (o0 : (decide ((i : Int) < (l.length : Int))) = true) (o2 : 0 ≤ (i : Int) ∧ (i : Int) < (l.length : Int)) (o3 : ((rowI l).drop (0 + (Int.toNat (i : Int)) * 1)).take 1 = [.int .i64 e]) (o4 : PureF Try.prog (.clos 112 [] []) [.int .i64 e] (.bool (!aimOk e))) (o5 : (!aimOk e) = false) (o6 : InR .i64 ((i : Int) + 1))
    (hg : G Try.prog E (f120aK0 Try.prog) ⟨[.rsl (rowI l) 0 l.length, .clos 112 [] [], .junk, .junk, .junk, .junk, .junk, .int .i64 (l.length : Int), .int .i64 ((i : Int) + 1), .junk, .junk, .junk, .junk, .junk, .junk, .junk, .junk, .junk, .junk], []⟩) : G Try.prog E (f120aK0 Try.prog) (f120aS0 l i ) :=
  segC_step (n := 400) (ds := []) (cs := []) (live := [0, 1, 7, 8]) (m := 0) (evs := [.b true, .ld (.int .i64 e), .v (.bool (!aimOk e)), .b false, .stop]) (obs := [(decide ((i : Int) < (l.length : Int))) = true, 0 ≤ (i : Int) ∧ (i : Int) < (l.length : Int), ((rowI l).drop (0 + (Int.toNat (i : Int)) * 1)).take 1 = [.int .i64 e], PureF Try.prog (.clos 112 [] []) [.int .i64 e] (.bool (!aimOk e)), (!aimOk e) = false, InR .i64 ((i : Int) + 1)]) hE.2.1 (hE.nogh _) mixed (by kernel_rfl) ⟨o0, o2, o3, o4, o5, o6, trivial⟩ hg
theorem p120a_0_2 (l : (List Int)) (i : Nat)   {E : Env} {res : AV} (hE : PureE Try.prog 120 res E) (o0 : (decide ((i : Int) < (l.length : Int))) = false)
    (hr : AvLe (.int .i64 (-1)) res) : G Try.prog E (f120aK0 Try.prog) (f120aS0 l i ) :=
  end_stepL (n := 400) (evs := [.b false]) (obs := [(decide ((i : Int) < (l.length : Int))) = false]) hE Try.func120 mixed (by kernel_rfl) ⟨o0, trivial⟩ hr
theorem f120aW0 (l : (List Int)) (i : Nat) {E : Env} {rv : Int} (hE : PureE Try.prog 120 (.int .i64 rv) E)
    (h : (((i : Int) < (l.length : Int) → (∃ e : Int, l[i]? = some e ∧ (((!aimOk e) = true → rv = (i : Int)) ∧ ((!aimOk e) = false → ((-9223372036854775808 ≤ (i : Int) + 1 ∧ (i : Int) + 1 ≤ 9223372036854775807) ∧ f120aG0 E l (i + 1)))))) ∧ (¬ ((i : Int) < (l.length : Int)) → rv = (-1)))) : f120aG0 E l i := by
  rcases Bool.eq_false_or_eq_true (decide ((i : Int) < (l.length : Int))) with hc0 | hc0
  · have h := h.1 (of_decide_eq_true hc0)
    obtain ⟨e, h1, h⟩ := h
    rcases Bool.eq_false_or_eq_true (!aimOk e) with hc1 | hc1
    · have h := h.1 hc1
      exact p120a_0_0 l i  e hE hc0 (idx_ok h1) (row_part cI (s := 1) (k := 0) (m := 1) (fun _ => rfl) (by decide) h1) (pureF_of Try.func112 (by kernel_rfl) f112b (noaim_ok e)) hc1 (AvLe.of_eq (by rw [h]; try rfl))
    · have h := h.2 hc1
      obtain ⟨q6_2, h⟩ := h
      exact p120a_0_1 l i  e hE hc0 (idx_ok h1) (row_part cI (s := 1) (k := 0) (m := 1) (fun _ => rfl) (by decide) h1) (pureF_of Try.func112 (by kernel_rfl) f112b (noaim_ok e)) hc1 q6_2 h
  · have h := h.2 (of_decide_eq_false hc0)
    exact p120a_0_2 l i   hE hc0 (AvLe.of_eq (by rw [h]; try rfl))

theorem idxA_ok (l : List Int) (h : l.length ≤ 9223372036854775807) : Pure Try.prog 120 [.rsl (rowI l) 0 l.length, .clos 112 [] []] (.int .i64 (idxG (fun n => !aimOk n) l)) := pure_of Try.func120 f120b fun E hE => by
  refine f120aW l hE (idxG_from (fun n => !aimOk n) l l.length 0 (by omega) (fun j x hj => by omega) (fun i => f120aG0 E l i) (fun i hi' h1 h2 => ?_) (fun _ h2 => ?_))
  · have hx : l[i]? = some l[i] := List.getElem?_eq_getElem hi'
    exact f120aW0 l i hE ⟨fun _ => ⟨_, hx, fun hp => h1 _ hx hp, fun hp => ⟨by omega, h2 _ hx hp⟩⟩, fun h => by omega⟩
  · exact f120aW0 l _ hE ⟨fun h => by omega, fun _ => h2⟩

theorem p96a_start_0 (l : (List Int))   {E : Env} {res : AV} (hE : PureE Try.prog 96 res E) (o0 : PureF Try.prog (.clos 120 [] []) [.rsl (rowI l) 0 l.length, .clos 112 [] []] (.int .i64 (idxG (fun n => !aimOk n) l)))
    (hr : AvLe (.bool (decide ((idxG (fun n => !aimOk n) l) ≥ 0))) res) : G Try.prog E [.code (bodyAt Try.prog 96)] ⟨[.rsl (rowI l) 0 l.length, .clos 112 [] []] ++ unds (Try.f96.ntmps - 2), []⟩ :=
  end_stepL (n := 400) (evs := [.v (.int .i64 (idxG (fun n => !aimOk n) l))]) (obs := [PureF Try.prog (.clos 120 [] []) [.rsl (rowI l) 0 l.length, .clos 112 [] []] (.int .i64 (idxG (fun n => !aimOk n) l))]) hE Try.func96 mixed (by kernel_rfl) ⟨o0, trivial⟩ hr
theorem f96aW (l : (List Int)) {E : Env} {rv : Bool} (hE : PureE Try.prog 96 (.bool rv) E)
    (h : ((l.length ≤ 9223372036854775807) ∧ rv = (decide ((idxG (fun n => !aimOk n) l) ≥ 0)))) : G Try.prog E [.code (bodyAt Try.prog 96)] ⟨[.rsl (rowI l) 0 l.length, .clos 112 [] []] ++ unds (Try.f96.ntmps - 2), []⟩ := by
  obtain ⟨h1, h⟩ := h
  exact p96a_start_0 l    hE (pureF_of Try.func120 (by kernel_rfl) f120b (idxA_ok l h1)) (AvLe.of_eq (by rw [h]; try rfl))

theorem anyA_ok (l : List Int) (h : l.length ≤ 9223372036854775807) : Pure Try.prog 96 [.rsl (rowI l) 0 l.length, .clos 112 [] []] (.bool (l.any fun n => !aimOk n)) := pure_of Try.func96 f96b fun E hE =>
  f96aW l hE ⟨h, (idxG_any _ l).symm⟩

theorem f74b : Try.f74.body = some (bodyAt Try.prog 74) := by kernel_rfl
theorem p74_start_0 (l : (List Int))   {E : Env} {res : AV} (hE : PureE Try.prog 74 res E) (o0 : PureF Try.prog (.clos 96 [] []) [.rsl (rowI l) 0 l.length, .clos 112 [] []] (.bool (l.any (fun n => !aimOk n))))
    (hr : AvLe (.bool (!(l.any (fun n => !aimOk n)))) res) : G Try.prog E [.code (bodyAt Try.prog 74)] ⟨[.rsl (rowI l) 0 l.length] ++ unds (Try.f74.ntmps - 1), []⟩ :=
  end_stepL (n := 400) (evs := [.v (.bool (l.any (fun n => !aimOk n)))]) (obs := [PureF Try.prog (.clos 96 [] []) [.rsl (rowI l) 0 l.length, .clos 112 [] []] (.bool (l.any (fun n => !aimOk n)))]) hE Try.func74 mixed (by kernel_rfl) ⟨o0, trivial⟩ hr
theorem f74W (l : (List Int)) {E : Env} {rv : Bool} (hE : PureE Try.prog 74 (.bool rv) E)
    (h : ((l.length ≤ 9223372036854775807) ∧ rv = (!(l.any (fun n => !aimOk n))))) : G Try.prog E [.code (bodyAt Try.prog 74)] ⟨[.rsl (rowI l) 0 l.length] ++ unds (Try.f74.ntmps - 1), []⟩ := by
  obtain ⟨h1, h⟩ := h
  exact p74_start_0 l    hE (pureF_of Try.func96 (by kernel_rfl) f96b (anyA_ok l h1)) (AvLe.of_eq (by rw [h]; try rfl))
theorem f73b : Try.f73.body = some (bodyAt Try.prog 73) := by kernel_rfl
theorem p73_start_0 (n : Int) (m : Mch)   {E : Env} {res : AV} (hE : PureE Try.prog 73 res E) (o0 : InR .i64 ((m.s.worth.length : Int) - 1)) (o1 : PureF Try.prog (.clos 65 [] []) [.int .i64 n, .int .i64 0, .int .i64 ((m.s.worth.length : Int) - 1)] (.bool (within n 0 ((m.s.worth.length : Int) - 1))))
    (hr : AvLe (.bool (within n 0 ((m.s.worth.length : Int) - 1))) res) : G Try.prog E [.code (bodyAt Try.prog 73)] ⟨[.rptr [.rsl (rowStg m.s.stages) 0 m.s.stages.length, .rsl (rowI m.s.worth) 0 m.s.worth.length, .int .i64 m.s.price, .rsl (rowI m.meas) 0 m.meas.length, .rsl (rowI m.mult) 0 m.mult.length] 0, .int .i64 n] ++ unds (Try.f73.ntmps - 2), []⟩ :=
  end_stepL (n := 400) (evs := [.v (.bool (within n 0 ((m.s.worth.length : Int) - 1)))]) (obs := [InR .i64 ((m.s.worth.length : Int) - 1), PureF Try.prog (.clos 65 [] []) [.int .i64 n, .int .i64 0, .int .i64 ((m.s.worth.length : Int) - 1)] (.bool (within n 0 ((m.s.worth.length : Int) - 1)))]) hE Try.func73 mixed (by kernel_rfl) ⟨o0, o1, trivial⟩ hr
theorem f73W (n : Int) (m : Mch) {E : Env} {rv : Bool} (hE : PureE Try.prog 73 (.bool rv) E)
    (h : ((-9223372036854775808 ≤ (m.s.worth.length : Int) - 1 ∧ (m.s.worth.length : Int) - 1 ≤ 9223372036854775807) ∧ rv = (within n 0 ((m.s.worth.length : Int) - 1)))) : G Try.prog E [.code (bodyAt Try.prog 73)] ⟨[.rptr [.rsl (rowStg m.s.stages) 0 m.s.stages.length, .rsl (rowI m.s.worth) 0 m.s.worth.length, .int .i64 m.s.price, .rsl (rowI m.meas) 0 m.meas.length, .rsl (rowI m.mult) 0 m.mult.length] 0, .int .i64 n] ++ unds (Try.f73.ntmps - 2), []⟩ := by
  obtain ⟨q0_0, h⟩ := h
  exact p73_start_0 n m    hE q0_0 (pureF_of Try.func65 (by kernel_rfl) f65b (within_ok n 0 ((m.s.worth.length : Int) - 1))) (AvLe.of_eq (by rw [h]; try rfl))

def aimsI (l : List Int) : Bool := !(l.any fun n => !aimOk n)
theorem aims_ok (l : List Int) (h : l.length ≤ 9223372036854775807) : Pure Try.prog 74 [.rsl (rowI l) 0 l.length] (.bool (aimsI l)) := pure_of Try.func74 f74b fun E hE => f74W l (rv := aimsI l) hE ⟨h, rfl⟩
def kindI (m : Mch) (n : Int) : Bool := within n 0 ((m.s.worth.length : Int) - 1)
theorem kind_ok (m : Mch) (n : Int) (h : m.s.worth.length ≤ 1000000) : Pure Try.prog 73 [.rptr (cMch m) 0, .int .i64 n] (.bool (kindI m n)) := pure_of Try.func73 f73b fun E hE => f73W n m (rv := kindI m n) hE ⟨by omega, rfl⟩

theorem f113b : Try.f113.body = some (bodyAt Try.prog 113) := by kernel_rfl
theorem p113_start_0 (n : Int) (kd : Int)   {E : Env} {res : AV} (hE : PureE Try.prog 113 res E) (o0 : (n == kd) = true)
    (hr : AvLe (.int .i64 1) res) : G Try.prog E [.code (bodyAt Try.prog 113)] ⟨[.int .i64 n, .rptr [.int .i64 kd] 0] ++ unds (Try.f113.ntmps - 2), []⟩ :=
  end_stepL (n := 400) (evs := [.b true]) (obs := [(n == kd) = true]) hE Try.func113 mixed (by kernel_rfl) ⟨o0, trivial⟩ hr
theorem p113_start_1 (n : Int) (kd : Int)   {E : Env} {res : AV} (hE : PureE Try.prog 113 res E) (o0 : (n == kd) = false)
    (hr : AvLe (.int .i64 0) res) : G Try.prog E [.code (bodyAt Try.prog 113)] ⟨[.int .i64 n, .rptr [.int .i64 kd] 0] ++ unds (Try.f113.ntmps - 2), []⟩ :=
  end_stepL (n := 400) (evs := [.b false]) (obs := [(n == kd) = false]) hE Try.func113 mixed (by kernel_rfl) ⟨o0, trivial⟩ hr
theorem f113W (n : Int) (kd : Int) {E : Env} {rv : Int} (hE : PureE Try.prog 113 (.int .i64 rv) E)
    (h : ((n = kd → rv = 1) ∧ (¬ (n = kd) → rv = 0))) : G Try.prog E [.code (bodyAt Try.prog 113)] ⟨[.int .i64 n, .rptr [.int .i64 kd] 0] ++ unds (Try.f113.ntmps - 2), []⟩ := by
  rcases Bool.eq_false_or_eq_true (n == kd) with hc0 | hc0
  · have h := h.1 (eq_of_beq hc0)
    exact p113_start_0 n kd    hE hc0 (AvLe.of_eq (by rw [h]; try rfl))
  · have h := h.2 (ne_of_beq_false hc0)
    exact p113_start_1 n kd    hE hc0 (AvLe.of_eq (by rw [h]; try rfl))
theorem f115b : Try.f115.body = some (bodyAt Try.prog 115) := by kernel_rfl
def f115K0 (P : Program) : List Item := kAt 400 [.code (bodyAt P 115)] [.stop]
def f115S0 (l : (List Int)) (v : Int) (i : Nat)  : St := ⟨[.rsl (rowI l) 0 l.length, .int .i64 v, .junk, .junk, .junk, .junk, .junk, .int .i64 (l.length : Int), .int .i64 (i : Int), .junk, .junk, .junk, .junk, .junk, .junk, .junk, .junk, .junk, .junk], []⟩
def f115G0 (E : Env) (l : (List Int)) (v : Int) (i : Nat) : Prop := G Try.prog E (f115K0 Try.prog) (f115S0 l v i )
theorem p115_start_0 (l : (List Int)) (v : Int)   {E : Env} {rv : AV} (hE : PureE Try.prog 115 rv E) 
    (hg : G Try.prog E (f115K0 Try.prog) ⟨[.rsl (rowI l) 0 l.length, .int .i64 v, .junk, .junk, .junk, .junk, .junk, .int .i64 (l.length : Int), .int .i64 0, .junk, .junk, .junk, .junk, .junk, .junk, .junk, .junk, .junk, .junk], []⟩) : G Try.prog E [.code (bodyAt Try.prog 115)] ⟨[.rsl (rowI l) 0 l.length, .int .i64 v] ++ unds (Try.f115.ntmps - 2), []⟩ :=
  segC_step (n := 400) (ds := []) (cs := []) (live := [0, 1, 7, 8]) (m := 0) (evs := [.stop]) (obs := []) hE.2.1 (hE.nogh _) mixed (by kernel_rfl) trivial hg
theorem f115W (l : (List Int)) (v : Int) {E : Env} {rv : Int} (hE : PureE Try.prog 115 (.int .i64 rv) E)
    (h : f115G0 E l v 0) : G Try.prog E [.code (bodyAt Try.prog 115)] ⟨[.rsl (rowI l) 0 l.length, .int .i64 v] ++ unds (Try.f115.ntmps - 2), []⟩ := by
  exact p115_start_0 l v    hE  h
theorem p115_0_0 (l : (List Int)) (v : Int) (i : Nat)  (e : Int)  {E : Env} {res : AV} (hE : PureE Try.prog 115 res E) (o0 : (decide ((i : Int) < (l.length : Int))) = true) (o2 : 0 ≤ (i : Int) ∧ (i : Int) < (l.length : Int)) (o3 : ((rowI l).drop (0 + (Int.toNat (i : Int)) * 1)).take 1 = [.int .i64 e]) (o4 : (v == e) = true)
    (hr : AvLe (.int .i64 (i : Int)) res) : G Try.prog E (f115K0 Try.prog) (f115S0 l v i ) :=
  end_stepL (n := 400) (evs := [.b true, .ld (.int .i64 e), .b true]) (obs := [(decide ((i : Int) < (l.length : Int))) = true, 0 ≤ (i : Int) ∧ (i : Int) < (l.length : Int), ((rowI l).drop (0 + (Int.toNat (i : Int)) * 1)).take 1 = [.int .i64 e], (v == e) = true]) hE Try.func115 mixed (by kernel_rfl) ⟨o0, o2, o3, o4, trivial⟩ hr
theorem p115_0_1 (l : (List Int)) (v : Int) (i : Nat)  (e : Int)  {E : Env} {rv : AV} (hE : PureE Try.prog 115 rv E) (o0 : (decide ((i : Int) < (l.length : Int))) = true) (o2 : 0 ≤ (i : Int) ∧ (i : Int) < (l.length : Int)) (o3 : ((rowI l).drop (0 + (Int.toNat (i : Int)) * 1)).take 1 = [.int .i64 e]) (o4 : (v == e) = false) (o5 : InR .i64 ((i : Int) + 1))
    (hg : G Try.prog E (f115K0 Try.prog) ⟨[.rsl (rowI l) 0 l.length, .int .i64 v, .junk, .junk, .junk, .junk, .junk, .int .i64 (l.length : Int), .int .i64 ((i : Int) + 1), .junk, .junk, .junk, .junk, .junk, .junk, .junk, .junk, .junk, .junk], []⟩) : G Try.prog E (f115K0 Try.prog) (f115S0 l v i ) :=
  segC_step (n := 400) (ds := []) (cs := []) (live := [0, 1, 7, 8]) (m := 0) (evs := [.b true, .ld (.int .i64 e), .b false, .stop]) (obs := [(decide ((i : Int) < (l.length : Int))) = true, 0 ≤ (i : Int) ∧ (i : Int) < (l.length : Int), ((rowI l).drop (0 + (Int.toNat (i : Int)) * 1)).take 1 = [.int .i64 e], (v == e) = false, InR .i64 ((i : Int) + 1)]) hE.2.1 (hE.nogh _) mixed (by kernel_rfl) ⟨o0, o2, o3, o4, o5, trivial⟩ hg
theorem p115_0_2 (l : (List Int)) (v : Int) (i : Nat)   {E : Env} {res : AV} (hE : PureE Try.prog 115 res E) (o0 : (decide ((i : Int) < (l.length : Int))) = false)
    (hr : AvLe (.int .i64 (-1)) res) : G Try.prog E (f115K0 Try.prog) (f115S0 l v i ) :=
  end_stepL (n := 400) (evs := [.b false]) (obs := [(decide ((i : Int) < (l.length : Int))) = false]) hE Try.func115 mixed (by kernel_rfl) ⟨o0, trivial⟩ hr
theorem f115W0 (l : (List Int)) (v : Int) (i : Nat) {E : Env} {rv : Int} (hE : PureE Try.prog 115 (.int .i64 rv) E)
    (h : (((i : Int) < (l.length : Int) → (∃ e : Int, l[i]? = some e ∧ ((v = e → rv = (i : Int)) ∧ (¬ (v = e) → ((-9223372036854775808 ≤ (i : Int) + 1 ∧ (i : Int) + 1 ≤ 9223372036854775807) ∧ f115G0 E l v (i + 1)))))) ∧ (¬ ((i : Int) < (l.length : Int)) → rv = (-1)))) : f115G0 E l v i := by
  rcases Bool.eq_false_or_eq_true (decide ((i : Int) < (l.length : Int))) with hc0 | hc0
  · have h := h.1 (of_decide_eq_true hc0)
    obtain ⟨e, h1, h⟩ := h
    rcases Bool.eq_false_or_eq_true (v == e) with hc1 | hc1
    · have h := h.1 (eq_of_beq hc1)
      exact p115_0_0 l v i  e hE hc0 (idx_ok h1) (row_part cI (s := 1) (k := 0) (m := 1) (fun _ => rfl) (by decide) h1) hc1 (AvLe.of_eq (by rw [h]; try rfl))
    · have h := h.2 (ne_of_beq_false hc1)
      obtain ⟨q5_2, h⟩ := h
      exact p115_0_1 l v i  e hE hc0 (idx_ok h1) (row_part cI (s := 1) (k := 0) (m := 1) (fun _ => rfl) (by decide) h1) hc1 q5_2 h
  · have h := h.2 (of_decide_eq_false hc0)
    exact p115_0_2 l v i   hE hc0 (AvLe.of_eq (by rw [h]; try rfl))
theorem f90b : Try.f90.body = some (bodyAt Try.prog 90) := by kernel_rfl
def f90K0 (P : Program) : List Item := kAt 400 [.code (bodyAt P 90)] [.b false, .stop]
def f90S0 (l : (List Int)) (m : Int) (i : Nat)  : St := ⟨[.rsl (rowI l) 0 l.length, .junk, .junk, .int .i64 m, .int .i64 (i : Int), .junk, .junk, .junk, .junk, .junk, .junk, .junk, .junk, .junk, .junk, .junk, .junk, .junk, .junk, .junk, .junk, .junk, .junk, .junk, .junk], []⟩
def f90G0 (E : Env) (l : (List Int)) (m : Int) (i : Nat) : Prop := G Try.prog E (f90K0 Try.prog) (f90S0 l m i )
theorem p90_start_1 (l : (List Int))  (e : Int)  {E : Env} {rv : AV} (hE : PureE Try.prog 90 rv E) (o0 : (decide ((l.length : Int) < 1)) = false) (o2 : (0 : Int) ≤ 0 ∧ (0 : Int) < (l.length : Int)) (o3 : ((rowI l).drop (0 + 0 * 1)).take 1 = [.int .i64 e])
    (hg : G Try.prog E (f90K0 Try.prog) ⟨[.rsl (rowI l) 0 l.length, .junk, .junk, .int .i64 e, .int .i64 1, .junk, .junk, .junk, .junk, .junk, .junk, .junk, .junk, .junk, .junk, .junk, .junk, .junk, .junk, .junk, .junk, .junk, .junk, .junk, .junk], []⟩) : G Try.prog E [.code (bodyAt Try.prog 90)] ⟨[.rsl (rowI l) 0 l.length] ++ unds (Try.f90.ntmps - 1), []⟩ :=
  segC_step (n := 400) (ds := []) (cs := []) (live := [0, 3, 4]) (m := 0) (evs := [.b false, .ld (.int .i64 e), .stop]) (obs := [(decide ((l.length : Int) < 1)) = false, (0 : Int) ≤ 0 ∧ (0 : Int) < (l.length : Int), ((rowI l).drop (0 + 0 * 1)).take 1 = [.int .i64 e]]) hE.2.1 (hE.nogh _) mixed (by kernel_rfl) ⟨o0, o2, o3, trivial⟩ hg
theorem f90W (l : (List Int)) {E : Env} {rv : Int} (hE : PureE Try.prog 90 (.int .i64 rv) E)
    (h : (((l.length : Int) < 1 → False) ∧ (¬ ((l.length : Int) < 1) → (∃ e : Int, l[0]? = some e ∧ f90G0 E l e 1)))) : G Try.prog E [.code (bodyAt Try.prog 90)] ⟨[.rsl (rowI l) 0 l.length] ++ unds (Try.f90.ntmps - 1), []⟩ := by
  rcases Bool.eq_false_or_eq_true (decide ((l.length : Int) < 1)) with hc0 | hc0
  · have h := h.1 (of_decide_eq_true hc0)
    exact h.elim
  · have h := h.2 (of_decide_eq_false hc0)
    obtain ⟨e, h1, h⟩ := h
    exact p90_start_1 l   e hE hc0 (idx_ok h1) (row_part cI (s := 1) (k := 0) (m := 1) (fun _ => rfl) (by decide) h1) h
theorem p90_0_0 (l : (List Int)) (m : Int) (i : Nat)  (e : Int)  {E : Env} {rv : AV} (hE : PureE Try.prog 90 rv E) (o0 : (decide ((i : Int) < (l.length : Int))) = true) (o2 : 0 ≤ (i : Int) ∧ (i : Int) < (l.length : Int)) (o3 : ((rowI l).drop (0 + (Int.toNat (i : Int)) * 1)).take 1 = [.int .i64 e]) (o4 : InR .i64 ((i : Int) + 1))
    (hg : G Try.prog E (f90K0 Try.prog) ⟨[.rsl (rowI l) 0 l.length, .junk, .junk, .int .i64 (iMax m e), .int .i64 ((i : Int) + 1), .junk, .junk, .junk, .junk, .junk, .junk, .junk, .junk, .junk, .junk, .junk, .junk, .junk, .junk, .junk, .junk, .junk, .junk, .junk, .junk], []⟩) : G Try.prog E (f90K0 Try.prog) (f90S0 l m i ) :=
  segC_step (n := 400) (ds := []) (cs := []) (live := [0, 3, 4]) (m := 0) (evs := [.b true, .ld (.int .i64 e), .stop]) (obs := [(decide ((i : Int) < (l.length : Int))) = true, 0 ≤ (i : Int) ∧ (i : Int) < (l.length : Int), ((rowI l).drop (0 + (Int.toNat (i : Int)) * 1)).take 1 = [.int .i64 e], InR .i64 ((i : Int) + 1)]) hE.2.1 (hE.nogh _) mixed (by kernel_rfl) ⟨o0, o2, o3, o4, trivial⟩ hg
theorem p90_0_1 (l : (List Int)) (m : Int) (i : Nat)   {E : Env} {res : AV} (hE : PureE Try.prog 90 res E) (o0 : (decide ((i : Int) < (l.length : Int))) = false)
    (hr : AvLe (.int .i64 m) res) : G Try.prog E (f90K0 Try.prog) (f90S0 l m i ) :=
  end_stepL (n := 400) (evs := [.b false]) (obs := [(decide ((i : Int) < (l.length : Int))) = false]) hE Try.func90 mixed (by kernel_rfl) ⟨o0, trivial⟩ hr
theorem f90W0 (l : (List Int)) (m : Int) (i : Nat) {E : Env} {rv : Int} (hE : PureE Try.prog 90 (.int .i64 rv) E)
    (h : (((i : Int) < (l.length : Int) → (∃ e : Int, l[i]? = some e ∧ ((-9223372036854775808 ≤ (i : Int) + 1 ∧ (i : Int) + 1 ≤ 9223372036854775807) ∧ f90G0 E l (iMax m e) (i + 1)))) ∧ (¬ ((i : Int) < (l.length : Int)) → rv = m))) : f90G0 E l m i := by
  rcases Bool.eq_false_or_eq_true (decide ((i : Int) < (l.length : Int))) with hc0 | hc0
  · have h := h.1 (of_decide_eq_true hc0)
    obtain ⟨e, h1, h⟩ := h
    obtain ⟨q4_1, h⟩ := h
    exact p90_0_0 l m i  e hE hc0 (idx_ok h1) (row_part cI (s := 1) (k := 0) (m := 1) (fun _ => rfl) (by decide) h1) q4_1 h
  · have h := h.2 (of_decide_eq_false hc0)
    exact p90_0_1 l m i   hE hc0 (AvLe.of_eq (by rw [h]; try rfl))
theorem f116b : Try.f116.body = some (bodyAt Try.prog 116) := by kernel_rfl
def f116K0 (P : Program) : List Item := kAt 400 [.code (bodyAt P 116)] [.b false, .stop]
def f116S0 (l : (List Int)) (m : Int) (i : Nat)  : St := ⟨[.rsl (rowI l) 0 l.length, .junk, .junk, .int .i64 m, .int .i64 (i : Int), .junk, .junk, .junk, .junk, .junk, .junk, .junk, .junk, .junk, .junk, .junk, .junk, .junk, .junk, .junk, .junk, .junk, .junk, .junk, .junk], []⟩
def f116G0 (E : Env) (l : (List Int)) (m : Int) (i : Nat) : Prop := G Try.prog E (f116K0 Try.prog) (f116S0 l m i )
theorem p116_start_1 (l : (List Int))  (e : Int)  {E : Env} {rv : AV} (hE : PureE Try.prog 116 rv E) (o0 : (decide ((l.length : Int) < 1)) = false) (o2 : (0 : Int) ≤ 0 ∧ (0 : Int) < (l.length : Int)) (o3 : ((rowI l).drop (0 + 0 * 1)).take 1 = [.int .i64 e])
    (hg : G Try.prog E (f116K0 Try.prog) ⟨[.rsl (rowI l) 0 l.length, .junk, .junk, .int .i64 e, .int .i64 1, .junk, .junk, .junk, .junk, .junk, .junk, .junk, .junk, .junk, .junk, .junk, .junk, .junk, .junk, .junk, .junk, .junk, .junk, .junk, .junk], []⟩) : G Try.prog E [.code (bodyAt Try.prog 116)] ⟨[.rsl (rowI l) 0 l.length] ++ unds (Try.f116.ntmps - 1), []⟩ :=
  segC_step (n := 400) (ds := []) (cs := []) (live := [0, 3, 4]) (m := 0) (evs := [.b false, .ld (.int .i64 e), .stop]) (obs := [(decide ((l.length : Int) < 1)) = false, (0 : Int) ≤ 0 ∧ (0 : Int) < (l.length : Int), ((rowI l).drop (0 + 0 * 1)).take 1 = [.int .i64 e]]) hE.2.1 (hE.nogh _) mixed (by kernel_rfl) ⟨o0, o2, o3, trivial⟩ hg
theorem f116W (l : (List Int)) {E : Env} {rv : Int} (hE : PureE Try.prog 116 (.int .i64 rv) E)
    (h : (((l.length : Int) < 1 → False) ∧ (¬ ((l.length : Int) < 1) → (∃ e : Int, l[0]? = some e ∧ f116G0 E l e 1)))) : G Try.prog E [.code (bodyAt Try.prog 116)] ⟨[.rsl (rowI l) 0 l.length] ++ unds (Try.f116.ntmps - 1), []⟩ := by
  rcases Bool.eq_false_or_eq_true (decide ((l.length : Int) < 1)) with hc0 | hc0
  · have h := h.1 (of_decide_eq_true hc0)
    exact h.elim
  · have h := h.2 (of_decide_eq_false hc0)
    obtain ⟨e, h1, h⟩ := h
    exact p116_start_1 l   e hE hc0 (idx_ok h1) (row_part cI (s := 1) (k := 0) (m := 1) (fun _ => rfl) (by decide) h1) h
theorem p116_0_0 (l : (List Int)) (m : Int) (i : Nat)  (e : Int)  {E : Env} {rv : AV} (hE : PureE Try.prog 116 rv E) (o0 : (decide ((i : Int) < (l.length : Int))) = true) (o2 : 0 ≤ (i : Int) ∧ (i : Int) < (l.length : Int)) (o3 : ((rowI l).drop (0 + (Int.toNat (i : Int)) * 1)).take 1 = [.int .i64 e]) (o4 : InR .i64 ((i : Int) + 1))
    (hg : G Try.prog E (f116K0 Try.prog) ⟨[.rsl (rowI l) 0 l.length, .junk, .junk, .int .i64 (iMin m e), .int .i64 ((i : Int) + 1), .junk, .junk, .junk, .junk, .junk, .junk, .junk, .junk, .junk, .junk, .junk, .junk, .junk, .junk, .junk, .junk, .junk, .junk, .junk, .junk], []⟩) : G Try.prog E (f116K0 Try.prog) (f116S0 l m i ) :=
  segC_step (n := 400) (ds := []) (cs := []) (live := [0, 3, 4]) (m := 0) (evs := [.b true, .ld (.int .i64 e), .stop]) (obs := [(decide ((i : Int) < (l.length : Int))) = true, 0 ≤ (i : Int) ∧ (i : Int) < (l.length : Int), ((rowI l).drop (0 + (Int.toNat (i : Int)) * 1)).take 1 = [.int .i64 e], InR .i64 ((i : Int) + 1)]) hE.2.1 (hE.nogh _) mixed (by kernel_rfl) ⟨o0, o2, o3, o4, trivial⟩ hg
theorem p116_0_1 (l : (List Int)) (m : Int) (i : Nat)   {E : Env} {res : AV} (hE : PureE Try.prog 116 res E) (o0 : (decide ((i : Int) < (l.length : Int))) = false)
    (hr : AvLe (.int .i64 m) res) : G Try.prog E (f116K0 Try.prog) (f116S0 l m i ) :=
  end_stepL (n := 400) (evs := [.b false]) (obs := [(decide ((i : Int) < (l.length : Int))) = false]) hE Try.func116 mixed (by kernel_rfl) ⟨o0, trivial⟩ hr
theorem f116W0 (l : (List Int)) (m : Int) (i : Nat) {E : Env} {rv : Int} (hE : PureE Try.prog 116 (.int .i64 rv) E)
    (h : (((i : Int) < (l.length : Int) → (∃ e : Int, l[i]? = some e ∧ ((-9223372036854775808 ≤ (i : Int) + 1 ∧ (i : Int) + 1 ≤ 9223372036854775807) ∧ f116G0 E l (iMin m e) (i + 1)))) ∧ (¬ ((i : Int) < (l.length : Int)) → rv = m))) : f116G0 E l m i := by
  rcases Bool.eq_false_or_eq_true (decide ((i : Int) < (l.length : Int))) with hc0 | hc0
  · have h := h.1 (of_decide_eq_true hc0)
    obtain ⟨e, h1, h⟩ := h
    obtain ⟨q4_1, h⟩ := h
    exact p116_0_0 l m i  e hE hc0 (idx_ok h1) (row_part cI (s := 1) (k := 0) (m := 1) (fun _ => rfl) (by decide) h1) q4_1 h
  · have h := h.2 (of_decide_eq_false hc0)
    exact p116_0_1 l m i   hE hc0 (AvLe.of_eq (by rw [h]; try rfl))

def onlyI (k n : Int) : Int := if n = k then 1 else 0
theorem only_ok (n k : Int) : Pure Try.prog 113 [.int .i64 n, .rptr [.int .i64 k] 0] (.int .i64 (onlyI k n)) := pure_of Try.func113 f113b fun E hE => f113W n k (rv := onlyI k n) hE ⟨fun h => by rw [onlyI, if_pos h], fun h => by rw [onlyI, if_neg h]⟩
def planI (l : List Int) (i : Int) : Int := l.getD (Int.toNat i) 0
def idxV (l : List Int) (v : Int) : Int := idxG (fun e => decide (v = e)) l
theorem index_ok (l : List Int) (v : Int) (h : l.length ≤ 1000000) : Pure Try.prog 115 [.rsl (rowI l) 0 l.length, .int .i64 v] (.int .i64 (idxV l v)) := pure_of Try.func115 f115b fun E hE => by
  refine f115W l v (rv := idxV l v) hE (idxG_from (fun e => decide (v = e)) l l.length 0 (by omega) (fun j x hj => by omega) (fun i => f115G0 E l v i) (fun i hi' h1 h2 => ?_) (fun _ h2 => ?_))
  · have hx : l[i]? = some l[i] := List.getElem?_eq_getElem hi'
    exact f115W0 l v i (rv := idxV l v) hE ⟨fun _ => ⟨_, hx, fun hp => h1 _ hx (decide_eq_true hp), fun hp => ⟨by omega, h2 _ hx (decide_eq_false hp)⟩⟩, fun h => by omega⟩
  · exact f115W0 l v _ (rv := idxV l v) hE ⟨fun h => by omega, fun _ => h2⟩
def maxF : Int → List Int → Int
  | m, [] => m
  | m, x :: l => maxF (iMax m x) l
def maxI (l : List Int) : Int := maxF (l.getD 0 0) (l.drop 1)
def minF : Int → List Int → Int
  | m, [] => m
  | m, x :: l => minF (iMin m x) l
def minI (l : List Int) : Int := minF (l.getD 0 0) (l.drop 1)


theorem max_ok (l : List Int) (h : 0 < l.length ∧ l.length ≤ 1000000) : Pure Try.prog 90 [.rsl (rowI l) 0 l.length] (.int .i64 (maxI l)) := pure_of Try.func90 f90b fun E hE => by
  have key : ∀ (d i : Nat) (m : Int), i + d = l.length → maxI l = maxF m (l.drop i) → f90G0 E l m i := by
    intro d
    induction d with
    | zero =>
      intro i m hd hm
      rw [List.drop_eq_nil_of_le (by omega), maxF] at hm
      exact f90W0 l m i (rv := maxI l) hE ⟨fun h => by omega, fun _ => hm⟩
    | succ d ih =>
      intro i m hd hm
      have hi : l[i]? = some l[i] := List.getElem?_eq_getElem (by omega)
      rw [List.drop_eq_getElem_cons (by omega), maxF] at hm
      exact f90W0 l m i (rv := maxI l) hE ⟨fun _ => ⟨_, hi, by omega, ih (i + 1) _ (by omega) hm⟩, fun h => by omega⟩
  have h0 : l[0]? = some l[0] := List.getElem?_eq_getElem h.1
  exact f90W l (rv := maxI l) hE ⟨fun h' => by omega, fun _ => ⟨_, h0, key (l.length - 1) 1 _ (by omega) (by simp [maxI, List.getD, h0])⟩⟩


theorem min_ok (l : List Int) (h : 0 < l.length ∧ l.length ≤ 1000000) : Pure Try.prog 116 [.rsl (rowI l) 0 l.length] (.int .i64 (minI l)) := pure_of Try.func116 f116b fun E hE => by
  have key : ∀ (d i : Nat) (m : Int), i + d = l.length → minI l = minF m (l.drop i) → f116G0 E l m i := by
    intro d
    induction d with
    | zero =>
      intro i m hd hm
      rw [List.drop_eq_nil_of_le (by omega), minF] at hm
      exact f116W0 l m i (rv := minI l) hE ⟨fun h => by omega, fun _ => hm⟩
    | succ d ih =>
      intro i m hd hm
      have hi : l[i]? = some l[i] := List.getElem?_eq_getElem (by omega)
      rw [List.drop_eq_getElem_cons (by omega), minF] at hm
      exact f116W0 l m i (rv := minI l) hE ⟨fun _ => ⟨_, hi, by omega, ih (i + 1) _ (by omega) hm⟩, fun h => by omega⟩
  have h0 : l[0]? = some l[0] := List.getElem?_eq_getElem h.1
  exact f116W l (rv := minI l) hE ⟨fun h' => by omega, fun _ => ⟨_, h0, key (l.length - 1) 1 _ (by omega) (by simp [minI, List.getD, h0])⟩⟩

theorem f114b : Try.f114.body = some (bodyAt Try.prog 114) := by kernel_rfl
theorem p114_start_0 (i : Int) (l : (List Int)) (m : Mch) (pa oa : Int)  (se : Stg)  {E : Env} {res : AV} (hE : PureE Try.prog 114 res E) (o1 : 0 ≤ i ∧ i < (m.s.stages.length : Int)) (o2 : ((rowStg m.s.stages).drop ((0 + (Int.toNat i) * 3) + 0)).take 1 = [.int .i64 se.kind]) (o3 : (se.kind == 3) = true) (o4 : (oa == 2) = true) (o5 : PureF Try.prog (.clos 90 [] []) [.rsl (rowI l) 0 l.length] (.int .i64 (maxI l))) (o6 : PureF Try.prog (.clos 115 [] []) [.rsl (rowI l) 0 l.length, .int .i64 (maxI l)] (.int .i64 (idxV l (maxI l))))
    (hr : AvLe (.int .i64 (idxV l (maxI l))) res) : G Try.prog E [.code (bodyAt Try.prog 114)] ⟨[.int .i64 i, .rsl (rowI l) 0 l.length, .rptr [.int .i64 pa] 0, .rptr [.rptr [.rsl (rowStg m.s.stages) 0 m.s.stages.length, .rsl (rowI m.s.worth) 0 m.s.worth.length, .int .i64 m.s.price, .rsl (rowI m.meas) 0 m.meas.length, .rsl (rowI m.mult) 0 m.mult.length] 0] 0, .rptr [.int .i64 oa] 0] ++ unds (Try.f114.ntmps - 5), []⟩ :=
  end_stepL (n := 400) (evs := [.auto, .auto, .auto, .ld (.int .i64 se.kind), .b true, .b true, .v (.int .i64 (maxI l)), .v (.int .i64 (idxV l (maxI l)))]) (obs := [0 ≤ i ∧ i < (m.s.stages.length : Int), ((rowStg m.s.stages).drop ((0 + (Int.toNat i) * 3) + 0)).take 1 = [.int .i64 se.kind], (se.kind == 3) = true, (oa == 2) = true, PureF Try.prog (.clos 90 [] []) [.rsl (rowI l) 0 l.length] (.int .i64 (maxI l)), PureF Try.prog (.clos 115 [] []) [.rsl (rowI l) 0 l.length, .int .i64 (maxI l)] (.int .i64 (idxV l (maxI l)))]) hE Try.func114 mixed (by kernel_rfl) ⟨o1, o2, o3, o4, o5, o6, trivial⟩ hr
theorem p114_start_1 (i : Int) (l : (List Int)) (m : Mch) (pa oa : Int)  (se : Stg)  {E : Env} {res : AV} (hE : PureE Try.prog 114 res E) (o1 : 0 ≤ i ∧ i < (m.s.stages.length : Int)) (o2 : ((rowStg m.s.stages).drop ((0 + (Int.toNat i) * 3) + 0)).take 1 = [.int .i64 se.kind]) (o3 : (se.kind == 3) = true) (o4 : (oa == 2) = false) (o5 : PureF Try.prog (.clos 116 [] []) [.rsl (rowI l) 0 l.length] (.int .i64 (minI l))) (o6 : PureF Try.prog (.clos 115 [] []) [.rsl (rowI l) 0 l.length, .int .i64 (minI l)] (.int .i64 (idxV l (minI l))))
    (hr : AvLe (.int .i64 (idxV l (minI l))) res) : G Try.prog E [.code (bodyAt Try.prog 114)] ⟨[.int .i64 i, .rsl (rowI l) 0 l.length, .rptr [.int .i64 pa] 0, .rptr [.rptr [.rsl (rowStg m.s.stages) 0 m.s.stages.length, .rsl (rowI m.s.worth) 0 m.s.worth.length, .int .i64 m.s.price, .rsl (rowI m.meas) 0 m.meas.length, .rsl (rowI m.mult) 0 m.mult.length] 0] 0, .rptr [.int .i64 oa] 0] ++ unds (Try.f114.ntmps - 5), []⟩ :=
  end_stepL (n := 400) (evs := [.auto, .auto, .auto, .ld (.int .i64 se.kind), .b true, .b false, .v (.int .i64 (minI l)), .v (.int .i64 (idxV l (minI l)))]) (obs := [0 ≤ i ∧ i < (m.s.stages.length : Int), ((rowStg m.s.stages).drop ((0 + (Int.toNat i) * 3) + 0)).take 1 = [.int .i64 se.kind], (se.kind == 3) = true, (oa == 2) = false, PureF Try.prog (.clos 116 [] []) [.rsl (rowI l) 0 l.length] (.int .i64 (minI l)), PureF Try.prog (.clos 115 [] []) [.rsl (rowI l) 0 l.length, .int .i64 (minI l)] (.int .i64 (idxV l (minI l)))]) hE Try.func114 mixed (by kernel_rfl) ⟨o1, o2, o3, o4, o5, o6, trivial⟩ hr
theorem p114_start_2 (i : Int) (l : (List Int)) (m : Mch) (pa oa : Int)  (se : Stg)  {E : Env} {res : AV} (hE : PureE Try.prog 114 res E) (o1 : 0 ≤ i ∧ i < (m.s.stages.length : Int)) (o2 : ((rowStg m.s.stages).drop ((0 + (Int.toNat i) * 3) + 0)).take 1 = [.int .i64 se.kind]) (o3 : (se.kind == 3) = false) (o4 : (pa == 2) = true) (o5 : PureF Try.prog (.clos 90 [] []) [.rsl (rowI l) 0 l.length] (.int .i64 (maxI l))) (o6 : PureF Try.prog (.clos 115 [] []) [.rsl (rowI l) 0 l.length, .int .i64 (maxI l)] (.int .i64 (idxV l (maxI l))))
    (hr : AvLe (.int .i64 (idxV l (maxI l))) res) : G Try.prog E [.code (bodyAt Try.prog 114)] ⟨[.int .i64 i, .rsl (rowI l) 0 l.length, .rptr [.int .i64 pa] 0, .rptr [.rptr [.rsl (rowStg m.s.stages) 0 m.s.stages.length, .rsl (rowI m.s.worth) 0 m.s.worth.length, .int .i64 m.s.price, .rsl (rowI m.meas) 0 m.meas.length, .rsl (rowI m.mult) 0 m.mult.length] 0] 0, .rptr [.int .i64 oa] 0] ++ unds (Try.f114.ntmps - 5), []⟩ :=
  end_stepL (n := 400) (evs := [.auto, .auto, .auto, .ld (.int .i64 se.kind), .b false, .b true, .v (.int .i64 (maxI l)), .v (.int .i64 (idxV l (maxI l)))]) (obs := [0 ≤ i ∧ i < (m.s.stages.length : Int), ((rowStg m.s.stages).drop ((0 + (Int.toNat i) * 3) + 0)).take 1 = [.int .i64 se.kind], (se.kind == 3) = false, (pa == 2) = true, PureF Try.prog (.clos 90 [] []) [.rsl (rowI l) 0 l.length] (.int .i64 (maxI l)), PureF Try.prog (.clos 115 [] []) [.rsl (rowI l) 0 l.length, .int .i64 (maxI l)] (.int .i64 (idxV l (maxI l)))]) hE Try.func114 mixed (by kernel_rfl) ⟨o1, o2, o3, o4, o5, o6, trivial⟩ hr
theorem p114_start_3 (i : Int) (l : (List Int)) (m : Mch) (pa oa : Int)  (se : Stg)  {E : Env} {res : AV} (hE : PureE Try.prog 114 res E) (o1 : 0 ≤ i ∧ i < (m.s.stages.length : Int)) (o2 : ((rowStg m.s.stages).drop ((0 + (Int.toNat i) * 3) + 0)).take 1 = [.int .i64 se.kind]) (o3 : (se.kind == 3) = false) (o4 : (pa == 2) = false) (o5 : PureF Try.prog (.clos 116 [] []) [.rsl (rowI l) 0 l.length] (.int .i64 (minI l))) (o6 : PureF Try.prog (.clos 115 [] []) [.rsl (rowI l) 0 l.length, .int .i64 (minI l)] (.int .i64 (idxV l (minI l))))
    (hr : AvLe (.int .i64 (idxV l (minI l))) res) : G Try.prog E [.code (bodyAt Try.prog 114)] ⟨[.int .i64 i, .rsl (rowI l) 0 l.length, .rptr [.int .i64 pa] 0, .rptr [.rptr [.rsl (rowStg m.s.stages) 0 m.s.stages.length, .rsl (rowI m.s.worth) 0 m.s.worth.length, .int .i64 m.s.price, .rsl (rowI m.meas) 0 m.meas.length, .rsl (rowI m.mult) 0 m.mult.length] 0] 0, .rptr [.int .i64 oa] 0] ++ unds (Try.f114.ntmps - 5), []⟩ :=
  end_stepL (n := 400) (evs := [.auto, .auto, .auto, .ld (.int .i64 se.kind), .b false, .b false, .v (.int .i64 (minI l)), .v (.int .i64 (idxV l (minI l)))]) (obs := [0 ≤ i ∧ i < (m.s.stages.length : Int), ((rowStg m.s.stages).drop ((0 + (Int.toNat i) * 3) + 0)).take 1 = [.int .i64 se.kind], (se.kind == 3) = false, (pa == 2) = false, PureF Try.prog (.clos 116 [] []) [.rsl (rowI l) 0 l.length] (.int .i64 (minI l)), PureF Try.prog (.clos 115 [] []) [.rsl (rowI l) 0 l.length, .int .i64 (minI l)] (.int .i64 (idxV l (minI l)))]) hE Try.func114 mixed (by kernel_rfl) ⟨o1, o2, o3, o4, o5, o6, trivial⟩ hr
theorem f114W (i : Int) (l : (List Int)) (m : Mch) (pa oa : Int) {E : Env} {rv : Int} (hE : PureE Try.prog 114 (.int .i64 rv) E)
    (h : (0 ≤ i ∧ (∃ se : Stg, m.s.stages[Int.toNat i]? = some se ∧ ((se.kind = 3 → ((oa = 2 → ((0 < l.length ∧ l.length ≤ 1000000) ∧ ((l.length ≤ 1000000) ∧ rv = (idxV l (maxI l))))) ∧ (¬ (oa = 2) → ((0 < l.length ∧ l.length ≤ 1000000) ∧ ((l.length ≤ 1000000) ∧ rv = (idxV l (minI l))))))) ∧ (¬ (se.kind = 3) → ((pa = 2 → ((0 < l.length ∧ l.length ≤ 1000000) ∧ ((l.length ≤ 1000000) ∧ rv = (idxV l (maxI l))))) ∧ (¬ (pa = 2) → ((0 < l.length ∧ l.length ≤ 1000000) ∧ ((l.length ≤ 1000000) ∧ rv = (idxV l (minI l))))))))))) : G Try.prog E [.code (bodyAt Try.prog 114)] ⟨[.int .i64 i, .rsl (rowI l) 0 l.length, .rptr [.int .i64 pa] 0, .rptr [.rptr [.rsl (rowStg m.s.stages) 0 m.s.stages.length, .rsl (rowI m.s.worth) 0 m.s.worth.length, .int .i64 m.s.price, .rsl (rowI m.meas) 0 m.meas.length, .rsl (rowI m.mult) 0 m.mult.length] 0] 0, .rptr [.int .i64 oa] 0] ++ unds (Try.f114.ntmps - 5), []⟩ := by
  obtain ⟨h2, h⟩ := h
  obtain ⟨se, h1, h⟩ := h
  rcases Bool.eq_false_or_eq_true (se.kind == 3) with hc0 | hc0
  · have h := h.1 (eq_of_beq hc0)
    rcases Bool.eq_false_or_eq_true (oa == 2) with hc1 | hc1
    · have h := h.1 (eq_of_beq hc1)
      obtain ⟨h3, h⟩ := h
      obtain ⟨h4, h⟩ := h
      exact p114_start_0 i l m pa oa   se hE (idx_ok' h2 h1) (row_part cStg (s := 3) (k := 0) (m := 1) (fun _ => rfl) (by decide) h1) hc0 hc1 (pureF_of Try.func90 (by kernel_rfl) f90b (max_ok l h3)) (pureF_of Try.func115 (by kernel_rfl) f115b (index_ok l (maxI l) h4)) (AvLe.of_eq (by rw [h]; try rfl))
    · have h := h.2 (ne_of_beq_false hc1)
      obtain ⟨h3, h⟩ := h
      obtain ⟨h4, h⟩ := h
      exact p114_start_1 i l m pa oa   se hE (idx_ok' h2 h1) (row_part cStg (s := 3) (k := 0) (m := 1) (fun _ => rfl) (by decide) h1) hc0 hc1 (pureF_of Try.func116 (by kernel_rfl) f116b (min_ok l h3)) (pureF_of Try.func115 (by kernel_rfl) f115b (index_ok l (minI l) h4)) (AvLe.of_eq (by rw [h]; try rfl))
  · have h := h.2 (ne_of_beq_false hc0)
    rcases Bool.eq_false_or_eq_true (pa == 2) with hc1 | hc1
    · have h := h.1 (eq_of_beq hc1)
      obtain ⟨h3, h⟩ := h
      obtain ⟨h4, h⟩ := h
      exact p114_start_2 i l m pa oa   se hE (idx_ok' h2 h1) (row_part cStg (s := 3) (k := 0) (m := 1) (fun _ => rfl) (by decide) h1) hc0 hc1 (pureF_of Try.func90 (by kernel_rfl) f90b (max_ok l h3)) (pureF_of Try.func115 (by kernel_rfl) f115b (index_ok l (maxI l) h4)) (AvLe.of_eq (by rw [h]; try rfl))
    · have h := h.2 (ne_of_beq_false hc1)
      obtain ⟨h3, h⟩ := h
      obtain ⟨h4, h⟩ := h
      exact p114_start_3 i l m pa oa   se hE (idx_ok' h2 h1) (row_part cStg (s := 3) (k := 0) (m := 1) (fun _ => rfl) (by decide) h1) hc0 hc1 (pureF_of Try.func116 (by kernel_rfl) f116b (min_ok l h3)) (pureF_of Try.func115 (by kernel_rfl) f115b (index_ok l (minI l) h4)) (AvLe.of_eq (by rw [h]; try rfl))

def chooseI (m : Mch) (pa oa i : Int) (l : List Int) : Int := if (if (m.s.stages.getD (Int.toNat i) ⟨0, 0, []⟩).kind = 3 then oa else pa) = 2 then idxV l (maxI l) else idxV l (minI l)
theorem choose_ok (i : Int) (l : List Int) (m : Mch) (pa oa : Int) (h : (0 ≤ i ∧ Int.toNat i < m.s.stages.length) ∧ 0 < l.length ∧ l.length ≤ 1000000) : Pure Try.prog 114 [.int .i64 i, .rsl (rowI l) 0 l.length, .rptr [.int .i64 pa] 0, .rptr [.rptr (cMch m) 0] 0, .rptr [.int .i64 oa] 0] (.int .i64 (chooseI m pa oa i l)) := pure_of Try.func114 f114b fun E hE => by
  have hg : m.s.stages[Int.toNat i]? = some m.s.stages[Int.toNat i] := List.getElem?_eq_getElem h.1.2
  have hx : m.s.stages.getD (Int.toNat i) ⟨0, 0, []⟩ = m.s.stages[Int.toNat i] := by simp [List.getD, hg]
  refine f114W i l m pa oa (rv := chooseI m pa oa i l) hE ⟨h.1.1, _, hg, fun h1 => ⟨fun h2 => ⟨h.2, h.2.2, ?_⟩, fun h2 => ⟨h.2, h.2.2, ?_⟩⟩, fun h1 => ⟨fun h2 => ⟨h.2, h.2.2, ?_⟩, fun h2 => ⟨h.2, h.2.2, ?_⟩⟩⟩
  · rw [chooseI, hx, if_pos h1, if_pos h2]
  · rw [chooseI, hx, if_pos h1, if_neg h2]
  · rw [chooseI, hx, if_neg h1, if_pos h2]
  · rw [chooseI, hx, if_neg h1, if_neg h2]

theorem f76b : Try.f76.body = some (bodyAt Try.prog 76) := by kernel_rfl
theorem p76_start_0 (k : Int)   {E : Env} {res : AV} (hE : PureE Try.prog 76 res E) 
    (hr : AvLe (.clos 113 [] [.rptr [.int .i64 k] 0]) res) : G Try.prog E [.code (bodyAt Try.prog 76)] ⟨[.int .i64 k] ++ unds (Try.f76.ntmps - 1), []⟩ :=
  end_stepL (n := 400) (evs := []) (obs := []) hE Try.func76 mixed (by kernel_rfl) trivial hr
theorem f76W (k : Int) {E : Env} {rv : AV} (hE : PureE Try.prog 76 rv E)
    (h : rv = (.clos 113 [] [.rptr [.int .i64 k] 0])) : G Try.prog E [.code (bodyAt Try.prog 76)] ⟨[.int .i64 k] ++ unds (Try.f76.ntmps - 1), []⟩ := by
  exact p76_start_0 k    hE  (AvLe.of_eq (by rw [h]; try rfl))
theorem f77b : Try.f77.body = some (bodyAt Try.prog 77) := by kernel_rfl
theorem p77_start_0 (pa : Int) (oa : Int) (m : Mch)   {E : Env} {res : AV} (hE : PureE Try.prog 77 res E) 
    (hr : AvLe (.clos 114 [] [.rptr [.int .i64 pa] 0, .rptr [.rptr [.rsl (rowStg m.s.stages) 0 m.s.stages.length, .rsl (rowI m.s.worth) 0 m.s.worth.length, .int .i64 m.s.price, .rsl (rowI m.meas) 0 m.meas.length, .rsl (rowI m.mult) 0 m.mult.length] 0] 0, .rptr [.int .i64 oa] 0]) res) : G Try.prog E [.code (bodyAt Try.prog 77)] ⟨[.rptr [.rsl (rowStg m.s.stages) 0 m.s.stages.length, .rsl (rowI m.s.worth) 0 m.s.worth.length, .int .i64 m.s.price, .rsl (rowI m.meas) 0 m.meas.length, .rsl (rowI m.mult) 0 m.mult.length] 0, .int .i64 pa, .int .i64 oa] ++ unds (Try.f77.ntmps - 3), []⟩ :=
  end_stepL (n := 400) (evs := []) (obs := []) hE Try.func77 mixed (by kernel_rfl) trivial hr
theorem f77W (pa : Int) (oa : Int) (m : Mch) {E : Env} {rv : AV} (hE : PureE Try.prog 77 rv E)
    (h : rv = (.clos 114 [] [.rptr [.int .i64 pa] 0, .rptr [.rptr [.rsl (rowStg m.s.stages) 0 m.s.stages.length, .rsl (rowI m.s.worth) 0 m.s.worth.length, .int .i64 m.s.price, .rsl (rowI m.meas) 0 m.meas.length, .rsl (rowI m.mult) 0 m.mult.length] 0] 0, .rptr [.int .i64 oa] 0])) : G Try.prog E [.code (bodyAt Try.prog 77)] ⟨[.rptr [.rsl (rowStg m.s.stages) 0 m.s.stages.length, .rsl (rowI m.s.worth) 0 m.s.worth.length, .int .i64 m.s.price, .rsl (rowI m.meas) 0 m.meas.length, .rsl (rowI m.mult) 0 m.mult.length] 0, .int .i64 pa, .int .i64 oa] ++ unds (Try.f77.ntmps - 3), []⟩ := by
  exact p77_start_0 pa oa m    hE  (AvLe.of_eq (by rw [h]; try rfl))
theorem mkonly_ok (k : Int) : Pure Try.prog 76 [.int .i64 k] (.clos 113 [] [.rptr [.int .i64 k] 0]) := pure_of Try.func76 f76b fun E hE => f76W k hE rfl
theorem mkaims_ok (m : Mch) (pa oa : Int) : Pure Try.prog 77 [.rptr (cMch m) 0, .int .i64 pa, .int .i64 oa] (.clos 114 [] [.rptr [.int .i64 pa] 0, .rptr [.rptr (cMch m) 0] 0, .rptr [.int .i64 oa] 0]) := pure_of Try.func77 f77b fun E hE => f77W pa oa m hE rfl
end Go.Proofs.Ytfgmlaeikcfpbaa

namespace Go.Proofs.Ytfgmlaeikcfpbaa
open Go Ax
open Go.Proofs

/-! ### What is so of a machine -/
structure MInv (s : Stl) (i : Nat) (me mu : List Int) : Prop where
  l1 : me.length = s.stages.length
  l2 : mu.length = s.stages.length
  pos : ∀ (j : Nat) (v : Int), i ≤ j → me[j]? = some v → 0 < v ∧ v ≤ 1000000000000
  rel : ∀ (j : Nat) (x : Stg), i ≤ j → s.stages[j]? = some x → ∃ q, mu[j]? = some q ∧ me[j]? = some (if x.kind = 1 then q * totI x else q) ∧ (0 < q ∧ q ≤ 1000000000000) ∧ ∀ t ∈ x.turns, me.getD (Int.toNat t.to) 0 ∣ q

theorem getD_set_ne {l : List Int} {i k : Nat} {v : Int} (h : i ≠ k) : (l.set i v).getD k 0 = l.getD k 0 := by
  simp [List.getD, List.getElem?_set_ne h]

theorem multI_dvd {me : List Int} : ∀ {l : List Trn} {m q : Int}, (∀ t ∈ l, 0 < me.getD (Int.toNat t.to) 0) → (0 < m ∧ m ≤ 1000000000000) → multI me m l = some q → (0 < q ∧ q ≤ 1000000000000) ∧ m ∣ q ∧ ∀ t ∈ l, me.getD (Int.toNat t.to) 0 ∣ q
  | [], m, q, _, hm, h => by
    simp only [multI, Option.some.injEq] at h; subst h
    exact ⟨hm, Int.dvd_refl _, by simp⟩
  | t :: l, m, q, hp, hm, h => by
    simp only [multI] at h
    split at h
    · cases h
    · rename_i h1
      have hv := hp t (by simp)
      have lp := lcm_pos hm.1 hv
      obtain ⟨a, b, c⟩ := multI_dvd (fun t ht => hp t (by simp [ht])) ⟨lp, by omega⟩ h
      have e1 : m ∣ lcmI m (me.getD (Int.toNat t.to) 0) := ⟨_, rfl⟩
      have e2 : me.getD (Int.toNat t.to) 0 ∣ lcmI m (me.getD (Int.toNat t.to) 0) := ⟨Int.tdiv m (gcdI m (me.getD (Int.toNat t.to) 0)), by rw [lcmI, ← (lcm_eq hm.1 hv).1, Int.mul_comm]⟩
      refine ⟨a, Int.dvd_trans e1 b, fun t' ht' => ?_⟩
      rcases List.mem_cons.1 ht' with rfl | ht'
      · exact Int.dvd_trans e2 b
      · exact c t' ht'

theorem turns_to {s : Stl} {i : Nat} {x : Stg} (hi : s.stages[i]? = some x) (hf : formI s i = true) : ∀ t ∈ x.turns, i < Int.toNat t.to ∧ Int.toNat t.to < s.stages.length ∧ 0 ≤ t.to := fun t htm => by
  rcases form_of hi hf with ⟨-, h2, -⟩ | ⟨-, -, -, h4, -, -⟩
  · rw [h2] at htm; simp at htm
  · have := h4 t htm; omega

theorem minv_step {s : Stl} {i : Nat} {x : Stg} {me mu : List Int} (hform : ∀ j, j < s.stages.length → formI s j = true) (hi : s.stages[i]? = some x) (h : MInv s (i + 1) me mu) (hk : (measK x i me mu).1 = true) :
    MInv s i (measK x i me mu).2.1 (measK x i me mu).2.2 := by
  have hlt := (List.getElem?_eq_some_iff.1 hi).1
  have hf := hform i hlt
  obtain ⟨a, b, c⟩ := meas_next (mu := mu) hi hf ⟨h.l1, fun j v hj => h.pos j v hj⟩ hk
  have hto := turns_to hi hf
  have hpos : ∀ t ∈ x.turns, 0 < me.getD (Int.toNat t.to) 0 := fun t ht => by
    have h1 := hto t ht
    have hg : me[Int.toNat t.to]? = some (me[Int.toNat t.to]'(by rw [h.l1]; exact h1.2.1)) := List.getElem?_eq_getElem _
    have := (h.pos _ _ (by omega) hg).1
    simpa [List.getD, hg] using this
  refine ⟨a, by rw [b, h.l2], fun j v hj => c j v hj, ?_⟩
  cases hm : multI me 1 x.turns with
  | none => simp [measK, hm] at hk
  | some m =>
    obtain ⟨m1, -, m3⟩ := multI_dvd hpos (by omega) hm
    have hto2 := tot_of hi hf
    have fin : ∀ w : Int, w = (if x.kind = 1 then m * totI x else m) → ∀ (j : Nat) (y : Stg), i ≤ j → s.stages[j]? = some y → ∃ q, (mu.set i m)[j]? = some q ∧ (me.set i w)[j]? = some (if y.kind = 1 then q * totI y else q) ∧ (0 < q ∧ q ≤ 1000000000000) ∧ ∀ t ∈ y.turns, (me.set i w).getD (Int.toNat t.to) 0 ∣ q := fun w hw j y hj hy => by
      by_cases e : i = j
      · subst e
        rw [hi] at hy; cases hy
        refine ⟨m, by rw [List.getElem?_set_self (by rw [h.l2]; exact hlt)], by rw [List.getElem?_set_self (by rw [h.l1]; exact hlt), hw], m1, fun t ht => ?_⟩
        rw [getD_set_ne (by have := hto t ht; omega)]
        exact m3 t ht
      · obtain ⟨q, q1, q2, q3, q4⟩ := h.rel j y (by omega) hy
        refine ⟨q, by rw [List.getElem?_set_ne e]; exact q1, by rw [List.getElem?_set_ne e]; exact q2, q3, fun t ht => ?_⟩
        have := turns_to hy (hform j (List.getElem?_eq_some_iff.1 hy).1) t ht
        rw [getD_set_ne (by omega)]
        exact q4 t ht
    simp only [measK, hm] at hk ⊢
    by_cases hk1 : x.kind = 1
    · simp only [if_pos hk1] at hk ⊢
      refine fin _ ?_
      rcases prod_of (a := m) (b := totI x) (by omega) (hto2.2 hk1).1 with ⟨h1, -⟩ | ⟨h1, -⟩
      · rw [h1] at hk; cases hk
      · rw [h1, if_pos hk1]
    · simp only [if_neg hk1] at hk ⊢
      exact fin _ (by rw [if_neg hk1])

theorem minv_all {s : Stl} (hform : ∀ j, j < s.stages.length → formI s j = true) : ∀ {n : Nat} {me mu : List Int} {r : List Int × List Int}, n ≤ s.stages.length → MInv s n me mu → measN s n me mu = some r → MInv s 0 r.1 r.2
  | 0, me, mu, r, _, h, hr => by simp only [measN, Option.some.injEq] at hr; subst hr; exact h
  | i + 1, me, mu, r, hn, h, hr => by
    have hi : s.stages[i]? = some s.stages[i] := List.getElem?_eq_getElem (by omega)
    have hx : s.stages.getD i ⟨0, 0, []⟩ = s.stages[i] := by simp [List.getD, hi]
    simp only [measN, hx] at hr
    split at hr
    · rename_i hk
      exact minv_all hform (by omega) (minv_step hform hi h hk) hr
    · cases hr

structure MOk (m : Mch) : Prop where
  st : stPre m.s = true
  inv : MInv m.s 0 m.meas m.mult

theorem mok_of {s : Stl} {m : Mch} (h : machI s = some m) : MOk m ∧ m.s = s := by
  unfold machI at h
  split at h
  · rename_i hp
    obtain ⟨r, hr, e⟩ := Option.map_eq_some_iff.1 h
    subst e
    refine ⟨⟨hp, ?_⟩, rfl⟩
    refine minv_all (stPre_of hp).2.2.2.2 (Nat.le_refl _) ⟨by simp [zeros], by simp [zeros], fun j v hj hv => ?_, fun j x hj hx => ?_⟩ hr
    · have := (List.getElem?_eq_some_iff.1 hv).1
      simp [zeros] at this; omega
    · have := (List.getElem?_eq_some_iff.1 hx).1; omega
  · cases h

/-! ### Worths, stage by stage -/
def nextI (m : Mch) (i : Nat) (vals : List Int) (ts : List Trn) : List Int := ts.map fun t => vals.getD (Int.toNat t.to) 0 * Int.tdiv (m.mult.getD i 0) (m.meas.getD (Int.toNat t.to) 0)
def sumW : List Trn → List Int → Int
  | t :: ts, e :: es => t.w * e + sumW ts es
  | _, _ => 0
def valStep (m : Mch) (w : Int → Int) (ch : Int → List Int → Int) (i : Nat) (p : List Int × List Int) : List Int × List Int :=
  if (m.s.stages.getD i ⟨0, 0, []⟩).kind = 4 then (if (m.s.stages.getD i ⟨0, 0, []⟩).prize ≥ 0 then (p.1.set i (w (m.s.stages.getD i ⟨0, 0, []⟩).prize), p.2) else p)
  else if (m.s.stages.getD i ⟨0, 0, []⟩).kind = 1 then (p.1.set i (p.1.getD i 0 + sumW (m.s.stages.getD i ⟨0, 0, []⟩).turns (nextI m i p.1 (m.s.stages.getD i ⟨0, 0, []⟩).turns)), p.2)
  else (p.1.set i ((nextI m i p.1 (m.s.stages.getD i ⟨0, 0, []⟩).turns).getD (Int.toNat (ch i (nextI m i p.1 (m.s.stages.getD i ⟨0, 0, []⟩).turns))) 0), p.2.set i (ch i (nextI m i p.1 (m.s.stages.getD i ⟨0, 0, []⟩).turns)))
def valN (m : Mch) (w : Int → Int) (ch : Int → List Int → Int) : Nat → List Int × List Int → List Int × List Int
  | 0, p => p
  | i + 1, p => valN m w ch i (valStep m w ch i p)
def valA (m : Mch) (w : Int → Int) (ch : Int → List Int → Int) : List Int × List Int := valN m w ch m.s.stages.length (zeros m.s.stages.length, zeros m.s.stages.length)

structure VOk (m : Mch) (i : Nat) (p : List Int × List Int) : Prop where
  l1 : p.1.length = m.s.stages.length
  l2 : p.2.length = m.s.stages.length
  lo : ∀ j, j < i → p.1.getD j 0 = 0
  hi : ∀ j u, i ≤ j → m.meas[j]? = some u → 0 ≤ p.1.getD j 0 ∧ p.1.getD j 0 ≤ 10000 * u
  c0 : ∀ j, j < i → p.2.getD j 0 = 0

/-- What is won has a worth that is not too great, and who chooses names a turn. -/
structure WOk (m : Mch) (w : Int → Int) (ch : Int → List Int → Int) : Prop where
  w1 : ∀ n : Int, 0 ≤ n → n ≤ (m.s.worth.length : Int) - 1 → 0 ≤ w n ∧ w n ≤ 10000
  c1 : ∀ (i : Nat) (x : Stg) (l : List Int), m.s.stages[i]? = some x → x.kind ≠ 4 → x.kind ≠ 1 → l.length = x.turns.length → 0 < l.length → 0 ≤ ch i l ∧ Int.toNat (ch i l) < l.length

theorem sumW_bd : ∀ {ts : List Trn} {es : List Int} {B : Int}, (∀ e ∈ es, 0 ≤ e ∧ e ≤ B) → (∀ t ∈ ts, 0 ≤ t.w) → ts.length = es.length → 0 ≤ sumW ts es ∧ sumW ts es ≤ B * (ts.map (·.w)).sum
  | [], es, B, _, _, _ => by simp [sumW]
  | t :: ts, [], B, _, _, h => by simp at h
  | t :: ts, e :: es, B, he, ht, hl => by
    have h1 := he e (by simp)
    have h2 := ht t (by simp)
    have ih := sumW_bd (ts := ts) (es := es) (B := B) (fun x hx => he x (by simp [hx])) (fun x hx => ht x (by simp [hx])) (by simpa using hl)
    have h3 := Int.mul_nonneg h2 h1.1
    have h4 := Int.mul_le_mul_of_nonneg_left h1.2 h2
    have h5 : B * (t.w + (ts.map (·.w)).sum) = t.w * B + B * (ts.map (·.w)).sum := by rw [Int.mul_add, Int.mul_comm B]
    simp only [sumW, List.map_cons, List.sum_cons, h5]
    omega

theorem next_bd {m : Mch} (hm : MOk m) {i : Nat} {x : Stg} {p : List Int × List Int} (hi : m.s.stages[i]? = some x) (hp : VOk m (i + 1) p) {t : Trn} (ht : t ∈ x.turns) :
    ∃ q u, m.mult[i]? = some q ∧ m.meas[Int.toNat t.to]? = some u ∧ (0 < q ∧ q ≤ 1000000000000) ∧ (0 < u ∧ u ≤ 1000000000000) ∧ Int.tdiv q u * u = q ∧ 0 ≤ Int.tdiv q u ∧ Int.tdiv q u ≤ q ∧
      0 ≤ p.1.getD (Int.toNat t.to) 0 * Int.tdiv q u ∧ p.1.getD (Int.toNat t.to) 0 * Int.tdiv q u ≤ 10000 * q := by
  have hform := (stPre_of hm.st).2.2.2.2
  have hto := turns_to hi (hform i (List.getElem?_eq_some_iff.1 hi).1) t ht
  obtain ⟨q, q1, q2, q3, q4⟩ := hm.inv.rel i x (by omega) hi
  have hg : m.meas[Int.toNat t.to]? = some (m.meas[Int.toNat t.to]'(by rw [hm.inv.l1]; exact hto.2.1)) := List.getElem?_eq_getElem _
  have hd := q4 t ht
  have hb := hm.inv.pos _ _ (by omega) hg
  have hv := hp.hi _ _ (by omega) hg
  rw [show m.meas.getD (Int.toNat t.to) 0 = m.meas[Int.toNat t.to]'(by rw [hm.inv.l1]; exact hto.2.1) by simp [List.getD, hg]] at hd
  generalize m.meas[Int.toNat t.to]'(by rw [hm.inv.l1]; exact hto.2.1) = u at hg hd hb hv
  generalize p.1.getD (Int.toNat t.to) 0 = v at hv ⊢
  have e1 : Int.tdiv q u = q / u := Int.tdiv_eq_ediv_of_nonneg (by omega)
  have e2 := Int.ediv_le_self u (show (0 : Int) ≤ q by omega)
  have e3 := Int.ediv_nonneg (show (0 : Int) ≤ q by omega) (show 0 ≤ u by omega)
  have e4 : Int.tdiv q u * u = q := by rw [e1]; exact Int.ediv_mul_cancel hd
  refine ⟨q, u, q1, hg, q3, hb, e4, by omega, by omega, Int.mul_nonneg hv.1 (by omega), ?_⟩
  have h1 := Int.mul_le_mul_of_nonneg_right hv.2 (show 0 ≤ Int.tdiv q u by omega)
  have h2 : 10000 * u * Int.tdiv q u = 10000 * q := by rw [Int.mul_assoc, Int.mul_comm u, e4]
  omega

theorem next_all {m : Mch} (hm : MOk m) {i : Nat} {x : Stg} {p : List Int × List Int} (hi : m.s.stages[i]? = some x) (hp : VOk m (i + 1) p) {q : Int} (hq : m.mult[i]? = some q) : ∀ e ∈ nextI m i p.1 x.turns, 0 ≤ e ∧ e ≤ 10000 * q := fun e he => by
  obtain ⟨t, ht, rfl⟩ := List.mem_map.1 he
  obtain ⟨q', u, h1, h2, h3, h4, h5, h6, h7, h8, h9⟩ := next_bd hm hi hp ht
  rw [hq] at h1; cases h1
  rw [show m.mult.getD i 0 = q by simp [List.getD, hq], show m.meas.getD (Int.toNat t.to) 0 = u by simp [List.getD, h2]]
  exact ⟨h8, h9⟩

theorem sum_bd {m : Mch} (hm : MOk m) {i : Nat} {x : Stg} {p : List Int × List Int} (hi : m.s.stages[i]? = some x) (hp : VOk m (i + 1) p) (hk : x.kind = 1) {u : Int} (hu : m.meas[i]? = some u) :
    0 ≤ sumW x.turns (nextI m i p.1 x.turns) ∧ sumW x.turns (nextI m i p.1 x.turns) ≤ 10000 * u := by
  have hform := (stPre_of hm.st).2.2.2.2
  have hto := (tot_of hi (hform i (List.getElem?_eq_some_iff.1 hi).1)).1.2
  obtain ⟨q, q1, q2, q3, q4⟩ := hm.inv.rel i x (by omega) hi
  rw [hu, if_pos hk] at q2; cases q2
  have := sumW_bd (next_all hm hi hp q1) (fun t ht => (hto t ht).1) (by simp [nextI])
  rw [Int.mul_assoc] at this
  exact this

theorem getD_set_self {l : List Int} {i : Nat} {v : Int} (h : i < l.length) : (l.set i v).getD i 0 = v := by simp [List.getD, List.getElem?_set_self h]

theorem vok_set {m : Mch} {i : Nat} {p : List Int × List Int} {v c : Int} (hlt : i < m.s.stages.length) (hp : VOk m (i + 1) p) (h : ∀ u, m.meas[i]? = some u → 0 ≤ v ∧ v ≤ 10000 * u) : VOk m i (p.1.set i v, p.2.set i c) ∧ VOk m i (p.1.set i v, p.2) := by
  have hi : ∀ j u, i ≤ j → m.meas[j]? = some u → 0 ≤ (p.1.set i v).getD j 0 ∧ (p.1.set i v).getD j 0 ≤ 10000 * u := fun j u hj hu => by
    by_cases e : i = j
    · subst e; rw [getD_set_self (by rw [hp.l1]; exact hlt)]; exact h u hu
    · rw [getD_set_ne e]; exact hp.hi j u (by omega) hu
  have lo : ∀ j, j < i → (p.1.set i v).getD j 0 = 0 := fun j hj => by rw [getD_set_ne (by omega)]; exact hp.lo j (by omega)
  exact ⟨⟨by simp [hp.l1], by simp [hp.l2], lo, hi, fun j hj => by rw [getD_set_ne (by omega)]; exact hp.c0 j (by omega)⟩, ⟨by simp [hp.l1], hp.l2, lo, hi, fun j hj => hp.c0 j (by omega)⟩⟩

theorem vok_same {m : Mch} (hm : MOk m) {i : Nat} {p : List Int × List Int} (hp : VOk m (i + 1) p) : VOk m i p := by
  refine ⟨hp.l1, hp.l2, fun j hj => hp.lo j (by omega), fun j u hj hu => ?_, fun j hj => hp.c0 j (by omega)⟩
  by_cases e : i = j
  · subst e
    rw [hp.lo i (by omega)]
    have := (hm.inv.pos i u (by omega) hu).1
    omega
  · exact hp.hi j u (by omega) hu

theorem val_step {m : Mch} (hm : MOk m) {w : Int → Int} {ch : Int → List Int → Int} (hw : WOk m w ch) {i : Nat} {p : List Int × List Int} (hlt : i < m.s.stages.length) (hp : VOk m (i + 1) p) : VOk m i (valStep m w ch i p) := by
  have hform := (stPre_of hm.st).2.2.2.2
  have hi : m.s.stages[i]? = some m.s.stages[i] := List.getElem?_eq_getElem hlt
  have hx : m.s.stages.getD i ⟨0, 0, []⟩ = m.s.stages[i] := by simp [List.getD, hi]
  unfold valStep
  rw [hx]
  have hfo := form_of hi (hform i hlt)
  generalize m.s.stages[i] = x at hi hx hfo
  split
  · rename_i h4
    split
    · rename_i hpr
      rcases hfo with ⟨-, -, h3⟩ | ⟨h1, -⟩
      · refine (vok_set (c := 0) hlt hp fun u hu => ?_).2
        have h1 := hw.w1 x.prize hpr h3.2
        have h2 := (hm.inv.pos i u (by omega) hu).1
        omega
      · omega
    · exact vok_same hm hp
  · rename_i h4
    split
    · rename_i h1
      refine (vok_set (c := 0) hlt hp fun u hu => ?_).2
      have := sum_bd hm hi hp h1 hu
      rw [hp.lo i (by omega)]
      omega
    · rename_i h1
      refine (vok_set hlt hp fun u hu => ?_).1
      obtain ⟨q, q1, q2, q3, q4⟩ := hm.inv.rel i x (by omega) hi
      rw [hu, if_neg h1] at q2; cases q2
      have hl : (nextI m i p.1 x.turns).length = x.turns.length := by simp [nextI]
      have hpos : 0 < (nextI m i p.1 x.turns).length := by
        rcases hfo with ⟨h, -⟩ | ⟨-, -, h, -⟩
        · exact absurd h h4
        · omega
      have hc := hw.c1 i x _ hi h4 h1 hl hpos
      generalize ch i (nextI m i p.1 x.turns) = c at hc
      have hg : (nextI m i p.1 x.turns)[Int.toNat c]? = some (nextI m i p.1 x.turns)[Int.toNat c] := List.getElem?_eq_getElem hc.2
      have := next_all hm hi hp q1 _ (List.mem_of_getElem? hg)
      simpa [List.getD, hg] using this

theorem val_ok0 {m : Mch} (hm : MOk m) : VOk m m.s.stages.length (zeros m.s.stages.length, zeros m.s.stages.length) := by
  have hz : ∀ j, (zeros m.s.stages.length).getD j 0 = 0 := fun j => by
    simp only [zeros, List.getD, List.getElem?_replicate]
    split <;> rfl
  refine ⟨by simp [zeros], by simp [zeros], fun j _ => hz j, fun j u hj hu => ?_, fun j _ => hz j⟩
  have := (List.getElem?_eq_some_iff.1 hu).1
  rw [hm.inv.l1] at this; omega
theorem val_okN {m : Mch} (hm : MOk m) {w : Int → Int} {ch : Int → List Int → Int} (hw : WOk m w ch) : ∀ {n : Nat} {p : List Int × List Int}, n ≤ m.s.stages.length → VOk m n p → VOk m 0 (valN m w ch n p)
  | 0, p, _, h => h
  | i + 1, p, hn, h => (val_okN hm hw (n := i) (by omega) (val_step hm hw (by omega) h) : VOk m 0 (valN m w ch i (valStep m w ch i p)))
theorem val_okA {m : Mch} (hm : MOk m) {w : Int → Int} {ch : Int → List Int → Int} (hw : WOk m w ch) : VOk m 0 (valA m w ch) := val_okN hm hw (Nat.le_refl _) (val_ok0 hm)

/-! ### Choosers -/
theorem idxV_mem {l : List Int} {v : Int} (h : v ∈ l) : 0 ≤ idxV l v ∧ Int.toNat (idxV l v) < l.length ∧ l[Int.toNat (idxV l v)]? = some v ∧ ∀ j e, j < Int.toNat (idxV l v) → l[j]? = some e → e ≠ v := by
  unfold idxV idxG
  cases hf : l.findIdx? (fun e => decide (v = e)) with
  | none =>
    have := List.findIdx?_eq_none_iff.1 hf v h
    simp at this
  | some k =>
    obtain ⟨h1, h2, h3⟩ := List.findIdx?_eq_some_iff_getElem.1 hf
    simp only [Int.toNat_natCast]
    refine ⟨by omega, h1, ?_, fun j e hj he => ?_⟩
    · rw [List.getElem?_eq_getElem h1]
      have := of_decide_eq_true h2
      rw [this]
    · obtain ⟨h4, h5⟩ := List.getElem?_eq_some_iff.1 he
      have := h3 j hj
      rw [h5] at this
      intro h6
      simp [h6] at this
theorem maxF_mem : ∀ {l : List Int} {m : Int}, (maxF m l = m ∨ maxF m l ∈ l) ∧ m ≤ maxF m l ∧ ∀ e ∈ l, e ≤ maxF m l
  | [], m => by simp [maxF]
  | x :: l, m => by
    obtain ⟨h1, h2, h3⟩ := maxF_mem (l := l) (m := iMax m x)
    have hm : iMax m x = if x > m then x else m := rfl
    simp only [maxF]
    refine ⟨?_, by split at hm <;> omega, fun e he => ?_⟩
    · rcases h1 with h1 | h1
      · split at hm
        · right; rw [h1, hm]; simp
        · left; rw [h1, hm]
      · right; exact List.mem_cons_of_mem _ h1
    · rcases List.mem_cons.1 he with rfl | he
      · split at hm <;> omega
      · exact h3 e he
theorem minF_mem : ∀ {l : List Int} {m : Int}, (minF m l = m ∨ minF m l ∈ l) ∧ minF m l ≤ m ∧ ∀ e ∈ l, minF m l ≤ e
  | [], m => by simp [minF]
  | x :: l, m => by
    obtain ⟨h1, h2, h3⟩ := minF_mem (l := l) (m := iMin m x)
    have hm : iMin m x = if x < m then x else m := rfl
    simp only [minF]
    refine ⟨?_, by split at hm <;> omega, fun e he => ?_⟩
    · rcases h1 with h1 | h1
      · split at hm
        · right; rw [h1, hm]; simp
        · left; rw [h1, hm]
      · right; exact List.mem_cons_of_mem _ h1
    · rcases List.mem_cons.1 he with rfl | he
      · split at hm <;> omega
      · exact h3 e he
theorem maxI_mem {l : List Int} (h : 0 < l.length) : maxI l ∈ l ∧ ∀ e ∈ l, e ≤ maxI l := by
  cases l with
  | nil => simp at h
  | cons x l =>
    obtain ⟨h1, h2, h3⟩ := maxF_mem (l := l) (m := x)
    simp only [maxI, List.getD, List.getElem?_cons_zero, Option.getD_some, List.drop_succ_cons, List.drop_zero]
    refine ⟨?_, fun e he => ?_⟩
    · rcases h1 with h1 | h1
      · rw [h1]; simp
      · exact List.mem_cons_of_mem _ h1
    · rcases List.mem_cons.1 he with rfl | he
      · exact h2
      · exact h3 e he
theorem minI_mem {l : List Int} (h : 0 < l.length) : minI l ∈ l ∧ ∀ e ∈ l, minI l ≤ e := by
  cases l with
  | nil => simp at h
  | cons x l =>
    obtain ⟨h1, h2, h3⟩ := minF_mem (l := l) (m := x)
    simp only [minI, List.getD, List.getElem?_cons_zero, Option.getD_some, List.drop_succ_cons, List.drop_zero]
    refine ⟨?_, fun e he => ?_⟩
    · rcases h1 with h1 | h1
      · rw [h1]; simp
      · exact List.mem_cons_of_mem _ h1
    · rcases List.mem_cons.1 he with rfl | he
      · exact h2
      · exact h3 e he
theorem choose_in {m : Mch} {pa oa i : Int} {l : List Int} (h : 0 < l.length) : 0 ≤ chooseI m pa oa i l ∧ Int.toNat (chooseI m pa oa i l) < l.length := by
  unfold chooseI
  generalize (if (m.s.stages.getD (Int.toNat i) ⟨0, 0, []⟩).kind = 3 then oa else pa) = a
  split
  · have := idxV_mem (maxI_mem h).1; exact ⟨this.1, this.2.1⟩
  · have := idxV_mem (minI_mem h).1; exact ⟨this.1, this.2.1⟩

/-! ### Plans -/
def planMost (x : Stg) : Int := if x.kind = 2 ∨ x.kind = 3 then (x.turns.length : Int) - 1 else 0
def planOk (s : Stl) (l : List Int) : Bool := decide (l.length = s.stages.length) && (List.range l.length).all fun i => within (l.getD i 0) 0 (planMost (s.stages.getD i ⟨0, 0, []⟩))
theorem planOk_of {s : Stl} {l : List Int} (h : planOk s l = true) : l.length = s.stages.length ∧ ∀ (i : Nat) (x : Stg), s.stages[i]? = some x → ∃ v, l[i]? = some v ∧ 0 ≤ v ∧ v ≤ planMost x := by
  simp only [planOk, Bool.and_eq_true, decide_eq_true_eq] at h
  refine ⟨h.1, fun i x hx => ?_⟩
  have hlt := (List.getElem?_eq_some_iff.1 hx).1
  have := List.all_eq_true.1 h.2 i (List.mem_range.2 (by omega))
  have hg : l[i]? = some (l[i]'(by omega)) := List.getElem?_eq_getElem (by omega)
  have := within_iff.1 this
  rw [show l.getD i 0 = l[i]'(by omega) by simp [List.getD, hg], show s.stages.getD i ⟨0, 0, []⟩ = x by simp [List.getD, hx]] at this
  exact ⟨_, hg, this.1, this.2⟩

theorem wok_only {m : Mch} {kd pa oa : Int} : WOk m (onlyI kd) (chooseI m pa oa) :=
  ⟨fun n _ _ => by unfold onlyI; split <;> omega, fun i x l _ _ _ _ h => choose_in h⟩
theorem getD_some {l : List Int} {i : Nat} (h : i < l.length) : l[i]? = some (l.getD i 0) := by
  have hg : l[i]? = some l[i] := List.getElem?_eq_getElem h
  simp [List.getD, hg]
theorem getD_of {l : List Int} {i : Nat} {v : Int} (h : l[i]? = some v) : l.getD i 0 = v := by simp [List.getD, h]
theorem next_snoc {m : Mch} {i : Nat} {v : List Int} {l : List Trn} {k : Nat} {t : Trn} (h : l[k]? = some t) :
    nextI m i v (l.take (k + 1)) = nextI m i v (l.take k) ++ [v.getD (Int.toNat t.to) 0 * Int.tdiv (m.mult.getD i 0) (m.meas.getD (Int.toNat t.to) 0)] := by
  rw [List.take_add_one, h]
  simp [nextI]
theorem set_same {l : List Int} {i : Nat} {v : Int} (h : l[i]? = some v) : l.set i v = l := by
  apply List.ext_getElem?
  intro j
  by_cases e : i = j
  · subst e; rw [List.getElem?_set_self (List.getElem?_eq_some_iff.1 h).1, h]
  · rw [List.getElem?_set_ne e]
theorem f83ob : Try.f83.body = some (bodyAt Try.prog 83) := by kernel_rfl
def f83oK0 (P : Program) : List Item := kAt 400 [.code (bodyAt P 83)] [.stop]
def f83oS0  (m : Mch) (kd pa oa : Int) (v0 : List Int) (v1 : List Int) (i : Int) (g0 : Nat) (g1 : Nat) : St := ⟨[.rptr [.rsl (rowStg m.s.stages) 0 m.s.stages.length, .rsl (rowI m.s.worth) 0 m.s.worth.length, .int .i64 m.s.price, .rsl (rowI m.meas) 0 m.meas.length, .rsl (rowI m.mult) 0 m.mult.length] 0, .clos 113 [] [.rptr [.int .i64 kd] 0], .clos 114 [] [.rptr [.int .i64 pa] 0, .rptr [.rptr [.rsl (rowStg m.s.stages) 0 m.s.stages.length, .rsl (rowI m.s.worth) 0 m.s.worth.length, .int .i64 m.s.price, .rsl (rowI m.meas) 0 m.meas.length, .rsl (rowI m.mult) 0 m.mult.length] 0] 0, .rptr [.int .i64 oa] 0], .junk, .junk, .junk, .sl 0 g0 0 v0.length 1, .sl 1 g1 0 v1.length 1, .int .i64 i, .junk, .junk, .junk, .junk, .junk, .junk, .junk, .junk, .junk, .junk, .junk, .junk, .junk, .junk, .junk, .junk, .junk, .junk, .junk, .junk, .junk, .junk, .junk, .junk, .junk, .junk, .junk, .junk, .junk, .junk, .junk, .junk, .junk, .junk, .junk, .junk, .junk, .junk, .junk, .junk, .junk, .junk, .junk, .junk, .junk, .junk, .junk, .junk, .junk, .junk, .junk, .junk, .junk, .junk, .junk, .junk, .junk, .junk, .junk, .junk, .junk, .junk, .junk, .junk, .junk, .junk, .junk, .junk, .junk, .junk, .junk, .junk, .junk, .junk, .junk, .junk, .junk, .junk, .junk, .junk, .junk, .junk, .junk, .junk, .junk, .junk, .junk, .junk, .junk, .junk, .junk, .junk, .junk, .junk, .junk, .junk, .junk, .junk, .junk, .junk, .junk, .junk, .junk, .junk, .junk, .junk, .junk, .junk, .junk, .junk, .junk, .junk, .junk, .junk, .junk, .junk, .junk, .junk, .junk, .junk, .junk, .junk, .junk, .junk, .junk, .junk, .junk, .junk, .junk], [⟨true, g0, 1, true, (rowI v0), true⟩, ⟨true, g1, 1, true, (rowI v1), true⟩]⟩
def f83oG0 (E : Env)  (m : Mch) (kd pa oa : Int) (v0 : List Int) (v1 : List Int) (i : Int) : Prop := ∀ g0 g1 : Nat, G Try.prog E (f83oK0 Try.prog) (f83oS0 m kd pa oa v0 v1 i g0 g1)
def f83oK1 (P : Program) : List Item := kAt 400 [.code (bodyAt P 83)] [.b true, .b false, .stop]
def f83oS1  (m : Mch) (kd pa oa : Int) (i : Int) (k : (List Trn)) (k1 : Nat) (v0 : List Int) (v1 : List Int) (v2_0 : Int) (v2_1 : Int) (v2_2 : (List Trn)) (k11 : Nat) (v3 : List Int) (g0 : Nat) (g1 : Nat) (g3 : Nat) : St := ⟨[.rptr [.rsl (rowStg m.s.stages) 0 m.s.stages.length, .rsl (rowI m.s.worth) 0 m.s.worth.length, .int .i64 m.s.price, .rsl (rowI m.meas) 0 m.meas.length, .rsl (rowI m.mult) 0 m.mult.length] 0, .clos 113 [] [.rptr [.int .i64 kd] 0], .clos 114 [] [.rptr [.int .i64 pa] 0, .rptr [.rptr [.rsl (rowStg m.s.stages) 0 m.s.stages.length, .rsl (rowI m.s.worth) 0 m.s.worth.length, .int .i64 m.s.price, .rsl (rowI m.meas) 0 m.meas.length, .rsl (rowI m.mult) 0 m.mult.length] 0] 0, .rptr [.int .i64 oa] 0], .junk, .junk, .junk, .sl 0 g0 0 v0.length 1, .sl 1 g1 0 v1.length 1, .int .i64 i, .ptr 2 0 0, .sl 3 g3 0 v3.length 1, .junk, .junk, .junk, .junk, .junk, .junk, .junk, .junk, .junk, .junk, .junk, .junk, .junk, .junk, .junk, .junk, .junk, .junk, .junk, .junk, .junk, .junk, .junk, .junk, .junk, .junk, .junk, .junk, .junk, .junk, .junk, .junk, .junk, .junk, .junk, .junk, .junk, .junk, .junk, .junk, .junk, .junk, .junk, .junk, .junk, .junk, .junk, .junk, .junk, .junk, .junk, .rsl (rowTrn k) 0 k.length, .int .i64 (k1 : Int), .int .i64 (k11 : Int), .junk, .junk, .junk, .junk, .junk, .junk, .junk, .junk, .junk, .junk, .junk, .junk, .junk, .junk, .junk, .junk, .junk, .junk, .junk, .junk, .junk, .junk, .junk, .junk, .junk, .junk, .junk, .junk, .junk, .junk, .junk, .junk, .junk, .junk, .junk, .junk, .junk, .junk, .junk, .junk, .junk, .junk, .junk, .junk, .junk, .junk, .junk, .junk, .junk, .junk, .junk, .junk, .junk, .junk, .junk, .junk, .junk, .junk, .junk, .junk, .junk, .junk, .junk, .junk, .junk, .junk, .junk, .junk, .junk, .junk, .junk, .junk, .junk], [⟨true, g0, 1, true, (rowI v0), true⟩, ⟨true, g1, 1, true, (rowI v1), true⟩, ⟨true, 0, 1, true, [.int .i64 v2_0, .int .i64 v2_1, .rsl (rowTrn v2_2) 0 v2_2.length], false⟩, ⟨true, g3, 1, true, (rowI v3), true⟩]⟩
def f83oG1 (E : Env)  (m : Mch) (kd pa oa : Int) (i : Int) (k : (List Trn)) (k1 : Nat) (v0 : List Int) (v1 : List Int) (v2_0 : Int) (v2_1 : Int) (v2_2 : (List Trn)) (k11 : Nat) (v3 : List Int) : Prop := ∀ g0 g1 g3 : Nat, G Try.prog E (f83oK1 Try.prog) (f83oS1 m kd pa oa i k k1 v0 v1 v2_0 v2_1 v2_2 k11 v3 g0 g1 g3)
def f83oK2 (P : Program) : List Item := kAt 400 [.code (bodyAt P 83)] [.b true, .b false, .b false, .b true, .stop]
def f83oS2  (m : Mch) (kd pa oa : Int) (i : Int) (j : (List Trn)) (j1 : Nat) (v0 : List Int) (v1 : List Int) (v2_0 : Int) (v2_1 : Int) (v2_2 : (List Trn)) (v3 : List Int) (j11 : Nat) (g0 : Nat) (g1 : Nat) (g3 : Nat) : St := ⟨[.rptr [.rsl (rowStg m.s.stages) 0 m.s.stages.length, .rsl (rowI m.s.worth) 0 m.s.worth.length, .int .i64 m.s.price, .rsl (rowI m.meas) 0 m.meas.length, .rsl (rowI m.mult) 0 m.mult.length] 0, .clos 113 [] [.rptr [.int .i64 kd] 0], .clos 114 [] [.rptr [.int .i64 pa] 0, .rptr [.rptr [.rsl (rowStg m.s.stages) 0 m.s.stages.length, .rsl (rowI m.s.worth) 0 m.s.worth.length, .int .i64 m.s.price, .rsl (rowI m.meas) 0 m.meas.length, .rsl (rowI m.mult) 0 m.mult.length] 0] 0, .rptr [.int .i64 oa] 0], .junk, .junk, .junk, .sl 0 g0 0 v0.length 1, .sl 1 g1 0 v1.length 1, .int .i64 i, .junk, .sl 3 g3 0 v3.length 1, .junk, .junk, .junk, .junk, .junk, .junk, .junk, .junk, .junk, .junk, .junk, .junk, .junk, .junk, .junk, .junk, .junk, .junk, .junk, .junk, .junk, .junk, .junk, .junk, .junk, .junk, .junk, .junk, .junk, .junk, .junk, .junk, .junk, .junk, .junk, .junk, .junk, .junk, .junk, .junk, .junk, .junk, .junk, .junk, .junk, .junk, .junk, .junk, .junk, .junk, .junk, .junk, .junk, .junk, .junk, .junk, .junk, .junk, .junk, .junk, .junk, .junk, .junk, .junk, .junk, .junk, .junk, .junk, .junk, .junk, .junk, .junk, .junk, .junk, .junk, .junk, .junk, .junk, .junk, .junk, .junk, .junk, .junk, .junk, .junk, .junk, .junk, .rsl (rowTrn j) 0 j.length, .int .i64 (j1 : Int), .int .i64 (j11 : Int), .junk, .junk, .junk, .junk, .junk, .junk, .junk, .junk, .junk, .junk, .junk, .junk, .junk, .junk, .junk, .junk, .junk, .junk, .junk, .junk, .junk, .junk, .junk, .junk, .junk, .junk, .junk, .junk, .junk, .junk, .junk, .junk, .junk, .junk, .junk, .junk, .junk], [⟨true, g0, 1, true, (rowI v0), true⟩, ⟨true, g1, 1, true, (rowI v1), true⟩, ⟨true, 0, 1, true, [.int .i64 v2_0, .int .i64 v2_1, .rsl (rowTrn v2_2) 0 v2_2.length], false⟩, ⟨true, g3, 1, true, (rowI v3), true⟩]⟩
def f83oG2 (E : Env)  (m : Mch) (kd pa oa : Int) (i : Int) (j : (List Trn)) (j1 : Nat) (v0 : List Int) (v1 : List Int) (v2_0 : Int) (v2_1 : Int) (v2_2 : (List Trn)) (v3 : List Int) (j11 : Nat) : Prop := ∀ g0 g1 g3 : Nat, G Try.prog E (f83oK2 Try.prog) (f83oS2 m kd pa oa i j j1 v0 v1 v2_0 v2_1 v2_2 v3 j11 g0 g1 g3)
theorem p83o_start_0  (m : Mch) (kd pa oa : Int)   {E : Env} {rv : AV} (hE : PureE Try.prog 83 rv E) (o0 : 0 ≤ (m.s.stages.length : Int) ∧ (m.s.stages.length : Int) ≤ (m.s.stages.length : Int) ∧ (m.s.stages.length : Int) ≤ 2147483648) (o1 : 0 ≤ (m.s.stages.length : Int) ∧ (m.s.stages.length : Int) ≤ (m.s.stages.length : Int) ∧ (m.s.stages.length : Int) ≤ 2147483648) (o2 : InR .i64 ((m.s.stages.length : Int) - 1))
    (hg : G Try.prog E (f83oK0 Try.prog) ⟨[.rptr [.rsl (rowStg m.s.stages) 0 m.s.stages.length, .rsl (rowI m.s.worth) 0 m.s.worth.length, .int .i64 m.s.price, .rsl (rowI m.meas) 0 m.meas.length, .rsl (rowI m.mult) 0 m.mult.length] 0, .clos 113 [] [.rptr [.int .i64 kd] 0], .clos 114 [] [.rptr [.int .i64 pa] 0, .rptr [.rptr [.rsl (rowStg m.s.stages) 0 m.s.stages.length, .rsl (rowI m.s.worth) 0 m.s.worth.length, .int .i64 m.s.price, .rsl (rowI m.meas) 0 m.meas.length, .rsl (rowI m.mult) 0 m.mult.length] 0] 0, .rptr [.int .i64 oa] 0], .junk, .junk, .junk, .sl 0 0 0 (Int.toNat (m.s.stages.length : Int)) 1, .sl 1 0 0 (Int.toNat (m.s.stages.length : Int)) 1, .int .i64 ((m.s.stages.length : Int) - 1), .junk, .junk, .junk, .junk, .junk, .junk, .junk, .junk, .junk, .junk, .junk, .junk, .junk, .junk, .junk, .junk, .junk, .junk, .junk, .junk, .junk, .junk, .junk, .junk, .junk, .junk, .junk, .junk, .junk, .junk, .junk, .junk, .junk, .junk, .junk, .junk, .junk, .junk, .junk, .junk, .junk, .junk, .junk, .junk, .junk, .junk, .junk, .junk, .junk, .junk, .junk, .junk, .junk, .junk, .junk, .junk, .junk, .junk, .junk, .junk, .junk, .junk, .junk, .junk, .junk, .junk, .junk, .junk, .junk, .junk, .junk, .junk, .junk, .junk, .junk, .junk, .junk, .junk, .junk, .junk, .junk, .junk, .junk, .junk, .junk, .junk, .junk, .junk, .junk, .junk, .junk, .junk, .junk, .junk, .junk, .junk, .junk, .junk, .junk, .junk, .junk, .junk, .junk, .junk, .junk, .junk, .junk, .junk, .junk, .junk, .junk, .junk, .junk, .junk, .junk, .junk, .junk, .junk, .junk, .junk, .junk, .junk, .junk, .junk, .junk, .junk, .junk, .junk, .junk], [⟨true, 0, 1, true, ((List.replicate (Int.toNat (m.s.stages.length : Int)) ([.int .i64 0] : List AV)).flatten), true⟩, ⟨true, 0, 1, true, ((List.replicate (Int.toNat (m.s.stages.length : Int)) ([.int .i64 0] : List AV)).flatten), true⟩]⟩) : G Try.prog E [.code (bodyAt Try.prog 83)] ⟨[.rptr [.rsl (rowStg m.s.stages) 0 m.s.stages.length, .rsl (rowI m.s.worth) 0 m.s.worth.length, .int .i64 m.s.price, .rsl (rowI m.meas) 0 m.meas.length, .rsl (rowI m.mult) 0 m.mult.length] 0, .clos 113 [] [.rptr [.int .i64 kd] 0], .clos 114 [] [.rptr [.int .i64 pa] 0, .rptr [.rptr [.rsl (rowStg m.s.stages) 0 m.s.stages.length, .rsl (rowI m.s.worth) 0 m.s.worth.length, .int .i64 m.s.price, .rsl (rowI m.meas) 0 m.meas.length, .rsl (rowI m.mult) 0 m.mult.length] 0] 0, .rptr [.int .i64 oa] 0]] ++ unds (Try.f83.ntmps - 3), []⟩ :=
  segC_step (n := 400) (ds := []) (cs := []) (live := [0, 1, 2, 6, 7, 8]) (m := 2) (evs := [.stop]) (obs := [0 ≤ (m.s.stages.length : Int) ∧ (m.s.stages.length : Int) ≤ (m.s.stages.length : Int) ∧ (m.s.stages.length : Int) ≤ 2147483648, 0 ≤ (m.s.stages.length : Int) ∧ (m.s.stages.length : Int) ≤ (m.s.stages.length : Int) ∧ (m.s.stages.length : Int) ≤ 2147483648, InR .i64 ((m.s.stages.length : Int) - 1)]) hE.2.1 (hE.nogh _) mixed (by kernel_rfl) ⟨o0, o1, o2, trivial⟩ hg
theorem f83oW  (m : Mch) (kd pa oa : Int) {E : Env} {rv : ((List Int) × (List Int))} (hE : PureE Try.prog 83 (.tup [.rsl (rowI rv.1) 0 rv.1.length, .rsl (rowI rv.2) 0 rv.2.length]) E)
    (h : (m.s.stages.length ≤ 2147483648 ∧ (m.s.stages.length ≤ 2147483648 ∧ ((-9223372036854775808 ≤ (m.s.stages.length : Int) - 1 ∧ (m.s.stages.length : Int) - 1 ≤ 9223372036854775807) ∧ f83oG0 E m kd pa oa (List.replicate m.s.stages.length (0 : Int)) (List.replicate m.s.stages.length (0 : Int)) ((m.s.stages.length : Int) - 1))))) : G Try.prog E [.code (bodyAt Try.prog 83)] ⟨[.rptr [.rsl (rowStg m.s.stages) 0 m.s.stages.length, .rsl (rowI m.s.worth) 0 m.s.worth.length, .int .i64 m.s.price, .rsl (rowI m.meas) 0 m.meas.length, .rsl (rowI m.mult) 0 m.mult.length] 0, .clos 113 [] [.rptr [.int .i64 kd] 0], .clos 114 [] [.rptr [.int .i64 pa] 0, .rptr [.rptr [.rsl (rowStg m.s.stages) 0 m.s.stages.length, .rsl (rowI m.s.worth) 0 m.s.worth.length, .int .i64 m.s.price, .rsl (rowI m.meas) 0 m.meas.length, .rsl (rowI m.mult) 0 m.mult.length] 0] 0, .rptr [.int .i64 oa] 0]] ++ unds (Try.f83.ntmps - 3), []⟩ := by
  obtain ⟨h1, h⟩ := h
  obtain ⟨h2, h⟩ := h
  obtain ⟨q2_0, h⟩ := h
  refine p83o_start_0 m kd pa oa    hE ⟨by omega, by omega, by have := h1; omega⟩ ⟨by omega, by omega, by have := h2; omega⟩ q2_0 ?_
  have h := (h 0 0)
  simp only [f83oG0, f83oS0, List.length_set, List.length_replicate] at h
  rw [(show (List.replicate (Int.toNat (m.s.stages.length : Int)) ([.int .i64 0] : List AV)).flatten = rowI (List.replicate m.s.stages.length (0 : Int)) from row_rep cI _ _)]
  exact h
theorem p83o_0_0  (m : Mch) (kd pa oa : Int) (v0 : List Int) (v1 : List Int) (i : Int) (g0 : Nat) (g1 : Nat) (se : Stg) (e : Int)  {E : Env} {rv : AV} (hE : PureE Try.prog 83 rv E) (o0 : (decide (i ≥ 0)) = true) (o2 : 0 ≤ i ∧ i < (m.s.stages.length : Int)) (o3 : ((rowStg m.s.stages).drop (0 + (Int.toNat i) * 3)).take 3 = [.int .i64 se.kind, .int .i64 se.prize, .rsl (rowTrn se.turns) 0 se.turns.length]) (o5 : (se.kind == 4) = true) (o6 : (decide (se.prize ≥ 0)) = true) (o7 : PureF Try.prog (.clos 113 [] [.rptr [.int .i64 kd] 0]) [.int .i64 se.prize] (.int .i64 (onlyI kd se.prize))) (o9 : 0 ≤ i ∧ i < (v0.length : Int)) (o11 : ((0 + (Int.toNat i) * 1) + 1) ≤ (rowI v0).length) (o13 : InR .i64 (i - 1))
    (hg : G Try.prog E (f83oK0 Try.prog) ⟨[.rptr [.rsl (rowStg m.s.stages) 0 m.s.stages.length, .rsl (rowI m.s.worth) 0 m.s.worth.length, .int .i64 m.s.price, .rsl (rowI m.meas) 0 m.meas.length, .rsl (rowI m.mult) 0 m.mult.length] 0, .clos 113 [] [.rptr [.int .i64 kd] 0], .clos 114 [] [.rptr [.int .i64 pa] 0, .rptr [.rptr [.rsl (rowStg m.s.stages) 0 m.s.stages.length, .rsl (rowI m.s.worth) 0 m.s.worth.length, .int .i64 m.s.price, .rsl (rowI m.meas) 0 m.meas.length, .rsl (rowI m.mult) 0 m.mult.length] 0] 0, .rptr [.int .i64 oa] 0], .junk, .junk, .junk, .sl 0 g0 0 v0.length 1, .sl 1 g1 0 v1.length 1, .int .i64 (i - 1), .junk, .junk, .junk, .junk, .junk, .junk, .junk, .junk, .junk, .junk, .junk, .junk, .junk, .junk, .junk, .junk, .junk, .junk, .junk, .junk, .junk, .junk, .junk, .junk, .junk, .junk, .junk, .junk, .junk, .junk, .junk, .junk, .junk, .junk, .junk, .junk, .junk, .junk, .junk, .junk, .junk, .junk, .junk, .junk, .junk, .junk, .junk, .junk, .junk, .junk, .junk, .junk, .junk, .junk, .junk, .junk, .junk, .junk, .junk, .junk, .junk, .junk, .junk, .junk, .junk, .junk, .junk, .junk, .junk, .junk, .junk, .junk, .junk, .junk, .junk, .junk, .junk, .junk, .junk, .junk, .junk, .junk, .junk, .junk, .junk, .junk, .junk, .junk, .junk, .junk, .junk, .junk, .junk, .junk, .junk, .junk, .junk, .junk, .junk, .junk, .junk, .junk, .junk, .junk, .junk, .junk, .junk, .junk, .junk, .junk, .junk, .junk, .junk, .junk, .junk, .junk, .junk, .junk, .junk, .junk, .junk, .junk, .junk, .junk, .junk, .junk, .junk, .junk, .junk], [⟨true, g0, 1, true, (setAt (rowI v0) (0 + (Int.toNat i) * 1) [.int .i64 (onlyI kd se.prize)]), true⟩, ⟨true, g1, 1, true, (rowI v1), true⟩]⟩) : G Try.prog E (f83oK0 Try.prog) (f83oS0 m kd pa oa v0 v1 i g0 g1) :=
  segC_step (n := 400) (ds := []) (cs := []) (live := [0, 1, 2, 6, 7, 8]) (m := 2) (evs := [.b true, .auto, .ld (.agg [.int .i64 se.kind, .int .i64 se.prize, .rsl (rowTrn se.turns) 0 se.turns.length]), .b true, .b true, .v (.int .i64 (onlyI kd se.prize)), .stop]) (obs := [(decide (i ≥ 0)) = true, 0 ≤ i ∧ i < (m.s.stages.length : Int), ((rowStg m.s.stages).drop (0 + (Int.toNat i) * 3)).take 3 = [.int .i64 se.kind, .int .i64 se.prize, .rsl (rowTrn se.turns) 0 se.turns.length], 3 ≤ 3, (se.kind == 4) = true, (decide (se.prize ≥ 0)) = true, PureF Try.prog (.clos 113 [] [.rptr [.int .i64 kd] 0]) [.int .i64 se.prize] (.int .i64 (onlyI kd se.prize)), 0 ≤ i ∧ i < (v0.length : Int), g0 = g0, ((0 + (Int.toNat i) * 1) + 1) ≤ (rowI v0).length, g0 = g0, InR .i64 (i - 1)]) hE.2.1 (hE.nogh _) mixed (by kernel_rfl) ⟨o0, o2, o3, (by decide), o5, o6, o7, o9, (rfl), o11, (rfl), o13, trivial⟩ hg
theorem p83o_0_1  (m : Mch) (kd pa oa : Int) (v0 : List Int) (v1 : List Int) (i : Int) (g0 : Nat) (g1 : Nat) (se : Stg)  {E : Env} {rv : AV} (hE : PureE Try.prog 83 rv E) (o0 : (decide (i ≥ 0)) = true) (o2 : 0 ≤ i ∧ i < (m.s.stages.length : Int)) (o3 : ((rowStg m.s.stages).drop (0 + (Int.toNat i) * 3)).take 3 = [.int .i64 se.kind, .int .i64 se.prize, .rsl (rowTrn se.turns) 0 se.turns.length]) (o5 : (se.kind == 4) = true) (o6 : (decide (se.prize ≥ 0)) = false) (o7 : InR .i64 (i - 1))
    (hg : G Try.prog E (f83oK0 Try.prog) ⟨[.rptr [.rsl (rowStg m.s.stages) 0 m.s.stages.length, .rsl (rowI m.s.worth) 0 m.s.worth.length, .int .i64 m.s.price, .rsl (rowI m.meas) 0 m.meas.length, .rsl (rowI m.mult) 0 m.mult.length] 0, .clos 113 [] [.rptr [.int .i64 kd] 0], .clos 114 [] [.rptr [.int .i64 pa] 0, .rptr [.rptr [.rsl (rowStg m.s.stages) 0 m.s.stages.length, .rsl (rowI m.s.worth) 0 m.s.worth.length, .int .i64 m.s.price, .rsl (rowI m.meas) 0 m.meas.length, .rsl (rowI m.mult) 0 m.mult.length] 0] 0, .rptr [.int .i64 oa] 0], .junk, .junk, .junk, .sl 0 g0 0 v0.length 1, .sl 1 g1 0 v1.length 1, .int .i64 (i - 1), .junk, .junk, .junk, .junk, .junk, .junk, .junk, .junk, .junk, .junk, .junk, .junk, .junk, .junk, .junk, .junk, .junk, .junk, .junk, .junk, .junk, .junk, .junk, .junk, .junk, .junk, .junk, .junk, .junk, .junk, .junk, .junk, .junk, .junk, .junk, .junk, .junk, .junk, .junk, .junk, .junk, .junk, .junk, .junk, .junk, .junk, .junk, .junk, .junk, .junk, .junk, .junk, .junk, .junk, .junk, .junk, .junk, .junk, .junk, .junk, .junk, .junk, .junk, .junk, .junk, .junk, .junk, .junk, .junk, .junk, .junk, .junk, .junk, .junk, .junk, .junk, .junk, .junk, .junk, .junk, .junk, .junk, .junk, .junk, .junk, .junk, .junk, .junk, .junk, .junk, .junk, .junk, .junk, .junk, .junk, .junk, .junk, .junk, .junk, .junk, .junk, .junk, .junk, .junk, .junk, .junk, .junk, .junk, .junk, .junk, .junk, .junk, .junk, .junk, .junk, .junk, .junk, .junk, .junk, .junk, .junk, .junk, .junk, .junk, .junk, .junk, .junk, .junk, .junk], [⟨true, g0, 1, true, (rowI v0), true⟩, ⟨true, g1, 1, true, (rowI v1), true⟩]⟩) : G Try.prog E (f83oK0 Try.prog) (f83oS0 m kd pa oa v0 v1 i g0 g1) :=
  segC_step (n := 400) (ds := []) (cs := []) (live := [0, 1, 2, 6, 7, 8]) (m := 2) (evs := [.b true, .auto, .ld (.agg [.int .i64 se.kind, .int .i64 se.prize, .rsl (rowTrn se.turns) 0 se.turns.length]), .b true, .b false, .stop]) (obs := [(decide (i ≥ 0)) = true, 0 ≤ i ∧ i < (m.s.stages.length : Int), ((rowStg m.s.stages).drop (0 + (Int.toNat i) * 3)).take 3 = [.int .i64 se.kind, .int .i64 se.prize, .rsl (rowTrn se.turns) 0 se.turns.length], 3 ≤ 3, (se.kind == 4) = true, (decide (se.prize ≥ 0)) = false, InR .i64 (i - 1)]) hE.2.1 (hE.nogh _) mixed (by kernel_rfl) ⟨o0, o2, o3, (by decide), o5, o6, o7, trivial⟩ hg
theorem p83o_0_2  (m : Mch) (kd pa oa : Int) (v0 : List Int) (v1 : List Int) (i : Int) (g0 : Nat) (g1 : Nat) (se : Stg)  {E : Env} {rv : AV} (hE : PureE Try.prog 83 rv E) (o0 : (decide (i ≥ 0)) = true) (o2 : 0 ≤ i ∧ i < (m.s.stages.length : Int)) (o3 : ((rowStg m.s.stages).drop (0 + (Int.toNat i) * 3)).take 3 = [.int .i64 se.kind, .int .i64 se.prize, .rsl (rowTrn se.turns) 0 se.turns.length]) (o5 : (se.kind == 4) = false)
    (hg : G Try.prog E (f83oK1 Try.prog) ⟨[.rptr [.rsl (rowStg m.s.stages) 0 m.s.stages.length, .rsl (rowI m.s.worth) 0 m.s.worth.length, .int .i64 m.s.price, .rsl (rowI m.meas) 0 m.meas.length, .rsl (rowI m.mult) 0 m.mult.length] 0, .clos 113 [] [.rptr [.int .i64 kd] 0], .clos 114 [] [.rptr [.int .i64 pa] 0, .rptr [.rptr [.rsl (rowStg m.s.stages) 0 m.s.stages.length, .rsl (rowI m.s.worth) 0 m.s.worth.length, .int .i64 m.s.price, .rsl (rowI m.meas) 0 m.meas.length, .rsl (rowI m.mult) 0 m.mult.length] 0] 0, .rptr [.int .i64 oa] 0], .junk, .junk, .junk, .sl 0 g0 0 v0.length 1, .sl 1 g1 0 v1.length 1, .int .i64 i, .ptr 2 0 0, .sl 3 0 0 0 1, .junk, .junk, .junk, .junk, .junk, .junk, .junk, .junk, .junk, .junk, .junk, .junk, .junk, .junk, .junk, .junk, .junk, .junk, .junk, .junk, .junk, .junk, .junk, .junk, .junk, .junk, .junk, .junk, .junk, .junk, .junk, .junk, .junk, .junk, .junk, .junk, .junk, .junk, .junk, .junk, .junk, .junk, .junk, .junk, .junk, .junk, .junk, .junk, .junk, .junk, .junk, .rsl (rowTrn se.turns) 0 se.turns.length, .int .i64 (se.turns.length : Int), .int .i64 0, .junk, .junk, .junk, .junk, .junk, .junk, .junk, .junk, .junk, .junk, .junk, .junk, .junk, .junk, .junk, .junk, .junk, .junk, .junk, .junk, .junk, .junk, .junk, .junk, .junk, .junk, .junk, .junk, .junk, .junk, .junk, .junk, .junk, .junk, .junk, .junk, .junk, .junk, .junk, .junk, .junk, .junk, .junk, .junk, .junk, .junk, .junk, .junk, .junk, .junk, .junk, .junk, .junk, .junk, .junk, .junk, .junk, .junk, .junk, .junk, .junk, .junk, .junk, .junk, .junk, .junk, .junk, .junk, .junk, .junk, .junk, .junk, .junk], [⟨true, g0, 1, true, (rowI v0), true⟩, ⟨true, g1, 1, true, (rowI v1), true⟩, ⟨true, 0, 1, true, [.int .i64 se.kind, .int .i64 se.prize, .rsl (rowTrn se.turns) 0 se.turns.length], false⟩, ⟨true, 0, 1, true, [], true⟩]⟩) : G Try.prog E (f83oK0 Try.prog) (f83oS0 m kd pa oa v0 v1 i g0 g1) :=
  segC_step (n := 400) (ds := [(10, 1)]) (cs := []) (live := [0, 1, 2, 6, 7, 8, 9, 10, 62, 63, 64]) (m := 4) (evs := [.b true, .auto, .ld (.agg [.int .i64 se.kind, .int .i64 se.prize, .rsl (rowTrn se.turns) 0 se.turns.length]), .b false, .stop]) (obs := [(decide (i ≥ 0)) = true, 0 ≤ i ∧ i < (m.s.stages.length : Int), ((rowStg m.s.stages).drop (0 + (Int.toNat i) * 3)).take 3 = [.int .i64 se.kind, .int .i64 se.prize, .rsl (rowTrn se.turns) 0 se.turns.length], 3 ≤ 3, (se.kind == 4) = false]) hE.2.1 (hE.nogh _) mixed (by kernel_rfl) ⟨o0, o2, o3, (by decide), o5, trivial⟩ hg
theorem p83o_0_3  (m : Mch) (kd pa oa : Int) (v0 : List Int) (v1 : List Int) (i : Int) (g0 : Nat) (g1 : Nat)  {E : Env} {res : AV} (hE : PureE Try.prog 83 res E) (o0 : (decide (i ≥ 0)) = false)
    (hr : AvLe (.tup [.rsl (rowI v0) 0 v0.length, .rsl (rowI v1) 0 v1.length]) res) : G Try.prog E (f83oK0 Try.prog) (f83oS0 m kd pa oa v0 v1 i g0 g1) :=
  end_stepL (n := 400) (evs := [.b false]) (obs := [(decide (i ≥ 0)) = false, g0 = g0, g1 = g1]) hE Try.func83 mixed (by kernel_rfl) ⟨o0, (rfl), (rfl), trivial⟩ hr
theorem f83oW0  (m : Mch) (kd pa oa : Int) (v0 : List Int) (v1 : List Int) (i : Int) {E : Env} {rv : ((List Int) × (List Int))} (hE : PureE Try.prog 83 (.tup [.rsl (rowI rv.1) 0 rv.1.length, .rsl (rowI rv.2) 0 rv.2.length]) E)
    (h : ((i ≥ 0 → (0 ≤ i ∧ (∃ se : Stg, m.s.stages[Int.toNat i]? = some se ∧ ((se.kind = 4 → ((se.prize ≥ 0 → (0 ≤ i ∧ (∃ e : Int, v0[Int.toNat i]? = some e ∧ ((-9223372036854775808 ≤ i - 1 ∧ i - 1 ≤ 9223372036854775807) ∧ f83oG0 E m kd pa oa (v0.set (Int.toNat i) (onlyI kd se.prize)) v1 (i - 1))))) ∧ (¬ (se.prize ≥ 0) → ((-9223372036854775808 ≤ i - 1 ∧ i - 1 ≤ 9223372036854775807) ∧ f83oG0 E m kd pa oa v0 v1 (i - 1))))) ∧ (¬ (se.kind = 4) → f83oG1 E m kd pa oa i se.turns se.turns.length v0 v1 se.kind se.prize se.turns 0 ([])))))) ∧ (¬ (i ≥ 0) → rv = (v0, v1)))) : f83oG0 E m kd pa oa v0 v1 i := by
  intro g0 g1
  rcases Bool.eq_false_or_eq_true (decide (i ≥ 0)) with hc0 | hc0
  · have h := h.1 (of_decide_eq_true hc0)
    obtain ⟨h2, h⟩ := h
    obtain ⟨se, h1, h⟩ := h
    rcases Bool.eq_false_or_eq_true (se.kind == 4) with hc1 | hc1
    · have h := h.1 (eq_of_beq hc1)
      rcases Bool.eq_false_or_eq_true (decide (se.prize ≥ 0)) with hc2 | hc2
      · have h := h.1 (of_decide_eq_true hc2)
        obtain ⟨h4, h⟩ := h
        obtain ⟨e, h3, h⟩ := h
        obtain ⟨q13_3, h⟩ := h
        refine p83o_0_0 m kd pa oa v0 v1 i g0 g1 se e hE hc0 (idx_ok' h2 h1) (row_part cStg (s := 3) (k := 0) (m := 3) (fun _ => rfl) (by decide) h1) hc1 hc2 (pureF_of Try.func113 (by kernel_rfl) f113b (only_ok se.prize kd)) (idx_ok' h4 h3) (row_fits cI (s := 1) (k := 0) (m := 1) (fun _ => rfl) (by decide) h3) q13_3 ?_
        have h := (h g0 g1)
        simp only [f83oS0, List.length_set] at h
        rw [(show setAt (rowI v0) (0 + (Int.toNat i) * 1) [.int .i64 (onlyI kd se.prize)] = rowI (v0.set (Int.toNat i) (onlyI kd se.prize)) from row_set cI (s := 1) (k := 0) (fun _ => rfl) h3 rfl (by first | decide | simp))]
        exact h
      · have h := h.2 (of_decide_eq_false hc2)
        obtain ⟨q7_3, h⟩ := h
        exact p83o_0_1 m kd pa oa v0 v1 i g0 g1 se hE hc0 (idx_ok' h2 h1) (row_part cStg (s := 3) (k := 0) (m := 3) (fun _ => rfl) (by decide) h1) hc1 hc2 q7_3 (h g0 g1)
    · have h := h.2 (ne_of_beq_false hc1)
      exact p83o_0_2 m kd pa oa v0 v1 i g0 g1 se hE hc0 (idx_ok' h2 h1) (row_part cStg (s := 3) (k := 0) (m := 3) (fun _ => rfl) (by decide) h1) hc1 (h g0 g1 0)
  · have h := h.2 (of_decide_eq_false hc0)
    exact p83o_0_3 m kd pa oa v0 v1 i g0 g1  hE hc0 (AvLe.of_eq (by rw [h]; try rfl))
theorem p83o_1_0  (m : Mch) (kd pa oa : Int) (i : Int) (k : (List Trn)) (k1 : Nat) (v0 : List Int) (v1 : List Int) (v2_0 : Int) (v2_1 : Int) (v2_2 : (List Trn)) (k11 : Nat) (v3 : List Int) (g0 : Nat) (g1 : Nat) (g3 : Nat) (te : Trn) (e : Int) (e1 : Int) (e2 : Int)  {E : Env} {rv : AV} (hE : PureE Try.prog 83 rv E) (o0 : (decide ((k11 : Int) < (k1 : Int))) = true) (o2 : 0 ≤ (k11 : Int) ∧ (k11 : Int) < (k.length : Int)) (o3 : ((rowTrn k).drop (0 + (Int.toNat (k11 : Int)) * 2)).take 2 = [.int .i64 te.w, .int .i64 te.to]) (o6 : 0 ≤ te.to ∧ te.to < (v0.length : Int)) (o9 : ((rowI v0).drop (0 + (Int.toNat te.to) * 1)).take 1 = [.int .i64 e]) (o11 : 0 ≤ i ∧ i < (m.mult.length : Int)) (o12 : ((rowI m.mult).drop (0 + (Int.toNat i) * 1)).take 1 = [.int .i64 e1]) (o14 : 0 ≤ te.to ∧ te.to < (m.meas.length : Int)) (o15 : ((rowI m.meas).drop (0 + (Int.toNat te.to) * 1)).take 1 = [.int .i64 e2]) (o16 : InR .i64 (Int.tdiv e1 e2)) (o17 : e2 ≠ 0) (o18 : InR .i64 (e * (Int.tdiv e1 e2))) (o20 : (0 + (v3.length * 1)) = (rowI v3).length) (o21 : (v3.length + 1) ≤ 2147483648) (o23 : InR .i64 ((k11 : Int) + 1))
    (hg : G Try.prog E (f83oK1 Try.prog) ⟨[.rptr [.rsl (rowStg m.s.stages) 0 m.s.stages.length, .rsl (rowI m.s.worth) 0 m.s.worth.length, .int .i64 m.s.price, .rsl (rowI m.meas) 0 m.meas.length, .rsl (rowI m.mult) 0 m.mult.length] 0, .clos 113 [] [.rptr [.int .i64 kd] 0], .clos 114 [] [.rptr [.int .i64 pa] 0, .rptr [.rptr [.rsl (rowStg m.s.stages) 0 m.s.stages.length, .rsl (rowI m.s.worth) 0 m.s.worth.length, .int .i64 m.s.price, .rsl (rowI m.meas) 0 m.meas.length, .rsl (rowI m.mult) 0 m.mult.length] 0] 0, .rptr [.int .i64 oa] 0], .junk, .junk, .junk, .sl 0 g0 0 v0.length 1, .sl 1 g1 0 v1.length 1, .int .i64 i, .ptr 2 0 0, .sl 3 (g3 + 1) 0 (v3.length + 1) 1, .junk, .junk, .junk, .junk, .junk, .junk, .junk, .junk, .junk, .junk, .junk, .junk, .junk, .junk, .junk, .junk, .junk, .junk, .junk, .junk, .junk, .junk, .junk, .junk, .junk, .junk, .junk, .junk, .junk, .junk, .junk, .junk, .junk, .junk, .junk, .junk, .junk, .junk, .junk, .junk, .junk, .junk, .junk, .junk, .junk, .junk, .junk, .junk, .junk, .junk, .junk, .rsl (rowTrn k) 0 k.length, .int .i64 (k1 : Int), .int .i64 ((k11 : Int) + 1), .junk, .junk, .junk, .junk, .junk, .junk, .junk, .junk, .junk, .junk, .junk, .junk, .junk, .junk, .junk, .junk, .junk, .junk, .junk, .junk, .junk, .junk, .junk, .junk, .junk, .junk, .junk, .junk, .junk, .junk, .junk, .junk, .junk, .junk, .junk, .junk, .junk, .junk, .junk, .junk, .junk, .junk, .junk, .junk, .junk, .junk, .junk, .junk, .junk, .junk, .junk, .junk, .junk, .junk, .junk, .junk, .junk, .junk, .junk, .junk, .junk, .junk, .junk, .junk, .junk, .junk, .junk, .junk, .junk, .junk, .junk, .junk, .junk], [⟨true, g0, 1, true, (rowI v0), true⟩, ⟨true, g1, 1, true, (rowI v1), true⟩, ⟨true, 0, 1, true, [.int .i64 v2_0, .int .i64 v2_1, .rsl (rowTrn v2_2) 0 v2_2.length], false⟩, ⟨true, (g3 + 1), 1, true, ((rowI v3) ++ [.int .i64 (e * (Int.tdiv e1 e2))]), true⟩]⟩) : G Try.prog E (f83oK1 Try.prog) (f83oS1 m kd pa oa i k k1 v0 v1 v2_0 v2_1 v2_2 k11 v3 g0 g1 g3) :=
  segC_step (n := 400) (ds := []) (cs := []) (live := [0, 1, 2, 6, 7, 8, 9, 10, 62, 63, 64]) (m := 4) (evs := [.b true, .ld (.agg [.int .i64 te.w, .int .i64 te.to]), .auto, .ld (.int .i64 e), .auto, .ld (.int .i64 e1), .auto, .auto, .ld (.int .i64 e2), .stop]) (obs := [(decide ((k11 : Int) < (k1 : Int))) = true, 0 ≤ (k11 : Int) ∧ (k11 : Int) < (k.length : Int), ((rowTrn k).drop (0 + (Int.toNat (k11 : Int)) * 2)).take 2 = [.int .i64 te.w, .int .i64 te.to], 2 ≤ 2, 0 ≤ te.to ∧ te.to < (v0.length : Int), g0 = g0, g0 = g0, ((rowI v0).drop (0 + (Int.toNat te.to) * 1)).take 1 = [.int .i64 e], 0 ≤ i ∧ i < (m.mult.length : Int), ((rowI m.mult).drop (0 + (Int.toNat i) * 1)).take 1 = [.int .i64 e1], 0 ≤ te.to ∧ te.to < (m.meas.length : Int), ((rowI m.meas).drop (0 + (Int.toNat te.to) * 1)).take 1 = [.int .i64 e2], InR .i64 (Int.tdiv e1 e2), e2 ≠ 0, InR .i64 (e * (Int.tdiv e1 e2)), g3 = g3, (0 + (v3.length * 1)) = (rowI v3).length, (v3.length + 1) ≤ 2147483648, 0 = 0, InR .i64 ((k11 : Int) + 1)]) hE.2.1 (hE.nogh _) mixed (by kernel_rfl) ⟨o0, o2, o3, (by decide), o6, (rfl), (rfl), o9, o11, o12, o14, o15, o16, o17, o18, (rfl), o20, o21, (rfl), o23, trivial⟩ hg
theorem p83o_1_1  (m : Mch) (kd pa oa : Int) (i : Int) (k : (List Trn)) (k1 : Nat) (v0 : List Int) (v1 : List Int) (v2_0 : Int) (v2_1 : Int) (v2_2 : (List Trn)) (k11 : Nat) (v3 : List Int) (g0 : Nat) (g1 : Nat) (g3 : Nat)  {E : Env} {rv : AV} (hE : PureE Try.prog 83 rv E) (o0 : (decide ((k11 : Int) < (k1 : Int))) = false) (o1 : (v2_0 == 1) = true)
    (hg : G Try.prog E (f83oK2 Try.prog) ⟨[.rptr [.rsl (rowStg m.s.stages) 0 m.s.stages.length, .rsl (rowI m.s.worth) 0 m.s.worth.length, .int .i64 m.s.price, .rsl (rowI m.meas) 0 m.meas.length, .rsl (rowI m.mult) 0 m.mult.length] 0, .clos 113 [] [.rptr [.int .i64 kd] 0], .clos 114 [] [.rptr [.int .i64 pa] 0, .rptr [.rptr [.rsl (rowStg m.s.stages) 0 m.s.stages.length, .rsl (rowI m.s.worth) 0 m.s.worth.length, .int .i64 m.s.price, .rsl (rowI m.meas) 0 m.meas.length, .rsl (rowI m.mult) 0 m.mult.length] 0] 0, .rptr [.int .i64 oa] 0], .junk, .junk, .junk, .sl 0 g0 0 v0.length 1, .sl 1 g1 0 v1.length 1, .int .i64 i, .junk, .sl 3 g3 0 v3.length 1, .junk, .junk, .junk, .junk, .junk, .junk, .junk, .junk, .junk, .junk, .junk, .junk, .junk, .junk, .junk, .junk, .junk, .junk, .junk, .junk, .junk, .junk, .junk, .junk, .junk, .junk, .junk, .junk, .junk, .junk, .junk, .junk, .junk, .junk, .junk, .junk, .junk, .junk, .junk, .junk, .junk, .junk, .junk, .junk, .junk, .junk, .junk, .junk, .junk, .junk, .junk, .junk, .junk, .junk, .junk, .junk, .junk, .junk, .junk, .junk, .junk, .junk, .junk, .junk, .junk, .junk, .junk, .junk, .junk, .junk, .junk, .junk, .junk, .junk, .junk, .junk, .junk, .junk, .junk, .junk, .junk, .junk, .junk, .junk, .junk, .junk, .junk, .rsl (rowTrn v2_2) 0 v2_2.length, .int .i64 (v2_2.length : Int), .int .i64 0, .junk, .junk, .junk, .junk, .junk, .junk, .junk, .junk, .junk, .junk, .junk, .junk, .junk, .junk, .junk, .junk, .junk, .junk, .junk, .junk, .junk, .junk, .junk, .junk, .junk, .junk, .junk, .junk, .junk, .junk, .junk, .junk, .junk, .junk, .junk, .junk, .junk], [⟨true, g0, 1, true, (rowI v0), true⟩, ⟨true, g1, 1, true, (rowI v1), true⟩, ⟨true, 0, 1, true, [.int .i64 v2_0, .int .i64 v2_1, .rsl (rowTrn v2_2) 0 v2_2.length], false⟩, ⟨true, g3, 1, true, (rowI v3), true⟩]⟩) : G Try.prog E (f83oK1 Try.prog) (f83oS1 m kd pa oa i k k1 v0 v1 v2_0 v2_1 v2_2 k11 v3 g0 g1 g3) :=
  segC_step (n := 400) (ds := []) (cs := []) (live := [0, 1, 2, 6, 7, 8, 10, 98, 99, 100]) (m := 4) (evs := [.b false, .b true, .stop]) (obs := [(decide ((k11 : Int) < (k1 : Int))) = false, (v2_0 == 1) = true]) hE.2.1 (hE.nogh _) mixed (by kernel_rfl) ⟨o0, o1, trivial⟩ hg
theorem p83o_1_2  (m : Mch) (kd pa oa : Int) (i : Int) (k : (List Trn)) (k1 : Nat) (v0 : List Int) (v1 : List Int) (v2_0 : Int) (v2_1 : Int) (v2_2 : (List Trn)) (k11 : Nat) (v3 : List Int) (g0 : Nat) (g1 : Nat) (g3 : Nat) (e : Int) (e1 : Int) (e2 : Int) (e3 : Int)  {E : Env} {rv : AV} (hE : PureE Try.prog 83 rv E) (o0 : (decide ((k11 : Int) < (k1 : Int))) = false) (o1 : (v2_0 == 1) = false) (o2 : PureF Try.prog (.clos 114 [] [.rptr [.int .i64 pa] 0, .rptr [.rptr [.rsl (rowStg m.s.stages) 0 m.s.stages.length, .rsl (rowI m.s.worth) 0 m.s.worth.length, .int .i64 m.s.price, .rsl (rowI m.meas) 0 m.meas.length, .rsl (rowI m.mult) 0 m.mult.length] 0] 0, .rptr [.int .i64 oa] 0]) [.int .i64 i, .rsl (rowI v3) 0 v3.length] (.int .i64 (chooseI m pa oa i v3))) (o5 : 0 ≤ i ∧ i < (v1.length : Int)) (o7 : ((0 + (Int.toNat i) * 1) + 1) ≤ (rowI v1).length) (o10 : 0 ≤ i ∧ i < (v1.length : Int)) (o13 : ((setAt (rowI v1) (0 + (Int.toNat i) * 1) [.int .i64 (chooseI m pa oa i v3)]).drop (0 + (Int.toNat i) * 1)).take 1 = [.int .i64 e1]) (o15 : 0 ≤ e1 ∧ e1 < (v3.length : Int)) (o18 : ((rowI v3).drop (0 + (Int.toNat e1) * 1)).take 1 = [.int .i64 e2]) (o20 : 0 ≤ i ∧ i < (v0.length : Int)) (o22 : ((0 + (Int.toNat i) * 1) + 1) ≤ (rowI v0).length) (o24 : InR .i64 (i - 1))
    (hg : G Try.prog E (f83oK0 Try.prog) ⟨[.rptr [.rsl (rowStg m.s.stages) 0 m.s.stages.length, .rsl (rowI m.s.worth) 0 m.s.worth.length, .int .i64 m.s.price, .rsl (rowI m.meas) 0 m.meas.length, .rsl (rowI m.mult) 0 m.mult.length] 0, .clos 113 [] [.rptr [.int .i64 kd] 0], .clos 114 [] [.rptr [.int .i64 pa] 0, .rptr [.rptr [.rsl (rowStg m.s.stages) 0 m.s.stages.length, .rsl (rowI m.s.worth) 0 m.s.worth.length, .int .i64 m.s.price, .rsl (rowI m.meas) 0 m.meas.length, .rsl (rowI m.mult) 0 m.mult.length] 0] 0, .rptr [.int .i64 oa] 0], .junk, .junk, .junk, .sl 0 g0 0 v0.length 1, .sl 1 g1 0 v1.length 1, .int .i64 (i - 1), .junk, .junk, .junk, .junk, .junk, .junk, .junk, .junk, .junk, .junk, .junk, .junk, .junk, .junk, .junk, .junk, .junk, .junk, .junk, .junk, .junk, .junk, .junk, .junk, .junk, .junk, .junk, .junk, .junk, .junk, .junk, .junk, .junk, .junk, .junk, .junk, .junk, .junk, .junk, .junk, .junk, .junk, .junk, .junk, .junk, .junk, .junk, .junk, .junk, .junk, .junk, .junk, .junk, .junk, .junk, .junk, .junk, .junk, .junk, .junk, .junk, .junk, .junk, .junk, .junk, .junk, .junk, .junk, .junk, .junk, .junk, .junk, .junk, .junk, .junk, .junk, .junk, .junk, .junk, .junk, .junk, .junk, .junk, .junk, .junk, .junk, .junk, .junk, .junk, .junk, .junk, .junk, .junk, .junk, .junk, .junk, .junk, .junk, .junk, .junk, .junk, .junk, .junk, .junk, .junk, .junk, .junk, .junk, .junk, .junk, .junk, .junk, .junk, .junk, .junk, .junk, .junk, .junk, .junk, .junk, .junk, .junk, .junk, .junk, .junk, .junk, .junk, .junk, .junk], [⟨true, g0, 1, true, (setAt (rowI v0) (0 + (Int.toNat i) * 1) [.int .i64 e2]), true⟩, ⟨true, g1, 1, true, (setAt (rowI v1) (0 + (Int.toNat i) * 1) [.int .i64 (chooseI m pa oa i v3)]), true⟩]⟩) : G Try.prog E (f83oK1 Try.prog) (f83oS1 m kd pa oa i k k1 v0 v1 v2_0 v2_1 v2_2 k11 v3 g0 g1 g3) :=
  segC_step (n := 400) (ds := []) (cs := []) (live := [0, 1, 2, 6, 7, 8]) (m := 2) (evs := [.b false, .b false, .v (.int .i64 (chooseI m pa oa i v3)), .ld (.int .i64 e1), .ld (.int .i64 e2), .stop]) (obs := [(decide ((k11 : Int) < (k1 : Int))) = false, (v2_0 == 1) = false, PureF Try.prog (.clos 114 [] [.rptr [.int .i64 pa] 0, .rptr [.rptr [.rsl (rowStg m.s.stages) 0 m.s.stages.length, .rsl (rowI m.s.worth) 0 m.s.worth.length, .int .i64 m.s.price, .rsl (rowI m.meas) 0 m.meas.length, .rsl (rowI m.mult) 0 m.mult.length] 0] 0, .rptr [.int .i64 oa] 0]) [.int .i64 i, .rsl (rowI v3) 0 v3.length] (.int .i64 (chooseI m pa oa i v3)), g3 = g3, 0 ≤ i ∧ i < (v1.length : Int), g1 = g1, ((0 + (Int.toNat i) * 1) + 1) ≤ (rowI v1).length, g1 = g1, 0 ≤ i ∧ i < (v1.length : Int), g1 = g1, g1 = g1, ((setAt (rowI v1) (0 + (Int.toNat i) * 1) [.int .i64 (chooseI m pa oa i v3)]).drop (0 + (Int.toNat i) * 1)).take 1 = [.int .i64 e1], 0 ≤ e1 ∧ e1 < (v3.length : Int), g3 = g3, g3 = g3, ((rowI v3).drop (0 + (Int.toNat e1) * 1)).take 1 = [.int .i64 e2], 0 ≤ i ∧ i < (v0.length : Int), g0 = g0, ((0 + (Int.toNat i) * 1) + 1) ≤ (rowI v0).length, g0 = g0, InR .i64 (i - 1)]) hE.2.1 (hE.nogh _) mixed (by kernel_rfl) ⟨o0, o1, o2, (rfl), o5, (rfl), o7, (rfl), o10, (rfl), (rfl), o13, o15, (rfl), (rfl), o18, o20, (rfl), o22, (rfl), o24, trivial⟩ hg
theorem f83oW1  (m : Mch) (kd pa oa : Int) (i : Int) (k : (List Trn)) (k1 : Nat) (v0 : List Int) (v1 : List Int) (v2_0 : Int) (v2_1 : Int) (v2_2 : (List Trn)) (k11 : Nat) (v3 : List Int) {E : Env} {rv : ((List Int) × (List Int))} (hE : PureE Try.prog 83 (.tup [.rsl (rowI rv.1) 0 rv.1.length, .rsl (rowI rv.2) 0 rv.2.length]) E)
    (h : (((k11 : Int) < (k1 : Int) → (∃ te : Trn, k[k11]? = some te ∧ (0 ≤ te.to ∧ (∃ e : Int, v0[Int.toNat te.to]? = some e ∧ (0 ≤ i ∧ (∃ e1 : Int, m.mult[Int.toNat i]? = some e1 ∧ (0 ≤ te.to ∧ (∃ e2 : Int, m.meas[Int.toNat te.to]? = some e2 ∧ ((-9223372036854775808 ≤ Int.tdiv e1 e2 ∧ Int.tdiv e1 e2 ≤ 9223372036854775807) ∧ (e2 ≠ 0 ∧ ((-9223372036854775808 ≤ e * (Int.tdiv e1 e2) ∧ e * (Int.tdiv e1 e2) ≤ 9223372036854775807) ∧ ((v3.length + 1) ≤ 2147483648 ∧ ((-9223372036854775808 ≤ (k11 : Int) + 1 ∧ (k11 : Int) + 1 ≤ 9223372036854775807) ∧ f83oG1 E m kd pa oa i k k1 v0 v1 v2_0 v2_1 v2_2 (k11 + 1) (v3 ++ [(e * (Int.tdiv e1 e2))])))))))))))))) ∧ (¬ ((k11 : Int) < (k1 : Int)) → ((v2_0 = 1 → f83oG2 E m kd pa oa i v2_2 v2_2.length v0 v1 v2_0 v2_1 v2_2 v3 0) ∧ (¬ (v2_0 = 1) → (((0 ≤ i ∧ Int.toNat i < m.s.stages.length) ∧ 0 < v3.length ∧ v3.length ≤ 1000000) ∧ (0 ≤ i ∧ (∃ e : Int, v1[Int.toNat i]? = some e ∧ (0 ≤ i ∧ (∃ e1 : Int, (v1.set (Int.toNat i) (chooseI m pa oa i v3))[Int.toNat i]? = some e1 ∧ (0 ≤ e1 ∧ (∃ e2 : Int, v3[Int.toNat e1]? = some e2 ∧ (0 ≤ i ∧ (∃ e3 : Int, v0[Int.toNat i]? = some e3 ∧ ((-9223372036854775808 ≤ i - 1 ∧ i - 1 ≤ 9223372036854775807) ∧ f83oG0 E m kd pa oa (v0.set (Int.toNat i) e2) (v1.set (Int.toNat i) (chooseI m pa oa i v3)) (i - 1)))))))))))))))) : f83oG1 E m kd pa oa i k k1 v0 v1 v2_0 v2_1 v2_2 k11 v3 := by
  intro g0 g1 g3
  rcases Bool.eq_false_or_eq_true (decide ((k11 : Int) < (k1 : Int))) with hc0 | hc0
  · have h := h.1 (of_decide_eq_true hc0)
    obtain ⟨te, h1, h⟩ := h
    obtain ⟨h3, h⟩ := h
    obtain ⟨e, h2, h⟩ := h
    obtain ⟨h5, h⟩ := h
    obtain ⟨e1, h4, h⟩ := h
    obtain ⟨h7, h⟩ := h
    obtain ⟨e2, h6, h⟩ := h
    obtain ⟨q16_1, h⟩ := h
    obtain ⟨q17_1, h⟩ := h
    obtain ⟨q18_1, h⟩ := h
    obtain ⟨h8, h⟩ := h
    obtain ⟨q23_1, h⟩ := h
    refine p83o_1_0 m kd pa oa i k k1 v0 v1 v2_0 v2_1 v2_2 k11 v3 g0 g1 g3 te e e1 e2 hE hc0 (idx_ok h1) (row_part cTrn (s := 2) (k := 0) (m := 2) (fun _ => rfl) (by decide) h1) (idx_ok' h3 h2) (row_part cI (s := 1) (k := 0) (m := 1) (fun _ => rfl) (by decide) h2) (idx_ok' h5 h4) (row_part cI (s := 1) (k := 0) (m := 1) (fun _ => rfl) (by decide) h4) (idx_ok' h7 h6) (row_part cI (s := 1) (k := 0) (m := 1) (fun _ => rfl) (by decide) h6) q16_1 q17_1 q18_1 (by have hx := row_len cI (s := 1) (fun _ => rfl) v3; simp only [rowI] at hx ⊢; rw [hx]; simp) h8 q23_1 ?_
    rw [(show rowI v3 ++ [.int .i64 (e * (Int.tdiv e1 e2))] = rowI (v3 ++ [(e * (Int.tdiv e1 e2))]) from (row_app cI v3 [(e * (Int.tdiv e1 e2))]).symm)]; rw [(show (v3.length + 1) = (v3 ++ [(e * (Int.tdiv e1 e2))]).length from by simp)]; exact (h g0 g1 (g3 + 1))
  · have h := h.2 (of_decide_eq_false hc0)
    rcases Bool.eq_false_or_eq_true (v2_0 == 1) with hc1 | hc1
    · have h := h.1 (eq_of_beq hc1)
      exact p83o_1_1 m kd pa oa i k k1 v0 v1 v2_0 v2_1 v2_2 k11 v3 g0 g1 g3  hE hc0 hc1 (h g0 g1 g3)
    · have h := h.2 (ne_of_beq_false hc1)
      obtain ⟨h1, h⟩ := h
      obtain ⟨h3, h⟩ := h
      obtain ⟨e, h2, h⟩ := h
      obtain ⟨h5, h⟩ := h
      obtain ⟨e1, h4, h⟩ := h
      obtain ⟨h7, h⟩ := h
      obtain ⟨e2, h6, h⟩ := h
      obtain ⟨h9, h⟩ := h
      obtain ⟨e3, h8, h⟩ := h
      obtain ⟨q24_2, h⟩ := h
      refine p83o_1_2 m kd pa oa i k k1 v0 v1 v2_0 v2_1 v2_2 k11 v3 g0 g1 g3 e e1 e2 e3 hE hc0 hc1 (pureF_of Try.func114 (by kernel_rfl) f114b (choose_ok i v3 m pa oa h1)) (idx_ok' h3 h2) (row_fits cI (s := 1) (k := 0) (m := 1) (fun _ => rfl) (by decide) h2) (by have hx := idx_ok' h5 h4; simpa using hx) (by rw [(show setAt (rowI v1) (0 + (Int.toNat i) * 1) [.int .i64 (chooseI m pa oa i v3)] = rowI (v1.set (Int.toNat i) (chooseI m pa oa i v3)) from row_set cI (s := 1) (k := 0) (fun _ => rfl) h2 rfl (by first | decide | simp))]; exact row_part cI (s := 1) (k := 0) (m := 1) (fun _ => rfl) (by decide) h4) (idx_ok' h7 h6) (row_part cI (s := 1) (k := 0) (m := 1) (fun _ => rfl) (by decide) h6) (idx_ok' h9 h8) (row_fits cI (s := 1) (k := 0) (m := 1) (fun _ => rfl) (by decide) h8) q24_2 ?_
      have h := (h g0 g1)
      simp only [f83oS0, List.length_set] at h
      rw [(show setAt (rowI v0) (0 + (Int.toNat i) * 1) [.int .i64 e2] = rowI (v0.set (Int.toNat i) e2) from row_set cI (s := 1) (k := 0) (fun _ => rfl) h8 rfl (by first | decide | simp))]; rw [(show setAt (rowI v1) (0 + (Int.toNat i) * 1) [.int .i64 (chooseI m pa oa i v3)] = rowI (v1.set (Int.toNat i) (chooseI m pa oa i v3)) from row_set cI (s := 1) (k := 0) (fun _ => rfl) h2 rfl (by first | decide | simp))]
      exact h
theorem p83o_2_0  (m : Mch) (kd pa oa : Int) (i : Int) (j : (List Trn)) (j1 : Nat) (v0 : List Int) (v1 : List Int) (v2_0 : Int) (v2_1 : Int) (v2_2 : (List Trn)) (v3 : List Int) (j11 : Nat) (g0 : Nat) (g1 : Nat) (g3 : Nat) (te : Trn) (e : Int) (e1 : Int)  {E : Env} {rv : AV} (hE : PureE Try.prog 83 rv E) (o0 : (decide ((j11 : Int) < (j1 : Int))) = true) (o2 : 0 ≤ (j11 : Int) ∧ (j11 : Int) < (j.length : Int)) (o3 : ((rowTrn j).drop (0 + (Int.toNat (j11 : Int)) * 2)).take 2 = [.int .i64 te.w, .int .i64 te.to]) (o6 : 0 ≤ i ∧ i < (v0.length : Int)) (o9 : ((rowI v0).drop (0 + (Int.toNat i) * 1)).take 1 = [.int .i64 e]) (o11 : 0 ≤ (j11 : Int) ∧ (j11 : Int) < (v3.length : Int)) (o14 : ((rowI v3).drop (0 + (Int.toNat (j11 : Int)) * 1)).take 1 = [.int .i64 e1]) (o15 : InR .i64 (te.w * e1)) (o16 : InR .i64 (e + (te.w * e1))) (o17 : 0 ≤ i ∧ i < (v0.length : Int)) (o19 : ((0 + (Int.toNat i) * 1) + 1) ≤ (rowI v0).length) (o21 : InR .i64 ((j11 : Int) + 1))
    (hg : G Try.prog E (f83oK2 Try.prog) ⟨[.rptr [.rsl (rowStg m.s.stages) 0 m.s.stages.length, .rsl (rowI m.s.worth) 0 m.s.worth.length, .int .i64 m.s.price, .rsl (rowI m.meas) 0 m.meas.length, .rsl (rowI m.mult) 0 m.mult.length] 0, .clos 113 [] [.rptr [.int .i64 kd] 0], .clos 114 [] [.rptr [.int .i64 pa] 0, .rptr [.rptr [.rsl (rowStg m.s.stages) 0 m.s.stages.length, .rsl (rowI m.s.worth) 0 m.s.worth.length, .int .i64 m.s.price, .rsl (rowI m.meas) 0 m.meas.length, .rsl (rowI m.mult) 0 m.mult.length] 0] 0, .rptr [.int .i64 oa] 0], .junk, .junk, .junk, .sl 0 g0 0 v0.length 1, .sl 1 g1 0 v1.length 1, .int .i64 i, .junk, .sl 3 g3 0 v3.length 1, .junk, .junk, .junk, .junk, .junk, .junk, .junk, .junk, .junk, .junk, .junk, .junk, .junk, .junk, .junk, .junk, .junk, .junk, .junk, .junk, .junk, .junk, .junk, .junk, .junk, .junk, .junk, .junk, .junk, .junk, .junk, .junk, .junk, .junk, .junk, .junk, .junk, .junk, .junk, .junk, .junk, .junk, .junk, .junk, .junk, .junk, .junk, .junk, .junk, .junk, .junk, .junk, .junk, .junk, .junk, .junk, .junk, .junk, .junk, .junk, .junk, .junk, .junk, .junk, .junk, .junk, .junk, .junk, .junk, .junk, .junk, .junk, .junk, .junk, .junk, .junk, .junk, .junk, .junk, .junk, .junk, .junk, .junk, .junk, .junk, .junk, .junk, .rsl (rowTrn j) 0 j.length, .int .i64 (j1 : Int), .int .i64 ((j11 : Int) + 1), .junk, .junk, .junk, .junk, .junk, .junk, .junk, .junk, .junk, .junk, .junk, .junk, .junk, .junk, .junk, .junk, .junk, .junk, .junk, .junk, .junk, .junk, .junk, .junk, .junk, .junk, .junk, .junk, .junk, .junk, .junk, .junk, .junk, .junk, .junk, .junk, .junk], [⟨true, g0, 1, true, (setAt (rowI v0) (0 + (Int.toNat i) * 1) [.int .i64 (e + (te.w * e1))]), true⟩, ⟨true, g1, 1, true, (rowI v1), true⟩, ⟨true, 0, 1, true, [.int .i64 v2_0, .int .i64 v2_1, .rsl (rowTrn v2_2) 0 v2_2.length], false⟩, ⟨true, g3, 1, true, (rowI v3), true⟩]⟩) : G Try.prog E (f83oK2 Try.prog) (f83oS2 m kd pa oa i j j1 v0 v1 v2_0 v2_1 v2_2 v3 j11 g0 g1 g3) :=
  segC_step (n := 400) (ds := []) (cs := []) (live := [0, 1, 2, 6, 7, 8, 10, 98, 99, 100]) (m := 4) (evs := [.b true, .ld (.agg [.int .i64 te.w, .int .i64 te.to]), .ld (.int .i64 e), .auto, .ld (.int .i64 e1), .stop]) (obs := [(decide ((j11 : Int) < (j1 : Int))) = true, 0 ≤ (j11 : Int) ∧ (j11 : Int) < (j.length : Int), ((rowTrn j).drop (0 + (Int.toNat (j11 : Int)) * 2)).take 2 = [.int .i64 te.w, .int .i64 te.to], 2 ≤ 2, 0 ≤ i ∧ i < (v0.length : Int), g0 = g0, g0 = g0, ((rowI v0).drop (0 + (Int.toNat i) * 1)).take 1 = [.int .i64 e], 0 ≤ (j11 : Int) ∧ (j11 : Int) < (v3.length : Int), g3 = g3, g3 = g3, ((rowI v3).drop (0 + (Int.toNat (j11 : Int)) * 1)).take 1 = [.int .i64 e1], InR .i64 (te.w * e1), InR .i64 (e + (te.w * e1)), 0 ≤ i ∧ i < (v0.length : Int), g0 = g0, ((0 + (Int.toNat i) * 1) + 1) ≤ (rowI v0).length, g0 = g0, InR .i64 ((j11 : Int) + 1)]) hE.2.1 (hE.nogh _) mixed (by kernel_rfl) ⟨o0, o2, o3, (by decide), o6, (rfl), (rfl), o9, o11, (rfl), (rfl), o14, o15, o16, o17, (rfl), o19, (rfl), o21, trivial⟩ hg
theorem p83o_2_1  (m : Mch) (kd pa oa : Int) (i : Int) (j : (List Trn)) (j1 : Nat) (v0 : List Int) (v1 : List Int) (v2_0 : Int) (v2_1 : Int) (v2_2 : (List Trn)) (v3 : List Int) (j11 : Nat) (g0 : Nat) (g1 : Nat) (g3 : Nat)  {E : Env} {rv : AV} (hE : PureE Try.prog 83 rv E) (o0 : (decide ((j11 : Int) < (j1 : Int))) = false) (o1 : InR .i64 (i - 1))
    (hg : G Try.prog E (f83oK0 Try.prog) ⟨[.rptr [.rsl (rowStg m.s.stages) 0 m.s.stages.length, .rsl (rowI m.s.worth) 0 m.s.worth.length, .int .i64 m.s.price, .rsl (rowI m.meas) 0 m.meas.length, .rsl (rowI m.mult) 0 m.mult.length] 0, .clos 113 [] [.rptr [.int .i64 kd] 0], .clos 114 [] [.rptr [.int .i64 pa] 0, .rptr [.rptr [.rsl (rowStg m.s.stages) 0 m.s.stages.length, .rsl (rowI m.s.worth) 0 m.s.worth.length, .int .i64 m.s.price, .rsl (rowI m.meas) 0 m.meas.length, .rsl (rowI m.mult) 0 m.mult.length] 0] 0, .rptr [.int .i64 oa] 0], .junk, .junk, .junk, .sl 0 g0 0 v0.length 1, .sl 1 g1 0 v1.length 1, .int .i64 (i - 1), .junk, .junk, .junk, .junk, .junk, .junk, .junk, .junk, .junk, .junk, .junk, .junk, .junk, .junk, .junk, .junk, .junk, .junk, .junk, .junk, .junk, .junk, .junk, .junk, .junk, .junk, .junk, .junk, .junk, .junk, .junk, .junk, .junk, .junk, .junk, .junk, .junk, .junk, .junk, .junk, .junk, .junk, .junk, .junk, .junk, .junk, .junk, .junk, .junk, .junk, .junk, .junk, .junk, .junk, .junk, .junk, .junk, .junk, .junk, .junk, .junk, .junk, .junk, .junk, .junk, .junk, .junk, .junk, .junk, .junk, .junk, .junk, .junk, .junk, .junk, .junk, .junk, .junk, .junk, .junk, .junk, .junk, .junk, .junk, .junk, .junk, .junk, .junk, .junk, .junk, .junk, .junk, .junk, .junk, .junk, .junk, .junk, .junk, .junk, .junk, .junk, .junk, .junk, .junk, .junk, .junk, .junk, .junk, .junk, .junk, .junk, .junk, .junk, .junk, .junk, .junk, .junk, .junk, .junk, .junk, .junk, .junk, .junk, .junk, .junk, .junk, .junk, .junk, .junk], [⟨true, g0, 1, true, (rowI v0), true⟩, ⟨true, g1, 1, true, (rowI v1), true⟩]⟩) : G Try.prog E (f83oK2 Try.prog) (f83oS2 m kd pa oa i j j1 v0 v1 v2_0 v2_1 v2_2 v3 j11 g0 g1 g3) :=
  segC_step (n := 400) (ds := []) (cs := []) (live := [0, 1, 2, 6, 7, 8]) (m := 2) (evs := [.b false, .stop]) (obs := [(decide ((j11 : Int) < (j1 : Int))) = false, InR .i64 (i - 1)]) hE.2.1 (hE.nogh _) mixed (by kernel_rfl) ⟨o0, o1, trivial⟩ hg
theorem f83oW2  (m : Mch) (kd pa oa : Int) (i : Int) (j : (List Trn)) (j1 : Nat) (v0 : List Int) (v1 : List Int) (v2_0 : Int) (v2_1 : Int) (v2_2 : (List Trn)) (v3 : List Int) (j11 : Nat) {E : Env} {rv : ((List Int) × (List Int))} (hE : PureE Try.prog 83 (.tup [.rsl (rowI rv.1) 0 rv.1.length, .rsl (rowI rv.2) 0 rv.2.length]) E)
    (h : (((j11 : Int) < (j1 : Int) → (∃ te : Trn, j[j11]? = some te ∧ (0 ≤ i ∧ (∃ e : Int, v0[Int.toNat i]? = some e ∧ (∃ e1 : Int, v3[j11]? = some e1 ∧ ((-9223372036854775808 ≤ te.w * e1 ∧ te.w * e1 ≤ 9223372036854775807) ∧ ((-9223372036854775808 ≤ e + (te.w * e1) ∧ e + (te.w * e1) ≤ 9223372036854775807) ∧ ((-9223372036854775808 ≤ (j11 : Int) + 1 ∧ (j11 : Int) + 1 ≤ 9223372036854775807) ∧ f83oG2 E m kd pa oa i j j1 (v0.set (Int.toNat i) (e + (te.w * e1))) v1 v2_0 v2_1 v2_2 v3 (j11 + 1))))))))) ∧ (¬ ((j11 : Int) < (j1 : Int)) → ((-9223372036854775808 ≤ i - 1 ∧ i - 1 ≤ 9223372036854775807) ∧ f83oG0 E m kd pa oa v0 v1 (i - 1))))) : f83oG2 E m kd pa oa i j j1 v0 v1 v2_0 v2_1 v2_2 v3 j11 := by
  intro g0 g1 g3
  rcases Bool.eq_false_or_eq_true (decide ((j11 : Int) < (j1 : Int))) with hc0 | hc0
  · have h := h.1 (of_decide_eq_true hc0)
    obtain ⟨te, h1, h⟩ := h
    obtain ⟨h3, h⟩ := h
    obtain ⟨e, h2, h⟩ := h
    obtain ⟨e1, h4, h⟩ := h
    obtain ⟨q15_1, h⟩ := h
    obtain ⟨q16_1, h⟩ := h
    obtain ⟨q21_1, h⟩ := h
    refine p83o_2_0 m kd pa oa i j j1 v0 v1 v2_0 v2_1 v2_2 v3 j11 g0 g1 g3 te e e1 hE hc0 (idx_ok h1) (row_part cTrn (s := 2) (k := 0) (m := 2) (fun _ => rfl) (by decide) h1) (idx_ok' h3 h2) (row_part cI (s := 1) (k := 0) (m := 1) (fun _ => rfl) (by decide) h2) (idx_ok h4) (row_part cI (s := 1) (k := 0) (m := 1) (fun _ => rfl) (by decide) h4) q15_1 q16_1 (idx_ok' h3 h2) (row_fits cI (s := 1) (k := 0) (m := 1) (fun _ => rfl) (by decide) h2) q21_1 ?_
    have h := (h g0 g1 g3)
    simp only [f83oS2, List.length_set] at h
    rw [(show setAt (rowI v0) (0 + (Int.toNat i) * 1) [.int .i64 (e + (te.w * e1))] = rowI (v0.set (Int.toNat i) (e + (te.w * e1))) from row_set cI (s := 1) (k := 0) (fun _ => rfl) h2 rfl (by first | decide | simp))]
    exact h
  · have h := h.2 (of_decide_eq_false hc0)
    obtain ⟨q1_1, h⟩ := h
    exact p83o_2_1 m kd pa oa i j j1 v0 v1 v2_0 v2_1 v2_2 v3 j11 g0 g1 g3  hE hc0 q1_1 (h g0 g1)
theorem valueo_ok (m : Mch) (kd pa oa : Int) (hm : MOk m) : Pure Try.prog 83 [.rptr (cMch m) 0, .clos 113 [] [.rptr [.int .i64 kd] 0], .clos 114 [] [.rptr [.int .i64 pa] 0, .rptr [.rptr (cMch m) 0] 0, .rptr [.int .i64 oa] 0]] (.tup [.rsl (rowI (valA m (onlyI kd) (chooseI m pa oa)).1) 0 (valA m (onlyI kd) (chooseI m pa oa)).1.length, .rsl (rowI (valA m (onlyI kd) (chooseI m pa oa)).2) 0 (valA m (onlyI kd) (chooseI m pa oa)).2.length]) := pure_of Try.func83 f83ob fun E hE => by
  have hw : WOk m (onlyI kd) (chooseI m pa oa) := wok_only
  have hform := (stPre_of hm.st).2.2.2.2
  have hn := (stPre_of hm.st).1
  have key : ∀ (n : Nat) (p : List Int × List Int), n ≤ m.s.stages.length → VOk m n p → valA m (onlyI kd) (chooseI m pa oa) = valN m (onlyI kd) (chooseI m pa oa) n p → f83oG0 E m kd pa oa p.1 p.2 ((n : Int) - 1) := by
    intro n
    induction n with
    | zero =>
      intro p hn hp ha
      exact f83oW0 m kd pa oa p.1 p.2 _ (rv := valA m (onlyI kd) (chooseI m pa oa)) hE ⟨fun h => by omega, fun _ => by rw [ha, valN]⟩
    | succ i ih =>
      intro p hn' hp ha
      have hi : m.s.stages[i]? = some m.s.stages[i] := List.getElem?_eq_getElem (by omega)
      have hx : m.s.stages.getD i ⟨0, 0, []⟩ = m.s.stages[i] := by simp [List.getD, hi]
      have en : Int.toNat (i : Int) = i := Int.toNat_natCast i
      have e0 : ((i + 1 : Nat) : Int) - 1 = (i : Int) := by omega
      have hp2 := val_step hm hw (by omega) hp
      have nx := ih (valStep m (onlyI kd) (chooseI m pa oa) i p) (by omega) hp2 (by rw [ha, valN])
      have hfo := form_of hi (hform i (by omega))
      have hto := turns_to hi (hform i (by omega))
      have htt := tot_of hi (hform i (by omega))
      have hv0 : p.1[i]? = some (p.1.getD i 0) := getD_some (by rw [hp.l1]; omega)
      have hv1 : p.2[i]? = some (p.2.getD i 0) := getD_some (by rw [hp.l2]; omega)
      obtain ⟨q, q1, q2, q3, q4⟩ := hm.inv.rel i _ (by omega) hi
      unfold valStep at nx
      rw [hx] at nx
      generalize m.s.stages[i] = x at hi hx nx hfo hto htt q2 q4
      rw [e0]
      refine f83oW0 m kd pa oa p.1 p.2 (i : Int) (rv := valA m (onlyI kd) (chooseI m pa oa)) hE ⟨fun _ => ⟨by omega, x, by rw [en]; exact hi, fun h4 => ⟨fun hpr => ⟨by omega, _, by rw [en]; exact hv0, by omega, ?_⟩, fun hpr => ⟨by omega, ?_⟩⟩, fun h4 => ?_⟩, fun h => by omega⟩
      · rw [if_pos h4, if_pos hpr] at nx
        rw [en]; exact nx
      · rw [if_pos h4, if_neg hpr] at nx
        exact nx
      rw [if_neg h4] at nx
      have hlen : 1 ≤ x.turns.length ∧ x.turns.length ≤ 8 := by
        rcases hfo with ⟨h, -⟩ | ⟨-, -, h, -⟩
        · exact absurd h h4
        · exact h
      have inner : ∀ (d k : Nat), k + d = x.turns.length → f83oG1 E m kd pa oa (i : Int) x.turns x.turns.length p.1 p.2 x.kind x.prize x.turns k (nextI m i p.1 (x.turns.take k)) := by
        intro d
        induction d with
        | zero =>
          intro k hd
          rw [List.take_of_length_le (by omega)]
          have hall := next_all hm hi hp q1
          have hl : (nextI m i p.1 x.turns).length = x.turns.length := by simp [nextI]
          have htot := fun (h1 : x.kind = 1) (u : Int) (hu : m.meas[i]? = some u) => sum_bd hm hi hp h1 hu
          have hch := fun (h1 : x.kind ≠ 1) => hw.c1 i x _ hi h4 h1 hl (by omega)
          generalize nextI m i p.1 x.turns = N at nx hall hl htot hch
          refine f83oW1 m kd pa oa (i : Int) x.turns x.turns.length p.1 p.2 x.kind x.prize x.turns k N (rv := valA m (onlyI kd) (chooseI m pa oa)) hE ⟨fun h => by omega, fun _ => ⟨fun h1 => ?_, fun h1 => ?_⟩⟩
          · rw [if_pos h1] at nx
            rw [if_pos h1] at q2
            have tb := htot h1 _ q2
            have mb := hm.inv.pos i _ (by omega) q2
            generalize q * totI x = u at q2 tb mb
            rw [hp.lo i (by omega), Int.zero_add] at nx
            have loop : ∀ (d k : Nat) (vs : List Int) (a : Int), k + d = x.turns.length → vs.length = m.s.stages.length → vs[i]? = some a → 0 ≤ a → a + sumW (x.turns.drop k) (N.drop k) = sumW x.turns N → p.1.set i (sumW x.turns N) = vs.set i (sumW x.turns N) → f83oG2 E m kd pa oa (i : Int) x.turns x.turns.length vs p.2 x.kind x.prize x.turns N k := by
              intro d
              induction d with
              | zero =>
                intro k vs a hd hvl hva ha0 hsum hset
                rw [List.drop_eq_nil_of_le (by omega), sumW, Int.add_zero] at hsum
                rw [← hsum] at hset
                rw [set_same hva] at hset
                refine f83oW2 m kd pa oa (i : Int) x.turns x.turns.length vs p.2 x.kind x.prize x.turns N k (rv := valA m (onlyI kd) (chooseI m pa oa)) hE ⟨fun h => by omega, fun _ => ⟨by omega, ?_⟩⟩
                rw [← hset, hsum]; exact nx
                all_goals simp
              | succ d ih2 =>
                intro k vs a hd hvl hva ha0 hsum hset
                have hk : x.turns[k]? = some x.turns[k] := List.getElem?_eq_getElem (by omega)
                have hN : N[k]? = some N[k] := List.getElem?_eq_getElem (by omega)
                have e1 : x.turns.drop k = x.turns[k] :: x.turns.drop (k + 1) := List.drop_eq_getElem_cons (by omega)
                have e2 : N.drop k = N[k] :: N.drop (k + 1) := List.drop_eq_getElem_cons (by omega)
                rw [e1, e2, sumW] at hsum
                have rest := sumW_bd (ts := x.turns.drop (k + 1)) (es := N.drop (k + 1)) (B := 10000 * q) (fun e he => hall e (List.mem_of_mem_drop he)) (fun t ht => (htt.1.2 t (List.mem_of_mem_drop ht)).1) (by simp [hl])
                have b1 := (htt.1.2 _ (List.mem_of_getElem? hk)).1
                have b2 := (hall _ (List.mem_of_getElem? hN)).1
                generalize x.turns[k] = te at hk hsum b1
                generalize N[k] = e at hN hsum b2
                have b3 := Int.mul_nonneg b1 b2
                refine f83oW2 m kd pa oa (i : Int) x.turns x.turns.length vs p.2 x.kind x.prize x.turns N k (rv := valA m (onlyI kd) (chooseI m pa oa)) hE ⟨fun _ => ⟨te, hk, by omega, a, by rw [en]; exact hva, e, hN, by omega, by omega, by omega, ?_⟩, fun h => by omega⟩
                rw [en]
                exact ih2 (k + 1) _ (a + te.w * e) (by omega) (by simp [hvl]) (by rw [List.getElem?_set_self (by omega)]) (by omega) (by omega) (by rw [List.set_set]; exact hset)
            exact loop x.turns.length 0 p.1 0 (by omega) hp.l1 (by rw [hv0, hp.lo i (by omega)]) (by omega) (by simp) rfl
          · rw [if_neg h1] at nx
            have hc := hch h1
            have hcN : N[Int.toNat ((chooseI m pa oa) (i : Int) N)]? = some (N.getD (Int.toNat ((chooseI m pa oa) (i : Int) N)) 0) := getD_some hc.2
            refine ⟨⟨⟨by omega, by rw [en]; omega⟩, by omega, by omega⟩, by omega, _, by rw [en]; exact hv1, by omega, (chooseI m pa oa) (i : Int) N, by rw [en, List.getElem?_set_self (by rw [hp.l2]; omega)], hc.1, _, hcN, by omega, _, by rw [en]; exact hv0, by omega, ?_⟩
            rw [en]
            exact nx
        | succ d ih2 =>
          intro k hd
          have hk : x.turns[k]? = some x.turns[k] := List.getElem?_eq_getElem (by omega)
          have nxt := next_snoc (m := m) (i := i) (v := p.1) hk
          have htm := List.mem_of_getElem? hk
          generalize x.turns[k] = te at hk nxt htm
          obtain ⟨q', u, n1, n2, n3, n4, n5, n6, n7, n8, n9⟩ := next_bd hm hi hp htm
          have ht := hto te htm
          have hvt : p.1[Int.toNat te.to]? = some (p.1.getD (Int.toNat te.to) 0) := getD_some (by rw [hp.l1]; omega)
          rw [getD_of n1, getD_of n2] at nxt
          refine f83oW1 m kd pa oa (i : Int) x.turns x.turns.length p.1 p.2 x.kind x.prize x.turns k _ (rv := valA m (onlyI kd) (chooseI m pa oa)) hE ⟨fun _ => ⟨te, hk, ht.2.2, _, hvt, by omega, q', by rw [en]; exact n1, ht.2.2, u, n2, by omega, by omega, by omega, ?_, by omega, ?_⟩, fun h => by omega⟩
          · simp [nextI]; omega
          · rw [← nxt]; exact ih2 (k + 1) (by omega)
      exact inner x.turns.length 0 (by omega)
  have e : f83oG0 E m kd pa oa (zeros m.s.stages.length) (zeros m.s.stages.length) ((m.s.stages.length : Int) - 1) := key m.s.stages.length (zeros m.s.stages.length, zeros m.s.stages.length) (Nat.le_refl _) (val_ok0 hm) rfl
  exact f83oW m kd pa oa (rv := valA m (onlyI kd) (chooseI m pa oa)) hE ⟨by omega, by omega, by omega, e⟩


end Go.Proofs.Ytfgmlaeikcfpbaa
