/- A part of the proof: several texts, one behind the other. -/
import Derived.Test.YtideokfbnegkjaaChecked
import Derived.Test.YtideokfbnegkjaaMB
set_option linter.unusedVariables false
set_option linter.unusedSimpArgs false
set_option maxRecDepth 100000
/- Force: the small functions. -/
namespace Go.Proofs.Ytideokfbnegkjaa
open Go Ax
open Go.Proofs

theorem mixed : Try.prog.follows .mixedOrders = true := by kernel_rfl

structure Pt where
  x : Int
  y : Int
  z : Int
structure Mot where
  top : Int
  ease : Int
  jerk : Int
structure Lim where
  side : Int
  low : Int
  high : Int

def within (n lo hi : Int) : Bool := decide (lo ≤ n) && decide (n ≤ hi)
def spanned (p : Pt) : Bool := within p.x (-10000) 10000 && within p.y (-10000) 10000 && within p.z (-10000) 10000
def ease (m : Mot) (fails : Bool) : Int := bif fails then m.jerk else m.ease
def arm (a b p : Pt) : Int := (b.x - a.x) * (p.y - a.y) - (b.y - a.y) * (p.x - a.x)
def armOk (a b p : Pt) : Prop := InR .i64 (b.x - a.x) ∧ InR .i64 (p.y - a.y) ∧ InR .i64 ((b.x - a.x) * (p.y - a.y)) ∧ InR .i64 (b.y - a.y) ∧ InR .i64 (p.x - a.x) ∧
  InR .i64 ((b.y - a.y) * (p.x - a.x)) ∧ InR .i64 ((b.x - a.x) * (p.y - a.y) - (b.y - a.y) * (p.x - a.x))

theorem f51b : Try.f51.body = some (bodyAt Try.prog 51) := by kernel_rfl
theorem p51_0 (n lo hi : Int)  {E : Env} {res : AV} (hE : PureE Try.prog 51 res E) (h0 : (decide (n ≥ lo)) = true)
    (hr : .bool (decide (n ≤ hi)) = res) : G Try.prog E [.code (bodyAt Try.prog 51)] ⟨[.int .i64 n, .int .i64 lo, .int .i64 hi] ++ unds (Try.f51.ntmps - 3), []⟩ :=
  end_step (n := 400) (evs := [.b true]) (obs := [(decide (n ≥ lo)) = true]) hE Try.func51 mixed (by kernel_rfl) ⟨h0, trivial⟩ hr
theorem p51_1 (n lo hi : Int)  {E : Env} {res : AV} (hE : PureE Try.prog 51 res E) (h0 : (decide (n ≥ lo)) = false)
    (hr : .bool false = res) : G Try.prog E [.code (bodyAt Try.prog 51)] ⟨[.int .i64 n, .int .i64 lo, .int .i64 hi] ++ unds (Try.f51.ntmps - 3), []⟩ :=
  end_step (n := 400) (evs := [.b false]) (obs := [(decide (n ≥ lo)) = false]) hE Try.func51 mixed (by kernel_rfl) ⟨h0, trivial⟩ hr
theorem within_ok (n lo hi : Int)  : Pure Try.prog 51 [.int .i64 n, .int .i64 lo, .int .i64 hi] (.bool (within n lo hi)) := pure_of Try.func51 f51b fun E hE => by
  rcases Bool.eq_false_or_eq_true (decide (n ≥ lo)) with hc0 | hc0
  · exact p51_0 n lo hi  hE hc0 (by simp_all [within] <;> omega)
  · exact p51_1 n lo hi  hE hc0 (by simp_all [within] <;> omega)
theorem within_F (n lo hi : Int)  : PureF Try.prog (.clos 51 [] []) [.int .i64 n, .int .i64 lo, .int .i64 hi] (.bool (within n lo hi)) := pureF_of Try.func51 (by kernel_rfl) f51b (by simpa using within_ok n lo hi )
theorem f82b : Try.f82.body = some (bodyAt Try.prog 82) := by kernel_rfl
theorem p82_0 (p : Pt)  {E : Env} {res : AV} (hE : PureE Try.prog 82 res E) (h1 : (within p.x (-10000) 10000) = true) (h3 : (within p.y (-10000) 10000) = true)
    (hr : .bool (within p.z (-10000) 10000) = res) : G Try.prog E [.code (bodyAt Try.prog 82)] ⟨[.agg [.int .i64 p.x, .int .i64 p.y, .int .i64 p.z]] ++ unds (Try.f82.ntmps - 1), []⟩ :=
  end_step (n := 400) (evs := [.v (.bool (within p.x (-10000) 10000)), .b true, .v (.bool (within p.y (-10000) 10000)), .b true, .v (.bool (within p.z (-10000) 10000))]) (obs := [PureF Try.prog (.clos 51 [] []) [.int .i64 p.x, .int .i64 (-10000), .int .i64 10000] (.bool (within p.x (-10000) 10000)), (within p.x (-10000) 10000) = true, PureF Try.prog (.clos 51 [] []) [.int .i64 p.y, .int .i64 (-10000), .int .i64 10000] (.bool (within p.y (-10000) 10000)), (within p.y (-10000) 10000) = true, PureF Try.prog (.clos 51 [] []) [.int .i64 p.z, .int .i64 (-10000), .int .i64 10000] (.bool (within p.z (-10000) 10000))]) hE Try.func82 mixed (by kernel_rfl) ⟨(within_F _ _ _), h1, (within_F _ _ _), h3, (within_F _ _ _), trivial⟩ hr
theorem p82_1 (p : Pt)  {E : Env} {res : AV} (hE : PureE Try.prog 82 res E) (h1 : (within p.x (-10000) 10000) = true) (h3 : (within p.y (-10000) 10000) = false)
    (hr : .bool false = res) : G Try.prog E [.code (bodyAt Try.prog 82)] ⟨[.agg [.int .i64 p.x, .int .i64 p.y, .int .i64 p.z]] ++ unds (Try.f82.ntmps - 1), []⟩ :=
  end_step (n := 400) (evs := [.v (.bool (within p.x (-10000) 10000)), .b true, .v (.bool (within p.y (-10000) 10000)), .b false]) (obs := [PureF Try.prog (.clos 51 [] []) [.int .i64 p.x, .int .i64 (-10000), .int .i64 10000] (.bool (within p.x (-10000) 10000)), (within p.x (-10000) 10000) = true, PureF Try.prog (.clos 51 [] []) [.int .i64 p.y, .int .i64 (-10000), .int .i64 10000] (.bool (within p.y (-10000) 10000)), (within p.y (-10000) 10000) = false]) hE Try.func82 mixed (by kernel_rfl) ⟨(within_F _ _ _), h1, (within_F _ _ _), h3, trivial⟩ hr
theorem p82_2 (p : Pt)  {E : Env} {res : AV} (hE : PureE Try.prog 82 res E) (h1 : (within p.x (-10000) 10000) = false)
    (hr : .bool false = res) : G Try.prog E [.code (bodyAt Try.prog 82)] ⟨[.agg [.int .i64 p.x, .int .i64 p.y, .int .i64 p.z]] ++ unds (Try.f82.ntmps - 1), []⟩ :=
  end_step (n := 400) (evs := [.v (.bool (within p.x (-10000) 10000)), .b false, .b false]) (obs := [PureF Try.prog (.clos 51 [] []) [.int .i64 p.x, .int .i64 (-10000), .int .i64 10000] (.bool (within p.x (-10000) 10000)), (within p.x (-10000) 10000) = false, false = false]) hE Try.func82 mixed (by kernel_rfl) ⟨(within_F _ _ _), h1, (rfl), trivial⟩ hr
theorem spanned_ok (p : Pt)  : Pure Try.prog 82 [.agg [.int .i64 p.x, .int .i64 p.y, .int .i64 p.z]] (.bool (spanned p)) := pure_of Try.func82 f82b fun E hE => by
  rcases Bool.eq_false_or_eq_true (within p.x (-10000) 10000) with hc0 | hc0
  · rcases Bool.eq_false_or_eq_true (within p.y (-10000) 10000) with hc1 | hc1
    · exact p82_0 p  hE hc0 hc1 (by simp_all [spanned])
    · exact p82_1 p  hE hc0 hc1 (by simp_all [spanned])
  · exact p82_2 p  hE hc0 (by simp_all [spanned])
theorem spanned_F (p : Pt)  : PureF Try.prog (.clos 82 [] []) [.agg [.int .i64 p.x, .int .i64 p.y, .int .i64 p.z]] (.bool (spanned p)) := pureF_of Try.func82 (by kernel_rfl) f82b (by simpa using spanned_ok p )
theorem f81b : Try.f81.body = some (bodyAt Try.prog 81) := by kernel_rfl
theorem p81_0 (p : Pt)  {E : Env} {res : AV} (hE : PureE Try.prog 81 res E) 
    (hr : .bool (!(spanned ⟨p.x, p.y, p.z⟩)) = res) : G Try.prog E [.code (bodyAt Try.prog 81)] ⟨[.agg [.int .i64 p.x, .int .i64 p.y, .int .i64 p.z]] ++ unds (Try.f81.ntmps - 1), []⟩ :=
  end_step (n := 400) (evs := [.v (.bool (spanned ⟨p.x, p.y, p.z⟩))]) (obs := [PureF Try.prog (.clos 82 [] []) [.agg [.int .i64 p.x, .int .i64 p.y, .int .i64 p.z]] (.bool (spanned ⟨p.x, p.y, p.z⟩))]) hE Try.func81 mixed (by kernel_rfl) ⟨(spanned_F _), trivial⟩ hr
theorem valid1_ok (p : Pt)  : Pure Try.prog 81 [.agg [.int .i64 p.x, .int .i64 p.y, .int .i64 p.z]] (.bool (!spanned p)) := pure_of Try.func81 f81b fun E hE => by
  exact p81_0 p  hE  (rfl)
theorem valid1_F (p : Pt)  : PureF Try.prog (.clos 81 [] []) [.agg [.int .i64 p.x, .int .i64 p.y, .int .i64 p.z]] (.bool (!spanned p)) := pureF_of Try.func81 (by kernel_rfl) f81b (by simpa using valid1_ok p )
theorem f91b : Try.f91.body = some (bodyAt Try.prog 91) := by kernel_rfl
theorem p91_0 (m : Mot) (fails : Bool)  {E : Env} {res : AV} (hE : PureE Try.prog 91 res E) (h0 : fails = true)
    (hr : .int .i64 m.jerk = res) : G Try.prog E [.code (bodyAt Try.prog 91)] ⟨[.agg [.int .i64 m.top, .int .i64 m.ease, .int .i64 m.jerk], .bool fails] ++ unds (Try.f91.ntmps - 2), []⟩ :=
  end_step (n := 400) (evs := [.b true]) (obs := [fails = true]) hE Try.func91 mixed (by kernel_rfl) ⟨h0, trivial⟩ hr
theorem p91_1 (m : Mot) (fails : Bool)  {E : Env} {res : AV} (hE : PureE Try.prog 91 res E) (h0 : fails = false)
    (hr : .int .i64 m.ease = res) : G Try.prog E [.code (bodyAt Try.prog 91)] ⟨[.agg [.int .i64 m.top, .int .i64 m.ease, .int .i64 m.jerk], .bool fails] ++ unds (Try.f91.ntmps - 2), []⟩ :=
  end_step (n := 400) (evs := [.b false]) (obs := [fails = false]) hE Try.func91 mixed (by kernel_rfl) ⟨h0, trivial⟩ hr
theorem ease_ok (m : Mot) (fails : Bool)  : Pure Try.prog 91 [.agg [.int .i64 m.top, .int .i64 m.ease, .int .i64 m.jerk], .bool fails] (.int .i64 (ease m fails)) := pure_of Try.func91 f91b fun E hE => by
  rcases Bool.eq_false_or_eq_true fails with hc0 | hc0
  · exact p91_0 m fails  hE hc0 (by simp_all [ease])
  · exact p91_1 m fails  hE hc0 (by simp_all [ease])
theorem ease_F (m : Mot) (fails : Bool)  : PureF Try.prog (.clos 91 [] []) [.agg [.int .i64 m.top, .int .i64 m.ease, .int .i64 m.jerk], .bool fails] (.int .i64 (ease m fails)) := pureF_of Try.func91 (by kernel_rfl) f91b (by simpa using ease_ok m fails )
theorem f87b : Try.f87.body = some (bodyAt Try.prog 87) := by kernel_rfl
theorem p87_0 (a b p : Pt)  {E : Env} {res : AV} (hE : PureE Try.prog 87 res E) (h0 : InR .i64 (b.x - a.x)) (h1 : InR .i64 (p.y - a.y)) (h2 : InR .i64 ((b.x - a.x) * (p.y - a.y))) (h3 : InR .i64 (b.y - a.y)) (h4 : InR .i64 (p.x - a.x)) (h5 : InR .i64 ((b.y - a.y) * (p.x - a.x))) (h6 : InR .i64 (((b.x - a.x) * (p.y - a.y)) - ((b.y - a.y) * (p.x - a.x))))
    (hr : .int .i64 (((b.x - a.x) * (p.y - a.y)) - ((b.y - a.y) * (p.x - a.x))) = res) : G Try.prog E [.code (bodyAt Try.prog 87)] ⟨[.agg [.int .i64 a.x, .int .i64 a.y, .int .i64 a.z, .int .i64 b.x, .int .i64 b.y, .int .i64 b.z], .agg [.int .i64 p.x, .int .i64 p.y, .int .i64 p.z]] ++ unds (Try.f87.ntmps - 2), []⟩ :=
  end_step (n := 400) (evs := []) (obs := [InR .i64 (b.x - a.x), InR .i64 (p.y - a.y), InR .i64 ((b.x - a.x) * (p.y - a.y)), InR .i64 (b.y - a.y), InR .i64 (p.x - a.x), InR .i64 ((b.y - a.y) * (p.x - a.x)), InR .i64 (((b.x - a.x) * (p.y - a.y)) - ((b.y - a.y) * (p.x - a.x)))]) hE Try.func87 mixed (by kernel_rfl) ⟨h0, h1, h2, h3, h4, h5, h6, trivial⟩ hr
theorem arm_ok (a b p : Pt) (hb : armOk a b p) : Pure Try.prog 87 [.agg [.int .i64 a.x, .int .i64 a.y, .int .i64 a.z, .int .i64 b.x, .int .i64 b.y, .int .i64 b.z], .agg [.int .i64 p.x, .int .i64 p.y, .int .i64 p.z]] (.int .i64 (arm a b p)) := pure_of Try.func87 f87b fun E hE => by
  exact p87_0 a b p  hE (by unfold armOk at hb; obtain ⟨h0, h1, h2, h3, h4, h5, h6⟩ := hb; assumption) (by unfold armOk at hb; obtain ⟨h0, h1, h2, h3, h4, h5, h6⟩ := hb; assumption) (by unfold armOk at hb; obtain ⟨h0, h1, h2, h3, h4, h5, h6⟩ := hb; assumption) (by unfold armOk at hb; obtain ⟨h0, h1, h2, h3, h4, h5, h6⟩ := hb; assumption) (by unfold armOk at hb; obtain ⟨h0, h1, h2, h3, h4, h5, h6⟩ := hb; assumption) (by unfold armOk at hb; obtain ⟨h0, h1, h2, h3, h4, h5, h6⟩ := hb; assumption) (by unfold armOk at hb; obtain ⟨h0, h1, h2, h3, h4, h5, h6⟩ := hb; assumption) (rfl)
theorem arm_F (a b p : Pt) (hb : armOk a b p) : PureF Try.prog (.clos 87 [] []) [.agg [.int .i64 a.x, .int .i64 a.y, .int .i64 a.z, .int .i64 b.x, .int .i64 b.y, .int .i64 b.z], .agg [.int .i64 p.x, .int .i64 p.y, .int .i64 p.z]] (.int .i64 (arm a b p)) := pureF_of Try.func87 (by kernel_rfl) f87b (by simpa using arm_ok a b p hb)
end Go.Proofs.Ytideokfbnegkjaa

/- Force: what is checked. -/
namespace Go.Proofs.Ytideokfbnegkjaa
open Go Ax
open Go.Proofs

theorem get_lt {α : Type} {l : List α} {i : Nat} {a : α} (h : l[i]? = some a) : i < l.length := (List.getElem?_eq_some_iff.1 h).1

theorem row_get {α : Type} (f : α → List AV) {s : Nat} (hf : ∀ a, (f a).length = s) : ∀ (l : List α) (i : Nat) (a : α), l[i]? = some a → ((l.flatMap f).drop (0 + i * s)).take s = f a
  | [], i, a, h => by simp at h
  | b :: l, 0, a, h => by
    simp only [List.getElem?_cons_zero, Option.some.injEq] at h
    subst h
    simp [List.flatMap_cons, ← hf b]
  | b :: l, i + 1, a, h => by
    simp only [List.getElem?_cons_succ] at h
    have := row_get f hf l i a h
    rw [List.flatMap_cons, show 0 + (i + 1) * s = (f b).length + (0 + i * s) by rw [hf b, Nat.add_mul]; omega, List.drop_length_add_append]
    exact this

def cP (p : Pt) : List AV := [.int .i64 p.x, .int .i64 p.y, .int .i64 p.z]
def cL (x : Lim) : List AV := [.int .i64 x.side, .int .i64 x.low, .int .i64 x.high]
def rowP (l : List Pt) : List AV := l.flatMap cP
def rowL (l : List Lim) : List AV := l.flatMap cL

def idxFrom {α : Type} (p : α → Bool) : List α → Nat → Int
  | [], _ => -1
  | a :: r, i => bif p a then i else idxFrom p r (i + 1)

theorem idxFrom_ge {α : Type} {p : α → Bool} : ∀ {l : List α} {i : Nat}, decide (idxFrom p l i ≥ 0) = l.any p
  | [], i => rfl
  | a :: r, i => by
    simp only [idxFrom, List.any_cons]
    rcases Bool.eq_false_or_eq_true (p a) with h | h
    · simp [h]
    · simpa [h] using idxFrom_ge (p := p) (l := r) (i := i + 1)

theorem search_ind {α : Type} {p : α → Bool} {l : List α} {Gi : Nat → Prop} {v : Int} (hit : ∀ (i : Nat) a, l[i]? = some a → p a = true → (i : Int) = v → Gi i)
    (next : ∀ i a, l[i]? = some a → p a = false → Gi (i + 1) → Gi i) (out : ∀ i, l.length ≤ i → (-1 : Int) = v → Gi i) : ∀ d i, i + d = l.length → idxFrom p (l.drop i) i = v → Gi i
  | 0, i, h, hv => out i (by omega) (by rw [List.drop_eq_nil_of_le (by omega)] at hv; exact hv)
  | d + 1, i, h, hv => by
    have hi : i < l.length := by omega
    have hg : l[i]? = some l[i] := by simp [hi]
    rw [List.drop_eq_getElem_cons hi] at hv
    simp only [idxFrom] at hv
    cases hp : p l[i] with
    | true => rw [hp] at hv; exact hit i _ hg hp hv
    | false => rw [hp] at hv; exact next i _ hg hp (search_ind hit next out d (i + 1) (by omega) hv)

def validP (l : List Pt) : Bool := within l.length 3 60 && !l.any (fun p => !spanned p)
def motorOk (m : Mot) : Bool := within m.top 1 10 && within m.jerk 1 10 && within m.ease 1 m.jerk
def limitOk (x : Lim) : Bool := within x.side 0 200000 && within x.low (-200000) 200000 && within x.high x.low 200000
def checkE (l : List Pt) (m : Mot) (xs : List Lim) : Int := bif !validP l then 30 else bif !motorOk m then 31 else bif xs.any (fun x => !limitOk x) then 32 else 0

theorem f98b : Try.f98.body = some (bodyAt Try.prog 98) := by kernel_rfl
def f98K0 (P : Program) : List Item := kAt 400 [.code (bodyAt P 98)] [.stop]
def f98S0 (l : List Pt) (i : Nat) : St := ⟨[.rsl (rowP l) 0 l.length, .clos 81 [] [], .junk, .junk, .junk, .junk, .junk, .int .i64 ((l.length : Nat) : Int), .int .i64 ((i : Nat) : Int), .junk, .junk, .junk, .junk, .junk, .junk, .junk, .junk, .junk, .junk], []⟩
theorem p98_s (l : List Pt)  {E : Env} {res : AV} (hE : PureE Try.prog 98 res E) 
    (hg : G Try.prog E (f98K0 Try.prog) (f98S0 l 0)) : G Try.prog E [.code (bodyAt Try.prog 98)] ⟨[.rsl (rowP l) 0 l.length, .clos 81 [] []] ++ unds (Try.f98.ntmps - 2), []⟩ :=
  segN_step (n := 400) (ds := []) (live := [0, 1, 7, 8]) (m := 0) (evs := [.stop]) (obs := []) hE.2.1 (hE.nogh _) mixed (by kernel_rfl) trivial hg
theorem p98_0 (l : List Pt) (i : Nat) (p : Pt) {E : Env} {res : AV} (hE : PureE Try.prog 98 res E) (h0 : (decide (((i : Nat) : Int) < ((l.length : Nat) : Int))) = true) (h1 : 0 ≤ ((i : Nat) : Int) ∧ ((i : Nat) : Int) < ((l.length : Nat) : Int)) (h2 : ((rowP l).drop (0 + ((Int.toNat ((i : Nat) : Int)) * 3))).take 3 = [.int .i64 p.x, .int .i64 p.y, .int .i64 p.z]) (h4 : (!spanned p) = true)
    (hr : .int .i64 ((i : Nat) : Int) = res) : G Try.prog E (f98K0 Try.prog) (f98S0 l i) :=
  end_step (n := 400) (evs := [.b true, .ld (.agg [.int .i64 p.x, .int .i64 p.y, .int .i64 p.z]), .v (.bool (!spanned p)), .b true]) (obs := [(decide (((i : Nat) : Int) < ((l.length : Nat) : Int))) = true, 0 ≤ ((i : Nat) : Int) ∧ ((i : Nat) : Int) < ((l.length : Nat) : Int), ((rowP l).drop (0 + ((Int.toNat ((i : Nat) : Int)) * 3))).take 3 = [.int .i64 p.x, .int .i64 p.y, .int .i64 p.z], PureF Try.prog (.clos 81 [] []) [.agg [.int .i64 p.x, .int .i64 p.y, .int .i64 p.z]] (.bool (!spanned p)), (!spanned p) = true]) hE Try.func98 mixed (by kernel_rfl) ⟨h0, h1, h2, (valid1_F _), h4, trivial⟩ hr
theorem p98_1 (l : List Pt) (i : Nat) (p : Pt) {E : Env} {res : AV} (hE : PureE Try.prog 98 res E) (h0 : (decide (((i : Nat) : Int) < ((l.length : Nat) : Int))) = true) (h1 : 0 ≤ ((i : Nat) : Int) ∧ ((i : Nat) : Int) < ((l.length : Nat) : Int)) (h2 : ((rowP l).drop (0 + ((Int.toNat ((i : Nat) : Int)) * 3))).take 3 = [.int .i64 p.x, .int .i64 p.y, .int .i64 p.z]) (h4 : (!spanned p) = false) (h5 : InR .i64 (((i : Nat) : Int) + 1))
    (hg : G Try.prog E (f98K0 Try.prog) (f98S0 l (i + 1))) : G Try.prog E (f98K0 Try.prog) (f98S0 l i) :=
  segN_step (n := 400) (ds := []) (live := [0, 1, 7, 8]) (m := 0) (evs := [.b true, .ld (.agg [.int .i64 p.x, .int .i64 p.y, .int .i64 p.z]), .v (.bool (!spanned p)), .b false, .stop]) (obs := [(decide (((i : Nat) : Int) < ((l.length : Nat) : Int))) = true, 0 ≤ ((i : Nat) : Int) ∧ ((i : Nat) : Int) < ((l.length : Nat) : Int), ((rowP l).drop (0 + ((Int.toNat ((i : Nat) : Int)) * 3))).take 3 = [.int .i64 p.x, .int .i64 p.y, .int .i64 p.z], PureF Try.prog (.clos 81 [] []) [.agg [.int .i64 p.x, .int .i64 p.y, .int .i64 p.z]] (.bool (!spanned p)), (!spanned p) = false, InR .i64 (((i : Nat) : Int) + 1)]) hE.2.1 (hE.nogh _) mixed (by kernel_rfl) ⟨h0, h1, h2, (valid1_F _), h4, h5, trivial⟩ hg
theorem p98_2 (l : List Pt) (i : Nat)  {E : Env} {res : AV} (hE : PureE Try.prog 98 res E) (h0 : (decide (((i : Nat) : Int) < ((l.length : Nat) : Int))) = false)
    (hr : .int .i64 (-1) = res) : G Try.prog E (f98K0 Try.prog) (f98S0 l i) :=
  end_step (n := 400) (evs := [.b false]) (obs := [(decide (((i : Nat) : Int) < ((l.length : Nat) : Int))) = false]) hE Try.func98 mixed (by kernel_rfl) ⟨h0, trivial⟩ hr
theorem idx98_ok (l : List Pt) (hl : l.length ≤ 1000) : Pure Try.prog 98 [.rsl (rowP l) 0 l.length, .clos 81 [] []] (.int .i64 (idxFrom (fun p => !spanned p) l 0)) := pure_of Try.func98 f98b fun E hE =>
  p98_s l hE (search_ind (Gi := fun i => G Try.prog E (f98K0 Try.prog) (f98S0 l i)) (p := (fun p => !spanned p)) (l := l) (v := idxFrom (fun p => !spanned p) l 0)
    (fun i a h hp hv => have hi := get_lt h; p98_0 l i a hE (by simpa using hi) (by omega) (row_get cP (fun _ => rfl) _ _ _ h) hp (by rw [hv]))
    (fun i a h hp hg => have hi := get_lt h; p98_1 l i a hE (by simpa using hi) (by omega) (row_get cP (fun _ => rfl) _ _ _ h) hp (by unfold InR; omega) hg)
    (fun i h hv => p98_2 l i hE (by simpa using h) (by rw [hv])) l.length 0 (by omega) rfl)
theorem idx98_F (l : List Pt) (hl : l.length ≤ 1000) : PureF Try.prog (.clos 98 [] []) [.rsl (rowP l) 0 l.length, .clos 81 [] []] (.int .i64 (idxFrom (fun p => !spanned p) l 0)) := pureF_of Try.func98 (by kernel_rfl) f98b (by simpa using idx98_ok l hl)
theorem f80b : Try.f80.body = some (bodyAt Try.prog 80) := by kernel_rfl
theorem p80_0 (l : List Pt) (hl : l.length ≤ 1000) {E : Env} {res : AV} (hE : PureE Try.prog 80 res E) 
    (hr : .bool (decide ((idxFrom (fun p => !spanned p) l 0) ≥ 0)) = res) : G Try.prog E [.code (bodyAt Try.prog 80)] ⟨[.rsl (rowP l) 0 l.length, .clos 81 [] []] ++ unds (Try.f80.ntmps - 2), []⟩ :=
  end_step (n := 400) (evs := [.v (.int .i64 (idxFrom (fun p => !spanned p) l 0))]) (obs := [PureF Try.prog (.clos 98 [] []) [.rsl (rowP l) 0 l.length, .clos 81 [] []] (.int .i64 (idxFrom (fun p => !spanned p) l 0))]) hE Try.func80 mixed (by kernel_rfl) ⟨(idx98_F l hl), trivial⟩ hr
theorem any80_ok (l : List Pt) (hl : l.length ≤ 1000) : Pure Try.prog 80 [.rsl (rowP l) 0 l.length, .clos 81 [] []] (.bool (l.any (fun p => !spanned p))) := pure_of Try.func80 f80b fun E hE =>
  p80_0 l hl hE (by rw [idxFrom_ge])
theorem any80_F (l : List Pt) (hl : l.length ≤ 1000) : PureF Try.prog (.clos 80 [] []) [.rsl (rowP l) 0 l.length, .clos 81 [] []] (.bool (l.any (fun p => !spanned p))) := pureF_of Try.func80 (by kernel_rfl) f80b (by simpa using any80_ok l hl)
theorem f50b : Try.f50.body = some (bodyAt Try.prog 50) := by kernel_rfl
theorem p50_0 (l : List Pt) (hl : l.length ≤ 1000) {E : Env} {res : AV} (hE : PureE Try.prog 50 res E) (h1 : (within ((l.length : Nat) : Int) 3 60) = true)
    (hr : .bool (!(l.any (fun p => !spanned p))) = res) : G Try.prog E [.code (bodyAt Try.prog 50)] ⟨[.rsl (rowP l) 0 l.length] ++ unds (Try.f50.ntmps - 1), []⟩ :=
  end_step (n := 400) (evs := [.v (.bool (within ((l.length : Nat) : Int) 3 60)), .b true, .v (.bool (l.any (fun p => !spanned p)))]) (obs := [PureF Try.prog (.clos 51 [] []) [.int .i64 ((l.length : Nat) : Int), .int .i64 3, .int .i64 60] (.bool (within ((l.length : Nat) : Int) 3 60)), (within ((l.length : Nat) : Int) 3 60) = true, PureF Try.prog (.clos 80 [] []) [.rsl (rowP l) 0 l.length, .clos 81 [] []] (.bool (l.any (fun p => !spanned p)))]) hE Try.func50 mixed (by kernel_rfl) ⟨(within_F _ _ _), h1, (any80_F l hl), trivial⟩ hr
theorem p50_1 (l : List Pt) (hl : l.length ≤ 1000) {E : Env} {res : AV} (hE : PureE Try.prog 50 res E) (h1 : (within ((l.length : Nat) : Int) 3 60) = false)
    (hr : .bool false = res) : G Try.prog E [.code (bodyAt Try.prog 50)] ⟨[.rsl (rowP l) 0 l.length] ++ unds (Try.f50.ntmps - 1), []⟩ :=
  end_step (n := 400) (evs := [.v (.bool (within ((l.length : Nat) : Int) 3 60)), .b false]) (obs := [PureF Try.prog (.clos 51 [] []) [.int .i64 ((l.length : Nat) : Int), .int .i64 3, .int .i64 60] (.bool (within ((l.length : Nat) : Int) 3 60)), (within ((l.length : Nat) : Int) 3 60) = false]) hE Try.func50 mixed (by kernel_rfl) ⟨(within_F _ _ _), h1, trivial⟩ hr
theorem valid_ok (l : List Pt) (hl : l.length ≤ 1000) : Pure Try.prog 50 [.rsl (rowP l) 0 l.length] (.bool (validP l)) := pure_of Try.func50 f50b fun E hE => by
  rcases Bool.eq_false_or_eq_true (within ((l.length : Nat) : Int) 3 60) with hc0 | hc0
  · exact p50_0 l hl hE hc0 (by simp_all [validP])
  · exact p50_1 l hl hE hc0 (by simp_all [validP])
theorem valid_F (l : List Pt) (hl : l.length ≤ 1000) : PureF Try.prog (.clos 50 [] []) [.rsl (rowP l) 0 l.length] (.bool (validP l)) := pureF_of Try.func50 (by kernel_rfl) f50b (by simpa using valid_ok l hl)
theorem f63b : Try.f63.body = some (bodyAt Try.prog 63) := by kernel_rfl
theorem p63_0 (m : Mot)  {E : Env} {res : AV} (hE : PureE Try.prog 63 res E) (h1 : (within m.top 1 10) = true) (h3 : (within m.jerk 1 10) = true)
    (hr : .bool (within m.ease 1 m.jerk) = res) : G Try.prog E [.code (bodyAt Try.prog 63)] ⟨[.agg [.int .i64 m.top, .int .i64 m.ease, .int .i64 m.jerk]] ++ unds (Try.f63.ntmps - 1), []⟩ :=
  end_step (n := 400) (evs := [.v (.bool (within m.top 1 10)), .b true, .v (.bool (within m.jerk 1 10)), .b true, .v (.bool (within m.ease 1 m.jerk))]) (obs := [PureF Try.prog (.clos 51 [] []) [.int .i64 m.top, .int .i64 1, .int .i64 10] (.bool (within m.top 1 10)), (within m.top 1 10) = true, PureF Try.prog (.clos 51 [] []) [.int .i64 m.jerk, .int .i64 1, .int .i64 10] (.bool (within m.jerk 1 10)), (within m.jerk 1 10) = true, PureF Try.prog (.clos 51 [] []) [.int .i64 m.ease, .int .i64 1, .int .i64 m.jerk] (.bool (within m.ease 1 m.jerk))]) hE Try.func63 mixed (by kernel_rfl) ⟨(within_F _ _ _), h1, (within_F _ _ _), h3, (within_F _ _ _), trivial⟩ hr
theorem p63_1 (m : Mot)  {E : Env} {res : AV} (hE : PureE Try.prog 63 res E) (h1 : (within m.top 1 10) = true) (h3 : (within m.jerk 1 10) = false)
    (hr : .bool false = res) : G Try.prog E [.code (bodyAt Try.prog 63)] ⟨[.agg [.int .i64 m.top, .int .i64 m.ease, .int .i64 m.jerk]] ++ unds (Try.f63.ntmps - 1), []⟩ :=
  end_step (n := 400) (evs := [.v (.bool (within m.top 1 10)), .b true, .v (.bool (within m.jerk 1 10)), .b false]) (obs := [PureF Try.prog (.clos 51 [] []) [.int .i64 m.top, .int .i64 1, .int .i64 10] (.bool (within m.top 1 10)), (within m.top 1 10) = true, PureF Try.prog (.clos 51 [] []) [.int .i64 m.jerk, .int .i64 1, .int .i64 10] (.bool (within m.jerk 1 10)), (within m.jerk 1 10) = false]) hE Try.func63 mixed (by kernel_rfl) ⟨(within_F _ _ _), h1, (within_F _ _ _), h3, trivial⟩ hr
theorem p63_2 (m : Mot)  {E : Env} {res : AV} (hE : PureE Try.prog 63 res E) (h1 : (within m.top 1 10) = false)
    (hr : .bool false = res) : G Try.prog E [.code (bodyAt Try.prog 63)] ⟨[.agg [.int .i64 m.top, .int .i64 m.ease, .int .i64 m.jerk]] ++ unds (Try.f63.ntmps - 1), []⟩ :=
  end_step (n := 400) (evs := [.v (.bool (within m.top 1 10)), .b false, .b false]) (obs := [PureF Try.prog (.clos 51 [] []) [.int .i64 m.top, .int .i64 1, .int .i64 10] (.bool (within m.top 1 10)), (within m.top 1 10) = false, false = false]) hE Try.func63 mixed (by kernel_rfl) ⟨(within_F _ _ _), h1, (rfl), trivial⟩ hr
theorem motor_ok (m : Mot)  : Pure Try.prog 63 [.agg [.int .i64 m.top, .int .i64 m.ease, .int .i64 m.jerk]] (.bool (motorOk m)) := pure_of Try.func63 f63b fun E hE => by
  rcases Bool.eq_false_or_eq_true (within m.top 1 10) with hc0 | hc0
  · rcases Bool.eq_false_or_eq_true (within m.jerk 1 10) with hc1 | hc1
    · exact p63_0 m  hE hc0 hc1 (by simp_all [motorOk])
    · exact p63_1 m  hE hc0 hc1 (by simp_all [motorOk])
  · exact p63_2 m  hE hc0 (by simp_all [motorOk])
theorem motor_F (m : Mot)  : PureF Try.prog (.clos 63 [] []) [.agg [.int .i64 m.top, .int .i64 m.ease, .int .i64 m.jerk]] (.bool (motorOk m)) := pureF_of Try.func63 (by kernel_rfl) f63b (by simpa using motor_ok m )
theorem f78b : Try.f78.body = some (bodyAt Try.prog 78) := by kernel_rfl
theorem p78_0 (x : Lim)  {E : Env} {res : AV} (hE : PureE Try.prog 78 res E) (h1 : (within x.side 0 200000) = true) (h3 : (within x.low (-200000) 200000) = true)
    (hr : .bool (within x.high x.low 200000) = res) : G Try.prog E [.code (bodyAt Try.prog 78)] ⟨[.agg [.int .i64 x.side, .int .i64 x.low, .int .i64 x.high]] ++ unds (Try.f78.ntmps - 1), []⟩ :=
  end_step (n := 400) (evs := [.v (.bool (within x.side 0 200000)), .b true, .v (.bool (within x.low (-200000) 200000)), .b true, .v (.bool (within x.high x.low 200000))]) (obs := [PureF Try.prog (.clos 51 [] []) [.int .i64 x.side, .int .i64 0, .int .i64 200000] (.bool (within x.side 0 200000)), (within x.side 0 200000) = true, PureF Try.prog (.clos 51 [] []) [.int .i64 x.low, .int .i64 (-200000), .int .i64 200000] (.bool (within x.low (-200000) 200000)), (within x.low (-200000) 200000) = true, PureF Try.prog (.clos 51 [] []) [.int .i64 x.high, .int .i64 x.low, .int .i64 200000] (.bool (within x.high x.low 200000))]) hE Try.func78 mixed (by kernel_rfl) ⟨(within_F _ _ _), h1, (within_F _ _ _), h3, (within_F _ _ _), trivial⟩ hr
theorem p78_1 (x : Lim)  {E : Env} {res : AV} (hE : PureE Try.prog 78 res E) (h1 : (within x.side 0 200000) = true) (h3 : (within x.low (-200000) 200000) = false)
    (hr : .bool false = res) : G Try.prog E [.code (bodyAt Try.prog 78)] ⟨[.agg [.int .i64 x.side, .int .i64 x.low, .int .i64 x.high]] ++ unds (Try.f78.ntmps - 1), []⟩ :=
  end_step (n := 400) (evs := [.v (.bool (within x.side 0 200000)), .b true, .v (.bool (within x.low (-200000) 200000)), .b false]) (obs := [PureF Try.prog (.clos 51 [] []) [.int .i64 x.side, .int .i64 0, .int .i64 200000] (.bool (within x.side 0 200000)), (within x.side 0 200000) = true, PureF Try.prog (.clos 51 [] []) [.int .i64 x.low, .int .i64 (-200000), .int .i64 200000] (.bool (within x.low (-200000) 200000)), (within x.low (-200000) 200000) = false]) hE Try.func78 mixed (by kernel_rfl) ⟨(within_F _ _ _), h1, (within_F _ _ _), h3, trivial⟩ hr
theorem p78_2 (x : Lim)  {E : Env} {res : AV} (hE : PureE Try.prog 78 res E) (h1 : (within x.side 0 200000) = false)
    (hr : .bool false = res) : G Try.prog E [.code (bodyAt Try.prog 78)] ⟨[.agg [.int .i64 x.side, .int .i64 x.low, .int .i64 x.high]] ++ unds (Try.f78.ntmps - 1), []⟩ :=
  end_step (n := 400) (evs := [.v (.bool (within x.side 0 200000)), .b false, .b false]) (obs := [PureF Try.prog (.clos 51 [] []) [.int .i64 x.side, .int .i64 0, .int .i64 200000] (.bool (within x.side 0 200000)), (within x.side 0 200000) = false, false = false]) hE Try.func78 mixed (by kernel_rfl) ⟨(within_F _ _ _), h1, (rfl), trivial⟩ hr
theorem limit_ok (x : Lim)  : Pure Try.prog 78 [.agg [.int .i64 x.side, .int .i64 x.low, .int .i64 x.high]] (.bool (limitOk x)) := pure_of Try.func78 f78b fun E hE => by
  rcases Bool.eq_false_or_eq_true (within x.side 0 200000) with hc0 | hc0
  · rcases Bool.eq_false_or_eq_true (within x.low (-200000) 200000) with hc1 | hc1
    · exact p78_0 x  hE hc0 hc1 (by simp_all [limitOk])
    · exact p78_1 x  hE hc0 hc1 (by simp_all [limitOk])
  · exact p78_2 x  hE hc0 (by simp_all [limitOk])
theorem limit_F (x : Lim)  : PureF Try.prog (.clos 78 [] []) [.agg [.int .i64 x.side, .int .i64 x.low, .int .i64 x.high]] (.bool (limitOk x)) := pureF_of Try.func78 (by kernel_rfl) f78b (by simpa using limit_ok x )
theorem f77b : Try.f77.body = some (bodyAt Try.prog 77) := by kernel_rfl
theorem p77_0 (x : Lim)  {E : Env} {res : AV} (hE : PureE Try.prog 77 res E) 
    (hr : .bool (!(limitOk x)) = res) : G Try.prog E [.code (bodyAt Try.prog 77)] ⟨[.agg [.int .i64 x.side, .int .i64 x.low, .int .i64 x.high]] ++ unds (Try.f77.ntmps - 1), []⟩ :=
  end_step (n := 400) (evs := [.v (.bool (limitOk x))]) (obs := [PureF Try.prog (.clos 78 [] []) [.agg [.int .i64 x.side, .int .i64 x.low, .int .i64 x.high]] (.bool (limitOk x))]) hE Try.func77 mixed (by kernel_rfl) ⟨(limit_F _), trivial⟩ hr
theorem limit1_ok (x : Lim)  : Pure Try.prog 77 [.agg [.int .i64 x.side, .int .i64 x.low, .int .i64 x.high]] (.bool (!limitOk x)) := pure_of Try.func77 f77b fun E hE => by
  exact p77_0 x  hE  (rfl)
theorem limit1_F (x : Lim)  : PureF Try.prog (.clos 77 [] []) [.agg [.int .i64 x.side, .int .i64 x.low, .int .i64 x.high]] (.bool (!limitOk x)) := pureF_of Try.func77 (by kernel_rfl) f77b (by simpa using limit1_ok x )
theorem f97b : Try.f97.body = some (bodyAt Try.prog 97) := by kernel_rfl
def f97K0 (P : Program) : List Item := kAt 400 [.code (bodyAt P 97)] [.stop]
def f97S0 (l : List Lim) (i : Nat) : St := ⟨[.rsl (rowL l) 0 l.length, .clos 77 [] [], .junk, .junk, .junk, .junk, .junk, .int .i64 ((l.length : Nat) : Int), .int .i64 ((i : Nat) : Int), .junk, .junk, .junk, .junk, .junk, .junk, .junk, .junk, .junk, .junk], []⟩
theorem p97_s (l : List Lim)  {E : Env} {res : AV} (hE : PureE Try.prog 97 res E) 
    (hg : G Try.prog E (f97K0 Try.prog) (f97S0 l 0)) : G Try.prog E [.code (bodyAt Try.prog 97)] ⟨[.rsl (rowL l) 0 l.length, .clos 77 [] []] ++ unds (Try.f97.ntmps - 2), []⟩ :=
  segN_step (n := 400) (ds := []) (live := [0, 1, 7, 8]) (m := 0) (evs := [.stop]) (obs := []) hE.2.1 (hE.nogh _) mixed (by kernel_rfl) trivial hg
theorem p97_0 (l : List Lim) (i : Nat) (p : Lim) {E : Env} {res : AV} (hE : PureE Try.prog 97 res E) (h0 : (decide (((i : Nat) : Int) < ((l.length : Nat) : Int))) = true) (h1 : 0 ≤ ((i : Nat) : Int) ∧ ((i : Nat) : Int) < ((l.length : Nat) : Int)) (h2 : ((rowL l).drop (0 + ((Int.toNat ((i : Nat) : Int)) * 3))).take 3 = [.int .i64 p.side, .int .i64 p.low, .int .i64 p.high]) (h4 : (!limitOk p) = true)
    (hr : .int .i64 ((i : Nat) : Int) = res) : G Try.prog E (f97K0 Try.prog) (f97S0 l i) :=
  end_step (n := 400) (evs := [.b true, .ld (.agg [.int .i64 p.side, .int .i64 p.low, .int .i64 p.high]), .v (.bool (!limitOk p)), .b true]) (obs := [(decide (((i : Nat) : Int) < ((l.length : Nat) : Int))) = true, 0 ≤ ((i : Nat) : Int) ∧ ((i : Nat) : Int) < ((l.length : Nat) : Int), ((rowL l).drop (0 + ((Int.toNat ((i : Nat) : Int)) * 3))).take 3 = [.int .i64 p.side, .int .i64 p.low, .int .i64 p.high], PureF Try.prog (.clos 77 [] []) [.agg [.int .i64 p.side, .int .i64 p.low, .int .i64 p.high]] (.bool (!limitOk p)), (!limitOk p) = true]) hE Try.func97 mixed (by kernel_rfl) ⟨h0, h1, h2, (limit1_F _), h4, trivial⟩ hr
theorem p97_1 (l : List Lim) (i : Nat) (p : Lim) {E : Env} {res : AV} (hE : PureE Try.prog 97 res E) (h0 : (decide (((i : Nat) : Int) < ((l.length : Nat) : Int))) = true) (h1 : 0 ≤ ((i : Nat) : Int) ∧ ((i : Nat) : Int) < ((l.length : Nat) : Int)) (h2 : ((rowL l).drop (0 + ((Int.toNat ((i : Nat) : Int)) * 3))).take 3 = [.int .i64 p.side, .int .i64 p.low, .int .i64 p.high]) (h4 : (!limitOk p) = false) (h5 : InR .i64 (((i : Nat) : Int) + 1))
    (hg : G Try.prog E (f97K0 Try.prog) (f97S0 l (i + 1))) : G Try.prog E (f97K0 Try.prog) (f97S0 l i) :=
  segN_step (n := 400) (ds := []) (live := [0, 1, 7, 8]) (m := 0) (evs := [.b true, .ld (.agg [.int .i64 p.side, .int .i64 p.low, .int .i64 p.high]), .v (.bool (!limitOk p)), .b false, .stop]) (obs := [(decide (((i : Nat) : Int) < ((l.length : Nat) : Int))) = true, 0 ≤ ((i : Nat) : Int) ∧ ((i : Nat) : Int) < ((l.length : Nat) : Int), ((rowL l).drop (0 + ((Int.toNat ((i : Nat) : Int)) * 3))).take 3 = [.int .i64 p.side, .int .i64 p.low, .int .i64 p.high], PureF Try.prog (.clos 77 [] []) [.agg [.int .i64 p.side, .int .i64 p.low, .int .i64 p.high]] (.bool (!limitOk p)), (!limitOk p) = false, InR .i64 (((i : Nat) : Int) + 1)]) hE.2.1 (hE.nogh _) mixed (by kernel_rfl) ⟨h0, h1, h2, (limit1_F _), h4, h5, trivial⟩ hg
theorem p97_2 (l : List Lim) (i : Nat)  {E : Env} {res : AV} (hE : PureE Try.prog 97 res E) (h0 : (decide (((i : Nat) : Int) < ((l.length : Nat) : Int))) = false)
    (hr : .int .i64 (-1) = res) : G Try.prog E (f97K0 Try.prog) (f97S0 l i) :=
  end_step (n := 400) (evs := [.b false]) (obs := [(decide (((i : Nat) : Int) < ((l.length : Nat) : Int))) = false]) hE Try.func97 mixed (by kernel_rfl) ⟨h0, trivial⟩ hr
theorem idx97_ok (l : List Lim) (hl : l.length ≤ 1000) : Pure Try.prog 97 [.rsl (rowL l) 0 l.length, .clos 77 [] []] (.int .i64 (idxFrom (fun x => !limitOk x) l 0)) := pure_of Try.func97 f97b fun E hE =>
  p97_s l hE (search_ind (Gi := fun i => G Try.prog E (f97K0 Try.prog) (f97S0 l i)) (p := (fun x => !limitOk x)) (l := l) (v := idxFrom (fun x => !limitOk x) l 0)
    (fun i a h hp hv => have hi := get_lt h; p97_0 l i a hE (by simpa using hi) (by omega) (row_get cL (fun _ => rfl) _ _ _ h) hp (by rw [hv]))
    (fun i a h hp hg => have hi := get_lt h; p97_1 l i a hE (by simpa using hi) (by omega) (row_get cL (fun _ => rfl) _ _ _ h) hp (by unfold InR; omega) hg)
    (fun i h hv => p97_2 l i hE (by simpa using h) (by rw [hv])) l.length 0 (by omega) rfl)
theorem idx97_F (l : List Lim) (hl : l.length ≤ 1000) : PureF Try.prog (.clos 97 [] []) [.rsl (rowL l) 0 l.length, .clos 77 [] []] (.int .i64 (idxFrom (fun x => !limitOk x) l 0)) := pureF_of Try.func97 (by kernel_rfl) f97b (by simpa using idx97_ok l hl)
theorem f76b : Try.f76.body = some (bodyAt Try.prog 76) := by kernel_rfl
theorem p76_0 (l : List Lim) (hl : l.length ≤ 1000) {E : Env} {res : AV} (hE : PureE Try.prog 76 res E) 
    (hr : .bool (decide ((idxFrom (fun x => !limitOk x) l 0) ≥ 0)) = res) : G Try.prog E [.code (bodyAt Try.prog 76)] ⟨[.rsl (rowL l) 0 l.length, .clos 77 [] []] ++ unds (Try.f76.ntmps - 2), []⟩ :=
  end_step (n := 400) (evs := [.v (.int .i64 (idxFrom (fun x => !limitOk x) l 0))]) (obs := [PureF Try.prog (.clos 97 [] []) [.rsl (rowL l) 0 l.length, .clos 77 [] []] (.int .i64 (idxFrom (fun x => !limitOk x) l 0))]) hE Try.func76 mixed (by kernel_rfl) ⟨(idx97_F l hl), trivial⟩ hr
theorem any76_ok (l : List Lim) (hl : l.length ≤ 1000) : Pure Try.prog 76 [.rsl (rowL l) 0 l.length, .clos 77 [] []] (.bool (l.any (fun x => !limitOk x))) := pure_of Try.func76 f76b fun E hE =>
  p76_0 l hl hE (by rw [idxFrom_ge])
theorem any76_F (l : List Lim) (hl : l.length ≤ 1000) : PureF Try.prog (.clos 76 [] []) [.rsl (rowL l) 0 l.length, .clos 77 [] []] (.bool (l.any (fun x => !limitOk x))) := pureF_of Try.func76 (by kernel_rfl) f76b (by simpa using any76_ok l hl)
theorem f46b : Try.f46.body = some (bodyAt Try.prog 46) := by kernel_rfl
theorem p46_0 (l : List Pt) (m : Mot) (xs : List Lim) (hl : l.length ≤ 1000) (hx : xs.length ≤ 1000) {E : Env} {res : AV} (hE : PureE Try.prog 46 res E) (h1 : (!(validP l)) = true)
    (hr : .int .i64 30 = res) : G Try.prog E [.code (bodyAt Try.prog 46)] ⟨[.rsl (rowP l) 0 l.length, .agg [.int .i64 m.top, .int .i64 m.ease, .int .i64 m.jerk], .rsl (rowL xs) 0 xs.length] ++ unds (Try.f46.ntmps - 3), []⟩ :=
  end_step (n := 400) (evs := [.v (.bool (validP l)), .b true]) (obs := [PureF Try.prog (.clos 50 [] []) [.rsl (rowP l) 0 l.length] (.bool (validP l)), (!(validP l)) = true]) hE Try.func46 mixed (by kernel_rfl) ⟨(valid_F l hl), h1, trivial⟩ hr
theorem p46_1 (l : List Pt) (m : Mot) (xs : List Lim) (hl : l.length ≤ 1000) (hx : xs.length ≤ 1000) {E : Env} {res : AV} (hE : PureE Try.prog 46 res E) (h1 : (!(validP l)) = false) (h3 : (!(motorOk m)) = true)
    (hr : .int .i64 31 = res) : G Try.prog E [.code (bodyAt Try.prog 46)] ⟨[.rsl (rowP l) 0 l.length, .agg [.int .i64 m.top, .int .i64 m.ease, .int .i64 m.jerk], .rsl (rowL xs) 0 xs.length] ++ unds (Try.f46.ntmps - 3), []⟩ :=
  end_step (n := 400) (evs := [.v (.bool (validP l)), .b false, .v (.bool (motorOk m)), .b true]) (obs := [PureF Try.prog (.clos 50 [] []) [.rsl (rowP l) 0 l.length] (.bool (validP l)), (!(validP l)) = false, PureF Try.prog (.clos 63 [] []) [.agg [.int .i64 m.top, .int .i64 m.ease, .int .i64 m.jerk]] (.bool (motorOk m)), (!(motorOk m)) = true]) hE Try.func46 mixed (by kernel_rfl) ⟨(valid_F l hl), h1, (motor_F _), h3, trivial⟩ hr
theorem p46_2 (l : List Pt) (m : Mot) (xs : List Lim) (hl : l.length ≤ 1000) (hx : xs.length ≤ 1000) {E : Env} {res : AV} (hE : PureE Try.prog 46 res E) (h1 : (!(validP l)) = false) (h3 : (!(motorOk m)) = false) (h5 : (xs.any (fun x => !limitOk x)) = true)
    (hr : .int .i64 32 = res) : G Try.prog E [.code (bodyAt Try.prog 46)] ⟨[.rsl (rowP l) 0 l.length, .agg [.int .i64 m.top, .int .i64 m.ease, .int .i64 m.jerk], .rsl (rowL xs) 0 xs.length] ++ unds (Try.f46.ntmps - 3), []⟩ :=
  end_step (n := 400) (evs := [.v (.bool (validP l)), .b false, .v (.bool (motorOk m)), .b false, .v (.bool (xs.any (fun x => !limitOk x))), .b true]) (obs := [PureF Try.prog (.clos 50 [] []) [.rsl (rowP l) 0 l.length] (.bool (validP l)), (!(validP l)) = false, PureF Try.prog (.clos 63 [] []) [.agg [.int .i64 m.top, .int .i64 m.ease, .int .i64 m.jerk]] (.bool (motorOk m)), (!(motorOk m)) = false, PureF Try.prog (.clos 76 [] []) [.rsl (rowL xs) 0 xs.length, .clos 77 [] []] (.bool (xs.any (fun x => !limitOk x))), (xs.any (fun x => !limitOk x)) = true]) hE Try.func46 mixed (by kernel_rfl) ⟨(valid_F l hl), h1, (motor_F _), h3, (any76_F xs hx), h5, trivial⟩ hr
theorem p46_3 (l : List Pt) (m : Mot) (xs : List Lim) (hl : l.length ≤ 1000) (hx : xs.length ≤ 1000) {E : Env} {res : AV} (hE : PureE Try.prog 46 res E) (h1 : (!(validP l)) = false) (h3 : (!(motorOk m)) = false) (h5 : (xs.any (fun x => !limitOk x)) = false)
    (hr : .int .i64 0 = res) : G Try.prog E [.code (bodyAt Try.prog 46)] ⟨[.rsl (rowP l) 0 l.length, .agg [.int .i64 m.top, .int .i64 m.ease, .int .i64 m.jerk], .rsl (rowL xs) 0 xs.length] ++ unds (Try.f46.ntmps - 3), []⟩ :=
  end_step (n := 400) (evs := [.v (.bool (validP l)), .b false, .v (.bool (motorOk m)), .b false, .v (.bool (xs.any (fun x => !limitOk x))), .b false]) (obs := [PureF Try.prog (.clos 50 [] []) [.rsl (rowP l) 0 l.length] (.bool (validP l)), (!(validP l)) = false, PureF Try.prog (.clos 63 [] []) [.agg [.int .i64 m.top, .int .i64 m.ease, .int .i64 m.jerk]] (.bool (motorOk m)), (!(motorOk m)) = false, PureF Try.prog (.clos 76 [] []) [.rsl (rowL xs) 0 xs.length, .clos 77 [] []] (.bool (xs.any (fun x => !limitOk x))), (xs.any (fun x => !limitOk x)) = false]) hE Try.func46 mixed (by kernel_rfl) ⟨(valid_F l hl), h1, (motor_F _), h3, (any76_F xs hx), h5, trivial⟩ hr
theorem check_ok (l : List Pt) (m : Mot) (xs : List Lim) (hl : l.length ≤ 1000) (hx : xs.length ≤ 1000) : Pure Try.prog 46 [.rsl (rowP l) 0 l.length, .agg [.int .i64 m.top, .int .i64 m.ease, .int .i64 m.jerk], .rsl (rowL xs) 0 xs.length] (.int .i64 (checkE l m xs)) := pure_of Try.func46 f46b fun E hE => by
  rcases Bool.eq_false_or_eq_true (!(validP l)) with hc0 | hc0
  · exact p46_0 l m xs hl hx hE hc0 (by simp only [checkE, *, Bool.not_true, Bool.not_false, cond_true, cond_false])
  · rcases Bool.eq_false_or_eq_true (!(motorOk m)) with hc1 | hc1
    · exact p46_1 l m xs hl hx hE hc0 hc1 (by simp only [checkE, *, Bool.not_true, Bool.not_false, cond_true, cond_false])
    · rcases Bool.eq_false_or_eq_true (xs.any (fun x => !limitOk x)) with hc2 | hc2
      · exact p46_2 l m xs hl hx hE hc0 hc1 hc2 (by simp only [checkE, *, Bool.not_true, Bool.not_false, cond_true, cond_false])
      · exact p46_3 l m xs hl hx hE hc0 hc1 hc2 (by simp only [checkE, *, Bool.not_true, Bool.not_false, cond_true, cond_false])
theorem check_F (l : List Pt) (m : Mot) (xs : List Lim) (hl : l.length ≤ 1000) (hx : xs.length ≤ 1000) : PureF Try.prog (.clos 46 [] []) [.rsl (rowP l) 0 l.length, .agg [.int .i64 m.top, .int .i64 m.ease, .int .i64 m.jerk], .rsl (rowL xs) 0 xs.length] (.int .i64 (checkE l m xs)) := pureF_of Try.func46 (by kernel_rfl) f46b (by simpa using check_ok l m xs hl hx)
end Go.Proofs.Ytideokfbnegkjaa

/- Force: the reference's checks; what is felt. -/
namespace Go.Proofs.Ytideokfbnegkjaa
open Go Ax
open Go.Proofs

structure Chg where
  phase : Int
  before : Int
  after : Int

def checkM (m : Mot) : Int := bif !within m.top 1 10 then 31 else bif !within m.ease 1 m.jerk then 31 else bif decide (m.jerk > 10) then 31 else 0
def checkX (x : Lim) : Int := bif !within x.side 0 200000 then 32 else bif !within x.low (-200000) 200000 then 32 else bif !within x.high x.low 200000 then 32 else 0
def checkP (l : List Pt) : Int := bif !within l.length 3 60 then 30 else bif l.any (fun p => !spanned p) then 30 else 0
def checkedE (l : List Pt) (m : Mot) (x : Lim) : Int := bif checkP l != 0 then checkP l else bif checkM m != 0 then checkM m else checkX x

def wrapI (ph : Int) (n : Nat) : Nat := (Int.tmod (Int.tmod ph n + n) n).toNat
def atP (l : List Pt) (ph : Int) : Pt := l.getD (wrapI ph l.length) ⟨0, 0, 0⟩
def side (p : Pt) : Int := p.x * p.x + p.y * p.y
def sideOk (p : Pt) : Prop := InR .i64 (p.x * p.x) ∧ InR .i64 (p.y * p.y) ∧ InR .i64 (p.x * p.x + p.y * p.y)
def keptP (p : Pt) (x : Lim) : Bool := decide (side p ≤ x.side * x.side) && within p.z x.low x.high

theorem limOk_sq {x : Lim} (h : limitOk x = true) : InR .i64 (x.side * x.side) := by
  simp only [limitOk, within, Bool.and_eq_true, decide_eq_true_eq] at h
  obtain ⟨⟨⟨h1, h2⟩, -⟩, -⟩ := h
  have h3 : 0 ≤ x.side * x.side := Int.mul_nonneg h1 h1
  have h4 : x.side * x.side ≤ 200000 * 200000 := Int.mul_le_mul h2 h2 h1 (by decide)
  unfold InR; omega

theorem f54b : Try.f54.body = some (bodyAt Try.prog 54) := by kernel_rfl
theorem p54_0 (n lo hi : Int)  {E : Env} {res : AV} (hE : PureE Try.prog 54 res E) (h0 : (decide (n ≥ lo)) = true)
    (hr : .bool (decide (n ≤ hi)) = res) : G Try.prog E [.code (bodyAt Try.prog 54)] ⟨[.int .i64 n, .int .i64 lo, .int .i64 hi] ++ unds (Try.f54.ntmps - 3), []⟩ :=
  end_step (n := 400) (evs := [.b true]) (obs := [(decide (n ≥ lo)) = true]) hE Try.func54 mixed (by kernel_rfl) ⟨h0, trivial⟩ hr
theorem p54_1 (n lo hi : Int)  {E : Env} {res : AV} (hE : PureE Try.prog 54 res E) (h0 : (decide (n ≥ lo)) = false)
    (hr : .bool false = res) : G Try.prog E [.code (bodyAt Try.prog 54)] ⟨[.int .i64 n, .int .i64 lo, .int .i64 hi] ++ unds (Try.f54.ntmps - 3), []⟩ :=
  end_step (n := 400) (evs := [.b false]) (obs := [(decide (n ≥ lo)) = false]) hE Try.func54 mixed (by kernel_rfl) ⟨h0, trivial⟩ hr
theorem from_ok (n lo hi : Int)  : Pure Try.prog 54 [.int .i64 n, .int .i64 lo, .int .i64 hi] (.bool (within n lo hi)) := pure_of Try.func54 f54b fun E hE => by
  rcases Bool.eq_false_or_eq_true (decide (n ≥ lo)) with hc0 | hc0
  · exact p54_0 n lo hi  hE hc0 (by simp_all [within] <;> omega)
  · exact p54_1 n lo hi  hE hc0 (by simp_all [within] <;> omega)
theorem from_F (n lo hi : Int)  : PureF Try.prog (.clos 54 [] []) [.int .i64 n, .int .i64 lo, .int .i64 hi] (.bool (within n lo hi)) := pureF_of Try.func54 (by kernel_rfl) f54b (by simpa using from_ok n lo hi )
theorem f65b : Try.f65.body = some (bodyAt Try.prog 65) := by kernel_rfl
theorem p65_0 (p : Pt)  {E : Env} {res : AV} (hE : PureE Try.prog 65 res E) (h1 : (within p.x (-10000) 10000) = true) (h3 : (within p.y (-10000) 10000) = true)
    (hr : .bool (within p.z (-10000) 10000) = res) : G Try.prog E [.code (bodyAt Try.prog 65)] ⟨[.agg [.int .i64 p.x, .int .i64 p.y, .int .i64 p.z]] ++ unds (Try.f65.ntmps - 1), []⟩ :=
  end_step (n := 400) (evs := [.v (.bool (within p.x (-10000) 10000)), .b true, .v (.bool (within p.y (-10000) 10000)), .b true, .v (.bool (within p.z (-10000) 10000))]) (obs := [PureF Try.prog (.clos 54 [] []) [.int .i64 p.x, .int .i64 (-10000), .int .i64 10000] (.bool (within p.x (-10000) 10000)), (within p.x (-10000) 10000) = true, PureF Try.prog (.clos 54 [] []) [.int .i64 p.y, .int .i64 (-10000), .int .i64 10000] (.bool (within p.y (-10000) 10000)), (within p.y (-10000) 10000) = true, PureF Try.prog (.clos 54 [] []) [.int .i64 p.z, .int .i64 (-10000), .int .i64 10000] (.bool (within p.z (-10000) 10000))]) hE Try.func65 mixed (by kernel_rfl) ⟨(from_F _ _ _), h1, (from_F _ _ _), h3, (from_F _ _ _), trivial⟩ hr
theorem p65_1 (p : Pt)  {E : Env} {res : AV} (hE : PureE Try.prog 65 res E) (h1 : (within p.x (-10000) 10000) = true) (h3 : (within p.y (-10000) 10000) = false)
    (hr : .bool false = res) : G Try.prog E [.code (bodyAt Try.prog 65)] ⟨[.agg [.int .i64 p.x, .int .i64 p.y, .int .i64 p.z]] ++ unds (Try.f65.ntmps - 1), []⟩ :=
  end_step (n := 400) (evs := [.v (.bool (within p.x (-10000) 10000)), .b true, .v (.bool (within p.y (-10000) 10000)), .b false]) (obs := [PureF Try.prog (.clos 54 [] []) [.int .i64 p.x, .int .i64 (-10000), .int .i64 10000] (.bool (within p.x (-10000) 10000)), (within p.x (-10000) 10000) = true, PureF Try.prog (.clos 54 [] []) [.int .i64 p.y, .int .i64 (-10000), .int .i64 10000] (.bool (within p.y (-10000) 10000)), (within p.y (-10000) 10000) = false]) hE Try.func65 mixed (by kernel_rfl) ⟨(from_F _ _ _), h1, (from_F _ _ _), h3, trivial⟩ hr
theorem p65_2 (p : Pt)  {E : Env} {res : AV} (hE : PureE Try.prog 65 res E) (h1 : (within p.x (-10000) 10000) = false)
    (hr : .bool false = res) : G Try.prog E [.code (bodyAt Try.prog 65)] ⟨[.agg [.int .i64 p.x, .int .i64 p.y, .int .i64 p.z]] ++ unds (Try.f65.ntmps - 1), []⟩ :=
  end_step (n := 400) (evs := [.v (.bool (within p.x (-10000) 10000)), .b false, .b false]) (obs := [PureF Try.prog (.clos 54 [] []) [.int .i64 p.x, .int .i64 (-10000), .int .i64 10000] (.bool (within p.x (-10000) 10000)), (within p.x (-10000) 10000) = false, false = false]) hE Try.func65 mixed (by kernel_rfl) ⟨(from_F _ _ _), h1, (rfl), trivial⟩ hr
theorem pointed_ok (p : Pt)  : Pure Try.prog 65 [.agg [.int .i64 p.x, .int .i64 p.y, .int .i64 p.z]] (.bool (spanned p)) := pure_of Try.func65 f65b fun E hE => by
  rcases Bool.eq_false_or_eq_true (within p.x (-10000) 10000) with hc0 | hc0
  · rcases Bool.eq_false_or_eq_true (within p.y (-10000) 10000) with hc1 | hc1
    · exact p65_0 p  hE hc0 hc1 (by simp_all [spanned])
    · exact p65_1 p  hE hc0 hc1 (by simp_all [spanned])
  · exact p65_2 p  hE hc0 (by simp_all [spanned])
theorem pointed_F (p : Pt)  : PureF Try.prog (.clos 65 [] []) [.agg [.int .i64 p.x, .int .i64 p.y, .int .i64 p.z]] (.bool (spanned p)) := pureF_of Try.func65 (by kernel_rfl) f65b (by simpa using pointed_ok p )
theorem f64b : Try.f64.body = some (bodyAt Try.prog 64) := by kernel_rfl
theorem p64_0 (m : Mot)  {E : Env} {res : AV} (hE : PureE Try.prog 64 res E) (h1 : (!(within m.top 1 10)) = true)
    (hr : .int .i64 31 = res) : G Try.prog E [.code (bodyAt Try.prog 64)] ⟨[.agg [.int .i64 m.top, .int .i64 m.ease, .int .i64 m.jerk]] ++ unds (Try.f64.ntmps - 1), []⟩ :=
  end_step (n := 400) (evs := [.v (.bool (within m.top 1 10)), .b true, .b true, .b true]) (obs := [PureF Try.prog (.clos 54 [] []) [.int .i64 m.top, .int .i64 1, .int .i64 10] (.bool (within m.top 1 10)), (!(within m.top 1 10)) = true, true = true, true = true]) hE Try.func64 mixed (by kernel_rfl) ⟨(from_F _ _ _), h1, (rfl), (rfl), trivial⟩ hr
theorem p64_1 (m : Mot)  {E : Env} {res : AV} (hE : PureE Try.prog 64 res E) (h1 : (!(within m.top 1 10)) = false) (h3 : (!(within m.ease 1 m.jerk)) = true)
    (hr : .int .i64 31 = res) : G Try.prog E [.code (bodyAt Try.prog 64)] ⟨[.agg [.int .i64 m.top, .int .i64 m.ease, .int .i64 m.jerk]] ++ unds (Try.f64.ntmps - 1), []⟩ :=
  end_step (n := 400) (evs := [.v (.bool (within m.top 1 10)), .b false, .v (.bool (within m.ease 1 m.jerk)), .b true, .b true]) (obs := [PureF Try.prog (.clos 54 [] []) [.int .i64 m.top, .int .i64 1, .int .i64 10] (.bool (within m.top 1 10)), (!(within m.top 1 10)) = false, PureF Try.prog (.clos 54 [] []) [.int .i64 m.ease, .int .i64 1, .int .i64 m.jerk] (.bool (within m.ease 1 m.jerk)), (!(within m.ease 1 m.jerk)) = true, true = true]) hE Try.func64 mixed (by kernel_rfl) ⟨(from_F _ _ _), h1, (from_F _ _ _), h3, (rfl), trivial⟩ hr
theorem p64_2 (m : Mot)  {E : Env} {res : AV} (hE : PureE Try.prog 64 res E) (h1 : (!(within m.top 1 10)) = false) (h3 : (!(within m.ease 1 m.jerk)) = false) (h4 : (decide (m.jerk > 10)) = true)
    (hr : .int .i64 31 = res) : G Try.prog E [.code (bodyAt Try.prog 64)] ⟨[.agg [.int .i64 m.top, .int .i64 m.ease, .int .i64 m.jerk]] ++ unds (Try.f64.ntmps - 1), []⟩ :=
  end_step (n := 400) (evs := [.v (.bool (within m.top 1 10)), .b false, .v (.bool (within m.ease 1 m.jerk)), .b false, .b true]) (obs := [PureF Try.prog (.clos 54 [] []) [.int .i64 m.top, .int .i64 1, .int .i64 10] (.bool (within m.top 1 10)), (!(within m.top 1 10)) = false, PureF Try.prog (.clos 54 [] []) [.int .i64 m.ease, .int .i64 1, .int .i64 m.jerk] (.bool (within m.ease 1 m.jerk)), (!(within m.ease 1 m.jerk)) = false, (decide (m.jerk > 10)) = true]) hE Try.func64 mixed (by kernel_rfl) ⟨(from_F _ _ _), h1, (from_F _ _ _), h3, h4, trivial⟩ hr
theorem p64_3 (m : Mot)  {E : Env} {res : AV} (hE : PureE Try.prog 64 res E) (h1 : (!(within m.top 1 10)) = false) (h3 : (!(within m.ease 1 m.jerk)) = false) (h4 : (decide (m.jerk > 10)) = false)
    (hr : .int .i64 0 = res) : G Try.prog E [.code (bodyAt Try.prog 64)] ⟨[.agg [.int .i64 m.top, .int .i64 m.ease, .int .i64 m.jerk]] ++ unds (Try.f64.ntmps - 1), []⟩ :=
  end_step (n := 400) (evs := [.v (.bool (within m.top 1 10)), .b false, .v (.bool (within m.ease 1 m.jerk)), .b false, .b false]) (obs := [PureF Try.prog (.clos 54 [] []) [.int .i64 m.top, .int .i64 1, .int .i64 10] (.bool (within m.top 1 10)), (!(within m.top 1 10)) = false, PureF Try.prog (.clos 54 [] []) [.int .i64 m.ease, .int .i64 1, .int .i64 m.jerk] (.bool (within m.ease 1 m.jerk)), (!(within m.ease 1 m.jerk)) = false, (decide (m.jerk > 10)) = false]) hE Try.func64 mixed (by kernel_rfl) ⟨(from_F _ _ _), h1, (from_F _ _ _), h3, h4, trivial⟩ hr
theorem checkMotor_ok (m : Mot)  : Pure Try.prog 64 [.agg [.int .i64 m.top, .int .i64 m.ease, .int .i64 m.jerk]] (.int .i64 (checkM m)) := pure_of Try.func64 f64b fun E hE => by
  rcases Bool.eq_false_or_eq_true (!(within m.top 1 10)) with hc0 | hc0
  · exact p64_0 m  hE hc0 (by simp only [checkM, *, Bool.not_true, Bool.not_false, Bool.true_and, Bool.false_and, Bool.true_or, Bool.false_or, cond_true, cond_false])
  · rcases Bool.eq_false_or_eq_true (!(within m.ease 1 m.jerk)) with hc1 | hc1
    · exact p64_1 m  hE hc0 hc1 (by simp only [checkM, *, Bool.not_true, Bool.not_false, Bool.true_and, Bool.false_and, Bool.true_or, Bool.false_or, cond_true, cond_false])
    · rcases Bool.eq_false_or_eq_true (decide (m.jerk > 10)) with hc2 | hc2
      · exact p64_2 m  hE hc0 hc1 hc2 (by simp only [checkM, *, Bool.not_true, Bool.not_false, Bool.true_and, Bool.false_and, Bool.true_or, Bool.false_or, cond_true, cond_false])
      · exact p64_3 m  hE hc0 hc1 hc2 (by simp only [checkM, *, Bool.not_true, Bool.not_false, Bool.true_and, Bool.false_and, Bool.true_or, Bool.false_or, cond_true, cond_false])
theorem checkMotor_F (m : Mot)  : PureF Try.prog (.clos 64 [] []) [.agg [.int .i64 m.top, .int .i64 m.ease, .int .i64 m.jerk]] (.int .i64 (checkM m)) := pureF_of Try.func64 (by kernel_rfl) f64b (by simpa using checkMotor_ok m )
theorem f79b : Try.f79.body = some (bodyAt Try.prog 79) := by kernel_rfl
theorem p79_0 (x : Lim)  {E : Env} {res : AV} (hE : PureE Try.prog 79 res E) (h1 : (!(within x.side 0 200000)) = true)
    (hr : .int .i64 32 = res) : G Try.prog E [.code (bodyAt Try.prog 79)] ⟨[.agg [.int .i64 x.side, .int .i64 x.low, .int .i64 x.high]] ++ unds (Try.f79.ntmps - 1), []⟩ :=
  end_step (n := 400) (evs := [.v (.bool (within x.side 0 200000)), .b true, .b true, .b true]) (obs := [PureF Try.prog (.clos 54 [] []) [.int .i64 x.side, .int .i64 0, .int .i64 200000] (.bool (within x.side 0 200000)), (!(within x.side 0 200000)) = true, true = true, true = true]) hE Try.func79 mixed (by kernel_rfl) ⟨(from_F _ _ _), h1, (rfl), (rfl), trivial⟩ hr
theorem p79_1 (x : Lim)  {E : Env} {res : AV} (hE : PureE Try.prog 79 res E) (h1 : (!(within x.side 0 200000)) = false) (h3 : (!(within x.low (-200000) 200000)) = true)
    (hr : .int .i64 32 = res) : G Try.prog E [.code (bodyAt Try.prog 79)] ⟨[.agg [.int .i64 x.side, .int .i64 x.low, .int .i64 x.high]] ++ unds (Try.f79.ntmps - 1), []⟩ :=
  end_step (n := 400) (evs := [.v (.bool (within x.side 0 200000)), .b false, .v (.bool (within x.low (-200000) 200000)), .b true, .b true]) (obs := [PureF Try.prog (.clos 54 [] []) [.int .i64 x.side, .int .i64 0, .int .i64 200000] (.bool (within x.side 0 200000)), (!(within x.side 0 200000)) = false, PureF Try.prog (.clos 54 [] []) [.int .i64 x.low, .int .i64 (-200000), .int .i64 200000] (.bool (within x.low (-200000) 200000)), (!(within x.low (-200000) 200000)) = true, true = true]) hE Try.func79 mixed (by kernel_rfl) ⟨(from_F _ _ _), h1, (from_F _ _ _), h3, (rfl), trivial⟩ hr
theorem p79_2 (x : Lim)  {E : Env} {res : AV} (hE : PureE Try.prog 79 res E) (h1 : (!(within x.side 0 200000)) = false) (h3 : (!(within x.low (-200000) 200000)) = false) (h5 : (!(within x.high x.low 200000)) = true)
    (hr : .int .i64 32 = res) : G Try.prog E [.code (bodyAt Try.prog 79)] ⟨[.agg [.int .i64 x.side, .int .i64 x.low, .int .i64 x.high]] ++ unds (Try.f79.ntmps - 1), []⟩ :=
  end_step (n := 400) (evs := [.v (.bool (within x.side 0 200000)), .b false, .v (.bool (within x.low (-200000) 200000)), .b false, .v (.bool (within x.high x.low 200000)), .b true]) (obs := [PureF Try.prog (.clos 54 [] []) [.int .i64 x.side, .int .i64 0, .int .i64 200000] (.bool (within x.side 0 200000)), (!(within x.side 0 200000)) = false, PureF Try.prog (.clos 54 [] []) [.int .i64 x.low, .int .i64 (-200000), .int .i64 200000] (.bool (within x.low (-200000) 200000)), (!(within x.low (-200000) 200000)) = false, PureF Try.prog (.clos 54 [] []) [.int .i64 x.high, .int .i64 x.low, .int .i64 200000] (.bool (within x.high x.low 200000)), (!(within x.high x.low 200000)) = true]) hE Try.func79 mixed (by kernel_rfl) ⟨(from_F _ _ _), h1, (from_F _ _ _), h3, (from_F _ _ _), h5, trivial⟩ hr
theorem p79_3 (x : Lim)  {E : Env} {res : AV} (hE : PureE Try.prog 79 res E) (h1 : (!(within x.side 0 200000)) = false) (h3 : (!(within x.low (-200000) 200000)) = false) (h5 : (!(within x.high x.low 200000)) = false)
    (hr : .int .i64 0 = res) : G Try.prog E [.code (bodyAt Try.prog 79)] ⟨[.agg [.int .i64 x.side, .int .i64 x.low, .int .i64 x.high]] ++ unds (Try.f79.ntmps - 1), []⟩ :=
  end_step (n := 400) (evs := [.v (.bool (within x.side 0 200000)), .b false, .v (.bool (within x.low (-200000) 200000)), .b false, .v (.bool (within x.high x.low 200000)), .b false]) (obs := [PureF Try.prog (.clos 54 [] []) [.int .i64 x.side, .int .i64 0, .int .i64 200000] (.bool (within x.side 0 200000)), (!(within x.side 0 200000)) = false, PureF Try.prog (.clos 54 [] []) [.int .i64 x.low, .int .i64 (-200000), .int .i64 200000] (.bool (within x.low (-200000) 200000)), (!(within x.low (-200000) 200000)) = false, PureF Try.prog (.clos 54 [] []) [.int .i64 x.high, .int .i64 x.low, .int .i64 200000] (.bool (within x.high x.low 200000)), (!(within x.high x.low 200000)) = false]) hE Try.func79 mixed (by kernel_rfl) ⟨(from_F _ _ _), h1, (from_F _ _ _), h3, (from_F _ _ _), h5, trivial⟩ hr
theorem checkLimit_ok (x : Lim)  : Pure Try.prog 79 [.agg [.int .i64 x.side, .int .i64 x.low, .int .i64 x.high]] (.int .i64 (checkX x)) := pure_of Try.func79 f79b fun E hE => by
  rcases Bool.eq_false_or_eq_true (!(within x.side 0 200000)) with hc0 | hc0
  · exact p79_0 x  hE hc0 (by simp only [checkX, *, Bool.not_true, Bool.not_false, Bool.true_and, Bool.false_and, Bool.true_or, Bool.false_or, cond_true, cond_false])
  · rcases Bool.eq_false_or_eq_true (!(within x.low (-200000) 200000)) with hc1 | hc1
    · exact p79_1 x  hE hc0 hc1 (by simp only [checkX, *, Bool.not_true, Bool.not_false, Bool.true_and, Bool.false_and, Bool.true_or, Bool.false_or, cond_true, cond_false])
    · rcases Bool.eq_false_or_eq_true (!(within x.high x.low 200000)) with hc2 | hc2
      · exact p79_2 x  hE hc0 hc1 hc2 (by simp only [checkX, *, Bool.not_true, Bool.not_false, Bool.true_and, Bool.false_and, Bool.true_or, Bool.false_or, cond_true, cond_false])
      · exact p79_3 x  hE hc0 hc1 hc2 (by simp only [checkX, *, Bool.not_true, Bool.not_false, Bool.true_and, Bool.false_and, Bool.true_or, Bool.false_or, cond_true, cond_false])
theorem checkLimit_F (x : Lim)  : PureF Try.prog (.clos 79 [] []) [.agg [.int .i64 x.side, .int .i64 x.low, .int .i64 x.high]] (.int .i64 (checkX x)) := pureF_of Try.func79 (by kernel_rfl) f79b (by simpa using checkLimit_ok x )
theorem f53b : Try.f53.body = some (bodyAt Try.prog 53) := by kernel_rfl
theorem p53_e (l : List Pt)  {E : Env} {res : AV} (hE : PureE Try.prog 53 res E) (h1 : (!(within ((l.length : Nat) : Int) 3 60)) = true)
    (hr : .int .i64 30 = res) : G Try.prog E [.code (bodyAt Try.prog 53)] ⟨[.rsl (rowP l) 0 l.length] ++ unds (Try.f53.ntmps - 1), []⟩ :=
  end_step (n := 400) (evs := [.v (.bool (within ((l.length : Nat) : Int) 3 60)), .b true]) (obs := [PureF Try.prog (.clos 54 [] []) [.int .i64 ((l.length : Nat) : Int), .int .i64 3, .int .i64 60] (.bool (within ((l.length : Nat) : Int) 3 60)), (!(within ((l.length : Nat) : Int) 3 60)) = true]) hE Try.func53 mixed (by kernel_rfl) ⟨(from_F _ _ _), h1, trivial⟩ hr
def f53K0 (P : Program) : List Item := kAt 400 [.code (bodyAt P 53)] [.b false, .stop]
def f53S0 (l : List Pt) (i : Nat) : St := ⟨[.rsl (rowP l) 0 l.length, .junk, .junk, .int .i64 ((i : Nat) : Int), .junk, .junk, .junk, .junk, .junk, .junk, .junk, .junk, .junk, .junk, .junk, .junk, .junk, .junk, .junk, .junk], []⟩
theorem p53_s (l : List Pt)  {E : Env} {res : AV} (hE : PureE Try.prog 53 res E) (h1 : (!(within ((l.length : Nat) : Int) 3 60)) = false)
    (hg : G Try.prog E (f53K0 Try.prog) (f53S0 l 0)) : G Try.prog E [.code (bodyAt Try.prog 53)] ⟨[.rsl (rowP l) 0 l.length] ++ unds (Try.f53.ntmps - 1), []⟩ :=
  segN_step (n := 400) (ds := []) (live := [0, 3]) (m := 0) (evs := [.v (.bool (within ((l.length : Nat) : Int) 3 60)), .b false, .stop]) (obs := [PureF Try.prog (.clos 54 [] []) [.int .i64 ((l.length : Nat) : Int), .int .i64 3, .int .i64 60] (.bool (within ((l.length : Nat) : Int) 3 60)), (!(within ((l.length : Nat) : Int) 3 60)) = false]) hE.2.1 (hE.nogh _) mixed (by kernel_rfl) ⟨(from_F _ _ _), h1, trivial⟩ hg
theorem p53_0 (l : List Pt) (i : Nat) (p : Pt) {E : Env} {res : AV} (hE : PureE Try.prog 53 res E) (h0 : (decide (((i : Nat) : Int) < ((l.length : Nat) : Int))) = true) (h1 : 0 ≤ ((i : Nat) : Int) ∧ ((i : Nat) : Int) < ((l.length : Nat) : Int)) (h2 : ((rowP l).drop (0 + ((Int.toNat ((i : Nat) : Int)) * 3))).take 3 = [.int .i64 p.x, .int .i64 p.y, .int .i64 p.z]) (h4 : (!(spanned p)) = true)
    (hr : .int .i64 30 = res) : G Try.prog E (f53K0 Try.prog) (f53S0 l i) :=
  end_step (n := 400) (evs := [.b true, .ld (.agg [.int .i64 p.x, .int .i64 p.y, .int .i64 p.z]), .v (.bool (spanned p)), .b true]) (obs := [(decide (((i : Nat) : Int) < ((l.length : Nat) : Int))) = true, 0 ≤ ((i : Nat) : Int) ∧ ((i : Nat) : Int) < ((l.length : Nat) : Int), ((rowP l).drop (0 + ((Int.toNat ((i : Nat) : Int)) * 3))).take 3 = [.int .i64 p.x, .int .i64 p.y, .int .i64 p.z], PureF Try.prog (.clos 65 [] []) [.agg [.int .i64 p.x, .int .i64 p.y, .int .i64 p.z]] (.bool (spanned p)), (!(spanned p)) = true]) hE Try.func53 mixed (by kernel_rfl) ⟨h0, h1, h2, (pointed_F _), h4, trivial⟩ hr
theorem p53_1 (l : List Pt) (i : Nat) (p : Pt) {E : Env} {res : AV} (hE : PureE Try.prog 53 res E) (h0 : (decide (((i : Nat) : Int) < ((l.length : Nat) : Int))) = true) (h1 : 0 ≤ ((i : Nat) : Int) ∧ ((i : Nat) : Int) < ((l.length : Nat) : Int)) (h2 : ((rowP l).drop (0 + ((Int.toNat ((i : Nat) : Int)) * 3))).take 3 = [.int .i64 p.x, .int .i64 p.y, .int .i64 p.z]) (h4 : (!(spanned p)) = false) (h5 : InR .i64 (((i : Nat) : Int) + 1))
    (hg : G Try.prog E (f53K0 Try.prog) (f53S0 l (i + 1))) : G Try.prog E (f53K0 Try.prog) (f53S0 l i) :=
  segN_step (n := 400) (ds := []) (live := [0, 3]) (m := 0) (evs := [.b true, .ld (.agg [.int .i64 p.x, .int .i64 p.y, .int .i64 p.z]), .v (.bool (spanned p)), .b false, .stop]) (obs := [(decide (((i : Nat) : Int) < ((l.length : Nat) : Int))) = true, 0 ≤ ((i : Nat) : Int) ∧ ((i : Nat) : Int) < ((l.length : Nat) : Int), ((rowP l).drop (0 + ((Int.toNat ((i : Nat) : Int)) * 3))).take 3 = [.int .i64 p.x, .int .i64 p.y, .int .i64 p.z], PureF Try.prog (.clos 65 [] []) [.agg [.int .i64 p.x, .int .i64 p.y, .int .i64 p.z]] (.bool (spanned p)), (!(spanned p)) = false, InR .i64 (((i : Nat) : Int) + 1)]) hE.2.1 (hE.nogh _) mixed (by kernel_rfl) ⟨h0, h1, h2, (pointed_F _), h4, h5, trivial⟩ hg
theorem p53_2 (l : List Pt) (i : Nat)  {E : Env} {res : AV} (hE : PureE Try.prog 53 res E) (h0 : (decide (((i : Nat) : Int) < ((l.length : Nat) : Int))) = false)
    (hr : .int .i64 0 = res) : G Try.prog E (f53K0 Try.prog) (f53S0 l i) :=
  end_step (n := 400) (evs := [.b false]) (obs := [(decide (((i : Nat) : Int) < ((l.length : Nat) : Int))) = false]) hE Try.func53 mixed (by kernel_rfl) ⟨h0, trivial⟩ hr
theorem checkPath_ok (l : List Pt) (hl : l.length ≤ 1000) : Pure Try.prog 53 [.rsl (rowP l) 0 l.length] (.int .i64 (checkP l)) := pure_of Try.func53 f53b fun E hE => by
  rcases Bool.eq_false_or_eq_true (!(within ((l.length : Nat) : Int) 3 60)) with h | h
  · exact p53_e l hE h (by have h' : within (l.length : Int) 3 60 = false := by simpa using h
                           simp [checkP, h'])
  · have h' : within (l.length : Int) 3 60 = true := by simpa using h
    refine p53_s l hE h (search_ind (Gi := fun i => G Try.prog E (f53K0 Try.prog) (f53S0 l i)) (p := fun p => !spanned p) (l := l) (v := idxFrom (fun p => !spanned p) l 0)
      (fun i a h1 hp hv => have hi := get_lt h1; p53_0 l i a hE (by simpa using hi) (by omega) (row_get cP (fun _ => rfl) _ _ _ h1) hp ?_)
      (fun i a h1 hp hg => have hi := get_lt h1; p53_1 l i a hE (by simpa using hi) (by omega) (row_get cP (fun _ => rfl) _ _ _ h1) hp (by unfold InR; omega) hg)
      (fun i h1 hv => p53_2 l i hE (by simpa using h1) ?_) l.length 0 (by omega) rfl)
    · have h2 : l.any (fun p => !spanned p) = true := by rw [← idxFrom_ge (i := 0), ← hv]; simp
      simp only [checkP, h', h2, Bool.not_true, cond_true, cond_false]
    · have h2 : l.any (fun p => !spanned p) = false := by rw [← idxFrom_ge (i := 0), ← hv]; rfl
      simp only [checkP, h', h2, Bool.not_true, cond_true, cond_false]
theorem checkPath_F (l : List Pt) (hl : l.length ≤ 1000) : PureF Try.prog (.clos 53 [] []) [.rsl (rowP l) 0 l.length] (.int .i64 (checkP l)) := pureF_of Try.func53 (by kernel_rfl) f53b (by simpa using checkPath_ok l hl)
theorem f48b : Try.f48.body = some (bodyAt Try.prog 48) := by kernel_rfl
theorem p48_0 (l : List Pt) (m : Mot) (x : Lim) (hl : l.length ≤ 1000) {E : Env} {res : AV} (hE : PureE Try.prog 48 res E) (h1 : ((checkP l) != 0) = true)
    (hr : .int .i64 (checkP l) = res) : G Try.prog E [.code (bodyAt Try.prog 48)] ⟨[.rsl (rowP l) 0 l.length, .agg [.int .i64 m.top, .int .i64 m.ease, .int .i64 m.jerk], .agg [.int .i64 x.side, .int .i64 x.low, .int .i64 x.high]] ++ unds (Try.f48.ntmps - 3), []⟩ :=
  end_step (n := 400) (evs := [.v (.int .i64 (checkP l)), .b true]) (obs := [PureF Try.prog (.clos 53 [] []) [.rsl (rowP l) 0 l.length] (.int .i64 (checkP l)), ((checkP l) != 0) = true]) hE Try.func48 mixed (by kernel_rfl) ⟨(checkPath_F l hl), h1, trivial⟩ hr
theorem p48_1 (l : List Pt) (m : Mot) (x : Lim) (hl : l.length ≤ 1000) {E : Env} {res : AV} (hE : PureE Try.prog 48 res E) (h1 : ((checkP l) != 0) = false) (h3 : ((checkM m) != 0) = true)
    (hr : .int .i64 (checkM m) = res) : G Try.prog E [.code (bodyAt Try.prog 48)] ⟨[.rsl (rowP l) 0 l.length, .agg [.int .i64 m.top, .int .i64 m.ease, .int .i64 m.jerk], .agg [.int .i64 x.side, .int .i64 x.low, .int .i64 x.high]] ++ unds (Try.f48.ntmps - 3), []⟩ :=
  end_step (n := 400) (evs := [.v (.int .i64 (checkP l)), .b false, .v (.int .i64 (checkM m)), .b true]) (obs := [PureF Try.prog (.clos 53 [] []) [.rsl (rowP l) 0 l.length] (.int .i64 (checkP l)), ((checkP l) != 0) = false, PureF Try.prog (.clos 64 [] []) [.agg [.int .i64 m.top, .int .i64 m.ease, .int .i64 m.jerk]] (.int .i64 (checkM m)), ((checkM m) != 0) = true]) hE Try.func48 mixed (by kernel_rfl) ⟨(checkPath_F l hl), h1, (checkMotor_F _), h3, trivial⟩ hr
theorem p48_2 (l : List Pt) (m : Mot) (x : Lim) (hl : l.length ≤ 1000) {E : Env} {res : AV} (hE : PureE Try.prog 48 res E) (h1 : ((checkP l) != 0) = false) (h3 : ((checkM m) != 0) = false)
    (hr : .int .i64 (checkX x) = res) : G Try.prog E [.code (bodyAt Try.prog 48)] ⟨[.rsl (rowP l) 0 l.length, .agg [.int .i64 m.top, .int .i64 m.ease, .int .i64 m.jerk], .agg [.int .i64 x.side, .int .i64 x.low, .int .i64 x.high]] ++ unds (Try.f48.ntmps - 3), []⟩ :=
  end_step (n := 400) (evs := [.v (.int .i64 (checkP l)), .b false, .v (.int .i64 (checkM m)), .b false, .v (.int .i64 (checkX x))]) (obs := [PureF Try.prog (.clos 53 [] []) [.rsl (rowP l) 0 l.length] (.int .i64 (checkP l)), ((checkP l) != 0) = false, PureF Try.prog (.clos 64 [] []) [.agg [.int .i64 m.top, .int .i64 m.ease, .int .i64 m.jerk]] (.int .i64 (checkM m)), ((checkM m) != 0) = false, PureF Try.prog (.clos 79 [] []) [.agg [.int .i64 x.side, .int .i64 x.low, .int .i64 x.high]] (.int .i64 (checkX x))]) hE Try.func48 mixed (by kernel_rfl) ⟨(checkPath_F l hl), h1, (checkMotor_F _), h3, (checkLimit_F _), trivial⟩ hr
theorem checked_ok (l : List Pt) (m : Mot) (x : Lim) (hl : l.length ≤ 1000) : Pure Try.prog 48 [.rsl (rowP l) 0 l.length, .agg [.int .i64 m.top, .int .i64 m.ease, .int .i64 m.jerk], .agg [.int .i64 x.side, .int .i64 x.low, .int .i64 x.high]] (.int .i64 (checkedE l m x)) := pure_of Try.func48 f48b fun E hE => by
  rcases Bool.eq_false_or_eq_true ((checkP l) != 0) with hc0 | hc0
  · exact p48_0 l m x hl hE hc0 (by simp only [checkedE, *, Bool.not_true, Bool.not_false, Bool.true_and, Bool.false_and, Bool.true_or, Bool.false_or, cond_true, cond_false])
  · rcases Bool.eq_false_or_eq_true ((checkM m) != 0) with hc1 | hc1
    · exact p48_1 l m x hl hE hc0 hc1 (by simp only [checkedE, *, Bool.not_true, Bool.not_false, Bool.true_and, Bool.false_and, Bool.true_or, Bool.false_or, cond_true, cond_false])
    · exact p48_2 l m x hl hE hc0 hc1 (by simp only [checkedE, *, Bool.not_true, Bool.not_false, Bool.true_and, Bool.false_and, Bool.true_or, Bool.false_or, cond_true, cond_false])
theorem checked_F (l : List Pt) (m : Mot) (x : Lim) (hl : l.length ≤ 1000) : PureF Try.prog (.clos 48 [] []) [.rsl (rowP l) 0 l.length, .agg [.int .i64 m.top, .int .i64 m.ease, .int .i64 m.jerk], .agg [.int .i64 x.side, .int .i64 x.low, .int .i64 x.high]] (.int .i64 (checkedE l m x)) := pureF_of Try.func48 (by kernel_rfl) f48b (by simpa using checked_ok l m x hl)
theorem f83b : Try.f83.body = some (bodyAt Try.prog 83) := by kernel_rfl
theorem p83_0 (l : List Pt) (ph : Int) (p : Pt) {E : Env} {res : AV} (hE : PureE Try.prog 83 res E) (h0 : ((l.length : Nat) : Int) ≠ 0) (h1 : InR .i64 ((Int.tmod ph ((l.length : Nat) : Int)) + ((l.length : Nat) : Int))) (h2 : ((l.length : Nat) : Int) ≠ 0) (h3 : 0 ≤ (Int.tmod ((Int.tmod ph ((l.length : Nat) : Int)) + ((l.length : Nat) : Int)) ((l.length : Nat) : Int)) ∧ (Int.tmod ((Int.tmod ph ((l.length : Nat) : Int)) + ((l.length : Nat) : Int)) ((l.length : Nat) : Int)) < ((l.length : Nat) : Int)) (h4 : ((rowP l).drop (0 + ((Int.toNat (Int.tmod ((Int.tmod ph ((l.length : Nat) : Int)) + ((l.length : Nat) : Int)) ((l.length : Nat) : Int))) * 3))).take 3 = [.int .i64 p.x, .int .i64 p.y, .int .i64 p.z])
    (hr : .agg [.int .i64 p.x, .int .i64 p.y, .int .i64 p.z] = res) : G Try.prog E [.code (bodyAt Try.prog 83)] ⟨[.rsl (rowP l) 0 l.length, .int .i64 ph] ++ unds (Try.f83.ntmps - 2), []⟩ :=
  end_step (n := 400) (evs := [.ld (.agg [.int .i64 p.x, .int .i64 p.y, .int .i64 p.z])]) (obs := [((l.length : Nat) : Int) ≠ 0, InR .i64 ((Int.tmod ph ((l.length : Nat) : Int)) + ((l.length : Nat) : Int)), ((l.length : Nat) : Int) ≠ 0, 0 ≤ (Int.tmod ((Int.tmod ph ((l.length : Nat) : Int)) + ((l.length : Nat) : Int)) ((l.length : Nat) : Int)) ∧ (Int.tmod ((Int.tmod ph ((l.length : Nat) : Int)) + ((l.length : Nat) : Int)) ((l.length : Nat) : Int)) < ((l.length : Nat) : Int), ((rowP l).drop (0 + ((Int.toNat (Int.tmod ((Int.tmod ph ((l.length : Nat) : Int)) + ((l.length : Nat) : Int)) ((l.length : Nat) : Int))) * 3))).take 3 = [.int .i64 p.x, .int .i64 p.y, .int .i64 p.z], 3 ≤ 3]) hE Try.func83 mixed (by kernel_rfl) ⟨h0, h1, h2, h3, h4, (by decide), trivial⟩ hr
theorem f68b : Try.f68.body = some (bodyAt Try.prog 68) := by kernel_rfl
theorem p68_0 (p : Pt)  {E : Env} {res : AV} (hE : PureE Try.prog 68 res E) (h0 : InR .i64 (p.x * p.x)) (h1 : InR .i64 (p.y * p.y)) (h2 : InR .i64 ((p.x * p.x) + (p.y * p.y)))
    (hr : .int .i64 ((p.x * p.x) + (p.y * p.y)) = res) : G Try.prog E [.code (bodyAt Try.prog 68)] ⟨[.agg [.int .i64 p.x, .int .i64 p.y, .int .i64 p.z]] ++ unds (Try.f68.ntmps - 1), []⟩ :=
  end_step (n := 400) (evs := []) (obs := [InR .i64 (p.x * p.x), InR .i64 (p.y * p.y), InR .i64 ((p.x * p.x) + (p.y * p.y))]) hE Try.func68 mixed (by kernel_rfl) ⟨h0, h1, h2, trivial⟩ hr
theorem side_ok (p : Pt) (hp : sideOk p) : Pure Try.prog 68 [.agg [.int .i64 p.x, .int .i64 p.y, .int .i64 p.z]] (.int .i64 (side p)) := pure_of Try.func68 f68b fun E hE => by
  exact p68_0 p  hE (by unfold sideOk at hp; obtain ⟨h0, h1, h2⟩ := hp; assumption) (by unfold sideOk at hp; obtain ⟨h0, h1, h2⟩ := hp; assumption) (by unfold sideOk at hp; obtain ⟨h0, h1, h2⟩ := hp; assumption) (rfl)
theorem side_F (p : Pt) (hp : sideOk p) : PureF Try.prog (.clos 68 [] []) [.agg [.int .i64 p.x, .int .i64 p.y, .int .i64 p.z]] (.int .i64 (side p)) := pureF_of Try.func68 (by kernel_rfl) f68b (by simpa using side_ok p hp)
theorem f71b : Try.f71.body = some (bodyAt Try.prog 71) := by kernel_rfl
theorem p71_0 (p : Pt)  {E : Env} {res : AV} (hE : PureE Try.prog 71 res E) (h0 : InR .i64 (p.x * p.x)) (h1 : InR .i64 (p.y * p.y)) (h2 : InR .i64 ((p.x * p.x) + (p.y * p.y)))
    (hr : .int .i64 ((p.x * p.x) + (p.y * p.y)) = res) : G Try.prog E [.code (bodyAt Try.prog 71)] ⟨[.agg [.int .i64 p.x, .int .i64 p.y, .int .i64 p.z]] ++ unds (Try.f71.ntmps - 1), []⟩ :=
  end_step (n := 400) (evs := []) (obs := [InR .i64 (p.x * p.x), InR .i64 (p.y * p.y), InR .i64 ((p.x * p.x) + (p.y * p.y))]) hE Try.func71 mixed (by kernel_rfl) ⟨h0, h1, h2, trivial⟩ hr
theorem sideR_ok (p : Pt) (hp : sideOk p) : Pure Try.prog 71 [.agg [.int .i64 p.x, .int .i64 p.y, .int .i64 p.z]] (.int .i64 (side p)) := pure_of Try.func71 f71b fun E hE => by
  exact p71_0 p  hE (by unfold sideOk at hp; obtain ⟨h0, h1, h2⟩ := hp; assumption) (by unfold sideOk at hp; obtain ⟨h0, h1, h2⟩ := hp; assumption) (by unfold sideOk at hp; obtain ⟨h0, h1, h2⟩ := hp; assumption) (rfl)
theorem sideR_F (p : Pt) (hp : sideOk p) : PureF Try.prog (.clos 71 [] []) [.agg [.int .i64 p.x, .int .i64 p.y, .int .i64 p.z]] (.int .i64 (side p)) := pureF_of Try.func71 (by kernel_rfl) f71b (by simpa using sideR_ok p hp)
theorem f72b : Try.f72.body = some (bodyAt Try.prog 72) := by kernel_rfl
theorem p72_0 (p : Pt) (x : Lim)  {E : Env} {res : AV} (hE : PureE Try.prog 72 res E) (h0 : PureF Try.prog (.clos 68 [] []) [.agg [.int .i64 p.x, .int .i64 p.y, .int .i64 p.z]] (.int .i64 (side p))) (h1 : InR .i64 (x.side * x.side)) (h2 : (decide ((side p) ≤ (x.side * x.side))) = true)
    (hr : .bool (within p.z x.low x.high) = res) : G Try.prog E [.code (bodyAt Try.prog 72)] ⟨[.agg [.int .i64 p.x, .int .i64 p.y, .int .i64 p.z], .agg [.int .i64 x.side, .int .i64 x.low, .int .i64 x.high]] ++ unds (Try.f72.ntmps - 2), []⟩ :=
  end_step (n := 400) (evs := [.v (.int .i64 (side p)), .b true, .v (.bool (within p.z x.low x.high))]) (obs := [PureF Try.prog (.clos 68 [] []) [.agg [.int .i64 p.x, .int .i64 p.y, .int .i64 p.z]] (.int .i64 (side p)), InR .i64 (x.side * x.side), (decide ((side p) ≤ (x.side * x.side))) = true, PureF Try.prog (.clos 51 [] []) [.int .i64 p.z, .int .i64 x.low, .int .i64 x.high] (.bool (within p.z x.low x.high))]) hE Try.func72 mixed (by kernel_rfl) ⟨h0, h1, h2, (within_F _ _ _), trivial⟩ hr
theorem p72_1 (p : Pt) (x : Lim)  {E : Env} {res : AV} (hE : PureE Try.prog 72 res E) (h0 : PureF Try.prog (.clos 68 [] []) [.agg [.int .i64 p.x, .int .i64 p.y, .int .i64 p.z]] (.int .i64 (side p))) (h1 : InR .i64 (x.side * x.side)) (h2 : (decide ((side p) ≤ (x.side * x.side))) = false)
    (hr : .bool false = res) : G Try.prog E [.code (bodyAt Try.prog 72)] ⟨[.agg [.int .i64 p.x, .int .i64 p.y, .int .i64 p.z], .agg [.int .i64 x.side, .int .i64 x.low, .int .i64 x.high]] ++ unds (Try.f72.ntmps - 2), []⟩ :=
  end_step (n := 400) (evs := [.v (.int .i64 (side p)), .b false]) (obs := [PureF Try.prog (.clos 68 [] []) [.agg [.int .i64 p.x, .int .i64 p.y, .int .i64 p.z]] (.int .i64 (side p)), InR .i64 (x.side * x.side), (decide ((side p) ≤ (x.side * x.side))) = false]) hE Try.func72 mixed (by kernel_rfl) ⟨h0, h1, h2, trivial⟩ hr
theorem keeps_ok (p : Pt) (x : Lim) (hp : sideOk p) (hx : limitOk x = true) : Pure Try.prog 72 [.agg [.int .i64 p.x, .int .i64 p.y, .int .i64 p.z], .agg [.int .i64 x.side, .int .i64 x.low, .int .i64 x.high]] (.bool (keptP p x)) := pure_of Try.func72 f72b fun E hE => by
  rcases Bool.eq_false_or_eq_true (decide ((side p) ≤ (x.side * x.side))) with hc0 | hc0
  · exact p72_0 p x  hE (side_F _ hp) (limOk_sq hx) hc0 (by simp only [keptP, *, Bool.not_true, Bool.not_false, Bool.true_and, Bool.false_and, Bool.true_or, Bool.false_or, cond_true, cond_false])
  · exact p72_1 p x  hE (side_F _ hp) (limOk_sq hx) hc0 (by simp only [keptP, *, Bool.not_true, Bool.not_false, Bool.true_and, Bool.false_and, Bool.true_or, Bool.false_or, cond_true, cond_false])
theorem keeps_F (p : Pt) (x : Lim) (hp : sideOk p) (hx : limitOk x = true) : PureF Try.prog (.clos 72 [] []) [.agg [.int .i64 p.x, .int .i64 p.y, .int .i64 p.z], .agg [.int .i64 x.side, .int .i64 x.low, .int .i64 x.high]] (.bool (keptP p x)) := pureF_of Try.func72 (by kernel_rfl) f72b (by simpa using keeps_ok p x hp hx)
theorem f73b : Try.f73.body = some (bodyAt Try.prog 73) := by kernel_rfl
theorem p73_0 (p : Pt) (x : Lim)  {E : Env} {res : AV} (hE : PureE Try.prog 73 res E) (h0 : PureF Try.prog (.clos 71 [] []) [.agg [.int .i64 p.x, .int .i64 p.y, .int .i64 p.z]] (.int .i64 (side p))) (h1 : InR .i64 (x.side * x.side)) (h2 : (decide ((side p) ≤ (x.side * x.side))) = true)
    (hr : .bool (within p.z x.low x.high) = res) : G Try.prog E [.code (bodyAt Try.prog 73)] ⟨[.agg [.int .i64 p.x, .int .i64 p.y, .int .i64 p.z], .agg [.int .i64 x.side, .int .i64 x.low, .int .i64 x.high]] ++ unds (Try.f73.ntmps - 2), []⟩ :=
  end_step (n := 400) (evs := [.v (.int .i64 (side p)), .b true, .v (.bool (within p.z x.low x.high))]) (obs := [PureF Try.prog (.clos 71 [] []) [.agg [.int .i64 p.x, .int .i64 p.y, .int .i64 p.z]] (.int .i64 (side p)), InR .i64 (x.side * x.side), (decide ((side p) ≤ (x.side * x.side))) = true, PureF Try.prog (.clos 54 [] []) [.int .i64 p.z, .int .i64 x.low, .int .i64 x.high] (.bool (within p.z x.low x.high))]) hE Try.func73 mixed (by kernel_rfl) ⟨h0, h1, h2, (from_F _ _ _), trivial⟩ hr
theorem p73_1 (p : Pt) (x : Lim)  {E : Env} {res : AV} (hE : PureE Try.prog 73 res E) (h0 : PureF Try.prog (.clos 71 [] []) [.agg [.int .i64 p.x, .int .i64 p.y, .int .i64 p.z]] (.int .i64 (side p))) (h1 : InR .i64 (x.side * x.side)) (h2 : (decide ((side p) ≤ (x.side * x.side))) = false)
    (hr : .bool false = res) : G Try.prog E [.code (bodyAt Try.prog 73)] ⟨[.agg [.int .i64 p.x, .int .i64 p.y, .int .i64 p.z], .agg [.int .i64 x.side, .int .i64 x.low, .int .i64 x.high]] ++ unds (Try.f73.ntmps - 2), []⟩ :=
  end_step (n := 400) (evs := [.v (.int .i64 (side p)), .b false]) (obs := [PureF Try.prog (.clos 71 [] []) [.agg [.int .i64 p.x, .int .i64 p.y, .int .i64 p.z]] (.int .i64 (side p)), InR .i64 (x.side * x.side), (decide ((side p) ≤ (x.side * x.side))) = false]) hE Try.func73 mixed (by kernel_rfl) ⟨h0, h1, h2, trivial⟩ hr
theorem kept_ok (p : Pt) (x : Lim) (hp : sideOk p) (hx : limitOk x = true) : Pure Try.prog 73 [.agg [.int .i64 p.x, .int .i64 p.y, .int .i64 p.z], .agg [.int .i64 x.side, .int .i64 x.low, .int .i64 x.high]] (.bool (keptP p x)) := pure_of Try.func73 f73b fun E hE => by
  rcases Bool.eq_false_or_eq_true (decide ((side p) ≤ (x.side * x.side))) with hc0 | hc0
  · exact p73_0 p x  hE (sideR_F _ hp) (limOk_sq hx) hc0 (by simp only [keptP, *, Bool.not_true, Bool.not_false, Bool.true_and, Bool.false_and, Bool.true_or, Bool.false_or, cond_true, cond_false])
  · exact p73_1 p x  hE (sideR_F _ hp) (limOk_sq hx) hc0 (by simp only [keptP, *, Bool.not_true, Bool.not_false, Bool.true_and, Bool.false_and, Bool.true_or, Bool.false_or, cond_true, cond_false])
theorem kept_F (p : Pt) (x : Lim) (hp : sideOk p) (hx : limitOk x = true) : PureF Try.prog (.clos 73 [] []) [.agg [.int .i64 p.x, .int .i64 p.y, .int .i64 p.z], .agg [.int .i64 x.side, .int .i64 x.low, .int .i64 x.high]] (.bool (keptP p x)) := pureF_of Try.func73 (by kernel_rfl) f73b (by simpa using kept_ok p x hp hx)
theorem f70b : Try.f70.body = some (bodyAt Try.prog 70) := by kernel_rfl
theorem p70_0 (m : Mot) (fails : Bool)  {E : Env} {res : AV} (hE : PureE Try.prog 70 res E) (h0 : fails = true)
    (hr : .int .i64 m.jerk = res) : G Try.prog E [.code (bodyAt Try.prog 70)] ⟨[.agg [.int .i64 m.top, .int .i64 m.ease, .int .i64 m.jerk], .bool fails] ++ unds (Try.f70.ntmps - 2), []⟩ :=
  end_step (n := 400) (evs := [.b true]) (obs := [fails = true]) hE Try.func70 mixed (by kernel_rfl) ⟨h0, trivial⟩ hr
theorem p70_1 (m : Mot) (fails : Bool)  {E : Env} {res : AV} (hE : PureE Try.prog 70 res E) (h0 : fails = false)
    (hr : .int .i64 m.ease = res) : G Try.prog E [.code (bodyAt Try.prog 70)] ⟨[.agg [.int .i64 m.top, .int .i64 m.ease, .int .i64 m.jerk], .bool fails] ++ unds (Try.f70.ntmps - 2), []⟩ :=
  end_step (n := 400) (evs := [.b false]) (obs := [fails = false]) hE Try.func70 mixed (by kernel_rfl) ⟨h0, trivial⟩ hr
theorem step_ok (m : Mot) (fails : Bool)  : Pure Try.prog 70 [.agg [.int .i64 m.top, .int .i64 m.ease, .int .i64 m.jerk], .bool fails] (.int .i64 (ease m fails)) := pure_of Try.func70 f70b fun E hE => by
  rcases Bool.eq_false_or_eq_true fails with hc0 | hc0
  · exact p70_0 m fails  hE hc0 (by simp_all [ease])
  · exact p70_1 m fails  hE hc0 (by simp_all [ease])
theorem step_F (m : Mot) (fails : Bool)  : PureF Try.prog (.clos 70 [] []) [.agg [.int .i64 m.top, .int .i64 m.ease, .int .i64 m.jerk], .bool fails] (.int .i64 (ease m fails)) := pureF_of Try.func70 (by kernel_rfl) f70b (by simpa using step_ok m fails )
theorem f52b : Try.f52.body = some (bodyAt Try.prog 52) := by kernel_rfl
theorem p52_0 (l : List Pt) (c : Chg)  {E : Env} {res : AV} (hE : PureE Try.prog 52 res E) (h0 : InR .i64 (c.phase + c.after)) (h1 : PureF Try.prog (.clos 83 [] []) [.rsl (rowP l) 0 l.length, .int .i64 (c.phase + c.after)] (.agg [.int .i64 ((atP l (c.phase + c.after)).x), .int .i64 ((atP l (c.phase + c.after)).y), .int .i64 ((atP l (c.phase + c.after)).z)])) (h2 : PureF Try.prog (.clos 83 [] []) [.rsl (rowP l) 0 l.length, .int .i64 c.phase] (.agg [.int .i64 ((atP l c.phase).x), .int .i64 ((atP l c.phase).y), .int .i64 ((atP l c.phase).z)])) (h3 : InR .i64 (c.phase - c.before)) (h4 : PureF Try.prog (.clos 83 [] []) [.rsl (rowP l) 0 l.length, .int .i64 (c.phase - c.before)] (.agg [.int .i64 ((atP l (c.phase - c.before)).x), .int .i64 ((atP l (c.phase - c.before)).y), .int .i64 ((atP l (c.phase - c.before)).z)])) (h8 : InR .i64 (2 * (atP l c.phase).x)) (h9 : InR .i64 ((atP l (c.phase + c.after)).x - (2 * (atP l c.phase).x))) (h10 : InR .i64 (((atP l (c.phase + c.after)).x - (2 * (atP l c.phase).x)) + (atP l (c.phase - c.before)).x)) (h11 : InR .i64 (2 * (atP l c.phase).y)) (h12 : InR .i64 ((atP l (c.phase + c.after)).y - (2 * (atP l c.phase).y))) (h13 : InR .i64 (((atP l (c.phase + c.after)).y - (2 * (atP l c.phase).y)) + (atP l (c.phase - c.before)).y)) (h14 : InR .i64 (2 * (atP l c.phase).z)) (h15 : InR .i64 ((atP l (c.phase + c.after)).z - (2 * (atP l c.phase).z))) (h16 : InR .i64 (((atP l (c.phase + c.after)).z - (2 * (atP l c.phase).z)) + (atP l (c.phase - c.before)).z)) (h17 : InR .i64 ((((atP l (c.phase + c.after)).z - (2 * (atP l c.phase).z)) + (atP l (c.phase - c.before)).z) + 1000))
    (hr : .agg [.int .i64 (((atP l (c.phase + c.after)).x - (2 * (atP l c.phase).x)) + (atP l (c.phase - c.before)).x), .int .i64 (((atP l (c.phase + c.after)).y - (2 * (atP l c.phase).y)) + (atP l (c.phase - c.before)).y), .int .i64 ((((atP l (c.phase + c.after)).z - (2 * (atP l c.phase).z)) + (atP l (c.phase - c.before)).z) + 1000)] = res) : G Try.prog E [.code (bodyAt Try.prog 52)] ⟨[.rsl (rowP l) 0 l.length, .agg [.int .i64 c.phase, .int .i64 c.before, .int .i64 c.after]] ++ unds (Try.f52.ntmps - 2), []⟩ :=
  end_step (n := 400) (evs := [.v (.agg [.int .i64 ((atP l (c.phase + c.after)).x), .int .i64 ((atP l (c.phase + c.after)).y), .int .i64 ((atP l (c.phase + c.after)).z)]), .v (.agg [.int .i64 ((atP l c.phase).x), .int .i64 ((atP l c.phase).y), .int .i64 ((atP l c.phase).z)]), .v (.agg [.int .i64 ((atP l (c.phase - c.before)).x), .int .i64 ((atP l (c.phase - c.before)).y), .int .i64 ((atP l (c.phase - c.before)).z)])]) (obs := [InR .i64 (c.phase + c.after), PureF Try.prog (.clos 83 [] []) [.rsl (rowP l) 0 l.length, .int .i64 (c.phase + c.after)] (.agg [.int .i64 ((atP l (c.phase + c.after)).x), .int .i64 ((atP l (c.phase + c.after)).y), .int .i64 ((atP l (c.phase + c.after)).z)]), PureF Try.prog (.clos 83 [] []) [.rsl (rowP l) 0 l.length, .int .i64 c.phase] (.agg [.int .i64 ((atP l c.phase).x), .int .i64 ((atP l c.phase).y), .int .i64 ((atP l c.phase).z)]), InR .i64 (c.phase - c.before), PureF Try.prog (.clos 83 [] []) [.rsl (rowP l) 0 l.length, .int .i64 (c.phase - c.before)] (.agg [.int .i64 ((atP l (c.phase - c.before)).x), .int .i64 ((atP l (c.phase - c.before)).y), .int .i64 ((atP l (c.phase - c.before)).z)]), 3 ≤ 3, 3 ≤ 3, 3 ≤ 3, InR .i64 (2 * (atP l c.phase).x), InR .i64 ((atP l (c.phase + c.after)).x - (2 * (atP l c.phase).x)), InR .i64 (((atP l (c.phase + c.after)).x - (2 * (atP l c.phase).x)) + (atP l (c.phase - c.before)).x), InR .i64 (2 * (atP l c.phase).y), InR .i64 ((atP l (c.phase + c.after)).y - (2 * (atP l c.phase).y)), InR .i64 (((atP l (c.phase + c.after)).y - (2 * (atP l c.phase).y)) + (atP l (c.phase - c.before)).y), InR .i64 (2 * (atP l c.phase).z), InR .i64 ((atP l (c.phase + c.after)).z - (2 * (atP l c.phase).z)), InR .i64 (((atP l (c.phase + c.after)).z - (2 * (atP l c.phase).z)) + (atP l (c.phase - c.before)).z), InR .i64 ((((atP l (c.phase + c.after)).z - (2 * (atP l c.phase).z)) + (atP l (c.phase - c.before)).z) + 1000), 3 ≤ 3]) hE Try.func52 mixed (by kernel_rfl) ⟨h0, h1, h2, h3, h4, (by decide), (by decide), (by decide), h8, h9, h10, h11, h12, h13, h14, h15, h16, h17, (by decide), trivial⟩ hr
theorem f55b : Try.f55.body = some (bodyAt Try.prog 55) := by kernel_rfl
theorem p55_0 (l : List Pt) (c : Chg) (a b d : Pt) {E : Env} {res : AV} (hE : PureE Try.prog 55 res E) (h0 : InR .i64 (c.phase + c.after)) (h1 : ((l.length : Nat) : Int) ≠ 0) (h2 : 0 ≤ (Int.tmod (c.phase + c.after) ((l.length : Nat) : Int)) ∧ (Int.tmod (c.phase + c.after) ((l.length : Nat) : Int)) < ((l.length : Nat) : Int)) (h3 : ((rowP l).drop (0 + ((Int.toNat (Int.tmod (c.phase + c.after) ((l.length : Nat) : Int))) * 3))).take 3 = [.int .i64 a.x, .int .i64 a.y, .int .i64 a.z]) (h4 : 0 ≤ c.phase ∧ c.phase < ((l.length : Nat) : Int)) (h5 : ((rowP l).drop (0 + ((Int.toNat c.phase) * 3))).take 3 = [.int .i64 b.x, .int .i64 b.y, .int .i64 b.z]) (h6 : InR .i64 (c.phase - c.before)) (h7 : ((l.length : Nat) : Int) ≠ 0) (h8 : InR .i64 ((Int.tmod (c.phase - c.before) ((l.length : Nat) : Int)) + ((l.length : Nat) : Int))) (h9 : ((l.length : Nat) : Int) ≠ 0) (h10 : 0 ≤ (Int.tmod ((Int.tmod (c.phase - c.before) ((l.length : Nat) : Int)) + ((l.length : Nat) : Int)) ((l.length : Nat) : Int)) ∧ (Int.tmod ((Int.tmod (c.phase - c.before) ((l.length : Nat) : Int)) + ((l.length : Nat) : Int)) ((l.length : Nat) : Int)) < ((l.length : Nat) : Int)) (h11 : ((rowP l).drop (0 + ((Int.toNat (Int.tmod ((Int.tmod (c.phase - c.before) ((l.length : Nat) : Int)) + ((l.length : Nat) : Int)) ((l.length : Nat) : Int))) * 3))).take 3 = [.int .i64 d.x, .int .i64 d.y, .int .i64 d.z]) (h15 : InR .i64 (2 * b.x)) (h16 : InR .i64 (a.x - (2 * b.x))) (h17 : InR .i64 ((a.x - (2 * b.x)) + d.x)) (h18 : InR .i64 (2 * b.y)) (h19 : InR .i64 (a.y - (2 * b.y))) (h20 : InR .i64 ((a.y - (2 * b.y)) + d.y)) (h21 : InR .i64 (2 * b.z)) (h22 : InR .i64 (a.z - (2 * b.z))) (h23 : InR .i64 ((a.z - (2 * b.z)) + d.z)) (h24 : InR .i64 (((a.z - (2 * b.z)) + d.z) + 1000))
    (hr : .agg [.int .i64 ((a.x - (2 * b.x)) + d.x), .int .i64 ((a.y - (2 * b.y)) + d.y), .int .i64 (((a.z - (2 * b.z)) + d.z) + 1000)] = res) : G Try.prog E [.code (bodyAt Try.prog 55)] ⟨[.rsl (rowP l) 0 l.length, .agg [.int .i64 c.phase, .int .i64 c.before, .int .i64 c.after]] ++ unds (Try.f55.ntmps - 2), []⟩ :=
  end_step (n := 400) (evs := [.auto, .auto, .ld (.agg [.int .i64 a.x, .int .i64 a.y, .int .i64 a.z]), .auto, .ld (.agg [.int .i64 b.x, .int .i64 b.y, .int .i64 b.z]), .auto, .auto, .ld (.agg [.int .i64 d.x, .int .i64 d.y, .int .i64 d.z])]) (obs := [InR .i64 (c.phase + c.after), ((l.length : Nat) : Int) ≠ 0, 0 ≤ (Int.tmod (c.phase + c.after) ((l.length : Nat) : Int)) ∧ (Int.tmod (c.phase + c.after) ((l.length : Nat) : Int)) < ((l.length : Nat) : Int), ((rowP l).drop (0 + ((Int.toNat (Int.tmod (c.phase + c.after) ((l.length : Nat) : Int))) * 3))).take 3 = [.int .i64 a.x, .int .i64 a.y, .int .i64 a.z], 0 ≤ c.phase ∧ c.phase < ((l.length : Nat) : Int), ((rowP l).drop (0 + ((Int.toNat c.phase) * 3))).take 3 = [.int .i64 b.x, .int .i64 b.y, .int .i64 b.z], InR .i64 (c.phase - c.before), ((l.length : Nat) : Int) ≠ 0, InR .i64 ((Int.tmod (c.phase - c.before) ((l.length : Nat) : Int)) + ((l.length : Nat) : Int)), ((l.length : Nat) : Int) ≠ 0, 0 ≤ (Int.tmod ((Int.tmod (c.phase - c.before) ((l.length : Nat) : Int)) + ((l.length : Nat) : Int)) ((l.length : Nat) : Int)) ∧ (Int.tmod ((Int.tmod (c.phase - c.before) ((l.length : Nat) : Int)) + ((l.length : Nat) : Int)) ((l.length : Nat) : Int)) < ((l.length : Nat) : Int), ((rowP l).drop (0 + ((Int.toNat (Int.tmod ((Int.tmod (c.phase - c.before) ((l.length : Nat) : Int)) + ((l.length : Nat) : Int)) ((l.length : Nat) : Int))) * 3))).take 3 = [.int .i64 d.x, .int .i64 d.y, .int .i64 d.z], 3 ≤ 3, 3 ≤ 3, 3 ≤ 3, InR .i64 (2 * b.x), InR .i64 (a.x - (2 * b.x)), InR .i64 ((a.x - (2 * b.x)) + d.x), InR .i64 (2 * b.y), InR .i64 (a.y - (2 * b.y)), InR .i64 ((a.y - (2 * b.y)) + d.y), InR .i64 (2 * b.z), InR .i64 (a.z - (2 * b.z)), InR .i64 ((a.z - (2 * b.z)) + d.z), InR .i64 (((a.z - (2 * b.z)) + d.z) + 1000), 3 ≤ 3]) hE Try.func55 mixed (by kernel_rfl) ⟨h0, h1, h2, h3, h4, h5, h6, h7, h8, h9, h10, h11, (by decide), (by decide), (by decide), h15, h16, h17, h18, h19, h20, h21, h22, h23, h24, (by decide), trivial⟩ hr
end Go.Proofs.Ytideokfbnegkjaa

/- Force: a path's points; what is felt. -/
namespace Go.Proofs.Ytideokfbnegkjaa
open Go Ax
open Go.Proofs

theorem valid_len {l : List Pt} (h : validP l = true) : 3 ≤ l.length ∧ l.length ≤ 60 := by
  simp only [validP, within, Bool.and_eq_true, decide_eq_true_eq] at h
  omega

theorem valid_pt {l : List Pt} (h : validP l = true) {p : Pt} (hp : p ∈ l) : spanned p = true := by
  simp only [validP, Bool.and_eq_true, Bool.not_eq_true'] at h
  have := h.2
  simp only [List.any_eq_false, Bool.not_eq_true', Bool.not_eq_false] at this
  exact this p hp

theorem spanned_bd {p : Pt} (h : spanned p = true) : -10000 ≤ p.x ∧ p.x ≤ 10000 ∧ -10000 ≤ p.y ∧ p.y ≤ 10000 ∧ -10000 ≤ p.z ∧ p.z ≤ 10000 := by
  simp only [spanned, within, Bool.and_eq_true, decide_eq_true_eq] at h
  omega

theorem wrap_bd {ph : Int} {n : Nat} (hn : 0 < n) : 0 ≤ Int.tmod (Int.tmod ph n + n) n ∧ Int.tmod (Int.tmod ph n + n) n < n ∧ -(n : Int) < Int.tmod ph n ∧ Int.tmod ph n < n := by
  have h0 : (0 : Int) < n := by omega
  have h1 := Int.lt_tmod_of_pos ph h0
  have h2 := Int.tmod_lt_of_pos ph h0
  exact ⟨Int.tmod_nonneg _ (by omega), Int.tmod_lt_of_pos _ h0, h1, h2⟩

theorem wrapI_lt {ph : Int} {n : Nat} (hn : 0 < n) : wrapI ph n < n := by
  have := wrap_bd (ph := ph) hn
  unfold wrapI; omega

theorem atP_get {l : List Pt} {ph : Int} (hn : 0 < l.length) : l[wrapI ph l.length]? = some (atP l ph) := by
  have := wrapI_lt (ph := ph) hn
  simp [atP, List.getD, this]

theorem atP_bd {l : List Pt} (h : validP l = true) (ph : Int) : -10000 ≤ (atP l ph).x ∧ (atP l ph).x ≤ 10000 ∧ -10000 ≤ (atP l ph).y ∧ (atP l ph).y ≤ 10000 ∧ -10000 ≤ (atP l ph).z ∧ (atP l ph).z ≤ 10000 := by
  have hl := valid_len h
  exact spanned_bd (valid_pt h (List.mem_of_getElem? (atP_get (ph := ph) (by omega))))

theorem wrap_nonneg {x : Int} {n : Nat} (hn : 0 < n) (hx : 0 ≤ x) : wrapI x n = (Int.tmod x n).toNat := by
  have h0 : (0 : Int) < n := by omega
  have h1 : Int.tmod x n = x % n := Int.tmod_eq_emod_of_nonneg hx
  have h2 : 0 ≤ x % (n : Int) := Int.emod_nonneg _ (by omega)
  have h3 : x % (n : Int) < n := Int.emod_lt_of_pos _ h0
  unfold wrapI
  rw [h1, Int.tmod_eq_emod_of_nonneg (by omega), Int.add_emod_right, Int.emod_emod_of_dvd _ (Int.dvd_refl _)]

theorem wrap_self {x : Int} {n : Nat} (hx : 0 ≤ x) (hn : x < n) : wrapI x n = x.toNat := by
  rw [wrap_nonneg (by omega) hx, Int.tmod_eq_of_lt hx hn]

theorem at_ok (l : List Pt) (ph : Int) (hn : 0 < l.length) (hl : l.length ≤ 1000) : Pure Try.prog 83 [.rsl (rowP l) 0 l.length, .int .i64 ph] (.agg [.int .i64 (atP l ph).x, .int .i64 (atP l ph).y, .int .i64 (atP l ph).z]) := pure_of Try.func83 f83b fun E hE => by
  have hw := wrap_bd (ph := ph) hn
  exact p83_0 l ph (atP l ph) hE (by omega) (by unfold InR; omega) (by omega) ⟨hw.1, hw.2.1⟩ (row_get cP (fun _ => rfl) _ _ _ (atP_get hn)) rfl

theorem at_F (l : List Pt) (ph : Int) (hn : 0 < l.length) (hl : l.length ≤ 1000) : PureF Try.prog (.clos 83 [] []) [.rsl (rowP l) 0 l.length, .int .i64 ph] (.agg [.int .i64 (atP l ph).x, .int .i64 (atP l ph).y, .int .i64 (atP l ph).z]) :=
  pureF_of Try.func83 (by kernel_rfl) f83b (by simpa using at_ok l ph hn hl)

/-- What is felt at a change. -/
def diff2 (a b d : Pt) : Pt := ⟨a.x - 2 * b.x + d.x, a.y - 2 * b.y + d.y, a.z - 2 * b.z + d.z + 1000⟩
def feltP (l : List Pt) (c : Chg) : Pt := diff2 (atP l (c.phase + c.after)) (atP l c.phase) (atP l (c.phase - c.before))
def chgOk (n : Nat) (c : Chg) : Prop := 0 ≤ c.phase ∧ c.phase < n ∧ 0 ≤ c.before ∧ c.before ≤ 10 ∧ 0 ≤ c.after ∧ c.after ≤ 10

theorem feltP_bd {l : List Pt} (h : validP l = true) (c : Chg) : -40000 ≤ (feltP l c).x ∧ (feltP l c).x ≤ 40000 ∧ -40000 ≤ (feltP l c).y ∧ (feltP l c).y ≤ 40000 ∧ -39000 ≤ (feltP l c).z ∧ (feltP l c).z ≤ 41000 := by
  have h1 := atP_bd h (c.phase + c.after)
  have h2 := atP_bd h c.phase
  have h3 := atP_bd h (c.phase - c.before)
  simp only [feltP, diff2]
  omega

theorem sq_bd {x : Int} (h : -40000 ≤ x) (h' : x ≤ 40000) : 0 ≤ x * x ∧ x * x ≤ 1600000000 := by
  rcases Int.le_total 0 x with h0 | h0
  · exact ⟨Int.mul_nonneg h0 h0, Int.mul_le_mul h' h' h0 (by decide)⟩
  · have : x * x = (-x) * (-x) := by rw [Int.neg_mul_neg]
    rw [this]
    exact ⟨Int.mul_nonneg (by omega) (by omega), Int.mul_le_mul (by omega : -x ≤ 40000) (by omega : -x ≤ 40000) (by omega) (by decide)⟩

theorem felt_side {l : List Pt} (h : validP l = true) (c : Chg) : sideOk (feltP l c) := by
  obtain ⟨h1, h2, h3, h4, -⟩ := feltP_bd h c
  have a := sq_bd h1 h2
  have b := sq_bd h3 h4
  unfold sideOk InR; omega

theorem felt_ok (l : List Pt) (c : Chg) (h : validP l = true) (hc : chgOk l.length c) : Pure Try.prog 52 [.rsl (rowP l) 0 l.length, .agg [.int .i64 c.phase, .int .i64 c.before, .int .i64 c.after]]
    (.agg [.int .i64 (feltP l c).x, .int .i64 (feltP l c).y, .int .i64 (feltP l c).z]) := pure_of Try.func52 f52b fun E hE => by
  have hl := valid_len h
  have h1 := atP_bd h (c.phase + c.after)
  have h2 := atP_bd h c.phase
  have h3 := atP_bd h (c.phase - c.before)
  obtain ⟨c1, c2, c3, c4, c5, c6⟩ := hc
  refine p52_0 l c hE ?_ (at_F _ _ (by omega) (by omega)) (at_F _ _ (by omega) (by omega)) ?_ (at_F _ _ (by omega) (by omega)) ?_ ?_ ?_ ?_ ?_ ?_ ?_ ?_ ?_ ?_ rfl <;> (unfold InR; omega)

theorem felt_F (l : List Pt) (c : Chg) (h : validP l = true) (hc : chgOk l.length c) : PureF Try.prog (.clos 52 [] []) [.rsl (rowP l) 0 l.length, .agg [.int .i64 c.phase, .int .i64 c.before, .int .i64 c.after]]
    (.agg [.int .i64 (feltP l c).x, .int .i64 (feltP l c).y, .int .i64 (feltP l c).z]) := pureF_of Try.func52 (by kernel_rfl) f52b (by simpa using felt_ok l c h hc)

theorem feltR_ok (l : List Pt) (c : Chg) (h : validP l = true) (hc : chgOk l.length c) : Pure Try.prog 55 [.rsl (rowP l) 0 l.length, .agg [.int .i64 c.phase, .int .i64 c.before, .int .i64 c.after]]
    (.agg [.int .i64 (feltP l c).x, .int .i64 (feltP l c).y, .int .i64 (feltP l c).z]) := pure_of Try.func55 f55b fun E hE => by
  have hl := valid_len h
  have h1 := atP_bd h (c.phase + c.after)
  have h2 := atP_bd h c.phase
  have h3 := atP_bd h (c.phase - c.before)
  obtain ⟨c1, c2, c3, c4, c5, c6⟩ := hc
  have hn : 0 < l.length := by omega
  have w1 := wrap_nonneg (n := l.length) hn (x := c.phase + c.after) (by omega)
  have w2 := wrap_self (n := l.length) c1 c2
  have t1 : 0 ≤ Int.tmod (c.phase + c.after) l.length := Int.tmod_nonneg _ (by omega)
  have t2 : Int.tmod (c.phase + c.after) l.length < l.length := Int.tmod_lt_of_pos _ (by omega)
  have t3 := wrap_bd (ph := c.phase - c.before) hn
  have g1 := row_get cP (s := 3) (fun _ => rfl) _ _ _ (atP_get (l := l) (ph := c.phase + c.after) hn)
  have g2 := row_get cP (s := 3) (fun _ => rfl) _ _ _ (atP_get (l := l) (ph := c.phase) hn)
  have g3 := row_get cP (s := 3) (fun _ => rfl) _ _ _ (atP_get (l := l) (ph := c.phase - c.before) hn)
  rw [w1] at g1
  rw [w2] at g2
  refine p55_0 l c (atP l (c.phase + c.after)) (atP l c.phase) (atP l (c.phase - c.before)) hE ?_ (by omega) ⟨t1, t2⟩ g1 ⟨c1, c2⟩ g2 ?_ (by omega) ?_ (by omega) ⟨t3.1, t3.2.1⟩ g3 ?_ ?_ ?_ ?_ ?_ ?_ ?_ ?_ ?_ ?_ rfl <;> (unfold InR; omega)

theorem feltR_F (l : List Pt) (c : Chg) (h : validP l = true) (hc : chgOk l.length c) : PureF Try.prog (.clos 55 [] []) [.rsl (rowP l) 0 l.length, .agg [.int .i64 c.phase, .int .i64 c.before, .int .i64 c.after]]
    (.agg [.int .i64 (feltP l c).x, .int .i64 (feltP l c).y, .int .i64 (feltP l c).z]) := pureF_of Try.func55 (by kernel_rfl) f55b (by simpa using feltR_ok l c h hc)


end Go.Proofs.Ytideokfbnegkjaa

/- Force: the changes. -/
namespace Go.Proofs.Ytideokfbnegkjaa
open Go Ax
open Go.Proofs

theorem f69b : Try.f69.body = some (bodyAt Try.prog 69) := by kernel_rfl
def f69K0 (P : Program) : List Item := kAt 400 [.code (bodyAt P 69)] [.stop]
def f69S0 (l : List Pt) (m : Mot) (st : Int) (p g : Nat) (cs : List AV) (ln : Nat) : St := ⟨[.rsl (rowP l) 0 l.length, .junk, .int .i64 st, .junk, .ptr 0 0 0, .junk, .junk, .sl 1 g 0 ln 3, .int .i64 ((p : Nat) : Int), .junk, .junk, .junk, .junk, .junk, .junk, .junk, .junk, .junk, .junk, .junk, .junk, .junk, .junk, .junk, .junk, .junk, .junk, .junk, .junk, .junk, .junk, .junk, .junk, .junk, .junk, .junk, .junk, .junk, .junk, .junk, .junk, .junk, .junk, .junk, .junk, .junk, .junk, .junk, .junk], [⟨true, 0, 1, true, [.int .i64 m.top, .int .i64 m.ease, .int .i64 m.jerk], false⟩, ⟨true, g, 3, true, cs, true⟩]⟩
theorem p69_s (l : List Pt) (m : Mot) (st : Int)  {E : Env} {res : AV} (hE : PureE Try.prog 69 res E) 
    (hg : G Try.prog E (f69K0 Try.prog) (f69S0 l m st 0 0 [] 0)) : G Try.prog E [.code (bodyAt Try.prog 69)] ⟨[.rsl (rowP l) 0 l.length, .agg [.int .i64 m.top, .int .i64 m.ease, .int .i64 m.jerk], .int .i64 st] ++ unds (Try.f69.ntmps - 3), []⟩ :=
  segN_step (n := 400) (ds := [(7, 3)]) (live := [0, 2, 4, 7, 8]) (m := 2) (evs := [.stop]) (obs := []) hE.2.1 (hE.nogh _) mixed (by kernel_rfl) trivial hg
def f69K1 (P : Program) : List Item := kAt 400 [.code (bodyAt P 69)] [.b true, .stop]
def f69S1 (l : List Pt) (m : Mot) (st : Int) (p v g : Nat) (cs : List AV) (ln : Nat) : St := ⟨[.rsl (rowP l) 0 l.length, .junk, .int .i64 st, .junk, .ptr 0 0 0, .junk, .junk, .sl 1 g 0 ln 3, .int .i64 ((p : Nat) : Int), .int .i64 ((v : Nat) : Int), .junk, .junk, .junk, .junk, .junk, .junk, .junk, .junk, .junk, .junk, .junk, .junk, .junk, .junk, .junk, .junk, .junk, .junk, .junk, .junk, .junk, .junk, .junk, .junk, .junk, .junk, .junk, .junk, .junk, .junk, .junk, .junk, .junk, .junk, .junk, .junk, .junk, .junk, .junk], [⟨true, 0, 1, true, [.int .i64 m.top, .int .i64 m.ease, .int .i64 m.jerk], false⟩, ⟨true, g, 3, true, cs, true⟩]⟩
theorem p69_0n (l : List Pt) (m : Mot) (st : Int) (p g : Nat) (cs : List AV) (ln : Nat)  {E : Env} {res : AV} (hE : PureE Try.prog 69 res E) (h0 : (decide (((p : Nat) : Int) < ((l.length : Nat) : Int))) = true)
    (hg : G Try.prog E (f69K1 Try.prog) (f69S1 l m st p 0 g cs ln)) : G Try.prog E (f69K0 Try.prog) (f69S0 l m st p g cs ln) :=
  segN_step (n := 400) (ds := []) (live := [0, 2, 4, 7, 8, 9]) (m := 2) (evs := [.b true, .stop]) (obs := [(decide (((p : Nat) : Int) < ((l.length : Nat) : Int))) = true]) hE.2.1 (hE.nogh _) mixed (by kernel_rfl) ⟨h0, trivial⟩ hg
theorem p69_0e (l : List Pt) (m : Mot) (st : Int) (p g : Nat) (cs : List AV) (ln : Nat)  {E : Env} {res : AV} (hE : PureE Try.prog 69 res E) (h0 : (decide (((p : Nat) : Int) < ((l.length : Nat) : Int))) = false)
    (hr : .rsl cs 0 ln = res) : G Try.prog E (f69K0 Try.prog) (f69S0 l m st p g cs ln) :=
  end_step (n := 400) (evs := [.b false]) (obs := [(decide (((p : Nat) : Int) < ((l.length : Nat) : Int))) = false, g = g]) hE Try.func69 mixed (by kernel_rfl) ⟨h0, (rfl), trivial⟩ hr
def f69K2 (P : Program) : List Item := kAt 400 [.code (bodyAt P 69)] [.b true, .b true, .stop]
def f69S2 (l : List Pt) (m : Mot) (st : Int) (p v w g : Nat) (cs : List AV) (ln : Nat) : St := ⟨[.rsl (rowP l) 0 l.length, .junk, .int .i64 st, .junk, .ptr 0 0 0, .junk, .junk, .sl 1 g 0 ln 3, .int .i64 ((p : Nat) : Int), .int .i64 ((v : Nat) : Int), .int .i64 ((w : Nat) : Int), .junk, .junk, .junk, .junk, .junk, .junk, .junk, .junk, .junk, .junk, .junk, .junk, .junk, .junk, .junk, .junk, .junk, .junk, .junk, .junk, .junk, .junk, .junk, .junk, .junk, .junk, .junk, .junk, .junk, .junk, .junk, .junk, .junk, .junk, .junk, .junk, .junk, .junk], [⟨true, 0, 1, true, [.int .i64 m.top, .int .i64 m.ease, .int .i64 m.jerk], false⟩, ⟨true, g, 3, true, cs, true⟩]⟩
theorem p69_1n (l : List Pt) (m : Mot) (st : Int) (p v g : Nat) (cs : List AV) (ln : Nat)  {E : Env} {res : AV} (hE : PureE Try.prog 69 res E) (h0 : (decide (((v : Nat) : Int) ≤ m.top)) = true)
    (hg : G Try.prog E (f69K2 Try.prog) (f69S2 l m st p v 0 g cs ln)) : G Try.prog E (f69K1 Try.prog) (f69S1 l m st p v g cs ln) :=
  segN_step (n := 400) (ds := []) (live := [0, 2, 4, 7, 8, 9, 10]) (m := 2) (evs := [.b true, .stop]) (obs := [(decide (((v : Nat) : Int) ≤ m.top)) = true]) hE.2.1 (hE.nogh _) mixed (by kernel_rfl) ⟨h0, trivial⟩ hg
theorem p69_1e (l : List Pt) (m : Mot) (st : Int) (p v g : Nat) (cs : List AV) (ln : Nat)  {E : Env} {res : AV} (hE : PureE Try.prog 69 res E) (h0 : (decide (((v : Nat) : Int) ≤ m.top)) = false) (h1 : InR .i64 (((p : Nat) : Int) + 1))
    (hg : G Try.prog E (f69K0 Try.prog) (f69S0 l m st (p + 1) g cs ln)) : G Try.prog E (f69K1 Try.prog) (f69S1 l m st p v g cs ln) :=
  segN_step (n := 400) (ds := []) (live := [0, 2, 4, 7, 8]) (m := 2) (evs := [.b false, .stop]) (obs := [(decide (((v : Nat) : Int) ≤ m.top)) = false, InR .i64 (((p : Nat) : Int) + 1)]) hE.2.1 (hE.nogh _) mixed (by kernel_rfl) ⟨h0, h1, trivial⟩ hg
theorem p69_2_0 (l : List Pt) (m : Mot) (st : Int) (p v w g : Nat) (cs : List AV) (ln : Nat)  {E : Env} {res : AV} (hE : PureE Try.prog 69 res E) (h0 : (decide (((w : Nat) : Int) ≤ m.top)) = true) (h1 : InR .i64 (((v : Nat) : Int) - ((w : Nat) : Int))) (h2 : (decide ((((v : Nat) : Int) - ((w : Nat) : Int)) ≤ st)) = true) (h3 : InR .i64 (((w : Nat) : Int) - ((v : Nat) : Int))) (h4 : (decide ((((w : Nat) : Int) - ((v : Nat) : Int)) ≤ st)) = true) (h6 : (0 + (ln * 3)) = cs.length) (h7 : (ln + 1) ≤ 2147483648) (h9 : InR .i64 (((w : Nat) : Int) + 1))
    (hg : G Try.prog E (f69K2 Try.prog) (f69S2 l m st p v (w + 1) (g + 1) (cs ++ [.int .i64 ((p : Nat) : Int), .int .i64 ((v : Nat) : Int), .int .i64 ((w : Nat) : Int)]) (ln + 1))) : G Try.prog E (f69K2 Try.prog) (f69S2 l m st p v w g cs ln) :=
  segN_step (n := 400) (ds := []) (live := [0, 2, 4, 7, 8, 9, 10]) (m := 2) (evs := [.b true, .b true, .b true, .stop]) (obs := [(decide (((w : Nat) : Int) ≤ m.top)) = true, InR .i64 (((v : Nat) : Int) - ((w : Nat) : Int)), (decide ((((v : Nat) : Int) - ((w : Nat) : Int)) ≤ st)) = true, InR .i64 (((w : Nat) : Int) - ((v : Nat) : Int)), (decide ((((w : Nat) : Int) - ((v : Nat) : Int)) ≤ st)) = true, g = g, (0 + (ln * 3)) = cs.length, (ln + 1) ≤ 2147483648, 0 = 0, InR .i64 (((w : Nat) : Int) + 1)]) hE.2.1 (hE.nogh _) mixed (by kernel_rfl) ⟨h0, h1, h2, h3, h4, (rfl), h6, h7, (rfl), h9, trivial⟩ hg
theorem p69_2_1 (l : List Pt) (m : Mot) (st : Int) (p v w g : Nat) (cs : List AV) (ln : Nat)  {E : Env} {res : AV} (hE : PureE Try.prog 69 res E) (h0 : (decide (((w : Nat) : Int) ≤ m.top)) = true) (h1 : InR .i64 (((v : Nat) : Int) - ((w : Nat) : Int))) (h2 : (decide ((((v : Nat) : Int) - ((w : Nat) : Int)) ≤ st)) = true) (h3 : InR .i64 (((w : Nat) : Int) - ((v : Nat) : Int))) (h4 : (decide ((((w : Nat) : Int) - ((v : Nat) : Int)) ≤ st)) = false) (h5 : InR .i64 (((w : Nat) : Int) + 1))
    (hg : G Try.prog E (f69K2 Try.prog) (f69S2 l m st p v (w + 1) g cs ln)) : G Try.prog E (f69K2 Try.prog) (f69S2 l m st p v w g cs ln) :=
  segN_step (n := 400) (ds := []) (live := [0, 2, 4, 7, 8, 9, 10]) (m := 2) (evs := [.b true, .b true, .b false, .stop]) (obs := [(decide (((w : Nat) : Int) ≤ m.top)) = true, InR .i64 (((v : Nat) : Int) - ((w : Nat) : Int)), (decide ((((v : Nat) : Int) - ((w : Nat) : Int)) ≤ st)) = true, InR .i64 (((w : Nat) : Int) - ((v : Nat) : Int)), (decide ((((w : Nat) : Int) - ((v : Nat) : Int)) ≤ st)) = false, InR .i64 (((w : Nat) : Int) + 1)]) hE.2.1 (hE.nogh _) mixed (by kernel_rfl) ⟨h0, h1, h2, h3, h4, h5, trivial⟩ hg
theorem p69_2_2 (l : List Pt) (m : Mot) (st : Int) (p v w g : Nat) (cs : List AV) (ln : Nat)  {E : Env} {res : AV} (hE : PureE Try.prog 69 res E) (h0 : (decide (((w : Nat) : Int) ≤ m.top)) = true) (h1 : InR .i64 (((v : Nat) : Int) - ((w : Nat) : Int))) (h2 : (decide ((((v : Nat) : Int) - ((w : Nat) : Int)) ≤ st)) = false) (h4 : InR .i64 (((w : Nat) : Int) + 1))
    (hg : G Try.prog E (f69K2 Try.prog) (f69S2 l m st p v (w + 1) g cs ln)) : G Try.prog E (f69K2 Try.prog) (f69S2 l m st p v w g cs ln) :=
  segN_step (n := 400) (ds := []) (live := [0, 2, 4, 7, 8, 9, 10]) (m := 2) (evs := [.b true, .b false, .b false, .stop]) (obs := [(decide (((w : Nat) : Int) ≤ m.top)) = true, InR .i64 (((v : Nat) : Int) - ((w : Nat) : Int)), (decide ((((v : Nat) : Int) - ((w : Nat) : Int)) ≤ st)) = false, false = false, InR .i64 (((w : Nat) : Int) + 1)]) hE.2.1 (hE.nogh _) mixed (by kernel_rfl) ⟨h0, h1, h2, (rfl), h4, trivial⟩ hg
theorem p69_2e (l : List Pt) (m : Mot) (st : Int) (p v w g : Nat) (cs : List AV) (ln : Nat)  {E : Env} {res : AV} (hE : PureE Try.prog 69 res E) (h0 : (decide (((w : Nat) : Int) ≤ m.top)) = false) (h1 : InR .i64 (((v : Nat) : Int) + 1))
    (hg : G Try.prog E (f69K1 Try.prog) (f69S1 l m st p (v + 1) g cs ln)) : G Try.prog E (f69K2 Try.prog) (f69S2 l m st p v w g cs ln) :=
  segN_step (n := 400) (ds := []) (live := [0, 2, 4, 7, 8, 9]) (m := 2) (evs := [.b false, .stop]) (obs := [(decide (((w : Nat) : Int) ≤ m.top)) = false, InR .i64 (((v : Nat) : Int) + 1)]) hE.2.1 (hE.nogh _) mixed (by kernel_rfl) ⟨h0, h1, trivial⟩ hg
end Go.Proofs.Ytideokfbnegkjaa

/- Force: the changes, proved. -/
namespace Go.Proofs.Ytideokfbnegkjaa
open Go Ax
open Go.Proofs

def cC (c : Chg) : List AV := [.int .i64 c.phase, .int .i64 c.before, .int .i64 c.after]
def rowC (l : List Chg) : List AV := l.flatMap cC

theorem rowC_app (a : List Chg) (c : Chg) : rowC (a ++ [c]) = rowC a ++ cC c := by simp [rowC]
theorem rowC_len : ∀ a : List Chg, (rowC a).length = a.length * 3
  | [] => rfl
  | c :: a => by
    have := rowC_len a
    simp only [rowC, List.flatMap_cons, List.length_append, List.length_cons] at this ⊢
    rw [this]; simp [cC]; omega

def nearC (st : Int) (v w : Nat) : Bool := decide ((v : Int) - w ≤ st) && decide ((w : Int) - v ≤ st)
def wsL (st : Int) (p v w d : Nat) : List Chg := (List.range' w d).flatMap fun w => bif nearC st v w then [⟨p, v, w⟩] else []
def vsL (st : Int) (T p v d : Nat) : List Chg := (List.range' v d).flatMap fun v => wsL st p v 0 (T + 1)
def psL (st : Int) (T p d : Nat) : List Chg := (List.range' p d).flatMap fun p => vsL st T p 0 (T + 1)
def chgs (st : Int) (T n : Nat) : List Chg := psL st T 0 n

theorem len_flatMap_le {α β : Type} {f : α → List β} {k : Nat} : ∀ {l : List α}, (∀ a ∈ l, (f a).length ≤ k) → (l.flatMap f).length ≤ l.length * k
  | [], h => by simp
  | a :: l, h => by
    have h1 := h a (by simp)
    have h2 := len_flatMap_le (l := l) fun b hb => h b (by simp [hb])
    rw [List.flatMap_cons, List.length_append, List.length_cons, Nat.add_mul]; omega

theorem wsL_len (st : Int) (p v w d : Nat) : (wsL st p v w d).length ≤ d * 1 := by
  have := len_flatMap_le (f := fun w => bif nearC st v w then [(⟨p, v, w⟩ : Chg)] else []) (k := 1) (l := List.range' w d) (fun a _ => by cases nearC st v a <;> simp)
  simpa [wsL] using this
theorem vsL_len (st : Int) (T p v d : Nat) : (vsL st T p v d).length ≤ d * (T + 1) := by
  have := len_flatMap_le (f := fun v => wsL st p v 0 (T + 1)) (k := T + 1) (l := List.range' v d) (fun a _ => by simpa using wsL_len st p a 0 (T + 1))
  simpa [vsL] using this
theorem psL_len (st : Int) (T p d : Nat) : (psL st T p d).length ≤ d * ((T + 1) * (T + 1)) := by
  have := len_flatMap_le (f := fun p => vsL st T p 0 (T + 1)) (k := (T + 1) * (T + 1)) (l := List.range' p d) (fun a _ => vsL_len st T a 0 (T + 1))
  simpa [psL] using this

theorem changes_w {E : Env} {res : AV} {l : List Pt} {m : Mot} {st : Int} {T p v : Nat} (hE : PureE Try.prog 69 res E) (hT : m.top = T) (hT' : T ≤ 10) (hs : 0 ≤ st) (hs' : st ≤ 10) (hv : v ≤ 10) :
    ∀ (d w g : Nat) (acc : List Chg), w + d = T + 1 → (acc ++ wsL st p v w d).length ≤ 100000 →
      (∀ g', G Try.prog E (f69K1 Try.prog) (f69S1 l m st p (v + 1) g' (rowC (acc ++ wsL st p v w d)) (acc ++ wsL st p v w d).length)) → G Try.prog E (f69K2 Try.prog) (f69S2 l m st p v w g (rowC acc) acc.length)
  | 0, w, g, acc, hd, hl, hg => by
    refine p69_2e l m st p v w g _ _ hE (by simp; omega) (by unfold InR; omega) ?_
    have := hg g
    simpa [wsL] using this
  | d + 1, w, g, acc, hd, hl, hg => by
    have hcons : wsL st p v w (d + 1) = (bif nearC st v w then [(⟨p, v, w⟩ : Chg)] else []) ++ wsL st p v (w + 1) d := by simp [wsL, List.range'_succ, List.flatMap_cons]
    rw [hcons] at hl hg
    cases hn : nearC st v w with
    | true =>
      rw [hn] at hl hg
      simp only [cond_true, ← List.append_assoc] at hl hg
      have hn' := hn
      simp only [nearC, Bool.and_eq_true] at hn'
      have hacc : acc.length ≤ 100000 := by simp only [List.length_append] at hl; omega
      refine p69_2_0 l m st p v w g _ _ hE (by simp; omega) (by unfold InR; omega) hn'.1 (by unfold InR; omega) hn'.2 (by rw [rowC_len]; omega) (by omega) (by unfold InR; omega) ?_
      have := changes_w hE hT hT' hs hs' hv d (w + 1) (g + 1) (acc ++ [⟨p, v, w⟩]) (by omega) hl hg
      rw [rowC_app] at this
      simpa [cC] using this
    | false =>
      rw [hn] at hl hg
      simp only [cond_false, List.nil_append] at hl hg
      have ih := changes_w hE hT hT' hs hs' hv d (w + 1) g acc (by omega) hl hg
      simp only [nearC, Bool.and_eq_false_iff] at hn
      rcases Bool.eq_false_or_eq_true (decide ((v : Int) - w ≤ st)) with h1 | h1
      · exact p69_2_1 l m st p v w g _ _ hE (by simp; omega) (by unfold InR; omega) h1 (by unfold InR; omega) (hn.resolve_left (by rw [h1]; simp)) (by unfold InR; omega) ih
      · exact p69_2_2 l m st p v w g _ _ hE (by simp; omega) (by unfold InR; omega) h1 (by unfold InR; omega) ih

theorem changes_v {E : Env} {res : AV} {l : List Pt} {m : Mot} {st : Int} {T p : Nat} (hE : PureE Try.prog 69 res E) (hT : m.top = T) (hT' : T ≤ 10) (hs : 0 ≤ st) (hs' : st ≤ 10) (hp : p ≤ 1000) :
    ∀ (d v g : Nat) (acc : List Chg), v + d = T + 1 → (acc ++ vsL st T p v d).length ≤ 100000 →
      (∀ g', G Try.prog E (f69K0 Try.prog) (f69S0 l m st (p + 1) g' (rowC (acc ++ vsL st T p v d)) (acc ++ vsL st T p v d).length)) → G Try.prog E (f69K1 Try.prog) (f69S1 l m st p v g (rowC acc) acc.length)
  | 0, v, g, acc, hd, hl, hg => by
    refine p69_1e l m st p v g _ _ hE (by simp; omega) (by unfold InR; omega) ?_
    have := hg g
    simpa [vsL] using this
  | d + 1, v, g, acc, hd, hl, hg => by
    have hcons : vsL st T p v (d + 1) = wsL st p v 0 (T + 1) ++ vsL st T p (v + 1) d := by simp [vsL, List.range'_succ, List.flatMap_cons]
    rw [hcons, ← List.append_assoc] at hl hg
    refine p69_1n l m st p v g _ _ hE (by simp; omega) ?_
    exact changes_w hE hT hT' hs hs' (by omega) (T + 1) 0 g acc (by omega) (by rw [List.length_append] at hl; omega) fun g' =>
      changes_v hE hT hT' hs hs' hp d (v + 1) g' _ (by omega) hl hg

theorem changes_p {E : Env} {res : AV} {l : List Pt} {m : Mot} {st : Int} {T : Nat} (hE : PureE Try.prog 69 res E) (hT : m.top = T) (hT' : T ≤ 10) (hs : 0 ≤ st) (hs' : st ≤ 10) (hl' : l.length ≤ 1000) :
    ∀ (d p g : Nat) (acc : List Chg), p + d = l.length → (acc ++ psL st T p d).length ≤ 100000 →
      res = .rsl (rowC (acc ++ psL st T p d)) 0 (acc ++ psL st T p d).length → G Try.prog E (f69K0 Try.prog) (f69S0 l m st p g (rowC acc) acc.length)
  | 0, p, g, acc, hd, hl, hr => by
    refine p69_0e l m st p g _ _ hE (by simp; omega) ?_
    rw [hr]; simp [psL]
  | d + 1, p, g, acc, hd, hl, hr => by
    have hcons : psL st T p (d + 1) = vsL st T p 0 (T + 1) ++ psL st T (p + 1) d := by simp [psL, List.range'_succ, List.flatMap_cons]
    rw [hcons, ← List.append_assoc] at hl hr
    refine p69_0n l m st p g _ _ hE (by simp; omega) ?_
    exact changes_v hE hT hT' hs hs' (by omega) (T + 1) 0 g acc (by omega) (by rw [List.length_append] at hl; omega) fun g' =>
      changes_p hE hT hT' hs hs' hl' d (p + 1) g' _ (by omega) hl hr

theorem changesR_ok (l : List Pt) (m : Mot) (st : Int) (T : Nat) (hT : m.top = T) (hT' : T ≤ 10) (hs : 0 ≤ st) (hs' : st ≤ 10) (hl : l.length ≤ 100) :
    Pure Try.prog 69 [.rsl (rowP l) 0 l.length, .agg [.int .i64 m.top, .int .i64 m.ease, .int .i64 m.jerk], .int .i64 st] (.rsl (rowC (chgs st T l.length)) 0 (chgs st T l.length).length) := pure_of Try.func69 f69b fun E hE => by
  refine p69_s l m st hE (changes_p hE hT hT' hs hs' (by omega) l.length 0 0 [] (by omega) ?_ rfl)
  have h1 := psL_len st T 0 l.length
  have h2 : (T + 1) * (T + 1) ≤ 11 * 11 := Nat.mul_le_mul (by omega) (by omega)
  have h3 : l.length * ((T + 1) * (T + 1)) ≤ 100 * (11 * 11) := Nat.mul_le_mul hl h2
  simp only [List.nil_append]; omega

theorem changesR_F (l : List Pt) (m : Mot) (st : Int) (T : Nat) (hT : m.top = T) (hT' : T ≤ 10) (hs : 0 ≤ st) (hs' : st ≤ 10) (hl : l.length ≤ 100) :
    PureF Try.prog (.clos 69 [] []) [.rsl (rowP l) 0 l.length, .agg [.int .i64 m.top, .int .i64 m.ease, .int .i64 m.jerk], .int .i64 st] (.rsl (rowC (chgs st T l.length)) 0 (chgs st T l.length).length) :=
  pureF_of Try.func69 (by kernel_rfl) f69b (by simpa using changesR_ok l m st T hT hT' hs hs' hl)


end Go.Proofs.Ytideokfbnegkjaa

/- Force: the reference's Fastest. -/
namespace Go.Proofs.Ytideokfbnegkjaa
open Go Ax
open Go.Proofs

theorem f49b : Try.f49.body = some (bodyAt Try.prog 49) := by kernel_rfl
def f49K0 (P : Program) : List Item := kAt 400 [.code (bodyAt P 49)] [.stop]
def f49S0 (l : List Pt) (m : Mot) (x : Lim) (fails : Bool) (cs : List Chg) (i : Nat) : St := ⟨[.rsl (rowP l) 0 l.length, .junk, .junk, .junk, .junk, .junk, .ptr 1 0 0, .junk, .ptr 2 0 0, .junk, .rsl (rowC cs) 0 cs.length, .int .i64 ((i : Nat) : Int), .junk, .junk, .junk, .junk, .junk, .junk, .junk, .junk, .junk, .junk, .junk, .junk, .junk, .junk, .junk, .junk, .junk, .junk, .junk, .junk, .junk, .junk, .junk, .junk, .junk, .junk], [⟨true, 0, 1, true, [.int .i64 m.top, .int .i64 m.ease, .int .i64 m.jerk], false⟩, ⟨true, 0, 1, true, [.int .i64 x.side, .int .i64 x.low, .int .i64 x.high], false⟩, ⟨true, 0, 1, true, [.int .i64 0, .int .i64 0, .int .i64 0], false⟩]⟩
theorem p49_s (l : List Pt) (m : Mot) (x : Lim) (fails : Bool) (cs : List Chg) {E : Env} {res : AV} (hE : PureE Try.prog 49 res E) (h1 : PureF Try.prog (.clos 69 [] []) [.rsl (rowP l) 0 l.length, .agg [.int .i64 m.top, .int .i64 m.ease, .int .i64 m.jerk], .int .i64 (ease m fails)] (.rsl (rowC cs) 0 cs.length))
    (hg : G Try.prog E (f49K0 Try.prog) (f49S0 l m x fails cs 0)) : G Try.prog E [.code (bodyAt Try.prog 49)] ⟨[.rsl (rowP l) 0 l.length, .agg [.int .i64 m.top, .int .i64 m.ease, .int .i64 m.jerk], .agg [.int .i64 x.side, .int .i64 x.low, .int .i64 x.high], .bool fails] ++ unds (Try.f49.ntmps - 4), []⟩ :=
  segN_step (n := 400) (ds := []) (live := [0, 6, 8, 10, 11]) (m := 3) (evs := [.v (.int .i64 (ease m fails)), .v (.rsl (rowC cs) 0 cs.length), .stop]) (obs := [PureF Try.prog (.clos 70 [] []) [.agg [.int .i64 m.top, .int .i64 m.ease, .int .i64 m.jerk], .bool fails] (.int .i64 (ease m fails)), PureF Try.prog (.clos 69 [] []) [.rsl (rowP l) 0 l.length, .agg [.int .i64 m.top, .int .i64 m.ease, .int .i64 m.jerk], .int .i64 (ease m fails)] (.rsl (rowC cs) 0 cs.length)]) hE.2.1 (hE.nogh _) mixed (by kernel_rfl) ⟨(step_F _ _), h1, trivial⟩ hg
theorem p49_0 (l : List Pt) (m : Mot) (x : Lim) (fails : Bool) (cs : List Chg) (i : Nat) (c : Chg) {E : Env} {res : AV} (hE : PureE Try.prog 49 res E) (h0 : (decide (((i : Nat) : Int) < ((cs.length : Nat) : Int))) = true) (h1 : 0 ≤ ((i : Nat) : Int) ∧ ((i : Nat) : Int) < ((cs.length : Nat) : Int)) (h2 : ((rowC cs).drop (0 + ((Int.toNat ((i : Nat) : Int)) * 3))).take 3 = [.int .i64 c.phase, .int .i64 c.before, .int .i64 c.after]) (h3 : PureF Try.prog (.clos 55 [] []) [.rsl (rowP l) 0 l.length, .agg [.int .i64 c.phase, .int .i64 c.before, .int .i64 c.after]] (.agg [.int .i64 ((feltP l c).x), .int .i64 ((feltP l c).y), .int .i64 ((feltP l c).z)])) (h4 : PureF Try.prog (.clos 73 [] []) [.agg [.int .i64 ((feltP l c).x), .int .i64 ((feltP l c).y), .int .i64 ((feltP l c).z)], .agg [.int .i64 x.side, .int .i64 x.low, .int .i64 x.high]] (.bool (keptP (feltP l c) x))) (h5 : (!(keptP (feltP l c) x)) = true) (h6 : 0 ≤ ((i : Nat) : Int) ∧ ((i : Nat) : Int) < ((cs.length : Nat) : Int)) (h7 : ((rowC cs).drop (0 + ((Int.toNat ((i : Nat) : Int)) * 3))).take 3 = [.int .i64 c.phase, .int .i64 c.before, .int .i64 c.after])
    (hr : .tup [.agg [.int .i64 c.phase, .int .i64 c.before, .int .i64 c.after], .bool false] = res) : G Try.prog E (f49K0 Try.prog) (f49S0 l m x fails cs i) :=
  end_step (n := 400) (evs := [.b true, .ld (.agg [.int .i64 c.phase, .int .i64 c.before, .int .i64 c.after]), .v (.agg [.int .i64 ((feltP l c).x), .int .i64 ((feltP l c).y), .int .i64 ((feltP l c).z)]), .v (.bool (keptP (feltP l c) x)), .b true, .ld (.agg [.int .i64 c.phase, .int .i64 c.before, .int .i64 c.after])]) (obs := [(decide (((i : Nat) : Int) < ((cs.length : Nat) : Int))) = true, 0 ≤ ((i : Nat) : Int) ∧ ((i : Nat) : Int) < ((cs.length : Nat) : Int), ((rowC cs).drop (0 + ((Int.toNat ((i : Nat) : Int)) * 3))).take 3 = [.int .i64 c.phase, .int .i64 c.before, .int .i64 c.after], PureF Try.prog (.clos 55 [] []) [.rsl (rowP l) 0 l.length, .agg [.int .i64 c.phase, .int .i64 c.before, .int .i64 c.after]] (.agg [.int .i64 ((feltP l c).x), .int .i64 ((feltP l c).y), .int .i64 ((feltP l c).z)]), PureF Try.prog (.clos 73 [] []) [.agg [.int .i64 ((feltP l c).x), .int .i64 ((feltP l c).y), .int .i64 ((feltP l c).z)], .agg [.int .i64 x.side, .int .i64 x.low, .int .i64 x.high]] (.bool (keptP (feltP l c) x)), (!(keptP (feltP l c) x)) = true, 0 ≤ ((i : Nat) : Int) ∧ ((i : Nat) : Int) < ((cs.length : Nat) : Int), ((rowC cs).drop (0 + ((Int.toNat ((i : Nat) : Int)) * 3))).take 3 = [.int .i64 c.phase, .int .i64 c.before, .int .i64 c.after], 3 ≤ 3]) hE Try.func49 mixed (by kernel_rfl) ⟨h0, h1, h2, h3, h4, h5, h6, h7, (by decide), trivial⟩ hr
theorem p49_1 (l : List Pt) (m : Mot) (x : Lim) (fails : Bool) (cs : List Chg) (i : Nat) (c : Chg) {E : Env} {res : AV} (hE : PureE Try.prog 49 res E) (h0 : (decide (((i : Nat) : Int) < ((cs.length : Nat) : Int))) = true) (h1 : 0 ≤ ((i : Nat) : Int) ∧ ((i : Nat) : Int) < ((cs.length : Nat) : Int)) (h2 : ((rowC cs).drop (0 + ((Int.toNat ((i : Nat) : Int)) * 3))).take 3 = [.int .i64 c.phase, .int .i64 c.before, .int .i64 c.after]) (h3 : PureF Try.prog (.clos 55 [] []) [.rsl (rowP l) 0 l.length, .agg [.int .i64 c.phase, .int .i64 c.before, .int .i64 c.after]] (.agg [.int .i64 ((feltP l c).x), .int .i64 ((feltP l c).y), .int .i64 ((feltP l c).z)])) (h4 : PureF Try.prog (.clos 73 [] []) [.agg [.int .i64 ((feltP l c).x), .int .i64 ((feltP l c).y), .int .i64 ((feltP l c).z)], .agg [.int .i64 x.side, .int .i64 x.low, .int .i64 x.high]] (.bool (keptP (feltP l c) x))) (h5 : (!(keptP (feltP l c) x)) = false) (h6 : InR .i64 (((i : Nat) : Int) + 1))
    (hg : G Try.prog E (f49K0 Try.prog) (f49S0 l m x fails cs (i + 1))) : G Try.prog E (f49K0 Try.prog) (f49S0 l m x fails cs i) :=
  segN_step (n := 400) (ds := []) (live := [0, 6, 8, 10, 11]) (m := 3) (evs := [.b true, .ld (.agg [.int .i64 c.phase, .int .i64 c.before, .int .i64 c.after]), .v (.agg [.int .i64 ((feltP l c).x), .int .i64 ((feltP l c).y), .int .i64 ((feltP l c).z)]), .v (.bool (keptP (feltP l c) x)), .b false, .stop]) (obs := [(decide (((i : Nat) : Int) < ((cs.length : Nat) : Int))) = true, 0 ≤ ((i : Nat) : Int) ∧ ((i : Nat) : Int) < ((cs.length : Nat) : Int), ((rowC cs).drop (0 + ((Int.toNat ((i : Nat) : Int)) * 3))).take 3 = [.int .i64 c.phase, .int .i64 c.before, .int .i64 c.after], PureF Try.prog (.clos 55 [] []) [.rsl (rowP l) 0 l.length, .agg [.int .i64 c.phase, .int .i64 c.before, .int .i64 c.after]] (.agg [.int .i64 ((feltP l c).x), .int .i64 ((feltP l c).y), .int .i64 ((feltP l c).z)]), PureF Try.prog (.clos 73 [] []) [.agg [.int .i64 ((feltP l c).x), .int .i64 ((feltP l c).y), .int .i64 ((feltP l c).z)], .agg [.int .i64 x.side, .int .i64 x.low, .int .i64 x.high]] (.bool (keptP (feltP l c) x)), (!(keptP (feltP l c) x)) = false, InR .i64 (((i : Nat) : Int) + 1)]) hE.2.1 (hE.nogh _) mixed (by kernel_rfl) ⟨h0, h1, h2, h3, h4, h5, h6, trivial⟩ hg
theorem p49_2 (l : List Pt) (m : Mot) (x : Lim) (fails : Bool) (cs : List Chg) (i : Nat)  {E : Env} {res : AV} (hE : PureE Try.prog 49 res E) (h0 : (decide (((i : Nat) : Int) < ((cs.length : Nat) : Int))) = false)
    (hr : .tup [.agg [.int .i64 0, .int .i64 0, .int .i64 0], .bool true] = res) : G Try.prog E (f49K0 Try.prog) (f49S0 l m x fails cs i) :=
  end_step (n := 400) (evs := [.b false]) (obs := [(decide (((i : Nat) : Int) < ((cs.length : Nat) : Int))) = false, 3 ≤ 3]) hE Try.func49 mixed (by kernel_rfl) ⟨h0, (by decide), trivial⟩ hr
theorem f18b : Try.f18.body = some (bodyAt Try.prog 18) := by kernel_rfl
theorem p18_e (l : List Pt) (m : Mot) (x : Lim) (fails : Bool) (hl : l.length ≤ 1000) {E : Env} {res : AV} (hE : PureE Try.prog 18 res E) (h1 : ((checkedE l m x) != 0) = true)
    (hr : .tup [.int .i64 0, .int .i64 (checkedE l m x)] = res) : G Try.prog E [.code (bodyAt Try.prog 18)] ⟨[.rsl (rowP l) 0 l.length, .agg [.int .i64 m.top, .int .i64 m.ease, .int .i64 m.jerk], .agg [.int .i64 x.side, .int .i64 x.low, .int .i64 x.high], .bool fails] ++ unds (Try.f18.ntmps - 4), []⟩ :=
  end_step (n := 400) (evs := [.v (.int .i64 (checkedE l m x)), .b true]) (obs := [PureF Try.prog (.clos 48 [] []) [.rsl (rowP l) 0 l.length, .agg [.int .i64 m.top, .int .i64 m.ease, .int .i64 m.jerk], .agg [.int .i64 x.side, .int .i64 x.low, .int .i64 x.high]] (.int .i64 (checkedE l m x)), ((checkedE l m x) != 0) = true]) hE Try.func18 mixed (by kernel_rfl) ⟨(checked_F _ _ _ hl), h1, trivial⟩ hr
def f18K0 (P : Program) : List Item := kAt 400 [.code (bodyAt P 18)] [.b false, .stop]
def f18S0 (l : List Pt) (m : Mot) (x : Lim) (fails : Bool) (t : Int) : St := ⟨[.rsl (rowP l) 0 l.length, .junk, .junk, .bool fails, .junk, .ptr 0 0 0, .ptr 1 0 0, .junk, .junk, .junk, .junk, .int .i64 t, .junk, .junk, .junk, .junk, .junk, .junk, .junk, .junk, .junk, .junk, .junk, .junk, .junk, .junk, .junk, .junk, .junk, .junk, .junk, .junk, .junk, .junk, .junk, .junk, .junk, .junk, .junk, .junk, .junk, .junk], [⟨true, 0, 1, true, [.int .i64 m.top, .int .i64 m.ease, .int .i64 m.jerk], false⟩, ⟨true, 0, 1, true, [.int .i64 x.side, .int .i64 x.low, .int .i64 x.high], false⟩]⟩
theorem p18_s (l : List Pt) (m : Mot) (x : Lim) (fails : Bool) (hl : l.length ≤ 1000) {E : Env} {res : AV} (hE : PureE Try.prog 18 res E) (h1 : ((checkedE l m x) != 0) = false)
    (hg : G Try.prog E (f18K0 Try.prog) (f18S0 l m x fails m.top)) : G Try.prog E [.code (bodyAt Try.prog 18)] ⟨[.rsl (rowP l) 0 l.length, .agg [.int .i64 m.top, .int .i64 m.ease, .int .i64 m.jerk], .agg [.int .i64 x.side, .int .i64 x.low, .int .i64 x.high], .bool fails] ++ unds (Try.f18.ntmps - 4), []⟩ :=
  segN_step (n := 400) (ds := []) (live := [0, 3, 5, 6, 11]) (m := 2) (evs := [.v (.int .i64 (checkedE l m x)), .b false, .stop]) (obs := [PureF Try.prog (.clos 48 [] []) [.rsl (rowP l) 0 l.length, .agg [.int .i64 m.top, .int .i64 m.ease, .int .i64 m.jerk], .agg [.int .i64 x.side, .int .i64 x.low, .int .i64 x.high]] (.int .i64 (checkedE l m x)), ((checkedE l m x) != 0) = false]) hE.2.1 (hE.nogh _) mixed (by kernel_rfl) ⟨(checked_F _ _ _ hl), h1, trivial⟩ hg
theorem p18_0 (l : List Pt) (m : Mot) (x : Lim) (fails : Bool) (t : Int) (bc : Chg) (kb : Bool) {E : Env} {res : AV} (hE : PureE Try.prog 18 res E) (h0 : (decide (t ≥ 1)) = true) (h1 : PureF Try.prog (.clos 49 [] []) [.rsl (rowP l) 0 l.length, .agg [.int .i64 t, .int .i64 m.ease, .int .i64 m.jerk], .agg [.int .i64 x.side, .int .i64 x.low, .int .i64 x.high], .bool fails] (.tup [.agg [.int .i64 bc.phase, .int .i64 bc.before, .int .i64 bc.after], .bool kb])) (h3 : kb = true)
    (hr : .tup [.int .i64 t, .int .i64 0] = res) : G Try.prog E (f18K0 Try.prog) (f18S0 l m x fails t) :=
  end_step (n := 400) (evs := [.b true, .v (.tup [.agg [.int .i64 bc.phase, .int .i64 bc.before, .int .i64 bc.after], .bool kb]), .b true]) (obs := [(decide (t ≥ 1)) = true, PureF Try.prog (.clos 49 [] []) [.rsl (rowP l) 0 l.length, .agg [.int .i64 t, .int .i64 m.ease, .int .i64 m.jerk], .agg [.int .i64 x.side, .int .i64 x.low, .int .i64 x.high], .bool fails] (.tup [.agg [.int .i64 bc.phase, .int .i64 bc.before, .int .i64 bc.after], .bool kb]), 3 ≤ 3, kb = true]) hE Try.func18 mixed (by kernel_rfl) ⟨h0, h1, (by decide), h3, trivial⟩ hr
theorem p18_1 (l : List Pt) (m : Mot) (x : Lim) (fails : Bool) (t : Int) (bc : Chg) (kb : Bool) {E : Env} {res : AV} (hE : PureE Try.prog 18 res E) (h0 : (decide (t ≥ 1)) = true) (h1 : PureF Try.prog (.clos 49 [] []) [.rsl (rowP l) 0 l.length, .agg [.int .i64 t, .int .i64 m.ease, .int .i64 m.jerk], .agg [.int .i64 x.side, .int .i64 x.low, .int .i64 x.high], .bool fails] (.tup [.agg [.int .i64 bc.phase, .int .i64 bc.before, .int .i64 bc.after], .bool kb])) (h3 : kb = false) (h4 : InR .i64 (t - 1))
    (hg : G Try.prog E (f18K0 Try.prog) (f18S0 l m x fails (t - 1))) : G Try.prog E (f18K0 Try.prog) (f18S0 l m x fails t) :=
  segN_step (n := 400) (ds := []) (live := [0, 3, 5, 6, 11]) (m := 2) (evs := [.b true, .v (.tup [.agg [.int .i64 bc.phase, .int .i64 bc.before, .int .i64 bc.after], .bool kb]), .b false, .stop]) (obs := [(decide (t ≥ 1)) = true, PureF Try.prog (.clos 49 [] []) [.rsl (rowP l) 0 l.length, .agg [.int .i64 t, .int .i64 m.ease, .int .i64 m.jerk], .agg [.int .i64 x.side, .int .i64 x.low, .int .i64 x.high], .bool fails] (.tup [.agg [.int .i64 bc.phase, .int .i64 bc.before, .int .i64 bc.after], .bool kb]), 3 ≤ 3, kb = false, InR .i64 (t - 1)]) hE.2.1 (hE.nogh _) mixed (by kernel_rfl) ⟨h0, h1, (by decide), h3, h4, trivial⟩ hg
theorem p18_2 (l : List Pt) (m : Mot) (x : Lim) (fails : Bool) (t : Int)  {E : Env} {res : AV} (hE : PureE Try.prog 18 res E) (h0 : (decide (t ≥ 1)) = false)
    (hr : .tup [.int .i64 0, .int .i64 3] = res) : G Try.prog E (f18K0 Try.prog) (f18S0 l m x fails t) :=
  end_step (n := 400) (evs := [.b false]) (obs := [(decide (t ≥ 1)) = false]) hE Try.func18 mixed (by kernel_rfl) ⟨h0, trivial⟩ hr
end Go.Proofs.Ytideokfbnegkjaa

/- Force: the reference's Fastest, proved. -/
namespace Go.Proofs.Ytideokfbnegkjaa
open Go Ax
open Go.Proofs

theorem mem_chgs {st : Int} {T n : Nat} {c : Chg} : c ∈ chgs st T n ↔ ∃ p v w : Nat, p < n ∧ v ≤ T ∧ w ≤ T ∧ nearC st v w = true ∧ c = ⟨p, v, w⟩ := by
  simp only [chgs, psL, vsL, wsL, List.mem_flatMap, List.mem_range'_1]
  constructor
  · rintro ⟨p, hp, v, hv, w, hw, h⟩
    cases hn : nearC st v w with
    | true => rw [hn] at h; simp at h; exact ⟨p, v, w, by omega, by omega, by omega, hn, h⟩
    | false => rw [hn] at h; simp at h
  · rintro ⟨p, v, w, hp, hv, hw, hn, rfl⟩
    exact ⟨p, by omega, v, by omega, w, by omega, by rw [hn]; simp⟩

theorem chgs_ok {st : Int} {T n : Nat} {c : Chg} (hT : T ≤ 10) (h : c ∈ chgs st T n) : chgOk n c := by
  obtain ⟨p, v, w, h1, h2, h3, -, rfl⟩ := mem_chgs.1 h
  unfold chgOk; simp only; omega

def badC (l : List Pt) (x : Lim) (cs : List Chg) : Option Chg := cs.find? fun c => !keptP (feltP l c) x
def keepB (l : List Pt) (x : Lim) (st : Int) (T : Nat) : Bool := (badC l x (chgs st T l.length)).isNone

theorem find_ind {α : Type} {p : α → Bool} {l : List α} {Gi : Nat → Prop} {v : Option α} (hit : ∀ (i : Nat) a, l[i]? = some a → p a = true → some a = v → Gi i)
    (next : ∀ i a, l[i]? = some a → p a = false → Gi (i + 1) → Gi i) (out : ∀ i, l.length ≤ i → none = v → Gi i) : ∀ d i, i + d = l.length → (l.drop i).find? p = v → Gi i
  | 0, i, h, hv => out i (by omega) (by rw [List.drop_eq_nil_of_le (by omega)] at hv; exact hv)
  | d + 1, i, h, hv => by
    have hi : i < l.length := by omega
    have hg : l[i]? = some l[i] := by simp [hi]
    rw [List.drop_eq_getElem_cons hi, List.find?_cons] at hv
    cases hp : p l[i] with
    | true => rw [hp] at hv; exact hit i _ hg hp hv
    | false => rw [hp] at hv; exact next i _ hg hp (find_ind hit next out d (i + 1) (by omega) hv)

def bad0 (b : Option Chg) : Chg := b.getD ⟨0, 0, 0⟩
def keepsRes (b : Option Chg) : AV := .tup [.agg [.int .i64 (bad0 b).phase, .int .i64 (bad0 b).before, .int .i64 (bad0 b).after], .bool b.isNone]

structure MotW (m : Mot) (fails : Bool) (T : Nat) : Prop where
  top : m.top = T
  le : T ≤ 10
  e0 : 0 ≤ ease m fails
  e1 : ease m fails ≤ 10

theorem keepsR_ok (l : List Pt) (m : Mot) (x : Lim) (fails : Bool) (T : Nat) (hv : validP l = true) (hm : MotW m fails T) (hx : limitOk x = true) :
    Pure Try.prog 49 [.rsl (rowP l) 0 l.length, .agg [.int .i64 m.top, .int .i64 m.ease, .int .i64 m.jerk], .agg [.int .i64 x.side, .int .i64 x.low, .int .i64 x.high], .bool fails]
      (keepsRes (badC l x (chgs (ease m fails) T l.length))) := pure_of Try.func49 f49b fun E hE => by
  have hl := valid_len hv
  have hn := psL_len (ease m fails) T 0 l.length
  have h2 : (T + 1) * (T + 1) ≤ 11 * 11 := Nat.mul_le_mul (by have := hm.le; omega) (by have := hm.le; omega)
  have h3 : l.length * ((T + 1) * (T + 1)) ≤ 100 * (11 * 11) := Nat.mul_le_mul (by omega) h2
  have hn' : (chgs (ease m fails) T l.length).length ≤ 12100 := by unfold chgs; omega
  refine p49_s l m x fails _ hE (changesR_F l m _ T hm.top hm.le hm.e0 hm.e1 (by omega)) ?_
  generalize hcs : chgs (ease m fails) T l.length = cs at hE hn'
  have hok : ∀ c ∈ cs, chgOk l.length c := fun c h => chgs_ok hm.le (hcs ▸ h)
  refine find_ind (Gi := fun i => G Try.prog E (f49K0 Try.prog) (f49S0 l m x fails cs i)) (p := fun c => !keptP (feltP l c) x) (l := cs) (v := badC l x cs)
    (fun i c h hp hv' => ?_) (fun i c h hp hg => ?_) (fun i h hv' => ?_) cs.length 0 (by omega) rfl
  · have hi := get_lt h
    have hc := hok c (List.mem_of_getElem? h)
    exact p49_0 l m x fails cs i c hE (by simpa using hi) (by omega) (row_get cC (fun _ => rfl) _ _ _ h) (feltR_F l c hv hc) (kept_F _ x (felt_side hv c) hx) hp (by omega) (row_get cC (fun _ => rfl) _ _ _ h) (by rw [← hv']; rfl)
  · have hi := get_lt h
    have hc := hok c (List.mem_of_getElem? h)
    exact p49_1 l m x fails cs i c hE (by simpa using hi) (by omega) (row_get cC (fun _ => rfl) _ _ _ h) (feltR_F l c hv hc) (kept_F _ x (felt_side hv c) hx) hp (by unfold InR; omega) hg
  · exact p49_2 l m x fails cs i hE (by simpa using h) (by rw [← hv']; rfl)

theorem keepsR_F (l : List Pt) (m : Mot) (x : Lim) (fails : Bool) (T : Nat) (hv : validP l = true) (hm : MotW m fails T) (hx : limitOk x = true) :
    PureF Try.prog (.clos 49 [] []) [.rsl (rowP l) 0 l.length, .agg [.int .i64 m.top, .int .i64 m.ease, .int .i64 m.jerk], .agg [.int .i64 x.side, .int .i64 x.low, .int .i64 x.high], .bool fails]
      (keepsRes (badC l x (chgs (ease m fails) T l.length))) := pureF_of Try.func49 (by kernel_rfl) f49b (by simpa using keepsR_ok l m x fails T hv hm hx)

def fastR (K : Nat → Bool) : Nat → Int × Int
  | 0 => (0, 3)
  | t + 1 => bif K (t + 1) then ((t + 1 : Nat), 0) else fastR K t

def fastE (l : List Pt) (m : Mot) (x : Lim) (fails : Bool) : Int × Int :=
  bif checkedE l m x != 0 then (0, checkedE l m x) else fastR (keepB l x (ease m fails)) m.top.toNat

theorem checkedE_zero {l : List Pt} {m : Mot} {x : Lim} (h : (checkedE l m x != 0) = false) : validP l = true ∧ motorOk m = true ∧ limitOk x = true := by
  simp only [checkedE] at h
  rcases Bool.eq_false_or_eq_true (checkP l != 0) with h1 | h1
  · rw [h1] at h; simp only [cond_true] at h; rw [h1] at h; cases h
  rw [h1] at h; simp only [cond_false] at h
  rcases Bool.eq_false_or_eq_true (checkM m != 0) with h2 | h2
  · rw [h2] at h; simp only [cond_true] at h; rw [h2] at h; cases h
  rw [h2] at h; simp only [cond_false] at h
  refine ⟨?_, ?_, ?_⟩
  · unfold checkP at h1; unfold validP
    rcases Bool.eq_false_or_eq_true (within (l.length : Int) 3 60) with a | a <;> rcases Bool.eq_false_or_eq_true (l.any fun p => !spanned p) with b | b <;> rw [a, b] at h1 <;> rw [a, b] <;> first | rfl | (exfalso; revert h1; decide)
  · unfold checkM at h2; unfold motorOk
    rcases Bool.eq_false_or_eq_true (within m.top 1 10) with a | a
    · rcases Bool.eq_false_or_eq_true (within m.ease 1 m.jerk) with b | b
      · rcases Bool.eq_false_or_eq_true (decide (m.jerk > 10)) with c | c
        · rw [a, b, c] at h2; exfalso; revert h2; decide
        · simp only [within, Bool.and_eq_true, decide_eq_true_eq, decide_eq_false_iff_not] at a b c ⊢
          omega
      · rw [a, b] at h2; exfalso; revert h2; simp
    · rw [a] at h2; exfalso; revert h2; simp
  · unfold checkX at h; unfold limitOk
    rcases Bool.eq_false_or_eq_true (within x.side 0 200000) with a | a <;> rcases Bool.eq_false_or_eq_true (within x.low (-200000) 200000) with b | b <;> rcases Bool.eq_false_or_eq_true (within x.high x.low 200000) with c | c <;>
      rw [a, b, c] at h <;> rw [a, b, c] <;> first | rfl | (exfalso; revert h; decide)

theorem motorOk_bd {m : Mot} (h : motorOk m = true) : 1 ≤ m.top ∧ m.top ≤ 10 ∧ 1 ≤ m.jerk ∧ m.jerk ≤ 10 ∧ 1 ≤ m.ease ∧ m.ease ≤ m.jerk := by
  simp only [motorOk, within, Bool.and_eq_true, decide_eq_true_eq] at h; omega

theorem ease_bd {m : Mot} (h : motorOk m = true) (fails : Bool) : 0 ≤ ease m fails ∧ ease m fails ≤ 10 := by
  have := motorOk_bd h
  cases fails <;> simp only [ease, cond_true, cond_false] <;> omega

theorem fastestR_ok (l : List Pt) (m : Mot) (x : Lim) (fails : Bool) (hl : l.length ≤ 1000) :
    Pure Try.prog 18 [.rsl (rowP l) 0 l.length, .agg [.int .i64 m.top, .int .i64 m.ease, .int .i64 m.jerk], .agg [.int .i64 x.side, .int .i64 x.low, .int .i64 x.high], .bool fails]
      (.tup [.int .i64 (fastE l m x fails).1, .int .i64 (fastE l m x fails).2]) := pure_of Try.func18 f18b fun E hE => by
  rcases Bool.eq_false_or_eq_true (checkedE l m x != 0) with hc | hc
  · exact p18_e l m x fails hl hE hc (by simp only [fastE, hc, cond_true])
  · obtain ⟨hv, hm, hx⟩ := checkedE_zero hc
    have hb := motorOk_bd hm
    have he := ease_bd hm fails
    have key : ∀ t : Nat, t ≤ 10 → fastR (keepB l x (ease m fails)) t = fastE l m x fails → G Try.prog E (f18K0 Try.prog) (f18S0 l m x fails t) := by
      intro t
      induction t with
      | zero =>
        intro _ hr
        exact p18_2 l m x fails _ hE (by simp) (by rw [← hr]; rfl)
      | succ t ih =>
        intro ht hr
        have hK := keepsR_F l ⟨((t + 1 : Nat) : Int), m.ease, m.jerk⟩ x fails (t + 1) hv ⟨rfl, ht, he.1, he.2⟩ hx
        rcases Bool.eq_false_or_eq_true (keepB l x (ease m fails) (t + 1)) with hk | hk
        · refine p18_0 l m x fails _ _ _ hE (by simp; omega) hK hk ?_
          rw [← hr]; simp only [fastR, hk, cond_true]
        · refine p18_1 l m x fails _ _ _ hE (by simp; omega) hK hk (by unfold InR; omega) ?_
          have e : ((t + 1 : Nat) : Int) - 1 = (t : Nat) := by omega
          rw [e]
          refine ih (by omega) ?_
          rw [← hr]; simp only [fastR, hk, cond_false]
    refine p18_s l m x fails hl hE hc ?_
    have e : m.top = (m.top.toNat : Int) := by omega
    rw [e]
    exact key m.top.toNat (by omega) (by simp only [fastE, hc, cond_false])


end Go.Proofs.Ytideokfbnegkjaa

/- Force: the program's iterator over the changes. -/
namespace Go.Proofs.Ytideokfbnegkjaa
open Go Ax
open Go.Proofs

def changesV (l : List Pt) (m : Mot) (fails : Bool) : AV := .clos 90 [] [.rptr [.int .i64 m.top, .int .i64 m.ease, .int .i64 m.jerk] 0, .rptr [.bool fails] 0, .rptr [.rsl (rowP l) 0 l.length] 0]

theorem f67b : Try.f67.body = some (bodyAt Try.prog 67) := by kernel_rfl
theorem p67_0 (l : List Pt) (m : Mot) (fails : Bool)  {E : Env} {res : AV} (hE : PureE Try.prog 67 res E) 
    (hr : .clos 90 [] [.rptr [.int .i64 m.top, .int .i64 m.ease, .int .i64 m.jerk] 0, .rptr [.bool fails] 0, .rptr [.rsl (rowP l) 0 l.length] 0] = res) : G Try.prog E [.code (bodyAt Try.prog 67)] ⟨[.rsl (rowP l) 0 l.length, .agg [.int .i64 m.top, .int .i64 m.ease, .int .i64 m.jerk], .bool fails] ++ unds (Try.f67.ntmps - 3), []⟩ :=
  end_step (n := 400) (evs := []) (obs := []) hE Try.func67 mixed (by kernel_rfl) trivial hr
theorem changesP_ok (l : List Pt) (m : Mot) (fails : Bool)  : Pure Try.prog 67 [.rsl (rowP l) 0 l.length, .agg [.int .i64 m.top, .int .i64 m.ease, .int .i64 m.jerk], .bool fails] (changesV l m fails) := pure_of Try.func67 f67b fun E hE => by
  exact p67_0 l m fails  hE  (rfl)
theorem changesP_F (l : List Pt) (m : Mot) (fails : Bool)  : PureF Try.prog (.clos 67 [] []) [.rsl (rowP l) 0 l.length, .agg [.int .i64 m.top, .int .i64 m.ease, .int .i64 m.jerk], .bool fails] (changesV l m fails) := pureF_of Try.func67 (by kernel_rfl) f67b (by simpa using changesP_ok l m fails )
theorem f90b : Try.f90.body = some (bodyAt Try.prog 90) := by kernel_rfl
def f90K0 (P : Program) : List Item := kAt 400 [.code (bodyAt P 90)] [.stop]
def f90S0 (yv0 : Value) (m : Mot) (fails : Bool) (l : List Pt) (p : Nat) : St := ⟨[.opq yv0, .rptr [.int .i64 m.top, .int .i64 m.ease, .int .i64 m.jerk] 0, .junk, .junk, .junk, .int .i64 (ease m fails), .junk, .junk, .junk, .junk, .junk, .junk, .junk, .int .i64 ((l.length : Nat) : Int), .int .i64 ((p : Nat) : Int), .junk, .junk, .junk, .junk, .junk, .junk, .junk, .junk, .junk, .junk, .junk, .junk, .junk, .junk, .junk, .junk, .junk, .junk, .junk, .junk, .junk, .junk, .junk, .junk, .junk, .junk, .junk, .junk, .junk, .junk, .junk], []⟩
theorem p90_s (yv0 : Value) (m : Mot) (fails : Bool) (l : List Pt)  {E : Env} {xs : List (List AV)} {yv : Value} {Y : Option Nat → Sd} {cont : Nat → Bool} {e : Option Nat} {o : Option Nat} (hE : IterE Try.prog 90 xs yv Y cont e o E) 
    (hg : G Try.prog E (f90K0 Try.prog) (f90S0 yv0 m fails l 0)) : G Try.prog E [.code (bodyAt Try.prog 90)] ⟨[.opq yv0, .rptr [.int .i64 m.top, .int .i64 m.ease, .int .i64 m.jerk] 0, .rptr [.bool fails] 0, .rptr [.rsl (rowP l) 0 l.length] 0] ++ unds (Try.f90.ntmps - 4), []⟩ :=
  segN_step (n := 400) (ds := []) (live := [0, 1, 5, 13, 14]) (m := 0) (evs := [.v (.int .i64 (ease m fails)), .stop]) (obs := [PureF Try.prog (.clos 91 [] []) [.agg [.int .i64 m.top, .int .i64 m.ease, .int .i64 m.jerk], .bool fails] (.int .i64 (ease m fails))]) hE.kind (hE.nogh _) mixed (by kernel_rfl) ⟨(ease_F _ _), trivial⟩ hg
def f90K1 (P : Program) : List Item := kAt 400 [.code (bodyAt P 90)] [.b true, .stop]
def f90S1 (yv0 : Value) (m : Mot) (fails : Bool) (l : List Pt) (p v : Nat) : St := ⟨[.opq yv0, .rptr [.int .i64 m.top, .int .i64 m.ease, .int .i64 m.jerk] 0, .junk, .junk, .junk, .int .i64 (ease m fails), .int .i64 ((p : Nat) : Int), .junk, .junk, .junk, .junk, .junk, .junk, .int .i64 ((l.length : Nat) : Int), .int .i64 ((p : Nat) : Int), .junk, .junk, .junk, .junk, .int .i64 (m.top + 1), .int .i64 ((v : Nat) : Int), .junk, .junk, .junk, .junk, .junk, .junk, .junk, .junk, .junk, .junk, .junk, .junk, .junk, .junk, .junk, .junk, .junk, .junk, .junk, .junk, .junk, .junk, .junk, .junk, .junk], []⟩
theorem p90_0n (yv0 : Value) (m : Mot) (fails : Bool) (l : List Pt) (p : Nat)  {E : Env} {xs : List (List AV)} {yv : Value} {Y : Option Nat → Sd} {cont : Nat → Bool} {e : Option Nat} {o : Option Nat} (hE : IterE Try.prog 90 xs yv Y cont e o E) (h0 : (decide (((p : Nat) : Int) < ((l.length : Nat) : Int))) = true) (h1 : InR .i64 (m.top + 1))
    (hg : G Try.prog E (f90K1 Try.prog) (f90S1 yv0 m fails l p 0)) : G Try.prog E (f90K0 Try.prog) (f90S0 yv0 m fails l p) :=
  segN_step (n := 400) (ds := []) (live := [0, 1, 5, 6, 13, 14, 19, 20]) (m := 0) (evs := [.b true, .stop]) (obs := [(decide (((p : Nat) : Int) < ((l.length : Nat) : Int))) = true, InR .i64 (m.top + 1)]) hE.kind (hE.nogh _) mixed (by kernel_rfl) ⟨h0, h1, trivial⟩ hg
theorem p90_0e (yv0 : Value) (m : Mot) (fails : Bool) (l : List Pt) (p : Nat)  {E : Env} {xs : List (List AV)} {yv : Value} {Y : Option Nat → Sd} {cont : Nat → Bool} {e : Option Nat}  (hE : IterE Try.prog 90 xs yv Y cont e e E) (h0 : (decide (((p : Nat) : Int) < ((l.length : Nat) : Int))) = false) : G Try.prog E (f90K0 Try.prog) (f90S0 yv0 m fails l p) :=
  iter_end (n := 400) (evs := [.b false]) (obs := [(decide (((p : Nat) : Int) < ((l.length : Nat) : Int))) = false]) hE Try.func90 (by kernel_rfl) mixed (by kernel_rfl) ⟨h0, trivial⟩
def f90K2 (P : Program) : List Item := kAt 400 [.code (bodyAt P 90)] [.b true, .b true, .stop]
def f90S2 (yv0 : Value) (m : Mot) (fails : Bool) (l : List Pt) (p v : Nat) (w : Int) : St := ⟨[.opq yv0, .rptr [.int .i64 m.top, .int .i64 m.ease, .int .i64 m.jerk] 0, .junk, .junk, .junk, .int .i64 (ease m fails), .int .i64 ((p : Nat) : Int), .int .i64 ((v : Nat) : Int), .int .i64 w, .junk, .junk, .junk, .junk, .int .i64 ((l.length : Nat) : Int), .int .i64 ((p : Nat) : Int), .junk, .junk, .junk, .junk, .int .i64 (m.top + 1), .int .i64 ((v : Nat) : Int), .junk, .junk, .junk, .junk, .junk, .junk, .junk, .junk, .junk, .junk, .junk, .junk, .junk, .junk, .junk, .junk, .junk, .junk, .junk, .junk, .junk, .junk, .junk, .junk, .junk], []⟩
theorem p90_1n (yv0 : Value) (m : Mot) (fails : Bool) (l : List Pt) (p v : Nat)  {E : Env} {xs : List (List AV)} {yv : Value} {Y : Option Nat → Sd} {cont : Nat → Bool} {e : Option Nat} {o : Option Nat} (hE : IterE Try.prog 90 xs yv Y cont e o E) (h0 : (decide (((v : Nat) : Int) < (m.top + 1))) = true) (h1 : InR .i64 (((v : Nat) : Int) - (ease m fails)))
    (hg : G Try.prog E (f90K2 Try.prog) (f90S2 yv0 m fails l p v (iMax 0 (((v : Nat) : Int) - (ease m fails))))) : G Try.prog E (f90K1 Try.prog) (f90S1 yv0 m fails l p v) :=
  segN_step (n := 400) (ds := []) (live := [0, 1, 5, 6, 7, 8, 13, 14, 19, 20]) (m := 0) (evs := [.b true, .stop]) (obs := [(decide (((v : Nat) : Int) < (m.top + 1))) = true, InR .i64 (((v : Nat) : Int) - (ease m fails))]) hE.kind (hE.nogh _) mixed (by kernel_rfl) ⟨h0, h1, trivial⟩ hg
theorem p90_1e (yv0 : Value) (m : Mot) (fails : Bool) (l : List Pt) (p v : Nat)  {E : Env} {xs : List (List AV)} {yv : Value} {Y : Option Nat → Sd} {cont : Nat → Bool} {e : Option Nat} {o : Option Nat} (hE : IterE Try.prog 90 xs yv Y cont e o E) (h0 : (decide (((v : Nat) : Int) < (m.top + 1))) = false) (h1 : InR .i64 (((p : Nat) : Int) + 1))
    (hg : G Try.prog E (f90K0 Try.prog) (f90S0 yv0 m fails l (p + 1))) : G Try.prog E (f90K1 Try.prog) (f90S1 yv0 m fails l p v) :=
  segN_step (n := 400) (ds := []) (live := [0, 1, 5, 13, 14]) (m := 0) (evs := [.b false, .stop]) (obs := [(decide (((v : Nat) : Int) < (m.top + 1))) = false, InR .i64 (((p : Nat) : Int) + 1)]) hE.kind (hE.nogh _) mixed (by kernel_rfl) ⟨h0, h1, trivial⟩ hg
def f90Kh (P : Program) : List Item := toOp 5 (kReg 400 [.code (bodyAt P 90)] [.b true, .b true, .b true] 9)
def f90Sh (yv0 : Value) (m : Mot) (fails : Bool) (l : List Pt) (p v : Nat) (w : Int) : St := ⟨[.opq yv0, .rptr [.int .i64 m.top, .int .i64 m.ease, .int .i64 m.jerk] 0, .junk, .junk, .junk, .int .i64 (ease m fails), .int .i64 ((p : Nat) : Int), .int .i64 ((v : Nat) : Int), .int .i64 w, .junk, .junk, .junk, .junk, .int .i64 ((l.length : Nat) : Int), .int .i64 ((p : Nat) : Int), .junk, .junk, .junk, .junk, .int .i64 (m.top + 1), .int .i64 ((v : Nat) : Int), .junk, .junk, .junk, .junk, .junk, .junk, .int .i64 w, .rptr [.int .i64 m.top, .int .i64 m.ease, .int .i64 m.jerk] 0, .int .i64 m.top, .int .i64 ((v : Nat) : Int), .int .i64 (ease m fails), .int .i64 (((v : Nat) : Int) + (ease m fails)), .int .i64 (iMin m.top (((v : Nat) : Int) + (ease m fails))), .bool (decide (w ≤ (iMin m.top (((v : Nat) : Int) + (ease m fails))))), .junk, .junk, .opq yv0, .int .i64 ((p : Nat) : Int), .int .i64 ((v : Nat) : Int), .int .i64 w, .agg [.int .i64 ((p : Nat) : Int), .int .i64 ((v : Nat) : Int), .int .i64 w], .junk, .junk, .junk, .junk], []⟩
def f90Kha (P : Program) : List Item := toOp 6 (kReg 400 [.code (bodyAt P 90)] [.b true, .b true, .b true] 9)
def f90Sha (yv0 : Value) (m : Mot) (fails : Bool) (l : List Pt) (p v : Nat) (w : Int) (b : Bool) : St := ⟨[.opq yv0, .rptr [.int .i64 m.top, .int .i64 m.ease, .int .i64 m.jerk] 0, .junk, .junk, .junk, .int .i64 (ease m fails), .int .i64 ((p : Nat) : Int), .int .i64 ((v : Nat) : Int), .int .i64 w, .junk, .junk, .junk, .junk, .int .i64 ((l.length : Nat) : Int), .int .i64 ((p : Nat) : Int), .junk, .junk, .junk, .junk, .int .i64 (m.top + 1), .int .i64 ((v : Nat) : Int), .junk, .junk, .junk, .junk, .junk, .junk, .int .i64 w, .rptr [.int .i64 m.top, .int .i64 m.ease, .int .i64 m.jerk] 0, .int .i64 m.top, .int .i64 ((v : Nat) : Int), .int .i64 (ease m fails), .int .i64 (((v : Nat) : Int) + (ease m fails)), .int .i64 (iMin m.top (((v : Nat) : Int) + (ease m fails))), .bool (decide (w ≤ (iMin m.top (((v : Nat) : Int) + (ease m fails))))), .junk, .junk, .opq yv0, .int .i64 ((p : Nat) : Int), .int .i64 ((v : Nat) : Int), .int .i64 w, .agg [.int .i64 ((p : Nat) : Int), .int .i64 ((v : Nat) : Int), .int .i64 w], .bool b, .junk, .junk, .junk], []⟩
theorem f90_h (yv0 : Value) (m : Mot) (fails : Bool) (l : List Pt) (p v : Nat) (w : Int) : yieldA (f90Kh Try.prog) (f90Sh yv0 m fails l p v w) = some (f90Kha Try.prog, some 42, yv0, [.agg [.int .i64 ((p : Nat) : Int), .int .i64 ((v : Nat) : Int), .int .i64 w]]) := by kernel_rfl
theorem p90_2h (yv0 : Value) (m : Mot) (fails : Bool) (l : List Pt) (p v : Nat) (w : Int)  {E : Env} {xs : List (List AV)} {yv : Value} {Y : Option Nat → Sd} {cont : Nat → Bool} {e : Option Nat} {o : Option Nat} (hE : IterE Try.prog 90 xs yv Y cont e o E) (h0 : InR .i64 (((v : Nat) : Int) + (ease m fails))) (h1 : (decide (w ≤ (iMin m.top (((v : Nat) : Int) + (ease m fails))))) = true)
    (hg : G Try.prog E (f90Kh Try.prog) (f90Sh yv0 m fails l p v w)) : G Try.prog E (f90K2 Try.prog) (f90S2 yv0 m fails l p v w) :=
  segN_step (n := 400) (ds := []) (live := [0, 1, 2, 3, 4, 5, 6, 7, 8, 9, 10, 11, 12, 13, 14, 15, 16, 17, 18, 19, 20, 21, 22, 23, 24, 25, 26, 27, 28, 29, 30, 31, 32, 33, 34, 35, 36, 37, 38, 39, 40, 41, 42, 43, 44, 45]) (m := 0) (evs := [.b true, .hold 5]) (obs := [InR .i64 (((v : Nat) : Int) + (ease m fails)), (decide (w ≤ (iMin m.top (((v : Nat) : Int) + (ease m fails))))) = true]) hE.kind (hE.nogh _) mixed (by kernel_rfl) ⟨h0, h1, trivial⟩ hg
theorem p90_2e (yv0 : Value) (m : Mot) (fails : Bool) (l : List Pt) (p v : Nat) (w : Int)  {E : Env} {xs : List (List AV)} {yv : Value} {Y : Option Nat → Sd} {cont : Nat → Bool} {e : Option Nat} {o : Option Nat} (hE : IterE Try.prog 90 xs yv Y cont e o E) (h0 : InR .i64 (((v : Nat) : Int) + (ease m fails))) (h1 : (decide (w ≤ (iMin m.top (((v : Nat) : Int) + (ease m fails))))) = false) (h2 : InR .i64 (((v : Nat) : Int) + 1))
    (hg : G Try.prog E (f90K1 Try.prog) (f90S1 yv0 m fails l p (v + 1))) : G Try.prog E (f90K2 Try.prog) (f90S2 yv0 m fails l p v w) :=
  segN_step (n := 400) (ds := []) (live := [0, 1, 5, 6, 13, 14, 19, 20]) (m := 0) (evs := [.b false, .stop]) (obs := [InR .i64 (((v : Nat) : Int) + (ease m fails)), (decide (w ≤ (iMin m.top (((v : Nat) : Int) + (ease m fails))))) = false, InR .i64 (((v : Nat) : Int) + 1)]) hE.kind (hE.nogh _) mixed (by kernel_rfl) ⟨h0, h1, h2, trivial⟩ hg
theorem p90_a0 (yv0 : Value) (m : Mot) (fails : Bool) (l : List Pt) (p v : Nat) (w : Int) (b : Bool)  {E : Env} {xs : List (List AV)} {yv : Value} {Y : Option Nat → Sd} {cont : Nat → Bool} {e : Option Nat}  (hE : IterE Try.prog 90 xs yv Y cont e e E) (h0 : (!b) = true) : G Try.prog E (f90Kha Try.prog) (f90Sha yv0 m fails l p v w b) :=
  iter_end (n := 400) (evs := [.b true]) (obs := [(!b) = true]) hE Try.func90 (by kernel_rfl) mixed (by kernel_rfl) ⟨h0, trivial⟩
theorem p90_a1 (yv0 : Value) (m : Mot) (fails : Bool) (l : List Pt) (p v : Nat) (w : Int) (b : Bool)  {E : Env} {xs : List (List AV)} {yv : Value} {Y : Option Nat → Sd} {cont : Nat → Bool} {e : Option Nat} {o : Option Nat} (hE : IterE Try.prog 90 xs yv Y cont e o E) (h0 : (!b) = false) (h1 : InR .i64 (w + 1))
    (hg : G Try.prog E (f90K2 Try.prog) (f90S2 yv0 m fails l p v (w + 1))) : G Try.prog E (f90Kha Try.prog) (f90Sha yv0 m fails l p v w b) :=
  segN_step (n := 400) (ds := []) (live := [0, 1, 5, 6, 7, 8, 13, 14, 19, 20]) (m := 0) (evs := [.b false, .stop]) (obs := [(!b) = false, InR .i64 (w + 1)]) hE.kind (hE.nogh _) mixed (by kernel_rfl) ⟨h0, h1, trivial⟩ hg
end Go.Proofs.Ytideokfbnegkjaa

/- Force: the program's iterator over the changes, proved. -/
namespace Go.Proofs.Ytideokfbnegkjaa
open Go Ax
open Go.Proofs

def argC (c : Chg) : List AV := [.agg [.int .i64 c.phase, .int .i64 c.before, .int .i64 c.after]]

theorem wsL_nil {st : Int} {p v w : Nat} : ∀ {d : Nat}, (∀ w', w ≤ w' → w' < w + d → nearC st v w' = false) → wsL st p v w d = []
  | 0, h => rfl
  | d + 1, h => by
    have h0 := h w (Nat.le_refl _) (by omega)
    have ih := wsL_nil (st := st) (p := p) (v := v) (w := w + 1) (d := d) fun w' a b => h w' (by omega) (by omega)
    unfold wsL at ih ⊢
    rw [List.range'_succ, List.flatMap_cons, h0, ih]; rfl

theorem wsL_add {st : Int} {p v w a b : Nat} : wsL st p v w (a + b) = wsL st p v w a ++ wsL st p v (w + a) b := by
  unfold wsL
  rw [← List.flatMap_append, List.range'_append_1]

theorem near_iff {st : Int} {v w : Nat} : nearC st v w = true ↔ (v : Int) - w ≤ st ∧ (w : Int) - v ≤ st := by
  simp [nearC]

theorem drop_cons {α : Type} {L : List α} {n : Nat} {a : α} {r : List α} (h : L.drop n = a :: r) : L[n]? = some a ∧ L.drop (n + 1) = r ∧ n < L.length := by
  have hn : n < L.length := by
    rcases Nat.lt_or_ge n L.length with h1 | h1
    · exact h1
    · rw [List.drop_eq_nil_of_le h1] at h; cases h
  rw [List.drop_eq_getElem_cons hn] at h
  simp only [List.cons.injEq] at h
  exact ⟨by rw [List.getElem?_eq_getElem hn, h.1], h.2, hn⟩

section
variable {L : List Chg} {yv : Value} {Y : Option Nat → Sd} {cont : Nat → Bool} {e : Option Nat} {m : Mot} {fails : Bool} {l : List Pt} {T : Nat}

theorem it_w (hT : m.top = T) (hT' : T ≤ 10) (h0 : 0 ≤ ease m fails) (h1 : ease m fails ≤ 10) {p v : Nat} (hv : v ≤ 10) {R : List Chg} :
    ∀ (d w n : Nat) (E : Env), w + d = T + 1 → (v : Int) - w ≤ ease m fails → IterE Try.prog 90 (L.map argC) yv Y cont e (some n) E → stopAt cont n (L.length - n) = e → L.drop n = wsL (ease m fails) p v w d ++ R →
      (∀ (E' : Env) (n' : Nat), IterE Try.prog 90 (L.map argC) yv Y cont e (some n') E' → stopAt cont n' (L.length - n') = e → L.drop n' = R → G Try.prog E' (f90K1 Try.prog) (f90S1 yv m fails l p (v + 1))) →
      G Try.prog E (f90K2 Try.prog) (f90S2 yv m fails l p v w)
  | 0, w, n, E, hd, hlo, hE, hi, hL, hg => by
    refine p90_2e yv m fails l p v w hE (by unfold InR; omega) (by unfold iMin; simp; split <;> omega) (by unfold InR; omega) (hg E n hE hi ?_)
    simpa [wsL] using hL
  | d + 1, w, n, E, hd, hlo, hE, hi, hL, hg => by
    by_cases hw : (w : Int) - v ≤ ease m fails
    · have hn : nearC (ease m fails) v w = true := near_iff.2 ⟨hlo, hw⟩
      have hcons : wsL (ease m fails) p v w (d + 1) = (⟨p, v, w⟩ : Chg) :: wsL (ease m fails) p v (w + 1) d := by simp [wsL, List.range'_succ, List.flatMap_cons, hn]
      rw [hcons, List.cons_append] at hL
      obtain ⟨g1, g2, g3⟩ := drop_cons hL
      refine p90_2h yv m fails l p v w hE (by unfold InR; omega) (by unfold iMin; simp; split <;> omega) ?_
      refine yield_stepA (x := argC ⟨p, v, w⟩) hE (by simp [g1]) (f90_h yv m fails l p v w) rfl fun E' hE' => ?_
      have hst : L.length - n = (L.length - (n + 1)) + 1 := by omega
      rw [hst] at hi
      simp only [stopAt] at hi
      cases hc : cont n with
      | true =>
        simp only [nxt, hc, cond_true] at hE' hi
        refine p90_a1 yv m fails l p v w true hE' rfl (by unfold InR; omega) ?_
        exact it_w hT hT' h0 h1 hv d (w + 1) (n + 1) E' (by omega) (by omega) hE' hi g2 hg
      | false =>
        simp only [nxt, hc, cond_false] at hE' hi
        subst hi
        exact p90_a0 yv m fails l p v w false hE' rfl
    · have hnil : wsL (ease m fails) p v w (d + 1) = [] := wsL_nil fun w' a b => by
        rw [← Bool.not_eq_true, near_iff]; omega
      rw [hnil, List.nil_append] at hL
      exact p90_2e yv m fails l p v w hE (by unfold InR; omega) (by unfold iMin; simp; split <;> omega) (by unfold InR; omega) (hg E n hE hi hL)

theorem it_v (hT : m.top = T) (hT' : T ≤ 10) (h0 : 0 ≤ ease m fails) (h1 : ease m fails ≤ 10) {p : Nat} (hp : p ≤ 1000) {R : List Chg} :
    ∀ (d v n : Nat) (E : Env), v + d = T + 1 → IterE Try.prog 90 (L.map argC) yv Y cont e (some n) E → stopAt cont n (L.length - n) = e → L.drop n = vsL (ease m fails) T p v d ++ R →
      (∀ (E' : Env) (n' : Nat), IterE Try.prog 90 (L.map argC) yv Y cont e (some n') E' → stopAt cont n' (L.length - n') = e → L.drop n' = R → G Try.prog E' (f90K0 Try.prog) (f90S0 yv m fails l (p + 1))) →
      G Try.prog E (f90K1 Try.prog) (f90S1 yv m fails l p v)
  | 0, v, n, E, hd, hE, hi, hL, hg => by
    refine p90_1e yv m fails l p v hE (by simp; omega) (by unfold InR; omega) (hg E n hE hi ?_)
    simpa [vsL] using hL
  | d + 1, v, n, E, hd, hE, hi, hL, hg => by
    have hcons : vsL (ease m fails) T p v (d + 1) = wsL (ease m fails) p v 0 (T + 1) ++ vsL (ease m fails) T p (v + 1) d := by simp [vsL, List.range'_succ, List.flatMap_cons]
    have hB : ease m fails = ((ease m fails).toNat : Int) := by omega
    have hlo : v - (ease m fails).toNat ≤ T := by omega
    have hsplit : wsL (ease m fails) p v 0 (T + 1) = wsL (ease m fails) p v (v - (ease m fails).toNat) (T + 1 - (v - (ease m fails).toNat)) := by
      have e1 : T + 1 = (v - (ease m fails).toNat) + (T + 1 - (v - (ease m fails).toNat)) := by omega
      rw [e1, wsL_add, wsL_nil (w := 0) (d := v - (ease m fails).toNat) fun w' a b => by rw [← Bool.not_eq_true, near_iff]; omega]
      simp only [List.nil_append, Nat.zero_add]
      congr 1; omega
    rw [hcons, List.append_assoc, hsplit] at hL
    refine p90_1n yv m fails l p v hE (by simp; omega) (by unfold InR; omega) ?_
    have ew : iMax 0 ((v : Int) - ease m fails) = ((v - (ease m fails).toNat : Nat) : Int) := by unfold iMax; split <;> omega
    rw [ew]
    exact it_w hT hT' h0 h1 (by omega) _ _ n E (by omega) (by omega) hE hi hL fun E' n' hE' hi' hL' => it_v hT hT' h0 h1 hp d (v + 1) n' E' (by omega) hE' hi' hL' hg

theorem it_p (hT : m.top = T) (hT' : T ≤ 10) (h0 : 0 ≤ ease m fails) (h1 : ease m fails ≤ 10) (hl : l.length ≤ 1000) :
    ∀ (d p n : Nat) (E : Env), p + d = l.length → IterE Try.prog 90 (L.map argC) yv Y cont e (some n) E → stopAt cont n (L.length - n) = e → L.drop n = psL (ease m fails) T p d →
      G Try.prog E (f90K0 Try.prog) (f90S0 yv m fails l p)
  | 0, p, n, E, hd, hE, hi, hL => by
    have hn : L.length ≤ n := by
      have : L.drop n = [] := by rw [hL]; rfl
      exact List.drop_eq_nil_iff.1 this
    have e0 : L.length - n = 0 := by omega
    rw [e0] at hi
    simp only [stopAt] at hi
    subst hi
    exact p90_0e yv m fails l p hE (by simp; omega)
  | d + 1, p, n, E, hd, hE, hi, hL => by
    have hcons : psL (ease m fails) T p (d + 1) = vsL (ease m fails) T p 0 (T + 1) ++ psL (ease m fails) T (p + 1) d := by simp [psL, List.range'_succ, List.flatMap_cons]
    rw [hcons] at hL
    refine p90_0n yv m fails l p hE (by simp; omega) (by unfold InR; omega) ?_
    exact it_v hT hT' h0 h1 (by omega) (T + 1) 0 n E (by omega) hE hi hL fun E' n' hE' hi' hL' => it_p hT hT' h0 h1 hl d (p + 1) n' E' (by omega) hE' hi' hL'

end

/-- The program's changes: the reference's, one after the other. -/
theorem changesP_iter (l : List Pt) (m : Mot) (fails : Bool) (T : Nat) (hm : MotW m fails T) (hl : l.length ≤ 1000) : IterF Try.prog (changesV l m fails) ((chgs (ease m fails) T l.length).map argC) :=
  iterF_of Try.func90 (by kernel_rfl) f90b fun E yv Y cont hE => by
    have hx : ((chgs (ease m fails) T l.length).map argC).length = (chgs (ease m fails) T l.length).length := by simp
    rw [hx] at hE
    exact p90_s yv m fails l hE (it_p (T := T) hm.top hm.le hm.e0 hm.e1 hl l.length 0 0 E (by omega) hE (by simp) rfl)


end Go.Proofs.Ytideokfbnegkjaa

/- Force: the first change that is not kept. -/
namespace Go.Proofs.Ytideokfbnegkjaa
open Go Ax
open Go.Proofs

theorem f47b : Try.f47.body = some (bodyAt Try.prog 47) := by kernel_rfl
def f47Kr (P : Program) : List Item := kAt 400 [.code (bodyAt P 47)] []
def f47Sr (l : List Pt) (m : Mot) (x : Lim) (fails : Bool) : St := ⟨[.rsl (rowP l) 0 l.length, .agg [.int .i64 m.top, .int .i64 m.ease, .int .i64 m.jerk], .agg [.int .i64 x.side, .int .i64 x.low, .int .i64 x.high], .bool fails, .ptr 0 0 0, .ptr 1 0 0, .ptr 2 0 0, .tup [], .ptr 3 0 0, .ptr 4 0 0, .tup [], .rsl (rowP l) 0 l.length, .agg [.int .i64 m.top, .int .i64 m.ease, .int .i64 m.jerk], .bool fails, .clos 90 [] [.rptr [.int .i64 m.top, .int .i64 m.ease, .int .i64 m.jerk] 0, .rptr [.bool fails] 0, .rptr [.rsl (rowP l) 0 l.length] 0], .tup [], .tup [], .tup [], .tup [], .tup [], .tup [], .tup [], .tup [], .tup []], [⟨true, 0, 1, true, [.rsl (rowP l) 0 l.length], false⟩, ⟨true, 0, 1, true, [.int .i64 m.top, .int .i64 m.ease, .int .i64 m.jerk], false⟩, ⟨true, 0, 1, true, [.int .i64 x.side, .int .i64 x.low, .int .i64 x.high], false⟩, ⟨true, 0, 1, true, [.int .i64 0, .int .i64 0, .int .i64 0], false⟩, ⟨true, 0, 1, true, [.bool false], false⟩]⟩
theorem p47_s (l : List Pt) (m : Mot) (x : Lim) (fails : Bool)  {E : Env} {res : AV} (hE : PureE Try.prog 47 res E) 
    (hg : G Try.prog E (f47Kr Try.prog) (f47Sr l m x fails )) : G Try.prog E [.code (bodyAt Try.prog 47)] ⟨[.rsl (rowP l) 0 l.length, .agg [.int .i64 m.top, .int .i64 m.ease, .int .i64 m.jerk], .agg [.int .i64 x.side, .int .i64 x.low, .int .i64 x.high], .bool fails] ++ unds (Try.f47.ntmps - 4), []⟩ :=
  segN_step (n := 400) (ds := []) (live := [0, 1, 2, 3, 4, 5, 6, 7, 8, 9, 10, 11, 12, 13, 14, 15, 16, 17, 18, 19, 20, 21, 22, 23]) (m := 5) (evs := [.v (.clos 90 [] [.rptr [.int .i64 m.top, .int .i64 m.ease, .int .i64 m.jerk] 0, .rptr [.bool fails] 0, .rptr [.rsl (rowP l) 0 l.length] 0])]) (obs := [PureF Try.prog (.clos 67 [] []) [.rsl (rowP l) 0 l.length, .agg [.int .i64 m.top, .int .i64 m.ease, .int .i64 m.jerk], .bool fails] (.clos 90 [] [.rptr [.int .i64 m.top, .int .i64 m.ease, .int .i64 m.jerk] 0, .rptr [.bool fails] 0, .rptr [.rsl (rowP l) 0 l.length] 0])]) hE.2.1 (hE.nogh _) mixed (by kernel_rfl) ⟨(changesP_F l m fails), trivial⟩ hg
def f47S1 (l : List Pt) (m : Mot) (x : Lim) (fails : Bool) (c : Chg) : St := ⟨[.rsl (rowP l) 0 l.length, .agg [.int .i64 m.top, .int .i64 m.ease, .int .i64 m.jerk], .agg [.int .i64 x.side, .int .i64 x.low, .int .i64 x.high], .bool fails, .ptr 0 0 0, .ptr 1 0 0, .ptr 2 0 0, .tup [], .ptr 3 0 0, .ptr 4 0 0, .ptr 5 0 0, .rsl (rowP l) 0 l.length, .agg [.int .i64 m.top, .int .i64 m.ease, .int .i64 m.jerk], .bool fails, .clos 90 [] [.rptr [.int .i64 m.top, .int .i64 m.ease, .int .i64 m.jerk] 0, .rptr [.bool fails] 0, .rptr [.rsl (rowP l) 0 l.length] 0], .agg [.int .i64 c.phase, .int .i64 c.before, .int .i64 c.after], .tup [], .tup [], .tup [], .tup [], .tup [], .tup [], .tup [], .tup []], [⟨true, 0, 1, true, [.rsl (rowP l) 0 l.length], false⟩, ⟨true, 0, 1, true, [.int .i64 m.top, .int .i64 m.ease, .int .i64 m.jerk], false⟩, ⟨true, 0, 1, true, [.int .i64 x.side, .int .i64 x.low, .int .i64 x.high], false⟩, ⟨true, 0, 1, true, [.int .i64 0, .int .i64 0, .int .i64 0], false⟩, ⟨true, 0, 1, true, [.bool false], false⟩, ⟨true, 0, 1, true, [.int .i64 c.phase, .int .i64 c.before, .int .i64 c.after], false⟩]⟩
theorem r47_a (l : List Pt) (m : Mot) (x : Lim) (fails : Bool) (c : Chg) {E : Env} (hE : RoundE (f47Sr l m x fails).tmps E) 
    (hg : G Try.prog E [.beginRound, .code (rfBody (f47Kr Try.prog))] (f47S1 l m x fails c)) : G Try.prog E [.code (rfAssign (f47Kr Try.prog)), .beginRound, .code (rfBody (f47Kr Try.prog))] ⟨putPs (f47Sr l m x fails).tmps [15] (argC c), (f47Sr l m x fails).blks⟩ :=
  segN_step (n := 400) (ds := []) (live := [0, 1, 2, 3, 4, 5, 6, 7, 8, 9, 10, 11, 12, 13, 14, 15, 16, 17, 18, 19, 20, 21, 22, 23]) (m := 6) (evs := []) (obs := [3 ≤ 3]) hE.kind (by rw [hE.gA]; kernel_rfl) mixed (by kernel_rfl) ⟨(by decide), trivial⟩ hg
def f47E0 (l : List Pt) (m : Mot) (x : Lim) (fails : Bool) (c : Chg) : St := ⟨[.junk, .junk, .junk, .junk, .junk, .junk, .junk, .junk, .junk, .junk, .junk, .junk, .junk, .junk, .junk, .junk, .junk, .junk, .junk, .junk, .junk, .junk, .junk, .junk], [⟨true, 0, 1, true, [.rsl (rowP l) 0 l.length], false⟩, ⟨true, 0, 1, true, [.int .i64 m.top, .int .i64 m.ease, .int .i64 m.jerk], false⟩, ⟨true, 0, 1, true, [.int .i64 x.side, .int .i64 x.low, .int .i64 x.high], false⟩, ⟨true, 0, 1, true, [.int .i64 c.phase, .int .i64 c.before, .int .i64 c.after], false⟩, ⟨true, 0, 1, true, [.bool true], false⟩]⟩
theorem r47_b0 (l : List Pt) (m : Mot) (x : Lim) (fails : Bool) (c : Chg) {E : Env} (hE : RoundE (f47Sr l m x fails).tmps E) (h0 : PureF Try.prog (.clos 52 [] []) [.rsl (rowP l) 0 l.length, .agg [.int .i64 c.phase, .int .i64 c.before, .int .i64 c.after]] (.agg [.int .i64 ((feltP l c).x), .int .i64 ((feltP l c).y), .int .i64 ((feltP l c).z)])) (h1 : PureF Try.prog (.clos 72 [] []) [.agg [.int .i64 ((feltP l c).x), .int .i64 ((feltP l c).y), .int .i64 ((feltP l c).z)], .agg [.int .i64 x.side, .int .i64 x.low, .int .i64 x.high]] (.bool (keptP (feltP l c) x))) (h2 : (!(keptP (feltP l c) x)) = true)
    (hg : G Try.prog E (kAt 400 [.code (rfBody (f47Kr Try.prog))] [.b true]) (f47E0 l m x fails c)) : G Try.prog E [.code (rfBody (f47Kr Try.prog))] (f47S1 l m x fails c) :=
  segN_step (n := 400) (ds := []) (live := []) (m := 5) (evs := [.v (.agg [.int .i64 ((feltP l c).x), .int .i64 ((feltP l c).y), .int .i64 ((feltP l c).z)]), .v (.bool (keptP (feltP l c) x)), .b true]) (obs := [PureF Try.prog (.clos 52 [] []) [.rsl (rowP l) 0 l.length, .agg [.int .i64 c.phase, .int .i64 c.before, .int .i64 c.after]] (.agg [.int .i64 ((feltP l c).x), .int .i64 ((feltP l c).y), .int .i64 ((feltP l c).z)]), PureF Try.prog (.clos 72 [] []) [.agg [.int .i64 ((feltP l c).x), .int .i64 ((feltP l c).y), .int .i64 ((feltP l c).z)], .agg [.int .i64 x.side, .int .i64 x.low, .int .i64 x.high]] (.bool (keptP (feltP l c) x)), (!(keptP (feltP l c) x)) = true, 3 ≤ 3, 1 ≤ 1]) hE.kind (by rw [hE.gA]; kernel_rfl) mixed (by kernel_rfl) ⟨h0, h1, h2, (by decide), (by decide), trivial⟩ hg
def f47E1 (l : List Pt) (m : Mot) (x : Lim) (fails : Bool) (c : Chg) : St := ⟨[.junk, .junk, .junk, .junk, .junk, .junk, .junk, .junk, .junk, .junk, .junk, .junk, .junk, .junk, .junk, .junk, .junk, .junk, .junk, .junk, .junk, .junk, .junk, .junk], [⟨true, 0, 1, true, [.rsl (rowP l) 0 l.length], false⟩, ⟨true, 0, 1, true, [.int .i64 m.top, .int .i64 m.ease, .int .i64 m.jerk], false⟩, ⟨true, 0, 1, true, [.int .i64 x.side, .int .i64 x.low, .int .i64 x.high], false⟩, ⟨true, 0, 1, true, [.int .i64 0, .int .i64 0, .int .i64 0], false⟩, ⟨true, 0, 1, true, [.bool false], false⟩]⟩
theorem r47_b1 (l : List Pt) (m : Mot) (x : Lim) (fails : Bool) (c : Chg) {E : Env} (hE : RoundE (f47Sr l m x fails).tmps E) (h0 : PureF Try.prog (.clos 52 [] []) [.rsl (rowP l) 0 l.length, .agg [.int .i64 c.phase, .int .i64 c.before, .int .i64 c.after]] (.agg [.int .i64 ((feltP l c).x), .int .i64 ((feltP l c).y), .int .i64 ((feltP l c).z)])) (h1 : PureF Try.prog (.clos 72 [] []) [.agg [.int .i64 ((feltP l c).x), .int .i64 ((feltP l c).y), .int .i64 ((feltP l c).z)], .agg [.int .i64 x.side, .int .i64 x.low, .int .i64 x.high]] (.bool (keptP (feltP l c) x))) (h2 : (!(keptP (feltP l c) x)) = false)
    (hg : G Try.prog E [] (f47E1 l m x fails c)) : G Try.prog E [.code (rfBody (f47Kr Try.prog))] (f47S1 l m x fails c) :=
  segN_step (n := 400) (ds := []) (live := []) (m := 5) (evs := [.v (.agg [.int .i64 ((feltP l c).x), .int .i64 ((feltP l c).y), .int .i64 ((feltP l c).z)]), .v (.bool (keptP (feltP l c) x)), .b false]) (obs := [PureF Try.prog (.clos 52 [] []) [.rsl (rowP l) 0 l.length, .agg [.int .i64 c.phase, .int .i64 c.before, .int .i64 c.after]] (.agg [.int .i64 ((feltP l c).x), .int .i64 ((feltP l c).y), .int .i64 ((feltP l c).z)]), PureF Try.prog (.clos 72 [] []) [.agg [.int .i64 ((feltP l c).x), .int .i64 ((feltP l c).y), .int .i64 ((feltP l c).z)], .agg [.int .i64 x.side, .int .i64 x.low, .int .i64 x.high]] (.bool (keptP (feltP l c) x)), (!(keptP (feltP l c) x)) = false]) hE.kind (by rw [hE.gA]; kernel_rfl) mixed (by kernel_rfl) ⟨h0, h1, h2, trivial⟩ hg
theorem p47_e (l : List Pt) (m : Mot) (x : Lim) (fails : Bool)  {E : Env} {res : AV} (hE : PureE Try.prog 47 res E)  (hr : .tup [.agg [.int .i64 0, .int .i64 0, .int .i64 0], .bool false] = res) : G Try.prog E (rfRest (f47Kr Try.prog)) ⟨(f47Sr l m x fails).tmps, (f47Sr l m x fails).blks⟩ :=
  end_step (n := 400) (evs := []) (obs := [3 ≤ 3, 1 ≤ 1]) hE Try.func47 mixed (by kernel_rfl) ⟨(by decide), (by decide), trivial⟩ hr
theorem p47_r (l : List Pt) (m : Mot) (x : Lim) (fails : Bool) (c : Chg) {E : Env} {res : AV} (hE : PureE Try.prog 47 res E)  (hr : .tup [.agg [.int .i64 c.phase, .int .i64 c.before, .int .i64 c.after], .bool true] = res) : G Try.prog E (.code .ret :: rfRest (f47Kr Try.prog)) ⟨(f47Sr l m x fails).tmps, (f47E0 l m x fails c).blks⟩ :=
  end_step (n := 400) (evs := []) (obs := []) hE Try.func47 mixed (by kernel_rfl) trivial hr
end Go.Proofs.Ytideokfbnegkjaa

/- Force: the first change that is not kept, proved. -/
namespace Go.Proofs.Ytideokfbnegkjaa
open Go Ax
open Go.Proofs

def firstRes (b : Option Chg) : AV := .tup [.agg [.int .i64 (bad0 b).phase, .int .i64 (bad0 b).before, .int .i64 (bad0 b).after], .bool b.isSome]

def keptAt (l : List Pt) (x : Lim) (L : List Chg) (i : Nat) : Bool := match L[i]? with
  | some c => keptP (feltP l c) x
  | none => true

theorem stop_find {l : List Pt} {x : Lim} {L : List Chg} : ∀ (d i : Nat), i + d = L.length →
    (stopAt (keptAt l x L) i d = none ∧ ∃ c, badC l x (L.drop i) = some c) ∨ (stopAt (keptAt l x L) i d = some L.length ∧ badC l x (L.drop i) = none)
  | 0, i, h => .inr ⟨by simp only [stopAt]; rw [show i = L.length by omega], by rw [List.drop_eq_nil_of_le (by omega)]; rfl⟩
  | d + 1, i, h => by
    have hi : i < L.length := by omega
    have hk : keptAt l x L i = keptP (feltP l L[i]) x := by simp [keptAt, hi]
    simp only [stopAt, hk, badC]
    rw [List.drop_eq_getElem_cons hi, List.find?_cons]
    cases hc : keptP (feltP l L[i]) x with
    | true => simpa [hc, badC] using stop_find (l := l) (x := x) d (i + 1) (by omega)
    | false => exact .inl ⟨rfl, L[i], by simp⟩

theorem bad_at {l : List Pt} {x : Lim} {L : List Chg} {i : Nat} {c : Chg} (h : L[i]? = some c) (hpre : ∀ j, j < i → keptAt l x L j = true) (hc : keptP (feltP l c) x = false) : badC l x L = some c := by
  have hi := get_lt h
  have h2 : L[i] = c := by rw [List.getElem?_eq_getElem hi] at h; simpa using h
  unfold badC
  rw [List.find?_eq_some_iff_getElem]
  refine ⟨by simp [hc], i, hi, h2, fun j hj => ?_⟩
  have := hpre j hj
  simp only [keptAt, List.getElem?_eq_getElem (Nat.lt_trans hj hi)] at this
  simp [this]

theorem changesP_get {L : List Chg} {i : Nat} {a : List AV} (h : (L.map argC)[i]? = some a) : ∃ c, L[i]? = some c ∧ a = argC c := by
  simp only [List.getElem?_map, Option.map_eq_some_iff] at h
  obtain ⟨c, h1, h2⟩ := h
  exact ⟨c, h1, h2.symm⟩

theorem first_ok (l : List Pt) (m : Mot) (x : Lim) (fails : Bool) (T : Nat) (hv : validP l = true) (hm : MotW m fails T) (hx : limitOk x = true) :
    Pure Try.prog 47 [.rsl (rowP l) 0 l.length, .agg [.int .i64 m.top, .int .i64 m.ease, .int .i64 m.jerk], .agg [.int .i64 x.side, .int .i64 x.low, .int .i64 x.high], .bool fails]
      (firstRes (badC l x (chgs (ease m fails) T l.length))) := pure_of Try.func47 f47b fun E hE => by
  have hl := valid_len hv
  refine p47_s l m x fails hE ?_
  have hit := changesP_iter l m fails T hm (by omega)
  have hok : ∀ c ∈ chgs (ease m fails) T l.length, chgOk l.length c := fun c h => chgs_ok hm.le h
  generalize chgs (ease m fails) T l.length = L at hE hit hok
  have hgA : E.gA = [] := hE.2.2.2.2.1
  have hT : (f47Sr l m x fails).tmps ++ E.gA = (f47Sr l m x fails).tmps := by rw [hgA, List.append_nil]
  refine range_stepA (cont := keptAt l x L) (jump := .ret) (g := .tmp 14) (ps := #[15]) (fun o => match o with
      | some _ => (f47Sr l m x fails).blks
      | none => (f47E0 l m x fails (bad0 (badC l x L))).blks) (fun i => f47S1 l m x fails (L.getD i ⟨0, 0, 0⟩)) hE.1 hE.2.1 (by kernel_rfl) rfl rfl hit rfl (fun i a h => ?_) (fun i a h hpre E' hR hfin => ?_) (fun i a h hpre E' hR hfin => ?_) ?_
  · obtain ⟨c, h1, rfl⟩ := changesP_get h; rfl
  · obtain ⟨c, h1, rfl⟩ := changesP_get h
    rw [hT] at hR
    have e : L.getD i ⟨0, 0, 0⟩ = c := by simp [List.getD, h1]
    simp only [e] at hfin
    exact r47_a l m x fails c hR (G_here hfin rfl rfl)
  · obtain ⟨c, h1, rfl⟩ := changesP_get h
    rw [hT] at hR
    have e : L.getD i ⟨0, 0, 0⟩ = c := by simp [List.getD, h1]
    simp only [e]
    have hco := hok c (List.mem_of_getElem? h1)
    have hk : keptAt l x L i = keptP (feltP l c) x := by simp [keptAt, h1]
    rcases Bool.eq_false_or_eq_true (keptP (feltP l c) x) with hc | hc
    · refine r47_b1 l m x fails c hR (felt_F l c hv hco) (keeps_F _ x (felt_side hv c) hx) (by rw [hc]; rfl) (G_here hfin ?_ ?_)
      · simp [hk, hc]
      · simp only [nxt, hk, hc, cond_true]; rfl
    · have hb : badC l x L = some c := bad_at h1 hpre hc
      refine r47_b0 l m x fails c hR (felt_F l c hv hco) (keeps_F _ x (felt_side hv c) hx) (by rw [hc]; rfl) (G_here hfin ?_ ?_)
      · rw [hk, hc]; simp only [Bool.false_eq_true, if_false]
        have hj : ((kAt 400 [.code (rfBody (f47Kr Try.prog))] [.b true]).head?.map fun i => match i with | .code .ret => true | _ => false) = some true := by kernel_rfl
        revert hj
        generalize kAt 400 [.code (rfBody (f47Kr Try.prog))] [.b true] = KK
        intro hj
        match KK, hj with
        | .code .ret :: k, _ => exact ⟨k, rfl, .inl rfl⟩
      · simp only [nxt, hk, hc, cond_false, hb]; rfl
  · have hlen : (L.map argC).length = L.length := by simp
    rw [hlen]
    rcases stop_find (l := l) (x := x) (L := L) L.length 0 (by omega) with ⟨hs, c, hb⟩ | ⟨hs, hb⟩
    · rw [hs]
      rw [List.drop_zero] at hb
      refine p47_r l m x fails (bad0 (badC l x L)) hE ?_
      rw [hb]; rfl
    · rw [hs]
      rw [List.drop_zero] at hb
      refine p47_e l m x fails hE ?_
      rw [hb]; rfl

theorem first_F (l : List Pt) (m : Mot) (x : Lim) (fails : Bool) (T : Nat) (hv : validP l = true) (hm : MotW m fails T) (hx : limitOk x = true) :
    PureF Try.prog (.clos 47 [] []) [.rsl (rowP l) 0 l.length, .agg [.int .i64 m.top, .int .i64 m.ease, .int .i64 m.jerk], .agg [.int .i64 x.side, .int .i64 x.low, .int .i64 x.high], .bool fails]
      (firstRes (badC l x (chgs (ease m fails) T l.length))) := pureF_of Try.func47 (by kernel_rfl) f47b (by simpa using first_ok l m x fails T hv hm hx)


end Go.Proofs.Ytideokfbnegkjaa

/- Force: the program's Fastest. -/
namespace Go.Proofs.Ytideokfbnegkjaa
open Go Ax
open Go.Proofs

theorem f16b : Try.f16.body = some (bodyAt Try.prog 16) := by kernel_rfl
theorem p16_e (l : List Pt) (m : Mot) (x : Lim) (fails : Bool) (hl : l.length ≤ 1000) {E : Env} {res : AV} (hE : PureE Try.prog 16 res E) (h2 : ((checkE l m [x]) != 0) = true)
    (hr : .tup [.int .i64 0, .int .i64 (checkE l m [x])] = res) : G Try.prog E [.code (bodyAt Try.prog 16)] ⟨[.rsl (rowP l) 0 l.length, .agg [.int .i64 m.top, .int .i64 m.ease, .int .i64 m.jerk], .agg [.int .i64 x.side, .int .i64 x.low, .int .i64 x.high], .bool fails] ++ unds (Try.f16.ntmps - 4), []⟩ :=
  end_step (n := 400) (evs := [.v (.int .i64 (checkE l m [x])), .b true]) (obs := [PureF Try.prog (.clos 46 [] []) [.rsl (rowP l) 0 l.length, .agg [.int .i64 m.top, .int .i64 m.ease, .int .i64 m.jerk], .rsl [.int .i64 x.side, .int .i64 x.low, .int .i64 x.high] 0 1] (.int .i64 (checkE l m [x])), 0 = 0, ((checkE l m [x]) != 0) = true]) hE Try.func16 mixed (by kernel_rfl) ⟨(check_F l _ [x] hl (by simp)), (rfl), h2, trivial⟩ hr
def f16K0 (P : Program) : List Item := kAt 400 [.code (bodyAt P 16)] [.b false, .stop]
def f16S0 (l : List Pt) (m : Mot) (x : Lim) (fails : Bool) (t : Int) : St := ⟨[.rsl (rowP l) 0 l.length, .junk, .junk, .bool fails, .junk, .ptr 0 0 0, .ptr 1 0 0, .junk, .junk, .junk, .junk, .junk, .junk, .junk, .junk, .junk, .junk, .junk, .junk, .junk, .junk, .junk, .junk, .junk, .junk, .junk, .junk, .junk, .junk, .junk, .junk, .junk, .junk, .junk, .junk, .junk, .junk, .junk, .junk, .junk], [⟨true, 0, 1, true, [.int .i64 t, .int .i64 m.ease, .int .i64 m.jerk], false⟩, ⟨true, 0, 1, true, [.int .i64 x.side, .int .i64 x.low, .int .i64 x.high], false⟩]⟩
theorem p16_s (l : List Pt) (m : Mot) (x : Lim) (fails : Bool) (hl : l.length ≤ 1000) {E : Env} {res : AV} (hE : PureE Try.prog 16 res E) (h2 : ((checkE l m [x]) != 0) = false)
    (hg : G Try.prog E (f16K0 Try.prog) (f16S0 l m x fails m.top)) : G Try.prog E [.code (bodyAt Try.prog 16)] ⟨[.rsl (rowP l) 0 l.length, .agg [.int .i64 m.top, .int .i64 m.ease, .int .i64 m.jerk], .agg [.int .i64 x.side, .int .i64 x.low, .int .i64 x.high], .bool fails] ++ unds (Try.f16.ntmps - 4), []⟩ :=
  segN_step (n := 400) (ds := []) (live := [0, 3, 5, 6]) (m := 2) (evs := [.v (.int .i64 (checkE l m [x])), .b false, .stop]) (obs := [PureF Try.prog (.clos 46 [] []) [.rsl (rowP l) 0 l.length, .agg [.int .i64 m.top, .int .i64 m.ease, .int .i64 m.jerk], .rsl [.int .i64 x.side, .int .i64 x.low, .int .i64 x.high] 0 1] (.int .i64 (checkE l m [x])), 0 = 0, ((checkE l m [x]) != 0) = false]) hE.2.1 (hE.nogh _) mixed (by kernel_rfl) ⟨(check_F l _ [x] hl (by simp)), (rfl), h2, trivial⟩ hg
theorem p16_0 (l : List Pt) (m : Mot) (x : Lim) (fails : Bool) (t : Int) (bc : Chg) (kb : Bool) {E : Env} {res : AV} (hE : PureE Try.prog 16 res E) (h0 : (decide (t > 0)) = true) (h1 : PureF Try.prog (.clos 47 [] []) [.rsl (rowP l) 0 l.length, .agg [.int .i64 t, .int .i64 m.ease, .int .i64 m.jerk], .agg [.int .i64 x.side, .int .i64 x.low, .int .i64 x.high], .bool fails] (.tup [.agg [.int .i64 bc.phase, .int .i64 bc.before, .int .i64 bc.after], .bool kb])) (h3 : (!kb) = true)
    (hr : .tup [.int .i64 t, .int .i64 0] = res) : G Try.prog E (f16K0 Try.prog) (f16S0 l m x fails t) :=
  end_step (n := 400) (evs := [.b true, .v (.tup [.agg [.int .i64 bc.phase, .int .i64 bc.before, .int .i64 bc.after], .bool kb]), .b true]) (obs := [(decide (t > 0)) = true, PureF Try.prog (.clos 47 [] []) [.rsl (rowP l) 0 l.length, .agg [.int .i64 t, .int .i64 m.ease, .int .i64 m.jerk], .agg [.int .i64 x.side, .int .i64 x.low, .int .i64 x.high], .bool fails] (.tup [.agg [.int .i64 bc.phase, .int .i64 bc.before, .int .i64 bc.after], .bool kb]), 3 ≤ 3, (!kb) = true]) hE Try.func16 mixed (by kernel_rfl) ⟨h0, h1, (by decide), h3, trivial⟩ hr
theorem p16_1 (l : List Pt) (m : Mot) (x : Lim) (fails : Bool) (t : Int) (bc : Chg) (kb : Bool) {E : Env} {res : AV} (hE : PureE Try.prog 16 res E) (h0 : (decide (t > 0)) = true) (h1 : PureF Try.prog (.clos 47 [] []) [.rsl (rowP l) 0 l.length, .agg [.int .i64 t, .int .i64 m.ease, .int .i64 m.jerk], .agg [.int .i64 x.side, .int .i64 x.low, .int .i64 x.high], .bool fails] (.tup [.agg [.int .i64 bc.phase, .int .i64 bc.before, .int .i64 bc.after], .bool kb])) (h3 : (!kb) = false) (h4 : InR .i64 (t - 1))
    (hg : G Try.prog E (f16K0 Try.prog) (f16S0 l m x fails (t - 1))) : G Try.prog E (f16K0 Try.prog) (f16S0 l m x fails t) :=
  segN_step (n := 400) (ds := []) (live := [0, 3, 5, 6]) (m := 2) (evs := [.b true, .v (.tup [.agg [.int .i64 bc.phase, .int .i64 bc.before, .int .i64 bc.after], .bool kb]), .b false, .stop]) (obs := [(decide (t > 0)) = true, PureF Try.prog (.clos 47 [] []) [.rsl (rowP l) 0 l.length, .agg [.int .i64 t, .int .i64 m.ease, .int .i64 m.jerk], .agg [.int .i64 x.side, .int .i64 x.low, .int .i64 x.high], .bool fails] (.tup [.agg [.int .i64 bc.phase, .int .i64 bc.before, .int .i64 bc.after], .bool kb]), 3 ≤ 3, (!kb) = false, InR .i64 (t - 1), 1 ≤ 3]) hE.2.1 (hE.nogh _) mixed (by kernel_rfl) ⟨h0, h1, (by decide), h3, h4, (by decide), trivial⟩ hg
theorem p16_2 (l : List Pt) (m : Mot) (x : Lim) (fails : Bool) (t : Int)  {E : Env} {res : AV} (hE : PureE Try.prog 16 res E) (h0 : (decide (t > 0)) = false)
    (hr : .tup [.int .i64 0, .int .i64 3] = res) : G Try.prog E (f16K0 Try.prog) (f16S0 l m x fails t) :=
  end_step (n := 400) (evs := [.b false]) (obs := [(decide (t > 0)) = false]) hE Try.func16 mixed (by kernel_rfl) ⟨h0, trivial⟩ hr

theorem keepB_first (l : List Pt) (x : Lim) (st : Int) (T : Nat) : (badC l x (chgs st T l.length)).isSome = !keepB l x st T := by
  unfold keepB; cases badC l x (chgs st T l.length) <;> rfl

def fastP (l : List Pt) (m : Mot) (x : Lim) (fails : Bool) : Int × Int :=
  bif checkE l m [x] != 0 then (0, checkE l m [x]) else fastR (keepB l x (ease m fails)) m.top.toNat

theorem checkE_zero {l : List Pt} {m : Mot} {x : Lim} (h : (checkE l m [x] != 0) = false) : validP l = true ∧ motorOk m = true ∧ limitOk x = true := by
  simp only [checkE, List.any_cons, List.any_nil, Bool.or_false] at h
  rcases Bool.eq_false_or_eq_true (validP l) with a | a <;> rcases Bool.eq_false_or_eq_true (motorOk m) with b | b <;> rcases Bool.eq_false_or_eq_true (limitOk x) with c | c <;>
    rw [a, b, c] at h <;> first | exact ⟨a, b, c⟩ | (exfalso; revert h; decide)

theorem fastest_ok (l : List Pt) (m : Mot) (x : Lim) (fails : Bool) (hl : l.length ≤ 1000) :
    Pure Try.prog 16 [.rsl (rowP l) 0 l.length, .agg [.int .i64 m.top, .int .i64 m.ease, .int .i64 m.jerk], .agg [.int .i64 x.side, .int .i64 x.low, .int .i64 x.high], .bool fails]
      (.tup [.int .i64 (fastP l m x fails).1, .int .i64 (fastP l m x fails).2]) := pure_of Try.func16 f16b fun E hE => by
  rcases Bool.eq_false_or_eq_true (checkE l m [x] != 0) with hc | hc
  · exact p16_e l m x fails hl hE hc (by simp only [fastP, hc, cond_true])
  · obtain ⟨hv, hm, hx⟩ := checkE_zero hc
    have hb := motorOk_bd hm
    have he := ease_bd hm fails
    have key : ∀ t : Nat, t ≤ 10 → fastR (keepB l x (ease m fails)) t = fastP l m x fails → G Try.prog E (f16K0 Try.prog) (f16S0 l m x fails t) := by
      intro t
      induction t with
      | zero =>
        intro _ hr
        exact p16_2 l m x fails _ hE (by simp) (by rw [← hr]; rfl)
      | succ t ih =>
        intro ht hr
        have hK := first_F l ⟨((t + 1 : Nat) : Int), m.ease, m.jerk⟩ x fails (t + 1) hv ⟨rfl, ht, he.1, he.2⟩ hx
        have hs := keepB_first l x (ease m fails) (t + 1)
        rcases Bool.eq_false_or_eq_true (keepB l x (ease m fails) (t + 1)) with hk | hk
        · refine p16_0 l m x fails _ _ _ hE (by simp <;> omega) hK (by show (!Option.isSome _) = true; rw [show ease ⟨((t + 1 : Nat) : Int), m.ease, m.jerk⟩ fails = ease m fails from rfl, hs, hk]; rfl) ?_
          rw [← hr]; simp only [fastR, hk, cond_true]
        · refine p16_1 l m x fails _ _ _ hE (by simp <;> omega) hK (by show (!Option.isSome _) = false; rw [show ease ⟨((t + 1 : Nat) : Int), m.ease, m.jerk⟩ fails = ease m fails from rfl, hs, hk]; rfl) (by unfold InR; omega) ?_
          have e : ((t + 1 : Nat) : Int) - 1 = (t : Nat) := by omega
          rw [e]
          refine ih (by omega) ?_
          rw [← hr]; simp only [fastR, hk, cond_false]
    refine p16_s l m x fails hl hE hc ?_
    have e : m.top = (m.top.toNat : Int) := by omega
    rw [e]
    exact key m.top.toNat (by omega) (by simp only [fastP, hc, cond_false])

theorem fastest_F (l : List Pt) (m : Mot) (x : Lim) (fails : Bool) (hl : l.length ≤ 1000) :
    PureF Try.prog (.clos 16 [] []) [.rsl (rowP l) 0 l.length, .agg [.int .i64 m.top, .int .i64 m.ease, .int .i64 m.jerk], .agg [.int .i64 x.side, .int .i64 x.low, .int .i64 x.high], .bool fails]
      (.tup [.int .i64 (fastP l m x fails).1, .int .i64 (fastP l m x fails).2]) := pureF_of Try.func16 (by kernel_rfl) f16b (by simpa using fastest_ok l m x fails hl)

end Go.Proofs.Ytideokfbnegkjaa

/- Force: small functions of the rig. -/
namespace Go.Proofs.Ytideokfbnegkjaa
open Go Ax
open Go.Proofs

theorem rowP_len : ∀ l : List Pt, (rowP l).length = l.length * 3
  | [] => rfl
  | p :: l => by
    have := rowP_len l
    simp only [rowP, List.flatMap_cons, List.length_append, List.length_cons] at this ⊢
    rw [this]; simp [cP]; omega

theorem rowP_noRefs : ∀ l : List Pt, noRefs (rowP l) = true
  | [] => rfl
  | p :: l => by
    have := rowP_noRefs l
    simpa [rowP, List.flatMap_cons, cP, noRefs, noRef] using this

def footBad (p : Pt) : Bool := !spanned p || p.z != 0

theorem f85b : Try.f85.body = some (bodyAt Try.prog 85) := by kernel_rfl
theorem p85_0 (p : Pt)  {E : Env} {res : AV} (hE : PureE Try.prog 85 res E) (h1 : (!(spanned p)) = true)
    (hr : .bool true = res) : G Try.prog E [.code (bodyAt Try.prog 85)] ⟨[.agg [.int .i64 p.x, .int .i64 p.y, .int .i64 p.z]] ++ unds (Try.f85.ntmps - 1), []⟩ :=
  end_step (n := 400) (evs := [.v (.bool (spanned p)), .b true]) (obs := [PureF Try.prog (.clos 82 [] []) [.agg [.int .i64 p.x, .int .i64 p.y, .int .i64 p.z]] (.bool (spanned p)), (!(spanned p)) = true]) hE Try.func85 mixed (by kernel_rfl) ⟨(spanned_F _), h1, trivial⟩ hr
theorem p85_1 (p : Pt)  {E : Env} {res : AV} (hE : PureE Try.prog 85 res E) (h1 : (!(spanned p)) = false)
    (hr : .bool (p.z != 0) = res) : G Try.prog E [.code (bodyAt Try.prog 85)] ⟨[.agg [.int .i64 p.x, .int .i64 p.y, .int .i64 p.z]] ++ unds (Try.f85.ntmps - 1), []⟩ :=
  end_step (n := 400) (evs := [.v (.bool (spanned p)), .b false]) (obs := [PureF Try.prog (.clos 82 [] []) [.agg [.int .i64 p.x, .int .i64 p.y, .int .i64 p.z]] (.bool (spanned p)), (!(spanned p)) = false]) hE Try.func85 mixed (by kernel_rfl) ⟨(spanned_F _), h1, trivial⟩ hr
theorem foot1_ok (p : Pt)  : Pure Try.prog 85 [.agg [.int .i64 p.x, .int .i64 p.y, .int .i64 p.z]] (.bool (footBad p)) := pure_of Try.func85 f85b fun E hE => by
  rcases Bool.eq_false_or_eq_true (!(spanned p)) with hc0 | hc0
  · exact p85_0 p  hE hc0 (by simp [footBad, *])
  · exact p85_1 p  hE hc0 (by simp [footBad, *])
theorem foot1_F (p : Pt)  : PureF Try.prog (.clos 85 [] []) [.agg [.int .i64 p.x, .int .i64 p.y, .int .i64 p.z]] (.bool (footBad p)) := pureF_of Try.func85 (by kernel_rfl) f85b (by simpa using foot1_ok p )
theorem f99b : Try.f99.body = some (bodyAt Try.prog 99) := by kernel_rfl
def f99K0 (P : Program) : List Item := kAt 400 [.code (bodyAt P 99)] [.stop]
def f99S0 (l : List Pt) (i : Nat) : St := ⟨[.rsl (rowP l) 0 l.length, .clos 85 [] [], .junk, .junk, .junk, .junk, .junk, .int .i64 ((l.length : Nat) : Int), .int .i64 ((i : Nat) : Int), .junk, .junk, .junk, .junk, .junk, .junk, .junk, .junk, .junk, .junk], []⟩
theorem p99_s (l : List Pt)  {E : Env} {res : AV} (hE : PureE Try.prog 99 res E) 
    (hg : G Try.prog E (f99K0 Try.prog) (f99S0 l 0)) : G Try.prog E [.code (bodyAt Try.prog 99)] ⟨[.rsl (rowP l) 0 l.length, .clos 85 [] []] ++ unds (Try.f99.ntmps - 2), []⟩ :=
  segN_step (n := 400) (ds := []) (live := [0, 1, 7, 8]) (m := 0) (evs := [.stop]) (obs := []) hE.2.1 (hE.nogh _) mixed (by kernel_rfl) trivial hg
theorem p99_0 (l : List Pt) (i : Nat) (p : Pt) {E : Env} {res : AV} (hE : PureE Try.prog 99 res E) (h0 : (decide (((i : Nat) : Int) < ((l.length : Nat) : Int))) = true) (h1 : 0 ≤ ((i : Nat) : Int) ∧ ((i : Nat) : Int) < ((l.length : Nat) : Int)) (h2 : ((rowP l).drop (0 + ((Int.toNat ((i : Nat) : Int)) * 3))).take 3 = [.int .i64 p.x, .int .i64 p.y, .int .i64 p.z]) (h4 : (footBad p) = true)
    (hr : .int .i64 ((i : Nat) : Int) = res) : G Try.prog E (f99K0 Try.prog) (f99S0 l i) :=
  end_step (n := 400) (evs := [.b true, .ld (.agg [.int .i64 p.x, .int .i64 p.y, .int .i64 p.z]), .v (.bool (footBad p)), .b true]) (obs := [(decide (((i : Nat) : Int) < ((l.length : Nat) : Int))) = true, 0 ≤ ((i : Nat) : Int) ∧ ((i : Nat) : Int) < ((l.length : Nat) : Int), ((rowP l).drop (0 + ((Int.toNat ((i : Nat) : Int)) * 3))).take 3 = [.int .i64 p.x, .int .i64 p.y, .int .i64 p.z], PureF Try.prog (.clos 85 [] []) [.agg [.int .i64 p.x, .int .i64 p.y, .int .i64 p.z]] (.bool (footBad p)), (footBad p) = true]) hE Try.func99 mixed (by kernel_rfl) ⟨h0, h1, h2, (foot1_F _), h4, trivial⟩ hr
theorem p99_1 (l : List Pt) (i : Nat) (p : Pt) {E : Env} {res : AV} (hE : PureE Try.prog 99 res E) (h0 : (decide (((i : Nat) : Int) < ((l.length : Nat) : Int))) = true) (h1 : 0 ≤ ((i : Nat) : Int) ∧ ((i : Nat) : Int) < ((l.length : Nat) : Int)) (h2 : ((rowP l).drop (0 + ((Int.toNat ((i : Nat) : Int)) * 3))).take 3 = [.int .i64 p.x, .int .i64 p.y, .int .i64 p.z]) (h4 : (footBad p) = false) (h5 : InR .i64 (((i : Nat) : Int) + 1))
    (hg : G Try.prog E (f99K0 Try.prog) (f99S0 l (i + 1))) : G Try.prog E (f99K0 Try.prog) (f99S0 l i) :=
  segN_step (n := 400) (ds := []) (live := [0, 1, 7, 8]) (m := 0) (evs := [.b true, .ld (.agg [.int .i64 p.x, .int .i64 p.y, .int .i64 p.z]), .v (.bool (footBad p)), .b false, .stop]) (obs := [(decide (((i : Nat) : Int) < ((l.length : Nat) : Int))) = true, 0 ≤ ((i : Nat) : Int) ∧ ((i : Nat) : Int) < ((l.length : Nat) : Int), ((rowP l).drop (0 + ((Int.toNat ((i : Nat) : Int)) * 3))).take 3 = [.int .i64 p.x, .int .i64 p.y, .int .i64 p.z], PureF Try.prog (.clos 85 [] []) [.agg [.int .i64 p.x, .int .i64 p.y, .int .i64 p.z]] (.bool (footBad p)), (footBad p) = false, InR .i64 (((i : Nat) : Int) + 1)]) hE.2.1 (hE.nogh _) mixed (by kernel_rfl) ⟨h0, h1, h2, (foot1_F _), h4, h5, trivial⟩ hg
theorem p99_2 (l : List Pt) (i : Nat)  {E : Env} {res : AV} (hE : PureE Try.prog 99 res E) (h0 : (decide (((i : Nat) : Int) < ((l.length : Nat) : Int))) = false)
    (hr : .int .i64 (-1) = res) : G Try.prog E (f99K0 Try.prog) (f99S0 l i) :=
  end_step (n := 400) (evs := [.b false]) (obs := [(decide (((i : Nat) : Int) < ((l.length : Nat) : Int))) = false]) hE Try.func99 mixed (by kernel_rfl) ⟨h0, trivial⟩ hr
theorem idx99_ok (l : List Pt) (hl : l.length ≤ 1000) : Pure Try.prog 99 [.rsl (rowP l) 0 l.length, .clos 85 [] []] (.int .i64 (idxFrom footBad l 0)) := pure_of Try.func99 f99b fun E hE =>
  p99_s l hE (search_ind (Gi := fun i => G Try.prog E (f99K0 Try.prog) (f99S0 l i)) (p := footBad) (l := l) (v := idxFrom footBad l 0)
    (fun i a h hp hv => have hi := get_lt h; p99_0 l i a hE (by simpa using hi) (by omega) (row_get cP (fun _ => rfl) _ _ _ h) hp (by rw [hv]))
    (fun i a h hp hg => have hi := get_lt h; p99_1 l i a hE (by simpa using hi) (by omega) (row_get cP (fun _ => rfl) _ _ _ h) hp (by unfold InR; omega) hg)
    (fun i h hv => p99_2 l i hE (by simpa using h) (by rw [hv])) l.length 0 (by omega) rfl)
theorem idx99_F (l : List Pt) (hl : l.length ≤ 1000) : PureF Try.prog (.clos 99 [] []) [.rsl (rowP l) 0 l.length, .clos 85 [] []] (.int .i64 (idxFrom footBad l 0)) := pureF_of Try.func99 (by kernel_rfl) f99b (by simpa using idx99_ok l hl)
theorem f84b : Try.f84.body = some (bodyAt Try.prog 84) := by kernel_rfl
theorem p84_0 (l : List Pt) (hl : l.length ≤ 1000) {E : Env} {res : AV} (hE : PureE Try.prog 84 res E) 
    (hr : .bool (decide ((idxFrom footBad l 0) ≥ 0)) = res) : G Try.prog E [.code (bodyAt Try.prog 84)] ⟨[.rsl (rowP l) 0 l.length, .clos 85 [] []] ++ unds (Try.f84.ntmps - 2), []⟩ :=
  end_step (n := 400) (evs := [.v (.int .i64 (idxFrom footBad l 0))]) (obs := [PureF Try.prog (.clos 99 [] []) [.rsl (rowP l) 0 l.length, .clos 85 [] []] (.int .i64 (idxFrom footBad l 0))]) hE Try.func84 mixed (by kernel_rfl) ⟨(idx99_F l hl), trivial⟩ hr
theorem any84_ok (l : List Pt) (hl : l.length ≤ 1000) : Pure Try.prog 84 [.rsl (rowP l) 0 l.length, .clos 85 [] []] (.bool (l.any footBad)) := pure_of Try.func84 f84b fun E hE =>
  p84_0 l hl hE (by rw [idxFrom_ge])
theorem any84_F (l : List Pt) (hl : l.length ≤ 1000) : PureF Try.prog (.clos 84 [] []) [.rsl (rowP l) 0 l.length, .clos 85 [] []] (.bool (l.any footBad)) := pureF_of Try.func84 (by kernel_rfl) f84b (by simpa using any84_ok l hl)
theorem f89b : Try.f89.body = some (bodyAt Try.prog 89) := by kernel_rfl
theorem p89_0 (n a : Int)  {E : Env} {res : AV} (hE : PureE Try.prog 89 res E) 
    (hr : .bool (decide (a < 0)) = res) : G Try.prog E [.code (bodyAt Try.prog 89)] ⟨[.int .i64 n, .int .i64 a] ++ unds (Try.f89.ntmps - 2), []⟩ :=
  end_step (n := 400) (evs := []) (obs := []) hE Try.func89 mixed (by kernel_rfl) trivial hr
theorem outside_ok (n a : Int)  : Pure Try.prog 89 [.int .i64 n, .int .i64 a] (.bool (decide (a < 0))) := pure_of Try.func89 f89b fun E hE => by
  exact p89_0 n a  hE  (rfl)
theorem outside_F (n a : Int)  : PureF Try.prog (.clos 89 [] []) [.int .i64 n, .int .i64 a] (.bool (decide (a < 0))) := pureF_of Try.func89 (by kernel_rfl) f89b (by simpa using outside_ok n a )
theorem f17b : Try.f17.body = some (bodyAt Try.prog 17) := by kernel_rfl
theorem p17_0 (l : List Pt)  {E : Env} {res : AV} (hE : PureE Try.prog 17 res E) (h2 : (0 + l.length) ≤ 2147483648) (h3 : ((rowP l).drop 0).take (l.length * 3) = (rowP l)) (h4 : (rowP l).length = (l.length * 3)) (h5 : noRefs (rowP l) = true)
    (hr : .rsl (rowP l) 0 (0 + l.length) = res) : G Try.prog E [.code (bodyAt Try.prog 17)] ⟨[.rsl (rowP l) 0 l.length] ++ unds (Try.f17.ntmps - 1), []⟩ :=
  end_step (n := 400) (evs := [.cs (rowP l)]) (obs := [0 = 0, 0 = 0, (0 + l.length) ≤ 2147483648, ((rowP l).drop 0).take (l.length * 3) = (rowP l), (rowP l).length = (l.length * 3), noRefs (rowP l) = true, 1 = 1]) hE Try.func17 mixed (by kernel_rfl) ⟨(rfl), (rfl), h2, h3, h4, h5, (rfl), trivial⟩ hr
theorem ownL_ok (l : List Pt) (hl : l.length ≤ 1000) : Pure Try.prog 17 [.rsl (rowP l) 0 l.length] (.rsl (rowP l) 0 l.length) := pure_of Try.func17 f17b fun E hE => by
  exact p17_0 l  hE (by omega) (by rw [List.drop_zero]; exact List.take_of_length_le (by rw [rowP_len]; omega)) (by rw [rowP_len]) (rowP_noRefs l) (by simp)
theorem ownL_F (l : List Pt) (hl : l.length ≤ 1000) : PureF Try.prog (.clos 17 [] []) [.rsl (rowP l) 0 l.length] (.rsl (rowP l) 0 l.length) := pureF_of Try.func17 (by kernel_rfl) f17b (by simpa using ownL_ok l hl)
end Go.Proofs.Ytideokfbnegkjaa
