/- A part of the proof: several texts, one behind the other. -/
import Derived.Test.YtideokfbnegkjaaMC
import Derived.Test.YtideokfbnegkjaaMB
set_option linter.unusedVariables false
set_option linter.unusedSimpArgs false
set_option maxRecDepth 100000
/- Force: the moment about a line. -/
namespace Go.Proofs.Ytideokfbnegkjaa
open Go Ax
open Go.Proofs

structure Rg where
  seats : List (List Pt)
  feet : List Pt
  frame : Int
  c : Pt
  empty : Int
  full : Int

def rowS (l : List (List Pt)) : List AV := l.flatMap fun s => [.rsl (rowP s) 0 s.length]
def rowLn (l : List (Pt × Pt)) : List AV := l.flatMap fun s => cP s.1 ++ cP s.2
def linesOf (f : List Pt) : List (Pt × Pt) := (List.range' 0 f.length).map fun i => (f.getD i ⟨0, 0, 0⟩, f.getD ((i + 1) % f.length) ⟨0, 0, 0⟩)
def phasesOf (r : Rg) : Int := match r.seats.getLast? with
  | some s => s.length
  | none => 1

theorem f57b : Try.f57.body = some (bodyAt Try.prog 57) := by kernel_rfl
def f57K0 (P : Program) : List Item := kAt 400 [.code (bodyAt P 57)] [.stop]
def f57S0 (r : Rg) (ph ln : Nat) (a b : Pt) (i : Nat) (sum : Int) : St := ⟨[.rptr [.rsl (rowS r.seats) 0 r.seats.length, .rsl (rowP r.feet) 0 r.feet.length, .int .i64 r.frame, .int .i64 r.c.x, .int .i64 r.c.y, .int .i64 r.c.z, .int .i64 r.empty, .int .i64 r.full, .rsl (rowLn (linesOf r.feet)) 0 ((linesOf r.feet).length), .int .i64 (phasesOf r)] 0, .int .i64 ((ph : Nat) : Int), .junk, .clos 89 [] [], .junk, .junk, .junk, .junk, .junk, .ptr 0 0 0, .int .i64 sum, .junk, .junk, .junk, .junk, .junk, .junk, .junk, .junk, .junk, .junk, .junk, .junk, .junk, .junk, .junk, .junk, .junk, .junk, .junk, .junk, .junk, .junk, .junk, .junk, .junk, .junk, .junk, .junk, .rsl (rowS r.seats) 0 r.seats.length, .int .i64 ((r.seats.length : Nat) : Int), .int .i64 ((i : Nat) : Int), .junk, .junk, .junk, .junk, .junk, .junk, .junk, .junk, .junk, .junk, .junk, .junk, .junk, .junk, .junk, .junk, .junk, .junk, .junk, .junk, .junk, .junk, .junk, .junk, .junk, .junk, .junk, .junk, .junk, .junk, .junk], [⟨true, 0, 1, true, [.int .i64 a.x, .int .i64 a.y, .int .i64 a.z, .int .i64 b.x, .int .i64 b.y, .int .i64 b.z], false⟩]⟩
theorem p57_s (r : Rg) (ph ln : Nat) (a b : Pt) {E : Env} {res : AV} (hE : PureE Try.prog 57 res E) (h0 : 0 ≤ ((ln : Nat) : Int) ∧ ((ln : Nat) : Int) < (((linesOf r.feet).length : Nat) : Int)) (h1 : ((rowLn (linesOf r.feet)).drop (0 + ((Int.toNat ((ln : Nat) : Int)) * 6))).take 6 = [.int .i64 a.x, .int .i64 a.y, .int .i64 a.z, .int .i64 b.x, .int .i64 b.y, .int .i64 b.z]) (h3 : PureF Try.prog (.clos 87 [] []) [.agg [.int .i64 a.x, .int .i64 a.y, .int .i64 a.z, .int .i64 b.x, .int .i64 b.y, .int .i64 b.z], .agg [.int .i64 r.c.x, .int .i64 r.c.y, .int .i64 r.c.z]] (.int .i64 (arm a b r.c))) (h4 : InR .i64 (r.frame * (arm a b r.c)))
    (hg : G Try.prog E (f57K0 Try.prog) (f57S0 r ph ln a b 0 (r.frame * (arm a b r.c)))) : G Try.prog E [.code (bodyAt Try.prog 57)] ⟨[.rptr [.rsl (rowS r.seats) 0 r.seats.length, .rsl (rowP r.feet) 0 r.feet.length, .int .i64 r.frame, .int .i64 r.c.x, .int .i64 r.c.y, .int .i64 r.c.z, .int .i64 r.empty, .int .i64 r.full, .rsl (rowLn (linesOf r.feet)) 0 ((linesOf r.feet).length), .int .i64 (phasesOf r)] 0, .int .i64 ((ph : Nat) : Int), .int .i64 ((ln : Nat) : Int), .clos 89 [] []] ++ unds (Try.f57.ntmps - 4), []⟩ :=
  segN_step (n := 400) (ds := []) (live := [0, 1, 3, 9, 10, 39, 40, 41]) (m := 1) (evs := [.auto, .ld (.agg [.int .i64 a.x, .int .i64 a.y, .int .i64 a.z, .int .i64 b.x, .int .i64 b.y, .int .i64 b.z]), .v (.int .i64 (arm a b r.c)), .stop]) (obs := [0 ≤ ((ln : Nat) : Int) ∧ ((ln : Nat) : Int) < (((linesOf r.feet).length : Nat) : Int), ((rowLn (linesOf r.feet)).drop (0 + ((Int.toNat ((ln : Nat) : Int)) * 6))).take 6 = [.int .i64 a.x, .int .i64 a.y, .int .i64 a.z, .int .i64 b.x, .int .i64 b.y, .int .i64 b.z], 6 ≤ 6, PureF Try.prog (.clos 87 [] []) [.agg [.int .i64 a.x, .int .i64 a.y, .int .i64 a.z, .int .i64 b.x, .int .i64 b.y, .int .i64 b.z], .agg [.int .i64 r.c.x, .int .i64 r.c.y, .int .i64 r.c.z]] (.int .i64 (arm a b r.c)), InR .i64 (r.frame * (arm a b r.c))]) hE.2.1 (hE.nogh _) mixed (by kernel_rfl) ⟨h0, h1, (by decide), h3, h4, trivial⟩ hg
theorem p57_0 (r : Rg) (ph ln : Nat) (a b : Pt) (i : Nat) (sum : Int) (s : List Pt) (q : Pt) {E : Env} {res : AV} (hE : PureE Try.prog 57 res E) (h0 : (decide (((i : Nat) : Int) < ((r.seats.length : Nat) : Int))) = true) (h1 : 0 ≤ ((i : Nat) : Int) ∧ ((i : Nat) : Int) < ((r.seats.length : Nat) : Int)) (h2 : ((rowS r.seats).drop (0 + ((Int.toNat ((i : Nat) : Int)) * 1))).take 1 = [.rsl (rowP s) 0 s.length]) (h3 : 0 ≤ ((ph : Nat) : Int) ∧ ((ph : Nat) : Int) < ((s.length : Nat) : Int)) (h4 : ((rowP s).drop (0 + ((Int.toNat ((ph : Nat) : Int)) * 3))).take 3 = [.int .i64 q.x, .int .i64 q.y, .int .i64 q.z]) (h5 : PureF Try.prog (.clos 87 [] []) [.agg [.int .i64 a.x, .int .i64 a.y, .int .i64 a.z, .int .i64 b.x, .int .i64 b.y, .int .i64 b.z], .agg [.int .i64 q.x, .int .i64 q.y, .int .i64 q.z]] (.int .i64 (arm a b q))) (h7 : (decide ((arm a b q) < 0)) = true) (h8 : InR .i64 (r.full * (arm a b q))) (h9 : InR .i64 (sum + (r.full * (arm a b q)))) (h10 : InR .i64 (((i : Nat) : Int) + 1))
    (hg : G Try.prog E (f57K0 Try.prog) (f57S0 r ph ln a b (i + 1) (sum + (r.full * (arm a b q))))) : G Try.prog E (f57K0 Try.prog) (f57S0 r ph ln a b i sum) :=
  segN_step (n := 400) (ds := []) (live := [0, 1, 3, 9, 10, 39, 40, 41]) (m := 1) (evs := [.b true, .ld (.rsl (rowP s) 0 s.length), .auto, .ld (.agg [.int .i64 q.x, .int .i64 q.y, .int .i64 q.z]), .v (.int .i64 (arm a b q)), .v (.bool (decide ((arm a b q) < 0))), .b true, .stop]) (obs := [(decide (((i : Nat) : Int) < ((r.seats.length : Nat) : Int))) = true, 0 ≤ ((i : Nat) : Int) ∧ ((i : Nat) : Int) < ((r.seats.length : Nat) : Int), ((rowS r.seats).drop (0 + ((Int.toNat ((i : Nat) : Int)) * 1))).take 1 = [.rsl (rowP s) 0 s.length], 0 ≤ ((ph : Nat) : Int) ∧ ((ph : Nat) : Int) < ((s.length : Nat) : Int), ((rowP s).drop (0 + ((Int.toNat ((ph : Nat) : Int)) * 3))).take 3 = [.int .i64 q.x, .int .i64 q.y, .int .i64 q.z], PureF Try.prog (.clos 87 [] []) [.agg [.int .i64 a.x, .int .i64 a.y, .int .i64 a.z, .int .i64 b.x, .int .i64 b.y, .int .i64 b.z], .agg [.int .i64 q.x, .int .i64 q.y, .int .i64 q.z]] (.int .i64 (arm a b q)), PureF Try.prog (.clos 89 [] []) [.int .i64 ((i : Nat) : Int), .int .i64 (arm a b q)] (.bool (decide ((arm a b q) < 0))), (decide ((arm a b q) < 0)) = true, InR .i64 (r.full * (arm a b q)), InR .i64 (sum + (r.full * (arm a b q))), InR .i64 (((i : Nat) : Int) + 1)]) hE.2.1 (hE.nogh _) mixed (by kernel_rfl) ⟨h0, h1, h2, h3, h4, h5, (outside_F _ _), h7, h8, h9, h10, trivial⟩ hg
theorem p57_1 (r : Rg) (ph ln : Nat) (a b : Pt) (i : Nat) (sum : Int) (s : List Pt) (q : Pt) {E : Env} {res : AV} (hE : PureE Try.prog 57 res E) (h0 : (decide (((i : Nat) : Int) < ((r.seats.length : Nat) : Int))) = true) (h1 : 0 ≤ ((i : Nat) : Int) ∧ ((i : Nat) : Int) < ((r.seats.length : Nat) : Int)) (h2 : ((rowS r.seats).drop (0 + ((Int.toNat ((i : Nat) : Int)) * 1))).take 1 = [.rsl (rowP s) 0 s.length]) (h3 : 0 ≤ ((ph : Nat) : Int) ∧ ((ph : Nat) : Int) < ((s.length : Nat) : Int)) (h4 : ((rowP s).drop (0 + ((Int.toNat ((ph : Nat) : Int)) * 3))).take 3 = [.int .i64 q.x, .int .i64 q.y, .int .i64 q.z]) (h5 : PureF Try.prog (.clos 87 [] []) [.agg [.int .i64 a.x, .int .i64 a.y, .int .i64 a.z, .int .i64 b.x, .int .i64 b.y, .int .i64 b.z], .agg [.int .i64 q.x, .int .i64 q.y, .int .i64 q.z]] (.int .i64 (arm a b q))) (h7 : (decide ((arm a b q) < 0)) = false) (h8 : InR .i64 (r.empty * (arm a b q))) (h9 : InR .i64 (sum + (r.empty * (arm a b q)))) (h10 : InR .i64 (((i : Nat) : Int) + 1))
    (hg : G Try.prog E (f57K0 Try.prog) (f57S0 r ph ln a b (i + 1) (sum + (r.empty * (arm a b q))))) : G Try.prog E (f57K0 Try.prog) (f57S0 r ph ln a b i sum) :=
  segN_step (n := 400) (ds := []) (live := [0, 1, 3, 9, 10, 39, 40, 41]) (m := 1) (evs := [.b true, .ld (.rsl (rowP s) 0 s.length), .auto, .ld (.agg [.int .i64 q.x, .int .i64 q.y, .int .i64 q.z]), .v (.int .i64 (arm a b q)), .v (.bool (decide ((arm a b q) < 0))), .b false, .stop]) (obs := [(decide (((i : Nat) : Int) < ((r.seats.length : Nat) : Int))) = true, 0 ≤ ((i : Nat) : Int) ∧ ((i : Nat) : Int) < ((r.seats.length : Nat) : Int), ((rowS r.seats).drop (0 + ((Int.toNat ((i : Nat) : Int)) * 1))).take 1 = [.rsl (rowP s) 0 s.length], 0 ≤ ((ph : Nat) : Int) ∧ ((ph : Nat) : Int) < ((s.length : Nat) : Int), ((rowP s).drop (0 + ((Int.toNat ((ph : Nat) : Int)) * 3))).take 3 = [.int .i64 q.x, .int .i64 q.y, .int .i64 q.z], PureF Try.prog (.clos 87 [] []) [.agg [.int .i64 a.x, .int .i64 a.y, .int .i64 a.z, .int .i64 b.x, .int .i64 b.y, .int .i64 b.z], .agg [.int .i64 q.x, .int .i64 q.y, .int .i64 q.z]] (.int .i64 (arm a b q)), PureF Try.prog (.clos 89 [] []) [.int .i64 ((i : Nat) : Int), .int .i64 (arm a b q)] (.bool (decide ((arm a b q) < 0))), (decide ((arm a b q) < 0)) = false, InR .i64 (r.empty * (arm a b q)), InR .i64 (sum + (r.empty * (arm a b q))), InR .i64 (((i : Nat) : Int) + 1)]) hE.2.1 (hE.nogh _) mixed (by kernel_rfl) ⟨h0, h1, h2, h3, h4, h5, (outside_F _ _), h7, h8, h9, h10, trivial⟩ hg
theorem p57_2 (r : Rg) (ph ln : Nat) (a b : Pt) (i : Nat) (sum : Int)  {E : Env} {res : AV} (hE : PureE Try.prog 57 res E) (h0 : (decide (((i : Nat) : Int) < ((r.seats.length : Nat) : Int))) = false)
    (hr : .int .i64 sum = res) : G Try.prog E (f57K0 Try.prog) (f57S0 r ph ln a b i sum) :=
  end_step (n := 400) (evs := [.b false]) (obs := [(decide (((i : Nat) : Int) < ((r.seats.length : Nat) : Int))) = false]) hE Try.func57 mixed (by kernel_rfl) ⟨h0, trivial⟩ hr
end Go.Proofs.Ytideokfbnegkjaa

/- Force: the moment, proved (with what lies outside). -/
namespace Go.Proofs.Ytideokfbnegkjaa
open Go Ax
open Go.Proofs

/-- What the seats add to a moment; 'fl': which are full. -/
def seatsM (r : Rg) (a b : Pt) (ph : Nat) (fl : Nat → Int → Bool) : List (List Pt) → Nat → Int → Int
  | [], _, sum => sum
  | s :: ss, i, sum => seatsM r a b ph fl ss (i + 1) (sum + (bif fl i (arm a b (s.getD ph ⟨0, 0, 0⟩)) then r.full else r.empty) * arm a b (s.getD ph ⟨0, 0, 0⟩))

def momentV (r : Rg) (ph : Nat) (ab : Pt × Pt) (fl : Nat → Int → Bool) : Int := seatsM r ab.1 ab.2 ph fl r.seats 0 (r.frame * arm ab.1 ab.2 r.c)

def outF (_ : Nat) (a : Int) : Bool := decide (a < 0)

structure RgOk (r : Rg) (n : Nat) : Prop where
  seats : r.seats.length ≤ 20
  each : ∀ s ∈ r.seats, s.length = n ∧ validP s = true
  feet0 : 3 ≤ r.feet.length
  feet1 : r.feet.length ≤ 8
  foot : ∀ p ∈ r.feet, spanned p = true
  center : spanned r.c = true
  frame0 : 0 ≤ r.frame
  frame1 : r.frame ≤ 1000000
  empty0 : 0 ≤ r.empty
  empty1 : r.empty ≤ r.full
  full1 : r.full ≤ 1000000

theorem mul_bd {x y A B : Int} (hx : -A ≤ x) (hx' : x ≤ A) (hy : -B ≤ y) (hy' : y ≤ B) (hA : 0 ≤ A) (hB : 0 ≤ B) : -(A * B) ≤ x * y ∧ x * y ≤ A * B := by
  have h1 : (A - x) * (B - y) ≥ 0 := Int.mul_nonneg (by omega) (by omega)
  have h2 : (A + x) * (B + y) ≥ 0 := Int.mul_nonneg (by omega) (by omega)
  have h3 : (A - x) * (B + y) ≥ 0 := Int.mul_nonneg (by omega) (by omega)
  have h4 : (A + x) * (B - y) ≥ 0 := Int.mul_nonneg (by omega) (by omega)
  simp only [Int.sub_mul, Int.mul_sub, Int.add_mul, Int.mul_add] at h1 h2 h3 h4
  constructor <;> omega

theorem arm_bd {a b p : Pt} (ha : spanned a = true) (hb : spanned b = true) (hp : spanned p = true) : armOk a b p ∧ -800000000 ≤ arm a b p ∧ arm a b p ≤ 800000000 := by
  have a1 := spanned_bd ha
  have b1 := spanned_bd hb
  have p1 := spanned_bd hp
  have m1 := mul_bd (x := b.x - a.x) (y := p.y - a.y) (A := 20000) (B := 20000) (by omega) (by omega) (by omega) (by omega) (by omega) (by omega)
  have m2 := mul_bd (x := b.y - a.y) (y := p.x - a.x) (A := 20000) (B := 20000) (by omega) (by omega) (by omega) (by omega) (by omega) (by omega)
  unfold armOk arm InR
  omega

theorem moment_ok (r : Rg) (n ph ln : Nat) (h : RgOk r n) (hph : ph < n) (a b : Pt) (hl : (linesOf r.feet)[ln]? = some (a, b)) (ha : spanned a = true) (hb : spanned b = true) :
    Pure Try.prog 57 [.rptr [.rsl (rowS r.seats) 0 r.seats.length, .rsl (rowP r.feet) 0 r.feet.length, .int .i64 r.frame, .int .i64 r.c.x, .int .i64 r.c.y, .int .i64 r.c.z, .int .i64 r.empty, .int .i64 r.full, .rsl (rowLn (linesOf r.feet)) 0 ((linesOf r.feet).length), .int .i64 (phasesOf r)] 0, .int .i64 ((ph : Nat) : Int), .int .i64 ((ln : Nat) : Int), .clos 89 [] []]
      (.int .i64 (momentV r ph (a, b) outF)) := pure_of Try.func57 f57b fun E hE => by
  have hli := get_lt hl
  obtain ⟨k1, k2, k3⟩ := arm_bd ha hb h.center
  have hf := h.frame0
  have hf' := h.frame1
  have hfr := mul_bd (x := r.frame) (y := arm a b r.c) (A := 1000000) (B := 800000000) (by omega) hf' k2 k3 (by omega) (by omega)
  have he0 := h.empty0
  have he1 := h.empty1
  have hfu := h.full1
  refine p57_s r ph ln a b hE (by omega) (row_get (fun s : Pt × Pt => cP s.1 ++ cP s.2) (fun _ => rfl) _ _ _ hl) (arm_F _ _ _ k1) (by unfold InR; omega) ?_
  have key : ∀ (d i : Nat) (sum : Int), i + d = r.seats.length → -(800000000000000 * (i + 1)) ≤ sum → sum ≤ 800000000000000 * (i + 1) → seatsM r a b ph outF (r.seats.drop i) i sum = momentV r ph (a, b) outF →
      G Try.prog E (f57K0 Try.prog) (f57S0 r ph ln a b i sum) := by
    intro d
    induction d with
    | zero =>
      intro i sum hd _ _ hs
      rw [List.drop_eq_nil_of_le (by omega)] at hs
      exact p57_2 r ph ln a b i sum hE (by simp; omega) (by rw [← hs]; rfl)
    | succ d ih =>
      intro i sum hd hs1 hs2 hs
      have hi : i < r.seats.length := by omega
      have hg : r.seats[i]? = some r.seats[i] := by simp [hi]
      obtain ⟨hsl, hsv⟩ := h.each _ (List.mem_of_getElem? hg)
      generalize hse : r.seats[i] = s at hg hsl hsv
      have hq : s[ph]? = some (s.getD ph ⟨0, 0, 0⟩) := by simp [List.getD, hsl, hph]
      generalize hqe : s.getD ph ⟨0, 0, 0⟩ = q at hq
      obtain ⟨q1, q2, q3⟩ := arm_bd ha hb (valid_pt hsv (List.mem_of_getElem? hq))
      rw [List.drop_eq_getElem_cons hi, hse] at hs
      simp only [seatsM, hqe, outF] at hs
      have me := mul_bd (x := r.empty) (y := arm a b q) (A := 1000000) (B := 800000000) (by omega) (by omega) q2 q3 (by omega) (by omega)
      have mf := mul_bd (x := r.full) (y := arm a b q) (A := 1000000) (B := 800000000) (by omega) (by omega) q2 q3 (by omega) (by omega)
      have hb20 := h.seats
      rcases Bool.eq_false_or_eq_true (decide (arm a b q < 0)) with hc | hc
      · rw [hc] at hs
        refine p57_0 r ph ln a b i sum s q hE (by simpa using hi) (by omega) (row_get (fun s : List Pt => [AV.rsl (rowP s) 0 s.length]) (fun _ => rfl) _ _ _ hg) (by omega) (row_get cP (fun _ => rfl) _ _ _ hq) (arm_F _ _ _ q1) hc (by unfold InR; omega) (by unfold InR; omega) (by unfold InR; omega) ?_
        exact ih (i + 1) _ (by omega) (by omega) (by omega) hs
      · rw [hc] at hs
        refine p57_1 r ph ln a b i sum s q hE (by simpa using hi) (by omega) (row_get (fun s : List Pt => [AV.rsl (rowP s) 0 s.length]) (fun _ => rfl) _ _ _ hg) (by omega) (row_get cP (fun _ => rfl) _ _ _ hq) (arm_F _ _ _ q1) hc (by unfold InR; omega) (by unfold InR; omega) (by unfold InR; omega) ?_
        exact ih (i + 1) _ (by omega) (by omega) (by omega) hs
  exact key r.seats.length 0 _ (by omega) (by omega) (by omega) rfl


end Go.Proofs.Ytideokfbnegkjaa

/- Force: the iterator over phases and lines. -/
namespace Go.Proofs.Ytideokfbnegkjaa
open Go Ax
open Go.Proofs

theorem f61b : Try.f61.body = some (bodyAt Try.prog 61) := by kernel_rfl
def f61K0 (P : Program) : List Item := kAt 400 [.code (bodyAt P 61)] [.stop]
def f61S0 (r : Rg) (yv0 : Value) (p : Nat) : St := ⟨[.rptr [.rsl (rowS r.seats) 0 r.seats.length, .rsl (rowP r.feet) 0 r.feet.length, .int .i64 r.frame, .int .i64 r.c.x, .int .i64 r.c.y, .int .i64 r.c.z, .int .i64 r.empty, .int .i64 r.full, .rsl (rowLn (linesOf r.feet)) 0 ((linesOf r.feet).length), .int .i64 (phasesOf r)] 0, .opq yv0, .junk, .junk, .junk, .junk, .junk, .junk, .junk, .int .i64 (phasesOf r), .int .i64 ((p : Nat) : Int), .junk, .junk, .junk, .junk, .junk, .junk, .junk, .junk, .junk, .junk, .junk, .junk, .junk, .junk, .junk, .junk, .junk, .junk, .junk, .junk, .junk, .junk], []⟩
theorem p61_s (r : Rg) (yv0 : Value)  {E : Env} {xs : List (List AV)} {yv : Value} {Y : Option Nat → Sd} {cont : Nat → Bool} {e : Option Nat} {o : Option Nat} (hE : IterE Try.prog 61 xs yv Y cont e o E) 
    (hg : G Try.prog E (f61K0 Try.prog) (f61S0 r yv0 0)) : G Try.prog E [.code (bodyAt Try.prog 61)] ⟨[.rptr [.rsl (rowS r.seats) 0 r.seats.length, .rsl (rowP r.feet) 0 r.feet.length, .int .i64 r.frame, .int .i64 r.c.x, .int .i64 r.c.y, .int .i64 r.c.z, .int .i64 r.empty, .int .i64 r.full, .rsl (rowLn (linesOf r.feet)) 0 ((linesOf r.feet).length), .int .i64 (phasesOf r)] 0, .opq yv0] ++ unds (Try.f61.ntmps - 2), []⟩ :=
  segN_step (n := 400) (ds := []) (live := [0, 1, 9, 10]) (m := 0) (evs := [.stop]) (obs := []) hE.kind (hE.nogh _) mixed (by kernel_rfl) trivial hg
def f61K1 (P : Program) : List Item := kAt 400 [.code (bodyAt P 61)] [.b true, .stop]
def f61S1 (r : Rg) (yv0 : Value) (p v : Nat) : St := ⟨[.rptr [.rsl (rowS r.seats) 0 r.seats.length, .rsl (rowP r.feet) 0 r.feet.length, .int .i64 r.frame, .int .i64 r.c.x, .int .i64 r.c.y, .int .i64 r.c.z, .int .i64 r.empty, .int .i64 r.full, .rsl (rowLn (linesOf r.feet)) 0 ((linesOf r.feet).length), .int .i64 (phasesOf r)] 0, .opq yv0, .junk, .junk, .int .i64 ((p : Nat) : Int), .junk, .junk, .junk, .junk, .int .i64 (phasesOf r), .int .i64 ((p : Nat) : Int), .junk, .junk, .junk, .junk, .junk, .junk, .int .i64 (((linesOf r.feet).length : Nat) : Int), .int .i64 ((v : Nat) : Int), .junk, .junk, .junk, .junk, .junk, .junk, .junk, .junk, .junk, .junk, .junk, .junk, .junk, .junk], []⟩
theorem p61_0n (r : Rg) (yv0 : Value) (p : Nat)  {E : Env} {xs : List (List AV)} {yv : Value} {Y : Option Nat → Sd} {cont : Nat → Bool} {e : Option Nat} {o : Option Nat} (hE : IterE Try.prog 61 xs yv Y cont e o E) (h0 : (decide (((p : Nat) : Int) < (phasesOf r))) = true)
    (hg : G Try.prog E (f61K1 Try.prog) (f61S1 r yv0 p 0)) : G Try.prog E (f61K0 Try.prog) (f61S0 r yv0 p) :=
  segN_step (n := 400) (ds := []) (live := [0, 1, 4, 9, 10, 17, 18]) (m := 0) (evs := [.b true, .stop]) (obs := [(decide (((p : Nat) : Int) < (phasesOf r))) = true]) hE.kind (hE.nogh _) mixed (by kernel_rfl) ⟨h0, trivial⟩ hg
theorem p61_0e (r : Rg) (yv0 : Value) (p : Nat)  {E : Env} {xs : List (List AV)} {yv : Value} {Y : Option Nat → Sd} {cont : Nat → Bool} {e : Option Nat}  (hE : IterE Try.prog 61 xs yv Y cont e e E) (h0 : (decide (((p : Nat) : Int) < (phasesOf r))) = false) : G Try.prog E (f61K0 Try.prog) (f61S0 r yv0 p) :=
  iter_end (n := 400) (evs := [.b false]) (obs := [(decide (((p : Nat) : Int) < (phasesOf r))) = false]) hE Try.func61 (by kernel_rfl) mixed (by kernel_rfl) ⟨h0, trivial⟩
def f61Kh (P : Program) : List Item := toOp 8 (kReg 400 [.code (bodyAt P 61)] [.b true, .b true] 6)
def f61Sh (r : Rg) (yv0 : Value) (p v : Nat) (mv : Int) : St := ⟨[.rptr [.rsl (rowS r.seats) 0 r.seats.length, .rsl (rowP r.feet) 0 r.feet.length, .int .i64 r.frame, .int .i64 r.c.x, .int .i64 r.c.y, .int .i64 r.c.z, .int .i64 r.empty, .int .i64 r.full, .rsl (rowLn (linesOf r.feet)) 0 ((linesOf r.feet).length), .int .i64 (phasesOf r)] 0, .opq yv0, .junk, .junk, .int .i64 ((p : Nat) : Int), .int .i64 ((v : Nat) : Int), .junk, .junk, .junk, .int .i64 (phasesOf r), .int .i64 ((p : Nat) : Int), .junk, .junk, .junk, .junk, .junk, .junk, .int .i64 (((linesOf r.feet).length : Nat) : Int), .int .i64 ((v : Nat) : Int), .bool (decide (((v : Nat) : Int) < (((linesOf r.feet).length : Nat) : Int))), .int .i64 ((v : Nat) : Int), .opq yv0, .int .i64 ((p : Nat) : Int), .int .i64 ((v : Nat) : Int), .agg [.int .i64 ((p : Nat) : Int), .int .i64 ((v : Nat) : Int)], .rptr [.rsl (rowS r.seats) 0 r.seats.length, .rsl (rowP r.feet) 0 r.feet.length, .int .i64 r.frame, .int .i64 r.c.x, .int .i64 r.c.y, .int .i64 r.c.z, .int .i64 r.empty, .int .i64 r.full, .rsl (rowLn (linesOf r.feet)) 0 ((linesOf r.feet).length), .int .i64 (phasesOf r)] 0, .int .i64 ((p : Nat) : Int), .int .i64 ((v : Nat) : Int), .int .i64 mv, .junk, .junk, .junk, .junk], []⟩
def f61Kha (P : Program) : List Item := toOp 9 (kReg 400 [.code (bodyAt P 61)] [.b true, .b true] 6)
def f61Sha (r : Rg) (yv0 : Value) (p v : Nat) (mv : Int) (b : Bool) : St := ⟨[.rptr [.rsl (rowS r.seats) 0 r.seats.length, .rsl (rowP r.feet) 0 r.feet.length, .int .i64 r.frame, .int .i64 r.c.x, .int .i64 r.c.y, .int .i64 r.c.z, .int .i64 r.empty, .int .i64 r.full, .rsl (rowLn (linesOf r.feet)) 0 ((linesOf r.feet).length), .int .i64 (phasesOf r)] 0, .opq yv0, .junk, .junk, .int .i64 ((p : Nat) : Int), .int .i64 ((v : Nat) : Int), .junk, .junk, .junk, .int .i64 (phasesOf r), .int .i64 ((p : Nat) : Int), .junk, .junk, .junk, .junk, .junk, .junk, .int .i64 (((linesOf r.feet).length : Nat) : Int), .int .i64 ((v : Nat) : Int), .bool (decide (((v : Nat) : Int) < (((linesOf r.feet).length : Nat) : Int))), .int .i64 ((v : Nat) : Int), .opq yv0, .int .i64 ((p : Nat) : Int), .int .i64 ((v : Nat) : Int), .agg [.int .i64 ((p : Nat) : Int), .int .i64 ((v : Nat) : Int)], .rptr [.rsl (rowS r.seats) 0 r.seats.length, .rsl (rowP r.feet) 0 r.feet.length, .int .i64 r.frame, .int .i64 r.c.x, .int .i64 r.c.y, .int .i64 r.c.z, .int .i64 r.empty, .int .i64 r.full, .rsl (rowLn (linesOf r.feet)) 0 ((linesOf r.feet).length), .int .i64 (phasesOf r)] 0, .int .i64 ((p : Nat) : Int), .int .i64 ((v : Nat) : Int), .int .i64 mv, .bool b, .junk, .junk, .junk], []⟩
theorem f61_h (r : Rg) (yv0 : Value) (p v : Nat) (mv : Int) : yieldA (f61Kh Try.prog) (f61Sh r yv0 p v mv) = some (f61Kha Try.prog, some 29, yv0, [.agg [.int .i64 ((p : Nat) : Int), .int .i64 ((v : Nat) : Int)], .int .i64 mv]) := by kernel_rfl
theorem p61_1h (r : Rg) (yv0 : Value) (p v : Nat) (mv : Int) {E : Env} {xs : List (List AV)} {yv : Value} {Y : Option Nat → Sd} {cont : Nat → Bool} {e : Option Nat} {o : Option Nat} (hE : IterE Try.prog 61 xs yv Y cont e o E) (h0 : (decide (((v : Nat) : Int) < (((linesOf r.feet).length : Nat) : Int))) = true) (h1 : PureF Try.prog (.clos 57 [] []) [.rptr [.rsl (rowS r.seats) 0 r.seats.length, .rsl (rowP r.feet) 0 r.feet.length, .int .i64 r.frame, .int .i64 r.c.x, .int .i64 r.c.y, .int .i64 r.c.z, .int .i64 r.empty, .int .i64 r.full, .rsl (rowLn (linesOf r.feet)) 0 ((linesOf r.feet).length), .int .i64 (phasesOf r)] 0, .int .i64 ((p : Nat) : Int), .int .i64 ((v : Nat) : Int), .clos 89 [] []] (.int .i64 mv))
    (hg : G Try.prog E (f61Kh Try.prog) (f61Sh r yv0 p v mv)) : G Try.prog E (f61K1 Try.prog) (f61S1 r yv0 p v) :=
  segN_step (n := 400) (ds := []) (live := [0, 1, 2, 3, 4, 5, 6, 7, 8, 9, 10, 11, 12, 13, 14, 15, 16, 17, 18, 19, 20, 21, 22, 23, 24, 25, 26, 27, 28, 29, 30, 31, 32]) (m := 0) (evs := [.b true, .v (.int .i64 mv), .hold 0]) (obs := [(decide (((v : Nat) : Int) < (((linesOf r.feet).length : Nat) : Int))) = true, PureF Try.prog (.clos 57 [] []) [.rptr [.rsl (rowS r.seats) 0 r.seats.length, .rsl (rowP r.feet) 0 r.feet.length, .int .i64 r.frame, .int .i64 r.c.x, .int .i64 r.c.y, .int .i64 r.c.z, .int .i64 r.empty, .int .i64 r.full, .rsl (rowLn (linesOf r.feet)) 0 ((linesOf r.feet).length), .int .i64 (phasesOf r)] 0, .int .i64 ((p : Nat) : Int), .int .i64 ((v : Nat) : Int), .clos 89 [] []] (.int .i64 mv)]) hE.kind (hE.nogh _) mixed (by kernel_rfl) ⟨h0, h1, trivial⟩ hg
theorem p61_1e (r : Rg) (yv0 : Value) (p v : Nat)  {E : Env} {xs : List (List AV)} {yv : Value} {Y : Option Nat → Sd} {cont : Nat → Bool} {e : Option Nat} {o : Option Nat} (hE : IterE Try.prog 61 xs yv Y cont e o E) (h0 : (decide (((v : Nat) : Int) < (((linesOf r.feet).length : Nat) : Int))) = false) (h1 : InR .i64 (((p : Nat) : Int) + 1))
    (hg : G Try.prog E (f61K0 Try.prog) (f61S0 r yv0 (p + 1))) : G Try.prog E (f61K1 Try.prog) (f61S1 r yv0 p v) :=
  segN_step (n := 400) (ds := []) (live := [0, 1, 9, 10]) (m := 0) (evs := [.b false, .stop]) (obs := [(decide (((v : Nat) : Int) < (((linesOf r.feet).length : Nat) : Int))) = false, InR .i64 (((p : Nat) : Int) + 1)]) hE.kind (hE.nogh _) mixed (by kernel_rfl) ⟨h0, h1, trivial⟩ hg
theorem p61_a0 (r : Rg) (yv0 : Value) (p v : Nat) (mv : Int) (b : Bool)  {E : Env} {xs : List (List AV)} {yv : Value} {Y : Option Nat → Sd} {cont : Nat → Bool} {e : Option Nat}  (hE : IterE Try.prog 61 xs yv Y cont e e E) (h0 : (!b) = true) : G Try.prog E (f61Kha Try.prog) (f61Sha r yv0 p v mv b) :=
  iter_end (n := 400) (evs := [.b true]) (obs := [(!b) = true]) hE Try.func61 (by kernel_rfl) mixed (by kernel_rfl) ⟨h0, trivial⟩
theorem p61_a1 (r : Rg) (yv0 : Value) (p v : Nat) (mv : Int) (b : Bool)  {E : Env} {xs : List (List AV)} {yv : Value} {Y : Option Nat → Sd} {cont : Nat → Bool} {e : Option Nat} {o : Option Nat} (hE : IterE Try.prog 61 xs yv Y cont e o E) (h0 : (!b) = false) (h1 : InR .i64 (((v : Nat) : Int) + 1))
    (hg : G Try.prog E (f61K1 Try.prog) (f61S1 r yv0 p (v + 1))) : G Try.prog E (f61Kha Try.prog) (f61Sha r yv0 p v mv b) :=
  segN_step (n := 400) (ds := []) (live := [0, 1, 4, 9, 10, 17, 18]) (m := 0) (evs := [.b false, .stop]) (obs := [(!b) = false, InR .i64 (((v : Nat) : Int) + 1)]) hE.kind (hE.nogh _) mixed (by kernel_rfl) ⟨h0, h1, trivial⟩ hg
end Go.Proofs.Ytideokfbnegkjaa

/- Force: the iterator over phases and lines, proved. -/
namespace Go.Proofs.Ytideokfbnegkjaa
open Go Ax
open Go.Proofs

def lineAt (r : Rg) (v : Nat) : Pt × Pt := (linesOf r.feet).getD v (⟨0, 0, 0⟩, ⟨0, 0, 0⟩)
def worstV (r : Rg) (pv : Nat × Nat) : Int := momentV r pv.1 (lineAt r pv.2) outF
def argW (r : Rg) (pv : Nat × Nat) : List AV := [.agg [.int .i64 ((pv.1 : Nat) : Int), .int .i64 ((pv.2 : Nat) : Int)], .int .i64 (worstV r pv)]
def wlV (k p v d : Nat) : List (Nat × Nat) := (List.range' v d).map fun v => (p, v)
def wlP (k p d : Nat) : List (Nat × Nat) := (List.range' p d).flatMap fun p => wlV k p 0 k

theorem linesOf_len (f : List Pt) : (linesOf f).length = f.length := by simp [linesOf]

theorem lineAt_get {r : Rg} {v : Nat} (h : v < r.feet.length) : (linesOf r.feet)[v]? = some (lineAt r v) := by
  have : v < (linesOf r.feet).length := by rw [linesOf_len]; exact h
  simp [lineAt, List.getD, this]

theorem lineAt_ok {r : Rg} {n v : Nat} (hr : RgOk r n) (h : v < r.feet.length) : spanned (lineAt r v).1 = true ∧ spanned (lineAt r v).2 = true := by
  have hg := lineAt_get h
  unfold linesOf at hg
  rw [List.getElem?_map] at hg
  have e : (List.range' 0 r.feet.length)[v]? = some v := by simp [h]
  rw [e] at hg
  simp only [Option.map_some, Option.some.injEq] at hg
  have h2 : (v + 1) % r.feet.length < r.feet.length := Nat.mod_lt _ (by omega)
  rw [← hg]
  constructor
  · refine hr.foot _ ?_
    simp only [List.getD_eq_getElem?_getD, List.getElem?_eq_getElem h, Option.getD_some]; exact List.getElem_mem h
  · refine hr.foot _ ?_
    simp only [List.getD_eq_getElem?_getD, List.getElem?_eq_getElem h2, Option.getD_some]; exact List.getElem_mem h2

section
variable {L : List (Nat × Nat)} {yv : Value} {Y : Option Nat → Sd} {cont : Nat → Bool} {e : Option Nat} {r : Rg} {nn : Nat}

theorem iw_v (hr : RgOk r nn) {p : Nat} (hp : p < nn) (hn : nn ≤ 1000) {R : List (Nat × Nat)} :
    ∀ (d v n : Nat) (E : Env), v + d = r.feet.length → IterE Try.prog 61 (L.map (argW r)) yv Y cont e (some n) E → stopAt cont n (L.length - n) = e → L.drop n = wlV r.feet.length p v d ++ R →
      (∀ (E' : Env) (n' : Nat), IterE Try.prog 61 (L.map (argW r)) yv Y cont e (some n') E' → stopAt cont n' (L.length - n') = e → L.drop n' = R → G Try.prog E' (f61K0 Try.prog) (f61S0 r yv (p + 1))) →
      G Try.prog E (f61K1 Try.prog) (f61S1 r yv p v)
  | 0, v, n, E, hd, hE, hi, hL, hg => by
    refine p61_1e r yv p v hE (by simp [linesOf_len]; omega) (by unfold InR; omega) (hg E n hE hi ?_)
    simpa [wlV] using hL
  | d + 1, v, n, E, hd, hE, hi, hL, hg => by
    have hcons : wlV r.feet.length p v (d + 1) = (p, v) :: wlV r.feet.length p (v + 1) d := by simp [wlV, List.range'_succ]
    rw [hcons, List.cons_append] at hL
    obtain ⟨g1, g2, g3⟩ := drop_cons hL
    have hv : v < r.feet.length := by omega
    obtain ⟨l1, l2⟩ := lineAt_ok hr hv
    have hm := moment_ok r nn p v hr hp (lineAt r v).1 (lineAt r v).2 (lineAt_get hv) l1 l2
    refine p61_1h r yv p v (worstV r (p, v)) hE (by simp [linesOf_len]; omega) (pureF_of Try.func57 (by kernel_rfl) f57b hm) ?_
    refine yield_stepA (x := argW r (p, v)) hE (by simp [g1]) (f61_h r yv p v _) rfl fun E' hE' => ?_
    have hst : L.length - n = (L.length - (n + 1)) + 1 := by omega
    rw [hst] at hi
    simp only [stopAt] at hi
    have hf8 := hr.feet1
    cases hc : cont n with
    | true =>
      simp only [nxt, hc, cond_true] at hE' hi
      refine p61_a1 r yv p v _ true hE' rfl (by unfold InR; omega) ?_
      exact iw_v hr hp hn d (v + 1) (n + 1) E' (by omega) hE' hi g2 hg
    | false =>
      simp only [nxt, hc, cond_false] at hE' hi
      subst hi
      exact p61_a0 r yv p v _ false hE' rfl

theorem iw_p (hr : RgOk r nn) (hph : phasesOf r = nn) (hn : nn ≤ 1000) :
    ∀ (d p n : Nat) (E : Env), p + d = nn → IterE Try.prog 61 (L.map (argW r)) yv Y cont e (some n) E → stopAt cont n (L.length - n) = e → L.drop n = wlP r.feet.length p d → G Try.prog E (f61K0 Try.prog) (f61S0 r yv p)
  | 0, p, n, E, hd, hE, hi, hL => by
    have hn : L.length ≤ n := by
      have : L.drop n = [] := by rw [hL]; rfl
      exact List.drop_eq_nil_iff.1 this
    have e0 : L.length - n = 0 := by omega
    rw [e0] at hi
    simp only [stopAt] at hi
    subst hi
    exact p61_0e r yv p hE (by rw [hph]; simp; omega)
  | d + 1, p, n, E, hd, hE, hi, hL => by
    have hcons : wlP r.feet.length p (d + 1) = wlV r.feet.length p 0 r.feet.length ++ wlP r.feet.length (p + 1) d := by simp [wlP, List.range'_succ, List.flatMap_cons]
    rw [hcons] at hL
    refine p61_0n r yv p hE (by rw [hph]; simp; omega) ?_
    exact iw_v hr (by omega) hn r.feet.length 0 n E (by omega) hE hi hL fun E' n' hE' hi' hL' => iw_p hr hph hn d (p + 1) n' E' (by omega) hE' hi' hL'

end

theorem worst_iter (r : Rg) (n : Nat) (hr : RgOk r n) (hph : phasesOf r = n) (hn : n ≤ 1000) :
    IterF Try.prog (.clos 61 [.rptr [.rsl (rowS r.seats) 0 r.seats.length, .rsl (rowP r.feet) 0 r.feet.length, .int .i64 r.frame, .int .i64 r.c.x, .int .i64 r.c.y, .int .i64 r.c.z, .int .i64 r.empty, .int .i64 r.full, .rsl (rowLn (linesOf r.feet)) 0 ((linesOf r.feet).length), .int .i64 (phasesOf r)] 0] [])
      ((wlP r.feet.length 0 n).map (argW r)) :=
  iterF_of Try.func61 (by kernel_rfl) f61b fun E yv Y cont hE => by
    have hx : ((wlP r.feet.length 0 n).map (argW r)).length = (wlP r.feet.length 0 n).length := by simp
    rw [hx] at hE
    exact p61_s r yv hE (iw_p hr hph hn n 0 0 E (by omega) hE (by simp) rfl)


end Go.Proofs.Ytideokfbnegkjaa

/- Force: is the foot line convex? -/
namespace Go.Proofs.Ytideokfbnegkjaa
open Go Ax
open Go.Proofs

theorem f86b : Try.f86.body = some (bodyAt Try.prog 86) := by kernel_rfl
def f86K0 (P : Program) : List Item := kAt 400 [.code (bodyAt P 86)] [.stop]
def f86S0 (r : Rg) (i : Nat) : St := ⟨[.rptr [.rsl (rowS r.seats) 0 r.seats.length, .rsl (rowP r.feet) 0 r.feet.length, .int .i64 r.frame, .int .i64 r.c.x, .int .i64 r.c.y, .int .i64 r.c.z, .int .i64 r.empty, .int .i64 r.full, .rsl (rowLn (linesOf r.feet)) 0 ((linesOf r.feet).length), .int .i64 (phasesOf r)] 0, .junk, .junk, .int .i64 ((r.feet.length : Nat) : Int), .junk, .junk, .junk, .junk, .junk, .junk, .junk, .junk, .junk, .junk, .junk, .junk, .junk, .rsl (rowLn (linesOf r.feet)) 0 ((linesOf r.feet).length), .int .i64 (((linesOf r.feet).length : Nat) : Int), .int .i64 ((i : Nat) : Int), .junk, .junk, .junk, .junk, .junk, .junk, .junk, .junk, .junk, .junk, .junk, .junk, .junk, .junk, .junk, .junk, .junk, .junk, .junk, .junk, .junk, .junk, .junk, .junk, .junk, .junk, .junk, .junk, .junk, .junk, .junk, .junk, .junk, .junk], []⟩
theorem p86_s (r : Rg)  {E : Env} {res : AV} (hE : PureE Try.prog 86 res E) 
    (hg : G Try.prog E (f86K0 Try.prog) (f86S0 r 0)) : G Try.prog E [.code (bodyAt Try.prog 86)] ⟨[.rptr [.rsl (rowS r.seats) 0 r.seats.length, .rsl (rowP r.feet) 0 r.feet.length, .int .i64 r.frame, .int .i64 r.c.x, .int .i64 r.c.y, .int .i64 r.c.z, .int .i64 r.empty, .int .i64 r.full, .rsl (rowLn (linesOf r.feet)) 0 ((linesOf r.feet).length), .int .i64 (phasesOf r)] 0] ++ unds (Try.f86.ntmps - 1), []⟩ :=
  segN_step (n := 400) (ds := []) (live := [0, 3, 17, 18, 19]) (m := 0) (evs := [.stop]) (obs := []) hE.2.1 (hE.nogh _) mixed (by kernel_rfl) trivial hg
def f86K1 (P : Program) : List Item := kAt 400 [.code (bodyAt P 86)] [.b true, .stop]
def f86S1 (r : Rg) (i k : Nat) (a b : Pt) : St := ⟨[.rptr [.rsl (rowS r.seats) 0 r.seats.length, .rsl (rowP r.feet) 0 r.feet.length, .int .i64 r.frame, .int .i64 r.c.x, .int .i64 r.c.y, .int .i64 r.c.z, .int .i64 r.empty, .int .i64 r.full, .rsl (rowLn (linesOf r.feet)) 0 ((linesOf r.feet).length), .int .i64 (phasesOf r)] 0, .junk, .junk, .int .i64 ((r.feet.length : Nat) : Int), .int .i64 ((i : Nat) : Int), .ptr 0 0 0, .junk, .junk, .junk, .junk, .junk, .junk, .junk, .junk, .junk, .junk, .junk, .rsl (rowLn (linesOf r.feet)) 0 ((linesOf r.feet).length), .int .i64 (((linesOf r.feet).length : Nat) : Int), .int .i64 ((i : Nat) : Int), .junk, .junk, .junk, .junk, .junk, .junk, .junk, .junk, .rsl (rowP r.feet) 0 r.feet.length, .int .i64 ((r.feet.length : Nat) : Int), .int .i64 ((k : Nat) : Int), .junk, .junk, .junk, .junk, .junk, .junk, .junk, .junk, .junk, .junk, .junk, .junk, .junk, .junk, .junk, .junk, .junk, .junk, .junk, .junk, .junk, .junk, .junk], [⟨true, 0, 1, true, [.int .i64 a.x, .int .i64 a.y, .int .i64 a.z, .int .i64 b.x, .int .i64 b.y, .int .i64 b.z], false⟩]⟩
theorem p86_0n (r : Rg) (i : Nat) (a b : Pt) {E : Env} {res : AV} (hE : PureE Try.prog 86 res E) (h0 : (decide (((i : Nat) : Int) < (((linesOf r.feet).length : Nat) : Int))) = true) (h1 : 0 ≤ ((i : Nat) : Int) ∧ ((i : Nat) : Int) < (((linesOf r.feet).length : Nat) : Int)) (h2 : ((rowLn (linesOf r.feet)).drop (0 + ((Int.toNat ((i : Nat) : Int)) * 6))).take 6 = [.int .i64 a.x, .int .i64 a.y, .int .i64 a.z, .int .i64 b.x, .int .i64 b.y, .int .i64 b.z])
    (hg : G Try.prog E (f86K1 Try.prog) (f86S1 r i 0 a b)) : G Try.prog E (f86K0 Try.prog) (f86S0 r i) :=
  segN_step (n := 400) (ds := []) (live := [0, 3, 4, 5, 17, 18, 19, 28, 29, 30]) (m := 1) (evs := [.b true, .ld (.agg [.int .i64 a.x, .int .i64 a.y, .int .i64 a.z, .int .i64 b.x, .int .i64 b.y, .int .i64 b.z]), .stop]) (obs := [(decide (((i : Nat) : Int) < (((linesOf r.feet).length : Nat) : Int))) = true, 0 ≤ ((i : Nat) : Int) ∧ ((i : Nat) : Int) < (((linesOf r.feet).length : Nat) : Int), ((rowLn (linesOf r.feet)).drop (0 + ((Int.toNat ((i : Nat) : Int)) * 6))).take 6 = [.int .i64 a.x, .int .i64 a.y, .int .i64 a.z, .int .i64 b.x, .int .i64 b.y, .int .i64 b.z], 6 ≤ 6]) hE.2.1 (hE.nogh _) mixed (by kernel_rfl) ⟨h0, h1, h2, (by decide), trivial⟩ hg
theorem p86_0e (r : Rg) (i : Nat)  {E : Env} {res : AV} (hE : PureE Try.prog 86 res E) (h0 : (decide (((i : Nat) : Int) < (((linesOf r.feet).length : Nat) : Int))) = false)
    (hr : .bool true = res) : G Try.prog E (f86K0 Try.prog) (f86S0 r i) :=
  end_step (n := 400) (evs := [.b false]) (obs := [(decide (((i : Nat) : Int) < (((linesOf r.feet).length : Nat) : Int))) = false]) hE Try.func86 mixed (by kernel_rfl) ⟨h0, trivial⟩ hr
theorem p86_1_0 (r : Rg) (i k : Nat) (a b : Pt) (q : Pt) {E : Env} {res : AV} (hE : PureE Try.prog 86 res E) (h0 : (decide (((k : Nat) : Int) < ((r.feet.length : Nat) : Int))) = true) (h1 : 0 ≤ ((k : Nat) : Int) ∧ ((k : Nat) : Int) < ((r.feet.length : Nat) : Int)) (h2 : ((rowP r.feet).drop (0 + ((Int.toNat ((k : Nat) : Int)) * 3))).take 3 = [.int .i64 q.x, .int .i64 q.y, .int .i64 q.z]) (h4 : (((k : Nat) : Int) != ((i : Nat) : Int)) = true) (h5 : InR .i64 (((i : Nat) : Int) + 1)) (h6 : ((r.feet.length : Nat) : Int) ≠ 0) (h7 : (((k : Nat) : Int) != (Int.tmod (((i : Nat) : Int) + 1) ((r.feet.length : Nat) : Int))) = true) (h8 : PureF Try.prog (.clos 87 [] []) [.agg [.int .i64 a.x, .int .i64 a.y, .int .i64 a.z, .int .i64 b.x, .int .i64 b.y, .int .i64 b.z], .agg [.int .i64 q.x, .int .i64 q.y, .int .i64 q.z]] (.int .i64 (arm a b q))) (h9 : (decide ((arm a b q) ≤ 0)) = true)
    (hr : .bool false = res) : G Try.prog E (f86K1 Try.prog) (f86S1 r i k a b) :=
  end_step (n := 400) (evs := [.b true, .ld (.agg [.int .i64 q.x, .int .i64 q.y, .int .i64 q.z]), .b true, .b true, .v (.int .i64 (arm a b q)), .b true]) (obs := [(decide (((k : Nat) : Int) < ((r.feet.length : Nat) : Int))) = true, 0 ≤ ((k : Nat) : Int) ∧ ((k : Nat) : Int) < ((r.feet.length : Nat) : Int), ((rowP r.feet).drop (0 + ((Int.toNat ((k : Nat) : Int)) * 3))).take 3 = [.int .i64 q.x, .int .i64 q.y, .int .i64 q.z], 3 ≤ 3, (((k : Nat) : Int) != ((i : Nat) : Int)) = true, InR .i64 (((i : Nat) : Int) + 1), ((r.feet.length : Nat) : Int) ≠ 0, (((k : Nat) : Int) != (Int.tmod (((i : Nat) : Int) + 1) ((r.feet.length : Nat) : Int))) = true, PureF Try.prog (.clos 87 [] []) [.agg [.int .i64 a.x, .int .i64 a.y, .int .i64 a.z, .int .i64 b.x, .int .i64 b.y, .int .i64 b.z], .agg [.int .i64 q.x, .int .i64 q.y, .int .i64 q.z]] (.int .i64 (arm a b q)), (decide ((arm a b q) ≤ 0)) = true]) hE Try.func86 mixed (by kernel_rfl) ⟨h0, h1, h2, (by decide), h4, h5, h6, h7, h8, h9, trivial⟩ hr
theorem p86_1_1 (r : Rg) (i k : Nat) (a b : Pt) (q : Pt) {E : Env} {res : AV} (hE : PureE Try.prog 86 res E) (h0 : (decide (((k : Nat) : Int) < ((r.feet.length : Nat) : Int))) = true) (h1 : 0 ≤ ((k : Nat) : Int) ∧ ((k : Nat) : Int) < ((r.feet.length : Nat) : Int)) (h2 : ((rowP r.feet).drop (0 + ((Int.toNat ((k : Nat) : Int)) * 3))).take 3 = [.int .i64 q.x, .int .i64 q.y, .int .i64 q.z]) (h4 : (((k : Nat) : Int) != ((i : Nat) : Int)) = true) (h5 : InR .i64 (((i : Nat) : Int) + 1)) (h6 : ((r.feet.length : Nat) : Int) ≠ 0) (h7 : (((k : Nat) : Int) != (Int.tmod (((i : Nat) : Int) + 1) ((r.feet.length : Nat) : Int))) = true) (h8 : PureF Try.prog (.clos 87 [] []) [.agg [.int .i64 a.x, .int .i64 a.y, .int .i64 a.z, .int .i64 b.x, .int .i64 b.y, .int .i64 b.z], .agg [.int .i64 q.x, .int .i64 q.y, .int .i64 q.z]] (.int .i64 (arm a b q))) (h9 : (decide ((arm a b q) ≤ 0)) = false) (h10 : InR .i64 (((k : Nat) : Int) + 1))
    (hg : G Try.prog E (f86K1 Try.prog) (f86S1 r i (k + 1) a b)) : G Try.prog E (f86K1 Try.prog) (f86S1 r i k a b) :=
  segN_step (n := 400) (ds := []) (live := [0, 3, 4, 5, 17, 18, 19, 28, 29, 30]) (m := 1) (evs := [.b true, .ld (.agg [.int .i64 q.x, .int .i64 q.y, .int .i64 q.z]), .b true, .b true, .v (.int .i64 (arm a b q)), .b false, .stop]) (obs := [(decide (((k : Nat) : Int) < ((r.feet.length : Nat) : Int))) = true, 0 ≤ ((k : Nat) : Int) ∧ ((k : Nat) : Int) < ((r.feet.length : Nat) : Int), ((rowP r.feet).drop (0 + ((Int.toNat ((k : Nat) : Int)) * 3))).take 3 = [.int .i64 q.x, .int .i64 q.y, .int .i64 q.z], 3 ≤ 3, (((k : Nat) : Int) != ((i : Nat) : Int)) = true, InR .i64 (((i : Nat) : Int) + 1), ((r.feet.length : Nat) : Int) ≠ 0, (((k : Nat) : Int) != (Int.tmod (((i : Nat) : Int) + 1) ((r.feet.length : Nat) : Int))) = true, PureF Try.prog (.clos 87 [] []) [.agg [.int .i64 a.x, .int .i64 a.y, .int .i64 a.z, .int .i64 b.x, .int .i64 b.y, .int .i64 b.z], .agg [.int .i64 q.x, .int .i64 q.y, .int .i64 q.z]] (.int .i64 (arm a b q)), (decide ((arm a b q) ≤ 0)) = false, InR .i64 (((k : Nat) : Int) + 1)]) hE.2.1 (hE.nogh _) mixed (by kernel_rfl) ⟨h0, h1, h2, (by decide), h4, h5, h6, h7, h8, h9, h10, trivial⟩ hg
theorem p86_1_2 (r : Rg) (i k : Nat) (a b : Pt) (q : Pt) {E : Env} {res : AV} (hE : PureE Try.prog 86 res E) (h0 : (decide (((k : Nat) : Int) < ((r.feet.length : Nat) : Int))) = true) (h1 : 0 ≤ ((k : Nat) : Int) ∧ ((k : Nat) : Int) < ((r.feet.length : Nat) : Int)) (h2 : ((rowP r.feet).drop (0 + ((Int.toNat ((k : Nat) : Int)) * 3))).take 3 = [.int .i64 q.x, .int .i64 q.y, .int .i64 q.z]) (h4 : (((k : Nat) : Int) != ((i : Nat) : Int)) = true) (h5 : InR .i64 (((i : Nat) : Int) + 1)) (h6 : ((r.feet.length : Nat) : Int) ≠ 0) (h7 : (((k : Nat) : Int) != (Int.tmod (((i : Nat) : Int) + 1) ((r.feet.length : Nat) : Int))) = false) (h9 : InR .i64 (((k : Nat) : Int) + 1))
    (hg : G Try.prog E (f86K1 Try.prog) (f86S1 r i (k + 1) a b)) : G Try.prog E (f86K1 Try.prog) (f86S1 r i k a b) :=
  segN_step (n := 400) (ds := []) (live := [0, 3, 4, 5, 17, 18, 19, 28, 29, 30]) (m := 1) (evs := [.b true, .ld (.agg [.int .i64 q.x, .int .i64 q.y, .int .i64 q.z]), .b true, .b false, .b false, .stop]) (obs := [(decide (((k : Nat) : Int) < ((r.feet.length : Nat) : Int))) = true, 0 ≤ ((k : Nat) : Int) ∧ ((k : Nat) : Int) < ((r.feet.length : Nat) : Int), ((rowP r.feet).drop (0 + ((Int.toNat ((k : Nat) : Int)) * 3))).take 3 = [.int .i64 q.x, .int .i64 q.y, .int .i64 q.z], 3 ≤ 3, (((k : Nat) : Int) != ((i : Nat) : Int)) = true, InR .i64 (((i : Nat) : Int) + 1), ((r.feet.length : Nat) : Int) ≠ 0, (((k : Nat) : Int) != (Int.tmod (((i : Nat) : Int) + 1) ((r.feet.length : Nat) : Int))) = false, false = false, InR .i64 (((k : Nat) : Int) + 1)]) hE.2.1 (hE.nogh _) mixed (by kernel_rfl) ⟨h0, h1, h2, (by decide), h4, h5, h6, h7, (rfl), h9, trivial⟩ hg
theorem p86_1_3 (r : Rg) (i k : Nat) (a b : Pt) (q : Pt) {E : Env} {res : AV} (hE : PureE Try.prog 86 res E) (h0 : (decide (((k : Nat) : Int) < ((r.feet.length : Nat) : Int))) = true) (h1 : 0 ≤ ((k : Nat) : Int) ∧ ((k : Nat) : Int) < ((r.feet.length : Nat) : Int)) (h2 : ((rowP r.feet).drop (0 + ((Int.toNat ((k : Nat) : Int)) * 3))).take 3 = [.int .i64 q.x, .int .i64 q.y, .int .i64 q.z]) (h4 : (((k : Nat) : Int) != ((i : Nat) : Int)) = false) (h7 : InR .i64 (((k : Nat) : Int) + 1))
    (hg : G Try.prog E (f86K1 Try.prog) (f86S1 r i (k + 1) a b)) : G Try.prog E (f86K1 Try.prog) (f86S1 r i k a b) :=
  segN_step (n := 400) (ds := []) (live := [0, 3, 4, 5, 17, 18, 19, 28, 29, 30]) (m := 1) (evs := [.b true, .ld (.agg [.int .i64 q.x, .int .i64 q.y, .int .i64 q.z]), .b false, .b false, .b false, .stop]) (obs := [(decide (((k : Nat) : Int) < ((r.feet.length : Nat) : Int))) = true, 0 ≤ ((k : Nat) : Int) ∧ ((k : Nat) : Int) < ((r.feet.length : Nat) : Int), ((rowP r.feet).drop (0 + ((Int.toNat ((k : Nat) : Int)) * 3))).take 3 = [.int .i64 q.x, .int .i64 q.y, .int .i64 q.z], 3 ≤ 3, (((k : Nat) : Int) != ((i : Nat) : Int)) = false, false = false, false = false, InR .i64 (((k : Nat) : Int) + 1)]) hE.2.1 (hE.nogh _) mixed (by kernel_rfl) ⟨h0, h1, h2, (by decide), h4, (rfl), (rfl), h7, trivial⟩ hg
theorem p86_1_4 (r : Rg) (i k : Nat) (a b : Pt)  {E : Env} {res : AV} (hE : PureE Try.prog 86 res E) (h0 : (decide (((k : Nat) : Int) < ((r.feet.length : Nat) : Int))) = false) (h1 : InR .i64 (((i : Nat) : Int) + 1))
    (hg : G Try.prog E (f86K0 Try.prog) (f86S0 r (i + 1))) : G Try.prog E (f86K1 Try.prog) (f86S1 r i k a b) :=
  segN_step (n := 400) (ds := []) (live := [0, 3, 17, 18, 19]) (m := 0) (evs := [.b false, .stop]) (obs := [(decide (((k : Nat) : Int) < ((r.feet.length : Nat) : Int))) = false, InR .i64 (((i : Nat) : Int) + 1)]) hE.2.1 (hE.nogh _) mixed (by kernel_rfl) ⟨h0, h1, trivial⟩ hg
end Go.Proofs.Ytideokfbnegkjaa

/- Force: is the foot line convex?, proved. -/
namespace Go.Proofs.Ytideokfbnegkjaa
open Go Ax
open Go.Proofs

def footAt (r : Rg) (k : Nat) : Pt := r.feet.getD k ⟨0, 0, 0⟩
def badF (r : Rg) (i k : Nat) : Bool := ((k : Int) != (i : Int)) && (((k : Int) != Int.tmod ((i : Int) + 1) (r.feet.length : Int)) && decide (arm (lineAt r i).1 (lineAt r i).2 (footAt r k) ≤ 0))
def convR (r : Rg) (i : Nat) : Nat → Nat → Bool
  | _, 0 => true
  | k, d + 1 => !badF r i k && convR r i (k + 1) d
def convP (r : Rg) : Nat → Nat → Bool
  | _, 0 => true
  | i, d + 1 => convR r i 0 r.feet.length && convP r (i + 1) d
def convexV (r : Rg) : Bool := convP r 0 r.feet.length

structure FeetOk (r : Rg) : Prop where
  feet0 : 3 ≤ r.feet.length
  feet1 : r.feet.length ≤ 8
  foot : ∀ p ∈ r.feet, spanned p = true

theorem lineAt_ok' {r : Rg} {v : Nat} (hr : FeetOk r) (h : v < r.feet.length) : spanned (lineAt r v).1 = true ∧ spanned (lineAt r v).2 = true := by
  have hg := lineAt_get h
  unfold linesOf at hg
  rw [List.getElem?_map] at hg
  have e : (List.range' 0 r.feet.length)[v]? = some v := by simp [h]
  rw [e] at hg
  simp only [Option.map_some, Option.some.injEq] at hg
  have h2 : (v + 1) % r.feet.length < r.feet.length := Nat.mod_lt _ (by omega)
  rw [← hg]
  constructor
  · refine hr.foot _ ?_
    simp only [List.getD_eq_getElem?_getD, List.getElem?_eq_getElem h, Option.getD_some]; exact List.getElem_mem h
  · refine hr.foot _ ?_
    simp only [List.getD_eq_getElem?_getD, List.getElem?_eq_getElem h2, Option.getD_some]; exact List.getElem_mem h2

theorem conv_k {E : Env} {res : AV} {r : Rg} (hE : PureE Try.prog 86 res E) (hr : FeetOk r) {i : Nat} (hi : i < r.feet.length) {cont : Bool}
    (hg : res = .bool cont → G Try.prog E (f86K0 Try.prog) (f86S0 r (i + 1))) : ∀ (d k : Nat), k + d = r.feet.length → res = .bool (convR r i k d && cont) →
      G Try.prog E (f86K1 Try.prog) (f86S1 r i k (lineAt r i).1 (lineAt r i).2)
  | 0, k, hd, hr' => p86_1_4 r i k _ _ hE (by simp; omega) (by have := hr.feet1; unfold InR; omega) (hg (by rw [hr']; rfl))
  | d + 1, k, hd, hr' => by
    have hk : k < r.feet.length := by omega
    have hq : r.feet[k]? = some (footAt r k) := by simp [footAt, List.getD, hk]
    obtain ⟨l1, l2⟩ := lineAt_ok' hr hi
    obtain ⟨q1, -, -⟩ := arm_bd l1 l2 (hr.foot _ (List.mem_of_getElem? hq))
    have h8 := hr.feet1
    simp only [convR] at hr'
    have row := row_get cP (s := 3) (fun _ => rfl) _ _ _ hq
    rcases Bool.eq_false_or_eq_true ((k : Int) != (i : Int)) with h1 | h1
    · rcases Bool.eq_false_or_eq_true ((k : Int) != Int.tmod ((i : Int) + 1) (r.feet.length : Int)) with h2 | h2
      · rcases Bool.eq_false_or_eq_true (decide (arm (lineAt r i).1 (lineAt r i).2 (footAt r k) ≤ 0)) with h3 | h3
        · refine p86_1_0 r i k _ _ (footAt r k) hE (by simpa using hk) (by omega) row h1 (by unfold InR; omega) (by omega) h2 (arm_F _ _ _ q1) h3 ?_
          rw [hr']; simp only [badF, h1, h2, h3]; rfl
        · refine p86_1_1 r i k _ _ (footAt r k) hE (by simpa using hk) (by omega) row h1 (by unfold InR; omega) (by omega) h2 (arm_F _ _ _ q1) h3 (by unfold InR; omega) ?_
          exact conv_k hE hr hi hg d (k + 1) (by omega) (by rw [hr']; simp only [badF, h1, h2, h3]; rfl)
      · refine p86_1_2 r i k _ _ (footAt r k) hE (by simpa using hk) (by omega) row h1 (by unfold InR; omega) (by omega) h2 (by unfold InR; omega) ?_
        exact conv_k hE hr hi hg d (k + 1) (by omega) (by rw [hr']; simp only [badF, h1, h2]; rfl)
    · refine p86_1_3 r i k _ _ (footAt r k) hE (by simpa using hk) (by omega) row h1 (by unfold InR; omega) ?_
      exact conv_k hE hr hi hg d (k + 1) (by omega) (by rw [hr']; simp only [badF, h1]; rfl)

theorem conv_i {E : Env} {res : AV} {r : Rg} (hE : PureE Try.prog 86 res E) (hr : FeetOk r) : ∀ (d i : Nat), i + d = r.feet.length → res = .bool (convP r i d) → G Try.prog E (f86K0 Try.prog) (f86S0 r i)
  | 0, i, hd, hr' => p86_0e r i hE (by simp [linesOf_len]; omega) (by rw [hr']; rfl)
  | d + 1, i, hd, hr' => by
    have hi : i < r.feet.length := by omega
    refine p86_0n r i (lineAt r i).1 (lineAt r i).2 hE (by simp [linesOf_len]; omega) (by rw [linesOf_len]; omega) (row_get (fun s : Pt × Pt => cP s.1 ++ cP s.2) (fun _ => rfl) _ _ _ (lineAt_get hi)) ?_
    exact conv_k hE hr hi (cont := convP r (i + 1) d) (fun h => conv_i hE hr d (i + 1) (by omega) h) r.feet.length 0 (by omega) hr'

theorem convex_ok (r : Rg) (hr : FeetOk r) : Pure Try.prog 86 [.rptr [.rsl (rowS r.seats) 0 r.seats.length, .rsl (rowP r.feet) 0 r.feet.length, .int .i64 r.frame, .int .i64 r.c.x, .int .i64 r.c.y, .int .i64 r.c.z, .int .i64 r.empty, .int .i64 r.full, .rsl (rowLn (linesOf r.feet)) 0 ((linesOf r.feet).length), .int .i64 (phasesOf r)] 0]
    (.bool (convexV r)) := pure_of Try.func86 f86b fun E hE => p86_s r hE (conv_i hE hr r.feet.length 0 (by omega) rfl)


end Go.Proofs.Ytideokfbnegkjaa

/- Force: a rig is made. -/
namespace Go.Proofs.Ytideokfbnegkjaa
open Go Ax
open Go.Proofs

theorem f56b : Try.f56.body = some (bodyAt Try.prog 56) := by kernel_rfl
def f56K0 (P : Program) : List Item := kAt 400 [.code (bodyAt P 56)] [.b false, .stop]
def f56S0 (r : Rg) (i : Nat) (ph : Nat)  : St := ⟨[.junk, .ptr 0 0 0, .junk, .junk, .ptr 1 0 0, .junk, .junk, .junk, .junk, .junk, .junk, .junk, .junk, .junk, .junk, .junk, .junk, .junk, .junk, .junk, .junk, .junk, .junk, .junk, .rsl (rowS r.seats) 0 r.seats.length, .int .i64 ((r.seats.length : Nat) : Int), .int .i64 ((i : Nat) : Int), .junk, .junk, .junk, .junk, .junk, .junk, .junk, .junk, .junk, .junk, .junk, .junk, .junk, .junk, .junk, .junk, .junk, .junk, .junk, .junk, .junk, .junk, .junk, .junk, .junk, .junk, .junk, .junk, .junk, .junk, .junk, .junk, .junk, .junk, .junk, .junk, .junk, .junk, .junk, .junk, .junk, .junk, .junk, .junk, .junk, .junk, .junk, .junk, .junk, .junk, .junk, .junk, .junk, .junk, .junk, .junk, .junk, .junk, .junk, .junk, .junk, .junk, .junk, .junk, .junk, .junk, .junk, .junk, .junk, .junk, .junk, .junk, .junk, .junk, .junk, .junk, .junk, .junk, .junk, .junk, .junk, .junk], [⟨true, 0, 1, true, [.rsl (rowS r.seats) 0 r.seats.length, .rsl (rowP r.feet) 0 r.feet.length, .int .i64 r.frame, .int .i64 r.c.x, .int .i64 r.c.y, .int .i64 r.c.z, .int .i64 r.empty, .int .i64 r.full], false⟩, ⟨true, 0, 1, true, [.rsl (rowS r.seats) 0 r.seats.length, .rsl (rowP r.feet) 0 r.feet.length, .int .i64 r.frame, .int .i64 r.c.x, .int .i64 r.c.y, .int .i64 r.c.z, .int .i64 r.empty, .int .i64 r.full, .nilSl, .int .i64 ((ph : Nat) : Int)], false⟩]⟩
def f56G0 (E : Env) (r : Rg) (i : Nat) (ph : Nat) : Prop := G Try.prog E (f56K0 Try.prog) (f56S0 r i ph )
def f56K1 (P : Program) : List Item := kAt 400 [.code (bodyAt P 56)] [.b false, .b false, .b false, .b false, .stop]
def f56S1 (r : Rg) (ph : Nat) (k : Nat) (ls : List (Pt × Pt)) (g2 : Nat) : St := ⟨[.junk, .ptr 0 0 0, .junk, .junk, .ptr 1 0 0, .junk, .junk, .junk, .junk, .junk, .junk, .junk, .junk, .junk, .junk, .junk, .junk, .junk, .junk, .junk, .junk, .junk, .junk, .junk, .junk, .junk, .junk, .junk, .junk, .junk, .junk, .junk, .junk, .junk, .junk, .junk, .junk, .junk, .junk, .junk, .junk, .junk, .junk, .junk, .junk, .junk, .junk, .junk, .junk, .junk, .junk, .junk, .junk, .junk, .junk, .junk, .junk, .junk, .junk, .junk, .junk, .junk, .junk, .junk, .junk, .junk, .junk, .junk, .junk, .junk, .junk, .junk, .junk, .junk, .junk, .junk, .junk, .rsl (rowP r.feet) 0 r.feet.length, .int .i64 ((r.feet.length : Nat) : Int), .int .i64 ((k : Nat) : Int), .junk, .junk, .junk, .junk, .junk, .junk, .junk, .junk, .junk, .junk, .junk, .junk, .junk, .junk, .junk, .junk, .junk, .junk, .junk, .junk, .junk, .junk, .junk, .junk, .junk, .junk, .junk, .junk, .junk], [⟨true, 0, 1, true, [.rsl (rowS r.seats) 0 r.seats.length, .rsl (rowP r.feet) 0 r.feet.length, .int .i64 r.frame, .int .i64 r.c.x, .int .i64 r.c.y, .int .i64 r.c.z, .int .i64 r.empty, .int .i64 r.full], false⟩, ⟨true, 0, 1, false, [.rsl (rowS r.seats) 0 r.seats.length, .rsl (rowP r.feet) 0 r.feet.length, .int .i64 r.frame, .int .i64 r.c.x, .int .i64 r.c.y, .int .i64 r.c.z, .int .i64 r.empty, .int .i64 r.full, .sl 2 g2 0 ls.length 6, .int .i64 ((ph : Nat) : Int)], false⟩, ⟨true, g2, 6, true, (rowLn ls), true⟩]⟩
def f56G1 (E : Env) (r : Rg) (ph : Nat) (k : Nat) (ls : List (Pt × Pt)) : Prop := ∀ g2 : Nat, G Try.prog E (f56K1 Try.prog) (f56S1 r ph k ls g2)
theorem p56_start_0 (r : Rg)   {E : Env} {res : AV} (hE : PureE Try.prog 56 res E) (o0 : (decide (((r.seats.length : Nat) : Int) > 20)) = true)
    (hr : AvLe (.tup [.nilPtr, .bool false]) res) : G Try.prog E [.code (bodyAt Try.prog 56)] ⟨[.agg [.rsl (rowS r.seats) 0 r.seats.length, .rsl (rowP r.feet) 0 r.feet.length, .int .i64 r.frame, .int .i64 r.c.x, .int .i64 r.c.y, .int .i64 r.c.z, .int .i64 r.empty, .int .i64 r.full]] ++ unds (Try.f56.ntmps - 1), []⟩ :=
  end_stepL (n := 400) (evs := [.b true, .b true]) (obs := [(decide (((r.seats.length : Nat) : Int) > 20)) = true, true = true]) hE Try.func56 mixed (by kernel_rfl) ⟨o0, (rfl), trivial⟩ hr
theorem p56_start_1 (r : Rg)   {E : Env} {res : AV} (hE : PureE Try.prog 56 res E) (o0 : (decide (((r.seats.length : Nat) : Int) > 20)) = false) (o1 : PureF Try.prog (.clos 51 [] []) [.int .i64 ((r.feet.length : Nat) : Int), .int .i64 3, .int .i64 8] (.bool (within ((r.feet.length : Nat) : Int) 3 8))) (o2 : (!(within ((r.feet.length : Nat) : Int) 3 8)) = true)
    (hr : AvLe (.tup [.nilPtr, .bool false]) res) : G Try.prog E [.code (bodyAt Try.prog 56)] ⟨[.agg [.rsl (rowS r.seats) 0 r.seats.length, .rsl (rowP r.feet) 0 r.feet.length, .int .i64 r.frame, .int .i64 r.c.x, .int .i64 r.c.y, .int .i64 r.c.z, .int .i64 r.empty, .int .i64 r.full]] ++ unds (Try.f56.ntmps - 1), []⟩ :=
  end_stepL (n := 400) (evs := [.b false, .v (.bool (within ((r.feet.length : Nat) : Int) 3 8)), .b true]) (obs := [(decide (((r.seats.length : Nat) : Int) > 20)) = false, PureF Try.prog (.clos 51 [] []) [.int .i64 ((r.feet.length : Nat) : Int), .int .i64 3, .int .i64 8] (.bool (within ((r.feet.length : Nat) : Int) 3 8)), (!(within ((r.feet.length : Nat) : Int) 3 8)) = true]) hE Try.func56 mixed (by kernel_rfl) ⟨o0, o1, o2, trivial⟩ hr
theorem p56_start_2 (r : Rg)   {E : Env} {rv : AV} (hE : PureE Try.prog 56 rv E) (o0 : (decide (((r.seats.length : Nat) : Int) > 20)) = false) (o1 : PureF Try.prog (.clos 51 [] []) [.int .i64 ((r.feet.length : Nat) : Int), .int .i64 3, .int .i64 8] (.bool (within ((r.feet.length : Nat) : Int) 3 8))) (o2 : (!(within ((r.feet.length : Nat) : Int) 3 8)) = false)
    (hg : G Try.prog E (f56K0 Try.prog) ⟨[.junk, .ptr 0 0 0, .junk, .junk, .ptr 1 0 0, .junk, .junk, .junk, .junk, .junk, .junk, .junk, .junk, .junk, .junk, .junk, .junk, .junk, .junk, .junk, .junk, .junk, .junk, .junk, .rsl (rowS r.seats) 0 r.seats.length, .int .i64 ((r.seats.length : Nat) : Int), .int .i64 0, .junk, .junk, .junk, .junk, .junk, .junk, .junk, .junk, .junk, .junk, .junk, .junk, .junk, .junk, .junk, .junk, .junk, .junk, .junk, .junk, .junk, .junk, .junk, .junk, .junk, .junk, .junk, .junk, .junk, .junk, .junk, .junk, .junk, .junk, .junk, .junk, .junk, .junk, .junk, .junk, .junk, .junk, .junk, .junk, .junk, .junk, .junk, .junk, .junk, .junk, .junk, .junk, .junk, .junk, .junk, .junk, .junk, .junk, .junk, .junk, .junk, .junk, .junk, .junk, .junk, .junk, .junk, .junk, .junk, .junk, .junk, .junk, .junk, .junk, .junk, .junk, .junk, .junk, .junk, .junk, .junk, .junk], [⟨true, 0, 1, true, [.rsl (rowS r.seats) 0 r.seats.length, .rsl (rowP r.feet) 0 r.feet.length, .int .i64 r.frame, .int .i64 r.c.x, .int .i64 r.c.y, .int .i64 r.c.z, .int .i64 r.empty, .int .i64 r.full], false⟩, ⟨true, 0, 1, true, [.rsl (rowS r.seats) 0 r.seats.length, .rsl (rowP r.feet) 0 r.feet.length, .int .i64 r.frame, .int .i64 r.c.x, .int .i64 r.c.y, .int .i64 r.c.z, .int .i64 r.empty, .int .i64 r.full, .nilSl, .int .i64 1], false⟩]⟩) : G Try.prog E [.code (bodyAt Try.prog 56)] ⟨[.agg [.rsl (rowS r.seats) 0 r.seats.length, .rsl (rowP r.feet) 0 r.feet.length, .int .i64 r.frame, .int .i64 r.c.x, .int .i64 r.c.y, .int .i64 r.c.z, .int .i64 r.empty, .int .i64 r.full]] ++ unds (Try.f56.ntmps - 1), []⟩ :=
  segC_step (n := 400) (ds := []) (cs := []) (live := [1, 4, 24, 25, 26]) (m := 2) (evs := [.b false, .v (.bool (within ((r.feet.length : Nat) : Int) 3 8)), .b false, .stop]) (obs := [(decide (((r.seats.length : Nat) : Int) > 20)) = false, PureF Try.prog (.clos 51 [] []) [.int .i64 ((r.feet.length : Nat) : Int), .int .i64 3, .int .i64 8] (.bool (within ((r.feet.length : Nat) : Int) 3 8)), (!(within ((r.feet.length : Nat) : Int) 3 8)) = false]) hE.2.1 (hE.nogh _) mixed (by kernel_rfl) ⟨o0, o1, o2, trivial⟩ hg
theorem f56W (r : Rg) {E : Env} {rv : AV} (hE : PureE Try.prog 56 rv E)
    (h : ((((r.seats.length : Nat) : Int) > 20 → rv = (.tup [.nilPtr, .bool false])) ∧ (¬ (((r.seats.length : Nat) : Int) > 20) → (((within ((r.feet.length : Nat) : Int) 3 8) = false → rv = (.tup [.nilPtr, .bool false])) ∧ ((within ((r.feet.length : Nat) : Int) 3 8) = true → f56G0 E r 0 1))))) : G Try.prog E [.code (bodyAt Try.prog 56)] ⟨[.agg [.rsl (rowS r.seats) 0 r.seats.length, .rsl (rowP r.feet) 0 r.feet.length, .int .i64 r.frame, .int .i64 r.c.x, .int .i64 r.c.y, .int .i64 r.c.z, .int .i64 r.empty, .int .i64 r.full]] ++ unds (Try.f56.ntmps - 1), []⟩ := by
  rcases Bool.eq_false_or_eq_true (decide (((r.seats.length : Nat) : Int) > 20)) with hc0 | hc0
  · have h := h.1 (of_decide_eq_true hc0)
    exact p56_start_0 r    hE hc0 (AvLe.of_eq (by rw [h]; try rfl))
  · have h := h.2 (of_decide_eq_false hc0)
    rcases Bool.eq_false_or_eq_true (!(within ((r.feet.length : Nat) : Int) 3 8)) with hc1 | hc1
    · have h := h.1 (bnT hc1)
      exact p56_start_1 r    hE hc0 (pureF_of Try.func51 (by kernel_rfl) f51b (within_ok ((r.feet.length : Nat) : Int) 3 8)) hc1 (AvLe.of_eq (by rw [h]; try rfl))
    · have h := h.2 (bnF hc1)
      exact p56_start_2 r    hE hc0 (pureF_of Try.func51 (by kernel_rfl) f51b (within_ok ((r.feet.length : Nat) : Int) 3 8)) hc1 h
theorem p56_0_0 (r : Rg) (i : Nat) (ph : Nat)  (le : (List Pt))  {E : Env} {res : AV} (hE : PureE Try.prog 56 res E) (o0 : (decide (((i : Nat) : Int) < ((r.seats.length : Nat) : Int))) = true) (o2 : 0 ≤ ((i : Nat) : Int) ∧ ((i : Nat) : Int) < ((r.seats.length : Nat) : Int)) (o3 : ((rowS r.seats).drop (0 + (Int.toNat ((i : Nat) : Int)) * 1)).take 1 = [.rsl (rowP le) 0 le.length]) (o4 : PureF Try.prog (.clos 50 [] []) [.rsl (rowP le) 0 le.length] (.bool (validP le))) (o5 : (!(validP le)) = true)
    (hr : AvLe (.tup [.nilPtr, .bool false]) res) : G Try.prog E (f56K0 Try.prog) (f56S0 r i ph ) :=
  end_stepL (n := 400) (evs := [.b true, .ld (.rsl (rowP le) 0 le.length), .v (.bool (validP le)), .b true, .b true]) (obs := [(decide (((i : Nat) : Int) < ((r.seats.length : Nat) : Int))) = true, 0 ≤ ((i : Nat) : Int) ∧ ((i : Nat) : Int) < ((r.seats.length : Nat) : Int), ((rowS r.seats).drop (0 + (Int.toNat ((i : Nat) : Int)) * 1)).take 1 = [.rsl (rowP le) 0 le.length], PureF Try.prog (.clos 50 [] []) [.rsl (rowP le) 0 le.length] (.bool (validP le)), (!(validP le)) = true, true = true]) hE Try.func56 mixed (by kernel_rfl) ⟨o0, o2, o3, o4, o5, (rfl), trivial⟩ hr
theorem p56_0_1 (r : Rg) (i : Nat) (ph : Nat)  (le : (List Pt)) (le1 : (List Pt))  {E : Env} {res : AV} (hE : PureE Try.prog 56 res E) (o0 : (decide (((i : Nat) : Int) < ((r.seats.length : Nat) : Int))) = true) (o2 : 0 ≤ ((i : Nat) : Int) ∧ ((i : Nat) : Int) < ((r.seats.length : Nat) : Int)) (o3 : ((rowS r.seats).drop (0 + (Int.toNat ((i : Nat) : Int)) * 1)).take 1 = [.rsl (rowP le) 0 le.length]) (o4 : PureF Try.prog (.clos 50 [] []) [.rsl (rowP le) 0 le.length] (.bool (validP le))) (o5 : (!(validP le)) = false) (o7 : (0 : Int) ≤ 0 ∧ (0 : Int) < ((r.seats.length : Nat) : Int)) (o8 : ((rowS r.seats).drop (0 + 0 * 1)).take 1 = [.rsl (rowP le1) 0 le1.length]) (o9 : (((le.length : Nat) : Int) != ((le1.length : Nat) : Int)) = true)
    (hr : AvLe (.tup [.nilPtr, .bool false]) res) : G Try.prog E (f56K0 Try.prog) (f56S0 r i ph ) :=
  end_stepL (n := 400) (evs := [.b true, .ld (.rsl (rowP le) 0 le.length), .v (.bool (validP le)), .b false, .auto, .ld (.rsl (rowP le1) 0 le1.length), .b true]) (obs := [(decide (((i : Nat) : Int) < ((r.seats.length : Nat) : Int))) = true, 0 ≤ ((i : Nat) : Int) ∧ ((i : Nat) : Int) < ((r.seats.length : Nat) : Int), ((rowS r.seats).drop (0 + (Int.toNat ((i : Nat) : Int)) * 1)).take 1 = [.rsl (rowP le) 0 le.length], PureF Try.prog (.clos 50 [] []) [.rsl (rowP le) 0 le.length] (.bool (validP le)), (!(validP le)) = false, (0 : Int) ≤ 0 ∧ (0 : Int) < ((r.seats.length : Nat) : Int), ((rowS r.seats).drop (0 + 0 * 1)).take 1 = [.rsl (rowP le1) 0 le1.length], (((le.length : Nat) : Int) != ((le1.length : Nat) : Int)) = true]) hE Try.func56 mixed (by kernel_rfl) ⟨o0, o2, o3, o4, o5, o7, o8, o9, trivial⟩ hr
theorem p56_0_2 (r : Rg) (i : Nat) (ph : Nat)  (le : (List Pt)) (le1 : (List Pt))  {E : Env} {rv : AV} (hE : PureE Try.prog 56 rv E) (o0 : (decide (((i : Nat) : Int) < ((r.seats.length : Nat) : Int))) = true) (o2 : 0 ≤ ((i : Nat) : Int) ∧ ((i : Nat) : Int) < ((r.seats.length : Nat) : Int)) (o3 : ((rowS r.seats).drop (0 + (Int.toNat ((i : Nat) : Int)) * 1)).take 1 = [.rsl (rowP le) 0 le.length]) (o4 : PureF Try.prog (.clos 50 [] []) [.rsl (rowP le) 0 le.length] (.bool (validP le))) (o5 : (!(validP le)) = false) (o7 : (0 : Int) ≤ 0 ∧ (0 : Int) < ((r.seats.length : Nat) : Int)) (o8 : ((rowS r.seats).drop (0 + 0 * 1)).take 1 = [.rsl (rowP le1) 0 le1.length]) (o9 : (((le.length : Nat) : Int) != ((le1.length : Nat) : Int)) = false) (o11 : InR .i64 (((i : Nat) : Int) + 1))
    (hg : G Try.prog E (f56K0 Try.prog) ⟨[.junk, .ptr 0 0 0, .junk, .junk, .ptr 1 0 0, .junk, .junk, .junk, .junk, .junk, .junk, .junk, .junk, .junk, .junk, .junk, .junk, .junk, .junk, .junk, .junk, .junk, .junk, .junk, .rsl (rowS r.seats) 0 r.seats.length, .int .i64 ((r.seats.length : Nat) : Int), .int .i64 (((i : Nat) : Int) + 1), .junk, .junk, .junk, .junk, .junk, .junk, .junk, .junk, .junk, .junk, .junk, .junk, .junk, .junk, .junk, .junk, .junk, .junk, .junk, .junk, .junk, .junk, .junk, .junk, .junk, .junk, .junk, .junk, .junk, .junk, .junk, .junk, .junk, .junk, .junk, .junk, .junk, .junk, .junk, .junk, .junk, .junk, .junk, .junk, .junk, .junk, .junk, .junk, .junk, .junk, .junk, .junk, .junk, .junk, .junk, .junk, .junk, .junk, .junk, .junk, .junk, .junk, .junk, .junk, .junk, .junk, .junk, .junk, .junk, .junk, .junk, .junk, .junk, .junk, .junk, .junk, .junk, .junk, .junk, .junk, .junk, .junk], [⟨true, 0, 1, true, [.rsl (rowS r.seats) 0 r.seats.length, .rsl (rowP r.feet) 0 r.feet.length, .int .i64 r.frame, .int .i64 r.c.x, .int .i64 r.c.y, .int .i64 r.c.z, .int .i64 r.empty, .int .i64 r.full], false⟩, ⟨true, 0, 1, true, [.rsl (rowS r.seats) 0 r.seats.length, .rsl (rowP r.feet) 0 r.feet.length, .int .i64 r.frame, .int .i64 r.c.x, .int .i64 r.c.y, .int .i64 r.c.z, .int .i64 r.empty, .int .i64 r.full, .nilSl, .int .i64 ((le.length : Nat) : Int)], false⟩]⟩) : G Try.prog E (f56K0 Try.prog) (f56S0 r i ph ) :=
  segC_step (n := 400) (ds := []) (cs := []) (live := [1, 4, 24, 25, 26]) (m := 2) (evs := [.b true, .ld (.rsl (rowP le) 0 le.length), .v (.bool (validP le)), .b false, .auto, .ld (.rsl (rowP le1) 0 le1.length), .b false, .stop]) (obs := [(decide (((i : Nat) : Int) < ((r.seats.length : Nat) : Int))) = true, 0 ≤ ((i : Nat) : Int) ∧ ((i : Nat) : Int) < ((r.seats.length : Nat) : Int), ((rowS r.seats).drop (0 + (Int.toNat ((i : Nat) : Int)) * 1)).take 1 = [.rsl (rowP le) 0 le.length], PureF Try.prog (.clos 50 [] []) [.rsl (rowP le) 0 le.length] (.bool (validP le)), (!(validP le)) = false, (0 : Int) ≤ 0 ∧ (0 : Int) < ((r.seats.length : Nat) : Int), ((rowS r.seats).drop (0 + 0 * 1)).take 1 = [.rsl (rowP le1) 0 le1.length], (((le.length : Nat) : Int) != ((le1.length : Nat) : Int)) = false, 10 ≤ 10, InR .i64 (((i : Nat) : Int) + 1)]) hE.2.1 (hE.nogh _) mixed (by kernel_rfl) ⟨o0, o2, o3, o4, o5, o7, o8, o9, (by decide), o11, trivial⟩ hg
theorem p56_0_3 (r : Rg) (i : Nat) (ph : Nat)   {E : Env} {res : AV} (hE : PureE Try.prog 56 res E) (o0 : (decide (((i : Nat) : Int) < ((r.seats.length : Nat) : Int))) = false) (o1 : PureF Try.prog (.clos 51 [] []) [.int .i64 r.frame, .int .i64 0, .int .i64 1000000] (.bool (within r.frame 0 1000000))) (o2 : (!(within r.frame 0 1000000)) = true)
    (hr : AvLe (.tup [.nilPtr, .bool false]) res) : G Try.prog E (f56K0 Try.prog) (f56S0 r i ph ) :=
  end_stepL (n := 400) (evs := [.b false, .v (.bool (within r.frame 0 1000000)), .b true, .b true, .b true, .b true]) (obs := [(decide (((i : Nat) : Int) < ((r.seats.length : Nat) : Int))) = false, PureF Try.prog (.clos 51 [] []) [.int .i64 r.frame, .int .i64 0, .int .i64 1000000] (.bool (within r.frame 0 1000000)), (!(within r.frame 0 1000000)) = true, true = true, true = true, true = true]) hE Try.func56 mixed (by kernel_rfl) ⟨o0, o1, o2, (rfl), (rfl), (rfl), trivial⟩ hr
theorem p56_0_4 (r : Rg) (i : Nat) (ph : Nat)   {E : Env} {res : AV} (hE : PureE Try.prog 56 res E) (o0 : (decide (((i : Nat) : Int) < ((r.seats.length : Nat) : Int))) = false) (o1 : PureF Try.prog (.clos 51 [] []) [.int .i64 r.frame, .int .i64 0, .int .i64 1000000] (.bool (within r.frame 0 1000000))) (o2 : (!(within r.frame 0 1000000)) = false) (o3 : PureF Try.prog (.clos 51 [] []) [.int .i64 r.full, .int .i64 0, .int .i64 1000000] (.bool (within r.full 0 1000000))) (o4 : (!(within r.full 0 1000000)) = true)
    (hr : AvLe (.tup [.nilPtr, .bool false]) res) : G Try.prog E (f56K0 Try.prog) (f56S0 r i ph ) :=
  end_stepL (n := 400) (evs := [.b false, .v (.bool (within r.frame 0 1000000)), .b false, .v (.bool (within r.full 0 1000000)), .b true, .b true, .b true]) (obs := [(decide (((i : Nat) : Int) < ((r.seats.length : Nat) : Int))) = false, PureF Try.prog (.clos 51 [] []) [.int .i64 r.frame, .int .i64 0, .int .i64 1000000] (.bool (within r.frame 0 1000000)), (!(within r.frame 0 1000000)) = false, PureF Try.prog (.clos 51 [] []) [.int .i64 r.full, .int .i64 0, .int .i64 1000000] (.bool (within r.full 0 1000000)), (!(within r.full 0 1000000)) = true, true = true, true = true]) hE Try.func56 mixed (by kernel_rfl) ⟨o0, o1, o2, o3, o4, (rfl), (rfl), trivial⟩ hr
theorem p56_0_5 (r : Rg) (i : Nat) (ph : Nat)   {E : Env} {res : AV} (hE : PureE Try.prog 56 res E) (o0 : (decide (((i : Nat) : Int) < ((r.seats.length : Nat) : Int))) = false) (o1 : PureF Try.prog (.clos 51 [] []) [.int .i64 r.frame, .int .i64 0, .int .i64 1000000] (.bool (within r.frame 0 1000000))) (o2 : (!(within r.frame 0 1000000)) = false) (o3 : PureF Try.prog (.clos 51 [] []) [.int .i64 r.full, .int .i64 0, .int .i64 1000000] (.bool (within r.full 0 1000000))) (o4 : (!(within r.full 0 1000000)) = false) (o5 : PureF Try.prog (.clos 51 [] []) [.int .i64 r.empty, .int .i64 0, .int .i64 r.full] (.bool (within r.empty 0 r.full))) (o6 : (!(within r.empty 0 r.full)) = true)
    (hr : AvLe (.tup [.nilPtr, .bool false]) res) : G Try.prog E (f56K0 Try.prog) (f56S0 r i ph ) :=
  end_stepL (n := 400) (evs := [.b false, .v (.bool (within r.frame 0 1000000)), .b false, .v (.bool (within r.full 0 1000000)), .b false, .v (.bool (within r.empty 0 r.full)), .b true, .b true]) (obs := [(decide (((i : Nat) : Int) < ((r.seats.length : Nat) : Int))) = false, PureF Try.prog (.clos 51 [] []) [.int .i64 r.frame, .int .i64 0, .int .i64 1000000] (.bool (within r.frame 0 1000000)), (!(within r.frame 0 1000000)) = false, PureF Try.prog (.clos 51 [] []) [.int .i64 r.full, .int .i64 0, .int .i64 1000000] (.bool (within r.full 0 1000000)), (!(within r.full 0 1000000)) = false, PureF Try.prog (.clos 51 [] []) [.int .i64 r.empty, .int .i64 0, .int .i64 r.full] (.bool (within r.empty 0 r.full)), (!(within r.empty 0 r.full)) = true, true = true]) hE Try.func56 mixed (by kernel_rfl) ⟨o0, o1, o2, o3, o4, o5, o6, (rfl), trivial⟩ hr
theorem p56_0_6 (r : Rg) (i : Nat) (ph : Nat)   {E : Env} {res : AV} (hE : PureE Try.prog 56 res E) (o0 : (decide (((i : Nat) : Int) < ((r.seats.length : Nat) : Int))) = false) (o1 : PureF Try.prog (.clos 51 [] []) [.int .i64 r.frame, .int .i64 0, .int .i64 1000000] (.bool (within r.frame 0 1000000))) (o2 : (!(within r.frame 0 1000000)) = false) (o3 : PureF Try.prog (.clos 51 [] []) [.int .i64 r.full, .int .i64 0, .int .i64 1000000] (.bool (within r.full 0 1000000))) (o4 : (!(within r.full 0 1000000)) = false) (o5 : PureF Try.prog (.clos 51 [] []) [.int .i64 r.empty, .int .i64 0, .int .i64 r.full] (.bool (within r.empty 0 r.full))) (o6 : (!(within r.empty 0 r.full)) = false) (o7 : PureF Try.prog (.clos 82 [] []) [.agg [.int .i64 r.c.x, .int .i64 r.c.y, .int .i64 r.c.z]] (.bool (spanned r.c))) (o8 : (!(spanned r.c)) = true)
    (hr : AvLe (.tup [.nilPtr, .bool false]) res) : G Try.prog E (f56K0 Try.prog) (f56S0 r i ph ) :=
  end_stepL (n := 400) (evs := [.b false, .v (.bool (within r.frame 0 1000000)), .b false, .v (.bool (within r.full 0 1000000)), .b false, .v (.bool (within r.empty 0 r.full)), .b false, .v (.bool (spanned r.c)), .b true]) (obs := [(decide (((i : Nat) : Int) < ((r.seats.length : Nat) : Int))) = false, PureF Try.prog (.clos 51 [] []) [.int .i64 r.frame, .int .i64 0, .int .i64 1000000] (.bool (within r.frame 0 1000000)), (!(within r.frame 0 1000000)) = false, PureF Try.prog (.clos 51 [] []) [.int .i64 r.full, .int .i64 0, .int .i64 1000000] (.bool (within r.full 0 1000000)), (!(within r.full 0 1000000)) = false, PureF Try.prog (.clos 51 [] []) [.int .i64 r.empty, .int .i64 0, .int .i64 r.full] (.bool (within r.empty 0 r.full)), (!(within r.empty 0 r.full)) = false, PureF Try.prog (.clos 82 [] []) [.agg [.int .i64 r.c.x, .int .i64 r.c.y, .int .i64 r.c.z]] (.bool (spanned r.c)), (!(spanned r.c)) = true]) hE Try.func56 mixed (by kernel_rfl) ⟨o0, o1, o2, o3, o4, o5, o6, o7, o8, trivial⟩ hr
theorem p56_0_7 (r : Rg) (i : Nat) (ph : Nat)   {E : Env} {res : AV} (hE : PureE Try.prog 56 res E) (o0 : (decide (((i : Nat) : Int) < ((r.seats.length : Nat) : Int))) = false) (o1 : PureF Try.prog (.clos 51 [] []) [.int .i64 r.frame, .int .i64 0, .int .i64 1000000] (.bool (within r.frame 0 1000000))) (o2 : (!(within r.frame 0 1000000)) = false) (o3 : PureF Try.prog (.clos 51 [] []) [.int .i64 r.full, .int .i64 0, .int .i64 1000000] (.bool (within r.full 0 1000000))) (o4 : (!(within r.full 0 1000000)) = false) (o5 : PureF Try.prog (.clos 51 [] []) [.int .i64 r.empty, .int .i64 0, .int .i64 r.full] (.bool (within r.empty 0 r.full))) (o6 : (!(within r.empty 0 r.full)) = false) (o7 : PureF Try.prog (.clos 82 [] []) [.agg [.int .i64 r.c.x, .int .i64 r.c.y, .int .i64 r.c.z]] (.bool (spanned r.c))) (o8 : (!(spanned r.c)) = false) (o9 : PureF Try.prog (.clos 84 [] []) [.rsl (rowP r.feet) 0 r.feet.length, .clos 85 [] []] (.bool (r.feet.any footBad))) (o10 : (r.feet.any footBad) = true)
    (hr : AvLe (.tup [.nilPtr, .bool false]) res) : G Try.prog E (f56K0 Try.prog) (f56S0 r i ph ) :=
  end_stepL (n := 400) (evs := [.b false, .v (.bool (within r.frame 0 1000000)), .b false, .v (.bool (within r.full 0 1000000)), .b false, .v (.bool (within r.empty 0 r.full)), .b false, .v (.bool (spanned r.c)), .b false, .v (.bool (r.feet.any footBad)), .b true]) (obs := [(decide (((i : Nat) : Int) < ((r.seats.length : Nat) : Int))) = false, PureF Try.prog (.clos 51 [] []) [.int .i64 r.frame, .int .i64 0, .int .i64 1000000] (.bool (within r.frame 0 1000000)), (!(within r.frame 0 1000000)) = false, PureF Try.prog (.clos 51 [] []) [.int .i64 r.full, .int .i64 0, .int .i64 1000000] (.bool (within r.full 0 1000000)), (!(within r.full 0 1000000)) = false, PureF Try.prog (.clos 51 [] []) [.int .i64 r.empty, .int .i64 0, .int .i64 r.full] (.bool (within r.empty 0 r.full)), (!(within r.empty 0 r.full)) = false, PureF Try.prog (.clos 82 [] []) [.agg [.int .i64 r.c.x, .int .i64 r.c.y, .int .i64 r.c.z]] (.bool (spanned r.c)), (!(spanned r.c)) = false, PureF Try.prog (.clos 84 [] []) [.rsl (rowP r.feet) 0 r.feet.length, .clos 85 [] []] (.bool (r.feet.any footBad)), (r.feet.any footBad) = true]) hE Try.func56 mixed (by kernel_rfl) ⟨o0, o1, o2, o3, o4, o5, o6, o7, o8, o9, o10, trivial⟩ hr
theorem p56_0_8 (r : Rg) (i : Nat) (ph : Nat)   {E : Env} {rv : AV} (hE : PureE Try.prog 56 rv E) (o0 : (decide (((i : Nat) : Int) < ((r.seats.length : Nat) : Int))) = false) (o1 : PureF Try.prog (.clos 51 [] []) [.int .i64 r.frame, .int .i64 0, .int .i64 1000000] (.bool (within r.frame 0 1000000))) (o2 : (!(within r.frame 0 1000000)) = false) (o3 : PureF Try.prog (.clos 51 [] []) [.int .i64 r.full, .int .i64 0, .int .i64 1000000] (.bool (within r.full 0 1000000))) (o4 : (!(within r.full 0 1000000)) = false) (o5 : PureF Try.prog (.clos 51 [] []) [.int .i64 r.empty, .int .i64 0, .int .i64 r.full] (.bool (within r.empty 0 r.full))) (o6 : (!(within r.empty 0 r.full)) = false) (o7 : PureF Try.prog (.clos 82 [] []) [.agg [.int .i64 r.c.x, .int .i64 r.c.y, .int .i64 r.c.z]] (.bool (spanned r.c))) (o8 : (!(spanned r.c)) = false) (o9 : PureF Try.prog (.clos 84 [] []) [.rsl (rowP r.feet) 0 r.feet.length, .clos 85 [] []] (.bool (r.feet.any footBad))) (o10 : (r.feet.any footBad) = false)
    (hg : G Try.prog E (f56K1 Try.prog) ⟨[.junk, .ptr 0 0 0, .junk, .junk, .ptr 1 0 0, .junk, .junk, .junk, .junk, .junk, .junk, .junk, .junk, .junk, .junk, .junk, .junk, .junk, .junk, .junk, .junk, .junk, .junk, .junk, .junk, .junk, .junk, .junk, .junk, .junk, .junk, .junk, .junk, .junk, .junk, .junk, .junk, .junk, .junk, .junk, .junk, .junk, .junk, .junk, .junk, .junk, .junk, .junk, .junk, .junk, .junk, .junk, .junk, .junk, .junk, .junk, .junk, .junk, .junk, .junk, .junk, .junk, .junk, .junk, .junk, .junk, .junk, .junk, .junk, .junk, .junk, .junk, .junk, .junk, .junk, .junk, .junk, .rsl (rowP r.feet) 0 r.feet.length, .int .i64 ((r.feet.length : Nat) : Int), .int .i64 0, .junk, .junk, .junk, .junk, .junk, .junk, .junk, .junk, .junk, .junk, .junk, .junk, .junk, .junk, .junk, .junk, .junk, .junk, .junk, .junk, .junk, .junk, .junk, .junk, .junk, .junk, .junk, .junk, .junk], [⟨true, 0, 1, true, [.rsl (rowS r.seats) 0 r.seats.length, .rsl (rowP r.feet) 0 r.feet.length, .int .i64 r.frame, .int .i64 r.c.x, .int .i64 r.c.y, .int .i64 r.c.z, .int .i64 r.empty, .int .i64 r.full], false⟩, ⟨true, 0, 1, false, [.rsl (rowS r.seats) 0 r.seats.length, .rsl (rowP r.feet) 0 r.feet.length, .int .i64 r.frame, .int .i64 r.c.x, .int .i64 r.c.y, .int .i64 r.c.z, .int .i64 r.empty, .int .i64 r.full, .sl 2 0 0 0 6, .int .i64 ((ph : Nat) : Int)], false⟩, ⟨true, 0, 6, true, [], true⟩]⟩) : G Try.prog E (f56K0 Try.prog) (f56S0 r i ph ) :=
  segC_step (n := 400) (ds := []) (cs := [(1, 8, 6)]) (live := [1, 4, 77, 78, 79]) (m := 3) (evs := [.b false, .v (.bool (within r.frame 0 1000000)), .b false, .v (.bool (within r.full 0 1000000)), .b false, .v (.bool (within r.empty 0 r.full)), .b false, .v (.bool (spanned r.c)), .b false, .v (.bool (r.feet.any footBad)), .b false, .stop]) (obs := [(decide (((i : Nat) : Int) < ((r.seats.length : Nat) : Int))) = false, PureF Try.prog (.clos 51 [] []) [.int .i64 r.frame, .int .i64 0, .int .i64 1000000] (.bool (within r.frame 0 1000000)), (!(within r.frame 0 1000000)) = false, PureF Try.prog (.clos 51 [] []) [.int .i64 r.full, .int .i64 0, .int .i64 1000000] (.bool (within r.full 0 1000000)), (!(within r.full 0 1000000)) = false, PureF Try.prog (.clos 51 [] []) [.int .i64 r.empty, .int .i64 0, .int .i64 r.full] (.bool (within r.empty 0 r.full)), (!(within r.empty 0 r.full)) = false, PureF Try.prog (.clos 82 [] []) [.agg [.int .i64 r.c.x, .int .i64 r.c.y, .int .i64 r.c.z]] (.bool (spanned r.c)), (!(spanned r.c)) = false, PureF Try.prog (.clos 84 [] []) [.rsl (rowP r.feet) 0 r.feet.length, .clos 85 [] []] (.bool (r.feet.any footBad)), (r.feet.any footBad) = false]) hE.2.1 (hE.nogh _) mixed (by kernel_rfl) ⟨o0, o1, o2, o3, o4, o5, o6, o7, o8, o9, o10, trivial⟩ hg
theorem f56W0 (r : Rg) (i : Nat) (ph : Nat) {E : Env} {rv : AV} (hE : PureE Try.prog 56 rv E)
    (h : ((((i : Nat) : Int) < ((r.seats.length : Nat) : Int) → (∃ le : (List Pt), r.seats[i]? = some le ∧ ((le.length ≤ 1000) ∧ (((validP le) = false → rv = (.tup [.nilPtr, .bool false])) ∧ ((validP le) = true → (∃ le1 : (List Pt), r.seats[0]? = some le1 ∧ ((¬ (((le.length : Nat) : Int) = ((le1.length : Nat) : Int)) → rv = (.tup [.nilPtr, .bool false])) ∧ (((le.length : Nat) : Int) = ((le1.length : Nat) : Int) → ((-9223372036854775808 ≤ ((i : Nat) : Int) + 1 ∧ ((i : Nat) : Int) + 1 ≤ 9223372036854775807) ∧ f56G0 E r (i + 1) le.length))))))))) ∧ (¬ (((i : Nat) : Int) < ((r.seats.length : Nat) : Int)) → (((within r.frame 0 1000000) = false → rv = (.tup [.nilPtr, .bool false])) ∧ ((within r.frame 0 1000000) = true → (((within r.full 0 1000000) = false → rv = (.tup [.nilPtr, .bool false])) ∧ ((within r.full 0 1000000) = true → (((within r.empty 0 r.full) = false → rv = (.tup [.nilPtr, .bool false])) ∧ ((within r.empty 0 r.full) = true → (((spanned r.c) = false → rv = (.tup [.nilPtr, .bool false])) ∧ ((spanned r.c) = true → ((r.feet.length ≤ 1000) ∧ (((r.feet.any footBad) = true → rv = (.tup [.nilPtr, .bool false])) ∧ ((r.feet.any footBad) = false → f56G1 E r ph 0 ([]))))))))))))))) : f56G0 E r i ph := by
  rcases Bool.eq_false_or_eq_true (decide (((i : Nat) : Int) < ((r.seats.length : Nat) : Int))) with hc0 | hc0
  · have h := h.1 (of_decide_eq_true hc0)
    obtain ⟨le, h1, h⟩ := h
    obtain ⟨h2, h⟩ := h
    rcases Bool.eq_false_or_eq_true (!(validP le)) with hc1 | hc1
    · have h := h.1 (bnT hc1)
      exact p56_0_0 r i ph  le hE hc0 (idx_ok h1) (row_part (fun s : List Pt => [AV.rsl (rowP s) 0 s.length]) (s := 1) (k := 0) (m := 1) (fun _ => rfl) (by decide) h1) (pureF_of Try.func50 (by kernel_rfl) f50b (valid_ok le h2)) hc1 (AvLe.of_eq (by rw [h]; try rfl))
    · have h := h.2 (bnF hc1)
      obtain ⟨le1, h3, h⟩ := h
      rcases Bool.eq_false_or_eq_true (((le.length : Nat) : Int) != ((le1.length : Nat) : Int)) with hc2 | hc2
      · have h := h.1 (bneT hc2)
        exact p56_0_1 r i ph  le le1 hE hc0 (idx_ok h1) (row_part (fun s : List Pt => [AV.rsl (rowP s) 0 s.length]) (s := 1) (k := 0) (m := 1) (fun _ => rfl) (by decide) h1) (pureF_of Try.func50 (by kernel_rfl) f50b (valid_ok le h2)) hc1 (idx_ok h3) (row_part (fun s : List Pt => [AV.rsl (rowP s) 0 s.length]) (s := 1) (k := 0) (m := 1) (fun _ => rfl) (by decide) h3) hc2 (AvLe.of_eq (by rw [h]; try rfl))
      · have h := h.2 (bneF hc2)
        obtain ⟨q11_3, h⟩ := h
        exact p56_0_2 r i ph  le le1 hE hc0 (idx_ok h1) (row_part (fun s : List Pt => [AV.rsl (rowP s) 0 s.length]) (s := 1) (k := 0) (m := 1) (fun _ => rfl) (by decide) h1) (pureF_of Try.func50 (by kernel_rfl) f50b (valid_ok le h2)) hc1 (idx_ok h3) (row_part (fun s : List Pt => [AV.rsl (rowP s) 0 s.length]) (s := 1) (k := 0) (m := 1) (fun _ => rfl) (by decide) h3) hc2 q11_3 h
  · have h := h.2 (of_decide_eq_false hc0)
    rcases Bool.eq_false_or_eq_true (!(within r.frame 0 1000000)) with hc1 | hc1
    · have h := h.1 (bnT hc1)
      exact p56_0_3 r i ph   hE hc0 (pureF_of Try.func51 (by kernel_rfl) f51b (within_ok r.frame 0 1000000)) hc1 (AvLe.of_eq (by rw [h]; try rfl))
    · have h := h.2 (bnF hc1)
      rcases Bool.eq_false_or_eq_true (!(within r.full 0 1000000)) with hc2 | hc2
      · have h := h.1 (bnT hc2)
        exact p56_0_4 r i ph   hE hc0 (pureF_of Try.func51 (by kernel_rfl) f51b (within_ok r.frame 0 1000000)) hc1 (pureF_of Try.func51 (by kernel_rfl) f51b (within_ok r.full 0 1000000)) hc2 (AvLe.of_eq (by rw [h]; try rfl))
      · have h := h.2 (bnF hc2)
        rcases Bool.eq_false_or_eq_true (!(within r.empty 0 r.full)) with hc3 | hc3
        · have h := h.1 (bnT hc3)
          exact p56_0_5 r i ph   hE hc0 (pureF_of Try.func51 (by kernel_rfl) f51b (within_ok r.frame 0 1000000)) hc1 (pureF_of Try.func51 (by kernel_rfl) f51b (within_ok r.full 0 1000000)) hc2 (pureF_of Try.func51 (by kernel_rfl) f51b (within_ok r.empty 0 r.full)) hc3 (AvLe.of_eq (by rw [h]; try rfl))
        · have h := h.2 (bnF hc3)
          rcases Bool.eq_false_or_eq_true (!(spanned r.c)) with hc4 | hc4
          · have h := h.1 (bnT hc4)
            exact p56_0_6 r i ph   hE hc0 (pureF_of Try.func51 (by kernel_rfl) f51b (within_ok r.frame 0 1000000)) hc1 (pureF_of Try.func51 (by kernel_rfl) f51b (within_ok r.full 0 1000000)) hc2 (pureF_of Try.func51 (by kernel_rfl) f51b (within_ok r.empty 0 r.full)) hc3 (pureF_of Try.func82 (by kernel_rfl) f82b (spanned_ok r.c)) hc4 (AvLe.of_eq (by rw [h]; try rfl))
          · have h := h.2 (bnF hc4)
            obtain ⟨h1, h⟩ := h
            rcases Bool.eq_false_or_eq_true (r.feet.any footBad) with hc5 | hc5
            · have h := h.1 hc5
              exact p56_0_7 r i ph   hE hc0 (pureF_of Try.func51 (by kernel_rfl) f51b (within_ok r.frame 0 1000000)) hc1 (pureF_of Try.func51 (by kernel_rfl) f51b (within_ok r.full 0 1000000)) hc2 (pureF_of Try.func51 (by kernel_rfl) f51b (within_ok r.empty 0 r.full)) hc3 (pureF_of Try.func82 (by kernel_rfl) f82b (spanned_ok r.c)) hc4 (pureF_of Try.func84 (by kernel_rfl) f84b (any84_ok r.feet h1)) hc5 (AvLe.of_eq (by rw [h]; try rfl))
            · have h := h.2 hc5
              exact p56_0_8 r i ph   hE hc0 (pureF_of Try.func51 (by kernel_rfl) f51b (within_ok r.frame 0 1000000)) hc1 (pureF_of Try.func51 (by kernel_rfl) f51b (within_ok r.full 0 1000000)) hc2 (pureF_of Try.func51 (by kernel_rfl) f51b (within_ok r.empty 0 r.full)) hc3 (pureF_of Try.func82 (by kernel_rfl) f82b (spanned_ok r.c)) hc4 (pureF_of Try.func84 (by kernel_rfl) f84b (any84_ok r.feet h1)) hc5 (h 0)
theorem p56_1_0 (r : Rg) (ph : Nat) (k : Nat) (ls : List (Pt × Pt)) (g2 : Nat) (pe : Pt) (pe1 : Pt)  {E : Env} {rv : AV} (hE : PureE Try.prog 56 rv E) (o0 : (decide (((k : Nat) : Int) < ((r.feet.length : Nat) : Int))) = true) (o2 : 0 ≤ ((k : Nat) : Int) ∧ ((k : Nat) : Int) < ((r.feet.length : Nat) : Int)) (o3 : ((rowP r.feet).drop (0 + (Int.toNat ((k : Nat) : Int)) * 3)).take 3 = [.int .i64 pe.x, .int .i64 pe.y, .int .i64 pe.z]) (o5 : InR .i64 (((k : Nat) : Int) + 1)) (o6 : ((r.feet.length : Nat) : Int) ≠ 0) (o8 : 0 ≤ (Int.tmod (((k : Nat) : Int) + 1) ((r.feet.length : Nat) : Int)) ∧ (Int.tmod (((k : Nat) : Int) + 1) ((r.feet.length : Nat) : Int)) < ((r.feet.length : Nat) : Int)) (o9 : ((rowP r.feet).drop (0 + (Int.toNat (Int.tmod (((k : Nat) : Int) + 1) ((r.feet.length : Nat) : Int))) * 3)).take 3 = [.int .i64 pe1.x, .int .i64 pe1.y, .int .i64 pe1.z]) (o11 : (0 + (ls.length * 6)) = (rowLn ls).length) (o12 : (ls.length + 1) ≤ 2147483648) (o15 : InR .i64 (((k : Nat) : Int) + 1))
    (hg : G Try.prog E (f56K1 Try.prog) ⟨[.junk, .ptr 0 0 0, .junk, .junk, .ptr 1 0 0, .junk, .junk, .junk, .junk, .junk, .junk, .junk, .junk, .junk, .junk, .junk, .junk, .junk, .junk, .junk, .junk, .junk, .junk, .junk, .junk, .junk, .junk, .junk, .junk, .junk, .junk, .junk, .junk, .junk, .junk, .junk, .junk, .junk, .junk, .junk, .junk, .junk, .junk, .junk, .junk, .junk, .junk, .junk, .junk, .junk, .junk, .junk, .junk, .junk, .junk, .junk, .junk, .junk, .junk, .junk, .junk, .junk, .junk, .junk, .junk, .junk, .junk, .junk, .junk, .junk, .junk, .junk, .junk, .junk, .junk, .junk, .junk, .rsl (rowP r.feet) 0 r.feet.length, .int .i64 ((r.feet.length : Nat) : Int), .int .i64 (((k : Nat) : Int) + 1), .junk, .junk, .junk, .junk, .junk, .junk, .junk, .junk, .junk, .junk, .junk, .junk, .junk, .junk, .junk, .junk, .junk, .junk, .junk, .junk, .junk, .junk, .junk, .junk, .junk, .junk, .junk, .junk, .junk], [⟨true, 0, 1, true, [.rsl (rowS r.seats) 0 r.seats.length, .rsl (rowP r.feet) 0 r.feet.length, .int .i64 r.frame, .int .i64 r.c.x, .int .i64 r.c.y, .int .i64 r.c.z, .int .i64 r.empty, .int .i64 r.full], false⟩, ⟨true, 0, 1, false, [.rsl (rowS r.seats) 0 r.seats.length, .rsl (rowP r.feet) 0 r.feet.length, .int .i64 r.frame, .int .i64 r.c.x, .int .i64 r.c.y, .int .i64 r.c.z, .int .i64 r.empty, .int .i64 r.full, .sl 2 (g2 + 1) 0 (ls.length + 1) 6, .int .i64 ((ph : Nat) : Int)], false⟩, ⟨true, (g2 + 1), 6, true, ((rowLn ls) ++ [.int .i64 pe.x, .int .i64 pe.y, .int .i64 pe.z, .int .i64 pe1.x, .int .i64 pe1.y, .int .i64 pe1.z]), true⟩]⟩) : G Try.prog E (f56K1 Try.prog) (f56S1 r ph k ls g2) :=
  segC_step (n := 400) (ds := []) (cs := []) (live := [1, 4, 77, 78, 79]) (m := 3) (evs := [.b true, .ld (.agg [.int .i64 pe.x, .int .i64 pe.y, .int .i64 pe.z]), .auto, .auto, .auto, .auto, .ld (.agg [.int .i64 pe1.x, .int .i64 pe1.y, .int .i64 pe1.z]), .stop]) (obs := [(decide (((k : Nat) : Int) < ((r.feet.length : Nat) : Int))) = true, 0 ≤ ((k : Nat) : Int) ∧ ((k : Nat) : Int) < ((r.feet.length : Nat) : Int), ((rowP r.feet).drop (0 + (Int.toNat ((k : Nat) : Int)) * 3)).take 3 = [.int .i64 pe.x, .int .i64 pe.y, .int .i64 pe.z], 3 ≤ 3, InR .i64 (((k : Nat) : Int) + 1), ((r.feet.length : Nat) : Int) ≠ 0, 0 ≤ (Int.tmod (((k : Nat) : Int) + 1) ((r.feet.length : Nat) : Int)) ∧ (Int.tmod (((k : Nat) : Int) + 1) ((r.feet.length : Nat) : Int)) < ((r.feet.length : Nat) : Int), ((rowP r.feet).drop (0 + (Int.toNat (Int.tmod (((k : Nat) : Int) + 1) ((r.feet.length : Nat) : Int))) * 3)).take 3 = [.int .i64 pe1.x, .int .i64 pe1.y, .int .i64 pe1.z], g2 = g2, (0 + (ls.length * 6)) = (rowLn ls).length, (ls.length + 1) ≤ 2147483648, 0 = 0, 9 ≤ 10, InR .i64 (((k : Nat) : Int) + 1)]) hE.2.1 (hE.nogh _) mixed (by kernel_rfl) ⟨o0, o2, o3, (by decide), o5, o6, o8, o9, (rfl), o11, o12, (rfl), (by decide), o15, trivial⟩ hg
theorem p56_1_1 (r : Rg) (ph : Nat) (k : Nat) (ls : List (Pt × Pt)) (g2 : Nat)  {E : Env} {res : AV} (hE : PureE Try.prog 56 res E) (o0 : (decide (((k : Nat) : Int) < ((r.feet.length : Nat) : Int))) = false) (o1 : PureF Try.prog (.clos 86 [] []) [.rptr [.rsl (rowS r.seats) 0 r.seats.length, .rsl (rowP r.feet) 0 r.feet.length, .int .i64 r.frame, .int .i64 r.c.x, .int .i64 r.c.y, .int .i64 r.c.z, .int .i64 r.empty, .int .i64 r.full, .rsl (rowLn ls) 0 ls.length, .int .i64 ((ph : Nat) : Int)] 0] (.bool (convexV r)))
    (hr : AvLe (.tup [.rptr [.rsl (rowS r.seats) 0 r.seats.length, .rsl (rowP r.feet) 0 r.feet.length, .int .i64 r.frame, .int .i64 r.c.x, .int .i64 r.c.y, .int .i64 r.c.z, .int .i64 r.empty, .int .i64 r.full, .rsl (rowLn ls) 0 ls.length, .int .i64 ((ph : Nat) : Int)] 0, .bool (convexV r)]) res) : G Try.prog E (f56K1 Try.prog) (f56S1 r ph k ls g2) :=
  end_stepL (n := 400) (evs := [.b false, .v (.bool (convexV r))]) (obs := [(decide (((k : Nat) : Int) < ((r.feet.length : Nat) : Int))) = false, PureF Try.prog (.clos 86 [] []) [.rptr [.rsl (rowS r.seats) 0 r.seats.length, .rsl (rowP r.feet) 0 r.feet.length, .int .i64 r.frame, .int .i64 r.c.x, .int .i64 r.c.y, .int .i64 r.c.z, .int .i64 r.empty, .int .i64 r.full, .rsl (rowLn ls) 0 ls.length, .int .i64 ((ph : Nat) : Int)] 0] (.bool (convexV r)), g2 = g2, g2 = g2]) hE Try.func56 mixed (by kernel_rfl) ⟨o0, o1, (rfl), (rfl), trivial⟩ hr
theorem f56W1 (r : Rg) (ph : Nat) (k : Nat) (ls : List (Pt × Pt)) {E : Env} {rv : AV} (hE : PureE Try.prog 56 rv E)
    (h : ((((k : Nat) : Int) < ((r.feet.length : Nat) : Int) → (∃ pe : Pt, r.feet[k]? = some pe ∧ ((-9223372036854775808 ≤ ((k : Nat) : Int) + 1 ∧ ((k : Nat) : Int) + 1 ≤ 9223372036854775807) ∧ (((r.feet.length : Nat) : Int) ≠ 0 ∧ (0 ≤ (Int.tmod (((k : Nat) : Int) + 1) ((r.feet.length : Nat) : Int)) ∧ (∃ pe1 : Pt, r.feet[Int.toNat (Int.tmod (((k : Nat) : Int) + 1) ((r.feet.length : Nat) : Int))]? = some pe1 ∧ ((ls.length + 1) ≤ 2147483648 ∧ ((-9223372036854775808 ≤ ((k : Nat) : Int) + 1 ∧ ((k : Nat) : Int) + 1 ≤ 9223372036854775807) ∧ f56G1 E r ph (k + 1) (ls ++ [(pe, pe1)]))))))))) ∧ (¬ (((k : Nat) : Int) < ((r.feet.length : Nat) : Int)) → ((FeetOk r ∧ ls = linesOf r.feet ∧ ((ph : Nat) : Int) = phasesOf r) ∧ rv = (.tup [.rptr [.rsl (rowS r.seats) 0 r.seats.length, .rsl (rowP r.feet) 0 r.feet.length, .int .i64 r.frame, .int .i64 r.c.x, .int .i64 r.c.y, .int .i64 r.c.z, .int .i64 r.empty, .int .i64 r.full, .rsl (rowLn ls) 0 ls.length, .int .i64 ((ph : Nat) : Int)] 0, .bool (convexV r)]))))) : f56G1 E r ph k ls := by
  intro g2
  rcases Bool.eq_false_or_eq_true (decide (((k : Nat) : Int) < ((r.feet.length : Nat) : Int))) with hc0 | hc0
  · have h := h.1 (of_decide_eq_true hc0)
    obtain ⟨pe, h1, h⟩ := h
    obtain ⟨q5_1, h⟩ := h
    obtain ⟨q6_1, h⟩ := h
    obtain ⟨h3, h⟩ := h
    obtain ⟨pe1, h2, h⟩ := h
    obtain ⟨h4, h⟩ := h
    obtain ⟨q15_1, h⟩ := h
    refine p56_1_0 r ph k ls g2 pe pe1 hE hc0 (idx_ok h1) (row_part cP (s := 3) (k := 0) (m := 3) (fun _ => rfl) (by decide) h1) q5_1 q6_1 (idx_ok' h3 h2) (row_part cP (s := 3) (k := 0) (m := 3) (fun _ => rfl) (by decide) h2) (by have hx := row_len (fun s : Pt × Pt => cP s.1 ++ cP s.2) (s := 6) (fun _ => rfl) ls; simp only [rowLn] at hx ⊢; rw [hx]; simp) h4 q15_1 ?_
    rw [(show rowLn ls ++ [.int .i64 pe.x, .int .i64 pe.y, .int .i64 pe.z, .int .i64 pe1.x, .int .i64 pe1.y, .int .i64 pe1.z] = rowLn (ls ++ [(pe, pe1)]) from (row_app (fun s : Pt × Pt => cP s.1 ++ cP s.2) ls [(pe, pe1)]).symm)]; rw [(show (ls.length + 1) = (ls ++ [(pe, pe1)]).length from by simp)]; exact (h (g2 + 1))
  · have h := h.2 (of_decide_eq_false hc0)
    obtain ⟨h1, h⟩ := h
    exact p56_1_1 r ph k ls g2  hE hc0 (by obtain ⟨a, b, c⟩ := h1; rw [b, c]; exact pureF_of Try.func86 (by kernel_rfl) f86b (convex_ok r a)) (AvLe.of_eq (by rw [h]; try rfl))

structure RigSmall (r : Rg) : Prop where
  seats : r.seats.length ≤ 1000
  feet : r.feet.length ≤ 1000
  each : ∀ s ∈ r.seats, s.length ≤ 1000

def seatOk (r : Rg) (s : List Pt) : Bool := validP s && ((s.length : Int) == ((r.seats.getD 0 []).length : Int))
def rigPre (r : Rg) : Bool := decide ((r.seats.length : Int) ≤ 20) && (within r.feet.length 3 8 && (r.seats.all (seatOk r) && (within r.frame 0 1000000 && (within r.full 0 1000000 && (within r.empty 0 r.full && (spanned r.c && !r.feet.any footBad))))))
def rigOk (r : Rg) : Bool := rigPre r && convexV r
def rigV (r : Rg) : AV := .rptr [.rsl (rowS r.seats) 0 r.seats.length, .rsl (rowP r.feet) 0 r.feet.length, .int .i64 r.frame, .int .i64 r.c.x, .int .i64 r.c.y, .int .i64 r.c.z, .int .i64 r.empty, .int .i64 r.full, .rsl (rowLn (linesOf r.feet)) 0 (linesOf r.feet).length, .int .i64 (phasesOf r)] 0
def newRigX (r : Rg) : AV := bif rigPre r then rigV r else .nilPtr

theorem newRig_bad {r : Rg} {rv : AV} (hr : rv = .tup [newRigX r, .bool (rigOk r)]) (h : rigPre r = false) : rv = .tup [.nilPtr, .bool false] := by
  rw [hr]; simp [newRigX, rigOk, h]

theorem feetOk_of {r : Rg} (h1 : within r.feet.length 3 8 = true) (h2 : r.feet.any footBad = false) : FeetOk r := by
  simp only [within, Bool.and_eq_true, decide_eq_true_eq] at h1
  refine ⟨by omega, by omega, fun p hp => ?_⟩
  have := (List.any_eq_false.1 h2) p hp
  simp only [footBad] at this
  cases hs : spanned p with
  | true => rfl
  | false => simp [hs] at this

theorem linesOf_take {l : List Pt} {k : Nat} {a b : Pt} (ha : l[k]? = some a) (hb : l[(k + 1) % l.length]? = some b) : (linesOf l).take (k + 1) = (linesOf l).take k ++ [(a, b)] := by
  have hk := get_lt ha
  have : (linesOf l)[k]? = some (a, b) := by
    unfold linesOf
    rw [List.getElem?_map]
    have e : (List.range' 0 l.length)[k]? = some k := by simp [hk]
    rw [e]
    simp [List.getD, ha, hb]
  rw [List.take_add_one, this]; rfl

theorem newRig_k {E : Env} {rv : AV} (hE : PureE Try.prog 56 rv E) {r : Rg} (hf : FeetOk r) (hr : rv = .tup [rigV r, .bool (convexV r)]) {ph : Nat} (hph : (ph : Int) = phasesOf r) :
    ∀ (d k : Nat), k + d = r.feet.length → f56G1 E r ph k ((linesOf r.feet).take k)
  | 0, k, hd => by
    have e : (linesOf r.feet).take k = linesOf r.feet := List.take_of_length_le (by rw [linesOf_len]; omega)
    refine f56W1 r ph k _ hE ⟨fun h => by omega, fun _ => ⟨⟨hf, e, hph⟩, ?_⟩⟩
    rw [hr, e, hph]; rfl
  | d + 1, k, hd => by
    have h8 := hf.feet1
    have hk : k < r.feet.length := by omega
    have ha : r.feet[k]? = some r.feet[k] := by simp [hk]
    have hm : (k + 1) % r.feet.length < r.feet.length := Nat.mod_lt _ (by omega)
    have hb : r.feet[(k + 1) % r.feet.length]? = some r.feet[(k + 1) % r.feet.length] := by simp [hm]
    have et : Int.tmod ((k : Int) + 1) (r.feet.length : Int) = (((k + 1) % r.feet.length : Nat) : Int) := by
      rw [Int.tmod_eq_emod_of_nonneg (by omega)]; rfl
    refine f56W1 r ph k _ hE ⟨fun _ => ⟨_, ha, by omega, by omega, by rw [et]; omega, r.feet[(k + 1) % r.feet.length], by rw [et]; exact hb, ?_, by omega, ?_⟩, fun h => by omega⟩
    · rw [List.length_take]; omega
    · rw [← linesOf_take ha hb]; exact newRig_k hE hf hr hph d (k + 1) (by omega)

theorem newRig_i {E : Env} {rv : AV} (hE : PureE Try.prog 56 rv E) {r : Rg} (hs : RigSmall r) (h0 : (r.seats.length : Int) ≤ 20) (hf : within r.feet.length 3 8 = true) (hr : rv = .tup [newRigX r, .bool (rigOk r)]) :
    ∀ (d i ph : Nat), i + d = r.seats.length → (∀ s ∈ r.seats.take i, seatOk r s = true) → (ph : Int) = (match (r.seats.take i).getLast? with | some s => (s.length : Int) | none => 1) → f56G0 E r i ph
  | 0, i, ph, hd, hall, hph => by
    have e : r.seats.take i = r.seats := List.take_of_length_le (by omega)
    rw [e] at hall hph
    have ha : r.seats.all (seatOk r) = true := List.all_eq_true.2 hall
    refine f56W0 r i ph hE ⟨fun h => by omega, fun _ => ⟨fun h => ?_, fun h1 => ⟨fun h => ?_, fun h2 => ⟨fun h => ?_, fun h3 => ⟨fun h => ?_, fun h4 => ⟨hs.feet, fun h => ?_, fun h5 => ?_⟩⟩⟩⟩⟩⟩
    all_goals first | (refine newRig_bad hr ?_; simp [rigPre, *]; done) | skip
    refine newRig_k hE (feetOk_of hf h5) ?_ hph r.feet.length 0 (by omega)
    have hp : rigPre r = true := by simp [rigPre, *]
    rw [hr]; simp [newRigX, rigOk, hp]
  | d + 1, i, ph, hd, hall, hph => by
    have hi : i < r.seats.length := by omega
    have ha : r.seats[i]? = some r.seats[i] := by simp [hi]
    have h00 : r.seats[0]? = some (r.seats.getD 0 []) := by simp [List.getD, show 0 < r.seats.length by omega]
    have hno : ∀ (h : seatOk r r.seats[i] = false), rv = .tup [.nilPtr, .bool false] := fun h => by
      refine newRig_bad hr ?_
      have : r.seats.all (seatOk r) = false := by
        rw [Bool.eq_false_iff]; intro hh
        rw [List.all_eq_true.1 hh _ (List.mem_of_getElem? ha)] at h; cases h
      simp [rigPre, this]
    refine f56W0 r i ph hE ⟨fun _ => ⟨_, ha, hs.each _ (List.mem_of_getElem? ha), fun h => hno (by simp [seatOk, h]), fun h1 => ⟨_, h00, fun h => hno (by simp only [seatOk, h1, Bool.true_and]; simpa using h), fun h2 => ⟨by omega, ?_⟩⟩⟩, fun h => by omega⟩
    have et : r.seats.take (i + 1) = r.seats.take i ++ [r.seats[i]] := by rw [List.take_add_one, ha]; rfl
    refine newRig_i hE hs h0 hf hr d (i + 1) _ (by omega) (fun s h => ?_) ?_
    · rw [et] at h
      rcases List.mem_append.1 h with h | h
      · exact hall s h
      · rw [List.mem_singleton.1 h]; simp only [seatOk, h1, Bool.true_and]; simpa using h2
    · rw [et, List.getLast?_concat]

theorem newRig_ok (r : Rg) (hs : RigSmall r) : Pure Try.prog 56 [.agg [.rsl (rowS r.seats) 0 r.seats.length, .rsl (rowP r.feet) 0 r.feet.length, .int .i64 r.frame, .int .i64 r.c.x, .int .i64 r.c.y, .int .i64 r.c.z, .int .i64 r.empty, .int .i64 r.full]]
    (.tup [newRigX r, .bool (rigOk r)]) := pure_of Try.func56 f56b fun E hE => by
  refine f56W r hE ⟨fun h1 => ?_, fun h1 => ⟨fun h2 => ?_, fun h2 => ?_⟩⟩
  · exact newRig_bad rfl (by have : ¬ ((r.seats.length : Int) ≤ 20) := by omega
                             simp only [rigPre, this]; rfl)
  · exact newRig_bad rfl (by simp [rigPre, h2])
  · exact newRig_i hE hs (by omega) h2 rfl r.seats.length 0 1 (by omega) (by simp) (by simp)

end Go.Proofs.Ytideokfbnegkjaa

/- Force: the least moment. -/
namespace Go.Proofs.Ytideokfbnegkjaa
open Go Ax
open Go.Proofs

def phN (r : Rg) : Nat := (phasesOf r).toNat
structure RigMade (r : Rg) : Prop where
  ok : RgOk r (phN r)
  ph : phasesOf r = (phN r : Nat)
  le : phN r ≤ 60
  pos : 1 ≤ phN r
  conv : convexV r = true

def rigPV (r : Rg) : List (Nat × Nat) := wlP r.feet.length 0 (phN r)

theorem rigOk_made {r : Rg} (h : rigOk r = true) : RigMade r := by
  simp only [rigOk, rigPre, Bool.and_eq_true, decide_eq_true_eq, Bool.not_eq_true'] at h
  obtain ⟨⟨h0, h1, h2, h3, h4, h5, h6, h7⟩, h8⟩ := h
  have hf := feetOk_of h1 h7
  simp only [within, Bool.and_eq_true, decide_eq_true_eq] at h1 h3 h4 h5
  have hall : ∀ s ∈ r.seats, validP s = true ∧ s.length = (r.seats.getD 0 []).length := fun s hs => by
    have := List.all_eq_true.1 h2 s hs
    simp only [seatOk, Bool.and_eq_true, beq_iff_eq] at this
    exact ⟨this.1, by omega⟩
  have hp : (∃ n : Nat, phasesOf r = n ∧ 1 ≤ n ∧ n ≤ 60 ∧ ∀ s ∈ r.seats, s.length = n) := by
    unfold phasesOf
    cases hg : r.seats.getLast? with
    | none =>
      refine ⟨1, rfl, by omega, by omega, fun s hs => ?_⟩
      rw [List.getLast?_eq_none_iff] at hg
      rw [hg] at hs; cases hs
    | some s =>
      have hm := List.mem_of_getLast? hg
      obtain ⟨hv, hl⟩ := hall s hm
      have := valid_len hv
      exact ⟨s.length, rfl, by omega, by omega, fun t ht => by rw [(hall t ht).2, hl]⟩
  obtain ⟨n, p1, p2, p3, p4⟩ := hp
  have hn : phN r = n := by unfold phN; omega
  exact ⟨⟨by omega, fun s hs => ⟨by rw [hn]; exact p4 s hs, (hall s hs).1⟩, hf.feet0, hf.feet1, hf.foot, h6, h3.1, h3.2, h5.1, h5.2, h4.2⟩, by rw [p1, hn], by omega, by omega, h8⟩

theorem newRigX_ok {r : Rg} (h : rigOk r = true) : newRigX r = rigV r := by
  simp only [rigOk, Bool.and_eq_true] at h
  simp only [newRigX, h.1, cond_true]

theorem newRigX_pre {r : Rg} (h : rigPre r = true) : newRigX r = rigV r := by simp only [newRigX, h, cond_true]
theorem newRigX_nil {r : Rg} (h : rigPre r = false) : newRigX r = .nilPtr := by simp only [newRigX, h, cond_false]

theorem worst_it (r : Rg) (h : RigMade r) : IterF Try.prog (.clos 61 [rigV r] []) ((rigPV r).map (argW r)) := worst_iter r (phN r) h.ok h.ph (by have := h.le; omega)

theorem f26b : Try.f26.body = some (bodyAt Try.prog 26) := by kernel_rfl
def f26Kr0 (P : Program) : List Item := kAt 400 [.code (bodyAt P 26)] [.b false]
def f26Sr0 (r : Rg)  (s : Int × Nat × Nat × Bool) : St := ⟨[.junk, .junk, .ptr 1 0 0, .ptr 2 0 0, .ptr 3 0 0, .junk, .junk, .junk, .ptr 4 0 0, .junk, .junk, .junk, .junk, .junk, .junk, .junk, .junk, .junk, .junk, .clos 61 [.rptr [.rsl (rowS r.seats) 0 r.seats.length, .rsl (rowP r.feet) 0 r.feet.length, .int .i64 r.frame, .int .i64 r.c.x, .int .i64 r.c.y, .int .i64 r.c.z, .int .i64 r.empty, .int .i64 r.full, .rsl (rowLn (linesOf r.feet)) 0 ((linesOf r.feet).length), .int .i64 (phasesOf r)] 0] [], .junk, .junk, .junk, .junk, .junk, .junk, .junk, .junk, .junk, .junk, .junk, .junk, .junk, .junk, .junk, .junk, .junk], [⟨true, 0, 1, true, [.rsl (rowS r.seats) 0 r.seats.length, .rsl (rowP r.feet) 0 r.feet.length, .int .i64 r.frame, .int .i64 r.c.x, .int .i64 r.c.y, .int .i64 r.c.z, .int .i64 r.empty, .int .i64 r.full], false⟩, ⟨true, 0, 1, true, [.int .i64 s.1], false⟩, ⟨true, 0, 1, true, [.int .i64 ((s.2.1 : Nat) : Int)], false⟩, ⟨true, 0, 1, true, [.int .i64 ((s.2.2.1 : Nat) : Int)], false⟩, ⟨true, 0, 1, true, [.bool s.2.2.2], false⟩]⟩
def f26Gr0 (E : Env) (r : Rg)  (s : Int × Nat × Nat × Bool) : Prop := G Try.prog E (f26Kr0 Try.prog) (f26Sr0 r  s)
def f26Tr0 (r : Rg)  (s : Int × Nat × Nat × Bool) (x : Nat × Nat) : St := ⟨[.junk, .junk, .ptr 1 0 0, .ptr 2 0 0, .ptr 3 0 0, .junk, .junk, .junk, .ptr 4 0 0, .ptr 5 0 0, .int .i64 (worstV r x), .junk, .junk, .junk, .junk, .junk, .junk, .junk, .junk, .clos 61 [.rptr [.rsl (rowS r.seats) 0 r.seats.length, .rsl (rowP r.feet) 0 r.feet.length, .int .i64 r.frame, .int .i64 r.c.x, .int .i64 r.c.y, .int .i64 r.c.z, .int .i64 r.empty, .int .i64 r.full, .rsl (rowLn (linesOf r.feet)) 0 ((linesOf r.feet).length), .int .i64 (phasesOf r)] 0] [], .agg [.int .i64 ((x.1 : Nat) : Int), .int .i64 ((x.2 : Nat) : Int)], .int .i64 (worstV r x), .junk, .junk, .junk, .junk, .junk, .junk, .junk, .junk, .junk, .junk, .junk, .junk, .junk, .junk, .junk], [⟨true, 0, 1, true, [.rsl (rowS r.seats) 0 r.seats.length, .rsl (rowP r.feet) 0 r.feet.length, .int .i64 r.frame, .int .i64 r.c.x, .int .i64 r.c.y, .int .i64 r.c.z, .int .i64 r.empty, .int .i64 r.full], false⟩, ⟨true, 0, 1, true, [.int .i64 s.1], false⟩, ⟨true, 0, 1, true, [.int .i64 ((s.2.1 : Nat) : Int)], false⟩, ⟨true, 0, 1, true, [.int .i64 ((s.2.2.1 : Nat) : Int)], false⟩, ⟨true, 0, 1, true, [.bool s.2.2.2], false⟩, ⟨true, 0, 1, true, [.int .i64 ((x.1 : Nat) : Int), .int .i64 ((x.2 : Nat) : Int)], false⟩]⟩
theorem p26_start_0 (r : Rg)   {E : Env} {rv : AV} (hE : PureE Try.prog 26 rv E) (o1 : PureF Try.prog (.clos 56 [] []) [.agg [.rsl (rowS r.seats) 0 r.seats.length, .rsl (rowP r.feet) 0 r.feet.length, .int .i64 r.frame, .int .i64 r.c.x, .int .i64 r.c.y, .int .i64 r.c.z, .int .i64 r.empty, .int .i64 r.full]] (.tup [.rptr [.rsl (rowS r.seats) 0 r.seats.length, .rsl (rowP r.feet) 0 r.feet.length, .int .i64 r.frame, .int .i64 r.c.x, .int .i64 r.c.y, .int .i64 r.c.z, .int .i64 r.empty, .int .i64 r.full, .rsl (rowLn (linesOf r.feet)) 0 ((linesOf r.feet).length), .int .i64 (phasesOf r)] 0, .bool true]))
    (hg : G Try.prog E (f26Kr0 Try.prog) ⟨[.junk, .junk, .ptr 1 0 0, .ptr 2 0 0, .ptr 3 0 0, .junk, .junk, .junk, .ptr 4 0 0, .junk, .junk, .junk, .junk, .junk, .junk, .junk, .junk, .junk, .junk, .clos 61 [.rptr [.rsl (rowS r.seats) 0 r.seats.length, .rsl (rowP r.feet) 0 r.feet.length, .int .i64 r.frame, .int .i64 r.c.x, .int .i64 r.c.y, .int .i64 r.c.z, .int .i64 r.empty, .int .i64 r.full, .rsl (rowLn (linesOf r.feet)) 0 ((linesOf r.feet).length), .int .i64 (phasesOf r)] 0] [], .junk, .junk, .junk, .junk, .junk, .junk, .junk, .junk, .junk, .junk, .junk, .junk, .junk, .junk, .junk, .junk, .junk], [⟨true, 0, 1, true, [.rsl (rowS r.seats) 0 r.seats.length, .rsl (rowP r.feet) 0 r.feet.length, .int .i64 r.frame, .int .i64 r.c.x, .int .i64 r.c.y, .int .i64 r.c.z, .int .i64 r.empty, .int .i64 r.full], false⟩, ⟨true, 0, 1, true, [.int .i64 0], false⟩, ⟨true, 0, 1, true, [.int .i64 0], false⟩, ⟨true, 0, 1, true, [.int .i64 0], false⟩, ⟨true, 0, 1, true, [.bool false], false⟩]⟩) : G Try.prog E [.code (bodyAt Try.prog 26)] ⟨[.agg [.rsl (rowS r.seats) 0 r.seats.length, .rsl (rowP r.feet) 0 r.feet.length, .int .i64 r.frame, .int .i64 r.c.x, .int .i64 r.c.y, .int .i64 r.c.z, .int .i64 r.empty, .int .i64 r.full]] ++ unds (Try.f26.ntmps - 1), []⟩ :=
  segC_step (n := 400) (ds := []) (cs := []) (live := [2, 3, 4, 8, 19]) (m := 5) (evs := [.v (.tup [.rptr [.rsl (rowS r.seats) 0 r.seats.length, .rsl (rowP r.feet) 0 r.feet.length, .int .i64 r.frame, .int .i64 r.c.x, .int .i64 r.c.y, .int .i64 r.c.z, .int .i64 r.empty, .int .i64 r.full, .rsl (rowLn (linesOf r.feet)) 0 ((linesOf r.feet).length), .int .i64 (phasesOf r)] 0, .bool true]), .b false]) (obs := [PureF Try.prog (.clos 56 [] []) [.agg [.rsl (rowS r.seats) 0 r.seats.length, .rsl (rowP r.feet) 0 r.feet.length, .int .i64 r.frame, .int .i64 r.c.x, .int .i64 r.c.y, .int .i64 r.c.z, .int .i64 r.empty, .int .i64 r.full]] (.tup [.rptr [.rsl (rowS r.seats) 0 r.seats.length, .rsl (rowP r.feet) 0 r.feet.length, .int .i64 r.frame, .int .i64 r.c.x, .int .i64 r.c.y, .int .i64 r.c.z, .int .i64 r.empty, .int .i64 r.full, .rsl (rowLn (linesOf r.feet)) 0 ((linesOf r.feet).length), .int .i64 (phasesOf r)] 0, .bool true]), false = false, 1 ≤ 1]) hE.2.1 (hE.nogh _) mixed (by kernel_rfl) ⟨o1, (rfl), (by decide), trivial⟩ hg
theorem p26_start_1 (r : Rg)   {E : Env} {res : AV} (hE : PureE Try.prog 26 res E) (o2 : PureF Try.prog (.clos 56 [] []) [.agg [.rsl (rowS r.seats) 0 r.seats.length, .rsl (rowP r.feet) 0 r.feet.length, .int .i64 r.frame, .int .i64 r.c.x, .int .i64 r.c.y, .int .i64 r.c.z, .int .i64 r.empty, .int .i64 r.full]] (.tup [.rptr [.rsl (rowS r.seats) 0 r.seats.length, .rsl (rowP r.feet) 0 r.feet.length, .int .i64 r.frame, .int .i64 r.c.x, .int .i64 r.c.y, .int .i64 r.c.z, .int .i64 r.empty, .int .i64 r.full, .rsl (rowLn (linesOf r.feet)) 0 ((linesOf r.feet).length), .int .i64 (phasesOf r)] 0, .bool false]))
    (hr : AvLe (.tup [.int .i64 0, .int .i64 0, .int .i64 0, .int .i64 33]) res) : G Try.prog E [.code (bodyAt Try.prog 26)] ⟨[.agg [.rsl (rowS r.seats) 0 r.seats.length, .rsl (rowP r.feet) 0 r.feet.length, .int .i64 r.frame, .int .i64 r.c.x, .int .i64 r.c.y, .int .i64 r.c.z, .int .i64 r.empty, .int .i64 r.full]] ++ unds (Try.f26.ntmps - 1), []⟩ :=
  end_stepL (n := 400) (evs := [.v (.tup [.rptr [.rsl (rowS r.seats) 0 r.seats.length, .rsl (rowP r.feet) 0 r.feet.length, .int .i64 r.frame, .int .i64 r.c.x, .int .i64 r.c.y, .int .i64 r.c.z, .int .i64 r.empty, .int .i64 r.full, .rsl (rowLn (linesOf r.feet)) 0 ((linesOf r.feet).length), .int .i64 (phasesOf r)] 0, .bool false]), .b true]) (obs := [PureF Try.prog (.clos 56 [] []) [.agg [.rsl (rowS r.seats) 0 r.seats.length, .rsl (rowP r.feet) 0 r.feet.length, .int .i64 r.frame, .int .i64 r.c.x, .int .i64 r.c.y, .int .i64 r.c.z, .int .i64 r.empty, .int .i64 r.full]] (.tup [.rptr [.rsl (rowS r.seats) 0 r.seats.length, .rsl (rowP r.feet) 0 r.feet.length, .int .i64 r.frame, .int .i64 r.c.x, .int .i64 r.c.y, .int .i64 r.c.z, .int .i64 r.empty, .int .i64 r.full, .rsl (rowLn (linesOf r.feet)) 0 ((linesOf r.feet).length), .int .i64 (phasesOf r)] 0, .bool false]), true = true, 1 ≤ 1, 1 ≤ 1, 1 ≤ 1]) hE Try.func26 mixed (by kernel_rfl) ⟨o2, (rfl), (by decide), (by decide), (by decide), trivial⟩ hr
theorem p26_start_2 (r : Rg)   {E : Env} {res : AV} (hE : PureE Try.prog 26 res E) (o2 : PureF Try.prog (.clos 56 [] []) [.agg [.rsl (rowS r.seats) 0 r.seats.length, .rsl (rowP r.feet) 0 r.feet.length, .int .i64 r.frame, .int .i64 r.c.x, .int .i64 r.c.y, .int .i64 r.c.z, .int .i64 r.empty, .int .i64 r.full]] (.tup [.nilPtr, .bool false]))
    (hr : AvLe (.tup [.int .i64 0, .int .i64 0, .int .i64 0, .int .i64 33]) res) : G Try.prog E [.code (bodyAt Try.prog 26)] ⟨[.agg [.rsl (rowS r.seats) 0 r.seats.length, .rsl (rowP r.feet) 0 r.feet.length, .int .i64 r.frame, .int .i64 r.c.x, .int .i64 r.c.y, .int .i64 r.c.z, .int .i64 r.empty, .int .i64 r.full]] ++ unds (Try.f26.ntmps - 1), []⟩ :=
  end_stepL (n := 400) (evs := [.v (.tup [.nilPtr, .bool false]), .b true]) (obs := [PureF Try.prog (.clos 56 [] []) [.agg [.rsl (rowS r.seats) 0 r.seats.length, .rsl (rowP r.feet) 0 r.feet.length, .int .i64 r.frame, .int .i64 r.c.x, .int .i64 r.c.y, .int .i64 r.c.z, .int .i64 r.empty, .int .i64 r.full]] (.tup [.nilPtr, .bool false]), true = true, 1 ≤ 1, 1 ≤ 1, 1 ≤ 1]) hE Try.func26 mixed (by kernel_rfl) ⟨o2, (rfl), (by decide), (by decide), (by decide), trivial⟩ hr
theorem f26W (r : Rg) {E : Env} {rv : (Int × Int × Int × Int)} (hE : PureE Try.prog 26 (.tup [.int .i64 rv.1, .int .i64 rv.2.1, .int .i64 rv.2.2.1, .int .i64 rv.2.2.2]) E)
    (h : (((rigOk r) = true → ((RigSmall r) ∧ f26Gr0 E r  (0, 0, 0, false))) ∧ ((rigOk r) = false → (((rigPre r) = true → ((RigSmall r) ∧ rv = (0, 0, 0, 33))) ∧ ((rigPre r) = false → ((RigSmall r) ∧ rv = (0, 0, 0, 33))))))) : G Try.prog E [.code (bodyAt Try.prog 26)] ⟨[.agg [.rsl (rowS r.seats) 0 r.seats.length, .rsl (rowP r.feet) 0 r.feet.length, .int .i64 r.frame, .int .i64 r.c.x, .int .i64 r.c.y, .int .i64 r.c.z, .int .i64 r.empty, .int .i64 r.full]] ++ unds (Try.f26.ntmps - 1), []⟩ := by
  rcases Bool.eq_false_or_eq_true (rigOk r) with hc0 | hc0
  · have h := h.1 hc0
    obtain ⟨h1, h⟩ := h
    exact p26_start_0 r    hE (by have hx := newRig_ok r h1; rw [hc0, newRigX_ok hc0] at hx; exact pureF_of Try.func56 (by kernel_rfl) f56b hx) h
  · have h := h.2 hc0
    rcases Bool.eq_false_or_eq_true (rigPre r) with hc1 | hc1
    · have h := h.1 hc1
      obtain ⟨h1, h⟩ := h
      exact p26_start_1 r    hE (by have hx := newRig_ok r h1; rw [hc0, newRigX_pre hc1] at hx; exact pureF_of Try.func56 (by kernel_rfl) f56b hx) (AvLe.of_eq (by rw [h]; try rfl))
    · have h := h.2 hc1
      obtain ⟨h1, h⟩ := h
      exact p26_start_2 r    hE (by have hx := newRig_ok r h1; rw [hc0, newRigX_nil hc1] at hx; exact pureF_of Try.func56 (by kernel_rfl) f56b hx) (AvLe.of_eq (by rw [h]; try rfl))
theorem p26_r0e_0 (r : Rg)  (s : Int × Nat × Nat × Bool)   {E : Env} {res : AV} (hE : PureE Try.prog 26 res E) 
    (hr : AvLe (.tup [.int .i64 s.1, .int .i64 ((s.2.1 : Nat) : Int), .int .i64 ((s.2.2.1 : Nat) : Int), .int .i64 0]) res) : G Try.prog E (rfRest (f26Kr0 Try.prog)) (f26Sr0 r  s) :=
  end_stepL (n := 400) (evs := []) (obs := [1 ≤ 1, 1 ≤ 1, 1 ≤ 1]) hE Try.func26 mixed (by kernel_rfl) ⟨(by decide), (by decide), (by decide), trivial⟩ hr
theorem f26Wr0e (r : Rg)  (s : Int × Nat × Nat × Bool) {E : Env} {rv : (Int × Int × Int × Int)} (hE : PureE Try.prog 26 (.tup [.int .i64 rv.1, .int .i64 rv.2.1, .int .i64 rv.2.2.1, .int .i64 rv.2.2.2]) E)
    (h : rv = (s.1, ((s.2.1 : Nat) : Int), ((s.2.2.1 : Nat) : Int), 0)) : G Try.prog E (rfRest (f26Kr0 Try.prog)) (f26Sr0 r  s) := by
  exact p26_r0e_0 r  s   hE  (AvLe.of_eq (by rw [h]; try rfl))
theorem f26Ar0 (r : Rg)  (s : Int × Nat × Nat × Bool) (x : Nat × Nat) {E : Env} (hE : RoundE (f26Sr0 r  s).tmps E) (hg : G Try.prog E [.beginRound, .code (rfBody (f26Kr0 Try.prog))] (f26Tr0 r  s x)) : G Try.prog E [.code (rfAssign (f26Kr0 Try.prog)), .beginRound, .code (rfBody (f26Kr0 Try.prog))] ⟨putPs (f26Sr0 r  s).tmps [20, 21] ((argW r) x), (f26Sr0 r  s).blks⟩ :=
  segC_step (n := 400) (ds := []) (cs := []) (live := [0, 1, 2, 3, 4, 5, 6, 7, 8, 9, 10, 11, 12, 13, 14, 15, 16, 17, 18, 19, 20, 21, 22, 23, 24, 25, 26, 27, 28, 29, 30, 31, 32, 33, 34, 35, 36]) (m := 6) (evs := []) (obs := [2 ≤ 2]) hE.kind (by rw [hE.gA]; kernel_rfl) mixed (by kernel_rfl) ⟨(by decide), trivial⟩ hg
theorem f26Br0_0 (r : Rg)  (s : Int × Nat × Nat × Bool) (x : Nat × Nat)  {E : Env} (hE : RoundE (f26Sr0 r  s).tmps E) (o0 : (!s.2.2.2) = true)
    (hg : G Try.prog E [] ⟨[.junk, .junk, .junk, .junk, .junk, .junk, .junk, .junk, .junk, .junk, .junk, .junk, .junk, .junk, .junk, .junk, .junk, .junk, .junk, .junk, .junk, .junk, .junk, .junk, .junk, .junk, .junk, .junk, .junk, .junk, .junk, .junk, .junk, .junk, .junk, .junk, .junk], [⟨true, 0, 1, true, [.rsl (rowS r.seats) 0 r.seats.length, .rsl (rowP r.feet) 0 r.feet.length, .int .i64 r.frame, .int .i64 r.c.x, .int .i64 r.c.y, .int .i64 r.c.z, .int .i64 r.empty, .int .i64 r.full], false⟩, ⟨true, 0, 1, true, [.int .i64 (worstV r x)], false⟩, ⟨true, 0, 1, true, [.int .i64 ((x.1 : Nat) : Int)], false⟩, ⟨true, 0, 1, true, [.int .i64 ((x.2 : Nat) : Int)], false⟩, ⟨true, 0, 1, true, [.bool true], false⟩]⟩) : G Try.prog E [.code (rfBody (f26Kr0 Try.prog))] (f26Tr0 r  s x) :=
  segC_step (n := 400) (ds := []) (cs := []) (live := []) (m := 5) (evs := [.b true, .b true]) (obs := [(!s.2.2.2) = true, true = true, (0 : Int) ≤ 0 ∧ (0 : Int) < ((2 : Nat) : Int), (0 : Int) ≤ 1 ∧ (1 : Int) < ((2 : Nat) : Int), 1 ≤ 1, 1 ≤ 1, 1 ≤ 1, 1 ≤ 1]) hE.kind (by rw [hE.gA]; kernel_rfl) mixed (by kernel_rfl) ⟨o0, (rfl), (⟨by decide, by decide⟩), (⟨by decide, by decide⟩), (by decide), (by decide), (by decide), (by decide), trivial⟩ hg
theorem f26Br0_1 (r : Rg)  (s : Int × Nat × Nat × Bool) (x : Nat × Nat)  {E : Env} (hE : RoundE (f26Sr0 r  s).tmps E) (o0 : (!s.2.2.2) = false) (o1 : (decide ((worstV r x) < s.1)) = true)
    (hg : G Try.prog E [] ⟨[.junk, .junk, .junk, .junk, .junk, .junk, .junk, .junk, .junk, .junk, .junk, .junk, .junk, .junk, .junk, .junk, .junk, .junk, .junk, .junk, .junk, .junk, .junk, .junk, .junk, .junk, .junk, .junk, .junk, .junk, .junk, .junk, .junk, .junk, .junk, .junk, .junk], [⟨true, 0, 1, true, [.rsl (rowS r.seats) 0 r.seats.length, .rsl (rowP r.feet) 0 r.feet.length, .int .i64 r.frame, .int .i64 r.c.x, .int .i64 r.c.y, .int .i64 r.c.z, .int .i64 r.empty, .int .i64 r.full], false⟩, ⟨true, 0, 1, true, [.int .i64 (worstV r x)], false⟩, ⟨true, 0, 1, true, [.int .i64 ((x.1 : Nat) : Int)], false⟩, ⟨true, 0, 1, true, [.int .i64 ((x.2 : Nat) : Int)], false⟩, ⟨true, 0, 1, true, [.bool true], false⟩]⟩) : G Try.prog E [.code (rfBody (f26Kr0 Try.prog))] (f26Tr0 r  s x) :=
  segC_step (n := 400) (ds := []) (cs := []) (live := []) (m := 5) (evs := [.b false, .b true]) (obs := [(!s.2.2.2) = false, (decide ((worstV r x) < s.1)) = true, (0 : Int) ≤ 0 ∧ (0 : Int) < ((2 : Nat) : Int), (0 : Int) ≤ 1 ∧ (1 : Int) < ((2 : Nat) : Int), 1 ≤ 1, 1 ≤ 1, 1 ≤ 1, 1 ≤ 1]) hE.kind (by rw [hE.gA]; kernel_rfl) mixed (by kernel_rfl) ⟨o0, o1, (⟨by decide, by decide⟩), (⟨by decide, by decide⟩), (by decide), (by decide), (by decide), (by decide), trivial⟩ hg
theorem f26Br0_2 (r : Rg)  (s : Int × Nat × Nat × Bool) (x : Nat × Nat)  {E : Env} (hE : RoundE (f26Sr0 r  s).tmps E) (o0 : (!s.2.2.2) = false) (o1 : (decide ((worstV r x) < s.1)) = false)
    (hg : G Try.prog E [] ⟨[.junk, .junk, .junk, .junk, .junk, .junk, .junk, .junk, .junk, .junk, .junk, .junk, .junk, .junk, .junk, .junk, .junk, .junk, .junk, .junk, .junk, .junk, .junk, .junk, .junk, .junk, .junk, .junk, .junk, .junk, .junk, .junk, .junk, .junk, .junk, .junk, .junk], [⟨true, 0, 1, true, [.rsl (rowS r.seats) 0 r.seats.length, .rsl (rowP r.feet) 0 r.feet.length, .int .i64 r.frame, .int .i64 r.c.x, .int .i64 r.c.y, .int .i64 r.c.z, .int .i64 r.empty, .int .i64 r.full], false⟩, ⟨true, 0, 1, true, [.int .i64 s.1], false⟩, ⟨true, 0, 1, true, [.int .i64 ((s.2.1 : Nat) : Int)], false⟩, ⟨true, 0, 1, true, [.int .i64 ((s.2.2.1 : Nat) : Int)], false⟩, ⟨true, 0, 1, true, [.bool true], false⟩]⟩) : G Try.prog E [.code (rfBody (f26Kr0 Try.prog))] (f26Tr0 r  s x) :=
  segC_step (n := 400) (ds := []) (cs := []) (live := []) (m := 5) (evs := [.b false, .b false]) (obs := [(!s.2.2.2) = false, (decide ((worstV r x) < s.1)) = false, 1 ≤ 1]) hE.kind (by rw [hE.gA]; kernel_rfl) mixed (by kernel_rfl) ⟨o0, o1, (by decide), trivial⟩ hg
theorem f26Br0 (r : Rg)  (s : Int × Nat × Nat × Bool) (x : Nat × Nat) {rq : (Int × Nat × Nat × Bool) × Bool} {E : Env} (hE : RoundE (f26Sr0 r  s).tmps E) (hQ : RoundR (fun s => (f26Sr0 r  s).blks) (.ret) rq E)
    (h : ((s.2.2.2 = false → rq = (((worstV r x), x.1, x.2, true), true)) ∧ (s.2.2.2 = true → (((worstV r x) < s.1 → rq = (((worstV r x), x.1, x.2, true), true)) ∧ (¬ ((worstV r x) < s.1) → rq = ((s.1, s.2.1, s.2.2.1, true), true)))))) : G Try.prog E [.code (rfBody (f26Kr0 Try.prog))] (f26Tr0 r  s x) := by
  rcases Bool.eq_false_or_eq_true (!s.2.2.2) with hc0 | hc0
  · have h := h.1 (bnT hc0)
    exact f26Br0_0 r  s x  hE hc0 (round_go hQ h rfl)
  · have h := h.2 (bnF hc0)
    rcases Bool.eq_false_or_eq_true (decide ((worstV r x) < s.1)) with hc1 | hc1
    · have h := h.1 (of_decide_eq_true hc1)
      exact f26Br0_1 r  s x  hE hc0 hc1 (round_go hQ h rfl)
    · have h := h.2 (of_decide_eq_false hc1)
      exact f26Br0_2 r  s x  hE hc0 hc1 (round_go hQ h rfl)
theorem f26Rr0 (r : Rg)  (s0 : Int × Nat × Nat × Bool) {E : Env} {rv : (Int × Int × Int × Int)} (hE : PureE Try.prog 26 (.tup [.int .i64 rv.1, .int .i64 rv.2.1, .int .i64 rv.2.2.1, .int .i64 rv.2.2.2]) E) (step : (Int × Nat × Nat × Bool) → (Nat × Nat) → (Int × Nat × Nat × Bool))
    (h : RigMade r ∧ (∀ (i : Nat) (x : Nat × Nat) (s : Int × Nat × Nat × Bool), (rigPV r)[i]? = some x → s = ((rigPV r).take i).foldl step s0 → ((s.2.2.2 = false → step s x = ((worstV r x), x.1, x.2, true)) ∧ (s.2.2.2 = true → (((worstV r x) < s.1 → step s x = ((worstV r x), x.1, x.2, true)) ∧ (¬ ((worstV r x) < s.1) → step s x = (s.1, s.2.1, s.2.2.1, true)))))) ∧ (∀ s : Int × Nat × Nat × Bool, s = (rigPV r).foldl step s0 → rv = (s.1, ((s.2.1 : Nat) : Int), ((s.2.2.1 : Nat) : Int), 0))) : f26Gr0 E r  s0 := by
  have hgA : E.gA = [] := hE.2.2.2.2.1
  have hT : (f26Sr0 r  s0).tmps ++ E.gA = (f26Sr0 r  s0).tmps := by rw [hgA, List.append_nil]
  refine range_fold (σ := Int × Nat × Nat × Bool) (X := Nat × Nat) (arg := (argW r)) (L := (rigPV r)) (jump := .ret) (g := .tmp 19) (ps := #[20, 21]) (fun s => (f26Sr0 r  s).blks) (fun s x => (f26Tr0 r  s x)) (fun s x => (step s x, true)) s0 hE.1 hE.2.1 (by kernel_rfl) rfl rfl (worst_it r h.1) rfl (fun x => rfl) (fun s x E' hR hg => ?_) (fun i x s hx hs E' hR hQ => ?_) (fun s hs => ?_) (fun s hs => ?_)
  · rw [hT] at hR; exact f26Ar0 r  s x hR hg
  · rw [hT] at hR; rw [foldStop_go] at hs; simp only [Prod.mk.injEq, and_true] at hs; refine f26Br0 r  s x hR hQ ?_
    have h := h.2.1 i x s hx hs.symm
    simpa only [Prod.mk.injEq, and_true] using h
  · rw [foldStop_go] at hs; simp only [Prod.mk.injEq, and_true] at hs; exact f26Wr0e r  s hE (h.2.2 s hs.symm)
  · rw [foldStop_go] at hs; simp at hs

def leastStep (r : Rg) (s : Int × Nat × Nat × Bool) (x : Nat × Nat) : Int × Nat × Nat × Bool :=
  bif !s.2.2.2 || decide (worstV r x < s.1) then (worstV r x, x.1, x.2, true) else (s.1, s.2.1, s.2.2.1, true)
def leastF (r : Rg) : Int × Nat × Nat × Bool := (rigPV r).foldl (leastStep r) (0, 0, 0, false)
def leastP (r : Rg) : Int × Int × Int × Int := bif rigOk r then ((leastF r).1, ((leastF r).2.1 : Nat), ((leastF r).2.2.1 : Nat), 0) else (0, 0, 0, 33)

theorem least_ok (r : Rg) (hs : RigSmall r) : Pure Try.prog 26 [.agg [.rsl (rowS r.seats) 0 r.seats.length, .rsl (rowP r.feet) 0 r.feet.length, .int .i64 r.frame, .int .i64 r.c.x, .int .i64 r.c.y, .int .i64 r.c.z, .int .i64 r.empty, .int .i64 r.full]]
    (.tup [.int .i64 (leastP r).1, .int .i64 (leastP r).2.1, .int .i64 (leastP r).2.2.1, .int .i64 (leastP r).2.2.2]) := pure_of Try.func26 f26b fun E hE => by
  refine f26W r hE ⟨fun h => ⟨hs, f26Rr0 r _ hE (leastStep r) ⟨rigOk_made h, fun i x s hx hs => ⟨fun h1 => ?_, fun h1 => ⟨fun h2 => ?_, fun h2 => ?_⟩⟩, fun s hs => ?_⟩⟩, fun h => ⟨fun _ => ⟨hs, ?_⟩, fun _ => ⟨hs, ?_⟩⟩⟩
  · simp [leastStep, h1]
  · simp [leastStep, h1, h2]
  · simp [leastStep, h1, h2]
  · simp only [leastP, h, cond_true, leastF, ← hs]
  · simp [leastP, h]
  · simp [leastP, h]

end Go.Proofs.Ytideokfbnegkjaa

/- Force: the look at an example; the law of Fastest. -/
namespace Go.Proofs.Ytideokfbnegkjaa
open Go Ax
open Go.Proofs

structure Rd where
  m : Mot
  x : Lim
  f : Bool

def exPath : List Pt := [⟨100, 0, 0⟩, ⟨0, 100, 0⟩, ⟨-100, 0, 0⟩, ⟨0, -100, 0⟩]
def exRig : Rg := ⟨[exPath], [⟨-50, -50, 0⟩, ⟨50, -50, 0⟩, ⟨50, 50, 0⟩, ⟨-50, 50, 0⟩], 10, ⟨0, 0, 0⟩, 1, 3⟩

theorem exRig_small : RigSmall exRig := ⟨by decide, by decide, by intro s hs; simp [exRig] at hs; subst hs; decide⟩
theorem ex_least : leastP exRig = (35000, 0, 1, 0) := by kernel_rfl
theorem ex_fast : fastP exPath ⟨2, 1, 2⟩ ⟨300, 0, 2000⟩ false = (1, 0) := by kernel_rfl

theorem f45b : Try.f45.body = some (bodyAt Try.prog 45) := by kernel_rfl
theorem p45_start_0    {E : Env} {res : AV} (hE : PureE Try.prog 45 res E) 
    (hr : AvLe (.rsl [.int .i64 100, .int .i64 0, .int .i64 0, .int .i64 0, .int .i64 100, .int .i64 0, .int .i64 (-100), .int .i64 0, .int .i64 0, .int .i64 0, .int .i64 (-100), .int .i64 0] 0 4) res) : G Try.prog E [.code (bodyAt Try.prog 45)] ⟨[] ++ unds (Try.f45.ntmps - 0), []⟩ :=
  end_stepL (n := 400) (evs := []) (obs := [0 = 0]) hE Try.func45 mixed (by kernel_rfl) ⟨(rfl), trivial⟩ hr
theorem f45W  {E : Env} {rv : (List Pt)} (hE : PureE Try.prog 45 (.rsl (rowP rv) 0 rv.length) E)
    (h : rv = [⟨100, 0, 0⟩, ⟨0, 100, 0⟩, ⟨(-100), 0, 0⟩, ⟨0, (-100), 0⟩]) : G Try.prog E [.code (bodyAt Try.prog 45)] ⟨[] ++ unds (Try.f45.ntmps - 0), []⟩ := by
  exact p45_start_0     hE  (AvLe.of_eq (by rw [h]; try rfl))
theorem exPath_ok : Pure Try.prog 45 [] (.rsl (rowP exPath) 0 exPath.length) := pure_of Try.func45 f45b fun E hE => f45W (rv := exPath) hE rfl
theorem f44b : Try.f44.body = some (bodyAt Try.prog 44) := by kernel_rfl
theorem p44_start_0    {E : Env} {res : AV} (hE : PureE Try.prog 44 res E) (o0 : PureF Try.prog (.clos 45 [] []) [] (.rsl (rowP exPath) 0 exPath.length))
    (hr : AvLe (.agg [.rsl [.rsl (rowP exPath) 0 exPath.length] 0 1, .rsl [.int .i64 (-50), .int .i64 (-50), .int .i64 0, .int .i64 50, .int .i64 (-50), .int .i64 0, .int .i64 50, .int .i64 50, .int .i64 0, .int .i64 (-50), .int .i64 50, .int .i64 0] 0 4, .int .i64 10, .int .i64 0, .int .i64 0, .int .i64 0, .int .i64 1, .int .i64 3]) res) : G Try.prog E [.code (bodyAt Try.prog 44)] ⟨[] ++ unds (Try.f44.ntmps - 0), []⟩ :=
  end_stepL (n := 400) (evs := [.v (.rsl (rowP exPath) 0 exPath.length)]) (obs := [PureF Try.prog (.clos 45 [] []) [] (.rsl (rowP exPath) 0 exPath.length), 8 ≤ 8, 0 = 0, 0 = 0]) hE Try.func44 mixed (by kernel_rfl) ⟨o0, (by decide), (rfl), (rfl), trivial⟩ hr
theorem f44W  {E : Env} {rv : Rg} (hE : PureE Try.prog 44 (.agg [.rsl (rowS rv.seats) 0 rv.seats.length, .rsl (rowP rv.feet) 0 rv.feet.length, .int .i64 rv.frame, .int .i64 rv.c.x, .int .i64 rv.c.y, .int .i64 rv.c.z, .int .i64 rv.empty, .int .i64 rv.full]) E)
    (h : rv = ⟨[exPath], [⟨(-50), (-50), 0⟩, ⟨50, (-50), 0⟩, ⟨50, 50, 0⟩, ⟨(-50), 50, 0⟩], 10, ⟨0, 0, 0⟩, 1, 3⟩) : G Try.prog E [.code (bodyAt Try.prog 44)] ⟨[] ++ unds (Try.f44.ntmps - 0), []⟩ := by
  exact p44_start_0     hE (pureF_of Try.func45 (by kernel_rfl) f45b (exPath_ok )) (AvLe.of_eq (by rw [h]; try rfl))
theorem exRig_ok : Pure Try.prog 44 [] (.agg [.rsl (rowS exRig.seats) 0 exRig.seats.length, .rsl (rowP exRig.feet) 0 exRig.feet.length, .int .i64 exRig.frame, .int .i64 exRig.c.x, .int .i64 exRig.c.y, .int .i64 exRig.c.z, .int .i64 exRig.empty, .int .i64 exRig.full]) := pure_of Try.func44 f44b fun E hE => f44W (rv := exRig) hE rfl
theorem f15b : Try.f15.body = some (bodyAt Try.prog 15) := by kernel_rfl
theorem p15_start_0    {E : Env} {res : AV} (hE : PureE Try.prog 15 res E) (o0 : PureF Try.prog (.clos 44 [] []) [] (.agg [.rsl (rowS exRig.seats) 0 exRig.seats.length, .rsl (rowP exRig.feet) 0 exRig.feet.length, .int .i64 exRig.frame, .int .i64 exRig.c.x, .int .i64 exRig.c.y, .int .i64 exRig.c.z, .int .i64 exRig.empty, .int .i64 exRig.full])) (o1 : PureF Try.prog (.clos 26 [] []) [.agg [.rsl (rowS exRig.seats) 0 exRig.seats.length, .rsl (rowP exRig.feet) 0 exRig.feet.length, .int .i64 exRig.frame, .int .i64 exRig.c.x, .int .i64 exRig.c.y, .int .i64 exRig.c.z, .int .i64 exRig.empty, .int .i64 exRig.full]] (.tup [.int .i64 ((leastP exRig).1), .int .i64 ((leastP exRig).2.1), .int .i64 ((leastP exRig).2.2.1), .int .i64 ((leastP exRig).2.2.2)])) (o2 : PureF Try.prog (.clos 45 [] []) [] (.rsl (rowP exPath) 0 exPath.length)) (o3 : PureF Try.prog (.clos 16 [] []) [.rsl (rowP exPath) 0 exPath.length, .agg [.int .i64 2, .int .i64 1, .int .i64 2], .agg [.int .i64 300, .int .i64 0, .int .i64 2000], .bool false] (.tup [.int .i64 ((fastP exPath (⟨2, 1, 2⟩) (⟨300, 0, 2000⟩) false).1), .int .i64 ((fastP exPath (⟨2, 1, 2⟩) (⟨300, 0, 2000⟩) false).2)])) (o4 : ((leastP exRig).2.2.2 == 0) = true) (o5 : ((fastP exPath (⟨2, 1, 2⟩) (⟨300, 0, 2000⟩) false).2 == 0) = true) (o6 : ((leastP exRig).1 == 35000) = true) (o7 : ((leastP exRig).2.1 == 0) = true) (o8 : ((leastP exRig).2.2.1 == 1) = true)
    (hr : AvLe (.bool ((fastP exPath (⟨2, 1, 2⟩) (⟨300, 0, 2000⟩) false).1 == 1)) res) : G Try.prog E [.code (bodyAt Try.prog 15)] ⟨[] ++ unds (Try.f15.ntmps - 0), []⟩ :=
  end_stepL (n := 400) (evs := [.v (.agg [.rsl (rowS exRig.seats) 0 exRig.seats.length, .rsl (rowP exRig.feet) 0 exRig.feet.length, .int .i64 exRig.frame, .int .i64 exRig.c.x, .int .i64 exRig.c.y, .int .i64 exRig.c.z, .int .i64 exRig.empty, .int .i64 exRig.full]), .v (.tup [.int .i64 ((leastP exRig).1), .int .i64 ((leastP exRig).2.1), .int .i64 ((leastP exRig).2.2.1), .int .i64 ((leastP exRig).2.2.2)]), .v (.rsl (rowP exPath) 0 exPath.length), .v (.tup [.int .i64 ((fastP exPath (⟨2, 1, 2⟩) (⟨300, 0, 2000⟩) false).1), .int .i64 ((fastP exPath (⟨2, 1, 2⟩) (⟨300, 0, 2000⟩) false).2)]), .b true, .b true, .b true, .b true, .b true]) (obs := [PureF Try.prog (.clos 44 [] []) [] (.agg [.rsl (rowS exRig.seats) 0 exRig.seats.length, .rsl (rowP exRig.feet) 0 exRig.feet.length, .int .i64 exRig.frame, .int .i64 exRig.c.x, .int .i64 exRig.c.y, .int .i64 exRig.c.z, .int .i64 exRig.empty, .int .i64 exRig.full]), PureF Try.prog (.clos 26 [] []) [.agg [.rsl (rowS exRig.seats) 0 exRig.seats.length, .rsl (rowP exRig.feet) 0 exRig.feet.length, .int .i64 exRig.frame, .int .i64 exRig.c.x, .int .i64 exRig.c.y, .int .i64 exRig.c.z, .int .i64 exRig.empty, .int .i64 exRig.full]] (.tup [.int .i64 ((leastP exRig).1), .int .i64 ((leastP exRig).2.1), .int .i64 ((leastP exRig).2.2.1), .int .i64 ((leastP exRig).2.2.2)]), PureF Try.prog (.clos 45 [] []) [] (.rsl (rowP exPath) 0 exPath.length), PureF Try.prog (.clos 16 [] []) [.rsl (rowP exPath) 0 exPath.length, .agg [.int .i64 2, .int .i64 1, .int .i64 2], .agg [.int .i64 300, .int .i64 0, .int .i64 2000], .bool false] (.tup [.int .i64 ((fastP exPath (⟨2, 1, 2⟩) (⟨300, 0, 2000⟩) false).1), .int .i64 ((fastP exPath (⟨2, 1, 2⟩) (⟨300, 0, 2000⟩) false).2)]), ((leastP exRig).2.2.2 == 0) = true, ((fastP exPath (⟨2, 1, 2⟩) (⟨300, 0, 2000⟩) false).2 == 0) = true, ((leastP exRig).1 == 35000) = true, ((leastP exRig).2.1 == 0) = true, ((leastP exRig).2.2.1 == 1) = true]) hE Try.func15 mixed (by kernel_rfl) ⟨o0, o1, o2, o3, o4, o5, o6, o7, o8, trivial⟩ hr
theorem p15_start_1    {E : Env} {res : AV} (hE : PureE Try.prog 15 res E) (o0 : PureF Try.prog (.clos 44 [] []) [] (.agg [.rsl (rowS exRig.seats) 0 exRig.seats.length, .rsl (rowP exRig.feet) 0 exRig.feet.length, .int .i64 exRig.frame, .int .i64 exRig.c.x, .int .i64 exRig.c.y, .int .i64 exRig.c.z, .int .i64 exRig.empty, .int .i64 exRig.full])) (o1 : PureF Try.prog (.clos 26 [] []) [.agg [.rsl (rowS exRig.seats) 0 exRig.seats.length, .rsl (rowP exRig.feet) 0 exRig.feet.length, .int .i64 exRig.frame, .int .i64 exRig.c.x, .int .i64 exRig.c.y, .int .i64 exRig.c.z, .int .i64 exRig.empty, .int .i64 exRig.full]] (.tup [.int .i64 ((leastP exRig).1), .int .i64 ((leastP exRig).2.1), .int .i64 ((leastP exRig).2.2.1), .int .i64 ((leastP exRig).2.2.2)])) (o2 : PureF Try.prog (.clos 45 [] []) [] (.rsl (rowP exPath) 0 exPath.length)) (o3 : PureF Try.prog (.clos 16 [] []) [.rsl (rowP exPath) 0 exPath.length, .agg [.int .i64 2, .int .i64 1, .int .i64 2], .agg [.int .i64 300, .int .i64 0, .int .i64 2000], .bool false] (.tup [.int .i64 ((fastP exPath (⟨2, 1, 2⟩) (⟨300, 0, 2000⟩) false).1), .int .i64 ((fastP exPath (⟨2, 1, 2⟩) (⟨300, 0, 2000⟩) false).2)])) (o4 : ((leastP exRig).2.2.2 == 0) = true) (o5 : ((fastP exPath (⟨2, 1, 2⟩) (⟨300, 0, 2000⟩) false).2 == 0) = true) (o6 : ((leastP exRig).1 == 35000) = true) (o7 : ((leastP exRig).2.1 == 0) = true) (o8 : ((leastP exRig).2.2.1 == 1) = false)
    (hr : AvLe (.bool false) res) : G Try.prog E [.code (bodyAt Try.prog 15)] ⟨[] ++ unds (Try.f15.ntmps - 0), []⟩ :=
  end_stepL (n := 400) (evs := [.v (.agg [.rsl (rowS exRig.seats) 0 exRig.seats.length, .rsl (rowP exRig.feet) 0 exRig.feet.length, .int .i64 exRig.frame, .int .i64 exRig.c.x, .int .i64 exRig.c.y, .int .i64 exRig.c.z, .int .i64 exRig.empty, .int .i64 exRig.full]), .v (.tup [.int .i64 ((leastP exRig).1), .int .i64 ((leastP exRig).2.1), .int .i64 ((leastP exRig).2.2.1), .int .i64 ((leastP exRig).2.2.2)]), .v (.rsl (rowP exPath) 0 exPath.length), .v (.tup [.int .i64 ((fastP exPath (⟨2, 1, 2⟩) (⟨300, 0, 2000⟩) false).1), .int .i64 ((fastP exPath (⟨2, 1, 2⟩) (⟨300, 0, 2000⟩) false).2)]), .b true, .b true, .b true, .b true, .b false]) (obs := [PureF Try.prog (.clos 44 [] []) [] (.agg [.rsl (rowS exRig.seats) 0 exRig.seats.length, .rsl (rowP exRig.feet) 0 exRig.feet.length, .int .i64 exRig.frame, .int .i64 exRig.c.x, .int .i64 exRig.c.y, .int .i64 exRig.c.z, .int .i64 exRig.empty, .int .i64 exRig.full]), PureF Try.prog (.clos 26 [] []) [.agg [.rsl (rowS exRig.seats) 0 exRig.seats.length, .rsl (rowP exRig.feet) 0 exRig.feet.length, .int .i64 exRig.frame, .int .i64 exRig.c.x, .int .i64 exRig.c.y, .int .i64 exRig.c.z, .int .i64 exRig.empty, .int .i64 exRig.full]] (.tup [.int .i64 ((leastP exRig).1), .int .i64 ((leastP exRig).2.1), .int .i64 ((leastP exRig).2.2.1), .int .i64 ((leastP exRig).2.2.2)]), PureF Try.prog (.clos 45 [] []) [] (.rsl (rowP exPath) 0 exPath.length), PureF Try.prog (.clos 16 [] []) [.rsl (rowP exPath) 0 exPath.length, .agg [.int .i64 2, .int .i64 1, .int .i64 2], .agg [.int .i64 300, .int .i64 0, .int .i64 2000], .bool false] (.tup [.int .i64 ((fastP exPath (⟨2, 1, 2⟩) (⟨300, 0, 2000⟩) false).1), .int .i64 ((fastP exPath (⟨2, 1, 2⟩) (⟨300, 0, 2000⟩) false).2)]), ((leastP exRig).2.2.2 == 0) = true, ((fastP exPath (⟨2, 1, 2⟩) (⟨300, 0, 2000⟩) false).2 == 0) = true, ((leastP exRig).1 == 35000) = true, ((leastP exRig).2.1 == 0) = true, ((leastP exRig).2.2.1 == 1) = false]) hE Try.func15 mixed (by kernel_rfl) ⟨o0, o1, o2, o3, o4, o5, o6, o7, o8, trivial⟩ hr
theorem p15_start_2    {E : Env} {res : AV} (hE : PureE Try.prog 15 res E) (o0 : PureF Try.prog (.clos 44 [] []) [] (.agg [.rsl (rowS exRig.seats) 0 exRig.seats.length, .rsl (rowP exRig.feet) 0 exRig.feet.length, .int .i64 exRig.frame, .int .i64 exRig.c.x, .int .i64 exRig.c.y, .int .i64 exRig.c.z, .int .i64 exRig.empty, .int .i64 exRig.full])) (o1 : PureF Try.prog (.clos 26 [] []) [.agg [.rsl (rowS exRig.seats) 0 exRig.seats.length, .rsl (rowP exRig.feet) 0 exRig.feet.length, .int .i64 exRig.frame, .int .i64 exRig.c.x, .int .i64 exRig.c.y, .int .i64 exRig.c.z, .int .i64 exRig.empty, .int .i64 exRig.full]] (.tup [.int .i64 ((leastP exRig).1), .int .i64 ((leastP exRig).2.1), .int .i64 ((leastP exRig).2.2.1), .int .i64 ((leastP exRig).2.2.2)])) (o2 : PureF Try.prog (.clos 45 [] []) [] (.rsl (rowP exPath) 0 exPath.length)) (o3 : PureF Try.prog (.clos 16 [] []) [.rsl (rowP exPath) 0 exPath.length, .agg [.int .i64 2, .int .i64 1, .int .i64 2], .agg [.int .i64 300, .int .i64 0, .int .i64 2000], .bool false] (.tup [.int .i64 ((fastP exPath (⟨2, 1, 2⟩) (⟨300, 0, 2000⟩) false).1), .int .i64 ((fastP exPath (⟨2, 1, 2⟩) (⟨300, 0, 2000⟩) false).2)])) (o4 : ((leastP exRig).2.2.2 == 0) = true) (o5 : ((fastP exPath (⟨2, 1, 2⟩) (⟨300, 0, 2000⟩) false).2 == 0) = true) (o6 : ((leastP exRig).1 == 35000) = true) (o7 : ((leastP exRig).2.1 == 0) = false)
    (hr : AvLe (.bool false) res) : G Try.prog E [.code (bodyAt Try.prog 15)] ⟨[] ++ unds (Try.f15.ntmps - 0), []⟩ :=
  end_stepL (n := 400) (evs := [.v (.agg [.rsl (rowS exRig.seats) 0 exRig.seats.length, .rsl (rowP exRig.feet) 0 exRig.feet.length, .int .i64 exRig.frame, .int .i64 exRig.c.x, .int .i64 exRig.c.y, .int .i64 exRig.c.z, .int .i64 exRig.empty, .int .i64 exRig.full]), .v (.tup [.int .i64 ((leastP exRig).1), .int .i64 ((leastP exRig).2.1), .int .i64 ((leastP exRig).2.2.1), .int .i64 ((leastP exRig).2.2.2)]), .v (.rsl (rowP exPath) 0 exPath.length), .v (.tup [.int .i64 ((fastP exPath (⟨2, 1, 2⟩) (⟨300, 0, 2000⟩) false).1), .int .i64 ((fastP exPath (⟨2, 1, 2⟩) (⟨300, 0, 2000⟩) false).2)]), .b true, .b true, .b true, .b false, .b false]) (obs := [PureF Try.prog (.clos 44 [] []) [] (.agg [.rsl (rowS exRig.seats) 0 exRig.seats.length, .rsl (rowP exRig.feet) 0 exRig.feet.length, .int .i64 exRig.frame, .int .i64 exRig.c.x, .int .i64 exRig.c.y, .int .i64 exRig.c.z, .int .i64 exRig.empty, .int .i64 exRig.full]), PureF Try.prog (.clos 26 [] []) [.agg [.rsl (rowS exRig.seats) 0 exRig.seats.length, .rsl (rowP exRig.feet) 0 exRig.feet.length, .int .i64 exRig.frame, .int .i64 exRig.c.x, .int .i64 exRig.c.y, .int .i64 exRig.c.z, .int .i64 exRig.empty, .int .i64 exRig.full]] (.tup [.int .i64 ((leastP exRig).1), .int .i64 ((leastP exRig).2.1), .int .i64 ((leastP exRig).2.2.1), .int .i64 ((leastP exRig).2.2.2)]), PureF Try.prog (.clos 45 [] []) [] (.rsl (rowP exPath) 0 exPath.length), PureF Try.prog (.clos 16 [] []) [.rsl (rowP exPath) 0 exPath.length, .agg [.int .i64 2, .int .i64 1, .int .i64 2], .agg [.int .i64 300, .int .i64 0, .int .i64 2000], .bool false] (.tup [.int .i64 ((fastP exPath (⟨2, 1, 2⟩) (⟨300, 0, 2000⟩) false).1), .int .i64 ((fastP exPath (⟨2, 1, 2⟩) (⟨300, 0, 2000⟩) false).2)]), ((leastP exRig).2.2.2 == 0) = true, ((fastP exPath (⟨2, 1, 2⟩) (⟨300, 0, 2000⟩) false).2 == 0) = true, ((leastP exRig).1 == 35000) = true, ((leastP exRig).2.1 == 0) = false, false = false]) hE Try.func15 mixed (by kernel_rfl) ⟨o0, o1, o2, o3, o4, o5, o6, o7, (rfl), trivial⟩ hr
theorem p15_start_3    {E : Env} {res : AV} (hE : PureE Try.prog 15 res E) (o0 : PureF Try.prog (.clos 44 [] []) [] (.agg [.rsl (rowS exRig.seats) 0 exRig.seats.length, .rsl (rowP exRig.feet) 0 exRig.feet.length, .int .i64 exRig.frame, .int .i64 exRig.c.x, .int .i64 exRig.c.y, .int .i64 exRig.c.z, .int .i64 exRig.empty, .int .i64 exRig.full])) (o1 : PureF Try.prog (.clos 26 [] []) [.agg [.rsl (rowS exRig.seats) 0 exRig.seats.length, .rsl (rowP exRig.feet) 0 exRig.feet.length, .int .i64 exRig.frame, .int .i64 exRig.c.x, .int .i64 exRig.c.y, .int .i64 exRig.c.z, .int .i64 exRig.empty, .int .i64 exRig.full]] (.tup [.int .i64 ((leastP exRig).1), .int .i64 ((leastP exRig).2.1), .int .i64 ((leastP exRig).2.2.1), .int .i64 ((leastP exRig).2.2.2)])) (o2 : PureF Try.prog (.clos 45 [] []) [] (.rsl (rowP exPath) 0 exPath.length)) (o3 : PureF Try.prog (.clos 16 [] []) [.rsl (rowP exPath) 0 exPath.length, .agg [.int .i64 2, .int .i64 1, .int .i64 2], .agg [.int .i64 300, .int .i64 0, .int .i64 2000], .bool false] (.tup [.int .i64 ((fastP exPath (⟨2, 1, 2⟩) (⟨300, 0, 2000⟩) false).1), .int .i64 ((fastP exPath (⟨2, 1, 2⟩) (⟨300, 0, 2000⟩) false).2)])) (o4 : ((leastP exRig).2.2.2 == 0) = true) (o5 : ((fastP exPath (⟨2, 1, 2⟩) (⟨300, 0, 2000⟩) false).2 == 0) = true) (o6 : ((leastP exRig).1 == 35000) = false)
    (hr : AvLe (.bool false) res) : G Try.prog E [.code (bodyAt Try.prog 15)] ⟨[] ++ unds (Try.f15.ntmps - 0), []⟩ :=
  end_stepL (n := 400) (evs := [.v (.agg [.rsl (rowS exRig.seats) 0 exRig.seats.length, .rsl (rowP exRig.feet) 0 exRig.feet.length, .int .i64 exRig.frame, .int .i64 exRig.c.x, .int .i64 exRig.c.y, .int .i64 exRig.c.z, .int .i64 exRig.empty, .int .i64 exRig.full]), .v (.tup [.int .i64 ((leastP exRig).1), .int .i64 ((leastP exRig).2.1), .int .i64 ((leastP exRig).2.2.1), .int .i64 ((leastP exRig).2.2.2)]), .v (.rsl (rowP exPath) 0 exPath.length), .v (.tup [.int .i64 ((fastP exPath (⟨2, 1, 2⟩) (⟨300, 0, 2000⟩) false).1), .int .i64 ((fastP exPath (⟨2, 1, 2⟩) (⟨300, 0, 2000⟩) false).2)]), .b true, .b true, .b false, .b false, .b false]) (obs := [PureF Try.prog (.clos 44 [] []) [] (.agg [.rsl (rowS exRig.seats) 0 exRig.seats.length, .rsl (rowP exRig.feet) 0 exRig.feet.length, .int .i64 exRig.frame, .int .i64 exRig.c.x, .int .i64 exRig.c.y, .int .i64 exRig.c.z, .int .i64 exRig.empty, .int .i64 exRig.full]), PureF Try.prog (.clos 26 [] []) [.agg [.rsl (rowS exRig.seats) 0 exRig.seats.length, .rsl (rowP exRig.feet) 0 exRig.feet.length, .int .i64 exRig.frame, .int .i64 exRig.c.x, .int .i64 exRig.c.y, .int .i64 exRig.c.z, .int .i64 exRig.empty, .int .i64 exRig.full]] (.tup [.int .i64 ((leastP exRig).1), .int .i64 ((leastP exRig).2.1), .int .i64 ((leastP exRig).2.2.1), .int .i64 ((leastP exRig).2.2.2)]), PureF Try.prog (.clos 45 [] []) [] (.rsl (rowP exPath) 0 exPath.length), PureF Try.prog (.clos 16 [] []) [.rsl (rowP exPath) 0 exPath.length, .agg [.int .i64 2, .int .i64 1, .int .i64 2], .agg [.int .i64 300, .int .i64 0, .int .i64 2000], .bool false] (.tup [.int .i64 ((fastP exPath (⟨2, 1, 2⟩) (⟨300, 0, 2000⟩) false).1), .int .i64 ((fastP exPath (⟨2, 1, 2⟩) (⟨300, 0, 2000⟩) false).2)]), ((leastP exRig).2.2.2 == 0) = true, ((fastP exPath (⟨2, 1, 2⟩) (⟨300, 0, 2000⟩) false).2 == 0) = true, ((leastP exRig).1 == 35000) = false, false = false, false = false]) hE Try.func15 mixed (by kernel_rfl) ⟨o0, o1, o2, o3, o4, o5, o6, (rfl), (rfl), trivial⟩ hr
theorem p15_start_4    {E : Env} {res : AV} (hE : PureE Try.prog 15 res E) (o0 : PureF Try.prog (.clos 44 [] []) [] (.agg [.rsl (rowS exRig.seats) 0 exRig.seats.length, .rsl (rowP exRig.feet) 0 exRig.feet.length, .int .i64 exRig.frame, .int .i64 exRig.c.x, .int .i64 exRig.c.y, .int .i64 exRig.c.z, .int .i64 exRig.empty, .int .i64 exRig.full])) (o1 : PureF Try.prog (.clos 26 [] []) [.agg [.rsl (rowS exRig.seats) 0 exRig.seats.length, .rsl (rowP exRig.feet) 0 exRig.feet.length, .int .i64 exRig.frame, .int .i64 exRig.c.x, .int .i64 exRig.c.y, .int .i64 exRig.c.z, .int .i64 exRig.empty, .int .i64 exRig.full]] (.tup [.int .i64 ((leastP exRig).1), .int .i64 ((leastP exRig).2.1), .int .i64 ((leastP exRig).2.2.1), .int .i64 ((leastP exRig).2.2.2)])) (o2 : PureF Try.prog (.clos 45 [] []) [] (.rsl (rowP exPath) 0 exPath.length)) (o3 : PureF Try.prog (.clos 16 [] []) [.rsl (rowP exPath) 0 exPath.length, .agg [.int .i64 2, .int .i64 1, .int .i64 2], .agg [.int .i64 300, .int .i64 0, .int .i64 2000], .bool false] (.tup [.int .i64 ((fastP exPath (⟨2, 1, 2⟩) (⟨300, 0, 2000⟩) false).1), .int .i64 ((fastP exPath (⟨2, 1, 2⟩) (⟨300, 0, 2000⟩) false).2)])) (o4 : ((leastP exRig).2.2.2 == 0) = true) (o5 : ((fastP exPath (⟨2, 1, 2⟩) (⟨300, 0, 2000⟩) false).2 == 0) = false)
    (hr : AvLe (.bool false) res) : G Try.prog E [.code (bodyAt Try.prog 15)] ⟨[] ++ unds (Try.f15.ntmps - 0), []⟩ :=
  end_stepL (n := 400) (evs := [.v (.agg [.rsl (rowS exRig.seats) 0 exRig.seats.length, .rsl (rowP exRig.feet) 0 exRig.feet.length, .int .i64 exRig.frame, .int .i64 exRig.c.x, .int .i64 exRig.c.y, .int .i64 exRig.c.z, .int .i64 exRig.empty, .int .i64 exRig.full]), .v (.tup [.int .i64 ((leastP exRig).1), .int .i64 ((leastP exRig).2.1), .int .i64 ((leastP exRig).2.2.1), .int .i64 ((leastP exRig).2.2.2)]), .v (.rsl (rowP exPath) 0 exPath.length), .v (.tup [.int .i64 ((fastP exPath (⟨2, 1, 2⟩) (⟨300, 0, 2000⟩) false).1), .int .i64 ((fastP exPath (⟨2, 1, 2⟩) (⟨300, 0, 2000⟩) false).2)]), .b true, .b false, .b false, .b false, .b false]) (obs := [PureF Try.prog (.clos 44 [] []) [] (.agg [.rsl (rowS exRig.seats) 0 exRig.seats.length, .rsl (rowP exRig.feet) 0 exRig.feet.length, .int .i64 exRig.frame, .int .i64 exRig.c.x, .int .i64 exRig.c.y, .int .i64 exRig.c.z, .int .i64 exRig.empty, .int .i64 exRig.full]), PureF Try.prog (.clos 26 [] []) [.agg [.rsl (rowS exRig.seats) 0 exRig.seats.length, .rsl (rowP exRig.feet) 0 exRig.feet.length, .int .i64 exRig.frame, .int .i64 exRig.c.x, .int .i64 exRig.c.y, .int .i64 exRig.c.z, .int .i64 exRig.empty, .int .i64 exRig.full]] (.tup [.int .i64 ((leastP exRig).1), .int .i64 ((leastP exRig).2.1), .int .i64 ((leastP exRig).2.2.1), .int .i64 ((leastP exRig).2.2.2)]), PureF Try.prog (.clos 45 [] []) [] (.rsl (rowP exPath) 0 exPath.length), PureF Try.prog (.clos 16 [] []) [.rsl (rowP exPath) 0 exPath.length, .agg [.int .i64 2, .int .i64 1, .int .i64 2], .agg [.int .i64 300, .int .i64 0, .int .i64 2000], .bool false] (.tup [.int .i64 ((fastP exPath (⟨2, 1, 2⟩) (⟨300, 0, 2000⟩) false).1), .int .i64 ((fastP exPath (⟨2, 1, 2⟩) (⟨300, 0, 2000⟩) false).2)]), ((leastP exRig).2.2.2 == 0) = true, ((fastP exPath (⟨2, 1, 2⟩) (⟨300, 0, 2000⟩) false).2 == 0) = false, false = false, false = false, false = false]) hE Try.func15 mixed (by kernel_rfl) ⟨o0, o1, o2, o3, o4, o5, (rfl), (rfl), (rfl), trivial⟩ hr
theorem p15_start_5    {E : Env} {res : AV} (hE : PureE Try.prog 15 res E) (o0 : PureF Try.prog (.clos 44 [] []) [] (.agg [.rsl (rowS exRig.seats) 0 exRig.seats.length, .rsl (rowP exRig.feet) 0 exRig.feet.length, .int .i64 exRig.frame, .int .i64 exRig.c.x, .int .i64 exRig.c.y, .int .i64 exRig.c.z, .int .i64 exRig.empty, .int .i64 exRig.full])) (o1 : PureF Try.prog (.clos 26 [] []) [.agg [.rsl (rowS exRig.seats) 0 exRig.seats.length, .rsl (rowP exRig.feet) 0 exRig.feet.length, .int .i64 exRig.frame, .int .i64 exRig.c.x, .int .i64 exRig.c.y, .int .i64 exRig.c.z, .int .i64 exRig.empty, .int .i64 exRig.full]] (.tup [.int .i64 ((leastP exRig).1), .int .i64 ((leastP exRig).2.1), .int .i64 ((leastP exRig).2.2.1), .int .i64 ((leastP exRig).2.2.2)])) (o2 : PureF Try.prog (.clos 45 [] []) [] (.rsl (rowP exPath) 0 exPath.length)) (o3 : PureF Try.prog (.clos 16 [] []) [.rsl (rowP exPath) 0 exPath.length, .agg [.int .i64 2, .int .i64 1, .int .i64 2], .agg [.int .i64 300, .int .i64 0, .int .i64 2000], .bool false] (.tup [.int .i64 ((fastP exPath (⟨2, 1, 2⟩) (⟨300, 0, 2000⟩) false).1), .int .i64 ((fastP exPath (⟨2, 1, 2⟩) (⟨300, 0, 2000⟩) false).2)])) (o4 : ((leastP exRig).2.2.2 == 0) = false)
    (hr : AvLe (.bool false) res) : G Try.prog E [.code (bodyAt Try.prog 15)] ⟨[] ++ unds (Try.f15.ntmps - 0), []⟩ :=
  end_stepL (n := 400) (evs := [.v (.agg [.rsl (rowS exRig.seats) 0 exRig.seats.length, .rsl (rowP exRig.feet) 0 exRig.feet.length, .int .i64 exRig.frame, .int .i64 exRig.c.x, .int .i64 exRig.c.y, .int .i64 exRig.c.z, .int .i64 exRig.empty, .int .i64 exRig.full]), .v (.tup [.int .i64 ((leastP exRig).1), .int .i64 ((leastP exRig).2.1), .int .i64 ((leastP exRig).2.2.1), .int .i64 ((leastP exRig).2.2.2)]), .v (.rsl (rowP exPath) 0 exPath.length), .v (.tup [.int .i64 ((fastP exPath (⟨2, 1, 2⟩) (⟨300, 0, 2000⟩) false).1), .int .i64 ((fastP exPath (⟨2, 1, 2⟩) (⟨300, 0, 2000⟩) false).2)]), .b false, .b false, .b false, .b false, .b false]) (obs := [PureF Try.prog (.clos 44 [] []) [] (.agg [.rsl (rowS exRig.seats) 0 exRig.seats.length, .rsl (rowP exRig.feet) 0 exRig.feet.length, .int .i64 exRig.frame, .int .i64 exRig.c.x, .int .i64 exRig.c.y, .int .i64 exRig.c.z, .int .i64 exRig.empty, .int .i64 exRig.full]), PureF Try.prog (.clos 26 [] []) [.agg [.rsl (rowS exRig.seats) 0 exRig.seats.length, .rsl (rowP exRig.feet) 0 exRig.feet.length, .int .i64 exRig.frame, .int .i64 exRig.c.x, .int .i64 exRig.c.y, .int .i64 exRig.c.z, .int .i64 exRig.empty, .int .i64 exRig.full]] (.tup [.int .i64 ((leastP exRig).1), .int .i64 ((leastP exRig).2.1), .int .i64 ((leastP exRig).2.2.1), .int .i64 ((leastP exRig).2.2.2)]), PureF Try.prog (.clos 45 [] []) [] (.rsl (rowP exPath) 0 exPath.length), PureF Try.prog (.clos 16 [] []) [.rsl (rowP exPath) 0 exPath.length, .agg [.int .i64 2, .int .i64 1, .int .i64 2], .agg [.int .i64 300, .int .i64 0, .int .i64 2000], .bool false] (.tup [.int .i64 ((fastP exPath (⟨2, 1, 2⟩) (⟨300, 0, 2000⟩) false).1), .int .i64 ((fastP exPath (⟨2, 1, 2⟩) (⟨300, 0, 2000⟩) false).2)]), ((leastP exRig).2.2.2 == 0) = false, false = false, false = false, false = false, false = false]) hE Try.func15 mixed (by kernel_rfl) ⟨o0, o1, o2, o3, o4, (rfl), (rfl), (rfl), (rfl), trivial⟩ hr
theorem f15W  {E : Env} {rv : Bool} (hE : PureE Try.prog 15 (.bool rv) E)
    (h : ((RigSmall exRig) ∧ ((exPath.length ≤ 1000) ∧ (((leastP exRig).2.2.2 = 0 → (((fastP exPath (⟨2, 1, 2⟩) (⟨300, 0, 2000⟩) false).2 = 0 → (((leastP exRig).1 = 35000 → (((leastP exRig).2.1 = 0 → (((leastP exRig).2.2.1 = 1 → rv = ((fastP exPath (⟨2, 1, 2⟩) (⟨300, 0, 2000⟩) false).1 == 1)) ∧ (¬ ((leastP exRig).2.2.1 = 1) → rv = false))) ∧ (¬ ((leastP exRig).2.1 = 0) → rv = false))) ∧ (¬ ((leastP exRig).1 = 35000) → rv = false))) ∧ (¬ ((fastP exPath (⟨2, 1, 2⟩) (⟨300, 0, 2000⟩) false).2 = 0) → rv = false))) ∧ (¬ ((leastP exRig).2.2.2 = 0) → rv = false))))) : G Try.prog E [.code (bodyAt Try.prog 15)] ⟨[] ++ unds (Try.f15.ntmps - 0), []⟩ := by
  obtain ⟨h1, h⟩ := h
  obtain ⟨h2, h⟩ := h
  rcases Bool.eq_false_or_eq_true ((leastP exRig).2.2.2 == 0) with hc0 | hc0
  · have h := h.1 (eq_of_beq hc0)
    rcases Bool.eq_false_or_eq_true ((fastP exPath (⟨2, 1, 2⟩) (⟨300, 0, 2000⟩) false).2 == 0) with hc1 | hc1
    · have h := h.1 (eq_of_beq hc1)
      rcases Bool.eq_false_or_eq_true ((leastP exRig).1 == 35000) with hc2 | hc2
      · have h := h.1 (eq_of_beq hc2)
        rcases Bool.eq_false_or_eq_true ((leastP exRig).2.1 == 0) with hc3 | hc3
        · have h := h.1 (eq_of_beq hc3)
          rcases Bool.eq_false_or_eq_true ((leastP exRig).2.2.1 == 1) with hc4 | hc4
          · have h := h.1 (eq_of_beq hc4)
            exact p15_start_0     hE (pureF_of Try.func44 (by kernel_rfl) f44b (exRig_ok )) (pureF_of Try.func26 (by kernel_rfl) f26b (least_ok exRig h1)) (pureF_of Try.func45 (by kernel_rfl) f45b (exPath_ok )) (pureF_of Try.func16 (by kernel_rfl) f16b (fastest_ok exPath (⟨2, 1, 2⟩) (⟨300, 0, 2000⟩) false h2)) hc0 hc1 hc2 hc3 hc4 (AvLe.of_eq (by rw [h]; try rfl))
          · have h := h.2 (ne_of_beq_false hc4)
            exact p15_start_1     hE (pureF_of Try.func44 (by kernel_rfl) f44b (exRig_ok )) (pureF_of Try.func26 (by kernel_rfl) f26b (least_ok exRig h1)) (pureF_of Try.func45 (by kernel_rfl) f45b (exPath_ok )) (pureF_of Try.func16 (by kernel_rfl) f16b (fastest_ok exPath (⟨2, 1, 2⟩) (⟨300, 0, 2000⟩) false h2)) hc0 hc1 hc2 hc3 hc4 (AvLe.of_eq (by rw [h]; try rfl))
        · have h := h.2 (ne_of_beq_false hc3)
          exact p15_start_2     hE (pureF_of Try.func44 (by kernel_rfl) f44b (exRig_ok )) (pureF_of Try.func26 (by kernel_rfl) f26b (least_ok exRig h1)) (pureF_of Try.func45 (by kernel_rfl) f45b (exPath_ok )) (pureF_of Try.func16 (by kernel_rfl) f16b (fastest_ok exPath (⟨2, 1, 2⟩) (⟨300, 0, 2000⟩) false h2)) hc0 hc1 hc2 hc3 (AvLe.of_eq (by rw [h]; try rfl))
      · have h := h.2 (ne_of_beq_false hc2)
        exact p15_start_3     hE (pureF_of Try.func44 (by kernel_rfl) f44b (exRig_ok )) (pureF_of Try.func26 (by kernel_rfl) f26b (least_ok exRig h1)) (pureF_of Try.func45 (by kernel_rfl) f45b (exPath_ok )) (pureF_of Try.func16 (by kernel_rfl) f16b (fastest_ok exPath (⟨2, 1, 2⟩) (⟨300, 0, 2000⟩) false h2)) hc0 hc1 hc2 (AvLe.of_eq (by rw [h]; try rfl))
    · have h := h.2 (ne_of_beq_false hc1)
      exact p15_start_4     hE (pureF_of Try.func44 (by kernel_rfl) f44b (exRig_ok )) (pureF_of Try.func26 (by kernel_rfl) f26b (least_ok exRig h1)) (pureF_of Try.func45 (by kernel_rfl) f45b (exPath_ok )) (pureF_of Try.func16 (by kernel_rfl) f16b (fastest_ok exPath (⟨2, 1, 2⟩) (⟨300, 0, 2000⟩) false h2)) hc0 hc1 (AvLe.of_eq (by rw [h]; try rfl))
  · have h := h.2 (ne_of_beq_false hc0)
    exact p15_start_5     hE (pureF_of Try.func44 (by kernel_rfl) f44b (exRig_ok )) (pureF_of Try.func26 (by kernel_rfl) f26b (least_ok exRig h1)) (pureF_of Try.func45 (by kernel_rfl) f45b (exPath_ok )) (pureF_of Try.func16 (by kernel_rfl) f16b (fastest_ok exPath (⟨2, 1, 2⟩) (⟨300, 0, 2000⟩) false h2)) hc0 (AvLe.of_eq (by rw [h]; try rfl))

theorem works_ok : Pure Try.prog 15 [] (.bool true) := pure_of Try.func15 f15b fun E hE => by
  refine f15W (rv := true) hE ?_
  rw [ex_least, ex_fast]
  exact ⟨exRig_small, by decide, by simp⟩

theorem checkE_eq (l : List Pt) (m : Mot) (x : Lim) : checkE l m [x] = checkedE l m x := by
  have hP : checkP l = bif validP l then 0 else 30 := by
    unfold checkP validP
    cases within (l.length : Int) 3 60 <;> cases l.any (fun p => !spanned p) <;> rfl
  have hM : checkM m = bif motorOk m then 0 else 31 := by
    unfold checkM motorOk within
    by_cases a : 1 ≤ m.top ∧ m.top ≤ 10 <;> by_cases b : 1 ≤ m.ease ∧ m.ease ≤ m.jerk <;> by_cases c : m.jerk > 10 <;> simp only [Bool.cond_eq_ite, Bool.and_eq_true, Bool.not_eq_true', Bool.and_eq_false_iff, decide_eq_true_eq, decide_eq_false_iff_not] <;>
      repeat' split <;> first | rfl | omega
    all_goals first | rfl | omega
  have hX : checkX x = bif limitOk x then 0 else 32 := by
    unfold checkX limitOk
    cases within x.side 0 200000 <;> cases within x.low (-200000) 200000 <;> cases within x.high x.low 200000 <;> rfl
  unfold checkE checkedE
  rw [hP, hM, hX]
  simp only [List.any_cons, List.any_nil, Bool.or_false]
  cases validP l <;> cases motorOk m <;> cases limitOk x <;> rfl

theorem fast_eq (l : List Pt) (m : Mot) (x : Lim) (f : Bool) : fastP l m x f = fastE l m x f := by
  unfold fastP fastE; rw [checkE_eq]

theorem f3b : Try.f3.body = some (bodyAt Try.prog 3) := by kernel_rfl
theorem p3_start_0 (l : (List Pt)) (r : Rd)   {E : Env} {res : AV} (hE : PureE Try.prog 3 res E) (o0 : (decide (((l.length : Nat) : Int) > 70)) = true) (o1 : PureF Try.prog (.clos 15 [] []) [] (.bool true))
    (hr : AvLe (.bool true) res) : G Try.prog E [.code (bodyAt Try.prog 3)] ⟨[.rsl (rowP l) 0 l.length, .agg [.int .i64 r.m.top, .int .i64 r.m.ease, .int .i64 r.m.jerk, .int .i64 r.x.side, .int .i64 r.x.low, .int .i64 r.x.high, .bool r.f]] ++ unds (Try.f3.ntmps - 2), []⟩ :=
  end_stepL (n := 400) (evs := [.b true, .v (.bool true)]) (obs := [(decide (((l.length : Nat) : Int) > 70)) = true, PureF Try.prog (.clos 15 [] []) [] (.bool true)]) hE Try.func3 mixed (by kernel_rfl) ⟨o0, o1, trivial⟩ hr
theorem p3_start_1 (l : (List Pt)) (r : Rd)   {E : Env} {res : AV} (hE : PureE Try.prog 3 res E) (o0 : (decide (((l.length : Nat) : Int) > 70)) = false) (o1 : PureF Try.prog (.clos 17 [] []) [.rsl (rowP l) 0 l.length] (.rsl (rowP l) 0 l.length)) (o2 : PureF Try.prog (.clos 16 [] []) [.rsl (rowP l) 0 l.length, .agg [.int .i64 r.m.top, .int .i64 r.m.ease, .int .i64 r.m.jerk], .agg [.int .i64 r.x.side, .int .i64 r.x.low, .int .i64 r.x.high], .bool r.f] (.tup [.int .i64 ((fastP l r.m r.x r.f).1), .int .i64 ((fastP l r.m r.x r.f).2)])) (o3 : PureF Try.prog (.clos 18 [] []) [.rsl (rowP l) 0 l.length, .agg [.int .i64 r.m.top, .int .i64 r.m.ease, .int .i64 r.m.jerk], .agg [.int .i64 r.x.side, .int .i64 r.x.low, .int .i64 r.x.high], .bool r.f] (.tup [.int .i64 ((fastE l r.m r.x r.f).1), .int .i64 ((fastE l r.m r.x r.f).2)])) (o4 : ((fastP l r.m r.x r.f).1 == (fastE l r.m r.x r.f).1) = true) (o5 : ((fastP l r.m r.x r.f).2 == (fastE l r.m r.x r.f).2) = true) (o6 : PureF Try.prog (.clos 15 [] []) [] (.bool true))
    (hr : AvLe (.bool true) res) : G Try.prog E [.code (bodyAt Try.prog 3)] ⟨[.rsl (rowP l) 0 l.length, .agg [.int .i64 r.m.top, .int .i64 r.m.ease, .int .i64 r.m.jerk, .int .i64 r.x.side, .int .i64 r.x.low, .int .i64 r.x.high, .bool r.f]] ++ unds (Try.f3.ntmps - 2), []⟩ :=
  end_stepL (n := 400) (evs := [.b false, .v (.rsl (rowP l) 0 l.length), .v (.tup [.int .i64 ((fastP l r.m r.x r.f).1), .int .i64 ((fastP l r.m r.x r.f).2)]), .v (.tup [.int .i64 ((fastE l r.m r.x r.f).1), .int .i64 ((fastE l r.m r.x r.f).2)]), .b true, .b true, .v (.bool true)]) (obs := [(decide (((l.length : Nat) : Int) > 70)) = false, PureF Try.prog (.clos 17 [] []) [.rsl (rowP l) 0 l.length] (.rsl (rowP l) 0 l.length), PureF Try.prog (.clos 16 [] []) [.rsl (rowP l) 0 l.length, .agg [.int .i64 r.m.top, .int .i64 r.m.ease, .int .i64 r.m.jerk], .agg [.int .i64 r.x.side, .int .i64 r.x.low, .int .i64 r.x.high], .bool r.f] (.tup [.int .i64 ((fastP l r.m r.x r.f).1), .int .i64 ((fastP l r.m r.x r.f).2)]), PureF Try.prog (.clos 18 [] []) [.rsl (rowP l) 0 l.length, .agg [.int .i64 r.m.top, .int .i64 r.m.ease, .int .i64 r.m.jerk], .agg [.int .i64 r.x.side, .int .i64 r.x.low, .int .i64 r.x.high], .bool r.f] (.tup [.int .i64 ((fastE l r.m r.x r.f).1), .int .i64 ((fastE l r.m r.x r.f).2)]), ((fastP l r.m r.x r.f).1 == (fastE l r.m r.x r.f).1) = true, ((fastP l r.m r.x r.f).2 == (fastE l r.m r.x r.f).2) = true, PureF Try.prog (.clos 15 [] []) [] (.bool true)]) hE Try.func3 mixed (by kernel_rfl) ⟨o0, o1, o2, o3, o4, o5, o6, trivial⟩ hr
theorem p3_start_2 (l : (List Pt)) (r : Rd)   {E : Env} {res : AV} (hE : PureE Try.prog 3 res E) (o0 : (decide (((l.length : Nat) : Int) > 70)) = false) (o1 : PureF Try.prog (.clos 17 [] []) [.rsl (rowP l) 0 l.length] (.rsl (rowP l) 0 l.length)) (o2 : PureF Try.prog (.clos 16 [] []) [.rsl (rowP l) 0 l.length, .agg [.int .i64 r.m.top, .int .i64 r.m.ease, .int .i64 r.m.jerk], .agg [.int .i64 r.x.side, .int .i64 r.x.low, .int .i64 r.x.high], .bool r.f] (.tup [.int .i64 ((fastP l r.m r.x r.f).1), .int .i64 ((fastP l r.m r.x r.f).2)])) (o3 : PureF Try.prog (.clos 18 [] []) [.rsl (rowP l) 0 l.length, .agg [.int .i64 r.m.top, .int .i64 r.m.ease, .int .i64 r.m.jerk], .agg [.int .i64 r.x.side, .int .i64 r.x.low, .int .i64 r.x.high], .bool r.f] (.tup [.int .i64 ((fastE l r.m r.x r.f).1), .int .i64 ((fastE l r.m r.x r.f).2)])) (o4 : ((fastP l r.m r.x r.f).1 == (fastE l r.m r.x r.f).1) = true) (o5 : ((fastP l r.m r.x r.f).2 == (fastE l r.m r.x r.f).2) = false)
    (hr : AvLe (.bool false) res) : G Try.prog E [.code (bodyAt Try.prog 3)] ⟨[.rsl (rowP l) 0 l.length, .agg [.int .i64 r.m.top, .int .i64 r.m.ease, .int .i64 r.m.jerk, .int .i64 r.x.side, .int .i64 r.x.low, .int .i64 r.x.high, .bool r.f]] ++ unds (Try.f3.ntmps - 2), []⟩ :=
  end_stepL (n := 400) (evs := [.b false, .v (.rsl (rowP l) 0 l.length), .v (.tup [.int .i64 ((fastP l r.m r.x r.f).1), .int .i64 ((fastP l r.m r.x r.f).2)]), .v (.tup [.int .i64 ((fastE l r.m r.x r.f).1), .int .i64 ((fastE l r.m r.x r.f).2)]), .b true, .b false]) (obs := [(decide (((l.length : Nat) : Int) > 70)) = false, PureF Try.prog (.clos 17 [] []) [.rsl (rowP l) 0 l.length] (.rsl (rowP l) 0 l.length), PureF Try.prog (.clos 16 [] []) [.rsl (rowP l) 0 l.length, .agg [.int .i64 r.m.top, .int .i64 r.m.ease, .int .i64 r.m.jerk], .agg [.int .i64 r.x.side, .int .i64 r.x.low, .int .i64 r.x.high], .bool r.f] (.tup [.int .i64 ((fastP l r.m r.x r.f).1), .int .i64 ((fastP l r.m r.x r.f).2)]), PureF Try.prog (.clos 18 [] []) [.rsl (rowP l) 0 l.length, .agg [.int .i64 r.m.top, .int .i64 r.m.ease, .int .i64 r.m.jerk], .agg [.int .i64 r.x.side, .int .i64 r.x.low, .int .i64 r.x.high], .bool r.f] (.tup [.int .i64 ((fastE l r.m r.x r.f).1), .int .i64 ((fastE l r.m r.x r.f).2)]), ((fastP l r.m r.x r.f).1 == (fastE l r.m r.x r.f).1) = true, ((fastP l r.m r.x r.f).2 == (fastE l r.m r.x r.f).2) = false]) hE Try.func3 mixed (by kernel_rfl) ⟨o0, o1, o2, o3, o4, o5, trivial⟩ hr
theorem p3_start_3 (l : (List Pt)) (r : Rd)   {E : Env} {res : AV} (hE : PureE Try.prog 3 res E) (o0 : (decide (((l.length : Nat) : Int) > 70)) = false) (o1 : PureF Try.prog (.clos 17 [] []) [.rsl (rowP l) 0 l.length] (.rsl (rowP l) 0 l.length)) (o2 : PureF Try.prog (.clos 16 [] []) [.rsl (rowP l) 0 l.length, .agg [.int .i64 r.m.top, .int .i64 r.m.ease, .int .i64 r.m.jerk], .agg [.int .i64 r.x.side, .int .i64 r.x.low, .int .i64 r.x.high], .bool r.f] (.tup [.int .i64 ((fastP l r.m r.x r.f).1), .int .i64 ((fastP l r.m r.x r.f).2)])) (o3 : PureF Try.prog (.clos 18 [] []) [.rsl (rowP l) 0 l.length, .agg [.int .i64 r.m.top, .int .i64 r.m.ease, .int .i64 r.m.jerk], .agg [.int .i64 r.x.side, .int .i64 r.x.low, .int .i64 r.x.high], .bool r.f] (.tup [.int .i64 ((fastE l r.m r.x r.f).1), .int .i64 ((fastE l r.m r.x r.f).2)])) (o4 : ((fastP l r.m r.x r.f).1 == (fastE l r.m r.x r.f).1) = false)
    (hr : AvLe (.bool false) res) : G Try.prog E [.code (bodyAt Try.prog 3)] ⟨[.rsl (rowP l) 0 l.length, .agg [.int .i64 r.m.top, .int .i64 r.m.ease, .int .i64 r.m.jerk, .int .i64 r.x.side, .int .i64 r.x.low, .int .i64 r.x.high, .bool r.f]] ++ unds (Try.f3.ntmps - 2), []⟩ :=
  end_stepL (n := 400) (evs := [.b false, .v (.rsl (rowP l) 0 l.length), .v (.tup [.int .i64 ((fastP l r.m r.x r.f).1), .int .i64 ((fastP l r.m r.x r.f).2)]), .v (.tup [.int .i64 ((fastE l r.m r.x r.f).1), .int .i64 ((fastE l r.m r.x r.f).2)]), .b false, .b false]) (obs := [(decide (((l.length : Nat) : Int) > 70)) = false, PureF Try.prog (.clos 17 [] []) [.rsl (rowP l) 0 l.length] (.rsl (rowP l) 0 l.length), PureF Try.prog (.clos 16 [] []) [.rsl (rowP l) 0 l.length, .agg [.int .i64 r.m.top, .int .i64 r.m.ease, .int .i64 r.m.jerk], .agg [.int .i64 r.x.side, .int .i64 r.x.low, .int .i64 r.x.high], .bool r.f] (.tup [.int .i64 ((fastP l r.m r.x r.f).1), .int .i64 ((fastP l r.m r.x r.f).2)]), PureF Try.prog (.clos 18 [] []) [.rsl (rowP l) 0 l.length, .agg [.int .i64 r.m.top, .int .i64 r.m.ease, .int .i64 r.m.jerk], .agg [.int .i64 r.x.side, .int .i64 r.x.low, .int .i64 r.x.high], .bool r.f] (.tup [.int .i64 ((fastE l r.m r.x r.f).1), .int .i64 ((fastE l r.m r.x r.f).2)]), ((fastP l r.m r.x r.f).1 == (fastE l r.m r.x r.f).1) = false, false = false]) hE Try.func3 mixed (by kernel_rfl) ⟨o0, o1, o2, o3, o4, (rfl), trivial⟩ hr
theorem f3W (l : (List Pt)) (r : Rd) {E : Env} {rv : Bool} (hE : PureE Try.prog 3 (.bool rv) E)
    (h : ((((l.length : Nat) : Int) > 70 → rv = true) ∧ (¬ (((l.length : Nat) : Int) > 70) → ((l.length ≤ 1000) ∧ ((l.length ≤ 1000) ∧ ((l.length ≤ 1000) ∧ (((fastP l r.m r.x r.f).1 = (fastE l r.m r.x r.f).1 → (((fastP l r.m r.x r.f).2 = (fastE l r.m r.x r.f).2 → rv = true) ∧ (¬ ((fastP l r.m r.x r.f).2 = (fastE l r.m r.x r.f).2) → rv = false))) ∧ (¬ ((fastP l r.m r.x r.f).1 = (fastE l r.m r.x r.f).1) → rv = false)))))))) : G Try.prog E [.code (bodyAt Try.prog 3)] ⟨[.rsl (rowP l) 0 l.length, .agg [.int .i64 r.m.top, .int .i64 r.m.ease, .int .i64 r.m.jerk, .int .i64 r.x.side, .int .i64 r.x.low, .int .i64 r.x.high, .bool r.f]] ++ unds (Try.f3.ntmps - 2), []⟩ := by
  rcases Bool.eq_false_or_eq_true (decide (((l.length : Nat) : Int) > 70)) with hc0 | hc0
  · have h := h.1 (of_decide_eq_true hc0)
    exact p3_start_0 l r    hE hc0 (pureF_of Try.func15 (by kernel_rfl) f15b (works_ok )) (AvLe.of_eq (by rw [h]; try rfl))
  · have h := h.2 (of_decide_eq_false hc0)
    obtain ⟨h1, h⟩ := h
    obtain ⟨h2, h⟩ := h
    obtain ⟨h3, h⟩ := h
    rcases Bool.eq_false_or_eq_true ((fastP l r.m r.x r.f).1 == (fastE l r.m r.x r.f).1) with hc1 | hc1
    · have h := h.1 (eq_of_beq hc1)
      rcases Bool.eq_false_or_eq_true ((fastP l r.m r.x r.f).2 == (fastE l r.m r.x r.f).2) with hc2 | hc2
      · have h := h.1 (eq_of_beq hc2)
        exact p3_start_1 l r    hE hc0 (pureF_of Try.func17 (by kernel_rfl) f17b (ownL_ok l h1)) (pureF_of Try.func16 (by kernel_rfl) f16b (fastest_ok l r.m r.x r.f h2)) (pureF_of Try.func18 (by kernel_rfl) f18b (fastestR_ok l r.m r.x r.f h3)) hc1 hc2 (pureF_of Try.func15 (by kernel_rfl) f15b (works_ok )) (AvLe.of_eq (by rw [h]; try rfl))
      · have h := h.2 (ne_of_beq_false hc2)
        exact p3_start_2 l r    hE hc0 (pureF_of Try.func17 (by kernel_rfl) f17b (ownL_ok l h1)) (pureF_of Try.func16 (by kernel_rfl) f16b (fastest_ok l r.m r.x r.f h2)) (pureF_of Try.func18 (by kernel_rfl) f18b (fastestR_ok l r.m r.x r.f h3)) hc1 hc2 (AvLe.of_eq (by rw [h]; try rfl))
    · have h := h.2 (ne_of_beq_false hc1)
      exact p3_start_3 l r    hE hc0 (pureF_of Try.func17 (by kernel_rfl) f17b (ownL_ok l h1)) (pureF_of Try.func16 (by kernel_rfl) f16b (fastest_ok l r.m r.x r.f h2)) (pureF_of Try.func18 (by kernel_rfl) f18b (fastestR_ok l r.m r.x r.f h3)) hc1 (AvLe.of_eq (by rw [h]; try rfl))

theorem law3_ok (l : List Pt) (r : Rd) : Pure Try.prog 3 [.rsl (rowP l) 0 l.length, .agg [.int .i64 r.m.top, .int .i64 r.m.ease, .int .i64 r.m.jerk, .int .i64 r.x.side, .int .i64 r.x.low, .int .i64 r.x.high, .bool r.f]] (.bool true) := pure_of Try.func3 f3b fun E hE => by
  refine f3W l r (rv := true) hE ⟨fun _ => rfl, fun h => ?_⟩
  have hl : l.length ≤ 1000 := by omega
  rw [fast_eq]
  exact ⟨hl, hl, hl, by simp⟩

end Go.Proofs.Ytideokfbnegkjaa
