/- A part of the proof: several texts, one behind the other. -/
import Derived.Test.YtgdfkjjgdkejfaaLRideChecksE
import Derived.ProofKit
import Derived.OpenShut
import Derived.WideShapes
import Derived.WideKeyArgs
import Derived.ChangeSame
set_option linter.unusedVariables false
set_option linter.unusedSimpArgs false
set_option maxRecDepth 100000
namespace Go.Proofs.Ytgdfkjjgdkejfaa
open Go Ax
open Go.Proofs

theorem apartN_spec {nb : Nat} {l : List Int} : ∀ {n : Nat}, n ≤ l.length → apartN nb l n = true → (∀ i, i < n → 0 ≤ l.getD i 0 ∧ l.getD i 0 < nb) ∧ ∀ i j, i < j → j < n → l.getD i 0 ≠ l.getD j 0
  | 0, _, _ => ⟨fun i h => by omega, fun i j h h' => by omega⟩
  | n + 1, hn, h => by
    simp only [apartN, Bool.and_eq_true, Bool.not_eq_true'] at h
    obtain ⟨⟨h1, h2⟩, h3⟩ := h
    obtain ⟨a, b⟩ := apartN_spec (by omega) h1
    have hw := within_iff.1 h2
    refine ⟨fun i hi => ?_, fun i j hij hj => ?_⟩
    · rcases Nat.lt_or_ge i n with h4 | h4
      · exact a i h4
      · rw [show i = n by omega]; omega
    · rcases Nat.lt_or_ge j n with h4 | h4
      · exact b i j hij h4
      · have e : j = n := by omega
        subst e
        have := List.any_eq_false.1 h3 (l.getD i 0) (List.mem_of_getElem? (i := i) (by rw [List.getElem?_take, if_pos hij]; exact getD_some (by omega)))
        simp only [beq_iff_eq] at this
        exact fun h => this h.symm
structure ChkIn (c : Cir) : Prop where
  nb : 2 ≤ c.blocks.length ∧ c.blocks.length ≤ 12
  nc : c.cars.length ≤ 10
  bk : ∀ b ∈ c.blocks, (1 ≤ b.time ∧ b.time ≤ 30) ∧ (0 ≤ b.hold ∧ b.hold ≤ 30) ∧ (b.station = false → b.hold = 0)
  cin : ∀ i, i < c.cars.length → 0 ≤ c.cars.getD i 0 ∧ c.cars.getD i 0 < c.blocks.length
  ne : ∀ i j, i < j → j < c.cars.length → c.cars.getD i 0 ≠ c.cars.getD j 0
theorem chk_in {c : Cir} (h : checkC c = 0) : ChkIn c := by
  have h := checkC_eq.1 h
  simp only [checkB, Bool.and_eq_true, decide_eq_true_eq] at h
  obtain ⟨⟨⟨h1, h2⟩, h3⟩, h4⟩ := h
  have h1 := within_iff.1 h1
  obtain ⟨a, b⟩ := apartN_spec (Nat.le_refl _) h4
  refine ⟨by omega, h2, fun x hx => ?_, a, b⟩
  have := List.all_eq_true.1 h3 x hx
  simp only [bkOk, Bool.and_eq_true] at this
  obtain ⟨⟨q1, q2⟩, q3⟩ := this
  refine ⟨by have := within_iff.1 q1; omega, by have := within_iff.1 q2; omega, fun h => ?_⟩
  rw [h] at q3; simpa using q3
structure PlayIn (c : Cir) (ticks : Int) (l : List Prs) (f : List Flt) : Prop where
  chk : ChkIn c
  tk : 0 ≤ ticks ∧ ticks ≤ 500
  nl : l.length ≤ 200
  pr : ∀ p ∈ l, (0 ≤ p.at_ ∧ p.at_ ≤ ticks - 1) ∧ (1 ≤ p.kind ∧ p.kind ≤ 3) ∧ (0 ≤ p.block ∧ p.block ≤ (c.blocks.length : Int) - 1)
  nf : f.length ≤ 5
  fl : ∀ x ∈ f, (0 ≤ x.frm ∧ x.frm ≤ 500) ∧ (1 ≤ x.kind ∧ x.kind ≤ 3) ∧ (0 ≤ x.chan ∧ x.chan ≤ 1) ∧ (0 ≤ x.block ∧ x.block ≤ (c.blocks.length : Int) - 1) ∧ (0 ≤ x.val ∧ x.val ≤ 1)
theorem play_in {c : Cir} {ticks : Int} {l : List Prs} {f : List Flt} (h : checkP c ticks l f = 0) : checkC c = 0 ∧ PlayIn c ticks l f := by
  unfold checkP at h
  split at h
  · rename_i h0
    split at h
    · rename_i h1
      split at h
      · cases h
      · rename_i h2
        split at h
        · cases h
        · rename_i h3
          split at h
          · cases h
          · rename_i h4
            split at h
            · cases h
            · rename_i h5
              have h1 := within_iff.1 h1
              refine ⟨h0, chk_in h0, by omega, by omega, fun p hp => ?_, by omega, fun x hx => ?_⟩
              · have := List.any_eq_false.1 (Bool.eq_false_iff.2 h3) p hp
                simp only [Bool.not_eq_true', Bool.not_eq_false, prsOk, Bool.and_eq_true] at this
                obtain ⟨⟨q1, q2⟩, q3⟩ := this
                have q1 := within_iff.1 q1; have q2 := within_iff.1 q2; have q3 := within_iff.1 q3
                omega
              · have := List.any_eq_false.1 (Bool.eq_false_iff.2 h5) x hx
                simp only [Bool.not_eq_true', Bool.not_eq_false, fltOk, Bool.and_eq_true] at this
                obtain ⟨⟨⟨⟨q1, q2⟩, q3⟩, q4⟩, q5⟩ := this
                have q1 := within_iff.1 q1; have q2 := within_iff.1 q2; have q3 := within_iff.1 q3; have q4 := within_iff.1 q4; have q5 := within_iff.1 q5
                omega
    · cases h
  · exact absurd h ‹_›

/-- A track before the first tick. -/
def newT (c : Cir) (f : List Flt) : Trk := ⟨c, f, c.cars.map fun b => ⟨⟨b, (bkAt c b).time, false⟩, 0⟩, List.replicate c.blocks.length false, 0, -1, false, 0, 0⟩
def NewIn (c : Cir) : Prop := c.blocks.length ≤ 1000000 ∧ c.cars.length ≤ 1000000 ∧ ∀ b ∈ c.cars, InC c b
theorem ChkIn.new {c : Cir} (h : ChkIn c) : NewIn c := ⟨by have := h.nb; omega, by have := h.nc; omega, fun b hb => by
  obtain ⟨i, hi⟩ := List.getElem?_of_mem hb
  have := h.cin i (List.getElem?_eq_some_iff.1 hi).1
  rw [getD_of hi] at this
  exact ⟨this.1, by omega⟩⟩
def StepIn (T : Trk) (l : List Prs) : Prop := ∃ B, TOk T B ∧ B ≤ 100000 ∧ PrsIn T.c l ∧ l.length ≤ 2147483648
def runT (T : Trk) (l : Nat → List Prs) : Nat → Trk
  | 0 => T
  | n + 1 => stepT (runT T l n) (l n)
theorem step_c {T : Trk} {l : List Prs} : (stepT T l).c = T.c := by unfold stepT; split <;> rfl
theorem step_f {T : Trk} {l : List Prs} : (stepT T l).faults = T.faults := by unfold stepT; split <;> rfl
theorem run_c {T : Trk} {l : Nat → List Prs} : ∀ {n : Nat}, (runT T l n).c = T.c
  | 0 => rfl
  | n + 1 => by rw [runT, step_c, run_c]
theorem run_f {T : Trk} {l : Nat → List Prs} : ∀ {n : Nat}, (runT T l n).faults = T.faults
  | 0 => rfl
  | n + 1 => by rw [runT, step_f, run_f]
theorem new_tok {c : Cir} {f : List Flt} (h : ChkIn c) (hf : f.length ≤ 5) (hc : ∀ x ∈ f, x.chan = 0 ∨ x.chan = 1) : TOk (newT c f) 30 := by
  have hn := h.new
  refine ⟨by have := h.nb; simp only [newT]; omega, by have := h.nc; simp only [newT, List.length_map]; omega, by simp only [newT]; omega, hc, by simp [newT], fun x hx => ?_, by simp [newT], by simp [newT], by simp [newT], fun _ i j hij hj => ?_⟩
  · obtain ⟨b, hb, rfl⟩ := List.mem_map.1 hx
    have hin := hn.2.2 b hb
    have := h.bk _ (List.mem_of_getElem? (bk_at hin))
    exact ⟨hin, by simp only; omega, by simp only; omega⟩
  · simp only [newT, List.length_map] at hj ⊢
    rw [getD_map (d := 0) (by omega), getD_map (d := 0) hj]
    exact h.ne i j hij hj
theorem run_tok {T : Trk} {B : Int} {l : Nat → List Prs} (h : TOk T B) : ∀ {n : Nat}, TOk (runT T l n) (B + n)
  | 0 => by rw [show B + ((0 : Nat) : Int) = B by omega]; exact h
  | n + 1 => by
    rw [show B + ((n + 1 : Nat) : Int) = B + n + 1 by omega]
    exact step_tok (run_tok h)
theorem PlayIn.tok {c : Cir} {ticks : Int} {l : List Prs} {f : List Flt} (h : PlayIn c ticks l f) : TOk (newT c f) 30 := new_tok h.chk h.nf fun x hx => by have := (h.fl x hx).2.2.1; omega
theorem PlayIn.prs {c : Cir} {ticks : Int} {l : List Prs} {f : List Flt} (h : PlayIn c ticks l f) : PrsIn c l := fun p hp => by
  have := h.pr p hp
  exact ⟨⟨this.2.2.1, by omega⟩, by omega⟩
/-- What is played: the track before each tick. -/
def playT (c : Cir) (f : List Flt) (l : List Prs) (n : Nat) : Trk := runT (newT c f) (fun _ => l) n
def playK (c : Cir) (ticks : Int) (l : List Prs) (f : List Flt) : List (List Spt) × Int :=
  if checkP c ticks l f = 0 then ((List.range (Int.toNat ticks)).map fun i => (playT c f l (i + 1)).cars.map Car.spot, 0) else ([], checkP c ticks l f)
def stopsK (c : Cir) (ticks : Int) (l : List Prs) (f : List Flt) : Int × Int :=
  if checkP c ticks l f = 0 then ((playT c f l (Int.toNat ticks)).stopped, 0) else (0, checkP c ticks l f)
theorem trk_eta {T : Trk} {c : Cir} {f : List Flt} (hc : T.c = c) (hf : T.faults = f) : (⟨c, f, T.cars, T.gos, T.tick, T.stopped, T.wrecked, T.rounds, T.gone⟩ : Trk) = T := by subst hc; subst hf; rfl

theorem step2_ok (l : List Prs) (c : Cir) (faults : List Flt) (cars : List Car) (gos : List Bool) (tick stopped : Int) (wrecked : Bool) (rounds gone : Int) (g1 g2 : Nat) (hh : StepIn (⟨c, faults, cars, gos, tick, stopped, wrecked, rounds, gone⟩ : Trk) l) :
    Lent Try.prog 45 [.ptr 0 0 0, .rsl (rowPrs l) 0 l.length] [⟨true, 0, 1, false, [.rsl (rowBk c.blocks) 0 c.blocks.length, .rsl (rowI c.cars) 0 c.cars.length, .rsl (rowFlt faults) 0 faults.length, .sl 1 g1 0 cars.length 4, .sl 2 g2 0 gos.length 1, .int .i64 tick, .int .i64 stopped, .bool wrecked, .int .i64 rounds, .int .i64 gone], false⟩, ⟨true, g1, 4, true, (rowCar cars), true⟩, ⟨true, g2, 1, true, (rowB gos), true⟩] (.tup []) [⟨true, 0, 1, false, [.rsl (rowBk c.blocks) 0 c.blocks.length, .rsl (rowI c.cars) 0 c.cars.length, .rsl (rowFlt faults) 0 faults.length, .sl 1 g1 0 (stepT (⟨c, faults, cars, gos, tick, stopped, wrecked, rounds, gone⟩ : Trk) l).cars.length 4, .sl 2 g2 0 (stepT (⟨c, faults, cars, gos, tick, stopped, wrecked, rounds, gone⟩ : Trk) l).gos.length 1, .int .i64 (stepT (⟨c, faults, cars, gos, tick, stopped, wrecked, rounds, gone⟩ : Trk) l).tick, .int .i64 (stepT (⟨c, faults, cars, gos, tick, stopped, wrecked, rounds, gone⟩ : Trk) l).stopped, .bool (stepT (⟨c, faults, cars, gos, tick, stopped, wrecked, rounds, gone⟩ : Trk) l).wrecked, .int .i64 (stepT (⟨c, faults, cars, gos, tick, stopped, wrecked, rounds, gone⟩ : Trk) l).rounds, .int .i64 (stepT (⟨c, faults, cars, gos, tick, stopped, wrecked, rounds, gone⟩ : Trk) l).gone], false⟩, ⟨true, g1, 4, true, (rowCar (stepT (⟨c, faults, cars, gos, tick, stopped, wrecked, rounds, gone⟩ : Trk) l).cars), true⟩, ⟨true, g2, 1, true, (rowB (stepT (⟨c, faults, cars, gos, tick, stopped, wrecked, rounds, gone⟩ : Trk) l).gos), true⟩] := by
  obtain ⟨B, h⟩ := hh
  exact step_ok l c faults cars gos tick stopped wrecked rounds gone g1 g2 B h

theorem f44b : Try.f44.body = some (bodyAt Try.prog 44) := by kernel_rfl
def f44K0 (P : Program) : List Item := kAt 400 [.code (bodyAt P 44)] [.stop]
def f44S0 (c : Cir) (f : (List Flt)) (v1 : List Bool) (i : Nat) (v3 : List Car)  : St := ⟨[J, J, .ptr 0 0 0, J, J, .ptr 2 0 0, J, J, J, J, J, J, J, J, J, J, J, .rsl (rowI c.cars) 0 c.cars.length, .int .i64 (c.cars.length : Int), .int .i64 (i : Int), J, J, J, J, J, J, J, J, J, J, J, J, J, J, J, J, J, J, J, J, J, J, J], [⟨true, 0, 1, true, [.rsl (rowBk c.blocks) 0 c.blocks.length, .rsl (rowI c.cars) 0 c.cars.length], false⟩, ⟨true, 0, 1, true, (rowB v1), true⟩, ⟨true, 0, 1, false, [.rsl (rowBk c.blocks) 0 c.blocks.length, .rsl (rowI c.cars) 0 c.cars.length, .rsl (rowFlt f) 0 f.length, .sl 3 i 0 v3.length 4, .sl 1 0 0 v1.length 1, .int .i64 0, .int .i64 (-1), .bool false, .int .i64 0, .int .i64 0], false⟩, ⟨true, i, 4, true, (rowCar v3), true⟩]⟩
def f44G0 (E : Env) (c : Cir) (f : (List Flt)) (v1 : List Bool) (i : Nat) (v3 : List Car) : Prop := G Try.prog E (f44K0 Try.prog) (f44S0 c f v1 i v3 )
theorem p44_start_0 (c : Cir) (f : (List Flt))   {E : Env} {rv : AV} {bs2 : List Blk} (hE : LentE Try.prog 44 [] rv bs2 E) (ho : AllP [0 ≤ (c.blocks.length : Int) ∧ (c.blocks.length : Int) ≤ (c.blocks.length : Int) ∧ (c.blocks.length : Int) ≤ 2147483648])
    (hg : G Try.prog E (f44K0 Try.prog) ⟨[J, J, .ptr 0 0 0, J, J, .ptr 2 0 0, J, J, J, J, J, J, J, J, J, J, J, .rsl (rowI c.cars) 0 c.cars.length, .int .i64 (c.cars.length : Int), .int .i64 0, J, J, J, J, J, J, J, J, J, J, J, J, J, J, J, J, J, J, J, J, J, J, J], [⟨true, 0, 1, true, [.rsl (rowBk c.blocks) 0 c.blocks.length, .rsl (rowI c.cars) 0 c.cars.length], false⟩, ⟨true, 0, 1, true, ((List.replicate (Int.toNat (c.blocks.length : Int)) ([.bool false] : List AV)).flatten), true⟩, ⟨true, 0, 1, false, [.rsl (rowBk c.blocks) 0 c.blocks.length, .rsl (rowI c.cars) 0 c.cars.length, .rsl (rowFlt f) 0 f.length, .sl 3 0 0 0 4, .sl 1 0 0 (Int.toNat (c.blocks.length : Int)) 1, .int .i64 0, .int .i64 (-1), .bool false, .int .i64 0, .int .i64 0], false⟩, ⟨true, 0, 4, true, [], true⟩]⟩) : G Try.prog E [.code (bodyAt Try.prog 44)] ⟨[.agg [.rsl (rowBk c.blocks) 0 c.blocks.length, .rsl (rowI c.cars) 0 c.cars.length], .rsl (rowFlt f) 0 f.length] ++ unds (Try.f44.ntmps - 2), []⟩ :=
  segC_step (n := 400) (ds := []) (cs := [(2, 3, 4)]) (live := [2, 5, 17, 18, 19]) (m := 4) (evs := [.stop]) (obs := _) hE.kind (hE.nogh0 _) mixed (by kernel_rfl) ho hg
theorem f44W (c : Cir) (f : (List Flt)) {E : Env} {rv : Unit} {gos2 : List Bool} {cars2 : List Car} {gc : Nat} (hE : LentE Try.prog 44 [] (.ptr 2 0 0) [⟨true, 0, 1, true, [.rsl (rowBk c.blocks) 0 c.blocks.length, .rsl (rowI c.cars) 0 c.cars.length], false⟩, ⟨true, 0, 1, true, (rowB gos2), true⟩, ⟨true, 0, 1, false, [.rsl (rowBk c.blocks) 0 c.blocks.length, .rsl (rowI c.cars) 0 c.cars.length, .rsl (rowFlt f) 0 f.length, .sl 3 gc 0 cars2.length 4, .sl 1 0 0 gos2.length 1, .int .i64 0, .int .i64 (-1), .bool false, .int .i64 0, .int .i64 0], false⟩, ⟨true, gc, 4, true, (rowCar cars2), true⟩] E)
    (h : (c.blocks.length ≤ 2147483648 ∧ f44G0 E c f (List.replicate c.blocks.length (false : Bool)) 0 ([]))) : G Try.prog E [.code (bodyAt Try.prog 44)] ⟨[.agg [.rsl (rowBk c.blocks) 0 c.blocks.length, .rsl (rowI c.cars) 0 c.cars.length], .rsl (rowFlt f) 0 f.length] ++ unds (Try.f44.ntmps - 2), []⟩ := by
  obtain ⟨h1, h⟩ := h
  refine p44_start_0 c f    hE ⟨⟨by omega, by omega, by have := h1; omega⟩, trivial⟩ ?_
  have h := h
  simp only [f44G0, f44S0, List.length_set, List.length_replicate] at h
  rw [(show (List.replicate (Int.toNat (c.blocks.length : Int)) ([.bool false] : List AV)).flatten = rowB (List.replicate c.blocks.length (false : Bool)) from row_rep cB _ _)]
  exact h
theorem p44_0_0 (c : Cir) (f : (List Flt)) (v1 : List Bool) (i : Nat) (v3 : List Car)  (e : Int) (be : Bk)  {E : Env} {rv : AV} {bs2 : List Blk} (hE : LentE Try.prog 44 [] rv bs2 E) (ho : AllP [(decide ((i : Int) < (c.cars.length : Int))) = true, 0 ≤ (i : Int) ∧ (i : Int) < (c.cars.length : Int), ((rowI c.cars).drop (0 + (Int.toNat (i : Int)) * 1)).take 1 = [.int .i64 e], 0 ≤ e ∧ e < (c.blocks.length : Int), ((rowBk c.blocks).drop ((0 + (Int.toNat e) * 4) + 0)).take 1 = [.int .i64 be.time], i = i, (0 + (v3.length * 4)) = (rowCar v3).length, (v3.length + 1) ≤ 2147483648, 0 = 0, 4 ≤ 10, InR .i64 ((i : Int) + 1)])
    (hg : G Try.prog E (f44K0 Try.prog) ⟨[J, J, .ptr 0 0 0, J, J, .ptr 2 0 0, J, J, J, J, J, J, J, J, J, J, J, .rsl (rowI c.cars) 0 c.cars.length, .int .i64 (c.cars.length : Int), .int .i64 ((i : Int) + 1), J, J, J, J, J, J, J, J, J, J, J, J, J, J, J, J, J, J, J, J, J, J, J], [⟨true, 0, 1, true, [.rsl (rowBk c.blocks) 0 c.blocks.length, .rsl (rowI c.cars) 0 c.cars.length], false⟩, ⟨true, 0, 1, true, (rowB v1), true⟩, ⟨true, 0, 1, false, [.rsl (rowBk c.blocks) 0 c.blocks.length, .rsl (rowI c.cars) 0 c.cars.length, .rsl (rowFlt f) 0 f.length, .sl 3 (i + 1) 0 (v3.length + 1) 4, .sl 1 0 0 v1.length 1, .int .i64 0, .int .i64 (-1), .bool false, .int .i64 0, .int .i64 0], false⟩, ⟨true, (i + 1), 4, true, ((rowCar v3) ++ [.int .i64 e, .int .i64 be.time, .bool false, .int .i64 0]), true⟩]⟩) : G Try.prog E (f44K0 Try.prog) (f44S0 c f v1 i v3 ) :=
  segC_step (n := 400) (ds := []) (cs := []) (live := [2, 5, 17, 18, 19]) (m := 4) (evs := [.b true, .ld (.int .i64 e), .auto, .auto, .ld (.int .i64 be.time), .stop]) (obs := _) hE.kind (hE.nogh0 _) mixed (by kernel_rfl) ho hg
theorem p44_0_1 (c : Cir) (f : (List Flt)) (v1 : List Bool) (i : Nat) (v3 : List Car)   {E : Env} {res : AV} {bs2 : List Blk} (hE : LentE Try.prog 44 [] res bs2 E) (ho : AllP [(decide ((i : Int) < (c.cars.length : Int))) = false])
    (hr : (.ptr 2 0 0) = res) (hb : [⟨true, 0, 1, true, [.rsl (rowBk c.blocks) 0 c.blocks.length, .rsl (rowI c.cars) 0 c.cars.length], false⟩, ⟨true, 0, 1, true, (rowB v1), true⟩, ⟨true, 0, 1, false, [.rsl (rowBk c.blocks) 0 c.blocks.length, .rsl (rowI c.cars) 0 c.cars.length, .rsl (rowFlt f) 0 f.length, .sl 3 i 0 v3.length 4, .sl 1 0 0 v1.length 1, .int .i64 0, .int .i64 (-1), .bool false, .int .i64 0, .int .i64 0], false⟩, ⟨true, i, 4, true, (rowCar v3), true⟩] = bs2) : G Try.prog E (f44K0 Try.prog) (f44S0 c f v1 i v3 ) :=
  endB_step (n := 400) (live := [4]) (m := 4) (evs := [.b false]) (obs := _) hE (hE.nogh0 _) Try.func44 mixed (by kernel_rfl) ho hr hb
theorem f44W0 (c : Cir) (f : (List Flt)) (v1 : List Bool) (i : Nat) (v3 : List Car) {E : Env} {rv : Unit} {gos2 : List Bool} {cars2 : List Car} {gc : Nat} (hE : LentE Try.prog 44 [] (.ptr 2 0 0) [⟨true, 0, 1, true, [.rsl (rowBk c.blocks) 0 c.blocks.length, .rsl (rowI c.cars) 0 c.cars.length], false⟩, ⟨true, 0, 1, true, (rowB gos2), true⟩, ⟨true, 0, 1, false, [.rsl (rowBk c.blocks) 0 c.blocks.length, .rsl (rowI c.cars) 0 c.cars.length, .rsl (rowFlt f) 0 f.length, .sl 3 gc 0 cars2.length 4, .sl 1 0 0 gos2.length 1, .int .i64 0, .int .i64 (-1), .bool false, .int .i64 0, .int .i64 0], false⟩, ⟨true, gc, 4, true, (rowCar cars2), true⟩] E)
    (h : (((i : Int) < (c.cars.length : Int) → (∃ e : Int, c.cars[i]? = some e ∧ (0 ≤ e ∧ (∃ be : Bk, c.blocks[Int.toNat e]? = some be ∧ ((v3.length + 1) ≤ 2147483648 ∧ ((-9223372036854775808 ≤ (i : Int) + 1 ∧ (i : Int) + 1 ≤ 9223372036854775807) ∧ f44G0 E c f v1 (i + 1) (v3 ++ [(⟨(⟨e, be.time, false⟩ : Spt), 0⟩ : Car)]))))))) ∧ (¬ ((i : Int) < (c.cars.length : Int)) → gos2 = v1 ∧ cars2 = v3 ∧ gc = i))) : f44G0 E c f v1 i v3 := by
  rcases Bool.eq_false_or_eq_true (decide ((i : Int) < (c.cars.length : Int))) with hc0 | hc0
  · have h := h.1 (of_decide_eq_true hc0)
    obtain ⟨e, h1, h⟩ := h
    obtain ⟨h3, h⟩ := h
    obtain ⟨be, h2, h⟩ := h
    obtain ⟨h4, h⟩ := h
    obtain ⟨q12_1, h⟩ := h
    refine p44_0_0 c f v1 i v3  e be hE ⟨hc0, (idx_ok h1), (row_part cI (s := 1) (k := 0) (m := 1) (fun _ => rfl) (by decide) h1), (idx_ok' h3 h2), (row_part cBk (s := 4) (k := 0) (m := 1) (fun _ => rfl) (by decide) h2), rfl, (by have hx := row_len cCar (s := 4) (fun _ => rfl) v3; simp only [rowCar] at hx ⊢; rw [hx]; simp), h4, rfl, (by decide), q12_1, trivial⟩ ?_
    rw [(show rowCar v3 ++ [.int .i64 e, .int .i64 be.time, .bool false, .int .i64 0] = rowCar (v3 ++ [(⟨(⟨e, be.time, false⟩ : Spt), 0⟩ : Car)]) from (row_app cCar v3 [(⟨(⟨e, be.time, false⟩ : Spt), 0⟩ : Car)]).symm)]; rw [(show (v3.length + 1) = (v3 ++ [(⟨(⟨e, be.time, false⟩ : Spt), 0⟩ : Car)]).length from by simp)]; exact h
  · have h := h.2 (of_decide_eq_false hc0)
    obtain ⟨qe0, qe1, qe2⟩ := h
    exact p44_0_1 c f v1 i v3   hE ⟨hc0, trivial⟩ (by try rfl) (by rw [qe0, qe1, qe2]; all_goals (first | rfl | (simp only [List.length_set]; done) | (simp only [List.length_set]; rfl)))

theorem newTrack_ok (c : Cir) (f : List Flt) (h : NewIn c) : Lent Try.prog 44 [.agg [.rsl (rowBk c.blocks) 0 c.blocks.length, .rsl (rowI c.cars) 0 c.cars.length], .rsl (rowFlt f) 0 f.length] [] (.ptr 2 0 0)
    [⟨true, 0, 1, true, [.rsl (rowBk c.blocks) 0 c.blocks.length, .rsl (rowI c.cars) 0 c.cars.length], false⟩, ⟨true, 0, 1, true, (rowB (newT c f).gos), true⟩, ⟨true, 0, 1, false, [.rsl (rowBk c.blocks) 0 c.blocks.length, .rsl (rowI c.cars) 0 c.cars.length, .rsl (rowFlt f) 0 f.length, .sl 3 c.cars.length 0 (newT c f).cars.length 4, .sl 1 0 0 (newT c f).gos.length 1, .int .i64 0, .int .i64 (-1), .bool false, .int .i64 0, .int .i64 0], false⟩, ⟨true, c.cars.length, 4, true, (rowCar (newT c f).cars), true⟩] := lent_of0 Try.func44 f44b fun E hE => by
  obtain ⟨h1, h2, h3⟩ := h
  have key : ∀ (d i : Nat), i + d = c.cars.length → f44G0 E c f (newT c f).gos i ((newT c f).cars.take i) := by
    intro d
    induction d with
    | zero =>
      intro i hi
      refine f44W0 c f _ i _ (rv := ()) hE ⟨fun h => by omega, fun _ => ⟨rfl, ?_, by omega⟩⟩
      rw [List.take_of_length_le (by simp [newT]; omega)]
    | succ d ih =>
      intro i hi
      have hx : c.cars[i]? = some (c.cars.getD i 0) := getD_some (by omega)
      have hin := h3 _ (List.mem_of_getElem? hx)
      have nx := ih (i + 1) (by omega)
      have hy : (newT c f).cars[i]? = some ⟨⟨c.cars.getD i 0, (bkAt c (c.cars.getD i 0)).time, false⟩, 0⟩ := by rw [newT, List.getElem?_map, hx]; rfl
      rw [List.take_add_one, hy] at nx
      exact f44W0 c f _ i _ (rv := ()) hE ⟨fun _ => ⟨_, hx, hin.1, _, bk_at hin, by simp [newT]; omega, by omega, nx⟩, fun h => by omega⟩
  exact f44W c f (rv := ()) hE ⟨by omega, key c.cars.length 0 (by omega)⟩

theorem f19b : Try.f19.body = some (bodyAt Try.prog 19) := by kernel_rfl
def f19K0 (P : Program) : List Item := kAt 400 [.code (bodyAt P 19)] [.b false, .stop]
def f19S0 (c : Cir) (ticks : Int) (l : (List Prs)) (f : (List Flt)) (v4 : List Car) (v2 : List Bool) (v5 : List (List Spt)) (i : Nat) (v3_5 : Int) (v3_6 : Int) (v3_7 : Bool) (v3_8 : Int) (v3_9 : Int) (g5 : Nat) : St := ⟨[J, J, .rsl (rowPrs l) 0 l.length, J, J, J, J, J, .sl 5 g5 0 v5.length 1, J, J, .ptr 3 0 0, J, J, J, J, J, J, J, J, J, J, J, .int .i64 ticks, .int .i64 (i : Int), J, J, J, J, J, J, J, J, J, J, J], [⟨true, 0, 1, true, [.rsl (rowBk c.blocks) 0 c.blocks.length, .rsl (rowI c.cars) 0 c.cars.length], false⟩, ⟨true, 0, 1, true, [.rsl (rowBk c.blocks) 0 c.blocks.length, .rsl (rowI c.cars) 0 c.cars.length], false⟩, ⟨true, 0, 1, true, (rowB v2), true⟩, ⟨true, 0, 1, false, [.rsl (rowBk c.blocks) 0 c.blocks.length, .rsl (rowI c.cars) 0 c.cars.length, .rsl (rowFlt f) 0 f.length, .sl 4 c.cars.length 0 v4.length 4, .sl 2 0 0 v2.length 1, .int .i64 v3_5, .int .i64 v3_6, .bool v3_7, .int .i64 v3_8, .int .i64 v3_9], false⟩, ⟨true, c.cars.length, 4, true, (rowCar v4), true⟩, ⟨true, g5, 1, true, ((rowLs rowSpt) v5), true⟩]⟩
def f19G0 (E : Env) (c : Cir) (ticks : Int) (l : (List Prs)) (f : (List Flt)) (v4 : List Car) (v2 : List Bool) (v5 : List (List Spt)) (i : Nat) (v3_5 : Int) (v3_6 : Int) (v3_7 : Bool) (v3_8 : Int) (v3_9 : Int) : Prop := ∀ g5 : Nat, G Try.prog E (f19K0 Try.prog) (f19S0 c ticks l f v4 v2 v5 i v3_5 v3_6 v3_7 v3_8 v3_9 g5)
theorem p19_start_0 (c : Cir) (ticks : Int) (l : (List Prs)) (f : (List Flt))   {E : Env} {res : AV} (hE : PureE Try.prog 19 res E) (ho : AllP [PureF Try.prog (.clos 43 [] []) [.agg [.rsl (rowBk c.blocks) 0 c.blocks.length, .rsl (rowI c.cars) 0 c.cars.length], .int .i64 ticks, .rsl (rowPrs l) 0 l.length, .rsl (rowFlt f) 0 f.length] (.int .i64 (checkP c ticks l f)), ((checkP c ticks l f) != 0) = true])
    (hr : AvLe (.tup [.nilSl, .int .i64 (checkP c ticks l f)]) res) : G Try.prog E [.code (bodyAt Try.prog 19)] ⟨[.agg [.rsl (rowBk c.blocks) 0 c.blocks.length, .rsl (rowI c.cars) 0 c.cars.length], .int .i64 ticks, .rsl (rowPrs l) 0 l.length, .rsl (rowFlt f) 0 f.length] ++ unds (Try.f19.ntmps - 4), []⟩ :=
  end_stepL (n := 400) (evs := [.v (.int .i64 (checkP c ticks l f)), .b true]) (obs := _) hE Try.func19 mixed (by kernel_rfl) ho hr
theorem p19_start_1 (c : Cir) (ticks : Int) (l : (List Prs)) (f : (List Flt))   {E : Env} {rv : AV} (hE : PureE Try.prog 19 rv E) (ho : AllP [PureF Try.prog (.clos 43 [] []) [.agg [.rsl (rowBk c.blocks) 0 c.blocks.length, .rsl (rowI c.cars) 0 c.cars.length], .int .i64 ticks, .rsl (rowPrs l) 0 l.length, .rsl (rowFlt f) 0 f.length] (.int .i64 (checkP c ticks l f)), ((checkP c ticks l f) != 0) = false, LentF Try.prog (.clos 44 [] []) [.agg [.rsl (rowBk c.blocks) 0 c.blocks.length, .rsl (rowI c.cars) 0 c.cars.length], .rsl (rowFlt f) 0 f.length] [] (.ptr 2 0 0) [⟨true, 0, 1, true, [.rsl (rowBk c.blocks) 0 c.blocks.length, .rsl (rowI c.cars) 0 c.cars.length], false⟩, ⟨true, 0, 1, true, (rowB (newT c f).gos), true⟩, ⟨true, 0, 1, false, [.rsl (rowBk c.blocks) 0 c.blocks.length, .rsl (rowI c.cars) 0 c.cars.length, .rsl (rowFlt f) 0 f.length, .sl 3 c.cars.length 0 ((newT c f).cars.length) 4, .sl 1 0 0 ((newT c f).gos.length) 1, .int .i64 0, .int .i64 (-1), .bool false, .int .i64 0, .int .i64 0], false⟩, ⟨true, c.cars.length, 4, true, (rowCar (newT c f).cars), true⟩]])
    (hg : G Try.prog E (f19K0 Try.prog) ⟨[J, J, .rsl (rowPrs l) 0 l.length, J, J, J, J, J, .sl 5 0 0 0 1, J, J, .ptr 3 0 0, J, J, J, J, J, J, J, J, J, J, J, .int .i64 ticks, .int .i64 0, J, J, J, J, J, J, J, J, J, J, J], [⟨true, 0, 1, true, [.rsl (rowBk c.blocks) 0 c.blocks.length, .rsl (rowI c.cars) 0 c.cars.length], false⟩, ⟨true, 0, 1, true, [.rsl (rowBk c.blocks) 0 c.blocks.length, .rsl (rowI c.cars) 0 c.cars.length], false⟩, ⟨true, 0, 1, true, (rowB (newT c f).gos), true⟩, ⟨true, 0, 1, false, [.rsl (rowBk c.blocks) 0 c.blocks.length, .rsl (rowI c.cars) 0 c.cars.length, .rsl (rowFlt f) 0 f.length, .sl 4 c.cars.length 0 ((newT c f).cars.length) 4, .sl 2 0 0 ((newT c f).gos.length) 1, .int .i64 0, .int .i64 (-1), .bool false, .int .i64 0, .int .i64 0], false⟩, ⟨true, c.cars.length, 4, true, (rowCar (newT c f).cars), true⟩, ⟨true, 0, 1, true, [], true⟩]⟩) : G Try.prog E [.code (bodyAt Try.prog 19)] ⟨[.agg [.rsl (rowBk c.blocks) 0 c.blocks.length, .rsl (rowI c.cars) 0 c.cars.length], .int .i64 ticks, .rsl (rowPrs l) 0 l.length, .rsl (rowFlt f) 0 f.length] ++ unds (Try.f19.ntmps - 4), []⟩ :=
  segC_step (n := 400) (ds := [(8, 1)]) (cs := []) (live := [2, 8, 11, 23, 24]) (m := 6) (evs := [.v (.int .i64 (checkP c ticks l f)), .b false, .lent [] (.ptr 2 0 0) [⟨true, 0, 1, true, [.rsl (rowBk c.blocks) 0 c.blocks.length, .rsl (rowI c.cars) 0 c.cars.length], false⟩, ⟨true, 0, 1, true, (rowB (newT c f).gos), true⟩, ⟨true, 0, 1, false, [.rsl (rowBk c.blocks) 0 c.blocks.length, .rsl (rowI c.cars) 0 c.cars.length, .rsl (rowFlt f) 0 f.length, .sl 3 c.cars.length 0 ((newT c f).cars.length) 4, .sl 1 0 0 ((newT c f).gos.length) 1, .int .i64 0, .int .i64 (-1), .bool false, .int .i64 0, .int .i64 0], false⟩, ⟨true, c.cars.length, 4, true, (rowCar (newT c f).cars), true⟩], .stop]) (obs := _) hE.2.1 (hE.nogh _) mixed (by kernel_rfl) ho hg
theorem f19W (c : Cir) (ticks : Int) (l : (List Prs)) (f : (List Flt)) {E : Env} {rv : ((List (List Spt)) × Int)} (hE : PureE Try.prog 19 (.tup [.rsl ((rowLs rowSpt) rv.1) 0 rv.1.length, .int .i64 rv.2]) E)
    (h : (((c.blocks.length ≤ 9223372036854775807 ∧ c.cars.length ≤ 9223372036854775807) ∧ l.length ≤ 9223372036854775807 ∧ f.length ≤ 9223372036854775807) ∧ ((¬ ((checkP c ticks l f) = 0) → rv = (([] : List (List Spt)), (checkP c ticks l f))) ∧ ((checkP c ticks l f) = 0 → ((NewIn c) ∧ f19G0 E c ticks l f ((newT c f).cars) ((newT c f).gos) ([]) 0 0 (-1) false 0 0))))) : G Try.prog E [.code (bodyAt Try.prog 19)] ⟨[.agg [.rsl (rowBk c.blocks) 0 c.blocks.length, .rsl (rowI c.cars) 0 c.cars.length], .int .i64 ticks, .rsl (rowPrs l) 0 l.length, .rsl (rowFlt f) 0 f.length] ++ unds (Try.f19.ntmps - 4), []⟩ := by
  obtain ⟨h1, h⟩ := h
  rcases Bool.eq_false_or_eq_true ((checkP c ticks l f) != 0) with hc0 | hc0
  · have h := h.1 (bneT hc0)
    exact p19_start_0 c ticks l f    hE ⟨(pureF_of Try.func43 (by kernel_rfl) f43b (checkP_ok c ticks l f h1)), hc0, trivial⟩ (by rw [h]; exact (tup_le ⟨nil_le, ⟨AvLe.of_eq rfl, trivial⟩⟩))
  · have h := h.2 (bneF hc0)
    obtain ⟨h2, h⟩ := h
    exact p19_start_1 c ticks l f    hE ⟨(pureF_of Try.func43 (by kernel_rfl) f43b (checkP_ok c ticks l f h1)), hc0, (lentF_of Try.func44 (by kernel_rfl) f44b (newTrack_ok c f h2)), trivial⟩ (h 0)
theorem p19_0_0 (c : Cir) (ticks : Int) (l : (List Prs)) (f : (List Flt)) (v4 : List Car) (v2 : List Bool) (v5 : List (List Spt)) (i : Nat) (v3_5 : Int) (v3_6 : Int) (v3_7 : Bool) (v3_8 : Int) (v3_9 : Int) (g5 : Nat)  {E : Env} {rv : AV} (hE : PureE Try.prog 19 rv E) (ho : AllP [(decide ((i : Int) < ticks)) = true, LentF Try.prog (.clos 45 [] []) [.ptr 0 0 0, .rsl (rowPrs l) 0 l.length] [⟨true, 0, 1, false, [.rsl (rowBk c.blocks) 0 c.blocks.length, .rsl (rowI c.cars) 0 c.cars.length, .rsl (rowFlt f) 0 f.length, .sl 1 c.cars.length 0 v4.length 4, .sl 2 0 0 v2.length 1, .int .i64 v3_5, .int .i64 v3_6, .bool v3_7, .int .i64 v3_8, .int .i64 v3_9], false⟩, ⟨true, c.cars.length, 4, true, (rowCar v4), true⟩, ⟨true, 0, 1, true, (rowB v2), true⟩] (.tup []) [⟨true, 0, 1, false, [.rsl (rowBk c.blocks) 0 c.blocks.length, .rsl (rowI c.cars) 0 c.cars.length, .rsl (rowFlt f) 0 f.length, .sl 1 c.cars.length 0 ((stepT (⟨c, f, v4, v2, v3_5, v3_6, v3_7, v3_8, v3_9⟩ : Trk) l).cars.length) 4, .sl 2 0 0 ((stepT (⟨c, f, v4, v2, v3_5, v3_6, v3_7, v3_8, v3_9⟩ : Trk) l).gos.length) 1, .int .i64 ((stepT (⟨c, f, v4, v2, v3_5, v3_6, v3_7, v3_8, v3_9⟩ : Trk) l).tick), .int .i64 ((stepT (⟨c, f, v4, v2, v3_5, v3_6, v3_7, v3_8, v3_9⟩ : Trk) l).stopped), .bool ((stepT (⟨c, f, v4, v2, v3_5, v3_6, v3_7, v3_8, v3_9⟩ : Trk) l).wrecked), .int .i64 ((stepT (⟨c, f, v4, v2, v3_5, v3_6, v3_7, v3_8, v3_9⟩ : Trk) l).rounds), .int .i64 ((stepT (⟨c, f, v4, v2, v3_5, v3_6, v3_7, v3_8, v3_9⟩ : Trk) l).gone)], false⟩, ⟨true, c.cars.length, 4, true, (rowCar (stepT (⟨c, f, v4, v2, v3_5, v3_6, v3_7, v3_8, v3_9⟩ : Trk) l).cars), true⟩, ⟨true, 0, 1, true, (rowB (stepT (⟨c, f, v4, v2, v3_5, v3_6, v3_7, v3_8, v3_9⟩ : Trk) l).gos), true⟩], PureN Try.prog (.clos 46 [] []) [.rptr [.rsl (rowBk c.blocks) 0 c.blocks.length, .rsl (rowI c.cars) 0 c.cars.length, .rsl (rowFlt f) 0 f.length, .rsl (rowCar (stepT (⟨c, f, v4, v2, v3_5, v3_6, v3_7, v3_8, v3_9⟩ : Trk) l).cars) 0 ((stepT (⟨c, f, v4, v2, v3_5, v3_6, v3_7, v3_8, v3_9⟩ : Trk) l).cars.length), .rsl (rowB (stepT (⟨c, f, v4, v2, v3_5, v3_6, v3_7, v3_8, v3_9⟩ : Trk) l).gos) 0 ((stepT (⟨c, f, v4, v2, v3_5, v3_6, v3_7, v3_8, v3_9⟩ : Trk) l).gos.length), .int .i64 ((stepT (⟨c, f, v4, v2, v3_5, v3_6, v3_7, v3_8, v3_9⟩ : Trk) l).tick), .int .i64 ((stepT (⟨c, f, v4, v2, v3_5, v3_6, v3_7, v3_8, v3_9⟩ : Trk) l).stopped), .bool ((stepT (⟨c, f, v4, v2, v3_5, v3_6, v3_7, v3_8, v3_9⟩ : Trk) l).wrecked), .int .i64 ((stepT (⟨c, f, v4, v2, v3_5, v3_6, v3_7, v3_8, v3_9⟩ : Trk) l).rounds), .int .i64 ((stepT (⟨c, f, v4, v2, v3_5, v3_6, v3_7, v3_8, v3_9⟩ : Trk) l).gone)] 0] (.rsl (rowSpt ((⟨c, f, (stepT (⟨c, f, v4, v2, v3_5, v3_6, v3_7, v3_8, v3_9⟩ : Trk) l).cars, (stepT (⟨c, f, v4, v2, v3_5, v3_6, v3_7, v3_8, v3_9⟩ : Trk) l).gos, (stepT (⟨c, f, v4, v2, v3_5, v3_6, v3_7, v3_8, v3_9⟩ : Trk) l).tick, (stepT (⟨c, f, v4, v2, v3_5, v3_6, v3_7, v3_8, v3_9⟩ : Trk) l).stopped, (stepT (⟨c, f, v4, v2, v3_5, v3_6, v3_7, v3_8, v3_9⟩ : Trk) l).wrecked, (stepT (⟨c, f, v4, v2, v3_5, v3_6, v3_7, v3_8, v3_9⟩ : Trk) l).rounds, (stepT (⟨c, f, v4, v2, v3_5, v3_6, v3_7, v3_8, v3_9⟩ : Trk) l).gone⟩ : Trk).cars.map Car.spot)) 0 (((⟨c, f, (stepT (⟨c, f, v4, v2, v3_5, v3_6, v3_7, v3_8, v3_9⟩ : Trk) l).cars, (stepT (⟨c, f, v4, v2, v3_5, v3_6, v3_7, v3_8, v3_9⟩ : Trk) l).gos, (stepT (⟨c, f, v4, v2, v3_5, v3_6, v3_7, v3_8, v3_9⟩ : Trk) l).tick, (stepT (⟨c, f, v4, v2, v3_5, v3_6, v3_7, v3_8, v3_9⟩ : Trk) l).stopped, (stepT (⟨c, f, v4, v2, v3_5, v3_6, v3_7, v3_8, v3_9⟩ : Trk) l).wrecked, (stepT (⟨c, f, v4, v2, v3_5, v3_6, v3_7, v3_8, v3_9⟩ : Trk) l).rounds, (stepT (⟨c, f, v4, v2, v3_5, v3_6, v3_7, v3_8, v3_9⟩ : Trk) l).gone⟩ : Trk).cars.map Car.spot).length)), c.cars.length = c.cars.length, 0 = 0, g5 = g5, (0 + (v5.length * 1)) = ((rowLs rowSpt) v5).length, (v5.length + 1) ≤ 2147483648, 0 = 0, InR .i64 ((i : Int) + 1)])
    (hg : G Try.prog E (f19K0 Try.prog) ⟨[J, J, .rsl (rowPrs l) 0 l.length, J, J, J, J, J, .sl 5 (g5 + 1) 0 (v5.length + 1) 1, J, J, .ptr 3 0 0, J, J, J, J, J, J, J, J, J, J, J, .int .i64 ticks, .int .i64 ((i : Int) + 1), J, J, J, J, J, J, J, J, J, J, J], [⟨true, 0, 1, true, [.rsl (rowBk c.blocks) 0 c.blocks.length, .rsl (rowI c.cars) 0 c.cars.length], false⟩, ⟨true, 0, 1, true, [.rsl (rowBk c.blocks) 0 c.blocks.length, .rsl (rowI c.cars) 0 c.cars.length], false⟩, ⟨true, 0, 1, true, (rowB (stepT (⟨c, f, v4, v2, v3_5, v3_6, v3_7, v3_8, v3_9⟩ : Trk) l).gos), true⟩, ⟨true, 0, 1, false, [.rsl (rowBk c.blocks) 0 c.blocks.length, .rsl (rowI c.cars) 0 c.cars.length, .rsl (rowFlt f) 0 f.length, .sl 4 c.cars.length 0 ((stepT (⟨c, f, v4, v2, v3_5, v3_6, v3_7, v3_8, v3_9⟩ : Trk) l).cars.length) 4, .sl 2 0 0 ((stepT (⟨c, f, v4, v2, v3_5, v3_6, v3_7, v3_8, v3_9⟩ : Trk) l).gos.length) 1, .int .i64 ((stepT (⟨c, f, v4, v2, v3_5, v3_6, v3_7, v3_8, v3_9⟩ : Trk) l).tick), .int .i64 ((stepT (⟨c, f, v4, v2, v3_5, v3_6, v3_7, v3_8, v3_9⟩ : Trk) l).stopped), .bool ((stepT (⟨c, f, v4, v2, v3_5, v3_6, v3_7, v3_8, v3_9⟩ : Trk) l).wrecked), .int .i64 ((stepT (⟨c, f, v4, v2, v3_5, v3_6, v3_7, v3_8, v3_9⟩ : Trk) l).rounds), .int .i64 ((stepT (⟨c, f, v4, v2, v3_5, v3_6, v3_7, v3_8, v3_9⟩ : Trk) l).gone)], false⟩, ⟨true, c.cars.length, 4, true, (rowCar (stepT (⟨c, f, v4, v2, v3_5, v3_6, v3_7, v3_8, v3_9⟩ : Trk) l).cars), true⟩, ⟨true, (g5 + 1), 1, true, (((rowLs rowSpt) v5) ++ [.rsl (rowSpt ((⟨c, f, (stepT (⟨c, f, v4, v2, v3_5, v3_6, v3_7, v3_8, v3_9⟩ : Trk) l).cars, (stepT (⟨c, f, v4, v2, v3_5, v3_6, v3_7, v3_8, v3_9⟩ : Trk) l).gos, (stepT (⟨c, f, v4, v2, v3_5, v3_6, v3_7, v3_8, v3_9⟩ : Trk) l).tick, (stepT (⟨c, f, v4, v2, v3_5, v3_6, v3_7, v3_8, v3_9⟩ : Trk) l).stopped, (stepT (⟨c, f, v4, v2, v3_5, v3_6, v3_7, v3_8, v3_9⟩ : Trk) l).wrecked, (stepT (⟨c, f, v4, v2, v3_5, v3_6, v3_7, v3_8, v3_9⟩ : Trk) l).rounds, (stepT (⟨c, f, v4, v2, v3_5, v3_6, v3_7, v3_8, v3_9⟩ : Trk) l).gone⟩ : Trk).cars.map Car.spot)) 0 (((⟨c, f, (stepT (⟨c, f, v4, v2, v3_5, v3_6, v3_7, v3_8, v3_9⟩ : Trk) l).cars, (stepT (⟨c, f, v4, v2, v3_5, v3_6, v3_7, v3_8, v3_9⟩ : Trk) l).gos, (stepT (⟨c, f, v4, v2, v3_5, v3_6, v3_7, v3_8, v3_9⟩ : Trk) l).tick, (stepT (⟨c, f, v4, v2, v3_5, v3_6, v3_7, v3_8, v3_9⟩ : Trk) l).stopped, (stepT (⟨c, f, v4, v2, v3_5, v3_6, v3_7, v3_8, v3_9⟩ : Trk) l).wrecked, (stepT (⟨c, f, v4, v2, v3_5, v3_6, v3_7, v3_8, v3_9⟩ : Trk) l).rounds, (stepT (⟨c, f, v4, v2, v3_5, v3_6, v3_7, v3_8, v3_9⟩ : Trk) l).gone⟩ : Trk).cars.map Car.spot).length)]), true⟩]⟩) : G Try.prog E (f19K0 Try.prog) (f19S0 c ticks l f v4 v2 v5 i v3_5 v3_6 v3_7 v3_8 v3_9 g5) :=
  segC_step (n := 400) (ds := []) (cs := []) (live := [2, 8, 11, 23, 24]) (m := 6) (evs := [.b true, .lent [3, 4, 2] (.tup []) [⟨true, 0, 1, false, [.rsl (rowBk c.blocks) 0 c.blocks.length, .rsl (rowI c.cars) 0 c.cars.length, .rsl (rowFlt f) 0 f.length, .sl 1 c.cars.length 0 ((stepT (⟨c, f, v4, v2, v3_5, v3_6, v3_7, v3_8, v3_9⟩ : Trk) l).cars.length) 4, .sl 2 0 0 ((stepT (⟨c, f, v4, v2, v3_5, v3_6, v3_7, v3_8, v3_9⟩ : Trk) l).gos.length) 1, .int .i64 ((stepT (⟨c, f, v4, v2, v3_5, v3_6, v3_7, v3_8, v3_9⟩ : Trk) l).tick), .int .i64 ((stepT (⟨c, f, v4, v2, v3_5, v3_6, v3_7, v3_8, v3_9⟩ : Trk) l).stopped), .bool ((stepT (⟨c, f, v4, v2, v3_5, v3_6, v3_7, v3_8, v3_9⟩ : Trk) l).wrecked), .int .i64 ((stepT (⟨c, f, v4, v2, v3_5, v3_6, v3_7, v3_8, v3_9⟩ : Trk) l).rounds), .int .i64 ((stepT (⟨c, f, v4, v2, v3_5, v3_6, v3_7, v3_8, v3_9⟩ : Trk) l).gone)], false⟩, ⟨true, c.cars.length, 4, true, (rowCar (stepT (⟨c, f, v4, v2, v3_5, v3_6, v3_7, v3_8, v3_9⟩ : Trk) l).cars), true⟩, ⟨true, 0, 1, true, (rowB (stepT (⟨c, f, v4, v2, v3_5, v3_6, v3_7, v3_8, v3_9⟩ : Trk) l).gos), true⟩], .vn (.rsl (rowSpt ((⟨c, f, (stepT (⟨c, f, v4, v2, v3_5, v3_6, v3_7, v3_8, v3_9⟩ : Trk) l).cars, (stepT (⟨c, f, v4, v2, v3_5, v3_6, v3_7, v3_8, v3_9⟩ : Trk) l).gos, (stepT (⟨c, f, v4, v2, v3_5, v3_6, v3_7, v3_8, v3_9⟩ : Trk) l).tick, (stepT (⟨c, f, v4, v2, v3_5, v3_6, v3_7, v3_8, v3_9⟩ : Trk) l).stopped, (stepT (⟨c, f, v4, v2, v3_5, v3_6, v3_7, v3_8, v3_9⟩ : Trk) l).wrecked, (stepT (⟨c, f, v4, v2, v3_5, v3_6, v3_7, v3_8, v3_9⟩ : Trk) l).rounds, (stepT (⟨c, f, v4, v2, v3_5, v3_6, v3_7, v3_8, v3_9⟩ : Trk) l).gone⟩ : Trk).cars.map Car.spot)) 0 (((⟨c, f, (stepT (⟨c, f, v4, v2, v3_5, v3_6, v3_7, v3_8, v3_9⟩ : Trk) l).cars, (stepT (⟨c, f, v4, v2, v3_5, v3_6, v3_7, v3_8, v3_9⟩ : Trk) l).gos, (stepT (⟨c, f, v4, v2, v3_5, v3_6, v3_7, v3_8, v3_9⟩ : Trk) l).tick, (stepT (⟨c, f, v4, v2, v3_5, v3_6, v3_7, v3_8, v3_9⟩ : Trk) l).stopped, (stepT (⟨c, f, v4, v2, v3_5, v3_6, v3_7, v3_8, v3_9⟩ : Trk) l).wrecked, (stepT (⟨c, f, v4, v2, v3_5, v3_6, v3_7, v3_8, v3_9⟩ : Trk) l).rounds, (stepT (⟨c, f, v4, v2, v3_5, v3_6, v3_7, v3_8, v3_9⟩ : Trk) l).gone⟩ : Trk).cars.map Car.spot).length)), .stop]) (obs := _) hE.2.1 (hE.nogh _) mixed (by kernel_rfl) ho hg
theorem p19_0_1 (c : Cir) (ticks : Int) (l : (List Prs)) (f : (List Flt)) (v4 : List Car) (v2 : List Bool) (v5 : List (List Spt)) (i : Nat) (v3_5 : Int) (v3_6 : Int) (v3_7 : Bool) (v3_8 : Int) (v3_9 : Int) (g5 : Nat)  {E : Env} {res : AV} (hE : PureE Try.prog 19 res E) (ho : AllP [(decide ((i : Int) < ticks)) = false, g5 = g5])
    (hr : AvLe (.tup [.rsl ((rowLs rowSpt) v5) 0 v5.length, .int .i64 0]) res) : G Try.prog E (f19K0 Try.prog) (f19S0 c ticks l f v4 v2 v5 i v3_5 v3_6 v3_7 v3_8 v3_9 g5) :=
  end_stepL (n := 400) (evs := [.b false]) (obs := _) hE Try.func19 mixed (by kernel_rfl) ho hr
theorem f19W0 (c : Cir) (ticks : Int) (l : (List Prs)) (f : (List Flt)) (v4 : List Car) (v2 : List Bool) (v5 : List (List Spt)) (i : Nat) (v3_5 : Int) (v3_6 : Int) (v3_7 : Bool) (v3_8 : Int) (v3_9 : Int) {E : Env} {rv : ((List (List Spt)) × Int)} (hE : PureE Try.prog 19 (.tup [.rsl ((rowLs rowSpt) rv.1) 0 rv.1.length, .int .i64 rv.2]) E)
    (h : (((i : Int) < ticks → ((StepIn (⟨c, f, v4, v2, v3_5, v3_6, v3_7, v3_8, v3_9⟩ : Trk) l) ∧ (((⟨c, f, (stepT (⟨c, f, v4, v2, v3_5, v3_6, v3_7, v3_8, v3_9⟩ : Trk) l).cars, (stepT (⟨c, f, v4, v2, v3_5, v3_6, v3_7, v3_8, v3_9⟩ : Trk) l).gos, (stepT (⟨c, f, v4, v2, v3_5, v3_6, v3_7, v3_8, v3_9⟩ : Trk) l).tick, (stepT (⟨c, f, v4, v2, v3_5, v3_6, v3_7, v3_8, v3_9⟩ : Trk) l).stopped, (stepT (⟨c, f, v4, v2, v3_5, v3_6, v3_7, v3_8, v3_9⟩ : Trk) l).wrecked, (stepT (⟨c, f, v4, v2, v3_5, v3_6, v3_7, v3_8, v3_9⟩ : Trk) l).rounds, (stepT (⟨c, f, v4, v2, v3_5, v3_6, v3_7, v3_8, v3_9⟩ : Trk) l).gone⟩ : Trk).cars.length ≤ 2147483648) ∧ ((v5.length + 1) ≤ 2147483648 ∧ ((-9223372036854775808 ≤ (i : Int) + 1 ∧ (i : Int) + 1 ≤ 9223372036854775807) ∧ f19G0 E c ticks l f ((stepT (⟨c, f, v4, v2, v3_5, v3_6, v3_7, v3_8, v3_9⟩ : Trk) l).cars) ((stepT (⟨c, f, v4, v2, v3_5, v3_6, v3_7, v3_8, v3_9⟩ : Trk) l).gos) (v5 ++ [((⟨c, f, (stepT (⟨c, f, v4, v2, v3_5, v3_6, v3_7, v3_8, v3_9⟩ : Trk) l).cars, (stepT (⟨c, f, v4, v2, v3_5, v3_6, v3_7, v3_8, v3_9⟩ : Trk) l).gos, (stepT (⟨c, f, v4, v2, v3_5, v3_6, v3_7, v3_8, v3_9⟩ : Trk) l).tick, (stepT (⟨c, f, v4, v2, v3_5, v3_6, v3_7, v3_8, v3_9⟩ : Trk) l).stopped, (stepT (⟨c, f, v4, v2, v3_5, v3_6, v3_7, v3_8, v3_9⟩ : Trk) l).wrecked, (stepT (⟨c, f, v4, v2, v3_5, v3_6, v3_7, v3_8, v3_9⟩ : Trk) l).rounds, (stepT (⟨c, f, v4, v2, v3_5, v3_6, v3_7, v3_8, v3_9⟩ : Trk) l).gone⟩ : Trk).cars.map Car.spot)]) (i + 1) ((stepT (⟨c, f, v4, v2, v3_5, v3_6, v3_7, v3_8, v3_9⟩ : Trk) l).tick) ((stepT (⟨c, f, v4, v2, v3_5, v3_6, v3_7, v3_8, v3_9⟩ : Trk) l).stopped) ((stepT (⟨c, f, v4, v2, v3_5, v3_6, v3_7, v3_8, v3_9⟩ : Trk) l).wrecked) ((stepT (⟨c, f, v4, v2, v3_5, v3_6, v3_7, v3_8, v3_9⟩ : Trk) l).rounds) ((stepT (⟨c, f, v4, v2, v3_5, v3_6, v3_7, v3_8, v3_9⟩ : Trk) l).gone)))))) ∧ (¬ ((i : Int) < ticks) → rv = (v5, 0)))) : f19G0 E c ticks l f v4 v2 v5 i v3_5 v3_6 v3_7 v3_8 v3_9 := by
  intro g5
  rcases Bool.eq_false_or_eq_true (decide ((i : Int) < ticks)) with hc0 | hc0
  · have h := h.1 (of_decide_eq_true hc0)
    obtain ⟨h1, h⟩ := h
    obtain ⟨h2, h⟩ := h
    obtain ⟨h3, h⟩ := h
    obtain ⟨q9_1, h⟩ := h
    refine p19_0_0 c ticks l f v4 v2 v5 i v3_5 v3_6 v3_7 v3_8 v3_9 g5  hE ⟨hc0, (lentF_of Try.func45 (by kernel_rfl) f45b (step2_ok l c f v4 v2 v3_5 v3_6 v3_7 v3_8 v3_9 c.cars.length 0 h1)), (by rw [(show AV.rsl (rowCar (stepT (⟨c, f, v4, v2, v3_5, v3_6, v3_7, v3_8, v3_9⟩ : Trk) l).cars) 0 ((stepT (⟨c, f, v4, v2, v3_5, v3_6, v3_7, v3_8, v3_9⟩ : Trk) l).cars.length) = AV.rsl (rowCar ((stepT (⟨c, f, v4, v2, v3_5, v3_6, v3_7, v3_8, v3_9⟩ : Trk) l).cars)) 0 ((stepT (⟨c, f, v4, v2, v3_5, v3_6, v3_7, v3_8, v3_9⟩ : Trk) l).cars).length from by rw [show ((stepT (⟨c, f, v4, v2, v3_5, v3_6, v3_7, v3_8, v3_9⟩ : Trk) l).cars.length) = ((stepT (⟨c, f, v4, v2, v3_5, v3_6, v3_7, v3_8, v3_9⟩ : Trk) l).cars).length from by simp])]; rw [(show AV.rsl (rowB (stepT (⟨c, f, v4, v2, v3_5, v3_6, v3_7, v3_8, v3_9⟩ : Trk) l).gos) 0 ((stepT (⟨c, f, v4, v2, v3_5, v3_6, v3_7, v3_8, v3_9⟩ : Trk) l).gos.length) = AV.rsl (rowB ((stepT (⟨c, f, v4, v2, v3_5, v3_6, v3_7, v3_8, v3_9⟩ : Trk) l).gos)) 0 ((stepT (⟨c, f, v4, v2, v3_5, v3_6, v3_7, v3_8, v3_9⟩ : Trk) l).gos).length from by rw [show ((stepT (⟨c, f, v4, v2, v3_5, v3_6, v3_7, v3_8, v3_9⟩ : Trk) l).gos.length) = ((stepT (⟨c, f, v4, v2, v3_5, v3_6, v3_7, v3_8, v3_9⟩ : Trk) l).gos).length from by simp])]; exact (pureNF_of Try.func46 (by kernel_rfl) f46b (row_ok (⟨c, f, (stepT (⟨c, f, v4, v2, v3_5, v3_6, v3_7, v3_8, v3_9⟩ : Trk) l).cars, (stepT (⟨c, f, v4, v2, v3_5, v3_6, v3_7, v3_8, v3_9⟩ : Trk) l).gos, (stepT (⟨c, f, v4, v2, v3_5, v3_6, v3_7, v3_8, v3_9⟩ : Trk) l).tick, (stepT (⟨c, f, v4, v2, v3_5, v3_6, v3_7, v3_8, v3_9⟩ : Trk) l).stopped, (stepT (⟨c, f, v4, v2, v3_5, v3_6, v3_7, v3_8, v3_9⟩ : Trk) l).wrecked, (stepT (⟨c, f, v4, v2, v3_5, v3_6, v3_7, v3_8, v3_9⟩ : Trk) l).rounds, (stepT (⟨c, f, v4, v2, v3_5, v3_6, v3_7, v3_8, v3_9⟩ : Trk) l).gone⟩ : Trk) h2))), rfl, rfl, rfl, (by have hx := row_len (cLs rowSpt) (s := 1) (fun _ => rfl) v5; simp only [rowLs] at hx ⊢; rw [hx]; simp), h3, rfl, q9_1, trivial⟩ ?_
    rw [(show (rowLs rowSpt) v5 ++ [.rsl (rowSpt ((⟨c, f, (stepT (⟨c, f, v4, v2, v3_5, v3_6, v3_7, v3_8, v3_9⟩ : Trk) l).cars, (stepT (⟨c, f, v4, v2, v3_5, v3_6, v3_7, v3_8, v3_9⟩ : Trk) l).gos, (stepT (⟨c, f, v4, v2, v3_5, v3_6, v3_7, v3_8, v3_9⟩ : Trk) l).tick, (stepT (⟨c, f, v4, v2, v3_5, v3_6, v3_7, v3_8, v3_9⟩ : Trk) l).stopped, (stepT (⟨c, f, v4, v2, v3_5, v3_6, v3_7, v3_8, v3_9⟩ : Trk) l).wrecked, (stepT (⟨c, f, v4, v2, v3_5, v3_6, v3_7, v3_8, v3_9⟩ : Trk) l).rounds, (stepT (⟨c, f, v4, v2, v3_5, v3_6, v3_7, v3_8, v3_9⟩ : Trk) l).gone⟩ : Trk).cars.map Car.spot)) 0 (((⟨c, f, (stepT (⟨c, f, v4, v2, v3_5, v3_6, v3_7, v3_8, v3_9⟩ : Trk) l).cars, (stepT (⟨c, f, v4, v2, v3_5, v3_6, v3_7, v3_8, v3_9⟩ : Trk) l).gos, (stepT (⟨c, f, v4, v2, v3_5, v3_6, v3_7, v3_8, v3_9⟩ : Trk) l).tick, (stepT (⟨c, f, v4, v2, v3_5, v3_6, v3_7, v3_8, v3_9⟩ : Trk) l).stopped, (stepT (⟨c, f, v4, v2, v3_5, v3_6, v3_7, v3_8, v3_9⟩ : Trk) l).wrecked, (stepT (⟨c, f, v4, v2, v3_5, v3_6, v3_7, v3_8, v3_9⟩ : Trk) l).rounds, (stepT (⟨c, f, v4, v2, v3_5, v3_6, v3_7, v3_8, v3_9⟩ : Trk) l).gone⟩ : Trk).cars.map Car.spot).length)] = (rowLs rowSpt) (v5 ++ [((⟨c, f, (stepT (⟨c, f, v4, v2, v3_5, v3_6, v3_7, v3_8, v3_9⟩ : Trk) l).cars, (stepT (⟨c, f, v4, v2, v3_5, v3_6, v3_7, v3_8, v3_9⟩ : Trk) l).gos, (stepT (⟨c, f, v4, v2, v3_5, v3_6, v3_7, v3_8, v3_9⟩ : Trk) l).tick, (stepT (⟨c, f, v4, v2, v3_5, v3_6, v3_7, v3_8, v3_9⟩ : Trk) l).stopped, (stepT (⟨c, f, v4, v2, v3_5, v3_6, v3_7, v3_8, v3_9⟩ : Trk) l).wrecked, (stepT (⟨c, f, v4, v2, v3_5, v3_6, v3_7, v3_8, v3_9⟩ : Trk) l).rounds, (stepT (⟨c, f, v4, v2, v3_5, v3_6, v3_7, v3_8, v3_9⟩ : Trk) l).gone⟩ : Trk).cars.map Car.spot)]) from (row_app (cLs rowSpt) v5 [((⟨c, f, (stepT (⟨c, f, v4, v2, v3_5, v3_6, v3_7, v3_8, v3_9⟩ : Trk) l).cars, (stepT (⟨c, f, v4, v2, v3_5, v3_6, v3_7, v3_8, v3_9⟩ : Trk) l).gos, (stepT (⟨c, f, v4, v2, v3_5, v3_6, v3_7, v3_8, v3_9⟩ : Trk) l).tick, (stepT (⟨c, f, v4, v2, v3_5, v3_6, v3_7, v3_8, v3_9⟩ : Trk) l).stopped, (stepT (⟨c, f, v4, v2, v3_5, v3_6, v3_7, v3_8, v3_9⟩ : Trk) l).wrecked, (stepT (⟨c, f, v4, v2, v3_5, v3_6, v3_7, v3_8, v3_9⟩ : Trk) l).rounds, (stepT (⟨c, f, v4, v2, v3_5, v3_6, v3_7, v3_8, v3_9⟩ : Trk) l).gone⟩ : Trk).cars.map Car.spot)]).symm)]; rw [(show (v5.length + 1) = (v5 ++ [((⟨c, f, (stepT (⟨c, f, v4, v2, v3_5, v3_6, v3_7, v3_8, v3_9⟩ : Trk) l).cars, (stepT (⟨c, f, v4, v2, v3_5, v3_6, v3_7, v3_8, v3_9⟩ : Trk) l).gos, (stepT (⟨c, f, v4, v2, v3_5, v3_6, v3_7, v3_8, v3_9⟩ : Trk) l).tick, (stepT (⟨c, f, v4, v2, v3_5, v3_6, v3_7, v3_8, v3_9⟩ : Trk) l).stopped, (stepT (⟨c, f, v4, v2, v3_5, v3_6, v3_7, v3_8, v3_9⟩ : Trk) l).wrecked, (stepT (⟨c, f, v4, v2, v3_5, v3_6, v3_7, v3_8, v3_9⟩ : Trk) l).rounds, (stepT (⟨c, f, v4, v2, v3_5, v3_6, v3_7, v3_8, v3_9⟩ : Trk) l).gone⟩ : Trk).cars.map Car.spot)]).length from by simp)]; exact (h (g5 + 1))
  · have h := h.2 (of_decide_eq_false hc0)
    exact p19_0_1 c ticks l f v4 v2 v5 i v3_5 v3_6 v3_7 v3_8 v3_9 g5  hE ⟨hc0, rfl, trivial⟩ (AvLe.of_eq (by rw [h]; try rfl))
theorem f23b : Try.f23.body = some (bodyAt Try.prog 23) := by kernel_rfl
def f23K0 (P : Program) : List Item := kAt 400 [.code (bodyAt P 23)] [.b false, .stop]
def f23S0 (c : Cir) (ticks : Int) (l : (List Prs)) (f : (List Flt)) (v4 : List Car) (v2 : List Bool) (i : Nat) (v3_5 : Int) (v3_6 : Int) (v3_7 : Bool) (v3_8 : Int) (v3_9 : Int)  : St := ⟨[J, J, .rsl (rowPrs l) 0 l.length, J, J, J, J, J, J, J, J, .ptr 3 0 0, J, J, J, J, J, J, J, J, J, J, J, .int .i64 ticks, .int .i64 (i : Int), J, J, J, J, J, J, J, J, J], [⟨true, 0, 1, true, [.rsl (rowBk c.blocks) 0 c.blocks.length, .rsl (rowI c.cars) 0 c.cars.length], false⟩, ⟨true, 0, 1, true, [.rsl (rowBk c.blocks) 0 c.blocks.length, .rsl (rowI c.cars) 0 c.cars.length], false⟩, ⟨true, 0, 1, true, (rowB v2), true⟩, ⟨true, 0, 1, false, [.rsl (rowBk c.blocks) 0 c.blocks.length, .rsl (rowI c.cars) 0 c.cars.length, .rsl (rowFlt f) 0 f.length, .sl 4 c.cars.length 0 v4.length 4, .sl 2 0 0 v2.length 1, .int .i64 v3_5, .int .i64 v3_6, .bool v3_7, .int .i64 v3_8, .int .i64 v3_9], false⟩, ⟨true, c.cars.length, 4, true, (rowCar v4), true⟩]⟩
def f23G0 (E : Env) (c : Cir) (ticks : Int) (l : (List Prs)) (f : (List Flt)) (v4 : List Car) (v2 : List Bool) (i : Nat) (v3_5 : Int) (v3_6 : Int) (v3_7 : Bool) (v3_8 : Int) (v3_9 : Int) : Prop := G Try.prog E (f23K0 Try.prog) (f23S0 c ticks l f v4 v2 i v3_5 v3_6 v3_7 v3_8 v3_9 )
theorem p23_start_0 (c : Cir) (ticks : Int) (l : (List Prs)) (f : (List Flt))   {E : Env} {res : AV} (hE : PureE Try.prog 23 res E) (ho : AllP [PureF Try.prog (.clos 43 [] []) [.agg [.rsl (rowBk c.blocks) 0 c.blocks.length, .rsl (rowI c.cars) 0 c.cars.length], .int .i64 ticks, .rsl (rowPrs l) 0 l.length, .rsl (rowFlt f) 0 f.length] (.int .i64 (checkP c ticks l f)), ((checkP c ticks l f) != 0) = true])
    (hr : AvLe (.tup [.int .i64 0, .int .i64 (checkP c ticks l f)]) res) : G Try.prog E [.code (bodyAt Try.prog 23)] ⟨[.agg [.rsl (rowBk c.blocks) 0 c.blocks.length, .rsl (rowI c.cars) 0 c.cars.length], .int .i64 ticks, .rsl (rowPrs l) 0 l.length, .rsl (rowFlt f) 0 f.length] ++ unds (Try.f23.ntmps - 4), []⟩ :=
  end_stepL (n := 400) (evs := [.v (.int .i64 (checkP c ticks l f)), .b true]) (obs := _) hE Try.func23 mixed (by kernel_rfl) ho hr
theorem p23_start_1 (c : Cir) (ticks : Int) (l : (List Prs)) (f : (List Flt))   {E : Env} {rv : AV} (hE : PureE Try.prog 23 rv E) (ho : AllP [PureF Try.prog (.clos 43 [] []) [.agg [.rsl (rowBk c.blocks) 0 c.blocks.length, .rsl (rowI c.cars) 0 c.cars.length], .int .i64 ticks, .rsl (rowPrs l) 0 l.length, .rsl (rowFlt f) 0 f.length] (.int .i64 (checkP c ticks l f)), ((checkP c ticks l f) != 0) = false, LentF Try.prog (.clos 44 [] []) [.agg [.rsl (rowBk c.blocks) 0 c.blocks.length, .rsl (rowI c.cars) 0 c.cars.length], .rsl (rowFlt f) 0 f.length] [] (.ptr 2 0 0) [⟨true, 0, 1, true, [.rsl (rowBk c.blocks) 0 c.blocks.length, .rsl (rowI c.cars) 0 c.cars.length], false⟩, ⟨true, 0, 1, true, (rowB (newT c f).gos), true⟩, ⟨true, 0, 1, false, [.rsl (rowBk c.blocks) 0 c.blocks.length, .rsl (rowI c.cars) 0 c.cars.length, .rsl (rowFlt f) 0 f.length, .sl 3 c.cars.length 0 ((newT c f).cars.length) 4, .sl 1 0 0 ((newT c f).gos.length) 1, .int .i64 0, .int .i64 (-1), .bool false, .int .i64 0, .int .i64 0], false⟩, ⟨true, c.cars.length, 4, true, (rowCar (newT c f).cars), true⟩]])
    (hg : G Try.prog E (f23K0 Try.prog) ⟨[J, J, .rsl (rowPrs l) 0 l.length, J, J, J, J, J, J, J, J, .ptr 3 0 0, J, J, J, J, J, J, J, J, J, J, J, .int .i64 ticks, .int .i64 0, J, J, J, J, J, J, J, J, J], [⟨true, 0, 1, true, [.rsl (rowBk c.blocks) 0 c.blocks.length, .rsl (rowI c.cars) 0 c.cars.length], false⟩, ⟨true, 0, 1, true, [.rsl (rowBk c.blocks) 0 c.blocks.length, .rsl (rowI c.cars) 0 c.cars.length], false⟩, ⟨true, 0, 1, true, (rowB (newT c f).gos), true⟩, ⟨true, 0, 1, false, [.rsl (rowBk c.blocks) 0 c.blocks.length, .rsl (rowI c.cars) 0 c.cars.length, .rsl (rowFlt f) 0 f.length, .sl 4 c.cars.length 0 ((newT c f).cars.length) 4, .sl 2 0 0 ((newT c f).gos.length) 1, .int .i64 0, .int .i64 (-1), .bool false, .int .i64 0, .int .i64 0], false⟩, ⟨true, c.cars.length, 4, true, (rowCar (newT c f).cars), true⟩]⟩) : G Try.prog E [.code (bodyAt Try.prog 23)] ⟨[.agg [.rsl (rowBk c.blocks) 0 c.blocks.length, .rsl (rowI c.cars) 0 c.cars.length], .int .i64 ticks, .rsl (rowPrs l) 0 l.length, .rsl (rowFlt f) 0 f.length] ++ unds (Try.f23.ntmps - 4), []⟩ :=
  segC_step (n := 400) (ds := []) (cs := []) (live := [2, 11, 23, 24]) (m := 5) (evs := [.v (.int .i64 (checkP c ticks l f)), .b false, .lent [] (.ptr 2 0 0) [⟨true, 0, 1, true, [.rsl (rowBk c.blocks) 0 c.blocks.length, .rsl (rowI c.cars) 0 c.cars.length], false⟩, ⟨true, 0, 1, true, (rowB (newT c f).gos), true⟩, ⟨true, 0, 1, false, [.rsl (rowBk c.blocks) 0 c.blocks.length, .rsl (rowI c.cars) 0 c.cars.length, .rsl (rowFlt f) 0 f.length, .sl 3 c.cars.length 0 ((newT c f).cars.length) 4, .sl 1 0 0 ((newT c f).gos.length) 1, .int .i64 0, .int .i64 (-1), .bool false, .int .i64 0, .int .i64 0], false⟩, ⟨true, c.cars.length, 4, true, (rowCar (newT c f).cars), true⟩], .stop]) (obs := _) hE.2.1 (hE.nogh _) mixed (by kernel_rfl) ho hg
theorem f23W (c : Cir) (ticks : Int) (l : (List Prs)) (f : (List Flt)) {E : Env} {rv : (Int × Int)} (hE : PureE Try.prog 23 (.tup [.int .i64 rv.1, .int .i64 rv.2]) E)
    (h : (((c.blocks.length ≤ 9223372036854775807 ∧ c.cars.length ≤ 9223372036854775807) ∧ l.length ≤ 9223372036854775807 ∧ f.length ≤ 9223372036854775807) ∧ ((¬ ((checkP c ticks l f) = 0) → rv = (0, (checkP c ticks l f))) ∧ ((checkP c ticks l f) = 0 → ((NewIn c) ∧ f23G0 E c ticks l f ((newT c f).cars) ((newT c f).gos) 0 0 (-1) false 0 0))))) : G Try.prog E [.code (bodyAt Try.prog 23)] ⟨[.agg [.rsl (rowBk c.blocks) 0 c.blocks.length, .rsl (rowI c.cars) 0 c.cars.length], .int .i64 ticks, .rsl (rowPrs l) 0 l.length, .rsl (rowFlt f) 0 f.length] ++ unds (Try.f23.ntmps - 4), []⟩ := by
  obtain ⟨h1, h⟩ := h
  rcases Bool.eq_false_or_eq_true ((checkP c ticks l f) != 0) with hc0 | hc0
  · have h := h.1 (bneT hc0)
    exact p23_start_0 c ticks l f    hE ⟨(pureF_of Try.func43 (by kernel_rfl) f43b (checkP_ok c ticks l f h1)), hc0, trivial⟩ (AvLe.of_eq (by rw [h]; try rfl))
  · have h := h.2 (bneF hc0)
    obtain ⟨h2, h⟩ := h
    exact p23_start_1 c ticks l f    hE ⟨(pureF_of Try.func43 (by kernel_rfl) f43b (checkP_ok c ticks l f h1)), hc0, (lentF_of Try.func44 (by kernel_rfl) f44b (newTrack_ok c f h2)), trivial⟩ h
theorem p23_0_0 (c : Cir) (ticks : Int) (l : (List Prs)) (f : (List Flt)) (v4 : List Car) (v2 : List Bool) (i : Nat) (v3_5 : Int) (v3_6 : Int) (v3_7 : Bool) (v3_8 : Int) (v3_9 : Int)   {E : Env} {rv : AV} (hE : PureE Try.prog 23 rv E) (ho : AllP [(decide ((i : Int) < ticks)) = true, LentF Try.prog (.clos 45 [] []) [.ptr 0 0 0, .rsl (rowPrs l) 0 l.length] [⟨true, 0, 1, false, [.rsl (rowBk c.blocks) 0 c.blocks.length, .rsl (rowI c.cars) 0 c.cars.length, .rsl (rowFlt f) 0 f.length, .sl 1 c.cars.length 0 v4.length 4, .sl 2 0 0 v2.length 1, .int .i64 v3_5, .int .i64 v3_6, .bool v3_7, .int .i64 v3_8, .int .i64 v3_9], false⟩, ⟨true, c.cars.length, 4, true, (rowCar v4), true⟩, ⟨true, 0, 1, true, (rowB v2), true⟩] (.tup []) [⟨true, 0, 1, false, [.rsl (rowBk c.blocks) 0 c.blocks.length, .rsl (rowI c.cars) 0 c.cars.length, .rsl (rowFlt f) 0 f.length, .sl 1 c.cars.length 0 ((stepT (⟨c, f, v4, v2, v3_5, v3_6, v3_7, v3_8, v3_9⟩ : Trk) l).cars.length) 4, .sl 2 0 0 ((stepT (⟨c, f, v4, v2, v3_5, v3_6, v3_7, v3_8, v3_9⟩ : Trk) l).gos.length) 1, .int .i64 ((stepT (⟨c, f, v4, v2, v3_5, v3_6, v3_7, v3_8, v3_9⟩ : Trk) l).tick), .int .i64 ((stepT (⟨c, f, v4, v2, v3_5, v3_6, v3_7, v3_8, v3_9⟩ : Trk) l).stopped), .bool ((stepT (⟨c, f, v4, v2, v3_5, v3_6, v3_7, v3_8, v3_9⟩ : Trk) l).wrecked), .int .i64 ((stepT (⟨c, f, v4, v2, v3_5, v3_6, v3_7, v3_8, v3_9⟩ : Trk) l).rounds), .int .i64 ((stepT (⟨c, f, v4, v2, v3_5, v3_6, v3_7, v3_8, v3_9⟩ : Trk) l).gone)], false⟩, ⟨true, c.cars.length, 4, true, (rowCar (stepT (⟨c, f, v4, v2, v3_5, v3_6, v3_7, v3_8, v3_9⟩ : Trk) l).cars), true⟩, ⟨true, 0, 1, true, (rowB (stepT (⟨c, f, v4, v2, v3_5, v3_6, v3_7, v3_8, v3_9⟩ : Trk) l).gos), true⟩], InR .i64 ((i : Int) + 1)])
    (hg : G Try.prog E (f23K0 Try.prog) ⟨[J, J, .rsl (rowPrs l) 0 l.length, J, J, J, J, J, J, J, J, .ptr 3 0 0, J, J, J, J, J, J, J, J, J, J, J, .int .i64 ticks, .int .i64 ((i : Int) + 1), J, J, J, J, J, J, J, J, J], [⟨true, 0, 1, true, [.rsl (rowBk c.blocks) 0 c.blocks.length, .rsl (rowI c.cars) 0 c.cars.length], false⟩, ⟨true, 0, 1, true, [.rsl (rowBk c.blocks) 0 c.blocks.length, .rsl (rowI c.cars) 0 c.cars.length], false⟩, ⟨true, 0, 1, true, (rowB (stepT (⟨c, f, v4, v2, v3_5, v3_6, v3_7, v3_8, v3_9⟩ : Trk) l).gos), true⟩, ⟨true, 0, 1, false, [.rsl (rowBk c.blocks) 0 c.blocks.length, .rsl (rowI c.cars) 0 c.cars.length, .rsl (rowFlt f) 0 f.length, .sl 4 c.cars.length 0 ((stepT (⟨c, f, v4, v2, v3_5, v3_6, v3_7, v3_8, v3_9⟩ : Trk) l).cars.length) 4, .sl 2 0 0 ((stepT (⟨c, f, v4, v2, v3_5, v3_6, v3_7, v3_8, v3_9⟩ : Trk) l).gos.length) 1, .int .i64 ((stepT (⟨c, f, v4, v2, v3_5, v3_6, v3_7, v3_8, v3_9⟩ : Trk) l).tick), .int .i64 ((stepT (⟨c, f, v4, v2, v3_5, v3_6, v3_7, v3_8, v3_9⟩ : Trk) l).stopped), .bool ((stepT (⟨c, f, v4, v2, v3_5, v3_6, v3_7, v3_8, v3_9⟩ : Trk) l).wrecked), .int .i64 ((stepT (⟨c, f, v4, v2, v3_5, v3_6, v3_7, v3_8, v3_9⟩ : Trk) l).rounds), .int .i64 ((stepT (⟨c, f, v4, v2, v3_5, v3_6, v3_7, v3_8, v3_9⟩ : Trk) l).gone)], false⟩, ⟨true, c.cars.length, 4, true, (rowCar (stepT (⟨c, f, v4, v2, v3_5, v3_6, v3_7, v3_8, v3_9⟩ : Trk) l).cars), true⟩]⟩) : G Try.prog E (f23K0 Try.prog) (f23S0 c ticks l f v4 v2 i v3_5 v3_6 v3_7 v3_8 v3_9 ) :=
  segC_step (n := 400) (ds := []) (cs := []) (live := [2, 11, 23, 24]) (m := 5) (evs := [.b true, .lent [3, 4, 2] (.tup []) [⟨true, 0, 1, false, [.rsl (rowBk c.blocks) 0 c.blocks.length, .rsl (rowI c.cars) 0 c.cars.length, .rsl (rowFlt f) 0 f.length, .sl 1 c.cars.length 0 ((stepT (⟨c, f, v4, v2, v3_5, v3_6, v3_7, v3_8, v3_9⟩ : Trk) l).cars.length) 4, .sl 2 0 0 ((stepT (⟨c, f, v4, v2, v3_5, v3_6, v3_7, v3_8, v3_9⟩ : Trk) l).gos.length) 1, .int .i64 ((stepT (⟨c, f, v4, v2, v3_5, v3_6, v3_7, v3_8, v3_9⟩ : Trk) l).tick), .int .i64 ((stepT (⟨c, f, v4, v2, v3_5, v3_6, v3_7, v3_8, v3_9⟩ : Trk) l).stopped), .bool ((stepT (⟨c, f, v4, v2, v3_5, v3_6, v3_7, v3_8, v3_9⟩ : Trk) l).wrecked), .int .i64 ((stepT (⟨c, f, v4, v2, v3_5, v3_6, v3_7, v3_8, v3_9⟩ : Trk) l).rounds), .int .i64 ((stepT (⟨c, f, v4, v2, v3_5, v3_6, v3_7, v3_8, v3_9⟩ : Trk) l).gone)], false⟩, ⟨true, c.cars.length, 4, true, (rowCar (stepT (⟨c, f, v4, v2, v3_5, v3_6, v3_7, v3_8, v3_9⟩ : Trk) l).cars), true⟩, ⟨true, 0, 1, true, (rowB (stepT (⟨c, f, v4, v2, v3_5, v3_6, v3_7, v3_8, v3_9⟩ : Trk) l).gos), true⟩], .stop]) (obs := _) hE.2.1 (hE.nogh _) mixed (by kernel_rfl) ho hg
theorem p23_0_1 (c : Cir) (ticks : Int) (l : (List Prs)) (f : (List Flt)) (v4 : List Car) (v2 : List Bool) (i : Nat) (v3_5 : Int) (v3_6 : Int) (v3_7 : Bool) (v3_8 : Int) (v3_9 : Int)   {E : Env} {res : AV} (hE : PureE Try.prog 23 res E) (ho : AllP [(decide ((i : Int) < ticks)) = false])
    (hr : AvLe (.tup [.int .i64 v3_6, .int .i64 0]) res) : G Try.prog E (f23K0 Try.prog) (f23S0 c ticks l f v4 v2 i v3_5 v3_6 v3_7 v3_8 v3_9 ) :=
  end_stepL (n := 400) (evs := [.b false]) (obs := _) hE Try.func23 mixed (by kernel_rfl) ho hr
theorem f23W0 (c : Cir) (ticks : Int) (l : (List Prs)) (f : (List Flt)) (v4 : List Car) (v2 : List Bool) (i : Nat) (v3_5 : Int) (v3_6 : Int) (v3_7 : Bool) (v3_8 : Int) (v3_9 : Int) {E : Env} {rv : (Int × Int)} (hE : PureE Try.prog 23 (.tup [.int .i64 rv.1, .int .i64 rv.2]) E)
    (h : (((i : Int) < ticks → ((StepIn (⟨c, f, v4, v2, v3_5, v3_6, v3_7, v3_8, v3_9⟩ : Trk) l) ∧ ((-9223372036854775808 ≤ (i : Int) + 1 ∧ (i : Int) + 1 ≤ 9223372036854775807) ∧ f23G0 E c ticks l f ((stepT (⟨c, f, v4, v2, v3_5, v3_6, v3_7, v3_8, v3_9⟩ : Trk) l).cars) ((stepT (⟨c, f, v4, v2, v3_5, v3_6, v3_7, v3_8, v3_9⟩ : Trk) l).gos) (i + 1) ((stepT (⟨c, f, v4, v2, v3_5, v3_6, v3_7, v3_8, v3_9⟩ : Trk) l).tick) ((stepT (⟨c, f, v4, v2, v3_5, v3_6, v3_7, v3_8, v3_9⟩ : Trk) l).stopped) ((stepT (⟨c, f, v4, v2, v3_5, v3_6, v3_7, v3_8, v3_9⟩ : Trk) l).wrecked) ((stepT (⟨c, f, v4, v2, v3_5, v3_6, v3_7, v3_8, v3_9⟩ : Trk) l).rounds) ((stepT (⟨c, f, v4, v2, v3_5, v3_6, v3_7, v3_8, v3_9⟩ : Trk) l).gone)))) ∧ (¬ ((i : Int) < ticks) → rv = (v3_6, 0)))) : f23G0 E c ticks l f v4 v2 i v3_5 v3_6 v3_7 v3_8 v3_9 := by
  rcases Bool.eq_false_or_eq_true (decide ((i : Int) < ticks)) with hc0 | hc0
  · have h := h.1 (of_decide_eq_true hc0)
    obtain ⟨h1, h⟩ := h
    obtain ⟨q2_1, h⟩ := h
    exact p23_0_0 c ticks l f v4 v2 i v3_5 v3_6 v3_7 v3_8 v3_9   hE ⟨hc0, (lentF_of Try.func45 (by kernel_rfl) f45b (step2_ok l c f v4 v2 v3_5 v3_6 v3_7 v3_8 v3_9 c.cars.length 0 h1)), q2_1, trivial⟩ h
  · have h := h.2 (of_decide_eq_false hc0)
    exact p23_0_1 c ticks l f v4 v2 i v3_5 v3_6 v3_7 v3_8 v3_9   hE ⟨hc0, trivial⟩ (AvLe.of_eq (by rw [h]; try rfl))

theorem stepIn_play {c : Cir} {ticks : Int} {l : List Prs} {f : List Flt} (h : PlayIn c ticks l f) {i : Nat} (hi : i ≤ 500) : StepIn (playT c f l i) l := ⟨30 + i, run_tok h.tok, by omega, by rw [playT, run_c]; exact h.prs, by have := h.nl; omega⟩
theorem play_ok (c : Cir) (ticks : Int) (l : List Prs) (f : List Flt) (h : (c.blocks.length ≤ 9223372036854775807 ∧ c.cars.length ≤ 9223372036854775807) ∧ l.length ≤ 9223372036854775807 ∧ f.length ≤ 9223372036854775807) :
    Pure Try.prog 19 [.agg [.rsl (rowBk c.blocks) 0 c.blocks.length, .rsl (rowI c.cars) 0 c.cars.length], .int .i64 ticks, .rsl (rowPrs l) 0 l.length, .rsl (rowFlt f) 0 f.length] (.tup [.rsl (rowLs rowSpt (playK c ticks l f).1) 0 (playK c ticks l f).1.length, .int .i64 (playK c ticks l f).2]) := pure_of Try.func19 f19b fun E hE => by
  refine f19W c ticks l f (rv := playK c ticks l f) hE ⟨h, fun h0 => by rw [playK, if_neg h0], fun h0 => ?_⟩
  obtain ⟨hc, hp⟩ := play_in h0
  have ht := hp.tk
  refine ⟨hp.chk.new, ?_⟩
  have key : ∀ (d i : Nat), i + d = Int.toNat ticks → f19G0 E c ticks l f (playT c f l i).cars (playT c f l i).gos ((playK c ticks l f).1.take i) i (playT c f l i).tick (playT c f l i).stopped (playT c f l i).wrecked (playT c f l i).rounds (playT c f l i).gone := by
    intro d
    induction d with
    | zero =>
      intro i hi
      refine f19W0 c ticks l f _ _ _ i _ _ _ _ _ (rv := playK c ticks l f) hE ⟨fun h => by omega, fun _ => ?_⟩
      rw [List.take_of_length_le (by rw [playK, if_pos h0]; simp; omega)]
      rw [playK, if_pos h0]
    | succ d ih =>
      intro i hi
      have nx := ih (i + 1) (by omega)
      have e1 : (⟨c, f, (playT c f l i).cars, (playT c f l i).gos, (playT c f l i).tick, (playT c f l i).stopped, (playT c f l i).wrecked, (playT c f l i).rounds, (playT c f l i).gone⟩ : Trk) = playT c f l i := trk_eta run_c run_f
      have e2 : (⟨c, f, (playT c f l (i + 1)).cars, (playT c f l (i + 1)).gos, (playT c f l (i + 1)).tick, (playT c f l (i + 1)).stopped, (playT c f l (i + 1)).wrecked, (playT c f l (i + 1)).rounds, (playT c f l (i + 1)).gone⟩ : Trk) = playT c f l (i + 1) := trk_eta run_c run_f
      have hrow : (playK c ticks l f).1[i]? = some ((playT c f l (i + 1)).cars.map Car.spot) := by
        rw [playK, if_pos h0]; simp only; rw [List.getElem?_map, List.getElem?_range (by omega)]; rfl
      rw [List.take_add_one, hrow] at nx
      refine f19W0 c ticks l f _ _ _ i _ _ _ _ _ (rv := playK c ticks l f) hE ⟨fun _ => ?_, fun h => by omega⟩
      rw [e1]
      refine ⟨stepIn_play hp (by omega), ?_⟩
      rw [show stepT (playT c f l i) l = playT c f l (i + 1) from rfl, e2]
      have hl := (run_tok (l := fun _ => l) hp.tok (n := i + 1)).lc
      exact ⟨by show (playT c f l (i + 1)).cars.length ≤ _; have := hl; unfold playT; omega, by simp; omega, by omega, nx⟩
  exact key (Int.toNat ticks) 0 (by omega)
theorem stops_ok (c : Cir) (ticks : Int) (l : List Prs) (f : List Flt) (h : (c.blocks.length ≤ 9223372036854775807 ∧ c.cars.length ≤ 9223372036854775807) ∧ l.length ≤ 9223372036854775807 ∧ f.length ≤ 9223372036854775807) :
    Pure Try.prog 23 [.agg [.rsl (rowBk c.blocks) 0 c.blocks.length, .rsl (rowI c.cars) 0 c.cars.length], .int .i64 ticks, .rsl (rowPrs l) 0 l.length, .rsl (rowFlt f) 0 f.length] (.tup [.int .i64 (stopsK c ticks l f).1, .int .i64 (stopsK c ticks l f).2]) := pure_of Try.func23 f23b fun E hE => by
  refine f23W c ticks l f (rv := stopsK c ticks l f) hE ⟨h, fun h0 => by rw [stopsK, if_neg h0], fun h0 => ?_⟩
  obtain ⟨hc, hp⟩ := play_in h0
  have ht := hp.tk
  refine ⟨hp.chk.new, ?_⟩
  have key : ∀ (d i : Nat), i + d = Int.toNat ticks → f23G0 E c ticks l f (playT c f l i).cars (playT c f l i).gos i (playT c f l i).tick (playT c f l i).stopped (playT c f l i).wrecked (playT c f l i).rounds (playT c f l i).gone := by
    intro d
    induction d with
    | zero =>
      intro i hi
      refine f23W0 c ticks l f _ _ i _ _ _ _ _ (rv := stopsK c ticks l f) hE ⟨fun h => by omega, fun _ => ?_⟩
      rw [stopsK, if_pos h0, show Int.toNat ticks = i by omega]
    | succ d ih =>
      intro i hi
      have nx := ih (i + 1) (by omega)
      have e1 : (⟨c, f, (playT c f l i).cars, (playT c f l i).gos, (playT c f l i).tick, (playT c f l i).stopped, (playT c f l i).wrecked, (playT c f l i).rounds, (playT c f l i).gone⟩ : Trk) = playT c f l i := trk_eta run_c run_f
      refine f23W0 c ticks l f _ _ i _ _ _ _ _ (rv := stopsK c ticks l f) hE ⟨fun _ => ?_, fun h => by omega⟩
      rw [e1]
      exact ⟨stepIn_play hp (by omega), by omega, nx⟩
  exact key (Int.toNat ticks) 0 (by omega)

end Go.Proofs.Ytgdfkjjgdkejfaa

namespace Go.Proofs.Ytgdfkjjgdkejfaa
open Go Ax
open Go.Proofs

structure Rn where
  c : Cir
  spots : List Spt
  stood : List Int
  go : List Bool
  stp : Bool
end Go.Proofs.Ytgdfkjjgdkejfaa

namespace Go.Proofs.Ytgdfkjjgdkejfaa
open Go Ax
open Go.Proofs


/-! ### The reference's looks against the program's -/
/-! ### Wrecked -/
def CarT (c : Cir) (cars : List Car) : Prop := ∀ x ∈ cars, x.spot.ran ≤ (bkAt c x.spot.block).time
structure TT (T : Trk) : Prop where
  ct : CarT T.c T.cars
  tm : ∀ b ∈ T.c.blocks, 0 ≤ b.time
  wr : T.wrecked = crashed T.c T.cars
end Go.Proofs.Ytgdfkjjgdkejfaa

namespace Go.Proofs.Ytgdfkjjgdkejfaa
open Go Ax
open Go.Proofs

def stpT (T : Trk) : Bool := decide (0 ≤ T.stopped)
end Go.Proofs.Ytgdfkjjgdkejfaa

namespace Go.Proofs.Ytgdfkjjgdkejfaa
open Go Ax
open Go.Proofs

def runOf (T : Trk) : Rn := ⟨T.c, T.cars.map Car.spot, T.cars.map Car.stood, T.gos, stpT T⟩
/-! ### What the ride shows does not depend on the counters -/
structure Like (T T' : Trk) : Prop where
  c : T.c = T'.c
  f : T.faults = T'.faults
  cars : T.cars = T'.cars
  gos : T.gos = T'.gos
  tick : T.tick = T'.tick
  st : stpT T = stpT T'
  wr : T.wrecked = T'.wrecked
theorem Like.run {T T' : Trk} (h : Like T T') : runOf T = runOf T' := by simp only [runOf, h.c, h.cars, h.gos, h.st]
theorem brake_like {c : Cir} {rd : Rd4} {ops : List Bool} {cars0 : List Car} {s s' : Brk} (h : s.cars = s'.cars) (hg : s.gos = s'.gos) : ∀ {b : Nat}, (brakeN c rd ops cars0 b s).cars = (brakeN c rd ops cars0 b s').cars ∧ (brakeN c rd ops cars0 b s).gos = (brakeN c rd ops cars0 b s').gos
  | 0 => ⟨h, hg⟩
  | b + 1 => by
    have ih := brake_like h hg (c := c) (rd := rd) (ops := ops) (cars0 := cars0) (b := b)
    simp only [brakeN]
    generalize brakeN c rd ops cars0 b s = t at ih
    generalize brakeN c rd ops cars0 b s' = t' at ih
    unfold brakeB
    split
    · split
      · exact ih
      · have hw : ∀ i, waitB c t b i = waitB c t' b i := fun i => by simp only [waitB, ih.1, ih.2]
        rename_i i _
        rw [hw i]
        split
        · exact ih
        · simp only [goB, ih.1, ih.2]; exact ⟨trivial, trivial⟩
    · exact ih
theorem saidV_eq {T T' : Trk} (hc : T.c = T'.c) (hf : T.faults = T'.faults) (hx : T.cars = T'.cars) (ht : T.tick = T'.tick) {k b : Int} : saidV T k b = saidV T' k b := by simp only [saidV, hc, hf, hx, ht]
theorem readI_eq {T T' : Trk} (hc : T.c = T'.c) (hf : T.faults = T'.faults) (hx : T.cars = T'.cars) (ht : T.tick = T'.tick) : readI T = readI T' := by
  simp only [readI, saidsI, hc, saidV_eq hc hf hx ht]
theorem Like.step {T T' : Trk} {l : List Prs} (h : Like T T') (ht : 0 ≤ T.tick) : Like (stepT T l) (stepT T' l) := by
  have ht' : 0 ≤ T'.tick := by rw [← h.tick]; exact ht
  have hr : rollT T = rollT T' := by simp only [rollT, h.c, h.cars, h.tick]
  have hrd : readI (midT T) = readI (midT T') := readI_eq h.c h.f hr h.tick
  have hst : (stopT T < 0) ↔ (stopT T' < 0) := by
    have h1 := h.st
    have h2 := h.tick
    unfold stopT
    rw [hrd]
    unfold stpT at h1
    have h1 : (0 ≤ T.stopped) ↔ (0 ≤ T'.stopped) := by simpa using h1
    by_cases h0 : T.stopped < 0
    · rw [if_pos h0, if_pos (show T'.stopped < 0 by omega)]
      split
      · rw [h2]
      · omega
    · rw [if_neg h0, if_neg (show ¬ T'.stopped < 0 by omega)]; omega
  have hp : pressT T l = pressT T' l := by unfold pressT; rw [hrd, hr, h.c, h.tick, h.gos]
  have hact : (actT T l).cars = (actT T' l).cars ∧ (actT T l).gos = (actT T' l).gos := by
    unfold actT
    by_cases h0 : stopT T < 0
    · rw [if_pos h0, if_pos (hst.1 h0)]
      unfold brakeT
      rw [hrd, hp, h.c]
      exact brake_like (s := ⟨(pressT T' l).1, (pressT T' l).2.1, T.rounds, T.gone⟩) (s' := ⟨(pressT T' l).1, (pressT T' l).2.1, T'.rounds, T'.gone⟩) rfl rfl
    · rw [if_neg h0, if_neg (fun hh => h0 (hst.2 hh))]
      exact ⟨hr, h.gos⟩
  unfold stepT
  rw [← h.wr]
  split
  · exact ⟨h.c, h.f, h.cars, h.gos, by simp only; rw [h.tick], h.st, rfl⟩
  · refine ⟨h.c, h.f, hact.1, hact.2, by simp only; rw [h.tick], ?_, ?_⟩
    · simp only [stpT]
      rw [decide_eq_decide]; omega
    · simp only; rw [hact.1, h.c]
end Go.Proofs.Ytgdfkjjgdkejfaa

namespace Ax
open Go Go.ChangeShapes Go.WideShapes Go.RowKit

abbrev Old (W : World) (b : Nat) : Prop := b < W.heap.size

/-- What is read as of this type stands for typed data. -/
def Dec (P : Program) (W : World) (t : TypeId) (T : Type) (F : T → List AV) (Q : T → Prop) : Prop :=
  ∀ (H : Type) (enc : TypeId × Value → H) (sp : Nat → Bool) (held : Bool) (fuel : Nat) (cs : List Value) (x : DataW H × List MemPlace),
    DataW.trod enc P W 0 sp held fuel t cs = some x → ∃ a, Q a ∧ VRs (Old W) W C0 (F a) cs

/-- The same for the fields from one on; 'off' is where they begin. -/
def DecFs (P : Program) (W : World) (fs : List Field) (off : Nat) (T : Type) (F : T → List AV) (Q : T → Prop) (tot : Nat) : Prop :=
  ∀ (H : Type) (enc : TypeId × Value → H) (sp : Nat → Bool) (held : Bool) (fuel : Nat) (cs : List Value), cs.length = tot →
    (∀ f ∈ fs, ∃ x, DataW.trod enc P W 0 sp held fuel f.type ((cs.drop f.offset).take (P.cellsOf f.type)) = some x) → ∃ a, Q a ∧ VRs (Old W) W C0 (F a) (cs.drop off)

section
variable {P : Program} {W : World} {t e : TypeId}

theorem VRs.one1 {Z : Nat → Prop} {w : World} {C : Ctx} {a : AV} {c : Value} (h : VR Z w C a c) : VRs Z w C [a] [c] :=
  ⟨rfl, fun i x y p q => by
    cases i with
    | zero => simp at p q; subst p; subst q; exact h
    | succ i => simp at p⟩

theorem dec_int {k : IntKind} (ht : P.underlying t = some (.int k)) : Dec P W t Int (fun n => [.int k n]) (fun n => k.min ≤ n ∧ n ≤ k.max) := by
  intro H enc sp held fuel cs x h
  obtain ⟨n, rfl, -, hw⟩ := DataW.trod_int ht h
  simp only [Lit.wf, Bool.and_eq_true, decide_eq_true_eq] at hw
  exact ⟨n, hw, VRs.one1 (.int _ _)⟩

theorem dec_i64 (ht : P.underlying t = some (.int .i64)) : Dec P W t Int cI (fun n => InR .i64 n) := by
  intro H enc sp held fuel cs x h
  obtain ⟨n, hn, hv⟩ := dec_int ht H enc sp held fuel cs x h
  exact ⟨n, by simpa [InR, IntKind.min, IntKind.max, IntKind.signed, IntKind.bits] using hn, hv⟩

theorem dec_bool (ht : P.underlying t = some .bool) : Dec P W t Bool cB (fun _ => True) := by
  intro H enc sp held fuel cs x h
  obtain ⟨b, rfl, -⟩ := DataW.trod_bool ht h
  exact ⟨b, trivial, VRs.one1 (.bool _)⟩

theorem Dec.map {T S : Type} {F : T → List AV} {Q : T → Prop} {F' : S → List AV} {Q' : S → Prop} (h : Dec P W t T F Q) (g : T → S) (hF : ∀ a, F' (g a) = F a) (hQ : ∀ a, Q a → Q' (g a)) : Dec P W t S F' Q' := by
  intro H enc sp held fuel cs x hx
  obtain ⟨a, q, v⟩ := h H enc sp held fuel cs x hx
  exact ⟨g a, hQ a q, by rw [hF]; exact v⟩

theorem decFs_nil {tot : Nat} : DecFs P W [] tot Unit (fun _ => []) (fun _ => True) tot := by
  intro H enc sp held fuel cs hl _
  exact ⟨(), trivial, by rw [List.drop_of_length_le (by omega)]; exact ⟨rfl, fun i x y p q => by simp at p⟩⟩

theorem decFs_cons {f : Field} {fs : List Field} {off n tot : Nat} {A B : Type} {FA : A → List AV} {QA : A → Prop} {FB : B → List AV} {QB : B → Prop} (hn : P.cellsOf f.type = n) (ho : f.offset = off)
    (D : Dec P W f.type A FA QA) (R : DecFs P W fs (off + n) B FB QB tot) (hle : off + n ≤ tot) : DecFs P W (f :: fs) off (A × B) (fun p => FA p.1 ++ FB p.2) (fun p => QA p.1 ∧ QB p.2) tot := by
  intro H enc sp held fuel cs hl h
  obtain ⟨x, hx⟩ := h f (by simp)
  obtain ⟨a, qa, va⟩ := D H enc sp held fuel _ x hx
  obtain ⟨b, qb, vb⟩ := R H enc sp held fuel cs hl fun g hg => h g (by simp [hg])
  rw [hn, ho] at va
  refine ⟨(a, b), ⟨qa, qb⟩, ?_⟩
  have e : cs.drop off = (cs.drop off).take n ++ cs.drop (off + n) := by
    rw [← List.drop_drop]; exact (List.take_append_drop _ _).symm
  rw [e]
  exact va.app vb

theorem dec_struct {fs : Array Field} {T : Type} {F : T → List AV} {Q : T → Prop} {l : List Field} {tot : Nat} (ht : P.underlying t = some (.struct fs)) (hl : fs.toList = l) (hc : P.cellsOf t = tot) (h : DecFs P W l 0 T F Q tot) : Dec P W t T F Q := by
  intro H enc sp held fuel cs x hx
  obtain ⟨xs, n, -, -, h1, h2, h3⟩ := DataW.trod_struct ht hx
  obtain ⟨a, q, v⟩ := h H enc sp held n cs (by rw [h1, hc]) fun f hf => by
    rw [← hl] at hf
    obtain ⟨i, hi⟩ := List.mem_iff_getElem?.1 hf
    have := h3 i f (by simpa using hi)
    have hlt : i < xs.length := by rw [h2]; have := (List.getElem?_eq_some_iff.1 hi).1; simpa using this
    exact ⟨xs[i], by rw [this]; simp [hlt]⟩
  exact ⟨a, q, by simpa using v⟩

theorem cells_get {W : World} {a : Addr} {n : Nat} {cs : List Value} (h : W.cells? 0 a n = some cs) : cs.length = n ∧ ∀ i, i < n → W.cell? (a.add i) = cs[i]? := by
  unfold World.cells? at h
  rw [if_pos (Nat.zero_le _)] at h
  have key : ∀ (n k : Nat) (cs : List Value), ((List.range' k n).mapM fun i => W.cell? (a.add i)) = some cs → cs.length = n ∧ ∀ i, i < n → W.cell? (a.add (k + i)) = cs[i]? := by
    intro n
    induction n with
    | zero => intro k cs h; simp at h; subst h; simp
    | succ n ih =>
      intro k cs h
      rw [List.range'_succ, List.mapM_cons] at h
      simp only [Option.bind_eq_bind, Option.bind_eq_some_iff, Option.pure_def, Option.some.injEq] at h
      obtain ⟨c, h1, cs', h2, rfl⟩ := h
      obtain ⟨i1, i2⟩ := ih (k + 1) cs' h2
      refine ⟨by simp [i1], fun i hi => ?_⟩
      cases i with
      | zero => simpa using h1
      | succ i => rw [show k + (i + 1) = k + 1 + i by omega, i2 i (by omega)]; simp
  have := key n 0 cs (by rw [← List.range_eq_range']; exact h)
  simpa using this

theorem list_of {T : Type} {Q : Nat → T → Prop} : ∀ (n k : Nat), (∀ i, k ≤ i → i < k + n → ∃ a, Q i a) → ∃ l : List T, l.length = n ∧ ∀ i a, l[i]? = some a → Q (k + i) a
  | 0, k, _ => ⟨[], rfl, by simp⟩
  | n + 1, k, h => by
    obtain ⟨a, ha⟩ := h k (Nat.le_refl _) (by omega)
    obtain ⟨l, hl, hq⟩ := list_of n (k + 1) fun i h1 h2 => h i (by omega) (by omega)
    refine ⟨a :: l, by simp [hl], fun i b hb => ?_⟩
    cases i with
    | zero => simp at hb; subst hb; exact ha
    | succ i => simp at hb; have := hq i b hb; rw [show k + (i + 1) = k + 1 + i by omega]; exact this

theorem dec_slice {T : Type} {F : T → List AV} {Q : T → Prop} {n : Nat} (ht : P.underlying t = some (.slice e)) (hc : P.cellsOf e = n) (hn : 0 < n) (hF : ∀ a, (F a).length = n) (hk : ∀ a, cellsOk (F a) = true) (D : Dec P W e T F Q) :
    Dec P W t (List T) (fun l => [.rsl (l.flatMap F) 0 l.length]) (fun l => l.length ≤ 9223372036854775807 ∧ ∀ a ∈ l, Q a) := by
  intro H enc sp held fuel cs x h
  rcases DataW.trod_slice ht h with ⟨rfl, -⟩ | ⟨a, len, cap, elems, rest, m, -, rfl, -, -, h1, h2, h3, h4, -, -⟩
  · exact ⟨[], ⟨by simp, by simp⟩, VRs.one1 .rsl0⟩
  have hel : ∀ i, i < len → ∃ b, Q b ∧ ∃ vs, W.cells? 0 (a.add (i * n)) n = some vs ∧ VRs (Old W) W C0 (F b) vs := by
    intro i hi
    have := h4 i hi
    rw [hc, List.getElem?_eq_getElem (by omega)] at this
    obtain ⟨vs, g1, g2⟩ := Option.bind_eq_some_iff.1 this
    obtain ⟨b, qb, vb⟩ := D H enc sp held m vs _ g2
    exact ⟨b, qb, vs, g1, vb⟩
  obtain ⟨l, hl, hq⟩ := list_of (Q := fun i b => Q b ∧ ∃ vs, W.cells? 0 (a.add (i * n)) n = some vs ∧ VRs (Old W) W C0 (F b) vs) len 0 fun i _ hi => hel i (by omega)
  refine ⟨l, ⟨by rw [hl]; unfold maxLen at h2; omega, fun b hb => ?_⟩, VRs.one1 ?_⟩
  · obtain ⟨i, hi⟩ := List.mem_iff_getElem?.1 hb
    exact (hq i b hi).1
  rcases Nat.eq_zero_or_pos len with h0 | h0
  · subst h0
    obtain rfl : l = [] := List.length_eq_zero_iff.1 hl
    exact .rsl0
  have hcell : ∀ j, j < len * n → ∃ v, W.cell? ⟨a.block, a.off + j, none⟩ = some v ∧ ∃ c, (l.flatMap F)[j]? = some c ∧ VR (Old W) W C0 c v ∧ isCell c = true ∧ a.spot = none := by
    intro j hj
    have hi : j / n < len := by rw [Nat.div_lt_iff_lt_mul hn]; exact hj
    have hm : j % n < n := Nat.mod_lt _ hn
    have hb : l[j / n]? = some l[j / n] := by simp [hl, hi]
    obtain ⟨-, vs, g1, g2⟩ := hq _ _ hb
    rw [Nat.zero_add] at g1
    obtain ⟨g3, g4⟩ := cells_get g1
    have g5 := g4 (j % n) hm
    have hv : vs[j % n]? = some vs[j % n] := by simp [g3, hm]
    rw [hv] at g5
    have hdm : j / n * n + j % n = j := by rw [Nat.mul_comm]; exact Nat.div_add_mod j n
    have hspot : a.spot = none := by
      have g6 := g4 0 hn
      rw [List.getElem?_eq_getElem (by omega)] at g6
      have hfirst : ∃ v0, W.cell? a = some v0 := by
        have hb0 : l[0]? = some l[0] := by simp [hl, h0]
        obtain ⟨-, vs0, k1, -⟩ := hq _ _ hb0
        obtain ⟨k3, k4⟩ := cells_get k1
        have k5 := k4 0 hn
        rw [List.getElem?_eq_getElem (by omega)] at k5
        exact ⟨_, by simpa [Addr.add] using k5⟩
      obtain ⟨v0, hv0⟩ := hfirst
      unfold World.cell? at hv0
      split at hv0
      · split at hv0
        · cases hv0
        · rename_i hsp; simpa using hsp
      · cases hv0
    have haddr : (a.add (j / n * n)).add (j % n) = ⟨a.block, a.off + j, none⟩ := by
      obtain ⟨ab, ao, asp⟩ := a
      simp only at hspot
      subst hspot
      unfold Addr.add
      split <;> split <;> simp_all <;> omega
    rw [haddr] at g5
    refine ⟨_, g5, ?_⟩
    have hrow := row_drop F hF (k := j % n) hb (by omega)
    have e1 : (l.flatMap F)[j]? = (F l[j / n])[j % n]? := by
      have := congrArg (fun l => l[0]?) hrow
      simp only [List.getElem?_drop, Nat.add_zero] at this
      rw [show 0 + j / n * n + j % n = j by omega] at this
      rw [this, List.getElem?_append_left (by rw [List.length_drop, hF]; omega), List.getElem?_drop, Nat.add_zero]
    have hF1 : (F l[j / n])[j % n]? = some ((F l[j / n])[j % n]'(by rw [hF]; exact hm)) := by simp [hF, hm]
    refine ⟨_, e1.trans hF1, g2.2 _ _ _ hF1 hv, cellsOk_get (hk _) hF1, hspot⟩
  have hrl : (l.flatMap F).length = len * n := by rw [row_len F hF, hl]
  obtain ⟨v0, c0, -, -, -, -, hspot⟩ := hcell 0 (Nat.mul_pos h0 hn)
  have haa : a = ⟨a.block, 0 + a.off, none⟩ := by
    obtain ⟨ab, ao, asp⟩ := a
    simp only at hspot ⊢
    subst hspot; simp
  have hblk : a.block < W.heap.size := by
    unfold World.cell? at c0
    split at c0
    · rename_i heq; exact (Array.getElem?_eq_some_iff.1 heq).1
    · cases c0
  rw [← hl]
  have hval : Value.slice (some a) l.length cap = Value.slice (some ⟨a.block, a.off + 0, none⟩) l.length cap := by
    congr 2
    rw [haa]; simp
  rw [hval]
  refine .rsl (o := a.off) (fun i => (W.cell? ⟨a.block, a.off + i, none⟩).getD undef) hblk (by omega) (fun i hi => ?_) (fun i c hc => ?_) (fun i c hc => ?_)
  · obtain ⟨v, h5, -⟩ := hcell i (by omega)
    rw [h5]; rfl
  · obtain ⟨v, -, c', h6, -, h7, -⟩ := hcell i (by have := (List.getElem?_eq_some_iff.1 hc).1; omega)
    rw [hc] at h6; cases h6; exact h7
  · obtain ⟨v, h5, c', h6, h7, -, -⟩ := hcell i (by have := (List.getElem?_eq_some_iff.1 hc).1; omega)
    rw [hc] at h6; cases h6; rw [h5]; exact h7

/-! ### A law's arguments -/
/-- One argument. -/
def DecA (P : Program) (W : World) (t : TypeId) (T : Type) (F : T → AV) (Q : T → Prop) : Prop :=
  ∀ (H : Type) (enc : TypeId × Value → H) (base : Nat) (v : Value) (d : DataW H) (ps : List MemPlace), Value.okWide P W .any base t v → DataW.Trod enc P W 0 (fun _ => true) true t v d ps →
    ∃ a, Q a ∧ VR (Old W) W C0 (F a) v

theorem decA_struct {T : Type} {F : T → List AV} {Q : T → Prop} {fs : Array Field} (ht : P.underlying t = some (.struct fs)) (D : Dec P W t T F Q) : DecA P W t T (fun a => .agg (F a)) Q := by
  intro H enc base v d ps hok ⟨fuel, h⟩
  obtain ⟨cs, rfl, -⟩ := okWide_struct ht hok
  obtain ⟨a, q, hv⟩ := D H enc _ _ fuel _ _ h
  exact ⟨a, q, .agg (by have := hv.1; simpa [Value.cells] using this) fun i c x p r => hv.2 i c x p (by simpa [Value.cells] using r)⟩

/-- All arguments; 'K': what holds of them together. -/
def DecAs (P : Program) (W : World) (ts : List TypeId) (K : List AV → Prop) : Prop :=
  ∀ (H : Type) (enc : TypeId × Value → H) (base : Nat) (vs : List Value) (ds : List (DataW H)) (ps : List MemPlace),
    (∀ (j : Nat) t v, ts[j]? = some t → vs[j]? = some v → Value.okWide P W .any base t v) → DataW.TrodAll enc P W 0 (fun _ => true) true ts vs ds ps → ∃ al, K al ∧ VRs (Old W) W C0 al vs

theorem decAs_nil {K : List AV → Prop} (h : K []) : DecAs P W [] K := by
  intro H enc base vs ds ps _ hT
  obtain ⟨rfl, rfl, rfl⟩ := trodAll_nil hT
  exact ⟨[], h, rfl, fun i x y p q => by simp at p⟩

theorem decAs_cons {ts : List TypeId} {T : Type} {F : T → AV} {Q : T → Prop} {K : List AV → Prop} (D : DecA P W t T F Q) (R : ∀ a, Q a → DecAs P W ts fun al => K (F a :: al)) : DecAs P W (t :: ts) K := by
  intro H enc base vs ds ps hok hT
  obtain ⟨v, vs', d, ds', p, q, rfl, rfl, rfl, h1, h2⟩ := trodAll_cons hT
  obtain ⟨a, qa, va⟩ := D H enc base v d p (hok 0 t v rfl rfl) h1
  obtain ⟨al, ka, vas⟩ := R a qa H enc base vs' ds' q (fun j t v ht hv => hok (j + 1) t v (by simpa using ht) (by simpa using hv)) h2
  exact ⟨_, ka, by simpa using (VRs.one1 va).app vas⟩

theorem Fr.same_at {W W' : World} (h : Fr W (fun _ => False) W') (p : MemPlace) (hp : p.block < W.heap.size) : W.sameAt W' p := by
  have := h.same p.block hp (fun h => h)
  cases p with
  | cell b off => exact cell_of_heap this
  | map b => exact this

theorem trodAll_stays {H : Type} {enc : TypeId × Value → H} {W' : World} (hl : laidOutB P = true) (h : Fr W (fun _ => False) W') {sp : Nat → Bool} : ∀ {ts : List TypeId} {vs : List Value} {ds : List (DataW H)} {ps : List MemPlace},
    (∀ t ∈ ts, P.readableRec t = true ∧ t < P.types.size) → DataW.TrodAll enc P W 0 (fun _ => true) true ts vs ds ps → (∀ p ∈ ps, sp p.block = true) → DataW.TrodAll enc P W' 0 sp true ts vs ds ps
  | [], vs, ds, ps, _, hT, _ => by
    obtain ⟨rfl, rfl, rfl⟩ := trodAll_nil hT
    rfl
  | t :: ts, vs, ds, ps, hr, hT, hs => by
    have hlt := DataW.TrodAll.lt hT
    obtain ⟨v, vs', d, ds', p, q, rfl, rfl, rfl, h1, h2⟩ := trodAll_cons hT
    refine ⟨p, q, WideElems.Trod_stays hl (hr t (by simp)).1 (hr t (by simp)).2 h1 (fun x hx => h.same_at x (hlt x (by simp [hx]))) (fun x hx => hs x (by simp [hx])),
      trodAll_stays hl h (fun t ht => hr t (by simp [ht])) h2 (fun x hx => hs x (by simp [hx])), rfl⟩

theorem Fr.keptBut {W W' : World} (h : Fr W (fun _ => False) W') (may : MemPlace → Prop) : W.keptBut W' may := by
  refine ⟨h.os, h.output, fun i hi => ?_⟩
  rw [h.same i hi (fun h => h)]
  cases hx : W.heap[i]? with
  | none => simp
  | some o => cases o <;> simp

theorem law_post {H : Type} {enc : TypeId × Value → H} {W' : World} {f : Func} {s : ChangeSpec} {args : Array Value} {ds gs : List (DataW H)} {before : List MemPlace} {tb : TypeId}
    (hW : DataW.Whole enc P f.params.toList s.vars false W args.toList ds gs before) (hv : s.vars = []) (hr : f.resultTypes = #[tb]) (hb : P.underlying tb = some .bool)
    (h1 : (s.fn H (ds ++ gs)).results = [.lit (.bool true)]) (h2 : (s.fn H (ds ++ gs)).args = ds) (h3 : (s.fn H (ds ++ gs)).vars = []) (hl : laidOutB P = true)
    (hread : ∀ t ∈ f.params.toList, P.readableRec t = true ∧ t < P.types.size) (hf : Fr W (fun _ => False) W') : s.post enc P f false true false false W args (.bool true) W' := by
  have hW' := hW
  obtain ⟨p, q, hA, hV, hpq, -, -⟩ := hW
  refine ⟨ds, gs, before, [], p, [], hW', ?_, ?_, ?_, hf.keptBut _, fun h => by cases h⟩
  · rw [h1, hr]
    exact trodAll_mk1 ⟨1, by simp [DataW.trod, Value.cells, hb]⟩
  · rw [h2]
    exact trodAll_stays hl hf hread hA fun x hx => by simpa using DataW.TrodAll.lt hA x hx
  · rw [h3, hv]; rfl

theorem Fr.frozen {W W' : World} (h : Fr W (fun _ => False) W') (a : Addr) (ha : a.block < W.heap.size) : W'.frozen? a = W.frozen? a := by
  unfold World.frozen?; rw [h.same a.block ha (fun h => h)]

end
end Ax

namespace Go.Proofs.Ytgdfkjjgdkejfaa
open Go Ax
open Go.Proofs

theorem ownT : ownKnob Try.prog.godebug = none := by kernel_rfl
theorem laidT : laidOutB Try.prog = true := by kernel_rfl
theorem f17b : Try.f17.body = some (bodyAt Try.prog 17) := by kernel_rfl
theorem p17_start_0   (le : (List Spt)) (se : Spt)  {E : Env} {res : AV} (hE : PureE Try.prog 17 res E) (ho : AllP [PureF Try.prog (.clos 42 [] []) [] (.agg [.rsl (rowBk exC.blocks) 0 exC.blocks.length, .rsl (rowI exC.cars) 0 exC.cars.length]), LentF Try.prog (.clos 19 [] []) [.agg [.rsl (rowBk exC.blocks) 0 exC.blocks.length, .rsl (rowI exC.cars) 0 exC.cars.length], .int .i64 6, .sl 0 0 0 1 3, .nilSl] [⟨true, 0, 3, true, [.int .i64 0, .int .i64 3, .int .i64 0], true⟩] (.tup [.rsl ((rowLs rowSpt) ((playK exC 6 ([(⟨0, 3, 0⟩ : Prs)]) ([] : List Flt)).1)) 0 (((playK exC 6 ([(⟨0, 3, 0⟩ : Prs)]) ([] : List Flt)).1).length), .int .i64 ((playK exC 6 ([(⟨0, 3, 0⟩ : Prs)]) ([] : List Flt)).2)]) [⟨false, 1, 3, true, [], false⟩], PureF Try.prog (.clos 42 [] []) [] (.agg [.rsl (rowBk exC.blocks) 0 exC.blocks.length, .rsl (rowI exC.cars) 0 exC.cars.length]), PureF Try.prog (.clos 23 [] []) [.agg [.rsl (rowBk exC.blocks) 0 exC.blocks.length, .rsl (rowI exC.cars) 0 exC.cars.length], .int .i64 3, .nilSl, .rsl [.int .i64 2, .int .i64 1, .int .i64 0, .int .i64 1, .int .i64 1] 0 1] (.tup [.int .i64 ((stopsK exC 3 ([] : List Prs) ([(⟨2, 1, 0, 1, 1⟩ : Flt)])).1), .int .i64 ((stopsK exC 3 ([] : List Prs) ([(⟨2, 1, 0, 1, 1⟩ : Flt)])).2)]), 0 = 0, ((playK exC 6 ([(⟨0, 3, 0⟩ : Prs)]) ([] : List Flt)).2 == 0) = true, ((stopsK exC 3 ([] : List Prs) ([(⟨2, 1, 0, 1, 1⟩ : Flt)])).2 == 0) = true, ((stopsK exC 3 ([] : List Prs) ([(⟨2, 1, 0, 1, 1⟩ : Flt)])).1 == 2) = true, (((((playK exC 6 ([(⟨0, 3, 0⟩ : Prs)]) ([] : List Flt)).1).length : Nat) : Int) == 6) = true, (0 : Int) ≤ 3 ∧ (3 : Int) < ((((playK exC 6 ([(⟨0, 3, 0⟩ : Prs)]) ([] : List Flt)).1).length : Nat) : Int), (((rowLs rowSpt) ((playK exC 6 ([(⟨0, 3, 0⟩ : Prs)]) ([] : List Flt)).1)).drop (0 + 3 * 1)).take 1 = [.rsl (rowSpt le) 0 le.length], ((le.length : Int) == 2) = true, (0 : Int) ≤ 3 ∧ (3 : Int) < ((((playK exC 6 ([(⟨0, 3, 0⟩ : Prs)]) ([] : List Flt)).1).length : Nat) : Int), (((rowLs rowSpt) ((playK exC 6 ([(⟨0, 3, 0⟩ : Prs)]) ([] : List Flt)).1)).drop (0 + 3 * 1)).take 1 = [.rsl (rowSpt le) 0 le.length], (0 : Int) ≤ 0 ∧ (0 : Int) < (le.length : Int), ((rowSpt le).drop (0 + 0 * 3)).take 3 = [.int .i64 se.block, .int .i64 se.ran, .bool se.opn]])
    (hr : AvLe (.bool (se.block == 1 && (se.ran == 0 && (se.opn == false && true)))) res) : G Try.prog E [.code (bodyAt Try.prog 17)] ⟨[] ++ unds (Try.f17.ntmps - 0), []⟩ :=
  end_stepL (n := 400) (evs := [.v (.agg [.rsl (rowBk exC.blocks) 0 exC.blocks.length, .rsl (rowI exC.cars) 0 exC.cars.length]), .lent [0] (.tup [.rsl ((rowLs rowSpt) ((playK exC 6 ([(⟨0, 3, 0⟩ : Prs)]) ([] : List Flt)).1)) 0 (((playK exC 6 ([(⟨0, 3, 0⟩ : Prs)]) ([] : List Flt)).1).length), .int .i64 ((playK exC 6 ([(⟨0, 3, 0⟩ : Prs)]) ([] : List Flt)).2)]) [⟨false, 1, 3, true, [], false⟩], .v (.agg [.rsl (rowBk exC.blocks) 0 exC.blocks.length, .rsl (rowI exC.cars) 0 exC.cars.length]), .v (.tup [.int .i64 ((stopsK exC 3 ([] : List Prs) ([(⟨2, 1, 0, 1, 1⟩ : Flt)])).1), .int .i64 ((stopsK exC 3 ([] : List Prs) ([(⟨2, 1, 0, 1, 1⟩ : Flt)])).2)]), .b true, .b true, .b true, .b true, .ld (.rsl (rowSpt le) 0 le.length), .b true, .ld (.rsl (rowSpt le) 0 le.length), .ld (.agg [.int .i64 se.block, .int .i64 se.ran, .bool se.opn])]) (obs := _) hE Try.func17 mixed (by kernel_rfl) ho hr
theorem p17_start_1   (le : (List Spt))  {E : Env} {res : AV} (hE : PureE Try.prog 17 res E) (ho : AllP [PureF Try.prog (.clos 42 [] []) [] (.agg [.rsl (rowBk exC.blocks) 0 exC.blocks.length, .rsl (rowI exC.cars) 0 exC.cars.length]), LentF Try.prog (.clos 19 [] []) [.agg [.rsl (rowBk exC.blocks) 0 exC.blocks.length, .rsl (rowI exC.cars) 0 exC.cars.length], .int .i64 6, .sl 0 0 0 1 3, .nilSl] [⟨true, 0, 3, true, [.int .i64 0, .int .i64 3, .int .i64 0], true⟩] (.tup [.rsl ((rowLs rowSpt) ((playK exC 6 ([(⟨0, 3, 0⟩ : Prs)]) ([] : List Flt)).1)) 0 (((playK exC 6 ([(⟨0, 3, 0⟩ : Prs)]) ([] : List Flt)).1).length), .int .i64 ((playK exC 6 ([(⟨0, 3, 0⟩ : Prs)]) ([] : List Flt)).2)]) [⟨false, 1, 3, true, [], false⟩], PureF Try.prog (.clos 42 [] []) [] (.agg [.rsl (rowBk exC.blocks) 0 exC.blocks.length, .rsl (rowI exC.cars) 0 exC.cars.length]), PureF Try.prog (.clos 23 [] []) [.agg [.rsl (rowBk exC.blocks) 0 exC.blocks.length, .rsl (rowI exC.cars) 0 exC.cars.length], .int .i64 3, .nilSl, .rsl [.int .i64 2, .int .i64 1, .int .i64 0, .int .i64 1, .int .i64 1] 0 1] (.tup [.int .i64 ((stopsK exC 3 ([] : List Prs) ([(⟨2, 1, 0, 1, 1⟩ : Flt)])).1), .int .i64 ((stopsK exC 3 ([] : List Prs) ([(⟨2, 1, 0, 1, 1⟩ : Flt)])).2)]), 0 = 0, ((playK exC 6 ([(⟨0, 3, 0⟩ : Prs)]) ([] : List Flt)).2 == 0) = true, ((stopsK exC 3 ([] : List Prs) ([(⟨2, 1, 0, 1, 1⟩ : Flt)])).2 == 0) = true, ((stopsK exC 3 ([] : List Prs) ([(⟨2, 1, 0, 1, 1⟩ : Flt)])).1 == 2) = true, (((((playK exC 6 ([(⟨0, 3, 0⟩ : Prs)]) ([] : List Flt)).1).length : Nat) : Int) == 6) = true, (0 : Int) ≤ 3 ∧ (3 : Int) < ((((playK exC 6 ([(⟨0, 3, 0⟩ : Prs)]) ([] : List Flt)).1).length : Nat) : Int), (((rowLs rowSpt) ((playK exC 6 ([(⟨0, 3, 0⟩ : Prs)]) ([] : List Flt)).1)).drop (0 + 3 * 1)).take 1 = [.rsl (rowSpt le) 0 le.length], ((le.length : Int) == 2) = false])
    (hr : AvLe (.bool false) res) : G Try.prog E [.code (bodyAt Try.prog 17)] ⟨[] ++ unds (Try.f17.ntmps - 0), []⟩ :=
  end_stepL (n := 400) (evs := [.v (.agg [.rsl (rowBk exC.blocks) 0 exC.blocks.length, .rsl (rowI exC.cars) 0 exC.cars.length]), .lent [0] (.tup [.rsl ((rowLs rowSpt) ((playK exC 6 ([(⟨0, 3, 0⟩ : Prs)]) ([] : List Flt)).1)) 0 (((playK exC 6 ([(⟨0, 3, 0⟩ : Prs)]) ([] : List Flt)).1).length), .int .i64 ((playK exC 6 ([(⟨0, 3, 0⟩ : Prs)]) ([] : List Flt)).2)]) [⟨false, 1, 3, true, [], false⟩], .v (.agg [.rsl (rowBk exC.blocks) 0 exC.blocks.length, .rsl (rowI exC.cars) 0 exC.cars.length]), .v (.tup [.int .i64 ((stopsK exC 3 ([] : List Prs) ([(⟨2, 1, 0, 1, 1⟩ : Flt)])).1), .int .i64 ((stopsK exC 3 ([] : List Prs) ([(⟨2, 1, 0, 1, 1⟩ : Flt)])).2)]), .b true, .b true, .b true, .b true, .ld (.rsl (rowSpt le) 0 le.length), .b false]) (obs := _) hE Try.func17 mixed (by kernel_rfl) ho hr
theorem p17_start_2    {E : Env} {res : AV} (hE : PureE Try.prog 17 res E) (ho : AllP [PureF Try.prog (.clos 42 [] []) [] (.agg [.rsl (rowBk exC.blocks) 0 exC.blocks.length, .rsl (rowI exC.cars) 0 exC.cars.length]), LentF Try.prog (.clos 19 [] []) [.agg [.rsl (rowBk exC.blocks) 0 exC.blocks.length, .rsl (rowI exC.cars) 0 exC.cars.length], .int .i64 6, .sl 0 0 0 1 3, .nilSl] [⟨true, 0, 3, true, [.int .i64 0, .int .i64 3, .int .i64 0], true⟩] (.tup [.rsl ((rowLs rowSpt) ((playK exC 6 ([(⟨0, 3, 0⟩ : Prs)]) ([] : List Flt)).1)) 0 (((playK exC 6 ([(⟨0, 3, 0⟩ : Prs)]) ([] : List Flt)).1).length), .int .i64 ((playK exC 6 ([(⟨0, 3, 0⟩ : Prs)]) ([] : List Flt)).2)]) [⟨false, 1, 3, true, [], false⟩], PureF Try.prog (.clos 42 [] []) [] (.agg [.rsl (rowBk exC.blocks) 0 exC.blocks.length, .rsl (rowI exC.cars) 0 exC.cars.length]), PureF Try.prog (.clos 23 [] []) [.agg [.rsl (rowBk exC.blocks) 0 exC.blocks.length, .rsl (rowI exC.cars) 0 exC.cars.length], .int .i64 3, .nilSl, .rsl [.int .i64 2, .int .i64 1, .int .i64 0, .int .i64 1, .int .i64 1] 0 1] (.tup [.int .i64 ((stopsK exC 3 ([] : List Prs) ([(⟨2, 1, 0, 1, 1⟩ : Flt)])).1), .int .i64 ((stopsK exC 3 ([] : List Prs) ([(⟨2, 1, 0, 1, 1⟩ : Flt)])).2)]), 0 = 0, ((playK exC 6 ([(⟨0, 3, 0⟩ : Prs)]) ([] : List Flt)).2 == 0) = true, ((stopsK exC 3 ([] : List Prs) ([(⟨2, 1, 0, 1, 1⟩ : Flt)])).2 == 0) = true, ((stopsK exC 3 ([] : List Prs) ([(⟨2, 1, 0, 1, 1⟩ : Flt)])).1 == 2) = true, (((((playK exC 6 ([(⟨0, 3, 0⟩ : Prs)]) ([] : List Flt)).1).length : Nat) : Int) == 6) = false, false = false])
    (hr : AvLe (.bool false) res) : G Try.prog E [.code (bodyAt Try.prog 17)] ⟨[] ++ unds (Try.f17.ntmps - 0), []⟩ :=
  end_stepL (n := 400) (evs := [.v (.agg [.rsl (rowBk exC.blocks) 0 exC.blocks.length, .rsl (rowI exC.cars) 0 exC.cars.length]), .lent [0] (.tup [.rsl ((rowLs rowSpt) ((playK exC 6 ([(⟨0, 3, 0⟩ : Prs)]) ([] : List Flt)).1)) 0 (((playK exC 6 ([(⟨0, 3, 0⟩ : Prs)]) ([] : List Flt)).1).length), .int .i64 ((playK exC 6 ([(⟨0, 3, 0⟩ : Prs)]) ([] : List Flt)).2)]) [⟨false, 1, 3, true, [], false⟩], .v (.agg [.rsl (rowBk exC.blocks) 0 exC.blocks.length, .rsl (rowI exC.cars) 0 exC.cars.length]), .v (.tup [.int .i64 ((stopsK exC 3 ([] : List Prs) ([(⟨2, 1, 0, 1, 1⟩ : Flt)])).1), .int .i64 ((stopsK exC 3 ([] : List Prs) ([(⟨2, 1, 0, 1, 1⟩ : Flt)])).2)]), .b true, .b true, .b true, .b false, .b false]) (obs := _) hE Try.func17 mixed (by kernel_rfl) ho hr
theorem p17_start_3    {E : Env} {res : AV} (hE : PureE Try.prog 17 res E) (ho : AllP [PureF Try.prog (.clos 42 [] []) [] (.agg [.rsl (rowBk exC.blocks) 0 exC.blocks.length, .rsl (rowI exC.cars) 0 exC.cars.length]), LentF Try.prog (.clos 19 [] []) [.agg [.rsl (rowBk exC.blocks) 0 exC.blocks.length, .rsl (rowI exC.cars) 0 exC.cars.length], .int .i64 6, .sl 0 0 0 1 3, .nilSl] [⟨true, 0, 3, true, [.int .i64 0, .int .i64 3, .int .i64 0], true⟩] (.tup [.rsl ((rowLs rowSpt) ((playK exC 6 ([(⟨0, 3, 0⟩ : Prs)]) ([] : List Flt)).1)) 0 (((playK exC 6 ([(⟨0, 3, 0⟩ : Prs)]) ([] : List Flt)).1).length), .int .i64 ((playK exC 6 ([(⟨0, 3, 0⟩ : Prs)]) ([] : List Flt)).2)]) [⟨false, 1, 3, true, [], false⟩], PureF Try.prog (.clos 42 [] []) [] (.agg [.rsl (rowBk exC.blocks) 0 exC.blocks.length, .rsl (rowI exC.cars) 0 exC.cars.length]), PureF Try.prog (.clos 23 [] []) [.agg [.rsl (rowBk exC.blocks) 0 exC.blocks.length, .rsl (rowI exC.cars) 0 exC.cars.length], .int .i64 3, .nilSl, .rsl [.int .i64 2, .int .i64 1, .int .i64 0, .int .i64 1, .int .i64 1] 0 1] (.tup [.int .i64 ((stopsK exC 3 ([] : List Prs) ([(⟨2, 1, 0, 1, 1⟩ : Flt)])).1), .int .i64 ((stopsK exC 3 ([] : List Prs) ([(⟨2, 1, 0, 1, 1⟩ : Flt)])).2)]), 0 = 0, ((playK exC 6 ([(⟨0, 3, 0⟩ : Prs)]) ([] : List Flt)).2 == 0) = true, ((stopsK exC 3 ([] : List Prs) ([(⟨2, 1, 0, 1, 1⟩ : Flt)])).2 == 0) = true, ((stopsK exC 3 ([] : List Prs) ([(⟨2, 1, 0, 1, 1⟩ : Flt)])).1 == 2) = false, false = false, false = false])
    (hr : AvLe (.bool false) res) : G Try.prog E [.code (bodyAt Try.prog 17)] ⟨[] ++ unds (Try.f17.ntmps - 0), []⟩ :=
  end_stepL (n := 400) (evs := [.v (.agg [.rsl (rowBk exC.blocks) 0 exC.blocks.length, .rsl (rowI exC.cars) 0 exC.cars.length]), .lent [0] (.tup [.rsl ((rowLs rowSpt) ((playK exC 6 ([(⟨0, 3, 0⟩ : Prs)]) ([] : List Flt)).1)) 0 (((playK exC 6 ([(⟨0, 3, 0⟩ : Prs)]) ([] : List Flt)).1).length), .int .i64 ((playK exC 6 ([(⟨0, 3, 0⟩ : Prs)]) ([] : List Flt)).2)]) [⟨false, 1, 3, true, [], false⟩], .v (.agg [.rsl (rowBk exC.blocks) 0 exC.blocks.length, .rsl (rowI exC.cars) 0 exC.cars.length]), .v (.tup [.int .i64 ((stopsK exC 3 ([] : List Prs) ([(⟨2, 1, 0, 1, 1⟩ : Flt)])).1), .int .i64 ((stopsK exC 3 ([] : List Prs) ([(⟨2, 1, 0, 1, 1⟩ : Flt)])).2)]), .b true, .b true, .b false, .b false, .b false]) (obs := _) hE Try.func17 mixed (by kernel_rfl) ho hr
theorem p17_start_4    {E : Env} {res : AV} (hE : PureE Try.prog 17 res E) (ho : AllP [PureF Try.prog (.clos 42 [] []) [] (.agg [.rsl (rowBk exC.blocks) 0 exC.blocks.length, .rsl (rowI exC.cars) 0 exC.cars.length]), LentF Try.prog (.clos 19 [] []) [.agg [.rsl (rowBk exC.blocks) 0 exC.blocks.length, .rsl (rowI exC.cars) 0 exC.cars.length], .int .i64 6, .sl 0 0 0 1 3, .nilSl] [⟨true, 0, 3, true, [.int .i64 0, .int .i64 3, .int .i64 0], true⟩] (.tup [.rsl ((rowLs rowSpt) ((playK exC 6 ([(⟨0, 3, 0⟩ : Prs)]) ([] : List Flt)).1)) 0 (((playK exC 6 ([(⟨0, 3, 0⟩ : Prs)]) ([] : List Flt)).1).length), .int .i64 ((playK exC 6 ([(⟨0, 3, 0⟩ : Prs)]) ([] : List Flt)).2)]) [⟨false, 1, 3, true, [], false⟩], PureF Try.prog (.clos 42 [] []) [] (.agg [.rsl (rowBk exC.blocks) 0 exC.blocks.length, .rsl (rowI exC.cars) 0 exC.cars.length]), PureF Try.prog (.clos 23 [] []) [.agg [.rsl (rowBk exC.blocks) 0 exC.blocks.length, .rsl (rowI exC.cars) 0 exC.cars.length], .int .i64 3, .nilSl, .rsl [.int .i64 2, .int .i64 1, .int .i64 0, .int .i64 1, .int .i64 1] 0 1] (.tup [.int .i64 ((stopsK exC 3 ([] : List Prs) ([(⟨2, 1, 0, 1, 1⟩ : Flt)])).1), .int .i64 ((stopsK exC 3 ([] : List Prs) ([(⟨2, 1, 0, 1, 1⟩ : Flt)])).2)]), 0 = 0, ((playK exC 6 ([(⟨0, 3, 0⟩ : Prs)]) ([] : List Flt)).2 == 0) = true, ((stopsK exC 3 ([] : List Prs) ([(⟨2, 1, 0, 1, 1⟩ : Flt)])).2 == 0) = false, false = false, false = false, false = false])
    (hr : AvLe (.bool false) res) : G Try.prog E [.code (bodyAt Try.prog 17)] ⟨[] ++ unds (Try.f17.ntmps - 0), []⟩ :=
  end_stepL (n := 400) (evs := [.v (.agg [.rsl (rowBk exC.blocks) 0 exC.blocks.length, .rsl (rowI exC.cars) 0 exC.cars.length]), .lent [0] (.tup [.rsl ((rowLs rowSpt) ((playK exC 6 ([(⟨0, 3, 0⟩ : Prs)]) ([] : List Flt)).1)) 0 (((playK exC 6 ([(⟨0, 3, 0⟩ : Prs)]) ([] : List Flt)).1).length), .int .i64 ((playK exC 6 ([(⟨0, 3, 0⟩ : Prs)]) ([] : List Flt)).2)]) [⟨false, 1, 3, true, [], false⟩], .v (.agg [.rsl (rowBk exC.blocks) 0 exC.blocks.length, .rsl (rowI exC.cars) 0 exC.cars.length]), .v (.tup [.int .i64 ((stopsK exC 3 ([] : List Prs) ([(⟨2, 1, 0, 1, 1⟩ : Flt)])).1), .int .i64 ((stopsK exC 3 ([] : List Prs) ([(⟨2, 1, 0, 1, 1⟩ : Flt)])).2)]), .b true, .b false, .b false, .b false, .b false]) (obs := _) hE Try.func17 mixed (by kernel_rfl) ho hr
theorem p17_start_5    {E : Env} {res : AV} (hE : PureE Try.prog 17 res E) (ho : AllP [PureF Try.prog (.clos 42 [] []) [] (.agg [.rsl (rowBk exC.blocks) 0 exC.blocks.length, .rsl (rowI exC.cars) 0 exC.cars.length]), LentF Try.prog (.clos 19 [] []) [.agg [.rsl (rowBk exC.blocks) 0 exC.blocks.length, .rsl (rowI exC.cars) 0 exC.cars.length], .int .i64 6, .sl 0 0 0 1 3, .nilSl] [⟨true, 0, 3, true, [.int .i64 0, .int .i64 3, .int .i64 0], true⟩] (.tup [.rsl ((rowLs rowSpt) ((playK exC 6 ([(⟨0, 3, 0⟩ : Prs)]) ([] : List Flt)).1)) 0 (((playK exC 6 ([(⟨0, 3, 0⟩ : Prs)]) ([] : List Flt)).1).length), .int .i64 ((playK exC 6 ([(⟨0, 3, 0⟩ : Prs)]) ([] : List Flt)).2)]) [⟨false, 1, 3, true, [], false⟩], PureF Try.prog (.clos 42 [] []) [] (.agg [.rsl (rowBk exC.blocks) 0 exC.blocks.length, .rsl (rowI exC.cars) 0 exC.cars.length]), PureF Try.prog (.clos 23 [] []) [.agg [.rsl (rowBk exC.blocks) 0 exC.blocks.length, .rsl (rowI exC.cars) 0 exC.cars.length], .int .i64 3, .nilSl, .rsl [.int .i64 2, .int .i64 1, .int .i64 0, .int .i64 1, .int .i64 1] 0 1] (.tup [.int .i64 ((stopsK exC 3 ([] : List Prs) ([(⟨2, 1, 0, 1, 1⟩ : Flt)])).1), .int .i64 ((stopsK exC 3 ([] : List Prs) ([(⟨2, 1, 0, 1, 1⟩ : Flt)])).2)]), 0 = 0, ((playK exC 6 ([(⟨0, 3, 0⟩ : Prs)]) ([] : List Flt)).2 == 0) = false, false = false, false = false, false = false, false = false])
    (hr : AvLe (.bool false) res) : G Try.prog E [.code (bodyAt Try.prog 17)] ⟨[] ++ unds (Try.f17.ntmps - 0), []⟩ :=
  end_stepL (n := 400) (evs := [.v (.agg [.rsl (rowBk exC.blocks) 0 exC.blocks.length, .rsl (rowI exC.cars) 0 exC.cars.length]), .lent [0] (.tup [.rsl ((rowLs rowSpt) ((playK exC 6 ([(⟨0, 3, 0⟩ : Prs)]) ([] : List Flt)).1)) 0 (((playK exC 6 ([(⟨0, 3, 0⟩ : Prs)]) ([] : List Flt)).1).length), .int .i64 ((playK exC 6 ([(⟨0, 3, 0⟩ : Prs)]) ([] : List Flt)).2)]) [⟨false, 1, 3, true, [], false⟩], .v (.agg [.rsl (rowBk exC.blocks) 0 exC.blocks.length, .rsl (rowI exC.cars) 0 exC.cars.length]), .v (.tup [.int .i64 ((stopsK exC 3 ([] : List Prs) ([(⟨2, 1, 0, 1, 1⟩ : Flt)])).1), .int .i64 ((stopsK exC 3 ([] : List Prs) ([(⟨2, 1, 0, 1, 1⟩ : Flt)])).2)]), .b false, .b false, .b false, .b false, .b false]) (obs := _) hE Try.func17 mixed (by kernel_rfl) ho hr
theorem f17W  {E : Env} {rv : Bool} (hE : PureE Try.prog 17 (.bool rv) E)
    (h : (((exC.blocks.length ≤ 9223372036854775807 ∧ exC.cars.length ≤ 9223372036854775807) ∧ ([(⟨0, 3, 0⟩ : Prs)]).length ≤ 9223372036854775807 ∧ ([] : List Flt).length ≤ 9223372036854775807) ∧ (((exC.blocks.length ≤ 9223372036854775807 ∧ exC.cars.length ≤ 9223372036854775807) ∧ ([] : List Prs).length ≤ 9223372036854775807 ∧ ([(⟨2, 1, 0, 1, 1⟩ : Flt)]).length ≤ 9223372036854775807) ∧ (((playK exC 6 ([(⟨0, 3, 0⟩ : Prs)]) ([] : List Flt)).2 = 0 → (((stopsK exC 3 ([] : List Prs) ([(⟨2, 1, 0, 1, 1⟩ : Flt)])).2 = 0 → (((stopsK exC 3 ([] : List Prs) ([(⟨2, 1, 0, 1, 1⟩ : Flt)])).1 = 2 → ((((((playK exC 6 ([(⟨0, 3, 0⟩ : Prs)]) ([] : List Flt)).1).length : Nat) : Int) = 6 → (∃ le : (List Spt), ((playK exC 6 ([(⟨0, 3, 0⟩ : Prs)]) ([] : List Flt)).1)[3]? = some le ∧ (((le.length : Int) = 2 → (∃ se : Spt, le[0]? = some se ∧ rv = (se.block == 1 && (se.ran == 0 && (se.opn == false && true))))) ∧ (¬ ((le.length : Int) = 2) → rv = false)))) ∧ (¬ (((((playK exC 6 ([(⟨0, 3, 0⟩ : Prs)]) ([] : List Flt)).1).length : Nat) : Int) = 6) → rv = false))) ∧ (¬ ((stopsK exC 3 ([] : List Prs) ([(⟨2, 1, 0, 1, 1⟩ : Flt)])).1 = 2) → rv = false))) ∧ (¬ ((stopsK exC 3 ([] : List Prs) ([(⟨2, 1, 0, 1, 1⟩ : Flt)])).2 = 0) → rv = false))) ∧ (¬ ((playK exC 6 ([(⟨0, 3, 0⟩ : Prs)]) ([] : List Flt)).2 = 0) → rv = false))))) : G Try.prog E [.code (bodyAt Try.prog 17)] ⟨[] ++ unds (Try.f17.ntmps - 0), []⟩ := by
  obtain ⟨h1, h⟩ := h
  obtain ⟨h2, h⟩ := h
  rcases Bool.eq_false_or_eq_true ((playK exC 6 ([(⟨0, 3, 0⟩ : Prs)]) ([] : List Flt)).2 == 0) with hc0 | hc0
  · have h := h.1 (eq_of_beq hc0)
    rcases Bool.eq_false_or_eq_true ((stopsK exC 3 ([] : List Prs) ([(⟨2, 1, 0, 1, 1⟩ : Flt)])).2 == 0) with hc1 | hc1
    · have h := h.1 (eq_of_beq hc1)
      rcases Bool.eq_false_or_eq_true ((stopsK exC 3 ([] : List Prs) ([(⟨2, 1, 0, 1, 1⟩ : Flt)])).1 == 2) with hc2 | hc2
      · have h := h.1 (eq_of_beq hc2)
        rcases Bool.eq_false_or_eq_true (((((playK exC 6 ([(⟨0, 3, 0⟩ : Prs)]) ([] : List Flt)).1).length : Nat) : Int) == 6) with hc3 | hc3
        · have h := h.1 (eq_of_beq hc3)
          obtain ⟨le, h3, h⟩ := h
          rcases Bool.eq_false_or_eq_true ((le.length : Int) == 2) with hc4 | hc4
          · have h := h.1 (eq_of_beq hc4)
            obtain ⟨se, h4, h⟩ := h
            exact p17_start_0    le se hE ⟨(pureF_of Try.func42 (by kernel_rfl) f42b (example_ok )), (lentF_of_pure (fv' := .clos 19 [] []) (args' := [.agg [.rsl (rowBk exC.blocks) 0 exC.blocks.length, .rsl (rowI exC.cars) 0 exC.cars.length], .int .i64 6, .rsl [.int .i64 0, .int .i64 3, .int .i64 0] 0 1, .nilSl]) (o1 := []) (o2 := [0 = 0]) (by kernel_rfl) trivial (by kernel_rfl) ⟨rfl, trivial⟩ (PureF.le (args := [.agg [.rsl (rowBk exC.blocks) 0 exC.blocks.length, .rsl (rowI exC.cars) 0 exC.cars.length], .int .i64 6, .rsl (rowPrs ([(⟨0, 3, 0⟩ : Prs)])) 0 (([(⟨0, 3, 0⟩ : Prs)]).length), .rsl (rowFlt ([] : List Flt)) 0 (([] : List Flt).length)]) (pureF_of Try.func19 (by kernel_rfl) f19b (play_ok exC 6 ([(⟨0, 3, 0⟩ : Prs)]) ([] : List Flt) h1)) ⟨AvLe.of_eq rfl, ⟨AvLe.of_eq rfl, ⟨AvLe.of_eq rfl, ⟨nil_le, trivial⟩⟩⟩⟩)), (pureF_of Try.func42 (by kernel_rfl) f42b (example_ok )), (PureF.le (args := [.agg [.rsl (rowBk exC.blocks) 0 exC.blocks.length, .rsl (rowI exC.cars) 0 exC.cars.length], .int .i64 3, .rsl (rowPrs ([] : List Prs)) 0 (([] : List Prs).length), .rsl (rowFlt ([(⟨2, 1, 0, 1, 1⟩ : Flt)])) 0 (([(⟨2, 1, 0, 1, 1⟩ : Flt)]).length)]) (pureF_of Try.func23 (by kernel_rfl) f23b (stops_ok exC 3 ([] : List Prs) ([(⟨2, 1, 0, 1, 1⟩ : Flt)]) h2)) ⟨AvLe.of_eq rfl, ⟨AvLe.of_eq rfl, ⟨nil_le, ⟨AvLe.of_eq rfl, trivial⟩⟩⟩⟩), rfl, hc0, hc1, hc2, hc3, (idx_ok h3), (row_part (cLs rowSpt) (s := 1) (k := 0) (m := 1) (fun _ => rfl) (by decide) h3), hc4, (idx_ok h3), (row_part (cLs rowSpt) (s := 1) (k := 0) (m := 1) (fun _ => rfl) (by decide) h3), (idx_ok h4), (row_part cSpt (s := 3) (k := 0) (m := 3) (fun _ => rfl) (by decide) h4), trivial⟩ (AvLe.of_eq (by rw [h]; try rfl))
          · have h := h.2 (ne_of_beq_false hc4)
            exact p17_start_1    le hE ⟨(pureF_of Try.func42 (by kernel_rfl) f42b (example_ok )), (lentF_of_pure (fv' := .clos 19 [] []) (args' := [.agg [.rsl (rowBk exC.blocks) 0 exC.blocks.length, .rsl (rowI exC.cars) 0 exC.cars.length], .int .i64 6, .rsl [.int .i64 0, .int .i64 3, .int .i64 0] 0 1, .nilSl]) (o1 := []) (o2 := [0 = 0]) (by kernel_rfl) trivial (by kernel_rfl) ⟨rfl, trivial⟩ (PureF.le (args := [.agg [.rsl (rowBk exC.blocks) 0 exC.blocks.length, .rsl (rowI exC.cars) 0 exC.cars.length], .int .i64 6, .rsl (rowPrs ([(⟨0, 3, 0⟩ : Prs)])) 0 (([(⟨0, 3, 0⟩ : Prs)]).length), .rsl (rowFlt ([] : List Flt)) 0 (([] : List Flt).length)]) (pureF_of Try.func19 (by kernel_rfl) f19b (play_ok exC 6 ([(⟨0, 3, 0⟩ : Prs)]) ([] : List Flt) h1)) ⟨AvLe.of_eq rfl, ⟨AvLe.of_eq rfl, ⟨AvLe.of_eq rfl, ⟨nil_le, trivial⟩⟩⟩⟩)), (pureF_of Try.func42 (by kernel_rfl) f42b (example_ok )), (PureF.le (args := [.agg [.rsl (rowBk exC.blocks) 0 exC.blocks.length, .rsl (rowI exC.cars) 0 exC.cars.length], .int .i64 3, .rsl (rowPrs ([] : List Prs)) 0 (([] : List Prs).length), .rsl (rowFlt ([(⟨2, 1, 0, 1, 1⟩ : Flt)])) 0 (([(⟨2, 1, 0, 1, 1⟩ : Flt)]).length)]) (pureF_of Try.func23 (by kernel_rfl) f23b (stops_ok exC 3 ([] : List Prs) ([(⟨2, 1, 0, 1, 1⟩ : Flt)]) h2)) ⟨AvLe.of_eq rfl, ⟨AvLe.of_eq rfl, ⟨nil_le, ⟨AvLe.of_eq rfl, trivial⟩⟩⟩⟩), rfl, hc0, hc1, hc2, hc3, (idx_ok h3), (row_part (cLs rowSpt) (s := 1) (k := 0) (m := 1) (fun _ => rfl) (by decide) h3), hc4, trivial⟩ (AvLe.of_eq (by rw [h]; try rfl))
        · have h := h.2 (ne_of_beq_false hc3)
          exact p17_start_2     hE ⟨(pureF_of Try.func42 (by kernel_rfl) f42b (example_ok )), (lentF_of_pure (fv' := .clos 19 [] []) (args' := [.agg [.rsl (rowBk exC.blocks) 0 exC.blocks.length, .rsl (rowI exC.cars) 0 exC.cars.length], .int .i64 6, .rsl [.int .i64 0, .int .i64 3, .int .i64 0] 0 1, .nilSl]) (o1 := []) (o2 := [0 = 0]) (by kernel_rfl) trivial (by kernel_rfl) ⟨rfl, trivial⟩ (PureF.le (args := [.agg [.rsl (rowBk exC.blocks) 0 exC.blocks.length, .rsl (rowI exC.cars) 0 exC.cars.length], .int .i64 6, .rsl (rowPrs ([(⟨0, 3, 0⟩ : Prs)])) 0 (([(⟨0, 3, 0⟩ : Prs)]).length), .rsl (rowFlt ([] : List Flt)) 0 (([] : List Flt).length)]) (pureF_of Try.func19 (by kernel_rfl) f19b (play_ok exC 6 ([(⟨0, 3, 0⟩ : Prs)]) ([] : List Flt) h1)) ⟨AvLe.of_eq rfl, ⟨AvLe.of_eq rfl, ⟨AvLe.of_eq rfl, ⟨nil_le, trivial⟩⟩⟩⟩)), (pureF_of Try.func42 (by kernel_rfl) f42b (example_ok )), (PureF.le (args := [.agg [.rsl (rowBk exC.blocks) 0 exC.blocks.length, .rsl (rowI exC.cars) 0 exC.cars.length], .int .i64 3, .rsl (rowPrs ([] : List Prs)) 0 (([] : List Prs).length), .rsl (rowFlt ([(⟨2, 1, 0, 1, 1⟩ : Flt)])) 0 (([(⟨2, 1, 0, 1, 1⟩ : Flt)]).length)]) (pureF_of Try.func23 (by kernel_rfl) f23b (stops_ok exC 3 ([] : List Prs) ([(⟨2, 1, 0, 1, 1⟩ : Flt)]) h2)) ⟨AvLe.of_eq rfl, ⟨AvLe.of_eq rfl, ⟨nil_le, ⟨AvLe.of_eq rfl, trivial⟩⟩⟩⟩), rfl, hc0, hc1, hc2, hc3, rfl, trivial⟩ (AvLe.of_eq (by rw [h]; try rfl))
      · have h := h.2 (ne_of_beq_false hc2)
        exact p17_start_3     hE ⟨(pureF_of Try.func42 (by kernel_rfl) f42b (example_ok )), (lentF_of_pure (fv' := .clos 19 [] []) (args' := [.agg [.rsl (rowBk exC.blocks) 0 exC.blocks.length, .rsl (rowI exC.cars) 0 exC.cars.length], .int .i64 6, .rsl [.int .i64 0, .int .i64 3, .int .i64 0] 0 1, .nilSl]) (o1 := []) (o2 := [0 = 0]) (by kernel_rfl) trivial (by kernel_rfl) ⟨rfl, trivial⟩ (PureF.le (args := [.agg [.rsl (rowBk exC.blocks) 0 exC.blocks.length, .rsl (rowI exC.cars) 0 exC.cars.length], .int .i64 6, .rsl (rowPrs ([(⟨0, 3, 0⟩ : Prs)])) 0 (([(⟨0, 3, 0⟩ : Prs)]).length), .rsl (rowFlt ([] : List Flt)) 0 (([] : List Flt).length)]) (pureF_of Try.func19 (by kernel_rfl) f19b (play_ok exC 6 ([(⟨0, 3, 0⟩ : Prs)]) ([] : List Flt) h1)) ⟨AvLe.of_eq rfl, ⟨AvLe.of_eq rfl, ⟨AvLe.of_eq rfl, ⟨nil_le, trivial⟩⟩⟩⟩)), (pureF_of Try.func42 (by kernel_rfl) f42b (example_ok )), (PureF.le (args := [.agg [.rsl (rowBk exC.blocks) 0 exC.blocks.length, .rsl (rowI exC.cars) 0 exC.cars.length], .int .i64 3, .rsl (rowPrs ([] : List Prs)) 0 (([] : List Prs).length), .rsl (rowFlt ([(⟨2, 1, 0, 1, 1⟩ : Flt)])) 0 (([(⟨2, 1, 0, 1, 1⟩ : Flt)]).length)]) (pureF_of Try.func23 (by kernel_rfl) f23b (stops_ok exC 3 ([] : List Prs) ([(⟨2, 1, 0, 1, 1⟩ : Flt)]) h2)) ⟨AvLe.of_eq rfl, ⟨AvLe.of_eq rfl, ⟨nil_le, ⟨AvLe.of_eq rfl, trivial⟩⟩⟩⟩), rfl, hc0, hc1, hc2, rfl, rfl, trivial⟩ (AvLe.of_eq (by rw [h]; try rfl))
    · have h := h.2 (ne_of_beq_false hc1)
      exact p17_start_4     hE ⟨(pureF_of Try.func42 (by kernel_rfl) f42b (example_ok )), (lentF_of_pure (fv' := .clos 19 [] []) (args' := [.agg [.rsl (rowBk exC.blocks) 0 exC.blocks.length, .rsl (rowI exC.cars) 0 exC.cars.length], .int .i64 6, .rsl [.int .i64 0, .int .i64 3, .int .i64 0] 0 1, .nilSl]) (o1 := []) (o2 := [0 = 0]) (by kernel_rfl) trivial (by kernel_rfl) ⟨rfl, trivial⟩ (PureF.le (args := [.agg [.rsl (rowBk exC.blocks) 0 exC.blocks.length, .rsl (rowI exC.cars) 0 exC.cars.length], .int .i64 6, .rsl (rowPrs ([(⟨0, 3, 0⟩ : Prs)])) 0 (([(⟨0, 3, 0⟩ : Prs)]).length), .rsl (rowFlt ([] : List Flt)) 0 (([] : List Flt).length)]) (pureF_of Try.func19 (by kernel_rfl) f19b (play_ok exC 6 ([(⟨0, 3, 0⟩ : Prs)]) ([] : List Flt) h1)) ⟨AvLe.of_eq rfl, ⟨AvLe.of_eq rfl, ⟨AvLe.of_eq rfl, ⟨nil_le, trivial⟩⟩⟩⟩)), (pureF_of Try.func42 (by kernel_rfl) f42b (example_ok )), (PureF.le (args := [.agg [.rsl (rowBk exC.blocks) 0 exC.blocks.length, .rsl (rowI exC.cars) 0 exC.cars.length], .int .i64 3, .rsl (rowPrs ([] : List Prs)) 0 (([] : List Prs).length), .rsl (rowFlt ([(⟨2, 1, 0, 1, 1⟩ : Flt)])) 0 (([(⟨2, 1, 0, 1, 1⟩ : Flt)]).length)]) (pureF_of Try.func23 (by kernel_rfl) f23b (stops_ok exC 3 ([] : List Prs) ([(⟨2, 1, 0, 1, 1⟩ : Flt)]) h2)) ⟨AvLe.of_eq rfl, ⟨AvLe.of_eq rfl, ⟨nil_le, ⟨AvLe.of_eq rfl, trivial⟩⟩⟩⟩), rfl, hc0, hc1, rfl, rfl, rfl, trivial⟩ (AvLe.of_eq (by rw [h]; try rfl))
  · have h := h.2 (ne_of_beq_false hc0)
    exact p17_start_5     hE ⟨(pureF_of Try.func42 (by kernel_rfl) f42b (example_ok )), (lentF_of_pure (fv' := .clos 19 [] []) (args' := [.agg [.rsl (rowBk exC.blocks) 0 exC.blocks.length, .rsl (rowI exC.cars) 0 exC.cars.length], .int .i64 6, .rsl [.int .i64 0, .int .i64 3, .int .i64 0] 0 1, .nilSl]) (o1 := []) (o2 := [0 = 0]) (by kernel_rfl) trivial (by kernel_rfl) ⟨rfl, trivial⟩ (PureF.le (args := [.agg [.rsl (rowBk exC.blocks) 0 exC.blocks.length, .rsl (rowI exC.cars) 0 exC.cars.length], .int .i64 6, .rsl (rowPrs ([(⟨0, 3, 0⟩ : Prs)])) 0 (([(⟨0, 3, 0⟩ : Prs)]).length), .rsl (rowFlt ([] : List Flt)) 0 (([] : List Flt).length)]) (pureF_of Try.func19 (by kernel_rfl) f19b (play_ok exC 6 ([(⟨0, 3, 0⟩ : Prs)]) ([] : List Flt) h1)) ⟨AvLe.of_eq rfl, ⟨AvLe.of_eq rfl, ⟨AvLe.of_eq rfl, ⟨nil_le, trivial⟩⟩⟩⟩)), (pureF_of Try.func42 (by kernel_rfl) f42b (example_ok )), (PureF.le (args := [.agg [.rsl (rowBk exC.blocks) 0 exC.blocks.length, .rsl (rowI exC.cars) 0 exC.cars.length], .int .i64 3, .rsl (rowPrs ([] : List Prs)) 0 (([] : List Prs).length), .rsl (rowFlt ([(⟨2, 1, 0, 1, 1⟩ : Flt)])) 0 (([(⟨2, 1, 0, 1, 1⟩ : Flt)]).length)]) (pureF_of Try.func23 (by kernel_rfl) f23b (stops_ok exC 3 ([] : List Prs) ([(⟨2, 1, 0, 1, 1⟩ : Flt)]) h2)) ⟨AvLe.of_eq rfl, ⟨AvLe.of_eq rfl, ⟨nil_le, ⟨AvLe.of_eq rfl, trivial⟩⟩⟩⟩), rfl, hc0, rfl, rfl, rfl, rfl, trivial⟩ (AvLe.of_eq (by rw [h]; try rfl))

theorem works_ok : Pure Try.prog 17 [] (.bool true) := pure_of Try.func17 f17b fun E hE => by
  have e1 : (playK exC 6 ([(⟨0, 3, 0⟩ : Prs)]) ([] : List Flt)).2 = 0 := by kernel_rfl
  have e2 : (stopsK exC 3 ([] : List Prs) ([(⟨2, 1, 0, 1, 1⟩ : Flt)])).2 = 0 := by kernel_rfl
  have e3 : (stopsK exC 3 ([] : List Prs) ([(⟨2, 1, 0, 1, 1⟩ : Flt)])).1 = 2 := by kernel_rfl
  have e4 : (playK exC 6 ([(⟨0, 3, 0⟩ : Prs)]) ([] : List Flt)).1.length = 6 := by kernel_rfl
  have e5 : ((playK exC 6 ([(⟨0, 3, 0⟩ : Prs)]) ([] : List Flt)).1.getD 3 []).length = 2 := by kernel_rfl
  have e6 : ((playK exC 6 ([(⟨0, 3, 0⟩ : Prs)]) ([] : List Flt)).1.getD 3 []).getD 0 dS = ⟨1, 0, false⟩ := by kernel_rfl
  refine f17W (rv := true) hE ⟨⟨⟨by decide, by decide⟩, by decide, by decide⟩, ⟨⟨by decide, by decide⟩, by decide, by decide⟩, fun _ => ⟨fun _ => ⟨fun _ => ⟨fun _ => ⟨_, getD_some (d := []) (by rw [e4]; decide), fun _ => ⟨_, getD_some (d := dS) (by rw [e5]; decide), by rw [e6]; rfl⟩, fun h => ?_⟩, fun h => ?_⟩, fun h => ?_⟩, fun h => ?_⟩, fun h => ?_⟩
  · exact absurd (by rw [e5]; rfl) h
  · exact absurd (by rw [e4]; rfl) h
  · exact absurd e3 h
  · exact absurd e2 h
  · exact absurd e1 h

theorem f8b : Try.f8.body = some (bodyAt Try.prog 8) := by kernel_rfl
theorem p8_start_0 (c : Cir)   {E : Env} {res : AV} (hE : PureE Try.prog 8 res E) (ho : AllP [PureF Try.prog (.clos 15 [] []) [.agg [.rsl (rowBk c.blocks) 0 c.blocks.length, .rsl (rowI c.cars) 0 c.cars.length]] (.bool (farB c)), (farB c) = true, PureF Try.prog (.clos 17 [] []) [] (.bool true)])
    (hr : AvLe (.bool true) res) : G Try.prog E [.code (bodyAt Try.prog 8)] ⟨[.agg [.rsl (rowBk c.blocks) 0 c.blocks.length, .rsl (rowI c.cars) 0 c.cars.length]] ++ unds (Try.f8.ntmps - 1), []⟩ :=
  end_stepL (n := 400) (evs := [.v (.bool (farB c)), .b true, .v (.bool true)]) (obs := _) hE Try.func8 mixed (by kernel_rfl) ho hr
theorem p8_start_1 (c : Cir)   {E : Env} {res : AV} (hE : PureE Try.prog 8 res E) (ho : AllP [PureF Try.prog (.clos 15 [] []) [.agg [.rsl (rowBk c.blocks) 0 c.blocks.length, .rsl (rowI c.cars) 0 c.cars.length]] (.bool (farB c)), (farB c) = false, PureF Try.prog (.clos 18 [] []) [.agg [.rsl (rowBk c.blocks) 0 c.blocks.length, .rsl (rowI c.cars) 0 c.cars.length]] (.agg [.rsl (rowBk c.blocks) 0 c.blocks.length, .rsl (rowI c.cars) 0 c.cars.length]), PureF Try.prog (.clos 28 [] []) [.agg [.rsl (rowBk c.blocks) 0 c.blocks.length, .rsl (rowI c.cars) 0 c.cars.length]] (.tup [.bool ((jamsK c).1), .int .i64 ((jamsK c).2)]), PureF Try.prog (.clos 29 [] []) [.agg [.rsl (rowBk c.blocks) 0 c.blocks.length, .rsl (rowI c.cars) 0 c.cars.length]] (.tup [.bool ((jamsK c).1), .int .i64 ((jamsK c).2)]), PureF Try.prog (.clos 18 [] []) [.agg [.rsl (rowBk c.blocks) 0 c.blocks.length, .rsl (rowI c.cars) 0 c.cars.length]] (.agg [.rsl (rowBk c.blocks) 0 c.blocks.length, .rsl (rowI c.cars) 0 c.cars.length]), PureF Try.prog (.clos 30 [] []) [.agg [.rsl (rowBk c.blocks) 0 c.blocks.length, .rsl (rowI c.cars) 0 c.cars.length]] (.int .i64 (checkC c)), PureF Try.prog (.clos 26 [] []) [.agg [.rsl (rowBk c.blocks) 0 c.blocks.length, .rsl (rowI c.cars) 0 c.cars.length]] (.int .i64 (checkC c)), ((checkC c) == (checkC c)) = true, ((jamsK c).1 == (jamsK c).1) = true, ((jamsK c).2 == (jamsK c).2) = true, PureF Try.prog (.clos 17 [] []) [] (.bool true)])
    (hr : AvLe (.bool true) res) : G Try.prog E [.code (bodyAt Try.prog 8)] ⟨[.agg [.rsl (rowBk c.blocks) 0 c.blocks.length, .rsl (rowI c.cars) 0 c.cars.length]] ++ unds (Try.f8.ntmps - 1), []⟩ :=
  end_stepL (n := 400) (evs := [.v (.bool (farB c)), .b false, .v (.agg [.rsl (rowBk c.blocks) 0 c.blocks.length, .rsl (rowI c.cars) 0 c.cars.length]), .v (.tup [.bool ((jamsK c).1), .int .i64 ((jamsK c).2)]), .v (.tup [.bool ((jamsK c).1), .int .i64 ((jamsK c).2)]), .v (.agg [.rsl (rowBk c.blocks) 0 c.blocks.length, .rsl (rowI c.cars) 0 c.cars.length]), .v (.int .i64 (checkC c)), .v (.int .i64 (checkC c)), .b true, .b true, .b true, .v (.bool true)]) (obs := _) hE Try.func8 mixed (by kernel_rfl) ho hr
theorem p8_start_2 (c : Cir)   {E : Env} {res : AV} (hE : PureE Try.prog 8 res E) (ho : AllP [PureF Try.prog (.clos 15 [] []) [.agg [.rsl (rowBk c.blocks) 0 c.blocks.length, .rsl (rowI c.cars) 0 c.cars.length]] (.bool (farB c)), (farB c) = false, PureF Try.prog (.clos 18 [] []) [.agg [.rsl (rowBk c.blocks) 0 c.blocks.length, .rsl (rowI c.cars) 0 c.cars.length]] (.agg [.rsl (rowBk c.blocks) 0 c.blocks.length, .rsl (rowI c.cars) 0 c.cars.length]), PureF Try.prog (.clos 28 [] []) [.agg [.rsl (rowBk c.blocks) 0 c.blocks.length, .rsl (rowI c.cars) 0 c.cars.length]] (.tup [.bool ((jamsK c).1), .int .i64 ((jamsK c).2)]), PureF Try.prog (.clos 29 [] []) [.agg [.rsl (rowBk c.blocks) 0 c.blocks.length, .rsl (rowI c.cars) 0 c.cars.length]] (.tup [.bool ((jamsK c).1), .int .i64 ((jamsK c).2)]), PureF Try.prog (.clos 18 [] []) [.agg [.rsl (rowBk c.blocks) 0 c.blocks.length, .rsl (rowI c.cars) 0 c.cars.length]] (.agg [.rsl (rowBk c.blocks) 0 c.blocks.length, .rsl (rowI c.cars) 0 c.cars.length]), PureF Try.prog (.clos 30 [] []) [.agg [.rsl (rowBk c.blocks) 0 c.blocks.length, .rsl (rowI c.cars) 0 c.cars.length]] (.int .i64 (checkC c)), PureF Try.prog (.clos 26 [] []) [.agg [.rsl (rowBk c.blocks) 0 c.blocks.length, .rsl (rowI c.cars) 0 c.cars.length]] (.int .i64 (checkC c)), ((checkC c) == (checkC c)) = true, ((jamsK c).1 == (jamsK c).1) = true, ((jamsK c).2 == (jamsK c).2) = false])
    (hr : AvLe (.bool false) res) : G Try.prog E [.code (bodyAt Try.prog 8)] ⟨[.agg [.rsl (rowBk c.blocks) 0 c.blocks.length, .rsl (rowI c.cars) 0 c.cars.length]] ++ unds (Try.f8.ntmps - 1), []⟩ :=
  end_stepL (n := 400) (evs := [.v (.bool (farB c)), .b false, .v (.agg [.rsl (rowBk c.blocks) 0 c.blocks.length, .rsl (rowI c.cars) 0 c.cars.length]), .v (.tup [.bool ((jamsK c).1), .int .i64 ((jamsK c).2)]), .v (.tup [.bool ((jamsK c).1), .int .i64 ((jamsK c).2)]), .v (.agg [.rsl (rowBk c.blocks) 0 c.blocks.length, .rsl (rowI c.cars) 0 c.cars.length]), .v (.int .i64 (checkC c)), .v (.int .i64 (checkC c)), .b true, .b true, .b false]) (obs := _) hE Try.func8 mixed (by kernel_rfl) ho hr
theorem p8_start_3 (c : Cir)   {E : Env} {res : AV} (hE : PureE Try.prog 8 res E) (ho : AllP [PureF Try.prog (.clos 15 [] []) [.agg [.rsl (rowBk c.blocks) 0 c.blocks.length, .rsl (rowI c.cars) 0 c.cars.length]] (.bool (farB c)), (farB c) = false, PureF Try.prog (.clos 18 [] []) [.agg [.rsl (rowBk c.blocks) 0 c.blocks.length, .rsl (rowI c.cars) 0 c.cars.length]] (.agg [.rsl (rowBk c.blocks) 0 c.blocks.length, .rsl (rowI c.cars) 0 c.cars.length]), PureF Try.prog (.clos 28 [] []) [.agg [.rsl (rowBk c.blocks) 0 c.blocks.length, .rsl (rowI c.cars) 0 c.cars.length]] (.tup [.bool ((jamsK c).1), .int .i64 ((jamsK c).2)]), PureF Try.prog (.clos 29 [] []) [.agg [.rsl (rowBk c.blocks) 0 c.blocks.length, .rsl (rowI c.cars) 0 c.cars.length]] (.tup [.bool ((jamsK c).1), .int .i64 ((jamsK c).2)]), PureF Try.prog (.clos 18 [] []) [.agg [.rsl (rowBk c.blocks) 0 c.blocks.length, .rsl (rowI c.cars) 0 c.cars.length]] (.agg [.rsl (rowBk c.blocks) 0 c.blocks.length, .rsl (rowI c.cars) 0 c.cars.length]), PureF Try.prog (.clos 30 [] []) [.agg [.rsl (rowBk c.blocks) 0 c.blocks.length, .rsl (rowI c.cars) 0 c.cars.length]] (.int .i64 (checkC c)), PureF Try.prog (.clos 26 [] []) [.agg [.rsl (rowBk c.blocks) 0 c.blocks.length, .rsl (rowI c.cars) 0 c.cars.length]] (.int .i64 (checkC c)), ((checkC c) == (checkC c)) = true, ((jamsK c).1 == (jamsK c).1) = false, false = false])
    (hr : AvLe (.bool false) res) : G Try.prog E [.code (bodyAt Try.prog 8)] ⟨[.agg [.rsl (rowBk c.blocks) 0 c.blocks.length, .rsl (rowI c.cars) 0 c.cars.length]] ++ unds (Try.f8.ntmps - 1), []⟩ :=
  end_stepL (n := 400) (evs := [.v (.bool (farB c)), .b false, .v (.agg [.rsl (rowBk c.blocks) 0 c.blocks.length, .rsl (rowI c.cars) 0 c.cars.length]), .v (.tup [.bool ((jamsK c).1), .int .i64 ((jamsK c).2)]), .v (.tup [.bool ((jamsK c).1), .int .i64 ((jamsK c).2)]), .v (.agg [.rsl (rowBk c.blocks) 0 c.blocks.length, .rsl (rowI c.cars) 0 c.cars.length]), .v (.int .i64 (checkC c)), .v (.int .i64 (checkC c)), .b true, .b false, .b false]) (obs := _) hE Try.func8 mixed (by kernel_rfl) ho hr
theorem p8_start_4 (c : Cir)   {E : Env} {res : AV} (hE : PureE Try.prog 8 res E) (ho : AllP [PureF Try.prog (.clos 15 [] []) [.agg [.rsl (rowBk c.blocks) 0 c.blocks.length, .rsl (rowI c.cars) 0 c.cars.length]] (.bool (farB c)), (farB c) = false, PureF Try.prog (.clos 18 [] []) [.agg [.rsl (rowBk c.blocks) 0 c.blocks.length, .rsl (rowI c.cars) 0 c.cars.length]] (.agg [.rsl (rowBk c.blocks) 0 c.blocks.length, .rsl (rowI c.cars) 0 c.cars.length]), PureF Try.prog (.clos 28 [] []) [.agg [.rsl (rowBk c.blocks) 0 c.blocks.length, .rsl (rowI c.cars) 0 c.cars.length]] (.tup [.bool ((jamsK c).1), .int .i64 ((jamsK c).2)]), PureF Try.prog (.clos 29 [] []) [.agg [.rsl (rowBk c.blocks) 0 c.blocks.length, .rsl (rowI c.cars) 0 c.cars.length]] (.tup [.bool ((jamsK c).1), .int .i64 ((jamsK c).2)]), PureF Try.prog (.clos 18 [] []) [.agg [.rsl (rowBk c.blocks) 0 c.blocks.length, .rsl (rowI c.cars) 0 c.cars.length]] (.agg [.rsl (rowBk c.blocks) 0 c.blocks.length, .rsl (rowI c.cars) 0 c.cars.length]), PureF Try.prog (.clos 30 [] []) [.agg [.rsl (rowBk c.blocks) 0 c.blocks.length, .rsl (rowI c.cars) 0 c.cars.length]] (.int .i64 (checkC c)), PureF Try.prog (.clos 26 [] []) [.agg [.rsl (rowBk c.blocks) 0 c.blocks.length, .rsl (rowI c.cars) 0 c.cars.length]] (.int .i64 (checkC c)), ((checkC c) == (checkC c)) = false, false = false, false = false])
    (hr : AvLe (.bool false) res) : G Try.prog E [.code (bodyAt Try.prog 8)] ⟨[.agg [.rsl (rowBk c.blocks) 0 c.blocks.length, .rsl (rowI c.cars) 0 c.cars.length]] ++ unds (Try.f8.ntmps - 1), []⟩ :=
  end_stepL (n := 400) (evs := [.v (.bool (farB c)), .b false, .v (.agg [.rsl (rowBk c.blocks) 0 c.blocks.length, .rsl (rowI c.cars) 0 c.cars.length]), .v (.tup [.bool ((jamsK c).1), .int .i64 ((jamsK c).2)]), .v (.tup [.bool ((jamsK c).1), .int .i64 ((jamsK c).2)]), .v (.agg [.rsl (rowBk c.blocks) 0 c.blocks.length, .rsl (rowI c.cars) 0 c.cars.length]), .v (.int .i64 (checkC c)), .v (.int .i64 (checkC c)), .b false, .b false, .b false]) (obs := _) hE Try.func8 mixed (by kernel_rfl) ho hr
theorem f8W (c : Cir) {E : Env} {rv : Bool} (hE : PureE Try.prog 8 (.bool rv) E)
    (h : (((farB c) = true → rv = true) ∧ ((farB c) = false → ((c.blocks.length ≤ 2147483648 ∧ c.cars.length ≤ 2147483648) ∧ ((c.blocks.length ≤ 9223372036854775807 ∧ c.cars.length ≤ 9223372036854775807) ∧ ((c.blocks.length ≤ 9223372036854775807 ∧ c.cars.length ≤ 9223372036854775807) ∧ ((c.blocks.length ≤ 2147483648 ∧ c.cars.length ≤ 2147483648) ∧ ((c.blocks.length ≤ 9223372036854775807 ∧ c.cars.length ≤ 9223372036854775807) ∧ ((c.blocks.length ≤ 9223372036854775807 ∧ c.cars.length ≤ 9223372036854775807) ∧ (((checkC c) = (checkC c) → (((jamsK c).1 = (jamsK c).1 → (((jamsK c).2 = (jamsK c).2 → rv = true) ∧ (¬ ((jamsK c).2 = (jamsK c).2) → rv = false))) ∧ (¬ ((jamsK c).1 = (jamsK c).1) → rv = false))) ∧ (¬ ((checkC c) = (checkC c)) → rv = false))))))))))) : G Try.prog E [.code (bodyAt Try.prog 8)] ⟨[.agg [.rsl (rowBk c.blocks) 0 c.blocks.length, .rsl (rowI c.cars) 0 c.cars.length]] ++ unds (Try.f8.ntmps - 1), []⟩ := by
  rcases Bool.eq_false_or_eq_true (farB c) with hc0 | hc0
  · have h := h.1 hc0
    exact p8_start_0 c    hE ⟨(pureF_of Try.func15 (by kernel_rfl) f15b (far_ok c)), hc0, (pureF_of Try.func17 (by kernel_rfl) f17b works_ok), trivial⟩ (AvLe.of_eq (by rw [h]; try rfl))
  · have h := h.2 hc0
    obtain ⟨h1, h⟩ := h
    obtain ⟨h2, h⟩ := h
    obtain ⟨h3, h⟩ := h
    obtain ⟨h4, h⟩ := h
    obtain ⟨h5, h⟩ := h
    obtain ⟨h6, h⟩ := h
    rcases Bool.eq_false_or_eq_true ((checkC c) == (checkC c)) with hc1 | hc1
    · have h := h.1 (eq_of_beq hc1)
      rcases Bool.eq_false_or_eq_true ((jamsK c).1 == (jamsK c).1) with hc2 | hc2
      · have h := h.1 (eq_of_beq hc2)
        rcases Bool.eq_false_or_eq_true ((jamsK c).2 == (jamsK c).2) with hc3 | hc3
        · have h := h.1 (eq_of_beq hc3)
          exact p8_start_1 c    hE ⟨(pureF_of Try.func15 (by kernel_rfl) f15b (far_ok c)), hc0, (pureF_of Try.func18 (by kernel_rfl) f18b (copied_ok c h1)), (pureF_of Try.func28 (by kernel_rfl) f28b (jams_ok c h2)), (pureF_of Try.func29 (by kernel_rfl) f29b (jamsR_ok c h3)), (pureF_of Try.func18 (by kernel_rfl) f18b (copied_ok c h4)), (pureF_of Try.func30 (by kernel_rfl) f30b (check_ok c h5)), (pureF_of Try.func26 (by kernel_rfl) f26b (checkR_ok c h6)), hc1, hc2, hc3, (pureF_of Try.func17 (by kernel_rfl) f17b works_ok), trivial⟩ (AvLe.of_eq (by rw [h]; try rfl))
        · have h := h.2 (ne_of_beq_false hc3)
          exact p8_start_2 c    hE ⟨(pureF_of Try.func15 (by kernel_rfl) f15b (far_ok c)), hc0, (pureF_of Try.func18 (by kernel_rfl) f18b (copied_ok c h1)), (pureF_of Try.func28 (by kernel_rfl) f28b (jams_ok c h2)), (pureF_of Try.func29 (by kernel_rfl) f29b (jamsR_ok c h3)), (pureF_of Try.func18 (by kernel_rfl) f18b (copied_ok c h4)), (pureF_of Try.func30 (by kernel_rfl) f30b (check_ok c h5)), (pureF_of Try.func26 (by kernel_rfl) f26b (checkR_ok c h6)), hc1, hc2, hc3, trivial⟩ (AvLe.of_eq (by rw [h]; try rfl))
      · have h := h.2 (ne_of_beq_false hc2)
        exact p8_start_3 c    hE ⟨(pureF_of Try.func15 (by kernel_rfl) f15b (far_ok c)), hc0, (pureF_of Try.func18 (by kernel_rfl) f18b (copied_ok c h1)), (pureF_of Try.func28 (by kernel_rfl) f28b (jams_ok c h2)), (pureF_of Try.func29 (by kernel_rfl) f29b (jamsR_ok c h3)), (pureF_of Try.func18 (by kernel_rfl) f18b (copied_ok c h4)), (pureF_of Try.func30 (by kernel_rfl) f30b (check_ok c h5)), (pureF_of Try.func26 (by kernel_rfl) f26b (checkR_ok c h6)), hc1, hc2, rfl, trivial⟩ (AvLe.of_eq (by rw [h]; try rfl))
    · have h := h.2 (ne_of_beq_false hc1)
      exact p8_start_4 c    hE ⟨(pureF_of Try.func15 (by kernel_rfl) f15b (far_ok c)), hc0, (pureF_of Try.func18 (by kernel_rfl) f18b (copied_ok c h1)), (pureF_of Try.func28 (by kernel_rfl) f28b (jams_ok c h2)), (pureF_of Try.func29 (by kernel_rfl) f29b (jamsR_ok c h3)), (pureF_of Try.func18 (by kernel_rfl) f18b (copied_ok c h4)), (pureF_of Try.func30 (by kernel_rfl) f30b (check_ok c h5)), (pureF_of Try.func26 (by kernel_rfl) f26b (checkR_ok c h6)), hc1, rfl, rfl, trivial⟩ (AvLe.of_eq (by rw [h]; try rfl))
theorem dInts (W : World) : Dec Try.prog W 23 (List Int) (fun a => [.rsl (rowI a) 0 a.length]) (fun a => a.length ≤ 9223372036854775807) := by
  refine Dec.map (dec_slice Try.underlying23 (n := 1) (by kernel_rfl) (by decide) (fun _ => rfl) (fun _ => rfl) (dec_i64 Try.underlying3)) (fun x => x) ?_ ?_
  · exact fun _ => rfl
  · exact fun _ h => h.1
theorem dBk (W : World) : Dec Try.prog W 45 Bk cBk (fun a => True) := by
  refine Dec.map (dec_struct Try.underlying45 rfl (tot := 4) (by kernel_rfl) (decFs_cons (n := 1) (tot := 4) (by kernel_rfl) rfl (dec_i64 Try.underlying3) (decFs_cons (n := 1) (tot := 4) (by kernel_rfl) rfl (dec_bool Try.underlying4) (decFs_cons (n := 1) (tot := 4) (by kernel_rfl) rfl (dec_i64 Try.underlying3) (decFs_cons (n := 1) (tot := 4) (by kernel_rfl) rfl (dec_bool Try.underlying4) decFs_nil (by decide)) (by decide)) (by decide)) (by decide))) (fun x => (⟨x.1, x.2.1, x.2.2.1, x.2.2.2.1⟩ : Bk)) ?_ ?_
  · exact fun _ => rfl
  · exact fun _ _ => trivial
theorem dBks (W : World) : Dec Try.prog W 22 (List Bk) (fun a => [.rsl (rowBk a) 0 a.length]) (fun a => a.length ≤ 9223372036854775807) := by
  refine Dec.map (dec_slice Try.underlying22 (n := 4) (by kernel_rfl) (by decide) (fun _ => rfl) (fun _ => rfl) (dBk W)) (fun x => x) ?_ ?_
  · exact fun _ => rfl
  · exact fun _ h => h.1
theorem dCir (W : World) : Dec Try.prog W 25 Cir (fun a => [.rsl (rowBk a.blocks) 0 a.blocks.length, .rsl (rowI a.cars) 0 a.cars.length]) (fun a => a.blocks.length ≤ 9223372036854775807 ∧ a.cars.length ≤ 9223372036854775807) := by
  refine Dec.map (dec_struct Try.underlying25 rfl (tot := 2) (by kernel_rfl) (decFs_cons (n := 1) (tot := 2) (by kernel_rfl) rfl (dBks W) (decFs_cons (n := 1) (tot := 2) (by kernel_rfl) rfl (dInts W) decFs_nil (by decide)) (by decide))) (fun x => (⟨x.1, x.2.1⟩ : Cir)) ?_ ?_
  · exact fun _ => rfl
  · exact fun _ h => ⟨h.1, h.2.1⟩
def CirQ (c : Cir) : Prop := c.blocks.length ≤ 9223372036854775807 ∧ c.cars.length ≤ 9223372036854775807
theorem far_in {c : Cir} (h : farB c = false) : c.blocks.length ≤ 15 ∧ c.cars.length ≤ 12 := by
  simp only [farB, Bool.or_eq_false_iff, decide_eq_false_iff_not] at h; omega
theorem law8_ok (c : Cir) (h : CirQ c) : Pure Try.prog 8 [.agg [.rsl (rowBk c.blocks) 0 c.blocks.length, .rsl (rowI c.cars) 0 c.cars.length]] (.bool true) := pure_of Try.func8 f8b fun E hE => by
  refine f8W c (rv := true) hE ⟨fun _ => rfl, fun hf => ?_⟩
  have hb := far_in hf
  have h2 : c.blocks.length ≤ 2147483648 ∧ c.cars.length ≤ 2147483648 := ⟨by omega, by omega⟩
  exact ⟨h2, h, h, h2, h, h, fun _ => ⟨fun _ => ⟨fun _ => rfl, fun h => absurd rfl h⟩, fun h => absurd rfl h⟩, fun h => absurd rfl h⟩
end Go.Proofs.Ytgdfkjjgdkejfaa
