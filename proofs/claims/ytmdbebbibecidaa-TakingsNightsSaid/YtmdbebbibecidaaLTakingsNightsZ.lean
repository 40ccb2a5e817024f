/- Nights of the program and of the reference return the same, off is at most the number of nights, and the parts are all takings together; for any nights and weights. -/
import Derived.Test.YtmdbebbibecidaaLTakingsNightsC
import Derived.Test.YtmdbebbibecidaaRows
import Derived.ChangeCalls
set_option linter.unusedVariables false
set_option linter.unusedSimpArgs false
set_option maxRecDepth 100000
namespace Go.Proofs.Ytmdbebbibecidaa.takingsNights
open Go Ax Go.ChangeShapes Go.WideShapes Go.ChangeAt Go.RowKit
open Go.Proofs Go.Proofs.Ytmdbebbibecidaa

theorem reads (W : World) : DecZs Try.prog W Try.f9.params.toList (fun al => Pure Try.prog 9 al (.bool true)) := by
  rw [Try.params9]
  exact decZs_cons (decA_slice Try.underlying22 (dInts W)).z fun ns h => decZs_cons (decZ_slice Try.underlying22 (n := 8) (by kernel_rfl) (dInts W)) fun ws h2 => decZs_nil (law9_ok ns ws h (by have := h2.2; unfold reachBytes at this; omega))

theorem spec_eq (H : Type) (ds : List (DataW H)) (h : ds.length = 2) : (Rows.takingsNightsSpec.fn H (ds ++ [])).results = [.lit (.bool true)] ∧ (Rows.takingsNightsSpec.fn H (ds ++ [])).args = ds ∧ (Rows.takingsNightsSpec.fn H (ds ++ [])).vars = [] := by
  match ds, h with
  | [d0, d1], _ => exact ⟨rfl, rfl, rfl⟩

theorem lifted (os : Os) (started : os.Started) (H : Type) (enc : TypeId × Value → H) :
    ReturnsInHanded {} Try.checked os 9 .any (Rows.takingsNightsSpec.pre6 enc Try.prog Try.f9 Rows.takingsNightsRow.domain false) (Rows.takingsNightsSpec.post enc Try.prog Try.f9 false true false false) := by
  refine returnsInHanded_of_change_sized (C := Try.checked) ownT started (by kernel_rfl) Try.func9
    (ChangeSpec.witness6 (enc := enc) (C := Try.checked) false ⟨#[], #[.slice none 0 0, .slice none 0 0], []⟩ 12 (by kernel_rfl) (by kernel_rfl) (by kernel_rfl) (by kernel_rfl)) ?_
  intro W base args ds gs before hval0 hW _ hS _
  have hval : ∀ (j : Nat) t v, Try.f9.params.toList[j]? = some t → args.toList[j]? = some v → Value.okWide Try.prog W .any base t v := fun j t v h1 h2 => hval0 j t v (by simpa using h1) (by simpa using h2)
  have hW' := hW
  obtain ⟨p, q, hA, hV, -, -, -⟩ := hW
  have hA' : DataW.TrodAll enc Try.prog W 0 (fun _ => true) true Try.f9.params.toList args.toList ds p := hA
  obtain ⟨rfl, rfl⟩ := trodVars_none hV
  rw [show Rows.takingsNightsSpec.plain.varTypes Try.checked.prog = [] by kernel_rfl, List.append_nil, List.append_nil] at hS
  obtain ⟨al, hp, hv⟩ := reads W H enc base args.toList ds p hval hA' hS
  have hlen : ds.length = 2 := by
    have := (trodAll_length hA').2
    rw [Try.params9] at this
    exact this
  obtain ⟨e1, e2, e3⟩ := spec_eq H ds hlen
  refine (hp (Old W) W args (fun _ h => h) hv).mono fun e W' hQ => ?_
  obtain ⟨v, rfl, hr, hf⟩ := hQ
  cases hr
  refine ⟨_, rfl, law_post (P := Try.prog) (tb := 4) hW' rfl (by kernel_rfl) Try.underlying4 e1 e2 e3 laidT ?_ hf⟩
  rw [Try.params9]
  intro t ht
  simp only [List.mem_cons, List.not_mem_nil, or_false] at ht
  rcases ht with rfl | rfl <;> exact ⟨by kernel_rfl, of_decide_eq_true (by kernel_rfl)⟩

theorem takingsNights_holds : Rows.TakingsNightsSaid :=
  OpenClaim.holds_of_wide 9 Try.f9 rfl rfl rfl rfl rfl rfl rfl ⟨rfl, rfl, rfl, rfl, rfl⟩ rfl rfl rfl rfl rfl (by kernel_rfl) Try.func9 (by kernel_rfl)
    (of_decide_eq_true (by kernel_rfl)) (by unfold Func.isWrapper; first | (rw [if_pos (by decide +kernel)]; kernel_rfl) | (rw [if_neg (by decide +kernel)]; exact ⟨rfl, rfl⟩))
    (fun os started H enc _ => lifted os started H enc)

end Go.Proofs.Ytmdbebbibecidaa.takingsNights

