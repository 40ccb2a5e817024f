/- Behind the payments of Settle all balances are 0, and there are as many as Fewest says; this is at most the number of balances that are not 0, less 1, and at least half of them; payments by which they are settled are never fewer; for any balances and payments. -/
import Derived.Test.YtmdbebbibecidaaLTakingsSettledD
import Derived.Test.YtmdbebbibecidaaRows
import Derived.ChangeCalls
set_option linter.unusedVariables false
set_option linter.unusedSimpArgs false
set_option maxRecDepth 100000
namespace Go.Proofs.Ytmdbebbibecidaa.takingsSettled
open Go Ax Go.ChangeShapes Go.WideShapes Go.ChangeAt Go.RowKit
open Go.Proofs Go.Proofs.Ytmdbebbibecidaa

theorem reads (W : World) : DecAs Try.prog W Try.f14.params.toList (fun al => Pure Try.prog 14 al (.bool true)) := by
  rw [Try.params14]
  exact qW (qX Try.underlying22 (dInts W)) fun b h => qW (qX Try.underlying44 (dPays W)) fun l _ => decAs_nil (law14_ok b l h)

theorem spec_eq (H : Type) (ds : List (DataW H)) (h : ds.length = 2) : (Rows.takingsSettledSpec.fn H (ds ++ [])).results = [.lit (.bool true)] ∧ (Rows.takingsSettledSpec.fn H (ds ++ [])).args = ds ∧ (Rows.takingsSettledSpec.fn H (ds ++ [])).vars = [] := by
  match ds, h with
  | [d0, d1], _ => exact ⟨rfl, rfl, rfl⟩

theorem lifted (os : Os) (started : os.Started) (H : Type) (enc : TypeId × Value → H) :
    ReturnsInHanded {} Try.checked os 14 .any (Rows.takingsSettledSpec.pre6 enc Try.prog Try.f14 Rows.takingsSettledRow.domain false) (Rows.takingsSettledSpec.post enc Try.prog Try.f14 false true false false) := by
  refine returnsInHanded_of_change (C := Try.checked) ownT started (by kernel_rfl) Try.func14
    (ChangeSpec.witness6 (enc := enc) (C := Try.checked) false ⟨#[], #[.slice none 0 0, .slice none 0 0], []⟩ 12 (by kernel_rfl) (by kernel_rfl) (by kernel_rfl) (by kernel_rfl)) ?_
  intro W base args ds gs before hval0 hW _ _
  have hval : ∀ (j : Nat) t v, Try.f14.params.toList[j]? = some t → args.toList[j]? = some v → Value.okWide Try.prog W .any base t v := fun j t v h1 h2 => hval0 j t v (by simpa using h1) (by simpa using h2)
  have hW' := hW
  obtain ⟨p, q, hA, hV, -, -, -⟩ := hW
  have hA' : DataW.TrodAll enc Try.prog W 0 (fun _ => true) true Try.f14.params.toList args.toList ds p := hA
  obtain ⟨rfl, rfl⟩ := trodVars_none hV
  obtain ⟨al, hp, hv⟩ := reads W H enc base args.toList ds p hval hA'
  have hlen : ds.length = 2 := by
    have := (trodAll_length hA').2
    rw [Try.params14] at this
    exact this
  obtain ⟨e1, e2, e3⟩ := spec_eq H ds hlen
  refine (hp (Old W) W args (fun _ h => h) hv).mono fun e W' hQ => ?_
  obtain ⟨v, rfl, hr, hf⟩ := hQ
  cases hr
  refine ⟨_, rfl, law_post (P := Try.prog) (tb := 4) hW' rfl (by kernel_rfl) Try.underlying4 e1 e2 e3 laidT ?_ hf⟩
  rw [Try.params14]
  intro t ht
  simp only [List.mem_cons, List.not_mem_nil, or_false] at ht
  rcases ht with rfl | rfl <;> exact ⟨by kernel_rfl, of_decide_eq_true (by kernel_rfl)⟩

theorem takingsSettled_holds : Rows.TakingsSettledSaid :=
  OpenClaim.holds_of_wide 14 Try.f14 rfl rfl rfl rfl rfl rfl rfl ⟨rfl, rfl, rfl, rfl, rfl⟩ rfl rfl rfl rfl rfl (by kernel_rfl) Try.func14 (by kernel_rfl)
    (of_decide_eq_true (by kernel_rfl)) (by unfold Func.isWrapper; first | (rw [if_pos (by decide +kernel)]; kernel_rfl) | (rw [if_neg (by decide +kernel)]; exact ⟨rfl, rfl⟩))
    (fun os started H enc _ => lifted os started H enc)

end Go.Proofs.Ytmdbebbibecidaa.takingsSettled

