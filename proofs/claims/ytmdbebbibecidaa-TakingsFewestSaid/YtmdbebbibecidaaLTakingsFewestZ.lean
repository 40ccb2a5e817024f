/- Fewest of the program and of the reference return the same, for every balances, and Settle returns the same errors. -/
import Derived.Test.YtmdbebbibecidaaLTakingsFewestD
import Derived.Test.YtmdbebbibecidaaRows
import Derived.ChangeCalls
set_option linter.unusedVariables false
set_option linter.unusedSimpArgs false
set_option maxRecDepth 100000
namespace Go.Proofs.Ytmdbebbibecidaa.takingsFewest
open Go Ax Go.ChangeShapes Go.WideShapes Go.ChangeAt Go.RowKit
open Go.Proofs Go.Proofs.Ytmdbebbibecidaa

theorem reads (W : World) : DecAs Try.prog W Try.f13.params.toList (fun al => Pure Try.prog 13 al (.bool true)) := by
  rw [Try.params13]
  exact decAs_cons (decA_slice Try.underlying22 (dInts W)) fun b h => decAs_nil (law13_ok b h)

theorem spec_eq (H : Type) (ds : List (DataW H)) (h : ds.length = 1) : (Rows.takingsFewestSpec.fn H (ds ++ [])).results = [.lit (.bool true)] ∧ (Rows.takingsFewestSpec.fn H (ds ++ [])).args = ds ∧ (Rows.takingsFewestSpec.fn H (ds ++ [])).vars = [] := by
  match ds, h with
  | [d0], _ => exact ⟨rfl, rfl, rfl⟩

theorem lifted (os : Os) (started : os.Started) (H : Type) (enc : TypeId × Value → H) :
    ReturnsInHanded {} Try.checked os 13 .any (Rows.takingsFewestSpec.pre6 enc Try.prog Try.f13 Rows.takingsFewestRow.domain false) (Rows.takingsFewestSpec.post enc Try.prog Try.f13 false true false false) := by
  refine returnsInHanded_of_change (C := Try.checked) ownT started (by kernel_rfl) Try.func13
    (ChangeSpec.witness6 (enc := enc) (C := Try.checked) false ⟨#[], #[.slice none 0 0], []⟩ 12 (by kernel_rfl) (by kernel_rfl) (by kernel_rfl) (by kernel_rfl)) ?_
  intro W base args ds gs before hval0 hW _ _
  have hval : ∀ (j : Nat) t v, Try.f13.params.toList[j]? = some t → args.toList[j]? = some v → Value.okWide Try.prog W .any base t v := fun j t v h1 h2 => hval0 j t v (by simpa using h1) (by simpa using h2)
  have hW' := hW
  obtain ⟨p, q, hA, hV, -, -, -⟩ := hW
  have hA' : DataW.TrodAll enc Try.prog W 0 (fun _ => true) true Try.f13.params.toList args.toList ds p := hA
  obtain ⟨rfl, rfl⟩ := trodVars_none hV
  obtain ⟨al, hp, hv⟩ := reads W H enc base args.toList ds p hval hA'
  have hlen : ds.length = 1 := by
    have := (trodAll_length hA').2
    rw [Try.params13] at this
    exact this
  obtain ⟨e1, e2, e3⟩ := spec_eq H ds hlen
  refine (hp (Old W) W args (fun _ h => h) hv).mono fun e W' hQ => ?_
  obtain ⟨v, rfl, hr, hf⟩ := hQ
  cases hr
  refine ⟨_, rfl, law_post (P := Try.prog) (tb := 4) hW' rfl (by kernel_rfl) Try.underlying4 e1 e2 e3 laidT ?_ hf⟩
  rw [Try.params13]
  intro t ht
  simp only [List.mem_cons, List.not_mem_nil, or_false] at ht
  rcases ht with rfl <;> exact ⟨by kernel_rfl, of_decide_eq_true (by kernel_rfl)⟩

theorem takingsFewest_holds : Rows.TakingsFewestSaid :=
  OpenClaim.holds_of_wide 13 Try.f13 rfl rfl rfl rfl rfl rfl rfl ⟨rfl, rfl, rfl, rfl, rfl⟩ rfl rfl rfl rfl rfl (by kernel_rfl) Try.func13 (by kernel_rfl)
    (of_decide_eq_true (by kernel_rfl)) (by unfold Func.isWrapper; first | (rw [if_pos (by decide +kernel)]; kernel_rfl) | (rw [if_neg (by decide +kernel)]; exact ⟨rfl, rfl⟩))
    (fun os started H enc _ => lifted os started H enc)

end Go.Proofs.Ytmdbebbibecidaa.takingsFewest

