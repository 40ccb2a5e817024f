/- While a ride is built up, part by part, in the order that Order gives, it stands more and more firmly, if its center is inside of all foot lines; and a soil that does not bear what stands does not bear it with one part more; for every kit, rig and soil. -/
import Derived.Test.YtemklbioijmjiaaLTopGrowsD
import Derived.Test.YtemklbioijmjiaaRows
import Derived.ChangeCalls
set_option linter.unusedVariables false
set_option linter.unusedSimpArgs false
set_option maxRecDepth 100000
namespace Go.Proofs.Ytemklbioijmjiaa.topGrows
open Go Ax Go.ChangeShapes Go.WideShapes Go.ChangeAt Go.RowKit
open Go.Proofs Go.Proofs.Ytemklbioijmjiaa

theorem reads (W : World) : DecAs Try.prog W Try.f3.params.toList (fun al => Pure Try.prog 3 al (.bool true)) := by
  rw [Try.params3]
  exact Wm (qu Try.underlying25 (tKit W)) fun k _ => Wm (qu Try.underlying31 (tRg W)) fun r _ => Wm (decA_int Try.underlying3) fun s _ => decAs_nil (law3_ok k r s)

theorem spec_eq (H : Type) (ds : List (DataW H)) (h : ds.length = 3) : (Rows.topGrowsSpec.fn H (ds ++ [])).results = [.lit (.bool true)] ∧ (Rows.topGrowsSpec.fn H (ds ++ [])).args = ds ∧ (Rows.topGrowsSpec.fn H (ds ++ [])).vars = [] := by
  match ds, h with
  | [d0, d1, d2], _ => exact ⟨rfl, rfl, rfl⟩

theorem lifted (os : Os) (started : os.Started) (H : Type) (enc : TypeId × Value → H) :
    ReturnsInHanded {} Try.checked os 3 .any (Rows.topGrowsSpec.pre6 enc Try.prog Try.f3 Rows.topGrowsRow.domain false) (Rows.topGrowsSpec.post enc Try.prog Try.f3 false true false false) := by
  refine returnsInHanded_of_change (C := Try.checked) ownT started (by kernel_rfl) Try.func3
    (ChangeSpec.witness6 (enc := enc) (C := Try.checked) false ⟨#[], #[.agg #[.slice none 0 0, .int .i64 0, .slice none 0 0], .agg #[.slice none 0 0, .slice none 0 0, .int .i64 0, .int .i64 0, .int .i64 0, .int .i64 0, .int .i64 0, .int .i64 0], .int .i64 0], []⟩ 12 (by kernel_rfl) (by kernel_rfl) (by kernel_rfl) (by kernel_rfl)) ?_
  intro W base args ds gs before hval0 hW _ _
  have hval : ∀ (j : Nat) t v, Try.f3.params.toList[j]? = some t → args.toList[j]? = some v → Value.okWide Try.prog W .any base t v := fun j t v h1 h2 => hval0 j t v (by simpa using h1) (by simpa using h2)
  have hW' := hW
  obtain ⟨p, q, hA, hV, -, -, -⟩ := hW
  have hA' : DataW.TrodAll enc Try.prog W 0 (fun _ => true) true Try.f3.params.toList args.toList ds p := hA
  obtain ⟨rfl, rfl⟩ := trodVars_none hV
  obtain ⟨al, hp, hv⟩ := reads W H enc base args.toList ds p hval hA'
  have hlen : ds.length = 3 := by
    have := (trodAll_length hA').2
    rw [Try.params3] at this
    exact this
  obtain ⟨e1, e2, e3⟩ := spec_eq H ds hlen
  refine (hp (Old W) W args (fun _ h => h) hv).mono fun e W' hQ => ?_
  obtain ⟨v, rfl, hr, hf⟩ := hQ
  cases hr
  refine ⟨_, rfl, law_post (P := Try.prog) (tb := 4) hW' rfl (by kernel_rfl) Try.underlying4 e1 e2 e3 laidT ?_ hf⟩
  rw [Try.params3]
  intro t ht
  simp only [List.mem_cons, List.not_mem_nil, or_false] at ht
  rcases ht with rfl | rfl | rfl <;> exact ⟨by kernel_rfl, of_decide_eq_true (by kernel_rfl)⟩

theorem topGrows_holds : Rows.TopGrowsSaid :=
  OpenClaim.holds_of_wide 3 Try.f3 rfl rfl rfl rfl rfl rfl rfl ⟨rfl, rfl, rfl, rfl, rfl⟩ rfl rfl rfl rfl rfl (by kernel_rfl) Try.func3 (by kernel_rfl)
    (of_decide_eq_true (by kernel_rfl)) (by unfold Func.isWrapper; first | (rw [if_pos (by decide +kernel)]; kernel_rfl) | (rw [if_neg (by decide +kernel)]; exact ⟨rfl, rfl⟩))
    (fun os started H enc _ => lifted os started H enc)

end Go.Proofs.Ytemklbioijmjiaa.topGrows

