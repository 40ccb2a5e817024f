/- If each lorry of a convoy belongs to a family that pays for the ticks on its roads, and all share what is paid, then the part of each is the same, but for a cent for each lorry at the most, and all is settled with as few payments as possible; and nobody leaves a town before the lorry has come there; for every map, lorries and fuel. -/
import Derived.Test.YtemklbioijmjiaaLTopFuelF
import Derived.Test.YtemklbioijmjiaaRows
import Derived.ChangeCalls
set_option linter.unusedVariables false
set_option linter.unusedSimpArgs false
set_option maxRecDepth 100000
namespace Go.Proofs.Ytemklbioijmjiaa.topFuel
open Go Ax Go.ChangeShapes Go.WideShapes Go.ChangeAt Go.RowKit
open Go.Proofs Go.Proofs.Ytemklbioijmjiaa

theorem reads (W : World) : DecAs Try.prog W Try.f11.params.toList (fun al => Pure Try.prog 11 al (.bool true)) := by
  rw [Try.params11]
  exact yG (Qav Try.underlying145 (vMap W)) fun m _ => yG (decA_slice Try.underlying146 (vLrys W)) fun l hl => yG (Qav Try.underlying148 (vFuel W)) fun f _ => decAs_nil (law11_ok m l f hl)

theorem spec_eq (H : Type) (ds : List (DataW H)) (h : ds.length = 3) : (Rows.topFuelSpec.fn H (ds ++ [])).results = [.lit (.bool true)] ∧ (Rows.topFuelSpec.fn H (ds ++ [])).args = ds ∧ (Rows.topFuelSpec.fn H (ds ++ [])).vars = [] := by
  match ds, h with
  | [d0, d1, d2], _ => exact ⟨rfl, rfl, rfl⟩

theorem lifted (os : Os) (started : os.Started) (H : Type) (enc : TypeId × Value → H) :
    ReturnsInHanded {} Try.checked os 11 .any (Rows.topFuelSpec.pre6 enc Try.prog Try.f11 Rows.topFuelRow.domain false) (Rows.topFuelSpec.post enc Try.prog Try.f11 false true false false) := by
  refine returnsInHanded_of_change (C := Try.checked) ownT started (by kernel_rfl) Try.func11
    (ChangeSpec.witness6 (enc := enc) (C := Try.checked) false ⟨#[], #[.agg #[.slice none 0 0, .slice none 0 0], .slice none 0 0, .agg #[.int .i64 0, .int .i64 0, .int .i64 0]], []⟩ 12 (by kernel_rfl) (by kernel_rfl) (by kernel_rfl) (by kernel_rfl)) ?_
  intro W base args ds gs before hval0 hW _ _
  have hval : ∀ (j : Nat) t v, Try.f11.params.toList[j]? = some t → args.toList[j]? = some v → Value.okWide Try.prog W .any base t v := fun j t v h1 h2 => hval0 j t v (by simpa using h1) (by simpa using h2)
  have hW' := hW
  obtain ⟨p, q, hA, hV, -, -, -⟩ := hW
  have hA' : DataW.TrodAll enc Try.prog W 0 (fun _ => true) true Try.f11.params.toList args.toList ds p := hA
  obtain ⟨rfl, rfl⟩ := trodVars_none hV
  obtain ⟨al, hp, hv⟩ := reads W H enc base args.toList ds p hval hA'
  have hlen : ds.length = 3 := by
    have := (trodAll_length hA').2
    rw [Try.params11] at this
    exact this
  obtain ⟨e1, e2, e3⟩ := spec_eq H ds hlen
  refine (hp (Old W) W args (fun _ h => h) hv).mono fun e W' hQ => ?_
  obtain ⟨v, rfl, hr, hf⟩ := hQ
  cases hr
  refine ⟨_, rfl, law_post (P := Try.prog) (tb := 4) hW' rfl (by kernel_rfl) Try.underlying4 e1 e2 e3 laidT ?_ hf⟩
  rw [Try.params11]
  intro t ht
  simp only [List.mem_cons, List.not_mem_nil, or_false] at ht
  rcases ht with rfl | rfl | rfl <;> exact ⟨by kernel_rfl, of_decide_eq_true (by kernel_rfl)⟩

theorem jf0 : Rows.topFuelRow.wf (OpenSpec.ofChange Rows.topFuelSpec) = true := by kernel_rfl
theorem jf1 : laidOutB Try.checked.prog = true := by kernel_rfl
theorem jf2 : mapsRowed Try.checked.prog = true := by kernel_rfl
theorem jf3 : Try.f11.params.all (Try.checked.prog.readableRec ·) = true := by kernel_rfl
theorem jf4 : namedTie Try.checked.prog Rows.topFuelRow.named Rows.topFuelSpec.vars = true := by kernel_rfl
theorem jf5 : (Rows.topFuelRow.stops == []) = true := by kernel_rfl
theorem jf6 : (Try.checked.prog.stops == []) = true := by kernel_rfl
theorem jf7 : (Rows.topFuelRow.knobs == []) = true := by kernel_rfl
theorem jf8 : (Try.checked.prog.stopKnobs == []) = true := by kernel_rfl
theorem jf9 : (Rows.topFuelRow.inPlace == Try.checked.prog.inPlace 11) = true := by kernel_rfl
theorem jf10 : (Rows.topFuelRow.unfollowed == Try.checked.prog.unfollowed 11) = true := by kernel_rfl
theorem jf11 : (Rows.topFuelRow.recurses == Try.checked.prog.recurses 11) = true := by kernel_rfl
theorem jf12 : (Rows.topFuelRow.named == Try.checked.prog.varsNamed 11) = true := by kernel_rfl
theorem jf13 : (Rows.topFuelRow.maps == (Try.f11.params.toList ++ Rows.topFuelSpec.plain.varTypes Try.checked.prog).any (Try.checked.prog.mapsRec ·)) = true := by kernel_rfl
theorem jf14 : (Rows.topFuelRow.ifaces == (Try.f11.params.toList ++ Rows.topFuelSpec.plain.varTypes Try.checked.prog).any (Try.checked.prog.ifacesRec ·)) = true := by kernel_rfl
theorem jf15 : (Rows.topFuelRow.mapsOut == Try.checked.prog.mapsAmong Try.f11.resultTypes.toList) = true := by kernel_rfl
theorem jf16 : (Rows.topFuelRow.loops == (Try.f11.params.toList ++ Rows.topFuelSpec.plain.varTypes Try.checked.prog).any (Try.checked.prog.loopsFrom ·)) = true := by kernel_rfl
theorem jf17 : (Rows.topFuelRow.wideKeys == (Try.f11.params.toList ++ Rows.topFuelSpec.plain.varTypes Try.checked.prog ++ Try.f11.resultTypes.toList).any (Try.checked.prog.wideKeysFrom ·)) = true := by kernel_rfl
theorem jf18 : Rows.topFuelSpec.vars.all (Try.checked.prog.varReadable ·) = true := by kernel_rfl
theorem jf19 : Try.f11.resultTypes.all (fun t => Try.checked.prog.readableRec t && decide (t < Try.checked.prog.types.size)) = true := by kernel_rfl
theorem jf20 : (Rows.topFuelRow.ifacesOut == Try.f11.resultTypes.toList.any (Try.checked.prog.ifacesRec ·)) = true := by kernel_rfl
theorem jf21 : (Rows.topFuelRow.loopsOut == Try.f11.resultTypes.toList.any (Try.checked.prog.loopsFrom ·)) = true := by kernel_rfl
theorem jf22 : (Rows.topFuelRow.plainKeys == Try.checked.prog.plainKeys) = true := by kernel_rfl
theorem jf23 : Rows.topFuelRow.shortTexts.isNone = true := by kernel_rfl
theorem jf24 : Try.checked.prog.stopsHeard = true := by kernel_rfl
theorem jf25 : Try.checked.prog.mayEnter = true := by kernel_rfl
theorem jf26 : (Rows.topFuelRow.lifted == Try.checked.prog.liftsFinal) = true := by kernel_rfl
theorem jf27 : (Try.checked.prog.make == some Rows.topFuelRow.make) = true := by kernel_rfl
theorem jf28 : (Rows.topFuelRow.kinds == (if Rows.topFuelRow.domain.isEmpty then [] else Try.f11.params.toList.map fun t => match Try.checked.prog.underlying t with | some (.int k) => some k | _ => none)) = true := by kernel_rfl
theorem jf29 : (Rows.topFuelRow.pinned == Rows.topFuelRow.pinnedBy) = true := by kernel_rfl
theorem jf30 : (Rows.topFuelRow.veiled == (Try.f11.params.toList ++ Rows.topFuelSpec.plain.varTypes Try.checked.prog ++ Try.f11.resultTypes.toList).any (Try.checked.prog.veiledRec ·)) = true := by kernel_rfl
theorem jf31 : Rows.topFuelRow.veiledFits Try.checked.prog Try.f11.params.toList (Try.f11.params.toList ++ Rows.topFuelSpec.plain.varTypes Try.checked.prog ++ Try.f11.resultTypes.toList) = true := by kernel_rfl
theorem and_tt {a b : Bool} (h : a = true) (h2 : b = true) : (a && b) = true := by rw [h, h2]; rfl
theorem closed : joinedFacts Try.checked.prog 11 Try.f11 Rows.topFuelSpec Rows.topFuelRow = true := (and_tt (and_tt (and_tt (and_tt (and_tt (and_tt (and_tt (and_tt (and_tt (and_tt (and_tt (and_tt (and_tt (and_tt (and_tt (and_tt (and_tt (and_tt (and_tt (and_tt (and_tt (and_tt (and_tt (and_tt (and_tt (and_tt (and_tt (and_tt (and_tt (and_tt (and_tt jf0 jf1) jf2) jf3) jf4) jf5) jf6) jf7) jf8) jf9) jf10) jf11) jf12) jf13) jf14) jf15) jf16) jf17) jf18) jf19) jf20) jf21) jf22) jf23) jf24) jf25) jf26) jf27) jf28) jf29) jf30) jf31)
theorem named : Try.checked.prog.funcNamed Rows.topFuelRow.func = some 11 := by kernel_rfl
theorem wrap : Try.f11.isWrapper Try.checked.prog Rows.topFuelRow.wrapper Rows.topFuelRow.mainSum := by unfold Func.isWrapper; first | (rw [if_pos (by decide +kernel)]; kernel_rfl) | (rw [if_neg (by decide +kernel)]; exact ⟨rfl, rfl⟩)

theorem topFuel_holds : Rows.TopFuelSaid :=
  OpenClaim.holds_of_wide 11 Try.f11 rfl rfl rfl rfl rfl rfl rfl ⟨rfl, rfl, rfl, rfl, rfl⟩ rfl rfl rfl rfl rfl named Try.func11 closed
    (of_decide_eq_true (by kernel_rfl)) wrap
    (fun os started H enc _ => lifted os started H enc)

end Go.Proofs.Ytemklbioijmjiaa.topFuel

