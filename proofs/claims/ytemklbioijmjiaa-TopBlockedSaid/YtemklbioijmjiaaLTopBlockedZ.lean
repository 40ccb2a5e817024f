/- On a ground that is safe, a crowd of at most 7 people gets out whichever one cell is blocked, if nobody stands on it; and nobody who is left over would have had two ways; for every ground, field and cell. -/
import Derived.Test.YtemklbioijmjiaaLTopBlockedF
import Derived.Test.YtemklbioijmjiaaRows
import Derived.ChangeCalls
set_option linter.unusedVariables false
set_option linter.unusedSimpArgs false
set_option maxRecDepth 100000
namespace Go.Proofs.Ytemklbioijmjiaa.topBlocked
open Go Ax Go.ChangeShapes Go.WideShapes Go.ChangeAt Go.RowKit
open Go.Proofs Go.Proofs.Ytemklbioijmjiaa

theorem reads (W : World) : DecAs Try.prog W Try.f9.params.toList (fun al => Pure Try.prog 9 al (.bool true)) := by
  rw [Try.params9]
  exact qS (Qab Try.underlying48 (wGnd W)) fun g _ => qS (Qab Try.underlying127 (wFie W)) fun x _ => qS (decA_int Try.underlying3) fun b _ => decAs_nil (law9_ok g x b)

theorem spec_eq (H : Type) (ds : List (DataW H)) (h : ds.length = 3) : (Rows.topBlockedSpec.fn H (ds ++ [])).results = [.lit (.bool true)] ∧ (Rows.topBlockedSpec.fn H (ds ++ [])).args = ds ∧ (Rows.topBlockedSpec.fn H (ds ++ [])).vars = [] := by
  match ds, h with
  | [d0, d1, d2], _ => exact ⟨rfl, rfl, rfl⟩

theorem lifted (os : Os) (started : os.Started) (H : Type) (enc : TypeId × Value → H) :
    ReturnsInHanded {} Try.checked os 9 .any (Rows.topBlockedSpec.pre6 enc Try.prog Try.f9 Rows.topBlockedRow.domain false) (Rows.topBlockedSpec.post enc Try.prog Try.f9 false true false false) := by
  refine returnsInHanded_of_change (C := Try.checked) ownT started (by kernel_rfl) Try.func9
    (ChangeSpec.witness6 (enc := enc) (C := Try.checked) false ⟨#[], #[.agg #[.int .i64 0, .int .i64 0, .slice none 0 0, .slice none 0 0], .agg #[.slice none 0 0, .slice none 0 0, .slice none 0 0], .int .i64 0], []⟩ 12 (by kernel_rfl) (by kernel_rfl) (by kernel_rfl) (by kernel_rfl)) ?_
  intro W base args ds gs before hval0 hW _ _
  have hval : ∀ (j : Nat) t v, Try.f9.params.toList[j]? = some t → args.toList[j]? = some v → Value.okWide Try.prog W .any base t v := fun j t v h1 h2 => hval0 j t v (by simpa using h1) (by simpa using h2)
  have hW' := hW
  obtain ⟨p, q, hA, hV, -, -, -⟩ := hW
  have hA' : DataW.TrodAll enc Try.prog W 0 (fun _ => true) true Try.f9.params.toList args.toList ds p := hA
  obtain ⟨rfl, rfl⟩ := trodVars_none hV
  obtain ⟨al, hp, hv⟩ := reads W H enc base args.toList ds p hval hA'
  have hlen : ds.length = 3 := by
    have := (trodAll_length hA').2
    rw [Try.params9] at this
    exact this
  obtain ⟨e1, e2, e3⟩ := spec_eq H ds hlen
  refine (hp (Old W) W args (fun _ h => h) hv).mono fun e W' hQ => ?_
  obtain ⟨v, rfl, hr, hf⟩ := hQ
  cases hr
  refine ⟨_, rfl, law_post (P := Try.prog) (tb := 4) hW' rfl (by kernel_rfl) Try.underlying4 e1 e2 e3 laidT ?_ hf⟩
  rw [Try.params9]
  intro t ht
  simp only [List.mem_cons, List.not_mem_nil, or_false] at ht
  rcases ht with rfl | rfl | rfl <;> exact ⟨by kernel_rfl, of_decide_eq_true (by kernel_rfl)⟩

theorem jf0 : Rows.topBlockedRow.wf (OpenSpec.ofChange Rows.topBlockedSpec) = true := by kernel_rfl
theorem jf1 : laidOutB Try.checked.prog = true := by kernel_rfl
theorem jf2 : mapsRowed Try.checked.prog = true := by kernel_rfl
theorem jf3 : Try.f9.params.all (Try.checked.prog.readableRec ·) = true := by kernel_rfl
theorem jf4 : namedTie Try.checked.prog Rows.topBlockedRow.named Rows.topBlockedSpec.vars = true := by kernel_rfl
theorem jf5 : (Rows.topBlockedRow.stops == []) = true := by kernel_rfl
theorem jf6 : (Try.checked.prog.stops == []) = true := by kernel_rfl
theorem jf7 : (Rows.topBlockedRow.knobs == []) = true := by kernel_rfl
theorem jf8 : (Try.checked.prog.stopKnobs == []) = true := by kernel_rfl
theorem jf9 : (Rows.topBlockedRow.inPlace == Try.checked.prog.inPlace 9) = true := by kernel_rfl
theorem jf10 : (Rows.topBlockedRow.unfollowed == Try.checked.prog.unfollowed 9) = true := by kernel_rfl
theorem jf11 : (Rows.topBlockedRow.recurses == Try.checked.prog.recurses 9) = true := by kernel_rfl
theorem jf12 : (Rows.topBlockedRow.named == Try.checked.prog.varsNamed 9) = true := by kernel_rfl
theorem jf13 : (Rows.topBlockedRow.maps == (Try.f9.params.toList ++ Rows.topBlockedSpec.plain.varTypes Try.checked.prog).any (Try.checked.prog.mapsRec ·)) = true := by kernel_rfl
theorem jf14 : (Rows.topBlockedRow.ifaces == (Try.f9.params.toList ++ Rows.topBlockedSpec.plain.varTypes Try.checked.prog).any (Try.checked.prog.ifacesRec ·)) = true := by kernel_rfl
theorem jf15 : (Rows.topBlockedRow.mapsOut == Try.checked.prog.mapsAmong Try.f9.resultTypes.toList) = true := by kernel_rfl
theorem jf16 : (Rows.topBlockedRow.loops == (Try.f9.params.toList ++ Rows.topBlockedSpec.plain.varTypes Try.checked.prog).any (Try.checked.prog.loopsFrom ·)) = true := by kernel_rfl
theorem jf17 : (Rows.topBlockedRow.wideKeys == (Try.f9.params.toList ++ Rows.topBlockedSpec.plain.varTypes Try.checked.prog ++ Try.f9.resultTypes.toList).any (Try.checked.prog.wideKeysFrom ·)) = true := by kernel_rfl
theorem jf18 : Rows.topBlockedSpec.vars.all (Try.checked.prog.varReadable ·) = true := by kernel_rfl
theorem jf19 : Try.f9.resultTypes.all (fun t => Try.checked.prog.readableRec t && decide (t < Try.checked.prog.types.size)) = true := by kernel_rfl
theorem jf20 : (Rows.topBlockedRow.ifacesOut == Try.f9.resultTypes.toList.any (Try.checked.prog.ifacesRec ·)) = true := by kernel_rfl
theorem jf21 : (Rows.topBlockedRow.loopsOut == Try.f9.resultTypes.toList.any (Try.checked.prog.loopsFrom ·)) = true := by kernel_rfl
theorem jf22 : (Rows.topBlockedRow.plainKeys == Try.checked.prog.plainKeys) = true := by kernel_rfl
theorem jf23 : Rows.topBlockedRow.shortTexts.isNone = true := by kernel_rfl
theorem jf24 : Try.checked.prog.stopsHeard = true := by kernel_rfl
theorem jf25 : Try.checked.prog.mayEnter = true := by kernel_rfl
theorem jf26 : (Rows.topBlockedRow.lifted == Try.checked.prog.liftsFinal) = true := by kernel_rfl
theorem jf27 : (Try.checked.prog.make == some Rows.topBlockedRow.make) = true := by kernel_rfl
theorem jf28 : (Rows.topBlockedRow.kinds == (if Rows.topBlockedRow.domain.isEmpty then [] else Try.f9.params.toList.map fun t => match Try.checked.prog.underlying t with | some (.int k) => some k | _ => none)) = true := by kernel_rfl
theorem jf29 : (Rows.topBlockedRow.pinned == Rows.topBlockedRow.pinnedBy) = true := by kernel_rfl
theorem jf30 : (Rows.topBlockedRow.veiled == (Try.f9.params.toList ++ Rows.topBlockedSpec.plain.varTypes Try.checked.prog ++ Try.f9.resultTypes.toList).any (Try.checked.prog.veiledRec ·)) = true := by kernel_rfl
theorem jf31 : Rows.topBlockedRow.veiledFits Try.checked.prog Try.f9.params.toList (Try.f9.params.toList ++ Rows.topBlockedSpec.plain.varTypes Try.checked.prog ++ Try.f9.resultTypes.toList) = true := by kernel_rfl
theorem and_tt {a b : Bool} (h : a = true) (h2 : b = true) : (a && b) = true := by rw [h, h2]; rfl
theorem closed : joinedFacts Try.checked.prog 9 Try.f9 Rows.topBlockedSpec Rows.topBlockedRow = true := (and_tt (and_tt (and_tt (and_tt (and_tt (and_tt (and_tt (and_tt (and_tt (and_tt (and_tt (and_tt (and_tt (and_tt (and_tt (and_tt (and_tt (and_tt (and_tt (and_tt (and_tt (and_tt (and_tt (and_tt (and_tt (and_tt (and_tt (and_tt (and_tt (and_tt (and_tt jf0 jf1) jf2) jf3) jf4) jf5) jf6) jf7) jf8) jf9) jf10) jf11) jf12) jf13) jf14) jf15) jf16) jf17) jf18) jf19) jf20) jf21) jf22) jf23) jf24) jf25) jf26) jf27) jf28) jf29) jf30) jf31)
theorem named : Try.checked.prog.funcNamed Rows.topBlockedRow.func = some 9 := by kernel_rfl
theorem wrap : Try.f9.isWrapper Try.checked.prog Rows.topBlockedRow.wrapper Rows.topBlockedRow.mainSum := by unfold Func.isWrapper; first | (rw [if_pos (by decide +kernel)]; kernel_rfl) | (rw [if_neg (by decide +kernel)]; exact ⟨rfl, rfl⟩)

theorem topBlocked_holds : Rows.TopBlockedSaid :=
  OpenClaim.holds_of_wide 9 Try.f9 rfl rfl rfl rfl rfl rfl rfl ⟨rfl, rfl, rfl, rfl, rfl⟩ rfl rfl rfl rfl rfl named Try.func9 closed
    (of_decide_eq_true (by kernel_rfl)) wrap
    (fun os started H enc _ => lifted os started H enc)

end Go.Proofs.Ytemklbioijmjiaa.topBlocked

