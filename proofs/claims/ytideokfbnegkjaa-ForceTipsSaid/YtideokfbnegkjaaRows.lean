/-
  No cell of these rows narrows 'for every input' (looked for: loops, veiled, ifaces, maps, wideKeys, modest, calm, conditions, laid).
  DERIVED. THE GIVEN ROWS OF THIS SEAT. 12 by the template 'for every input the law returns true; each argument reads behind the call as it read before'; 0 by the template 'total and deterministic' (their statements: YtideokfbnegkjaaTotals.lean).
  GIVEN WITH THE SEED: the statements are not yours to turn. If you find one false, say at which input.
  Laid BY PROGRAM, IN A SANDBOX (cutbox-rows.mjs): the forced cells as the released guide's own fill.sh prints them over the translation c4f9388807486f18… (all of the seat's roots in one cut). By AI agents, Wed Nov 11 2026. No macro, syntax, notation, axiom, sorry.
-/
import Derived.Test.YtideokfbnegkjaaChecked
import GoSem.Claim
import GoSem.ClaimJoined
import GoSem.ClaimMapViews
import Derived.JoinedTies
import Derived.KernelRfl
namespace Go.Proofs.Ytideokfbnegkjaa
/- THE CELL 'sum', in the pinned program and in every row, IS THE sha256 OF THE DUMP (.gsa) THAT YtideokfbnegkjaaProg.lean LOADS. Nothing in Lean hashes anything: it is a label: what it is worth is what the hold of that sum in a sandbox is worth. -/
noncomputable def Try.pinned : Pinned := { name := "ytideokfbnegkjaa", sum := "c4f9388807486f180869bc6e7c59d2fbdaba0266605b3293740a4cebc605da21", checked := Try.checked }
namespace Rows
def none {H : Type} : Left H := { results := [], args := [] }

/-- 'waltzerlaw03.ForceFastest': WHATEVER THE INPUT: true; the input reads as it did. -/
def forceFastestSpec : ChangeSpec := { name := "forceFastest", fn := fun _ => fun
  | [d1, d2] => { results := [.lit (.bool true)], args := [d1, d2] }
  | _ => none }
def forceFastestRow : OpenClaim := { program := "ytideokfbnegkjaa", sum := "c4f9388807486f180869bc6e7c59d2fbdaba0266605b3293740a4cebc605da21", func := "waltzer/waltzerlaw03.ForceFastest", spec := "forceFastest", unfollowed := true, recurses := true, apart := false }
def ForceFastestSaid : Prop := forceFastestRow.holds Try.pinned (OpenSpec.ofChange forceFastestSpec)

/-- ITS FALSE NEIGHBOUR: 'it returns false'. Refute it at one input. -/
def forceFastestWrong : ChangeSpec := { name := "forceFastest", fn := fun _ => fun
  | [d1, d2] => { results := [.lit (.bool false)], args := [d1, d2] }
  | _ => none }
def ForceFastestWrongFalsely : Prop := forceFastestRow.holds Try.pinned (OpenSpec.ofChange forceFastestWrong)

/-- 'waltzerlaw03.ForceFelt': WHATEVER THE INPUT: true; the input reads as it did. -/
def forceFeltSpec : ChangeSpec := { name := "forceFelt", fn := fun _ => fun
  | [d1, d2] => { results := [.lit (.bool true)], args := [d1, d2] }
  | _ => none }
def forceFeltRow : OpenClaim := { program := "ytideokfbnegkjaa", sum := "c4f9388807486f180869bc6e7c59d2fbdaba0266605b3293740a4cebc605da21", func := "waltzer/waltzerlaw03.ForceFelt", spec := "forceFelt", unfollowed := true, recurses := true, apart := false }
def ForceFeltSaid : Prop := forceFeltRow.holds Try.pinned (OpenSpec.ofChange forceFeltSpec)

/-- ITS FALSE NEIGHBOUR: 'it returns false'. Refute it at one input. -/
def forceFeltWrong : ChangeSpec := { name := "forceFelt", fn := fun _ => fun
  | [d1, d2] => { results := [.lit (.bool false)], args := [d1, d2] }
  | _ => none }
def ForceFeltWrongFalsely : Prop := forceFeltRow.holds Try.pinned (OpenSpec.ofChange forceFeltWrong)

/-- 'waltzerlaw03.ForceMoments': WHATEVER THE INPUT: true; the input reads as it did. -/
def forceMomentsSpec : ChangeSpec := { name := "forceMoments", fn := fun _ => fun
  | [d1, d2] => { results := [.lit (.bool true)], args := [d1, d2] }
  | _ => none }
def forceMomentsRow : OpenClaim := { program := "ytideokfbnegkjaa", sum := "c4f9388807486f180869bc6e7c59d2fbdaba0266605b3293740a4cebc605da21", func := "waltzer/waltzerlaw03.ForceMoments", spec := "forceMoments", unfollowed := true, recurses := true, apart := false }
def ForceMomentsSaid : Prop := forceMomentsRow.holds Try.pinned (OpenSpec.ofChange forceMomentsSpec)

/-- ITS FALSE NEIGHBOUR: 'it returns false'. Refute it at one input. -/
def forceMomentsWrong : ChangeSpec := { name := "forceMoments", fn := fun _ => fun
  | [d1, d2] => { results := [.lit (.bool false)], args := [d1, d2] }
  | _ => none }
def ForceMomentsWrongFalsely : Prop := forceMomentsRow.holds Try.pinned (OpenSpec.ofChange forceMomentsWrong)

/-- 'waltzerlaw03.ForceLeast': WHATEVER THE INPUT: true; the input reads as it did. -/
def forceLeastSpec : ChangeSpec := { name := "forceLeast", fn := fun _ => fun
  | [d1, d2] => { results := [.lit (.bool true)], args := [d1, d2] }
  | _ => none }
def forceLeastRow : OpenClaim := { program := "ytideokfbnegkjaa", sum := "c4f9388807486f180869bc6e7c59d2fbdaba0266605b3293740a4cebc605da21", func := "waltzer/waltzerlaw03.ForceLeast", spec := "forceLeast", unfollowed := true, recurses := true, apart := false }
def ForceLeastSaid : Prop := forceLeastRow.holds Try.pinned (OpenSpec.ofChange forceLeastSpec)

/-- ITS FALSE NEIGHBOUR: 'it returns false'. Refute it at one input. -/
def forceLeastWrong : ChangeSpec := { name := "forceLeast", fn := fun _ => fun
  | [d1, d2] => { results := [.lit (.bool false)], args := [d1, d2] }
  | _ => none }
def ForceLeastWrongFalsely : Prop := forceLeastRow.holds Try.pinned (OpenSpec.ofChange forceLeastWrong)

/-- 'waltzerlaw03.ForceStops': WHATEVER THE INPUT: true; the input reads as it did. -/
def forceStopsSpec : ChangeSpec := { name := "forceStops", fn := fun _ => fun
  | [d1, d2] => { results := [.lit (.bool true)], args := [d1, d2] }
  | _ => none }
def forceStopsRow : OpenClaim := { program := "ytideokfbnegkjaa", sum := "c4f9388807486f180869bc6e7c59d2fbdaba0266605b3293740a4cebc605da21", func := "waltzer/waltzerlaw03.ForceStops", spec := "forceStops", unfollowed := true, recurses := true, apart := false }
def ForceStopsSaid : Prop := forceStopsRow.holds Try.pinned (OpenSpec.ofChange forceStopsSpec)

/-- ITS FALSE NEIGHBOUR: 'it returns false'. Refute it at one input. -/
def forceStopsWrong : ChangeSpec := { name := "forceStops", fn := fun _ => fun
  | [d1, d2] => { results := [.lit (.bool false)], args := [d1, d2] }
  | _ => none }
def ForceStopsWrongFalsely : Prop := forceStopsRow.holds Try.pinned (OpenSpec.ofChange forceStopsWrong)

/-- 'waltzerlaw03.ForceChecks': WHATEVER THE INPUT: true; the input reads as it did. -/
def forceChecksSpec : ChangeSpec := { name := "forceChecks", fn := fun _ => fun
  | [d1, d2] => { results := [.lit (.bool true)], args := [d1, d2] }
  | _ => none }
def forceChecksRow : OpenClaim := { program := "ytideokfbnegkjaa", sum := "c4f9388807486f180869bc6e7c59d2fbdaba0266605b3293740a4cebc605da21", func := "waltzer/waltzerlaw03.ForceChecks", spec := "forceChecks", unfollowed := true, recurses := true, apart := false }
def ForceChecksSaid : Prop := forceChecksRow.holds Try.pinned (OpenSpec.ofChange forceChecksSpec)

/-- ITS FALSE NEIGHBOUR: 'it returns false'. Refute it at one input. -/
def forceChecksWrong : ChangeSpec := { name := "forceChecks", fn := fun _ => fun
  | [d1, d2] => { results := [.lit (.bool false)], args := [d1, d2] }
  | _ => none }
def ForceChecksWrongFalsely : Prop := forceChecksRow.holds Try.pinned (OpenSpec.ofChange forceChecksWrong)

/-- 'waltzerlaw03.ForceKeeps': WHATEVER THE INPUT: true; the input reads as it did. -/
def forceKeepsSpec : ChangeSpec := { name := "forceKeeps", fn := fun _ => fun
  | [d1, d2] => { results := [.lit (.bool true)], args := [d1, d2] }
  | _ => none }
def forceKeepsRow : OpenClaim := { program := "ytideokfbnegkjaa", sum := "c4f9388807486f180869bc6e7c59d2fbdaba0266605b3293740a4cebc605da21", func := "waltzer/waltzerlaw03.ForceKeeps", spec := "forceKeeps", unfollowed := true, recurses := true, apart := false }
def ForceKeepsSaid : Prop := forceKeepsRow.holds Try.pinned (OpenSpec.ofChange forceKeepsSpec)

/-- ITS FALSE NEIGHBOUR: 'it returns false'. Refute it at one input. -/
def forceKeepsWrong : ChangeSpec := { name := "forceKeeps", fn := fun _ => fun
  | [d1, d2] => { results := [.lit (.bool false)], args := [d1, d2] }
  | _ => none }
def ForceKeepsWrongFalsely : Prop := forceKeepsRow.holds Try.pinned (OpenSpec.ofChange forceKeepsWrong)

/-- 'waltzerlaw03.ForceSlower': WHATEVER THE INPUT: true; the input reads as it did. -/
def forceSlowerSpec : ChangeSpec := { name := "forceSlower", fn := fun _ => fun
  | [d1, d2] => { results := [.lit (.bool true)], args := [d1, d2] }
  | _ => none }
def forceSlowerRow : OpenClaim := { program := "ytideokfbnegkjaa", sum := "c4f9388807486f180869bc6e7c59d2fbdaba0266605b3293740a4cebc605da21", func := "waltzer/waltzerlaw03.ForceSlower", spec := "forceSlower", unfollowed := true, recurses := true, apart := false }
def ForceSlowerSaid : Prop := forceSlowerRow.holds Try.pinned (OpenSpec.ofChange forceSlowerSpec)

/-- ITS FALSE NEIGHBOUR: 'it returns false'. Refute it at one input. -/
def forceSlowerWrong : ChangeSpec := { name := "forceSlower", fn := fun _ => fun
  | [d1, d2] => { results := [.lit (.bool false)], args := [d1, d2] }
  | _ => none }
def ForceSlowerWrongFalsely : Prop := forceSlowerRow.holds Try.pinned (OpenSpec.ofChange forceSlowerWrong)

/-- 'waltzerlaw03.ForceRuns': WHATEVER THE INPUT: true; the input reads as it did. -/
def forceRunsSpec : ChangeSpec := { name := "forceRuns", fn := fun _ => fun
  | [d1, d2, d3] => { results := [.lit (.bool true)], args := [d1, d2, d3] }
  | _ => none }
def forceRunsRow : OpenClaim := { program := "ytideokfbnegkjaa", sum := "c4f9388807486f180869bc6e7c59d2fbdaba0266605b3293740a4cebc605da21", func := "waltzer/waltzerlaw03.ForceRuns", spec := "forceRuns", unfollowed := true, recurses := true, apart := false }
def ForceRunsSaid : Prop := forceRunsRow.holds Try.pinned (OpenSpec.ofChange forceRunsSpec)

/-- ITS FALSE NEIGHBOUR: 'it returns false'. Refute it at one input. -/
def forceRunsWrong : ChangeSpec := { name := "forceRuns", fn := fun _ => fun
  | [d1, d2, d3] => { results := [.lit (.bool false)], args := [d1, d2, d3] }
  | _ => none }
def ForceRunsWrongFalsely : Prop := forceRunsRow.holds Try.pinned (OpenSpec.ofChange forceRunsWrong)

/-- 'waltzerlaw03.ForceEnvelope': WHATEVER THE INPUT: true; the input reads as it did. -/
def forceEnvelopeSpec : ChangeSpec := { name := "forceEnvelope", fn := fun _ => fun
  | [d1, d2, d3] => { results := [.lit (.bool true)], args := [d1, d2, d3] }
  | _ => none }
def forceEnvelopeRow : OpenClaim := { program := "ytideokfbnegkjaa", sum := "c4f9388807486f180869bc6e7c59d2fbdaba0266605b3293740a4cebc605da21", func := "waltzer/waltzerlaw03.ForceEnvelope", spec := "forceEnvelope", unfollowed := true, recurses := true, apart := false }
def ForceEnvelopeSaid : Prop := forceEnvelopeRow.holds Try.pinned (OpenSpec.ofChange forceEnvelopeSpec)

/-- ITS FALSE NEIGHBOUR: 'it returns false'. Refute it at one input. -/
def forceEnvelopeWrong : ChangeSpec := { name := "forceEnvelope", fn := fun _ => fun
  | [d1, d2, d3] => { results := [.lit (.bool false)], args := [d1, d2, d3] }
  | _ => none }
def ForceEnvelopeWrongFalsely : Prop := forceEnvelopeRow.holds Try.pinned (OpenSpec.ofChange forceEnvelopeWrong)

/-- 'waltzerlaw03.ForceTips': WHATEVER THE INPUT: true; the input reads as it did. -/
def forceTipsSpec : ChangeSpec := { name := "forceTips", fn := fun _ => fun
  | [d] => { results := [.lit (.bool true)], args := [d] }
  | _ => none }
def forceTipsRow : OpenClaim := { program := "ytideokfbnegkjaa", sum := "c4f9388807486f180869bc6e7c59d2fbdaba0266605b3293740a4cebc605da21", func := "waltzer/waltzerlaw03.ForceTips", spec := "forceTips", unfollowed := true, recurses := true, apart := false }
def ForceTipsSaid : Prop := forceTipsRow.holds Try.pinned (OpenSpec.ofChange forceTipsSpec)

/-- ITS FALSE NEIGHBOUR: 'it returns false'. Refute it at one input. -/
def forceTipsWrong : ChangeSpec := { name := "forceTips", fn := fun _ => fun
  | [d] => { results := [.lit (.bool false)], args := [d] }
  | _ => none }
def ForceTipsWrongFalsely : Prop := forceTipsRow.holds Try.pinned (OpenSpec.ofChange forceTipsWrong)

/-- 'waltzerlaw03.ForceStands': WHATEVER THE INPUT: true; the input reads as it did. -/
def forceStandsSpec : ChangeSpec := { name := "forceStands", fn := fun _ => fun
  | [d1, d2] => { results := [.lit (.bool true)], args := [d1, d2] }
  | _ => none }
def forceStandsRow : OpenClaim := { program := "ytideokfbnegkjaa", sum := "c4f9388807486f180869bc6e7c59d2fbdaba0266605b3293740a4cebc605da21", func := "waltzer/waltzerlaw03.ForceStands", spec := "forceStands", unfollowed := true, recurses := true, apart := false }
def ForceStandsSaid : Prop := forceStandsRow.holds Try.pinned (OpenSpec.ofChange forceStandsSpec)

/-- ITS FALSE NEIGHBOUR: 'it returns false'. Refute it at one input. -/
def forceStandsWrong : ChangeSpec := { name := "forceStands", fn := fun _ => fun
  | [d1, d2] => { results := [.lit (.bool false)], args := [d1, d2] }
  | _ => none }
def ForceStandsWrongFalsely : Prop := forceStandsRow.holds Try.pinned (OpenSpec.ofChange forceStandsWrong)

/- THE SECOND FORM. 'bulk': how many values and letters a reading holds, each counted each time it is reached (what is shared counts as often as it is met; a slice's spare places count too). A statement '..UptoSaid' is the law's where the arguments, and the package variables that the reading takes, are together of bulk at most 1048576: NARROWER than '..Said'. Prove '..Said' where nothing that the law and all that it calls make is longer than what came in: it says more and counts as full. Else prove '..UptoSaid'. A law counts once. -/
mutual
def uptoBulk {H : Type} : DataW H → Nat
  | .lit (.string bytes) => bytes.length + 1
  | .lit _ => 1
  | .nil => 1
  | .ptr d => uptoBulk d + 1
  | .slice elems spare => uptoBulkAll elems + uptoBulkAll spare + 1
  | .agg parts => uptoBulkAll parts + 1
  | .iface _ d => uptoBulk d + 1
  | .map entries => uptoBulkEntries entries + 1
  | .held _ => 1
def uptoBulkAll {H : Type} : List (DataW H) → Nat
  | [] => 0
  | d :: r => uptoBulk d + uptoBulkAll r
def uptoBulkEntries {H : Type} : List (Lit × DataW H) → Nat
  | [] => 0
  | x :: r => uptoBulkEntry x + uptoBulkEntries r
def uptoBulkEntry {H : Type} : Lit × DataW H → Nat
  | (.string bytes, d) => bytes.length + uptoBulk d + 1
  | (_, d) => uptoBulk d + 1
 end
def uptoSmall : (H : Type) → List (DataW H) → Bool := fun _ ds => decide (uptoBulkAll ds ≤ 1048576)
def OpenSpec.upto (s : _root_.Go.ChangeSpec) : _root_.Go.OpenSpec := { _root_.Go.OpenSpec.ofChange s with cond := some uptoSmall }

/-- 'waltzerlaw03.ForceFastest', WHERE WHAT IT READS IS OF BULK AT MOST 1048576: true; the input reads as it did. -/
def forceFastestUptoRow : OpenClaim := { program := "ytideokfbnegkjaa", sum := "c4f9388807486f180869bc6e7c59d2fbdaba0266605b3293740a4cebc605da21", func := "waltzer/waltzerlaw03.ForceFastest", spec := "forceFastest", unfollowed := true, recurses := true, apart := false, narrowed := true }
def ForceFastestUptoSaid : Prop := forceFastestUptoRow.holds Try.pinned (OpenSpec.upto forceFastestSpec)

/-- 'waltzerlaw03.ForceFelt', WHERE WHAT IT READS IS OF BULK AT MOST 1048576: true; the input reads as it did. -/
def forceFeltUptoRow : OpenClaim := { program := "ytideokfbnegkjaa", sum := "c4f9388807486f180869bc6e7c59d2fbdaba0266605b3293740a4cebc605da21", func := "waltzer/waltzerlaw03.ForceFelt", spec := "forceFelt", unfollowed := true, recurses := true, apart := false, narrowed := true }
def ForceFeltUptoSaid : Prop := forceFeltUptoRow.holds Try.pinned (OpenSpec.upto forceFeltSpec)

/-- 'waltzerlaw03.ForceMoments', WHERE WHAT IT READS IS OF BULK AT MOST 1048576: true; the input reads as it did. -/
def forceMomentsUptoRow : OpenClaim := { program := "ytideokfbnegkjaa", sum := "c4f9388807486f180869bc6e7c59d2fbdaba0266605b3293740a4cebc605da21", func := "waltzer/waltzerlaw03.ForceMoments", spec := "forceMoments", unfollowed := true, recurses := true, apart := false, narrowed := true }
def ForceMomentsUptoSaid : Prop := forceMomentsUptoRow.holds Try.pinned (OpenSpec.upto forceMomentsSpec)

/-- 'waltzerlaw03.ForceLeast', WHERE WHAT IT READS IS OF BULK AT MOST 1048576: true; the input reads as it did. -/
def forceLeastUptoRow : OpenClaim := { program := "ytideokfbnegkjaa", sum := "c4f9388807486f180869bc6e7c59d2fbdaba0266605b3293740a4cebc605da21", func := "waltzer/waltzerlaw03.ForceLeast", spec := "forceLeast", unfollowed := true, recurses := true, apart := false, narrowed := true }
def ForceLeastUptoSaid : Prop := forceLeastUptoRow.holds Try.pinned (OpenSpec.upto forceLeastSpec)

/-- 'waltzerlaw03.ForceStops', WHERE WHAT IT READS IS OF BULK AT MOST 1048576: true; the input reads as it did. -/
def forceStopsUptoRow : OpenClaim := { program := "ytideokfbnegkjaa", sum := "c4f9388807486f180869bc6e7c59d2fbdaba0266605b3293740a4cebc605da21", func := "waltzer/waltzerlaw03.ForceStops", spec := "forceStops", unfollowed := true, recurses := true, apart := false, narrowed := true }
def ForceStopsUptoSaid : Prop := forceStopsUptoRow.holds Try.pinned (OpenSpec.upto forceStopsSpec)

/-- 'waltzerlaw03.ForceChecks', WHERE WHAT IT READS IS OF BULK AT MOST 1048576: true; the input reads as it did. -/
def forceChecksUptoRow : OpenClaim := { program := "ytideokfbnegkjaa", sum := "c4f9388807486f180869bc6e7c59d2fbdaba0266605b3293740a4cebc605da21", func := "waltzer/waltzerlaw03.ForceChecks", spec := "forceChecks", unfollowed := true, recurses := true, apart := false, narrowed := true }
def ForceChecksUptoSaid : Prop := forceChecksUptoRow.holds Try.pinned (OpenSpec.upto forceChecksSpec)

/-- 'waltzerlaw03.ForceKeeps', WHERE WHAT IT READS IS OF BULK AT MOST 1048576: true; the input reads as it did. -/
def forceKeepsUptoRow : OpenClaim := { program := "ytideokfbnegkjaa", sum := "c4f9388807486f180869bc6e7c59d2fbdaba0266605b3293740a4cebc605da21", func := "waltzer/waltzerlaw03.ForceKeeps", spec := "forceKeeps", unfollowed := true, recurses := true, apart := false, narrowed := true }
def ForceKeepsUptoSaid : Prop := forceKeepsUptoRow.holds Try.pinned (OpenSpec.upto forceKeepsSpec)

/-- 'waltzerlaw03.ForceSlower', WHERE WHAT IT READS IS OF BULK AT MOST 1048576: true; the input reads as it did. -/
def forceSlowerUptoRow : OpenClaim := { program := "ytideokfbnegkjaa", sum := "c4f9388807486f180869bc6e7c59d2fbdaba0266605b3293740a4cebc605da21", func := "waltzer/waltzerlaw03.ForceSlower", spec := "forceSlower", unfollowed := true, recurses := true, apart := false, narrowed := true }
def ForceSlowerUptoSaid : Prop := forceSlowerUptoRow.holds Try.pinned (OpenSpec.upto forceSlowerSpec)

/-- 'waltzerlaw03.ForceRuns', WHERE WHAT IT READS IS OF BULK AT MOST 1048576: true; the input reads as it did. -/
def forceRunsUptoRow : OpenClaim := { program := "ytideokfbnegkjaa", sum := "c4f9388807486f180869bc6e7c59d2fbdaba0266605b3293740a4cebc605da21", func := "waltzer/waltzerlaw03.ForceRuns", spec := "forceRuns", unfollowed := true, recurses := true, apart := false, narrowed := true }
def ForceRunsUptoSaid : Prop := forceRunsUptoRow.holds Try.pinned (OpenSpec.upto forceRunsSpec)

/-- 'waltzerlaw03.ForceEnvelope', WHERE WHAT IT READS IS OF BULK AT MOST 1048576: true; the input reads as it did. -/
def forceEnvelopeUptoRow : OpenClaim := { program := "ytideokfbnegkjaa", sum := "c4f9388807486f180869bc6e7c59d2fbdaba0266605b3293740a4cebc605da21", func := "waltzer/waltzerlaw03.ForceEnvelope", spec := "forceEnvelope", unfollowed := true, recurses := true, apart := false, narrowed := true }
def ForceEnvelopeUptoSaid : Prop := forceEnvelopeUptoRow.holds Try.pinned (OpenSpec.upto forceEnvelopeSpec)

/-- 'waltzerlaw03.ForceTips', WHERE WHAT IT READS IS OF BULK AT MOST 1048576: true; the input reads as it did. -/
def forceTipsUptoRow : OpenClaim := { program := "ytideokfbnegkjaa", sum := "c4f9388807486f180869bc6e7c59d2fbdaba0266605b3293740a4cebc605da21", func := "waltzer/waltzerlaw03.ForceTips", spec := "forceTips", unfollowed := true, recurses := true, apart := false, narrowed := true }
def ForceTipsUptoSaid : Prop := forceTipsUptoRow.holds Try.pinned (OpenSpec.upto forceTipsSpec)

/-- 'waltzerlaw03.ForceStands', WHERE WHAT IT READS IS OF BULK AT MOST 1048576: true; the input reads as it did. -/
def forceStandsUptoRow : OpenClaim := { program := "ytideokfbnegkjaa", sum := "c4f9388807486f180869bc6e7c59d2fbdaba0266605b3293740a4cebc605da21", func := "waltzer/waltzerlaw03.ForceStands", spec := "forceStands", unfollowed := true, recurses := true, apart := false, narrowed := true }
def ForceStandsUptoSaid : Prop := forceStandsUptoRow.holds Try.pinned (OpenSpec.upto forceStandsSpec)

end Rows
end Go.Proofs.Ytideokfbnegkjaa
