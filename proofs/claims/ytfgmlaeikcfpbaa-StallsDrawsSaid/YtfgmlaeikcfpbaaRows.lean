/-
  No cell of these rows narrows 'for every input' (looked for: loops, veiled, ifaces, maps, wideKeys, modest, calm, conditions, laid).
  DERIVED. THE GIVEN ROWS OF THIS SEAT. 15 by the template 'for every input the law returns true; each argument reads behind the call as it read before'; 0 by the template 'total and deterministic' (their statements: YtfgmlaeikcfpbaaTotals.lean).
  GIVEN WITH THE SEED: the statements are not yours to turn. If you find one false, say at which input.
  Laid BY PROGRAM, IN A SANDBOX (cutbox-rows.mjs): the forced cells as the released guide's own fill.sh prints them over the translation d16e446dfcd4cf7a… (all of the seat's roots in one cut). By AI agents, Wed Nov 11 2026. No macro, syntax, notation, axiom, sorry.
-/
import Derived.Test.YtfgmlaeikcfpbaaChecked
import GoSem.Claim
import GoSem.ClaimJoined
import GoSem.ClaimMapViews
import Derived.JoinedTies
import Derived.KernelRfl
namespace Go.Proofs.Ytfgmlaeikcfpbaa
/- THE CELL 'sum', in the pinned program and in every row, IS THE sha256 OF THE DUMP (.gsa) THAT YtfgmlaeikcfpbaaProg.lean LOADS. Nothing in Lean hashes anything: it is a label: what it is worth is what the hold of that sum in a sandbox is worth. -/
noncomputable def Try.pinned : Pinned := { name := "ytfgmlaeikcfpbaa", sum := "d16e446dfcd4cf7a2fd409fb0382fbc921d5372a61ca97b4872580cd482322b7", checked := Try.checked }
namespace Rows
def none {H : Type} : Left H := { results := [], args := [] }

/-- 'waltzerlaw06.StallsChecks': WHATEVER THE INPUT: true; the input reads as it did. -/
def stallsChecksSpec : ChangeSpec := { name := "stallsChecks", fn := fun _ => fun
  | [d] => { results := [.lit (.bool true)], args := [d] }
  | _ => none }
def stallsChecksRow : OpenClaim := { program := "ytfgmlaeikcfpbaa", sum := "d16e446dfcd4cf7a2fd409fb0382fbc921d5372a61ca97b4872580cd482322b7", func := "waltzer/waltzerlaw06.StallsChecks", spec := "stallsChecks", unfollowed := true, recurses := true, plainKeys := false, apart := false }
def StallsChecksSaid : Prop := stallsChecksRow.holds Try.pinned (OpenSpec.ofChange stallsChecksSpec)

/-- ITS FALSE NEIGHBOUR: 'it returns false'. Refute it at one input. -/
def stallsChecksWrong : ChangeSpec := { name := "stallsChecks", fn := fun _ => fun
  | [d] => { results := [.lit (.bool false)], args := [d] }
  | _ => none }
def StallsChecksWrongFalsely : Prop := stallsChecksRow.holds Try.pinned (OpenSpec.ofChange stallsChecksWrong)

/-- 'waltzerlaw06.StallsGames': WHATEVER THE INPUT: true; the input reads as it did. -/
def stallsGamesSpec : ChangeSpec := { name := "stallsGames", fn := fun _ => fun
  | [d] => { results := [.lit (.bool true)], args := [d] }
  | _ => none }
def stallsGamesRow : OpenClaim := { program := "ytfgmlaeikcfpbaa", sum := "d16e446dfcd4cf7a2fd409fb0382fbc921d5372a61ca97b4872580cd482322b7", func := "waltzer/waltzerlaw06.StallsGames", spec := "stallsGames", unfollowed := true, recurses := true, plainKeys := false, apart := false }
def StallsGamesSaid : Prop := stallsGamesRow.holds Try.pinned (OpenSpec.ofChange stallsGamesSpec)

/-- ITS FALSE NEIGHBOUR: 'it returns false'. Refute it at one input. -/
def stallsGamesWrong : ChangeSpec := { name := "stallsGames", fn := fun _ => fun
  | [d] => { results := [.lit (.bool false)], args := [d] }
  | _ => none }
def StallsGamesWrongFalsely : Prop := stallsGamesRow.holds Try.pinned (OpenSpec.ofChange stallsGamesWrong)

/-- 'waltzerlaw06.StallsOdds': WHATEVER THE INPUT: true; the input reads as it did. -/
def stallsOddsSpec : ChangeSpec := { name := "stallsOdds", fn := fun _ => fun
  | [d1, d2] => { results := [.lit (.bool true)], args := [d1, d2] }
  | _ => none }
def stallsOddsRow : OpenClaim := { program := "ytfgmlaeikcfpbaa", sum := "d16e446dfcd4cf7a2fd409fb0382fbc921d5372a61ca97b4872580cd482322b7", func := "waltzer/waltzerlaw06.StallsOdds", spec := "stallsOdds", unfollowed := true, recurses := true, plainKeys := false, apart := false }
def StallsOddsSaid : Prop := stallsOddsRow.holds Try.pinned (OpenSpec.ofChange stallsOddsSpec)

/-- ITS FALSE NEIGHBOUR: 'it returns false'. Refute it at one input. -/
def stallsOddsWrong : ChangeSpec := { name := "stallsOdds", fn := fun _ => fun
  | [d1, d2] => { results := [.lit (.bool false)], args := [d1, d2] }
  | _ => none }
def StallsOddsWrongFalsely : Prop := stallsOddsRow.holds Try.pinned (OpenSpec.ofChange stallsOddsWrong)

/-- 'waltzerlaw06.StallsHouse': WHATEVER THE INPUT: true; the input reads as it did. -/
def stallsHouseSpec : ChangeSpec := { name := "stallsHouse", fn := fun _ => fun
  | [d1, d2] => { results := [.lit (.bool true)], args := [d1, d2] }
  | _ => none }
def stallsHouseRow : OpenClaim := { program := "ytfgmlaeikcfpbaa", sum := "d16e446dfcd4cf7a2fd409fb0382fbc921d5372a61ca97b4872580cd482322b7", func := "waltzer/waltzerlaw06.StallsHouse", spec := "stallsHouse", unfollowed := true, recurses := true, plainKeys := false, apart := false }
def StallsHouseSaid : Prop := stallsHouseRow.holds Try.pinned (OpenSpec.ofChange stallsHouseSpec)

/-- ITS FALSE NEIGHBOUR: 'it returns false'. Refute it at one input. -/
def stallsHouseWrong : ChangeSpec := { name := "stallsHouse", fn := fun _ => fun
  | [d1, d2] => { results := [.lit (.bool false)], args := [d1, d2] }
  | _ => none }
def StallsHouseWrongFalsely : Prop := stallsHouseRow.holds Try.pinned (OpenSpec.ofChange stallsHouseWrong)

/-- 'waltzerlaw06.StallsBuilds': WHATEVER THE INPUT: true; the input reads as it did. -/
def stallsBuildsSpec : ChangeSpec := { name := "stallsBuilds", fn := fun _ => fun
  | [d1, d2, d3] => { results := [.lit (.bool true)], args := [d1, d2, d3] }
  | _ => none }
def stallsBuildsRow : OpenClaim := { program := "ytfgmlaeikcfpbaa", sum := "d16e446dfcd4cf7a2fd409fb0382fbc921d5372a61ca97b4872580cd482322b7", func := "waltzer/waltzerlaw06.StallsBuilds", spec := "stallsBuilds", unfollowed := true, recurses := true, plainKeys := false, apart := false }
def StallsBuildsSaid : Prop := stallsBuildsRow.holds Try.pinned (OpenSpec.ofChange stallsBuildsSpec)

/-- ITS FALSE NEIGHBOUR: 'it returns false'. Refute it at one input. -/
def stallsBuildsWrong : ChangeSpec := { name := "stallsBuilds", fn := fun _ => fun
  | [d1, d2, d3] => { results := [.lit (.bool false)], args := [d1, d2, d3] }
  | _ => none }
def StallsBuildsWrongFalsely : Prop := stallsBuildsRow.holds Try.pinned (OpenSpec.ofChange stallsBuildsWrong)

/-- 'waltzerlaw06.StallsPlans': WHATEVER THE INPUT: true; the input reads as it did. -/
def stallsPlansSpec : ChangeSpec := { name := "stallsPlans", fn := fun _ => fun
  | [d1, d2] => { results := [.lit (.bool true)], args := [d1, d2] }
  | _ => none }
def stallsPlansRow : OpenClaim := { program := "ytfgmlaeikcfpbaa", sum := "d16e446dfcd4cf7a2fd409fb0382fbc921d5372a61ca97b4872580cd482322b7", func := "waltzer/waltzerlaw06.StallsPlans", spec := "stallsPlans", unfollowed := true, recurses := true, plainKeys := false, apart := false }
def StallsPlansSaid : Prop := stallsPlansRow.holds Try.pinned (OpenSpec.ofChange stallsPlansSpec)

/-- ITS FALSE NEIGHBOUR: 'it returns false'. Refute it at one input. -/
def stallsPlansWrong : ChangeSpec := { name := "stallsPlans", fn := fun _ => fun
  | [d1, d2] => { results := [.lit (.bool false)], args := [d1, d2] }
  | _ => none }
def StallsPlansWrongFalsely : Prop := stallsPlansRow.holds Try.pinned (OpenSpec.ofChange stallsPlansWrong)

/-- 'waltzerlaw06.StallsLasts': WHATEVER THE INPUT: true; the input reads as it did. -/
def stallsLastsSpec : ChangeSpec := { name := "stallsLasts", fn := fun _ => fun
  | [d1, d2] => { results := [.lit (.bool true)], args := [d1, d2] }
  | _ => none }
def stallsLastsRow : OpenClaim := { program := "ytfgmlaeikcfpbaa", sum := "d16e446dfcd4cf7a2fd409fb0382fbc921d5372a61ca97b4872580cd482322b7", func := "waltzer/waltzerlaw06.StallsLasts", spec := "stallsLasts", unfollowed := true, recurses := true, plainKeys := false, apart := false }
def StallsLastsSaid : Prop := stallsLastsRow.holds Try.pinned (OpenSpec.ofChange stallsLastsSpec)

/-- ITS FALSE NEIGHBOUR: 'it returns false'. Refute it at one input. -/
def stallsLastsWrong : ChangeSpec := { name := "stallsLasts", fn := fun _ => fun
  | [d1, d2] => { results := [.lit (.bool false)], args := [d1, d2] }
  | _ => none }
def StallsLastsWrongFalsely : Prop := stallsLastsRow.holds Try.pinned (OpenSpec.ofChange stallsLastsWrong)

/-- 'waltzerlaw06.StallsBetween': WHATEVER THE INPUT: true; the input reads as it did. -/
def stallsBetweenSpec : ChangeSpec := { name := "stallsBetween", fn := fun _ => fun
  | [d1, d2, d3] => { results := [.lit (.bool true)], args := [d1, d2, d3] }
  | _ => none }
def stallsBetweenRow : OpenClaim := { program := "ytfgmlaeikcfpbaa", sum := "d16e446dfcd4cf7a2fd409fb0382fbc921d5372a61ca97b4872580cd482322b7", func := "waltzer/waltzerlaw06.StallsBetween", spec := "stallsBetween", unfollowed := true, recurses := true, plainKeys := false, apart := false }
def StallsBetweenSaid : Prop := stallsBetweenRow.holds Try.pinned (OpenSpec.ofChange stallsBetweenSpec)

/-- ITS FALSE NEIGHBOUR: 'it returns false'. Refute it at one input. -/
def stallsBetweenWrong : ChangeSpec := { name := "stallsBetween", fn := fun _ => fun
  | [d1, d2, d3] => { results := [.lit (.bool false)], args := [d1, d2, d3] }
  | _ => none }
def StallsBetweenWrongFalsely : Prop := stallsBetweenRow.holds Try.pinned (OpenSpec.ofChange stallsBetweenWrong)

/-- 'waltzerlaw06.StallsPlays': WHATEVER THE INPUT: true; the input reads as it did. -/
def stallsPlaysSpec : ChangeSpec := { name := "stallsPlays", fn := fun _ => fun
  | [d1, d2, d3] => { results := [.lit (.bool true)], args := [d1, d2, d3] }
  | _ => none }
def stallsPlaysRow : OpenClaim := { program := "ytfgmlaeikcfpbaa", sum := "d16e446dfcd4cf7a2fd409fb0382fbc921d5372a61ca97b4872580cd482322b7", func := "waltzer/waltzerlaw06.StallsPlays", spec := "stallsPlays", unfollowed := true, recurses := true, plainKeys := false, apart := false }
def StallsPlaysSaid : Prop := stallsPlaysRow.holds Try.pinned (OpenSpec.ofChange stallsPlaysSpec)

/-- ITS FALSE NEIGHBOUR: 'it returns false'. Refute it at one input. -/
def stallsPlaysWrong : ChangeSpec := { name := "stallsPlays", fn := fun _ => fun
  | [d1, d2, d3] => { results := [.lit (.bool false)], args := [d1, d2, d3] }
  | _ => none }
def StallsPlaysWrongFalsely : Prop := stallsPlaysRow.holds Try.pinned (OpenSpec.ofChange stallsPlaysWrong)

/-- 'waltzerlaw06.StallsEnough': WHATEVER THE INPUT: true; the input reads as it did. -/
def stallsEnoughSpec : ChangeSpec := { name := "stallsEnough", fn := fun _ => fun
  | [d1, d2, d3] => { results := [.lit (.bool true)], args := [d1, d2, d3] }
  | _ => none }
def stallsEnoughRow : OpenClaim := { program := "ytfgmlaeikcfpbaa", sum := "d16e446dfcd4cf7a2fd409fb0382fbc921d5372a61ca97b4872580cd482322b7", func := "waltzer/waltzerlaw06.StallsEnough", spec := "stallsEnough", unfollowed := true, recurses := true, plainKeys := false, apart := false }
def StallsEnoughSaid : Prop := stallsEnoughRow.holds Try.pinned (OpenSpec.ofChange stallsEnoughSpec)

/-- ITS FALSE NEIGHBOUR: 'it returns false'. Refute it at one input. -/
def stallsEnoughWrong : ChangeSpec := { name := "stallsEnough", fn := fun _ => fun
  | [d1, d2, d3] => { results := [.lit (.bool false)], args := [d1, d2, d3] }
  | _ => none }
def StallsEnoughWrongFalsely : Prop := stallsEnoughRow.holds Try.pinned (OpenSpec.ofChange stallsEnoughWrong)

/-- 'waltzerlaw06.StallsDraws': WHATEVER THE INPUT: true; the input reads as it did. -/
def stallsDrawsSpec : ChangeSpec := { name := "stallsDraws", fn := fun _ => fun
  | [d1, d2, d3] => { results := [.lit (.bool true)], args := [d1, d2, d3] }
  | _ => none }
def stallsDrawsRow : OpenClaim := { program := "ytfgmlaeikcfpbaa", sum := "d16e446dfcd4cf7a2fd409fb0382fbc921d5372a61ca97b4872580cd482322b7", func := "waltzer/waltzerlaw06.StallsDraws", spec := "stallsDraws", unfollowed := true, recurses := true, plainKeys := false, apart := false }
def StallsDrawsSaid : Prop := stallsDrawsRow.holds Try.pinned (OpenSpec.ofChange stallsDrawsSpec)

/-- ITS FALSE NEIGHBOUR: 'it returns false'. Refute it at one input. -/
def stallsDrawsWrong : ChangeSpec := { name := "stallsDraws", fn := fun _ => fun
  | [d1, d2, d3] => { results := [.lit (.bool false)], args := [d1, d2, d3] }
  | _ => none }
def StallsDrawsWrongFalsely : Prop := stallsDrawsRow.holds Try.pinned (OpenSpec.ofChange stallsDrawsWrong)

/-- 'waltzerlaw06.StallsPlain': WHATEVER THE INPUT: true; the input reads as it did. -/
def stallsPlainSpec : ChangeSpec := { name := "stallsPlain", fn := fun _ => fun
  | [d1, d2] => { results := [.lit (.bool true)], args := [d1, d2] }
  | _ => none }
def stallsPlainRow : OpenClaim := { program := "ytfgmlaeikcfpbaa", sum := "d16e446dfcd4cf7a2fd409fb0382fbc921d5372a61ca97b4872580cd482322b7", func := "waltzer/waltzerlaw06.StallsPlain", spec := "stallsPlain", unfollowed := true, recurses := true, plainKeys := false, apart := false }
def StallsPlainSaid : Prop := stallsPlainRow.holds Try.pinned (OpenSpec.ofChange stallsPlainSpec)

/-- ITS FALSE NEIGHBOUR: 'it returns false'. Refute it at one input. -/
def stallsPlainWrong : ChangeSpec := { name := "stallsPlain", fn := fun _ => fun
  | [d1, d2] => { results := [.lit (.bool false)], args := [d1, d2] }
  | _ => none }
def StallsPlainWrongFalsely : Prop := stallsPlainRow.holds Try.pinned (OpenSpec.ofChange stallsPlainWrong)

/-- 'waltzerlaw06.StallsNotices': WHATEVER THE INPUT: true; the input reads as it did. -/
def stallsNoticesSpec : ChangeSpec := { name := "stallsNotices", fn := fun _ => fun
  | [d1, d2] => { results := [.lit (.bool true)], args := [d1, d2] }
  | _ => none }
def stallsNoticesRow : OpenClaim := { program := "ytfgmlaeikcfpbaa", sum := "d16e446dfcd4cf7a2fd409fb0382fbc921d5372a61ca97b4872580cd482322b7", func := "waltzer/waltzerlaw06.StallsNotices", spec := "stallsNotices", unfollowed := true, recurses := true, plainKeys := false, apart := false }
def StallsNoticesSaid : Prop := stallsNoticesRow.holds Try.pinned (OpenSpec.ofChange stallsNoticesSpec)

/-- ITS FALSE NEIGHBOUR: 'it returns false'. Refute it at one input. -/
def stallsNoticesWrong : ChangeSpec := { name := "stallsNotices", fn := fun _ => fun
  | [d1, d2] => { results := [.lit (.bool false)], args := [d1, d2] }
  | _ => none }
def StallsNoticesWrongFalsely : Prop := stallsNoticesRow.holds Try.pinned (OpenSpec.ofChange stallsNoticesWrong)

/-- 'waltzerlaw06.StallsPrinted': WHATEVER THE INPUT: true; the input reads as it did. -/
def stallsPrintedSpec : ChangeSpec := { name := "stallsPrinted", fn := fun _ => fun
  | [d1, d2, d3] => { results := [.lit (.bool true)], args := [d1, d2, d3] }
  | _ => none }
def stallsPrintedRow : OpenClaim := { program := "ytfgmlaeikcfpbaa", sum := "d16e446dfcd4cf7a2fd409fb0382fbc921d5372a61ca97b4872580cd482322b7", func := "waltzer/waltzerlaw06.StallsPrinted", spec := "stallsPrinted", unfollowed := true, recurses := true, plainKeys := false, apart := false }
def StallsPrintedSaid : Prop := stallsPrintedRow.holds Try.pinned (OpenSpec.ofChange stallsPrintedSpec)

/-- ITS FALSE NEIGHBOUR: 'it returns false'. Refute it at one input. -/
def stallsPrintedWrong : ChangeSpec := { name := "stallsPrinted", fn := fun _ => fun
  | [d1, d2, d3] => { results := [.lit (.bool false)], args := [d1, d2, d3] }
  | _ => none }
def StallsPrintedWrongFalsely : Prop := stallsPrintedRow.holds Try.pinned (OpenSpec.ofChange stallsPrintedWrong)

/-- 'waltzerlaw06.StallsHanded': WHATEVER THE INPUT: true; the input reads as it did. -/
def stallsHandedSpec : ChangeSpec := { name := "stallsHanded", fn := fun _ => fun
  | [d1, d2, d3] => { results := [.lit (.bool true)], args := [d1, d2, d3] }
  | _ => none }
def stallsHandedRow : OpenClaim := { program := "ytfgmlaeikcfpbaa", sum := "d16e446dfcd4cf7a2fd409fb0382fbc921d5372a61ca97b4872580cd482322b7", func := "waltzer/waltzerlaw06.StallsHanded", spec := "stallsHanded", unfollowed := true, recurses := true, plainKeys := false, apart := false }
def StallsHandedSaid : Prop := stallsHandedRow.holds Try.pinned (OpenSpec.ofChange stallsHandedSpec)

/-- ITS FALSE NEIGHBOUR: 'it returns false'. Refute it at one input. -/
def stallsHandedWrong : ChangeSpec := { name := "stallsHanded", fn := fun _ => fun
  | [d1, d2, d3] => { results := [.lit (.bool false)], args := [d1, d2, d3] }
  | _ => none }
def StallsHandedWrongFalsely : Prop := stallsHandedRow.holds Try.pinned (OpenSpec.ofChange stallsHandedWrong)

/- THE SECOND FORM. 'bulk': how many values and letters a reading holds, each counted each time it is reached (what is shared counts as often as it is met; a slice's spare places count too). A statement '..UptoSaid' is the law's where the arguments, and the package variables that the reading takes, are together of bulk at most 1048576: NARROWER than '..Said'. Prove '..Said' where nothing that the law and all that it calls make is longer than what came in: it says more and counts as full. Else prove '..UptoSaid'. A law counts once. -/
mutual
def uptoBulk {H : Type} : DataW H → Nat
  | .lit (.string bytes) => bytes.length + 1
  | .lit _ => 1
  | .nil => 1
  | .ptr d => uptoBulk d + 1
  | .slice elems spare => uptoBulkAll elems + uptoBulkAll spare + 1
  | .agg parts => uptoBulkAll parts + 1
  | .iface _ d => uptoBulk d + 1
  | .map entries => uptoBulkEntries entries + 1
  | .held _ => 1
def uptoBulkAll {H : Type} : List (DataW H) → Nat
  | [] => 0
  | d :: r => uptoBulk d + uptoBulkAll r
def uptoBulkEntries {H : Type} : List (Lit × DataW H) → Nat
  | [] => 0
  | x :: r => uptoBulkEntry x + uptoBulkEntries r
def uptoBulkEntry {H : Type} : Lit × DataW H → Nat
  | (.string bytes, d) => bytes.length + uptoBulk d + 1
  | (_, d) => uptoBulk d + 1
 end
def uptoSmall : (H : Type) → List (DataW H) → Bool := fun _ ds => decide (uptoBulkAll ds ≤ 1048576)
def OpenSpec.upto (s : _root_.Go.ChangeSpec) : _root_.Go.OpenSpec := { _root_.Go.OpenSpec.ofChange s with cond := some uptoSmall }

/-- 'waltzerlaw06.StallsChecks', WHERE WHAT IT READS IS OF BULK AT MOST 1048576: true; the input reads as it did. -/
def stallsChecksUptoRow : OpenClaim := { program := "ytfgmlaeikcfpbaa", sum := "d16e446dfcd4cf7a2fd409fb0382fbc921d5372a61ca97b4872580cd482322b7", func := "waltzer/waltzerlaw06.StallsChecks", spec := "stallsChecks", unfollowed := true, recurses := true, plainKeys := false, apart := false, narrowed := true }
def StallsChecksUptoSaid : Prop := stallsChecksUptoRow.holds Try.pinned (OpenSpec.upto stallsChecksSpec)

/-- 'waltzerlaw06.StallsGames', WHERE WHAT IT READS IS OF BULK AT MOST 1048576: true; the input reads as it did. -/
def stallsGamesUptoRow : OpenClaim := { program := "ytfgmlaeikcfpbaa", sum := "d16e446dfcd4cf7a2fd409fb0382fbc921d5372a61ca97b4872580cd482322b7", func := "waltzer/waltzerlaw06.StallsGames", spec := "stallsGames", unfollowed := true, recurses := true, plainKeys := false, apart := false, narrowed := true }
def StallsGamesUptoSaid : Prop := stallsGamesUptoRow.holds Try.pinned (OpenSpec.upto stallsGamesSpec)

/-- 'waltzerlaw06.StallsOdds', WHERE WHAT IT READS IS OF BULK AT MOST 1048576: true; the input reads as it did. -/
def stallsOddsUptoRow : OpenClaim := { program := "ytfgmlaeikcfpbaa", sum := "d16e446dfcd4cf7a2fd409fb0382fbc921d5372a61ca97b4872580cd482322b7", func := "waltzer/waltzerlaw06.StallsOdds", spec := "stallsOdds", unfollowed := true, recurses := true, plainKeys := false, apart := false, narrowed := true }
def StallsOddsUptoSaid : Prop := stallsOddsUptoRow.holds Try.pinned (OpenSpec.upto stallsOddsSpec)

/-- 'waltzerlaw06.StallsHouse', WHERE WHAT IT READS IS OF BULK AT MOST 1048576: true; the input reads as it did. -/
def stallsHouseUptoRow : OpenClaim := { program := "ytfgmlaeikcfpbaa", sum := "d16e446dfcd4cf7a2fd409fb0382fbc921d5372a61ca97b4872580cd482322b7", func := "waltzer/waltzerlaw06.StallsHouse", spec := "stallsHouse", unfollowed := true, recurses := true, plainKeys := false, apart := false, narrowed := true }
def StallsHouseUptoSaid : Prop := stallsHouseUptoRow.holds Try.pinned (OpenSpec.upto stallsHouseSpec)

/-- 'waltzerlaw06.StallsBuilds', WHERE WHAT IT READS IS OF BULK AT MOST 1048576: true; the input reads as it did. -/
def stallsBuildsUptoRow : OpenClaim := { program := "ytfgmlaeikcfpbaa", sum := "d16e446dfcd4cf7a2fd409fb0382fbc921d5372a61ca97b4872580cd482322b7", func := "waltzer/waltzerlaw06.StallsBuilds", spec := "stallsBuilds", unfollowed := true, recurses := true, plainKeys := false, apart := false, narrowed := true }
def StallsBuildsUptoSaid : Prop := stallsBuildsUptoRow.holds Try.pinned (OpenSpec.upto stallsBuildsSpec)

/-- 'waltzerlaw06.StallsPlans', WHERE WHAT IT READS IS OF BULK AT MOST 1048576: true; the input reads as it did. -/
def stallsPlansUptoRow : OpenClaim := { program := "ytfgmlaeikcfpbaa", sum := "d16e446dfcd4cf7a2fd409fb0382fbc921d5372a61ca97b4872580cd482322b7", func := "waltzer/waltzerlaw06.StallsPlans", spec := "stallsPlans", unfollowed := true, recurses := true, plainKeys := false, apart := false, narrowed := true }
def StallsPlansUptoSaid : Prop := stallsPlansUptoRow.holds Try.pinned (OpenSpec.upto stallsPlansSpec)

/-- 'waltzerlaw06.StallsLasts', WHERE WHAT IT READS IS OF BULK AT MOST 1048576: true; the input reads as it did. -/
def stallsLastsUptoRow : OpenClaim := { program := "ytfgmlaeikcfpbaa", sum := "d16e446dfcd4cf7a2fd409fb0382fbc921d5372a61ca97b4872580cd482322b7", func := "waltzer/waltzerlaw06.StallsLasts", spec := "stallsLasts", unfollowed := true, recurses := true, plainKeys := false, apart := false, narrowed := true }
def StallsLastsUptoSaid : Prop := stallsLastsUptoRow.holds Try.pinned (OpenSpec.upto stallsLastsSpec)

/-- 'waltzerlaw06.StallsBetween', WHERE WHAT IT READS IS OF BULK AT MOST 1048576: true; the input reads as it did. -/
def stallsBetweenUptoRow : OpenClaim := { program := "ytfgmlaeikcfpbaa", sum := "d16e446dfcd4cf7a2fd409fb0382fbc921d5372a61ca97b4872580cd482322b7", func := "waltzer/waltzerlaw06.StallsBetween", spec := "stallsBetween", unfollowed := true, recurses := true, plainKeys := false, apart := false, narrowed := true }
def StallsBetweenUptoSaid : Prop := stallsBetweenUptoRow.holds Try.pinned (OpenSpec.upto stallsBetweenSpec)

/-- 'waltzerlaw06.StallsPlays', WHERE WHAT IT READS IS OF BULK AT MOST 1048576: true; the input reads as it did. -/
def stallsPlaysUptoRow : OpenClaim := { program := "ytfgmlaeikcfpbaa", sum := "d16e446dfcd4cf7a2fd409fb0382fbc921d5372a61ca97b4872580cd482322b7", func := "waltzer/waltzerlaw06.StallsPlays", spec := "stallsPlays", unfollowed := true, recurses := true, plainKeys := false, apart := false, narrowed := true }
def StallsPlaysUptoSaid : Prop := stallsPlaysUptoRow.holds Try.pinned (OpenSpec.upto stallsPlaysSpec)

/-- 'waltzerlaw06.StallsEnough', WHERE WHAT IT READS IS OF BULK AT MOST 1048576: true; the input reads as it did. -/
def stallsEnoughUptoRow : OpenClaim := { program := "ytfgmlaeikcfpbaa", sum := "d16e446dfcd4cf7a2fd409fb0382fbc921d5372a61ca97b4872580cd482322b7", func := "waltzer/waltzerlaw06.StallsEnough", spec := "stallsEnough", unfollowed := true, recurses := true, plainKeys := false, apart := false, narrowed := true }
def StallsEnoughUptoSaid : Prop := stallsEnoughUptoRow.holds Try.pinned (OpenSpec.upto stallsEnoughSpec)

/-- 'waltzerlaw06.StallsDraws', WHERE WHAT IT READS IS OF BULK AT MOST 1048576: true; the input reads as it did. -/
def stallsDrawsUptoRow : OpenClaim := { program := "ytfgmlaeikcfpbaa", sum := "d16e446dfcd4cf7a2fd409fb0382fbc921d5372a61ca97b4872580cd482322b7", func := "waltzer/waltzerlaw06.StallsDraws", spec := "stallsDraws", unfollowed := true, recurses := true, plainKeys := false, apart := false, narrowed := true }
def StallsDrawsUptoSaid : Prop := stallsDrawsUptoRow.holds Try.pinned (OpenSpec.upto stallsDrawsSpec)

/-- 'waltzerlaw06.StallsPlain', WHERE WHAT IT READS IS OF BULK AT MOST 1048576: true; the input reads as it did. -/
def stallsPlainUptoRow : OpenClaim := { program := "ytfgmlaeikcfpbaa", sum := "d16e446dfcd4cf7a2fd409fb0382fbc921d5372a61ca97b4872580cd482322b7", func := "waltzer/waltzerlaw06.StallsPlain", spec := "stallsPlain", unfollowed := true, recurses := true, plainKeys := false, apart := false, narrowed := true }
def StallsPlainUptoSaid : Prop := stallsPlainUptoRow.holds Try.pinned (OpenSpec.upto stallsPlainSpec)

/-- 'waltzerlaw06.StallsNotices', WHERE WHAT IT READS IS OF BULK AT MOST 1048576: true; the input reads as it did. -/
def stallsNoticesUptoRow : OpenClaim := { program := "ytfgmlaeikcfpbaa", sum := "d16e446dfcd4cf7a2fd409fb0382fbc921d5372a61ca97b4872580cd482322b7", func := "waltzer/waltzerlaw06.StallsNotices", spec := "stallsNotices", unfollowed := true, recurses := true, plainKeys := false, apart := false, narrowed := true }
def StallsNoticesUptoSaid : Prop := stallsNoticesUptoRow.holds Try.pinned (OpenSpec.upto stallsNoticesSpec)

/-- 'waltzerlaw06.StallsPrinted', WHERE WHAT IT READS IS OF BULK AT MOST 1048576: true; the input reads as it did. -/
def stallsPrintedUptoRow : OpenClaim := { program := "ytfgmlaeikcfpbaa", sum := "d16e446dfcd4cf7a2fd409fb0382fbc921d5372a61ca97b4872580cd482322b7", func := "waltzer/waltzerlaw06.StallsPrinted", spec := "stallsPrinted", unfollowed := true, recurses := true, plainKeys := false, apart := false, narrowed := true }
def StallsPrintedUptoSaid : Prop := stallsPrintedUptoRow.holds Try.pinned (OpenSpec.upto stallsPrintedSpec)

/-- 'waltzerlaw06.StallsHanded', WHERE WHAT IT READS IS OF BULK AT MOST 1048576: true; the input reads as it did. -/
def stallsHandedUptoRow : OpenClaim := { program := "ytfgmlaeikcfpbaa", sum := "d16e446dfcd4cf7a2fd409fb0382fbc921d5372a61ca97b4872580cd482322b7", func := "waltzer/waltzerlaw06.StallsHanded", spec := "stallsHanded", unfollowed := true, recurses := true, plainKeys := false, apart := false, narrowed := true }
def StallsHandedUptoSaid : Prop := stallsHandedUptoRow.holds Try.pinned (OpenSpec.upto stallsHandedSpec)

end Rows
end Go.Proofs.Ytfgmlaeikcfpbaa
