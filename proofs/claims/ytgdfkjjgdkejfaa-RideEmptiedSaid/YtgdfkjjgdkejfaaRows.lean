/-
  No cell of these rows narrows 'for every input' (looked for: loops, veiled, ifaces, maps, wideKeys, modest, calm, conditions, laid).
  DERIVED. THE GIVEN ROWS OF THIS SEAT. 12 by the template 'for every input the law returns true; each argument reads behind the call as it read before'; 0 by the template 'total and deterministic' (their statements: YtgdfkjjgdkejfaaTotals.lean).
  GIVEN WITH THE SEED: the statements are not yours to turn. If you find one false, say at which input.
  Laid BY PROGRAM, IN A SANDBOX (cutbox-rows.mjs): the forced cells as the released guide's own fill.sh prints them over the translation fecf787faf20ba78… (all of the seat's roots in one cut). By AI agents, Wed Nov 11 2026. No macro, syntax, notation, axiom, sorry.
-/
import Derived.Test.YtgdfkjjgdkejfaaChecked
import GoSem.Claim
import GoSem.ClaimJoined
import GoSem.ClaimMapViews
import Derived.JoinedTies
import Derived.KernelRfl
namespace Go.Proofs.Ytgdfkjjgdkejfaa
/- THE CELL 'sum', in the pinned program and in every row, IS THE sha256 OF THE DUMP (.gsa) THAT YtgdfkjjgdkejfaaProg.lean LOADS. Nothing in Lean hashes anything: it is a label: what it is worth is what the hold of that sum in a sandbox is worth. -/
noncomputable def Try.pinned : Pinned := { name := "ytgdfkjjgdkejfaa", sum := "fecf787faf20ba786bcd12617c7ea208238508fcea6c666c1a9cd44370b86816", checked := Try.checked }
namespace Rows
def none {H : Type} : Left H := { results := [], args := [] }

/-- 'waltzerlaw02.RidePlays': WHATEVER THE INPUT: true; the input reads as it did. -/
def ridePlaysSpec : ChangeSpec := { name := "ridePlays", fn := fun _ => fun
  | [d1, d2] => { results := [.lit (.bool true)], args := [d1, d2] }
  | _ => none }
def ridePlaysRow : OpenClaim := { program := "ytgdfkjjgdkejfaa", sum := "fecf787faf20ba786bcd12617c7ea208238508fcea6c666c1a9cd44370b86816", func := "waltzer/waltzerlaw02.RidePlays", spec := "ridePlays", unfollowed := true, recurses := true, plainKeys := false, apart := false }
def RidePlaysSaid : Prop := ridePlaysRow.holds Try.pinned (OpenSpec.ofChange ridePlaysSpec)

/-- ITS FALSE NEIGHBOUR: 'it returns false'. Refute it at one input. -/
def ridePlaysWrong : ChangeSpec := { name := "ridePlays", fn := fun _ => fun
  | [d1, d2] => { results := [.lit (.bool false)], args := [d1, d2] }
  | _ => none }
def RidePlaysWrongFalsely : Prop := ridePlaysRow.holds Try.pinned (OpenSpec.ofChange ridePlaysWrong)

/-- 'waltzerlaw02.RideStops': WHATEVER THE INPUT: true; the input reads as it did. -/
def rideStopsSpec : ChangeSpec := { name := "rideStops", fn := fun _ => fun
  | [d1, d2] => { results := [.lit (.bool true)], args := [d1, d2] }
  | _ => none }
def rideStopsRow : OpenClaim := { program := "ytgdfkjjgdkejfaa", sum := "fecf787faf20ba786bcd12617c7ea208238508fcea6c666c1a9cd44370b86816", func := "waltzer/waltzerlaw02.RideStops", spec := "rideStops", unfollowed := true, recurses := true, plainKeys := false, apart := false }
def RideStopsSaid : Prop := rideStopsRow.holds Try.pinned (OpenSpec.ofChange rideStopsSpec)

/-- ITS FALSE NEIGHBOUR: 'it returns false'. Refute it at one input. -/
def rideStopsWrong : ChangeSpec := { name := "rideStops", fn := fun _ => fun
  | [d1, d2] => { results := [.lit (.bool false)], args := [d1, d2] }
  | _ => none }
def RideStopsWrongFalsely : Prop := rideStopsRow.holds Try.pinned (OpenSpec.ofChange rideStopsWrong)

/-- 'waltzerlaw02.RideHalts': WHATEVER THE INPUT: true; the input reads as it did. -/
def rideHaltsSpec : ChangeSpec := { name := "rideHalts", fn := fun _ => fun
  | [d1, d2] => { results := [.lit (.bool true)], args := [d1, d2] }
  | _ => none }
def rideHaltsRow : OpenClaim := { program := "ytgdfkjjgdkejfaa", sum := "fecf787faf20ba786bcd12617c7ea208238508fcea6c666c1a9cd44370b86816", func := "waltzer/waltzerlaw02.RideHalts", spec := "rideHalts", unfollowed := true, recurses := true, plainKeys := false, apart := false }
def RideHaltsSaid : Prop := rideHaltsRow.holds Try.pinned (OpenSpec.ofChange rideHaltsSpec)

/-- ITS FALSE NEIGHBOUR: 'it returns false'. Refute it at one input. -/
def rideHaltsWrong : ChangeSpec := { name := "rideHalts", fn := fun _ => fun
  | [d1, d2] => { results := [.lit (.bool false)], args := [d1, d2] }
  | _ => none }
def RideHaltsWrongFalsely : Prop := rideHaltsRow.holds Try.pinned (OpenSpec.ofChange rideHaltsWrong)

/-- 'waltzerlaw02.RideSound': WHATEVER THE INPUT: true; the input reads as it did. -/
def rideSoundSpec : ChangeSpec := { name := "rideSound", fn := fun _ => fun
  | [d1, d2] => { results := [.lit (.bool true)], args := [d1, d2] }
  | _ => none }
def rideSoundRow : OpenClaim := { program := "ytgdfkjjgdkejfaa", sum := "fecf787faf20ba786bcd12617c7ea208238508fcea6c666c1a9cd44370b86816", func := "waltzer/waltzerlaw02.RideSound", spec := "rideSound", unfollowed := true, recurses := true, plainKeys := false, apart := false }
def RideSoundSaid : Prop := rideSoundRow.holds Try.pinned (OpenSpec.ofChange rideSoundSpec)

/-- ITS FALSE NEIGHBOUR: 'it returns false'. Refute it at one input. -/
def rideSoundWrong : ChangeSpec := { name := "rideSound", fn := fun _ => fun
  | [d1, d2] => { results := [.lit (.bool false)], args := [d1, d2] }
  | _ => none }
def RideSoundWrongFalsely : Prop := rideSoundRow.holds Try.pinned (OpenSpec.ofChange rideSoundWrong)

/-- 'waltzerlaw02.RideOrdered': WHATEVER THE INPUT: true; the input reads as it did. -/
def rideOrderedSpec : ChangeSpec := { name := "rideOrdered", fn := fun _ => fun
  | [d1, d2, d3] => { results := [.lit (.bool true)], args := [d1, d2, d3] }
  | _ => none }
def rideOrderedRow : OpenClaim := { program := "ytgdfkjjgdkejfaa", sum := "fecf787faf20ba786bcd12617c7ea208238508fcea6c666c1a9cd44370b86816", func := "waltzer/waltzerlaw02.RideOrdered", spec := "rideOrdered", unfollowed := true, recurses := true, plainKeys := false, apart := false }
def RideOrderedSaid : Prop := rideOrderedRow.holds Try.pinned (OpenSpec.ofChange rideOrderedSpec)

/-- ITS FALSE NEIGHBOUR: 'it returns false'. Refute it at one input. -/
def rideOrderedWrong : ChangeSpec := { name := "rideOrdered", fn := fun _ => fun
  | [d1, d2, d3] => { results := [.lit (.bool false)], args := [d1, d2, d3] }
  | _ => none }
def RideOrderedWrongFalsely : Prop := rideOrderedRow.holds Try.pinned (OpenSpec.ofChange rideOrderedWrong)

/-- 'waltzerlaw02.RideChecks': WHATEVER THE INPUT: true; the input reads as it did. -/
def rideChecksSpec : ChangeSpec := { name := "rideChecks", fn := fun _ => fun
  | [d] => { results := [.lit (.bool true)], args := [d] }
  | _ => none }
def rideChecksRow : OpenClaim := { program := "ytgdfkjjgdkejfaa", sum := "fecf787faf20ba786bcd12617c7ea208238508fcea6c666c1a9cd44370b86816", func := "waltzer/waltzerlaw02.RideChecks", spec := "rideChecks", unfollowed := true, recurses := true, plainKeys := false, apart := false }
def RideChecksSaid : Prop := rideChecksRow.holds Try.pinned (OpenSpec.ofChange rideChecksSpec)

/-- ITS FALSE NEIGHBOUR: 'it returns false'. Refute it at one input. -/
def rideChecksWrong : ChangeSpec := { name := "rideChecks", fn := fun _ => fun
  | [d] => { results := [.lit (.bool false)], args := [d] }
  | _ => none }
def RideChecksWrongFalsely : Prop := rideChecksRow.holds Try.pinned (OpenSpec.ofChange rideChecksWrong)

/-- 'waltzerlaw02.RideRounds': WHATEVER THE INPUT: true; the input reads as it did. -/
def rideRoundsSpec : ChangeSpec := { name := "rideRounds", fn := fun _ => fun
  | [d1, d2] => { results := [.lit (.bool true)], args := [d1, d2] }
  | _ => none }
def rideRoundsRow : OpenClaim := { program := "ytgdfkjjgdkejfaa", sum := "fecf787faf20ba786bcd12617c7ea208238508fcea6c666c1a9cd44370b86816", func := "waltzer/waltzerlaw02.RideRounds", spec := "rideRounds", unfollowed := true, recurses := true, plainKeys := false, apart := false }
def RideRoundsSaid : Prop := rideRoundsRow.holds Try.pinned (OpenSpec.ofChange rideRoundsSpec)

/-- ITS FALSE NEIGHBOUR: 'it returns false'. Refute it at one input. -/
def rideRoundsWrong : ChangeSpec := { name := "rideRounds", fn := fun _ => fun
  | [d1, d2] => { results := [.lit (.bool false)], args := [d1, d2] }
  | _ => none }
def RideRoundsWrongFalsely : Prop := rideRoundsRow.holds Try.pinned (OpenSpec.ofChange rideRoundsWrong)

/-- 'waltzerlaw02.RideCrashes': WHATEVER THE INPUT: true; the input reads as it did. -/
def rideCrashesSpec : ChangeSpec := { name := "rideCrashes", fn := fun _ => fun
  | [d1, d2] => { results := [.lit (.bool true)], args := [d1, d2] }
  | _ => none }
def rideCrashesRow : OpenClaim := { program := "ytgdfkjjgdkejfaa", sum := "fecf787faf20ba786bcd12617c7ea208238508fcea6c666c1a9cd44370b86816", func := "waltzer/waltzerlaw02.RideCrashes", spec := "rideCrashes", unfollowed := true, recurses := true, plainKeys := false, apart := false }
def RideCrashesSaid : Prop := rideCrashesRow.holds Try.pinned (OpenSpec.ofChange rideCrashesSpec)

/-- ITS FALSE NEIGHBOUR: 'it returns false'. Refute it at one input. -/
def rideCrashesWrong : ChangeSpec := { name := "rideCrashes", fn := fun _ => fun
  | [d1, d2] => { results := [.lit (.bool false)], args := [d1, d2] }
  | _ => none }
def RideCrashesWrongFalsely : Prop := rideCrashesRow.holds Try.pinned (OpenSpec.ofChange rideCrashesWrong)

/-- 'waltzerlaw02.RideSafe': WHATEVER THE INPUT: true; the input reads as it did. -/
def rideSafeSpec : ChangeSpec := { name := "rideSafe", fn := fun _ => fun
  | [d1, d2] => { results := [.lit (.bool true)], args := [d1, d2] }
  | _ => none }
def rideSafeRow : OpenClaim := { program := "ytgdfkjjgdkejfaa", sum := "fecf787faf20ba786bcd12617c7ea208238508fcea6c666c1a9cd44370b86816", func := "waltzer/waltzerlaw02.RideSafe", spec := "rideSafe", unfollowed := true, recurses := true, plainKeys := false, apart := false }
def RideSafeSaid : Prop := rideSafeRow.holds Try.pinned (OpenSpec.ofChange rideSafeSpec)

/-- ITS FALSE NEIGHBOUR: 'it returns false'. Refute it at one input. -/
def rideSafeWrong : ChangeSpec := { name := "rideSafe", fn := fun _ => fun
  | [d1, d2] => { results := [.lit (.bool false)], args := [d1, d2] }
  | _ => none }
def RideSafeWrongFalsely : Prop := rideSafeRow.holds Try.pinned (OpenSpec.ofChange rideSafeWrong)

/-- 'waltzerlaw02.RideRated': WHATEVER THE INPUT: true; the input reads as it did. -/
def rideRatedSpec : ChangeSpec := { name := "rideRated", fn := fun _ => fun
  | [d] => { results := [.lit (.bool true)], args := [d] }
  | _ => none }
def rideRatedRow : OpenClaim := { program := "ytgdfkjjgdkejfaa", sum := "fecf787faf20ba786bcd12617c7ea208238508fcea6c666c1a9cd44370b86816", func := "waltzer/waltzerlaw02.RideRated", spec := "rideRated", unfollowed := true, recurses := true, plainKeys := false, apart := false }
def RideRatedSaid : Prop := rideRatedRow.holds Try.pinned (OpenSpec.ofChange rideRatedSpec)

/-- ITS FALSE NEIGHBOUR: 'it returns false'. Refute it at one input. -/
def rideRatedWrong : ChangeSpec := { name := "rideRated", fn := fun _ => fun
  | [d] => { results := [.lit (.bool false)], args := [d] }
  | _ => none }
def RideRatedWrongFalsely : Prop := rideRatedRow.holds Try.pinned (OpenSpec.ofChange rideRatedWrong)

/-- 'waltzerlaw02.RidePushes': WHATEVER THE INPUT: true; the input reads as it did. -/
def ridePushesSpec : ChangeSpec := { name := "ridePushes", fn := fun _ => fun
  | [d1, d2] => { results := [.lit (.bool true)], args := [d1, d2] }
  | _ => none }
def ridePushesRow : OpenClaim := { program := "ytgdfkjjgdkejfaa", sum := "fecf787faf20ba786bcd12617c7ea208238508fcea6c666c1a9cd44370b86816", func := "waltzer/waltzerlaw02.RidePushes", spec := "ridePushes", unfollowed := true, recurses := true, plainKeys := false, apart := false }
def RidePushesSaid : Prop := ridePushesRow.holds Try.pinned (OpenSpec.ofChange ridePushesSpec)

/-- ITS FALSE NEIGHBOUR: 'it returns false'. Refute it at one input. -/
def ridePushesWrong : ChangeSpec := { name := "ridePushes", fn := fun _ => fun
  | [d1, d2] => { results := [.lit (.bool false)], args := [d1, d2] }
  | _ => none }
def RidePushesWrongFalsely : Prop := ridePushesRow.holds Try.pinned (OpenSpec.ofChange ridePushesWrong)

/-- 'waltzerlaw02.RideEmptied': WHATEVER THE INPUT: true; the input reads as it did. -/
def rideEmptiedSpec : ChangeSpec := { name := "rideEmptied", fn := fun _ => fun
  | [d1, d2] => { results := [.lit (.bool true)], args := [d1, d2] }
  | _ => none }
def rideEmptiedRow : OpenClaim := { program := "ytgdfkjjgdkejfaa", sum := "fecf787faf20ba786bcd12617c7ea208238508fcea6c666c1a9cd44370b86816", func := "waltzer/waltzerlaw02.RideEmptied", spec := "rideEmptied", unfollowed := true, recurses := true, plainKeys := false, apart := false }
def RideEmptiedSaid : Prop := rideEmptiedRow.holds Try.pinned (OpenSpec.ofChange rideEmptiedSpec)

/-- ITS FALSE NEIGHBOUR: 'it returns false'. Refute it at one input. -/
def rideEmptiedWrong : ChangeSpec := { name := "rideEmptied", fn := fun _ => fun
  | [d1, d2] => { results := [.lit (.bool false)], args := [d1, d2] }
  | _ => none }
def RideEmptiedWrongFalsely : Prop := rideEmptiedRow.holds Try.pinned (OpenSpec.ofChange rideEmptiedWrong)

/- THE SECOND FORM. 'bulk': how many values and letters a reading holds, each counted each time it is reached (what is shared counts as often as it is met; a slice's spare places count too). A statement '..UptoSaid' is the law's where the arguments, and the package variables that the reading takes, are together of bulk at most 1048576: NARROWER than '..Said'. Prove '..Said' where nothing that the law and all that it calls make is longer than what came in: it says more and counts as full. Else prove '..UptoSaid'. A law counts once. -/
mutual
def uptoBulk {H : Type} : DataW H → Nat
  | .lit (.string bytes) => bytes.length + 1
  | .lit _ => 1
  | .nil => 1
  | .ptr d => uptoBulk d + 1
  | .slice elems spare => uptoBulkAll elems + uptoBulkAll spare + 1
  | .agg parts => uptoBulkAll parts + 1
  | .iface _ d => uptoBulk d + 1
  | .map entries => uptoBulkEntries entries + 1
  | .held _ => 1
def uptoBulkAll {H : Type} : List (DataW H) → Nat
  | [] => 0
  | d :: r => uptoBulk d + uptoBulkAll r
def uptoBulkEntries {H : Type} : List (Lit × DataW H) → Nat
  | [] => 0
  | x :: r => uptoBulkEntry x + uptoBulkEntries r
def uptoBulkEntry {H : Type} : Lit × DataW H → Nat
  | (.string bytes, d) => bytes.length + uptoBulk d + 1
  | (_, d) => uptoBulk d + 1
 end
def uptoSmall : (H : Type) → List (DataW H) → Bool := fun _ ds => decide (uptoBulkAll ds ≤ 1048576)
def OpenSpec.upto (s : _root_.Go.ChangeSpec) : _root_.Go.OpenSpec := { _root_.Go.OpenSpec.ofChange s with cond := some uptoSmall }

/-- 'waltzerlaw02.RidePlays', WHERE WHAT IT READS IS OF BULK AT MOST 1048576: true; the input reads as it did. -/
def ridePlaysUptoRow : OpenClaim := { program := "ytgdfkjjgdkejfaa", sum := "fecf787faf20ba786bcd12617c7ea208238508fcea6c666c1a9cd44370b86816", func := "waltzer/waltzerlaw02.RidePlays", spec := "ridePlays", unfollowed := true, recurses := true, plainKeys := false, apart := false, narrowed := true }
def RidePlaysUptoSaid : Prop := ridePlaysUptoRow.holds Try.pinned (OpenSpec.upto ridePlaysSpec)

/-- 'waltzerlaw02.RideStops', WHERE WHAT IT READS IS OF BULK AT MOST 1048576: true; the input reads as it did. -/
def rideStopsUptoRow : OpenClaim := { program := "ytgdfkjjgdkejfaa", sum := "fecf787faf20ba786bcd12617c7ea208238508fcea6c666c1a9cd44370b86816", func := "waltzer/waltzerlaw02.RideStops", spec := "rideStops", unfollowed := true, recurses := true, plainKeys := false, apart := false, narrowed := true }
def RideStopsUptoSaid : Prop := rideStopsUptoRow.holds Try.pinned (OpenSpec.upto rideStopsSpec)

/-- 'waltzerlaw02.RideHalts', WHERE WHAT IT READS IS OF BULK AT MOST 1048576: true; the input reads as it did. -/
def rideHaltsUptoRow : OpenClaim := { program := "ytgdfkjjgdkejfaa", sum := "fecf787faf20ba786bcd12617c7ea208238508fcea6c666c1a9cd44370b86816", func := "waltzer/waltzerlaw02.RideHalts", spec := "rideHalts", unfollowed := true, recurses := true, plainKeys := false, apart := false, narrowed := true }
def RideHaltsUptoSaid : Prop := rideHaltsUptoRow.holds Try.pinned (OpenSpec.upto rideHaltsSpec)

/-- 'waltzerlaw02.RideSound', WHERE WHAT IT READS IS OF BULK AT MOST 1048576: true; the input reads as it did. -/
def rideSoundUptoRow : OpenClaim := { program := "ytgdfkjjgdkejfaa", sum := "fecf787faf20ba786bcd12617c7ea208238508fcea6c666c1a9cd44370b86816", func := "waltzer/waltzerlaw02.RideSound", spec := "rideSound", unfollowed := true, recurses := true, plainKeys := false, apart := false, narrowed := true }
def RideSoundUptoSaid : Prop := rideSoundUptoRow.holds Try.pinned (OpenSpec.upto rideSoundSpec)

/-- 'waltzerlaw02.RideOrdered', WHERE WHAT IT READS IS OF BULK AT MOST 1048576: true; the input reads as it did. -/
def rideOrderedUptoRow : OpenClaim := { program := "ytgdfkjjgdkejfaa", sum := "fecf787faf20ba786bcd12617c7ea208238508fcea6c666c1a9cd44370b86816", func := "waltzer/waltzerlaw02.RideOrdered", spec := "rideOrdered", unfollowed := true, recurses := true, plainKeys := false, apart := false, narrowed := true }
def RideOrderedUptoSaid : Prop := rideOrderedUptoRow.holds Try.pinned (OpenSpec.upto rideOrderedSpec)

/-- 'waltzerlaw02.RideChecks', WHERE WHAT IT READS IS OF BULK AT MOST 1048576: true; the input reads as it did. -/
def rideChecksUptoRow : OpenClaim := { program := "ytgdfkjjgdkejfaa", sum := "fecf787faf20ba786bcd12617c7ea208238508fcea6c666c1a9cd44370b86816", func := "waltzer/waltzerlaw02.RideChecks", spec := "rideChecks", unfollowed := true, recurses := true, plainKeys := false, apart := false, narrowed := true }
def RideChecksUptoSaid : Prop := rideChecksUptoRow.holds Try.pinned (OpenSpec.upto rideChecksSpec)

/-- 'waltzerlaw02.RideRounds', WHERE WHAT IT READS IS OF BULK AT MOST 1048576: true; the input reads as it did. -/
def rideRoundsUptoRow : OpenClaim := { program := "ytgdfkjjgdkejfaa", sum := "fecf787faf20ba786bcd12617c7ea208238508fcea6c666c1a9cd44370b86816", func := "waltzer/waltzerlaw02.RideRounds", spec := "rideRounds", unfollowed := true, recurses := true, plainKeys := false, apart := false, narrowed := true }
def RideRoundsUptoSaid : Prop := rideRoundsUptoRow.holds Try.pinned (OpenSpec.upto rideRoundsSpec)

/-- 'waltzerlaw02.RideCrashes', WHERE WHAT IT READS IS OF BULK AT MOST 1048576: true; the input reads as it did. -/
def rideCrashesUptoRow : OpenClaim := { program := "ytgdfkjjgdkejfaa", sum := "fecf787faf20ba786bcd12617c7ea208238508fcea6c666c1a9cd44370b86816", func := "waltzer/waltzerlaw02.RideCrashes", spec := "rideCrashes", unfollowed := true, recurses := true, plainKeys := false, apart := false, narrowed := true }
def RideCrashesUptoSaid : Prop := rideCrashesUptoRow.holds Try.pinned (OpenSpec.upto rideCrashesSpec)

/-- 'waltzerlaw02.RideSafe', WHERE WHAT IT READS IS OF BULK AT MOST 1048576: true; the input reads as it did. -/
def rideSafeUptoRow : OpenClaim := { program := "ytgdfkjjgdkejfaa", sum := "fecf787faf20ba786bcd12617c7ea208238508fcea6c666c1a9cd44370b86816", func := "waltzer/waltzerlaw02.RideSafe", spec := "rideSafe", unfollowed := true, recurses := true, plainKeys := false, apart := false, narrowed := true }
def RideSafeUptoSaid : Prop := rideSafeUptoRow.holds Try.pinned (OpenSpec.upto rideSafeSpec)

/-- 'waltzerlaw02.RideRated', WHERE WHAT IT READS IS OF BULK AT MOST 1048576: true; the input reads as it did. -/
def rideRatedUptoRow : OpenClaim := { program := "ytgdfkjjgdkejfaa", sum := "fecf787faf20ba786bcd12617c7ea208238508fcea6c666c1a9cd44370b86816", func := "waltzer/waltzerlaw02.RideRated", spec := "rideRated", unfollowed := true, recurses := true, plainKeys := false, apart := false, narrowed := true }
def RideRatedUptoSaid : Prop := rideRatedUptoRow.holds Try.pinned (OpenSpec.upto rideRatedSpec)

/-- 'waltzerlaw02.RidePushes', WHERE WHAT IT READS IS OF BULK AT MOST 1048576: true; the input reads as it did. -/
def ridePushesUptoRow : OpenClaim := { program := "ytgdfkjjgdkejfaa", sum := "fecf787faf20ba786bcd12617c7ea208238508fcea6c666c1a9cd44370b86816", func := "waltzer/waltzerlaw02.RidePushes", spec := "ridePushes", unfollowed := true, recurses := true, plainKeys := false, apart := false, narrowed := true }
def RidePushesUptoSaid : Prop := ridePushesUptoRow.holds Try.pinned (OpenSpec.upto ridePushesSpec)

/-- 'waltzerlaw02.RideEmptied', WHERE WHAT IT READS IS OF BULK AT MOST 1048576: true; the input reads as it did. -/
def rideEmptiedUptoRow : OpenClaim := { program := "ytgdfkjjgdkejfaa", sum := "fecf787faf20ba786bcd12617c7ea208238508fcea6c666c1a9cd44370b86816", func := "waltzer/waltzerlaw02.RideEmptied", spec := "rideEmptied", unfollowed := true, recurses := true, plainKeys := false, apart := false, narrowed := true }
def RideEmptiedUptoSaid : Prop := rideEmptiedUptoRow.holds Try.pinned (OpenSpec.upto rideEmptiedSpec)

end Rows
end Go.Proofs.Ytgdfkjjgdkejfaa
