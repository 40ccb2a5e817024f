/-
  No cell of these rows narrows 'for every input' (looked for: loops, veiled, ifaces, maps, wideKeys, modest, calm, conditions, laid).
  DERIVED. THE GIVEN ROWS OF THIS SEAT. 12 by the template 'for every input the law returns true; each argument reads behind the call as it read before'; 0 by the template 'total and deterministic' (their statements: YtmdbebbibecidaaTotals.lean).
  GIVEN WITH THE SEED: the statements are not yours to turn. If you find one false, say at which input.
  Laid BY PROGRAM, IN A SANDBOX (cutbox-rows.mjs): the forced cells as the released guide's own fill.sh prints them over the translation 22a9619094defa7b… (all of the seat's roots in one cut). By AI agents, Wed Nov 11 2026. No macro, syntax, notation, axiom, sorry.
-/
import Derived.Test.YtmdbebbibecidaaChecked
import GoSem.Claim
import GoSem.ClaimJoined
import GoSem.ClaimMapViews
import Derived.JoinedTies
import Derived.KernelRfl
namespace Go.Proofs.Ytmdbebbibecidaa
/- THE CELL 'sum', in the pinned program and in every row, IS THE sha256 OF THE DUMP (.gsa) THAT YtmdbebbibecidaaProg.lean LOADS. Nothing in Lean hashes anything: it is a label: what it is worth is what the hold of that sum in a sandbox is worth. -/
noncomputable def Try.pinned : Pinned := { name := "ytmdbebbibecidaa", sum := "22a9619094defa7bf1e322bb3afb6fcd0510f7a3d05a7eb2deacf635c2096c64", checked := Try.checked }
namespace Rows
def none {H : Type} : Left H := { results := [], args := [] }

/-- 'waltzerlaw11.TakingsSplits': WHATEVER THE INPUT: true; the input reads as it did. -/
def takingsSplitsSpec : ChangeSpec := { name := "takingsSplits", fn := fun _ => fun
  | [d1, d2, d3] => { results := [.lit (.bool true)], args := [d1, d2, d3] }
  | _ => none }
def takingsSplitsRow : OpenClaim := { program := "ytmdbebbibecidaa", sum := "22a9619094defa7bf1e322bb3afb6fcd0510f7a3d05a7eb2deacf635c2096c64", func := "waltzer/waltzerlaw11.TakingsSplits", spec := "takingsSplits", unfollowed := true, recurses := true, apart := false }
def TakingsSplitsSaid : Prop := takingsSplitsRow.holds Try.pinned (OpenSpec.ofChange takingsSplitsSpec)

/-- ITS FALSE NEIGHBOUR: 'it returns false'. Refute it at one input. -/
def takingsSplitsWrong : ChangeSpec := { name := "takingsSplits", fn := fun _ => fun
  | [d1, d2, d3] => { results := [.lit (.bool false)], args := [d1, d2, d3] }
  | _ => none }
def TakingsSplitsWrongFalsely : Prop := takingsSplitsRow.holds Try.pinned (OpenSpec.ofChange takingsSplitsWrong)

/-- 'waltzerlaw11.TakingsExact': WHATEVER THE INPUT: true; the input reads as it did. -/
def takingsExactSpec : ChangeSpec := { name := "takingsExact", fn := fun _ => fun
  | [d1, d2, d3] => { results := [.lit (.bool true)], args := [d1, d2, d3] }
  | _ => none }
def takingsExactRow : OpenClaim := { program := "ytmdbebbibecidaa", sum := "22a9619094defa7bf1e322bb3afb6fcd0510f7a3d05a7eb2deacf635c2096c64", func := "waltzer/waltzerlaw11.TakingsExact", spec := "takingsExact", unfollowed := true, recurses := true, apart := false }
def TakingsExactSaid : Prop := takingsExactRow.holds Try.pinned (OpenSpec.ofChange takingsExactSpec)

/-- ITS FALSE NEIGHBOUR: 'it returns false'. Refute it at one input. -/
def takingsExactWrong : ChangeSpec := { name := "takingsExact", fn := fun _ => fun
  | [d1, d2, d3] => { results := [.lit (.bool false)], args := [d1, d2, d3] }
  | _ => none }
def TakingsExactWrongFalsely : Prop := takingsExactRow.holds Try.pinned (OpenSpec.ofChange takingsExactWrong)

/-- 'waltzerlaw11.TakingsTaxes': WHATEVER THE INPUT: true; the input reads as it did. -/
def takingsTaxesSpec : ChangeSpec := { name := "takingsTaxes", fn := fun _ => fun
  | [d1, d2] => { results := [.lit (.bool true)], args := [d1, d2] }
  | _ => none }
def takingsTaxesRow : OpenClaim := { program := "ytmdbebbibecidaa", sum := "22a9619094defa7bf1e322bb3afb6fcd0510f7a3d05a7eb2deacf635c2096c64", func := "waltzer/waltzerlaw11.TakingsTaxes", spec := "takingsTaxes", unfollowed := true, recurses := true, apart := false }
def TakingsTaxesSaid : Prop := takingsTaxesRow.holds Try.pinned (OpenSpec.ofChange takingsTaxesSpec)

/-- ITS FALSE NEIGHBOUR: 'it returns false'. Refute it at one input. -/
def takingsTaxesWrong : ChangeSpec := { name := "takingsTaxes", fn := fun _ => fun
  | [d1, d2] => { results := [.lit (.bool false)], args := [d1, d2] }
  | _ => none }
def TakingsTaxesWrongFalsely : Prop := takingsTaxesRow.holds Try.pinned (OpenSpec.ofChange takingsTaxesWrong)

/-- 'waltzerlaw11.TakingsBounds': WHATEVER THE INPUT: true; the input reads as it did. -/
def takingsBoundsSpec : ChangeSpec := { name := "takingsBounds", fn := fun _ => fun
  | [d1, d2, d3] => { results := [.lit (.bool true)], args := [d1, d2, d3] }
  | _ => none }
def takingsBoundsRow : OpenClaim := { program := "ytmdbebbibecidaa", sum := "22a9619094defa7bf1e322bb3afb6fcd0510f7a3d05a7eb2deacf635c2096c64", func := "waltzer/waltzerlaw11.TakingsBounds", spec := "takingsBounds", unfollowed := true, recurses := true, apart := false }
def TakingsBoundsSaid : Prop := takingsBoundsRow.holds Try.pinned (OpenSpec.ofChange takingsBoundsSpec)

/-- ITS FALSE NEIGHBOUR: 'it returns false'. Refute it at one input. -/
def takingsBoundsWrong : ChangeSpec := { name := "takingsBounds", fn := fun _ => fun
  | [d1, d2, d3] => { results := [.lit (.bool false)], args := [d1, d2, d3] }
  | _ => none }
def TakingsBoundsWrongFalsely : Prop := takingsBoundsRow.holds Try.pinned (OpenSpec.ofChange takingsBoundsWrong)

/-- 'waltzerlaw11.TakingsRents': WHATEVER THE INPUT: true; the input reads as it did. -/
def takingsRentsSpec : ChangeSpec := { name := "takingsRents", fn := fun _ => fun
  | [d1, d2, d3] => { results := [.lit (.bool true)], args := [d1, d2, d3] }
  | _ => none }
def takingsRentsRow : OpenClaim := { program := "ytmdbebbibecidaa", sum := "22a9619094defa7bf1e322bb3afb6fcd0510f7a3d05a7eb2deacf635c2096c64", func := "waltzer/waltzerlaw11.TakingsRents", spec := "takingsRents", unfollowed := true, recurses := true, apart := false }
def TakingsRentsSaid : Prop := takingsRentsRow.holds Try.pinned (OpenSpec.ofChange takingsRentsSpec)

/-- ITS FALSE NEIGHBOUR: 'it returns false'. Refute it at one input. -/
def takingsRentsWrong : ChangeSpec := { name := "takingsRents", fn := fun _ => fun
  | [d1, d2, d3] => { results := [.lit (.bool false)], args := [d1, d2, d3] }
  | _ => none }
def TakingsRentsWrongFalsely : Prop := takingsRentsRow.holds Try.pinned (OpenSpec.ofChange takingsRentsWrong)

/-- 'waltzerlaw11.TakingsMore': WHATEVER THE INPUT: true; the input reads as it did. -/
def takingsMoreSpec : ChangeSpec := { name := "takingsMore", fn := fun _ => fun
  | [d1, d2] => { results := [.lit (.bool true)], args := [d1, d2] }
  | _ => none }
def takingsMoreRow : OpenClaim := { program := "ytmdbebbibecidaa", sum := "22a9619094defa7bf1e322bb3afb6fcd0510f7a3d05a7eb2deacf635c2096c64", func := "waltzer/waltzerlaw11.TakingsMore", spec := "takingsMore", unfollowed := true, recurses := true, apart := false }
def TakingsMoreSaid : Prop := takingsMoreRow.holds Try.pinned (OpenSpec.ofChange takingsMoreSpec)

/-- ITS FALSE NEIGHBOUR: 'it returns false'. Refute it at one input. -/
def takingsMoreWrong : ChangeSpec := { name := "takingsMore", fn := fun _ => fun
  | [d1, d2] => { results := [.lit (.bool false)], args := [d1, d2] }
  | _ => none }
def TakingsMoreWrongFalsely : Prop := takingsMoreRow.holds Try.pinned (OpenSpec.ofChange takingsMoreWrong)

/-- 'waltzerlaw11.TakingsNights': WHATEVER THE INPUT: true; the input reads as it did. -/
def takingsNightsSpec : ChangeSpec := { name := "takingsNights", fn := fun _ => fun
  | [d1, d2] => { results := [.lit (.bool true)], args := [d1, d2] }
  | _ => none }
def takingsNightsRow : OpenClaim := { program := "ytmdbebbibecidaa", sum := "22a9619094defa7bf1e322bb3afb6fcd0510f7a3d05a7eb2deacf635c2096c64", func := "waltzer/waltzerlaw11.TakingsNights", spec := "takingsNights", unfollowed := true, recurses := true, apart := false }
def TakingsNightsSaid : Prop := takingsNightsRow.holds Try.pinned (OpenSpec.ofChange takingsNightsSpec)

/-- ITS FALSE NEIGHBOUR: 'it returns false'. Refute it at one input. -/
def takingsNightsWrong : ChangeSpec := { name := "takingsNights", fn := fun _ => fun
  | [d1, d2] => { results := [.lit (.bool false)], args := [d1, d2] }
  | _ => none }
def TakingsNightsWrongFalsely : Prop := takingsNightsRow.holds Try.pinned (OpenSpec.ofChange takingsNightsWrong)

/-- 'waltzerlaw11.TakingsPays': WHATEVER THE INPUT: true; the input reads as it did. -/
def takingsPaysSpec : ChangeSpec := { name := "takingsPays", fn := fun _ => fun
  | [d1, d2] => { results := [.lit (.bool true)], args := [d1, d2] }
  | _ => none }
def takingsPaysRow : OpenClaim := { program := "ytmdbebbibecidaa", sum := "22a9619094defa7bf1e322bb3afb6fcd0510f7a3d05a7eb2deacf635c2096c64", func := "waltzer/waltzerlaw11.TakingsPays", spec := "takingsPays", unfollowed := true, recurses := true, apart := false }
def TakingsPaysSaid : Prop := takingsPaysRow.holds Try.pinned (OpenSpec.ofChange takingsPaysSpec)

/-- ITS FALSE NEIGHBOUR: 'it returns false'. Refute it at one input. -/
def takingsPaysWrong : ChangeSpec := { name := "takingsPays", fn := fun _ => fun
  | [d1, d2] => { results := [.lit (.bool false)], args := [d1, d2] }
  | _ => none }
def TakingsPaysWrongFalsely : Prop := takingsPaysRow.holds Try.pinned (OpenSpec.ofChange takingsPaysWrong)

/-- 'waltzerlaw11.TakingsBalances': WHATEVER THE INPUT: true; the input reads as it did. -/
def takingsBalancesSpec : ChangeSpec := { name := "takingsBalances", fn := fun _ => fun
  | [d1, d2] => { results := [.lit (.bool true)], args := [d1, d2] }
  | _ => none }
def takingsBalancesRow : OpenClaim := { program := "ytmdbebbibecidaa", sum := "22a9619094defa7bf1e322bb3afb6fcd0510f7a3d05a7eb2deacf635c2096c64", func := "waltzer/waltzerlaw11.TakingsBalances", spec := "takingsBalances", unfollowed := true, recurses := true, apart := false }
def TakingsBalancesSaid : Prop := takingsBalancesRow.holds Try.pinned (OpenSpec.ofChange takingsBalancesSpec)

/-- ITS FALSE NEIGHBOUR: 'it returns false'. Refute it at one input. -/
def takingsBalancesWrong : ChangeSpec := { name := "takingsBalances", fn := fun _ => fun
  | [d1, d2] => { results := [.lit (.bool false)], args := [d1, d2] }
  | _ => none }
def TakingsBalancesWrongFalsely : Prop := takingsBalancesRow.holds Try.pinned (OpenSpec.ofChange takingsBalancesWrong)

/-- 'waltzerlaw11.TakingsZero': WHATEVER THE INPUT: true; the input reads as it did. -/
def takingsZeroSpec : ChangeSpec := { name := "takingsZero", fn := fun _ => fun
  | [d1, d2, d3] => { results := [.lit (.bool true)], args := [d1, d2, d3] }
  | _ => none }
def takingsZeroRow : OpenClaim := { program := "ytmdbebbibecidaa", sum := "22a9619094defa7bf1e322bb3afb6fcd0510f7a3d05a7eb2deacf635c2096c64", func := "waltzer/waltzerlaw11.TakingsZero", spec := "takingsZero", unfollowed := true, recurses := true, apart := false }
def TakingsZeroSaid : Prop := takingsZeroRow.holds Try.pinned (OpenSpec.ofChange takingsZeroSpec)

/-- ITS FALSE NEIGHBOUR: 'it returns false'. Refute it at one input. -/
def takingsZeroWrong : ChangeSpec := { name := "takingsZero", fn := fun _ => fun
  | [d1, d2, d3] => { results := [.lit (.bool false)], args := [d1, d2, d3] }
  | _ => none }
def TakingsZeroWrongFalsely : Prop := takingsZeroRow.holds Try.pinned (OpenSpec.ofChange takingsZeroWrong)

/-- 'waltzerlaw11.TakingsFewest': WHATEVER THE INPUT: true; the input reads as it did. -/
def takingsFewestSpec : ChangeSpec := { name := "takingsFewest", fn := fun _ => fun
  | [d] => { results := [.lit (.bool true)], args := [d] }
  | _ => none }
def takingsFewestRow : OpenClaim := { program := "ytmdbebbibecidaa", sum := "22a9619094defa7bf1e322bb3afb6fcd0510f7a3d05a7eb2deacf635c2096c64", func := "waltzer/waltzerlaw11.TakingsFewest", spec := "takingsFewest", unfollowed := true, recurses := true, apart := false }
def TakingsFewestSaid : Prop := takingsFewestRow.holds Try.pinned (OpenSpec.ofChange takingsFewestSpec)

/-- ITS FALSE NEIGHBOUR: 'it returns false'. Refute it at one input. -/
def takingsFewestWrong : ChangeSpec := { name := "takingsFewest", fn := fun _ => fun
  | [d] => { results := [.lit (.bool false)], args := [d] }
  | _ => none }
def TakingsFewestWrongFalsely : Prop := takingsFewestRow.holds Try.pinned (OpenSpec.ofChange takingsFewestWrong)

/-- 'waltzerlaw11.TakingsSettled': WHATEVER THE INPUT: true; the input reads as it did. -/
def takingsSettledSpec : ChangeSpec := { name := "takingsSettled", fn := fun _ => fun
  | [d1, d2] => { results := [.lit (.bool true)], args := [d1, d2] }
  | _ => none }
def takingsSettledRow : OpenClaim := { program := "ytmdbebbibecidaa", sum := "22a9619094defa7bf1e322bb3afb6fcd0510f7a3d05a7eb2deacf635c2096c64", func := "waltzer/waltzerlaw11.TakingsSettled", spec := "takingsSettled", unfollowed := true, recurses := true, apart := false }
def TakingsSettledSaid : Prop := takingsSettledRow.holds Try.pinned (OpenSpec.ofChange takingsSettledSpec)

/-- ITS FALSE NEIGHBOUR: 'it returns false'. Refute it at one input. -/
def takingsSettledWrong : ChangeSpec := { name := "takingsSettled", fn := fun _ => fun
  | [d1, d2] => { results := [.lit (.bool false)], args := [d1, d2] }
  | _ => none }
def TakingsSettledWrongFalsely : Prop := takingsSettledRow.holds Try.pinned (OpenSpec.ofChange takingsSettledWrong)

/- THE SECOND FORM. 'bulk': how many values and letters a reading holds, each counted each time it is reached (what is shared counts as often as it is met; a slice's spare places count too). A statement '..UptoSaid' is the law's where the arguments, and the package variables that the reading takes, are together of bulk at most 1048576: NARROWER than '..Said'. Prove '..Said' where nothing that the law and all that it calls make is longer than what came in: it says more and counts as full. Else prove '..UptoSaid'. A law counts once. -/
mutual
def uptoBulk {H : Type} : DataW H → Nat
  | .lit (.string bytes) => bytes.length + 1
  | .lit _ => 1
  | .nil => 1
  | .ptr d => uptoBulk d + 1
  | .slice elems spare => uptoBulkAll elems + uptoBulkAll spare + 1
  | .agg parts => uptoBulkAll parts + 1
  | .iface _ d => uptoBulk d + 1
  | .map entries => uptoBulkEntries entries + 1
  | .held _ => 1
def uptoBulkAll {H : Type} : List (DataW H) → Nat
  | [] => 0
  | d :: r => uptoBulk d + uptoBulkAll r
def uptoBulkEntries {H : Type} : List (Lit × DataW H) → Nat
  | [] => 0
  | x :: r => uptoBulkEntry x + uptoBulkEntries r
def uptoBulkEntry {H : Type} : Lit × DataW H → Nat
  | (.string bytes, d) => bytes.length + uptoBulk d + 1
  | (_, d) => uptoBulk d + 1
 end
def uptoSmall : (H : Type) → List (DataW H) → Bool := fun _ ds => decide (uptoBulkAll ds ≤ 1048576)
def OpenSpec.upto (s : _root_.Go.ChangeSpec) : _root_.Go.OpenSpec := { _root_.Go.OpenSpec.ofChange s with cond := some uptoSmall }

/-- 'waltzerlaw11.TakingsSplits', WHERE WHAT IT READS IS OF BULK AT MOST 1048576: true; the input reads as it did. -/
def takingsSplitsUptoRow : OpenClaim := { program := "ytmdbebbibecidaa", sum := "22a9619094defa7bf1e322bb3afb6fcd0510f7a3d05a7eb2deacf635c2096c64", func := "waltzer/waltzerlaw11.TakingsSplits", spec := "takingsSplits", unfollowed := true, recurses := true, apart := false, narrowed := true }
def TakingsSplitsUptoSaid : Prop := takingsSplitsUptoRow.holds Try.pinned (OpenSpec.upto takingsSplitsSpec)

/-- 'waltzerlaw11.TakingsExact', WHERE WHAT IT READS IS OF BULK AT MOST 1048576: true; the input reads as it did. -/
def takingsExactUptoRow : OpenClaim := { program := "ytmdbebbibecidaa", sum := "22a9619094defa7bf1e322bb3afb6fcd0510f7a3d05a7eb2deacf635c2096c64", func := "waltzer/waltzerlaw11.TakingsExact", spec := "takingsExact", unfollowed := true, recurses := true, apart := false, narrowed := true }
def TakingsExactUptoSaid : Prop := takingsExactUptoRow.holds Try.pinned (OpenSpec.upto takingsExactSpec)

/-- 'waltzerlaw11.TakingsTaxes', WHERE WHAT IT READS IS OF BULK AT MOST 1048576: true; the input reads as it did. -/
def takingsTaxesUptoRow : OpenClaim := { program := "ytmdbebbibecidaa", sum := "22a9619094defa7bf1e322bb3afb6fcd0510f7a3d05a7eb2deacf635c2096c64", func := "waltzer/waltzerlaw11.TakingsTaxes", spec := "takingsTaxes", unfollowed := true, recurses := true, apart := false, narrowed := true }
def TakingsTaxesUptoSaid : Prop := takingsTaxesUptoRow.holds Try.pinned (OpenSpec.upto takingsTaxesSpec)

/-- 'waltzerlaw11.TakingsBounds', WHERE WHAT IT READS IS OF BULK AT MOST 1048576: true; the input reads as it did. -/
def takingsBoundsUptoRow : OpenClaim := { program := "ytmdbebbibecidaa", sum := "22a9619094defa7bf1e322bb3afb6fcd0510f7a3d05a7eb2deacf635c2096c64", func := "waltzer/waltzerlaw11.TakingsBounds", spec := "takingsBounds", unfollowed := true, recurses := true, apart := false, narrowed := true }
def TakingsBoundsUptoSaid : Prop := takingsBoundsUptoRow.holds Try.pinned (OpenSpec.upto takingsBoundsSpec)

/-- 'waltzerlaw11.TakingsRents', WHERE WHAT IT READS IS OF BULK AT MOST 1048576: true; the input reads as it did. -/
def takingsRentsUptoRow : OpenClaim := { program := "ytmdbebbibecidaa", sum := "22a9619094defa7bf1e322bb3afb6fcd0510f7a3d05a7eb2deacf635c2096c64", func := "waltzer/waltzerlaw11.TakingsRents", spec := "takingsRents", unfollowed := true, recurses := true, apart := false, narrowed := true }
def TakingsRentsUptoSaid : Prop := takingsRentsUptoRow.holds Try.pinned (OpenSpec.upto takingsRentsSpec)

/-- 'waltzerlaw11.TakingsMore', WHERE WHAT IT READS IS OF BULK AT MOST 1048576: true; the input reads as it did. -/
def takingsMoreUptoRow : OpenClaim := { program := "ytmdbebbibecidaa", sum := "22a9619094defa7bf1e322bb3afb6fcd0510f7a3d05a7eb2deacf635c2096c64", func := "waltzer/waltzerlaw11.TakingsMore", spec := "takingsMore", unfollowed := true, recurses := true, apart := false, narrowed := true }
def TakingsMoreUptoSaid : Prop := takingsMoreUptoRow.holds Try.pinned (OpenSpec.upto takingsMoreSpec)

/-- 'waltzerlaw11.TakingsNights', WHERE WHAT IT READS IS OF BULK AT MOST 1048576: true; the input reads as it did. -/
def takingsNightsUptoRow : OpenClaim := { program := "ytmdbebbibecidaa", sum := "22a9619094defa7bf1e322bb3afb6fcd0510f7a3d05a7eb2deacf635c2096c64", func := "waltzer/waltzerlaw11.TakingsNights", spec := "takingsNights", unfollowed := true, recurses := true, apart := false, narrowed := true }
def TakingsNightsUptoSaid : Prop := takingsNightsUptoRow.holds Try.pinned (OpenSpec.upto takingsNightsSpec)

/-- 'waltzerlaw11.TakingsPays', WHERE WHAT IT READS IS OF BULK AT MOST 1048576: true; the input reads as it did. -/
def takingsPaysUptoRow : OpenClaim := { program := "ytmdbebbibecidaa", sum := "22a9619094defa7bf1e322bb3afb6fcd0510f7a3d05a7eb2deacf635c2096c64", func := "waltzer/waltzerlaw11.TakingsPays", spec := "takingsPays", unfollowed := true, recurses := true, apart := false, narrowed := true }
def TakingsPaysUptoSaid : Prop := takingsPaysUptoRow.holds Try.pinned (OpenSpec.upto takingsPaysSpec)

/-- 'waltzerlaw11.TakingsBalances', WHERE WHAT IT READS IS OF BULK AT MOST 1048576: true; the input reads as it did. -/
def takingsBalancesUptoRow : OpenClaim := { program := "ytmdbebbibecidaa", sum := "22a9619094defa7bf1e322bb3afb6fcd0510f7a3d05a7eb2deacf635c2096c64", func := "waltzer/waltzerlaw11.TakingsBalances", spec := "takingsBalances", unfollowed := true, recurses := true, apart := false, narrowed := true }
def TakingsBalancesUptoSaid : Prop := takingsBalancesUptoRow.holds Try.pinned (OpenSpec.upto takingsBalancesSpec)

/-- 'waltzerlaw11.TakingsZero', WHERE WHAT IT READS IS OF BULK AT MOST 1048576: true; the input reads as it did. -/
def takingsZeroUptoRow : OpenClaim := { program := "ytmdbebbibecidaa", sum := "22a9619094defa7bf1e322bb3afb6fcd0510f7a3d05a7eb2deacf635c2096c64", func := "waltzer/waltzerlaw11.TakingsZero", spec := "takingsZero", unfollowed := true, recurses := true, apart := false, narrowed := true }
def TakingsZeroUptoSaid : Prop := takingsZeroUptoRow.holds Try.pinned (OpenSpec.upto takingsZeroSpec)

/-- 'waltzerlaw11.TakingsFewest', WHERE WHAT IT READS IS OF BULK AT MOST 1048576: true; the input reads as it did. -/
def takingsFewestUptoRow : OpenClaim := { program := "ytmdbebbibecidaa", sum := "22a9619094defa7bf1e322bb3afb6fcd0510f7a3d05a7eb2deacf635c2096c64", func := "waltzer/waltzerlaw11.TakingsFewest", spec := "takingsFewest", unfollowed := true, recurses := true, apart := false, narrowed := true }
def TakingsFewestUptoSaid : Prop := takingsFewestUptoRow.holds Try.pinned (OpenSpec.upto takingsFewestSpec)

/-- 'waltzerlaw11.TakingsSettled', WHERE WHAT IT READS IS OF BULK AT MOST 1048576: true; the input reads as it did. -/
def takingsSettledUptoRow : OpenClaim := { program := "ytmdbebbibecidaa", sum := "22a9619094defa7bf1e322bb3afb6fcd0510f7a3d05a7eb2deacf635c2096c64", func := "waltzer/waltzerlaw11.TakingsSettled", spec := "takingsSettled", unfollowed := true, recurses := true, apart := false, narrowed := true }
def TakingsSettledUptoSaid : Prop := takingsSettledUptoRow.holds Try.pinned (OpenSpec.upto takingsSettledSpec)

end Rows
end Go.Proofs.Ytmdbebbibecidaa
