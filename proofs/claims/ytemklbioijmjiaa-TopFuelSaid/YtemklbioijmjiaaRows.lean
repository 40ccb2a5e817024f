/-
  No cell of these rows narrows 'for every input' (looked for: loops, veiled, ifaces, maps, wideKeys, modest, calm, conditions, laid).
  DERIVED. THE GIVEN ROWS OF THIS SEAT. 9 by the template 'for every input the law returns true; each argument reads behind the call as it read before'; 0 by the template 'total and deterministic' (their statements: YtemklbioijmjiaaTotals.lean).
  GIVEN WITH THE SEED: the statements are not yours to turn. If you find one false, say at which input.
  Laid BY PROGRAM, IN A SANDBOX (cutbox-rows.mjs): the forced cells as the released guide's own fill.sh prints them over the translation 0faa211dc92ce6ec… (all of the seat's roots in one cut). By AI agents, Wed Nov 11 2026. No macro, syntax, notation, axiom, sorry.
-/
import Derived.Test.YtemklbioijmjiaaChecked
import GoSem.Claim
import GoSem.ClaimJoined
import GoSem.ClaimMapViews
import Derived.JoinedTies
import Derived.KernelRfl
namespace Go.Proofs.Ytemklbioijmjiaa
/- THE CELL 'sum', in the pinned program and in every row, IS THE sha256 OF THE DUMP (.gsa) THAT YtemklbioijmjiaaProg.lean LOADS. Nothing in Lean hashes anything: it is a label: what it is worth is what the hold of that sum in a sandbox is worth. -/
noncomputable def Try.pinned : Pinned := { name := "ytemklbioijmjiaa", sum := "0faa211dc92ce6ec8301372b7f98d842fa14f5c4b9683ed735b9b9b0ab566642", checked := Try.checked }
namespace Rows
def none {H : Type} : Left H := { results := [], args := [] }

/-- 'waltzertop.TopGrows': WHATEVER THE INPUT: true; the input reads as it did. -/
def topGrowsSpec : ChangeSpec := { name := "topGrows", fn := fun _ => fun
  | [d1, d2, d3] => { results := [.lit (.bool true)], args := [d1, d2, d3] }
  | _ => none }
def topGrowsRow : OpenClaim := { program := "ytemklbioijmjiaa", sum := "0faa211dc92ce6ec8301372b7f98d842fa14f5c4b9683ed735b9b9b0ab566642", func := "waltzer/waltzertop.TopGrows", spec := "topGrows", unfollowed := true, recurses := true, plainKeys := false, apart := false }
def TopGrowsSaid : Prop := topGrowsRow.holds Try.pinned (OpenSpec.ofChange topGrowsSpec)

/-- ITS FALSE NEIGHBOUR: 'it returns false'. Refute it at one input. -/
def topGrowsWrong : ChangeSpec := { name := "topGrows", fn := fun _ => fun
  | [d1, d2, d3] => { results := [.lit (.bool false)], args := [d1, d2, d3] }
  | _ => none }
def TopGrowsWrongFalsely : Prop := topGrowsRow.holds Try.pinned (OpenSpec.ofChange topGrowsWrong)

/-- 'waltzertop.TopCables': WHATEVER THE INPUT: true; the input reads as it did. -/
def topCablesSpec : ChangeSpec := { name := "topCables", fn := fun _ => fun
  | [d1, d2] => { results := [.lit (.bool true)], args := [d1, d2] }
  | _ => none }
def topCablesRow : OpenClaim := { program := "ytemklbioijmjiaa", sum := "0faa211dc92ce6ec8301372b7f98d842fa14f5c4b9683ed735b9b9b0ab566642", func := "waltzer/waltzertop.TopCables", spec := "topCables", unfollowed := true, recurses := true, plainKeys := false, apart := false }
def TopCablesSaid : Prop := topCablesRow.holds Try.pinned (OpenSpec.ofChange topCablesSpec)

/-- ITS FALSE NEIGHBOUR: 'it returns false'. Refute it at one input. -/
def topCablesWrong : ChangeSpec := { name := "topCables", fn := fun _ => fun
  | [d1, d2] => { results := [.lit (.bool false)], args := [d1, d2] }
  | _ => none }
def TopCablesWrongFalsely : Prop := topCablesRow.holds Try.pinned (OpenSpec.ofChange topCablesWrong)

/-- 'waltzertop.TopStalls': WHATEVER THE INPUT: true; the input reads as it did. -/
def topStallsSpec : ChangeSpec := { name := "topStalls", fn := fun _ => fun
  | [d1, d2, d3] => { results := [.lit (.bool true)], args := [d1, d2, d3] }
  | _ => none }
def topStallsRow : OpenClaim := { program := "ytemklbioijmjiaa", sum := "0faa211dc92ce6ec8301372b7f98d842fa14f5c4b9683ed735b9b9b0ab566642", func := "waltzer/waltzertop.TopStalls", spec := "topStalls", unfollowed := true, recurses := true, plainKeys := false, apart := false }
def TopStallsSaid : Prop := topStallsRow.holds Try.pinned (OpenSpec.ofChange topStallsSpec)

/-- ITS FALSE NEIGHBOUR: 'it returns false'. Refute it at one input. -/
def topStallsWrong : ChangeSpec := { name := "topStalls", fn := fun _ => fun
  | [d1, d2, d3] => { results := [.lit (.bool false)], args := [d1, d2, d3] }
  | _ => none }
def TopStallsWrongFalsely : Prop := topStallsRow.holds Try.pinned (OpenSpec.ofChange topStallsWrong)

/-- 'waltzertop.TopPins': WHATEVER THE INPUT: true; the input reads as it did. -/
def topPinsSpec : ChangeSpec := { name := "topPins", fn := fun _ => fun
  | [d1, d2] => { results := [.lit (.bool true)], args := [d1, d2] }
  | _ => none }
def topPinsRow : OpenClaim := { program := "ytemklbioijmjiaa", sum := "0faa211dc92ce6ec8301372b7f98d842fa14f5c4b9683ed735b9b9b0ab566642", func := "waltzer/waltzertop.TopPins", spec := "topPins", unfollowed := true, recurses := true, plainKeys := false, apart := false }
def TopPinsSaid : Prop := topPinsRow.holds Try.pinned (OpenSpec.ofChange topPinsSpec)

/-- ITS FALSE NEIGHBOUR: 'it returns false'. Refute it at one input. -/
def topPinsWrong : ChangeSpec := { name := "topPins", fn := fun _ => fun
  | [d1, d2] => { results := [.lit (.bool false)], args := [d1, d2] }
  | _ => none }
def TopPinsWrongFalsely : Prop := topPinsRow.holds Try.pinned (OpenSpec.ofChange topPinsWrong)

/-- 'waltzertop.TopDefects': WHATEVER THE INPUT: true; the input reads as it did. -/
def topDefectsSpec : ChangeSpec := { name := "topDefects", fn := fun _ => fun
  | [d1, d2] => { results := [.lit (.bool true)], args := [d1, d2] }
  | _ => none }
def topDefectsRow : OpenClaim := { program := "ytemklbioijmjiaa", sum := "0faa211dc92ce6ec8301372b7f98d842fa14f5c4b9683ed735b9b9b0ab566642", func := "waltzer/waltzertop.TopDefects", spec := "topDefects", unfollowed := true, recurses := true, plainKeys := false, apart := false }
def TopDefectsSaid : Prop := topDefectsRow.holds Try.pinned (OpenSpec.ofChange topDefectsSpec)

/-- ITS FALSE NEIGHBOUR: 'it returns false'. Refute it at one input. -/
def topDefectsWrong : ChangeSpec := { name := "topDefects", fn := fun _ => fun
  | [d1, d2] => { results := [.lit (.bool false)], args := [d1, d2] }
  | _ => none }
def TopDefectsWrongFalsely : Prop := topDefectsRow.holds Try.pinned (OpenSpec.ofChange topDefectsWrong)

/-- 'waltzertop.TopPrizes': WHATEVER THE INPUT: true; the input reads as it did. -/
def topPrizesSpec : ChangeSpec := { name := "topPrizes", fn := fun _ => fun
  | [d1, d2, d3] => { results := [.lit (.bool true)], args := [d1, d2, d3] }
  | _ => none }
def topPrizesRow : OpenClaim := { program := "ytemklbioijmjiaa", sum := "0faa211dc92ce6ec8301372b7f98d842fa14f5c4b9683ed735b9b9b0ab566642", func := "waltzer/waltzertop.TopPrizes", spec := "topPrizes", unfollowed := true, recurses := true, plainKeys := false, apart := false }
def TopPrizesSaid : Prop := topPrizesRow.holds Try.pinned (OpenSpec.ofChange topPrizesSpec)

/-- ITS FALSE NEIGHBOUR: 'it returns false'. Refute it at one input. -/
def topPrizesWrong : ChangeSpec := { name := "topPrizes", fn := fun _ => fun
  | [d1, d2, d3] => { results := [.lit (.bool false)], args := [d1, d2, d3] }
  | _ => none }
def TopPrizesWrongFalsely : Prop := topPrizesRow.holds Try.pinned (OpenSpec.ofChange topPrizesWrong)

/-- 'waltzertop.TopBlocked': WHATEVER THE INPUT: true; the input reads as it did. -/
def topBlockedSpec : ChangeSpec := { name := "topBlocked", fn := fun _ => fun
  | [d1, d2, d3] => { results := [.lit (.bool true)], args := [d1, d2, d3] }
  | _ => none }
def topBlockedRow : OpenClaim := { program := "ytemklbioijmjiaa", sum := "0faa211dc92ce6ec8301372b7f98d842fa14f5c4b9683ed735b9b9b0ab566642", func := "waltzer/waltzertop.TopBlocked", spec := "topBlocked", unfollowed := true, recurses := true, plainKeys := false, apart := false }
def TopBlockedSaid : Prop := topBlockedRow.holds Try.pinned (OpenSpec.ofChange topBlockedSpec)

/-- ITS FALSE NEIGHBOUR: 'it returns false'. Refute it at one input. -/
def topBlockedWrong : ChangeSpec := { name := "topBlocked", fn := fun _ => fun
  | [d1, d2, d3] => { results := [.lit (.bool false)], args := [d1, d2, d3] }
  | _ => none }
def TopBlockedWrongFalsely : Prop := topBlockedRow.holds Try.pinned (OpenSpec.ofChange topBlockedWrong)

/-- 'waltzertop.TopTills': WHATEVER THE INPUT: true; the input reads as it did. -/
def topTillsSpec : ChangeSpec := { name := "topTills", fn := fun _ => fun
  | [d1, d2, d3] => { results := [.lit (.bool true)], args := [d1, d2, d3] }
  | _ => none }
def topTillsRow : OpenClaim := { program := "ytemklbioijmjiaa", sum := "0faa211dc92ce6ec8301372b7f98d842fa14f5c4b9683ed735b9b9b0ab566642", func := "waltzer/waltzertop.TopTills", spec := "topTills", unfollowed := true, recurses := true, plainKeys := false, apart := false }
def TopTillsSaid : Prop := topTillsRow.holds Try.pinned (OpenSpec.ofChange topTillsSpec)

/-- ITS FALSE NEIGHBOUR: 'it returns false'. Refute it at one input. -/
def topTillsWrong : ChangeSpec := { name := "topTills", fn := fun _ => fun
  | [d1, d2, d3] => { results := [.lit (.bool false)], args := [d1, d2, d3] }
  | _ => none }
def TopTillsWrongFalsely : Prop := topTillsRow.holds Try.pinned (OpenSpec.ofChange topTillsWrong)

/-- 'waltzertop.TopFuel': WHATEVER THE INPUT: true; the input reads as it did. -/
def topFuelSpec : ChangeSpec := { name := "topFuel", fn := fun _ => fun
  | [d1, d2, d3] => { results := [.lit (.bool true)], args := [d1, d2, d3] }
  | _ => none }
def topFuelRow : OpenClaim := { program := "ytemklbioijmjiaa", sum := "0faa211dc92ce6ec8301372b7f98d842fa14f5c4b9683ed735b9b9b0ab566642", func := "waltzer/waltzertop.TopFuel", spec := "topFuel", unfollowed := true, recurses := true, plainKeys := false, apart := false }
def TopFuelSaid : Prop := topFuelRow.holds Try.pinned (OpenSpec.ofChange topFuelSpec)

/-- ITS FALSE NEIGHBOUR: 'it returns false'. Refute it at one input. -/
def topFuelWrong : ChangeSpec := { name := "topFuel", fn := fun _ => fun
  | [d1, d2, d3] => { results := [.lit (.bool false)], args := [d1, d2, d3] }
  | _ => none }
def TopFuelWrongFalsely : Prop := topFuelRow.holds Try.pinned (OpenSpec.ofChange topFuelWrong)

/- THE SECOND FORM. 'bulk': how many values and letters a reading holds, each counted each time it is reached (what is shared counts as often as it is met; a slice's spare places count too). A statement '..UptoSaid' is the law's where the arguments, and the package variables that the reading takes, are together of bulk at most 1048576: NARROWER than '..Said'. Prove '..Said' where nothing that the law and all that it calls make is longer than what came in: it says more and counts as full. Else prove '..UptoSaid'. A law counts once. -/
mutual
def uptoBulk {H : Type} : DataW H → Nat
  | .lit (.string bytes) => bytes.length + 1
  | .lit _ => 1
  | .nil => 1
  | .ptr d => uptoBulk d + 1
  | .slice elems spare => uptoBulkAll elems + uptoBulkAll spare + 1
  | .agg parts => uptoBulkAll parts + 1
  | .iface _ d => uptoBulk d + 1
  | .map entries => uptoBulkEntries entries + 1
  | .held _ => 1
def uptoBulkAll {H : Type} : List (DataW H) → Nat
  | [] => 0
  | d :: r => uptoBulk d + uptoBulkAll r
def uptoBulkEntries {H : Type} : List (Lit × DataW H) → Nat
  | [] => 0
  | x :: r => uptoBulkEntry x + uptoBulkEntries r
def uptoBulkEntry {H : Type} : Lit × DataW H → Nat
  | (.string bytes, d) => bytes.length + uptoBulk d + 1
  | (_, d) => uptoBulk d + 1
 end
def uptoSmall : (H : Type) → List (DataW H) → Bool := fun _ ds => decide (uptoBulkAll ds ≤ 1048576)
def OpenSpec.upto (s : _root_.Go.ChangeSpec) : _root_.Go.OpenSpec := { _root_.Go.OpenSpec.ofChange s with cond := some uptoSmall }

/-- 'waltzertop.TopGrows', WHERE WHAT IT READS IS OF BULK AT MOST 1048576: true; the input reads as it did. -/
def topGrowsUptoRow : OpenClaim := { program := "ytemklbioijmjiaa", sum := "0faa211dc92ce6ec8301372b7f98d842fa14f5c4b9683ed735b9b9b0ab566642", func := "waltzer/waltzertop.TopGrows", spec := "topGrows", unfollowed := true, recurses := true, plainKeys := false, apart := false, narrowed := true }
def TopGrowsUptoSaid : Prop := topGrowsUptoRow.holds Try.pinned (OpenSpec.upto topGrowsSpec)

/-- 'waltzertop.TopCables', WHERE WHAT IT READS IS OF BULK AT MOST 1048576: true; the input reads as it did. -/
def topCablesUptoRow : OpenClaim := { program := "ytemklbioijmjiaa", sum := "0faa211dc92ce6ec8301372b7f98d842fa14f5c4b9683ed735b9b9b0ab566642", func := "waltzer/waltzertop.TopCables", spec := "topCables", unfollowed := true, recurses := true, plainKeys := false, apart := false, narrowed := true }
def TopCablesUptoSaid : Prop := topCablesUptoRow.holds Try.pinned (OpenSpec.upto topCablesSpec)

/-- 'waltzertop.TopStalls', WHERE WHAT IT READS IS OF BULK AT MOST 1048576: true; the input reads as it did. -/
def topStallsUptoRow : OpenClaim := { program := "ytemklbioijmjiaa", sum := "0faa211dc92ce6ec8301372b7f98d842fa14f5c4b9683ed735b9b9b0ab566642", func := "waltzer/waltzertop.TopStalls", spec := "topStalls", unfollowed := true, recurses := true, plainKeys := false, apart := false, narrowed := true }
def TopStallsUptoSaid : Prop := topStallsUptoRow.holds Try.pinned (OpenSpec.upto topStallsSpec)

/-- 'waltzertop.TopPins', WHERE WHAT IT READS IS OF BULK AT MOST 1048576: true; the input reads as it did. -/
def topPinsUptoRow : OpenClaim := { program := "ytemklbioijmjiaa", sum := "0faa211dc92ce6ec8301372b7f98d842fa14f5c4b9683ed735b9b9b0ab566642", func := "waltzer/waltzertop.TopPins", spec := "topPins", unfollowed := true, recurses := true, plainKeys := false, apart := false, narrowed := true }
def TopPinsUptoSaid : Prop := topPinsUptoRow.holds Try.pinned (OpenSpec.upto topPinsSpec)

/-- 'waltzertop.TopDefects', WHERE WHAT IT READS IS OF BULK AT MOST 1048576: true; the input reads as it did. -/
def topDefectsUptoRow : OpenClaim := { program := "ytemklbioijmjiaa", sum := "0faa211dc92ce6ec8301372b7f98d842fa14f5c4b9683ed735b9b9b0ab566642", func := "waltzer/waltzertop.TopDefects", spec := "topDefects", unfollowed := true, recurses := true, plainKeys := false, apart := false, narrowed := true }
def TopDefectsUptoSaid : Prop := topDefectsUptoRow.holds Try.pinned (OpenSpec.upto topDefectsSpec)

/-- 'waltzertop.TopPrizes', WHERE WHAT IT READS IS OF BULK AT MOST 1048576: true; the input reads as it did. -/
def topPrizesUptoRow : OpenClaim := { program := "ytemklbioijmjiaa", sum := "0faa211dc92ce6ec8301372b7f98d842fa14f5c4b9683ed735b9b9b0ab566642", func := "waltzer/waltzertop.TopPrizes", spec := "topPrizes", unfollowed := true, recurses := true, plainKeys := false, apart := false, narrowed := true }
def TopPrizesUptoSaid : Prop := topPrizesUptoRow.holds Try.pinned (OpenSpec.upto topPrizesSpec)

/-- 'waltzertop.TopBlocked', WHERE WHAT IT READS IS OF BULK AT MOST 1048576: true; the input reads as it did. -/
def topBlockedUptoRow : OpenClaim := { program := "ytemklbioijmjiaa", sum := "0faa211dc92ce6ec8301372b7f98d842fa14f5c4b9683ed735b9b9b0ab566642", func := "waltzer/waltzertop.TopBlocked", spec := "topBlocked", unfollowed := true, recurses := true, plainKeys := false, apart := false, narrowed := true }
def TopBlockedUptoSaid : Prop := topBlockedUptoRow.holds Try.pinned (OpenSpec.upto topBlockedSpec)

/-- 'waltzertop.TopTills', WHERE WHAT IT READS IS OF BULK AT MOST 1048576: true; the input reads as it did. -/
def topTillsUptoRow : OpenClaim := { program := "ytemklbioijmjiaa", sum := "0faa211dc92ce6ec8301372b7f98d842fa14f5c4b9683ed735b9b9b0ab566642", func := "waltzer/waltzertop.TopTills", spec := "topTills", unfollowed := true, recurses := true, plainKeys := false, apart := false, narrowed := true }
def TopTillsUptoSaid : Prop := topTillsUptoRow.holds Try.pinned (OpenSpec.upto topTillsSpec)

/-- 'waltzertop.TopFuel', WHERE WHAT IT READS IS OF BULK AT MOST 1048576: true; the input reads as it did. -/
def topFuelUptoRow : OpenClaim := { program := "ytemklbioijmjiaa", sum := "0faa211dc92ce6ec8301372b7f98d842fa14f5c4b9683ed735b9b9b0ab566642", func := "waltzer/waltzertop.TopFuel", spec := "topFuel", unfollowed := true, recurses := true, plainKeys := false, apart := false, narrowed := true }
def TopFuelUptoSaid : Prop := topFuelUptoRow.holds Try.pinned (OpenSpec.upto topFuelSpec)

end Rows
end Go.Proofs.Ytemklbioijmjiaa
