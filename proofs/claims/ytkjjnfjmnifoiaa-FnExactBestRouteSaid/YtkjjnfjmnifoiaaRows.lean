/-
  No cell of these rows narrows 'for every input' (looked for: loops, veiled, ifaces, maps, wideKeys, modest, calm, conditions, laid).
  DERIVED. THE GIVEN ROWS OF THIS SEAT. 10 by the template 'for every input the law returns true; each argument reads behind the call as it read before'; 0 by the template 'total and deterministic' (their statements: YtkjjnfjmnifoiaaTotals.lean).
  GIVEN WITH THE SEED: the statements are not yours to turn. If you find one false, say at which input.
  Laid BY PROGRAM, IN A SANDBOX (cutbox-rows.mjs): the forced cells as the released guide's own fill.sh prints them over the translation ee965449ccf5ff13… (all of the seat's roots in one cut). By AI agents, Wed Nov 11 2026. No macro, syntax, notation, axiom, sorry.
-/
import Derived.Test.YtkjjnfjmnifoiaaChecked
import GoSem.Claim
import GoSem.ClaimJoined
import GoSem.ClaimMapViews
import Derived.JoinedTies
import Derived.KernelRfl
namespace Go.Proofs.Ytkjjnfjmnifoiaa
/- THE CELL 'sum', in the pinned program and in every row, IS THE sha256 OF THE DUMP (.gsa) THAT YtkjjnfjmnifoiaaProg.lean LOADS. Nothing in Lean hashes anything: it is a label: what it is worth is what the hold of that sum in a sandbox is worth. -/
noncomputable def Try.pinned : Pinned := { name := "ytkjjnfjmnifoiaa", sum := "ee965449ccf5ff139b0090e0ea2bfe26864f2cc8e6b5c2cd347010e37fd6500d", checked := Try.checked }
namespace Rows
def none {H : Type} : Left H := { results := [], args := [] }

/-- 'laws.FnRoutes': WHATEVER THE INPUT: true; the input reads as it did. -/
def fnRoutesSpec : ChangeSpec := { name := "fnRoutes", fn := fun _ => fun
  | [d] => { results := [.lit (.bool true)], args := [d] }
  | _ => none }
def fnRoutesRow : OpenClaim := { program := "ytkjjnfjmnifoiaa", sum := "ee965449ccf5ff139b0090e0ea2bfe26864f2cc8e6b5c2cd347010e37fd6500d", func := "loop.example/g00933/laws.FnRoutes", spec := "fnRoutes", unfollowed := true, recurses := true, apart := false }
def FnRoutesSaid : Prop := fnRoutesRow.holds Try.pinned (OpenSpec.ofChange fnRoutesSpec)

/-- ITS FALSE NEIGHBOUR: 'it returns false'. Refute it at one input. -/
def fnRoutesWrong : ChangeSpec := { name := "fnRoutes", fn := fun _ => fun
  | [d] => { results := [.lit (.bool false)], args := [d] }
  | _ => none }
def FnRoutesWrongFalsely : Prop := fnRoutesRow.holds Try.pinned (OpenSpec.ofChange fnRoutesWrong)

/-- 'laws.FnExactAreWidths': WHATEVER THE INPUT: true; the input reads as it did. -/
def fnExactAreWidthsSpec : ChangeSpec := { name := "fnExactAreWidths", fn := fun _ => fun
  | [d1, d2] => { results := [.lit (.bool true)], args := [d1, d2] }
  | _ => none }
def fnExactAreWidthsRow : OpenClaim := { program := "ytkjjnfjmnifoiaa", sum := "ee965449ccf5ff139b0090e0ea2bfe26864f2cc8e6b5c2cd347010e37fd6500d", func := "loop.example/g00933/laws.FnExactAreWidths", spec := "fnExactAreWidths", unfollowed := true, recurses := true, apart := false }
def FnExactAreWidthsSaid : Prop := fnExactAreWidthsRow.holds Try.pinned (OpenSpec.ofChange fnExactAreWidthsSpec)

/-- ITS FALSE NEIGHBOUR: 'it returns false'. Refute it at one input. -/
def fnExactAreWidthsWrong : ChangeSpec := { name := "fnExactAreWidths", fn := fun _ => fun
  | [d1, d2] => { results := [.lit (.bool false)], args := [d1, d2] }
  | _ => none }
def FnExactAreWidthsWrongFalsely : Prop := fnExactAreWidthsRow.holds Try.pinned (OpenSpec.ofChange fnExactAreWidthsWrong)

/-- 'laws.FnExactGreatestWidth': WHATEVER THE INPUT: true; the input reads as it did. -/
def fnExactGreatestWidthSpec : ChangeSpec := { name := "fnExactGreatestWidth", fn := fun _ => fun
  | [d1, d2, d3, d4] => { results := [.lit (.bool true)], args := [d1, d2, d3, d4] }
  | _ => none }
def fnExactGreatestWidthRow : OpenClaim := { program := "ytkjjnfjmnifoiaa", sum := "ee965449ccf5ff139b0090e0ea2bfe26864f2cc8e6b5c2cd347010e37fd6500d", func := "loop.example/g00933/laws.FnExactGreatestWidth", spec := "fnExactGreatestWidth", unfollowed := true, recurses := true, apart := false }
def FnExactGreatestWidthSaid : Prop := fnExactGreatestWidthRow.holds Try.pinned (OpenSpec.ofChange fnExactGreatestWidthSpec)

/-- ITS FALSE NEIGHBOUR: 'it returns false'. Refute it at one input. -/
def fnExactGreatestWidthWrong : ChangeSpec := { name := "fnExactGreatestWidth", fn := fun _ => fun
  | [d1, d2, d3, d4] => { results := [.lit (.bool false)], args := [d1, d2, d3, d4] }
  | _ => none }
def FnExactGreatestWidthWrongFalsely : Prop := fnExactGreatestWidthRow.holds Try.pinned (OpenSpec.ofChange fnExactGreatestWidthWrong)

/-- 'laws.FnExactStationsFor': WHATEVER THE INPUT: true; the input reads as it did. -/
def fnExactStationsForSpec : ChangeSpec := { name := "fnExactStationsFor", fn := fun _ => fun
  | [d1, d2, d3, d4] => { results := [.lit (.bool true)], args := [d1, d2, d3, d4] }
  | _ => none }
def fnExactStationsForRow : OpenClaim := { program := "ytkjjnfjmnifoiaa", sum := "ee965449ccf5ff139b0090e0ea2bfe26864f2cc8e6b5c2cd347010e37fd6500d", func := "loop.example/g00933/laws.FnExactStationsFor", spec := "fnExactStationsFor", unfollowed := true, recurses := true, apart := false }
def FnExactStationsForSaid : Prop := fnExactStationsForRow.holds Try.pinned (OpenSpec.ofChange fnExactStationsForSpec)

/-- ITS FALSE NEIGHBOUR: 'it returns false'. Refute it at one input. -/
def fnExactStationsForWrong : ChangeSpec := { name := "fnExactStationsFor", fn := fun _ => fun
  | [d1, d2, d3, d4] => { results := [.lit (.bool false)], args := [d1, d2, d3, d4] }
  | _ => none }
def FnExactStationsForWrongFalsely : Prop := fnExactStationsForRow.holds Try.pinned (OpenSpec.ofChange fnExactStationsForWrong)

/-- 'laws.FnExactRouteLength': WHATEVER THE INPUT: true; the input reads as it did. -/
def fnExactRouteLengthSpec : ChangeSpec := { name := "fnExactRouteLength", fn := fun _ => fun
  | [d1, d2, d3] => { results := [.lit (.bool true)], args := [d1, d2, d3] }
  | _ => none }
def fnExactRouteLengthRow : OpenClaim := { program := "ytkjjnfjmnifoiaa", sum := "ee965449ccf5ff139b0090e0ea2bfe26864f2cc8e6b5c2cd347010e37fd6500d", func := "loop.example/g00933/laws.FnExactRouteLength", spec := "fnExactRouteLength", unfollowed := true, recurses := true, apart := false }
def FnExactRouteLengthSaid : Prop := fnExactRouteLengthRow.holds Try.pinned (OpenSpec.ofChange fnExactRouteLengthSpec)

/-- ITS FALSE NEIGHBOUR: 'it returns false'. Refute it at one input. -/
def fnExactRouteLengthWrong : ChangeSpec := { name := "fnExactRouteLength", fn := fun _ => fun
  | [d1, d2, d3] => { results := [.lit (.bool false)], args := [d1, d2, d3] }
  | _ => none }
def FnExactRouteLengthWrongFalsely : Prop := fnExactRouteLengthRow.holds Try.pinned (OpenSpec.ofChange fnExactRouteLengthWrong)

/-- 'laws.FnExactRouteWidth': WHATEVER THE INPUT: true; the input reads as it did. -/
def fnExactRouteWidthSpec : ChangeSpec := { name := "fnExactRouteWidth", fn := fun _ => fun
  | [d1, d2, d3] => { results := [.lit (.bool true)], args := [d1, d2, d3] }
  | _ => none }
def fnExactRouteWidthRow : OpenClaim := { program := "ytkjjnfjmnifoiaa", sum := "ee965449ccf5ff139b0090e0ea2bfe26864f2cc8e6b5c2cd347010e37fd6500d", func := "loop.example/g00933/laws.FnExactRouteWidth", spec := "fnExactRouteWidth", unfollowed := true, recurses := true, apart := false }
def FnExactRouteWidthSaid : Prop := fnExactRouteWidthRow.holds Try.pinned (OpenSpec.ofChange fnExactRouteWidthSpec)

/-- ITS FALSE NEIGHBOUR: 'it returns false'. Refute it at one input. -/
def fnExactRouteWidthWrong : ChangeSpec := { name := "fnExactRouteWidth", fn := fun _ => fun
  | [d1, d2, d3] => { results := [.lit (.bool false)], args := [d1, d2, d3] }
  | _ => none }
def FnExactRouteWidthWrongFalsely : Prop := fnExactRouteWidthRow.holds Try.pinned (OpenSpec.ofChange fnExactRouteWidthWrong)

/-- 'laws.FnExactNarrowPlaces': WHATEVER THE INPUT: true; the input reads as it did. -/
def fnExactNarrowPlacesSpec : ChangeSpec := { name := "fnExactNarrowPlaces", fn := fun _ => fun
  | [d1, d2, d3, d4] => { results := [.lit (.bool true)], args := [d1, d2, d3, d4] }
  | _ => none }
def fnExactNarrowPlacesRow : OpenClaim := { program := "ytkjjnfjmnifoiaa", sum := "ee965449ccf5ff139b0090e0ea2bfe26864f2cc8e6b5c2cd347010e37fd6500d", func := "loop.example/g00933/laws.FnExactNarrowPlaces", spec := "fnExactNarrowPlaces", unfollowed := true, recurses := true, apart := false }
def FnExactNarrowPlacesSaid : Prop := fnExactNarrowPlacesRow.holds Try.pinned (OpenSpec.ofChange fnExactNarrowPlacesSpec)

/-- ITS FALSE NEIGHBOUR: 'it returns false'. Refute it at one input. -/
def fnExactNarrowPlacesWrong : ChangeSpec := { name := "fnExactNarrowPlaces", fn := fun _ => fun
  | [d1, d2, d3, d4] => { results := [.lit (.bool false)], args := [d1, d2, d3, d4] }
  | _ => none }
def FnExactNarrowPlacesWrongFalsely : Prop := fnExactNarrowPlacesRow.holds Try.pinned (OpenSpec.ofChange fnExactNarrowPlacesWrong)

/-- 'laws.FnExactBestRoute': WHATEVER THE INPUT: true; the input reads as it did. -/
def fnExactBestRouteSpec : ChangeSpec := { name := "fnExactBestRoute", fn := fun _ => fun
  | [d1, d2, d3, d4, d5] => { results := [.lit (.bool true)], args := [d1, d2, d3, d4, d5] }
  | _ => none }
def fnExactBestRouteRow : OpenClaim := { program := "ytkjjnfjmnifoiaa", sum := "ee965449ccf5ff139b0090e0ea2bfe26864f2cc8e6b5c2cd347010e37fd6500d", func := "loop.example/g00933/laws.FnExactBestRoute", spec := "fnExactBestRoute", unfollowed := true, recurses := true, apart := false }
def FnExactBestRouteSaid : Prop := fnExactBestRouteRow.holds Try.pinned (OpenSpec.ofChange fnExactBestRouteSpec)

/-- ITS FALSE NEIGHBOUR: 'it returns false'. Refute it at one input. -/
def fnExactBestRouteWrong : ChangeSpec := { name := "fnExactBestRoute", fn := fun _ => fun
  | [d1, d2, d3, d4, d5] => { results := [.lit (.bool false)], args := [d1, d2, d3, d4, d5] }
  | _ => none }
def FnExactBestRouteWrongFalsely : Prop := fnExactBestRouteRow.holds Try.pinned (OpenSpec.ofChange fnExactBestRouteWrong)

/-- 'laws.FnExactRescueOrder': WHATEVER THE INPUT: true; the input reads as it did. -/
def fnExactRescueOrderSpec : ChangeSpec := { name := "fnExactRescueOrder", fn := fun _ => fun
  | [d1, d2, d3, d4] => { results := [.lit (.bool true)], args := [d1, d2, d3, d4] }
  | _ => none }
def fnExactRescueOrderRow : OpenClaim := { program := "ytkjjnfjmnifoiaa", sum := "ee965449ccf5ff139b0090e0ea2bfe26864f2cc8e6b5c2cd347010e37fd6500d", func := "loop.example/g00933/laws.FnExactRescueOrder", spec := "fnExactRescueOrder", unfollowed := true, recurses := true, apart := false }
def FnExactRescueOrderSaid : Prop := fnExactRescueOrderRow.holds Try.pinned (OpenSpec.ofChange fnExactRescueOrderSpec)

/-- ITS FALSE NEIGHBOUR: 'it returns false'. Refute it at one input. -/
def fnExactRescueOrderWrong : ChangeSpec := { name := "fnExactRescueOrder", fn := fun _ => fun
  | [d1, d2, d3, d4] => { results := [.lit (.bool false)], args := [d1, d2, d3, d4] }
  | _ => none }
def FnExactRescueOrderWrongFalsely : Prop := fnExactRescueOrderRow.holds Try.pinned (OpenSpec.ofChange fnExactRescueOrderWrong)

/-- 'laws.FnRescues': WHATEVER THE INPUT: true; the input reads as it did. -/
def fnRescuesSpec : ChangeSpec := { name := "fnRescues", fn := fun _ => fun
  | [d] => { results := [.lit (.bool true)], args := [d] }
  | _ => none }
def fnRescuesRow : OpenClaim := { program := "ytkjjnfjmnifoiaa", sum := "ee965449ccf5ff139b0090e0ea2bfe26864f2cc8e6b5c2cd347010e37fd6500d", func := "loop.example/g00933/laws.FnRescues", spec := "fnRescues", unfollowed := true, recurses := true, apart := false }
def FnRescuesSaid : Prop := fnRescuesRow.holds Try.pinned (OpenSpec.ofChange fnRescuesSpec)

/-- ITS FALSE NEIGHBOUR: 'it returns false'. Refute it at one input. -/
def fnRescuesWrong : ChangeSpec := { name := "fnRescues", fn := fun _ => fun
  | [d] => { results := [.lit (.bool false)], args := [d] }
  | _ => none }
def FnRescuesWrongFalsely : Prop := fnRescuesRow.holds Try.pinned (OpenSpec.ofChange fnRescuesWrong)

/- THE SECOND FORM. 'bulk': how many values and letters a reading holds, each counted each time it is reached (what is shared counts as often as it is met; a slice's spare places count too). A statement '..UptoSaid' is the law's where the arguments, and the package variables that the reading takes, are together of bulk at most 1048576: NARROWER than '..Said'. Prove '..Said' where nothing that the law and all that it calls make is longer than what came in: it says more and counts as full. Else prove '..UptoSaid'. A law counts once. -/
mutual
def uptoBulk {H : Type} : DataW H → Nat
  | .lit (.string bytes) => bytes.length + 1
  | .lit _ => 1
  | .nil => 1
  | .ptr d => uptoBulk d + 1
  | .slice elems spare => uptoBulkAll elems + uptoBulkAll spare + 1
  | .agg parts => uptoBulkAll parts + 1
  | .iface _ d => uptoBulk d + 1
  | .map entries => uptoBulkEntries entries + 1
  | .held _ => 1
def uptoBulkAll {H : Type} : List (DataW H) → Nat
  | [] => 0
  | d :: r => uptoBulk d + uptoBulkAll r
def uptoBulkEntries {H : Type} : List (Lit × DataW H) → Nat
  | [] => 0
  | x :: r => uptoBulkEntry x + uptoBulkEntries r
def uptoBulkEntry {H : Type} : Lit × DataW H → Nat
  | (.string bytes, d) => bytes.length + uptoBulk d + 1
  | (_, d) => uptoBulk d + 1
 end
def uptoSmall : (H : Type) → List (DataW H) → Bool := fun _ ds => decide (uptoBulkAll ds ≤ 1048576)
def OpenSpec.upto (s : _root_.Go.ChangeSpec) : _root_.Go.OpenSpec := { _root_.Go.OpenSpec.ofChange s with cond := some uptoSmall }

/-- 'laws.FnRoutes', WHERE WHAT IT READS IS OF BULK AT MOST 1048576: true; the input reads as it did. -/
def fnRoutesUptoRow : OpenClaim := { program := "ytkjjnfjmnifoiaa", sum := "ee965449ccf5ff139b0090e0ea2bfe26864f2cc8e6b5c2cd347010e37fd6500d", func := "loop.example/g00933/laws.FnRoutes", spec := "fnRoutes", unfollowed := true, recurses := true, apart := false, narrowed := true }
def FnRoutesUptoSaid : Prop := fnRoutesUptoRow.holds Try.pinned (OpenSpec.upto fnRoutesSpec)

/-- 'laws.FnExactAreWidths', WHERE WHAT IT READS IS OF BULK AT MOST 1048576: true; the input reads as it did. -/
def fnExactAreWidthsUptoRow : OpenClaim := { program := "ytkjjnfjmnifoiaa", sum := "ee965449ccf5ff139b0090e0ea2bfe26864f2cc8e6b5c2cd347010e37fd6500d", func := "loop.example/g00933/laws.FnExactAreWidths", spec := "fnExactAreWidths", unfollowed := true, recurses := true, apart := false, narrowed := true }
def FnExactAreWidthsUptoSaid : Prop := fnExactAreWidthsUptoRow.holds Try.pinned (OpenSpec.upto fnExactAreWidthsSpec)

/-- 'laws.FnExactGreatestWidth', WHERE WHAT IT READS IS OF BULK AT MOST 1048576: true; the input reads as it did. -/
def fnExactGreatestWidthUptoRow : OpenClaim := { program := "ytkjjnfjmnifoiaa", sum := "ee965449ccf5ff139b0090e0ea2bfe26864f2cc8e6b5c2cd347010e37fd6500d", func := "loop.example/g00933/laws.FnExactGreatestWidth", spec := "fnExactGreatestWidth", unfollowed := true, recurses := true, apart := false, narrowed := true }
def FnExactGreatestWidthUptoSaid : Prop := fnExactGreatestWidthUptoRow.holds Try.pinned (OpenSpec.upto fnExactGreatestWidthSpec)

/-- 'laws.FnExactStationsFor', WHERE WHAT IT READS IS OF BULK AT MOST 1048576: true; the input reads as it did. -/
def fnExactStationsForUptoRow : OpenClaim := { program := "ytkjjnfjmnifoiaa", sum := "ee965449ccf5ff139b0090e0ea2bfe26864f2cc8e6b5c2cd347010e37fd6500d", func := "loop.example/g00933/laws.FnExactStationsFor", spec := "fnExactStationsFor", unfollowed := true, recurses := true, apart := false, narrowed := true }
def FnExactStationsForUptoSaid : Prop := fnExactStationsForUptoRow.holds Try.pinned (OpenSpec.upto fnExactStationsForSpec)

/-- 'laws.FnExactRouteLength', WHERE WHAT IT READS IS OF BULK AT MOST 1048576: true; the input reads as it did. -/
def fnExactRouteLengthUptoRow : OpenClaim := { program := "ytkjjnfjmnifoiaa", sum := "ee965449ccf5ff139b0090e0ea2bfe26864f2cc8e6b5c2cd347010e37fd6500d", func := "loop.example/g00933/laws.FnExactRouteLength", spec := "fnExactRouteLength", unfollowed := true, recurses := true, apart := false, narrowed := true }
def FnExactRouteLengthUptoSaid : Prop := fnExactRouteLengthUptoRow.holds Try.pinned (OpenSpec.upto fnExactRouteLengthSpec)

/-- 'laws.FnExactRouteWidth', WHERE WHAT IT READS IS OF BULK AT MOST 1048576: true; the input reads as it did. -/
def fnExactRouteWidthUptoRow : OpenClaim := { program := "ytkjjnfjmnifoiaa", sum := "ee965449ccf5ff139b0090e0ea2bfe26864f2cc8e6b5c2cd347010e37fd6500d", func := "loop.example/g00933/laws.FnExactRouteWidth", spec := "fnExactRouteWidth", unfollowed := true, recurses := true, apart := false, narrowed := true }
def FnExactRouteWidthUptoSaid : Prop := fnExactRouteWidthUptoRow.holds Try.pinned (OpenSpec.upto fnExactRouteWidthSpec)

/-- 'laws.FnExactNarrowPlaces', WHERE WHAT IT READS IS OF BULK AT MOST 1048576: true; the input reads as it did. -/
def fnExactNarrowPlacesUptoRow : OpenClaim := { program := "ytkjjnfjmnifoiaa", sum := "ee965449ccf5ff139b0090e0ea2bfe26864f2cc8e6b5c2cd347010e37fd6500d", func := "loop.example/g00933/laws.FnExactNarrowPlaces", spec := "fnExactNarrowPlaces", unfollowed := true, recurses := true, apart := false, narrowed := true }
def FnExactNarrowPlacesUptoSaid : Prop := fnExactNarrowPlacesUptoRow.holds Try.pinned (OpenSpec.upto fnExactNarrowPlacesSpec)

/-- 'laws.FnExactBestRoute', WHERE WHAT IT READS IS OF BULK AT MOST 1048576: true; the input reads as it did. -/
def fnExactBestRouteUptoRow : OpenClaim := { program := "ytkjjnfjmnifoiaa", sum := "ee965449ccf5ff139b0090e0ea2bfe26864f2cc8e6b5c2cd347010e37fd6500d", func := "loop.example/g00933/laws.FnExactBestRoute", spec := "fnExactBestRoute", unfollowed := true, recurses := true, apart := false, narrowed := true }
def FnExactBestRouteUptoSaid : Prop := fnExactBestRouteUptoRow.holds Try.pinned (OpenSpec.upto fnExactBestRouteSpec)

/-- 'laws.FnExactRescueOrder', WHERE WHAT IT READS IS OF BULK AT MOST 1048576: true; the input reads as it did. -/
def fnExactRescueOrderUptoRow : OpenClaim := { program := "ytkjjnfjmnifoiaa", sum := "ee965449ccf5ff139b0090e0ea2bfe26864f2cc8e6b5c2cd347010e37fd6500d", func := "loop.example/g00933/laws.FnExactRescueOrder", spec := "fnExactRescueOrder", unfollowed := true, recurses := true, apart := false, narrowed := true }
def FnExactRescueOrderUptoSaid : Prop := fnExactRescueOrderUptoRow.holds Try.pinned (OpenSpec.upto fnExactRescueOrderSpec)

/-- 'laws.FnRescues', WHERE WHAT IT READS IS OF BULK AT MOST 1048576: true; the input reads as it did. -/
def fnRescuesUptoRow : OpenClaim := { program := "ytkjjnfjmnifoiaa", sum := "ee965449ccf5ff139b0090e0ea2bfe26864f2cc8e6b5c2cd347010e37fd6500d", func := "loop.example/g00933/laws.FnRescues", spec := "fnRescues", unfollowed := true, recurses := true, apart := false, narrowed := true }
def FnRescuesUptoSaid : Prop := fnRescuesUptoRow.holds Try.pinned (OpenSpec.upto fnRescuesSpec)

end Rows
end Go.Proofs.Ytkjjnfjmnifoiaa
