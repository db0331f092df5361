/-
  No cell of these rows narrows 'for every input' (looked for: loops, veiled, ifaces, maps, wideKeys, modest, calm, conditions, laid).
  DERIVED. THE GIVEN ROWS OF THIS SEAT. 12 by the template 'for every input the law returns true; each argument reads behind the call as it read before'; 0 by the template 'total and deterministic' (their statements: YtknjpfjmkgfpdaaTotals.lean).
  GIVEN WITH THE SEED: the statements are not yours to turn. If you find one false, say at which input.
  Laid BY PROGRAM, IN A SANDBOX (cutbox-rows.mjs): the forced cells as the released guide's own fill.sh prints them over the translation d6470524ed7b9596… (all of the seat's roots in one cut). By AI agents, Wed Nov 11 2026. No macro, syntax, notation, axiom, sorry.
-/
import Derived.Test.YtknjpfjmkgfpdaaChecked
import GoSem.Claim
import GoSem.ClaimJoined
import GoSem.ClaimMapViews
import Derived.JoinedTies
import Derived.KernelRfl
namespace Go.Proofs.Ytknjpfjmkgfpdaa
/- THE CELL 'sum', in the pinned program and in every row, IS THE sha256 OF THE DUMP (.gsa) THAT YtknjpfjmkgfpdaaProg.lean LOADS. Nothing in Lean hashes anything: it is a label: what it is worth is what the hold of that sum in a sandbox is worth. -/
noncomputable def Try.pinned : Pinned := { name := "ytknjpfjmkgfpdaa", sum := "d6470524ed7b9596670c5b57846024883c8abdb69cd96040204ceee64e2587e9", checked := Try.checked }
namespace Rows
def none {H : Type} : Left H := { results := [], args := [] }

/-- 'laws.FnExactNeedFor': WHATEVER THE INPUT: true; the input reads as it did. -/
def fnExactNeedForSpec : ChangeSpec := { name := "fnExactNeedFor", fn := fun _ => fun
  | [d] => { results := [.lit (.bool true)], args := [d] }
  | _ => none }
def fnExactNeedForRow : OpenClaim := { program := "ytknjpfjmkgfpdaa", sum := "d6470524ed7b9596670c5b57846024883c8abdb69cd96040204ceee64e2587e9", func := "loop.example/g00933/laws.FnExactNeedFor", spec := "fnExactNeedFor", apart := false }
def FnExactNeedForSaid : Prop := fnExactNeedForRow.holds Try.pinned (OpenSpec.ofChange fnExactNeedForSpec)

/-- ITS FALSE NEIGHBOUR: 'it returns false'. Refute it at one input. -/
def fnExactNeedForWrong : ChangeSpec := { name := "fnExactNeedFor", fn := fun _ => fun
  | [d] => { results := [.lit (.bool false)], args := [d] }
  | _ => none }
def FnExactNeedForWrongFalsely : Prop := fnExactNeedForRow.holds Try.pinned (OpenSpec.ofChange fnExactNeedForWrong)

/-- 'laws.FnExactAnchorsFor': WHATEVER THE INPUT: true; the input reads as it did. -/
def fnExactAnchorsForSpec : ChangeSpec := { name := "fnExactAnchorsFor", fn := fun _ => fun
  | [d1, d2] => { results := [.lit (.bool true)], args := [d1, d2] }
  | _ => none }
def fnExactAnchorsForRow : OpenClaim := { program := "ytknjpfjmkgfpdaa", sum := "d6470524ed7b9596670c5b57846024883c8abdb69cd96040204ceee64e2587e9", func := "loop.example/g00933/laws.FnExactAnchorsFor", spec := "fnExactAnchorsFor", apart := false }
def FnExactAnchorsForSaid : Prop := fnExactAnchorsForRow.holds Try.pinned (OpenSpec.ofChange fnExactAnchorsForSpec)

/-- ITS FALSE NEIGHBOUR: 'it returns false'. Refute it at one input. -/
def fnExactAnchorsForWrong : ChangeSpec := { name := "fnExactAnchorsFor", fn := fun _ => fun
  | [d1, d2] => { results := [.lit (.bool false)], args := [d1, d2] }
  | _ => none }
def FnExactAnchorsForWrongFalsely : Prop := fnExactAnchorsForRow.holds Try.pinned (OpenSpec.ofChange fnExactAnchorsForWrong)

/-- 'laws.FnExactAreRopes': WHATEVER THE INPUT: true; the input reads as it did. -/
def fnExactAreRopesSpec : ChangeSpec := { name := "fnExactAreRopes", fn := fun _ => fun
  | [d] => { results := [.lit (.bool true)], args := [d] }
  | _ => none }
def fnExactAreRopesRow : OpenClaim := { program := "ytknjpfjmkgfpdaa", sum := "d6470524ed7b9596670c5b57846024883c8abdb69cd96040204ceee64e2587e9", func := "loop.example/g00933/laws.FnExactAreRopes", spec := "fnExactAreRopes", unfollowed := true, recurses := true, apart := false }
def FnExactAreRopesSaid : Prop := fnExactAreRopesRow.holds Try.pinned (OpenSpec.ofChange fnExactAreRopesSpec)

/-- ITS FALSE NEIGHBOUR: 'it returns false'. Refute it at one input. -/
def fnExactAreRopesWrong : ChangeSpec := { name := "fnExactAreRopes", fn := fun _ => fun
  | [d] => { results := [.lit (.bool false)], args := [d] }
  | _ => none }
def FnExactAreRopesWrongFalsely : Prop := fnExactAreRopesRow.holds Try.pinned (OpenSpec.ofChange fnExactAreRopesWrong)

/-- 'laws.FnExactArePitches': WHATEVER THE INPUT: true; the input reads as it did. -/
def fnExactArePitchesSpec : ChangeSpec := { name := "fnExactArePitches", fn := fun _ => fun
  | [d] => { results := [.lit (.bool true)], args := [d] }
  | _ => none }
def fnExactArePitchesRow : OpenClaim := { program := "ytknjpfjmkgfpdaa", sum := "d6470524ed7b9596670c5b57846024883c8abdb69cd96040204ceee64e2587e9", func := "loop.example/g00933/laws.FnExactArePitches", spec := "fnExactArePitches", unfollowed := true, recurses := true, apart := false }
def FnExactArePitchesSaid : Prop := fnExactArePitchesRow.holds Try.pinned (OpenSpec.ofChange fnExactArePitchesSpec)

/-- ITS FALSE NEIGHBOUR: 'it returns false'. Refute it at one input. -/
def fnExactArePitchesWrong : ChangeSpec := { name := "fnExactArePitches", fn := fun _ => fun
  | [d] => { results := [.lit (.bool false)], args := [d] }
  | _ => none }
def FnExactArePitchesWrongFalsely : Prop := fnExactArePitchesRow.holds Try.pinned (OpenSpec.ofChange fnExactArePitchesWrong)

/-- 'laws.FnExactTotalDepth': WHATEVER THE INPUT: true; the input reads as it did. -/
def fnExactTotalDepthSpec : ChangeSpec := { name := "fnExactTotalDepth", fn := fun _ => fun
  | [d] => { results := [.lit (.bool true)], args := [d] }
  | _ => none }
def fnExactTotalDepthRow : OpenClaim := { program := "ytknjpfjmkgfpdaa", sum := "d6470524ed7b9596670c5b57846024883c8abdb69cd96040204ceee64e2587e9", func := "loop.example/g00933/laws.FnExactTotalDepth", spec := "fnExactTotalDepth", unfollowed := true, recurses := true, apart := false }
def FnExactTotalDepthSaid : Prop := fnExactTotalDepthRow.holds Try.pinned (OpenSpec.ofChange fnExactTotalDepthSpec)

/-- ITS FALSE NEIGHBOUR: 'it returns false'. Refute it at one input. -/
def fnExactTotalDepthWrong : ChangeSpec := { name := "fnExactTotalDepth", fn := fun _ => fun
  | [d] => { results := [.lit (.bool false)], args := [d] }
  | _ => none }
def FnExactTotalDepthWrongFalsely : Prop := fnExactTotalDepthRow.holds Try.pinned (OpenSpec.ofChange fnExactTotalDepthWrong)

/-- 'laws.FnExactTiedPair': WHATEVER THE INPUT: true; the input reads as it did. -/
def fnExactTiedPairSpec : ChangeSpec := { name := "fnExactTiedPair", fn := fun _ => fun
  | [d1, d2] => { results := [.lit (.bool true)], args := [d1, d2] }
  | _ => none }
def fnExactTiedPairRow : OpenClaim := { program := "ytknjpfjmkgfpdaa", sum := "d6470524ed7b9596670c5b57846024883c8abdb69cd96040204ceee64e2587e9", func := "loop.example/g00933/laws.FnExactTiedPair", spec := "fnExactTiedPair", unfollowed := true, recurses := true, apart := false }
def FnExactTiedPairSaid : Prop := fnExactTiedPairRow.holds Try.pinned (OpenSpec.ofChange fnExactTiedPairSpec)

/-- ITS FALSE NEIGHBOUR: 'it returns false'. Refute it at one input. -/
def fnExactTiedPairWrong : ChangeSpec := { name := "fnExactTiedPair", fn := fun _ => fun
  | [d1, d2] => { results := [.lit (.bool false)], args := [d1, d2] }
  | _ => none }
def FnExactTiedPairWrongFalsely : Prop := fnExactTiedPairRow.holds Try.pinned (OpenSpec.ofChange fnExactTiedPairWrong)

/-- 'laws.FnExactIsRigging': WHATEVER THE INPUT: true; the input reads as it did. -/
def fnExactIsRiggingSpec : ChangeSpec := { name := "fnExactIsRigging", fn := fun _ => fun
  | [d1, d2, d3] => { results := [.lit (.bool true)], args := [d1, d2, d3] }
  | _ => none }
def fnExactIsRiggingRow : OpenClaim := { program := "ytknjpfjmkgfpdaa", sum := "d6470524ed7b9596670c5b57846024883c8abdb69cd96040204ceee64e2587e9", func := "loop.example/g00933/laws.FnExactIsRigging", spec := "fnExactIsRigging", unfollowed := true, recurses := true, apart := false }
def FnExactIsRiggingSaid : Prop := fnExactIsRiggingRow.holds Try.pinned (OpenSpec.ofChange fnExactIsRiggingSpec)

/-- ITS FALSE NEIGHBOUR: 'it returns false'. Refute it at one input. -/
def fnExactIsRiggingWrong : ChangeSpec := { name := "fnExactIsRigging", fn := fun _ => fun
  | [d1, d2, d3] => { results := [.lit (.bool false)], args := [d1, d2, d3] }
  | _ => none }
def FnExactIsRiggingWrongFalsely : Prop := fnExactIsRiggingRow.holds Try.pinned (OpenSpec.ofChange fnExactIsRiggingWrong)

/-- 'laws.FnExactDeepestFirst': WHATEVER THE INPUT: true; the input reads as it did. -/
def fnExactDeepestFirstSpec : ChangeSpec := { name := "fnExactDeepestFirst", fn := fun _ => fun
  | [d1, d2] => { results := [.lit (.bool true)], args := [d1, d2] }
  | _ => none }
def fnExactDeepestFirstRow : OpenClaim := { program := "ytknjpfjmkgfpdaa", sum := "d6470524ed7b9596670c5b57846024883c8abdb69cd96040204ceee64e2587e9", func := "loop.example/g00933/laws.FnExactDeepestFirst", spec := "fnExactDeepestFirst", unfollowed := true, recurses := true, apart := false }
def FnExactDeepestFirstSaid : Prop := fnExactDeepestFirstRow.holds Try.pinned (OpenSpec.ofChange fnExactDeepestFirstSpec)

/-- ITS FALSE NEIGHBOUR: 'it returns false'. Refute it at one input. -/
def fnExactDeepestFirstWrong : ChangeSpec := { name := "fnExactDeepestFirst", fn := fun _ => fun
  | [d1, d2] => { results := [.lit (.bool false)], args := [d1, d2] }
  | _ => none }
def FnExactDeepestFirstWrongFalsely : Prop := fnExactDeepestFirstRow.holds Try.pinned (OpenSpec.ofChange fnExactDeepestFirstWrong)

/-- 'laws.FnRopes': WHATEVER THE INPUT: true; the input reads as it did. -/
def fnRopesSpec : ChangeSpec := { name := "fnRopes", fn := fun _ => fun
  | [d] => { results := [.lit (.bool true)], args := [d] }
  | _ => none }
def fnRopesRow : OpenClaim := { program := "ytknjpfjmkgfpdaa", sum := "d6470524ed7b9596670c5b57846024883c8abdb69cd96040204ceee64e2587e9", func := "loop.example/g00933/laws.FnRopes", spec := "fnRopes", unfollowed := true, recurses := true, apart := false }
def FnRopesSaid : Prop := fnRopesRow.holds Try.pinned (OpenSpec.ofChange fnRopesSpec)

/-- ITS FALSE NEIGHBOUR: 'it returns false'. Refute it at one input. -/
def fnRopesWrong : ChangeSpec := { name := "fnRopes", fn := fun _ => fun
  | [d] => { results := [.lit (.bool false)], args := [d] }
  | _ => none }
def FnRopesWrongFalsely : Prop := fnRopesRow.holds Try.pinned (OpenSpec.ofChange fnRopesWrong)

/-- 'laws.FnExactSpareRope': WHATEVER THE INPUT: true; the input reads as it did. -/
def fnExactSpareRopeSpec : ChangeSpec := { name := "fnExactSpareRope", fn := fun _ => fun
  | [d1, d2] => { results := [.lit (.bool true)], args := [d1, d2] }
  | _ => none }
def fnExactSpareRopeRow : OpenClaim := { program := "ytknjpfjmkgfpdaa", sum := "d6470524ed7b9596670c5b57846024883c8abdb69cd96040204ceee64e2587e9", func := "loop.example/g00933/laws.FnExactSpareRope", spec := "fnExactSpareRope", unfollowed := true, recurses := true, apart := false }
def FnExactSpareRopeSaid : Prop := fnExactSpareRopeRow.holds Try.pinned (OpenSpec.ofChange fnExactSpareRopeSpec)

/-- ITS FALSE NEIGHBOUR: 'it returns false'. Refute it at one input. -/
def fnExactSpareRopeWrong : ChangeSpec := { name := "fnExactSpareRope", fn := fun _ => fun
  | [d1, d2] => { results := [.lit (.bool false)], args := [d1, d2] }
  | _ => none }
def FnExactSpareRopeWrongFalsely : Prop := fnExactSpareRopeRow.holds Try.pinned (OpenSpec.ofChange fnExactSpareRopeWrong)

/-- 'laws.FnExactBestRigging': WHATEVER THE INPUT: true; the input reads as it did. -/
def fnExactBestRiggingSpec : ChangeSpec := { name := "fnExactBestRigging", fn := fun _ => fun
  | [d1, d2] => { results := [.lit (.bool true)], args := [d1, d2] }
  | _ => none }
def fnExactBestRiggingRow : OpenClaim := { program := "ytknjpfjmkgfpdaa", sum := "d6470524ed7b9596670c5b57846024883c8abdb69cd96040204ceee64e2587e9", func := "loop.example/g00933/laws.FnExactBestRigging", spec := "fnExactBestRigging", unfollowed := true, recurses := true, apart := false }
def FnExactBestRiggingSaid : Prop := fnExactBestRiggingRow.holds Try.pinned (OpenSpec.ofChange fnExactBestRiggingSpec)

/-- ITS FALSE NEIGHBOUR: 'it returns false'. Refute it at one input. -/
def fnExactBestRiggingWrong : ChangeSpec := { name := "fnExactBestRigging", fn := fun _ => fun
  | [d1, d2] => { results := [.lit (.bool false)], args := [d1, d2] }
  | _ => none }
def FnExactBestRiggingWrongFalsely : Prop := fnExactBestRiggingRow.holds Try.pinned (OpenSpec.ofChange fnExactBestRiggingWrong)

/-- 'laws.FnRiggings': WHATEVER THE INPUT: true; the input reads as it did. -/
def fnRiggingsSpec : ChangeSpec := { name := "fnRiggings", fn := fun _ => fun
  | [d] => { results := [.lit (.bool true)], args := [d] }
  | _ => none }
def fnRiggingsRow : OpenClaim := { program := "ytknjpfjmkgfpdaa", sum := "d6470524ed7b9596670c5b57846024883c8abdb69cd96040204ceee64e2587e9", func := "loop.example/g00933/laws.FnRiggings", spec := "fnRiggings", unfollowed := true, recurses := true, apart := false }
def FnRiggingsSaid : Prop := fnRiggingsRow.holds Try.pinned (OpenSpec.ofChange fnRiggingsSpec)

/-- ITS FALSE NEIGHBOUR: 'it returns false'. Refute it at one input. -/
def fnRiggingsWrong : ChangeSpec := { name := "fnRiggings", fn := fun _ => fun
  | [d] => { results := [.lit (.bool false)], args := [d] }
  | _ => none }
def FnRiggingsWrongFalsely : Prop := fnRiggingsRow.holds Try.pinned (OpenSpec.ofChange fnRiggingsWrong)

/- THE SECOND FORM. 'bulk': how many values and letters a reading holds, each counted each time it is reached (what is shared counts as often as it is met; a slice's spare places count too). A statement '..UptoSaid' is the law's where the arguments, and the package variables that the reading takes, are together of bulk at most 1048576: NARROWER than '..Said'. Prove '..Said' where nothing that the law and all that it calls make is longer than what came in: it says more and counts as full. Else prove '..UptoSaid'. A law counts once. -/
mutual
def uptoBulk {H : Type} : DataW H → Nat
  | .lit (.string bytes) => bytes.length + 1
  | .lit _ => 1
  | .nil => 1
  | .ptr d => uptoBulk d + 1
  | .slice elems spare => uptoBulkAll elems + uptoBulkAll spare + 1
  | .agg parts => uptoBulkAll parts + 1
  | .iface _ d => uptoBulk d + 1
  | .map entries => uptoBulkEntries entries + 1
  | .held _ => 1
def uptoBulkAll {H : Type} : List (DataW H) → Nat
  | [] => 0
  | d :: r => uptoBulk d + uptoBulkAll r
def uptoBulkEntries {H : Type} : List (Lit × DataW H) → Nat
  | [] => 0
  | x :: r => uptoBulkEntry x + uptoBulkEntries r
def uptoBulkEntry {H : Type} : Lit × DataW H → Nat
  | (.string bytes, d) => bytes.length + uptoBulk d + 1
  | (_, d) => uptoBulk d + 1
 end
def uptoSmall : (H : Type) → List (DataW H) → Bool := fun _ ds => decide (uptoBulkAll ds ≤ 1048576)
def OpenSpec.upto (s : _root_.Go.ChangeSpec) : _root_.Go.OpenSpec := { _root_.Go.OpenSpec.ofChange s with cond := some uptoSmall }

/-- 'laws.FnExactNeedFor', WHERE WHAT IT READS IS OF BULK AT MOST 1048576: true; the input reads as it did. -/
def fnExactNeedForUptoRow : OpenClaim := { program := "ytknjpfjmkgfpdaa", sum := "d6470524ed7b9596670c5b57846024883c8abdb69cd96040204ceee64e2587e9", func := "loop.example/g00933/laws.FnExactNeedFor", spec := "fnExactNeedFor", apart := false, narrowed := true }
def FnExactNeedForUptoSaid : Prop := fnExactNeedForUptoRow.holds Try.pinned (OpenSpec.upto fnExactNeedForSpec)

/-- 'laws.FnExactAnchorsFor', WHERE WHAT IT READS IS OF BULK AT MOST 1048576: true; the input reads as it did. -/
def fnExactAnchorsForUptoRow : OpenClaim := { program := "ytknjpfjmkgfpdaa", sum := "d6470524ed7b9596670c5b57846024883c8abdb69cd96040204ceee64e2587e9", func := "loop.example/g00933/laws.FnExactAnchorsFor", spec := "fnExactAnchorsFor", apart := false, narrowed := true }
def FnExactAnchorsForUptoSaid : Prop := fnExactAnchorsForUptoRow.holds Try.pinned (OpenSpec.upto fnExactAnchorsForSpec)

/-- 'laws.FnExactAreRopes', WHERE WHAT IT READS IS OF BULK AT MOST 1048576: true; the input reads as it did. -/
def fnExactAreRopesUptoRow : OpenClaim := { program := "ytknjpfjmkgfpdaa", sum := "d6470524ed7b9596670c5b57846024883c8abdb69cd96040204ceee64e2587e9", func := "loop.example/g00933/laws.FnExactAreRopes", spec := "fnExactAreRopes", unfollowed := true, recurses := true, apart := false, narrowed := true }
def FnExactAreRopesUptoSaid : Prop := fnExactAreRopesUptoRow.holds Try.pinned (OpenSpec.upto fnExactAreRopesSpec)

/-- 'laws.FnExactArePitches', WHERE WHAT IT READS IS OF BULK AT MOST 1048576: true; the input reads as it did. -/
def fnExactArePitchesUptoRow : OpenClaim := { program := "ytknjpfjmkgfpdaa", sum := "d6470524ed7b9596670c5b57846024883c8abdb69cd96040204ceee64e2587e9", func := "loop.example/g00933/laws.FnExactArePitches", spec := "fnExactArePitches", unfollowed := true, recurses := true, apart := false, narrowed := true }
def FnExactArePitchesUptoSaid : Prop := fnExactArePitchesUptoRow.holds Try.pinned (OpenSpec.upto fnExactArePitchesSpec)

/-- 'laws.FnExactTotalDepth', WHERE WHAT IT READS IS OF BULK AT MOST 1048576: true; the input reads as it did. -/
def fnExactTotalDepthUptoRow : OpenClaim := { program := "ytknjpfjmkgfpdaa", sum := "d6470524ed7b9596670c5b57846024883c8abdb69cd96040204ceee64e2587e9", func := "loop.example/g00933/laws.FnExactTotalDepth", spec := "fnExactTotalDepth", unfollowed := true, recurses := true, apart := false, narrowed := true }
def FnExactTotalDepthUptoSaid : Prop := fnExactTotalDepthUptoRow.holds Try.pinned (OpenSpec.upto fnExactTotalDepthSpec)

/-- 'laws.FnExactTiedPair', WHERE WHAT IT READS IS OF BULK AT MOST 1048576: true; the input reads as it did. -/
def fnExactTiedPairUptoRow : OpenClaim := { program := "ytknjpfjmkgfpdaa", sum := "d6470524ed7b9596670c5b57846024883c8abdb69cd96040204ceee64e2587e9", func := "loop.example/g00933/laws.FnExactTiedPair", spec := "fnExactTiedPair", unfollowed := true, recurses := true, apart := false, narrowed := true }
def FnExactTiedPairUptoSaid : Prop := fnExactTiedPairUptoRow.holds Try.pinned (OpenSpec.upto fnExactTiedPairSpec)

/-- 'laws.FnExactIsRigging', WHERE WHAT IT READS IS OF BULK AT MOST 1048576: true; the input reads as it did. -/
def fnExactIsRiggingUptoRow : OpenClaim := { program := "ytknjpfjmkgfpdaa", sum := "d6470524ed7b9596670c5b57846024883c8abdb69cd96040204ceee64e2587e9", func := "loop.example/g00933/laws.FnExactIsRigging", spec := "fnExactIsRigging", unfollowed := true, recurses := true, apart := false, narrowed := true }
def FnExactIsRiggingUptoSaid : Prop := fnExactIsRiggingUptoRow.holds Try.pinned (OpenSpec.upto fnExactIsRiggingSpec)

/-- 'laws.FnExactDeepestFirst', WHERE WHAT IT READS IS OF BULK AT MOST 1048576: true; the input reads as it did. -/
def fnExactDeepestFirstUptoRow : OpenClaim := { program := "ytknjpfjmkgfpdaa", sum := "d6470524ed7b9596670c5b57846024883c8abdb69cd96040204ceee64e2587e9", func := "loop.example/g00933/laws.FnExactDeepestFirst", spec := "fnExactDeepestFirst", unfollowed := true, recurses := true, apart := false, narrowed := true }
def FnExactDeepestFirstUptoSaid : Prop := fnExactDeepestFirstUptoRow.holds Try.pinned (OpenSpec.upto fnExactDeepestFirstSpec)

/-- 'laws.FnRopes', WHERE WHAT IT READS IS OF BULK AT MOST 1048576: true; the input reads as it did. -/
def fnRopesUptoRow : OpenClaim := { program := "ytknjpfjmkgfpdaa", sum := "d6470524ed7b9596670c5b57846024883c8abdb69cd96040204ceee64e2587e9", func := "loop.example/g00933/laws.FnRopes", spec := "fnRopes", unfollowed := true, recurses := true, apart := false, narrowed := true }
def FnRopesUptoSaid : Prop := fnRopesUptoRow.holds Try.pinned (OpenSpec.upto fnRopesSpec)

/-- 'laws.FnExactSpareRope', WHERE WHAT IT READS IS OF BULK AT MOST 1048576: true; the input reads as it did. -/
def fnExactSpareRopeUptoRow : OpenClaim := { program := "ytknjpfjmkgfpdaa", sum := "d6470524ed7b9596670c5b57846024883c8abdb69cd96040204ceee64e2587e9", func := "loop.example/g00933/laws.FnExactSpareRope", spec := "fnExactSpareRope", unfollowed := true, recurses := true, apart := false, narrowed := true }
def FnExactSpareRopeUptoSaid : Prop := fnExactSpareRopeUptoRow.holds Try.pinned (OpenSpec.upto fnExactSpareRopeSpec)

/-- 'laws.FnExactBestRigging', WHERE WHAT IT READS IS OF BULK AT MOST 1048576: true; the input reads as it did. -/
def fnExactBestRiggingUptoRow : OpenClaim := { program := "ytknjpfjmkgfpdaa", sum := "d6470524ed7b9596670c5b57846024883c8abdb69cd96040204ceee64e2587e9", func := "loop.example/g00933/laws.FnExactBestRigging", spec := "fnExactBestRigging", unfollowed := true, recurses := true, apart := false, narrowed := true }
def FnExactBestRiggingUptoSaid : Prop := fnExactBestRiggingUptoRow.holds Try.pinned (OpenSpec.upto fnExactBestRiggingSpec)

/-- 'laws.FnRiggings', WHERE WHAT IT READS IS OF BULK AT MOST 1048576: true; the input reads as it did. -/
def fnRiggingsUptoRow : OpenClaim := { program := "ytknjpfjmkgfpdaa", sum := "d6470524ed7b9596670c5b57846024883c8abdb69cd96040204ceee64e2587e9", func := "loop.example/g00933/laws.FnRiggings", spec := "fnRiggings", unfollowed := true, recurses := true, apart := false, narrowed := true }
def FnRiggingsUptoSaid : Prop := fnRiggingsUptoRow.holds Try.pinned (OpenSpec.upto fnRiggingsSpec)

end Rows
end Go.Proofs.Ytknjpfjmkgfpdaa
