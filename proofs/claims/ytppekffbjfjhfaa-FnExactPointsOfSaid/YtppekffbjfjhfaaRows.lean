/-
  No cell of these rows narrows 'for every input' (looked for: loops, veiled, ifaces, maps, wideKeys, modest, calm, conditions, laid).
  DERIVED. THE GIVEN ROWS OF THIS SEAT. 10 by the template 'for every input the law returns true; each argument reads behind the call as it read before'; 0 by the template 'total and deterministic' (their statements: YtppekffbjfjhfaaTotals.lean).
  GIVEN WITH THE SEED: the statements are not yours to turn. If you find one false, say at which input.
  Laid BY PROGRAM, IN A SANDBOX (cutbox-rows.mjs): the forced cells as the released guide's own fill.sh prints them over the translation 797dc0a13ce256f8… (all of the seat's roots in one cut). By AI agents, Wed Nov 11 2026. No macro, syntax, notation, axiom, sorry.
-/
import Derived.Test.YtppekffbjfjhfaaChecked
import GoSem.Claim
import GoSem.ClaimJoined
import GoSem.ClaimMapViews
import Derived.JoinedTies
import Derived.KernelRfl
namespace Go.Proofs.Ytppekffbjfjhfaa
/- THE CELL 'sum', in the pinned program and in every row, IS THE sha256 OF THE DUMP (.gsa) THAT YtppekffbjfjhfaaProg.lean LOADS. Nothing in Lean hashes anything: it is a label: what it is worth is what the hold of that sum in a sandbox is worth. -/
noncomputable def Try.pinned : Pinned := { name := "ytppekffbjfjhfaa", sum := "797dc0a13ce256f8bef446a2e0566d65662148abb5acd3a582578fad95e4aa46", checked := Try.checked }
namespace Rows
def none {H : Type} : Left H := { results := [], args := [] }

/-- 'laws.FnExactIsWay': WHATEVER THE INPUT: true; the input reads as it did. -/
def fnExactIsWaySpec : ChangeSpec := { name := "fnExactIsWay", fn := fun _ => fun
  | [d] => { results := [.lit (.bool true)], args := [d] }
  | _ => none }
def fnExactIsWayRow : OpenClaim := { program := "ytppekffbjfjhfaa", sum := "797dc0a13ce256f8bef446a2e0566d65662148abb5acd3a582578fad95e4aa46", func := "loop.example/g00933/laws.FnExactIsWay", spec := "fnExactIsWay", apart := false }
def FnExactIsWaySaid : Prop := fnExactIsWayRow.holds Try.pinned (OpenSpec.ofChange fnExactIsWaySpec)

/-- ITS FALSE NEIGHBOUR: 'it returns false'. Refute it at one input. -/
def fnExactIsWayWrong : ChangeSpec := { name := "fnExactIsWay", fn := fun _ => fun
  | [d] => { results := [.lit (.bool false)], args := [d] }
  | _ => none }
def FnExactIsWayWrongFalsely : Prop := fnExactIsWayRow.holds Try.pinned (OpenSpec.ofChange fnExactIsWayWrong)

/-- 'laws.FnExactClimb': WHATEVER THE INPUT: true; the input reads as it did. -/
def fnExactClimbSpec : ChangeSpec := { name := "fnExactClimb", fn := fun _ => fun
  | [d] => { results := [.lit (.bool true)], args := [d] }
  | _ => none }
def fnExactClimbRow : OpenClaim := { program := "ytppekffbjfjhfaa", sum := "797dc0a13ce256f8bef446a2e0566d65662148abb5acd3a582578fad95e4aa46", func := "loop.example/g00933/laws.FnExactClimb", spec := "fnExactClimb", apart := false }
def FnExactClimbSaid : Prop := fnExactClimbRow.holds Try.pinned (OpenSpec.ofChange fnExactClimbSpec)

/-- ITS FALSE NEIGHBOUR: 'it returns false'. Refute it at one input. -/
def fnExactClimbWrong : ChangeSpec := { name := "fnExactClimb", fn := fun _ => fun
  | [d] => { results := [.lit (.bool false)], args := [d] }
  | _ => none }
def FnExactClimbWrongFalsely : Prop := fnExactClimbRow.holds Try.pinned (OpenSpec.ofChange fnExactClimbWrong)

/-- 'laws.FnExactSteepestRun': WHATEVER THE INPUT: true; the input reads as it did. -/
def fnExactSteepestRunSpec : ChangeSpec := { name := "fnExactSteepestRun", fn := fun _ => fun
  | [d] => { results := [.lit (.bool true)], args := [d] }
  | _ => none }
def fnExactSteepestRunRow : OpenClaim := { program := "ytppekffbjfjhfaa", sum := "797dc0a13ce256f8bef446a2e0566d65662148abb5acd3a582578fad95e4aa46", func := "loop.example/g00933/laws.FnExactSteepestRun", spec := "fnExactSteepestRun", apart := false }
def FnExactSteepestRunSaid : Prop := fnExactSteepestRunRow.holds Try.pinned (OpenSpec.ofChange fnExactSteepestRunSpec)

/-- ITS FALSE NEIGHBOUR: 'it returns false'. Refute it at one input. -/
def fnExactSteepestRunWrong : ChangeSpec := { name := "fnExactSteepestRun", fn := fun _ => fun
  | [d] => { results := [.lit (.bool false)], args := [d] }
  | _ => none }
def FnExactSteepestRunWrongFalsely : Prop := fnExactSteepestRunRow.holds Try.pinned (OpenSpec.ofChange fnExactSteepestRunWrong)

/-- 'laws.FnExactRangeOf': WHATEVER THE INPUT: true; the input reads as it did. -/
def fnExactRangeOfSpec : ChangeSpec := { name := "fnExactRangeOf", fn := fun _ => fun
  | [d] => { results := [.lit (.bool true)], args := [d] }
  | _ => none }
def fnExactRangeOfRow : OpenClaim := { program := "ytppekffbjfjhfaa", sum := "797dc0a13ce256f8bef446a2e0566d65662148abb5acd3a582578fad95e4aa46", func := "loop.example/g00933/laws.FnExactRangeOf", spec := "fnExactRangeOf", apart := false }
def FnExactRangeOfSaid : Prop := fnExactRangeOfRow.holds Try.pinned (OpenSpec.ofChange fnExactRangeOfSpec)

/-- ITS FALSE NEIGHBOUR: 'it returns false'. Refute it at one input. -/
def fnExactRangeOfWrong : ChangeSpec := { name := "fnExactRangeOf", fn := fun _ => fun
  | [d] => { results := [.lit (.bool false)], args := [d] }
  | _ => none }
def FnExactRangeOfWrongFalsely : Prop := fnExactRangeOfRow.holds Try.pinned (OpenSpec.ofChange fnExactRangeOfWrong)

/-- 'laws.FnExactReverseWay': WHATEVER THE INPUT: true; the input reads as it did. -/
def fnExactReverseWaySpec : ChangeSpec := { name := "fnExactReverseWay", fn := fun _ => fun
  | [d] => { results := [.lit (.bool true)], args := [d] }
  | _ => none }
def fnExactReverseWayRow : OpenClaim := { program := "ytppekffbjfjhfaa", sum := "797dc0a13ce256f8bef446a2e0566d65662148abb5acd3a582578fad95e4aa46", func := "loop.example/g00933/laws.FnExactReverseWay", spec := "fnExactReverseWay", unfollowed := true, recurses := true, apart := false }
def FnExactReverseWaySaid : Prop := fnExactReverseWayRow.holds Try.pinned (OpenSpec.ofChange fnExactReverseWaySpec)

/-- ITS FALSE NEIGHBOUR: 'it returns false'. Refute it at one input. -/
def fnExactReverseWayWrong : ChangeSpec := { name := "fnExactReverseWay", fn := fun _ => fun
  | [d] => { results := [.lit (.bool false)], args := [d] }
  | _ => none }
def FnExactReverseWayWrongFalsely : Prop := fnExactReverseWayRow.holds Try.pinned (OpenSpec.ofChange fnExactReverseWayWrong)

/-- 'laws.FnExactJoinWays': WHATEVER THE INPUT: true; the input reads as it did. -/
def fnExactJoinWaysSpec : ChangeSpec := { name := "fnExactJoinWays", fn := fun _ => fun
  | [d1, d2] => { results := [.lit (.bool true)], args := [d1, d2] }
  | _ => none }
def fnExactJoinWaysRow : OpenClaim := { program := "ytppekffbjfjhfaa", sum := "797dc0a13ce256f8bef446a2e0566d65662148abb5acd3a582578fad95e4aa46", func := "loop.example/g00933/laws.FnExactJoinWays", spec := "fnExactJoinWays", apart := false }
def FnExactJoinWaysSaid : Prop := fnExactJoinWaysRow.holds Try.pinned (OpenSpec.ofChange fnExactJoinWaysSpec)

/-- ITS FALSE NEIGHBOUR: 'it returns false'. Refute it at one input. -/
def fnExactJoinWaysWrong : ChangeSpec := { name := "fnExactJoinWays", fn := fun _ => fun
  | [d1, d2] => { results := [.lit (.bool false)], args := [d1, d2] }
  | _ => none }
def FnExactJoinWaysWrongFalsely : Prop := fnExactJoinWaysRow.holds Try.pinned (OpenSpec.ofChange fnExactJoinWaysWrong)

/-- 'laws.FnExactFoldedWidth': WHATEVER THE INPUT: true; the input reads as it did. -/
def fnExactFoldedWidthSpec : ChangeSpec := { name := "fnExactFoldedWidth", fn := fun _ => fun
  | [d1, d2] => { results := [.lit (.bool true)], args := [d1, d2] }
  | _ => none }
def fnExactFoldedWidthRow : OpenClaim := { program := "ytppekffbjfjhfaa", sum := "797dc0a13ce256f8bef446a2e0566d65662148abb5acd3a582578fad95e4aa46", func := "loop.example/g00933/laws.FnExactFoldedWidth", spec := "fnExactFoldedWidth", unfollowed := true, recurses := true, apart := false }
def FnExactFoldedWidthSaid : Prop := fnExactFoldedWidthRow.holds Try.pinned (OpenSpec.ofChange fnExactFoldedWidthSpec)

/-- ITS FALSE NEIGHBOUR: 'it returns false'. Refute it at one input. -/
def fnExactFoldedWidthWrong : ChangeSpec := { name := "fnExactFoldedWidth", fn := fun _ => fun
  | [d1, d2] => { results := [.lit (.bool false)], args := [d1, d2] }
  | _ => none }
def FnExactFoldedWidthWrongFalsely : Prop := fnExactFoldedWidthRow.holds Try.pinned (OpenSpec.ofChange fnExactFoldedWidthWrong)

/-- 'laws.FnExactPointsOf': WHATEVER THE INPUT: true; the input reads as it did. -/
def fnExactPointsOfSpec : ChangeSpec := { name := "fnExactPointsOf", fn := fun _ => fun
  | [d] => { results := [.lit (.bool true)], args := [d] }
  | _ => none }
def fnExactPointsOfRow : OpenClaim := { program := "ytppekffbjfjhfaa", sum := "797dc0a13ce256f8bef446a2e0566d65662148abb5acd3a582578fad95e4aa46", func := "loop.example/g00933/laws.FnExactPointsOf", spec := "fnExactPointsOf", apart := false }
def FnExactPointsOfSaid : Prop := fnExactPointsOfRow.holds Try.pinned (OpenSpec.ofChange fnExactPointsOfSpec)

/-- ITS FALSE NEIGHBOUR: 'it returns false'. Refute it at one input. -/
def fnExactPointsOfWrong : ChangeSpec := { name := "fnExactPointsOf", fn := fun _ => fun
  | [d] => { results := [.lit (.bool false)], args := [d] }
  | _ => none }
def FnExactPointsOfWrongFalsely : Prop := fnExactPointsOfRow.holds Try.pinned (OpenSpec.ofChange fnExactPointsOfWrong)

/-- 'laws.FnExactBestFold': WHATEVER THE INPUT: true; the input reads as it did. -/
def fnExactBestFoldSpec : ChangeSpec := { name := "fnExactBestFold", fn := fun _ => fun
  | [d] => { results := [.lit (.bool true)], args := [d] }
  | _ => none }
def fnExactBestFoldRow : OpenClaim := { program := "ytppekffbjfjhfaa", sum := "797dc0a13ce256f8bef446a2e0566d65662148abb5acd3a582578fad95e4aa46", func := "loop.example/g00933/laws.FnExactBestFold", spec := "fnExactBestFold", recurses := true, apart := false }
def FnExactBestFoldSaid : Prop := fnExactBestFoldRow.holds Try.pinned (OpenSpec.ofChange fnExactBestFoldSpec)

/-- ITS FALSE NEIGHBOUR: 'it returns false'. Refute it at one input. -/
def fnExactBestFoldWrong : ChangeSpec := { name := "fnExactBestFold", fn := fun _ => fun
  | [d] => { results := [.lit (.bool false)], args := [d] }
  | _ => none }
def FnExactBestFoldWrongFalsely : Prop := fnExactBestFoldRow.holds Try.pinned (OpenSpec.ofChange fnExactBestFoldWrong)

/-- 'laws.FnFolds': WHATEVER THE INPUT: true; the input reads as it did. -/
def fnFoldsSpec : ChangeSpec := { name := "fnFolds", fn := fun _ => fun
  | [d] => { results := [.lit (.bool true)], args := [d] }
  | _ => none }
def fnFoldsRow : OpenClaim := { program := "ytppekffbjfjhfaa", sum := "797dc0a13ce256f8bef446a2e0566d65662148abb5acd3a582578fad95e4aa46", func := "loop.example/g00933/laws.FnFolds", spec := "fnFolds", unfollowed := true, recurses := true, apart := false }
def FnFoldsSaid : Prop := fnFoldsRow.holds Try.pinned (OpenSpec.ofChange fnFoldsSpec)

/-- ITS FALSE NEIGHBOUR: 'it returns false'. Refute it at one input. -/
def fnFoldsWrong : ChangeSpec := { name := "fnFolds", fn := fun _ => fun
  | [d] => { results := [.lit (.bool false)], args := [d] }
  | _ => none }
def FnFoldsWrongFalsely : Prop := fnFoldsRow.holds Try.pinned (OpenSpec.ofChange fnFoldsWrong)

/- THE SECOND FORM. 'bulk': how many values and letters a reading holds, each counted each time it is reached (what is shared counts as often as it is met; a slice's spare places count too). A statement '..UptoSaid' is the law's where the arguments, and the package variables that the reading takes, are together of bulk at most 1048576: NARROWER than '..Said'. Prove '..Said' where nothing that the law and all that it calls make is longer than what came in: it says more and counts as full. Else prove '..UptoSaid'. A law counts once. -/
mutual
def uptoBulk {H : Type} : DataW H → Nat
  | .lit (.string bytes) => bytes.length + 1
  | .lit _ => 1
  | .nil => 1
  | .ptr d => uptoBulk d + 1
  | .slice elems spare => uptoBulkAll elems + uptoBulkAll spare + 1
  | .agg parts => uptoBulkAll parts + 1
  | .iface _ d => uptoBulk d + 1
  | .map entries => uptoBulkEntries entries + 1
  | .held _ => 1
def uptoBulkAll {H : Type} : List (DataW H) → Nat
  | [] => 0
  | d :: r => uptoBulk d + uptoBulkAll r
def uptoBulkEntries {H : Type} : List (Lit × DataW H) → Nat
  | [] => 0
  | x :: r => uptoBulkEntry x + uptoBulkEntries r
def uptoBulkEntry {H : Type} : Lit × DataW H → Nat
  | (.string bytes, d) => bytes.length + uptoBulk d + 1
  | (_, d) => uptoBulk d + 1
 end
def uptoSmall : (H : Type) → List (DataW H) → Bool := fun _ ds => decide (uptoBulkAll ds ≤ 1048576)
def OpenSpec.upto (s : _root_.Go.ChangeSpec) : _root_.Go.OpenSpec := { _root_.Go.OpenSpec.ofChange s with cond := some uptoSmall }

/-- 'laws.FnExactIsWay', WHERE WHAT IT READS IS OF BULK AT MOST 1048576: true; the input reads as it did. -/
def fnExactIsWayUptoRow : OpenClaim := { program := "ytppekffbjfjhfaa", sum := "797dc0a13ce256f8bef446a2e0566d65662148abb5acd3a582578fad95e4aa46", func := "loop.example/g00933/laws.FnExactIsWay", spec := "fnExactIsWay", apart := false, narrowed := true }
def FnExactIsWayUptoSaid : Prop := fnExactIsWayUptoRow.holds Try.pinned (OpenSpec.upto fnExactIsWaySpec)

/-- 'laws.FnExactClimb', WHERE WHAT IT READS IS OF BULK AT MOST 1048576: true; the input reads as it did. -/
def fnExactClimbUptoRow : OpenClaim := { program := "ytppekffbjfjhfaa", sum := "797dc0a13ce256f8bef446a2e0566d65662148abb5acd3a582578fad95e4aa46", func := "loop.example/g00933/laws.FnExactClimb", spec := "fnExactClimb", apart := false, narrowed := true }
def FnExactClimbUptoSaid : Prop := fnExactClimbUptoRow.holds Try.pinned (OpenSpec.upto fnExactClimbSpec)

/-- 'laws.FnExactSteepestRun', WHERE WHAT IT READS IS OF BULK AT MOST 1048576: true; the input reads as it did. -/
def fnExactSteepestRunUptoRow : OpenClaim := { program := "ytppekffbjfjhfaa", sum := "797dc0a13ce256f8bef446a2e0566d65662148abb5acd3a582578fad95e4aa46", func := "loop.example/g00933/laws.FnExactSteepestRun", spec := "fnExactSteepestRun", apart := false, narrowed := true }
def FnExactSteepestRunUptoSaid : Prop := fnExactSteepestRunUptoRow.holds Try.pinned (OpenSpec.upto fnExactSteepestRunSpec)

/-- 'laws.FnExactRangeOf', WHERE WHAT IT READS IS OF BULK AT MOST 1048576: true; the input reads as it did. -/
def fnExactRangeOfUptoRow : OpenClaim := { program := "ytppekffbjfjhfaa", sum := "797dc0a13ce256f8bef446a2e0566d65662148abb5acd3a582578fad95e4aa46", func := "loop.example/g00933/laws.FnExactRangeOf", spec := "fnExactRangeOf", apart := false, narrowed := true }
def FnExactRangeOfUptoSaid : Prop := fnExactRangeOfUptoRow.holds Try.pinned (OpenSpec.upto fnExactRangeOfSpec)

/-- 'laws.FnExactReverseWay', WHERE WHAT IT READS IS OF BULK AT MOST 1048576: true; the input reads as it did. -/
def fnExactReverseWayUptoRow : OpenClaim := { program := "ytppekffbjfjhfaa", sum := "797dc0a13ce256f8bef446a2e0566d65662148abb5acd3a582578fad95e4aa46", func := "loop.example/g00933/laws.FnExactReverseWay", spec := "fnExactReverseWay", unfollowed := true, recurses := true, apart := false, narrowed := true }
def FnExactReverseWayUptoSaid : Prop := fnExactReverseWayUptoRow.holds Try.pinned (OpenSpec.upto fnExactReverseWaySpec)

/-- 'laws.FnExactJoinWays', WHERE WHAT IT READS IS OF BULK AT MOST 1048576: true; the input reads as it did. -/
def fnExactJoinWaysUptoRow : OpenClaim := { program := "ytppekffbjfjhfaa", sum := "797dc0a13ce256f8bef446a2e0566d65662148abb5acd3a582578fad95e4aa46", func := "loop.example/g00933/laws.FnExactJoinWays", spec := "fnExactJoinWays", apart := false, narrowed := true }
def FnExactJoinWaysUptoSaid : Prop := fnExactJoinWaysUptoRow.holds Try.pinned (OpenSpec.upto fnExactJoinWaysSpec)

/-- 'laws.FnExactFoldedWidth', WHERE WHAT IT READS IS OF BULK AT MOST 1048576: true; the input reads as it did. -/
def fnExactFoldedWidthUptoRow : OpenClaim := { program := "ytppekffbjfjhfaa", sum := "797dc0a13ce256f8bef446a2e0566d65662148abb5acd3a582578fad95e4aa46", func := "loop.example/g00933/laws.FnExactFoldedWidth", spec := "fnExactFoldedWidth", unfollowed := true, recurses := true, apart := false, narrowed := true }
def FnExactFoldedWidthUptoSaid : Prop := fnExactFoldedWidthUptoRow.holds Try.pinned (OpenSpec.upto fnExactFoldedWidthSpec)

/-- 'laws.FnExactPointsOf', WHERE WHAT IT READS IS OF BULK AT MOST 1048576: true; the input reads as it did. -/
def fnExactPointsOfUptoRow : OpenClaim := { program := "ytppekffbjfjhfaa", sum := "797dc0a13ce256f8bef446a2e0566d65662148abb5acd3a582578fad95e4aa46", func := "loop.example/g00933/laws.FnExactPointsOf", spec := "fnExactPointsOf", apart := false, narrowed := true }
def FnExactPointsOfUptoSaid : Prop := fnExactPointsOfUptoRow.holds Try.pinned (OpenSpec.upto fnExactPointsOfSpec)

/-- 'laws.FnExactBestFold', WHERE WHAT IT READS IS OF BULK AT MOST 1048576: true; the input reads as it did. -/
def fnExactBestFoldUptoRow : OpenClaim := { program := "ytppekffbjfjhfaa", sum := "797dc0a13ce256f8bef446a2e0566d65662148abb5acd3a582578fad95e4aa46", func := "loop.example/g00933/laws.FnExactBestFold", spec := "fnExactBestFold", recurses := true, apart := false, narrowed := true }
def FnExactBestFoldUptoSaid : Prop := fnExactBestFoldUptoRow.holds Try.pinned (OpenSpec.upto fnExactBestFoldSpec)

/-- 'laws.FnFolds', WHERE WHAT IT READS IS OF BULK AT MOST 1048576: true; the input reads as it did. -/
def fnFoldsUptoRow : OpenClaim := { program := "ytppekffbjfjhfaa", sum := "797dc0a13ce256f8bef446a2e0566d65662148abb5acd3a582578fad95e4aa46", func := "loop.example/g00933/laws.FnFolds", spec := "fnFolds", unfollowed := true, recurses := true, apart := false, narrowed := true }
def FnFoldsUptoSaid : Prop := fnFoldsUptoRow.holds Try.pinned (OpenSpec.upto fnFoldsSpec)

end Rows
end Go.Proofs.Ytppekffbjfjhfaa
