/-
  No cell of these rows narrows 'for every input' (looked for: loops, veiled, ifaces, maps, wideKeys, modest, calm, conditions, laid).
  DERIVED. THE GIVEN ROWS OF THIS SEAT. 11 by the template 'for every input the law returns true; each argument reads behind the call as it read before'; 0 by the template 'total and deterministic' (their statements: YtcajkofblleanaaTotals.lean).
  GIVEN WITH THE SEED: the statements are not yours to turn. If you find one false, say at which input.
  Laid BY PROGRAM, IN A SANDBOX (cutbox-rows.mjs): the forced cells as the released guide's own fill.sh prints them over the translation 5b14cf43f0a66685… (all of the seat's roots in one cut). By AI agents, Wed Nov 11 2026. No macro, syntax, notation, axiom, sorry.
-/
import Derived.Test.YtcajkofblleanaaChecked
import GoSem.Claim
import GoSem.ClaimJoined
import GoSem.ClaimMapViews
import Derived.JoinedTies
import Derived.KernelRfl
namespace Go.Proofs.Ytcajkofblleanaa
/- THE CELL 'sum', in the pinned program and in every row, IS THE sha256 OF THE DUMP (.gsa) THAT YtcajkofblleanaaProg.lean LOADS. Nothing in Lean hashes anything: it is a label: what it is worth is what the hold of that sum in a sandbox is worth. -/
noncomputable def Try.pinned : Pinned := { name := "ytcajkofblleanaa", sum := "5b14cf43f0a6668544a056f4e87476ef19d7854038989e90d7fa57fe04e5973d", checked := Try.checked }
namespace Rows
def none {H : Type} : Left H := { results := [], args := [] }

/-- 'laws.FnExactAreMarks': WHATEVER THE INPUT: true; the input reads as it did. -/
def fnExactAreMarksSpec : ChangeSpec := { name := "fnExactAreMarks", fn := fun _ => fun
  | [d] => { results := [.lit (.bool true)], args := [d] }
  | _ => none }
def fnExactAreMarksRow : OpenClaim := { program := "ytcajkofblleanaa", sum := "5b14cf43f0a6668544a056f4e87476ef19d7854038989e90d7fa57fe04e5973d", func := "loop.example/g00933/laws.FnExactAreMarks", spec := "fnExactAreMarks", apart := false }
def FnExactAreMarksSaid : Prop := fnExactAreMarksRow.holds Try.pinned (OpenSpec.ofChange fnExactAreMarksSpec)

/-- ITS FALSE NEIGHBOUR: 'it returns false'. Refute it at one input. -/
def fnExactAreMarksWrong : ChangeSpec := { name := "fnExactAreMarks", fn := fun _ => fun
  | [d] => { results := [.lit (.bool false)], args := [d] }
  | _ => none }
def FnExactAreMarksWrongFalsely : Prop := fnExactAreMarksRow.holds Try.pinned (OpenSpec.ofChange fnExactAreMarksWrong)

/-- 'laws.FnExactTurnMarks': WHATEVER THE INPUT: true; the input reads as it did. -/
def fnExactTurnMarksSpec : ChangeSpec := { name := "fnExactTurnMarks", fn := fun _ => fun
  | [d] => { results := [.lit (.bool true)], args := [d] }
  | _ => none }
def fnExactTurnMarksRow : OpenClaim := { program := "ytcajkofblleanaa", sum := "5b14cf43f0a6668544a056f4e87476ef19d7854038989e90d7fa57fe04e5973d", func := "loop.example/g00933/laws.FnExactTurnMarks", spec := "fnExactTurnMarks", apart := false }
def FnExactTurnMarksSaid : Prop := fnExactTurnMarksRow.holds Try.pinned (OpenSpec.ofChange fnExactTurnMarksSpec)

/-- ITS FALSE NEIGHBOUR: 'it returns false'. Refute it at one input. -/
def fnExactTurnMarksWrong : ChangeSpec := { name := "fnExactTurnMarks", fn := fun _ => fun
  | [d] => { results := [.lit (.bool false)], args := [d] }
  | _ => none }
def FnExactTurnMarksWrongFalsely : Prop := fnExactTurnMarksRow.holds Try.pinned (OpenSpec.ofChange fnExactTurnMarksWrong)

/-- 'laws.FnExactSmallestScale': WHATEVER THE INPUT: true; the input reads as it did. -/
def fnExactSmallestScaleSpec : ChangeSpec := { name := "fnExactSmallestScale", fn := fun _ => fun
  | [d1, d2, d3] => { results := [.lit (.bool true)], args := [d1, d2, d3] }
  | _ => none }
def fnExactSmallestScaleRow : OpenClaim := { program := "ytcajkofblleanaa", sum := "5b14cf43f0a6668544a056f4e87476ef19d7854038989e90d7fa57fe04e5973d", func := "loop.example/g00933/laws.FnExactSmallestScale", spec := "fnExactSmallestScale", apart := false }
def FnExactSmallestScaleSaid : Prop := fnExactSmallestScaleRow.holds Try.pinned (OpenSpec.ofChange fnExactSmallestScaleSpec)

/-- ITS FALSE NEIGHBOUR: 'it returns false'. Refute it at one input. -/
def fnExactSmallestScaleWrong : ChangeSpec := { name := "fnExactSmallestScale", fn := fun _ => fun
  | [d1, d2, d3] => { results := [.lit (.bool false)], args := [d1, d2, d3] }
  | _ => none }
def FnExactSmallestScaleWrongFalsely : Prop := fnExactSmallestScaleRow.holds Try.pinned (OpenSpec.ofChange fnExactSmallestScaleWrong)

/-- 'laws.FnExactMoveMarks': WHATEVER THE INPUT: true; the input reads as it did. -/
def fnExactMoveMarksSpec : ChangeSpec := { name := "fnExactMoveMarks", fn := fun _ => fun
  | [d1, d2, d3] => { results := [.lit (.bool true)], args := [d1, d2, d3] }
  | _ => none }
def fnExactMoveMarksRow : OpenClaim := { program := "ytcajkofblleanaa", sum := "5b14cf43f0a6668544a056f4e87476ef19d7854038989e90d7fa57fe04e5973d", func := "loop.example/g00933/laws.FnExactMoveMarks", spec := "fnExactMoveMarks", apart := false }
def FnExactMoveMarksSaid : Prop := fnExactMoveMarksRow.holds Try.pinned (OpenSpec.ofChange fnExactMoveMarksSpec)

/-- ITS FALSE NEIGHBOUR: 'it returns false'. Refute it at one input. -/
def fnExactMoveMarksWrong : ChangeSpec := { name := "fnExactMoveMarks", fn := fun _ => fun
  | [d1, d2, d3] => { results := [.lit (.bool false)], args := [d1, d2, d3] }
  | _ => none }
def FnExactMoveMarksWrongFalsely : Prop := fnExactMoveMarksRow.holds Try.pinned (OpenSpec.ofChange fnExactMoveMarksWrong)

/-- 'laws.FnExactPlanSize': WHATEVER THE INPUT: true; the input reads as it did. -/
def fnExactPlanSizeSpec : ChangeSpec := { name := "fnExactPlanSize", fn := fun _ => fun
  | [d1, d2] => { results := [.lit (.bool true)], args := [d1, d2] }
  | _ => none }
def fnExactPlanSizeRow : OpenClaim := { program := "ytcajkofblleanaa", sum := "5b14cf43f0a6668544a056f4e87476ef19d7854038989e90d7fa57fe04e5973d", func := "loop.example/g00933/laws.FnExactPlanSize", spec := "fnExactPlanSize", apart := false }
def FnExactPlanSizeSaid : Prop := fnExactPlanSizeRow.holds Try.pinned (OpenSpec.ofChange fnExactPlanSizeSpec)

/-- ITS FALSE NEIGHBOUR: 'it returns false'. Refute it at one input. -/
def fnExactPlanSizeWrong : ChangeSpec := { name := "fnExactPlanSize", fn := fun _ => fun
  | [d1, d2] => { results := [.lit (.bool false)], args := [d1, d2] }
  | _ => none }
def FnExactPlanSizeWrongFalsely : Prop := fnExactPlanSizeRow.holds Try.pinned (OpenSpec.ofChange fnExactPlanSizeWrong)

/-- 'laws.FnExactSquareOf': WHATEVER THE INPUT: true; the input reads as it did. -/
def fnExactSquareOfSpec : ChangeSpec := { name := "fnExactSquareOf", fn := fun _ => fun
  | [d1, d2, d3] => { results := [.lit (.bool true)], args := [d1, d2, d3] }
  | _ => none }
def fnExactSquareOfRow : OpenClaim := { program := "ytcajkofblleanaa", sum := "5b14cf43f0a6668544a056f4e87476ef19d7854038989e90d7fa57fe04e5973d", func := "loop.example/g00933/laws.FnExactSquareOf", spec := "fnExactSquareOf", unfollowed := true, recurses := true, apart := false }
def FnExactSquareOfSaid : Prop := fnExactSquareOfRow.holds Try.pinned (OpenSpec.ofChange fnExactSquareOfSpec)

/-- ITS FALSE NEIGHBOUR: 'it returns false'. Refute it at one input. -/
def fnExactSquareOfWrong : ChangeSpec := { name := "fnExactSquareOf", fn := fun _ => fun
  | [d1, d2, d3] => { results := [.lit (.bool false)], args := [d1, d2, d3] }
  | _ => none }
def FnExactSquareOfWrongFalsely : Prop := fnExactSquareOfRow.holds Try.pinned (OpenSpec.ofChange fnExactSquareOfWrong)

/-- 'laws.FnExactPlanText': WHATEVER THE INPUT: true; the input reads as it did. -/
def fnExactPlanTextSpec : ChangeSpec := { name := "fnExactPlanText", fn := fun _ => fun
  | [d1, d2] => { results := [.lit (.bool true)], args := [d1, d2] }
  | _ => none }
def fnExactPlanTextRow : OpenClaim := { program := "ytcajkofblleanaa", sum := "5b14cf43f0a6668544a056f4e87476ef19d7854038989e90d7fa57fe04e5973d", func := "loop.example/g00933/laws.FnExactPlanText", spec := "fnExactPlanText", inPlace := ["internal/abi.NoEscape", "internal/bytealg.MakeNoZero"], unfollowed := true, recurses := true, apart := false }
def FnExactPlanTextSaid : Prop := fnExactPlanTextRow.holds Try.pinned (OpenSpec.ofChange fnExactPlanTextSpec)

/-- ITS FALSE NEIGHBOUR: 'it returns false'. Refute it at one input. -/
def fnExactPlanTextWrong : ChangeSpec := { name := "fnExactPlanText", fn := fun _ => fun
  | [d1, d2] => { results := [.lit (.bool false)], args := [d1, d2] }
  | _ => none }
def FnExactPlanTextWrongFalsely : Prop := fnExactPlanTextRow.holds Try.pinned (OpenSpec.ofChange fnExactPlanTextWrong)

/-- 'laws.FnExactHiddenMarks': WHATEVER THE INPUT: true; the input reads as it did. -/
def fnExactHiddenMarksSpec : ChangeSpec := { name := "fnExactHiddenMarks", fn := fun _ => fun
  | [d1, d2] => { results := [.lit (.bool true)], args := [d1, d2] }
  | _ => none }
def fnExactHiddenMarksRow : OpenClaim := { program := "ytcajkofblleanaa", sum := "5b14cf43f0a6668544a056f4e87476ef19d7854038989e90d7fa57fe04e5973d", func := "loop.example/g00933/laws.FnExactHiddenMarks", spec := "fnExactHiddenMarks", inPlace := ["internal/abi.NoEscape", "internal/bytealg.MakeNoZero"], unfollowed := true, recurses := true, apart := false }
def FnExactHiddenMarksSaid : Prop := fnExactHiddenMarksRow.holds Try.pinned (OpenSpec.ofChange fnExactHiddenMarksSpec)

/-- ITS FALSE NEIGHBOUR: 'it returns false'. Refute it at one input. -/
def fnExactHiddenMarksWrong : ChangeSpec := { name := "fnExactHiddenMarks", fn := fun _ => fun
  | [d1, d2] => { results := [.lit (.bool false)], args := [d1, d2] }
  | _ => none }
def FnExactHiddenMarksWrongFalsely : Prop := fnExactHiddenMarksRow.holds Try.pinned (OpenSpec.ofChange fnExactHiddenMarksWrong)

/-- 'laws.FnPlans': WHATEVER THE INPUT: true; the input reads as it did. -/
def fnPlansSpec : ChangeSpec := { name := "fnPlans", fn := fun _ => fun
  | [d] => { results := [.lit (.bool true)], args := [d] }
  | _ => none }
def fnPlansRow : OpenClaim := { program := "ytcajkofblleanaa", sum := "5b14cf43f0a6668544a056f4e87476ef19d7854038989e90d7fa57fe04e5973d", func := "loop.example/g00933/laws.FnPlans", spec := "fnPlans", inPlace := ["internal/abi.NoEscape", "internal/bytealg.MakeNoZero"], unfollowed := true, recurses := true, apart := false }
def FnPlansSaid : Prop := fnPlansRow.holds Try.pinned (OpenSpec.ofChange fnPlansSpec)

/-- ITS FALSE NEIGHBOUR: 'it returns false'. Refute it at one input. -/
def fnPlansWrong : ChangeSpec := { name := "fnPlans", fn := fun _ => fun
  | [d] => { results := [.lit (.bool false)], args := [d] }
  | _ => none }
def FnPlansWrongFalsely : Prop := fnPlansRow.holds Try.pinned (OpenSpec.ofChange fnPlansWrong)

/-- 'laws.FnExactReadPlan': WHATEVER THE INPUT: true; the input reads as it did. -/
def fnExactReadPlanSpec : ChangeSpec := { name := "fnExactReadPlan", fn := fun _ => fun
  | [d] => { results := [.lit (.bool true)], args := [d] }
  | _ => none }
def fnExactReadPlanRow : OpenClaim := { program := "ytcajkofblleanaa", sum := "5b14cf43f0a6668544a056f4e87476ef19d7854038989e90d7fa57fe04e5973d", func := "loop.example/g00933/laws.FnExactReadPlan", spec := "fnExactReadPlan", inPlace := ["internal/bytealg.IndexByteString", "internal/bytealg.abigen_runtime_cmpstring", "internal/abi.NoEscape", "internal/bytealg.MakeNoZero"], unfollowed := true, recurses := true, apart := false }
def FnExactReadPlanSaid : Prop := fnExactReadPlanRow.holds Try.pinned (OpenSpec.ofChange fnExactReadPlanSpec)

/-- ITS FALSE NEIGHBOUR: 'it returns false'. Refute it at one input. -/
def fnExactReadPlanWrong : ChangeSpec := { name := "fnExactReadPlan", fn := fun _ => fun
  | [d] => { results := [.lit (.bool false)], args := [d] }
  | _ => none }
def FnExactReadPlanWrongFalsely : Prop := fnExactReadPlanRow.holds Try.pinned (OpenSpec.ofChange fnExactReadPlanWrong)

/-- 'laws.FnPlanMarks': WHATEVER THE INPUT: true; the input reads as it did. -/
def fnPlanMarksSpec : ChangeSpec := { name := "fnPlanMarks", fn := fun _ => fun
  | [d] => { results := [.lit (.bool true)], args := [d] }
  | _ => none }
def fnPlanMarksRow : OpenClaim := { program := "ytcajkofblleanaa", sum := "5b14cf43f0a6668544a056f4e87476ef19d7854038989e90d7fa57fe04e5973d", func := "loop.example/g00933/laws.FnPlanMarks", spec := "fnPlanMarks", inPlace := ["internal/bytealg.IndexByteString", "internal/bytealg.abigen_runtime_cmpstring", "internal/abi.NoEscape", "internal/bytealg.MakeNoZero"], unfollowed := true, recurses := true, apart := false }
def FnPlanMarksSaid : Prop := fnPlanMarksRow.holds Try.pinned (OpenSpec.ofChange fnPlanMarksSpec)

/-- ITS FALSE NEIGHBOUR: 'it returns false'. Refute it at one input. -/
def fnPlanMarksWrong : ChangeSpec := { name := "fnPlanMarks", fn := fun _ => fun
  | [d] => { results := [.lit (.bool false)], args := [d] }
  | _ => none }
def FnPlanMarksWrongFalsely : Prop := fnPlanMarksRow.holds Try.pinned (OpenSpec.ofChange fnPlanMarksWrong)

/- THE SECOND FORM. 'bulk': how many values and letters a reading holds, each counted each time it is reached (what is shared counts as often as it is met; a slice's spare places count too). A statement '..UptoSaid' is the law's where the arguments, and the package variables that the reading takes, are together of bulk at most 1048576: NARROWER than '..Said'. Prove '..Said' where nothing that the law and all that it calls make is longer than what came in: it says more and counts as full. Else prove '..UptoSaid'. A law counts once. -/
mutual
def uptoBulk {H : Type} : DataW H → Nat
  | .lit (.string bytes) => bytes.length + 1
  | .lit _ => 1
  | .nil => 1
  | .ptr d => uptoBulk d + 1
  | .slice elems spare => uptoBulkAll elems + uptoBulkAll spare + 1
  | .agg parts => uptoBulkAll parts + 1
  | .iface _ d => uptoBulk d + 1
  | .map entries => uptoBulkEntries entries + 1
  | .held _ => 1
def uptoBulkAll {H : Type} : List (DataW H) → Nat
  | [] => 0
  | d :: r => uptoBulk d + uptoBulkAll r
def uptoBulkEntries {H : Type} : List (Lit × DataW H) → Nat
  | [] => 0
  | x :: r => uptoBulkEntry x + uptoBulkEntries r
def uptoBulkEntry {H : Type} : Lit × DataW H → Nat
  | (.string bytes, d) => bytes.length + uptoBulk d + 1
  | (_, d) => uptoBulk d + 1
 end
def uptoSmall : (H : Type) → List (DataW H) → Bool := fun _ ds => decide (uptoBulkAll ds ≤ 1048576)
def OpenSpec.upto (s : _root_.Go.ChangeSpec) : _root_.Go.OpenSpec := { _root_.Go.OpenSpec.ofChange s with cond := some uptoSmall }

/-- 'laws.FnExactAreMarks', WHERE WHAT IT READS IS OF BULK AT MOST 1048576: true; the input reads as it did. -/
def fnExactAreMarksUptoRow : OpenClaim := { program := "ytcajkofblleanaa", sum := "5b14cf43f0a6668544a056f4e87476ef19d7854038989e90d7fa57fe04e5973d", func := "loop.example/g00933/laws.FnExactAreMarks", spec := "fnExactAreMarks", apart := false, narrowed := true }
def FnExactAreMarksUptoSaid : Prop := fnExactAreMarksUptoRow.holds Try.pinned (OpenSpec.upto fnExactAreMarksSpec)

/-- 'laws.FnExactTurnMarks', WHERE WHAT IT READS IS OF BULK AT MOST 1048576: true; the input reads as it did. -/
def fnExactTurnMarksUptoRow : OpenClaim := { program := "ytcajkofblleanaa", sum := "5b14cf43f0a6668544a056f4e87476ef19d7854038989e90d7fa57fe04e5973d", func := "loop.example/g00933/laws.FnExactTurnMarks", spec := "fnExactTurnMarks", apart := false, narrowed := true }
def FnExactTurnMarksUptoSaid : Prop := fnExactTurnMarksUptoRow.holds Try.pinned (OpenSpec.upto fnExactTurnMarksSpec)

/-- 'laws.FnExactSmallestScale', WHERE WHAT IT READS IS OF BULK AT MOST 1048576: true; the input reads as it did. -/
def fnExactSmallestScaleUptoRow : OpenClaim := { program := "ytcajkofblleanaa", sum := "5b14cf43f0a6668544a056f4e87476ef19d7854038989e90d7fa57fe04e5973d", func := "loop.example/g00933/laws.FnExactSmallestScale", spec := "fnExactSmallestScale", apart := false, narrowed := true }
def FnExactSmallestScaleUptoSaid : Prop := fnExactSmallestScaleUptoRow.holds Try.pinned (OpenSpec.upto fnExactSmallestScaleSpec)

/-- 'laws.FnExactMoveMarks', WHERE WHAT IT READS IS OF BULK AT MOST 1048576: true; the input reads as it did. -/
def fnExactMoveMarksUptoRow : OpenClaim := { program := "ytcajkofblleanaa", sum := "5b14cf43f0a6668544a056f4e87476ef19d7854038989e90d7fa57fe04e5973d", func := "loop.example/g00933/laws.FnExactMoveMarks", spec := "fnExactMoveMarks", apart := false, narrowed := true }
def FnExactMoveMarksUptoSaid : Prop := fnExactMoveMarksUptoRow.holds Try.pinned (OpenSpec.upto fnExactMoveMarksSpec)

/-- 'laws.FnExactPlanSize', WHERE WHAT IT READS IS OF BULK AT MOST 1048576: true; the input reads as it did. -/
def fnExactPlanSizeUptoRow : OpenClaim := { program := "ytcajkofblleanaa", sum := "5b14cf43f0a6668544a056f4e87476ef19d7854038989e90d7fa57fe04e5973d", func := "loop.example/g00933/laws.FnExactPlanSize", spec := "fnExactPlanSize", apart := false, narrowed := true }
def FnExactPlanSizeUptoSaid : Prop := fnExactPlanSizeUptoRow.holds Try.pinned (OpenSpec.upto fnExactPlanSizeSpec)

/-- 'laws.FnExactSquareOf', WHERE WHAT IT READS IS OF BULK AT MOST 1048576: true; the input reads as it did. -/
def fnExactSquareOfUptoRow : OpenClaim := { program := "ytcajkofblleanaa", sum := "5b14cf43f0a6668544a056f4e87476ef19d7854038989e90d7fa57fe04e5973d", func := "loop.example/g00933/laws.FnExactSquareOf", spec := "fnExactSquareOf", unfollowed := true, recurses := true, apart := false, narrowed := true }
def FnExactSquareOfUptoSaid : Prop := fnExactSquareOfUptoRow.holds Try.pinned (OpenSpec.upto fnExactSquareOfSpec)

/-- 'laws.FnExactPlanText', WHERE WHAT IT READS IS OF BULK AT MOST 1048576: true; the input reads as it did. -/
def fnExactPlanTextUptoRow : OpenClaim := { program := "ytcajkofblleanaa", sum := "5b14cf43f0a6668544a056f4e87476ef19d7854038989e90d7fa57fe04e5973d", func := "loop.example/g00933/laws.FnExactPlanText", spec := "fnExactPlanText", inPlace := ["internal/abi.NoEscape", "internal/bytealg.MakeNoZero"], unfollowed := true, recurses := true, apart := false, narrowed := true }
def FnExactPlanTextUptoSaid : Prop := fnExactPlanTextUptoRow.holds Try.pinned (OpenSpec.upto fnExactPlanTextSpec)

/-- 'laws.FnExactHiddenMarks', WHERE WHAT IT READS IS OF BULK AT MOST 1048576: true; the input reads as it did. -/
def fnExactHiddenMarksUptoRow : OpenClaim := { program := "ytcajkofblleanaa", sum := "5b14cf43f0a6668544a056f4e87476ef19d7854038989e90d7fa57fe04e5973d", func := "loop.example/g00933/laws.FnExactHiddenMarks", spec := "fnExactHiddenMarks", inPlace := ["internal/abi.NoEscape", "internal/bytealg.MakeNoZero"], unfollowed := true, recurses := true, apart := false, narrowed := true }
def FnExactHiddenMarksUptoSaid : Prop := fnExactHiddenMarksUptoRow.holds Try.pinned (OpenSpec.upto fnExactHiddenMarksSpec)

/-- 'laws.FnPlans', WHERE WHAT IT READS IS OF BULK AT MOST 1048576: true; the input reads as it did. -/
def fnPlansUptoRow : OpenClaim := { program := "ytcajkofblleanaa", sum := "5b14cf43f0a6668544a056f4e87476ef19d7854038989e90d7fa57fe04e5973d", func := "loop.example/g00933/laws.FnPlans", spec := "fnPlans", inPlace := ["internal/abi.NoEscape", "internal/bytealg.MakeNoZero"], unfollowed := true, recurses := true, apart := false, narrowed := true }
def FnPlansUptoSaid : Prop := fnPlansUptoRow.holds Try.pinned (OpenSpec.upto fnPlansSpec)

/-- 'laws.FnExactReadPlan', WHERE WHAT IT READS IS OF BULK AT MOST 1048576: true; the input reads as it did. -/
def fnExactReadPlanUptoRow : OpenClaim := { program := "ytcajkofblleanaa", sum := "5b14cf43f0a6668544a056f4e87476ef19d7854038989e90d7fa57fe04e5973d", func := "loop.example/g00933/laws.FnExactReadPlan", spec := "fnExactReadPlan", inPlace := ["internal/bytealg.IndexByteString", "internal/bytealg.abigen_runtime_cmpstring", "internal/abi.NoEscape", "internal/bytealg.MakeNoZero"], unfollowed := true, recurses := true, apart := false, narrowed := true }
def FnExactReadPlanUptoSaid : Prop := fnExactReadPlanUptoRow.holds Try.pinned (OpenSpec.upto fnExactReadPlanSpec)

/-- 'laws.FnPlanMarks', WHERE WHAT IT READS IS OF BULK AT MOST 1048576: true; the input reads as it did. -/
def fnPlanMarksUptoRow : OpenClaim := { program := "ytcajkofblleanaa", sum := "5b14cf43f0a6668544a056f4e87476ef19d7854038989e90d7fa57fe04e5973d", func := "loop.example/g00933/laws.FnPlanMarks", spec := "fnPlanMarks", inPlace := ["internal/bytealg.IndexByteString", "internal/bytealg.abigen_runtime_cmpstring", "internal/abi.NoEscape", "internal/bytealg.MakeNoZero"], unfollowed := true, recurses := true, apart := false, narrowed := true }
def FnPlanMarksUptoSaid : Prop := fnPlanMarksUptoRow.holds Try.pinned (OpenSpec.upto fnPlanMarksSpec)

end Rows
end Go.Proofs.Ytcajkofblleanaa
