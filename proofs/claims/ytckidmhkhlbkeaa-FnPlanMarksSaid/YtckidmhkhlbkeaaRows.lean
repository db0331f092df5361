/-
  No cell of these rows narrows 'for every input' (looked for: loops, veiled, ifaces, maps, wideKeys, modest, calm, conditions, laid).
  DERIVED. THE GIVEN ROWS OF THIS SEAT. 5 by the template 'for every input the law returns true; each argument reads behind the call as it read before'; 0 by the template 'total and deterministic' (their statements: YtckidmhkhlbkeaaTotals.lean).
  GIVEN WITH THE SEED: the statements are not yours to turn. If you find one false, say at which input.
  Laid BY PROGRAM, IN A SANDBOX (cutbox-rows.mjs): the forced cells as the released guide's own fill.sh prints them over the translation fba7ec03638092cf… (all of the seat's roots in one cut). By AI agents, Wed Nov 11 2026. No macro, syntax, notation, axiom, sorry.
-/
import Derived.Test.YtckidmhkhlbkeaaChecked
import GoSem.Claim
import GoSem.ClaimJoined
import GoSem.ClaimMapViews
import Derived.JoinedTies
import Derived.KernelRfl
namespace Go.Proofs.Ytckidmhkhlbkeaa
/- THE CELL 'sum', in the pinned program and in every row, IS THE sha256 OF THE DUMP (.gsa) THAT YtckidmhkhlbkeaaProg.lean LOADS. Nothing in Lean hashes anything: it is a label: what it is worth is what the hold of that sum in a sandbox is worth. -/
noncomputable def Try.pinned : Pinned := { name := "ytckidmhkhlbkeaa", sum := "fba7ec03638092cf5413872d72ba0ec3e39d6802666b38ae4e8333a330e43a69", checked := Try.checked }
namespace Rows
def none {H : Type} : Left H := { results := [], args := [] }

/-- 'laws.FnExactPlanText': WHATEVER THE INPUT: true; the input reads as it did. -/
def fnExactPlanTextSpec : ChangeSpec := { name := "fnExactPlanText", fn := fun _ => fun
  | [d1, d2] => { results := [.lit (.bool true)], args := [d1, d2] }
  | _ => none }
def fnExactPlanTextRow : OpenClaim := { program := "ytckidmhkhlbkeaa", sum := "fba7ec03638092cf5413872d72ba0ec3e39d6802666b38ae4e8333a330e43a69", func := "loop.example/g00933/laws.FnExactPlanText", spec := "fnExactPlanText", inPlace := ["internal/abi.NoEscape", "internal/bytealg.MakeNoZero"], unfollowed := true, recurses := true, apart := false }
def FnExactPlanTextSaid : Prop := fnExactPlanTextRow.holds Try.pinned (OpenSpec.ofChange fnExactPlanTextSpec)

/-- ITS FALSE NEIGHBOUR: 'it returns false'. Refute it at one input. -/
def fnExactPlanTextWrong : ChangeSpec := { name := "fnExactPlanText", fn := fun _ => fun
  | [d1, d2] => { results := [.lit (.bool false)], args := [d1, d2] }
  | _ => none }
def FnExactPlanTextWrongFalsely : Prop := fnExactPlanTextRow.holds Try.pinned (OpenSpec.ofChange fnExactPlanTextWrong)

/-- 'laws.FnExactHiddenMarks': WHATEVER THE INPUT: true; the input reads as it did. -/
def fnExactHiddenMarksSpec : ChangeSpec := { name := "fnExactHiddenMarks", fn := fun _ => fun
  | [d1, d2] => { results := [.lit (.bool true)], args := [d1, d2] }
  | _ => none }
def fnExactHiddenMarksRow : OpenClaim := { program := "ytckidmhkhlbkeaa", sum := "fba7ec03638092cf5413872d72ba0ec3e39d6802666b38ae4e8333a330e43a69", func := "loop.example/g00933/laws.FnExactHiddenMarks", spec := "fnExactHiddenMarks", inPlace := ["internal/abi.NoEscape", "internal/bytealg.MakeNoZero"], unfollowed := true, recurses := true, apart := false }
def FnExactHiddenMarksSaid : Prop := fnExactHiddenMarksRow.holds Try.pinned (OpenSpec.ofChange fnExactHiddenMarksSpec)

/-- ITS FALSE NEIGHBOUR: 'it returns false'. Refute it at one input. -/
def fnExactHiddenMarksWrong : ChangeSpec := { name := "fnExactHiddenMarks", fn := fun _ => fun
  | [d1, d2] => { results := [.lit (.bool false)], args := [d1, d2] }
  | _ => none }
def FnExactHiddenMarksWrongFalsely : Prop := fnExactHiddenMarksRow.holds Try.pinned (OpenSpec.ofChange fnExactHiddenMarksWrong)

/-- 'laws.FnPlans': WHATEVER THE INPUT: true; the input reads as it did. -/
def fnPlansSpec : ChangeSpec := { name := "fnPlans", fn := fun _ => fun
  | [d] => { results := [.lit (.bool true)], args := [d] }
  | _ => none }
def fnPlansRow : OpenClaim := { program := "ytckidmhkhlbkeaa", sum := "fba7ec03638092cf5413872d72ba0ec3e39d6802666b38ae4e8333a330e43a69", func := "loop.example/g00933/laws.FnPlans", spec := "fnPlans", inPlace := ["internal/abi.NoEscape", "internal/bytealg.MakeNoZero"], unfollowed := true, recurses := true, apart := false }
def FnPlansSaid : Prop := fnPlansRow.holds Try.pinned (OpenSpec.ofChange fnPlansSpec)

/-- ITS FALSE NEIGHBOUR: 'it returns false'. Refute it at one input. -/
def fnPlansWrong : ChangeSpec := { name := "fnPlans", fn := fun _ => fun
  | [d] => { results := [.lit (.bool false)], args := [d] }
  | _ => none }
def FnPlansWrongFalsely : Prop := fnPlansRow.holds Try.pinned (OpenSpec.ofChange fnPlansWrong)

/-- 'laws.FnExactReadPlan': WHATEVER THE INPUT: true; the input reads as it did. -/
def fnExactReadPlanSpec : ChangeSpec := { name := "fnExactReadPlan", fn := fun _ => fun
  | [d] => { results := [.lit (.bool true)], args := [d] }
  | _ => none }
def fnExactReadPlanRow : OpenClaim := { program := "ytckidmhkhlbkeaa", sum := "fba7ec03638092cf5413872d72ba0ec3e39d6802666b38ae4e8333a330e43a69", func := "loop.example/g00933/laws.FnExactReadPlan", spec := "fnExactReadPlan", inPlace := ["internal/bytealg.IndexByteString", "internal/bytealg.abigen_runtime_cmpstring", "internal/abi.NoEscape", "internal/bytealg.MakeNoZero"], unfollowed := true, recurses := true, apart := false }
def FnExactReadPlanSaid : Prop := fnExactReadPlanRow.holds Try.pinned (OpenSpec.ofChange fnExactReadPlanSpec)

/-- ITS FALSE NEIGHBOUR: 'it returns false'. Refute it at one input. -/
def fnExactReadPlanWrong : ChangeSpec := { name := "fnExactReadPlan", fn := fun _ => fun
  | [d] => { results := [.lit (.bool false)], args := [d] }
  | _ => none }
def FnExactReadPlanWrongFalsely : Prop := fnExactReadPlanRow.holds Try.pinned (OpenSpec.ofChange fnExactReadPlanWrong)

/-- 'laws.FnPlanMarks': WHATEVER THE INPUT: true; the input reads as it did. -/
def fnPlanMarksSpec : ChangeSpec := { name := "fnPlanMarks", fn := fun _ => fun
  | [d] => { results := [.lit (.bool true)], args := [d] }
  | _ => none }
def fnPlanMarksRow : OpenClaim := { program := "ytckidmhkhlbkeaa", sum := "fba7ec03638092cf5413872d72ba0ec3e39d6802666b38ae4e8333a330e43a69", func := "loop.example/g00933/laws.FnPlanMarks", spec := "fnPlanMarks", inPlace := ["internal/bytealg.IndexByteString", "internal/bytealg.abigen_runtime_cmpstring", "internal/abi.NoEscape", "internal/bytealg.MakeNoZero"], unfollowed := true, recurses := true, apart := false }
def FnPlanMarksSaid : Prop := fnPlanMarksRow.holds Try.pinned (OpenSpec.ofChange fnPlanMarksSpec)

/-- ITS FALSE NEIGHBOUR: 'it returns false'. Refute it at one input. -/
def fnPlanMarksWrong : ChangeSpec := { name := "fnPlanMarks", fn := fun _ => fun
  | [d] => { results := [.lit (.bool false)], args := [d] }
  | _ => none }
def FnPlanMarksWrongFalsely : Prop := fnPlanMarksRow.holds Try.pinned (OpenSpec.ofChange fnPlanMarksWrong)

/- THE SECOND FORM. 'bulk': how many values and letters a reading holds, each counted each time it is reached (what is shared counts as often as it is met; a slice's spare places count too). A statement '..UptoSaid' is the law's where the arguments, and the package variables that the reading takes, are together of bulk at most 1048576: NARROWER than '..Said'. Prove '..Said' where nothing that the law and all that it calls make is longer than what came in: it says more and counts as full. Else prove '..UptoSaid'. A law counts once. -/
mutual
def uptoBulk {H : Type} : DataW H → Nat
  | .lit (.string bytes) => bytes.length + 1
  | .lit _ => 1
  | .nil => 1
  | .ptr d => uptoBulk d + 1
  | .slice elems spare => uptoBulkAll elems + uptoBulkAll spare + 1
  | .agg parts => uptoBulkAll parts + 1
  | .iface _ d => uptoBulk d + 1
  | .map entries => uptoBulkEntries entries + 1
  | .held _ => 1
def uptoBulkAll {H : Type} : List (DataW H) → Nat
  | [] => 0
  | d :: r => uptoBulk d + uptoBulkAll r
def uptoBulkEntries {H : Type} : List (Lit × DataW H) → Nat
  | [] => 0
  | x :: r => uptoBulkEntry x + uptoBulkEntries r
def uptoBulkEntry {H : Type} : Lit × DataW H → Nat
  | (.string bytes, d) => bytes.length + uptoBulk d + 1
  | (_, d) => uptoBulk d + 1
 end
def uptoSmall : (H : Type) → List (DataW H) → Bool := fun _ ds => decide (uptoBulkAll ds ≤ 1048576)
def OpenSpec.upto (s : _root_.Go.ChangeSpec) : _root_.Go.OpenSpec := { _root_.Go.OpenSpec.ofChange s with cond := some uptoSmall }

/-- 'laws.FnExactPlanText', WHERE WHAT IT READS IS OF BULK AT MOST 1048576: true; the input reads as it did. -/
def fnExactPlanTextUptoRow : OpenClaim := { program := "ytckidmhkhlbkeaa", sum := "fba7ec03638092cf5413872d72ba0ec3e39d6802666b38ae4e8333a330e43a69", func := "loop.example/g00933/laws.FnExactPlanText", spec := "fnExactPlanText", inPlace := ["internal/abi.NoEscape", "internal/bytealg.MakeNoZero"], unfollowed := true, recurses := true, apart := false, narrowed := true }
def FnExactPlanTextUptoSaid : Prop := fnExactPlanTextUptoRow.holds Try.pinned (OpenSpec.upto fnExactPlanTextSpec)

/-- 'laws.FnExactHiddenMarks', WHERE WHAT IT READS IS OF BULK AT MOST 1048576: true; the input reads as it did. -/
def fnExactHiddenMarksUptoRow : OpenClaim := { program := "ytckidmhkhlbkeaa", sum := "fba7ec03638092cf5413872d72ba0ec3e39d6802666b38ae4e8333a330e43a69", func := "loop.example/g00933/laws.FnExactHiddenMarks", spec := "fnExactHiddenMarks", inPlace := ["internal/abi.NoEscape", "internal/bytealg.MakeNoZero"], unfollowed := true, recurses := true, apart := false, narrowed := true }
def FnExactHiddenMarksUptoSaid : Prop := fnExactHiddenMarksUptoRow.holds Try.pinned (OpenSpec.upto fnExactHiddenMarksSpec)

/-- 'laws.FnPlans', WHERE WHAT IT READS IS OF BULK AT MOST 1048576: true; the input reads as it did. -/
def fnPlansUptoRow : OpenClaim := { program := "ytckidmhkhlbkeaa", sum := "fba7ec03638092cf5413872d72ba0ec3e39d6802666b38ae4e8333a330e43a69", func := "loop.example/g00933/laws.FnPlans", spec := "fnPlans", inPlace := ["internal/abi.NoEscape", "internal/bytealg.MakeNoZero"], unfollowed := true, recurses := true, apart := false, narrowed := true }
def FnPlansUptoSaid : Prop := fnPlansUptoRow.holds Try.pinned (OpenSpec.upto fnPlansSpec)

/-- 'laws.FnExactReadPlan', WHERE WHAT IT READS IS OF BULK AT MOST 1048576: true; the input reads as it did. -/
def fnExactReadPlanUptoRow : OpenClaim := { program := "ytckidmhkhlbkeaa", sum := "fba7ec03638092cf5413872d72ba0ec3e39d6802666b38ae4e8333a330e43a69", func := "loop.example/g00933/laws.FnExactReadPlan", spec := "fnExactReadPlan", inPlace := ["internal/bytealg.IndexByteString", "internal/bytealg.abigen_runtime_cmpstring", "internal/abi.NoEscape", "internal/bytealg.MakeNoZero"], unfollowed := true, recurses := true, apart := false, narrowed := true }
def FnExactReadPlanUptoSaid : Prop := fnExactReadPlanUptoRow.holds Try.pinned (OpenSpec.upto fnExactReadPlanSpec)

/-- 'laws.FnPlanMarks', WHERE WHAT IT READS IS OF BULK AT MOST 1048576: true; the input reads as it did. -/
def fnPlanMarksUptoRow : OpenClaim := { program := "ytckidmhkhlbkeaa", sum := "fba7ec03638092cf5413872d72ba0ec3e39d6802666b38ae4e8333a330e43a69", func := "loop.example/g00933/laws.FnPlanMarks", spec := "fnPlanMarks", inPlace := ["internal/bytealg.IndexByteString", "internal/bytealg.abigen_runtime_cmpstring", "internal/abi.NoEscape", "internal/bytealg.MakeNoZero"], unfollowed := true, recurses := true, apart := false, narrowed := true }
def FnPlanMarksUptoSaid : Prop := fnPlanMarksUptoRow.holds Try.pinned (OpenSpec.upto fnPlanMarksSpec)

end Rows
end Go.Proofs.Ytckidmhkhlbkeaa
