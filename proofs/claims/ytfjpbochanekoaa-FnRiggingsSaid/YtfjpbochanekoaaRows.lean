/-
  No cell of these rows narrows 'for every input' (looked for: loops, veiled, ifaces, maps, wideKeys, modest, calm, conditions, laid).
  DERIVED. THE GIVEN ROWS OF THIS SEAT. 3 by the template 'for every input the law returns true; each argument reads behind the call as it read before'; 0 by the template 'total and deterministic' (their statements: YtfjpbochanekoaaTotals.lean).
  GIVEN WITH THE SEED: the statements are not yours to turn. If you find one false, say at which input.
  Laid BY PROGRAM, IN A SANDBOX (cutbox-rows.mjs): the forced cells as the released guide's own fill.sh prints them over the translation 5890125bf1c203e4… (all of the seat's roots in one cut). By AI agents, Wed Nov 11 2026. No macro, syntax, notation, axiom, sorry.
-/
import Derived.Test.YtfjpbochanekoaaChecked
import GoSem.Claim
import GoSem.ClaimJoined
import GoSem.ClaimMapViews
import Derived.JoinedTies
import Derived.KernelRfl
namespace Go.Proofs.Ytfjpbochanekoaa
/- THE CELL 'sum', in the pinned program and in every row, IS THE sha256 OF THE DUMP (.gsa) THAT YtfjpbochanekoaaProg.lean LOADS. Nothing in Lean hashes anything: it is a label: what it is worth is what the hold of that sum in a sandbox is worth. -/
noncomputable def Try.pinned : Pinned := { name := "ytfjpbochanekoaa", sum := "5890125bf1c203e4d580fd76d57dc15e823c1be7d4d9caea9d8d0d64694878df", checked := Try.checked }
namespace Rows
def none {H : Type} : Left H := { results := [], args := [] }

/-- 'laws.FnExactDeepestFirst': WHATEVER THE INPUT: true; the input reads as it did. -/
def fnExactDeepestFirstSpec : ChangeSpec := { name := "fnExactDeepestFirst", fn := fun _ => fun
  | [d1, d2] => { results := [.lit (.bool true)], args := [d1, d2] }
  | _ => none }
def fnExactDeepestFirstRow : OpenClaim := { program := "ytfjpbochanekoaa", sum := "5890125bf1c203e4d580fd76d57dc15e823c1be7d4d9caea9d8d0d64694878df", func := "loop.example/g00933/laws.FnExactDeepestFirst", spec := "fnExactDeepestFirst", unfollowed := true, recurses := true, apart := false }
def FnExactDeepestFirstSaid : Prop := fnExactDeepestFirstRow.holds Try.pinned (OpenSpec.ofChange fnExactDeepestFirstSpec)

/-- ITS FALSE NEIGHBOUR: 'it returns false'. Refute it at one input. -/
def fnExactDeepestFirstWrong : ChangeSpec := { name := "fnExactDeepestFirst", fn := fun _ => fun
  | [d1, d2] => { results := [.lit (.bool false)], args := [d1, d2] }
  | _ => none }
def FnExactDeepestFirstWrongFalsely : Prop := fnExactDeepestFirstRow.holds Try.pinned (OpenSpec.ofChange fnExactDeepestFirstWrong)

/-- 'laws.FnRopes': WHATEVER THE INPUT: true; the input reads as it did. -/
def fnRopesSpec : ChangeSpec := { name := "fnRopes", fn := fun _ => fun
  | [d] => { results := [.lit (.bool true)], args := [d] }
  | _ => none }
def fnRopesRow : OpenClaim := { program := "ytfjpbochanekoaa", sum := "5890125bf1c203e4d580fd76d57dc15e823c1be7d4d9caea9d8d0d64694878df", func := "loop.example/g00933/laws.FnRopes", spec := "fnRopes", unfollowed := true, recurses := true, apart := false }
def FnRopesSaid : Prop := fnRopesRow.holds Try.pinned (OpenSpec.ofChange fnRopesSpec)

/-- ITS FALSE NEIGHBOUR: 'it returns false'. Refute it at one input. -/
def fnRopesWrong : ChangeSpec := { name := "fnRopes", fn := fun _ => fun
  | [d] => { results := [.lit (.bool false)], args := [d] }
  | _ => none }
def FnRopesWrongFalsely : Prop := fnRopesRow.holds Try.pinned (OpenSpec.ofChange fnRopesWrong)

/-- 'laws.FnRiggings': WHATEVER THE INPUT: true; the input reads as it did. -/
def fnRiggingsSpec : ChangeSpec := { name := "fnRiggings", fn := fun _ => fun
  | [d] => { results := [.lit (.bool true)], args := [d] }
  | _ => none }
def fnRiggingsRow : OpenClaim := { program := "ytfjpbochanekoaa", sum := "5890125bf1c203e4d580fd76d57dc15e823c1be7d4d9caea9d8d0d64694878df", func := "loop.example/g00933/laws.FnRiggings", spec := "fnRiggings", unfollowed := true, recurses := true, apart := false }
def FnRiggingsSaid : Prop := fnRiggingsRow.holds Try.pinned (OpenSpec.ofChange fnRiggingsSpec)

/-- ITS FALSE NEIGHBOUR: 'it returns false'. Refute it at one input. -/
def fnRiggingsWrong : ChangeSpec := { name := "fnRiggings", fn := fun _ => fun
  | [d] => { results := [.lit (.bool false)], args := [d] }
  | _ => none }
def FnRiggingsWrongFalsely : Prop := fnRiggingsRow.holds Try.pinned (OpenSpec.ofChange fnRiggingsWrong)

/- THE SECOND FORM. 'bulk': how many values and letters a reading holds, each counted each time it is reached (what is shared counts as often as it is met; a slice's spare places count too). A statement '..UptoSaid' is the law's where the arguments, and the package variables that the reading takes, are together of bulk at most 1048576: NARROWER than '..Said'. Prove '..Said' where nothing that the law and all that it calls make is longer than what came in: it says more and counts as full. Else prove '..UptoSaid'. A law counts once. -/
mutual
def uptoBulk {H : Type} : DataW H → Nat
  | .lit (.string bytes) => bytes.length + 1
  | .lit _ => 1
  | .nil => 1
  | .ptr d => uptoBulk d + 1
  | .slice elems spare => uptoBulkAll elems + uptoBulkAll spare + 1
  | .agg parts => uptoBulkAll parts + 1
  | .iface _ d => uptoBulk d + 1
  | .map entries => uptoBulkEntries entries + 1
  | .held _ => 1
def uptoBulkAll {H : Type} : List (DataW H) → Nat
  | [] => 0
  | d :: r => uptoBulk d + uptoBulkAll r
def uptoBulkEntries {H : Type} : List (Lit × DataW H) → Nat
  | [] => 0
  | x :: r => uptoBulkEntry x + uptoBulkEntries r
def uptoBulkEntry {H : Type} : Lit × DataW H → Nat
  | (.string bytes, d) => bytes.length + uptoBulk d + 1
  | (_, d) => uptoBulk d + 1
 end
def uptoSmall : (H : Type) → List (DataW H) → Bool := fun _ ds => decide (uptoBulkAll ds ≤ 1048576)
def OpenSpec.upto (s : _root_.Go.ChangeSpec) : _root_.Go.OpenSpec := { _root_.Go.OpenSpec.ofChange s with cond := some uptoSmall }

/-- 'laws.FnExactDeepestFirst', WHERE WHAT IT READS IS OF BULK AT MOST 1048576: true; the input reads as it did. -/
def fnExactDeepestFirstUptoRow : OpenClaim := { program := "ytfjpbochanekoaa", sum := "5890125bf1c203e4d580fd76d57dc15e823c1be7d4d9caea9d8d0d64694878df", func := "loop.example/g00933/laws.FnExactDeepestFirst", spec := "fnExactDeepestFirst", unfollowed := true, recurses := true, apart := false, narrowed := true }
def FnExactDeepestFirstUptoSaid : Prop := fnExactDeepestFirstUptoRow.holds Try.pinned (OpenSpec.upto fnExactDeepestFirstSpec)

/-- 'laws.FnRopes', WHERE WHAT IT READS IS OF BULK AT MOST 1048576: true; the input reads as it did. -/
def fnRopesUptoRow : OpenClaim := { program := "ytfjpbochanekoaa", sum := "5890125bf1c203e4d580fd76d57dc15e823c1be7d4d9caea9d8d0d64694878df", func := "loop.example/g00933/laws.FnRopes", spec := "fnRopes", unfollowed := true, recurses := true, apart := false, narrowed := true }
def FnRopesUptoSaid : Prop := fnRopesUptoRow.holds Try.pinned (OpenSpec.upto fnRopesSpec)

/-- 'laws.FnRiggings', WHERE WHAT IT READS IS OF BULK AT MOST 1048576: true; the input reads as it did. -/
def fnRiggingsUptoRow : OpenClaim := { program := "ytfjpbochanekoaa", sum := "5890125bf1c203e4d580fd76d57dc15e823c1be7d4d9caea9d8d0d64694878df", func := "loop.example/g00933/laws.FnRiggings", spec := "fnRiggings", unfollowed := true, recurses := true, apart := false, narrowed := true }
def FnRiggingsUptoSaid : Prop := fnRiggingsUptoRow.holds Try.pinned (OpenSpec.upto fnRiggingsSpec)

end Rows
end Go.Proofs.Ytfjpbochanekoaa
