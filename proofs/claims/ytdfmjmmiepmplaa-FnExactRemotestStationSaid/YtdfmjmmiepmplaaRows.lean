/-
  No cell of these rows narrows 'for every input' (looked for: loops, veiled, ifaces, maps, wideKeys, modest, calm, conditions, laid).
  DERIVED. THE GIVEN ROWS OF THIS SEAT. 9 by the template 'for every input the law returns true; each argument reads behind the call as it read before'; 0 by the template 'total and deterministic' (their statements: YtdfmjmmiepmplaaTotals.lean).
  GIVEN WITH THE SEED: the statements are not yours to turn. If you find one false, say at which input.
  Laid BY PROGRAM, IN A SANDBOX (cutbox-rows.mjs): the forced cells as the released guide's own fill.sh prints them over the translation c5f14c88fdd7c000… (all of the seat's roots in one cut). By AI agents, Wed Nov 11 2026. No macro, syntax, notation, axiom, sorry.
-/
import Derived.Test.YtdfmjmmiepmplaaChecked
import GoSem.Claim
import GoSem.ClaimJoined
import GoSem.ClaimMapViews
import Derived.JoinedTies
import Derived.KernelRfl
namespace Go.Proofs.Ytdfmjmmiepmplaa
/- THE CELL 'sum', in the pinned program and in every row, IS THE sha256 OF THE DUMP (.gsa) THAT YtdfmjmmiepmplaaProg.lean LOADS. Nothing in Lean hashes anything: it is a label: what it is worth is what the hold of that sum in a sandbox is worth. -/
noncomputable def Try.pinned : Pinned := { name := "ytdfmjmmiepmplaa", sum := "c5f14c88fdd7c00055c9feabb5a8af61a9ccbbbb1373d313d928abf91184d5bd", checked := Try.checked }
namespace Rows
def none {H : Type} : Left H := { results := [], args := [] }

/-- 'laws.FnExactCaveLength': WHATEVER THE INPUT: true; the input reads as it did. -/
def fnExactCaveLengthSpec : ChangeSpec := { name := "fnExactCaveLength", fn := fun _ => fun
  | [d1, d2] => { results := [.lit (.bool true)], args := [d1, d2] }
  | _ => none }
def fnExactCaveLengthRow : OpenClaim := { program := "ytdfmjmmiepmplaa", sum := "c5f14c88fdd7c00055c9feabb5a8af61a9ccbbbb1373d313d928abf91184d5bd", func := "loop.example/g00933/laws.FnExactCaveLength", spec := "fnExactCaveLength", apart := false }
def FnExactCaveLengthSaid : Prop := fnExactCaveLengthRow.holds Try.pinned (OpenSpec.ofChange fnExactCaveLengthSpec)

/-- ITS FALSE NEIGHBOUR: 'it returns false'. Refute it at one input. -/
def fnExactCaveLengthWrong : ChangeSpec := { name := "fnExactCaveLength", fn := fun _ => fun
  | [d1, d2] => { results := [.lit (.bool false)], args := [d1, d2] }
  | _ => none }
def FnExactCaveLengthWrongFalsely : Prop := fnExactCaveLengthRow.holds Try.pinned (OpenSpec.ofChange fnExactCaveLengthWrong)

/-- 'laws.FnExactWouldConnect': WHATEVER THE INPUT: true; the input reads as it did. -/
def fnExactWouldConnectSpec : ChangeSpec := { name := "fnExactWouldConnect", fn := fun _ => fun
  | [d1, d2, d3] => { results := [.lit (.bool true)], args := [d1, d2, d3] }
  | _ => none }
def fnExactWouldConnectRow : OpenClaim := { program := "ytdfmjmmiepmplaa", sum := "c5f14c88fdd7c00055c9feabb5a8af61a9ccbbbb1373d313d928abf91184d5bd", func := "loop.example/g00933/laws.FnExactWouldConnect", spec := "fnExactWouldConnect", apart := false }
def FnExactWouldConnectSaid : Prop := fnExactWouldConnectRow.holds Try.pinned (OpenSpec.ofChange fnExactWouldConnectSpec)

/-- ITS FALSE NEIGHBOUR: 'it returns false'. Refute it at one input. -/
def fnExactWouldConnectWrong : ChangeSpec := { name := "fnExactWouldConnect", fn := fun _ => fun
  | [d1, d2, d3] => { results := [.lit (.bool false)], args := [d1, d2, d3] }
  | _ => none }
def FnExactWouldConnectWrongFalsely : Prop := fnExactWouldConnectRow.holds Try.pinned (OpenSpec.ofChange fnExactWouldConnectWrong)

/-- 'laws.FnExactLongestCave': WHATEVER THE INPUT: true; the input reads as it did. -/
def fnExactLongestCaveSpec : ChangeSpec := { name := "fnExactLongestCave", fn := fun _ => fun
  | [d] => { results := [.lit (.bool true)], args := [d] }
  | _ => none }
def fnExactLongestCaveRow : OpenClaim := { program := "ytdfmjmmiepmplaa", sum := "c5f14c88fdd7c00055c9feabb5a8af61a9ccbbbb1373d313d928abf91184d5bd", func := "loop.example/g00933/laws.FnExactLongestCave", spec := "fnExactLongestCave", unfollowed := true, recurses := true, apart := false }
def FnExactLongestCaveSaid : Prop := fnExactLongestCaveRow.holds Try.pinned (OpenSpec.ofChange fnExactLongestCaveSpec)

/-- ITS FALSE NEIGHBOUR: 'it returns false'. Refute it at one input. -/
def fnExactLongestCaveWrong : ChangeSpec := { name := "fnExactLongestCave", fn := fun _ => fun
  | [d] => { results := [.lit (.bool false)], args := [d] }
  | _ => none }
def FnExactLongestCaveWrongFalsely : Prop := fnExactLongestCaveRow.holds Try.pinned (OpenSpec.ofChange fnExactLongestCaveWrong)

/-- 'laws.FnExactRemotestStation': WHATEVER THE INPUT: true; the input reads as it did. -/
def fnExactRemotestStationSpec : ChangeSpec := { name := "fnExactRemotestStation", fn := fun _ => fun
  | [d1, d2] => { results := [.lit (.bool true)], args := [d1, d2] }
  | _ => none }
def fnExactRemotestStationRow : OpenClaim := { program := "ytdfmjmmiepmplaa", sum := "c5f14c88fdd7c00055c9feabb5a8af61a9ccbbbb1373d313d928abf91184d5bd", func := "loop.example/g00933/laws.FnExactRemotestStation", spec := "fnExactRemotestStation", apart := false }
def FnExactRemotestStationSaid : Prop := fnExactRemotestStationRow.holds Try.pinned (OpenSpec.ofChange fnExactRemotestStationSpec)

/-- ITS FALSE NEIGHBOUR: 'it returns false'. Refute it at one input. -/
def fnExactRemotestStationWrong : ChangeSpec := { name := "fnExactRemotestStation", fn := fun _ => fun
  | [d1, d2] => { results := [.lit (.bool false)], args := [d1, d2] }
  | _ => none }
def FnExactRemotestStationWrongFalsely : Prop := fnExactRemotestStationRow.holds Try.pinned (OpenSpec.ofChange fnExactRemotestStationWrong)

/-- 'laws.FnExactThroughTrips': WHATEVER THE INPUT: true; the input reads as it did. -/
def fnExactThroughTripsSpec : ChangeSpec := { name := "fnExactThroughTrips", fn := fun _ => fun
  | [d1, d2] => { results := [.lit (.bool true)], args := [d1, d2] }
  | _ => none }
def fnExactThroughTripsRow : OpenClaim := { program := "ytdfmjmmiepmplaa", sum := "c5f14c88fdd7c00055c9feabb5a8af61a9ccbbbb1373d313d928abf91184d5bd", func := "loop.example/g00933/laws.FnExactThroughTrips", spec := "fnExactThroughTrips", apart := false }
def FnExactThroughTripsSaid : Prop := fnExactThroughTripsRow.holds Try.pinned (OpenSpec.ofChange fnExactThroughTripsSpec)

/-- ITS FALSE NEIGHBOUR: 'it returns false'. Refute it at one input. -/
def fnExactThroughTripsWrong : ChangeSpec := { name := "fnExactThroughTrips", fn := fun _ => fun
  | [d1, d2] => { results := [.lit (.bool false)], args := [d1, d2] }
  | _ => none }
def FnExactThroughTripsWrongFalsely : Prop := fnExactThroughTripsRow.holds Try.pinned (OpenSpec.ofChange fnExactThroughTripsWrong)

/-- 'laws.FnExactCavesOf': WHATEVER THE INPUT: true; the input reads as it did. -/
def fnExactCavesOfSpec : ChangeSpec := { name := "fnExactCavesOf", fn := fun _ => fun
  | [d] => { results := [.lit (.bool true)], args := [d] }
  | _ => none }
def fnExactCavesOfRow : OpenClaim := { program := "ytdfmjmmiepmplaa", sum := "c5f14c88fdd7c00055c9feabb5a8af61a9ccbbbb1373d313d928abf91184d5bd", func := "loop.example/g00933/laws.FnExactCavesOf", spec := "fnExactCavesOf", unfollowed := true, recurses := true, apart := false }
def FnExactCavesOfSaid : Prop := fnExactCavesOfRow.holds Try.pinned (OpenSpec.ofChange fnExactCavesOfSpec)

/-- ITS FALSE NEIGHBOUR: 'it returns false'. Refute it at one input. -/
def fnExactCavesOfWrong : ChangeSpec := { name := "fnExactCavesOf", fn := fun _ => fun
  | [d] => { results := [.lit (.bool false)], args := [d] }
  | _ => none }
def FnExactCavesOfWrongFalsely : Prop := fnExactCavesOfRow.holds Try.pinned (OpenSpec.ofChange fnExactCavesOfWrong)

/-- 'laws.FnExactStepsFrom': WHATEVER THE INPUT: true; the input reads as it did. -/
def fnExactStepsFromSpec : ChangeSpec := { name := "fnExactStepsFrom", fn := fun _ => fun
  | [d1, d2] => { results := [.lit (.bool true)], args := [d1, d2] }
  | _ => none }
def fnExactStepsFromRow : OpenClaim := { program := "ytdfmjmmiepmplaa", sum := "c5f14c88fdd7c00055c9feabb5a8af61a9ccbbbb1373d313d928abf91184d5bd", func := "loop.example/g00933/laws.FnExactStepsFrom", spec := "fnExactStepsFrom", apart := false }
def FnExactStepsFromSaid : Prop := fnExactStepsFromRow.holds Try.pinned (OpenSpec.ofChange fnExactStepsFromSpec)

/-- ITS FALSE NEIGHBOUR: 'it returns false'. Refute it at one input. -/
def fnExactStepsFromWrong : ChangeSpec := { name := "fnExactStepsFrom", fn := fun _ => fun
  | [d1, d2] => { results := [.lit (.bool false)], args := [d1, d2] }
  | _ => none }
def FnExactStepsFromWrongFalsely : Prop := fnExactStepsFromRow.holds Try.pinned (OpenSpec.ofChange fnExactStepsFromWrong)

/-- 'laws.FnExactCavesWithout': WHATEVER THE INPUT: true; the input reads as it did. -/
def fnExactCavesWithoutSpec : ChangeSpec := { name := "fnExactCavesWithout", fn := fun _ => fun
  | [d1, d2] => { results := [.lit (.bool true)], args := [d1, d2] }
  | _ => none }
def fnExactCavesWithoutRow : OpenClaim := { program := "ytdfmjmmiepmplaa", sum := "c5f14c88fdd7c00055c9feabb5a8af61a9ccbbbb1373d313d928abf91184d5bd", func := "loop.example/g00933/laws.FnExactCavesWithout", spec := "fnExactCavesWithout", unfollowed := true, recurses := true, apart := false }
def FnExactCavesWithoutSaid : Prop := fnExactCavesWithoutRow.holds Try.pinned (OpenSpec.ofChange fnExactCavesWithoutSpec)

/-- ITS FALSE NEIGHBOUR: 'it returns false'. Refute it at one input. -/
def fnExactCavesWithoutWrong : ChangeSpec := { name := "fnExactCavesWithout", fn := fun _ => fun
  | [d1, d2] => { results := [.lit (.bool false)], args := [d1, d2] }
  | _ => none }
def FnExactCavesWithoutWrongFalsely : Prop := fnExactCavesWithoutRow.holds Try.pinned (OpenSpec.ofChange fnExactCavesWithoutWrong)

/-- 'laws.FnCaves': WHATEVER THE INPUT: true; the input reads as it did. -/
def fnCavesSpec : ChangeSpec := { name := "fnCaves", fn := fun _ => fun
  | [d] => { results := [.lit (.bool true)], args := [d] }
  | _ => none }
def fnCavesRow : OpenClaim := { program := "ytdfmjmmiepmplaa", sum := "c5f14c88fdd7c00055c9feabb5a8af61a9ccbbbb1373d313d928abf91184d5bd", func := "loop.example/g00933/laws.FnCaves", spec := "fnCaves", unfollowed := true, recurses := true, apart := false }
def FnCavesSaid : Prop := fnCavesRow.holds Try.pinned (OpenSpec.ofChange fnCavesSpec)

/-- ITS FALSE NEIGHBOUR: 'it returns false'. Refute it at one input. -/
def fnCavesWrong : ChangeSpec := { name := "fnCaves", fn := fun _ => fun
  | [d] => { results := [.lit (.bool false)], args := [d] }
  | _ => none }
def FnCavesWrongFalsely : Prop := fnCavesRow.holds Try.pinned (OpenSpec.ofChange fnCavesWrong)

/- THE SECOND FORM. 'bulk': how many values and letters a reading holds, each counted each time it is reached (what is shared counts as often as it is met; a slice's spare places count too). A statement '..UptoSaid' is the law's where the arguments, and the package variables that the reading takes, are together of bulk at most 1048576: NARROWER than '..Said'. Prove '..Said' where nothing that the law and all that it calls make is longer than what came in: it says more and counts as full. Else prove '..UptoSaid'. A law counts once. -/
mutual
def uptoBulk {H : Type} : DataW H → Nat
  | .lit (.string bytes) => bytes.length + 1
  | .lit _ => 1
  | .nil => 1
  | .ptr d => uptoBulk d + 1
  | .slice elems spare => uptoBulkAll elems + uptoBulkAll spare + 1
  | .agg parts => uptoBulkAll parts + 1
  | .iface _ d => uptoBulk d + 1
  | .map entries => uptoBulkEntries entries + 1
  | .held _ => 1
def uptoBulkAll {H : Type} : List (DataW H) → Nat
  | [] => 0
  | d :: r => uptoBulk d + uptoBulkAll r
def uptoBulkEntries {H : Type} : List (Lit × DataW H) → Nat
  | [] => 0
  | x :: r => uptoBulkEntry x + uptoBulkEntries r
def uptoBulkEntry {H : Type} : Lit × DataW H → Nat
  | (.string bytes, d) => bytes.length + uptoBulk d + 1
  | (_, d) => uptoBulk d + 1
 end
def uptoSmall : (H : Type) → List (DataW H) → Bool := fun _ ds => decide (uptoBulkAll ds ≤ 1048576)
def OpenSpec.upto (s : _root_.Go.ChangeSpec) : _root_.Go.OpenSpec := { _root_.Go.OpenSpec.ofChange s with cond := some uptoSmall }

/-- 'laws.FnExactCaveLength', WHERE WHAT IT READS IS OF BULK AT MOST 1048576: true; the input reads as it did. -/
def fnExactCaveLengthUptoRow : OpenClaim := { program := "ytdfmjmmiepmplaa", sum := "c5f14c88fdd7c00055c9feabb5a8af61a9ccbbbb1373d313d928abf91184d5bd", func := "loop.example/g00933/laws.FnExactCaveLength", spec := "fnExactCaveLength", apart := false, narrowed := true }
def FnExactCaveLengthUptoSaid : Prop := fnExactCaveLengthUptoRow.holds Try.pinned (OpenSpec.upto fnExactCaveLengthSpec)

/-- 'laws.FnExactWouldConnect', WHERE WHAT IT READS IS OF BULK AT MOST 1048576: true; the input reads as it did. -/
def fnExactWouldConnectUptoRow : OpenClaim := { program := "ytdfmjmmiepmplaa", sum := "c5f14c88fdd7c00055c9feabb5a8af61a9ccbbbb1373d313d928abf91184d5bd", func := "loop.example/g00933/laws.FnExactWouldConnect", spec := "fnExactWouldConnect", apart := false, narrowed := true }
def FnExactWouldConnectUptoSaid : Prop := fnExactWouldConnectUptoRow.holds Try.pinned (OpenSpec.upto fnExactWouldConnectSpec)

/-- 'laws.FnExactLongestCave', WHERE WHAT IT READS IS OF BULK AT MOST 1048576: true; the input reads as it did. -/
def fnExactLongestCaveUptoRow : OpenClaim := { program := "ytdfmjmmiepmplaa", sum := "c5f14c88fdd7c00055c9feabb5a8af61a9ccbbbb1373d313d928abf91184d5bd", func := "loop.example/g00933/laws.FnExactLongestCave", spec := "fnExactLongestCave", unfollowed := true, recurses := true, apart := false, narrowed := true }
def FnExactLongestCaveUptoSaid : Prop := fnExactLongestCaveUptoRow.holds Try.pinned (OpenSpec.upto fnExactLongestCaveSpec)

/-- 'laws.FnExactRemotestStation', WHERE WHAT IT READS IS OF BULK AT MOST 1048576: true; the input reads as it did. -/
def fnExactRemotestStationUptoRow : OpenClaim := { program := "ytdfmjmmiepmplaa", sum := "c5f14c88fdd7c00055c9feabb5a8af61a9ccbbbb1373d313d928abf91184d5bd", func := "loop.example/g00933/laws.FnExactRemotestStation", spec := "fnExactRemotestStation", apart := false, narrowed := true }
def FnExactRemotestStationUptoSaid : Prop := fnExactRemotestStationUptoRow.holds Try.pinned (OpenSpec.upto fnExactRemotestStationSpec)

/-- 'laws.FnExactThroughTrips', WHERE WHAT IT READS IS OF BULK AT MOST 1048576: true; the input reads as it did. -/
def fnExactThroughTripsUptoRow : OpenClaim := { program := "ytdfmjmmiepmplaa", sum := "c5f14c88fdd7c00055c9feabb5a8af61a9ccbbbb1373d313d928abf91184d5bd", func := "loop.example/g00933/laws.FnExactThroughTrips", spec := "fnExactThroughTrips", apart := false, narrowed := true }
def FnExactThroughTripsUptoSaid : Prop := fnExactThroughTripsUptoRow.holds Try.pinned (OpenSpec.upto fnExactThroughTripsSpec)

/-- 'laws.FnExactCavesOf', WHERE WHAT IT READS IS OF BULK AT MOST 1048576: true; the input reads as it did. -/
def fnExactCavesOfUptoRow : OpenClaim := { program := "ytdfmjmmiepmplaa", sum := "c5f14c88fdd7c00055c9feabb5a8af61a9ccbbbb1373d313d928abf91184d5bd", func := "loop.example/g00933/laws.FnExactCavesOf", spec := "fnExactCavesOf", unfollowed := true, recurses := true, apart := false, narrowed := true }
def FnExactCavesOfUptoSaid : Prop := fnExactCavesOfUptoRow.holds Try.pinned (OpenSpec.upto fnExactCavesOfSpec)

/-- 'laws.FnExactStepsFrom', WHERE WHAT IT READS IS OF BULK AT MOST 1048576: true; the input reads as it did. -/
def fnExactStepsFromUptoRow : OpenClaim := { program := "ytdfmjmmiepmplaa", sum := "c5f14c88fdd7c00055c9feabb5a8af61a9ccbbbb1373d313d928abf91184d5bd", func := "loop.example/g00933/laws.FnExactStepsFrom", spec := "fnExactStepsFrom", apart := false, narrowed := true }
def FnExactStepsFromUptoSaid : Prop := fnExactStepsFromUptoRow.holds Try.pinned (OpenSpec.upto fnExactStepsFromSpec)

/-- 'laws.FnExactCavesWithout', WHERE WHAT IT READS IS OF BULK AT MOST 1048576: true; the input reads as it did. -/
def fnExactCavesWithoutUptoRow : OpenClaim := { program := "ytdfmjmmiepmplaa", sum := "c5f14c88fdd7c00055c9feabb5a8af61a9ccbbbb1373d313d928abf91184d5bd", func := "loop.example/g00933/laws.FnExactCavesWithout", spec := "fnExactCavesWithout", unfollowed := true, recurses := true, apart := false, narrowed := true }
def FnExactCavesWithoutUptoSaid : Prop := fnExactCavesWithoutUptoRow.holds Try.pinned (OpenSpec.upto fnExactCavesWithoutSpec)

/-- 'laws.FnCaves', WHERE WHAT IT READS IS OF BULK AT MOST 1048576: true; the input reads as it did. -/
def fnCavesUptoRow : OpenClaim := { program := "ytdfmjmmiepmplaa", sum := "c5f14c88fdd7c00055c9feabb5a8af61a9ccbbbb1373d313d928abf91184d5bd", func := "loop.example/g00933/laws.FnCaves", spec := "fnCaves", unfollowed := true, recurses := true, apart := false, narrowed := true }
def FnCavesUptoSaid : Prop := fnCavesUptoRow.holds Try.pinned (OpenSpec.upto fnCavesSpec)

end Rows
end Go.Proofs.Ytdfmjmmiepmplaa
