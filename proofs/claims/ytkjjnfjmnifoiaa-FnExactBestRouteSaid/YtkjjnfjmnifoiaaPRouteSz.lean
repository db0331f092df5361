/- Width and length of a route. -/
import Derived.Test.YtkjjnfjmnifoiaaMRx5
import Derived.Test.YtkjjnfjmnifoiaaPRouteLeg
import Derived.Test.YtkjjnfjmnifoiaaPLeast
namespace Go.Proofs.Ytkjjnfjmnifoiaa.Pure
open Go.RowKit Go.Proofs.Ytkjjnfjmnifoiaa.MR Go.Proofs.YtkjjnfjmnifoiaaW.PrintWords Go.Proofs.YtkjjnfjmnifoiaaW.PrintLast Go.Proofs.YtkjjnfjmnifoiaaW.PrintMore
set_option linter.unusedVariables false
set_option linter.unusedSimpArgs false
/-- The step of a route to its i-th station. -/
def viaOf (l : List S69) (ws r : List Int) (i : Nat) : Int := legOf l ws (r.getD (i - 1) 0) (r.getD i 0)
/-- Width and length of a route's steps from the i-th station on. -/
def sizeFrom (l : List S69) (ws r : List Int) : Nat → Nat → Int → Int → Int × Int
  | 0, _, w, s => (w, s)
  | d + 1, i, w, s => sizeFrom l ws r d (i + 1) (min w (rd ws (viaOf l ws r i))) (wrap64 (s + (rd_T69 l (viaOf l ws r i)).f2))
theorem specSize_loop {l : List S69} {ws : List Int} (hl : okLegs l = true) (hw : ws.length = l.length) {r : List Int} (hr : r.length ≤ 1048576) (hv : ∀ j, j < r.length → j ≠ 0 → 0 ≤ viaOf l ws r j) : ∀ d i (w s : Int), i + d = r.length → i ≠ 0 → Ev (fun k => spec_l15Size.l0 k l ws r w s (i : Int)) (sizeFrom l ws r d i w s) := by
  intro d
  induction d with
  | zero =>
    intro i w s hi h0
    refine Ev.step (f := fun _ => some (w, s)) (fun k => ?_) (Ev.now _)
    simp only [spec_l15Size.l0]
    rw [if_neg (by omega)]
  | succ d ih =>
    intro i w s hi h0
    have hwr : wrap64 ((i : Int) + 1) = ((i + 1 : Nat) : Int) := by unfold wrap64; omega
    have hwd : wrap64 ((i : Int) - 1) = ((i - 1 : Nat) : Int) := by unfold wrap64; omega
    have hin := legOf_in l ws (r.getD (i - 1) 0) (r.getD i 0)
    have hvi := hv i (by omega) h0
    have hnext := ih (i + 1) (min w (rd ws (viaOf l ws r i))) (wrap64 (s + (rd_T69 l (viaOf l ws r i)).f2)) (by omega) (by omega)
    simp only [sizeFrom]
    unfold viaOf at hvi hnext ⊢
    refine Ev.step (f := fun k => (spec_l15Leg.f k l ws (r.getD (i - 1) 0) (r.getD i 0)).bind fun t => if 0 ≤ t then (if t < (ws.length : Int) then ((spec_l1Least.f w (rd ws t)).bind fun t403 => if t < (l.length : Int) then spec_l15Size.l0 k l ws r t403 (wrap64 (s + (rd_T69 l t).f2)) ((i + 1 : Nat) : Int) else none) else none) else none) (fun k => ?_) (Ev.bind (specLeg_ev hl hw _ _) ?_)
    · simp only [spec_l15Size.l0, hwr, hwd, rd_nat]
      rw [if_pos (by omega), if_pos (by omega), if_pos (by omega), if_pos (by omega)]
    · refine Ev.ite_pos hvi (Ev.ite_pos (by omega) ?_)
      simp only [l1Least_eq, Option.bind_some]
      exact Ev.ite_pos (by omega) hnext
end Go.Proofs.Ytkjjnfjmnifoiaa.Pure
