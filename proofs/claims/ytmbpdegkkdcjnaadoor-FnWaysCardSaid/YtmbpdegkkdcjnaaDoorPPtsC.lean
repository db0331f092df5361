/- The points of a way: the program's and the reference's answers. -/
import Derived.Test.YtmbpdegkkdcjnaaDoorMWx3
import Derived.Test.YtmbpdegkkdcjnaaDoorPRuns
namespace Go.Proofs.YtmbpdegkkdcjnaaDoor.Pure
open Go.RowKit Go.Proofs.YtmbpdegkkdcjnaaDoor.MW Go.Proofs.YtmbpdegkkdcjnaaDoorW.PrintWords Go.Proofs.YtmbpdegkkdcjnaaDoorW.PrintLast Go.Proofs.YtmbpdegkkdcjnaaDoorW.PrintMore
set_option linter.unusedVariables false
set_option linter.unusedSimpArgs false
def pointsFrom (l : List S44) : Nat → Nat → Int → Int → List (List Int) → List (List Int)
 | 0, _, _, _, acc => acc
 | d + 1, i, x, y, acc => pointsFrom l d (i + 1) (wrap64 (x + (l.getD i z44).f0)) (wrap64 (y + (l.getD i z44).f1)) (acc ++ [[wrap64 (x + (l.getD i z44).f0), wrap64 (y + (l.getD i z44).f1)]])
theorem specPoints_loop {l : List S44} (h12 : l.length ≤ 12) : ∀ d i (x y : Int) (acc : List (List Int)), i + d = l.length → acc.length ≤ i + 1 → Ev (fun k => spec_PointsOf.l0 k l acc x y (i : Int)) (pointsFrom l d i x y acc, true) := by
 intro d
 induction d with
 | zero =>
  intro i x y acc hi _
  refine Ev.step (f := fun _ => some (acc, true)) (fun k => ?_) (Ev.now _)
  simp only [spec_PointsOf.l0]
  rw [if_neg (by omega)]
 | succ d ih =>
  intro i x y acc hi ha
  have hwr : wrap64 ((i : Int) + 1) = ((i + 1 : Nat) : Int) := by unfold wrap64; omega
  refine Ev.step (fun k => ?_) (ih (i + 1) _ _ _ (by omega) (by simp; omega))
  simp only [spec_PointsOf.l0, rdR, hwr]
  rw [if_pos (by omega), if_pos (by omega), if_pos (by omega)]
theorem implPoints_loop {l : List S44} (h12 : l.length ≤ 12) : ∀ d i (x y : Int) (acc : List (List Int)), i + d = l.length → acc.length ≤ i + 1 → Ev (fun k => impl_PointsOf.l0 k x y acc l (l.length : Int) (i : Int)) (pointsFrom l d i x y acc, true) := by
 intro d
 induction d with
 | zero =>
  intro i x y acc hi _
  refine Ev.step (f := fun _ => some (acc, true)) (fun k => ?_) (Ev.now _)
  simp only [impl_PointsOf.l0]
  rw [if_neg (by omega)]
 | succ d ih =>
  intro i x y acc hi ha
  have hwr : wrap64 ((i : Int) + 1) = ((i + 1 : Nat) : Int) := by unfold wrap64; omega
  refine Ev.step (fun k => ?_) (ih (i + 1) _ _ _ (by omega) (by simp; omega))
  simp only [impl_PointsOf.l0, rdR, hwr]
  rw [if_pos (by omega), if_pos (by omega), if_pos (by omega), if_pos (by omega)]
def pointsAns (l : List S44) : List (List Int) × Bool := if okWay l = true then (pointsFrom l l.length 0 0 0 [[0, 0]], true) else ([], false)
theorem specPointsOf_ev (l : List S44) (hm : l.length ≤ 9223372036854775807) : Ev (fun k => spec_PointsOf.f k l) (pointsAns l) := by
 simp only [spec_PointsOf.f]
 refine Ev.bind (l14Good_ev l hm) ?_
 by_cases h : okWay l = true
 ·rw [show pointsAns l = _ from if_pos h]
  exact Ev.ite_pos h (specPoints_loop (okWay_len h) l.length 0 0 0 [[0, 0]] (by omega) (by simp))
 ·rw [show pointsAns l = _ from if_neg h]
  exact Ev.ite_neg h (Ev.now _)
theorem implPointsOf_ev (l : List S44) (hm : l.length ≤ 9223372036854775807) : Ev (fun k => impl_PointsOf.f k l) (pointsAns l) := by
 simp only [impl_PointsOf.f]
 refine Ev.bind (isWay_ev l hm) ?_
 by_cases h : okWay l = true
 ·rw [show pointsAns l = _ from if_pos h]
  exact Ev.ite_pos h (implPoints_loop (okWay_len h) l.length 0 0 0 [[0, 0]] (by omega) (by simp))
 ·rw [show pointsAns l = _ from if_neg h]
  exact Ev.ite_neg h (Ev.now _)
end Go.Proofs.YtmbpdegkkdcjnaaDoor.Pure
