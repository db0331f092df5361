/- The law FnExactWallsAt's pure statement: the program's answer is the reference's. -/
import Derived.Test.YtfbkhdlhkfbfcaaDoorMAx11
import Derived.Test.YtfbkhdlhkfbfcaaDoorPWPassage
import Derived.Test.YtfbkhdlhkfbfcaaDoorPWalls
import Derived.Test.YtfbkhdlhkfbfcaaDoorPWalls2
import Derived.Test.YtfbkhdlhkfbfcaaDoorDecA
namespace Go.Proofs.YtfbkhdlhkfbfcaaDoor.Pure
open Go.RowKit Go.Proofs.YtfbkhdlhkfbfcaaDoor.MA Go.Proofs.YtfbkhdlhkfbfcaaDoorW.PrintWords Go.Proofs.YtfbkhdlhkfbfcaaDoorW.PrintLast Go.Proofs.YtfbkhdlhkfbfcaaDoorW.PrintMore
set_option linter.unusedVariables false
set_option linter.unusedSimpArgs false
set_option linter.unusedVariables false
theorem FnExactWallsAt (l0 : List (S64)) (hm0 : l0.length ≤ 9223372036854775807) (hw0 : ∀ x ∈ l0, OK64 x) (x1 : S24) (hw1 : OK24 x1) : ∃ k, laws_FnExactWallsAt.f k l0 x1.f0 x1.f1 x1.f2 x1.f3 x1.f4 = some true := by
 apply Ev.rounds
 have hc0 : (l0.map convPassage).length ≤ 9223372036854775807 := by rw [List.length_map]; exact hm0
 simp only [laws_FnExactWallsAt.f]
 by_cases hb0L : (l0.length : Int) ≤ 1048576
 case neg => exact Ev.bindc (szPassageS_neg l0 (1048576) hm0 (by omega) (by omega) hb0L) (Ev.ite_pos (by omega) (Ev.now true))
 refine Ev.bindc (szPassageS_pos l0 (1048576) (by omega) (by omega) hb0L) (Ev.ite_neg (by omega) ?_)
 have hb0 : l0.length ≤ 1048576 := by omega
 have t0 := toPassageS_ev l0 hb0
 have hS := specWalls_ev (l0.map convPassage) x1.f0 x1.f1 x1.f2 x1.f3 x1.f4 hc0
 have hI := implWalls_ev (l0.map convPassage) x1.f0 x1.f1 x1.f2 x1.f3 x1.f4 hc0
 generalize wallsAns (l0.map convPassage) x1.f0 x1.f1 x1.f2 x1.f3 x1.f4 = a at hS hI 
 have hq0 := eqPassageS_refl (l0.map convPassage) hc0
 repeat first
  | exact Ev.now _
  | with_reducible refine Ev.bind t0 ?_
  | with_reducible refine Ev.bind hS ?_
  | with_reducible refine Ev.bind hI ?_
  | with_reducible refine Ev.bind hq0 ?_
  | with_reducible refine Ev.bindc (eqWalls_same a) ?_
  | with_reducible refine Ev.bindc (toLegV_eq _ _ _ _ _) ?_
  | with_reducible refine Ev.ite_pos rfl ?_
  | refine Ev.ite_neg (by first | omega | (simp only [List.length_map]; omega)) ?_
  | refine Ev.ite_neg (by simp) ?_
  | refine Ev.ite_pos (by omega) ?_
  | (refine Ev.step (fun k => by rw [laws_FnExactWallsAt.j0]) ?_; try with_reducible refine Ev.ite_neg (by simp) ?_)
end Go.Proofs.YtfbkhdlhkfbfcaaDoor.Pure
