/- The law FnExactVolumeOf's pure statement: the program's answer is the reference's. -/
import Derived.Test.YtaafbnnddlgafaaMVx8
import Derived.Test.YtaafbnnddlgafaaPWPassage
import Derived.Test.YtaafbnnddlgafaaPWLeg
import Derived.Test.YtaafbnnddlgafaaPVolume
import Derived.Test.YtaafbnnddlgafaaDecV
namespace Go.Proofs.Ytaafbnnddlgafaa.Pure
open Go.RowKit Go.Proofs.Ytaafbnnddlgafaa.MV Go.Proofs.YtaafbnnddlgafaaW.PrintWords Go.Proofs.YtaafbnnddlgafaaW.PrintLast Go.Proofs.YtaafbnnddlgafaaW.PrintMore
set_option linter.unusedVariables false
theorem FnExactVolumeOf (l0 : List (S65)) (hm0 : l0.length ≤ 9223372036854775807) (hw0 : ∀ x ∈ l0, OK65 x) (l1 : List (S79)) (hm1 : l1.length ≤ 9223372036854775807) (hw1 : ∀ x ∈ l1, OK79 x) : ∃ k, laws_FnExactVolumeOf.f k l0 l1 = some true := by
  apply Ev.rounds
  have hc0 : (l0.map convPassage).length ≤ 9223372036854775807 := by rw [List.length_map]; exact hm0
  have hc1 : (l1.map convLeg).length ≤ 9223372036854775807 := by rw [List.length_map]; exact hm1
  simp only [laws_FnExactVolumeOf.f]
  by_cases hb0L : (l0.length : Int) ≤ 1048576
  case neg => exact Ev.bindc (szPassageS_neg l0 (1048576) hm0 (by omega) (by omega) hb0L) (Ev.ite_pos (by omega) (Ev.now true))
  refine Ev.bindc (szPassageS_pos l0 (1048576) (by omega) (by omega) hb0L) (Ev.ite_neg (by omega) ?_)
  have hb0 : l0.length ≤ 1048576 := by omega
  have t0 := toPassageS_ev l0 hb0
  by_cases hb1L : (l1.length : Int) ≤ 1048576 - (l0.length : Int)
  case neg => exact Ev.bindc (szLegS_neg l1 (1048576 - (l0.length : Int)) hm1 (by omega) (by omega) hb1L) (Ev.ite_pos (by omega) (Ev.now true))
  refine Ev.bindc (szLegS_pos l1 (1048576 - (l0.length : Int)) (by omega) (by omega) hb1L) (Ev.ite_neg (by omega) ?_)
  have hb1 : l1.length ≤ 1048576 := by omega
  have t1 := toLegS_ev l1 hb1
  have hS := specVol_ev (l0.map convPassage) (l1.map convLeg) hc0 hc1
  have hI := implVol_ev (l0.map convPassage) (l1.map convLeg) hc0 hc1
  generalize volAns (l0.map convPassage) (l1.map convLeg) = a at hS hI 
  have hq0 := eqPassageS_refl (l0.map convPassage) hc0
  have hq1 := eqLegS_refl (l1.map convLeg) hc1
  repeat first
    | exact Ev.now _
    | with_reducible refine Ev.bind t0 ?_
    | with_reducible refine Ev.bind t1 ?_
    | with_reducible refine Ev.bind hS ?_
    | with_reducible refine Ev.bind hI ?_
    | with_reducible refine Ev.bind hq0 ?_
    | with_reducible refine Ev.bind hq1 ?_
    | with_reducible refine Ev.ite_pos rfl ?_
    | refine Ev.ite_neg (by first | omega | (simp only [List.length_map]; omega)) ?_
    | refine Ev.ite_neg (by simp) ?_
    | refine Ev.ite_pos (by omega) ?_
    | (refine Ev.step (fun k => by rw [laws_FnExactVolumeOf.j0]) ?_; try with_reducible refine Ev.ite_neg (by simp) ?_)
end Go.Proofs.Ytaafbnnddlgafaa.Pure
