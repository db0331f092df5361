/- The law FnExactMergePassages's pure statement: the program's answer is the reference's. -/
import Derived.Test.YtaafbnnddlgafaaMGx9
import Derived.Test.YtaafbnnddlgafaaPWPassage
import Derived.Test.YtaafbnnddlgafaaPMPassage
import Derived.Test.YtaafbnnddlgafaaPMerge
import Derived.Test.YtaafbnnddlgafaaDecG
namespace Go.Proofs.Ytaafbnnddlgafaa.Pure
open Go.RowKit Go.Proofs.Ytaafbnnddlgafaa.MG Go.Proofs.YtaafbnnddlgafaaW.PrintWords Go.Proofs.YtaafbnnddlgafaaW.PrintLast Go.Proofs.YtaafbnnddlgafaaW.PrintMore
set_option linter.unusedVariables false
theorem FnExactMergePassages (l0 : List (S65)) (hm0 : l0.length ≤ 9223372036854775807) (hw0 : ∀ x ∈ l0, OK65 x) (l1 : List (S65)) (hm1 : l1.length ≤ 9223372036854775807) (hw1 : ∀ x ∈ l1, OK65 x) : ∃ k, laws_FnExactMergePassages.f k l0 l1 = some true := by
  apply Ev.rounds
  have hc0 : (l0.map convPassage).length ≤ 9223372036854775807 := by rw [List.length_map]; exact hm0
  have hc1 : (l1.map convPassage).length ≤ 9223372036854775807 := by rw [List.length_map]; exact hm1
  simp only [laws_FnExactMergePassages.f]
  by_cases hb0L : (l0.length : Int) ≤ 1048576
  case neg => exact Ev.bindc (szPassageS_neg l0 (1048576) hm0 (by omega) (by omega) hb0L) (Ev.ite_pos (by omega) (Ev.now true))
  refine Ev.bindc (szPassageS_pos l0 (1048576) (by omega) (by omega) hb0L) (Ev.ite_neg (by omega) ?_)
  have hb0 : l0.length ≤ 1048576 := by omega
  have t0 := toPassageS_ev l0 hb0
  by_cases hb1L : (l1.length : Int) ≤ 1048576 - (l0.length : Int)
  case neg => exact Ev.bindc (szPassageS_neg l1 (1048576 - (l0.length : Int)) hm1 (by omega) (by omega) hb1L) (Ev.ite_pos (by omega) (Ev.now true))
  refine Ev.bindc (szPassageS_pos l1 (1048576 - (l0.length : Int)) (by omega) (by omega) hb1L) (Ev.ite_neg (by omega) ?_)
  have hb1 : l1.length ≤ 1048576 := by omega
  have t1 := toPassageS_ev l1 hb1
  have hS := specMerge_ev (l0.map convPassage) (l1.map convPassage) hc0 hc1
  have hI := implMerge_ev (l0.map convPassage) (l1.map convPassage) hc0 hc1
  have hB0 := mergeAns_len (l0.map convPassage) (l1.map convPassage)
  generalize mergeAns (l0.map convPassage) (l1.map convPassage) = a at hS hI hB0
  have he0 := eqPassageS_refl a.1 (by omega)
  have hh0 := heldPassageS_ev a.1.length 1 (by omega) (by omega) (by omega)
  have hk0 := markPassageS_ev a.1 1 (by omega) (by omega) (by omega)
  have hq0 := eqPassageS_refl (l0.map convPassage) hc0
  have hq1 := eqPassageS_refl (l1.map convPassage) hc1
  have hn0 := markPassageS_ev (l0.map convPassage) (1) (by first | omega | (simp only [List.length_map]; omega)) (by first | omega | (simp only [List.length_map]; omega)) (by first | omega | (simp only [List.length_map]; omega))
  have hn1 := markPassageS_ev (l1.map convPassage) (1 + 5 * ((l0.map convPassage).length : Int)) (by first | omega | (simp only [List.length_map]; omega)) (by first | omega | (simp only [List.length_map]; omega)) (by first | omega | (simp only [List.length_map]; omega))
  repeat first
    | exact Ev.now _
    | with_reducible refine Ev.bind t0 ?_
    | with_reducible refine Ev.bind t1 ?_
    | with_reducible refine Ev.bind hS ?_
    | with_reducible refine Ev.bind hI ?_
    | with_reducible refine Ev.bind he0 ?_
    | with_reducible refine Ev.bind hh0 ?_
    | with_reducible refine Ev.bind hk0 ?_
    | with_reducible refine Ev.bind hq0 ?_
    | with_reducible refine Ev.bind hq1 ?_
    | with_reducible refine Ev.bind hn0 ?_
    | with_reducible refine Ev.bind hn1 ?_
    | with_reducible refine Ev.ite_pos rfl ?_
    | refine Ev.ite_neg (by first | omega | (simp only [List.length_map]; omega)) ?_
    | refine Ev.ite_neg (by simp) ?_
    | refine Ev.ite_pos (by omega) ?_
    | (refine Ev.step (fun k => by rw [laws_FnExactMergePassages.j0]) ?_; try with_reducible refine Ev.ite_neg (by simp) ?_)
    | (refine Ev.step (fun k => by rw [laws_FnExactMergePassages.j1]) ?_; try with_reducible refine Ev.ite_neg (by simp) ?_)
    | (refine Ev.step (fun k => by rw [laws_FnExactMergePassages.j2]) ?_; try with_reducible refine Ev.ite_neg (by simp) ?_)
end Go.Proofs.Ytaafbnnddlgafaa.Pure
