/- The law FnExactAreaAt's pure statement: the program's answer is the reference's. -/
import Derived.Test.YtaafbnnddlgafaaMTx6
import Derived.Test.YtaafbnnddlgafaaPWPassage
import Derived.Test.YtaafbnnddlgafaaPFind
import Derived.Test.YtaafbnnddlgafaaDecT
namespace Go.Proofs.Ytaafbnnddlgafaa.Pure
open Go.RowKit Go.Proofs.Ytaafbnnddlgafaa.MT Go.Proofs.YtaafbnnddlgafaaW.PrintWords Go.Proofs.YtaafbnnddlgafaaW.PrintLast Go.Proofs.YtaafbnnddlgafaaW.PrintMore
set_option linter.unusedVariables false
theorem FnExactAreaAt (l0 : List (S65)) (hm0 : l0.length ≤ 9223372036854775807) (hw0 : ∀ x ∈ l0, OK65 x) (a1 : Int) (w1 : (Lit.int .i64 a1).wf = true) : ∃ k, laws_FnExactAreaAt.f k l0 a1 = some true := by
  apply Ev.rounds
  have hc0 : (l0.map convPassage).length ≤ 9223372036854775807 := by rw [List.length_map]; exact hm0
  simp only [laws_FnExactAreaAt.f]
  by_cases hb0L : (l0.length : Int) ≤ 1048576
  case neg => exact Ev.bindc (szPassageS_neg l0 (1048576) hm0 (by omega) (by omega) hb0L) (Ev.ite_pos (by omega) (Ev.now true))
  refine Ev.bindc (szPassageS_pos l0 (1048576) (by omega) (by omega) hb0L) (Ev.ite_neg (by omega) ?_)
  have hb0 : l0.length ≤ 1048576 := by omega
  have t0 := toPassageS_ev l0 hb0
  have hS := specArea_ev (l0.map convPassage) a1 hc0
  have hI := implArea_ev (l0.map convPassage) a1 hc0
  generalize areaAns (l0.map convPassage) a1 = a at hS hI 
  have hq0 := eqPassageS_refl (l0.map convPassage) hc0
  repeat first
    | exact Ev.now _
    | with_reducible refine Ev.bind t0 ?_
    | with_reducible refine Ev.bind hS ?_
    | with_reducible refine Ev.bind hI ?_
    | with_reducible refine Ev.bind hq0 ?_
    | with_reducible refine Ev.ite_pos rfl ?_
    | refine Ev.ite_neg (by first | omega | (simp only [List.length_map]; omega)) ?_
    | refine Ev.ite_neg (by simp) ?_
    | refine Ev.ite_pos (by omega) ?_
    | (refine Ev.step (fun k => by rw [laws_FnExactAreaAt.j0]) ?_; try with_reducible refine Ev.ite_neg (by simp) ?_)
end Go.Proofs.Ytaafbnnddlgafaa.Pure
