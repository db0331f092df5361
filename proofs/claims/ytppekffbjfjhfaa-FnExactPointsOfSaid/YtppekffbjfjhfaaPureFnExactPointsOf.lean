/- The law FnExactPointsOf's pure statement: the program's answer is the reference's. -/
import Derived.Test.YtppekffbjfjhfaaMQx5
import Derived.Test.YtppekffbjfjhfaaPWRun
import Derived.Test.YtppekffbjfjhfaaPMRun
import Derived.Test.YtppekffbjfjhfaaPPoints
import Derived.Test.YtppekffbjfjhfaaDecQ
namespace Go.Proofs.Ytppekffbjfjhfaa.Pure
open Go.RowKit Go.Proofs.Ytppekffbjfjhfaa.MQ Go.Proofs.YtppekffbjfjhfaaW.PrintWords Go.Proofs.YtppekffbjfjhfaaW.PrintLast Go.Proofs.YtppekffbjfjhfaaW.PrintMore
set_option linter.unusedVariables false
set_option linter.unusedSimpArgs false
set_option linter.unusedVariables false
theorem FnExactPointsOf (l0 : List (S59)) (hm0 : l0.length ≤ 9223372036854775807) (hw0 : ∀ x ∈ l0, OK59 x) : ∃ k, laws_FnExactPointsOf.f k l0 = some true := by
  apply Ev.rounds
  have hc0 : (l0.map convRun).length ≤ 9223372036854775807 := by rw [List.length_map]; exact hm0
  simp only [laws_FnExactPointsOf.f]
  by_cases hb0L : (l0.length : Int) ≤ 1048576
  case neg => exact Ev.bindc (szRunS_neg l0 (1048576) hm0 (by omega) (by omega) hb0L) (Ev.ite_pos (by omega) (Ev.now true))
  refine Ev.bindc (szRunS_pos l0 (1048576) (by omega) (by omega) hb0L) (Ev.ite_neg (by omega) ?_)
  have hb0 : l0.length ≤ 1048576 := by omega
  have t0 := toRunS_ev l0 hb0
  have hS := specPointsOf_ev (l0.map convRun) hc0
  have hI := implPointsOf_ev (l0.map convRun) hc0
  have hB0 := pointsAns_len (l0.map convRun)
  generalize pointsAns (l0.map convRun) = a at hS hI hB0
  have he0 := eqIntSS_refl a.1 (by omega)
  obtain ⟨c0, g0, hk0, hh0, hz0⟩ := markIntSS_held a.1 (by omega)
  have hq0 := eqRunS_refl (l0.map convRun) hc0
  have hn0 := markRunS_ev (l0.map convRun) (1) (by first | omega | (simp only [List.length_map]; omega)) (by first | omega | (simp only [List.length_map]; omega)) (by first | omega | (simp only [List.length_map]; omega))
  repeat first
    | exact Ev.now _
    | exact Ev.ite_pos (by simp; omega) (Ev.now true)
    | with_reducible refine Ev.bind t0 ?_
    | with_reducible refine Ev.bind hS ?_
    | with_reducible refine Ev.bind hI ?_
    | with_reducible refine Ev.bind he0 ?_
    | with_reducible refine Ev.bind hh0 ?_
    | with_reducible refine Ev.bind hk0 ?_
    | with_reducible refine Ev.bind hq0 ?_
    | with_reducible refine Ev.bind hn0 ?_
    | with_reducible refine Ev.ite_pos rfl ?_
    | refine Ev.ite_neg (by first | omega | (simp only [List.length_map]; omega)) ?_
    | refine Ev.ite_neg (by simp) ?_
    | refine Ev.ite_pos (by omega) ?_
end Go.Proofs.Ytppekffbjfjhfaa.Pure
