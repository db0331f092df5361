/- The law FnExactJoinWays's pure statement: the program's answer is the reference's. -/
import Derived.Test.YtppekffbjfjhfaaMJx4
import Derived.Test.YtppekffbjfjhfaaPWRun
import Derived.Test.YtppekffbjfjhfaaPMRun
import Derived.Test.YtppekffbjfjhfaaPJoin
import Derived.Test.YtppekffbjfjhfaaDecJ
namespace Go.Proofs.Ytppekffbjfjhfaa.Pure
open Go.RowKit Go.Proofs.Ytppekffbjfjhfaa.MJ Go.Proofs.YtppekffbjfjhfaaW.PrintWords Go.Proofs.YtppekffbjfjhfaaW.PrintLast Go.Proofs.YtppekffbjfjhfaaW.PrintMore
set_option linter.unusedVariables false
theorem FnExactJoinWays (l0 : List (S59)) (hm0 : l0.length ≤ 9223372036854775807) (hw0 : ∀ x ∈ l0, OK59 x) (l1 : List (S59)) (hm1 : l1.length ≤ 9223372036854775807) (hw1 : ∀ x ∈ l1, OK59 x) : ∃ k, laws_FnExactJoinWays.f k l0 l1 = some true := by
  apply Ev.rounds
  have hc0 : (l0.map convRun).length ≤ 9223372036854775807 := by rw [List.length_map]; exact hm0
  have hc1 : (l1.map convRun).length ≤ 9223372036854775807 := by rw [List.length_map]; exact hm1
  simp only [laws_FnExactJoinWays.f]
  by_cases hb0L : (l0.length : Int) ≤ 1048576
  case neg => exact Ev.bindc (szRunS_neg l0 (1048576) hm0 (by omega) (by omega) hb0L) (Ev.ite_pos (by omega) (Ev.now true))
  refine Ev.bindc (szRunS_pos l0 (1048576) (by omega) (by omega) hb0L) (Ev.ite_neg (by omega) ?_)
  have hb0 : l0.length ≤ 1048576 := by omega
  have t0 := toRunS_ev l0 hb0
  by_cases hb1L : (l1.length : Int) ≤ 1048576 - (l0.length : Int)
  case neg => exact Ev.bindc (szRunS_neg l1 (1048576 - (l0.length : Int)) hm1 (by omega) (by omega) hb1L) (Ev.ite_pos (by omega) (Ev.now true))
  refine Ev.bindc (szRunS_pos l1 (1048576 - (l0.length : Int)) (by omega) (by omega) hb1L) (Ev.ite_neg (by omega) ?_)
  have hb1 : l1.length ≤ 1048576 := by omega
  have t1 := toRunS_ev l1 hb1
  have hS := specJoin_ev (l0.map convRun) (l1.map convRun) (by rw [List.length_map]; exact hb0) (by rw [List.length_map]; exact hb1)
  have hI := implJoin_ev (l0.map convRun) (l1.map convRun) hc0 hc1
  have hB0 := joinAns_len (l0.map convRun) (l1.map convRun)
  generalize joinAns (l0.map convRun) (l1.map convRun) = a at hS hI hB0
  have he0 := eqRunS_refl a.1 (by omega)
  have hh0 := heldRunS_ev a.1.length 1 (by omega) (by omega) (by omega)
  have hk0 := markRunS_ev a.1 1 (by omega) (by omega) (by omega)
  have hq0 := eqRunS_refl (l0.map convRun) hc0
  have hq1 := eqRunS_refl (l1.map convRun) hc1
  have hn0 := markRunS_ev (l0.map convRun) (1) (by first | omega | (simp only [List.length_map]; omega)) (by first | omega | (simp only [List.length_map]; omega)) (by first | omega | (simp only [List.length_map]; omega))
  have hn1 := markRunS_ev (l1.map convRun) (1 + 2 * ((l0.map convRun).length : Int)) (by first | omega | (simp only [List.length_map]; omega)) (by first | omega | (simp only [List.length_map]; omega)) (by first | omega | (simp only [List.length_map]; omega))
  repeat first
    | exact Ev.now _
    | with_reducible refine Ev.bind t0 ?_
    | with_reducible refine Ev.bind t1 ?_
    | with_reducible refine Ev.bind hS ?_
    | with_reducible refine Ev.bind hI ?_
    | with_reducible refine Ev.bind he0 ?_
    | with_reducible refine Ev.bind hh0 ?_
    | with_reducible refine Ev.bind hk0 ?_
    | with_reducible refine Ev.bind hq0 ?_
    | with_reducible refine Ev.bind hq1 ?_
    | with_reducible refine Ev.bind hn0 ?_
    | with_reducible refine Ev.bind hn1 ?_
    | with_reducible refine Ev.ite_pos rfl ?_
    | refine Ev.ite_neg (by first | omega | (simp only [List.length_map]; omega)) ?_
    | refine Ev.ite_neg (by simp) ?_
    | refine Ev.ite_pos (by omega) ?_
    | (refine Ev.step (fun k => by rw [laws_FnExactJoinWays.j0]) ?_; try with_reducible refine Ev.ite_neg (by simp) ?_)
    | (refine Ev.step (fun k => by rw [laws_FnExactJoinWays.j1]) ?_; try with_reducible refine Ev.ite_neg (by simp) ?_)
    | (refine Ev.step (fun k => by rw [laws_FnExactJoinWays.j2]) ?_; try with_reducible refine Ev.ite_neg (by simp) ?_)
end Go.Proofs.Ytppekffbjfjhfaa.Pure
