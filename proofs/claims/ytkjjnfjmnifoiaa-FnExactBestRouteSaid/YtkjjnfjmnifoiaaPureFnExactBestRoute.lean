/- The law FnExactBestRoute's pure statement: the program's answer is the reference's. -/
import Derived.Test.YtkjjnfjmnifoiaaMRx8
import Derived.Test.YtkjjnfjmnifoiaaPInts
import Derived.Test.YtkjjnfjmnifoiaaPEqInts
import Derived.Test.YtkjjnfjmnifoiaaPMInts
import Derived.Test.YtkjjnfjmnifoiaaPWLeg
import Derived.Test.YtkjjnfjmnifoiaaPMLeg
import Derived.Test.YtkjjnfjmnifoiaaPBestRoute
import Derived.Test.YtkjjnfjmnifoiaaDecR
namespace Go.Proofs.Ytkjjnfjmnifoiaa.Pure
open Go.RowKit Go.Proofs.Ytkjjnfjmnifoiaa.MR Go.Proofs.YtkjjnfjmnifoiaaW.PrintWords Go.Proofs.YtkjjnfjmnifoiaaW.PrintLast Go.Proofs.YtkjjnfjmnifoiaaW.PrintMore
set_option linter.unusedVariables false
set_option linter.unusedSimpArgs false
set_option linter.unusedVariables false
theorem FnExactBestRoute (l0 : List (S81)) (hm0 : l0.length ≤ 9223372036854775807) (hw0 : ∀ x ∈ l0, OK81 x) (l1 : List Int) (hm1 : l1.length ≤ 9223372036854775807) (hw1 : ∀ x ∈ l1, (Lit.int .i64 x).wf = true) (a2 : Int) (w2 : (Lit.int .i64 a2).wf = true) (a3 : Int) (w3 : (Lit.int .i64 a3).wf = true) (a4 : Int) (w4 : (Lit.int .i64 a4).wf = true) : ∃ k, laws_FnExactBestRoute.f k l0 l1 a2 a3 a4 = some true := by
  apply Ev.rounds
  have hc0 : (l0.map convLeg).length ≤ 9223372036854775807 := by rw [List.length_map]; exact hm0
  simp only [laws_FnExactBestRoute.f]
  by_cases hg1 : (l1.length : Int) > 1048576
  · exact Ev.ite_pos hg1 (Ev.now true)
  refine Ev.ite_neg hg1 ?_
  have hb1 : l1.length ≤ 1048576 := by omega
  have t1 := toIntS_ev l1 hb1
  by_cases hb0L : (l0.length : Int) ≤ 1048576
  case neg => exact Ev.bindc (szLegS_neg l0 (1048576) hm0 (by omega) (by omega) hb0L) (Ev.ite_pos (by omega) (Ev.now true))
  refine Ev.bindc (szLegS_pos l0 (1048576) (by omega) (by omega) hb0L) (Ev.ite_neg (by omega) ?_)
  have hb0 : l0.length ≤ 1048576 := by omega
  have t0 := toLegS_ev l0 hb0
  have hS := specBR_ev (l0.map convLeg) l1 a2 a3 a4 hc0 hm1
  have hI := implBR_ev (l0.map convLeg) l1 a2 a3 a4 hc0
  have hB0 := routeAns_len (l0.map convLeg) l1 a2 a3 a4
  generalize routeAns (l0.map convLeg) l1 a2 a3 a4 = a at hS hI hB0
  have he0 := eqIntS_same a.1 (by omega)
  have hh0 := heldIntS_ev a.1.length 1 (by omega) (by omega) (by omega)
  have hk0 := markIntS_ev a.1 1 (by omega) (by omega) (by omega)
  have hq0 := eqLegS_refl (l0.map convLeg) hc0
  have hq1 := eqIntS_same l1 hm1
  have hn0 := markLegS_ev (l0.map convLeg) (1) (by first | omega | (simp only [List.length_map]; omega)) (by first | omega | (simp only [List.length_map]; omega)) (by first | omega | (simp only [List.length_map]; omega))
  have hn1 := markIntS_ev l1 (1 + 5 * ((l0.map convLeg).length : Int)) (by first | omega | (simp only [List.length_map]; omega)) (by first | omega | (simp only [List.length_map]; omega)) (by first | omega | (simp only [List.length_map]; omega))
  repeat first
    | exact Ev.now _
    | with_reducible refine Ev.bind t1 ?_
    | with_reducible refine Ev.bind t0 ?_
    | with_reducible refine Ev.bind hS ?_
    | with_reducible refine Ev.bind hI ?_
    | with_reducible refine Ev.bind he0 ?_
    | with_reducible refine Ev.bind hh0 ?_
    | with_reducible refine Ev.bind hk0 ?_
    | with_reducible refine Ev.bind hq0 ?_
    | with_reducible refine Ev.bind hq1 ?_
    | with_reducible refine Ev.bind hn0 ?_
    | with_reducible refine Ev.bind hn1 ?_
    | with_reducible refine Ev.ite_pos rfl ?_
    | refine Ev.ite_neg (by first | omega | (simp only [List.length_map]; omega)) ?_
    | refine Ev.ite_neg (by simp) ?_
    | refine Ev.ite_pos (by omega) ?_
    | (refine Ev.step (fun k => by rw [laws_FnExactBestRoute.j0]) ?_; try with_reducible refine Ev.ite_neg (by simp) ?_)
    | (refine Ev.step (fun k => by rw [laws_FnExactBestRoute.j1]) ?_; try with_reducible refine Ev.ite_neg (by simp) ?_)
    | (refine Ev.step (fun k => by rw [laws_FnExactBestRoute.j2]) ?_; try with_reducible refine Ev.ite_neg (by simp) ?_)
end Go.Proofs.Ytkjjnfjmnifoiaa.Pure
