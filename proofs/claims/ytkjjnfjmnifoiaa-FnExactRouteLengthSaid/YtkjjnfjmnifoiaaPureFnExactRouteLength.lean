/- The law FnExactRouteLength's pure statement: the program's answer is the reference's. -/
import Derived.Test.YtkjjnfjmnifoiaaMRx7
import Derived.Test.YtkjjnfjmnifoiaaPInts
import Derived.Test.YtkjjnfjmnifoiaaPEqInts
import Derived.Test.YtkjjnfjmnifoiaaPWLeg
import Derived.Test.YtkjjnfjmnifoiaaPRouteWL
import Derived.Test.YtkjjnfjmnifoiaaDecR
namespace Go.Proofs.Ytkjjnfjmnifoiaa.Pure
open Go.RowKit Go.Proofs.Ytkjjnfjmnifoiaa.MR Go.Proofs.YtkjjnfjmnifoiaaW.PrintWords Go.Proofs.YtkjjnfjmnifoiaaW.PrintLast Go.Proofs.YtkjjnfjmnifoiaaW.PrintMore
set_option linter.unusedVariables false
theorem FnExactRouteLength (l0 : List (S81)) (hm0 : l0.length ≤ 9223372036854775807) (hw0 : ∀ x ∈ l0, OK81 x) (l1 : List Int) (hm1 : l1.length ≤ 9223372036854775807) (hw1 : ∀ x ∈ l1, (Lit.int .i64 x).wf = true) (l2 : List Int) (hm2 : l2.length ≤ 9223372036854775807) (hw2 : ∀ x ∈ l2, (Lit.int .i64 x).wf = true) : ∃ k, laws_FnExactRouteLength.f k l0 l1 l2 = some true := by
  apply Ev.rounds
  have hc0 : (l0.map convLeg).length ≤ 9223372036854775807 := by rw [List.length_map]; exact hm0
  simp only [laws_FnExactRouteLength.f]
  by_cases hg1 : (l1.length : Int) > 1048576
  · exact Ev.ite_pos hg1 (Ev.now true)
  refine Ev.ite_neg hg1 ?_
  have hb1 : l1.length ≤ 1048576 := by omega
  have t1 := toIntS_ev l1 hb1
  by_cases hg2 : (l2.length : Int) > 1048576
  · exact Ev.ite_pos hg2 (Ev.now true)
  refine Ev.ite_neg hg2 ?_
  have hb2 : l2.length ≤ 1048576 := by omega
  have t2 := toIntS_ev l2 hb2
  by_cases hb0L : (l0.length : Int) ≤ 1048576
  case neg => exact Ev.bindc (szLegS_neg l0 (1048576) hm0 (by omega) (by omega) hb0L) (Ev.ite_pos (by omega) (Ev.now true))
  refine Ev.bindc (szLegS_pos l0 (1048576) (by omega) (by omega) hb0L) (Ev.ite_neg (by omega) ?_)
  have hb0 : l0.length ≤ 1048576 := by omega
  have t0 := toLegS_ev l0 hb0
  have hS := specRL_ev (l0.map convLeg) l1 l2 hc0 hm1 hb2
  have hI := implRL_ev (l0.map convLeg) l1 l2 hc0 hb2
  generalize routeLengthAns (l0.map convLeg) l1 l2 = a at hS hI 
  have hq0 := eqLegS_refl (l0.map convLeg) hc0
  have hq1 := eqIntS_same l1 hm1
  have hq2 := eqIntS_same l2 hm2
  repeat first
    | exact Ev.now _
    | with_reducible refine Ev.bind t1 ?_
    | with_reducible refine Ev.bind t2 ?_
    | with_reducible refine Ev.bind t0 ?_
    | with_reducible refine Ev.bind hS ?_
    | with_reducible refine Ev.bind hI ?_
    | with_reducible refine Ev.bind hq0 ?_
    | with_reducible refine Ev.bind hq1 ?_
    | with_reducible refine Ev.bind hq2 ?_
    | with_reducible refine Ev.ite_pos rfl ?_
    | refine Ev.ite_neg (by first | omega | (simp only [List.length_map]; omega)) ?_
    | refine Ev.ite_neg (by simp) ?_
    | refine Ev.ite_pos (by omega) ?_
    | (refine Ev.step (fun k => by rw [laws_FnExactRouteLength.j0]) ?_; try with_reducible refine Ev.ite_neg (by simp) ?_)
end Go.Proofs.Ytkjjnfjmnifoiaa.Pure
