/- The law FnExactRemotestStation's pure statement: the program's answer is the reference's. -/
import Derived.Test.YtdfmjmmiepmplaaMTx7
import Derived.Test.YtdfmjmmiepmplaaPInts
import Derived.Test.YtdfmjmmiepmplaaPEqInts
import Derived.Test.YtdfmjmmiepmplaaPWLeg
import Derived.Test.YtdfmjmmiepmplaaPRemote
import Derived.Test.YtdfmjmmiepmplaaDecT
namespace Go.Proofs.Ytdfmjmmiepmplaa.Pure
open Go.RowKit Go.Proofs.Ytdfmjmmiepmplaa.MT Go.Proofs.YtdfmjmmiepmplaaW.PrintWords Go.Proofs.YtdfmjmmiepmplaaW.PrintLast Go.Proofs.YtdfmjmmiepmplaaW.PrintMore
set_option linter.unusedVariables false
set_option linter.unusedSimpArgs false
set_option linter.unusedVariables false
theorem FnExactRemotestStation (l0 : List (S71)) (hm0 : l0.length ≤ 9223372036854775807) (hw0 : ∀ x ∈ l0, OK71 x) (l1 : List Int) (hm1 : l1.length ≤ 9223372036854775807) (hw1 : ∀ x ∈ l1, (Lit.int .i64 x).wf = true) : ∃ k, laws_FnExactRemotestStation.f k l0 l1 = some true := by
  apply Ev.rounds
  have hc0 : (l0.map convLeg).length ≤ 9223372036854775807 := by rw [List.length_map]; exact hm0
  simp only [laws_FnExactRemotestStation.f]
  by_cases hg1 : (l1.length : Int) > 1048576
  · exact Ev.ite_pos hg1 (Ev.now true)
  refine Ev.ite_neg hg1 ?_
  have hb1 : l1.length ≤ 1048576 := by omega
  have t1 := toIntS_ev l1 hb1
  by_cases hb0L : (l0.length : Int) ≤ 1048576
  case neg => exact Ev.bindc (szLegS_neg l0 (1048576) hm0 (by omega) (by omega) hb0L) (Ev.ite_pos (by omega) (Ev.now true))
  refine Ev.bindc (szLegS_pos l0 (1048576) (by omega) (by omega) hb0L) (Ev.ite_neg (by omega) ?_)
  have hb0 : l0.length ≤ 1048576 := by omega
  have t0 := toLegS_ev l0 hb0
  have hS := specRem_ev (l0.map convLeg) l1 hc0 hb1
  have hI := implRem_ev (l0.map convLeg) l1 hc0 hb1
  generalize remAns (l0.map convLeg) l1 = a at hS hI 
  have hq0 := eqLegS_refl (l0.map convLeg) hc0
  have hq1 := eqIntS_same l1 hm1
  repeat first
    | exact Ev.now _
    | with_reducible refine Ev.bind t1 ?_
    | with_reducible refine Ev.bind t0 ?_
    | with_reducible refine Ev.bind hS ?_
    | with_reducible refine Ev.bind hI ?_
    | with_reducible refine Ev.bind hq0 ?_
    | with_reducible refine Ev.bind hq1 ?_
    | with_reducible refine Ev.ite_pos rfl ?_
    | refine Ev.ite_neg (by first | omega | (simp only [List.length_map]; omega)) ?_
    | refine Ev.ite_neg (by simp) ?_
    | refine Ev.ite_pos (by omega) ?_
    | (refine Ev.step (fun k => by rw [laws_FnExactRemotestStation.j0]) ?_; try with_reducible refine Ev.ite_neg (by simp) ?_)
end Go.Proofs.Ytdfmjmmiepmplaa.Pure
