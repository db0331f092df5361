/- The law FnExactDeepestFirst's pure statement: the program's answer is the reference's. -/
import Derived.Test.YtfjpbochanekoaaMFx6
import Derived.Test.YtfjpbochanekoaaPInts
import Derived.Test.YtfjpbochanekoaaPEqInts
import Derived.Test.YtfjpbochanekoaaPWPitch
import Derived.Test.YtfjpbochanekoaaPDeep
import Derived.Test.YtfjpbochanekoaaDecF
namespace Go.Proofs.Ytfjpbochanekoaa.Pure
open Go.RowKit Go.Proofs.Ytfjpbochanekoaa.MF Go.Proofs.YtfjpbochanekoaaW.PrintWords Go.Proofs.YtfjpbochanekoaaW.PrintLast Go.Proofs.YtfjpbochanekoaaW.PrintMore
set_option linter.unusedVariables false
set_option linter.unusedSimpArgs false
set_option linter.unusedVariables false
theorem FnExactDeepestFirst (l0 : List (S58)) (hm0 : l0.length ≤ 9223372036854775807) (hw0 : ∀ x ∈ l0, OK58 x) (l1 : List Int) (hm1 : l1.length ≤ 9223372036854775807) (hw1 : ∀ x ∈ l1, (Lit.int .i64 x).wf = true) : ∃ k, laws_FnExactDeepestFirst.f k l0 l1 = some true := by
  apply Ev.rounds
  have hc0 : (l0.map convPitch).length ≤ 9223372036854775807 := by rw [List.length_map]; exact hm0
  simp only [laws_FnExactDeepestFirst.f]
  by_cases hg1 : (l1.length : Int) > 1048576
  · exact Ev.ite_pos hg1 (Ev.now true)
  refine Ev.ite_neg hg1 ?_
  have hb1 : l1.length ≤ 1048576 := by omega
  have t1 := toIntS_ev l1 hb1
  by_cases hb0L : (l0.length : Int) ≤ 1048576
  case neg => exact Ev.bindc (szPitchS_neg l0 (1048576) hm0 (by omega) (by omega) hb0L) (Ev.ite_pos (by omega) (Ev.now true))
  refine Ev.bindc (szPitchS_pos l0 (1048576) (by omega) (by omega) hb0L) (Ev.ite_neg (by omega) ?_)
  have hb0 : l0.length ≤ 1048576 := by omega
  have t0 := toPitchS_ev l0 hb0
  have hS := (deep_both (l0.map convPitch) l1 hc0 hm1).choose_spec.1
  have hI := (deep_both (l0.map convPitch) l1 hc0 hm1).choose_spec.2.1
  generalize (deep_both (l0.map convPitch) l1 hc0 hm1).choose = a at hS hI 
  have hq0 := eqPitchS_refl (l0.map convPitch) hc0
  have hq1 := eqIntS_same l1 hm1
  repeat first
    | exact Ev.now _
    | with_reducible refine Ev.bind t1 ?_
    | with_reducible refine Ev.bind t0 ?_
    | with_reducible refine Ev.bind hS ?_
    | with_reducible refine Ev.bind hI ?_
    | with_reducible refine Ev.bind hq0 ?_
    | with_reducible refine Ev.bind hq1 ?_
    | with_reducible refine Ev.ite_pos rfl ?_
    | refine Ev.ite_neg (by first | omega | (simp only [List.length_map]; omega)) ?_
    | refine Ev.ite_neg (by simp) ?_
    | refine Ev.ite_pos (by omega) ?_
    | (refine Ev.step (fun k => by rw [laws_FnExactDeepestFirst.j0]) ?_; try with_reducible refine Ev.ite_neg (by simp) ?_)
end Go.Proofs.Ytfjpbochanekoaa.Pure
