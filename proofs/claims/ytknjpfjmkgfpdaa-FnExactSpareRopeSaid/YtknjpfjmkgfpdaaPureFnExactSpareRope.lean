/- The law FnExactSpareRope's pure statement: the program's answer is the reference's. -/
import Derived.Test.YtknjpfjmkgfpdaaMRx7
import Derived.Test.YtknjpfjmkgfpdaaPInts
import Derived.Test.YtknjpfjmkgfpdaaPEqInts
import Derived.Test.YtknjpfjmkgfpdaaPWPitch
import Derived.Test.YtknjpfjmkgfpdaaPSpare
import Derived.Test.YtknjpfjmkgfpdaaDecR
namespace Go.Proofs.Ytknjpfjmkgfpdaa.Pure
open Go.RowKit Go.Proofs.Ytknjpfjmkgfpdaa.MR Go.Proofs.YtknjpfjmkgfpdaaW.PrintWords Go.Proofs.YtknjpfjmkgfpdaaW.PrintLast Go.Proofs.YtknjpfjmkgfpdaaW.PrintMore
set_option linter.unusedVariables false
set_option linter.unusedSimpArgs false
set_option linter.unusedVariables false
theorem FnExactSpareRope (l0 : List (S23)) (hm0 : l0.length ≤ 9223372036854775807) (hw0 : ∀ x ∈ l0, OK23 x) (l1 : List Int) (hm1 : l1.length ≤ 9223372036854775807) (hw1 : ∀ x ∈ l1, (Lit.int .i64 x).wf = true) : ∃ k, laws_FnExactSpareRope.f k l0 l1 = some true := by
  apply Ev.rounds
  have hc0 : (l0.map convPitch).length ≤ 9223372036854775807 := by rw [List.length_map]; exact hm0
  simp only [laws_FnExactSpareRope.f]
  by_cases hg1 : (l1.length : Int) > 1048576
  · exact Ev.ite_pos hg1 (Ev.now true)
  refine Ev.ite_neg hg1 ?_
  have hb1 : l1.length ≤ 1048576 := by omega
  have t1 := toIntS_ev l1 hb1
  by_cases hb0L : (l0.length : Int) ≤ 1048576
  case neg => exact Ev.bindc (szPitchS_neg l0 (1048576) hm0 (by omega) (by omega) hb0L) (Ev.ite_pos (by omega) (Ev.now true))
  refine Ev.bindc (szPitchS_pos l0 (1048576) (by omega) (by omega) hb0L) (Ev.ite_neg (by omega) ?_)
  have hb0 : l0.length ≤ 1048576 := by omega
  have t0 := toPitchS_ev l0 hb0
  have hS := specSpare_ev (l0.map convPitch) l1 hc0 hm1
  have hI := implSpare_ev (l0.map convPitch) l1
  generalize spareAns (l0.map convPitch) l1 = a at hS hI 
  have hq0 := eqPitchS_refl (l0.map convPitch) hc0
  have hq1 := eqIntS_same l1 hm1
  repeat first
    | exact Ev.now _
    | with_reducible refine Ev.bind t1 ?_
    | with_reducible refine Ev.bind t0 ?_
    | with_reducible refine Ev.bind hS ?_
    | with_reducible refine Ev.bind hI ?_
    | with_reducible refine Ev.bind hq0 ?_
    | with_reducible refine Ev.bind hq1 ?_
    | with_reducible refine Ev.ite_pos rfl ?_
    | refine Ev.ite_neg (by first | omega | (simp only [List.length_map]; omega)) ?_
    | refine Ev.ite_neg (by simp) ?_
    | refine Ev.ite_pos (by omega) ?_
    | (refine Ev.step (fun k => by rw [laws_FnExactSpareRope.j0]) ?_; try with_reducible refine Ev.ite_neg (by simp) ?_)
end Go.Proofs.Ytknjpfjmkgfpdaa.Pure
