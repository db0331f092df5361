/- The law FnExactPlanSize's pure statement: the program's answer is the reference's. -/
import Derived.Test.YtcajkofblleanaaMZx6
import Derived.Test.YtcajkofblleanaaPSzPlanMark
import Derived.Test.YtcajkofblleanaaPWPlanMark
import Derived.Test.YtcajkofblleanaaPPlanSize
import Derived.Test.YtcajkofblleanaaDecZ
namespace Go.Proofs.Ytcajkofblleanaa.Pure
open Go.RowKit Go.Proofs.Ytcajkofblleanaa.MZ Go.Proofs.YtcajkofblleanaaW.PrintWords Go.Proofs.YtcajkofblleanaaW.PrintLast Go.Proofs.YtcajkofblleanaaW.PrintMore
set_option linter.unusedVariables false
theorem FnExactPlanSize (l0 : List (S64)) (hm0 : l0.length ≤ 9223372036854775807) (hw0 : ∀ x ∈ l0, OK64 x) (a1 : Int) (w1 : (Lit.int .i64 a1).wf = true) : ∃ k, laws_FnExactPlanSize.f k l0 a1 = some true := by
  apply Ev.rounds
  have hc0 : (l0.map convPlanMark).length ≤ 9223372036854775807 := by rw [List.length_map]; exact hm0
  simp only [laws_FnExactPlanSize.f]
  rcases szPlanMarkS_at l0 hm0 with hs0 | ⟨hb0, v0, hv0, hs0⟩
  · exact Ev.bind hs0 (Ev.ite_pos (by omega) (Ev.now true))
  refine Ev.bind hs0 (Ev.ite_neg (by omega) ?_)
  have t0 := toPlanMarkS_ev l0 hb0
  have hS := specSize_ev (l0.map convPlanMark) a1 hc0
  have hI := implSize_ev (l0.map convPlanMark) a1 hc0
  generalize sizeAns (l0.map convPlanMark) a1 = a at hS hI 
  have hq0 := eqPlanMarkS_refl (l0.map convPlanMark) hc0
  repeat first
    | exact Ev.now _
    | with_reducible refine Ev.bind t0 ?_
    | with_reducible refine Ev.bind hS ?_
    | with_reducible refine Ev.bind hI ?_
    | with_reducible refine Ev.bind hq0 ?_
    | with_reducible refine Ev.ite_pos rfl ?_
    | refine Ev.ite_neg (by first | omega | (simp only [List.length_map]; omega)) ?_
    | refine Ev.ite_neg (by simp) ?_
    | refine Ev.ite_pos (by omega) ?_
    | (refine Ev.step (fun k => by rw [laws_FnExactPlanSize.j0]) ?_; try with_reducible refine Ev.ite_neg (by simp) ?_)
end Go.Proofs.Ytcajkofblleanaa.Pure
