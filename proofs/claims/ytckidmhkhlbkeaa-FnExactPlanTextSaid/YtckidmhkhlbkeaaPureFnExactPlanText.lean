/- The law FnExactPlanText's pure statement: the program's answer is the reference's. -/
import Derived.Test.YtckidmhkhlbkeaaMAx7
import Derived.Test.YtckidmhkhlbkeaaPSzPlanMark
import Derived.Test.YtckidmhkhlbkeaaPWPlanMark
import Derived.Test.YtckidmhkhlbkeaaPPlanText
import Derived.Test.YtckidmhkhlbkeaaDecA
namespace Go.Proofs.Ytckidmhkhlbkeaa.Pure
open Go.RowKit Go.Proofs.Ytckidmhkhlbkeaa.MA Go.Proofs.YtckidmhkhlbkeaaW.PrintWords Go.Proofs.YtckidmhkhlbkeaaW.PrintLast Go.Proofs.YtckidmhkhlbkeaaW.PrintMore
set_option linter.unusedVariables false
set_option linter.unusedSimpArgs false
set_option linter.unusedVariables false
theorem FnExactPlanText (l0 : List (S61)) (hm0 : l0.length ≤ 9223372036854775807) (hw0 : ∀ x ∈ l0, OK61 x) (a1 : Int) (w1 : (Lit.int .i64 a1).wf = true) : ∃ k, laws_FnExactPlanText.f k l0 a1 = some true := by
  apply Ev.rounds
  have hc0 : (l0.map convPlanMark).length ≤ 9223372036854775807 := by rw [List.length_map]; exact hm0
  simp only [laws_FnExactPlanText.f]
  rcases szPlanMarkS_at l0 hm0 with hs0 | ⟨hb0, v0, hv0, hs0⟩
  · exact Ev.bind hs0 (Ev.ite_pos (by omega) (Ev.now true))
  refine Ev.bind hs0 (Ev.ite_neg (by omega) ?_)
  have t0 := toPlanMarkS_ev l0 hb0
  have hS := specPlanText_ev (l0.map convPlanMark) a1 hc0
  have hI := implPlanText_ev (l0.map convPlanMark) a1 hc0
  generalize planTextAns (l0.map convPlanMark) a1 = a at hS hI 
  have hq0 := eqPlanMarkS_refl (l0.map convPlanMark) hc0
  repeat first
    | exact Ev.now _
    | with_reducible refine Ev.bind t0 ?_
    | with_reducible refine Ev.bind hS ?_
    | with_reducible refine Ev.bind hI ?_
    | with_reducible refine Ev.bind hq0 ?_
    | with_reducible refine Ev.ite_pos rfl ?_
    | refine Ev.ite_neg (by first | omega | (simp only [List.length_map]; omega)) ?_
    | refine Ev.ite_neg (by simp) ?_
    | refine Ev.ite_pos (by omega) ?_
    | (refine Ev.step (fun k => by rw [laws_FnExactPlanText.j0]) ?_; try with_reducible refine Ev.ite_neg (by simp) ?_)
end Go.Proofs.Ytckidmhkhlbkeaa.Pure
