/- The law FnExactHiddenMarks's pure statement: the program's answer is the reference's. -/
import Derived.Test.YtckidmhkhlbkeaaMAx9
import Derived.Test.YtckidmhkhlbkeaaPSzPlanMark
import Derived.Test.YtckidmhkhlbkeaaPMkMark
import Derived.Test.YtckidmhkhlbkeaaPMkTexts
import Derived.Test.YtckidmhkhlbkeaaPWPlanMark
import Derived.Test.YtckidmhkhlbkeaaPHidden
import Derived.Test.YtckidmhkhlbkeaaDecA
namespace Go.Proofs.Ytckidmhkhlbkeaa.Pure
open Go.RowKit Go.Proofs.Ytckidmhkhlbkeaa.MA Go.Proofs.YtckidmhkhlbkeaaW.PrintWords Go.Proofs.YtckidmhkhlbkeaaW.PrintLast Go.Proofs.YtckidmhkhlbkeaaW.PrintMore
set_option linter.unusedVariables false
set_option linter.unusedSimpArgs false
set_option linter.unusedVariables false
theorem FnExactHiddenMarks (l0 : List (S61)) (hm0 : l0.length ≤ 9223372036854775807) (hw0 : ∀ x ∈ l0, OK61 x) (a1 : Int) (w1 : (Lit.int .i64 a1).wf = true) : ∃ k, laws_FnExactHiddenMarks.f k l0 a1 = some true := by
  apply Ev.rounds
  have hc0 : (l0.map convPlanMark).length ≤ 9223372036854775807 := by rw [List.length_map]; exact hm0
  simp only [laws_FnExactHiddenMarks.f]
  rcases szPlanMarkS_at l0 hm0 with hs0 | ⟨hb0, v0, hv0, hs0⟩
  · exact Ev.bind hs0 (Ev.ite_pos (by omega) (Ev.now true))
  refine Ev.bind hs0 (Ev.ite_neg (by omega) ?_)
  have t0 := toPlanMarkS_ev l0 hb0
  have hS := specHidden_ev (l0.map convPlanMark) a1 hc0
  have hI := implHidden_ev (l0.map convPlanMark) a1 hc0
  have hB0 := hiddenAns_len (l0.map convPlanMark) a1
  generalize hiddenAns (l0.map convPlanMark) a1 = a at hS hI hB0
  have he0 := eqStringS_refl a.1 (by omega)
  obtain ⟨c0, g0, hk0, hh0, hz0⟩ := markStringS_held a.1 (by omega)
  have hq0 := eqPlanMarkS_refl (l0.map convPlanMark) hc0
  have hn0 := markPlanMarkS_ev (l0.map convPlanMark) (1) (by first | omega | (simp only [List.length_map]; omega)) (by first | omega | (simp only [List.length_map]; omega)) (by first | omega | (simp only [List.length_map]; omega))
  repeat first
    | exact Ev.now _
    | with_reducible refine Ev.bind t0 ?_
    | with_reducible refine Ev.bind hS ?_
    | with_reducible refine Ev.bind hI ?_
    | with_reducible refine Ev.bind he0 ?_
    | with_reducible refine Ev.bind hh0 ?_
    | with_reducible refine Ev.bind hk0 ?_
    | with_reducible refine Ev.bind hq0 ?_
    | with_reducible refine Ev.bind hn0 ?_
    | with_reducible refine Ev.ite_pos rfl ?_
    | refine Ev.ite_neg (by first | omega | (simp only [List.length_map]; omega)) ?_
    | refine Ev.ite_neg (by simp) ?_
    | refine Ev.ite_pos (by omega) ?_
    | (refine Ev.step (fun k => by rw [laws_FnExactHiddenMarks.j0]) ?_; try with_reducible refine Ev.ite_neg (by simp) ?_)
    | (refine Ev.step (fun k => by rw [laws_FnExactHiddenMarks.j1]) ?_; try with_reducible refine Ev.ite_neg (by simp) ?_)
    | (refine Ev.step (fun k => by rw [laws_FnExactHiddenMarks.j2]) ?_; try with_reducible refine Ev.ite_neg (by simp) ?_)
end Go.Proofs.Ytckidmhkhlbkeaa.Pure
