/- The program's plan, if there is one. -/
import Derived.Test.YtckidmhkhlbkeaaMAx5
import Derived.Test.YtckidmhkhlbkeaaPFits
namespace Go.Proofs.Ytckidmhkhlbkeaa.Pure
open Go.RowKit Go.Proofs.Ytckidmhkhlbkeaa.MA Go.Proofs.YtckidmhkhlbkeaaW.PrintWords Go.Proofs.YtckidmhkhlbkeaaW.PrintLast Go.Proofs.YtckidmhkhlbkeaaW.PrintMore
set_option linter.unusedVariables false
set_option linter.unusedSimpArgs false
theorem implPlanOf_ev (l : List S44) (s : Int) (hm : l.length ≤ 9223372036854775807) : Ev (fun k => impl_planOf.f k l s) (if mayFit l s = true then some (planOf l s) else none) := by
  simp only [impl_planOf.f, within_eq, Option.bind_some]
  refine Ev.bind (areMarks_ev l hm) ?_
  by_cases h : okMarks l = true
  · refine Ev.ite_pos h ?_
    by_cases h0 : l.length = 0
    · rw [if_neg (show ¬ mayFit l s = true by simp [mayFit, h0])]
      exact Ev.ite_pos (by omega) (Ev.now _)
    · refine Ev.ite_neg (by omega) ?_
      by_cases hs : 1 ≤ s ∧ s ≤ 500
      · rw [if_pos (show mayFit l s = true by simp [mayFit, h, hs, h0])]
        exact Ev.ite_pos (decide_eq_true hs) (Ev.bind (newPlan_ev h h0 hs) (Ev.now _))
      · rw [if_neg (show ¬ mayFit l s = true by simp [mayFit]; omega)]
        exact Ev.ite_neg (by simpa using hs) (Ev.now _)
  · rw [if_neg (show ¬ mayFit l s = true by simp [mayFit, h])]
    exact Ev.ite_neg h (Ev.now _)
theorem fits20_plan (l : List S44) (s : Int) : (decide ((planOf l s).2.2.2.2.1 ≤ 20) && decide ((planOf l s).2.2.2.2.2 ≤ 20)) = fits20 l s := by
  unfold planOf fits20
  rw [Bool.eq_iff_iff]
  simp only [Bool.and_eq_true, decide_eq_true_eq]
  omega
end Go.Proofs.Ytckidmhkhlbkeaa.Pure
