/- Plans that fit, and their sizes: the program's and the reference's answers. -/
import Derived.Test.YtckidmhkhlbkeaaMAx3
import Derived.Test.YtckidmhkhlbkeaaPSquare
namespace Go.Proofs.Ytckidmhkhlbkeaa.Pure
open Go.RowKit Go.Proofs.Ytckidmhkhlbkeaa.MA Go.Proofs.YtckidmhkhlbkeaaW.PrintWords Go.Proofs.YtckidmhkhlbkeaaW.PrintLast Go.Proofs.YtckidmhkhlbkeaaW.PrintMore
set_option linter.unusedVariables false
set_option linter.unusedSimpArgs false
def fits20 (l : List S44) (s : Int) : Bool := decide ((bd l s (l.length - 1)).2.1 - (bd l s (l.length - 1)).1 < 20) && decide ((bd l s (l.length - 1)).2.2.2 - (bd l s (l.length - 1)).2.2.1 < 20)
def mayFit (l : List S44) (s : Int) : Bool := okMarks l && (decide (1 ≤ s ∧ s ≤ 500) && !decide (l.length = 0))
theorem mayFit_says {l : List S44} {s : Int} (h : mayFit l s = true) : okMarks l = true ∧ (1 ≤ s ∧ s ≤ 500) ∧ l.length ≠ 0 := by
  simpa [mayFit] using h
theorem specFits_ev (l : List S44) (s : Int) (hm : l.length ≤ 9223372036854775807) : Ev (fun k => spec_l13Fits.f k l s) (mayFit l s && fits20 l s) := by
  simp only [spec_l13Fits.f, l1In_eq, Option.bind_some]
  refine Ev.bind (l13Good_ev l hm) ?_
  by_cases h : okMarks l = true
  · refine Ev.ite_pos h ?_
    by_cases hs : 1 ≤ s ∧ s ≤ 500
    · refine Ev.ite_pos (decide_eq_true hs) ?_
      by_cases h0 : l.length = 0
      · rw [show mayFit l s = false by simp [mayFit, h0], Bool.false_and]
        exact Ev.ite_pos (by omega) (Ev.now _)
      · rw [show mayFit l s = true by simp [mayFit, h, hs, h0], Bool.true_and]
        have hb := bd_small h hs (l.length - 1) (by omega)
        refine Ev.ite_neg (by omega) (Ev.bind (bounds_ev h h0 hs) ?_)
        rw [wrap_id (x := (bd l s (l.length - 1)).2.1 - (bd l s (l.length - 1)).1) (by omega) (by omega), wrap_id (x := (bd l s (l.length - 1)).2.2.2 - (bd l s (l.length - 1)).2.2.1) (by omega) (by omega)]
        unfold fits20
        by_cases c1 : (bd l s (l.length - 1)).2.1 - (bd l s (l.length - 1)).1 < 20
        · rw [decide_eq_true c1, Bool.true_and]
          exact Ev.ite_pos c1 (Ev.now _)
        · rw [decide_eq_false c1, Bool.false_and]
          exact Ev.ite_neg c1 (Ev.now _)
    · rw [show mayFit l s = false by simp [mayFit]; omega, Bool.false_and]
      exact Ev.ite_neg (by simpa using hs) (Ev.now _)
  · rw [show mayFit l s = false by simp [mayFit, h], Bool.false_and]
    exact Ev.ite_neg h (Ev.now _)
end Go.Proofs.Ytckidmhkhlbkeaa.Pure
