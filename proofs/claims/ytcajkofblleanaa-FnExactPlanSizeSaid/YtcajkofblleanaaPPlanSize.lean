/- The size of a plan: the program's and the reference's answers. -/
import Derived.Test.YtcajkofblleanaaMZx4
import Derived.Test.YtcajkofblleanaaMZx6
import Derived.Test.YtcajkofblleanaaPPlanOf
namespace Go.Proofs.Ytcajkofblleanaa.Pure
open Go.RowKit Go.Proofs.Ytcajkofblleanaa.MZ Go.Proofs.YtcajkofblleanaaW.PrintWords Go.Proofs.YtcajkofblleanaaW.PrintLast Go.Proofs.YtcajkofblleanaaW.PrintMore
def sizeAns (l : List S53) (s : Int) : Int × Int × Bool := if (mayFit l s && fits20 l s) = true then ((bd l s (l.length - 1)).2.1 - (bd l s (l.length - 1)).1 + 1, (bd l s (l.length - 1)).2.2.2 - (bd l s (l.length - 1)).2.2.1 + 1, true) else (0, 0, false)
theorem specSize_ev (l : List S53) (s : Int) (hm : l.length ≤ 9223372036854775807) : Ev (fun k => spec_PlanSize.f k l s) (sizeAns l s) := by
  simp only [spec_PlanSize.f]
  refine Ev.bind (specFits_ev l s hm) ?_
  unfold sizeAns
  by_cases h : (mayFit l s && fits20 l s) = true
  · rw [if_pos h]
    rw [Bool.and_eq_true] at h
    obtain ⟨h1, hs, h0⟩ := mayFit_says h.1
    have hb := bd_small h1 hs (l.length - 1) (by omega)
    refine Ev.ite_pos (by rw [h.1, h.2]; rfl) (Ev.bind (bounds_ev h1 h0 hs) ?_)
    rw [wrap_id (x := (bd l s (l.length - 1)).2.1 - (bd l s (l.length - 1)).1) (by omega) (by omega), wrap_id (x := (bd l s (l.length - 1)).2.2.2 - (bd l s (l.length - 1)).2.2.1) (by omega) (by omega), wrap_id (x := (bd l s (l.length - 1)).2.1 - (bd l s (l.length - 1)).1 + 1) (by omega) (by omega), wrap_id (x := (bd l s (l.length - 1)).2.2.2 - (bd l s (l.length - 1)).2.2.1 + 1) (by omega) (by omega)]
    exact Ev.now _
  · rw [if_neg h]
    exact Ev.ite_neg h (Ev.now _)
theorem implSize_ev (l : List S53) (s : Int) (hm : l.length ≤ 9223372036854775807) : Ev (fun k => impl_PlanSize.f k l s) (sizeAns l s) := by
  simp only [impl_PlanSize.f]
  refine Ev.bind (implPlanOf_ev l s hm) ?_
  unfold sizeAns
  by_cases h : mayFit l s = true
  · rw [if_pos h, h, Bool.true_and]
    simp only [impl_PlanSize.of, fits20_plan]
    by_cases h2 : fits20 l s = true
    · rw [if_pos h2, if_pos h2]
      exact Ev.now _
    · rw [if_neg h2, if_neg h2]
      exact Ev.now _
  · rw [if_neg h, if_neg (show ¬ (mayFit l s && fits20 l s) = true by simp [h])]
    exact Ev.now _
end Go.Proofs.Ytcajkofblleanaa.Pure
