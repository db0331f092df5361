/- AreaAt: both sides. -/
import Derived.Test.YtaafbnnddlgafaaMTx3
import Derived.Test.YtaafbnnddlgafaaMTx5
import Derived.Test.YtaafbnnddlgafaaPFindA
namespace Go.Proofs.Ytaafbnnddlgafaa.Pure
open Go.RowKit Go.Proofs.Ytaafbnnddlgafaa.MT Go.Proofs.YtaafbnnddlgafaaW.PrintWords Go.Proofs.YtaafbnnddlgafaaW.PrintLast Go.Proofs.YtaafbnnddlgafaaW.PrintMore
def areaAns (l : List S63) (a : Int) : Int × Bool := if okPasses l = true ∧ (0 ≤ a ∧ a ≤ 7) then (areaAtOf l a, true) else (0, false)
theorem specArea_ev (l : List S63) (a : Int) (hm : l.length ≤ 9223372036854775807) : Ev (fun k => spec_AreaAt.f k l a) (areaAns l a) := by
  simp only [spec_AreaAt.f, spec_l4Station.f, l1In_eq, Option.bind_some]
  refine Ev.bind (l12Good_ev l hm) ?_
  by_cases h : okPasses l = true
  · refine Ev.ite_pos h ?_
    by_cases h2 : 0 ≤ a ∧ a ≤ 7
    · rw [show areaAns l a = (areaAtOf l a, true) from if_pos ⟨h, h2⟩]
      exact Ev.ite_pos (decide_eq_true h2) (Ev.bind (Ev.past l.length fun k hk => specAt_at l a hm k hk) (Ev.now _))
    · rw [show areaAns l a = (0, false) from if_neg (fun hh => h2 hh.2)]
      exact Ev.ite_neg (by simpa using h2) (Ev.now _)
  · rw [show areaAns l a = (0, false) from if_neg (fun hh => h hh.1)]
    exact Ev.ite_neg h (Ev.now _)
theorem implArea_ev (l : List S63) (a : Int) (hm : l.length ≤ 9223372036854775807) : Ev (fun k => impl_AreaAt.f k l a) (areaAns l a) := by
  simp only [impl_AreaAt.f, impl_isStation.f, within_eq, Option.bind_some]
  refine Ev.bind (arePasses_ev l hm) ?_
  by_cases h : okPasses l = true
  · refine Ev.ite_pos h ?_
    by_cases h2 : 0 ≤ a ∧ a ≤ 7
    · rw [show areaAns l a = (areaAtOf l a, true) from if_pos ⟨h, h2⟩]
      exact Ev.ite_pos (decide_eq_true h2) (Ev.bindc (implAt_eq l a) (Ev.now _))
    · rw [show areaAns l a = (0, false) from if_neg (fun hh => h2 hh.2)]
      exact Ev.ite_neg (by simpa using h2) (Ev.now _)
  · rw [show areaAns l a = (0, false) from if_neg (fun hh => h hh.1)]
    exact Ev.ite_neg h (Ev.now _)
end Go.Proofs.Ytaafbnnddlgafaa.Pure
