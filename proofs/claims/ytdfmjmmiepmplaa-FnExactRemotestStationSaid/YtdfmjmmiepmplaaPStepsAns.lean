/- The smallest numbers of legs: both answers. -/
import Derived.Test.YtdfmjmmiepmplaaMTx4
import Derived.Test.YtdfmjmmiepmplaaMTx5
import Derived.Test.YtdfmjmmiepmplaaPSteps
import Derived.Test.YtdfmjmmiepmplaaPLayers
namespace Go.Proofs.Ytdfmjmmiepmplaa.Pure
open Go.RowKit Go.Proofs.Ytdfmjmmiepmplaa.MT Go.Proofs.YtdfmjmmiepmplaaW.PrintWords Go.Proofs.YtdfmjmmiepmplaaW.PrintLast Go.Proofs.YtdfmjmmiepmplaaW.PrintMore
set_option linter.unusedVariables false
set_option linter.unusedSimpArgs false
theorem dist_ex (l : List S69) (e : List Int) : ∃ r : List Int, okLegs l = true → okEnts e = true → IsDist l e r := by
  by_cases h : okLegs l = true ∧ okEnts e = true
  · obtain ⟨r, hr, _⟩ := stepsFrom_dist h.1 h.2
    exact ⟨r, fun _ _ => hr⟩
  · exact ⟨[], fun h1 h2 => absurd ⟨h1, h2⟩ h⟩
noncomputable def distOf (l : List S69) (e : List Int) : List Int := Classical.choose (dist_ex l e)
theorem distOf_is {l : List S69} {e : List Int} (h1 : okLegs l = true) (h2 : okEnts e = true) : IsDist l e (distOf l e) := Classical.choose_spec (dist_ex l e) h1 h2
theorem stepsFrom_ev {l : List S69} {e : List Int} (h1 : okLegs l = true) (h2 : okEnts e = true) : Ev (fun k => impl_stepsFrom.f k l e) (distOf l e) := by
  obtain ⟨r, hr, hv⟩ := stepsFrom_dist h1 h2
  rw [(distOf_is h1 h2).uniq hr]
  exact hv
noncomputable def stepsAns (l : List S69) (e : List Int) : List Int × Bool := if (okLegs l && okEnts e) = true then (distOf l e, true) else ([], false)
theorem stepsAns_len (l : List S69) (e : List Int) : (stepsAns l e).1.length ≤ 8 := by
  unfold stepsAns
  by_cases h : (okLegs l && okEnts e) = true
  · rw [if_pos h]
    rw [Bool.and_eq_true] at h
    exact Nat.le_of_eq (distOf_is h.1 h.2).len
  · rw [if_neg h]
    exact Nat.zero_le _
theorem implStepsFrom_ev (l : List S69) (e : List Int) (hm : l.length ≤ 9223372036854775807) (he : e.length ≤ 1048576) : Ev (fun k => impl_StepsFrom.f k l e) (stepsAns l e) := by
  simp only [impl_StepsFrom.f]
  refine Ev.bind (areEnts_ev l e hm he) ?_
  unfold stepsAns
  by_cases h : (okLegs l && okEnts e) = true
  · rw [if_pos h]
    have h2 := h
    rw [Bool.and_eq_true] at h2
    exact Ev.ite_pos h (Ev.bind (stepsFrom_ev h2.1 h2.2) (Ev.now _))
  · rw [if_neg h]
    exact Ev.ite_neg h (Ev.now _)
theorem specStepsFrom_ev (l : List S69) (e : List Int) (hm : l.length ≤ 9223372036854775807) (he : e.length ≤ 1048576) : Ev (fun k => spec_StepsFrom.f k l e) (stepsAns l e) := by
  simp only [spec_StepsFrom.f]
  refine Ev.bind (asked_ev l e hm he) ?_
  unfold stepsAns
  by_cases h : (okLegs l && okEnts e) = true
  · rw [if_pos h]
    have h2 := h
    rw [Bool.and_eq_true] at h2
    exact Ev.ite_pos h (Ev.bind (l17Steps_ev h2.1 h2.2 (distOf_is h2.1 h2.2)) (Ev.now _))
  · rw [if_neg h]
    exact Ev.ite_neg h (Ev.now _)
end Go.Proofs.Ytdfmjmmiepmplaa.Pure
