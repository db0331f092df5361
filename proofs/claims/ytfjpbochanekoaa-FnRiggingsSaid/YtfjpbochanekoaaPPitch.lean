/- Pitches and ropes, one at a time. -/
import Derived.Test.YtfjpbochanekoaaMJx3
import Derived.Test.YtfjpbochanekoaaMJx1
import Derived.Test.YtfjpbochanekoaaPBase
namespace Go.Proofs.Ytfjpbochanekoaa.Pure
open Go.RowKit Go.Proofs.Ytfjpbochanekoaa.MJ Go.Proofs.YtfjpbochanekoaaW.PrintWords Go.Proofs.YtfjpbochanekoaaW.PrintLast Go.Proofs.YtfjpbochanekoaaW.PrintMore
set_option linter.unusedVariables false
set_option linter.unusedSimpArgs false
def okPitch (d a : Int) : Bool := decide (20 ≤ d ∧ d ≤ 3000) && decide (1 ≤ a ∧ a ≤ 9)
def okRope (x : Int) : Bool := decide (50 ≤ x ∧ x ≤ 4000)
def needOf (d a : Int) : Int := d + 15 * a + 20
theorem l16One_eq (d a : Int) : spec_l16One.f d a = some (okPitch d a) := by
 simp only [spec_l16One.f, l1In_eq, Option.bind_some, okPitch]
 by_cases h : 20 ≤ d ∧ d ≤ 3000 <;> simp [h]
theorem isPitch_eq (d a : Int) : impl_isPitch.f d a = some (okPitch d a) := by
 simp only [impl_isPitch.f, impl_isDepth.f, within_eq, Option.bind_some, okPitch]
 by_cases h : 20 ≤ d ∧ d ≤ 3000 <;> simp [h]
theorem l16Rope_eq (x : Int) : spec_l16Rope.f x = some (okRope x) := by
 simp only [spec_l16Rope.f, l1In_eq, Option.bind_some, okRope]
theorem isRope_eq (x : Int) : impl_isRope.f x = some (okRope x) := by
 simp only [impl_isRope.f, within_eq, Option.bind_some, okRope]
theorem l16Need_eq {d a : Int} (h : okPitch d a = true) : spec_l16Need.f d a = some (needOf d a) := by
 simp only [okPitch, Bool.and_eq_true, decide_eq_true_eq] at h
 simp only [spec_l16Need.f, needOf]
 congr 1
 unfold wrap64
 omega
theorem need_eq {d a : Int} (h : okPitch d a = true) : impl_Pitch_need.f d a = some (needOf d a) := by
 simp only [okPitch, Bool.and_eq_true, decide_eq_true_eq] at h
 simp only [impl_Pitch_need.f, needOf]
 congr 1
 unfold wrap64
 omega
end Go.Proofs.Ytfjpbochanekoaa.Pure
