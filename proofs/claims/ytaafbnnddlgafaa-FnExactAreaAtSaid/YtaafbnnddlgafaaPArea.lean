/- The area of a passage. -/
import Derived.Test.YtaafbnnddlgafaaMTx3
import Derived.Test.YtaafbnnddlgafaaMTx4
import Derived.Test.YtaafbnnddlgafaaPPass
namespace Go.Proofs.Ytaafbnnddlgafaa.Pure
open Go.RowKit Go.Proofs.Ytaafbnnddlgafaa.MT Go.Proofs.YtaafbnnddlgafaaW.PrintWords Go.Proofs.YtaafbnnddlgafaaW.PrintLast Go.Proofs.YtaafbnnddlgafaaW.PrintMore
def areaOf (x : S63) : Int := wrap64 (wrap64 (x.f1 + x.f2) * wrap64 (x.f3 + x.f4))
theorem l12Area_eq (x : S63) : spec_l12Area.f x.f0 x.f1 x.f2 x.f3 x.f4 = some (areaOf x) := rfl
theorem area_eq (x : S63) : impl_Passage_area.f x.f0 x.f1 x.f2 x.f3 x.f4 = some (areaOf x) := rfl
theorem area_small {x : S63} (h : okPass x = true) : 0 ≤ areaOf x ∧ areaOf x ≤ 160000 := by
  simp only [okPass, Bool.and_eq_true, decide_eq_true_eq] at h
  obtain ⟨⟨⟨⟨h0, h1⟩, h2⟩, h3⟩, h4⟩ := h
  have e1 : wrap64 (x.f1 + x.f2) = x.f1 + x.f2 := by unfold wrap64; omega
  have e2 : wrap64 (x.f3 + x.f4) = x.f3 + x.f4 := by unfold wrap64; omega
  have m1 : 0 ≤ (x.f1 + x.f2) * (x.f3 + x.f4) := Int.mul_nonneg (by omega) (by omega)
  have m2 : (x.f1 + x.f2) * (x.f3 + x.f4) ≤ 400 * 400 := Int.mul_le_mul (by omega) (by omega) (by omega) (by omega)
  have e3 : areaOf x = (x.f1 + x.f2) * (x.f3 + x.f4) := by
    unfold areaOf
    rw [e1, e2]
    unfold wrap64
    omega
  omega
end Go.Proofs.Ytaafbnnddlgafaa.Pure
