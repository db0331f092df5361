/- The area at a station. -/
import Derived.Test.YtaafbnnddlgafaaMTx3
import Derived.Test.YtaafbnnddlgafaaMTx5
import Derived.Test.YtaafbnnddlgafaaPFindI
import Derived.Test.YtaafbnnddlgafaaPArea
namespace Go.Proofs.Ytaafbnnddlgafaa.Pure
open Go.RowKit Go.Proofs.Ytaafbnnddlgafaa.MT Go.Proofs.YtaafbnnddlgafaaW.PrintWords Go.Proofs.YtaafbnnddlgafaaW.PrintLast Go.Proofs.YtaafbnnddlgafaaW.PrintMore
def areaAtOf (l : List S63) (a : Int) : Int := if impl_passageAt.at l a < 0 then 0 else areaOf (rd_T63 l (impl_passageAt.at l a))
theorem specAt_at (l : List S63) (a : Int) (hm : l.length ≤ 9223372036854775807) : ∀ k, l.length < k → spec_l12At.f k l a = some (areaAtOf l a) := by
  intro k hk
  have hr := at_range l a
  simp only [spec_l12At.f, specFind_at l a hm k hk, Option.bind_some, l12Area_eq]
  unfold areaAtOf
  by_cases h : impl_passageAt.at l a < 0
  · rw [if_neg (by omega), if_pos h]
  · rw [if_pos (by omega), if_pos (by omega), if_pos (by omega), if_neg h]
theorem implAt_eq (l : List S63) (a : Int) : impl_areaAt.f l a = some (areaAtOf l a) := by
  unfold impl_areaAt.f impl_passageAt.f areaAtOf
  by_cases h : impl_passageAt.at l a < 0
  · rw [if_pos h, if_pos h]
    first | rfl | (simp [impl_Passage_area.f, wrap64])
  · rw [if_neg h, if_neg h]
    rfl
theorem areaAt_small {l : List S63} (h : okPasses l = true) (a : Int) : 0 ≤ areaAtOf l a ∧ areaAtOf l a ≤ 160000 := by
  have hr := at_range l a
  unfold areaAtOf
  by_cases h0 : impl_passageAt.at l a < 0
  · rw [if_pos h0]; omega
  · rw [if_neg h0]
    exact area_small (okPasses_one h (i := (impl_passageAt.at l a).toNat) (by omega))
end Go.Proofs.Ytaafbnnddlgafaa.Pure
