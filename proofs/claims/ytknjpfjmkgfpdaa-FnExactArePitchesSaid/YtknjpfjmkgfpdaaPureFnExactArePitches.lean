/- The law FnExactArePitches's pure statement: the program's ArePitches is the reference's. -/
import Derived.Test.YtknjpfjmkgfpdaaMAx7
import Derived.Test.YtknjpfjmkgfpdaaPWPitch
import Derived.Test.YtknjpfjmkgfpdaaPPitches
import Derived.Test.YtknjpfjmkgfpdaaDecA
namespace Go.Proofs.Ytknjpfjmkgfpdaa.Pure
open Go.RowKit Go.Proofs.Ytknjpfjmkgfpdaa.MA Go.Proofs.YtknjpfjmkgfpdaaW.PrintWords Go.Proofs.YtknjpfjmkgfpdaaW.PrintLast Go.Proofs.YtknjpfjmkgfpdaaW.PrintMore
theorem FnExactArePitches (l0 : List S23) (hm0 : l0.length ≤ 9223372036854775807) (_hw0 : ∀ x ∈ l0, OK23 x) : ∃ k, laws_FnExactArePitches.f k l0 = some true := by
  apply Ev.rounds
  simp only [laws_FnExactArePitches.f]
  rcases Nat.lt_or_ge 1048576 l0.length with hb | hb
  · exact Ev.bindc (szPitchS_big l0 hm0 (by omega)) (Ev.ite_pos (by omega) (Ev.now true))
  refine Ev.bindc (szPitchS_small l0 hb) (Ev.ite_neg (by omega) (Ev.bind (toPitchS_ev l0 hb) (Ev.bind (a := okPitches (l0.map convPitch)) ?_ (Ev.bind (toPitchS_ev l0 hb) (Ev.bindc (arePitches_eq _) (Ev.ite_neg (by simp) (Ev.bind (toPitchS_ev l0 hb) (Ev.bind (eqPitchS_refl _ (by rw [List.length_map]; exact hm0)) (Ev.ite_pos rfl (Ev.now true))))))))))
  simp only [spec_ArePitches.f]
  exact Ev.bind (l16Good_ev _ (by rw [List.length_map]; exact hm0)) (Ev.now _)
end Go.Proofs.Ytknjpfjmkgfpdaa.Pure
