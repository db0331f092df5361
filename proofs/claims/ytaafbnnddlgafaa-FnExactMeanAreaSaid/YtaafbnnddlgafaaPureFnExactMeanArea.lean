/- The law FnExactMeanArea's pure statement: the program's MeanArea is the reference's. -/
import Derived.Test.YtaafbnnddlgafaaMAx10
import Derived.Test.YtaafbnnddlgafaaPWPassage
import Derived.Test.YtaafbnnddlgafaaPMean
import Derived.Test.YtaafbnnddlgafaaDecA
namespace Go.Proofs.Ytaafbnnddlgafaa.Pure
open Go.RowKit Go.Proofs.Ytaafbnnddlgafaa.MA Go.Proofs.YtaafbnnddlgafaaW.PrintWords Go.Proofs.YtaafbnnddlgafaaW.PrintLast Go.Proofs.YtaafbnnddlgafaaW.PrintMore
theorem FnExactMeanArea (l0 : List S65) (hm0 : l0.length ≤ 9223372036854775807) (_hw0 : ∀ x ∈ l0, OK65 x) : ∃ k, laws_FnExactMeanArea.f k l0 = some true := by
  apply Ev.rounds
  have hm : (l0.map convPassage).length ≤ 9223372036854775807 := by rw [List.length_map]; exact hm0
  simp only [laws_FnExactMeanArea.f]
  rcases Nat.lt_or_ge 1048576 l0.length with hb | hb
  · exact Ev.bindc (szPassageS_big l0 hm0 (by omega)) (Ev.ite_pos (by omega) (Ev.now true))
  have t0 := toPassageS_ev l0 hb
  have hs := specMean_ev (l0.map convPassage) hm
  have hi := implMean_ev (l0.map convPassage) hm
  generalize meanAnswer (l0.map convPassage) = a at hs hi
  refine Ev.bindc (szPassageS_small l0 hb) (Ev.ite_neg (by omega) (Ev.bind t0 (Ev.bind hs (Ev.bind t0 (Ev.bind hi (Ev.ite_pos rfl (Ev.ite_pos rfl ?_)))))))
  refine Ev.step (f := fun k => (laws_toPassageS.f k l0).bind fun t => (laws_eqPassageS.f k (l0.map convPassage) t).bind fun b => if b = true then some true else some false) (fun k => by simp [laws_FnExactMeanArea.j0]) ?_
  exact Ev.bind t0 (Ev.bind (eqPassageS_refl _ hm) (Ev.ite_pos rfl (Ev.now true)))
end Go.Proofs.Ytaafbnnddlgafaa.Pure
