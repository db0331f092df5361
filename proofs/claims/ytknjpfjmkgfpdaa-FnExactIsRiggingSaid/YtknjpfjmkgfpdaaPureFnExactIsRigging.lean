/- The law FnExactIsRigging's pure statement: the program's IsRigging is the reference's. -/
import Derived.Test.YtknjpfjmkgfpdaaMAx15
import Derived.Test.YtknjpfjmkgfpdaaPInts
import Derived.Test.YtknjpfjmkgfpdaaPWPitch
import Derived.Test.YtknjpfjmkgfpdaaPRigging
import Derived.Test.YtknjpfjmkgfpdaaDecA
namespace Go.Proofs.Ytknjpfjmkgfpdaa.Pure
open Go.RowKit Go.Proofs.Ytknjpfjmkgfpdaa.MA Go.Proofs.YtknjpfjmkgfpdaaW.PrintWords Go.Proofs.YtknjpfjmkgfpdaaW.PrintLast Go.Proofs.YtknjpfjmkgfpdaaW.PrintMore
theorem FnExactIsRigging (l0 : List S23) (hm0 : l0.length ≤ 9223372036854775807) (_hw0 : ∀ x ∈ l0, OK23 x) (l1 : List Int) (hm1 : l1.length ≤ 9223372036854775807) (_hw1 : ∀ x ∈ l1, (Lit.int .i64 x).wf = true) (l2 : List Int) (hm2 : l2.length ≤ 9223372036854775807) (_hw2 : ∀ x ∈ l2, (Lit.int .i64 x).wf = true) : ∃ k, laws_FnExactIsRigging.f k l0 l1 l2 = some true := by
  apply Ev.rounds
  have hm : (l0.map convPitch).length ≤ 9223372036854775807 := by rw [List.length_map]; exact hm0
  simp only [laws_FnExactIsRigging.f]
  by_cases hb1 : (l1.length : Int) > 1048576
  · exact Ev.ite_pos hb1 (Ev.now true)
  refine Ev.ite_neg hb1 ?_
  by_cases hb2 : (l2.length : Int) > 1048576
  · exact Ev.ite_pos hb2 (Ev.now true)
  refine Ev.ite_neg hb2 ?_
  rcases Nat.lt_or_ge 1048576 l0.length with hb | hb
  · exact Ev.bindc (szPitchS_big l0 hm0 (by omega)) (Ev.ite_pos (by omega) (Ev.now true))
  have t0 := toPitchS_ev l0 hb
  have t1 := toIntS_ev l1 (by omega)
  have t2 := toIntS_ev l2 (by omega)
  refine Ev.bindc (szPitchS_small l0 hb) (Ev.ite_neg (by omega) (Ev.bind t0 (Ev.bind t1 (Ev.bind t2 (Ev.bind (specIsRig_ev _ l1 l2 hm hm1 hm2) (Ev.bind t0 (Ev.bind t1 (Ev.bind t2 (Ev.bind (implIsRig_ev _ l1 l2 hm2) (Ev.ite_neg (by simp) ?_))))))))))
  refine Ev.step (f := fun k => (laws_toPitchS.f k l0).bind fun t => (laws_eqPitchS.f k (l0.map convPitch) t).bind fun b => if b = true then ((laws_toIntS.f k l1).bind fun t => (laws_eqIntS.f k l1 t).bind fun b => if b = true then ((laws_toIntS.f k l2).bind fun t => (laws_eqIntS.f k l2 t).bind fun b => if b = true then some true else some false) else some false) else some false) (fun k => by simp [laws_FnExactIsRigging.j0]) ?_
  exact Ev.bind t0 (Ev.bind (eqPitchS_refl _ hm) (Ev.ite_pos rfl (Ev.bind t1 (Ev.bind (eqIntS_refl l1 hm1) (Ev.ite_pos rfl (Ev.bind t2 (Ev.bind (eqIntS_refl l2 hm2) (Ev.ite_pos rfl (Ev.now true)))))))))
end Go.Proofs.Ytknjpfjmkgfpdaa.Pure
