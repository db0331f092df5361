/- The law FnExactTotalDepth's pure statement: the program's TotalDepth is the reference's. -/
import Derived.Test.YtknjpfjmkgfpdaaMAx8
import Derived.Test.YtknjpfjmkgfpdaaPWPitch
import Derived.Test.YtknjpfjmkgfpdaaPPitches
import Derived.Test.YtknjpfjmkgfpdaaDecA
namespace Go.Proofs.Ytknjpfjmkgfpdaa.Pure
open Go.RowKit Go.Proofs.Ytknjpfjmkgfpdaa.MA Go.Proofs.YtknjpfjmkgfpdaaW.PrintWords Go.Proofs.YtknjpfjmkgfpdaaW.PrintLast Go.Proofs.YtknjpfjmkgfpdaaW.PrintMore
def depths (l : List S26) : Int × Bool := if okPitches l = true then foldN (fun i (s : Int) => Sum.inl (wrap64 (s + (l.getD i z26).f0))) (fun s => (s, true)) l.length 0 0 else (0, false)
theorem specTotal_ev (l : List S26) (hm : l.length ≤ 9223372036854775807) : Ev (fun k => spec_TotalDepth.f k l) (depths l) := by
  simp only [spec_TotalDepth.f]
  refine Ev.bind (l16Good_ev l hm) ?_
  unfold depths
  by_cases hp : okPitches l = true
  · refine Ev.ite_pos hp ?_
    rw [if_pos hp]
    refine loopT_ev (fun k i (s : Int) => spec_TotalDepth.l0 k l s i) l.length 0 _ _ 0 ?_ ?_
    · rintro k i s - hi
      refine .inl ⟨_, rfl, ?_⟩
      simp only [spec_TotalDepth.l0, rdP]
      rw [if_pos (by omega), if_pos (by omega), wrap_up hi hm]
    · rintro k s -
      simp only [spec_TotalDepth.l0]
      rw [if_neg (by omega)]
  · refine Ev.ite_neg hp ?_
    rw [if_neg hp]
    exact Ev.now _
theorem implTotal_ev (l : List S26) (hm : l.length ≤ 9223372036854775807) : Ev (fun k => impl_TotalDepth.f k l) (depths l) := by
  simp only [impl_TotalDepth.f]
  refine Ev.bindc (arePitches_eq l) ?_
  unfold depths
  by_cases hp : okPitches l = true
  · refine Ev.ite_pos hp ?_
    rw [if_pos hp]
    refine loopT_ev (fun k i (s : Int) => impl_TotalDepth.l0 k s l (l.length : Int) i) l.length 0 _ _ 0 ?_ ?_
    · rintro k i s - hi
      refine .inl ⟨_, rfl, ?_⟩
      simp only [impl_TotalDepth.l0, rdP]
      rw [if_pos (by omega), if_pos (by omega), if_pos (by omega), wrap_up hi hm]
    · rintro k s -
      simp only [impl_TotalDepth.l0]
      rw [if_neg (by omega)]
  · refine Ev.ite_neg hp ?_
    rw [if_neg hp]
    exact Ev.now _
theorem FnExactTotalDepth (l0 : List S23) (hm0 : l0.length ≤ 9223372036854775807) (_hw0 : ∀ x ∈ l0, OK23 x) : ∃ k, laws_FnExactTotalDepth.f k l0 = some true := by
  apply Ev.rounds
  have hm1 : (l0.map convPitch).length ≤ 9223372036854775807 := by rw [List.length_map]; exact hm0
  simp only [laws_FnExactTotalDepth.f]
  rcases Nat.lt_or_ge 1048576 l0.length with hb | hb
  · exact Ev.bindc (szPitchS_big l0 hm0 (by omega)) (Ev.ite_pos (by omega) (Ev.now true))
  refine Ev.bindc (szPitchS_small l0 hb) (Ev.ite_neg (by omega) (Ev.bind (toPitchS_ev l0 hb) (Ev.bind (specTotal_ev _ hm1) (Ev.bind (toPitchS_ev l0 hb) (Ev.bind (implTotal_ev _ hm1) (Ev.ite_pos rfl ?_))))))
  refine Ev.step (f := fun k => (laws_toPitchS.f k l0).bind fun t => (laws_eqPitchS.f k (l0.map convPitch) t).bind fun b => if b = true then some true else some false) (fun k => by simp [laws_FnExactTotalDepth.j0]) ?_
  exact Ev.bind (toPitchS_ev l0 hb) (Ev.bind (eqPitchS_refl _ hm1) (Ev.ite_pos rfl (Ev.now true)))
end Go.Proofs.Ytknjpfjmkgfpdaa.Pure
