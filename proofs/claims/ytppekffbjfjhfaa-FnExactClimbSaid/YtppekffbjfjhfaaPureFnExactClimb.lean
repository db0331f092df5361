/- The law FnExactClimb's pure statement: the program's Climb is the reference's. -/
import Derived.Test.YtppekffbjfjhfaaMAx6
import Derived.Test.YtppekffbjfjhfaaPWRun
import Derived.Test.YtppekffbjfjhfaaPRuns
import Derived.Test.YtppekffbjfjhfaaPMinMax
import Derived.Test.YtppekffbjfjhfaaDecA
namespace Go.Proofs.Ytppekffbjfjhfaa.Pure
open Go.RowKit Go.Proofs.Ytppekffbjfjhfaa.MA Go.Proofs.YtppekffbjfjhfaaW.PrintWords Go.Proofs.YtppekffbjfjhfaaW.PrintLast Go.Proofs.YtppekffbjfjhfaaW.PrintMore
def climbed (l : List S57) : Int × Int × Bool := if okWay l = true then foldN (fun i (s : Int × Int) => Sum.inl (wrap64 (s.1 + max 0 (l.getD i z57).f1), wrap64 (s.2 + max 0 (wrap64 (-(l.getD i z57).f1))))) (fun s => (s.1, s.2, true)) l.length 0 (0, 0) else (0, 0, false)
theorem specClimb_ev (l : List S57) (hm : l.length ≤ 9223372036854775807) : Ev (fun k => spec_Climb.f k l) (climbed l) := by
  simp only [spec_Climb.f]
  refine Ev.bind (l14Good_ev l hm) ?_
  unfold climbed
  by_cases hp : okWay l = true
  · refine Ev.ite_pos hp ?_
    rw [if_pos hp]
    refine loopT_ev (fun k i (s : Int × Int) => spec_Climb.l0 k l s.1 s.2 i) l.length 0 _ _ (0, 0) ?_ ?_
    · rintro k i s - hi
      refine .inl ⟨_, rfl, ?_⟩
      simp only [spec_Climb.l0, rdR, l1Most_eq, Option.bind_some]
      rw [if_pos (by omega), if_pos (by omega), wrap_up hi hm]
    · rintro k s -
      simp only [spec_Climb.l0]
      rw [if_neg (by omega)]
  · refine Ev.ite_neg hp ?_
    rw [if_neg hp]
    exact Ev.now _
theorem implClimb_ev (l : List S57) (hm : l.length ≤ 9223372036854775807) : Ev (fun k => impl_Climb.f k l) (climbed l) := by
  simp only [impl_Climb.f]
  refine Ev.bind (isWay_ev l hm) ?_
  unfold climbed
  by_cases hp : okWay l = true
  · refine Ev.ite_pos hp ?_
    rw [if_pos hp]
    refine loopT_ev (fun k i (s : Int × Int) => impl_Climb.l0 k s.1 s.2 l (l.length : Int) i) l.length 0 _ _ (0, 0) ?_ ?_
    · rintro k i s - hi
      refine .inl ⟨_, rfl, ?_⟩
      simp only [impl_Climb.l0, rdR, mx_eq]
      rw [if_pos (by omega), if_pos (by omega), if_pos (by omega), wrap_up hi hm, Int.max_comm 0, Int.max_comm 0]
    · rintro k s -
      simp only [impl_Climb.l0]
      rw [if_neg (by omega)]
  · refine Ev.ite_neg hp ?_
    rw [if_neg hp]
    exact Ev.now _
theorem FnExactClimb (l0 : List S59) (hm0 : l0.length ≤ 9223372036854775807) (_hw0 : ∀ x ∈ l0, OK59 x) : ∃ k, laws_FnExactClimb.f k l0 = some true := by
  apply Ev.rounds
  have hm1 : (l0.map convRun).length ≤ 9223372036854775807 := by rw [List.length_map]; exact hm0
  simp only [laws_FnExactClimb.f]
  rcases Nat.lt_or_ge 1048576 l0.length with hb | hb
  · exact Ev.bindc (szRunS_big l0 hm0 (by omega)) (Ev.ite_pos (by omega) (Ev.now true))
  refine Ev.bindc (szRunS_small l0 hb) (Ev.ite_neg (by omega) (Ev.bind (toRunS_ev l0 hb) (Ev.bind (specClimb_ev _ hm1) (Ev.bind (toRunS_ev l0 hb) (Ev.bind (implClimb_ev _ hm1) (Ev.ite_pos rfl (Ev.ite_pos rfl ?_)))))))
  refine Ev.step (f := fun k => (laws_toRunS.f k l0).bind fun t => (laws_eqRunS.f k (l0.map convRun) t).bind fun b => if b = true then some true else some false) (fun k => by simp [laws_FnExactClimb.j0]) ?_
  exact Ev.bind (toRunS_ev l0 hb) (Ev.bind (eqRunS_refl _ hm1) (Ev.ite_pos rfl (Ev.now true)))
end Go.Proofs.Ytppekffbjfjhfaa.Pure
