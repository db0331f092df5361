/- The law FnExactRangeOf's pure statement: the program's RangeOf is the reference's. -/
import Derived.Test.YtppekffbjfjhfaaMAx11
import Derived.Test.YtppekffbjfjhfaaPWRun
import Derived.Test.YtppekffbjfjhfaaPRuns
import Derived.Test.YtppekffbjfjhfaaPMinMax
import Derived.Test.YtppekffbjfjhfaaPLeast
import Derived.Test.YtppekffbjfjhfaaDecA
namespace Go.Proofs.Ytppekffbjfjhfaa.Pure
open Go.RowKit Go.Proofs.Ytppekffbjfjhfaa.MA Go.Proofs.YtppekffbjfjhfaaW.PrintWords Go.Proofs.YtppekffbjfjhfaaW.PrintLast Go.Proofs.YtppekffbjfjhfaaW.PrintMore
def rangeStep (l : List S57) (i : Nat) (s : Int × Int × Int) : Int × Int × Int := (min s.1 (wrap64 (s.2.2 + (l.getD i z57).f1)), max s.2.1 (wrap64 (s.2.2 + (l.getD i z57).f1)), wrap64 (s.2.2 + (l.getD i z57).f1))
def ranged (l : List S57) : Int × Int × Bool := if okWay l = true then foldN (fun i s => Sum.inl (rangeStep l i s)) (fun s => (s.1, s.2.1, true)) l.length 0 (0, 0, 0) else (0, 0, false)
theorem specRange_ev (l : List S57) (hm : l.length ≤ 9223372036854775807) : Ev (fun k => spec_RangeOf.f k l) (ranged l) := by
  simp only [spec_RangeOf.f]
  refine Ev.bind (l14Good_ev l hm) ?_
  unfold ranged
  by_cases hp : okWay l = true
  · refine Ev.ite_pos hp ?_
    rw [if_pos hp]
    refine loopT_ev (fun k i (s : Int × Int × Int) => spec_RangeOf.l0 k l s.1 s.2.1 s.2.2 i) l.length 0 _ _ (0, 0, 0) ?_ ?_
    · rintro k i s - hi
      refine .inl ⟨_, rfl, ?_⟩
      simp only [spec_RangeOf.l0, rdR, l1Most_eq, l1Least_eq, Option.bind_some, rangeStep]
      rw [if_pos (by omega), if_pos (by omega), wrap_up hi hm]
    · rintro k s -
      simp only [spec_RangeOf.l0]
      rw [if_neg (by omega)]
  · refine Ev.ite_neg hp ?_
    rw [if_neg hp]
    exact Ev.now _
theorem implRange_ev (l : List S57) (hm : l.length ≤ 9223372036854775807) : Ev (fun k => impl_RangeOf.f k l) (ranged l) := by
  simp only [impl_RangeOf.f]
  refine Ev.bind (isWay_ev l hm) ?_
  unfold ranged
  by_cases hp : okWay l = true
  · refine Ev.ite_pos hp ?_
    rw [if_pos hp]
    refine loopT_ev (fun k i (s : Int × Int × Int) => impl_RangeOf.l0 k s.2.2 s.1 s.2.1 l (l.length : Int) i) l.length 0 _ _ (0, 0, 0) ?_ ?_
    · rintro k i s - hi
      refine .inl ⟨_, rfl, ?_⟩
      simp only [impl_RangeOf.l0, rdR, mx_eq, mn_eq, rangeStep]
      rw [if_pos (by omega), if_pos (by omega), if_pos (by omega), wrap_up hi hm]
    · rintro k s -
      simp only [impl_RangeOf.l0]
      rw [if_neg (by omega)]
  · refine Ev.ite_neg hp ?_
    rw [if_neg hp]
    exact Ev.now _
theorem FnExactRangeOf (l0 : List S59) (hm0 : l0.length ≤ 9223372036854775807) (_hw0 : ∀ x ∈ l0, OK59 x) : ∃ k, laws_FnExactRangeOf.f k l0 = some true := by
  apply Ev.rounds
  have hm1 : (l0.map convRun).length ≤ 9223372036854775807 := by rw [List.length_map]; exact hm0
  simp only [laws_FnExactRangeOf.f]
  rcases Nat.lt_or_ge 1048576 l0.length with hb | hb
  · exact Ev.bindc (szRunS_big l0 hm0 (by omega)) (Ev.ite_pos (by omega) (Ev.now true))
  refine Ev.bindc (szRunS_small l0 hb) (Ev.ite_neg (by omega) (Ev.bind (toRunS_ev l0 hb) (Ev.bind (specRange_ev _ hm1) (Ev.bind (toRunS_ev l0 hb) (Ev.bind (implRange_ev _ hm1) (Ev.ite_pos rfl (Ev.ite_pos rfl ?_)))))))
  refine Ev.step (f := fun k => (laws_toRunS.f k l0).bind fun t => (laws_eqRunS.f k (l0.map convRun) t).bind fun b => if b = true then some true else some false) (fun k => by simp [laws_FnExactRangeOf.j0]) ?_
  exact Ev.bind (toRunS_ev l0 hb) (Ev.bind (eqRunS_refl _ hm1) (Ev.ite_pos rfl (Ev.now true)))
end Go.Proofs.Ytppekffbjfjhfaa.Pure
