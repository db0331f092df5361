/- The range of a way: both answers. -/
import Derived.Test.YtmbpdegkkdcjnaaDoorMWx4
import Derived.Test.YtmbpdegkkdcjnaaDoorPRuns
import Derived.Test.YtmbpdegkkdcjnaaDoorPMinMax
import Derived.Test.YtmbpdegkkdcjnaaDoorPLeast
namespace Go.Proofs.YtmbpdegkkdcjnaaDoor.Pure
open Go.RowKit Go.Proofs.YtmbpdegkkdcjnaaDoor.MW Go.Proofs.YtmbpdegkkdcjnaaDoorW.PrintWords Go.Proofs.YtmbpdegkkdcjnaaDoorW.PrintLast Go.Proofs.YtmbpdegkkdcjnaaDoorW.PrintMore
set_option linter.unusedVariables false
set_option linter.unusedSimpArgs false
def rangeStep (l : List S44) (i : Nat) (s : Int × Int × Int) : Int × Int × Int := (min s.1 (wrap64 (s.2.2 + (l.getD i z44).f1)), max s.2.1 (wrap64 (s.2.2 + (l.getD i z44).f1)), wrap64 (s.2.2 + (l.getD i z44).f1))
def ranged (l : List S44) : Int × Int × Bool := if okWay l = true then foldN (fun i s => Sum.inl (rangeStep l i s)) (fun s => (s.1, s.2.1, true)) l.length 0 (0, 0, 0) else (0, 0, false)
theorem specRange_ev (l : List S44) (hm : l.length ≤ 9223372036854775807) : Ev (fun k => spec_RangeOf.f k l) (ranged l) := by
 simp only [spec_RangeOf.f]
 refine Ev.bind (l14Good_ev l hm) ?_
 unfold ranged
 by_cases hp : okWay l = true
 ·refine Ev.ite_pos hp ?_
  rw [if_pos hp]
  refine loopT_ev (fun k i (s : Int × Int × Int) => spec_RangeOf.l0 k l s.1 s.2.1 s.2.2 i) l.length 0 _ _ (0, 0, 0) ?_ ?_
  ·rintro k i s - hi
   refine .inl ⟨_, rfl, ?_⟩
   simp only [spec_RangeOf.l0, rdR, l1Most_eq, l1Least_eq, Option.bind_some, rangeStep]
   rw [if_pos (by omega), if_pos (by omega), wrap_up hi hm]
  ·rintro k s -
   simp only [spec_RangeOf.l0]
   rw [if_neg (by omega)]
 ·refine Ev.ite_neg hp ?_
  rw [if_neg hp]
  exact Ev.now _
theorem implRange_ev (l : List S44) (hm : l.length ≤ 9223372036854775807) : Ev (fun k => impl_RangeOf.f k l) (ranged l) := by
 simp only [impl_RangeOf.f]
 refine Ev.bind (isWay_ev l hm) ?_
 unfold ranged
 by_cases hp : okWay l = true
 ·refine Ev.ite_pos hp ?_
  rw [if_pos hp]
  refine loopT_ev (fun k i (s : Int × Int × Int) => impl_RangeOf.l0 k s.2.2 s.1 s.2.1 l (l.length : Int) i) l.length 0 _ _ (0, 0, 0) ?_ ?_
  ·rintro k i s - hi
   refine .inl ⟨_, rfl, ?_⟩
   simp only [impl_RangeOf.l0, rdR, mx_eq, mn_eq, rangeStep]
   rw [if_pos (by omega), if_pos (by omega), if_pos (by omega), wrap_up hi hm]
  ·rintro k s -
   simp only [impl_RangeOf.l0]
   rw [if_neg (by omega)]
 ·refine Ev.ite_neg hp ?_
  rw [if_neg hp]
  exact Ev.now _
end Go.Proofs.YtmbpdegkkdcjnaaDoor.Pure
