/- How far a way climbs: both answers. -/
import Derived.Test.YtmbpdegkkdcjnaaDoorMWx4
import Derived.Test.YtmbpdegkkdcjnaaDoorPRuns
import Derived.Test.YtmbpdegkkdcjnaaDoorPMinMax
namespace Go.Proofs.YtmbpdegkkdcjnaaDoor.Pure
open Go.RowKit Go.Proofs.YtmbpdegkkdcjnaaDoor.MW Go.Proofs.YtmbpdegkkdcjnaaDoorW.PrintWords Go.Proofs.YtmbpdegkkdcjnaaDoorW.PrintLast Go.Proofs.YtmbpdegkkdcjnaaDoorW.PrintMore
set_option linter.unusedVariables false
set_option linter.unusedSimpArgs false
def climbed (l : List S44) : Int × Int × Bool := if okWay l = true then foldN (fun i (s : Int × Int) => Sum.inl (wrap64 (s.1 + max 0 (l.getD i z44).f1), wrap64 (s.2 + max 0 (wrap64 (-(l.getD i z44).f1))))) (fun s => (s.1, s.2, true)) l.length 0 (0, 0) else (0, 0, false)
theorem specClimb_ev (l : List S44) (hm : l.length ≤ 9223372036854775807) : Ev (fun k => spec_Climb.f k l) (climbed l) := by
 simp only [spec_Climb.f]
 refine Ev.bind (l14Good_ev l hm) ?_
 unfold climbed
 by_cases hp : okWay l = true
 ·refine Ev.ite_pos hp ?_
  rw [if_pos hp]
  refine loopT_ev (fun k i (s : Int × Int) => spec_Climb.l0 k l s.1 s.2 i) l.length 0 _ _ (0, 0) ?_ ?_
  ·rintro k i s - hi
   refine .inl ⟨_, rfl, ?_⟩
   simp only [spec_Climb.l0, rdR, l1Most_eq, Option.bind_some]
   rw [if_pos (by omega), if_pos (by omega), wrap_up hi hm]
  ·rintro k s -
   simp only [spec_Climb.l0]
   rw [if_neg (by omega)]
 ·refine Ev.ite_neg hp ?_
  rw [if_neg hp]
  exact Ev.now _
theorem implClimb_ev (l : List S44) (hm : l.length ≤ 9223372036854775807) : Ev (fun k => impl_Climb.f k l) (climbed l) := by
 simp only [impl_Climb.f]
 refine Ev.bind (isWay_ev l hm) ?_
 unfold climbed
 by_cases hp : okWay l = true
 ·refine Ev.ite_pos hp ?_
  rw [if_pos hp]
  refine loopT_ev (fun k i (s : Int × Int) => impl_Climb.l0 k s.1 s.2 l (l.length : Int) i) l.length 0 _ _ (0, 0) ?_ ?_
  ·rintro k i s - hi
   refine .inl ⟨_, rfl, ?_⟩
   simp only [impl_Climb.l0, rdR, mx_eq]
   rw [if_pos (by omega), if_pos (by omega), if_pos (by omega), wrap_up hi hm, Int.max_comm 0, Int.max_comm 0]
  ·rintro k s -
   simp only [impl_Climb.l0]
   rw [if_neg (by omega)]
 ·refine Ev.ite_neg hp ?_
  rw [if_neg hp]
  exact Ev.now _
end Go.Proofs.YtmbpdegkkdcjnaaDoor.Pure
