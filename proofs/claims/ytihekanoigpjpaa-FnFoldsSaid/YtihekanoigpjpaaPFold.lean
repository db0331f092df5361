/- Folded ways: the width, as the program and the reference reckon it. -/
import Derived.Test.YtihekanoigpjpaaMHx5
import Derived.Test.YtihekanoigpjpaaMHx4
import Derived.Test.YtihekanoigpjpaaPRuns
import Derived.Test.YtihekanoigpjpaaPMinMax
import Derived.Test.YtihekanoigpjpaaPLeast
namespace Go.Proofs.Ytihekanoigpjpaa.Pure
open Go.RowKit Go.Proofs.Ytihekanoigpjpaa.MH Go.Proofs.YtihekanoigpjpaaW.PrintWords Go.Proofs.YtihekanoigpjpaaW.PrintLast Go.Proofs.YtihekanoigpjpaaW.PrintMore
set_option linter.unusedVariables false
set_option linter.unusedSimpArgs false
/-- One run more: the place, the least and the greatest place. -/
def foldStep (w : List S43) (ds : List Int) (i : Nat) (s : Int × Int × Int) : Int × Int × Int :=
  (wrap64 (s.1 + wrap64 (ds.getD i 0 * (w.getD i z43).f0)), min s.2.1 (wrap64 (s.1 + wrap64 (ds.getD i 0 * (w.getD i z43).f0))), max s.2.2 (wrap64 (s.1 + wrap64 (ds.getD i 0 * (w.getD i z43).f0))))
def widthOf (w : List S43) (ds : List Int) : Int := foldN (fun i s => Sum.inl (foldStep w ds i s)) (fun s => wrap64 (s.2.2 - s.2.1)) ds.length 0 (0, 0, 0)
theorem specWidth_ev (w : List S43) (ds : List Int) (hl : ds.length ≤ w.length) (hm : w.length ≤ 9223372036854775807) : Ev (fun k => spec_l14Width.f k w ds) (widthOf w ds) := by
  simp only [spec_l14Width.f]
  refine loopT_ev (fun k i (s : Int × Int × Int) => spec_l14Width.l0 k w ds s.2.1 s.2.2 s.1 i) ds.length 0 _ _ (0, 0, 0) ?_ ?_
  · rintro k i s - hi
    refine .inl ⟨_, rfl, ?_⟩
    simp only [spec_l14Width.l0, rdR, rd_nat, l1Most_eq, l1Least_eq, Option.bind_some, foldStep]
    rw [if_pos (by omega), if_pos (by omega), if_pos (by omega), wrap_up hi (by omega)]
  · rintro k s -
    simp only [spec_l14Width.l0]
    rw [if_neg (by omega)]
theorem implWidth_ev (w : List S43) (ds : List Int) (hl : ds.length = w.length) (hm : w.length ≤ 9223372036854775807) : Ev (fun k => impl_foldedWidth.f k w ds) (widthOf w ds) := by
  simp only [impl_foldedWidth.f]
  unfold widthOf
  rw [hl]
  refine loopT_ev (fun k i (s : Int × Int × Int) => impl_foldedWidth.l0 k ds s.1 s.2.1 s.2.2 w (w.length : Int) i) w.length 0 _ _ (0, 0, 0) ?_ ?_
  · rintro k i s - hi
    refine .inl ⟨_, rfl, ?_⟩
    simp only [impl_foldedWidth.l0, rdR, rd_nat, mx_eq, mn_eq, foldStep]
    rw [if_pos (by omega), if_pos (by omega), if_pos (by omega), if_pos (by omega), wrap_up hi (by omega)]
  · rintro k s -
    simp only [impl_foldedWidth.l0]
    rw [if_neg (by omega)]
end Go.Proofs.Ytihekanoigpjpaa.Pure
