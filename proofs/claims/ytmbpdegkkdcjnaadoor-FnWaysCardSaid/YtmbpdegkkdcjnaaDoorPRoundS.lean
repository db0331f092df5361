/- The reference's other rounding. -/
import Derived.Test.YtmbpdegkkdcjnaaDoorMWx11
import Derived.Test.YtmbpdegkkdcjnaaDoorPSine
namespace Go.Proofs.YtmbpdegkkdcjnaaDoor.Pure
open Go.RowKit Go.Proofs.YtmbpdegkkdcjnaaDoor.MW Go.Proofs.YtmbpdegkkdcjnaaDoorW.PrintWords Go.Proofs.YtmbpdegkkdcjnaaDoorW.PrintLast Go.Proofs.YtmbpdegkkdcjnaaDoorW.PrintMore
set_option linter.unusedVariables false
set_option linter.unusedSimpArgs false
theorem round_pos {x : Int} (h : ¬ x < 0) : Ev (fun k => spec_l11Round.f k x 1000) (qo x) := by
 refine Ev.step (f := fun _ => some (qo x)) (fun k => ?_) (Ev.now _)
 simp only [spec_l11Round.f]
 rw [if_neg h, if_neg nz2000]
 rfl
theorem round_ev (x : Int) (h : -500000 ≤ x ∧ x ≤ 500000) : Ev (fun k => spec_l11Round.f k x 1000) (rnd x) := by
 by_cases hx : x < 0
 ·rw [show rnd x = wrap64 (-(qo (wrap64 (-x)))) from if_pos hx]
  exact Ev.step (f := fun k => (spec_l11Round.f k (wrap64 (-x)) 1000).bind fun t => some (wrap64 (-t))) (fun k => by simp only [spec_l11Round.f]; rw [if_pos hx]) (Ev.bind (round_pos (by rw [neg_in h]; omega)) (Ev.now _))
 ·rw [show rnd x = qo x from if_neg hx]
  exact round_pos hx
end Go.Proofs.YtmbpdegkkdcjnaaDoor.Pure
