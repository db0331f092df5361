/- A list of numbers is itself. -/
import Derived.Test.YtmbpdegkkdcjnaaDoorMWx3
import Derived.Test.YtmbpdegkkdcjnaaDoorPBase
namespace Go.Proofs.YtmbpdegkkdcjnaaDoor.Pure
open Go.RowKit Go.Proofs.YtmbpdegkkdcjnaaDoor.MW Go.Proofs.YtmbpdegkkdcjnaaDoorW.PrintWords Go.Proofs.YtmbpdegkkdcjnaaDoorW.PrintLast Go.Proofs.YtmbpdegkkdcjnaaDoorW.PrintMore
set_option linter.unusedVariables false
set_option linter.unusedSimpArgs false
theorem rInts_ev (l : List Int) (hm : l.length ≤ 9223372036854775807) : Ev (fun k => laws_rInts.f k l l) true := by
 simp only [laws_rInts.f]
 refine Ev.ite_pos trivial ?_
 have key : ∀ e i, i + e = l.length → Ev (fun k => laws_rInts.l0 k l l (i : Int)) true := by
  intro e
  induction e with
  | zero =>
   intro i hi
   refine Ev.step (fun k => by rw [laws_rInts.l0]) ?_
   exact Ev.ite_neg (by omega) (Ev.now _)
  | succ e ih =>
   intro i hi
   refine Ev.step (fun k => by rw [laws_rInts.l0]) ?_
   rw [wrap_up (i := i) (n := l.length) (by omega) hm]
   exact Ev.ite_pos (by omega) (Ev.ite_pos (by omega) (Ev.ite_pos (by omega) (Ev.ite_pos rfl (ih (i + 1) (by omega)))))
 exact key l.length 0 (by omega)
end Go.Proofs.YtmbpdegkkdcjnaaDoor.Pure
