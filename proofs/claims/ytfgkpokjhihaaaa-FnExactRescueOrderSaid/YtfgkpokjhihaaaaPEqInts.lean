/- The laws' own comparison of slices of numbers, where nothing is copied. -/
import Derived.Test.YtfgkpokjhihaaaaMRx1
import Derived.Test.YtfgkpokjhihaaaaPBase
namespace Go.Proofs.Ytfgkpokjhihaaaa.Pure
open Go.RowKit Go.Proofs.Ytfgkpokjhihaaaa.MR Go.Proofs.YtfgkpokjhihaaaaW.PrintWords Go.Proofs.YtfgkpokjhihaaaaW.PrintLast Go.Proofs.YtfgkpokjhihaaaaW.PrintMore
set_option linter.unusedVariables false
set_option linter.unusedSimpArgs false
theorem eqIntS_same (l : List Int) (hm : l.length ≤ 9223372036854775807) : Ev (fun k => laws_eqIntS.f k l l) true := by
 simp only [laws_eqIntS.f]
 refine Ev.ite_pos trivial ?_
 refine loopV_ev (fun k i (_ : Unit) => laws_eqIntS.l0 k l l i) l.length 0 (fun _ _ => True) true () trivial ?_ ?_
 ·rintro k i - - hi -
  refine .inl ⟨(), trivial, ?_⟩
  simp only [laws_eqIntS.l0]
  rw [if_pos (by omega), if_pos (by omega), if_pos (by omega), if_pos trivial, wrap_up hi hm]
 ·rintro k - - -
  simp only [laws_eqIntS.l0]
  rw [if_neg (by omega)]
end Go.Proofs.Ytfgkpokjhihaaaa.Pure
