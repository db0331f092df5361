/- The laws' own comparison of runs: a list is its like. -/
import Derived.Test.YtihekanoigpjpaaDoorMVx7
import Derived.Test.YtihekanoigpjpaaDoorPBase
namespace Go.Proofs.YtihekanoigpjpaaDoor.Pure
open Go.RowKit Go.Proofs.YtihekanoigpjpaaDoor.MV Go.Proofs.YtihekanoigpjpaaDoorW.PrintWords Go.Proofs.YtihekanoigpjpaaDoorW.PrintLast Go.Proofs.YtihekanoigpjpaaDoorW.PrintMore
set_option linter.unusedVariables false
set_option linter.unusedSimpArgs false
theorem eqRun_refl (a0 : Int) (a1 : Int) : laws_eqRun.f a0 a1 a0 a1 = some true := by simp [laws_eqRun.f]
theorem eqRunS_refl (l : List S59) (hm : l.length ≤ 9223372036854775807) : Ev (fun k => laws_eqRunS.f k l l) true := by
  simp only [laws_eqRunS.f]
  refine Ev.ite_pos trivial ?_
  refine loopV_ev (fun k i (_ : Unit) => laws_eqRunS.l0 k l l i) l.length 0 (fun _ _ => True) true () trivial ?_ ?_
  · rintro k i - - hi -
    refine .inl ⟨(), trivial, ?_⟩
    simp only [laws_eqRunS.l0, eqRun_refl, Option.bind_some]
    rw [if_pos (by omega), if_pos (by omega), if_pos (by omega), if_pos trivial, wrap_up hi hm]
  · rintro k - - -
    simp only [laws_eqRunS.l0]
    rw [if_neg (by omega)]
end Go.Proofs.YtihekanoigpjpaaDoor.Pure
