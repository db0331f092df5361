/- The law FnExactReadPlan's pure statement: the program's answer is the reference's. -/
import Derived.Test.YtckidmhkhlbkeaaPAllFnExactReadPlan
import Derived.Test.YtckidmhkhlbkeaaMRx7
namespace Go.Proofs.Ytckidmhkhlbkeaa.Pure
open Go.RowKit Go.Proofs.Ytckidmhkhlbkeaa.MR Go.Proofs.YtckidmhkhlbkeaaW.PrintWords Go.Proofs.YtckidmhkhlbkeaaW.PrintLast Go.Proofs.YtckidmhkhlbkeaaW.PrintMore
set_option linter.unusedVariables false
set_option linter.unusedSimpArgs false
set_option linter.unusedVariables false
theorem FnExactReadPlan (a0 : ByteArray) (y0 : a0.size ≤ maxLen) : ∃ k, laws_FnExactReadPlan.f k a0 = some true := by
 apply Ev.rounds
 simp only [laws_FnExactReadPlan.f]
 by_cases hg0 : (a0.size : Int) > 1048576
 ·exact Ev.ite_pos hg0 (Ev.now true)
 refine Ev.ite_neg hg0 ?_
 have hb0 : a0.size ≤ 1048576 := by omega
 have hS := specRead_ev a0
 have hI := implRead_ev a0 (by omega)
 have hB0 := readAns_len a0
 generalize readAns a0 = a at hS hI hB0
 have he0 := eqPlanMarkS_refl a.1 (by omega)
 have hh0 := heldPlanMarkS_ev a.1.length 1 (by omega) (by omega) (by omega)
 have hk0 := markPlanMarkS_ev a.1 1 (by omega) (by omega) (by omega)
 repeat first
  | exact Ev.now _
  | with_reducible refine Ev.bind hS ?_
  | with_reducible refine Ev.bind hI ?_
  | with_reducible refine Ev.bind he0 ?_
  | with_reducible refine Ev.bind hh0 ?_
  | with_reducible refine Ev.bind hk0 ?_
  | with_reducible refine Ev.ite_pos rfl ?_
  | refine Ev.ite_neg (by first | omega | (simp only [List.length_map]; omega)) ?_
  | refine Ev.ite_neg (by simp) ?_
  | refine Ev.ite_pos (by omega) ?_
  | (refine Ev.step (fun k => by rw [laws_FnExactReadPlan.j0]) ?_; try with_reducible refine Ev.ite_neg (by simp) ?_)
  | (refine Ev.step (fun k => by rw [laws_FnExactReadPlan.j1]) ?_; try with_reducible refine Ev.ite_neg (by simp) ?_)
end Go.Proofs.Ytckidmhkhlbkeaa.Pure
