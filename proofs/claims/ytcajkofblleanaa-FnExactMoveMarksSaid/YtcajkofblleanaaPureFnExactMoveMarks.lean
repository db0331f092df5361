/- The law FnExactMoveMarks's pure statement: the program's answer is the reference's. -/
import Derived.Test.YtcajkofblleanaaMSx7
import Derived.Test.YtcajkofblleanaaPMkPlanMark
import Derived.Test.YtcajkofblleanaaPWPlanMark
import Derived.Test.YtcajkofblleanaaPMove
import Derived.Test.YtcajkofblleanaaDecS
namespace Go.Proofs.Ytcajkofblleanaa.Pure
open Go.RowKit Go.Proofs.Ytcajkofblleanaa.MS Go.Proofs.YtcajkofblleanaaW.PrintWords Go.Proofs.YtcajkofblleanaaW.PrintLast Go.Proofs.YtcajkofblleanaaW.PrintMore
set_option linter.unusedVariables false
theorem FnExactMoveMarks (l0 : List (S64)) (hm0 : l0.length ≤ 9223372036854775807) (hw0 : ∀ x ∈ l0, OK64 x) (a1 : Int) (w1 : (Lit.int .i64 a1).wf = true) (a2 : Int) (w2 : (Lit.int .i64 a2).wf = true) : ∃ k, laws_FnExactMoveMarks.f k l0 a1 a2 = some true := by
  apply Ev.rounds
  have hc0 : (l0.map convPlanMark).length ≤ 9223372036854775807 := by rw [List.length_map]; exact hm0
  simp only [laws_FnExactMoveMarks.f]
  rcases szPlanMarkS_at l0 hm0 with hs0 | ⟨hb0, v0, hv0, hs0⟩
  · exact Ev.bind hs0 (Ev.ite_pos (by omega) (Ev.now true))
  refine Ev.bind hs0 (Ev.ite_neg (by omega) ?_)
  have t0 := toPlanMarkS_ev l0 hb0
  have hS := specMove_ev (l0.map convPlanMark) a1 a2 hc0
  have hI := implMove_ev (l0.map convPlanMark) a1 a2 hc0
  have hB0 := moveAns_len (l0.map convPlanMark) a1 a2
  generalize moveAns (l0.map convPlanMark) a1 a2 = a at hS hI hB0
  have he0 := eqPlanMarkS_refl a.1 (by omega)
  have hh0 := heldPlanMarkS_ev a.1.length 1 (by omega) (by omega) (by omega)
  have hk0 := markPlanMarkS_ev a.1 1 (by omega) (by omega) (by omega)
  have hq0 := eqPlanMarkS_refl (l0.map convPlanMark) hc0
  have hn0 := markPlanMarkS_ev (l0.map convPlanMark) (1) (by first | omega | (simp only [List.length_map]; omega)) (by first | omega | (simp only [List.length_map]; omega)) (by first | omega | (simp only [List.length_map]; omega))
  repeat first
    | exact Ev.now _
    | with_reducible refine Ev.bind t0 ?_
    | with_reducible refine Ev.bind hS ?_
    | with_reducible refine Ev.bind hI ?_
    | with_reducible refine Ev.bind he0 ?_
    | with_reducible refine Ev.bind hh0 ?_
    | with_reducible refine Ev.bind hk0 ?_
    | with_reducible refine Ev.bind hq0 ?_
    | with_reducible refine Ev.bind hn0 ?_
    | with_reducible refine Ev.ite_pos rfl ?_
    | refine Ev.ite_neg (by first | omega | (simp only [List.length_map]; omega)) ?_
    | refine Ev.ite_neg (by simp) ?_
    | refine Ev.ite_pos (by omega) ?_
    | (refine Ev.step (fun k => by rw [laws_FnExactMoveMarks.j0]) ?_; try with_reducible refine Ev.ite_neg (by simp) ?_)
    | (refine Ev.step (fun k => by rw [laws_FnExactMoveMarks.j1]) ?_; try with_reducible refine Ev.ite_neg (by simp) ?_)
    | (refine Ev.step (fun k => by rw [laws_FnExactMoveMarks.j2]) ?_; try with_reducible refine Ev.ite_neg (by simp) ?_)
end Go.Proofs.Ytcajkofblleanaa.Pure
