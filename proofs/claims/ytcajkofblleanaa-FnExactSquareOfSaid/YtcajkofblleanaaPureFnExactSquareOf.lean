/- The law FnExactSquareOf's pure statement: the program's answer is the reference's. -/
import Derived.Test.YtcajkofblleanaaMQx6
import Derived.Test.YtcajkofblleanaaPSzPlanMark
import Derived.Test.YtcajkofblleanaaPWPlanMark
import Derived.Test.YtcajkofblleanaaPSquareOf
import Derived.Test.YtcajkofblleanaaDecQ
namespace Go.Proofs.Ytcajkofblleanaa.Pure
open Go.RowKit Go.Proofs.Ytcajkofblleanaa.MQ Go.Proofs.YtcajkofblleanaaW.PrintWords Go.Proofs.YtcajkofblleanaaW.PrintLast Go.Proofs.YtcajkofblleanaaW.PrintMore
set_option linter.unusedVariables false
theorem FnExactSquareOf (l0 : List (S64)) (hm0 : l0.length ≤ 9223372036854775807) (hw0 : ∀ x ∈ l0, OK64 x) (a1 : Int) (w1 : (Lit.int .i64 a1).wf = true) (a2 : ByteArray) (y2 : a2.size ≤ maxLen) : ∃ k, laws_FnExactSquareOf.f k l0 a1 a2 = some true := by
  apply Ev.rounds
  have hc0 : (l0.map convPlanMark).length ≤ 9223372036854775807 := by rw [List.length_map]; exact hm0
  simp only [laws_FnExactSquareOf.f]
  by_cases hg2 : (a2.size : Int) > 1048576
  · exact Ev.ite_pos hg2 (Ev.now true)
  refine Ev.ite_neg hg2 ?_
  have hb2 : a2.size ≤ 1048576 := by omega
  rcases szPlanMarkS_at l0 hm0 with hs0 | ⟨hb0, v0, hv0, hs0⟩
  · exact Ev.bind hs0 (Ev.ite_pos (by omega) (Ev.now true))
  refine Ev.bind hs0 (Ev.ite_neg (by omega) ?_)
  have t0 := toPlanMarkS_ev l0 hb0
  have hS := specSquareOf_ev (l0.map convPlanMark) a1 a2 hc0
  have hI := implSquareOf_ev (l0.map convPlanMark) a1 a2 hc0
  generalize squareAns (l0.map convPlanMark) a1 a2 = a at hS hI 
  have hq0 := eqPlanMarkS_refl (l0.map convPlanMark) hc0
  repeat first
    | exact Ev.now _
    | with_reducible refine Ev.bind t0 ?_
    | with_reducible refine Ev.bind hS ?_
    | with_reducible refine Ev.bind hI ?_
    | with_reducible refine Ev.bind hq0 ?_
    | with_reducible refine Ev.ite_pos rfl ?_
    | refine Ev.ite_neg (by first | omega | (simp only [List.length_map]; omega)) ?_
    | refine Ev.ite_neg (by simp) ?_
    | refine Ev.ite_pos (by omega) ?_
    | (refine Ev.step (fun k => by rw [laws_FnExactSquareOf.j0]) ?_; try with_reducible refine Ev.ite_neg (by simp) ?_)
end Go.Proofs.Ytcajkofblleanaa.Pure
