/- The law FnExactAreRopes's pure statement: the program's AreRopes is the reference's. -/
import Derived.Test.YtknjpfjmkgfpdaaMAx4
import Derived.Test.YtknjpfjmkgfpdaaPInts
import Derived.Test.YtknjpfjmkgfpdaaPRopes
namespace Go.Proofs.Ytknjpfjmkgfpdaa.Pure
open Go.RowKit Go.Proofs.Ytknjpfjmkgfpdaa.MA Go.Proofs.YtknjpfjmkgfpdaaW.PrintWords Go.Proofs.YtknjpfjmkgfpdaaW.PrintLast Go.Proofs.YtknjpfjmkgfpdaaW.PrintMore
theorem FnExactAreRopes (l0 : List Int) (_hm0 : l0.length ≤ 9223372036854775807) (_hw0 : ∀ x ∈ l0, (Lit.int .i64 x).wf = true) : ∃ k, laws_FnExactAreRopes.f k l0 = some true := by
  apply Ev.rounds
  simp only [laws_FnExactAreRopes.f]
  by_cases hb : (l0.length : Int) > 1048576
  · exact Ev.ite_pos hb (Ev.now true)
  refine Ev.ite_neg hb (Ev.bind (toIntS_ev l0 (by omega)) (Ev.bind (a := okRopes l0) ?_ (Ev.bind (toIntS_ev l0 (by omega)) (Ev.bindc (areRopes_eq l0) (Ev.ite_neg (by simp) (Ev.bind (toIntS_ev l0 (by omega)) (Ev.bind (eqIntS_refl l0 (by omega)) (Ev.ite_pos rfl (Ev.now true)))))))))
  simp only [spec_AreRopes.f]
  exact Ev.bind (l16Ropes_ev l0 (by omega)) (Ev.now _)
end Go.Proofs.Ytknjpfjmkgfpdaa.Pure
