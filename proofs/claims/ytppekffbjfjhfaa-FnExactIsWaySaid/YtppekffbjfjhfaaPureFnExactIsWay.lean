/- The law FnExactIsWay's pure statement: the program's IsWay is the reference's. -/
import Derived.Test.YtppekffbjfjhfaaMAx5
import Derived.Test.YtppekffbjfjhfaaPWRun
import Derived.Test.YtppekffbjfjhfaaPRuns
import Derived.Test.YtppekffbjfjhfaaDecA
namespace Go.Proofs.Ytppekffbjfjhfaa.Pure
open Go.RowKit Go.Proofs.Ytppekffbjfjhfaa.MA Go.Proofs.YtppekffbjfjhfaaW.PrintWords Go.Proofs.YtppekffbjfjhfaaW.PrintLast Go.Proofs.YtppekffbjfjhfaaW.PrintMore
theorem FnExactIsWay (l0 : List S59) (hm0 : l0.length ≤ 9223372036854775807) (_hw0 : ∀ x ∈ l0, OK59 x) : ∃ k, laws_FnExactIsWay.f k l0 = some true := by
  apply Ev.rounds
  have hm1 : (l0.map convRun).length ≤ 9223372036854775807 := by rw [List.length_map]; exact hm0
  simp only [laws_FnExactIsWay.f]
  rcases Nat.lt_or_ge 1048576 l0.length with hb | hb
  · exact Ev.bindc (szRunS_big l0 hm0 (by omega)) (Ev.ite_pos (by omega) (Ev.now true))
  refine Ev.bindc (szRunS_small l0 hb) (Ev.ite_neg (by omega) (Ev.bind (toRunS_ev l0 hb) (Ev.bind (a := okWay (l0.map convRun)) ?_ (Ev.bind (toRunS_ev l0 hb) (Ev.bind (isWay_ev _ hm1) (Ev.ite_neg (by simp) (Ev.bind (toRunS_ev l0 hb) (Ev.bind (eqRunS_refl _ hm1) (Ev.ite_pos rfl (Ev.now true))))))))))
  simp only [spec_IsWay.f]
  exact Ev.bind (l14Good_ev _ hm1) (Ev.now _)
end Go.Proofs.Ytppekffbjfjhfaa.Pure
