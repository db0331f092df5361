/- The law FnExactReverseWay's pure statement: the program's answer is the reference's. -/
import Derived.Test.YtihekanoigpjpaaMVx4
import Derived.Test.YtihekanoigpjpaaPWRun
import Derived.Test.YtihekanoigpjpaaPMRun
import Derived.Test.YtihekanoigpjpaaPReverse
import Derived.Test.YtihekanoigpjpaaDecV
namespace Go.Proofs.Ytihekanoigpjpaa.Pure
open Go.RowKit Go.Proofs.Ytihekanoigpjpaa.MV Go.Proofs.YtihekanoigpjpaaW.PrintWords Go.Proofs.YtihekanoigpjpaaW.PrintLast Go.Proofs.YtihekanoigpjpaaW.PrintMore
set_option linter.unusedVariables false
set_option linter.unusedSimpArgs false
set_option linter.unusedVariables false
theorem FnExactReverseWay (l0 : List (S47)) (hm0 : l0.length ≤ 9223372036854775807) (hw0 : ∀ x ∈ l0, OK47 x) : ∃ k, laws_FnExactReverseWay.f k l0 = some true := by
  apply Ev.rounds
  have hc0 : (l0.map convRun).length ≤ 9223372036854775807 := by rw [List.length_map]; exact hm0
  simp only [laws_FnExactReverseWay.f]
  by_cases hb0L : (l0.length : Int) ≤ 1048576
  case neg => exact Ev.bindc (szRunS_neg l0 (1048576) hm0 (by omega) (by omega) hb0L) (Ev.ite_pos (by omega) (Ev.now true))
  refine Ev.bindc (szRunS_pos l0 (1048576) (by omega) (by omega) hb0L) (Ev.ite_neg (by omega) ?_)
  have hb0 : l0.length ≤ 1048576 := by omega
  have t0 := toRunS_ev l0 hb0
  have hS := specRev_ev (l0.map convRun) hc0
  have hI := implRev_ev (l0.map convRun) hc0
  have hB0 := revAns_len (l0.map convRun)
  generalize revAns (l0.map convRun) = a at hS hI hB0
  have he0 := eqRunS_refl a.1 (by omega)
  have hh0 := heldRunS_ev a.1.length 1 (by omega) (by omega) (by omega)
  have hk0 := markRunS_ev a.1 1 (by omega) (by omega) (by omega)
  have hq0 := eqRunS_refl (l0.map convRun) hc0
  have hn0 := markRunS_ev (l0.map convRun) (1) (by first | omega | (simp only [List.length_map]; omega)) (by first | omega | (simp only [List.length_map]; omega)) (by first | omega | (simp only [List.length_map]; omega))
  repeat first
    | exact Ev.now _
    | with_reducible refine Ev.bind t0 ?_
    | with_reducible refine Ev.bind hS ?_
    | with_reducible refine Ev.bind hI ?_
    | with_reducible refine Ev.bind he0 ?_
    | with_reducible refine Ev.bind hh0 ?_
    | with_reducible refine Ev.bind hk0 ?_
    | with_reducible refine Ev.bind hq0 ?_
    | with_reducible refine Ev.bind hn0 ?_
    | with_reducible refine Ev.ite_pos rfl ?_
    | refine Ev.ite_neg (by first | omega | (simp only [List.length_map]; omega)) ?_
    | refine Ev.ite_neg (by simp) ?_
    | refine Ev.ite_pos (by omega) ?_
    | (refine Ev.step (fun k => by rw [laws_FnExactReverseWay.j0]) ?_; try with_reducible refine Ev.ite_neg (by simp) ?_)
    | (refine Ev.step (fun k => by rw [laws_FnExactReverseWay.j1]) ?_; try with_reducible refine Ev.ite_neg (by simp) ?_)
    | (refine Ev.step (fun k => by rw [laws_FnExactReverseWay.j2]) ?_; try with_reducible refine Ev.ite_neg (by simp) ?_)
end Go.Proofs.Ytihekanoigpjpaa.Pure
