/- The law FnExactWayOfLegs's pure statement: the program's answer is the reference's. -/
import Derived.Test.YtihekanoigpjpaaDoorMVx9
import Derived.Test.YtihekanoigpjpaaDoorPWLeg
import Derived.Test.YtihekanoigpjpaaDoorPMLeg
import Derived.Test.YtihekanoigpjpaaDoorPMRun
import Derived.Test.YtihekanoigpjpaaDoorPERun
import Derived.Test.YtihekanoigpjpaaDoorPWayLegs
import Derived.Test.YtihekanoigpjpaaDoorDecV
namespace Go.Proofs.YtihekanoigpjpaaDoor.Pure
open Go.RowKit Go.Proofs.YtihekanoigpjpaaDoor.MV Go.Proofs.YtihekanoigpjpaaDoorW.PrintWords Go.Proofs.YtihekanoigpjpaaDoorW.PrintLast Go.Proofs.YtihekanoigpjpaaDoorW.PrintMore
set_option linter.unusedVariables false
set_option linter.unusedSimpArgs false
set_option linter.unusedVariables false
theorem FnExactWayOfLegs (l0 : List (S61)) (hm0 : l0.length ≤ 9223372036854775807) (hw0 : ∀ x ∈ l0, OK61 x) : ∃ k, laws_FnExactWayOfLegs.f k l0 = some true := by
  apply Ev.rounds
  have hc0 : (l0.map convLeg).length ≤ 9223372036854775807 := by rw [List.length_map]; exact hm0
  simp only [laws_FnExactWayOfLegs.f]
  by_cases hb0L : (l0.length : Int) ≤ 1048576
  case neg => exact Ev.bindc (szLegS_neg l0 (1048576) hm0 (by omega) (by omega) hb0L) (Ev.ite_pos (by omega) (Ev.now true))
  refine Ev.bindc (szLegS_pos l0 (1048576) (by omega) (by omega) hb0L) (Ev.ite_neg (by omega) ?_)
  have hb0 : l0.length ≤ 1048576 := by omega
  have t0 := toLegS_ev l0 hb0
  have hS := specWOL_ev (l0.map convLeg) (by rw [List.length_map]; exact hb0)
  have hI := implWOL_ev (l0.map convLeg) (by rw [List.length_map]; exact hb0)
  have hB0 := wayAns_len (l0.map convLeg)
  generalize wayAns (l0.map convLeg) = a at hS hI hB0
  have he0 := eqRunS_refl a.1 (by omega)
  have hh0 := heldRunS_ev a.1.length 1 (by omega) (by omega) (by omega)
  have hk0 := markRunS_ev a.1 1 (by omega) (by omega) (by omega)
  have hq0 := eqLegS_refl (l0.map convLeg) hc0
  have hn0 := markLegS_ev (l0.map convLeg) (1) (by first | omega | (simp only [List.length_map]; omega)) (by first | omega | (simp only [List.length_map]; omega)) (by first | omega | (simp only [List.length_map]; omega))
  repeat first
    | exact Ev.now _
    | with_reducible refine Ev.bind t0 ?_
    | with_reducible refine Ev.bind hS ?_
    | with_reducible refine Ev.bind hI ?_
    | with_reducible refine Ev.bind he0 ?_
    | with_reducible refine Ev.bind hh0 ?_
    | with_reducible refine Ev.bind hk0 ?_
    | with_reducible refine Ev.bind hq0 ?_
    | with_reducible refine Ev.bind hn0 ?_
    | with_reducible refine Ev.ite_pos rfl ?_
    | refine Ev.ite_neg (by first | omega | (simp only [List.length_map]; omega)) ?_
    | refine Ev.ite_neg (by simp) ?_
    | refine Ev.ite_pos (by omega) ?_
    | (refine Ev.step (fun k => by rw [laws_FnExactWayOfLegs.j0]) ?_; try with_reducible refine Ev.ite_neg (by simp) ?_)
    | (refine Ev.step (fun k => by rw [laws_FnExactWayOfLegs.j1]) ?_; try with_reducible refine Ev.ite_neg (by simp) ?_)
    | (refine Ev.step (fun k => by rw [laws_FnExactWayOfLegs.j2]) ?_; try with_reducible refine Ev.ite_neg (by simp) ?_)
end Go.Proofs.YtihekanoigpjpaaDoor.Pure
