/- The law FnExactRescueOrder's pure statement: the program's answer is the reference's. -/
import Derived.Test.YtfgkpokjhihaaaaMRx9
import Derived.Test.YtfgkpokjhihaaaaPInts
import Derived.Test.YtfgkpokjhihaaaaPEqInts
import Derived.Test.YtfgkpokjhihaaaaPMInts
import Derived.Test.YtfgkpokjhihaaaaPWLeg
import Derived.Test.YtfgkpokjhihaaaaPMLeg
import Derived.Test.YtfgkpokjhihaaaaPRescue
import Derived.Test.YtfgkpokjhihaaaaDecR
namespace Go.Proofs.Ytfgkpokjhihaaaa.Pure
open Go.RowKit Go.Proofs.Ytfgkpokjhihaaaa.MR Go.Proofs.YtfgkpokjhihaaaaW.PrintWords Go.Proofs.YtfgkpokjhihaaaaW.PrintLast Go.Proofs.YtfgkpokjhihaaaaW.PrintMore
set_option linter.unusedVariables false
set_option linter.unusedSimpArgs false
set_option linter.unusedVariables false
theorem FnExactRescueOrder (l0 : List (S79)) (hm0 : l0.length ≤ 9223372036854775807) (hw0 : ∀ x ∈ l0, OK79 x) (l1 : List Int) (hm1 : l1.length ≤ 9223372036854775807) (hw1 : ∀ x ∈ l1, (Lit.int .i64 x).wf = true) (a2 : Int) (w2 : (Lit.int .i64 a2).wf = true) (l3 : List Int) (hm3 : l3.length ≤ 9223372036854775807) (hw3 : ∀ x ∈ l3, (Lit.int .i64 x).wf = true) : ∃ k, laws_FnExactRescueOrder.f k l0 l1 a2 l3 = some true := by
 apply Ev.rounds
 have hc0 : (l0.map convLeg).length ≤ 9223372036854775807 := by rw [List.length_map]; exact hm0
 simp only [laws_FnExactRescueOrder.f]
 by_cases hg1 : (l1.length : Int) > 1048576
 ·exact Ev.ite_pos hg1 (Ev.now true)
 refine Ev.ite_neg hg1 ?_
 have hb1 : l1.length ≤ 1048576 := by omega
 have t1 := toIntS_ev l1 hb1
 by_cases hg3 : (l3.length : Int) > 1048576
 ·exact Ev.ite_pos hg3 (Ev.now true)
 refine Ev.ite_neg hg3 ?_
 have hb3 : l3.length ≤ 1048576 := by omega
 have t3 := toIntS_ev l3 hb3
 by_cases hb0L : (l0.length : Int) ≤ 1048576
 case neg => exact Ev.bindc (szLegS_neg l0 (1048576) hm0 (by omega) (by omega) hb0L) (Ev.ite_pos (by omega) (Ev.now true))
 refine Ev.bindc (szLegS_pos l0 (1048576) (by omega) (by omega) hb0L) (Ev.ite_neg (by omega) ?_)
 have hb0 : l0.length ≤ 1048576 := by omega
 have t0 := toLegS_ev l0 hb0
 have hS := specRescue_ev (l0.map convLeg) l1 a2 l3 hc0 hm1 hb3
 have hI := implRescue_ev (l0.map convLeg) l1 a2 l3 hc0 hb3
 have hB0 := rescueAns_len (l0.map convLeg) l1 a2 l3
 generalize rescueAns (l0.map convLeg) l1 a2 l3 = a at hS hI hB0
 have he0 := eqIntS_same a.1 (by omega)
 have hh0 := heldIntS_ev a.1.length 1 (by omega) (by omega) (by omega)
 have hk0 := markIntS_ev a.1 1 (by omega) (by omega) (by omega)
 have hq0 := eqLegS_refl (l0.map convLeg) hc0
 have hq1 := eqIntS_same l1 hm1
 have hq3 := eqIntS_same l3 hm3
 have hn0 := markLegS_ev (l0.map convLeg) (1) (by first | omega | (simp only [List.length_map]; omega)) (by first | omega | (simp only [List.length_map]; omega)) (by first | omega | (simp only [List.length_map]; omega))
 have hn1 := markIntS_ev l1 (1 + 5 * ((l0.map convLeg).length : Int)) (by first | omega | (simp only [List.length_map]; omega)) (by first | omega | (simp only [List.length_map]; omega)) (by first | omega | (simp only [List.length_map]; omega))
 have hn3 := markIntS_ev l3 (1 + 5 * ((l0.map convLeg).length : Int) + (l1.length : Int)) (by first | omega | (simp only [List.length_map]; omega)) (by first | omega | (simp only [List.length_map]; omega)) (by first | omega | (simp only [List.length_map]; omega))
 repeat first
  | exact Ev.now _
  | with_reducible refine Ev.bind t1 ?_
  | with_reducible refine Ev.bind t3 ?_
  | with_reducible refine Ev.bind t0 ?_
  | with_reducible refine Ev.bind hS ?_
  | with_reducible refine Ev.bind hI ?_
  | with_reducible refine Ev.bind he0 ?_
  | with_reducible refine Ev.bind hh0 ?_
  | with_reducible refine Ev.bind hk0 ?_
  | with_reducible refine Ev.bind hq0 ?_
  | with_reducible refine Ev.bind hq1 ?_
  | with_reducible refine Ev.bind hq3 ?_
  | with_reducible refine Ev.bind hn0 ?_
  | with_reducible refine Ev.bind hn1 ?_
  | with_reducible refine Ev.bind hn3 ?_
  | with_reducible refine Ev.ite_pos rfl ?_
  | refine Ev.ite_neg (by first | omega | (simp only [List.length_map]; omega)) ?_
  | refine Ev.ite_neg (by simp) ?_
  | refine Ev.ite_pos (by omega) ?_
  | (refine Ev.step (fun k => by rw [laws_FnExactRescueOrder.j0]) ?_; try with_reducible refine Ev.ite_neg (by simp) ?_)
  | (refine Ev.step (fun k => by rw [laws_FnExactRescueOrder.j1]) ?_; try with_reducible refine Ev.ite_neg (by simp) ?_)
  | (refine Ev.step (fun k => by rw [laws_FnExactRescueOrder.j2]) ?_; try with_reducible refine Ev.ite_neg (by simp) ?_)
end Go.Proofs.Ytfgkpokjhihaaaa.Pure
