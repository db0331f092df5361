/- The law FnExactNarrowPlaces's pure statement: the program's answer is the reference's. -/
import Derived.Test.YtfgkpokjhihaaaaMNx8
import Derived.Test.YtfgkpokjhihaaaaPInts
import Derived.Test.YtfgkpokjhihaaaaPEqInts
import Derived.Test.YtfgkpokjhihaaaaPMInts
import Derived.Test.YtfgkpokjhihaaaaPWLeg
import Derived.Test.YtfgkpokjhihaaaaPMLeg
import Derived.Test.YtfgkpokjhihaaaaPNarrow
import Derived.Test.YtfgkpokjhihaaaaDecN
namespace Go.Proofs.Ytfgkpokjhihaaaa.Pure
open Go.RowKit Go.Proofs.Ytfgkpokjhihaaaa.MN Go.Proofs.YtfgkpokjhihaaaaW.PrintWords Go.Proofs.YtfgkpokjhihaaaaW.PrintLast Go.Proofs.YtfgkpokjhihaaaaW.PrintMore
set_option linter.unusedVariables false
set_option linter.unusedSimpArgs false
set_option linter.unusedVariables false
theorem FnExactNarrowPlaces (l0 : List (S79)) (hm0 : l0.length ≤ 9223372036854775807) (hw0 : ∀ x ∈ l0, OK79 x) (l1 : List Int) (hm1 : l1.length ≤ 9223372036854775807) (hw1 : ∀ x ∈ l1, (Lit.int .i64 x).wf = true) (a2 : Int) (w2 : (Lit.int .i64 a2).wf = true) (a3 : Int) (w3 : (Lit.int .i64 a3).wf = true) : ∃ k, laws_FnExactNarrowPlaces.f k l0 l1 a2 a3 = some true := by
  apply Ev.rounds
  have hc0 : (l0.map convLeg).length ≤ 9223372036854775807 := by rw [List.length_map]; exact hm0
  simp only [laws_FnExactNarrowPlaces.f]
  by_cases hg1 : (l1.length : Int) > 1048576
  · exact Ev.ite_pos hg1 (Ev.now true)
  refine Ev.ite_neg hg1 ?_
  have hb1 : l1.length ≤ 1048576 := by omega
  have t1 := toIntS_ev l1 hb1
  by_cases hb0L : (l0.length : Int) ≤ 1048576
  case neg => exact Ev.bindc (szLegS_neg l0 (1048576) hm0 (by omega) (by omega) hb0L) (Ev.ite_pos (by omega) (Ev.now true))
  refine Ev.bindc (szLegS_pos l0 (1048576) (by omega) (by omega) hb0L) (Ev.ite_neg (by omega) ?_)
  have hb0 : l0.length ≤ 1048576 := by omega
  have t0 := toLegS_ev l0 hb0
  have hS := specNarrow_ev (l0.map convLeg) l1 a2 a3 hc0 hm1
  have hI := implNarrow_ev (l0.map convLeg) l1 a2 a3 hc0
  have hB0 := narrowAns_len (l0.map convLeg) l1 a2 a3
  generalize narrowAns (l0.map convLeg) l1 a2 a3 = a at hS hI hB0
  have he0 := eqIntS_same a.1 (by omega)
  have hh0 := heldIntS_ev a.1.length 1 (by omega) (by omega) (by omega)
  have hk0 := markIntS_ev a.1 1 (by omega) (by omega) (by omega)
  have hq0 := eqLegS_refl (l0.map convLeg) hc0
  have hq1 := eqIntS_same l1 hm1
  have hn0 := markLegS_ev (l0.map convLeg) (1) (by first | omega | (simp only [List.length_map]; omega)) (by first | omega | (simp only [List.length_map]; omega)) (by first | omega | (simp only [List.length_map]; omega))
  have hn1 := markIntS_ev l1 (1 + 5 * ((l0.map convLeg).length : Int)) (by first | omega | (simp only [List.length_map]; omega)) (by first | omega | (simp only [List.length_map]; omega)) (by first | omega | (simp only [List.length_map]; omega))
  repeat first
    | exact Ev.now _
    | with_reducible refine Ev.bind t1 ?_
    | with_reducible refine Ev.bind t0 ?_
    | with_reducible refine Ev.bind hS ?_
    | with_reducible refine Ev.bind hI ?_
    | with_reducible refine Ev.bind he0 ?_
    | with_reducible refine Ev.bind hh0 ?_
    | with_reducible refine Ev.bind hk0 ?_
    | with_reducible refine Ev.bind hq0 ?_
    | with_reducible refine Ev.bind hq1 ?_
    | with_reducible refine Ev.bind hn0 ?_
    | with_reducible refine Ev.bind hn1 ?_
    | with_reducible refine Ev.ite_pos rfl ?_
    | refine Ev.ite_neg (by first | omega | (simp only [List.length_map]; omega)) ?_
    | refine Ev.ite_neg (by simp) ?_
    | refine Ev.ite_pos (by omega) ?_
    | (refine Ev.step (fun k => by rw [laws_FnExactNarrowPlaces.j0]) ?_; try with_reducible refine Ev.ite_neg (by simp) ?_)
    | (refine Ev.step (fun k => by rw [laws_FnExactNarrowPlaces.j1]) ?_; try with_reducible refine Ev.ite_neg (by simp) ?_)
    | (refine Ev.step (fun k => by rw [laws_FnExactNarrowPlaces.j2]) ?_; try with_reducible refine Ev.ite_neg (by simp) ?_)
end Go.Proofs.Ytfgkpokjhihaaaa.Pure
