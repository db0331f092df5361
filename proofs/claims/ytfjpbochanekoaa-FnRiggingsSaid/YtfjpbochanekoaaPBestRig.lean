/- The best rigging: the program's search and the reference's come to the same. -/
import Derived.Test.YtfjpbochanekoaaMJx7
import Derived.Test.YtfjpbochanekoaaMJx8
import Derived.Test.YtfjpbochanekoaaMJx13
import Derived.Test.YtfjpbochanekoaaPBestGo
import Derived.Test.YtfjpbochanekoaaPL1Has
namespace Go.Proofs.Ytfjpbochanekoaa.Pure
open Go.RowKit Go.Proofs.Ytfjpbochanekoaa.MJ Go.Proofs.YtfjpbochanekoaaW.PrintWords Go.Proofs.YtfjpbochanekoaaW.PrintLast Go.Proofs.YtfjpbochanekoaaW.PrintMore
set_option linter.unusedVariables false
set_option linter.unusedSimpArgs false
/-- The reference's walk. -/
theorem specBest_ev {l0 : List S36} {l1 : List Int} (hp : l0.length ≤ 6) (hr : l1.length ≤ 8) (hv : ∀ x ∈ l1, 0 ≤ x ∧ x ≤ 4000) : ∀ d rig (sum : Int), rig.length + d = l0.length → 0 ≤ sum → sum ≤ 4000 * rig.length →
  Ev (fun k => spec_l16Best.f k l0 l1 rig sum) (bestGo l0 l1 d rig sum) := by
 intro d
 induction d with
 | zero =>
  intro rig sum hd _ _
  refine Ev.step (f := fun _ => some (rig, sum)) (fun k => ?_) (Ev.now _)
  rw [spec_l16Best.f]
  exact if_pos (by omega)
 | succ d ih =>
  intro rig sum hd h0 h1
  have key : ∀ e k (acc : List Int × Int), k + e = l1.length → Ev (fun n => spec_l16Best.l0 n l0 l1 rig sum (rig.length : Int) acc.1 acc.2 (k : Int)) (bestLoop (bestGo l0 l1 d) (rigNeed (l0.getD rig.length z36)) l1 rig sum e k acc) := by
   intro e
   induction e with
   | zero =>
    intro k acc hk
    refine Ev.step (f := fun _ => some acc) (fun n => ?_) (Ev.now _)
    rw [spec_l16Best.l0]
    exact if_neg (by omega)
   | succ e ihe =>
    intro k acc hk
    have hkl : k < l1.length := by omega
    have hwr : wrap64 ((k : Int) + 1) = ((k + 1 : Nat) : Int) := by unfold wrap64; omega
    have hx := hv _ (List.getElem_mem hkl)
    have hgd := getD_lt l1 0 k hkl
    have hrd : rd_T36 l0 (rig.length : Int) = l0.getD rig.length z36 := rdP l0 rig.length
    simp only [bestLoop]
    refine Ev.step (f := fun n => (spec_l1Has.f n rig (k : Int)).bind fun t144 => (if t144 = true then (spec_l16Best.j1 n l0 l1 rig sum (rig.length : Int) acc.1 acc.2 (k : Int) true) else (spec_l16Best.j1 n l0 l1 rig sum (rig.length : Int) acc.1 acc.2 (k : Int) (decide (l1.getD k 0 < rigNeed (l0.getD rig.length z36)))))) (fun n => ?_) (Ev.bind (l1Has_ev (by omega)) ?_)
    ·rw [spec_l16Best.l0, if_pos (by omega)]
     congr 1
     funext t
     by_cases ht : t = true
     ·rw [if_pos ht, if_pos ht]
     ·rw [if_neg ht, if_neg ht, if_pos (by omega), if_pos (by omega), if_pos (by omega), hrd, rd_nat]
      rfl
    ·have hskip : ∀ r, Ev (fun n => spec_l16Best.l0 n l0 l1 rig sum (rig.length : Int) acc.1 acc.2 ((k + 1 : Nat) : Int)) r → Ev (fun n => spec_l16Best.j1 n l0 l1 rig sum (rig.length : Int) acc.1 acc.2 (k : Int) true) r := fun r h =>
      Ev.step (fun n => by rw [spec_l16Best.j1, if_pos rfl, hwr]) h
     by_cases hin : (k : Int) ∈ rig
     ·rw [if_pos (.inl hin)]
      refine Ev.ite_pos (decide_eq_true hin) (hskip _ (ihe (k + 1) acc (by omega)))
     ·refine Ev.ite_neg (by simpa using hin) ?_
      by_cases hlow : l1.getD k 0 < rigNeed (l0.getD rig.length z36)
      ·rw [if_pos (.inr hlow), decide_eq_true hlow]
       exact hskip _ (ihe (k + 1) acc (by omega))
      ·rw [if_neg (fun h => h.elim hin hlow), decide_eq_false hlow]
       have hsum : wrap64 (sum + l1.getD k 0) = sum + l1.getD k 0 := by rw [hgd]; unfold wrap64; omega
       have hcall := ih (rig ++ [(k : Int)]) (sum + l1.getD k 0) (by rw [List.length_append, List.length_singleton]; omega) (by rw [hgd]; omega) (by rw [hgd, List.length_append, List.length_singleton]; omega)
       refine Ev.step (f := fun n => (spec_l16Best.f n l0 l1 (rig ++ [(k : Int)]) (sum + l1.getD k 0)).bind fun bt158 => (if bt158.2 ≥ 0 then (if acc.2 < 0 then (spec_l16Best.l0 n l0 l1 rig sum (rig.length : Int) bt158.1 bt158.2 ((k + 1 : Nat) : Int)) else (if bt158.2 < acc.2 then (spec_l16Best.l0 n l0 l1 rig sum (rig.length : Int) bt158.1 bt158.2 ((k + 1 : Nat) : Int)) else (spec_l16Best.l0 n l0 l1 rig sum (rig.length : Int) acc.1 acc.2 ((k + 1 : Nat) : Int)))) else (spec_l16Best.l0 n l0 l1 rig sum (rig.length : Int) acc.1 acc.2 ((k + 1 : Nat) : Int)))) (fun n => ?_) (Ev.bind hcall ?_)
       ·rw [spec_l16Best.j1, if_neg (by decide)]
        simp only [spec_l1Own.f, Option.bind_some, List.nil_append, List.length_nil, Nat.zero_add, rd_nat, hsum, hwr, List.length_cons]
        rw [if_pos (by omega)]
        simp only [Option.bind_some]
        rw [if_pos (by omega), if_pos (by omega), if_pos (by omega)]
       ·by_cases g1 : (bestGo l0 l1 d (rig ++ [(k : Int)]) (sum + l1.getD k 0)).2 ≥ 0
        ·refine Ev.ite_pos g1 ?_
         by_cases g2 : acc.2 < 0
         ·rw [if_pos ⟨g1, .inl g2⟩]
          exact Ev.ite_pos g2 (ihe (k + 1) _ (by omega))
         ·refine Ev.ite_neg g2 ?_
          by_cases g3 : (bestGo l0 l1 d (rig ++ [(k : Int)]) (sum + l1.getD k 0)).2 < acc.2
          ·rw [if_pos ⟨g1, .inr g3⟩]
           exact Ev.ite_pos g3 (ihe (k + 1) _ (by omega))
          ·rw [if_neg (fun h => h.2.elim g2 g3)]
           exact Ev.ite_neg g3 (ihe (k + 1) acc (by omega))
        ·rw [if_neg (fun h => g1 h.1)]
         exact Ev.ite_neg g1 (ihe (k + 1) acc (by omega))
  refine Ev.step (f := fun n => spec_l16Best.l0 n l0 l1 rig sum (rig.length : Int) [] (-1) 0) (fun n => ?_) (key l1.length 0 ([], -1) (by omega))
  rw [spec_l16Best.f]
  exact if_neg (by omega)
def bestAns (l0 : List S36) (l1 : List Int) : List Int × Int × Bool := if (okPitches l0 && okRopes l1) = true then (if 0 ≤ (bestGo l0 l1 l0.length [] 0).2 then ((bestGo l0 l1 l0.length [] 0).1, (bestGo l0 l1 l0.length [] 0).2, true) else ([], 0, false)) else ([], 0, false)
theorem specBestRig_ev (l0 : List S36) (l1 : List Int) (hm0 : l0.length ≤ 9223372036854775807) (hm1 : l1.length ≤ 9223372036854775807) : Ev (fun k => spec_BestRigging.f k l0 l1) (bestAns l0 l1) := by
 simp only [spec_BestRigging.f]
 refine Ev.bind (asked_ev l0 l1 hm0 hm1) ?_
 by_cases h : (okPitches l0 && okRopes l1) = true
 ·have hh : okPitches l0 = true ∧ okRopes l1 = true := by simpa using h
  have hr := okRopes_says hh.2
  refine Ev.ite_pos h (Ev.bind (specBest_ev (okPitches_len hh.1) hr.1 (fun x hx => by have := hr.2 x hx; omega) l0.length [] 0 (by simp) (by omega) (by simp)) ?_)
  rw [bestAns, if_pos h]
  by_cases h2 : 0 ≤ (bestGo l0 l1 l0.length [] 0).2
  ·rw [if_pos h2]
   exact Ev.ite_neg (by omega) (Ev.now _)
  ·rw [if_neg h2]
   exact Ev.ite_pos (by omega) (Ev.now _)
 ·rw [bestAns, if_neg h]
  exact Ev.ite_neg h (Ev.now _)
theorem implBestRig_ev (l0 : List S36) (l1 : List Int) : Ev (fun k => impl_BestRigging.f k l0 l1) (bestAns l0 l1) := by
 have hno : Ev (fun k => impl_BestRigging.j0 k l0 l1 true) ([], 0, false) := Ev.step (f := fun _ => some ([], 0, false)) (fun k => by rw [impl_BestRigging.j0, if_pos rfl]) (Ev.now _)
 simp only [impl_BestRigging.f, arePitches_eq, areRopes_eq, Option.bind_some]
 unfold bestAns
 cases hp : okPitches l0 with
 | false => exact Ev.ite_neg (by decide) hno
 | true =>
  refine Ev.ite_pos rfl ?_
  cases hr : okRopes l1 with
  | false => exact hno
  | true =>
   rw [Bool.true_and, if_pos rfl]
   refine Ev.step (f := fun _ => (impl_bestRigging.f l0 l1).bind fun bt190 => (if bt190.2.2 = true then (some (bt190.1, bt190.2.1, true)) else (some (([] : List Int), 0, false)))) (fun k => by rw [impl_BestRigging.j0, if_neg (by decide)]) ?_
   rw [implBest_eq (okPitches_len hp) hr]
   by_cases h2 : 0 ≤ (bestGo l0 l1 l0.length [] 0).2
   ·have e : comb ([], 0, false) (bestGo l0 l1 l0.length [] 0) = ((bestGo l0 l1 l0.length [] 0).1, (bestGo l0 l1 l0.length [] 0).2, true) := if_pos ⟨h2, .inl rfl⟩
    rw [e, if_pos h2]
    exact Ev.now _
   ·have e : comb ([], 0, false) (bestGo l0 l1 l0.length [] 0) = ([], 0, false) := if_neg (fun hh => h2 hh.1)
    rw [e, if_neg h2]
    exact Ev.now _
end Go.Proofs.Ytfjpbochanekoaa.Pure
