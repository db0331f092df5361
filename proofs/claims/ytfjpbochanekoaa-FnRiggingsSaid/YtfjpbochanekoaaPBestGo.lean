/- The best rigging: the program's search, as the better of what is found. -/
import Derived.Test.YtfjpbochanekoaaMJx4
import Derived.Test.YtfjpbochanekoaaMJx1
import Derived.Test.YtfjpbochanekoaaPPitches
import Derived.Test.YtfjpbochanekoaaPRopes
namespace Go.Proofs.Ytfjpbochanekoaa.Pure
open Go.RowKit Go.Proofs.Ytfjpbochanekoaa.MJ Go.Proofs.YtfjpbochanekoaaW.PrintWords Go.Proofs.YtfjpbochanekoaaW.PrintLast Go.Proofs.YtfjpbochanekoaaW.PrintMore
set_option linter.unusedVariables false
set_option linter.unusedSimpArgs false
/-- The reference's search: what is found behind a begun rigging. -/
def bestLoop (f : List Int → Int → List Int × Int) (need : Int) (l1 : List Int) (rig : List Int) (sum : Int) : Nat → Nat → List Int × Int → List Int × Int
 | 0, _, acc => acc
 | d + 1, k, acc => bestLoop f need l1 rig sum d (k + 1) (if (k : Int) ∈ rig ∨ l1.getD k 0 < need then acc else if (f (rig ++ [(k : Int)]) (sum + l1.getD k 0)).2 ≥ 0 ∧ (acc.2 < 0 ∨ (f (rig ++ [(k : Int)]) (sum + l1.getD k 0)).2 < acc.2) then f (rig ++ [(k : Int)]) (sum + l1.getD k 0) else acc)
def bestGo (l0 : List S36) (l1 : List Int) : Nat → List Int → Int → List Int × Int
 | 0, rig, sum => (rig, sum)
 | d + 1, rig, sum => bestLoop (bestGo l0 l1 d) (rigNeed (l0.getD rig.length z36)) l1 rig sum l1.length 0 ([], -1)
/-- The better of what is known and of what is found. -/
def comb (st : RigSt) (r : List Int × Int) : RigSt := if 0 ≤ r.2 ∧ (st.2.2 = false ∨ r.2 < st.2.1) then (r.1, r.2, true) else st
theorem comb_comb (st : RigSt) (acc r : List Int × Int) (ha : acc.2 = -1 ∨ 0 ≤ acc.2) : comb (comb st acc) r = comb st (if r.2 ≥ 0 ∧ (acc.2 < 0 ∨ r.2 < acc.2) then r else acc) := by
 obtain ⟨b, l, f⟩ := st
 obtain ⟨x, m⟩ := acc
 obtain ⟨y, n⟩ := r
 simp only at ha
 unfold comb
 simp only
 by_cases h1 : 0 ≤ m
 ·by_cases h2 : 0 ≤ n
  ·cases f with
   | false =>
    by_cases h3 : n < m
    ·simp [h1, h2, h3]
    ·simp [h1, h2, h3, show ¬ m < 0 by omega]
   | true =>
    by_cases h4 : m < l
    ·by_cases h3 : n < m
     ·simp [h1, h2, h3, h4, show n < l by omega]
     ·simp [h1, h2, h3, h4, show ¬ m < 0 by omega]
    ·by_cases h3 : n < m
     ·simp [h1, h2, h3, h4]
     ·simp [h1, h2, h3, h4, show ¬ m < 0 by omega, show ¬ n < l by omega]
  ·simp [h1, h2]
 ·have hm : m < 0 := by omega
  by_cases h2 : 0 ≤ n
  ·simp [h1, h2, hm]
  ·simp [h1, h2]
theorem rigLoop_comb {F : List Int → Int → RigSt → RigSt} {G : List Int → Int → List Int × Int} {need : Int} {l1 : List Int} {rig : List Int} {sum : Int} (hF : ∀ k, k < l1.length → ∀ st, F (rig ++ [(k : Int)]) (sum + l1.getD k 0) st = comb st (G (rig ++ [(k : Int)]) (sum + l1.getD k 0))) (st : RigSt) :
  ∀ d k (acc : List Int × Int), k + d = l1.length → (acc.2 = -1 ∨ 0 ≤ acc.2) → rigLoop F need l1 rig sum d k (comb st acc) = comb st (bestLoop G need l1 rig sum d k acc)
 | 0, _, _, _, _ => rfl
 | d + 1, k, acc, hk, ha => by
  simp only [rigLoop, bestLoop]
  by_cases hc : (k : Int) ∈ rig ∨ l1.getD k 0 < need
  ·rw [if_pos hc, if_pos hc]
   exact rigLoop_comb hF st d (k + 1) acc (by omega) ha
  ·rw [if_neg hc, if_neg hc, hF k (by omega), comb_comb st acc _ ha]
   refine rigLoop_comb hF st d (k + 1) _ (by omega) ?_
   split
   ·rename_i h; exact .inr h.1
   ·exact ha
theorem comb_none (st : RigSt) : comb st ([], -1) = st := by
 unfold comb
 exact if_neg (fun h => absurd h.1 (by decide))
theorem rigGo_comb {l0 : List S36} {l1 : List Int} (h1 : ∀ x ∈ l1, 0 ≤ x) : ∀ d rig (sum : Int) st, 0 ≤ sum → rigGo l0 l1 d rig sum st = comb st (bestGo l0 l1 d rig sum)
 | 0, rig, sum, st, hs => by
  show rigLeaf rig sum st = comb st (rig, sum)
  by_cases h : st.2.2 = false ∨ sum < st.2.1
  ·have e1 : rigLeaf rig sum st = (rig, sum, true) := if_pos h
   have e2 : comb st (rig, sum) = (rig, sum, true) := if_pos ⟨hs, h⟩
   rw [e1, e2]
  ·have e1 : rigLeaf rig sum st = st := if_neg h
   have e2 : comb st (rig, sum) = st := if_neg (fun hh => h hh.2)
   rw [e1, e2]
 | d + 1, rig, sum, st, hs => by
  have hF : ∀ k, k < l1.length → ∀ st, rigGo l0 l1 d (rig ++ [(k : Int)]) (sum + l1.getD k 0) st = comb st (bestGo l0 l1 d (rig ++ [(k : Int)]) (sum + l1.getD k 0)) := by
   intro k hk st
   refine rigGo_comb h1 d _ _ st ?_
   have := h1 _ (List.getElem_mem hk)
   rw [getD_lt _ _ _ hk]
   omega
  have h := rigLoop_comb (need := rigNeed (l0.getD rig.length z36)) hF st l1.length 0 ([], -1) (by omega) (.inl rfl)
  rw [comb_none] at h
  exact h
theorem okRopes_says {l : List Int} (h : okRopes l = true) : l.length ≤ 8 ∧ ∀ x ∈ l, 50 ≤ x ∧ x ≤ 4000 := by
 simp only [okRopes, Bool.and_eq_true, decide_eq_true_eq, List.all_eq_true, okRope] at h
 exact ⟨h.2, h.1⟩
theorem okPitches_len {l : List S36} (h : okPitches l = true) : l.length ≤ 6 := by
 simp only [okPitches, Bool.and_eq_true, decide_eq_true_eq] at h
 exact h.2
theorem rigOk_of {l0 : List S36} {l1 : List Int} (hp : l0.length ≤ 6) (hr : okRopes l1 = true) : rigOk l0 l1 = true := by
 have h := okRopes_says hr
 unfold rigOk
 rw [Bool.and_eq_true, Bool.and_eq_true, decide_eq_true_eq, decide_eq_true_eq, List.all_eq_true]
 exact ⟨⟨hp, h.1⟩, fun x hx => decide_eq_true (h.2 x hx)⟩
theorem implBest_eq {l0 : List S36} {l1 : List Int} (hp : l0.length ≤ 6) (hr : okRopes l1 = true) : impl_bestRigging.f l0 l1 = some (comb ([], 0, false) (bestGo l0 l1 l0.length [] 0)) := by
 unfold impl_bestRigging.f
 rw [if_pos (rigOk_of hp hr), rigGo_comb (fun x hx => by have := (okRopes_says hr).2 x hx; omega) _ _ _ _ (by omega)]
theorem asked_ev (l0 : List S36) (l1 : List Int) (hm0 : l0.length ≤ 9223372036854775807) (hm1 : l1.length ≤ 9223372036854775807) : Ev (fun k => spec_l16Asked.f k l0 l1) (okPitches l0 && okRopes l1) := by
 simp only [spec_l16Asked.f]
 refine Ev.bind (l16Good_ev l0 hm0) ?_
 cases h : okPitches l0 with
 | true => exact Ev.ite_pos rfl (Ev.bind (l16Ropes_ev l1 hm1) (by rw [Bool.true_and]; exact Ev.now _))
 | false => exact Ev.ite_neg (by decide) (Ev.now _)
end Go.Proofs.Ytfjpbochanekoaa.Pure
