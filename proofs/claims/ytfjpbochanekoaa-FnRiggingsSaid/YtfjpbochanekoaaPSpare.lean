/- What the best rigging spares: both answers. -/
import Derived.Test.YtfjpbochanekoaaMJx13
import Derived.Test.YtfjpbochanekoaaPBestRig
namespace Go.Proofs.Ytfjpbochanekoaa.Pure
open Go.RowKit Go.Proofs.Ytfjpbochanekoaa.MJ Go.Proofs.YtfjpbochanekoaaW.PrintWords Go.Proofs.YtfjpbochanekoaaW.PrintLast Go.Proofs.YtfjpbochanekoaaW.PrintMore
set_option linter.unusedVariables false
set_option linter.unusedSimpArgs false
def sumFrom (l : List Int) : Nat → Nat → Int → Int
 | 0, _, s => s
 | d + 1, i, s => sumFrom l d (i + 1) (s + l.getD i 0)
theorem sumFrom_shift (l : List Int) : ∀ d i (s t : Int), sumFrom l d i (s + t) = sumFrom l d i s + t
 | 0, _, _, _ => rfl
 | d + 1, i, s, t => by
  simp only [sumFrom]
  rw [show s + t + l.getD i 0 = s + l.getD i 0 + t by omega, sumFrom_shift l d (i + 1)]
theorem sumFrom_le {l : List Int} (hv : ∀ x ∈ l, 0 ≤ x ∧ x ≤ 4000) : ∀ d i (s : Int), i + d = l.length → s ≤ sumFrom l d i s ∧ sumFrom l d i s ≤ s + 4000 * d
 | 0, _, _, _ => ⟨Int.le_refl _, by simp [sumFrom]⟩
 | d + 1, i, s, hi => by
  have hil : i < l.length := by omega
  have h := hv _ (List.getElem_mem hil)
  have := sumFrom_le hv d (i + 1) (s + l.getD i 0) (by omega)
  simp only [sumFrom]
  rw [getD_lt _ _ _ hil] at this ⊢
  omega
theorem implSpare_loop {l : List Int} (h8 : l.length ≤ 8) (hv : ∀ x ∈ l, 0 ≤ x ∧ x ≤ 4000) : ∀ d i (s : Int), i + d = l.length → -100000 ≤ s → s ≤ 4000 * i → Ev (fun k => impl_SpareRope.l0 k s l (l.length : Int) (i : Int)) (sumFrom l d i s, true) := by
 intro d
 induction d with
 | zero =>
  intro i s hi _ _
  refine Ev.step (f := fun _ => some (s, true)) (fun k => ?_) (Ev.now _)
  simp only [impl_SpareRope.l0]
  rw [if_neg (by omega)]
 | succ d ih =>
  intro i s hi h0 h1
  have hil : i < l.length := by omega
  have h := hv _ (List.getElem_mem hil)
  have hwr : wrap64 ((i : Int) + 1) = ((i + 1 : Nat) : Int) := by unfold wrap64; omega
  have hs : wrap64 (s + l.getD i 0) = s + l.getD i 0 := by rw [getD_lt _ _ _ hil]; unfold wrap64; omega
  simp only [sumFrom]
  refine Ev.step (fun k => ?_) (ih (i + 1) (s + l.getD i 0) (by omega) (by rw [getD_lt _ _ _ hil]; omega) (by rw [getD_lt _ _ _ hil]; omega))
  simp only [impl_SpareRope.l0, rd_nat, hwr, hs]
  rw [if_pos (by omega), if_pos (by omega), if_pos (by omega)]
theorem specSpare_loop {l : List Int} (h8 : l.length ≤ 8) (hv : ∀ x ∈ l, 0 ≤ x ∧ x ≤ 4000) (u : Int) (hu : 0 ≤ u ∧ u ≤ 100000) : ∀ d i (s : Int), i + d = l.length → 0 ≤ s → s ≤ 4000 * i → Ev (fun k => spec_SpareRope.l0 k l u s (i : Int)) (sumFrom l d i s - u, true) := by
 intro d
 induction d with
 | zero =>
  intro i s hi _ _
  refine Ev.step (f := fun _ => some (s - u, true)) (fun k => ?_) (Ev.now _)
  simp only [spec_SpareRope.l0]
  rw [if_neg (by omega), show wrap64 (s - u) = s - u by unfold wrap64; omega]
 | succ d ih =>
  intro i s hi h0 h1
  have hil : i < l.length := by omega
  have h := hv _ (List.getElem_mem hil)
  have hwr : wrap64 ((i : Int) + 1) = ((i + 1 : Nat) : Int) := by unfold wrap64; omega
  have hs : wrap64 (s + l.getD i 0) = s + l.getD i 0 := by rw [getD_lt _ _ _ hil]; unfold wrap64; omega
  simp only [sumFrom]
  refine Ev.step (fun k => ?_) (ih (i + 1) (s + l.getD i 0) (by omega) (by rw [getD_lt _ _ _ hil]; omega) (by rw [getD_lt _ _ _ hil]; omega))
  simp only [spec_SpareRope.l0, rd_nat, hwr, hs]
  rw [if_pos (by omega), if_pos (by omega)]
/-- The sum that is found is none, or a sum of as many ropes as there are pitches. -/
theorem bestGo_sum {l0 : List S36} {l1 : List Int} (hv : ∀ x ∈ l1, 0 ≤ x ∧ x ≤ 4000) : ∀ d rig (sum : Int), 0 ≤ sum → (bestGo l0 l1 d rig sum).2 = -1 ∨ (0 ≤ (bestGo l0 l1 d rig sum).2 ∧ (bestGo l0 l1 d rig sum).2 ≤ sum + 4000 * d)
 | 0, rig, sum, h => .inr ⟨h, by simp [bestGo]⟩
 | d + 1, rig, sum, h => by
  have key : ∀ e k (acc : List Int × Int), k + e = l1.length → (acc.2 = -1 ∨ (0 ≤ acc.2 ∧ acc.2 ≤ sum + 4000 * ((d + 1 : Nat) : Int))) →
    (bestLoop (bestGo l0 l1 d) (rigNeed (l0.getD rig.length z36)) l1 rig sum e k acc).2 = -1 ∨ (0 ≤ (bestLoop (bestGo l0 l1 d) (rigNeed (l0.getD rig.length z36)) l1 rig sum e k acc).2 ∧ (bestLoop (bestGo l0 l1 d) (rigNeed (l0.getD rig.length z36)) l1 rig sum e k acc).2 ≤ sum + 4000 * ((d + 1 : Nat) : Int)) := by
   intro e
   induction e with
   | zero => intro k acc _ ha; exact ha
   | succ e ihe =>
    intro k acc hk ha
    have hkl : k < l1.length := by omega
    have hx := hv _ (List.getElem_mem hkl)
    have hr := bestGo_sum (l0 := l0) hv d (rig ++ [(k : Int)]) (sum + l1.getD k 0) (by rw [getD_lt _ _ _ hkl]; omega)
    rw [getD_lt _ _ _ hkl] at hr
    simp only [bestLoop]
    refine ihe (k + 1) _ (by omega) ?_
    rw [getD_lt _ _ _ hkl]
    split
    ·exact ha
    ·split
     ·rename_i h2
      exact .inr ⟨h2.1, by have := h2.1; omega⟩
     ·exact ha
  exact key l1.length 0 ([], -1) (by omega) (.inl rfl)
def spareAns (l0 : List S36) (l1 : List Int) : Int × Bool := if (bestAns l0 l1).2.2 = true then (sumFrom l1 l1.length 0 0 - (bestAns l0 l1).2.1, true) else (0, false)
theorem bestAns_says {l0 : List S36} {l1 : List Int} (h : (bestAns l0 l1).2.2 = true) : (l1.length ≤ 8 ∧ ∀ x ∈ l1, 0 ≤ x ∧ x ≤ 4000) ∧ 0 ≤ (bestAns l0 l1).2.1 ∧ (bestAns l0 l1).2.1 ≤ 24000 := by
 by_cases h1 : (okPitches l0 && okRopes l1) = true
 ·have hh : okPitches l0 = true ∧ okRopes l1 = true := by simpa using h1
  have hr := okRopes_says hh.2
  have h6 := okPitches_len hh.1
  have hv : ∀ x ∈ l1, 0 ≤ x ∧ x ≤ 4000 := fun x hx => by have := hr.2 x hx; omega
  refine ⟨⟨hr.1, hv⟩, ?_⟩
  by_cases h2 : 0 ≤ (bestGo l0 l1 l0.length [] 0).2
  ·have e : bestAns l0 l1 = ((bestGo l0 l1 l0.length [] 0).1, (bestGo l0 l1 l0.length [] 0).2, true) := by rw [bestAns, if_pos h1, if_pos h2]
   have := bestGo_sum (l0 := l0) hv l0.length [] 0 (by omega)
   rw [e]
   simp only
   omega
  ·have e : bestAns l0 l1 = ([], 0, false) := by rw [bestAns, if_pos h1, if_neg h2]
   rw [e] at h
   cases h
 ·have e : bestAns l0 l1 = ([], 0, false) := by rw [bestAns, if_neg h1]
  rw [e] at h
  cases h
theorem specSpare_ev (l0 : List S36) (l1 : List Int) (hm0 : l0.length ≤ 9223372036854775807) (hm1 : l1.length ≤ 9223372036854775807) : Ev (fun k => spec_SpareRope.f k l0 l1) (spareAns l0 l1) := by
 simp only [spec_SpareRope.f]
 refine Ev.bind (specBestRig_ev l0 l1 hm0 hm1) ?_
 by_cases h : (bestAns l0 l1).2.2 = true
 ·have hs := bestAns_says h
  rw [spareAns, if_pos h]
  exact Ev.ite_pos h (specSpare_loop hs.1.1 hs.1.2 _ ⟨hs.2.1, by omega⟩ l1.length 0 0 (by omega) (by omega) (by omega))
 ·rw [spareAns, if_neg h]
  exact Ev.ite_neg h (Ev.now _)
theorem implSpare_ev (l0 : List S36) (l1 : List Int) : Ev (fun k => impl_SpareRope.f k l0 l1) (spareAns l0 l1) := by
 simp only [impl_SpareRope.f]
 refine Ev.bind (implBestRig_ev l0 l1) ?_
 by_cases h : (bestAns l0 l1).2.2 = true
 ·have hs := bestAns_says h
  rw [spareAns, if_pos h]
  refine Ev.ite_pos h ?_
  have hw : wrap64 (-(bestAns l0 l1).2.1) = 0 + -(bestAns l0 l1).2.1 := by unfold wrap64; omega
  have hl := implSpare_loop hs.1.1 hs.1.2 l1.length 0 (0 + -(bestAns l0 l1).2.1) (by omega) (by omega) (by omega)
  rw [sumFrom_shift, show sumFrom l1 l1.length 0 0 + -(bestAns l0 l1).2.1 = sumFrom l1 l1.length 0 0 - (bestAns l0 l1).2.1 by omega] at hl
  rw [hw]
  exact hl
 ·rw [spareAns, if_neg h]
  exact Ev.ite_neg h (Ev.now _)
theorem bestAns_len (l0 : List S36) (l1 : List Int) : (bestAns l0 l1).1.length ≤ 100 := by
 have key : ∀ d rig (sum : Int), (bestGo l0 l1 d rig sum).1.length ≤ rig.length + d := by
  intro d
  induction d with
  | zero => intro rig sum; simp [bestGo]
  | succ d ih =>
   intro rig sum
   have k2 : ∀ e k (acc : List Int × Int), acc.1.length ≤ rig.length + (d + 1) → (bestLoop (bestGo l0 l1 d) (rigNeed (l0.getD rig.length z36)) l1 rig sum e k acc).1.length ≤ rig.length + (d + 1) := by
    intro e
    induction e with
    | zero => intro k acc h; exact h
    | succ e ihe =>
     intro k acc h
     have hr := ih (rig ++ [(k : Int)]) (sum + l1.getD k 0)
     rw [List.length_append, List.length_singleton] at hr
     simp only [bestLoop]
     refine ihe (k + 1) _ ?_
     split
     ·exact h
     ·split
      ·omega
      ·exact h
   exact k2 l1.length 0 ([], -1) (by simp)
 unfold bestAns
 split
 ·rename_i h
  have hh : okPitches l0 = true ∧ okRopes l1 = true := by simpa using h
  have h6 := okPitches_len hh.1
  have := key l0.length [] 0
  split
  ·simp only [List.length_nil] at this ⊢
   omega
  ·simp
 ·simp
end Go.Proofs.Ytfjpbochanekoaa.Pure
