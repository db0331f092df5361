/- The depths of all pitches, added up. -/
import Derived.Test.YtfjpbochanekoaaMGx7
import Derived.Test.YtfjpbochanekoaaPPitches
namespace Go.Proofs.Ytfjpbochanekoaa.Pure
open Go.RowKit Go.Proofs.Ytfjpbochanekoaa.MG Go.Proofs.YtfjpbochanekoaaW.PrintWords Go.Proofs.YtfjpbochanekoaaW.PrintLast Go.Proofs.YtfjpbochanekoaaW.PrintMore
set_option linter.unusedVariables false
set_option linter.unusedSimpArgs false
def depths (l : List S36) : Int × Bool := if okPitches l = true then foldN (fun i (s : Int) => Sum.inl (wrap64 (s + (l.getD i z36).f0))) (fun s => (s, true)) l.length 0 0 else (0, false)
theorem specTotal_ev (l : List S36) (hm : l.length ≤ 9223372036854775807) : Ev (fun k => spec_TotalDepth.f k l) (depths l) := by
  simp only [spec_TotalDepth.f]
  refine Ev.bind (l16Good_ev l hm) ?_
  unfold depths
  by_cases hp : okPitches l = true
  · refine Ev.ite_pos hp ?_
    rw [if_pos hp]
    refine loopT_ev (fun k i (s : Int) => spec_TotalDepth.l0 k l s i) l.length 0 _ _ 0 ?_ ?_
    · rintro k i s - hi
      refine .inl ⟨_, rfl, ?_⟩
      simp only [spec_TotalDepth.l0, rdP]
      rw [if_pos (by omega), if_pos (by omega), wrap_up hi hm]
    · rintro k s -
      simp only [spec_TotalDepth.l0]
      rw [if_neg (by omega)]
  · refine Ev.ite_neg hp ?_
    rw [if_neg hp]
    exact Ev.now _
theorem implTotal_ev (l : List S36) (hm : l.length ≤ 9223372036854775807) : Ev (fun k => impl_TotalDepth.f k l) (depths l) := by
  simp only [impl_TotalDepth.f]
  refine Ev.bindc (arePitches_eq l) ?_
  unfold depths
  by_cases hp : okPitches l = true
  · refine Ev.ite_pos hp ?_
    rw [if_pos hp]
    refine loopT_ev (fun k i (s : Int) => impl_TotalDepth.l0 k s l (l.length : Int) i) l.length 0 _ _ 0 ?_ ?_
    · rintro k i s - hi
      refine .inl ⟨_, rfl, ?_⟩
      simp only [impl_TotalDepth.l0, rdP]
      rw [if_pos (by omega), if_pos (by omega), if_pos (by omega), wrap_up hi hm]
    · rintro k s -
      simp only [impl_TotalDepth.l0]
      rw [if_neg (by omega)]
  · refine Ev.ite_neg hp ?_
    rw [if_neg hp]
    exact Ev.now _
def dsum : List S36 → Int
  | [] => 0
  | x :: t => x.f0 + dsum t
theorem depths_loop (l : List S36) (h : ∀ i, i < l.length → 0 ≤ (l.getD i z36).f0 ∧ (l.getD i z36).f0 ≤ 3000) : ∀ d i (s : Int), i + d = l.length → 0 ≤ s → s + 3000 * d ≤ 1000000 → foldN (ρ := Int × Bool) (fun i (s : Int) => Sum.inl (wrap64 (s + (l.getD i z36).f0))) (fun s => (s, true)) d i s = (s + dsum (l.drop i), true) := by
  intro d
  induction d with
  | zero =>
    intro i s hi _ _
    rw [List.drop_eq_nil_of_le (by omega)]
    simp [foldN, dsum]
  | succ d ih =>
    intro i s hi h0 h1
    have hil : i < l.length := by omega
    have hx := h i hil
    simp only [foldN]
    rw [wrap_id (x := s + _) (by omega) (by omega), ih (i + 1) _ (by omega) (by omega) (by omega), List.drop_eq_getElem_cons hil, dsum, getD_lt _ _ _ hil]
    congr 1
    omega
theorem depths_sum {l : List S36} (h : okPitches l = true) : depths l = (dsum l, true) := by
  have hl : l.length ≤ 6 := by
    simp only [okPitches, Bool.and_eq_true, decide_eq_true_eq] at h
    exact h.2
  unfold depths
  rw [if_pos h, depths_loop l (fun i hi => ?_) l.length 0 0 (by omega) (by omega) (by omega)]
  · simp
  · have := okPitches_at h hi
    simp only [okPitch, Bool.and_eq_true, decide_eq_true_eq] at this
    omega
theorem dsum_range {l : List S36} (h : okPitches l = true) : 0 ≤ dsum l ∧ dsum l ≤ 3000 * l.length := by
  simp only [okPitches, Bool.and_eq_true, List.all_eq_true, okPitch, decide_eq_true_eq] at h
  have h1 := h.1
  clear h
  induction l with
  | nil => exact ⟨Int.le_refl _, by simp [dsum]⟩
  | cons x t ih =>
    have h2 := ih (fun y hy => h1 y (List.mem_cons_of_mem _ hy))
    have h3 := h1 x List.mem_cons_self
    simp only [dsum, List.length_cons]
    omega
theorem okPitches_sub {l m : List S36} (h : okPitches l = true) (hs : ∀ x ∈ m, x ∈ l) (hl : m.length ≤ l.length) : okPitches m = true := by
  simp only [okPitches, Bool.and_eq_true, List.all_eq_true, decide_eq_true_eq] at h ⊢
  exact ⟨fun x hx => h.1 x (hs x hx), by omega⟩
end Go.Proofs.Ytfjpbochanekoaa.Pure
