/- The most anchors: what both loops find, and that it is the most. -/
import Derived.Test.YtfjpbochanekoaaMGx5
import Derived.Test.YtfjpbochanekoaaMGx3
import Derived.Test.YtfjpbochanekoaaPPitch
namespace Go.Proofs.Ytfjpbochanekoaa.Pure
open Go.RowKit Go.Proofs.Ytfjpbochanekoaa.MG Go.Proofs.YtfjpbochanekoaaW.PrintWords Go.Proofs.YtfjpbochanekoaaW.PrintLast Go.Proofs.YtfjpbochanekoaaW.PrintMore
set_option linter.unusedVariables false
set_option linter.unusedSimpArgs false
def needAns (d a : Int) : Int × Bool := if okPitch d a = true then (needOf d a, true) else (0, false)
theorem implNeed_eq (d a : Int) : impl_NeedFor.f d a = some (needAns d a) := by
  simp only [impl_NeedFor.f, isPitch_eq, Option.bind_some, needAns]
  cases h : okPitch d a with
  | true => rw [if_pos rfl, if_pos rfl, need_eq h]; rfl
  | false => rfl
theorem specNeed_eq (d a : Int) : spec_NeedFor.f d a = some (needAns d a) := by
  simp only [spec_NeedFor.f, l16One_eq, Option.bind_some, needAns]
  cases h : okPitch d a with
  | true => rw [if_pos rfl, if_pos rfl, l16Need_eq h]; rfl
  | false => rfl
def Most (d r : Int) (v : Int × Bool) : Prop := v.2 = true → okPitch d v.1 = true ∧ needOf d v.1 ≤ r ∧ (okPitch d (v.1 + 1) = true → r < needOf d (v.1 + 1))
theorem anch_loops {d r : Int} (hd : 20 ≤ d ∧ d ≤ 3000) : ∀ (n : Nat), n ≤ 9 → (n = 9 ∨ r < needOf d ((n : Int) + 1)) → ∃ v, Ev (fun k => spec_AnchorsFor.l0 k d r (n : Int)) v ∧ Ev (fun k => impl_AnchorsFor.l0 k d r (n : Int)) v ∧ Most d r v := by
  intro n
  induction n with
  | zero =>
    intro _ _
    exact ⟨(0, false), Ev.step (f := fun _ => some (0, false)) (fun k => by simp [spec_AnchorsFor.l0]) (Ev.now _), Ev.step (f := fun _ => some (0, false)) (fun k => by simp [impl_AnchorsFor.l0]) (Ev.now _), fun h => by cases h⟩
  | succ n ih =>
    intro hn hq
    have hp : okPitch d ((n + 1 : Nat) : Int) = true := by
      simp only [okPitch, Bool.and_eq_true, decide_eq_true_eq]
      omega
    have hw : wrap64 (((n + 1 : Nat) : Int) - 1) = (n : Int) := by
      unfold wrap64
      omega
    have h9 : ((n + 1 : Nat) : Int) ≥ 1 := by omega
    have es : ∀ k, spec_AnchorsFor.l0 (k + 1) d r ((n + 1 : Nat) : Int) = if needOf d ((n + 1 : Nat) : Int) ≤ r then some (((n + 1 : Nat) : Int), true) else spec_AnchorsFor.l0 k d r (n : Int) := fun k => by
      rw [spec_AnchorsFor.l0]
      simp only [l16One_eq, hp, Option.bind_some, l16Need_eq hp, hw, if_true, if_pos h9]
    have ei : ∀ k, impl_AnchorsFor.l0 (k + 1) d r ((n + 1 : Nat) : Int) = if needOf d ((n + 1 : Nat) : Int) ≤ r then some (((n + 1 : Nat) : Int), true) else impl_AnchorsFor.l0 k d r (n : Int) := fun k => by
      rw [impl_AnchorsFor.l0]
      simp only [need_eq hp, Option.bind_some, hw, if_pos h9]
    by_cases hle : needOf d ((n + 1 : Nat) : Int) ≤ r
    · refine ⟨_, Ev.step es (Ev.ite_pos hle (Ev.now _)), Ev.step ei (Ev.ite_pos hle (Ev.now _)), fun _ => ⟨hp, hle, fun h10 => ?_⟩⟩
      simp only [okPitch, Bool.and_eq_true, decide_eq_true_eq] at h10
      rcases hq with h | h
      · omega
      · exact h
    · obtain ⟨v, h1, h2, h3⟩ := ih (by omega) (.inr (by rw [show (n : Int) + 1 = ((n + 1 : Nat) : Int) by omega]; omega))
      exact ⟨v, Ev.step es (Ev.ite_neg hle h1), Ev.step ei (Ev.ite_neg hle h2), h3⟩
theorem anch_none {d r : Int} (hd : ¬ (20 ≤ d ∧ d ≤ 3000)) : ∀ (n : Nat), n ≤ 9 → Ev (fun k => spec_AnchorsFor.l0 k d r (n : Int)) (0, false) := by
  intro n
  induction n with
  | zero =>
    intro _
    exact Ev.step (f := fun _ => some (0, false)) (fun k => by simp [spec_AnchorsFor.l0]) (Ev.now _)
  | succ n ih =>
    intro hn
    have hp : okPitch d ((n + 1 : Nat) : Int) = false := by
      simp only [okPitch, hd, decide_false, Bool.false_and]
    have hw : wrap64 (((n + 1 : Nat) : Int) - 1) = (n : Int) := by
      unfold wrap64
      omega
    refine Ev.step (fun k => ?_) (ih (by omega))
    rw [spec_AnchorsFor.l0]
    simp only [l16One_eq, hp, Option.bind_some, hw]
    rw [if_pos (by omega)]
    simp
theorem anch_both (d r : Int) : ∃ v, Ev (fun k => spec_AnchorsFor.f k d r) v ∧ Ev (fun k => impl_AnchorsFor.f k d r) v ∧ Most d r v := by
  have no_i : Ev (fun k => impl_AnchorsFor.j0 k d r true) (0, false) := Ev.step (f := fun _ => some (0, false)) (fun k => by simp [impl_AnchorsFor.j0]) (Ev.now _)
  have hno : Most d r (0, false) := fun h => by cases h
  simp only [spec_AnchorsFor.f, impl_AnchorsFor.f, l16Rope_eq, isRope_eq, impl_isDepth.f, within_eq, Option.bind_some]
  by_cases hd : 20 ≤ d ∧ d ≤ 3000
  · rw [decide_eq_true hd]
    cases hr : okRope r with
    | false => exact ⟨_, Ev.ite_neg (by decide) (Ev.now _), Ev.ite_pos rfl no_i, hno⟩
    | true =>
      obtain ⟨v, h1, h2, h3⟩ := anch_loops (r := r) hd 9 (by omega) (.inl rfl)
      refine ⟨v, Ev.ite_pos rfl h1, Ev.ite_pos rfl (Ev.step (fun k => ?_) h2), h3⟩
      simp [impl_AnchorsFor.j0]
  · rw [decide_eq_false hd]
    refine ⟨(0, false), ?_, Ev.ite_neg (by decide) no_i, hno⟩
    cases hr : okRope r with
    | false => exact Ev.ite_neg (by decide) (Ev.now _)
    | true => exact Ev.ite_pos rfl (anch_none hd 9 (by omega))
end Go.Proofs.Ytfjpbochanekoaa.Pure
