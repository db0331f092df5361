/- Plain lemmas on rounds and on the smallest functions. -/
import Derived.Test.YtknjpfjmkgfpdaaMAx1
namespace Go.Proofs.Ytknjpfjmkgfpdaa.Pure
open Go.RowKit Go.Proofs.Ytknjpfjmkgfpdaa.MA Go.Proofs.YtknjpfjmkgfpdaaW.PrintWords Go.Proofs.YtknjpfjmkgfpdaaW.PrintLast Go.Proofs.YtknjpfjmkgfpdaaW.PrintMore

theorem within_eq (a b c : Int) : impl_within.f a b c = some (decide (b ≤ a ∧ a ≤ c)) := by
  unfold impl_within.f
  by_cases h : a ≥ b
  · rw [if_pos h]; simp [show b ≤ a from h]
  · rw [if_neg h]; simp [show ¬ b ≤ a from h]
theorem l1In_eq (a b c : Int) : spec_l1In.f a b c = some (decide (b ≤ a ∧ a ≤ c)) := by
  unfold spec_l1In.f
  by_cases h : a ≥ b
  · rw [if_pos h]; simp [show b ≤ a from h]
  · rw [if_neg h]; simp [show ¬ b ≤ a from h]
theorem wrap_id {x : Int} (h0 : -9223372036854775808 ≤ x) (h1 : x ≤ 9223372036854775807) : wrap64 x = x := by
  unfold wrap64
  omega
theorem wrap_up {i : Nat} {n : Nat} (h : i < n) (hn : n ≤ 9223372036854775807) : wrap64 ((i : Int) + 1) = ((i + 1 : Nat) : Int) := by
  unfold wrap64
  omega
theorem Ev.ite_pos {α : Type} {c : Prop} [Decidable c] {g g' : Nat → Option α} {r : α} (hc : c) (h : Ev g r) : Ev (fun k => if c then g k else g' k) r := by
  simpa only [if_pos hc] using h
theorem Ev.ite_neg {α : Type} {c : Prop} [Decidable c] {g g' : Nat → Option α} {r : α} (hc : ¬ c) (h : Ev g' r) : Ev (fun k => if c then g k else g' k) r := by
  simpa only [if_neg hc] using h
theorem Ev.past {α : Type} {g : Nat → Option α} {r : α} {d : Nat} (h : ∀ k, d < k → g k = some r) : Ev g r := ⟨d + 1, fun k hk => h k (by omega)⟩
theorem Ev.eq {α : Type} {g : Nat → Option α} {r : α} (h : ∀ k, g k = some r) : Ev g r := ⟨0, fun k _ => h k⟩
end Go.Proofs.Ytknjpfjmkgfpdaa.Pure
