/- Membership, as the program asks it. -/
import Derived.Test.YtfjpbochanekoaaMJx4
import Derived.Test.YtfjpbochanekoaaPL1Has
namespace Go.Proofs.Ytfjpbochanekoaa.Pure
open Go.RowKit Go.Proofs.Ytfjpbochanekoaa.MJ Go.Proofs.YtfjpbochanekoaaW.PrintWords Go.Proofs.YtfjpbochanekoaaW.PrintLast Go.Proofs.YtfjpbochanekoaaW.PrintMore
set_option linter.unusedVariables false
set_option linter.unusedSimpArgs false
theorem has_at (l : List Int) (x : Int) (hm : l.length ≤ 9223372036854775807) : ∀ k, l.length < k → impl_has.f k l x = some (decide (x ∈ l)) := by
 have key : ∀ d i k, i + d = l.length → d < k → (∀ j, j < i → l.getD j 0 ≠ x) → ∃ r, slices_Index_int_int.l0 k l x (l.length : Int) (i : Int) = some r ∧ (0 ≤ r ↔ x ∈ l) := by
  intro d
  induction d with
  | zero =>
   intro i k hi hk hno
   obtain ⟨k, rfl⟩ : ∃ m, k = m + 1 := ⟨k - 1, by omega⟩
   refine ⟨-1, by simp only [slices_Index_int_int.l0]; rw [if_neg (by omega)], by omega, fun h => ?_⟩
   obtain ⟨j, hj, he⟩ := (any_getD l x).2 h
   exact absurd he (hno j (by omega))
  | succ d ih =>
   intro i k hi hk hno
   obtain ⟨k, rfl⟩ : ∃ m, k = m + 1 := ⟨k - 1, by omega⟩
   have hil : i < l.length := by omega
   simp only [slices_Index_int_int.l0, rd_nat]
   rw [if_pos (by omega), if_pos (by omega), if_pos (by omega), wrap_up hil hm]
   by_cases he : x = l.getD i 0
   ·exact ⟨i, by rw [if_pos he], fun _ => (any_getD l x).1 ⟨i, hil, he.symm⟩, fun _ => by omega⟩
   ·rw [if_neg he]
    refine ih (i + 1) k (by omega) (by omega) (fun j hj => ?_)
    by_cases hji : j = i
    ·rw [hji]; exact fun h => he h.symm
    ·exact hno j (by omega)
 intro k hk
 obtain ⟨r, h1, h2⟩ := key l.length 0 k (by omega) hk (fun j hj => by omega)
 have h1' : slices_Index_int_int.l0 k l x (l.length : Int) 0 = some r := h1
 simp only [impl_has.f, slices_Contains_int_int.f, slices_Index_int_int.f, h1', Option.bind_some]
 congr 1
 rw [decide_eq_decide]
 exact h2
end Go.Proofs.Ytfjpbochanekoaa.Pure
