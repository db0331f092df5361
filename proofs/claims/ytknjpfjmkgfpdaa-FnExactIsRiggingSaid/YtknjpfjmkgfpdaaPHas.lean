/- Membership, as the program and the reference ask it. -/
import Derived.Test.YtknjpfjmkgfpdaaMAx11
import Derived.Test.YtknjpfjmkgfpdaaMAx13
import Derived.Test.YtknjpfjmkgfpdaaPBase
namespace Go.Proofs.Ytknjpfjmkgfpdaa.Pure
open Go.RowKit Go.Proofs.Ytknjpfjmkgfpdaa.MA Go.Proofs.YtknjpfjmkgfpdaaW.PrintWords Go.Proofs.YtknjpfjmkgfpdaaW.PrintLast Go.Proofs.YtknjpfjmkgfpdaaW.PrintMore
theorem any_getD (l : List Int) (x : Int) : (∃ i, i < l.length ∧ l.getD i 0 = x) ↔ x ∈ l := by
  constructor
  · rintro ⟨i, hi, rfl⟩
    rw [getD_lt _ _ _ hi]
    exact List.getElem_mem hi
  · intro h
    obtain ⟨i, hi, rfl⟩ := List.mem_iff_getElem.1 h
    exact ⟨i, hi, getD_lt _ _ _ hi⟩
/-- Rounds enough: more than the list is long. -/
theorem l1Has_at (l : List Int) (x : Int) (hm : l.length ≤ 9223372036854775807) : ∀ k, l.length < k → spec_l1Has.f k l x = some (decide (x ∈ l)) := by
  have key : ∀ d i k, i + d = l.length → d < k → (∀ j, j < i → l.getD j 0 ≠ x) → spec_l1Has.l0 k l x (i : Int) = some (decide (x ∈ l)) := by
    intro d
    induction d with
    | zero =>
      intro i k hi hk hno
      obtain ⟨k, rfl⟩ : ∃ m, k = m + 1 := ⟨k - 1, by omega⟩
      simp only [spec_l1Has.l0]
      rw [if_neg (by omega), decide_eq_false]
      intro h
      obtain ⟨j, hj, he⟩ := (any_getD l x).2 h
      exact hno j (by omega) he
    | succ d ih =>
      intro i k hi hk hno
      obtain ⟨k, rfl⟩ : ∃ m, k = m + 1 := ⟨k - 1, by omega⟩
      have hil : i < l.length := by omega
      simp only [spec_l1Has.l0, rd_nat]
      rw [if_pos (by omega), if_pos (by omega), wrap_up hil hm]
      by_cases he : l.getD i 0 = x
      · rw [if_pos he, decide_eq_true ((any_getD l x).1 ⟨i, hil, he⟩)]
      · rw [if_neg he]
        refine ih (i + 1) k (by omega) (by omega) (fun j hj => ?_)
        by_cases hji : j = i
        · rw [hji]; exact he
        · exact hno j (by omega)
  intro k hk
  exact key l.length 0 k (by omega) hk (fun j hj => by omega)
theorem has_at (l : List Int) (x : Int) (hm : l.length ≤ 9223372036854775807) : ∀ k, l.length < k → impl_has.f k l x = some (decide (x ∈ l)) := by
  have key : ∀ d i k, i + d = l.length → d < k → (∀ j, j < i → l.getD j 0 ≠ x) → ∃ r, slices_Index_int_int.l0 k l x (l.length : Int) (i : Int) = some r ∧ (0 ≤ r ↔ x ∈ l) := by
    intro d
    induction d with
    | zero =>
      intro i k hi hk hno
      obtain ⟨k, rfl⟩ : ∃ m, k = m + 1 := ⟨k - 1, by omega⟩
      refine ⟨-1, by simp only [slices_Index_int_int.l0]; rw [if_neg (by omega)], by omega, fun h => ?_⟩
      obtain ⟨j, hj, he⟩ := (any_getD l x).2 h
      exact absurd he (hno j (by omega))
    | succ d ih =>
      intro i k hi hk hno
      obtain ⟨k, rfl⟩ : ∃ m, k = m + 1 := ⟨k - 1, by omega⟩
      have hil : i < l.length := by omega
      simp only [slices_Index_int_int.l0, rd_nat]
      rw [if_pos (by omega), if_pos (by omega), if_pos (by omega), wrap_up hil hm]
      by_cases he : x = l.getD i 0
      · exact ⟨i, by rw [if_pos he], fun _ => (any_getD l x).1 ⟨i, hil, he.symm⟩, fun _ => by omega⟩
      · rw [if_neg he]
        refine ih (i + 1) k (by omega) (by omega) (fun j hj => ?_)
        by_cases hji : j = i
        · rw [hji]; exact fun h => he h.symm
        · exact hno j (by omega)
  intro k hk
  obtain ⟨r, h1, h2⟩ := key l.length 0 k (by omega) hk (fun j hj => by omega)
  have h1' : slices_Index_int_int.l0 k l x (l.length : Int) 0 = some r := h1
  simp only [impl_has.f, slices_Contains_int_int.f, slices_Index_int_int.f, h1', Option.bind_some]
  congr 1
  rw [decide_eq_decide]
  exact h2
end Go.Proofs.Ytknjpfjmkgfpdaa.Pure
