/- Membership, as the reference asks it. -/
import Derived.Test.YtfgkpokjhihaaaaMRx3
import Derived.Test.YtfgkpokjhihaaaaPBase
namespace Go.Proofs.Ytfgkpokjhihaaaa.Pure
open Go.RowKit Go.Proofs.Ytfgkpokjhihaaaa.MR Go.Proofs.YtfgkpokjhihaaaaW.PrintWords Go.Proofs.YtfgkpokjhihaaaaW.PrintLast Go.Proofs.YtfgkpokjhihaaaaW.PrintMore
set_option linter.unusedVariables false
set_option linter.unusedSimpArgs false
theorem any_getD (l : List Int) (x : Int) : (∃ i, i < l.length ∧ l.getD i 0 = x) ↔ x ∈ l := by
 constructor
 ·rintro ⟨i, hi, rfl⟩
  rw [getD_lt _ _ _ hi]
  exact List.getElem_mem hi
 ·intro h
  obtain ⟨i, hi, rfl⟩ := List.mem_iff_getElem.1 h
  exact ⟨i, hi, getD_lt _ _ _ hi⟩
/-- Rounds enough: more than the list is long. -/
theorem l1Has_at (l : List Int) (x : Int) (hm : l.length ≤ 9223372036854775807) : ∀ k, l.length < k → spec_l1Has.f k l x = some (decide (x ∈ l)) := by
 have key : ∀ d i k, i + d = l.length → d < k → (∀ j, j < i → l.getD j 0 ≠ x) → spec_l1Has.l0 k l x (i : Int) = some (decide (x ∈ l)) := by
  intro d
  induction d with
  | zero =>
   intro i k hi hk hno
   obtain ⟨k, rfl⟩ : ∃ m, k = m + 1 := ⟨k - 1, by omega⟩
   simp only [spec_l1Has.l0]
   rw [if_neg (by omega), decide_eq_false]
   intro h
   obtain ⟨j, hj, he⟩ := (any_getD l x).2 h
   exact hno j (by omega) he
  | succ d ih =>
   intro i k hi hk hno
   obtain ⟨k, rfl⟩ : ∃ m, k = m + 1 := ⟨k - 1, by omega⟩
   have hil : i < l.length := by omega
   simp only [spec_l1Has.l0, rd_nat]
   rw [if_pos (by omega), if_pos (by omega), wrap_up hil hm]
   by_cases he : l.getD i 0 = x
   ·rw [if_pos he, decide_eq_true ((any_getD l x).1 ⟨i, hil, he⟩)]
   ·rw [if_neg he]
    refine ih (i + 1) k (by omega) (by omega) (fun j hj => ?_)
    by_cases hji : j = i
    ·rw [hji]; exact he
    ·exact hno j (by omega)
 intro k hk
 exact key l.length 0 k (by omega) hk (fun j hj => by omega)
theorem l1Has_ev {l : List Int} {n : Int} (hm : l.length ≤ 1048576) : Ev (fun k => spec_l1Has.f k l n) (decide (n ∈ l)) := Ev.past l.length fun k hk => l1Has_at l n (by omega) k hk
end Go.Proofs.Ytfgkpokjhihaaaa.Pure
