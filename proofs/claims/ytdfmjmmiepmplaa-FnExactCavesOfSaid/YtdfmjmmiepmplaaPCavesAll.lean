/- All caves: both answers. -/
import Derived.Test.YtdfmjmmiepmplaaMVx4
import Derived.Test.YtdfmjmmiepmplaaMVx6
import Derived.Test.YtdfmjmmiepmplaaPCavesOf
import Derived.Test.YtdfmjmmiepmplaaPMSS
namespace Go.Proofs.Ytdfmjmmiepmplaa.Pure
open Go.RowKit Go.Proofs.Ytdfmjmmiepmplaa.MV Go.Proofs.YtdfmjmmiepmplaaW.PrintWords Go.Proofs.YtdfmjmmiepmplaaW.PrintLast Go.Proofs.YtdfmjmmiepmplaaW.PrintMore
set_option linter.unusedVariables false
set_option linter.unusedSimpArgs false
def cavesAns (l : List S69) : List (List Int) × Bool := if okLegs l = true then (cavesOf l, true) else ([], false)
theorem implCavesOf_ev (l : List S69) (hm : l.length ≤ 9223372036854775807) : Ev (fun k => impl_CavesOf.f k l) (cavesAns l) := by
  simp only [impl_CavesOf.f]
  refine Ev.bind (areLegs_ev l hm) ?_
  by_cases h : okLegs l = true
  · rw [show cavesAns l = (cavesOf l, true) from if_pos h]
    exact Ev.ite_pos h (Ev.bind (implCaves_ev h) (Ev.now _))
  · rw [show cavesAns l = ([], false) from if_neg h]
    exact Ev.ite_neg h (Ev.now _)
theorem specCavesOf_ev (l : List S69) (hm : l.length ≤ 9223372036854775807) : Ev (fun k => spec_CavesOf.f k l) (cavesAns l) := by
  simp only [spec_CavesOf.f]
  refine Ev.bind (l4Legs_ev l hm) ?_
  by_cases h : okLegs l = true
  · rw [show cavesAns l = (cavesOf l, true) from if_pos h]
    exact Ev.ite_pos h (Ev.bind (specCaves_ev h) (Ev.now _))
  · rw [show cavesAns l = ([], false) from if_neg h]
    exact Ev.ite_neg h (Ev.now _)
theorem sizeSS_le : ∀ (l : List (List Int)) (n : Nat), (∀ c ∈ l, c.length ≤ n) → sizeSS l ≤ n * l.length
  | [], _, _ => by simp [sizeSS]
  | c :: l, n, h => by
    have h1 := h c List.mem_cons_self
    have h2 := sizeSS_le l n (fun x hx => h x (List.mem_cons_of_mem _ hx))
    simp only [sizeSS, List.length_cons, Nat.mul_succ]
    omega
theorem caves_size {l : List S69} (hl : okLegs l = true) : sizeSS (cavesOf l) ≤ 64 ∧ (cavesOf l).length ≤ 8 := by
  have h8 : (cavesOf l).length ≤ 8 := (cavesOf_told l).len
  have := sizeSS_le (cavesOf l) 8 (fun c hc => by
    obtain ⟨t, h0, h1, _, rfl⟩ := (cavesOf_told l).some_ c hc
    exact (caveOf_good hl ⟨h0, h1⟩).len)
  omega
theorem cavesAns_len (l : List S69) : sizeSS (cavesAns l).1 ≤ 64 ∧ (cavesAns l).1.length ≤ 8 := by
  unfold cavesAns
  split
  · rename_i h
    exact caves_size h
  · exact ⟨by simp [sizeSS], by simp⟩
end Go.Proofs.Ytdfmjmmiepmplaa.Pure
