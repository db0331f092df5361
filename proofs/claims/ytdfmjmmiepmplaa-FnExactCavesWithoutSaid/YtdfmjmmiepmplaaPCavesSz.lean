/- How much all caves are. -/
import Derived.Test.YtdfmjmmiepmplaaMBx8
import Derived.Test.YtdfmjmmiepmplaaPCavesOf
import Derived.Test.YtdfmjmmiepmplaaPMSS
namespace Go.Proofs.Ytdfmjmmiepmplaa.Pure
open Go.RowKit Go.Proofs.Ytdfmjmmiepmplaa.MB Go.Proofs.YtdfmjmmiepmplaaW.PrintWords Go.Proofs.YtdfmjmmiepmplaaW.PrintLast Go.Proofs.YtdfmjmmiepmplaaW.PrintMore
set_option linter.unusedVariables false
set_option linter.unusedSimpArgs false
theorem sizeSS_le : ∀ (l : List (List Int)) (n : Nat), (∀ c ∈ l, c.length ≤ n) → sizeSS l ≤ n * l.length
  | [], _, _ => by simp [sizeSS]
  | c :: l, n, h => by
    have h1 := h c List.mem_cons_self
    have h2 := sizeSS_le l n (fun x hx => h x (List.mem_cons_of_mem _ hx))
    simp only [sizeSS, List.length_cons, Nat.mul_succ]
    omega
theorem caves_size {l : List S69} (hl : okLegs l = true) : sizeSS (cavesOf l) ≤ 64 ∧ (cavesOf l).length ≤ 8 := by
  have h8 : (cavesOf l).length ≤ 8 := (cavesOf_told l).len
  have := sizeSS_le (cavesOf l) 8 (fun c hc => by
    obtain ⟨t, h0, h1, _, rfl⟩ := (cavesOf_told l).some_ c hc
    exact (caveOf_good hl ⟨h0, h1⟩).len)
  omega
end Go.Proofs.Ytdfmjmmiepmplaa.Pure
