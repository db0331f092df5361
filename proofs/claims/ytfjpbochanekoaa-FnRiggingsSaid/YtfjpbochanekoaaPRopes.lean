/- Lists of ropes: what the program's and the reference's checks say. -/
import Derived.Test.YtfjpbochanekoaaMJx1
import Derived.Test.YtfjpbochanekoaaMJx3
import Derived.Test.YtfjpbochanekoaaPBase
import Derived.Test.YtfjpbochanekoaaPPitch
namespace Go.Proofs.Ytfjpbochanekoaa.Pure
open Go.RowKit Go.Proofs.Ytfjpbochanekoaa.MJ Go.Proofs.YtfjpbochanekoaaW.PrintWords Go.Proofs.YtfjpbochanekoaaW.PrintLast Go.Proofs.YtfjpbochanekoaaW.PrintMore
set_option linter.unusedVariables false
set_option linter.unusedSimpArgs false
def okRopes (l : List Int) : Bool := l.all okRope && decide (l.length ≤ 8)
theorem areRopes_eq (l : List Int) : impl_AreRopes.f l = some (okRopes l) := by
 have h : (fun x => !impl_AreRopes.bad x) = okRope := by
  funext x
  simp [impl_AreRopes.bad, okRope]
 simp only [impl_AreRopes.f, okRopes, List.any_eq_not_all_not, Bool.not_not, h]
 rw [Bool.and_comm]
theorem l16Ropes_ev (l : List Int) (hm : l.length ≤ 9223372036854775807) : Ev (fun k => spec_l16Ropes.f k l) (okRopes l) := by
 have h := loopT_ev (fun k i (_ : Unit) => spec_l16Ropes.l0 k l i) l.length 0 (fun i (_ : Unit) => if okRope (l.getD i 0) = true then Sum.inl () else Sum.inr false) (fun _ => decide (l.length ≤ 8)) () ?_ ?_
 ·rw [foldN_all] at h
  exact h
 ·rintro k i - - hi
  cases hp : okRope (l.getD i 0) with
  | true =>
   refine .inl ⟨(), by simp, ?_⟩
   simp only [spec_l16Ropes.l0, l16Rope_eq, rd_nat, Option.bind_some, hp]
   rw [if_pos (by omega), if_pos (by omega), wrap_up hi hm, if_pos trivial]
  | false =>
   refine .inr ⟨false, by simp, ?_⟩
   simp only [spec_l16Ropes.l0, l16Rope_eq, rd_nat, Option.bind_some, hp]
   rw [if_pos (by omega), if_pos (by omega)]
   rfl
 ·rintro k - -
  simp only [spec_l16Ropes.l0]
  rw [if_neg (by omega)]
  simp only [Option.some.injEq, decide_eq_decide]
  omega
end Go.Proofs.Ytfjpbochanekoaa.Pure
