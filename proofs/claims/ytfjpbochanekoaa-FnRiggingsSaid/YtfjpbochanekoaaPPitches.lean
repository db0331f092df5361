/- Lists of pitches: what the program's and the reference's checks say. -/
import Derived.Test.YtfjpbochanekoaaMJx1
import Derived.Test.YtfjpbochanekoaaMJx3
import Derived.Test.YtfjpbochanekoaaPBase
import Derived.Test.YtfjpbochanekoaaPPitch
namespace Go.Proofs.Ytfjpbochanekoaa.Pure
open Go.RowKit Go.Proofs.Ytfjpbochanekoaa.MJ Go.Proofs.YtfjpbochanekoaaW.PrintWords Go.Proofs.YtfjpbochanekoaaW.PrintLast Go.Proofs.YtfjpbochanekoaaW.PrintMore
set_option linter.unusedVariables false
set_option linter.unusedSimpArgs false
theorem rdP (l : List S36) (i : Nat) : rd_T36 l (i : Int) = l.getD i z36 := by simp [rd_T36]
def okPitches (l : List S36) : Bool := l.all (fun x => okPitch x.f0 x.f1) && decide (l.length ≤ 6)
theorem arePitches_eq (l : List S36) : impl_ArePitches.f l = some (okPitches l) := by
 have h : (fun x => !impl_ArePitches.bad x) = (fun x : S36 => okPitch x.f0 x.f1) := by
  funext x
  simp [impl_ArePitches.bad, okPitch]
 simp only [impl_ArePitches.f, okPitches, List.any_eq_not_all_not, Bool.not_not, h]
 rw [Bool.and_comm]
theorem l16Good_ev (l : List S36) (hm : l.length ≤ 9223372036854775807) : Ev (fun k => spec_l16Good.f k l) (okPitches l) := by
 have h := loopT_ev (fun k i (_ : Unit) => spec_l16Good.l0 k l i) l.length 0 (fun i (_ : Unit) => if (fun x : S36 => okPitch x.f0 x.f1) (l.getD i z36) = true then Sum.inl () else Sum.inr false) (fun _ => decide (l.length ≤ 6)) () ?_ ?_
 ·rw [foldN_all l z36 (fun x : S36 => okPitch x.f0 x.f1)] at h
  exact h
 ·rintro k i - - hi
  cases hp : okPitch (l.getD i z36).f0 (l.getD i z36).f1 with
  | true =>
   refine .inl ⟨(), by simp only [hp, if_true], ?_⟩
   simp only [spec_l16Good.l0, l16One_eq, rdP, Option.bind_some, hp]
   rw [if_pos (by omega), if_pos (by omega), wrap_up hi hm, if_pos trivial]
  | false =>
   refine .inr ⟨false, by simp only [hp, Bool.false_eq_true, if_false], ?_⟩
   simp only [spec_l16Good.l0, l16One_eq, rdP, Option.bind_some, hp]
   rw [if_pos (by omega), if_pos (by omega)]
   rfl
 ·rintro k - -
  simp only [spec_l16Good.l0]
  rw [if_neg (by omega)]
  simp only [Option.some.injEq, decide_eq_decide]
  omega
theorem okPitches_at {l : List S36} (h : okPitches l = true) {i : Nat} (hi : i < l.length) : okPitch (l.getD i z36).f0 (l.getD i z36).f1 = true := by
 rw [getD_lt _ _ _ hi]
 simp only [okPitches, Bool.and_eq_true, List.all_eq_true] at h
 exact h.1 _ (List.getElem_mem hi)
end Go.Proofs.Ytfjpbochanekoaa.Pure
