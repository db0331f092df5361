/- Ways: what the program's and the reference's checks say. -/
import Derived.Test.YtmbpdegkkdcjnaaDoorMWx3
import Derived.Test.YtmbpdegkkdcjnaaDoorPBase
namespace Go.Proofs.YtmbpdegkkdcjnaaDoor.Pure
open Go.RowKit Go.Proofs.YtmbpdegkkdcjnaaDoor.MW Go.Proofs.YtmbpdegkkdcjnaaDoorW.PrintWords Go.Proofs.YtmbpdegkkdcjnaaDoorW.PrintLast Go.Proofs.YtmbpdegkkdcjnaaDoorW.PrintMore
set_option linter.unusedVariables false
set_option linter.unusedSimpArgs false
theorem rdR (l : List S44) (i : Nat) : rd_T44 l (i : Int) = l.getD i z44 := by simp [rd_T44]
def okRun (x : S44) : Bool := decide (0 ≤ x.f0 ∧ x.f0 ≤ 500) && decide (-500 ≤ x.f1 ∧ x.f1 ≤ 500) && !(x.f0 == 0 && x.f1 == 0)
def okWay (l : List S44) : Bool := l.all okRun && decide (l.length ≤ 12)
theorem l14One_eq (x : S44) : spec_l14One.f x.f0 x.f1 = some (okRun x) := by
 simp only [spec_l14One.f, l1In_eq, Option.bind_some, okRun]
 by_cases h1 : 0 ≤ x.f0 ∧ x.f0 ≤ 500
 ·by_cases h2 : -500 ≤ x.f1 ∧ x.f1 ≤ 500
  ·by_cases h3 : x.f0 = 0 <;> simp [h1, h2, h3, bne]
  ·simp [h1, h2]
 ·simp [h1]
theorem okWay_at {l : List S44} (h : okWay l = true) {i : Nat} (hi : i < l.length) : okRun (l.getD i z44) = true := by
 rw [getD_lt _ _ _ hi]
 simp only [okWay, Bool.and_eq_true, List.all_eq_true] at h
 exact h.1 _ (List.getElem_mem hi)
theorem okWay_len {l : List S44} (h : okWay l = true) : l.length ≤ 12 := by
 simp only [okWay, Bool.and_eq_true, decide_eq_true_eq] at h
 exact h.2
theorem l14Good_ev (l : List S44) (hm : l.length ≤ 9223372036854775807) : Ev (fun k => spec_l14Good.f k l) (okWay l) := by
 have h := loopT_ev (fun k i (_ : Unit) => spec_l14Good.l0 k l i) l.length 0 (fun i (_ : Unit) => if okRun (l.getD i z44) = true then Sum.inl () else Sum.inr false) (fun _ => decide (l.length ≤ 12)) () ?_ ?_
 ·rw [foldN_all] at h
  exact h
 ·rintro k i - - hi
  cases hp : okRun (l.getD i z44) with
  | true =>
   refine .inl ⟨(), by simp only [if_true], ?_⟩
   simp only [spec_l14Good.l0, l14One_eq, rdR, Option.bind_some, hp]
   rw [if_pos (by omega), if_pos (by omega), wrap_up hi hm, if_pos trivial]
  | false =>
   refine .inr ⟨false, by simp only [Bool.false_eq_true, if_false], ?_⟩
   simp only [spec_l14Good.l0, l14One_eq, rdR, Option.bind_some, hp]
   rw [if_pos (by omega), if_pos (by omega)]
   rfl
 ·rintro k - -
  simp only [spec_l14Good.l0]
  rw [if_neg (by omega)]
  simp only [Option.some.injEq, decide_eq_decide]
  omega
theorem isWay_ev (l : List S44) (hm : l.length ≤ 9223372036854775807) : Ev (fun k => impl_IsWay.f k l) (okWay l) := by
 have h := loopT_ev (fun k i (_ : Unit) => impl_IsWay.l0 k l l (l.length : Int) i) l.length 0 (fun i (_ : Unit) => if okRun (l.getD i z44) = true then Sum.inl () else Sum.inr false) (fun _ => decide (l.length ≤ 12)) () ?_ ?_
 ·rw [foldN_all] at h
  exact h
 ·rintro k i - - hi
  have hb : impl_IsWay.l0 (k + 1) l l (l.length : Int) (i : Int) = if okRun (l.getD i z44) = true then impl_IsWay.l0 k l l (l.length : Int) ((i + 1 : Nat) : Int) else some false := by
   simp only [impl_IsWay.l0, rdR, within_eq, Option.bind_some, okRun]
   rw [if_pos (by omega), if_pos (by omega), if_pos (by omega), wrap_up hi hm]
   generalize l.getD i z44 = x
   by_cases h1 : 0 ≤ x.f0 ∧ x.f0 ≤ 500
   ·by_cases h2 : -500 ≤ x.f1 ∧ x.f1 ≤ 500
    ·by_cases h3 : (x.f0 == 0 && x.f1 == 0) = true
     ·simp [h1, h2, h3]
     ·simp [h1, h2, h3]
    ·simp [h1, h2]
   ·simp [h1]
  rw [hb]
  cases hp : okRun (l.getD i z44) with
  | true => exact .inl ⟨(), by simp only [if_true], by simp only [if_true]⟩
  | false => exact .inr ⟨false, by simp only [Bool.false_eq_true, if_false], by simp only [Bool.false_eq_true, if_false]⟩
 ·rintro k - -
  simp only [impl_IsWay.l0]
  rw [if_neg (by omega)]
  simp only [Option.some.injEq, decide_eq_decide]
  omega
end Go.Proofs.YtmbpdegkkdcjnaaDoor.Pure
