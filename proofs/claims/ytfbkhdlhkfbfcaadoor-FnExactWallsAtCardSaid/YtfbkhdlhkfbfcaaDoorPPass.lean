/- Lists of passages: what the program's and the reference's checks say. -/
import Derived.Test.YtfbkhdlhkfbfcaaDoorMAx2
import Derived.Test.YtfbkhdlhkfbfcaaDoorMAx7
import Derived.Test.YtfbkhdlhkfbfcaaDoorPBase
namespace Go.Proofs.YtfbkhdlhkfbfcaaDoor.Pure
open Go.RowKit Go.Proofs.YtfbkhdlhkfbfcaaDoor.MA Go.Proofs.YtfbkhdlhkfbfcaaDoorW.PrintWords Go.Proofs.YtfbkhdlhkfbfcaaDoorW.PrintLast Go.Proofs.YtfbkhdlhkfbfcaaDoorW.PrintMore
set_option linter.unusedVariables false
set_option linter.unusedSimpArgs false
theorem rdA (l : List S43) (i : Nat) : rd_T43 l (i : Int) = l.getD i z43 := by simp [rd_T43]
def okPass (x : S43) : Bool := decide (0 ≤ x.f0 ∧ x.f0 ≤ 7) && decide (0 ≤ x.f1 ∧ x.f1 ≤ 200) && decide (0 ≤ x.f2 ∧ x.f2 ≤ 200) && decide (0 ≤ x.f3 ∧ x.f3 ≤ 200) && decide (0 ≤ x.f4 ∧ x.f4 ≤ 200)
theorem l12One_eq (x : S43) : spec_l12One.f x.f0 x.f1 x.f2 x.f3 x.f4 = some (okPass x) := by
 simp only [spec_l12One.f, spec_l4Station.f, spec_l12Far.f, l1In_eq, Option.bind_some, okPass]
 by_cases h0 : 0 ≤ x.f0 ∧ x.f0 ≤ 7 <;> by_cases h1 : 0 ≤ x.f1 ∧ x.f1 ≤ 200 <;> by_cases h2 : 0 ≤ x.f2 ∧ x.f2 ≤ 200 <;> by_cases h3 : 0 ≤ x.f3 ∧ x.f3 ≤ 200 <;> simp [h0, h1, h2, h3]
theorem isPassage_eq (x : S43) : impl_isPassage.f x.f0 x.f1 x.f2 x.f3 x.f4 = some (okPass x) := by
 simp only [impl_isPassage.f, impl_isStation.f, within_eq, Option.bind_some, okPass]
 by_cases h0 : 0 ≤ x.f0 ∧ x.f0 ≤ 7 <;> by_cases h1 : 0 ≤ x.f1 ∧ x.f1 ≤ 200 <;> by_cases h2 : 0 ≤ x.f2 ∧ x.f2 ≤ 200 <;> by_cases h3 : 0 ≤ x.f3 ∧ x.f3 ≤ 200 <;> simp [h0, h1, h2, h3]
/-- A passage fits behind the one before it. -/
def passAt (l : List S43) (i : Nat) : Bool := okPass (l.getD i z43) && (i == 0 || decide ((l.getD (i - 1) z43).f0 < (l.getD i z43).f0))
def okPasses (l : List S43) : Bool := foldN (fun i (_ : Unit) => if passAt l i = true then Sum.inl () else Sum.inr false) (fun _ => true) l.length 0 ()
theorem spec_l12Good_step (l : List S43) (hm : l.length ≤ 9223372036854775807) (k i : Nat) (hi : i < l.length) : spec_l12Good.l0 (k + 1) l (i : Int) = if passAt l i = true then spec_l12Good.l0 k l ((i + 1 : Nat) : Int) else some false := by
 simp only [spec_l12Good.l0, rdA, l12One_eq, Option.bind_some]
 rw [if_pos (by omega), if_pos (by omega), wrap_up hi hm]
 cases hp : okPass (l.getD i z43) with
 | false => simp only [passAt, hp, Bool.false_and, Bool.false_eq_true, if_false]
 | true =>
  simp only [if_true]
  rcases Nat.eq_zero_or_pos i with rfl | h0
  ·simp only [passAt, hp, beq_self_eq_true, Bool.true_or, Bool.and_true, if_true]
   rw [if_neg (by omega)]
  ·have hw : wrap64 ((i : Int) - 1) = ((i - 1 : Nat) : Int) := by unfold wrap64; omega
   rw [if_pos (by omega), hw, if_pos (by omega), if_pos (by omega), rdA]
   have hne : (i == 0) = false := by simp; omega
   by_cases hlt : (l.getD (i - 1) z43).f0 < (l.getD i z43).f0
   ·rw [if_neg (by omega)]
    simp only [passAt, hp, hne, decide_eq_true hlt, Bool.or_true, Bool.and_true, if_true]
   ·rw [if_pos (by omega)]
    simp only [passAt, hp, hne, decide_eq_false hlt, Bool.or_false, Bool.and_false, Bool.false_eq_true, if_false]
theorem l12Good_ev (l : List S43) (hm : l.length ≤ 9223372036854775807) : Ev (fun k => spec_l12Good.f k l) (okPasses l) := by
 simp only [spec_l12Good.f]
 refine loopT_ev (fun k i (_ : Unit) => spec_l12Good.l0 k l i) l.length 0 (fun i (_ : Unit) => if passAt l i = true then Sum.inl () else Sum.inr false) (fun _ => true) () ?_ ?_
 ·rintro k i - - hi
  have h := spec_l12Good_step l hm k i hi
  cases hp : passAt l i with
  | true => exact .inl ⟨(), by simp only [if_true], by simp only [h, hp, if_true]⟩
  | false => exact .inr ⟨false, by simp only [Bool.false_eq_true, if_false], by simp only [h, hp, Bool.false_eq_true, if_false]⟩
 ·rintro k - -
  simp only [spec_l12Good.l0]
  rw [if_neg (by omega)]
theorem impl_ArePassages_step (l : List S43) (hm : l.length ≤ 9223372036854775807) (k i : Nat) (hi : i < l.length) : impl_ArePassages.l0 (k + 1) l l (l.length : Int) (i : Int) = if passAt l i = true then impl_ArePassages.l0 k l l (l.length : Int) ((i + 1 : Nat) : Int) else some false := by
 simp only [impl_ArePassages.l0, rdA, isPassage_eq, Option.bind_some]
 rw [if_pos (by omega), if_pos (by omega), if_pos (by omega), wrap_up hi hm]
 cases hp : okPass (l.getD i z43) with
 | false => simp only [passAt, hp, Bool.false_and, Bool.false_eq_true, if_false]
 | true =>
  simp only [if_true]
  rcases Nat.eq_zero_or_pos i with rfl | h0
  ·simp only [passAt, hp, beq_self_eq_true, Bool.true_or, Bool.and_true, if_true]
   rw [if_neg (by omega)]
  ·have hw : wrap64 ((i : Int) - 1) = ((i - 1 : Nat) : Int) := by unfold wrap64; omega
   rw [if_pos (by omega), hw, if_pos (by omega), if_pos (by omega), rdA]
   have hne : (i == 0) = false := by simp; omega
   by_cases hlt : (l.getD (i - 1) z43).f0 < (l.getD i z43).f0
   ·rw [if_neg (by omega)]
    simp only [passAt, hp, hne, decide_eq_true hlt, Bool.or_true, Bool.and_true, if_true]
   ·rw [if_pos (by omega)]
    simp only [passAt, hp, hne, decide_eq_false hlt, Bool.or_false, Bool.and_false, Bool.false_eq_true, if_false]
theorem arePasses_ev (l : List S43) (hm : l.length ≤ 9223372036854775807) : Ev (fun k => impl_ArePassages.f k l) (okPasses l) := by
 simp only [impl_ArePassages.f]
 refine loopT_ev (fun k i (_ : Unit) => impl_ArePassages.l0 k l l (l.length : Int) i) l.length 0 (fun i (_ : Unit) => if passAt l i = true then Sum.inl () else Sum.inr false) (fun _ => true) () ?_ ?_
 ·rintro k i - - hi
  have h := impl_ArePassages_step l hm k i hi
  cases hp : passAt l i with
  | true => exact .inl ⟨(), by simp only [if_true], by simp only [h, hp, if_true]⟩
  | false => exact .inr ⟨false, by simp only [Bool.false_eq_true, if_false], by simp only [h, hp, Bool.false_eq_true, if_false]⟩
 ·rintro k - -
  simp only [impl_ArePassages.l0]
  rw [if_neg (by omega)]
/-- Every passage of a good list fits. -/
theorem okPasses_at {l : List S43} (h : okPasses l = true) : ∀ i, i < l.length → passAt l i = true := by
 have key : ∀ d i, i + d = l.length → foldN (fun i (_ : Unit) => if passAt l i = true then Sum.inl () else Sum.inr false) (fun _ => true) d i () = true → ∀ j, i ≤ j → j < l.length → passAt l j = true := by
  intro d
  induction d with
  | zero => intro i hi _ j h1 h2; omega
  | succ d ih =>
   intro i hi hf j h1 h2
   simp only [foldN] at hf
   cases hp : passAt l i with
   | false => simp [hp] at hf
   | true =>
    simp only [hp, if_true] at hf
    rcases Nat.eq_or_lt_of_le h1 with rfl | h3
    ·exact hp
    ·exact ih (i + 1) (by omega) hf j h3 h2
 intro i hi
 exact key l.length 0 (by omega) h i (by omega) hi
theorem okPasses_one {l : List S43} (h : okPasses l = true) {i : Nat} (hi : i < l.length) : okPass (l.getD i z43) = true := by
 have h1 := okPasses_at h i hi
 simp only [passAt, Bool.and_eq_true] at h1
 exact h1.1
theorem okPasses_up {l : List S43} (h : okPasses l = true) : ∀ i, i < l.length → (i : Int) ≤ (l.getD i z43).f0 := by
 intro i
 induction i with
 | zero =>
  intro hi
  have h1 := okPasses_one h hi
  simp only [okPass, Bool.and_eq_true, decide_eq_true_eq] at h1
  omega
 | succ i ih =>
  intro hi
  have h1 := okPasses_at h (i + 1) hi
  have h2 := ih (by omega)
  simp only [passAt, Bool.and_eq_true, Bool.or_eq_true, decide_eq_true_eq, Nat.add_sub_cancel, beq_iff_eq, Nat.add_eq_zero_iff, Nat.one_ne_zero, and_false, false_or] at h1
  omega
theorem okPasses_len {l : List S43} (h : okPasses l = true) : l.length ≤ 8 := by
 rcases Nat.lt_or_ge 8 l.length with h8 | h8
 ·have h1 := okPasses_up h 8 h8
  have h2 := okPasses_one h h8
  simp only [okPass, Bool.and_eq_true, decide_eq_true_eq] at h2
  omega
 ·exact h8
end Go.Proofs.YtfbkhdlhkfbfcaaDoor.Pure
