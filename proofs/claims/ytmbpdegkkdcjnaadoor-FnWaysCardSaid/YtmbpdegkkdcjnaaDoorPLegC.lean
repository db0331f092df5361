/- Legs, without the reference's list check: what the program's and the reference's checks say. -/
import Derived.Test.YtmbpdegkkdcjnaaDoorMWx11
import Derived.Test.YtmbpdegkkdcjnaaDoorMWx9
import Derived.Test.YtmbpdegkkdcjnaaDoorPBase
namespace Go.Proofs.YtmbpdegkkdcjnaaDoor.Pure
open Go.RowKit Go.Proofs.YtmbpdegkkdcjnaaDoor.MW Go.Proofs.YtmbpdegkkdcjnaaDoorW.PrintWords Go.Proofs.YtmbpdegkkdcjnaaDoorW.PrintLast Go.Proofs.YtmbpdegkkdcjnaaDoorW.PrintMore
set_option linter.unusedVariables false
set_option linter.unusedSimpArgs false
theorem rdL (l : List S59) (i : Nat) : rd_T59 l (i : Int) = l.getD i z59 := by simp [rd_T59]
def okLeg (x : S59) : Bool := decide (0 ≤ x.f0 ∧ x.f0 ≤ 7) && (decide (0 ≤ x.f1 ∧ x.f1 ≤ 7) && (decide (x.f0 ≠ x.f1) && (decide (1 ≤ x.f2 ∧ x.f2 ≤ 500) && (decide (0 ≤ x.f3 ∧ x.f3 ≤ 359) && decide (-90 ≤ x.f4 ∧ x.f4 ≤ 90)))))
theorem l4Leg_eq (x : S59) : spec_l4Leg.f x.f0 x.f1 x.f2 x.f3 x.f4 = some (okLeg x) := by
 simp only [spec_l4Leg.f, spec_l4Station.f, spec_l2Bearing.f, l1In_eq, Option.bind_some, okLeg]
 by_cases h0 : 0 ≤ x.f0 ∧ x.f0 ≤ 7 <;> by_cases h1 : 0 ≤ x.f1 ∧ x.f1 ≤ 7 <;> by_cases h2 : x.f0 = x.f1 <;> by_cases h3 : 1 ≤ x.f2 ∧ x.f2 ≤ 500 <;> by_cases h4 : 0 ≤ x.f3 ∧ x.f3 ≤ 359 <;> simp [h0, h1, h2, h3, h4]
theorem isLeg_eq (x : S59) : impl_IsLeg.f x.f0 x.f1 x.f2 x.f3 x.f4 = some (okLeg x) := by
 simp only [impl_IsLeg.f, impl_isStation.f, impl_isBearing.f, within_eq, Option.bind_some, okLeg]
 by_cases h0 : 0 ≤ x.f0 ∧ x.f0 ≤ 7 <;> by_cases h1 : 0 ≤ x.f1 ∧ x.f1 ≤ 7 <;> by_cases h2 : x.f0 = x.f1 <;> by_cases h3 : 1 ≤ x.f2 ∧ x.f2 ≤ 500 <;> by_cases h4 : 0 ≤ x.f3 ∧ x.f3 ≤ 359 <;> simp [h0, h1, h2, h3, h4]
def okLegs (l : List S59) : Bool := l.all okLeg && decide (l.length ≤ 12)
theorem areLegs_ev (l : List S59) (hm : l.length ≤ 9223372036854775807) : Ev (fun k => impl_areLegs.f k l) (okLegs l) := by
 simp only [impl_areLegs.f]
 have h := loopT_ev (fun k i (_ : Unit) => impl_areLegs.l0 k l l (l.length : Int) i) l.length 0 (fun i (_ : Unit) => if okLeg (l.getD i z59) = true then Sum.inl () else Sum.inr false) (fun _ => decide (l.length ≤ 12)) () ?_ ?_
 ·rw [foldN_all] at h
  exact h
 ·rintro k i - - hi
  cases hp : okLeg (l.getD i z59) with
  | true =>
   refine .inl ⟨(), by simp, ?_⟩
   simp only [impl_areLegs.l0, rdL, isLeg_eq, Option.bind_some, hp]
   rw [if_pos (by omega), if_pos (by omega), if_pos (by omega), wrap_up hi hm, if_pos trivial]
  | false =>
   refine .inr ⟨false, by simp, ?_⟩
   simp only [impl_areLegs.l0, rdL, isLeg_eq, Option.bind_some, hp]
   rw [if_pos (by omega), if_pos (by omega), if_pos (by omega)]
   rfl
 ·rintro k - -
  simp only [impl_areLegs.l0]
  rw [if_neg (by omega)]
  simp only [Option.some.injEq, decide_eq_decide]
  omega
theorem okLegs_len {l : List S59} (h : okLegs l = true) : l.length ≤ 12 := by
 simp only [okLegs, Bool.and_eq_true, decide_eq_true_eq] at h
 exact h.2
theorem okLegs_at {l : List S59} (h : okLegs l = true) {i : Nat} (hi : i < l.length) : okLeg (l.getD i z59) = true := by
 simp only [okLegs, Bool.and_eq_true, List.all_eq_true] at h
 rw [getD_lt _ _ _ hi]
 exact h.1 _ (List.getElem_mem hi)
theorem okLeg_says {x : S59} (h : okLeg x = true) : (0 ≤ x.f0 ∧ x.f0 ≤ 7) ∧ (0 ≤ x.f1 ∧ x.f1 ≤ 7) ∧ x.f0 ≠ x.f1 ∧ (1 ≤ x.f2 ∧ x.f2 ≤ 500) ∧ (0 ≤ x.f3 ∧ x.f3 ≤ 359) ∧ (-90 ≤ x.f4 ∧ x.f4 ≤ 90) := by
 simpa only [okLeg, Bool.and_eq_true, decide_eq_true_eq] using h
def fromOf (l : List S59) (i : Nat) : Int := (l.getD i z59).f0
def toOf (l : List S59) (i : Nat) : Int := (l.getD i z59).f1
theorem ends_in {l : List S59} (h : okLegs l = true) : ∀ i, i < l.length → (0 ≤ fromOf l i ∧ fromOf l i < 8) ∧ (0 ≤ toOf l i ∧ toOf l i < 8) := by
 intro i hi
 have := okLeg_says (okLegs_at h hi)
 unfold fromOf toOf
 omega
end Go.Proofs.YtmbpdegkkdcjnaaDoor.Pure
