/- Riggings: what the program's IsRigging and the reference's say. -/
import Derived.Test.YtfjpbochanekoaaMJx13
import Derived.Test.YtfjpbochanekoaaMJx11
import Derived.Test.YtfjpbochanekoaaPPitches
import Derived.Test.YtfjpbochanekoaaPRopes
import Derived.Test.YtfjpbochanekoaaPHas
namespace Go.Proofs.Ytfjpbochanekoaa.Pure
open Go.RowKit Go.Proofs.Ytfjpbochanekoaa.MJ Go.Proofs.YtfjpbochanekoaaW.PrintWords Go.Proofs.YtfjpbochanekoaaW.PrintLast Go.Proofs.YtfjpbochanekoaaW.PrintMore
set_option linter.unusedVariables false
set_option linter.unusedSimpArgs false
/-- One step of the check, at place i. -/
def rigStep (l0 : List S36) (l1 l2 : List Int) (i : Nat) : Bool :=
 decide (0 ≤ l2.getD i 0 ∧ l2.getD i 0 ≤ (l1.length : Int) - 1) && (!decide (l2.getD i 0 ∈ l2.take i) && !decide (rd l1 (l2.getD i 0) < needOf (l0.getD i z36).f0 (l0.getD i z36).f1))
def isRig (l0 : List S36) (l1 l2 : List Int) : Bool := if l2.length = l0.length then foldN (fun i (_ : Unit) => if rigStep l0 l1 l2 i = true then Sum.inl () else Sum.inr false) (fun _ => true) l2.length 0 () else false
theorem specRig_ev {l0 : List S36} {l1 l2 : List Int} (hp : okPitches l0 = true) (hr : okRopes l1 = true) (hm : l2.length ≤ 9223372036854775807) : Ev (fun k => spec_l16Rigging.f k l0 l1 l2) (isRig l0 l1 l2) := by
 have h1 : l1.length ≤ 8 := by
  simp only [okRopes, Bool.and_eq_true, decide_eq_true_eq] at hr
  exact hr.2
 simp only [spec_l16Rigging.f]
 unfold isRig
 by_cases hl : l2.length = l0.length
 ·refine Ev.ite_pos (by omega) ?_
  rw [if_pos hl]
  refine loopT_ev (fun k i (_ : Unit) => spec_l16Rigging.l0 k l0 l1 l2 i) l2.length (l2.length + 1) _ _ () ?_ ?_
  ·rintro k i - hk hi
   have hb : spec_l16Rigging.l0 (k + 1) l0 l1 l2 (i : Int) = if rigStep l0 l1 l2 i = true then spec_l16Rigging.l0 k l0 l1 l2 ((i + 1 : Nat) : Int) else some false := by
    simp only [spec_l16Rigging.l0, rd_nat, rdP, l1In_eq, Option.bind_some, Int.toNat_natCast, l1Has_at (l2.take i) (l2.getD i 0) (by rw [List.length_take]; omega) k (by rw [List.length_take]; omega), l16Need_eq (okPitches_at hp (by omega : i < l0.length)), rigStep]
    rw [if_pos (by omega), if_pos (by omega), wrap_up hi hm, show wrap64 ((l1.length : Int) - 1) = (l1.length : Int) - 1 from wrap_id (by omega) (by omega)]
    by_cases c1 : 0 ≤ l2.getD i 0 ∧ l2.getD i 0 ≤ (l1.length : Int) - 1
    ·simp only [c1, and_self, decide_true, if_true, Bool.true_and]
     rw [if_pos (by omega)]
     by_cases c2 : l2.getD i 0 ∈ l2.take i
     ·simp [c2, -List.getD_eq_getElem?_getD]
     ·simp only [c2, decide_false, Bool.false_eq_true, if_false, Bool.not_false, Bool.true_and]
      rw [if_pos (by omega), if_pos (by omega)]
      by_cases c3 : rd l1 (l2.getD i 0) < needOf (l0.getD i z36).f0 (l0.getD i z36).f1
      ·rw [if_pos c3]; simp [c3, -List.getD_eq_getElem?_getD]
      ·rw [if_neg c3]; simp [c3, -List.getD_eq_getElem?_getD]
    ·simp [c1, -List.getD_eq_getElem?_getD]
   rw [hb]
   cases hq : rigStep l0 l1 l2 i with
   | true => exact .inl ⟨(), by simp only [if_true], by simp only [if_true]⟩
   | false => exact .inr ⟨false, by simp only [Bool.false_eq_true, if_false], by simp only [Bool.false_eq_true, if_false]⟩
  ·rintro k - -
   simp only [spec_l16Rigging.l0]
   rw [if_neg (by omega)]
 ·refine Ev.ite_neg (by omega) ?_
  rw [if_neg hl]
  exact Ev.now _
theorem implRig_ev {l0 : List S36} {l1 l2 : List Int} (hp : okPitches l0 = true) (hr : okRopes l1 = true) (hm : l2.length ≤ 9223372036854775807) : Ev (fun k => impl_IsRigging.j0 k l0 l1 l2 false) (isRig l0 l1 l2, true) := by
 have h1 : l1.length ≤ 8 := by
  simp only [okRopes, Bool.and_eq_true, decide_eq_true_eq] at hr
  exact hr.2
 refine Ev.step (f := fun k => if (l2.length : Int) = (l0.length : Int) then impl_IsRigging.l0 k l0 l1 l2 l2 (l2.length : Int) 0 else some (false, true)) (fun k => by simp [impl_IsRigging.j0]) ?_
 unfold isRig
 by_cases hl : l2.length = l0.length
 ·refine Ev.ite_pos (by omega) ?_
  rw [if_pos hl]
  have h := loopT_ev (ρ := Bool × Bool) (fun k i (_ : Unit) => impl_IsRigging.l0 k l0 l1 l2 l2 (l2.length : Int) i) l2.length (l2.length + 1) (fun i (_ : Unit) => if rigStep l0 l1 l2 i = true then Sum.inl () else Sum.inr (false, true)) (fun _ => (true, true)) () ?_ ?_
  ·have he : foldN (fun i (_ : Unit) => if rigStep l0 l1 l2 i = true then Sum.inl () else Sum.inr (false, true)) (fun _ => (true, true)) l2.length 0 () = (foldN (fun i (_ : Unit) => if rigStep l0 l1 l2 i = true then Sum.inl () else Sum.inr false) (fun _ => true) l2.length 0 (), true) := by
    refine foldN_rel l2.length (fun _ _ _ => True) (fun (a : Bool × Bool) (b : Bool) => a = (b, true)) ?_ (fun _ _ _ => rfl) l2.length 0 () () (by omega) trivial
    rintro i - - - -
    cases hq : rigStep l0 l1 l2 i with
    | true => exact .inl ⟨(), (), by simp, by simp, trivial⟩
    | false => exact .inr ⟨(false, true), false, by simp, by simp, rfl⟩
   rw [he] at h
   exact h
  ·rintro k i - hk hi
   have hb : impl_IsRigging.l0 (k + 1) l0 l1 l2 l2 (l2.length : Int) (i : Int) = if rigStep l0 l1 l2 i = true then impl_IsRigging.l0 k l0 l1 l2 l2 (l2.length : Int) ((i + 1 : Nat) : Int) else some (false, true) := by
    simp only [impl_IsRigging.l0, rd_nat, rdP, within_eq, Option.bind_some, Int.toNat_natCast, has_at (l2.take i) (l2.getD i 0) (by rw [List.length_take]; omega) k (by rw [List.length_take]; omega), need_eq (okPitches_at hp (by omega : i < l0.length)), rigStep]
    rw [if_pos (by omega), if_pos (by omega), if_pos (by omega), wrap_up hi hm, show wrap64 ((l1.length : Int) - 1) = (l1.length : Int) - 1 from wrap_id (by omega) (by omega)]
    by_cases c1 : 0 ≤ l2.getD i 0 ∧ l2.getD i 0 ≤ (l1.length : Int) - 1
    ·simp only [c1, and_self, decide_true, if_true, Bool.true_and]
     rw [if_pos (by omega)]
     by_cases c2 : l2.getD i 0 ∈ l2.take i
     ·simp [c2, -List.getD_eq_getElem?_getD]
     ·simp only [c2, decide_false, Bool.false_eq_true, if_false, Bool.not_false, Bool.true_and]
      rw [if_pos (by omega), if_pos (by omega)]
      by_cases c3 : rd l1 (l2.getD i 0) < needOf (l0.getD i z36).f0 (l0.getD i z36).f1
      ·rw [if_pos c3]; simp [c3, -List.getD_eq_getElem?_getD]
      ·rw [if_neg c3]; simp [c3, -List.getD_eq_getElem?_getD]
    ·simp [c1, -List.getD_eq_getElem?_getD]
   rw [hb]
   cases hq : rigStep l0 l1 l2 i with
   | true => exact .inl ⟨(), by simp only [if_true], by simp only [if_true]⟩
   | false => exact .inr ⟨(false, true), by simp only [Bool.false_eq_true, if_false], by simp only [Bool.false_eq_true, if_false]⟩
  ·rintro k - -
   simp only [impl_IsRigging.l0]
   rw [if_neg (by omega)]
 ·refine Ev.ite_neg (by omega) ?_
  rw [if_neg hl]
  exact Ev.now _
def rigAnswer (l0 : List S36) (l1 l2 : List Int) : Bool × Bool := if okPitches l0 = true ∧ okRopes l1 = true then (isRig l0 l1 l2, true) else (false, false)
theorem rigAsked_ev (l0 : List S36) (l1 : List Int) (hm0 : l0.length ≤ 9223372036854775807) (hm1 : l1.length ≤ 9223372036854775807) : Ev (fun k => spec_l16Asked.f k l0 l1) (okPitches l0 && okRopes l1) := by
 simp only [spec_l16Asked.f]
 refine Ev.bind (l16Good_ev l0 hm0) ?_
 cases okPitches l0 with
 | true => exact Ev.ite_pos rfl (Ev.bind (l16Ropes_ev l1 hm1) (Ev.now _))
 | false => exact Ev.ite_neg (by simp) (Ev.now _)
theorem specIsRig_ev (l0 : List S36) (l1 l2 : List Int) (hm0 : l0.length ≤ 9223372036854775807) (hm1 : l1.length ≤ 9223372036854775807) (hm2 : l2.length ≤ 9223372036854775807) : Ev (fun k => spec_IsRigging.f k l0 l1 l2) (rigAnswer l0 l1 l2) := by
 simp only [spec_IsRigging.f]
 refine Ev.bind (rigAsked_ev l0 l1 hm0 hm1) ?_
 unfold rigAnswer
 by_cases h : okPitches l0 = true ∧ okRopes l1 = true
 ·rw [if_pos h, h.1, h.2]
  exact Ev.ite_pos rfl (Ev.bind (specRig_ev h.1 h.2 hm2) (Ev.now _))
 ·rw [if_neg h]
  refine Ev.ite_neg (by simpa using h) (Ev.now _)
theorem implIsRig_ev (l0 : List S36) (l1 l2 : List Int) (hm2 : l2.length ≤ 9223372036854775807) : Ev (fun k => impl_IsRigging.f k l0 l1 l2) (rigAnswer l0 l1 l2) := by
 have hno : Ev (fun k => impl_IsRigging.j0 k l0 l1 l2 true) (false, false) := Ev.step (f := fun _ => some (false, false)) (fun k => by simp [impl_IsRigging.j0]) (Ev.now _)
 simp only [impl_IsRigging.f]
 refine Ev.bindc (arePitches_eq l0) ?_
 unfold rigAnswer
 by_cases h : okPitches l0 = true
 ·refine Ev.ite_pos h (Ev.bindc (areRopes_eq l1) ?_)
  by_cases h2 : okRopes l1 = true
  ·rw [if_pos ⟨h, h2⟩, h2]
   exact implRig_ev h h2 hm2
  ·rw [if_neg (fun z => h2 z.2), show okRopes l1 = false by simpa using h2]
   exact hno
 ·rw [if_neg (fun z => h z.1)]
  exact Ev.ite_neg h hno
end Go.Proofs.Ytfjpbochanekoaa.Pure
