/- The smallest scale: the program's and the reference's answers. -/
import Derived.Test.YtcajkofblleanaaMSx8
import Derived.Test.YtcajkofblleanaaMSx10
import Derived.Test.YtcajkofblleanaaPSquare
namespace Go.Proofs.Ytcajkofblleanaa.Pure
open Go.RowKit Go.Proofs.Ytcajkofblleanaa.MS Go.Proofs.YtcajkofblleanaaW.PrintWords Go.Proofs.YtcajkofblleanaaW.PrintLast Go.Proofs.YtcajkofblleanaaW.PrintMore
def fitsAt (l : List S53) (c r s : Int) : Bool := decide ((bd l s (l.length - 1)).2.1 - (bd l s (l.length - 1)).1 < c) && decide ((bd l s (l.length - 1)).2.2.2 - (bd l s (l.length - 1)).2.2.1 < r)
def scanScale (l : List S53) (c r : Int) : Nat → Nat → Int × Bool
  | 0, _ => (0, false)
  | d + 1, s => if fitsAt l c r (s : Int) = true then ((s : Int), true) else scanScale l c r d (s + 1)
theorem specScale_loop {l : List S53} (h : okMarks l = true) (h0 : l.length ≠ 0) (c r : Int) : ∀ (d s : Nat), s + d = 501 → 1 ≤ s → Ev (fun k => spec_SmallestScale.l0 k l c r (s : Int)) (scanScale l c r d s) := by
  intro d
  induction d with
  | zero =>
    intro s hd h1
    refine Ev.step (f := fun _ => some (0, false)) (fun k => ?_) (Ev.now _)
    simp only [spec_SmallestScale.l0]
    rw [if_neg (by omega)]
  | succ d ih =>
    intro s hd h1
    have hs : 1 ≤ (s : Int) ∧ (s : Int) ≤ 500 := by omega
    have hb := bd_small h hs (l.length - 1) (by omega)
    have hnext := ih (s + 1) (by omega) (by omega)
    have hw : wrap64 ((s : Int) + 1) = ((s + 1 : Nat) : Int) := wrap_id (by omega) (by omega)
    refine Ev.step (f := fun k => (spec_l13Bounds.f k l (s : Int)).bind fun bt280 => (if (wrap64 (bt280.2.1 - bt280.1)) < c then (if (wrap64 (bt280.2.2.2 - bt280.2.2.1)) < r then (some ((s : Int), true)) else (spec_SmallestScale.l0 k l c r ((s + 1 : Nat) : Int))) else (spec_SmallestScale.l0 k l c r ((s + 1 : Nat) : Int)))) (fun k => ?_) (Ev.bind (bounds_ev h h0 hs) ?_)
    · simp only [spec_SmallestScale.l0, hw]
      rw [if_pos (by omega)]
    · rw [wrap_id (x := (bd l (s : Int) (l.length - 1)).2.1 - (bd l (s : Int) (l.length - 1)).1) (by omega) (by omega), wrap_id (x := (bd l (s : Int) (l.length - 1)).2.2.2 - (bd l (s : Int) (l.length - 1)).2.2.1) (by omega) (by omega)]
      simp only [scanScale]
      rw [show fitsAt l c r (s : Int) = (decide ((bd l (s : Int) (l.length - 1)).2.1 - (bd l (s : Int) (l.length - 1)).1 < c) && decide ((bd l (s : Int) (l.length - 1)).2.2.2 - (bd l (s : Int) (l.length - 1)).2.2.1 < r)) from rfl]
      by_cases c1 : (bd l (s : Int) (l.length - 1)).2.1 - (bd l (s : Int) (l.length - 1)).1 < c
      · rw [decide_eq_true c1, Bool.true_and]
        refine Ev.ite_pos c1 ?_
        by_cases c2 : (bd l (s : Int) (l.length - 1)).2.2.2 - (bd l (s : Int) (l.length - 1)).2.2.1 < r
        · rw [decide_eq_true c2, if_pos rfl]
          exact Ev.ite_pos c2 (Ev.now _)
        · rw [decide_eq_false c2, if_neg (by decide)]
          exact Ev.ite_neg c2 hnext
      · rw [decide_eq_false c1, Bool.false_and, if_neg (by decide)]
        exact Ev.ite_neg c1 hnext
theorem implScale_loop {l : List S53} (h : okMarks l = true) (h0 : l.length ≠ 0) (c r : Int) : ∀ (d s : Nat), s + d = 501 → 1 ≤ s → Ev (fun k => impl_SmallestScale.l0 k l c r (s : Int)) (scanScale l c r d s) := by
  intro d
  induction d with
  | zero =>
    intro s hd h1
    refine Ev.step (f := fun _ => some (0, false)) (fun k => ?_) (Ev.now _)
    simp only [impl_SmallestScale.l0]
    rw [if_neg (by omega)]
  | succ d ih =>
    intro s hd h1
    have hs : 1 ≤ (s : Int) ∧ (s : Int) ≤ 500 := by omega
    have hnext := ih (s + 1) (by omega) (by omega)
    have hw : wrap64 ((s : Int) + 1) = ((s + 1 : Nat) : Int) := wrap_id (by omega) (by omega)
    refine Ev.step (f := fun k => (impl_newPlan.f k l (s : Int)).bind fun bt293 => (if bt293.2.2.2.2.1 ≤ c then (if bt293.2.2.2.2.2 ≤ r then (some ((s : Int), true)) else (impl_SmallestScale.l0 k l c r ((s + 1 : Nat) : Int))) else (impl_SmallestScale.l0 k l c r ((s + 1 : Nat) : Int)))) (fun k => ?_) (Ev.bind (newPlan_ev h h0 hs) ?_)
    · simp only [impl_SmallestScale.l0, hw]
      rw [if_pos (by omega)]
    · simp only [scanScale, planOf]
      rw [show fitsAt l c r (s : Int) = (decide ((bd l (s : Int) (l.length - 1)).2.1 - (bd l (s : Int) (l.length - 1)).1 < c) && decide ((bd l (s : Int) (l.length - 1)).2.2.2 - (bd l (s : Int) (l.length - 1)).2.2.1 < r)) from rfl]
      by_cases c1 : (bd l (s : Int) (l.length - 1)).2.1 - (bd l (s : Int) (l.length - 1)).1 < c
      · rw [decide_eq_true c1, Bool.true_and]
        refine Ev.ite_pos (by omega) ?_
        by_cases c2 : (bd l (s : Int) (l.length - 1)).2.2.2 - (bd l (s : Int) (l.length - 1)).2.2.1 < r
        · rw [decide_eq_true c2, if_pos rfl]
          exact Ev.ite_pos (by omega) (Ev.now _)
        · rw [decide_eq_false c2, if_neg (by decide)]
          exact Ev.ite_neg (by omega) hnext
      · rw [decide_eq_false c1, Bool.false_and, if_neg (by decide)]
        exact Ev.ite_neg (by omega) hnext
def scaleAns (l : List S53) (c r : Int) : Int × Bool := if okMarks l = true ∧ l.length ≠ 0 ∧ (1 ≤ c ∧ c ≤ 20) ∧ (1 ≤ r ∧ r ≤ 20) then scanScale l c r 500 1 else (0, false)
theorem specScale_ev (l : List S53) (c r : Int) (hm : l.length ≤ 9223372036854775807) : Ev (fun k => spec_SmallestScale.f k l c r) (scaleAns l c r) := by
  have hno : Ev (fun k => spec_SmallestScale.j0 k l c r true) (0, false) := Ev.step (f := fun _ => some (0, false)) (fun k => by simp only [spec_SmallestScale.j0, if_true]) (Ev.now _)
  simp only [spec_SmallestScale.f, l1In_eq, Option.bind_some]
  refine Ev.bind (l13Good_ev l hm) ?_
  unfold scaleAns
  by_cases h : okMarks l = true
  · refine Ev.ite_pos h ?_
    by_cases h0 : l.length = 0
    · rw [if_neg (fun hh => hh.2.1 h0)]
      exact Ev.ite_pos (by omega) hno
    · refine Ev.ite_neg (by omega) ?_
      by_cases hc : 1 ≤ c ∧ c ≤ 20
      · refine Ev.ite_pos (decide_eq_true hc) ?_
        by_cases hr : 1 ≤ r ∧ r ≤ 20
        · rw [if_pos ⟨h, h0, hc, hr⟩, decide_eq_true hr, Bool.not_true]
          exact Ev.step (f := fun k => spec_SmallestScale.l0 k l c r ((1 : Nat) : Int)) (fun k => by simp only [spec_SmallestScale.j0, Bool.false_eq_true, if_false]; rfl) (specScale_loop h h0 c r 500 1 (by omega) (by omega))
        · rw [if_neg (fun hh => hr hh.2.2.2), decide_eq_false hr, Bool.not_false]
          exact hno
      · rw [if_neg (fun hh => hc hh.2.2.1)]
        exact Ev.ite_neg (by simpa using hc) hno
  · rw [if_neg (fun hh => h hh.1)]
    exact Ev.ite_neg h hno
theorem implScale_ev (l : List S53) (c r : Int) (hm : l.length ≤ 9223372036854775807) : Ev (fun k => impl_SmallestScale.f k l c r) (scaleAns l c r) := by
  have hno : Ev (fun k => impl_SmallestScale.j0 k l c r true) (0, false) := Ev.step (f := fun _ => some (0, false)) (fun k => by simp only [impl_SmallestScale.j0, if_true]) (Ev.now _)
  simp only [impl_SmallestScale.f, within_eq, Option.bind_some]
  refine Ev.bind (areMarks_ev l hm) ?_
  unfold scaleAns
  by_cases h : okMarks l = true
  · refine Ev.ite_pos h ?_
    by_cases h0 : l.length = 0
    · rw [if_neg (fun hh => hh.2.1 h0)]
      exact Ev.ite_pos (by omega) hno
    · refine Ev.ite_neg (by omega) ?_
      by_cases hc : 1 ≤ c ∧ c ≤ 20
      · refine Ev.ite_pos (decide_eq_true hc) ?_
        by_cases hr : 1 ≤ r ∧ r ≤ 20
        · rw [if_pos ⟨h, h0, hc, hr⟩, decide_eq_true hr, Bool.not_true]
          exact Ev.step (f := fun k => impl_SmallestScale.l0 k l c r ((1 : Nat) : Int)) (fun k => by simp only [impl_SmallestScale.j0, Bool.false_eq_true, if_false]; rfl) (implScale_loop h h0 c r 500 1 (by omega) (by omega))
        · rw [if_neg (fun hh => hr hh.2.2.2), decide_eq_false hr, Bool.not_false]
          exact hno
      · rw [if_neg (fun hh => hc hh.2.2.1)]
        exact Ev.ite_neg (by simpa using hc) hno
  · rw [if_neg (fun hh => h hh.1)]
    exact Ev.ite_neg h hno
end Go.Proofs.Ytcajkofblleanaa.Pure
