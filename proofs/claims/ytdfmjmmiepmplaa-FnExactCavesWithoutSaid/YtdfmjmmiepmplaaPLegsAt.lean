/- The legs at a station; the stations that a leg leads to. -/
import Derived.Test.YtdfmjmmiepmplaaMBx7
import Derived.Test.YtdfmjmmiepmplaaMBx5
import Derived.Test.YtdfmjmmiepmplaaPReachB
namespace Go.Proofs.Ytdfmjmmiepmplaa.Pure
open Go.RowKit Go.Proofs.Ytdfmjmmiepmplaa.MB Go.Proofs.YtdfmjmmiepmplaaW.PrintWords Go.Proofs.YtdfmjmmiepmplaaW.PrintLast Go.Proofs.YtdfmjmmiepmplaaW.PrintMore
set_option linter.unusedVariables false
set_option linter.unusedSimpArgs false
def touches (l : List S69) (s : Int) (i : Nat) : Bool := decide (fromOf l i = s) || decide (toOf l i = s)
def legsAtL (l : List S69) (s : Int) : List Int := ((List.range' 0 l.length).filter (touches l s)).map (fun j : Nat => (j : Int))
theorem legsAt_loop {l : List S69} (h12 : l.length ≤ 12) (s : Int) : ∀ d i (acc : List Int), i + d = l.length → acc.length ≤ i → Ev (fun k => impl_legsAt.l0 k s acc l (l.length : Int) (i : Int)) (acc ++ ((List.range' i d).filter (touches l s)).map (fun j : Nat => (j : Int))) := by
  intro d
  induction d with
  | zero =>
    intro i acc hi _
    refine Ev.step (f := fun _ => some acc) (fun k => ?_) (by simpa using Ev.now acc)
    simp only [impl_legsAt.l0]
    rw [if_neg (by omega)]
  | succ d ih =>
    intro i acc hi ha
    have hil : i < l.length := by omega
    have hwr : wrap64 ((i : Int) + 1) = ((i + 1 : Nat) : Int) := by unfold wrap64; omega
    rw [List.range'_succ, List.filter_cons]
    by_cases h1 : fromOf l i = s
    · rw [show touches l s i = true by simp [touches, h1], if_pos rfl, List.map_cons, List.append_cons]
      refine Ev.step (fun k => ?_) (ih (i + 1) (acc ++ [(i : Int)]) (by omega) (by simp; omega))
      simp only [impl_legsAt.l0, rdL, hwr]
      rw [if_pos (by omega), if_pos (by omega), if_pos (by omega), if_pos (show (l.getD i z69).f0 = s from h1), if_pos (by omega)]
    · by_cases h2 : toOf l i = s
      · rw [show touches l s i = true by simp [touches, h2], if_pos rfl, List.map_cons, List.append_cons]
        refine Ev.step (fun k => ?_) (ih (i + 1) (acc ++ [(i : Int)]) (by omega) (by simp; omega))
        simp only [impl_legsAt.l0, rdL, hwr]
        rw [if_pos (by omega), if_pos (by omega), if_pos (by omega), if_neg (show ¬ (l.getD i z69).f0 = s from h1), if_pos (show (l.getD i z69).f1 = s from h2), if_pos (by omega)]
      · rw [show touches l s i = false by simp [touches, h1, h2], if_neg (by decide)]
        refine Ev.step (fun k => ?_) (ih (i + 1) acc (by omega) (by omega))
        simp only [impl_legsAt.l0, rdL, hwr]
        rw [if_pos (by omega), if_pos (by omega), if_pos (by omega), if_neg (show ¬ (l.getD i z69).f0 = s from h1), if_neg (show ¬ (l.getD i z69).f1 = s from h2)]
theorem legsAt_ev {l : List S69} (h12 : l.length ≤ 12) (s : Int) : Ev (fun k => impl_legsAt.f k l s) (legsAtL l s) := by
  have h := legsAt_loop h12 s l.length 0 [] (by omega) (by simp)
  rw [List.nil_append] at h
  simp only [impl_legsAt.f]
  exact h
def usedB (l : List S69) (s : Int) : Bool := (List.range' 0 l.length).any (touches l s)
theorem used_loop {l : List S69} (h12 : l.length ≤ 12) (s : Int) : ∀ d i, i + d = l.length → Ev (fun k => spec_l17Used.l0 k l s (i : Int)) ((List.range' i d).any (touches l s)) := by
  intro d
  induction d with
  | zero =>
    intro i hi
    refine Ev.step (f := fun _ => some false) (fun k => ?_) (by simpa using Ev.now false)
    simp only [spec_l17Used.l0]
    rw [if_neg (by omega)]
  | succ d ih =>
    intro i hi
    have hil : i < l.length := by omega
    have hwr : wrap64 ((i : Int) + 1) = ((i + 1 : Nat) : Int) := by unfold wrap64; omega
    rw [List.range'_succ, List.any_cons]
    by_cases h1 : fromOf l i = s
    · rw [show touches l s i = true by simp [touches, h1], Bool.true_or]
      refine Ev.step (f := fun _ => some true) (fun k => ?_) (Ev.now _)
      simp only [spec_l17Used.l0, rdL]
      rw [if_pos (by omega), if_pos (by omega), if_pos (show (l.getD i z69).f0 = s from h1)]
    · by_cases h2 : toOf l i = s
      · rw [show touches l s i = true by simp [touches, h2], Bool.true_or]
        refine Ev.step (f := fun _ => some true) (fun k => ?_) (Ev.now _)
        simp only [spec_l17Used.l0, rdL]
        rw [if_pos (by omega), if_pos (by omega), if_neg (show ¬ (l.getD i z69).f0 = s from h1), if_pos (show (l.getD i z69).f1 = s from h2)]
      · rw [show touches l s i = false by simp [touches, h1, h2], Bool.false_or]
        refine Ev.step (fun k => ?_) (ih (i + 1) (by omega))
        simp only [spec_l17Used.l0, rdL, hwr]
        rw [if_pos (by omega), if_pos (by omega), if_neg (show ¬ (l.getD i z69).f0 = s from h1), if_neg (show ¬ (l.getD i z69).f1 = s from h2)]
theorem used_ev {l : List S69} (h12 : l.length ≤ 12) (s : Int) : Ev (fun k => spec_l17Used.f k l s) (usedB l s) := by
  have h := used_loop h12 s l.length 0 (by omega)
  simp only [spec_l17Used.f]
  exact h
theorem used_iff {l : List S69} {s : Int} : usedB l s = true ↔ ∃ i, i < l.length ∧ (fromOf l i = s ∨ toOf l i = s) := by
  simp [usedB, touches, List.any_eq_true, List.mem_range'_1]
theorem legsAt_none {l : List S69} {s : Int} : (legsAtL l s).length = 0 ↔ usedB l s = false := by
  rw [legsAtL, List.length_map, List.length_eq_zero_iff, List.filter_eq_nil_iff, usedB, List.any_eq_false]
end Go.Proofs.Ytdfmjmmiepmplaa.Pure
