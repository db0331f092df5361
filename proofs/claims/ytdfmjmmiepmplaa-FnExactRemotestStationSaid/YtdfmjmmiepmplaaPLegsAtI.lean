/- The legs at a station. -/
import Derived.Test.YtdfmjmmiepmplaaMTx4
import Derived.Test.YtdfmjmmiepmplaaPLegs
namespace Go.Proofs.Ytdfmjmmiepmplaa.Pure
open Go.RowKit Go.Proofs.Ytdfmjmmiepmplaa.MT Go.Proofs.YtdfmjmmiepmplaaW.PrintWords Go.Proofs.YtdfmjmmiepmplaaW.PrintLast Go.Proofs.YtdfmjmmiepmplaaW.PrintMore
set_option linter.unusedVariables false
set_option linter.unusedSimpArgs false
def touches (l : List S69) (s : Int) (i : Nat) : Bool := decide (fromOf l i = s) || decide (toOf l i = s)
def legsAtL (l : List S69) (s : Int) : List Int := ((List.range' 0 l.length).filter (touches l s)).map (fun j : Nat => (j : Int))
theorem legsAt_loop {l : List S69} (h12 : l.length ≤ 12) (s : Int) : ∀ d i (acc : List Int), i + d = l.length → acc.length ≤ i → Ev (fun k => impl_legsAt.l0 k s acc l (l.length : Int) (i : Int)) (acc ++ ((List.range' i d).filter (touches l s)).map (fun j : Nat => (j : Int))) := by
  intro d
  induction d with
  | zero =>
    intro i acc hi _
    refine Ev.step (f := fun _ => some acc) (fun k => ?_) (by simpa using Ev.now acc)
    simp only [impl_legsAt.l0]
    rw [if_neg (by omega)]
  | succ d ih =>
    intro i acc hi ha
    have hil : i < l.length := by omega
    have hwr : wrap64 ((i : Int) + 1) = ((i + 1 : Nat) : Int) := by unfold wrap64; omega
    rw [List.range'_succ, List.filter_cons]
    by_cases h1 : fromOf l i = s
    · rw [show touches l s i = true by simp [touches, h1], if_pos rfl, List.map_cons, List.append_cons]
      refine Ev.step (fun k => ?_) (ih (i + 1) (acc ++ [(i : Int)]) (by omega) (by simp; omega))
      simp only [impl_legsAt.l0, rdL, hwr]
      rw [if_pos (by omega), if_pos (by omega), if_pos (by omega), if_pos (show (l.getD i z69).f0 = s from h1), if_pos (by omega)]
    · by_cases h2 : toOf l i = s
      · rw [show touches l s i = true by simp [touches, h2], if_pos rfl, List.map_cons, List.append_cons]
        refine Ev.step (fun k => ?_) (ih (i + 1) (acc ++ [(i : Int)]) (by omega) (by simp; omega))
        simp only [impl_legsAt.l0, rdL, hwr]
        rw [if_pos (by omega), if_pos (by omega), if_pos (by omega), if_neg (show ¬ (l.getD i z69).f0 = s from h1), if_pos (show (l.getD i z69).f1 = s from h2), if_pos (by omega)]
      · rw [show touches l s i = false by simp [touches, h1, h2], if_neg (by decide)]
        refine Ev.step (fun k => ?_) (ih (i + 1) acc (by omega) (by omega))
        simp only [impl_legsAt.l0, rdL, hwr]
        rw [if_pos (by omega), if_pos (by omega), if_pos (by omega), if_neg (show ¬ (l.getD i z69).f0 = s from h1), if_neg (show ¬ (l.getD i z69).f1 = s from h2)]
theorem legsAt_ev {l : List S69} (h12 : l.length ≤ 12) (s : Int) : Ev (fun k => impl_legsAt.f k l s) (legsAtL l s) := by
  have h := legsAt_loop h12 s l.length 0 [] (by omega) (by simp)
  rw [List.nil_append] at h
  simp only [impl_legsAt.f]
  exact h
end Go.Proofs.Ytdfmjmmiepmplaa.Pure
