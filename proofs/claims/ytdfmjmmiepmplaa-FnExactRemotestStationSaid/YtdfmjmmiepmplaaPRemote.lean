/- The remotest station: both answers. -/
import Derived.Test.YtdfmjmmiepmplaaMTx7
import Derived.Test.YtdfmjmmiepmplaaPStepsAns
namespace Go.Proofs.Ytdfmjmmiepmplaa.Pure
open Go.RowKit Go.Proofs.Ytdfmjmmiepmplaa.MT Go.Proofs.YtdfmjmmiepmplaaW.PrintWords Go.Proofs.YtdfmjmmiepmplaaW.PrintLast Go.Proofs.YtdfmjmmiepmplaaW.PrintMore
set_option linter.unusedVariables false
set_option linter.unusedSimpArgs false
def farFrom (s : List Int) : Nat → Nat → Nat → Nat
  | 0, _, b => b
  | d + 1, i, b => farFrom s d (i + 1) (if rd s (i : Int) > rd s (b : Int) then i else b)
theorem farFrom_lt {s : List Int} : ∀ d i b, b < i → farFrom s d i b < i + d
  | 0, i, b, h => by simpa [farFrom] using h
  | d + 1, i, b, h => by
    simp only [farFrom]
    have := farFrom_lt (s := s) d (i + 1) (if rd s (i : Int) > rd s (b : Int) then i else b) (by split <;> omega)
    omega
theorem implFar_loop {s : List Int} (h8 : s.length = 8) : ∀ d i b : Nat, i + d = 8 → b < i → Ev (fun k => impl_RemotestStation.l0 k (b : Int) (rd s (b : Int)) s (s.length : Int) (i : Int)) (((farFrom s d i b : Nat) : Int), rd s ((farFrom s d i b : Nat) : Int), true) := by
  intro d
  induction d with
  | zero =>
    intro i b hi hb
    refine Ev.step (f := fun _ => some ((b : Int), rd s (b : Int), true)) (fun k => ?_) (Ev.now _)
    simp only [impl_RemotestStation.l0]
    rw [if_neg (by omega)]
  | succ d ih =>
    intro i b hi hb
    have hw : wrap64 ((i : Int) + 1) = ((i + 1 : Nat) : Int) := wrap_up (show i < 8 by omega) (by decide)
    simp only [farFrom]
    by_cases h : rd s (i : Int) > rd s (b : Int)
    · rw [if_pos h]
      refine Ev.step (fun k => ?_) (ih (i + 1) i (by omega) (by omega))
      simp only [impl_RemotestStation.l0, hw]
      rw [if_pos (by omega), if_pos (by omega), if_pos (by omega), if_pos h]
    · rw [if_neg h]
      refine Ev.step (fun k => ?_) (ih (i + 1) b (by omega) (by omega))
      simp only [impl_RemotestStation.l0, hw]
      rw [if_pos (by omega), if_pos (by omega), if_pos (by omega), if_neg h]
theorem specFar_loop {s : List Int} (h8 : s.length = 8) : ∀ d i b : Nat, i + d = 8 → b < i → Ev (fun k => spec_RemotestStation.l0 k s (b : Int) (i : Int)) (((farFrom s d i b : Nat) : Int), rd s ((farFrom s d i b : Nat) : Int), true) := by
  intro d
  induction d with
  | zero =>
    intro i b hi hb
    refine Ev.step (f := fun _ => some ((b : Int), rd s (b : Int), true)) (fun k => ?_) (Ev.now _)
    simp only [spec_RemotestStation.l0]
    rw [if_neg (by omega), if_pos (by omega), if_pos (by omega)]
  | succ d ih =>
    intro i b hi hb
    have hw : wrap64 ((i : Int) + 1) = ((i + 1 : Nat) : Int) := wrap_up (show i < 8 by omega) (by decide)
    simp only [farFrom]
    by_cases h : rd s (i : Int) > rd s (b : Int)
    · rw [if_pos h]
      refine Ev.step (fun k => ?_) (ih (i + 1) i (by omega) (by omega))
      simp only [spec_RemotestStation.l0, hw]
      rw [if_pos (by omega), if_pos (by omega), if_pos (by omega), if_pos (by omega), if_pos h]
    · rw [if_neg h]
      refine Ev.step (fun k => ?_) (ih (i + 1) b (by omega) (by omega))
      simp only [spec_RemotestStation.l0, hw]
      rw [if_pos (by omega), if_pos (by omega), if_pos (by omega), if_pos (by omega), if_neg h]
def farAt (s : List Int) : Int × Int × Bool := (((farFrom s 7 1 0 : Nat) : Int), rd s ((farFrom s 7 1 0 : Nat) : Int), true)
noncomputable def remAns (l : List S69) (e : List Int) : Int × Int × Bool := if (okLegs l && okEnts e) = true ∧ e.length ≠ 0 then farAt (distOf l e) else (0, 0, false)
theorem implRem_ev (l : List S69) (e : List Int) (hm : l.length ≤ 9223372036854775807) (he : e.length ≤ 1048576) : Ev (fun k => impl_RemotestStation.f k l e) (remAns l e) := by
  simp only [impl_RemotestStation.f]
  refine Ev.bind (areEnts_ev l e hm he) ?_
  unfold remAns
  by_cases h : (okLegs l && okEnts e) = true
  · refine Ev.ite_pos h ?_
    by_cases h0 : e.length = 0
    · rw [if_neg (fun hh => hh.2 h0), show ((e.length : Int) == 0) = true by rw [h0]; rfl]
      refine Ev.step (f := fun _ => some (0, 0, false)) (fun k => ?_) (Ev.now _)
      simp only [impl_RemotestStation.j0, if_true]
    · rw [if_pos ⟨h, h0⟩, show ((e.length : Int) == 0) = false by rw [beq_eq_false_iff_ne]; omega]
      have h2 := h
      rw [Bool.and_eq_true] at h2
      have hd := distOf_is h2.1 h2.2
      have h8 := hd.len
      refine Ev.step (f := fun k => (impl_stepsFrom.f k l e).bind fun t => impl_RemotestStation.l0 k 0 (-1) t (t.length : Int) 0) (fun k => by simp only [impl_RemotestStation.j0, Bool.false_eq_true, if_false]) (Ev.bind (stepsFrom_ev h2.1 h2.2) ?_)
      have hl := implFar_loop h8 7 1 0 (by omega) (by omega)
      refine Ev.step (fun k => ?_) hl
      simp only [impl_RemotestStation.l0]
      rw [if_pos (by omega), if_pos (by omega), if_pos (by omega)]
      have hw : wrap64 ((0 : Int) + 1) = ((1 : Nat) : Int) := wrap_id (by decide) (by decide)
      rw [hw]
      rcases hd.at_ 0 (by omega) (by omega) with ⟨e1, _⟩ | ⟨n, _, e1, _⟩
      · rw [if_neg (by omega), show rd (distOf l e) ((0 : Nat) : Int) = -1 from e1]
        rfl
      · rw [if_pos (by omega)]
        rfl
  · rw [if_neg (fun hh => h hh.1)]
    refine Ev.ite_neg h ?_
    refine Ev.step (f := fun _ => some (0, 0, false)) (fun k => ?_) (Ev.now _)
    simp only [impl_RemotestStation.j0, if_true]
theorem specRem_ev (l : List S69) (e : List Int) (hm : l.length ≤ 9223372036854775807) (he : e.length ≤ 1048576) : Ev (fun k => spec_RemotestStation.f k l e) (remAns l e) := by
  simp only [spec_RemotestStation.f]
  refine Ev.bind (asked_ev l e hm he) ?_
  unfold remAns
  by_cases h : (okLegs l && okEnts e) = true
  · refine Ev.ite_pos h ?_
    by_cases h0 : e.length = 0
    · rw [if_neg (fun hh => hh.2 h0), show ((e.length : Int) == 0) = true by rw [h0]; rfl]
      refine Ev.step (f := fun _ => some (0, 0, false)) (fun k => ?_) (Ev.now _)
      simp only [spec_RemotestStation.j0, if_true]
    · rw [if_pos ⟨h, h0⟩, show ((e.length : Int) == 0) = false by rw [beq_eq_false_iff_ne]; omega]
      have h2 := h
      rw [Bool.and_eq_true] at h2
      have hd := distOf_is h2.1 h2.2
      refine Ev.step (f := fun k => (spec_l17Steps.f k l e).bind fun t => spec_RemotestStation.l0 k t 0 1) (fun k => by simp only [spec_RemotestStation.j0, Bool.false_eq_true, if_false]) (Ev.bind (l17Steps_ev h2.1 h2.2 hd) ?_)
      exact specFar_loop hd.len 7 1 0 (by omega) (by omega)
  · rw [if_neg (fun hh => h hh.1)]
    refine Ev.ite_neg h ?_
    refine Ev.step (f := fun _ => some (0, 0, false)) (fun k => ?_) (Ev.now _)
    simp only [spec_RemotestStation.j0, if_true]
end Go.Proofs.Ytdfmjmmiepmplaa.Pure
