/- The marks that a plan does not show: the program's and the reference's answers. -/
import Derived.Test.YtckidmhkhlbkeaaMAx8
import Derived.Test.YtckidmhkhlbkeaaPPlanAt
namespace Go.Proofs.Ytckidmhkhlbkeaa.Pure
open Go.RowKit Go.Proofs.Ytckidmhkhlbkeaa.MA Go.Proofs.YtckidmhkhlbkeaaW.PrintWords Go.Proofs.YtckidmhkhlbkeaaW.PrintLast Go.Proofs.YtckidmhkhlbkeaaW.PrintMore
set_option linter.unusedVariables false
set_option linter.unusedSimpArgs false
def hiddenAns (l : List M13) (s : Int) : List ByteArray × Bool := if (mayFit l s && fits20 l s) = true then (pl_hidden (planOf l s) l, true) else ([], false)
theorem hiddenAns_len (l : List M13) (s : Int) : (hiddenAns l s).1.length ≤ 12 := by
  unfold hiddenAns
  by_cases h : (mayFit l s && fits20 l s) = true
  · rw [if_pos h]
    rw [Bool.and_eq_true] at h
    have := okMarks_len (mayFit_says h.1).1
    exact Nat.le_trans (pl_hidden_len _ _) this
  · rw [if_neg h]; simp
theorem implHidden_ev (l : List M13) (s : Int) (hm : l.length ≤ 9223372036854775807) : Ev (fun k => impl_HiddenMarks.f k l s) (hiddenAns l s) := by
  unfold impl_HiddenMarks.f
  refine Ev.bind (implPlanOf_ev l s hm) ?_
  refine Ev.eq (fun _ => ?_)
  by_cases h : mayFit l s = true
  · rw [if_pos h]
    simp only [impl_HiddenMarks.of, fits20_plan]
    by_cases h2 : fits20 l s = true
    · have h12 := okMarks_len (mayFit_says h).1
      rw [if_pos h2, if_pos (by simp only [Bool.and_eq_true, List.all_eq_true, decide_eq_true_eq]; exact ⟨plan_fit h h2, fun m hm => plan_good h hm, by omega⟩), hiddenAns, if_pos (by rw [h, h2]; rfl)]
    · rw [if_neg h2, hiddenAns, if_neg (by simp [h, h2])]
  · rw [if_neg h]
    simp only [impl_HiddenMarks.of]
    rw [hiddenAns, if_neg (by simp [h])]
/-- A mark is hidden where the reference's letter is another. -/
theorem hides_spec {l : List M13} {s : Int} (h : mayFit l s = true) (h2 : fits20 l s = true) {m : M13} (hm : m ∈ l) : pl_hides (planOf l s) m = true ↔ (at13 l s (m.f1 / s) (m.f2 / s)).toList ≠ m.f0.toList := by
  obtain ⟨ho, hs, h0⟩ := mayFit_says h
  obtain ⟨h5, _⟩ := okMarks_mem ho hm
  have hb := bd_mem s hm
  simp only [okLetter, Bool.and_eq_true, decide_eq_true_eq] at h5
  obtain ⟨b, hbl, e⟩ := one_letter h5.1
  have hx : (bd l s (l.length - 1)).1 + (((m.f1 / s - (bd l s (l.length - 1)).1).toNat : Nat) : Int) = m.f1 / s := by omega
  have hy : (bd l s (l.length - 1)).2.2.2 - ((((bd l s (l.length - 1)).2.2.2 - m.f2 / s).toNat : Nat) : Int) = m.f2 / s := by omega
  have hat := at13_byte h (m.f1 / s - (bd l s (l.length - 1)).1).toNat ((bd l s (l.length - 1)).2.2.2 - m.f2 / s).toNat
  rw [hx, hy] at hat
  have hr : 0 ≤ pl_at (pl_X (planOf l s)) (pl_Y (planOf l s)) l ((bd l s (l.length - 1)).2.2.2 - m.f2 / s).toNat (m.f1 / s - (bd l s (l.length - 1)).1).toNat ∧ pl_at (pl_X (planOf l s)) (pl_Y (planOf l s)) l ((bd l s (l.length - 1)).2.2.2 - m.f2 / s).toNat (m.f1 / s - (bd l s (l.length - 1)).1).toNat ≤ 255 := by
    unfold pl_at
    split
    · exact bt_range _ _
    · omega
  unfold pl_hides
  rw [plan_X h hm, plan_Y h hm, ByteArray.toList_eq, hat, hbl, e, decide_eq_true_eq]
  rw [show (planOf l s).1 = l from rfl]
  generalize pl_at (pl_X (planOf l s)) (pl_Y (planOf l s)) l ((bd l s (l.length - 1)).2.2.2 - m.f2 / s).toNat (m.f1 / s - (bd l s (l.length - 1)).1).toNat = v at hr
  have hb2 := b.toNat_lt
  constructor
  · intro h1 h3
    apply h1
    have h4 := congrArg UInt8.toNat (List.cons.inj h3).1
    simp only [UInt8.toNat_ofNat'] at h4
    omega
  · intro h1 h3
    apply h1
    rw [h3]
    simp
theorem specHidden_loop {l : List M13} {s : Int} (h : mayFit l s = true) (h2 : fits20 l s = true) : ∀ (d i : Nat), i + d = l.length → Ev (fun k => spec_HiddenMarks.l0 k l s (pl_hidden (planOf l s) (l.take i)) (i : Int)) (pl_hidden (planOf l s) l, true) := by
  obtain ⟨ho, hs, h0⟩ := mayFit_says h
  have h12 := okMarks_len ho
  intro d
  induction d with
  | zero =>
    intro i hi
    obtain rfl : i = l.length := by omega
    refine Ev.step (f := fun _ => some (pl_hidden (planOf l s) l, true)) (fun k => ?_) (Ev.now _)
    simp only [spec_HiddenMarks.l0]
    rw [if_neg (by omega), List.take_length]
  | succ d ih =>
    intro i hi
    have hil : i < l.length := by omega
    have h1 := okMarks_at ho hil
    have hw := wrap_up hil (by omega)
    have hg : l.getD i z44 = l[i] := getD_lt _ _ _ hil
    have hlen := pl_hidden_len (planOf l s) (l.take i)
    rw [List.length_take] at hlen
    have hsp := hides_spec h h2 (List.getElem_mem hil)
    rw [← hg] at hsp
    have ih' := ih (i + 1) (by omega)
    rw [pl_hidden_take _ _ _ hil, ← hg] at ih'
    refine Ev.step (fun k => by rw [spec_HiddenMarks.l0]) ?_
    refine Ev.ite_pos (by omega) (Ev.ite_pos (by omega) ?_)
    simp only [rdM, square_eq ⟨h1.1, h1.2.1⟩ hs, square_eq ⟨h1.2.2.1, h1.2.2.2⟩ hs, Option.bind_some, hw]
    refine Ev.bind (specAt_ev ho hs _ _) ?_
    by_cases hh : pl_hides (planOf l s) (l.getD i z44) = true
    · rw [if_pos hh] at ih'
      exact Ev.ite_neg (hsp.1 hh) (Ev.ite_pos (by omega) ih')
    · rw [if_neg hh] at ih'
      exact Ev.ite_pos (Decidable.byContradiction (fun hc => hh (hsp.2 hc))) ih'
theorem specHidden_ev (l : List M13) (s : Int) (hm : l.length ≤ 9223372036854775807) : Ev (fun k => spec_HiddenMarks.f k l s) (hiddenAns l s) := by
  unfold spec_HiddenMarks.f
  simp only [Option.bind_some]
  refine Ev.bind (specFits_ev l s hm) ?_
  by_cases h : (mayFit l s && fits20 l s) = true
  · have h' := h
    rw [Bool.and_eq_true] at h'
    rw [hiddenAns, if_pos h]
    exact Ev.ite_pos h (specHidden_loop h'.1 h'.2 l.length 0 (Nat.zero_add _))
  · rw [hiddenAns, if_neg h]
    exact Ev.ite_neg h (Ev.now _)
end Go.Proofs.Ytckidmhkhlbkeaa.Pure
