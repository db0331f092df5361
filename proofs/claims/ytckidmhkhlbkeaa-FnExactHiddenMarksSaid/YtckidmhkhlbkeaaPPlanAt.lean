/- What a plan shows at a place, and that each mark lies in its plan. -/
import Derived.Test.YtckidmhkhlbkeaaMAx3
import Derived.Test.YtckidmhkhlbkeaaMAx5
import Derived.Test.YtckidmhkhlbkeaaMAx7
import Derived.Test.YtckidmhkhlbkeaaPPlanOf
namespace Go.Proofs.Ytckidmhkhlbkeaa.Pure
open Go.RowKit Go.Proofs.Ytckidmhkhlbkeaa.MA Go.Proofs.YtckidmhkhlbkeaaW.PrintWords Go.Proofs.YtckidmhkhlbkeaaW.PrintLast Go.Proofs.YtckidmhkhlbkeaaW.PrintMore
set_option linter.unusedVariables false
set_option linter.unusedSimpArgs false
abbrev M13 := S44
theorem okMarks_let {l : List M13} (h : okMarks l = true) {i : Nat} (hi : i < l.length) : okLetter (l.getD i z44).f0 = true := by
  have h1 := (okMarks_says l l.length 0 (by omega) h).2 i (by omega) hi
  simp only [okMark, Bool.and_eq_true] at h1
  exact h1.1
theorem okMarks_mem {l : List M13} (h : okMarks l = true) {m : M13} (hm : m ∈ l) : okLetter m.f0 = true ∧ -1000 ≤ m.f1 ∧ m.f1 ≤ 1000 ∧ -1000 ≤ m.f2 ∧ m.f2 ≤ 1000 := by
  obtain ⟨i, hi, e⟩ := List.getElem_of_mem hm
  have e2 : l.getD i z44 = m := by rw [getD_lt _ _ _ hi, e]
  have h1 := okMarks_let h hi
  have h2 := okMarks_at h hi
  rw [e2] at h1 h2
  exact ⟨h1, h2⟩
theorem find_congr {α : Type} {p q : α → Bool} : ∀ {l : List α}, (∀ m, m ∈ l → p m = q m) → l.find? p = l.find? q
  | [], _ => rfl
  | a :: l, h => by
    rw [List.find?_cons, List.find?_cons, h a List.mem_cons_self, find_congr (l := l) (fun m hm => h m (List.mem_cons_of_mem _ hm))]
theorem bd_holds (l : List M13) (s : Int) : ∀ j i, i ≤ j → (bd l s j).1 ≤ (l.getD i z44).f1 / s ∧ (l.getD i z44).f1 / s ≤ (bd l s j).2.1 ∧ (bd l s j).2.2.1 ≤ (l.getD i z44).f2 / s ∧ (l.getD i z44).f2 / s ≤ (bd l s j).2.2.2
  | 0, i, h => by
    obtain rfl : i = 0 := by omega
    simp [bd]
  | j + 1, i, h => by
    simp only [bd]
    by_cases hi : i = j + 1
    · subst hi
      exact ⟨Int.min_le_right _ _, Int.le_max_right _ _, Int.min_le_right _ _, Int.le_max_right _ _⟩
    · have ih := bd_holds l s j i (by omega)
      exact ⟨Int.le_trans (Int.min_le_left _ _) ih.1, Int.le_trans ih.2.1 (Int.le_max_left _ _), Int.le_trans (Int.min_le_left _ _) ih.2.2.1, Int.le_trans ih.2.2.2 (Int.le_max_left _ _)⟩
theorem bd_mem {l : List M13} (s : Int) {m : M13} (hm : m ∈ l) : (bd l s (l.length - 1)).1 ≤ m.f1 / s ∧ m.f1 / s ≤ (bd l s (l.length - 1)).2.1 ∧ (bd l s (l.length - 1)).2.2.1 ≤ m.f2 / s ∧ m.f2 / s ≤ (bd l s (l.length - 1)).2.2.2 := by
  obtain ⟨i, hi, e⟩ := List.getElem_of_mem hm
  have h := bd_holds l s (l.length - 1) i (by omega)
  rwa [getD_lt _ _ _ hi, e] at h
theorem plan_sq {l : List M13} {s : Int} (h : mayFit l s = true) {m : M13} (hm : m ∈ l) : pl_sq (planOf l s) m = some (m.f1 / s - (bd l s (l.length - 1)).1, (bd l s (l.length - 1)).2.2.2 - m.f2 / s, (planOf l s).2) := by
  obtain ⟨ho, hs, h0⟩ := mayFit_says h
  obtain ⟨_, h1, h2, h3, h4⟩ := okMarks_mem ho hm
  have hb := bd_small ho hs (l.length - 1) (by omega)
  have d1 := small_div ⟨h1, h2⟩ hs
  have d2 := small_div ⟨h3, h4⟩ hs
  unfold pl_sq impl_plan_square.f planOf
  simp only [floorDiv_eq ⟨h1, h2⟩ hs, floorDiv_eq ⟨h3, h4⟩ hs, Option.bind_some]
  rw [wrap_id (by omega) (by omega), wrap_id (by omega) (by omega)]
theorem plan_X {l : List M13} {s : Int} (h : mayFit l s = true) {m : M13} (hm : m ∈ l) : pl_X (planOf l s) m = m.f1 / s - (bd l s (l.length - 1)).1 := by
  unfold pl_X
  rw [plan_sq h hm]
theorem plan_Y {l : List M13} {s : Int} (h : mayFit l s = true) {m : M13} (hm : m ∈ l) : pl_Y (planOf l s) m = (bd l s (l.length - 1)).2.2.2 - m.f2 / s := by
  unfold pl_Y
  rw [plan_sq h hm]
theorem plan_good {l : List M13} {s : Int} (h : mayFit l s = true) {m : M13} (hm : m ∈ l) : pl_good (planOf l s) m = true := by
  obtain ⟨ho, hs, h0⟩ := mayFit_says h
  obtain ⟨h5, _⟩ := okMarks_mem ho hm
  have hb := bd_mem s hm
  simp only [okLetter, Bool.and_eq_true, decide_eq_true_eq] at h5
  simp only [pl_good, Bool.and_eq_true, decide_eq_true_eq]
  rw [plan_X h hm, plan_Y h hm, plan_sq h hm]
  refine ⟨h5.1, rfl, by omega, ?_, by omega, ?_⟩
  · simp only [planOf]; omega
  · simp only [planOf]; omega
theorem plan_fit {l : List M13} {s : Int} (h : mayFit l s = true) (h2 : fits20 l s = true) : pl_fit (planOf l s) = true := by
  obtain ⟨ho, hs, h0⟩ := mayFit_says h
  have hne : l ≠ [] := fun e => h0 (by simp [e])
  have hb := bd_mem s (List.head_mem hne)
  simp only [fits20, Bool.and_eq_true, decide_eq_true_eq] at h2
  simp only [pl_fit, Bool.and_eq_true, decide_eq_true_eq, List.all_eq_true]
  refine ⟨?_, ?_, ?_, ?_, hne, fun m hm => plan_good h hm⟩ <;> simp only [planOf] <;> omega
/-- The reference's letter at a place. -/
def at13 (l : List M13) (s x y : Int) : ByteArray := match l.find? (fun m => decide (m.f2 / s = y) && decide (m.f1 / s = x)) with
  | some m => m.f0
  | none => ⟨#[46]⟩
theorem specAt_loop {l : List M13} (h : okMarks l = true) {s : Int} (hs : 1 ≤ s ∧ s ≤ 500) (x y : Int) : ∀ (d i : Nat), i + d = l.length → Ev (fun k => spec_l13At.l0 k l s x y (i : Int)) (at13 (l.drop i) s x y) := by
  have h12 := okMarks_len h
  intro d
  induction d with
  | zero =>
    intro i hi
    refine Ev.step (f := fun _ => some (at13 (l.drop i) s x y)) (fun k => ?_) (Ev.now _)
    simp only [spec_l13At.l0]
    rw [if_neg (by omega), List.drop_of_length_le (by omega)]
    rfl
  | succ d ih =>
    intro i hi
    have hil : i < l.length := by omega
    have h1 := okMarks_at h hil
    have hw := wrap_up hil (by omega)
    have hd : l.drop i = l.getD i z44 :: l.drop (i + 1) := by rw [getD_lt _ _ _ hil]; exact List.drop_eq_getElem_cons hil
    have hat : at13 (l.drop i) s x y = if (l.getD i z44).f1 / s = x then (if (l.getD i z44).f2 / s = y then (l.getD i z44).f0 else at13 (l.drop (i + 1)) s x y) else at13 (l.drop (i + 1)) s x y := by
      unfold at13
      rw [hd, List.find?_cons]
      by_cases c1 : (l.getD i z44).f1 / s = x <;> by_cases c2 : (l.getD i z44).f2 / s = y <;> simp only [c1, c2, if_true, if_false, decide_true, decide_false, Bool.and_true, Bool.and_false, Bool.true_and, Bool.false_and]
    by_cases c1 : (l.getD i z44).f1 / s = x
    · by_cases c2 : (l.getD i z44).f2 / s = y
      · rw [hat, if_pos c1, if_pos c2]
        refine Ev.step (f := fun _ => some (l.getD i z44).f0) (fun k => ?_) (Ev.now _)
        simp only [spec_l13At.l0, rdM, square_eq ⟨h1.1, h1.2.1⟩ hs, square_eq ⟨h1.2.2.1, h1.2.2.2⟩ hs, Option.bind_some]
        rw [if_pos (by omega), if_pos (by omega), if_pos c1, if_pos c2]
      · rw [hat, if_pos c1, if_neg c2]
        refine Ev.step (fun k => ?_) (ih (i + 1) (by omega))
        simp only [spec_l13At.l0, rdM, square_eq ⟨h1.1, h1.2.1⟩ hs, square_eq ⟨h1.2.2.1, h1.2.2.2⟩ hs, Option.bind_some, hw]
        rw [if_pos (by omega), if_pos (by omega), if_pos c1, if_neg c2]
    · rw [hat, if_neg c1]
      refine Ev.step (fun k => ?_) (ih (i + 1) (by omega))
      simp only [spec_l13At.l0, rdM, square_eq ⟨h1.1, h1.2.1⟩ hs, square_eq ⟨h1.2.2.1, h1.2.2.2⟩ hs, Option.bind_some, hw]
      rw [if_pos (by omega), if_pos (by omega), if_neg c1]
theorem specAt_ev {l : List M13} (h : okMarks l = true) {s : Int} (hs : 1 ≤ s ∧ s ≤ 500) (x y : Int) : Ev (fun k => spec_l13At.f k l s x y) (at13 l s x y) := specAt_loop h hs x y l.length 0 (by omega)
/-- The letter is one byte: the one that the plan shows. -/
theorem at13_byte {l : List M13} {s : Int} (h : mayFit l s = true) (x y : Nat) : (at13 l s ((bd l s (l.length - 1)).1 + (x : Int)) ((bd l s (l.length - 1)).2.2.2 - (y : Int))).data.toList = [UInt8.ofNat (pl_at (pl_X (planOf l s)) (pl_Y (planOf l s)) l y x).toNat] := by
  obtain ⟨ho, hs, h0⟩ := mayFit_says h
  have e : l.find? (fun m => decide (pl_Y (planOf l s) m = (y : Int)) && decide (pl_X (planOf l s) m = (x : Int))) = l.find? (fun m => decide (m.f2 / s = (bd l s (l.length - 1)).2.2.2 - (y : Int)) && decide (m.f1 / s = (bd l s (l.length - 1)).1 + (x : Int))) := by
    refine find_congr (fun m hm => ?_)
    rw [plan_X h hm, plan_Y h hm]
    congr 1 <;> rw [decide_eq_decide] <;> omega
  unfold at13 pl_at
  rw [e]
  cases hf : l.find? (fun m => decide (m.f2 / s = (bd l s (l.length - 1)).2.2.2 - (y : Int)) && decide (m.f1 / s = (bd l s (l.length - 1)).1 + (x : Int))) with
  | none => rfl
  | some m =>
    obtain ⟨h5, _⟩ := okMarks_mem ho (List.mem_of_find?_eq_some hf)
    simp only [okLetter, Bool.and_eq_true, decide_eq_true_eq] at h5
    obtain ⟨b, hb, e⟩ := one_letter h5.1
    simp only
    rw [← ByteArray.toList_eq, hb, e]
    simp
end Go.Proofs.Ytckidmhkhlbkeaa.Pure
