/- The text of a plan: the program's and the reference's answers. -/
import Derived.Test.YtckidmhkhlbkeaaMAx3
import Derived.Test.YtckidmhkhlbkeaaMAx7
import Derived.Test.YtckidmhkhlbkeaaPPlanAt
namespace Go.Proofs.Ytckidmhkhlbkeaa.Pure
open Go.RowKit Go.Proofs.Ytckidmhkhlbkeaa.MA Go.Proofs.YtckidmhkhlbkeaaW.PrintWords Go.Proofs.YtckidmhkhlbkeaaW.PrintLast Go.Proofs.YtckidmhkhlbkeaaW.PrintMore
set_option linter.unusedVariables false
set_option linter.unusedSimpArgs false
def planTextAns (l : List M13) (s : Int) : ByteArray × Bool := if (mayFit l s && fits20 l s) = true then (pl_text (planOf l s), true) else (⟨#[]⟩, false)
theorem implPlanText_ev (l : List M13) (s : Int) (hm : l.length ≤ 9223372036854775807) : Ev (fun k => impl_PlanText.f k l s) (planTextAns l s) := by
  unfold impl_PlanText.f
  refine Ev.bind (implPlanOf_ev l s hm) ?_
  refine Ev.eq (fun _ => ?_)
  by_cases h : mayFit l s = true
  · rw [if_pos h]
    simp only [impl_PlanText.of, fits20_plan]
    by_cases h2 : fits20 l s = true
    · rw [if_pos h2, if_pos (plan_fit h h2), planTextAns, if_pos (by rw [h, h2]; rfl)]
    · rw [if_neg h2, planTextAns, if_neg (by simp [h, h2])]
  · rw [if_neg h]
    simp only [impl_PlanText.of]
    rw [planTextAns, if_neg (by simp [h])]
theorem bytes_add (L : List UInt8) (b : ByteArray) : (⟨L.toArray⟩ : ByteArray) ++ b = ⟨(L ++ b.data.toList).toArray⟩ := by
  apply ByteArray.ext
  simp
theorem bytes_size (L : List UInt8) : (⟨L.toArray⟩ : ByteArray).size = L.length := by simp [ByteArray.size]
/-- The first j letters of a line. -/
def part13 (G : Nat → Nat → Int) (i j : Nat) : List UInt8 := (List.range j).map (fun x => UInt8.ofNat (G i x).toNat)
theorem part13_succ (G : Nat → Nat → Int) (i j : Nat) : part13 G i (j + 1) = part13 G i j ++ [UInt8.ofNat (G i j).toNat] := by simp [part13, List.range_succ]
theorem part13_len (G : Nat → Nat → Int) (i j : Nat) : (part13 G i j).length = j := by simp [part13]
def plG (l : List M13) (s : Int) : Nat → Nat → Int := pl_at (pl_X (planOf l s)) (pl_Y (planOf l s)) l
theorem specText_row {l : List M13} {s : Int} (h : mayFit l s = true) (cols : Nat) (hc : cols ≤ 20) (hcols : (bd l s (l.length - 1)).2.1 = (bd l s (l.length - 1)).1 + (cols : Int) - 1) (c : Int) (i : Nat) (hi : i ≤ 20) (L : List UInt8) (hL : L.length ≤ 1000) (R : ByteArray × Bool)
    (hR : Ev (fun k => spec_PlanText.l0 k l s (bd l s (l.length - 1)).1 (bd l s (l.length - 1)).2.1 c ⟨(L ++ (part13 (plG l s) i cols ++ [10])).toArray⟩ (wrap64 ((bd l s (l.length - 1)).2.2.2 - (i : Int) - 1))) R) :
    ∀ (d j : Nat), j + d = cols → Ev (fun k => spec_PlanText.l1 k l s (bd l s (l.length - 1)).1 (bd l s (l.length - 1)).2.1 c ⟨(L ++ part13 (plG l s) i j).toArray⟩ ((bd l s (l.length - 1)).2.2.2 - (i : Int)) ((bd l s (l.length - 1)).1 + (j : Int))) R := by
  obtain ⟨ho, hs, h0⟩ := mayFit_says h
  have hb := bd_small ho hs (l.length - 1) (by omega)
  intro d
  induction d with
  | zero =>
    intro j hj
    obtain rfl : j = cols := by omega
    refine Ev.step (fun k => ?_) hR
    simp only [spec_PlanText.l1]
    rw [if_neg (by omega), if_pos (by rw [bytes_size, List.length_append, part13_len]; omega), bytes_add, List.append_assoc]
  | succ d ih =>
    intro j hj
    have hw : wrap64 ((bd l s (l.length - 1)).1 + (j : Int) + 1) = (bd l s (l.length - 1)).1 + ((j + 1 : Nat) : Int) := by rw [wrap_id (by omega) (by omega)]; omega
    have hbt := at13_byte h j i
    have hsz : (at13 l s ((bd l s (l.length - 1)).1 + (j : Int)) ((bd l s (l.length - 1)).2.2.2 - (i : Int))).size = 1 := by
      rw [← ByteArray.size_data, ← Array.length_toList, hbt]; rfl
    refine Ev.step (fun k => by rw [spec_PlanText.l1]) ?_
    refine Ev.ite_pos (by omega) (Ev.bind (specAt_ev ho hs _ _) (Ev.ite_pos (by rw [bytes_size, List.length_append, part13_len, hsz]; omega) ?_))
    have ih' := ih (j + 1) (by omega)
    rw [part13_succ, ← List.append_assoc] at ih'
    simp only [bytes_add, hbt, hw]
    exact ih'
theorem specText_rows {l : List M13} {s : Int} (h : mayFit l s = true) (cols rows : Nat) (hc : cols ≤ 20) (hr : rows ≤ 20) (hcols : (bd l s (l.length - 1)).2.1 = (bd l s (l.length - 1)).1 + (cols : Int) - 1) (hrows : (bd l s (l.length - 1)).2.2.1 = (bd l s (l.length - 1)).2.2.2 - (rows : Int) + 1) :
    ∀ (d i : Nat), i + d = rows → Ev (fun k => spec_PlanText.l0 k l s (bd l s (l.length - 1)).1 (bd l s (l.length - 1)).2.1 (bd l s (l.length - 1)).2.2.1 ⟨(pl_lines cols (plG l s) i).toArray⟩ ((bd l s (l.length - 1)).2.2.2 - (i : Int))) (⟨(pl_lines cols (plG l s) rows).toArray⟩, true) := by
  obtain ⟨ho, hs, h0⟩ := mayFit_says h
  have hb := bd_small ho hs (l.length - 1) (by omega)
  intro d
  induction d with
  | zero =>
    intro i hi
    obtain rfl : i = rows := by omega
    refine Ev.step (f := fun _ => some _) (fun k => ?_) (Ev.now _)
    simp only [spec_PlanText.l0]
    rw [if_neg (by omega)]
  | succ d ih =>
    intro i hi
    have hl : (pl_lines cols (plG l s) i).length ≤ 1000 := by
      rw [pl_lines_length]
      have : i * (cols + 1) ≤ 20 * 21 := Nat.mul_le_mul (by omega) (by omega)
      omega
    have hw : wrap64 ((bd l s (l.length - 1)).2.2.2 - (i : Int) - 1) = (bd l s (l.length - 1)).2.2.2 - ((i + 1 : Nat) : Int) := by rw [wrap_id (by omega) (by omega)]; omega
    have ih' := ih (i + 1) (by omega)
    rw [pl_lines_succ] at ih'
    have hrow := specText_row h cols hc hcols (bd l s (l.length - 1)).2.2.1 i (by omega) (pl_lines cols (plG l s) i) hl _ (by rw [hw]; exact ih') cols 0 (by omega)
    have e0 : part13 (plG l s) i 0 = [] := rfl
    rw [e0, List.append_nil, Int.natCast_zero, Int.add_zero] at hrow
    refine Ev.step (fun k => ?_) hrow
    simp only [spec_PlanText.l0]
    rw [if_pos (by omega)]
theorem specPlanText_ev (l : List M13) (s : Int) (hm : l.length ≤ 9223372036854775807) : Ev (fun k => spec_PlanText.f k l s) (planTextAns l s) := by
  unfold spec_PlanText.f
  refine Ev.bind (specFits_ev l s hm) ?_
  by_cases h : (mayFit l s && fits20 l s) = true
  · have h' := h
    rw [Bool.and_eq_true] at h'
    obtain ⟨hm1, hf⟩ := h'
    obtain ⟨ho, hs, h0⟩ := mayFit_says hm1
    refine Ev.ite_pos h (Ev.bind (bounds_ev ho h0 hs) ?_)
    have hb := bd_small ho hs (l.length - 1) (by omega)
    have hne : l ≠ [] := fun e => h0 (by simp [e])
    have hq := bd_mem s (List.head_mem hne)
    simp only [fits20, Bool.and_eq_true, decide_eq_true_eq] at hf
    have key := specText_rows hm1 ((bd l s (l.length - 1)).2.1 - (bd l s (l.length - 1)).1 + 1).toNat ((bd l s (l.length - 1)).2.2.2 - (bd l s (l.length - 1)).2.2.1 + 1).toNat (by omega) (by omega) (by omega) (by omega) _ 0 (Nat.zero_add _)
    rw [planTextAns, if_pos h]
    have e0 : pl_lines ((bd l s (l.length - 1)).2.1 - (bd l s (l.length - 1)).1 + 1).toNat (plG l s) 0 = [] := rfl
    rw [e0, Int.natCast_zero, Int.sub_zero] at key
    exact key
  · rw [planTextAns, if_neg h]
    exact Ev.ite_neg h (Ev.now _)
end Go.Proofs.Ytckidmhkhlbkeaa.Pure
