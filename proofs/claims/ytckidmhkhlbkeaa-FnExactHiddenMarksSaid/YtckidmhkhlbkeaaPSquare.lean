/- Squares of marks, their bounds, the plan: as the program and the reference tell them. -/
import Derived.Test.YtckidmhkhlbkeaaMAx1
import Derived.Test.YtckidmhkhlbkeaaMAx4
import Derived.Test.YtckidmhkhlbkeaaMAx5
import Derived.Test.YtckidmhkhlbkeaaPMarks
import Derived.Test.YtckidmhkhlbkeaaPLeast
import Derived.Test.YtckidmhkhlbkeaaPMinMax
namespace Go.Proofs.Ytckidmhkhlbkeaa.Pure
open Go.RowKit Go.Proofs.Ytckidmhkhlbkeaa.MA Go.Proofs.YtckidmhkhlbkeaaW.PrintWords Go.Proofs.YtckidmhkhlbkeaaW.PrintLast Go.Proofs.YtckidmhkhlbkeaaW.PrintMore
set_option linter.unusedVariables false
set_option linter.unusedSimpArgs false
theorem small_div {x s : Int} (hx : -1000 ≤ x ∧ x ≤ 1000) (hs : 1 ≤ s ∧ s ≤ 500) : -1000 ≤ x / s ∧ x / s ≤ 1000 := by
  constructor
  · rw [Int.le_ediv_iff_mul_le (by omega)]
    omega
  · have h1 : x / s ≤ 1000 / s := Int.ediv_le_ediv (by omega) hx.2
    have h2 : 1000 / s ≤ 1000 := Int.ediv_le_self _ (by omega)
    omega
theorem square_eq {x s : Int} (hx : -1000 ≤ x ∧ x ≤ 1000) (hs : 1 ≤ s ∧ s ≤ 500) : spec_l13Square.f x s = some (x / s) := by
  unfold spec_l13Square.f
  rw [if_neg (by omega)]
  have e1 : wrap64 (1000 * s) = 1000 * s := wrap_id (by omega) (by omega)
  have e2 : wrap64 (x + 1000 * s) = x + 1000 * s := wrap_id (by omega) (by omega)
  have e3 : Int.tdiv (x + 1000 * s) s = (x + 1000 * s) / s := Int.tdiv_eq_ediv_of_nonneg (by omega)
  have e4 : (x + 1000 * s) / s = x / s + 1000 := Int.add_mul_ediv_right x 1000 (by omega)
  have e5 := small_div hx hs
  have e6 : wrap64 (x / s + 1000) = x / s + 1000 := wrap_id (by omega) (by omega)
  have e7 : wrap64 (x / s + 1000 - 1000) = x / s := by rw [show x / s + 1000 - 1000 = x / s by omega]; exact wrap_id (by omega) (by omega)
  rw [e1, e2, e3, e4, e6, e7]
theorem floorDiv_eq {x s : Int} (hx : -1000 ≤ x ∧ x ≤ 1000) (hs : 1 ≤ s ∧ s ≤ 500) : impl_floorDiv.f x s = some (x / s) := by
  have hm : impl_modulo.f x s = some (x % s) := by
    unfold impl_modulo.f
    rw [if_neg (by omega)]
    have h1 := Int.tmod_lt_of_pos x (show 0 < s by omega)
    have h2 : -s < Int.tmod x s := by
      have := Int.tmod_lt_of_pos (-x) (show 0 < s by omega)
      rw [Int.neg_tmod] at this
      omega
    have e1 : wrap64 (Int.tmod x s + s) = Int.tmod x s + s := wrap_id (by omega) (by omega)
    rw [e1, Int.tmod_eq_emod_of_nonneg (by omega)]
    congr 1
    have hd : (Int.tmod x s + s) % s = Int.tmod x s % s := Int.add_emod_right _ _
    rw [hd]
    have hq := Int.mul_tdiv_add_tmod x s
    rw [show Int.tmod x s = x - s * Int.tdiv x s by omega, Int.sub_mul_emod_self_left]
  have h0 := Int.emod_nonneg x (show s ≠ 0 by omega)
  have h1 := Int.emod_lt_of_pos x (show 0 < s by omega)
  have e1 : wrap64 (x - x % s) = x - x % s := wrap_id (by omega) (by omega)
  have e2 : x - x % s = s * (x / s) := by have := Int.mul_ediv_add_emod x s; omega
  have e5 := small_div hx hs
  have e3 : Int.tdiv (s * (x / s)) s = x / s := Int.mul_tdiv_cancel_left _ (by omega)
  unfold impl_floorDiv.f
  rw [hm, Option.bind_some, if_neg (by omega), e1, e2, e3]
  congr 1
  exact wrap_id (by omega) (by omega)
/-- West, east, south, north of the squares of the first marks. -/
def bd (l : List S44) (s : Int) : Nat → Int × Int × Int × Int
  | 0 => ((l.getD 0 z44).f1 / s, (l.getD 0 z44).f1 / s, (l.getD 0 z44).f2 / s, (l.getD 0 z44).f2 / s)
  | i + 1 => (min (bd l s i).1 ((l.getD (i + 1) z44).f1 / s), max (bd l s i).2.1 ((l.getD (i + 1) z44).f1 / s), min (bd l s i).2.2.1 ((l.getD (i + 1) z44).f2 / s), max (bd l s i).2.2.2 ((l.getD (i + 1) z44).f2 / s))
theorem bd_small {l : List S44} (h : okMarks l = true) {s : Int} (hs : 1 ≤ s ∧ s ≤ 500) : ∀ i, i < l.length → (-1000 ≤ (bd l s i).1 ∧ (bd l s i).1 ≤ 1000) ∧ (-1000 ≤ (bd l s i).2.1 ∧ (bd l s i).2.1 ≤ 1000) ∧ (-1000 ≤ (bd l s i).2.2.1 ∧ (bd l s i).2.2.1 ≤ 1000) ∧ (-1000 ≤ (bd l s i).2.2.2 ∧ (bd l s i).2.2.2 ≤ 1000) := by
  intro i
  induction i with
  | zero =>
    intro hi
    have h1 := okMarks_at h hi
    have h2 := small_div ⟨h1.1, h1.2.1⟩ hs
    have h3 := small_div ⟨h1.2.2.1, h1.2.2.2⟩ hs
    exact ⟨h2, h2, h3, h3⟩
  | succ i ih =>
    intro hi
    have h0 := ih (by omega)
    have h1 := okMarks_at h hi
    have h2 := small_div ⟨h1.1, h1.2.1⟩ hs
    have h3 := small_div ⟨h1.2.2.1, h1.2.2.2⟩ hs
    simp only [bd]
    omega
theorem bounds_loop {l : List S44} (h : okMarks l = true) {s : Int} (hs : 1 ≤ s ∧ s ≤ 500) : ∀ (d i : Nat), i + d + 1 = l.length → Ev (fun k => spec_l13Bounds.l0 k l s (bd l s i).1 (bd l s i).2.2.1 (bd l s i).2.1 (bd l s i).2.2.2 ((i + 1 : Nat) : Int)) (bd l s (l.length - 1)) := by
  have h12 := okMarks_len h
  intro d
  induction d with
  | zero =>
    intro i hi
    have e : l.length - 1 = i := by omega
    rw [e]
    refine Ev.step (f := fun _ => some (bd l s i)) (fun k => ?_) (Ev.now _)
    simp only [spec_l13Bounds.l0]
    rw [if_neg (by omega)]
  | succ d ih =>
    intro i hi
    have h1 := okMarks_at h (show i + 1 < l.length by omega)
    have hw : wrap64 (((i + 1 : Nat) : Int) + 1) = ((i + 1 + 1 : Nat) : Int) := wrap_up (by omega) (show l.length ≤ 9223372036854775807 by omega)
    refine Ev.step (fun k => ?_) (ih (i + 1) (by omega))
    simp only [spec_l13Bounds.l0, rdM, square_eq ⟨h1.1, h1.2.1⟩ hs, square_eq ⟨h1.2.2.1, h1.2.2.2⟩ hs, l1Least_eq, l1Most_eq, Option.bind_some, hw]
    rw [if_pos (by omega), if_pos (by omega)]
    rfl
theorem bounds_ev {l : List S44} (h : okMarks l = true) (h0 : l.length ≠ 0) {s : Int} (hs : 1 ≤ s ∧ s ≤ 500) : Ev (fun k => spec_l13Bounds.f k l s) (bd l s (l.length - 1)) := by
  have h1 := okMarks_at h (show 0 < l.length by omega)
  have hr : rd_T44 l 0 = l.getD 0 z44 := rdM l 0
  simp only [spec_l13Bounds.f, hr, square_eq ⟨h1.1, h1.2.1⟩ hs, square_eq ⟨h1.2.2.1, h1.2.2.2⟩ hs, Option.bind_some]
  exact Ev.ite_pos (by omega) (bounds_loop h hs (l.length - 1) 0 (by omega))
def planOf (l : List S44) (s : Int) : List S44 × Int × Int × Int × Int × Int := (l, s, (bd l s (l.length - 1)).1, (bd l s (l.length - 1)).2.2.2, (bd l s (l.length - 1)).2.1 - (bd l s (l.length - 1)).1 + 1, (bd l s (l.length - 1)).2.2.2 - (bd l s (l.length - 1)).2.2.1 + 1)
theorem newPlan_loop {l : List S44} (h : okMarks l = true) {s : Int} (hs : 1 ≤ s ∧ s ≤ 500) : ∀ (d i : Nat), i + d + 1 = l.length → Ev (fun k => impl_newPlan.l0 k s (bd l s i).2.1 (bd l s i).2.2.1 l (l.length : Int) ((i + 1 : Nat) : Int) l s (bd l s i).1 (bd l s i).2.2.2 0 0) (planOf l s) := by
  have h12 := okMarks_len h
  intro d
  induction d with
  | zero =>
    intro i hi
    have hb := bd_small h hs i (by omega)
    have e : l.length - 1 = i := by omega
    have e1 : wrap64 (wrap64 ((bd l s i).2.1 - (bd l s i).1) + 1) = (bd l s i).2.1 - (bd l s i).1 + 1 := by
      rw [wrap_id (x := (bd l s i).2.1 - (bd l s i).1) (by omega) (by omega)]
      exact wrap_id (by omega) (by omega)
    have e2 : wrap64 (wrap64 ((bd l s i).2.2.2 - (bd l s i).2.2.1) + 1) = (bd l s i).2.2.2 - (bd l s i).2.2.1 + 1 := by
      rw [wrap_id (x := (bd l s i).2.2.2 - (bd l s i).2.2.1) (by omega) (by omega)]
      exact wrap_id (by omega) (by omega)
    unfold planOf
    rw [e]
    refine Ev.step (f := fun _ => some (l, s, (bd l s i).1, (bd l s i).2.2.2, (bd l s i).2.1 - (bd l s i).1 + 1, (bd l s i).2.2.2 - (bd l s i).2.2.1 + 1)) (fun k => ?_) (Ev.now _)
    simp only [impl_newPlan.l0, e1, e2]
    rw [if_neg (by omega)]
  | succ d ih =>
    intro i hi
    have h1 := okMarks_at h (show i + 1 < l.length by omega)
    have hw : wrap64 (((i + 1 : Nat) : Int) + 1) = ((i + 1 + 1 : Nat) : Int) := wrap_up (by omega) (show l.length ≤ 9223372036854775807 by omega)
    refine Ev.step (fun k => ?_) (ih (i + 1) (by omega))
    simp only [impl_newPlan.l0, rdM, floorDiv_eq ⟨h1.1, h1.2.1⟩ hs, floorDiv_eq ⟨h1.2.2.1, h1.2.2.2⟩ hs, mx_eq, mn_eq, Option.bind_some, hw]
    rw [if_pos (by omega), if_pos (by omega), if_pos (by omega), if_neg (by omega)]
    rfl
theorem newPlan_ev {l : List S44} (h : okMarks l = true) (h0 : l.length ≠ 0) {s : Int} (hs : 1 ≤ s ∧ s ≤ 500) : Ev (fun k => impl_newPlan.f k l s) (planOf l s) := by
  have h12 := okMarks_len h
  have h1 := okMarks_at h (show 0 < l.length by omega)
  have hr : rd_T44 l 0 = l.getD 0 z44 := rdM l 0
  have hw : wrap64 ((0 : Int) + 1) = ((0 + 1 : Nat) : Int) := by unfold wrap64; omega
  refine Ev.step (fun k => ?_) (newPlan_loop h hs (l.length - 1) 0 (by omega))
  simp only [impl_newPlan.f, impl_newPlan.l0, hr, floorDiv_eq ⟨h1.1, h1.2.1⟩ hs, floorDiv_eq ⟨h1.2.2.1, h1.2.2.2⟩ hs, mx_eq, mn_eq, Option.bind_some, hw]
  rw [if_pos (by omega), if_pos (by omega), if_pos (by omega), if_pos trivial]
  simp only [bd, Int.min_self, Int.max_self]
end Go.Proofs.Ytckidmhkhlbkeaa.Pure
