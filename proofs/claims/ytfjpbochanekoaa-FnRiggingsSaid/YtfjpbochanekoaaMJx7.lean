-- Written by a program of this session (wip/drv.py, wip/tight.py).
import Derived.Test.YtfjpbochanekoaaMJx0
import Derived.Test.YtfjpbochanekoaaMJx1
import Derived.Test.YtfjpbochanekoaaMJx6
namespace Go.Proofs.Ytfjpbochanekoaa.MJ
open Go.RowKit Go.Proofs.YtfjpbochanekoaaW.PrintWords Go.Proofs.YtfjpbochanekoaaW.PrintLast Go.Proofs.YtfjpbochanekoaaW.PrintMore
theorem qJ7_0 {p : Prop} (h : p := by repeat (first | (with_reducible first | exact HB.out | apply below_alloc | apply pw_below_drewN | apply below_drew1) | exact HB.out)) : p := h
theorem qJ7_1 {p : Prop} (h : p := by repeat (first | (with_reducible first | exact HK.out | apply Kept.alloc | apply Kept.drewN | apply Kept.drew) | exact HK.out)) : p := h
theorem qJ7_2 {p : Prop} (h : p := by first | exact HK.out.1 | exact (show Kept w _ (fun k_ => P2_ k_) from by repeat (first | (with_reducible first | exact HK.out | apply Kept.alloc | apply Kept.drewN | apply Kept.drew) | exact HK.out)).1) : p := h
theorem qJ7_3 {p : Prop} (h : p := by (with_reducible repeat (first | apply Kd.R_alloc | apply Kd.R_drewN | apply Kd.R_drew)); exact HO_11.out) : p := h
theorem qJ7_4 {p : Prop} (h : p := by (with_reducible repeat (first | apply Kd.R_alloc | apply Kd.R_drewN | apply Kd.R_drew)); exact HO_2.out) : p := h
theorem qJ7_5 {p : Prop} (h : p := by exact any_of HT_.out (by kernel_rfl)) : p := h
theorem qJ7_6 {p : Prop} (h : p := by repeat (first | exact HK.out | apply Kept.alloc | apply Kept.drewN | apply Kept.drew)) : p := h
theorem qJ7_7 {p : Prop} (h : p := by (try simp only [List.map_toArray, List.map_cons, List.map_nil]); first | done | rfl | (simp only [List.length_drop, List.length_take]; rfl)) : p := h
theorem qJ7_8 {p : Prop} (h : p := by repeat (first | exact (Kd.R_reads' HO_2.out).2.2 | (with_reducible refine Kd.C_alloc ?_ _) | (with_reducible refine Kd.C_drewN ?_ _) | (with_reducible refine Kd.C_drew ?_))) : p := h
theorem qJ7_9 {p : Prop} (h : p := by (with_reducible repeat (first | apply Kd.R_alloc | apply Kd.R_drewN | apply Kd.R_drew)); exact HO229.out) : p := h
theorem qJ7_10 {p : Prop} (h : p := by (with_reducible repeat (first | apply Kd.R_alloc | apply Kd.R_drewN | apply Kd.R_drew)); exact Kd.R_mono HO226.out (fun _ hk => ⟨hk.1.1.1.1, ⟨hk.2, ⟨hk.1.2, hk.1.1.2⟩⟩⟩)) : p := h
theorem qJ7_11 {p : Prop} (h : p := by (with_reducible repeat (first | apply Kd.R_alloc | apply Kd.R_drewN | apply Kd.R_drew)); exact Kd.R_mono HO229.out (fun _ hk => ⟨hk.1.1.1.1, ⟨hk.2, ⟨hk.1.2, hk.1.1.2⟩⟩⟩)) : p := h
theorem qJ7_12 {p : Prop} (h : p := by (with_reducible repeat (first | apply Kd.R_alloc | apply Kd.R_drewN | apply Kd.R_drew)); exact HO226.out) : p := h
theorem qJ7_13 {p : Prop} (h : p := by exact (Reps.one (show Kd.M (Kd.int .i64) _ _ _ x13_1 [.int .i64 x13_1] from rfl) (Reps.none _ _))) : p := h
theorem qJ7_14 {p : Prop} (h : p := by simp only [putAll, Act.put, List.setIfInBounds_toArray, List.set_cons_zero, List.set_cons_succ]) : p := h
theorem qJ7_15 {p : Prop} (h : p := by exact one_of HT_.out (by kernel_rfl)) : p := h
theorem qJ7_16 {p : Prop} (h : p := by first | rfl | (simp; done) | (simp [*]; done)) : p := h
theorem qJ7_17 {p : Prop} (h : p := by repeat (first | exact (Kd.R_reads' HO229.out).2.2 | (with_reducible refine Kd.C_alloc ?_ _) | (with_reducible refine Kd.C_drewN ?_ _) | (with_reducible refine Kd.C_drew ?_))) : p := h
theorem qJ7_18 {p : Prop} (h : p := by (with_reducible repeat (first | apply Kd.R_alloc | apply Kd.R_drewN | apply Kd.R_drew)); exact Kd.R_mono HO_11.out (fun _ hk => ⟨hk.1.1.1, ⟨hk.1.2, ⟨hk.2, hk.1.1.2⟩⟩⟩)) : p := h
theorem qJ7_19 {p : Prop} (h : p := by (with_reducible repeat (first | apply Kd.R_alloc | apply Kd.R_drewN | apply Kd.R_drew)); exact Kd.R_mono HO_11.out (fun _ hk => ⟨hk.1.1.1, ⟨hk.2, ⟨hk.1.2, hk.1.1.2⟩⟩⟩)) : p := h
theorem qJ7_20 {p : Prop} (h : p := by (with_reducible repeat (first | apply Kd.R_alloc | apply Kd.R_drewN | apply Kd.R_drew)); exact Kd.R_mono HO226.out (fun _ hk => ⟨hk.1, ⟨hk.2.2.2, ⟨hk.2.2.1, hk.2.1⟩⟩⟩)) : p := h
theorem qJ7_21 {p : Prop} (h : p := by (with_reducible repeat (first | apply Kd.R_alloc | apply Kd.R_drewN | apply Kd.R_drew)); exact Kd.R_mono HO_11.out (fun _ hk => ⟨⟨hk.1, ⟨hk.2.2.2, hk.2.2.1⟩⟩, hk.2.1⟩)) : p := h
theorem qJ7_22 {p : Prop} (h : p := by (with_reducible repeat (first | apply Kd.R_alloc | apply Kd.R_drewN | apply Kd.R_drew)); exact Kd.R_mono HO229.out (fun _ hk => ⟨⟨hk.1, ⟨hk.2.2.2, hk.2.2.1⟩⟩, hk.2.1⟩)) : p := h
theorem qJ7_23 {p : Prop} (h : p := by (with_reducible repeat (first | apply Kd.R_alloc | apply Kd.R_drewN | apply Kd.R_drew)); exact Kd.R_mono HO_2.out (fun _ hk => ⟨hk.1.1.1, ⟨hk.1.2, ⟨hk.2, hk.1.1.2⟩⟩⟩)) : p := h
theorem qJ7_24 {p : Prop} (h : p := by (with_reducible repeat (first | apply Kd.R_alloc | apply Kd.R_drewN | apply Kd.R_drew)); exact Kd.R_mono HO_2.out (fun _ hk => ⟨hk.1.1.1, ⟨hk.2, ⟨hk.1.2, hk.1.1.2⟩⟩⟩)) : p := h
theorem qJ7_25 {p : Prop} (h : p := by (with_reducible repeat (first | apply Kd.R_alloc | apply Kd.R_drewN | apply Kd.R_drew)); exact Kd.R_mono HO_2.out (fun _ hk => ⟨⟨hk.1, ⟨hk.2.2.2, hk.2.2.1⟩⟩, hk.2.1⟩)) : p := h
theorem qJ7_26 {p : Prop} (h : p := by first | (with_reducible assumption) | assumption) : p := h
theorem qJ7_27 {p : Prop} (h : p := by exact (fun k_ hk => ⟨(.inr (Nat.le_trans (qJ7_2) hk)), Kd.fresh' (Kd.R_lt (qJ7_4)) k_ hk, Kd.fresh' (Kd.R_lt (qJ7_3)) k_ hk, Kd.fresh' (Kd.R_lt (qJ7_9)) k_ hk⟩)) : p := h
theorem qJ7_28 {p : Prop} (h : p := by (with_reducible repeat (first | apply Kd.R_alloc | apply Kd.R_drewN | apply Kd.R_drew)); exact HO2.out) : p := h
theorem qJ7_29 {p : Prop} (h : p := by first | (go_simp; done) | (go_simp; rfl)) : p := h
theorem qJ7_30 {p : Prop} (h : p := by exact Kd.C_kept_call HR0.out (qJ7_1) (fun k_ hs_ => (fun e_ => (HO232.out.1 k_ e_.symm).1) hs_)) : p := h
theorem qJ7_31 {p : Prop} (h : p := by exact Kd.C_kept_call HR1.out (qJ7_1) (fun k_ hs_ => (fun e_ => (HO232.out.1 k_ e_.symm).1) hs_)) : p := h
theorem qJ7_32 {p : Prop} (h : p := by exact (Kd.R_reads' HO_2.out).2.1) : p := h
theorem qJ7_33 {p : Prop} (h : p := by exact done_of HT_.out (by kernel_rfl)) : p := h
theorem qJ7_34 {p : Prop} (h : p := by (with_reducible repeat (first | apply Kd.R_alloc | apply Kd.R_drewN | apply Kd.R_drew)); exact Kd.R_mono HO_2.out (fun _ hk => ⟨hk.1, hk.2.2.2⟩)) : p := h
theorem qJ7_35 {p : Prop} (h : p := by (with_reducible repeat (first | apply Kd.R_alloc | apply Kd.R_drewN | apply Kd.R_drew)); exact Kd.R_mono HO236.out (fun _ hk => ⟨hk.1, hk.2.1⟩)) : p := h
theorem qJ7_36 {p : Prop} (h : p := by (with_reducible repeat (first | apply Kd.R_alloc | apply Kd.R_drewN | apply Kd.R_drew)); exact Kd.R_mono HO_11.out (fun _ hk => ⟨hk.1, hk.2.1⟩)) : p := h
theorem qJ7_37 {p : Prop} (h : p := by (with_reducible repeat (first | apply Kd.R_alloc | apply Kd.R_drewN | apply Kd.R_drew)); exact Kd.R_mono HO_2.out (fun _ hk => ⟨hk.1, hk.2.1⟩)) : p := h
theorem qJ7_38 {p : Prop} (h : p := by have := HK1.out; have := HJ10.out; omega) : p := h
theorem qJ7_39 {p : Prop} (h : p := by first | rfl | (simp [errW_none, errW_some] <;> rfl) | (simp [*, errW_none, errW_some] <;> rfl)) : p := h
theorem qJ7_c0 {p : Prop} (h : p := by
  simp only [Act.put, List.setIfInBounds_toArray, List.set_cons_zero, List.set_cons_succ, i64_w, i32_w]
  rfl) : p := h
theorem qJ7_c1 {p : Prop} (h : p := by
  intro w'
  go_simp
  with_reducible rfl) : p := h
theorem qJ7_c2 {p : Prop} (h : p := by
  show Act.put _ (some 50) _ = _
  simp only [Act.put, List.setIfInBounds_toArray, List.set_cons_zero, List.set_cons_succ, i64_w, i32_w]
  rfl) : p := h
theorem qJ7_c3 {p : Prop} (h : p := by
  show Act.put _ (some 52) _ = _
  simp only [Act.put, List.setIfInBounds_toArray, List.set_cons_zero, List.set_cons_succ, i64_w, i32_w]
  rfl) : p := h
theorem qJ7_c4 {p : Prop} (h : p := by
  show Act.put _ (some 53) _ = _
  simp only [Act.put, List.setIfInBounds_toArray, List.set_cons_zero, List.set_cons_succ, i64_w, i32_w]
  rfl) : p := h
theorem qJ7_c5 {p : Prop} (h : p := by
  show Act.put _ (some 60) _ = _
  simp only [Act.put, List.setIfInBounds_toArray, List.set_cons_zero, List.set_cons_succ, i64_w, i32_w]
  rfl) : p := h
theorem qJ7_c6 {p : Prop} (h : p := by
  simp only [putAll, Act.put, List.setIfInBounds_toArray, List.set_cons_zero, List.set_cons_succ]
  rfl) : p := h
abbrev qJ7_b0 : Array Bool := #[false, false, false, false, false, false, false, false, false, false, false, false, false, false, false]
abbrev qJ7_b1 : Array Bool := #[true, false, false, false, false, false, false, false, false, false, false, false, false, false, false]
abbrev qJ7_b2 : Array Bool := #[true, true, false, false, false, false, false, false, false, false, false, false, false, false, false]
abbrev qJ7_b3 : Array Bool := #[true, true, true, false, false, false, false, false, false, false, false, false, false, false, false]
abbrev qJ7_b4 : Array Bool := #[true, true, true, true, false, false, false, false, false, false, false, false, false, false, false]
abbrev qJ7_b5 : Array Bool := #[true, true, true, true, true, false, false, false, false, false, false, false, false, false, false]
abbrev qJ7_b6 : Array Bool := #[true, true, true, true, true, true, false, false, false, false, false, false, false, false, false]
abbrev qJ7_b7 : Array Bool := #[true, true, true, true, true, true, true, false, false, false, false, false, false, false, false]
abbrev qJ7_b8 : Array Bool := #[true, true, true, true, true, true, true, true, true, true, true, false, false, false, false]
abbrev qJ7_b9 : Array Bool := #[true, true, true, true, true, true, true, true, true, true, true, true, false, false, false]
abbrev qJ7_b10 : Array Bool := #[true, true, true, true, true, true, true, true, true, true, true, true, true, false, false]
abbrev qJ7_b11 : Array Bool := #[true, true, true, true, true, true, true, true, true, true, true, true, true, true, false]
abbrev qJ7_b12 : Array Bool := #[true, true, true, true, true, true, true, true, true, true, true, true, true, true, true]
abbrev qJ7_b13 : Array Bool := #[false, false, false, false, false, false, false, false, false, false, false, false, false, false, false, false, false, false, false]
abbrev qJ7_b14 : Array Bool := #[true, false, false, false, false, false, false, false, false, false, false, false, false, false, false, false, false, false, false]
abbrev qJ7_b15 : Array Bool := #[true, true, false, false, false, false, false, false, false, false, false, false, false, false, false, false, false, false, false]
abbrev qJ7_b16 : Array Bool := #[true, true, true, false, false, false, false, false, false, false, false, false, false, false, false, false, false, false, false]
abbrev qJ7_b17 : Array Bool := #[true, true, true, false, true, false, false, false, false, false, false, false, false, false, false, false, false, false, false]
abbrev qJ7_b18 : Array Bool := #[true, true, true, false, true, false, false, true, false, false, false, false, false, false, false, false, false, false, false]
abbrev qJ7_b19 : Array Bool := #[true, true, true, false, true, false, false, true, true, false, false, false, false, false, false, false, false, false, false]
abbrev qJ7_b20 : Array Bool := #[true, true, true, false, true, false, false, true, true, true, false, false, false, false, false, false, false, false, false]
abbrev qJ7_b21 : Array Bool := #[true, true, true, false, true, false, false, true, true, true, true, false, false, false, false, false, false, false, false]
abbrev qJ7_b22 : Array Bool := #[true, true, true, false, true, false, false, true, true, true, true, true, false, false, false, false, false, false, false]
abbrev qJ7_b23 : Array Bool := #[true, true, true, false, true, false, false, true, true, true, true, true, true, false, false, false, false, false, false]
abbrev qJ7_b24 : Array Bool := #[true, true, true, true, true, true, false, true, true, true, true, true, true, false, false, false, false, false, false]
abbrev qJ7_b25 : Array Bool := #[true, true, true, true, true, false, false, true, true, true, true, true, true, false, false, false, false, false, false]
abbrev qJ7_b26 : Array Bool := #[true, true, true, false, true, true, false, true, true, true, true, true, true, false, false, false, false, false, false]
abbrev qJ7_b27 : Array Bool := #[true, true, true, true, true, true, true, true, true, true, true, true, true, false, false, false, false, false, false]
abbrev qJ7_b28 : Array Bool := #[true, true, true, true, true, true, true, true, true, true, true, true, true, true, false, false, false, false, false]
abbrev qJ7_b29 : Array Bool := #[true, true, true, true, true, true, true, true, true, true, true, true, true, true, true, false, false, false, false]
abbrev qJ7_b30 : Array Bool := #[true, true, true, true, true, true, true, true, true, true, true, true, true, true, true, true, false, false, false]
abbrev qJ7_b31 : Array Bool := #[true, true, true, true, true, true, true, true, true, true, true, true, true, true, true, true, true, false, false]
abbrev qJ7_b32 : Array Bool := #[true, true, true, true, true, true, true, true, true, true, true, true, true, true, true, true, true, true, false]
abbrev qJ7_b33 : Array Bool := #[true, true, true, true, true, true, true, true, true, true, true, true, true, true, true, true, true, true, true]
attribute [local go_sem] max2_int min2_int max_two min_two max_three min_three max_four min_four   -- for this text's walks alone
set_option linter.unusedVariables false
set_option linter.unusedSimpArgs false

/-! ### spec_l16Best: function 64 -/
mutual
def spec_l16Best.l0 : Nat → List (S36) → List Int → List Int → Int → Int → List Int → Int → Int → Option (List Int × Int)
 | 0, _, _, _, _, _, _, _, _ => none
 | k + 1, x0, x1, x2, x3, x10, x11, x12, x13 => if x13 < (x1.length : Int) then ((spec_l1Has.f k x2 x13).bind fun t220 => (if t220 = true then (spec_l16Best.j1 k x0 x1 x2 x3 x10 x11 x12 x13 true) else (if 0 ≤ x13 then (if 0 ≤ x10 then (if x10 < (x0.length : Int) then ((spec_l16Need.f ((rd_T36 x0 x10).f0) ((rd_T36 x0 x10).f1)).bind fun t223 => (spec_l16Best.j1 k x0 x1 x2 x3 x10 x11 x12 x13 (decide ((rd x1 x13) < t223)))) else (none)) else (none)) else (none)))) else (some (x11, x12))
def spec_l16Best.j1 : Nat → List (S36) → List Int → List Int → Int → Int → List Int → Int → Int → Bool → Option (List Int × Int)
 | 0, _, _, _, _, _, _, _, _, _ => none
 | k + 1, x0, x1, x2, x3, x10, x11, x12, x13, x45 => if x45 = true then (spec_l16Best.l0 k x0 x1 x2 x3 x10 x11 x12 (wrap64 (x13 + 1))) else ((spec_l1Own.f x2).bind fun t224 => ((some (([x13] : List Int) : List Int)).bind fun y227 => (if t224.length + y227.length < 17592186044416 then (if 0 ≤ x13 then (if x13 < (x1.length : Int) then ((spec_l16Best.f k x0 x1 (t224 ++ y227) (wrap64 (x3 + (rd x1 x13)))).bind fun bt234 => (if bt234.2 ≥ 0 then (if x12 < 0 then (spec_l16Best.l0 k x0 x1 x2 x3 x10 bt234.1 bt234.2 (wrap64 (x13 + 1))) else (if bt234.2 < x12 then (spec_l16Best.l0 k x0 x1 x2 x3 x10 bt234.1 bt234.2 (wrap64 (x13 + 1))) else (spec_l16Best.l0 k x0 x1 x2 x3 x10 x11 x12 (wrap64 (x13 + 1))))) else (spec_l16Best.l0 k x0 x1 x2 x3 x10 x11 x12 (wrap64 (x13 + 1))))) else (none)) else (none)) else (none))))
def spec_l16Best.f : Nat → List (S36) → List Int → List Int → Int → Option (List Int × Int)
 | 0, _, _, _, _ => none
 | k + 1, l0, l1, l2, a3 => if (l2.length : Int) = (l0.length : Int) then (some (l2, a3)) else (spec_l16Best.l0 k l0 l1 l2 a3 (l2.length : Int) (([] : List Int)) (-1) 0)
end
theorem spec_l16Best.mono_l : ∀ k, (∀ y0 y1 y2 y3, LeO (spec_l16Best.f k y0 y1 y2 y3) (spec_l16Best.f (k + 1) y0 y1 y2 y3)) ∧ (∀ y0 y1 y2 y3 y4 y5 y6 y7, LeO (spec_l16Best.l0 k y0 y1 y2 y3 y4 y5 y6 y7) (spec_l16Best.l0 (k + 1) y0 y1 y2 y3 y4 y5 y6 y7)) ∧ (∀ y0 y1 y2 y3 y4 y5 y6 y7 y8, LeO (spec_l16Best.j1 k y0 y1 y2 y3 y4 y5 y6 y7 y8) (spec_l16Best.j1 (k + 1) y0 y1 y2 y3 y4 y5 y6 y7 y8))
 | 0 => ⟨fun _ _ _ _ r h => by simp [spec_l16Best.f] at h, fun _ _ _ _ _ _ _ _ r h => by simp [spec_l16Best.l0] at h, fun _ _ _ _ _ _ _ _ _ r h => by simp [spec_l16Best.j1] at h⟩
 | k + 1 => by
  obtain ⟨ih0, ih1, ih2⟩ := spec_l16Best.mono_l k
  refine ⟨?_, ?_, ?_⟩
  ·intro y0 y1 y2 y3
   unfold spec_l16Best.f
   repeat' first
   | (with_reducible exact ih0 _ _ _ _)
   | (with_reducible exact ih1 _ _ _ _ _ _ _ _)
   | (with_reducible exact ih2 _ _ _ _ _ _ _ _ _)
   | (with_reducible exact spec_l1Has.mono _ _ _)
   | (with_reducible exact LeO.refl _)
   | (with_reducible exact LeO.none _)
   | (with_reducible refine LeO.ite ?_ ?_)
   | (with_reducible refine LeO.bind ?_ (fun _ => ?_))
   | exact ih0 _ _ _ _
   | exact ih1 _ _ _ _ _ _ _ _
   | exact ih2 _ _ _ _ _ _ _ _ _
   | exact spec_l1Has.mono _ _ _
   | exact LeO.none _
   | refine LeO.ite ?_ ?_
   | refine LeO.bind ?_ (fun _ => ?_)
  ·intro y0 y1 y2 y3 y4 y5 y6 y7
   unfold spec_l16Best.l0
   repeat' first
   | (with_reducible exact ih0 _ _ _ _)
   | (with_reducible exact ih1 _ _ _ _ _ _ _ _)
   | (with_reducible exact ih2 _ _ _ _ _ _ _ _ _)
   | (with_reducible exact spec_l1Has.mono _ _ _)
   | (with_reducible exact LeO.refl _)
   | (with_reducible exact LeO.none _)
   | (with_reducible refine LeO.ite ?_ ?_)
   | (with_reducible refine LeO.bind ?_ (fun _ => ?_))
   | exact ih0 _ _ _ _
   | exact ih1 _ _ _ _ _ _ _ _
   | exact ih2 _ _ _ _ _ _ _ _ _
   | exact spec_l1Has.mono _ _ _
   | exact LeO.none _
   | refine LeO.ite ?_ ?_
   | refine LeO.bind ?_ (fun _ => ?_)
  ·intro y0 y1 y2 y3 y4 y5 y6 y7 y8
   unfold spec_l16Best.j1
   repeat' first
   | (with_reducible exact ih0 _ _ _ _)
   | (with_reducible exact ih1 _ _ _ _ _ _ _ _)
   | (with_reducible exact ih2 _ _ _ _ _ _ _ _ _)
   | (with_reducible exact spec_l1Has.mono _ _ _)
   | (with_reducible exact LeO.refl _)
   | (with_reducible exact LeO.none _)
   | (with_reducible refine LeO.ite ?_ ?_)
   | (with_reducible refine LeO.bind ?_ (fun _ => ?_))
   | exact ih0 _ _ _ _
   | exact ih1 _ _ _ _ _ _ _ _
   | exact ih2 _ _ _ _ _ _ _ _ _
   | exact spec_l1Has.mono _ _ _
   | exact LeO.none _
   | refine LeO.ite ?_ ?_
   | refine LeO.bind ?_ (fun _ => ?_)
theorem spec_l16Best.mono : ∀ a0 a1 a2 a3 k, LeO (spec_l16Best.f k a0 a1 a2 a3) (spec_l16Best.f (k + 1) a0 a1 a2 a3) := by
 intro a0 a1 a2 a3 k
 obtain ⟨ih0, ih1, ih2⟩ := spec_l16Best.mono_l k
 exact ih0 a0 a1 a2 a3
def spec_l16Best.T8 : Bool × List (List Nat × List Nat) := (true, [([], []), ([], []), ([0, 1], [0, 1]), ([2, 2], [2]), ([3], [3]), ([3], [3]), ([4, 5, 3], [3, 4, 5]), ([6, 3], [3, 6]), ([3], [3]), ([3], [3]), ([8, 9, 3], [3, 8, 9]), ([10, 3], [3, 10]), ([11, 3, 3], [3, 11]), ([7, 12, 3], [3, 7, 12]), ([3, 13], [3, 13])])
def spec_l16Best.B8 : List Nat := [0, 0, 3, 7, 15, 15, 63, 127, 15, 15, 783, 1807, 3855, 8191, 16383]
theorem spec_l16Best.tab8 : rtab .any (opsOf Try.f64 8) = spec_l16Best.T8 := by kernel_rfl
theorem spec_l16Best.bits8 : waitsOk spec_l16Best.T8.2 spec_l16Best.B8 = true := by kernel_rfl
def spec_l16Best.T9 : Bool × List (List Nat × List Nat) := (true, [([], []), ([], []), ([], []), ([2], [2]), ([], []), ([4], [4]), ([3, 5, 3], [3, 5]), ([], []), ([], []), ([], []), ([8, 9], [8, 9]), ([10], [10]), ([7, 11], [7, 11]), ([0, 1, 6, 12, 6], [0, 1, 6, 12]), ([13], [13]), ([14], [14]), ([14], [14]), ([15, 13, 0, 1, 2, 3, 4, 5, 6, 7, 8, 9, 10, 11, 12, 13, 14, 15], [15]), ([16, 17, 0, 1, 2, 3, 4, 5, 6, 7, 8, 9, 10, 11, 12, 13, 14, 15, 16, 17], [16])])
def spec_l16Best.B9 : List Nat := [0, 0, 0, 4, 0, 16, 60, 0, 0, 0, 768, 1792, 3968, 8191, 16383, 32767, 32767, 65535, 262143]
theorem spec_l16Best.tab9 : rtab .any (opsOf Try.f64 9) = spec_l16Best.T9 := by kernel_rfl
theorem spec_l16Best.bits9 : waitsOk spec_l16Best.T9.2 spec_l16Best.B9 = true := by kernel_rfl
set_option maxHeartbeats 8000000 in
set_option maxRecDepth 100000 in
theorem spec_l16Best.calls (k : Nat) : ∀ (A0 : Option Addr) (c0 : Nat) (l0 : List (S36)) (A1 : Option Addr) (c1 : Nat) (l1 : List Int) (P2_ : Nat → Prop) (u9000_ : Value) (l2 : List Int) (a3 : Int) (r1 : List Int) (r2 : Int) (w0 w : World) (hB : Below w0.heap.size w0 w) (hr0 : ∀ W_, Kept w W_ (fun k_ => P2_ k_) → Kd.C k36 W_ A0 l0.length l0) (hc0 : l0.length ≤ c0) (hr1 : ∀ W_, Kept w W_ (fun k_ => P2_ k_) → Kd.C (Kd.int .i64) W_ A1 l1.length l1) (hc1 : l1.length ≤ c1) (ho2 : Kd.R (Kd.int .i64) 3 w w0.heap.size P2_ u9000_ l2) (h : spec_l16Best.f k l0 l1 l2 a3 = some (r1, r2)),
  Calls Try.prog 64 #[.slice A0 l0.length c0, .slice A1 l1.length c1, u9000_, .int .i64 a3] w fun e w' => ∃ v0_ : Value, e = .returned (.tuple #[v0_, .int .i64 r2]) ∧ Kd.R (Kd.int .i64) 3 w' w0.heap.size (fun k_ => (P2_ k_ ∨ w.heap.size ≤ k_)) v0_ r1 ∧ Below w0.heap.size w0 w' ∧ Kept w w' (fun k_ => P2_ k_) := by
 induction k using Nat.strongRecOn with
 | _ k ih =>
 intro A0 c0 l0 A1 c1 l1 P2_ u9000_ l2 a3 r1 r2 w0 w hB hr0 hc0 hr1 hc1 ho2 h
 cases k with
 | zero => exact absurd h (by simp [spec_l16Best.f])
 | succ k =>
 simp only [spec_l16Best.f] at h
 have hu36 := Try.underlying36
 have HR0 := Aside0.mk hr0; have HC0 := Aside0.mk hc0; clear hr0 hc0; have HR1 := Aside0.mk hr1; have HC1 := Aside0.mk hc1; clear hr1 hc1
 have HO2 := Aside0.mk (show Kd.R (Kd.int .i64) 3 w w0.heap.size (fun k_ => (P2_ k_ ∨ w.heap.size ≤ k_)) u9000_ l2 from Kd.R_mono ho2 (fun k_ hk => (.inl hk)))
 have HK := Aside0.mk (Kept.refl w (fun k_ => P2_ k_))
 have HW0 := Aside0.mk hB.size
 have HB := Aside0.mk hB; clear hB
 have H : (if (l2.length : Int) = (l0.length : Int) then (some (l2, a3)) else (spec_l16Best.l0 k l0 l1 l2 a3 (l2.length : Int) (([] : List Int)) (-1) 0)) = some (r1, r2) := h
 clear h
 by_cases c5 : (l2.length : Int) = (l0.length : Int)
 ·rw [if_pos c5] at H
  have c5b0 : ((l2.length : Int) == (l0.length : Int)) = true := beq_iff_eq.mpr c5
  have c5b1 : ((l2.length : Int) != (l0.length : Int)) = false := bne_eq_false_iff_eq.mpr c5
  have c5b2 : (l2.length == l0.length) = true := by first | simpa using c5 | (simp at c5 ⊢; omega)
  clear c5
  simp only [Option.some.injEq, Prod.mk.injEq] at H
  obtain ⟨rfl, rfl⟩ := H
  obtain ⟨Ao6, co6, eo6⟩ := Kd.R_slice HO2.out
  subst eo6
  go_enter Try.func64, Try.ntmps64
  go_wp2
  go_ret2
  exact ⟨_, (qJ7_39), (qJ7_28), (qJ7_0), (qJ7_1)⟩
 ·rw [if_neg c5] at H
  have c5b0 : ((l2.length : Int) == (l0.length : Int)) = false := beq_eq_false_iff_ne.mpr c5
  have c5b1 : ((l2.length : Int) != (l0.length : Int)) = true := bne_iff_ne.mpr c5
  have c5b2 : (l2.length == l0.length) = false := by first | simpa using c5 | (simp at c5 ⊢; omega)
  obtain ⟨y217, hy217⟩ : ∃ y_ : List Int, y_ = (([] : List Int)) := ⟨_, rfl⟩
  replace H : (spec_l16Best.l0 k l0 l1 l2 a3 (l2.length : Int) y217 (-1) 0) = some (r1, r2) := by first | (rw [hy217]; with_reducible exact H) | (have H2_ := (Option.bind_some _ _).symm.trans H; rw [hy217]; with_reducible exact H2_) | (have H2_ := (Option.bind_some _ _).symm.trans H; with_reducible exact H2_) | with_reducible exact H | (rw [hy217]; exact H) | exact H
  have Ny217 := Aside0.mk hy217; clear hy217
  have H' := Aside0.mk H
  clear H
  obtain ⟨Ao7, co7, eo7⟩ := Kd.R_slice HO2.out
  subst eo7
  go_enter Try.func64, Try.ntmps64
  go_wp2_with (first | ((with_reducible refine gate_dst (N := 24) rfl ?_); refine Kd.R_lit (Kd.int .i64) _ 3 ?hg (N := 24) ?hd (xs := ([] : List Int)) (inner := []) (ok := fun _ => True) (okp := fun _ => True) ?hr ?hp (fun _ hk => hk) trivial (Below.refl _ _) (Nat.le_refl _) (by simp) ?_; (case hd => rfl); (case hg => rfl); (case hr => exact (qJ7_29)); (case hp => exact (Reps.none _ _)); intro v218 w8 ho9 hb hg_ hnew_; clear hg_ hnew_; (first | rw [← Ny217.out] at ho9 | (simp only [Int.reduceToNat] at ho9; rw [← Ny217.out] at ho9)); have n0_ := Aside0.mk (Kd.R_elder' (qJ7_28) (Kd.R_base ho9) hb); have n1_ := Aside0.mk (Kd.R_lower (Kd.R_new' (Kd.R_newM (M := fun k_ => (P2_ k_ ∨ w.heap.size ≤ k_)) ho9 (qJ7_2) (fun k_ h_ => .inr h_)) (Kd.R_lt (qJ7_28))) (below_size (qJ7_0))); have n2_ := Aside0.mk (Kept.below (S := (fun k_ => P2_ k_)) (qJ7_1) hb); have n3_ := Aside0.mk (below_step (qJ7_0) hb); clear HO2 HK HB; have HO2 := n0_; have HO219 := n1_; have HK := n2_; have HB := n3_; clear n0_ n1_ n2_ n3_; clear hb ho9))
  go_loopg [11, 12, 13] k (fun kq v11 v12 v13 w' => ∃ (x11_1 : List Int) (x12_1 : Int) (x13_1 : Int), v12 = .int .i64 x12_1 ∧ v13 = .int .i64 x13_1 ∧ Aside0 (spec_l16Best.l0 kq l0 l1 l2 a3 (l2.length : Int) x11_1 x12_1 x13_1 = some (r1, r2)) ∧ Aside0 (kq ≤ k) ∧ Aside0 (Kd.R (Kd.int .i64) 3 w' w0.heap.size (fun k_ => (P2_ k_ ∨ w.heap.size ≤ k_) ∧ some k_ ≠ (v11 : Value).ownBlock) (.slice Ao7 l2.length co7) l2) ∧ Aside0 (Kd.R (Kd.int .i64) 3 w' w0.heap.size (fun k_ => (P2_ k_ ∨ w.heap.size ≤ k_) ∧ some k_ ≠ ((.slice Ao7 l2.length co7) : Value).ownBlock) v11 x11_1) ∧ Aside0 (Kept w w' (fun k_ => P2_ k_)) ∧ Aside0 (Below w0.heap.size w0 w'))
  case atStart => exact ⟨(y217), ((-1)), (0), (qJ7_16), (qJ7_16), H', ⟨Nat.le_refl _⟩, ⟨(qJ7_28)⟩, ⟨(by (with_reducible repeat (first | apply Kd.R_alloc | apply Kd.R_drewN | apply Kd.R_drew)); exact Kd.R_mono HO219.out (fun _ hk => ⟨hk.1.1, hk.2⟩))⟩, ⟨(qJ7_1)⟩, ⟨(qJ7_0)⟩⟩
  case round =>
   clear H'
   try clear c1
   try clear p2
   try clear c5
   try clear c5b0
   try clear c5b1
   try clear c5b2
   try clear c6
   obtain ⟨x11_1, x12_1, x13_1, rfl, rfl, HA, HK1, HO_2, HO_11, HK, HB⟩ := hrel
   cases gk with
   | zero => exact absurd HA.out (by simp [spec_l16Best.l0])
   | succ k1 =>
    have H := HA.out
    clear HA
    simp only [spec_l16Best.l0] at H
    by_cases c10 : x13_1 < (l1.length : Int)
    ·rw [if_pos c10] at H
     have c10b0 : decide (x13_1 < (l1.length : Int)) = true := decide_eq_true c10
     clear c10; have HC11 := Aside0.mk H; clear H
     go_upto_region 8 with (fail)
     go_cut [45] (fun v45 wc => ∃ (kq : Nat) (x45_10 : Bool), v45 = .bool x45_10 ∧ Aside0 (spec_l16Best.j1 kq l0 l1 l2 a3 (l2.length : Int) x11_1 x12_1 x13_1 x45_10 = some (r1, r2)) ∧ Aside0 (kq ≤ k1) ∧ Aside0 (Kd.R (Kd.int .i64) 3 wc w0.heap.size (fun k_ => (P2_ k_ ∨ w.heap.size ≤ k_) ∧ some k_ ≠ (u11 : Value).ownBlock) (.slice Ao7 l2.length co7) l2) ∧ Aside0 (Kd.R (Kd.int .i64) 3 wc w0.heap.size (fun k_ => (P2_ k_ ∨ w.heap.size ≤ k_) ∧ some k_ ≠ ((.slice Ao7 l2.length co7) : Value).ownBlock) u11 x11_1) ∧ Aside0 (Kept w wc (fun k_ => P2_ k_)) ∧ Aside0 (Below w0.heap.size w0 wc))
     case first =>
      have H := HC11.out
      clear HC11; replace H := Option.bind_eq_some_iff.mp H; obtain ⟨t220, A120, H⟩ := H
      try dsimp only at H
      have A12 := Aside0.mk A120; clear A120
      by_cases c13 : t220 = true
      ·subst c13
       have H1 : (spec_l16Best.j1 k1 l0 l1 l2 a3 (l2.length : Int) x11_1 x12_1 x13_1 true) = some (r1, r2) := by rw [if_pos rfl] at H; exact H
       clear H; have H := H1; clear H1
       have H' := Aside0.mk H
       clear H
       try go_wp2
       have n0_ := Aside0.mk (Kd.R_drew HO_2.out)
       have n1_ := Aside0.mk (Kd.R_drew HO_11.out)
       have n2_ := Aside0.mk (Kept.drew HK.out)
       have n3_ := Aside0.mk (below_drew1 HB.out)
       clear HO_2; clear HO_11; clear HK; clear HB
       have HO_2 := n0_
       have HO_11 := n1_
       have HK := n2_
       have HB := n3_
       clear n0_ n1_ n2_ n3_
       refine start_ (n := 15) (S := fun w' => True) (ds := []) qJ7_b0 (by kernel_rfl) rfl rfl trivial (fun hHeld => ?_); refine with_tabW spec_l16Best.tab8 spec_l16Best.bits8 (fun HT_ HW_ => ?_)
       generalize wr.drew = w14 at HO_2 HO_11 HK HB hHeld ⊢
       refine pure_ (i := 0) (N := some 31) (v := ?_) (a' := ?_) qJ7_b1 rfl rfl (qJ7_5) (fun _ _ _ h => h) (Or.inl ⟨by rfl, ?_⟩) ?_ ?_
       rotate_left; exact qJ7_c1; rotate_left; exact qJ7_c0
       refine pure_ (i := 1) (N := some 32) (v := ?_) (a' := ?_) qJ7_b2 rfl rfl (qJ7_5) (fun _ _ _ h => h) (Or.inl ⟨by rfl, ?_⟩) ?_ ?_
       rotate_left; exact qJ7_c1; rotate_left; exact qJ7_c0
       refine one_ (i := 2) (N := some 33) qJ7_b3 rfl rfl (qJ7_15) (by decide) (fun K hK => ?_)
       refine goes_ Try.func71 (by kernel_rfl) rfl #[.slice Ao7 l2.length co7, .int .i64 x13_1] (by rfl) rfl rfl (qJ7_7) ?_
       with_reducible refine (spec_l1Has.calls k1 _ _ l2 x13_1 true _ ?side1 ?side2 A12.out).mono ?_
       (case side1 => exact (qJ7_8))
       (case side2 => exact (qJ7_32))
       rintro e w' ⟨rfl, ⟨nd, rfl⟩⟩
       refine ⟨_, rfl, ?_⟩
       refine hK.out _ _ trivial (fun hHeld => ?_)
       clear hK K
       refine norm_ (a' := ?_) ?_ ?_
       rotate_left
       ·show Act.put _ (some 33) _ = _
        simp only [Act.put, List.setIfInBounds_toArray, List.set_cons_zero, List.set_cons_succ, i64_w, i32_w]
        rfl
       refine pure_ (i := 3) (N := some 34) (v := ?_) (a' := ?_) qJ7_b4 rfl rfl (qJ7_5) (fun _ _ _ h => h) (Or.inl ⟨by rfl, ?_⟩) ?_ ?_
       rotate_left; exact qJ7_c1; rotate_left; exact qJ7_c0
       refine pure_ (i := 4) (N := some 35) (v := undef) (a' := ?_) qJ7_b5 rfl rfl (qJ7_5) (fun _ _ _ h => h) (Or.inr ⟨by rfl, rfl⟩) ?_ ?_
       rotate_left
       ·exact qJ7_c0
       refine pure_ (i := 5) (N := some 36) (v := undef) (a' := ?_) qJ7_b6 rfl rfl (qJ7_5) (fun _ _ _ h => h) (Or.inr ⟨by rfl, rfl⟩) ?_ ?_
       rotate_left
       ·exact qJ7_c0
       refine pure_ (i := 6) (N := some 37) (v := undef) (a' := ?_) qJ7_b7 rfl rfl (qJ7_5) (fun _ _ _ h => h) (Or.inr ⟨by rfl, rfl⟩) ?_ ?_
       rotate_left
       ·exact qJ7_c0
       refine pure_ (i := 7) (N := some 38) (v := undef) (a' := ?_) #[true, true, true, true, true, true, true, true, false, false, false, false, false, false, false] rfl rfl (qJ7_5) (fun _ _ _ h => h) (Or.inr ⟨by rfl, rfl⟩) ?_ ?_
       rotate_left
       ·exact qJ7_c0
       refine pure_ (i := 8) (N := some 39) (v := undef) (a' := ?_) #[true, true, true, true, true, true, true, true, true, false, false, false, false, false, false] rfl rfl (qJ7_5) (fun _ _ _ h => h) (Or.inr ⟨by rfl, rfl⟩) ?_ ?_
       rotate_left
       ·exact qJ7_c0
       refine pure_ (i := 9) (N := some 40) (v := undef) (a' := ?_) #[true, true, true, true, true, true, true, true, true, true, false, false, false, false, false] rfl rfl (qJ7_5) (fun _ _ _ h => h) (Or.inr ⟨by rfl, rfl⟩) ?_ ?_
       rotate_left
       ·exact qJ7_c0
       refine pure_ (i := 10) (N := some 41) (v := undef) (a' := ?_) qJ7_b8 rfl rfl (qJ7_5) (fun _ _ _ h => h) (Or.inr ⟨by rfl, rfl⟩) ?_ ?_
       rotate_left
       ·exact qJ7_c0
       refine pure_ (i := 11) (N := some 42) (v := undef) (a' := ?_) qJ7_b9 rfl rfl (qJ7_5) (fun _ _ _ h => h) (Or.inr ⟨by rfl, rfl⟩) ?_ ?_
       rotate_left
       ·exact qJ7_c0
       refine pure_ (i := 12) (N := some 43) (v := undef) (a' := ?_) qJ7_b10 rfl rfl (qJ7_5) (fun _ _ _ h => h) (Or.inr ⟨by rfl, rfl⟩) ?_ ?_
       rotate_left
       ·exact qJ7_c0
       refine pure_ (i := 13) (N := some 44) (v := undef) (a' := ?_) qJ7_b11 rfl rfl (qJ7_5) (fun _ _ _ h => h) (Or.inr ⟨by rfl, rfl⟩) ?_ ?_
       rotate_left
       ·exact qJ7_c0
       refine pure_ (i := 14) (N := some 45) (v := ?_) (a' := ?_) qJ7_b12 rfl rfl (qJ7_5) (fun _ _ _ h => h) (Or.inl ⟨by rfl, ?_⟩) ?_ ?_
       rotate_left; exact qJ7_c1; rotate_left; exact qJ7_c0
       refine done_ (qJ7_33) ?_
       try go_wp2
       go_meet
       case rel => exact ⟨_, (true), (qJ7_16), H', ⟨by have := HK1.out; first | omega | exact Nat.le_refl _⟩, ⟨(qJ7_4)⟩, ⟨(qJ7_3)⟩, ⟨(qJ7_1)⟩, ⟨(qJ7_0)⟩⟩
      ·replace c13 := Bool.eq_false_iff.mpr c13
       subst c13
       have H1 : (if 0 ≤ x13_1 then (if 0 ≤ (l2.length : Int) then (if (l2.length : Int) < (l0.length : Int) then ((spec_l16Need.f ((rd_T36 l0 (l2.length : Int)).f0) ((rd_T36 l0 (l2.length : Int)).f1)).bind fun t223 => (spec_l16Best.j1 k1 l0 l1 l2 a3 (l2.length : Int) x11_1 x12_1 x13_1 (decide ((rd l1 x13_1) < t223)))) else (none)) else (none)) else (none)) = some (r1, r2) := by rw [if_neg (show ¬ (false = true) by decide)] at H; exact H
       clear H; have H := H1; clear H1
       by_cases c15 : 0 ≤ x13_1
       ·rw [if_pos c15] at H
        have c15b0 : decide (0 ≤ x13_1) = true := decide_eq_true c15
        clear c15
        (first | rw [c15b0] | (simp only [i64_w, i32_w]; rw [c15b0]) | skip)
        by_cases c16 : 0 ≤ (l2.length : Int)
        ·rw [if_pos c16] at H
         have c16b0 : decide (0 ≤ (l2.length : Int)) = true := decide_eq_true c16
         have c16b1 : decide (0 ≤ l2.length) = true := decide_eq_true (by omega)
         clear c16
         by_cases c17 : (l2.length : Int) < (l0.length : Int)
         ·rw [if_pos c17] at H
          have c17b0 : decide ((l2.length : Int) < (l0.length : Int)) = true := decide_eq_true c17
          have c17b1 : decide (l2.length < l0.length) = true := decide_eq_true (Int.ofNat_lt.mp c17)
          clear c17; replace H := Option.bind_eq_some_iff.mp H; obtain ⟨t223, A180, H⟩ := H
          try dsimp only at H
          have A18 := Aside0.mk A180; clear A180
          have H' := Aside0.mk H
          clear H
          try go_wp2
          have n0_ := Aside0.mk (Kd.R_drew HO_2.out)
          have n1_ := Aside0.mk (Kd.R_drew HO_11.out)
          have n2_ := Aside0.mk (Kept.drew HK.out)
          have n3_ := Aside0.mk (below_drew1 HB.out)
          clear HO_2; clear HO_11; clear HK; clear HB
          have HO_2 := n0_
          have HO_11 := n1_
          have HK := n2_
          have HB := n3_
          clear n0_ n1_ n2_ n3_
          have p221 : 0 ≤ (x13_1 : Int) := of_decide_eq_true (qJ7_26)
          have q221 : x13_1 < (l1.length : Int) := of_decide_eq_true (qJ7_26)
          obtain ⟨ad221, e221, hx221_0⟩ := Kd.at_int (Kd.C_kept_now HR1.out HK.out) x13_1 p221 q221
          have hw221_0 := hx221_0
          cases e221
          replace p221 := eq_true p221
          replace q221 := eq_true q221
          have p222 : 0 ≤ ((l2.length : Int) : Int) := of_decide_eq_true (qJ7_26)
          have q222 : (l2.length : Int) < (l0.length : Int) := of_decide_eq_true (qJ7_26)
          obtain ⟨ad222, e222, hx222_0, hx222_1⟩ := at_T36 (Kd.C_kept_now HR0.out HK.out) (l2.length : Int) p222 q222
          have hw222_1 := hx222_1
          have hw222_0 := hx222_0
          cases e222
          (try simp only [Go.IntWalk.toNatUp] at hx222_0)
          (try simp only [Go.IntWalk.toNatUp] at hx222_1)
          replace p222 := eq_true p222
          replace q222 := eq_true q222
          refine start_ (n := 15) (S := fun w' => w'.cell? (ad221.add (x13_1).toNat) = some (.int .i64 (rd l1 x13_1)) ∧ w'.cell? (ad222.add (l2.length * 2)) = some (.int .i64 ((rd_T36 l0 (l2.length : Int)).f0)) ∧ w'.cell? ⟨(ad222.add (l2.length * 2)).block, (ad222.add (l2.length * 2)).off + 1, none⟩ = some (.int .i64 ((rd_T36 l0 (l2.length : Int)).f1))) (ds := []) qJ7_b0 (by kernel_rfl) rfl rfl ⟨(Kd.foot_int (HR1.out _ (qJ7_6)) x13_1 (of_eq_true p221) (of_eq_true q221)), hx222_0, hx222_1⟩ (fun hHeld => ?_); refine with_tabW spec_l16Best.tab8 spec_l16Best.bits8 (fun HT_ HW_ => ?_)
          generalize wr.drew = w19 at HO_2 HO_11 HK HB hx221_0 hx222_0 hx222_1 hHeld ⊢
          refine pure_ (i := 0) (N := some 31) (v := ?_) (a' := ?_) qJ7_b1 rfl rfl (qJ7_5) (fun _ _ _ h => h) (Or.inl ⟨by rfl, ?_⟩) ?_ ?_
          rotate_left; exact qJ7_c1; rotate_left; exact qJ7_c0
          refine pure_ (i := 1) (N := some 32) (v := ?_) (a' := ?_) qJ7_b2 rfl rfl (qJ7_5) (fun _ _ _ h => h) (Or.inl ⟨by rfl, ?_⟩) ?_ ?_
          rotate_left; exact qJ7_c1; rotate_left; exact qJ7_c0
          refine one_ (i := 2) (N := some 33) qJ7_b3 rfl rfl (qJ7_15) (by decide) (fun K hK => ?_)
          refine goes_ Try.func71 (by kernel_rfl) rfl #[.slice Ao7 l2.length co7, .int .i64 x13_1] (by rfl) rfl rfl (qJ7_7) ?_
          with_reducible refine (spec_l1Has.calls k1 _ _ l2 x13_1 false _ ?side1 ?side2 A12.out).mono ?_
          (case side1 => exact (qJ7_8))
          (case side2 => exact (qJ7_32))
          rintro e w' ⟨rfl, ⟨nd, rfl⟩⟩
          refine ⟨_, rfl, ?_⟩
          refine hK.out _ _ ⟨(Kd.foot_int (HR1.out _ (qJ7_6)) x13_1 (of_eq_true p221) (of_eq_true q221)), hHeld.2.1, hHeld.2.2⟩ (fun hHeld => ?_)
          clear hK K
          refine norm_ (a' := ?_) ?_ ?_
          rotate_left
          ·show Act.put _ (some 33) _ = _
           simp only [Act.put, List.setIfInBounds_toArray, List.set_cons_zero, List.set_cons_succ, i64_w, i32_w]
           rfl
          refine pure_ (i := 3) (N := some 34) (v := ?_) (a' := ?_) qJ7_b4 rfl rfl (qJ7_5) (fun _ _ _ h => h) (Or.inl ⟨by rfl, ?_⟩) ?_ ?_
          rotate_left; exact qJ7_c1; rotate_left; exact qJ7_c0
          refine pure_ (i := 4) (N := some 35) (v := ?_) (a' := ?_) qJ7_b5 rfl rfl (qJ7_5) (fun _ _ _ h => h) (Or.inl ⟨by rfl, ?_⟩) ?_ ?_
          rotate_left; exact qJ7_c1; rotate_left; exact qJ7_c0
          refine pure_ (i := 5) (N := some 36) (v := ?_) (a' := ?_) qJ7_b6 rfl rfl (qJ7_5) (fun _ _ _ h => h) (Or.inl ⟨by rfl, ?_⟩) ?_ ?_
          rotate_left; exact qJ7_c1; rotate_left; exact qJ7_c0
          refine pure_ (i := 6) (N := some 37) (v := ?_) (a' := ?_) qJ7_b7 rfl rfl (qJ7_5) (fun _ _ _ h => h) (Or.inl ⟨by rfl, ?_⟩) ?_ ?_
          rotate_left; exact qJ7_c1; rotate_left; exact qJ7_c0
          refine pure_ (i := 8) (N := some 39) (v := ?_) (a' := ?_) #[true, true, true, true, true, true, true, false, true, false, false, false, false, false, false] rfl rfl (qJ7_5) (fun _ _ _ h => h) (Or.inl ⟨by rfl, ?_⟩) ?_ ?_
          rotate_left; exact qJ7_c1; rotate_left; exact qJ7_c0
          refine pure_ (i := 9) (N := some 40) (v := ?_) (a' := ?_) #[true, true, true, true, true, true, true, false, true, true, false, false, false, false, false] rfl rfl (qJ7_5) (fun _ _ _ h => h) (Or.inl ⟨by rfl, ?_⟩) ?_ ?_
          rotate_left; exact qJ7_c1; rotate_left; exact qJ7_c0
          refine pure_ (i := 10) (N := some 41) (v := ?_) (a' := ?_) #[true, true, true, true, true, true, true, false, true, true, true, false, false, false, false] rfl rfl (qJ7_5) (fun _ _ _ h => h) (Or.inl ⟨by rfl, ?_⟩) ?_ ?_
          rotate_left; exact qJ7_c1; rotate_left; exact qJ7_c0
          refine take_ (i := 7) (N := some 38) (v := ?_) (a' := ?_) qJ7_b8 rfl rfl (take_ofW HT_.out HW_.out (by kernel_rfl)) (fun _ _ _ h => h) (Or.inl ⟨by rfl, ?_⟩) hHeld ?_ ?_
          rotate_left
          ·rintro w' ⟨s0, s1, s2⟩
           go_simp
           with_reducible rfl
          rotate_left
          ·exact qJ7_c0
          refine take_ (i := 11) (N := some 42) (v := ?_) (a' := ?_) qJ7_b9 rfl rfl (take_ofW HT_.out HW_.out (by kernel_rfl)) (fun _ _ _ h => h) (Or.inl ⟨by rfl, ?_⟩) hHeld ?_ ?_
          rotate_left
          ·rintro w' ⟨s0, s1, s2⟩
           go_simp
           with_reducible rfl
          rotate_left
          ·exact qJ7_c0
          refine one_ (i := 12) (N := some 43) qJ7_b10 rfl rfl (qJ7_15) (by decide) (fun K hK => ?_)
          refine goes_ Try.func47 (by kernel_rfl) rfl #[.agg #[.int .i64 ((rd_T36 l0 (l2.length : Int)).f0), .int .i64 ((rd_T36 l0 (l2.length : Int)).f1)]] (by rfl) rfl rfl (qJ7_7) ?_
          with_reducible refine (spec_l16Need.calls ((rd_T36 l0 (l2.length : Int)).f0) ((rd_T36 l0 (l2.length : Int)).f1) t223 _ A18.out).mono ?_
          rintro e w20 ⟨rfl, hb⟩
          have HS1_ := (hb.cell (World.block_lt_of_cell? _ _ (hHeld.2.1))).trans (hHeld.2.1)
          have HS2_ := (hb.cell (World.block_lt_of_cell? _ _ (hHeld.2.2))).trans (hHeld.2.2)
          refine ⟨_, rfl, ?_⟩
          have n0_ := Aside0.mk (Kd.R_below (qJ7_4) hb)
          have n1_ := Aside0.mk (Kd.R_below (qJ7_3) hb)
          have n2_ := Aside0.mk (Kept.below (S := (fun k_ => P2_ k_)) (qJ7_1) hb)
          have n3_ := Aside0.mk (below_step (qJ7_0) hb)
          clear HO_2; clear HO_11; clear HK; clear HB
          have HO_2 := n0_
          have HO_11 := n1_
          have HK := n2_
          have HB := n3_
          clear n0_ n1_ n2_ n3_
          (try clear hb)
          (try clear hb2)
          (try clear hk)
          (try clear hi)
          refine hK.out _ _ ⟨(Kd.foot_int (HR1.out _ (qJ7_6)) x13_1 (of_eq_true p221) (of_eq_true q221)), HS1_, HS2_⟩ (fun hHeld => ?_)
          clear hK K
          refine norm_ (a' := ?_) ?_ ?_
          rotate_left
          ·show Act.put _ (some 43) _ = _
           simp only [Act.put, List.setIfInBounds_toArray, List.set_cons_zero, List.set_cons_succ, i64_w, i32_w]
           rfl
          refine pure_ (i := 13) (N := some 44) (v := ?_) (a' := ?_) qJ7_b11 rfl rfl (qJ7_5) (fun _ _ _ h => h) (Or.inl ⟨by rfl, ?_⟩) ?_ ?_
          rotate_left; exact qJ7_c1; rotate_left; exact qJ7_c0
          refine pure_ (i := 14) (N := some 45) (v := ?_) (a' := ?_) qJ7_b12 rfl rfl (qJ7_5) (fun _ _ _ h => h) (Or.inl ⟨by rfl, ?_⟩) ?_ ?_
          rotate_left; exact qJ7_c1; rotate_left; exact qJ7_c0
          refine done_ (qJ7_33) ?_
          try go_wp2
          go_meet
          case rel => exact ⟨_, (decide ((rd l1 x13_1) < t223)), (qJ7_16), H', ⟨by have := HK1.out; first | omega | exact Nat.le_refl _⟩, ⟨(qJ7_4)⟩, ⟨(qJ7_3)⟩, ⟨(qJ7_1)⟩, ⟨(qJ7_0)⟩⟩
         ·rw [if_neg c17] at H
          exact absurd H (by simp)
        ·rw [if_neg c16] at H
         exact absurd H (by simp)
       ·rw [if_neg c15] at H
        exact absurd H (by simp)
     case rest =>
      clear HC11
      try clear c1
      try clear p2
      try clear q2
      try clear hx2
      try clear c4
      try clear c5
      try clear c5b0
      try clear c5b1
      try clear c5b2
      try clear c6
      try clear c7
      try clear c10
      try clear c10b0
      try clear c13
      try clear c15
      try clear c15b0
      try clear c16
      try clear c16b0
      try clear c16b1
      try clear c17
      try clear c17b0
      try clear c17b1
      try clear hx221_0
      try clear hx222_0
      try clear hx222_1
      try clear p2
      try clear p221
      try clear p222
      try clear q221
      try clear q222
      obtain ⟨kq, x45_10, rfl, HA, HJ10, HO_2, HO_11, HK, HB⟩ := hcut
      cases kq with
      | zero => exact absurd HA.out (by simp [spec_l16Best.j1])
      | succ kj10 =>
       have H := HA.out
       clear HA
       simp only [spec_l16Best.j1] at H
       by_cases c21 : x45_10 = true
       ·subst c21
        have H1 : (spec_l16Best.l0 kj10 l0 l1 l2 a3 (l2.length : Int) x11_1 x12_1 (wrap64 (x13_1 + 1))) = some (r1, r2) := by rw [if_pos rfl] at H; exact H
        clear H; have H := H1; clear H1
        have H' := Aside0.mk H
        clear H
        go_wp2
        go_roundg kj10
        case measure => have := HK1.out; have := HJ10.out; omega
        case rel => exact ⟨(x11_1), (x12_1), (wrap64 (x13_1 + 1)), (qJ7_16), (qJ7_16), H', ⟨by have := HK1.out; have := HJ10.out; omega⟩, ⟨(qJ7_4)⟩, ⟨(qJ7_3)⟩, ⟨(qJ7_1)⟩, ⟨(qJ7_0)⟩⟩
       ·replace c21 := Bool.eq_false_iff.mpr c21
        subst c21
        have H1 : ((spec_l1Own.f l2).bind fun t224 => ((some (([x13_1] : List Int) : List Int)).bind fun y227 => (if t224.length + y227.length < 17592186044416 then (if 0 ≤ x13_1 then (if x13_1 < (l1.length : Int) then ((spec_l16Best.f kj10 l0 l1 (t224 ++ y227) (wrap64 (a3 + (rd l1 x13_1)))).bind fun bt234 => (if bt234.2 ≥ 0 then (if x12_1 < 0 then (spec_l16Best.l0 kj10 l0 l1 l2 a3 (l2.length : Int) bt234.1 bt234.2 (wrap64 (x13_1 + 1))) else (if bt234.2 < x12_1 then (spec_l16Best.l0 kj10 l0 l1 l2 a3 (l2.length : Int) bt234.1 bt234.2 (wrap64 (x13_1 + 1))) else (spec_l16Best.l0 kj10 l0 l1 l2 a3 (l2.length : Int) x11_1 x12_1 (wrap64 (x13_1 + 1))))) else (spec_l16Best.l0 kj10 l0 l1 l2 a3 (l2.length : Int) x11_1 x12_1 (wrap64 (x13_1 + 1))))) else (none)) else (none)) else (none)))) = some (r1, r2) := by rw [if_neg (show ¬ (false = true) by decide)] at H; exact H
        clear H; have H := H1; clear H1; replace H := Option.bind_eq_some_iff.mp H; obtain ⟨t224, A220, H⟩ := H
        try dsimp only at H
        have A22 := Aside0.mk A220; clear A220
        obtain ⟨y227, hy227⟩ : ∃ y_ : List Int, y_ = (([x13_1] : List Int)) := ⟨_, rfl⟩
        replace H : (if t224.length + y227.length < 17592186044416 then (if 0 ≤ x13_1 then (if x13_1 < (l1.length : Int) then ((spec_l16Best.f kj10 l0 l1 (t224 ++ y227) (wrap64 (a3 + (rd l1 x13_1)))).bind fun bt234 => (if bt234.2 ≥ 0 then (if x12_1 < 0 then (spec_l16Best.l0 kj10 l0 l1 l2 a3 (l2.length : Int) bt234.1 bt234.2 (wrap64 (x13_1 + 1))) else (if bt234.2 < x12_1 then (spec_l16Best.l0 kj10 l0 l1 l2 a3 (l2.length : Int) bt234.1 bt234.2 (wrap64 (x13_1 + 1))) else (spec_l16Best.l0 kj10 l0 l1 l2 a3 (l2.length : Int) x11_1 x12_1 (wrap64 (x13_1 + 1))))) else (spec_l16Best.l0 kj10 l0 l1 l2 a3 (l2.length : Int) x11_1 x12_1 (wrap64 (x13_1 + 1))))) else (none)) else (none)) else (none)) = some (r1, r2) := by first | (rw [hy227]; with_reducible exact H) | (have H2_ := (Option.bind_some _ _).symm.trans H; rw [hy227]; with_reducible exact H2_) | (have H2_ := (Option.bind_some _ _).symm.trans H; with_reducible exact H2_) | with_reducible exact H | (rw [hy227]; exact H) | exact H
        have Ny227 := Aside0.mk hy227; clear hy227
        by_cases c23 : t224.length + y227.length < 17592186044416
        ·rw [if_pos c23] at H; have LMc23 := Aside0.mk c23; clear c23
         obtain ⟨y230, hy230⟩ : ∃ y_ : List Int, y_ = (t224 ++ y227) := ⟨_, rfl⟩
         replace H : (if 0 ≤ x13_1 then (if x13_1 < (l1.length : Int) then ((spec_l16Best.f kj10 l0 l1 y230 (wrap64 (a3 + (rd l1 x13_1)))).bind fun bt234 => (if bt234.2 ≥ 0 then (if x12_1 < 0 then (spec_l16Best.l0 kj10 l0 l1 l2 a3 (l2.length : Int) bt234.1 bt234.2 (wrap64 (x13_1 + 1))) else (if bt234.2 < x12_1 then (spec_l16Best.l0 kj10 l0 l1 l2 a3 (l2.length : Int) bt234.1 bt234.2 (wrap64 (x13_1 + 1))) else (spec_l16Best.l0 kj10 l0 l1 l2 a3 (l2.length : Int) x11_1 x12_1 (wrap64 (x13_1 + 1))))) else (spec_l16Best.l0 kj10 l0 l1 l2 a3 (l2.length : Int) x11_1 x12_1 (wrap64 (x13_1 + 1))))) else (none)) else (none)) = some (r1, r2) := by first | (rw [hy230]; with_reducible exact H) | (have H2_ := (Option.bind_some _ _).symm.trans H; rw [hy230]; with_reducible exact H2_) | (have H2_ := (Option.bind_some _ _).symm.trans H; with_reducible exact H2_) | with_reducible exact H | (rw [hy230]; exact H) | exact H
         have Ny230 := Aside0.mk hy230; clear hy230
         by_cases c24 : 0 ≤ x13_1
         ·rw [if_pos c24] at H
          have c24b0 : decide (0 ≤ x13_1) = true := decide_eq_true c24
          clear c24
          by_cases c25 : x13_1 < (l1.length : Int)
          ·rw [if_pos c25] at H
           have c25b0 : decide (x13_1 < (l1.length : Int)) = true := decide_eq_true c25
           clear c25; replace H := Option.bind_eq_some_iff.mp H; obtain ⟨⟨t234, t237⟩, A260, H⟩ := H
           try dsimp only at H
           have A26 := Aside0.mk A260; clear A260
           by_cases c27 : t237 ≥ 0
           ·rw [if_pos c27] at H
            have c27b0 : decide (0 ≤ t237) = true := decide_eq_true c27
            clear c27
            by_cases c28 : x12_1 < 0
            ·rw [if_pos c28] at H
             have c28b0 : decide (x12_1 < 0) = true := decide_eq_true c28
             clear c28
             have H' := Aside0.mk H
             clear H
             try go_wp2
             have n0_ := Aside0.mk (Kd.R_drew HO_2.out)
             have n1_ := Aside0.mk (Kd.R_drew HO_11.out)
             have n2_ := Aside0.mk (Kept.drew HK.out)
             have n3_ := Aside0.mk (below_drew1 HB.out)
             clear HO_2; clear HO_11; clear HK; clear HB
             have HO_2 := n0_
             have HO_11 := n1_
             have HK := n2_
             have HB := n3_
             clear n0_ n1_ n2_ n3_
             have p233 : 0 ≤ (x13_1 : Int) := of_decide_eq_true (qJ7_26)
             have q233 : x13_1 < (l1.length : Int) := of_decide_eq_true (qJ7_26)
             obtain ⟨ad233, e233, hx233_0⟩ := Kd.at_int (Kd.C_kept_now HR1.out HK.out) x13_1 p233 q233
             have hw233_0 := hx233_0
             cases e233
             replace p233 := eq_true p233
             replace q233 := eq_true q233
             refine start_ (n := 19) (S := fun w' => w'.cell? (ad233.add (x13_1).toNat) = some (.int .i64 (rd l1 x13_1))) (ds := []) qJ7_b13 (by kernel_rfl) rfl rfl ((Kd.foot_int (HR1.out _ (qJ7_6)) x13_1 (of_eq_true p233) (of_eq_true q233))) (fun hHeld => ?_); refine with_tabW spec_l16Best.tab9 spec_l16Best.bits9 (fun HT_ HW_ => ?_)
             generalize wc.drew = w29 at HO_2 HO_11 HK HB hx233_0 hHeld ⊢
             refine pure_ (i := 0) (N := some 47) (v := ?_) (a' := ?_) qJ7_b14 rfl rfl (qJ7_5) (fun _ _ _ h => h) (Or.inl ⟨by rfl, ?_⟩) ?_ ?_
             rotate_left; exact qJ7_c1; rotate_left; exact qJ7_c0
             refine pure_ (i := 1) (N := some 48) (v := ?_) (a' := ?_) qJ7_b15 rfl rfl (qJ7_5) (fun _ _ _ h => h) (Or.inl ⟨by rfl, ?_⟩) ?_ ?_
             rotate_left; exact qJ7_c1; rotate_left; exact qJ7_c0
             refine pure_ (i := 2) (N := some 49) (v := ?_) (a' := ?_) qJ7_b16 rfl rfl (qJ7_5) (fun _ _ _ h => h) (Or.inl ⟨by rfl, ?_⟩) ?_ ?_
             rotate_left; exact qJ7_c1; rotate_left; exact qJ7_c0
             refine pure_ (i := 4) (N := some 51) (v := ?_) (a' := ?_) qJ7_b17 rfl rfl (qJ7_5) (fun _ _ _ h => h) (Or.inl ⟨by rfl, ?_⟩) ?_ ?_
             rotate_left; exact qJ7_c1; rotate_left; exact qJ7_c0
             refine pure_ (i := 7) (N := some 54) (v := ?_) (a' := ?_) qJ7_b18 rfl rfl (qJ7_5) (fun _ _ _ h => h) (Or.inl ⟨by rfl, ?_⟩) ?_ ?_
             rotate_left; exact qJ7_c1; rotate_left; exact qJ7_c0
             refine pure_ (i := 8) (N := some 55) (v := ?_) (a' := ?_) qJ7_b19 rfl rfl (qJ7_5) (fun _ _ _ h => h) (Or.inl ⟨by rfl, ?_⟩) ?_ ?_
             rotate_left; exact qJ7_c1; rotate_left; exact qJ7_c0
             refine pure_ (i := 9) (N := some 56) (v := ?_) (a' := ?_) qJ7_b20 rfl rfl (qJ7_5) (fun _ _ _ h => h) (Or.inl ⟨by rfl, ?_⟩) ?_ ?_
             rotate_left; exact qJ7_c1; rotate_left; exact qJ7_c0
             refine pure_ (i := 10) (N := some 57) (v := ?_) (a' := ?_) qJ7_b21 rfl rfl (qJ7_5) (fun _ _ _ h => h) (Or.inl ⟨by rfl, ?_⟩) ?_ ?_
             rotate_left; exact qJ7_c1; rotate_left; exact qJ7_c0
             refine take_ (i := 11) (N := some 58) (v := ?_) (a' := ?_) qJ7_b22 rfl rfl (take_ofW HT_.out HW_.out (by kernel_rfl)) (fun _ _ _ h => h) (Or.inl ⟨by rfl, ?_⟩) hHeld ?_ ?_
             rotate_left
             ·intro w' s0
              go_simp
              with_reducible rfl
             rotate_left
             ·exact qJ7_c0
             refine pure_ (i := 12) (N := some 59) (v := ?_) (a' := ?_) qJ7_b23 rfl rfl (qJ7_5) (fun _ _ _ h => h) (Or.inl ⟨by rfl, ?_⟩) ?_ ?_
             rotate_left; exact qJ7_c1; rotate_left; exact qJ7_c0
             refine join_ (σ := Value × Value) 7 qJ7_b24 (fun s_ => [(50, s_.1), (52, s_.2)]) (fun s_ w' => (w'.cell? (ad233.add (x13_1).toNat) = some (.int .i64 (rd l1 x13_1))) ∧ (Kd.R (Kd.int .i64) 3 w' w0.heap.size (fun k_ => (P2_ k_ ∨ w.heap.size ≤ k_) ∧ some k_ ≠ (s_.2 : Value).ownBlock ∧ some k_ ≠ (u11 : Value).ownBlock ∧ some k_ ≠ (.slice Ao7 l2.length co7 : Value).ownBlock) s_.1 t224) ∧ (Kd.R (Kd.int .i64) 3 w' w0.heap.size (fun k_ => (P2_ k_ ∨ w.heap.size ≤ k_) ∧ some k_ ≠ (s_.1 : Value).ownBlock ∧ some k_ ≠ (u11 : Value).ownBlock ∧ some k_ ≠ (.slice Ao7 l2.length co7 : Value).ownBlock) s_.2 y227) ∧ (Kd.R (Kd.int .i64) 3 w' w0.heap.size (fun k_ => (P2_ k_ ∨ w.heap.size ≤ k_) ∧ some k_ ≠ (s_.1 : Value).ownBlock ∧ some k_ ≠ (s_.2 : Value).ownBlock ∧ some k_ ≠ (.slice Ao7 l2.length co7 : Value).ownBlock) u11 x11_1) ∧ (Kd.R (Kd.int .i64) 3 w' w0.heap.size (fun k_ => (P2_ k_ ∨ w.heap.size ≤ k_) ∧ some k_ ≠ (s_.1 : Value).ownBlock ∧ some k_ ≠ (s_.2 : Value).ownBlock ∧ some k_ ≠ (u11 : Value).ownBlock) (.slice Ao7 l2.length co7) l2) ∧ (Kept w w' (fun k_ => P2_ k_)) ∧ (Below w0.heap.size w0 w')) ?_ ?_
             rotate_left
             ·intro hCont
              refine two_ (i := 3) (j := 5) (Ni := some 50) (Nj := some 52) qJ7_b25 qJ7_b26 rfl rfl rfl rfl (two_of HT_.out (by kernel_rfl)) (by decide) (by decide) (fun K hK => ?_) (fun K hK => ?_)
              ·skip
               refine goes_ Try.func74 (by kernel_rfl) rfl #[.slice Ao7 l2.length co7] (by rfl) rfl rfl (qJ7_7) ?_
               with_reducible refine (spec_l1Own.calls _ _ l2 t224 _ ?side1 ?side2 A22.out).mono ?_
               (case side1 => exact (qJ7_8))
               (case side2 => exact (qJ7_32))
               rintro e w30 ⟨v225, rfl, ho0, hb⟩
               refine ⟨_, rfl, ?_⟩
               have n0_ := Aside0.mk (Kd.R_elder' (qJ7_4) (Kd.R_base ho0) hb)
               have n1_ := Aside0.mk (Kd.R_elder' (qJ7_3) (Kd.R_base ho0) hb)
               have n2_ := Aside0.mk (Kd.R_lower (Kd.R_new' (Kd.R_new' (Kd.R_newM (M := fun k_ => (P2_ k_ ∨ w.heap.size ≤ k_)) ho0 (qJ7_2) (fun k_ h_ => .inr h_)) (Kd.R_lt (qJ7_4))) (Kd.R_lt (qJ7_3))) (below_size (qJ7_0)))
               have n3_ := Aside0.mk (Kept.below (S := (fun k_ => P2_ k_)) (qJ7_1) hb)
               have n4_ := Aside0.mk (below_step (qJ7_0) hb)
               clear HO_2; clear HO_11; clear HK; clear HB
               have HO_2 := n0_
               have HO_11 := n1_
               have HO226 := n2_
               have HK := n3_
               have HB := n4_
               clear n0_ n1_ n2_ n3_ n4_
               (try clear hb)
               (try clear hb2)
               (try clear hk)
               (try clear hi)
               (try clear ho0)
               refine hK.out _ _ ((Kd.foot_int (HR1.out _ (qJ7_6)) x13_1 (of_eq_true p233) (of_eq_true q233))) (fun hHeld => ?_)
               clear hK K
               refine norm_ (a' := ?_) ?_ ?_
               rotate_left
               ·exact qJ7_c2
               refine one_ (i := 5) (N := some 52) qJ7_b24 rfl rfl (qJ7_15) (by decide) (fun K hK => ?_)
               refine Kd.R_lit_step (Kd.int .i64) _ 3 ?hg (N := 52) ?hd (xs := ([x13_1] : List Int)) (inner := [.int .i64 x13_1]) (ok := fun _ => True) (okp := fun _ => True) ?hr ?hp (fun _ hk => hk) trivial (Below.refl _ _) (Nat.le_refl _) (by simp) ?_; (case hd => rfl); (case hg => rfl); (case hr => exact (qJ7_29)); (case hp => exact (qJ7_13))
               intro v228 w31 ho32 hb hg_ hnew_
               clear hg_ hnew_
               (first | rw [← Ny227.out] at ho32 | (simp only [Int.reduceToNat] at ho32; rw [← Ny227.out] at ho32))
               have n0_ := Aside0.mk (Kd.R_elder' (qJ7_4) (Kd.R_base ho32) hb)
               have n1_ := Aside0.mk (Kd.R_elder' (qJ7_3) (Kd.R_base ho32) hb)
               have n2_ := Aside0.mk (Kd.R_elder' (qJ7_12) (Kd.R_base ho32) hb)
               have n3_ := Aside0.mk (Kd.R_lower (Kd.R_new' (Kd.R_new' (Kd.R_new' (Kd.R_newM (M := fun k_ => (P2_ k_ ∨ w.heap.size ≤ k_)) ho32 (qJ7_2) (fun k_ h_ => .inr h_)) (Kd.R_lt (qJ7_4))) (Kd.R_lt (qJ7_3))) (Kd.R_lt (qJ7_12))) (below_size (qJ7_0)))
               have n4_ := Aside0.mk (Kept.below (S := (fun k_ => P2_ k_)) (qJ7_1) hb)
               have n5_ := Aside0.mk (below_step (qJ7_0) hb)
               clear HO_2; clear HO_11; clear HO226; clear HK; clear HB
               have HO_2 := n0_
               have HO_11 := n1_
               have HO226 := n2_
               have HO229 := n3_
               have HK := n4_
               have HB := n5_
               clear n0_ n1_ n2_ n3_ n4_ n5_; clear hb ho32
               refine hK.out _ _ ((Kd.foot_int (HR1.out _ (qJ7_6)) x13_1 (of_eq_true p233) (of_eq_true q233))) (fun hHeld => ?_)
               clear hK K
               refine norm_ (a' := ?_) ?_ ?_
               rotate_left
               ·exact qJ7_c3
               exact norm_ (qJ7_14) (hCont (v225, v228) _ ⟨hHeld, (qJ7_10), (qJ7_11), (qJ7_18), (qJ7_23), (qJ7_1), (qJ7_0)⟩)
              ·skip
               refine Kd.R_lit_step (Kd.int .i64) _ 3 ?hg (N := 52) ?hd (xs := ([x13_1] : List Int)) (inner := [.int .i64 x13_1]) (ok := fun _ => True) (okp := fun _ => True) ?hr ?hp (fun _ hk => hk) trivial (Below.refl _ _) (Nat.le_refl _) (by simp) ?_; (case hd => rfl); (case hg => rfl); (case hr => exact (qJ7_29)); (case hp => exact (qJ7_13))
               intro v228 w30 ho31 hb hg_ hnew_
               clear hg_ hnew_
               (first | rw [← Ny227.out] at ho31 | (simp only [Int.reduceToNat] at ho31; rw [← Ny227.out] at ho31))
               have n0_ := Aside0.mk (Kd.R_elder' (qJ7_4) (Kd.R_base ho31) hb)
               have n1_ := Aside0.mk (Kd.R_elder' (qJ7_3) (Kd.R_base ho31) hb)
               have n2_ := Aside0.mk (Kd.R_lower (Kd.R_new' (Kd.R_new' (Kd.R_newM (M := fun k_ => (P2_ k_ ∨ w.heap.size ≤ k_)) ho31 (qJ7_2) (fun k_ h_ => .inr h_)) (Kd.R_lt (qJ7_4))) (Kd.R_lt (qJ7_3))) (below_size (qJ7_0)))
               have n3_ := Aside0.mk (Kept.below (S := (fun k_ => P2_ k_)) (qJ7_1) hb)
               have n4_ := Aside0.mk (below_step (qJ7_0) hb)
               clear HO_2; clear HO_11; clear HK; clear HB
               have HO_2 := n0_
               have HO_11 := n1_
               have HO229 := n2_
               have HK := n3_
               have HB := n4_
               clear n0_ n1_ n2_ n3_ n4_; clear hb ho31
               refine hK.out _ _ ((Kd.foot_int (HR1.out _ (qJ7_6)) x13_1 (of_eq_true p233) (of_eq_true q233))) (fun hHeld => ?_)
               clear hK K
               refine norm_ (a' := ?_) ?_ ?_
               rotate_left
               ·exact qJ7_c3
               refine one_ (i := 3) (N := some 50) qJ7_b24 rfl rfl (qJ7_15) (by decide) (fun K hK => ?_)
               refine goes_ Try.func74 (by kernel_rfl) rfl #[.slice Ao7 l2.length co7] (by rfl) rfl rfl (qJ7_7) ?_
               with_reducible refine (spec_l1Own.calls _ _ l2 t224 _ ?side1 ?side2 A22.out).mono ?_
               (case side1 => exact (qJ7_8))
               (case side2 => exact (qJ7_32))
               rintro e w32 ⟨v225, rfl, ho0, hb⟩
               refine ⟨_, rfl, ?_⟩
               have n0_ := Aside0.mk (Kd.R_elder' (qJ7_4) (Kd.R_base ho0) hb)
               have n1_ := Aside0.mk (Kd.R_elder' (qJ7_3) (Kd.R_base ho0) hb)
               have n2_ := Aside0.mk (Kd.R_elder' (qJ7_9) (Kd.R_base ho0) hb)
               have n3_ := Aside0.mk (Kd.R_lower (Kd.R_new' (Kd.R_new' (Kd.R_new' (Kd.R_newM (M := fun k_ => (P2_ k_ ∨ w.heap.size ≤ k_)) ho0 (qJ7_2) (fun k_ h_ => .inr h_)) (Kd.R_lt (qJ7_4))) (Kd.R_lt (qJ7_3))) (Kd.R_lt (qJ7_9))) (below_size (qJ7_0)))
               have n4_ := Aside0.mk (Kept.below (S := (fun k_ => P2_ k_)) (qJ7_1) hb)
               have n5_ := Aside0.mk (below_step (qJ7_0) hb)
               clear HO_2; clear HO_11; clear HO229; clear HK; clear HB
               have HO_2 := n0_
               have HO_11 := n1_
               have HO229 := n2_
               have HO226 := n3_
               have HK := n4_
               have HB := n5_
               clear n0_ n1_ n2_ n3_ n4_ n5_
               (try clear hb)
               (try clear hb2)
               (try clear hk)
               (try clear hi)
               (try clear ho0)
               refine hK.out _ _ ((Kd.foot_int (HR1.out _ (qJ7_6)) x13_1 (of_eq_true p233) (of_eq_true q233))) (fun hHeld => ?_)
               clear hK K
               refine norm_ (a' := ?_) ?_ ?_
               rotate_left
               ·exact qJ7_c2
               exact norm_ (qJ7_14) (hCont (v225, v228) _ ⟨hHeld, (qJ7_10), (qJ7_11), (qJ7_19), (qJ7_24), (qJ7_1), (qJ7_0)⟩)
             rintro ⟨v225, v228⟩ w33 ⟨hS_, h0_, h1_, h2_, h3_, h4_, h5_⟩
             have n0_ : Aside0 (Kd.R (Kd.int .i64) 3 w33 w0.heap.size (fun k_ => (P2_ k_ ∨ w.heap.size ≤ k_) ∧ some k_ ≠ (v228 : Value).ownBlock ∧ some k_ ≠ (u11 : Value).ownBlock ∧ some k_ ≠ (.slice Ao7 l2.length co7 : Value).ownBlock) v225 t224) := ⟨h0_⟩
             have n1_ : Aside0 (Kd.R (Kd.int .i64) 3 w33 w0.heap.size (fun k_ => (P2_ k_ ∨ w.heap.size ≤ k_) ∧ some k_ ≠ (v225 : Value).ownBlock ∧ some k_ ≠ (u11 : Value).ownBlock ∧ some k_ ≠ (.slice Ao7 l2.length co7 : Value).ownBlock) v228 y227) := ⟨h1_⟩
             have n2_ : Aside0 (Kd.R (Kd.int .i64) 3 w33 w0.heap.size (fun k_ => (P2_ k_ ∨ w.heap.size ≤ k_) ∧ some k_ ≠ (v225 : Value).ownBlock ∧ some k_ ≠ (v228 : Value).ownBlock ∧ some k_ ≠ (.slice Ao7 l2.length co7 : Value).ownBlock) u11 x11_1) := ⟨h2_⟩
             have n3_ : Aside0 (Kd.R (Kd.int .i64) 3 w33 w0.heap.size (fun k_ => (P2_ k_ ∨ w.heap.size ≤ k_) ∧ some k_ ≠ (v225 : Value).ownBlock ∧ some k_ ≠ (v228 : Value).ownBlock ∧ some k_ ≠ (u11 : Value).ownBlock) (.slice Ao7 l2.length co7) l2) := ⟨h3_⟩
             have n4_ : Aside0 (Kept w w33 (fun k_ => P2_ k_)) := ⟨h4_⟩
             have n5_ : Aside0 (Below w0.heap.size w0 w33) := ⟨h5_⟩
             clear HO_2; clear HO_11; clear HK; clear HB; clear h0_ h1_ h2_ h3_ h4_ h5_
             have HO226 := n0_
             have HO229 := n1_
             have HO_11 := n2_
             have HO_2 := n3_
             have HK := n4_
             have HB := n5_
             clear n0_ n1_ n2_ n3_ n4_ n5_
             have hHeld : w33.cell? (ad233.add (x13_1).toNat) = some (.int .i64 (rd l1 x13_1)) := hS_
             obtain ⟨Ao35, co35, eo35⟩ := Kd.R_slice HO229.out
             (first | subst eo35 | (injection eo35 with f1_ f2_ f3_; have f4_ := f1_.symm; have f5_ := f3_.symm; clear f1_ f2_ f3_; subst f4_; subst f5_))
             refine norm_ (a' := ?_) ?_ ?_
             rotate_left
             ·exact qJ7_c6
             refine one_ (i := 6) (N := some 53) qJ7_b27 rfl rfl (qJ7_15) (by decide) (fun K hK => ?_)
             refine Kd.R_append_rows_step (Kd.int .i64) (w0 := w0) w0.heap.size (by rfl) (.tmp 50) (.tmp 52) 23 3 (.int .i64 0) 8 rfl Try.underlying23 info3 rfl (by decide) (by omega) v225 t224 y227 _ _ _ (fun k_ => (P2_ k_ ∨ w.heap.size ≤ k_) ∧ some k_ ≠ (.slice Ao7 l2.length co7 : Value).ownBlock ∧ some k_ ≠ (u11 : Value).ownBlock ∧ some k_ ≠ (.slice Ao35 y227.length co35 : Value).ownBlock) (fun _ => False) rfl rfl ?aO ?aR (fun _ _ h => h) (fun _ h => h.elim) ?aF ?aB ?aS ?aL ?_
             (case aR => exact (qJ7_17))
             (case aB => exact (qJ7_0))
             (case aF => exact (qJ7_27))
             (case aO => exact (qJ7_20))
             (case aS => exact (by exact (below_size (qJ7_0))))
             (case aL => have := LMc23.out; omega)
             intro v231 w34 ho hb hg hat
             rw [← Ny230.out] at ho
             have n0_ := Aside0.mk (Kd.R_after (ok := (fun k_ => (P2_ k_ ∨ w.heap.size ≤ k_) ∧ some k_ ≠ (u11 : Value).ownBlock ∧ some k_ ≠ (.slice Ao35 y227.length co35 : Value).ownBlock)) (qJ7_25) hg hat)
             have n1_ := Aside0.mk (Kd.R_after (ok := (fun k_ => (P2_ k_ ∨ w.heap.size ≤ k_) ∧ some k_ ≠ (.slice Ao7 l2.length co7 : Value).ownBlock ∧ some k_ ≠ (.slice Ao35 y227.length co35 : Value).ownBlock)) (qJ7_21) hg hat)
             have n2_ := Aside0.mk (Kd.R_after (ok := (fun k_ => (P2_ k_ ∨ w.heap.size ≤ k_) ∧ some k_ ≠ (.slice Ao7 l2.length co7 : Value).ownBlock ∧ some k_ ≠ (u11 : Value).ownBlock)) (qJ7_22) hg hat)
             have n3_ := Aside0.mk (hb)
             have n4_ := Aside0.mk (Kept.of_grown (S := (fun k_ => P2_ k_)) hg (qJ7_1) (fun k_ e_ => (HO226.out.1 k_ e_).1))
             have n5_ := Aside0.mk (ho); clear HO_2; clear HO_11; clear HO229; clear HB; clear HK; clear HO226
             have HO_2 := n0_
             have HO_11 := n1_
             have HO229 := n2_
             have HB := n3_
             have HK := n4_
             have HO232 := n5_
             clear n0_ n1_ n2_ n3_ n4_ n5_; clear ho hb hg hat
             obtain ⟨Ao36, co36, eo36⟩ := Kd.R_slice HO232.out
             (first | subst eo36 | (injection eo36 with f1_ f2_ f3_; have f4_ := f1_.symm; have f5_ := f3_.symm; clear f1_ f2_ f3_; subst f4_; subst f5_))
             refine hK.out _ _ ((Kd.foot_int (HR1.out _ (qJ7_6)) x13_1 (of_eq_true p233) (of_eq_true q233))) (fun hHeld => ?_)
             clear hK K
             refine norm_ (a' := ?_) ?_ ?_
             rotate_left
             ·exact qJ7_c4
             refine one_ (i := 13) (N := some 60) qJ7_b28 rfl rfl (qJ7_15) (by decide) (fun K hK => ?_)
             refine goes_ Try.func64 (by kernel_rfl) rfl #[.slice A0 l0.length c0, .slice (some ad233) l1.length c1, .slice Ao36 y230.length co36, .int .i64 (wrap64 (a3 + (rd l1 x13_1)))] (by rfl) rfl rfl (qJ7_7) ?_
             with_reducible refine (ih kj10 (qJ7_38) _ _ l0 _ _ l1 (fun k_ => some k_ = (.slice Ao36 y230.length co36 : Value).ownBlock) (.slice Ao36 y230.length co36) y230 (wrap64 (a3 + (rd l1 x13_1))) t234 t237 w0 _ ?side1 ?side2 ?side3 ?side4 ?side5 ?side6 A26.out).mono ?_
             (case side1 => exact (qJ7_0))
             (case side2 => exact (qJ7_30))
             (case side3 => exact HC0.out)
             (case side4 => exact (qJ7_31))
             (case side5 => exact HC1.out)
             (case side6 => exact (by exact Kd.R_tight rfl HO232.out))
             rintro e w37 ⟨v235, rfl, ho0, hb, hkp⟩
             refine ⟨_, rfl, ?_⟩
             have n0_ := Aside0.mk (Kd.R_mono (ok' := fun k_ => (P2_ k_ ∨ w.heap.size ≤ k_) ∧ some k_ ≠ (u11 : Value).ownBlock ∧ some k_ ≠ (.slice Ao35 y227.length co35 : Value).ownBlock ∧ some k_ ≠ (v235 : Value).ownBlock) (Kd.R_keptB (HO_2.out) hkp (fun k_ hk_ hs_ => (hk_.2) hs_)) (fun k_ hk_ => ⟨hk_.1.1.1, hk_.1.1.2.1, hk_.1.1.2.2, fun e_ => Or.elim (ho0.1 k_ e_.symm) (fun hs_ => hk_.2.1 hs_) (fun hn_ => Nat.not_le.2 hk_.2.2 hn_)⟩))
             have n1_ := Aside0.mk (Kd.R_mono (ok' := fun k_ => (P2_ k_ ∨ w.heap.size ≤ k_) ∧ some k_ ≠ (.slice Ao7 l2.length co7 : Value).ownBlock ∧ some k_ ≠ (.slice Ao35 y227.length co35 : Value).ownBlock ∧ some k_ ≠ (v235 : Value).ownBlock) (Kd.R_keptB (HO_11.out) hkp (fun k_ hk_ hs_ => (hk_.2) hs_)) (fun k_ hk_ => ⟨hk_.1.1.1, hk_.1.1.2.1, hk_.1.1.2.2, fun e_ => Or.elim (ho0.1 k_ e_.symm) (fun hs_ => hk_.2.1 hs_) (fun hn_ => Nat.not_le.2 hk_.2.2 hn_)⟩))
             have n2_ := Aside0.mk (Kd.R_mono (ok' := fun k_ => (P2_ k_ ∨ w.heap.size ≤ k_) ∧ some k_ ≠ (.slice Ao7 l2.length co7 : Value).ownBlock ∧ some k_ ≠ (u11 : Value).ownBlock ∧ some k_ ≠ (v235 : Value).ownBlock) (Kd.R_keptB (HO229.out) hkp (fun k_ hk_ hs_ => (hk_.2) hs_)) (fun k_ hk_ => ⟨hk_.1.1.1, hk_.1.1.2.1, hk_.1.1.2.2, fun e_ => Or.elim (ho0.1 k_ e_.symm) (fun hs_ => hk_.2.1 hs_) (fun hn_ => Nat.not_le.2 hk_.2.2 hn_)⟩))
             have n3_ := Aside0.mk (Kd.R_mono (ok' := fun k_ => (P2_ k_ ∨ w.heap.size ≤ k_) ∧ some k_ ≠ (.slice Ao7 l2.length co7 : Value).ownBlock ∧ some k_ ≠ (u11 : Value).ownBlock ∧ some k_ ≠ (.slice Ao35 y227.length co35 : Value).ownBlock) ho0 (fun k_ hk_ => ⟨Or.elim hk_ (fun hs_ => (HO232.out.1 k_ (hs_).symm).1) (fun hn_ => (.inr (Nat.le_trans (qJ7_2) hn_))), Or.elim hk_ (fun hs_ => fun e_ => (((HO_2.out).1 k_ e_.symm).2) hs_) (fun hn_ => (Kd.fresh' (Kd.R_lt (qJ7_4)) k_ hn_)), Or.elim hk_ (fun hs_ => fun e_ => (((HO_11.out).1 k_ e_.symm).2) hs_) (fun hn_ => (Kd.fresh' (Kd.R_lt (qJ7_3)) k_ hn_)), Or.elim hk_ (fun hs_ => fun e_ => (((HO229.out).1 k_ e_.symm).2) hs_) (fun hn_ => (Kd.fresh' (Kd.R_lt (qJ7_9)) k_ hn_))⟩))
             have n4_ := Aside0.mk (Kept.then_ (S := (fun k_ => P2_ k_)) (qJ7_1) hkp (fun k_ hs_ => (fun e_ => (HO232.out.1 k_ e_.symm).1) hs_))
             have n5_ := Aside0.mk (hb); clear HO_2; clear HO_11; clear HO229; clear HK; clear HB; clear HO232
             have HO_2 := n0_
             have HO_11 := n1_
             have HO229 := n2_
             have HO236 := n3_
             have HK := n4_
             have HB := n5_
             clear n0_ n1_ n2_ n3_ n4_ n5_
             (try clear hb)
             (try clear hkp)
             (try clear ho0)
             refine hK.out _ _ ((Kd.foot_int (HR1.out _ (qJ7_6)) x13_1 (of_eq_true p233) (of_eq_true q233))) (fun hHeld => ?_)
             clear hK K
             refine norm_ (a' := ?_) ?_ ?_
             rotate_left
             ·exact qJ7_c5
             refine pure_ (i := 14) (N := some 46) (v := ?_) (a' := ?_) qJ7_b29 rfl rfl (qJ7_5) (fun _ _ _ h => h) (Or.inl ⟨by rfl, ?_⟩) ?_ ?_
             rotate_left; exact qJ7_c1; rotate_left; exact qJ7_c0
             refine pure_ (i := 15) (N := some 61) (v := ?_) (a' := ?_) qJ7_b30 rfl rfl (qJ7_5) (fun _ _ _ h => h) (Or.inl ⟨by rfl, ?_⟩) ?_ ?_
             rotate_left; exact qJ7_c1; rotate_left; exact qJ7_c0
             refine pure_ (i := 16) (N := some 62) (v := ?_) (a' := ?_) qJ7_b31 rfl rfl (qJ7_5) (fun _ _ _ h => h) (Or.inl ⟨by rfl, ?_⟩) ?_ ?_
             rotate_left; exact qJ7_c1; rotate_left; exact qJ7_c0
             refine pure_ (i := 17) (N := some 14) (v := ?_) (a' := ?_) qJ7_b32 rfl rfl (qJ7_5) (fun _ _ _ h => h) (Or.inl ⟨by rfl, ?_⟩) ?_ ?_
             rotate_left; exact qJ7_c1; rotate_left; exact qJ7_c0
             refine pure_ (i := 18) (N := some 15) (v := ?_) (a' := ?_) qJ7_b33 rfl rfl (qJ7_5) (fun _ _ _ h => h) (Or.inl ⟨by rfl, ?_⟩) ?_ ?_
             rotate_left; exact qJ7_c1; rotate_left; exact qJ7_c0
             refine done_ (qJ7_33) ?_
             try go_wp2
             go_roundg kj10
             case measure => have := HK1.out; have := HJ10.out; omega
             case rel => exact ⟨(t234), (t237), (wrap64 (x13_1 + 1)), (qJ7_16), (qJ7_16), H', ⟨by have := HK1.out; have := HJ10.out; omega⟩, ⟨(qJ7_34)⟩, ⟨(qJ7_35)⟩, ⟨(qJ7_1)⟩, ⟨(qJ7_0)⟩⟩
            ·rw [if_neg c28] at H
             have c28b0 : decide (x12_1 < 0) = false := decide_eq_false c28
             clear c28
             by_cases c38 : t237 < x12_1
             ·rw [if_pos c38] at H
              have c38b0 : decide (t237 < x12_1) = true := decide_eq_true c38
              clear c38
              have H' := Aside0.mk H
              clear H
              try go_wp2
              have n0_ := Aside0.mk (Kd.R_drew HO_2.out)
              have n1_ := Aside0.mk (Kd.R_drew HO_11.out)
              have n2_ := Aside0.mk (Kept.drew HK.out)
              have n3_ := Aside0.mk (below_drew1 HB.out)
              clear HO_2; clear HO_11; clear HK; clear HB
              have HO_2 := n0_
              have HO_11 := n1_
              have HK := n2_
              have HB := n3_
              clear n0_ n1_ n2_ n3_
              have p233 : 0 ≤ (x13_1 : Int) := of_decide_eq_true (qJ7_26)
              have q233 : x13_1 < (l1.length : Int) := of_decide_eq_true (qJ7_26)
              obtain ⟨ad233, e233, hx233_0⟩ := Kd.at_int (Kd.C_kept_now HR1.out HK.out) x13_1 p233 q233
              have hw233_0 := hx233_0
              cases e233
              replace p233 := eq_true p233
              replace q233 := eq_true q233
              refine start_ (n := 19) (S := fun w' => w'.cell? (ad233.add (x13_1).toNat) = some (.int .i64 (rd l1 x13_1))) (ds := []) qJ7_b13 (by kernel_rfl) rfl rfl ((Kd.foot_int (HR1.out _ (qJ7_6)) x13_1 (of_eq_true p233) (of_eq_true q233))) (fun hHeld => ?_); refine with_tabW spec_l16Best.tab9 spec_l16Best.bits9 (fun HT_ HW_ => ?_)
              generalize wc.drew = w39 at HO_2 HO_11 HK HB hx233_0 hHeld ⊢
              refine pure_ (i := 0) (N := some 47) (v := ?_) (a' := ?_) qJ7_b14 rfl rfl (qJ7_5) (fun _ _ _ h => h) (Or.inl ⟨by rfl, ?_⟩) ?_ ?_
              rotate_left; exact qJ7_c1; rotate_left; exact qJ7_c0
              refine pure_ (i := 1) (N := some 48) (v := ?_) (a' := ?_) qJ7_b15 rfl rfl (qJ7_5) (fun _ _ _ h => h) (Or.inl ⟨by rfl, ?_⟩) ?_ ?_
              rotate_left; exact qJ7_c1; rotate_left; exact qJ7_c0
              refine pure_ (i := 2) (N := some 49) (v := ?_) (a' := ?_) qJ7_b16 rfl rfl (qJ7_5) (fun _ _ _ h => h) (Or.inl ⟨by rfl, ?_⟩) ?_ ?_
              rotate_left; exact qJ7_c1; rotate_left; exact qJ7_c0
              refine pure_ (i := 4) (N := some 51) (v := ?_) (a' := ?_) qJ7_b17 rfl rfl (qJ7_5) (fun _ _ _ h => h) (Or.inl ⟨by rfl, ?_⟩) ?_ ?_
              rotate_left; exact qJ7_c1; rotate_left; exact qJ7_c0
              refine pure_ (i := 7) (N := some 54) (v := ?_) (a' := ?_) qJ7_b18 rfl rfl (qJ7_5) (fun _ _ _ h => h) (Or.inl ⟨by rfl, ?_⟩) ?_ ?_
              rotate_left; exact qJ7_c1; rotate_left; exact qJ7_c0
              refine pure_ (i := 8) (N := some 55) (v := ?_) (a' := ?_) qJ7_b19 rfl rfl (qJ7_5) (fun _ _ _ h => h) (Or.inl ⟨by rfl, ?_⟩) ?_ ?_
              rotate_left; exact qJ7_c1; rotate_left; exact qJ7_c0
              refine pure_ (i := 9) (N := some 56) (v := ?_) (a' := ?_) qJ7_b20 rfl rfl (qJ7_5) (fun _ _ _ h => h) (Or.inl ⟨by rfl, ?_⟩) ?_ ?_
              rotate_left; exact qJ7_c1; rotate_left; exact qJ7_c0
              refine pure_ (i := 10) (N := some 57) (v := ?_) (a' := ?_) qJ7_b21 rfl rfl (qJ7_5) (fun _ _ _ h => h) (Or.inl ⟨by rfl, ?_⟩) ?_ ?_
              rotate_left; exact qJ7_c1; rotate_left; exact qJ7_c0
              refine take_ (i := 11) (N := some 58) (v := ?_) (a' := ?_) qJ7_b22 rfl rfl (take_ofW HT_.out HW_.out (by kernel_rfl)) (fun _ _ _ h => h) (Or.inl ⟨by rfl, ?_⟩) hHeld ?_ ?_
              rotate_left
              ·intro w' s0
               go_simp
               with_reducible rfl
              rotate_left
              ·exact qJ7_c0
              refine pure_ (i := 12) (N := some 59) (v := ?_) (a' := ?_) qJ7_b23 rfl rfl (qJ7_5) (fun _ _ _ h => h) (Or.inl ⟨by rfl, ?_⟩) ?_ ?_
              rotate_left; exact qJ7_c1; rotate_left; exact qJ7_c0
              refine join_ (σ := Value × Value) 7 qJ7_b24 (fun s_ => [(50, s_.1), (52, s_.2)]) (fun s_ w' => (w'.cell? (ad233.add (x13_1).toNat) = some (.int .i64 (rd l1 x13_1))) ∧ (Kd.R (Kd.int .i64) 3 w' w0.heap.size (fun k_ => (P2_ k_ ∨ w.heap.size ≤ k_) ∧ some k_ ≠ (s_.2 : Value).ownBlock ∧ some k_ ≠ (u11 : Value).ownBlock ∧ some k_ ≠ (.slice Ao7 l2.length co7 : Value).ownBlock) s_.1 t224) ∧ (Kd.R (Kd.int .i64) 3 w' w0.heap.size (fun k_ => (P2_ k_ ∨ w.heap.size ≤ k_) ∧ some k_ ≠ (s_.1 : Value).ownBlock ∧ some k_ ≠ (u11 : Value).ownBlock ∧ some k_ ≠ (.slice Ao7 l2.length co7 : Value).ownBlock) s_.2 y227) ∧ (Kd.R (Kd.int .i64) 3 w' w0.heap.size (fun k_ => (P2_ k_ ∨ w.heap.size ≤ k_) ∧ some k_ ≠ (s_.1 : Value).ownBlock ∧ some k_ ≠ (s_.2 : Value).ownBlock ∧ some k_ ≠ (.slice Ao7 l2.length co7 : Value).ownBlock) u11 x11_1) ∧ (Kd.R (Kd.int .i64) 3 w' w0.heap.size (fun k_ => (P2_ k_ ∨ w.heap.size ≤ k_) ∧ some k_ ≠ (s_.1 : Value).ownBlock ∧ some k_ ≠ (s_.2 : Value).ownBlock ∧ some k_ ≠ (u11 : Value).ownBlock) (.slice Ao7 l2.length co7) l2) ∧ (Kept w w' (fun k_ => P2_ k_)) ∧ (Below w0.heap.size w0 w')) ?_ ?_
              rotate_left
              ·intro hCont
               refine two_ (i := 3) (j := 5) (Ni := some 50) (Nj := some 52) qJ7_b25 qJ7_b26 rfl rfl rfl rfl (two_of HT_.out (by kernel_rfl)) (by decide) (by decide) (fun K hK => ?_) (fun K hK => ?_)
               ·skip
                refine goes_ Try.func74 (by kernel_rfl) rfl #[.slice Ao7 l2.length co7] (by rfl) rfl rfl (qJ7_7) ?_
                with_reducible refine (spec_l1Own.calls _ _ l2 t224 _ ?side1 ?side2 A22.out).mono ?_
                (case side1 => exact (qJ7_8))
                (case side2 => exact (qJ7_32))
                rintro e w40 ⟨v225, rfl, ho0, hb⟩
                refine ⟨_, rfl, ?_⟩
                have n0_ := Aside0.mk (Kd.R_elder' (qJ7_4) (Kd.R_base ho0) hb)
                have n1_ := Aside0.mk (Kd.R_elder' (qJ7_3) (Kd.R_base ho0) hb)
                have n2_ := Aside0.mk (Kd.R_lower (Kd.R_new' (Kd.R_new' (Kd.R_newM (M := fun k_ => (P2_ k_ ∨ w.heap.size ≤ k_)) ho0 (qJ7_2) (fun k_ h_ => .inr h_)) (Kd.R_lt (qJ7_4))) (Kd.R_lt (qJ7_3))) (below_size (qJ7_0)))
                have n3_ := Aside0.mk (Kept.below (S := (fun k_ => P2_ k_)) (qJ7_1) hb)
                have n4_ := Aside0.mk (below_step (qJ7_0) hb)
                clear HO_2; clear HO_11; clear HK; clear HB
                have HO_2 := n0_
                have HO_11 := n1_
                have HO226 := n2_
                have HK := n3_
                have HB := n4_
                clear n0_ n1_ n2_ n3_ n4_
                (try clear hb)
                (try clear hb2)
                (try clear hk)
                (try clear hi)
                (try clear ho0)
                refine hK.out _ _ ((Kd.foot_int (HR1.out _ (qJ7_6)) x13_1 (of_eq_true p233) (of_eq_true q233))) (fun hHeld => ?_)
                clear hK K
                refine norm_ (a' := ?_) ?_ ?_
                rotate_left
                ·exact qJ7_c2
                refine one_ (i := 5) (N := some 52) qJ7_b24 rfl rfl (qJ7_15) (by decide) (fun K hK => ?_)
                refine Kd.R_lit_step (Kd.int .i64) _ 3 ?hg (N := 52) ?hd (xs := ([x13_1] : List Int)) (inner := [.int .i64 x13_1]) (ok := fun _ => True) (okp := fun _ => True) ?hr ?hp (fun _ hk => hk) trivial (Below.refl _ _) (Nat.le_refl _) (by simp) ?_; (case hd => rfl); (case hg => rfl); (case hr => exact (qJ7_29)); (case hp => exact (qJ7_13))
                intro v228 w41 ho42 hb hg_ hnew_
                clear hg_ hnew_
                (first | rw [← Ny227.out] at ho42 | (simp only [Int.reduceToNat] at ho42; rw [← Ny227.out] at ho42))
                have n0_ := Aside0.mk (Kd.R_elder' (qJ7_4) (Kd.R_base ho42) hb)
                have n1_ := Aside0.mk (Kd.R_elder' (qJ7_3) (Kd.R_base ho42) hb)
                have n2_ := Aside0.mk (Kd.R_elder' (qJ7_12) (Kd.R_base ho42) hb)
                have n3_ := Aside0.mk (Kd.R_lower (Kd.R_new' (Kd.R_new' (Kd.R_new' (Kd.R_newM (M := fun k_ => (P2_ k_ ∨ w.heap.size ≤ k_)) ho42 (qJ7_2) (fun k_ h_ => .inr h_)) (Kd.R_lt (qJ7_4))) (Kd.R_lt (qJ7_3))) (Kd.R_lt (qJ7_12))) (below_size (qJ7_0)))
                have n4_ := Aside0.mk (Kept.below (S := (fun k_ => P2_ k_)) (qJ7_1) hb)
                have n5_ := Aside0.mk (below_step (qJ7_0) hb)
                clear HO_2; clear HO_11; clear HO226; clear HK; clear HB
                have HO_2 := n0_
                have HO_11 := n1_
                have HO226 := n2_
                have HO229 := n3_
                have HK := n4_
                have HB := n5_
                clear n0_ n1_ n2_ n3_ n4_ n5_; clear hb ho42
                refine hK.out _ _ ((Kd.foot_int (HR1.out _ (qJ7_6)) x13_1 (of_eq_true p233) (of_eq_true q233))) (fun hHeld => ?_)
                clear hK K
                refine norm_ (a' := ?_) ?_ ?_
                rotate_left
                ·exact qJ7_c3
                exact norm_ (qJ7_14) (hCont (v225, v228) _ ⟨hHeld, (qJ7_10), (qJ7_11), (qJ7_18), (qJ7_23), (qJ7_1), (qJ7_0)⟩)
               ·skip
                refine Kd.R_lit_step (Kd.int .i64) _ 3 ?hg (N := 52) ?hd (xs := ([x13_1] : List Int)) (inner := [.int .i64 x13_1]) (ok := fun _ => True) (okp := fun _ => True) ?hr ?hp (fun _ hk => hk) trivial (Below.refl _ _) (Nat.le_refl _) (by simp) ?_; (case hd => rfl); (case hg => rfl); (case hr => exact (qJ7_29)); (case hp => exact (qJ7_13))
                intro v228 w40 ho41 hb hg_ hnew_
                clear hg_ hnew_
                (first | rw [← Ny227.out] at ho41 | (simp only [Int.reduceToNat] at ho41; rw [← Ny227.out] at ho41))
                have n0_ := Aside0.mk (Kd.R_elder' (qJ7_4) (Kd.R_base ho41) hb)
                have n1_ := Aside0.mk (Kd.R_elder' (qJ7_3) (Kd.R_base ho41) hb)
                have n2_ := Aside0.mk (Kd.R_lower (Kd.R_new' (Kd.R_new' (Kd.R_newM (M := fun k_ => (P2_ k_ ∨ w.heap.size ≤ k_)) ho41 (qJ7_2) (fun k_ h_ => .inr h_)) (Kd.R_lt (qJ7_4))) (Kd.R_lt (qJ7_3))) (below_size (qJ7_0)))
                have n3_ := Aside0.mk (Kept.below (S := (fun k_ => P2_ k_)) (qJ7_1) hb)
                have n4_ := Aside0.mk (below_step (qJ7_0) hb)
                clear HO_2; clear HO_11; clear HK; clear HB
                have HO_2 := n0_
                have HO_11 := n1_
                have HO229 := n2_
                have HK := n3_
                have HB := n4_
                clear n0_ n1_ n2_ n3_ n4_; clear hb ho41
                refine hK.out _ _ ((Kd.foot_int (HR1.out _ (qJ7_6)) x13_1 (of_eq_true p233) (of_eq_true q233))) (fun hHeld => ?_)
                clear hK K
                refine norm_ (a' := ?_) ?_ ?_
                rotate_left
                ·exact qJ7_c3
                refine one_ (i := 3) (N := some 50) qJ7_b24 rfl rfl (qJ7_15) (by decide) (fun K hK => ?_)
                refine goes_ Try.func74 (by kernel_rfl) rfl #[.slice Ao7 l2.length co7] (by rfl) rfl rfl (qJ7_7) ?_
                with_reducible refine (spec_l1Own.calls _ _ l2 t224 _ ?side1 ?side2 A22.out).mono ?_
                (case side1 => exact (qJ7_8))
                (case side2 => exact (qJ7_32))
                rintro e w42 ⟨v225, rfl, ho0, hb⟩
                refine ⟨_, rfl, ?_⟩
                have n0_ := Aside0.mk (Kd.R_elder' (qJ7_4) (Kd.R_base ho0) hb)
                have n1_ := Aside0.mk (Kd.R_elder' (qJ7_3) (Kd.R_base ho0) hb)
                have n2_ := Aside0.mk (Kd.R_elder' (qJ7_9) (Kd.R_base ho0) hb)
                have n3_ := Aside0.mk (Kd.R_lower (Kd.R_new' (Kd.R_new' (Kd.R_new' (Kd.R_newM (M := fun k_ => (P2_ k_ ∨ w.heap.size ≤ k_)) ho0 (qJ7_2) (fun k_ h_ => .inr h_)) (Kd.R_lt (qJ7_4))) (Kd.R_lt (qJ7_3))) (Kd.R_lt (qJ7_9))) (below_size (qJ7_0)))
                have n4_ := Aside0.mk (Kept.below (S := (fun k_ => P2_ k_)) (qJ7_1) hb)
                have n5_ := Aside0.mk (below_step (qJ7_0) hb)
                clear HO_2; clear HO_11; clear HO229; clear HK; clear HB
                have HO_2 := n0_
                have HO_11 := n1_
                have HO229 := n2_
                have HO226 := n3_
                have HK := n4_
                have HB := n5_
                clear n0_ n1_ n2_ n3_ n4_ n5_
                (try clear hb)
                (try clear hb2)
                (try clear hk)
                (try clear hi)
                (try clear ho0)
                refine hK.out _ _ ((Kd.foot_int (HR1.out _ (qJ7_6)) x13_1 (of_eq_true p233) (of_eq_true q233))) (fun hHeld => ?_)
                clear hK K
                refine norm_ (a' := ?_) ?_ ?_
                rotate_left
                ·exact qJ7_c2
                exact norm_ (qJ7_14) (hCont (v225, v228) _ ⟨hHeld, (qJ7_10), (qJ7_11), (qJ7_19), (qJ7_24), (qJ7_1), (qJ7_0)⟩)
              rintro ⟨v225, v228⟩ w43 ⟨hS_, h0_, h1_, h2_, h3_, h4_, h5_⟩
              have n0_ : Aside0 (Kd.R (Kd.int .i64) 3 w43 w0.heap.size (fun k_ => (P2_ k_ ∨ w.heap.size ≤ k_) ∧ some k_ ≠ (v228 : Value).ownBlock ∧ some k_ ≠ (u11 : Value).ownBlock ∧ some k_ ≠ (.slice Ao7 l2.length co7 : Value).ownBlock) v225 t224) := ⟨h0_⟩
              have n1_ : Aside0 (Kd.R (Kd.int .i64) 3 w43 w0.heap.size (fun k_ => (P2_ k_ ∨ w.heap.size ≤ k_) ∧ some k_ ≠ (v225 : Value).ownBlock ∧ some k_ ≠ (u11 : Value).ownBlock ∧ some k_ ≠ (.slice Ao7 l2.length co7 : Value).ownBlock) v228 y227) := ⟨h1_⟩
              have n2_ : Aside0 (Kd.R (Kd.int .i64) 3 w43 w0.heap.size (fun k_ => (P2_ k_ ∨ w.heap.size ≤ k_) ∧ some k_ ≠ (v225 : Value).ownBlock ∧ some k_ ≠ (v228 : Value).ownBlock ∧ some k_ ≠ (.slice Ao7 l2.length co7 : Value).ownBlock) u11 x11_1) := ⟨h2_⟩
              have n3_ : Aside0 (Kd.R (Kd.int .i64) 3 w43 w0.heap.size (fun k_ => (P2_ k_ ∨ w.heap.size ≤ k_) ∧ some k_ ≠ (v225 : Value).ownBlock ∧ some k_ ≠ (v228 : Value).ownBlock ∧ some k_ ≠ (u11 : Value).ownBlock) (.slice Ao7 l2.length co7) l2) := ⟨h3_⟩
              have n4_ : Aside0 (Kept w w43 (fun k_ => P2_ k_)) := ⟨h4_⟩
              have n5_ : Aside0 (Below w0.heap.size w0 w43) := ⟨h5_⟩
              clear HO_2; clear HO_11; clear HK; clear HB; clear h0_ h1_ h2_ h3_ h4_ h5_
              have HO226 := n0_
              have HO229 := n1_
              have HO_11 := n2_
              have HO_2 := n3_
              have HK := n4_
              have HB := n5_
              clear n0_ n1_ n2_ n3_ n4_ n5_
              have hHeld : w43.cell? (ad233.add (x13_1).toNat) = some (.int .i64 (rd l1 x13_1)) := hS_
              obtain ⟨Ao45, co45, eo45⟩ := Kd.R_slice HO229.out
              (first | subst eo45 | (injection eo45 with f1_ f2_ f3_; have f4_ := f1_.symm; have f5_ := f3_.symm; clear f1_ f2_ f3_; subst f4_; subst f5_))
              refine norm_ (a' := ?_) ?_ ?_
              rotate_left
              ·exact qJ7_c6
              refine one_ (i := 6) (N := some 53) qJ7_b27 rfl rfl (qJ7_15) (by decide) (fun K hK => ?_)
              refine Kd.R_append_rows_step (Kd.int .i64) (w0 := w0) w0.heap.size (by rfl) (.tmp 50) (.tmp 52) 23 3 (.int .i64 0) 8 rfl Try.underlying23 info3 rfl (by decide) (by omega) v225 t224 y227 _ _ _ (fun k_ => (P2_ k_ ∨ w.heap.size ≤ k_) ∧ some k_ ≠ (.slice Ao7 l2.length co7 : Value).ownBlock ∧ some k_ ≠ (u11 : Value).ownBlock ∧ some k_ ≠ (.slice Ao45 y227.length co45 : Value).ownBlock) (fun _ => False) rfl rfl ?aO ?aR (fun _ _ h => h) (fun _ h => h.elim) ?aF ?aB ?aS ?aL ?_
              (case aR => exact (qJ7_17))
              (case aB => exact (qJ7_0))
              (case aF => exact (qJ7_27))
              (case aO => exact (qJ7_20))
              (case aS => exact (by exact (below_size (qJ7_0))))
              (case aL => have := LMc23.out; omega)
              intro v231 w44 ho hb hg hat
              rw [← Ny230.out] at ho
              have n0_ := Aside0.mk (Kd.R_after (ok := (fun k_ => (P2_ k_ ∨ w.heap.size ≤ k_) ∧ some k_ ≠ (u11 : Value).ownBlock ∧ some k_ ≠ (.slice Ao45 y227.length co45 : Value).ownBlock)) (qJ7_25) hg hat)
              have n1_ := Aside0.mk (Kd.R_after (ok := (fun k_ => (P2_ k_ ∨ w.heap.size ≤ k_) ∧ some k_ ≠ (.slice Ao7 l2.length co7 : Value).ownBlock ∧ some k_ ≠ (.slice Ao45 y227.length co45 : Value).ownBlock)) (qJ7_21) hg hat)
              have n2_ := Aside0.mk (Kd.R_after (ok := (fun k_ => (P2_ k_ ∨ w.heap.size ≤ k_) ∧ some k_ ≠ (.slice Ao7 l2.length co7 : Value).ownBlock ∧ some k_ ≠ (u11 : Value).ownBlock)) (qJ7_22) hg hat)
              have n3_ := Aside0.mk (hb)
              have n4_ := Aside0.mk (Kept.of_grown (S := (fun k_ => P2_ k_)) hg (qJ7_1) (fun k_ e_ => (HO226.out.1 k_ e_).1))
              have n5_ := Aside0.mk (ho); clear HO_2; clear HO_11; clear HO229; clear HB; clear HK; clear HO226
              have HO_2 := n0_
              have HO_11 := n1_
              have HO229 := n2_
              have HB := n3_
              have HK := n4_
              have HO232 := n5_
              clear n0_ n1_ n2_ n3_ n4_ n5_; clear ho hb hg hat
              obtain ⟨Ao46, co46, eo46⟩ := Kd.R_slice HO232.out
              (first | subst eo46 | (injection eo46 with f1_ f2_ f3_; have f4_ := f1_.symm; have f5_ := f3_.symm; clear f1_ f2_ f3_; subst f4_; subst f5_))
              refine hK.out _ _ ((Kd.foot_int (HR1.out _ (qJ7_6)) x13_1 (of_eq_true p233) (of_eq_true q233))) (fun hHeld => ?_)
              clear hK K
              refine norm_ (a' := ?_) ?_ ?_
              rotate_left
              ·exact qJ7_c4
              refine one_ (i := 13) (N := some 60) qJ7_b28 rfl rfl (qJ7_15) (by decide) (fun K hK => ?_)
              refine goes_ Try.func64 (by kernel_rfl) rfl #[.slice A0 l0.length c0, .slice (some ad233) l1.length c1, .slice Ao46 y230.length co46, .int .i64 (wrap64 (a3 + (rd l1 x13_1)))] (by rfl) rfl rfl (qJ7_7) ?_
              with_reducible refine (ih kj10 (qJ7_38) _ _ l0 _ _ l1 (fun k_ => some k_ = (.slice Ao46 y230.length co46 : Value).ownBlock) (.slice Ao46 y230.length co46) y230 (wrap64 (a3 + (rd l1 x13_1))) t234 t237 w0 _ ?side1 ?side2 ?side3 ?side4 ?side5 ?side6 A26.out).mono ?_
              (case side1 => exact (qJ7_0))
              (case side2 => exact (qJ7_30))
              (case side3 => exact HC0.out)
              (case side4 => exact (qJ7_31))
              (case side5 => exact HC1.out)
              (case side6 => exact (by exact Kd.R_tight rfl HO232.out))
              rintro e w47 ⟨v235, rfl, ho0, hb, hkp⟩
              refine ⟨_, rfl, ?_⟩
              have n0_ := Aside0.mk (Kd.R_mono (ok' := fun k_ => (P2_ k_ ∨ w.heap.size ≤ k_) ∧ some k_ ≠ (u11 : Value).ownBlock ∧ some k_ ≠ (.slice Ao45 y227.length co45 : Value).ownBlock ∧ some k_ ≠ (v235 : Value).ownBlock) (Kd.R_keptB (HO_2.out) hkp (fun k_ hk_ hs_ => (hk_.2) hs_)) (fun k_ hk_ => ⟨hk_.1.1.1, hk_.1.1.2.1, hk_.1.1.2.2, fun e_ => Or.elim (ho0.1 k_ e_.symm) (fun hs_ => hk_.2.1 hs_) (fun hn_ => Nat.not_le.2 hk_.2.2 hn_)⟩))
              have n1_ := Aside0.mk (Kd.R_mono (ok' := fun k_ => (P2_ k_ ∨ w.heap.size ≤ k_) ∧ some k_ ≠ (.slice Ao7 l2.length co7 : Value).ownBlock ∧ some k_ ≠ (.slice Ao45 y227.length co45 : Value).ownBlock ∧ some k_ ≠ (v235 : Value).ownBlock) (Kd.R_keptB (HO_11.out) hkp (fun k_ hk_ hs_ => (hk_.2) hs_)) (fun k_ hk_ => ⟨hk_.1.1.1, hk_.1.1.2.1, hk_.1.1.2.2, fun e_ => Or.elim (ho0.1 k_ e_.symm) (fun hs_ => hk_.2.1 hs_) (fun hn_ => Nat.not_le.2 hk_.2.2 hn_)⟩))
              have n2_ := Aside0.mk (Kd.R_mono (ok' := fun k_ => (P2_ k_ ∨ w.heap.size ≤ k_) ∧ some k_ ≠ (.slice Ao7 l2.length co7 : Value).ownBlock ∧ some k_ ≠ (u11 : Value).ownBlock ∧ some k_ ≠ (v235 : Value).ownBlock) (Kd.R_keptB (HO229.out) hkp (fun k_ hk_ hs_ => (hk_.2) hs_)) (fun k_ hk_ => ⟨hk_.1.1.1, hk_.1.1.2.1, hk_.1.1.2.2, fun e_ => Or.elim (ho0.1 k_ e_.symm) (fun hs_ => hk_.2.1 hs_) (fun hn_ => Nat.not_le.2 hk_.2.2 hn_)⟩))
              have n3_ := Aside0.mk (Kd.R_mono (ok' := fun k_ => (P2_ k_ ∨ w.heap.size ≤ k_) ∧ some k_ ≠ (.slice Ao7 l2.length co7 : Value).ownBlock ∧ some k_ ≠ (u11 : Value).ownBlock ∧ some k_ ≠ (.slice Ao45 y227.length co45 : Value).ownBlock) ho0 (fun k_ hk_ => ⟨Or.elim hk_ (fun hs_ => (HO232.out.1 k_ (hs_).symm).1) (fun hn_ => (.inr (Nat.le_trans (qJ7_2) hn_))), Or.elim hk_ (fun hs_ => fun e_ => (((HO_2.out).1 k_ e_.symm).2) hs_) (fun hn_ => (Kd.fresh' (Kd.R_lt (qJ7_4)) k_ hn_)), Or.elim hk_ (fun hs_ => fun e_ => (((HO_11.out).1 k_ e_.symm).2) hs_) (fun hn_ => (Kd.fresh' (Kd.R_lt (qJ7_3)) k_ hn_)), Or.elim hk_ (fun hs_ => fun e_ => (((HO229.out).1 k_ e_.symm).2) hs_) (fun hn_ => (Kd.fresh' (Kd.R_lt (qJ7_9)) k_ hn_))⟩))
              have n4_ := Aside0.mk (Kept.then_ (S := (fun k_ => P2_ k_)) (qJ7_1) hkp (fun k_ hs_ => (fun e_ => (HO232.out.1 k_ e_.symm).1) hs_))
              have n5_ := Aside0.mk (hb); clear HO_2; clear HO_11; clear HO229; clear HK; clear HB; clear HO232
              have HO_2 := n0_
              have HO_11 := n1_
              have HO229 := n2_
              have HO236 := n3_
              have HK := n4_
              have HB := n5_
              clear n0_ n1_ n2_ n3_ n4_ n5_
              (try clear hb)
              (try clear hkp)
              (try clear ho0)
              refine hK.out _ _ ((Kd.foot_int (HR1.out _ (qJ7_6)) x13_1 (of_eq_true p233) (of_eq_true q233))) (fun hHeld => ?_)
              clear hK K
              refine norm_ (a' := ?_) ?_ ?_
              rotate_left
              ·exact qJ7_c5
              refine pure_ (i := 14) (N := some 46) (v := ?_) (a' := ?_) qJ7_b29 rfl rfl (qJ7_5) (fun _ _ _ h => h) (Or.inl ⟨by rfl, ?_⟩) ?_ ?_
              rotate_left; exact qJ7_c1; rotate_left; exact qJ7_c0
              refine pure_ (i := 15) (N := some 61) (v := ?_) (a' := ?_) qJ7_b30 rfl rfl (qJ7_5) (fun _ _ _ h => h) (Or.inl ⟨by rfl, ?_⟩) ?_ ?_
              rotate_left; exact qJ7_c1; rotate_left; exact qJ7_c0
              refine pure_ (i := 16) (N := some 62) (v := ?_) (a' := ?_) qJ7_b31 rfl rfl (qJ7_5) (fun _ _ _ h => h) (Or.inl ⟨by rfl, ?_⟩) ?_ ?_
              rotate_left; exact qJ7_c1; rotate_left; exact qJ7_c0
              refine pure_ (i := 17) (N := some 14) (v := ?_) (a' := ?_) qJ7_b32 rfl rfl (qJ7_5) (fun _ _ _ h => h) (Or.inl ⟨by rfl, ?_⟩) ?_ ?_
              rotate_left; exact qJ7_c1; rotate_left; exact qJ7_c0
              refine pure_ (i := 18) (N := some 15) (v := ?_) (a' := ?_) qJ7_b33 rfl rfl (qJ7_5) (fun _ _ _ h => h) (Or.inl ⟨by rfl, ?_⟩) ?_ ?_
              rotate_left; exact qJ7_c1; rotate_left; exact qJ7_c0
              refine done_ (qJ7_33) ?_
              try go_wp2
              go_roundg kj10
              case measure => have := HK1.out; have := HJ10.out; omega
              case rel => exact ⟨(t234), (t237), (wrap64 (x13_1 + 1)), (qJ7_16), (qJ7_16), H', ⟨by have := HK1.out; have := HJ10.out; omega⟩, ⟨(qJ7_34)⟩, ⟨(qJ7_35)⟩, ⟨(qJ7_1)⟩, ⟨(qJ7_0)⟩⟩
             ·rw [if_neg c38] at H
              have c38b0 : decide (t237 < x12_1) = false := decide_eq_false c38
              clear c38
              have H' := Aside0.mk H
              clear H
              try go_wp2
              have n0_ := Aside0.mk (Kd.R_drew HO_2.out)
              have n1_ := Aside0.mk (Kd.R_drew HO_11.out)
              have n2_ := Aside0.mk (Kept.drew HK.out)
              have n3_ := Aside0.mk (below_drew1 HB.out)
              clear HO_2; clear HO_11; clear HK; clear HB
              have HO_2 := n0_
              have HO_11 := n1_
              have HK := n2_
              have HB := n3_
              clear n0_ n1_ n2_ n3_
              have p233 : 0 ≤ (x13_1 : Int) := of_decide_eq_true (qJ7_26)
              have q233 : x13_1 < (l1.length : Int) := of_decide_eq_true (qJ7_26)
              obtain ⟨ad233, e233, hx233_0⟩ := Kd.at_int (Kd.C_kept_now HR1.out HK.out) x13_1 p233 q233
              have hw233_0 := hx233_0
              cases e233
              replace p233 := eq_true p233
              replace q233 := eq_true q233
              refine start_ (n := 19) (S := fun w' => w'.cell? (ad233.add (x13_1).toNat) = some (.int .i64 (rd l1 x13_1))) (ds := []) qJ7_b13 (by kernel_rfl) rfl rfl ((Kd.foot_int (HR1.out _ (qJ7_6)) x13_1 (of_eq_true p233) (of_eq_true q233))) (fun hHeld => ?_); refine with_tabW spec_l16Best.tab9 spec_l16Best.bits9 (fun HT_ HW_ => ?_)
              generalize wc.drew = w48 at HO_2 HO_11 HK HB hx233_0 hHeld ⊢
              refine pure_ (i := 0) (N := some 47) (v := ?_) (a' := ?_) qJ7_b14 rfl rfl (qJ7_5) (fun _ _ _ h => h) (Or.inl ⟨by rfl, ?_⟩) ?_ ?_
              rotate_left; exact qJ7_c1; rotate_left; exact qJ7_c0
              refine pure_ (i := 1) (N := some 48) (v := ?_) (a' := ?_) qJ7_b15 rfl rfl (qJ7_5) (fun _ _ _ h => h) (Or.inl ⟨by rfl, ?_⟩) ?_ ?_
              rotate_left; exact qJ7_c1; rotate_left; exact qJ7_c0
              refine pure_ (i := 2) (N := some 49) (v := ?_) (a' := ?_) qJ7_b16 rfl rfl (qJ7_5) (fun _ _ _ h => h) (Or.inl ⟨by rfl, ?_⟩) ?_ ?_
              rotate_left; exact qJ7_c1; rotate_left; exact qJ7_c0
              refine pure_ (i := 4) (N := some 51) (v := ?_) (a' := ?_) qJ7_b17 rfl rfl (qJ7_5) (fun _ _ _ h => h) (Or.inl ⟨by rfl, ?_⟩) ?_ ?_
              rotate_left; exact qJ7_c1; rotate_left; exact qJ7_c0
              refine pure_ (i := 7) (N := some 54) (v := ?_) (a' := ?_) qJ7_b18 rfl rfl (qJ7_5) (fun _ _ _ h => h) (Or.inl ⟨by rfl, ?_⟩) ?_ ?_
              rotate_left; exact qJ7_c1; rotate_left; exact qJ7_c0
              refine pure_ (i := 8) (N := some 55) (v := ?_) (a' := ?_) qJ7_b19 rfl rfl (qJ7_5) (fun _ _ _ h => h) (Or.inl ⟨by rfl, ?_⟩) ?_ ?_
              rotate_left; exact qJ7_c1; rotate_left; exact qJ7_c0
              refine pure_ (i := 9) (N := some 56) (v := ?_) (a' := ?_) qJ7_b20 rfl rfl (qJ7_5) (fun _ _ _ h => h) (Or.inl ⟨by rfl, ?_⟩) ?_ ?_
              rotate_left; exact qJ7_c1; rotate_left; exact qJ7_c0
              refine pure_ (i := 10) (N := some 57) (v := ?_) (a' := ?_) qJ7_b21 rfl rfl (qJ7_5) (fun _ _ _ h => h) (Or.inl ⟨by rfl, ?_⟩) ?_ ?_
              rotate_left; exact qJ7_c1; rotate_left; exact qJ7_c0
              refine take_ (i := 11) (N := some 58) (v := ?_) (a' := ?_) qJ7_b22 rfl rfl (take_ofW HT_.out HW_.out (by kernel_rfl)) (fun _ _ _ h => h) (Or.inl ⟨by rfl, ?_⟩) hHeld ?_ ?_
              rotate_left
              ·intro w' s0
               go_simp
               with_reducible rfl
              rotate_left
              ·exact qJ7_c0
              refine pure_ (i := 12) (N := some 59) (v := ?_) (a' := ?_) qJ7_b23 rfl rfl (qJ7_5) (fun _ _ _ h => h) (Or.inl ⟨by rfl, ?_⟩) ?_ ?_
              rotate_left; exact qJ7_c1; rotate_left; exact qJ7_c0
              refine join_ (σ := Value × Value) 7 qJ7_b24 (fun s_ => [(50, s_.1), (52, s_.2)]) (fun s_ w' => (w'.cell? (ad233.add (x13_1).toNat) = some (.int .i64 (rd l1 x13_1))) ∧ (Kd.R (Kd.int .i64) 3 w' w0.heap.size (fun k_ => (P2_ k_ ∨ w.heap.size ≤ k_) ∧ some k_ ≠ (s_.2 : Value).ownBlock ∧ some k_ ≠ (u11 : Value).ownBlock ∧ some k_ ≠ (.slice Ao7 l2.length co7 : Value).ownBlock) s_.1 t224) ∧ (Kd.R (Kd.int .i64) 3 w' w0.heap.size (fun k_ => (P2_ k_ ∨ w.heap.size ≤ k_) ∧ some k_ ≠ (s_.1 : Value).ownBlock ∧ some k_ ≠ (u11 : Value).ownBlock ∧ some k_ ≠ (.slice Ao7 l2.length co7 : Value).ownBlock) s_.2 y227) ∧ (Kd.R (Kd.int .i64) 3 w' w0.heap.size (fun k_ => (P2_ k_ ∨ w.heap.size ≤ k_) ∧ some k_ ≠ (s_.1 : Value).ownBlock ∧ some k_ ≠ (s_.2 : Value).ownBlock ∧ some k_ ≠ (.slice Ao7 l2.length co7 : Value).ownBlock) u11 x11_1) ∧ (Kd.R (Kd.int .i64) 3 w' w0.heap.size (fun k_ => (P2_ k_ ∨ w.heap.size ≤ k_) ∧ some k_ ≠ (s_.1 : Value).ownBlock ∧ some k_ ≠ (s_.2 : Value).ownBlock ∧ some k_ ≠ (u11 : Value).ownBlock) (.slice Ao7 l2.length co7) l2) ∧ (Kept w w' (fun k_ => P2_ k_)) ∧ (Below w0.heap.size w0 w')) ?_ ?_
              rotate_left
              ·intro hCont
               refine two_ (i := 3) (j := 5) (Ni := some 50) (Nj := some 52) qJ7_b25 qJ7_b26 rfl rfl rfl rfl (two_of HT_.out (by kernel_rfl)) (by decide) (by decide) (fun K hK => ?_) (fun K hK => ?_)
               ·skip
                refine goes_ Try.func74 (by kernel_rfl) rfl #[.slice Ao7 l2.length co7] (by rfl) rfl rfl (qJ7_7) ?_
                with_reducible refine (spec_l1Own.calls _ _ l2 t224 _ ?side1 ?side2 A22.out).mono ?_
                (case side1 => exact (qJ7_8))
                (case side2 => exact (qJ7_32))
                rintro e w49 ⟨v225, rfl, ho0, hb⟩
                refine ⟨_, rfl, ?_⟩
                have n0_ := Aside0.mk (Kd.R_elder' (qJ7_4) (Kd.R_base ho0) hb)
                have n1_ := Aside0.mk (Kd.R_elder' (qJ7_3) (Kd.R_base ho0) hb)
                have n2_ := Aside0.mk (Kd.R_lower (Kd.R_new' (Kd.R_new' (Kd.R_newM (M := fun k_ => (P2_ k_ ∨ w.heap.size ≤ k_)) ho0 (qJ7_2) (fun k_ h_ => .inr h_)) (Kd.R_lt (qJ7_4))) (Kd.R_lt (qJ7_3))) (below_size (qJ7_0)))
                have n3_ := Aside0.mk (Kept.below (S := (fun k_ => P2_ k_)) (qJ7_1) hb)
                have n4_ := Aside0.mk (below_step (qJ7_0) hb)
                clear HO_2; clear HO_11; clear HK; clear HB
                have HO_2 := n0_
                have HO_11 := n1_
                have HO226 := n2_
                have HK := n3_
                have HB := n4_
                clear n0_ n1_ n2_ n3_ n4_
                (try clear hb)
                (try clear hb2)
                (try clear hk)
                (try clear hi)
                (try clear ho0)
                refine hK.out _ _ ((Kd.foot_int (HR1.out _ (qJ7_6)) x13_1 (of_eq_true p233) (of_eq_true q233))) (fun hHeld => ?_)
                clear hK K
                refine norm_ (a' := ?_) ?_ ?_
                rotate_left
                ·exact qJ7_c2
                refine one_ (i := 5) (N := some 52) qJ7_b24 rfl rfl (qJ7_15) (by decide) (fun K hK => ?_)
                refine Kd.R_lit_step (Kd.int .i64) _ 3 ?hg (N := 52) ?hd (xs := ([x13_1] : List Int)) (inner := [.int .i64 x13_1]) (ok := fun _ => True) (okp := fun _ => True) ?hr ?hp (fun _ hk => hk) trivial (Below.refl _ _) (Nat.le_refl _) (by simp) ?_; (case hd => rfl); (case hg => rfl); (case hr => exact (qJ7_29)); (case hp => exact (qJ7_13))
                intro v228 w50 ho51 hb hg_ hnew_
                clear hg_ hnew_
                (first | rw [← Ny227.out] at ho51 | (simp only [Int.reduceToNat] at ho51; rw [← Ny227.out] at ho51))
                have n0_ := Aside0.mk (Kd.R_elder' (qJ7_4) (Kd.R_base ho51) hb)
                have n1_ := Aside0.mk (Kd.R_elder' (qJ7_3) (Kd.R_base ho51) hb)
                have n2_ := Aside0.mk (Kd.R_elder' (qJ7_12) (Kd.R_base ho51) hb)
                have n3_ := Aside0.mk (Kd.R_lower (Kd.R_new' (Kd.R_new' (Kd.R_new' (Kd.R_newM (M := fun k_ => (P2_ k_ ∨ w.heap.size ≤ k_)) ho51 (qJ7_2) (fun k_ h_ => .inr h_)) (Kd.R_lt (qJ7_4))) (Kd.R_lt (qJ7_3))) (Kd.R_lt (qJ7_12))) (below_size (qJ7_0)))
                have n4_ := Aside0.mk (Kept.below (S := (fun k_ => P2_ k_)) (qJ7_1) hb)
                have n5_ := Aside0.mk (below_step (qJ7_0) hb)
                clear HO_2; clear HO_11; clear HO226; clear HK; clear HB
                have HO_2 := n0_
                have HO_11 := n1_
                have HO226 := n2_
                have HO229 := n3_
                have HK := n4_
                have HB := n5_
                clear n0_ n1_ n2_ n3_ n4_ n5_; clear hb ho51
                refine hK.out _ _ ((Kd.foot_int (HR1.out _ (qJ7_6)) x13_1 (of_eq_true p233) (of_eq_true q233))) (fun hHeld => ?_)
                clear hK K
                refine norm_ (a' := ?_) ?_ ?_
                rotate_left
                ·exact qJ7_c3
                exact norm_ (qJ7_14) (hCont (v225, v228) _ ⟨hHeld, (qJ7_10), (qJ7_11), (qJ7_18), (qJ7_23), (qJ7_1), (qJ7_0)⟩)
               ·skip
                refine Kd.R_lit_step (Kd.int .i64) _ 3 ?hg (N := 52) ?hd (xs := ([x13_1] : List Int)) (inner := [.int .i64 x13_1]) (ok := fun _ => True) (okp := fun _ => True) ?hr ?hp (fun _ hk => hk) trivial (Below.refl _ _) (Nat.le_refl _) (by simp) ?_; (case hd => rfl); (case hg => rfl); (case hr => exact (qJ7_29)); (case hp => exact (qJ7_13))
                intro v228 w49 ho50 hb hg_ hnew_
                clear hg_ hnew_
                (first | rw [← Ny227.out] at ho50 | (simp only [Int.reduceToNat] at ho50; rw [← Ny227.out] at ho50))
                have n0_ := Aside0.mk (Kd.R_elder' (qJ7_4) (Kd.R_base ho50) hb)
                have n1_ := Aside0.mk (Kd.R_elder' (qJ7_3) (Kd.R_base ho50) hb)
                have n2_ := Aside0.mk (Kd.R_lower (Kd.R_new' (Kd.R_new' (Kd.R_newM (M := fun k_ => (P2_ k_ ∨ w.heap.size ≤ k_)) ho50 (qJ7_2) (fun k_ h_ => .inr h_)) (Kd.R_lt (qJ7_4))) (Kd.R_lt (qJ7_3))) (below_size (qJ7_0)))
                have n3_ := Aside0.mk (Kept.below (S := (fun k_ => P2_ k_)) (qJ7_1) hb)
                have n4_ := Aside0.mk (below_step (qJ7_0) hb)
                clear HO_2; clear HO_11; clear HK; clear HB
                have HO_2 := n0_
                have HO_11 := n1_
                have HO229 := n2_
                have HK := n3_
                have HB := n4_
                clear n0_ n1_ n2_ n3_ n4_; clear hb ho50
                refine hK.out _ _ ((Kd.foot_int (HR1.out _ (qJ7_6)) x13_1 (of_eq_true p233) (of_eq_true q233))) (fun hHeld => ?_)
                clear hK K
                refine norm_ (a' := ?_) ?_ ?_
                rotate_left
                ·exact qJ7_c3
                refine one_ (i := 3) (N := some 50) qJ7_b24 rfl rfl (qJ7_15) (by decide) (fun K hK => ?_)
                refine goes_ Try.func74 (by kernel_rfl) rfl #[.slice Ao7 l2.length co7] (by rfl) rfl rfl (qJ7_7) ?_
                with_reducible refine (spec_l1Own.calls _ _ l2 t224 _ ?side1 ?side2 A22.out).mono ?_
                (case side1 => exact (qJ7_8))
                (case side2 => exact (qJ7_32))
                rintro e w51 ⟨v225, rfl, ho0, hb⟩
                refine ⟨_, rfl, ?_⟩
                have n0_ := Aside0.mk (Kd.R_elder' (qJ7_4) (Kd.R_base ho0) hb)
                have n1_ := Aside0.mk (Kd.R_elder' (qJ7_3) (Kd.R_base ho0) hb)
                have n2_ := Aside0.mk (Kd.R_elder' (qJ7_9) (Kd.R_base ho0) hb)
                have n3_ := Aside0.mk (Kd.R_lower (Kd.R_new' (Kd.R_new' (Kd.R_new' (Kd.R_newM (M := fun k_ => (P2_ k_ ∨ w.heap.size ≤ k_)) ho0 (qJ7_2) (fun k_ h_ => .inr h_)) (Kd.R_lt (qJ7_4))) (Kd.R_lt (qJ7_3))) (Kd.R_lt (qJ7_9))) (below_size (qJ7_0)))
                have n4_ := Aside0.mk (Kept.below (S := (fun k_ => P2_ k_)) (qJ7_1) hb)
                have n5_ := Aside0.mk (below_step (qJ7_0) hb)
                clear HO_2; clear HO_11; clear HO229; clear HK; clear HB
                have HO_2 := n0_
                have HO_11 := n1_
                have HO229 := n2_
                have HO226 := n3_
                have HK := n4_
                have HB := n5_
                clear n0_ n1_ n2_ n3_ n4_ n5_
                (try clear hb)
                (try clear hb2)
                (try clear hk)
                (try clear hi)
                (try clear ho0)
                refine hK.out _ _ ((Kd.foot_int (HR1.out _ (qJ7_6)) x13_1 (of_eq_true p233) (of_eq_true q233))) (fun hHeld => ?_)
                clear hK K
                refine norm_ (a' := ?_) ?_ ?_
                rotate_left
                ·exact qJ7_c2
                exact norm_ (qJ7_14) (hCont (v225, v228) _ ⟨hHeld, (qJ7_10), (qJ7_11), (qJ7_19), (qJ7_24), (qJ7_1), (qJ7_0)⟩)
              rintro ⟨v225, v228⟩ w52 ⟨hS_, h0_, h1_, h2_, h3_, h4_, h5_⟩
              have n0_ : Aside0 (Kd.R (Kd.int .i64) 3 w52 w0.heap.size (fun k_ => (P2_ k_ ∨ w.heap.size ≤ k_) ∧ some k_ ≠ (v228 : Value).ownBlock ∧ some k_ ≠ (u11 : Value).ownBlock ∧ some k_ ≠ (.slice Ao7 l2.length co7 : Value).ownBlock) v225 t224) := ⟨h0_⟩
              have n1_ : Aside0 (Kd.R (Kd.int .i64) 3 w52 w0.heap.size (fun k_ => (P2_ k_ ∨ w.heap.size ≤ k_) ∧ some k_ ≠ (v225 : Value).ownBlock ∧ some k_ ≠ (u11 : Value).ownBlock ∧ some k_ ≠ (.slice Ao7 l2.length co7 : Value).ownBlock) v228 y227) := ⟨h1_⟩
              have n2_ : Aside0 (Kd.R (Kd.int .i64) 3 w52 w0.heap.size (fun k_ => (P2_ k_ ∨ w.heap.size ≤ k_) ∧ some k_ ≠ (v225 : Value).ownBlock ∧ some k_ ≠ (v228 : Value).ownBlock ∧ some k_ ≠ (.slice Ao7 l2.length co7 : Value).ownBlock) u11 x11_1) := ⟨h2_⟩
              have n3_ : Aside0 (Kd.R (Kd.int .i64) 3 w52 w0.heap.size (fun k_ => (P2_ k_ ∨ w.heap.size ≤ k_) ∧ some k_ ≠ (v225 : Value).ownBlock ∧ some k_ ≠ (v228 : Value).ownBlock ∧ some k_ ≠ (u11 : Value).ownBlock) (.slice Ao7 l2.length co7) l2) := ⟨h3_⟩
              have n4_ : Aside0 (Kept w w52 (fun k_ => P2_ k_)) := ⟨h4_⟩
              have n5_ : Aside0 (Below w0.heap.size w0 w52) := ⟨h5_⟩
              clear HO_2; clear HO_11; clear HK; clear HB; clear h0_ h1_ h2_ h3_ h4_ h5_
              have HO226 := n0_
              have HO229 := n1_
              have HO_11 := n2_
              have HO_2 := n3_
              have HK := n4_
              have HB := n5_
              clear n0_ n1_ n2_ n3_ n4_ n5_
              have hHeld : w52.cell? (ad233.add (x13_1).toNat) = some (.int .i64 (rd l1 x13_1)) := hS_
              obtain ⟨Ao54, co54, eo54⟩ := Kd.R_slice HO229.out
              (first | subst eo54 | (injection eo54 with f1_ f2_ f3_; have f4_ := f1_.symm; have f5_ := f3_.symm; clear f1_ f2_ f3_; subst f4_; subst f5_))
              refine norm_ (a' := ?_) ?_ ?_
              rotate_left
              ·exact qJ7_c6
              refine one_ (i := 6) (N := some 53) qJ7_b27 rfl rfl (qJ7_15) (by decide) (fun K hK => ?_)
              refine Kd.R_append_rows_step (Kd.int .i64) (w0 := w0) w0.heap.size (by rfl) (.tmp 50) (.tmp 52) 23 3 (.int .i64 0) 8 rfl Try.underlying23 info3 rfl (by decide) (by omega) v225 t224 y227 _ _ _ (fun k_ => (P2_ k_ ∨ w.heap.size ≤ k_) ∧ some k_ ≠ (.slice Ao7 l2.length co7 : Value).ownBlock ∧ some k_ ≠ (u11 : Value).ownBlock ∧ some k_ ≠ (.slice Ao54 y227.length co54 : Value).ownBlock) (fun _ => False) rfl rfl ?aO ?aR (fun _ _ h => h) (fun _ h => h.elim) ?aF ?aB ?aS ?aL ?_
              (case aR => exact (qJ7_17))
              (case aB => exact (qJ7_0))
              (case aF => exact (qJ7_27))
              (case aO => exact (qJ7_20))
              (case aS => exact (by exact (below_size (qJ7_0))))
              (case aL => have := LMc23.out; omega)
              intro v231 w53 ho hb hg hat
              rw [← Ny230.out] at ho
              have n0_ := Aside0.mk (Kd.R_after (ok := (fun k_ => (P2_ k_ ∨ w.heap.size ≤ k_) ∧ some k_ ≠ (u11 : Value).ownBlock ∧ some k_ ≠ (.slice Ao54 y227.length co54 : Value).ownBlock)) (qJ7_25) hg hat)
              have n1_ := Aside0.mk (Kd.R_after (ok := (fun k_ => (P2_ k_ ∨ w.heap.size ≤ k_) ∧ some k_ ≠ (.slice Ao7 l2.length co7 : Value).ownBlock ∧ some k_ ≠ (.slice Ao54 y227.length co54 : Value).ownBlock)) (qJ7_21) hg hat)
              have n2_ := Aside0.mk (Kd.R_after (ok := (fun k_ => (P2_ k_ ∨ w.heap.size ≤ k_) ∧ some k_ ≠ (.slice Ao7 l2.length co7 : Value).ownBlock ∧ some k_ ≠ (u11 : Value).ownBlock)) (qJ7_22) hg hat)
              have n3_ := Aside0.mk (hb)
              have n4_ := Aside0.mk (Kept.of_grown (S := (fun k_ => P2_ k_)) hg (qJ7_1) (fun k_ e_ => (HO226.out.1 k_ e_).1))
              have n5_ := Aside0.mk (ho); clear HO_2; clear HO_11; clear HO229; clear HB; clear HK; clear HO226
              have HO_2 := n0_
              have HO_11 := n1_
              have HO229 := n2_
              have HB := n3_
              have HK := n4_
              have HO232 := n5_
              clear n0_ n1_ n2_ n3_ n4_ n5_; clear ho hb hg hat
              obtain ⟨Ao55, co55, eo55⟩ := Kd.R_slice HO232.out
              (first | subst eo55 | (injection eo55 with f1_ f2_ f3_; have f4_ := f1_.symm; have f5_ := f3_.symm; clear f1_ f2_ f3_; subst f4_; subst f5_))
              refine hK.out _ _ ((Kd.foot_int (HR1.out _ (qJ7_6)) x13_1 (of_eq_true p233) (of_eq_true q233))) (fun hHeld => ?_)
              clear hK K
              refine norm_ (a' := ?_) ?_ ?_
              rotate_left
              ·exact qJ7_c4
              refine one_ (i := 13) (N := some 60) qJ7_b28 rfl rfl (qJ7_15) (by decide) (fun K hK => ?_)
              refine goes_ Try.func64 (by kernel_rfl) rfl #[.slice A0 l0.length c0, .slice (some ad233) l1.length c1, .slice Ao55 y230.length co55, .int .i64 (wrap64 (a3 + (rd l1 x13_1)))] (by rfl) rfl rfl (qJ7_7) ?_
              with_reducible refine (ih kj10 (qJ7_38) _ _ l0 _ _ l1 (fun k_ => some k_ = (.slice Ao55 y230.length co55 : Value).ownBlock) (.slice Ao55 y230.length co55) y230 (wrap64 (a3 + (rd l1 x13_1))) t234 t237 w0 _ ?side1 ?side2 ?side3 ?side4 ?side5 ?side6 A26.out).mono ?_
              (case side1 => exact (qJ7_0))
              (case side2 => exact (qJ7_30))
              (case side3 => exact HC0.out)
              (case side4 => exact (qJ7_31))
              (case side5 => exact HC1.out)
              (case side6 => exact (by exact Kd.R_tight rfl HO232.out))
              rintro e w56 ⟨v235, rfl, ho0, hb, hkp⟩
              refine ⟨_, rfl, ?_⟩
              have n0_ := Aside0.mk (Kd.R_mono (ok' := fun k_ => (P2_ k_ ∨ w.heap.size ≤ k_) ∧ some k_ ≠ (u11 : Value).ownBlock ∧ some k_ ≠ (.slice Ao54 y227.length co54 : Value).ownBlock ∧ some k_ ≠ (v235 : Value).ownBlock) (Kd.R_keptB (HO_2.out) hkp (fun k_ hk_ hs_ => (hk_.2) hs_)) (fun k_ hk_ => ⟨hk_.1.1.1, hk_.1.1.2.1, hk_.1.1.2.2, fun e_ => Or.elim (ho0.1 k_ e_.symm) (fun hs_ => hk_.2.1 hs_) (fun hn_ => Nat.not_le.2 hk_.2.2 hn_)⟩))
              have n1_ := Aside0.mk (Kd.R_mono (ok' := fun k_ => (P2_ k_ ∨ w.heap.size ≤ k_) ∧ some k_ ≠ (.slice Ao7 l2.length co7 : Value).ownBlock ∧ some k_ ≠ (.slice Ao54 y227.length co54 : Value).ownBlock ∧ some k_ ≠ (v235 : Value).ownBlock) (Kd.R_keptB (HO_11.out) hkp (fun k_ hk_ hs_ => (hk_.2) hs_)) (fun k_ hk_ => ⟨hk_.1.1.1, hk_.1.1.2.1, hk_.1.1.2.2, fun e_ => Or.elim (ho0.1 k_ e_.symm) (fun hs_ => hk_.2.1 hs_) (fun hn_ => Nat.not_le.2 hk_.2.2 hn_)⟩))
              have n2_ := Aside0.mk (Kd.R_mono (ok' := fun k_ => (P2_ k_ ∨ w.heap.size ≤ k_) ∧ some k_ ≠ (.slice Ao7 l2.length co7 : Value).ownBlock ∧ some k_ ≠ (u11 : Value).ownBlock ∧ some k_ ≠ (v235 : Value).ownBlock) (Kd.R_keptB (HO229.out) hkp (fun k_ hk_ hs_ => (hk_.2) hs_)) (fun k_ hk_ => ⟨hk_.1.1.1, hk_.1.1.2.1, hk_.1.1.2.2, fun e_ => Or.elim (ho0.1 k_ e_.symm) (fun hs_ => hk_.2.1 hs_) (fun hn_ => Nat.not_le.2 hk_.2.2 hn_)⟩))
              have n3_ := Aside0.mk (Kd.R_mono (ok' := fun k_ => (P2_ k_ ∨ w.heap.size ≤ k_) ∧ some k_ ≠ (.slice Ao7 l2.length co7 : Value).ownBlock ∧ some k_ ≠ (u11 : Value).ownBlock ∧ some k_ ≠ (.slice Ao54 y227.length co54 : Value).ownBlock) ho0 (fun k_ hk_ => ⟨Or.elim hk_ (fun hs_ => (HO232.out.1 k_ (hs_).symm).1) (fun hn_ => (.inr (Nat.le_trans (qJ7_2) hn_))), Or.elim hk_ (fun hs_ => fun e_ => (((HO_2.out).1 k_ e_.symm).2) hs_) (fun hn_ => (Kd.fresh' (Kd.R_lt (qJ7_4)) k_ hn_)), Or.elim hk_ (fun hs_ => fun e_ => (((HO_11.out).1 k_ e_.symm).2) hs_) (fun hn_ => (Kd.fresh' (Kd.R_lt (qJ7_3)) k_ hn_)), Or.elim hk_ (fun hs_ => fun e_ => (((HO229.out).1 k_ e_.symm).2) hs_) (fun hn_ => (Kd.fresh' (Kd.R_lt (qJ7_9)) k_ hn_))⟩))
              have n4_ := Aside0.mk (Kept.then_ (S := (fun k_ => P2_ k_)) (qJ7_1) hkp (fun k_ hs_ => (fun e_ => (HO232.out.1 k_ e_.symm).1) hs_))
              have n5_ := Aside0.mk (hb); clear HO_2; clear HO_11; clear HO229; clear HK; clear HB; clear HO232
              have HO_2 := n0_
              have HO_11 := n1_
              have HO229 := n2_
              have HO236 := n3_
              have HK := n4_
              have HB := n5_
              clear n0_ n1_ n2_ n3_ n4_ n5_
              (try clear hb)
              (try clear hkp)
              (try clear ho0)
              refine hK.out _ _ ((Kd.foot_int (HR1.out _ (qJ7_6)) x13_1 (of_eq_true p233) (of_eq_true q233))) (fun hHeld => ?_)
              clear hK K
              refine norm_ (a' := ?_) ?_ ?_
              rotate_left
              ·exact qJ7_c5
              refine pure_ (i := 14) (N := some 46) (v := ?_) (a' := ?_) qJ7_b29 rfl rfl (qJ7_5) (fun _ _ _ h => h) (Or.inl ⟨by rfl, ?_⟩) ?_ ?_
              rotate_left; exact qJ7_c1; rotate_left; exact qJ7_c0
              refine pure_ (i := 15) (N := some 61) (v := ?_) (a' := ?_) qJ7_b30 rfl rfl (qJ7_5) (fun _ _ _ h => h) (Or.inl ⟨by rfl, ?_⟩) ?_ ?_
              rotate_left; exact qJ7_c1; rotate_left; exact qJ7_c0
              refine pure_ (i := 16) (N := some 62) (v := ?_) (a' := ?_) qJ7_b31 rfl rfl (qJ7_5) (fun _ _ _ h => h) (Or.inl ⟨by rfl, ?_⟩) ?_ ?_
              rotate_left; exact qJ7_c1; rotate_left; exact qJ7_c0
              refine pure_ (i := 17) (N := some 14) (v := ?_) (a' := ?_) qJ7_b32 rfl rfl (qJ7_5) (fun _ _ _ h => h) (Or.inl ⟨by rfl, ?_⟩) ?_ ?_
              rotate_left; exact qJ7_c1; rotate_left; exact qJ7_c0
              refine pure_ (i := 18) (N := some 15) (v := ?_) (a' := ?_) qJ7_b33 rfl rfl (qJ7_5) (fun _ _ _ h => h) (Or.inl ⟨by rfl, ?_⟩) ?_ ?_
              rotate_left; exact qJ7_c1; rotate_left; exact qJ7_c0
              refine done_ (qJ7_33) ?_
              try go_wp2
              go_roundg kj10
              case measure => have := HK1.out; have := HJ10.out; omega
              case rel => exact ⟨(x11_1), (x12_1), (wrap64 (x13_1 + 1)), (qJ7_16), (qJ7_16), H', ⟨by have := HK1.out; have := HJ10.out; omega⟩, ⟨(qJ7_37)⟩, ⟨(qJ7_36)⟩, ⟨(qJ7_1)⟩, ⟨(qJ7_0)⟩⟩
           ·rw [if_neg c27] at H
            have c27b0 : decide (0 ≤ t237) = false := decide_eq_false c27
            clear c27
            have H' := Aside0.mk H
            clear H
            try go_wp2
            have n0_ := Aside0.mk (Kd.R_drew HO_2.out)
            have n1_ := Aside0.mk (Kd.R_drew HO_11.out)
            have n2_ := Aside0.mk (Kept.drew HK.out)
            have n3_ := Aside0.mk (below_drew1 HB.out)
            clear HO_2; clear HO_11; clear HK; clear HB
            have HO_2 := n0_
            have HO_11 := n1_
            have HK := n2_
            have HB := n3_
            clear n0_ n1_ n2_ n3_
            have p233 : 0 ≤ (x13_1 : Int) := of_decide_eq_true (qJ7_26)
            have q233 : x13_1 < (l1.length : Int) := of_decide_eq_true (qJ7_26)
            obtain ⟨ad233, e233, hx233_0⟩ := Kd.at_int (Kd.C_kept_now HR1.out HK.out) x13_1 p233 q233
            have hw233_0 := hx233_0
            cases e233
            replace p233 := eq_true p233
            replace q233 := eq_true q233
            refine start_ (n := 19) (S := fun w' => w'.cell? (ad233.add (x13_1).toNat) = some (.int .i64 (rd l1 x13_1))) (ds := []) qJ7_b13 (by kernel_rfl) rfl rfl ((Kd.foot_int (HR1.out _ (qJ7_6)) x13_1 (of_eq_true p233) (of_eq_true q233))) (fun hHeld => ?_); refine with_tabW spec_l16Best.tab9 spec_l16Best.bits9 (fun HT_ HW_ => ?_)
            generalize wc.drew = w57 at HO_2 HO_11 HK HB hx233_0 hHeld ⊢
            refine pure_ (i := 0) (N := some 47) (v := ?_) (a' := ?_) qJ7_b14 rfl rfl (qJ7_5) (fun _ _ _ h => h) (Or.inl ⟨by rfl, ?_⟩) ?_ ?_
            rotate_left; exact qJ7_c1; rotate_left; exact qJ7_c0
            refine pure_ (i := 1) (N := some 48) (v := ?_) (a' := ?_) qJ7_b15 rfl rfl (qJ7_5) (fun _ _ _ h => h) (Or.inl ⟨by rfl, ?_⟩) ?_ ?_
            rotate_left; exact qJ7_c1; rotate_left; exact qJ7_c0
            refine pure_ (i := 2) (N := some 49) (v := ?_) (a' := ?_) qJ7_b16 rfl rfl (qJ7_5) (fun _ _ _ h => h) (Or.inl ⟨by rfl, ?_⟩) ?_ ?_
            rotate_left; exact qJ7_c1; rotate_left; exact qJ7_c0
            refine pure_ (i := 4) (N := some 51) (v := ?_) (a' := ?_) qJ7_b17 rfl rfl (qJ7_5) (fun _ _ _ h => h) (Or.inl ⟨by rfl, ?_⟩) ?_ ?_
            rotate_left; exact qJ7_c1; rotate_left; exact qJ7_c0
            refine pure_ (i := 7) (N := some 54) (v := ?_) (a' := ?_) qJ7_b18 rfl rfl (qJ7_5) (fun _ _ _ h => h) (Or.inl ⟨by rfl, ?_⟩) ?_ ?_
            rotate_left; exact qJ7_c1; rotate_left; exact qJ7_c0
            refine pure_ (i := 8) (N := some 55) (v := ?_) (a' := ?_) qJ7_b19 rfl rfl (qJ7_5) (fun _ _ _ h => h) (Or.inl ⟨by rfl, ?_⟩) ?_ ?_
            rotate_left; exact qJ7_c1; rotate_left; exact qJ7_c0
            refine pure_ (i := 9) (N := some 56) (v := ?_) (a' := ?_) qJ7_b20 rfl rfl (qJ7_5) (fun _ _ _ h => h) (Or.inl ⟨by rfl, ?_⟩) ?_ ?_
            rotate_left; exact qJ7_c1; rotate_left; exact qJ7_c0
            refine pure_ (i := 10) (N := some 57) (v := ?_) (a' := ?_) qJ7_b21 rfl rfl (qJ7_5) (fun _ _ _ h => h) (Or.inl ⟨by rfl, ?_⟩) ?_ ?_
            rotate_left; exact qJ7_c1; rotate_left; exact qJ7_c0
            refine take_ (i := 11) (N := some 58) (v := ?_) (a' := ?_) qJ7_b22 rfl rfl (take_ofW HT_.out HW_.out (by kernel_rfl)) (fun _ _ _ h => h) (Or.inl ⟨by rfl, ?_⟩) hHeld ?_ ?_
            rotate_left
            ·intro w' s0
             go_simp
             with_reducible rfl
            rotate_left
            ·exact qJ7_c0
            refine pure_ (i := 12) (N := some 59) (v := ?_) (a' := ?_) qJ7_b23 rfl rfl (qJ7_5) (fun _ _ _ h => h) (Or.inl ⟨by rfl, ?_⟩) ?_ ?_
            rotate_left; exact qJ7_c1; rotate_left; exact qJ7_c0
            refine join_ (σ := Value × Value) 7 qJ7_b24 (fun s_ => [(50, s_.1), (52, s_.2)]) (fun s_ w' => (w'.cell? (ad233.add (x13_1).toNat) = some (.int .i64 (rd l1 x13_1))) ∧ (Kd.R (Kd.int .i64) 3 w' w0.heap.size (fun k_ => (P2_ k_ ∨ w.heap.size ≤ k_) ∧ some k_ ≠ (s_.2 : Value).ownBlock ∧ some k_ ≠ (u11 : Value).ownBlock ∧ some k_ ≠ (.slice Ao7 l2.length co7 : Value).ownBlock) s_.1 t224) ∧ (Kd.R (Kd.int .i64) 3 w' w0.heap.size (fun k_ => (P2_ k_ ∨ w.heap.size ≤ k_) ∧ some k_ ≠ (s_.1 : Value).ownBlock ∧ some k_ ≠ (u11 : Value).ownBlock ∧ some k_ ≠ (.slice Ao7 l2.length co7 : Value).ownBlock) s_.2 y227) ∧ (Kd.R (Kd.int .i64) 3 w' w0.heap.size (fun k_ => (P2_ k_ ∨ w.heap.size ≤ k_) ∧ some k_ ≠ (s_.1 : Value).ownBlock ∧ some k_ ≠ (s_.2 : Value).ownBlock ∧ some k_ ≠ (.slice Ao7 l2.length co7 : Value).ownBlock) u11 x11_1) ∧ (Kd.R (Kd.int .i64) 3 w' w0.heap.size (fun k_ => (P2_ k_ ∨ w.heap.size ≤ k_) ∧ some k_ ≠ (s_.1 : Value).ownBlock ∧ some k_ ≠ (s_.2 : Value).ownBlock ∧ some k_ ≠ (u11 : Value).ownBlock) (.slice Ao7 l2.length co7) l2) ∧ (Kept w w' (fun k_ => P2_ k_)) ∧ (Below w0.heap.size w0 w')) ?_ ?_
            rotate_left
            ·intro hCont
             refine two_ (i := 3) (j := 5) (Ni := some 50) (Nj := some 52) qJ7_b25 qJ7_b26 rfl rfl rfl rfl (two_of HT_.out (by kernel_rfl)) (by decide) (by decide) (fun K hK => ?_) (fun K hK => ?_)
             ·skip
              refine goes_ Try.func74 (by kernel_rfl) rfl #[.slice Ao7 l2.length co7] (by rfl) rfl rfl (qJ7_7) ?_
              with_reducible refine (spec_l1Own.calls _ _ l2 t224 _ ?side1 ?side2 A22.out).mono ?_
              (case side1 => exact (qJ7_8))
              (case side2 => exact (qJ7_32))
              rintro e w58 ⟨v225, rfl, ho0, hb⟩
              refine ⟨_, rfl, ?_⟩
              have n0_ := Aside0.mk (Kd.R_elder' (qJ7_4) (Kd.R_base ho0) hb)
              have n1_ := Aside0.mk (Kd.R_elder' (qJ7_3) (Kd.R_base ho0) hb)
              have n2_ := Aside0.mk (Kd.R_lower (Kd.R_new' (Kd.R_new' (Kd.R_newM (M := fun k_ => (P2_ k_ ∨ w.heap.size ≤ k_)) ho0 (qJ7_2) (fun k_ h_ => .inr h_)) (Kd.R_lt (qJ7_4))) (Kd.R_lt (qJ7_3))) (below_size (qJ7_0)))
              have n3_ := Aside0.mk (Kept.below (S := (fun k_ => P2_ k_)) (qJ7_1) hb)
              have n4_ := Aside0.mk (below_step (qJ7_0) hb)
              clear HO_2; clear HO_11; clear HK; clear HB
              have HO_2 := n0_
              have HO_11 := n1_
              have HO226 := n2_
              have HK := n3_
              have HB := n4_
              clear n0_ n1_ n2_ n3_ n4_
              (try clear hb)
              (try clear hb2)
              (try clear hk)
              (try clear hi)
              (try clear ho0)
              refine hK.out _ _ ((Kd.foot_int (HR1.out _ (qJ7_6)) x13_1 (of_eq_true p233) (of_eq_true q233))) (fun hHeld => ?_)
              clear hK K
              refine norm_ (a' := ?_) ?_ ?_
              rotate_left
              ·exact qJ7_c2
              refine one_ (i := 5) (N := some 52) qJ7_b24 rfl rfl (qJ7_15) (by decide) (fun K hK => ?_)
              refine Kd.R_lit_step (Kd.int .i64) _ 3 ?hg (N := 52) ?hd (xs := ([x13_1] : List Int)) (inner := [.int .i64 x13_1]) (ok := fun _ => True) (okp := fun _ => True) ?hr ?hp (fun _ hk => hk) trivial (Below.refl _ _) (Nat.le_refl _) (by simp) ?_; (case hd => rfl); (case hg => rfl); (case hr => exact (qJ7_29)); (case hp => exact (qJ7_13))
              intro v228 w59 ho60 hb hg_ hnew_
              clear hg_ hnew_
              (first | rw [← Ny227.out] at ho60 | (simp only [Int.reduceToNat] at ho60; rw [← Ny227.out] at ho60))
              have n0_ := Aside0.mk (Kd.R_elder' (qJ7_4) (Kd.R_base ho60) hb)
              have n1_ := Aside0.mk (Kd.R_elder' (qJ7_3) (Kd.R_base ho60) hb)
              have n2_ := Aside0.mk (Kd.R_elder' (qJ7_12) (Kd.R_base ho60) hb)
              have n3_ := Aside0.mk (Kd.R_lower (Kd.R_new' (Kd.R_new' (Kd.R_new' (Kd.R_newM (M := fun k_ => (P2_ k_ ∨ w.heap.size ≤ k_)) ho60 (qJ7_2) (fun k_ h_ => .inr h_)) (Kd.R_lt (qJ7_4))) (Kd.R_lt (qJ7_3))) (Kd.R_lt (qJ7_12))) (below_size (qJ7_0)))
              have n4_ := Aside0.mk (Kept.below (S := (fun k_ => P2_ k_)) (qJ7_1) hb)
              have n5_ := Aside0.mk (below_step (qJ7_0) hb)
              clear HO_2; clear HO_11; clear HO226; clear HK; clear HB
              have HO_2 := n0_
              have HO_11 := n1_
              have HO226 := n2_
              have HO229 := n3_
              have HK := n4_
              have HB := n5_
              clear n0_ n1_ n2_ n3_ n4_ n5_; clear hb ho60
              refine hK.out _ _ ((Kd.foot_int (HR1.out _ (qJ7_6)) x13_1 (of_eq_true p233) (of_eq_true q233))) (fun hHeld => ?_)
              clear hK K
              refine norm_ (a' := ?_) ?_ ?_
              rotate_left
              ·exact qJ7_c3
              exact norm_ (qJ7_14) (hCont (v225, v228) _ ⟨hHeld, (qJ7_10), (qJ7_11), (qJ7_18), (qJ7_23), (qJ7_1), (qJ7_0)⟩)
             ·skip
              refine Kd.R_lit_step (Kd.int .i64) _ 3 ?hg (N := 52) ?hd (xs := ([x13_1] : List Int)) (inner := [.int .i64 x13_1]) (ok := fun _ => True) (okp := fun _ => True) ?hr ?hp (fun _ hk => hk) trivial (Below.refl _ _) (Nat.le_refl _) (by simp) ?_; (case hd => rfl); (case hg => rfl); (case hr => exact (qJ7_29)); (case hp => exact (qJ7_13))
              intro v228 w58 ho59 hb hg_ hnew_
              clear hg_ hnew_
              (first | rw [← Ny227.out] at ho59 | (simp only [Int.reduceToNat] at ho59; rw [← Ny227.out] at ho59))
              have n0_ := Aside0.mk (Kd.R_elder' (qJ7_4) (Kd.R_base ho59) hb)
              have n1_ := Aside0.mk (Kd.R_elder' (qJ7_3) (Kd.R_base ho59) hb)
              have n2_ := Aside0.mk (Kd.R_lower (Kd.R_new' (Kd.R_new' (Kd.R_newM (M := fun k_ => (P2_ k_ ∨ w.heap.size ≤ k_)) ho59 (qJ7_2) (fun k_ h_ => .inr h_)) (Kd.R_lt (qJ7_4))) (Kd.R_lt (qJ7_3))) (below_size (qJ7_0)))
              have n3_ := Aside0.mk (Kept.below (S := (fun k_ => P2_ k_)) (qJ7_1) hb)
              have n4_ := Aside0.mk (below_step (qJ7_0) hb)
              clear HO_2; clear HO_11; clear HK; clear HB
              have HO_2 := n0_
              have HO_11 := n1_
              have HO229 := n2_
              have HK := n3_
              have HB := n4_
              clear n0_ n1_ n2_ n3_ n4_; clear hb ho59
              refine hK.out _ _ ((Kd.foot_int (HR1.out _ (qJ7_6)) x13_1 (of_eq_true p233) (of_eq_true q233))) (fun hHeld => ?_)
              clear hK K
              refine norm_ (a' := ?_) ?_ ?_
              rotate_left
              ·exact qJ7_c3
              refine one_ (i := 3) (N := some 50) qJ7_b24 rfl rfl (qJ7_15) (by decide) (fun K hK => ?_)
              refine goes_ Try.func74 (by kernel_rfl) rfl #[.slice Ao7 l2.length co7] (by rfl) rfl rfl (qJ7_7) ?_
              with_reducible refine (spec_l1Own.calls _ _ l2 t224 _ ?side1 ?side2 A22.out).mono ?_
              (case side1 => exact (qJ7_8))
              (case side2 => exact (qJ7_32))
              rintro e w60 ⟨v225, rfl, ho0, hb⟩
              refine ⟨_, rfl, ?_⟩
              have n0_ := Aside0.mk (Kd.R_elder' (qJ7_4) (Kd.R_base ho0) hb)
              have n1_ := Aside0.mk (Kd.R_elder' (qJ7_3) (Kd.R_base ho0) hb)
              have n2_ := Aside0.mk (Kd.R_elder' (qJ7_9) (Kd.R_base ho0) hb)
              have n3_ := Aside0.mk (Kd.R_lower (Kd.R_new' (Kd.R_new' (Kd.R_new' (Kd.R_newM (M := fun k_ => (P2_ k_ ∨ w.heap.size ≤ k_)) ho0 (qJ7_2) (fun k_ h_ => .inr h_)) (Kd.R_lt (qJ7_4))) (Kd.R_lt (qJ7_3))) (Kd.R_lt (qJ7_9))) (below_size (qJ7_0)))
              have n4_ := Aside0.mk (Kept.below (S := (fun k_ => P2_ k_)) (qJ7_1) hb)
              have n5_ := Aside0.mk (below_step (qJ7_0) hb)
              clear HO_2; clear HO_11; clear HO229; clear HK; clear HB
              have HO_2 := n0_
              have HO_11 := n1_
              have HO229 := n2_
              have HO226 := n3_
              have HK := n4_
              have HB := n5_
              clear n0_ n1_ n2_ n3_ n4_ n5_
              (try clear hb)
              (try clear hb2)
              (try clear hk)
              (try clear hi)
              (try clear ho0)
              refine hK.out _ _ ((Kd.foot_int (HR1.out _ (qJ7_6)) x13_1 (of_eq_true p233) (of_eq_true q233))) (fun hHeld => ?_)
              clear hK K
              refine norm_ (a' := ?_) ?_ ?_
              rotate_left
              ·exact qJ7_c2
              exact norm_ (qJ7_14) (hCont (v225, v228) _ ⟨hHeld, (qJ7_10), (qJ7_11), (qJ7_19), (qJ7_24), (qJ7_1), (qJ7_0)⟩)
            rintro ⟨v225, v228⟩ w61 ⟨hS_, h0_, h1_, h2_, h3_, h4_, h5_⟩
            have n0_ : Aside0 (Kd.R (Kd.int .i64) 3 w61 w0.heap.size (fun k_ => (P2_ k_ ∨ w.heap.size ≤ k_) ∧ some k_ ≠ (v228 : Value).ownBlock ∧ some k_ ≠ (u11 : Value).ownBlock ∧ some k_ ≠ (.slice Ao7 l2.length co7 : Value).ownBlock) v225 t224) := ⟨h0_⟩
            have n1_ : Aside0 (Kd.R (Kd.int .i64) 3 w61 w0.heap.size (fun k_ => (P2_ k_ ∨ w.heap.size ≤ k_) ∧ some k_ ≠ (v225 : Value).ownBlock ∧ some k_ ≠ (u11 : Value).ownBlock ∧ some k_ ≠ (.slice Ao7 l2.length co7 : Value).ownBlock) v228 y227) := ⟨h1_⟩
            have n2_ : Aside0 (Kd.R (Kd.int .i64) 3 w61 w0.heap.size (fun k_ => (P2_ k_ ∨ w.heap.size ≤ k_) ∧ some k_ ≠ (v225 : Value).ownBlock ∧ some k_ ≠ (v228 : Value).ownBlock ∧ some k_ ≠ (.slice Ao7 l2.length co7 : Value).ownBlock) u11 x11_1) := ⟨h2_⟩
            have n3_ : Aside0 (Kd.R (Kd.int .i64) 3 w61 w0.heap.size (fun k_ => (P2_ k_ ∨ w.heap.size ≤ k_) ∧ some k_ ≠ (v225 : Value).ownBlock ∧ some k_ ≠ (v228 : Value).ownBlock ∧ some k_ ≠ (u11 : Value).ownBlock) (.slice Ao7 l2.length co7) l2) := ⟨h3_⟩
            have n4_ : Aside0 (Kept w w61 (fun k_ => P2_ k_)) := ⟨h4_⟩
            have n5_ : Aside0 (Below w0.heap.size w0 w61) := ⟨h5_⟩
            clear HO_2; clear HO_11; clear HK; clear HB; clear h0_ h1_ h2_ h3_ h4_ h5_
            have HO226 := n0_
            have HO229 := n1_
            have HO_11 := n2_
            have HO_2 := n3_
            have HK := n4_
            have HB := n5_
            clear n0_ n1_ n2_ n3_ n4_ n5_
            have hHeld : w61.cell? (ad233.add (x13_1).toNat) = some (.int .i64 (rd l1 x13_1)) := hS_
            obtain ⟨Ao63, co63, eo63⟩ := Kd.R_slice HO229.out
            (first | subst eo63 | (injection eo63 with f1_ f2_ f3_; have f4_ := f1_.symm; have f5_ := f3_.symm; clear f1_ f2_ f3_; subst f4_; subst f5_))
            refine norm_ (a' := ?_) ?_ ?_
            rotate_left
            ·exact qJ7_c6
            refine one_ (i := 6) (N := some 53) qJ7_b27 rfl rfl (qJ7_15) (by decide) (fun K hK => ?_)
            refine Kd.R_append_rows_step (Kd.int .i64) (w0 := w0) w0.heap.size (by rfl) (.tmp 50) (.tmp 52) 23 3 (.int .i64 0) 8 rfl Try.underlying23 info3 rfl (by decide) (by omega) v225 t224 y227 _ _ _ (fun k_ => (P2_ k_ ∨ w.heap.size ≤ k_) ∧ some k_ ≠ (.slice Ao7 l2.length co7 : Value).ownBlock ∧ some k_ ≠ (u11 : Value).ownBlock ∧ some k_ ≠ (.slice Ao63 y227.length co63 : Value).ownBlock) (fun _ => False) rfl rfl ?aO ?aR (fun _ _ h => h) (fun _ h => h.elim) ?aF ?aB ?aS ?aL ?_
            (case aR => exact (qJ7_17))
            (case aB => exact (qJ7_0))
            (case aF => exact (qJ7_27))
            (case aO => exact (qJ7_20))
            (case aS => exact (by exact (below_size (qJ7_0))))
            (case aL => have := LMc23.out; omega)
            intro v231 w62 ho hb hg hat
            rw [← Ny230.out] at ho
            have n0_ := Aside0.mk (Kd.R_after (ok := (fun k_ => (P2_ k_ ∨ w.heap.size ≤ k_) ∧ some k_ ≠ (u11 : Value).ownBlock ∧ some k_ ≠ (.slice Ao63 y227.length co63 : Value).ownBlock)) (qJ7_25) hg hat)
            have n1_ := Aside0.mk (Kd.R_after (ok := (fun k_ => (P2_ k_ ∨ w.heap.size ≤ k_) ∧ some k_ ≠ (.slice Ao7 l2.length co7 : Value).ownBlock ∧ some k_ ≠ (.slice Ao63 y227.length co63 : Value).ownBlock)) (qJ7_21) hg hat)
            have n2_ := Aside0.mk (Kd.R_after (ok := (fun k_ => (P2_ k_ ∨ w.heap.size ≤ k_) ∧ some k_ ≠ (.slice Ao7 l2.length co7 : Value).ownBlock ∧ some k_ ≠ (u11 : Value).ownBlock)) (qJ7_22) hg hat)
            have n3_ := Aside0.mk (hb)
            have n4_ := Aside0.mk (Kept.of_grown (S := (fun k_ => P2_ k_)) hg (qJ7_1) (fun k_ e_ => (HO226.out.1 k_ e_).1))
            have n5_ := Aside0.mk (ho); clear HO_2; clear HO_11; clear HO229; clear HB; clear HK; clear HO226
            have HO_2 := n0_
            have HO_11 := n1_
            have HO229 := n2_
            have HB := n3_
            have HK := n4_
            have HO232 := n5_
            clear n0_ n1_ n2_ n3_ n4_ n5_; clear ho hb hg hat
            obtain ⟨Ao64, co64, eo64⟩ := Kd.R_slice HO232.out
            (first | subst eo64 | (injection eo64 with f1_ f2_ f3_; have f4_ := f1_.symm; have f5_ := f3_.symm; clear f1_ f2_ f3_; subst f4_; subst f5_))
            refine hK.out _ _ ((Kd.foot_int (HR1.out _ (qJ7_6)) x13_1 (of_eq_true p233) (of_eq_true q233))) (fun hHeld => ?_)
            clear hK K
            refine norm_ (a' := ?_) ?_ ?_
            rotate_left
            ·exact qJ7_c4
            refine one_ (i := 13) (N := some 60) qJ7_b28 rfl rfl (qJ7_15) (by decide) (fun K hK => ?_)
            refine goes_ Try.func64 (by kernel_rfl) rfl #[.slice A0 l0.length c0, .slice (some ad233) l1.length c1, .slice Ao64 y230.length co64, .int .i64 (wrap64 (a3 + (rd l1 x13_1)))] (by rfl) rfl rfl (qJ7_7) ?_
            with_reducible refine (ih kj10 (qJ7_38) _ _ l0 _ _ l1 (fun k_ => some k_ = (.slice Ao64 y230.length co64 : Value).ownBlock) (.slice Ao64 y230.length co64) y230 (wrap64 (a3 + (rd l1 x13_1))) t234 t237 w0 _ ?side1 ?side2 ?side3 ?side4 ?side5 ?side6 A26.out).mono ?_
            (case side1 => exact (qJ7_0))
            (case side2 => exact (qJ7_30))
            (case side3 => exact HC0.out)
            (case side4 => exact (qJ7_31))
            (case side5 => exact HC1.out)
            (case side6 => exact (by exact Kd.R_tight rfl HO232.out))
            rintro e w65 ⟨v235, rfl, ho0, hb, hkp⟩
            refine ⟨_, rfl, ?_⟩
            have n0_ := Aside0.mk (Kd.R_mono (ok' := fun k_ => (P2_ k_ ∨ w.heap.size ≤ k_) ∧ some k_ ≠ (u11 : Value).ownBlock ∧ some k_ ≠ (.slice Ao63 y227.length co63 : Value).ownBlock ∧ some k_ ≠ (v235 : Value).ownBlock) (Kd.R_keptB (HO_2.out) hkp (fun k_ hk_ hs_ => (hk_.2) hs_)) (fun k_ hk_ => ⟨hk_.1.1.1, hk_.1.1.2.1, hk_.1.1.2.2, fun e_ => Or.elim (ho0.1 k_ e_.symm) (fun hs_ => hk_.2.1 hs_) (fun hn_ => Nat.not_le.2 hk_.2.2 hn_)⟩))
            have n1_ := Aside0.mk (Kd.R_mono (ok' := fun k_ => (P2_ k_ ∨ w.heap.size ≤ k_) ∧ some k_ ≠ (.slice Ao7 l2.length co7 : Value).ownBlock ∧ some k_ ≠ (.slice Ao63 y227.length co63 : Value).ownBlock ∧ some k_ ≠ (v235 : Value).ownBlock) (Kd.R_keptB (HO_11.out) hkp (fun k_ hk_ hs_ => (hk_.2) hs_)) (fun k_ hk_ => ⟨hk_.1.1.1, hk_.1.1.2.1, hk_.1.1.2.2, fun e_ => Or.elim (ho0.1 k_ e_.symm) (fun hs_ => hk_.2.1 hs_) (fun hn_ => Nat.not_le.2 hk_.2.2 hn_)⟩))
            have n2_ := Aside0.mk (Kd.R_mono (ok' := fun k_ => (P2_ k_ ∨ w.heap.size ≤ k_) ∧ some k_ ≠ (.slice Ao7 l2.length co7 : Value).ownBlock ∧ some k_ ≠ (u11 : Value).ownBlock ∧ some k_ ≠ (v235 : Value).ownBlock) (Kd.R_keptB (HO229.out) hkp (fun k_ hk_ hs_ => (hk_.2) hs_)) (fun k_ hk_ => ⟨hk_.1.1.1, hk_.1.1.2.1, hk_.1.1.2.2, fun e_ => Or.elim (ho0.1 k_ e_.symm) (fun hs_ => hk_.2.1 hs_) (fun hn_ => Nat.not_le.2 hk_.2.2 hn_)⟩))
            have n3_ := Aside0.mk (Kd.R_mono (ok' := fun k_ => (P2_ k_ ∨ w.heap.size ≤ k_) ∧ some k_ ≠ (.slice Ao7 l2.length co7 : Value).ownBlock ∧ some k_ ≠ (u11 : Value).ownBlock ∧ some k_ ≠ (.slice Ao63 y227.length co63 : Value).ownBlock) ho0 (fun k_ hk_ => ⟨Or.elim hk_ (fun hs_ => (HO232.out.1 k_ (hs_).symm).1) (fun hn_ => (.inr (Nat.le_trans (qJ7_2) hn_))), Or.elim hk_ (fun hs_ => fun e_ => (((HO_2.out).1 k_ e_.symm).2) hs_) (fun hn_ => (Kd.fresh' (Kd.R_lt (qJ7_4)) k_ hn_)), Or.elim hk_ (fun hs_ => fun e_ => (((HO_11.out).1 k_ e_.symm).2) hs_) (fun hn_ => (Kd.fresh' (Kd.R_lt (qJ7_3)) k_ hn_)), Or.elim hk_ (fun hs_ => fun e_ => (((HO229.out).1 k_ e_.symm).2) hs_) (fun hn_ => (Kd.fresh' (Kd.R_lt (qJ7_9)) k_ hn_))⟩))
            have n4_ := Aside0.mk (Kept.then_ (S := (fun k_ => P2_ k_)) (qJ7_1) hkp (fun k_ hs_ => (fun e_ => (HO232.out.1 k_ e_.symm).1) hs_))
            have n5_ := Aside0.mk (hb); clear HO_2; clear HO_11; clear HO229; clear HK; clear HB; clear HO232
            have HO_2 := n0_
            have HO_11 := n1_
            have HO229 := n2_
            have HO236 := n3_
            have HK := n4_
            have HB := n5_
            clear n0_ n1_ n2_ n3_ n4_ n5_
            (try clear hb)
            (try clear hkp)
            (try clear ho0)
            refine hK.out _ _ ((Kd.foot_int (HR1.out _ (qJ7_6)) x13_1 (of_eq_true p233) (of_eq_true q233))) (fun hHeld => ?_)
            clear hK K
            refine norm_ (a' := ?_) ?_ ?_
            rotate_left
            ·exact qJ7_c5
            refine pure_ (i := 14) (N := some 46) (v := ?_) (a' := ?_) qJ7_b29 rfl rfl (qJ7_5) (fun _ _ _ h => h) (Or.inl ⟨by rfl, ?_⟩) ?_ ?_
            rotate_left; exact qJ7_c1; rotate_left; exact qJ7_c0
            refine pure_ (i := 15) (N := some 61) (v := ?_) (a' := ?_) qJ7_b30 rfl rfl (qJ7_5) (fun _ _ _ h => h) (Or.inl ⟨by rfl, ?_⟩) ?_ ?_
            rotate_left; exact qJ7_c1; rotate_left; exact qJ7_c0
            refine pure_ (i := 16) (N := some 62) (v := ?_) (a' := ?_) qJ7_b31 rfl rfl (qJ7_5) (fun _ _ _ h => h) (Or.inl ⟨by rfl, ?_⟩) ?_ ?_
            rotate_left; exact qJ7_c1; rotate_left; exact qJ7_c0
            refine pure_ (i := 17) (N := some 14) (v := ?_) (a' := ?_) qJ7_b32 rfl rfl (qJ7_5) (fun _ _ _ h => h) (Or.inl ⟨by rfl, ?_⟩) ?_ ?_
            rotate_left; exact qJ7_c1; rotate_left; exact qJ7_c0
            refine pure_ (i := 18) (N := some 15) (v := ?_) (a' := ?_) qJ7_b33 rfl rfl (qJ7_5) (fun _ _ _ h => h) (Or.inl ⟨by rfl, ?_⟩) ?_ ?_
            rotate_left; exact qJ7_c1; rotate_left; exact qJ7_c0
            refine done_ (qJ7_33) ?_
            try go_wp2
            go_roundg kj10
            case measure => have := HK1.out; have := HJ10.out; omega
            case rel => exact ⟨(x11_1), (x12_1), (wrap64 (x13_1 + 1)), (qJ7_16), (qJ7_16), H', ⟨by have := HK1.out; have := HJ10.out; omega⟩, ⟨(qJ7_37)⟩, ⟨(qJ7_36)⟩, ⟨(qJ7_1)⟩, ⟨(qJ7_0)⟩⟩
          ·rw [if_neg c25] at H
           exact absurd H (by simp)
         ·rw [if_neg c24] at H
          exact absurd H (by simp)
        ·rw [if_neg c23] at H
         exact absurd H (by simp)
    ·rw [if_neg c10] at H
     have c10b0 : decide (x13_1 < (l1.length : Int)) = false := decide_eq_false c10
     clear c10
     simp only [Option.some.injEq, Prod.mk.injEq] at H
     obtain ⟨rfl, rfl⟩ := H
     go_wp2
     go_ret2
     exact ⟨_, (qJ7_39), (by (with_reducible repeat (first | apply Kd.R_alloc | apply Kd.R_drewN | apply Kd.R_drew)); exact Kd.R_mono HO_11.out (fun _ hk => hk.1)), (qJ7_0), (qJ7_1)⟩

end Go.Proofs.Ytfjpbochanekoaa.MJ
