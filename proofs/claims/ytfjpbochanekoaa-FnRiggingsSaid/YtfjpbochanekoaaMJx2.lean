-- Written by a program of this session (wip/drv.py, wip/tight.py).
import Derived.Test.YtfjpbochanekoaaMJx0
namespace Go.Proofs.Ytfjpbochanekoaa.MJ
open Go.RowKit Go.Proofs.YtfjpbochanekoaaW.PrintWords Go.Proofs.YtfjpbochanekoaaW.PrintLast Go.Proofs.YtfjpbochanekoaaW.PrintMore
theorem qJ2_0 {p : Prop} (h : p := by repeat (first | (with_reducible first | exact HB.out | apply below_alloc | apply pw_below_drewN | apply below_drew1) | exact HB.out)) : p := h
theorem qJ2_1 {p : Prop} (h : p := by (with_reducible repeat (first | apply Kd.R_alloc | apply Kd.R_drewN | apply Kd.R_drew)); exact HO_3.out) : p := h
theorem qJ2_2 {p : Prop} (h : p := by exact any_of HT_.out (by kernel_rfl)) : p := h
theorem qJ2_3 {p : Prop} (h : p := by (with_reducible repeat (first | apply Kd.R_alloc | apply Kd.R_drewN | apply Kd.R_drew)); exact Kd.R_mono HO_3.out (fun _ hk => ⟨hk.2, hk.1⟩)) : p := h
theorem qJ2_4 {p : Prop} (h : p := by repeat (first | (with_reducible exact HR123.out) | (with_reducible refine Kd.C_alloc ?_ _) | (with_reducible refine Kd.C_drewN ?_ _) | (with_reducible refine Kd.C_drew ?_) | exact HR123.out)) : p := h
theorem qJ2_5 {p : Prop} (h : p := by repeat (first | (with_reducible exact HR147.out) | (with_reducible refine Kd.C_alloc ?_ _) | (with_reducible refine Kd.C_drewN ?_ _) | (with_reducible refine Kd.C_drew ?_) | exact HR147.out)) : p := h
theorem qJ2_6 {p : Prop} (h : p := by (with_reducible repeat (first | apply Kd.R_alloc | apply Kd.R_drewN | apply Kd.R_drew)); exact Kd.R_mono HO_3.out (fun _ hk => ⟨hk.1.2, hk.2⟩)) : p := h
theorem qJ2_7 {p : Prop} (h : p := by first | (with_reducible assumption) | assumption) : p := h
theorem qJ2_8 {p : Prop} (h : p := by (with_reducible repeat (first | apply Kd.R_alloc | apply Kd.R_drewN | apply Kd.R_drew)); exact Kd.R_mono HO_3.out (fun _ hk => ⟨hk.2, hk.1.2⟩)) : p := h
theorem qJ2_9 {p : Prop} (h : p := by repeat (first | (with_reducible exact HR137.out) | (with_reducible refine Kd.C_alloc ?_ _) | (with_reducible refine Kd.C_drewN ?_ _) | (with_reducible refine Kd.C_drew ?_) | exact HR137.out)) : p := h
theorem qJ2_10 {p : Prop} (h : p := by repeat (first | (with_reducible exact HR161.out) | (with_reducible refine Kd.C_alloc ?_ _) | (with_reducible refine Kd.C_drewN ?_ _) | (with_reducible refine Kd.C_drew ?_) | exact HR161.out)) : p := h
theorem qJ2_11 {p : Prop} (h : p := by (with_reducible repeat (first | apply Kd.R_alloc | apply Kd.R_drewN | apply Kd.R_drew)); exact HO130.out) : p := h
theorem qJ2_12 {p : Prop} (h : p := by (with_reducible repeat (first | apply Kd.R_alloc | apply Kd.R_drewN | apply Kd.R_drew)); exact HO154.out) : p := h
theorem qJ2_13 {p : Prop} (h : p := by exact (Reps.one (show Kd.M (Kd.int .i64) _ _ _ (rd l0 x4_1) [.int .i64 (rd l0 x4_1)] from rfl) (Reps.none _ _))) : p := h
theorem qJ2_14 {p : Prop} (h : p := by simp only [putAll, Act.put, List.setIfInBounds_toArray, List.set_cons_zero, List.set_cons_succ]) : p := h
theorem qJ2_15 {p : Prop} (h : p := by (with_reducible repeat (first | apply Kd.R_alloc | apply Kd.R_drewN | apply Kd.R_drew)); exact Kd.R_mono HO126.out (fun _ hk => ⟨hk.2, hk.1⟩)) : p := h
theorem qJ2_16 {p : Prop} (h : p := by (with_reducible repeat (first | apply Kd.R_alloc | apply Kd.R_drewN | apply Kd.R_drew)); exact Kd.R_mono HO150.out (fun _ hk => ⟨hk.2, hk.1⟩)) : p := h
theorem qJ2_17 {p : Prop} (h : p := by first | (go_simp; done) | (go_simp; rfl)) : p := h
theorem qJ2_18 {p : Prop} (h : p := by exact one_of HT_.out (by kernel_rfl)) : p := h
theorem qJ2_19 {p : Prop} (h : p := by repeat (first | exact (qJ2_4) | (with_reducible refine Kd.C_alloc ?_ _) | (with_reducible refine Kd.C_drewN ?_ _) | (with_reducible refine Kd.C_drew ?_))) : p := h
theorem qJ2_20 {p : Prop} (h : p := by repeat (first | exact (qJ2_5) | (with_reducible refine Kd.C_alloc ?_ _) | (with_reducible refine Kd.C_drewN ?_ _) | (with_reducible refine Kd.C_drew ?_))) : p := h
theorem qJ2_21 {p : Prop} (h : p := by (with_reducible repeat (first | apply Kd.R_alloc | apply Kd.R_drewN | apply Kd.R_drew)); exact Kd.R_mono HO130.out (fun _ hk => ⟨hk.2, hk.1⟩)) : p := h
theorem qJ2_22 {p : Prop} (h : p := by (with_reducible repeat (first | apply Kd.R_alloc | apply Kd.R_drewN | apply Kd.R_drew)); exact Kd.R_mono HO154.out (fun _ hk => ⟨hk.2, hk.1⟩)) : p := h
theorem qJ2_23 {p : Prop} (h : p := by exact (fun k_ hk => ⟨Kd.fresh' (Kd.R_lt (qJ2_1)) k_ hk, Kd.fresh' (Kd.R_lt (qJ2_11)) k_ hk⟩)) : p := h
theorem qJ2_24 {p : Prop} (h : p := by exact (fun k_ hk => ⟨Kd.fresh' (Kd.R_lt (qJ2_1)) k_ hk, Kd.fresh' (Kd.R_lt (qJ2_12)) k_ hk⟩)) : p := h
theorem qJ2_25 {p : Prop} (h : p := by exact (below_size (qJ2_0))) : p := h
theorem qJ2_26 {p : Prop} (h : p := by (with_reducible repeat (first | apply Kd.R_alloc | apply Kd.R_drewN | apply Kd.R_drew)); exact Kd.R_mono HO119.out (fun _ hk => ⟨hk.1.2, hk.2⟩)) : p := h
theorem qJ2_27 {p : Prop} (h : p := by (with_reducible repeat (first | apply Kd.R_alloc | apply Kd.R_drewN | apply Kd.R_drew)); exact Kd.R_mono HO130.out (fun _ hk => ⟨hk.1.2, hk.2⟩)) : p := h
theorem qJ2_28 {p : Prop} (h : p := by (with_reducible repeat (first | apply Kd.R_alloc | apply Kd.R_drewN | apply Kd.R_drew)); exact Kd.R_mono HO143.out (fun _ hk => ⟨hk.1.2, hk.2⟩)) : p := h
theorem qJ2_29 {p : Prop} (h : p := by (with_reducible repeat (first | apply Kd.R_alloc | apply Kd.R_drewN | apply Kd.R_drew)); exact Kd.R_mono HO154.out (fun _ hk => ⟨hk.1.2, hk.2⟩)) : p := h
theorem qJ2_30 {p : Prop} (h : p := by exact done_of HT_.out (by kernel_rfl)) : p := h
theorem qJ2_31 {p : Prop} (h : p := by first | rfl | (simp; done) | (simp [*]; done)) : p := h
theorem qJ2_32 {p : Prop} (h : p := by (with_reducible repeat (first | apply Kd.R_alloc | apply Kd.R_drewN | apply Kd.R_drew)); exact HO126.out) : p := h
theorem qJ2_33 {p : Prop} (h : p := by (with_reducible repeat (first | apply Kd.R_alloc | apply Kd.R_drewN | apply Kd.R_drew)); exact HO119.out) : p := h
theorem qJ2_34 {p : Prop} (h : p := by (with_reducible repeat (first | apply Kd.R_alloc | apply Kd.R_drewN | apply Kd.R_drew)); exact HO150.out) : p := h
theorem qJ2_35 {p : Prop} (h : p := by (with_reducible repeat (first | apply Kd.R_alloc | apply Kd.R_drewN | apply Kd.R_drew)); exact HO143.out) : p := h
theorem qJ2_c0 {p : Prop} (h : p := by
  simp only [Act.put, List.setIfInBounds_toArray, List.set_cons_zero, List.set_cons_succ, i64_w, i32_w]
  rfl) : p := h
theorem qJ2_c1 {p : Prop} (h : p := by
  intro w'
  go_simp
  with_reducible rfl) : p := h
theorem qJ2_c2 {p : Prop} (h : p := by
  show Act.put _ (some 35) _ = _
  simp only [Act.put, List.setIfInBounds_toArray, List.set_cons_zero, List.set_cons_succ, i64_w, i32_w]
  rfl) : p := h
theorem qJ2_c3 {p : Prop} (h : p := by
  show Act.put _ (some 40) _ = _
  simp only [Act.put, List.setIfInBounds_toArray, List.set_cons_zero, List.set_cons_succ, i64_w, i32_w]
  rfl) : p := h
theorem qJ2_c4 {p : Prop} (h : p := by
  show Act.put _ (some 31) _ = _
  simp only [Act.put, List.setIfInBounds_toArray, List.set_cons_zero, List.set_cons_succ, i64_w, i32_w]
  rfl) : p := h
abbrev qJ2_b0 : Array Bool := #[false, false, false, false, false, false, false, false, false, false, false, false, false, false]
abbrev qJ2_b1 : Array Bool := #[true, false, false, false, false, false, false, false, false, false, false, false, false, false]
abbrev qJ2_b2 : Array Bool := #[true, true, false, false, false, false, false, false, false, false, false, false, false, false]
abbrev qJ2_b3 : Array Bool := #[true, true, true, false, false, false, false, false, false, false, false, false, false, false]
abbrev qJ2_b4 : Array Bool := #[true, true, true, true, false, false, false, false, false, false, false, false, false, false]
abbrev qJ2_b5 : Array Bool := #[true, true, true, true, true, false, false, false, false, false, false, false, false, false]
abbrev qJ2_b6 : Array Bool := #[true, true, true, true, true, true, false, false, false, false, false, false, false, false]
abbrev qJ2_b7 : Array Bool := #[true, true, true, true, true, true, true, false, false, false, false, false, false, false]
abbrev qJ2_b8 : Array Bool := #[true, true, true, true, true, true, true, false, true, false, false, false, false, false]
abbrev qJ2_b9 : Array Bool := #[true, true, true, true, true, true, true, false, true, true, false, false, false, false]
abbrev qJ2_b10 : Array Bool := #[true, true, true, true, true, true, true, false, true, true, true, false, false, false]
abbrev qJ2_b11 : Array Bool := #[true, true, true, true, true, true, true, true, true, true, true, false, false, false]
abbrev qJ2_b12 : Array Bool := #[true, true, true, true, true, true, true, true, true, true, true, true, false, false]
abbrev qJ2_b13 : Array Bool := #[true, true, true, true, true, true, true, true, true, true, true, true, true, false]
abbrev qJ2_b14 : Array Bool := #[true, true, true, true, true, true, true, true, true, true, true, true, true, true]
abbrev qJ2_b15 : Array Bool := #[false, false, false, false, false, false, false, false, false, false, false, false, false, false, false, false]
abbrev qJ2_b16 : Array Bool := #[false, true, false, false, false, false, false, false, false, false, false, false, false, false, false, false]
abbrev qJ2_b17 : Array Bool := #[false, true, true, false, false, false, false, false, false, false, false, false, false, false, false, false]
abbrev qJ2_b18 : Array Bool := #[false, true, true, true, false, false, false, false, false, false, false, false, false, false, false, false]
abbrev qJ2_b19 : Array Bool := #[false, true, true, true, false, true, false, false, false, false, false, false, false, false, false, false]
abbrev qJ2_b20 : Array Bool := #[false, true, true, true, false, true, true, false, false, false, false, false, false, false, false, false]
abbrev qJ2_b21 : Array Bool := #[false, true, true, true, false, true, true, true, false, false, false, false, false, false, false, false]
abbrev qJ2_b22 : Array Bool := #[false, true, true, true, false, true, true, true, false, false, false, true, false, false, false, false]
abbrev qJ2_b23 : Array Bool := #[false, true, true, true, false, true, true, true, false, false, false, true, true, false, false, false]
abbrev qJ2_b24 : Array Bool := #[false, true, true, true, false, true, true, true, false, false, false, true, true, true, false, false]
abbrev qJ2_b25 : Array Bool := #[false, true, true, true, false, true, true, true, true, false, false, true, true, true, false, false]
abbrev qJ2_b26 : Array Bool := #[true, true, true, true, true, true, true, true, true, true, false, true, true, true, false, false]
abbrev qJ2_b27 : Array Bool := #[true, true, true, true, false, true, true, true, true, false, false, true, true, true, false, false]
abbrev qJ2_b28 : Array Bool := #[false, true, true, true, false, true, true, true, true, true, false, true, true, true, false, false]
abbrev qJ2_b29 : Array Bool := #[true, true, true, true, true, true, true, true, true, false, false, true, true, true, false, false]
abbrev qJ2_b30 : Array Bool := #[true, true, true, true, false, true, true, true, true, true, false, true, true, true, false, false]
abbrev qJ2_b31 : Array Bool := #[true, true, true, true, true, true, true, true, true, true, true, true, true, true, false, false]
abbrev qJ2_b32 : Array Bool := #[true, true, true, true, true, true, true, true, true, true, true, true, true, true, true, false]
abbrev qJ2_b33 : Array Bool := #[true, true, true, true, true, true, true, true, true, true, true, true, true, true, true, true]
attribute [local go_sem] max2_int min2_int max_two min_two max_three min_three max_four min_four   -- for this text's walks alone
set_option linter.unusedVariables false
set_option linter.unusedSimpArgs false

/-! ### spec_l16Down: function 65 -/
mutual
def spec_l16Down.l0 : Nat → List Int → List Int → Int → Option (List Int)
 | 0, _, _, _ => none
 | k + 1, x0, x3, x4 => if x4 < (x0.length : Int) then (spec_l16Down.l1 k x0 x3 x4 (x3.length : Int)) else (some x3)
def spec_l16Down.l1 : Nat → List Int → List Int → Int → Int → Option (List Int)
 | 0, _, _, _, _ => none
 | k + 1, x0, x3, x4, x5 => if x5 > 0 then (if 0 ≤ (wrap64 (x5 - 1)) then (if (wrap64 (x5 - 1)) < (x3.length : Int) then (if 0 ≤ x4 then (if x4 < (x0.length : Int) then (if (rd x3 (wrap64 (x5 - 1))) > (rd x0 x4) then (spec_l16Down.l1 k x0 x3 x4 (wrap64 (x5 - 1))) else ((some (([] : List Int) : List Int)).bind fun y117 => (if 0 ≤ x5 then (if x5 ≤ (x3.length : Int) then ((some (x3.take (x5 : Int).toNat : List Int)).bind fun y120 => (if y117.length + y120.length < 17592186044416 then ((some (y117 ++ y120 : List Int)).bind fun y124 => ((some (([rd x0 x4] : List Int) : List Int)).bind fun y128 => (if y124.length + y128.length < 17592186044416 then ((some (y124 ++ y128 : List Int)).bind fun y131 => ((some (x3.drop (x5 : Int).toNat : List Int)).bind fun y134 => (if y131.length + y134.length < 17592186044416 then (spec_l16Down.l0 k x0 (y131 ++ y134) (wrap64 (x4 + 1))) else (none)))) else (none)))) else (none))) else (none)) else (none)))) else (none)) else (none)) else (none)) else (none)) else ((some (([] : List Int) : List Int)).bind fun y141 => (if 0 ≤ x5 then (if x5 ≤ (x3.length : Int) then ((some (x3.take (x5 : Int).toNat : List Int)).bind fun y144 => (if y141.length + y144.length < 17592186044416 then ((some (y141 ++ y144 : List Int)).bind fun y148 => (if 0 ≤ x4 then (if x4 < (x0.length : Int) then ((some (([rd x0 x4] : List Int) : List Int)).bind fun y152 => (if y148.length + y152.length < 17592186044416 then ((some (y148 ++ y152 : List Int)).bind fun y155 => ((some (x3.drop (x5 : Int).toNat : List Int)).bind fun y158 => (if y155.length + y158.length < 17592186044416 then (spec_l16Down.l0 k x0 (y155 ++ y158) (wrap64 (x4 + 1))) else (none)))) else (none))) else (none)) else (none))) else (none))) else (none)) else (none)))
end
def spec_l16Down.f (k : Nat) (l0 : List Int) : Option (List Int) := spec_l16Down.l0 k l0 (([] : List Int)) 0
theorem spec_l16Down.mono_l : ∀ k, (∀ y0 y1 y2, LeO (spec_l16Down.l0 k y0 y1 y2) (spec_l16Down.l0 (k + 1) y0 y1 y2)) ∧ (∀ y0 y1 y2 y3, LeO (spec_l16Down.l1 k y0 y1 y2 y3) (spec_l16Down.l1 (k + 1) y0 y1 y2 y3))
 | 0 => ⟨fun _ _ _ r h => by simp [spec_l16Down.l0] at h, fun _ _ _ _ r h => by simp [spec_l16Down.l1] at h⟩
 | k + 1 => by
  obtain ⟨ih0, ih1⟩ := spec_l16Down.mono_l k
  refine ⟨?_, ?_⟩
  ·intro y0 y1 y2
   unfold spec_l16Down.l0
   repeat' first
   | (with_reducible exact ih0 _ _ _)
   | (with_reducible exact ih1 _ _ _ _)
   | (with_reducible exact LeO.refl _)
   | (with_reducible exact LeO.none _)
   | (with_reducible refine LeO.ite ?_ ?_)
   | (with_reducible refine LeO.bind ?_ (fun _ => ?_))
   | exact ih0 _ _ _
   | exact ih1 _ _ _ _
   | exact LeO.none _
   | refine LeO.ite ?_ ?_
   | refine LeO.bind ?_ (fun _ => ?_)
  ·intro y0 y1 y2 y3
   unfold spec_l16Down.l1
   repeat' first
   | (with_reducible exact ih0 _ _ _)
   | (with_reducible exact ih1 _ _ _ _)
   | (with_reducible exact LeO.refl _)
   | (with_reducible exact LeO.none _)
   | (with_reducible refine LeO.ite ?_ ?_)
   | (with_reducible refine LeO.bind ?_ (fun _ => ?_))
   | exact ih0 _ _ _
   | exact ih1 _ _ _ _
   | exact LeO.none _
   | refine LeO.ite ?_ ?_
   | refine LeO.bind ?_ (fun _ => ?_)
theorem spec_l16Down.mono : ∀ a0 k, LeO (spec_l16Down.f k a0) (spec_l16Down.f (k + 1) a0) := by
 intro a0 k
 obtain ⟨ih0, ih1⟩ := spec_l16Down.mono_l k
 unfold spec_l16Down.f
 repeat' first
   | (with_reducible exact ih0 _ _ _)
   | (with_reducible exact ih1 _ _ _ _)
   | (with_reducible exact LeO.refl _)
   | (with_reducible exact LeO.none _)
   | (with_reducible refine LeO.ite ?_ ?_)
   | (with_reducible refine LeO.bind ?_ (fun _ => ?_))
   | exact ih0 _ _ _
   | exact ih1 _ _ _ _
   | exact LeO.none _
   | refine LeO.ite ?_ ?_
   | refine LeO.bind ?_ (fun _ => ?_)
def spec_l16Down.T6 : Bool × List (List Nat × List Nat) := (true, [([], []), ([0], [0]), ([1], [1]), ([2], [2]), ([2], [2]), ([4, 2], [2, 4]), ([3, 5, 2], [2, 3, 5]), ([6, 2], [2, 6]), ([2], [2]), ([2], [2]), ([8, 9, 2], [2, 8, 9]), ([10, 2], [2, 10]), ([7, 11, 2], [2, 7, 11]), ([2, 12], [2, 12])])
def spec_l16Down.B6 : List Nat := [0, 1, 3, 7, 7, 23, 63, 127, 7, 7, 775, 1799, 4095, 8191]
theorem spec_l16Down.tab6 : rtab .any (opsOf Try.f65 6) = spec_l16Down.T6 := by kernel_rfl
theorem spec_l16Down.bits6 : waitsOk spec_l16Down.T6.2 spec_l16Down.B6 = true := by kernel_rfl
def spec_l16Down.T8 : Bool × List (List Nat × List Nat) := (true, [([], []), ([], []), ([], []), ([1, 2], [1, 2]), ([0, 3], [0, 3]), ([], []), ([], []), ([5, 6], [5, 6]), ([7], [7]), ([8], [8]), ([4, 9, 4], [4, 9]), ([], []), ([], []), ([11, 12], [11, 12]), ([10, 13, 10], [10, 13]), ([14, 14, 0, 1, 2, 3, 4, 5, 6, 7, 8, 9, 10, 11, 12, 13, 14], [1, 11, 14])])
def spec_l16Down.B8 : List Nat := [0, 0, 0, 6, 15, 0, 0, 96, 224, 480, 1023, 0, 0, 6144, 16383, 32767]
theorem spec_l16Down.tab8 : rtab .any (opsOf Try.f65 8) = spec_l16Down.T8 := by kernel_rfl
theorem spec_l16Down.bits8 : waitsOk spec_l16Down.T8.2 spec_l16Down.B8 = true := by kernel_rfl
set_option maxHeartbeats 8000000 in
set_option maxRecDepth 100000 in
theorem spec_l16Down.calls (k : Nat) (A0 : Option Addr) (c0 : Nat) (l0 : List Int) (r : List Int) (w : World) (hr0 : Kd.C (Kd.int .i64) w A0 l0.length l0) (hc0 : l0.length ≤ c0) (h : spec_l16Down.f k l0 = some r) :
  Calls Try.prog 65 #[.slice A0 l0.length c0] w fun e w' => ∃ v0_ : Value, e = .returned (v0_) ∧ Kd.R (Kd.int .i64) 3 w' w.heap.size (fun _ => True) v0_ r ∧ Below w.heap.size w w' := by
 have HR0 := Aside0.mk hr0; have HC0 := Aside0.mk hc0; clear hr0 hc0
 have HB := Aside0.mk (Below.refl w.heap.size w)
 have H : (spec_l16Down.l0 k l0 (([] : List Int)) 0) = some r := h
 clear h
 obtain ⟨y112, hy112⟩ : ∃ y_ : List Int, y_ = (([] : List Int)) := ⟨_, rfl⟩
 replace H : (spec_l16Down.l0 k l0 y112 0) = some r := by first | (rw [hy112]; with_reducible exact H) | (have H2_ := (Option.bind_some _ _).symm.trans H; rw [hy112]; with_reducible exact H2_) | (have H2_ := (Option.bind_some _ _).symm.trans H; with_reducible exact H2_) | with_reducible exact H | (rw [hy112]; exact H) | exact H
 have Ny112 := Aside0.mk hy112; clear hy112
 have H' := Aside0.mk H
 clear H
 go_enter Try.func65, Try.ntmps65
 go_wp2_with (first | ((with_reducible refine gate_dst (N := 6) rfl ?_); refine Kd.R_lit (Kd.int .i64) _ 3 ?hg (N := 6) ?hd (xs := ([] : List Int)) (inner := []) (ok := fun _ => True) (okp := fun _ => True) ?hr ?hp (fun _ hk => hk) trivial (Below.refl _ _) (Nat.le_refl _) (by simp) ?_; (case hd => rfl); (case hg => rfl); (case hr => exact (qJ2_17)); (case hp => exact (Reps.none _ _)); intro v113 w2 ho3 hb hg_ hnew_; clear hg_ hnew_; (first | rw [← Ny112.out] at ho3 | (simp only [Int.reduceToNat] at ho3; rw [← Ny112.out] at ho3)); have n0_ := Aside0.mk (Kd.R_lower ho3 (below_size (qJ2_0))); have n1_ := Aside0.mk (below_step (qJ2_0) hb); clear HB; have HO114 := n0_; have HB := n1_; clear n0_ n1_; clear hb ho3))
 go_loopg [3, 4] k (fun kq v3 v4 w' => ∃ (x3_1 : List Int) (x4_1 : Int), v4 = .int .i64 x4_1 ∧ Aside0 (spec_l16Down.l0 kq l0 x3_1 x4_1 = some r) ∧ Aside0 (kq ≤ k) ∧ Aside0 (Kd.R (Kd.int .i64) 3 w' w.heap.size (fun _ => True) v3 x3_1) ∧ Aside0 (Below w.heap.size w w'))
 case atStart => exact ⟨(y112), (0), (qJ2_31), H', ⟨Nat.le_refl _⟩, ⟨(by (with_reducible repeat (first | apply Kd.R_alloc | apply Kd.R_drewN | apply Kd.R_drew)); exact HO114.out)⟩, ⟨(qJ2_0)⟩⟩
 case round =>
  clear H'
  try clear p2
  obtain ⟨x3_1, x4_1, rfl, HA, HK1, HO_3, HB⟩ := hrel
  cases gk with
  | zero => exact absurd HA.out (by simp [spec_l16Down.l0])
  | succ k1 =>
   have H := HA.out
   clear HA
   simp only [spec_l16Down.l0] at H
   by_cases c4 : x4_1 < (l0.length : Int)
   ·rw [if_pos c4] at H
    have c4b0 : decide (x4_1 < (l0.length : Int)) = true := decide_eq_true c4
    clear c4
    have H' := Aside0.mk H
    clear H
    obtain ⟨Ao5, co5, eo5⟩ := Kd.R_slice HO_3.out
    subst eo5
    go_wp2
    go_loopg [5] k1 (fun kq v5 w' => ∃ (x5_2 : Int), v5 = .int .i64 x5_2 ∧ Aside0 (spec_l16Down.l1 kq l0 x3_1 x4_1 x5_2 = some r) ∧ Aside0 (kq ≤ k1) ∧ Aside0 (Kd.R (Kd.int .i64) 3 w' w.heap.size (fun _ => True) (.slice Ao5 x3_1.length co5) x3_1) ∧ Aside0 (Below w.heap.size w w'))
    case atStart => exact ⟨((x3_1.length : Int)), (qJ2_31), H', ⟨Nat.le_refl _⟩, ⟨(qJ2_1)⟩, ⟨(qJ2_0)⟩⟩
    case round =>
     clear H'
     try clear p2
     try clear c4
     try clear c4b0
     try clear p2
     obtain ⟨x5_2, rfl, HA, HK2, HO_3, HB⟩ := hrel
     cases gk with
     | zero => exact absurd HA.out (by simp [spec_l16Down.l1])
     | succ k2 =>
      have H := HA.out
      clear HA
      simp only [spec_l16Down.l1] at H
      by_cases c6 : x5_2 > 0
      ·rw [if_pos c6] at H
       have c6b0 : decide (0 < x5_2) = true := decide_eq_true c6
       clear c6
       obtain ⟨ji7, hji7⟩ : ∃ j_ : Int, (wrap64 (x5_2 - 1)) = j_ := ⟨_, rfl⟩
       replace H : (if 0 ≤ (ji7) then (if (ji7) < (x3_1.length : Int) then (if 0 ≤ x4_1 then (if x4_1 < (l0.length : Int) then (if (rd x3_1 (ji7)) > (rd l0 x4_1) then (spec_l16Down.l1 k2 l0 x3_1 x4_1 ji7) else ((some (([] : List Int) : List Int)).bind fun y117 => (if 0 ≤ x5_2 then (if x5_2 ≤ (x3_1.length : Int) then ((some (x3_1.take (x5_2 : Int).toNat : List Int)).bind fun y120 => (if y117.length + y120.length < 17592186044416 then ((some (y117 ++ y120 : List Int)).bind fun y124 => ((some (([rd l0 x4_1] : List Int) : List Int)).bind fun y128 => (if y124.length + y128.length < 17592186044416 then ((some (y124 ++ y128 : List Int)).bind fun y131 => ((some (x3_1.drop (x5_2 : Int).toNat : List Int)).bind fun y134 => (if y131.length + y134.length < 17592186044416 then (spec_l16Down.l0 k2 l0 (y131 ++ y134) (wrap64 (x4_1 + 1))) else (none)))) else (none)))) else (none))) else (none)) else (none)))) else (none)) else (none)) else (none)) else (none)) = some r := by first | (rw [hji7] at H; exact H) | (simp only [hji7] at H ⊢; exact H)
       have hji7w : (IntKind.i64.wrap (x5_2 - 1)) = ji7 := (i64_w _).trans hji7
       by_cases c8 : 0 ≤ (ji7)
       ·rw [if_pos c8] at H
        have c8b0 : decide (0 ≤ (ji7)) = true := decide_eq_true c8
        clear c8
        by_cases c9 : (ji7) < (x3_1.length : Int)
        ·rw [if_pos c9] at H
         have c9b0 : decide ((ji7) < (x3_1.length : Int)) = true := decide_eq_true c9
         clear c9
         by_cases c10 : 0 ≤ x4_1
         ·rw [if_pos c10] at H
          have c10b0 : decide (0 ≤ x4_1) = true := decide_eq_true c10
          clear c10
          by_cases c11 : x4_1 < (l0.length : Int)
          ·rw [if_pos c11] at H
           have c11b0 : decide (x4_1 < (l0.length : Int)) = true := decide_eq_true c11
           clear c11
           by_cases c12 : (rd x3_1 (ji7)) > (rd l0 x4_1)
           ·rw [if_pos c12] at H
            have c12b0 : decide ((rd l0 x4_1) < (rd x3_1 (ji7))) = true := decide_eq_true c12
            clear c12
            have H' := Aside0.mk H
            clear H
            try go_wp2
            have n0_ := Aside0.mk (Kd.R_drew HO_3.out)
            have n1_ := Aside0.mk (below_drew1 HB.out)
            clear HO_3; clear HB
            have HO_3 := n0_
            have HB := n1_
            clear n0_ n1_
            have p115 : 0 ≤ ((ji7) : Int) := of_decide_eq_true (qJ2_7)
            have q115 : (ji7) < (x3_1.length : Int) := of_decide_eq_true (qJ2_7)
            obtain ⟨ad115, e115, hx115_0⟩ := Kd.at_int (Kd.R_reads' HO_3.out).2.2 (ji7) p115 q115
            cases e115
            replace p115 := eq_true p115
            replace q115 := eq_true q115
            have p116 : 0 ≤ (x4_1 : Int) := of_decide_eq_true (qJ2_7)
            have q116 : x4_1 < (l0.length : Int) := of_decide_eq_true (qJ2_7)
            obtain ⟨ad116, e116, hx116_0⟩ := Kd.at_int HR0.out x4_1 p116 q116
            have hw116_0 := hx116_0
            cases e116
            replace hx116_0 := (HB.out.cell (World.block_lt_of_cell? w _ hx116_0)).trans hx116_0
            replace p116 := eq_true p116
            replace q116 := eq_true q116
            refine start_ (n := 14) (S := fun w' => w'.cell? (ad115.add ((ji7)).toNat) = some (.int .i64 (rd x3_1 (ji7))) ∧ w'.cell? (ad116.add (x4_1).toNat) = some (.int .i64 (rd l0 x4_1))) (ds := []) qJ2_b0 (by kernel_rfl) rfl rfl ⟨hx115_0, ((HB.out.cell (World.block_lt_of_cell? w _ hw116_0)).trans hw116_0)⟩ (fun hHeld => ?_); refine with_tabW spec_l16Down.tab6 spec_l16Down.bits6 (fun HT_ HW_ => ?_)
            generalize wr.drew = w13 at HO_3 HB hx115_0 hx116_0 hHeld ⊢
            refine pure_ (i := 0) (N := some 15) (v := ?_) (a' := ?_) qJ2_b1 rfl rfl (qJ2_2) (fun _ _ _ h => h) (Or.inl ⟨by rfl, ?_⟩) ?_ ?_
            rotate_left; exact qJ2_c1; rotate_left; exact qJ2_c0
            refine pure_ (i := 1) (N := some 16) (v := ?_) (a' := ?_) qJ2_b2 rfl rfl (qJ2_2) (fun _ _ _ h => h) (Or.inl ⟨by rfl, ?_⟩) ?_ ?_
            rotate_left; exact qJ2_c1; rotate_left; exact qJ2_c0
            refine pure_ (i := 2) (N := some 17) (v := ?_) (a' := ?_) qJ2_b3 rfl rfl (qJ2_2) (fun _ _ _ h => h) (Or.inl ⟨by rfl, ?_⟩) ?_ ?_
            rotate_left; exact qJ2_c1; rotate_left; exact qJ2_c0
            refine pure_ (i := 3) (N := some 18) (v := ?_) (a' := ?_) qJ2_b4 rfl rfl (qJ2_2) (fun _ _ _ h => h) (Or.inl ⟨by rfl, ?_⟩) ?_ ?_
            rotate_left; exact qJ2_c1; rotate_left; exact qJ2_c0
            refine pure_ (i := 4) (N := some 19) (v := ?_) (a' := ?_) qJ2_b5 rfl rfl (qJ2_2) (fun _ _ _ h => h) (Or.inl ⟨by rfl, ?_⟩) ?_ ?_
            rotate_left; exact qJ2_c1; rotate_left; exact qJ2_c0
            refine pure_ (i := 5) (N := some 20) (v := ?_) (a' := ?_) qJ2_b6 rfl rfl (qJ2_2) (fun _ _ _ h => h) (Or.inl ⟨by rfl, ?_⟩) ?_ ?_
            rotate_left; exact qJ2_c1; rotate_left; exact qJ2_c0
            refine pure_ (i := 6) (N := some 21) (v := ?_) (a' := ?_) qJ2_b7 rfl rfl (qJ2_2) (fun _ _ _ h => h) (Or.inl ⟨by rfl, ?_⟩) ?_ ?_
            rotate_left; exact qJ2_c1; rotate_left; exact qJ2_c0
            refine pure_ (i := 8) (N := some 23) (v := ?_) (a' := ?_) qJ2_b8 rfl rfl (qJ2_2) (fun _ _ _ h => h) (Or.inl ⟨by rfl, ?_⟩) ?_ ?_
            rotate_left; exact qJ2_c1; rotate_left; exact qJ2_c0
            refine pure_ (i := 9) (N := some 24) (v := ?_) (a' := ?_) qJ2_b9 rfl rfl (qJ2_2) (fun _ _ _ h => h) (Or.inl ⟨by rfl, ?_⟩) ?_ ?_
            rotate_left; exact qJ2_c1; rotate_left; exact qJ2_c0
            refine pure_ (i := 10) (N := some 25) (v := ?_) (a' := ?_) qJ2_b10 rfl rfl (qJ2_2) (fun _ _ _ h => h) (Or.inl ⟨by rfl, ?_⟩) ?_ ?_
            rotate_left; exact qJ2_c1; rotate_left; exact qJ2_c0
            refine take_ (i := 7) (N := some 22) (v := ?_) (a' := ?_) qJ2_b11 rfl rfl (take_ofW HT_.out HW_.out (by kernel_rfl)) (fun _ _ _ h => h) (Or.inl ⟨by rfl, ?_⟩) hHeld ?_ ?_
            rotate_left
            ·rintro w' ⟨s0, s1⟩
             go_simp
             with_reducible rfl
            rotate_left
            ·exact qJ2_c0
            refine take_ (i := 11) (N := some 26) (v := ?_) (a' := ?_) qJ2_b12 rfl rfl (take_ofW HT_.out HW_.out (by kernel_rfl)) (fun _ _ _ h => h) (Or.inl ⟨by rfl, ?_⟩) hHeld ?_ ?_
            rotate_left
            ·rintro w' ⟨s0, s1⟩
             go_simp
             with_reducible rfl
            rotate_left
            ·exact qJ2_c0
            refine pure_ (i := 12) (N := some 27) (v := ?_) (a' := ?_) qJ2_b13 rfl rfl (qJ2_2) (fun _ _ _ h => h) (Or.inl ⟨by rfl, ?_⟩) ?_ ?_
            rotate_left; exact qJ2_c1; rotate_left; exact qJ2_c0
            refine pure_ (i := 13) (N := some 28) (v := ?_) (a' := ?_) qJ2_b14 rfl rfl (qJ2_2) (fun _ _ _ h => h) (Or.inl ⟨by rfl, ?_⟩) ?_ ?_
            rotate_left; exact qJ2_c1; rotate_left; exact qJ2_c0
            refine done_ (qJ2_30) ?_
            try go_wp2
            go_roundg k2
            case measure => have := HK1.out; have := HK2.out; omega
            case rel => exact ⟨(ji7), (by first | rfl | (simp; done) | (simp only [← hji7] <;> (first | rfl | simp)) | (simp [*]; done)), H', ⟨by have := HK1.out; have := HK2.out; omega⟩, ⟨(qJ2_1)⟩, ⟨(qJ2_0)⟩⟩
           ·rw [if_neg c12] at H
            have c12b0 : decide ((rd l0 x4_1) < (rd x3_1 (ji7))) = false := decide_eq_false c12
            clear c12
            obtain ⟨y117, hy117⟩ : ∃ y_ : List Int, y_ = (([] : List Int)) := ⟨_, rfl⟩
            replace H : (if 0 ≤ x5_2 then (if x5_2 ≤ (x3_1.length : Int) then ((some (x3_1.take (x5_2 : Int).toNat : List Int)).bind fun y120 => (if y117.length + y120.length < 17592186044416 then ((some (y117 ++ y120 : List Int)).bind fun y124 => ((some (([rd l0 x4_1] : List Int) : List Int)).bind fun y128 => (if y124.length + y128.length < 17592186044416 then ((some (y124 ++ y128 : List Int)).bind fun y131 => ((some (x3_1.drop (x5_2 : Int).toNat : List Int)).bind fun y134 => (if y131.length + y134.length < 17592186044416 then (spec_l16Down.l0 k2 l0 (y131 ++ y134) (wrap64 (x4_1 + 1))) else (none)))) else (none)))) else (none))) else (none)) else (none)) = some r := by first | (rw [hy117]; with_reducible exact H) | (have H2_ := (Option.bind_some _ _).symm.trans H; rw [hy117]; with_reducible exact H2_) | (have H2_ := (Option.bind_some _ _).symm.trans H; with_reducible exact H2_) | with_reducible exact H | (rw [hy117]; exact H) | exact H
            have Ny117 := Aside0.mk hy117; clear hy117
            by_cases c14 : 0 ≤ x5_2
            ·rw [if_pos c14] at H
             have c14b0 := eq_true c14
             have c14b1 : decide (0 ≤ x5_2) = true := decide_eq_true c14
             clear c14
             by_cases c15 : x5_2 ≤ (x3_1.length : Int)
             ·rw [if_pos c15] at H
              have c15b0 := eq_true c15
              have c15b1 : decide (x5_2 ≤ (x3_1.length : Int)) = true := decide_eq_true c15
              clear c15
              obtain ⟨y120, hy120⟩ : ∃ y_ : List Int, y_ = (x3_1.take (x5_2 : Int).toNat) := ⟨_, rfl⟩
              replace H : (if y117.length + y120.length < 17592186044416 then ((some (y117 ++ y120 : List Int)).bind fun y124 => ((some (([rd l0 x4_1] : List Int) : List Int)).bind fun y128 => (if y124.length + y128.length < 17592186044416 then ((some (y124 ++ y128 : List Int)).bind fun y131 => ((some (x3_1.drop (x5_2 : Int).toNat : List Int)).bind fun y134 => (if y131.length + y134.length < 17592186044416 then (spec_l16Down.l0 k2 l0 (y131 ++ y134) (wrap64 (x4_1 + 1))) else (none)))) else (none)))) else (none)) = some r := by first | (rw [hy120]; with_reducible exact H) | (have H2_ := (Option.bind_some _ _).symm.trans H; rw [hy120]; with_reducible exact H2_) | (have H2_ := (Option.bind_some _ _).symm.trans H; with_reducible exact H2_) | with_reducible exact H | (rw [hy120]; exact H) | exact H
              have Ny120 := Aside0.mk hy120; clear hy120
              by_cases c16 : y117.length + y120.length < 17592186044416
              ·rw [if_pos c16] at H; have LMc16 := Aside0.mk c16; clear c16
               obtain ⟨y124, hy124⟩ : ∃ y_ : List Int, y_ = (y117 ++ y120) := ⟨_, rfl⟩
               replace H : ((some (([rd l0 x4_1] : List Int) : List Int)).bind fun y128 => (if y124.length + y128.length < 17592186044416 then ((some (y124 ++ y128 : List Int)).bind fun y131 => ((some (x3_1.drop (x5_2 : Int).toNat : List Int)).bind fun y134 => (if y131.length + y134.length < 17592186044416 then (spec_l16Down.l0 k2 l0 (y131 ++ y134) (wrap64 (x4_1 + 1))) else (none)))) else (none))) = some r := by first | (rw [hy124]; with_reducible exact H) | (have H2_ := (Option.bind_some _ _).symm.trans H; rw [hy124]; with_reducible exact H2_) | (have H2_ := (Option.bind_some _ _).symm.trans H; with_reducible exact H2_) | with_reducible exact H | (rw [hy124]; exact H) | exact H
               have Ny124 := Aside0.mk hy124; clear hy124
               obtain ⟨y128, hy128⟩ : ∃ y_ : List Int, y_ = (([rd l0 x4_1] : List Int)) := ⟨_, rfl⟩
               replace H : (if y124.length + y128.length < 17592186044416 then ((some (y124 ++ y128 : List Int)).bind fun y131 => ((some (x3_1.drop (x5_2 : Int).toNat : List Int)).bind fun y134 => (if y131.length + y134.length < 17592186044416 then (spec_l16Down.l0 k2 l0 (y131 ++ y134) (wrap64 (x4_1 + 1))) else (none)))) else (none)) = some r := by first | (rw [hy128]; with_reducible exact H) | (have H2_ := (Option.bind_some _ _).symm.trans H; rw [hy128]; with_reducible exact H2_) | (have H2_ := (Option.bind_some _ _).symm.trans H; with_reducible exact H2_) | with_reducible exact H | (rw [hy128]; exact H) | exact H
               have Ny128 := Aside0.mk hy128; clear hy128
               by_cases c17 : y124.length + y128.length < 17592186044416
               ·rw [if_pos c17] at H; have LMc17 := Aside0.mk c17; clear c17
                obtain ⟨y131, hy131⟩ : ∃ y_ : List Int, y_ = (y124 ++ y128) := ⟨_, rfl⟩
                replace H : ((some (x3_1.drop (x5_2 : Int).toNat : List Int)).bind fun y134 => (if y131.length + y134.length < 17592186044416 then (spec_l16Down.l0 k2 l0 (y131 ++ y134) (wrap64 (x4_1 + 1))) else (none))) = some r := by first | (rw [hy131]; with_reducible exact H) | (have H2_ := (Option.bind_some _ _).symm.trans H; rw [hy131]; with_reducible exact H2_) | (have H2_ := (Option.bind_some _ _).symm.trans H; with_reducible exact H2_) | with_reducible exact H | (rw [hy131]; exact H) | exact H
                have Ny131 := Aside0.mk hy131; clear hy131
                have c18b0 := eq_true (of_decide_eq_true (qJ2_7) : 0 ≤ x5_2)
                have c19b0 := eq_true (of_decide_eq_true (qJ2_7) : x5_2 ≤ (x3_1.length : Int))
                obtain ⟨y134, hy134⟩ : ∃ y_ : List Int, y_ = (x3_1.drop (x5_2 : Int).toNat) := ⟨_, rfl⟩
                replace H : (if y131.length + y134.length < 17592186044416 then (spec_l16Down.l0 k2 l0 (y131 ++ y134) (wrap64 (x4_1 + 1))) else (none)) = some r := by first | (rw [hy134]; with_reducible exact H) | (have H2_ := (Option.bind_some _ _).symm.trans H; rw [hy134]; with_reducible exact H2_) | (have H2_ := (Option.bind_some _ _).symm.trans H; with_reducible exact H2_) | with_reducible exact H | (rw [hy134]; exact H) | exact H
                have Ny134 := Aside0.mk hy134; clear hy134
                by_cases c20 : y131.length + y134.length < 17592186044416
                ·rw [if_pos c20] at H; have LMc20 := Aside0.mk c20; clear c20
                 obtain ⟨y138, hy138⟩ : ∃ y_ : List Int, y_ = (y131 ++ y134) := ⟨_, rfl⟩
                 replace H : (spec_l16Down.l0 k2 l0 y138 (wrap64 (x4_1 + 1))) = some r := by first | (rw [hy138]; with_reducible exact H) | (have H2_ := (Option.bind_some _ _).symm.trans H; rw [hy138]; with_reducible exact H2_) | (have H2_ := (Option.bind_some _ _).symm.trans H; with_reducible exact H2_) | with_reducible exact H | (rw [hy138]; exact H) | exact H
                 have Ny138 := Aside0.mk hy138; clear hy138
                 have H' := Aside0.mk H
                 clear H
                 try go_wp2
                 have n0_ := Aside0.mk (Kd.R_drew HO_3.out)
                 have n1_ := Aside0.mk (below_drew1 HB.out)
                 clear HO_3; clear HB
                 have HO_3 := n0_
                 have HB := n1_
                 clear n0_ n1_
                 have p115 : 0 ≤ ((ji7) : Int) := of_decide_eq_true (qJ2_7)
                 have q115 : (ji7) < (x3_1.length : Int) := of_decide_eq_true (qJ2_7)
                 obtain ⟨ad115, e115, hx115_0⟩ := Kd.at_int (Kd.R_reads' HO_3.out).2.2 (ji7) p115 q115
                 cases e115
                 replace p115 := eq_true p115
                 replace q115 := eq_true q115
                 have p116 : 0 ≤ (x4_1 : Int) := of_decide_eq_true (qJ2_7)
                 have q116 : x4_1 < (l0.length : Int) := of_decide_eq_true (qJ2_7)
                 obtain ⟨ad116, e116, hx116_0⟩ := Kd.at_int HR0.out x4_1 p116 q116
                 have hw116_0 := hx116_0
                 cases e116
                 replace hx116_0 := (HB.out.cell (World.block_lt_of_cell? w _ hx116_0)).trans hx116_0
                 replace p116 := eq_true p116
                 replace q116 := eq_true q116
                 refine start_ (n := 14) (S := fun w' => w'.cell? (ad115.add ((ji7)).toNat) = some (.int .i64 (rd x3_1 (ji7))) ∧ w'.cell? (ad116.add (x4_1).toNat) = some (.int .i64 (rd l0 x4_1))) (ds := []) qJ2_b0 (by kernel_rfl) rfl rfl ⟨hx115_0, ((HB.out.cell (World.block_lt_of_cell? w _ hw116_0)).trans hw116_0)⟩ (fun hHeld => ?_); refine with_tabW spec_l16Down.tab6 spec_l16Down.bits6 (fun HT_ HW_ => ?_)
                 generalize wr.drew = w21 at HO_3 HB hx115_0 hx116_0 hHeld ⊢
                 refine pure_ (i := 0) (N := some 15) (v := ?_) (a' := ?_) qJ2_b1 rfl rfl (qJ2_2) (fun _ _ _ h => h) (Or.inl ⟨by rfl, ?_⟩) ?_ ?_
                 rotate_left; exact qJ2_c1; rotate_left; exact qJ2_c0
                 refine pure_ (i := 1) (N := some 16) (v := ?_) (a' := ?_) qJ2_b2 rfl rfl (qJ2_2) (fun _ _ _ h => h) (Or.inl ⟨by rfl, ?_⟩) ?_ ?_
                 rotate_left; exact qJ2_c1; rotate_left; exact qJ2_c0
                 refine pure_ (i := 2) (N := some 17) (v := ?_) (a' := ?_) qJ2_b3 rfl rfl (qJ2_2) (fun _ _ _ h => h) (Or.inl ⟨by rfl, ?_⟩) ?_ ?_
                 rotate_left; exact qJ2_c1; rotate_left; exact qJ2_c0
                 refine pure_ (i := 3) (N := some 18) (v := ?_) (a' := ?_) qJ2_b4 rfl rfl (qJ2_2) (fun _ _ _ h => h) (Or.inl ⟨by rfl, ?_⟩) ?_ ?_
                 rotate_left; exact qJ2_c1; rotate_left; exact qJ2_c0
                 refine pure_ (i := 4) (N := some 19) (v := ?_) (a' := ?_) qJ2_b5 rfl rfl (qJ2_2) (fun _ _ _ h => h) (Or.inl ⟨by rfl, ?_⟩) ?_ ?_
                 rotate_left; exact qJ2_c1; rotate_left; exact qJ2_c0
                 refine pure_ (i := 5) (N := some 20) (v := ?_) (a' := ?_) qJ2_b6 rfl rfl (qJ2_2) (fun _ _ _ h => h) (Or.inl ⟨by rfl, ?_⟩) ?_ ?_
                 rotate_left; exact qJ2_c1; rotate_left; exact qJ2_c0
                 refine pure_ (i := 6) (N := some 21) (v := ?_) (a' := ?_) qJ2_b7 rfl rfl (qJ2_2) (fun _ _ _ h => h) (Or.inl ⟨by rfl, ?_⟩) ?_ ?_
                 rotate_left; exact qJ2_c1; rotate_left; exact qJ2_c0
                 refine pure_ (i := 8) (N := some 23) (v := ?_) (a' := ?_) qJ2_b8 rfl rfl (qJ2_2) (fun _ _ _ h => h) (Or.inl ⟨by rfl, ?_⟩) ?_ ?_
                 rotate_left; exact qJ2_c1; rotate_left; exact qJ2_c0
                 refine pure_ (i := 9) (N := some 24) (v := ?_) (a' := ?_) qJ2_b9 rfl rfl (qJ2_2) (fun _ _ _ h => h) (Or.inl ⟨by rfl, ?_⟩) ?_ ?_
                 rotate_left; exact qJ2_c1; rotate_left; exact qJ2_c0
                 refine pure_ (i := 10) (N := some 25) (v := ?_) (a' := ?_) qJ2_b10 rfl rfl (qJ2_2) (fun _ _ _ h => h) (Or.inl ⟨by rfl, ?_⟩) ?_ ?_
                 rotate_left; exact qJ2_c1; rotate_left; exact qJ2_c0
                 refine take_ (i := 7) (N := some 22) (v := ?_) (a' := ?_) qJ2_b11 rfl rfl (take_ofW HT_.out HW_.out (by kernel_rfl)) (fun _ _ _ h => h) (Or.inl ⟨by rfl, ?_⟩) hHeld ?_ ?_
                 rotate_left
                 ·rintro w' ⟨s0, s1⟩
                  go_simp
                  with_reducible rfl
                 rotate_left
                 ·exact qJ2_c0
                 refine take_ (i := 11) (N := some 26) (v := ?_) (a' := ?_) qJ2_b12 rfl rfl (take_ofW HT_.out HW_.out (by kernel_rfl)) (fun _ _ _ h => h) (Or.inl ⟨by rfl, ?_⟩) hHeld ?_ ?_
                 rotate_left
                 ·rintro w' ⟨s0, s1⟩
                  go_simp
                  with_reducible rfl
                 rotate_left
                 ·exact qJ2_c0
                 refine pure_ (i := 12) (N := some 27) (v := ?_) (a' := ?_) qJ2_b13 rfl rfl (qJ2_2) (fun _ _ _ h => h) (Or.inl ⟨by rfl, ?_⟩) ?_ ?_
                 rotate_left; exact qJ2_c1; rotate_left; exact qJ2_c0
                 refine pure_ (i := 13) (N := some 28) (v := ?_) (a' := ?_) qJ2_b14 rfl rfl (qJ2_2) (fun _ _ _ h => h) (Or.inl ⟨by rfl, ?_⟩) ?_ ?_
                 rotate_left; exact qJ2_c1; rotate_left; exact qJ2_c0
                 refine done_ (qJ2_30) ?_
                 try go_wp2
                 have n0_ := Aside0.mk (Kd.R_drew HO_3.out)
                 have n1_ := Aside0.mk (below_drew1 HB.out)
                 clear HO_3; clear HB
                 have HO_3 := n0_
                 have HB := n1_
                 clear n0_ n1_
                 have q23 : (x5_2 : Int) ≤ ((x3_1.length : Int) : Int) := of_decide_eq_true (qJ2_7)
                 obtain ⟨i023, hi023, _, hsz23, _⟩ := info_parts info3
                 have hroom23 : x3_1.length ≤ co5 := (Kd.R_reads' HO_3.out).2.1
                 have hC23 : Kd.C (Kd.int .i64) _ (some ad115) x3_1.length x3_1 := (Kd.R_reads' HO_3.out).2.2
                 have hcut23 := cut_to (P := Try.prog) 23 3 .i64 Try.underlying23 hi023 (some ad115) x3_1.length co5 x5_2 (of_decide_eq_true (qJ2_7)) q23 hroom23
                 have hr23 := Kd.C_take (m := (x5_2 : Int).toNat) hC23 (by omega)
                 have hy23 : y120.length = (x5_2 : Int).toNat := (by rw [Ny120.out, List.length_take]; omega)
                 rw [← Ny120.out] at hr23
                 rw [← hy23] at hcut23
                 have HR123 := Aside0.mk hr23
                 have HC123 := Aside0.mk (show y120.length ≤ co5 from by omega)
                 clear hr23 hC23 hroom23 hi023 hsz23; have KY23 := Aside0.mk hy23; clear hy23
                 have KL23 := Aside0.mk (show (x5_2 : Int).toNat ≤ x3_1.length from by omega)
                 replace q23 := eq_true q23
                 have p127 : 0 ≤ (x4_1 : Int) := of_decide_eq_true (qJ2_7)
                 have q127 : x4_1 < (l0.length : Int) := of_decide_eq_true (qJ2_7)
                 obtain ⟨ad127, e127, hx127_0⟩ := Kd.at_int HR0.out x4_1 p127 q127
                 have hw127_0 := hx127_0
                 obtain rfl : ad116 = ad127 := (by injection e127)
                 replace hx127_0 := (HB.out.cell (World.block_lt_of_cell? w _ hx127_0)).trans hx127_0
                 replace p127 := eq_true p127
                 replace q127 := eq_true q127
                 have q24 : (x5_2 : Int) ≤ ((x3_1.length : Int) : Int) := of_decide_eq_true (qJ2_7)
                 obtain ⟨i024, hi024, _, hsz24, _⟩ := info_parts info3
                 have hroom24 : x3_1.length ≤ co5 := (Kd.R_reads' HO_3.out).2.1
                 have hC24 : Kd.C (Kd.int .i64) _ (some ad115) x3_1.length x3_1 := (Kd.R_reads' HO_3.out).2.2
                 have q024 : (0 : Int) ≤ (x5_2 : Int) := of_decide_eq_true (qJ2_7)
                 have hcut24 := cut_from (P := Try.prog) 23 3 .i64 Try.underlying23 hi024 1 hsz24 (some ad115) x3_1.length co5 x5_2 q024 q24
                 have hr24 := Kd.C_drop (m := (x5_2 : Int).toNat) (c := co5) hC24 (by omega) hroom24
                 obtain ⟨A24, hA24⟩ : ∃ A1, A1 = (if co5 = (x5_2 : Int).toNat then (some ad115) else ((some ad115) : Option Addr).map (·.add ((x5_2 : Int).toNat * 1))) := ⟨_, rfl⟩
                 obtain ⟨c24, hc24⟩ : ∃ c1, c1 = co5 - (x5_2 : Int).toNat := ⟨_, rfl⟩
                 have hy24 : y134.length = x3_1.length - (x5_2 : Int).toNat := (by rw [Ny134.out, List.length_drop] <;> omega)
                 rw [show (x3_1).drop (x5_2 : Int).toNat = y134 from Ny134.out.symm] at hr24
                 replace hr24 : Kd.C (Kd.int .i64) _ A24 y134.length y134 := (by rw [hA24]; exact hr24)
                 rw [← hy24, ← hA24, ← hc24] at hcut24
                 have HR137 := Aside0.mk hr24
                 have HC137 := Aside0.mk (show y134.length ≤ c24 from by rw [hy24, hc24]; exact Nat.sub_le_sub_right hroom24 _)
                 clear hr24 hC24 hroom24 hi024 hsz24 hc24; have KY24 := Aside0.mk hy24; have KA24 := Aside0.mk hA24; clear hy24 hA24
                 have KL24 := Aside0.mk (show (x5_2 : Int).toNat ≤ x3_1.length from by omega)
                 replace q24 := eq_true q24
                 refine start_ (n := 16) (S := fun w' => w'.cell? (ad116.add (x4_1).toNat) = some (.int .i64 (rd l0 x4_1))) (ds := []) qJ2_b15 (by kernel_rfl) rfl rfl (((HB.out.cell (World.block_lt_of_cell? w _ hw127_0)).trans hw127_0)) (fun hHeld => ?_); refine with_tabW spec_l16Down.tab8 spec_l16Down.bits8 (fun HT_ HW_ => ?_)
                 generalize w21.drew = w22 at HO_3 HB HR123 HR137 hx127_0 hHeld ⊢
                 refine pure_ (i := 1) (N := some 32) (v := ?_) (a' := ?_) qJ2_b16 rfl rfl (qJ2_2) (fun _ _ _ h => h) (Or.inl ⟨by rfl, ?_⟩) ?_ ?_
                 rotate_left; exact qJ2_c1; rotate_left; exact qJ2_c0
                 refine pure_ (i := 2) (N := some 33) (v := ?_) (a' := ?_) qJ2_b17 rfl rfl (qJ2_2) (fun _ _ _ h => h) (Or.inl ⟨by rfl, ?_⟩) ?_ ?_
                 rotate_left; exact qJ2_c1; rotate_left; exact qJ2_c0
                 refine pure_ (i := 3) (N := some 34) (v := ?_) (a' := ?_) qJ2_b18 rfl rfl (qJ2_2) (fun _ _ _ h => h) (Or.inl ⟨by rfl, ?_⟩) ?_ ?_
                 rotate_left; exact qJ2_c1; rotate_left; exact qJ2_c0
                 refine pure_ (i := 5) (N := some 36) (v := ?_) (a' := ?_) qJ2_b19 rfl rfl (qJ2_2) (fun _ _ _ h => h) (Or.inl ⟨by rfl, ?_⟩) ?_ ?_
                 rotate_left; exact qJ2_c1; rotate_left; exact qJ2_c0
                 refine pure_ (i := 6) (N := some 37) (v := ?_) (a' := ?_) qJ2_b20 rfl rfl (qJ2_2) (fun _ _ _ h => h) (Or.inl ⟨by rfl, ?_⟩) ?_ ?_
                 rotate_left; exact qJ2_c1; rotate_left; exact qJ2_c0
                 refine pure_ (i := 7) (N := some 38) (v := ?_) (a' := ?_) qJ2_b21 rfl rfl (qJ2_2) (fun _ _ _ h => h) (Or.inl ⟨by rfl, ?_⟩) ?_ ?_
                 rotate_left; exact qJ2_c1; rotate_left; exact qJ2_c0
                 refine pure_ (i := 11) (N := some 42) (v := ?_) (a' := ?_) qJ2_b22 rfl rfl (qJ2_2) (fun _ _ _ h => h) (Or.inl ⟨by rfl, ?_⟩) ?_ ?_
                 rotate_left; exact qJ2_c1; rotate_left; exact qJ2_c0
                 refine pure_ (i := 12) (N := some 43) (v := ?_) (a' := ?_) qJ2_b23 rfl rfl (qJ2_2) (fun _ _ _ h => h) (Or.inl ⟨by rfl, ?_⟩) ?_ ?_
                 rotate_left; exact qJ2_c1; rotate_left; exact qJ2_c0
                 refine pure_ (i := 13) (N := some 44) (v := ?_) (a' := ?_) qJ2_b24 rfl rfl (qJ2_2) (fun _ _ _ h => h) (Or.inl ⟨by rfl, ?_⟩) ?_ ?_
                 rotate_left; exact qJ2_c1; rotate_left; exact qJ2_c0
                 refine take_ (i := 8) (N := some 39) (v := ?_) (a' := ?_) qJ2_b25 rfl rfl (take_ofW HT_.out HW_.out (by kernel_rfl)) (fun _ _ _ h => h) (Or.inl ⟨by rfl, ?_⟩) hHeld ?_ ?_
                 rotate_left
                 ·intro w' s0
                  go_simp
                  with_reducible rfl
                 rotate_left
                 ·exact qJ2_c0
                 refine join_ (σ := Value × Value × Value) 3 qJ2_b26 (fun s_ => [(31, s_.1), (35, s_.2.1), (40, s_.2.2)]) (fun s_ w' => (w'.cell? (ad116.add (x4_1).toNat) = some (.int .i64 (rd l0 x4_1))) ∧ (Kd.R (Kd.int .i64) 3 w' w.heap.size (fun k_ => some k_ ≠ (s_.2.2 : Value).ownBlock ∧ some k_ ≠ (.slice (some ad115) x3_1.length co5 : Value).ownBlock) s_.2.1 y124) ∧ (Kd.R (Kd.int .i64) 3 w' w.heap.size (fun k_ => some k_ ≠ (s_.2.1 : Value).ownBlock ∧ some k_ ≠ (.slice (some ad115) x3_1.length co5 : Value).ownBlock) s_.2.2 y128) ∧ (Kd.R (Kd.int .i64) 3 w' w.heap.size (fun k_ => some k_ ≠ (s_.2.1 : Value).ownBlock ∧ some k_ ≠ (s_.2.2 : Value).ownBlock) (.slice (some ad115) x3_1.length co5) x3_1) ∧ (Below w.heap.size w w')) ?_ ?_
                 rotate_left
                 ·intro hCont
                  refine two_ (i := 0) (j := 9) (Ni := some 31) (Nj := some 40) qJ2_b27 qJ2_b28 rfl rfl rfl rfl (two_of HT_.out (by kernel_rfl)) (by decide) (by decide) (fun K hK => ?_) (fun K hK => ?_)
                  ·skip
                   refine Kd.R_lit_step (Kd.int .i64) _ 3 ?hg (N := 31) ?hd (xs := ([] : List Int)) (inner := []) (ok := fun _ => True) (okp := fun _ => True) ?hr ?hp (fun _ hk => hk) trivial (Below.refl _ _) (Nat.le_refl _) (by simp) ?_; (case hd => rfl); (case hg => rfl); (case hr => exact (qJ2_17)); (case hp => exact (Reps.none _ _))
                   intro v118 w25 ho26 hb hg_ hnew_
                   clear hg_ hnew_
                   (first | rw [← Ny117.out] at ho26 | (simp only [Int.reduceToNat] at ho26; rw [← Ny117.out] at ho26))
                   have n0_ := Aside0.mk (Kd.R_elder' (qJ2_1) (Kd.R_base ho26) hb)
                   have n1_ := Aside0.mk (Kd.R_lower (Kd.R_new' ho26 (Kd.R_lt (qJ2_1))) (below_size (qJ2_0)))
                   have n2_ := Aside0.mk (Kd.C_below (qJ2_4) hb)
                   have n3_ := Aside0.mk (Kd.C_below (qJ2_9) hb)
                   have n4_ := Aside0.mk (below_step (qJ2_0) hb)
                   clear HO_3; clear HR123; clear HR137; clear HB
                   have HO_3 := n0_
                   have HO119 := n1_
                   have HR123 := n2_
                   have HR137 := n3_
                   have HB := n4_
                   clear n0_ n1_ n2_ n3_ n4_; clear hb ho26
                   refine hK.out _ _ (((HB.out.cell (World.block_lt_of_cell? w _ hw127_0)).trans hw127_0)) (fun hHeld => ?_)
                   clear hK K
                   refine norm_ (a' := ?_) ?_ ?_
                   rotate_left
                   ·exact qJ2_c4
                   refine two_ (i := 4) (j := 9) (Ni := some 35) (Nj := some 40) qJ2_b29 qJ2_b30 rfl rfl rfl rfl (two_of HT_.out (by kernel_rfl)) (by decide) (by decide) (fun K hK => ?_) (fun K hK => ?_)
                   ·skip
                    refine Kd.R_append_rows_step (Kd.int .i64) (w0 := w) w.heap.size (by rfl) (.tmp 31) (.tmp 34) 23 3 (.int .i64 0) 8 rfl Try.underlying23 info3 rfl (by decide) (by omega) v118 y117 y120 _ _ _ (fun k_ => some k_ ≠ (.slice (some ad115) x3_1.length co5 : Value).ownBlock) (fun _ => False) rfl rfl ?aO ?aR (fun _ _ h => h) (fun _ h => h.elim) ?aF ?aB ?aS ?aL ?_
                    (case aR => exact (qJ2_19))
                    (case aB => exact (qJ2_0))
                    (case aF => exact (by exact (fun k_ hk => Kd.fresh' (Kd.R_lt (qJ2_1)) k_ hk)))
                    (case aO => exact (by (with_reducible repeat (first | apply Kd.R_alloc | apply Kd.R_drewN | apply Kd.R_drew)); exact Kd.R_mono HO119.out (fun _ hk => hk.2)))
                    (case aS => exact (qJ2_25))
                    (case aL => have := LMc16.out; omega)
                    intro v125 w27 ho hb hg hat
                    rw [← Ny124.out] at ho
                    have n0_ := Aside0.mk (Kd.R_after (ok := (fun _ => True)) (qJ2_1) hg hat)
                    have n1_ := Aside0.mk (hb)
                    have n2_ := Aside0.mk ((show Kd.C (Kd.int .i64) w27 (some ad115) y120.length y120 from by rw [Ny120.out]; exact Kd.C_take (m := (x5_2 : Int).toNat) ((Kd.R_reads' (Kd.R_after (ok := (fun _ => True)) (qJ2_1) hg hat)).2.2) KL23.out))
                    have n3_ := Aside0.mk ((show Kd.C (Kd.int .i64) w27 A24 y134.length y134 from by rw [Ny134.out, KA24.out]; exact Kd.C_drop (m := (x5_2 : Int).toNat) (c := co5) ((Kd.R_reads' (Kd.R_after (ok := (fun _ => True)) (qJ2_1) hg hat)).2.2) KL24.out ((Kd.R_reads' (Kd.R_after (ok := (fun _ => True)) (qJ2_1) hg hat)).2.1)))
                    have n4_ := Aside0.mk (ho); clear HO_3; clear HB; clear HR123; clear HR137; clear HO119
                    have HO_3 := n0_
                    have HB := n1_
                    have HR123 := n2_
                    have HR137 := n3_
                    have HO126 := n4_
                    clear n0_ n1_ n2_ n3_ n4_; clear ho hb hg hat
                    refine hK.out _ _ (((HB.out.cell (World.block_lt_of_cell? w _ hw127_0)).trans hw127_0)) (fun hHeld => ?_)
                    clear hK K
                    refine norm_ (a' := ?_) ?_ ?_
                    rotate_left
                    ·exact qJ2_c2
                    refine one_ (i := 9) (N := some 40) qJ2_b26 rfl rfl (qJ2_18) (by decide) (fun K hK => ?_)
                    refine Kd.R_lit_step (Kd.int .i64) _ 3 ?hg (N := 40) ?hd (xs := ([rd l0 x4_1] : List Int)) (inner := [.int .i64 (rd l0 x4_1)]) (ok := fun _ => True) (okp := fun _ => True) ?hr ?hp (fun _ hk => hk) trivial (Below.refl _ _) (Nat.le_refl _) (by simp) ?_; (case hd => rfl); (case hg => rfl); (case hr => exact (qJ2_17)); (case hp => exact (qJ2_13))
                    intro v129 w28 ho29 hb hg_ hnew_
                    clear hg_ hnew_
                    (first | rw [← Ny128.out] at ho29 | (simp only [Int.reduceToNat] at ho29; rw [← Ny128.out] at ho29))
                    have n0_ := Aside0.mk (Kd.R_elder' (qJ2_1) (Kd.R_base ho29) hb)
                    have n1_ := Aside0.mk (Kd.R_elder' (qJ2_32) (Kd.R_base ho29) hb)
                    have n2_ := Aside0.mk (Kd.R_lower (Kd.R_new' (Kd.R_new' ho29 (Kd.R_lt (qJ2_1))) (Kd.R_lt (qJ2_32))) (below_size (qJ2_0)))
                    have n3_ := Aside0.mk (Kd.C_below (qJ2_4) hb)
                    have n4_ := Aside0.mk (Kd.C_below (qJ2_9) hb)
                    have n5_ := Aside0.mk (below_step (qJ2_0) hb)
                    clear HO_3; clear HO126; clear HR123; clear HR137; clear HB
                    have HO_3 := n0_
                    have HO126 := n1_
                    have HO130 := n2_
                    have HR123 := n3_
                    have HR137 := n4_
                    have HB := n5_
                    clear n0_ n1_ n2_ n3_ n4_ n5_; clear hb ho29
                    refine hK.out _ _ (((HB.out.cell (World.block_lt_of_cell? w _ hw127_0)).trans hw127_0)) (fun hHeld => ?_)
                    clear hK K
                    refine norm_ (a' := ?_) ?_ ?_
                    rotate_left
                    ·exact qJ2_c3
                    exact norm_ (qJ2_14) (hCont (v118, v125, v129) _ ⟨hHeld, (qJ2_15), (by (with_reducible repeat (first | apply Kd.R_alloc | apply Kd.R_drewN | apply Kd.R_drew)); exact Kd.R_mono HO130.out (fun _ hk => ⟨hk.2, hk.1.2⟩)), (qJ2_6), (qJ2_0)⟩)
                   ·skip
                    refine Kd.R_lit_step (Kd.int .i64) _ 3 ?hg (N := 40) ?hd (xs := ([rd l0 x4_1] : List Int)) (inner := [.int .i64 (rd l0 x4_1)]) (ok := fun _ => True) (okp := fun _ => True) ?hr ?hp (fun _ hk => hk) trivial (Below.refl _ _) (Nat.le_refl _) (by simp) ?_; (case hd => rfl); (case hg => rfl); (case hr => exact (qJ2_17)); (case hp => exact (qJ2_13))
                    intro v129 w27 ho28 hb hg_ hnew_
                    clear hg_ hnew_
                    (first | rw [← Ny128.out] at ho28 | (simp only [Int.reduceToNat] at ho28; rw [← Ny128.out] at ho28))
                    have n0_ := Aside0.mk (Kd.R_elder' (qJ2_1) (Kd.R_base ho28) hb)
                    have n1_ := Aside0.mk (Kd.R_elder' (qJ2_33) (Kd.R_base ho28) hb)
                    have n2_ := Aside0.mk (Kd.R_lower (Kd.R_new' (Kd.R_new' ho28 (Kd.R_lt (qJ2_1))) (Kd.R_lt (qJ2_33))) (below_size (qJ2_0)))
                    have n3_ := Aside0.mk (Kd.C_below (qJ2_4) hb)
                    have n4_ := Aside0.mk (Kd.C_below (qJ2_9) hb)
                    have n5_ := Aside0.mk (below_step (qJ2_0) hb)
                    clear HO_3; clear HO119; clear HR123; clear HR137; clear HB
                    have HO_3 := n0_
                    have HO119 := n1_
                    have HO130 := n2_
                    have HR123 := n3_
                    have HR137 := n4_
                    have HB := n5_
                    clear n0_ n1_ n2_ n3_ n4_ n5_; clear hb ho28
                    refine hK.out _ _ (((HB.out.cell (World.block_lt_of_cell? w _ hw127_0)).trans hw127_0)) (fun hHeld => ?_)
                    clear hK K
                    refine norm_ (a' := ?_) ?_ ?_
                    rotate_left
                    ·exact qJ2_c3
                    refine one_ (i := 4) (N := some 35) qJ2_b26 rfl rfl (qJ2_18) (by decide) (fun K hK => ?_)
                    refine Kd.R_append_rows_step (Kd.int .i64) (w0 := w) w.heap.size (by rfl) (.tmp 31) (.tmp 34) 23 3 (.int .i64 0) 8 rfl Try.underlying23 info3 rfl (by decide) (by omega) v118 y117 y120 _ _ _ (fun k_ => some k_ ≠ (.slice (some ad115) x3_1.length co5 : Value).ownBlock ∧ some k_ ≠ (v129 : Value).ownBlock) (fun _ => False) rfl rfl ?aO ?aR (fun _ _ h => h) (fun _ h => h.elim) ?aF ?aB ?aS ?aL ?_
                    (case aR => exact (qJ2_19))
                    (case aB => exact (qJ2_0))
                    (case aF => exact (qJ2_23))
                    (case aO => exact (qJ2_26))
                    (case aS => exact (qJ2_25))
                    (case aL => have := LMc16.out; omega)
                    intro v125 w29 ho hb hg hat
                    rw [← Ny124.out] at ho
                    have n0_ := Aside0.mk (Kd.R_after (ok := (fun k_ => some k_ ≠ (v129 : Value).ownBlock)) (qJ2_8) hg hat)
                    have n1_ := Aside0.mk (Kd.R_after (ok := (fun k_ => some k_ ≠ (.slice (some ad115) x3_1.length co5 : Value).ownBlock)) (qJ2_27) hg hat)
                    have n2_ := Aside0.mk (hb)
                    have n3_ := Aside0.mk ((show Kd.C (Kd.int .i64) w29 (some ad115) y120.length y120 from by rw [Ny120.out]; exact Kd.C_take (m := (x5_2 : Int).toNat) ((Kd.R_reads' (Kd.R_after (ok := (fun k_ => some k_ ≠ (v129 : Value).ownBlock)) (qJ2_8) hg hat)).2.2) KL23.out))
                    have n4_ := Aside0.mk ((show Kd.C (Kd.int .i64) w29 A24 y134.length y134 from by rw [Ny134.out, KA24.out]; exact Kd.C_drop (m := (x5_2 : Int).toNat) (c := co5) ((Kd.R_reads' (Kd.R_after (ok := (fun k_ => some k_ ≠ (v129 : Value).ownBlock)) (qJ2_8) hg hat)).2.2) KL24.out ((Kd.R_reads' (Kd.R_after (ok := (fun k_ => some k_ ≠ (v129 : Value).ownBlock)) (qJ2_8) hg hat)).2.1)))
                    have n5_ := Aside0.mk (ho); clear HO_3; clear HO130; clear HB; clear HR123; clear HR137; clear HO119
                    have HO_3 := n0_
                    have HO130 := n1_
                    have HB := n2_
                    have HR123 := n3_
                    have HR137 := n4_
                    have HO126 := n5_
                    clear n0_ n1_ n2_ n3_ n4_ n5_; clear ho hb hg hat
                    refine hK.out _ _ (((HB.out.cell (World.block_lt_of_cell? w _ hw127_0)).trans hw127_0)) (fun hHeld => ?_)
                    clear hK K
                    refine norm_ (a' := ?_) ?_ ?_
                    rotate_left
                    ·exact qJ2_c2
                    exact norm_ (qJ2_14) (hCont (v118, v125, v129) _ ⟨hHeld, (qJ2_15), (qJ2_21), (qJ2_3), (qJ2_0)⟩)
                  ·skip
                   refine Kd.R_lit_step (Kd.int .i64) _ 3 ?hg (N := 40) ?hd (xs := ([rd l0 x4_1] : List Int)) (inner := [.int .i64 (rd l0 x4_1)]) (ok := fun _ => True) (okp := fun _ => True) ?hr ?hp (fun _ hk => hk) trivial (Below.refl _ _) (Nat.le_refl _) (by simp) ?_; (case hd => rfl); (case hg => rfl); (case hr => exact (qJ2_17)); (case hp => exact (qJ2_13))
                   intro v129 w25 ho26 hb hg_ hnew_
                   clear hg_ hnew_
                   (first | rw [← Ny128.out] at ho26 | (simp only [Int.reduceToNat] at ho26; rw [← Ny128.out] at ho26))
                   have n0_ := Aside0.mk (Kd.R_elder' (qJ2_1) (Kd.R_base ho26) hb)
                   have n1_ := Aside0.mk (Kd.R_lower (Kd.R_new' ho26 (Kd.R_lt (qJ2_1))) (below_size (qJ2_0)))
                   have n2_ := Aside0.mk (Kd.C_below (qJ2_4) hb)
                   have n3_ := Aside0.mk (Kd.C_below (qJ2_9) hb)
                   have n4_ := Aside0.mk (below_step (qJ2_0) hb)
                   clear HO_3; clear HR123; clear HR137; clear HB
                   have HO_3 := n0_
                   have HO130 := n1_
                   have HR123 := n2_
                   have HR137 := n3_
                   have HB := n4_
                   clear n0_ n1_ n2_ n3_ n4_; clear hb ho26
                   refine hK.out _ _ (((HB.out.cell (World.block_lt_of_cell? w _ hw127_0)).trans hw127_0)) (fun hHeld => ?_)
                   clear hK K
                   refine norm_ (a' := ?_) ?_ ?_
                   rotate_left
                   ·exact qJ2_c3
                   refine one_ (i := 0) (N := some 31) qJ2_b30 rfl rfl (qJ2_18) (by decide) (fun K hK => ?_)
                   refine Kd.R_lit_step (Kd.int .i64) _ 3 ?hg (N := 31) ?hd (xs := ([] : List Int)) (inner := []) (ok := fun _ => True) (okp := fun _ => True) ?hr ?hp (fun _ hk => hk) trivial (Below.refl _ _) (Nat.le_refl _) (by simp) ?_; (case hd => rfl); (case hg => rfl); (case hr => exact (qJ2_17)); (case hp => exact (Reps.none _ _))
                   intro v118 w27 ho28 hb hg_ hnew_
                   clear hg_ hnew_
                   (first | rw [← Ny117.out] at ho28 | (simp only [Int.reduceToNat] at ho28; rw [← Ny117.out] at ho28))
                   have n0_ := Aside0.mk (Kd.R_elder' (qJ2_1) (Kd.R_base ho28) hb)
                   have n1_ := Aside0.mk (Kd.R_elder' (qJ2_11) (Kd.R_base ho28) hb)
                   have n2_ := Aside0.mk (Kd.R_lower (Kd.R_new' (Kd.R_new' ho28 (Kd.R_lt (qJ2_1))) (Kd.R_lt (qJ2_11))) (below_size (qJ2_0)))
                   have n3_ := Aside0.mk (Kd.C_below (qJ2_4) hb)
                   have n4_ := Aside0.mk (Kd.C_below (qJ2_9) hb)
                   have n5_ := Aside0.mk (below_step (qJ2_0) hb)
                   clear HO_3; clear HO130; clear HR123; clear HR137; clear HB
                   have HO_3 := n0_
                   have HO130 := n1_
                   have HO119 := n2_
                   have HR123 := n3_
                   have HR137 := n4_
                   have HB := n5_
                   clear n0_ n1_ n2_ n3_ n4_ n5_; clear hb ho28
                   refine hK.out _ _ (((HB.out.cell (World.block_lt_of_cell? w _ hw127_0)).trans hw127_0)) (fun hHeld => ?_)
                   clear hK K
                   refine norm_ (a' := ?_) ?_ ?_
                   rotate_left
                   ·exact qJ2_c4
                   refine one_ (i := 4) (N := some 35) qJ2_b26 rfl rfl (qJ2_18) (by decide) (fun K hK => ?_)
                   refine Kd.R_append_rows_step (Kd.int .i64) (w0 := w) w.heap.size (by rfl) (.tmp 31) (.tmp 34) 23 3 (.int .i64 0) 8 rfl Try.underlying23 info3 rfl (by decide) (by omega) v118 y117 y120 _ _ _ (fun k_ => some k_ ≠ (.slice (some ad115) x3_1.length co5 : Value).ownBlock ∧ some k_ ≠ (v129 : Value).ownBlock) (fun _ => False) rfl rfl ?aO ?aR (fun _ _ h => h) (fun _ h => h.elim) ?aF ?aB ?aS ?aL ?_
                   (case aR => exact (qJ2_19))
                   (case aB => exact (qJ2_0))
                   (case aF => exact (qJ2_23))
                   (case aO => exact (qJ2_26))
                   (case aS => exact (qJ2_25))
                   (case aL => have := LMc16.out; omega)
                   intro v125 w29 ho hb hg hat
                   rw [← Ny124.out] at ho
                   have n0_ := Aside0.mk (Kd.R_after (ok := (fun k_ => some k_ ≠ (v129 : Value).ownBlock)) (qJ2_6) hg hat)
                   have n1_ := Aside0.mk (Kd.R_after (ok := (fun k_ => some k_ ≠ (.slice (some ad115) x3_1.length co5 : Value).ownBlock)) (qJ2_27) hg hat)
                   have n2_ := Aside0.mk (hb)
                   have n3_ := Aside0.mk ((show Kd.C (Kd.int .i64) w29 (some ad115) y120.length y120 from by rw [Ny120.out]; exact Kd.C_take (m := (x5_2 : Int).toNat) ((Kd.R_reads' (Kd.R_after (ok := (fun k_ => some k_ ≠ (v129 : Value).ownBlock)) (qJ2_6) hg hat)).2.2) KL23.out))
                   have n4_ := Aside0.mk ((show Kd.C (Kd.int .i64) w29 A24 y134.length y134 from by rw [Ny134.out, KA24.out]; exact Kd.C_drop (m := (x5_2 : Int).toNat) (c := co5) ((Kd.R_reads' (Kd.R_after (ok := (fun k_ => some k_ ≠ (v129 : Value).ownBlock)) (qJ2_6) hg hat)).2.2) KL24.out ((Kd.R_reads' (Kd.R_after (ok := (fun k_ => some k_ ≠ (v129 : Value).ownBlock)) (qJ2_6) hg hat)).2.1)))
                   have n5_ := Aside0.mk (ho); clear HO_3; clear HO130; clear HB; clear HR123; clear HR137; clear HO119
                   have HO_3 := n0_
                   have HO130 := n1_
                   have HB := n2_
                   have HR123 := n3_
                   have HR137 := n4_
                   have HO126 := n5_
                   clear n0_ n1_ n2_ n3_ n4_ n5_; clear ho hb hg hat
                   refine hK.out _ _ (((HB.out.cell (World.block_lt_of_cell? w _ hw127_0)).trans hw127_0)) (fun hHeld => ?_)
                   clear hK K
                   refine norm_ (a' := ?_) ?_ ?_
                   rotate_left
                   ·exact qJ2_c2
                   exact norm_ (qJ2_14) (hCont (v118, v125, v129) _ ⟨hHeld, (qJ2_15), (qJ2_21), (qJ2_3), (qJ2_0)⟩)
                 rintro ⟨v118, v125, v129⟩ w30 ⟨hS_, h0_, h1_, h2_, h3_⟩
                 have n0_ : Aside0 (Kd.R (Kd.int .i64) 3 w30 w.heap.size (fun k_ => some k_ ≠ (v129 : Value).ownBlock ∧ some k_ ≠ (.slice (some ad115) x3_1.length co5 : Value).ownBlock) v125 y124) := ⟨h0_⟩
                 have n1_ : Aside0 (Kd.R (Kd.int .i64) 3 w30 w.heap.size (fun k_ => some k_ ≠ (v125 : Value).ownBlock ∧ some k_ ≠ (.slice (some ad115) x3_1.length co5 : Value).ownBlock) v129 y128) := ⟨h1_⟩
                 have n2_ : Aside0 (Kd.R (Kd.int .i64) 3 w30 w.heap.size (fun k_ => some k_ ≠ (v125 : Value).ownBlock ∧ some k_ ≠ (v129 : Value).ownBlock) (.slice (some ad115) x3_1.length co5) x3_1) := ⟨h2_⟩
                 have n3_ : Aside0 (Below w.heap.size w w30) := ⟨h3_⟩
                 clear HO_3; clear HB; clear h0_ h1_ h2_ h3_
                 have HO126 := n0_
                 have HO130 := n1_
                 have HO_3 := n2_
                 have HB := n3_
                 clear n0_ n1_ n2_ n3_
                 have hHeld : w30.cell? (ad116.add (x4_1).toNat) = some (.int .i64 (rd l0 x4_1)) := hS_
                 clear HR123
                 have HR123 := Aside0.mk (show Kd.C (Kd.int .i64) w30 (some ad115) y120.length y120 from by rw [Ny120.out]; exact Kd.C_take (m := (x5_2 : Int).toNat) ((Kd.R_reads' HO_3.out).2.2) KL23.out)
                 clear HR137
                 have HR137 := Aside0.mk (show Kd.C (Kd.int .i64) w30 A24 y134.length y134 from by rw [Ny134.out, KA24.out]; exact Kd.C_drop (m := (x5_2 : Int).toNat) (c := co5) ((Kd.R_reads' HO_3.out).2.2) KL24.out ((Kd.R_reads' HO_3.out).2.1))
                 obtain ⟨Ao32, co32, eo32⟩ := Kd.R_slice HO130.out
                 (first | subst eo32 | (injection eo32 with f1_ f2_ f3_; have f4_ := f1_.symm; have f5_ := f3_.symm; clear f1_ f2_ f3_; subst f4_; subst f5_))
                 refine norm_ (a' := ?_) ?_ ?_
                 rotate_left
                 ·simp only [putAll, Act.put, List.setIfInBounds_toArray, List.set_cons_zero, List.set_cons_succ]
                  rfl
                 refine one_ (i := 10) (N := some 41) qJ2_b31 rfl rfl (qJ2_18) (by decide) (fun K hK => ?_)
                 refine Kd.R_append_rows_step (Kd.int .i64) (w0 := w) w.heap.size (by rfl) (.tmp 35) (.tmp 40) 23 3 (.int .i64 0) 8 rfl Try.underlying23 info3 rfl (by decide) (by omega) v125 y124 y128 _ _ _ (fun k_ => some k_ ≠ (.slice (some ad115) x3_1.length co5 : Value).ownBlock ∧ some k_ ≠ (.slice Ao32 y128.length co32 : Value).ownBlock) (fun _ => False) rfl rfl ?aO ?aR (fun _ _ h => h) (fun _ h => h.elim) ?aF ?aB ?aS ?aL ?_
                 (case aR => exact (by repeat (first | exact (Kd.R_reads' HO130.out).2.2 | (with_reducible refine Kd.C_alloc ?_ _) | (with_reducible refine Kd.C_drewN ?_ _) | (with_reducible refine Kd.C_drew ?_))))
                 (case aB => exact (qJ2_0))
                 (case aF => exact (qJ2_23))
                 (case aO => exact (qJ2_15))
                 (case aS => exact (qJ2_25))
                 (case aL => have := LMc17.out; omega)
                 intro v132 w31 ho hb hg hat
                 rw [← Ny131.out] at ho
                 have n0_ := Aside0.mk (Kd.R_after (ok := (fun k_ => some k_ ≠ (.slice Ao32 y128.length co32 : Value).ownBlock)) (qJ2_3) hg hat)
                 have n1_ := Aside0.mk (Kd.R_after (ok := (fun k_ => some k_ ≠ (.slice (some ad115) x3_1.length co5 : Value).ownBlock)) (qJ2_21) hg hat)
                 have n2_ := Aside0.mk (hb)
                 have n3_ := Aside0.mk ((show Kd.C (Kd.int .i64) w31 (some ad115) y120.length y120 from by rw [Ny120.out]; exact Kd.C_take (m := (x5_2 : Int).toNat) ((Kd.R_reads' (Kd.R_after (ok := (fun k_ => some k_ ≠ (.slice Ao32 y128.length co32 : Value).ownBlock)) (qJ2_3) hg hat)).2.2) KL23.out))
                 have n4_ := Aside0.mk ((show Kd.C (Kd.int .i64) w31 A24 y134.length y134 from by rw [Ny134.out, KA24.out]; exact Kd.C_drop (m := (x5_2 : Int).toNat) (c := co5) ((Kd.R_reads' (Kd.R_after (ok := (fun k_ => some k_ ≠ (.slice Ao32 y128.length co32 : Value).ownBlock)) (qJ2_3) hg hat)).2.2) KL24.out ((Kd.R_reads' (Kd.R_after (ok := (fun k_ => some k_ ≠ (.slice Ao32 y128.length co32 : Value).ownBlock)) (qJ2_3) hg hat)).2.1)))
                 have n5_ := Aside0.mk (ho); clear HO_3; clear HO130; clear HB; clear HR123; clear HR137; clear HO126
                 have HO_3 := n0_
                 have HO130 := n1_
                 have HB := n2_
                 have HR123 := n3_
                 have HR137 := n4_
                 have HO133 := n5_
                 clear n0_ n1_ n2_ n3_ n4_ n5_; clear ho hb hg hat
                 refine hK.out _ _ (((HB.out.cell (World.block_lt_of_cell? w _ hw127_0)).trans hw127_0)) (fun hHeld => ?_)
                 clear hK K
                 refine norm_ (a' := ?_) ?_ ?_
                 rotate_left
                 ·show Act.put _ (some 41) _ = _
                  simp only [Act.put, List.setIfInBounds_toArray, List.set_cons_zero, List.set_cons_succ, i64_w, i32_w]
                  rfl
                 refine one_ (i := 14) (N := some 45) qJ2_b32 rfl rfl (qJ2_18) (by decide) (fun K hK => ?_)
                 refine Kd.R_append_rows_step (Kd.int .i64) (w0 := w) w.heap.size (by rfl) (.tmp 41) (.tmp 44) 23 3 (.int .i64 0) 8 rfl Try.underlying23 info3 rfl (by decide) (by omega) v132 y131 y134 _ _ _ (fun k_ => some k_ ≠ (.slice (some ad115) x3_1.length co5 : Value).ownBlock ∧ some k_ ≠ (.slice Ao32 y128.length co32 : Value).ownBlock) (fun _ => False) rfl rfl ?aO ?aR (fun _ _ h => h) (fun _ h => h.elim) ?aF ?aB ?aS ?aL ?_
                 (case aR => exact (by repeat (first | exact (qJ2_9) | (with_reducible refine Kd.C_alloc ?_ _) | (with_reducible refine Kd.C_drewN ?_ _) | (with_reducible refine Kd.C_drew ?_))))
                 (case aB => exact (qJ2_0))
                 (case aF => exact (qJ2_23))
                 (case aO => exact (by (with_reducible repeat (first | apply Kd.R_alloc | apply Kd.R_drewN | apply Kd.R_drew)); exact HO133.out))
                 (case aS => exact (qJ2_25))
                 (case aL => have := LMc20.out; omega)
                 intro v139 w33 ho hb hg hat
                 rw [← Ny138.out] at ho
                 have n0_ := Aside0.mk (Kd.R_after (ok := (fun k_ => some k_ ≠ (.slice Ao32 y128.length co32 : Value).ownBlock)) (qJ2_1) hg hat)
                 have n1_ := Aside0.mk (Kd.R_after (ok := (fun k_ => some k_ ≠ (.slice (some ad115) x3_1.length co5 : Value).ownBlock)) (qJ2_11) hg hat)
                 have n2_ := Aside0.mk (hb)
                 have n3_ := Aside0.mk ((show Kd.C (Kd.int .i64) w33 (some ad115) y120.length y120 from by rw [Ny120.out]; exact Kd.C_take (m := (x5_2 : Int).toNat) ((Kd.R_reads' (Kd.R_after (ok := (fun k_ => some k_ ≠ (.slice Ao32 y128.length co32 : Value).ownBlock)) (qJ2_1) hg hat)).2.2) KL23.out))
                 have n4_ := Aside0.mk ((show Kd.C (Kd.int .i64) w33 A24 y134.length y134 from by rw [Ny134.out, KA24.out]; exact Kd.C_drop (m := (x5_2 : Int).toNat) (c := co5) ((Kd.R_reads' (Kd.R_after (ok := (fun k_ => some k_ ≠ (.slice Ao32 y128.length co32 : Value).ownBlock)) (qJ2_1) hg hat)).2.2) KL24.out ((Kd.R_reads' (Kd.R_after (ok := (fun k_ => some k_ ≠ (.slice Ao32 y128.length co32 : Value).ownBlock)) (qJ2_1) hg hat)).2.1)))
                 have n5_ := Aside0.mk (ho); clear HO_3; clear HO130; clear HB; clear HR123; clear HR137; clear HO133
                 have HO_3 := n0_
                 have HO130 := n1_
                 have HB := n2_
                 have HR123 := n3_
                 have HR137 := n4_
                 have HO140 := n5_
                 clear n0_ n1_ n2_ n3_ n4_ n5_; clear ho hb hg hat
                 refine hK.out _ _ (((HB.out.cell (World.block_lt_of_cell? w _ hw127_0)).trans hw127_0)) (fun hHeld => ?_)
                 clear hK K
                 refine norm_ (a' := ?_) ?_ ?_
                 rotate_left
                 ·show Act.put _ (some 45) _ = _
                  simp only [Act.put, List.setIfInBounds_toArray, List.set_cons_zero, List.set_cons_succ, i64_w, i32_w]
                  rfl
                 refine pure_ (i := 15) (N := some 3) (v := ?_) (a' := ?_) qJ2_b33 rfl rfl (qJ2_2) (fun _ _ _ h => h) (Or.inl ⟨by rfl, ?_⟩) ?_ ?_
                 rotate_left; exact qJ2_c1; rotate_left; exact qJ2_c0
                 refine done_ (qJ2_30) ?_
                 try go_wp2
                 go_roundg k2
                 case measure => have := HK1.out; have := HK2.out; omega
                 case rel => exact ⟨(y138), (wrap64 (x4_1 + 1)), (qJ2_31), H', ⟨by have := HK1.out; have := HK2.out; omega⟩, ⟨(by (with_reducible repeat (first | apply Kd.R_alloc | apply Kd.R_drewN | apply Kd.R_drew)); exact Kd.R_mono HO140.out (fun _ hk => trivial))⟩, ⟨(qJ2_0)⟩⟩
                ·rw [if_neg c20] at H
                 exact absurd H (by simp)
               ·rw [if_neg c17] at H
                exact absurd H (by simp)
              ·rw [if_neg c16] at H
               exact absurd H (by simp)
             ·rw [if_neg c15] at H
              exact absurd H (by simp)
            ·rw [if_neg c14] at H
             exact absurd H (by simp)
          ·rw [if_neg c11] at H
           exact absurd H (by simp)
         ·rw [if_neg c10] at H
          exact absurd H (by simp)
        ·rw [if_neg c9] at H
         exact absurd H (by simp)
       ·rw [if_neg c8] at H
        exact absurd H (by simp)
      ·rw [if_neg c6] at H
       have c6b0 : decide (0 < x5_2) = false := decide_eq_false c6
       clear c6
       obtain ⟨y141, hy141⟩ : ∃ y_ : List Int, y_ = (([] : List Int)) := ⟨_, rfl⟩
       replace H : (if 0 ≤ x5_2 then (if x5_2 ≤ (x3_1.length : Int) then ((some (x3_1.take (x5_2 : Int).toNat : List Int)).bind fun y144 => (if y141.length + y144.length < 17592186044416 then ((some (y141 ++ y144 : List Int)).bind fun y148 => (if 0 ≤ x4_1 then (if x4_1 < (l0.length : Int) then ((some (([rd l0 x4_1] : List Int) : List Int)).bind fun y152 => (if y148.length + y152.length < 17592186044416 then ((some (y148 ++ y152 : List Int)).bind fun y155 => ((some (x3_1.drop (x5_2 : Int).toNat : List Int)).bind fun y158 => (if y155.length + y158.length < 17592186044416 then (spec_l16Down.l0 k2 l0 (y155 ++ y158) (wrap64 (x4_1 + 1))) else (none)))) else (none))) else (none)) else (none))) else (none))) else (none)) else (none)) = some r := by first | (rw [hy141]; with_reducible exact H) | (have H2_ := (Option.bind_some _ _).symm.trans H; rw [hy141]; with_reducible exact H2_) | (have H2_ := (Option.bind_some _ _).symm.trans H; with_reducible exact H2_) | with_reducible exact H | (rw [hy141]; exact H) | exact H
       have Ny141 := Aside0.mk hy141; clear hy141
       by_cases c34 : 0 ≤ x5_2
       ·rw [if_pos c34] at H
        have c34b0 := eq_true c34
        have c34b1 : decide (0 ≤ x5_2) = true := decide_eq_true c34
        clear c34
        by_cases c35 : x5_2 ≤ (x3_1.length : Int)
        ·rw [if_pos c35] at H
         have c35b0 := eq_true c35
         have c35b1 : decide (x5_2 ≤ (x3_1.length : Int)) = true := decide_eq_true c35
         clear c35
         obtain ⟨y144, hy144⟩ : ∃ y_ : List Int, y_ = (x3_1.take (x5_2 : Int).toNat) := ⟨_, rfl⟩
         replace H : (if y141.length + y144.length < 17592186044416 then ((some (y141 ++ y144 : List Int)).bind fun y148 => (if 0 ≤ x4_1 then (if x4_1 < (l0.length : Int) then ((some (([rd l0 x4_1] : List Int) : List Int)).bind fun y152 => (if y148.length + y152.length < 17592186044416 then ((some (y148 ++ y152 : List Int)).bind fun y155 => ((some (x3_1.drop (x5_2 : Int).toNat : List Int)).bind fun y158 => (if y155.length + y158.length < 17592186044416 then (spec_l16Down.l0 k2 l0 (y155 ++ y158) (wrap64 (x4_1 + 1))) else (none)))) else (none))) else (none)) else (none))) else (none)) = some r := by first | (rw [hy144]; with_reducible exact H) | (have H2_ := (Option.bind_some _ _).symm.trans H; rw [hy144]; with_reducible exact H2_) | (have H2_ := (Option.bind_some _ _).symm.trans H; with_reducible exact H2_) | with_reducible exact H | (rw [hy144]; exact H) | exact H
         have Ny144 := Aside0.mk hy144; clear hy144
         by_cases c36 : y141.length + y144.length < 17592186044416
         ·rw [if_pos c36] at H; have LMc36 := Aside0.mk c36; clear c36
          obtain ⟨y148, hy148⟩ : ∃ y_ : List Int, y_ = (y141 ++ y144) := ⟨_, rfl⟩
          replace H : (if 0 ≤ x4_1 then (if x4_1 < (l0.length : Int) then ((some (([rd l0 x4_1] : List Int) : List Int)).bind fun y152 => (if y148.length + y152.length < 17592186044416 then ((some (y148 ++ y152 : List Int)).bind fun y155 => ((some (x3_1.drop (x5_2 : Int).toNat : List Int)).bind fun y158 => (if y155.length + y158.length < 17592186044416 then (spec_l16Down.l0 k2 l0 (y155 ++ y158) (wrap64 (x4_1 + 1))) else (none)))) else (none))) else (none)) else (none)) = some r := by first | (rw [hy148]; with_reducible exact H) | (have H2_ := (Option.bind_some _ _).symm.trans H; rw [hy148]; with_reducible exact H2_) | (have H2_ := (Option.bind_some _ _).symm.trans H; with_reducible exact H2_) | with_reducible exact H | (rw [hy148]; exact H) | exact H
          have Ny148 := Aside0.mk hy148; clear hy148
          by_cases c37 : 0 ≤ x4_1
          ·rw [if_pos c37] at H
           have c37b0 : decide (0 ≤ x4_1) = true := decide_eq_true c37
           clear c37
           by_cases c38 : x4_1 < (l0.length : Int)
           ·rw [if_pos c38] at H
            have c38b0 : decide (x4_1 < (l0.length : Int)) = true := decide_eq_true c38
            clear c38
            obtain ⟨y152, hy152⟩ : ∃ y_ : List Int, y_ = (([rd l0 x4_1] : List Int)) := ⟨_, rfl⟩
            replace H : (if y148.length + y152.length < 17592186044416 then ((some (y148 ++ y152 : List Int)).bind fun y155 => ((some (x3_1.drop (x5_2 : Int).toNat : List Int)).bind fun y158 => (if y155.length + y158.length < 17592186044416 then (spec_l16Down.l0 k2 l0 (y155 ++ y158) (wrap64 (x4_1 + 1))) else (none)))) else (none)) = some r := by first | (rw [hy152]; with_reducible exact H) | (have H2_ := (Option.bind_some _ _).symm.trans H; rw [hy152]; with_reducible exact H2_) | (have H2_ := (Option.bind_some _ _).symm.trans H; with_reducible exact H2_) | with_reducible exact H | (rw [hy152]; exact H) | exact H
            have Ny152 := Aside0.mk hy152; clear hy152
            by_cases c39 : y148.length + y152.length < 17592186044416
            ·rw [if_pos c39] at H; have LMc39 := Aside0.mk c39; clear c39
             obtain ⟨y155, hy155⟩ : ∃ y_ : List Int, y_ = (y148 ++ y152) := ⟨_, rfl⟩
             replace H : ((some (x3_1.drop (x5_2 : Int).toNat : List Int)).bind fun y158 => (if y155.length + y158.length < 17592186044416 then (spec_l16Down.l0 k2 l0 (y155 ++ y158) (wrap64 (x4_1 + 1))) else (none))) = some r := by first | (rw [hy155]; with_reducible exact H) | (have H2_ := (Option.bind_some _ _).symm.trans H; rw [hy155]; with_reducible exact H2_) | (have H2_ := (Option.bind_some _ _).symm.trans H; with_reducible exact H2_) | with_reducible exact H | (rw [hy155]; exact H) | exact H
             have Ny155 := Aside0.mk hy155; clear hy155
             have c40b0 := eq_true (of_decide_eq_true (qJ2_7) : 0 ≤ x5_2)
             have c41b0 := eq_true (of_decide_eq_true (qJ2_7) : x5_2 ≤ (x3_1.length : Int))
             obtain ⟨y158, hy158⟩ : ∃ y_ : List Int, y_ = (x3_1.drop (x5_2 : Int).toNat) := ⟨_, rfl⟩
             replace H : (if y155.length + y158.length < 17592186044416 then (spec_l16Down.l0 k2 l0 (y155 ++ y158) (wrap64 (x4_1 + 1))) else (none)) = some r := by first | (rw [hy158]; with_reducible exact H) | (have H2_ := (Option.bind_some _ _).symm.trans H; rw [hy158]; with_reducible exact H2_) | (have H2_ := (Option.bind_some _ _).symm.trans H; with_reducible exact H2_) | with_reducible exact H | (rw [hy158]; exact H) | exact H
             have Ny158 := Aside0.mk hy158; clear hy158
             by_cases c42 : y155.length + y158.length < 17592186044416
             ·rw [if_pos c42] at H; have LMc42 := Aside0.mk c42; clear c42
              obtain ⟨y162, hy162⟩ : ∃ y_ : List Int, y_ = (y155 ++ y158) := ⟨_, rfl⟩
              replace H : (spec_l16Down.l0 k2 l0 y162 (wrap64 (x4_1 + 1))) = some r := by first | (rw [hy162]; with_reducible exact H) | (have H2_ := (Option.bind_some _ _).symm.trans H; rw [hy162]; with_reducible exact H2_) | (have H2_ := (Option.bind_some _ _).symm.trans H; with_reducible exact H2_) | with_reducible exact H | (rw [hy162]; exact H) | exact H
              have Ny162 := Aside0.mk hy162; clear hy162
              have H' := Aside0.mk H
              clear H
              try go_wp2
              have n0_ := Aside0.mk (Kd.R_drew HO_3.out)
              have n1_ := Aside0.mk (below_drew1 HB.out)
              clear HO_3; clear HB
              have HO_3 := n0_
              have HB := n1_
              clear n0_ n1_
              refine start_ (n := 14) (S := fun w' => True) (ds := []) qJ2_b0 (by kernel_rfl) rfl rfl trivial (fun hHeld => ?_); refine with_tabW spec_l16Down.tab6 spec_l16Down.bits6 (fun HT_ HW_ => ?_)
              generalize wr.drew = w43 at HO_3 HB hHeld ⊢
              refine pure_ (i := 0) (N := some 15) (v := ?_) (a' := ?_) qJ2_b1 rfl rfl (qJ2_2) (fun _ _ _ h => h) (Or.inl ⟨by rfl, ?_⟩) ?_ ?_
              rotate_left; exact qJ2_c1; rotate_left; exact qJ2_c0
              refine pure_ (i := 1) (N := some 16) (v := ?_) (a' := ?_) qJ2_b2 rfl rfl (qJ2_2) (fun _ _ _ h => h) (Or.inl ⟨by rfl, ?_⟩) ?_ ?_
              rotate_left; exact qJ2_c1; rotate_left; exact qJ2_c0
              refine pure_ (i := 2) (N := some 17) (v := ?_) (a' := ?_) qJ2_b3 rfl rfl (qJ2_2) (fun _ _ _ h => h) (Or.inl ⟨by rfl, ?_⟩) ?_ ?_
              rotate_left; exact qJ2_c1; rotate_left; exact qJ2_c0
              refine pure_ (i := 3) (N := some 18) (v := undef) (a' := ?_) qJ2_b4 rfl rfl (qJ2_2) (fun _ _ _ h => h) (Or.inr ⟨by rfl, rfl⟩) ?_ ?_
              rotate_left
              ·exact qJ2_c0
              refine pure_ (i := 4) (N := some 19) (v := undef) (a' := ?_) qJ2_b5 rfl rfl (qJ2_2) (fun _ _ _ h => h) (Or.inr ⟨by rfl, rfl⟩) ?_ ?_
              rotate_left
              ·exact qJ2_c0
              refine pure_ (i := 5) (N := some 20) (v := undef) (a' := ?_) qJ2_b6 rfl rfl (qJ2_2) (fun _ _ _ h => h) (Or.inr ⟨by rfl, rfl⟩) ?_ ?_
              rotate_left
              ·exact qJ2_c0
              refine pure_ (i := 6) (N := some 21) (v := undef) (a' := ?_) qJ2_b7 rfl rfl (qJ2_2) (fun _ _ _ h => h) (Or.inr ⟨by rfl, rfl⟩) ?_ ?_
              rotate_left
              ·exact qJ2_c0
              refine pure_ (i := 7) (N := some 22) (v := undef) (a' := ?_) #[true, true, true, true, true, true, true, true, false, false, false, false, false, false] rfl rfl (qJ2_2) (fun _ _ _ h => h) (Or.inr ⟨by rfl, rfl⟩) ?_ ?_
              rotate_left
              ·exact qJ2_c0
              refine pure_ (i := 8) (N := some 23) (v := undef) (a' := ?_) #[true, true, true, true, true, true, true, true, true, false, false, false, false, false] rfl rfl (qJ2_2) (fun _ _ _ h => h) (Or.inr ⟨by rfl, rfl⟩) ?_ ?_
              rotate_left
              ·exact qJ2_c0
              refine pure_ (i := 9) (N := some 24) (v := undef) (a' := ?_) #[true, true, true, true, true, true, true, true, true, true, false, false, false, false] rfl rfl (qJ2_2) (fun _ _ _ h => h) (Or.inr ⟨by rfl, rfl⟩) ?_ ?_
              rotate_left
              ·exact qJ2_c0
              refine pure_ (i := 10) (N := some 25) (v := undef) (a' := ?_) qJ2_b11 rfl rfl (qJ2_2) (fun _ _ _ h => h) (Or.inr ⟨by rfl, rfl⟩) ?_ ?_
              rotate_left
              ·exact qJ2_c0
              refine pure_ (i := 11) (N := some 26) (v := undef) (a' := ?_) qJ2_b12 rfl rfl (qJ2_2) (fun _ _ _ h => h) (Or.inr ⟨by rfl, rfl⟩) ?_ ?_
              rotate_left
              ·exact qJ2_c0
              refine pure_ (i := 12) (N := some 27) (v := undef) (a' := ?_) qJ2_b13 rfl rfl (qJ2_2) (fun _ _ _ h => h) (Or.inr ⟨by rfl, rfl⟩) ?_ ?_
              rotate_left
              ·exact qJ2_c0
              refine pure_ (i := 13) (N := some 28) (v := ?_) (a' := ?_) qJ2_b14 rfl rfl (qJ2_2) (fun _ _ _ h => h) (Or.inl ⟨by rfl, ?_⟩) ?_ ?_
              rotate_left; exact qJ2_c1; rotate_left; exact qJ2_c0
              refine done_ (qJ2_30) ?_
              try go_wp2
              have n0_ := Aside0.mk (Kd.R_drew HO_3.out)
              have n1_ := Aside0.mk (below_drew1 HB.out)
              clear HO_3; clear HB
              have HO_3 := n0_
              have HB := n1_
              clear n0_ n1_
              have q45 : (x5_2 : Int) ≤ ((x3_1.length : Int) : Int) := of_decide_eq_true (qJ2_7)
              obtain ⟨i045, hi045, _, hsz45, _⟩ := info_parts info3
              have hroom45 : x3_1.length ≤ co5 := (Kd.R_reads' HO_3.out).2.1
              have hC45 : Kd.C (Kd.int .i64) _ Ao5 x3_1.length x3_1 := (Kd.R_reads' HO_3.out).2.2
              have hcut45 := cut_to (P := Try.prog) 23 3 .i64 Try.underlying23 hi045 Ao5 x3_1.length co5 x5_2 (of_decide_eq_true (qJ2_7)) q45 hroom45
              have hr45 := Kd.C_take (m := (x5_2 : Int).toNat) hC45 (by omega)
              have hy45 : y144.length = (x5_2 : Int).toNat := (by rw [Ny144.out, List.length_take]; omega)
              rw [← Ny144.out] at hr45
              rw [← hy45] at hcut45
              have HR147 := Aside0.mk hr45
              have HC147 := Aside0.mk (show y144.length ≤ co5 from by omega)
              clear hr45 hC45 hroom45 hi045 hsz45; have KY45 := Aside0.mk hy45; clear hy45
              have KL45 := Aside0.mk (show (x5_2 : Int).toNat ≤ x3_1.length from by omega)
              replace q45 := eq_true q45
              have p151 : 0 ≤ (x4_1 : Int) := of_decide_eq_true (qJ2_7)
              have q151 : x4_1 < (l0.length : Int) := of_decide_eq_true (qJ2_7)
              obtain ⟨ad151, e151, hx151_0⟩ := Kd.at_int HR0.out x4_1 p151 q151
              have hw151_0 := hx151_0
              cases e151
              replace hx151_0 := (HB.out.cell (World.block_lt_of_cell? w _ hx151_0)).trans hx151_0
              replace p151 := eq_true p151
              replace q151 := eq_true q151
              have q46 : (x5_2 : Int) ≤ ((x3_1.length : Int) : Int) := of_decide_eq_true (qJ2_7)
              obtain ⟨i046, hi046, _, hsz46, _⟩ := info_parts info3
              have hroom46 : x3_1.length ≤ co5 := (Kd.R_reads' HO_3.out).2.1
              have hC46 : Kd.C (Kd.int .i64) _ Ao5 x3_1.length x3_1 := (Kd.R_reads' HO_3.out).2.2
              have q046 : (0 : Int) ≤ (x5_2 : Int) := of_decide_eq_true (qJ2_7)
              have hcut46 := cut_from (P := Try.prog) 23 3 .i64 Try.underlying23 hi046 1 hsz46 Ao5 x3_1.length co5 x5_2 q046 q46
              have hr46 := Kd.C_drop (m := (x5_2 : Int).toNat) (c := co5) hC46 (by omega) hroom46
              obtain ⟨A46, hA46⟩ : ∃ A1, A1 = (if co5 = (x5_2 : Int).toNat then Ao5 else (Ao5 : Option Addr).map (·.add ((x5_2 : Int).toNat * 1))) := ⟨_, rfl⟩
              obtain ⟨c46, hc46⟩ : ∃ c1, c1 = co5 - (x5_2 : Int).toNat := ⟨_, rfl⟩
              have hy46 : y158.length = x3_1.length - (x5_2 : Int).toNat := (by rw [Ny158.out, List.length_drop] <;> omega)
              rw [show (x3_1).drop (x5_2 : Int).toNat = y158 from Ny158.out.symm] at hr46
              replace hr46 : Kd.C (Kd.int .i64) _ A46 y158.length y158 := (by rw [hA46]; exact hr46)
              rw [← hy46, ← hA46, ← hc46] at hcut46
              have HR161 := Aside0.mk hr46
              have HC161 := Aside0.mk (show y158.length ≤ c46 from by rw [hy46, hc46]; exact Nat.sub_le_sub_right hroom46 _)
              clear hr46 hC46 hroom46 hi046 hsz46 hc46; have KY46 := Aside0.mk hy46; have KA46 := Aside0.mk hA46; clear hy46 hA46
              have KL46 := Aside0.mk (show (x5_2 : Int).toNat ≤ x3_1.length from by omega)
              replace q46 := eq_true q46
              refine start_ (n := 16) (S := fun w' => w'.cell? (ad151.add (x4_1).toNat) = some (.int .i64 (rd l0 x4_1))) (ds := []) qJ2_b15 (by kernel_rfl) rfl rfl (((HB.out.cell (World.block_lt_of_cell? w _ hw151_0)).trans hw151_0)) (fun hHeld => ?_); refine with_tabW spec_l16Down.tab8 spec_l16Down.bits8 (fun HT_ HW_ => ?_)
              generalize w43.drew = w44 at HO_3 HB HR147 HR161 hx151_0 hHeld ⊢
              refine pure_ (i := 1) (N := some 32) (v := ?_) (a' := ?_) qJ2_b16 rfl rfl (qJ2_2) (fun _ _ _ h => h) (Or.inl ⟨by rfl, ?_⟩) ?_ ?_
              rotate_left; exact qJ2_c1; rotate_left; exact qJ2_c0
              refine pure_ (i := 2) (N := some 33) (v := ?_) (a' := ?_) qJ2_b17 rfl rfl (qJ2_2) (fun _ _ _ h => h) (Or.inl ⟨by rfl, ?_⟩) ?_ ?_
              rotate_left; exact qJ2_c1; rotate_left; exact qJ2_c0
              refine pure_ (i := 3) (N := some 34) (v := ?_) (a' := ?_) qJ2_b18 rfl rfl (qJ2_2) (fun _ _ _ h => h) (Or.inl ⟨by rfl, ?_⟩) ?_ ?_
              rotate_left; exact qJ2_c1; rotate_left; exact qJ2_c0
              refine pure_ (i := 5) (N := some 36) (v := ?_) (a' := ?_) qJ2_b19 rfl rfl (qJ2_2) (fun _ _ _ h => h) (Or.inl ⟨by rfl, ?_⟩) ?_ ?_
              rotate_left; exact qJ2_c1; rotate_left; exact qJ2_c0
              refine pure_ (i := 6) (N := some 37) (v := ?_) (a' := ?_) qJ2_b20 rfl rfl (qJ2_2) (fun _ _ _ h => h) (Or.inl ⟨by rfl, ?_⟩) ?_ ?_
              rotate_left; exact qJ2_c1; rotate_left; exact qJ2_c0
              refine pure_ (i := 7) (N := some 38) (v := ?_) (a' := ?_) qJ2_b21 rfl rfl (qJ2_2) (fun _ _ _ h => h) (Or.inl ⟨by rfl, ?_⟩) ?_ ?_
              rotate_left; exact qJ2_c1; rotate_left; exact qJ2_c0
              refine pure_ (i := 11) (N := some 42) (v := ?_) (a' := ?_) qJ2_b22 rfl rfl (qJ2_2) (fun _ _ _ h => h) (Or.inl ⟨by rfl, ?_⟩) ?_ ?_
              rotate_left; exact qJ2_c1; rotate_left; exact qJ2_c0
              refine pure_ (i := 12) (N := some 43) (v := ?_) (a' := ?_) qJ2_b23 rfl rfl (qJ2_2) (fun _ _ _ h => h) (Or.inl ⟨by rfl, ?_⟩) ?_ ?_
              rotate_left; exact qJ2_c1; rotate_left; exact qJ2_c0
              refine pure_ (i := 13) (N := some 44) (v := ?_) (a' := ?_) qJ2_b24 rfl rfl (qJ2_2) (fun _ _ _ h => h) (Or.inl ⟨by rfl, ?_⟩) ?_ ?_
              rotate_left; exact qJ2_c1; rotate_left; exact qJ2_c0
              refine take_ (i := 8) (N := some 39) (v := ?_) (a' := ?_) qJ2_b25 rfl rfl (take_ofW HT_.out HW_.out (by kernel_rfl)) (fun _ _ _ h => h) (Or.inl ⟨by rfl, ?_⟩) hHeld ?_ ?_
              rotate_left
              ·intro w' s0
               go_simp
               with_reducible rfl
              rotate_left
              ·exact qJ2_c0
              refine join_ (σ := Value × Value × Value) 3 qJ2_b26 (fun s_ => [(31, s_.1), (35, s_.2.1), (40, s_.2.2)]) (fun s_ w' => (w'.cell? (ad151.add (x4_1).toNat) = some (.int .i64 (rd l0 x4_1))) ∧ (Kd.R (Kd.int .i64) 3 w' w.heap.size (fun k_ => some k_ ≠ (s_.2.2 : Value).ownBlock ∧ some k_ ≠ (.slice Ao5 x3_1.length co5 : Value).ownBlock) s_.2.1 y148) ∧ (Kd.R (Kd.int .i64) 3 w' w.heap.size (fun k_ => some k_ ≠ (s_.2.1 : Value).ownBlock ∧ some k_ ≠ (.slice Ao5 x3_1.length co5 : Value).ownBlock) s_.2.2 y152) ∧ (Kd.R (Kd.int .i64) 3 w' w.heap.size (fun k_ => some k_ ≠ (s_.2.1 : Value).ownBlock ∧ some k_ ≠ (s_.2.2 : Value).ownBlock) (.slice Ao5 x3_1.length co5) x3_1) ∧ (Below w.heap.size w w')) ?_ ?_
              rotate_left
              ·intro hCont
               refine two_ (i := 0) (j := 9) (Ni := some 31) (Nj := some 40) qJ2_b27 qJ2_b28 rfl rfl rfl rfl (two_of HT_.out (by kernel_rfl)) (by decide) (by decide) (fun K hK => ?_) (fun K hK => ?_)
               ·skip
                refine Kd.R_lit_step (Kd.int .i64) _ 3 ?hg (N := 31) ?hd (xs := ([] : List Int)) (inner := []) (ok := fun _ => True) (okp := fun _ => True) ?hr ?hp (fun _ hk => hk) trivial (Below.refl _ _) (Nat.le_refl _) (by simp) ?_; (case hd => rfl); (case hg => rfl); (case hr => exact (qJ2_17)); (case hp => exact (Reps.none _ _))
                intro v142 w47 ho48 hb hg_ hnew_
                clear hg_ hnew_
                (first | rw [← Ny141.out] at ho48 | (simp only [Int.reduceToNat] at ho48; rw [← Ny141.out] at ho48))
                have n0_ := Aside0.mk (Kd.R_elder' (qJ2_1) (Kd.R_base ho48) hb)
                have n1_ := Aside0.mk (Kd.R_lower (Kd.R_new' ho48 (Kd.R_lt (qJ2_1))) (below_size (qJ2_0)))
                have n2_ := Aside0.mk (Kd.C_below (qJ2_5) hb)
                have n3_ := Aside0.mk (Kd.C_below (qJ2_10) hb)
                have n4_ := Aside0.mk (below_step (qJ2_0) hb)
                clear HO_3; clear HR147; clear HR161; clear HB
                have HO_3 := n0_
                have HO143 := n1_
                have HR147 := n2_
                have HR161 := n3_
                have HB := n4_
                clear n0_ n1_ n2_ n3_ n4_; clear hb ho48
                refine hK.out _ _ (((HB.out.cell (World.block_lt_of_cell? w _ hw151_0)).trans hw151_0)) (fun hHeld => ?_)
                clear hK K
                refine norm_ (a' := ?_) ?_ ?_
                rotate_left
                ·exact qJ2_c4
                refine two_ (i := 4) (j := 9) (Ni := some 35) (Nj := some 40) qJ2_b29 qJ2_b30 rfl rfl rfl rfl (two_of HT_.out (by kernel_rfl)) (by decide) (by decide) (fun K hK => ?_) (fun K hK => ?_)
                ·skip
                 refine Kd.R_append_rows_step (Kd.int .i64) (w0 := w) w.heap.size (by rfl) (.tmp 31) (.tmp 34) 23 3 (.int .i64 0) 8 rfl Try.underlying23 info3 rfl (by decide) (by omega) v142 y141 y144 _ _ _ (fun k_ => some k_ ≠ (.slice Ao5 x3_1.length co5 : Value).ownBlock) (fun _ => False) rfl rfl ?aO ?aR (fun _ _ h => h) (fun _ h => h.elim) ?aF ?aB ?aS ?aL ?_
                 (case aR => exact (qJ2_20))
                 (case aB => exact (qJ2_0))
                 (case aF => exact (by exact (fun k_ hk => Kd.fresh' (Kd.R_lt (qJ2_1)) k_ hk)))
                 (case aO => exact (by (with_reducible repeat (first | apply Kd.R_alloc | apply Kd.R_drewN | apply Kd.R_drew)); exact Kd.R_mono HO143.out (fun _ hk => hk.2)))
                 (case aS => exact (qJ2_25))
                 (case aL => have := LMc36.out; omega)
                 intro v149 w49 ho hb hg hat
                 rw [← Ny148.out] at ho
                 have n0_ := Aside0.mk (Kd.R_after (ok := (fun _ => True)) (qJ2_1) hg hat)
                 have n1_ := Aside0.mk (hb)
                 have n2_ := Aside0.mk ((show Kd.C (Kd.int .i64) w49 Ao5 y144.length y144 from by rw [Ny144.out]; exact Kd.C_take (m := (x5_2 : Int).toNat) ((Kd.R_reads' (Kd.R_after (ok := (fun _ => True)) (qJ2_1) hg hat)).2.2) KL45.out))
                 have n3_ := Aside0.mk ((show Kd.C (Kd.int .i64) w49 A46 y158.length y158 from by rw [Ny158.out, KA46.out]; exact Kd.C_drop (m := (x5_2 : Int).toNat) (c := co5) ((Kd.R_reads' (Kd.R_after (ok := (fun _ => True)) (qJ2_1) hg hat)).2.2) KL46.out ((Kd.R_reads' (Kd.R_after (ok := (fun _ => True)) (qJ2_1) hg hat)).2.1)))
                 have n4_ := Aside0.mk (ho); clear HO_3; clear HB; clear HR147; clear HR161; clear HO143
                 have HO_3 := n0_
                 have HB := n1_
                 have HR147 := n2_
                 have HR161 := n3_
                 have HO150 := n4_
                 clear n0_ n1_ n2_ n3_ n4_; clear ho hb hg hat
                 refine hK.out _ _ (((HB.out.cell (World.block_lt_of_cell? w _ hw151_0)).trans hw151_0)) (fun hHeld => ?_)
                 clear hK K
                 refine norm_ (a' := ?_) ?_ ?_
                 rotate_left
                 ·exact qJ2_c2
                 refine one_ (i := 9) (N := some 40) qJ2_b26 rfl rfl (qJ2_18) (by decide) (fun K hK => ?_)
                 refine Kd.R_lit_step (Kd.int .i64) _ 3 ?hg (N := 40) ?hd (xs := ([rd l0 x4_1] : List Int)) (inner := [.int .i64 (rd l0 x4_1)]) (ok := fun _ => True) (okp := fun _ => True) ?hr ?hp (fun _ hk => hk) trivial (Below.refl _ _) (Nat.le_refl _) (by simp) ?_; (case hd => rfl); (case hg => rfl); (case hr => exact (qJ2_17)); (case hp => exact (qJ2_13))
                 intro v153 w50 ho51 hb hg_ hnew_
                 clear hg_ hnew_
                 (first | rw [← Ny152.out] at ho51 | (simp only [Int.reduceToNat] at ho51; rw [← Ny152.out] at ho51))
                 have n0_ := Aside0.mk (Kd.R_elder' (qJ2_1) (Kd.R_base ho51) hb)
                 have n1_ := Aside0.mk (Kd.R_elder' (qJ2_34) (Kd.R_base ho51) hb)
                 have n2_ := Aside0.mk (Kd.R_lower (Kd.R_new' (Kd.R_new' ho51 (Kd.R_lt (qJ2_1))) (Kd.R_lt (qJ2_34))) (below_size (qJ2_0)))
                 have n3_ := Aside0.mk (Kd.C_below (qJ2_5) hb)
                 have n4_ := Aside0.mk (Kd.C_below (qJ2_10) hb)
                 have n5_ := Aside0.mk (below_step (qJ2_0) hb)
                 clear HO_3; clear HO150; clear HR147; clear HR161; clear HB
                 have HO_3 := n0_
                 have HO150 := n1_
                 have HO154 := n2_
                 have HR147 := n3_
                 have HR161 := n4_
                 have HB := n5_
                 clear n0_ n1_ n2_ n3_ n4_ n5_; clear hb ho51
                 refine hK.out _ _ (((HB.out.cell (World.block_lt_of_cell? w _ hw151_0)).trans hw151_0)) (fun hHeld => ?_)
                 clear hK K
                 refine norm_ (a' := ?_) ?_ ?_
                 rotate_left
                 ·exact qJ2_c3
                 exact norm_ (qJ2_14) (hCont (v142, v149, v153) _ ⟨hHeld, (qJ2_16), (by (with_reducible repeat (first | apply Kd.R_alloc | apply Kd.R_drewN | apply Kd.R_drew)); exact Kd.R_mono HO154.out (fun _ hk => ⟨hk.2, hk.1.2⟩)), (qJ2_6), (qJ2_0)⟩)
                ·skip
                 refine Kd.R_lit_step (Kd.int .i64) _ 3 ?hg (N := 40) ?hd (xs := ([rd l0 x4_1] : List Int)) (inner := [.int .i64 (rd l0 x4_1)]) (ok := fun _ => True) (okp := fun _ => True) ?hr ?hp (fun _ hk => hk) trivial (Below.refl _ _) (Nat.le_refl _) (by simp) ?_; (case hd => rfl); (case hg => rfl); (case hr => exact (qJ2_17)); (case hp => exact (qJ2_13))
                 intro v153 w49 ho50 hb hg_ hnew_
                 clear hg_ hnew_
                 (first | rw [← Ny152.out] at ho50 | (simp only [Int.reduceToNat] at ho50; rw [← Ny152.out] at ho50))
                 have n0_ := Aside0.mk (Kd.R_elder' (qJ2_1) (Kd.R_base ho50) hb)
                 have n1_ := Aside0.mk (Kd.R_elder' (qJ2_35) (Kd.R_base ho50) hb)
                 have n2_ := Aside0.mk (Kd.R_lower (Kd.R_new' (Kd.R_new' ho50 (Kd.R_lt (qJ2_1))) (Kd.R_lt (qJ2_35))) (below_size (qJ2_0)))
                 have n3_ := Aside0.mk (Kd.C_below (qJ2_5) hb)
                 have n4_ := Aside0.mk (Kd.C_below (qJ2_10) hb)
                 have n5_ := Aside0.mk (below_step (qJ2_0) hb)
                 clear HO_3; clear HO143; clear HR147; clear HR161; clear HB
                 have HO_3 := n0_
                 have HO143 := n1_
                 have HO154 := n2_
                 have HR147 := n3_
                 have HR161 := n4_
                 have HB := n5_
                 clear n0_ n1_ n2_ n3_ n4_ n5_; clear hb ho50
                 refine hK.out _ _ (((HB.out.cell (World.block_lt_of_cell? w _ hw151_0)).trans hw151_0)) (fun hHeld => ?_)
                 clear hK K
                 refine norm_ (a' := ?_) ?_ ?_
                 rotate_left
                 ·exact qJ2_c3
                 refine one_ (i := 4) (N := some 35) qJ2_b26 rfl rfl (qJ2_18) (by decide) (fun K hK => ?_)
                 refine Kd.R_append_rows_step (Kd.int .i64) (w0 := w) w.heap.size (by rfl) (.tmp 31) (.tmp 34) 23 3 (.int .i64 0) 8 rfl Try.underlying23 info3 rfl (by decide) (by omega) v142 y141 y144 _ _ _ (fun k_ => some k_ ≠ (.slice Ao5 x3_1.length co5 : Value).ownBlock ∧ some k_ ≠ (v153 : Value).ownBlock) (fun _ => False) rfl rfl ?aO ?aR (fun _ _ h => h) (fun _ h => h.elim) ?aF ?aB ?aS ?aL ?_
                 (case aR => exact (qJ2_20))
                 (case aB => exact (qJ2_0))
                 (case aF => exact (qJ2_24))
                 (case aO => exact (qJ2_28))
                 (case aS => exact (qJ2_25))
                 (case aL => have := LMc36.out; omega)
                 intro v149 w51 ho hb hg hat
                 rw [← Ny148.out] at ho
                 have n0_ := Aside0.mk (Kd.R_after (ok := (fun k_ => some k_ ≠ (v153 : Value).ownBlock)) (qJ2_8) hg hat)
                 have n1_ := Aside0.mk (Kd.R_after (ok := (fun k_ => some k_ ≠ (.slice Ao5 x3_1.length co5 : Value).ownBlock)) (qJ2_29) hg hat)
                 have n2_ := Aside0.mk (hb)
                 have n3_ := Aside0.mk ((show Kd.C (Kd.int .i64) w51 Ao5 y144.length y144 from by rw [Ny144.out]; exact Kd.C_take (m := (x5_2 : Int).toNat) ((Kd.R_reads' (Kd.R_after (ok := (fun k_ => some k_ ≠ (v153 : Value).ownBlock)) (qJ2_8) hg hat)).2.2) KL45.out))
                 have n4_ := Aside0.mk ((show Kd.C (Kd.int .i64) w51 A46 y158.length y158 from by rw [Ny158.out, KA46.out]; exact Kd.C_drop (m := (x5_2 : Int).toNat) (c := co5) ((Kd.R_reads' (Kd.R_after (ok := (fun k_ => some k_ ≠ (v153 : Value).ownBlock)) (qJ2_8) hg hat)).2.2) KL46.out ((Kd.R_reads' (Kd.R_after (ok := (fun k_ => some k_ ≠ (v153 : Value).ownBlock)) (qJ2_8) hg hat)).2.1)))
                 have n5_ := Aside0.mk (ho); clear HO_3; clear HO154; clear HB; clear HR147; clear HR161; clear HO143
                 have HO_3 := n0_
                 have HO154 := n1_
                 have HB := n2_
                 have HR147 := n3_
                 have HR161 := n4_
                 have HO150 := n5_
                 clear n0_ n1_ n2_ n3_ n4_ n5_; clear ho hb hg hat
                 refine hK.out _ _ (((HB.out.cell (World.block_lt_of_cell? w _ hw151_0)).trans hw151_0)) (fun hHeld => ?_)
                 clear hK K
                 refine norm_ (a' := ?_) ?_ ?_
                 rotate_left
                 ·exact qJ2_c2
                 exact norm_ (qJ2_14) (hCont (v142, v149, v153) _ ⟨hHeld, (qJ2_16), (qJ2_22), (qJ2_3), (qJ2_0)⟩)
               ·skip
                refine Kd.R_lit_step (Kd.int .i64) _ 3 ?hg (N := 40) ?hd (xs := ([rd l0 x4_1] : List Int)) (inner := [.int .i64 (rd l0 x4_1)]) (ok := fun _ => True) (okp := fun _ => True) ?hr ?hp (fun _ hk => hk) trivial (Below.refl _ _) (Nat.le_refl _) (by simp) ?_; (case hd => rfl); (case hg => rfl); (case hr => exact (qJ2_17)); (case hp => exact (qJ2_13))
                intro v153 w47 ho48 hb hg_ hnew_
                clear hg_ hnew_
                (first | rw [← Ny152.out] at ho48 | (simp only [Int.reduceToNat] at ho48; rw [← Ny152.out] at ho48))
                have n0_ := Aside0.mk (Kd.R_elder' (qJ2_1) (Kd.R_base ho48) hb)
                have n1_ := Aside0.mk (Kd.R_lower (Kd.R_new' ho48 (Kd.R_lt (qJ2_1))) (below_size (qJ2_0)))
                have n2_ := Aside0.mk (Kd.C_below (qJ2_5) hb)
                have n3_ := Aside0.mk (Kd.C_below (qJ2_10) hb)
                have n4_ := Aside0.mk (below_step (qJ2_0) hb)
                clear HO_3; clear HR147; clear HR161; clear HB
                have HO_3 := n0_
                have HO154 := n1_
                have HR147 := n2_
                have HR161 := n3_
                have HB := n4_
                clear n0_ n1_ n2_ n3_ n4_; clear hb ho48
                refine hK.out _ _ (((HB.out.cell (World.block_lt_of_cell? w _ hw151_0)).trans hw151_0)) (fun hHeld => ?_)
                clear hK K
                refine norm_ (a' := ?_) ?_ ?_
                rotate_left
                ·exact qJ2_c3
                refine one_ (i := 0) (N := some 31) qJ2_b30 rfl rfl (qJ2_18) (by decide) (fun K hK => ?_)
                refine Kd.R_lit_step (Kd.int .i64) _ 3 ?hg (N := 31) ?hd (xs := ([] : List Int)) (inner := []) (ok := fun _ => True) (okp := fun _ => True) ?hr ?hp (fun _ hk => hk) trivial (Below.refl _ _) (Nat.le_refl _) (by simp) ?_; (case hd => rfl); (case hg => rfl); (case hr => exact (qJ2_17)); (case hp => exact (Reps.none _ _))
                intro v142 w49 ho50 hb hg_ hnew_
                clear hg_ hnew_
                (first | rw [← Ny141.out] at ho50 | (simp only [Int.reduceToNat] at ho50; rw [← Ny141.out] at ho50))
                have n0_ := Aside0.mk (Kd.R_elder' (qJ2_1) (Kd.R_base ho50) hb)
                have n1_ := Aside0.mk (Kd.R_elder' (qJ2_12) (Kd.R_base ho50) hb)
                have n2_ := Aside0.mk (Kd.R_lower (Kd.R_new' (Kd.R_new' ho50 (Kd.R_lt (qJ2_1))) (Kd.R_lt (qJ2_12))) (below_size (qJ2_0)))
                have n3_ := Aside0.mk (Kd.C_below (qJ2_5) hb)
                have n4_ := Aside0.mk (Kd.C_below (qJ2_10) hb)
                have n5_ := Aside0.mk (below_step (qJ2_0) hb)
                clear HO_3; clear HO154; clear HR147; clear HR161; clear HB
                have HO_3 := n0_
                have HO154 := n1_
                have HO143 := n2_
                have HR147 := n3_
                have HR161 := n4_
                have HB := n5_
                clear n0_ n1_ n2_ n3_ n4_ n5_; clear hb ho50
                refine hK.out _ _ (((HB.out.cell (World.block_lt_of_cell? w _ hw151_0)).trans hw151_0)) (fun hHeld => ?_)
                clear hK K
                refine norm_ (a' := ?_) ?_ ?_
                rotate_left
                ·exact qJ2_c4
                refine one_ (i := 4) (N := some 35) qJ2_b26 rfl rfl (qJ2_18) (by decide) (fun K hK => ?_)
                refine Kd.R_append_rows_step (Kd.int .i64) (w0 := w) w.heap.size (by rfl) (.tmp 31) (.tmp 34) 23 3 (.int .i64 0) 8 rfl Try.underlying23 info3 rfl (by decide) (by omega) v142 y141 y144 _ _ _ (fun k_ => some k_ ≠ (.slice Ao5 x3_1.length co5 : Value).ownBlock ∧ some k_ ≠ (v153 : Value).ownBlock) (fun _ => False) rfl rfl ?aO ?aR (fun _ _ h => h) (fun _ h => h.elim) ?aF ?aB ?aS ?aL ?_
                (case aR => exact (qJ2_20))
                (case aB => exact (qJ2_0))
                (case aF => exact (qJ2_24))
                (case aO => exact (qJ2_28))
                (case aS => exact (qJ2_25))
                (case aL => have := LMc36.out; omega)
                intro v149 w51 ho hb hg hat
                rw [← Ny148.out] at ho
                have n0_ := Aside0.mk (Kd.R_after (ok := (fun k_ => some k_ ≠ (v153 : Value).ownBlock)) (qJ2_6) hg hat)
                have n1_ := Aside0.mk (Kd.R_after (ok := (fun k_ => some k_ ≠ (.slice Ao5 x3_1.length co5 : Value).ownBlock)) (qJ2_29) hg hat)
                have n2_ := Aside0.mk (hb)
                have n3_ := Aside0.mk ((show Kd.C (Kd.int .i64) w51 Ao5 y144.length y144 from by rw [Ny144.out]; exact Kd.C_take (m := (x5_2 : Int).toNat) ((Kd.R_reads' (Kd.R_after (ok := (fun k_ => some k_ ≠ (v153 : Value).ownBlock)) (qJ2_6) hg hat)).2.2) KL45.out))
                have n4_ := Aside0.mk ((show Kd.C (Kd.int .i64) w51 A46 y158.length y158 from by rw [Ny158.out, KA46.out]; exact Kd.C_drop (m := (x5_2 : Int).toNat) (c := co5) ((Kd.R_reads' (Kd.R_after (ok := (fun k_ => some k_ ≠ (v153 : Value).ownBlock)) (qJ2_6) hg hat)).2.2) KL46.out ((Kd.R_reads' (Kd.R_after (ok := (fun k_ => some k_ ≠ (v153 : Value).ownBlock)) (qJ2_6) hg hat)).2.1)))
                have n5_ := Aside0.mk (ho); clear HO_3; clear HO154; clear HB; clear HR147; clear HR161; clear HO143
                have HO_3 := n0_
                have HO154 := n1_
                have HB := n2_
                have HR147 := n3_
                have HR161 := n4_
                have HO150 := n5_
                clear n0_ n1_ n2_ n3_ n4_ n5_; clear ho hb hg hat
                refine hK.out _ _ (((HB.out.cell (World.block_lt_of_cell? w _ hw151_0)).trans hw151_0)) (fun hHeld => ?_)
                clear hK K
                refine norm_ (a' := ?_) ?_ ?_
                rotate_left
                ·exact qJ2_c2
                exact norm_ (qJ2_14) (hCont (v142, v149, v153) _ ⟨hHeld, (qJ2_16), (qJ2_22), (qJ2_3), (qJ2_0)⟩)
              rintro ⟨v142, v149, v153⟩ w52 ⟨hS_, h0_, h1_, h2_, h3_⟩
              have n0_ : Aside0 (Kd.R (Kd.int .i64) 3 w52 w.heap.size (fun k_ => some k_ ≠ (v153 : Value).ownBlock ∧ some k_ ≠ (.slice Ao5 x3_1.length co5 : Value).ownBlock) v149 y148) := ⟨h0_⟩
              have n1_ : Aside0 (Kd.R (Kd.int .i64) 3 w52 w.heap.size (fun k_ => some k_ ≠ (v149 : Value).ownBlock ∧ some k_ ≠ (.slice Ao5 x3_1.length co5 : Value).ownBlock) v153 y152) := ⟨h1_⟩
              have n2_ : Aside0 (Kd.R (Kd.int .i64) 3 w52 w.heap.size (fun k_ => some k_ ≠ (v149 : Value).ownBlock ∧ some k_ ≠ (v153 : Value).ownBlock) (.slice Ao5 x3_1.length co5) x3_1) := ⟨h2_⟩
              have n3_ : Aside0 (Below w.heap.size w w52) := ⟨h3_⟩
              clear HO_3; clear HB; clear h0_ h1_ h2_ h3_
              have HO150 := n0_
              have HO154 := n1_
              have HO_3 := n2_
              have HB := n3_
              clear n0_ n1_ n2_ n3_
              have hHeld : w52.cell? (ad151.add (x4_1).toNat) = some (.int .i64 (rd l0 x4_1)) := hS_
              clear HR147
              have HR147 := Aside0.mk (show Kd.C (Kd.int .i64) w52 Ao5 y144.length y144 from by rw [Ny144.out]; exact Kd.C_take (m := (x5_2 : Int).toNat) ((Kd.R_reads' HO_3.out).2.2) KL45.out)
              clear HR161
              have HR161 := Aside0.mk (show Kd.C (Kd.int .i64) w52 A46 y158.length y158 from by rw [Ny158.out, KA46.out]; exact Kd.C_drop (m := (x5_2 : Int).toNat) (c := co5) ((Kd.R_reads' HO_3.out).2.2) KL46.out ((Kd.R_reads' HO_3.out).2.1))
              obtain ⟨Ao54, co54, eo54⟩ := Kd.R_slice HO154.out
              (first | subst eo54 | (injection eo54 with f1_ f2_ f3_; have f4_ := f1_.symm; have f5_ := f3_.symm; clear f1_ f2_ f3_; subst f4_; subst f5_))
              refine norm_ (a' := ?_) ?_ ?_
              rotate_left
              ·simp only [putAll, Act.put, List.setIfInBounds_toArray, List.set_cons_zero, List.set_cons_succ]
               rfl
              refine one_ (i := 10) (N := some 41) qJ2_b31 rfl rfl (qJ2_18) (by decide) (fun K hK => ?_)
              refine Kd.R_append_rows_step (Kd.int .i64) (w0 := w) w.heap.size (by rfl) (.tmp 35) (.tmp 40) 23 3 (.int .i64 0) 8 rfl Try.underlying23 info3 rfl (by decide) (by omega) v149 y148 y152 _ _ _ (fun k_ => some k_ ≠ (.slice Ao5 x3_1.length co5 : Value).ownBlock ∧ some k_ ≠ (.slice Ao54 y152.length co54 : Value).ownBlock) (fun _ => False) rfl rfl ?aO ?aR (fun _ _ h => h) (fun _ h => h.elim) ?aF ?aB ?aS ?aL ?_
              (case aR => exact (by repeat (first | exact (Kd.R_reads' HO154.out).2.2 | (with_reducible refine Kd.C_alloc ?_ _) | (with_reducible refine Kd.C_drewN ?_ _) | (with_reducible refine Kd.C_drew ?_))))
              (case aB => exact (qJ2_0))
              (case aF => exact (qJ2_24))
              (case aO => exact (qJ2_16))
              (case aS => exact (qJ2_25))
              (case aL => have := LMc39.out; omega)
              intro v156 w53 ho hb hg hat
              rw [← Ny155.out] at ho
              have n0_ := Aside0.mk (Kd.R_after (ok := (fun k_ => some k_ ≠ (.slice Ao54 y152.length co54 : Value).ownBlock)) (qJ2_3) hg hat)
              have n1_ := Aside0.mk (Kd.R_after (ok := (fun k_ => some k_ ≠ (.slice Ao5 x3_1.length co5 : Value).ownBlock)) (qJ2_22) hg hat)
              have n2_ := Aside0.mk (hb)
              have n3_ := Aside0.mk ((show Kd.C (Kd.int .i64) w53 Ao5 y144.length y144 from by rw [Ny144.out]; exact Kd.C_take (m := (x5_2 : Int).toNat) ((Kd.R_reads' (Kd.R_after (ok := (fun k_ => some k_ ≠ (.slice Ao54 y152.length co54 : Value).ownBlock)) (qJ2_3) hg hat)).2.2) KL45.out))
              have n4_ := Aside0.mk ((show Kd.C (Kd.int .i64) w53 A46 y158.length y158 from by rw [Ny158.out, KA46.out]; exact Kd.C_drop (m := (x5_2 : Int).toNat) (c := co5) ((Kd.R_reads' (Kd.R_after (ok := (fun k_ => some k_ ≠ (.slice Ao54 y152.length co54 : Value).ownBlock)) (qJ2_3) hg hat)).2.2) KL46.out ((Kd.R_reads' (Kd.R_after (ok := (fun k_ => some k_ ≠ (.slice Ao54 y152.length co54 : Value).ownBlock)) (qJ2_3) hg hat)).2.1)))
              have n5_ := Aside0.mk (ho); clear HO_3; clear HO154; clear HB; clear HR147; clear HR161; clear HO150
              have HO_3 := n0_
              have HO154 := n1_
              have HB := n2_
              have HR147 := n3_
              have HR161 := n4_
              have HO157 := n5_
              clear n0_ n1_ n2_ n3_ n4_ n5_; clear ho hb hg hat
              refine hK.out _ _ (((HB.out.cell (World.block_lt_of_cell? w _ hw151_0)).trans hw151_0)) (fun hHeld => ?_)
              clear hK K
              refine norm_ (a' := ?_) ?_ ?_
              rotate_left
              ·show Act.put _ (some 41) _ = _
               simp only [Act.put, List.setIfInBounds_toArray, List.set_cons_zero, List.set_cons_succ, i64_w, i32_w]
               rfl
              refine one_ (i := 14) (N := some 45) qJ2_b32 rfl rfl (qJ2_18) (by decide) (fun K hK => ?_)
              refine Kd.R_append_rows_step (Kd.int .i64) (w0 := w) w.heap.size (by rfl) (.tmp 41) (.tmp 44) 23 3 (.int .i64 0) 8 rfl Try.underlying23 info3 rfl (by decide) (by omega) v156 y155 y158 _ _ _ (fun k_ => some k_ ≠ (.slice Ao5 x3_1.length co5 : Value).ownBlock ∧ some k_ ≠ (.slice Ao54 y152.length co54 : Value).ownBlock) (fun _ => False) rfl rfl ?aO ?aR (fun _ _ h => h) (fun _ h => h.elim) ?aF ?aB ?aS ?aL ?_
              (case aR => exact (by repeat (first | exact (qJ2_10) | (with_reducible refine Kd.C_alloc ?_ _) | (with_reducible refine Kd.C_drewN ?_ _) | (with_reducible refine Kd.C_drew ?_))))
              (case aB => exact (qJ2_0))
              (case aF => exact (qJ2_24))
              (case aO => exact (by (with_reducible repeat (first | apply Kd.R_alloc | apply Kd.R_drewN | apply Kd.R_drew)); exact HO157.out))
              (case aS => exact (qJ2_25))
              (case aL => have := LMc42.out; omega)
              intro v163 w55 ho hb hg hat
              rw [← Ny162.out] at ho
              have n0_ := Aside0.mk (Kd.R_after (ok := (fun k_ => some k_ ≠ (.slice Ao54 y152.length co54 : Value).ownBlock)) (qJ2_1) hg hat)
              have n1_ := Aside0.mk (Kd.R_after (ok := (fun k_ => some k_ ≠ (.slice Ao5 x3_1.length co5 : Value).ownBlock)) (qJ2_12) hg hat)
              have n2_ := Aside0.mk (hb)
              have n3_ := Aside0.mk ((show Kd.C (Kd.int .i64) w55 Ao5 y144.length y144 from by rw [Ny144.out]; exact Kd.C_take (m := (x5_2 : Int).toNat) ((Kd.R_reads' (Kd.R_after (ok := (fun k_ => some k_ ≠ (.slice Ao54 y152.length co54 : Value).ownBlock)) (qJ2_1) hg hat)).2.2) KL45.out))
              have n4_ := Aside0.mk ((show Kd.C (Kd.int .i64) w55 A46 y158.length y158 from by rw [Ny158.out, KA46.out]; exact Kd.C_drop (m := (x5_2 : Int).toNat) (c := co5) ((Kd.R_reads' (Kd.R_after (ok := (fun k_ => some k_ ≠ (.slice Ao54 y152.length co54 : Value).ownBlock)) (qJ2_1) hg hat)).2.2) KL46.out ((Kd.R_reads' (Kd.R_after (ok := (fun k_ => some k_ ≠ (.slice Ao54 y152.length co54 : Value).ownBlock)) (qJ2_1) hg hat)).2.1)))
              have n5_ := Aside0.mk (ho); clear HO_3; clear HO154; clear HB; clear HR147; clear HR161; clear HO157
              have HO_3 := n0_
              have HO154 := n1_
              have HB := n2_
              have HR147 := n3_
              have HR161 := n4_
              have HO164 := n5_
              clear n0_ n1_ n2_ n3_ n4_ n5_; clear ho hb hg hat
              refine hK.out _ _ (((HB.out.cell (World.block_lt_of_cell? w _ hw151_0)).trans hw151_0)) (fun hHeld => ?_)
              clear hK K
              refine norm_ (a' := ?_) ?_ ?_
              rotate_left
              ·show Act.put _ (some 45) _ = _
               simp only [Act.put, List.setIfInBounds_toArray, List.set_cons_zero, List.set_cons_succ, i64_w, i32_w]
               rfl
              refine pure_ (i := 15) (N := some 3) (v := ?_) (a' := ?_) qJ2_b33 rfl rfl (qJ2_2) (fun _ _ _ h => h) (Or.inl ⟨by rfl, ?_⟩) ?_ ?_
              rotate_left; exact qJ2_c1; rotate_left; exact qJ2_c0
              refine done_ (qJ2_30) ?_
              try go_wp2
              go_roundg k2
              case measure => have := HK1.out; have := HK2.out; omega
              case rel => exact ⟨(y162), (wrap64 (x4_1 + 1)), (qJ2_31), H', ⟨by have := HK1.out; have := HK2.out; omega⟩, ⟨(by (with_reducible repeat (first | apply Kd.R_alloc | apply Kd.R_drewN | apply Kd.R_drew)); exact Kd.R_mono HO164.out (fun _ hk => trivial))⟩, ⟨(qJ2_0)⟩⟩
             ·rw [if_neg c42] at H
              exact absurd H (by simp)
            ·rw [if_neg c39] at H
             exact absurd H (by simp)
           ·rw [if_neg c38] at H
            exact absurd H (by simp)
          ·rw [if_neg c37] at H
           exact absurd H (by simp)
         ·rw [if_neg c36] at H
          exact absurd H (by simp)
        ·rw [if_neg c35] at H
         exact absurd H (by simp)
       ·rw [if_neg c34] at H
        exact absurd H (by simp)
   ·rw [if_neg c4] at H
    have c4b0 : decide (x4_1 < (l0.length : Int)) = false := decide_eq_false c4
    clear c4; obtain rfl := Option.some.inj H
    go_wp2
    go_ret
    exact ⟨_, (by first | rfl | (simp [errW_none, errW_some] <;> rfl) | (simp [*, errW_none, errW_some] <;> rfl)), (qJ2_1), (qJ2_0)⟩

end Go.Proofs.Ytfjpbochanekoaa.MJ
