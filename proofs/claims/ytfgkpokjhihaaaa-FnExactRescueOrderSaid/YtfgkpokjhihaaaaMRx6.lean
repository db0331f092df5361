-- Written by a program of this session (wip/drv.py, wip/tight.py).
import Derived.Test.YtfgkpokjhihaaaaMRx0
import Derived.Test.YtfgkpokjhihaaaaMRx3
import Derived.Test.YtfgkpokjhihaaaaMRx5
namespace Go.Proofs.Ytfgkpokjhihaaaa.MR
open Go.RowKit Go.Proofs.YtfgkpokjhihaaaaW.PrintWords Go.Proofs.YtfgkpokjhihaaaaW.PrintLast Go.Proofs.YtfgkpokjhihaaaaW.PrintMore
theorem qR6_0 {p : Prop} (h : p := by repeat (first | (with_reducible first | exact HB.out | apply below_alloc | apply pw_below_drewN | apply below_drew1) | exact HB.out)) : p := h
theorem qR6_1 {p : Prop} (h : p := by (with_reducible repeat (first | apply Kd.R_alloc | apply Kd.R_drewN | apply Kd.R_drew)); exact HO_10.out) : p := h
theorem qR6_2 {p : Prop} (h : p := by (with_reducible repeat (first | apply Kd.R_alloc | apply Kd.R_drewN | apply Kd.R_drew)); exact Kd.R_mono HO_10.out (fun _ hk => ⟨hk.2, hk.1⟩)) : p := h
theorem qR6_3 {p : Prop} (h : p := by repeat (first | (with_reducible exact HR224.out) | (with_reducible refine Kd.C_alloc ?_ _) | (with_reducible refine Kd.C_drewN ?_ _) | (with_reducible refine Kd.C_drew ?_) | exact HR224.out)) : p := h
theorem qR6_4 {p : Prop} (h : p := by repeat (first | (with_reducible exact HR248.out) | (with_reducible refine Kd.C_alloc ?_ _) | (with_reducible refine Kd.C_drewN ?_ _) | (with_reducible refine Kd.C_drew ?_) | exact HR248.out)) : p := h
theorem qR6_5 {p : Prop} (h : p := by (with_reducible repeat (first | apply Kd.R_alloc | apply Kd.R_drewN | apply Kd.R_drew)); exact Kd.R_mono HO_10.out (fun _ hk => ⟨hk.1.2, hk.2⟩)) : p := h
theorem qR6_6 {p : Prop} (h : p := by first | (with_reducible assumption) | assumption) : p := h
theorem qR6_7 {p : Prop} (h : p := by (with_reducible repeat (first | apply Kd.R_alloc | apply Kd.R_drewN | apply Kd.R_drew)); exact Kd.R_mono HO_10.out (fun _ hk => ⟨hk.2, hk.1.2⟩)) : p := h
theorem qR6_8 {p : Prop} (h : p := by repeat (first | (with_reducible exact HR238.out) | (with_reducible refine Kd.C_alloc ?_ _) | (with_reducible refine Kd.C_drewN ?_ _) | (with_reducible refine Kd.C_drew ?_) | exact HR238.out)) : p := h
theorem qR6_9 {p : Prop} (h : p := by repeat (first | (with_reducible exact HR262.out) | (with_reducible refine Kd.C_alloc ?_ _) | (with_reducible refine Kd.C_drewN ?_ _) | (with_reducible refine Kd.C_drew ?_) | exact HR262.out)) : p := h
theorem qR6_10 {p : Prop} (h : p := by repeat (first | exact (Kd.C_below HR0.out HB.out) | (with_reducible refine Kd.C_alloc ?_ _) | (with_reducible refine Kd.C_drewN ?_ _) | (with_reducible refine Kd.C_drew ?_))) : p := h
theorem qR6_11 {p : Prop} (h : p := by repeat (first | exact (Kd.C_below HR1.out HB.out) | (with_reducible refine Kd.C_alloc ?_ _) | (with_reducible refine Kd.C_drewN ?_ _) | (with_reducible refine Kd.C_drew ?_))) : p := h
theorem qR6_12 {p : Prop} (h : p := by exact any_of HT_.out (by kernel_rfl)) : p := h
theorem qR6_13 {p : Prop} (h : p := by (with_reducible repeat (first | apply Kd.R_alloc | apply Kd.R_drewN | apply Kd.R_drew)); exact HO231.out) : p := h
theorem qR6_14 {p : Prop} (h : p := by (with_reducible repeat (first | apply Kd.R_alloc | apply Kd.R_drewN | apply Kd.R_drew)); exact HO255.out) : p := h
theorem qR6_15 {p : Prop} (h : p := by exact (Reps.one (show Kd.M (Kd.int .i64) _ _ _ (rd l3 x11_2) [.int .i64 (rd l3 x11_2)] from rfl) (Reps.none _ _))) : p := h
theorem qR6_16 {p : Prop} (h : p := by simp only [putAll, Act.put, List.setIfInBounds_toArray, List.set_cons_zero, List.set_cons_succ]) : p := h
theorem qR6_17 {p : Prop} (h : p := by (with_reducible repeat (first | apply Kd.R_alloc | apply Kd.R_drewN | apply Kd.R_drew)); exact Kd.R_mono HO227.out (fun _ hk => ⟨hk.2, hk.1⟩)) : p := h
theorem qR6_18 {p : Prop} (h : p := by (with_reducible repeat (first | apply Kd.R_alloc | apply Kd.R_drewN | apply Kd.R_drew)); exact Kd.R_mono HO251.out (fun _ hk => ⟨hk.2, hk.1⟩)) : p := h
theorem qR6_19 {p : Prop} (h : p := by (try simp only [List.map_toArray, List.map_cons, List.map_nil]); first | done | rfl | (simp only [List.length_drop, List.length_take]; rfl)) : p := h
theorem qR6_20 {p : Prop} (h : p := by first | (go_simp; done) | (go_simp; rfl)) : p := h
theorem qR6_21 {p : Prop} (h : p := by exact one_of HT_.out (by kernel_rfl)) : p := h
theorem qR6_22 {p : Prop} (h : p := by (with_reducible repeat (first | apply Kd.R_alloc | apply Kd.R_drewN | apply Kd.R_drew)); exact HO211.out) : p := h
theorem qR6_23 {p : Prop} (h : p := by repeat (first | exact (qR6_3) | (with_reducible refine Kd.C_alloc ?_ _) | (with_reducible refine Kd.C_drewN ?_ _) | (with_reducible refine Kd.C_drew ?_))) : p := h
theorem qR6_24 {p : Prop} (h : p := by repeat (first | exact (qR6_4) | (with_reducible refine Kd.C_alloc ?_ _) | (with_reducible refine Kd.C_drewN ?_ _) | (with_reducible refine Kd.C_drew ?_))) : p := h
theorem qR6_25 {p : Prop} (h : p := by (with_reducible repeat (first | apply Kd.R_alloc | apply Kd.R_drewN | apply Kd.R_drew)); exact Kd.R_mono HO231.out (fun _ hk => ⟨hk.2, hk.1⟩)) : p := h
theorem qR6_26 {p : Prop} (h : p := by (with_reducible repeat (first | apply Kd.R_alloc | apply Kd.R_drewN | apply Kd.R_drew)); exact Kd.R_mono HO255.out (fun _ hk => ⟨hk.2, hk.1⟩)) : p := h
theorem qR6_27 {p : Prop} (h : p := by exact (fun k_ hk => ⟨Kd.fresh' (Kd.R_lt (qR6_1)) k_ hk, Kd.fresh' (Kd.R_lt (qR6_13)) k_ hk⟩)) : p := h
theorem qR6_28 {p : Prop} (h : p := by exact (fun k_ hk => ⟨Kd.fresh' (Kd.R_lt (qR6_1)) k_ hk, Kd.fresh' (Kd.R_lt (qR6_14)) k_ hk⟩)) : p := h
theorem qR6_29 {p : Prop} (h : p := by first | rfl | (simp; done) | (simp [*]; done)) : p := h
theorem qR6_30 {p : Prop} (h : p := by exact (below_size (qR6_0))) : p := h
theorem qR6_31 {p : Prop} (h : p := by (with_reducible repeat (first | apply Kd.R_alloc | apply Kd.R_drewN | apply Kd.R_drew)); exact Kd.R_mono HO220.out (fun _ hk => ⟨hk.1.2, hk.2⟩)) : p := h
theorem qR6_32 {p : Prop} (h : p := by (with_reducible repeat (first | apply Kd.R_alloc | apply Kd.R_drewN | apply Kd.R_drew)); exact Kd.R_mono HO231.out (fun _ hk => ⟨hk.1.2, hk.2⟩)) : p := h
theorem qR6_33 {p : Prop} (h : p := by (with_reducible repeat (first | apply Kd.R_alloc | apply Kd.R_drewN | apply Kd.R_drew)); exact Kd.R_mono HO244.out (fun _ hk => ⟨hk.1.2, hk.2⟩)) : p := h
theorem qR6_34 {p : Prop} (h : p := by (with_reducible repeat (first | apply Kd.R_alloc | apply Kd.R_drewN | apply Kd.R_drew)); exact Kd.R_mono HO255.out (fun _ hk => ⟨hk.1.2, hk.2⟩)) : p := h
theorem qR6_35 {p : Prop} (h : p := by (with_reducible repeat (first | apply Kd.R_alloc | apply Kd.R_drewN | apply Kd.R_drew)); exact HO227.out) : p := h
theorem qR6_36 {p : Prop} (h : p := by (with_reducible repeat (first | apply Kd.R_alloc | apply Kd.R_drewN | apply Kd.R_drew)); exact HO220.out) : p := h
theorem qR6_37 {p : Prop} (h : p := by (with_reducible repeat (first | apply Kd.R_alloc | apply Kd.R_drewN | apply Kd.R_drew)); exact HO251.out) : p := h
theorem qR6_38 {p : Prop} (h : p := by (with_reducible repeat (first | apply Kd.R_alloc | apply Kd.R_drewN | apply Kd.R_drew)); exact HO244.out) : p := h
theorem qR6_39 {p : Prop} (h : p := by first | rfl | (simp [errW_none, errW_some] <;> rfl) | (simp [*, errW_none, errW_some] <;> rfl)) : p := h
theorem qR6_c0 {p : Prop} (h : p := by
  simp only [Act.put, List.setIfInBounds_toArray, List.set_cons_zero, List.set_cons_succ, i64_w, i32_w]
  rfl) : p := h
theorem qR6_c1 {p : Prop} (h : p := by
  show Act.put _ (some 65) _ = _
  simp only [Act.put, List.setIfInBounds_toArray, List.set_cons_zero, List.set_cons_succ, i64_w, i32_w]
  rfl) : p := h
theorem qR6_c2 {p : Prop} (h : p := by
  show Act.put _ (some 70) _ = _
  simp only [Act.put, List.setIfInBounds_toArray, List.set_cons_zero, List.set_cons_succ, i64_w, i32_w]
  rfl) : p := h
theorem qR6_c3 {p : Prop} (h : p := by
  intro w'
  go_simp
  with_reducible rfl) : p := h
theorem qR6_c4 {p : Prop} (h : p := by
  show Act.put _ (some 61) _ = _
  simp only [Act.put, List.setIfInBounds_toArray, List.set_cons_zero, List.set_cons_succ, i64_w, i32_w]
  rfl) : p := h
abbrev qR6_b0 : Array Bool := #[false, false, false, false, false, false, false, false, false, false, false, false, false, false, false, false]
abbrev qR6_b1 : Array Bool := #[false, true, false, false, false, false, false, false, false, false, false, false, false, false, false, false]
abbrev qR6_b2 : Array Bool := #[false, true, true, false, false, false, false, false, false, false, false, false, false, false, false, false]
abbrev qR6_b3 : Array Bool := #[false, true, true, true, false, false, false, false, false, false, false, false, false, false, false, false]
abbrev qR6_b4 : Array Bool := #[false, true, true, true, false, true, false, false, false, false, false, false, false, false, false, false]
abbrev qR6_b5 : Array Bool := #[false, true, true, true, false, true, true, false, false, false, false, false, false, false, false, false]
abbrev qR6_b6 : Array Bool := #[false, true, true, true, false, true, true, true, false, false, false, false, false, false, false, false]
abbrev qR6_b7 : Array Bool := #[false, true, true, true, false, true, true, true, false, false, false, true, false, false, false, false]
abbrev qR6_b8 : Array Bool := #[false, true, true, true, false, true, true, true, false, false, false, true, true, false, false, false]
abbrev qR6_b9 : Array Bool := #[false, true, true, true, false, true, true, true, false, false, false, true, true, true, false, false]
abbrev qR6_b10 : Array Bool := #[false, true, true, true, false, true, true, true, true, false, false, true, true, true, false, false]
abbrev qR6_b11 : Array Bool := #[true, true, true, true, true, true, true, true, true, true, false, true, true, true, false, false]
abbrev qR6_b12 : Array Bool := #[true, true, true, true, false, true, true, true, true, false, false, true, true, true, false, false]
abbrev qR6_b13 : Array Bool := #[false, true, true, true, false, true, true, true, true, true, false, true, true, true, false, false]
abbrev qR6_b14 : Array Bool := #[true, true, true, true, true, true, true, true, true, false, false, true, true, true, false, false]
abbrev qR6_b15 : Array Bool := #[true, true, true, true, false, true, true, true, true, true, false, true, true, true, false, false]
abbrev qR6_b16 : Array Bool := #[true, true, true, true, true, true, true, true, true, true, true, true, true, true, false, false]
abbrev qR6_b17 : Array Bool := #[true, true, true, true, true, true, true, true, true, true, true, true, true, true, true, false]
abbrev qR6_b18 : Array Bool := #[true, true, true, true, true, true, true, true, true, true, true, true, true, true, true, true]
attribute [local go_sem] max2_int min2_int max_two min_two max_three min_three max_four min_four   -- for this text's walks alone
set_option linter.unusedVariables false
set_option linter.unusedSimpArgs false

/-! ### spec_RescueOrder: function 31 -/
mutual
def spec_RescueOrder.j0 : Nat → List (S66) → List Int → Int → List Int → List Int → Bool → Option (List Int × Bool)
 | 0, _, _, _, _, _, _ => none
 | k + 1, x0, x1, x2, x3, x10, x24 => if x24 = true then (some (x10, false)) else (spec_RescueOrder.l0 k x0 x1 x2 x3 x10 0)
def spec_RescueOrder.l0 : Nat → List (S66) → List Int → Int → List Int → List Int → Int → Option (List Int × Bool)
 | 0, _, _, _, _, _, _ => none
 | k + 1, x0, x1, x2, x3, x10, x11 => if x11 < (x3.length : Int) then (if 0 ≤ x11 then ((spec_l15Greatest.f k x0 x1 x2 (rd x3 x11)).bind fun t215 => (if t215 < 0 then (spec_RescueOrder.l0 k x0 x1 x2 x3 x10 (wrap64 (x11 + 1))) else (spec_RescueOrder.l1 k x0 x1 x2 x3 x10 x11 t215 (x10.length : Int)))) else (none)) else (some (x10, true))
def spec_RescueOrder.l1 : Nat → List (S66) → List Int → Int → List Int → List Int → Int → Int → Int → Option (List Int × Bool)
 | 0, _, _, _, _, _, _, _, _ => none
 | k + 1, x0, x1, x2, x3, x10, x11, x12, x13 => if x13 > 0 then (if 0 ≤ (wrap64 (x13 - 1)) then (if (wrap64 (x13 - 1)) < (x10.length : Int) then ((spec_l15Greatest.f k x0 x1 x2 (rd x10 (wrap64 (x13 - 1)))).bind fun t217 => (if t217 < x12 then (spec_RescueOrder.l1 k x0 x1 x2 x3 x10 x11 x12 (wrap64 (x13 - 1))) else ((some (([] : List Int) : List Int)).bind fun y218 => (if 0 ≤ x13 then (if x13 ≤ (x10.length : Int) then ((some (x10.take (x13 : Int).toNat : List Int)).bind fun y221 => (if y218.length + y221.length < 17592186044416 then ((some (y218 ++ y221 : List Int)).bind fun y225 => (if 0 ≤ x11 then (if x11 < (x3.length : Int) then ((some (([rd x3 x11] : List Int) : List Int)).bind fun y229 => (if y225.length + y229.length < 17592186044416 then ((some (y225 ++ y229 : List Int)).bind fun y232 => ((some (x10.drop (x13 : Int).toNat : List Int)).bind fun y235 => (if y232.length + y235.length < 17592186044416 then (spec_RescueOrder.l0 k x0 x1 x2 x3 (y232 ++ y235) (wrap64 (x11 + 1))) else (none)))) else (none))) else (none)) else (none))) else (none))) else (none)) else (none))))) else (none)) else (none)) else ((some (([] : List Int) : List Int)).bind fun y242 => (if 0 ≤ x13 then (if x13 ≤ (x10.length : Int) then ((some (x10.take (x13 : Int).toNat : List Int)).bind fun y245 => (if y242.length + y245.length < 17592186044416 then ((some (y242 ++ y245 : List Int)).bind fun y249 => (if 0 ≤ x11 then (if x11 < (x3.length : Int) then ((some (([rd x3 x11] : List Int) : List Int)).bind fun y253 => (if y249.length + y253.length < 17592186044416 then ((some (y249 ++ y253 : List Int)).bind fun y256 => ((some (x10.drop (x13 : Int).toNat : List Int)).bind fun y259 => (if y256.length + y259.length < 17592186044416 then (spec_RescueOrder.l0 k x0 x1 x2 x3 (y256 ++ y259) (wrap64 (x11 + 1))) else (none)))) else (none))) else (none)) else (none))) else (none))) else (none)) else (none)))
end
def spec_RescueOrder.f (k : Nat) (l0 : List (S66)) (l1 : List Int) (a2 : Int) (l3 : List Int) : Option (List Int × Bool) := (some (([] : List Int) : List Int)).bind fun y209 => ((spec_l15Asked.f k l0 l1 a2 0).bind fun t212 => (if t212 = true then ((spec_l1Rising.f k l3 0 7).bind fun t213 => (spec_RescueOrder.j0 k l0 l1 a2 l3 y209 (!t213))) else (spec_RescueOrder.j0 k l0 l1 a2 l3 y209 true)))
theorem spec_RescueOrder.mono_l : ∀ k, (∀ y0 y1 y2 y3 y4 y5, LeO (spec_RescueOrder.j0 k y0 y1 y2 y3 y4 y5) (spec_RescueOrder.j0 (k + 1) y0 y1 y2 y3 y4 y5)) ∧ (∀ y0 y1 y2 y3 y4 y5, LeO (spec_RescueOrder.l0 k y0 y1 y2 y3 y4 y5) (spec_RescueOrder.l0 (k + 1) y0 y1 y2 y3 y4 y5)) ∧ (∀ y0 y1 y2 y3 y4 y5 y6 y7, LeO (spec_RescueOrder.l1 k y0 y1 y2 y3 y4 y5 y6 y7) (spec_RescueOrder.l1 (k + 1) y0 y1 y2 y3 y4 y5 y6 y7))
 | 0 => ⟨fun _ _ _ _ _ _ r h => by simp [spec_RescueOrder.j0] at h, fun _ _ _ _ _ _ r h => by simp [spec_RescueOrder.l0] at h, fun _ _ _ _ _ _ _ _ r h => by simp [spec_RescueOrder.l1] at h⟩
 | k + 1 => by
  obtain ⟨ih0, ih1, ih2⟩ := spec_RescueOrder.mono_l k
  refine ⟨?_, ?_, ?_⟩
  ·intro y0 y1 y2 y3 y4 y5
   unfold spec_RescueOrder.j0
   repeat' first
   | (with_reducible exact ih0 _ _ _ _ _ _)
   | (with_reducible exact ih1 _ _ _ _ _ _)
   | (with_reducible exact ih2 _ _ _ _ _ _ _ _)
   | (with_reducible exact spec_l15Asked.mono _ _ _ _ _)
   | (with_reducible exact spec_l15Greatest.mono _ _ _ _ _)
   | (with_reducible exact spec_l1Rising.mono _ _ _ _)
   | (with_reducible exact LeO.refl _)
   | (with_reducible exact LeO.none _)
   | (with_reducible refine LeO.ite ?_ ?_)
   | (with_reducible refine LeO.bind ?_ (fun _ => ?_))
   | exact ih0 _ _ _ _ _ _
   | exact ih1 _ _ _ _ _ _
   | exact ih2 _ _ _ _ _ _ _ _
   | exact spec_l15Asked.mono _ _ _ _ _
   | exact spec_l15Greatest.mono _ _ _ _ _
   | exact spec_l1Rising.mono _ _ _ _
   | exact LeO.none _
   | refine LeO.ite ?_ ?_
   | refine LeO.bind ?_ (fun _ => ?_)
  ·intro y0 y1 y2 y3 y4 y5
   unfold spec_RescueOrder.l0
   repeat' first
   | (with_reducible exact ih0 _ _ _ _ _ _)
   | (with_reducible exact ih1 _ _ _ _ _ _)
   | (with_reducible exact ih2 _ _ _ _ _ _ _ _)
   | (with_reducible exact spec_l15Asked.mono _ _ _ _ _)
   | (with_reducible exact spec_l15Greatest.mono _ _ _ _ _)
   | (with_reducible exact spec_l1Rising.mono _ _ _ _)
   | (with_reducible exact LeO.refl _)
   | (with_reducible exact LeO.none _)
   | (with_reducible refine LeO.ite ?_ ?_)
   | (with_reducible refine LeO.bind ?_ (fun _ => ?_))
   | exact ih0 _ _ _ _ _ _
   | exact ih1 _ _ _ _ _ _
   | exact ih2 _ _ _ _ _ _ _ _
   | exact spec_l15Asked.mono _ _ _ _ _
   | exact spec_l15Greatest.mono _ _ _ _ _
   | exact spec_l1Rising.mono _ _ _ _
   | exact LeO.none _
   | refine LeO.ite ?_ ?_
   | refine LeO.bind ?_ (fun _ => ?_)
  ·intro y0 y1 y2 y3 y4 y5 y6 y7
   unfold spec_RescueOrder.l1
   repeat' first
   | (with_reducible exact ih0 _ _ _ _ _ _)
   | (with_reducible exact ih1 _ _ _ _ _ _)
   | (with_reducible exact ih2 _ _ _ _ _ _ _ _)
   | (with_reducible exact spec_l15Asked.mono _ _ _ _ _)
   | (with_reducible exact spec_l15Greatest.mono _ _ _ _ _)
   | (with_reducible exact spec_l1Rising.mono _ _ _ _)
   | (with_reducible exact LeO.refl _)
   | (with_reducible exact LeO.none _)
   | (with_reducible refine LeO.ite ?_ ?_)
   | (with_reducible refine LeO.bind ?_ (fun _ => ?_))
   | exact ih0 _ _ _ _ _ _
   | exact ih1 _ _ _ _ _ _
   | exact ih2 _ _ _ _ _ _ _ _
   | exact spec_l15Asked.mono _ _ _ _ _
   | exact spec_l15Greatest.mono _ _ _ _ _
   | exact spec_l1Rising.mono _ _ _ _
   | exact LeO.none _
   | refine LeO.ite ?_ ?_
   | refine LeO.bind ?_ (fun _ => ?_)
theorem spec_RescueOrder.mono : ∀ a0 a1 a2 a3 k, LeO (spec_RescueOrder.f k a0 a1 a2 a3) (spec_RescueOrder.f (k + 1) a0 a1 a2 a3) := by
 intro a0 a1 a2 a3 k
 obtain ⟨ih0, ih1, ih2⟩ := spec_RescueOrder.mono_l k
 unfold spec_RescueOrder.f
 repeat' first
   | (with_reducible exact ih0 _ _ _ _ _ _)
   | (with_reducible exact ih1 _ _ _ _ _ _)
   | (with_reducible exact ih2 _ _ _ _ _ _ _ _)
   | (with_reducible exact spec_l15Asked.mono _ _ _ _ _)
   | (with_reducible exact spec_l15Greatest.mono _ _ _ _ _)
   | (with_reducible exact spec_l1Rising.mono _ _ _ _)
   | (with_reducible exact LeO.refl _)
   | (with_reducible exact LeO.none _)
   | (with_reducible refine LeO.ite ?_ ?_)
   | (with_reducible refine LeO.bind ?_ (fun _ => ?_))
   | exact ih0 _ _ _ _ _ _
   | exact ih1 _ _ _ _ _ _
   | exact ih2 _ _ _ _ _ _ _ _
   | exact spec_l15Asked.mono _ _ _ _ _
   | exact spec_l15Greatest.mono _ _ _ _ _
   | exact spec_l1Rising.mono _ _ _ _
   | exact LeO.none _
   | refine LeO.ite ?_ ?_
   | refine LeO.bind ?_ (fun _ => ?_)
def spec_RescueOrder.T12 : Bool × List (List Nat × List Nat) := (true, [([], []), ([], []), ([], []), ([1, 2], [1, 2]), ([0, 3], [0, 3]), ([], []), ([], []), ([5, 6], [5, 6]), ([7], [7]), ([8], [8]), ([4, 9, 4], [4, 9]), ([], []), ([], []), ([11, 12], [11, 12]), ([10, 13, 10], [10, 13]), ([14, 14, 0, 1, 2, 3, 4, 5, 6, 7, 8, 9, 10, 11, 12, 13, 14], [1, 11, 14])])
def spec_RescueOrder.B12 : List Nat := [0, 0, 0, 6, 15, 0, 0, 96, 224, 480, 1023, 0, 0, 6144, 16383, 32767]
theorem spec_RescueOrder.tab12 : rtab .any (opsOf Try.f31 12) = spec_RescueOrder.T12 := by kernel_rfl
theorem spec_RescueOrder.bits12 : waitsOk spec_RescueOrder.T12.2 spec_RescueOrder.B12 = true := by kernel_rfl
set_option maxHeartbeats 8000000 in
set_option maxRecDepth 100000 in
theorem spec_RescueOrder.calls (k : Nat) (A0 : Option Addr) (c0 : Nat) (l0 : List (S66)) (A1 : Option Addr) (c1 : Nat) (l1 : List Int) (a2 : Int) (A3 : Option Addr) (c3 : Nat) (l3 : List Int) (r1 : List Int) (r2 : Bool) (w : World) (hr0 : Kd.C k66 w A0 l0.length l0) (hc0 : l0.length ≤ c0) (hr1 : Kd.C (Kd.int .i64) w A1 l1.length l1) (hc1 : l1.length ≤ c1) (hr3 : Kd.C (Kd.int .i64) w A3 l3.length l3) (hc3 : l3.length ≤ c3) (h : spec_RescueOrder.f k l0 l1 a2 l3 = some (r1, r2)) :
  Calls Try.prog 31 #[.slice A0 l0.length c0, .slice A1 l1.length c1, .int .i64 a2, .slice A3 l3.length c3] w fun e w' => ∃ v0_ : Value, e = .returned (.tuple #[v0_, .bool r2]) ∧ Kd.R (Kd.int .i64) 3 w' w.heap.size (fun _ => True) v0_ r1 ∧ Below w.heap.size w w' := by
 have HR0 := Aside0.mk hr0; have HC0 := Aside0.mk hc0; clear hr0 hc0; have HR1 := Aside0.mk hr1; have HC1 := Aside0.mk hc1; clear hr1 hc1; have HR3 := Aside0.mk hr3; have HC3 := Aside0.mk hc3; clear hr3 hc3
 have HB := Aside0.mk (Below.refl w.heap.size w)
 have H : ((some (([] : List Int) : List Int)).bind fun y209 => ((spec_l15Asked.f k l0 l1 a2 0).bind fun t212 => (if t212 = true then ((spec_l1Rising.f k l3 0 7).bind fun t213 => (spec_RescueOrder.j0 k l0 l1 a2 l3 y209 (!t213))) else (spec_RescueOrder.j0 k l0 l1 a2 l3 y209 true)))) = some (r1, r2) := h
 clear h
 obtain ⟨y209, hy209⟩ : ∃ y_ : List Int, y_ = (([] : List Int)) := ⟨_, rfl⟩
 replace H : ((spec_l15Asked.f k l0 l1 a2 0).bind fun t212 => (if t212 = true then ((spec_l1Rising.f k l3 0 7).bind fun t213 => (spec_RescueOrder.j0 k l0 l1 a2 l3 y209 (!t213))) else (spec_RescueOrder.j0 k l0 l1 a2 l3 y209 true))) = some (r1, r2) := by first | (rw [hy209]; with_reducible exact H) | (have H2_ := (Option.bind_some _ _).symm.trans H; rw [hy209]; with_reducible exact H2_) | (have H2_ := (Option.bind_some _ _).symm.trans H; with_reducible exact H2_) | with_reducible exact H | (rw [hy209]; exact H) | exact H
 have Ny209 := Aside0.mk hy209; clear hy209; have HC5 := Aside0.mk H; clear H
 go_enter Try.func31, Try.ntmps31
 go_upto_region 2 with (first | ((with_reducible refine gate_dst (N := 14) rfl ?_); refine Kd.R_lit (Kd.int .i64) _ 3 ?hg (N := 14) ?hd (xs := ([] : List Int)) (inner := []) (ok := fun _ => True) (okp := fun _ => True) ?hr ?hp (fun _ hk => hk) trivial (Below.refl _ _) (Nat.le_refl _) (by simp) ?_; (case hd => rfl); (case hg => rfl); (case hr => exact (qR6_20)); (case hp => exact (Reps.none _ _)); intro v210 w6 ho7 hb hg_ hnew_; clear hg_ hnew_; (first | rw [← Ny209.out] at ho7 | (simp only [Int.reduceToNat] at ho7; rw [← Ny209.out] at ho7)); have n0_ := Aside0.mk (Kd.R_lower ho7 (below_size (qR6_0))); have n1_ := Aside0.mk (below_step (qR6_0) hb); clear HB; have HO211 := n0_; have HB := n1_; clear n0_ n1_; clear hb ho7))
 (try simp only [Act.put, List.setIfInBounds_toArray, List.set_cons_zero, List.set_cons_succ])
 go_cut [24] (fun v24 wc => ∃ (kq : Nat) (x24_4 : Bool), v24 = .bool x24_4 ∧ Aside0 (spec_RescueOrder.j0 kq l0 l1 a2 l3 y209 x24_4 = some (r1, r2)) ∧ Aside0 (kq ≤ k) ∧ Aside0 (Kd.R (Kd.int .i64) 3 wc w.heap.size (fun _ => True) v210 y209) ∧ Aside0 (Below w.heap.size w wc))
 case first =>
  have H := HC5.out
  clear HC5; replace H := Option.bind_eq_some_iff.mp H; obtain ⟨t212, A80, H⟩ := H
  try dsimp only at H
  have A8 := Aside0.mk A80; clear A80
  by_cases c9 : t212 = true
  ·subst c9
   have H1 : ((spec_l1Rising.f k l3 0 7).bind fun t213 => (spec_RescueOrder.j0 k l0 l1 a2 l3 y209 (!t213))) = some (r1, r2) := by rw [if_pos rfl] at H; exact H
   clear H; have H := H1; clear H1; replace H := Option.bind_eq_some_iff.mp H; obtain ⟨t213, A100, H⟩ := H
   try dsimp only at H
   have A10 := Aside0.mk A100; clear A100
   have H' := Aside0.mk H
   clear H
   go_wp2_with (first | ((with_reducible refine gate_callee (f := 49) rfl ?_); refine goesL_ (some 18) rfl rfl Try.func49 (by kernel_rfl) rfl #[.slice A0 l0.length c0, .slice A1 l1.length c1, .int .i64 a2, .int .i64 0] rfl (qR6_19) ?_; (with_reducible refine (spec_l15Asked.calls k _ _ l0 _ _ l1 a2 0 true _ ?side1 ?side2 ?side3 ?side4 A8.out).mono ?_); (case side1 => exact (qR6_10)); (case side2 => exact HC0.out); (case side3 => exact (qR6_11)); (case side4 => exact HC1.out); rintro e w11 ⟨rfl, hb⟩; refine ⟨_, rfl, ?_⟩; have n0_ := Aside0.mk (Kd.R_below (qR6_22) hb); have n1_ := Aside0.mk (below_step (qR6_0) hb); clear HO211 HB; have HO211 := n0_; have HB := n1_; clear n0_ n1_; (try clear hb); (try clear hb2); (try clear hk); (try clear hi)) | (go_at_call 68; (with_reducible refine (spec_l1Rising.calls k _ _ l3 0 7 t213 _ ?side1 ?side2 A10.out).mono ?_); (case side1 => exact (by repeat (first | exact (Kd.C_below HR3.out HB.out) | (with_reducible refine Kd.C_alloc ?_ _) | (with_reducible refine Kd.C_drewN ?_ _) | (with_reducible refine Kd.C_drew ?_)))); (case side2 => exact HC3.out); rintro e w' ⟨rfl, ⟨nd, rfl⟩⟩))
   go_meet
   case rel => exact ⟨_, (!t213), (qR6_29), H', ⟨by first | omega | exact Nat.le_refl _⟩, ⟨(qR6_22)⟩, ⟨(qR6_0)⟩⟩
  ·replace c9 := Bool.eq_false_iff.mpr c9
   subst c9
   have H1 : (spec_RescueOrder.j0 k l0 l1 a2 l3 y209 true) = some (r1, r2) := by rw [if_neg (show ¬ (false = true) by decide)] at H; exact H
   clear H; have H := H1; clear H1
   have H' := Aside0.mk H
   clear H
   go_wp2_with (first | ((with_reducible refine gate_callee (f := 49) rfl ?_); refine goesL_ (some 18) rfl rfl Try.func49 (by kernel_rfl) rfl #[.slice A0 l0.length c0, .slice A1 l1.length c1, .int .i64 a2, .int .i64 0] rfl (qR6_19) ?_; (with_reducible refine (spec_l15Asked.calls k _ _ l0 _ _ l1 a2 0 false _ ?side1 ?side2 ?side3 ?side4 A8.out).mono ?_); (case side1 => exact (qR6_10)); (case side2 => exact HC0.out); (case side3 => exact (qR6_11)); (case side4 => exact HC1.out); rintro e w12 ⟨rfl, hb⟩; refine ⟨_, rfl, ?_⟩; have n0_ := Aside0.mk (Kd.R_below (qR6_22) hb); have n1_ := Aside0.mk (below_step (qR6_0) hb); clear HO211 HB; have HO211 := n0_; have HB := n1_; clear n0_ n1_; (try clear hb); (try clear hb2); (try clear hk); (try clear hi)))
   go_meet
   case rel => exact ⟨_, (true), (qR6_29), H', ⟨by first | omega | exact Nat.le_refl _⟩, ⟨(qR6_22)⟩, ⟨(qR6_0)⟩⟩
 case rest =>
  clear HC5
  try clear c1
  try clear p2
  try clear c3
  try clear c4
  try clear c9
  obtain ⟨kq, x24_4, rfl, HA, HJ4, HO_10, HB⟩ := hcut
  cases kq with
  | zero => exact absurd HA.out (by simp [spec_RescueOrder.j0])
  | succ kj4 =>
   have H := HA.out
   clear HA
   simp only [spec_RescueOrder.j0] at H
   by_cases c13 : x24_4 = true
   ·subst c13
    have H1 : (some (y209, false)) = some (r1, r2) := by rw [if_pos rfl] at H; exact H
    clear H; have H := H1; clear H1
    simp only [Option.some.injEq, Prod.mk.injEq] at H
    obtain ⟨rfl, rfl⟩ := H
    go_wp2
    go_ret2
    exact ⟨_, (qR6_39), (qR6_1), (qR6_0)⟩
   ·replace c13 := Bool.eq_false_iff.mpr c13
    subst c13
    have H1 : (spec_RescueOrder.l0 kj4 l0 l1 a2 l3 y209 0) = some (r1, r2) := by rw [if_neg (show ¬ (false = true) by decide)] at H; exact H
    clear H; have H := H1; clear H1
    have H' := Aside0.mk H
    clear H
    go_wp2
    go_loopg [10, 11] kj4 (fun kq v10 v11 w' => ∃ (x10_2 : List Int) (x11_2 : Int), v11 = .int .i64 x11_2 ∧ Aside0 (spec_RescueOrder.l0 kq l0 l1 a2 l3 x10_2 x11_2 = some (r1, r2)) ∧ Aside0 (kq ≤ kj4) ∧ Aside0 (Kd.R (Kd.int .i64) 3 w' w.heap.size (fun _ => True) v10 x10_2) ∧ Aside0 (Below w.heap.size w w'))
    case atStart => exact ⟨(y209), (0), (qR6_29), H', ⟨Nat.le_refl _⟩, ⟨(qR6_1)⟩, ⟨(qR6_0)⟩⟩
    case round =>
     clear H'
     try clear c1
     try clear p2
     try clear c3
     try clear c4
     try clear c9
     try clear c13
     try clear p2
     obtain ⟨x10_2, x11_2, rfl, HA, HK2, HO_10, HB⟩ := hrel
     cases gk with
     | zero => exact absurd HA.out (by simp [spec_RescueOrder.l0])
     | succ k2 =>
      have H := HA.out
      clear HA
      simp only [spec_RescueOrder.l0] at H
      by_cases c14 : x11_2 < (l3.length : Int)
      ·rw [if_pos c14] at H
       have c14b0 : decide (x11_2 < (l3.length : Int)) = true := decide_eq_true c14
       clear c14
       by_cases c15 : 0 ≤ x11_2
       ·rw [if_pos c15] at H
        have c15b0 : decide (0 ≤ x11_2) = true := decide_eq_true c15
        clear c15; replace H := Option.bind_eq_some_iff.mp H; obtain ⟨t215, A160, H⟩ := H
        try dsimp only at H
        have A16 := Aside0.mk A160; clear A160
        by_cases c17 : t215 < 0
        ·rw [if_pos c17] at H
         have c17b0 : decide (t215 < 0) = true := decide_eq_true c17
         clear c17
         have H' := Aside0.mk H
         clear H
         have p214 : 0 ≤ (x11_2 : Int) := of_decide_eq_true (qR6_6)
         have q214 : x11_2 < (l3.length : Int) := of_decide_eq_true (qR6_6)
         obtain ⟨ad214, e214, hx214_0⟩ := Kd.at_int HR3.out x11_2 p214 q214
         cases e214
         replace hx214_0 := (HB.out.cell (World.block_lt_of_cell? w _ hx214_0)).trans hx214_0
         replace p214 := eq_true p214
         replace q214 := eq_true q214
         go_wp2_with (first | ((with_reducible refine gate_callee (f := 57) rfl ?_); refine goesL_ (some 39) rfl rfl Try.func57 (by kernel_rfl) rfl #[.slice A0 l0.length c0, .slice A1 l1.length c1, .int .i64 a2, .int .i64 (rd l3 x11_2)] rfl (qR6_19) ?_; (with_reducible refine (spec_l15Greatest.calls k2 _ _ l0 _ _ l1 a2 (rd l3 x11_2) t215 _ ?side1 ?side2 ?side3 ?side4 A16.out).mono ?_); (case side1 => exact (qR6_10)); (case side2 => exact HC0.out); (case side3 => exact (qR6_11)); (case side4 => exact HC1.out); rintro e w18 ⟨rfl, hb⟩; refine ⟨_, rfl, ?_⟩; have n0_ := Aside0.mk (Kd.R_below (qR6_1) hb); have n1_ := Aside0.mk (below_step (qR6_0) hb); clear HO_10 HB; have HO_10 := n0_; have HB := n1_; clear n0_ n1_; (try clear hb); (try clear hb2); (try clear hk); (try clear hi)))
         go_roundg k2
         case measure => have := HJ4.out; have := HK2.out; omega
         case rel => exact ⟨(x10_2), (wrap64 (x11_2 + 1)), (qR6_29), H', ⟨by have := HJ4.out; have := HK2.out; omega⟩, ⟨(qR6_1)⟩, ⟨(qR6_0)⟩⟩
        ·rw [if_neg c17] at H
         have c17b0 : decide (t215 < 0) = false := decide_eq_false c17
         clear c17
         have H' := Aside0.mk H
         clear H
         have p214 : 0 ≤ (x11_2 : Int) := of_decide_eq_true (qR6_6)
         have q214 : x11_2 < (l3.length : Int) := of_decide_eq_true (qR6_6)
         obtain ⟨ad214, e214, hx214_0⟩ := Kd.at_int HR3.out x11_2 p214 q214
         cases e214
         replace hx214_0 := (HB.out.cell (World.block_lt_of_cell? w _ hx214_0)).trans hx214_0
         replace p214 := eq_true p214
         replace q214 := eq_true q214
         go_wp2_with (first | ((with_reducible refine gate_callee (f := 57) rfl ?_); refine goesL_ (some 39) rfl rfl Try.func57 (by kernel_rfl) rfl #[.slice A0 l0.length c0, .slice A1 l1.length c1, .int .i64 a2, .int .i64 (rd l3 x11_2)] rfl (qR6_19) ?_; (with_reducible refine (spec_l15Greatest.calls k2 _ _ l0 _ _ l1 a2 (rd l3 x11_2) t215 _ ?side1 ?side2 ?side3 ?side4 A16.out).mono ?_); (case side1 => exact (qR6_10)); (case side2 => exact HC0.out); (case side3 => exact (qR6_11)); (case side4 => exact HC1.out); rintro e w19 ⟨rfl, hb⟩; refine ⟨_, rfl, ?_⟩; have n0_ := Aside0.mk (Kd.R_below (qR6_1) hb); have n1_ := Aside0.mk (below_step (qR6_0) hb); clear HO_10 HB; have HO_10 := n0_; have HB := n1_; clear n0_ n1_; (try clear hb); (try clear hb2); (try clear hk); (try clear hi); obtain ⟨Ao20, co20, eo20⟩ := Kd.R_slice HO_10.out; subst eo20))
         go_loopg [13] k2 (fun kq v13 w' => ∃ (x13_3 : Int), v13 = .int .i64 x13_3 ∧ Aside0 (spec_RescueOrder.l1 kq l0 l1 a2 l3 x10_2 x11_2 t215 x13_3 = some (r1, r2)) ∧ Aside0 (kq ≤ k2) ∧ Aside0 (Kd.R (Kd.int .i64) 3 w' w.heap.size (fun _ => True) (.slice Ao20 x10_2.length co20) x10_2) ∧ Aside0 (Below w.heap.size w w'))
         case atStart => exact ⟨((x10_2.length : Int)), (qR6_29), H', ⟨Nat.le_refl _⟩, ⟨(qR6_1)⟩, ⟨(qR6_0)⟩⟩
         case round =>
          clear H'
          try clear c1
          try clear p2
          try clear q2
          try clear hx2
          try clear c3
          try clear c4
          try clear c5
          try clear p6
          try clear c9
          try clear c13
          try clear c14
          try clear c14b0
          try clear c15
          try clear c15b0
          try clear c17
          try clear c17b0
          try clear hx214_0
          try clear p2
          try clear p214
          try clear q214
          obtain ⟨x13_3, rfl, HA, HK3, HO_10, HB⟩ := hrel
          cases gk with
          | zero => exact absurd HA.out (by simp [spec_RescueOrder.l1])
          | succ k3 =>
           have H := HA.out
           clear HA
           simp only [spec_RescueOrder.l1] at H
           by_cases c21 : x13_3 > 0
           ·rw [if_pos c21] at H
            have c21b0 : decide (0 < x13_3) = true := decide_eq_true c21
            clear c21
            obtain ⟨ji22, hji22⟩ : ∃ j_ : Int, (wrap64 (x13_3 - 1)) = j_ := ⟨_, rfl⟩
            replace H : (if 0 ≤ (ji22) then (if (ji22) < (x10_2.length : Int) then ((spec_l15Greatest.f k3 l0 l1 a2 (rd x10_2 (ji22))).bind fun t217 => (if t217 < t215 then (spec_RescueOrder.l1 k3 l0 l1 a2 l3 x10_2 x11_2 t215 ji22) else ((some (([] : List Int) : List Int)).bind fun y218 => (if 0 ≤ x13_3 then (if x13_3 ≤ (x10_2.length : Int) then ((some (x10_2.take (x13_3 : Int).toNat : List Int)).bind fun y221 => (if y218.length + y221.length < 17592186044416 then ((some (y218 ++ y221 : List Int)).bind fun y225 => (if 0 ≤ x11_2 then (if x11_2 < (l3.length : Int) then ((some (([rd l3 x11_2] : List Int) : List Int)).bind fun y229 => (if y225.length + y229.length < 17592186044416 then ((some (y225 ++ y229 : List Int)).bind fun y232 => ((some (x10_2.drop (x13_3 : Int).toNat : List Int)).bind fun y235 => (if y232.length + y235.length < 17592186044416 then (spec_RescueOrder.l0 k3 l0 l1 a2 l3 (y232 ++ y235) (wrap64 (x11_2 + 1))) else (none)))) else (none))) else (none)) else (none))) else (none))) else (none)) else (none))))) else (none)) else (none)) = some (r1, r2) := by first | (rw [hji22] at H; exact H) | (simp only [hji22] at H ⊢; exact H)
            have hji22w : (IntKind.i64.wrap (x13_3 - 1)) = ji22 := (i64_w _).trans hji22
            by_cases c23 : 0 ≤ (ji22)
            ·rw [if_pos c23] at H
             have c23b0 : decide (0 ≤ (ji22)) = true := decide_eq_true c23
             clear c23
             by_cases c24 : (ji22) < (x10_2.length : Int)
             ·rw [if_pos c24] at H
              have c24b0 : decide ((ji22) < (x10_2.length : Int)) = true := decide_eq_true c24
              clear c24; replace H := Option.bind_eq_some_iff.mp H; obtain ⟨t217, A250, H⟩ := H
              try dsimp only at H
              have A25 := Aside0.mk A250; clear A250
              by_cases c26 : t217 < t215
              ·rw [if_pos c26] at H
               have c26b0 : decide (t217 < t215) = true := decide_eq_true c26
               clear c26
               have H' := Aside0.mk H
               clear H
               have p216 : 0 ≤ ((ji22) : Int) := of_decide_eq_true (qR6_6)
               have q216 : (ji22) < (x10_2.length : Int) := of_decide_eq_true (qR6_6)
               obtain ⟨ad216, e216, hx216_0⟩ := Kd.at_int (Kd.R_reads' HO_10.out).2.2 (ji22) p216 q216
               cases e216
               replace p216 := eq_true p216
               replace q216 := eq_true q216
               go_wp2_with (first | (go_at_call 57; (with_reducible refine (spec_l15Greatest.calls k3 _ _ l0 _ _ l1 a2 (rd x10_2 (ji22)) t217 _ ?side1 ?side2 ?side3 ?side4 A25.out).mono ?_); (case side1 => exact (qR6_10)); (case side2 => exact HC0.out); (case side3 => exact (qR6_11)); (case side4 => exact HC1.out); rintro e w27 ⟨rfl, hb⟩; have n0_ := Aside0.mk (Kd.R_below (qR6_1) hb); have n1_ := Aside0.mk (below_step (qR6_0) hb); clear HO_10 HB; have HO_10 := n0_; have HB := n1_; clear n0_ n1_; (try clear hb); (try clear hb2); (try clear hk); (try clear hi)))
               go_roundg k3
               case measure => have := HJ4.out; have := HK2.out; have := HK3.out; omega
               case rel => exact ⟨(ji22), (by first | rfl | (simp; done) | (simp only [← hji22] <;> (first | rfl | simp)) | (simp [*]; done)), H', ⟨by have := HJ4.out; have := HK2.out; have := HK3.out; omega⟩, ⟨(qR6_1)⟩, ⟨(qR6_0)⟩⟩
              ·rw [if_neg c26] at H
               have c26b0 : decide (t217 < t215) = false := decide_eq_false c26
               clear c26
               obtain ⟨y218, hy218⟩ : ∃ y_ : List Int, y_ = (([] : List Int)) := ⟨_, rfl⟩
               replace H : (if 0 ≤ x13_3 then (if x13_3 ≤ (x10_2.length : Int) then ((some (x10_2.take (x13_3 : Int).toNat : List Int)).bind fun y221 => (if y218.length + y221.length < 17592186044416 then ((some (y218 ++ y221 : List Int)).bind fun y225 => (if 0 ≤ x11_2 then (if x11_2 < (l3.length : Int) then ((some (([rd l3 x11_2] : List Int) : List Int)).bind fun y229 => (if y225.length + y229.length < 17592186044416 then ((some (y225 ++ y229 : List Int)).bind fun y232 => ((some (x10_2.drop (x13_3 : Int).toNat : List Int)).bind fun y235 => (if y232.length + y235.length < 17592186044416 then (spec_RescueOrder.l0 k3 l0 l1 a2 l3 (y232 ++ y235) (wrap64 (x11_2 + 1))) else (none)))) else (none))) else (none)) else (none))) else (none))) else (none)) else (none)) = some (r1, r2) := by first | (rw [hy218]; with_reducible exact H) | (have H2_ := (Option.bind_some _ _).symm.trans H; rw [hy218]; with_reducible exact H2_) | (have H2_ := (Option.bind_some _ _).symm.trans H; with_reducible exact H2_) | with_reducible exact H | (rw [hy218]; exact H) | exact H
               have Ny218 := Aside0.mk hy218; clear hy218
               by_cases c28 : 0 ≤ x13_3
               ·rw [if_pos c28] at H
                have c28b0 := eq_true c28
                have c28b1 : decide (0 ≤ x13_3) = true := decide_eq_true c28
                clear c28
                by_cases c29 : x13_3 ≤ (x10_2.length : Int)
                ·rw [if_pos c29] at H
                 have c29b0 := eq_true c29
                 have c29b1 : decide (x13_3 ≤ (x10_2.length : Int)) = true := decide_eq_true c29
                 clear c29
                 obtain ⟨y221, hy221⟩ : ∃ y_ : List Int, y_ = (x10_2.take (x13_3 : Int).toNat) := ⟨_, rfl⟩
                 replace H : (if y218.length + y221.length < 17592186044416 then ((some (y218 ++ y221 : List Int)).bind fun y225 => (if 0 ≤ x11_2 then (if x11_2 < (l3.length : Int) then ((some (([rd l3 x11_2] : List Int) : List Int)).bind fun y229 => (if y225.length + y229.length < 17592186044416 then ((some (y225 ++ y229 : List Int)).bind fun y232 => ((some (x10_2.drop (x13_3 : Int).toNat : List Int)).bind fun y235 => (if y232.length + y235.length < 17592186044416 then (spec_RescueOrder.l0 k3 l0 l1 a2 l3 (y232 ++ y235) (wrap64 (x11_2 + 1))) else (none)))) else (none))) else (none)) else (none))) else (none)) = some (r1, r2) := by first | (rw [hy221]; with_reducible exact H) | (have H2_ := (Option.bind_some _ _).symm.trans H; rw [hy221]; with_reducible exact H2_) | (have H2_ := (Option.bind_some _ _).symm.trans H; with_reducible exact H2_) | with_reducible exact H | (rw [hy221]; exact H) | exact H
                 have Ny221 := Aside0.mk hy221; clear hy221
                 by_cases c30 : y218.length + y221.length < 17592186044416
                 ·rw [if_pos c30] at H; have LMc30 := Aside0.mk c30; clear c30
                  obtain ⟨y225, hy225⟩ : ∃ y_ : List Int, y_ = (y218 ++ y221) := ⟨_, rfl⟩
                  replace H : (if 0 ≤ x11_2 then (if x11_2 < (l3.length : Int) then ((some (([rd l3 x11_2] : List Int) : List Int)).bind fun y229 => (if y225.length + y229.length < 17592186044416 then ((some (y225 ++ y229 : List Int)).bind fun y232 => ((some (x10_2.drop (x13_3 : Int).toNat : List Int)).bind fun y235 => (if y232.length + y235.length < 17592186044416 then (spec_RescueOrder.l0 k3 l0 l1 a2 l3 (y232 ++ y235) (wrap64 (x11_2 + 1))) else (none)))) else (none))) else (none)) else (none)) = some (r1, r2) := by first | (rw [hy225]; with_reducible exact H) | (have H2_ := (Option.bind_some _ _).symm.trans H; rw [hy225]; with_reducible exact H2_) | (have H2_ := (Option.bind_some _ _).symm.trans H; with_reducible exact H2_) | with_reducible exact H | (rw [hy225]; exact H) | exact H
                  have Ny225 := Aside0.mk hy225; clear hy225
                  by_cases c31 : 0 ≤ x11_2
                  ·rw [if_pos c31] at H
                   have c31b0 : decide (0 ≤ x11_2) = true := decide_eq_true c31
                   clear c31
                   by_cases c32 : x11_2 < (l3.length : Int)
                   ·rw [if_pos c32] at H
                    have c32b0 : decide (x11_2 < (l3.length : Int)) = true := decide_eq_true c32
                    clear c32
                    obtain ⟨y229, hy229⟩ : ∃ y_ : List Int, y_ = (([rd l3 x11_2] : List Int)) := ⟨_, rfl⟩
                    replace H : (if y225.length + y229.length < 17592186044416 then ((some (y225 ++ y229 : List Int)).bind fun y232 => ((some (x10_2.drop (x13_3 : Int).toNat : List Int)).bind fun y235 => (if y232.length + y235.length < 17592186044416 then (spec_RescueOrder.l0 k3 l0 l1 a2 l3 (y232 ++ y235) (wrap64 (x11_2 + 1))) else (none)))) else (none)) = some (r1, r2) := by first | (rw [hy229]; with_reducible exact H) | (have H2_ := (Option.bind_some _ _).symm.trans H; rw [hy229]; with_reducible exact H2_) | (have H2_ := (Option.bind_some _ _).symm.trans H; with_reducible exact H2_) | with_reducible exact H | (rw [hy229]; exact H) | exact H
                    have Ny229 := Aside0.mk hy229; clear hy229
                    by_cases c33 : y225.length + y229.length < 17592186044416
                    ·rw [if_pos c33] at H; have LMc33 := Aside0.mk c33; clear c33
                     obtain ⟨y232, hy232⟩ : ∃ y_ : List Int, y_ = (y225 ++ y229) := ⟨_, rfl⟩
                     replace H : ((some (x10_2.drop (x13_3 : Int).toNat : List Int)).bind fun y235 => (if y232.length + y235.length < 17592186044416 then (spec_RescueOrder.l0 k3 l0 l1 a2 l3 (y232 ++ y235) (wrap64 (x11_2 + 1))) else (none))) = some (r1, r2) := by first | (rw [hy232]; with_reducible exact H) | (have H2_ := (Option.bind_some _ _).symm.trans H; rw [hy232]; with_reducible exact H2_) | (have H2_ := (Option.bind_some _ _).symm.trans H; with_reducible exact H2_) | with_reducible exact H | (rw [hy232]; exact H) | exact H
                     have Ny232 := Aside0.mk hy232; clear hy232
                     have c34b0 := eq_true (of_decide_eq_true (qR6_6) : 0 ≤ x13_3)
                     have c35b0 := eq_true (of_decide_eq_true (qR6_6) : x13_3 ≤ (x10_2.length : Int))
                     obtain ⟨y235, hy235⟩ : ∃ y_ : List Int, y_ = (x10_2.drop (x13_3 : Int).toNat) := ⟨_, rfl⟩
                     replace H : (if y232.length + y235.length < 17592186044416 then (spec_RescueOrder.l0 k3 l0 l1 a2 l3 (y232 ++ y235) (wrap64 (x11_2 + 1))) else (none)) = some (r1, r2) := by first | (rw [hy235]; with_reducible exact H) | (have H2_ := (Option.bind_some _ _).symm.trans H; rw [hy235]; with_reducible exact H2_) | (have H2_ := (Option.bind_some _ _).symm.trans H; with_reducible exact H2_) | with_reducible exact H | (rw [hy235]; exact H) | exact H
                     have Ny235 := Aside0.mk hy235; clear hy235
                     by_cases c36 : y232.length + y235.length < 17592186044416
                     ·rw [if_pos c36] at H; have LMc36 := Aside0.mk c36; clear c36
                      obtain ⟨y239, hy239⟩ : ∃ y_ : List Int, y_ = (y232 ++ y235) := ⟨_, rfl⟩
                      replace H : (spec_RescueOrder.l0 k3 l0 l1 a2 l3 y239 (wrap64 (x11_2 + 1))) = some (r1, r2) := by first | (rw [hy239]; with_reducible exact H) | (have H2_ := (Option.bind_some _ _).symm.trans H; rw [hy239]; with_reducible exact H2_) | (have H2_ := (Option.bind_some _ _).symm.trans H; with_reducible exact H2_) | with_reducible exact H | (rw [hy239]; exact H) | exact H
                      have Ny239 := Aside0.mk hy239; clear hy239
                      have H' := Aside0.mk H
                      clear H
                      have p216 : 0 ≤ ((ji22) : Int) := of_decide_eq_true (qR6_6)
                      have q216 : (ji22) < (x10_2.length : Int) := of_decide_eq_true (qR6_6)
                      obtain ⟨ad216, e216, hx216_0⟩ := Kd.at_int (Kd.R_reads' HO_10.out).2.2 (ji22) p216 q216
                      cases e216
                      replace p216 := eq_true p216
                      replace q216 := eq_true q216
                      try go_wp2_with (first | (go_at_call 57; (with_reducible refine (spec_l15Greatest.calls k3 _ _ l0 _ _ l1 a2 (rd x10_2 (ji22)) t217 _ ?side1 ?side2 ?side3 ?side4 A25.out).mono ?_); (case side1 => exact (qR6_10)); (case side2 => exact HC0.out); (case side3 => exact (qR6_11)); (case side4 => exact HC1.out); rintro e w37 ⟨rfl, hb⟩; have n0_ := Aside0.mk (Kd.R_below (qR6_1) hb); have n1_ := Aside0.mk (below_step (qR6_0) hb); clear HO_10 HB; have HO_10 := n0_; have HB := n1_; clear n0_ n1_; (try clear hb); (try clear hb2); (try clear hk); (try clear hi)))
                      have n0_ := Aside0.mk (Kd.R_drew HO_10.out)
                      have n1_ := Aside0.mk (below_drew1 HB.out)
                      clear HO_10; clear HB
                      have HO_10 := n0_
                      have HB := n1_
                      clear n0_ n1_
                      have q39 : (x13_3 : Int) ≤ ((x10_2.length : Int) : Int) := of_decide_eq_true (qR6_6)
                      obtain ⟨i039, hi039, _, hsz39, _⟩ := info_parts info3
                      have hroom39 : x10_2.length ≤ co20 := (Kd.R_reads' HO_10.out).2.1
                      have hC39 : Kd.C (Kd.int .i64) _ (some ad216) x10_2.length x10_2 := (Kd.R_reads' HO_10.out).2.2
                      have hcut39 := cut_to (P := Try.prog) 25 3 .i64 Try.underlying25 hi039 (some ad216) x10_2.length co20 x13_3 (of_decide_eq_true (qR6_6)) q39 hroom39
                      have hr39 := Kd.C_take (m := (x13_3 : Int).toNat) hC39 (by omega)
                      have hy39 : y221.length = (x13_3 : Int).toNat := (by rw [Ny221.out, List.length_take]; omega)
                      rw [← Ny221.out] at hr39
                      rw [← hy39] at hcut39
                      have HR224 := Aside0.mk hr39
                      have HC224 := Aside0.mk (show y221.length ≤ co20 from by omega)
                      clear hr39 hC39 hroom39 hi039 hsz39; have KY39 := Aside0.mk hy39; clear hy39
                      have KL39 := Aside0.mk (show (x13_3 : Int).toNat ≤ x10_2.length from by omega)
                      replace q39 := eq_true q39
                      have p228 : 0 ≤ (x11_2 : Int) := of_decide_eq_true (qR6_6)
                      have q228 : x11_2 < (l3.length : Int) := of_decide_eq_true (qR6_6)
                      obtain ⟨ad228, e228, hx228_0⟩ := Kd.at_int HR3.out x11_2 p228 q228
                      have hw228_0 := hx228_0
                      obtain rfl : ad214 = ad228 := (by injection e228)
                      replace hx228_0 := (HB.out.cell (World.block_lt_of_cell? w _ hx228_0)).trans hx228_0
                      replace p228 := eq_true p228
                      replace q228 := eq_true q228
                      have q40 : (x13_3 : Int) ≤ ((x10_2.length : Int) : Int) := of_decide_eq_true (qR6_6)
                      obtain ⟨i040, hi040, _, hsz40, _⟩ := info_parts info3
                      have hroom40 : x10_2.length ≤ co20 := (Kd.R_reads' HO_10.out).2.1
                      have hC40 : Kd.C (Kd.int .i64) _ (some ad216) x10_2.length x10_2 := (Kd.R_reads' HO_10.out).2.2
                      have q040 : (0 : Int) ≤ (x13_3 : Int) := of_decide_eq_true (qR6_6)
                      have hcut40 := cut_from (P := Try.prog) 25 3 .i64 Try.underlying25 hi040 1 hsz40 (some ad216) x10_2.length co20 x13_3 q040 q40
                      have hr40 := Kd.C_drop (m := (x13_3 : Int).toNat) (c := co20) hC40 (by omega) hroom40
                      obtain ⟨A40, hA40⟩ : ∃ A1, A1 = (if co20 = (x13_3 : Int).toNat then (some ad216) else ((some ad216) : Option Addr).map (·.add ((x13_3 : Int).toNat * 1))) := ⟨_, rfl⟩
                      obtain ⟨c40, hc40⟩ : ∃ c1, c1 = co20 - (x13_3 : Int).toNat := ⟨_, rfl⟩
                      have hy40 : y235.length = x10_2.length - (x13_3 : Int).toNat := (by rw [Ny235.out, List.length_drop] <;> omega)
                      rw [show (x10_2).drop (x13_3 : Int).toNat = y235 from Ny235.out.symm] at hr40
                      replace hr40 : Kd.C (Kd.int .i64) _ A40 y235.length y235 := (by rw [hA40]; exact hr40)
                      rw [← hy40, ← hA40, ← hc40] at hcut40
                      have HR238 := Aside0.mk hr40
                      have HC238 := Aside0.mk (show y235.length ≤ c40 from by rw [hy40, hc40]; exact Nat.sub_le_sub_right hroom40 _)
                      clear hr40 hC40 hroom40 hi040 hsz40 hc40; have KY40 := Aside0.mk hy40; have KA40 := Aside0.mk hA40; clear hy40 hA40
                      have KL40 := Aside0.mk (show (x13_3 : Int).toNat ≤ x10_2.length from by omega)
                      replace q40 := eq_true q40
                      refine start_ (n := 16) (S := fun w' => w'.cell? (ad214.add (x11_2).toNat) = some (.int .i64 (rd l3 x11_2))) (ds := []) qR6_b0 (by kernel_rfl) rfl rfl (((HB.out.cell (World.block_lt_of_cell? w _ hw228_0)).trans hw228_0)) (fun hHeld => ?_); refine with_tabW spec_RescueOrder.tab12 spec_RescueOrder.bits12 (fun HT_ HW_ => ?_)
                      generalize w37.drew = w38 at HO_10 HB HR224 HR238 hx228_0 hHeld ⊢
                      refine pure_ (i := 1) (N := some 62) (v := ?_) (a' := ?_) qR6_b1 rfl rfl (qR6_12) (fun _ _ _ h => h) (Or.inl ⟨by rfl, ?_⟩) ?_ ?_
                      rotate_left; exact qR6_c3; rotate_left; exact qR6_c0
                      refine pure_ (i := 2) (N := some 63) (v := ?_) (a' := ?_) qR6_b2 rfl rfl (qR6_12) (fun _ _ _ h => h) (Or.inl ⟨by rfl, ?_⟩) ?_ ?_
                      rotate_left; exact qR6_c3; rotate_left; exact qR6_c0
                      refine pure_ (i := 3) (N := some 64) (v := ?_) (a' := ?_) qR6_b3 rfl rfl (qR6_12) (fun _ _ _ h => h) (Or.inl ⟨by rfl, ?_⟩) ?_ ?_
                      rotate_left; exact qR6_c3; rotate_left; exact qR6_c0
                      refine pure_ (i := 5) (N := some 66) (v := ?_) (a' := ?_) qR6_b4 rfl rfl (qR6_12) (fun _ _ _ h => h) (Or.inl ⟨by rfl, ?_⟩) ?_ ?_
                      rotate_left; exact qR6_c3; rotate_left; exact qR6_c0
                      refine pure_ (i := 6) (N := some 67) (v := ?_) (a' := ?_) qR6_b5 rfl rfl (qR6_12) (fun _ _ _ h => h) (Or.inl ⟨by rfl, ?_⟩) ?_ ?_
                      rotate_left; exact qR6_c3; rotate_left; exact qR6_c0
                      refine pure_ (i := 7) (N := some 68) (v := ?_) (a' := ?_) qR6_b6 rfl rfl (qR6_12) (fun _ _ _ h => h) (Or.inl ⟨by rfl, ?_⟩) ?_ ?_
                      rotate_left; exact qR6_c3; rotate_left; exact qR6_c0
                      refine pure_ (i := 11) (N := some 72) (v := ?_) (a' := ?_) qR6_b7 rfl rfl (qR6_12) (fun _ _ _ h => h) (Or.inl ⟨by rfl, ?_⟩) ?_ ?_
                      rotate_left; exact qR6_c3; rotate_left; exact qR6_c0
                      refine pure_ (i := 12) (N := some 73) (v := ?_) (a' := ?_) qR6_b8 rfl rfl (qR6_12) (fun _ _ _ h => h) (Or.inl ⟨by rfl, ?_⟩) ?_ ?_
                      rotate_left; exact qR6_c3; rotate_left; exact qR6_c0
                      refine pure_ (i := 13) (N := some 74) (v := ?_) (a' := ?_) qR6_b9 rfl rfl (qR6_12) (fun _ _ _ h => h) (Or.inl ⟨by rfl, ?_⟩) ?_ ?_
                      rotate_left; exact qR6_c3; rotate_left; exact qR6_c0
                      refine take_ (i := 8) (N := some 69) (v := ?_) (a' := ?_) qR6_b10 rfl rfl (take_ofW HT_.out HW_.out (by kernel_rfl)) (fun _ _ _ h => h) (Or.inl ⟨by rfl, ?_⟩) hHeld ?_ ?_
                      rotate_left
                      ·intro w' s0
                       go_simp
                       with_reducible rfl
                      rotate_left
                      ·exact qR6_c0
                      refine join_ (σ := Value × Value × Value) 3 qR6_b11 (fun s_ => [(61, s_.1), (65, s_.2.1), (70, s_.2.2)]) (fun s_ w' => (w'.cell? (ad214.add (x11_2).toNat) = some (.int .i64 (rd l3 x11_2))) ∧ (Kd.R (Kd.int .i64) 3 w' w.heap.size (fun k_ => some k_ ≠ (s_.2.2 : Value).ownBlock ∧ some k_ ≠ (.slice (some ad216) x10_2.length co20 : Value).ownBlock) s_.2.1 y225) ∧ (Kd.R (Kd.int .i64) 3 w' w.heap.size (fun k_ => some k_ ≠ (s_.2.1 : Value).ownBlock ∧ some k_ ≠ (.slice (some ad216) x10_2.length co20 : Value).ownBlock) s_.2.2 y229) ∧ (Kd.R (Kd.int .i64) 3 w' w.heap.size (fun k_ => some k_ ≠ (s_.2.1 : Value).ownBlock ∧ some k_ ≠ (s_.2.2 : Value).ownBlock) (.slice (some ad216) x10_2.length co20) x10_2) ∧ (Below w.heap.size w w')) ?_ ?_
                      rotate_left
                      ·intro hCont
                       refine two_ (i := 0) (j := 9) (Ni := some 61) (Nj := some 70) qR6_b12 qR6_b13 rfl rfl rfl rfl (two_of HT_.out (by kernel_rfl)) (by decide) (by decide) (fun K hK => ?_) (fun K hK => ?_)
                       ·skip
                        refine Kd.R_lit_step (Kd.int .i64) _ 3 ?hg (N := 61) ?hd (xs := ([] : List Int)) (inner := []) (ok := fun _ => True) (okp := fun _ => True) ?hr ?hp (fun _ hk => hk) trivial (Below.refl _ _) (Nat.le_refl _) (by simp) ?_; (case hd => rfl); (case hg => rfl); (case hr => exact (qR6_20)); (case hp => exact (Reps.none _ _))
                        intro v219 w41 ho42 hb hg_ hnew_
                        clear hg_ hnew_
                        (first | rw [← Ny218.out] at ho42 | (simp only [Int.reduceToNat] at ho42; rw [← Ny218.out] at ho42))
                        have n0_ := Aside0.mk (Kd.R_elder' (qR6_1) (Kd.R_base ho42) hb)
                        have n1_ := Aside0.mk (Kd.R_lower (Kd.R_new' ho42 (Kd.R_lt (qR6_1))) (below_size (qR6_0)))
                        have n2_ := Aside0.mk (Kd.C_below (qR6_3) hb)
                        have n3_ := Aside0.mk (Kd.C_below (qR6_8) hb)
                        have n4_ := Aside0.mk (below_step (qR6_0) hb)
                        clear HO_10; clear HR224; clear HR238; clear HB
                        have HO_10 := n0_
                        have HO220 := n1_
                        have HR224 := n2_
                        have HR238 := n3_
                        have HB := n4_
                        clear n0_ n1_ n2_ n3_ n4_; clear hb ho42
                        refine hK.out _ _ (((HB.out.cell (World.block_lt_of_cell? w _ hw228_0)).trans hw228_0)) (fun hHeld => ?_)
                        clear hK K
                        refine norm_ (a' := ?_) ?_ ?_
                        rotate_left
                        ·exact qR6_c4
                        refine two_ (i := 4) (j := 9) (Ni := some 65) (Nj := some 70) qR6_b14 qR6_b15 rfl rfl rfl rfl (two_of HT_.out (by kernel_rfl)) (by decide) (by decide) (fun K hK => ?_) (fun K hK => ?_)
                        ·skip
                         refine Kd.R_append_rows_step (Kd.int .i64) (w0 := w) w.heap.size (by rfl) (.tmp 61) (.tmp 64) 25 3 (.int .i64 0) 8 rfl Try.underlying25 info3 rfl (by decide) (by omega) v219 y218 y221 _ _ _ (fun k_ => some k_ ≠ (.slice (some ad216) x10_2.length co20 : Value).ownBlock) (fun _ => False) rfl rfl ?aO ?aR (fun _ _ h => h) (fun _ h => h.elim) ?aF ?aB ?aS ?aL ?_
                         (case aR => exact (qR6_23))
                         (case aB => exact (qR6_0))
                         (case aF => exact (by exact (fun k_ hk => Kd.fresh' (Kd.R_lt (qR6_1)) k_ hk)))
                         (case aO => exact (by (with_reducible repeat (first | apply Kd.R_alloc | apply Kd.R_drewN | apply Kd.R_drew)); exact Kd.R_mono HO220.out (fun _ hk => hk.2)))
                         (case aS => exact (qR6_30))
                         (case aL => have := LMc30.out; omega)
                         intro v226 w43 ho hb hg hat
                         rw [← Ny225.out] at ho
                         have n0_ := Aside0.mk (Kd.R_after (ok := (fun _ => True)) (qR6_1) hg hat)
                         have n1_ := Aside0.mk (hb)
                         have n2_ := Aside0.mk ((show Kd.C (Kd.int .i64) w43 (some ad216) y221.length y221 from by rw [Ny221.out]; exact Kd.C_take (m := (x13_3 : Int).toNat) ((Kd.R_reads' (Kd.R_after (ok := (fun _ => True)) (qR6_1) hg hat)).2.2) KL39.out))
                         have n3_ := Aside0.mk ((show Kd.C (Kd.int .i64) w43 A40 y235.length y235 from by rw [Ny235.out, KA40.out]; exact Kd.C_drop (m := (x13_3 : Int).toNat) (c := co20) ((Kd.R_reads' (Kd.R_after (ok := (fun _ => True)) (qR6_1) hg hat)).2.2) KL40.out ((Kd.R_reads' (Kd.R_after (ok := (fun _ => True)) (qR6_1) hg hat)).2.1)))
                         have n4_ := Aside0.mk (ho); clear HO_10; clear HB; clear HR224; clear HR238; clear HO220
                         have HO_10 := n0_
                         have HB := n1_
                         have HR224 := n2_
                         have HR238 := n3_
                         have HO227 := n4_
                         clear n0_ n1_ n2_ n3_ n4_; clear ho hb hg hat
                         refine hK.out _ _ (((HB.out.cell (World.block_lt_of_cell? w _ hw228_0)).trans hw228_0)) (fun hHeld => ?_)
                         clear hK K
                         refine norm_ (a' := ?_) ?_ ?_
                         rotate_left
                         ·exact qR6_c1
                         refine one_ (i := 9) (N := some 70) qR6_b11 rfl rfl (qR6_21) (by decide) (fun K hK => ?_)
                         refine Kd.R_lit_step (Kd.int .i64) _ 3 ?hg (N := 70) ?hd (xs := ([rd l3 x11_2] : List Int)) (inner := [.int .i64 (rd l3 x11_2)]) (ok := fun _ => True) (okp := fun _ => True) ?hr ?hp (fun _ hk => hk) trivial (Below.refl _ _) (Nat.le_refl _) (by simp) ?_; (case hd => rfl); (case hg => rfl); (case hr => exact (qR6_20)); (case hp => exact (qR6_15))
                         intro v230 w44 ho45 hb hg_ hnew_
                         clear hg_ hnew_
                         (first | rw [← Ny229.out] at ho45 | (simp only [Int.reduceToNat] at ho45; rw [← Ny229.out] at ho45))
                         have n0_ := Aside0.mk (Kd.R_elder' (qR6_1) (Kd.R_base ho45) hb)
                         have n1_ := Aside0.mk (Kd.R_elder' (qR6_35) (Kd.R_base ho45) hb)
                         have n2_ := Aside0.mk (Kd.R_lower (Kd.R_new' (Kd.R_new' ho45 (Kd.R_lt (qR6_1))) (Kd.R_lt (qR6_35))) (below_size (qR6_0)))
                         have n3_ := Aside0.mk (Kd.C_below (qR6_3) hb)
                         have n4_ := Aside0.mk (Kd.C_below (qR6_8) hb)
                         have n5_ := Aside0.mk (below_step (qR6_0) hb)
                         clear HO_10; clear HO227; clear HR224; clear HR238; clear HB
                         have HO_10 := n0_
                         have HO227 := n1_
                         have HO231 := n2_
                         have HR224 := n3_
                         have HR238 := n4_
                         have HB := n5_
                         clear n0_ n1_ n2_ n3_ n4_ n5_; clear hb ho45
                         refine hK.out _ _ (((HB.out.cell (World.block_lt_of_cell? w _ hw228_0)).trans hw228_0)) (fun hHeld => ?_)
                         clear hK K
                         refine norm_ (a' := ?_) ?_ ?_
                         rotate_left
                         ·exact qR6_c2
                         exact norm_ (qR6_16) (hCont (v219, v226, v230) _ ⟨hHeld, (qR6_17), (by (with_reducible repeat (first | apply Kd.R_alloc | apply Kd.R_drewN | apply Kd.R_drew)); exact Kd.R_mono HO231.out (fun _ hk => ⟨hk.2, hk.1.2⟩)), (qR6_5), (qR6_0)⟩)
                        ·skip
                         refine Kd.R_lit_step (Kd.int .i64) _ 3 ?hg (N := 70) ?hd (xs := ([rd l3 x11_2] : List Int)) (inner := [.int .i64 (rd l3 x11_2)]) (ok := fun _ => True) (okp := fun _ => True) ?hr ?hp (fun _ hk => hk) trivial (Below.refl _ _) (Nat.le_refl _) (by simp) ?_; (case hd => rfl); (case hg => rfl); (case hr => exact (qR6_20)); (case hp => exact (qR6_15))
                         intro v230 w43 ho44 hb hg_ hnew_
                         clear hg_ hnew_
                         (first | rw [← Ny229.out] at ho44 | (simp only [Int.reduceToNat] at ho44; rw [← Ny229.out] at ho44))
                         have n0_ := Aside0.mk (Kd.R_elder' (qR6_1) (Kd.R_base ho44) hb)
                         have n1_ := Aside0.mk (Kd.R_elder' (qR6_36) (Kd.R_base ho44) hb)
                         have n2_ := Aside0.mk (Kd.R_lower (Kd.R_new' (Kd.R_new' ho44 (Kd.R_lt (qR6_1))) (Kd.R_lt (qR6_36))) (below_size (qR6_0)))
                         have n3_ := Aside0.mk (Kd.C_below (qR6_3) hb)
                         have n4_ := Aside0.mk (Kd.C_below (qR6_8) hb)
                         have n5_ := Aside0.mk (below_step (qR6_0) hb)
                         clear HO_10; clear HO220; clear HR224; clear HR238; clear HB
                         have HO_10 := n0_
                         have HO220 := n1_
                         have HO231 := n2_
                         have HR224 := n3_
                         have HR238 := n4_
                         have HB := n5_
                         clear n0_ n1_ n2_ n3_ n4_ n5_; clear hb ho44
                         refine hK.out _ _ (((HB.out.cell (World.block_lt_of_cell? w _ hw228_0)).trans hw228_0)) (fun hHeld => ?_)
                         clear hK K
                         refine norm_ (a' := ?_) ?_ ?_
                         rotate_left
                         ·exact qR6_c2
                         refine one_ (i := 4) (N := some 65) qR6_b11 rfl rfl (qR6_21) (by decide) (fun K hK => ?_)
                         refine Kd.R_append_rows_step (Kd.int .i64) (w0 := w) w.heap.size (by rfl) (.tmp 61) (.tmp 64) 25 3 (.int .i64 0) 8 rfl Try.underlying25 info3 rfl (by decide) (by omega) v219 y218 y221 _ _ _ (fun k_ => some k_ ≠ (.slice (some ad216) x10_2.length co20 : Value).ownBlock ∧ some k_ ≠ (v230 : Value).ownBlock) (fun _ => False) rfl rfl ?aO ?aR (fun _ _ h => h) (fun _ h => h.elim) ?aF ?aB ?aS ?aL ?_
                         (case aR => exact (qR6_23))
                         (case aB => exact (qR6_0))
                         (case aF => exact (qR6_27))
                         (case aO => exact (qR6_31))
                         (case aS => exact (qR6_30))
                         (case aL => have := LMc30.out; omega)
                         intro v226 w45 ho hb hg hat
                         rw [← Ny225.out] at ho
                         have n0_ := Aside0.mk (Kd.R_after (ok := (fun k_ => some k_ ≠ (v230 : Value).ownBlock)) (qR6_7) hg hat)
                         have n1_ := Aside0.mk (Kd.R_after (ok := (fun k_ => some k_ ≠ (.slice (some ad216) x10_2.length co20 : Value).ownBlock)) (qR6_32) hg hat)
                         have n2_ := Aside0.mk (hb)
                         have n3_ := Aside0.mk ((show Kd.C (Kd.int .i64) w45 (some ad216) y221.length y221 from by rw [Ny221.out]; exact Kd.C_take (m := (x13_3 : Int).toNat) ((Kd.R_reads' (Kd.R_after (ok := (fun k_ => some k_ ≠ (v230 : Value).ownBlock)) (qR6_7) hg hat)).2.2) KL39.out))
                         have n4_ := Aside0.mk ((show Kd.C (Kd.int .i64) w45 A40 y235.length y235 from by rw [Ny235.out, KA40.out]; exact Kd.C_drop (m := (x13_3 : Int).toNat) (c := co20) ((Kd.R_reads' (Kd.R_after (ok := (fun k_ => some k_ ≠ (v230 : Value).ownBlock)) (qR6_7) hg hat)).2.2) KL40.out ((Kd.R_reads' (Kd.R_after (ok := (fun k_ => some k_ ≠ (v230 : Value).ownBlock)) (qR6_7) hg hat)).2.1)))
                         have n5_ := Aside0.mk (ho); clear HO_10; clear HO231; clear HB; clear HR224; clear HR238; clear HO220
                         have HO_10 := n0_
                         have HO231 := n1_
                         have HB := n2_
                         have HR224 := n3_
                         have HR238 := n4_
                         have HO227 := n5_
                         clear n0_ n1_ n2_ n3_ n4_ n5_; clear ho hb hg hat
                         refine hK.out _ _ (((HB.out.cell (World.block_lt_of_cell? w _ hw228_0)).trans hw228_0)) (fun hHeld => ?_)
                         clear hK K
                         refine norm_ (a' := ?_) ?_ ?_
                         rotate_left
                         ·exact qR6_c1
                         exact norm_ (qR6_16) (hCont (v219, v226, v230) _ ⟨hHeld, (qR6_17), (qR6_25), (qR6_2), (qR6_0)⟩)
                       ·skip
                        refine Kd.R_lit_step (Kd.int .i64) _ 3 ?hg (N := 70) ?hd (xs := ([rd l3 x11_2] : List Int)) (inner := [.int .i64 (rd l3 x11_2)]) (ok := fun _ => True) (okp := fun _ => True) ?hr ?hp (fun _ hk => hk) trivial (Below.refl _ _) (Nat.le_refl _) (by simp) ?_; (case hd => rfl); (case hg => rfl); (case hr => exact (qR6_20)); (case hp => exact (qR6_15))
                        intro v230 w41 ho42 hb hg_ hnew_
                        clear hg_ hnew_
                        (first | rw [← Ny229.out] at ho42 | (simp only [Int.reduceToNat] at ho42; rw [← Ny229.out] at ho42))
                        have n0_ := Aside0.mk (Kd.R_elder' (qR6_1) (Kd.R_base ho42) hb)
                        have n1_ := Aside0.mk (Kd.R_lower (Kd.R_new' ho42 (Kd.R_lt (qR6_1))) (below_size (qR6_0)))
                        have n2_ := Aside0.mk (Kd.C_below (qR6_3) hb)
                        have n3_ := Aside0.mk (Kd.C_below (qR6_8) hb)
                        have n4_ := Aside0.mk (below_step (qR6_0) hb)
                        clear HO_10; clear HR224; clear HR238; clear HB
                        have HO_10 := n0_
                        have HO231 := n1_
                        have HR224 := n2_
                        have HR238 := n3_
                        have HB := n4_
                        clear n0_ n1_ n2_ n3_ n4_; clear hb ho42
                        refine hK.out _ _ (((HB.out.cell (World.block_lt_of_cell? w _ hw228_0)).trans hw228_0)) (fun hHeld => ?_)
                        clear hK K
                        refine norm_ (a' := ?_) ?_ ?_
                        rotate_left
                        ·exact qR6_c2
                        refine one_ (i := 0) (N := some 61) qR6_b15 rfl rfl (qR6_21) (by decide) (fun K hK => ?_)
                        refine Kd.R_lit_step (Kd.int .i64) _ 3 ?hg (N := 61) ?hd (xs := ([] : List Int)) (inner := []) (ok := fun _ => True) (okp := fun _ => True) ?hr ?hp (fun _ hk => hk) trivial (Below.refl _ _) (Nat.le_refl _) (by simp) ?_; (case hd => rfl); (case hg => rfl); (case hr => exact (qR6_20)); (case hp => exact (Reps.none _ _))
                        intro v219 w43 ho44 hb hg_ hnew_
                        clear hg_ hnew_
                        (first | rw [← Ny218.out] at ho44 | (simp only [Int.reduceToNat] at ho44; rw [← Ny218.out] at ho44))
                        have n0_ := Aside0.mk (Kd.R_elder' (qR6_1) (Kd.R_base ho44) hb)
                        have n1_ := Aside0.mk (Kd.R_elder' (qR6_13) (Kd.R_base ho44) hb)
                        have n2_ := Aside0.mk (Kd.R_lower (Kd.R_new' (Kd.R_new' ho44 (Kd.R_lt (qR6_1))) (Kd.R_lt (qR6_13))) (below_size (qR6_0)))
                        have n3_ := Aside0.mk (Kd.C_below (qR6_3) hb)
                        have n4_ := Aside0.mk (Kd.C_below (qR6_8) hb)
                        have n5_ := Aside0.mk (below_step (qR6_0) hb)
                        clear HO_10; clear HO231; clear HR224; clear HR238; clear HB
                        have HO_10 := n0_
                        have HO231 := n1_
                        have HO220 := n2_
                        have HR224 := n3_
                        have HR238 := n4_
                        have HB := n5_
                        clear n0_ n1_ n2_ n3_ n4_ n5_; clear hb ho44
                        refine hK.out _ _ (((HB.out.cell (World.block_lt_of_cell? w _ hw228_0)).trans hw228_0)) (fun hHeld => ?_)
                        clear hK K
                        refine norm_ (a' := ?_) ?_ ?_
                        rotate_left
                        ·exact qR6_c4
                        refine one_ (i := 4) (N := some 65) qR6_b11 rfl rfl (qR6_21) (by decide) (fun K hK => ?_)
                        refine Kd.R_append_rows_step (Kd.int .i64) (w0 := w) w.heap.size (by rfl) (.tmp 61) (.tmp 64) 25 3 (.int .i64 0) 8 rfl Try.underlying25 info3 rfl (by decide) (by omega) v219 y218 y221 _ _ _ (fun k_ => some k_ ≠ (.slice (some ad216) x10_2.length co20 : Value).ownBlock ∧ some k_ ≠ (v230 : Value).ownBlock) (fun _ => False) rfl rfl ?aO ?aR (fun _ _ h => h) (fun _ h => h.elim) ?aF ?aB ?aS ?aL ?_
                        (case aR => exact (qR6_23))
                        (case aB => exact (qR6_0))
                        (case aF => exact (qR6_27))
                        (case aO => exact (qR6_31))
                        (case aS => exact (qR6_30))
                        (case aL => have := LMc30.out; omega)
                        intro v226 w45 ho hb hg hat
                        rw [← Ny225.out] at ho
                        have n0_ := Aside0.mk (Kd.R_after (ok := (fun k_ => some k_ ≠ (v230 : Value).ownBlock)) (qR6_5) hg hat)
                        have n1_ := Aside0.mk (Kd.R_after (ok := (fun k_ => some k_ ≠ (.slice (some ad216) x10_2.length co20 : Value).ownBlock)) (qR6_32) hg hat)
                        have n2_ := Aside0.mk (hb)
                        have n3_ := Aside0.mk ((show Kd.C (Kd.int .i64) w45 (some ad216) y221.length y221 from by rw [Ny221.out]; exact Kd.C_take (m := (x13_3 : Int).toNat) ((Kd.R_reads' (Kd.R_after (ok := (fun k_ => some k_ ≠ (v230 : Value).ownBlock)) (qR6_5) hg hat)).2.2) KL39.out))
                        have n4_ := Aside0.mk ((show Kd.C (Kd.int .i64) w45 A40 y235.length y235 from by rw [Ny235.out, KA40.out]; exact Kd.C_drop (m := (x13_3 : Int).toNat) (c := co20) ((Kd.R_reads' (Kd.R_after (ok := (fun k_ => some k_ ≠ (v230 : Value).ownBlock)) (qR6_5) hg hat)).2.2) KL40.out ((Kd.R_reads' (Kd.R_after (ok := (fun k_ => some k_ ≠ (v230 : Value).ownBlock)) (qR6_5) hg hat)).2.1)))
                        have n5_ := Aside0.mk (ho); clear HO_10; clear HO231; clear HB; clear HR224; clear HR238; clear HO220
                        have HO_10 := n0_
                        have HO231 := n1_
                        have HB := n2_
                        have HR224 := n3_
                        have HR238 := n4_
                        have HO227 := n5_
                        clear n0_ n1_ n2_ n3_ n4_ n5_; clear ho hb hg hat
                        refine hK.out _ _ (((HB.out.cell (World.block_lt_of_cell? w _ hw228_0)).trans hw228_0)) (fun hHeld => ?_)
                        clear hK K
                        refine norm_ (a' := ?_) ?_ ?_
                        rotate_left
                        ·exact qR6_c1
                        exact norm_ (qR6_16) (hCont (v219, v226, v230) _ ⟨hHeld, (qR6_17), (qR6_25), (qR6_2), (qR6_0)⟩)
                      rintro ⟨v219, v226, v230⟩ w46 ⟨hS_, h0_, h1_, h2_, h3_⟩
                      have n0_ : Aside0 (Kd.R (Kd.int .i64) 3 w46 w.heap.size (fun k_ => some k_ ≠ (v230 : Value).ownBlock ∧ some k_ ≠ (.slice (some ad216) x10_2.length co20 : Value).ownBlock) v226 y225) := ⟨h0_⟩
                      have n1_ : Aside0 (Kd.R (Kd.int .i64) 3 w46 w.heap.size (fun k_ => some k_ ≠ (v226 : Value).ownBlock ∧ some k_ ≠ (.slice (some ad216) x10_2.length co20 : Value).ownBlock) v230 y229) := ⟨h1_⟩
                      have n2_ : Aside0 (Kd.R (Kd.int .i64) 3 w46 w.heap.size (fun k_ => some k_ ≠ (v226 : Value).ownBlock ∧ some k_ ≠ (v230 : Value).ownBlock) (.slice (some ad216) x10_2.length co20) x10_2) := ⟨h2_⟩
                      have n3_ : Aside0 (Below w.heap.size w w46) := ⟨h3_⟩
                      clear HO_10; clear HB; clear h0_ h1_ h2_ h3_
                      have HO227 := n0_
                      have HO231 := n1_
                      have HO_10 := n2_
                      have HB := n3_
                      clear n0_ n1_ n2_ n3_
                      have hHeld : w46.cell? (ad214.add (x11_2).toNat) = some (.int .i64 (rd l3 x11_2)) := hS_
                      clear HR224
                      have HR224 := Aside0.mk (show Kd.C (Kd.int .i64) w46 (some ad216) y221.length y221 from by rw [Ny221.out]; exact Kd.C_take (m := (x13_3 : Int).toNat) ((Kd.R_reads' HO_10.out).2.2) KL39.out)
                      clear HR238
                      have HR238 := Aside0.mk (show Kd.C (Kd.int .i64) w46 A40 y235.length y235 from by rw [Ny235.out, KA40.out]; exact Kd.C_drop (m := (x13_3 : Int).toNat) (c := co20) ((Kd.R_reads' HO_10.out).2.2) KL40.out ((Kd.R_reads' HO_10.out).2.1))
                      obtain ⟨Ao48, co48, eo48⟩ := Kd.R_slice HO231.out
                      (first | subst eo48 | (injection eo48 with f1_ f2_ f3_; have f4_ := f1_.symm; have f5_ := f3_.symm; clear f1_ f2_ f3_; subst f4_; subst f5_))
                      refine norm_ (a' := ?_) ?_ ?_
                      rotate_left
                      ·simp only [putAll, Act.put, List.setIfInBounds_toArray, List.set_cons_zero, List.set_cons_succ]
                       rfl
                      refine one_ (i := 10) (N := some 71) qR6_b16 rfl rfl (qR6_21) (by decide) (fun K hK => ?_)
                      refine Kd.R_append_rows_step (Kd.int .i64) (w0 := w) w.heap.size (by rfl) (.tmp 65) (.tmp 70) 25 3 (.int .i64 0) 8 rfl Try.underlying25 info3 rfl (by decide) (by omega) v226 y225 y229 _ _ _ (fun k_ => some k_ ≠ (.slice (some ad216) x10_2.length co20 : Value).ownBlock ∧ some k_ ≠ (.slice Ao48 y229.length co48 : Value).ownBlock) (fun _ => False) rfl rfl ?aO ?aR (fun _ _ h => h) (fun _ h => h.elim) ?aF ?aB ?aS ?aL ?_
                      (case aR => exact (by repeat (first | exact (Kd.R_reads' HO231.out).2.2 | (with_reducible refine Kd.C_alloc ?_ _) | (with_reducible refine Kd.C_drewN ?_ _) | (with_reducible refine Kd.C_drew ?_))))
                      (case aB => exact (qR6_0))
                      (case aF => exact (qR6_27))
                      (case aO => exact (qR6_17))
                      (case aS => exact (qR6_30))
                      (case aL => have := LMc33.out; omega)
                      intro v233 w47 ho hb hg hat
                      rw [← Ny232.out] at ho
                      have n0_ := Aside0.mk (Kd.R_after (ok := (fun k_ => some k_ ≠ (.slice Ao48 y229.length co48 : Value).ownBlock)) (qR6_2) hg hat)
                      have n1_ := Aside0.mk (Kd.R_after (ok := (fun k_ => some k_ ≠ (.slice (some ad216) x10_2.length co20 : Value).ownBlock)) (qR6_25) hg hat)
                      have n2_ := Aside0.mk (hb)
                      have n3_ := Aside0.mk ((show Kd.C (Kd.int .i64) w47 (some ad216) y221.length y221 from by rw [Ny221.out]; exact Kd.C_take (m := (x13_3 : Int).toNat) ((Kd.R_reads' (Kd.R_after (ok := (fun k_ => some k_ ≠ (.slice Ao48 y229.length co48 : Value).ownBlock)) (qR6_2) hg hat)).2.2) KL39.out))
                      have n4_ := Aside0.mk ((show Kd.C (Kd.int .i64) w47 A40 y235.length y235 from by rw [Ny235.out, KA40.out]; exact Kd.C_drop (m := (x13_3 : Int).toNat) (c := co20) ((Kd.R_reads' (Kd.R_after (ok := (fun k_ => some k_ ≠ (.slice Ao48 y229.length co48 : Value).ownBlock)) (qR6_2) hg hat)).2.2) KL40.out ((Kd.R_reads' (Kd.R_after (ok := (fun k_ => some k_ ≠ (.slice Ao48 y229.length co48 : Value).ownBlock)) (qR6_2) hg hat)).2.1)))
                      have n5_ := Aside0.mk (ho); clear HO_10; clear HO231; clear HB; clear HR224; clear HR238; clear HO227
                      have HO_10 := n0_
                      have HO231 := n1_
                      have HB := n2_
                      have HR224 := n3_
                      have HR238 := n4_
                      have HO234 := n5_
                      clear n0_ n1_ n2_ n3_ n4_ n5_; clear ho hb hg hat
                      refine hK.out _ _ (((HB.out.cell (World.block_lt_of_cell? w _ hw228_0)).trans hw228_0)) (fun hHeld => ?_)
                      clear hK K
                      refine norm_ (a' := ?_) ?_ ?_
                      rotate_left
                      ·show Act.put _ (some 71) _ = _
                       simp only [Act.put, List.setIfInBounds_toArray, List.set_cons_zero, List.set_cons_succ, i64_w, i32_w]
                       rfl
                      refine one_ (i := 14) (N := some 75) qR6_b17 rfl rfl (qR6_21) (by decide) (fun K hK => ?_)
                      refine Kd.R_append_rows_step (Kd.int .i64) (w0 := w) w.heap.size (by rfl) (.tmp 71) (.tmp 74) 25 3 (.int .i64 0) 8 rfl Try.underlying25 info3 rfl (by decide) (by omega) v233 y232 y235 _ _ _ (fun k_ => some k_ ≠ (.slice (some ad216) x10_2.length co20 : Value).ownBlock ∧ some k_ ≠ (.slice Ao48 y229.length co48 : Value).ownBlock) (fun _ => False) rfl rfl ?aO ?aR (fun _ _ h => h) (fun _ h => h.elim) ?aF ?aB ?aS ?aL ?_
                      (case aR => exact (by repeat (first | exact (qR6_8) | (with_reducible refine Kd.C_alloc ?_ _) | (with_reducible refine Kd.C_drewN ?_ _) | (with_reducible refine Kd.C_drew ?_))))
                      (case aB => exact (qR6_0))
                      (case aF => exact (qR6_27))
                      (case aO => exact (by (with_reducible repeat (first | apply Kd.R_alloc | apply Kd.R_drewN | apply Kd.R_drew)); exact HO234.out))
                      (case aS => exact (qR6_30))
                      (case aL => have := LMc36.out; omega)
                      intro v240 w49 ho hb hg hat
                      rw [← Ny239.out] at ho
                      have n0_ := Aside0.mk (Kd.R_after (ok := (fun k_ => some k_ ≠ (.slice Ao48 y229.length co48 : Value).ownBlock)) (qR6_1) hg hat)
                      have n1_ := Aside0.mk (Kd.R_after (ok := (fun k_ => some k_ ≠ (.slice (some ad216) x10_2.length co20 : Value).ownBlock)) (qR6_13) hg hat)
                      have n2_ := Aside0.mk (hb)
                      have n3_ := Aside0.mk ((show Kd.C (Kd.int .i64) w49 (some ad216) y221.length y221 from by rw [Ny221.out]; exact Kd.C_take (m := (x13_3 : Int).toNat) ((Kd.R_reads' (Kd.R_after (ok := (fun k_ => some k_ ≠ (.slice Ao48 y229.length co48 : Value).ownBlock)) (qR6_1) hg hat)).2.2) KL39.out))
                      have n4_ := Aside0.mk ((show Kd.C (Kd.int .i64) w49 A40 y235.length y235 from by rw [Ny235.out, KA40.out]; exact Kd.C_drop (m := (x13_3 : Int).toNat) (c := co20) ((Kd.R_reads' (Kd.R_after (ok := (fun k_ => some k_ ≠ (.slice Ao48 y229.length co48 : Value).ownBlock)) (qR6_1) hg hat)).2.2) KL40.out ((Kd.R_reads' (Kd.R_after (ok := (fun k_ => some k_ ≠ (.slice Ao48 y229.length co48 : Value).ownBlock)) (qR6_1) hg hat)).2.1)))
                      have n5_ := Aside0.mk (ho); clear HO_10; clear HO231; clear HB; clear HR224; clear HR238; clear HO234
                      have HO_10 := n0_
                      have HO231 := n1_
                      have HB := n2_
                      have HR224 := n3_
                      have HR238 := n4_
                      have HO241 := n5_
                      clear n0_ n1_ n2_ n3_ n4_ n5_; clear ho hb hg hat
                      refine hK.out _ _ (((HB.out.cell (World.block_lt_of_cell? w _ hw228_0)).trans hw228_0)) (fun hHeld => ?_)
                      clear hK K
                      refine norm_ (a' := ?_) ?_ ?_
                      rotate_left
                      ·show Act.put _ (some 75) _ = _
                       simp only [Act.put, List.setIfInBounds_toArray, List.set_cons_zero, List.set_cons_succ, i64_w, i32_w]
                       rfl
                      refine pure_ (i := 15) (N := some 10) (v := ?_) (a' := ?_) qR6_b18 rfl rfl (qR6_12) (fun _ _ _ h => h) (Or.inl ⟨by rfl, ?_⟩) ?_ ?_
                      rotate_left; exact qR6_c3; rotate_left; exact qR6_c0
                      refine done_ (by exact done_of HT_.out (by kernel_rfl)) ?_
                      try go_wp2
                      go_roundg k3
                      case measure => have := HJ4.out; have := HK2.out; have := HK3.out; omega
                      case rel => exact ⟨(y239), (wrap64 (x11_2 + 1)), (qR6_29), H', ⟨by have := HJ4.out; have := HK2.out; have := HK3.out; omega⟩, ⟨(by (with_reducible repeat (first | apply Kd.R_alloc | apply Kd.R_drewN | apply Kd.R_drew)); exact Kd.R_mono HO241.out (fun _ hk => trivial))⟩, ⟨(qR6_0)⟩⟩
                     ·rw [if_neg c36] at H
                      exact absurd H (by simp)
                    ·rw [if_neg c33] at H
                     exact absurd H (by simp)
                   ·rw [if_neg c32] at H
                    exact absurd H (by simp)
                  ·rw [if_neg c31] at H
                   exact absurd H (by simp)
                 ·rw [if_neg c30] at H
                  exact absurd H (by simp)
                ·rw [if_neg c29] at H
                 exact absurd H (by simp)
               ·rw [if_neg c28] at H
                exact absurd H (by simp)
             ·rw [if_neg c24] at H
              exact absurd H (by simp)
            ·rw [if_neg c23] at H
             exact absurd H (by simp)
           ·rw [if_neg c21] at H
            have c21b0 : decide (0 < x13_3) = false := decide_eq_false c21
            clear c21
            obtain ⟨y242, hy242⟩ : ∃ y_ : List Int, y_ = (([] : List Int)) := ⟨_, rfl⟩
            replace H : (if 0 ≤ x13_3 then (if x13_3 ≤ (x10_2.length : Int) then ((some (x10_2.take (x13_3 : Int).toNat : List Int)).bind fun y245 => (if y242.length + y245.length < 17592186044416 then ((some (y242 ++ y245 : List Int)).bind fun y249 => (if 0 ≤ x11_2 then (if x11_2 < (l3.length : Int) then ((some (([rd l3 x11_2] : List Int) : List Int)).bind fun y253 => (if y249.length + y253.length < 17592186044416 then ((some (y249 ++ y253 : List Int)).bind fun y256 => ((some (x10_2.drop (x13_3 : Int).toNat : List Int)).bind fun y259 => (if y256.length + y259.length < 17592186044416 then (spec_RescueOrder.l0 k3 l0 l1 a2 l3 (y256 ++ y259) (wrap64 (x11_2 + 1))) else (none)))) else (none))) else (none)) else (none))) else (none))) else (none)) else (none)) = some (r1, r2) := by first | (rw [hy242]; with_reducible exact H) | (have H2_ := (Option.bind_some _ _).symm.trans H; rw [hy242]; with_reducible exact H2_) | (have H2_ := (Option.bind_some _ _).symm.trans H; with_reducible exact H2_) | with_reducible exact H | (rw [hy242]; exact H) | exact H
            have Ny242 := Aside0.mk hy242; clear hy242
            by_cases c50 : 0 ≤ x13_3
            ·rw [if_pos c50] at H
             have c50b0 := eq_true c50
             have c50b1 : decide (0 ≤ x13_3) = true := decide_eq_true c50
             clear c50
             by_cases c51 : x13_3 ≤ (x10_2.length : Int)
             ·rw [if_pos c51] at H
              have c51b0 := eq_true c51
              have c51b1 : decide (x13_3 ≤ (x10_2.length : Int)) = true := decide_eq_true c51
              clear c51
              obtain ⟨y245, hy245⟩ : ∃ y_ : List Int, y_ = (x10_2.take (x13_3 : Int).toNat) := ⟨_, rfl⟩
              replace H : (if y242.length + y245.length < 17592186044416 then ((some (y242 ++ y245 : List Int)).bind fun y249 => (if 0 ≤ x11_2 then (if x11_2 < (l3.length : Int) then ((some (([rd l3 x11_2] : List Int) : List Int)).bind fun y253 => (if y249.length + y253.length < 17592186044416 then ((some (y249 ++ y253 : List Int)).bind fun y256 => ((some (x10_2.drop (x13_3 : Int).toNat : List Int)).bind fun y259 => (if y256.length + y259.length < 17592186044416 then (spec_RescueOrder.l0 k3 l0 l1 a2 l3 (y256 ++ y259) (wrap64 (x11_2 + 1))) else (none)))) else (none))) else (none)) else (none))) else (none)) = some (r1, r2) := by first | (rw [hy245]; with_reducible exact H) | (have H2_ := (Option.bind_some _ _).symm.trans H; rw [hy245]; with_reducible exact H2_) | (have H2_ := (Option.bind_some _ _).symm.trans H; with_reducible exact H2_) | with_reducible exact H | (rw [hy245]; exact H) | exact H
              have Ny245 := Aside0.mk hy245; clear hy245
              by_cases c52 : y242.length + y245.length < 17592186044416
              ·rw [if_pos c52] at H; have LMc52 := Aside0.mk c52; clear c52
               obtain ⟨y249, hy249⟩ : ∃ y_ : List Int, y_ = (y242 ++ y245) := ⟨_, rfl⟩
               replace H : (if 0 ≤ x11_2 then (if x11_2 < (l3.length : Int) then ((some (([rd l3 x11_2] : List Int) : List Int)).bind fun y253 => (if y249.length + y253.length < 17592186044416 then ((some (y249 ++ y253 : List Int)).bind fun y256 => ((some (x10_2.drop (x13_3 : Int).toNat : List Int)).bind fun y259 => (if y256.length + y259.length < 17592186044416 then (spec_RescueOrder.l0 k3 l0 l1 a2 l3 (y256 ++ y259) (wrap64 (x11_2 + 1))) else (none)))) else (none))) else (none)) else (none)) = some (r1, r2) := by first | (rw [hy249]; with_reducible exact H) | (have H2_ := (Option.bind_some _ _).symm.trans H; rw [hy249]; with_reducible exact H2_) | (have H2_ := (Option.bind_some _ _).symm.trans H; with_reducible exact H2_) | with_reducible exact H | (rw [hy249]; exact H) | exact H
               have Ny249 := Aside0.mk hy249; clear hy249
               by_cases c53 : 0 ≤ x11_2
               ·rw [if_pos c53] at H
                have c53b0 : decide (0 ≤ x11_2) = true := decide_eq_true c53
                clear c53
                by_cases c54 : x11_2 < (l3.length : Int)
                ·rw [if_pos c54] at H
                 have c54b0 : decide (x11_2 < (l3.length : Int)) = true := decide_eq_true c54
                 clear c54
                 obtain ⟨y253, hy253⟩ : ∃ y_ : List Int, y_ = (([rd l3 x11_2] : List Int)) := ⟨_, rfl⟩
                 replace H : (if y249.length + y253.length < 17592186044416 then ((some (y249 ++ y253 : List Int)).bind fun y256 => ((some (x10_2.drop (x13_3 : Int).toNat : List Int)).bind fun y259 => (if y256.length + y259.length < 17592186044416 then (spec_RescueOrder.l0 k3 l0 l1 a2 l3 (y256 ++ y259) (wrap64 (x11_2 + 1))) else (none)))) else (none)) = some (r1, r2) := by first | (rw [hy253]; with_reducible exact H) | (have H2_ := (Option.bind_some _ _).symm.trans H; rw [hy253]; with_reducible exact H2_) | (have H2_ := (Option.bind_some _ _).symm.trans H; with_reducible exact H2_) | with_reducible exact H | (rw [hy253]; exact H) | exact H
                 have Ny253 := Aside0.mk hy253; clear hy253
                 by_cases c55 : y249.length + y253.length < 17592186044416
                 ·rw [if_pos c55] at H; have LMc55 := Aside0.mk c55; clear c55
                  obtain ⟨y256, hy256⟩ : ∃ y_ : List Int, y_ = (y249 ++ y253) := ⟨_, rfl⟩
                  replace H : ((some (x10_2.drop (x13_3 : Int).toNat : List Int)).bind fun y259 => (if y256.length + y259.length < 17592186044416 then (spec_RescueOrder.l0 k3 l0 l1 a2 l3 (y256 ++ y259) (wrap64 (x11_2 + 1))) else (none))) = some (r1, r2) := by first | (rw [hy256]; with_reducible exact H) | (have H2_ := (Option.bind_some _ _).symm.trans H; rw [hy256]; with_reducible exact H2_) | (have H2_ := (Option.bind_some _ _).symm.trans H; with_reducible exact H2_) | with_reducible exact H | (rw [hy256]; exact H) | exact H
                  have Ny256 := Aside0.mk hy256; clear hy256
                  have c56b0 := eq_true (of_decide_eq_true (qR6_6) : 0 ≤ x13_3)
                  have c57b0 := eq_true (of_decide_eq_true (qR6_6) : x13_3 ≤ (x10_2.length : Int))
                  obtain ⟨y259, hy259⟩ : ∃ y_ : List Int, y_ = (x10_2.drop (x13_3 : Int).toNat) := ⟨_, rfl⟩
                  replace H : (if y256.length + y259.length < 17592186044416 then (spec_RescueOrder.l0 k3 l0 l1 a2 l3 (y256 ++ y259) (wrap64 (x11_2 + 1))) else (none)) = some (r1, r2) := by first | (rw [hy259]; with_reducible exact H) | (have H2_ := (Option.bind_some _ _).symm.trans H; rw [hy259]; with_reducible exact H2_) | (have H2_ := (Option.bind_some _ _).symm.trans H; with_reducible exact H2_) | with_reducible exact H | (rw [hy259]; exact H) | exact H
                  have Ny259 := Aside0.mk hy259; clear hy259
                  by_cases c58 : y256.length + y259.length < 17592186044416
                  ·rw [if_pos c58] at H; have LMc58 := Aside0.mk c58; clear c58
                   obtain ⟨y263, hy263⟩ : ∃ y_ : List Int, y_ = (y256 ++ y259) := ⟨_, rfl⟩
                   replace H : (spec_RescueOrder.l0 k3 l0 l1 a2 l3 y263 (wrap64 (x11_2 + 1))) = some (r1, r2) := by first | (rw [hy263]; with_reducible exact H) | (have H2_ := (Option.bind_some _ _).symm.trans H; rw [hy263]; with_reducible exact H2_) | (have H2_ := (Option.bind_some _ _).symm.trans H; with_reducible exact H2_) | with_reducible exact H | (rw [hy263]; exact H) | exact H
                   have Ny263 := Aside0.mk hy263; clear hy263
                   have H' := Aside0.mk H
                   clear H
                   try go_wp2
                   have n0_ := Aside0.mk (Kd.R_drew HO_10.out)
                   have n1_ := Aside0.mk (below_drew1 HB.out)
                   clear HO_10; clear HB
                   have HO_10 := n0_
                   have HB := n1_
                   clear n0_ n1_
                   have q60 : (x13_3 : Int) ≤ ((x10_2.length : Int) : Int) := of_decide_eq_true (qR6_6)
                   obtain ⟨i060, hi060, _, hsz60, _⟩ := info_parts info3
                   have hroom60 : x10_2.length ≤ co20 := (Kd.R_reads' HO_10.out).2.1
                   have hC60 : Kd.C (Kd.int .i64) _ Ao20 x10_2.length x10_2 := (Kd.R_reads' HO_10.out).2.2
                   have hcut60 := cut_to (P := Try.prog) 25 3 .i64 Try.underlying25 hi060 Ao20 x10_2.length co20 x13_3 (of_decide_eq_true (qR6_6)) q60 hroom60
                   have hr60 := Kd.C_take (m := (x13_3 : Int).toNat) hC60 (by omega)
                   have hy60 : y245.length = (x13_3 : Int).toNat := (by rw [Ny245.out, List.length_take]; omega)
                   rw [← Ny245.out] at hr60
                   rw [← hy60] at hcut60
                   have HR248 := Aside0.mk hr60
                   have HC248 := Aside0.mk (show y245.length ≤ co20 from by omega)
                   clear hr60 hC60 hroom60 hi060 hsz60; have KY60 := Aside0.mk hy60; clear hy60
                   have KL60 := Aside0.mk (show (x13_3 : Int).toNat ≤ x10_2.length from by omega)
                   replace q60 := eq_true q60
                   have p252 : 0 ≤ (x11_2 : Int) := of_decide_eq_true (qR6_6)
                   have q252 : x11_2 < (l3.length : Int) := of_decide_eq_true (qR6_6)
                   obtain ⟨ad252, e252, hx252_0⟩ := Kd.at_int HR3.out x11_2 p252 q252
                   have hw252_0 := hx252_0
                   obtain rfl : ad214 = ad252 := (by injection e252)
                   replace hx252_0 := (HB.out.cell (World.block_lt_of_cell? w _ hx252_0)).trans hx252_0
                   replace p252 := eq_true p252
                   replace q252 := eq_true q252
                   have q61 : (x13_3 : Int) ≤ ((x10_2.length : Int) : Int) := of_decide_eq_true (qR6_6)
                   obtain ⟨i061, hi061, _, hsz61, _⟩ := info_parts info3
                   have hroom61 : x10_2.length ≤ co20 := (Kd.R_reads' HO_10.out).2.1
                   have hC61 : Kd.C (Kd.int .i64) _ Ao20 x10_2.length x10_2 := (Kd.R_reads' HO_10.out).2.2
                   have q061 : (0 : Int) ≤ (x13_3 : Int) := of_decide_eq_true (qR6_6)
                   have hcut61 := cut_from (P := Try.prog) 25 3 .i64 Try.underlying25 hi061 1 hsz61 Ao20 x10_2.length co20 x13_3 q061 q61
                   have hr61 := Kd.C_drop (m := (x13_3 : Int).toNat) (c := co20) hC61 (by omega) hroom61
                   obtain ⟨A61, hA61⟩ : ∃ A1, A1 = (if co20 = (x13_3 : Int).toNat then Ao20 else (Ao20 : Option Addr).map (·.add ((x13_3 : Int).toNat * 1))) := ⟨_, rfl⟩
                   obtain ⟨c61, hc61⟩ : ∃ c1, c1 = co20 - (x13_3 : Int).toNat := ⟨_, rfl⟩
                   have hy61 : y259.length = x10_2.length - (x13_3 : Int).toNat := (by rw [Ny259.out, List.length_drop] <;> omega)
                   rw [show (x10_2).drop (x13_3 : Int).toNat = y259 from Ny259.out.symm] at hr61
                   replace hr61 : Kd.C (Kd.int .i64) _ A61 y259.length y259 := (by rw [hA61]; exact hr61)
                   rw [← hy61, ← hA61, ← hc61] at hcut61
                   have HR262 := Aside0.mk hr61
                   have HC262 := Aside0.mk (show y259.length ≤ c61 from by rw [hy61, hc61]; exact Nat.sub_le_sub_right hroom61 _)
                   clear hr61 hC61 hroom61 hi061 hsz61 hc61; have KY61 := Aside0.mk hy61; have KA61 := Aside0.mk hA61; clear hy61 hA61
                   have KL61 := Aside0.mk (show (x13_3 : Int).toNat ≤ x10_2.length from by omega)
                   replace q61 := eq_true q61
                   refine start_ (n := 16) (S := fun w' => w'.cell? (ad214.add (x11_2).toNat) = some (.int .i64 (rd l3 x11_2))) (ds := []) qR6_b0 (by kernel_rfl) rfl rfl (((HB.out.cell (World.block_lt_of_cell? w _ hw252_0)).trans hw252_0)) (fun hHeld => ?_); refine with_tabW spec_RescueOrder.tab12 spec_RescueOrder.bits12 (fun HT_ HW_ => ?_)
                   generalize wr.drew = w59 at HO_10 HB HR248 HR262 hx252_0 hHeld ⊢
                   refine pure_ (i := 1) (N := some 62) (v := ?_) (a' := ?_) qR6_b1 rfl rfl (qR6_12) (fun _ _ _ h => h) (Or.inl ⟨by rfl, ?_⟩) ?_ ?_
                   rotate_left; exact qR6_c3; rotate_left; exact qR6_c0
                   refine pure_ (i := 2) (N := some 63) (v := ?_) (a' := ?_) qR6_b2 rfl rfl (qR6_12) (fun _ _ _ h => h) (Or.inl ⟨by rfl, ?_⟩) ?_ ?_
                   rotate_left; exact qR6_c3; rotate_left; exact qR6_c0
                   refine pure_ (i := 3) (N := some 64) (v := ?_) (a' := ?_) qR6_b3 rfl rfl (qR6_12) (fun _ _ _ h => h) (Or.inl ⟨by rfl, ?_⟩) ?_ ?_
                   rotate_left; exact qR6_c3; rotate_left; exact qR6_c0
                   refine pure_ (i := 5) (N := some 66) (v := ?_) (a' := ?_) qR6_b4 rfl rfl (qR6_12) (fun _ _ _ h => h) (Or.inl ⟨by rfl, ?_⟩) ?_ ?_
                   rotate_left; exact qR6_c3; rotate_left; exact qR6_c0
                   refine pure_ (i := 6) (N := some 67) (v := ?_) (a' := ?_) qR6_b5 rfl rfl (qR6_12) (fun _ _ _ h => h) (Or.inl ⟨by rfl, ?_⟩) ?_ ?_
                   rotate_left; exact qR6_c3; rotate_left; exact qR6_c0
                   refine pure_ (i := 7) (N := some 68) (v := ?_) (a' := ?_) qR6_b6 rfl rfl (qR6_12) (fun _ _ _ h => h) (Or.inl ⟨by rfl, ?_⟩) ?_ ?_
                   rotate_left; exact qR6_c3; rotate_left; exact qR6_c0
                   refine pure_ (i := 11) (N := some 72) (v := ?_) (a' := ?_) qR6_b7 rfl rfl (qR6_12) (fun _ _ _ h => h) (Or.inl ⟨by rfl, ?_⟩) ?_ ?_
                   rotate_left; exact qR6_c3; rotate_left; exact qR6_c0
                   refine pure_ (i := 12) (N := some 73) (v := ?_) (a' := ?_) qR6_b8 rfl rfl (qR6_12) (fun _ _ _ h => h) (Or.inl ⟨by rfl, ?_⟩) ?_ ?_
                   rotate_left; exact qR6_c3; rotate_left; exact qR6_c0
                   refine pure_ (i := 13) (N := some 74) (v := ?_) (a' := ?_) qR6_b9 rfl rfl (qR6_12) (fun _ _ _ h => h) (Or.inl ⟨by rfl, ?_⟩) ?_ ?_
                   rotate_left; exact qR6_c3; rotate_left; exact qR6_c0
                   refine take_ (i := 8) (N := some 69) (v := ?_) (a' := ?_) qR6_b10 rfl rfl (take_ofW HT_.out HW_.out (by kernel_rfl)) (fun _ _ _ h => h) (Or.inl ⟨by rfl, ?_⟩) hHeld ?_ ?_
                   rotate_left
                   ·intro w' s0
                    go_simp
                    with_reducible rfl
                   rotate_left
                   ·exact qR6_c0
                   refine join_ (σ := Value × Value × Value) 3 qR6_b11 (fun s_ => [(61, s_.1), (65, s_.2.1), (70, s_.2.2)]) (fun s_ w' => (w'.cell? (ad214.add (x11_2).toNat) = some (.int .i64 (rd l3 x11_2))) ∧ (Kd.R (Kd.int .i64) 3 w' w.heap.size (fun k_ => some k_ ≠ (s_.2.2 : Value).ownBlock ∧ some k_ ≠ (.slice Ao20 x10_2.length co20 : Value).ownBlock) s_.2.1 y249) ∧ (Kd.R (Kd.int .i64) 3 w' w.heap.size (fun k_ => some k_ ≠ (s_.2.1 : Value).ownBlock ∧ some k_ ≠ (.slice Ao20 x10_2.length co20 : Value).ownBlock) s_.2.2 y253) ∧ (Kd.R (Kd.int .i64) 3 w' w.heap.size (fun k_ => some k_ ≠ (s_.2.1 : Value).ownBlock ∧ some k_ ≠ (s_.2.2 : Value).ownBlock) (.slice Ao20 x10_2.length co20) x10_2) ∧ (Below w.heap.size w w')) ?_ ?_
                   rotate_left
                   ·intro hCont
                    refine two_ (i := 0) (j := 9) (Ni := some 61) (Nj := some 70) qR6_b12 qR6_b13 rfl rfl rfl rfl (two_of HT_.out (by kernel_rfl)) (by decide) (by decide) (fun K hK => ?_) (fun K hK => ?_)
                    ·skip
                     refine Kd.R_lit_step (Kd.int .i64) _ 3 ?hg (N := 61) ?hd (xs := ([] : List Int)) (inner := []) (ok := fun _ => True) (okp := fun _ => True) ?hr ?hp (fun _ hk => hk) trivial (Below.refl _ _) (Nat.le_refl _) (by simp) ?_; (case hd => rfl); (case hg => rfl); (case hr => exact (qR6_20)); (case hp => exact (Reps.none _ _))
                     intro v243 w62 ho63 hb hg_ hnew_
                     clear hg_ hnew_
                     (first | rw [← Ny242.out] at ho63 | (simp only [Int.reduceToNat] at ho63; rw [← Ny242.out] at ho63))
                     have n0_ := Aside0.mk (Kd.R_elder' (qR6_1) (Kd.R_base ho63) hb)
                     have n1_ := Aside0.mk (Kd.R_lower (Kd.R_new' ho63 (Kd.R_lt (qR6_1))) (below_size (qR6_0)))
                     have n2_ := Aside0.mk (Kd.C_below (qR6_4) hb)
                     have n3_ := Aside0.mk (Kd.C_below (qR6_9) hb)
                     have n4_ := Aside0.mk (below_step (qR6_0) hb)
                     clear HO_10; clear HR248; clear HR262; clear HB
                     have HO_10 := n0_
                     have HO244 := n1_
                     have HR248 := n2_
                     have HR262 := n3_
                     have HB := n4_
                     clear n0_ n1_ n2_ n3_ n4_; clear hb ho63
                     refine hK.out _ _ (((HB.out.cell (World.block_lt_of_cell? w _ hw252_0)).trans hw252_0)) (fun hHeld => ?_)
                     clear hK K
                     refine norm_ (a' := ?_) ?_ ?_
                     rotate_left
                     ·exact qR6_c4
                     refine two_ (i := 4) (j := 9) (Ni := some 65) (Nj := some 70) qR6_b14 qR6_b15 rfl rfl rfl rfl (two_of HT_.out (by kernel_rfl)) (by decide) (by decide) (fun K hK => ?_) (fun K hK => ?_)
                     ·skip
                      refine Kd.R_append_rows_step (Kd.int .i64) (w0 := w) w.heap.size (by rfl) (.tmp 61) (.tmp 64) 25 3 (.int .i64 0) 8 rfl Try.underlying25 info3 rfl (by decide) (by omega) v243 y242 y245 _ _ _ (fun k_ => some k_ ≠ (.slice Ao20 x10_2.length co20 : Value).ownBlock) (fun _ => False) rfl rfl ?aO ?aR (fun _ _ h => h) (fun _ h => h.elim) ?aF ?aB ?aS ?aL ?_
                      (case aR => exact (qR6_24))
                      (case aB => exact (qR6_0))
                      (case aF => exact (by exact (fun k_ hk => Kd.fresh' (Kd.R_lt (qR6_1)) k_ hk)))
                      (case aO => exact (by (with_reducible repeat (first | apply Kd.R_alloc | apply Kd.R_drewN | apply Kd.R_drew)); exact Kd.R_mono HO244.out (fun _ hk => hk.2)))
                      (case aS => exact (qR6_30))
                      (case aL => have := LMc52.out; omega)
                      intro v250 w64 ho hb hg hat
                      rw [← Ny249.out] at ho
                      have n0_ := Aside0.mk (Kd.R_after (ok := (fun _ => True)) (qR6_1) hg hat)
                      have n1_ := Aside0.mk (hb)
                      have n2_ := Aside0.mk ((show Kd.C (Kd.int .i64) w64 Ao20 y245.length y245 from by rw [Ny245.out]; exact Kd.C_take (m := (x13_3 : Int).toNat) ((Kd.R_reads' (Kd.R_after (ok := (fun _ => True)) (qR6_1) hg hat)).2.2) KL60.out))
                      have n3_ := Aside0.mk ((show Kd.C (Kd.int .i64) w64 A61 y259.length y259 from by rw [Ny259.out, KA61.out]; exact Kd.C_drop (m := (x13_3 : Int).toNat) (c := co20) ((Kd.R_reads' (Kd.R_after (ok := (fun _ => True)) (qR6_1) hg hat)).2.2) KL61.out ((Kd.R_reads' (Kd.R_after (ok := (fun _ => True)) (qR6_1) hg hat)).2.1)))
                      have n4_ := Aside0.mk (ho); clear HO_10; clear HB; clear HR248; clear HR262; clear HO244
                      have HO_10 := n0_
                      have HB := n1_
                      have HR248 := n2_
                      have HR262 := n3_
                      have HO251 := n4_
                      clear n0_ n1_ n2_ n3_ n4_; clear ho hb hg hat
                      refine hK.out _ _ (((HB.out.cell (World.block_lt_of_cell? w _ hw252_0)).trans hw252_0)) (fun hHeld => ?_)
                      clear hK K
                      refine norm_ (a' := ?_) ?_ ?_
                      rotate_left
                      ·exact qR6_c1
                      refine one_ (i := 9) (N := some 70) qR6_b11 rfl rfl (qR6_21) (by decide) (fun K hK => ?_)
                      refine Kd.R_lit_step (Kd.int .i64) _ 3 ?hg (N := 70) ?hd (xs := ([rd l3 x11_2] : List Int)) (inner := [.int .i64 (rd l3 x11_2)]) (ok := fun _ => True) (okp := fun _ => True) ?hr ?hp (fun _ hk => hk) trivial (Below.refl _ _) (Nat.le_refl _) (by simp) ?_; (case hd => rfl); (case hg => rfl); (case hr => exact (qR6_20)); (case hp => exact (qR6_15))
                      intro v254 w65 ho66 hb hg_ hnew_
                      clear hg_ hnew_
                      (first | rw [← Ny253.out] at ho66 | (simp only [Int.reduceToNat] at ho66; rw [← Ny253.out] at ho66))
                      have n0_ := Aside0.mk (Kd.R_elder' (qR6_1) (Kd.R_base ho66) hb)
                      have n1_ := Aside0.mk (Kd.R_elder' (qR6_37) (Kd.R_base ho66) hb)
                      have n2_ := Aside0.mk (Kd.R_lower (Kd.R_new' (Kd.R_new' ho66 (Kd.R_lt (qR6_1))) (Kd.R_lt (qR6_37))) (below_size (qR6_0)))
                      have n3_ := Aside0.mk (Kd.C_below (qR6_4) hb)
                      have n4_ := Aside0.mk (Kd.C_below (qR6_9) hb)
                      have n5_ := Aside0.mk (below_step (qR6_0) hb)
                      clear HO_10; clear HO251; clear HR248; clear HR262; clear HB
                      have HO_10 := n0_
                      have HO251 := n1_
                      have HO255 := n2_
                      have HR248 := n3_
                      have HR262 := n4_
                      have HB := n5_
                      clear n0_ n1_ n2_ n3_ n4_ n5_; clear hb ho66
                      refine hK.out _ _ (((HB.out.cell (World.block_lt_of_cell? w _ hw252_0)).trans hw252_0)) (fun hHeld => ?_)
                      clear hK K
                      refine norm_ (a' := ?_) ?_ ?_
                      rotate_left
                      ·exact qR6_c2
                      exact norm_ (qR6_16) (hCont (v243, v250, v254) _ ⟨hHeld, (qR6_18), (by (with_reducible repeat (first | apply Kd.R_alloc | apply Kd.R_drewN | apply Kd.R_drew)); exact Kd.R_mono HO255.out (fun _ hk => ⟨hk.2, hk.1.2⟩)), (qR6_5), (qR6_0)⟩)
                     ·skip
                      refine Kd.R_lit_step (Kd.int .i64) _ 3 ?hg (N := 70) ?hd (xs := ([rd l3 x11_2] : List Int)) (inner := [.int .i64 (rd l3 x11_2)]) (ok := fun _ => True) (okp := fun _ => True) ?hr ?hp (fun _ hk => hk) trivial (Below.refl _ _) (Nat.le_refl _) (by simp) ?_; (case hd => rfl); (case hg => rfl); (case hr => exact (qR6_20)); (case hp => exact (qR6_15))
                      intro v254 w64 ho65 hb hg_ hnew_
                      clear hg_ hnew_
                      (first | rw [← Ny253.out] at ho65 | (simp only [Int.reduceToNat] at ho65; rw [← Ny253.out] at ho65))
                      have n0_ := Aside0.mk (Kd.R_elder' (qR6_1) (Kd.R_base ho65) hb)
                      have n1_ := Aside0.mk (Kd.R_elder' (qR6_38) (Kd.R_base ho65) hb)
                      have n2_ := Aside0.mk (Kd.R_lower (Kd.R_new' (Kd.R_new' ho65 (Kd.R_lt (qR6_1))) (Kd.R_lt (qR6_38))) (below_size (qR6_0)))
                      have n3_ := Aside0.mk (Kd.C_below (qR6_4) hb)
                      have n4_ := Aside0.mk (Kd.C_below (qR6_9) hb)
                      have n5_ := Aside0.mk (below_step (qR6_0) hb)
                      clear HO_10; clear HO244; clear HR248; clear HR262; clear HB
                      have HO_10 := n0_
                      have HO244 := n1_
                      have HO255 := n2_
                      have HR248 := n3_
                      have HR262 := n4_
                      have HB := n5_
                      clear n0_ n1_ n2_ n3_ n4_ n5_; clear hb ho65
                      refine hK.out _ _ (((HB.out.cell (World.block_lt_of_cell? w _ hw252_0)).trans hw252_0)) (fun hHeld => ?_)
                      clear hK K
                      refine norm_ (a' := ?_) ?_ ?_
                      rotate_left
                      ·exact qR6_c2
                      refine one_ (i := 4) (N := some 65) qR6_b11 rfl rfl (qR6_21) (by decide) (fun K hK => ?_)
                      refine Kd.R_append_rows_step (Kd.int .i64) (w0 := w) w.heap.size (by rfl) (.tmp 61) (.tmp 64) 25 3 (.int .i64 0) 8 rfl Try.underlying25 info3 rfl (by decide) (by omega) v243 y242 y245 _ _ _ (fun k_ => some k_ ≠ (.slice Ao20 x10_2.length co20 : Value).ownBlock ∧ some k_ ≠ (v254 : Value).ownBlock) (fun _ => False) rfl rfl ?aO ?aR (fun _ _ h => h) (fun _ h => h.elim) ?aF ?aB ?aS ?aL ?_
                      (case aR => exact (qR6_24))
                      (case aB => exact (qR6_0))
                      (case aF => exact (qR6_28))
                      (case aO => exact (qR6_33))
                      (case aS => exact (qR6_30))
                      (case aL => have := LMc52.out; omega)
                      intro v250 w66 ho hb hg hat
                      rw [← Ny249.out] at ho
                      have n0_ := Aside0.mk (Kd.R_after (ok := (fun k_ => some k_ ≠ (v254 : Value).ownBlock)) (qR6_7) hg hat)
                      have n1_ := Aside0.mk (Kd.R_after (ok := (fun k_ => some k_ ≠ (.slice Ao20 x10_2.length co20 : Value).ownBlock)) (qR6_34) hg hat)
                      have n2_ := Aside0.mk (hb)
                      have n3_ := Aside0.mk ((show Kd.C (Kd.int .i64) w66 Ao20 y245.length y245 from by rw [Ny245.out]; exact Kd.C_take (m := (x13_3 : Int).toNat) ((Kd.R_reads' (Kd.R_after (ok := (fun k_ => some k_ ≠ (v254 : Value).ownBlock)) (qR6_7) hg hat)).2.2) KL60.out))
                      have n4_ := Aside0.mk ((show Kd.C (Kd.int .i64) w66 A61 y259.length y259 from by rw [Ny259.out, KA61.out]; exact Kd.C_drop (m := (x13_3 : Int).toNat) (c := co20) ((Kd.R_reads' (Kd.R_after (ok := (fun k_ => some k_ ≠ (v254 : Value).ownBlock)) (qR6_7) hg hat)).2.2) KL61.out ((Kd.R_reads' (Kd.R_after (ok := (fun k_ => some k_ ≠ (v254 : Value).ownBlock)) (qR6_7) hg hat)).2.1)))
                      have n5_ := Aside0.mk (ho); clear HO_10; clear HO255; clear HB; clear HR248; clear HR262; clear HO244
                      have HO_10 := n0_
                      have HO255 := n1_
                      have HB := n2_
                      have HR248 := n3_
                      have HR262 := n4_
                      have HO251 := n5_
                      clear n0_ n1_ n2_ n3_ n4_ n5_; clear ho hb hg hat
                      refine hK.out _ _ (((HB.out.cell (World.block_lt_of_cell? w _ hw252_0)).trans hw252_0)) (fun hHeld => ?_)
                      clear hK K
                      refine norm_ (a' := ?_) ?_ ?_
                      rotate_left
                      ·exact qR6_c1
                      exact norm_ (qR6_16) (hCont (v243, v250, v254) _ ⟨hHeld, (qR6_18), (qR6_26), (qR6_2), (qR6_0)⟩)
                    ·skip
                     refine Kd.R_lit_step (Kd.int .i64) _ 3 ?hg (N := 70) ?hd (xs := ([rd l3 x11_2] : List Int)) (inner := [.int .i64 (rd l3 x11_2)]) (ok := fun _ => True) (okp := fun _ => True) ?hr ?hp (fun _ hk => hk) trivial (Below.refl _ _) (Nat.le_refl _) (by simp) ?_; (case hd => rfl); (case hg => rfl); (case hr => exact (qR6_20)); (case hp => exact (qR6_15))
                     intro v254 w62 ho63 hb hg_ hnew_
                     clear hg_ hnew_
                     (first | rw [← Ny253.out] at ho63 | (simp only [Int.reduceToNat] at ho63; rw [← Ny253.out] at ho63))
                     have n0_ := Aside0.mk (Kd.R_elder' (qR6_1) (Kd.R_base ho63) hb)
                     have n1_ := Aside0.mk (Kd.R_lower (Kd.R_new' ho63 (Kd.R_lt (qR6_1))) (below_size (qR6_0)))
                     have n2_ := Aside0.mk (Kd.C_below (qR6_4) hb)
                     have n3_ := Aside0.mk (Kd.C_below (qR6_9) hb)
                     have n4_ := Aside0.mk (below_step (qR6_0) hb)
                     clear HO_10; clear HR248; clear HR262; clear HB
                     have HO_10 := n0_
                     have HO255 := n1_
                     have HR248 := n2_
                     have HR262 := n3_
                     have HB := n4_
                     clear n0_ n1_ n2_ n3_ n4_; clear hb ho63
                     refine hK.out _ _ (((HB.out.cell (World.block_lt_of_cell? w _ hw252_0)).trans hw252_0)) (fun hHeld => ?_)
                     clear hK K
                     refine norm_ (a' := ?_) ?_ ?_
                     rotate_left
                     ·exact qR6_c2
                     refine one_ (i := 0) (N := some 61) qR6_b15 rfl rfl (qR6_21) (by decide) (fun K hK => ?_)
                     refine Kd.R_lit_step (Kd.int .i64) _ 3 ?hg (N := 61) ?hd (xs := ([] : List Int)) (inner := []) (ok := fun _ => True) (okp := fun _ => True) ?hr ?hp (fun _ hk => hk) trivial (Below.refl _ _) (Nat.le_refl _) (by simp) ?_; (case hd => rfl); (case hg => rfl); (case hr => exact (qR6_20)); (case hp => exact (Reps.none _ _))
                     intro v243 w64 ho65 hb hg_ hnew_
                     clear hg_ hnew_
                     (first | rw [← Ny242.out] at ho65 | (simp only [Int.reduceToNat] at ho65; rw [← Ny242.out] at ho65))
                     have n0_ := Aside0.mk (Kd.R_elder' (qR6_1) (Kd.R_base ho65) hb)
                     have n1_ := Aside0.mk (Kd.R_elder' (qR6_14) (Kd.R_base ho65) hb)
                     have n2_ := Aside0.mk (Kd.R_lower (Kd.R_new' (Kd.R_new' ho65 (Kd.R_lt (qR6_1))) (Kd.R_lt (qR6_14))) (below_size (qR6_0)))
                     have n3_ := Aside0.mk (Kd.C_below (qR6_4) hb)
                     have n4_ := Aside0.mk (Kd.C_below (qR6_9) hb)
                     have n5_ := Aside0.mk (below_step (qR6_0) hb)
                     clear HO_10; clear HO255; clear HR248; clear HR262; clear HB
                     have HO_10 := n0_
                     have HO255 := n1_
                     have HO244 := n2_
                     have HR248 := n3_
                     have HR262 := n4_
                     have HB := n5_
                     clear n0_ n1_ n2_ n3_ n4_ n5_; clear hb ho65
                     refine hK.out _ _ (((HB.out.cell (World.block_lt_of_cell? w _ hw252_0)).trans hw252_0)) (fun hHeld => ?_)
                     clear hK K
                     refine norm_ (a' := ?_) ?_ ?_
                     rotate_left
                     ·exact qR6_c4
                     refine one_ (i := 4) (N := some 65) qR6_b11 rfl rfl (qR6_21) (by decide) (fun K hK => ?_)
                     refine Kd.R_append_rows_step (Kd.int .i64) (w0 := w) w.heap.size (by rfl) (.tmp 61) (.tmp 64) 25 3 (.int .i64 0) 8 rfl Try.underlying25 info3 rfl (by decide) (by omega) v243 y242 y245 _ _ _ (fun k_ => some k_ ≠ (.slice Ao20 x10_2.length co20 : Value).ownBlock ∧ some k_ ≠ (v254 : Value).ownBlock) (fun _ => False) rfl rfl ?aO ?aR (fun _ _ h => h) (fun _ h => h.elim) ?aF ?aB ?aS ?aL ?_
                     (case aR => exact (qR6_24))
                     (case aB => exact (qR6_0))
                     (case aF => exact (qR6_28))
                     (case aO => exact (qR6_33))
                     (case aS => exact (qR6_30))
                     (case aL => have := LMc52.out; omega)
                     intro v250 w66 ho hb hg hat
                     rw [← Ny249.out] at ho
                     have n0_ := Aside0.mk (Kd.R_after (ok := (fun k_ => some k_ ≠ (v254 : Value).ownBlock)) (qR6_5) hg hat)
                     have n1_ := Aside0.mk (Kd.R_after (ok := (fun k_ => some k_ ≠ (.slice Ao20 x10_2.length co20 : Value).ownBlock)) (qR6_34) hg hat)
                     have n2_ := Aside0.mk (hb)
                     have n3_ := Aside0.mk ((show Kd.C (Kd.int .i64) w66 Ao20 y245.length y245 from by rw [Ny245.out]; exact Kd.C_take (m := (x13_3 : Int).toNat) ((Kd.R_reads' (Kd.R_after (ok := (fun k_ => some k_ ≠ (v254 : Value).ownBlock)) (qR6_5) hg hat)).2.2) KL60.out))
                     have n4_ := Aside0.mk ((show Kd.C (Kd.int .i64) w66 A61 y259.length y259 from by rw [Ny259.out, KA61.out]; exact Kd.C_drop (m := (x13_3 : Int).toNat) (c := co20) ((Kd.R_reads' (Kd.R_after (ok := (fun k_ => some k_ ≠ (v254 : Value).ownBlock)) (qR6_5) hg hat)).2.2) KL61.out ((Kd.R_reads' (Kd.R_after (ok := (fun k_ => some k_ ≠ (v254 : Value).ownBlock)) (qR6_5) hg hat)).2.1)))
                     have n5_ := Aside0.mk (ho); clear HO_10; clear HO255; clear HB; clear HR248; clear HR262; clear HO244
                     have HO_10 := n0_
                     have HO255 := n1_
                     have HB := n2_
                     have HR248 := n3_
                     have HR262 := n4_
                     have HO251 := n5_
                     clear n0_ n1_ n2_ n3_ n4_ n5_; clear ho hb hg hat
                     refine hK.out _ _ (((HB.out.cell (World.block_lt_of_cell? w _ hw252_0)).trans hw252_0)) (fun hHeld => ?_)
                     clear hK K
                     refine norm_ (a' := ?_) ?_ ?_
                     rotate_left
                     ·exact qR6_c1
                     exact norm_ (qR6_16) (hCont (v243, v250, v254) _ ⟨hHeld, (qR6_18), (qR6_26), (qR6_2), (qR6_0)⟩)
                   rintro ⟨v243, v250, v254⟩ w67 ⟨hS_, h0_, h1_, h2_, h3_⟩
                   have n0_ : Aside0 (Kd.R (Kd.int .i64) 3 w67 w.heap.size (fun k_ => some k_ ≠ (v254 : Value).ownBlock ∧ some k_ ≠ (.slice Ao20 x10_2.length co20 : Value).ownBlock) v250 y249) := ⟨h0_⟩
                   have n1_ : Aside0 (Kd.R (Kd.int .i64) 3 w67 w.heap.size (fun k_ => some k_ ≠ (v250 : Value).ownBlock ∧ some k_ ≠ (.slice Ao20 x10_2.length co20 : Value).ownBlock) v254 y253) := ⟨h1_⟩
                   have n2_ : Aside0 (Kd.R (Kd.int .i64) 3 w67 w.heap.size (fun k_ => some k_ ≠ (v250 : Value).ownBlock ∧ some k_ ≠ (v254 : Value).ownBlock) (.slice Ao20 x10_2.length co20) x10_2) := ⟨h2_⟩
                   have n3_ : Aside0 (Below w.heap.size w w67) := ⟨h3_⟩
                   clear HO_10; clear HB; clear h0_ h1_ h2_ h3_
                   have HO251 := n0_
                   have HO255 := n1_
                   have HO_10 := n2_
                   have HB := n3_
                   clear n0_ n1_ n2_ n3_
                   have hHeld : w67.cell? (ad214.add (x11_2).toNat) = some (.int .i64 (rd l3 x11_2)) := hS_
                   clear HR248
                   have HR248 := Aside0.mk (show Kd.C (Kd.int .i64) w67 Ao20 y245.length y245 from by rw [Ny245.out]; exact Kd.C_take (m := (x13_3 : Int).toNat) ((Kd.R_reads' HO_10.out).2.2) KL60.out)
                   clear HR262
                   have HR262 := Aside0.mk (show Kd.C (Kd.int .i64) w67 A61 y259.length y259 from by rw [Ny259.out, KA61.out]; exact Kd.C_drop (m := (x13_3 : Int).toNat) (c := co20) ((Kd.R_reads' HO_10.out).2.2) KL61.out ((Kd.R_reads' HO_10.out).2.1))
                   obtain ⟨Ao69, co69, eo69⟩ := Kd.R_slice HO255.out
                   (first | subst eo69 | (injection eo69 with f1_ f2_ f3_; have f4_ := f1_.symm; have f5_ := f3_.symm; clear f1_ f2_ f3_; subst f4_; subst f5_))
                   refine norm_ (a' := ?_) ?_ ?_
                   rotate_left
                   ·simp only [putAll, Act.put, List.setIfInBounds_toArray, List.set_cons_zero, List.set_cons_succ]
                    rfl
                   refine one_ (i := 10) (N := some 71) qR6_b16 rfl rfl (qR6_21) (by decide) (fun K hK => ?_)
                   refine Kd.R_append_rows_step (Kd.int .i64) (w0 := w) w.heap.size (by rfl) (.tmp 65) (.tmp 70) 25 3 (.int .i64 0) 8 rfl Try.underlying25 info3 rfl (by decide) (by omega) v250 y249 y253 _ _ _ (fun k_ => some k_ ≠ (.slice Ao20 x10_2.length co20 : Value).ownBlock ∧ some k_ ≠ (.slice Ao69 y253.length co69 : Value).ownBlock) (fun _ => False) rfl rfl ?aO ?aR (fun _ _ h => h) (fun _ h => h.elim) ?aF ?aB ?aS ?aL ?_
                   (case aR => exact (by repeat (first | exact (Kd.R_reads' HO255.out).2.2 | (with_reducible refine Kd.C_alloc ?_ _) | (with_reducible refine Kd.C_drewN ?_ _) | (with_reducible refine Kd.C_drew ?_))))
                   (case aB => exact (qR6_0))
                   (case aF => exact (qR6_28))
                   (case aO => exact (qR6_18))
                   (case aS => exact (qR6_30))
                   (case aL => have := LMc55.out; omega)
                   intro v257 w68 ho hb hg hat
                   rw [← Ny256.out] at ho
                   have n0_ := Aside0.mk (Kd.R_after (ok := (fun k_ => some k_ ≠ (.slice Ao69 y253.length co69 : Value).ownBlock)) (qR6_2) hg hat)
                   have n1_ := Aside0.mk (Kd.R_after (ok := (fun k_ => some k_ ≠ (.slice Ao20 x10_2.length co20 : Value).ownBlock)) (qR6_26) hg hat)
                   have n2_ := Aside0.mk (hb)
                   have n3_ := Aside0.mk ((show Kd.C (Kd.int .i64) w68 Ao20 y245.length y245 from by rw [Ny245.out]; exact Kd.C_take (m := (x13_3 : Int).toNat) ((Kd.R_reads' (Kd.R_after (ok := (fun k_ => some k_ ≠ (.slice Ao69 y253.length co69 : Value).ownBlock)) (qR6_2) hg hat)).2.2) KL60.out))
                   have n4_ := Aside0.mk ((show Kd.C (Kd.int .i64) w68 A61 y259.length y259 from by rw [Ny259.out, KA61.out]; exact Kd.C_drop (m := (x13_3 : Int).toNat) (c := co20) ((Kd.R_reads' (Kd.R_after (ok := (fun k_ => some k_ ≠ (.slice Ao69 y253.length co69 : Value).ownBlock)) (qR6_2) hg hat)).2.2) KL61.out ((Kd.R_reads' (Kd.R_after (ok := (fun k_ => some k_ ≠ (.slice Ao69 y253.length co69 : Value).ownBlock)) (qR6_2) hg hat)).2.1)))
                   have n5_ := Aside0.mk (ho); clear HO_10; clear HO255; clear HB; clear HR248; clear HR262; clear HO251
                   have HO_10 := n0_
                   have HO255 := n1_
                   have HB := n2_
                   have HR248 := n3_
                   have HR262 := n4_
                   have HO258 := n5_
                   clear n0_ n1_ n2_ n3_ n4_ n5_; clear ho hb hg hat
                   refine hK.out _ _ (((HB.out.cell (World.block_lt_of_cell? w _ hw252_0)).trans hw252_0)) (fun hHeld => ?_)
                   clear hK K
                   refine norm_ (a' := ?_) ?_ ?_
                   rotate_left
                   ·show Act.put _ (some 71) _ = _
                    simp only [Act.put, List.setIfInBounds_toArray, List.set_cons_zero, List.set_cons_succ, i64_w, i32_w]
                    rfl
                   refine one_ (i := 14) (N := some 75) qR6_b17 rfl rfl (qR6_21) (by decide) (fun K hK => ?_)
                   refine Kd.R_append_rows_step (Kd.int .i64) (w0 := w) w.heap.size (by rfl) (.tmp 71) (.tmp 74) 25 3 (.int .i64 0) 8 rfl Try.underlying25 info3 rfl (by decide) (by omega) v257 y256 y259 _ _ _ (fun k_ => some k_ ≠ (.slice Ao20 x10_2.length co20 : Value).ownBlock ∧ some k_ ≠ (.slice Ao69 y253.length co69 : Value).ownBlock) (fun _ => False) rfl rfl ?aO ?aR (fun _ _ h => h) (fun _ h => h.elim) ?aF ?aB ?aS ?aL ?_
                   (case aR => exact (by repeat (first | exact (qR6_9) | (with_reducible refine Kd.C_alloc ?_ _) | (with_reducible refine Kd.C_drewN ?_ _) | (with_reducible refine Kd.C_drew ?_))))
                   (case aB => exact (qR6_0))
                   (case aF => exact (qR6_28))
                   (case aO => exact (by (with_reducible repeat (first | apply Kd.R_alloc | apply Kd.R_drewN | apply Kd.R_drew)); exact HO258.out))
                   (case aS => exact (qR6_30))
                   (case aL => have := LMc58.out; omega)
                   intro v264 w70 ho hb hg hat
                   rw [← Ny263.out] at ho
                   have n0_ := Aside0.mk (Kd.R_after (ok := (fun k_ => some k_ ≠ (.slice Ao69 y253.length co69 : Value).ownBlock)) (qR6_1) hg hat)
                   have n1_ := Aside0.mk (Kd.R_after (ok := (fun k_ => some k_ ≠ (.slice Ao20 x10_2.length co20 : Value).ownBlock)) (qR6_14) hg hat)
                   have n2_ := Aside0.mk (hb)
                   have n3_ := Aside0.mk ((show Kd.C (Kd.int .i64) w70 Ao20 y245.length y245 from by rw [Ny245.out]; exact Kd.C_take (m := (x13_3 : Int).toNat) ((Kd.R_reads' (Kd.R_after (ok := (fun k_ => some k_ ≠ (.slice Ao69 y253.length co69 : Value).ownBlock)) (qR6_1) hg hat)).2.2) KL60.out))
                   have n4_ := Aside0.mk ((show Kd.C (Kd.int .i64) w70 A61 y259.length y259 from by rw [Ny259.out, KA61.out]; exact Kd.C_drop (m := (x13_3 : Int).toNat) (c := co20) ((Kd.R_reads' (Kd.R_after (ok := (fun k_ => some k_ ≠ (.slice Ao69 y253.length co69 : Value).ownBlock)) (qR6_1) hg hat)).2.2) KL61.out ((Kd.R_reads' (Kd.R_after (ok := (fun k_ => some k_ ≠ (.slice Ao69 y253.length co69 : Value).ownBlock)) (qR6_1) hg hat)).2.1)))
                   have n5_ := Aside0.mk (ho); clear HO_10; clear HO255; clear HB; clear HR248; clear HR262; clear HO258
                   have HO_10 := n0_
                   have HO255 := n1_
                   have HB := n2_
                   have HR248 := n3_
                   have HR262 := n4_
                   have HO265 := n5_
                   clear n0_ n1_ n2_ n3_ n4_ n5_; clear ho hb hg hat
                   refine hK.out _ _ (((HB.out.cell (World.block_lt_of_cell? w _ hw252_0)).trans hw252_0)) (fun hHeld => ?_)
                   clear hK K
                   refine norm_ (a' := ?_) ?_ ?_
                   rotate_left
                   ·show Act.put _ (some 75) _ = _
                    simp only [Act.put, List.setIfInBounds_toArray, List.set_cons_zero, List.set_cons_succ, i64_w, i32_w]
                    rfl
                   refine pure_ (i := 15) (N := some 10) (v := ?_) (a' := ?_) qR6_b18 rfl rfl (qR6_12) (fun _ _ _ h => h) (Or.inl ⟨by rfl, ?_⟩) ?_ ?_
                   rotate_left; exact qR6_c3; rotate_left; exact qR6_c0
                   refine done_ (by exact done_of HT_.out (by kernel_rfl)) ?_
                   try go_wp2
                   go_roundg k3
                   case measure => have := HJ4.out; have := HK2.out; have := HK3.out; omega
                   case rel => exact ⟨(y263), (wrap64 (x11_2 + 1)), (qR6_29), H', ⟨by have := HJ4.out; have := HK2.out; have := HK3.out; omega⟩, ⟨(by (with_reducible repeat (first | apply Kd.R_alloc | apply Kd.R_drewN | apply Kd.R_drew)); exact Kd.R_mono HO265.out (fun _ hk => trivial))⟩, ⟨(qR6_0)⟩⟩
                  ·rw [if_neg c58] at H
                   exact absurd H (by simp)
                 ·rw [if_neg c55] at H
                  exact absurd H (by simp)
                ·rw [if_neg c54] at H
                 exact absurd H (by simp)
               ·rw [if_neg c53] at H
                exact absurd H (by simp)
              ·rw [if_neg c52] at H
               exact absurd H (by simp)
             ·rw [if_neg c51] at H
              exact absurd H (by simp)
            ·rw [if_neg c50] at H
             exact absurd H (by simp)
       ·rw [if_neg c15] at H
        exact absurd H (by simp)
      ·rw [if_neg c14] at H
       have c14b0 : decide (x11_2 < (l3.length : Int)) = false := decide_eq_false c14
       clear c14
       simp only [Option.some.injEq, Prod.mk.injEq] at H
       obtain ⟨rfl, rfl⟩ := H
       go_wp2
       go_ret2
       exact ⟨_, (qR6_39), (qR6_1), (qR6_0)⟩

end Go.Proofs.Ytfgkpokjhihaaaa.MR
