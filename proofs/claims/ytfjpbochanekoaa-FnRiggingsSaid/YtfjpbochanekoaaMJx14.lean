-- Written by a program of this session (wip/drv.py, wip/tight.py).
import Derived.Test.YtfjpbochanekoaaMJx0
import Derived.Test.YtfjpbochanekoaaMJx3
import Derived.Test.YtfjpbochanekoaaMJx4
import Derived.Test.YtfjpbochanekoaaMJx5
import Derived.Test.YtfjpbochanekoaaMJx8
import Derived.Test.YtfjpbochanekoaaMJx10
import Derived.Test.YtfjpbochanekoaaMJx11
import Derived.Test.YtfjpbochanekoaaMJx13
namespace Go.Proofs.Ytfjpbochanekoaa.MJ
open Go.RowKit Go.Proofs.YtfjpbochanekoaaW.PrintWords Go.Proofs.YtfjpbochanekoaaW.PrintLast Go.Proofs.YtfjpbochanekoaaW.PrintMore
theorem qJ14_0 {p : Prop} (h : p := by repeat (first | (with_reducible first | exact HB.out | apply below_alloc | apply pw_below_drewN | apply below_drew1) | exact HB.out)) : p := h
theorem qJ14_1 {p : Prop} (h : p := by (with_reducible repeat (first | apply Kd.R_alloc | apply Kd.R_drewN | apply Kd.R_drew)); exact HO_3.out) : p := h
theorem qJ14_2 {p : Prop} (h : p := by (try simp only [List.map_toArray, List.map_cons, List.map_nil]); first | done | rfl | (simp only [List.length_drop, List.length_take]; rfl)) : p := h
theorem qJ14_3 {p : Prop} (h : p := by repeat (first | exact (Kd.R_reads' HO_4.out).2.2 | (with_reducible refine Kd.C_alloc ?_ _) | (with_reducible refine Kd.C_drewN ?_ _) | (with_reducible refine Kd.C_drew ?_))) : p := h
theorem qJ14_4 {p : Prop} (h : p := by (with_reducible repeat (first | apply Kd.R_alloc | apply Kd.R_drewN | apply Kd.R_drew)); exact HO_4.out) : p := h
theorem qJ14_5 {p : Prop} (h : p := by repeat (first | exact (Kd.R_reads' HO_3.out).2.2 | (with_reducible refine Kd.C_alloc ?_ _) | (with_reducible refine Kd.C_drewN ?_ _) | (with_reducible refine Kd.C_drew ?_))) : p := h
theorem qJ14_6 {p : Prop} (h : p := by first | rfl | (simp [errW_none, errW_some] <;> rfl) | (simp [*, errW_none, errW_some] <;> rfl)) : p := h
theorem qJ14_7 {p : Prop} (h : p := by (with_reducible repeat (first | apply Kd.R_alloc | apply Kd.R_drewN | apply Kd.R_drew)); exact HO437.out) : p := h
theorem qJ14_8 {p : Prop} (h : p := by (with_reducible repeat (first | apply Kd.R_alloc | apply Kd.R_drewN | apply Kd.R_drew)); exact HO439.out) : p := h
theorem qJ14_9 {p : Prop} (h : p := by (with_reducible repeat (first | apply Kd.R_alloc | apply Kd.R_drewN | apply Kd.R_drew)); exact HO441.out) : p := h
theorem qJ14_10 {p : Prop} (h : p := by first | rfl | (simp; done) | (simp [*]; done)) : p := h
theorem qJ14_11 {p : Prop} (h : p := by repeat (first | exact (Kd.R_reads' HO437.out).2.2 | (with_reducible refine Kd.C_alloc ?_ _) | (with_reducible refine Kd.C_drewN ?_ _) | (with_reducible refine Kd.C_drew ?_))) : p := h
theorem qJ14_12 {p : Prop} (h : p := by (with_reducible repeat (first | apply Kd.R_alloc | apply Kd.R_drewN | apply Kd.R_drew)); exact HO_5.out) : p := h
theorem qJ14_13 {p : Prop} (h : p := by repeat (first | exact (Kd.R_reads' HO439.out).2.2 | (with_reducible refine Kd.C_alloc ?_ _) | (with_reducible refine Kd.C_drewN ?_ _) | (with_reducible refine Kd.C_drew ?_))) : p := h
theorem qJ14_14 {p : Prop} (h : p := by exact (Kd.R_reads' HO_4.out).2.1) : p := h
theorem qJ14_15 {p : Prop} (h : p := by exact (Kd.R_reads' HO_3.out).2.1) : p := h
theorem qJ14_16 {p : Prop} (h : p := by repeat (first | exact HR0.out | (with_reducible refine Kd.C_alloc ?_ _) | (with_reducible refine Kd.C_drewN ?_ _) | (with_reducible refine Kd.C_drew ?_))) : p := h
theorem qJ14_17 {p : Prop} (h : p := by (with_reducible repeat (first | apply Kd.R_alloc | apply Kd.R_drewN | apply Kd.R_drew)); exact Kd.R_mono HO_4.out (fun _ hk => hk.1.1)) : p := h
theorem qJ14_18 {p : Prop} (h : p := by (with_reducible repeat (first | apply Kd.R_alloc | apply Kd.R_drewN | apply Kd.R_drew)); exact Kd.R_mono HO_5.out (fun _ hk => hk.1.1)) : p := h
theorem qJ14_19 {p : Prop} (h : p := by repeat (first | exact (Kd.R_reads' HO441.out).2.2 | (with_reducible refine Kd.C_alloc ?_ _) | (with_reducible refine Kd.C_drewN ?_ _) | (with_reducible refine Kd.C_drew ?_))) : p := h
theorem qJ14_20 {p : Prop} (h : p := by (with_reducible repeat (first | apply Kd.R_alloc | apply Kd.R_drewN | apply Kd.R_drew)); exact Kd.R_mono HO_4.out (fun _ hk => trivial)) : p := h
theorem qJ14_21 {p : Prop} (h : p := by first | (with_reducible assumption) | assumption) : p := h
theorem qJ14_22 {p : Prop} (h : p := by (with_reducible repeat (first | apply Kd.R_alloc | apply Kd.R_drewN | apply Kd.R_drew)); exact HO452.out) : p := h
attribute [local go_sem] max2_int min2_int max_two min_two max_three min_three max_four min_four   -- for this text's walks alone
set_option linter.unusedVariables false
set_option linter.unusedSimpArgs false

/-! ### laws_FnRiggings: function 5 -/
mutual
def laws_FnRiggings.j0 : Nat → List (S36) → List Int → List Int → Bool → Bool → Option (Bool)
 | 0, _, _, _, _, _ => none
 | k + 1, x3, x4, x5, x6, x65 => if x65 = true then (some false) else ((impl_BestRigging.f k x3 x4).bind fun bt448 => ((spec_BestRigging.f k x3 x4).bind fun bt453 => (if (bt448.2.2 != bt453.2.2) = true then (laws_FnRiggings.j1 k x3 x4 x5 x6 bt448.2.1 bt448.2.2 true) else (if bt448.2.1 = bt453.2.1 then ((laws_rInts.f k bt448.1 bt453.1).bind fun t458 => (laws_FnRiggings.j1 k x3 x4 x5 x6 bt448.2.1 bt448.2.2 (!t458))) else (laws_FnRiggings.j1 k x3 x4 x5 x6 bt448.2.1 bt448.2.2 true)))))
def laws_FnRiggings.j1 : Nat → List (S36) → List Int → List Int → Bool → Int → Bool → Bool → Option (Bool)
 | 0, _, _, _, _, _, _, _ => none
 | k + 1, x3, x4, x5, x6, x11, x12, x93 => if x93 = true then (some false) else (if x6 = true then (laws_FnRiggings.l0 k x3 x4 x5 x11 x12 0 0) else (laws_FnRiggings.j3 k x3 x4 x11 x12))
def laws_FnRiggings.j3 : Nat → List (S36) → List Int → Int → Bool → Option (Bool)
 | 0, _, _, _, _ => none
 | k + 1, x3, x4, x11, x12 => (impl_SpareRope.f k x3 x4).bind fun bt461 => ((spec_SpareRope.f k x3 x4).bind fun bt463 => (if bt461.1 = bt463.1 then (if (bt461.2 != bt463.2) = true then (laws_FnRiggings.j4 k x3 x4 x12 true) else (if (bt461.2 != x12) = true then (laws_FnRiggings.j4 k x3 x4 x12 true) else (if x12 = true then ((laws_rSum.f k x4).bind fun t465 => (laws_FnRiggings.j4 k x3 x4 x12 ((wrap64 (bt461.1 + x11)) != t465))) else (laws_FnRiggings.j4 k x3 x4 x12 false)))) else (laws_FnRiggings.j4 k x3 x4 x12 true)))
def laws_FnRiggings.j4 : Nat → List (S36) → List Int → Bool → Bool → Option (Bool)
 | 0, _, _, _, _ => none
 | k + 1, x3, x4, x12, x152 => if x152 = true then (some false) else ((impl_DeepestFirst.f k x3 x4).bind fun bt466 => ((spec_DeepestFirst.f k x3 x4).bind fun bt468 => (if bt466.1 = bt468.1 then (if (bt466.2 != bt468.2) = true then (some false) else (if bt466.2 = true then (some (x12 == (bt466.1 == (x3.length : Int)))) else (some true))) else (some false))))
def laws_FnRiggings.l0 : Nat → List (S36) → List Int → List Int → Int → Bool → Int → Int → Option (Bool)
 | 0, _, _, _, _, _, _, _ => none
 | k + 1, x3, x4, x5, x11, x12, x16, x17 => if x17 < (x5.length : Int) then (if 0 ≤ x17 then (if 0 ≤ (rd x5 x17) then (if (rd x5 x17) < (x4.length : Int) then (laws_FnRiggings.l0 k x3 x4 x5 x11 x12 (wrap64 (x16 + (rd x4 (rd x5 x17)))) (wrap64 (x17 + 1))) else (none)) else (none)) else (none)) else (if x12 = true then (if x11 > x16 then (some false) else (laws_FnRiggings.j3 k x3 x4 x11 x12)) else (some false))
end
def laws_FnRiggings.f (k : Nat) (l0 : List Int) : Option (Bool) := (laws_rBig.f l0).bind fun t432 => (if t432 = true then (some true) else ((spec_DrawIsRigging.f k l0).bind fun bt433 => ((impl_IsRigging.f k bt433.1 bt433.2.1 bt433.2.2).bind fun bt442 => ((spec_IsRigging.f k bt433.1 bt433.2.1 bt433.2.2).bind fun bt444 => (if (bt442.1 != bt444.1) = true then (laws_FnRiggings.j0 k bt433.1 bt433.2.1 bt433.2.2 bt442.1 true) else (if (bt442.2 != bt444.2) = true then (laws_FnRiggings.j0 k bt433.1 bt433.2.1 bt433.2.2 bt442.1 true) else ((impl_ArePitches.f bt433.1).bind fun t446 => (if t446 = true then ((impl_AreRopes.f bt433.2.1).bind fun t447 => (laws_FnRiggings.j0 k bt433.1 bt433.2.1 bt433.2.2 bt442.1 (bt442.2 != t447))) else (laws_FnRiggings.j0 k bt433.1 bt433.2.1 bt433.2.2 bt442.1 (bt442.2 != false))))))))))
theorem laws_FnRiggings.mono_l : ∀ k, (∀ y0 y1 y2 y3 y4, LeO (laws_FnRiggings.j0 k y0 y1 y2 y3 y4) (laws_FnRiggings.j0 (k + 1) y0 y1 y2 y3 y4)) ∧ (∀ y0 y1 y2 y3 y4 y5 y6, LeO (laws_FnRiggings.j1 k y0 y1 y2 y3 y4 y5 y6) (laws_FnRiggings.j1 (k + 1) y0 y1 y2 y3 y4 y5 y6)) ∧ (∀ y0 y1 y2 y3, LeO (laws_FnRiggings.j3 k y0 y1 y2 y3) (laws_FnRiggings.j3 (k + 1) y0 y1 y2 y3)) ∧ (∀ y0 y1 y2 y3, LeO (laws_FnRiggings.j4 k y0 y1 y2 y3) (laws_FnRiggings.j4 (k + 1) y0 y1 y2 y3)) ∧ (∀ y0 y1 y2 y3 y4 y5 y6, LeO (laws_FnRiggings.l0 k y0 y1 y2 y3 y4 y5 y6) (laws_FnRiggings.l0 (k + 1) y0 y1 y2 y3 y4 y5 y6))
 | 0 => ⟨fun _ _ _ _ _ r h => by simp [laws_FnRiggings.j0] at h, fun _ _ _ _ _ _ _ r h => by simp [laws_FnRiggings.j1] at h, fun _ _ _ _ r h => by simp [laws_FnRiggings.j3] at h, fun _ _ _ _ r h => by simp [laws_FnRiggings.j4] at h, fun _ _ _ _ _ _ _ r h => by simp [laws_FnRiggings.l0] at h⟩
 | k + 1 => by
  obtain ⟨ih0, ih1, ih2, ih3, ih4⟩ := laws_FnRiggings.mono_l k
  refine ⟨?_, ?_, ?_, ?_, ?_⟩
  ·intro y0 y1 y2 y3 y4
   unfold laws_FnRiggings.j0
   repeat' first
   | (with_reducible exact ih0 _ _ _ _ _)
   | (with_reducible exact ih1 _ _ _ _ _ _ _)
   | (with_reducible exact ih2 _ _ _ _)
   | (with_reducible exact ih3 _ _ _ _)
   | (with_reducible exact ih4 _ _ _ _ _ _ _)
   | (with_reducible exact impl_BestRigging.mono _ _ _)
   | (with_reducible exact impl_DeepestFirst.mono _ _ _)
   | (with_reducible exact impl_IsRigging.mono _ _ _ _)
   | (with_reducible exact impl_SpareRope.mono _ _ _)
   | (with_reducible exact laws_rInts.mono _ _ _)
   | (with_reducible exact laws_rSum.mono _ _)
   | (with_reducible exact spec_BestRigging.mono _ _ _)
   | (with_reducible exact spec_DeepestFirst.mono _ _ _)
   | (with_reducible exact spec_DrawIsRigging.mono _ _)
   | (with_reducible exact spec_IsRigging.mono _ _ _ _)
   | (with_reducible exact spec_SpareRope.mono _ _ _)
   | (with_reducible exact LeO.refl _)
   | (with_reducible exact LeO.none _)
   | (with_reducible refine LeO.ite ?_ ?_)
   | (with_reducible refine LeO.bind ?_ (fun _ => ?_))
   | exact ih0 _ _ _ _ _
   | exact ih1 _ _ _ _ _ _ _
   | exact ih2 _ _ _ _
   | exact ih3 _ _ _ _
   | exact ih4 _ _ _ _ _ _ _
   | exact impl_BestRigging.mono _ _ _
   | exact impl_DeepestFirst.mono _ _ _
   | exact impl_IsRigging.mono _ _ _ _
   | exact impl_SpareRope.mono _ _ _
   | exact laws_rInts.mono _ _ _
   | exact laws_rSum.mono _ _
   | exact spec_BestRigging.mono _ _ _
   | exact spec_DeepestFirst.mono _ _ _
   | exact spec_DrawIsRigging.mono _ _
   | exact spec_IsRigging.mono _ _ _ _
   | exact spec_SpareRope.mono _ _ _
   | exact LeO.none _
   | refine LeO.ite ?_ ?_
   | refine LeO.bind ?_ (fun _ => ?_)
  ·intro y0 y1 y2 y3 y4 y5 y6
   unfold laws_FnRiggings.j1
   repeat' first
   | (with_reducible exact ih0 _ _ _ _ _)
   | (with_reducible exact ih1 _ _ _ _ _ _ _)
   | (with_reducible exact ih2 _ _ _ _)
   | (with_reducible exact ih3 _ _ _ _)
   | (with_reducible exact ih4 _ _ _ _ _ _ _)
   | (with_reducible exact impl_BestRigging.mono _ _ _)
   | (with_reducible exact impl_DeepestFirst.mono _ _ _)
   | (with_reducible exact impl_IsRigging.mono _ _ _ _)
   | (with_reducible exact impl_SpareRope.mono _ _ _)
   | (with_reducible exact laws_rInts.mono _ _ _)
   | (with_reducible exact laws_rSum.mono _ _)
   | (with_reducible exact spec_BestRigging.mono _ _ _)
   | (with_reducible exact spec_DeepestFirst.mono _ _ _)
   | (with_reducible exact spec_DrawIsRigging.mono _ _)
   | (with_reducible exact spec_IsRigging.mono _ _ _ _)
   | (with_reducible exact spec_SpareRope.mono _ _ _)
   | (with_reducible exact LeO.refl _)
   | (with_reducible exact LeO.none _)
   | (with_reducible refine LeO.ite ?_ ?_)
   | (with_reducible refine LeO.bind ?_ (fun _ => ?_))
   | exact ih0 _ _ _ _ _
   | exact ih1 _ _ _ _ _ _ _
   | exact ih2 _ _ _ _
   | exact ih3 _ _ _ _
   | exact ih4 _ _ _ _ _ _ _
   | exact impl_BestRigging.mono _ _ _
   | exact impl_DeepestFirst.mono _ _ _
   | exact impl_IsRigging.mono _ _ _ _
   | exact impl_SpareRope.mono _ _ _
   | exact laws_rInts.mono _ _ _
   | exact laws_rSum.mono _ _
   | exact spec_BestRigging.mono _ _ _
   | exact spec_DeepestFirst.mono _ _ _
   | exact spec_DrawIsRigging.mono _ _
   | exact spec_IsRigging.mono _ _ _ _
   | exact spec_SpareRope.mono _ _ _
   | exact LeO.none _
   | refine LeO.ite ?_ ?_
   | refine LeO.bind ?_ (fun _ => ?_)
  ·intro y0 y1 y2 y3
   unfold laws_FnRiggings.j3
   repeat' first
   | (with_reducible exact ih0 _ _ _ _ _)
   | (with_reducible exact ih1 _ _ _ _ _ _ _)
   | (with_reducible exact ih2 _ _ _ _)
   | (with_reducible exact ih3 _ _ _ _)
   | (with_reducible exact ih4 _ _ _ _ _ _ _)
   | (with_reducible exact impl_BestRigging.mono _ _ _)
   | (with_reducible exact impl_DeepestFirst.mono _ _ _)
   | (with_reducible exact impl_IsRigging.mono _ _ _ _)
   | (with_reducible exact impl_SpareRope.mono _ _ _)
   | (with_reducible exact laws_rInts.mono _ _ _)
   | (with_reducible exact laws_rSum.mono _ _)
   | (with_reducible exact spec_BestRigging.mono _ _ _)
   | (with_reducible exact spec_DeepestFirst.mono _ _ _)
   | (with_reducible exact spec_DrawIsRigging.mono _ _)
   | (with_reducible exact spec_IsRigging.mono _ _ _ _)
   | (with_reducible exact spec_SpareRope.mono _ _ _)
   | (with_reducible exact LeO.refl _)
   | (with_reducible exact LeO.none _)
   | (with_reducible refine LeO.ite ?_ ?_)
   | (with_reducible refine LeO.bind ?_ (fun _ => ?_))
   | exact ih0 _ _ _ _ _
   | exact ih1 _ _ _ _ _ _ _
   | exact ih2 _ _ _ _
   | exact ih3 _ _ _ _
   | exact ih4 _ _ _ _ _ _ _
   | exact impl_BestRigging.mono _ _ _
   | exact impl_DeepestFirst.mono _ _ _
   | exact impl_IsRigging.mono _ _ _ _
   | exact impl_SpareRope.mono _ _ _
   | exact laws_rInts.mono _ _ _
   | exact laws_rSum.mono _ _
   | exact spec_BestRigging.mono _ _ _
   | exact spec_DeepestFirst.mono _ _ _
   | exact spec_DrawIsRigging.mono _ _
   | exact spec_IsRigging.mono _ _ _ _
   | exact spec_SpareRope.mono _ _ _
   | exact LeO.none _
   | refine LeO.ite ?_ ?_
   | refine LeO.bind ?_ (fun _ => ?_)
  ·intro y0 y1 y2 y3
   unfold laws_FnRiggings.j4
   repeat' first
   | (with_reducible exact ih0 _ _ _ _ _)
   | (with_reducible exact ih1 _ _ _ _ _ _ _)
   | (with_reducible exact ih2 _ _ _ _)
   | (with_reducible exact ih3 _ _ _ _)
   | (with_reducible exact ih4 _ _ _ _ _ _ _)
   | (with_reducible exact impl_BestRigging.mono _ _ _)
   | (with_reducible exact impl_DeepestFirst.mono _ _ _)
   | (with_reducible exact impl_IsRigging.mono _ _ _ _)
   | (with_reducible exact impl_SpareRope.mono _ _ _)
   | (with_reducible exact laws_rInts.mono _ _ _)
   | (with_reducible exact laws_rSum.mono _ _)
   | (with_reducible exact spec_BestRigging.mono _ _ _)
   | (with_reducible exact spec_DeepestFirst.mono _ _ _)
   | (with_reducible exact spec_DrawIsRigging.mono _ _)
   | (with_reducible exact spec_IsRigging.mono _ _ _ _)
   | (with_reducible exact spec_SpareRope.mono _ _ _)
   | (with_reducible exact LeO.refl _)
   | (with_reducible exact LeO.none _)
   | (with_reducible refine LeO.ite ?_ ?_)
   | (with_reducible refine LeO.bind ?_ (fun _ => ?_))
   | exact ih0 _ _ _ _ _
   | exact ih1 _ _ _ _ _ _ _
   | exact ih2 _ _ _ _
   | exact ih3 _ _ _ _
   | exact ih4 _ _ _ _ _ _ _
   | exact impl_BestRigging.mono _ _ _
   | exact impl_DeepestFirst.mono _ _ _
   | exact impl_IsRigging.mono _ _ _ _
   | exact impl_SpareRope.mono _ _ _
   | exact laws_rInts.mono _ _ _
   | exact laws_rSum.mono _ _
   | exact spec_BestRigging.mono _ _ _
   | exact spec_DeepestFirst.mono _ _ _
   | exact spec_DrawIsRigging.mono _ _
   | exact spec_IsRigging.mono _ _ _ _
   | exact spec_SpareRope.mono _ _ _
   | exact LeO.none _
   | refine LeO.ite ?_ ?_
   | refine LeO.bind ?_ (fun _ => ?_)
  ·intro y0 y1 y2 y3 y4 y5 y6
   unfold laws_FnRiggings.l0
   repeat' first
   | (with_reducible exact ih0 _ _ _ _ _)
   | (with_reducible exact ih1 _ _ _ _ _ _ _)
   | (with_reducible exact ih2 _ _ _ _)
   | (with_reducible exact ih3 _ _ _ _)
   | (with_reducible exact ih4 _ _ _ _ _ _ _)
   | (with_reducible exact impl_BestRigging.mono _ _ _)
   | (with_reducible exact impl_DeepestFirst.mono _ _ _)
   | (with_reducible exact impl_IsRigging.mono _ _ _ _)
   | (with_reducible exact impl_SpareRope.mono _ _ _)
   | (with_reducible exact laws_rInts.mono _ _ _)
   | (with_reducible exact laws_rSum.mono _ _)
   | (with_reducible exact spec_BestRigging.mono _ _ _)
   | (with_reducible exact spec_DeepestFirst.mono _ _ _)
   | (with_reducible exact spec_DrawIsRigging.mono _ _)
   | (with_reducible exact spec_IsRigging.mono _ _ _ _)
   | (with_reducible exact spec_SpareRope.mono _ _ _)
   | (with_reducible exact LeO.refl _)
   | (with_reducible exact LeO.none _)
   | (with_reducible refine LeO.ite ?_ ?_)
   | (with_reducible refine LeO.bind ?_ (fun _ => ?_))
   | exact ih0 _ _ _ _ _
   | exact ih1 _ _ _ _ _ _ _
   | exact ih2 _ _ _ _
   | exact ih3 _ _ _ _
   | exact ih4 _ _ _ _ _ _ _
   | exact impl_BestRigging.mono _ _ _
   | exact impl_DeepestFirst.mono _ _ _
   | exact impl_IsRigging.mono _ _ _ _
   | exact impl_SpareRope.mono _ _ _
   | exact laws_rInts.mono _ _ _
   | exact laws_rSum.mono _ _
   | exact spec_BestRigging.mono _ _ _
   | exact spec_DeepestFirst.mono _ _ _
   | exact spec_DrawIsRigging.mono _ _
   | exact spec_IsRigging.mono _ _ _ _
   | exact spec_SpareRope.mono _ _ _
   | exact LeO.none _
   | refine LeO.ite ?_ ?_
   | refine LeO.bind ?_ (fun _ => ?_)
theorem laws_FnRiggings.mono : ∀ a0 k, LeO (laws_FnRiggings.f k a0) (laws_FnRiggings.f (k + 1) a0) := by
 intro a0 k
 obtain ⟨ih0, ih1, ih2, ih3, ih4⟩ := laws_FnRiggings.mono_l k
 unfold laws_FnRiggings.f
 repeat' first
   | (with_reducible exact ih0 _ _ _ _ _)
   | (with_reducible exact ih1 _ _ _ _ _ _ _)
   | (with_reducible exact ih2 _ _ _ _)
   | (with_reducible exact ih3 _ _ _ _)
   | (with_reducible exact ih4 _ _ _ _ _ _ _)
   | (with_reducible exact impl_BestRigging.mono _ _ _)
   | (with_reducible exact impl_DeepestFirst.mono _ _ _)
   | (with_reducible exact impl_IsRigging.mono _ _ _ _)
   | (with_reducible exact impl_SpareRope.mono _ _ _)
   | (with_reducible exact laws_rInts.mono _ _ _)
   | (with_reducible exact laws_rSum.mono _ _)
   | (with_reducible exact spec_BestRigging.mono _ _ _)
   | (with_reducible exact spec_DeepestFirst.mono _ _ _)
   | (with_reducible exact spec_DrawIsRigging.mono _ _)
   | (with_reducible exact spec_IsRigging.mono _ _ _ _)
   | (with_reducible exact spec_SpareRope.mono _ _ _)
   | (with_reducible exact LeO.refl _)
   | (with_reducible exact LeO.none _)
   | (with_reducible refine LeO.ite ?_ ?_)
   | (with_reducible refine LeO.bind ?_ (fun _ => ?_))
   | exact ih0 _ _ _ _ _
   | exact ih1 _ _ _ _ _ _ _
   | exact ih2 _ _ _ _
   | exact ih3 _ _ _ _
   | exact ih4 _ _ _ _ _ _ _
   | exact impl_BestRigging.mono _ _ _
   | exact impl_DeepestFirst.mono _ _ _
   | exact impl_IsRigging.mono _ _ _ _
   | exact impl_SpareRope.mono _ _ _
   | exact laws_rInts.mono _ _ _
   | exact laws_rSum.mono _ _
   | exact spec_BestRigging.mono _ _ _
   | exact spec_DeepestFirst.mono _ _ _
   | exact spec_DrawIsRigging.mono _ _
   | exact spec_IsRigging.mono _ _ _ _
   | exact spec_SpareRope.mono _ _ _
   | exact LeO.none _
   | refine LeO.ite ?_ ?_
   | refine LeO.bind ?_ (fun _ => ?_)
set_option maxHeartbeats 8000000 in
set_option maxRecDepth 100000 in
theorem laws_FnRiggings.calls (k : Nat) (A0 : Option Addr) (c0 : Nat) (l0 : List Int) (r : Bool) (w : World) (hr0 : Kd.C (Kd.int .u8) w A0 l0.length l0) (hc0 : l0.length ≤ c0) (h : laws_FnRiggings.f k l0 = some r) :
  Calls Try.prog 5 #[.slice A0 l0.length c0] w fun e w' => e = .returned (.bool r) ∧ Below w.heap.size w w' := by
 have HR0 := Aside0.mk hr0; have HC0 := Aside0.mk hc0; clear hr0 hc0
 have HB := Aside0.mk (Below.refl w.heap.size w)
 have H : ((laws_rBig.f l0).bind fun t432 => (if t432 = true then (some true) else ((spec_DrawIsRigging.f k l0).bind fun bt433 => ((impl_IsRigging.f k bt433.1 bt433.2.1 bt433.2.2).bind fun bt442 => ((spec_IsRigging.f k bt433.1 bt433.2.1 bt433.2.2).bind fun bt444 => (if (bt442.1 != bt444.1) = true then (laws_FnRiggings.j0 k bt433.1 bt433.2.1 bt433.2.2 bt442.1 true) else (if (bt442.2 != bt444.2) = true then (laws_FnRiggings.j0 k bt433.1 bt433.2.1 bt433.2.2 bt442.1 true) else ((impl_ArePitches.f bt433.1).bind fun t446 => (if t446 = true then ((impl_AreRopes.f bt433.2.1).bind fun t447 => (laws_FnRiggings.j0 k bt433.1 bt433.2.1 bt433.2.2 bt442.1 (bt442.2 != t447))) else (laws_FnRiggings.j0 k bt433.1 bt433.2.1 bt433.2.2 bt442.1 (bt442.2 != false))))))))))) = some r := h
 clear h; replace H := Option.bind_eq_some_iff.mp H; obtain ⟨t432, A20, H⟩ := H
 try dsimp only at H
 have A2 := Aside0.mk A20; clear A20
 by_cases c3 : t432 = true
 ·as_aux_lemma =>
  subst c3
  have H1 : (some true) = some r := by rw [if_pos rfl] at H; exact H
  clear H; have H := H1; clear H1; obtain rfl := Option.some.inj H
  go_enter Try.func5, Try.ntmps5
  go_wp2_with (first | ((with_reducible refine gate_callee (f := 13) rfl ?_); refine goesL_ (some 27) rfl rfl Try.func13 (by kernel_rfl) rfl #[.slice A0 l0.length c0] rfl (qJ14_2) ?_; (with_reducible refine (laws_rBig.calls _ _ l0 true _ ?side1 ?side2 A2.out).mono ?_); (case side1 => exact (qJ14_16)); (case side2 => exact HC0.out); rintro e w' ⟨rfl, ⟨nd, rfl⟩⟩; refine ⟨_, rfl, ?_⟩))
  go_ret
  exact ⟨(qJ14_6), (qJ14_0)⟩
 ·as_aux_lemma =>
  replace c3 := Bool.eq_false_iff.mpr c3
  subst c3
  have H1 : ((spec_DrawIsRigging.f k l0).bind fun bt433 => ((impl_IsRigging.f k bt433.1 bt433.2.1 bt433.2.2).bind fun bt442 => ((spec_IsRigging.f k bt433.1 bt433.2.1 bt433.2.2).bind fun bt444 => (if (bt442.1 != bt444.1) = true then (laws_FnRiggings.j0 k bt433.1 bt433.2.1 bt433.2.2 bt442.1 true) else (if (bt442.2 != bt444.2) = true then (laws_FnRiggings.j0 k bt433.1 bt433.2.1 bt433.2.2 bt442.1 true) else ((impl_ArePitches.f bt433.1).bind fun t446 => (if t446 = true then ((impl_AreRopes.f bt433.2.1).bind fun t447 => (laws_FnRiggings.j0 k bt433.1 bt433.2.1 bt433.2.2 bt442.1 (bt442.2 != t447))) else (laws_FnRiggings.j0 k bt433.1 bt433.2.1 bt433.2.2 bt442.1 (bt442.2 != false))))))))) = some r := by rw [if_neg (show ¬ (false = true) by decide)] at H; exact H
  clear H; have H := H1; clear H1; replace H := Option.bind_eq_some_iff.mp H; obtain ⟨⟨t433, t434, t435⟩, A40, H⟩ := H
  try dsimp only at H
  have A4 := Aside0.mk A40; clear A40; replace H := Option.bind_eq_some_iff.mp H; obtain ⟨⟨t442, t443⟩, A50, H⟩ := H
  try dsimp only at H
  have A5 := Aside0.mk A50; clear A50; replace H := Option.bind_eq_some_iff.mp H; obtain ⟨⟨t444, t445⟩, A60, H⟩ := H
  try dsimp only at H
  have A6 := Aside0.mk A60; clear A60; have HC7 := Aside0.mk H; clear H
  go_enter Try.func5, Try.ntmps5
  go_upto_region 6 with (first | ((with_reducible refine gate_callee (f := 13) rfl ?_); refine goesL_ (some 27) rfl rfl Try.func13 (by kernel_rfl) rfl #[.slice A0 l0.length c0] rfl (qJ14_2) ?_; (with_reducible refine (laws_rBig.calls _ _ l0 false _ ?side1 ?side2 A2.out).mono ?_); (case side1 => exact (qJ14_16)); (case side2 => exact HC0.out); rintro e w' ⟨rfl, ⟨nd, rfl⟩⟩; refine ⟨_, rfl, ?_⟩) | ((with_reducible refine gate_callee (f := 25) rfl ?_); refine goesL_ (some 30) rfl rfl Try.func25 (by kernel_rfl) rfl #[.slice A0 l0.length c0] rfl (qJ14_2) ?_; (with_reducible refine (spec_DrawIsRigging.calls k _ _ l0 t433 t434 t435 _ ?side1 ?side2 A4.out).mono ?_); (case side1 => exact (qJ14_16)); (case side2 => exact HC0.out); rintro e w8 ⟨v436, v438, v440, rfl, ho0, ho1, ho2, hb⟩; refine ⟨_, rfl, ?_⟩; have n0_ := Aside0.mk (Kd.R_lower ho0 (below_size (qJ14_0))); have n1_ := Aside0.mk (Kd.R_lower ho1 (below_size (qJ14_0))); have n2_ := Aside0.mk (Kd.R_lower ho2 (below_size (qJ14_0))); have n3_ := Aside0.mk (below_step (qJ14_0) hb); clear HB; have HO437 := n0_; have HO439 := n1_; have HO441 := n2_; have HB := n3_; clear n0_ n1_ n2_ n3_; (try clear hb); (try clear hb2); (try clear hk); (try clear hi); (try clear ho0); (try clear ho1); (try clear ho2); obtain ⟨Ao9, co9, eo9⟩ := Kd.R_slice HO437.out; subst eo9; obtain ⟨Ao10, co10, eo10⟩ := Kd.R_slice HO439.out; subst eo10; obtain ⟨Ao11, co11, eo11⟩ := Kd.R_slice HO441.out; subst eo11) | ((with_reducible refine gate_callee (f := 26) rfl ?_); refine goesL_ (some 38) rfl rfl Try.func26 (by kernel_rfl) rfl #[.slice Ao9 t433.length co9, .slice Ao10 t434.length co10, .slice Ao11 t435.length co11] rfl (qJ14_2) ?_; (with_reducible refine (impl_IsRigging.calls k _ _ t433 _ _ t434 _ _ t435 t442 t443 _ ?side1 ?side2 ?side3 ?side4 ?side5 ?side6 A5.out).mono ?_); (case side1 => exact (qJ14_11)); (case side2 => exact (by exact (Kd.R_reads' HO437.out).2.1)); (case side3 => exact (qJ14_13)); (case side4 => exact (by exact (Kd.R_reads' HO439.out).2.1)); (case side5 => exact (qJ14_19)); (case side6 => exact (by exact (Kd.R_reads' HO441.out).2.1)); rintro e w12 ⟨rfl, hb⟩; refine ⟨_, rfl, ?_⟩; have n0_ := Aside0.mk (Kd.R_below (qJ14_7) hb); have n1_ := Aside0.mk (Kd.R_below (qJ14_8) hb); have n2_ := Aside0.mk (Kd.R_below (qJ14_9) hb); have n3_ := Aside0.mk (below_step (qJ14_0) hb); clear HO437 HO439 HO441 HB; have HO437 := n0_; have HO439 := n1_; have HO441 := n2_; have HB := n3_; clear n0_ n1_ n2_ n3_; (try clear hb); (try clear hb2); (try clear hk); (try clear hi)) | ((with_reducible refine gate_callee (f := 27) rfl ?_); refine goesL_ (some 45) rfl rfl Try.func27 (by kernel_rfl) rfl #[.slice Ao9 t433.length co9, .slice Ao10 t434.length co10, .slice Ao11 t435.length co11] rfl (qJ14_2) ?_; (with_reducible refine (spec_IsRigging.calls k _ _ t433 _ _ t434 _ _ t435 t444 t445 _ ?side1 ?side2 ?side3 ?side4 ?side5 ?side6 A6.out).mono ?_); (case side1 => exact (qJ14_11)); (case side2 => exact (by exact (Kd.R_reads' HO437.out).2.1)); (case side3 => exact (qJ14_13)); (case side4 => exact (by exact (Kd.R_reads' HO439.out).2.1)); (case side5 => exact (qJ14_19)); (case side6 => exact (by exact (Kd.R_reads' HO441.out).2.1)); rintro e w13 ⟨rfl, hb⟩; refine ⟨_, rfl, ?_⟩; have n0_ := Aside0.mk (Kd.R_below (qJ14_7) hb); have n1_ := Aside0.mk (Kd.R_below (qJ14_8) hb); have n2_ := Aside0.mk (Kd.R_below (qJ14_9) hb); have n3_ := Aside0.mk (below_step (qJ14_0) hb); clear HO437 HO439 HO441 HB; have HO437 := n0_; have HO439 := n1_; have HO441 := n2_; have HB := n3_; clear n0_ n1_ n2_ n3_; (try clear hb); (try clear hb2); (try clear hk); (try clear hi)))
  (try simp only [Act.put, List.setIfInBounds_toArray, List.set_cons_zero, List.set_cons_succ])
  go_cut [65] (fun v65 wc => ∃ (kq : Nat) (x65_6 : Bool), v65 = .bool x65_6 ∧ Aside0 (laws_FnRiggings.j0 kq t433 t434 t435 t442 x65_6 = some r) ∧ Aside0 (kq ≤ k) ∧ Aside0 (Kd.R k36 36 wc w.heap.size (fun _ => True) (.slice Ao9 t433.length co9) t433) ∧ Aside0 (Kd.R (Kd.int .i64) 3 wc w.heap.size (fun k_ => some k_ ≠ ((.slice Ao11 t435.length co11) : Value).ownBlock) (.slice Ao10 t434.length co10) t434) ∧ Aside0 (Kd.R (Kd.int .i64) 3 wc w.heap.size (fun k_ => some k_ ≠ ((.slice Ao10 t434.length co10) : Value).ownBlock) (.slice Ao11 t435.length co11) t435) ∧ Aside0 (Below w.heap.size w wc))
  case first =>
   have H := HC7.out
   clear HC7
   by_cases c14 : (t442 != t444) = true
   ·as_aux_lemma =>
    rw [if_pos c14] at H
    have c14b0 : (t442 != t444) = true := c14
    (try (have c14b1 : decide (t442 = t444) = false := by simpa using c14))
    (try (have c14b2 : (t442 == t444) = false := by simpa using c14))
    (try (have c14b3 : ¬ (t442 = t444) := by simpa using c14))
    clear c14
    (first | rw [c14b0] | (simp only [i64_w, i32_w]; rw [c14b0]) | skip)
    have H' := Aside0.mk H
    clear H
    go_wp2
    go_meet
    case rel => exact ⟨_, (true), (qJ14_10), H', ⟨by first | omega | exact Nat.le_refl _⟩, ⟨(qJ14_7)⟩, ⟨(qJ14_8)⟩, ⟨(qJ14_9)⟩, ⟨(qJ14_0)⟩⟩
   ·as_aux_lemma =>
    rw [if_neg c14] at H
    have c14b0 : (t442 != t444) = false := by simpa using c14
    (try (have c14b1 : decide (t442 = t444) = true := by simpa using c14))
    (try (have c14b2 : (t442 == t444) = true := by simpa using c14))
    clear c14
    (first | rw [c14b0] | (simp only [i64_w, i32_w]; rw [c14b0]) | skip)
    by_cases c15 : (t443 != t445) = true
    ·as_aux_lemma =>
     rw [if_pos c15] at H
     have c15b0 : (t443 != t445) = true := c15
     (try (have c15b1 : decide (t443 = t445) = false := by simpa using c15))
     (try (have c15b2 : (t443 == t445) = false := by simpa using c15))
     (try (have c15b3 : ¬ (t443 = t445) := by simpa using c15))
     clear c15
     have H' := Aside0.mk H
     clear H
     go_wp2
     go_meet
     case rel => exact ⟨_, (true), (qJ14_10), H', ⟨by first | omega | exact Nat.le_refl _⟩, ⟨(qJ14_7)⟩, ⟨(qJ14_8)⟩, ⟨(qJ14_9)⟩, ⟨(qJ14_0)⟩⟩
    ·as_aux_lemma =>
     rw [if_neg c15] at H
     have c15b0 : (t443 != t445) = false := by simpa using c15
     (try (have c15b1 : decide (t443 = t445) = true := by simpa using c15))
     (try (have c15b2 : (t443 == t445) = true := by simpa using c15))
     clear c15; replace H := Option.bind_eq_some_iff.mp H; obtain ⟨t446, A160, H⟩ := H
     try dsimp only at H
     have A16 := Aside0.mk A160; clear A160
     by_cases c17 : t446 = true
     ·as_aux_lemma =>
      subst c17
      have H1 : ((impl_AreRopes.f t434).bind fun t447 => (laws_FnRiggings.j0 k t433 t434 t435 t442 (t443 != t447))) = some r := by rw [if_pos rfl] at H; exact H
      clear H; have H := H1; clear H1; replace H := Option.bind_eq_some_iff.mp H; obtain ⟨t447, A180, H⟩ := H
      try dsimp only at H
      have A18 := Aside0.mk A180; clear A180
      have H' := Aside0.mk H
      clear H
      go_wp2_with (first | (go_at_call 28; (with_reducible refine (impl_ArePitches.calls _ _ t433 true _ ?side1 ?side2 A16.out).mono ?_); (case side1 => exact (qJ14_11)); (case side2 => exact (by exact (Kd.R_reads' HO437.out).2.1)); rintro e w19 ⟨rfl, hb⟩; have n0_ := Aside0.mk (Kd.R_below (qJ14_7) hb); have n1_ := Aside0.mk (Kd.R_below (qJ14_8) hb); have n2_ := Aside0.mk (Kd.R_below (qJ14_9) hb); have n3_ := Aside0.mk (below_step (qJ14_0) hb); clear HO437 HO439 HO441 HB; have HO437 := n0_; have HO439 := n1_; have HO441 := n2_; have HB := n3_; clear n0_ n1_ n2_ n3_; (try clear hb); (try clear hb2); (try clear hk); (try clear hi)) | (go_at_call 29; (with_reducible refine (impl_AreRopes.calls _ _ t434 t447 _ ?side1 ?side2 A18.out).mono ?_); (case side1 => exact (qJ14_13)); (case side2 => exact (by exact (Kd.R_reads' HO439.out).2.1)); rintro e w20 ⟨rfl, hb⟩; have n0_ := Aside0.mk (Kd.R_below (qJ14_7) hb); have n1_ := Aside0.mk (Kd.R_below (qJ14_8) hb); have n2_ := Aside0.mk (Kd.R_below (qJ14_9) hb); have n3_ := Aside0.mk (below_step (qJ14_0) hb); clear HO437 HO439 HO441 HB; have HO437 := n0_; have HO439 := n1_; have HO441 := n2_; have HB := n3_; clear n0_ n1_ n2_ n3_; (try clear hb); (try clear hb2); (try clear hk); (try clear hi)))
      go_meet
      case rel => exact ⟨_, ((t443 != t447)), (qJ14_10), H', ⟨by first | omega | exact Nat.le_refl _⟩, ⟨(qJ14_7)⟩, ⟨(qJ14_8)⟩, ⟨(qJ14_9)⟩, ⟨(qJ14_0)⟩⟩
     ·as_aux_lemma =>
      replace c17 := Bool.eq_false_iff.mpr c17
      subst c17
      have H1 : (laws_FnRiggings.j0 k t433 t434 t435 t442 (t443 != false)) = some r := by rw [if_neg (show ¬ (false = true) by decide)] at H; exact H
      clear H; have H := H1; clear H1
      have H' := Aside0.mk H
      clear H
      go_wp2_with (first | (go_at_call 28; (with_reducible refine (impl_ArePitches.calls _ _ t433 false _ ?side1 ?side2 A16.out).mono ?_); (case side1 => exact (qJ14_11)); (case side2 => exact (by exact (Kd.R_reads' HO437.out).2.1)); rintro e w21 ⟨rfl, hb⟩; have n0_ := Aside0.mk (Kd.R_below (qJ14_7) hb); have n1_ := Aside0.mk (Kd.R_below (qJ14_8) hb); have n2_ := Aside0.mk (Kd.R_below (qJ14_9) hb); have n3_ := Aside0.mk (below_step (qJ14_0) hb); clear HO437 HO439 HO441 HB; have HO437 := n0_; have HO439 := n1_; have HO441 := n2_; have HB := n3_; clear n0_ n1_ n2_ n3_; (try clear hb); (try clear hb2); (try clear hk); (try clear hi)))
      go_meet
      case rel => exact ⟨_, ((t443 != false)), (qJ14_10), H', ⟨by first | omega | exact Nat.le_refl _⟩, ⟨(qJ14_7)⟩, ⟨(qJ14_8)⟩, ⟨(qJ14_9)⟩, ⟨(qJ14_0)⟩⟩
  case rest =>
   clear HC7
   try clear c1
   try clear c2
   try clear p2
   try clear c3
   try clear c5
   try clear c13
   try clear c14
   try clear c14b0
   try clear c14b1
   try clear c14b2
   try clear c15
   try clear c15b0
   try clear c15b1
   try clear c15b2
   try clear c17
   obtain ⟨kq, x65_6, rfl, HA, HJ6, HO_3, HO_4, HO_5, HB⟩ := hcut
   cases kq with
   | zero => exact absurd HA.out (by simp [laws_FnRiggings.j0])
   | succ kj6 =>
    have H := HA.out
    clear HA
    simp only [laws_FnRiggings.j0] at H
    by_cases c22 : x65_6 = true
    ·as_aux_lemma =>
     subst c22
     have H1 : (some false) = some r := by rw [if_pos rfl] at H; exact H
     clear H; have H := H1; clear H1; obtain rfl := Option.some.inj H
     go_wp2
     go_ret
     exact ⟨(qJ14_6), (qJ14_0)⟩
    ·as_aux_lemma =>
     replace c22 := Bool.eq_false_iff.mpr c22
     subst c22
     have H1 : ((impl_BestRigging.f kj6 t433 t434).bind fun bt448 => ((spec_BestRigging.f kj6 t433 t434).bind fun bt453 => (if (bt448.2.2 != bt453.2.2) = true then (laws_FnRiggings.j1 kj6 t433 t434 t435 t442 bt448.2.1 bt448.2.2 true) else (if bt448.2.1 = bt453.2.1 then ((laws_rInts.f kj6 bt448.1 bt453.1).bind fun t458 => (laws_FnRiggings.j1 kj6 t433 t434 t435 t442 bt448.2.1 bt448.2.2 (!t458))) else (laws_FnRiggings.j1 kj6 t433 t434 t435 t442 bt448.2.1 bt448.2.2 true))))) = some r := by rw [if_neg (show ¬ (false = true) by decide)] at H; exact H
     clear H; have H := H1; clear H1; replace H := Option.bind_eq_some_iff.mp H; obtain ⟨⟨t448, t449, t450⟩, A230, H⟩ := H
     try dsimp only at H
     have A23 := Aside0.mk A230; clear A230; replace H := Option.bind_eq_some_iff.mp H; obtain ⟨⟨t453, t454, t455⟩, A240, H⟩ := H
     try dsimp only at H
     have A24 := Aside0.mk A240; clear A240; have HC25 := Aside0.mk H; clear H
     go_upto_region 10 with (first | ((with_reducible refine gate_callee (f := 30) rfl ?_); refine goesL_ (some 69) rfl rfl Try.func30 (by kernel_rfl) rfl #[.slice Ao9 t433.length co9, .slice Ao10 t434.length co10] rfl (qJ14_2) ?_; (with_reducible refine (impl_BestRigging.calls kj6 _ _ t433 _ _ t434 t448 t449 t450 _ ?side1 ?side2 ?side3 ?side4 A23.out).mono ?_); (case side1 => exact (qJ14_5)); (case side2 => exact (qJ14_15)); (case side3 => exact (qJ14_3)); (case side4 => exact (qJ14_14)); rintro e w26 ⟨v451, rfl, ho0, hb⟩; refine ⟨_, rfl, ?_⟩; have n0_ := Aside0.mk (Kd.R_below (qJ14_1) hb); have n1_ := Aside0.mk (Kd.R_elder' (qJ14_4) (Kd.R_base ho0) hb); have n2_ := Aside0.mk (Kd.R_elder' (qJ14_12) (Kd.R_base ho0) hb); have n3_ := Aside0.mk (Kd.R_lower (Kd.R_new' (Kd.R_new' ho0 (Kd.R_lt (qJ14_4))) (Kd.R_lt (qJ14_12))) (below_size (qJ14_0))); have n4_ := Aside0.mk (below_step (qJ14_0) hb); clear HO_3 HO_4 HO_5 HB; have HO_3 := n0_; have HO_4 := n1_; have HO_5 := n2_; have HO452 := n3_; have HB := n4_; clear n0_ n1_ n2_ n3_ n4_; (try clear hb); (try clear hb2); (try clear hk); (try clear hi); (try clear ho0)) | ((with_reducible refine gate_callee (f := 31) rfl ?_); refine goesL_ (some 76) rfl rfl Try.func31 (by kernel_rfl) rfl #[.slice Ao9 t433.length co9, .slice Ao10 t434.length co10] rfl (qJ14_2) ?_; (with_reducible refine (spec_BestRigging.calls kj6 _ _ t433 _ _ t434 t453 t454 t455 _ ?side1 ?side2 ?side3 ?side4 A24.out).mono ?_); (case side1 => exact (qJ14_5)); (case side2 => exact (qJ14_15)); (case side3 => exact (qJ14_3)); (case side4 => exact (qJ14_14)); rintro e w27 ⟨v456, rfl, ho0, hb⟩; refine ⟨_, rfl, ?_⟩; have n0_ := Aside0.mk (Kd.R_below (qJ14_1) hb); have n1_ := Aside0.mk (Kd.R_elder' (qJ14_4) (Kd.R_base ho0) hb); have n2_ := Aside0.mk (Kd.R_elder' (qJ14_12) (Kd.R_base ho0) hb); have n3_ := Aside0.mk (Kd.R_elder' (qJ14_22) (Kd.R_base ho0) hb); have n4_ := Aside0.mk (Kd.R_lower (Kd.R_new' (Kd.R_new' (Kd.R_new' ho0 (Kd.R_lt (qJ14_4))) (Kd.R_lt (qJ14_12))) (Kd.R_lt (qJ14_22))) (below_size (qJ14_0))); have n5_ := Aside0.mk (below_step (qJ14_0) hb); clear HO_3 HO_4 HO_5 HO452 HB; have HO_3 := n0_; have HO_4 := n1_; have HO_5 := n2_; have HO452 := n3_; have HO457 := n4_; have HB := n5_; clear n0_ n1_ n2_ n3_ n4_ n5_; (try clear hb); (try clear hb2); (try clear hk); (try clear hi); (try clear ho0)))
     (try simp only [Act.put, List.setIfInBounds_toArray, List.set_cons_zero, List.set_cons_succ])
     go_cut [93] (fun v93 wc => ∃ (kq : Nat) (x93_24 : Bool), v93 = .bool x93_24 ∧ Aside0 (laws_FnRiggings.j1 kq t433 t434 t435 t442 t449 t450 x93_24 = some r) ∧ Aside0 (kq ≤ kj6) ∧ Aside0 (Kd.R k36 36 wc w.heap.size (fun _ => True) (.slice Ao9 t433.length co9) t433) ∧ Aside0 (Kd.R (Kd.int .i64) 3 wc w.heap.size (fun k_ => some k_ ≠ ((.slice Ao11 t435.length co11) : Value).ownBlock) (.slice Ao10 t434.length co10) t434) ∧ Aside0 (Kd.R (Kd.int .i64) 3 wc w.heap.size (fun k_ => some k_ ≠ ((.slice Ao10 t434.length co10) : Value).ownBlock) (.slice Ao11 t435.length co11) t435) ∧ Aside0 (Below w.heap.size w wc))
     case first =>
      have H := HC25.out
      clear HC25
      by_cases c28 : (t450 != t455) = true
      ·as_aux_lemma =>
       rw [if_pos c28] at H
       have c28b0 : (t450 != t455) = true := c28
       (try (have c28b1 : decide (t450 = t455) = false := by simpa using c28))
       (try (have c28b2 : (t450 == t455) = false := by simpa using c28))
       (try (have c28b3 : ¬ (t450 = t455) := by simpa using c28))
       clear c28
       (first | rw [c28b0] | (simp only [i64_w, i32_w]; rw [c28b0]) | skip)
       have H' := Aside0.mk H
       clear H
       go_wp2
       go_meet
       case rel => exact ⟨_, (true), (qJ14_10), H', ⟨by have := HJ6.out; first | omega | exact Nat.le_refl _⟩, ⟨(qJ14_1)⟩, ⟨(qJ14_17)⟩, ⟨(qJ14_18)⟩, ⟨(qJ14_0)⟩⟩
      ·as_aux_lemma =>
       rw [if_neg c28] at H
       have c28b0 : (t450 != t455) = false := by simpa using c28
       (try (have c28b1 : decide (t450 = t455) = true := by simpa using c28))
       (try (have c28b2 : (t450 == t455) = true := by simpa using c28))
       clear c28
       (first | rw [c28b0] | (simp only [i64_w, i32_w]; rw [c28b0]) | skip)
       by_cases c29 : t449 = t454
       ·as_aux_lemma =>
        rw [if_pos c29] at H
        have c29b0 : (t449 == t454) = true := beq_iff_eq.mpr c29
        have c29b1 : (t449 != t454) = false := bne_eq_false_iff_eq.mpr c29
        clear c29; replace H := Option.bind_eq_some_iff.mp H; obtain ⟨t458, A300, H⟩ := H
        try dsimp only at H
        have A30 := Aside0.mk A300; clear A300
        have H' := Aside0.mk H
        clear H
        obtain ⟨Ao31, co31, eo31⟩ := Kd.R_slice HO452.out
        subst eo31
        obtain ⟨Ao32, co32, eo32⟩ := Kd.R_slice HO457.out
        subst eo32
        go_wp2_with (first | (go_at_call 32; (with_reducible refine (laws_rInts.calls kj6 _ _ t448 _ _ t453 t458 _ ?side1 ?side2 ?side3 ?side4 A30.out).mono ?_); (case side1 => exact (by repeat (first | exact (Kd.R_reads' HO452.out).2.2 | (with_reducible refine Kd.C_alloc ?_ _) | (with_reducible refine Kd.C_drewN ?_ _) | (with_reducible refine Kd.C_drew ?_)))); (case side2 => exact (by exact (Kd.R_reads' HO452.out).2.1)); (case side3 => exact (by repeat (first | exact (Kd.R_reads' HO457.out).2.2 | (with_reducible refine Kd.C_alloc ?_ _) | (with_reducible refine Kd.C_drewN ?_ _) | (with_reducible refine Kd.C_drew ?_)))); (case side4 => exact (by exact (Kd.R_reads' HO457.out).2.1)); rintro e w' ⟨rfl, ⟨nd, rfl⟩⟩))
        go_meet
        case rel => exact ⟨_, (!t458), (qJ14_10), H', ⟨by have := HJ6.out; first | omega | exact Nat.le_refl _⟩, ⟨(qJ14_1)⟩, ⟨(qJ14_17)⟩, ⟨(qJ14_18)⟩, ⟨(qJ14_0)⟩⟩
       ·as_aux_lemma =>
        rw [if_neg c29] at H
        have c29b0 : (t449 == t454) = false := beq_eq_false_iff_ne.mpr c29
        have c29b1 : (t449 != t454) = true := bne_iff_ne.mpr c29
        have H' := Aside0.mk H
        clear H
        go_wp2
        go_meet
        case rel => exact ⟨_, (true), (qJ14_10), H', ⟨by have := HJ6.out; first | omega | exact Nat.le_refl _⟩, ⟨(qJ14_1)⟩, ⟨(qJ14_17)⟩, ⟨(qJ14_18)⟩, ⟨(qJ14_0)⟩⟩
     case rest =>
      clear HC25
      try clear c1
      try clear c2
      try clear p2
      try clear c3
      try clear c5
      try clear c13
      try clear c14
      try clear c14b0
      try clear c14b1
      try clear c14b2
      try clear c15
      try clear c15b0
      try clear c15b1
      try clear c15b2
      try clear c17
      try clear c22
      try clear c25
      try clear c26
      try clear c27
      try clear c28
      try clear c28b0
      try clear c28b1
      try clear c28b2
      try clear c29
      try clear c29b0
      try clear c29b1
      try clear c30
      try clear c31
      try clear p2
      obtain ⟨kq, x93_24, rfl, HA, HJ24, HO_3, HO_4, HO_5, HB⟩ := hcut
      cases kq with
      | zero => exact absurd HA.out (by simp [laws_FnRiggings.j1])
      | succ kj24 =>
       have H := HA.out
       clear HA
       simp only [laws_FnRiggings.j1] at H
       by_cases c33 : x93_24 = true
       ·as_aux_lemma =>
        subst c33
        have H1 : (some false) = some r := by rw [if_pos rfl] at H; exact H
        clear H; have H := H1; clear H1; obtain rfl := Option.some.inj H
        go_wp2
        go_ret
        exact ⟨(qJ14_6), (qJ14_0)⟩
       ·as_aux_lemma =>
        replace c33 := Bool.eq_false_iff.mpr c33
        subst c33
        have H1 : (if t442 = true then (laws_FnRiggings.l0 kj24 t433 t434 t435 t449 t450 0 0) else (laws_FnRiggings.j3 kj24 t433 t434 t449 t450)) = some r := by rw [if_neg (show ¬ (false = true) by decide)] at H; exact H
        clear H; have H := H1; clear H1; have HC34 := Aside0.mk H; clear H
        go_upto_if 94 with (fail)
        go_cut [] (fun wc => ∃ (kq : Nat), Aside0 (laws_FnRiggings.j3 kq t433 t434 t449 t450 = some r) ∧ Aside0 (kq ≤ kj24) ∧ Aside0 (Kd.R k36 36 wc w.heap.size (fun _ => True) (.slice Ao9 t433.length co9) t433) ∧ Aside0 (Kd.R (Kd.int .i64) 3 wc w.heap.size (fun _ => True) (.slice Ao10 t434.length co10) t434) ∧ Aside0 (Below w.heap.size w wc))
        case first =>
         have H := HC34.out
         clear HC34
         by_cases c35 : t442 = true
         ·as_aux_lemma =>
          subst c35
          have H1 : (laws_FnRiggings.l0 kj24 t433 t434 t435 t449 t450 0 0) = some r := by rw [if_pos rfl] at H; exact H
          clear H; have H := H1; clear H1
          have H' := Aside0.mk H
          clear H
          go_wp2
          go_loopg [16, 17] kj24 (fun kq v16 v17 w' => ∃ (x16_3 : Int) (x17_3 : Int), v16 = .int .i64 x16_3 ∧ v17 = .int .i64 x17_3 ∧ Aside0 (laws_FnRiggings.l0 kq t433 t434 t435 t449 t450 x16_3 x17_3 = some r) ∧ Aside0 (kq ≤ kj24) ∧ Aside0 (Kd.R k36 36 w' w.heap.size (fun _ => True) (.slice Ao9 t433.length co9) t433) ∧ Aside0 (Kd.R (Kd.int .i64) 3 w' w.heap.size (fun k_ => some k_ ≠ ((.slice Ao11 t435.length co11) : Value).ownBlock) (.slice Ao10 t434.length co10) t434) ∧ Aside0 (Kd.R (Kd.int .i64) 3 w' w.heap.size (fun k_ => some k_ ≠ ((.slice Ao10 t434.length co10) : Value).ownBlock) (.slice Ao11 t435.length co11) t435) ∧ Aside0 (Below w.heap.size w w'))
          case atStart => exact ⟨(0), (0), (qJ14_10), (qJ14_10), H', ⟨Nat.le_refl _⟩, ⟨(qJ14_1)⟩, ⟨(qJ14_4)⟩, ⟨(qJ14_12)⟩, ⟨(qJ14_0)⟩⟩
          case round =>
           clear H'
           try clear c1
           try clear c2
           try clear p2
           try clear c3
           try clear c5
           try clear c13
           try clear c14
           try clear c14b0
           try clear c14b1
           try clear c14b2
           try clear c15
           try clear c15b0
           try clear c15b1
           try clear c15b2
           try clear c17
           try clear c22
           try clear c25
           try clear c26
           try clear c27
           try clear c28
           try clear c28b0
           try clear c28b1
           try clear c28b2
           try clear c29
           try clear c29b0
           try clear c29b1
           try clear c30
           try clear c31
           try clear c33
           try clear c35
           try clear p2
           obtain ⟨x16_3, x17_3, rfl, rfl, HA, HK3, HO_3, HO_4, HO_5, HB⟩ := hrel
           cases gk with
           | zero => exact absurd HA.out (by simp [laws_FnRiggings.l0])
           | succ k3 =>
            have H := HA.out
            clear HA
            simp only [laws_FnRiggings.l0] at H
            by_cases c36 : x17_3 < (t435.length : Int)
            ·as_aux_lemma =>
             rw [if_pos c36] at H
             have c36b0 : decide (x17_3 < (t435.length : Int)) = true := decide_eq_true c36
             clear c36
             (first | rw [c36b0] | (simp only [i64_w, i32_w]; rw [c36b0]) | skip)
             by_cases c37 : 0 ≤ x17_3
             ·as_aux_lemma =>
              rw [if_pos c37] at H
              have c37b0 : decide (0 ≤ x17_3) = true := decide_eq_true c37
              clear c37
              by_cases c38 : 0 ≤ (rd t435 x17_3)
              ·as_aux_lemma =>
               rw [if_pos c38] at H
               have c38b0 : decide (0 ≤ (rd t435 x17_3)) = true := decide_eq_true c38
               clear c38
               by_cases c39 : (rd t435 x17_3) < (t434.length : Int)
               ·as_aux_lemma =>
                rw [if_pos c39] at H
                have c39b0 : decide ((rd t435 x17_3) < (t434.length : Int)) = true := decide_eq_true c39
                clear c39
                have H' := Aside0.mk H
                clear H
                have p459 : 0 ≤ (x17_3 : Int) := of_decide_eq_true (qJ14_21)
                have q459 : x17_3 < (t435.length : Int) := of_decide_eq_true (qJ14_21)
                obtain ⟨ad459, e459, hx459_0⟩ := Kd.at_int (Kd.R_reads' HO_5.out).2.2 x17_3 p459 q459
                cases e459
                replace p459 := eq_true p459
                replace q459 := eq_true q459
                have p460 : 0 ≤ ((rd t435 x17_3) : Int) := of_decide_eq_true (qJ14_21)
                have q460 : (rd t435 x17_3) < (t434.length : Int) := of_decide_eq_true (qJ14_21)
                obtain ⟨ad460, e460, hx460_0⟩ := Kd.at_int (Kd.R_reads' HO_4.out).2.2 (rd t435 x17_3) p460 q460
                cases e460
                replace p460 := eq_true p460
                replace q460 := eq_true q460
                go_wp2
                go_roundg k3
                case measure => have := HJ6.out; have := HJ24.out; have := HK3.out; omega
                case rel => exact ⟨(wrap64 (x16_3 + (rd t434 (rd t435 x17_3)))), (wrap64 (x17_3 + 1)), (qJ14_10), (qJ14_10), H', ⟨by have := HJ6.out; have := HJ24.out; have := HK3.out; omega⟩, ⟨(qJ14_1)⟩, ⟨(qJ14_4)⟩, ⟨(qJ14_12)⟩, ⟨(qJ14_0)⟩⟩
               ·as_aux_lemma =>
                rw [if_neg c39] at H
                exact absurd H (by simp)
              ·as_aux_lemma =>
               rw [if_neg c38] at H
               exact absurd H (by simp)
             ·as_aux_lemma =>
              rw [if_neg c37] at H
              exact absurd H (by simp)
            ·as_aux_lemma =>
             rw [if_neg c36] at H
             have c36b0 : decide (x17_3 < (t435.length : Int)) = false := decide_eq_false c36
             clear c36
             (first | rw [c36b0] | (simp only [i64_w, i32_w]; rw [c36b0]) | skip)
             by_cases c40 : t450 = true
             ·as_aux_lemma =>
              subst c40
              have H1 : (if t449 > x16_3 then (some false) else (laws_FnRiggings.j3 k3 t433 t434 t449 true)) = some r := by rw [if_pos rfl] at H; exact H
              clear H; have H := H1; clear H1
              by_cases c41 : t449 > x16_3
              ·as_aux_lemma =>
               rw [if_pos c41] at H
               have c41b0 : decide (x16_3 < t449) = true := decide_eq_true c41
               clear c41; obtain rfl := Option.some.inj H
               go_wp2
               go_ret
               exact ⟨(qJ14_6), (qJ14_0)⟩
              ·as_aux_lemma =>
               rw [if_neg c41] at H
               have c41b0 : decide (x16_3 < t449) = false := decide_eq_false c41
               clear c41
               have H' := Aside0.mk H
               clear H
               go_wp2
               go_meet
               case rel => exact ⟨_, H', ⟨by have := HJ6.out; have := HJ24.out; have := HK3.out; first | omega | exact Nat.le_refl _⟩, ⟨(qJ14_1)⟩, ⟨(qJ14_20)⟩, ⟨(qJ14_0)⟩⟩
             ·as_aux_lemma =>
              replace c40 := Bool.eq_false_iff.mpr c40
              subst c40
              have H1 : (some false) = some r := by rw [if_neg (show ¬ (false = true) by decide)] at H; exact H
              clear H; have H := H1; clear H1; obtain rfl := Option.some.inj H
              go_wp2
              go_ret
              exact ⟨(qJ14_6), (qJ14_0)⟩
         ·as_aux_lemma =>
          replace c35 := Bool.eq_false_iff.mpr c35
          subst c35
          have H1 : (laws_FnRiggings.j3 kj24 t433 t434 t449 t450) = some r := by rw [if_neg (show ¬ (false = true) by decide)] at H; exact H
          clear H; have H := H1; clear H1
          have H' := Aside0.mk H
          clear H
          go_wp2
          go_meet
          case rel => exact ⟨_, H', ⟨by have := HJ6.out; have := HJ24.out; first | omega | exact Nat.le_refl _⟩, ⟨(qJ14_1)⟩, ⟨(qJ14_20)⟩, ⟨(qJ14_0)⟩⟩
        case rest =>
         clear HC34
         try clear c1
         try clear c2
         try clear p2
         try clear c3
         try clear c4
         try clear p4
         try clear q4
         try clear hx4
         try clear c5
         try clear p6
         try clear c13
         try clear c14
         try clear c14b0
         try clear c14b1
         try clear c14b2
         try clear c15
         try clear c15b0
         try clear c15b1
         try clear c15b2
         try clear c17
         try clear c22
         try clear c25
         try clear c26
         try clear c27
         try clear c28
         try clear c28b0
         try clear c28b1
         try clear c28b2
         try clear c29
         try clear c29b0
         try clear c29b1
         try clear c30
         try clear c31
         try clear c33
         try clear c35
         try clear c36
         try clear c36b0
         try clear c37
         try clear c37b0
         try clear c38
         try clear c38b0
         try clear c39
         try clear c39b0
         try clear c40
         try clear c41
         try clear c41b0
         try clear hx459_0
         try clear hx460_0
         try clear p2
         try clear p459
         try clear p460
         try clear q459
         try clear q460
         obtain ⟨kq, HA, HJ33, HO_3, HO_4, HB⟩ := hcut
         cases kq with
         | zero => exact absurd HA.out (by simp [laws_FnRiggings.j3])
         | succ kj33 =>
          have H := HA.out
          clear HA
          simp only [laws_FnRiggings.j3] at H
          replace H := Option.bind_eq_some_iff.mp H; obtain ⟨⟨t461, t462⟩, A420, H⟩ := H
          try dsimp only at H
          have A42 := Aside0.mk A420; clear A420; replace H := Option.bind_eq_some_iff.mp H; obtain ⟨⟨t463, t464⟩, A430, H⟩ := H
          try dsimp only at H
          have A43 := Aside0.mk A430; clear A430; have HC44 := Aside0.mk H; clear H
          go_upto_region 22 with (first | ((with_reducible refine gate_callee (f := 33) rfl ?_); refine goesL_ (some 120) rfl rfl Try.func33 (by kernel_rfl) rfl #[.slice Ao9 t433.length co9, .slice Ao10 t434.length co10] rfl (qJ14_2) ?_; (with_reducible refine (impl_SpareRope.calls kj33 _ _ t433 _ _ t434 t461 t462 _ ?side1 ?side2 ?side3 ?side4 A42.out).mono ?_); (case side1 => exact (qJ14_5)); (case side2 => exact (qJ14_15)); (case side3 => exact (qJ14_3)); (case side4 => exact (qJ14_14)); rintro e w45 ⟨rfl, hb⟩; refine ⟨_, rfl, ?_⟩; have n0_ := Aside0.mk (Kd.R_below (qJ14_1) hb); have n1_ := Aside0.mk (Kd.R_below (qJ14_4) hb); have n2_ := Aside0.mk (below_step (qJ14_0) hb); clear HO_3 HO_4 HB; have HO_3 := n0_; have HO_4 := n1_; have HB := n2_; clear n0_ n1_ n2_; (try clear hb); (try clear hb2); (try clear hk); (try clear hi)) | ((with_reducible refine gate_callee (f := 34) rfl ?_); refine goesL_ (some 126) rfl rfl Try.func34 (by kernel_rfl) rfl #[.slice Ao9 t433.length co9, .slice Ao10 t434.length co10] rfl (qJ14_2) ?_; (with_reducible refine (spec_SpareRope.calls kj33 _ _ t433 _ _ t434 t463 t464 _ ?side1 ?side2 ?side3 ?side4 A43.out).mono ?_); (case side1 => exact (qJ14_5)); (case side2 => exact (qJ14_15)); (case side3 => exact (qJ14_3)); (case side4 => exact (qJ14_14)); rintro e w46 ⟨rfl, hb⟩; refine ⟨_, rfl, ?_⟩; have n0_ := Aside0.mk (Kd.R_below (qJ14_1) hb); have n1_ := Aside0.mk (Kd.R_below (qJ14_4) hb); have n2_ := Aside0.mk (below_step (qJ14_0) hb); clear HO_3 HO_4 HB; have HO_3 := n0_; have HO_4 := n1_; have HB := n2_; clear n0_ n1_ n2_; (try clear hb); (try clear hb2); (try clear hk); (try clear hi)))
          (try simp only [Act.put, List.setIfInBounds_toArray, List.set_cons_zero, List.set_cons_succ])
          go_cut [152] (fun v152 wc => ∃ (kq : Nat) (x152_43 : Bool), v152 = .bool x152_43 ∧ Aside0 (laws_FnRiggings.j4 kq t433 t434 t450 x152_43 = some r) ∧ Aside0 (kq ≤ kj33) ∧ Aside0 (Kd.R k36 36 wc w.heap.size (fun _ => True) (.slice Ao9 t433.length co9) t433) ∧ Aside0 (Kd.R (Kd.int .i64) 3 wc w.heap.size (fun _ => True) (.slice Ao10 t434.length co10) t434) ∧ Aside0 (Below w.heap.size w wc))
          case first =>
           have H := HC44.out
           clear HC44
           by_cases c47 : t461 = t463
           ·as_aux_lemma =>
            rw [if_pos c47] at H
            have c47b0 : (t461 == t463) = true := beq_iff_eq.mpr c47
            have c47b1 : (t461 != t463) = false := bne_eq_false_iff_eq.mpr c47
            clear c47
            (first | rw [c47b0] | (simp only [i64_w, i32_w]; rw [c47b0]) | skip)
            by_cases c48 : (t462 != t464) = true
            ·as_aux_lemma =>
             rw [if_pos c48] at H
             have c48b0 : (t462 != t464) = true := c48
             (try (have c48b1 : decide (t462 = t464) = false := by simpa using c48))
             (try (have c48b2 : (t462 == t464) = false := by simpa using c48))
             (try (have c48b3 : ¬ (t462 = t464) := by simpa using c48))
             clear c48
             have H' := Aside0.mk H
             clear H
             go_wp2
             go_meet
             case rel => exact ⟨_, (true), (qJ14_10), H', ⟨by have := HJ6.out; have := HJ24.out; have := HJ33.out; first | omega | exact Nat.le_refl _⟩, ⟨(qJ14_1)⟩, ⟨(qJ14_4)⟩, ⟨(qJ14_0)⟩⟩
            ·as_aux_lemma =>
             rw [if_neg c48] at H
             have c48b0 : (t462 != t464) = false := by simpa using c48
             (try (have c48b1 : decide (t462 = t464) = true := by simpa using c48))
             (try (have c48b2 : (t462 == t464) = true := by simpa using c48))
             clear c48
             by_cases c49 : (t462 != t450) = true
             ·as_aux_lemma =>
              rw [if_pos c49] at H
              have c49b0 : (t462 != t450) = true := c49
              (try (have c49b1 : decide (t462 = t450) = false := by simpa using c49))
              (try (have c49b2 : (t462 == t450) = false := by simpa using c49))
              (try (have c49b3 : ¬ (t462 = t450) := by simpa using c49))
              clear c49
              have H' := Aside0.mk H
              clear H
              go_wp2
              go_meet
              case rel => exact ⟨_, (true), (qJ14_10), H', ⟨by have := HJ6.out; have := HJ24.out; have := HJ33.out; first | omega | exact Nat.le_refl _⟩, ⟨(qJ14_1)⟩, ⟨(qJ14_4)⟩, ⟨(qJ14_0)⟩⟩
             ·as_aux_lemma =>
              rw [if_neg c49] at H
              have c49b0 : (t462 != t450) = false := by simpa using c49
              (try (have c49b1 : decide (t462 = t450) = true := by simpa using c49))
              (try (have c49b2 : (t462 == t450) = true := by simpa using c49))
              clear c49
              by_cases c50 : t450 = true
              ·as_aux_lemma =>
               subst c50
               have H1 : ((laws_rSum.f kj33 t434).bind fun t465 => (laws_FnRiggings.j4 kj33 t433 t434 true ((wrap64 (t461 + t449)) != t465))) = some r := by rw [if_pos rfl] at H; exact H
               clear H; have H := H1; clear H1; replace H := Option.bind_eq_some_iff.mp H; obtain ⟨t465, A510, H⟩ := H
               try dsimp only at H
               have A51 := Aside0.mk A510; clear A510
               have H' := Aside0.mk H
               clear H
               go_wp2_with (first | (go_at_call 35; (with_reducible refine (laws_rSum.calls kj33 _ _ t434 t465 _ ?side1 ?side2 A51.out).mono ?_); (case side1 => exact (qJ14_3)); (case side2 => exact (qJ14_14)); rintro e w' ⟨rfl, ⟨nd, rfl⟩⟩))
               go_meet
               case rel => exact ⟨_, (((wrap64 (t461 + t449)) != t465)), (qJ14_10), H', ⟨by have := HJ6.out; have := HJ24.out; have := HJ33.out; first | omega | exact Nat.le_refl _⟩, ⟨(qJ14_1)⟩, ⟨(qJ14_4)⟩, ⟨(qJ14_0)⟩⟩
              ·as_aux_lemma =>
               replace c50 := Bool.eq_false_iff.mpr c50
               subst c50
               have H1 : (laws_FnRiggings.j4 kj33 t433 t434 false false) = some r := by rw [if_neg (show ¬ (false = true) by decide)] at H; exact H
               clear H; have H := H1; clear H1
               have H' := Aside0.mk H
               clear H
               go_wp2
               go_meet
               case rel => exact ⟨_, (false), (qJ14_10), H', ⟨by have := HJ6.out; have := HJ24.out; have := HJ33.out; first | omega | exact Nat.le_refl _⟩, ⟨(qJ14_1)⟩, ⟨(qJ14_4)⟩, ⟨(qJ14_0)⟩⟩
           ·as_aux_lemma =>
            rw [if_neg c47] at H
            have c47b0 : (t461 == t463) = false := beq_eq_false_iff_ne.mpr c47
            have c47b1 : (t461 != t463) = true := bne_iff_ne.mpr c47
            (first | rw [c47b0] | (simp only [i64_w, i32_w]; rw [c47b0]) | skip)
            have H' := Aside0.mk H
            clear H
            go_wp2
            go_meet
            case rel => exact ⟨_, (true), (qJ14_10), H', ⟨by have := HJ6.out; have := HJ24.out; have := HJ33.out; first | omega | exact Nat.le_refl _⟩, ⟨(qJ14_1)⟩, ⟨(qJ14_4)⟩, ⟨(qJ14_0)⟩⟩
          case rest =>
           clear HC44
           try clear c1
           try clear c2
           try clear p2
           try clear c3
           try clear c4
           try clear p4
           try clear q4
           try clear hx4
           try clear c5
           try clear p6
           try clear c13
           try clear c14
           try clear c14b0
           try clear c14b1
           try clear c14b2
           try clear c15
           try clear c15b0
           try clear c15b1
           try clear c15b2
           try clear c17
           try clear c22
           try clear c25
           try clear c26
           try clear c27
           try clear c28
           try clear c28b0
           try clear c28b1
           try clear c28b2
           try clear c29
           try clear c29b0
           try clear c29b1
           try clear c30
           try clear c31
           try clear c33
           try clear c34
           try clear c35
           try clear c36
           try clear c36b0
           try clear c37
           try clear c37b0
           try clear c38
           try clear c38b0
           try clear c39
           try clear c39b0
           try clear c40
           try clear c41
           try clear c41b0
           try clear p45
           try clear q45
           try clear hx45
           try clear p46
           try clear q46
           try clear hx46
           try clear c47
           try clear c47b0
           try clear c47b1
           try clear c48
           try clear c48b0
           try clear c48b1
           try clear c48b2
           try clear c49
           try clear c49b0
           try clear c49b1
           try clear c49b2
           try clear c50
           try clear hx459_0
           try clear hx460_0
           try clear p2
           try clear p4
           try clear p459
           try clear p460
           try clear p6
           try clear q4
           try clear q459
           try clear q460
           obtain ⟨kq, x152_43, rfl, HA, HJ43, HO_3, HO_4, HB⟩ := hcut
           cases kq with
           | zero => exact absurd HA.out (by simp [laws_FnRiggings.j4])
           | succ kj43 =>
            have H := HA.out
            clear HA
            simp only [laws_FnRiggings.j4] at H
            by_cases c52 : x152_43 = true
            ·as_aux_lemma =>
             subst c52
             have H1 : (some false) = some r := by rw [if_pos rfl] at H; exact H
             clear H; have H := H1; clear H1; obtain rfl := Option.some.inj H
             go_wp2
             go_ret
             exact ⟨(qJ14_6), (qJ14_0)⟩
            ·as_aux_lemma =>
             replace c52 := Bool.eq_false_iff.mpr c52
             subst c52
             have H1 : ((impl_DeepestFirst.f kj43 t433 t434).bind fun bt466 => ((spec_DeepestFirst.f kj43 t433 t434).bind fun bt468 => (if bt466.1 = bt468.1 then (if (bt466.2 != bt468.2) = true then (some false) else (if bt466.2 = true then (some (t450 == (bt466.1 == (t433.length : Int)))) else (some true))) else (some false)))) = some r := by rw [if_neg (show ¬ (false = true) by decide)] at H; exact H
             clear H; have H := H1; clear H1; replace H := Option.bind_eq_some_iff.mp H; obtain ⟨⟨t466, t467⟩, A530, H⟩ := H
             try dsimp only at H
             have A53 := Aside0.mk A530; clear A530; replace H := Option.bind_eq_some_iff.mp H; obtain ⟨⟨t468, t469⟩, A540, H⟩ := H
             try dsimp only at H
             have A54 := Aside0.mk A540; clear A540
             by_cases c55 : t466 = t468
             ·as_aux_lemma =>
              rw [if_pos c55] at H
              have c55b0 : (t466 == t468) = true := beq_iff_eq.mpr c55
              have c55b1 : (t466 != t468) = false := bne_eq_false_iff_eq.mpr c55
              clear c55
              by_cases c56 : (t467 != t469) = true
              ·as_aux_lemma =>
               rw [if_pos c56] at H
               have c56b0 : (t467 != t469) = true := c56
               (try (have c56b1 : decide (t467 = t469) = false := by simpa using c56))
               (try (have c56b2 : (t467 == t469) = false := by simpa using c56))
               (try (have c56b3 : ¬ (t467 = t469) := by simpa using c56))
               clear c56; obtain rfl := Option.some.inj H
               go_wp2_with (first | ((with_reducible refine gate_callee (f := 10) rfl ?_); refine goesL_ (some 156) rfl rfl Try.func10 (by kernel_rfl) rfl #[.slice Ao9 t433.length co9, .slice Ao10 t434.length co10] rfl (qJ14_2) ?_; (with_reducible refine (impl_DeepestFirst.calls kj43 _ _ t433 _ _ t434 t466 t467 _ ?side1 ?side2 ?side3 ?side4 A53.out).mono ?_); (case side1 => exact (qJ14_5)); (case side2 => exact (qJ14_15)); (case side3 => exact (qJ14_3)); (case side4 => exact (qJ14_14)); rintro e w57 ⟨rfl, hb⟩; refine ⟨_, rfl, ?_⟩; have n0_ := Aside0.mk (Kd.R_below (qJ14_1) hb); have n1_ := Aside0.mk (Kd.R_below (qJ14_4) hb); have n2_ := Aside0.mk (below_step (qJ14_0) hb); clear HO_3 HO_4 HB; have HO_3 := n0_; have HO_4 := n1_; have HB := n2_; clear n0_ n1_ n2_; (try clear hb); (try clear hb2); (try clear hk); (try clear hi)) | ((with_reducible refine gate_callee (f := 7) rfl ?_); refine goesL_ (some 162) rfl rfl Try.func7 (by kernel_rfl) rfl #[.slice Ao9 t433.length co9, .slice Ao10 t434.length co10] rfl (qJ14_2) ?_; (with_reducible refine (spec_DeepestFirst.calls kj43 _ _ t433 _ _ t434 t468 t469 _ ?side1 ?side2 ?side3 ?side4 A54.out).mono ?_); (case side1 => exact (qJ14_5)); (case side2 => exact (qJ14_15)); (case side3 => exact (qJ14_3)); (case side4 => exact (qJ14_14)); rintro e w58 ⟨rfl, hb⟩; refine ⟨_, rfl, ?_⟩; have n0_ := Aside0.mk (Kd.R_below (qJ14_1) hb); have n1_ := Aside0.mk (Kd.R_below (qJ14_4) hb); have n2_ := Aside0.mk (below_step (qJ14_0) hb); clear HO_3 HO_4 HB; have HO_3 := n0_; have HO_4 := n1_; have HB := n2_; clear n0_ n1_ n2_; (try clear hb); (try clear hb2); (try clear hk); (try clear hi)))
               go_ret
               exact ⟨(qJ14_6), (qJ14_0)⟩
              ·as_aux_lemma =>
               rw [if_neg c56] at H
               have c56b0 : (t467 != t469) = false := by simpa using c56
               (try (have c56b1 : decide (t467 = t469) = true := by simpa using c56))
               (try (have c56b2 : (t467 == t469) = true := by simpa using c56))
               clear c56
               by_cases c59 : t467 = true
               ·as_aux_lemma =>
                subst c59
                have H1 : (some (t450 == (t466 == (t433.length : Int)))) = some r := by rw [if_pos rfl] at H; exact H
                clear H; have H := H1; clear H1; obtain rfl := Option.some.inj H
                go_wp2_with (first | ((with_reducible refine gate_callee (f := 10) rfl ?_); refine goesL_ (some 156) rfl rfl Try.func10 (by kernel_rfl) rfl #[.slice Ao9 t433.length co9, .slice Ao10 t434.length co10] rfl (qJ14_2) ?_; (with_reducible refine (impl_DeepestFirst.calls kj43 _ _ t433 _ _ t434 t466 true _ ?side1 ?side2 ?side3 ?side4 A53.out).mono ?_); (case side1 => exact (qJ14_5)); (case side2 => exact (qJ14_15)); (case side3 => exact (qJ14_3)); (case side4 => exact (qJ14_14)); rintro e w60 ⟨rfl, hb⟩; refine ⟨_, rfl, ?_⟩; have n0_ := Aside0.mk (Kd.R_below (qJ14_1) hb); have n1_ := Aside0.mk (Kd.R_below (qJ14_4) hb); have n2_ := Aside0.mk (below_step (qJ14_0) hb); clear HO_3 HO_4 HB; have HO_3 := n0_; have HO_4 := n1_; have HB := n2_; clear n0_ n1_ n2_; (try clear hb); (try clear hb2); (try clear hk); (try clear hi)) | ((with_reducible refine gate_callee (f := 7) rfl ?_); refine goesL_ (some 162) rfl rfl Try.func7 (by kernel_rfl) rfl #[.slice Ao9 t433.length co9, .slice Ao10 t434.length co10] rfl (qJ14_2) ?_; (with_reducible refine (spec_DeepestFirst.calls kj43 _ _ t433 _ _ t434 t468 t469 _ ?side1 ?side2 ?side3 ?side4 A54.out).mono ?_); (case side1 => exact (qJ14_5)); (case side2 => exact (qJ14_15)); (case side3 => exact (qJ14_3)); (case side4 => exact (qJ14_14)); rintro e w61 ⟨rfl, hb⟩; refine ⟨_, rfl, ?_⟩; have n0_ := Aside0.mk (Kd.R_below (qJ14_1) hb); have n1_ := Aside0.mk (Kd.R_below (qJ14_4) hb); have n2_ := Aside0.mk (below_step (qJ14_0) hb); clear HO_3 HO_4 HB; have HO_3 := n0_; have HO_4 := n1_; have HB := n2_; clear n0_ n1_ n2_; (try clear hb); (try clear hb2); (try clear hk); (try clear hi)))
                go_ret
                exact ⟨(qJ14_6), (qJ14_0)⟩
               ·as_aux_lemma =>
                replace c59 := Bool.eq_false_iff.mpr c59
                subst c59
                have H1 : (some true) = some r := by rw [if_neg (show ¬ (false = true) by decide)] at H; exact H
                clear H; have H := H1; clear H1; obtain rfl := Option.some.inj H
                go_wp2_with (first | ((with_reducible refine gate_callee (f := 10) rfl ?_); refine goesL_ (some 156) rfl rfl Try.func10 (by kernel_rfl) rfl #[.slice Ao9 t433.length co9, .slice Ao10 t434.length co10] rfl (qJ14_2) ?_; (with_reducible refine (impl_DeepestFirst.calls kj43 _ _ t433 _ _ t434 t466 false _ ?side1 ?side2 ?side3 ?side4 A53.out).mono ?_); (case side1 => exact (qJ14_5)); (case side2 => exact (qJ14_15)); (case side3 => exact (qJ14_3)); (case side4 => exact (qJ14_14)); rintro e w62 ⟨rfl, hb⟩; refine ⟨_, rfl, ?_⟩; have n0_ := Aside0.mk (Kd.R_below (qJ14_1) hb); have n1_ := Aside0.mk (Kd.R_below (qJ14_4) hb); have n2_ := Aside0.mk (below_step (qJ14_0) hb); clear HO_3 HO_4 HB; have HO_3 := n0_; have HO_4 := n1_; have HB := n2_; clear n0_ n1_ n2_; (try clear hb); (try clear hb2); (try clear hk); (try clear hi)) | ((with_reducible refine gate_callee (f := 7) rfl ?_); refine goesL_ (some 162) rfl rfl Try.func7 (by kernel_rfl) rfl #[.slice Ao9 t433.length co9, .slice Ao10 t434.length co10] rfl (qJ14_2) ?_; (with_reducible refine (spec_DeepestFirst.calls kj43 _ _ t433 _ _ t434 t468 t469 _ ?side1 ?side2 ?side3 ?side4 A54.out).mono ?_); (case side1 => exact (qJ14_5)); (case side2 => exact (qJ14_15)); (case side3 => exact (qJ14_3)); (case side4 => exact (qJ14_14)); rintro e w63 ⟨rfl, hb⟩; refine ⟨_, rfl, ?_⟩; have n0_ := Aside0.mk (Kd.R_below (qJ14_1) hb); have n1_ := Aside0.mk (Kd.R_below (qJ14_4) hb); have n2_ := Aside0.mk (below_step (qJ14_0) hb); clear HO_3 HO_4 HB; have HO_3 := n0_; have HO_4 := n1_; have HB := n2_; clear n0_ n1_ n2_; (try clear hb); (try clear hb2); (try clear hk); (try clear hi)))
                go_ret
                exact ⟨(qJ14_6), (qJ14_0)⟩
             ·as_aux_lemma =>
              rw [if_neg c55] at H
              have c55b0 : (t466 == t468) = false := beq_eq_false_iff_ne.mpr c55
              have c55b1 : (t466 != t468) = true := bne_iff_ne.mpr c55
              obtain rfl := Option.some.inj H
              go_wp2_with (first | ((with_reducible refine gate_callee (f := 10) rfl ?_); refine goesL_ (some 156) rfl rfl Try.func10 (by kernel_rfl) rfl #[.slice Ao9 t433.length co9, .slice Ao10 t434.length co10] rfl (qJ14_2) ?_; (with_reducible refine (impl_DeepestFirst.calls kj43 _ _ t433 _ _ t434 t466 t467 _ ?side1 ?side2 ?side3 ?side4 A53.out).mono ?_); (case side1 => exact (qJ14_5)); (case side2 => exact (qJ14_15)); (case side3 => exact (qJ14_3)); (case side4 => exact (qJ14_14)); rintro e w64 ⟨rfl, hb⟩; refine ⟨_, rfl, ?_⟩; have n0_ := Aside0.mk (Kd.R_below (qJ14_1) hb); have n1_ := Aside0.mk (Kd.R_below (qJ14_4) hb); have n2_ := Aside0.mk (below_step (qJ14_0) hb); clear HO_3 HO_4 HB; have HO_3 := n0_; have HO_4 := n1_; have HB := n2_; clear n0_ n1_ n2_; (try clear hb); (try clear hb2); (try clear hk); (try clear hi)) | ((with_reducible refine gate_callee (f := 7) rfl ?_); refine goesL_ (some 162) rfl rfl Try.func7 (by kernel_rfl) rfl #[.slice Ao9 t433.length co9, .slice Ao10 t434.length co10] rfl (qJ14_2) ?_; (with_reducible refine (spec_DeepestFirst.calls kj43 _ _ t433 _ _ t434 t468 t469 _ ?side1 ?side2 ?side3 ?side4 A54.out).mono ?_); (case side1 => exact (qJ14_5)); (case side2 => exact (qJ14_15)); (case side3 => exact (qJ14_3)); (case side4 => exact (qJ14_14)); rintro e w65 ⟨rfl, hb⟩; refine ⟨_, rfl, ?_⟩; have n0_ := Aside0.mk (Kd.R_below (qJ14_1) hb); have n1_ := Aside0.mk (Kd.R_below (qJ14_4) hb); have n2_ := Aside0.mk (below_step (qJ14_0) hb); clear HO_3 HO_4 HB; have HO_3 := n0_; have HO_4 := n1_; have HB := n2_; clear n0_ n1_ n2_; (try clear hb); (try clear hb2); (try clear hk); (try clear hi)))
              go_ret
              exact ⟨(qJ14_6), (qJ14_0)⟩

end Go.Proofs.Ytfjpbochanekoaa.MJ
