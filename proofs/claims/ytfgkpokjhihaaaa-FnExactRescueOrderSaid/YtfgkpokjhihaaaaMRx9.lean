-- Written by a program of this session (wip/drv.py, wip/tight.py).
import Derived.Test.YtfgkpokjhihaaaaMRx0
import Derived.Test.YtfgkpokjhihaaaaMRx1
import Derived.Test.YtfgkpokjhihaaaaMRx2
import Derived.Test.YtfgkpokjhihaaaaMRx6
import Derived.Test.YtfgkpokjhihaaaaMRx8
namespace Go.Proofs.Ytfgkpokjhihaaaa.MR
open Go.RowKit Go.Proofs.YtfgkpokjhihaaaaW.PrintWords Go.Proofs.YtfgkpokjhihaaaaW.PrintLast Go.Proofs.YtfgkpokjhihaaaaW.PrintMore
theorem qR9_0 {p : Prop} (h : p := by repeat (first | (with_reducible first | exact HB.out | apply below_alloc | apply pw_below_drewN | apply below_drew1) | exact HB.out)) : p := h
theorem qR9_1 {p : Prop} (h : p := by (try simp only [List.map_toArray, List.map_cons, List.map_nil]); first | done | rfl | (simp only [List.length_drop, List.length_take]; rfl)) : p := h
theorem qR9_2 {p : Prop} (h : p := by (with_reducible repeat (first | apply Kd.R_alloc | apply Kd.R_drewN | apply Kd.R_drew)); exact HO_10.out) : p := h
theorem qR9_3 {p : Prop} (h : p := by (with_reducible repeat (first | apply Kd.R_alloc | apply Kd.R_drewN | apply Kd.R_drew)); exact HO_15.out) : p := h
theorem qR9_4 {p : Prop} (h : p := by (with_reducible repeat (first | apply Kd.R_alloc | apply Kd.R_drewN | apply Kd.R_drew)); exact HO_13.out) : p := h
theorem qR9_5 {p : Prop} (h : p := by (with_reducible repeat (first | apply Kd.R_alloc | apply Kd.R_drewN | apply Kd.R_drew)); exact HO_14.out) : p := h
theorem qR9_6 {p : Prop} (h : p := by (with_reducible repeat (first | apply Kd.R_alloc | apply Kd.R_drewN | apply Kd.R_drew)); exact HO_12.out) : p := h
theorem qR9_7 {p : Prop} (h : p := by repeat (first | exact (Kd.R_reads' HO_15.out).2.2 | (with_reducible refine Kd.C_alloc ?_ _) | (with_reducible refine Kd.C_drewN ?_ _) | (with_reducible refine Kd.C_drew ?_))) : p := h
theorem qR9_8 {p : Prop} (h : p := by first | rfl | (simp [errW_none, errW_some] <;> rfl) | (simp [*, errW_none, errW_some] <;> rfl)) : p := h
theorem qR9_9 {p : Prop} (h : p := by (with_reducible repeat (first | apply Kd.R_alloc | apply Kd.R_drewN | apply Kd.R_drew)); exact HO292.out) : p := h
theorem qR9_10 {p : Prop} (h : p := by repeat (first | exact (Kd.C_below HR1.out HB.out) | (with_reducible refine Kd.C_alloc ?_ _) | (with_reducible refine Kd.C_drewN ?_ _) | (with_reducible refine Kd.C_drew ?_))) : p := h
theorem qR9_11 {p : Prop} (h : p := by (with_reducible repeat (first | apply Kd.R_alloc | apply Kd.R_drewN | apply Kd.R_drew)); exact HO295.out) : p := h
theorem qR9_12 {p : Prop} (h : p := by (with_reducible repeat (first | apply Kd.R_alloc | apply Kd.R_drewN | apply Kd.R_drew)); exact HO316.out) : p := h
theorem qR9_13 {p : Prop} (h : p := by (with_reducible repeat (first | apply Kd.R_alloc | apply Kd.R_drewN | apply Kd.R_drew)); exact HO289.out) : p := h
theorem qR9_14 {p : Prop} (h : p := by repeat (first | exact (Kd.C_below HR0.out HB.out) | (with_reducible refine Kd.C_alloc ?_ _) | (with_reducible refine Kd.C_drewN ?_ _) | (with_reducible refine Kd.C_drew ?_))) : p := h
theorem qR9_15 {p : Prop} (h : p := by (with_reducible repeat (first | apply Kd.R_alloc | apply Kd.R_drewN | apply Kd.R_drew)); exact HO299.out) : p := h
theorem qR9_16 {p : Prop} (h : p := by repeat (first | exact (Kd.R_reads' HO_12.out).2.2 | (with_reducible refine Kd.C_alloc ?_ _) | (with_reducible refine Kd.C_drewN ?_ _) | (with_reducible refine Kd.C_drew ?_))) : p := h
theorem qR9_17 {p : Prop} (h : p := by repeat (first | exact (Kd.R_reads' HO316.out).2.2 | (with_reducible refine Kd.C_alloc ?_ _) | (with_reducible refine Kd.C_drewN ?_ _) | (with_reducible refine Kd.C_drew ?_))) : p := h
theorem qR9_18 {p : Prop} (h : p := by repeat (first | exact (Kd.R_reads' HO_10.out).2.2 | (with_reducible refine Kd.C_alloc ?_ _) | (with_reducible refine Kd.C_drewN ?_ _) | (with_reducible refine Kd.C_drew ?_))) : p := h
theorem qR9_19 {p : Prop} (h : p := by (try simp only [List.map_toArray, List.map_cons, List.map_nil]); first | done | (rw [show t334.length = t309.length from (Kd.R_reads' HO_15.out).1.symm] <;> rfl) | rfl | (simp only [List.length_drop, List.length_take]; rfl)) : p := h
theorem qR9_20 {p : Prop} (h : p := by repeat (first | exact (Kd.C_below HR3.out HB.out) | (with_reducible refine Kd.C_alloc ?_ _) | (with_reducible refine Kd.C_drewN ?_ _) | (with_reducible refine Kd.C_drew ?_))) : p := h
theorem qR9_21 {p : Prop} (h : p := by repeat (first | exact (Kd.R_reads' HO_13.out).2.2 | (with_reducible refine Kd.C_alloc ?_ _) | (with_reducible refine Kd.C_drewN ?_ _) | (with_reducible refine Kd.C_drew ?_))) : p := h
theorem qR9_22 {p : Prop} (h : p := by repeat (first | exact (Kd.R_reads' HO320.out).2.2 | (with_reducible refine Kd.C_alloc ?_ _) | (with_reducible refine Kd.C_drewN ?_ _) | (with_reducible refine Kd.C_drew ?_))) : p := h
theorem qR9_23 {p : Prop} (h : p := by (with_reducible repeat (first | apply Kd.R_alloc | apply Kd.R_drewN | apply Kd.R_drew)); exact HO305.out) : p := h
theorem qR9_24 {p : Prop} (h : p := by (with_reducible repeat (first | apply Kd.R_alloc | apply Kd.R_drewN | apply Kd.R_drew)); exact HO320.out) : p := h
theorem qR9_25 {p : Prop} (h : p := by (with_reducible repeat (first | apply Kd.R_alloc | apply Kd.R_drewN | apply Kd.R_drew)); exact HO341.out) : p := h
theorem qR9_26 {p : Prop} (h : p := by repeat (first | exact HR0.out | (with_reducible refine Kd.C_alloc ?_ _) | (with_reducible refine Kd.C_drewN ?_ _) | (with_reducible refine Kd.C_drew ?_))) : p := h
theorem qR9_27 {p : Prop} (h : p := by (with_reducible repeat (first | apply Kd.R_alloc | apply Kd.R_drewN | apply Kd.R_drew)); exact Kd.R_mono HO_10.out (fun _ hk => hk.2.2.1)) : p := h
theorem qR9_28 {p : Prop} (h : p := by (with_reducible repeat (first | apply Kd.R_alloc | apply Kd.R_drewN | apply Kd.R_drew)); exact Kd.R_mono HO_15.out (fun _ hk => hk.1)) : p := h
theorem qR9_29 {p : Prop} (h : p := by first | rfl | (simp; done) | (simp [*]; done)) : p := h
theorem qR9_30 {p : Prop} (h : p := by rw [show t334.length = t309.length from (Kd.R_reads' HO_15.out).1.symm]; exact (Kd.R_reads' HO_15.out).2.1) : p := h
theorem qR9_31 {p : Prop} (h : p := by (with_reducible repeat (first | apply Kd.R_alloc | apply Kd.R_drewN | apply Kd.R_drew)); exact HO302.out) : p := h
theorem qR9_32 {p : Prop} (h : p := by (with_reducible repeat (first | apply Kd.R_alloc | apply Kd.R_drewN | apply Kd.R_drew)); exact HO338.out) : p := h
theorem qR9_33 {p : Prop} (h : p := by repeat (first | exact (Kd.C_below HR3.out (qR9_0)) | (with_reducible refine Kd.C_alloc ?_ _) | (with_reducible refine Kd.C_drewN ?_ _) | (with_reducible refine Kd.C_drew ?_))) : p := h
theorem qR9_34 {p : Prop} (h : p := by repeat (first | exact (Kd.R_reads' HO312.out).2.2 | (with_reducible refine Kd.C_alloc ?_ _) | (with_reducible refine Kd.C_drewN ?_ _) | (with_reducible refine Kd.C_drew ?_))) : p := h
theorem qR9_35 {p : Prop} (h : p := by repeat (first | exact (Kd.R_reads' HO299.out).2.2 | (with_reducible refine Kd.C_alloc ?_ _) | (with_reducible refine Kd.C_drewN ?_ _) | (with_reducible refine Kd.C_drew ?_))) : p := h
theorem qR9_36 {p : Prop} (h : p := by repeat (first | exact (Kd.R_reads' HO_14.out).2.2 | (with_reducible refine Kd.C_alloc ?_ _) | (with_reducible refine Kd.C_drewN ?_ _) | (with_reducible refine Kd.C_drew ?_))) : p := h
theorem qR9_37 {p : Prop} (h : p := by repeat (first | exact (Kd.R_reads' HO324.out).2.2 | (with_reducible refine Kd.C_alloc ?_ _) | (with_reducible refine Kd.C_drewN ?_ _) | (with_reducible refine Kd.C_drew ?_))) : p := h
theorem qR9_38 {p : Prop} (h : p := by repeat (first | exact (Kd.R_reads' HO348.out).2.2 | (with_reducible refine Kd.C_alloc ?_ _) | (with_reducible refine Kd.C_drewN ?_ _) | (with_reducible refine Kd.C_drew ?_))) : p := h
theorem qR9_39 {p : Prop} (h : p := by (with_reducible repeat (first | apply Kd.R_alloc | apply Kd.R_drewN | apply Kd.R_drew)); exact Kd.R_mono HO299.out (fun _ hk => ⟨hk.1.1.2, ⟨hk.1.2, hk.2⟩⟩)) : p := h
theorem qR9_40 {p : Prop} (h : p := by (with_reducible repeat (first | apply Kd.R_alloc | apply Kd.R_drewN | apply Kd.R_drew)); exact Kd.R_mono HO305.out (fun _ hk => ⟨hk.1.1.2, ⟨hk.1.2, hk.2⟩⟩)) : p := h
theorem qR9_41 {p : Prop} (h : p := by (with_reducible repeat (first | apply Kd.R_alloc | apply Kd.R_drewN | apply Kd.R_drew)); exact Kd.R_mono HO308.out (fun _ hk => ⟨hk.1.1.2, ⟨hk.1.2, hk.2⟩⟩)) : p := h
theorem qR9_42 {p : Prop} (h : p := by (with_reducible repeat (first | apply Kd.R_alloc | apply Kd.R_drewN | apply Kd.R_drew)); exact Kd.R_mono HO312.out (fun _ hk => ⟨hk.1.1.2, ⟨hk.1.2, hk.2⟩⟩)) : p := h
theorem qR9_43 {p : Prop} (h : p := by (with_reducible repeat (first | apply Kd.R_alloc | apply Kd.R_drewN | apply Kd.R_drew)); exact Kd.R_mono HO302.out (fun _ hk => trivial)) : p := h
theorem qR9_44 {p : Prop} (h : p := by (with_reducible repeat (first | apply Kd.R_alloc | apply Kd.R_drewN | apply Kd.R_drew)); exact Kd.R_mono HO_15.out (fun _ hk => trivial)) : p := h
theorem qR9_45 {p : Prop} (h : p := by exact (Kd.R_reads' HO_15.out).2.1) : p := h
theorem qR9_46 {p : Prop} (h : p := by (with_reducible repeat (first | apply Kd.R_alloc | apply Kd.R_drewN | apply Kd.R_drew)); exact HO308.out) : p := h
theorem qR9_47 {p : Prop} (h : p := by (with_reducible repeat (first | apply Kd.R_alloc | apply Kd.R_drewN | apply Kd.R_drew)); exact HO344.out) : p := h
theorem qR9_48 {p : Prop} (h : p := by exact (Kd.R_reads' HO_12.out).2.1) : p := h
theorem qR9_49 {p : Prop} (h : p := by exact (Kd.R_reads' HO316.out).2.1) : p := h
theorem qR9_50 {p : Prop} (h : p := by exact (Kd.R_reads' HO_10.out).2.1) : p := h
attribute [local go_sem] max2_int min2_int max_two min_two max_three min_three max_four min_four   -- for this text's walks alone
set_option linter.unusedVariables false
set_option linter.unusedSimpArgs false

/-! ### laws_FnExactRescueOrder: function 5 -/
mutual
def laws_FnExactRescueOrder.j0 : Nat → List (S79) → List Int → Int → List Int → List Int → Bool → List (S66) → List Int → List Int → List Int → Bool → Bool → Option (Bool)
 | 0, _, _, _, _, _, _, _, _, _, _, _, _ => none
 | k + 1, x0, x1, x2, x3, x10, x11, x12, x13, x14, x15, x16, x66 => if x66 = true then (some false) else ((laws_toLegS.f k x0).bind fun t314 => ((laws_eqLegS.f k x12 t314).bind fun t317 => (if t317 = true then ((laws_toIntS.f k x1).bind fun t318 => ((laws_eqIntS.f k x13 t318).bind fun t321 => (if t321 = true then ((laws_toIntS.f k x3).bind fun t322 => ((laws_eqIntS.f k x14 t322).bind fun t325 => (if t325 = true then ((laws_markLegS.f k x12 1).bind fun bt326 => ((laws_markIntS.f k x13 bt326.1).bind fun bt328 => ((laws_markIntS.f k x14 bt328.1).bind fun bt330 => (if bt330.1 < 0 then (laws_FnExactRescueOrder.j1 k x0 x1 x2 x3 x10 x11 x15 true) else ((laws_eqIntS.f k x15 x10).bind fun t332 => (if t332 = true then (laws_FnExactRescueOrder.j1 k x0 x1 x2 x3 x10 x11 x15 (x16 != x11)) else (laws_FnExactRescueOrder.j1 k x0 x1 x2 x3 x10 x11 x15 true))))))) else (some false)))) else (some false)))) else (some false))))
def laws_FnExactRescueOrder.j1 : Nat → List (S79) → List Int → Int → List Int → List Int → Bool → List Int → Bool → Option (Bool)
 | 0, _, _, _, _, _, _, _, _ => none
 | k + 1, x0, x1, x2, x3, x10, x11, x15, x103 => if x103 = true then (some false) else ((laws_markIntS.f k x15 1).bind fun bt333 => ((laws_heldIntS.f k bt333.2 1).bind fun t335 => (if t335 < 0 then (some false) else (if t335 = bt333.1 then ((laws_toLegS.f k x0).bind fun t336 => ((laws_toIntS.f k x1).bind fun t339 => ((laws_toIntS.f k x3).bind fun t342 => ((impl_RescueOrder.f k t336 t339 x2 t342).bind fun bt345 => ((laws_eqIntS.f k bt345.1 x10).bind fun t349 => (if t349 = true then (laws_FnExactRescueOrder.j2 k bt333.2 bt333.1 (bt345.2 != x11)) else (laws_FnExactRescueOrder.j2 k bt333.2 bt333.1 true))))))) else (some false)))))
def laws_FnExactRescueOrder.j2 : Nat → List Int → Int → Bool → Option (Bool)
 | 0, _, _, _ => none
 | k + 1, x15, x18, x134 => if x134 = true then (some false) else ((laws_heldIntS.f k x15 1).bind fun t350 => (if t350 < 0 then (some false) else (if t350 = x18 then (some true) else (some false))))
end
def laws_FnExactRescueOrder.f (k : Nat) (l0 : List (S79)) (l1 : List Int) (a2 : Int) (l3 : List Int) : Option (Bool) := if (l1.length : Int) > 1048576 then (some true) else (if (l3.length : Int) > 1048576 then (some true) else ((laws_szLegS.f l0 1048576).bind fun t286 => (if t286 < 0 then (some true) else ((laws_toLegS.f k l0).bind fun t287 => ((laws_toIntS.f k l1).bind fun t290 => ((laws_toIntS.f k l3).bind fun t293 => ((spec_RescueOrder.f k t287 t290 a2 t293).bind fun bt296 => ((laws_toLegS.f k l0).bind fun t300 => ((laws_toIntS.f k l1).bind fun t303 => ((laws_toIntS.f k l3).bind fun t306 => ((impl_RescueOrder.f k t300 t303 a2 t306).bind fun bt309 => ((laws_eqIntS.f k bt309.1 bt296.1).bind fun t313 => (if t313 = true then (laws_FnExactRescueOrder.j0 k l0 l1 a2 l3 bt296.1 bt296.2 t300 t303 t306 bt309.1 bt309.2 (bt309.2 != bt296.2)) else (laws_FnExactRescueOrder.j0 k l0 l1 a2 l3 bt296.1 bt296.2 t300 t303 t306 bt309.1 bt309.2 true))))))))))))))
theorem laws_FnExactRescueOrder.mono_l : ∀ k, (∀ y0 y1 y2 y3 y4 y5 y6 y7 y8 y9 y10 y11, LeO (laws_FnExactRescueOrder.j0 k y0 y1 y2 y3 y4 y5 y6 y7 y8 y9 y10 y11) (laws_FnExactRescueOrder.j0 (k + 1) y0 y1 y2 y3 y4 y5 y6 y7 y8 y9 y10 y11)) ∧ (∀ y0 y1 y2 y3 y4 y5 y6 y7, LeO (laws_FnExactRescueOrder.j1 k y0 y1 y2 y3 y4 y5 y6 y7) (laws_FnExactRescueOrder.j1 (k + 1) y0 y1 y2 y3 y4 y5 y6 y7)) ∧ (∀ y0 y1 y2, LeO (laws_FnExactRescueOrder.j2 k y0 y1 y2) (laws_FnExactRescueOrder.j2 (k + 1) y0 y1 y2))
 | 0 => ⟨fun _ _ _ _ _ _ _ _ _ _ _ _ r h => by simp [laws_FnExactRescueOrder.j0] at h, fun _ _ _ _ _ _ _ _ r h => by simp [laws_FnExactRescueOrder.j1] at h, fun _ _ _ r h => by simp [laws_FnExactRescueOrder.j2] at h⟩
 | k + 1 => by
  obtain ⟨ih0, ih1, ih2⟩ := laws_FnExactRescueOrder.mono_l k
  refine ⟨?_, ?_, ?_⟩
  ·intro y0 y1 y2 y3 y4 y5 y6 y7 y8 y9 y10 y11
   unfold laws_FnExactRescueOrder.j0
   repeat' first
   | (with_reducible exact ih0 _ _ _ _ _ _ _ _ _ _ _ _)
   | (with_reducible exact ih1 _ _ _ _ _ _ _ _)
   | (with_reducible exact ih2 _ _ _)
   | (with_reducible exact impl_RescueOrder.mono _ _ _ _ _)
   | (with_reducible exact laws_eqIntS.mono _ _ _)
   | (with_reducible exact laws_eqLegS.mono _ _ _)
   | (with_reducible exact laws_heldIntS.mono _ _ _)
   | (with_reducible exact laws_markIntS.mono _ _ _)
   | (with_reducible exact laws_markLegS.mono _ _ _)
   | (with_reducible exact laws_toIntS.mono _ _)
   | (with_reducible exact laws_toLegS.mono _ _)
   | (with_reducible exact spec_RescueOrder.mono _ _ _ _ _)
   | (with_reducible exact LeO.refl _)
   | (with_reducible exact LeO.none _)
   | (with_reducible refine LeO.ite ?_ ?_)
   | (with_reducible refine LeO.bind ?_ (fun _ => ?_))
   | exact ih0 _ _ _ _ _ _ _ _ _ _ _ _
   | exact ih1 _ _ _ _ _ _ _ _
   | exact ih2 _ _ _
   | exact impl_RescueOrder.mono _ _ _ _ _
   | exact laws_eqIntS.mono _ _ _
   | exact laws_eqLegS.mono _ _ _
   | exact laws_heldIntS.mono _ _ _
   | exact laws_markIntS.mono _ _ _
   | exact laws_markLegS.mono _ _ _
   | exact laws_toIntS.mono _ _
   | exact laws_toLegS.mono _ _
   | exact spec_RescueOrder.mono _ _ _ _ _
   | exact LeO.none _
   | refine LeO.ite ?_ ?_
   | refine LeO.bind ?_ (fun _ => ?_)
  ·intro y0 y1 y2 y3 y4 y5 y6 y7
   unfold laws_FnExactRescueOrder.j1
   repeat' first
   | (with_reducible exact ih0 _ _ _ _ _ _ _ _ _ _ _ _)
   | (with_reducible exact ih1 _ _ _ _ _ _ _ _)
   | (with_reducible exact ih2 _ _ _)
   | (with_reducible exact impl_RescueOrder.mono _ _ _ _ _)
   | (with_reducible exact laws_eqIntS.mono _ _ _)
   | (with_reducible exact laws_eqLegS.mono _ _ _)
   | (with_reducible exact laws_heldIntS.mono _ _ _)
   | (with_reducible exact laws_markIntS.mono _ _ _)
   | (with_reducible exact laws_markLegS.mono _ _ _)
   | (with_reducible exact laws_toIntS.mono _ _)
   | (with_reducible exact laws_toLegS.mono _ _)
   | (with_reducible exact spec_RescueOrder.mono _ _ _ _ _)
   | (with_reducible exact LeO.refl _)
   | (with_reducible exact LeO.none _)
   | (with_reducible refine LeO.ite ?_ ?_)
   | (with_reducible refine LeO.bind ?_ (fun _ => ?_))
   | exact ih0 _ _ _ _ _ _ _ _ _ _ _ _
   | exact ih1 _ _ _ _ _ _ _ _
   | exact ih2 _ _ _
   | exact impl_RescueOrder.mono _ _ _ _ _
   | exact laws_eqIntS.mono _ _ _
   | exact laws_eqLegS.mono _ _ _
   | exact laws_heldIntS.mono _ _ _
   | exact laws_markIntS.mono _ _ _
   | exact laws_markLegS.mono _ _ _
   | exact laws_toIntS.mono _ _
   | exact laws_toLegS.mono _ _
   | exact spec_RescueOrder.mono _ _ _ _ _
   | exact LeO.none _
   | refine LeO.ite ?_ ?_
   | refine LeO.bind ?_ (fun _ => ?_)
  ·intro y0 y1 y2
   unfold laws_FnExactRescueOrder.j2
   repeat' first
   | (with_reducible exact ih0 _ _ _ _ _ _ _ _ _ _ _ _)
   | (with_reducible exact ih1 _ _ _ _ _ _ _ _)
   | (with_reducible exact ih2 _ _ _)
   | (with_reducible exact impl_RescueOrder.mono _ _ _ _ _)
   | (with_reducible exact laws_eqIntS.mono _ _ _)
   | (with_reducible exact laws_eqLegS.mono _ _ _)
   | (with_reducible exact laws_heldIntS.mono _ _ _)
   | (with_reducible exact laws_markIntS.mono _ _ _)
   | (with_reducible exact laws_markLegS.mono _ _ _)
   | (with_reducible exact laws_toIntS.mono _ _)
   | (with_reducible exact laws_toLegS.mono _ _)
   | (with_reducible exact spec_RescueOrder.mono _ _ _ _ _)
   | (with_reducible exact LeO.refl _)
   | (with_reducible exact LeO.none _)
   | (with_reducible refine LeO.ite ?_ ?_)
   | (with_reducible refine LeO.bind ?_ (fun _ => ?_))
   | exact ih0 _ _ _ _ _ _ _ _ _ _ _ _
   | exact ih1 _ _ _ _ _ _ _ _
   | exact ih2 _ _ _
   | exact impl_RescueOrder.mono _ _ _ _ _
   | exact laws_eqIntS.mono _ _ _
   | exact laws_eqLegS.mono _ _ _
   | exact laws_heldIntS.mono _ _ _
   | exact laws_markIntS.mono _ _ _
   | exact laws_markLegS.mono _ _ _
   | exact laws_toIntS.mono _ _
   | exact laws_toLegS.mono _ _
   | exact spec_RescueOrder.mono _ _ _ _ _
   | exact LeO.none _
   | refine LeO.ite ?_ ?_
   | refine LeO.bind ?_ (fun _ => ?_)
theorem laws_FnExactRescueOrder.mono : ∀ a0 a1 a2 a3 k, LeO (laws_FnExactRescueOrder.f k a0 a1 a2 a3) (laws_FnExactRescueOrder.f (k + 1) a0 a1 a2 a3) := by
 intro a0 a1 a2 a3 k
 obtain ⟨ih0, ih1, ih2⟩ := laws_FnExactRescueOrder.mono_l k
 unfold laws_FnExactRescueOrder.f
 repeat' first
   | (with_reducible exact ih0 _ _ _ _ _ _ _ _ _ _ _ _)
   | (with_reducible exact ih1 _ _ _ _ _ _ _ _)
   | (with_reducible exact ih2 _ _ _)
   | (with_reducible exact impl_RescueOrder.mono _ _ _ _ _)
   | (with_reducible exact laws_eqIntS.mono _ _ _)
   | (with_reducible exact laws_eqLegS.mono _ _ _)
   | (with_reducible exact laws_heldIntS.mono _ _ _)
   | (with_reducible exact laws_markIntS.mono _ _ _)
   | (with_reducible exact laws_markLegS.mono _ _ _)
   | (with_reducible exact laws_toIntS.mono _ _)
   | (with_reducible exact laws_toLegS.mono _ _)
   | (with_reducible exact spec_RescueOrder.mono _ _ _ _ _)
   | (with_reducible exact LeO.refl _)
   | (with_reducible exact LeO.none _)
   | (with_reducible refine LeO.ite ?_ ?_)
   | (with_reducible refine LeO.bind ?_ (fun _ => ?_))
   | exact ih0 _ _ _ _ _ _ _ _ _ _ _ _
   | exact ih1 _ _ _ _ _ _ _ _
   | exact ih2 _ _ _
   | exact impl_RescueOrder.mono _ _ _ _ _
   | exact laws_eqIntS.mono _ _ _
   | exact laws_eqLegS.mono _ _ _
   | exact laws_heldIntS.mono _ _ _
   | exact laws_markIntS.mono _ _ _
   | exact laws_markLegS.mono _ _ _
   | exact laws_toIntS.mono _ _
   | exact laws_toLegS.mono _ _
   | exact spec_RescueOrder.mono _ _ _ _ _
   | exact LeO.none _
   | refine LeO.ite ?_ ?_
   | refine LeO.bind ?_ (fun _ => ?_)
set_option maxHeartbeats 8000000 in
set_option maxRecDepth 100000 in
theorem laws_FnExactRescueOrder.calls (k : Nat) (A0 : Option Addr) (c0 : Nat) (l0 : List (S79)) (A1 : Option Addr) (c1 : Nat) (l1 : List Int) (a2 : Int) (A3 : Option Addr) (c3 : Nat) (l3 : List Int) (r : Bool) (w : World) (hr0 : Kd.C k79 w A0 l0.length l0) (hc0 : l0.length ≤ c0) (hr1 : Kd.C (Kd.int .i64) w A1 l1.length l1) (hc1 : l1.length ≤ c1) (hr3 : Kd.C (Kd.int .i64) w A3 l3.length l3) (hc3 : l3.length ≤ c3) (h : laws_FnExactRescueOrder.f k l0 l1 a2 l3 = some r) :
  Calls Try.prog 5 #[.slice A0 l0.length c0, .slice A1 l1.length c1, .int .i64 a2, .slice A3 l3.length c3] w fun e w' => e = .returned (.bool r) ∧ Below w.heap.size w w' := by
 have HR0 := Aside0.mk hr0; have HC0 := Aside0.mk hc0; clear hr0 hc0; have HR1 := Aside0.mk hr1; have HC1 := Aside0.mk hc1; clear hr1 hc1; have HR3 := Aside0.mk hr3; have HC3 := Aside0.mk hc3; clear hr3 hc3
 have HB := Aside0.mk (Below.refl w.heap.size w)
 have H : (if (l1.length : Int) > 1048576 then (some true) else (if (l3.length : Int) > 1048576 then (some true) else ((laws_szLegS.f l0 1048576).bind fun t286 => (if t286 < 0 then (some true) else ((laws_toLegS.f k l0).bind fun t287 => ((laws_toIntS.f k l1).bind fun t290 => ((laws_toIntS.f k l3).bind fun t293 => ((spec_RescueOrder.f k t287 t290 a2 t293).bind fun bt296 => ((laws_toLegS.f k l0).bind fun t300 => ((laws_toIntS.f k l1).bind fun t303 => ((laws_toIntS.f k l3).bind fun t306 => ((impl_RescueOrder.f k t300 t303 a2 t306).bind fun bt309 => ((laws_eqIntS.f k bt309.1 bt296.1).bind fun t313 => (if t313 = true then (laws_FnExactRescueOrder.j0 k l0 l1 a2 l3 bt296.1 bt296.2 t300 t303 t306 bt309.1 bt309.2 (bt309.2 != bt296.2)) else (laws_FnExactRescueOrder.j0 k l0 l1 a2 l3 bt296.1 bt296.2 t300 t303 t306 bt309.1 bt309.2 true))))))))))))))) = some r := h
 clear h
 by_cases c5 : (l1.length : Int) > 1048576
 ·rw [if_pos c5] at H
  have c5b0 : decide (1048576 < (l1.length : Int)) = true := decide_eq_true c5
  have c5b1 : decide (1048576 < l1.length) = true := decide_eq_true (by omega)
  clear c5; obtain rfl := Option.some.inj H
  go_enter Try.func5, Try.ntmps5
  go_wp2
  go_ret
  exact ⟨(qR9_8), (qR9_0)⟩
 ·rw [if_neg c5] at H
  have c5b0 : decide (1048576 < (l1.length : Int)) = false := decide_eq_false c5
  have c5b1 : decide (1048576 < l1.length) = false := decide_eq_false (by omega)
  clear c5
  by_cases c6 : (l3.length : Int) > 1048576
  ·rw [if_pos c6] at H
   have c6b0 : decide (1048576 < (l3.length : Int)) = true := decide_eq_true c6
   have c6b1 : decide (1048576 < l3.length) = true := decide_eq_true (by omega)
   clear c6; obtain rfl := Option.some.inj H
   go_enter Try.func5, Try.ntmps5
   go_wp2
   go_ret
   exact ⟨(qR9_8), (qR9_0)⟩
  ·rw [if_neg c6] at H
   have c6b0 : decide (1048576 < (l3.length : Int)) = false := decide_eq_false c6
   have c6b1 : decide (1048576 < l3.length) = false := decide_eq_false (by omega)
   clear c6; replace H := Option.bind_eq_some_iff.mp H; obtain ⟨t286, A70, H⟩ := H
   try dsimp only at H
   have A7 := Aside0.mk A70; clear A70
   by_cases c8 : t286 < 0
   ·rw [if_pos c8] at H
    have c8b0 : decide (t286 < 0) = true := decide_eq_true c8
    clear c8; obtain rfl := Option.some.inj H
    go_enter Try.func5, Try.ntmps5
    go_wp2_with (first | ((with_reducible refine gate_callee (f := 21) rfl ?_); refine goesL_ (some 30) rfl rfl Try.func21 (by kernel_rfl) rfl #[.slice A0 l0.length c0, .int .i64 1048576] rfl (qR9_1) ?_; (with_reducible refine (laws_szLegS.calls _ _ l0 1048576 t286 _ ?side1 ?side2 A7.out).mono ?_); (case side1 => exact (qR9_26)); (case side2 => exact HC0.out); rintro e w' ⟨rfl, ⟨nd, rfl⟩⟩; refine ⟨_, rfl, ?_⟩))
    go_ret
    exact ⟨(qR9_8), (qR9_0)⟩
   ·rw [if_neg c8] at H
    have c8b0 : decide (t286 < 0) = false := decide_eq_false c8
    clear c8; replace H := Option.bind_eq_some_iff.mp H; obtain ⟨t287, A90, H⟩ := H
    try dsimp only at H
    have A9 := Aside0.mk A90; clear A90; replace H := Option.bind_eq_some_iff.mp H; obtain ⟨t290, A100, H⟩ := H
    try dsimp only at H
    have A10 := Aside0.mk A100; clear A100; replace H := Option.bind_eq_some_iff.mp H; obtain ⟨t293, A110, H⟩ := H
    try dsimp only at H
    have A11 := Aside0.mk A110; clear A110; replace H := Option.bind_eq_some_iff.mp H; obtain ⟨⟨t296, t297⟩, A120, H⟩ := H
    try dsimp only at H
    have A12 := Aside0.mk A120; clear A120; replace H := Option.bind_eq_some_iff.mp H; obtain ⟨t300, A130, H⟩ := H
    try dsimp only at H
    have A13 := Aside0.mk A130; clear A130; replace H := Option.bind_eq_some_iff.mp H; obtain ⟨t303, A140, H⟩ := H
    try dsimp only at H
    have A14 := Aside0.mk A140; clear A140; replace H := Option.bind_eq_some_iff.mp H; obtain ⟨t306, A150, H⟩ := H
    try dsimp only at H
    have A15 := Aside0.mk A150; clear A150; replace H := Option.bind_eq_some_iff.mp H; obtain ⟨⟨t309, t310⟩, A160, H⟩ := H
    try dsimp only at H
    have A16 := Aside0.mk A160; clear A160; have HC17 := Aside0.mk H; clear H
    go_enter Try.func5, Try.ntmps5
    go_upto_region 14 with (first | ((with_reducible refine gate_callee (f := 21) rfl ?_); refine goesL_ (some 30) rfl rfl Try.func21 (by kernel_rfl) rfl #[.slice A0 l0.length c0, .int .i64 1048576] rfl (qR9_1) ?_; (with_reducible refine (laws_szLegS.calls _ _ l0 1048576 t286 _ ?side1 ?side2 A7.out).mono ?_); (case side1 => exact (qR9_26)); (case side2 => exact HC0.out); rintro e w' ⟨rfl, ⟨nd, rfl⟩⟩; refine ⟨_, rfl, ?_⟩) | ((with_reducible refine gate_callee (f := 23) rfl ?_); refine goesL_ (some 35) rfl rfl Try.func23 (by kernel_rfl) rfl #[.slice A0 l0.length c0] rfl (qR9_1) ?_; (with_reducible refine (laws_toLegS.calls k _ _ l0 t287 _ ?side1 ?side2 A9.out).mono ?_); (case side1 => exact (qR9_26)); (case side2 => exact HC0.out); rintro e w18 ⟨v288, rfl, ho0, hb⟩; refine ⟨_, rfl, ?_⟩; have n0_ := Aside0.mk (Kd.R_lower ho0 (below_size (qR9_0))); have n1_ := Aside0.mk (below_step (qR9_0) hb); clear HB; have HO289 := n0_; have HB := n1_; clear n0_ n1_; (try clear hb); (try clear hb2); (try clear hk); (try clear hi); (try clear ho0)) | ((with_reducible refine gate_callee (f := 24) rfl ?_); refine goesL_ (some 37) rfl rfl Try.func24 (by kernel_rfl) rfl #[.slice A1 l1.length c1] rfl (qR9_1) ?_; (with_reducible refine (laws_toIntS.calls k _ _ l1 t290 _ ?side1 ?side2 A10.out).mono ?_); (case side1 => exact (qR9_10)); (case side2 => exact HC1.out); rintro e w19 ⟨v291, rfl, ho0, hb⟩; refine ⟨_, rfl, ?_⟩; have n0_ := Aside0.mk (Kd.R_below (qR9_13) hb); have n1_ := Aside0.mk (Kd.R_lower ho0 (below_size (qR9_0))); have n2_ := Aside0.mk (below_step (qR9_0) hb); clear HO289 HB; have HO289 := n0_; have HO292 := n1_; have HB := n2_; clear n0_ n1_ n2_; (try clear hb); (try clear hb2); (try clear hk); (try clear hi); (try clear ho0)) | ((with_reducible refine gate_callee (f := 24) rfl ?_); refine goesL_ (some 40) rfl rfl Try.func24 (by kernel_rfl) rfl #[.slice A3 l3.length c3] rfl (qR9_1) ?_; (with_reducible refine (laws_toIntS.calls k _ _ l3 t293 _ ?side1 ?side2 A11.out).mono ?_); (case side1 => exact (qR9_20)); (case side2 => exact HC3.out); rintro e w20 ⟨v294, rfl, ho0, hb⟩; refine ⟨_, rfl, ?_⟩; have n0_ := Aside0.mk (Kd.R_below (qR9_13) hb); have n1_ := Aside0.mk (Kd.R_elder' (qR9_9) (Kd.R_base ho0) hb); have n2_ := Aside0.mk (Kd.R_lower (Kd.R_new' ho0 (Kd.R_lt (qR9_9))) (below_size (qR9_0))); have n3_ := Aside0.mk (below_step (qR9_0) hb); clear HO289 HO292 HB; have HO289 := n0_; have HO292 := n1_; have HO295 := n2_; have HB := n3_; clear n0_ n1_ n2_ n3_; (try clear hb); (try clear hb2); (try clear hk); (try clear hi); (try clear ho0); obtain ⟨Ao21, co21, eo21⟩ := Kd.R_slice HO289.out; subst eo21; obtain ⟨Ao22, co22, eo22⟩ := Kd.R_slice HO292.out; subst eo22; obtain ⟨Ao23, co23, eo23⟩ := Kd.R_slice HO295.out; subst eo23) | ((with_reducible refine gate_callee (f := 31) rfl ?_); refine goesL_ (some 41) rfl rfl Try.func31 (by kernel_rfl) rfl #[.slice Ao21 t287.length co21, .slice Ao22 t290.length co22, .int .i64 a2, .slice Ao23 t293.length co23] rfl (qR9_1) ?_; (with_reducible refine (spec_RescueOrder.calls k _ _ t287 _ _ t290 a2 _ _ t293 t296 t297 _ ?side1 ?side2 ?side3 ?side4 ?side5 ?side6 A12.out).mono ?_); (case side1 => exact (by repeat (first | exact (Kd.R_reads' HO289.out).2.2 | (with_reducible refine Kd.C_alloc ?_ _) | (with_reducible refine Kd.C_drewN ?_ _) | (with_reducible refine Kd.C_drew ?_)))); (case side2 => exact (by exact (Kd.R_reads' HO289.out).2.1)); (case side3 => exact (by repeat (first | exact (Kd.R_reads' HO292.out).2.2 | (with_reducible refine Kd.C_alloc ?_ _) | (with_reducible refine Kd.C_drewN ?_ _) | (with_reducible refine Kd.C_drew ?_)))); (case side4 => exact (by exact (Kd.R_reads' HO292.out).2.1)); (case side5 => exact (by repeat (first | exact (Kd.R_reads' HO295.out).2.2 | (with_reducible refine Kd.C_alloc ?_ _) | (with_reducible refine Kd.C_drewN ?_ _) | (with_reducible refine Kd.C_drew ?_)))); (case side6 => exact (by exact (Kd.R_reads' HO295.out).2.1)); rintro e w24 ⟨v298, rfl, ho0, hb⟩; refine ⟨_, rfl, ?_⟩; have n0_ := Aside0.mk (Kd.R_below (qR9_13) hb); have n1_ := Aside0.mk (Kd.R_elder' (qR9_9) (Kd.R_base ho0) hb); have n2_ := Aside0.mk (Kd.R_elder' (qR9_11) (Kd.R_base ho0) hb); have n3_ := Aside0.mk (Kd.R_lower (Kd.R_new' (Kd.R_new' ho0 (Kd.R_lt (qR9_9))) (Kd.R_lt (qR9_11))) (below_size (qR9_0))); have n4_ := Aside0.mk (below_step (qR9_0) hb); clear HO289 HO292 HO295 HB; have HO289 := n0_; have HO292 := n1_; have HO295 := n2_; have HO299 := n3_; have HB := n4_; clear n0_ n1_ n2_ n3_ n4_; (try clear hb); (try clear hb2); (try clear hk); (try clear hi); (try clear ho0)) | ((with_reducible refine gate_callee (f := 23) rfl ?_); refine goesL_ (some 45) rfl rfl Try.func23 (by kernel_rfl) rfl #[.slice A0 l0.length c0] rfl (qR9_1) ?_; (with_reducible refine (laws_toLegS.calls k _ _ l0 t300 _ ?side1 ?side2 A13.out).mono ?_); (case side1 => exact (qR9_14)); (case side2 => exact HC0.out); rintro e w25 ⟨v301, rfl, ho0, hb⟩; refine ⟨_, rfl, ?_⟩; have n0_ := Aside0.mk (Kd.R_elder' (qR9_13) (Kd.R_base ho0) hb); have n1_ := Aside0.mk (Kd.R_below (qR9_9) hb); have n2_ := Aside0.mk (Kd.R_below (qR9_11) hb); have n3_ := Aside0.mk (Kd.R_below (qR9_15) hb); have n4_ := Aside0.mk (Kd.R_lower (Kd.R_new' ho0 (Kd.R_lt (qR9_13))) (below_size (qR9_0))); have n5_ := Aside0.mk (below_step (qR9_0) hb); clear HO289 HO292 HO295 HO299 HB; have HO289 := n0_; have HO292 := n1_; have HO295 := n2_; have HO299 := n3_; have HO302 := n4_; have HB := n5_; clear n0_ n1_ n2_ n3_ n4_ n5_; (try clear hb); (try clear hb2); (try clear hk); (try clear hi); (try clear ho0)) | ((with_reducible refine gate_callee (f := 24) rfl ?_); refine goesL_ (some 47) rfl rfl Try.func24 (by kernel_rfl) rfl #[.slice A1 l1.length c1] rfl (qR9_1) ?_; (with_reducible refine (laws_toIntS.calls k _ _ l1 t303 _ ?side1 ?side2 A14.out).mono ?_); (case side1 => exact (qR9_10)); (case side2 => exact HC1.out); rintro e w26 ⟨v304, rfl, ho0, hb⟩; refine ⟨_, rfl, ?_⟩; have n0_ := Aside0.mk (Kd.R_below (qR9_13) hb); have n1_ := Aside0.mk (Kd.R_elder' (qR9_9) (Kd.R_base ho0) hb); have n2_ := Aside0.mk (Kd.R_elder' (qR9_11) (Kd.R_base ho0) hb); have n3_ := Aside0.mk (Kd.R_elder' (qR9_15) (Kd.R_base ho0) hb); have n4_ := Aside0.mk (Kd.R_below (qR9_31) hb); have n5_ := Aside0.mk (Kd.R_lower (Kd.R_new' (Kd.R_new' (Kd.R_new' ho0 (Kd.R_lt (qR9_9))) (Kd.R_lt (qR9_11))) (Kd.R_lt (qR9_15))) (below_size (qR9_0))); have n6_ := Aside0.mk (below_step (qR9_0) hb); clear HO289 HO292 HO295 HO299 HO302 HB; have HO289 := n0_; have HO292 := n1_; have HO295 := n2_; have HO299 := n3_; have HO302 := n4_; have HO305 := n5_; have HB := n6_; clear n0_ n1_ n2_ n3_ n4_ n5_ n6_; (try clear hb); (try clear hb2); (try clear hk); (try clear hi); (try clear ho0)) | ((with_reducible refine gate_callee (f := 24) rfl ?_); refine goesL_ (some 49) rfl rfl Try.func24 (by kernel_rfl) rfl #[.slice A3 l3.length c3] rfl (qR9_1) ?_; (with_reducible refine (laws_toIntS.calls k _ _ l3 t306 _ ?side1 ?side2 A15.out).mono ?_); (case side1 => exact (qR9_20)); (case side2 => exact HC3.out); rintro e w27 ⟨v307, rfl, ho0, hb⟩; refine ⟨_, rfl, ?_⟩; have n0_ := Aside0.mk (Kd.R_below (qR9_13) hb); have n1_ := Aside0.mk (Kd.R_elder' (qR9_9) (Kd.R_base ho0) hb); have n2_ := Aside0.mk (Kd.R_elder' (qR9_11) (Kd.R_base ho0) hb); have n3_ := Aside0.mk (Kd.R_elder' (qR9_15) (Kd.R_base ho0) hb); have n4_ := Aside0.mk (Kd.R_below (qR9_31) hb); have n5_ := Aside0.mk (Kd.R_elder' (qR9_23) (Kd.R_base ho0) hb); have n6_ := Aside0.mk (Kd.R_lower (Kd.R_new' (Kd.R_new' (Kd.R_new' (Kd.R_new' ho0 (Kd.R_lt (qR9_9))) (Kd.R_lt (qR9_11))) (Kd.R_lt (qR9_15))) (Kd.R_lt (qR9_23))) (below_size (qR9_0))); have n7_ := Aside0.mk (below_step (qR9_0) hb); clear HO289 HO292 HO295 HO299 HO302 HO305 HB; have HO289 := n0_; have HO292 := n1_; have HO295 := n2_; have HO299 := n3_; have HO302 := n4_; have HO305 := n5_; have HO308 := n6_; have HB := n7_; clear n0_ n1_ n2_ n3_ n4_ n5_ n6_ n7_; (try clear hb); (try clear hb2); (try clear hk); (try clear hi); (try clear ho0); obtain ⟨Ao28, co28, eo28⟩ := Kd.R_slice HO302.out; subst eo28; obtain ⟨Ao29, co29, eo29⟩ := Kd.R_slice HO305.out; subst eo29; obtain ⟨Ao30, co30, eo30⟩ := Kd.R_slice HO308.out; subst eo30) | ((with_reducible refine gate_callee (f := 32) rfl ?_); refine goesL_ (some 55) rfl rfl Try.func32 (by kernel_rfl) rfl #[.slice Ao28 t300.length co28, .slice Ao29 t303.length co29, .int .i64 a2, .slice Ao30 t306.length co30] rfl (qR9_1) ?_; (with_reducible refine (impl_RescueOrder.calls k _ _ t300 _ _ t303 a2 _ _ t306 t309 t310 _ ?side1 ?side2 ?side3 ?side4 ?side5 ?side6 A16.out).mono ?_); (case side1 => exact (by repeat (first | exact (Kd.R_reads' HO302.out).2.2 | (with_reducible refine Kd.C_alloc ?_ _) | (with_reducible refine Kd.C_drewN ?_ _) | (with_reducible refine Kd.C_drew ?_)))); (case side2 => exact (by exact (Kd.R_reads' HO302.out).2.1)); (case side3 => exact (by repeat (first | exact (Kd.R_reads' HO305.out).2.2 | (with_reducible refine Kd.C_alloc ?_ _) | (with_reducible refine Kd.C_drewN ?_ _) | (with_reducible refine Kd.C_drew ?_)))); (case side4 => exact (by exact (Kd.R_reads' HO305.out).2.1)); (case side5 => exact (by repeat (first | exact (Kd.R_reads' HO308.out).2.2 | (with_reducible refine Kd.C_alloc ?_ _) | (with_reducible refine Kd.C_drewN ?_ _) | (with_reducible refine Kd.C_drew ?_)))); (case side6 => exact (by exact (Kd.R_reads' HO308.out).2.1)); rintro e w31 ⟨v311, rfl, ho0, hb⟩; refine ⟨_, rfl, ?_⟩; have n0_ := Aside0.mk (Kd.R_below (qR9_13) hb); have n1_ := Aside0.mk (Kd.R_elder' (qR9_9) (Kd.R_base ho0) hb); have n2_ := Aside0.mk (Kd.R_elder' (qR9_11) (Kd.R_base ho0) hb); have n3_ := Aside0.mk (Kd.R_elder' (qR9_15) (Kd.R_base ho0) hb); have n4_ := Aside0.mk (Kd.R_below (qR9_31) hb); have n5_ := Aside0.mk (Kd.R_elder' (qR9_23) (Kd.R_base ho0) hb); have n6_ := Aside0.mk (Kd.R_elder' (qR9_46) (Kd.R_base ho0) hb); have n7_ := Aside0.mk (Kd.R_lower (Kd.R_new' (Kd.R_new' (Kd.R_new' (Kd.R_new' (Kd.R_new' ho0 (Kd.R_lt (qR9_9))) (Kd.R_lt (qR9_11))) (Kd.R_lt (qR9_15))) (Kd.R_lt (qR9_23))) (Kd.R_lt (qR9_46))) (below_size (qR9_0))); have n8_ := Aside0.mk (below_step (qR9_0) hb); clear HO289 HO292 HO295 HO299 HO302 HO305 HO308 HB; have HO289 := n0_; have HO292 := n1_; have HO295 := n2_; have HO299 := n3_; have HO302 := n4_; have HO305 := n5_; have HO308 := n6_; have HO312 := n7_; have HB := n8_; clear n0_ n1_ n2_ n3_ n4_ n5_ n6_ n7_ n8_; (try clear hb); (try clear hb2); (try clear hk); (try clear hi); (try clear ho0)))
    (try simp only [Act.put, List.setIfInBounds_toArray, List.set_cons_zero, List.set_cons_succ])
    go_cut [66] (fun v66 wc => ∃ (kq : Nat) (x66_16 : Bool), v66 = .bool x66_16 ∧ Aside0 (laws_FnExactRescueOrder.j0 kq l0 l1 a2 l3 t296 t297 t300 t303 t306 t309 t310 x66_16 = some r) ∧ Aside0 (kq ≤ k) ∧ Aside0 (Kd.R (Kd.int .i64) 3 wc w.heap.size (fun k_ => some k_ ≠ ((.slice Ao29 t303.length co29) : Value).ownBlock ∧ some k_ ≠ ((.slice Ao30 t306.length co30) : Value).ownBlock ∧ some k_ ≠ (v311 : Value).ownBlock) v298 t296) ∧ Aside0 (Kd.R k66 66 wc w.heap.size (fun _ => True) (.slice Ao28 t300.length co28) t300) ∧ Aside0 (Kd.R (Kd.int .i64) 3 wc w.heap.size (fun k_ => some k_ ≠ (v298 : Value).ownBlock ∧ some k_ ≠ ((.slice Ao30 t306.length co30) : Value).ownBlock ∧ some k_ ≠ (v311 : Value).ownBlock) (.slice Ao29 t303.length co29) t303) ∧ Aside0 (Kd.R (Kd.int .i64) 3 wc w.heap.size (fun k_ => some k_ ≠ (v298 : Value).ownBlock ∧ some k_ ≠ ((.slice Ao29 t303.length co29) : Value).ownBlock ∧ some k_ ≠ (v311 : Value).ownBlock) (.slice Ao30 t306.length co30) t306) ∧ Aside0 (Kd.R (Kd.int .i64) 3 wc w.heap.size (fun k_ => some k_ ≠ (v298 : Value).ownBlock ∧ some k_ ≠ ((.slice Ao29 t303.length co29) : Value).ownBlock ∧ some k_ ≠ ((.slice Ao30 t306.length co30) : Value).ownBlock) v311 t309) ∧ Aside0 (Below w.heap.size w wc))
    case first =>
     have H := HC17.out
     clear HC17; replace H := Option.bind_eq_some_iff.mp H; obtain ⟨t313, A320, H⟩ := H
     try dsimp only at H
     have A32 := Aside0.mk A320; clear A320
     by_cases c33 : t313 = true
     ·subst c33
      have H1 : (laws_FnExactRescueOrder.j0 k l0 l1 a2 l3 t296 t297 t300 t303 t306 t309 t310 (t310 != t297)) = some r := by rw [if_pos rfl] at H; exact H
      clear H; have H := H1; clear H1
      have H' := Aside0.mk H
      clear H
      obtain ⟨Ao34, co34, eo34⟩ := Kd.R_slice HO312.out
      subst eo34
      obtain ⟨Ao35, co35, eo35⟩ := Kd.R_slice HO299.out
      subst eo35
      go_wp2_with (first | ((with_reducible refine gate_callee (f := 26) rfl ?_); refine goesL_ (some 60) rfl rfl Try.func26 (by kernel_rfl) rfl #[.slice Ao34 t309.length co34, .slice Ao35 t296.length co35] rfl (qR9_1) ?_; (with_reducible refine (laws_eqIntS.calls k _ _ t309 _ _ t296 true _ ?side1 ?side2 ?side3 ?side4 A32.out).mono ?_); (case side1 => exact (qR9_34)); (case side2 => exact (by exact (Kd.R_reads' HO312.out).2.1)); (case side3 => exact (qR9_35)); (case side4 => exact (by exact (Kd.R_reads' HO299.out).2.1)); rintro e w' ⟨rfl, ⟨nd, rfl⟩⟩; refine ⟨_, rfl, ?_⟩))
      go_meet
      case rel => exact ⟨_, ((t310 != t297)), (qR9_29), H', ⟨by first | omega | exact Nat.le_refl _⟩, ⟨(qR9_39)⟩, ⟨(qR9_43)⟩, ⟨(qR9_40)⟩, ⟨(qR9_41)⟩, ⟨(qR9_42)⟩, ⟨(qR9_0)⟩⟩
     ·replace c33 := Bool.eq_false_iff.mpr c33
      subst c33
      have H1 : (laws_FnExactRescueOrder.j0 k l0 l1 a2 l3 t296 t297 t300 t303 t306 t309 t310 true) = some r := by rw [if_neg (show ¬ (false = true) by decide)] at H; exact H
      clear H; have H := H1; clear H1
      have H' := Aside0.mk H
      clear H
      obtain ⟨Ao36, co36, eo36⟩ := Kd.R_slice HO312.out
      subst eo36
      obtain ⟨Ao37, co37, eo37⟩ := Kd.R_slice HO299.out
      subst eo37
      go_wp2_with (first | ((with_reducible refine gate_callee (f := 26) rfl ?_); refine goesL_ (some 60) rfl rfl Try.func26 (by kernel_rfl) rfl #[.slice Ao36 t309.length co36, .slice Ao37 t296.length co37] rfl (qR9_1) ?_; (with_reducible refine (laws_eqIntS.calls k _ _ t309 _ _ t296 false _ ?side1 ?side2 ?side3 ?side4 A32.out).mono ?_); (case side1 => exact (qR9_34)); (case side2 => exact (by exact (Kd.R_reads' HO312.out).2.1)); (case side3 => exact (qR9_35)); (case side4 => exact (by exact (Kd.R_reads' HO299.out).2.1)); rintro e w' ⟨rfl, ⟨nd, rfl⟩⟩; refine ⟨_, rfl, ?_⟩))
      go_meet
      case rel => exact ⟨_, (true), (qR9_29), H', ⟨by first | omega | exact Nat.le_refl _⟩, ⟨(qR9_39)⟩, ⟨(qR9_43)⟩, ⟨(qR9_40)⟩, ⟨(qR9_41)⟩, ⟨(qR9_42)⟩, ⟨(qR9_0)⟩⟩
    case rest =>
     clear HC17
     try clear c1
     try clear c2
     try clear p2
     try clear c3
     try clear c5
     try clear c5b0
     try clear c5b1
     try clear c6
     try clear c6b0
     try clear c6b1
     try clear c8
     try clear c8b0
     try clear c21
     try clear c23
     try clear c24
     try clear c26
     try clear c31
     try clear c32
     try clear c33
     obtain ⟨kq, x66_16, rfl, HA, HJ16, HO_10, HO_12, HO_13, HO_14, HO_15, HB⟩ := hcut
     cases kq with
     | zero => exact absurd HA.out (by simp [laws_FnExactRescueOrder.j0])
     | succ kj16 =>
      have H := HA.out
      clear HA
      simp only [laws_FnExactRescueOrder.j0] at H
      by_cases c38 : x66_16 = true
      ·subst c38
       have H1 : (some false) = some r := by rw [if_pos rfl] at H; exact H
       clear H; have H := H1; clear H1; obtain rfl := Option.some.inj H
       go_wp2
       go_ret
       exact ⟨(qR9_8), (qR9_0)⟩
      ·replace c38 := Bool.eq_false_iff.mpr c38
       subst c38
       have H1 : ((laws_toLegS.f kj16 l0).bind fun t314 => ((laws_eqLegS.f kj16 t300 t314).bind fun t317 => (if t317 = true then ((laws_toIntS.f kj16 l1).bind fun t318 => ((laws_eqIntS.f kj16 t303 t318).bind fun t321 => (if t321 = true then ((laws_toIntS.f kj16 l3).bind fun t322 => ((laws_eqIntS.f kj16 t306 t322).bind fun t325 => (if t325 = true then ((laws_markLegS.f kj16 t300 1).bind fun bt326 => ((laws_markIntS.f kj16 t303 bt326.1).bind fun bt328 => ((laws_markIntS.f kj16 t306 bt328.1).bind fun bt330 => (if bt330.1 < 0 then (laws_FnExactRescueOrder.j1 kj16 l0 l1 a2 l3 t296 t297 t309 true) else ((laws_eqIntS.f kj16 t309 t296).bind fun t332 => (if t332 = true then (laws_FnExactRescueOrder.j1 kj16 l0 l1 a2 l3 t296 t297 t309 (t310 != t297)) else (laws_FnExactRescueOrder.j1 kj16 l0 l1 a2 l3 t296 t297 t309 true))))))) else (some false)))) else (some false)))) else (some false)))) = some r := by rw [if_neg (show ¬ (false = true) by decide)] at H; exact H
       clear H; have H := H1; clear H1; replace H := Option.bind_eq_some_iff.mp H; obtain ⟨t314, A390, H⟩ := H
       try dsimp only at H
       have A39 := Aside0.mk A390; clear A390; replace H := Option.bind_eq_some_iff.mp H; obtain ⟨t317, A400, H⟩ := H
       try dsimp only at H
       have A40 := Aside0.mk A400; clear A400
       by_cases c41 : t317 = true
       ·subst c41
        have H1 : ((laws_toIntS.f kj16 l1).bind fun t318 => ((laws_eqIntS.f kj16 t303 t318).bind fun t321 => (if t321 = true then ((laws_toIntS.f kj16 l3).bind fun t322 => ((laws_eqIntS.f kj16 t306 t322).bind fun t325 => (if t325 = true then ((laws_markLegS.f kj16 t300 1).bind fun bt326 => ((laws_markIntS.f kj16 t303 bt326.1).bind fun bt328 => ((laws_markIntS.f kj16 t306 bt328.1).bind fun bt330 => (if bt330.1 < 0 then (laws_FnExactRescueOrder.j1 kj16 l0 l1 a2 l3 t296 t297 t309 true) else ((laws_eqIntS.f kj16 t309 t296).bind fun t332 => (if t332 = true then (laws_FnExactRescueOrder.j1 kj16 l0 l1 a2 l3 t296 t297 t309 (t310 != t297)) else (laws_FnExactRescueOrder.j1 kj16 l0 l1 a2 l3 t296 t297 t309 true))))))) else (some false)))) else (some false)))) = some r := by rw [if_pos rfl] at H; exact H
        clear H; have H := H1; clear H1; replace H := Option.bind_eq_some_iff.mp H; obtain ⟨t318, A420, H⟩ := H
        try dsimp only at H
        have A42 := Aside0.mk A420; clear A420; replace H := Option.bind_eq_some_iff.mp H; obtain ⟨t321, A430, H⟩ := H
        try dsimp only at H
        have A43 := Aside0.mk A430; clear A430
        by_cases c44 : t321 = true
        ·subst c44
         have H1 : ((laws_toIntS.f kj16 l3).bind fun t322 => ((laws_eqIntS.f kj16 t306 t322).bind fun t325 => (if t325 = true then ((laws_markLegS.f kj16 t300 1).bind fun bt326 => ((laws_markIntS.f kj16 t303 bt326.1).bind fun bt328 => ((laws_markIntS.f kj16 t306 bt328.1).bind fun bt330 => (if bt330.1 < 0 then (laws_FnExactRescueOrder.j1 kj16 l0 l1 a2 l3 t296 t297 t309 true) else ((laws_eqIntS.f kj16 t309 t296).bind fun t332 => (if t332 = true then (laws_FnExactRescueOrder.j1 kj16 l0 l1 a2 l3 t296 t297 t309 (t310 != t297)) else (laws_FnExactRescueOrder.j1 kj16 l0 l1 a2 l3 t296 t297 t309 true))))))) else (some false)))) = some r := by rw [if_pos rfl] at H; exact H
         clear H; have H := H1; clear H1; replace H := Option.bind_eq_some_iff.mp H; obtain ⟨t322, A450, H⟩ := H
         try dsimp only at H
         have A45 := Aside0.mk A450; clear A450; replace H := Option.bind_eq_some_iff.mp H; obtain ⟨t325, A460, H⟩ := H
         try dsimp only at H
         have A46 := Aside0.mk A460; clear A460
         by_cases c47 : t325 = true
         ·subst c47
          have H1 : ((laws_markLegS.f kj16 t300 1).bind fun bt326 => ((laws_markIntS.f kj16 t303 bt326.1).bind fun bt328 => ((laws_markIntS.f kj16 t306 bt328.1).bind fun bt330 => (if bt330.1 < 0 then (laws_FnExactRescueOrder.j1 kj16 l0 l1 a2 l3 t296 t297 t309 true) else ((laws_eqIntS.f kj16 t309 t296).bind fun t332 => (if t332 = true then (laws_FnExactRescueOrder.j1 kj16 l0 l1 a2 l3 t296 t297 t309 (t310 != t297)) else (laws_FnExactRescueOrder.j1 kj16 l0 l1 a2 l3 t296 t297 t309 true))))))) = some r := by rw [if_pos rfl] at H; exact H
          clear H; have H := H1; clear H1; replace H := Option.bind_eq_some_iff.mp H; obtain ⟨⟨t326, t327⟩, A480, H⟩ := H
          try dsimp only at H
          have A48 := Aside0.mk A480; clear A480; replace H := Option.bind_eq_some_iff.mp H; obtain ⟨⟨t328, t329⟩, A490, H⟩ := H
          try dsimp only at H
          have A49 := Aside0.mk A490; clear A490; replace H := Option.bind_eq_some_iff.mp H; obtain ⟨⟨t330, t331⟩, A500, H⟩ := H
          try dsimp only at H
          have A50 := Aside0.mk A500; clear A500; have HC51 := Aside0.mk H; clear H
          go_upto_region 26 with (first | ((with_reducible refine gate_callee (f := 23) rfl ?_); refine goesL_ (some 69) rfl rfl Try.func23 (by kernel_rfl) rfl #[.slice A0 l0.length c0] rfl (qR9_1) ?_; (with_reducible refine (laws_toLegS.calls kj16 _ _ l0 t314 _ ?side1 ?side2 A39.out).mono ?_); (case side1 => exact (qR9_14)); (case side2 => exact HC0.out); rintro e w52 ⟨v315, rfl, ho0, hb⟩; refine ⟨_, rfl, ?_⟩; have n0_ := Aside0.mk (Kd.R_below (qR9_2) hb); have n1_ := Aside0.mk (Kd.R_elder' (qR9_6) (Kd.R_base ho0) hb); have n2_ := Aside0.mk (Kd.R_below (qR9_4) hb); have n3_ := Aside0.mk (Kd.R_below (qR9_5) hb); have n4_ := Aside0.mk (Kd.R_below (qR9_3) hb); have n5_ := Aside0.mk (Kd.R_lower (Kd.R_new' ho0 (Kd.R_lt (qR9_6))) (below_size (qR9_0))); have n6_ := Aside0.mk (below_step (qR9_0) hb); clear HO_10 HO_12 HO_13 HO_14 HO_15 HB; have HO_10 := n0_; have HO_12 := n1_; have HO_13 := n2_; have HO_14 := n3_; have HO_15 := n4_; have HO316 := n5_; have HB := n6_; clear n0_ n1_ n2_ n3_ n4_ n5_ n6_; (try clear hb); (try clear hb2); (try clear hk); (try clear hi); (try clear ho0); obtain ⟨Ao53, co53, eo53⟩ := Kd.R_slice HO316.out; subst eo53) | ((with_reducible refine gate_callee (f := 27) rfl ?_); refine goesL_ (some 70) rfl rfl Try.func27 (by kernel_rfl) rfl #[.slice Ao28 t300.length co28, .slice Ao53 t314.length co53] rfl (qR9_1) ?_; (with_reducible refine (laws_eqLegS.calls kj16 _ _ t300 _ _ t314 true _ ?side1 ?side2 ?side3 ?side4 A40.out).mono ?_); (case side1 => exact (qR9_16)); (case side2 => exact (qR9_48)); (case side3 => exact (qR9_17)); (case side4 => exact (qR9_49)); rintro e w54 ⟨rfl, hb⟩; refine ⟨_, rfl, ?_⟩; have n0_ := Aside0.mk (Kd.R_below (qR9_2) hb); have n1_ := Aside0.mk (Kd.R_below (qR9_6) hb); have n2_ := Aside0.mk (Kd.R_below (qR9_4) hb); have n3_ := Aside0.mk (Kd.R_below (qR9_5) hb); have n4_ := Aside0.mk (Kd.R_below (qR9_3) hb); have n5_ := Aside0.mk (Kd.R_below (qR9_12) hb); have n6_ := Aside0.mk (below_step (qR9_0) hb); clear HO_10 HO_12 HO_13 HO_14 HO_15 HO316 HB; have HO_10 := n0_; have HO_12 := n1_; have HO_13 := n2_; have HO_14 := n3_; have HO_15 := n4_; have HO316 := n5_; have HB := n6_; clear n0_ n1_ n2_ n3_ n4_ n5_ n6_; (try clear hb); (try clear hb2); (try clear hk); (try clear hi)) | ((with_reducible refine gate_callee (f := 24) rfl ?_); refine goesL_ (some 74) rfl rfl Try.func24 (by kernel_rfl) rfl #[.slice A1 l1.length c1] rfl (qR9_1) ?_; (with_reducible refine (laws_toIntS.calls kj16 _ _ l1 t318 _ ?side1 ?side2 A42.out).mono ?_); (case side1 => exact (qR9_10)); (case side2 => exact HC1.out); rintro e w55 ⟨v319, rfl, ho0, hb⟩; refine ⟨_, rfl, ?_⟩; have n0_ := Aside0.mk (Kd.R_elder' (qR9_2) (Kd.R_base ho0) hb); have n1_ := Aside0.mk (Kd.R_below (qR9_6) hb); have n2_ := Aside0.mk (Kd.R_elder' (qR9_4) (Kd.R_base ho0) hb); have n3_ := Aside0.mk (Kd.R_elder' (qR9_5) (Kd.R_base ho0) hb); have n4_ := Aside0.mk (Kd.R_elder' (qR9_3) (Kd.R_base ho0) hb); have n5_ := Aside0.mk (Kd.R_below (qR9_12) hb); have n6_ := Aside0.mk (Kd.R_lower (Kd.R_new' (Kd.R_new' (Kd.R_new' (Kd.R_new' ho0 (Kd.R_lt (qR9_2))) (Kd.R_lt (qR9_4))) (Kd.R_lt (qR9_5))) (Kd.R_lt (qR9_3))) (below_size (qR9_0))); have n7_ := Aside0.mk (below_step (qR9_0) hb); clear HO_10 HO_12 HO_13 HO_14 HO_15 HO316 HB; have HO_10 := n0_; have HO_12 := n1_; have HO_13 := n2_; have HO_14 := n3_; have HO_15 := n4_; have HO316 := n5_; have HO320 := n6_; have HB := n7_; clear n0_ n1_ n2_ n3_ n4_ n5_ n6_ n7_; (try clear hb); (try clear hb2); (try clear hk); (try clear hi); (try clear ho0); obtain ⟨Ao56, co56, eo56⟩ := Kd.R_slice HO320.out; subst eo56) | ((with_reducible refine gate_callee (f := 26) rfl ?_); refine goesL_ (some 75) rfl rfl Try.func26 (by kernel_rfl) rfl #[.slice Ao29 t303.length co29, .slice Ao56 t318.length co56] rfl (qR9_1) ?_; (with_reducible refine (laws_eqIntS.calls kj16 _ _ t303 _ _ t318 true _ ?side1 ?side2 ?side3 ?side4 A43.out).mono ?_); (case side1 => exact (qR9_21)); (case side2 => exact (by exact (Kd.R_reads' HO_13.out).2.1)); (case side3 => exact (qR9_22)); (case side4 => exact (by exact (Kd.R_reads' HO320.out).2.1)); rintro e w' ⟨rfl, ⟨nd, rfl⟩⟩; refine ⟨_, rfl, ?_⟩) | ((with_reducible refine gate_callee (f := 24) rfl ?_); refine goesL_ (some 79) rfl rfl Try.func24 (by kernel_rfl) rfl #[.slice A3 l3.length c3] rfl (qR9_1) ?_; (with_reducible refine (laws_toIntS.calls kj16 _ _ l3 t322 _ ?side1 ?side2 A45.out).mono ?_); (case side1 => exact (qR9_33)); (case side2 => exact HC3.out); rintro e w57 ⟨v323, rfl, ho0, hb⟩; refine ⟨_, rfl, ?_⟩; have n0_ := Aside0.mk (Kd.R_elder' (qR9_2) (Kd.R_base ho0) hb); have n1_ := Aside0.mk (Kd.R_below (qR9_6) hb); have n2_ := Aside0.mk (Kd.R_elder' (qR9_4) (Kd.R_base ho0) hb); have n3_ := Aside0.mk (Kd.R_elder' (qR9_5) (Kd.R_base ho0) hb); have n4_ := Aside0.mk (Kd.R_elder' (qR9_3) (Kd.R_base ho0) hb); have n5_ := Aside0.mk (Kd.R_below (qR9_12) hb); have n6_ := Aside0.mk (Kd.R_elder' (qR9_24) (Kd.R_base ho0) hb); have n7_ := Aside0.mk (Kd.R_lower (Kd.R_new' (Kd.R_new' (Kd.R_new' (Kd.R_new' (Kd.R_new' ho0 (Kd.R_lt (qR9_2))) (Kd.R_lt (qR9_4))) (Kd.R_lt (qR9_5))) (Kd.R_lt (qR9_3))) (Kd.R_lt (qR9_24))) (below_size (qR9_0))); have n8_ := Aside0.mk (below_step (qR9_0) hb); clear HO_10 HO_12 HO_13 HO_14 HO_15 HO316 HO320 HB; have HO_10 := n0_; have HO_12 := n1_; have HO_13 := n2_; have HO_14 := n3_; have HO_15 := n4_; have HO316 := n5_; have HO320 := n6_; have HO324 := n7_; have HB := n8_; clear n0_ n1_ n2_ n3_ n4_ n5_ n6_ n7_ n8_; (try clear hb); (try clear hb2); (try clear hk); (try clear hi); (try clear ho0); obtain ⟨Ao58, co58, eo58⟩ := Kd.R_slice HO324.out; subst eo58) | ((with_reducible refine gate_callee (f := 26) rfl ?_); refine goesL_ (some 80) rfl rfl Try.func26 (by kernel_rfl) rfl #[.slice Ao30 t306.length co30, .slice Ao58 t322.length co58] rfl (qR9_1) ?_; (with_reducible refine (laws_eqIntS.calls kj16 _ _ t306 _ _ t322 true _ ?side1 ?side2 ?side3 ?side4 A46.out).mono ?_); (case side1 => exact (qR9_36)); (case side2 => exact (by exact (Kd.R_reads' HO_14.out).2.1)); (case side3 => exact (qR9_37)); (case side4 => exact (by exact (Kd.R_reads' HO324.out).2.1)); rintro e w' ⟨rfl, ⟨nd, rfl⟩⟩; refine ⟨_, rfl, ?_⟩) | ((with_reducible refine gate_callee (f := 28) rfl ?_); refine goesL_ (some 84) rfl rfl Try.func28 (by kernel_rfl) rfl #[.slice Ao28 t300.length co28, .int .i64 1] rfl (qR9_1) ?_; (with_reducible refine (laws_markLegS.calls kj16 (fun k_ => some k_ = (.slice Ao28 t300.length co28 : Value).ownBlock) (.slice Ao28 t300.length co28) t300 1 t326 t327 w _ ?side1 ?side2 A48.out).mono ?_); (case side1 => exact (qR9_0)); (case side2 => exact (by exact Kd.R_tight rfl HO_12.out)); rintro e w59 ⟨rfl, hy0, hb, hkp⟩; refine ⟨_, rfl, ?_⟩; have n0_ := Aside0.mk (Kd.R_mono (ok' := fun k_ => some k_ ≠ (.slice Ao29 t303.length co29 : Value).ownBlock ∧ some k_ ≠ (.slice Ao30 t306.length co30 : Value).ownBlock ∧ some k_ ≠ (v311 : Value).ownBlock ∧ some k_ ≠ (.slice Ao56 t318.length co56 : Value).ownBlock ∧ some k_ ≠ (.slice Ao58 t322.length co58 : Value).ownBlock) (Kd.R_keptB ((Kd.R_apart' HO_10.out (Kd.R_typed HO_12.out) (by decide))) hkp (fun k_ hk_ hs_ => (hk_.2) hs_)) (fun k_ hk_ => ⟨hk_.1.1.1.1.1, hk_.1.1.1.1.2.1, hk_.1.1.1.1.2.2, hk_.1.1.1.2, hk_.1.1.2⟩)); have n1_ := Aside0.mk (Kd.R_reok rfl hy0 (fun k_ e_ => HO_12.out.1 k_ e_)); have n2_ := Aside0.mk (Kd.R_mono (ok' := fun k_ => some k_ ≠ (v298 : Value).ownBlock ∧ some k_ ≠ (.slice Ao30 t306.length co30 : Value).ownBlock ∧ some k_ ≠ (v311 : Value).ownBlock ∧ some k_ ≠ (.slice Ao56 t318.length co56 : Value).ownBlock ∧ some k_ ≠ (.slice Ao58 t322.length co58 : Value).ownBlock) (Kd.R_keptB ((Kd.R_apart' HO_13.out (Kd.R_typed HO_12.out) (by decide))) hkp (fun k_ hk_ hs_ => (hk_.2) hs_)) (fun k_ hk_ => ⟨hk_.1.1.1.1.1, hk_.1.1.1.1.2.1, hk_.1.1.1.1.2.2, hk_.1.1.1.2, hk_.1.1.2⟩)); have n3_ := Aside0.mk (Kd.R_mono (ok' := fun k_ => some k_ ≠ (v298 : Value).ownBlock ∧ some k_ ≠ (.slice Ao29 t303.length co29 : Value).ownBlock ∧ some k_ ≠ (v311 : Value).ownBlock ∧ some k_ ≠ (.slice Ao56 t318.length co56 : Value).ownBlock ∧ some k_ ≠ (.slice Ao58 t322.length co58 : Value).ownBlock) (Kd.R_keptB ((Kd.R_apart' HO_14.out (Kd.R_typed HO_12.out) (by decide))) hkp (fun k_ hk_ hs_ => (hk_.2) hs_)) (fun k_ hk_ => ⟨hk_.1.1.1.1.1, hk_.1.1.1.1.2.1, hk_.1.1.1.1.2.2, hk_.1.1.1.2, hk_.1.1.2⟩)); have n4_ := Aside0.mk (Kd.R_mono (ok' := fun k_ => some k_ ≠ (v298 : Value).ownBlock ∧ some k_ ≠ (.slice Ao29 t303.length co29 : Value).ownBlock ∧ some k_ ≠ (.slice Ao30 t306.length co30 : Value).ownBlock ∧ some k_ ≠ (.slice Ao56 t318.length co56 : Value).ownBlock ∧ some k_ ≠ (.slice Ao58 t322.length co58 : Value).ownBlock) (Kd.R_keptB ((Kd.R_apart' HO_15.out (Kd.R_typed HO_12.out) (by decide))) hkp (fun k_ hk_ hs_ => (hk_.2) hs_)) (fun k_ hk_ => ⟨hk_.1.1.1.1.1, hk_.1.1.1.1.2.1, hk_.1.1.1.1.2.2, hk_.1.1.1.2, hk_.1.1.2⟩)); have n5_ := Aside0.mk (Kd.R_mono (ok' := fun k_ => some k_ ≠ (.slice Ao28 t300.length co28 : Value).ownBlock) (Kd.R_keptB (HO316.out) hkp (fun k_ hk_ hs_ => (hk_.2) hs_)) (fun k_ hk_ => hk_.1.2)); have n6_ := Aside0.mk (Kd.R_mono (ok' := fun k_ => some k_ ≠ (v298 : Value).ownBlock ∧ some k_ ≠ (.slice Ao29 t303.length co29 : Value).ownBlock ∧ some k_ ≠ (.slice Ao30 t306.length co30 : Value).ownBlock ∧ some k_ ≠ (v311 : Value).ownBlock ∧ some k_ ≠ (.slice Ao58 t322.length co58 : Value).ownBlock) (Kd.R_keptB ((Kd.R_apart' HO320.out (Kd.R_typed HO_12.out) (by decide))) hkp (fun k_ hk_ hs_ => (hk_.2) hs_)) (fun k_ hk_ => ⟨hk_.1.1.1.1.1.1.2, hk_.1.1.1.1.1.2, hk_.1.1.1.1.2, hk_.1.1.1.2, hk_.1.1.2⟩)); have n7_ := Aside0.mk (Kd.R_mono (ok' := fun k_ => some k_ ≠ (v298 : Value).ownBlock ∧ some k_ ≠ (.slice Ao29 t303.length co29 : Value).ownBlock ∧ some k_ ≠ (.slice Ao30 t306.length co30 : Value).ownBlock ∧ some k_ ≠ (v311 : Value).ownBlock ∧ some k_ ≠ (.slice Ao56 t318.length co56 : Value).ownBlock) (Kd.R_keptB ((Kd.R_apart' HO324.out (Kd.R_typed HO_12.out) (by decide))) hkp (fun k_ hk_ hs_ => (hk_.2) hs_)) (fun k_ hk_ => ⟨hk_.1.1.1.1.1.1.2, hk_.1.1.1.1.1.2, hk_.1.1.1.1.2, hk_.1.1.1.2, hk_.1.1.2⟩)); have n8_ := Aside0.mk (hb); clear HO_10 HO_12 HO_13 HO_14 HO_15 HO316 HO320 HO324 HB; have HO_10 := n0_; have HO_12 := n1_; have HO_13 := n2_; have HO_14 := n3_; have HO_15 := n4_; have HO316 := n5_; have HO320 := n6_; have HO324 := n7_; have HB := n8_; clear n0_ n1_ n2_ n3_ n4_ n5_ n6_ n7_ n8_; (try clear hb); (try clear hkp); (try clear hy0)) | ((with_reducible refine gate_callee (f := 29) rfl ?_); refine goesL_ (some 87) rfl rfl Try.func29 (by kernel_rfl) rfl #[.slice Ao29 t303.length co29, .int .i64 t326] rfl (qR9_1) ?_; (with_reducible refine (laws_markIntS.calls kj16 (fun k_ => some k_ = (.slice Ao29 t303.length co29 : Value).ownBlock) (.slice Ao29 t303.length co29) t303 t326 t328 t329 w _ ?side1 ?side2 A49.out).mono ?_); (case side1 => exact (qR9_0)); (case side2 => exact (by exact Kd.R_tight rfl HO_13.out)); rintro e w60 ⟨rfl, hy0, hb, hkp⟩; refine ⟨_, rfl, ?_⟩; have n0_ := Aside0.mk (Kd.R_mono (ok' := fun k_ => some k_ ≠ (.slice Ao29 t303.length co29 : Value).ownBlock ∧ some k_ ≠ (.slice Ao30 t306.length co30 : Value).ownBlock ∧ some k_ ≠ (v311 : Value).ownBlock ∧ some k_ ≠ (.slice Ao56 t318.length co56 : Value).ownBlock ∧ some k_ ≠ (.slice Ao58 t322.length co58 : Value).ownBlock) (Kd.R_keptB (HO_10.out) hkp (fun k_ hk_ hs_ => (hk_.1) hs_)) (fun k_ hk_ => ⟨hk_.1.1, hk_.1.2.1, hk_.1.2.2.1, hk_.1.2.2.2.1, hk_.1.2.2.2.2⟩)); have n1_ := Aside0.mk (Kd.R_mono (ok' := fun k_ => some k_ ≠ (.slice Ao53 t314.length co53 : Value).ownBlock) (Kd.R_keptB ((Kd.R_apart' HO_12.out (Kd.R_typed HO_13.out) (by decide))) hkp (fun k_ hk_ hs_ => (hk_.2) hs_)) (fun k_ hk_ => hk_.1.1.2)); have n2_ := Aside0.mk (Kd.R_reok rfl hy0 (fun k_ e_ => HO_13.out.1 k_ e_)); have n3_ := Aside0.mk (Kd.R_mono (ok' := fun k_ => some k_ ≠ (v298 : Value).ownBlock ∧ some k_ ≠ (.slice Ao29 t303.length co29 : Value).ownBlock ∧ some k_ ≠ (v311 : Value).ownBlock ∧ some k_ ≠ (.slice Ao56 t318.length co56 : Value).ownBlock ∧ some k_ ≠ (.slice Ao58 t322.length co58 : Value).ownBlock) (Kd.R_keptB (HO_14.out) hkp (fun k_ hk_ hs_ => (hk_.2.1) hs_)) (fun k_ hk_ => ⟨hk_.1.1, hk_.1.2.1, hk_.1.2.2.1, hk_.1.2.2.2.1, hk_.1.2.2.2.2⟩)); have n4_ := Aside0.mk (Kd.R_mono (ok' := fun k_ => some k_ ≠ (v298 : Value).ownBlock ∧ some k_ ≠ (.slice Ao29 t303.length co29 : Value).ownBlock ∧ some k_ ≠ (.slice Ao30 t306.length co30 : Value).ownBlock ∧ some k_ ≠ (.slice Ao56 t318.length co56 : Value).ownBlock ∧ some k_ ≠ (.slice Ao58 t322.length co58 : Value).ownBlock) (Kd.R_keptB (HO_15.out) hkp (fun k_ hk_ hs_ => (hk_.2.1) hs_)) (fun k_ hk_ => ⟨hk_.1.1, hk_.1.2.1, hk_.1.2.2.1, hk_.1.2.2.2.1, hk_.1.2.2.2.2⟩)); have n5_ := Aside0.mk (Kd.R_mono (ok' := fun k_ => some k_ ≠ (.slice Ao28 t300.length co28 : Value).ownBlock) (Kd.R_keptB ((Kd.R_apart' HO316.out (Kd.R_typed HO_13.out) (by decide))) hkp (fun k_ hk_ hs_ => (hk_.2) hs_)) (fun k_ hk_ => hk_.1.1)); have n6_ := Aside0.mk (Kd.R_mono (ok' := fun k_ => some k_ ≠ (v298 : Value).ownBlock ∧ some k_ ≠ (.slice Ao29 t303.length co29 : Value).ownBlock ∧ some k_ ≠ (.slice Ao30 t306.length co30 : Value).ownBlock ∧ some k_ ≠ (v311 : Value).ownBlock ∧ some k_ ≠ (.slice Ao58 t322.length co58 : Value).ownBlock) (Kd.R_keptB (HO320.out) hkp (fun k_ hk_ hs_ => (hk_.2.1) hs_)) (fun k_ hk_ => ⟨hk_.1.1, hk_.1.2.1, hk_.1.2.2.1, hk_.1.2.2.2.1, hk_.1.2.2.2.2⟩)); have n7_ := Aside0.mk (Kd.R_mono (ok' := fun k_ => some k_ ≠ (v298 : Value).ownBlock ∧ some k_ ≠ (.slice Ao29 t303.length co29 : Value).ownBlock ∧ some k_ ≠ (.slice Ao30 t306.length co30 : Value).ownBlock ∧ some k_ ≠ (v311 : Value).ownBlock ∧ some k_ ≠ (.slice Ao56 t318.length co56 : Value).ownBlock) (Kd.R_keptB (HO324.out) hkp (fun k_ hk_ hs_ => (hk_.2.1) hs_)) (fun k_ hk_ => ⟨hk_.1.1, hk_.1.2.1, hk_.1.2.2.1, hk_.1.2.2.2.1, hk_.1.2.2.2.2⟩)); have n8_ := Aside0.mk (hb); clear HO_10 HO_12 HO_13 HO_14 HO_15 HO316 HO320 HO324 HB; have HO_10 := n0_; have HO_12 := n1_; have HO_13 := n2_; have HO_14 := n3_; have HO_15 := n4_; have HO316 := n5_; have HO320 := n6_; have HO324 := n7_; have HB := n8_; clear n0_ n1_ n2_ n3_ n4_ n5_ n6_ n7_ n8_; (try clear hb); (try clear hkp); (try clear hy0)) | ((with_reducible refine gate_callee (f := 29) rfl ?_); refine goesL_ (some 90) rfl rfl Try.func29 (by kernel_rfl) rfl #[.slice Ao30 t306.length co30, .int .i64 t328] rfl (qR9_1) ?_; (with_reducible refine (laws_markIntS.calls kj16 (fun k_ => some k_ = (.slice Ao30 t306.length co30 : Value).ownBlock) (.slice Ao30 t306.length co30) t306 t328 t330 t331 w _ ?side1 ?side2 A50.out).mono ?_); (case side1 => exact (qR9_0)); (case side2 => exact (by exact Kd.R_tight rfl HO_14.out)); rintro e w61 ⟨rfl, hy0, hb, hkp⟩; refine ⟨_, rfl, ?_⟩; have n0_ := Aside0.mk (Kd.R_mono (ok' := fun k_ => some k_ ≠ (.slice Ao29 t303.length co29 : Value).ownBlock ∧ some k_ ≠ (.slice Ao30 t306.length co30 : Value).ownBlock ∧ some k_ ≠ (v311 : Value).ownBlock ∧ some k_ ≠ (.slice Ao56 t318.length co56 : Value).ownBlock ∧ some k_ ≠ (.slice Ao58 t322.length co58 : Value).ownBlock) (Kd.R_keptB (HO_10.out) hkp (fun k_ hk_ hs_ => (hk_.2.1) hs_)) (fun k_ hk_ => ⟨hk_.1.1, hk_.1.2.1, hk_.1.2.2.1, hk_.1.2.2.2.1, hk_.1.2.2.2.2⟩)); have n1_ := Aside0.mk (Kd.R_mono (ok' := fun k_ => some k_ ≠ (.slice Ao53 t314.length co53 : Value).ownBlock) (Kd.R_keptB ((Kd.R_apart' HO_12.out (Kd.R_typed HO_14.out) (by decide))) hkp (fun k_ hk_ hs_ => (hk_.2) hs_)) (fun k_ hk_ => hk_.1.1)); have n2_ := Aside0.mk (Kd.R_mono (ok' := fun k_ => some k_ ≠ (v298 : Value).ownBlock ∧ some k_ ≠ (.slice Ao30 t306.length co30 : Value).ownBlock ∧ some k_ ≠ (v311 : Value).ownBlock ∧ some k_ ≠ (.slice Ao56 t318.length co56 : Value).ownBlock ∧ some k_ ≠ (.slice Ao58 t322.length co58 : Value).ownBlock) (Kd.R_keptB (HO_13.out) hkp (fun k_ hk_ hs_ => (hk_.2.1) hs_)) (fun k_ hk_ => ⟨hk_.1.1, hk_.1.2.1, hk_.1.2.2.1, hk_.1.2.2.2.1, hk_.1.2.2.2.2⟩)); have n3_ := Aside0.mk (Kd.R_reok rfl hy0 (fun k_ e_ => HO_14.out.1 k_ e_)); have n4_ := Aside0.mk (Kd.R_mono (ok' := fun k_ => some k_ ≠ (v298 : Value).ownBlock ∧ some k_ ≠ (.slice Ao29 t303.length co29 : Value).ownBlock ∧ some k_ ≠ (.slice Ao30 t306.length co30 : Value).ownBlock ∧ some k_ ≠ (.slice Ao56 t318.length co56 : Value).ownBlock ∧ some k_ ≠ (.slice Ao58 t322.length co58 : Value).ownBlock) (Kd.R_keptB (HO_15.out) hkp (fun k_ hk_ hs_ => (hk_.2.2.1) hs_)) (fun k_ hk_ => ⟨hk_.1.1, hk_.1.2.1, hk_.1.2.2.1, hk_.1.2.2.2.1, hk_.1.2.2.2.2⟩)); have n5_ := Aside0.mk (Kd.R_mono (ok' := fun k_ => some k_ ≠ (.slice Ao28 t300.length co28 : Value).ownBlock) (Kd.R_keptB ((Kd.R_apart' HO316.out (Kd.R_typed HO_14.out) (by decide))) hkp (fun k_ hk_ hs_ => (hk_.2) hs_)) (fun k_ hk_ => hk_.1.1)); have n6_ := Aside0.mk (Kd.R_mono (ok' := fun k_ => some k_ ≠ (v298 : Value).ownBlock ∧ some k_ ≠ (.slice Ao29 t303.length co29 : Value).ownBlock ∧ some k_ ≠ (.slice Ao30 t306.length co30 : Value).ownBlock ∧ some k_ ≠ (v311 : Value).ownBlock ∧ some k_ ≠ (.slice Ao58 t322.length co58 : Value).ownBlock) (Kd.R_keptB (HO320.out) hkp (fun k_ hk_ hs_ => (hk_.2.2.1) hs_)) (fun k_ hk_ => ⟨hk_.1.1, hk_.1.2.1, hk_.1.2.2.1, hk_.1.2.2.2.1, hk_.1.2.2.2.2⟩)); have n7_ := Aside0.mk (Kd.R_mono (ok' := fun k_ => some k_ ≠ (v298 : Value).ownBlock ∧ some k_ ≠ (.slice Ao29 t303.length co29 : Value).ownBlock ∧ some k_ ≠ (.slice Ao30 t306.length co30 : Value).ownBlock ∧ some k_ ≠ (v311 : Value).ownBlock ∧ some k_ ≠ (.slice Ao56 t318.length co56 : Value).ownBlock) (Kd.R_keptB (HO324.out) hkp (fun k_ hk_ hs_ => (hk_.2.2.1) hs_)) (fun k_ hk_ => ⟨hk_.1.1, hk_.1.2.1, hk_.1.2.2.1, hk_.1.2.2.2.1, hk_.1.2.2.2.2⟩)); have n8_ := Aside0.mk (hb); clear HO_10 HO_12 HO_13 HO_14 HO_15 HO316 HO320 HO324 HB; have HO_10 := n0_; have HO_12 := n1_; have HO_13 := n2_; have HO_14 := n3_; have HO_15 := n4_; have HO316 := n5_; have HO320 := n6_; have HO324 := n7_; have HB := n8_; clear n0_ n1_ n2_ n3_ n4_ n5_ n6_ n7_ n8_; (try clear hb); (try clear hkp); (try clear hy0)))
          (try simp only [Act.put, List.setIfInBounds_toArray, List.set_cons_zero, List.set_cons_succ])
          go_cut [103] (fun v103 wc => ∃ (kq : Nat) (x103_50 : Bool), v103 = .bool x103_50 ∧ Aside0 (laws_FnExactRescueOrder.j1 kq l0 l1 a2 l3 t296 t297 t309 x103_50 = some r) ∧ Aside0 (kq ≤ kj16) ∧ Aside0 (Kd.R (Kd.int .i64) 3 wc w.heap.size (fun k_ => some k_ ≠ (v311 : Value).ownBlock) v298 t296) ∧ Aside0 (Kd.R (Kd.int .i64) 3 wc w.heap.size (fun k_ => some k_ ≠ (v298 : Value).ownBlock) v311 t309) ∧ Aside0 (Below w.heap.size w wc))
          case first =>
           have H := HC51.out
           clear HC51
           by_cases c62 : t330 < 0
           ·rw [if_pos c62] at H
            have c62b0 : decide (t330 < 0) = true := decide_eq_true c62
            clear c62
            (first | rw [c62b0] | (simp only [i64_w, i32_w]; rw [c62b0]) | skip)
            have H' := Aside0.mk H
            clear H
            go_wp2
            go_meet
            case rel => exact ⟨_, (true), (qR9_29), H', ⟨by have := HJ16.out; first | omega | exact Nat.le_refl _⟩, ⟨(qR9_27)⟩, ⟨(qR9_28)⟩, ⟨(qR9_0)⟩⟩
           ·rw [if_neg c62] at H
            have c62b0 : decide (t330 < 0) = false := decide_eq_false c62
            clear c62
            (first | rw [c62b0] | (simp only [i64_w, i32_w]; rw [c62b0]) | skip)
            replace H := Option.bind_eq_some_iff.mp H; obtain ⟨t332, A630, H⟩ := H
            try dsimp only at H
            have A63 := Aside0.mk A630; clear A630
            by_cases c64 : t332 = true
            ·subst c64
             have H1 : (laws_FnExactRescueOrder.j1 kj16 l0 l1 a2 l3 t296 t297 t309 (t310 != t297)) = some r := by rw [if_pos rfl] at H; exact H
             clear H; have H := H1; clear H1
             have H' := Aside0.mk H
             clear H
             obtain ⟨Ao65, co65, eo65⟩ := Kd.R_slice HO_15.out
             subst eo65
             obtain ⟨Ao66, co66, eo66⟩ := Kd.R_slice HO_10.out
             subst eo66
             go_wp2_with (first | (go_at_call 26; (with_reducible refine (laws_eqIntS.calls kj16 _ _ t309 _ _ t296 true _ ?side1 ?side2 ?side3 ?side4 A63.out).mono ?_); (case side1 => exact (qR9_7)); (case side2 => exact (qR9_45)); (case side3 => exact (qR9_18)); (case side4 => exact (qR9_50)); rintro e w' ⟨rfl, ⟨nd, rfl⟩⟩))
             go_meet
             case rel => exact ⟨_, ((t310 != t297)), (qR9_29), H', ⟨by have := HJ16.out; first | omega | exact Nat.le_refl _⟩, ⟨(qR9_27)⟩, ⟨(qR9_28)⟩, ⟨(qR9_0)⟩⟩
            ·replace c64 := Bool.eq_false_iff.mpr c64
             subst c64
             have H1 : (laws_FnExactRescueOrder.j1 kj16 l0 l1 a2 l3 t296 t297 t309 true) = some r := by rw [if_neg (show ¬ (false = true) by decide)] at H; exact H
             clear H; have H := H1; clear H1
             have H' := Aside0.mk H
             clear H
             obtain ⟨Ao67, co67, eo67⟩ := Kd.R_slice HO_15.out
             subst eo67
             obtain ⟨Ao68, co68, eo68⟩ := Kd.R_slice HO_10.out
             subst eo68
             go_wp2_with (first | (go_at_call 26; (with_reducible refine (laws_eqIntS.calls kj16 _ _ t309 _ _ t296 false _ ?side1 ?side2 ?side3 ?side4 A63.out).mono ?_); (case side1 => exact (qR9_7)); (case side2 => exact (qR9_45)); (case side3 => exact (qR9_18)); (case side4 => exact (qR9_50)); rintro e w' ⟨rfl, ⟨nd, rfl⟩⟩))
             go_meet
             case rel => exact ⟨_, (true), (qR9_29), H', ⟨by have := HJ16.out; first | omega | exact Nat.le_refl _⟩, ⟨(qR9_27)⟩, ⟨(qR9_28)⟩, ⟨(qR9_0)⟩⟩
          case rest =>
           clear HC51
           try clear c1
           try clear c2
           try clear p2
           try clear c3
           try clear c4
           try clear c5
           try clear c5b0
           try clear c5b1
           try clear c6
           try clear c6b0
           try clear c6b1
           try clear c8
           try clear c8b0
           try clear c21
           try clear c23
           try clear c24
           try clear c26
           try clear c27
           try clear c28
           try clear c29
           try clear c31
           try clear c32
           try clear c33
           try clear c38
           try clear c41
           try clear c44
           try clear c47
           try clear c62
           try clear c62b0
           try clear c64
           try clear p2
           obtain ⟨kq, x103_50, rfl, HA, HJ50, HO_10, HO_15, HB⟩ := hcut
           cases kq with
           | zero => exact absurd HA.out (by simp [laws_FnExactRescueOrder.j1])
           | succ kj50 =>
            have H := HA.out
            clear HA
            simp only [laws_FnExactRescueOrder.j1] at H
            by_cases c69 : x103_50 = true
            ·subst c69
             have H1 : (some false) = some r := by rw [if_pos rfl] at H; exact H
             clear H; have H := H1; clear H1; obtain rfl := Option.some.inj H
             go_wp2
             go_ret
             exact ⟨(qR9_8), (qR9_0)⟩
            ·replace c69 := Bool.eq_false_iff.mpr c69
             subst c69
             have H1 : ((laws_markIntS.f kj50 t309 1).bind fun bt333 => ((laws_heldIntS.f kj50 bt333.2 1).bind fun t335 => (if t335 < 0 then (some false) else (if t335 = bt333.1 then ((laws_toLegS.f kj50 l0).bind fun t336 => ((laws_toIntS.f kj50 l1).bind fun t339 => ((laws_toIntS.f kj50 l3).bind fun t342 => ((impl_RescueOrder.f kj50 t336 t339 a2 t342).bind fun bt345 => ((laws_eqIntS.f kj50 bt345.1 t296).bind fun t349 => (if t349 = true then (laws_FnExactRescueOrder.j2 kj50 bt333.2 bt333.1 (bt345.2 != t297)) else (laws_FnExactRescueOrder.j2 kj50 bt333.2 bt333.1 true))))))) else (some false))))) = some r := by rw [if_neg (show ¬ (false = true) by decide)] at H; exact H
             clear H; have H := H1; clear H1; replace H := Option.bind_eq_some_iff.mp H; obtain ⟨⟨t333, t334⟩, A700, H⟩ := H
             try dsimp only at H
             have A70 := Aside0.mk A700; clear A700; replace H := Option.bind_eq_some_iff.mp H; obtain ⟨t335, A710, H⟩ := H
             try dsimp only at H
             have A71 := Aside0.mk A710; clear A710
             by_cases c72 : t335 < 0
             ·rw [if_pos c72] at H
              have c72b0 : decide (t335 < 0) = true := decide_eq_true c72
              clear c72; obtain rfl := Option.some.inj H
              obtain ⟨Ao73, co73, eo73⟩ := Kd.R_slice HO_15.out
              subst eo73
              go_wp2_with (first | ((with_reducible refine gate_callee (f := 29) rfl ?_); refine goesL_ (some 106) rfl rfl Try.func29 (by kernel_rfl) rfl #[.slice Ao73 t309.length co73, .int .i64 1] rfl (qR9_1) ?_; (with_reducible refine (laws_markIntS.calls kj50 (fun k_ => some k_ = (.slice Ao73 t309.length co73 : Value).ownBlock) (.slice Ao73 t309.length co73) t309 1 t333 t334 w _ ?side1 ?side2 A70.out).mono ?_); (case side1 => exact (qR9_0)); (case side2 => exact (by exact Kd.R_tight rfl HO_15.out)); rintro e w74 ⟨rfl, hy0, hb, hkp⟩; refine ⟨_, rfl, ?_⟩; have n0_ := Aside0.mk (Kd.R_mono (ok' := fun k_ => some k_ ≠ (.slice Ao73 t309.length co73 : Value).ownBlock) (Kd.R_keptB (HO_10.out) hkp (fun k_ hk_ hs_ => (hk_) hs_)) (fun k_ hk_ => hk_.1)); have n1_ := Aside0.mk (Kd.R_reok rfl hy0 (fun k_ e_ => HO_15.out.1 k_ e_)); have n2_ := Aside0.mk (hb); clear HO_10 HO_15 HB; have HO_10 := n0_; have HO_15 := n1_; have HB := n2_; clear n0_ n1_ n2_; (try clear hb); (try clear hkp); (try clear hy0)) | ((with_reducible refine gate_callee (f := 30) rfl ?_); refine goesL_ (some 109) rfl rfl Try.func30 (by kernel_rfl) rfl #[.slice Ao73 t334.length co73, .int .i64 1] rfl (qR9_19) ?_; (with_reducible refine (laws_heldIntS.calls kj50 _ _ t334 1 t335 _ ?side1 ?side2 A71.out).mono ?_); (case side1 => exact (qR9_7)); (case side2 => exact (qR9_30)); rintro e w' ⟨rfl, ⟨nd, rfl⟩⟩; refine ⟨_, rfl, ?_⟩))
              go_ret
              exact ⟨(qR9_8), (qR9_0)⟩
             ·rw [if_neg c72] at H
              have c72b0 : decide (t335 < 0) = false := decide_eq_false c72
              clear c72
              by_cases c75 : t335 = t333
              ·rw [if_pos c75] at H
               have c75b0 : (t335 == t333) = true := beq_iff_eq.mpr c75
               have c75b1 : (t335 != t333) = false := bne_eq_false_iff_eq.mpr c75
               clear c75; replace H := Option.bind_eq_some_iff.mp H; obtain ⟨t336, A760, H⟩ := H
               try dsimp only at H
               have A76 := Aside0.mk A760; clear A760; replace H := Option.bind_eq_some_iff.mp H; obtain ⟨t339, A770, H⟩ := H
               try dsimp only at H
               have A77 := Aside0.mk A770; clear A770; replace H := Option.bind_eq_some_iff.mp H; obtain ⟨t342, A780, H⟩ := H
               try dsimp only at H
               have A78 := Aside0.mk A780; clear A780; replace H := Option.bind_eq_some_iff.mp H; obtain ⟨⟨t345, t346⟩, A790, H⟩ := H
               try dsimp only at H
               have A79 := Aside0.mk A790; clear A790; have HC80 := Aside0.mk H; clear H
               obtain ⟨Ao81, co81, eo81⟩ := Kd.R_slice HO_15.out
               subst eo81
               go_upto_region 37 with (first | ((with_reducible refine gate_callee (f := 29) rfl ?_); refine goesL_ (some 106) rfl rfl Try.func29 (by kernel_rfl) rfl #[.slice Ao81 t309.length co81, .int .i64 1] rfl (qR9_1) ?_; (with_reducible refine (laws_markIntS.calls kj50 (fun k_ => some k_ = (.slice Ao81 t309.length co81 : Value).ownBlock) (.slice Ao81 t309.length co81) t309 1 t333 t334 w _ ?side1 ?side2 A70.out).mono ?_); (case side1 => exact (qR9_0)); (case side2 => exact (by exact Kd.R_tight rfl HO_15.out)); rintro e w82 ⟨rfl, hy0, hb, hkp⟩; refine ⟨_, rfl, ?_⟩; have n0_ := Aside0.mk (Kd.R_mono (ok' := fun k_ => some k_ ≠ (.slice Ao81 t309.length co81 : Value).ownBlock) (Kd.R_keptB (HO_10.out) hkp (fun k_ hk_ hs_ => (hk_) hs_)) (fun k_ hk_ => hk_.1)); have n1_ := Aside0.mk (Kd.R_reok rfl hy0 (fun k_ e_ => HO_15.out.1 k_ e_)); have n2_ := Aside0.mk (hb); clear HO_10 HO_15 HB; have HO_10 := n0_; have HO_15 := n1_; have HB := n2_; clear n0_ n1_ n2_; (try clear hb); (try clear hkp); (try clear hy0)) | ((with_reducible refine gate_callee (f := 30) rfl ?_); refine goesL_ (some 109) rfl rfl Try.func30 (by kernel_rfl) rfl #[.slice Ao81 t334.length co81, .int .i64 1] rfl (qR9_19) ?_; (with_reducible refine (laws_heldIntS.calls kj50 _ _ t334 1 t335 _ ?side1 ?side2 A71.out).mono ?_); (case side1 => exact (qR9_7)); (case side2 => exact (qR9_30)); rintro e w' ⟨rfl, ⟨nd, rfl⟩⟩; refine ⟨_, rfl, ?_⟩) | ((with_reducible refine gate_callee (f := 23) rfl ?_); refine goesL_ (some 117) rfl rfl Try.func23 (by kernel_rfl) rfl #[.slice A0 l0.length c0] rfl (qR9_1) ?_; (with_reducible refine (laws_toLegS.calls kj50 _ _ l0 t336 _ ?side1 ?side2 A76.out).mono ?_); (case side1 => exact (by repeat (first | exact (Kd.C_below HR0.out (qR9_0)) | (with_reducible refine Kd.C_alloc ?_ _) | (with_reducible refine Kd.C_drewN ?_ _) | (with_reducible refine Kd.C_drew ?_)))); (case side2 => exact HC0.out); rintro e w83 ⟨v337, rfl, ho0, hb⟩; refine ⟨_, rfl, ?_⟩; have n0_ := Aside0.mk (Kd.R_below (qR9_2) hb); have n1_ := Aside0.mk (Kd.R_below (qR9_3) hb); have n2_ := Aside0.mk (Kd.R_lower ho0 (below_size (qR9_0))); have n3_ := Aside0.mk (below_step (qR9_0) hb); clear HO_10 HO_15 HB; have HO_10 := n0_; have HO_15 := n1_; have HO338 := n2_; have HB := n3_; clear n0_ n1_ n2_ n3_; (try clear hb); (try clear hb2); (try clear hk); (try clear hi); (try clear ho0)) | ((with_reducible refine gate_callee (f := 24) rfl ?_); refine goesL_ (some 119) rfl rfl Try.func24 (by kernel_rfl) rfl #[.slice A1 l1.length c1] rfl (qR9_1) ?_; (with_reducible refine (laws_toIntS.calls kj50 _ _ l1 t339 _ ?side1 ?side2 A77.out).mono ?_); (case side1 => exact (qR9_10)); (case side2 => exact HC1.out); rintro e w84 ⟨v340, rfl, ho0, hb⟩; refine ⟨_, rfl, ?_⟩; have n0_ := Aside0.mk (Kd.R_elder' (qR9_2) (Kd.R_base ho0) hb); have n1_ := Aside0.mk (Kd.R_elder' (qR9_3) (Kd.R_base ho0) hb); have n2_ := Aside0.mk (Kd.R_below (qR9_32) hb); have n3_ := Aside0.mk (Kd.R_lower (Kd.R_new' (Kd.R_new' ho0 (Kd.R_lt (qR9_2))) (Kd.R_lt (qR9_3))) (below_size (qR9_0))); have n4_ := Aside0.mk (below_step (qR9_0) hb); clear HO_10 HO_15 HO338 HB; have HO_10 := n0_; have HO_15 := n1_; have HO338 := n2_; have HO341 := n3_; have HB := n4_; clear n0_ n1_ n2_ n3_ n4_; (try clear hb); (try clear hb2); (try clear hk); (try clear hi); (try clear ho0)) | ((with_reducible refine gate_callee (f := 24) rfl ?_); refine goesL_ (some 122) rfl rfl Try.func24 (by kernel_rfl) rfl #[.slice A3 l3.length c3] rfl (qR9_1) ?_; (with_reducible refine (laws_toIntS.calls kj50 _ _ l3 t342 _ ?side1 ?side2 A78.out).mono ?_); (case side1 => exact (qR9_20)); (case side2 => exact HC3.out); rintro e w85 ⟨v343, rfl, ho0, hb⟩; refine ⟨_, rfl, ?_⟩; have n0_ := Aside0.mk (Kd.R_elder' (qR9_2) (Kd.R_base ho0) hb); have n1_ := Aside0.mk (Kd.R_elder' (qR9_3) (Kd.R_base ho0) hb); have n2_ := Aside0.mk (Kd.R_below (qR9_32) hb); have n3_ := Aside0.mk (Kd.R_elder' (qR9_25) (Kd.R_base ho0) hb); have n4_ := Aside0.mk (Kd.R_lower (Kd.R_new' (Kd.R_new' (Kd.R_new' ho0 (Kd.R_lt (qR9_2))) (Kd.R_lt (qR9_3))) (Kd.R_lt (qR9_25))) (below_size (qR9_0))); have n5_ := Aside0.mk (below_step (qR9_0) hb); clear HO_10 HO_15 HO338 HO341 HB; have HO_10 := n0_; have HO_15 := n1_; have HO338 := n2_; have HO341 := n3_; have HO344 := n4_; have HB := n5_; clear n0_ n1_ n2_ n3_ n4_ n5_; (try clear hb); (try clear hb2); (try clear hk); (try clear hi); (try clear ho0); obtain ⟨Ao86, co86, eo86⟩ := Kd.R_slice HO338.out; subst eo86; obtain ⟨Ao87, co87, eo87⟩ := Kd.R_slice HO341.out; subst eo87; obtain ⟨Ao88, co88, eo88⟩ := Kd.R_slice HO344.out; subst eo88) | ((with_reducible refine gate_callee (f := 32) rfl ?_); refine goesL_ (some 123) rfl rfl Try.func32 (by kernel_rfl) rfl #[.slice Ao86 t336.length co86, .slice Ao87 t339.length co87, .int .i64 a2, .slice Ao88 t342.length co88] rfl (qR9_1) ?_; (with_reducible refine (impl_RescueOrder.calls kj50 _ _ t336 _ _ t339 a2 _ _ t342 t345 t346 _ ?side1 ?side2 ?side3 ?side4 ?side5 ?side6 A79.out).mono ?_); (case side1 => exact (by repeat (first | exact (Kd.R_reads' HO338.out).2.2 | (with_reducible refine Kd.C_alloc ?_ _) | (with_reducible refine Kd.C_drewN ?_ _) | (with_reducible refine Kd.C_drew ?_)))); (case side2 => exact (by exact (Kd.R_reads' HO338.out).2.1)); (case side3 => exact (by repeat (first | exact (Kd.R_reads' HO341.out).2.2 | (with_reducible refine Kd.C_alloc ?_ _) | (with_reducible refine Kd.C_drewN ?_ _) | (with_reducible refine Kd.C_drew ?_)))); (case side4 => exact (by exact (Kd.R_reads' HO341.out).2.1)); (case side5 => exact (by repeat (first | exact (Kd.R_reads' HO344.out).2.2 | (with_reducible refine Kd.C_alloc ?_ _) | (with_reducible refine Kd.C_drewN ?_ _) | (with_reducible refine Kd.C_drew ?_)))); (case side6 => exact (by exact (Kd.R_reads' HO344.out).2.1)); rintro e w89 ⟨v347, rfl, ho0, hb⟩; refine ⟨_, rfl, ?_⟩; have n0_ := Aside0.mk (Kd.R_elder' (qR9_2) (Kd.R_base ho0) hb); have n1_ := Aside0.mk (Kd.R_elder' (qR9_3) (Kd.R_base ho0) hb); have n2_ := Aside0.mk (Kd.R_below (qR9_32) hb); have n3_ := Aside0.mk (Kd.R_elder' (qR9_25) (Kd.R_base ho0) hb); have n4_ := Aside0.mk (Kd.R_elder' (qR9_47) (Kd.R_base ho0) hb); have n5_ := Aside0.mk (Kd.R_lower (Kd.R_new' (Kd.R_new' (Kd.R_new' (Kd.R_new' ho0 (Kd.R_lt (qR9_2))) (Kd.R_lt (qR9_3))) (Kd.R_lt (qR9_25))) (Kd.R_lt (qR9_47))) (below_size (qR9_0))); have n6_ := Aside0.mk (below_step (qR9_0) hb); clear HO_10 HO_15 HO338 HO341 HO344 HB; have HO_10 := n0_; have HO_15 := n1_; have HO338 := n2_; have HO341 := n3_; have HO344 := n4_; have HO348 := n5_; have HB := n6_; clear n0_ n1_ n2_ n3_ n4_ n5_ n6_; (try clear hb); (try clear hb2); (try clear hk); (try clear hi); (try clear ho0)))
               (try simp only [Act.put, List.setIfInBounds_toArray, List.set_cons_zero, List.set_cons_succ])
               go_cut [134] (fun v134 wc => ∃ (kq : Nat) (x134_79 : Bool), v134 = .bool x134_79 ∧ Aside0 (laws_FnExactRescueOrder.j2 kq t334 t333 x134_79 = some r) ∧ Aside0 (kq ≤ kj50) ∧ Aside0 (Kd.R (Kd.int .i64) 3 wc w.heap.size (fun _ => True) (.slice Ao81 t309.length co81) t334) ∧ Aside0 (Below w.heap.size w wc))
               case first =>
                have H := HC80.out
                clear HC80; replace H := Option.bind_eq_some_iff.mp H; obtain ⟨t349, A900, H⟩ := H
                try dsimp only at H
                have A90 := Aside0.mk A900; clear A900
                by_cases c91 : t349 = true
                ·subst c91
                 have H1 : (laws_FnExactRescueOrder.j2 kj50 t334 t333 (t346 != t297)) = some r := by rw [if_pos rfl] at H; exact H
                 clear H; have H := H1; clear H1
                 have H' := Aside0.mk H
                 clear H
                 obtain ⟨Ao92, co92, eo92⟩ := Kd.R_slice HO348.out
                 subst eo92
                 obtain ⟨Ao93, co93, eo93⟩ := Kd.R_slice HO_10.out
                 subst eo93
                 go_wp2_with (first | ((with_reducible refine gate_callee (f := 26) rfl ?_); refine goesL_ (some 128) rfl rfl Try.func26 (by kernel_rfl) rfl #[.slice Ao92 t345.length co92, .slice Ao93 t296.length co93] rfl (qR9_1) ?_; (with_reducible refine (laws_eqIntS.calls kj50 _ _ t345 _ _ t296 true _ ?side1 ?side2 ?side3 ?side4 A90.out).mono ?_); (case side1 => exact (qR9_38)); (case side2 => exact (by exact (Kd.R_reads' HO348.out).2.1)); (case side3 => exact (qR9_18)); (case side4 => exact (qR9_50)); rintro e w' ⟨rfl, ⟨nd, rfl⟩⟩; refine ⟨_, rfl, ?_⟩))
                 go_meet
                 case rel => exact ⟨_, ((t346 != t297)), (qR9_29), H', ⟨by have := HJ16.out; have := HJ50.out; first | omega | exact Nat.le_refl _⟩, ⟨(qR9_44)⟩, ⟨(qR9_0)⟩⟩
                ·replace c91 := Bool.eq_false_iff.mpr c91
                 subst c91
                 have H1 : (laws_FnExactRescueOrder.j2 kj50 t334 t333 true) = some r := by rw [if_neg (show ¬ (false = true) by decide)] at H; exact H
                 clear H; have H := H1; clear H1
                 have H' := Aside0.mk H
                 clear H
                 obtain ⟨Ao94, co94, eo94⟩ := Kd.R_slice HO348.out
                 subst eo94
                 obtain ⟨Ao95, co95, eo95⟩ := Kd.R_slice HO_10.out
                 subst eo95
                 go_wp2_with (first | ((with_reducible refine gate_callee (f := 26) rfl ?_); refine goesL_ (some 128) rfl rfl Try.func26 (by kernel_rfl) rfl #[.slice Ao94 t345.length co94, .slice Ao95 t296.length co95] rfl (qR9_1) ?_; (with_reducible refine (laws_eqIntS.calls kj50 _ _ t345 _ _ t296 false _ ?side1 ?side2 ?side3 ?side4 A90.out).mono ?_); (case side1 => exact (qR9_38)); (case side2 => exact (by exact (Kd.R_reads' HO348.out).2.1)); (case side3 => exact (qR9_18)); (case side4 => exact (qR9_50)); rintro e w' ⟨rfl, ⟨nd, rfl⟩⟩; refine ⟨_, rfl, ?_⟩))
                 go_meet
                 case rel => exact ⟨_, (true), (qR9_29), H', ⟨by have := HJ16.out; have := HJ50.out; first | omega | exact Nat.le_refl _⟩, ⟨(qR9_44)⟩, ⟨(qR9_0)⟩⟩
               case rest =>
                clear HC80
                try clear c1
                try clear c2
                try clear p2
                try clear c3
                try clear c4
                try clear c5
                try clear c5b0
                try clear c5b1
                try clear c6
                try clear c6b0
                try clear c6b1
                try clear c7
                try clear c8
                try clear c8b0
                try clear c9
                try clear c21
                try clear c23
                try clear c24
                try clear c26
                try clear c27
                try clear c28
                try clear c29
                try clear c30
                try clear c31
                try clear c32
                try clear c33
                try clear c38
                try clear c41
                try clear c44
                try clear c47
                try clear c62
                try clear c62b0
                try clear c64
                try clear c69
                try clear c72
                try clear c72b0
                try clear c75
                try clear c75b0
                try clear c75b1
                try clear c91
                try clear p2
                obtain ⟨kq, x134_79, rfl, HA, HJ79, HO_15, HB⟩ := hcut
                have hl15_79 := (Kd.R_reads' HO_15.out).1
                rw [hl15_79] at HO_15
                (try simp only [hl15_79])
                cases kq with
                | zero => exact absurd HA.out (by simp [laws_FnExactRescueOrder.j2])
                | succ kj79 =>
                 have H := HA.out
                 clear HA
                 simp only [laws_FnExactRescueOrder.j2] at H
                 by_cases c96 : x134_79 = true
                 ·subst c96
                  have H1 : (some false) = some r := by rw [if_pos rfl] at H; exact H
                  clear H; have H := H1; clear H1; obtain rfl := Option.some.inj H
                  go_wp2
                  go_ret
                  exact ⟨(qR9_8), (qR9_0)⟩
                 ·replace c96 := Bool.eq_false_iff.mpr c96
                  subst c96
                  have H1 : ((laws_heldIntS.f kj79 t334 1).bind fun t350 => (if t350 < 0 then (some false) else (if t350 = t333 then (some true) else (some false)))) = some r := by rw [if_neg (show ¬ (false = true) by decide)] at H; exact H
                  clear H; have H := H1; clear H1; replace H := Option.bind_eq_some_iff.mp H; obtain ⟨t350, A970, H⟩ := H
                  try dsimp only at H
                  have A97 := Aside0.mk A970; clear A970
                  by_cases c98 : t350 < 0
                  ·rw [if_pos c98] at H
                   have c98b0 : decide (t350 < 0) = true := decide_eq_true c98
                   clear c98; obtain rfl := Option.some.inj H
                   go_wp2_with (first | ((with_reducible refine gate_callee (f := 30) rfl ?_); refine goesL_ (some 137) rfl rfl Try.func30 (by kernel_rfl) rfl #[.slice Ao81 t334.length co81, .int .i64 1] rfl (qR9_1) ?_; (with_reducible refine (laws_heldIntS.calls kj79 _ _ t334 1 t350 _ ?side1 ?side2 A97.out).mono ?_); (case side1 => exact (qR9_7)); (case side2 => exact (qR9_45)); rintro e w' ⟨rfl, ⟨nd, rfl⟩⟩; refine ⟨_, rfl, ?_⟩))
                   go_ret
                   exact ⟨(qR9_8), (qR9_0)⟩
                  ·rw [if_neg c98] at H
                   have c98b0 : decide (t350 < 0) = false := decide_eq_false c98
                   clear c98
                   by_cases c99 : t350 = t333
                   ·rw [if_pos c99] at H
                    have c99b0 : (t350 == t333) = true := beq_iff_eq.mpr c99
                    have c99b1 : (t350 != t333) = false := bne_eq_false_iff_eq.mpr c99
                    clear c99; obtain rfl := Option.some.inj H
                    go_wp2_with (first | ((with_reducible refine gate_callee (f := 30) rfl ?_); refine goesL_ (some 137) rfl rfl Try.func30 (by kernel_rfl) rfl #[.slice Ao81 t334.length co81, .int .i64 1] rfl (qR9_1) ?_; (with_reducible refine (laws_heldIntS.calls kj79 _ _ t334 1 t350 _ ?side1 ?side2 A97.out).mono ?_); (case side1 => exact (qR9_7)); (case side2 => exact (qR9_45)); rintro e w' ⟨rfl, ⟨nd, rfl⟩⟩; refine ⟨_, rfl, ?_⟩))
                    go_ret
                    exact ⟨(qR9_8), (qR9_0)⟩
                   ·rw [if_neg c99] at H
                    have c99b0 : (t350 == t333) = false := beq_eq_false_iff_ne.mpr c99
                    have c99b1 : (t350 != t333) = true := bne_iff_ne.mpr c99
                    obtain rfl := Option.some.inj H
                    go_wp2_with (first | ((with_reducible refine gate_callee (f := 30) rfl ?_); refine goesL_ (some 137) rfl rfl Try.func30 (by kernel_rfl) rfl #[.slice Ao81 t334.length co81, .int .i64 1] rfl (qR9_1) ?_; (with_reducible refine (laws_heldIntS.calls kj79 _ _ t334 1 t350 _ ?side1 ?side2 A97.out).mono ?_); (case side1 => exact (qR9_7)); (case side2 => exact (qR9_45)); rintro e w' ⟨rfl, ⟨nd, rfl⟩⟩; refine ⟨_, rfl, ?_⟩))
                    go_ret
                    exact ⟨(qR9_8), (qR9_0)⟩
              ·rw [if_neg c75] at H
               have c75b0 : (t335 == t333) = false := beq_eq_false_iff_ne.mpr c75
               have c75b1 : (t335 != t333) = true := bne_iff_ne.mpr c75
               obtain rfl := Option.some.inj H
               obtain ⟨Ao100, co100, eo100⟩ := Kd.R_slice HO_15.out
               subst eo100
               go_wp2_with (first | ((with_reducible refine gate_callee (f := 29) rfl ?_); refine goesL_ (some 106) rfl rfl Try.func29 (by kernel_rfl) rfl #[.slice Ao100 t309.length co100, .int .i64 1] rfl (qR9_1) ?_; (with_reducible refine (laws_markIntS.calls kj50 (fun k_ => some k_ = (.slice Ao100 t309.length co100 : Value).ownBlock) (.slice Ao100 t309.length co100) t309 1 t333 t334 w _ ?side1 ?side2 A70.out).mono ?_); (case side1 => exact (qR9_0)); (case side2 => exact (by exact Kd.R_tight rfl HO_15.out)); rintro e w101 ⟨rfl, hy0, hb, hkp⟩; refine ⟨_, rfl, ?_⟩; have n0_ := Aside0.mk (Kd.R_mono (ok' := fun k_ => some k_ ≠ (.slice Ao100 t309.length co100 : Value).ownBlock) (Kd.R_keptB (HO_10.out) hkp (fun k_ hk_ hs_ => (hk_) hs_)) (fun k_ hk_ => hk_.1)); have n1_ := Aside0.mk (Kd.R_reok rfl hy0 (fun k_ e_ => HO_15.out.1 k_ e_)); have n2_ := Aside0.mk (hb); clear HO_10 HO_15 HB; have HO_10 := n0_; have HO_15 := n1_; have HB := n2_; clear n0_ n1_ n2_; (try clear hb); (try clear hkp); (try clear hy0)) | ((with_reducible refine gate_callee (f := 30) rfl ?_); refine goesL_ (some 109) rfl rfl Try.func30 (by kernel_rfl) rfl #[.slice Ao100 t334.length co100, .int .i64 1] rfl (qR9_19) ?_; (with_reducible refine (laws_heldIntS.calls kj50 _ _ t334 1 t335 _ ?side1 ?side2 A71.out).mono ?_); (case side1 => exact (qR9_7)); (case side2 => exact (qR9_30)); rintro e w' ⟨rfl, ⟨nd, rfl⟩⟩; refine ⟨_, rfl, ?_⟩))
               go_ret
               exact ⟨(qR9_8), (qR9_0)⟩
         ·replace c47 := Bool.eq_false_iff.mpr c47
          subst c47
          have H1 : (some false) = some r := by rw [if_neg (show ¬ (false = true) by decide)] at H; exact H
          clear H; have H := H1; clear H1; obtain rfl := Option.some.inj H
          go_wp2_with (first | ((with_reducible refine gate_callee (f := 23) rfl ?_); refine goesL_ (some 69) rfl rfl Try.func23 (by kernel_rfl) rfl #[.slice A0 l0.length c0] rfl (qR9_1) ?_; (with_reducible refine (laws_toLegS.calls kj16 _ _ l0 t314 _ ?side1 ?side2 A39.out).mono ?_); (case side1 => exact (qR9_14)); (case side2 => exact HC0.out); rintro e w102 ⟨v315, rfl, ho0, hb⟩; refine ⟨_, rfl, ?_⟩; have n0_ := Aside0.mk (Kd.R_below (qR9_2) hb); have n1_ := Aside0.mk (Kd.R_elder' (qR9_6) (Kd.R_base ho0) hb); have n2_ := Aside0.mk (Kd.R_below (qR9_4) hb); have n3_ := Aside0.mk (Kd.R_below (qR9_5) hb); have n4_ := Aside0.mk (Kd.R_below (qR9_3) hb); have n5_ := Aside0.mk (Kd.R_lower (Kd.R_new' ho0 (Kd.R_lt (qR9_6))) (below_size (qR9_0))); have n6_ := Aside0.mk (below_step (qR9_0) hb); clear HO_10 HO_12 HO_13 HO_14 HO_15 HB; have HO_10 := n0_; have HO_12 := n1_; have HO_13 := n2_; have HO_14 := n3_; have HO_15 := n4_; have HO316 := n5_; have HB := n6_; clear n0_ n1_ n2_ n3_ n4_ n5_ n6_; (try clear hb); (try clear hb2); (try clear hk); (try clear hi); (try clear ho0); obtain ⟨Ao103, co103, eo103⟩ := Kd.R_slice HO316.out; subst eo103) | ((with_reducible refine gate_callee (f := 27) rfl ?_); refine goesL_ (some 70) rfl rfl Try.func27 (by kernel_rfl) rfl #[.slice Ao28 t300.length co28, .slice Ao103 t314.length co103] rfl (qR9_1) ?_; (with_reducible refine (laws_eqLegS.calls kj16 _ _ t300 _ _ t314 true _ ?side1 ?side2 ?side3 ?side4 A40.out).mono ?_); (case side1 => exact (qR9_16)); (case side2 => exact (qR9_48)); (case side3 => exact (qR9_17)); (case side4 => exact (qR9_49)); rintro e w104 ⟨rfl, hb⟩; refine ⟨_, rfl, ?_⟩; have n0_ := Aside0.mk (Kd.R_below (qR9_2) hb); have n1_ := Aside0.mk (Kd.R_below (qR9_6) hb); have n2_ := Aside0.mk (Kd.R_below (qR9_4) hb); have n3_ := Aside0.mk (Kd.R_below (qR9_5) hb); have n4_ := Aside0.mk (Kd.R_below (qR9_3) hb); have n5_ := Aside0.mk (Kd.R_below (qR9_12) hb); have n6_ := Aside0.mk (below_step (qR9_0) hb); clear HO_10 HO_12 HO_13 HO_14 HO_15 HO316 HB; have HO_10 := n0_; have HO_12 := n1_; have HO_13 := n2_; have HO_14 := n3_; have HO_15 := n4_; have HO316 := n5_; have HB := n6_; clear n0_ n1_ n2_ n3_ n4_ n5_ n6_; (try clear hb); (try clear hb2); (try clear hk); (try clear hi)) | ((with_reducible refine gate_callee (f := 24) rfl ?_); refine goesL_ (some 74) rfl rfl Try.func24 (by kernel_rfl) rfl #[.slice A1 l1.length c1] rfl (qR9_1) ?_; (with_reducible refine (laws_toIntS.calls kj16 _ _ l1 t318 _ ?side1 ?side2 A42.out).mono ?_); (case side1 => exact (qR9_10)); (case side2 => exact HC1.out); rintro e w105 ⟨v319, rfl, ho0, hb⟩; refine ⟨_, rfl, ?_⟩; have n0_ := Aside0.mk (Kd.R_elder' (qR9_2) (Kd.R_base ho0) hb); have n1_ := Aside0.mk (Kd.R_below (qR9_6) hb); have n2_ := Aside0.mk (Kd.R_elder' (qR9_4) (Kd.R_base ho0) hb); have n3_ := Aside0.mk (Kd.R_elder' (qR9_5) (Kd.R_base ho0) hb); have n4_ := Aside0.mk (Kd.R_elder' (qR9_3) (Kd.R_base ho0) hb); have n5_ := Aside0.mk (Kd.R_below (qR9_12) hb); have n6_ := Aside0.mk (Kd.R_lower (Kd.R_new' (Kd.R_new' (Kd.R_new' (Kd.R_new' ho0 (Kd.R_lt (qR9_2))) (Kd.R_lt (qR9_4))) (Kd.R_lt (qR9_5))) (Kd.R_lt (qR9_3))) (below_size (qR9_0))); have n7_ := Aside0.mk (below_step (qR9_0) hb); clear HO_10 HO_12 HO_13 HO_14 HO_15 HO316 HB; have HO_10 := n0_; have HO_12 := n1_; have HO_13 := n2_; have HO_14 := n3_; have HO_15 := n4_; have HO316 := n5_; have HO320 := n6_; have HB := n7_; clear n0_ n1_ n2_ n3_ n4_ n5_ n6_ n7_; (try clear hb); (try clear hb2); (try clear hk); (try clear hi); (try clear ho0); obtain ⟨Ao106, co106, eo106⟩ := Kd.R_slice HO320.out; subst eo106) | ((with_reducible refine gate_callee (f := 26) rfl ?_); refine goesL_ (some 75) rfl rfl Try.func26 (by kernel_rfl) rfl #[.slice Ao29 t303.length co29, .slice Ao106 t318.length co106] rfl (qR9_1) ?_; (with_reducible refine (laws_eqIntS.calls kj16 _ _ t303 _ _ t318 true _ ?side1 ?side2 ?side3 ?side4 A43.out).mono ?_); (case side1 => exact (qR9_21)); (case side2 => exact (by exact (Kd.R_reads' HO_13.out).2.1)); (case side3 => exact (qR9_22)); (case side4 => exact (by exact (Kd.R_reads' HO320.out).2.1)); rintro e w' ⟨rfl, ⟨nd, rfl⟩⟩; refine ⟨_, rfl, ?_⟩) | ((with_reducible refine gate_callee (f := 24) rfl ?_); refine goesL_ (some 79) rfl rfl Try.func24 (by kernel_rfl) rfl #[.slice A3 l3.length c3] rfl (qR9_1) ?_; (with_reducible refine (laws_toIntS.calls kj16 _ _ l3 t322 _ ?side1 ?side2 A45.out).mono ?_); (case side1 => exact (qR9_33)); (case side2 => exact HC3.out); rintro e w107 ⟨v323, rfl, ho0, hb⟩; refine ⟨_, rfl, ?_⟩; have n0_ := Aside0.mk (Kd.R_elder' (qR9_2) (Kd.R_base ho0) hb); have n1_ := Aside0.mk (Kd.R_below (qR9_6) hb); have n2_ := Aside0.mk (Kd.R_elder' (qR9_4) (Kd.R_base ho0) hb); have n3_ := Aside0.mk (Kd.R_elder' (qR9_5) (Kd.R_base ho0) hb); have n4_ := Aside0.mk (Kd.R_elder' (qR9_3) (Kd.R_base ho0) hb); have n5_ := Aside0.mk (Kd.R_below (qR9_12) hb); have n6_ := Aside0.mk (Kd.R_elder' (qR9_24) (Kd.R_base ho0) hb); have n7_ := Aside0.mk (Kd.R_lower (Kd.R_new' (Kd.R_new' (Kd.R_new' (Kd.R_new' (Kd.R_new' ho0 (Kd.R_lt (qR9_2))) (Kd.R_lt (qR9_4))) (Kd.R_lt (qR9_5))) (Kd.R_lt (qR9_3))) (Kd.R_lt (qR9_24))) (below_size (qR9_0))); have n8_ := Aside0.mk (below_step (qR9_0) hb); clear HO_10 HO_12 HO_13 HO_14 HO_15 HO316 HO320 HB; have HO_10 := n0_; have HO_12 := n1_; have HO_13 := n2_; have HO_14 := n3_; have HO_15 := n4_; have HO316 := n5_; have HO320 := n6_; have HO324 := n7_; have HB := n8_; clear n0_ n1_ n2_ n3_ n4_ n5_ n6_ n7_ n8_; (try clear hb); (try clear hb2); (try clear hk); (try clear hi); (try clear ho0); obtain ⟨Ao108, co108, eo108⟩ := Kd.R_slice HO324.out; subst eo108) | ((with_reducible refine gate_callee (f := 26) rfl ?_); refine goesL_ (some 80) rfl rfl Try.func26 (by kernel_rfl) rfl #[.slice Ao30 t306.length co30, .slice Ao108 t322.length co108] rfl (qR9_1) ?_; (with_reducible refine (laws_eqIntS.calls kj16 _ _ t306 _ _ t322 false _ ?side1 ?side2 ?side3 ?side4 A46.out).mono ?_); (case side1 => exact (qR9_36)); (case side2 => exact (by exact (Kd.R_reads' HO_14.out).2.1)); (case side3 => exact (qR9_37)); (case side4 => exact (by exact (Kd.R_reads' HO324.out).2.1)); rintro e w' ⟨rfl, ⟨nd, rfl⟩⟩; refine ⟨_, rfl, ?_⟩))
          go_ret
          exact ⟨(qR9_8), (qR9_0)⟩
        ·replace c44 := Bool.eq_false_iff.mpr c44
         subst c44
         have H1 : (some false) = some r := by rw [if_neg (show ¬ (false = true) by decide)] at H; exact H
         clear H; have H := H1; clear H1; obtain rfl := Option.some.inj H
         go_wp2_with (first | ((with_reducible refine gate_callee (f := 23) rfl ?_); refine goesL_ (some 69) rfl rfl Try.func23 (by kernel_rfl) rfl #[.slice A0 l0.length c0] rfl (qR9_1) ?_; (with_reducible refine (laws_toLegS.calls kj16 _ _ l0 t314 _ ?side1 ?side2 A39.out).mono ?_); (case side1 => exact (qR9_14)); (case side2 => exact HC0.out); rintro e w109 ⟨v315, rfl, ho0, hb⟩; refine ⟨_, rfl, ?_⟩; have n0_ := Aside0.mk (Kd.R_below (qR9_2) hb); have n1_ := Aside0.mk (Kd.R_elder' (qR9_6) (Kd.R_base ho0) hb); have n2_ := Aside0.mk (Kd.R_below (qR9_4) hb); have n3_ := Aside0.mk (Kd.R_below (qR9_5) hb); have n4_ := Aside0.mk (Kd.R_below (qR9_3) hb); have n5_ := Aside0.mk (Kd.R_lower (Kd.R_new' ho0 (Kd.R_lt (qR9_6))) (below_size (qR9_0))); have n6_ := Aside0.mk (below_step (qR9_0) hb); clear HO_10 HO_12 HO_13 HO_14 HO_15 HB; have HO_10 := n0_; have HO_12 := n1_; have HO_13 := n2_; have HO_14 := n3_; have HO_15 := n4_; have HO316 := n5_; have HB := n6_; clear n0_ n1_ n2_ n3_ n4_ n5_ n6_; (try clear hb); (try clear hb2); (try clear hk); (try clear hi); (try clear ho0); obtain ⟨Ao110, co110, eo110⟩ := Kd.R_slice HO316.out; subst eo110) | ((with_reducible refine gate_callee (f := 27) rfl ?_); refine goesL_ (some 70) rfl rfl Try.func27 (by kernel_rfl) rfl #[.slice Ao28 t300.length co28, .slice Ao110 t314.length co110] rfl (qR9_1) ?_; (with_reducible refine (laws_eqLegS.calls kj16 _ _ t300 _ _ t314 true _ ?side1 ?side2 ?side3 ?side4 A40.out).mono ?_); (case side1 => exact (qR9_16)); (case side2 => exact (qR9_48)); (case side3 => exact (qR9_17)); (case side4 => exact (qR9_49)); rintro e w111 ⟨rfl, hb⟩; refine ⟨_, rfl, ?_⟩; have n0_ := Aside0.mk (Kd.R_below (qR9_2) hb); have n1_ := Aside0.mk (Kd.R_below (qR9_6) hb); have n2_ := Aside0.mk (Kd.R_below (qR9_4) hb); have n3_ := Aside0.mk (Kd.R_below (qR9_5) hb); have n4_ := Aside0.mk (Kd.R_below (qR9_3) hb); have n5_ := Aside0.mk (Kd.R_below (qR9_12) hb); have n6_ := Aside0.mk (below_step (qR9_0) hb); clear HO_10 HO_12 HO_13 HO_14 HO_15 HO316 HB; have HO_10 := n0_; have HO_12 := n1_; have HO_13 := n2_; have HO_14 := n3_; have HO_15 := n4_; have HO316 := n5_; have HB := n6_; clear n0_ n1_ n2_ n3_ n4_ n5_ n6_; (try clear hb); (try clear hb2); (try clear hk); (try clear hi)) | ((with_reducible refine gate_callee (f := 24) rfl ?_); refine goesL_ (some 74) rfl rfl Try.func24 (by kernel_rfl) rfl #[.slice A1 l1.length c1] rfl (qR9_1) ?_; (with_reducible refine (laws_toIntS.calls kj16 _ _ l1 t318 _ ?side1 ?side2 A42.out).mono ?_); (case side1 => exact (qR9_10)); (case side2 => exact HC1.out); rintro e w112 ⟨v319, rfl, ho0, hb⟩; refine ⟨_, rfl, ?_⟩; have n0_ := Aside0.mk (Kd.R_elder' (qR9_2) (Kd.R_base ho0) hb); have n1_ := Aside0.mk (Kd.R_below (qR9_6) hb); have n2_ := Aside0.mk (Kd.R_elder' (qR9_4) (Kd.R_base ho0) hb); have n3_ := Aside0.mk (Kd.R_elder' (qR9_5) (Kd.R_base ho0) hb); have n4_ := Aside0.mk (Kd.R_elder' (qR9_3) (Kd.R_base ho0) hb); have n5_ := Aside0.mk (Kd.R_below (qR9_12) hb); have n6_ := Aside0.mk (Kd.R_lower (Kd.R_new' (Kd.R_new' (Kd.R_new' (Kd.R_new' ho0 (Kd.R_lt (qR9_2))) (Kd.R_lt (qR9_4))) (Kd.R_lt (qR9_5))) (Kd.R_lt (qR9_3))) (below_size (qR9_0))); have n7_ := Aside0.mk (below_step (qR9_0) hb); clear HO_10 HO_12 HO_13 HO_14 HO_15 HO316 HB; have HO_10 := n0_; have HO_12 := n1_; have HO_13 := n2_; have HO_14 := n3_; have HO_15 := n4_; have HO316 := n5_; have HO320 := n6_; have HB := n7_; clear n0_ n1_ n2_ n3_ n4_ n5_ n6_ n7_; (try clear hb); (try clear hb2); (try clear hk); (try clear hi); (try clear ho0); obtain ⟨Ao113, co113, eo113⟩ := Kd.R_slice HO320.out; subst eo113) | ((with_reducible refine gate_callee (f := 26) rfl ?_); refine goesL_ (some 75) rfl rfl Try.func26 (by kernel_rfl) rfl #[.slice Ao29 t303.length co29, .slice Ao113 t318.length co113] rfl (qR9_1) ?_; (with_reducible refine (laws_eqIntS.calls kj16 _ _ t303 _ _ t318 false _ ?side1 ?side2 ?side3 ?side4 A43.out).mono ?_); (case side1 => exact (qR9_21)); (case side2 => exact (by exact (Kd.R_reads' HO_13.out).2.1)); (case side3 => exact (qR9_22)); (case side4 => exact (by exact (Kd.R_reads' HO320.out).2.1)); rintro e w' ⟨rfl, ⟨nd, rfl⟩⟩; refine ⟨_, rfl, ?_⟩))
         go_ret
         exact ⟨(qR9_8), (qR9_0)⟩
       ·replace c41 := Bool.eq_false_iff.mpr c41
        subst c41
        have H1 : (some false) = some r := by rw [if_neg (show ¬ (false = true) by decide)] at H; exact H
        clear H; have H := H1; clear H1; obtain rfl := Option.some.inj H
        go_wp2_with (first | ((with_reducible refine gate_callee (f := 23) rfl ?_); refine goesL_ (some 69) rfl rfl Try.func23 (by kernel_rfl) rfl #[.slice A0 l0.length c0] rfl (qR9_1) ?_; (with_reducible refine (laws_toLegS.calls kj16 _ _ l0 t314 _ ?side1 ?side2 A39.out).mono ?_); (case side1 => exact (qR9_14)); (case side2 => exact HC0.out); rintro e w114 ⟨v315, rfl, ho0, hb⟩; refine ⟨_, rfl, ?_⟩; have n0_ := Aside0.mk (Kd.R_below (qR9_2) hb); have n1_ := Aside0.mk (Kd.R_elder' (qR9_6) (Kd.R_base ho0) hb); have n2_ := Aside0.mk (Kd.R_below (qR9_4) hb); have n3_ := Aside0.mk (Kd.R_below (qR9_5) hb); have n4_ := Aside0.mk (Kd.R_below (qR9_3) hb); have n5_ := Aside0.mk (Kd.R_lower (Kd.R_new' ho0 (Kd.R_lt (qR9_6))) (below_size (qR9_0))); have n6_ := Aside0.mk (below_step (qR9_0) hb); clear HO_10 HO_12 HO_13 HO_14 HO_15 HB; have HO_10 := n0_; have HO_12 := n1_; have HO_13 := n2_; have HO_14 := n3_; have HO_15 := n4_; have HO316 := n5_; have HB := n6_; clear n0_ n1_ n2_ n3_ n4_ n5_ n6_; (try clear hb); (try clear hb2); (try clear hk); (try clear hi); (try clear ho0); obtain ⟨Ao115, co115, eo115⟩ := Kd.R_slice HO316.out; subst eo115) | ((with_reducible refine gate_callee (f := 27) rfl ?_); refine goesL_ (some 70) rfl rfl Try.func27 (by kernel_rfl) rfl #[.slice Ao28 t300.length co28, .slice Ao115 t314.length co115] rfl (qR9_1) ?_; (with_reducible refine (laws_eqLegS.calls kj16 _ _ t300 _ _ t314 false _ ?side1 ?side2 ?side3 ?side4 A40.out).mono ?_); (case side1 => exact (qR9_16)); (case side2 => exact (qR9_48)); (case side3 => exact (qR9_17)); (case side4 => exact (qR9_49)); rintro e w116 ⟨rfl, hb⟩; refine ⟨_, rfl, ?_⟩; have n0_ := Aside0.mk (Kd.R_below (qR9_2) hb); have n1_ := Aside0.mk (Kd.R_below (qR9_6) hb); have n2_ := Aside0.mk (Kd.R_below (qR9_4) hb); have n3_ := Aside0.mk (Kd.R_below (qR9_5) hb); have n4_ := Aside0.mk (Kd.R_below (qR9_3) hb); have n5_ := Aside0.mk (Kd.R_below (qR9_12) hb); have n6_ := Aside0.mk (below_step (qR9_0) hb); clear HO_10 HO_12 HO_13 HO_14 HO_15 HO316 HB; have HO_10 := n0_; have HO_12 := n1_; have HO_13 := n2_; have HO_14 := n3_; have HO_15 := n4_; have HO316 := n5_; have HB := n6_; clear n0_ n1_ n2_ n3_ n4_ n5_ n6_; (try clear hb); (try clear hb2); (try clear hk); (try clear hi)))
        go_ret
        exact ⟨(qR9_8), (qR9_0)⟩

end Go.Proofs.Ytfgkpokjhihaaaa.MR
