-- Written by a program of this session (wip/drv.py, wip/tight2.py). -- tight2
import Derived.Test.YtmbpdegkkdcjnaaDoorMWx0
import Derived.Test.YtmbpdegkkdcjnaaDoorMWx2
import Derived.Test.YtmbpdegkkdcjnaaDoorMWx3
import Derived.Test.YtmbpdegkkdcjnaaDoorMWx4
import Derived.Test.YtmbpdegkkdcjnaaDoorMWx5
import Derived.Test.YtmbpdegkkdcjnaaDoorMWx6
import Derived.Test.YtmbpdegkkdcjnaaDoorMWx7
import Derived.Test.YtmbpdegkkdcjnaaDoorMWx8
import Derived.Test.YtmbpdegkkdcjnaaDoorMWx9
import Derived.Test.YtmbpdegkkdcjnaaDoorMWx10
import Derived.Test.YtmbpdegkkdcjnaaDoorMWx12
namespace Go.Proofs.YtmbpdegkkdcjnaaDoor.MW
open Go.RowKit Go.Proofs.YtmbpdegkkdcjnaaDoorW.PrintWords Go.Proofs.YtmbpdegkkdcjnaaDoorW.PrintLast Go.Proofs.YtmbpdegkkdcjnaaDoorW.PrintMore
attribute [local go_sem] max2_int min2_int max_two min_two max_three min_three max_four min_four   -- for this text's walks alone
set_option linter.unusedVariables false
set_option linter.unusedSimpArgs false

/-! ### laws_FnWays: function 3 -/
mutual
def laws_FnWays.j0 : Nat → List Int → List (S44) → List (List Int) → Bool → Bool → Option (Bool)
 | 0, _, _, _, _, _ => none
 | k + 1, x0, x3, x4, x5, x68 => if x68 = true then (some false) else ((impl_Climb.f k x3).bind fun bt492 => ((spec_Climb.f k x3).bind fun bt495 => (if bt492.1 = bt495.1 then (if bt492.2.1 = bt495.2.1 then (laws_FnWays.j1 k x0 x3 x4 x5 bt492.1 bt492.2.1 (bt492.2.2 != bt495.2.2)) else (laws_FnWays.j1 k x0 x3 x4 x5 bt492.1 bt492.2.1 true)) else (laws_FnWays.j1 k x0 x3 x4 x5 bt492.1 bt492.2.1 true))))
def laws_FnWays.j1 : Nat → List Int → List (S44) → List (List Int) → Bool → Int → Int → Bool → Option (Bool)
 | 0, _, _, _, _, _, _, _ => none
 | k + 1, x0, x3, x4, x5, x8, x9, x93 => if x93 = true then (some false) else ((impl_RangeOf.f k x3).bind fun bt498 => ((spec_RangeOf.f k x3).bind fun bt501 => (if bt498.1 = bt501.1 then (if bt498.2.1 = bt501.2.1 then (laws_FnWays.j2 k x0 x3 x4 x5 x8 x9 bt498.1 bt498.2.1 (bt498.2.2 != bt501.2.2)) else (laws_FnWays.j2 k x0 x3 x4 x5 x8 x9 bt498.1 bt498.2.1 true)) else (laws_FnWays.j2 k x0 x3 x4 x5 x8 x9 bt498.1 bt498.2.1 true))))
def laws_FnWays.j2 : Nat → List Int → List (S44) → List (List Int) → Bool → Int → Int → Int → Int → Bool → Option (Bool)
 | 0, _, _, _, _, _, _, _, _, _ => none
 | k + 1, x0, x3, x4, x5, x8, x9, x14, x15, x118 => if x118 = true then (some false) else (if x5 = true then ((impl_ReverseWay.f k x3).bind fun bt504 => ((impl_ReverseWay.f k bt504.1).bind fun bt508 => ((impl_Climb.f k bt504.1).bind fun bt512 => (if 0 ≤ (wrap64 ((x4.length : Int) - 1)) then (if (wrap64 ((x4.length : Int) - 1)) < (x4.length : Int) then (if bt504.2 = true then (if bt508.2 = true then ((laws_rRuns.f k bt508.1 x3).bind fun t516 => (if t516 = true then (if bt512.2.2 = true then (if bt512.1 = x9 then (if bt512.2.1 = x8 then (if 1 < ((rd_L4 x4 (wrap64 ((x4.length : Int) - 1))).length : Int) then (if (rd (rd_L4 x4 (wrap64 ((x4.length : Int) - 1))) 1) = (wrap64 (x8 - x9)) then (laws_FnWays.j3 k x0 x4 x14 x15 (decide ((wrap64 (x15 - x14)) > (wrap64 (x8 + x9))))) else (laws_FnWays.j3 k x0 x4 x14 x15 true)) else (none)) else (laws_FnWays.j3 k x0 x4 x14 x15 true)) else (laws_FnWays.j3 k x0 x4 x14 x15 true)) else (laws_FnWays.j3 k x0 x4 x14 x15 true)) else (laws_FnWays.j3 k x0 x4 x14 x15 true))) else (laws_FnWays.j3 k x0 x4 x14 x15 true)) else (laws_FnWays.j3 k x0 x4 x14 x15 true)) else (none)) else (none))))) else (laws_FnWays.j5 k x0))
def laws_FnWays.j5 : Nat → List Int → Option (Bool)
 | 0, _ => none
 | k + 1, x0 => (spec_DrawJoinWays.f k x0).bind fun bt522 => ((impl_JoinWays.f k bt522.1 bt522.2).bind fun bt528 => ((spec_JoinWays.f k bt522.1 bt522.2).bind fun bt532 => (if (bt528.2 != bt532.2) = true then (laws_FnWays.j6 k x0 true) else ((laws_rRuns.f k bt528.1 bt532.1).bind fun t536 => (laws_FnWays.j6 k x0 (!t536))))))
def laws_FnWays.j6 : Nat → List Int → Bool → Option (Bool)
 | 0, _, _ => none
 | k + 1, x0, x235 => if x235 = true then (some false) else ((spec_DrawWayOfLegs.f k x0).bind fun t537 => ((impl_WayOfLegs.f k t537).bind fun bt540 => ((spec_WayOfLegs.f k t537).bind fun bt544 => (if (bt540.2 == bt544.2) = true then ((laws_rRuns.f k bt540.1 bt544.1).bind fun t548 => (if t548 = true then (if bt540.2 = true then (some ((bt540.1.length : Int) == (t537.length : Int))) else (some true)) else (some false))) else (some false)))))
def laws_FnWays.j3 : Nat → List Int → List (List Int) → Int → Int → Bool → Option (Bool)
 | 0, _, _, _, _, _ => none
 | k + 1, x0, x4, x14, x15, x185 => if x185 = true then (some false) else (laws_FnWays.l0 k x0 x4 x14 x15 0)
def laws_FnWays.l0 : Nat → List Int → List (List Int) → Int → Int → Int → Option (Bool)
 | 0, _, _, _, _, _ => none
 | k + 1, x0, x4, x14, x15, x28 => if x28 < (x4.length : Int) then (if 0 ≤ x28 then (if 1 < ((rd_L4 x4 x28).length : Int) then (if (rd (rd_L4 x4 x28) 1) < x14 then (some false) else (if (rd (rd_L4 x4 x28) 1) > x15 then (some false) else (laws_FnWays.l0 k x0 x4 x14 x15 (wrap64 (x28 + 1))))) else (none)) else (none)) else (laws_FnWays.j5 k x0)
end
def laws_FnWays.f (k : Nat) (l0 : List Int) : Option (Bool) := (laws_rBig.f l0).bind fun t478 => (if t478 = true then (some true) else ((spec_DrawPointsOf.f k l0).bind fun t479 => ((impl_PointsOf.f k t479).bind fun bt482 => ((spec_PointsOf.f k t479).bind fun bt486 => (if (bt482.2 != bt486.2) = true then (laws_FnWays.j0 k l0 t479 bt482.1 bt482.2 true) else ((laws_rTable.f k bt482.1 bt486.1).bind fun t490 => (if t490 = true then ((impl_IsWay.f k t479).bind fun t491 => (laws_FnWays.j0 k l0 t479 bt482.1 bt482.2 (bt482.2 != t491))) else (laws_FnWays.j0 k l0 t479 bt482.1 bt482.2 true))))))))
theorem laws_FnWays.mono_l : ∀ k, (∀ y0 y1 y2 y3 y4, LeO (laws_FnWays.j0 k y0 y1 y2 y3 y4) (laws_FnWays.j0 (k + 1) y0 y1 y2 y3 y4)) ∧ (∀ y0 y1 y2 y3 y4 y5 y6, LeO (laws_FnWays.j1 k y0 y1 y2 y3 y4 y5 y6) (laws_FnWays.j1 (k + 1) y0 y1 y2 y3 y4 y5 y6)) ∧ (∀ y0 y1 y2 y3 y4 y5 y6 y7 y8, LeO (laws_FnWays.j2 k y0 y1 y2 y3 y4 y5 y6 y7 y8) (laws_FnWays.j2 (k + 1) y0 y1 y2 y3 y4 y5 y6 y7 y8)) ∧ (∀ y0, LeO (laws_FnWays.j5 k y0) (laws_FnWays.j5 (k + 1) y0)) ∧ (∀ y0 y1, LeO (laws_FnWays.j6 k y0 y1) (laws_FnWays.j6 (k + 1) y0 y1)) ∧ (∀ y0 y1 y2 y3 y4, LeO (laws_FnWays.j3 k y0 y1 y2 y3 y4) (laws_FnWays.j3 (k + 1) y0 y1 y2 y3 y4)) ∧ (∀ y0 y1 y2 y3 y4, LeO (laws_FnWays.l0 k y0 y1 y2 y3 y4) (laws_FnWays.l0 (k + 1) y0 y1 y2 y3 y4))
 | 0 => ⟨fun _ _ _ _ _ r h => by simp [laws_FnWays.j0] at h, fun _ _ _ _ _ _ _ r h => by simp [laws_FnWays.j1] at h, fun _ _ _ _ _ _ _ _ _ r h => by simp [laws_FnWays.j2] at h, fun _ r h => by simp [laws_FnWays.j5] at h, fun _ _ r h => by simp [laws_FnWays.j6] at h, fun _ _ _ _ _ r h => by simp [laws_FnWays.j3] at h, fun _ _ _ _ _ r h => by simp [laws_FnWays.l0] at h⟩
 | k + 1 => by
  obtain ⟨ih0, ih1, ih2, ih3, ih4, ih5, ih6⟩ := laws_FnWays.mono_l k
  refine ⟨?_, ?_, ?_, ?_, ?_, ?_, ?_⟩
  ·intro y0 y1 y2 y3 y4
   unfold laws_FnWays.j0
   have m0 := @impl_Climb.mono; have m1 := @impl_IsWay.mono; have m2 := @impl_JoinWays.mono; have m3 := @impl_PointsOf.mono; have m4 := @impl_RangeOf.mono; have m5 := @impl_ReverseWay.mono; have m6 := @impl_WayOfLegs.mono; have m7 := @laws_rRuns.mono; have m8 := @laws_rTable.mono; have m9 := @spec_Climb.mono; have m10 := @spec_DrawJoinWays.mono; have m11 := @spec_DrawPointsOf.mono; have m12 := @spec_DrawWayOfLegs.mono; have m13 := @spec_JoinWays.mono; have m14 := @spec_PointsOf.mono; have m15 := @spec_RangeOf.mono; have m16 := @spec_WayOfLegs.mono
   exact qmono
  ·intro y0 y1 y2 y3 y4 y5 y6
   unfold laws_FnWays.j1
   have m0 := @impl_Climb.mono; have m1 := @impl_IsWay.mono; have m2 := @impl_JoinWays.mono; have m3 := @impl_PointsOf.mono; have m4 := @impl_RangeOf.mono; have m5 := @impl_ReverseWay.mono; have m6 := @impl_WayOfLegs.mono; have m7 := @laws_rRuns.mono; have m8 := @laws_rTable.mono; have m9 := @spec_Climb.mono; have m10 := @spec_DrawJoinWays.mono; have m11 := @spec_DrawPointsOf.mono; have m12 := @spec_DrawWayOfLegs.mono; have m13 := @spec_JoinWays.mono; have m14 := @spec_PointsOf.mono; have m15 := @spec_RangeOf.mono; have m16 := @spec_WayOfLegs.mono
   exact qmono
  ·intro y0 y1 y2 y3 y4 y5 y6 y7 y8
   unfold laws_FnWays.j2
   have m0 := @impl_Climb.mono; have m1 := @impl_IsWay.mono; have m2 := @impl_JoinWays.mono; have m3 := @impl_PointsOf.mono; have m4 := @impl_RangeOf.mono; have m5 := @impl_ReverseWay.mono; have m6 := @impl_WayOfLegs.mono; have m7 := @laws_rRuns.mono; have m8 := @laws_rTable.mono; have m9 := @spec_Climb.mono; have m10 := @spec_DrawJoinWays.mono; have m11 := @spec_DrawPointsOf.mono; have m12 := @spec_DrawWayOfLegs.mono; have m13 := @spec_JoinWays.mono; have m14 := @spec_PointsOf.mono; have m15 := @spec_RangeOf.mono; have m16 := @spec_WayOfLegs.mono
   exact qmono
  ·intro y0
   unfold laws_FnWays.j5
   have m0 := @impl_Climb.mono; have m1 := @impl_IsWay.mono; have m2 := @impl_JoinWays.mono; have m3 := @impl_PointsOf.mono; have m4 := @impl_RangeOf.mono; have m5 := @impl_ReverseWay.mono; have m6 := @impl_WayOfLegs.mono; have m7 := @laws_rRuns.mono; have m8 := @laws_rTable.mono; have m9 := @spec_Climb.mono; have m10 := @spec_DrawJoinWays.mono; have m11 := @spec_DrawPointsOf.mono; have m12 := @spec_DrawWayOfLegs.mono; have m13 := @spec_JoinWays.mono; have m14 := @spec_PointsOf.mono; have m15 := @spec_RangeOf.mono; have m16 := @spec_WayOfLegs.mono
   exact qmono
  ·intro y0 y1
   unfold laws_FnWays.j6
   have m0 := @impl_Climb.mono; have m1 := @impl_IsWay.mono; have m2 := @impl_JoinWays.mono; have m3 := @impl_PointsOf.mono; have m4 := @impl_RangeOf.mono; have m5 := @impl_ReverseWay.mono; have m6 := @impl_WayOfLegs.mono; have m7 := @laws_rRuns.mono; have m8 := @laws_rTable.mono; have m9 := @spec_Climb.mono; have m10 := @spec_DrawJoinWays.mono; have m11 := @spec_DrawPointsOf.mono; have m12 := @spec_DrawWayOfLegs.mono; have m13 := @spec_JoinWays.mono; have m14 := @spec_PointsOf.mono; have m15 := @spec_RangeOf.mono; have m16 := @spec_WayOfLegs.mono
   exact qmono
  ·intro y0 y1 y2 y3 y4
   unfold laws_FnWays.j3
   have m0 := @impl_Climb.mono; have m1 := @impl_IsWay.mono; have m2 := @impl_JoinWays.mono; have m3 := @impl_PointsOf.mono; have m4 := @impl_RangeOf.mono; have m5 := @impl_ReverseWay.mono; have m6 := @impl_WayOfLegs.mono; have m7 := @laws_rRuns.mono; have m8 := @laws_rTable.mono; have m9 := @spec_Climb.mono; have m10 := @spec_DrawJoinWays.mono; have m11 := @spec_DrawPointsOf.mono; have m12 := @spec_DrawWayOfLegs.mono; have m13 := @spec_JoinWays.mono; have m14 := @spec_PointsOf.mono; have m15 := @spec_RangeOf.mono; have m16 := @spec_WayOfLegs.mono
   exact qmono
  ·intro y0 y1 y2 y3 y4
   unfold laws_FnWays.l0
   have m0 := @impl_Climb.mono; have m1 := @impl_IsWay.mono; have m2 := @impl_JoinWays.mono; have m3 := @impl_PointsOf.mono; have m4 := @impl_RangeOf.mono; have m5 := @impl_ReverseWay.mono; have m6 := @impl_WayOfLegs.mono; have m7 := @laws_rRuns.mono; have m8 := @laws_rTable.mono; have m9 := @spec_Climb.mono; have m10 := @spec_DrawJoinWays.mono; have m11 := @spec_DrawPointsOf.mono; have m12 := @spec_DrawWayOfLegs.mono; have m13 := @spec_JoinWays.mono; have m14 := @spec_PointsOf.mono; have m15 := @spec_RangeOf.mono; have m16 := @spec_WayOfLegs.mono
   exact qmono
theorem laws_FnWays.mono : ∀ a0 k, LeO (laws_FnWays.f k a0) (laws_FnWays.f (k + 1) a0) := by
 intro a0 k
 obtain ⟨ih0, ih1, ih2, ih3, ih4, ih5, ih6⟩ := laws_FnWays.mono_l k
 unfold laws_FnWays.f
 have m0 := @impl_Climb.mono; have m1 := @impl_IsWay.mono; have m2 := @impl_JoinWays.mono; have m3 := @impl_PointsOf.mono; have m4 := @impl_RangeOf.mono; have m5 := @impl_ReverseWay.mono; have m6 := @impl_WayOfLegs.mono; have m7 := @laws_rRuns.mono; have m8 := @laws_rTable.mono; have m9 := @spec_Climb.mono; have m10 := @spec_DrawJoinWays.mono; have m11 := @spec_DrawPointsOf.mono; have m12 := @spec_DrawWayOfLegs.mono; have m13 := @spec_JoinWays.mono; have m14 := @spec_PointsOf.mono; have m15 := @spec_RangeOf.mono; have m16 := @spec_WayOfLegs.mono
 exact qmono
set_option maxHeartbeats 8000000 in
set_option maxRecDepth 100000 in
theorem laws_FnWays.calls (k : Nat) (A0 : Option Addr) (c0 : Nat) (l0 : List Int) (r : Bool) (w : World) (hr0 : Kd.C (Kd.int .u8) w A0 l0.length l0) (hc0 : l0.length ≤ c0) (h : laws_FnWays.f k l0 = some r) (hsn : TabS w) :
  Calls Tryd.prog 3 #[.slice A0 l0.length c0] w fun e w' => e = .returned (.bool r) ∧ Below w.heap.size w w' := by
 have HSN := Aside0.mk hsn; clear hsn; have HR0 := Aside0.mk hr0; have HC0 := Aside0.mk hc0; clear hr0 hc0
 have HB := Aside0.mk (Below.refl w.heap.size w)
 have H : ((laws_rBig.f l0).bind fun t478 => (if t478 = true then (some true) else ((spec_DrawPointsOf.f k l0).bind fun t479 => ((impl_PointsOf.f k t479).bind fun bt482 => ((spec_PointsOf.f k t479).bind fun bt486 => (if (bt482.2 != bt486.2) = true then (laws_FnWays.j0 k l0 t479 bt482.1 bt482.2 true) else ((laws_rTable.f k bt482.1 bt486.1).bind fun t490 => (if t490 = true then ((impl_IsWay.f k t479).bind fun t491 => (laws_FnWays.j0 k l0 t479 bt482.1 bt482.2 (bt482.2 != t491))) else (laws_FnWays.j0 k l0 t479 bt482.1 bt482.2 true))))))))) = some r := h
 clear h; replace H := Option.bind_eq_some_iff.mp H; obtain ⟨t478, A20, H⟩ := H
 try dsimp only at H
 have A2 := Aside0.mk A20; clear A20
 by_cases c3 : t478 = true
 ·as_aux_lemma =>
  subst c3; rw [if_pos rfl] at H; obtain rfl := Option.some.inj H
  go_enter Tryd.func3, Tryd.ntmps3
  go_wp2_with (first | ((with_reducible refine gate_callee (f := 4) rfl ?_); refine goesL_ (some 41) rfl rfl Tryd.func4 (by kernel_rfl) rfl #[.slice A0 l0.length c0] rfl (qW1) ?_; (with_reducible refine (laws_rBig.calls _ _ l0 true _ ?side1 ?side2 A2.out).mono ?_); (case side1 => exact (qW26)); (case side2 => exact HC0.out); rintro e w' ⟨rfl, ⟨nd, rfl⟩⟩; refine ⟨_, rfl, ?_⟩))
  go_ret
  exact ⟨(qW9), (qW0)⟩
 ·as_aux_lemma =>
  replace c3 := Bool.eq_false_iff.mpr c3
  subst c3
  rw [if_neg (show ¬ (false = true) by decide)] at H
  replace H := Option.bind_eq_some_iff.mp H; obtain ⟨t479, A40, H⟩ := H
  try dsimp only at H
  have A4 := Aside0.mk A40; clear A40; replace H := Option.bind_eq_some_iff.mp H; obtain ⟨⟨t482, t483⟩, A50, H⟩ := H
  try dsimp only at H
  have A5 := Aside0.mk A50; clear A50; replace H := Option.bind_eq_some_iff.mp H; obtain ⟨⟨t486, t489⟩, A60, H⟩ := H
  try dsimp only at H
  have A6 := Aside0.mk A60; clear A60; have HC7 := Aside0.mk H; clear H
  go_enter Tryd.func3, Tryd.ntmps3
  go_upto_region 6 with (first | ((with_reducible refine gate_callee (f := 4) rfl ?_); refine goesL_ (some 41) rfl rfl Tryd.func4 (by kernel_rfl) rfl #[.slice A0 l0.length c0] rfl (qW1) ?_; (with_reducible refine (laws_rBig.calls _ _ l0 false _ ?side1 ?side2 A2.out).mono ?_); (case side1 => exact (qW26)); (case side2 => exact HC0.out); rintro e w' ⟨rfl, ⟨nd, rfl⟩⟩; refine ⟨_, rfl, ?_⟩) | ((with_reducible refine gate_callee (f := 5) rfl ?_); refine goesL_ (some 43) rfl rfl Tryd.func5 (by kernel_rfl) rfl #[.slice A0 l0.length c0] rfl (qW1) ?_; (with_reducible refine (spec_DrawPointsOf.calls k _ _ l0 t479 _ ?side1 ?side2 A4.out).mono ?_); (case side1 => exact (qW26)); (case side2 => exact HC0.out); rintro e w8 ⟨v480, rfl, ho0, hb⟩; refine ⟨_, rfl, ?_⟩; have HO481 := Aside0.mk (Kd.R_lower ho0 (below_size (qW0))); replace HB := Aside0.mk (below_step (qW0) hb); clear hb ho0; obtain ⟨Ao9, co9, eo9⟩ := Kd.R_slice HO481.out; subst eo9) | ((with_reducible refine gate_callee (f := 6) rfl ?_); refine goesL_ (some 46) rfl rfl Tryd.func6 (by kernel_rfl) rfl #[.slice Ao9 t479.length co9] rfl (qW1) ?_; (with_reducible refine (impl_PointsOf.calls k _ _ t479 t482 t483 _ ?side1 ?side2 A5.out).mono ?_); (case side1 => exact (qW6 HO481.out)); (case side2 => exact (qW41 HO481.out)); rintro e w10 ⟨v484, rfl, ho0, hb⟩; refine ⟨_, rfl, ?_⟩; have HO485 := Aside0.mk (Kd.N_lower (Kd.N_mono (ok' := fun k_ => some k_ ≠ (.slice Ao9 t479.length co9 : Value).ownBlock) (Kd.S_N (Kd.S_bound ho0)) (fun k_ hk_ => (Kd.fresh' (Kd.R_lt (qW2 HO481.out)) k_ hk_.2.1))) (below_size (qW0))); replace HO481 := Aside0.mk (Kd.R_below (qW2 HO481.out) hb); replace HB := Aside0.mk (below_step (qW0) hb); clear hb ho0) | ((with_reducible refine gate_callee (f := 7) rfl ?_); refine goesL_ (some 51) rfl rfl Tryd.func7 (by kernel_rfl) rfl #[.slice Ao9 t479.length co9] rfl (qW1) ?_; (with_reducible refine (spec_PointsOf.calls k _ _ t479 t486 t489 _ ?side1 ?side2 A6.out).mono ?_); (case side1 => exact (qW6 HO481.out)); (case side2 => exact (qW41 HO481.out)); rintro e w11 ⟨v487, rfl, ho0, hb⟩; refine ⟨_, rfl, ?_⟩; have HO488 := Aside0.mk (Kd.N_lower (Kd.N_mono (ok' := fun k_ => some k_ ≠ (.slice Ao9 t479.length co9 : Value).ownBlock ∧ some k_ ≠ (v484 : Value).ownBlock) ho0 (fun k_ hk_ => ⟨(Kd.fresh' (Kd.R_lt (qW2 HO481.out)) k_ hk_), (Kd.fresh' (Kd.N_lt (qW30 HO485.out)) k_ hk_)⟩)) (below_size (qW0))); replace HO481 := Aside0.mk (Kd.R_below (qW2 HO481.out) hb); replace HO485 := Aside0.mk (Kd.N_elder' (qW30 HO485.out) (Kd.N_base ho0) hb); replace HB := Aside0.mk (below_step (qW0) hb); clear hb ho0))
  (try simp only [Act.put, List.setIfInBounds_toArray, List.set_cons_zero, List.set_cons_succ])
  go_cut [68] (fun v68 wc => ∃ (kq : Nat) (x68_6 : Bool), v68 = .bool x68_6 ∧ Aside0 (laws_FnWays.j0 kq l0 t479 t482 t483 x68_6 = some r) ∧ Aside0 (kq ≤ k) ∧ Aside0 (Kd.R k44 44 wc w.heap.size (fun _ => True) (.slice Ao9 t479.length co9) t479) ∧ Aside0 (Kd.N (Kd.slice 3 (Kd.int .i64)) 35 wc w.heap.size (fun k_ => some k_ ≠ ((.slice Ao9 t479.length co9) : Value).ownBlock) v484 t482) ∧ Aside0 (Below w.heap.size w wc))
  case first =>
   have H := HC7.out
   clear HC7
   by_cases c12 : (t483 != t489) = true
   ·as_aux_lemma =>
    rw [if_pos c12] at H
    have c12b0 : (t483 != t489) = true := c12
    (try (have c12b1 : decide (t483 = t489) = false := by simpa using c12))
    (try (have c12b2 : (t483 == t489) = false := by simpa using c12))
    (try (have c12b3 : ¬ (t483 = t489) := by simpa using c12))
    clear c12
    (first | rw [c12b0] | (simp only [i64_w, i32_w]; rw [c12b0]) | skip)
    have H' := Aside0.mk H
    clear H
    go_wp2
    go_meet
    case rel => exact ⟨_, (true), (qW14), H', ⟨by first | omega | exact Nat.le_refl _⟩, ⟨(qW2 HO481.out)⟩, ⟨(qW59 HO485.out)⟩, ⟨(qW0)⟩⟩
   ·as_aux_lemma =>
    rw [if_neg c12] at H
    have c12b0 : (t483 != t489) = false := by simpa using c12
    (try (have c12b1 : decide (t483 = t489) = true := by simpa using c12))
    (try (have c12b2 : (t483 == t489) = true := by simpa using c12))
    clear c12
    (first | rw [c12b0] | (simp only [i64_w, i32_w]; rw [c12b0]) | skip)
    replace H := Option.bind_eq_some_iff.mp H; obtain ⟨t490, A130, H⟩ := H
    try dsimp only at H
    have A13 := Aside0.mk A130; clear A130
    by_cases c14 : t490 = true
    ·as_aux_lemma =>
     subst c14; rw [if_pos rfl] at H; replace H := Option.bind_eq_some_iff.mp H; obtain ⟨t491, A150, H⟩ := H
     try dsimp only at H
     have A15 := Aside0.mk A150; clear A150
     have H' := Aside0.mk H
     clear H
     obtain ⟨Ao16, co16, eo16⟩ := Kd.N_slice HO485.out
     subst eo16
     obtain ⟨Ao17, co17, eo17⟩ := Kd.N_slice HO488.out
     subst eo17
     go_wp2_with (first | (go_at_call 8; (with_reducible refine (laws_rTable.calls k _ _ t482 _ _ t486 true _ ?side1 ?side2 ?side3 ?side4 A13.out).mono ?_); (case side1 => exact (qW51 HO485.out)); (case side2 => exact (by exact (Kd.N_reads' HO485.out).2.1)); (case side3 => exact (qW51 HO488.out)); (case side4 => exact (by exact (Kd.N_reads' HO488.out).2.1)); rintro e w' ⟨rfl, ⟨nd, rfl⟩⟩) | (go_at_call 9; (with_reducible refine (impl_IsWay.calls k _ _ t479 t491 _ ?side1 ?side2 A15.out).mono ?_); (case side1 => exact (qW6 HO481.out)); (case side2 => exact (qW41 HO481.out)); rintro e w18 ⟨rfl, hb⟩; replace HO481 := Aside0.mk (Kd.R_below (qW2 HO481.out) hb); replace HO485 := Aside0.mk (Kd.N_below (qW30 HO485.out) hb); replace HO488 := Aside0.mk (Kd.N_below (qW30 HO488.out) hb); replace HB := Aside0.mk (below_step (qW0) hb); clear hb))
     go_meet
     case rel => exact ⟨_, ((t483 != t491)), (qW14), H', ⟨by first | omega | exact Nat.le_refl _⟩, ⟨(qW2 HO481.out)⟩, ⟨(qW59 HO485.out)⟩, ⟨(qW0)⟩⟩
    ·as_aux_lemma =>
     replace c14 := Bool.eq_false_iff.mpr c14
     subst c14
     rw [if_neg (show ¬ (false = true) by decide)] at H
     have H' := Aside0.mk H
     clear H
     obtain ⟨Ao19, co19, eo19⟩ := Kd.N_slice HO485.out
     subst eo19
     obtain ⟨Ao20, co20, eo20⟩ := Kd.N_slice HO488.out
     subst eo20
     go_wp2_with (first | (go_at_call 8; (with_reducible refine (laws_rTable.calls k _ _ t482 _ _ t486 false _ ?side1 ?side2 ?side3 ?side4 A13.out).mono ?_); (case side1 => exact (qW51 HO485.out)); (case side2 => exact (by exact (Kd.N_reads' HO485.out).2.1)); (case side3 => exact (qW51 HO488.out)); (case side4 => exact (by exact (Kd.N_reads' HO488.out).2.1)); rintro e w' ⟨rfl, ⟨nd, rfl⟩⟩))
     go_meet
     case rel => exact ⟨_, (true), (qW14), H', ⟨by first | omega | exact Nat.le_refl _⟩, ⟨(qW2 HO481.out)⟩, ⟨(qW59 HO485.out)⟩, ⟨(qW0)⟩⟩
  case rest =>
   clear HC7
   try clear c1
   try clear p2
   try clear c3
   try clear c4
   try clear c5
   try clear c6
   try clear c7
   try clear c12
   try clear c12b0
   try clear c12b1
   try clear c12b2
   try clear c14
   obtain ⟨kq, x68_6, rfl, HA, HJ6, HO_3, HO_4, HB⟩ := hcut
   cases kq with
   | zero => exact absurd HA.out (by simp [laws_FnWays.j0])
   | succ kj6 =>
    have H := HA.out
    clear HA
    simp only [laws_FnWays.j0] at H
    by_cases c21 : x68_6 = true
    ·as_aux_lemma =>
     subst c21; rw [if_pos rfl] at H; obtain rfl := Option.some.inj H
     go_wp2
     go_ret
     exact ⟨(qW9), (qW0)⟩
    ·as_aux_lemma =>
     replace c21 := Bool.eq_false_iff.mpr c21
     subst c21
     rw [if_neg (show ¬ (false = true) by decide)] at H
     replace H := Option.bind_eq_some_iff.mp H; obtain ⟨⟨t492, t493, t494⟩, A220, H⟩ := H
     try dsimp only at H
     have A22 := Aside0.mk A220; clear A220; replace H := Option.bind_eq_some_iff.mp H; obtain ⟨⟨t495, t496, t497⟩, A230, H⟩ := H
     try dsimp only at H
     have A23 := Aside0.mk A230; clear A230; have HC24 := Aside0.mk H; clear H
     go_upto_region 10 with (first | ((with_reducible refine gate_callee (f := 10) rfl ?_); refine goesL_ (some 71) rfl rfl Tryd.func10 (by kernel_rfl) rfl #[.slice Ao9 t479.length co9] rfl (qW1) ?_; (with_reducible refine (impl_Climb.calls kj6 _ _ t479 t492 t493 t494 _ ?side1 ?side2 A22.out).mono ?_); (case side1 => exact (qW6 HO_3.out)); (case side2 => exact (qW41 HO_3.out)); rintro e w25 ⟨rfl, hb⟩; refine ⟨_, rfl, ?_⟩; replace HO_3 := Aside0.mk (Kd.R_below (qW2 HO_3.out) hb); replace HO_4 := Aside0.mk (Kd.N_below (qW30 HO_4.out) hb); replace HB := Aside0.mk (below_step (qW0) hb); clear hb) | ((with_reducible refine gate_callee (f := 11) rfl ?_); refine goesL_ (some 77) rfl rfl Tryd.func11 (by kernel_rfl) rfl #[.slice Ao9 t479.length co9] rfl (qW1) ?_; (with_reducible refine (spec_Climb.calls kj6 _ _ t479 t495 t496 t497 _ ?side1 ?side2 A23.out).mono ?_); (case side1 => exact (qW6 HO_3.out)); (case side2 => exact (qW41 HO_3.out)); rintro e w26 ⟨rfl, hb⟩; refine ⟨_, rfl, ?_⟩; replace HO_3 := Aside0.mk (Kd.R_below (qW2 HO_3.out) hb); replace HO_4 := Aside0.mk (Kd.N_below (qW30 HO_4.out) hb); replace HB := Aside0.mk (below_step (qW0) hb); clear hb))
     (try simp only [Act.put, List.setIfInBounds_toArray, List.set_cons_zero, List.set_cons_succ])
     go_cut [93] (fun v93 wc => ∃ (kq : Nat) (x93_23 : Bool), v93 = .bool x93_23 ∧ Aside0 (laws_FnWays.j1 kq l0 t479 t482 t483 t492 t493 x93_23 = some r) ∧ Aside0 (kq ≤ kj6) ∧ Aside0 (Kd.R k44 44 wc w.heap.size (fun _ => True) (.slice Ao9 t479.length co9) t479) ∧ Aside0 (Kd.N (Kd.slice 3 (Kd.int .i64)) 35 wc w.heap.size (fun k_ => some k_ ≠ ((.slice Ao9 t479.length co9) : Value).ownBlock) v484 t482) ∧ Aside0 (Below w.heap.size w wc))
     case first =>
      have H := HC24.out
      clear HC24
      by_cases c27 : t492 = t495
      ·as_aux_lemma =>
       rw [if_pos c27] at H
       have c27b0 : (t492 == t495) = true := beq_iff_eq.mpr c27
       have c27b1 : (t492 != t495) = false := bne_eq_false_iff_eq.mpr c27
       clear c27
       (first | rw [c27b0] | (simp only [i64_w, i32_w]; rw [c27b0]) | skip)
       by_cases c28 : t493 = t496
       ·as_aux_lemma =>
        rw [if_pos c28] at H
        have c28b0 : (t493 == t496) = true := beq_iff_eq.mpr c28
        have c28b1 : (t493 != t496) = false := bne_eq_false_iff_eq.mpr c28
        clear c28
        have H' := Aside0.mk H
        clear H
        go_wp2
        go_meet
        case rel => exact ⟨_, ((t494 != t497)), (qW14), H', ⟨by have := HJ6.out; first | omega | exact Nat.le_refl _⟩, ⟨(qW2 HO_3.out)⟩, ⟨(qW30 HO_4.out)⟩, ⟨(qW0)⟩⟩
       ·as_aux_lemma =>
        rw [if_neg c28] at H
        have c28b0 : (t493 == t496) = false := beq_eq_false_iff_ne.mpr c28
        have c28b1 : (t493 != t496) = true := bne_iff_ne.mpr c28
        have H' := Aside0.mk H
        clear H
        go_wp2
        go_meet
        case rel => exact ⟨_, (true), (qW14), H', ⟨by have := HJ6.out; first | omega | exact Nat.le_refl _⟩, ⟨(qW2 HO_3.out)⟩, ⟨(qW30 HO_4.out)⟩, ⟨(qW0)⟩⟩
      ·as_aux_lemma =>
       rw [if_neg c27] at H
       have c27b0 : (t492 == t495) = false := beq_eq_false_iff_ne.mpr c27
       have c27b1 : (t492 != t495) = true := bne_iff_ne.mpr c27
       (first | rw [c27b0] | (simp only [i64_w, i32_w]; rw [c27b0]) | skip)
       have H' := Aside0.mk H
       clear H
       go_wp2
       go_meet
       case rel => exact ⟨_, (true), (qW14), H', ⟨by have := HJ6.out; first | omega | exact Nat.le_refl _⟩, ⟨(qW2 HO_3.out)⟩, ⟨(qW30 HO_4.out)⟩, ⟨(qW0)⟩⟩
     case rest =>
      clear HC24
      try clear c1
      try clear c2
      try clear p2
      try clear c3
      try clear c4
      try clear c5
      try clear c6
      try clear c7
      try clear c10
      try clear c11
      try clear c12
      try clear c12b0
      try clear c12b1
      try clear c12b2
      try clear c14
      try clear c21
      try clear c27
      try clear c27b0
      try clear c27b1
      try clear c28
      try clear c28b0
      try clear c28b1
      try clear p2
      obtain ⟨kq, x93_23, rfl, HA, HJ23, HO_3, HO_4, HB⟩ := hcut
      cases kq with
      | zero => exact absurd HA.out (by simp [laws_FnWays.j1])
      | succ kj23 =>
       have H := HA.out
       clear HA
       simp only [laws_FnWays.j1] at H
       by_cases c29 : x93_23 = true
       ·as_aux_lemma =>
        subst c29; rw [if_pos rfl] at H; obtain rfl := Option.some.inj H
        go_wp2
        go_ret
        exact ⟨(qW9), (qW0)⟩
       ·as_aux_lemma =>
        replace c29 := Bool.eq_false_iff.mpr c29
        subst c29
        rw [if_neg (show ¬ (false = true) by decide)] at H
        replace H := Option.bind_eq_some_iff.mp H; obtain ⟨⟨t498, t499, t500⟩, A300, H⟩ := H
        try dsimp only at H
        have A30 := Aside0.mk A300; clear A300; replace H := Option.bind_eq_some_iff.mp H; obtain ⟨⟨t501, t502, t503⟩, A310, H⟩ := H
        try dsimp only at H
        have A31 := Aside0.mk A310; clear A310; have HC32 := Aside0.mk H; clear H
        go_upto_region 14 with (first | ((with_reducible refine gate_callee (f := 12) rfl ?_); refine goesL_ (some 96) rfl rfl Tryd.func12 (by kernel_rfl) rfl #[.slice Ao9 t479.length co9] rfl (qW1) ?_; (with_reducible refine (impl_RangeOf.calls kj23 _ _ t479 t498 t499 t500 _ ?side1 ?side2 A30.out).mono ?_); (case side1 => exact (qW6 HO_3.out)); (case side2 => exact (qW41 HO_3.out)); rintro e w33 ⟨rfl, hb⟩; refine ⟨_, rfl, ?_⟩; replace HO_3 := Aside0.mk (Kd.R_below (qW2 HO_3.out) hb); replace HO_4 := Aside0.mk (Kd.N_below (qW30 HO_4.out) hb); replace HB := Aside0.mk (below_step (qW0) hb); clear hb) | ((with_reducible refine gate_callee (f := 13) rfl ?_); refine goesL_ (some 102) rfl rfl Tryd.func13 (by kernel_rfl) rfl #[.slice Ao9 t479.length co9] rfl (qW1) ?_; (with_reducible refine (spec_RangeOf.calls kj23 _ _ t479 t501 t502 t503 _ ?side1 ?side2 A31.out).mono ?_); (case side1 => exact (qW6 HO_3.out)); (case side2 => exact (qW41 HO_3.out)); rintro e w34 ⟨rfl, hb⟩; refine ⟨_, rfl, ?_⟩; replace HO_3 := Aside0.mk (Kd.R_below (qW2 HO_3.out) hb); replace HO_4 := Aside0.mk (Kd.N_below (qW30 HO_4.out) hb); replace HB := Aside0.mk (below_step (qW0) hb); clear hb))
        (try simp only [Act.put, List.setIfInBounds_toArray, List.set_cons_zero, List.set_cons_succ])
        go_cut [118] (fun v118 wc => ∃ (kq : Nat) (x118_31 : Bool), v118 = .bool x118_31 ∧ Aside0 (laws_FnWays.j2 kq l0 t479 t482 t483 t492 t493 t498 t499 x118_31 = some r) ∧ Aside0 (kq ≤ kj23) ∧ Aside0 (Kd.R k44 44 wc w.heap.size (fun _ => True) (.slice Ao9 t479.length co9) t479) ∧ Aside0 (Kd.N (Kd.slice 3 (Kd.int .i64)) 35 wc w.heap.size (fun k_ => some k_ ≠ ((.slice Ao9 t479.length co9) : Value).ownBlock) v484 t482) ∧ Aside0 (Below w.heap.size w wc))
        case first =>
         have H := HC32.out
         clear HC32
         by_cases c35 : t498 = t501
         ·as_aux_lemma =>
          rw [if_pos c35] at H
          have c35b0 : (t498 == t501) = true := beq_iff_eq.mpr c35
          have c35b1 : (t498 != t501) = false := bne_eq_false_iff_eq.mpr c35
          clear c35
          (first | rw [c35b0] | (simp only [i64_w, i32_w]; rw [c35b0]) | skip)
          by_cases c36 : t499 = t502
          ·as_aux_lemma =>
           rw [if_pos c36] at H
           have c36b0 : (t499 == t502) = true := beq_iff_eq.mpr c36
           have c36b1 : (t499 != t502) = false := bne_eq_false_iff_eq.mpr c36
           clear c36
           have H' := Aside0.mk H
           clear H
           go_wp2
           go_meet
           case rel => exact ⟨_, ((t500 != t503)), (qW14), H', ⟨by have := HJ6.out; have := HJ23.out; first | omega | exact Nat.le_refl _⟩, ⟨(qW2 HO_3.out)⟩, ⟨(qW30 HO_4.out)⟩, ⟨(qW0)⟩⟩
          ·as_aux_lemma =>
           rw [if_neg c36] at H
           have c36b0 : (t499 == t502) = false := beq_eq_false_iff_ne.mpr c36
           have c36b1 : (t499 != t502) = true := bne_iff_ne.mpr c36
           have H' := Aside0.mk H
           clear H
           go_wp2
           go_meet
           case rel => exact ⟨_, (true), (qW14), H', ⟨by have := HJ6.out; have := HJ23.out; first | omega | exact Nat.le_refl _⟩, ⟨(qW2 HO_3.out)⟩, ⟨(qW30 HO_4.out)⟩, ⟨(qW0)⟩⟩
         ·as_aux_lemma =>
          rw [if_neg c35] at H
          have c35b0 : (t498 == t501) = false := beq_eq_false_iff_ne.mpr c35
          have c35b1 : (t498 != t501) = true := bne_iff_ne.mpr c35
          (first | rw [c35b0] | (simp only [i64_w, i32_w]; rw [c35b0]) | skip)
          have H' := Aside0.mk H
          clear H
          go_wp2
          go_meet
          case rel => exact ⟨_, (true), (qW14), H', ⟨by have := HJ6.out; have := HJ23.out; first | omega | exact Nat.le_refl _⟩, ⟨(qW2 HO_3.out)⟩, ⟨(qW30 HO_4.out)⟩, ⟨(qW0)⟩⟩
        case rest =>
         clear HC32
         try clear c1
         try clear c2
         try clear p2
         try clear c3
         try clear c4
         try clear c5
         try clear c6
         try clear c7
         try clear c10
         try clear c11
         try clear c12
         try clear c12b0
         try clear c12b1
         try clear c12b2
         try clear c13
         try clear c14
         try clear c21
         try clear c27
         try clear c27b0
         try clear c27b1
         try clear c28
         try clear c28b0
         try clear c28b1
         try clear c29
         try clear c35
         try clear c35b0
         try clear c35b1
         try clear c36
         try clear c36b0
         try clear c36b1
         try clear p2
         obtain ⟨kq, x118_31, rfl, HA, HJ31, HO_3, HO_4, HB⟩ := hcut
         cases kq with
         | zero => exact absurd HA.out (by simp [laws_FnWays.j2])
         | succ kj31 =>
          have H := HA.out
          clear HA
          simp only [laws_FnWays.j2] at H
          by_cases c37 : x118_31 = true
          ·as_aux_lemma =>
           subst c37; rw [if_pos rfl] at H; obtain rfl := Option.some.inj H
           go_wp2
           go_ret
           exact ⟨(qW9), (qW0)⟩
          ·as_aux_lemma =>
           replace c37 := Bool.eq_false_iff.mpr c37
           subst c37
           rw [if_neg (show ¬ (false = true) by decide)] at H
           have HC38 := Aside0.mk H; clear H
           go_upto_if 119 with (fail)
           go_cut [] (fun wc => ∃ (kq : Nat), Aside0 (laws_FnWays.j5 kq l0 = some r) ∧ Aside0 (kq ≤ kj31) ∧ Aside0 (Below w.heap.size w wc))
           case first =>
            have H := HC38.out
            clear HC38
            by_cases c39 : t483 = true
            ·as_aux_lemma =>
             subst c39; rw [if_pos rfl] at H; replace H := Option.bind_eq_some_iff.mp H; obtain ⟨⟨t504, t505⟩, A400, H⟩ := H
             try dsimp only at H
             have A40 := Aside0.mk A400; clear A400; replace H := Option.bind_eq_some_iff.mp H; obtain ⟨⟨t508, t509⟩, A410, H⟩ := H
             try dsimp only at H
             have A41 := Aside0.mk A410; clear A410; replace H := Option.bind_eq_some_iff.mp H; obtain ⟨⟨t512, t513, t514⟩, A420, H⟩ := H
             try dsimp only at H
             have A42 := Aside0.mk A420; clear A420
             obtain ⟨ji43, hji43⟩ : ∃ j_ : Int, (wrap64 ((t482.length : Int) - 1)) = j_ := ⟨_, rfl⟩
             replace H : (if 0 ≤ (ji43) then (if (ji43) < (t482.length : Int) then (if t505 = true then (if t509 = true then ((laws_rRuns.f kj31 t508 t479).bind fun t516 => (if t516 = true then (if t514 = true then (if t512 = t493 then (if t513 = t492 then (if 1 < ((rd_L4 t482 (ji43)).length : Int) then (if (rd (rd_L4 t482 (ji43)) 1) = (wrap64 (t492 - t493)) then (laws_FnWays.j3 kj31 l0 t482 t498 t499 (decide ((wrap64 (t499 - t498)) > (wrap64 (t492 + t493))))) else (laws_FnWays.j3 kj31 l0 t482 t498 t499 true)) else (none)) else (laws_FnWays.j3 kj31 l0 t482 t498 t499 true)) else (laws_FnWays.j3 kj31 l0 t482 t498 t499 true)) else (laws_FnWays.j3 kj31 l0 t482 t498 t499 true)) else (laws_FnWays.j3 kj31 l0 t482 t498 t499 true))) else (laws_FnWays.j3 kj31 l0 t482 t498 t499 true)) else (laws_FnWays.j3 kj31 l0 t482 t498 t499 true)) else (none)) else (none)) = some r := by first | (rw [hji43] at H; exact H) | (simp only [hji43] at H ⊢; exact H)
             (try rw [hji43] at A40)
             (try rw [hji43] at A41)
             (try rw [hji43] at A42)
             have hji43w : (IntKind.i64.wrap ((t482.length : Int) - 1)) = ji43 := (i64_w _).trans hji43
             by_cases c44 : 0 ≤ (ji43)
             ·as_aux_lemma =>
              rw [if_pos c44] at H
              have c44b0 : decide (0 ≤ (ji43)) = true := decide_eq_true c44
              clear c44
              (first | rw [c44b0] | (simp only [i64_w, i32_w]; rw [c44b0]) | skip)
              by_cases c45 : (ji43) < (t482.length : Int)
              ·as_aux_lemma =>
               rw [if_pos c45] at H
               have c45b0 : decide ((ji43) < (t482.length : Int)) = true := decide_eq_true c45
               clear c45; have HC46 := Aside0.mk H; clear H
               go_upto_region 21 with (first | ((with_reducible refine gate_callee (f := 14) rfl ?_); refine goesL_ (some 122) rfl rfl Tryd.func14 (by kernel_rfl) rfl #[.slice Ao9 t479.length co9] rfl (qW1) ?_; (with_reducible refine (impl_ReverseWay.calls kj31 _ _ t479 t504 t505 _ ?side1 ?side2 A40.out).mono ?_); (case side1 => exact (qW6 HO_3.out)); (case side2 => exact (qW41 HO_3.out)); rintro e w47 ⟨v506, rfl, ho0, hb⟩; refine ⟨_, rfl, ?_⟩; replace HO_4 := Aside0.mk (Kd.N_elder' (qW30 HO_4.out) (Kd.R_base ho0) hb); have HO507 := Aside0.mk (Kd.R_lower (Kd.R_new' ho0 (Kd.R_lt (qW2 HO_3.out))) (below_size (qW0))); replace HO_3 := Aside0.mk (Kd.R_elder' (qW2 HO_3.out) (Kd.R_base ho0) hb); replace HB := Aside0.mk (below_step (qW0) hb); clear hb ho0; obtain ⟨Ao48, co48, eo48⟩ := Kd.R_slice HO507.out; subst eo48) | ((with_reducible refine gate_callee (f := 14) rfl ?_); refine goesL_ (some 127) rfl rfl Tryd.func14 (by kernel_rfl) rfl #[.slice Ao48 t504.length co48] rfl (qW1) ?_; (with_reducible refine (impl_ReverseWay.calls kj31 _ _ t504 t508 t509 _ ?side1 ?side2 A41.out).mono ?_); (case side1 => exact (qW6 HO507.out)); (case side2 => exact (qW41 HO507.out)); rintro e w49 ⟨v510, rfl, ho0, hb⟩; refine ⟨_, rfl, ?_⟩; replace HO_4 := Aside0.mk (Kd.N_elder' (qW30 HO_4.out) (Kd.R_base ho0) hb); have HO511 := Aside0.mk (Kd.R_lower (Kd.R_new' (Kd.R_new' ho0 (Kd.R_lt (qW2 HO_3.out))) (Kd.R_lt (qW2 HO507.out))) (below_size (qW0))); replace HO_3 := Aside0.mk (Kd.R_elder' (qW2 HO_3.out) (Kd.R_base ho0) hb); replace HO507 := Aside0.mk (Kd.R_elder' (qW2 HO507.out) (Kd.R_base ho0) hb); replace HB := Aside0.mk (below_step (qW0) hb); clear hb ho0) | ((with_reducible refine gate_callee (f := 10) rfl ?_); refine goesL_ (some 132) rfl rfl Tryd.func10 (by kernel_rfl) rfl #[.slice Ao48 t504.length co48] rfl (qW1) ?_; (with_reducible refine (impl_Climb.calls kj31 _ _ t504 t512 t513 t514 _ ?side1 ?side2 A42.out).mono ?_); (case side1 => exact (qW6 HO507.out)); (case side2 => exact (qW41 HO507.out)); rintro e w50 ⟨rfl, hb⟩; refine ⟨_, rfl, ?_⟩; replace HO_3 := Aside0.mk (Kd.R_below (qW2 HO_3.out) hb); replace HO_4 := Aside0.mk (Kd.N_below (qW30 HO_4.out) hb); replace HO507 := Aside0.mk (Kd.R_below (qW2 HO507.out) hb); replace HO511 := Aside0.mk (Kd.R_below (qW2 HO511.out) hb); replace HB := Aside0.mk (below_step (qW0) hb); clear hb; obtain ⟨Ao51, co51, eo51⟩ := Kd.N_slice HO_4.out; subst eo51; have p515 : 0 ≤ ((ji43) : Int) := of_decide_eq_true (qW13); have q515 : (ji43) < (t482.length : Int) := of_decide_eq_true (qW13); obtain ⟨ad515, A515_0, c515_0, e515, hx515_0, hl515_0, hi515_0⟩ := at_L4 (Kd.N_reads' HO_4.out).2.2 (ji43) p515 q515; cases e515; obtain ⟨ce515, hce515, hMe515, hcc515⟩ := Kd.N_get HO_4.out [] (ji43) p515 (by first | exact q515 | exact of_decide_eq_true (qW13) | (have e_ := (Kd.N_reads' HO_4.out).1; omega)); obtain ⟨ua515_0, uc515_0, rfl, ul515_0, ge515_0⟩ := Kd.FK_slice_open hMe515; have hv515_0 := hcc515 0 _ rfl; rw [Nat.add_zero, show ((Kd.slice 3 (Kd.int .i64))).sz = 1 from rfl, Nat.mul_one] at hv515_0; replace hv515_0 := Option.some.inj (hv515_0.symm.trans hx515_0); injection hv515_0 with hva_ hvn_ hvc_; rw [hva_] at ge515_0; rw [hvc_] at ul515_0; have HL515_0 := Aside0.mk (show Kd.V (Kd.int .i64) 3 _ w.heap.size _ _ (rd_L4 t482 (ji43)) from Kd.V_mk ul515_0 ge515_0); clear hva_ hvn_ hvc_ ge515_0 ul515_0; clear hcc515 hce515; have HR515_0 := Aside0.mk hi515_0; have HC515_0 := Aside0.mk hl515_0; clear hi515_0 hl515_0; replace p515 := eq_true p515; replace q515 := eq_true q515))
               (try simp only [Act.put, List.setIfInBounds_toArray, List.set_cons_zero, List.set_cons_succ])
               go_cut [185] (fun v185 wc => ∃ (kq : Nat) (x185_45 : Bool), v185 = .bool x185_45 ∧ Aside0 (laws_FnWays.j3 kq l0 t482 t498 t499 x185_45 = some r) ∧ Aside0 (kq ≤ kj31) ∧ Aside0 (Kd.N (Kd.slice 3 (Kd.int .i64)) 35 wc w.heap.size (fun _ => True) (.slice (some ad515) t482.length co51) t482) ∧ Aside0 (Kd.C (Kd.int .i64) wc A515_0 (rd_L4 t482 (ji43)).length (rd_L4 t482 (ji43))) ∧ Aside0 (Below w.heap.size w wc))
               case first =>
                have H := HC46.out
                clear HC46
                by_cases c52 : t505 = true
                ·as_aux_lemma =>
                 subst c52; rw [if_pos rfl] at H
                 by_cases c53 : t509 = true
                 ·as_aux_lemma =>
                  subst c53; rw [if_pos rfl] at H; replace H := Option.bind_eq_some_iff.mp H; obtain ⟨t516, A540, H⟩ := H
                  try dsimp only at H
                  have A54 := Aside0.mk A540; clear A540
                  by_cases c55 : t516 = true
                  ·as_aux_lemma =>
                   subst c55; rw [if_pos rfl] at H
                   by_cases c56 : t514 = true
                   ·as_aux_lemma =>
                    subst c56; rw [if_pos rfl] at H
                    by_cases c57 : t512 = t493
                    ·as_aux_lemma =>
                     rw [if_pos c57] at H
                     have c57b0 : (t512 == t493) = true := beq_iff_eq.mpr c57
                     have c57b1 : (t512 != t493) = false := bne_eq_false_iff_eq.mpr c57
                     clear c57
                     (first | rw [c57b0] | (simp only [i64_w, i32_w]; rw [c57b0]) | skip)
                     by_cases c58 : t513 = t492
                     ·as_aux_lemma =>
                      rw [if_pos c58] at H
                      have c58b0 : (t513 == t492) = true := beq_iff_eq.mpr c58
                      have c58b1 : (t513 != t492) = false := bne_eq_false_iff_eq.mpr c58
                      clear c58
                      by_cases c59 : 1 < ((rd_L4 t482 (ji43)).length : Int)
                      ·as_aux_lemma =>
                       rw [if_pos c59] at H
                       have c59b0 : decide (1 < ((rd_L4 t482 (ji43)).length : Int)) = true := decide_eq_true c59
                       have c59b1 : decide (1 < (rd_L4 t482 (ji43)).length) = true := decide_eq_true (by omega)
                       clear c59
                       by_cases c60 : (rd (rd_L4 t482 (ji43)) 1) = (wrap64 (t492 - t493))
                       ·as_aux_lemma =>
                        rw [if_pos c60] at H
                        have c60b0 : ((rd (rd_L4 t482 (ji43)) 1) == (wrap64 (t492 - t493))) = true := beq_iff_eq.mpr c60
                        have c60b1 : ((rd (rd_L4 t482 (ji43)) 1) != (wrap64 (t492 - t493))) = false := bne_eq_false_iff_eq.mpr c60
                        clear c60
                        have H' := Aside0.mk H
                        clear H
                        obtain ⟨Ao61, co61, eo61⟩ := Kd.R_slice HO511.out
                        subst eo61
                        go_wp2_with (first | (go_at_call 15; (with_reducible refine (laws_rRuns.calls kj31 _ _ t508 _ _ t479 true _ ?side1 ?side2 ?side3 ?side4 A54.out).mono ?_); (case side1 => exact (qW6 HO511.out)); (case side2 => exact (qW41 HO511.out)); (case side3 => exact (qW6 HO_3.out)); (case side4 => exact (qW41 HO_3.out)); rintro e w' ⟨rfl, ⟨nd, rfl⟩⟩; have p517 : 0 ≤ (1 : Int) := (by omega); have q517 : 1 < ((rd_L4 t482 (ji43)).length : Int) := of_decide_eq_true (qW13); obtain ⟨ad517, e517, hx517_0⟩ := Kd.at_int (qW29) 1 p517 q517; cases e517; (try simp only [show (1 : Int).toNat = 1 from rfl, Nat.reduceMul, Nat.reduceEqDiff, Go.Addr.add, ↓reduceIte] at hx517_0); have qi517 : (1 < (rd_L4 t482 (ji43)).length) = True := eq_true (by omega); (try rw [show ((1 : Int)).toNat = 1 from rfl] at hx517_0); replace p517 := eq_true p517; replace q517 := eq_true q517))
                        go_meet
                        case rel => exact ⟨_, (decide ((wrap64 (t499 - t498)) > (wrap64 (t492 + t493)))), (qW14), H', ⟨by have := HJ6.out; have := HJ23.out; have := HJ31.out; first | omega | exact Nat.le_refl _⟩, ⟨(qW44)⟩, ⟨(qW29)⟩, ⟨(qW0)⟩⟩
                       ·as_aux_lemma =>
                        rw [if_neg c60] at H
                        have c60b0 : ((rd (rd_L4 t482 (ji43)) 1) == (wrap64 (t492 - t493))) = false := beq_eq_false_iff_ne.mpr c60
                        have c60b1 : ((rd (rd_L4 t482 (ji43)) 1) != (wrap64 (t492 - t493))) = true := bne_iff_ne.mpr c60
                        have H' := Aside0.mk H
                        clear H
                        obtain ⟨Ao62, co62, eo62⟩ := Kd.R_slice HO511.out
                        subst eo62
                        go_wp2_with (first | (go_at_call 15; (with_reducible refine (laws_rRuns.calls kj31 _ _ t508 _ _ t479 true _ ?side1 ?side2 ?side3 ?side4 A54.out).mono ?_); (case side1 => exact (qW6 HO511.out)); (case side2 => exact (qW41 HO511.out)); (case side3 => exact (qW6 HO_3.out)); (case side4 => exact (qW41 HO_3.out)); rintro e w' ⟨rfl, ⟨nd, rfl⟩⟩; have p517 : 0 ≤ (1 : Int) := (by omega); have q517 : 1 < ((rd_L4 t482 (ji43)).length : Int) := of_decide_eq_true (qW13); obtain ⟨ad517, e517, hx517_0⟩ := Kd.at_int (qW29) 1 p517 q517; cases e517; (try simp only [show (1 : Int).toNat = 1 from rfl, Nat.reduceMul, Nat.reduceEqDiff, Go.Addr.add, ↓reduceIte] at hx517_0); have qi517 : (1 < (rd_L4 t482 (ji43)).length) = True := eq_true (by omega); (try rw [show ((1 : Int)).toNat = 1 from rfl] at hx517_0); replace p517 := eq_true p517; replace q517 := eq_true q517))
                        go_meet
                        case rel => exact ⟨_, (true), (qW14), H', ⟨by have := HJ6.out; have := HJ23.out; have := HJ31.out; first | omega | exact Nat.le_refl _⟩, ⟨(qW44)⟩, ⟨(qW29)⟩, ⟨(qW0)⟩⟩
                      ·as_aux_lemma =>
                       rw [if_neg c59] at H
                       exact absurd H (by simp)
                     ·as_aux_lemma =>
                      rw [if_neg c58] at H
                      have c58b0 : (t513 == t492) = false := beq_eq_false_iff_ne.mpr c58
                      have c58b1 : (t513 != t492) = true := bne_iff_ne.mpr c58
                      have H' := Aside0.mk H
                      clear H
                      obtain ⟨Ao63, co63, eo63⟩ := Kd.R_slice HO511.out
                      subst eo63
                      go_wp2_with (first | (go_at_call 15; (with_reducible refine (laws_rRuns.calls kj31 _ _ t508 _ _ t479 true _ ?side1 ?side2 ?side3 ?side4 A54.out).mono ?_); (case side1 => exact (qW6 HO511.out)); (case side2 => exact (qW41 HO511.out)); (case side3 => exact (qW6 HO_3.out)); (case side4 => exact (qW41 HO_3.out)); rintro e w' ⟨rfl, ⟨nd, rfl⟩⟩))
                      go_meet
                      case rel => exact ⟨_, (true), (qW14), H', ⟨by have := HJ6.out; have := HJ23.out; have := HJ31.out; first | omega | exact Nat.le_refl _⟩, ⟨(qW44)⟩, ⟨(qW29)⟩, ⟨(qW0)⟩⟩
                    ·as_aux_lemma =>
                     rw [if_neg c57] at H
                     have c57b0 : (t512 == t493) = false := beq_eq_false_iff_ne.mpr c57
                     have c57b1 : (t512 != t493) = true := bne_iff_ne.mpr c57
                     (first | rw [c57b0] | (simp only [i64_w, i32_w]; rw [c57b0]) | skip)
                     have H' := Aside0.mk H
                     clear H
                     obtain ⟨Ao64, co64, eo64⟩ := Kd.R_slice HO511.out
                     subst eo64
                     go_wp2_with (first | (go_at_call 15; (with_reducible refine (laws_rRuns.calls kj31 _ _ t508 _ _ t479 true _ ?side1 ?side2 ?side3 ?side4 A54.out).mono ?_); (case side1 => exact (qW6 HO511.out)); (case side2 => exact (qW41 HO511.out)); (case side3 => exact (qW6 HO_3.out)); (case side4 => exact (qW41 HO_3.out)); rintro e w' ⟨rfl, ⟨nd, rfl⟩⟩))
                     go_meet
                     case rel => exact ⟨_, (true), (qW14), H', ⟨by have := HJ6.out; have := HJ23.out; have := HJ31.out; first | omega | exact Nat.le_refl _⟩, ⟨(qW44)⟩, ⟨(qW29)⟩, ⟨(qW0)⟩⟩
                   ·as_aux_lemma =>
                    replace c56 := Bool.eq_false_iff.mpr c56
                    subst c56
                    rw [if_neg (show ¬ (false = true) by decide)] at H
                    have H' := Aside0.mk H
                    clear H
                    obtain ⟨Ao65, co65, eo65⟩ := Kd.R_slice HO511.out
                    subst eo65
                    go_wp2_with (first | (go_at_call 15; (with_reducible refine (laws_rRuns.calls kj31 _ _ t508 _ _ t479 true _ ?side1 ?side2 ?side3 ?side4 A54.out).mono ?_); (case side1 => exact (qW6 HO511.out)); (case side2 => exact (qW41 HO511.out)); (case side3 => exact (qW6 HO_3.out)); (case side4 => exact (qW41 HO_3.out)); rintro e w' ⟨rfl, ⟨nd, rfl⟩⟩))
                    go_meet
                    case rel => exact ⟨_, (true), (qW14), H', ⟨by have := HJ6.out; have := HJ23.out; have := HJ31.out; first | omega | exact Nat.le_refl _⟩, ⟨(qW44)⟩, ⟨(qW29)⟩, ⟨(qW0)⟩⟩
                  ·as_aux_lemma =>
                   replace c55 := Bool.eq_false_iff.mpr c55
                   subst c55
                   rw [if_neg (show ¬ (false = true) by decide)] at H
                   have H' := Aside0.mk H
                   clear H
                   obtain ⟨Ao66, co66, eo66⟩ := Kd.R_slice HO511.out
                   subst eo66
                   go_wp2_with (first | (go_at_call 15; (with_reducible refine (laws_rRuns.calls kj31 _ _ t508 _ _ t479 false _ ?side1 ?side2 ?side3 ?side4 A54.out).mono ?_); (case side1 => exact (qW6 HO511.out)); (case side2 => exact (qW41 HO511.out)); (case side3 => exact (qW6 HO_3.out)); (case side4 => exact (qW41 HO_3.out)); rintro e w' ⟨rfl, ⟨nd, rfl⟩⟩))
                   go_meet
                   case rel => exact ⟨_, (true), (qW14), H', ⟨by have := HJ6.out; have := HJ23.out; have := HJ31.out; first | omega | exact Nat.le_refl _⟩, ⟨(qW44)⟩, ⟨(qW29)⟩, ⟨(qW0)⟩⟩
                 ·as_aux_lemma =>
                  replace c53 := Bool.eq_false_iff.mpr c53
                  subst c53
                  rw [if_neg (show ¬ (false = true) by decide)] at H
                  have H' := Aside0.mk H
                  clear H
                  go_wp2
                  go_meet
                  case rel => exact ⟨_, (true), (qW14), H', ⟨by have := HJ6.out; have := HJ23.out; have := HJ31.out; first | omega | exact Nat.le_refl _⟩, ⟨(qW44)⟩, ⟨(qW29)⟩, ⟨(qW0)⟩⟩
                ·as_aux_lemma =>
                 replace c52 := Bool.eq_false_iff.mpr c52
                 subst c52
                 rw [if_neg (show ¬ (false = true) by decide)] at H
                 have H' := Aside0.mk H
                 clear H
                 go_wp2
                 go_meet
                 case rel => exact ⟨_, (true), (qW14), H', ⟨by have := HJ6.out; have := HJ23.out; have := HJ31.out; first | omega | exact Nat.le_refl _⟩, ⟨(qW44)⟩, ⟨(qW29)⟩, ⟨(qW0)⟩⟩
               case rest =>
                clear HC46
                try clear c1
                try clear c2
                try clear p2
                try clear c3
                try clear c4
                try clear c5
                try clear p5
                try clear q5
                try clear hx5
                try clear qi5
                try clear c6
                try clear p6
                try clear c7
                try clear c10
                try clear c11
                try clear c12
                try clear c12b0
                try clear c12b1
                try clear c12b2
                try clear c13
                try clear c14
                try clear c21
                try clear c27
                try clear c27b0
                try clear c27b1
                try clear c28
                try clear c28b0
                try clear c28b1
                try clear c29
                try clear c35
                try clear c35b0
                try clear c35b1
                try clear c36
                try clear c36b0
                try clear c36b1
                try clear c37
                try clear c39
                try clear c44
                try clear c44b0
                try clear c45
                try clear c45b0
                try clear c51
                try clear p51
                try clear q51
                try clear hx51
                try clear qi51
                try clear c52
                try clear c53
                try clear c55
                try clear c56
                try clear c57
                try clear c57b0
                try clear c57b1
                try clear c58
                try clear c58b0
                try clear c58b1
                try clear c59
                try clear c59b0
                try clear c59b1
                try clear c60
                try clear c60b0
                try clear c60b1
                try clear p64
                try clear hx515_0
                try clear hx517_0
                try clear p2
                try clear p515
                try clear p517
                try clear q515
                try clear q517
                obtain ⟨kq, x185_45, rfl, HA, HJ45, HO_4, HR515_0, HB⟩ := hcut
                cases kq with
                | zero => exact absurd HA.out (by simp [laws_FnWays.j3])
                | succ kj45 =>
                 have H := HA.out
                 clear HA
                 simp only [laws_FnWays.j3] at H
                 by_cases c67 : x185_45 = true
                 ·as_aux_lemma =>
                  subst c67; rw [if_pos rfl] at H; obtain rfl := Option.some.inj H
                  go_wp2
                  go_ret
                  exact ⟨(qW55), (qW0)⟩
                 ·as_aux_lemma =>
                  replace c67 := Bool.eq_false_iff.mpr c67
                  subst c67
                  rw [if_neg (show ¬ (false = true) by decide)] at H
                  have H' := Aside0.mk H
                  clear H
                  go_wp2
                  go_loopg [28] kj45 (fun kq v28 w' => ∃ (x28_5 : Int), v28 = .int .i64 x28_5 ∧ Aside0 (laws_FnWays.l0 kq l0 t482 t498 t499 x28_5 = some r) ∧ Aside0 (kq ≤ kj45) ∧ Aside0 (Kd.N (Kd.slice 3 (Kd.int .i64)) 35 w' w.heap.size (fun _ => True) (.slice (some ad515) t482.length co51) t482) ∧ Aside0 (Kd.C (Kd.int .i64) w' A515_0 (rd_L4 t482 (ji43)).length (rd_L4 t482 (ji43))) ∧ Aside0 (Below w.heap.size w w'))
                  case atStart => exact ⟨(0), (qW14), H', ⟨Nat.le_refl _⟩, ⟨(qW30 HO_4.out)⟩, ⟨(qW29)⟩, ⟨(qW0)⟩⟩
                  case round =>
                   clear H'
                   try clear c1
                   try clear c2
                   try clear p2
                   try clear c3
                   try clear c4
                   try clear c5
                   try clear p5
                   try clear q5
                   try clear hx5
                   try clear qi5
                   try clear c6
                   try clear p6
                   try clear c7
                   try clear c10
                   try clear c11
                   try clear c12
                   try clear c12b0
                   try clear c12b1
                   try clear c12b2
                   try clear c13
                   try clear c14
                   try clear c21
                   try clear c27
                   try clear c27b0
                   try clear c27b1
                   try clear c28
                   try clear c28b0
                   try clear c28b1
                   try clear c29
                   try clear c35
                   try clear c35b0
                   try clear c35b1
                   try clear c36
                   try clear c36b0
                   try clear c36b1
                   try clear c37
                   try clear c39
                   try clear c44
                   try clear c44b0
                   try clear c45
                   try clear c45b0
                   try clear c51
                   try clear p51
                   try clear q51
                   try clear hx51
                   try clear qi51
                   try clear c52
                   try clear c53
                   try clear c55
                   try clear c56
                   try clear c57
                   try clear c57b0
                   try clear c57b1
                   try clear c58
                   try clear c58b0
                   try clear c58b1
                   try clear c59
                   try clear c59b0
                   try clear c59b1
                   try clear c60
                   try clear c60b0
                   try clear c60b1
                   try clear p64
                   try clear c67
                   try clear hx515_0
                   try clear hx517_0
                   try clear p2
                   try clear p5
                   try clear p51
                   try clear p515
                   try clear p517
                   try clear p6
                   try clear p64
                   try clear q5
                   try clear q51
                   try clear q515
                   try clear q517
                   obtain ⟨x28_5, rfl, HA, HK5, HO_4, HR515_0, HB⟩ := hrel
                   cases gk with
                   | zero => exact absurd HA.out (by simp [laws_FnWays.l0])
                   | succ k5 =>
                    have H := HA.out
                    clear HA
                    simp only [laws_FnWays.l0] at H
                    by_cases c68 : x28_5 < (t482.length : Int)
                    ·as_aux_lemma =>
                     rw [if_pos c68] at H
                     have c68b0 : decide (x28_5 < (t482.length : Int)) = true := decide_eq_true c68
                     clear c68
                     by_cases c69 : 0 ≤ x28_5
                     ·as_aux_lemma =>
                      rw [if_pos c69] at H
                      have c69b0 : decide (0 ≤ x28_5) = true := decide_eq_true c69
                      clear c69
                      by_cases c70 : 1 < ((rd_L4 t482 x28_5).length : Int)
                      ·as_aux_lemma =>
                       rw [if_pos c70] at H
                       have c70b0 : decide (1 < ((rd_L4 t482 x28_5).length : Int)) = true := decide_eq_true c70
                       have c70b1 : decide (1 < (rd_L4 t482 x28_5).length) = true := decide_eq_true (by omega)
                       clear c70
                       by_cases c71 : (rd (rd_L4 t482 x28_5) 1) < t498
                       ·as_aux_lemma =>
                        rw [if_pos c71] at H
                        have c71b0 : decide ((rd (rd_L4 t482 x28_5) 1) < t498) = true := decide_eq_true c71
                        clear c71; obtain rfl := Option.some.inj H
                        have p518 : 0 ≤ (x28_5 : Int) := of_decide_eq_true (qW13)
                        have q518 : x28_5 < (t482.length : Int) := of_decide_eq_true (qW13)
                        obtain ⟨ad518, A518_0, c518_0, e518, hx518_0, hl518_0, hi518_0⟩ := at_L4 (Kd.N_reads' HO_4.out).2.2 x28_5 p518 q518
                        obtain rfl : ad515 = ad518 := (by injection e518)
                        obtain ⟨ce518, hce518, hMe518, hcc518⟩ := Kd.N_get HO_4.out [] x28_5 p518 (qW71)
                        obtain ⟨ua518_0, uc518_0, rfl, ul518_0, ge518_0⟩ := Kd.FK_slice_open hMe518
                        have hv518_0 := hcc518 0 _ rfl
                        rw [Nat.add_zero, show ((Kd.slice 3 (Kd.int .i64))).sz = 1 from rfl, Nat.mul_one] at hv518_0
                        replace hv518_0 := Option.some.inj (hv518_0.symm.trans hx518_0)
                        injection hv518_0 with hva_ hvn_ hvc_
                        rw [hva_] at ge518_0
                        rw [hvc_] at ul518_0
                        have HL518_0 := Aside0.mk (show Kd.V (Kd.int .i64) 3 _ w.heap.size _ _ (rd_L4 t482 x28_5) from Kd.V_mk ul518_0 ge518_0)
                        clear hva_ hvn_ hvc_ ge518_0 ul518_0; clear hcc518 hce518; have HR518_0 := Aside0.mk hi518_0; have HC518_0 := Aside0.mk hl518_0; clear hi518_0 hl518_0
                        replace p518 := eq_true p518
                        replace q518 := eq_true q518
                        have p519 : 0 ≤ (1 : Int) := (by omega)
                        have q519 : 1 < ((rd_L4 t482 x28_5).length : Int) := of_decide_eq_true (qW13)
                        obtain ⟨ad519, e519, hx519_0⟩ := Kd.at_int (qW52) 1 p519 q519
                        cases e519
                        (try simp only [show (1 : Int).toNat = 1 from rfl, Nat.reduceMul, Nat.reduceEqDiff, Go.Addr.add, ↓reduceIte] at hx519_0)
                        have qi519 : (1 < (rd_L4 t482 x28_5).length) = True := eq_true (by omega)
                        (try rw [show ((1 : Int)).toNat = 1 from rfl] at hx519_0)
                        replace p519 := eq_true p519
                        replace q519 := eq_true q519
                        go_wp2
                        go_ret
                        exact ⟨(qW55), (qW0)⟩
                       ·as_aux_lemma =>
                        rw [if_neg c71] at H
                        have c71b0 : decide ((rd (rd_L4 t482 x28_5) 1) < t498) = false := decide_eq_false c71
                        clear c71
                        by_cases c72 : (rd (rd_L4 t482 x28_5) 1) > t499
                        ·as_aux_lemma =>
                         rw [if_pos c72] at H
                         have c72b0 : decide (t499 < (rd (rd_L4 t482 x28_5) 1)) = true := decide_eq_true c72
                         clear c72; obtain rfl := Option.some.inj H
                         have p518 : 0 ≤ (x28_5 : Int) := of_decide_eq_true (qW13)
                         have q518 : x28_5 < (t482.length : Int) := of_decide_eq_true (qW13)
                         obtain ⟨ad518, A518_0, c518_0, e518, hx518_0, hl518_0, hi518_0⟩ := at_L4 (Kd.N_reads' HO_4.out).2.2 x28_5 p518 q518
                         obtain rfl : ad515 = ad518 := (by injection e518)
                         obtain ⟨ce518, hce518, hMe518, hcc518⟩ := Kd.N_get HO_4.out [] x28_5 p518 (qW71)
                         obtain ⟨ua518_0, uc518_0, rfl, ul518_0, ge518_0⟩ := Kd.FK_slice_open hMe518
                         have hv518_0 := hcc518 0 _ rfl
                         rw [Nat.add_zero, show ((Kd.slice 3 (Kd.int .i64))).sz = 1 from rfl, Nat.mul_one] at hv518_0
                         replace hv518_0 := Option.some.inj (hv518_0.symm.trans hx518_0)
                         injection hv518_0 with hva_ hvn_ hvc_
                         rw [hva_] at ge518_0
                         rw [hvc_] at ul518_0
                         have HL518_0 := Aside0.mk (show Kd.V (Kd.int .i64) 3 _ w.heap.size _ _ (rd_L4 t482 x28_5) from Kd.V_mk ul518_0 ge518_0)
                         clear hva_ hvn_ hvc_ ge518_0 ul518_0; clear hcc518 hce518; have HR518_0 := Aside0.mk hi518_0; have HC518_0 := Aside0.mk hl518_0; clear hi518_0 hl518_0
                         replace p518 := eq_true p518
                         replace q518 := eq_true q518
                         have p519 : 0 ≤ (1 : Int) := (by omega)
                         have q519 : 1 < ((rd_L4 t482 x28_5).length : Int) := of_decide_eq_true (qW13)
                         obtain ⟨ad519, e519, hx519_0⟩ := Kd.at_int (qW52) 1 p519 q519
                         cases e519
                         (try simp only [show (1 : Int).toNat = 1 from rfl, Nat.reduceMul, Nat.reduceEqDiff, Go.Addr.add, ↓reduceIte] at hx519_0)
                         have qi519 : (1 < (rd_L4 t482 x28_5).length) = True := eq_true (by omega)
                         (try rw [show ((1 : Int)).toNat = 1 from rfl] at hx519_0)
                         replace p519 := eq_true p519
                         replace q519 := eq_true q519
                         have p520 : 0 ≤ (x28_5 : Int) := of_decide_eq_true (qW13)
                         have q520 : x28_5 < (t482.length : Int) := of_decide_eq_true (qW13)
                         obtain ⟨ad520, A520_0, c520_0, e520, hx520_0, hl520_0, hi520_0⟩ := at_L4 (Kd.N_reads' HO_4.out).2.2 x28_5 p520 q520
                         obtain rfl : ad515 = ad520 := (by injection e520)
                         obtain ⟨ce520, hce520, hMe520, hcc520⟩ := Kd.N_get HO_4.out [] x28_5 p520 (qW77)
                         obtain ⟨ua520_0, uc520_0, rfl, ul520_0, ge520_0⟩ := Kd.FK_slice_open hMe520
                         have hv520_0 := hcc520 0 _ rfl
                         rw [Nat.add_zero, show ((Kd.slice 3 (Kd.int .i64))).sz = 1 from rfl, Nat.mul_one] at hv520_0
                         replace hv520_0 := Option.some.inj (hv520_0.symm.trans hx520_0)
                         injection hv520_0 with hva_ hvn_ hvc_
                         rw [hva_] at ge520_0
                         rw [hvc_] at ul520_0
                         have HL520_0 := Aside0.mk (show Kd.V (Kd.int .i64) 3 _ w.heap.size _ _ (rd_L4 t482 x28_5) from Kd.V_mk ul520_0 ge520_0)
                         clear hva_ hvn_ hvc_ ge520_0 ul520_0; clear hcc520 hce520; have HR520_0 := Aside0.mk hi520_0; have HC520_0 := Aside0.mk hl520_0; clear hi520_0 hl520_0
                         replace p520 := eq_true p520
                         replace q520 := eq_true q520
                         have ea_ := Option.some.inj (hx518_0.symm.trans hx520_0)
                         injection ea_ with ea_ en_ ec_
                         subst ea_; subst ec_; clear en_
                         have p521 : 0 ≤ (1 : Int) := (by omega)
                         have q521 : 1 < ((rd_L4 t482 x28_5).length : Int) := of_decide_eq_true (qW13)
                         obtain ⟨ad521, e521, hx521_0⟩ := Kd.at_int (qW63) 1 p521 q521
                         cases e521
                         (try simp only [show (1 : Int).toNat = 1 from rfl, Nat.reduceMul, Nat.reduceEqDiff, Go.Addr.add, ↓reduceIte] at hx521_0)
                         have qi521 : (1 < (rd_L4 t482 x28_5).length) = True := eq_true (by omega)
                         (try rw [show ((1 : Int)).toNat = 1 from rfl] at hx521_0)
                         replace p521 := eq_true p521
                         replace q521 := eq_true q521
                         go_wp2
                         go_ret
                         exact ⟨(qW55), (qW0)⟩
                        ·as_aux_lemma =>
                         rw [if_neg c72] at H
                         have c72b0 : decide (t499 < (rd (rd_L4 t482 x28_5) 1)) = false := decide_eq_false c72
                         clear c72
                         have H' := Aside0.mk H
                         clear H
                         have p518 : 0 ≤ (x28_5 : Int) := of_decide_eq_true (qW13)
                         have q518 : x28_5 < (t482.length : Int) := of_decide_eq_true (qW13)
                         obtain ⟨ad518, A518_0, c518_0, e518, hx518_0, hl518_0, hi518_0⟩ := at_L4 (Kd.N_reads' HO_4.out).2.2 x28_5 p518 q518
                         obtain rfl : ad515 = ad518 := (by injection e518)
                         obtain ⟨ce518, hce518, hMe518, hcc518⟩ := Kd.N_get HO_4.out [] x28_5 p518 (qW71)
                         obtain ⟨ua518_0, uc518_0, rfl, ul518_0, ge518_0⟩ := Kd.FK_slice_open hMe518
                         have hv518_0 := hcc518 0 _ rfl
                         rw [Nat.add_zero, show ((Kd.slice 3 (Kd.int .i64))).sz = 1 from rfl, Nat.mul_one] at hv518_0
                         replace hv518_0 := Option.some.inj (hv518_0.symm.trans hx518_0)
                         injection hv518_0 with hva_ hvn_ hvc_
                         rw [hva_] at ge518_0
                         rw [hvc_] at ul518_0
                         have HL518_0 := Aside0.mk (show Kd.V (Kd.int .i64) 3 _ w.heap.size _ _ (rd_L4 t482 x28_5) from Kd.V_mk ul518_0 ge518_0)
                         clear hva_ hvn_ hvc_ ge518_0 ul518_0; clear hcc518 hce518; have HR518_0 := Aside0.mk hi518_0; have HC518_0 := Aside0.mk hl518_0; clear hi518_0 hl518_0
                         replace p518 := eq_true p518
                         replace q518 := eq_true q518
                         have p519 : 0 ≤ (1 : Int) := (by omega)
                         have q519 : 1 < ((rd_L4 t482 x28_5).length : Int) := of_decide_eq_true (qW13)
                         obtain ⟨ad519, e519, hx519_0⟩ := Kd.at_int (qW52) 1 p519 q519
                         cases e519
                         (try simp only [show (1 : Int).toNat = 1 from rfl, Nat.reduceMul, Nat.reduceEqDiff, Go.Addr.add, ↓reduceIte] at hx519_0)
                         have qi519 : (1 < (rd_L4 t482 x28_5).length) = True := eq_true (by omega)
                         (try rw [show ((1 : Int)).toNat = 1 from rfl] at hx519_0)
                         replace p519 := eq_true p519
                         replace q519 := eq_true q519
                         have p520 : 0 ≤ (x28_5 : Int) := of_decide_eq_true (qW13)
                         have q520 : x28_5 < (t482.length : Int) := of_decide_eq_true (qW13)
                         obtain ⟨ad520, A520_0, c520_0, e520, hx520_0, hl520_0, hi520_0⟩ := at_L4 (Kd.N_reads' HO_4.out).2.2 x28_5 p520 q520
                         obtain rfl : ad515 = ad520 := (by injection e520)
                         obtain ⟨ce520, hce520, hMe520, hcc520⟩ := Kd.N_get HO_4.out [] x28_5 p520 (qW77)
                         obtain ⟨ua520_0, uc520_0, rfl, ul520_0, ge520_0⟩ := Kd.FK_slice_open hMe520
                         have hv520_0 := hcc520 0 _ rfl
                         rw [Nat.add_zero, show ((Kd.slice 3 (Kd.int .i64))).sz = 1 from rfl, Nat.mul_one] at hv520_0
                         replace hv520_0 := Option.some.inj (hv520_0.symm.trans hx520_0)
                         injection hv520_0 with hva_ hvn_ hvc_
                         rw [hva_] at ge520_0
                         rw [hvc_] at ul520_0
                         have HL520_0 := Aside0.mk (show Kd.V (Kd.int .i64) 3 _ w.heap.size _ _ (rd_L4 t482 x28_5) from Kd.V_mk ul520_0 ge520_0)
                         clear hva_ hvn_ hvc_ ge520_0 ul520_0; clear hcc520 hce520; have HR520_0 := Aside0.mk hi520_0; have HC520_0 := Aside0.mk hl520_0; clear hi520_0 hl520_0
                         replace p520 := eq_true p520
                         replace q520 := eq_true q520
                         have ea_ := Option.some.inj (hx518_0.symm.trans hx520_0)
                         injection ea_ with ea_ en_ ec_
                         subst ea_; subst ec_; clear en_
                         have p521 : 0 ≤ (1 : Int) := (by omega)
                         have q521 : 1 < ((rd_L4 t482 x28_5).length : Int) := of_decide_eq_true (qW13)
                         obtain ⟨ad521, e521, hx521_0⟩ := Kd.at_int (qW63) 1 p521 q521
                         cases e521
                         (try simp only [show (1 : Int).toNat = 1 from rfl, Nat.reduceMul, Nat.reduceEqDiff, Go.Addr.add, ↓reduceIte] at hx521_0)
                         have qi521 : (1 < (rd_L4 t482 x28_5).length) = True := eq_true (by omega)
                         (try rw [show ((1 : Int)).toNat = 1 from rfl] at hx521_0)
                         replace p521 := eq_true p521
                         replace q521 := eq_true q521
                         go_wp2
                         go_roundg k5
                         case measure => have := HJ6.out; have := HJ23.out; have := HJ31.out; have := HJ45.out; have := HK5.out; omega
                         case rel => exact ⟨(wrap64 (x28_5 + 1)), (qW14), H', ⟨by have := HJ6.out; have := HJ23.out; have := HJ31.out; have := HJ45.out; have := HK5.out; omega⟩, ⟨(qW30 HO_4.out)⟩, ⟨(qW29)⟩, ⟨(qW0)⟩⟩
                      ·as_aux_lemma =>
                       rw [if_neg c70] at H
                       exact absurd H (by simp)
                     ·as_aux_lemma =>
                      rw [if_neg c69] at H
                      exact absurd H (by simp)
                    ·as_aux_lemma =>
                     rw [if_neg c68] at H
                     have c68b0 : decide (x28_5 < (t482.length : Int)) = false := decide_eq_false c68
                     clear c68
                     have H' := Aside0.mk H
                     clear H
                     go_wp2
                     go_meet
                     case rel => exact ⟨_, H', ⟨by have := HJ6.out; have := HJ23.out; have := HJ31.out; have := HJ45.out; have := HK5.out; first | omega | exact Nat.le_refl _⟩, ⟨(qW0)⟩⟩
              ·as_aux_lemma =>
               rw [if_neg c45] at H
               exact absurd H (by simp)
             ·as_aux_lemma =>
              rw [if_neg c44] at H
              exact absurd H (by simp)
            ·as_aux_lemma =>
             replace c39 := Bool.eq_false_iff.mpr c39
             subst c39
             rw [if_neg (show ¬ (false = true) by decide)] at H
             have H' := Aside0.mk H
             clear H
             go_wp2
             go_meet
             case rel => exact ⟨_, H', ⟨by have := HJ6.out; have := HJ23.out; have := HJ31.out; first | omega | exact Nat.le_refl _⟩, ⟨(qW0)⟩⟩
           case rest =>
            clear HC38
            try clear c1
            try clear c2
            try clear p2
            try clear c3
            try clear c4
            try clear c5
            try clear p5
            try clear q5
            try clear hx5
            try clear qi5
            try clear c6
            try clear p6
            try clear c7
            try clear c10
            try clear c11
            try clear c12
            try clear c12b0
            try clear c12b1
            try clear c12b2
            try clear c13
            try clear c14
            try clear c21
            try clear c27
            try clear c27b0
            try clear c27b1
            try clear c28
            try clear c28b0
            try clear c28b1
            try clear c29
            try clear c35
            try clear c35b0
            try clear c35b1
            try clear c36
            try clear c36b0
            try clear c36b1
            try clear c37
            try clear c39
            try clear c44
            try clear c44b0
            try clear c45
            try clear c45b0
            try clear c51
            try clear p51
            try clear q51
            try clear hx51
            try clear qi51
            try clear c52
            try clear p52
            try clear q52
            try clear hx52
            try clear qi52
            try clear c53
            try clear c55
            try clear c56
            try clear c57
            try clear c57b0
            try clear c57b1
            try clear c58
            try clear c58b0
            try clear c58b1
            try clear c59
            try clear c59b0
            try clear c59b1
            try clear c60
            try clear c60b0
            try clear c60b1
            try clear p64
            try clear c67
            try clear c68
            try clear c68b0
            try clear c69
            try clear c69b0
            try clear c70
            try clear c70b0
            try clear c70b1
            try clear c71
            try clear c71b0
            try clear c72
            try clear c72b0
            try clear hx515_0
            try clear hx517_0
            try clear hx518_0
            try clear hx519_0
            try clear hx520_0
            try clear hx521_0
            try clear p2
            try clear p5
            try clear p51
            try clear p515
            try clear p517
            try clear p518
            try clear p519
            try clear p520
            try clear p521
            try clear p6
            try clear p64
            try clear q5
            try clear q51
            try clear q515
            try clear q517
            try clear q518
            try clear q519
            try clear q520
            try clear q521
            obtain ⟨kq, HA, HJ37, HB⟩ := hcut
            cases kq with
            | zero => exact absurd HA.out (by simp [laws_FnWays.j5])
            | succ kj37 =>
             have H := HA.out
             clear HA
             simp only [laws_FnWays.j5] at H
             replace H := Option.bind_eq_some_iff.mp H; obtain ⟨⟨t522, t523⟩, A730, H⟩ := H
             try dsimp only at H
             have A73 := Aside0.mk A730; clear A730; replace H := Option.bind_eq_some_iff.mp H; obtain ⟨⟨t528, t529⟩, A740, H⟩ := H
             try dsimp only at H
             have A74 := Aside0.mk A740; clear A740; replace H := Option.bind_eq_some_iff.mp H; obtain ⟨⟨t532, t533⟩, A750, H⟩ := H
             try dsimp only at H
             have A75 := Aside0.mk A750; clear A750; have HC76 := Aside0.mk H; clear H
             go_upto_region 31 with (first | ((with_reducible refine gate_callee (f := 16) rfl ?_); refine goesL_ (some 212) rfl rfl Tryd.func16 (by kernel_rfl) rfl #[.slice A0 l0.length c0] rfl (qW1) ?_; (with_reducible refine (spec_DrawJoinWays.calls kj37 _ _ l0 t522 t523 _ ?side1 ?side2 A73.out).mono ?_); (case side1 => exact (qW25 HR0.out)); (case side2 => exact HC0.out); rintro e w77 ⟨v524, v526, rfl, ho0, ho1, hb⟩; refine ⟨_, rfl, ?_⟩; have HO525 := Aside0.mk (Kd.R_lower ho0 (below_size (qW0))); have HO527 := Aside0.mk (Kd.R_lower ho1 (below_size (qW0))); replace HB := Aside0.mk (below_step (qW0) hb); clear hb ho0 ho1; obtain ⟨Ao78, co78, eo78⟩ := Kd.R_slice HO525.out; subst eo78; obtain ⟨Ao79, co79, eo79⟩ := Kd.R_slice HO527.out; subst eo79) | ((with_reducible refine gate_callee (f := 17) rfl ?_); refine goesL_ (some 218) rfl rfl Tryd.func17 (by kernel_rfl) rfl #[.slice Ao78 t522.length co78, .slice Ao79 t523.length co79] rfl (qW1) ?_; (with_reducible refine (impl_JoinWays.calls kj37 _ _ t522 _ _ t523 t528 t529 _ ?side1 ?side2 ?side3 ?side4 A74.out).mono ?_); (case side1 => exact (qW6 HO525.out)); (case side2 => exact (qW41 HO525.out)); (case side3 => exact (qW6 HO527.out)); (case side4 => exact (qW41 HO527.out)); rintro e w80 ⟨v530, rfl, ho0, hb⟩; refine ⟨_, rfl, ?_⟩; have HO531 := Aside0.mk (Kd.R_lower (Kd.R_new' (Kd.R_new' ho0 (Kd.R_lt (qW2 HO525.out))) (Kd.R_lt (qW2 HO527.out))) (below_size (qW0))); replace HO525 := Aside0.mk (Kd.R_elder' (qW2 HO525.out) (Kd.R_base ho0) hb); replace HO527 := Aside0.mk (Kd.R_elder' (qW2 HO527.out) (Kd.R_base ho0) hb); replace HB := Aside0.mk (below_step (qW0) hb); clear hb ho0) | ((with_reducible refine gate_callee (f := 18) rfl ?_); refine goesL_ (some 224) rfl rfl Tryd.func18 (by kernel_rfl) rfl #[.slice Ao78 t522.length co78, .slice Ao79 t523.length co79] rfl (qW1) ?_; (with_reducible refine (spec_JoinWays.calls kj37 _ _ t522 _ _ t523 t532 t533 _ ?side1 ?side2 ?side3 ?side4 A75.out).mono ?_); (case side1 => exact (qW6 HO525.out)); (case side2 => exact (qW41 HO525.out)); (case side3 => exact (qW6 HO527.out)); (case side4 => exact (qW41 HO527.out)); rintro e w81 ⟨v534, rfl, ho0, hb⟩; refine ⟨_, rfl, ?_⟩; have HO535 := Aside0.mk (Kd.R_lower (Kd.R_new' (Kd.R_new' (Kd.R_new' ho0 (Kd.R_lt (qW2 HO525.out))) (Kd.R_lt (qW2 HO527.out))) (Kd.R_lt (qW2 HO531.out))) (below_size (qW0))); replace HO525 := Aside0.mk (Kd.R_elder' (qW2 HO525.out) (Kd.R_base ho0) hb); replace HO527 := Aside0.mk (Kd.R_elder' (qW2 HO527.out) (Kd.R_base ho0) hb); replace HO531 := Aside0.mk (Kd.R_elder' (qW2 HO531.out) (Kd.R_base ho0) hb); replace HB := Aside0.mk (below_step (qW0) hb); clear hb ho0))
             (try simp only [Act.put, List.setIfInBounds_toArray, List.set_cons_zero, List.set_cons_succ])
             go_cut [235] (fun v235 wc => ∃ (kq : Nat) (x235_75 : Bool), v235 = .bool x235_75 ∧ Aside0 (laws_FnWays.j6 kq l0 x235_75 = some r) ∧ Aside0 (kq ≤ kj37) ∧ Aside0 (Below w.heap.size w wc))
             case first =>
              have H := HC76.out
              clear HC76
              by_cases c82 : (t529 != t533) = true
              ·as_aux_lemma =>
               rw [if_pos c82] at H
               have c82b0 : (t529 != t533) = true := c82
               (try (have c82b1 : decide (t529 = t533) = false := by simpa using c82))
               (try (have c82b2 : (t529 == t533) = false := by simpa using c82))
               (try (have c82b3 : ¬ (t529 = t533) := by simpa using c82))
               clear c82
               (first | rw [c82b0] | (simp only [i64_w, i32_w]; rw [c82b0]) | skip)
               have H' := Aside0.mk H
               clear H
               go_wp2
               go_meet
               case rel => exact ⟨_, (true), (qW14), H', ⟨by have := HJ6.out; have := HJ23.out; have := HJ31.out; have := HJ37.out; first | omega | exact Nat.le_refl _⟩, ⟨(qW0)⟩⟩
              ·as_aux_lemma =>
               rw [if_neg c82] at H
               have c82b0 : (t529 != t533) = false := by simpa using c82
               (try (have c82b1 : decide (t529 = t533) = true := by simpa using c82))
               (try (have c82b2 : (t529 == t533) = true := by simpa using c82))
               clear c82
               (first | rw [c82b0] | (simp only [i64_w, i32_w]; rw [c82b0]) | skip)
               replace H := Option.bind_eq_some_iff.mp H; obtain ⟨t536, A830, H⟩ := H
               replace H : (laws_FnWays.j6 kj37 l0 (!t536)) = some r := H
               have A83 := Aside0.mk A830; clear A830
               have H' := Aside0.mk H
               clear H
               obtain ⟨Ao84, co84, eo84⟩ := Kd.R_slice HO531.out
               subst eo84
               obtain ⟨Ao85, co85, eo85⟩ := Kd.R_slice HO535.out
               subst eo85
               go_wp2_with (first | (go_at_call 15; (with_reducible refine (laws_rRuns.calls kj37 _ _ t528 _ _ t532 t536 _ ?side1 ?side2 ?side3 ?side4 A83.out).mono ?_); (case side1 => exact (qW6 HO531.out)); (case side2 => exact (qW41 HO531.out)); (case side3 => exact (qW6 HO535.out)); (case side4 => exact (qW41 HO535.out)); rintro e w' ⟨rfl, ⟨nd, rfl⟩⟩))
               go_meet
               case rel => exact ⟨_, (!t536), (qW14), H', ⟨by have := HJ6.out; have := HJ23.out; have := HJ31.out; have := HJ37.out; first | omega | exact Nat.le_refl _⟩, ⟨(qW0)⟩⟩
             case rest =>
              clear HC76
              try clear c1
              try clear c2
              try clear p2
              try clear c3
              try clear c4
              try clear c5
              try clear p5
              try clear q5
              try clear hx5
              try clear qi5
              try clear c6
              try clear p6
              try clear c7
              try clear c8
              try clear c10
              try clear c11
              try clear c12
              try clear c12b0
              try clear c12b1
              try clear c12b2
              try clear c13
              try clear c14
              try clear c16
              try clear c17
              try clear c18
              try clear c21
              try clear c27
              try clear c27b0
              try clear c27b1
              try clear c28
              try clear c28b0
              try clear c28b1
              try clear c29
              try clear c35
              try clear c35b0
              try clear c35b1
              try clear c36
              try clear c36b0
              try clear c36b1
              try clear c37
              try clear c39
              try clear c44
              try clear c44b0
              try clear c45
              try clear c45b0
              try clear c51
              try clear p51
              try clear q51
              try clear hx51
              try clear qi51
              try clear c52
              try clear p52
              try clear q52
              try clear hx52
              try clear qi52
              try clear c53
              try clear c55
              try clear c56
              try clear c57
              try clear c57b0
              try clear c57b1
              try clear c58
              try clear c58b0
              try clear c58b1
              try clear c59
              try clear c59b0
              try clear c59b1
              try clear c60
              try clear c60b0
              try clear c60b1
              try clear p64
              try clear c67
              try clear c68
              try clear c68b0
              try clear c69
              try clear c69b0
              try clear c70
              try clear c70b0
              try clear c70b1
              try clear c71
              try clear c71b0
              try clear c72
              try clear c72b0
              try clear c82
              try clear c82b0
              try clear c82b1
              try clear c82b2
              try clear hx515_0
              try clear hx517_0
              try clear hx518_0
              try clear hx519_0
              try clear hx520_0
              try clear hx521_0
              try clear p2
              try clear p5
              try clear p51
              try clear p515
              try clear p517
              try clear p518
              try clear p519
              try clear p52
              try clear p520
              try clear p521
              try clear p6
              try clear p64
              try clear q5
              try clear q51
              try clear q515
              try clear q517
              try clear q518
              try clear q519
              try clear q52
              try clear q520
              try clear q521
              obtain ⟨kq, x235_75, rfl, HA, HJ75, HB⟩ := hcut
              cases kq with
              | zero => exact absurd HA.out (by simp [laws_FnWays.j6])
              | succ kj75 =>
               have H := HA.out
               clear HA
               simp only [laws_FnWays.j6] at H
               by_cases c86 : x235_75 = true
               ·as_aux_lemma =>
                subst c86; rw [if_pos rfl] at H; obtain rfl := Option.some.inj H
                go_wp2
                go_ret
                exact ⟨(qW9), (qW0)⟩
               ·as_aux_lemma =>
                replace c86 := Bool.eq_false_iff.mpr c86
                subst c86
                rw [if_neg (show ¬ (false = true) by decide)] at H
                replace H := Option.bind_eq_some_iff.mp H; obtain ⟨t537, A870, H⟩ := H
                try dsimp only at H
                have A87 := Aside0.mk A870; clear A870; replace H := Option.bind_eq_some_iff.mp H; obtain ⟨⟨t540, t541⟩, A880, H⟩ := H
                try dsimp only at H
                have A88 := Aside0.mk A880; clear A880; replace H := Option.bind_eq_some_iff.mp H; obtain ⟨⟨t544, t545⟩, A890, H⟩ := H
                try dsimp only at H
                have A89 := Aside0.mk A890; clear A890
                by_cases c90 : (t541 == t545) = true
                ·as_aux_lemma =>
                 rw [if_pos c90] at H
                 have c90b0 : (t541 == t545) = true := c90
                 (try (have c90b1 : decide (t541 = t545) = true := by simpa using c90))
                 (try (have c90b2 : (t541 == t545) = true := by simpa using c90))
                 clear c90; replace H := Option.bind_eq_some_iff.mp H; obtain ⟨t548, A910, H⟩ := H
                 try dsimp only at H
                 have A91 := Aside0.mk A910; clear A910
                 by_cases c92 : t548 = true
                 ·as_aux_lemma =>
                  subst c92; rw [if_pos rfl] at H
                  by_cases c93 : t541 = true
                  ·as_aux_lemma =>
                   subst c93; rw [if_pos rfl] at H; obtain rfl := Option.some.inj H
                   go_wp2_with (first | ((with_reducible refine gate_callee (f := 19) rfl ?_); refine goesL_ (some 237) rfl rfl Tryd.func19 (by kernel_rfl) rfl #[.slice A0 l0.length c0] rfl (qW1) ?_; (with_reducible refine (spec_DrawWayOfLegs.calls kj75 _ _ l0 t537 _ ?side1 ?side2 A87.out).mono ?_); (case side1 => exact (qW25 HR0.out)); (case side2 => exact HC0.out); rintro e w94 ⟨v538, rfl, ho0, hb⟩; refine ⟨_, rfl, ?_⟩; have HO539 := Aside0.mk (Kd.R_lower ho0 (below_size (qW0))); replace HB := Aside0.mk (below_step (qW0) hb); clear hb ho0; obtain ⟨Ao95, co95, eo95⟩ := Kd.R_slice HO539.out; subst eo95) | ((with_reducible refine gate_callee (f := 20) rfl ?_); refine goesL_ (some 240) rfl rfl Tryd.func20 (by kernel_rfl) rfl #[.slice Ao95 t537.length co95] rfl (qW1) ?_; (with_reducible refine (impl_WayOfLegs.calls (hsn := (qW70)) kj75 _ _ t537 t540 true _ ?side1 ?side2 A88.out).mono ?_); (case side1 => exact (qW6 HO539.out)); (case side2 => exact (qW41 HO539.out)); rintro e w96 ⟨v542, rfl, ho0, hb⟩; refine ⟨_, rfl, ?_⟩; replace HO539 := Aside0.mk (Kd.R_below (qW2 HO539.out) hb); have HO543 := Aside0.mk (Kd.R_lower ho0 (below_size (qW0))); replace HB := Aside0.mk (below_step (qW0) hb); clear hb ho0) | ((with_reducible refine gate_callee (f := 21) rfl ?_); refine goesL_ (some 245) rfl rfl Tryd.func21 (by kernel_rfl) rfl #[.slice Ao95 t537.length co95] rfl (qW1) ?_; (with_reducible refine (spec_WayOfLegs.calls kj75 _ _ t537 t544 t545 _ ?side1 ?side2 A89.out).mono ?_); (case side1 => exact (qW6 HO539.out)); (case side2 => exact (qW41 HO539.out)); rintro e w97 ⟨v546, rfl, ho0, hb⟩; refine ⟨_, rfl, ?_⟩; replace HO539 := Aside0.mk (Kd.R_below (qW2 HO539.out) hb); have HO547 := Aside0.mk (Kd.R_lower (Kd.R_new' ho0 (Kd.R_lt (qW2 HO543.out))) (below_size (qW0))); replace HO543 := Aside0.mk (Kd.R_elder' (qW2 HO543.out) (Kd.R_base ho0) hb); replace HB := Aside0.mk (below_step (qW0) hb); clear hb ho0; obtain ⟨Ao98, co98, eo98⟩ := Kd.R_slice HO543.out; subst eo98; obtain ⟨Ao99, co99, eo99⟩ := Kd.R_slice HO547.out; subst eo99) | (go_at_call 15; (with_reducible refine (laws_rRuns.calls kj75 _ _ t540 _ _ t544 true _ ?side1 ?side2 ?side3 ?side4 A91.out).mono ?_); (case side1 => exact (qW6 HO543.out)); (case side2 => exact (qW41 HO543.out)); (case side3 => exact (qW6 HO547.out)); (case side4 => exact (qW41 HO547.out)); rintro e w' ⟨rfl, ⟨nd, rfl⟩⟩))
                   go_ret
                   exact ⟨(qW9), (qW0)⟩
                  ·as_aux_lemma =>
                   replace c93 := Bool.eq_false_iff.mpr c93
                   subst c93
                   rw [if_neg (show ¬ (false = true) by decide)] at H
                   obtain rfl := Option.some.inj H
                   go_wp2_with (first | ((with_reducible refine gate_callee (f := 19) rfl ?_); refine goesL_ (some 237) rfl rfl Tryd.func19 (by kernel_rfl) rfl #[.slice A0 l0.length c0] rfl (qW1) ?_; (with_reducible refine (spec_DrawWayOfLegs.calls kj75 _ _ l0 t537 _ ?side1 ?side2 A87.out).mono ?_); (case side1 => exact (qW25 HR0.out)); (case side2 => exact HC0.out); rintro e w100 ⟨v538, rfl, ho0, hb⟩; refine ⟨_, rfl, ?_⟩; have HO539 := Aside0.mk (Kd.R_lower ho0 (below_size (qW0))); replace HB := Aside0.mk (below_step (qW0) hb); clear hb ho0; obtain ⟨Ao101, co101, eo101⟩ := Kd.R_slice HO539.out; subst eo101) | ((with_reducible refine gate_callee (f := 20) rfl ?_); refine goesL_ (some 240) rfl rfl Tryd.func20 (by kernel_rfl) rfl #[.slice Ao101 t537.length co101] rfl (qW1) ?_; (with_reducible refine (impl_WayOfLegs.calls (hsn := (qW70)) kj75 _ _ t537 t540 false _ ?side1 ?side2 A88.out).mono ?_); (case side1 => exact (qW6 HO539.out)); (case side2 => exact (qW41 HO539.out)); rintro e w102 ⟨v542, rfl, ho0, hb⟩; refine ⟨_, rfl, ?_⟩; replace HO539 := Aside0.mk (Kd.R_below (qW2 HO539.out) hb); have HO543 := Aside0.mk (Kd.R_lower ho0 (below_size (qW0))); replace HB := Aside0.mk (below_step (qW0) hb); clear hb ho0) | ((with_reducible refine gate_callee (f := 21) rfl ?_); refine goesL_ (some 245) rfl rfl Tryd.func21 (by kernel_rfl) rfl #[.slice Ao101 t537.length co101] rfl (qW1) ?_; (with_reducible refine (spec_WayOfLegs.calls kj75 _ _ t537 t544 t545 _ ?side1 ?side2 A89.out).mono ?_); (case side1 => exact (qW6 HO539.out)); (case side2 => exact (qW41 HO539.out)); rintro e w103 ⟨v546, rfl, ho0, hb⟩; refine ⟨_, rfl, ?_⟩; replace HO539 := Aside0.mk (Kd.R_below (qW2 HO539.out) hb); have HO547 := Aside0.mk (Kd.R_lower (Kd.R_new' ho0 (Kd.R_lt (qW2 HO543.out))) (below_size (qW0))); replace HO543 := Aside0.mk (Kd.R_elder' (qW2 HO543.out) (Kd.R_base ho0) hb); replace HB := Aside0.mk (below_step (qW0) hb); clear hb ho0; obtain ⟨Ao104, co104, eo104⟩ := Kd.R_slice HO543.out; subst eo104; obtain ⟨Ao105, co105, eo105⟩ := Kd.R_slice HO547.out; subst eo105) | (go_at_call 15; (with_reducible refine (laws_rRuns.calls kj75 _ _ t540 _ _ t544 true _ ?side1 ?side2 ?side3 ?side4 A91.out).mono ?_); (case side1 => exact (qW6 HO543.out)); (case side2 => exact (qW41 HO543.out)); (case side3 => exact (qW6 HO547.out)); (case side4 => exact (qW41 HO547.out)); rintro e w' ⟨rfl, ⟨nd, rfl⟩⟩))
                   go_ret
                   exact ⟨(qW9), (qW0)⟩
                 ·as_aux_lemma =>
                  replace c92 := Bool.eq_false_iff.mpr c92
                  subst c92
                  rw [if_neg (show ¬ (false = true) by decide)] at H
                  obtain rfl := Option.some.inj H
                  go_wp2_with (first | ((with_reducible refine gate_callee (f := 19) rfl ?_); refine goesL_ (some 237) rfl rfl Tryd.func19 (by kernel_rfl) rfl #[.slice A0 l0.length c0] rfl (qW1) ?_; (with_reducible refine (spec_DrawWayOfLegs.calls kj75 _ _ l0 t537 _ ?side1 ?side2 A87.out).mono ?_); (case side1 => exact (qW25 HR0.out)); (case side2 => exact HC0.out); rintro e w106 ⟨v538, rfl, ho0, hb⟩; refine ⟨_, rfl, ?_⟩; have HO539 := Aside0.mk (Kd.R_lower ho0 (below_size (qW0))); replace HB := Aside0.mk (below_step (qW0) hb); clear hb ho0; obtain ⟨Ao107, co107, eo107⟩ := Kd.R_slice HO539.out; subst eo107) | ((with_reducible refine gate_callee (f := 20) rfl ?_); refine goesL_ (some 240) rfl rfl Tryd.func20 (by kernel_rfl) rfl #[.slice Ao107 t537.length co107] rfl (qW1) ?_; (with_reducible refine (impl_WayOfLegs.calls (hsn := (qW70)) kj75 _ _ t537 t540 t541 _ ?side1 ?side2 A88.out).mono ?_); (case side1 => exact (qW6 HO539.out)); (case side2 => exact (qW41 HO539.out)); rintro e w108 ⟨v542, rfl, ho0, hb⟩; refine ⟨_, rfl, ?_⟩; replace HO539 := Aside0.mk (Kd.R_below (qW2 HO539.out) hb); have HO543 := Aside0.mk (Kd.R_lower ho0 (below_size (qW0))); replace HB := Aside0.mk (below_step (qW0) hb); clear hb ho0) | ((with_reducible refine gate_callee (f := 21) rfl ?_); refine goesL_ (some 245) rfl rfl Tryd.func21 (by kernel_rfl) rfl #[.slice Ao107 t537.length co107] rfl (qW1) ?_; (with_reducible refine (spec_WayOfLegs.calls kj75 _ _ t537 t544 t545 _ ?side1 ?side2 A89.out).mono ?_); (case side1 => exact (qW6 HO539.out)); (case side2 => exact (qW41 HO539.out)); rintro e w109 ⟨v546, rfl, ho0, hb⟩; refine ⟨_, rfl, ?_⟩; replace HO539 := Aside0.mk (Kd.R_below (qW2 HO539.out) hb); have HO547 := Aside0.mk (Kd.R_lower (Kd.R_new' ho0 (Kd.R_lt (qW2 HO543.out))) (below_size (qW0))); replace HO543 := Aside0.mk (Kd.R_elder' (qW2 HO543.out) (Kd.R_base ho0) hb); replace HB := Aside0.mk (below_step (qW0) hb); clear hb ho0; obtain ⟨Ao110, co110, eo110⟩ := Kd.R_slice HO543.out; subst eo110; obtain ⟨Ao111, co111, eo111⟩ := Kd.R_slice HO547.out; subst eo111) | (go_at_call 15; (with_reducible refine (laws_rRuns.calls kj75 _ _ t540 _ _ t544 false _ ?side1 ?side2 ?side3 ?side4 A91.out).mono ?_); (case side1 => exact (qW6 HO543.out)); (case side2 => exact (qW41 HO543.out)); (case side3 => exact (qW6 HO547.out)); (case side4 => exact (qW41 HO547.out)); rintro e w' ⟨rfl, ⟨nd, rfl⟩⟩))
                  go_ret
                  exact ⟨(qW9), (qW0)⟩
                ·as_aux_lemma =>
                 rw [if_neg c90] at H
                 have c90b0 : (t541 == t545) = false := by simpa using c90
                 (try (have c90b1 : decide (t541 = t545) = false := by simpa using c90))
                 (try (have c90b2 : (t541 == t545) = false := by simpa using c90))
                 (try (have c90b3 : ¬ (t541 = t545) := by simpa using c90))
                 clear c90; obtain rfl := Option.some.inj H
                 go_wp2_with (first | ((with_reducible refine gate_callee (f := 19) rfl ?_); refine goesL_ (some 237) rfl rfl Tryd.func19 (by kernel_rfl) rfl #[.slice A0 l0.length c0] rfl (qW1) ?_; (with_reducible refine (spec_DrawWayOfLegs.calls kj75 _ _ l0 t537 _ ?side1 ?side2 A87.out).mono ?_); (case side1 => exact (qW25 HR0.out)); (case side2 => exact HC0.out); rintro e w112 ⟨v538, rfl, ho0, hb⟩; refine ⟨_, rfl, ?_⟩; have HO539 := Aside0.mk (Kd.R_lower ho0 (below_size (qW0))); replace HB := Aside0.mk (below_step (qW0) hb); clear hb ho0; obtain ⟨Ao113, co113, eo113⟩ := Kd.R_slice HO539.out; subst eo113) | ((with_reducible refine gate_callee (f := 20) rfl ?_); refine goesL_ (some 240) rfl rfl Tryd.func20 (by kernel_rfl) rfl #[.slice Ao113 t537.length co113] rfl (qW1) ?_; (with_reducible refine (impl_WayOfLegs.calls (hsn := (qW70)) kj75 _ _ t537 t540 t541 _ ?side1 ?side2 A88.out).mono ?_); (case side1 => exact (qW6 HO539.out)); (case side2 => exact (qW41 HO539.out)); rintro e w114 ⟨v542, rfl, ho0, hb⟩; refine ⟨_, rfl, ?_⟩; replace HO539 := Aside0.mk (Kd.R_below (qW2 HO539.out) hb); have HO543 := Aside0.mk (Kd.R_lower ho0 (below_size (qW0))); replace HB := Aside0.mk (below_step (qW0) hb); clear hb ho0) | ((with_reducible refine gate_callee (f := 21) rfl ?_); refine goesL_ (some 245) rfl rfl Tryd.func21 (by kernel_rfl) rfl #[.slice Ao113 t537.length co113] rfl (qW1) ?_; (with_reducible refine (spec_WayOfLegs.calls kj75 _ _ t537 t544 t545 _ ?side1 ?side2 A89.out).mono ?_); (case side1 => exact (qW6 HO539.out)); (case side2 => exact (qW41 HO539.out)); rintro e w115 ⟨v546, rfl, ho0, hb⟩; refine ⟨_, rfl, ?_⟩; replace HO539 := Aside0.mk (Kd.R_below (qW2 HO539.out) hb); have HO547 := Aside0.mk (Kd.R_lower (Kd.R_new' ho0 (Kd.R_lt (qW2 HO543.out))) (below_size (qW0))); replace HO543 := Aside0.mk (Kd.R_elder' (qW2 HO543.out) (Kd.R_base ho0) hb); replace HB := Aside0.mk (below_step (qW0) hb); clear hb ho0))
                 go_ret
                 exact ⟨(qW9), (qW0)⟩

end Go.Proofs.YtmbpdegkkdcjnaaDoor.MW
