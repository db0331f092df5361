-- Written by a program of this session (wip/drv.py, wip/tight2.py). -- tight2
import Derived.Test.YtoljdjgndogegaaMRx0
import Derived.Test.YtoljdjgndogegaaMRx1
import Derived.Test.YtoljdjgndogegaaMRx4
import Derived.Test.YtoljdjgndogegaaMRx5
import Derived.Test.YtoljdjgndogegaaMRx6
import Derived.Test.YtoljdjgndogegaaMRx7
import Derived.Test.YtoljdjgndogegaaMRx8
import Derived.Test.YtoljdjgndogegaaMRx10
import Derived.Test.YtoljdjgndogegaaMRx11
import Derived.Test.YtoljdjgndogegaaMRx12
namespace Go.Proofs.Ytoljdjgndogegaa.MR
open Go.RowKit Go.Proofs.YtoljdjgndogegaaW.PrintWords Go.Proofs.YtoljdjgndogegaaW.PrintLast
theorem qR13_c0 {p : Prop} (h : p := by
  as_aux_lemma =>
  simp only [Act.put, List.setIfInBounds_toArray, List.set_cons_zero, List.set_cons_succ, i64_w, i32_w]
  rfl) : p := h
theorem qR13_c1 {p : Prop} (h : p := by
  as_aux_lemma =>
  intro w'
  go_simp
  with_reducible rfl) : p := h
attribute [local go_sem] max2_int min2_int max_two min_two   -- for this text's walks alone
set_option linter.unusedVariables false
set_option linter.unusedSimpArgs false

/-! ### laws_FnRoutes: function 3 -/
mutual
def laws_FnRoutes.j0 : Nat → List Int → List (S58) → List Int → Int → Int → Int → List Int → Bool → Bool → Option (Bool)
 | 0, _, _, _, _, _, _, _, _, _ => none
 | k + 1, x0, x3, x4, x5, x6, x7, x8, x9, x82 => if x82 = true then (some false) else ((impl_GreatestWidth.f k x3 x4 x5 x6).bind fun bt668 => ((spec_GreatestWidth.f k x3 x4 x5 x6).bind fun bt670 => (if bt668.1 = bt670.1 then (laws_FnRoutes.j1 k x0 x3 x4 x5 x6 x7 x8 x9 bt668.1 bt668.2 (bt668.2 != bt670.2)) else (laws_FnRoutes.j1 k x0 x3 x4 x5 x6 x7 x8 x9 bt668.1 bt668.2 true))))
def laws_FnRoutes.j1 : Nat → List Int → List (S58) → List Int → Int → Int → Int → List Int → Bool → Int → Bool → Bool → Option (Bool)
 | 0, _, _, _, _, _, _, _, _, _, _, _ => none
 | k + 1, x0, x3, x4, x5, x6, x7, x8, x9, x12, x13, x106 => if x106 = true then (some false) else (if x13 = true then (if x7 ≥ 0 then (if x7 ≤ 200 then (laws_FnRoutes.j2 k x0 x3 x4 x5 x6 x7 x8 x9 x12 (x9 != (decide (x12 ≥ x7)))) else (laws_FnRoutes.j2 k x0 x3 x4 x5 x6 x7 x8 x9 x12 false)) else (laws_FnRoutes.j2 k x0 x3 x4 x5 x6 x7 x8 x9 x12 false)) else (laws_FnRoutes.j2 k x0 x3 x4 x5 x6 x7 x8 x9 x12 false))
def laws_FnRoutes.j2 : Nat → List Int → List (S58) → List Int → Int → Int → Int → List Int → Bool → Int → Bool → Option (Bool)
 | 0, _, _, _, _, _, _, _, _, _, _ => none
 | k + 1, x0, x3, x4, x5, x6, x7, x8, x9, x12, x122 => if x122 = true then (some false) else (if x9 = true then ((impl_RouteWidth.f k x3 x4 x8).bind fun bt672 => ((impl_RouteLength.f k x3 x4 x8).bind fun bt674 => (if bt672.2 = true then (if bt672.1 < x7 then (laws_FnRoutes.j3 k x0 x3 x4 x5 x6 bt674.1 true) else (if bt672.1 > x12 then (laws_FnRoutes.j3 k x0 x3 x4 x5 x6 bt674.1 true) else (if bt674.2 = true then (if 0 < (x8.length : Int) then (if (rd x8 0) = x5 then (if 0 ≤ (wrap64 ((x8.length : Int) - 1)) then (if (wrap64 ((x8.length : Int) - 1)) < (x8.length : Int) then (laws_FnRoutes.j3 k x0 x3 x4 x5 x6 bt674.1 ((rd x8 (wrap64 ((x8.length : Int) - 1))) != x6)) else (none)) else (none)) else (laws_FnRoutes.j3 k x0 x3 x4 x5 x6 bt674.1 true)) else (none)) else (laws_FnRoutes.j3 k x0 x3 x4 x5 x6 bt674.1 true)))) else (laws_FnRoutes.j3 k x0 x3 x4 x5 x6 bt674.1 true)))) else (laws_FnRoutes.j4 k x0))
def laws_FnRoutes.j4 : Nat → List Int → Option (Bool)
 | 0, _ => none
 | k + 1, x0 => (spec_DrawRouteWidth.f k x0).bind fun bt684 => ((impl_RouteWidth.f k bt684.1 bt684.2.1 bt684.2.2).bind fun bt693 => ((spec_RouteWidth.f k bt684.1 bt684.2.1 bt684.2.2).bind fun bt695 => (if bt693.1 = bt695.1 then (laws_FnRoutes.j5 k bt684.1 bt684.2.1 bt684.2.2 bt693.1 bt693.2 (bt693.2 != bt695.2)) else (laws_FnRoutes.j5 k bt684.1 bt684.2.1 bt684.2.2 bt693.1 bt693.2 true))))
def laws_FnRoutes.j5 : Nat → List (S58) → List Int → List Int → Int → Bool → Bool → Option (Bool)
 | 0, _, _, _, _, _, _ => none
 | k + 1, x24, x25, x26, x27, x28, x221 => if x221 = true then (some false) else ((impl_RouteLength.f k x24 x25 x26).bind fun bt697 => ((spec_RouteLength.f k x24 x25 x26).bind fun bt699 => (if bt697.1 = bt699.1 then (if (bt697.2 != bt699.2) = true then (laws_FnRoutes.j6 k x24 x25 x26 x27 x28 true) else (laws_FnRoutes.j6 k x24 x25 x26 x27 x28 (bt697.2 != x28))) else (laws_FnRoutes.j6 k x24 x25 x26 x27 x28 true))))
def laws_FnRoutes.j6 : Nat → List (S58) → List Int → List Int → Int → Bool → Bool → Option (Bool)
 | 0, _, _, _, _, _, _ => none
 | k + 1, x24, x25, x26, x27, x28, x248 => if x248 = true then (some false) else (if x28 = true then (if 0 < (x26.length : Int) then (if 0 ≤ (wrap64 ((x26.length : Int) - 1)) then (if (wrap64 ((x26.length : Int) - 1)) < (x26.length : Int) then ((impl_GreatestWidth.f k x24 x25 (rd x26 0) (rd x26 (wrap64 ((x26.length : Int) - 1)))).bind fun bt703 => (if bt703.2 = true then (some (decide (bt703.1 ≥ x27))) else (some false))) else (none)) else (none)) else (none)) else (some true))
def laws_FnRoutes.j3 : Nat → List Int → List (S58) → List Int → Int → Int → Int → Bool → Option (Bool)
 | 0, _, _, _, _, _, _, _ => none
 | k + 1, x0, x3, x4, x5, x6, x18, x170 => if x170 = true then (some false) else ((impl_BestRoute.f k x3 x4 x5 x6 0).bind fun bt678 => (if bt678.2 = true then ((impl_RouteLength.f k x3 x4 bt678.1).bind fun bt682 => (if bt682.2 = true then (if bt682.1 > x18 then (some false) else (laws_FnRoutes.j4 k x0)) else (some false))) else (laws_FnRoutes.j4 k x0)))
end
def laws_FnRoutes.f (k : Nat) (l0 : List Int) : Option (Bool) := (laws_vBig.f l0).bind fun t647 => (if t647 = true then (some true) else ((spec_DrawBestRoute.f k l0).bind fun bt648 => ((impl_BestRoute.f k bt648.1 bt648.2.1 bt648.2.2.1 bt648.2.2.2.1 bt648.2.2.2.2).bind fun bt657 => ((spec_BestRoute.f k bt648.1 bt648.2.1 bt648.2.2.1 bt648.2.2.2.1 bt648.2.2.2.2).bind fun bt661 => (if (bt657.2 != bt661.2) = true then (laws_FnRoutes.j0 k l0 bt648.1 bt648.2.1 bt648.2.2.1 bt648.2.2.2.1 bt648.2.2.2.2 bt657.1 bt657.2 true) else ((laws_vInts.f k bt657.1 bt661.1).bind fun t665 => (if t665 = true then ((impl_AreWidths.f k bt648.1 bt648.2.1).bind fun t666 => ((spec_AreWidths.f k bt648.1 bt648.2.1).bind fun t667 => (laws_FnRoutes.j0 k l0 bt648.1 bt648.2.1 bt648.2.2.1 bt648.2.2.2.1 bt648.2.2.2.2 bt657.1 bt657.2 (t666 != t667)))) else (laws_FnRoutes.j0 k l0 bt648.1 bt648.2.1 bt648.2.2.1 bt648.2.2.2.1 bt648.2.2.2.2 bt657.1 bt657.2 true))))))))
theorem laws_FnRoutes.mono_l : ∀ k, (∀ y0 y1 y2 y3 y4 y5 y6 y7 y8, LeO (laws_FnRoutes.j0 k y0 y1 y2 y3 y4 y5 y6 y7 y8) (laws_FnRoutes.j0 (k + 1) y0 y1 y2 y3 y4 y5 y6 y7 y8)) ∧ (∀ y0 y1 y2 y3 y4 y5 y6 y7 y8 y9 y10, LeO (laws_FnRoutes.j1 k y0 y1 y2 y3 y4 y5 y6 y7 y8 y9 y10) (laws_FnRoutes.j1 (k + 1) y0 y1 y2 y3 y4 y5 y6 y7 y8 y9 y10)) ∧ (∀ y0 y1 y2 y3 y4 y5 y6 y7 y8 y9, LeO (laws_FnRoutes.j2 k y0 y1 y2 y3 y4 y5 y6 y7 y8 y9) (laws_FnRoutes.j2 (k + 1) y0 y1 y2 y3 y4 y5 y6 y7 y8 y9)) ∧ (∀ y0, LeO (laws_FnRoutes.j4 k y0) (laws_FnRoutes.j4 (k + 1) y0)) ∧ (∀ y0 y1 y2 y3 y4 y5, LeO (laws_FnRoutes.j5 k y0 y1 y2 y3 y4 y5) (laws_FnRoutes.j5 (k + 1) y0 y1 y2 y3 y4 y5)) ∧ (∀ y0 y1 y2 y3 y4 y5, LeO (laws_FnRoutes.j6 k y0 y1 y2 y3 y4 y5) (laws_FnRoutes.j6 (k + 1) y0 y1 y2 y3 y4 y5)) ∧ (∀ y0 y1 y2 y3 y4 y5 y6, LeO (laws_FnRoutes.j3 k y0 y1 y2 y3 y4 y5 y6) (laws_FnRoutes.j3 (k + 1) y0 y1 y2 y3 y4 y5 y6))
 | 0 => ⟨fun _ _ _ _ _ _ _ _ _ r h => by simp [laws_FnRoutes.j0] at h, fun _ _ _ _ _ _ _ _ _ _ _ r h => by simp [laws_FnRoutes.j1] at h, fun _ _ _ _ _ _ _ _ _ _ r h => by simp [laws_FnRoutes.j2] at h, fun _ r h => by simp [laws_FnRoutes.j4] at h, fun _ _ _ _ _ _ r h => by simp [laws_FnRoutes.j5] at h, fun _ _ _ _ _ _ r h => by simp [laws_FnRoutes.j6] at h, fun _ _ _ _ _ _ _ r h => by simp [laws_FnRoutes.j3] at h⟩
 | k + 1 => by
  obtain ⟨ih0, ih1, ih2, ih3, ih4, ih5, ih6⟩ := laws_FnRoutes.mono_l k
  refine ⟨?_, ?_, ?_, ?_, ?_, ?_, ?_⟩
  ·intro y0 y1 y2 y3 y4 y5 y6 y7 y8
   unfold laws_FnRoutes.j0
   have m0 := @impl_AreWidths.mono; have m1 := @impl_BestRoute.mono; have m2 := @impl_GreatestWidth.mono; have m3 := @impl_RouteLength.mono; have m4 := @impl_RouteWidth.mono; have m5 := @laws_vInts.mono; have m6 := @spec_AreWidths.mono; have m7 := @spec_BestRoute.mono; have m8 := @spec_DrawBestRoute.mono; have m9 := @spec_DrawRouteWidth.mono; have m10 := @spec_GreatestWidth.mono; have m11 := @spec_RouteLength.mono; have m12 := @spec_RouteWidth.mono
   exact qmono
  ·intro y0 y1 y2 y3 y4 y5 y6 y7 y8 y9 y10
   unfold laws_FnRoutes.j1
   have m0 := @impl_AreWidths.mono; have m1 := @impl_BestRoute.mono; have m2 := @impl_GreatestWidth.mono; have m3 := @impl_RouteLength.mono; have m4 := @impl_RouteWidth.mono; have m5 := @laws_vInts.mono; have m6 := @spec_AreWidths.mono; have m7 := @spec_BestRoute.mono; have m8 := @spec_DrawBestRoute.mono; have m9 := @spec_DrawRouteWidth.mono; have m10 := @spec_GreatestWidth.mono; have m11 := @spec_RouteLength.mono; have m12 := @spec_RouteWidth.mono
   exact qmono
  ·intro y0 y1 y2 y3 y4 y5 y6 y7 y8 y9
   unfold laws_FnRoutes.j2
   have m0 := @impl_AreWidths.mono; have m1 := @impl_BestRoute.mono; have m2 := @impl_GreatestWidth.mono; have m3 := @impl_RouteLength.mono; have m4 := @impl_RouteWidth.mono; have m5 := @laws_vInts.mono; have m6 := @spec_AreWidths.mono; have m7 := @spec_BestRoute.mono; have m8 := @spec_DrawBestRoute.mono; have m9 := @spec_DrawRouteWidth.mono; have m10 := @spec_GreatestWidth.mono; have m11 := @spec_RouteLength.mono; have m12 := @spec_RouteWidth.mono
   exact qmono
  ·intro y0
   unfold laws_FnRoutes.j4
   have m0 := @impl_AreWidths.mono; have m1 := @impl_BestRoute.mono; have m2 := @impl_GreatestWidth.mono; have m3 := @impl_RouteLength.mono; have m4 := @impl_RouteWidth.mono; have m5 := @laws_vInts.mono; have m6 := @spec_AreWidths.mono; have m7 := @spec_BestRoute.mono; have m8 := @spec_DrawBestRoute.mono; have m9 := @spec_DrawRouteWidth.mono; have m10 := @spec_GreatestWidth.mono; have m11 := @spec_RouteLength.mono; have m12 := @spec_RouteWidth.mono
   exact qmono
  ·intro y0 y1 y2 y3 y4 y5
   unfold laws_FnRoutes.j5
   have m0 := @impl_AreWidths.mono; have m1 := @impl_BestRoute.mono; have m2 := @impl_GreatestWidth.mono; have m3 := @impl_RouteLength.mono; have m4 := @impl_RouteWidth.mono; have m5 := @laws_vInts.mono; have m6 := @spec_AreWidths.mono; have m7 := @spec_BestRoute.mono; have m8 := @spec_DrawBestRoute.mono; have m9 := @spec_DrawRouteWidth.mono; have m10 := @spec_GreatestWidth.mono; have m11 := @spec_RouteLength.mono; have m12 := @spec_RouteWidth.mono
   exact qmono
  ·intro y0 y1 y2 y3 y4 y5
   unfold laws_FnRoutes.j6
   have m0 := @impl_AreWidths.mono; have m1 := @impl_BestRoute.mono; have m2 := @impl_GreatestWidth.mono; have m3 := @impl_RouteLength.mono; have m4 := @impl_RouteWidth.mono; have m5 := @laws_vInts.mono; have m6 := @spec_AreWidths.mono; have m7 := @spec_BestRoute.mono; have m8 := @spec_DrawBestRoute.mono; have m9 := @spec_DrawRouteWidth.mono; have m10 := @spec_GreatestWidth.mono; have m11 := @spec_RouteLength.mono; have m12 := @spec_RouteWidth.mono
   exact qmono
  ·intro y0 y1 y2 y3 y4 y5 y6
   unfold laws_FnRoutes.j3
   have m0 := @impl_AreWidths.mono; have m1 := @impl_BestRoute.mono; have m2 := @impl_GreatestWidth.mono; have m3 := @impl_RouteLength.mono; have m4 := @impl_RouteWidth.mono; have m5 := @laws_vInts.mono; have m6 := @spec_AreWidths.mono; have m7 := @spec_BestRoute.mono; have m8 := @spec_DrawBestRoute.mono; have m9 := @spec_DrawRouteWidth.mono; have m10 := @spec_GreatestWidth.mono; have m11 := @spec_RouteLength.mono; have m12 := @spec_RouteWidth.mono
   exact qmono
theorem laws_FnRoutes.mono : ∀ a0 k, LeO (laws_FnRoutes.f k a0) (laws_FnRoutes.f (k + 1) a0) := by
 intro a0 k; obtain ⟨ih0, ih1, ih2, ih3, ih4, ih5, ih6⟩ := laws_FnRoutes.mono_l k
 unfold laws_FnRoutes.f
 have m0 := @impl_AreWidths.mono; have m1 := @impl_BestRoute.mono; have m2 := @impl_GreatestWidth.mono; have m3 := @impl_RouteLength.mono; have m4 := @impl_RouteWidth.mono; have m5 := @laws_vInts.mono; have m6 := @spec_AreWidths.mono; have m7 := @spec_BestRoute.mono; have m8 := @spec_DrawBestRoute.mono; have m9 := @spec_DrawRouteWidth.mono; have m10 := @spec_GreatestWidth.mono; have m11 := @spec_RouteLength.mono; have m12 := @spec_RouteWidth.mono
 exact qmono
def laws_FnRoutes.T34 : Bool × List (List Nat × List Nat) := (true, [([], []), ([], []), ([], []), ([2], [2]), ([3], [3]), ([], []), ([], []), ([6], [6]), ([7], [7]), ([5, 8], [5, 8]), ([9], [9]), ([0, 1, 4, 10], [0, 1, 4, 10]), ([11], [11]), ([12], [12]), ([12], [12]), ([13, 11, 0, 1, 2, 3, 4, 5, 6, 7, 8, 9, 10, 11, 12, 13], [13]), ([14, 15, 0, 1, 2, 3, 4, 5, 6, 7, 8, 9, 10, 11, 12, 13, 14, 15], [14])])
def laws_FnRoutes.B34 : List Nat := [0, 0, 0, 4, 12, 0, 0, 64, 192, 480, 992, 2047, 4095, 8191, 8191, 16383, 65535]
theorem laws_FnRoutes.tab34 : rtab .any (opsOf Try.f3 34) = laws_FnRoutes.T34 := by kernel_rfl
theorem laws_FnRoutes.bits34 : waitsOk laws_FnRoutes.T34.2 laws_FnRoutes.B34 = true := by kernel_rfl
set_option maxHeartbeats 8000000 in
set_option maxRecDepth 100000 in
theorem laws_FnRoutes.calls (k : Nat) (A0 : Option Addr) (c0 : Nat) (l0 : List Int) (r : Bool) (w : World) (hr0 : Kd.C (Kd.int .u8) w A0 l0.length l0) (hc0 : l0.length ≤ c0) (h : laws_FnRoutes.f k l0 = some r) :
  Calls Try.prog 3 #[.slice A0 l0.length c0] w fun e w' => e = .returned (.bool r) ∧ Below w.heap.size w w' := by
 have HR0 := Aside0.mk hr0; have HC0 := Aside0.mk hc0; clear hr0 hc0; have HB := Aside0.mk (Below.refl w.heap.size w); have H : ((laws_vBig.f l0).bind fun t647 => (if t647 = true then (some true) else ((spec_DrawBestRoute.f k l0).bind fun bt648 => ((impl_BestRoute.f k bt648.1 bt648.2.1 bt648.2.2.1 bt648.2.2.2.1 bt648.2.2.2.2).bind fun bt657 => ((spec_BestRoute.f k bt648.1 bt648.2.1 bt648.2.2.1 bt648.2.2.2.1 bt648.2.2.2.2).bind fun bt661 => (if (bt657.2 != bt661.2) = true then (laws_FnRoutes.j0 k l0 bt648.1 bt648.2.1 bt648.2.2.1 bt648.2.2.2.1 bt648.2.2.2.2 bt657.1 bt657.2 true) else ((laws_vInts.f k bt657.1 bt661.1).bind fun t665 => (if t665 = true then ((impl_AreWidths.f k bt648.1 bt648.2.1).bind fun t666 => ((spec_AreWidths.f k bt648.1 bt648.2.1).bind fun t667 => (laws_FnRoutes.j0 k l0 bt648.1 bt648.2.1 bt648.2.2.1 bt648.2.2.2.1 bt648.2.2.2.2 bt657.1 bt657.2 (t666 != t667)))) else (laws_FnRoutes.j0 k l0 bt648.1 bt648.2.1 bt648.2.2.1 bt648.2.2.2.1 bt648.2.2.2.2 bt657.1 bt657.2 true))))))))) = some r := h; clear h; replace H := bindA H; obtain ⟨t647, A2, H⟩ := H; (try dsimp only at H)
 by_cases c3 : t647 = true
 ·as_aux_lemma =>
  subst c3; rw [if_pos rfl] at H; obtain rfl := Option.some.inj H
  go_enter Try.func3, Try.ntmps3
  go_wp2_with (first | ((with_reducible refine gate_callee (f := 5) rfl ?_); refine goesL_ (some 38) rfl rfl Try.func5 (by kernel_rfl) rfl #[.slice A0 l0.length c0] rfl (qR2) ?_; (with_reducible refine (laws_vBig.calls _ _ l0 true _ ?s1 ?s2 A2.out).mono ?_); (case s1 => exact (qR11 HR0.out)); (case s2 => exact HC0.out); rintro e w' ⟨rfl, ⟨nd, rfl⟩⟩; refine ⟨_, rfl, ?_⟩))
  go_ret
  exact ⟨(qR10), (qR0)⟩
 ·as_aux_lemma =>
  replace c3 := Bool.eq_false_iff.mpr c3; subst c3; rw [if_neg (show ¬ (false = true) by decide)] at H; replace H := bindA H; obtain ⟨⟨t648, t649, t650, t651, t652⟩, A4, H⟩ := H; (try dsimp only at H); replace H := bindA H; obtain ⟨⟨t657, t658⟩, A5, H⟩ := H; (try dsimp only at H); replace H := bindA H; obtain ⟨⟨t661, t662⟩, A6, H⟩ := H; (try dsimp only at H); have HC7 := Aside0.mk H; clear H
  go_enter Try.func3, Try.ntmps3
  go_upto_region 6 with (first | ((with_reducible refine gate_callee (f := 5) rfl ?_); refine goesL_ (some 38) rfl rfl Try.func5 (by kernel_rfl) rfl #[.slice A0 l0.length c0] rfl (qR2) ?_; (with_reducible refine (laws_vBig.calls _ _ l0 false _ ?s1 ?s2 A2.out).mono ?_); (case s1 => exact (qR11 HR0.out)); (case s2 => exact HC0.out); rintro e w' ⟨rfl, ⟨nd, rfl⟩⟩; refine ⟨_, rfl, ?_⟩) | ((with_reducible refine gate_callee (f := 6) rfl ?_); refine goesL_ (some 41) rfl rfl Try.func6 (by kernel_rfl) rfl #[.slice A0 l0.length c0] rfl (qR2) ?_; (with_reducible refine (spec_DrawBestRoute.calls k _ _ l0 t648 t649 t650 t651 t652 _ ?s1 ?s2 A4.out).mono ?_); (case s1 => exact (qR11 HR0.out)); (case s2 => exact HC0.out); rintro e w8 ⟨v653, v655, rfl, ho0, ho1, hb⟩; refine ⟨_, rfl, ?_⟩; have HO654 := Aside0.mk (qR70 ho0); have HO656 := Aside0.mk (qR70 ho1); replace HB := Aside0.mk (qR62); clear hb ho0 ho1; obtain ⟨Ao9, co9, eo9⟩ := Kd.R_slice HO654.out; subst eo9; obtain ⟨Ao10, co10, eo10⟩ := Kd.R_slice HO656.out; subst eo10) | ((with_reducible refine gate_callee (f := 7) rfl ?_); refine goesL_ (some 53) rfl rfl Try.func7 (by kernel_rfl) rfl #[.slice Ao9 t648.length co9, .slice Ao10 t649.length co10, .int .i64 t650, .int .i64 t651, .int .i64 t652] rfl (qR2) ?_; (with_reducible refine (impl_BestRoute.calls k _ _ t648 _ _ t649 t650 t651 t652 t657 t658 _ ?s1 ?s2 ?s3 ?s4 A5.out).mono ?_); (case s1 => exact (qR5 HO654.out)); (case s2 => exact (qR32 HO654.out)); (case s3 => exact (qR5 HO656.out)); (case s4 => exact (qR32 HO656.out)); rintro e w11 ⟨v659, rfl, ho0, hb⟩; refine ⟨_, rfl, ?_⟩; replace HO654 := Aside0.mk (qR64 HO654.out); have HO660 := Aside0.mk (qR73 ho0 HO656.out); replace HO656 := Aside0.mk (qR65 HO656.out ho0); replace HB := Aside0.mk (qR62); clear hb ho0) | ((with_reducible refine gate_callee (f := 8) rfl ?_); refine goesL_ (some 62) rfl rfl Try.func8 (by kernel_rfl) rfl #[.slice Ao9 t648.length co9, .slice Ao10 t649.length co10, .int .i64 t650, .int .i64 t651, .int .i64 t652] rfl (qR2) ?_; (with_reducible refine (spec_BestRoute.calls k _ _ t648 _ _ t649 t650 t651 t652 t661 t662 _ ?s1 ?s2 ?s3 ?s4 A6.out).mono ?_); (case s1 => exact (qR5 HO654.out)); (case s2 => exact (qR32 HO654.out)); (case s3 => exact (qR5 HO656.out)); (case s4 => exact (qR32 HO656.out)); rintro e w12 ⟨v663, rfl, ho0, hb⟩; refine ⟨_, rfl, ?_⟩; replace HO654 := Aside0.mk (qR64 HO654.out); have HO664 := Aside0.mk (by exact Kd.R_lower (Kd.R_new' (Kd.R_new' ho0 (Kd.R_lt (qR1 HO656.out))) (Kd.R_lt (qR1 HO660.out))) (below_size (qR0))); replace HO656 := Aside0.mk (qR65 HO656.out ho0); replace HO660 := Aside0.mk (qR65 HO660.out ho0); replace HB := Aside0.mk (qR62); clear hb ho0))
  (try simp only [Act.put, List.setIfInBounds_toArray, List.set_cons_zero, List.set_cons_succ])
  go_cut [82] (fun v82 wc => ∃ (kq : Nat) (x82_6 : Bool), v82 = .bool x82_6 ∧ Aside0 (laws_FnRoutes.j0 kq l0 t648 t649 t650 t651 t652 t657 t658 x82_6 = some r) ∧ Aside0 (kq ≤ k) ∧ Aside0 (Kd.R k58 58 wc w.heap.size (fun _ => True) (.slice Ao9 t648.length co9) t648) ∧ Aside0 (Kd.R (Kd.int .i64) 3 wc w.heap.size (fun k_ => some k_ ≠ (v659 : Value).ownBlock) (.slice Ao10 t649.length co10) t649) ∧ Aside0 (Kd.R (Kd.int .i64) 3 wc w.heap.size (fun k_ => some k_ ≠ ((.slice Ao10 t649.length co10) : Value).ownBlock) v659 t657) ∧ Aside0 (Below w.heap.size w wc))
  case first =>
   have H := HC7.out; clear HC7
   by_cases c13 : (t658 != t662) = true
   ·as_aux_lemma =>
    rw [if_pos c13] at H; have c13b0 : (t658 != t662) = true := c13
    (try (have c13b1 : decide (t658 = t662) = false := by simpa using c13))
    (try (have c13b2 : (t658 == t662) = false := by simpa using c13))
    (try (have c13b3 : ¬ (t658 = t662) := by simpa using c13)); clear c13
    (first | rw [c13b0] | (simp only [i64_w, i32_w]; rw [c13b0]) | skip)
    have H' := Aside0.mk H; clear H
    go_wp2
    go_meet
    case rel => exact ⟨_, (true), (qR12), H', ⟨by first | omega | exact Nat.le_refl _⟩, ⟨(qR1 HO654.out)⟩, ⟨(qR38 HO656.out)⟩, ⟨(qR38 HO660.out)⟩, ⟨(qR0)⟩⟩
   ·as_aux_lemma =>
    rw [if_neg c13] at H
    have c13b0 : (t658 != t662) = false := by simpa using c13
    (try (have c13b1 : decide (t658 = t662) = true := by simpa using c13))
    (try (have c13b2 : (t658 == t662) = true := by simpa using c13)); clear c13
    (first | rw [c13b0] | (simp only [i64_w, i32_w]; rw [c13b0]) | skip)
    replace H := bindA H; obtain ⟨t665, A14, H⟩ := H; (try dsimp only at H)
    by_cases c15 : t665 = true
    ·as_aux_lemma =>
     subst c15; rw [if_pos rfl] at H; replace H := bindA H; obtain ⟨t666, A16, H⟩ := H; (try dsimp only at H); replace H := bindA H; obtain ⟨t667, A17, H⟩ := H; (try dsimp only at H); have H' := Aside0.mk H; clear H; obtain ⟨Ao18, co18, eo18⟩ := Kd.R_slice HO660.out; subst eo18; obtain ⟨Ao19, co19, eo19⟩ := Kd.R_slice HO664.out; subst eo19
     go_wp2_with (first | (go_at_call 9; (with_reducible refine (laws_vInts.calls k _ _ t657 _ _ t661 true _ ?s1 ?s2 ?s3 ?s4 A14.out).mono ?_); (case s1 => exact (qR5 HO660.out)); (case s2 => exact (qR32 HO660.out)); (case s3 => exact (qR5 HO664.out)); (case s4 => exact (qR32 HO664.out)); rintro e w' ⟨rfl, ⟨nd, rfl⟩⟩) | (go_at_call 10; (with_reducible refine (impl_AreWidths.calls k _ _ t648 _ _ t649 t666 _ ?s1 ?s2 ?s3 ?s4 A16.out).mono ?_); (case s1 => exact (qR5 HO654.out)); (case s2 => exact (qR32 HO654.out)); (case s3 => exact (qR5 HO656.out)); (case s4 => exact (qR32 HO656.out)); rintro e w20 ⟨rfl, hb⟩; replace HO654 := Aside0.mk (qR64 HO654.out); replace HO656 := Aside0.mk (qR64 HO656.out); replace HO660 := Aside0.mk (qR64 HO660.out); replace HO664 := Aside0.mk (qR64 HO664.out); replace HB := Aside0.mk (qR62); clear hb) | (go_at_call 11; (with_reducible refine (spec_AreWidths.calls k _ _ t648 _ _ t649 t667 _ ?s1 ?s2 ?s3 ?s4 A17.out).mono ?_); (case s1 => exact (qR5 HO654.out)); (case s2 => exact (qR32 HO654.out)); (case s3 => exact (qR5 HO656.out)); (case s4 => exact (qR32 HO656.out)); rintro e w21 ⟨rfl, hb⟩; replace HO654 := Aside0.mk (qR64 HO654.out); replace HO656 := Aside0.mk (qR64 HO656.out); replace HO660 := Aside0.mk (qR64 HO660.out); replace HO664 := Aside0.mk (qR64 HO664.out); replace HB := Aside0.mk (qR62); clear hb))
     go_meet
     case rel => exact ⟨_, ((t666 != t667)), (qR12), H', ⟨by first | omega | exact Nat.le_refl _⟩, ⟨(qR1 HO654.out)⟩, ⟨(qR38 HO656.out)⟩, ⟨(qR38 HO660.out)⟩, ⟨(qR0)⟩⟩
    ·as_aux_lemma =>
     replace c15 := Bool.eq_false_iff.mpr c15; subst c15; rw [if_neg (show ¬ (false = true) by decide)] at H; have H' := Aside0.mk H; clear H; obtain ⟨Ao22, co22, eo22⟩ := Kd.R_slice HO660.out; subst eo22; obtain ⟨Ao23, co23, eo23⟩ := Kd.R_slice HO664.out; subst eo23
     go_wp2_with (first | (go_at_call 9; (with_reducible refine (laws_vInts.calls k _ _ t657 _ _ t661 false _ ?s1 ?s2 ?s3 ?s4 A14.out).mono ?_); (case s1 => exact (qR5 HO660.out)); (case s2 => exact (qR32 HO660.out)); (case s3 => exact (qR5 HO664.out)); (case s4 => exact (qR32 HO664.out)); rintro e w' ⟨rfl, ⟨nd, rfl⟩⟩))
     go_meet
     case rel => exact ⟨_, (true), (qR12), H', ⟨by first | omega | exact Nat.le_refl _⟩, ⟨(qR1 HO654.out)⟩, ⟨(qR38 HO656.out)⟩, ⟨(qR38 HO660.out)⟩, ⟨(qR0)⟩⟩
  case rest =>
   clear HC7; (try clear c1); (try clear p2); (try clear c3); (try clear c5); (try clear c6); (try clear c7); (try clear c8); (try clear c13); (try clear c13b0); (try clear c13b1); (try clear c13b2); (try clear c15); obtain ⟨kq, x82_6, rfl, HA, HJ6, HO_3, HO_4, HO_8, HB⟩ := hcut
   cases kq with
   | zero => exact absurd HA.out (by simp [laws_FnRoutes.j0])
   | succ kj6 =>
    have H := HA.out; clear HA; simp only [laws_FnRoutes.j0] at H
    by_cases c24 : x82_6 = true
    ·as_aux_lemma =>
     subst c24; rw [if_pos rfl] at H; obtain rfl := Option.some.inj H
     go_wp2
     go_ret
     exact ⟨(qR10), (qR0)⟩
    ·as_aux_lemma =>
     replace c24 := Bool.eq_false_iff.mpr c24; subst c24; rw [if_neg (show ¬ (false = true) by decide)] at H; replace H := bindA H; obtain ⟨⟨t668, t669⟩, A25, H⟩ := H; (try dsimp only at H); replace H := bindA H; obtain ⟨⟨t670, t671⟩, A26, H⟩ := H; (try dsimp only at H); have HC27 := Aside0.mk H; clear H
     go_upto_region 10 with (first | ((with_reducible refine gate_callee (f := 12) rfl ?_); refine goesL_ (some 88) rfl rfl Try.func12 (by kernel_rfl) rfl #[.slice Ao9 t648.length co9, .slice Ao10 t649.length co10, .int .i64 t650, .int .i64 t651] rfl (qR2) ?_; (with_reducible refine (impl_GreatestWidth.calls kj6 _ _ t648 _ _ t649 t650 t651 t668 t669 _ ?s1 ?s2 ?s3 ?s4 A25.out).mono ?_); (case s1 => exact (qR5 HO_3.out)); (case s2 => exact (qR32 HO_3.out)); (case s3 => exact (qR5 HO_4.out)); (case s4 => exact (qR32 HO_4.out)); rintro e w28 ⟨rfl, hb⟩; refine ⟨_, rfl, ?_⟩; replace HO_3 := Aside0.mk (qR64 HO_3.out); replace HO_4 := Aside0.mk (qR64 HO_4.out); replace HO_8 := Aside0.mk (qR64 HO_8.out); replace HB := Aside0.mk (qR62); clear hb) | ((with_reducible refine gate_callee (f := 13) rfl ?_); refine goesL_ (some 96) rfl rfl Try.func13 (by kernel_rfl) rfl #[.slice Ao9 t648.length co9, .slice Ao10 t649.length co10, .int .i64 t650, .int .i64 t651] rfl (qR2) ?_; (with_reducible refine (spec_GreatestWidth.calls kj6 _ _ t648 _ _ t649 t650 t651 t670 t671 _ ?s1 ?s2 ?s3 ?s4 A26.out).mono ?_); (case s1 => exact (qR5 HO_3.out)); (case s2 => exact (qR32 HO_3.out)); (case s3 => exact (qR5 HO_4.out)); (case s4 => exact (qR32 HO_4.out)); rintro e w29 ⟨rfl, hb⟩; refine ⟨_, rfl, ?_⟩; replace HO_3 := Aside0.mk (qR64 HO_3.out); replace HO_4 := Aside0.mk (qR64 HO_4.out); replace HO_8 := Aside0.mk (qR64 HO_8.out); replace HB := Aside0.mk (qR62); clear hb))
     (try simp only [Act.put, List.setIfInBounds_toArray, List.set_cons_zero, List.set_cons_succ])
     go_cut [106] (fun v106 wc => ∃ (kq : Nat) (x106_26 : Bool), v106 = .bool x106_26 ∧ Aside0 (laws_FnRoutes.j1 kq l0 t648 t649 t650 t651 t652 t657 t658 t668 t669 x106_26 = some r) ∧ Aside0 (kq ≤ kj6) ∧ Aside0 (Kd.R k58 58 wc w.heap.size (fun _ => True) (.slice Ao9 t648.length co9) t648) ∧ Aside0 (Kd.R (Kd.int .i64) 3 wc w.heap.size (fun k_ => some k_ ≠ (v659 : Value).ownBlock) (.slice Ao10 t649.length co10) t649) ∧ Aside0 (Kd.R (Kd.int .i64) 3 wc w.heap.size (fun k_ => some k_ ≠ ((.slice Ao10 t649.length co10) : Value).ownBlock) v659 t657) ∧ Aside0 (Below w.heap.size w wc))
     case first =>
      have H := HC27.out; clear HC27
      by_cases c30 : t668 = t670
      ·as_aux_lemma =>
       rw [if_pos c30] at H; have c30b0 : (t668 == t670) = true := beq_iff_eq.mpr c30; have c30b1 : (t668 != t670) = false := bne_eq_false_iff_eq.mpr c30; clear c30
       (first | rw [c30b0] | (simp only [i64_w, i32_w]; rw [c30b0]) | skip)
       have H' := Aside0.mk H; clear H
       go_wp2
       go_meet
       case rel => exact ⟨_, ((t669 != t671)), (qR12), H', ⟨by have := HJ6.out; first | omega | exact Nat.le_refl _⟩, ⟨(qR1 HO_3.out)⟩, ⟨(qR1 HO_4.out)⟩, ⟨(qR1 HO_8.out)⟩, ⟨(qR0)⟩⟩
      ·as_aux_lemma =>
       rw [if_neg c30] at H; have c30b0 : (t668 == t670) = false := beq_eq_false_iff_ne.mpr c30; have c30b1 : (t668 != t670) = true := bne_iff_ne.mpr c30
       (first | rw [c30b0] | (simp only [i64_w, i32_w]; rw [c30b0]) | skip)
       have H' := Aside0.mk H; clear H
       go_wp2
       go_meet
       case rel => exact ⟨_, (true), (qR12), H', ⟨by have := HJ6.out; first | omega | exact Nat.le_refl _⟩, ⟨(qR1 HO_3.out)⟩, ⟨(qR1 HO_4.out)⟩, ⟨(qR1 HO_8.out)⟩, ⟨(qR0)⟩⟩
     case rest =>
      clear HC27; (try clear c1); (try clear c2); (try clear p2); (try clear c3); (try clear c5); (try clear c6); (try clear c7); (try clear c8); (try clear c12); (try clear c13); (try clear c13b0); (try clear c13b1); (try clear c13b2); (try clear c15); (try clear c24); (try clear c30); (try clear c30b0); (try clear c30b1); (try clear p2); obtain ⟨kq, x106_26, rfl, HA, HJ26, HO_3, HO_4, HO_8, HB⟩ := hcut
      cases kq with
      | zero => exact absurd HA.out (by simp [laws_FnRoutes.j1])
      | succ kj26 =>
       have H := HA.out; clear HA; simp only [laws_FnRoutes.j1] at H
       by_cases c31 : x106_26 = true
       ·as_aux_lemma =>
        subst c31; rw [if_pos rfl] at H; obtain rfl := Option.some.inj H
        go_wp2
        go_ret
        exact ⟨(qR10), (qR0)⟩
       ·as_aux_lemma =>
        replace c31 := Bool.eq_false_iff.mpr c31; subst c31; rw [if_neg (show ¬ (false = true) by decide)] at H; have HC32 := Aside0.mk H; clear H
        go_upto_region 12 with (fail)
        go_cut [122] (fun v122 wc => ∃ (kq : Nat) (x122_31 : Bool), v122 = .bool x122_31 ∧ Aside0 (laws_FnRoutes.j2 kq l0 t648 t649 t650 t651 t652 t657 t658 t668 x122_31 = some r) ∧ Aside0 (kq ≤ kj26) ∧ Aside0 (Kd.R k58 58 wc w.heap.size (fun _ => True) (.slice Ao9 t648.length co9) t648) ∧ Aside0 (Kd.R (Kd.int .i64) 3 wc w.heap.size (fun k_ => some k_ ≠ (v659 : Value).ownBlock) (.slice Ao10 t649.length co10) t649) ∧ Aside0 (Kd.R (Kd.int .i64) 3 wc w.heap.size (fun k_ => some k_ ≠ ((.slice Ao10 t649.length co10) : Value).ownBlock) v659 t657) ∧ Aside0 (Below w.heap.size w wc))
        case first =>
         have H := HC32.out; clear HC32
         by_cases c33 : t669 = true
         ·as_aux_lemma =>
          subst c33; rw [if_pos rfl] at H
          by_cases c34 : t652 ≥ 0
          ·as_aux_lemma =>
           rw [if_pos c34] at H; have c34b0 : decide (0 ≤ t652) = true := decide_eq_true c34; clear c34
           (first | rw [c34b0] | (simp only [i64_w, i32_w]; rw [c34b0]) | skip)
           by_cases c35 : t652 ≤ 200
           ·as_aux_lemma =>
            rw [if_pos c35] at H; have c35b0 : decide (t652 ≤ 200) = true := decide_eq_true c35; clear c35; have H' := Aside0.mk H; clear H
            go_wp2
            go_meet
            case rel => exact ⟨_, ((t658 != (decide (t668 ≥ t652)))), (qR12), H', ⟨by have := HJ6.out; have := HJ26.out; first | omega | exact Nat.le_refl _⟩, ⟨(qR1 HO_3.out)⟩, ⟨(qR1 HO_4.out)⟩, ⟨(qR1 HO_8.out)⟩, ⟨(qR0)⟩⟩
           ·as_aux_lemma =>
            rw [if_neg c35] at H; have c35b0 : decide (t652 ≤ 200) = false := decide_eq_false c35; clear c35; have H' := Aside0.mk H; clear H
            go_wp2
            go_meet
            case rel => exact ⟨_, (false), (qR12), H', ⟨by have := HJ6.out; have := HJ26.out; first | omega | exact Nat.le_refl _⟩, ⟨(qR1 HO_3.out)⟩, ⟨(qR1 HO_4.out)⟩, ⟨(qR1 HO_8.out)⟩, ⟨(qR0)⟩⟩
          ·as_aux_lemma =>
           rw [if_neg c34] at H; have c34b0 : decide (0 ≤ t652) = false := decide_eq_false c34; clear c34
           (first | rw [c34b0] | (simp only [i64_w, i32_w]; rw [c34b0]) | skip)
           have H' := Aside0.mk H; clear H
           go_wp2
           go_meet
           case rel => exact ⟨_, (false), (qR12), H', ⟨by have := HJ6.out; have := HJ26.out; first | omega | exact Nat.le_refl _⟩, ⟨(qR1 HO_3.out)⟩, ⟨(qR1 HO_4.out)⟩, ⟨(qR1 HO_8.out)⟩, ⟨(qR0)⟩⟩
         ·as_aux_lemma =>
          replace c33 := Bool.eq_false_iff.mpr c33; subst c33; rw [if_neg (show ¬ (false = true) by decide)] at H; have H' := Aside0.mk H; clear H
          go_wp2
          go_meet
          case rel => exact ⟨_, (false), (qR12), H', ⟨by have := HJ6.out; have := HJ26.out; first | omega | exact Nat.le_refl _⟩, ⟨(qR1 HO_3.out)⟩, ⟨(qR1 HO_4.out)⟩, ⟨(qR1 HO_8.out)⟩, ⟨(qR0)⟩⟩
        case rest =>
         clear HC32; (try clear c1); (try clear c2); (try clear p2); (try clear c3); (try clear c5); (try clear c6); (try clear c7); (try clear c8); (try clear c12); (try clear c13); (try clear c13b0); (try clear c13b1); (try clear c13b2); (try clear c15); (try clear c24); (try clear c30); (try clear c30b0); (try clear c30b1); (try clear c31); (try clear c33); (try clear c34); (try clear c34b0); (try clear c35); (try clear c35b0); (try clear p2); obtain ⟨kq, x122_31, rfl, HA, HJ31, HO_3, HO_4, HO_8, HB⟩ := hcut
         cases kq with
         | zero => exact absurd HA.out (by simp [laws_FnRoutes.j2])
         | succ kj31 =>
          have H := HA.out; clear HA; simp only [laws_FnRoutes.j2] at H
          by_cases c36 : x122_31 = true
          ·as_aux_lemma =>
           subst c36; rw [if_pos rfl] at H; obtain rfl := Option.some.inj H
           go_wp2
           go_ret
           exact ⟨(qR10), (qR0)⟩
          ·as_aux_lemma =>
           replace c36 := Bool.eq_false_iff.mpr c36; subst c36; rw [if_neg (show ¬ (false = true) by decide)] at H; have HC37 := Aside0.mk H; clear H
           go_upto_if 123 with (fail)
           go_cut [] (fun wc => ∃ (kq : Nat), Aside0 (laws_FnRoutes.j4 kq l0 = some r) ∧ Aside0 (kq ≤ kj31) ∧ Aside0 (Below w.heap.size w wc))
           case first =>
            have H := HC37.out; clear HC37
            by_cases c38 : t658 = true
            ·as_aux_lemma =>
             subst c38; rw [if_pos rfl] at H; replace H := bindA H; obtain ⟨⟨t672, t673⟩, A39, H⟩ := H; (try dsimp only at H); replace H := bindA H; obtain ⟨⟨t674, t675⟩, A40, H⟩ := H; (try dsimp only at H); have HC41 := Aside0.mk H; clear H; obtain ⟨Ao42, co42, eo42⟩ := Kd.R_slice HO_8.out; subst eo42
             go_upto_region 17 with (first | ((with_reducible refine gate_callee (f := 14) rfl ?_); refine goesL_ (some 128) rfl rfl Try.func14 (by kernel_rfl) rfl #[.slice Ao9 t648.length co9, .slice Ao10 t649.length co10, .slice Ao42 t657.length co42] rfl (qR2) ?_; (with_reducible refine (impl_RouteWidth.calls kj31 _ _ t648 _ _ t649 _ _ t657 t672 t673 _ ?s1 ?s2 ?s3 ?s4 ?s5 ?s6 A39.out).mono ?_); (case s1 => exact (qR5 HO_3.out)); (case s2 => exact (qR32 HO_3.out)); (case s3 => exact (qR5 HO_4.out)); (case s4 => exact (qR32 HO_4.out)); (case s5 => exact (qR5 HO_8.out)); (case s6 => exact (qR32 HO_8.out)); rintro e w43 ⟨rfl, hb⟩; refine ⟨_, rfl, ?_⟩; replace HO_3 := Aside0.mk (qR64 HO_3.out); replace HO_4 := Aside0.mk (qR64 HO_4.out); replace HO_8 := Aside0.mk (qR64 HO_8.out); replace HB := Aside0.mk (qR62); clear hb) | ((with_reducible refine gate_callee (f := 15) rfl ?_); refine goesL_ (some 135) rfl rfl Try.func15 (by kernel_rfl) rfl #[.slice Ao9 t648.length co9, .slice Ao10 t649.length co10, .slice Ao42 t657.length co42] rfl (qR2) ?_; (with_reducible refine (impl_RouteLength.calls kj31 _ _ t648 _ _ t649 _ _ t657 t674 t675 _ ?s1 ?s2 ?s3 ?s4 ?s5 ?s6 A40.out).mono ?_); (case s1 => exact (qR5 HO_3.out)); (case s2 => exact (qR32 HO_3.out)); (case s3 => exact (qR5 HO_4.out)); (case s4 => exact (qR32 HO_4.out)); (case s5 => exact (qR5 HO_8.out)); (case s6 => exact (qR32 HO_8.out)); rintro e w44 ⟨rfl, hb⟩; refine ⟨_, rfl, ?_⟩; replace HO_3 := Aside0.mk (qR64 HO_3.out); replace HO_4 := Aside0.mk (qR64 HO_4.out); replace HO_8 := Aside0.mk (qR64 HO_8.out); replace HB := Aside0.mk (qR62); clear hb))
             (try simp only [Act.put, List.setIfInBounds_toArray, List.set_cons_zero, List.set_cons_succ])
             go_cut [170] (fun v170 wc => ∃ (kq : Nat) (x170_40 : Bool), v170 = .bool x170_40 ∧ Aside0 (laws_FnRoutes.j3 kq l0 t648 t649 t650 t651 t674 x170_40 = some r) ∧ Aside0 (kq ≤ kj31) ∧ Aside0 (Kd.R k58 58 wc w.heap.size (fun _ => True) (.slice Ao9 t648.length co9) t648) ∧ Aside0 (Kd.R (Kd.int .i64) 3 wc w.heap.size (fun _ => True) (.slice Ao10 t649.length co10) t649) ∧ Aside0 (Below w.heap.size w wc))
             case first =>
              have H := HC41.out; clear HC41
              by_cases c45 : t673 = true
              ·as_aux_lemma =>
               subst c45; rw [if_pos rfl] at H
               by_cases c46 : t672 < t652
               ·as_aux_lemma =>
                rw [if_pos c46] at H; have c46b0 : decide (t672 < t652) = true := decide_eq_true c46; clear c46
                (first | rw [c46b0] | (simp only [i64_w, i32_w]; rw [c46b0]) | skip)
                have H' := Aside0.mk H; clear H
                go_wp2
                go_meet
                case rel => exact ⟨_, (true), (qR12), H', ⟨by have := HJ6.out; have := HJ26.out; have := HJ31.out; first | omega | exact Nat.le_refl _⟩, ⟨(qR1 HO_3.out)⟩, ⟨(qR31 HO_4.out)⟩, ⟨(qR0)⟩⟩
               ·as_aux_lemma =>
                rw [if_neg c46] at H; have c46b0 : decide (t672 < t652) = false := decide_eq_false c46; clear c46
                (first | rw [c46b0] | (simp only [i64_w, i32_w]; rw [c46b0]) | skip)
                by_cases c47 : t672 > t668
                ·as_aux_lemma =>
                 rw [if_pos c47] at H; have c47b0 : decide (t668 < t672) = true := decide_eq_true c47; clear c47; have H' := Aside0.mk H; clear H
                 go_wp2
                 go_meet
                 case rel => exact ⟨_, (true), (qR12), H', ⟨by have := HJ6.out; have := HJ26.out; have := HJ31.out; first | omega | exact Nat.le_refl _⟩, ⟨(qR1 HO_3.out)⟩, ⟨(qR31 HO_4.out)⟩, ⟨(qR0)⟩⟩
                ·as_aux_lemma =>
                 rw [if_neg c47] at H; have c47b0 : decide (t668 < t672) = false := decide_eq_false c47; clear c47
                 by_cases c48 : t675 = true
                 ·as_aux_lemma =>
                  subst c48; rw [if_pos rfl] at H
                  by_cases c49 : 0 < (t657.length : Int)
                  ·as_aux_lemma =>
                   rw [if_pos c49] at H; have c49b0 : decide (0 < (t657.length : Int)) = true := decide_eq_true c49; have c49b1 : decide (0 < t657.length) = true := decide_eq_true (by omega); clear c49
                   by_cases c50 : (rd t657 0) = t650
                   ·as_aux_lemma =>
                    rw [if_pos c50] at H; have c50b0 : ((rd t657 0) == t650) = true := beq_iff_eq.mpr c50; have c50b1 : ((rd t657 0) != t650) = false := bne_eq_false_iff_eq.mpr c50; clear c50; obtain ⟨ji51, hji51⟩ : ∃ j_ : Int, (wrap64 ((t657.length : Int) - 1)) = j_ := ⟨_, rfl⟩
                    replace H : (if 0 ≤ (ji51) then (if (ji51) < (t657.length : Int) then (laws_FnRoutes.j3 kj31 l0 t648 t649 t650 t651 t674 ((rd t657 (ji51)) != t651)) else (none)) else (none)) = some r := by first | (rw [hji51] at H; exact H) | (simp only [hji51] at H ⊢; exact H)
                    have hji51w : (IntKind.i64.wrap ((t657.length : Int) - 1)) = ji51 := (i64_w _).trans hji51
                    by_cases c52 : 0 ≤ (ji51)
                    ·as_aux_lemma =>
                     rw [if_pos c52] at H; have c52b0 : decide (0 ≤ (ji51)) = true := decide_eq_true c52; clear c52
                     by_cases c53 : (ji51) < (t657.length : Int)
                     ·as_aux_lemma =>
                      rw [if_pos c53] at H; have c53b0 : decide ((ji51) < (t657.length : Int)) = true := decide_eq_true c53; clear c53; have H' := Aside0.mk H; clear H; have p676 : 0 ≤ (0 : Int) := (by omega); have q676 : 0 < (t657.length : Int) := of_decide_eq_true (qR8); obtain ⟨ad676, e676, hx676_0⟩ := Kd.at_int (Kd.R_reads' HO_8.out).2.2 0 p676 q676; cases e676; have qi676 : (0 < t657.length) = True := eq_true (by omega)
                      (try rw [show ((0 : Int)).toNat = 0 from rfl] at hx676_0)
                      (try rw [Addr.add_zero'] at hx676_0); replace p676 := eq_true p676; replace q676 := eq_true q676; have p677 : 0 ≤ ((ji51) : Int) := of_decide_eq_true (qR8); have q677 : (ji51) < (t657.length : Int) := of_decide_eq_true (qR8); obtain ⟨ad677, e677, hx677_0⟩ := Kd.at_int (Kd.R_reads' HO_8.out).2.2 (ji51) p677 q677; obtain rfl : ad676 = ad677 := (by injection e677); replace p677 := eq_true p677; replace q677 := eq_true q677
                      go_wp2
                      go_meet
                      case rel => exact ⟨_, (((rd t657 (ji51)) != t651)), (by first | rfl | (simp; done) | (simp only [← hji51] <;> (first | rfl | simp)) | (simp [*]; done)), H', ⟨by have := HJ6.out; have := HJ26.out; have := HJ31.out; first | omega | exact Nat.le_refl _⟩, ⟨(qR1 HO_3.out)⟩, ⟨(qR31 HO_4.out)⟩, ⟨(qR0)⟩⟩
                     ·as_aux_lemma =>
                      rw [if_neg c53] at H
                      exact absurd H (by simp)
                    ·as_aux_lemma =>
                     rw [if_neg c52] at H
                     exact absurd H (by simp)
                   ·as_aux_lemma =>
                    rw [if_neg c50] at H; have c50b0 : ((rd t657 0) == t650) = false := beq_eq_false_iff_ne.mpr c50; have c50b1 : ((rd t657 0) != t650) = true := bne_iff_ne.mpr c50; have H' := Aside0.mk H; clear H; have p676 : 0 ≤ (0 : Int) := (by omega); have q676 : 0 < (t657.length : Int) := of_decide_eq_true (qR8); obtain ⟨ad676, e676, hx676_0⟩ := Kd.at_int (Kd.R_reads' HO_8.out).2.2 0 p676 q676; cases e676; have qi676 : (0 < t657.length) = True := eq_true (by omega)
                    (try rw [show ((0 : Int)).toNat = 0 from rfl] at hx676_0)
                    (try rw [Addr.add_zero'] at hx676_0); replace p676 := eq_true p676; replace q676 := eq_true q676
                    go_wp2
                    go_meet
                    case rel => exact ⟨_, (true), (qR12), H', ⟨by have := HJ6.out; have := HJ26.out; have := HJ31.out; first | omega | exact Nat.le_refl _⟩, ⟨(qR1 HO_3.out)⟩, ⟨(qR31 HO_4.out)⟩, ⟨(qR0)⟩⟩
                  ·as_aux_lemma =>
                   rw [if_neg c49] at H
                   exact absurd H (by simp)
                 ·as_aux_lemma =>
                  replace c48 := Bool.eq_false_iff.mpr c48; subst c48; rw [if_neg (show ¬ (false = true) by decide)] at H; have H' := Aside0.mk H; clear H
                  go_wp2
                  go_meet
                  case rel => exact ⟨_, (true), (qR12), H', ⟨by have := HJ6.out; have := HJ26.out; have := HJ31.out; first | omega | exact Nat.le_refl _⟩, ⟨(qR1 HO_3.out)⟩, ⟨(qR31 HO_4.out)⟩, ⟨(qR0)⟩⟩
              ·as_aux_lemma =>
               replace c45 := Bool.eq_false_iff.mpr c45; subst c45; rw [if_neg (show ¬ (false = true) by decide)] at H; have H' := Aside0.mk H; clear H
               go_wp2
               go_meet
               case rel => exact ⟨_, (true), (qR12), H', ⟨by have := HJ6.out; have := HJ26.out; have := HJ31.out; first | omega | exact Nat.le_refl _⟩, ⟨(qR1 HO_3.out)⟩, ⟨(qR31 HO_4.out)⟩, ⟨(qR0)⟩⟩
             case rest =>
              clear HC41; (try clear c1); (try clear c2); (try clear p2); (try clear c3); (try clear c4); (try clear c5); (try clear c6); (try clear p6); (try clear q6); (try clear hx6); (try clear qi6); (try clear c7); (try clear c8); (try clear c12); (try clear c13); (try clear c13b0); (try clear c13b1); (try clear c13b2); (try clear c14); (try clear c15); (try clear c24); (try clear c30); (try clear c30b0); (try clear c30b1); (try clear c31); (try clear c33); (try clear c34); (try clear c34b0); (try clear c35); (try clear c35b0); (try clear c36); (try clear c38); (try clear c45); (try clear c46); (try clear c46b0); (try clear c47); (try clear c47b0); (try clear c48); (try clear c49); (try clear c49b0); (try clear c49b1); (try clear c50); (try clear c50b0); (try clear c50b1); (try clear c52); (try clear c52b0); (try clear c53); (try clear c53b0); (try clear hx676_0); (try clear hx677_0); (try clear p2); (try clear p676); (try clear p677); (try clear q676); (try clear q677); obtain ⟨kq, x170_40, rfl, HA, HJ40, HO_3, HO_4, HB⟩ := hcut
              cases kq with
              | zero => exact absurd HA.out (by simp [laws_FnRoutes.j3])
              | succ kj40 =>
               have H := HA.out; clear HA; simp only [laws_FnRoutes.j3] at H
               by_cases c54 : x170_40 = true
               ·as_aux_lemma =>
                subst c54; rw [if_pos rfl] at H; obtain rfl := Option.some.inj H
                go_wp2
                go_ret
                exact ⟨(qR10), (qR0)⟩
               ·as_aux_lemma =>
                replace c54 := Bool.eq_false_iff.mpr c54; subst c54; rw [if_neg (show ¬ (false = true) by decide)] at H; replace H := bindA H; obtain ⟨⟨t678, t679⟩, A55, H⟩ := H; (try dsimp only at H)
                by_cases c56 : t679 = true
                ·as_aux_lemma =>
                 subst c56; rw [if_pos rfl] at H; replace H := bindA H; obtain ⟨⟨t682, t683⟩, A57, H⟩ := H; (try dsimp only at H)
                 by_cases c58 : t683 = true
                 ·as_aux_lemma =>
                  subst c58; rw [if_pos rfl] at H
                  by_cases c59 : t682 > t674
                  ·as_aux_lemma =>
                   rw [if_pos c59] at H; have c59b0 : decide (t674 < t682) = true := decide_eq_true c59; clear c59; obtain rfl := Option.some.inj H
                   go_wp2_with (first | ((with_reducible refine gate_callee (f := 7) rfl ?_); refine goesL_ (some 176) rfl rfl Try.func7 (by kernel_rfl) rfl #[.slice Ao9 t648.length co9, .slice Ao10 t649.length co10, .int .i64 t650, .int .i64 t651, .int .i64 0] rfl (qR2) ?_; (with_reducible refine (impl_BestRoute.calls kj40 _ _ t648 _ _ t649 t650 t651 0 t678 true _ ?s1 ?s2 ?s3 ?s4 A55.out).mono ?_); (case s1 => exact (qR5 HO_3.out)); (case s2 => exact (qR32 HO_3.out)); (case s3 => exact (qR5 HO_4.out)); (case s4 => exact (qR32 HO_4.out)); rintro e w60 ⟨v680, rfl, ho0, hb⟩; refine ⟨_, rfl, ?_⟩; replace HO_3 := Aside0.mk (qR64 HO_3.out); have HO681 := Aside0.mk (qR73 ho0 HO_4.out); replace HO_4 := Aside0.mk (qR65 HO_4.out ho0); replace HB := Aside0.mk (qR62); clear hb ho0; obtain ⟨Ao61, co61, eo61⟩ := Kd.R_slice HO681.out; subst eo61) | ((with_reducible refine gate_callee (f := 15) rfl ?_); refine goesL_ (some 184) rfl rfl Try.func15 (by kernel_rfl) rfl #[.slice Ao9 t648.length co9, .slice Ao10 t649.length co10, .slice Ao61 t678.length co61] rfl (qR2) ?_; (with_reducible refine (impl_RouteLength.calls kj40 _ _ t648 _ _ t649 _ _ t678 t682 true _ ?s1 ?s2 ?s3 ?s4 ?s5 ?s6 A57.out).mono ?_); (case s1 => exact (qR5 HO_3.out)); (case s2 => exact (qR32 HO_3.out)); (case s3 => exact (qR5 HO_4.out)); (case s4 => exact (qR32 HO_4.out)); (case s5 => exact (qR5 HO681.out)); (case s6 => exact (qR32 HO681.out)); rintro e w62 ⟨rfl, hb⟩; refine ⟨_, rfl, ?_⟩; replace HO_3 := Aside0.mk (qR64 HO_3.out); replace HO_4 := Aside0.mk (qR64 HO_4.out); replace HO681 := Aside0.mk (qR64 HO681.out); replace HB := Aside0.mk (qR62); clear hb))
                   go_ret
                   exact ⟨(qR10), (qR0)⟩
                  ·as_aux_lemma =>
                   rw [if_neg c59] at H; have c59b0 : decide (t674 < t682) = false := decide_eq_false c59; clear c59; have H' := Aside0.mk H; clear H
                   go_wp2_with (first | ((with_reducible refine gate_callee (f := 7) rfl ?_); refine goesL_ (some 176) rfl rfl Try.func7 (by kernel_rfl) rfl #[.slice Ao9 t648.length co9, .slice Ao10 t649.length co10, .int .i64 t650, .int .i64 t651, .int .i64 0] rfl (qR2) ?_; (with_reducible refine (impl_BestRoute.calls kj40 _ _ t648 _ _ t649 t650 t651 0 t678 true _ ?s1 ?s2 ?s3 ?s4 A55.out).mono ?_); (case s1 => exact (qR5 HO_3.out)); (case s2 => exact (qR32 HO_3.out)); (case s3 => exact (qR5 HO_4.out)); (case s4 => exact (qR32 HO_4.out)); rintro e w63 ⟨v680, rfl, ho0, hb⟩; refine ⟨_, rfl, ?_⟩; replace HO_3 := Aside0.mk (qR64 HO_3.out); have HO681 := Aside0.mk (qR73 ho0 HO_4.out); replace HO_4 := Aside0.mk (qR65 HO_4.out ho0); replace HB := Aside0.mk (qR62); clear hb ho0; obtain ⟨Ao64, co64, eo64⟩ := Kd.R_slice HO681.out; subst eo64) | ((with_reducible refine gate_callee (f := 15) rfl ?_); refine goesL_ (some 184) rfl rfl Try.func15 (by kernel_rfl) rfl #[.slice Ao9 t648.length co9, .slice Ao10 t649.length co10, .slice Ao64 t678.length co64] rfl (qR2) ?_; (with_reducible refine (impl_RouteLength.calls kj40 _ _ t648 _ _ t649 _ _ t678 t682 true _ ?s1 ?s2 ?s3 ?s4 ?s5 ?s6 A57.out).mono ?_); (case s1 => exact (qR5 HO_3.out)); (case s2 => exact (qR32 HO_3.out)); (case s3 => exact (qR5 HO_4.out)); (case s4 => exact (qR32 HO_4.out)); (case s5 => exact (qR5 HO681.out)); (case s6 => exact (qR32 HO681.out)); rintro e w65 ⟨rfl, hb⟩; refine ⟨_, rfl, ?_⟩; replace HO_3 := Aside0.mk (qR64 HO_3.out); replace HO_4 := Aside0.mk (qR64 HO_4.out); replace HO681 := Aside0.mk (qR64 HO681.out); replace HB := Aside0.mk (qR62); clear hb))
                   go_meet
                   case rel => exact ⟨_, H', ⟨by have := HJ6.out; have := HJ26.out; have := HJ31.out; have := HJ40.out; first | omega | exact Nat.le_refl _⟩, ⟨(qR0)⟩⟩
                 ·as_aux_lemma =>
                  replace c58 := Bool.eq_false_iff.mpr c58; subst c58; rw [if_neg (show ¬ (false = true) by decide)] at H; obtain rfl := Option.some.inj H
                  go_wp2_with (first | ((with_reducible refine gate_callee (f := 7) rfl ?_); refine goesL_ (some 176) rfl rfl Try.func7 (by kernel_rfl) rfl #[.slice Ao9 t648.length co9, .slice Ao10 t649.length co10, .int .i64 t650, .int .i64 t651, .int .i64 0] rfl (qR2) ?_; (with_reducible refine (impl_BestRoute.calls kj40 _ _ t648 _ _ t649 t650 t651 0 t678 true _ ?s1 ?s2 ?s3 ?s4 A55.out).mono ?_); (case s1 => exact (qR5 HO_3.out)); (case s2 => exact (qR32 HO_3.out)); (case s3 => exact (qR5 HO_4.out)); (case s4 => exact (qR32 HO_4.out)); rintro e w66 ⟨v680, rfl, ho0, hb⟩; refine ⟨_, rfl, ?_⟩; replace HO_3 := Aside0.mk (qR64 HO_3.out); have HO681 := Aside0.mk (qR73 ho0 HO_4.out); replace HO_4 := Aside0.mk (qR65 HO_4.out ho0); replace HB := Aside0.mk (qR62); clear hb ho0; obtain ⟨Ao67, co67, eo67⟩ := Kd.R_slice HO681.out; subst eo67) | ((with_reducible refine gate_callee (f := 15) rfl ?_); refine goesL_ (some 184) rfl rfl Try.func15 (by kernel_rfl) rfl #[.slice Ao9 t648.length co9, .slice Ao10 t649.length co10, .slice Ao67 t678.length co67] rfl (qR2) ?_; (with_reducible refine (impl_RouteLength.calls kj40 _ _ t648 _ _ t649 _ _ t678 t682 false _ ?s1 ?s2 ?s3 ?s4 ?s5 ?s6 A57.out).mono ?_); (case s1 => exact (qR5 HO_3.out)); (case s2 => exact (qR32 HO_3.out)); (case s3 => exact (qR5 HO_4.out)); (case s4 => exact (qR32 HO_4.out)); (case s5 => exact (qR5 HO681.out)); (case s6 => exact (qR32 HO681.out)); rintro e w68 ⟨rfl, hb⟩; refine ⟨_, rfl, ?_⟩; replace HO_3 := Aside0.mk (qR64 HO_3.out); replace HO_4 := Aside0.mk (qR64 HO_4.out); replace HO681 := Aside0.mk (qR64 HO681.out); replace HB := Aside0.mk (qR62); clear hb))
                  go_ret
                  exact ⟨(qR10), (qR0)⟩
                ·as_aux_lemma =>
                 replace c56 := Bool.eq_false_iff.mpr c56; subst c56; rw [if_neg (show ¬ (false = true) by decide)] at H; have H' := Aside0.mk H; clear H
                 go_wp2_with (first | ((with_reducible refine gate_callee (f := 7) rfl ?_); refine goesL_ (some 176) rfl rfl Try.func7 (by kernel_rfl) rfl #[.slice Ao9 t648.length co9, .slice Ao10 t649.length co10, .int .i64 t650, .int .i64 t651, .int .i64 0] rfl (qR2) ?_; (with_reducible refine (impl_BestRoute.calls kj40 _ _ t648 _ _ t649 t650 t651 0 t678 false _ ?s1 ?s2 ?s3 ?s4 A55.out).mono ?_); (case s1 => exact (qR5 HO_3.out)); (case s2 => exact (qR32 HO_3.out)); (case s3 => exact (qR5 HO_4.out)); (case s4 => exact (qR32 HO_4.out)); rintro e w69 ⟨v680, rfl, ho0, hb⟩; refine ⟨_, rfl, ?_⟩; replace HO_3 := Aside0.mk (qR64 HO_3.out); have HO681 := Aside0.mk (qR73 ho0 HO_4.out); replace HO_4 := Aside0.mk (qR65 HO_4.out ho0); replace HB := Aside0.mk (qR62); clear hb ho0))
                 go_meet
                 case rel => exact ⟨_, H', ⟨by have := HJ6.out; have := HJ26.out; have := HJ31.out; have := HJ40.out; first | omega | exact Nat.le_refl _⟩, ⟨(qR0)⟩⟩
            ·as_aux_lemma =>
             replace c38 := Bool.eq_false_iff.mpr c38; subst c38; rw [if_neg (show ¬ (false = true) by decide)] at H; have H' := Aside0.mk H; clear H
             go_wp2
             go_meet
             case rel => exact ⟨_, H', ⟨by have := HJ6.out; have := HJ26.out; have := HJ31.out; first | omega | exact Nat.le_refl _⟩, ⟨(qR0)⟩⟩
           case rest =>
            clear HC37; (try clear c1); (try clear c2); (try clear p2); (try clear c3); (try clear c4); (try clear c5); (try clear c6); (try clear p6); (try clear q6); (try clear hx6); (try clear qi6); (try clear c7); (try clear c8); (try clear c12); (try clear c13); (try clear c13b0); (try clear c13b1); (try clear c13b2); (try clear c14); (try clear c15); (try clear c24); (try clear c30); (try clear c30b0); (try clear c30b1); (try clear c31); (try clear c33); (try clear c34); (try clear c34b0); (try clear c35); (try clear c35b0); (try clear c36); (try clear c38); (try clear c45); (try clear c46); (try clear c46b0); (try clear c47); (try clear c47b0); (try clear c48); (try clear c49); (try clear c49b0); (try clear c49b1); (try clear c50); (try clear c50b0); (try clear c50b1); (try clear c52); (try clear c52b0); (try clear c53); (try clear c53b0); (try clear c54); (try clear c56); (try clear c58); (try clear c59); (try clear c59b0); (try clear p64); (try clear p67); (try clear q67); (try clear hx67); (try clear qi67); (try clear hx676_0); (try clear hx677_0); (try clear p2); (try clear p6); (try clear p676); (try clear p677); (try clear q6); (try clear q676); (try clear q677); obtain ⟨kq, HA, HJ36, HB⟩ := hcut
            cases kq with
            | zero => exact absurd HA.out (by simp [laws_FnRoutes.j4])
            | succ kj36 =>
             have H := HA.out; clear HA; simp only [laws_FnRoutes.j4] at H; replace H := bindA H; obtain ⟨⟨t684, t685, t686⟩, A70, H⟩ := H; (try dsimp only at H); replace H := bindA H; obtain ⟨⟨t693, t694⟩, A71, H⟩ := H; (try dsimp only at H); replace H := bindA H; obtain ⟨⟨t695, t696⟩, A72, H⟩ := H; (try dsimp only at H); have HC73 := Aside0.mk H; clear H
             go_upto_region 27 with (first | ((with_reducible refine gate_callee (f := 16) rfl ?_); refine goesL_ (some 196) rfl rfl Try.func16 (by kernel_rfl) rfl #[.slice A0 l0.length c0] rfl (qR2) ?_; (with_reducible refine (spec_DrawRouteWidth.calls kj36 _ _ l0 t684 t685 t686 _ ?s1 ?s2 A70.out).mono ?_); (case s1 => exact (qR14 HR0.out)); (case s2 => exact HC0.out); rintro e w74 ⟨v687, v689, v691, rfl, ho0, ho1, ho2, hb⟩; refine ⟨_, rfl, ?_⟩; have HO688 := Aside0.mk (qR70 ho0); have HO690 := Aside0.mk (qR70 ho1); have HO692 := Aside0.mk (qR70 ho2); replace HB := Aside0.mk (qR62); clear hb ho0 ho1; obtain ⟨Ao75, co75, eo75⟩ := Kd.R_slice HO688.out; subst eo75; obtain ⟨Ao76, co76, eo76⟩ := Kd.R_slice HO690.out; subst eo76; obtain ⟨Ao77, co77, eo77⟩ := Kd.R_slice HO692.out; subst eo77) | ((with_reducible refine gate_callee (f := 14) rfl ?_); refine goesL_ (some 204) rfl rfl Try.func14 (by kernel_rfl) rfl #[.slice Ao75 t684.length co75, .slice Ao76 t685.length co76, .slice Ao77 t686.length co77] rfl (qR2) ?_; (with_reducible refine (impl_RouteWidth.calls kj36 _ _ t684 _ _ t685 _ _ t686 t693 t694 _ ?s1 ?s2 ?s3 ?s4 ?s5 ?s6 A71.out).mono ?_); (case s1 => exact (qR5 HO688.out)); (case s2 => exact (qR32 HO688.out)); (case s3 => exact (qR5 HO690.out)); (case s4 => exact (qR32 HO690.out)); (case s5 => exact (qR5 HO692.out)); (case s6 => exact (qR32 HO692.out)); rintro e w78 ⟨rfl, hb⟩; refine ⟨_, rfl, ?_⟩; replace HO688 := Aside0.mk (qR64 HO688.out); replace HO690 := Aside0.mk (qR64 HO690.out); replace HO692 := Aside0.mk (qR64 HO692.out); replace HB := Aside0.mk (qR62); clear hb) | ((with_reducible refine gate_callee (f := 17) rfl ?_); refine goesL_ (some 211) rfl rfl Try.func17 (by kernel_rfl) rfl #[.slice Ao75 t684.length co75, .slice Ao76 t685.length co76, .slice Ao77 t686.length co77] rfl (qR2) ?_; (with_reducible refine (spec_RouteWidth.calls kj36 _ _ t684 _ _ t685 _ _ t686 t695 t696 _ ?s1 ?s2 ?s3 ?s4 ?s5 ?s6 A72.out).mono ?_); (case s1 => exact (qR5 HO688.out)); (case s2 => exact (qR32 HO688.out)); (case s3 => exact (qR5 HO690.out)); (case s4 => exact (qR32 HO690.out)); (case s5 => exact (qR5 HO692.out)); (case s6 => exact (qR32 HO692.out)); rintro e w79 ⟨rfl, hb⟩; refine ⟨_, rfl, ?_⟩; replace HO688 := Aside0.mk (qR64 HO688.out); replace HO690 := Aside0.mk (qR64 HO690.out); replace HO692 := Aside0.mk (qR64 HO692.out); replace HB := Aside0.mk (qR62); clear hb))
             (try simp only [Act.put, List.setIfInBounds_toArray, List.set_cons_zero, List.set_cons_succ])
             go_cut [221] (fun v221 wc => ∃ (kq : Nat) (x221_72 : Bool), v221 = .bool x221_72 ∧ Aside0 (laws_FnRoutes.j5 kq t684 t685 t686 t693 t694 x221_72 = some r) ∧ Aside0 (kq ≤ kj36) ∧ Aside0 (Kd.R k58 58 wc w.heap.size (fun _ => True) (.slice Ao75 t684.length co75) t684) ∧ Aside0 (Kd.R (Kd.int .i64) 3 wc w.heap.size (fun k_ => some k_ ≠ ((.slice Ao77 t686.length co77) : Value).ownBlock) (.slice Ao76 t685.length co76) t685) ∧ Aside0 (Kd.R (Kd.int .i64) 3 wc w.heap.size (fun k_ => some k_ ≠ ((.slice Ao76 t685.length co76) : Value).ownBlock) (.slice Ao77 t686.length co77) t686) ∧ Aside0 (Below w.heap.size w wc))
             case first =>
              have H := HC73.out; clear HC73
              by_cases c80 : t693 = t695
              ·as_aux_lemma =>
               rw [if_pos c80] at H; have c80b0 : (t693 == t695) = true := beq_iff_eq.mpr c80; have c80b1 : (t693 != t695) = false := bne_eq_false_iff_eq.mpr c80; clear c80
               (first | rw [c80b0] | (simp only [i64_w, i32_w]; rw [c80b0]) | skip)
               have H' := Aside0.mk H; clear H
               go_wp2
               go_meet
               case rel => exact ⟨_, ((t694 != t696)), (qR12), H', ⟨by have := HJ6.out; have := HJ26.out; have := HJ31.out; have := HJ36.out; first | omega | exact Nat.le_refl _⟩, ⟨(qR1 HO688.out)⟩, ⟨(qR1 HO690.out)⟩, ⟨(qR1 HO692.out)⟩, ⟨(qR0)⟩⟩
              ·as_aux_lemma =>
               rw [if_neg c80] at H; have c80b0 : (t693 == t695) = false := beq_eq_false_iff_ne.mpr c80; have c80b1 : (t693 != t695) = true := bne_iff_ne.mpr c80
               (first | rw [c80b0] | (simp only [i64_w, i32_w]; rw [c80b0]) | skip)
               have H' := Aside0.mk H; clear H
               go_wp2
               go_meet
               case rel => exact ⟨_, (true), (qR12), H', ⟨by have := HJ6.out; have := HJ26.out; have := HJ31.out; have := HJ36.out; first | omega | exact Nat.le_refl _⟩, ⟨(qR1 HO688.out)⟩, ⟨(qR1 HO690.out)⟩, ⟨(qR1 HO692.out)⟩, ⟨(qR0)⟩⟩
             case rest =>
              clear HC73; (try clear c1); (try clear c2); (try clear p2); (try clear c3); (try clear c4); (try clear c5); (try clear c6); (try clear p6); (try clear q6); (try clear hx6); (try clear qi6); (try clear c7); (try clear c8); (try clear c12); (try clear c13); (try clear c13b0); (try clear c13b1); (try clear c13b2); (try clear c14); (try clear c15); (try clear c16); (try clear c17); (try clear c24); (try clear c30); (try clear c30b0); (try clear c30b1); (try clear c31); (try clear c33); (try clear c34); (try clear c34b0); (try clear c35); (try clear c35b0); (try clear c36); (try clear c38); (try clear c45); (try clear c46); (try clear c46b0); (try clear c47); (try clear c47b0); (try clear c48); (try clear c49); (try clear c49b0); (try clear c49b1); (try clear c50); (try clear c50b0); (try clear c50b1); (try clear c52); (try clear c52b0); (try clear c53); (try clear c53b0); (try clear c54); (try clear c56); (try clear c58); (try clear c59); (try clear c59b0); (try clear p64); (try clear p67); (try clear q67); (try clear hx67); (try clear qi67); (try clear c80); (try clear c80b0); (try clear c80b1); (try clear hx676_0); (try clear hx677_0); (try clear p2); (try clear p6); (try clear p64); (try clear p67); (try clear p676); (try clear p677); (try clear q6); (try clear q67); (try clear q676); (try clear q677); obtain ⟨kq, x221_72, rfl, HA, HJ72, HO_24, HO_25, HO_26, HB⟩ := hcut
              cases kq with
              | zero => exact absurd HA.out (by simp [laws_FnRoutes.j5])
              | succ kj72 =>
               have H := HA.out; clear HA; simp only [laws_FnRoutes.j5] at H
               by_cases c81 : x221_72 = true
               ·as_aux_lemma =>
                subst c81; rw [if_pos rfl] at H; obtain rfl := Option.some.inj H
                go_wp2
                go_ret
                exact ⟨(qR10), (qR0)⟩
               ·as_aux_lemma =>
                replace c81 := Bool.eq_false_iff.mpr c81; subst c81; rw [if_neg (show ¬ (false = true) by decide)] at H; replace H := bindA H; obtain ⟨⟨t697, t698⟩, A82, H⟩ := H; (try dsimp only at H); replace H := bindA H; obtain ⟨⟨t699, t700⟩, A83, H⟩ := H; (try dsimp only at H); have HC84 := Aside0.mk H; clear H
                go_upto_region 31 with (first | ((with_reducible refine gate_callee (f := 15) rfl ?_); refine goesL_ (some 226) rfl rfl Try.func15 (by kernel_rfl) rfl #[.slice Ao75 t684.length co75, .slice Ao76 t685.length co76, .slice Ao77 t686.length co77] rfl (qR2) ?_; (with_reducible refine (impl_RouteLength.calls kj72 _ _ t684 _ _ t685 _ _ t686 t697 t698 _ ?s1 ?s2 ?s3 ?s4 ?s5 ?s6 A82.out).mono ?_); (case s1 => exact (qR5 HO_24.out)); (case s2 => exact (qR32 HO_24.out)); (case s3 => exact (qR5 HO_25.out)); (case s4 => exact (qR32 HO_25.out)); (case s5 => exact (qR5 HO_26.out)); (case s6 => exact (qR32 HO_26.out)); rintro e w85 ⟨rfl, hb⟩; refine ⟨_, rfl, ?_⟩; replace HO_24 := Aside0.mk (qR64 HO_24.out); replace HO_25 := Aside0.mk (qR64 HO_25.out); replace HO_26 := Aside0.mk (qR64 HO_26.out); replace HB := Aside0.mk (qR62); clear hb) | ((with_reducible refine gate_callee (f := 18) rfl ?_); refine goesL_ (some 233) rfl rfl Try.func18 (by kernel_rfl) rfl #[.slice Ao75 t684.length co75, .slice Ao76 t685.length co76, .slice Ao77 t686.length co77] rfl (qR2) ?_; (with_reducible refine (spec_RouteLength.calls kj72 _ _ t684 _ _ t685 _ _ t686 t699 t700 _ ?s1 ?s2 ?s3 ?s4 ?s5 ?s6 A83.out).mono ?_); (case s1 => exact (qR5 HO_24.out)); (case s2 => exact (qR32 HO_24.out)); (case s3 => exact (qR5 HO_25.out)); (case s4 => exact (qR32 HO_25.out)); (case s5 => exact (qR5 HO_26.out)); (case s6 => exact (qR32 HO_26.out)); rintro e w86 ⟨rfl, hb⟩; refine ⟨_, rfl, ?_⟩; replace HO_24 := Aside0.mk (qR64 HO_24.out); replace HO_25 := Aside0.mk (qR64 HO_25.out); replace HO_26 := Aside0.mk (qR64 HO_26.out); replace HB := Aside0.mk (qR62); clear hb))
                (try simp only [Act.put, List.setIfInBounds_toArray, List.set_cons_zero, List.set_cons_succ])
                go_cut [248] (fun v248 wc => ∃ (kq : Nat) (x248_83 : Bool), v248 = .bool x248_83 ∧ Aside0 (laws_FnRoutes.j6 kq t684 t685 t686 t693 t694 x248_83 = some r) ∧ Aside0 (kq ≤ kj72) ∧ Aside0 (Kd.R k58 58 wc w.heap.size (fun _ => True) (.slice Ao75 t684.length co75) t684) ∧ Aside0 (Kd.R (Kd.int .i64) 3 wc w.heap.size (fun k_ => some k_ ≠ ((.slice Ao77 t686.length co77) : Value).ownBlock) (.slice Ao76 t685.length co76) t685) ∧ Aside0 (Kd.R (Kd.int .i64) 3 wc w.heap.size (fun k_ => some k_ ≠ ((.slice Ao76 t685.length co76) : Value).ownBlock) (.slice Ao77 t686.length co77) t686) ∧ Aside0 (Below w.heap.size w wc))
                case first =>
                 have H := HC84.out; clear HC84
                 by_cases c87 : t697 = t699
                 ·as_aux_lemma =>
                  rw [if_pos c87] at H; have c87b0 : (t697 == t699) = true := beq_iff_eq.mpr c87; have c87b1 : (t697 != t699) = false := bne_eq_false_iff_eq.mpr c87; clear c87
                  (first | rw [c87b0] | (simp only [i64_w, i32_w]; rw [c87b0]) | skip)
                  by_cases c88 : (t698 != t700) = true
                  ·as_aux_lemma =>
                   rw [if_pos c88] at H; have c88b0 : (t698 != t700) = true := c88
                   (try (have c88b1 : decide (t698 = t700) = false := by simpa using c88))
                   (try (have c88b2 : (t698 == t700) = false := by simpa using c88))
                   (try (have c88b3 : ¬ (t698 = t700) := by simpa using c88)); clear c88; have H' := Aside0.mk H; clear H
                   go_wp2
                   go_meet
                   case rel => exact ⟨_, (true), (qR12), H', ⟨by have := HJ6.out; have := HJ26.out; have := HJ31.out; have := HJ36.out; have := HJ72.out; first | omega | exact Nat.le_refl _⟩, ⟨(qR1 HO_24.out)⟩, ⟨(qR1 HO_25.out)⟩, ⟨(qR1 HO_26.out)⟩, ⟨(qR0)⟩⟩
                  ·as_aux_lemma =>
                   rw [if_neg c88] at H
                   have c88b0 : (t698 != t700) = false := by simpa using c88
                   (try (have c88b1 : decide (t698 = t700) = true := by simpa using c88))
                   (try (have c88b2 : (t698 == t700) = true := by simpa using c88)); clear c88; have H' := Aside0.mk H; clear H
                   go_wp2
                   go_meet
                   case rel => exact ⟨_, ((t698 != t694)), (qR12), H', ⟨by have := HJ6.out; have := HJ26.out; have := HJ31.out; have := HJ36.out; have := HJ72.out; first | omega | exact Nat.le_refl _⟩, ⟨(qR1 HO_24.out)⟩, ⟨(qR1 HO_25.out)⟩, ⟨(qR1 HO_26.out)⟩, ⟨(qR0)⟩⟩
                 ·as_aux_lemma =>
                  rw [if_neg c87] at H; have c87b0 : (t697 == t699) = false := beq_eq_false_iff_ne.mpr c87; have c87b1 : (t697 != t699) = true := bne_iff_ne.mpr c87
                  (first | rw [c87b0] | (simp only [i64_w, i32_w]; rw [c87b0]) | skip)
                  have H' := Aside0.mk H; clear H
                  go_wp2
                  go_meet
                  case rel => exact ⟨_, (true), (qR12), H', ⟨by have := HJ6.out; have := HJ26.out; have := HJ31.out; have := HJ36.out; have := HJ72.out; first | omega | exact Nat.le_refl _⟩, ⟨(qR1 HO_24.out)⟩, ⟨(qR1 HO_25.out)⟩, ⟨(qR1 HO_26.out)⟩, ⟨(qR0)⟩⟩
                case rest =>
                 clear HC84; (try clear c1); (try clear c2); (try clear p2); (try clear c3); (try clear c4); (try clear c5); (try clear c6); (try clear p6); (try clear q6); (try clear hx6); (try clear qi6); (try clear c7); (try clear c8); (try clear c12); (try clear c13); (try clear c13b0); (try clear c13b1); (try clear c13b2); (try clear c14); (try clear c15); (try clear c16); (try clear c17); (try clear c18); (try clear c24); (try clear c30); (try clear c30b0); (try clear c30b1); (try clear c31); (try clear c33); (try clear c34); (try clear c34b0); (try clear c35); (try clear c35b0); (try clear c36); (try clear c38); (try clear c45); (try clear c46); (try clear c46b0); (try clear c47); (try clear c47b0); (try clear c48); (try clear c49); (try clear c49b0); (try clear c49b1); (try clear c50); (try clear c50b0); (try clear c50b1); (try clear c52); (try clear c52b0); (try clear c53); (try clear c53b0); (try clear c54); (try clear c56); (try clear c58); (try clear c59); (try clear c59b0); (try clear p64); (try clear p67); (try clear q67); (try clear hx67); (try clear qi67); (try clear c80); (try clear c80b0); (try clear c80b1); (try clear c81); (try clear c87); (try clear c87b0); (try clear c87b1); (try clear c88); (try clear c88b0); (try clear c88b1); (try clear c88b2); (try clear hx676_0); (try clear hx677_0); (try clear p2); (try clear p6); (try clear p64); (try clear p67); (try clear p676); (try clear p677); (try clear q6); (try clear q67); (try clear q676); (try clear q677)
                 obtain ⟨kq, x248_83, rfl, HA, HJ83, HO_24, HO_25, HO_26, HB⟩ := hcut
                 cases kq with
                 | zero => exact absurd HA.out (by simp [laws_FnRoutes.j6])
                 | succ kj83 =>
                  have H := HA.out; clear HA; simp only [laws_FnRoutes.j6] at H
                  by_cases c89 : x248_83 = true
                  ·as_aux_lemma =>
                   subst c89; rw [if_pos rfl] at H; obtain rfl := Option.some.inj H
                   go_wp2
                   go_ret
                   exact ⟨(qR10), (qR0)⟩
                  ·as_aux_lemma =>
                   replace c89 := Bool.eq_false_iff.mpr c89; subst c89; rw [if_neg (show ¬ (false = true) by decide)] at H
                   by_cases c90 : t694 = true
                   ·as_aux_lemma =>
                    subst c90; rw [if_pos rfl] at H
                    by_cases c91 : 0 < (t686.length : Int)
                    ·as_aux_lemma =>
                     rw [if_pos c91] at H; have c91b0 : decide (0 < (t686.length : Int)) = true := decide_eq_true c91; have c91b1 : decide (0 < t686.length) = true := decide_eq_true (by omega); clear c91; obtain ⟨ji92, hji92⟩ : ∃ j_ : Int, (wrap64 ((t686.length : Int) - 1)) = j_ := ⟨_, rfl⟩
                     replace H : (if 0 ≤ (ji92) then (if (ji92) < (t686.length : Int) then ((impl_GreatestWidth.f kj83 t684 t685 (rd t686 0) (rd t686 (ji92))).bind fun bt703 => (if bt703.2 = true then (some (decide (bt703.1 ≥ t693))) else (some false))) else (none)) else (none)) = some r := by first | (rw [hji92] at H; exact H) | (simp only [hji92] at H ⊢; exact H)
                     have hji92w : (IntKind.i64.wrap ((t686.length : Int) - 1)) = ji92 := (i64_w _).trans hji92
                     by_cases c93 : 0 ≤ (ji92)
                     ·as_aux_lemma =>
                      rw [if_pos c93] at H; have c93b0 : decide (0 ≤ (ji92)) = true := decide_eq_true c93; clear c93
                      by_cases c94 : (ji92) < (t686.length : Int)
                      ·as_aux_lemma =>
                       rw [if_pos c94] at H; have c94b0 : decide ((ji92) < (t686.length : Int)) = true := decide_eq_true c94; clear c94; replace H := bindA H; obtain ⟨⟨t703, t704⟩, A95, H⟩ := H; (try dsimp only at H)
                       by_cases c96 : t704 = true
                       ·as_aux_lemma =>
                        subst c96; rw [if_pos rfl] at H; obtain rfl := Option.some.inj H
                        try go_wp2
                        replace HO_24 := Aside0.mk (Kd.R_drew HO_24.out); replace HO_25 := Aside0.mk (Kd.R_drew HO_25.out); replace HO_26 := Aside0.mk (Kd.R_drew HO_26.out); replace HB := Aside0.mk (below_drew1 HB.out); have p701 : 0 ≤ (0 : Int) := (by omega); have q701 : 0 < (t686.length : Int) := of_decide_eq_true (qR8); obtain ⟨ad701, e701, hx701_0⟩ := Kd.at_int (Kd.R_reads' HO_26.out).2.2 0 p701 q701; cases e701; have qi701 : (0 < t686.length) = True := eq_true (by omega)
                        (try rw [show ((0 : Int)).toNat = 0 from rfl] at hx701_0)
                        (try rw [Addr.add_zero'] at hx701_0); replace p701 := eq_true p701; replace q701 := eq_true q701; have p702 : 0 ≤ ((ji92) : Int) := of_decide_eq_true (qR8); have q702 : (ji92) < (t686.length : Int) := of_decide_eq_true (qR8); obtain ⟨ad702, e702, hx702_0⟩ := Kd.at_int (Kd.R_reads' HO_26.out).2.2 (ji92) p702 q702; obtain rfl : ad701 = ad702 := (by injection e702); replace p702 := eq_true p702; replace q702 := eq_true q702
                        refine start_ (n := 17) (S := fun w' => w'.cell? ad701 = some (.int .i64 (rd t686 0)) ∧ w'.cell? (ad701.add ((ji92)).toNat) = some (.int .i64 (rd t686 (ji92)))) (ds := []) qRb17 (by kernel_rfl) rfl rfl ⟨hx701_0, hx702_0⟩ (fun hHeld => ?_); refine with_tabW laws_FnRoutes.tab34 laws_FnRoutes.bits34 (fun HT_ HW_ => ?_)
                        generalize wc.drew = w97 at HO_24 HO_25 HO_26 HB hx701_0 hx702_0 hHeld ⊢
                        refine pure_ (i := 0) (N := some 251) (v := ?_) (a' := ?_) qRb18 rfl rfl (qR28) (fun _ _ _ h => h) (Or.inl ⟨by rfl, ?_⟩) ?_ ?_
                        rotate_left; exact qR13_c1; rotate_left; exact qR13_c0
                        refine pure_ (i := 1) (N := some 252) (v := ?_) (a' := ?_) qRb19 rfl rfl (qR28) (fun _ _ _ h => h) (Or.inl ⟨by rfl, ?_⟩) ?_ ?_
                        rotate_left; exact qR13_c1; rotate_left; exact qR13_c0
                        refine pure_ (i := 2) (N := some 253) (v := ?_) (a' := ?_) qRb20 rfl rfl (qR28) (fun _ _ _ h => h) (Or.inl ⟨by rfl, ?_⟩) ?_ ?_
                        rotate_left; exact qR13_c1; rotate_left; exact qR13_c0
                        refine pure_ (i := 3) (N := some 254) (v := ?_) (a' := ?_) qRb21 rfl rfl (qR28) (fun _ _ _ h => h) (Or.inl ⟨by rfl, ?_⟩) ?_ ?_
                        rotate_left; exact qR13_c1; rotate_left; exact qR13_c0
                        refine pure_ (i := 5) (N := some 256) (v := ?_) (a' := ?_) qRb22 rfl rfl (qR28) (fun _ _ _ h => h) (Or.inl ⟨by rfl, ?_⟩) ?_ ?_
                        rotate_left; exact qR13_c1; rotate_left; exact qR13_c0
                        refine pure_ (i := 6) (N := some 257) (v := ?_) (a' := ?_) qRb23 rfl rfl (qR28) (fun _ _ _ h => h) (Or.inl ⟨by rfl, ?_⟩) ?_ ?_
                        rotate_left; exact qR13_c1; rotate_left; exact qR13_c0
                        refine pure_ (i := 7) (N := some 258) (v := ?_) (a' := ?_) qRb24 rfl rfl (qR28) (fun _ _ _ h => h) (Or.inl ⟨by rfl, ?_⟩) ?_ ?_
                        rotate_left; exact qR13_c1; rotate_left; exact qR13_c0
                        refine pure_ (i := 8) (N := some 259) (v := ?_) (a' := ?_) qRb25 rfl rfl (qR28) (fun _ _ _ h => h) (Or.inl ⟨by rfl, ?_⟩) ?_ ?_
                        rotate_left; exact qR13_c1; rotate_left; exact qR13_c0
                        refine pure_ (i := 9) (N := some 260) (v := ?_) (a' := ?_) qRb26 rfl rfl (qR28) (fun _ _ _ h => h) (Or.inl ⟨by rfl, ?_⟩) ?_ ?_
                        rotate_left; exact qR13_c1; rotate_left; exact qR13_c0
                        refine take_ (i := 4) (N := some 255) (v := ?_) (a' := ?_) qRb27 rfl rfl (take_ofW HT_.out HW_.out (by kernel_rfl)) (fun _ _ _ h => h) (Or.inl ⟨by rfl, ?_⟩) hHeld ?_ ?_
                        rotate_left
                        ·as_aux_lemma =>
                         rintro w' ⟨s0, s1⟩
                         go_simp
                         with_reducible rfl
                        rotate_left
                        ·exact qR13_c0
                        refine take_ (i := 10) (N := some 261) (v := ?_) (a' := ?_) qRb28 rfl rfl (take_ofW HT_.out HW_.out (by kernel_rfl)) (fun _ _ _ h => h) (Or.inl ⟨by rfl, ?_⟩) hHeld ?_ ?_
                        rotate_left
                        ·as_aux_lemma =>
                         rintro w' ⟨s0, s1⟩
                         go_simp
                         with_reducible rfl
                        rotate_left
                        ·exact qR13_c0
                        refine one_ (i := 11) (N := some 262) qRb29 rfl rfl (qR36) (by decide) (fun K hK => ?_)
                        refine goes_ Try.func12 (by kernel_rfl) rfl #[.slice Ao75 t684.length co75, .slice Ao76 t685.length co76, .int .i64 (rd t686 0), .int .i64 (rd t686 (ji92))] (by rfl) rfl rfl (qR55) ?_
                        with_reducible refine (impl_GreatestWidth.calls kj83 _ _ t684 _ _ t685 (rd t686 0) (rd t686 (ji92)) t703 true _ ?s1 ?s2 ?s3 ?s4 A95.out).mono ?_
                        (case s1 => exact (qR5 HO_24.out))
                        (case s2 => exact (qR32 HO_24.out))
                        (case s3 => exact (qR5 HO_25.out))
                        (case s4 => exact (qR32 HO_25.out))
                        rintro e w98 ⟨rfl, hb⟩
                        have HS0_ := (hb.cell (World.block_lt_of_cell? _ _ (hHeld.1))).trans (hHeld.1); have HS1_ := (hb.cell (World.block_lt_of_cell? _ _ (hHeld.2))).trans (hHeld.2)
                        refine ⟨_, rfl, ?_⟩
                        replace HO_24 := Aside0.mk (qR64 HO_24.out); replace HO_25 := Aside0.mk (qR64 HO_25.out); replace HO_26 := Aside0.mk (qR64 HO_26.out); replace HB := Aside0.mk (qR62)
                        (try clear hb)
                        (try clear hb2)
                        (try clear hk)
                        (try clear hi)
                        refine hK.out _ _ ⟨HS0_, HS1_⟩ (fun hHeld => ?_)
                        clear hK K
                        refine norm_ (a' := ?_) ?_ ?_
                        rotate_left
                        ·as_aux_lemma =>
                         show Act.put _ (some 262) _ = _
                         simp only [Act.put, List.setIfInBounds_toArray, List.set_cons_zero, List.set_cons_succ, i64_w, i32_w]
                         rfl
                        refine pure_ (i := 12) (N := some 250) (v := ?_) (a' := ?_) qRb30 rfl rfl (qR28) (fun _ _ _ h => h) (Or.inl ⟨by rfl, ?_⟩) ?_ ?_
                        rotate_left; exact qR13_c1; rotate_left; exact qR13_c0
                        refine pure_ (i := 13) (N := some 263) (v := ?_) (a' := ?_) qRb31 rfl rfl (qR28) (fun _ _ _ h => h) (Or.inl ⟨by rfl, ?_⟩) ?_ ?_
                        rotate_left; exact qR13_c1; rotate_left; exact qR13_c0
                        refine pure_ (i := 14) (N := some 264) (v := ?_) (a' := ?_) qRb32 rfl rfl (qR28) (fun _ _ _ h => h) (Or.inl ⟨by rfl, ?_⟩) ?_ ?_
                        rotate_left; exact qR13_c1; rotate_left; exact qR13_c0
                        refine pure_ (i := 15) (N := some 35) (v := ?_) (a' := ?_) qRb33 rfl rfl (qR28) (fun _ _ _ h => h) (Or.inl ⟨by rfl, ?_⟩) ?_ ?_
                        rotate_left; exact qR13_c1; rotate_left; exact qR13_c0
                        refine pure_ (i := 16) (N := some 36) (v := ?_) (a' := ?_) qRb34 rfl rfl (qR28) (fun _ _ _ h => h) (Or.inl ⟨by rfl, ?_⟩) ?_ ?_
                        rotate_left; exact qR13_c1; rotate_left; exact qR13_c0
                        refine done_ (qR52) ?_
                        try go_wp2
                        go_ret
                        exact ⟨(qR53), (qR0)⟩
                       ·as_aux_lemma =>
                        replace c96 := Bool.eq_false_iff.mpr c96; subst c96; rw [if_neg (show ¬ (false = true) by decide)] at H; obtain rfl := Option.some.inj H
                        try go_wp2
                        replace HO_24 := Aside0.mk (Kd.R_drew HO_24.out); replace HO_25 := Aside0.mk (Kd.R_drew HO_25.out); replace HO_26 := Aside0.mk (Kd.R_drew HO_26.out); replace HB := Aside0.mk (below_drew1 HB.out); have p701 : 0 ≤ (0 : Int) := (by omega); have q701 : 0 < (t686.length : Int) := of_decide_eq_true (qR8); obtain ⟨ad701, e701, hx701_0⟩ := Kd.at_int (Kd.R_reads' HO_26.out).2.2 0 p701 q701; cases e701; have qi701 : (0 < t686.length) = True := eq_true (by omega)
                        (try rw [show ((0 : Int)).toNat = 0 from rfl] at hx701_0)
                        (try rw [Addr.add_zero'] at hx701_0); replace p701 := eq_true p701; replace q701 := eq_true q701; have p702 : 0 ≤ ((ji92) : Int) := of_decide_eq_true (qR8); have q702 : (ji92) < (t686.length : Int) := of_decide_eq_true (qR8); obtain ⟨ad702, e702, hx702_0⟩ := Kd.at_int (Kd.R_reads' HO_26.out).2.2 (ji92) p702 q702; obtain rfl : ad701 = ad702 := (by injection e702); replace p702 := eq_true p702; replace q702 := eq_true q702
                        refine start_ (n := 17) (S := fun w' => w'.cell? ad701 = some (.int .i64 (rd t686 0)) ∧ w'.cell? (ad701.add ((ji92)).toNat) = some (.int .i64 (rd t686 (ji92)))) (ds := []) qRb17 (by kernel_rfl) rfl rfl ⟨hx701_0, hx702_0⟩ (fun hHeld => ?_); refine with_tabW laws_FnRoutes.tab34 laws_FnRoutes.bits34 (fun HT_ HW_ => ?_)
                        generalize wc.drew = w99 at HO_24 HO_25 HO_26 HB hx701_0 hx702_0 hHeld ⊢
                        refine pure_ (i := 0) (N := some 251) (v := ?_) (a' := ?_) qRb18 rfl rfl (qR28) (fun _ _ _ h => h) (Or.inl ⟨by rfl, ?_⟩) ?_ ?_
                        rotate_left; exact qR13_c1; rotate_left; exact qR13_c0
                        refine pure_ (i := 1) (N := some 252) (v := ?_) (a' := ?_) qRb19 rfl rfl (qR28) (fun _ _ _ h => h) (Or.inl ⟨by rfl, ?_⟩) ?_ ?_
                        rotate_left; exact qR13_c1; rotate_left; exact qR13_c0
                        refine pure_ (i := 2) (N := some 253) (v := ?_) (a' := ?_) qRb20 rfl rfl (qR28) (fun _ _ _ h => h) (Or.inl ⟨by rfl, ?_⟩) ?_ ?_
                        rotate_left; exact qR13_c1; rotate_left; exact qR13_c0
                        refine pure_ (i := 3) (N := some 254) (v := ?_) (a' := ?_) qRb21 rfl rfl (qR28) (fun _ _ _ h => h) (Or.inl ⟨by rfl, ?_⟩) ?_ ?_
                        rotate_left; exact qR13_c1; rotate_left; exact qR13_c0
                        refine pure_ (i := 5) (N := some 256) (v := ?_) (a' := ?_) qRb22 rfl rfl (qR28) (fun _ _ _ h => h) (Or.inl ⟨by rfl, ?_⟩) ?_ ?_
                        rotate_left; exact qR13_c1; rotate_left; exact qR13_c0
                        refine pure_ (i := 6) (N := some 257) (v := ?_) (a' := ?_) qRb23 rfl rfl (qR28) (fun _ _ _ h => h) (Or.inl ⟨by rfl, ?_⟩) ?_ ?_
                        rotate_left; exact qR13_c1; rotate_left; exact qR13_c0
                        refine pure_ (i := 7) (N := some 258) (v := ?_) (a' := ?_) qRb24 rfl rfl (qR28) (fun _ _ _ h => h) (Or.inl ⟨by rfl, ?_⟩) ?_ ?_
                        rotate_left; exact qR13_c1; rotate_left; exact qR13_c0
                        refine pure_ (i := 8) (N := some 259) (v := ?_) (a' := ?_) qRb25 rfl rfl (qR28) (fun _ _ _ h => h) (Or.inl ⟨by rfl, ?_⟩) ?_ ?_
                        rotate_left; exact qR13_c1; rotate_left; exact qR13_c0
                        refine pure_ (i := 9) (N := some 260) (v := ?_) (a' := ?_) qRb26 rfl rfl (qR28) (fun _ _ _ h => h) (Or.inl ⟨by rfl, ?_⟩) ?_ ?_
                        rotate_left; exact qR13_c1; rotate_left; exact qR13_c0
                        refine take_ (i := 4) (N := some 255) (v := ?_) (a' := ?_) qRb27 rfl rfl (take_ofW HT_.out HW_.out (by kernel_rfl)) (fun _ _ _ h => h) (Or.inl ⟨by rfl, ?_⟩) hHeld ?_ ?_
                        rotate_left
                        ·as_aux_lemma =>
                         rintro w' ⟨s0, s1⟩
                         go_simp
                         with_reducible rfl
                        rotate_left
                        ·exact qR13_c0
                        refine take_ (i := 10) (N := some 261) (v := ?_) (a' := ?_) qRb28 rfl rfl (take_ofW HT_.out HW_.out (by kernel_rfl)) (fun _ _ _ h => h) (Or.inl ⟨by rfl, ?_⟩) hHeld ?_ ?_
                        rotate_left
                        ·as_aux_lemma =>
                         rintro w' ⟨s0, s1⟩
                         go_simp
                         with_reducible rfl
                        rotate_left
                        ·exact qR13_c0
                        refine one_ (i := 11) (N := some 262) qRb29 rfl rfl (qR36) (by decide) (fun K hK => ?_)
                        refine goes_ Try.func12 (by kernel_rfl) rfl #[.slice Ao75 t684.length co75, .slice Ao76 t685.length co76, .int .i64 (rd t686 0), .int .i64 (rd t686 (ji92))] (by rfl) rfl rfl (qR55) ?_
                        with_reducible refine (impl_GreatestWidth.calls kj83 _ _ t684 _ _ t685 (rd t686 0) (rd t686 (ji92)) t703 false _ ?s1 ?s2 ?s3 ?s4 A95.out).mono ?_
                        (case s1 => exact (qR5 HO_24.out))
                        (case s2 => exact (qR32 HO_24.out))
                        (case s3 => exact (qR5 HO_25.out))
                        (case s4 => exact (qR32 HO_25.out))
                        rintro e w100 ⟨rfl, hb⟩
                        have HS0_ := (hb.cell (World.block_lt_of_cell? _ _ (hHeld.1))).trans (hHeld.1); have HS1_ := (hb.cell (World.block_lt_of_cell? _ _ (hHeld.2))).trans (hHeld.2)
                        refine ⟨_, rfl, ?_⟩
                        replace HO_24 := Aside0.mk (qR64 HO_24.out); replace HO_25 := Aside0.mk (qR64 HO_25.out); replace HO_26 := Aside0.mk (qR64 HO_26.out); replace HB := Aside0.mk (qR62)
                        (try clear hb)
                        (try clear hb2)
                        (try clear hk)
                        (try clear hi)
                        refine hK.out _ _ ⟨HS0_, HS1_⟩ (fun hHeld => ?_)
                        clear hK K
                        refine norm_ (a' := ?_) ?_ ?_
                        rotate_left
                        ·as_aux_lemma =>
                         show Act.put _ (some 262) _ = _
                         simp only [Act.put, List.setIfInBounds_toArray, List.set_cons_zero, List.set_cons_succ, i64_w, i32_w]
                         rfl
                        refine pure_ (i := 12) (N := some 250) (v := ?_) (a' := ?_) qRb30 rfl rfl (qR28) (fun _ _ _ h => h) (Or.inl ⟨by rfl, ?_⟩) ?_ ?_
                        rotate_left; exact qR13_c1; rotate_left; exact qR13_c0
                        refine pure_ (i := 13) (N := some 263) (v := ?_) (a' := ?_) qRb31 rfl rfl (qR28) (fun _ _ _ h => h) (Or.inl ⟨by rfl, ?_⟩) ?_ ?_
                        rotate_left; exact qR13_c1; rotate_left; exact qR13_c0
                        refine pure_ (i := 14) (N := some 264) (v := ?_) (a' := ?_) qRb32 rfl rfl (qR28) (fun _ _ _ h => h) (Or.inl ⟨by rfl, ?_⟩) ?_ ?_
                        rotate_left; exact qR13_c1; rotate_left; exact qR13_c0
                        refine pure_ (i := 15) (N := some 35) (v := ?_) (a' := ?_) qRb33 rfl rfl (qR28) (fun _ _ _ h => h) (Or.inl ⟨by rfl, ?_⟩) ?_ ?_
                        rotate_left; exact qR13_c1; rotate_left; exact qR13_c0
                        refine pure_ (i := 16) (N := some 36) (v := ?_) (a' := ?_) qRb34 rfl rfl (qR28) (fun _ _ _ h => h) (Or.inl ⟨by rfl, ?_⟩) ?_ ?_
                        rotate_left; exact qR13_c1; rotate_left; exact qR13_c0
                        refine done_ (qR52) ?_
                        try go_wp2
                        go_ret
                        exact ⟨(qR53), (qR0)⟩
                      ·as_aux_lemma =>
                       rw [if_neg c94] at H
                       exact absurd H (by simp)
                     ·as_aux_lemma =>
                      rw [if_neg c93] at H
                      exact absurd H (by simp)
                    ·as_aux_lemma =>
                     rw [if_neg c91] at H
                     exact absurd H (by simp)
                   ·as_aux_lemma =>
                    replace c90 := Bool.eq_false_iff.mpr c90; subst c90; rw [if_neg (show ¬ (false = true) by decide)] at H; obtain rfl := Option.some.inj H
                    go_wp2
                    go_ret
                    exact ⟨(qR10), (qR0)⟩

end Go.Proofs.Ytoljdjgndogegaa.MR
