-- Written by a program of this session (wip/drv.py, wip/tight2.py). -- tight2
import Derived.Test.YtffdglecmjbolaaMPx0
import Derived.Test.YtffdglecmjbolaaMPx2
import Derived.Test.YtffdglecmjbolaaMPx3
import Derived.Test.YtffdglecmjbolaaMPx4
import Derived.Test.YtffdglecmjbolaaMPx6
import Derived.Test.YtffdglecmjbolaaMPx7
import Derived.Test.YtffdglecmjbolaaMPx8
import Derived.Test.YtffdglecmjbolaaMPx9
import Derived.Test.YtffdglecmjbolaaMPx10
import Derived.Test.YtffdglecmjbolaaMPx11
import Derived.Test.YtffdglecmjbolaaMPx12
import Derived.Test.YtffdglecmjbolaaMPx13
namespace Go.Proofs.Ytffdglecmjbolaa.MP
open Go.RowKit Go.Proofs.YtffdglecmjbolaaW.PrintWords Go.Proofs.YtffdglecmjbolaaW.PrintLast Go.Proofs.YtffdglecmjbolaaW.PrintMore
attribute [local go_sem] max2_int min2_int max_two min_two max_three min_three max_four min_four   -- for this text's walks alone
set_option linter.unusedVariables false
set_option linter.unusedSimpArgs false

/-! ### laws_FnPassages: function 3 -/
mutual
def laws_FnPassages.j0 : Nat → List Int → List (S60) → List (S55) → Int → Int → Bool → Bool → Option (Bool)
 | 0, _, _, _, _, _, _, _ => none
 | k + 1, x0, x3, x4, x5, x6, x7, x88 => if x88 = true then (some false) else (if x7 = true then (if 0 ≤ (wrap64 ((x4.length : Int) / 2)) then (if (wrap64 ((x4.length : Int) / 2)) ≤ (x4.length : Int) then ((impl_VolumeOf.f k x3 (x4.take ((wrap64 ((x4.length : Int) / 2)) : Int).toNat)).bind fun bt489 => ((impl_VolumeOf.f k x3 (x4.drop ((wrap64 ((x4.length : Int) / 2)) : Int).toNat)).bind fun bt496 => (if bt489.2.2 = true then (if bt496.2.2 = true then (if (wrap64 ((wrap64 ((wrap64 (bt489.1 * bt496.2.1)) + (wrap64 (bt496.1 * bt489.2.1)))) * x6)) = (wrap64 ((wrap64 (x5 * bt489.2.1)) * bt496.2.1)) then (laws_FnPassages.j1 k x0) else (some false)) else (some false)) else (some false)))) else (none)) else (none)) else (laws_FnPassages.j1 k x0))
def laws_FnPassages.j1 : Nat → List Int → Option (Bool)
 | 0, _ => none
 | k + 1, x0 => (spec_DrawMergePassages.f k x0).bind fun bt499 => ((impl_MergePassages.f k bt499.1 bt499.2).bind fun bt505 => ((spec_MergePassages.f k bt499.1 bt499.2).bind fun bt509 => (if (bt505.2 != bt509.2) = true then (laws_FnPassages.j2 k x0 bt499.1 bt499.2 bt505.1 bt505.2 true) else ((laws_vPassages.f k bt505.1 bt509.1).bind fun t513 => (laws_FnPassages.j2 k x0 bt499.1 bt499.2 bt505.1 bt505.2 (!t513))))))
def laws_FnPassages.j2 : Nat → List Int → List (S60) → List (S60) → List (S60) → Bool → Bool → Option (Bool)
 | 0, _, _, _, _, _, _ => none
 | k + 1, x0, x18, x19, x20, x21, x159 => if x159 = true then (some false) else (if x21 = true then ((impl_MergePassages.f k x19 x18).bind fun bt514 => ((impl_MergePassages.f k x20 x18).bind fun bt518 => (if bt514.2 = true then ((laws_vPassages.f k bt514.1 x20).bind fun t522 => (if t522 = true then (if bt518.2 = true then ((laws_vPassages.f k bt518.1 x20).bind fun t523 => (if t523 = true then (laws_FnPassages.j3 k x0) else (some false))) else (some false)) else (some false))) else (some false)))) else (laws_FnPassages.j3 k x0))
def laws_FnPassages.j3 : Nat → List Int → Option (Bool)
 | 0, _ => none
 | k + 1, x0 => (spec_DrawFittingStations.f k x0).bind fun bt524 => ((impl_FittingStations.f k bt524.1 bt524.2.1 bt524.2.2).bind fun bt529 => ((spec_FittingStations.f k bt524.1 bt524.2.1 bt524.2.2).bind fun bt533 => (if (bt529.2 != bt533.2) = true then (laws_FnPassages.j4 k x0 bt524.1 bt524.2.1 bt524.2.2 bt529.1 bt529.2 true) else ((laws_vInts.f k bt529.1 bt533.1).bind fun t537 => (laws_FnPassages.j4 k x0 bt524.1 bt524.2.1 bt524.2.2 bt529.1 bt529.2 (!t537))))))
def laws_FnPassages.j4 : Nat → List Int → List (S60) → Int → Int → List Int → Bool → Bool → Option (Bool)
 | 0, _, _, _, _, _, _, _ => none
 | k + 1, x0, x28, x29, x30, x31, x32, x219 => if x219 = true then (some false) else (if x32 = true then ((impl_FittingStations.f k x28 (wrap64 (x29 + 1)) x30).bind fun bt538 => (if bt538.2 = true then ((laws_vWithin.f k bt538.1 x31).bind fun t542 => (if t542 = true then (laws_FnPassages.j5 k x0) else (some false))) else (some false))) else (laws_FnPassages.j5 k x0))
def laws_FnPassages.j5 : Nat → List Int → Option (Bool)
 | 0, _ => none
 | k + 1, x0 => (spec_DrawMeanArea.f k x0).bind fun t543 => ((impl_MeanArea.f k t543).bind fun bt546 => ((spec_MeanArea.f k t543).bind fun bt549 => (if bt546.1 = bt549.1 then (if bt546.2.1 = bt549.2.1 then (laws_FnPassages.j6 k t543 bt546.1 bt546.2.1 bt546.2.2 (bt546.2.2 != bt549.2.2)) else (laws_FnPassages.j6 k t543 bt546.1 bt546.2.1 bt546.2.2 true)) else (laws_FnPassages.j6 k t543 bt546.1 bt546.2.1 bt546.2.2 true))))
def laws_FnPassages.j6 : Nat → List (S60) → Int → Int → Bool → Bool → Option (Bool)
 | 0, _, _, _, _, _ => none
 | k + 1, x37, x38, x39, x40, x263 => if x263 = true then (some false) else (if x40 = true then ((impl_WidestPassage.f k x37).bind fun bt552 => ((impl_AreaAt.f k x37 bt552.1).bind fun bt554 => (if bt552.2 = true then (if bt554.2 = true then (some (decide ((wrap64 (bt554.1 * x39)) ≥ x38))) else (some false)) else (some false)))) else (some true))
end
def laws_FnPassages.f (k : Nat) (l0 : List Int) : Option (Bool) := (laws_vBig.f l0).bind fun t470 => (if t470 = true then (some true) else ((spec_DrawVolumeOf.f k l0).bind fun bt471 => ((impl_VolumeOf.f k bt471.1 bt471.2).bind fun bt477 => ((spec_VolumeOf.f k bt471.1 bt471.2).bind fun bt480 => (if bt477.1 = bt480.1 then (if bt477.2.1 = bt480.2.1 then (if (bt477.2.2 != bt480.2.2) = true then (laws_FnPassages.j0 k l0 bt471.1 bt471.2 bt477.1 bt477.2.1 bt477.2.2 true) else ((impl_ArePassages.f k bt471.1).bind fun t483 => ((spec_ArePassages.f k bt471.1).bind fun t484 => (laws_FnPassages.j0 k l0 bt471.1 bt471.2 bt477.1 bt477.2.1 bt477.2.2 (t483 != t484))))) else (laws_FnPassages.j0 k l0 bt471.1 bt471.2 bt477.1 bt477.2.1 bt477.2.2 true)) else (laws_FnPassages.j0 k l0 bt471.1 bt471.2 bt477.1 bt477.2.1 bt477.2.2 true))))))
theorem laws_FnPassages.mono_l : ∀ k, (∀ y0 y1 y2 y3 y4 y5 y6, LeO (laws_FnPassages.j0 k y0 y1 y2 y3 y4 y5 y6) (laws_FnPassages.j0 (k + 1) y0 y1 y2 y3 y4 y5 y6)) ∧ (∀ y0, LeO (laws_FnPassages.j1 k y0) (laws_FnPassages.j1 (k + 1) y0)) ∧ (∀ y0 y1 y2 y3 y4 y5, LeO (laws_FnPassages.j2 k y0 y1 y2 y3 y4 y5) (laws_FnPassages.j2 (k + 1) y0 y1 y2 y3 y4 y5)) ∧ (∀ y0, LeO (laws_FnPassages.j3 k y0) (laws_FnPassages.j3 (k + 1) y0)) ∧ (∀ y0 y1 y2 y3 y4 y5 y6, LeO (laws_FnPassages.j4 k y0 y1 y2 y3 y4 y5 y6) (laws_FnPassages.j4 (k + 1) y0 y1 y2 y3 y4 y5 y6)) ∧ (∀ y0, LeO (laws_FnPassages.j5 k y0) (laws_FnPassages.j5 (k + 1) y0)) ∧ (∀ y0 y1 y2 y3 y4, LeO (laws_FnPassages.j6 k y0 y1 y2 y3 y4) (laws_FnPassages.j6 (k + 1) y0 y1 y2 y3 y4))
 | 0 => ⟨fun _ _ _ _ _ _ _ r h => by simp [laws_FnPassages.j0] at h, fun _ r h => by simp [laws_FnPassages.j1] at h, fun _ _ _ _ _ _ r h => by simp [laws_FnPassages.j2] at h, fun _ r h => by simp [laws_FnPassages.j3] at h, fun _ _ _ _ _ _ _ r h => by simp [laws_FnPassages.j4] at h, fun _ r h => by simp [laws_FnPassages.j5] at h, fun _ _ _ _ _ r h => by simp [laws_FnPassages.j6] at h⟩
 | k + 1 => by
  obtain ⟨ih0, ih1, ih2, ih3, ih4, ih5, ih6⟩ := laws_FnPassages.mono_l k
  refine ⟨?_, ?_, ?_, ?_, ?_, ?_, ?_⟩
  ·intro y0 y1 y2 y3 y4 y5 y6
   unfold laws_FnPassages.j0
   have m0 := @impl_ArePassages.mono; have m1 := @impl_AreaAt.mono; have m2 := @impl_FittingStations.mono; have m3 := @impl_MeanArea.mono; have m4 := @impl_MergePassages.mono; have m5 := @impl_VolumeOf.mono; have m6 := @impl_WidestPassage.mono; have m7 := @laws_vInts.mono; have m8 := @laws_vPassages.mono; have m9 := @laws_vWithin.mono; have m10 := @spec_ArePassages.mono; have m11 := @spec_DrawFittingStations.mono; have m12 := @spec_DrawMeanArea.mono; have m13 := @spec_DrawMergePassages.mono; have m14 := @spec_DrawVolumeOf.mono; have m15 := @spec_FittingStations.mono; have m16 := @spec_MeanArea.mono; have m17 := @spec_MergePassages.mono; have m18 := @spec_VolumeOf.mono
   exact qmono
  ·intro y0
   unfold laws_FnPassages.j1
   have m0 := @impl_ArePassages.mono; have m1 := @impl_AreaAt.mono; have m2 := @impl_FittingStations.mono; have m3 := @impl_MeanArea.mono; have m4 := @impl_MergePassages.mono; have m5 := @impl_VolumeOf.mono; have m6 := @impl_WidestPassage.mono; have m7 := @laws_vInts.mono; have m8 := @laws_vPassages.mono; have m9 := @laws_vWithin.mono; have m10 := @spec_ArePassages.mono; have m11 := @spec_DrawFittingStations.mono; have m12 := @spec_DrawMeanArea.mono; have m13 := @spec_DrawMergePassages.mono; have m14 := @spec_DrawVolumeOf.mono; have m15 := @spec_FittingStations.mono; have m16 := @spec_MeanArea.mono; have m17 := @spec_MergePassages.mono; have m18 := @spec_VolumeOf.mono
   exact qmono
  ·intro y0 y1 y2 y3 y4 y5
   unfold laws_FnPassages.j2
   have m0 := @impl_ArePassages.mono; have m1 := @impl_AreaAt.mono; have m2 := @impl_FittingStations.mono; have m3 := @impl_MeanArea.mono; have m4 := @impl_MergePassages.mono; have m5 := @impl_VolumeOf.mono; have m6 := @impl_WidestPassage.mono; have m7 := @laws_vInts.mono; have m8 := @laws_vPassages.mono; have m9 := @laws_vWithin.mono; have m10 := @spec_ArePassages.mono; have m11 := @spec_DrawFittingStations.mono; have m12 := @spec_DrawMeanArea.mono; have m13 := @spec_DrawMergePassages.mono; have m14 := @spec_DrawVolumeOf.mono; have m15 := @spec_FittingStations.mono; have m16 := @spec_MeanArea.mono; have m17 := @spec_MergePassages.mono; have m18 := @spec_VolumeOf.mono
   exact qmono
  ·intro y0
   unfold laws_FnPassages.j3
   have m0 := @impl_ArePassages.mono; have m1 := @impl_AreaAt.mono; have m2 := @impl_FittingStations.mono; have m3 := @impl_MeanArea.mono; have m4 := @impl_MergePassages.mono; have m5 := @impl_VolumeOf.mono; have m6 := @impl_WidestPassage.mono; have m7 := @laws_vInts.mono; have m8 := @laws_vPassages.mono; have m9 := @laws_vWithin.mono; have m10 := @spec_ArePassages.mono; have m11 := @spec_DrawFittingStations.mono; have m12 := @spec_DrawMeanArea.mono; have m13 := @spec_DrawMergePassages.mono; have m14 := @spec_DrawVolumeOf.mono; have m15 := @spec_FittingStations.mono; have m16 := @spec_MeanArea.mono; have m17 := @spec_MergePassages.mono; have m18 := @spec_VolumeOf.mono
   exact qmono
  ·intro y0 y1 y2 y3 y4 y5 y6
   unfold laws_FnPassages.j4
   have m0 := @impl_ArePassages.mono; have m1 := @impl_AreaAt.mono; have m2 := @impl_FittingStations.mono; have m3 := @impl_MeanArea.mono; have m4 := @impl_MergePassages.mono; have m5 := @impl_VolumeOf.mono; have m6 := @impl_WidestPassage.mono; have m7 := @laws_vInts.mono; have m8 := @laws_vPassages.mono; have m9 := @laws_vWithin.mono; have m10 := @spec_ArePassages.mono; have m11 := @spec_DrawFittingStations.mono; have m12 := @spec_DrawMeanArea.mono; have m13 := @spec_DrawMergePassages.mono; have m14 := @spec_DrawVolumeOf.mono; have m15 := @spec_FittingStations.mono; have m16 := @spec_MeanArea.mono; have m17 := @spec_MergePassages.mono; have m18 := @spec_VolumeOf.mono
   exact qmono
  ·intro y0
   unfold laws_FnPassages.j5
   have m0 := @impl_ArePassages.mono; have m1 := @impl_AreaAt.mono; have m2 := @impl_FittingStations.mono; have m3 := @impl_MeanArea.mono; have m4 := @impl_MergePassages.mono; have m5 := @impl_VolumeOf.mono; have m6 := @impl_WidestPassage.mono; have m7 := @laws_vInts.mono; have m8 := @laws_vPassages.mono; have m9 := @laws_vWithin.mono; have m10 := @spec_ArePassages.mono; have m11 := @spec_DrawFittingStations.mono; have m12 := @spec_DrawMeanArea.mono; have m13 := @spec_DrawMergePassages.mono; have m14 := @spec_DrawVolumeOf.mono; have m15 := @spec_FittingStations.mono; have m16 := @spec_MeanArea.mono; have m17 := @spec_MergePassages.mono; have m18 := @spec_VolumeOf.mono
   exact qmono
  ·intro y0 y1 y2 y3 y4
   unfold laws_FnPassages.j6
   have m0 := @impl_ArePassages.mono; have m1 := @impl_AreaAt.mono; have m2 := @impl_FittingStations.mono; have m3 := @impl_MeanArea.mono; have m4 := @impl_MergePassages.mono; have m5 := @impl_VolumeOf.mono; have m6 := @impl_WidestPassage.mono; have m7 := @laws_vInts.mono; have m8 := @laws_vPassages.mono; have m9 := @laws_vWithin.mono; have m10 := @spec_ArePassages.mono; have m11 := @spec_DrawFittingStations.mono; have m12 := @spec_DrawMeanArea.mono; have m13 := @spec_DrawMergePassages.mono; have m14 := @spec_DrawVolumeOf.mono; have m15 := @spec_FittingStations.mono; have m16 := @spec_MeanArea.mono; have m17 := @spec_MergePassages.mono; have m18 := @spec_VolumeOf.mono
   exact qmono
theorem laws_FnPassages.mono : ∀ a0 k, LeO (laws_FnPassages.f k a0) (laws_FnPassages.f (k + 1) a0) := by
 intro a0 k; obtain ⟨ih0, ih1, ih2, ih3, ih4, ih5, ih6⟩ := laws_FnPassages.mono_l k
 unfold laws_FnPassages.f
 have m0 := @impl_ArePassages.mono; have m1 := @impl_AreaAt.mono; have m2 := @impl_FittingStations.mono; have m3 := @impl_MeanArea.mono; have m4 := @impl_MergePassages.mono; have m5 := @impl_VolumeOf.mono; have m6 := @impl_WidestPassage.mono; have m7 := @laws_vInts.mono; have m8 := @laws_vPassages.mono; have m9 := @laws_vWithin.mono; have m10 := @spec_ArePassages.mono; have m11 := @spec_DrawFittingStations.mono; have m12 := @spec_DrawMeanArea.mono; have m13 := @spec_DrawMergePassages.mono; have m14 := @spec_DrawVolumeOf.mono; have m15 := @spec_FittingStations.mono; have m16 := @spec_MeanArea.mono; have m17 := @spec_MergePassages.mono; have m18 := @spec_VolumeOf.mono
 exact qmono
set_option maxHeartbeats 8000000 in
set_option maxRecDepth 100000 in
theorem laws_FnPassages.calls (k : Nat) (A0 : Option Addr) (c0 : Nat) (l0 : List Int) (r : Bool) (w : World) (hr0 : Kd.C (Kd.int .u8) w A0 l0.length l0) (hc0 : l0.length ≤ c0) (h : laws_FnPassages.f k l0 = some r) :
  Calls Try.prog 3 #[.slice A0 l0.length c0] w fun e w' => e = .returned (.bool r) ∧ Below w.heap.size w w' := by
 have HR0 := Aside0.mk hr0; have HC0 := Aside0.mk hc0; clear hr0 hc0; have HB := Aside0.mk (Below.refl w.heap.size w); have H : ((laws_vBig.f l0).bind fun t470 => (if t470 = true then (some true) else ((spec_DrawVolumeOf.f k l0).bind fun bt471 => ((impl_VolumeOf.f k bt471.1 bt471.2).bind fun bt477 => ((spec_VolumeOf.f k bt471.1 bt471.2).bind fun bt480 => (if bt477.1 = bt480.1 then (if bt477.2.1 = bt480.2.1 then (if (bt477.2.2 != bt480.2.2) = true then (laws_FnPassages.j0 k l0 bt471.1 bt471.2 bt477.1 bt477.2.1 bt477.2.2 true) else ((impl_ArePassages.f k bt471.1).bind fun t483 => ((spec_ArePassages.f k bt471.1).bind fun t484 => (laws_FnPassages.j0 k l0 bt471.1 bt471.2 bt477.1 bt477.2.1 bt477.2.2 (t483 != t484))))) else (laws_FnPassages.j0 k l0 bt471.1 bt471.2 bt477.1 bt477.2.1 bt477.2.2 true)) else (laws_FnPassages.j0 k l0 bt471.1 bt471.2 bt477.1 bt477.2.1 bt477.2.2 true))))))) = some r := h; clear h; replace H := bindA H; obtain ⟨t470, A2, H⟩ := H; (try dsimp only at H)
 by_cases c3 : t470 = true
 ·as_aux_lemma =>
  subst c3; rw [if_pos rfl] at H; obtain rfl := Option.some.inj H
  go_enter Try.func3, Try.ntmps3
  go_wp2_with (first | ((with_reducible refine gate_callee (f := 4) rfl ?_); refine goesL_ (some 49) rfl rfl Try.func4 (by kernel_rfl) rfl #[.slice A0 l0.length c0] rfl (qP2) ?_; (with_reducible refine (laws_vBig.calls _ _ l0 true _ ?s1 ?s2 A2.out).mono ?_); (case s1 => exact (qP28 HR0.out)); (case s2 => exact HC0.out); rintro e w' ⟨rfl, ⟨nd, rfl⟩⟩; refine ⟨_, rfl, ?_⟩))
  go_ret
  exact ⟨(qP8), (qP0)⟩
 ·as_aux_lemma =>
  replace c3 := Bool.eq_false_iff.mpr c3; subst c3; rw [if_neg (show ¬ (false = true) by decide)] at H; replace H := bindA H; obtain ⟨⟨t471, t472⟩, A4, H⟩ := H; (try dsimp only at H); replace H := bindA H; obtain ⟨⟨t477, t478, t479⟩, A5, H⟩ := H; (try dsimp only at H); replace H := bindA H; obtain ⟨⟨t480, t481, t482⟩, A6, H⟩ := H; (try dsimp only at H); have HC7 := Aside0.mk H; clear H
  go_enter Try.func3, Try.ntmps3
  go_upto_region 6 with (first | ((with_reducible refine gate_callee (f := 4) rfl ?_); refine goesL_ (some 49) rfl rfl Try.func4 (by kernel_rfl) rfl #[.slice A0 l0.length c0] rfl (qP2) ?_; (with_reducible refine (laws_vBig.calls _ _ l0 false _ ?s1 ?s2 A2.out).mono ?_); (case s1 => exact (qP28 HR0.out)); (case s2 => exact HC0.out); rintro e w' ⟨rfl, ⟨nd, rfl⟩⟩; refine ⟨_, rfl, ?_⟩) | ((with_reducible refine gate_callee (f := 5) rfl ?_); refine goesL_ (some 52) rfl rfl Try.func5 (by kernel_rfl) rfl #[.slice A0 l0.length c0] rfl (qP2) ?_; (with_reducible refine (spec_DrawVolumeOf.calls k _ _ l0 t471 t472 _ ?s1 ?s2 A4.out).mono ?_); (case s1 => exact (qP28 HR0.out)); (case s2 => exact HC0.out); rintro e w8 ⟨v473, v475, rfl, ho0, ho1, hb⟩; refine ⟨_, rfl, ?_⟩; have HO474 := Aside0.mk (qP71 ho0); have HO476 := Aside0.mk (qP71 ho1); replace HB := Aside0.mk (qP57); clear hb ho0 ho1; obtain ⟨Ao9, co9, eo9⟩ := Kd.R_slice HO474.out; subst eo9; obtain ⟨Ao10, co10, eo10⟩ := Kd.R_slice HO476.out; subst eo10) | ((with_reducible refine gate_callee (f := 6) rfl ?_); refine goesL_ (some 58) rfl rfl Try.func6 (by kernel_rfl) rfl #[.slice Ao9 t471.length co9, .slice Ao10 t472.length co10] rfl (qP2) ?_; (with_reducible refine (impl_VolumeOf.calls k _ _ t471 _ _ t472 t477 t478 t479 _ ?s1 ?s2 ?s3 ?s4 A5.out).mono ?_); (case s1 => exact (qP4 HO474.out)); (case s2 => exact (qP27 HO474.out)); (case s3 => exact (qP4 HO476.out)); (case s4 => exact (qP27 HO476.out)); rintro e w11 ⟨rfl, hb⟩; refine ⟨_, rfl, ?_⟩; replace HO474 := Aside0.mk (qP59 HO474.out); replace HO476 := Aside0.mk (qP59 HO476.out); replace HB := Aside0.mk (qP57); clear hb) | ((with_reducible refine gate_callee (f := 7) rfl ?_); refine goesL_ (some 65) rfl rfl Try.func7 (by kernel_rfl) rfl #[.slice Ao9 t471.length co9, .slice Ao10 t472.length co10] rfl (qP2) ?_; (with_reducible refine (spec_VolumeOf.calls k _ _ t471 _ _ t472 t480 t481 t482 _ ?s1 ?s2 ?s3 ?s4 A6.out).mono ?_); (case s1 => exact (qP4 HO474.out)); (case s2 => exact (qP27 HO474.out)); (case s3 => exact (qP4 HO476.out)); (case s4 => exact (qP27 HO476.out)); rintro e w12 ⟨rfl, hb⟩; refine ⟨_, rfl, ?_⟩; replace HO474 := Aside0.mk (qP59 HO474.out); replace HO476 := Aside0.mk (qP59 HO476.out); replace HB := Aside0.mk (qP57); clear hb))
  (try simp only [Act.put, List.setIfInBounds_toArray, List.set_cons_zero, List.set_cons_succ])
  go_cut [88] (fun v88 wc => ∃ (kq : Nat) (x88_6 : Bool), v88 = .bool x88_6 ∧ Aside0 (laws_FnPassages.j0 kq l0 t471 t472 t477 t478 t479 x88_6 = some r) ∧ Aside0 (kq ≤ k) ∧ Aside0 (Kd.R k60 60 wc w.heap.size (fun _ => True) (.slice Ao9 t471.length co9) t471) ∧ Aside0 (Kd.R k55 55 wc w.heap.size (fun _ => True) (.slice Ao10 t472.length co10) t472) ∧ Aside0 (Below w.heap.size w wc))
  case first =>
   have H := HC7.out; clear HC7
   by_cases c13 : t477 = t480
   ·as_aux_lemma =>
    rw [if_pos c13] at H; have c13b0 : (t477 == t480) = true := beq_iff_eq.mpr c13; have c13b1 : (t477 != t480) = false := bne_eq_false_iff_eq.mpr c13; clear c13
    (first | rw [c13b0] | (simp only [i64_w, i32_w]; rw [c13b0]) | skip)
    by_cases c14 : t478 = t481
    ·as_aux_lemma =>
     rw [if_pos c14] at H; have c14b0 : (t478 == t481) = true := beq_iff_eq.mpr c14; have c14b1 : (t478 != t481) = false := bne_eq_false_iff_eq.mpr c14; clear c14
     by_cases c15 : (t479 != t482) = true
     ·as_aux_lemma =>
      rw [if_pos c15] at H; have c15b0 : (t479 != t482) = true := c15
      (try (have c15b1 : decide (t479 = t482) = false := by simpa using c15))
      (try (have c15b2 : (t479 == t482) = false := by simpa using c15))
      (try (have c15b3 : ¬ (t479 = t482) := by simpa using c15)); clear c15; have H' := Aside0.mk H; clear H
      go_wp2
      go_meet
      case rel => exact ⟨_, (true), (qP14), H', ⟨by first | omega | exact Nat.le_refl _⟩, ⟨(qP1 HO474.out)⟩, ⟨(qP1 HO476.out)⟩, ⟨(qP0)⟩⟩
     ·as_aux_lemma =>
      rw [if_neg c15] at H
      have c15b0 : (t479 != t482) = false := by simpa using c15
      (try (have c15b1 : decide (t479 = t482) = true := by simpa using c15))
      (try (have c15b2 : (t479 == t482) = true := by simpa using c15)); clear c15; replace H := bindA H; obtain ⟨t483, A16, H⟩ := H; (try dsimp only at H); replace H := bindA H; obtain ⟨t484, A17, H⟩ := H; (try dsimp only at H); have H' := Aside0.mk H; clear H
      go_wp2_with (first | (go_at_call 8; (with_reducible refine (impl_ArePassages.calls k _ _ t471 t483 _ ?s1 ?s2 A16.out).mono ?_); (case s1 => exact (qP4 HO474.out)); (case s2 => exact (qP27 HO474.out)); rintro e w18 ⟨rfl, hb⟩; replace HO474 := Aside0.mk (qP59 HO474.out); replace HO476 := Aside0.mk (qP59 HO476.out); replace HB := Aside0.mk (qP57); clear hb) | (go_at_call 9; (with_reducible refine (spec_ArePassages.calls k _ _ t471 t484 _ ?s1 ?s2 A17.out).mono ?_); (case s1 => exact (qP4 HO474.out)); (case s2 => exact (qP27 HO474.out)); rintro e w19 ⟨rfl, hb⟩; replace HO474 := Aside0.mk (qP59 HO474.out); replace HO476 := Aside0.mk (qP59 HO476.out); replace HB := Aside0.mk (qP57); clear hb))
      go_meet
      case rel => exact ⟨_, ((t483 != t484)), (qP14), H', ⟨by first | omega | exact Nat.le_refl _⟩, ⟨(qP1 HO474.out)⟩, ⟨(qP1 HO476.out)⟩, ⟨(qP0)⟩⟩
    ·as_aux_lemma =>
     rw [if_neg c14] at H; have c14b0 : (t478 == t481) = false := beq_eq_false_iff_ne.mpr c14; have c14b1 : (t478 != t481) = true := bne_iff_ne.mpr c14; have H' := Aside0.mk H; clear H
     go_wp2
     go_meet
     case rel => exact ⟨_, (true), (qP14), H', ⟨by first | omega | exact Nat.le_refl _⟩, ⟨(qP1 HO474.out)⟩, ⟨(qP1 HO476.out)⟩, ⟨(qP0)⟩⟩
   ·as_aux_lemma =>
    rw [if_neg c13] at H; have c13b0 : (t477 == t480) = false := beq_eq_false_iff_ne.mpr c13; have c13b1 : (t477 != t480) = true := bne_iff_ne.mpr c13
    (first | rw [c13b0] | (simp only [i64_w, i32_w]; rw [c13b0]) | skip)
    have H' := Aside0.mk H; clear H
    go_wp2
    go_meet
    case rel => exact ⟨_, (true), (qP14), H', ⟨by first | omega | exact Nat.le_refl _⟩, ⟨(qP1 HO474.out)⟩, ⟨(qP1 HO476.out)⟩, ⟨(qP0)⟩⟩
  case rest =>
   clear HC7; (try clear c1); (try clear p2); (try clear c3); (try clear c4); (try clear c5); (try clear c6); (try clear c7); (try clear c13); (try clear c13b0); (try clear c13b1); (try clear c14); (try clear c14b0); (try clear c14b1); (try clear c15); (try clear c15b0); (try clear c15b1); (try clear c15b2); obtain ⟨kq, x88_6, rfl, HA, HJ6, HO_3, HO_4, HB⟩ := hcut
   cases kq with
   | zero => exact absurd HA.out (by simp [laws_FnPassages.j0])
   | succ kj6 =>
    have H := HA.out; clear HA; simp only [laws_FnPassages.j0] at H
    by_cases c20 : x88_6 = true
    ·as_aux_lemma =>
     subst c20; rw [if_pos rfl] at H; obtain rfl := Option.some.inj H
     go_wp2
     go_ret
     exact ⟨(qP8), (qP0)⟩
    ·as_aux_lemma =>
     replace c20 := Bool.eq_false_iff.mpr c20; subst c20; rw [if_neg (show ¬ (false = true) by decide)] at H; have HC21 := Aside0.mk H; clear H
     go_upto_if 89 with (fail)
     go_cut [] (fun wc => ∃ (kq : Nat), Aside0 (laws_FnPassages.j1 kq l0 = some r) ∧ Aside0 (kq ≤ kj6) ∧ Aside0 (Below w.heap.size w wc))
     case first =>
      have H := HC21.out; clear HC21
      by_cases c22 : t479 = true
      ·as_aux_lemma =>
       subst c22; rw [if_pos rfl] at H; obtain ⟨ji23, hji23⟩ : ∃ j_ : Int, (wrap64 ((t472.length : Int) / 2)) = j_ := ⟨_, rfl⟩
       replace H : (if 0 ≤ (ji23) then (if (ji23) ≤ (t472.length : Int) then ((impl_VolumeOf.f kj6 t471 (t472.take ((ji23) : Int).toNat)).bind fun bt489 => ((impl_VolumeOf.f kj6 t471 (t472.drop ((ji23) : Int).toNat)).bind fun bt496 => (if bt489.2.2 = true then (if bt496.2.2 = true then (if (wrap64 ((wrap64 ((wrap64 (bt489.1 * bt496.2.1)) + (wrap64 (bt496.1 * bt489.2.1)))) * t478)) = (wrap64 ((wrap64 (t477 * bt489.2.1)) * bt496.2.1)) then (laws_FnPassages.j1 kj6 l0) else (some false)) else (some false)) else (some false)))) else (none)) else (none)) = some r := by first | (rw [hji23] at H; exact H) | (simp only [hji23] at H ⊢; exact H)
       have hji23w : (IntKind.i64.wrap ((t472.length : Int) / 2)) = ji23 := (i64_w _).trans hji23
       by_cases c24 : 0 ≤ (ji23)
       ·as_aux_lemma =>
        rw [if_pos c24] at H; have c24b0 := eq_true c24; have c24b1 : decide (0 ≤ (ji23)) = true := decide_eq_true c24; clear c24
        by_cases c25 : (ji23) ≤ (t472.length : Int)
        ·as_aux_lemma =>
         rw [if_pos c25] at H; have c25b0 := eq_true c25; have c25b1 : decide ((ji23) ≤ (t472.length : Int)) = true := decide_eq_true c25; clear c25; obtain ⟨y485, hy485⟩ : ∃ y_ : List (S55), y_ = (t472.take ((ji23) : Int).toNat) := ⟨_, rfl⟩; replace H : ((impl_VolumeOf.f kj6 t471 y485).bind fun bt489 => ((impl_VolumeOf.f kj6 t471 (t472.drop ((ji23) : Int).toNat)).bind fun bt496 => (if bt489.2.2 = true then (if bt496.2.2 = true then (if (wrap64 ((wrap64 ((wrap64 (bt489.1 * bt496.2.1)) + (wrap64 (bt496.1 * bt489.2.1)))) * t478)) = (wrap64 ((wrap64 (t477 * bt489.2.1)) * bt496.2.1)) then (laws_FnPassages.j1 kj6 l0) else (some false)) else (some false)) else (some false)))) = some r := (qP10 hy485); have Ny485 := Aside0.mk hy485; clear hy485; replace H := bindA H; obtain ⟨⟨t489, t490, t491⟩, A26, H⟩ := H; (try dsimp only at H); have c27b0 := eq_true (of_decide_eq_true (qP12) : 0 ≤ (ji23)); have c28b0 := eq_true (of_decide_eq_true (qP12) : (ji23) ≤ (t472.length : Int)); obtain ⟨y492, hy492⟩ : ∃ y_ : List (S55), y_ = (t472.drop ((ji23) : Int).toNat) := ⟨_, rfl⟩; replace H : ((impl_VolumeOf.f kj6 t471 y492).bind fun bt496 => (if t491 = true then (if bt496.2.2 = true then (if (wrap64 ((wrap64 ((wrap64 (t489 * bt496.2.1)) + (wrap64 (bt496.1 * t490)))) * t478)) = (wrap64 ((wrap64 (t477 * t490)) * bt496.2.1)) then (laws_FnPassages.j1 kj6 l0) else (some false)) else (some false)) else (some false))) = some r := (qP10 hy492); have Ny492 := Aside0.mk hy492; clear hy492; replace H := bindA H
         obtain ⟨⟨t496, t497, t498⟩, A29, H⟩ := H; (try dsimp only at H)
         by_cases c30 : t491 = true
         ·as_aux_lemma =>
          subst c30; rw [if_pos rfl] at H
          by_cases c31 : t498 = true
          ·as_aux_lemma =>
           subst c31; rw [if_pos rfl] at H
           by_cases c32 : (wrap64 ((wrap64 ((wrap64 (t489 * t497)) + (wrap64 (t496 * t490)))) * t478)) = (wrap64 ((wrap64 (t477 * t490)) * t497))
           ·as_aux_lemma =>
            rw [if_pos c32] at H; have c32b0 : ((wrap64 ((wrap64 ((wrap64 (t489 * t497)) + (wrap64 (t496 * t490)))) * t478)) == (wrap64 ((wrap64 (t477 * t490)) * t497))) = true := beq_iff_eq.mpr c32; have c32b1 : ((wrap64 ((wrap64 ((wrap64 (t489 * t497)) + (wrap64 (t496 * t490)))) * t478)) != (wrap64 ((wrap64 (t477 * t490)) * t497))) = false := bne_eq_false_iff_eq.mpr c32; clear c32
            (first | rw [c32b0] | (simp only [i64_w, i32_w]; rw [c32b0]) | skip)
            have H' := Aside0.mk H; clear H; have q33 : ((ji23) : Int) ≤ ((t472.length : Int) : Int) := of_decide_eq_true (qP12); obtain ⟨i033, hi033, _, hsz33, _⟩ := info_parts info55; have hroom33 : t472.length ≤ co10 := (Kd.R_reads' HO_4.out).2.1; have hC33 : Kd.C k55 _ Ao10 t472.length t472 := (Kd.R_reads' HO_4.out).2.2; have hcut33 := cut_to (P := Try.prog) 25 55 .i64 Try.underlying25 hi033 Ao10 t472.length co10 (ji23) (of_decide_eq_true (qP12)) q33 hroom33; have hr33 := Kd.C_take (m := ((ji23) : Int).toNat) hC33 (by omega); have hy33 : y485.length = ((ji23) : Int).toNat := (qP54); rw [← Ny485.out] at hr33; rw [← hy33] at hcut33; have HR488 := Aside0.mk hr33; have HC488 := Aside0.mk (qP52); clear hr33 hC33 hroom33 hi033 hsz33; have KY33 := Aside0.mk hy33; clear hy33; have KL33 := Aside0.mk (qP42); replace q33 := eq_true q33
            go_wp2_with (first | ((with_reducible refine gate_callee (f := 6) rfl ?_); refine goesL_ (some 98) rfl rfl Try.func6 (by kernel_rfl) rfl #[.slice Ao9 t471.length co9, .slice Ao10 y485.length co10] rfl (qP2) ?_; (with_reducible refine (impl_VolumeOf.calls kj6 _ _ t471 _ _ y485 t489 t490 true _ ?s1 ?s2 ?s3 ?s4 A26.out).mono ?_); (case s1 => exact (qP4 HO_3.out)); (case s2 => exact (qP27 HO_3.out)); (case s3 => exact (qP60 HR488.out)); (case s4 => exact HC488.out); rintro e w34 ⟨rfl, hb⟩; refine ⟨_, rfl, ?_⟩; replace HO_3 := Aside0.mk (qP59 HO_3.out); replace HO_4 := Aside0.mk (qP59 HO_4.out); replace HR488 := Aside0.mk (Kd.C_below (qP20 HR488.out) hb); replace HB := Aside0.mk (qP57); clear hb; have q35 : ((ji23) : Int) ≤ ((t472.length : Int) : Int) := of_decide_eq_true (qP12); obtain ⟨i035, hi035, _, hsz35, _⟩ := info_parts info55; have hroom35 : t472.length ≤ co10 := (Kd.R_reads' HO_4.out).2.1; have hC35 : Kd.C k55 _ Ao10 t472.length t472 := (Kd.R_reads' HO_4.out).2.2; have q035 : (0 : Int) ≤ ((ji23) : Int) := of_decide_eq_true (qP12); have hcut35 := cut_from (P := Try.prog) 25 55 .i64 Try.underlying25 hi035 5 hsz35 Ao10 t472.length co10 (ji23) q035 q35; have hr35 := Kd.C_drop (m := ((ji23) : Int).toNat) (c := co10) hC35 (by omega) hroom35; obtain ⟨A35, hA35⟩ : ∃ A1, A1 = (if co10 = ((ji23) : Int).toNat then Ao10 else (Ao10 : Option Addr).map (·.add (((ji23) : Int).toNat * 5))) := ⟨_, rfl⟩; obtain ⟨c35, hc35⟩ : ∃ c1, c1 = co10 - ((ji23) : Int).toNat := ⟨_, rfl⟩; have hy35 : y492.length = t472.length - ((ji23) : Int).toNat := (qP53); rw [show (t472).drop ((ji23) : Int).toNat = y492 from Ny492.out.symm] at hr35; replace hr35 : Kd.C k55 _ A35 y492.length y492 := (by rw [hA35]; exact hr35); rw [← hy35, ← hA35, ← hc35] at hcut35; have HR495 := Aside0.mk hr35; have HC495 := Aside0.mk (by exact show y492.length ≤ c35 from by rw [hy35, hc35]; exact Nat.sub_le_sub_right hroom35 _); clear hr35 hC35 hroom35 hi035 hsz35 hc35; have KY35 := Aside0.mk hy35; have KA35 := Aside0.mk hA35; clear hy35 hA35; have KL35 := Aside0.mk (qP42); replace q35 := eq_true q35) | ((with_reducible refine gate_callee (f := 6) rfl ?_); refine goesL_ (some 107) rfl rfl Try.func6 (by kernel_rfl) rfl #[.slice Ao9 t471.length co9, .slice A35 y492.length c35] rfl (qP2) ?_; (with_reducible refine (impl_VolumeOf.calls kj6 _ _ t471 _ _ y492 t496 t497 true _ ?s1 ?s2 ?s3 ?s4 A29.out).mono ?_); (case s1 => exact (qP4 HO_3.out)); (case s2 => exact (qP27 HO_3.out)); (case s3 => exact (qP60 HR495.out)); (case s4 => exact HC495.out); rintro e w36 ⟨rfl, hb⟩; refine ⟨_, rfl, ?_⟩; replace HO_3 := Aside0.mk (qP59 HO_3.out); replace HO_4 := Aside0.mk (qP59 HO_4.out); replace HR488 := Aside0.mk (Kd.C_below (qP20 HR488.out) hb); replace HR495 := Aside0.mk (Kd.C_below (qP20 HR495.out) hb); replace HB := Aside0.mk (qP57); clear hb))
            go_meet
            case rel => exact ⟨_, H', ⟨by have := HJ6.out; first | omega | exact Nat.le_refl _⟩, ⟨(qP0)⟩⟩
           ·as_aux_lemma =>
            rw [if_neg c32] at H; have c32b0 : ((wrap64 ((wrap64 ((wrap64 (t489 * t497)) + (wrap64 (t496 * t490)))) * t478)) == (wrap64 ((wrap64 (t477 * t490)) * t497))) = false := beq_eq_false_iff_ne.mpr c32; have c32b1 : ((wrap64 ((wrap64 ((wrap64 (t489 * t497)) + (wrap64 (t496 * t490)))) * t478)) != (wrap64 ((wrap64 (t477 * t490)) * t497))) = true := bne_iff_ne.mpr c32
            (first | rw [c32b0] | (simp only [i64_w, i32_w]; rw [c32b0]) | skip)
            obtain rfl := Option.some.inj H; have q37 : ((ji23) : Int) ≤ ((t472.length : Int) : Int) := of_decide_eq_true (qP12); obtain ⟨i037, hi037, _, hsz37, _⟩ := info_parts info55; have hroom37 : t472.length ≤ co10 := (Kd.R_reads' HO_4.out).2.1; have hC37 : Kd.C k55 _ Ao10 t472.length t472 := (Kd.R_reads' HO_4.out).2.2; have hcut37 := cut_to (P := Try.prog) 25 55 .i64 Try.underlying25 hi037 Ao10 t472.length co10 (ji23) (of_decide_eq_true (qP12)) q37 hroom37; have hr37 := Kd.C_take (m := ((ji23) : Int).toNat) hC37 (by omega); have hy37 : y485.length = ((ji23) : Int).toNat := (qP54); rw [← Ny485.out] at hr37; rw [← hy37] at hcut37; have HR488 := Aside0.mk hr37; have HC488 := Aside0.mk (qP52); clear hr37 hC37 hroom37 hi037 hsz37; have KY37 := Aside0.mk hy37; clear hy37; have KL37 := Aside0.mk (qP42); replace q37 := eq_true q37
            go_wp2_with (first | ((with_reducible refine gate_callee (f := 6) rfl ?_); refine goesL_ (some 98) rfl rfl Try.func6 (by kernel_rfl) rfl #[.slice Ao9 t471.length co9, .slice Ao10 y485.length co10] rfl (qP2) ?_; (with_reducible refine (impl_VolumeOf.calls kj6 _ _ t471 _ _ y485 t489 t490 true _ ?s1 ?s2 ?s3 ?s4 A26.out).mono ?_); (case s1 => exact (qP4 HO_3.out)); (case s2 => exact (qP27 HO_3.out)); (case s3 => exact (qP60 HR488.out)); (case s4 => exact HC488.out); rintro e w38 ⟨rfl, hb⟩; refine ⟨_, rfl, ?_⟩; replace HO_3 := Aside0.mk (qP59 HO_3.out); replace HO_4 := Aside0.mk (qP59 HO_4.out); replace HR488 := Aside0.mk (Kd.C_below (qP20 HR488.out) hb); replace HB := Aside0.mk (qP57); clear hb; have q39 : ((ji23) : Int) ≤ ((t472.length : Int) : Int) := of_decide_eq_true (qP12); obtain ⟨i039, hi039, _, hsz39, _⟩ := info_parts info55; have hroom39 : t472.length ≤ co10 := (Kd.R_reads' HO_4.out).2.1; have hC39 : Kd.C k55 _ Ao10 t472.length t472 := (Kd.R_reads' HO_4.out).2.2; have q039 : (0 : Int) ≤ ((ji23) : Int) := of_decide_eq_true (qP12); have hcut39 := cut_from (P := Try.prog) 25 55 .i64 Try.underlying25 hi039 5 hsz39 Ao10 t472.length co10 (ji23) q039 q39; have hr39 := Kd.C_drop (m := ((ji23) : Int).toNat) (c := co10) hC39 (by omega) hroom39; obtain ⟨A39, hA39⟩ : ∃ A1, A1 = (if co10 = ((ji23) : Int).toNat then Ao10 else (Ao10 : Option Addr).map (·.add (((ji23) : Int).toNat * 5))) := ⟨_, rfl⟩; obtain ⟨c39, hc39⟩ : ∃ c1, c1 = co10 - ((ji23) : Int).toNat := ⟨_, rfl⟩; have hy39 : y492.length = t472.length - ((ji23) : Int).toNat := (qP53); rw [show (t472).drop ((ji23) : Int).toNat = y492 from Ny492.out.symm] at hr39; replace hr39 : Kd.C k55 _ A39 y492.length y492 := (by rw [hA39]; exact hr39); rw [← hy39, ← hA39, ← hc39] at hcut39; have HR495 := Aside0.mk hr39; have HC495 := Aside0.mk (by exact show y492.length ≤ c39 from by rw [hy39, hc39]; exact Nat.sub_le_sub_right hroom39 _); clear hr39 hC39 hroom39 hi039 hsz39 hc39; have KY39 := Aside0.mk hy39; have KA39 := Aside0.mk hA39; clear hy39 hA39; have KL39 := Aside0.mk (qP42); replace q39 := eq_true q39) | ((with_reducible refine gate_callee (f := 6) rfl ?_); refine goesL_ (some 107) rfl rfl Try.func6 (by kernel_rfl) rfl #[.slice Ao9 t471.length co9, .slice A39 y492.length c39] rfl (qP2) ?_; (with_reducible refine (impl_VolumeOf.calls kj6 _ _ t471 _ _ y492 t496 t497 true _ ?s1 ?s2 ?s3 ?s4 A29.out).mono ?_); (case s1 => exact (qP4 HO_3.out)); (case s2 => exact (qP27 HO_3.out)); (case s3 => exact (qP60 HR495.out)); (case s4 => exact HC495.out); rintro e w40 ⟨rfl, hb⟩; refine ⟨_, rfl, ?_⟩; replace HO_3 := Aside0.mk (qP59 HO_3.out); replace HO_4 := Aside0.mk (qP59 HO_4.out); replace HR488 := Aside0.mk (Kd.C_below (qP20 HR488.out) hb); replace HR495 := Aside0.mk (Kd.C_below (qP20 HR495.out) hb); replace HB := Aside0.mk (qP57); clear hb))
            go_ret
            exact ⟨(qP48), (qP0)⟩
          ·as_aux_lemma =>
           replace c31 := Bool.eq_false_iff.mpr c31; subst c31; rw [if_neg (show ¬ (false = true) by decide)] at H; obtain rfl := Option.some.inj H; have q41 : ((ji23) : Int) ≤ ((t472.length : Int) : Int) := of_decide_eq_true (qP12); obtain ⟨i041, hi041, _, hsz41, _⟩ := info_parts info55; have hroom41 : t472.length ≤ co10 := (Kd.R_reads' HO_4.out).2.1; have hC41 : Kd.C k55 _ Ao10 t472.length t472 := (Kd.R_reads' HO_4.out).2.2; have hcut41 := cut_to (P := Try.prog) 25 55 .i64 Try.underlying25 hi041 Ao10 t472.length co10 (ji23) (of_decide_eq_true (qP12)) q41 hroom41; have hr41 := Kd.C_take (m := ((ji23) : Int).toNat) hC41 (by omega); have hy41 : y485.length = ((ji23) : Int).toNat := (qP54); rw [← Ny485.out] at hr41; rw [← hy41] at hcut41; have HR488 := Aside0.mk hr41; have HC488 := Aside0.mk (qP52); clear hr41 hC41 hroom41 hi041 hsz41; have KY41 := Aside0.mk hy41; clear hy41; have KL41 := Aside0.mk (qP42); replace q41 := eq_true q41
           go_wp2_with (first | ((with_reducible refine gate_callee (f := 6) rfl ?_); refine goesL_ (some 98) rfl rfl Try.func6 (by kernel_rfl) rfl #[.slice Ao9 t471.length co9, .slice Ao10 y485.length co10] rfl (qP2) ?_; (with_reducible refine (impl_VolumeOf.calls kj6 _ _ t471 _ _ y485 t489 t490 true _ ?s1 ?s2 ?s3 ?s4 A26.out).mono ?_); (case s1 => exact (qP4 HO_3.out)); (case s2 => exact (qP27 HO_3.out)); (case s3 => exact (qP60 HR488.out)); (case s4 => exact HC488.out); rintro e w42 ⟨rfl, hb⟩; refine ⟨_, rfl, ?_⟩; replace HO_3 := Aside0.mk (qP59 HO_3.out); replace HO_4 := Aside0.mk (qP59 HO_4.out); replace HR488 := Aside0.mk (Kd.C_below (qP20 HR488.out) hb); replace HB := Aside0.mk (qP57); clear hb; have q43 : ((ji23) : Int) ≤ ((t472.length : Int) : Int) := of_decide_eq_true (qP12); obtain ⟨i043, hi043, _, hsz43, _⟩ := info_parts info55; have hroom43 : t472.length ≤ co10 := (Kd.R_reads' HO_4.out).2.1; have hC43 : Kd.C k55 _ Ao10 t472.length t472 := (Kd.R_reads' HO_4.out).2.2; have q043 : (0 : Int) ≤ ((ji23) : Int) := of_decide_eq_true (qP12); have hcut43 := cut_from (P := Try.prog) 25 55 .i64 Try.underlying25 hi043 5 hsz43 Ao10 t472.length co10 (ji23) q043 q43; have hr43 := Kd.C_drop (m := ((ji23) : Int).toNat) (c := co10) hC43 (by omega) hroom43; obtain ⟨A43, hA43⟩ : ∃ A1, A1 = (if co10 = ((ji23) : Int).toNat then Ao10 else (Ao10 : Option Addr).map (·.add (((ji23) : Int).toNat * 5))) := ⟨_, rfl⟩; obtain ⟨c43, hc43⟩ : ∃ c1, c1 = co10 - ((ji23) : Int).toNat := ⟨_, rfl⟩; have hy43 : y492.length = t472.length - ((ji23) : Int).toNat := (qP53); rw [show (t472).drop ((ji23) : Int).toNat = y492 from Ny492.out.symm] at hr43; replace hr43 : Kd.C k55 _ A43 y492.length y492 := (by rw [hA43]; exact hr43); rw [← hy43, ← hA43, ← hc43] at hcut43; have HR495 := Aside0.mk hr43; have HC495 := Aside0.mk (by exact show y492.length ≤ c43 from by rw [hy43, hc43]; exact Nat.sub_le_sub_right hroom43 _); clear hr43 hC43 hroom43 hi043 hsz43 hc43; have KY43 := Aside0.mk hy43; have KA43 := Aside0.mk hA43; clear hy43 hA43; have KL43 := Aside0.mk (qP42); replace q43 := eq_true q43) | ((with_reducible refine gate_callee (f := 6) rfl ?_); refine goesL_ (some 107) rfl rfl Try.func6 (by kernel_rfl) rfl #[.slice Ao9 t471.length co9, .slice A43 y492.length c43] rfl (qP2) ?_; (with_reducible refine (impl_VolumeOf.calls kj6 _ _ t471 _ _ y492 t496 t497 false _ ?s1 ?s2 ?s3 ?s4 A29.out).mono ?_); (case s1 => exact (qP4 HO_3.out)); (case s2 => exact (qP27 HO_3.out)); (case s3 => exact (qP60 HR495.out)); (case s4 => exact HC495.out); rintro e w44 ⟨rfl, hb⟩; refine ⟨_, rfl, ?_⟩; replace HO_3 := Aside0.mk (qP59 HO_3.out); replace HO_4 := Aside0.mk (qP59 HO_4.out); replace HR488 := Aside0.mk (Kd.C_below (qP20 HR488.out) hb); replace HR495 := Aside0.mk (Kd.C_below (qP20 HR495.out) hb); replace HB := Aside0.mk (qP57); clear hb))
           go_ret
           exact ⟨(qP48), (qP0)⟩
         ·as_aux_lemma =>
          replace c30 := Bool.eq_false_iff.mpr c30; subst c30; rw [if_neg (show ¬ (false = true) by decide)] at H; obtain rfl := Option.some.inj H; have q45 : ((ji23) : Int) ≤ ((t472.length : Int) : Int) := of_decide_eq_true (qP12); obtain ⟨i045, hi045, _, hsz45, _⟩ := info_parts info55; have hroom45 : t472.length ≤ co10 := (Kd.R_reads' HO_4.out).2.1; have hC45 : Kd.C k55 _ Ao10 t472.length t472 := (Kd.R_reads' HO_4.out).2.2; have hcut45 := cut_to (P := Try.prog) 25 55 .i64 Try.underlying25 hi045 Ao10 t472.length co10 (ji23) (of_decide_eq_true (qP12)) q45 hroom45; have hr45 := Kd.C_take (m := ((ji23) : Int).toNat) hC45 (by omega); have hy45 : y485.length = ((ji23) : Int).toNat := (qP54); rw [← Ny485.out] at hr45; rw [← hy45] at hcut45; have HR488 := Aside0.mk hr45; have HC488 := Aside0.mk (qP52); clear hr45 hC45 hroom45 hi045 hsz45; have KY45 := Aside0.mk hy45; clear hy45; have KL45 := Aside0.mk (qP42); replace q45 := eq_true q45
          go_wp2_with (first | ((with_reducible refine gate_callee (f := 6) rfl ?_); refine goesL_ (some 98) rfl rfl Try.func6 (by kernel_rfl) rfl #[.slice Ao9 t471.length co9, .slice Ao10 y485.length co10] rfl (qP2) ?_; (with_reducible refine (impl_VolumeOf.calls kj6 _ _ t471 _ _ y485 t489 t490 false _ ?s1 ?s2 ?s3 ?s4 A26.out).mono ?_); (case s1 => exact (qP4 HO_3.out)); (case s2 => exact (qP27 HO_3.out)); (case s3 => exact (qP60 HR488.out)); (case s4 => exact HC488.out); rintro e w46 ⟨rfl, hb⟩; refine ⟨_, rfl, ?_⟩; replace HO_3 := Aside0.mk (qP59 HO_3.out); replace HO_4 := Aside0.mk (qP59 HO_4.out); replace HR488 := Aside0.mk (Kd.C_below (qP20 HR488.out) hb); replace HB := Aside0.mk (qP57); clear hb; have q47 : ((ji23) : Int) ≤ ((t472.length : Int) : Int) := of_decide_eq_true (qP12); obtain ⟨i047, hi047, _, hsz47, _⟩ := info_parts info55; have hroom47 : t472.length ≤ co10 := (Kd.R_reads' HO_4.out).2.1; have hC47 : Kd.C k55 _ Ao10 t472.length t472 := (Kd.R_reads' HO_4.out).2.2; have q047 : (0 : Int) ≤ ((ji23) : Int) := of_decide_eq_true (qP12); have hcut47 := cut_from (P := Try.prog) 25 55 .i64 Try.underlying25 hi047 5 hsz47 Ao10 t472.length co10 (ji23) q047 q47; have hr47 := Kd.C_drop (m := ((ji23) : Int).toNat) (c := co10) hC47 (by omega) hroom47; obtain ⟨A47, hA47⟩ : ∃ A1, A1 = (if co10 = ((ji23) : Int).toNat then Ao10 else (Ao10 : Option Addr).map (·.add (((ji23) : Int).toNat * 5))) := ⟨_, rfl⟩; obtain ⟨c47, hc47⟩ : ∃ c1, c1 = co10 - ((ji23) : Int).toNat := ⟨_, rfl⟩; have hy47 : y492.length = t472.length - ((ji23) : Int).toNat := (qP53); rw [show (t472).drop ((ji23) : Int).toNat = y492 from Ny492.out.symm] at hr47; replace hr47 : Kd.C k55 _ A47 y492.length y492 := (by rw [hA47]; exact hr47); rw [← hy47, ← hA47, ← hc47] at hcut47; have HR495 := Aside0.mk hr47; have HC495 := Aside0.mk (by exact show y492.length ≤ c47 from by rw [hy47, hc47]; exact Nat.sub_le_sub_right hroom47 _); clear hr47 hC47 hroom47 hi047 hsz47 hc47; have KY47 := Aside0.mk hy47; have KA47 := Aside0.mk hA47; clear hy47 hA47; have KL47 := Aside0.mk (qP42); replace q47 := eq_true q47) | ((with_reducible refine gate_callee (f := 6) rfl ?_); refine goesL_ (some 107) rfl rfl Try.func6 (by kernel_rfl) rfl #[.slice Ao9 t471.length co9, .slice A47 y492.length c47] rfl (qP2) ?_; (with_reducible refine (impl_VolumeOf.calls kj6 _ _ t471 _ _ y492 t496 t497 t498 _ ?s1 ?s2 ?s3 ?s4 A29.out).mono ?_); (case s1 => exact (qP4 HO_3.out)); (case s2 => exact (qP27 HO_3.out)); (case s3 => exact (qP60 HR495.out)); (case s4 => exact HC495.out); rintro e w48 ⟨rfl, hb⟩; refine ⟨_, rfl, ?_⟩; replace HO_3 := Aside0.mk (qP59 HO_3.out); replace HO_4 := Aside0.mk (qP59 HO_4.out); replace HR488 := Aside0.mk (Kd.C_below (qP20 HR488.out) hb); replace HR495 := Aside0.mk (Kd.C_below (qP20 HR495.out) hb); replace HB := Aside0.mk (qP57); clear hb))
          go_ret
          exact ⟨(qP48), (qP0)⟩
        ·as_aux_lemma =>
         rw [if_neg c25] at H
         exact absurd H (by simp)
       ·as_aux_lemma =>
        rw [if_neg c24] at H
        exact absurd H (by simp)
      ·as_aux_lemma =>
       replace c22 := Bool.eq_false_iff.mpr c22; subst c22; rw [if_neg (show ¬ (false = true) by decide)] at H; have H' := Aside0.mk H; clear H
       go_wp2
       go_meet
       case rel => exact ⟨_, H', ⟨by have := HJ6.out; first | omega | exact Nat.le_refl _⟩, ⟨(qP0)⟩⟩
     case rest =>
      clear HC21; (try clear c1); (try clear c2); (try clear p2); (try clear c3); (try clear q3); (try clear c4); (try clear q4); (try clear c5); (try clear c6); (try clear p6); (try clear c7); (try clear c13); (try clear c13b0); (try clear c13b1); (try clear c14); (try clear c14b0); (try clear c14b1); (try clear c15); (try clear c15b0); (try clear c15b1); (try clear c15b2); (try clear c20); (try clear c22); (try clear c24); (try clear c24b0); (try clear c24b1); (try clear c25); (try clear c25b0); (try clear c25b1); (try clear c27); (try clear c27b0); (try clear c28); (try clear c28b0); (try clear c30); (try clear c31); (try clear c32); (try clear c32b0); (try clear c32b1); (try clear q33); (try clear c35); (try clear q35); (try clear q37); (try clear c39); (try clear q39); (try clear q41); (try clear c43); (try clear q43); (try clear q45); (try clear c47); (try clear q47); (try clear p2); (try clear q035); (try clear q039); (try clear q043); (try clear q047); (try clear q33); (try clear q35); (try clear q37); (try clear q39); (try clear q41); (try clear q43); (try clear q45); (try clear q47); obtain ⟨kq, HA, HJ20, HB⟩ := hcut
      cases kq with
      | zero => exact absurd HA.out (by simp [laws_FnPassages.j1])
      | succ kj20 =>
       have H := HA.out; clear HA; simp only [laws_FnPassages.j1] at H; replace H := bindA H; obtain ⟨⟨t499, t500⟩, A49, H⟩ := H; (try dsimp only at H); replace H := bindA H; obtain ⟨⟨t505, t506⟩, A50, H⟩ := H; (try dsimp only at H); replace H := bindA H; obtain ⟨⟨t509, t510⟩, A51, H⟩ := H; (try dsimp only at H); have HC52 := Aside0.mk H; clear H
       go_upto_region 17 with (first | ((with_reducible refine gate_callee (f := 10) rfl ?_); refine goesL_ (some 136) rfl rfl Try.func10 (by kernel_rfl) rfl #[.slice A0 l0.length c0] rfl (qP2) ?_; (with_reducible refine (spec_DrawMergePassages.calls kj20 _ _ l0 t499 t500 _ ?s1 ?s2 A49.out).mono ?_); (case s1 => exact (qP13 HR0.out)); (case s2 => exact HC0.out); rintro e w53 ⟨v501, v503, rfl, ho0, ho1, hb⟩; refine ⟨_, rfl, ?_⟩; have HO502 := Aside0.mk (qP71 ho0); have HO504 := Aside0.mk (qP71 ho1); replace HB := Aside0.mk (qP57); clear hb ho0 ho1; obtain ⟨Ao54, co54, eo54⟩ := Kd.R_slice HO502.out; subst eo54; obtain ⟨Ao55, co55, eo55⟩ := Kd.R_slice HO504.out; subst eo55) | ((with_reducible refine gate_callee (f := 11) rfl ?_); refine goesL_ (some 142) rfl rfl Try.func11 (by kernel_rfl) rfl #[.slice Ao54 t499.length co54, .slice Ao55 t500.length co55] rfl (qP2) ?_; (with_reducible refine (impl_MergePassages.calls kj20 _ _ t499 _ _ t500 t505 t506 _ ?s1 ?s2 ?s3 ?s4 A50.out).mono ?_); (case s1 => exact (qP4 HO502.out)); (case s2 => exact (qP27 HO502.out)); (case s3 => exact (qP4 HO504.out)); (case s4 => exact (qP27 HO504.out)); rintro e w56 ⟨v507, rfl, ho0, hb⟩; refine ⟨_, rfl, ?_⟩; have HO508 := Aside0.mk (by exact Kd.R_lower (Kd.R_new' (Kd.R_new' ho0 (Kd.R_lt (qP1 HO502.out))) (Kd.R_lt (qP1 HO504.out))) (below_size (qP0))); replace HO502 := Aside0.mk (qP58 HO502.out ho0); replace HO504 := Aside0.mk (qP58 HO504.out ho0); replace HB := Aside0.mk (qP57); clear hb ho0) | ((with_reducible refine gate_callee (f := 12) rfl ?_); refine goesL_ (some 148) rfl rfl Try.func12 (by kernel_rfl) rfl #[.slice Ao54 t499.length co54, .slice Ao55 t500.length co55] rfl (qP2) ?_; (with_reducible refine (spec_MergePassages.calls kj20 _ _ t499 _ _ t500 t509 t510 _ ?s1 ?s2 ?s3 ?s4 A51.out).mono ?_); (case s1 => exact (qP4 HO502.out)); (case s2 => exact (qP27 HO502.out)); (case s3 => exact (qP4 HO504.out)); (case s4 => exact (qP27 HO504.out)); rintro e w57 ⟨v511, rfl, ho0, hb⟩; refine ⟨_, rfl, ?_⟩; have HO512 := Aside0.mk (by exact Kd.R_lower (Kd.R_new' (Kd.R_new' (Kd.R_new' ho0 (Kd.R_lt (qP1 HO502.out))) (Kd.R_lt (qP1 HO504.out))) (Kd.R_lt (qP1 HO508.out))) (below_size (qP0))); replace HO502 := Aside0.mk (qP58 HO502.out ho0); replace HO504 := Aside0.mk (qP58 HO504.out ho0); replace HO508 := Aside0.mk (qP58 HO508.out ho0); replace HB := Aside0.mk (qP57); clear hb ho0))
       (try simp only [Act.put, List.setIfInBounds_toArray, List.set_cons_zero, List.set_cons_succ])
       go_cut [159] (fun v159 wc => ∃ (kq : Nat) (x159_51 : Bool), v159 = .bool x159_51 ∧ Aside0 (laws_FnPassages.j2 kq l0 t499 t500 t505 t506 x159_51 = some r) ∧ Aside0 (kq ≤ kj20) ∧ Aside0 (Kd.R k60 60 wc w.heap.size (fun k_ => some k_ ≠ ((.slice Ao55 t500.length co55) : Value).ownBlock ∧ some k_ ≠ (v507 : Value).ownBlock) (.slice Ao54 t499.length co54) t499) ∧ Aside0 (Kd.R k60 60 wc w.heap.size (fun k_ => some k_ ≠ ((.slice Ao54 t499.length co54) : Value).ownBlock ∧ some k_ ≠ (v507 : Value).ownBlock) (.slice Ao55 t500.length co55) t500) ∧ Aside0 (Kd.R k60 60 wc w.heap.size (fun k_ => some k_ ≠ ((.slice Ao54 t499.length co54) : Value).ownBlock ∧ some k_ ≠ ((.slice Ao55 t500.length co55) : Value).ownBlock) v507 t505) ∧ Aside0 (Below w.heap.size w wc))
       case first =>
        have H := HC52.out; clear HC52
        by_cases c58 : (t506 != t510) = true
        ·as_aux_lemma =>
         rw [if_pos c58] at H; have c58b0 : (t506 != t510) = true := c58
         (try (have c58b1 : decide (t506 = t510) = false := by simpa using c58))
         (try (have c58b2 : (t506 == t510) = false := by simpa using c58))
         (try (have c58b3 : ¬ (t506 = t510) := by simpa using c58)); clear c58
         (first | rw [c58b0] | (simp only [i64_w, i32_w]; rw [c58b0]) | skip)
         have H' := Aside0.mk H; clear H
         go_wp2
         go_meet
         case rel => exact ⟨_, (true), (qP14), H', ⟨by have := HJ6.out; have := HJ20.out; first | omega | exact Nat.le_refl _⟩, ⟨(qP44 HO502.out)⟩, ⟨(qP44 HO504.out)⟩, ⟨(qP51)⟩, ⟨(qP0)⟩⟩
        ·as_aux_lemma =>
         rw [if_neg c58] at H
         have c58b0 : (t506 != t510) = false := by simpa using c58
         (try (have c58b1 : decide (t506 = t510) = true := by simpa using c58))
         (try (have c58b2 : (t506 == t510) = true := by simpa using c58)); clear c58
         (first | rw [c58b0] | (simp only [i64_w, i32_w]; rw [c58b0]) | skip)
         replace H := bindA H; obtain ⟨t513, A59, H⟩ := H; (try dsimp only at H); have H' := Aside0.mk H; clear H; obtain ⟨Ao60, co60, eo60⟩ := Kd.R_slice HO508.out; subst eo60; obtain ⟨Ao61, co61, eo61⟩ := Kd.R_slice HO512.out; subst eo61
         go_wp2_with (first | (go_at_call 13; (with_reducible refine (laws_vPassages.calls kj20 _ _ t505 _ _ t509 t513 _ ?s1 ?s2 ?s3 ?s4 A59.out).mono ?_); (case s1 => exact (qP4 HO508.out)); (case s2 => exact (qP27 HO508.out)); (case s3 => exact (qP4 HO512.out)); (case s4 => exact (qP27 HO512.out)); rintro e w' ⟨rfl, ⟨nd, rfl⟩⟩))
         go_meet
         case rel => exact ⟨_, (!t513), (qP14), H', ⟨by have := HJ6.out; have := HJ20.out; first | omega | exact Nat.le_refl _⟩, ⟨(qP44 HO502.out)⟩, ⟨(qP44 HO504.out)⟩, ⟨(qP51)⟩, ⟨(qP0)⟩⟩
       case rest =>
        clear HC52; (try clear c1); (try clear c2); (try clear p2); (try clear c3); (try clear q3); (try clear c4); (try clear q4); (try clear c5); (try clear c6); (try clear p6); (try clear c7); (try clear c10); (try clear c11); (try clear c12); (try clear c13); (try clear c13b0); (try clear c13b1); (try clear c14); (try clear c14b0); (try clear c14b1); (try clear c15); (try clear c15b0); (try clear c15b1); (try clear c15b2); (try clear c20); (try clear c22); (try clear c24); (try clear c24b0); (try clear c24b1); (try clear c25); (try clear c25b0); (try clear c25b1); (try clear c27); (try clear c27b0); (try clear c28); (try clear c28b0); (try clear c30); (try clear c31); (try clear c32); (try clear c32b0); (try clear c32b1); (try clear q33); (try clear c35); (try clear q35); (try clear q37); (try clear c39); (try clear q39); (try clear q41); (try clear c43); (try clear q43); (try clear q45); (try clear c47); (try clear q47); (try clear c58); (try clear c58b0); (try clear c58b1); (try clear c58b2); (try clear p2); (try clear p6); (try clear q035); (try clear q039); (try clear q043); (try clear q047); (try clear q3); (try clear q33); (try clear q35); (try clear q37); (try clear q39); (try clear q4); (try clear q41); (try clear q43); (try clear q45); (try clear q47); obtain ⟨kq, x159_51, rfl, HA, HJ51, HO_18, HO_19, HO_20, HB⟩ := hcut
        cases kq with
        | zero => exact absurd HA.out (by simp [laws_FnPassages.j2])
        | succ kj51 =>
         have H := HA.out; clear HA; simp only [laws_FnPassages.j2] at H
         by_cases c62 : x159_51 = true
         ·as_aux_lemma =>
          subst c62; rw [if_pos rfl] at H; obtain rfl := Option.some.inj H
          go_wp2
          go_ret
          exact ⟨(qP8), (qP0)⟩
         ·as_aux_lemma =>
          replace c62 := Bool.eq_false_iff.mpr c62; subst c62; rw [if_neg (show ¬ (false = true) by decide)] at H; have HC63 := Aside0.mk H; clear H
          go_upto_if 160 with (fail)
          go_cut [] (fun wc => ∃ (kq : Nat), Aside0 (laws_FnPassages.j3 kq l0 = some r) ∧ Aside0 (kq ≤ kj51) ∧ Aside0 (Below w.heap.size w wc))
          case first =>
           have H := HC63.out; clear HC63
           by_cases c64 : t506 = true
           ·as_aux_lemma =>
            subst c64; rw [if_pos rfl] at H; replace H := bindA H; obtain ⟨⟨t514, t515⟩, A65, H⟩ := H; (try dsimp only at H); replace H := bindA H; obtain ⟨⟨t518, t519⟩, A66, H⟩ := H; (try dsimp only at H)
            by_cases c67 : t515 = true
            ·as_aux_lemma =>
             subst c67; rw [if_pos rfl] at H; replace H := bindA H; obtain ⟨t522, A68, H⟩ := H; (try dsimp only at H)
             by_cases c69 : t522 = true
             ·as_aux_lemma =>
              subst c69; rw [if_pos rfl] at H
              by_cases c70 : t519 = true
              ·as_aux_lemma =>
               subst c70; rw [if_pos rfl] at H; replace H := bindA H; obtain ⟨t523, A71, H⟩ := H; (try dsimp only at H)
               by_cases c72 : t523 = true
               ·as_aux_lemma =>
                subst c72; rw [if_pos rfl] at H; have H' := Aside0.mk H; clear H
                go_wp2_with (first | ((with_reducible refine gate_callee (f := 11) rfl ?_); refine goesL_ (some 164) rfl rfl Try.func11 (by kernel_rfl) rfl #[.slice Ao55 t500.length co55, .slice Ao54 t499.length co54] rfl (qP2) ?_; (with_reducible refine (impl_MergePassages.calls kj51 _ _ t500 _ _ t499 t514 true _ ?s1 ?s2 ?s3 ?s4 A65.out).mono ?_); (case s1 => exact (qP4 HO_19.out)); (case s2 => exact (qP27 HO_19.out)); (case s3 => exact (qP4 HO_18.out)); (case s4 => exact (qP27 HO_18.out)); rintro e w73 ⟨v516, rfl, ho0, hb⟩; refine ⟨_, rfl, ?_⟩; have HO517 := Aside0.mk (qP66); replace HO_18 := Aside0.mk (qP58 HO_18.out ho0); replace HO_19 := Aside0.mk (qP58 HO_19.out ho0); replace HO_20 := Aside0.mk (qP58 HO_20.out ho0); replace HB := Aside0.mk (qP57); clear hb ho0; obtain ⟨Ao74, co74, eo74⟩ := Kd.R_slice HO_20.out; subst eo74) | ((with_reducible refine gate_callee (f := 11) rfl ?_); refine goesL_ (some 170) rfl rfl Try.func11 (by kernel_rfl) rfl #[.slice Ao74 t505.length co74, .slice Ao54 t499.length co54] rfl (qP2) ?_; (with_reducible refine (impl_MergePassages.calls kj51 _ _ t505 _ _ t499 t518 true _ ?s1 ?s2 ?s3 ?s4 A66.out).mono ?_); (case s1 => exact (qP4 HO_20.out)); (case s2 => exact (qP27 HO_20.out)); (case s3 => exact (qP4 HO_18.out)); (case s4 => exact (qP27 HO_18.out)); rintro e w75 ⟨v520, rfl, ho0, hb⟩; refine ⟨_, rfl, ?_⟩; have HO521 := Aside0.mk (qP62); replace HO_18 := Aside0.mk (qP58 HO_18.out ho0); replace HO_19 := Aside0.mk (qP58 HO_19.out ho0); replace HO_20 := Aside0.mk (qP58 HO_20.out ho0); replace HO517 := Aside0.mk (qP58 HO517.out ho0); replace HB := Aside0.mk (qP57); clear hb ho0; obtain ⟨Ao76, co76, eo76⟩ := Kd.R_slice HO517.out; subst eo76) | (go_at_call 13; (with_reducible refine (laws_vPassages.calls kj51 _ _ t514 _ _ t505 true _ ?s1 ?s2 ?s3 ?s4 A68.out).mono ?_); (case s1 => exact (qP4 HO517.out)); (case s2 => exact (qP27 HO517.out)); (case s3 => exact (qP4 HO_20.out)); (case s4 => exact (qP27 HO_20.out)); rintro e w' ⟨rfl, ⟨nd, rfl⟩⟩; obtain ⟨Ao77, co77, eo77⟩ := Kd.R_slice HO521.out; subst eo77) | (go_at_call 13; (with_reducible refine (laws_vPassages.calls kj51 _ _ t518 _ _ t505 true _ ?s1 ?s2 ?s3 ?s4 A71.out).mono ?_); (case s1 => exact (qP4 HO521.out)); (case s2 => exact (qP27 HO521.out)); (case s3 => exact (qP4 HO_20.out)); (case s4 => exact (qP27 HO_20.out)); rintro e w' ⟨rfl, ⟨nd, rfl⟩⟩))
                go_meet
                case rel => exact ⟨_, H', ⟨by have := HJ6.out; have := HJ20.out; have := HJ51.out; first | omega | exact Nat.le_refl _⟩, ⟨(qP0)⟩⟩
               ·as_aux_lemma =>
                replace c72 := Bool.eq_false_iff.mpr c72; subst c72; rw [if_neg (show ¬ (false = true) by decide)] at H; obtain rfl := Option.some.inj H
                go_wp2_with (first | ((with_reducible refine gate_callee (f := 11) rfl ?_); refine goesL_ (some 164) rfl rfl Try.func11 (by kernel_rfl) rfl #[.slice Ao55 t500.length co55, .slice Ao54 t499.length co54] rfl (qP2) ?_; (with_reducible refine (impl_MergePassages.calls kj51 _ _ t500 _ _ t499 t514 true _ ?s1 ?s2 ?s3 ?s4 A65.out).mono ?_); (case s1 => exact (qP4 HO_19.out)); (case s2 => exact (qP27 HO_19.out)); (case s3 => exact (qP4 HO_18.out)); (case s4 => exact (qP27 HO_18.out)); rintro e w78 ⟨v516, rfl, ho0, hb⟩; refine ⟨_, rfl, ?_⟩; have HO517 := Aside0.mk (qP66); replace HO_18 := Aside0.mk (qP58 HO_18.out ho0); replace HO_19 := Aside0.mk (qP58 HO_19.out ho0); replace HO_20 := Aside0.mk (qP58 HO_20.out ho0); replace HB := Aside0.mk (qP57); clear hb ho0; obtain ⟨Ao79, co79, eo79⟩ := Kd.R_slice HO_20.out; subst eo79) | ((with_reducible refine gate_callee (f := 11) rfl ?_); refine goesL_ (some 170) rfl rfl Try.func11 (by kernel_rfl) rfl #[.slice Ao79 t505.length co79, .slice Ao54 t499.length co54] rfl (qP2) ?_; (with_reducible refine (impl_MergePassages.calls kj51 _ _ t505 _ _ t499 t518 true _ ?s1 ?s2 ?s3 ?s4 A66.out).mono ?_); (case s1 => exact (qP4 HO_20.out)); (case s2 => exact (qP27 HO_20.out)); (case s3 => exact (qP4 HO_18.out)); (case s4 => exact (qP27 HO_18.out)); rintro e w80 ⟨v520, rfl, ho0, hb⟩; refine ⟨_, rfl, ?_⟩; have HO521 := Aside0.mk (qP62); replace HO_18 := Aside0.mk (qP58 HO_18.out ho0); replace HO_19 := Aside0.mk (qP58 HO_19.out ho0); replace HO_20 := Aside0.mk (qP58 HO_20.out ho0); replace HO517 := Aside0.mk (qP58 HO517.out ho0); replace HB := Aside0.mk (qP57); clear hb ho0; obtain ⟨Ao81, co81, eo81⟩ := Kd.R_slice HO517.out; subst eo81) | (go_at_call 13; (with_reducible refine (laws_vPassages.calls kj51 _ _ t514 _ _ t505 true _ ?s1 ?s2 ?s3 ?s4 A68.out).mono ?_); (case s1 => exact (qP4 HO517.out)); (case s2 => exact (qP27 HO517.out)); (case s3 => exact (qP4 HO_20.out)); (case s4 => exact (qP27 HO_20.out)); rintro e w' ⟨rfl, ⟨nd, rfl⟩⟩; obtain ⟨Ao82, co82, eo82⟩ := Kd.R_slice HO521.out; subst eo82) | (go_at_call 13; (with_reducible refine (laws_vPassages.calls kj51 _ _ t518 _ _ t505 false _ ?s1 ?s2 ?s3 ?s4 A71.out).mono ?_); (case s1 => exact (qP4 HO521.out)); (case s2 => exact (qP27 HO521.out)); (case s3 => exact (qP4 HO_20.out)); (case s4 => exact (qP27 HO_20.out)); rintro e w' ⟨rfl, ⟨nd, rfl⟩⟩))
                go_ret
                exact ⟨(qP8), (qP0)⟩
              ·as_aux_lemma =>
               replace c70 := Bool.eq_false_iff.mpr c70; subst c70; rw [if_neg (show ¬ (false = true) by decide)] at H; obtain rfl := Option.some.inj H
               go_wp2_with (first | ((with_reducible refine gate_callee (f := 11) rfl ?_); refine goesL_ (some 164) rfl rfl Try.func11 (by kernel_rfl) rfl #[.slice Ao55 t500.length co55, .slice Ao54 t499.length co54] rfl (qP2) ?_; (with_reducible refine (impl_MergePassages.calls kj51 _ _ t500 _ _ t499 t514 true _ ?s1 ?s2 ?s3 ?s4 A65.out).mono ?_); (case s1 => exact (qP4 HO_19.out)); (case s2 => exact (qP27 HO_19.out)); (case s3 => exact (qP4 HO_18.out)); (case s4 => exact (qP27 HO_18.out)); rintro e w83 ⟨v516, rfl, ho0, hb⟩; refine ⟨_, rfl, ?_⟩; have HO517 := Aside0.mk (qP66); replace HO_18 := Aside0.mk (qP58 HO_18.out ho0); replace HO_19 := Aside0.mk (qP58 HO_19.out ho0); replace HO_20 := Aside0.mk (qP58 HO_20.out ho0); replace HB := Aside0.mk (qP57); clear hb ho0; obtain ⟨Ao84, co84, eo84⟩ := Kd.R_slice HO_20.out; subst eo84) | ((with_reducible refine gate_callee (f := 11) rfl ?_); refine goesL_ (some 170) rfl rfl Try.func11 (by kernel_rfl) rfl #[.slice Ao84 t505.length co84, .slice Ao54 t499.length co54] rfl (qP2) ?_; (with_reducible refine (impl_MergePassages.calls kj51 _ _ t505 _ _ t499 t518 false _ ?s1 ?s2 ?s3 ?s4 A66.out).mono ?_); (case s1 => exact (qP4 HO_20.out)); (case s2 => exact (qP27 HO_20.out)); (case s3 => exact (qP4 HO_18.out)); (case s4 => exact (qP27 HO_18.out)); rintro e w85 ⟨v520, rfl, ho0, hb⟩; refine ⟨_, rfl, ?_⟩; have HO521 := Aside0.mk (qP62); replace HO_18 := Aside0.mk (qP58 HO_18.out ho0); replace HO_19 := Aside0.mk (qP58 HO_19.out ho0); replace HO_20 := Aside0.mk (qP58 HO_20.out ho0); replace HO517 := Aside0.mk (qP58 HO517.out ho0); replace HB := Aside0.mk (qP57); clear hb ho0; obtain ⟨Ao86, co86, eo86⟩ := Kd.R_slice HO517.out; subst eo86) | (go_at_call 13; (with_reducible refine (laws_vPassages.calls kj51 _ _ t514 _ _ t505 true _ ?s1 ?s2 ?s3 ?s4 A68.out).mono ?_); (case s1 => exact (qP4 HO517.out)); (case s2 => exact (qP27 HO517.out)); (case s3 => exact (qP4 HO_20.out)); (case s4 => exact (qP27 HO_20.out)); rintro e w' ⟨rfl, ⟨nd, rfl⟩⟩))
               go_ret
               exact ⟨(qP8), (qP0)⟩
             ·as_aux_lemma =>
              replace c69 := Bool.eq_false_iff.mpr c69; subst c69; rw [if_neg (show ¬ (false = true) by decide)] at H; obtain rfl := Option.some.inj H
              go_wp2_with (first | ((with_reducible refine gate_callee (f := 11) rfl ?_); refine goesL_ (some 164) rfl rfl Try.func11 (by kernel_rfl) rfl #[.slice Ao55 t500.length co55, .slice Ao54 t499.length co54] rfl (qP2) ?_; (with_reducible refine (impl_MergePassages.calls kj51 _ _ t500 _ _ t499 t514 true _ ?s1 ?s2 ?s3 ?s4 A65.out).mono ?_); (case s1 => exact (qP4 HO_19.out)); (case s2 => exact (qP27 HO_19.out)); (case s3 => exact (qP4 HO_18.out)); (case s4 => exact (qP27 HO_18.out)); rintro e w87 ⟨v516, rfl, ho0, hb⟩; refine ⟨_, rfl, ?_⟩; have HO517 := Aside0.mk (qP66); replace HO_18 := Aside0.mk (qP58 HO_18.out ho0); replace HO_19 := Aside0.mk (qP58 HO_19.out ho0); replace HO_20 := Aside0.mk (qP58 HO_20.out ho0); replace HB := Aside0.mk (qP57); clear hb ho0; obtain ⟨Ao88, co88, eo88⟩ := Kd.R_slice HO_20.out; subst eo88) | ((with_reducible refine gate_callee (f := 11) rfl ?_); refine goesL_ (some 170) rfl rfl Try.func11 (by kernel_rfl) rfl #[.slice Ao88 t505.length co88, .slice Ao54 t499.length co54] rfl (qP2) ?_; (with_reducible refine (impl_MergePassages.calls kj51 _ _ t505 _ _ t499 t518 t519 _ ?s1 ?s2 ?s3 ?s4 A66.out).mono ?_); (case s1 => exact (qP4 HO_20.out)); (case s2 => exact (qP27 HO_20.out)); (case s3 => exact (qP4 HO_18.out)); (case s4 => exact (qP27 HO_18.out)); rintro e w89 ⟨v520, rfl, ho0, hb⟩; refine ⟨_, rfl, ?_⟩; have HO521 := Aside0.mk (qP62); replace HO_18 := Aside0.mk (qP58 HO_18.out ho0); replace HO_19 := Aside0.mk (qP58 HO_19.out ho0); replace HO_20 := Aside0.mk (qP58 HO_20.out ho0); replace HO517 := Aside0.mk (qP58 HO517.out ho0); replace HB := Aside0.mk (qP57); clear hb ho0; obtain ⟨Ao90, co90, eo90⟩ := Kd.R_slice HO517.out; subst eo90) | (go_at_call 13; (with_reducible refine (laws_vPassages.calls kj51 _ _ t514 _ _ t505 false _ ?s1 ?s2 ?s3 ?s4 A68.out).mono ?_); (case s1 => exact (qP4 HO517.out)); (case s2 => exact (qP27 HO517.out)); (case s3 => exact (qP4 HO_20.out)); (case s4 => exact (qP27 HO_20.out)); rintro e w' ⟨rfl, ⟨nd, rfl⟩⟩))
              go_ret
              exact ⟨(qP8), (qP0)⟩
            ·as_aux_lemma =>
             replace c67 := Bool.eq_false_iff.mpr c67; subst c67; rw [if_neg (show ¬ (false = true) by decide)] at H; obtain rfl := Option.some.inj H
             go_wp2_with (first | ((with_reducible refine gate_callee (f := 11) rfl ?_); refine goesL_ (some 164) rfl rfl Try.func11 (by kernel_rfl) rfl #[.slice Ao55 t500.length co55, .slice Ao54 t499.length co54] rfl (qP2) ?_; (with_reducible refine (impl_MergePassages.calls kj51 _ _ t500 _ _ t499 t514 false _ ?s1 ?s2 ?s3 ?s4 A65.out).mono ?_); (case s1 => exact (qP4 HO_19.out)); (case s2 => exact (qP27 HO_19.out)); (case s3 => exact (qP4 HO_18.out)); (case s4 => exact (qP27 HO_18.out)); rintro e w91 ⟨v516, rfl, ho0, hb⟩; refine ⟨_, rfl, ?_⟩; have HO517 := Aside0.mk (qP66); replace HO_18 := Aside0.mk (qP58 HO_18.out ho0); replace HO_19 := Aside0.mk (qP58 HO_19.out ho0); replace HO_20 := Aside0.mk (qP58 HO_20.out ho0); replace HB := Aside0.mk (qP57); clear hb ho0; obtain ⟨Ao92, co92, eo92⟩ := Kd.R_slice HO_20.out; subst eo92) | ((with_reducible refine gate_callee (f := 11) rfl ?_); refine goesL_ (some 170) rfl rfl Try.func11 (by kernel_rfl) rfl #[.slice Ao92 t505.length co92, .slice Ao54 t499.length co54] rfl (qP2) ?_; (with_reducible refine (impl_MergePassages.calls kj51 _ _ t505 _ _ t499 t518 t519 _ ?s1 ?s2 ?s3 ?s4 A66.out).mono ?_); (case s1 => exact (qP4 HO_20.out)); (case s2 => exact (qP27 HO_20.out)); (case s3 => exact (qP4 HO_18.out)); (case s4 => exact (qP27 HO_18.out)); rintro e w93 ⟨v520, rfl, ho0, hb⟩; refine ⟨_, rfl, ?_⟩; have HO521 := Aside0.mk (qP62); replace HO_18 := Aside0.mk (qP58 HO_18.out ho0); replace HO_19 := Aside0.mk (qP58 HO_19.out ho0); replace HO_20 := Aside0.mk (qP58 HO_20.out ho0); replace HO517 := Aside0.mk (qP58 HO517.out ho0); replace HB := Aside0.mk (qP57); clear hb ho0))
             go_ret
             exact ⟨(qP8), (qP0)⟩
           ·as_aux_lemma =>
            replace c64 := Bool.eq_false_iff.mpr c64; subst c64; rw [if_neg (show ¬ (false = true) by decide)] at H; have H' := Aside0.mk H; clear H
            go_wp2
            go_meet
            case rel => exact ⟨_, H', ⟨by have := HJ6.out; have := HJ20.out; have := HJ51.out; first | omega | exact Nat.le_refl _⟩, ⟨(qP0)⟩⟩
          case rest =>
           clear HC63; (try clear c1); (try clear c2); (try clear p2); (try clear c3); (try clear q3); (try clear c4); (try clear q4); (try clear c5); (try clear c6); (try clear p6); (try clear c7); (try clear c10); (try clear c11); (try clear c12); (try clear c13); (try clear c13b0); (try clear c13b1); (try clear c14); (try clear c14b0); (try clear c14b1); (try clear c15); (try clear c15b0); (try clear c15b1); (try clear c15b2); (try clear c20); (try clear c22); (try clear c24); (try clear c24b0); (try clear c24b1); (try clear c25); (try clear c25b0); (try clear c25b1); (try clear c27); (try clear c27b0); (try clear c28); (try clear c28b0); (try clear c30); (try clear c31); (try clear c32); (try clear c32b0); (try clear c32b1); (try clear q33); (try clear c35); (try clear q35); (try clear q37); (try clear c39); (try clear q39); (try clear q41); (try clear c43); (try clear q43); (try clear q45); (try clear c47); (try clear q47); (try clear c58); (try clear c58b0); (try clear c58b1); (try clear c58b2); (try clear c62); (try clear c64); (try clear p64); (try clear c67); (try clear c69); (try clear c70); (try clear c72); (try clear p2); (try clear p6); (try clear q035); (try clear q039); (try clear q043); (try clear q047); (try clear q3); (try clear q33); (try clear q35); (try clear q37); (try clear q39); (try clear q4); (try clear q41); (try clear q43); (try clear q45); (try clear q47); obtain ⟨kq, HA, HJ62, HB⟩ := hcut
           cases kq with
           | zero => exact absurd HA.out (by simp [laws_FnPassages.j3])
           | succ kj62 =>
            have H := HA.out; clear HA; simp only [laws_FnPassages.j3] at H; replace H := bindA H; obtain ⟨⟨t524, t525, t526⟩, A94, H⟩ := H; (try dsimp only at H); replace H := bindA H; obtain ⟨⟨t529, t530⟩, A95, H⟩ := H; (try dsimp only at H); replace H := bindA H; obtain ⟨⟨t533, t534⟩, A96, H⟩ := H; (try dsimp only at H); have HC97 := Aside0.mk H; clear H
            go_upto_region 27 with (first | ((with_reducible refine gate_callee (f := 14) rfl ?_); refine goesL_ (some 193) rfl rfl Try.func14 (by kernel_rfl) rfl #[.slice A0 l0.length c0] rfl (qP2) ?_; (with_reducible refine (spec_DrawFittingStations.calls kj62 _ _ l0 t524 t525 t526 _ ?s1 ?s2 A94.out).mono ?_); (case s1 => exact (qP13 HR0.out)); (case s2 => exact HC0.out); rintro e w98 ⟨v527, rfl, ho0, hb⟩; refine ⟨_, rfl, ?_⟩; have HO528 := Aside0.mk (qP71 ho0); replace HB := Aside0.mk (qP57); clear hb ho0; obtain ⟨Ao99, co99, eo99⟩ := Kd.R_slice HO528.out; subst eo99) | ((with_reducible refine gate_callee (f := 15) rfl ?_); refine goesL_ (some 201) rfl rfl Try.func15 (by kernel_rfl) rfl #[.slice Ao99 t524.length co99, .int .i64 t525, .int .i64 t526] rfl (qP2) ?_; (with_reducible refine (impl_FittingStations.calls kj62 _ _ t524 t525 t526 t529 t530 _ ?s1 ?s2 A95.out).mono ?_); (case s1 => exact (qP4 HO528.out)); (case s2 => exact (qP27 HO528.out)); rintro e w100 ⟨v531, rfl, ho0, hb⟩; refine ⟨_, rfl, ?_⟩; replace HO528 := Aside0.mk (qP59 HO528.out); have HO532 := Aside0.mk (qP71 ho0); replace HB := Aside0.mk (qP57); clear hb ho0) | ((with_reducible refine gate_callee (f := 16) rfl ?_); refine goesL_ (some 208) rfl rfl Try.func16 (by kernel_rfl) rfl #[.slice Ao99 t524.length co99, .int .i64 t525, .int .i64 t526] rfl (qP2) ?_; (with_reducible refine (spec_FittingStations.calls kj62 _ _ t524 t525 t526 t533 t534 _ ?s1 ?s2 A96.out).mono ?_); (case s1 => exact (qP4 HO528.out)); (case s2 => exact (qP27 HO528.out)); rintro e w101 ⟨v535, rfl, ho0, hb⟩; refine ⟨_, rfl, ?_⟩; replace HO528 := Aside0.mk (qP59 HO528.out); have HO536 := Aside0.mk (by exact Kd.R_lower (Kd.R_new' ho0 (Kd.R_lt (qP1 HO532.out))) (below_size (qP0))); replace HO532 := Aside0.mk (qP58 HO532.out ho0); replace HB := Aside0.mk (qP57); clear hb ho0))
            (try simp only [Act.put, List.setIfInBounds_toArray, List.set_cons_zero, List.set_cons_succ])
            go_cut [219] (fun v219 wc => ∃ (kq : Nat) (x219_96 : Bool), v219 = .bool x219_96 ∧ Aside0 (laws_FnPassages.j4 kq l0 t524 t525 t526 t529 t530 x219_96 = some r) ∧ Aside0 (kq ≤ kj62) ∧ Aside0 (Kd.R k60 60 wc w.heap.size (fun _ => True) (.slice Ao99 t524.length co99) t524) ∧ Aside0 (Kd.R (Kd.int .i64) 3 wc w.heap.size (fun _ => True) v531 t529) ∧ Aside0 (Below w.heap.size w wc))
            case first =>
             have H := HC97.out; clear HC97
             by_cases c102 : (t530 != t534) = true
             ·as_aux_lemma =>
              rw [if_pos c102] at H; have c102b0 : (t530 != t534) = true := c102
              (try (have c102b1 : decide (t530 = t534) = false := by simpa using c102))
              (try (have c102b2 : (t530 == t534) = false := by simpa using c102))
              (try (have c102b3 : ¬ (t530 = t534) := by simpa using c102)); clear c102
              (first | rw [c102b0] | (simp only [i64_w, i32_w]; rw [c102b0]) | skip)
              have H' := Aside0.mk H; clear H
              go_wp2
              go_meet
              case rel => exact ⟨_, (true), (qP14), H', ⟨by have := HJ6.out; have := HJ20.out; have := HJ51.out; have := HJ62.out; first | omega | exact Nat.le_refl _⟩, ⟨(qP1 HO528.out)⟩, ⟨(qP36 HO532.out)⟩, ⟨(qP0)⟩⟩
             ·as_aux_lemma =>
              rw [if_neg c102] at H
              have c102b0 : (t530 != t534) = false := by simpa using c102
              (try (have c102b1 : decide (t530 = t534) = true := by simpa using c102))
              (try (have c102b2 : (t530 == t534) = true := by simpa using c102)); clear c102
              (first | rw [c102b0] | (simp only [i64_w, i32_w]; rw [c102b0]) | skip)
              replace H := bindA H; obtain ⟨t537, A103, H⟩ := H; (try dsimp only at H); have H' := Aside0.mk H; clear H; obtain ⟨Ao104, co104, eo104⟩ := Kd.R_slice HO532.out; subst eo104; obtain ⟨Ao105, co105, eo105⟩ := Kd.R_slice HO536.out; subst eo105
              go_wp2_with (first | (go_at_call 17; (with_reducible refine (laws_vInts.calls kj62 _ _ t529 _ _ t533 t537 _ ?s1 ?s2 ?s3 ?s4 A103.out).mono ?_); (case s1 => exact (qP4 HO532.out)); (case s2 => exact (qP27 HO532.out)); (case s3 => exact (qP4 HO536.out)); (case s4 => exact (qP27 HO536.out)); rintro e w' ⟨rfl, ⟨nd, rfl⟩⟩))
              go_meet
              case rel => exact ⟨_, (!t537), (qP14), H', ⟨by have := HJ6.out; have := HJ20.out; have := HJ51.out; have := HJ62.out; first | omega | exact Nat.le_refl _⟩, ⟨(qP1 HO528.out)⟩, ⟨(qP36 HO532.out)⟩, ⟨(qP0)⟩⟩
            case rest =>
             clear HC97; (try clear c1); (try clear c2); (try clear p2); (try clear c3); (try clear q3); (try clear c4); (try clear q4); (try clear c5); (try clear c6); (try clear p6); (try clear c7); (try clear c10); (try clear c11); (try clear c12); (try clear c13); (try clear c13b0); (try clear c13b1); (try clear c14); (try clear c14b0); (try clear c14b1); (try clear c15); (try clear c15b0); (try clear c15b1); (try clear c15b2); (try clear c16); (try clear c20); (try clear c22); (try clear c24); (try clear c24b0); (try clear c24b1); (try clear c25); (try clear c25b0); (try clear c25b1); (try clear c27); (try clear c27b0); (try clear c28); (try clear c28b0); (try clear c30); (try clear c31); (try clear c32); (try clear c32b0); (try clear c32b1); (try clear q33); (try clear c35); (try clear q35); (try clear q37); (try clear c39); (try clear q39); (try clear q41); (try clear c43); (try clear q43); (try clear q45); (try clear c47); (try clear q47); (try clear c58); (try clear c58b0); (try clear c58b1); (try clear c58b2); (try clear c62); (try clear c64); (try clear p64); (try clear c67); (try clear c69); (try clear c70); (try clear c72); (try clear c102); (try clear c102b0); (try clear c102b1); (try clear c102b2); (try clear p2); (try clear p6); (try clear p64); (try clear q035); (try clear q039); (try clear q043); (try clear q047); (try clear q3); (try clear q33); (try clear q35); (try clear q37); (try clear q39); (try clear q4); (try clear q41); (try clear q43); (try clear q45)
             (try clear q47); obtain ⟨kq, x219_96, rfl, HA, HJ96, HO_28, HO_31, HB⟩ := hcut
             cases kq with
             | zero => exact absurd HA.out (by simp [laws_FnPassages.j4])
             | succ kj96 =>
              have H := HA.out; clear HA; simp only [laws_FnPassages.j4] at H
              by_cases c106 : x219_96 = true
              ·as_aux_lemma =>
               subst c106; rw [if_pos rfl] at H; obtain rfl := Option.some.inj H
               go_wp2
               go_ret
               exact ⟨(qP8), (qP0)⟩
              ·as_aux_lemma =>
               replace c106 := Bool.eq_false_iff.mpr c106; subst c106; rw [if_neg (show ¬ (false = true) by decide)] at H; have HC107 := Aside0.mk H; clear H
               go_upto_if 220 with (fail)
               go_cut [] (fun wc => ∃ (kq : Nat), Aside0 (laws_FnPassages.j5 kq l0 = some r) ∧ Aside0 (kq ≤ kj96) ∧ Aside0 (Below w.heap.size w wc))
               case first =>
                have H := HC107.out; clear HC107
                by_cases c108 : t530 = true
                ·as_aux_lemma =>
                 subst c108; rw [if_pos rfl] at H; replace H := bindA H; obtain ⟨⟨t538, t539⟩, A109, H⟩ := H; (try dsimp only at H)
                 by_cases c110 : t539 = true
                 ·as_aux_lemma =>
                  subst c110; rw [if_pos rfl] at H; replace H := bindA H; obtain ⟨t542, A111, H⟩ := H; (try dsimp only at H)
                  by_cases c112 : t542 = true
                  ·as_aux_lemma =>
                   subst c112; rw [if_pos rfl] at H; have H' := Aside0.mk H; clear H
                   go_wp2_with (first | ((with_reducible refine gate_callee (f := 15) rfl ?_); refine goesL_ (some 226) rfl rfl Try.func15 (by kernel_rfl) rfl #[.slice Ao99 t524.length co99, .int .i64 (wrap64 (t525 + 1)), .int .i64 t526] rfl (qP2) ?_; (with_reducible refine (impl_FittingStations.calls kj96 _ _ t524 (wrap64 (t525 + 1)) t526 t538 true _ ?s1 ?s2 A109.out).mono ?_); (case s1 => exact (qP4 HO_28.out)); (case s2 => exact (qP27 HO_28.out)); rintro e w113 ⟨v540, rfl, ho0, hb⟩; refine ⟨_, rfl, ?_⟩; replace HO_28 := Aside0.mk (qP59 HO_28.out); have HO541 := Aside0.mk (qP81); replace HO_31 := Aside0.mk (qP58 HO_31.out ho0); replace HB := Aside0.mk (qP57); clear hb ho0; obtain ⟨Ao114, co114, eo114⟩ := Kd.R_slice HO541.out; subst eo114; obtain ⟨Ao115, co115, eo115⟩ := Kd.R_slice HO_31.out; subst eo115) | (go_at_call 18; (with_reducible refine (laws_vWithin.calls kj96 _ _ t538 _ _ t529 true _ ?s1 ?s2 ?s3 ?s4 A111.out).mono ?_); (case s1 => exact (qP4 HO541.out)); (case s2 => exact (qP27 HO541.out)); (case s3 => exact (qP4 HO_31.out)); (case s4 => exact (qP27 HO_31.out)); rintro e w' ⟨rfl, ⟨nd, rfl⟩⟩))
                   go_meet
                   case rel => exact ⟨_, H', ⟨by have := HJ6.out; have := HJ20.out; have := HJ51.out; have := HJ62.out; have := HJ96.out; first | omega | exact Nat.le_refl _⟩, ⟨(qP0)⟩⟩
                  ·as_aux_lemma =>
                   replace c112 := Bool.eq_false_iff.mpr c112; subst c112; rw [if_neg (show ¬ (false = true) by decide)] at H; obtain rfl := Option.some.inj H
                   go_wp2_with (first | ((with_reducible refine gate_callee (f := 15) rfl ?_); refine goesL_ (some 226) rfl rfl Try.func15 (by kernel_rfl) rfl #[.slice Ao99 t524.length co99, .int .i64 (wrap64 (t525 + 1)), .int .i64 t526] rfl (qP2) ?_; (with_reducible refine (impl_FittingStations.calls kj96 _ _ t524 (wrap64 (t525 + 1)) t526 t538 true _ ?s1 ?s2 A109.out).mono ?_); (case s1 => exact (qP4 HO_28.out)); (case s2 => exact (qP27 HO_28.out)); rintro e w116 ⟨v540, rfl, ho0, hb⟩; refine ⟨_, rfl, ?_⟩; replace HO_28 := Aside0.mk (qP59 HO_28.out); have HO541 := Aside0.mk (qP81); replace HO_31 := Aside0.mk (qP58 HO_31.out ho0); replace HB := Aside0.mk (qP57); clear hb ho0; obtain ⟨Ao117, co117, eo117⟩ := Kd.R_slice HO541.out; subst eo117; obtain ⟨Ao118, co118, eo118⟩ := Kd.R_slice HO_31.out; subst eo118) | (go_at_call 18; (with_reducible refine (laws_vWithin.calls kj96 _ _ t538 _ _ t529 false _ ?s1 ?s2 ?s3 ?s4 A111.out).mono ?_); (case s1 => exact (qP4 HO541.out)); (case s2 => exact (qP27 HO541.out)); (case s3 => exact (qP4 HO_31.out)); (case s4 => exact (qP27 HO_31.out)); rintro e w' ⟨rfl, ⟨nd, rfl⟩⟩))
                   go_ret
                   exact ⟨(qP8), (qP0)⟩
                 ·as_aux_lemma =>
                  replace c110 := Bool.eq_false_iff.mpr c110; subst c110; rw [if_neg (show ¬ (false = true) by decide)] at H; obtain rfl := Option.some.inj H
                  go_wp2_with (first | ((with_reducible refine gate_callee (f := 15) rfl ?_); refine goesL_ (some 226) rfl rfl Try.func15 (by kernel_rfl) rfl #[.slice Ao99 t524.length co99, .int .i64 (wrap64 (t525 + 1)), .int .i64 t526] rfl (qP2) ?_; (with_reducible refine (impl_FittingStations.calls kj96 _ _ t524 (wrap64 (t525 + 1)) t526 t538 false _ ?s1 ?s2 A109.out).mono ?_); (case s1 => exact (qP4 HO_28.out)); (case s2 => exact (qP27 HO_28.out)); rintro e w119 ⟨v540, rfl, ho0, hb⟩; refine ⟨_, rfl, ?_⟩; replace HO_28 := Aside0.mk (qP59 HO_28.out); have HO541 := Aside0.mk (qP81); replace HO_31 := Aside0.mk (qP58 HO_31.out ho0); replace HB := Aside0.mk (qP57); clear hb ho0))
                  go_ret
                  exact ⟨(qP8), (qP0)⟩
                ·as_aux_lemma =>
                 replace c108 := Bool.eq_false_iff.mpr c108; subst c108; rw [if_neg (show ¬ (false = true) by decide)] at H; have H' := Aside0.mk H; clear H
                 go_wp2
                 go_meet
                 case rel => exact ⟨_, H', ⟨by have := HJ6.out; have := HJ20.out; have := HJ51.out; have := HJ62.out; have := HJ96.out; first | omega | exact Nat.le_refl _⟩, ⟨(qP0)⟩⟩
               case rest =>
                clear HC107; (try clear c1); (try clear c2); (try clear p2); (try clear c3); (try clear q3); (try clear c4); (try clear q4); (try clear c5); (try clear c6); (try clear p6); (try clear c7); (try clear c10); (try clear c11); (try clear c12); (try clear c13); (try clear c13b0); (try clear c13b1); (try clear c14); (try clear c14b0); (try clear c14b1); (try clear c15); (try clear c15b0); (try clear c15b1); (try clear c15b2); (try clear c16); (try clear c20); (try clear c22); (try clear c24); (try clear c24b0); (try clear c24b1); (try clear c25); (try clear c25b0); (try clear c25b1); (try clear c27); (try clear c27b0); (try clear c28); (try clear c28b0); (try clear c30); (try clear c31); (try clear c32); (try clear c32b0); (try clear c32b1); (try clear q33); (try clear c35); (try clear q35); (try clear q37); (try clear c39); (try clear q39); (try clear q41); (try clear c43); (try clear q43); (try clear q45); (try clear c47); (try clear q47); (try clear c58); (try clear c58b0); (try clear c58b1); (try clear c58b2); (try clear c62); (try clear c64); (try clear p64); (try clear c67); (try clear c69); (try clear c70); (try clear c72); (try clear c102); (try clear c102b0); (try clear c102b1); (try clear c102b2); (try clear c106); (try clear c108); (try clear c110); (try clear c112); (try clear p2); (try clear p6); (try clear p64); (try clear q035); (try clear q039); (try clear q043); (try clear q047); (try clear q3); (try clear q33); (try clear q35); (try clear q37); (try clear q39)
                (try clear q4); (try clear q41); (try clear q43); (try clear q45); (try clear q47); obtain ⟨kq, HA, HJ106, HB⟩ := hcut
                cases kq with
                | zero => exact absurd HA.out (by simp [laws_FnPassages.j5])
                | succ kj106 =>
                 have H := HA.out; clear HA; simp only [laws_FnPassages.j5] at H; replace H := bindA H; obtain ⟨t543, A120, H⟩ := H; (try dsimp only at H); replace H := bindA H; obtain ⟨⟨t546, t547, t548⟩, A121, H⟩ := H; (try dsimp only at H); replace H := bindA H; obtain ⟨⟨t549, t550, t551⟩, A122, H⟩ := H; (try dsimp only at H); have HC123 := Aside0.mk H; clear H
                 go_upto_region 36 with (first | ((with_reducible refine gate_callee (f := 19) rfl ?_); refine goesL_ (some 238) rfl rfl Try.func19 (by kernel_rfl) rfl #[.slice A0 l0.length c0] rfl (qP2) ?_; (with_reducible refine (spec_DrawMeanArea.calls kj106 _ _ l0 t543 _ ?s1 ?s2 A120.out).mono ?_); (case s1 => exact (qP13 HR0.out)); (case s2 => exact HC0.out); rintro e w124 ⟨v544, rfl, ho0, hb⟩; refine ⟨_, rfl, ?_⟩; have HO545 := Aside0.mk (qP71 ho0); replace HB := Aside0.mk (qP57); clear hb ho0; obtain ⟨Ao125, co125, eo125⟩ := Kd.R_slice HO545.out; subst eo125) | ((with_reducible refine gate_callee (f := 20) rfl ?_); refine goesL_ (some 241) rfl rfl Try.func20 (by kernel_rfl) rfl #[.slice Ao125 t543.length co125] rfl (qP2) ?_; (with_reducible refine (impl_MeanArea.calls kj106 _ _ t543 t546 t547 t548 _ ?s1 ?s2 A121.out).mono ?_); (case s1 => exact (qP4 HO545.out)); (case s2 => exact (qP27 HO545.out)); rintro e w126 ⟨rfl, hb⟩; refine ⟨_, rfl, ?_⟩; replace HO545 := Aside0.mk (qP59 HO545.out); replace HB := Aside0.mk (qP57); clear hb) | ((with_reducible refine gate_callee (f := 21) rfl ?_); refine goesL_ (some 247) rfl rfl Try.func21 (by kernel_rfl) rfl #[.slice Ao125 t543.length co125] rfl (qP2) ?_; (with_reducible refine (spec_MeanArea.calls kj106 _ _ t543 t549 t550 t551 _ ?s1 ?s2 A122.out).mono ?_); (case s1 => exact (qP4 HO545.out)); (case s2 => exact (qP27 HO545.out)); rintro e w127 ⟨rfl, hb⟩; refine ⟨_, rfl, ?_⟩; replace HO545 := Aside0.mk (qP59 HO545.out); replace HB := Aside0.mk (qP57); clear hb))
                 (try simp only [Act.put, List.setIfInBounds_toArray, List.set_cons_zero, List.set_cons_succ])
                 go_cut [263] (fun v263 wc => ∃ (kq : Nat) (x263_122 : Bool), v263 = .bool x263_122 ∧ Aside0 (laws_FnPassages.j6 kq t543 t546 t547 t548 x263_122 = some r) ∧ Aside0 (kq ≤ kj106) ∧ Aside0 (Kd.R k60 60 wc w.heap.size (fun _ => True) (.slice Ao125 t543.length co125) t543) ∧ Aside0 (Below w.heap.size w wc))
                 case first =>
                  have H := HC123.out; clear HC123
                  by_cases c128 : t546 = t549
                  ·as_aux_lemma =>
                   rw [if_pos c128] at H; have c128b0 : (t546 == t549) = true := beq_iff_eq.mpr c128; have c128b1 : (t546 != t549) = false := bne_eq_false_iff_eq.mpr c128; clear c128
                   (first | rw [c128b0] | (simp only [i64_w, i32_w]; rw [c128b0]) | skip)
                   by_cases c129 : t547 = t550
                   ·as_aux_lemma =>
                    rw [if_pos c129] at H; have c129b0 : (t547 == t550) = true := beq_iff_eq.mpr c129; have c129b1 : (t547 != t550) = false := bne_eq_false_iff_eq.mpr c129; clear c129; have H' := Aside0.mk H; clear H
                    go_wp2
                    go_meet
                    case rel => exact ⟨_, ((t548 != t551)), (qP14), H', ⟨by have := HJ6.out; have := HJ20.out; have := HJ51.out; have := HJ62.out; have := HJ96.out; have := HJ106.out; first | omega | exact Nat.le_refl _⟩, ⟨(qP1 HO545.out)⟩, ⟨(qP0)⟩⟩
                   ·as_aux_lemma =>
                    rw [if_neg c129] at H; have c129b0 : (t547 == t550) = false := beq_eq_false_iff_ne.mpr c129; have c129b1 : (t547 != t550) = true := bne_iff_ne.mpr c129; have H' := Aside0.mk H; clear H
                    go_wp2
                    go_meet
                    case rel => exact ⟨_, (true), (qP14), H', ⟨by have := HJ6.out; have := HJ20.out; have := HJ51.out; have := HJ62.out; have := HJ96.out; have := HJ106.out; first | omega | exact Nat.le_refl _⟩, ⟨(qP1 HO545.out)⟩, ⟨(qP0)⟩⟩
                  ·as_aux_lemma =>
                   rw [if_neg c128] at H; have c128b0 : (t546 == t549) = false := beq_eq_false_iff_ne.mpr c128; have c128b1 : (t546 != t549) = true := bne_iff_ne.mpr c128
                   (first | rw [c128b0] | (simp only [i64_w, i32_w]; rw [c128b0]) | skip)
                   have H' := Aside0.mk H; clear H
                   go_wp2
                   go_meet
                   case rel => exact ⟨_, (true), (qP14), H', ⟨by have := HJ6.out; have := HJ20.out; have := HJ51.out; have := HJ62.out; have := HJ96.out; have := HJ106.out; first | omega | exact Nat.le_refl _⟩, ⟨(qP1 HO545.out)⟩, ⟨(qP0)⟩⟩
                 case rest =>
                  clear HC123; (try clear c1); (try clear c2); (try clear p2); (try clear c3); (try clear q3); (try clear c4); (try clear q4); (try clear c5); (try clear c6); (try clear p6); (try clear c7); (try clear c10); (try clear c11); (try clear c12); (try clear c13); (try clear c13b0); (try clear c13b1); (try clear c14); (try clear c14b0); (try clear c14b1); (try clear c15); (try clear c15b0); (try clear c15b1); (try clear c15b2); (try clear c16); (try clear c19); (try clear c20); (try clear c21); (try clear c22); (try clear c24); (try clear c24b0); (try clear c24b1); (try clear c25); (try clear c25b0); (try clear c25b1); (try clear c27); (try clear c27b0); (try clear c28); (try clear c28b0); (try clear c30); (try clear c31); (try clear c32); (try clear c32b0); (try clear c32b1); (try clear q33); (try clear c35); (try clear q35); (try clear q37); (try clear c39); (try clear q39); (try clear q41); (try clear c43); (try clear q43); (try clear q45); (try clear c47); (try clear q47); (try clear c58); (try clear c58b0); (try clear c58b1); (try clear c58b2); (try clear c62); (try clear c64); (try clear p64); (try clear c67); (try clear c69); (try clear c70); (try clear c72); (try clear c102); (try clear c102b0); (try clear c102b1); (try clear c102b2); (try clear c106); (try clear c108); (try clear c110); (try clear c112); (try clear c128); (try clear c128b0); (try clear c128b1); (try clear c129); (try clear c129b0); (try clear c129b1); (try clear p2); (try clear p6); (try clear p64)
                  (try clear q035); (try clear q039); (try clear q043); (try clear q047); (try clear q3); (try clear q33); (try clear q35); (try clear q37); (try clear q39); (try clear q4); (try clear q41); (try clear q43); (try clear q45); (try clear q47); obtain ⟨kq, x263_122, rfl, HA, HJ122, HO_37, HB⟩ := hcut
                  cases kq with
                  | zero => exact absurd HA.out (by simp [laws_FnPassages.j6])
                  | succ kj122 =>
                   have H := HA.out; clear HA; simp only [laws_FnPassages.j6] at H
                   by_cases c130 : x263_122 = true
                   ·as_aux_lemma =>
                    subst c130; rw [if_pos rfl] at H; obtain rfl := Option.some.inj H
                    go_wp2
                    go_ret
                    exact ⟨(qP8), (qP0)⟩
                   ·as_aux_lemma =>
                    replace c130 := Bool.eq_false_iff.mpr c130; subst c130; rw [if_neg (show ¬ (false = true) by decide)] at H
                    by_cases c131 : t548 = true
                    ·as_aux_lemma =>
                     subst c131; rw [if_pos rfl] at H; replace H := bindA H; obtain ⟨⟨t552, t553⟩, A132, H⟩ := H; (try dsimp only at H); replace H := bindA H; obtain ⟨⟨t554, t555⟩, A133, H⟩ := H; (try dsimp only at H)
                     by_cases c134 : t553 = true
                     ·as_aux_lemma =>
                      subst c134; rw [if_pos rfl] at H
                      by_cases c135 : t555 = true
                      ·as_aux_lemma =>
                       subst c135; rw [if_pos rfl] at H; obtain rfl := Option.some.inj H
                       go_wp2_with (first | ((with_reducible refine gate_callee (f := 22) rfl ?_); refine goesL_ (some 267) rfl rfl Try.func22 (by kernel_rfl) rfl #[.slice Ao125 t543.length co125] rfl (qP2) ?_; (with_reducible refine (impl_WidestPassage.calls kj122 _ _ t543 t552 true _ ?s1 ?s2 A132.out).mono ?_); (case s1 => exact (qP4 HO_37.out)); (case s2 => exact (qP27 HO_37.out)); rintro e w136 ⟨rfl, hb⟩; refine ⟨_, rfl, ?_⟩; replace HO_37 := Aside0.mk (qP59 HO_37.out); replace HB := Aside0.mk (qP57); clear hb) | ((with_reducible refine gate_callee (f := 23) rfl ?_); refine goesL_ (some 273) rfl rfl Try.func23 (by kernel_rfl) rfl #[.slice Ao125 t543.length co125, .int .i64 t552] rfl (qP2) ?_; (with_reducible refine (impl_AreaAt.calls kj122 _ _ t543 t552 t554 true _ ?s1 ?s2 A133.out).mono ?_); (case s1 => exact (qP4 HO_37.out)); (case s2 => exact (qP27 HO_37.out)); rintro e w137 ⟨rfl, hb⟩; refine ⟨_, rfl, ?_⟩; replace HO_37 := Aside0.mk (qP59 HO_37.out); replace HB := Aside0.mk (qP57); clear hb))
                       go_ret
                       exact ⟨(qP8), (qP0)⟩
                      ·as_aux_lemma =>
                       replace c135 := Bool.eq_false_iff.mpr c135; subst c135; rw [if_neg (show ¬ (false = true) by decide)] at H; obtain rfl := Option.some.inj H
                       go_wp2_with (first | ((with_reducible refine gate_callee (f := 22) rfl ?_); refine goesL_ (some 267) rfl rfl Try.func22 (by kernel_rfl) rfl #[.slice Ao125 t543.length co125] rfl (qP2) ?_; (with_reducible refine (impl_WidestPassage.calls kj122 _ _ t543 t552 true _ ?s1 ?s2 A132.out).mono ?_); (case s1 => exact (qP4 HO_37.out)); (case s2 => exact (qP27 HO_37.out)); rintro e w138 ⟨rfl, hb⟩; refine ⟨_, rfl, ?_⟩; replace HO_37 := Aside0.mk (qP59 HO_37.out); replace HB := Aside0.mk (qP57); clear hb) | ((with_reducible refine gate_callee (f := 23) rfl ?_); refine goesL_ (some 273) rfl rfl Try.func23 (by kernel_rfl) rfl #[.slice Ao125 t543.length co125, .int .i64 t552] rfl (qP2) ?_; (with_reducible refine (impl_AreaAt.calls kj122 _ _ t543 t552 t554 false _ ?s1 ?s2 A133.out).mono ?_); (case s1 => exact (qP4 HO_37.out)); (case s2 => exact (qP27 HO_37.out)); rintro e w139 ⟨rfl, hb⟩; refine ⟨_, rfl, ?_⟩; replace HO_37 := Aside0.mk (qP59 HO_37.out); replace HB := Aside0.mk (qP57); clear hb))
                       go_ret
                       exact ⟨(qP8), (qP0)⟩
                     ·as_aux_lemma =>
                      replace c134 := Bool.eq_false_iff.mpr c134; subst c134; rw [if_neg (show ¬ (false = true) by decide)] at H; obtain rfl := Option.some.inj H
                      go_wp2_with (first | ((with_reducible refine gate_callee (f := 22) rfl ?_); refine goesL_ (some 267) rfl rfl Try.func22 (by kernel_rfl) rfl #[.slice Ao125 t543.length co125] rfl (qP2) ?_; (with_reducible refine (impl_WidestPassage.calls kj122 _ _ t543 t552 false _ ?s1 ?s2 A132.out).mono ?_); (case s1 => exact (qP4 HO_37.out)); (case s2 => exact (qP27 HO_37.out)); rintro e w140 ⟨rfl, hb⟩; refine ⟨_, rfl, ?_⟩; replace HO_37 := Aside0.mk (qP59 HO_37.out); replace HB := Aside0.mk (qP57); clear hb) | ((with_reducible refine gate_callee (f := 23) rfl ?_); refine goesL_ (some 273) rfl rfl Try.func23 (by kernel_rfl) rfl #[.slice Ao125 t543.length co125, .int .i64 t552] rfl (qP2) ?_; (with_reducible refine (impl_AreaAt.calls kj122 _ _ t543 t552 t554 t555 _ ?s1 ?s2 A133.out).mono ?_); (case s1 => exact (qP4 HO_37.out)); (case s2 => exact (qP27 HO_37.out)); rintro e w141 ⟨rfl, hb⟩; refine ⟨_, rfl, ?_⟩; replace HO_37 := Aside0.mk (qP59 HO_37.out); replace HB := Aside0.mk (qP57); clear hb))
                      go_ret
                      exact ⟨(qP8), (qP0)⟩
                    ·as_aux_lemma =>
                     replace c131 := Bool.eq_false_iff.mpr c131; subst c131; rw [if_neg (show ¬ (false = true) by decide)] at H; obtain rfl := Option.some.inj H
                     go_wp2
                     go_ret
                     exact ⟨(qP8), (qP0)⟩

end Go.Proofs.Ytffdglecmjbolaa.MP
