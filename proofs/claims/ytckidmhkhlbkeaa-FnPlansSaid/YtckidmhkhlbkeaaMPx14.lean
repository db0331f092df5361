-- tight2 (a walk)
import Derived.Test.YtckidmhkhlbkeaaMPx0
import Derived.Test.YtckidmhkhlbkeaaMPx3
import Derived.Test.YtckidmhkhlbkeaaMPx5
import Derived.Test.YtckidmhkhlbkeaaMPx6
import Derived.Test.YtckidmhkhlbkeaaMPx8
namespace Go.Proofs.Ytckidmhkhlbkeaa.MP
open Go.RowKit Go.Proofs.YtckidmhkhlbkeaaW.PrintWords Go.Proofs.YtckidmhkhlbkeaaW.PrintLast
attribute [local go_sem] max2_int min2_int max_two min_two
set_option linter.unusedVariables false
set_option linter.unusedSimpArgs false

mutual
def laws_FnPlans.j0 : Nat → List Int → List (S44) → Int → ByteArray → Bool → Bool → Option (Bool)
 | 0, _, _, _, _, _, _ => none
 | k + 1, x0, x3, x4, x5, x6, x71 => if x71 = true then (some false) else ((impl_PlanSize.f k x3 x4).bind fun bt364 => ((spec_PlanSize.f k x3 x4).bind fun bt367 => (if bt364.1 = bt367.1 then (if bt364.2.1 = bt367.2.1 then (if (bt364.2.2 != bt367.2.2) = true then (laws_FnPlans.j1 k x0 x3 x4 x5 x6 bt364.1 bt364.2.1 true) else (laws_FnPlans.j1 k x0 x3 x4 x5 x6 bt364.1 bt364.2.1 (bt364.2.2 != x6))) else (laws_FnPlans.j1 k x0 x3 x4 x5 x6 bt364.1 bt364.2.1 true)) else (laws_FnPlans.j1 k x0 x3 x4 x5 x6 bt364.1 bt364.2.1 true))))
def laws_FnPlans.j1 : Nat → List Int → List (S44) → Int → ByteArray → Bool → Int → Int → Bool → Option (Bool)
 | 0, _, _, _, _, _, _, _, _ => none
 | k + 1, x0, x3, x4, x5, x6, x9, x10, x103 => if x103 = true then (some false) else ((impl_HiddenMarks.f k x3 x4).bind fun bt370 => ((spec_HiddenMarks.f k x3 x4).bind fun bt374 => (if (bt370.2 != bt374.2) = true then (laws_FnPlans.j2 k x0 x3 x4 x5 x6 x9 x10 bt370.1 true) else ((laws_rTexts.f k bt370.1 bt374.1).bind fun t378 => (laws_FnPlans.j2 k x0 x3 x4 x5 x6 x9 x10 bt370.1 (!t378))))))
def laws_FnPlans.j2 : Nat → List Int → List (S44) → Int → ByteArray → Bool → Int → Int → List ByteArray → Bool → Option (Bool)
 | 0, _, _, _, _, _, _, _, _, _ => none
 | k + 1, x0, x3, x4, x5, x6, x9, x10, x15, x124 => if x124 = true then (some false) else (if x6 = true then (laws_FnPlans.j3 k x0 x3 x4 x5 x6 x9 x15 ((x5.size : Int) != (wrap64 ((wrap64 (x9 + 1)) * x10)))) else (laws_FnPlans.j3 k x0 x3 x4 x5 x6 x9 x15 false))
def laws_FnPlans.j3 : Nat → List Int → List (S44) → Int → ByteArray → Bool → Int → List ByteArray → Bool → Option (Bool)
 | 0, _, _, _, _, _, _, _, _ => none
 | k + 1, x0, x3, x4, x5, x6, x9, x15, x134 => if x134 = true then (some false) else (laws_FnPlans.l0 k x0 x3 x4 x5 x6 x9 x15 0)
def laws_FnPlans.l0 : Nat → List Int → List (S44) → Int → ByteArray → Bool → Int → List ByteArray → Int → Option (Bool)
 | 0, _, _, _, _, _, _, _, _ => none
 | k + 1, x0, x3, x4, x5, x6, x9, x15, x19 => if x19 < (x3.length : Int) then (laws_FnPlans.j5 k x0 x3 x4 x5 x6 x9 x15 x19 x6) else (laws_FnPlans.j5 k x0 x3 x4 x5 x6 x9 x15 x19 false)
def laws_FnPlans.j5 : Nat → List Int → List (S44) → Int → ByteArray → Bool → Int → List ByteArray → Int → Bool → Option (Bool)
 | 0, _, _, _, _, _, _, _, _, _ => none
 | k + 1, x0, x3, x4, x5, x6, x9, x15, x19, x141 => if x141 = true then (if 0 ≤ x19 then (if x19 < (x3.length : Int) then ((impl_SquareOf.f k x3 x4 ((rd_T44 x3 x19).f0)).bind fun bt380 => (if bt380.2.2 = true then ((laws_rHasText.f k x15 ((rd_T44 x3 x19).f0)).bind fun t384 => (if 0 ≤ (wrap64 ((wrap64 (bt380.2.1 * (wrap64 (x9 + 1)))) + bt380.1)) then (if (wrap64 ((wrap64 (bt380.2.1 * (wrap64 (x9 + 1)))) + bt380.1)) < (x5.size : Int) then (if 0 < (((rd_T44 x3 x19).f0).size : Int) then (if (t384 == ((bt x5 (wrap64 ((wrap64 (bt380.2.1 * (wrap64 (x9 + 1)))) + bt380.1))) == (bt ((rd_T44 x3 x19).f0) 0))) = true then (some false) else (laws_FnPlans.l0 k x0 x3 x4 x5 x6 x9 x15 (wrap64 (x19 + 1)))) else (none)) else (none)) else (none))) else (some false))) else (none)) else (none)) else ((spec_DrawSmallestScale.f k x0).bind fun bt386 => ((impl_SmallestScale.f k bt386.1 bt386.2.1 bt386.2.2).bind fun bt391 => ((spec_SmallestScale.f k bt386.1 bt386.2.1 bt386.2.2).bind fun bt393 => (if bt391.1 = bt393.1 then (laws_FnPlans.j6 k x0 bt386.1 bt386.2.1 bt386.2.2 bt391.1 bt391.2 (bt391.2 != bt393.2)) else (laws_FnPlans.j6 k x0 bt386.1 bt386.2.1 bt386.2.2 bt391.1 bt391.2 true)))))
def laws_FnPlans.j6 : Nat → List Int → List (S44) → Int → Int → Int → Bool → Bool → Option (Bool)
 | 0, _, _, _, _, _, _, _ => none
 | k + 1, x0, x23, x24, x25, x26, x27, x210 => if x210 = true then (some false) else (if x27 = true then ((impl_PlanSize.f k x23 x26).bind fun bt395 => (if bt395.2.2 = true then (if bt395.1 > x24 then (laws_FnPlans.j7 k x0 x23 x24 x25 x26 true) else (laws_FnPlans.j7 k x0 x23 x24 x25 x26 (decide (bt395.2.1 > x25)))) else (laws_FnPlans.j7 k x0 x23 x24 x25 x26 true))) else ((spec_DrawSquareOf.f k x0).bind fun bt412 => ((impl_SquareOf.f k bt412.1 bt412.2.1 bt412.2.2).bind fun bt417 => ((spec_SquareOf.f k bt412.1 bt412.2.1 bt412.2.2).bind fun bt420 => (if bt417.1 = bt420.1 then (if bt417.2.1 = bt420.2.1 then (some (bt417.2.2 == bt420.2.2)) else (some false)) else (some false))))))
def laws_FnPlans.j7 : Nat → List Int → List (S44) → Int → Int → Int → Bool → Option (Bool)
 | 0, _, _, _, _, _, _ => none
 | k + 1, x0, x23, x24, x25, x26, x230 => if x230 = true then (some false) else ((impl_PlanSize.f k x23 (wrap64 (x26 - 1))).bind fun bt398 => (if bt398.2.2 = true then (if bt398.1 ≤ x24 then (laws_FnPlans.j8 k x0 (decide (bt398.2.1 ≤ x25))) else (laws_FnPlans.j8 k x0 false)) else (laws_FnPlans.j8 k x0 false)))
def laws_FnPlans.j8 : Nat → List Int → Bool → Option (Bool)
 | 0, _, _ => none
 | k + 1, x0, x249 => if x249 = true then (some false) else ((spec_DrawSquareOf.f k x0).bind fun bt401 => ((impl_SquareOf.f k bt401.1 bt401.2.1 bt401.2.2).bind fun bt406 => ((spec_SquareOf.f k bt401.1 bt401.2.1 bt401.2.2).bind fun bt409 => (if bt406.1 = bt409.1 then (if bt406.2.1 = bt409.2.1 then (some (bt406.2.2 == bt409.2.2)) else (some false)) else (some false)))))
end
def laws_FnPlans.f (k : Nat) (l0 : List Int) : Option (Bool) := (laws_rBig.f l0).bind fun t355 => (if t355 = true then (some true) else ((spec_DrawPlanText.f k l0).bind fun bt356 => ((impl_PlanText.f k bt356.1 bt356.2).bind fun bt360 => ((spec_PlanText.f k bt356.1 bt356.2).bind fun bt362 => (if bt360.1.toList = bt362.1.toList then (laws_FnPlans.j0 k l0 bt356.1 bt356.2 bt360.1 bt360.2 (bt360.2 != bt362.2)) else (laws_FnPlans.j0 k l0 bt356.1 bt356.2 bt360.1 bt360.2 true))))))
set_option maxHeartbeats 8000000 in
set_option maxRecDepth 100000 in
theorem laws_FnPlans.calls (k : Nat) (A0 : Option Addr) (c0 : Nat) (l0 : List Int) (r : Bool) (w : World) (hr0 : Kd.C (Kd.int .u8) w A0 l0.length l0) (hc0 : l0.length ≤ c0) (h : laws_FnPlans.f k l0 = some r) (ht : r = true := by rfl) :
  Calls Try.prog 5 #[.slice A0 l0.length c0] w fun e w' => e = .returned (.bool r) ∧ Below w.heap.size w w' := by
 have HT := za ht; clear ht; have HR0 := za hr0; have HC0 := za hc0; clear hr0 hc0; have HB := za (zp w.heap.size w); have H : ((laws_rBig.f l0).bind fun t355 => (if t355 = true then (some true) else ((spec_DrawPlanText.f k l0).bind fun bt356 => ((impl_PlanText.f k bt356.1 bt356.2).bind fun bt360 => ((spec_PlanText.f k bt356.1 bt356.2).bind fun bt362 => (if bt360.1.toList = bt362.1.toList then (laws_FnPlans.j0 k l0 bt356.1 bt356.2 bt360.1 bt360.2 (bt360.2 != bt362.2)) else (laws_FnPlans.j0 k l0 bt356.1 bt356.2 bt360.1 bt360.2 true))))))) = some r := h; clear h; replace H := bindA H; obtain ⟨t355, A2, H⟩ := H; (try dsimp only at H)
 by_cases c3 : t355 = true
 ·as_aux_lemma =>
  subst c3; rw [zU rfl] at H; obtain rfl := zk H
  go_enter Try.func5, Try.ntmps5
  go_wp2_with (first | (go_at_call 19; (with_reducible refine (laws_rBig.calls _ _ l0 true _ ?s1 ?s2 A2.1).mono ?_); (case s1 => exact (qP20)); (case s2 => exact HC0.1); rintro e w' ⟨rfl, ⟨nd, rfl⟩⟩; (try first | exact ⟨rfl, _, zL _ _ _⟩ | exact ⟨rfl, _, Eq.trans (zL _ _ _) (congrArg (World.drewN _) (Nat.add_assoc _ _ _))⟩)))
  repeat (go_quiet (first | (go_at_call 19; (with_reducible refine (laws_rBig.calls _ _ l0 true _ ?s1 ?s2 A2.1).mono ?_); (case s1 => exact (qP20)); (case s2 => exact HC0.1); rintro e w' ⟨rfl, ⟨nd, rfl⟩⟩; (try first | exact ⟨rfl, _, zL _ _ _⟩ | exact ⟨rfl, _, Eq.trans (zL _ _ _) (congrArg (World.drewN _) (Nat.add_assoc _ _ _))⟩))); try go_wp2_with (first | (go_at_call 19; (with_reducible refine (laws_rBig.calls _ _ l0 true _ ?s1 ?s2 A2.1).mono ?_); (case s1 => exact (qP20)); (case s2 => exact HC0.1); rintro e w' ⟨rfl, ⟨nd, rfl⟩⟩; (try first | exact ⟨rfl, _, zL _ _ _⟩ | exact ⟨rfl, _, Eq.trans (zL _ _ _) (congrArg (World.drewN _) (Nat.add_assoc _ _ _))⟩))))
  go_ret
  exact ⟨(qP19), (qP1)⟩
 ·as_aux_lemma =>
  replace c3 := zl c3; subst c3; rw [zV (show ¬ (false = true) by decide)] at H; replace H := bindA H; obtain ⟨⟨t356, t357⟩, A4, H⟩ := H; (try dsimp only at H); replace H := bindA H; obtain ⟨⟨t360, t361⟩, A5, H⟩ := H; (try dsimp only at H); replace H := bindA H; obtain ⟨⟨t362, t363⟩, A6, H⟩ := H; (try dsimp only at H); have HC7 := za H; clear H
  go_enter Try.func5, Try.ntmps5
  go_upto_region 6 with (first | (go_at_call 19; (with_reducible refine (laws_rBig.calls _ _ l0 false _ ?s1 ?s2 A2.1).mono ?_); (case s1 => exact (qP20)); (case s2 => exact HC0.1); rintro e w' ⟨rfl, ⟨nd, rfl⟩⟩; (try first | exact ⟨rfl, _, zL _ _ _⟩ | exact ⟨rfl, _, Eq.trans (zL _ _ _) (congrArg (World.drewN _) (Nat.add_assoc _ _ _))⟩)) | (go_at_call 20; (with_reducible refine (spec_DrawPlanText.calls k _ _ l0 t356 t357 _ ?s1 ?s2 A4.1).mono ?_); (case s1 => exact (qP20)); (case s2 => exact HC0.1); rintro e w8 ⟨v358, rfl, ho0, hb⟩; have HO359 := za (qP75 ho0); replace HB := za qP64; clear hb ho0; obtain ⟨Ao9, co9, eo9⟩ := zC HO359.1; subst eo9) | (go_at_call 11; (with_reducible refine (impl_PlanText.calls k _ _ t356 t357 t360 t361 _ ?s1 ?s2 A5.1).mono ?_); (case s1 => exact (qP6 HO359.1)); (case s2 => exact (qP32 HO359.1)); rintro e w10 ⟨rfl, hb⟩; replace HO359 := za (qP63 HO359.1); replace HB := za qP64; clear hb) | (go_at_call 9; (with_reducible refine (spec_PlanText.calls k _ _ t356 t357 t362 t363 _ ?s1 ?s2 A6.1).mono ?_); (case s1 => exact (qP6 HO359.1)); (case s2 => exact (qP32 HO359.1)); rintro e w11 ⟨rfl, hb⟩; replace HO359 := za (qP63 HO359.1); replace HB := za qP64; clear hb))
  repeat (go_quiet (first | (go_at_call 19; (with_reducible refine (laws_rBig.calls _ _ l0 false _ ?s1 ?s2 A2.1).mono ?_); (case s1 => exact (qP20)); (case s2 => exact HC0.1); rintro e w' ⟨rfl, ⟨nd, rfl⟩⟩; (try first | exact ⟨rfl, _, zL _ _ _⟩ | exact ⟨rfl, _, Eq.trans (zL _ _ _) (congrArg (World.drewN _) (Nat.add_assoc _ _ _))⟩)) | (go_at_call 20; (with_reducible refine (spec_DrawPlanText.calls k _ _ l0 t356 t357 _ ?s1 ?s2 A4.1).mono ?_); (case s1 => exact (qP20)); (case s2 => exact HC0.1); rintro e w8 ⟨v358, rfl, ho0, hb⟩; have HO359 := za (qP75 ho0); replace HB := za qP64; clear hb ho0; obtain ⟨Ao9, co9, eo9⟩ := zC HO359.1; subst eo9) | (go_at_call 11; (with_reducible refine (impl_PlanText.calls k _ _ t356 t357 t360 t361 _ ?s1 ?s2 A5.1).mono ?_); (case s1 => exact (qP6 HO359.1)); (case s2 => exact (qP32 HO359.1)); rintro e w10 ⟨rfl, hb⟩; replace HO359 := za (qP63 HO359.1); replace HB := za qP64; clear hb) | (go_at_call 9; (with_reducible refine (spec_PlanText.calls k _ _ t356 t357 t362 t363 _ ?s1 ?s2 A6.1).mono ?_); (case s1 => exact (qP6 HO359.1)); (case s2 => exact (qP32 HO359.1)); rintro e w11 ⟨rfl, hb⟩; replace HO359 := za (qP63 HO359.1); replace HB := za qP64; clear hb)); go_upto_region 6 with (first | (go_at_call 19; (with_reducible refine (laws_rBig.calls _ _ l0 false _ ?s1 ?s2 A2.1).mono ?_); (case s1 => exact (qP20)); (case s2 => exact HC0.1); rintro e w' ⟨rfl, ⟨nd, rfl⟩⟩; (try first | exact ⟨rfl, _, zL _ _ _⟩ | exact ⟨rfl, _, Eq.trans (zL _ _ _) (congrArg (World.drewN _) (Nat.add_assoc _ _ _))⟩)) | (go_at_call 20; (with_reducible refine (spec_DrawPlanText.calls k _ _ l0 t356 t357 _ ?s1 ?s2 A4.1).mono ?_); (case s1 => exact (qP20)); (case s2 => exact HC0.1); rintro e w8 ⟨v358, rfl, ho0, hb⟩; have HO359 := za (qP75 ho0); replace HB := za qP64; clear hb ho0; obtain ⟨Ao9, co9, eo9⟩ := zC HO359.1; subst eo9) | (go_at_call 11; (with_reducible refine (impl_PlanText.calls k _ _ t356 t357 t360 t361 _ ?s1 ?s2 A5.1).mono ?_); (case s1 => exact (qP6 HO359.1)); (case s2 => exact (qP32 HO359.1)); rintro e w10 ⟨rfl, hb⟩; replace HO359 := za (qP63 HO359.1); replace HB := za qP64; clear hb) | (go_at_call 9; (with_reducible refine (spec_PlanText.calls k _ _ t356 t357 t362 t363 _ ?s1 ?s2 A6.1).mono ?_); (case s1 => exact (qP6 HO359.1)); (case s2 => exact (qP32 HO359.1)); rintro e w11 ⟨rfl, hb⟩; replace HO359 := za (qP63 HO359.1); replace HB := za qP64; clear hb)))
  (try simp only [Act.put, zY, zZ, ya])
  go_cut [71] (fun v71 wc => ∃ (kq : Nat) (x71_6 : Bool), v71 = .bool x71_6 ∧ Aside0 (laws_FnPlans.j0 kq l0 t356 t357 t360 t361 x71_6 = some r) ∧ Aside0 (kq ≤ k) ∧ Aside0 (Kd.R k44 44 wc w.heap.size (fun _ => True) (.slice Ao9 t356.length co9) t356) ∧ Aside0 (Below w.heap.size w wc))
  case first =>
   have H := HC7.1; clear HC7
   by_cases c12 : t360.toList = t362.toList
   ·as_aux_lemma =>
    rw [zU c12] at H; have c12b0 : (t360.toList == t362.toList) = true := zM c12; have c12b1 : (t360.toList != t362.toList) = false := zv c12; clear c12
    (first | rw [c12b0] | (simp only [i64_w, i32_w]; rw [c12b0]) | skip)
    have H' := za H; clear H
    go_wp2
    repeat (go_quiet (fail); try go_wp2)
    go_meet
    case rel => exact ⟨_, ((t361 != t363)), (qP17), H', ⟨by first | omega | exact zm _⟩, ⟨(qP0 HO359.1)⟩, ⟨(qP1)⟩⟩
   ·as_aux_lemma =>
    rw [zV c12] at H; have c12b0 : (t360.toList == t362.toList) = false := zu c12; have c12b1 : (t360.toList != t362.toList) = true := zN c12
    (first | rw [c12b0] | (simp only [i64_w, i32_w]; rw [c12b0]) | skip)
    have H' := za H; clear H
    go_wp2
    repeat (go_quiet (fail); try go_wp2)
    go_meet
    case rel => exact ⟨_, (true), (qP17), H', ⟨by first | omega | exact zm _⟩, ⟨(qP0 HO359.1)⟩, ⟨(qP1)⟩⟩
  case rest =>
   clear HC7; (try clear c3); obtain ⟨kq, x71_6, rfl, HA, HJ6, HO_3, HB⟩ := hcut
   cases kq with
   | zero => exact zJ HA.1 (by simp [laws_FnPlans.j0])
   | succ kj6 =>
    have H := HA.1; clear HA; simp only [laws_FnPlans.j0] at H
    by_cases c13 : x71_6 = true
    ·as_aux_lemma =>
     subst c13; rw [zU rfl] at H
     exact zJ (HT.1.symm.trans (zk H).symm) (by decide)
    ·as_aux_lemma =>
     replace c13 := zl c13; subst c13; rw [zV (show ¬ (false = true) by decide)] at H; replace H := bindA H; obtain ⟨⟨t364, t365, t366⟩, A14, H⟩ := H; (try dsimp only at H); replace H := bindA H; obtain ⟨⟨t367, t368, t369⟩, A15, H⟩ := H; (try dsimp only at H); have HC16 := za H; clear H
     go_upto_region 10 with (first | (go_at_call 21; (with_reducible refine (impl_PlanSize.calls kj6 _ _ t356 t357 t364 t365 t366 _ ?s1 ?s2 A14.1).mono ?_); (case s1 => exact (qP6 HO_3.1)); (case s2 => exact (qP32 HO_3.1)); rintro e w17 ⟨rfl, hb⟩; replace HO_3 := za (qP63 HO_3.1); replace HB := za qP64; clear hb) | (go_at_call 22; (with_reducible refine (spec_PlanSize.calls kj6 _ _ t356 t357 t367 t368 t369 _ ?s1 ?s2 A15.1).mono ?_); (case s1 => exact (qP6 HO_3.1)); (case s2 => exact (qP32 HO_3.1)); rintro e w18 ⟨rfl, hb⟩; replace HO_3 := za (qP63 HO_3.1); replace HB := za qP64; clear hb))
     repeat (go_quiet (first | (go_at_call 21; (with_reducible refine (impl_PlanSize.calls kj6 _ _ t356 t357 t364 t365 t366 _ ?s1 ?s2 A14.1).mono ?_); (case s1 => exact (qP6 HO_3.1)); (case s2 => exact (qP32 HO_3.1)); rintro e w17 ⟨rfl, hb⟩; replace HO_3 := za (qP63 HO_3.1); replace HB := za qP64; clear hb) | (go_at_call 22; (with_reducible refine (spec_PlanSize.calls kj6 _ _ t356 t357 t367 t368 t369 _ ?s1 ?s2 A15.1).mono ?_); (case s1 => exact (qP6 HO_3.1)); (case s2 => exact (qP32 HO_3.1)); rintro e w18 ⟨rfl, hb⟩; replace HO_3 := za (qP63 HO_3.1); replace HB := za qP64; clear hb)); go_upto_region 10 with (first | (go_at_call 21; (with_reducible refine (impl_PlanSize.calls kj6 _ _ t356 t357 t364 t365 t366 _ ?s1 ?s2 A14.1).mono ?_); (case s1 => exact (qP6 HO_3.1)); (case s2 => exact (qP32 HO_3.1)); rintro e w17 ⟨rfl, hb⟩; replace HO_3 := za (qP63 HO_3.1); replace HB := za qP64; clear hb) | (go_at_call 22; (with_reducible refine (spec_PlanSize.calls kj6 _ _ t356 t357 t367 t368 t369 _ ?s1 ?s2 A15.1).mono ?_); (case s1 => exact (qP6 HO_3.1)); (case s2 => exact (qP32 HO_3.1)); rintro e w18 ⟨rfl, hb⟩; replace HO_3 := za (qP63 HO_3.1); replace HB := za qP64; clear hb)))
     (try simp only [Act.put, zY, zZ, ya])
     go_cut [103] (fun v103 wc => ∃ (kq : Nat) (x103_15 : Bool), v103 = .bool x103_15 ∧ Aside0 (laws_FnPlans.j1 kq l0 t356 t357 t360 t361 t364 t365 x103_15 = some r) ∧ Aside0 (kq ≤ kj6) ∧ Aside0 (Kd.R k44 44 wc w.heap.size (fun _ => True) (.slice Ao9 t356.length co9) t356) ∧ Aside0 (Below w.heap.size w wc))
     case first =>
      have H := HC16.1; clear HC16
      by_cases c19 : t364 = t367
      ·as_aux_lemma =>
       rw [zU c19] at H; have c19b0 : (t364 == t367) = true := zM c19; have c19b1 : (t364 != t367) = false := zv c19; clear c19
       (first | rw [c19b0] | (simp only [i64_w, i32_w]; rw [c19b0]) | skip)
       by_cases c20 : t365 = t368
       ·as_aux_lemma =>
        rw [zU c20] at H; have c20b0 : (t365 == t368) = true := zM c20; have c20b1 : (t365 != t368) = false := zv c20; clear c20
        by_cases c21 : (t366 != t369) = true
        ·as_aux_lemma =>
         rw [zU c21] at H; have c21b0 : (t366 != t369) = true := c21
         (try (have c21b1 : decide (t366 = t369) = false := by simpa using c21))
         (try (have c21b2 : (t366 == t369) = false := by simpa using c21))
         (try (have c21b3 : ¬ (t366 = t369) := by simpa using c21)); clear c21; have H' := za H; clear H
         go_wp2
         repeat (go_quiet (fail); try go_wp2)
         go_meet
         case rel => exact ⟨_, (true), (qP17), H', ⟨by have := HJ6.1; first | omega | exact zm _⟩, ⟨(qP0 HO_3.1)⟩, ⟨(qP1)⟩⟩
        ·as_aux_lemma =>
         rw [zV c21] at H
         have c21b0 : (t366 != t369) = false := by simpa using c21
         (try (have c21b1 : decide (t366 = t369) = true := by simpa using c21))
         (try (have c21b2 : (t366 == t369) = true := by simpa using c21)); clear c21; have H' := za H; clear H
         go_wp2
         repeat (go_quiet (fail); try go_wp2)
         go_meet
         case rel => exact ⟨_, ((t366 != t361)), (qP17), H', ⟨by have := HJ6.1; first | omega | exact zm _⟩, ⟨(qP0 HO_3.1)⟩, ⟨(qP1)⟩⟩
       ·as_aux_lemma =>
        rw [zV c20] at H; have c20b0 : (t365 == t368) = false := zu c20; have c20b1 : (t365 != t368) = true := zN c20; have H' := za H; clear H
        go_wp2
        repeat (go_quiet (fail); try go_wp2)
        go_meet
        case rel => exact ⟨_, (true), (qP17), H', ⟨by have := HJ6.1; first | omega | exact zm _⟩, ⟨(qP0 HO_3.1)⟩, ⟨(qP1)⟩⟩
      ·as_aux_lemma =>
       rw [zV c19] at H; have c19b0 : (t364 == t367) = false := zu c19; have c19b1 : (t364 != t367) = true := zN c19
       (first | rw [c19b0] | (simp only [i64_w, i32_w]; rw [c19b0]) | skip)
       have H' := za H; clear H
       go_wp2
       repeat (go_quiet (fail); try go_wp2)
       go_meet
       case rel => exact ⟨_, (true), (qP17), H', ⟨by have := HJ6.1; first | omega | exact zm _⟩, ⟨(qP0 HO_3.1)⟩, ⟨(qP1)⟩⟩
     case rest =>
      clear HC16; (try clear c13); obtain ⟨kq, x103_15, rfl, HA, HJ15, HO_3, HB⟩ := hcut
      cases kq with
      | zero => exact zJ HA.1 (by simp [laws_FnPlans.j1])
      | succ kj15 =>
       have H := HA.1; clear HA; simp only [laws_FnPlans.j1] at H
       by_cases c22 : x103_15 = true
       ·as_aux_lemma =>
        subst c22; rw [zU rfl] at H
        exact zJ (HT.1.symm.trans (zk H).symm) (by decide)
       ·as_aux_lemma =>
        replace c22 := zl c22; subst c22; rw [zV (show ¬ (false = true) by decide)] at H; replace H := bindA H; obtain ⟨⟨t370, t371⟩, A23, H⟩ := H; (try dsimp only at H); replace H := bindA H; obtain ⟨⟨t374, t375⟩, A24, H⟩ := H; (try dsimp only at H); have HC25 := za H; clear H
        go_upto_region 14 with (first | (go_at_call 14; (with_reducible refine (impl_HiddenMarks.calls kj15 _ _ t356 t357 t370 t371 _ ?s1 ?s2 A23.1).mono ?_); (case s1 => exact (qP6 HO_3.1)); (case s2 => exact (qP32 HO_3.1)); rintro e w26 ⟨v372, rfl, ho0, hb⟩; replace HO_3 := za (qP63 HO_3.1); have HO373 := za (qP75 ho0); replace HB := za qP64; clear hb ho0) | (go_at_call 13; (with_reducible refine (spec_HiddenMarks.calls kj15 _ _ t356 t357 t374 t375 _ ?s1 ?s2 A24.1).mono ?_); (case s1 => exact (qP6 HO_3.1)); (case s2 => exact (qP32 HO_3.1)); rintro e w27 ⟨v376, rfl, ho0, hb⟩; replace HO_3 := za (qP63 HO_3.1); have HO377 := za (qP76 ho0 HO373.1); replace HO373 := za (qP73 HO373.1 ho0); replace HB := za qP64; clear hb ho0))
        repeat (go_quiet (first | (go_at_call 14; (with_reducible refine (impl_HiddenMarks.calls kj15 _ _ t356 t357 t370 t371 _ ?s1 ?s2 A23.1).mono ?_); (case s1 => exact (qP6 HO_3.1)); (case s2 => exact (qP32 HO_3.1)); rintro e w26 ⟨v372, rfl, ho0, hb⟩; replace HO_3 := za (qP63 HO_3.1); have HO373 := za (qP75 ho0); replace HB := za qP64; clear hb ho0) | (go_at_call 13; (with_reducible refine (spec_HiddenMarks.calls kj15 _ _ t356 t357 t374 t375 _ ?s1 ?s2 A24.1).mono ?_); (case s1 => exact (qP6 HO_3.1)); (case s2 => exact (qP32 HO_3.1)); rintro e w27 ⟨v376, rfl, ho0, hb⟩; replace HO_3 := za (qP63 HO_3.1); have HO377 := za (qP76 ho0 HO373.1); replace HO373 := za (qP73 HO373.1 ho0); replace HB := za qP64; clear hb ho0)); go_upto_region 14 with (first | (go_at_call 14; (with_reducible refine (impl_HiddenMarks.calls kj15 _ _ t356 t357 t370 t371 _ ?s1 ?s2 A23.1).mono ?_); (case s1 => exact (qP6 HO_3.1)); (case s2 => exact (qP32 HO_3.1)); rintro e w26 ⟨v372, rfl, ho0, hb⟩; replace HO_3 := za (qP63 HO_3.1); have HO373 := za (qP75 ho0); replace HB := za qP64; clear hb ho0) | (go_at_call 13; (with_reducible refine (spec_HiddenMarks.calls kj15 _ _ t356 t357 t374 t375 _ ?s1 ?s2 A24.1).mono ?_); (case s1 => exact (qP6 HO_3.1)); (case s2 => exact (qP32 HO_3.1)); rintro e w27 ⟨v376, rfl, ho0, hb⟩; replace HO_3 := za (qP63 HO_3.1); have HO377 := za (qP76 ho0 HO373.1); replace HO373 := za (qP73 HO373.1 ho0); replace HB := za qP64; clear hb ho0)))
        (try simp only [Act.put, zY, zZ, ya])
        go_cut [124] (fun v124 wc => ∃ (kq : Nat) (x124_24 : Bool), v124 = .bool x124_24 ∧ Aside0 (laws_FnPlans.j2 kq l0 t356 t357 t360 t361 t364 t365 t370 x124_24 = some r) ∧ Aside0 (kq ≤ kj15) ∧ Aside0 (Kd.R k44 44 wc w.heap.size (fun _ => True) (.slice Ao9 t356.length co9) t356) ∧ Aside0 (Kd.R Kd.string 9 wc w.heap.size (fun _ => True) v372 t370) ∧ Aside0 (Below w.heap.size w wc))
        case first =>
         have H := HC25.1; clear HC25
         by_cases c28 : (t371 != t375) = true
         ·as_aux_lemma =>
          rw [zU c28] at H; have c28b0 : (t371 != t375) = true := c28
          (try (have c28b1 : decide (t371 = t375) = false := by simpa using c28))
          (try (have c28b2 : (t371 == t375) = false := by simpa using c28))
          (try (have c28b3 : ¬ (t371 = t375) := by simpa using c28)); clear c28
          (first | rw [c28b0] | (simp only [i64_w, i32_w]; rw [c28b0]) | skip)
          have H' := za H; clear H
          go_wp2
          repeat (go_quiet (fail); try go_wp2)
          go_meet
          case rel => exact ⟨_, (true), (qP17), H', ⟨by have := HJ6.1; have := HJ15.1; first | omega | exact zm _⟩, ⟨(qP0 HO_3.1)⟩, ⟨(qP36 HO373.1)⟩, ⟨(qP1)⟩⟩
         ·as_aux_lemma =>
          rw [zV c28] at H
          have c28b0 : (t371 != t375) = false := by simpa using c28
          (try (have c28b1 : decide (t371 = t375) = true := by simpa using c28))
          (try (have c28b2 : (t371 == t375) = true := by simpa using c28)); clear c28
          (first | rw [c28b0] | (simp only [i64_w, i32_w]; rw [c28b0]) | skip)
          replace H := bindA H; obtain ⟨t378, A29, H⟩ := H; (try dsimp only at H); have H' := za H; clear H; obtain ⟨Ao30, co30, eo30⟩ := zC HO373.1; subst eo30; obtain ⟨Ao31, co31, eo31⟩ := zC HO377.1; subst eo31
          go_wp2_with (first | (go_at_call 23; (with_reducible refine (laws_rTexts.calls kj15 _ _ t370 _ _ t374 t378 _ ?s1 ?s2 ?s3 ?s4 A29.1).mono ?_); (case s1 => exact (qP6 HO373.1)); (case s2 => exact (qP32 HO373.1)); (case s3 => exact (qP6 HO377.1)); (case s4 => exact (qP32 HO377.1)); rintro e w' ⟨rfl, ⟨nd, rfl⟩⟩; (try first | exact ⟨rfl, _, zL _ _ _⟩ | exact ⟨rfl, _, Eq.trans (zL _ _ _) (congrArg (World.drewN _) (Nat.add_assoc _ _ _))⟩)))
          repeat (go_quiet (first | (go_at_call 23; (with_reducible refine (laws_rTexts.calls kj15 _ _ t370 _ _ t374 t378 _ ?s1 ?s2 ?s3 ?s4 A29.1).mono ?_); (case s1 => exact (qP6 HO373.1)); (case s2 => exact (qP32 HO373.1)); (case s3 => exact (qP6 HO377.1)); (case s4 => exact (qP32 HO377.1)); rintro e w' ⟨rfl, ⟨nd, rfl⟩⟩; (try first | exact ⟨rfl, _, zL _ _ _⟩ | exact ⟨rfl, _, Eq.trans (zL _ _ _) (congrArg (World.drewN _) (Nat.add_assoc _ _ _))⟩))); try go_wp2_with (first | (go_at_call 23; (with_reducible refine (laws_rTexts.calls kj15 _ _ t370 _ _ t374 t378 _ ?s1 ?s2 ?s3 ?s4 A29.1).mono ?_); (case s1 => exact (qP6 HO373.1)); (case s2 => exact (qP32 HO373.1)); (case s3 => exact (qP6 HO377.1)); (case s4 => exact (qP32 HO377.1)); rintro e w' ⟨rfl, ⟨nd, rfl⟩⟩; (try first | exact ⟨rfl, _, zL _ _ _⟩ | exact ⟨rfl, _, Eq.trans (zL _ _ _) (congrArg (World.drewN _) (Nat.add_assoc _ _ _))⟩))))
          go_meet
          case rel => exact ⟨_, (!t378), (qP17), H', ⟨by have := HJ6.1; have := HJ15.1; first | omega | exact zm _⟩, ⟨(qP0 HO_3.1)⟩, ⟨(qP36 HO373.1)⟩, ⟨(qP1)⟩⟩
        case rest =>
         clear HC25; (try clear c22); obtain ⟨kq, x124_24, rfl, HA, HJ24, HO_3, HO_15, HB⟩ := hcut
         cases kq with
         | zero => exact zJ HA.1 (by simp [laws_FnPlans.j2])
         | succ kj24 =>
          have H := HA.1; clear HA; simp only [laws_FnPlans.j2] at H
          by_cases c32 : x124_24 = true
          ·as_aux_lemma =>
           subst c32; rw [zU rfl] at H
           exact zJ (HT.1.symm.trans (zk H).symm) (by decide)
          ·as_aux_lemma =>
           replace c32 := zl c32; subst c32; rw [zV (show ¬ (false = true) by decide)] at H; have HC33 := za H; clear H
           go_upto_region 16 with (fail)
           repeat (go_quiet (fail); go_upto_region 16 with (fail))
           go_cut [134] (fun v134 wc => ∃ (kq : Nat) (x134_32 : Bool), v134 = .bool x134_32 ∧ Aside0 (laws_FnPlans.j3 kq l0 t356 t357 t360 t361 t364 t370 x134_32 = some r) ∧ Aside0 (kq ≤ kj24) ∧ Aside0 (Kd.R k44 44 wc w.heap.size (fun _ => True) (.slice Ao9 t356.length co9) t356) ∧ Aside0 (Kd.R Kd.string 9 wc w.heap.size (fun _ => True) v372 t370) ∧ Aside0 (Below w.heap.size w wc))
           case first =>
            have H := HC33.1; clear HC33
            by_cases c34 : t361 = true
            ·as_aux_lemma =>
             subst c34; rw [zU rfl] at H; have H' := za H; clear H
             go_wp2
             repeat (go_quiet (fail); try go_wp2)
             go_meet
             case rel => exact ⟨_, (((t360.size : Int) != (wrap64 ((wrap64 (t364 + 1)) * t365)))), (qP17), H', ⟨by have := HJ6.1; have := HJ15.1; have := HJ24.1; first | omega | exact zm _⟩, ⟨(qP0 HO_3.1)⟩, ⟨(qP0 HO_15.1)⟩, ⟨(qP1)⟩⟩
            ·as_aux_lemma =>
             replace c34 := zl c34; subst c34; rw [zV (show ¬ (false = true) by decide)] at H; have H' := za H; clear H
             go_wp2
             repeat (go_quiet (fail); try go_wp2)
             go_meet
             case rel => exact ⟨_, (false), (qP17), H', ⟨by have := HJ6.1; have := HJ15.1; have := HJ24.1; first | omega | exact zm _⟩, ⟨(qP0 HO_3.1)⟩, ⟨(qP0 HO_15.1)⟩, ⟨(qP1)⟩⟩
           case rest =>
            clear HC33; (try clear c32); obtain ⟨kq, x134_32, rfl, HA, HJ32, HO_3, HO_15, HB⟩ := hcut
            cases kq with
            | zero => exact zJ HA.1 (by simp [laws_FnPlans.j3])
            | succ kj32 =>
             have H := HA.1; clear HA; simp only [laws_FnPlans.j3] at H
             by_cases c35 : x134_32 = true
             ·as_aux_lemma =>
              subst c35; rw [zU rfl] at H
              exact zJ (HT.1.symm.trans (zk H).symm) (by decide)
             ·as_aux_lemma =>
              replace c35 := zl c35; subst c35; rw [zV (show ¬ (false = true) by decide)] at H; have H' := za H; clear H
              go_wp2
              repeat (go_quiet (fail); try go_wp2)
              go_loopg [19] kj32 (fun kq v19 w' => ∃ (x19_5 : Int), v19 = .int .i64 x19_5 ∧ Aside0 (laws_FnPlans.l0 kq l0 t356 t357 t360 t361 t364 t370 x19_5 = some r) ∧ Aside0 (kq ≤ kj32) ∧ Aside0 (Kd.R k44 44 w' w.heap.size (fun _ => True) (.slice Ao9 t356.length co9) t356) ∧ Aside0 (Kd.R Kd.string 9 w' w.heap.size (fun _ => True) v372 t370) ∧ Aside0 (Below w.heap.size w w'))
              case atStart => exact ⟨(0), (qP17), H', ⟨zm _⟩, ⟨(qP0 HO_3.1)⟩, ⟨(qP0 HO_15.1)⟩, ⟨(qP1)⟩⟩
              case round =>
               clear H'; (try clear c35); obtain ⟨x19_5, rfl, HA, HK5, HO_3, HO_15, HB⟩ := hrel
               cases gk with
               | zero => exact zJ HA.1 (by simp [laws_FnPlans.l0])
               | succ k5 =>
                have H := HA.1; clear HA; simp only [laws_FnPlans.l0] at H; have HC36 := za H; clear H
                go_upto_region 19 with (fail)
                repeat (go_quiet (fail); go_upto_region 19 with (fail))
                go_cut [141] (fun v141 wc => ∃ (kq : Nat) (x141_35 : Bool), v141 = .bool x141_35 ∧ Aside0 (laws_FnPlans.j5 kq l0 t356 t357 t360 t361 t364 t370 x19_5 x141_35 = some r) ∧ Aside0 (kq ≤ k5) ∧ Aside0 (Kd.R k44 44 wc w.heap.size (fun _ => True) (.slice Ao9 t356.length co9) t356) ∧ Aside0 (Kd.R Kd.string 9 wc w.heap.size (fun _ => True) v372 t370) ∧ Aside0 (Below w.heap.size w wc))
                case first =>
                 have H := HC36.1; clear HC36
                 by_cases c37 : x19_5 < (t356.length : Int)
                 ·as_aux_lemma =>
                  rw [zU c37] at H; have c37b0 : decide (x19_5 < (t356.length : Int)) = true := zc c37; clear c37
                  (first | rw [c37b0] | (simp only [i64_w, i32_w]; rw [c37b0]) | skip)
                  have H' := za H; clear H
                  go_wp2
                  repeat (go_quiet (fail); try go_wp2)
                  go_meet
                  case rel => exact ⟨_, (t361), (qP17), H', ⟨by have := HJ6.1; have := HJ15.1; have := HJ24.1; have := HJ32.1; have := HK5.1; first | omega | exact zm _⟩, ⟨(qP0 HO_3.1)⟩, ⟨(qP0 HO_15.1)⟩, ⟨(qP1)⟩⟩
                 ·as_aux_lemma =>
                  rw [zV c37] at H; have c37b0 : decide (x19_5 < (t356.length : Int)) = false := zs c37; clear c37
                  (first | rw [c37b0] | (simp only [i64_w, i32_w]; rw [c37b0]) | skip)
                  have H' := za H; clear H
                  go_wp2
                  repeat (go_quiet (fail); try go_wp2)
                  go_meet
                  case rel => exact ⟨_, (false), (qP17), H', ⟨by have := HJ6.1; have := HJ15.1; have := HJ24.1; have := HJ32.1; have := HK5.1; first | omega | exact zm _⟩, ⟨(qP0 HO_3.1)⟩, ⟨(qP0 HO_15.1)⟩, ⟨(qP1)⟩⟩
                case rest =>
                 clear HC36; obtain ⟨kq, x141_35, rfl, HA, HJ35, HO_3, HO_15, HB⟩ := hcut
                 cases kq with
                 | zero => exact zJ HA.1 (by simp [laws_FnPlans.j5])
                 | succ kj35 =>
                  have H := HA.1; clear HA; simp only [laws_FnPlans.j5] at H
                  by_cases c38 : x141_35 = true
                  ·as_aux_lemma =>
                   subst c38; rw [zU rfl] at H
                   by_cases c39 : 0 ≤ x19_5
                   ·as_aux_lemma =>
                    rw [zU c39] at H; have c39b0 : decide (0 ≤ x19_5) = true := zc c39; clear c39
                    by_cases c40 : x19_5 < (t356.length : Int)
                    ·as_aux_lemma =>
                     rw [zU c40] at H; have c40b0 : decide (x19_5 < (t356.length : Int)) = true := zc c40; clear c40; replace H := bindA H; obtain ⟨⟨t380, t381, t382⟩, A41, H⟩ := H; (try dsimp only at H)
                     by_cases c42 : t382 = true
                     ·as_aux_lemma =>
                      subst c42; rw [zU rfl] at H; replace H := bindA H; obtain ⟨t384, A43, H⟩ := H; (try dsimp only at H); obtain ⟨ji44, hji44⟩ : ∃ j_ : Int, (wrap64 ((wrap64 (t381 * (wrap64 (t364 + 1)))) + t380)) = j_ := ⟨_, rfl⟩
                      replace H : (if 0 ≤ (ji44) then (if (ji44) < (t360.size : Int) then (if 0 < (((rd_T44 t356 x19_5).f0).size : Int) then (if (t384 == ((bt t360 (ji44)) == (bt ((rd_T44 t356 x19_5).f0) 0))) = true then (some false) else (laws_FnPlans.l0 kj35 l0 t356 t357 t360 t361 t364 t370 (wrap64 (x19_5 + 1)))) else (none)) else (none)) else (none)) = some r := by first | (rw [hji44] at H; exact H) | (simp only [hji44] at H ⊢; exact H)
                      (try rw [hji44] at A41)
                      (try rw [hji44] at A43); have hji44w : (IntKind.i64.wrap ((wrap64 (t381 * (wrap64 (t364 + 1)))) + t380)) = ji44 := (i64_w _).trans hji44
                      by_cases c45 : 0 ≤ (ji44)
                      ·as_aux_lemma =>
                       rw [zU c45] at H; have c45b0 : decide (0 ≤ (ji44)) = true := zc c45; clear c45
                       by_cases c46 : (ji44) < (t360.size : Int)
                       ·as_aux_lemma =>
                        rw [zU c46] at H; have c46b0 : decide ((ji44) < (t360.size : Int)) = true := zc c46; clear c46
                        by_cases c48 : 0 < (((rd_T44 t356 x19_5).f0).size : Int)
                        ·as_aux_lemma =>
                         rw [zU c48] at H; have c48b0 : decide (0 < (((rd_T44 t356 x19_5).f0).size : Int)) = true := zc c48; have c48b1 : decide (0 < ((rd_T44 t356 x19_5).f0).size) = true := zc (by omega); clear c48
                         by_cases c50 : (t384 == ((bt t360 (ji44)) == (bt ((rd_T44 t356 x19_5).f0) 0))) = true
                         ·as_aux_lemma =>
                          rw [zU c50] at H; have c50b0 : (t384 == ((bt t360 (ji44)) == (bt ((rd_T44 t356 x19_5).f0) 0))) = true := c50
                          (try (have c50b1 : decide (t384 = ((bt t360 (ji44)) == (bt ((rd_T44 t356 x19_5).f0) 0))) = true := by simpa using c50))
                          (try (have c50b2 : (t384 == ((bt t360 (ji44)) == (bt ((rd_T44 t356 x19_5).f0) 0))) = true := by simpa using c50)); clear c50
                          exact zJ (HT.1.symm.trans (zk H).symm) (by decide)
                         ·as_aux_lemma =>
                          rw [zV c50] at H
                          have c50b0 : (t384 == ((bt t360 (ji44)) == (bt ((rd_T44 t356 x19_5).f0) 0))) = false := by simpa using c50
                          (try (have c50b1 : decide (t384 = ((bt t360 (ji44)) == (bt ((rd_T44 t356 x19_5).f0) 0))) = false := by simpa using c50))
                          (try (have c50b2 : (t384 == ((bt t360 (ji44)) == (bt ((rd_T44 t356 x19_5).f0) 0))) = false := by simpa using c50))
                          (try (have c50b3 : ¬ (t384 = ((bt t360 (ji44)) == (bt ((rd_T44 t356 x19_5).f0) 0))) := by simpa using c50)); clear c50; have H' := za H; clear H; have p379 : 0 ≤ (x19_5 : Int) := zb (qP9); have q379 : x19_5 < (t356.length : Int) := zb (qP9); obtain ⟨ad379, e379, hx379_0, hx379_1, hx379_2⟩ := at_T44 (zB HO_3.1).2.2 x19_5 p379 q379; cases e379; replace p379 := zt p379; replace q379 := zt q379
                          go_wp2_with (first | (go_at_call 24; (with_reducible refine (impl_SquareOf.calls kj35 _ _ t356 t357 ((rd_T44 t356 x19_5).f0) t380 t381 true _ ?s1 ?s2 A41.1).mono ?_); (case s1 => exact (qP6 HO_3.1)); (case s2 => exact (qP32 HO_3.1)); rintro e w53 ⟨rfl, hb⟩; replace HO_3 := za (qP63 HO_3.1); replace HO_15 := za (qP63 HO_15.1); replace HB := za qP64; clear hb; have p383 : 0 ≤ (x19_5 : Int) := zb (qP9); have q383 : x19_5 < (t356.length : Int) := zb (qP9); obtain ⟨ad383, e383, hx383_0, hx383_1, hx383_2⟩ := at_T44 (zB HO_3.1).2.2 x19_5 p383 q383; obtain rfl : ad379 = ad383 := (by injection e383); replace p383 := zt p383; replace q383 := zt q383; obtain ⟨Ao54, co54, eo54⟩ := zC HO_15.1; subst eo54) | (go_at_call 25; (with_reducible refine (laws_rHasText.calls kj35 _ _ t370 ((rd_T44 t356 x19_5).f0) t384 _ ?s1 ?s2 A43.1).mono ?_); (case s1 => exact (qP6 HO_15.1)); (case s2 => exact (qP32 HO_15.1)); rintro e w' ⟨rfl, ⟨nd, rfl⟩⟩; (try first | exact ⟨rfl, _, zL _ _ _⟩ | exact ⟨rfl, _, Eq.trans (zL _ _ _) (congrArg (World.drewN _) (Nat.add_assoc _ _ _))⟩); have p47 : 0 ≤ ((ji44) : Int) := zb (qP9); have q47 : (ji44) < (t360.size : Int) := zb (qP9); have hx47 := bt_at t360 (ji44); replace p47 := zt p47; replace q47 := zt q47; have p385 : 0 ≤ (x19_5 : Int) := zb (qP9); have q385 : x19_5 < (t356.length : Int) := zb (qP9); obtain ⟨ad385, e385, hx385_0, hx385_1, hx385_2⟩ := at_T44 (zB HO_3.1).2.2 x19_5 p385 q385; obtain rfl : ad379 = ad385 := (by injection e385); replace p385 := zt p385; replace q385 := zt q385; have p49 : 0 ≤ (0 : Int) := (by omega); have q49 : 0 < ((rd_T44 t356 x19_5).f0).size := (by have : (0 : Int) < (((rd_T44 t356 x19_5).f0).size : Int) := zb (qP9); omega); have hx49 : ∀ h : 0 < ((rd_T44 t356 x19_5).f0).size, ((((rd_T44 t356 x19_5).f0)[0]'h).toNat : Int) = bt ((rd_T44 t356 x19_5).f0) 0 := bt_at ((rd_T44 t356 x19_5).f0) 0; clear p49; have qi49 : (0 < (((rd_T44 t356 x19_5).f0).size : Int)) = True := zt (zb (qP9)); replace q49 := zt q49))
                          have p47 : 0 ≤ ((ji44) : Int) := zb (qP9); have q47 : (ji44) < (t360.size : Int) := zb (qP9); have hx47 := bt_at t360 (ji44); replace p47 := zt p47; replace q47 := zt q47; have p385 : 0 ≤ (x19_5 : Int) := zb (qP9); have q385 : x19_5 < (t356.length : Int) := zb (qP9); obtain ⟨ad385, e385, hx385_0, hx385_1, hx385_2⟩ := at_T44 (zB HO_3.1).2.2 x19_5 p385 q385; obtain rfl : ad379 = ad385 := (by injection e385); replace p385 := zt p385; replace q385 := zt q385; have p49 : 0 ≤ (0 : Int) := (by omega); have q49 : 0 < ((rd_T44 t356 x19_5).f0).size := (by have : (0 : Int) < (((rd_T44 t356 x19_5).f0).size : Int) := zb (qP9); omega); have hx49 : ∀ h : 0 < ((rd_T44 t356 x19_5).f0).size, ((((rd_T44 t356 x19_5).f0)[0]'h).toNat : Int) = bt ((rd_T44 t356 x19_5).f0) 0 := bt_at ((rd_T44 t356 x19_5).f0) 0; clear p49; have qi49 : (0 < (((rd_T44 t356 x19_5).f0).size : Int)) = True := zt (zb (qP9)); replace q49 := zt q49; have hji44v := hji44; simp only [← i64_w] at hji44v
                          repeat (go_quiet (first | (go_at_call 24; (with_reducible refine (impl_SquareOf.calls kj35 _ _ t356 t357 ((rd_T44 t356 x19_5).f0) t380 t381 true _ ?s1 ?s2 A41.1).mono ?_); (case s1 => exact (qP6 HO_3.1)); (case s2 => exact (qP32 HO_3.1)); rintro e w53 ⟨rfl, hb⟩; replace HO_3 := za (qP63 HO_3.1); replace HO_15 := za (qP63 HO_15.1); replace HB := za qP64; clear hb; have p383 : 0 ≤ (x19_5 : Int) := zb (qP9); have q383 : x19_5 < (t356.length : Int) := zb (qP9); obtain ⟨ad383, e383, hx383_0, hx383_1, hx383_2⟩ := at_T44 (zB HO_3.1).2.2 x19_5 p383 q383; obtain rfl : ad379 = ad383 := (by injection e383); replace p383 := zt p383; replace q383 := zt q383; obtain ⟨Ao54, co54, eo54⟩ := zC HO_15.1; subst eo54) | (go_at_call 25; (with_reducible refine (laws_rHasText.calls kj35 _ _ t370 ((rd_T44 t356 x19_5).f0) t384 _ ?s1 ?s2 A43.1).mono ?_); (case s1 => exact (qP6 HO_15.1)); (case s2 => exact (qP32 HO_15.1)); rintro e w' ⟨rfl, ⟨nd, rfl⟩⟩; (try first | exact ⟨rfl, _, zL _ _ _⟩ | exact ⟨rfl, _, Eq.trans (zL _ _ _) (congrArg (World.drewN _) (Nat.add_assoc _ _ _))⟩); have p47 : 0 ≤ ((ji44) : Int) := zb (qP9); have q47 : (ji44) < (t360.size : Int) := zb (qP9); have hx47 := bt_at t360 (ji44); replace p47 := zt p47; replace q47 := zt q47; have p385 : 0 ≤ (x19_5 : Int) := zb (qP9); have q385 : x19_5 < (t356.length : Int) := zb (qP9); obtain ⟨ad385, e385, hx385_0, hx385_1, hx385_2⟩ := at_T44 (zB HO_3.1).2.2 x19_5 p385 q385; obtain rfl : ad379 = ad385 := (by injection e385); replace p385 := zt p385; replace q385 := zt q385; have p49 : 0 ≤ (0 : Int) := (by omega); have q49 : 0 < ((rd_T44 t356 x19_5).f0).size := (by have : (0 : Int) < (((rd_T44 t356 x19_5).f0).size : Int) := zb (qP9); omega); have hx49 : ∀ h : 0 < ((rd_T44 t356 x19_5).f0).size, ((((rd_T44 t356 x19_5).f0)[0]'h).toNat : Int) = bt ((rd_T44 t356 x19_5).f0) 0 := bt_at ((rd_T44 t356 x19_5).f0) 0; clear p49; have qi49 : (0 < (((rd_T44 t356 x19_5).f0).size : Int)) = True := zt (zb (qP9)); replace q49 := zt q49)); try go_wp2_with (first | (go_at_call 24; (with_reducible refine (impl_SquareOf.calls kj35 _ _ t356 t357 ((rd_T44 t356 x19_5).f0) t380 t381 true _ ?s1 ?s2 A41.1).mono ?_); (case s1 => exact (qP6 HO_3.1)); (case s2 => exact (qP32 HO_3.1)); rintro e w53 ⟨rfl, hb⟩; replace HO_3 := za (qP63 HO_3.1); replace HO_15 := za (qP63 HO_15.1); replace HB := za qP64; clear hb; have p383 : 0 ≤ (x19_5 : Int) := zb (qP9); have q383 : x19_5 < (t356.length : Int) := zb (qP9); obtain ⟨ad383, e383, hx383_0, hx383_1, hx383_2⟩ := at_T44 (zB HO_3.1).2.2 x19_5 p383 q383; obtain rfl : ad379 = ad383 := (by injection e383); replace p383 := zt p383; replace q383 := zt q383; obtain ⟨Ao54, co54, eo54⟩ := zC HO_15.1; subst eo54) | (go_at_call 25; (with_reducible refine (laws_rHasText.calls kj35 _ _ t370 ((rd_T44 t356 x19_5).f0) t384 _ ?s1 ?s2 A43.1).mono ?_); (case s1 => exact (qP6 HO_15.1)); (case s2 => exact (qP32 HO_15.1)); rintro e w' ⟨rfl, ⟨nd, rfl⟩⟩; (try first | exact ⟨rfl, _, zL _ _ _⟩ | exact ⟨rfl, _, Eq.trans (zL _ _ _) (congrArg (World.drewN _) (Nat.add_assoc _ _ _))⟩); have p47 : 0 ≤ ((ji44) : Int) := zb (qP9); have q47 : (ji44) < (t360.size : Int) := zb (qP9); have hx47 := bt_at t360 (ji44); replace p47 := zt p47; replace q47 := zt q47; have p385 : 0 ≤ (x19_5 : Int) := zb (qP9); have q385 : x19_5 < (t356.length : Int) := zb (qP9); obtain ⟨ad385, e385, hx385_0, hx385_1, hx385_2⟩ := at_T44 (zB HO_3.1).2.2 x19_5 p385 q385; obtain rfl : ad379 = ad385 := (by injection e385); replace p385 := zt p385; replace q385 := zt q385; have p49 : 0 ≤ (0 : Int) := (by omega); have q49 : 0 < ((rd_T44 t356 x19_5).f0).size := (by have : (0 : Int) < (((rd_T44 t356 x19_5).f0).size : Int) := zb (qP9); omega); have hx49 : ∀ h : 0 < ((rd_T44 t356 x19_5).f0).size, ((((rd_T44 t356 x19_5).f0)[0]'h).toNat : Int) = bt ((rd_T44 t356 x19_5).f0) 0 := bt_at ((rd_T44 t356 x19_5).f0) 0; clear p49; have qi49 : (0 < (((rd_T44 t356 x19_5).f0).size : Int)) = True := zt (zb (qP9)); replace q49 := zt q49)))
                          go_roundg kj35
                          case measure => have := HJ6.1; have := HJ15.1; have := HJ24.1; have := HJ32.1; have := HK5.1; have := HJ35.1; omega
                          case rel => exact ⟨(wrap64 (x19_5 + 1)), (qP17), H', ⟨by have := HJ6.1; have := HJ15.1; have := HJ24.1; have := HJ32.1; have := HK5.1; have := HJ35.1; omega⟩, ⟨(qP0 HO_3.1)⟩, ⟨(qP0 HO_15.1)⟩, ⟨(qP1)⟩⟩
                        ·as_aux_lemma =>
                         rw [zV c48] at H
                         exact zJ H (by simp)
                       ·as_aux_lemma =>
                        rw [zV c46] at H
                        exact zJ H (by simp)
                      ·as_aux_lemma =>
                       rw [zV c45] at H
                       exact zJ H (by simp)
                     ·as_aux_lemma =>
                      replace c42 := zl c42; subst c42; rw [zV (show ¬ (false = true) by decide)] at H
                      exact zJ (HT.1.symm.trans (zk H).symm) (by decide)
                    ·as_aux_lemma =>
                     rw [zV c40] at H
                     exact zJ H (by simp)
                   ·as_aux_lemma =>
                    rw [zV c39] at H
                    exact zJ H (by simp)
                  ·as_aux_lemma =>
                   replace c38 := zl c38; subst c38; rw [zV (show ¬ (false = true) by decide)] at H; replace H := bindA H; obtain ⟨⟨t386, t387, t388⟩, A56, H⟩ := H; (try dsimp only at H); replace H := bindA H; obtain ⟨⟨t391, t392⟩, A57, H⟩ := H; (try dsimp only at H); replace H := bindA H; obtain ⟨⟨t393, t394⟩, A58, H⟩ := H; (try dsimp only at H); have HC59 := za H; clear H
                   go_upto_region 27 with (first | (go_at_call 26; (with_reducible refine (spec_DrawSmallestScale.calls kj35 _ _ l0 t386 t387 t388 _ ?s1 ?s2 A56.1).mono ?_); (case s1 => exact (qP11)); (case s2 => exact HC0.1); rintro e w60 ⟨v389, rfl, ho0, hb⟩; replace HO_15 := za (qP63 HO_15.1); have HO390 := za (qP76 ho0 HO_3.1); replace HO_3 := za (qP73 HO_3.1 ho0); replace HB := za qP64; clear hb ho0; obtain ⟨Ao61, co61, eo61⟩ := zC HO390.1; subst eo61) | (go_at_call 27; (with_reducible refine (impl_SmallestScale.calls kj35 _ _ t386 t387 t388 t391 t392 _ ?s1 ?s2 A57.1).mono ?_); (case s1 => exact (qP6 HO390.1)); (case s2 => exact (qP32 HO390.1)); rintro e w62 ⟨rfl, hb⟩; replace HO_3 := za (qP63 HO_3.1); replace HO_15 := za (qP63 HO_15.1); replace HO390 := za (qP63 HO390.1); replace HB := za qP64; clear hb) | (go_at_call 28; (with_reducible refine (spec_SmallestScale.calls kj35 _ _ t386 t387 t388 t393 t394 _ ?s1 ?s2 A58.1).mono ?_); (case s1 => exact (qP6 HO390.1)); (case s2 => exact (qP32 HO390.1)); rintro e w63 ⟨rfl, hb⟩; replace HO_3 := za (qP63 HO_3.1); replace HO_15 := za (qP63 HO_15.1); replace HO390 := za (qP63 HO390.1); replace HB := za qP64; clear hb))
                   repeat (go_quiet (first | (go_at_call 26; (with_reducible refine (spec_DrawSmallestScale.calls kj35 _ _ l0 t386 t387 t388 _ ?s1 ?s2 A56.1).mono ?_); (case s1 => exact (qP11)); (case s2 => exact HC0.1); rintro e w60 ⟨v389, rfl, ho0, hb⟩; replace HO_15 := za (qP63 HO_15.1); have HO390 := za (qP76 ho0 HO_3.1); replace HO_3 := za (qP73 HO_3.1 ho0); replace HB := za qP64; clear hb ho0; obtain ⟨Ao61, co61, eo61⟩ := zC HO390.1; subst eo61) | (go_at_call 27; (with_reducible refine (impl_SmallestScale.calls kj35 _ _ t386 t387 t388 t391 t392 _ ?s1 ?s2 A57.1).mono ?_); (case s1 => exact (qP6 HO390.1)); (case s2 => exact (qP32 HO390.1)); rintro e w62 ⟨rfl, hb⟩; replace HO_3 := za (qP63 HO_3.1); replace HO_15 := za (qP63 HO_15.1); replace HO390 := za (qP63 HO390.1); replace HB := za qP64; clear hb) | (go_at_call 28; (with_reducible refine (spec_SmallestScale.calls kj35 _ _ t386 t387 t388 t393 t394 _ ?s1 ?s2 A58.1).mono ?_); (case s1 => exact (qP6 HO390.1)); (case s2 => exact (qP32 HO390.1)); rintro e w63 ⟨rfl, hb⟩; replace HO_3 := za (qP63 HO_3.1); replace HO_15 := za (qP63 HO_15.1); replace HO390 := za (qP63 HO390.1); replace HB := za qP64; clear hb)); go_upto_region 27 with (first | (go_at_call 26; (with_reducible refine (spec_DrawSmallestScale.calls kj35 _ _ l0 t386 t387 t388 _ ?s1 ?s2 A56.1).mono ?_); (case s1 => exact (qP11)); (case s2 => exact HC0.1); rintro e w60 ⟨v389, rfl, ho0, hb⟩; replace HO_15 := za (qP63 HO_15.1); have HO390 := za (qP76 ho0 HO_3.1); replace HO_3 := za (qP73 HO_3.1 ho0); replace HB := za qP64; clear hb ho0; obtain ⟨Ao61, co61, eo61⟩ := zC HO390.1; subst eo61) | (go_at_call 27; (with_reducible refine (impl_SmallestScale.calls kj35 _ _ t386 t387 t388 t391 t392 _ ?s1 ?s2 A57.1).mono ?_); (case s1 => exact (qP6 HO390.1)); (case s2 => exact (qP32 HO390.1)); rintro e w62 ⟨rfl, hb⟩; replace HO_3 := za (qP63 HO_3.1); replace HO_15 := za (qP63 HO_15.1); replace HO390 := za (qP63 HO390.1); replace HB := za qP64; clear hb) | (go_at_call 28; (with_reducible refine (spec_SmallestScale.calls kj35 _ _ t386 t387 t388 t393 t394 _ ?s1 ?s2 A58.1).mono ?_); (case s1 => exact (qP6 HO390.1)); (case s2 => exact (qP32 HO390.1)); rintro e w63 ⟨rfl, hb⟩; replace HO_3 := za (qP63 HO_3.1); replace HO_15 := za (qP63 HO_15.1); replace HO390 := za (qP63 HO390.1); replace HB := za qP64; clear hb)))
                   (try simp only [Act.put, zY, zZ, ya])
                   go_cut [210] (fun v210 wc => ∃ (kq : Nat) (x210_58 : Bool), v210 = .bool x210_58 ∧ Aside0 (laws_FnPlans.j6 kq l0 t386 t387 t388 t391 t392 x210_58 = some r) ∧ Aside0 (kq ≤ kj35) ∧ Aside0 (Kd.R k44 44 wc w.heap.size (fun _ => True) (.slice Ao61 t386.length co61) t386) ∧ Aside0 (Below w.heap.size w wc))
                   case first =>
                    have H := HC59.1; clear HC59
                    by_cases c64 : t391 = t393
                    ·as_aux_lemma =>
                     rw [zU c64] at H; have c64b0 : (t391 == t393) = true := zM c64; have c64b1 : (t391 != t393) = false := zv c64; clear c64
                     (first | rw [c64b0] | (simp only [i64_w, i32_w]; rw [c64b0]) | skip)
                     have H' := za H; clear H
                     go_wp2
                     repeat (go_quiet (fail); try go_wp2)
                     go_meet
                     case rel => exact ⟨_, ((t392 != t394)), (qP17), H', ⟨by have := HJ6.1; have := HJ15.1; have := HJ24.1; have := HJ32.1; have := HK5.1; have := HJ35.1; first | omega | exact zm _⟩, ⟨(qP36 HO390.1)⟩, ⟨(qP1)⟩⟩
                    ·as_aux_lemma =>
                     rw [zV c64] at H; have c64b0 : (t391 == t393) = false := zu c64; have c64b1 : (t391 != t393) = true := zN c64
                     (first | rw [c64b0] | (simp only [i64_w, i32_w]; rw [c64b0]) | skip)
                     have H' := za H; clear H
                     go_wp2
                     repeat (go_quiet (fail); try go_wp2)
                     go_meet
                     case rel => exact ⟨_, (true), (qP17), H', ⟨by have := HJ6.1; have := HJ15.1; have := HJ24.1; have := HJ32.1; have := HK5.1; have := HJ35.1; first | omega | exact zm _⟩, ⟨(qP36 HO390.1)⟩, ⟨(qP1)⟩⟩
                   case rest =>
                    clear HC59; (try clear qi4); (try clear c38); (try clear qi49); obtain ⟨kq, x210_58, rfl, HA, HJ58, HO_23, HB⟩ := hcut
                    cases kq with
                    | zero => exact zJ HA.1 (by simp [laws_FnPlans.j6])
                    | succ kj58 =>
                     have H := HA.1; clear HA; simp only [laws_FnPlans.j6] at H
                     by_cases c65 : x210_58 = true
                     ·as_aux_lemma =>
                      subst c65; rw [zU rfl] at H
                      exact zJ (HT.1.symm.trans (zk H).symm) (by decide)
                     ·as_aux_lemma =>
                      replace c65 := zl c65; subst c65; rw [zV (show ¬ (false = true) by decide)] at H
                      by_cases c66 : t392 = true
                      ·as_aux_lemma =>
                       subst c66; rw [zU rfl] at H; replace H := bindA H; obtain ⟨⟨t395, t396, t397⟩, A67, H⟩ := H; (try dsimp only at H); have HC68 := za H; clear H
                       go_upto_region 31 with (first | (go_at_call 21; (with_reducible refine (impl_PlanSize.calls kj58 _ _ t386 t391 t395 t396 t397 _ ?s1 ?s2 A67.1).mono ?_); (case s1 => exact (qP6 HO_23.1)); (case s2 => exact (qP32 HO_23.1)); rintro e w69 ⟨rfl, hb⟩; replace HO_23 := za (qP63 HO_23.1); replace HB := za qP64; clear hb))
                       repeat (go_quiet (first | (go_at_call 21; (with_reducible refine (impl_PlanSize.calls kj58 _ _ t386 t391 t395 t396 t397 _ ?s1 ?s2 A67.1).mono ?_); (case s1 => exact (qP6 HO_23.1)); (case s2 => exact (qP32 HO_23.1)); rintro e w69 ⟨rfl, hb⟩; replace HO_23 := za (qP63 HO_23.1); replace HB := za qP64; clear hb)); go_upto_region 31 with (first | (go_at_call 21; (with_reducible refine (impl_PlanSize.calls kj58 _ _ t386 t391 t395 t396 t397 _ ?s1 ?s2 A67.1).mono ?_); (case s1 => exact (qP6 HO_23.1)); (case s2 => exact (qP32 HO_23.1)); rintro e w69 ⟨rfl, hb⟩; replace HO_23 := za (qP63 HO_23.1); replace HB := za qP64; clear hb)))
                       (try simp only [Act.put, zY, zZ, ya])
                       go_cut [230] (fun v230 wc => ∃ (kq : Nat) (x230_67 : Bool), v230 = .bool x230_67 ∧ Aside0 (laws_FnPlans.j7 kq l0 t386 t387 t388 t391 x230_67 = some r) ∧ Aside0 (kq ≤ kj58) ∧ Aside0 (Kd.R k44 44 wc w.heap.size (fun _ => True) (.slice Ao61 t386.length co61) t386) ∧ Aside0 (Below w.heap.size w wc))
                       case first =>
                        have H := HC68.1; clear HC68
                        by_cases c70 : t397 = true
                        ·as_aux_lemma =>
                         subst c70; rw [zU rfl] at H
                         by_cases c71 : t395 > t387
                         ·as_aux_lemma =>
                          rw [zU c71] at H; have c71b0 : decide (t387 < t395) = true := zc c71; clear c71
                          (first | rw [c71b0] | (simp only [i64_w, i32_w]; rw [c71b0]) | skip)
                          have H' := za H; clear H
                          go_wp2
                          repeat (go_quiet (fail); try go_wp2)
                          go_meet
                          case rel => exact ⟨_, (true), (qP17), H', ⟨by have := HJ6.1; have := HJ15.1; have := HJ24.1; have := HJ32.1; have := HK5.1; have := HJ35.1; have := HJ58.1; first | omega | exact zm _⟩, ⟨(qP0 HO_23.1)⟩, ⟨(qP1)⟩⟩
                         ·as_aux_lemma =>
                          rw [zV c71] at H; have c71b0 : decide (t387 < t395) = false := zs c71; clear c71
                          (first | rw [c71b0] | (simp only [i64_w, i32_w]; rw [c71b0]) | skip)
                          have H' := za H; clear H
                          go_wp2
                          repeat (go_quiet (fail); try go_wp2)
                          go_meet
                          case rel => exact ⟨_, (decide (t396 > t388)), (qP17), H', ⟨by have := HJ6.1; have := HJ15.1; have := HJ24.1; have := HJ32.1; have := HK5.1; have := HJ35.1; have := HJ58.1; first | omega | exact zm _⟩, ⟨(qP0 HO_23.1)⟩, ⟨(qP1)⟩⟩
                        ·as_aux_lemma =>
                         replace c70 := zl c70; subst c70; rw [zV (show ¬ (false = true) by decide)] at H; have H' := za H; clear H
                         go_wp2
                         repeat (go_quiet (fail); try go_wp2)
                         go_meet
                         case rel => exact ⟨_, (true), (qP17), H', ⟨by have := HJ6.1; have := HJ15.1; have := HJ24.1; have := HJ32.1; have := HK5.1; have := HJ35.1; have := HJ58.1; first | omega | exact zm _⟩, ⟨(qP0 HO_23.1)⟩, ⟨(qP1)⟩⟩
                       case rest =>
                        clear HC68; (try clear qi4); (try clear qi49); (try clear c65); (try clear c66); obtain ⟨kq, x230_67, rfl, HA, HJ67, HO_23, HB⟩ := hcut
                        cases kq with
                        | zero => exact zJ HA.1 (by simp [laws_FnPlans.j7])
                        | succ kj67 =>
                         have H := HA.1; clear HA; simp only [laws_FnPlans.j7] at H
                         by_cases c72 : x230_67 = true
                         ·as_aux_lemma =>
                          subst c72; rw [zU rfl] at H
                          exact zJ (HT.1.symm.trans (zk H).symm) (by decide)
                         ·as_aux_lemma =>
                          replace c72 := zl c72; subst c72; rw [zV (show ¬ (false = true) by decide)] at H; replace H := bindA H; obtain ⟨⟨t398, t399, t400⟩, A73, H⟩ := H; (try dsimp only at H); have HC74 := za H; clear H
                          go_upto_region 34 with (first | (go_at_call 21; (with_reducible refine (impl_PlanSize.calls kj67 _ _ t386 (wrap64 (t391 - 1)) t398 t399 t400 _ ?s1 ?s2 A73.1).mono ?_); (case s1 => exact (qP6 HO_23.1)); (case s2 => exact (qP32 HO_23.1)); rintro e w75 ⟨rfl, hb⟩; replace HO_23 := za (qP63 HO_23.1); replace HB := za qP64; clear hb))
                          repeat (go_quiet (first | (go_at_call 21; (with_reducible refine (impl_PlanSize.calls kj67 _ _ t386 (wrap64 (t391 - 1)) t398 t399 t400 _ ?s1 ?s2 A73.1).mono ?_); (case s1 => exact (qP6 HO_23.1)); (case s2 => exact (qP32 HO_23.1)); rintro e w75 ⟨rfl, hb⟩; replace HO_23 := za (qP63 HO_23.1); replace HB := za qP64; clear hb)); go_upto_region 34 with (first | (go_at_call 21; (with_reducible refine (impl_PlanSize.calls kj67 _ _ t386 (wrap64 (t391 - 1)) t398 t399 t400 _ ?s1 ?s2 A73.1).mono ?_); (case s1 => exact (qP6 HO_23.1)); (case s2 => exact (qP32 HO_23.1)); rintro e w75 ⟨rfl, hb⟩; replace HO_23 := za (qP63 HO_23.1); replace HB := za qP64; clear hb)))
                          (try simp only [Act.put, zY, zZ, ya])
                          go_cut [249] (fun v249 wc => ∃ (kq : Nat) (x249_73 : Bool), v249 = .bool x249_73 ∧ Aside0 (laws_FnPlans.j8 kq l0 x249_73 = some r) ∧ Aside0 (kq ≤ kj67) ∧ Aside0 (Below w.heap.size w wc))
                          case first =>
                           have H := HC74.1; clear HC74
                           by_cases c76 : t400 = true
                           ·as_aux_lemma =>
                            subst c76; rw [zU rfl] at H
                            by_cases c77 : t398 ≤ t387
                            ·as_aux_lemma =>
                             rw [zU c77] at H; have c77b0 : decide (t398 ≤ t387) = true := zc c77; clear c77
                             (first | rw [c77b0] | (simp only [i64_w, i32_w]; rw [c77b0]) | skip)
                             have H' := za H; clear H
                             go_wp2
                             repeat (go_quiet (fail); try go_wp2)
                             go_meet
                             case rel => exact ⟨_, (decide (t399 ≤ t388)), (qP17), H', ⟨by have := HJ6.1; have := HJ15.1; have := HJ24.1; have := HJ32.1; have := HK5.1; have := HJ35.1; have := HJ58.1; have := HJ67.1; first | omega | exact zm _⟩, ⟨(qP1)⟩⟩
                            ·as_aux_lemma =>
                             rw [zV c77] at H; have c77b0 : decide (t398 ≤ t387) = false := zs c77; clear c77
                             (first | rw [c77b0] | (simp only [i64_w, i32_w]; rw [c77b0]) | skip)
                             have H' := za H; clear H
                             go_wp2
                             repeat (go_quiet (fail); try go_wp2)
                             go_meet
                             case rel => exact ⟨_, (false), (qP17), H', ⟨by have := HJ6.1; have := HJ15.1; have := HJ24.1; have := HJ32.1; have := HK5.1; have := HJ35.1; have := HJ58.1; have := HJ67.1; first | omega | exact zm _⟩, ⟨(qP1)⟩⟩
                           ·as_aux_lemma =>
                            replace c76 := zl c76; subst c76; rw [zV (show ¬ (false = true) by decide)] at H; have H' := za H; clear H
                            go_wp2
                            repeat (go_quiet (fail); try go_wp2)
                            go_meet
                            case rel => exact ⟨_, (false), (qP17), H', ⟨by have := HJ6.1; have := HJ15.1; have := HJ24.1; have := HJ32.1; have := HK5.1; have := HJ35.1; have := HJ58.1; have := HJ67.1; first | omega | exact zm _⟩, ⟨(qP1)⟩⟩
                          case rest =>
                           clear HC74; (try clear qi4); (try clear qi49); (try clear c72); obtain ⟨kq, x249_73, rfl, HA, HJ73, HB⟩ := hcut
                           cases kq with
                           | zero => exact zJ HA.1 (by simp [laws_FnPlans.j8])
                           | succ kj73 =>
                            have H := HA.1; clear HA; simp only [laws_FnPlans.j8] at H
                            by_cases c78 : x249_73 = true
                            ·as_aux_lemma =>
                             subst c78; rw [zU rfl] at H
                             exact zJ (HT.1.symm.trans (zk H).symm) (by decide)
                            ·as_aux_lemma =>
                             replace c78 := zl c78; subst c78; rw [zV (show ¬ (false = true) by decide)] at H; replace H := bindA H; obtain ⟨⟨t401, t402, t403⟩, A79, H⟩ := H; (try dsimp only at H); replace H := bindA H; obtain ⟨⟨t406, t407, t408⟩, A80, H⟩ := H; (try dsimp only at H); replace H := bindA H; obtain ⟨⟨t409, t410, t411⟩, A81, H⟩ := H; (try dsimp only at H)
                             by_cases c82 : t406 = t409
                             ·as_aux_lemma =>
                              rw [zU c82] at H; have c82b0 : (t406 == t409) = true := zM c82; have c82b1 : (t406 != t409) = false := zv c82; clear c82
                              by_cases c83 : t407 = t410
                              ·as_aux_lemma =>
                               rw [zU c83] at H; have c83b0 : (t407 == t410) = true := zM c83; have c83b1 : (t407 != t410) = false := zv c83; clear c83; obtain rfl := zk H
                               go_wp2_with (first | (go_at_call 29; (with_reducible refine (spec_DrawSquareOf.calls kj73 _ _ l0 t401 t402 t403 _ ?s1 ?s2 A79.1).mono ?_); (case s1 => exact (qP11)); (case s2 => exact HC0.1); rintro e w84 ⟨v404, rfl, ho0, hb⟩; have HO405 := za (qP75 ho0); replace HB := za qP64; clear hb ho0; obtain ⟨Ao85, co85, eo85⟩ := zC HO405.1; subst eo85) | (go_at_call 24; (with_reducible refine (impl_SquareOf.calls kj73 _ _ t401 t402 t403 t406 t407 t408 _ ?s1 ?s2 A80.1).mono ?_); (case s1 => exact (qP6 HO405.1)); (case s2 => exact (qP32 HO405.1)); rintro e w86 ⟨rfl, hb⟩; replace HO405 := za (qP63 HO405.1); replace HB := za qP64; clear hb) | (go_at_call 30; (with_reducible refine (spec_SquareOf.calls kj73 _ _ t401 t402 t403 t409 t410 t411 _ ?s1 ?s2 A81.1).mono ?_); (case s1 => exact (qP6 HO405.1)); (case s2 => exact (qP32 HO405.1)); rintro e w87 ⟨rfl, hb⟩; replace HO405 := za (qP63 HO405.1); replace HB := za qP64; clear hb))
                               repeat (go_quiet (first | (go_at_call 29; (with_reducible refine (spec_DrawSquareOf.calls kj73 _ _ l0 t401 t402 t403 _ ?s1 ?s2 A79.1).mono ?_); (case s1 => exact (qP11)); (case s2 => exact HC0.1); rintro e w84 ⟨v404, rfl, ho0, hb⟩; have HO405 := za (qP75 ho0); replace HB := za qP64; clear hb ho0; obtain ⟨Ao85, co85, eo85⟩ := zC HO405.1; subst eo85) | (go_at_call 24; (with_reducible refine (impl_SquareOf.calls kj73 _ _ t401 t402 t403 t406 t407 t408 _ ?s1 ?s2 A80.1).mono ?_); (case s1 => exact (qP6 HO405.1)); (case s2 => exact (qP32 HO405.1)); rintro e w86 ⟨rfl, hb⟩; replace HO405 := za (qP63 HO405.1); replace HB := za qP64; clear hb) | (go_at_call 30; (with_reducible refine (spec_SquareOf.calls kj73 _ _ t401 t402 t403 t409 t410 t411 _ ?s1 ?s2 A81.1).mono ?_); (case s1 => exact (qP6 HO405.1)); (case s2 => exact (qP32 HO405.1)); rintro e w87 ⟨rfl, hb⟩; replace HO405 := za (qP63 HO405.1); replace HB := za qP64; clear hb)); try go_wp2_with (first | (go_at_call 29; (with_reducible refine (spec_DrawSquareOf.calls kj73 _ _ l0 t401 t402 t403 _ ?s1 ?s2 A79.1).mono ?_); (case s1 => exact (qP11)); (case s2 => exact HC0.1); rintro e w84 ⟨v404, rfl, ho0, hb⟩; have HO405 := za (qP75 ho0); replace HB := za qP64; clear hb ho0; obtain ⟨Ao85, co85, eo85⟩ := zC HO405.1; subst eo85) | (go_at_call 24; (with_reducible refine (impl_SquareOf.calls kj73 _ _ t401 t402 t403 t406 t407 t408 _ ?s1 ?s2 A80.1).mono ?_); (case s1 => exact (qP6 HO405.1)); (case s2 => exact (qP32 HO405.1)); rintro e w86 ⟨rfl, hb⟩; replace HO405 := za (qP63 HO405.1); replace HB := za qP64; clear hb) | (go_at_call 30; (with_reducible refine (spec_SquareOf.calls kj73 _ _ t401 t402 t403 t409 t410 t411 _ ?s1 ?s2 A81.1).mono ?_); (case s1 => exact (qP6 HO405.1)); (case s2 => exact (qP32 HO405.1)); rintro e w87 ⟨rfl, hb⟩; replace HO405 := za (qP63 HO405.1); replace HB := za qP64; clear hb)))
                               go_ret
                               exact ⟨(qP19), (qP1)⟩
                              ·as_aux_lemma =>
                               rw [zV c83] at H; have c83b0 : (t407 == t410) = false := zu c83; have c83b1 : (t407 != t410) = true := zN c83
                               exact zJ (HT.1.symm.trans (zk H).symm) (by decide)
                             ·as_aux_lemma =>
                              rw [zV c82] at H; have c82b0 : (t406 == t409) = false := zu c82; have c82b1 : (t406 != t409) = true := zN c82
                              exact zJ (HT.1.symm.trans (zk H).symm) (by decide)
                      ·as_aux_lemma =>
                       replace c66 := zl c66; subst c66; rw [zV (show ¬ (false = true) by decide)] at H; replace H := bindA H; obtain ⟨⟨t412, t413, t414⟩, A96, H⟩ := H; (try dsimp only at H); replace H := bindA H; obtain ⟨⟨t417, t418, t419⟩, A97, H⟩ := H; (try dsimp only at H); replace H := bindA H; obtain ⟨⟨t420, t421, t422⟩, A98, H⟩ := H; (try dsimp only at H)
                       by_cases c99 : t417 = t420
                       ·as_aux_lemma =>
                        rw [zU c99] at H; have c99b0 : (t417 == t420) = true := zM c99; have c99b1 : (t417 != t420) = false := zv c99; clear c99
                        by_cases c100 : t418 = t421
                        ·as_aux_lemma =>
                         rw [zU c100] at H; have c100b0 : (t418 == t421) = true := zM c100; have c100b1 : (t418 != t421) = false := zv c100; clear c100; obtain rfl := zk H
                         go_wp2_with (first | (go_at_call 29; (with_reducible refine (spec_DrawSquareOf.calls kj58 _ _ l0 t412 t413 t414 _ ?s1 ?s2 A96.1).mono ?_); (case s1 => exact (qP11)); (case s2 => exact HC0.1); rintro e w101 ⟨v415, rfl, ho0, hb⟩; have HO416 := za (qP76 ho0 HO_23.1); replace HO_23 := za (qP73 HO_23.1 ho0); replace HB := za qP64; clear hb ho0; obtain ⟨Ao102, co102, eo102⟩ := zC HO416.1; subst eo102) | (go_at_call 24; (with_reducible refine (impl_SquareOf.calls kj58 _ _ t412 t413 t414 t417 t418 t419 _ ?s1 ?s2 A97.1).mono ?_); (case s1 => exact (qP6 HO416.1)); (case s2 => exact (qP32 HO416.1)); rintro e w103 ⟨rfl, hb⟩; replace HO_23 := za (qP63 HO_23.1); replace HO416 := za (qP63 HO416.1); replace HB := za qP64; clear hb) | (go_at_call 30; (with_reducible refine (spec_SquareOf.calls kj58 _ _ t412 t413 t414 t420 t421 t422 _ ?s1 ?s2 A98.1).mono ?_); (case s1 => exact (qP6 HO416.1)); (case s2 => exact (qP32 HO416.1)); rintro e w104 ⟨rfl, hb⟩; replace HO_23 := za (qP63 HO_23.1); replace HO416 := za (qP63 HO416.1); replace HB := za qP64; clear hb))
                         repeat (go_quiet (first | (go_at_call 29; (with_reducible refine (spec_DrawSquareOf.calls kj58 _ _ l0 t412 t413 t414 _ ?s1 ?s2 A96.1).mono ?_); (case s1 => exact (qP11)); (case s2 => exact HC0.1); rintro e w101 ⟨v415, rfl, ho0, hb⟩; have HO416 := za (qP76 ho0 HO_23.1); replace HO_23 := za (qP73 HO_23.1 ho0); replace HB := za qP64; clear hb ho0; obtain ⟨Ao102, co102, eo102⟩ := zC HO416.1; subst eo102) | (go_at_call 24; (with_reducible refine (impl_SquareOf.calls kj58 _ _ t412 t413 t414 t417 t418 t419 _ ?s1 ?s2 A97.1).mono ?_); (case s1 => exact (qP6 HO416.1)); (case s2 => exact (qP32 HO416.1)); rintro e w103 ⟨rfl, hb⟩; replace HO_23 := za (qP63 HO_23.1); replace HO416 := za (qP63 HO416.1); replace HB := za qP64; clear hb) | (go_at_call 30; (with_reducible refine (spec_SquareOf.calls kj58 _ _ t412 t413 t414 t420 t421 t422 _ ?s1 ?s2 A98.1).mono ?_); (case s1 => exact (qP6 HO416.1)); (case s2 => exact (qP32 HO416.1)); rintro e w104 ⟨rfl, hb⟩; replace HO_23 := za (qP63 HO_23.1); replace HO416 := za (qP63 HO416.1); replace HB := za qP64; clear hb)); try go_wp2_with (first | (go_at_call 29; (with_reducible refine (spec_DrawSquareOf.calls kj58 _ _ l0 t412 t413 t414 _ ?s1 ?s2 A96.1).mono ?_); (case s1 => exact (qP11)); (case s2 => exact HC0.1); rintro e w101 ⟨v415, rfl, ho0, hb⟩; have HO416 := za (qP76 ho0 HO_23.1); replace HO_23 := za (qP73 HO_23.1 ho0); replace HB := za qP64; clear hb ho0; obtain ⟨Ao102, co102, eo102⟩ := zC HO416.1; subst eo102) | (go_at_call 24; (with_reducible refine (impl_SquareOf.calls kj58 _ _ t412 t413 t414 t417 t418 t419 _ ?s1 ?s2 A97.1).mono ?_); (case s1 => exact (qP6 HO416.1)); (case s2 => exact (qP32 HO416.1)); rintro e w103 ⟨rfl, hb⟩; replace HO_23 := za (qP63 HO_23.1); replace HO416 := za (qP63 HO416.1); replace HB := za qP64; clear hb) | (go_at_call 30; (with_reducible refine (spec_SquareOf.calls kj58 _ _ t412 t413 t414 t420 t421 t422 _ ?s1 ?s2 A98.1).mono ?_); (case s1 => exact (qP6 HO416.1)); (case s2 => exact (qP32 HO416.1)); rintro e w104 ⟨rfl, hb⟩; replace HO_23 := za (qP63 HO_23.1); replace HO416 := za (qP63 HO416.1); replace HB := za qP64; clear hb)))
                         go_ret
                         exact ⟨(qP19), (qP1)⟩
                        ·as_aux_lemma =>
                         rw [zV c100] at H; have c100b0 : (t418 == t421) = false := zu c100; have c100b1 : (t418 != t421) = true := zN c100
                         exact zJ (HT.1.symm.trans (zk H).symm) (by decide)
                       ·as_aux_lemma =>
                        rw [zV c99] at H; have c99b0 : (t417 == t420) = false := zu c99; have c99b1 : (t417 != t420) = true := zN c99
                        exact zJ (HT.1.symm.trans (zk H).symm) (by decide)
end Go.Proofs.Ytckidmhkhlbkeaa.MP
