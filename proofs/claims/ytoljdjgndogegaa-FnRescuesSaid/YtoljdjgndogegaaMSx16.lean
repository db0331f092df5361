-- tight2 (a walk)
import Derived.Test.YtoljdjgndogegaaMSx0
import Derived.Test.YtoljdjgndogegaaMSx2
import Derived.Test.YtoljdjgndogegaaMSx6
import Derived.Test.YtoljdjgndogegaaMSx7
import Derived.Test.YtoljdjgndogegaaMSx9
import Derived.Test.YtoljdjgndogegaaMSx11
import Derived.Test.YtoljdjgndogegaaMSx12
import Derived.Test.YtoljdjgndogegaaMSx15
namespace Go.Proofs.Ytoljdjgndogegaa.MS
open Go.RowKit Go.Proofs.YtoljdjgndogegaaW.PrintWords Go.Proofs.YtoljdjgndogegaaW.PrintLast
theorem qS16_c0 {p : Prop} (h : p := by
  as_aux_lemma =>
  simp only [Act.put, yf, yg, yh, i64_w, i32_w]
  rfl) : p := h
theorem qS16_c1 {p : Prop} (h : p := by
  as_aux_lemma =>
  intro w'
  go_simp
  with_reducible rfl) : p := h
attribute [local go_sem] max2_int min2_int max_two min_two
set_option linter.unusedVariables false
set_option linter.unusedSimpArgs false

mutual
def laws_FnRescues.j0 : Nat → List Int → List (S58) → List Int → Int → Int → List Int → Bool → Bool → Option (Bool)
 | 0, _, _, _, _, _, _, _, _ => none
 | k + 1, x0, x3, x4, x5, x6, x7, x8, x75 => if x75 = true then (some false) else (if x8 = true then ((impl_GreatestWidth.f k x3 x4 x5 x6).bind fun bt717 => (laws_FnRescues.l0 k x0 x3 x4 x5 x6 x7 bt717.1 bt717.2 0)) else (laws_FnRescues.j2 k x0))
def laws_FnRescues.j2 : Nat → List Int → Option (Bool)
 | 0, _ => none
 | k + 1, x0 => (spec_DrawRescueOrder.f k x0).bind fun bt757 => ((impl_RescueOrder.f k bt757.1 bt757.2.1 bt757.2.2.1 bt757.2.2.2).bind fun bt767 => ((spec_RescueOrder.f k bt757.1 bt757.2.1 bt757.2.2.1 bt757.2.2.2).bind fun bt771 => (if (bt767.2 != bt771.2) = true then (laws_FnRescues.j3 k x0 bt757.1 bt757.2.1 bt757.2.2.1 bt767.1 true) else ((laws_vInts.f k bt767.1 bt771.1).bind fun t775 => (if t775 = true then ((laws_vWithin.f k bt767.1 bt757.2.2.2).bind fun t776 => (laws_FnRescues.j3 k x0 bt757.1 bt757.2.1 bt757.2.2.1 bt767.1 (!t776))) else (laws_FnRescues.j3 k x0 bt757.1 bt757.2.1 bt757.2.2.1 bt767.1 true))))))
def laws_FnRescues.j3 : Nat → List Int → List (S58) → List Int → Int → List Int → Bool → Option (Bool)
 | 0, _, _, _, _, _, _ => none
 | k + 1, x0, x19, x20, x21, x23, x179 => if x179 = true then (some false) else (laws_FnRescues.l1 k x0 x19 x20 x21 x23 200 0)
def laws_FnRescues.l1 : Nat → List Int → List (S58) → List Int → Int → List Int → Int → Int → Option (Bool)
 | 0, _, _, _, _, _, _, _ => none
 | k + 1, x0, x19, x20, x21, x23, x27, x28 => if x28 < (x23.length : Int) then (if 0 ≤ x28 then ((impl_GreatestWidth.f k x19 x20 x21 (rd x23 x28)).bind fun bt778 => (if bt778.2 = true then (if bt778.1 < 0 then (some false) else (if bt778.1 > x27 then (some false) else (laws_FnRescues.l1 k x0 x19 x20 x21 x23 bt778.1 (wrap64 (x28 + 1))))) else (some false))) else (none)) else ((spec_DrawStationsFor.f k x0).bind fun bt780 => ((impl_StationsFor.f k bt780.1 bt780.2.1 bt780.2.2.1 bt780.2.2.2).bind fun bt788 => ((spec_StationsFor.f k bt780.1 bt780.2.1 bt780.2.2.1 bt780.2.2.2).bind fun bt792 => (if (bt788.2 != bt792.2) = true then (laws_FnRescues.j5 k bt780.1 bt780.2.1 bt780.2.2.1 bt780.2.2.2 bt788.1 bt788.2 true) else ((laws_vInts.f k bt788.1 bt792.1).bind fun t796 => (laws_FnRescues.j5 k bt780.1 bt780.2.1 bt780.2.2.1 bt780.2.2.2 bt788.1 bt788.2 (!t796)))))))
def laws_FnRescues.j5 : Nat → List (S58) → List Int → Int → Int → List Int → Bool → Bool → Option (Bool)
 | 0, _, _, _, _, _, _, _ => none
 | k + 1, x31, x32, x33, x34, x35, x36, x240 => if x240 = true then (some false) else (if x36 = true then (laws_FnRescues.l2 k x31 x32 x33 x34 x35 0) else (some true))
def laws_FnRescues.l2 : Nat → List (S58) → List Int → Int → Int → List Int → Int → Option (Bool)
 | 0, _, _, _, _, _, _ => none
 | k + 1, x31, x32, x33, x34, x35, x39 => if x39 < 8 then ((impl_GreatestWidth.f k x31 x32 x33 x39).bind fun bt797 => (if bt797.2 = true then ((laws_vHas.f k x35 x39).bind fun t799 => (if (t799 != (decide (bt797.1 ≥ x34))) = true then (some false) else (laws_FnRescues.l2 k x31 x32 x33 x34 x35 (wrap64 (x39 + 1))))) else (some false))) else (some true)
def laws_FnRescues.l0 : Nat → List Int → List (S58) → List Int → Int → Int → List Int → Int → Bool → Int → Option (Bool)
 | 0, _, _, _, _, _, _, _, _, _ => none
 | k + 1, x0, x3, x4, x5, x6, x7, x11, x12, x13 => if x13 < (x7.length : Int) then (if 0 ≤ x13 then ((some (([] : List (S58)) : List (S58))).bind fun y720 => (if 0 ≤ (rd x7 x13) then (if (rd x7 x13) ≤ (x3.length : Int) then ((some (x3.take ((rd x7 x13) : Int).toNat : List (S58))).bind fun y723 => (if y720.length + y723.length < 3518437208883 then ((some (y720 ++ y723 : List (S58))).bind fun y727 => (if 0 ≤ (wrap64 ((rd x7 x13) + 1)) then (if (wrap64 ((rd x7 x13) + 1)) ≤ (x3.length : Int) then ((some (x3.drop ((wrap64 ((rd x7 x13) + 1)) : Int).toNat : List (S58))).bind fun y730 => (if y727.length + y730.length < 3518437208883 then ((some (([] : List Int) : List Int)).bind fun y737 => (if (rd x7 x13) ≤ (x4.length : Int) then ((some (x4.take ((rd x7 x13) : Int).toNat : List Int)).bind fun y740 => (if y737.length + y740.length < 17592186044416 then ((some (y737 ++ y740 : List Int)).bind fun y744 => (if (wrap64 ((rd x7 x13) + 1)) ≤ (x4.length : Int) then ((some (x4.drop ((wrap64 ((rd x7 x13) + 1)) : Int).toNat : List Int)).bind fun y747 => (if y744.length + y747.length < 17592186044416 then ((impl_GreatestWidth.f k (y727 ++ y730) (y744 ++ y747) x5 x6).bind fun bt754 => (if x12 = true then (if (rd x7 x13) < (x4.length : Int) then (if (rd x4 (rd x7 x13)) = x11 then (if bt754.2 = true then (if bt754.1 ≥ x11 then (some false) else (laws_FnRescues.l0 k x0 x3 x4 x5 x6 x7 x11 x12 (wrap64 (x13 + 1)))) else (some false)) else (some false)) else (none)) else (some false))) else (none))) else (none))) else (none))) else (none))) else (none))) else (none)) else (none))) else (none))) else (none)) else (none))) else (none)) else (laws_FnRescues.j2 k x0)
end
def laws_FnRescues.f (k : Nat) (l0 : List Int) : Option (Bool) := (laws_vBig.f l0).bind fun t699 => (if t699 = true then (some true) else ((spec_DrawNarrowPlaces.f k l0).bind fun bt700 => ((impl_NarrowPlaces.f k bt700.1 bt700.2.1 bt700.2.2.1 bt700.2.2.2).bind fun bt708 => ((spec_NarrowPlaces.f k bt700.1 bt700.2.1 bt700.2.2.1 bt700.2.2.2).bind fun bt712 => (if (bt708.2 != bt712.2) = true then (laws_FnRescues.j0 k l0 bt700.1 bt700.2.1 bt700.2.2.1 bt700.2.2.2 bt708.1 bt708.2 true) else ((laws_vInts.f k bt708.1 bt712.1).bind fun t716 => (laws_FnRescues.j0 k l0 bt700.1 bt700.2.1 bt700.2.2.1 bt700.2.2.2 bt708.1 bt708.2 (!t716))))))))
def laws_FnRescues.T14 : Bool × List (List Nat × List Nat) := (true, [([], []), ([], []), ([], []), ([1, 2], [1, 2]), ([0, 3], [0, 3]), ([], []), ([], []), ([6], [6]), ([5, 7], [5, 7]), ([4, 8, 4], [4, 8]), ([9, 9, 0, 1, 2, 3, 4, 5, 6, 7, 8, 9], [9])])
def laws_FnRescues.B14 : List Nat := [0, 0, 0, 6, 15, 0, 0, 64, 224, 511, 1023]
theorem laws_FnRescues.tab14 : rtab .any (opsOf Try.f4 14) = laws_FnRescues.T14 := by kernel_rfl
theorem laws_FnRescues.bits14 : waitsOk laws_FnRescues.T14.2 laws_FnRescues.B14 = true := by kernel_rfl
def laws_FnRescues.T15 : Bool × List (List Nat × List Nat) := (true, [([], []), ([], []), ([], []), ([1, 2], [1, 2]), ([0, 3], [0, 3]), ([], []), ([], []), ([6], [6]), ([5, 7], [5, 7]), ([4, 8, 4], [4, 8]), ([9, 9, 0, 1, 2, 3, 4, 5, 6, 7, 8, 9], [9])])
def laws_FnRescues.B15 : List Nat := [0, 0, 0, 6, 15, 0, 0, 64, 224, 511, 1023]
theorem laws_FnRescues.tab15 : rtab .any (opsOf Try.f4 15) = laws_FnRescues.T15 := by kernel_rfl
theorem laws_FnRescues.bits15 : waitsOk laws_FnRescues.T15.2 laws_FnRescues.B15 = true := by kernel_rfl
set_option maxHeartbeats 8000000 in
set_option maxRecDepth 100000 in
theorem laws_FnRescues.calls (k : Nat) (A0 : Option Addr) (c0 : Nat) (l0 : List Int) (r : Bool) (w : World) (hr0 : Kd.C (Kd.int .u8) w A0 l0.length l0) (hc0 : l0.length ≤ c0) (h : laws_FnRescues.f k l0 = some r) (ht : r = true := by rfl) :
  Calls Try.prog 4 #[.slice A0 l0.length c0] w fun e w' => e = .returned (.bool r) ∧ Below w.heap.size w w' := by
 have HT := za ht; clear ht; have HR0 := za hr0; have HC0 := za hc0; clear hr0 hc0; have HB := za (zs w.heap.size w); have H : ((laws_vBig.f l0).bind fun t699 => (if t699 = true then (some true) else ((spec_DrawNarrowPlaces.f k l0).bind fun bt700 => ((impl_NarrowPlaces.f k bt700.1 bt700.2.1 bt700.2.2.1 bt700.2.2.2).bind fun bt708 => ((spec_NarrowPlaces.f k bt700.1 bt700.2.1 bt700.2.2.1 bt700.2.2.2).bind fun bt712 => (if (bt708.2 != bt712.2) = true then (laws_FnRescues.j0 k l0 bt700.1 bt700.2.1 bt700.2.2.1 bt700.2.2.2 bt708.1 bt708.2 true) else ((laws_vInts.f k bt708.1 bt712.1).bind fun t716 => (laws_FnRescues.j0 k l0 bt700.1 bt700.2.1 bt700.2.2.1 bt700.2.2.2 bt708.1 bt708.2 (!t716))))))))) = some r := h; clear h; replace H := bindA H; obtain ⟨t699, A2, H⟩ := H; (try dsimp only at H)
 by_cases c3 : t699 = true
 ·as_aux_lemma =>
  subst c3; rw [yb rfl] at H; obtain rfl := zm H
  go_enter Try.func4, Try.ntmps4
  go_wp2_with (first | ((with_reducible refine zp (f := 5) rfl ?_); refine zV (some 43) rfl rfl Try.func5 (qS27) rfl #[.slice A0 l0.length c0] rfl (qS2) ?_; (with_reducible refine (laws_vBig.calls _ _ l0 true _ ?s1 ?s2 A2.1).mono ?_); (case s1 => exact (qS21 HR0.1)); (case s2 => exact HC0.1); rintro e w' ⟨rfl, ⟨nd, rfl⟩⟩; refine ⟨_, rfl, ?_⟩))
  go_ret
  exact ⟨(qS11), (qS0)⟩
 ·as_aux_lemma =>
  replace c3 := zn c3; subst c3; rw [yc (show ¬ (false = true) by decide)] at H; replace H := bindA H; obtain ⟨⟨t700, t701, t702, t703⟩, A4, H⟩ := H; (try dsimp only at H); replace H := bindA H; obtain ⟨⟨t708, t709⟩, A5, H⟩ := H; (try dsimp only at H); replace H := bindA H; obtain ⟨⟨t712, t713⟩, A6, H⟩ := H; (try dsimp only at H); have HC7 := za H; clear H
  go_enter Try.func4, Try.ntmps4
  go_upto_region 6 with (first | ((with_reducible refine zp (f := 5) rfl ?_); refine zV (some 43) rfl rfl Try.func5 (qS27) rfl #[.slice A0 l0.length c0] rfl (qS2) ?_; (with_reducible refine (laws_vBig.calls _ _ l0 false _ ?s1 ?s2 A2.1).mono ?_); (case s1 => exact (qS21 HR0.1)); (case s2 => exact HC0.1); rintro e w' ⟨rfl, ⟨nd, rfl⟩⟩; refine ⟨_, rfl, ?_⟩) | ((with_reducible refine zp (f := 19) rfl ?_); refine zV (some 46) rfl rfl Try.func19 (qS27) rfl #[.slice A0 l0.length c0] rfl (qS2) ?_; (with_reducible refine (spec_DrawNarrowPlaces.calls k _ _ l0 t700 t701 t702 t703 _ ?s1 ?s2 A4.1).mono ?_); (case s1 => exact (qS21 HR0.1)); (case s2 => exact HC0.1); rintro e w8 ⟨v704, v706, rfl, ho0, ho1, hb⟩; refine ⟨_, rfl, ?_⟩; have HO705 := za (qS77 ho0); have HO707 := za (qS77 ho1); replace HB := za qS64; clear hb ho0 ho1; obtain ⟨Ao9, co9, eo9⟩ := zI HO705.1; subst eo9; obtain ⟨Ao10, co10, eo10⟩ := zI HO707.1; subst eo10) | ((with_reducible refine zp (f := 20) rfl ?_); refine zV (some 56) rfl rfl Try.func20 (qS27) rfl #[.slice Ao9 t700.length co9, .slice Ao10 t701.length co10, .int .i64 t702, .int .i64 t703] rfl (qS2) ?_; (with_reducible refine (impl_NarrowPlaces.calls k _ _ t700 _ _ t701 t702 t703 t708 t709 _ ?s1 ?s2 ?s3 ?s4 A5.1).mono ?_); (case s1 => exact (qS7 HO705.1)); (case s2 => exact (qS38 HO705.1)); (case s3 => exact (qS7 HO707.1)); (case s4 => exact (qS38 HO707.1)); rintro e w11 ⟨v710, rfl, ho0, hb⟩; refine ⟨_, rfl, ?_⟩; replace HO705 := za (qS66 HO705.1); have HO711 := za (qS75 ho0 HO707.1); replace HO707 := za (qS67 HO707.1 ho0); replace HB := za qS64; clear hb ho0) | ((with_reducible refine zp (f := 21) rfl ?_); refine zV (some 64) rfl rfl Try.func21 (qS27) rfl #[.slice Ao9 t700.length co9, .slice Ao10 t701.length co10, .int .i64 t702, .int .i64 t703] rfl (qS2) ?_; (with_reducible refine (spec_NarrowPlaces.calls k _ _ t700 _ _ t701 t702 t703 t712 t713 _ ?s1 ?s2 ?s3 ?s4 A6.1).mono ?_); (case s1 => exact (qS7 HO705.1)); (case s2 => exact (qS38 HO705.1)); (case s3 => exact (qS7 HO707.1)); (case s4 => exact (qS38 HO707.1)); rintro e w12 ⟨v714, rfl, ho0, hb⟩; refine ⟨_, rfl, ?_⟩; replace HO705 := za (qS66 HO705.1); have HO715 := za (qS85 ho0 HO707.1 HO711.1); replace HO707 := za (qS67 HO707.1 ho0); replace HO711 := za (qS67 HO711.1 ho0); replace HB := za qS64; clear hb ho0))
  (try simp only [Act.put, yf, yg, yh])
  go_cut [75] (fun v75 wc => ∃ (kq : Nat) (x75_6 : Bool), v75 = .bool x75_6 ∧ Aside0 (laws_FnRescues.j0 kq l0 t700 t701 t702 t703 t708 t709 x75_6 = some r) ∧ Aside0 (kq ≤ k) ∧ Aside0 (Kd.R k58 58 wc w.heap.size (fun _ => True) (.slice Ao9 t700.length co9) t700) ∧ Aside0 (Kd.R (Kd.int .i64) 3 wc w.heap.size (fun k_ => some k_ ≠ (v710 : Value).ownBlock) (.slice Ao10 t701.length co10) t701) ∧ Aside0 (Kd.R (Kd.int .i64) 3 wc w.heap.size (fun k_ => some k_ ≠ ((.slice Ao10 t701.length co10) : Value).ownBlock) v710 t708) ∧ Aside0 (Below w.heap.size w wc))
  case first =>
   have H := HC7.1; clear HC7
   by_cases c13 : (t709 != t713) = true
   ·as_aux_lemma =>
    rw [yb c13] at H; have c13b0 : (t709 != t713) = true := c13
    (try (have c13b1 : decide (t709 = t713) = false := by simpa using c13))
    (try (have c13b2 : (t709 == t713) = false := by simpa using c13))
    (try (have c13b3 : ¬ (t709 = t713) := by simpa using c13)); clear c13
    (first | rw [c13b0] | (simp only [i64_w, i32_w]; rw [c13b0]) | skip)
    have H' := za H; clear H
    go_wp2
    go_meet
    case rel => exact ⟨_, (true), (qS16), H', ⟨by first | omega | exact zo _⟩, ⟨(qS1 HO705.1)⟩, ⟨(qS39 HO707.1)⟩, ⟨(qS39 HO711.1)⟩, ⟨(qS0)⟩⟩
   ·as_aux_lemma =>
    rw [yc c13] at H
    have c13b0 : (t709 != t713) = false := by simpa using c13
    (try (have c13b1 : decide (t709 = t713) = true := by simpa using c13))
    (try (have c13b2 : (t709 == t713) = true := by simpa using c13)); clear c13
    (first | rw [c13b0] | (simp only [i64_w, i32_w]; rw [c13b0]) | skip)
    replace H := bindA H; obtain ⟨t716, A14, H⟩ := H; (try dsimp only at H); have H' := za H; clear H; obtain ⟨Ao15, co15, eo15⟩ := zI HO711.1; subst eo15; obtain ⟨Ao16, co16, eo16⟩ := zI HO715.1; subst eo16
    go_wp2_with (first | (go_at_call 9; (with_reducible refine (laws_vInts.calls k _ _ t708 _ _ t712 t716 _ ?s1 ?s2 ?s3 ?s4 A14.1).mono ?_); (case s1 => exact (qS7 HO711.1)); (case s2 => exact (qS38 HO711.1)); (case s3 => exact (qS7 HO715.1)); (case s4 => exact (qS38 HO715.1)); rintro e w' ⟨rfl, ⟨nd, rfl⟩⟩))
    go_meet
    case rel => exact ⟨_, (!t716), (qS16), H', ⟨by first | omega | exact zo _⟩, ⟨(qS1 HO705.1)⟩, ⟨(qS39 HO707.1)⟩, ⟨(qS39 HO711.1)⟩, ⟨(qS0)⟩⟩
  case rest =>
   clear HC7; (try clear c1); (try clear c2); (try clear p2); (try clear c3); (try clear c4); (try clear c5); (try clear c13); (try clear c13b0); (try clear c13b1); (try clear c13b2); obtain ⟨kq, x75_6, rfl, HA, HJ6, HO_3, HO_4, HO_7, HB⟩ := hcut
   cases kq with
   | zero => exact absurd HA.1 (by simp [laws_FnRescues.j0])
   | succ kj6 =>
    have H := HA.1; clear HA; simp only [laws_FnRescues.j0] at H
    by_cases c17 : x75_6 = true
    ·as_aux_lemma =>
     subst c17; rw [yb rfl] at H
     exact absurd (HT.1.symm.trans (zm H).symm) (by decide)
    ·as_aux_lemma =>
     replace c17 := zn c17; subst c17; rw [yc (show ¬ (false = true) by decide)] at H; have HC18 := za H; clear H
     go_upto_if 76 with (fail)
     go_cut [] (fun wc => ∃ (kq : Nat), Aside0 (laws_FnRescues.j2 kq l0 = some r) ∧ Aside0 (kq ≤ kj6) ∧ Aside0 (Below w.heap.size w wc))
     case first =>
      have H := HC18.1; clear HC18
      by_cases c19 : t709 = true
      ·as_aux_lemma =>
       subst c19; rw [yb rfl] at H; replace H := bindA H; obtain ⟨⟨t717, t718⟩, A20, H⟩ := H; (try dsimp only at H); have H' := za H; clear H
       go_wp2_with (first | ((with_reducible refine zp (f := 12) rfl ?_); refine zV (some 82) rfl rfl Try.func12 (qS27) rfl #[.slice Ao9 t700.length co9, .slice Ao10 t701.length co10, .int .i64 t702, .int .i64 t703] rfl (qS2) ?_; (with_reducible refine (impl_GreatestWidth.calls kj6 _ _ t700 _ _ t701 t702 t703 t717 t718 _ ?s1 ?s2 ?s3 ?s4 A20.1).mono ?_); (case s1 => exact (qS7 HO_3.1)); (case s2 => exact (qS38 HO_3.1)); (case s3 => exact (qS7 HO_4.1)); (case s4 => exact (qS38 HO_4.1)); rintro e w21 ⟨rfl, hb⟩; refine ⟨_, rfl, ?_⟩; replace HO_3 := za (qS66 HO_3.1); replace HO_4 := za (qS66 HO_4.1); replace HO_7 := za (qS66 HO_7.1); replace HB := za qS64; clear hb))
       go_loopg [13] kj6 (fun kq v13 w' => ∃ (x13_2 : Int), v13 = .int .i64 x13_2 ∧ Aside0 (laws_FnRescues.l0 kq l0 t700 t701 t702 t703 t708 t717 t718 x13_2 = some r) ∧ Aside0 (kq ≤ kj6) ∧ Aside0 (Kd.R k58 58 w' w.heap.size (fun _ => True) (.slice Ao9 t700.length co9) t700) ∧ Aside0 (Kd.R (Kd.int .i64) 3 w' w.heap.size (fun k_ => some k_ ≠ (v710 : Value).ownBlock) (.slice Ao10 t701.length co10) t701) ∧ Aside0 (Kd.R (Kd.int .i64) 3 w' w.heap.size (fun k_ => some k_ ≠ ((.slice Ao10 t701.length co10) : Value).ownBlock) v710 t708) ∧ Aside0 (Below w.heap.size w w'))
       case atStart => exact ⟨(0), (qS16), H', ⟨zo _⟩, ⟨(qS1 HO_3.1)⟩, ⟨(qS1 HO_4.1)⟩, ⟨(qS1 HO_7.1)⟩, ⟨(qS0)⟩⟩
       case round =>
        clear H'; (try clear c1); (try clear c2); (try clear p2); (try clear c3); (try clear c4); (try clear c5); (try clear c12); (try clear c13); (try clear c13b0); (try clear c13b1); (try clear c13b2); (try clear c17); (try clear c19); (try clear c20); (try clear c21); (try clear p2); obtain ⟨x13_2, rfl, HA, HK2, HO_3, HO_4, HO_7, HB⟩ := hrel
        cases gk with
        | zero => exact absurd HA.1 (by simp [laws_FnRescues.l0])
        | succ k2 =>
         have H := HA.1; clear HA; simp only [laws_FnRescues.l0] at H
         by_cases c22 : x13_2 < (t708.length : Int)
         ·as_aux_lemma =>
          rw [yb c22] at H; have c22b0 : decide (x13_2 < (t708.length : Int)) = true := zc c22; clear c22
          (first | rw [c22b0] | (simp only [i64_w, i32_w]; rw [c22b0]) | skip)
          by_cases c23 : 0 ≤ x13_2
          ·as_aux_lemma =>
           rw [yb c23] at H; have c23b0 : decide (0 ≤ x13_2) = true := zc c23; clear c23; obtain ⟨y720, hy720⟩ : ∃ y_ : List (S58), y_ = (([] : List (S58))) := ⟨_, rfl⟩; replace H : (if 0 ≤ (rd t708 x13_2) then (if (rd t708 x13_2) ≤ (t700.length : Int) then ((some (t700.take ((rd t708 x13_2) : Int).toNat : List (S58))).bind fun y723 => (if y720.length + y723.length < 3518437208883 then ((some (y720 ++ y723 : List (S58))).bind fun y727 => (if 0 ≤ (wrap64 ((rd t708 x13_2) + 1)) then (if (wrap64 ((rd t708 x13_2) + 1)) ≤ (t700.length : Int) then ((some (t700.drop ((wrap64 ((rd t708 x13_2) + 1)) : Int).toNat : List (S58))).bind fun y730 => (if y727.length + y730.length < 3518437208883 then ((some (([] : List Int) : List Int)).bind fun y737 => (if (rd t708 x13_2) ≤ (t701.length : Int) then ((some (t701.take ((rd t708 x13_2) : Int).toNat : List Int)).bind fun y740 => (if y737.length + y740.length < 17592186044416 then ((some (y737 ++ y740 : List Int)).bind fun y744 => (if (wrap64 ((rd t708 x13_2) + 1)) ≤ (t701.length : Int) then ((some (t701.drop ((wrap64 ((rd t708 x13_2) + 1)) : Int).toNat : List Int)).bind fun y747 => (if y744.length + y747.length < 17592186044416 then ((impl_GreatestWidth.f k2 (y727 ++ y730) (y744 ++ y747) t702 t703).bind fun bt754 => (if t718 = true then (if (rd t708 x13_2) < (t701.length : Int) then (if (rd t701 (rd t708 x13_2)) = t717 then (if bt754.2 = true then (if bt754.1 ≥ t717 then (some false) else (laws_FnRescues.l0 k2 l0 t700 t701 t702 t703 t708 t717 t718 (wrap64 (x13_2 + 1)))) else (some false)) else (some false)) else (none)) else (some false))) else (none))) else (none))) else (none))) else (none))) else (none))) else (none)) else (none))) else (none))) else (none)) else (none)) = some r := (qS4 hy720)
           have Ny720 := za hy720; clear hy720
           by_cases c24 : 0 ≤ (rd t708 x13_2)
           ·as_aux_lemma =>
            rw [yb c24] at H; have c24b0 := zw c24; have c24b1 : decide (0 ≤ (rd t708 x13_2)) = true := zc c24; clear c24
            by_cases c25 : (rd t708 x13_2) ≤ (t700.length : Int)
            ·as_aux_lemma =>
             rw [yb c25] at H; have c25b0 := zw c25; have c25b1 : decide ((rd t708 x13_2) ≤ (t700.length : Int)) = true := zc c25; clear c25; obtain ⟨y723, hy723⟩ : ∃ y_ : List (S58), y_ = (t700.take ((rd t708 x13_2) : Int).toNat) := ⟨_, rfl⟩; replace H : (if y720.length + y723.length < 3518437208883 then ((some (y720 ++ y723 : List (S58))).bind fun y727 => (if 0 ≤ (wrap64 ((rd t708 x13_2) + 1)) then (if (wrap64 ((rd t708 x13_2) + 1)) ≤ (t700.length : Int) then ((some (t700.drop ((wrap64 ((rd t708 x13_2) + 1)) : Int).toNat : List (S58))).bind fun y730 => (if y727.length + y730.length < 3518437208883 then ((some (([] : List Int) : List Int)).bind fun y737 => (if (rd t708 x13_2) ≤ (t701.length : Int) then ((some (t701.take ((rd t708 x13_2) : Int).toNat : List Int)).bind fun y740 => (if y737.length + y740.length < 17592186044416 then ((some (y737 ++ y740 : List Int)).bind fun y744 => (if (wrap64 ((rd t708 x13_2) + 1)) ≤ (t701.length : Int) then ((some (t701.drop ((wrap64 ((rd t708 x13_2) + 1)) : Int).toNat : List Int)).bind fun y747 => (if y744.length + y747.length < 17592186044416 then ((impl_GreatestWidth.f k2 (y727 ++ y730) (y744 ++ y747) t702 t703).bind fun bt754 => (if t718 = true then (if (rd t708 x13_2) < (t701.length : Int) then (if (rd t701 (rd t708 x13_2)) = t717 then (if bt754.2 = true then (if bt754.1 ≥ t717 then (some false) else (laws_FnRescues.l0 k2 l0 t700 t701 t702 t703 t708 t717 t718 (wrap64 (x13_2 + 1)))) else (some false)) else (some false)) else (none)) else (some false))) else (none))) else (none))) else (none))) else (none))) else (none))) else (none)) else (none))) else (none)) = some r := (qS4 hy723)
             have Ny723 := za hy723; clear hy723
             by_cases c26 : y720.length + y723.length < 3518437208883
             ·as_aux_lemma =>
              rw [yb c26] at H; have LMc26 := za c26; clear c26; obtain ⟨y727, hy727⟩ : ∃ y_ : List (S58), y_ = (y720 ++ y723) := ⟨_, rfl⟩; replace H : (if 0 ≤ (wrap64 ((rd t708 x13_2) + 1)) then (if (wrap64 ((rd t708 x13_2) + 1)) ≤ (t700.length : Int) then ((some (t700.drop ((wrap64 ((rd t708 x13_2) + 1)) : Int).toNat : List (S58))).bind fun y730 => (if y727.length + y730.length < 3518437208883 then ((some (([] : List Int) : List Int)).bind fun y737 => (if (rd t708 x13_2) ≤ (t701.length : Int) then ((some (t701.take ((rd t708 x13_2) : Int).toNat : List Int)).bind fun y740 => (if y737.length + y740.length < 17592186044416 then ((some (y737 ++ y740 : List Int)).bind fun y744 => (if (wrap64 ((rd t708 x13_2) + 1)) ≤ (t701.length : Int) then ((some (t701.drop ((wrap64 ((rd t708 x13_2) + 1)) : Int).toNat : List Int)).bind fun y747 => (if y744.length + y747.length < 17592186044416 then ((impl_GreatestWidth.f k2 (y727 ++ y730) (y744 ++ y747) t702 t703).bind fun bt754 => (if t718 = true then (if (rd t708 x13_2) < (t701.length : Int) then (if (rd t701 (rd t708 x13_2)) = t717 then (if bt754.2 = true then (if bt754.1 ≥ t717 then (some false) else (laws_FnRescues.l0 k2 l0 t700 t701 t702 t703 t708 t717 t718 (wrap64 (x13_2 + 1)))) else (some false)) else (some false)) else (none)) else (some false))) else (none))) else (none))) else (none))) else (none))) else (none))) else (none)) else (none)) = some r := (qS4 hy727); have Ny727 := za hy727; clear hy727; obtain ⟨ji27, hji27⟩ : ∃ j_ : Int, (wrap64 ((rd t708 x13_2) + 1)) = j_ := ⟨_, rfl⟩
              replace H : (if 0 ≤ (ji27) then (if (ji27) ≤ (t700.length : Int) then ((some (t700.drop ((ji27) : Int).toNat : List (S58))).bind fun y730 => (if y727.length + y730.length < 3518437208883 then ((some (([] : List Int) : List Int)).bind fun y737 => (if (rd t708 x13_2) ≤ (t701.length : Int) then ((some (t701.take ((rd t708 x13_2) : Int).toNat : List Int)).bind fun y740 => (if y737.length + y740.length < 17592186044416 then ((some (y737 ++ y740 : List Int)).bind fun y744 => (if (ji27) ≤ (t701.length : Int) then ((some (t701.drop ((ji27) : Int).toNat : List Int)).bind fun y747 => (if y744.length + y747.length < 17592186044416 then ((impl_GreatestWidth.f k2 (y727 ++ y730) (y744 ++ y747) t702 t703).bind fun bt754 => (if t718 = true then (if (rd t708 x13_2) < (t701.length : Int) then (if (rd t701 (rd t708 x13_2)) = t717 then (if bt754.2 = true then (if bt754.1 ≥ t717 then (some false) else (laws_FnRescues.l0 k2 l0 t700 t701 t702 t703 t708 t717 t718 (wrap64 (x13_2 + 1)))) else (some false)) else (some false)) else (none)) else (some false))) else (none))) else (none))) else (none))) else (none))) else (none))) else (none)) else (none)) = some r := by first | (rw [hji27] at H; exact H) | (simp only [hji27] at H ⊢; exact H)
              have hji27w : (IntKind.i64.wrap ((rd t708 x13_2) + 1)) = ji27 := (i64_w _).trans hji27
              by_cases c28 : 0 ≤ (ji27)
              ·as_aux_lemma =>
               rw [yb c28] at H; have c28b0 := zw c28; have c28b1 : decide (0 ≤ (ji27)) = true := zc c28; clear c28
               by_cases c29 : (ji27) ≤ (t700.length : Int)
               ·as_aux_lemma =>
                rw [yb c29] at H; have c29b0 := zw c29; have c29b1 : decide ((ji27) ≤ (t700.length : Int)) = true := zc c29; clear c29; obtain ⟨y730, hy730⟩ : ∃ y_ : List (S58), y_ = (t700.drop ((ji27) : Int).toNat) := ⟨_, rfl⟩; replace H : (if y727.length + y730.length < 3518437208883 then ((some (([] : List Int) : List Int)).bind fun y737 => (if (rd t708 x13_2) ≤ (t701.length : Int) then ((some (t701.take ((rd t708 x13_2) : Int).toNat : List Int)).bind fun y740 => (if y737.length + y740.length < 17592186044416 then ((some (y737 ++ y740 : List Int)).bind fun y744 => (if (ji27) ≤ (t701.length : Int) then ((some (t701.drop ((ji27) : Int).toNat : List Int)).bind fun y747 => (if y744.length + y747.length < 17592186044416 then ((impl_GreatestWidth.f k2 (y727 ++ y730) (y744 ++ y747) t702 t703).bind fun bt754 => (if t718 = true then (if (rd t708 x13_2) < (t701.length : Int) then (if (rd t701 (rd t708 x13_2)) = t717 then (if bt754.2 = true then (if bt754.1 ≥ t717 then (some false) else (laws_FnRescues.l0 k2 l0 t700 t701 t702 t703 t708 t717 t718 (wrap64 (x13_2 + 1)))) else (some false)) else (some false)) else (none)) else (some false))) else (none))) else (none))) else (none))) else (none))) else (none)) = some r := (qS4 hy730); have Ny730 := za hy730; clear hy730
                by_cases c30 : y727.length + y730.length < 3518437208883
                ·as_aux_lemma =>
                 rw [yb c30] at H; have LMc30 := za c30; clear c30; obtain ⟨y734, hy734⟩ : ∃ y_ : List (S58), y_ = (y727 ++ y730) := ⟨_, rfl⟩; replace H : ((some (([] : List Int) : List Int)).bind fun y737 => (if (rd t708 x13_2) ≤ (t701.length : Int) then ((some (t701.take ((rd t708 x13_2) : Int).toNat : List Int)).bind fun y740 => (if y737.length + y740.length < 17592186044416 then ((some (y737 ++ y740 : List Int)).bind fun y744 => (if (ji27) ≤ (t701.length : Int) then ((some (t701.drop ((ji27) : Int).toNat : List Int)).bind fun y747 => (if y744.length + y747.length < 17592186044416 then ((impl_GreatestWidth.f k2 y734 (y744 ++ y747) t702 t703).bind fun bt754 => (if t718 = true then (if (rd t708 x13_2) < (t701.length : Int) then (if (rd t701 (rd t708 x13_2)) = t717 then (if bt754.2 = true then (if bt754.1 ≥ t717 then (some false) else (laws_FnRescues.l0 k2 l0 t700 t701 t702 t703 t708 t717 t718 (wrap64 (x13_2 + 1)))) else (some false)) else (some false)) else (none)) else (some false))) else (none))) else (none))) else (none))) else (none))) = some r := (qS4 hy734); have Ny734 := za hy734; clear hy734; obtain ⟨y737, hy737⟩ : ∃ y_ : List Int, y_ = (([] : List Int)) := ⟨_, rfl⟩; replace H : (if (rd t708 x13_2) ≤ (t701.length : Int) then ((some (t701.take ((rd t708 x13_2) : Int).toNat : List Int)).bind fun y740 => (if y737.length + y740.length < 17592186044416 then ((some (y737 ++ y740 : List Int)).bind fun y744 => (if (ji27) ≤ (t701.length : Int) then ((some (t701.drop ((ji27) : Int).toNat : List Int)).bind fun y747 => (if y744.length + y747.length < 17592186044416 then ((impl_GreatestWidth.f k2 y734 (y744 ++ y747) t702 t703).bind fun bt754 => (if t718 = true then (if (rd t708 x13_2) < (t701.length : Int) then (if (rd t701 (rd t708 x13_2)) = t717 then (if bt754.2 = true then (if bt754.1 ≥ t717 then (some false) else (laws_FnRescues.l0 k2 l0 t700 t701 t702 t703 t708 t717 t718 (wrap64 (x13_2 + 1)))) else (some false)) else (some false)) else (none)) else (some false))) else (none))) else (none))) else (none))) else (none)) = some r := (qS4 hy737)
                 have Ny737 := za hy737; clear hy737; have c31b0 := zw (zb (qS8) : 0 ≤ (rd t708 x13_2))
                 by_cases c32 : (rd t708 x13_2) ≤ (t701.length : Int)
                 ·as_aux_lemma =>
                  rw [yb c32] at H; have c32b0 := zw c32; have c32b1 : decide ((rd t708 x13_2) ≤ (t701.length : Int)) = true := zc c32; clear c32; obtain ⟨y740, hy740⟩ : ∃ y_ : List Int, y_ = (t701.take ((rd t708 x13_2) : Int).toNat) := ⟨_, rfl⟩; replace H : (if y737.length + y740.length < 17592186044416 then ((some (y737 ++ y740 : List Int)).bind fun y744 => (if (ji27) ≤ (t701.length : Int) then ((some (t701.drop ((ji27) : Int).toNat : List Int)).bind fun y747 => (if y744.length + y747.length < 17592186044416 then ((impl_GreatestWidth.f k2 y734 (y744 ++ y747) t702 t703).bind fun bt754 => (if t718 = true then (if (rd t708 x13_2) < (t701.length : Int) then (if (rd t701 (rd t708 x13_2)) = t717 then (if bt754.2 = true then (if bt754.1 ≥ t717 then (some false) else (laws_FnRescues.l0 k2 l0 t700 t701 t702 t703 t708 t717 t718 (wrap64 (x13_2 + 1)))) else (some false)) else (some false)) else (none)) else (some false))) else (none))) else (none))) else (none)) = some r := (qS4 hy740); have Ny740 := za hy740; clear hy740
                  by_cases c33 : y737.length + y740.length < 17592186044416
                  ·as_aux_lemma =>
                   rw [yb c33] at H; have LMc33 := za c33; clear c33; obtain ⟨y744, hy744⟩ : ∃ y_ : List Int, y_ = (y737 ++ y740) := ⟨_, rfl⟩; replace H : (if (ji27) ≤ (t701.length : Int) then ((some (t701.drop ((ji27) : Int).toNat : List Int)).bind fun y747 => (if y744.length + y747.length < 17592186044416 then ((impl_GreatestWidth.f k2 y734 (y744 ++ y747) t702 t703).bind fun bt754 => (if t718 = true then (if (rd t708 x13_2) < (t701.length : Int) then (if (rd t701 (rd t708 x13_2)) = t717 then (if bt754.2 = true then (if bt754.1 ≥ t717 then (some false) else (laws_FnRescues.l0 k2 l0 t700 t701 t702 t703 t708 t717 t718 (wrap64 (x13_2 + 1)))) else (some false)) else (some false)) else (none)) else (some false))) else (none))) else (none)) = some r := (qS4 hy744); have Ny744 := za hy744; clear hy744; have c34b0 := zw (zb (qS8) : 0 ≤ (ji27))
                   by_cases c35 : (ji27) ≤ (t701.length : Int)
                   ·as_aux_lemma =>
                    rw [yb c35] at H; have c35b0 := zw c35; have c35b1 : decide ((ji27) ≤ (t701.length : Int)) = true := zc c35; clear c35; obtain ⟨y747, hy747⟩ : ∃ y_ : List Int, y_ = (t701.drop ((ji27) : Int).toNat) := ⟨_, rfl⟩; replace H : (if y744.length + y747.length < 17592186044416 then ((impl_GreatestWidth.f k2 y734 (y744 ++ y747) t702 t703).bind fun bt754 => (if t718 = true then (if (rd t708 x13_2) < (t701.length : Int) then (if (rd t701 (rd t708 x13_2)) = t717 then (if bt754.2 = true then (if bt754.1 ≥ t717 then (some false) else (laws_FnRescues.l0 k2 l0 t700 t701 t702 t703 t708 t717 t718 (wrap64 (x13_2 + 1)))) else (some false)) else (some false)) else (none)) else (some false))) else (none)) = some r := (qS4 hy747); have Ny747 := za hy747; clear hy747
                    by_cases c36 : y744.length + y747.length < 17592186044416
                    ·as_aux_lemma =>
                     rw [yb c36] at H; have LMc36 := za c36; clear c36; obtain ⟨y751, hy751⟩ : ∃ y_ : List Int, y_ = (y744 ++ y747) := ⟨_, rfl⟩; replace H : ((impl_GreatestWidth.f k2 y734 y751 t702 t703).bind fun bt754 => (if t718 = true then (if (rd t708 x13_2) < (t701.length : Int) then (if (rd t701 (rd t708 x13_2)) = t717 then (if bt754.2 = true then (if bt754.1 ≥ t717 then (some false) else (laws_FnRescues.l0 k2 l0 t700 t701 t702 t703 t708 t717 t718 (wrap64 (x13_2 + 1)))) else (some false)) else (some false)) else (none)) else (some false))) = some r := (qS4 hy751); have Ny751 := za hy751; clear hy751; replace H := bindA H; obtain ⟨⟨t754, t755⟩, A37, H⟩ := H; (try dsimp only at H)
                     by_cases c38 : t718 = true
                     ·as_aux_lemma =>
                      subst c38; rw [yb rfl] at H
                      by_cases c39 : (rd t708 x13_2) < (t701.length : Int)
                      ·as_aux_lemma =>
                       rw [yb c39] at H; have c39b0 : decide ((rd t708 x13_2) < (t701.length : Int)) = true := zc c39; clear c39
                       by_cases c40 : (rd t701 (rd t708 x13_2)) = t717
                       ·as_aux_lemma =>
                        rw [yb c40] at H; have c40b0 : ((rd t701 (rd t708 x13_2)) == t717) = true := zT c40; have c40b1 : ((rd t701 (rd t708 x13_2)) != t717) = false := zy c40; clear c40
                        by_cases c41 : t755 = true
                        ·as_aux_lemma =>
                         subst c41; rw [yb rfl] at H
                         by_cases c42 : t754 ≥ t717
                         ·as_aux_lemma =>
                          rw [yb c42] at H; have c42b0 : decide (t717 ≤ t754) = true := zc c42; clear c42
                          exact absurd (HT.1.symm.trans (zm H).symm) (by decide)
                         ·as_aux_lemma =>
                          rw [yc c42] at H; have c42b0 : decide (t717 ≤ t754) = false := zv c42; clear c42; have H' := za H; clear H; obtain ⟨Ao61, co61, eo61⟩ := zI HO_7.1; subst eo61; have p719 : 0 ≤ (x13_2 : Int) := zb (qS8); have q719 : x13_2 < (t708.length : Int) := zb (qS8); obtain ⟨ad719, e719, hx719_0⟩ := zJ (zH HO_7.1).2.2 x13_2 p719 q719; cases e719; replace p719 := zw p719; replace q719 := zw q719
                          try go_wp2
                          replace HO_3 := za (zO HO_3.1); replace HO_4 := za (zO HO_4.1); replace HO_7 := za (zO HO_7.1); replace HB := za (below_drew1 HB.1); have q63 : ((rd t708 x13_2) : Int) ≤ ((t700.length : Int) : Int) := zb (qS8); obtain ⟨i063, hi063, _, hsz63, _⟩ := info_parts info58; have hroom63 : t700.length ≤ co9 := (zH HO_3.1).2.1; have hC63 : Kd.C k58 _ Ao9 t700.length t700 := (zH HO_3.1).2.2; have hcut63 := cut_to (P := Try.prog) 24 58 .i64 Try.underlying24 hi063 Ao9 t700.length co9 (rd t708 x13_2) (zb (qS8)) q63 hroom63; have hr63 := Kd.C_take (m := ((rd t708 x13_2) : Int).toNat) hC63 (by omega); have hy63 : y723.length = ((rd t708 x13_2) : Int).toNat := (by rw [Ny723.1, List.length_take]; omega); rw [← Ny723.1] at hr63; rw [← hy63] at hcut63; have HR726 := za hr63
                          have HC726 := za (by exact show y723.length ≤ co9 from by omega)
                          clear hr63 hC63 hroom63 hi063 hsz63; have KY63 := za hy63; clear hy63
                          have KL63 := za (by exact show ((rd t708 x13_2) : Int).toNat ≤ t700.length from by omega)
                          replace q63 := zw q63; have q64 : ((ji27) : Int) ≤ ((t700.length : Int) : Int) := zb (qS8); obtain ⟨i064, hi064, _, hsz64, _⟩ := info_parts info58; have hroom64 : t700.length ≤ co9 := (zH HO_3.1).2.1; have hC64 : Kd.C k58 _ Ao9 t700.length t700 := (zH HO_3.1).2.2; have q064 : (0 : Int) ≤ ((ji27) : Int) := zb (qS8); have hcut64 := cut_from (P := Try.prog) 24 58 .i64 Try.underlying24 hi064 5 hsz64 Ao9 t700.length co9 (ji27) q064 q64; have hr64 := Kd.C_drop (m := ((ji27) : Int).toNat) (c := co9) hC64 (by omega) hroom64; obtain ⟨A64, hA64⟩ : ∃ A1, A1 = (if co9 = ((ji27) : Int).toNat then Ao9 else (Ao9 : Option Addr).map (·.add (((ji27) : Int).toNat * 5))) := ⟨_, rfl⟩; obtain ⟨c64, hc64⟩ : ∃ c1, c1 = co9 - ((ji27) : Int).toNat := ⟨_, rfl⟩; have hy64 : y730.length = t700.length - ((ji27) : Int).toNat := (qS61 Ny730.1); rw [show (t700).drop ((ji27) : Int).toNat = y730 from Ny730.1.symm] at hr64; replace hr64 : Kd.C k58 _ A64 y730.length y730 := (by rw [hA64]; exact hr64); rw [← hy64, ← hA64, ← hc64] at hcut64; have HR733 := za hr64
                          have HC733 := za (by exact show y730.length ≤ c64 from by rw [hy64, hc64]; exact Nat.sub_le_sub_right hroom64 _)
                          clear hr64 hC64 hroom64 hi064 hsz64 hc64; have KY64 := za hy64; have KA64 := za hA64; clear hy64 hA64
                          have KL64 := za (by exact show ((ji27) : Int).toNat ≤ t700.length from by omega)
                          replace q64 := zw q64
                          refine start_ (n := 11) (S := fun w' => True) (ds := []) qSb0 (qS27) rfl rfl trivial (fun hHeld => ?_); refine with_tabW laws_FnRescues.tab14 laws_FnRescues.bits14 (fun HT_ HW_ => ?_)
                          generalize wr.drew = w62 at HO_3 HO_4 HO_7 HB HR726 HR733 hHeld ⊢
                          refine pure_ (i := 1) (N := some 96) (v := ?_) (a' := ?_) qSb20 rfl rfl (qS24) (fun _ _ _ h => h) (zY ⟨by rfl, ?_⟩) ?_ ?_
                          rotate_left; exact qS16_c1; rotate_left; exact qS16_c0
                          refine pure_ (i := 2) (N := some 97) (v := ?_) (a' := ?_) qSb21 rfl rfl (qS24) (fun _ _ _ h => h) (zY ⟨by rfl, ?_⟩) ?_ ?_
                          rotate_left; exact qS16_c1; rotate_left; exact qS16_c0
                          refine pure_ (i := 3) (N := some 98) (v := ?_) (a' := ?_) qSb22 rfl rfl (qS24) (fun _ _ _ h => h) (zY ⟨by rfl, ?_⟩) ?_ ?_
                          rotate_left; exact qS16_c1; rotate_left; exact qS16_c0
                          refine pure_ (i := 5) (N := some 100) (v := ?_) (a' := ?_) qSb23 rfl rfl (qS24) (fun _ _ _ h => h) (zY ⟨by rfl, ?_⟩) ?_ ?_
                          rotate_left; exact qS16_c1; rotate_left; exact qS16_c0
                          refine pure_ (i := 6) (N := some 101) (v := ?_) (a' := ?_) qSb24 rfl rfl (qS24) (fun _ _ _ h => h) (zY ⟨by rfl, ?_⟩) ?_ ?_
                          rotate_left; exact qS16_c1; rotate_left; exact qS16_c0
                          refine pure_ (i := 7) (N := some 102) (v := ?_) (a' := ?_) qSb25 rfl rfl (qS24) (fun _ _ _ h => h) (zY ⟨by rfl, ?_⟩) ?_ ?_
                          rotate_left; exact qS16_c1; rotate_left; exact qS16_c0
                          refine pure_ (i := 8) (N := some 103) (v := ?_) (a' := ?_) qSb26 rfl rfl (qS24) (fun _ _ _ h => h) (zY ⟨by rfl, ?_⟩) ?_ ?_
                          rotate_left; exact qS16_c1; rotate_left; exact qS16_c0
                          refine one_ (i := 0) (N := some 95) qSb27 rfl rfl (qS70) (by decide) (fun K hK => ?_)
                          refine Kd.R_lit_step k58 _ 58 ?hg (N := 95) ?hd (xs := ([] : List (S58))) (inner := []) (ok := fun _ => True) (okp := fun _ => True) ?hr ?hp (fun _ hk => hk) trivial (zs _ _) (zo _) (by simp) ?_; (case hd | hg => rfl); (case hr => exact (qS26)); (case hp => exact (zu _ _))
                          intro v721 w65 ho66 hb hg_ hnew_; clear hg_ hnew_
                          (first | rw [← Ny720.1] at ho66 | (simp only [Int.reduceToNat] at ho66; rw [← Ny720.1] at ho66))
                          replace HO_4 := za (qS66 HO_4.1); replace HO_7 := za (qS66 HO_7.1); have HO722 := za (qS75 ho66 HO_3.1); replace HO_3 := za (qS67 HO_3.1 ho66); replace HR726 := za (zG (qS12 HR726.1) hb); replace HR733 := za (zG (qS12 HR733.1) hb); replace HB := za qS64; clear hb ho66
                          refine hK.out _ _ trivial (fun hHeld => ?_)
                          clear hK K
                          refine norm_ (a' := ?_) ?_ ?_
                          rotate_left
                          ·as_aux_lemma =>
                           show Act.put _ (some 95) _ = _
                           simp only [Act.put, yf, yg, yh, i64_w, i32_w]
                           rfl
                          refine one_ (i := 4) (N := some 99) qSb2 rfl rfl (qS70) (by decide) (fun K hK => ?_)
                          refine zM k58 (w0 := w) w.heap.size (by rfl) (.tmp 95) (.tmp 98) 24 58 (.agg #[(.int .i64 0), (.int .i64 0), (.int .i64 0), (.int .i64 0), (.int .i64 0)]) 40 rfl Try.underlying24 info58 rfl (by decide) (by omega) v721 y720 y723 _ _ _ (fun k_ => some k_ ≠ (.slice Ao9 t700.length co9 : Value).ownBlock) (fun _ => False) rfl rfl ?aO ?aR (fun _ _ h => h) (fun _ h => h.elim) ?aF ?aB ?aS ?aL ?_
                          (case aR => exact (qS68 HR726.1))
                          (case aB => exact (qS0))
                          (case aF => exact (qS73 HO_3.1))
                          (case aO => exact (qS29 HO722.1))
                          (case aS => exact (qS82))
                          (case aL => have := LMc26.1; omega)
                          intro v728 w67 ho hb hg hat; rw [← Ny727.1] at ho; replace HO_4 := za (qS72 HO_4.1 HO722.1); replace HO_7 := za (qS72 HO_7.1 HO722.1); replace HB := za hb
                          replace HR726 := za (by exact (show Kd.C k58 w67 Ao9 y723.length y723 from by rw [Ny723.1]; exact Kd.C_take (m := ((rd t708 x13_2) : Int).toNat) ((zH (Kd.R_after (ok := (fun _ => True)) (qS1 HO_3.1) hg hat)).2.2) KL63.1))
                          replace HR733 := za (by exact (show Kd.C k58 w67 A64 y730.length y730 from by rw [Ny730.1, KA64.1]; exact Kd.C_drop (m := ((ji27) : Int).toNat) (c := co9) ((zH (Kd.R_after (ok := (fun _ => True)) (qS1 HO_3.1) hg hat)).2.2) KL64.1 ((zH (Kd.R_after (ok := (fun _ => True)) (qS1 HO_3.1) hg hat)).2.1)))
                          replace HO_3 := za (qS79 HO_3.1); have HO729 := za ho; clear HO722; clear ho hb hg hat
                          refine hK.out _ _ trivial (fun hHeld => ?_)
                          clear hK K
                          refine norm_ (a' := ?_) ?_ ?_
                          rotate_left
                          ·as_aux_lemma =>
                           show Act.put _ (some 99) _ = _
                           simp only [Act.put, yf, yg, yh, i64_w, i32_w]
                           rfl
                          refine one_ (i := 9) (N := some 104) qSb1 rfl rfl (qS70) (by decide) (fun K hK => ?_)
                          refine zM k58 (w0 := w) w.heap.size (by rfl) (.tmp 99) (.tmp 103) 24 58 (.agg #[(.int .i64 0), (.int .i64 0), (.int .i64 0), (.int .i64 0), (.int .i64 0)]) 40 rfl Try.underlying24 info58 rfl (by decide) (by omega) v728 y727 y730 _ _ _ (fun k_ => some k_ ≠ (.slice Ao9 t700.length co9 : Value).ownBlock) (fun _ => False) rfl rfl ?aO ?aR (fun _ _ h => h) (fun _ h => h.elim) ?aF ?aB ?aS ?aL ?_
                          (case aR => exact (qS68 HR733.1))
                          (case aB => exact (qS0))
                          (case aF => exact (qS73 HO_3.1))
                          (case aO => exact (qS1 HO729.1))
                          (case aS => exact (qS82))
                          (case aL => have := LMc30.1; omega)
                          intro v735 w68 ho hb hg hat; rw [← Ny734.1] at ho; replace HO_4 := za (qS72 HO_4.1 HO729.1); replace HO_7 := za (qS72 HO_7.1 HO729.1); replace HB := za hb
                          replace HR726 := za (by exact (show Kd.C k58 w68 Ao9 y723.length y723 from by rw [Ny723.1]; exact Kd.C_take (m := ((rd t708 x13_2) : Int).toNat) ((zH (Kd.R_after (ok := (fun _ => True)) (qS1 HO_3.1) hg hat)).2.2) KL63.1))
                          replace HR733 := za (by exact (show Kd.C k58 w68 A64 y730.length y730 from by rw [Ny730.1, KA64.1]; exact Kd.C_drop (m := ((ji27) : Int).toNat) (c := co9) ((zH (Kd.R_after (ok := (fun _ => True)) (qS1 HO_3.1) hg hat)).2.2) KL64.1 ((zH (Kd.R_after (ok := (fun _ => True)) (qS1 HO_3.1) hg hat)).2.1)))
                          replace HO_3 := za (qS79 HO_3.1); have HO736 := za ho; clear HO729; clear ho hb hg hat
                          refine hK.out _ _ trivial (fun hHeld => ?_)
                          clear hK K
                          refine norm_ (a' := ?_) ?_ ?_
                          rotate_left
                          ·as_aux_lemma =>
                           show Act.put _ (some 104) _ = _
                           simp only [Act.put, yf, yg, yh, i64_w, i32_w]
                           rfl
                          refine pure_ (i := 10) (N := some 15) (v := ?_) (a' := ?_) qSb3 rfl rfl (qS24) (fun _ _ _ h => h) (zY ⟨by rfl, ?_⟩) ?_ ?_
                          rotate_left; exact qS16_c1; rotate_left; exact qS16_c0
                          refine done_ (qS88) ?_
                          try go_wp2
                          replace HO_3 := za (zO HO_3.1); replace HO_4 := za (zO HO_4.1); replace HO_7 := za (zO HO_7.1); replace HO736 := za (zO HO736.1); replace HR726 := za (zF HR726.1); replace HR733 := za (zF HR733.1); replace HB := za (below_drew1 HB.1); have q70 : ((rd t708 x13_2) : Int) ≤ ((t701.length : Int) : Int) := zb (qS8); obtain ⟨i070, hi070, _, hsz70, _⟩ := info_parts info3; have hroom70 : t701.length ≤ co10 := (zH HO_4.1).2.1; have hC70 : Kd.C (Kd.int .i64) _ Ao10 t701.length t701 := (zH HO_4.1).2.2; have hcut70 := cut_to (P := Try.prog) 25 3 .i64 Try.underlying25 hi070 Ao10 t701.length co10 (rd t708 x13_2) (zb (qS8)) q70 hroom70; have hr70 := Kd.C_take (m := ((rd t708 x13_2) : Int).toNat) hC70 (by omega); have hy70 : y740.length = ((rd t708 x13_2) : Int).toNat := (by rw [Ny740.1, List.length_take]; omega); rw [← Ny740.1] at hr70; rw [← hy70] at hcut70; have HR743 := za hr70
                          have HC743 := za (by exact show y740.length ≤ co10 from by omega)
                          clear hr70 hC70 hroom70 hi070 hsz70; have KY70 := za hy70; clear hy70
                          have KL70 := za (by exact show ((rd t708 x13_2) : Int).toNat ≤ t701.length from by omega)
                          replace q70 := zw q70; have q71 : ((ji27) : Int) ≤ ((t701.length : Int) : Int) := zb (qS8); obtain ⟨i071, hi071, _, hsz71, _⟩ := info_parts info3; have hroom71 : t701.length ≤ co10 := (zH HO_4.1).2.1; have hC71 : Kd.C (Kd.int .i64) _ Ao10 t701.length t701 := (zH HO_4.1).2.2; have q071 : (0 : Int) ≤ ((ji27) : Int) := zb (qS8); have hcut71 := cut_from (P := Try.prog) 25 3 .i64 Try.underlying25 hi071 1 hsz71 Ao10 t701.length co10 (ji27) q071 q71; have hr71 := Kd.C_drop (m := ((ji27) : Int).toNat) (c := co10) hC71 (by omega) hroom71; obtain ⟨A71, hA71⟩ : ∃ A1, A1 = (if co10 = ((ji27) : Int).toNat then Ao10 else (Ao10 : Option Addr).map (·.add (((ji27) : Int).toNat * 1))) := ⟨_, rfl⟩; obtain ⟨c71, hc71⟩ : ∃ c1, c1 = co10 - ((ji27) : Int).toNat := ⟨_, rfl⟩; have hy71 : y747.length = t701.length - ((ji27) : Int).toNat := (qS61 Ny747.1); rw [show (t701).drop ((ji27) : Int).toNat = y747 from Ny747.1.symm] at hr71; replace hr71 : Kd.C (Kd.int .i64) _ A71 y747.length y747 := (by rw [hA71]; exact hr71); rw [← hy71, ← hA71, ← hc71] at hcut71; have HR750 := za hr71
                          have HC750 := za (by exact show y747.length ≤ c71 from by rw [hy71, hc71]; exact Nat.sub_le_sub_right hroom71 _)
                          clear hr71 hC71 hroom71 hi071 hsz71 hc71; have KY71 := za hy71; have KA71 := za hA71; clear hy71 hA71
                          have KL71 := za (by exact show ((ji27) : Int).toNat ≤ t701.length from by omega)
                          replace q71 := zw q71
                          refine start_ (n := 11) (S := fun w' => True) (ds := []) qSb0 (qS27) rfl rfl trivial (fun hHeld => ?_); refine with_tabW laws_FnRescues.tab15 laws_FnRescues.bits15 (fun HT_ HW_ => ?_)
                          generalize w68.drew = w69 at HO_3 HO_4 HO_7 HO736 HR726 HR733 HB HR743 HR750 hHeld ⊢
                          refine pure_ (i := 1) (N := some 106) (v := ?_) (a' := ?_) qSb20 rfl rfl (qS24) (fun _ _ _ h => h) (zY ⟨by rfl, ?_⟩) ?_ ?_
                          rotate_left; exact qS16_c1; rotate_left; exact qS16_c0
                          refine pure_ (i := 2) (N := some 107) (v := ?_) (a' := ?_) qSb21 rfl rfl (qS24) (fun _ _ _ h => h) (zY ⟨by rfl, ?_⟩) ?_ ?_
                          rotate_left; exact qS16_c1; rotate_left; exact qS16_c0
                          refine pure_ (i := 3) (N := some 108) (v := ?_) (a' := ?_) qSb22 rfl rfl (qS24) (fun _ _ _ h => h) (zY ⟨by rfl, ?_⟩) ?_ ?_
                          rotate_left; exact qS16_c1; rotate_left; exact qS16_c0
                          refine pure_ (i := 5) (N := some 110) (v := ?_) (a' := ?_) qSb23 rfl rfl (qS24) (fun _ _ _ h => h) (zY ⟨by rfl, ?_⟩) ?_ ?_
                          rotate_left; exact qS16_c1; rotate_left; exact qS16_c0
                          refine pure_ (i := 6) (N := some 111) (v := ?_) (a' := ?_) qSb24 rfl rfl (qS24) (fun _ _ _ h => h) (zY ⟨by rfl, ?_⟩) ?_ ?_
                          rotate_left; exact qS16_c1; rotate_left; exact qS16_c0
                          refine pure_ (i := 7) (N := some 112) (v := ?_) (a' := ?_) qSb25 rfl rfl (qS24) (fun _ _ _ h => h) (zY ⟨by rfl, ?_⟩) ?_ ?_
                          rotate_left; exact qS16_c1; rotate_left; exact qS16_c0
                          refine pure_ (i := 8) (N := some 113) (v := ?_) (a' := ?_) qSb26 rfl rfl (qS24) (fun _ _ _ h => h) (zY ⟨by rfl, ?_⟩) ?_ ?_
                          rotate_left; exact qS16_c1; rotate_left; exact qS16_c0
                          refine one_ (i := 0) (N := some 105) qSb27 rfl rfl (qS70) (by decide) (fun K hK => ?_)
                          refine Kd.R_lit_step (Kd.int .i64) _ 3 ?hg (N := 105) ?hd (xs := ([] : List Int)) (inner := []) (ok := fun _ => True) (okp := fun _ => True) ?hr ?hp (fun _ hk => hk) trivial (zs _ _) (zo _) (by simp) ?_; (case hd | hg => rfl); (case hr => exact (qS26)); (case hp => exact (zu _ _))
                          intro v738 w72 ho73 hb hg_ hnew_; clear hg_ hnew_
                          (first | rw [← Ny737.1] at ho73 | (simp only [Int.reduceToNat] at ho73; rw [← Ny737.1] at ho73))
                          replace HO_3 := za (qS66 HO_3.1); replace HO736 := za (qS66 HO736.1); have HO739 := za (qS85 ho73 HO_4.1 HO_7.1); replace HO_4 := za (qS67 HO_4.1 ho73); replace HO_7 := za (qS67 HO_7.1 ho73); replace HR726 := za (zG (qS12 HR726.1) hb); replace HR733 := za (zG (qS12 HR733.1) hb); replace HR743 := za (zG (qS12 HR743.1) hb); replace HR750 := za (zG (qS12 HR750.1) hb); replace HB := za qS64; clear hb ho73
                          refine hK.out _ _ trivial (fun hHeld => ?_)
                          clear hK K
                          refine norm_ (a' := ?_) ?_ ?_
                          rotate_left
                          ·as_aux_lemma =>
                           show Act.put _ (some 105) _ = _
                           simp only [Act.put, yf, yg, yh, i64_w, i32_w]
                           rfl
                          refine one_ (i := 4) (N := some 109) qSb2 rfl rfl (qS70) (by decide) (fun K hK => ?_)
                          refine zM (Kd.int .i64) (w0 := w) w.heap.size (by rfl) (.tmp 105) (.tmp 108) 25 3 (.int .i64 0) 8 rfl Try.underlying25 info3 rfl (by decide) (by omega) v738 y737 y740 _ _ _ (fun k_ => some k_ ≠ (.slice Ao10 t701.length co10 : Value).ownBlock ∧ some k_ ≠ (.slice (some ad719) t708.length co61 : Value).ownBlock) (fun _ => False) rfl rfl ?aO ?aR (fun _ _ h => h) (fun _ h => h.elim) ?aF ?aB ?aS ?aL ?_
                          (case aR => exact (qS68 HR743.1))
                          (case aB => exact (qS0))
                          (case aF => exact (qS81 HO_4.1 HO_7.1))
                          (case aO => exact (qS31 HO739.1))
                          (case aS => exact (qS82))
                          (case aL => have := LMc33.1; omega)
                          intro v745 w74 ho hb hg hat; rw [← Ny744.1] at ho; replace HO_7 := za qS102; replace HO736 := za (qS72 HO736.1 HO739.1); replace HB := za hb
                          replace HR726 := za (by exact (show Kd.C k58 w74 Ao9 y723.length y723 from by rw [Ny723.1]; exact Kd.C_take (m := ((rd t708 x13_2) : Int).toNat) ((zH (Kd.R_over' (qS1 HO_3.1) (Kd.R_typed (qS1 HO739.1)) (by decide) hg)).2.2) KL63.1))
                          replace HR733 := za (by exact (show Kd.C k58 w74 A64 y730.length y730 from by rw [Ny730.1, KA64.1]; exact Kd.C_drop (m := ((ji27) : Int).toNat) (c := co9) ((zH (Kd.R_over' (qS1 HO_3.1) (Kd.R_typed (qS1 HO739.1)) (by decide) hg)).2.2) KL64.1 ((zH (Kd.R_over' (qS1 HO_3.1) (Kd.R_typed (qS1 HO739.1)) (by decide) hg)).2.1)))
                          replace HO_3 := za (qS72 HO_3.1 HO739.1)
                          replace HR743 := za (by exact (show Kd.C (Kd.int .i64) w74 Ao10 y740.length y740 from by rw [Ny740.1]; exact Kd.C_take (m := ((rd t708 x13_2) : Int).toNat) ((zH (Kd.R_after (ok := (fun k_ => some k_ ≠ (.slice (some ad719) t708.length co61 : Value).ownBlock)) (qS1 HO_4.1) hg hat)).2.2) KL70.1))
                          replace HR750 := za (by exact (show Kd.C (Kd.int .i64) w74 A71 y747.length y747 from by rw [Ny747.1, KA71.1]; exact Kd.C_drop (m := ((ji27) : Int).toNat) (c := co10) ((zH (Kd.R_after (ok := (fun k_ => some k_ ≠ (.slice (some ad719) t708.length co61 : Value).ownBlock)) (qS1 HO_4.1) hg hat)).2.2) KL71.1 ((zH (Kd.R_after (ok := (fun k_ => some k_ ≠ (.slice (some ad719) t708.length co61 : Value).ownBlock)) (qS1 HO_4.1) hg hat)).2.1)))
                          replace HO_4 := za qS100; have HO746 := za ho; clear HO739; clear ho hb hg hat
                          refine hK.out _ _ trivial (fun hHeld => ?_)
                          clear hK K
                          refine norm_ (a' := ?_) ?_ ?_
                          rotate_left
                          ·as_aux_lemma =>
                           show Act.put _ (some 109) _ = _
                           simp only [Act.put, yf, yg, yh, i64_w, i32_w]
                           rfl
                          refine one_ (i := 9) (N := some 114) qSb1 rfl rfl (qS70) (by decide) (fun K hK => ?_)
                          refine zM (Kd.int .i64) (w0 := w) w.heap.size (by rfl) (.tmp 109) (.tmp 113) 25 3 (.int .i64 0) 8 rfl Try.underlying25 info3 rfl (by decide) (by omega) v745 y744 y747 _ _ _ (fun k_ => some k_ ≠ (.slice Ao10 t701.length co10 : Value).ownBlock ∧ some k_ ≠ (.slice (some ad719) t708.length co61 : Value).ownBlock) (fun _ => False) rfl rfl ?aO ?aR (fun _ _ h => h) (fun _ h => h.elim) ?aF ?aB ?aS ?aL ?_
                          (case aR => exact (qS68 HR750.1))
                          (case aB => exact (qS0))
                          (case aF => exact (qS81 HO_4.1 HO_7.1))
                          (case aO => exact (qS1 HO746.1))
                          (case aS => exact (qS82))
                          (case aL => have := LMc36.1; omega)
                          intro v752 w75 ho hb hg hat; rw [← Ny751.1] at ho; replace HO_7 := za qS102; replace HO736 := za (qS72 HO736.1 HO746.1); replace HB := za hb
                          replace HR726 := za (by exact (show Kd.C k58 w75 Ao9 y723.length y723 from by rw [Ny723.1]; exact Kd.C_take (m := ((rd t708 x13_2) : Int).toNat) ((zH (Kd.R_over' (qS1 HO_3.1) (Kd.R_typed (qS1 HO746.1)) (by decide) hg)).2.2) KL63.1))
                          replace HR733 := za (by exact (show Kd.C k58 w75 A64 y730.length y730 from by rw [Ny730.1, KA64.1]; exact Kd.C_drop (m := ((ji27) : Int).toNat) (c := co9) ((zH (Kd.R_over' (qS1 HO_3.1) (Kd.R_typed (qS1 HO746.1)) (by decide) hg)).2.2) KL64.1 ((zH (Kd.R_over' (qS1 HO_3.1) (Kd.R_typed (qS1 HO746.1)) (by decide) hg)).2.1)))
                          replace HO_3 := za (qS72 HO_3.1 HO746.1)
                          replace HR743 := za (by exact (show Kd.C (Kd.int .i64) w75 Ao10 y740.length y740 from by rw [Ny740.1]; exact Kd.C_take (m := ((rd t708 x13_2) : Int).toNat) ((zH (Kd.R_after (ok := (fun k_ => some k_ ≠ (.slice (some ad719) t708.length co61 : Value).ownBlock)) (qS1 HO_4.1) hg hat)).2.2) KL70.1))
                          replace HR750 := za (by exact (show Kd.C (Kd.int .i64) w75 A71 y747.length y747 from by rw [Ny747.1, KA71.1]; exact Kd.C_drop (m := ((ji27) : Int).toNat) (c := co10) ((zH (Kd.R_after (ok := (fun k_ => some k_ ≠ (.slice (some ad719) t708.length co61 : Value).ownBlock)) (qS1 HO_4.1) hg hat)).2.2) KL71.1 ((zH (Kd.R_after (ok := (fun k_ => some k_ ≠ (.slice (some ad719) t708.length co61 : Value).ownBlock)) (qS1 HO_4.1) hg hat)).2.1)))
                          replace HO_4 := za qS100; have HO753 := za ho; clear HO746; clear ho hb hg hat
                          refine hK.out _ _ trivial (fun hHeld => ?_)
                          clear hK K
                          refine norm_ (a' := ?_) ?_ ?_
                          rotate_left
                          ·as_aux_lemma =>
                           show Act.put _ (some 114) _ = _
                           simp only [Act.put, yf, yg, yh, i64_w, i32_w]
                           rfl
                          refine pure_ (i := 10) (N := some 16) (v := ?_) (a' := ?_) qSb3 rfl rfl (qS24) (fun _ _ _ h => h) (zY ⟨by rfl, ?_⟩) ?_ ?_
                          rotate_left; exact qS16_c1; rotate_left; exact qS16_c0
                          refine done_ (qS88) ?_
                          obtain ⟨Ao76, co76, eo76⟩ := zI HO736.1; subst eo76; obtain ⟨Ao77, co77, eo77⟩ := zI HO753.1; subst eo77
                          try go_wp2_with (first | ((with_reducible refine zp (f := 12) rfl ?_); refine zV (some 120) rfl rfl Try.func12 (qS27) rfl #[.slice Ao76 y734.length co76, .slice Ao77 y751.length co77, .int .i64 t702, .int .i64 t703] rfl (qS2) ?_; (with_reducible refine (impl_GreatestWidth.calls k2 _ _ y734 _ _ y751 t702 t703 t754 true _ ?s1 ?s2 ?s3 ?s4 A37.1).mono ?_); (case s1 => exact (qS7 HO736.1)); (case s2 => exact (qS38 HO736.1)); (case s3 => exact (qS7 HO753.1)); (case s4 => exact (qS38 HO753.1)); rintro e w78 ⟨rfl, hb⟩; refine ⟨_, rfl, ?_⟩; replace HO_3 := za (qS66 HO_3.1); replace HO_4 := za (qS66 HO_4.1); replace HO_7 := za (qS66 HO_7.1); replace HO736 := za (qS66 HO736.1); replace HO753 := za (qS66 HO753.1); replace HR726 := za (zG (qS12 HR726.1) hb); replace HR733 := za (zG (qS12 HR733.1) hb); replace HR743 := za (zG (qS12 HR743.1) hb); replace HR750 := za (zG (qS12 HR750.1) hb); replace HB := za qS64; clear hb; have p756 : 0 ≤ ((rd t708 x13_2) : Int) := zb (qS8); have q756 : (rd t708 x13_2) < (t701.length : Int) := zb (qS8); obtain ⟨ad756, e756, hx756_0⟩ := zJ (zH HO_4.1).2.2 (rd t708 x13_2) p756 q756; cases e756; replace p756 := zw p756; replace q756 := zw q756))
                          go_roundg k2
                          case measure => have := HJ6.1; have := HK2.1; omega
                          case rel => exact ⟨(wrap64 (x13_2 + 1)), (qS16), H', ⟨by have := HJ6.1; have := HK2.1; omega⟩, ⟨(qS32 HO_3.1)⟩, ⟨(qS57 HO_4.1)⟩, ⟨(qS57 HO_7.1)⟩, ⟨(qS0)⟩⟩
                        ·as_aux_lemma =>
                         replace c41 := zn c41; subst c41; rw [yc (show ¬ (false = true) by decide)] at H
                         exact absurd (HT.1.symm.trans (zm H).symm) (by decide)
                       ·as_aux_lemma =>
                        rw [yc c40] at H; have c40b0 : ((rd t701 (rd t708 x13_2)) == t717) = false := zx c40; have c40b1 : ((rd t701 (rd t708 x13_2)) != t717) = true := zU c40
                        exact absurd (HT.1.symm.trans (zm H).symm) (by decide)
                      ·as_aux_lemma =>
                       rw [yc c39] at H
                       exact absurd H (by simp)
                     ·as_aux_lemma =>
                      replace c38 := zn c38; subst c38; rw [yc (show ¬ (false = true) by decide)] at H
                      exact absurd (HT.1.symm.trans (zm H).symm) (by decide)
                    ·as_aux_lemma =>
                     rw [yc c36] at H
                     exact absurd H (by simp)
                   ·as_aux_lemma =>
                    rw [yc c35] at H
                    exact absurd H (by simp)
                  ·as_aux_lemma =>
                   rw [yc c33] at H
                   exact absurd H (by simp)
                 ·as_aux_lemma =>
                  rw [yc c32] at H
                  exact absurd H (by simp)
                ·as_aux_lemma =>
                 rw [yc c30] at H
                 exact absurd H (by simp)
               ·as_aux_lemma =>
                rw [yc c29] at H
                exact absurd H (by simp)
              ·as_aux_lemma =>
               rw [yc c28] at H
               exact absurd H (by simp)
             ·as_aux_lemma =>
              rw [yc c26] at H
              exact absurd H (by simp)
            ·as_aux_lemma =>
             rw [yc c25] at H
             exact absurd H (by simp)
           ·as_aux_lemma =>
            rw [yc c24] at H
            exact absurd H (by simp)
          ·as_aux_lemma =>
           rw [yc c23] at H
           exact absurd H (by simp)
         ·as_aux_lemma =>
          rw [yc c22] at H; have c22b0 : decide (x13_2 < (t708.length : Int)) = false := zv c22; clear c22
          (first | rw [c22b0] | (simp only [i64_w, i32_w]; rw [c22b0]) | skip)
          have H' := za H; clear H; obtain ⟨Ao133, co133, eo133⟩ := zI HO_7.1; subst eo133
          go_wp2
          go_meet
          case rel => exact ⟨_, H', ⟨by have := HJ6.1; have := HK2.1; first | omega | exact zo _⟩, ⟨(qS0)⟩⟩
      ·as_aux_lemma =>
       replace c19 := zn c19; subst c19; rw [yc (show ¬ (false = true) by decide)] at H; have H' := za H; clear H
       go_wp2
       go_meet
       case rel => exact ⟨_, H', ⟨by have := HJ6.1; first | omega | exact zo _⟩, ⟨(qS0)⟩⟩
     case rest =>
      clear HC18; (try clear c1); (try clear q1); (try clear c2); (try clear p2); (try clear c3); (try clear p7); (try clear q7); (try clear hx7); (try clear c11); (try clear q11); (try clear c12); (try clear q12); (try clear c19); (try clear c22); (try clear c22b0); (try clear c23); (try clear c24); (try clear c25); (try clear c26); (try clear c28); (try clear c29); (try clear c30); (try clear c32); (try clear c33); (try clear c35); (try clear c36); (try clear c38); (try clear c39); (try clear p71); (try clear q71); (try clear hx71); (try clear p75); (try clear q75); (try clear hx75); (try clear q117); (try clear c118); (try clear q118); (try clear q124); (try clear c125); (try clear q125); (try clear hx719_0); (try clear hx756_0); (try clear p719); (try clear p756); (try clear q0118); (try clear q0125); (try clear q117); (try clear q118); (try clear q124); (try clear q125); (try clear q719); (try clear q756); obtain ⟨kq, HA, HJ17, HB⟩ := hcut
      cases kq with
      | zero => exact absurd HA.1 (by simp [laws_FnRescues.j2])
      | succ kj17 =>
       have H := HA.1; clear HA; simp only [laws_FnRescues.j2] at H; replace H := bindA H; obtain ⟨⟨t757, t758, t759, t760⟩, A134, H⟩ := H; (try dsimp only at H); replace H := bindA H; obtain ⟨⟨t767, t768⟩, A135, H⟩ := H; (try dsimp only at H); replace H := bindA H; obtain ⟨⟨t771, t772⟩, A136, H⟩ := H; (try dsimp only at H); have HC137 := za H; clear H
       go_upto_region 22 with (first | ((with_reducible refine zp (f := 22) rfl ?_); refine zV (some 144) rfl rfl Try.func22 (qS27) rfl #[.slice A0 l0.length c0] rfl (qS2) ?_; (with_reducible refine (spec_DrawRescueOrder.calls kj17 _ _ l0 t757 t758 t759 t760 _ ?s1 ?s2 A134.1).mono ?_); (case s1 => exact (qS13 HR0.1)); (case s2 => exact HC0.1); rintro e w138 ⟨v761, v763, v765, rfl, ho0, ho1, ho2, hb⟩; refine ⟨_, rfl, ?_⟩; have HO762 := za (qS77 ho0); have HO764 := za (qS77 ho1); have HO766 := za (qS77 ho2); replace HB := za qS64; clear hb ho0 ho1; obtain ⟨Ao139, co139, eo139⟩ := zI HO762.1; subst eo139; obtain ⟨Ao140, co140, eo140⟩ := zI HO764.1; subst eo140; obtain ⟨Ao141, co141, eo141⟩ := zI HO766.1; subst eo141) | ((with_reducible refine zp (f := 23) rfl ?_); refine zV (some 154) rfl rfl Try.func23 (qS27) rfl #[.slice Ao139 t757.length co139, .slice Ao140 t758.length co140, .int .i64 t759, .slice Ao141 t760.length co141] rfl (qS2) ?_; (with_reducible refine (impl_RescueOrder.calls kj17 _ _ t757 _ _ t758 t759 _ _ t760 t767 t768 _ ?s1 ?s2 ?s3 ?s4 ?s5 ?s6 A135.1).mono ?_); (case s1 => exact (qS7 HO762.1)); (case s2 => exact (qS38 HO762.1)); (case s3 => exact (qS7 HO764.1)); (case s4 => exact (qS38 HO764.1)); (case s5 => exact (qS7 HO766.1)); (case s6 => exact (qS38 HO766.1)); rintro e w142 ⟨v769, rfl, ho0, hb⟩; refine ⟨_, rfl, ?_⟩; replace HO762 := za (qS66 HO762.1); have HO770 := za (qS85 ho0 HO764.1 HO766.1); replace HO764 := za (qS67 HO764.1 ho0); replace HO766 := za (qS67 HO766.1 ho0); replace HB := za qS64; clear hb ho0) | ((with_reducible refine zp (f := 24) rfl ?_); refine zV (some 162) rfl rfl Try.func24 (qS27) rfl #[.slice Ao139 t757.length co139, .slice Ao140 t758.length co140, .int .i64 t759, .slice Ao141 t760.length co141] rfl (qS2) ?_; (with_reducible refine (spec_RescueOrder.calls kj17 _ _ t757 _ _ t758 t759 _ _ t760 t771 t772 _ ?s1 ?s2 ?s3 ?s4 ?s5 ?s6 A136.1).mono ?_); (case s1 => exact (qS7 HO762.1)); (case s2 => exact (qS38 HO762.1)); (case s3 => exact (qS7 HO764.1)); (case s4 => exact (qS38 HO764.1)); (case s5 => exact (qS7 HO766.1)); (case s6 => exact (qS38 HO766.1)); rintro e w143 ⟨v773, rfl, ho0, hb⟩; refine ⟨_, rfl, ?_⟩; replace HO762 := za (qS66 HO762.1); have HO774 := za (by exact zP (Kd.R_new' (Kd.R_new' (Kd.R_new' ho0 (Kd.R_lt (qS1 HO764.1))) (Kd.R_lt (qS1 HO766.1))) (Kd.R_lt (qS1 HO770.1))) (zX (qS0))); replace HO764 := za (qS67 HO764.1 ho0); replace HO766 := za (qS67 HO766.1 ho0); replace HO770 := za (qS67 HO770.1 ho0); replace HB := za qS64; clear hb ho0))
       (try simp only [Act.put, yf, yg, yh])
       go_cut [179] (fun v179 wc => ∃ (kq : Nat) (x179_136 : Bool), v179 = .bool x179_136 ∧ Aside0 (laws_FnRescues.j3 kq l0 t757 t758 t759 t767 x179_136 = some r) ∧ Aside0 (kq ≤ kj17) ∧ Aside0 (Kd.R k58 58 wc w.heap.size (fun _ => True) (.slice Ao139 t757.length co139) t757) ∧ Aside0 (Kd.R (Kd.int .i64) 3 wc w.heap.size (fun k_ => some k_ ≠ (v769 : Value).ownBlock) (.slice Ao140 t758.length co140) t758) ∧ Aside0 (Kd.R (Kd.int .i64) 3 wc w.heap.size (fun k_ => some k_ ≠ ((.slice Ao140 t758.length co140) : Value).ownBlock) v769 t767) ∧ Aside0 (Below w.heap.size w wc))
       case first =>
        have H := HC137.1; clear HC137
        by_cases c144 : (t768 != t772) = true
        ·as_aux_lemma =>
         rw [yb c144] at H; have c144b0 : (t768 != t772) = true := c144
         (try (have c144b1 : decide (t768 = t772) = false := by simpa using c144))
         (try (have c144b2 : (t768 == t772) = false := by simpa using c144))
         (try (have c144b3 : ¬ (t768 = t772) := by simpa using c144)); clear c144
         (first | rw [c144b0] | (simp only [i64_w, i32_w]; rw [c144b0]) | skip)
         have H' := za H; clear H
         go_wp2
         go_meet
         case rel => exact ⟨_, (true), (qS16), H', ⟨by have := HJ6.1; have := HJ17.1; first | omega | exact zo _⟩, ⟨(qS1 HO762.1)⟩, ⟨(qS39 HO764.1)⟩, ⟨(qS55)⟩, ⟨(qS0)⟩⟩
        ·as_aux_lemma =>
         rw [yc c144] at H
         have c144b0 : (t768 != t772) = false := by simpa using c144
         (try (have c144b1 : decide (t768 = t772) = true := by simpa using c144))
         (try (have c144b2 : (t768 == t772) = true := by simpa using c144)); clear c144
         (first | rw [c144b0] | (simp only [i64_w, i32_w]; rw [c144b0]) | skip)
         replace H := bindA H; obtain ⟨t775, A145, H⟩ := H; (try dsimp only at H)
         by_cases c146 : t775 = true
         ·as_aux_lemma =>
          subst c146; rw [yb rfl] at H; replace H := bindA H; obtain ⟨t776, A147, H⟩ := H; (try dsimp only at H); have H' := za H; clear H; obtain ⟨Ao148, co148, eo148⟩ := zI HO770.1; subst eo148; obtain ⟨Ao149, co149, eo149⟩ := zI HO774.1; subst eo149
          go_wp2_with (first | (go_at_call 9; (with_reducible refine (laws_vInts.calls kj17 _ _ t767 _ _ t771 true _ ?s1 ?s2 ?s3 ?s4 A145.1).mono ?_); (case s1 => exact (qS7 HO770.1)); (case s2 => exact (qS38 HO770.1)); (case s3 => exact (qS7 HO774.1)); (case s4 => exact (qS38 HO774.1)); rintro e w' ⟨rfl, ⟨nd, rfl⟩⟩) | (go_at_call 25; (with_reducible refine (laws_vWithin.calls kj17 _ _ t767 _ _ t760 t776 _ ?s1 ?s2 ?s3 ?s4 A147.1).mono ?_); (case s1 => exact (qS7 HO770.1)); (case s2 => exact (qS38 HO770.1)); (case s3 => exact (qS7 HO766.1)); (case s4 => exact (qS38 HO766.1)); rintro e w' ⟨rfl, ⟨nd, rfl⟩⟩))
          go_meet
          case rel => exact ⟨_, (!t776), (qS16), H', ⟨by have := HJ6.1; have := HJ17.1; first | omega | exact zo _⟩, ⟨(qS1 HO762.1)⟩, ⟨(qS39 HO764.1)⟩, ⟨(qS55)⟩, ⟨(qS0)⟩⟩
         ·as_aux_lemma =>
          replace c146 := zn c146; subst c146; rw [yc (show ¬ (false = true) by decide)] at H; have H' := za H; clear H; obtain ⟨Ao150, co150, eo150⟩ := zI HO770.1; subst eo150; obtain ⟨Ao151, co151, eo151⟩ := zI HO774.1; subst eo151
          go_wp2_with (first | (go_at_call 9; (with_reducible refine (laws_vInts.calls kj17 _ _ t767 _ _ t771 false _ ?s1 ?s2 ?s3 ?s4 A145.1).mono ?_); (case s1 => exact (qS7 HO770.1)); (case s2 => exact (qS38 HO770.1)); (case s3 => exact (qS7 HO774.1)); (case s4 => exact (qS38 HO774.1)); rintro e w' ⟨rfl, ⟨nd, rfl⟩⟩))
          go_meet
          case rel => exact ⟨_, (true), (qS16), H', ⟨by have := HJ6.1; have := HJ17.1; first | omega | exact zo _⟩, ⟨(qS1 HO762.1)⟩, ⟨(qS39 HO764.1)⟩, ⟨(qS55)⟩, ⟨(qS0)⟩⟩
       case rest =>
        clear HC137; (try clear c1); (try clear q1); (try clear c2); (try clear p2); (try clear c3); (try clear p7); (try clear q7); (try clear hx7); (try clear c11); (try clear q11); (try clear c12); (try clear q12); (try clear c14); (try clear c19); (try clear c22); (try clear c22b0); (try clear c23); (try clear c24); (try clear c25); (try clear c26); (try clear c28); (try clear c29); (try clear c30); (try clear c32); (try clear c33); (try clear c35); (try clear c36); (try clear c38); (try clear c39); (try clear p71); (try clear q71); (try clear hx71); (try clear p75); (try clear q75); (try clear hx75); (try clear q117); (try clear c118); (try clear q118); (try clear q124); (try clear c125); (try clear q125); (try clear c144); (try clear c144b0); (try clear c144b1); (try clear c144b2); (try clear c146); (try clear hx719_0); (try clear hx756_0); (try clear p2); (try clear p7); (try clear p71); (try clear p719); (try clear p75); (try clear p756); (try clear q0118); (try clear q0125); (try clear q1); (try clear q11); (try clear q117); (try clear q118); (try clear q12); (try clear q124); (try clear q125); (try clear q7); (try clear q71); (try clear q719); (try clear q75); (try clear q756); obtain ⟨kq, x179_136, rfl, HA, HJ136, HO_19, HO_20, HO_23, HB⟩ := hcut
        cases kq with
        | zero => exact absurd HA.1 (by simp [laws_FnRescues.j3])
        | succ kj136 =>
         have H := HA.1; clear HA; simp only [laws_FnRescues.j3] at H
         by_cases c152 : x179_136 = true
         ·as_aux_lemma =>
          subst c152; rw [yb rfl] at H
          exact absurd (HT.1.symm.trans (zm H).symm) (by decide)
         ·as_aux_lemma =>
          replace c152 := zn c152; subst c152; rw [yc (show ¬ (false = true) by decide)] at H; have H' := za H; clear H
          go_wp2
          go_loopg [27, 28] kj136 (fun kq v27 v28 w' => ∃ (x27_4 : Int) (x28_4 : Int), v27 = .int .i64 x27_4 ∧ v28 = .int .i64 x28_4 ∧ Aside0 (laws_FnRescues.l1 kq l0 t757 t758 t759 t767 x27_4 x28_4 = some r) ∧ Aside0 (kq ≤ kj136) ∧ Aside0 (Kd.R k58 58 w' w.heap.size (fun _ => True) (.slice Ao139 t757.length co139) t757) ∧ Aside0 (Kd.R (Kd.int .i64) 3 w' w.heap.size (fun k_ => some k_ ≠ (v769 : Value).ownBlock) (.slice Ao140 t758.length co140) t758) ∧ Aside0 (Kd.R (Kd.int .i64) 3 w' w.heap.size (fun k_ => some k_ ≠ ((.slice Ao140 t758.length co140) : Value).ownBlock) v769 t767) ∧ Aside0 (Below w.heap.size w w'))
          case atStart => exact ⟨(200), (0), (qS16), (qS16), H', ⟨zo _⟩, ⟨(qS1 HO_19.1)⟩, ⟨(qS1 HO_20.1)⟩, ⟨(qS1 HO_23.1)⟩, ⟨(qS0)⟩⟩
          case round =>
           clear H'; (try clear c1); (try clear q1); (try clear c2); (try clear p2); (try clear c3); (try clear p7); (try clear q7); (try clear hx7); (try clear c11); (try clear q11); (try clear c12); (try clear q12); (try clear c14); (try clear c15); (try clear c19); (try clear c22); (try clear c22b0); (try clear c23); (try clear c24); (try clear c25); (try clear c26); (try clear c28); (try clear c29); (try clear c30); (try clear c32); (try clear c33); (try clear c35); (try clear c36); (try clear c38); (try clear c39); (try clear p71); (try clear q71); (try clear hx71); (try clear p75); (try clear q75); (try clear hx75); (try clear q117); (try clear c118); (try clear q118); (try clear q124); (try clear c125); (try clear q125); (try clear c144); (try clear c144b0); (try clear c144b1); (try clear c144b2); (try clear c146); (try clear c152); (try clear hx719_0); (try clear hx756_0); (try clear p2); (try clear p7); (try clear p71); (try clear p719); (try clear p75); (try clear p756); (try clear q0118); (try clear q0125); (try clear q1); (try clear q11); (try clear q117); (try clear q118); (try clear q12); (try clear q124); (try clear q125); (try clear q7); (try clear q71); (try clear q719); (try clear q75); (try clear q756); obtain ⟨x27_4, x28_4, rfl, rfl, HA, HK4, HO_19, HO_20, HO_23, HB⟩ := hrel
           cases gk with
           | zero => exact absurd HA.1 (by simp [laws_FnRescues.l1])
           | succ k4 =>
            have H := HA.1; clear HA; simp only [laws_FnRescues.l1] at H
            by_cases c153 : x28_4 < (t767.length : Int)
            ·as_aux_lemma =>
             rw [yb c153] at H; have c153b0 : decide (x28_4 < (t767.length : Int)) = true := zc c153; clear c153
             by_cases c154 : 0 ≤ x28_4
             ·as_aux_lemma =>
              rw [yb c154] at H; have c154b0 : decide (0 ≤ x28_4) = true := zc c154; clear c154; replace H := bindA H; obtain ⟨⟨t778, t779⟩, A155, H⟩ := H; (try dsimp only at H)
              by_cases c156 : t779 = true
              ·as_aux_lemma =>
               subst c156; rw [yb rfl] at H
               by_cases c157 : t778 < 0
               ·as_aux_lemma =>
                rw [yb c157] at H; have c157b0 : decide (t778 < 0) = true := zc c157; clear c157
                exact absurd (HT.1.symm.trans (zm H).symm) (by decide)
               ·as_aux_lemma =>
                rw [yc c157] at H; have c157b0 : decide (t778 < 0) = false := zv c157; clear c157
                by_cases c160 : t778 > x27_4
                ·as_aux_lemma =>
                 rw [yb c160] at H; have c160b0 : decide (x27_4 < t778) = true := zc c160; clear c160
                 exact absurd (HT.1.symm.trans (zm H).symm) (by decide)
                ·as_aux_lemma =>
                 rw [yc c160] at H; have c160b0 : decide (x27_4 < t778) = false := zv c160; clear c160; have H' := za H; clear H; obtain ⟨Ao163, co163, eo163⟩ := zI HO_23.1; subst eo163; have p777 : 0 ≤ (x28_4 : Int) := zb (qS8); have q777 : x28_4 < (t767.length : Int) := zb (qS8); obtain ⟨ad777, e777, hx777_0⟩ := zJ (zH HO_23.1).2.2 x28_4 p777 q777; cases e777; replace p777 := zw p777; replace q777 := zw q777
                 go_wp2_with (first | ((with_reducible refine zp (f := 12) rfl ?_); refine zV (some 194) rfl rfl Try.func12 (qS27) rfl #[.slice Ao139 t757.length co139, .slice Ao140 t758.length co140, .int .i64 t759, .int .i64 (rd t767 x28_4)] rfl (qS2) ?_; (with_reducible refine (impl_GreatestWidth.calls k4 _ _ t757 _ _ t758 t759 (rd t767 x28_4) t778 true _ ?s1 ?s2 ?s3 ?s4 A155.1).mono ?_); (case s1 => exact (qS7 HO_19.1)); (case s2 => exact (qS38 HO_19.1)); (case s3 => exact (qS7 HO_20.1)); (case s4 => exact (qS38 HO_20.1)); rintro e w164 ⟨rfl, hb⟩; refine ⟨_, rfl, ?_⟩; replace HO_19 := za (qS66 HO_19.1); replace HO_20 := za (qS66 HO_20.1); replace HO_23 := za (qS66 HO_23.1); replace HB := za qS64; clear hb))
                 go_roundg k4
                 case measure => have := HJ6.1; have := HJ17.1; have := HJ136.1; have := HK4.1; omega
                 case rel => exact ⟨(t778), (wrap64 (x28_4 + 1)), (qS16), (qS16), H', ⟨by have := HJ6.1; have := HJ17.1; have := HJ136.1; have := HK4.1; omega⟩, ⟨(qS1 HO_19.1)⟩, ⟨(qS1 HO_20.1)⟩, ⟨(qS1 HO_23.1)⟩, ⟨(qS0)⟩⟩
              ·as_aux_lemma =>
               replace c156 := zn c156; subst c156; rw [yc (show ¬ (false = true) by decide)] at H
               exact absurd (HT.1.symm.trans (zm H).symm) (by decide)
             ·as_aux_lemma =>
              rw [yc c154] at H
              exact absurd H (by simp)
            ·as_aux_lemma =>
             rw [yc c153] at H; have c153b0 : decide (x28_4 < (t767.length : Int)) = false := zv c153; clear c153; replace H := bindA H; obtain ⟨⟨t780, t781, t782, t783⟩, A167, H⟩ := H; (try dsimp only at H); replace H := bindA H; obtain ⟨⟨t788, t789⟩, A168, H⟩ := H; (try dsimp only at H); replace H := bindA H; obtain ⟨⟨t792, t793⟩, A169, H⟩ := H; (try dsimp only at H); have HC170 := za H; clear H; obtain ⟨Ao171, co171, eo171⟩ := zI HO_23.1; subst eo171
             go_upto_region 35 with (first | ((with_reducible refine zp (f := 26) rfl ?_); refine zV (some 211) rfl rfl Try.func26 (qS27) rfl #[.slice A0 l0.length c0] rfl (qS2) ?_; (with_reducible refine (spec_DrawStationsFor.calls k4 _ _ l0 t780 t781 t782 t783 _ ?s1 ?s2 A167.1).mono ?_); (case s1 => exact (qS13 HR0.1)); (case s2 => exact HC0.1); rintro e w172 ⟨v784, v786, rfl, ho0, ho1, hb⟩; refine ⟨_, rfl, ?_⟩; have HO785 := za (qS75 ho0 HO_19.1); replace HO_19 := za (qS67 HO_19.1 ho0); have HO787 := za (qS85 ho1 HO_20.1 HO_23.1); replace HO_20 := za (qS67 HO_20.1 ho1); replace HO_23 := za (qS67 HO_23.1 ho1); replace HB := za qS64; clear hb ho0 ho1; obtain ⟨Ao173, co173, eo173⟩ := zI HO785.1; subst eo173; obtain ⟨Ao174, co174, eo174⟩ := zI HO787.1; subst eo174) | ((with_reducible refine zp (f := 27) rfl ?_); refine zV (some 221) rfl rfl Try.func27 (qS27) rfl #[.slice Ao173 t780.length co173, .slice Ao174 t781.length co174, .int .i64 t782, .int .i64 t783] rfl (qS2) ?_; (with_reducible refine (impl_StationsFor.calls k4 _ _ t780 _ _ t781 t782 t783 t788 t789 _ ?s1 ?s2 ?s3 ?s4 A168.1).mono ?_); (case s1 => exact (qS7 HO785.1)); (case s2 => exact (qS38 HO785.1)); (case s3 => exact (qS7 HO787.1)); (case s4 => exact (qS38 HO787.1)); rintro e w175 ⟨v790, rfl, ho0, hb⟩; refine ⟨_, rfl, ?_⟩; replace HO_19 := za (qS66 HO_19.1); replace HO785 := za (qS66 HO785.1); have HO791 := za (by exact zP (Kd.R_new' (Kd.R_new' (Kd.R_new' ho0 (Kd.R_lt (qS1 HO_20.1))) (Kd.R_lt (qS1 HO_23.1))) (Kd.R_lt (qS1 HO787.1))) (zX (qS0))); replace HO_20 := za (qS67 HO_20.1 ho0); replace HO_23 := za (qS67 HO_23.1 ho0); replace HO787 := za (qS67 HO787.1 ho0); replace HB := za qS64; clear hb ho0) | ((with_reducible refine zp (f := 28) rfl ?_); refine zV (some 229) rfl rfl Try.func28 (qS27) rfl #[.slice Ao173 t780.length co173, .slice Ao174 t781.length co174, .int .i64 t782, .int .i64 t783] rfl (qS2) ?_; (with_reducible refine (spec_StationsFor.calls k4 _ _ t780 _ _ t781 t782 t783 t792 t793 _ ?s1 ?s2 ?s3 ?s4 A169.1).mono ?_); (case s1 => exact (qS7 HO785.1)); (case s2 => exact (qS38 HO785.1)); (case s3 => exact (qS7 HO787.1)); (case s4 => exact (qS38 HO787.1)); rintro e w176 ⟨v794, rfl, ho0, hb⟩; refine ⟨_, rfl, ?_⟩; replace HO_19 := za (qS66 HO_19.1); replace HO785 := za (qS66 HO785.1); have HO795 := za (by exact zP (Kd.R_new' (Kd.R_new' (Kd.R_new' (Kd.R_new' ho0 (Kd.R_lt (qS1 HO_20.1))) (Kd.R_lt (qS1 HO_23.1))) (Kd.R_lt (qS1 HO787.1))) (Kd.R_lt (qS1 HO791.1))) (zX (qS0))); replace HO_20 := za (qS67 HO_20.1 ho0); replace HO_23 := za (qS67 HO_23.1 ho0); replace HO787 := za (qS67 HO787.1 ho0); replace HO791 := za (qS67 HO791.1 ho0); replace HB := za qS64; clear hb ho0))
             (try simp only [Act.put, yf, yg, yh])
             go_cut [240] (fun v240 wc => ∃ (kq : Nat) (x240_169 : Bool), v240 = .bool x240_169 ∧ Aside0 (laws_FnRescues.j5 kq t780 t781 t782 t783 t788 t789 x240_169 = some r) ∧ Aside0 (kq ≤ k4) ∧ Aside0 (Kd.R k58 58 wc w.heap.size (fun _ => True) (.slice Ao173 t780.length co173) t780) ∧ Aside0 (Kd.R (Kd.int .i64) 3 wc w.heap.size (fun k_ => some k_ ≠ (v790 : Value).ownBlock) (.slice Ao174 t781.length co174) t781) ∧ Aside0 (Kd.R (Kd.int .i64) 3 wc w.heap.size (fun k_ => some k_ ≠ ((.slice Ao174 t781.length co174) : Value).ownBlock) v790 t788) ∧ Aside0 (Below w.heap.size w wc))
             case first =>
              have H := HC170.1; clear HC170
              by_cases c177 : (t789 != t793) = true
              ·as_aux_lemma =>
               rw [yb c177] at H; have c177b0 : (t789 != t793) = true := c177
               (try (have c177b1 : decide (t789 = t793) = false := by simpa using c177))
               (try (have c177b2 : (t789 == t793) = false := by simpa using c177))
               (try (have c177b3 : ¬ (t789 = t793) := by simpa using c177)); clear c177
               (first | rw [c177b0] | (simp only [i64_w, i32_w]; rw [c177b0]) | skip)
               have H' := za H; clear H
               go_wp2
               go_meet
               case rel => exact ⟨_, (true), (qS16), H', ⟨by have := HJ6.1; have := HJ17.1; have := HJ136.1; have := HK4.1; first | omega | exact zo _⟩, ⟨(qS32 HO785.1)⟩, ⟨(qS39 HO787.1)⟩, ⟨(qS39 HO791.1)⟩, ⟨(qS0)⟩⟩
              ·as_aux_lemma =>
               rw [yc c177] at H
               have c177b0 : (t789 != t793) = false := by simpa using c177
               (try (have c177b1 : decide (t789 = t793) = true := by simpa using c177))
               (try (have c177b2 : (t789 == t793) = true := by simpa using c177)); clear c177
               (first | rw [c177b0] | (simp only [i64_w, i32_w]; rw [c177b0]) | skip)
               replace H := bindA H; obtain ⟨t796, A178, H⟩ := H; (try dsimp only at H); have H' := za H; clear H; obtain ⟨Ao179, co179, eo179⟩ := zI HO791.1; subst eo179; obtain ⟨Ao180, co180, eo180⟩ := zI HO795.1; subst eo180
               go_wp2_with (first | (go_at_call 9; (with_reducible refine (laws_vInts.calls k4 _ _ t788 _ _ t792 t796 _ ?s1 ?s2 ?s3 ?s4 A178.1).mono ?_); (case s1 => exact (qS7 HO791.1)); (case s2 => exact (qS38 HO791.1)); (case s3 => exact (qS7 HO795.1)); (case s4 => exact (qS38 HO795.1)); rintro e w' ⟨rfl, ⟨nd, rfl⟩⟩))
               go_meet
               case rel => exact ⟨_, (!t796), (qS16), H', ⟨by have := HJ6.1; have := HJ17.1; have := HJ136.1; have := HK4.1; first | omega | exact zo _⟩, ⟨(qS32 HO785.1)⟩, ⟨(qS39 HO787.1)⟩, ⟨(qS39 HO791.1)⟩, ⟨(qS0)⟩⟩
             case rest =>
              clear HC170; (try clear c1); (try clear q1); (try clear c2); (try clear p2); (try clear c3); (try clear p6); (try clear p7); (try clear q7); (try clear hx7); (try clear c11); (try clear q11); (try clear c12); (try clear q12); (try clear c14); (try clear c15); (try clear c16); (try clear c17); (try clear c19); (try clear c22); (try clear c22b0); (try clear c23); (try clear c24); (try clear c25); (try clear c26); (try clear c27); (try clear c28); (try clear c29); (try clear c30); (try clear c32); (try clear c33); (try clear c35); (try clear c36); (try clear c38); (try clear c39); (try clear p64); (try clear p71); (try clear q71); (try clear hx71); (try clear p75); (try clear q75); (try clear hx75); (try clear p77); (try clear q77); (try clear hx77); (try clear q117); (try clear c118); (try clear q118); (try clear q124); (try clear c125); (try clear q125); (try clear c144); (try clear c144b0); (try clear c144b1); (try clear c144b2); (try clear c146); (try clear c152); (try clear c153); (try clear c153b0); (try clear c154); (try clear c154b0); (try clear c156); (try clear c157); (try clear c157b0); (try clear c160); (try clear c160b0); (try clear c177); (try clear c177b0); (try clear c177b1); (try clear c177b2); (try clear hx719_0); (try clear hx756_0); (try clear hx777_0); (try clear p2); (try clear p7); (try clear p71); (try clear p719); (try clear p75); (try clear p756); (try clear p777); (try clear q0118); (try clear q0125); (try clear q1); (try clear q11); (try clear q117)
              (try clear q118); (try clear q12); (try clear q124); (try clear q125); (try clear q7); (try clear q71); (try clear q719); (try clear q75); (try clear q756); (try clear q777); obtain ⟨kq, x240_169, rfl, HA, HJ169, HO_31, HO_32, HO_35, HB⟩ := hcut
              cases kq with
              | zero => exact absurd HA.1 (by simp [laws_FnRescues.j5])
              | succ kj169 =>
               have H := HA.1; clear HA; simp only [laws_FnRescues.j5] at H
               by_cases c181 : x240_169 = true
               ·as_aux_lemma =>
                subst c181; rw [yb rfl] at H
                exact absurd (HT.1.symm.trans (zm H).symm) (by decide)
               ·as_aux_lemma =>
                replace c181 := zn c181; subst c181; rw [yc (show ¬ (false = true) by decide)] at H
                by_cases c182 : t789 = true
                ·as_aux_lemma =>
                 subst c182; rw [yb rfl] at H; have H' := za H; clear H
                 go_wp2
                 go_loopg [39] kj169 (fun kq v39 w' => ∃ (x39_6 : Int), v39 = .int .i64 x39_6 ∧ Aside0 (laws_FnRescues.l2 kq t780 t781 t782 t783 t788 x39_6 = some r) ∧ Aside0 (kq ≤ kj169) ∧ Aside0 (Kd.R k58 58 w' w.heap.size (fun _ => True) (.slice Ao173 t780.length co173) t780) ∧ Aside0 (Kd.R (Kd.int .i64) 3 w' w.heap.size (fun k_ => some k_ ≠ (v790 : Value).ownBlock) (.slice Ao174 t781.length co174) t781) ∧ Aside0 (Kd.R (Kd.int .i64) 3 w' w.heap.size (fun k_ => some k_ ≠ ((.slice Ao174 t781.length co174) : Value).ownBlock) v790 t788) ∧ Aside0 (Below w.heap.size w w'))
                 case atStart => exact ⟨(0), (qS16), H', ⟨zo _⟩, ⟨(qS1 HO_31.1)⟩, ⟨(qS1 HO_32.1)⟩, ⟨(qS1 HO_35.1)⟩, ⟨(qS0)⟩⟩
                 case round =>
                  clear H'; (try clear c1); (try clear q1); (try clear c2); (try clear p2); (try clear c3); (try clear p6); (try clear p7); (try clear q7); (try clear hx7); (try clear c11); (try clear q11); (try clear c12); (try clear q12); (try clear c14); (try clear c15); (try clear c16); (try clear c17); (try clear c18); (try clear c19); (try clear c22); (try clear c22b0); (try clear c23); (try clear c24); (try clear c25); (try clear c26); (try clear c27); (try clear c28); (try clear c29); (try clear c30); (try clear c32); (try clear c33); (try clear c35); (try clear c36); (try clear c38); (try clear c39); (try clear p64); (try clear p71); (try clear q71); (try clear hx71); (try clear p75); (try clear q75); (try clear hx75); (try clear p77); (try clear q77); (try clear hx77); (try clear q117); (try clear c118); (try clear q118); (try clear q124); (try clear c125); (try clear q125); (try clear c144); (try clear c144b0); (try clear c144b1); (try clear c144b2); (try clear c146); (try clear c152); (try clear c153); (try clear c153b0); (try clear c154); (try clear c154b0); (try clear c156); (try clear c157); (try clear c157b0); (try clear c160); (try clear c160b0); (try clear c177); (try clear c177b0); (try clear c177b1); (try clear c177b2); (try clear c181); (try clear c182); (try clear hx719_0); (try clear hx756_0); (try clear hx777_0); (try clear p2); (try clear p6); (try clear p64); (try clear p7); (try clear p71); (try clear p719); (try clear p75); (try clear p756); (try clear p77)
                  (try clear p777); (try clear q0118); (try clear q0125); (try clear q1); (try clear q11); (try clear q117); (try clear q118); (try clear q12); (try clear q124); (try clear q125); (try clear q7); (try clear q71); (try clear q719); (try clear q75); (try clear q756); (try clear q77); (try clear q777); obtain ⟨x39_6, rfl, HA, HK6, HO_31, HO_32, HO_35, HB⟩ := hrel
                  cases gk with
                  | zero => exact absurd HA.1 (by simp [laws_FnRescues.l2])
                  | succ k6 =>
                   have H := HA.1; clear HA; simp only [laws_FnRescues.l2] at H
                   by_cases c183 : x39_6 < 8
                   ·as_aux_lemma =>
                    rw [yb c183] at H; have c183b0 : decide (x39_6 < 8) = true := zc c183; clear c183; replace H := bindA H; obtain ⟨⟨t797, t798⟩, A184, H⟩ := H; (try dsimp only at H)
                    by_cases c185 : t798 = true
                    ·as_aux_lemma =>
                     subst c185; rw [yb rfl] at H; replace H := bindA H; obtain ⟨t799, A186, H⟩ := H; (try dsimp only at H)
                     by_cases c187 : (t799 != (decide (t797 ≥ t783))) = true
                     ·as_aux_lemma =>
                      rw [yb c187] at H; have c187b0 : (t799 != (decide (t797 ≥ t783))) = true := c187
                      (try (have c187b1 : decide (t799 = (decide (t797 ≥ t783))) = false := by simpa using c187))
                      (try (have c187b2 : (t799 == (decide (t797 ≥ t783))) = false := by simpa using c187))
                      (try (have c187b3 : ¬ (t799 = (decide (t797 ≥ t783))) := by simpa using c187)); clear c187
                      exact absurd (HT.1.symm.trans (zm H).symm) (by decide)
                     ·as_aux_lemma =>
                      rw [yc c187] at H
                      have c187b0 : (t799 != (decide (t797 ≥ t783))) = false := by simpa using c187
                      (try (have c187b1 : decide (t799 = (decide (t797 ≥ t783))) = true := by simpa using c187))
                      (try (have c187b2 : (t799 == (decide (t797 ≥ t783))) = true := by simpa using c187)); clear c187; have H' := za H; clear H
                      go_wp2_with (first | ((with_reducible refine zp (f := 12) rfl ?_); refine zV (some 251) rfl rfl Try.func12 (qS27) rfl #[.slice Ao173 t780.length co173, .slice Ao174 t781.length co174, .int .i64 t782, .int .i64 x39_6] rfl (qS2) ?_; (with_reducible refine (impl_GreatestWidth.calls k6 _ _ t780 _ _ t781 t782 x39_6 t797 true _ ?s1 ?s2 ?s3 ?s4 A184.1).mono ?_); (case s1 => exact (qS7 HO_31.1)); (case s2 => exact (qS38 HO_31.1)); (case s3 => exact (qS7 HO_32.1)); (case s4 => exact (qS38 HO_32.1)); rintro e w190 ⟨rfl, hb⟩; refine ⟨_, rfl, ?_⟩; replace HO_31 := za (qS66 HO_31.1); replace HO_32 := za (qS66 HO_32.1); replace HO_35 := za (qS66 HO_35.1); replace HB := za qS64; clear hb; obtain ⟨Ao191, co191, eo191⟩ := zI HO_35.1; subst eo191) | (go_at_call 29; (with_reducible refine (laws_vHas.calls k6 _ _ t788 x39_6 t799 _ ?s1 ?s2 A186.1).mono ?_); (case s1 => exact (qS7 HO_35.1)); (case s2 => exact (qS38 HO_35.1)); rintro e w' ⟨rfl, ⟨nd, rfl⟩⟩))
                      go_roundg k6
                      case measure => have := HJ6.1; have := HJ17.1; have := HJ136.1; have := HK4.1; have := HJ169.1; have := HK6.1; omega
                      case rel => exact ⟨(wrap64 (x39_6 + 1)), (qS16), H', ⟨by have := HJ6.1; have := HJ17.1; have := HJ136.1; have := HK4.1; have := HJ169.1; have := HK6.1; omega⟩, ⟨(qS1 HO_31.1)⟩, ⟨(qS1 HO_32.1)⟩, ⟨(qS1 HO_35.1)⟩, ⟨(qS0)⟩⟩
                    ·as_aux_lemma =>
                     replace c185 := zn c185; subst c185; rw [yc (show ¬ (false = true) by decide)] at H
                     exact absurd (HT.1.symm.trans (zm H).symm) (by decide)
                   ·as_aux_lemma =>
                    rw [yc c183] at H; have c183b0 : decide (x39_6 < 8) = false := zv c183; clear c183; obtain rfl := zm H
                    go_wp2
                    go_ret
                    exact ⟨(qS11), (qS0)⟩
                ·as_aux_lemma =>
                 replace c182 := zn c182; subst c182; rw [yc (show ¬ (false = true) by decide)] at H; obtain rfl := zm H
                 go_wp2
                 go_ret
                 exact ⟨(qS11), (qS0)⟩

end Go.Proofs.Ytoljdjgndogegaa.MS
