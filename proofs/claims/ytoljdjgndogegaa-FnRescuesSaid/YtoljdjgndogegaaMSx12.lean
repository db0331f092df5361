-- tight2 (a walk)
import Derived.Test.YtoljdjgndogegaaMSx0
import Derived.Test.YtoljdjgndogegaaMSx7
import Derived.Test.YtoljdjgndogegaaMSx8
import Derived.Test.YtoljdjgndogegaaMSx11
import Derived.Test.YtoljdjgndogegaaMSx3
import Derived.Test.YtoljdjgndogegaaMSx6
namespace Go.Proofs.Ytoljdjgndogegaa.MS
open Go.RowKit Go.Proofs.YtoljdjgndogegaaW.PrintWords Go.Proofs.YtoljdjgndogegaaW.PrintLast
theorem qS12_c0 {p : Prop} (h : p := by
  simp only [Act.put, yf, yg, yh, i64_w, i32_w]
  rfl) : p := h
theorem qS12_c1 {p : Prop} (h : p := by
  show Act.put _ (some 65) _ = _
  simp only [Act.put, yf, yg, yh, i64_w, i32_w]
  rfl) : p := h
theorem qS12_c2 {p : Prop} (h : p := by
  show Act.put _ (some 70) _ = _
  simp only [Act.put, yf, yg, yh, i64_w, i32_w]
  rfl) : p := h
theorem qS12_c3 {p : Prop} (h : p := by
  intro w'
  go_simp
  with_reducible rfl) : p := h
theorem qS12_c4 {p : Prop} (h : p := by
  show Act.put _ (some 61) _ = _
  simp only [Act.put, yf, yg, yh, i64_w, i32_w]
  rfl) : p := h
attribute [local go_sem] max2_int min2_int max_two min_two
set_option linter.unusedVariables false
set_option linter.unusedSimpArgs false

mutual
def spec_RescueOrder.j0 : Nat → List (S58) → List Int → Int → List Int → List Int → Bool → Option (List Int × Bool)
 | 0, _, _, _, _, _, _ => none
 | k + 1, x0, x1, x2, x3, x10, x24 => if x24 = true then (some (x10, false)) else (spec_RescueOrder.l0 k x0 x1 x2 x3 x10 0)
def spec_RescueOrder.l0 : Nat → List (S58) → List Int → Int → List Int → List Int → Int → Option (List Int × Bool)
 | 0, _, _, _, _, _, _ => none
 | k + 1, x0, x1, x2, x3, x10, x11 => if x11 < (x3.length : Int) then (if 0 ≤ x11 then ((spec_l15Greatest.f k x0 x1 x2 (rd x3 x11)).bind fun t616 => (if t616 < 0 then (spec_RescueOrder.l0 k x0 x1 x2 x3 x10 (wrap64 (x11 + 1))) else (spec_RescueOrder.l1 k x0 x1 x2 x3 x10 x11 t616 (x10.length : Int)))) else (none)) else (some (x10, true))
def spec_RescueOrder.l1 : Nat → List (S58) → List Int → Int → List Int → List Int → Int → Int → Int → Option (List Int × Bool)
 | 0, _, _, _, _, _, _, _, _ => none
 | k + 1, x0, x1, x2, x3, x10, x11, x12, x13 => if x13 > 0 then (if 0 ≤ (wrap64 (x13 - 1)) then (if (wrap64 (x13 - 1)) < (x10.length : Int) then ((spec_l15Greatest.f k x0 x1 x2 (rd x10 (wrap64 (x13 - 1)))).bind fun t618 => (if t618 < x12 then (spec_RescueOrder.l1 k x0 x1 x2 x3 x10 x11 x12 (wrap64 (x13 - 1))) else ((some (([] : List Int) : List Int)).bind fun y619 => (if 0 ≤ x13 then (if x13 ≤ (x10.length : Int) then ((some (x10.take (x13 : Int).toNat : List Int)).bind fun y622 => (if y619.length + y622.length < 17592186044416 then ((some (y619 ++ y622 : List Int)).bind fun y626 => (if 0 ≤ x11 then (if x11 < (x3.length : Int) then ((some (([rd x3 x11] : List Int) : List Int)).bind fun y630 => (if y626.length + y630.length < 17592186044416 then ((some (y626 ++ y630 : List Int)).bind fun y633 => ((some (x10.drop (x13 : Int).toNat : List Int)).bind fun y636 => (if y633.length + y636.length < 17592186044416 then (spec_RescueOrder.l0 k x0 x1 x2 x3 (y633 ++ y636) (wrap64 (x11 + 1))) else (none)))) else (none))) else (none)) else (none))) else (none))) else (none)) else (none))))) else (none)) else (none)) else ((some (([] : List Int) : List Int)).bind fun y643 => (if 0 ≤ x13 then (if x13 ≤ (x10.length : Int) then ((some (x10.take (x13 : Int).toNat : List Int)).bind fun y646 => (if y643.length + y646.length < 17592186044416 then ((some (y643 ++ y646 : List Int)).bind fun y650 => (if 0 ≤ x11 then (if x11 < (x3.length : Int) then ((some (([rd x3 x11] : List Int) : List Int)).bind fun y654 => (if y650.length + y654.length < 17592186044416 then ((some (y650 ++ y654 : List Int)).bind fun y657 => ((some (x10.drop (x13 : Int).toNat : List Int)).bind fun y660 => (if y657.length + y660.length < 17592186044416 then (spec_RescueOrder.l0 k x0 x1 x2 x3 (y657 ++ y660) (wrap64 (x11 + 1))) else (none)))) else (none))) else (none)) else (none))) else (none))) else (none)) else (none)))
end
def spec_RescueOrder.f (k : Nat) (l0 : List (S58)) (l1 : List Int) (a2 : Int) (l3 : List Int) : Option (List Int × Bool) := (some (([] : List Int) : List Int)).bind fun y610 => ((spec_l15Asked.f k l0 l1 a2 0).bind fun t613 => (if t613 = true then ((spec_l1Rising.f k l3 0 7).bind fun t614 => (spec_RescueOrder.j0 k l0 l1 a2 l3 y610 (!t614))) else (spec_RescueOrder.j0 k l0 l1 a2 l3 y610 true)))
def spec_RescueOrder.T12 : Bool × List (List Nat × List Nat) := (true, [([], []), ([], []), ([], []), ([1, 2], [1, 2]), ([0, 3], [0, 3]), ([], []), ([], []), ([5, 6], [5, 6]), ([7], [7]), ([8], [8]), ([4, 9, 4], [4, 9]), ([], []), ([], []), ([11, 12], [11, 12]), ([10, 13, 10], [10, 13]), ([14, 14, 0, 1, 2, 3, 4, 5, 6, 7, 8, 9, 10, 11, 12, 13, 14], [1, 11, 14])])
def spec_RescueOrder.B12 : List Nat := [0, 0, 0, 6, 15, 0, 0, 96, 224, 480, 1023, 0, 0, 6144, 16383, 32767]
theorem spec_RescueOrder.tab12 : rtab .any (opsOf Try.f24 12) = spec_RescueOrder.T12 := by kernel_rfl
theorem spec_RescueOrder.bits12 : waitsOk spec_RescueOrder.T12.2 spec_RescueOrder.B12 = true := by kernel_rfl
set_option maxHeartbeats 8000000 in
set_option maxRecDepth 100000 in
theorem spec_RescueOrder.calls (k : Nat) (A0 : Option Addr) (c0 : Nat) (l0 : List (S58)) (A1 : Option Addr) (c1 : Nat) (l1 : List Int) (a2 : Int) (A3 : Option Addr) (c3 : Nat) (l3 : List Int) (r1 : List Int) (r2 : Bool) (w : World) (hr0 : Kd.C k58 w A0 l0.length l0) (hc0 : l0.length ≤ c0) (hr1 : Kd.C (Kd.int .i64) w A1 l1.length l1) (hc1 : l1.length ≤ c1) (hr3 : Kd.C (Kd.int .i64) w A3 l3.length l3) (hc3 : l3.length ≤ c3) (h : spec_RescueOrder.f k l0 l1 a2 l3 = some (r1, r2)) :
  Calls Try.prog 24 #[.slice A0 l0.length c0, .slice A1 l1.length c1, .int .i64 a2, .slice A3 l3.length c3] w fun e w' => ∃ v0_ : Value, e = .returned (.tuple #[v0_, .bool r2]) ∧ Kd.R (Kd.int .i64) 3 w' w.heap.size (fun _ => True) v0_ r1 ∧ Below w.heap.size w w' := by
 have HR0 := za hr0; have HC0 := za hc0; clear hr0 hc0; have HR1 := za hr1; have HC1 := za hc1; clear hr1 hc1; have HR3 := za hr3; have HC3 := za hc3; clear hr3 hc3; have HB := za (zs w.heap.size w); have H : ((some (([] : List Int) : List Int)).bind fun y610 => ((spec_l15Asked.f k l0 l1 a2 0).bind fun t613 => (if t613 = true then ((spec_l1Rising.f k l3 0 7).bind fun t614 => (spec_RescueOrder.j0 k l0 l1 a2 l3 y610 (!t614))) else (spec_RescueOrder.j0 k l0 l1 a2 l3 y610 true)))) = some (r1, r2) := h; clear h; obtain ⟨y610, hy610⟩ : ∃ y_ : List Int, y_ = (([] : List Int)) := ⟨_, rfl⟩; replace H : ((spec_l15Asked.f k l0 l1 a2 0).bind fun t613 => (if t613 = true then ((spec_l1Rising.f k l3 0 7).bind fun t614 => (spec_RescueOrder.j0 k l0 l1 a2 l3 y610 (!t614))) else (spec_RescueOrder.j0 k l0 l1 a2 l3 y610 true))) = some (r1, r2) := (qS4 hy610); have Ny610 := za hy610; clear hy610; have HC5 := za H; clear H
 go_enter Try.func24, Try.ntmps24
 go_upto_region 2 with (first | ((with_reducible refine zq (N := 14) rfl ?_); refine zQ (Kd.int .i64) _ 3 ?hg (N := 14) ?hd (xs := ([] : List Int)) (inner := []) (ok := fun _ => True) (okp := fun _ => True) ?hr ?hp (fun _ hk => hk) trivial (zs _ _) (zo _) (by simp) ?_; (case hd | hg => rfl); (case hr => exact (qS26)); (case hp => exact (zu _ _)); intro v611 w6 ho7 hb hg_ hnew_; clear hg_ hnew_; (first | rw [← Ny610.1] at ho7 | (simp only [Int.reduceToNat] at ho7; rw [← Ny610.1] at ho7)); have HO612 := za (qS77 ho7); replace HB := za qS64; clear hb ho7))
 (try simp only [Act.put, yf, yg, yh])
 go_cut [24] (fun v24 wc => ∃ (kq : Nat) (x24_4 : Bool), v24 = .bool x24_4 ∧ Aside0 (spec_RescueOrder.j0 kq l0 l1 a2 l3 y610 x24_4 = some (r1, r2)) ∧ Aside0 (kq ≤ k) ∧ Aside0 (Kd.R (Kd.int .i64) 3 wc w.heap.size (fun _ => True) v611 y610) ∧ Aside0 (Below w.heap.size w wc))
 case first =>
  have H := HC5.1; clear HC5; replace H := bindA H; obtain ⟨t613, A8, H⟩ := H; (try dsimp only at H)
  by_cases c9 : t613 = true
  ·subst c9; rw [yb rfl] at H; replace H := bindA H; obtain ⟨t614, A10, H⟩ := H; (try dsimp only at H); have H' := za H; clear H
   go_wp2_with (first | ((with_reducible refine zp (f := 39) rfl ?_); refine zV (some 18) rfl rfl Try.func39 (qS27) rfl #[.slice A0 l0.length c0, .slice A1 l1.length c1, .int .i64 a2, .int .i64 0] rfl (qS2) ?_; (with_reducible refine (spec_l15Asked.calls k _ _ l0 _ _ l1 a2 0 true _ ?s1 ?s2 ?s3 ?s4 A8.1).mono ?_); (case s1 => exact (qS13 HR0.1)); (case s2 => exact HC0.1); (case s3 => exact (qS13 HR1.1)); (case s4 => exact HC1.1); rintro e w11 ⟨rfl, hb⟩; refine ⟨_, rfl, ?_⟩; replace HO612 := za (qS66 HO612.1); replace HB := za qS64; clear hb) | (go_at_call 61; (with_reducible refine (spec_l1Rising.calls k _ _ l3 0 7 t614 _ ?s1 ?s2 A10.1).mono ?_); (case s1 => exact (qS13 HR3.1)); (case s2 => exact HC3.1); rintro e w' ⟨rfl, ⟨nd, rfl⟩⟩))
   go_meet
   case rel => exact ⟨_, (!t614), (qS16), H', ⟨by first | omega | exact zo _⟩, ⟨(qS1 HO612.1)⟩, ⟨(qS0)⟩⟩
  ·replace c9 := zn c9; subst c9; rw [yc (show ¬ (false = true) by decide)] at H; have H' := za H; clear H
   go_wp2_with (first | ((with_reducible refine zp (f := 39) rfl ?_); refine zV (some 18) rfl rfl Try.func39 (qS27) rfl #[.slice A0 l0.length c0, .slice A1 l1.length c1, .int .i64 a2, .int .i64 0] rfl (qS2) ?_; (with_reducible refine (spec_l15Asked.calls k _ _ l0 _ _ l1 a2 0 false _ ?s1 ?s2 ?s3 ?s4 A8.1).mono ?_); (case s1 => exact (qS13 HR0.1)); (case s2 => exact HC0.1); (case s3 => exact (qS13 HR1.1)); (case s4 => exact HC1.1); rintro e w12 ⟨rfl, hb⟩; refine ⟨_, rfl, ?_⟩; replace HO612 := za (qS66 HO612.1); replace HB := za qS64; clear hb))
   go_meet
   case rel => exact ⟨_, (true), (qS16), H', ⟨by first | omega | exact zo _⟩, ⟨(qS1 HO612.1)⟩, ⟨(qS0)⟩⟩
 case rest =>
  clear HC5; (try clear c1); (try clear c2); (try clear p2); (try clear c3); (try clear c9); obtain ⟨kq, x24_4, rfl, HA, HJ4, HO_10, HB⟩ := hcut
  cases kq with
  | zero => exact absurd HA.1 (by simp [spec_RescueOrder.j0])
  | succ kj4 =>
   have H := HA.1; clear HA; simp only [spec_RescueOrder.j0] at H
   by_cases c13 : x24_4 = true
   ·subst c13; rw [yb rfl] at H; simp only [yd, ye] at H; obtain ⟨rfl, rfl⟩ := H
    go_wp2
    go_ret2
    exact ⟨_, (qS11), (qS1 HO_10.1), (qS0)⟩
   ·replace c13 := zn c13; subst c13; rw [yc (show ¬ (false = true) by decide)] at H; have H' := za H; clear H
    go_wp2
    go_loopg [10, 11] kj4 (fun kq v10 v11 w' => ∃ (x10_2 : List Int) (x11_2 : Int), v11 = .int .i64 x11_2 ∧ Aside0 (spec_RescueOrder.l0 kq l0 l1 a2 l3 x10_2 x11_2 = some (r1, r2)) ∧ Aside0 (kq ≤ kj4) ∧ Aside0 (Kd.R (Kd.int .i64) 3 w' w.heap.size (fun _ => True) v10 x10_2) ∧ Aside0 (Below w.heap.size w w'))
    case atStart => exact ⟨(y610), (0), (qS16), H', ⟨zo _⟩, ⟨(qS1 HO_10.1)⟩, ⟨(qS0)⟩⟩
    case round =>
     clear H'; (try clear c1); (try clear c2); (try clear p2); (try clear c3); (try clear c9); (try clear c13); (try clear p2); obtain ⟨x10_2, x11_2, rfl, HA, HK2, HO_10, HB⟩ := hrel
     cases gk with
     | zero => exact absurd HA.1 (by simp [spec_RescueOrder.l0])
     | succ k2 =>
      have H := HA.1; clear HA; simp only [spec_RescueOrder.l0] at H
      by_cases c14 : x11_2 < (l3.length : Int)
      ·rw [yb c14] at H; have c14b0 : decide (x11_2 < (l3.length : Int)) = true := zc c14; clear c14
       by_cases c15 : 0 ≤ x11_2
       ·rw [yb c15] at H; have c15b0 : decide (0 ≤ x11_2) = true := zc c15; clear c15; replace H := bindA H; obtain ⟨t616, A16, H⟩ := H; (try dsimp only at H)
        by_cases c17 : t616 < 0
        ·rw [yb c17] at H; have c17b0 : decide (t616 < 0) = true := zc c17; clear c17; have H' := za H; clear H; have p615 : 0 ≤ (x11_2 : Int) := zb (qS8); have q615 : x11_2 < (l3.length : Int) := zb (qS8); obtain ⟨ad615, e615, hx615_0⟩ := zJ HR3.1 x11_2 p615 q615; cases e615; replace hx615_0 := (HB.1.cell (zd w _ hx615_0)).trans hx615_0; replace p615 := zw p615; replace q615 := zw q615
         go_wp2_with (first | ((with_reducible refine zp (f := 47) rfl ?_); refine zV (some 39) rfl rfl Try.func47 (qS27) rfl #[.slice A0 l0.length c0, .slice A1 l1.length c1, .int .i64 a2, .int .i64 (rd l3 x11_2)] rfl (qS2) ?_; (with_reducible refine (spec_l15Greatest.calls k2 _ _ l0 _ _ l1 a2 (rd l3 x11_2) t616 _ ?s1 ?s2 ?s3 ?s4 A16.1).mono ?_); (case s1 => exact (qS13 HR0.1)); (case s2 => exact HC0.1); (case s3 => exact (qS13 HR1.1)); (case s4 => exact HC1.1); rintro e w18 ⟨rfl, hb⟩; refine ⟨_, rfl, ?_⟩; replace HO_10 := za (qS66 HO_10.1); replace HB := za qS64; clear hb))
         go_roundg k2
         case measure => have := HJ4.1; have := HK2.1; omega
         case rel => exact ⟨(x10_2), (wrap64 (x11_2 + 1)), (qS16), H', ⟨by have := HJ4.1; have := HK2.1; omega⟩, ⟨(qS1 HO_10.1)⟩, ⟨(qS0)⟩⟩
        ·rw [yc c17] at H; have c17b0 : decide (t616 < 0) = false := zv c17; clear c17; have H' := za H; clear H; have p615 : 0 ≤ (x11_2 : Int) := zb (qS8); have q615 : x11_2 < (l3.length : Int) := zb (qS8); obtain ⟨ad615, e615, hx615_0⟩ := zJ HR3.1 x11_2 p615 q615; cases e615; replace hx615_0 := (HB.1.cell (zd w _ hx615_0)).trans hx615_0; replace p615 := zw p615; replace q615 := zw q615
         go_wp2_with (first | ((with_reducible refine zp (f := 47) rfl ?_); refine zV (some 39) rfl rfl Try.func47 (qS27) rfl #[.slice A0 l0.length c0, .slice A1 l1.length c1, .int .i64 a2, .int .i64 (rd l3 x11_2)] rfl (qS2) ?_; (with_reducible refine (spec_l15Greatest.calls k2 _ _ l0 _ _ l1 a2 (rd l3 x11_2) t616 _ ?s1 ?s2 ?s3 ?s4 A16.1).mono ?_); (case s1 => exact (qS13 HR0.1)); (case s2 => exact HC0.1); (case s3 => exact (qS13 HR1.1)); (case s4 => exact HC1.1); rintro e w19 ⟨rfl, hb⟩; refine ⟨_, rfl, ?_⟩; replace HO_10 := za (qS66 HO_10.1); replace HB := za qS64; clear hb; obtain ⟨Ao20, co20, eo20⟩ := zI HO_10.1; subst eo20))
         go_loopg [13] k2 (fun kq v13 w' => ∃ (x13_3 : Int), v13 = .int .i64 x13_3 ∧ Aside0 (spec_RescueOrder.l1 kq l0 l1 a2 l3 x10_2 x11_2 t616 x13_3 = some (r1, r2)) ∧ Aside0 (kq ≤ k2) ∧ Aside0 (Kd.R (Kd.int .i64) 3 w' w.heap.size (fun _ => True) (.slice Ao20 x10_2.length co20) x10_2) ∧ Aside0 (Below w.heap.size w w'))
         case atStart => exact ⟨((x10_2.length : Int)), (qS16), H', ⟨zo _⟩, ⟨(qS1 HO_10.1)⟩, ⟨(qS0)⟩⟩
         case round =>
          clear H'; (try clear c1); (try clear c2); (try clear p2); (try clear c3); (try clear c4); (try clear p6); (try clear q6); (try clear hx6); (try clear c9); (try clear c13); (try clear c14); (try clear c14b0); (try clear c15); (try clear c15b0); (try clear c17); (try clear c17b0); (try clear hx615_0); (try clear p2); (try clear p615); (try clear q615); obtain ⟨x13_3, rfl, HA, HK3, HO_10, HB⟩ := hrel
          cases gk with
          | zero => exact absurd HA.1 (by simp [spec_RescueOrder.l1])
          | succ k3 =>
           have H := HA.1; clear HA; simp only [spec_RescueOrder.l1] at H
           by_cases c21 : x13_3 > 0
           ·rw [yb c21] at H; have c21b0 : decide (0 < x13_3) = true := zc c21; clear c21; obtain ⟨ji22, hji22⟩ : ∃ j_ : Int, (wrap64 (x13_3 - 1)) = j_ := ⟨_, rfl⟩
            replace H : (if 0 ≤ (ji22) then (if (ji22) < (x10_2.length : Int) then ((spec_l15Greatest.f k3 l0 l1 a2 (rd x10_2 (ji22))).bind fun t618 => (if t618 < t616 then (spec_RescueOrder.l1 k3 l0 l1 a2 l3 x10_2 x11_2 t616 ji22) else ((some (([] : List Int) : List Int)).bind fun y619 => (if 0 ≤ x13_3 then (if x13_3 ≤ (x10_2.length : Int) then ((some (x10_2.take (x13_3 : Int).toNat : List Int)).bind fun y622 => (if y619.length + y622.length < 17592186044416 then ((some (y619 ++ y622 : List Int)).bind fun y626 => (if 0 ≤ x11_2 then (if x11_2 < (l3.length : Int) then ((some (([rd l3 x11_2] : List Int) : List Int)).bind fun y630 => (if y626.length + y630.length < 17592186044416 then ((some (y626 ++ y630 : List Int)).bind fun y633 => ((some (x10_2.drop (x13_3 : Int).toNat : List Int)).bind fun y636 => (if y633.length + y636.length < 17592186044416 then (spec_RescueOrder.l0 k3 l0 l1 a2 l3 (y633 ++ y636) (wrap64 (x11_2 + 1))) else (none)))) else (none))) else (none)) else (none))) else (none))) else (none)) else (none))))) else (none)) else (none)) = some (r1, r2) := by first | (rw [hji22] at H; exact H) | (simp only [hji22] at H ⊢; exact H)
            have hji22w : (IntKind.i64.wrap (x13_3 - 1)) = ji22 := (i64_w _).trans hji22
            by_cases c23 : 0 ≤ (ji22)
            ·rw [yb c23] at H; have c23b0 : decide (0 ≤ (ji22)) = true := zc c23; clear c23
             by_cases c24 : (ji22) < (x10_2.length : Int)
             ·rw [yb c24] at H; have c24b0 : decide ((ji22) < (x10_2.length : Int)) = true := zc c24; clear c24; replace H := bindA H; obtain ⟨t618, A25, H⟩ := H; (try dsimp only at H)
              by_cases c26 : t618 < t616
              ·rw [yb c26] at H; have c26b0 : decide (t618 < t616) = true := zc c26; clear c26; have H' := za H; clear H; have p617 : 0 ≤ ((ji22) : Int) := zb (qS8); have q617 : (ji22) < (x10_2.length : Int) := zb (qS8); obtain ⟨ad617, e617, hx617_0⟩ := zJ (zH HO_10.1).2.2 (ji22) p617 q617; cases e617; replace p617 := zw p617; replace q617 := zw q617
               go_wp2_with (first | (go_at_call 47; (with_reducible refine (spec_l15Greatest.calls k3 _ _ l0 _ _ l1 a2 (rd x10_2 (ji22)) t618 _ ?s1 ?s2 ?s3 ?s4 A25.1).mono ?_); (case s1 => exact (qS13 HR0.1)); (case s2 => exact HC0.1); (case s3 => exact (qS13 HR1.1)); (case s4 => exact HC1.1); rintro e w27 ⟨rfl, hb⟩; replace HO_10 := za (qS66 HO_10.1); replace HB := za qS64; clear hb))
               go_roundg k3
               case measure => have := HJ4.1; have := HK2.1; have := HK3.1; omega
               case rel => exact ⟨(ji22), (by first | rfl | (simp; done) | (simp only [← hji22] <;> (first | rfl | simp)) | (simp [*]; done)), H', ⟨by have := HJ4.1; have := HK2.1; have := HK3.1; omega⟩, ⟨(qS1 HO_10.1)⟩, ⟨(qS0)⟩⟩
              ·rw [yc c26] at H; have c26b0 : decide (t618 < t616) = false := zv c26; clear c26; obtain ⟨y619, hy619⟩ : ∃ y_ : List Int, y_ = (([] : List Int)) := ⟨_, rfl⟩; replace H : (if 0 ≤ x13_3 then (if x13_3 ≤ (x10_2.length : Int) then ((some (x10_2.take (x13_3 : Int).toNat : List Int)).bind fun y622 => (if y619.length + y622.length < 17592186044416 then ((some (y619 ++ y622 : List Int)).bind fun y626 => (if 0 ≤ x11_2 then (if x11_2 < (l3.length : Int) then ((some (([rd l3 x11_2] : List Int) : List Int)).bind fun y630 => (if y626.length + y630.length < 17592186044416 then ((some (y626 ++ y630 : List Int)).bind fun y633 => ((some (x10_2.drop (x13_3 : Int).toNat : List Int)).bind fun y636 => (if y633.length + y636.length < 17592186044416 then (spec_RescueOrder.l0 k3 l0 l1 a2 l3 (y633 ++ y636) (wrap64 (x11_2 + 1))) else (none)))) else (none))) else (none)) else (none))) else (none))) else (none)) else (none)) = some (r1, r2) := (qS4 hy619); have Ny619 := za hy619; clear hy619
               by_cases c28 : 0 ≤ x13_3
               ·rw [yb c28] at H; have c28b0 := zw c28; have c28b1 : decide (0 ≤ x13_3) = true := zc c28; clear c28
                by_cases c29 : x13_3 ≤ (x10_2.length : Int)
                ·rw [yb c29] at H; have c29b0 := zw c29; have c29b1 : decide (x13_3 ≤ (x10_2.length : Int)) = true := zc c29; clear c29; obtain ⟨y622, hy622⟩ : ∃ y_ : List Int, y_ = (x10_2.take (x13_3 : Int).toNat) := ⟨_, rfl⟩; replace H : (if y619.length + y622.length < 17592186044416 then ((some (y619 ++ y622 : List Int)).bind fun y626 => (if 0 ≤ x11_2 then (if x11_2 < (l3.length : Int) then ((some (([rd l3 x11_2] : List Int) : List Int)).bind fun y630 => (if y626.length + y630.length < 17592186044416 then ((some (y626 ++ y630 : List Int)).bind fun y633 => ((some (x10_2.drop (x13_3 : Int).toNat : List Int)).bind fun y636 => (if y633.length + y636.length < 17592186044416 then (spec_RescueOrder.l0 k3 l0 l1 a2 l3 (y633 ++ y636) (wrap64 (x11_2 + 1))) else (none)))) else (none))) else (none)) else (none))) else (none)) = some (r1, r2) := (qS4 hy622); have Ny622 := za hy622; clear hy622
                 by_cases c30 : y619.length + y622.length < 17592186044416
                 ·rw [yb c30] at H; have LMc30 := za c30; clear c30; obtain ⟨y626, hy626⟩ : ∃ y_ : List Int, y_ = (y619 ++ y622) := ⟨_, rfl⟩; replace H : (if 0 ≤ x11_2 then (if x11_2 < (l3.length : Int) then ((some (([rd l3 x11_2] : List Int) : List Int)).bind fun y630 => (if y626.length + y630.length < 17592186044416 then ((some (y626 ++ y630 : List Int)).bind fun y633 => ((some (x10_2.drop (x13_3 : Int).toNat : List Int)).bind fun y636 => (if y633.length + y636.length < 17592186044416 then (spec_RescueOrder.l0 k3 l0 l1 a2 l3 (y633 ++ y636) (wrap64 (x11_2 + 1))) else (none)))) else (none))) else (none)) else (none)) = some (r1, r2) := (qS4 hy626); have Ny626 := za hy626; clear hy626
                  by_cases c31 : 0 ≤ x11_2
                  ·rw [yb c31] at H; have c31b0 : decide (0 ≤ x11_2) = true := zc c31; clear c31
                   by_cases c32 : x11_2 < (l3.length : Int)
                   ·rw [yb c32] at H; have c32b0 : decide (x11_2 < (l3.length : Int)) = true := zc c32; clear c32; obtain ⟨y630, hy630⟩ : ∃ y_ : List Int, y_ = (([rd l3 x11_2] : List Int)) := ⟨_, rfl⟩; replace H : (if y626.length + y630.length < 17592186044416 then ((some (y626 ++ y630 : List Int)).bind fun y633 => ((some (x10_2.drop (x13_3 : Int).toNat : List Int)).bind fun y636 => (if y633.length + y636.length < 17592186044416 then (spec_RescueOrder.l0 k3 l0 l1 a2 l3 (y633 ++ y636) (wrap64 (x11_2 + 1))) else (none)))) else (none)) = some (r1, r2) := (qS4 hy630); have Ny630 := za hy630; clear hy630
                    by_cases c33 : y626.length + y630.length < 17592186044416
                    ·rw [yb c33] at H; have LMc33 := za c33; clear c33; obtain ⟨y633, hy633⟩ : ∃ y_ : List Int, y_ = (y626 ++ y630) := ⟨_, rfl⟩; replace H : ((some (x10_2.drop (x13_3 : Int).toNat : List Int)).bind fun y636 => (if y633.length + y636.length < 17592186044416 then (spec_RescueOrder.l0 k3 l0 l1 a2 l3 (y633 ++ y636) (wrap64 (x11_2 + 1))) else (none))) = some (r1, r2) := (qS4 hy633); have Ny633 := za hy633; clear hy633; have c34b0 := zw (zb (qS8) : 0 ≤ x13_3); have c35b0 := zw (zb (qS8) : x13_3 ≤ (x10_2.length : Int)); obtain ⟨y636, hy636⟩ : ∃ y_ : List Int, y_ = (x10_2.drop (x13_3 : Int).toNat) := ⟨_, rfl⟩; replace H : (if y633.length + y636.length < 17592186044416 then (spec_RescueOrder.l0 k3 l0 l1 a2 l3 (y633 ++ y636) (wrap64 (x11_2 + 1))) else (none)) = some (r1, r2) := (qS4 hy636); have Ny636 := za hy636; clear hy636
                     by_cases c36 : y633.length + y636.length < 17592186044416
                     ·rw [yb c36] at H; have LMc36 := za c36; clear c36; obtain ⟨y640, hy640⟩ : ∃ y_ : List Int, y_ = (y633 ++ y636) := ⟨_, rfl⟩; replace H : (spec_RescueOrder.l0 k3 l0 l1 a2 l3 y640 (wrap64 (x11_2 + 1))) = some (r1, r2) := (qS4 hy640); have Ny640 := za hy640; clear hy640; have H' := za H; clear H; have p617 : 0 ≤ ((ji22) : Int) := zb (qS8); have q617 : (ji22) < (x10_2.length : Int) := zb (qS8); obtain ⟨ad617, e617, hx617_0⟩ := zJ (zH HO_10.1).2.2 (ji22) p617 q617; cases e617; replace p617 := zw p617; replace q617 := zw q617
                      try go_wp2_with (first | (go_at_call 47; (with_reducible refine (spec_l15Greatest.calls k3 _ _ l0 _ _ l1 a2 (rd x10_2 (ji22)) t618 _ ?s1 ?s2 ?s3 ?s4 A25.1).mono ?_); (case s1 => exact (qS13 HR0.1)); (case s2 => exact HC0.1); (case s3 => exact (qS13 HR1.1)); (case s4 => exact HC1.1); rintro e w37 ⟨rfl, hb⟩; replace HO_10 := za (qS66 HO_10.1); replace HB := za qS64; clear hb))
                      replace HO_10 := za (zO HO_10.1); replace HB := za (below_drew1 HB.1); have q39 : (x13_3 : Int) ≤ ((x10_2.length : Int) : Int) := zb (qS8); obtain ⟨i039, hi039, _, hsz39, _⟩ := info_parts info3; have hroom39 : x10_2.length ≤ co20 := (zH HO_10.1).2.1; have hC39 : Kd.C (Kd.int .i64) _ (some ad617) x10_2.length x10_2 := (zH HO_10.1).2.2; have hcut39 := cut_to (P := Try.prog) 25 3 .i64 Try.underlying25 hi039 (some ad617) x10_2.length co20 x13_3 (zb (qS8)) q39 hroom39; have hr39 := Kd.C_take (m := (x13_3 : Int).toNat) hC39 (by omega); have hy39 : y622.length = (x13_3 : Int).toNat := (by rw [Ny622.1, List.length_take]; omega); rw [← Ny622.1] at hr39; rw [← hy39] at hcut39; have HR625 := za hr39
                      have HC625 := za (by exact show y622.length ≤ co20 from by omega)
                      clear hr39 hC39 hroom39 hi039 hsz39; have KY39 := za hy39; clear hy39; have KL39 := za qS59; replace q39 := zw q39; have p629 : 0 ≤ (x11_2 : Int) := zb (qS8); have q629 : x11_2 < (l3.length : Int) := zb (qS8); obtain ⟨ad629, e629, hx629_0⟩ := zJ HR3.1 x11_2 p629 q629; have hw629_0 := hx629_0; obtain rfl : ad615 = ad629 := (by injection e629); replace hx629_0 := (HB.1.cell (zd w _ hx629_0)).trans hx629_0; replace p629 := zw p629; replace q629 := zw q629; have q40 : (x13_3 : Int) ≤ ((x10_2.length : Int) : Int) := zb (qS8); obtain ⟨i040, hi040, _, hsz40, _⟩ := info_parts info3; have hroom40 : x10_2.length ≤ co20 := (zH HO_10.1).2.1; have hC40 : Kd.C (Kd.int .i64) _ (some ad617) x10_2.length x10_2 := (zH HO_10.1).2.2; have q040 : (0 : Int) ≤ (x13_3 : Int) := zb (qS8); have hcut40 := cut_from (P := Try.prog) 25 3 .i64 Try.underlying25 hi040 1 hsz40 (some ad617) x10_2.length co20 x13_3 q040 q40; have hr40 := Kd.C_drop (m := (x13_3 : Int).toNat) (c := co20) hC40 (by omega) hroom40; obtain ⟨A40, hA40⟩ : ∃ A1, A1 = (if co20 = (x13_3 : Int).toNat then (some ad617) else ((some ad617) : Option Addr).map (·.add ((x13_3 : Int).toNat * 1))) := ⟨_, rfl⟩; obtain ⟨c40, hc40⟩ : ∃ c1, c1 = co20 - (x13_3 : Int).toNat := ⟨_, rfl⟩; have hy40 : y636.length = x10_2.length - (x13_3 : Int).toNat := (qS61 Ny636.1); rw [show (x10_2).drop (x13_3 : Int).toNat = y636 from Ny636.1.symm] at hr40
                      replace hr40 : Kd.C (Kd.int .i64) _ A40 y636.length y636 := (by rw [hA40]; exact hr40); rw [← hy40, ← hA40, ← hc40] at hcut40; have HR639 := za hr40
                      have HC639 := za (by exact show y636.length ≤ c40 from by rw [hy40, hc40]; exact Nat.sub_le_sub_right hroom40 _)
                      clear hr40 hC40 hroom40 hi040 hsz40 hc40; have KY40 := za hy40; have KA40 := za hA40; clear hy40 hA40; have KL40 := za qS59; replace q40 := zw q40
                      refine start_ (n := 16) (S := fun w' => w'.cell? (ad615.add (x11_2).toNat) = some (.int .i64 (rd l3 x11_2))) (ds := []) qSb28 (qS27) rfl rfl (((HB.1.cell (zd w _ hw629_0)).trans hw629_0)) (fun hHeld => ?_); refine with_tabW spec_RescueOrder.tab12 spec_RescueOrder.bits12 (fun HT_ HW_ => ?_)
                      generalize w37.drew = w38 at HO_10 HB HR625 HR639 hx629_0 hHeld ⊢
                      refine pure_ (i := 1) (N := some 62) (v := ?_) (a' := ?_) qSb29 rfl rfl (qS24) (fun _ _ _ h => h) (zY ⟨by rfl, ?_⟩) ?_ ?_
                      rotate_left; exact qS12_c3; rotate_left; exact qS12_c0
                      refine pure_ (i := 2) (N := some 63) (v := ?_) (a' := ?_) qSb30 rfl rfl (qS24) (fun _ _ _ h => h) (zY ⟨by rfl, ?_⟩) ?_ ?_
                      rotate_left; exact qS12_c3; rotate_left; exact qS12_c0
                      refine pure_ (i := 3) (N := some 64) (v := ?_) (a' := ?_) qSb31 rfl rfl (qS24) (fun _ _ _ h => h) (zY ⟨by rfl, ?_⟩) ?_ ?_
                      rotate_left; exact qS12_c3; rotate_left; exact qS12_c0
                      refine pure_ (i := 5) (N := some 66) (v := ?_) (a' := ?_) qSb32 rfl rfl (qS24) (fun _ _ _ h => h) (zY ⟨by rfl, ?_⟩) ?_ ?_
                      rotate_left; exact qS12_c3; rotate_left; exact qS12_c0
                      refine pure_ (i := 6) (N := some 67) (v := ?_) (a' := ?_) qSb33 rfl rfl (qS24) (fun _ _ _ h => h) (zY ⟨by rfl, ?_⟩) ?_ ?_
                      rotate_left; exact qS12_c3; rotate_left; exact qS12_c0
                      refine pure_ (i := 7) (N := some 68) (v := ?_) (a' := ?_) qSb34 rfl rfl (qS24) (fun _ _ _ h => h) (zY ⟨by rfl, ?_⟩) ?_ ?_
                      rotate_left; exact qS12_c3; rotate_left; exact qS12_c0
                      refine pure_ (i := 11) (N := some 72) (v := ?_) (a' := ?_) qSb35 rfl rfl (qS24) (fun _ _ _ h => h) (zY ⟨by rfl, ?_⟩) ?_ ?_
                      rotate_left; exact qS12_c3; rotate_left; exact qS12_c0
                      refine pure_ (i := 12) (N := some 73) (v := ?_) (a' := ?_) qSb36 rfl rfl (qS24) (fun _ _ _ h => h) (zY ⟨by rfl, ?_⟩) ?_ ?_
                      rotate_left; exact qS12_c3; rotate_left; exact qS12_c0
                      refine pure_ (i := 13) (N := some 74) (v := ?_) (a' := ?_) qSb37 rfl rfl (qS24) (fun _ _ _ h => h) (zY ⟨by rfl, ?_⟩) ?_ ?_
                      rotate_left; exact qS12_c3; rotate_left; exact qS12_c0
                      refine take_ (i := 8) (N := some 69) (v := ?_) (a' := ?_) qSb38 rfl rfl (take_ofW HT_.1 HW_.1 (qS27)) (fun _ _ _ h => h) (zY ⟨by rfl, ?_⟩) hHeld ?_ ?_
                      rotate_left
                      ·intro w' s0
                       go_simp
                       with_reducible rfl
                      rotate_left
                      ·exact qS12_c0
                      refine join_ (σ := Value × Value × Value) 3 qSb39 (fun s_ => [(61, s_.1), (65, s_.2.1), (70, s_.2.2)]) (fun s_ w' => (w'.cell? (ad615.add (x11_2).toNat) = some (.int .i64 (rd l3 x11_2))) ∧ (Kd.R (Kd.int .i64) 3 w' w.heap.size (fun k_ => some k_ ≠ (s_.2.2 : Value).ownBlock ∧ some k_ ≠ (.slice (some ad617) x10_2.length co20 : Value).ownBlock) s_.2.1 y626) ∧ (Kd.R (Kd.int .i64) 3 w' w.heap.size (fun k_ => some k_ ≠ (s_.2.1 : Value).ownBlock ∧ some k_ ≠ (.slice (some ad617) x10_2.length co20 : Value).ownBlock) s_.2.2 y630) ∧ (Kd.R (Kd.int .i64) 3 w' w.heap.size (fun k_ => some k_ ≠ (s_.2.1 : Value).ownBlock ∧ some k_ ≠ (s_.2.2 : Value).ownBlock) (.slice (some ad617) x10_2.length co20) x10_2) ∧ (Below w.heap.size w w')) ?_ ?_
                      rotate_left
                      ·intro hCont
                       refine two_ (i := 0) (j := 9) (Ni := some 61) (Nj := some 70) qSb40 qSb41 rfl rfl rfl rfl (two_of HT_.1 (qS27)) (by decide) (by decide) (fun K hK => ?_) (fun K hK => ?_)
                       ·skip
                        refine Kd.R_lit_step (Kd.int .i64) _ 3 ?hg (N := 61) ?hd (xs := ([] : List Int)) (inner := []) (ok := fun _ => True) (okp := fun _ => True) ?hr ?hp (fun _ hk => hk) trivial (zs _ _) (zo _) (by simp) ?_; (case hd | hg => rfl); (case hr => exact (qS26)); (case hp => exact (zu _ _))
                        intro v620 w41 ho42 hb hg_ hnew_; clear hg_ hnew_
                        (first | rw [← Ny619.1] at ho42 | (simp only [Int.reduceToNat] at ho42; rw [← Ny619.1] at ho42))
                        have HO621 := za (qS75 ho42 HO_10.1); replace HO_10 := za (qS67 HO_10.1 ho42); replace HR625 := za (zG (qS12 HR625.1) hb); replace HR639 := za (zG (qS12 HR639.1) hb); replace HB := za qS64; clear hb ho42
                        refine hK.out _ _ (((HB.1.cell (zd w _ hw629_0)).trans hw629_0)) (fun hHeld => ?_)
                        clear hK K
                        refine norm_ (a' := ?_) ?_ ?_
                        rotate_left
                        ·exact qS12_c4
                        refine two_ (i := 4) (j := 9) (Ni := some 65) (Nj := some 70) qSb42 qSb43 rfl rfl rfl rfl (two_of HT_.1 (qS27)) (by decide) (by decide) (fun K hK => ?_) (fun K hK => ?_)
                        ·skip
                         refine zM (Kd.int .i64) (w0 := w) w.heap.size (by rfl) (.tmp 61) (.tmp 64) 25 3 (.int .i64 0) 8 rfl Try.underlying25 info3 rfl (by decide) (by omega) v620 y619 y622 _ _ _ (fun k_ => some k_ ≠ (.slice (some ad617) x10_2.length co20 : Value).ownBlock) (fun _ => False) rfl rfl ?aO ?aR (fun _ _ h => h) (fun _ h => h.elim) ?aF ?aB ?aS ?aL ?_
                         (case aR => exact (qS68 HR625.1))
                         (case aB => exact (qS0))
                         (case aF => exact (qS73 HO_10.1))
                         (case aO => exact (qS29 HO621.1))
                         (case aS => exact (qS82))
                         (case aL => have := LMc30.1; omega)
                         intro v627 w43 ho hb hg hat; rw [← Ny626.1] at ho; replace HB := za hb
                         replace HR625 := za (by exact (show Kd.C (Kd.int .i64) w43 (some ad617) y622.length y622 from by rw [Ny622.1]; exact Kd.C_take (m := (x13_3 : Int).toNat) ((zH (Kd.R_after (ok := (fun _ => True)) (qS1 HO_10.1) hg hat)).2.2) KL39.1))
                         replace HR639 := za (by exact (show Kd.C (Kd.int .i64) w43 A40 y636.length y636 from by rw [Ny636.1, KA40.1]; exact Kd.C_drop (m := (x13_3 : Int).toNat) (c := co20) ((zH (Kd.R_after (ok := (fun _ => True)) (qS1 HO_10.1) hg hat)).2.2) KL40.1 ((zH (Kd.R_after (ok := (fun _ => True)) (qS1 HO_10.1) hg hat)).2.1)))
                         replace HO_10 := za (qS79 HO_10.1); have HO628 := za ho; clear HO621; clear ho hb hg hat
                         refine hK.out _ _ (((HB.1.cell (zd w _ hw629_0)).trans hw629_0)) (fun hHeld => ?_)
                         clear hK K
                         refine norm_ (a' := ?_) ?_ ?_
                         rotate_left
                         ·exact qS12_c1
                         refine one_ (i := 9) (N := some 70) qSb39 rfl rfl (qS70) (by decide) (fun K hK => ?_)
                         refine Kd.R_lit_step (Kd.int .i64) _ 3 ?hg (N := 70) ?hd (xs := ([rd l3 x11_2] : List Int)) (inner := [.int .i64 (rd l3 x11_2)]) (ok := fun _ => True) (okp := fun _ => True) ?hr ?hp (fun _ hk => hk) trivial (zs _ _) (zo _) (by simp) ?_; (case hd | hg => rfl); (case hr => exact (qS26)); (case hp => exact (qS48))
                         intro v631 w44 ho45 hb hg_ hnew_; clear hg_ hnew_
                         (first | rw [← Ny630.1] at ho45 | (simp only [Int.reduceToNat] at ho45; rw [← Ny630.1] at ho45))
                         have HO632 := za (qS85 ho45 HO_10.1 HO628.1); replace HO_10 := za (qS67 HO_10.1 ho45); replace HO628 := za (qS67 HO628.1 ho45); replace HR625 := za (zG (qS12 HR625.1) hb); replace HR639 := za (zG (qS12 HR639.1) hb); replace HB := za qS64; clear hb ho45
                         refine hK.out _ _ (((HB.1.cell (zd w _ hw629_0)).trans hw629_0)) (fun hHeld => ?_)
                         clear hK K
                         refine norm_ (a' := ?_) ?_ ?_
                         rotate_left
                         ·exact qS12_c2
                         exact norm_ (qS37) (hCont (v620, v627, v631) _ ⟨hHeld, (qS28 HO628.1), (qS40 HO632.1), (qS31 HO_10.1), (qS0)⟩)
                        ·skip
                         refine Kd.R_lit_step (Kd.int .i64) _ 3 ?hg (N := 70) ?hd (xs := ([rd l3 x11_2] : List Int)) (inner := [.int .i64 (rd l3 x11_2)]) (ok := fun _ => True) (okp := fun _ => True) ?hr ?hp (fun _ hk => hk) trivial (zs _ _) (zo _) (by simp) ?_; (case hd | hg => rfl); (case hr => exact (qS26)); (case hp => exact (qS48))
                         intro v631 w43 ho44 hb hg_ hnew_; clear hg_ hnew_
                         (first | rw [← Ny630.1] at ho44 | (simp only [Int.reduceToNat] at ho44; rw [← Ny630.1] at ho44))
                         have HO632 := za (qS85 ho44 HO_10.1 HO621.1); replace HO_10 := za (qS67 HO_10.1 ho44); replace HO621 := za (qS67 HO621.1 ho44); replace HR625 := za (zG (qS12 HR625.1) hb); replace HR639 := za (zG (qS12 HR639.1) hb); replace HB := za qS64; clear hb ho44
                         refine hK.out _ _ (((HB.1.cell (zd w _ hw629_0)).trans hw629_0)) (fun hHeld => ?_)
                         clear hK K
                         refine norm_ (a' := ?_) ?_ ?_
                         rotate_left
                         ·exact qS12_c2
                         refine one_ (i := 4) (N := some 65) qSb39 rfl rfl (qS70) (by decide) (fun K hK => ?_)
                         refine zM (Kd.int .i64) (w0 := w) w.heap.size (by rfl) (.tmp 61) (.tmp 64) 25 3 (.int .i64 0) 8 rfl Try.underlying25 info3 rfl (by decide) (by omega) v620 y619 y622 _ _ _ (fun k_ => some k_ ≠ (.slice (some ad617) x10_2.length co20 : Value).ownBlock ∧ some k_ ≠ (v631 : Value).ownBlock) (fun _ => False) rfl rfl ?aO ?aR (fun _ _ h => h) (fun _ h => h.elim) ?aF ?aB ?aS ?aL ?_
                         (case aR => exact (qS68 HR625.1))
                         (case aB => exact (qS0))
                         (case aF => exact (qS81 HO_10.1 HO632.1))
                         (case aO => exact (qS31 HO621.1))
                         (case aS => exact (qS82))
                         (case aL => have := LMc30.1; omega)
                         intro v627 w45 ho hb hg hat; rw [← Ny626.1] at ho; replace HO632 := za qS99; replace HB := za hb
                         replace HR625 := za (by exact (show Kd.C (Kd.int .i64) w45 (some ad617) y622.length y622 from by rw [Ny622.1]; exact Kd.C_take (m := (x13_3 : Int).toNat) ((zH (Kd.R_after (ok := (fun k_ => some k_ ≠ (v631 : Value).ownBlock)) (qS40 HO_10.1) hg hat)).2.2) KL39.1))
                         replace HR639 := za (by exact (show Kd.C (Kd.int .i64) w45 A40 y636.length y636 from by rw [Ny636.1, KA40.1]; exact Kd.C_drop (m := (x13_3 : Int).toNat) (c := co20) ((zH (Kd.R_after (ok := (fun k_ => some k_ ≠ (v631 : Value).ownBlock)) (qS40 HO_10.1) hg hat)).2.2) KL40.1 ((zH (Kd.R_after (ok := (fun k_ => some k_ ≠ (v631 : Value).ownBlock)) (qS40 HO_10.1) hg hat)).2.1)))
                         replace HO_10 := za (by exact Kd.R_after (ok := (fun k_ => some k_ ≠ (v631 : Value).ownBlock)) (qS40 HO_10.1) hg hat); have HO628 := za ho; clear HO621; clear ho hb hg hat
                         refine hK.out _ _ (((HB.1.cell (zd w _ hw629_0)).trans hw629_0)) (fun hHeld => ?_)
                         clear hK K
                         refine norm_ (a' := ?_) ?_ ?_
                         rotate_left
                         ·exact qS12_c1
                         exact norm_ (qS37) (hCont (v620, v627, v631) _ ⟨hHeld, (qS28 HO628.1), (qS28 HO632.1), (qS28 HO_10.1), (qS0)⟩)
                       ·skip
                        refine Kd.R_lit_step (Kd.int .i64) _ 3 ?hg (N := 70) ?hd (xs := ([rd l3 x11_2] : List Int)) (inner := [.int .i64 (rd l3 x11_2)]) (ok := fun _ => True) (okp := fun _ => True) ?hr ?hp (fun _ hk => hk) trivial (zs _ _) (zo _) (by simp) ?_; (case hd | hg => rfl); (case hr => exact (qS26)); (case hp => exact (qS48))
                        intro v631 w41 ho42 hb hg_ hnew_; clear hg_ hnew_
                        (first | rw [← Ny630.1] at ho42 | (simp only [Int.reduceToNat] at ho42; rw [← Ny630.1] at ho42))
                        have HO632 := za (qS75 ho42 HO_10.1); replace HO_10 := za (qS67 HO_10.1 ho42); replace HR625 := za (zG (qS12 HR625.1) hb); replace HR639 := za (zG (qS12 HR639.1) hb); replace HB := za qS64; clear hb ho42
                        refine hK.out _ _ (((HB.1.cell (zd w _ hw629_0)).trans hw629_0)) (fun hHeld => ?_)
                        clear hK K
                        refine norm_ (a' := ?_) ?_ ?_
                        rotate_left
                        ·exact qS12_c2
                        refine one_ (i := 0) (N := some 61) qSb43 rfl rfl (qS70) (by decide) (fun K hK => ?_)
                        refine Kd.R_lit_step (Kd.int .i64) _ 3 ?hg (N := 61) ?hd (xs := ([] : List Int)) (inner := []) (ok := fun _ => True) (okp := fun _ => True) ?hr ?hp (fun _ hk => hk) trivial (zs _ _) (zo _) (by simp) ?_; (case hd | hg => rfl); (case hr => exact (qS26)); (case hp => exact (zu _ _))
                        intro v620 w43 ho44 hb hg_ hnew_; clear hg_ hnew_
                        (first | rw [← Ny619.1] at ho44 | (simp only [Int.reduceToNat] at ho44; rw [← Ny619.1] at ho44))
                        have HO621 := za (qS85 ho44 HO_10.1 HO632.1); replace HO_10 := za (qS67 HO_10.1 ho44); replace HO632 := za (qS67 HO632.1 ho44); replace HR625 := za (zG (qS12 HR625.1) hb); replace HR639 := za (zG (qS12 HR639.1) hb); replace HB := za qS64; clear hb ho44
                        refine hK.out _ _ (((HB.1.cell (zd w _ hw629_0)).trans hw629_0)) (fun hHeld => ?_)
                        clear hK K
                        refine norm_ (a' := ?_) ?_ ?_
                        rotate_left
                        ·exact qS12_c4
                        refine one_ (i := 4) (N := some 65) qSb39 rfl rfl (qS70) (by decide) (fun K hK => ?_)
                        refine zM (Kd.int .i64) (w0 := w) w.heap.size (by rfl) (.tmp 61) (.tmp 64) 25 3 (.int .i64 0) 8 rfl Try.underlying25 info3 rfl (by decide) (by omega) v620 y619 y622 _ _ _ (fun k_ => some k_ ≠ (.slice (some ad617) x10_2.length co20 : Value).ownBlock ∧ some k_ ≠ (v631 : Value).ownBlock) (fun _ => False) rfl rfl ?aO ?aR (fun _ _ h => h) (fun _ h => h.elim) ?aF ?aB ?aS ?aL ?_
                        (case aR => exact (qS68 HR625.1))
                        (case aB => exact (qS0))
                        (case aF => exact (qS81 HO_10.1 HO632.1))
                        (case aO => exact (qS31 HO621.1))
                        (case aS => exact (qS82))
                        (case aL => have := LMc30.1; omega)
                        intro v627 w45 ho hb hg hat; rw [← Ny626.1] at ho; replace HO632 := za qS99; replace HB := za hb
                        replace HR625 := za (by exact (show Kd.C (Kd.int .i64) w45 (some ad617) y622.length y622 from by rw [Ny622.1]; exact Kd.C_take (m := (x13_3 : Int).toNat) ((zH (Kd.R_after (ok := (fun k_ => some k_ ≠ (v631 : Value).ownBlock)) (qS31 HO_10.1) hg hat)).2.2) KL39.1))
                        replace HR639 := za (by exact (show Kd.C (Kd.int .i64) w45 A40 y636.length y636 from by rw [Ny636.1, KA40.1]; exact Kd.C_drop (m := (x13_3 : Int).toNat) (c := co20) ((zH (Kd.R_after (ok := (fun k_ => some k_ ≠ (v631 : Value).ownBlock)) (qS31 HO_10.1) hg hat)).2.2) KL40.1 ((zH (Kd.R_after (ok := (fun k_ => some k_ ≠ (v631 : Value).ownBlock)) (qS31 HO_10.1) hg hat)).2.1)))
                        replace HO_10 := za (by exact Kd.R_after (ok := (fun k_ => some k_ ≠ (v631 : Value).ownBlock)) (qS31 HO_10.1) hg hat); have HO628 := za ho; clear HO621; clear ho hb hg hat
                        refine hK.out _ _ (((HB.1.cell (zd w _ hw629_0)).trans hw629_0)) (fun hHeld => ?_)
                        clear hK K
                        refine norm_ (a' := ?_) ?_ ?_
                        rotate_left
                        ·exact qS12_c1
                        exact norm_ (qS37) (hCont (v620, v627, v631) _ ⟨hHeld, (qS28 HO628.1), (qS28 HO632.1), (qS28 HO_10.1), (qS0)⟩)
                      rintro ⟨v620, v627, v631⟩ w46 ⟨hS_, h0_, h1_, h2_, h3_⟩
                      have HO628 : Aside0 (Kd.R (Kd.int .i64) 3 w46 w.heap.size (fun k_ => some k_ ≠ (v631 : Value).ownBlock ∧ some k_ ≠ (.slice (some ad617) x10_2.length co20 : Value).ownBlock) v627 y626) := ⟨h0_⟩; have HO632 : Aside0 (Kd.R (Kd.int .i64) 3 w46 w.heap.size (fun k_ => some k_ ≠ (v627 : Value).ownBlock ∧ some k_ ≠ (.slice (some ad617) x10_2.length co20 : Value).ownBlock) v631 y630) := ⟨h1_⟩; replace HO_10 : Aside0 (Kd.R (Kd.int .i64) 3 w46 w.heap.size (fun k_ => some k_ ≠ (v627 : Value).ownBlock ∧ some k_ ≠ (v631 : Value).ownBlock) (.slice (some ad617) x10_2.length co20) x10_2) := ⟨h2_⟩; replace HB : Aside0 (Below w.heap.size w w46) := ⟨h3_⟩; clear h0_ h1_ h2_ h3_; have hHeld : w46.cell? (ad615.add (x11_2).toNat) = some (.int .i64 (rd l3 x11_2)) := hS_; clear HR625
                      have HR625 := za (by exact show Kd.C (Kd.int .i64) w46 (some ad617) y622.length y622 from by rw [Ny622.1]; exact Kd.C_take (m := (x13_3 : Int).toNat) ((zH HO_10.1).2.2) KL39.1)
                      clear HR639
                      have HR639 := za (by exact show Kd.C (Kd.int .i64) w46 A40 y636.length y636 from by rw [Ny636.1, KA40.1]; exact Kd.C_drop (m := (x13_3 : Int).toNat) (c := co20) ((zH HO_10.1).2.2) KL40.1 ((zH HO_10.1).2.1))
                      obtain ⟨Ao48, co48, eo48⟩ := zI HO632.1
                      (first | subst eo48 | (injection eo48 with f1_ f2_ f3_; have f4_ := f1_.symm; have f5_ := f3_.symm; clear f1_ f2_ f3_; subst f4_; subst f5_))
                      refine norm_ (a' := ?_) ?_ ?_
                      rotate_left
                      ·simp only [putAll, Act.put, yf, yg, yh]
                       rfl
                      refine one_ (i := 10) (N := some 71) qSb44 rfl rfl (qS70) (by decide) (fun K hK => ?_)
                      refine zM (Kd.int .i64) (w0 := w) w.heap.size (by rfl) (.tmp 65) (.tmp 70) 25 3 (.int .i64 0) 8 rfl Try.underlying25 info3 rfl (by decide) (by omega) v627 y626 y630 _ _ _ (fun k_ => some k_ ≠ (.slice (some ad617) x10_2.length co20 : Value).ownBlock ∧ some k_ ≠ (.slice Ao48 y630.length co48 : Value).ownBlock) (fun _ => False) rfl rfl ?aO ?aR (fun _ _ h => h) (fun _ h => h.elim) ?aF ?aB ?aS ?aL ?_
                      (case aR => exact (qS7 HO632.1))
                      (case aB => exact (qS0))
                      (case aF => exact (qS81 HO_10.1 HO632.1))
                      (case aO => exact (qS28 HO628.1))
                      (case aS => exact (qS82))
                      (case aL => have := LMc33.1; omega)
                      intro v634 w47 ho hb hg hat; rw [← Ny633.1] at ho; replace HO632 := za (by exact Kd.R_after (ok := (fun k_ => some k_ ≠ (.slice (some ad617) x10_2.length co20 : Value).ownBlock)) (qS28 HO632.1) hg hat); replace HB := za hb
                      replace HR625 := za (by exact (show Kd.C (Kd.int .i64) w47 (some ad617) y622.length y622 from by rw [Ny622.1]; exact Kd.C_take (m := (x13_3 : Int).toNat) ((zH (Kd.R_after (ok := (fun k_ => some k_ ≠ (.slice Ao48 y630.length co48 : Value).ownBlock)) (qS28 HO_10.1) hg hat)).2.2) KL39.1))
                      replace HR639 := za (by exact (show Kd.C (Kd.int .i64) w47 A40 y636.length y636 from by rw [Ny636.1, KA40.1]; exact Kd.C_drop (m := (x13_3 : Int).toNat) (c := co20) ((zH (Kd.R_after (ok := (fun k_ => some k_ ≠ (.slice Ao48 y630.length co48 : Value).ownBlock)) (qS28 HO_10.1) hg hat)).2.2) KL40.1 ((zH (Kd.R_after (ok := (fun k_ => some k_ ≠ (.slice Ao48 y630.length co48 : Value).ownBlock)) (qS28 HO_10.1) hg hat)).2.1)))
                      replace HO_10 := za (by exact Kd.R_after (ok := (fun k_ => some k_ ≠ (.slice Ao48 y630.length co48 : Value).ownBlock)) (qS28 HO_10.1) hg hat); have HO635 := za ho; clear HO628; clear ho hb hg hat
                      refine hK.out _ _ (((HB.1.cell (zd w _ hw629_0)).trans hw629_0)) (fun hHeld => ?_)
                      clear hK K
                      refine norm_ (a' := ?_) ?_ ?_
                      rotate_left
                      ·show Act.put _ (some 71) _ = _
                       simp only [Act.put, yf, yg, yh, i64_w, i32_w]
                       rfl
                      refine one_ (i := 14) (N := some 75) qSb45 rfl rfl (qS70) (by decide) (fun K hK => ?_)
                      refine zM (Kd.int .i64) (w0 := w) w.heap.size (by rfl) (.tmp 71) (.tmp 74) 25 3 (.int .i64 0) 8 rfl Try.underlying25 info3 rfl (by decide) (by omega) v634 y633 y636 _ _ _ (fun k_ => some k_ ≠ (.slice (some ad617) x10_2.length co20 : Value).ownBlock ∧ some k_ ≠ (.slice Ao48 y630.length co48 : Value).ownBlock) (fun _ => False) rfl rfl ?aO ?aR (fun _ _ h => h) (fun _ h => h.elim) ?aF ?aB ?aS ?aL ?_
                      (case aR => exact (qS68 HR639.1))
                      (case aB => exact (qS0))
                      (case aF => exact (qS81 HO_10.1 HO632.1))
                      (case aO => exact (qS1 HO635.1))
                      (case aS => exact (qS82))
                      (case aL => have := LMc36.1; omega)
                      intro v641 w49 ho hb hg hat; rw [← Ny640.1] at ho; replace HO632 := za (by exact Kd.R_after (ok := (fun k_ => some k_ ≠ (.slice (some ad617) x10_2.length co20 : Value).ownBlock)) (qS1 HO632.1) hg hat); replace HB := za hb
                      replace HR625 := za (by exact (show Kd.C (Kd.int .i64) w49 (some ad617) y622.length y622 from by rw [Ny622.1]; exact Kd.C_take (m := (x13_3 : Int).toNat) ((zH (Kd.R_after (ok := (fun k_ => some k_ ≠ (.slice Ao48 y630.length co48 : Value).ownBlock)) (qS1 HO_10.1) hg hat)).2.2) KL39.1))
                      replace HR639 := za (by exact (show Kd.C (Kd.int .i64) w49 A40 y636.length y636 from by rw [Ny636.1, KA40.1]; exact Kd.C_drop (m := (x13_3 : Int).toNat) (c := co20) ((zH (Kd.R_after (ok := (fun k_ => some k_ ≠ (.slice Ao48 y630.length co48 : Value).ownBlock)) (qS1 HO_10.1) hg hat)).2.2) KL40.1 ((zH (Kd.R_after (ok := (fun k_ => some k_ ≠ (.slice Ao48 y630.length co48 : Value).ownBlock)) (qS1 HO_10.1) hg hat)).2.1)))
                      replace HO_10 := za (by exact Kd.R_after (ok := (fun k_ => some k_ ≠ (.slice Ao48 y630.length co48 : Value).ownBlock)) (qS1 HO_10.1) hg hat); have HO642 := za ho; clear HO635; clear ho hb hg hat
                      refine hK.out _ _ (((HB.1.cell (zd w _ hw629_0)).trans hw629_0)) (fun hHeld => ?_)
                      clear hK K
                      refine norm_ (a' := ?_) ?_ ?_
                      rotate_left
                      ·show Act.put _ (some 75) _ = _
                       simp only [Act.put, yf, yg, yh, i64_w, i32_w]
                       rfl
                      refine pure_ (i := 15) (N := some 10) (v := ?_) (a' := ?_) qSb46 rfl rfl (qS24) (fun _ _ _ h => h) (zY ⟨by rfl, ?_⟩) ?_ ?_
                      rotate_left; exact qS12_c3; rotate_left; exact qS12_c0
                      refine done_ (qS88) ?_
                      try go_wp2
                      go_roundg k3
                      case measure => have := HJ4.1; have := HK2.1; have := HK3.1; omega
                      case rel => exact ⟨(y640), (wrap64 (x11_2 + 1)), (qS16), H', ⟨by have := HJ4.1; have := HK2.1; have := HK3.1; omega⟩, ⟨(qS32 HO642.1)⟩, ⟨(qS0)⟩⟩
                     ·rw [yc c36] at H
                      exact absurd H (by simp)
                    ·rw [yc c33] at H
                     exact absurd H (by simp)
                   ·rw [yc c32] at H
                    exact absurd H (by simp)
                  ·rw [yc c31] at H
                   exact absurd H (by simp)
                 ·rw [yc c30] at H
                  exact absurd H (by simp)
                ·rw [yc c29] at H
                 exact absurd H (by simp)
               ·rw [yc c28] at H
                exact absurd H (by simp)
             ·rw [yc c24] at H
              exact absurd H (by simp)
            ·rw [yc c23] at H
             exact absurd H (by simp)
           ·rw [yc c21] at H; have c21b0 : decide (0 < x13_3) = false := zv c21; clear c21; obtain ⟨y643, hy643⟩ : ∃ y_ : List Int, y_ = (([] : List Int)) := ⟨_, rfl⟩; replace H : (if 0 ≤ x13_3 then (if x13_3 ≤ (x10_2.length : Int) then ((some (x10_2.take (x13_3 : Int).toNat : List Int)).bind fun y646 => (if y643.length + y646.length < 17592186044416 then ((some (y643 ++ y646 : List Int)).bind fun y650 => (if 0 ≤ x11_2 then (if x11_2 < (l3.length : Int) then ((some (([rd l3 x11_2] : List Int) : List Int)).bind fun y654 => (if y650.length + y654.length < 17592186044416 then ((some (y650 ++ y654 : List Int)).bind fun y657 => ((some (x10_2.drop (x13_3 : Int).toNat : List Int)).bind fun y660 => (if y657.length + y660.length < 17592186044416 then (spec_RescueOrder.l0 k3 l0 l1 a2 l3 (y657 ++ y660) (wrap64 (x11_2 + 1))) else (none)))) else (none))) else (none)) else (none))) else (none))) else (none)) else (none)) = some (r1, r2) := (qS4 hy643); have Ny643 := za hy643; clear hy643
            by_cases c50 : 0 ≤ x13_3
            ·rw [yb c50] at H; have c50b0 := zw c50; have c50b1 : decide (0 ≤ x13_3) = true := zc c50; clear c50
             by_cases c51 : x13_3 ≤ (x10_2.length : Int)
             ·rw [yb c51] at H; have c51b0 := zw c51; have c51b1 : decide (x13_3 ≤ (x10_2.length : Int)) = true := zc c51; clear c51; obtain ⟨y646, hy646⟩ : ∃ y_ : List Int, y_ = (x10_2.take (x13_3 : Int).toNat) := ⟨_, rfl⟩; replace H : (if y643.length + y646.length < 17592186044416 then ((some (y643 ++ y646 : List Int)).bind fun y650 => (if 0 ≤ x11_2 then (if x11_2 < (l3.length : Int) then ((some (([rd l3 x11_2] : List Int) : List Int)).bind fun y654 => (if y650.length + y654.length < 17592186044416 then ((some (y650 ++ y654 : List Int)).bind fun y657 => ((some (x10_2.drop (x13_3 : Int).toNat : List Int)).bind fun y660 => (if y657.length + y660.length < 17592186044416 then (spec_RescueOrder.l0 k3 l0 l1 a2 l3 (y657 ++ y660) (wrap64 (x11_2 + 1))) else (none)))) else (none))) else (none)) else (none))) else (none)) = some (r1, r2) := (qS4 hy646); have Ny646 := za hy646; clear hy646
              by_cases c52 : y643.length + y646.length < 17592186044416
              ·rw [yb c52] at H; have LMc52 := za c52; clear c52; obtain ⟨y650, hy650⟩ : ∃ y_ : List Int, y_ = (y643 ++ y646) := ⟨_, rfl⟩; replace H : (if 0 ≤ x11_2 then (if x11_2 < (l3.length : Int) then ((some (([rd l3 x11_2] : List Int) : List Int)).bind fun y654 => (if y650.length + y654.length < 17592186044416 then ((some (y650 ++ y654 : List Int)).bind fun y657 => ((some (x10_2.drop (x13_3 : Int).toNat : List Int)).bind fun y660 => (if y657.length + y660.length < 17592186044416 then (spec_RescueOrder.l0 k3 l0 l1 a2 l3 (y657 ++ y660) (wrap64 (x11_2 + 1))) else (none)))) else (none))) else (none)) else (none)) = some (r1, r2) := (qS4 hy650); have Ny650 := za hy650; clear hy650
               by_cases c53 : 0 ≤ x11_2
               ·rw [yb c53] at H; have c53b0 : decide (0 ≤ x11_2) = true := zc c53; clear c53
                by_cases c54 : x11_2 < (l3.length : Int)
                ·rw [yb c54] at H; have c54b0 : decide (x11_2 < (l3.length : Int)) = true := zc c54; clear c54; obtain ⟨y654, hy654⟩ : ∃ y_ : List Int, y_ = (([rd l3 x11_2] : List Int)) := ⟨_, rfl⟩; replace H : (if y650.length + y654.length < 17592186044416 then ((some (y650 ++ y654 : List Int)).bind fun y657 => ((some (x10_2.drop (x13_3 : Int).toNat : List Int)).bind fun y660 => (if y657.length + y660.length < 17592186044416 then (spec_RescueOrder.l0 k3 l0 l1 a2 l3 (y657 ++ y660) (wrap64 (x11_2 + 1))) else (none)))) else (none)) = some (r1, r2) := (qS4 hy654); have Ny654 := za hy654; clear hy654
                 by_cases c55 : y650.length + y654.length < 17592186044416
                 ·rw [yb c55] at H; have LMc55 := za c55; clear c55; obtain ⟨y657, hy657⟩ : ∃ y_ : List Int, y_ = (y650 ++ y654) := ⟨_, rfl⟩; replace H : ((some (x10_2.drop (x13_3 : Int).toNat : List Int)).bind fun y660 => (if y657.length + y660.length < 17592186044416 then (spec_RescueOrder.l0 k3 l0 l1 a2 l3 (y657 ++ y660) (wrap64 (x11_2 + 1))) else (none))) = some (r1, r2) := (qS4 hy657); have Ny657 := za hy657; clear hy657; have c56b0 := zw (zb (qS8) : 0 ≤ x13_3); have c57b0 := zw (zb (qS8) : x13_3 ≤ (x10_2.length : Int)); obtain ⟨y660, hy660⟩ : ∃ y_ : List Int, y_ = (x10_2.drop (x13_3 : Int).toNat) := ⟨_, rfl⟩; replace H : (if y657.length + y660.length < 17592186044416 then (spec_RescueOrder.l0 k3 l0 l1 a2 l3 (y657 ++ y660) (wrap64 (x11_2 + 1))) else (none)) = some (r1, r2) := (qS4 hy660); have Ny660 := za hy660; clear hy660
                  by_cases c58 : y657.length + y660.length < 17592186044416
                  ·rw [yb c58] at H; have LMc58 := za c58; clear c58; obtain ⟨y664, hy664⟩ : ∃ y_ : List Int, y_ = (y657 ++ y660) := ⟨_, rfl⟩; replace H : (spec_RescueOrder.l0 k3 l0 l1 a2 l3 y664 (wrap64 (x11_2 + 1))) = some (r1, r2) := (qS4 hy664); have Ny664 := za hy664; clear hy664; have H' := za H; clear H
                   try go_wp2
                   replace HO_10 := za (zO HO_10.1); replace HB := za (below_drew1 HB.1); have q60 : (x13_3 : Int) ≤ ((x10_2.length : Int) : Int) := zb (qS8); obtain ⟨i060, hi060, _, hsz60, _⟩ := info_parts info3; have hroom60 : x10_2.length ≤ co20 := (zH HO_10.1).2.1; have hC60 : Kd.C (Kd.int .i64) _ Ao20 x10_2.length x10_2 := (zH HO_10.1).2.2; have hcut60 := cut_to (P := Try.prog) 25 3 .i64 Try.underlying25 hi060 Ao20 x10_2.length co20 x13_3 (zb (qS8)) q60 hroom60; have hr60 := Kd.C_take (m := (x13_3 : Int).toNat) hC60 (by omega); have hy60 : y646.length = (x13_3 : Int).toNat := (by rw [Ny646.1, List.length_take]; omega); rw [← Ny646.1] at hr60; rw [← hy60] at hcut60; have HR649 := za hr60
                   have HC649 := za (by exact show y646.length ≤ co20 from by omega)
                   clear hr60 hC60 hroom60 hi060 hsz60; have KY60 := za hy60; clear hy60; have KL60 := za qS59; replace q60 := zw q60; have p653 : 0 ≤ (x11_2 : Int) := zb (qS8); have q653 : x11_2 < (l3.length : Int) := zb (qS8); obtain ⟨ad653, e653, hx653_0⟩ := zJ HR3.1 x11_2 p653 q653; have hw653_0 := hx653_0; obtain rfl : ad615 = ad653 := (by injection e653); replace hx653_0 := (HB.1.cell (zd w _ hx653_0)).trans hx653_0; replace p653 := zw p653; replace q653 := zw q653; have q61 : (x13_3 : Int) ≤ ((x10_2.length : Int) : Int) := zb (qS8); obtain ⟨i061, hi061, _, hsz61, _⟩ := info_parts info3; have hroom61 : x10_2.length ≤ co20 := (zH HO_10.1).2.1; have hC61 : Kd.C (Kd.int .i64) _ Ao20 x10_2.length x10_2 := (zH HO_10.1).2.2; have q061 : (0 : Int) ≤ (x13_3 : Int) := zb (qS8); have hcut61 := cut_from (P := Try.prog) 25 3 .i64 Try.underlying25 hi061 1 hsz61 Ao20 x10_2.length co20 x13_3 q061 q61; have hr61 := Kd.C_drop (m := (x13_3 : Int).toNat) (c := co20) hC61 (by omega) hroom61; obtain ⟨A61, hA61⟩ : ∃ A1, A1 = (if co20 = (x13_3 : Int).toNat then Ao20 else (Ao20 : Option Addr).map (·.add ((x13_3 : Int).toNat * 1))) := ⟨_, rfl⟩; obtain ⟨c61, hc61⟩ : ∃ c1, c1 = co20 - (x13_3 : Int).toNat := ⟨_, rfl⟩; have hy61 : y660.length = x10_2.length - (x13_3 : Int).toNat := (qS61 Ny660.1); rw [show (x10_2).drop (x13_3 : Int).toNat = y660 from Ny660.1.symm] at hr61
                   replace hr61 : Kd.C (Kd.int .i64) _ A61 y660.length y660 := (by rw [hA61]; exact hr61); rw [← hy61, ← hA61, ← hc61] at hcut61; have HR663 := za hr61
                   have HC663 := za (by exact show y660.length ≤ c61 from by rw [hy61, hc61]; exact Nat.sub_le_sub_right hroom61 _)
                   clear hr61 hC61 hroom61 hi061 hsz61 hc61; have KY61 := za hy61; have KA61 := za hA61; clear hy61 hA61; have KL61 := za qS59; replace q61 := zw q61
                   refine start_ (n := 16) (S := fun w' => w'.cell? (ad615.add (x11_2).toNat) = some (.int .i64 (rd l3 x11_2))) (ds := []) qSb28 (qS27) rfl rfl (((HB.1.cell (zd w _ hw653_0)).trans hw653_0)) (fun hHeld => ?_); refine with_tabW spec_RescueOrder.tab12 spec_RescueOrder.bits12 (fun HT_ HW_ => ?_)
                   generalize wr.drew = w59 at HO_10 HB HR649 HR663 hx653_0 hHeld ⊢
                   refine pure_ (i := 1) (N := some 62) (v := ?_) (a' := ?_) qSb29 rfl rfl (qS24) (fun _ _ _ h => h) (zY ⟨by rfl, ?_⟩) ?_ ?_
                   rotate_left; exact qS12_c3; rotate_left; exact qS12_c0
                   refine pure_ (i := 2) (N := some 63) (v := ?_) (a' := ?_) qSb30 rfl rfl (qS24) (fun _ _ _ h => h) (zY ⟨by rfl, ?_⟩) ?_ ?_
                   rotate_left; exact qS12_c3; rotate_left; exact qS12_c0
                   refine pure_ (i := 3) (N := some 64) (v := ?_) (a' := ?_) qSb31 rfl rfl (qS24) (fun _ _ _ h => h) (zY ⟨by rfl, ?_⟩) ?_ ?_
                   rotate_left; exact qS12_c3; rotate_left; exact qS12_c0
                   refine pure_ (i := 5) (N := some 66) (v := ?_) (a' := ?_) qSb32 rfl rfl (qS24) (fun _ _ _ h => h) (zY ⟨by rfl, ?_⟩) ?_ ?_
                   rotate_left; exact qS12_c3; rotate_left; exact qS12_c0
                   refine pure_ (i := 6) (N := some 67) (v := ?_) (a' := ?_) qSb33 rfl rfl (qS24) (fun _ _ _ h => h) (zY ⟨by rfl, ?_⟩) ?_ ?_
                   rotate_left; exact qS12_c3; rotate_left; exact qS12_c0
                   refine pure_ (i := 7) (N := some 68) (v := ?_) (a' := ?_) qSb34 rfl rfl (qS24) (fun _ _ _ h => h) (zY ⟨by rfl, ?_⟩) ?_ ?_
                   rotate_left; exact qS12_c3; rotate_left; exact qS12_c0
                   refine pure_ (i := 11) (N := some 72) (v := ?_) (a' := ?_) qSb35 rfl rfl (qS24) (fun _ _ _ h => h) (zY ⟨by rfl, ?_⟩) ?_ ?_
                   rotate_left; exact qS12_c3; rotate_left; exact qS12_c0
                   refine pure_ (i := 12) (N := some 73) (v := ?_) (a' := ?_) qSb36 rfl rfl (qS24) (fun _ _ _ h => h) (zY ⟨by rfl, ?_⟩) ?_ ?_
                   rotate_left; exact qS12_c3; rotate_left; exact qS12_c0
                   refine pure_ (i := 13) (N := some 74) (v := ?_) (a' := ?_) qSb37 rfl rfl (qS24) (fun _ _ _ h => h) (zY ⟨by rfl, ?_⟩) ?_ ?_
                   rotate_left; exact qS12_c3; rotate_left; exact qS12_c0
                   refine take_ (i := 8) (N := some 69) (v := ?_) (a' := ?_) qSb38 rfl rfl (take_ofW HT_.1 HW_.1 (qS27)) (fun _ _ _ h => h) (zY ⟨by rfl, ?_⟩) hHeld ?_ ?_
                   rotate_left
                   ·intro w' s0
                    go_simp
                    with_reducible rfl
                   rotate_left
                   ·exact qS12_c0
                   refine join_ (σ := Value × Value × Value) 3 qSb39 (fun s_ => [(61, s_.1), (65, s_.2.1), (70, s_.2.2)]) (fun s_ w' => (w'.cell? (ad615.add (x11_2).toNat) = some (.int .i64 (rd l3 x11_2))) ∧ (Kd.R (Kd.int .i64) 3 w' w.heap.size (fun k_ => some k_ ≠ (s_.2.2 : Value).ownBlock ∧ some k_ ≠ (.slice Ao20 x10_2.length co20 : Value).ownBlock) s_.2.1 y650) ∧ (Kd.R (Kd.int .i64) 3 w' w.heap.size (fun k_ => some k_ ≠ (s_.2.1 : Value).ownBlock ∧ some k_ ≠ (.slice Ao20 x10_2.length co20 : Value).ownBlock) s_.2.2 y654) ∧ (Kd.R (Kd.int .i64) 3 w' w.heap.size (fun k_ => some k_ ≠ (s_.2.1 : Value).ownBlock ∧ some k_ ≠ (s_.2.2 : Value).ownBlock) (.slice Ao20 x10_2.length co20) x10_2) ∧ (Below w.heap.size w w')) ?_ ?_
                   rotate_left
                   ·intro hCont
                    refine two_ (i := 0) (j := 9) (Ni := some 61) (Nj := some 70) qSb40 qSb41 rfl rfl rfl rfl (two_of HT_.1 (qS27)) (by decide) (by decide) (fun K hK => ?_) (fun K hK => ?_)
                    ·skip
                     refine Kd.R_lit_step (Kd.int .i64) _ 3 ?hg (N := 61) ?hd (xs := ([] : List Int)) (inner := []) (ok := fun _ => True) (okp := fun _ => True) ?hr ?hp (fun _ hk => hk) trivial (zs _ _) (zo _) (by simp) ?_; (case hd | hg => rfl); (case hr => exact (qS26)); (case hp => exact (zu _ _))
                     intro v644 w62 ho63 hb hg_ hnew_; clear hg_ hnew_
                     (first | rw [← Ny643.1] at ho63 | (simp only [Int.reduceToNat] at ho63; rw [← Ny643.1] at ho63))
                     have HO645 := za (qS75 ho63 HO_10.1); replace HO_10 := za (qS67 HO_10.1 ho63); replace HR649 := za (zG (qS12 HR649.1) hb); replace HR663 := za (zG (qS12 HR663.1) hb); replace HB := za qS64; clear hb ho63
                     refine hK.out _ _ (((HB.1.cell (zd w _ hw653_0)).trans hw653_0)) (fun hHeld => ?_)
                     clear hK K
                     refine norm_ (a' := ?_) ?_ ?_
                     rotate_left
                     ·exact qS12_c4
                     refine two_ (i := 4) (j := 9) (Ni := some 65) (Nj := some 70) qSb42 qSb43 rfl rfl rfl rfl (two_of HT_.1 (qS27)) (by decide) (by decide) (fun K hK => ?_) (fun K hK => ?_)
                     ·skip
                      refine zM (Kd.int .i64) (w0 := w) w.heap.size (by rfl) (.tmp 61) (.tmp 64) 25 3 (.int .i64 0) 8 rfl Try.underlying25 info3 rfl (by decide) (by omega) v644 y643 y646 _ _ _ (fun k_ => some k_ ≠ (.slice Ao20 x10_2.length co20 : Value).ownBlock) (fun _ => False) rfl rfl ?aO ?aR (fun _ _ h => h) (fun _ h => h.elim) ?aF ?aB ?aS ?aL ?_
                      (case aR => exact (qS68 HR649.1))
                      (case aB => exact (qS0))
                      (case aF => exact (qS73 HO_10.1))
                      (case aO => exact (qS29 HO645.1))
                      (case aS => exact (qS82))
                      (case aL => have := LMc52.1; omega)
                      intro v651 w64 ho hb hg hat; rw [← Ny650.1] at ho; replace HB := za hb
                      replace HR649 := za (by exact (show Kd.C (Kd.int .i64) w64 Ao20 y646.length y646 from by rw [Ny646.1]; exact Kd.C_take (m := (x13_3 : Int).toNat) ((zH (Kd.R_after (ok := (fun _ => True)) (qS1 HO_10.1) hg hat)).2.2) KL60.1))
                      replace HR663 := za (by exact (show Kd.C (Kd.int .i64) w64 A61 y660.length y660 from by rw [Ny660.1, KA61.1]; exact Kd.C_drop (m := (x13_3 : Int).toNat) (c := co20) ((zH (Kd.R_after (ok := (fun _ => True)) (qS1 HO_10.1) hg hat)).2.2) KL61.1 ((zH (Kd.R_after (ok := (fun _ => True)) (qS1 HO_10.1) hg hat)).2.1)))
                      replace HO_10 := za (qS79 HO_10.1); have HO652 := za ho; clear HO645; clear ho hb hg hat
                      refine hK.out _ _ (((HB.1.cell (zd w _ hw653_0)).trans hw653_0)) (fun hHeld => ?_)
                      clear hK K
                      refine norm_ (a' := ?_) ?_ ?_
                      rotate_left
                      ·exact qS12_c1
                      refine one_ (i := 9) (N := some 70) qSb39 rfl rfl (qS70) (by decide) (fun K hK => ?_)
                      refine Kd.R_lit_step (Kd.int .i64) _ 3 ?hg (N := 70) ?hd (xs := ([rd l3 x11_2] : List Int)) (inner := [.int .i64 (rd l3 x11_2)]) (ok := fun _ => True) (okp := fun _ => True) ?hr ?hp (fun _ hk => hk) trivial (zs _ _) (zo _) (by simp) ?_; (case hd | hg => rfl); (case hr => exact (qS26)); (case hp => exact (qS48))
                      intro v655 w65 ho66 hb hg_ hnew_; clear hg_ hnew_
                      (first | rw [← Ny654.1] at ho66 | (simp only [Int.reduceToNat] at ho66; rw [← Ny654.1] at ho66))
                      have HO656 := za (qS85 ho66 HO_10.1 HO652.1); replace HO_10 := za (qS67 HO_10.1 ho66); replace HO652 := za (qS67 HO652.1 ho66); replace HR649 := za (zG (qS12 HR649.1) hb); replace HR663 := za (zG (qS12 HR663.1) hb); replace HB := za qS64; clear hb ho66
                      refine hK.out _ _ (((HB.1.cell (zd w _ hw653_0)).trans hw653_0)) (fun hHeld => ?_)
                      clear hK K
                      refine norm_ (a' := ?_) ?_ ?_
                      rotate_left
                      ·exact qS12_c2
                      exact norm_ (qS37) (hCont (v644, v651, v655) _ ⟨hHeld, (qS28 HO652.1), (qS40 HO656.1), (qS31 HO_10.1), (qS0)⟩)
                     ·skip
                      refine Kd.R_lit_step (Kd.int .i64) _ 3 ?hg (N := 70) ?hd (xs := ([rd l3 x11_2] : List Int)) (inner := [.int .i64 (rd l3 x11_2)]) (ok := fun _ => True) (okp := fun _ => True) ?hr ?hp (fun _ hk => hk) trivial (zs _ _) (zo _) (by simp) ?_; (case hd | hg => rfl); (case hr => exact (qS26)); (case hp => exact (qS48))
                      intro v655 w64 ho65 hb hg_ hnew_; clear hg_ hnew_
                      (first | rw [← Ny654.1] at ho65 | (simp only [Int.reduceToNat] at ho65; rw [← Ny654.1] at ho65))
                      have HO656 := za (qS85 ho65 HO_10.1 HO645.1); replace HO_10 := za (qS67 HO_10.1 ho65); replace HO645 := za (qS67 HO645.1 ho65); replace HR649 := za (zG (qS12 HR649.1) hb); replace HR663 := za (zG (qS12 HR663.1) hb); replace HB := za qS64; clear hb ho65
                      refine hK.out _ _ (((HB.1.cell (zd w _ hw653_0)).trans hw653_0)) (fun hHeld => ?_)
                      clear hK K
                      refine norm_ (a' := ?_) ?_ ?_
                      rotate_left
                      ·exact qS12_c2
                      refine one_ (i := 4) (N := some 65) qSb39 rfl rfl (qS70) (by decide) (fun K hK => ?_)
                      refine zM (Kd.int .i64) (w0 := w) w.heap.size (by rfl) (.tmp 61) (.tmp 64) 25 3 (.int .i64 0) 8 rfl Try.underlying25 info3 rfl (by decide) (by omega) v644 y643 y646 _ _ _ (fun k_ => some k_ ≠ (.slice Ao20 x10_2.length co20 : Value).ownBlock ∧ some k_ ≠ (v655 : Value).ownBlock) (fun _ => False) rfl rfl ?aO ?aR (fun _ _ h => h) (fun _ h => h.elim) ?aF ?aB ?aS ?aL ?_
                      (case aR => exact (qS68 HR649.1))
                      (case aB => exact (qS0))
                      (case aF => exact (qS81 HO_10.1 HO656.1))
                      (case aO => exact (qS31 HO645.1))
                      (case aS => exact (qS82))
                      (case aL => have := LMc52.1; omega)
                      intro v651 w66 ho hb hg hat; rw [← Ny650.1] at ho; replace HO656 := za qS101; replace HB := za hb
                      replace HR649 := za (by exact (show Kd.C (Kd.int .i64) w66 Ao20 y646.length y646 from by rw [Ny646.1]; exact Kd.C_take (m := (x13_3 : Int).toNat) ((zH (Kd.R_after (ok := (fun k_ => some k_ ≠ (v655 : Value).ownBlock)) (qS40 HO_10.1) hg hat)).2.2) KL60.1))
                      replace HR663 := za (by exact (show Kd.C (Kd.int .i64) w66 A61 y660.length y660 from by rw [Ny660.1, KA61.1]; exact Kd.C_drop (m := (x13_3 : Int).toNat) (c := co20) ((zH (Kd.R_after (ok := (fun k_ => some k_ ≠ (v655 : Value).ownBlock)) (qS40 HO_10.1) hg hat)).2.2) KL61.1 ((zH (Kd.R_after (ok := (fun k_ => some k_ ≠ (v655 : Value).ownBlock)) (qS40 HO_10.1) hg hat)).2.1)))
                      replace HO_10 := za (by exact Kd.R_after (ok := (fun k_ => some k_ ≠ (v655 : Value).ownBlock)) (qS40 HO_10.1) hg hat); have HO652 := za ho; clear HO645; clear ho hb hg hat
                      refine hK.out _ _ (((HB.1.cell (zd w _ hw653_0)).trans hw653_0)) (fun hHeld => ?_)
                      clear hK K
                      refine norm_ (a' := ?_) ?_ ?_
                      rotate_left
                      ·exact qS12_c1
                      exact norm_ (qS37) (hCont (v644, v651, v655) _ ⟨hHeld, (qS28 HO652.1), (qS28 HO656.1), (qS28 HO_10.1), (qS0)⟩)
                    ·skip
                     refine Kd.R_lit_step (Kd.int .i64) _ 3 ?hg (N := 70) ?hd (xs := ([rd l3 x11_2] : List Int)) (inner := [.int .i64 (rd l3 x11_2)]) (ok := fun _ => True) (okp := fun _ => True) ?hr ?hp (fun _ hk => hk) trivial (zs _ _) (zo _) (by simp) ?_; (case hd | hg => rfl); (case hr => exact (qS26)); (case hp => exact (qS48))
                     intro v655 w62 ho63 hb hg_ hnew_; clear hg_ hnew_
                     (first | rw [← Ny654.1] at ho63 | (simp only [Int.reduceToNat] at ho63; rw [← Ny654.1] at ho63))
                     have HO656 := za (qS75 ho63 HO_10.1); replace HO_10 := za (qS67 HO_10.1 ho63); replace HR649 := za (zG (qS12 HR649.1) hb); replace HR663 := za (zG (qS12 HR663.1) hb); replace HB := za qS64; clear hb ho63
                     refine hK.out _ _ (((HB.1.cell (zd w _ hw653_0)).trans hw653_0)) (fun hHeld => ?_)
                     clear hK K
                     refine norm_ (a' := ?_) ?_ ?_
                     rotate_left
                     ·exact qS12_c2
                     refine one_ (i := 0) (N := some 61) qSb43 rfl rfl (qS70) (by decide) (fun K hK => ?_)
                     refine Kd.R_lit_step (Kd.int .i64) _ 3 ?hg (N := 61) ?hd (xs := ([] : List Int)) (inner := []) (ok := fun _ => True) (okp := fun _ => True) ?hr ?hp (fun _ hk => hk) trivial (zs _ _) (zo _) (by simp) ?_; (case hd | hg => rfl); (case hr => exact (qS26)); (case hp => exact (zu _ _))
                     intro v644 w64 ho65 hb hg_ hnew_; clear hg_ hnew_
                     (first | rw [← Ny643.1] at ho65 | (simp only [Int.reduceToNat] at ho65; rw [← Ny643.1] at ho65))
                     have HO645 := za (qS85 ho65 HO_10.1 HO656.1); replace HO_10 := za (qS67 HO_10.1 ho65); replace HO656 := za (qS67 HO656.1 ho65); replace HR649 := za (zG (qS12 HR649.1) hb); replace HR663 := za (zG (qS12 HR663.1) hb); replace HB := za qS64; clear hb ho65
                     refine hK.out _ _ (((HB.1.cell (zd w _ hw653_0)).trans hw653_0)) (fun hHeld => ?_)
                     clear hK K
                     refine norm_ (a' := ?_) ?_ ?_
                     rotate_left
                     ·exact qS12_c4
                     refine one_ (i := 4) (N := some 65) qSb39 rfl rfl (qS70) (by decide) (fun K hK => ?_)
                     refine zM (Kd.int .i64) (w0 := w) w.heap.size (by rfl) (.tmp 61) (.tmp 64) 25 3 (.int .i64 0) 8 rfl Try.underlying25 info3 rfl (by decide) (by omega) v644 y643 y646 _ _ _ (fun k_ => some k_ ≠ (.slice Ao20 x10_2.length co20 : Value).ownBlock ∧ some k_ ≠ (v655 : Value).ownBlock) (fun _ => False) rfl rfl ?aO ?aR (fun _ _ h => h) (fun _ h => h.elim) ?aF ?aB ?aS ?aL ?_
                     (case aR => exact (qS68 HR649.1))
                     (case aB => exact (qS0))
                     (case aF => exact (qS81 HO_10.1 HO656.1))
                     (case aO => exact (qS31 HO645.1))
                     (case aS => exact (qS82))
                     (case aL => have := LMc52.1; omega)
                     intro v651 w66 ho hb hg hat; rw [← Ny650.1] at ho; replace HO656 := za qS101; replace HB := za hb
                     replace HR649 := za (by exact (show Kd.C (Kd.int .i64) w66 Ao20 y646.length y646 from by rw [Ny646.1]; exact Kd.C_take (m := (x13_3 : Int).toNat) ((zH (Kd.R_after (ok := (fun k_ => some k_ ≠ (v655 : Value).ownBlock)) (qS31 HO_10.1) hg hat)).2.2) KL60.1))
                     replace HR663 := za (by exact (show Kd.C (Kd.int .i64) w66 A61 y660.length y660 from by rw [Ny660.1, KA61.1]; exact Kd.C_drop (m := (x13_3 : Int).toNat) (c := co20) ((zH (Kd.R_after (ok := (fun k_ => some k_ ≠ (v655 : Value).ownBlock)) (qS31 HO_10.1) hg hat)).2.2) KL61.1 ((zH (Kd.R_after (ok := (fun k_ => some k_ ≠ (v655 : Value).ownBlock)) (qS31 HO_10.1) hg hat)).2.1)))
                     replace HO_10 := za (by exact Kd.R_after (ok := (fun k_ => some k_ ≠ (v655 : Value).ownBlock)) (qS31 HO_10.1) hg hat); have HO652 := za ho; clear HO645; clear ho hb hg hat
                     refine hK.out _ _ (((HB.1.cell (zd w _ hw653_0)).trans hw653_0)) (fun hHeld => ?_)
                     clear hK K
                     refine norm_ (a' := ?_) ?_ ?_
                     rotate_left
                     ·exact qS12_c1
                     exact norm_ (qS37) (hCont (v644, v651, v655) _ ⟨hHeld, (qS28 HO652.1), (qS28 HO656.1), (qS28 HO_10.1), (qS0)⟩)
                   rintro ⟨v644, v651, v655⟩ w67 ⟨hS_, h0_, h1_, h2_, h3_⟩
                   have HO652 : Aside0 (Kd.R (Kd.int .i64) 3 w67 w.heap.size (fun k_ => some k_ ≠ (v655 : Value).ownBlock ∧ some k_ ≠ (.slice Ao20 x10_2.length co20 : Value).ownBlock) v651 y650) := ⟨h0_⟩; have HO656 : Aside0 (Kd.R (Kd.int .i64) 3 w67 w.heap.size (fun k_ => some k_ ≠ (v651 : Value).ownBlock ∧ some k_ ≠ (.slice Ao20 x10_2.length co20 : Value).ownBlock) v655 y654) := ⟨h1_⟩; replace HO_10 : Aside0 (Kd.R (Kd.int .i64) 3 w67 w.heap.size (fun k_ => some k_ ≠ (v651 : Value).ownBlock ∧ some k_ ≠ (v655 : Value).ownBlock) (.slice Ao20 x10_2.length co20) x10_2) := ⟨h2_⟩; replace HB : Aside0 (Below w.heap.size w w67) := ⟨h3_⟩; clear h0_ h1_ h2_ h3_; have hHeld : w67.cell? (ad615.add (x11_2).toNat) = some (.int .i64 (rd l3 x11_2)) := hS_; clear HR649
                   have HR649 := za (by exact show Kd.C (Kd.int .i64) w67 Ao20 y646.length y646 from by rw [Ny646.1]; exact Kd.C_take (m := (x13_3 : Int).toNat) ((zH HO_10.1).2.2) KL60.1)
                   clear HR663
                   have HR663 := za (by exact show Kd.C (Kd.int .i64) w67 A61 y660.length y660 from by rw [Ny660.1, KA61.1]; exact Kd.C_drop (m := (x13_3 : Int).toNat) (c := co20) ((zH HO_10.1).2.2) KL61.1 ((zH HO_10.1).2.1))
                   obtain ⟨Ao69, co69, eo69⟩ := zI HO656.1
                   (first | subst eo69 | (injection eo69 with f1_ f2_ f3_; have f4_ := f1_.symm; have f5_ := f3_.symm; clear f1_ f2_ f3_; subst f4_; subst f5_))
                   refine norm_ (a' := ?_) ?_ ?_
                   rotate_left
                   ·simp only [putAll, Act.put, yf, yg, yh]
                    rfl
                   refine one_ (i := 10) (N := some 71) qSb44 rfl rfl (qS70) (by decide) (fun K hK => ?_)
                   refine zM (Kd.int .i64) (w0 := w) w.heap.size (by rfl) (.tmp 65) (.tmp 70) 25 3 (.int .i64 0) 8 rfl Try.underlying25 info3 rfl (by decide) (by omega) v651 y650 y654 _ _ _ (fun k_ => some k_ ≠ (.slice Ao20 x10_2.length co20 : Value).ownBlock ∧ some k_ ≠ (.slice Ao69 y654.length co69 : Value).ownBlock) (fun _ => False) rfl rfl ?aO ?aR (fun _ _ h => h) (fun _ h => h.elim) ?aF ?aB ?aS ?aL ?_
                   (case aR => exact (qS7 HO656.1))
                   (case aB => exact (qS0))
                   (case aF => exact (qS81 HO_10.1 HO656.1))
                   (case aO => exact (qS28 HO652.1))
                   (case aS => exact (qS82))
                   (case aL => have := LMc55.1; omega)
                   intro v658 w68 ho hb hg hat; rw [← Ny657.1] at ho; replace HO656 := za (by exact Kd.R_after (ok := (fun k_ => some k_ ≠ (.slice Ao20 x10_2.length co20 : Value).ownBlock)) (qS28 HO656.1) hg hat); replace HB := za hb
                   replace HR649 := za (by exact (show Kd.C (Kd.int .i64) w68 Ao20 y646.length y646 from by rw [Ny646.1]; exact Kd.C_take (m := (x13_3 : Int).toNat) ((zH (Kd.R_after (ok := (fun k_ => some k_ ≠ (.slice Ao69 y654.length co69 : Value).ownBlock)) (qS28 HO_10.1) hg hat)).2.2) KL60.1))
                   replace HR663 := za (by exact (show Kd.C (Kd.int .i64) w68 A61 y660.length y660 from by rw [Ny660.1, KA61.1]; exact Kd.C_drop (m := (x13_3 : Int).toNat) (c := co20) ((zH (Kd.R_after (ok := (fun k_ => some k_ ≠ (.slice Ao69 y654.length co69 : Value).ownBlock)) (qS28 HO_10.1) hg hat)).2.2) KL61.1 ((zH (Kd.R_after (ok := (fun k_ => some k_ ≠ (.slice Ao69 y654.length co69 : Value).ownBlock)) (qS28 HO_10.1) hg hat)).2.1)))
                   replace HO_10 := za (by exact Kd.R_after (ok := (fun k_ => some k_ ≠ (.slice Ao69 y654.length co69 : Value).ownBlock)) (qS28 HO_10.1) hg hat); have HO659 := za ho; clear HO652; clear ho hb hg hat
                   refine hK.out _ _ (((HB.1.cell (zd w _ hw653_0)).trans hw653_0)) (fun hHeld => ?_)
                   clear hK K
                   refine norm_ (a' := ?_) ?_ ?_
                   rotate_left
                   ·show Act.put _ (some 71) _ = _
                    simp only [Act.put, yf, yg, yh, i64_w, i32_w]
                    rfl
                   refine one_ (i := 14) (N := some 75) qSb45 rfl rfl (qS70) (by decide) (fun K hK => ?_)
                   refine zM (Kd.int .i64) (w0 := w) w.heap.size (by rfl) (.tmp 71) (.tmp 74) 25 3 (.int .i64 0) 8 rfl Try.underlying25 info3 rfl (by decide) (by omega) v658 y657 y660 _ _ _ (fun k_ => some k_ ≠ (.slice Ao20 x10_2.length co20 : Value).ownBlock ∧ some k_ ≠ (.slice Ao69 y654.length co69 : Value).ownBlock) (fun _ => False) rfl rfl ?aO ?aR (fun _ _ h => h) (fun _ h => h.elim) ?aF ?aB ?aS ?aL ?_
                   (case aR => exact (qS68 HR663.1))
                   (case aB => exact (qS0))
                   (case aF => exact (qS81 HO_10.1 HO656.1))
                   (case aO => exact (qS1 HO659.1))
                   (case aS => exact (qS82))
                   (case aL => have := LMc58.1; omega)
                   intro v665 w70 ho hb hg hat; rw [← Ny664.1] at ho; replace HO656 := za (by exact Kd.R_after (ok := (fun k_ => some k_ ≠ (.slice Ao20 x10_2.length co20 : Value).ownBlock)) (qS1 HO656.1) hg hat); replace HB := za hb
                   replace HR649 := za (by exact (show Kd.C (Kd.int .i64) w70 Ao20 y646.length y646 from by rw [Ny646.1]; exact Kd.C_take (m := (x13_3 : Int).toNat) ((zH (Kd.R_after (ok := (fun k_ => some k_ ≠ (.slice Ao69 y654.length co69 : Value).ownBlock)) (qS1 HO_10.1) hg hat)).2.2) KL60.1))
                   replace HR663 := za (by exact (show Kd.C (Kd.int .i64) w70 A61 y660.length y660 from by rw [Ny660.1, KA61.1]; exact Kd.C_drop (m := (x13_3 : Int).toNat) (c := co20) ((zH (Kd.R_after (ok := (fun k_ => some k_ ≠ (.slice Ao69 y654.length co69 : Value).ownBlock)) (qS1 HO_10.1) hg hat)).2.2) KL61.1 ((zH (Kd.R_after (ok := (fun k_ => some k_ ≠ (.slice Ao69 y654.length co69 : Value).ownBlock)) (qS1 HO_10.1) hg hat)).2.1)))
                   replace HO_10 := za (by exact Kd.R_after (ok := (fun k_ => some k_ ≠ (.slice Ao69 y654.length co69 : Value).ownBlock)) (qS1 HO_10.1) hg hat); have HO666 := za ho; clear HO659; clear ho hb hg hat
                   refine hK.out _ _ (((HB.1.cell (zd w _ hw653_0)).trans hw653_0)) (fun hHeld => ?_)
                   clear hK K
                   refine norm_ (a' := ?_) ?_ ?_
                   rotate_left
                   ·show Act.put _ (some 75) _ = _
                    simp only [Act.put, yf, yg, yh, i64_w, i32_w]
                    rfl
                   refine pure_ (i := 15) (N := some 10) (v := ?_) (a' := ?_) qSb46 rfl rfl (qS24) (fun _ _ _ h => h) (zY ⟨by rfl, ?_⟩) ?_ ?_
                   rotate_left; exact qS12_c3; rotate_left; exact qS12_c0
                   refine done_ (qS88) ?_
                   try go_wp2
                   go_roundg k3
                   case measure => have := HJ4.1; have := HK2.1; have := HK3.1; omega
                   case rel => exact ⟨(y664), (wrap64 (x11_2 + 1)), (qS16), H', ⟨by have := HJ4.1; have := HK2.1; have := HK3.1; omega⟩, ⟨(qS32 HO666.1)⟩, ⟨(qS0)⟩⟩
                  ·rw [yc c58] at H
                   exact absurd H (by simp)
                 ·rw [yc c55] at H
                  exact absurd H (by simp)
                ·rw [yc c54] at H
                 exact absurd H (by simp)
               ·rw [yc c53] at H
                exact absurd H (by simp)
              ·rw [yc c52] at H
               exact absurd H (by simp)
             ·rw [yc c51] at H
              exact absurd H (by simp)
            ·rw [yc c50] at H
             exact absurd H (by simp)
       ·rw [yc c15] at H
        exact absurd H (by simp)
      ·rw [yc c14] at H; have c14b0 : decide (x11_2 < (l3.length : Int)) = false := zv c14; clear c14; simp only [yd, ye] at H; obtain ⟨rfl, rfl⟩ := H
       go_wp2
       go_ret2
       exact ⟨_, (qS11), (qS1 HO_10.1), (qS0)⟩

def laws_vHas.l0 : Nat → List Int → Int → Int → Option (Bool)
 | 0, _, _, _ => none
 | k + 1, x0, x1, x5 => if x5 < (x0.length : Int) then (if 0 ≤ x5 then (if (rd x0 x5) = x1 then (some true) else (laws_vHas.l0 k x0 x1 (wrap64 (x5 + 1)))) else (none)) else (some false)
def laws_vHas.f (k : Nat) (l0 : List Int) (a1 : Int) : Option (Bool) := laws_vHas.l0 k l0 a1 0
set_option maxHeartbeats 8000000 in
set_option maxRecDepth 100000 in
theorem laws_vHas.calls (k : Nat) (A0 : Option Addr) (c0 : Nat) (l0 : List Int) (a1 : Int) (r : Bool) (w : World) (hr0 : Kd.C (Kd.int .i64) w A0 l0.length l0) (hc0 : l0.length ≤ c0) (h : laws_vHas.f k l0 a1 = some r) :
  Calls Try.prog 29 #[.slice A0 l0.length c0, .int .i64 a1] w fun e w' => e = .returned (.bool r) ∧ Drawn0 w w' := by
 have HR0 := za hr0; have HC0 := za hc0; clear hr0 hc0; have H : (laws_vHas.l0 k l0 a1 0) = some r := h; clear h; have H' := za H; clear H
 go_enter Try.func29, Try.ntmps29
 go_wp2
 go_loopg [5] k (fun kq v5 w' => ∃ (x5_1 : Int), v5 = .int .i64 x5_1 ∧ Aside0 (laws_vHas.l0 kq l0 a1 x5_1 = some r) ∧ Aside0 (kq ≤ k) ∧ Drawn0 w w')
 case atStart => exact ⟨(0), (qS16), H', ⟨zo _⟩, (qS30)⟩
 case round =>
  clear H'; (try clear c2); (try clear p2); obtain ⟨x5_1, rfl, HA, HK1, ⟨m1, rfl⟩⟩ := hrel
  cases gk with
  | zero => exact absurd HA.1 (by simp [laws_vHas.l0])
  | succ k1 =>
   have H := HA.1; clear HA; simp only [laws_vHas.l0] at H
   by_cases c3 : x5_1 < (l0.length : Int)
   ·rw [yb c3] at H; have c3b0 : decide (x5_1 < (l0.length : Int)) = true := zc c3; clear c3
    by_cases c4 : 0 ≤ x5_1
    ·rw [yb c4] at H; have c4b0 : decide (0 ≤ x5_1) = true := zc c4; clear c4
     by_cases c5 : (rd l0 x5_1) = a1
     ·rw [yb c5] at H; have c5b0 : ((rd l0 x5_1) == a1) = true := zT c5; have c5b1 : ((rd l0 x5_1) != a1) = false := zy c5; clear c5; obtain rfl := zm H; have p667 : 0 ≤ (x5_1 : Int) := zb (qS8); have q667 : x5_1 < (l0.length : Int) := zb (qS8); obtain ⟨ad667, e667, hx667_0⟩ := zJ HR0.1 x5_1 p667 q667; cases e667; replace p667 := zw p667; replace q667 := zw q667
      go_wp2
      go_ret
      exact ⟨(qS16), (qS30)⟩
     ·rw [yc c5] at H; have c5b0 : ((rd l0 x5_1) == a1) = false := zx c5; have c5b1 : ((rd l0 x5_1) != a1) = true := zU c5; have H' := za H; clear H; have p667 : 0 ≤ (x5_1 : Int) := zb (qS8); have q667 : x5_1 < (l0.length : Int) := zb (qS8); obtain ⟨ad667, e667, hx667_0⟩ := zJ HR0.1 x5_1 p667 q667; cases e667; replace p667 := zw p667; replace q667 := zw q667
      go_wp2
      go_roundg k1
      case measure => have := HK1.1; omega
      case rel => exact ⟨(wrap64 (x5_1 + 1)), (qS16), H', ⟨by have := HK1.1; omega⟩, (qS30)⟩
    ·rw [yc c4] at H
     exact absurd H (by simp)
   ·rw [yc c3] at H; have c3b0 : decide (x5_1 < (l0.length : Int)) = false := zv c3; clear c3; obtain rfl := zm H
    go_wp2
    go_ret
    exact ⟨(qS16), (qS30)⟩

def laws_vWithin.l0 : Nat → List Int → List Int → Int → Option (Bool)
 | 0, _, _, _ => none
 | k + 1, x0, x1, x5 => if x5 < (x0.length : Int) then (if 0 ≤ x5 then ((laws_vHas.f k x1 (rd x0 x5)).bind fun t669 => (if t669 = true then (laws_vWithin.l0 k x0 x1 (wrap64 (x5 + 1))) else (some false))) else (none)) else (some true)
def laws_vWithin.f (k : Nat) (l0 : List Int) (l1 : List Int) : Option (Bool) := laws_vWithin.l0 k l0 l1 0
set_option maxHeartbeats 8000000 in
set_option maxRecDepth 100000 in
theorem laws_vWithin.calls (k : Nat) (A0 : Option Addr) (c0 : Nat) (l0 : List Int) (A1 : Option Addr) (c1 : Nat) (l1 : List Int) (r : Bool) (w : World) (hr0 : Kd.C (Kd.int .i64) w A0 l0.length l0) (hc0 : l0.length ≤ c0) (hr1 : Kd.C (Kd.int .i64) w A1 l1.length l1) (hc1 : l1.length ≤ c1) (h : laws_vWithin.f k l0 l1 = some r) :
  Calls Try.prog 25 #[.slice A0 l0.length c0, .slice A1 l1.length c1] w fun e w' => e = .returned (.bool r) ∧ Drawn0 w w' := by
 have HR0 := za hr0; have HC0 := za hc0; clear hr0 hc0; have HR1 := za hr1; have HC1 := za hc1; clear hr1 hc1; have H : (laws_vWithin.l0 k l0 l1 0) = some r := h; clear h; have H' := za H; clear H
 go_enter Try.func25, Try.ntmps25
 go_wp2
 go_loopg [5] k (fun kq v5 w' => ∃ (x5_1 : Int), v5 = .int .i64 x5_1 ∧ Aside0 (laws_vWithin.l0 kq l0 l1 x5_1 = some r) ∧ Aside0 (kq ≤ k) ∧ Drawn0 w w')
 case atStart => exact ⟨(0), (qS16), H', ⟨zo _⟩, (qS30)⟩
 case round =>
  clear H'; (try clear c1); (try clear c2); (try clear p2); obtain ⟨x5_1, rfl, HA, HK1, ⟨m1, rfl⟩⟩ := hrel
  cases gk with
  | zero => exact absurd HA.1 (by simp [laws_vWithin.l0])
  | succ k1 =>
   have H := HA.1; clear HA; simp only [laws_vWithin.l0] at H
   by_cases c3 : x5_1 < (l0.length : Int)
   ·rw [yb c3] at H; have c3b0 : decide (x5_1 < (l0.length : Int)) = true := zc c3; clear c3
    by_cases c4 : 0 ≤ x5_1
    ·rw [yb c4] at H; have c4b0 : decide (0 ≤ x5_1) = true := zc c4; clear c4; replace H := bindA H; obtain ⟨t669, A5, H⟩ := H; (try dsimp only at H)
     by_cases c6 : t669 = true
     ·subst c6; rw [yb rfl] at H; have H' := za H; clear H; have p668 : 0 ≤ (x5_1 : Int) := zb (qS8); have q668 : x5_1 < (l0.length : Int) := zb (qS8); obtain ⟨ad668, e668, hx668_0⟩ := zJ HR0.1 x5_1 p668 q668; cases e668; replace p668 := zw p668; replace q668 := zw q668
      go_wp2_with (first | ((with_reducible refine zp (f := 29) rfl ?_); refine zV (some 17) rfl rfl Try.func29 (qS27) rfl #[.slice A1 l1.length c1, .int .i64 (rd l0 x5_1)] rfl (qS2) ?_; (with_reducible refine (laws_vHas.calls k1 _ _ l1 (rd l0 x5_1) true _ ?s1 ?s2 A5.1).mono ?_); (case s1 => exact (qS21 HR1.1)); (case s2 => exact HC1.1); rintro e w' ⟨rfl, ⟨nd, rfl⟩⟩; refine ⟨_, rfl, ?_⟩))
      go_roundg k1
      case measure => have := HK1.1; omega
      case rel => exact ⟨(wrap64 (x5_1 + 1)), (qS16), H', ⟨by have := HK1.1; omega⟩, (qS30)⟩
     ·replace c6 := zn c6; subst c6; rw [yc (show ¬ (false = true) by decide)] at H; obtain rfl := zm H; have p668 : 0 ≤ (x5_1 : Int) := zb (qS8); have q668 : x5_1 < (l0.length : Int) := zb (qS8); obtain ⟨ad668, e668, hx668_0⟩ := zJ HR0.1 x5_1 p668 q668; cases e668; replace p668 := zw p668; replace q668 := zw q668
      go_wp2_with (first | ((with_reducible refine zp (f := 29) rfl ?_); refine zV (some 17) rfl rfl Try.func29 (qS27) rfl #[.slice A1 l1.length c1, .int .i64 (rd l0 x5_1)] rfl (qS2) ?_; (with_reducible refine (laws_vHas.calls k1 _ _ l1 (rd l0 x5_1) false _ ?s1 ?s2 A5.1).mono ?_); (case s1 => exact (qS21 HR1.1)); (case s2 => exact HC1.1); rintro e w' ⟨rfl, ⟨nd, rfl⟩⟩; refine ⟨_, rfl, ?_⟩))
      go_ret
      exact ⟨(qS16), (qS30)⟩
    ·rw [yc c4] at H
     exact absurd H (by simp)
   ·rw [yc c3] at H; have c3b0 : decide (x5_1 < (l0.length : Int)) = false := zv c3; clear c3; obtain rfl := zm H
    go_wp2
    go_ret
    exact ⟨(qS16), (qS30)⟩

def spec_DrawStationsFor.f (k : Nat) (l0 : List Int) : Option ((List (S58)) × List Int × Int × Int) := (spec_l1Cur_wide.f k l0 0 0).bind fun bt671 => ((spec_l1Cur_stationOf.f l0 bt671.2.2.1 bt671.2.2.2).bind fun bt679 => ((spec_l1Cur_among.f l0 bt679.2.1 bt679.2.2 (([0, 3, 5, 8, 20, 200, 201, (-1)] : List Int))).bind fun bt685 => (some (bt671.1, bt671.2.1, bt679.1, bt685.1))))
set_option maxHeartbeats 8000000 in
set_option maxRecDepth 100000 in
theorem spec_DrawStationsFor.calls (k : Nat) (A0 : Option Addr) (c0 : Nat) (l0 : List Int) (r1 : List (S58)) (r2 : List Int) (r3 : Int) (r4 : Int) (w : World) (hr0 : Kd.C (Kd.int .u8) w A0 l0.length l0) (hc0 : l0.length ≤ c0) (h : spec_DrawStationsFor.f k l0 = some (r1, r2, r3, r4)) :
  Calls Try.prog 26 #[.slice A0 l0.length c0] w fun e w' => ∃ v0_ v1_ : Value, e = .returned (.tuple #[v0_, v1_, .int .i64 r3, .int .i64 r4]) ∧ Kd.R k58 58 w' w.heap.size (fun _ => True) v0_ r1 ∧ Kd.R (Kd.int .i64) 3 w' w.heap.size (fun _ => True) v1_ r2 ∧ Below w.heap.size w w' := by
 have hu47 := Try.underlying47; have HR0 := za hr0; have HC0 := za hc0; clear hr0 hc0; have HB := za (zs w.heap.size w); have H : ((spec_l1Cur_wide.f k l0 0 0).bind fun bt671 => ((spec_l1Cur_stationOf.f l0 bt671.2.2.1 bt671.2.2.2).bind fun bt679 => ((spec_l1Cur_among.f l0 bt679.2.1 bt679.2.2 (([0, 3, 5, 8, 20, 200, 201, (-1)] : List Int))).bind fun bt685 => (some (bt671.1, bt671.2.1, bt679.1, bt685.1))))) = some (r1, r2, r3, r4) := h; clear h; replace H := bindA H; obtain ⟨⟨t671, t674, t677, t678⟩, A2, H⟩ := H; (try dsimp only at H); replace H := bindA H; obtain ⟨⟨t679, t680, t681⟩, A3, H⟩ := H; (try dsimp only at H); obtain ⟨y682, hy682⟩ : ∃ y_ : List Int, y_ = (([0, 3, 5, 8, 20, 200, 201, (-1)] : List Int)) := ⟨_, rfl⟩; replace H : ((spec_l1Cur_among.f l0 t680 t681 y682).bind fun bt685 => (some (t671, t674, t679, bt685.1))) = some (r1, r2, r3, r4) := (qS4 hy682); have Ny682 := za hy682; clear hy682; replace H := zC H; obtain ⟨⟨t685, t686, t687⟩, A40, H⟩ := H; replace H : (some (t671, t674, t679, t685)) = some (r1, r2, r3, r4) := H; have A4 := za A40; clear A40; simp only [yd, ye] at H; obtain ⟨rfl, rfl, rfl, rfl⟩ := H
 go_enter Try.func26, Try.ntmps26
 go_wp2_with (first | ((with_reducible refine zq (N := 11) rfl ?_); refine zB ?hg (N := 11) ?hd (cs := #[.slice A0 l0.length c0, .int .i64 0, .int .u64 0]) (t := 47) ?hr ?_; (case hd | hg => rfl); (case hr => exact (qS26)); intro gb670 hg w5 hbox hb; have GW670 := za (by exact (by rw [hg]; exact (zX (qS0)) : w.heap.size ≤ gb670)); have GE670 := za (by exact (by rw [hg]; exact (zX (qS0)) : w.heap.size ≤ gb670)); have HI670 := za (by exact (show IsS47 w w5 gb670 l0 0 0 from ⟨_, _, hbox, (by rw [hg]; exact (zX (qS0))), HR0.1⟩)); replace HB := za qS64; clear hb hbox hg) | ((with_reducible refine zp (f := 30) rfl ?_); refine zV (some 14) rfl rfl Try.func30 (qS27) rfl #[.pointer (some ⟨gb670, 0, none⟩)] rfl (qS2) ?_; (with_reducible refine (spec_l1Cur_wide.calls k gb670 l0 0 0 t671 t674 t677 t678 w _ ?s1 ?s2 A2.1).mono ?_); (case s1 => exact (qS34)); (case s2 => exact (qS36)); rintro e w6 ⟨v672, v675, rfl, ho0, ho1, hi, hb, hk⟩; refine ⟨_, rfl, ?_⟩; have HO673 := za (zP ho0 (zX (qS36))); have HO676 := za (zP ho1 (zX (qS36))); replace HB := za hb; replace HI670 := za hi; clear hb hk hi ho0 ho1) | ((with_reducible refine zp (f := 31) rfl ?_); refine zV (some 20) rfl rfl Try.func31 (qS27) rfl #[.pointer (some ⟨gb670, 0, none⟩)] rfl (qS2) ?_; (with_reducible refine (spec_l1Cur_stationOf.calls gb670 l0 t677 t678 t679 t680 t681 w _ ?s1 ?s2 A3.1).mono ?_); (case s1 => exact (qS34)); (case s2 => exact (qS36)); rintro e w7 ⟨rfl, hi, hb, hk⟩; refine ⟨_, rfl, ?_⟩; replace HO673 := za (qS107 HO673.1); replace HO676 := za (qS107 HO676.1); replace HB := za hb; replace HI670 := za hi; clear hb hk hi) | ((with_reducible refine zq (N := 22) rfl ?_); refine zQ (Kd.int .i64) _ 3 ?hg (N := 22) ?hd (xs := ([0, 3, 5, 8, 20, 200, 201, (-1)] : List Int)) (inner := [.int .i64 0, .int .i64 3, .int .i64 5, .int .i64 8, .int .i64 20, .int .i64 200, .int .i64 201, .int .i64 (-1)]) (ok := fun _ => True) (okp := fun _ => True) ?hr ?hp (fun _ hk => hk) trivial (zs _ _) (zo _) (by simp) ?_; (case hd | hg => rfl); (case hr => exact (qS26)); (case hp => exact (by exact (zt (show Kd.M (Kd.int .i64) _ _ _ 0 [.int .i64 0] from rfl) (zt (show Kd.M (Kd.int .i64) _ _ _ 3 [.int .i64 3] from rfl) (zt (show Kd.M (Kd.int .i64) _ _ _ 5 [.int .i64 5] from rfl) (zt (show Kd.M (Kd.int .i64) _ _ _ 8 [.int .i64 8] from rfl) (zt (show Kd.M (Kd.int .i64) _ _ _ 20 [.int .i64 20] from rfl) (zt (show Kd.M (Kd.int .i64) _ _ _ 200 [.int .i64 200] from rfl) (zt (show Kd.M (Kd.int .i64) _ _ _ 201 [.int .i64 201] from rfl) (zt (show Kd.M (Kd.int .i64) _ _ _ (-1) [.int .i64 (-1)] from rfl) (zu _ _))))))))))); intro v683 w8 ho9 hb hg_ hnew_; clear hg_ hnew_; (first | rw [← Ny682.1] at ho9 | (simp only [Int.reduceToNat] at ho9; rw [← Ny682.1] at ho9)); replace HO673 := za (qS66 HO673.1); have HO684 := za (zP (Kd.R_new' ho9 (Kd.R_lt (qS1 HO676.1))) (zX (qS36))); replace HO676 := za (qS67 HO676.1 ho9); replace HB := za (zW (qS36) hb); replace HI670 := za (by exact IsS47.below (qS34) hb); clear hb ho9; obtain ⟨Ao10, co10, eo10⟩ := zI HO684.1; subst eo10) | ((with_reducible refine zp (f := 32) rfl ?_); refine zV (some 23) rfl rfl Try.func32 (qS27) rfl #[.pointer (some ⟨gb670, 0, none⟩), .slice Ao10 y682.length co10] rfl (qS2) ?_; (with_reducible refine (spec_l1Cur_among.calls gb670 l0 t680 t681 _ _ y682 t685 t686 t687 w _ ?s1 ?s2 ?s3 ?s4 ?s5 A4.1).mono ?_); (case s1 => exact (qS34)); (case s2 => exact (qS36)); (case s3 => exact (qS7 HO684.1)); (case s4 => exact (qS38 HO684.1)); (case s5 => exact (by exact far_slice (IsS47.own_ne HI670.1 HO684.1 (by decide)))); rintro e w11 ⟨rfl, hi, hb, hk⟩; refine ⟨_, rfl, ?_⟩; replace HO673 := za (qS93 HO673.1); replace HO676 := za (qS93 HO676.1); replace HO684 := za (qS93 HO684.1); replace HB := za hb; replace HI670 := za hi; clear hb hk hi))
 refine bodyPost_ret (results_list (rs := [.tmp 2, .tmp 3, .tmp 4, .tmp 5]) rfl (by simp) (.tmp (.tmp (.tmp (.tmp .nil))))) rfl ?_
 exact ⟨_, _, (qS11), (qS1 HO673.1), (qS32 HO676.1), (qS36)⟩

end Go.Proofs.Ytoljdjgndogegaa.MS
