-- tight2 (a walk)
import Derived.Test.YtkocflfadlempaaMKx0
import Derived.Test.YtkocflfadlempaaMKx7
import Derived.Test.YtkocflfadlempaaMKx8
import Derived.Test.YtkocflfadlempaaMKx9
import Derived.Test.YtkocflfadlempaaMKx12
import Derived.Test.YtkocflfadlempaaMKx6
import Derived.Test.YtkocflfadlempaaMKx13
namespace Go.Proofs.Ytkocflfadlempaa.MK
open Go.RowKit Go.Proofs.YtkocflfadlempaaW.PrintWords Go.Proofs.YtkocflfadlempaaW.PrintLast
set_option maxHeartbeats 8000000
set_option maxRecDepth 100000
attribute [local go_sem] max2_int min2_int max_two min_two
set_option linter.unusedVariables false
set_option linter.unusedSimpArgs false

def impl_WouldConnect.j0 : Nat → List (S72) → Int → Int → Bool → Option (Int × Bool)
 | 0, _, _, _, _ => none
 | k + 1, x0, x1, x2, x25 => if x25 = true then (some (0, false)) else ((impl_together.f x0 x1 x2).bind fun t629 => (if t629 = true then (some (0, true)) else ((impl_caveLength.f x0 x2).bind fun t630 => (some (t630, true)))))
def impl_WouldConnect.f (k : Nat) (l0 : List (S72)) (a1 : Int) (a2 : Int) : Option (Int × Bool) := (impl_areLegs.f k l0).bind fun t626 => (if t626 = true then ((impl_isStation.f a1).bind fun t627 => (if t627 = true then ((impl_isStation.f a2).bind fun t628 => (if t628 = true then (impl_WouldConnect.j0 k l0 a1 a2 (a1 == a2)) else (impl_WouldConnect.j0 k l0 a1 a2 true))) else (impl_WouldConnect.j0 k l0 a1 a2 true))) else (impl_WouldConnect.j0 k l0 a1 a2 true))
theorem impl_WouldConnect.calls (k : Nat) (A0 : Option Addr) (c0 : Nat) (l0 : List (S72)) (a1 : Int) (a2 : Int) (r1 : Int) (r2 : Bool) (w : World) (hr0 : Kd.C k72 w A0 l0.length l0) (hc0 : l0.length ≤ c0) (h : impl_WouldConnect.f k l0 a1 a2 = some (r1, r2)) :
  Calls Try.prog 20 #[.slice A0 l0.length c0, .int .i64 a1, .int .i64 a2] w fun e w' => e = .returned (.tuple #[.int .i64 r1, .bool r2]) ∧ Below w.heap.size w w' := by
 have HR0 := za hr0; have HC0 := za hc0; clear hr0 hc0; have HB := za (zs w.heap.size w); have H : ((impl_areLegs.f k l0).bind fun t626 => (if t626 = true then ((impl_isStation.f a1).bind fun t627 => (if t627 = true then ((impl_isStation.f a2).bind fun t628 => (if t628 = true then (impl_WouldConnect.j0 k l0 a1 a2 (a1 == a2)) else (impl_WouldConnect.j0 k l0 a1 a2 true))) else (impl_WouldConnect.j0 k l0 a1 a2 true))) else (impl_WouldConnect.j0 k l0 a1 a2 true))) = some (r1, r2) := h; clear h; have HC4 := za H; clear H
 go_enter Try.func20, Try.ntmps20
 go_upto_region 1 with (fail)
 go_cut [25] (fun v25 wc => ∃ (kq : Nat) (x25_3 : Bool), v25 = .bool x25_3 ∧ Aside0 (impl_WouldConnect.j0 kq l0 a1 a2 x25_3 = some (r1, r2)) ∧ Aside0 (kq ≤ k) ∧ Aside0 (Below w.heap.size w wc))
 case first =>
  have H := HC4.1; clear HC4; replace H := bindA H; obtain ⟨t626, A5, H⟩ := H; (try dsimp only at H)
  by_cases c6 : t626 = true
  ·subst c6; rw [yb rfl] at H; replace H := bindA H; obtain ⟨t627, A7, H⟩ := H; (try dsimp only at H)
   by_cases c8 : t627 = true
   ·subst c8; rw [yb rfl] at H; replace H := bindA H; obtain ⟨t628, A9, H⟩ := H; (try dsimp only at H)
    by_cases c10 : t628 = true
    ·subst c10; rw [yb rfl] at H; have H' := za H; clear H
     go_wp2_with (first | ((with_reducible refine zp (f := 25) rfl ?_); refine zV (some 9) rfl rfl Try.func25 (qK25) rfl #[.slice A0 l0.length c0] rfl (qK2) ?_; (with_reducible refine (impl_areLegs.calls k _ _ l0 true _ ?s1 ?s2 A5.1).mono ?_); (case s1 => exact (qK9 HR0.1)); (case s2 => exact HC0.1); rintro e w11 ⟨rfl, hb⟩; refine ⟨_, rfl, ?_⟩; replace HB := za qK73; clear hb) | (go_at_call 30; (with_reducible refine (impl_isStation.calls a1 true _ A7.1).mono ?_); rintro e w' ⟨rfl, ⟨nd, rfl⟩⟩) | (go_at_call 30; (with_reducible refine (impl_isStation.calls a2 true _ A9.1).mono ?_); rintro e w' ⟨rfl, ⟨nd, rfl⟩⟩))
     go_meet
     case rel => exact ⟨_, ((a1 == a2)), (qK10), H', ⟨by first | omega | exact zo _⟩, ⟨(qK0)⟩⟩
    ·replace c10 := zn c10; subst c10; rw [yc (show ¬ (false = true) by decide)] at H; have H' := za H; clear H
     go_wp2_with (first | ((with_reducible refine zp (f := 25) rfl ?_); refine zV (some 9) rfl rfl Try.func25 (qK25) rfl #[.slice A0 l0.length c0] rfl (qK2) ?_; (with_reducible refine (impl_areLegs.calls k _ _ l0 true _ ?s1 ?s2 A5.1).mono ?_); (case s1 => exact (qK9 HR0.1)); (case s2 => exact HC0.1); rintro e w12 ⟨rfl, hb⟩; refine ⟨_, rfl, ?_⟩; replace HB := za qK73; clear hb) | (go_at_call 30; (with_reducible refine (impl_isStation.calls a1 true _ A7.1).mono ?_); rintro e w' ⟨rfl, ⟨nd, rfl⟩⟩) | (go_at_call 30; (with_reducible refine (impl_isStation.calls a2 false _ A9.1).mono ?_); rintro e w' ⟨rfl, ⟨nd, rfl⟩⟩))
     go_meet
     case rel => exact ⟨_, (true), (qK10), H', ⟨by first | omega | exact zo _⟩, ⟨(qK0)⟩⟩
   ·replace c8 := zn c8; subst c8; rw [yc (show ¬ (false = true) by decide)] at H; have H' := za H; clear H
    go_wp2_with (first | ((with_reducible refine zp (f := 25) rfl ?_); refine zV (some 9) rfl rfl Try.func25 (qK25) rfl #[.slice A0 l0.length c0] rfl (qK2) ?_; (with_reducible refine (impl_areLegs.calls k _ _ l0 true _ ?s1 ?s2 A5.1).mono ?_); (case s1 => exact (qK9 HR0.1)); (case s2 => exact HC0.1); rintro e w13 ⟨rfl, hb⟩; refine ⟨_, rfl, ?_⟩; replace HB := za qK73; clear hb) | (go_at_call 30; (with_reducible refine (impl_isStation.calls a1 false _ A7.1).mono ?_); rintro e w' ⟨rfl, ⟨nd, rfl⟩⟩))
    go_meet
    case rel => exact ⟨_, (true), (qK10), H', ⟨by first | omega | exact zo _⟩, ⟨(qK0)⟩⟩
  ·replace c6 := zn c6; subst c6; rw [yc (show ¬ (false = true) by decide)] at H; have H' := za H; clear H
   go_wp2_with (first | ((with_reducible refine zp (f := 25) rfl ?_); refine zV (some 9) rfl rfl Try.func25 (qK25) rfl #[.slice A0 l0.length c0] rfl (qK2) ?_; (with_reducible refine (impl_areLegs.calls k _ _ l0 false _ ?s1 ?s2 A5.1).mono ?_); (case s1 => exact (qK9 HR0.1)); (case s2 => exact HC0.1); rintro e w14 ⟨rfl, hb⟩; refine ⟨_, rfl, ?_⟩; replace HB := za qK73; clear hb))
   go_meet
   case rel => exact ⟨_, (true), (qK10), H', ⟨by first | omega | exact zo _⟩, ⟨(qK0)⟩⟩
 case rest =>
  clear HC4; (try clear c1); (try clear c2); (try clear p2); (try clear c6); (try clear c8); (try clear c10); obtain ⟨kq, x25_3, rfl, HA, HJ3, HB⟩ := hcut
  cases kq with
  | zero => exact absurd HA.1 (by simp [impl_WouldConnect.j0])
  | succ kj3 =>
   have H := HA.1; clear HA; simp only [impl_WouldConnect.j0] at H
   by_cases c15 : x25_3 = true
   ·subst c15; rw [yb rfl] at H; simp only [yd, ye] at H; obtain ⟨rfl, rfl⟩ := H
    go_wp2
    go_ret2
    exact ⟨(qK11), (qK0)⟩
   ·replace c15 := zn c15; subst c15; rw [yc (show ¬ (false = true) by decide)] at H; replace H := bindA H; obtain ⟨t629, A16, H⟩ := H; (try dsimp only at H)
    by_cases c17 : t629 = true
    ·subst c17; rw [yb rfl] at H; simp only [yd, ye] at H; obtain ⟨rfl, rfl⟩ := H
     go_wp2_with (first | ((with_reducible refine zp (f := 35) rfl ?_); refine zV (some 29) rfl rfl Try.func35 (qK25) rfl #[.slice A0 l0.length c0, .int .i64 a1, .int .i64 a2] rfl (qK2) ?_; (with_reducible refine (impl_together.calls _ _ l0 a1 a2 true _ ?s1 ?s2 A16.1).mono ?_); (case s1 => exact (qK9 HR0.1)); (case s2 => exact HC0.1); rintro e w18 ⟨rfl, hb⟩; refine ⟨_, rfl, ?_⟩; replace HB := za qK73; clear hb))
     go_ret2
     exact ⟨(qK11), (qK0)⟩
    ·replace c17 := zn c17; subst c17; rw [yc (show ¬ (false = true) by decide)] at H; replace H := zC H; obtain ⟨t630, A190, H⟩ := H; replace H : (some (t630, true)) = some (r1, r2) := H; have A19 := za A190; clear A190; simp only [yd, ye] at H; obtain ⟨rfl, rfl⟩ := H
     go_wp2_with (first | ((with_reducible refine zp (f := 35) rfl ?_); refine zV (some 29) rfl rfl Try.func35 (qK25) rfl #[.slice A0 l0.length c0, .int .i64 a1, .int .i64 a2] rfl (qK2) ?_; (with_reducible refine (impl_together.calls _ _ l0 a1 a2 false _ ?s1 ?s2 A16.1).mono ?_); (case s1 => exact (qK9 HR0.1)); (case s2 => exact HC0.1); rintro e w20 ⟨rfl, hb⟩; refine ⟨_, rfl, ?_⟩; replace HB := za qK73; clear hb) | ((with_reducible refine zp (f := 31) rfl ?_); refine zV (some 32) rfl rfl Try.func31 (qK25) rfl #[.slice A0 l0.length c0, .int .i64 a2] rfl (qK2) ?_; (with_reducible refine (impl_caveLength.calls _ _ l0 a2 t630 _ ?s1 ?s2 A19.1).mono ?_); (case s1 => exact (qK9 HR0.1)); (case s2 => exact HC0.1); rintro e w21 ⟨rfl, hb⟩; refine ⟨_, rfl, ?_⟩; replace HB := za qK73; clear hb))
     go_ret2
     exact ⟨(qK11), (qK0)⟩

def spec_l17Length.l0 : Nat → List (S72) → List Int → Int → Int → Option (Int)
 | 0, _, _, _, _ => none
 | k + 1, x0, x5, x6, x7 => if x7 < (x0.length : Int) then (if 0 ≤ x7 then ((spec_l1Has.f k x5 ((rd_T72 x0 x7).f0)).bind fun t635 => (if t635 = true then (spec_l17Length.l0 k x0 x5 (wrap64 (x6 + ((rd_T72 x0 x7).f2))) (wrap64 (x7 + 1))) else (spec_l17Length.l0 k x0 x5 x6 (wrap64 (x7 + 1))))) else (none)) else (some x6)
def spec_l17Length.f (k : Nat) (l0 : List (S72)) (a1 : Int) : Option (Int) := (spec_l17Cave.f k l0 a1 (-1)).bind fun t631 => (spec_l17Length.l0 k l0 t631 0 0)
theorem spec_l17Length.calls (k : Nat) (A0 : Option Addr) (c0 : Nat) (l0 : List (S72)) (a1 : Int) (r : Int) (w : World) (hr0 : Kd.C k72 w A0 l0.length l0) (hc0 : l0.length ≤ c0) (h : spec_l17Length.f k l0 a1 = some r) :
  Calls Try.prog 45 #[.slice A0 l0.length c0, .int .i64 a1] w fun e w' => e = .returned (.int .i64 r) ∧ Below w.heap.size w w' := by
 have HR0 := za hr0; have HC0 := za hc0; clear hr0 hc0; have HB := za (zs w.heap.size w); have H : ((spec_l17Cave.f k l0 a1 (-1)).bind fun t631 => (spec_l17Length.l0 k l0 t631 0 0)) = some r := h; clear h; replace H := zC H; obtain ⟨t631, A30, H⟩ := H; replace H : (spec_l17Length.l0 k l0 t631 0 0) = some r := H; have A3 := za A30; clear A30; have H' := za H; clear H
 go_enter Try.func45, Try.ntmps45
 go_wp2_with (first | ((with_reducible refine zp (f := 37) rfl ?_); refine zV (some 10) rfl rfl Try.func37 (qK25) rfl #[.slice A0 l0.length c0, .int .i64 a1, .int .i64 (-1)] rfl (qK2) ?_; (with_reducible refine (spec_l17Cave.calls k _ _ l0 a1 (-1) t631 _ ?s1 ?s2 A3.1).mono ?_); (case s1 => exact (qK21 HR0.1)); (case s2 => exact HC0.1); rintro e w4 ⟨v632, rfl, ho0, hb⟩; refine ⟨_, rfl, ?_⟩; have HO633 := za (qK80 ho0); replace HB := za qK73; clear hb ho0))
 go_loopg [6, 7] k (fun kq v6 v7 w' => ∃ (x6_1 : Int) (x7_1 : Int), v6 = .int .i64 x6_1 ∧ v7 = .int .i64 x7_1 ∧ Aside0 (spec_l17Length.l0 kq l0 t631 x6_1 x7_1 = some r) ∧ Aside0 (kq ≤ k) ∧ Aside0 (Kd.R (Kd.int .i64) 3 w' w.heap.size (fun _ => True) v632 t631) ∧ Aside0 (Below w.heap.size w w'))
 case atStart => exact ⟨(0), (0), (qK10), (qK10), H', ⟨zo _⟩, ⟨(qK1 HO633.1)⟩, ⟨(qK0)⟩⟩
 case round =>
  clear H'; (try clear p2); (try clear c3); (try clear c4); obtain ⟨x6_1, x7_1, rfl, rfl, HA, HK1, HO_5, HB⟩ := hrel
  cases gk with
  | zero => exact absurd HA.1 (by simp [spec_l17Length.l0])
  | succ k1 =>
   have H := HA.1; clear HA; simp only [spec_l17Length.l0] at H
   by_cases c5 : x7_1 < (l0.length : Int)
   ·rw [yb c5] at H; have c5b0 : decide (x7_1 < (l0.length : Int)) = true := zc c5; clear c5
    by_cases c6 : 0 ≤ x7_1
    ·rw [yb c6] at H; have c6b0 : decide (0 ≤ x7_1) = true := zc c6; clear c6; replace H := bindA H; obtain ⟨t635, A7, H⟩ := H; (try dsimp only at H)
     by_cases c8 : t635 = true
     ·subst c8; rw [yb rfl] at H; have H' := za H; clear H; have p634 : 0 ≤ (x7_1 : Int) := zb (qK7); have q634 : x7_1 < (l0.length : Int) := zb (qK7); obtain ⟨ad634, e634, hx634_0, hx634_1, hx634_2, hx634_3, hx634_4⟩ := at_T72 HR0.1 x7_1 p634 q634; cases e634; replace hx634_0 := (HB.1.cell (zd w _ hx634_0)).trans hx634_0; replace hx634_1 := (HB.1.cell (zd w _ hx634_1)).trans hx634_1; replace hx634_2 := (HB.1.cell (zd w _ hx634_2)).trans hx634_2; replace hx634_3 := (HB.1.cell (zd w _ hx634_3)).trans hx634_3; replace hx634_4 := (HB.1.cell (zd w _ hx634_4)).trans hx634_4; replace p634 := zw p634; replace q634 := zw q634; obtain ⟨Ao9, co9, eo9⟩ := zI HO_5.1; subst eo9
      go_wp2_with (first | ((with_reducible refine zp (f := 38) rfl ?_); refine zV (some 23) rfl rfl Try.func38 (qK25) rfl #[.slice Ao9 t631.length co9, .int .i64 ((rd_T72 l0 x7_1).f0)] rfl (qK2) ?_; (with_reducible refine (spec_l1Has.calls k1 _ _ t631 ((rd_T72 l0 x7_1).f0) true _ ?s1 ?s2 A7.1).mono ?_); (case s1 => exact (qK13 HO_5.1)); (case s2 => exact (qK35 HO_5.1)); rintro e w' ⟨rfl, ⟨nd, rfl⟩⟩; refine ⟨_, rfl, ?_⟩; have p636 : 0 ≤ (x7_1 : Int) := zb (qK7); have q636 : x7_1 < (l0.length : Int) := zb (qK7); obtain ⟨ad636, e636, hx636_0, hx636_1, hx636_2, hx636_3, hx636_4⟩ := at_T72 HR0.1 x7_1 p636 q636; obtain rfl : ad634 = ad636 := (by injection e636); replace hx636_0 := (HB.1.cell (zd w _ hx636_0)).trans hx636_0; replace hx636_1 := (HB.1.cell (zd w _ hx636_1)).trans hx636_1; replace hx636_2 := (HB.1.cell (zd w _ hx636_2)).trans hx636_2; replace hx636_3 := (HB.1.cell (zd w _ hx636_3)).trans hx636_3; replace hx636_4 := (HB.1.cell (zd w _ hx636_4)).trans hx636_4; replace p636 := zw p636; replace q636 := zw q636))
      go_roundg k1
      case measure => have := HK1.1; omega
      case rel => exact ⟨(wrap64 (x6_1 + ((rd_T72 l0 x7_1).f2))), (wrap64 (x7_1 + 1)), (qK10), (qK10), H', ⟨by have := HK1.1; omega⟩, ⟨(qK1 HO_5.1)⟩, ⟨(qK0)⟩⟩
     ·replace c8 := zn c8; subst c8; rw [yc (show ¬ (false = true) by decide)] at H; have H' := za H; clear H; have p634 : 0 ≤ (x7_1 : Int) := zb (qK7); have q634 : x7_1 < (l0.length : Int) := zb (qK7); obtain ⟨ad634, e634, hx634_0, hx634_1, hx634_2, hx634_3, hx634_4⟩ := at_T72 HR0.1 x7_1 p634 q634; cases e634; replace hx634_0 := (HB.1.cell (zd w _ hx634_0)).trans hx634_0; replace hx634_1 := (HB.1.cell (zd w _ hx634_1)).trans hx634_1; replace hx634_2 := (HB.1.cell (zd w _ hx634_2)).trans hx634_2; replace hx634_3 := (HB.1.cell (zd w _ hx634_3)).trans hx634_3; replace hx634_4 := (HB.1.cell (zd w _ hx634_4)).trans hx634_4; replace p634 := zw p634; replace q634 := zw q634; obtain ⟨Ao10, co10, eo10⟩ := zI HO_5.1; subst eo10
      go_wp2_with (first | ((with_reducible refine zp (f := 38) rfl ?_); refine zV (some 23) rfl rfl Try.func38 (qK25) rfl #[.slice Ao10 t631.length co10, .int .i64 ((rd_T72 l0 x7_1).f0)] rfl (qK2) ?_; (with_reducible refine (spec_l1Has.calls k1 _ _ t631 ((rd_T72 l0 x7_1).f0) false _ ?s1 ?s2 A7.1).mono ?_); (case s1 => exact (qK13 HO_5.1)); (case s2 => exact (qK35 HO_5.1)); rintro e w' ⟨rfl, ⟨nd, rfl⟩⟩; refine ⟨_, rfl, ?_⟩))
      go_roundg k1
      case measure => have := HK1.1; omega
      case rel => exact ⟨(x6_1), (wrap64 (x7_1 + 1)), (qK10), (qK10), H', ⟨by have := HK1.1; omega⟩, ⟨(qK1 HO_5.1)⟩, ⟨(qK0)⟩⟩
    ·rw [yc c6] at H
     exact absurd H (by simp)
   ·rw [yc c5] at H; have c5b0 : decide (x7_1 < (l0.length : Int)) = false := zv c5; clear c5; obtain rfl := zm H
    go_wp2
    go_ret
    exact ⟨(qK11), (qK0)⟩

def spec_WouldConnect.j0 : Nat → List (S72) → Int → Int → Bool → Option (Int × Bool)
 | 0, _, _, _, _ => none
 | k + 1, x0, x1, x2, x25 => if x25 = true then (some (0, false)) else ((spec_l17Cave.f k x0 x1 (-1)).bind fun t640 => ((spec_l1Has.f k t640 x2).bind fun t643 => (if t643 = true then (some (0, true)) else ((spec_l17Length.f k x0 x2).bind fun t644 => (some (t644, true))))))
def spec_WouldConnect.f (k : Nat) (l0 : List (S72)) (a1 : Int) (a2 : Int) : Option (Int × Bool) := (spec_l4Legs.f k l0).bind fun t637 => (if t637 = true then ((spec_l4Station.f a1).bind fun t638 => (if t638 = true then ((spec_l4Station.f a2).bind fun t639 => (if t639 = true then (spec_WouldConnect.j0 k l0 a1 a2 (a1 == a2)) else (spec_WouldConnect.j0 k l0 a1 a2 true))) else (spec_WouldConnect.j0 k l0 a1 a2 true))) else (spec_WouldConnect.j0 k l0 a1 a2 true))
theorem spec_WouldConnect.calls (k : Nat) (A0 : Option Addr) (c0 : Nat) (l0 : List (S72)) (a1 : Int) (a2 : Int) (r1 : Int) (r2 : Bool) (w : World) (hr0 : Kd.C k72 w A0 l0.length l0) (hc0 : l0.length ≤ c0) (h : spec_WouldConnect.f k l0 a1 a2 = some (r1, r2)) :
  Calls Try.prog 21 #[.slice A0 l0.length c0, .int .i64 a1, .int .i64 a2] w fun e w' => e = .returned (.tuple #[.int .i64 r1, .bool r2]) ∧ Below w.heap.size w w' := by
 have HR0 := za hr0; have HC0 := za hc0; clear hr0 hc0; have HB := za (zs w.heap.size w); have H : ((spec_l4Legs.f k l0).bind fun t637 => (if t637 = true then ((spec_l4Station.f a1).bind fun t638 => (if t638 = true then ((spec_l4Station.f a2).bind fun t639 => (if t639 = true then (spec_WouldConnect.j0 k l0 a1 a2 (a1 == a2)) else (spec_WouldConnect.j0 k l0 a1 a2 true))) else (spec_WouldConnect.j0 k l0 a1 a2 true))) else (spec_WouldConnect.j0 k l0 a1 a2 true))) = some (r1, r2) := h; clear h; have HC4 := za H; clear H
 go_enter Try.func21, Try.ntmps21
 go_upto_region 1 with (fail)
 go_cut [25] (fun v25 wc => ∃ (kq : Nat) (x25_3 : Bool), v25 = .bool x25_3 ∧ Aside0 (spec_WouldConnect.j0 kq l0 a1 a2 x25_3 = some (r1, r2)) ∧ Aside0 (kq ≤ k) ∧ Aside0 (Below w.heap.size w wc))
 case first =>
  have H := HC4.1; clear HC4; replace H := bindA H; obtain ⟨t637, A5, H⟩ := H; (try dsimp only at H)
  by_cases c6 : t637 = true
  ·subst c6; rw [yb rfl] at H; replace H := bindA H; obtain ⟨t638, A7, H⟩ := H; (try dsimp only at H)
   by_cases c8 : t638 = true
   ·subst c8; rw [yb rfl] at H; replace H := bindA H; obtain ⟨t639, A9, H⟩ := H; (try dsimp only at H)
    by_cases c10 : t639 = true
    ·subst c10; rw [yb rfl] at H; have H' := za H; clear H
     go_wp2_with (first | ((with_reducible refine zp (f := 27) rfl ?_); refine zV (some 9) rfl rfl Try.func27 (qK25) rfl #[.slice A0 l0.length c0] rfl (qK2) ?_; (with_reducible refine (spec_l4Legs.calls k _ _ l0 true _ ?s1 ?s2 A5.1).mono ?_); (case s1 => exact (qK9 HR0.1)); (case s2 => exact HC0.1); rintro e w11 ⟨rfl, hb⟩; refine ⟨_, rfl, ?_⟩; replace HB := za qK73; clear hb) | (go_at_call 44; (with_reducible refine (spec_l4Station.calls a1 true _ A7.1).mono ?_); rintro e w' ⟨rfl, ⟨nd, rfl⟩⟩) | (go_at_call 44; (with_reducible refine (spec_l4Station.calls a2 true _ A9.1).mono ?_); rintro e w' ⟨rfl, ⟨nd, rfl⟩⟩))
     go_meet
     case rel => exact ⟨_, ((a1 == a2)), (qK10), H', ⟨by first | omega | exact zo _⟩, ⟨(qK0)⟩⟩
    ·replace c10 := zn c10; subst c10; rw [yc (show ¬ (false = true) by decide)] at H; have H' := za H; clear H
     go_wp2_with (first | ((with_reducible refine zp (f := 27) rfl ?_); refine zV (some 9) rfl rfl Try.func27 (qK25) rfl #[.slice A0 l0.length c0] rfl (qK2) ?_; (with_reducible refine (spec_l4Legs.calls k _ _ l0 true _ ?s1 ?s2 A5.1).mono ?_); (case s1 => exact (qK9 HR0.1)); (case s2 => exact HC0.1); rintro e w12 ⟨rfl, hb⟩; refine ⟨_, rfl, ?_⟩; replace HB := za qK73; clear hb) | (go_at_call 44; (with_reducible refine (spec_l4Station.calls a1 true _ A7.1).mono ?_); rintro e w' ⟨rfl, ⟨nd, rfl⟩⟩) | (go_at_call 44; (with_reducible refine (spec_l4Station.calls a2 false _ A9.1).mono ?_); rintro e w' ⟨rfl, ⟨nd, rfl⟩⟩))
     go_meet
     case rel => exact ⟨_, (true), (qK10), H', ⟨by first | omega | exact zo _⟩, ⟨(qK0)⟩⟩
   ·replace c8 := zn c8; subst c8; rw [yc (show ¬ (false = true) by decide)] at H; have H' := za H; clear H
    go_wp2_with (first | ((with_reducible refine zp (f := 27) rfl ?_); refine zV (some 9) rfl rfl Try.func27 (qK25) rfl #[.slice A0 l0.length c0] rfl (qK2) ?_; (with_reducible refine (spec_l4Legs.calls k _ _ l0 true _ ?s1 ?s2 A5.1).mono ?_); (case s1 => exact (qK9 HR0.1)); (case s2 => exact HC0.1); rintro e w13 ⟨rfl, hb⟩; refine ⟨_, rfl, ?_⟩; replace HB := za qK73; clear hb) | (go_at_call 44; (with_reducible refine (spec_l4Station.calls a1 false _ A7.1).mono ?_); rintro e w' ⟨rfl, ⟨nd, rfl⟩⟩))
    go_meet
    case rel => exact ⟨_, (true), (qK10), H', ⟨by first | omega | exact zo _⟩, ⟨(qK0)⟩⟩
  ·replace c6 := zn c6; subst c6; rw [yc (show ¬ (false = true) by decide)] at H; have H' := za H; clear H
   go_wp2_with (first | ((with_reducible refine zp (f := 27) rfl ?_); refine zV (some 9) rfl rfl Try.func27 (qK25) rfl #[.slice A0 l0.length c0] rfl (qK2) ?_; (with_reducible refine (spec_l4Legs.calls k _ _ l0 false _ ?s1 ?s2 A5.1).mono ?_); (case s1 => exact (qK9 HR0.1)); (case s2 => exact HC0.1); rintro e w14 ⟨rfl, hb⟩; refine ⟨_, rfl, ?_⟩; replace HB := za qK73; clear hb))
   go_meet
   case rel => exact ⟨_, (true), (qK10), H', ⟨by first | omega | exact zo _⟩, ⟨(qK0)⟩⟩
 case rest =>
  clear HC4; (try clear c1); (try clear c2); (try clear p2); (try clear c6); (try clear c8); (try clear c10); obtain ⟨kq, x25_3, rfl, HA, HJ3, HB⟩ := hcut
  cases kq with
  | zero => exact absurd HA.1 (by simp [spec_WouldConnect.j0])
  | succ kj3 =>
   have H := HA.1; clear HA; simp only [spec_WouldConnect.j0] at H
   by_cases c15 : x25_3 = true
   ·subst c15; rw [yb rfl] at H; simp only [yd, ye] at H; obtain ⟨rfl, rfl⟩ := H
    go_wp2
    go_ret2
    exact ⟨(qK11), (qK0)⟩
   ·replace c15 := zn c15; subst c15; rw [yc (show ¬ (false = true) by decide)] at H; replace H := bindA H; obtain ⟨t640, A16, H⟩ := H; (try dsimp only at H); replace H := bindA H; obtain ⟨t643, A17, H⟩ := H; (try dsimp only at H)
    by_cases c18 : t643 = true
    ·subst c18; rw [yb rfl] at H; simp only [yd, ye] at H; obtain ⟨rfl, rfl⟩ := H
     go_wp2_with (first | ((with_reducible refine zp (f := 37) rfl ?_); refine zV (some 28) rfl rfl Try.func37 (qK25) rfl #[.slice A0 l0.length c0, .int .i64 a1, .int .i64 (-1)] rfl (qK2) ?_; (with_reducible refine (spec_l17Cave.calls kj3 _ _ l0 a1 (-1) t640 _ ?s1 ?s2 A16.1).mono ?_); (case s1 => exact (qK9 HR0.1)); (case s2 => exact HC0.1); rintro e w19 ⟨v641, rfl, ho0, hb⟩; refine ⟨_, rfl, ?_⟩; have HO642 := za (qK80 ho0); replace HB := za qK73; clear hb ho0; obtain ⟨Ao20, co20, eo20⟩ := zI HO642.1; subst eo20) | ((with_reducible refine zp (f := 38) rfl ?_); refine zV (some 30) rfl rfl Try.func38 (qK25) rfl #[.slice Ao20 t640.length co20, .int .i64 a2] rfl (qK2) ?_; (with_reducible refine (spec_l1Has.calls kj3 _ _ t640 a2 true _ ?s1 ?s2 A17.1).mono ?_); (case s1 => exact (qK13 HO642.1)); (case s2 => exact (qK35 HO642.1)); rintro e w' ⟨rfl, ⟨nd, rfl⟩⟩; refine ⟨_, rfl, ?_⟩))
     go_ret2
     exact ⟨(qK11), (qK0)⟩
    ·replace c18 := zn c18; subst c18; rw [yc (show ¬ (false = true) by decide)] at H; replace H := zC H; obtain ⟨t644, A210, H⟩ := H; replace H : (some (t644, true)) = some (r1, r2) := H; have A21 := za A210; clear A210; simp only [yd, ye] at H; obtain ⟨rfl, rfl⟩ := H
     go_wp2_with (first | ((with_reducible refine zp (f := 37) rfl ?_); refine zV (some 28) rfl rfl Try.func37 (qK25) rfl #[.slice A0 l0.length c0, .int .i64 a1, .int .i64 (-1)] rfl (qK2) ?_; (with_reducible refine (spec_l17Cave.calls kj3 _ _ l0 a1 (-1) t640 _ ?s1 ?s2 A16.1).mono ?_); (case s1 => exact (qK9 HR0.1)); (case s2 => exact HC0.1); rintro e w22 ⟨v641, rfl, ho0, hb⟩; refine ⟨_, rfl, ?_⟩; have HO642 := za (qK80 ho0); replace HB := za qK73; clear hb ho0; obtain ⟨Ao23, co23, eo23⟩ := zI HO642.1; subst eo23) | ((with_reducible refine zp (f := 38) rfl ?_); refine zV (some 30) rfl rfl Try.func38 (qK25) rfl #[.slice Ao23 t640.length co23, .int .i64 a2] rfl (qK2) ?_; (with_reducible refine (spec_l1Has.calls kj3 _ _ t640 a2 false _ ?s1 ?s2 A17.1).mono ?_); (case s1 => exact (qK13 HO642.1)); (case s2 => exact (qK35 HO642.1)); rintro e w' ⟨rfl, ⟨nd, rfl⟩⟩; refine ⟨_, rfl, ?_⟩) | ((with_reducible refine zp (f := 45) rfl ?_); refine zV (some 33) rfl rfl Try.func45 (qK25) rfl #[.slice A0 l0.length c0, .int .i64 a2] rfl (qK2) ?_; (with_reducible refine (spec_l17Length.calls kj3 _ _ l0 a2 t644 _ ?s1 ?s2 A21.1).mono ?_); (case s1 => exact (qK92)); (case s2 => exact HC0.1); rintro e w24 ⟨rfl, hb⟩; refine ⟨_, rfl, ?_⟩; replace HO642 := za (qK75 HO642.1); replace HB := za qK73; clear hb))
     go_ret2
     exact ⟨(qK11), (qK0)⟩

def spec_DrawCaveLength.f (k : Nat) (l0 : List Int) : Option ((List (S72)) × Int) := (spec_l1Cur_caves.f k l0 0 0).bind fun bt646 => ((spec_l1Cur_stationOf.f l0 bt646.2.1 bt646.2.2).bind fun bt651 => (some (bt646.1, bt651.1)))
set_option maxHeartbeats 8000000 in
set_option maxRecDepth 100000 in
theorem spec_DrawCaveLength.calls (k : Nat) (A0 : Option Addr) (c0 : Nat) (l0 : List Int) (r1 : List (S72)) (r2 : Int) (w : World) (hr0 : Kd.C (Kd.int .u8) w A0 l0.length l0) (hc0 : l0.length ≤ c0) (h : spec_DrawCaveLength.f k l0 = some (r1, r2)) :
  Calls Try.prog 22 #[.slice A0 l0.length c0] w fun e w' => ∃ v0_ : Value, e = .returned (.tuple #[v0_, .int .i64 r2]) ∧ Kd.R k72 72 w' w.heap.size (fun _ => True) v0_ r1 ∧ Below w.heap.size w w' := by
 have hu54 := Try.underlying54; have HR0 := za hr0; have HC0 := za hc0; clear hr0 hc0; have HB := za (zs w.heap.size w); have H : ((spec_l1Cur_caves.f k l0 0 0).bind fun bt646 => ((spec_l1Cur_stationOf.f l0 bt646.2.1 bt646.2.2).bind fun bt651 => (some (bt646.1, bt651.1)))) = some (r1, r2) := h; clear h; replace H := bindA H; obtain ⟨⟨t646, t649, t650⟩, A2, H⟩ := H; (try dsimp only at H); replace H := zC H; obtain ⟨⟨t651, t652, t653⟩, A30, H⟩ := H; replace H : (some (t646, t651)) = some (r1, r2) := H; have A3 := za A30; clear A30; simp only [yd, ye] at H; obtain ⟨rfl, rfl⟩ := H
 go_enter Try.func22, Try.ntmps22
 go_wp2_with (first | ((with_reducible refine zq (N := 7) rfl ?_); refine zB ?hg (N := 7) ?hd (cs := #[.slice A0 l0.length c0, .int .i64 0, .int .u64 0]) (t := 54) ?hr ?_; (case hd | hg => rfl); (case hr => exact (qK23)); intro gb645 hg w4 hbox hb; have GW645 := za (by exact (by rw [hg]; exact (zX (qK0)) : w.heap.size ≤ gb645)); have GE645 := za (by exact (by rw [hg]; exact (zX (qK0)) : w.heap.size ≤ gb645)); have HI645 := za (by exact (show IsS54 w w4 gb645 l0 0 0 from ⟨_, _, hbox, (qK114), HR0.1⟩)); replace HB := za qK73; clear hb hbox hg) | ((with_reducible refine zp (f := 24) rfl ?_); refine zV (some 9) rfl rfl Try.func24 (qK25) rfl #[.pointer (some ⟨gb645, 0, none⟩)] rfl (qK2) ?_; (with_reducible refine (spec_l1Cur_caves.calls k gb645 l0 0 0 t646 t649 t650 w _ ?s1 ?s2 A2.1).mono ?_); (case s1 => exact (qK56)); (case s2 => exact (qK47)); rintro e w5 ⟨v647, rfl, ho0, hi, hb, hk⟩; refine ⟨_, rfl, ?_⟩; have HO648 := za (zP ho0 (zX (qK47))); replace HB := za hb; replace HI645 := za hi; clear hb hk hi ho0) | ((with_reducible refine zp (f := 43) rfl ?_); refine zV (some 11) rfl rfl Try.func43 (qK25) rfl #[.pointer (some ⟨gb645, 0, none⟩)] rfl (qK2) ?_; (with_reducible refine (spec_l1Cur_stationOf.calls gb645 l0 t649 t650 t651 t652 t653 w _ ?s1 ?s2 A3.1).mono ?_); (case s1 => exact (qK56)); (case s2 => exact (qK47)); rintro e w6 ⟨rfl, hi, hb, hk⟩; refine ⟨_, rfl, ?_⟩; replace HO648 := za (by exact zK (zN (IsS54.apart (show IsS54 w _ gb645 l0 t649 t650 from (qK56)) (qK1 HO648.1) (by decide)) hk (fun _ h => h.2)) (fun _ h => h.1)); replace HB := za hb; replace HI645 := za hi; clear hb hk hi))
 go_ret2
 exact ⟨_, (qK11), (qK1 HO648.1), (qK47)⟩

def spec_CaveLength.f (k : Nat) (l0 : List (S72)) (a1 : Int) : Option (Int × Bool) := (spec_l4Legs.f k l0).bind fun t654 => (if t654 = true then ((spec_l4Station.f a1).bind fun t655 => (if t655 = true then ((spec_l17Length.f k l0 a1).bind fun t656 => (some (t656, true))) else (some (0, false)))) else (some (0, false)))
set_option maxHeartbeats 8000000 in
set_option maxRecDepth 100000 in
theorem spec_CaveLength.calls (k : Nat) (A0 : Option Addr) (c0 : Nat) (l0 : List (S72)) (a1 : Int) (r1 : Int) (r2 : Bool) (w : World) (hr0 : Kd.C k72 w A0 l0.length l0) (hc0 : l0.length ≤ c0) (h : spec_CaveLength.f k l0 a1 = some (r1, r2)) :
  Calls Try.prog 23 #[.slice A0 l0.length c0, .int .i64 a1] w fun e w' => e = .returned (.tuple #[.int .i64 r1, .bool r2]) ∧ Below w.heap.size w w' := by
 have HR0 := za hr0; have HC0 := za hc0; clear hr0 hc0; have HB := za (zs w.heap.size w); have H : ((spec_l4Legs.f k l0).bind fun t654 => (if t654 = true then ((spec_l4Station.f a1).bind fun t655 => (if t655 = true then ((spec_l17Length.f k l0 a1).bind fun t656 => (some (t656, true))) else (some (0, false)))) else (some (0, false)))) = some (r1, r2) := h; clear h; replace H := bindA H; obtain ⟨t654, A3, H⟩ := H; (try dsimp only at H)
 by_cases c4 : t654 = true
 ·subst c4; rw [yb rfl] at H; replace H := bindA H; obtain ⟨t655, A5, H⟩ := H; (try dsimp only at H)
  by_cases c6 : t655 = true
  ·subst c6; rw [yb rfl] at H; replace H := zC H; obtain ⟨t656, A70, H⟩ := H; replace H : (some (t656, true)) = some (r1, r2) := H; have A7 := za A70; clear A70; simp only [yd, ye] at H; obtain ⟨rfl, rfl⟩ := H
   go_enter Try.func23, Try.ntmps23
   go_wp2_with (first | ((with_reducible refine zp (f := 27) rfl ?_); refine zV (some 7) rfl rfl Try.func27 (qK25) rfl #[.slice A0 l0.length c0] rfl (qK2) ?_; (with_reducible refine (spec_l4Legs.calls k _ _ l0 true _ ?s1 ?s2 A3.1).mono ?_); (case s1 => exact (qK21 HR0.1)); (case s2 => exact HC0.1); rintro e w8 ⟨rfl, hb⟩; refine ⟨_, rfl, ?_⟩; replace HB := za qK73; clear hb) | (go_at_call 44; (with_reducible refine (spec_l4Station.calls a1 true _ A5.1).mono ?_); rintro e w' ⟨rfl, ⟨nd, rfl⟩⟩) | ((with_reducible refine zp (f := 45) rfl ?_); refine zV (some 16) rfl rfl Try.func45 (qK25) rfl #[.slice A0 l0.length c0, .int .i64 a1] rfl (qK2) ?_; (with_reducible refine (spec_l17Length.calls k _ _ l0 a1 t656 _ ?s1 ?s2 A7.1).mono ?_); (case s1 => exact (qK92)); (case s2 => exact HC0.1); rintro e w9 ⟨rfl, hb⟩; refine ⟨_, rfl, ?_⟩; replace HB := za qK73; clear hb))
   go_ret2
   exact ⟨(qK11), (qK0)⟩
  ·replace c6 := zn c6; subst c6; rw [yc (show ¬ (false = true) by decide)] at H; simp only [yd, ye] at H; obtain ⟨rfl, rfl⟩ := H
   go_enter Try.func23, Try.ntmps23
   go_wp2_with (first | ((with_reducible refine zp (f := 27) rfl ?_); refine zV (some 7) rfl rfl Try.func27 (qK25) rfl #[.slice A0 l0.length c0] rfl (qK2) ?_; (with_reducible refine (spec_l4Legs.calls k _ _ l0 true _ ?s1 ?s2 A3.1).mono ?_); (case s1 => exact (qK21 HR0.1)); (case s2 => exact HC0.1); rintro e w10 ⟨rfl, hb⟩; refine ⟨_, rfl, ?_⟩; replace HB := za qK73; clear hb) | (go_at_call 44; (with_reducible refine (spec_l4Station.calls a1 false _ A5.1).mono ?_); rintro e w' ⟨rfl, ⟨nd, rfl⟩⟩))
   go_ret2
   exact ⟨(qK11), (qK0)⟩
 ·replace c4 := zn c4; subst c4; rw [yc (show ¬ (false = true) by decide)] at H; simp only [yd, ye] at H; obtain ⟨rfl, rfl⟩ := H
  go_enter Try.func23, Try.ntmps23
  go_wp2_with (first | ((with_reducible refine zp (f := 27) rfl ?_); refine zV (some 7) rfl rfl Try.func27 (qK25) rfl #[.slice A0 l0.length c0] rfl (qK2) ?_; (with_reducible refine (spec_l4Legs.calls k _ _ l0 false _ ?s1 ?s2 A3.1).mono ?_); (case s1 => exact (qK21 HR0.1)); (case s2 => exact HC0.1); rintro e w11 ⟨rfl, hb⟩; refine ⟨_, rfl, ?_⟩; replace HB := za qK73; clear hb))
  go_ret2
  exact ⟨(qK11), (qK0)⟩

end Go.Proofs.Ytkocflfadlempaa.MK
